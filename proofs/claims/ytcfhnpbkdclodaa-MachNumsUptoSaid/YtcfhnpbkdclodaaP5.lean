/-
  Parts of the proof, merged: G2, G3, G4, G5, G6, T0.
-/
import Derived.Test.YtcfhnpbkdclodaaP4
set_option linter.unusedVariables false
set_option linter.unusedSimpArgs false
/-
  Equations of the program's functions: by program.
-/
namespace Go.Su
open Go.Proofs
set_option linter.unusedVariables false

noncomputable def code_mach_Machine_read : Code := Try.f21.body.getD .skip
noncomputable def P_mach_Machine_read (R : Orc) (x0 : Nat) (sg : List SObj) : Option (List DV × List SObj) := evP cfg R fl_mach_Machine_read (retR cfg.P Try.f21 sig_mach_Machine_read) [] code_mach_Machine_read (initSt Try.f21 [(.undef, (.ptr x0 0))] sg)
noncomputable def P_mach_Machine_read_4 (R : Orc) (t0i : Nat) (b3 : DV) (sg : List SObj) : Option (List DV × List SObj) := evP cfg R fl_mach_Machine_read (retR cfg.P Try.f21 sig_mach_Machine_read) [true, true, true, false, true, false] code_mach_Machine_read ⟨spread .undef 130 0 [], spread .val 130 0 [(0, (.ptr t0i 0)), (3, (.loc 3 0))], spread none 130 0 [(3, some [((proj 0 b3), .val), ((proj 1 b3), .val), ((proj 2 b3), .val), ((proj 3 b3), .val), ((proj 4 b3), .val), ((proj 5 b3), .val), ((proj 6 b3), .val), ((proj 7 b3), .val), ((proj 8 b3), .val)])], sg⟩
noncomputable def P_mach_Machine_read_14 (R : Orc) (t0i : Nat) (b3_0 : DV) (b3_1 : DV) (b3_2 : DV) (b3_3 : DV) (b3_4 : DV) (b3_5 : DV) (b3_6 : DV) (b3_7 : DV) (b3_8 : DV) (sg : List SObj) : Option (List DV × List SObj) := evP cfg R fl_mach_Machine_read (retR cfg.P Try.f21 sig_mach_Machine_read) [true, true, true, true] code_mach_Machine_read ⟨spread .undef 130 0 [], spread .val 130 0 [(0, (.ptr t0i 0)), (3, (.loc 3 0))], spread none 130 0 [(3, some [(b3_0, .val), (b3_1, .val), (b3_2, .val), (b3_3, .val), (b3_4, .val), (b3_5, .val), (b3_6, .val), (b3_7, .val), (b3_8, .val)])], sg⟩
noncomputable def P_mach_Machine_read_8 (R : Orc) (t0i : Nat) (b3_0 : DV) (b3_1 : DV) (b3_2 : DV) (b3_3 : DV) (b3_4 : DV) (b3_5 : DV) (b3_6 : DV) (b3_7 : DV) (b3_8 : DV) (sg : List SObj) : Option (List DV × List SObj) := evP cfg R fl_mach_Machine_read (retR cfg.P Try.f21 sig_mach_Machine_read) [true, true, true, false, true, false, true] code_mach_Machine_read ⟨spread .undef 130 0 [], spread .val 130 0 [(0, (.ptr t0i 0)), (3, (.loc 3 0))], spread none 130 0 [(3, some [(b3_0, .val), (b3_1, .val), (b3_2, .val), (b3_3, .val), (b3_4, .val), (b3_5, .val), (b3_6, .val), (b3_7, .val), (b3_8, .val)])], sg⟩
noncomputable def P_mach_Machine_read_17 (R : Orc) (t0i : Nat) (b8_0 : DV) (b8_1 : DV) (b8_2 : DV) (b8_3 : DV) (b8_4 : DV) (b8_5 : DV) (b8_6 : DV) (b8_7 : DV) (b8_8 : DV) (sg : List SObj) : Option (List DV × List SObj) := evP cfg R fl_mach_Machine_read (retR cfg.P Try.f21 sig_mach_Machine_read) [true, true, true, true, true, true] code_mach_Machine_read ⟨spread .undef 130 0 [], spread .val 130 0 [(0, (.ptr t0i 0)), (8, (.loc 8 0))], spread none 130 0 [(8, some [(b8_0, .val), (b8_1, .val), (b8_2, .val), (b8_3, .val), (b8_4, .val), (b8_5, .val), (b8_6, .val), (b8_7, .val), (b8_8, .val)])], sg⟩
theorem eq_mach_Machine_read (R : Orc) (x0 : Nat) (sg : List SObj) : P_mach_Machine_read R x0 sg =
  (ob (sgBox sg x0) fun c1 =>
  ob (cellDat c1 52) fun d2 =>
  ob (dLen d2) fun d3 =>
  ob (dBin .sub d3 (.int .i64 1)) fun d4 =>
  ob (sgBox sg x0) fun c5 =>
  ob (cellDat c5 52) fun d6 =>
  ob (dIdx 9 d6 d4) fun d7 =>
  ob (sgBox sg x0) fun c8 =>
  ob (cellDat c8 52) fun d9 =>
  ob (dSlice 9 d9 none (some d4)) fun d10 =>
  ob (sgBox sg x0) fun c11 =>
  og (isCell d10) <|
  ob (c11[52]?) fun u12 =>
  ob (dBin .eql (proj 0 d7) (.int .i64 5)) fun d13 =>
  ogd d13
   (P_mach_Machine_read_4 R x0 d7 (sg.set x0 (SObj.box (c11.set 52 (d10, .val)))))
   (ob (dBin .eql (proj 0 d7) (.int .i64 7)) fun d14 =>
   oif d14
    (P_mach_Machine_read_4 R x0 d7 (sg.set x0 (SObj.box (c11.set 52 (d10, .val)))))
    (P_mach_Machine_read_14 R x0 (proj 0 d7) (proj 1 d7) (proj 2 d7) (proj 3 d7) (proj 4 d7) (proj 5 d7) (proj 6 d7) (proj 7 d7) (proj 8 d7) (sg.set x0 (SObj.box (c11.set 52 (d10, .val))))))
   none) := evP_of [4, 8, 14, 17] (by kernel_rfl)
theorem eq_mach_Machine_read_4 (R : Orc) (t0i : Nat) (b3 : DV) (sg : List SObj) : P_mach_Machine_read_4 R t0i b3 sg =
  (ob (dBin .eql (proj 3 b3) (.int .i64 5)) fun d1 =>
  oif d1
   (ob (dIdx 5 (proj 7 b3) (.int .i64 0)) fun d2 =>
   ob (dBin .eql (proj 0 d2) (.int .i64 1)) fun d3 =>
   oif d3
    (P_mach_Machine_read_8 R t0i (proj 0 b3) (proj 1 b3) (proj 2 b3) (.int .i64 0) (.int .i64 0) (.int .i64 0) (.bool false) (.list 5 []) (proj 8 b3) sg)
    (P_mach_Machine_read_8 R t0i (proj 0 b3) (proj 1 b3) (proj 2 b3) (proj 0 d2) (proj 1 d2) (proj 2 d2) (proj 3 d2) (proj 4 d2) (proj 8 b3) sg))
   (P_mach_Machine_read_8 R t0i (proj 0 b3) (proj 1 b3) (proj 2 b3) (proj 3 b3) (proj 4 b3) (proj 5 b3) (proj 6 b3) (proj 7 b3) (proj 8 b3) sg)) := evP_of [4, 8, 14, 17] (by kernel_rfl)
theorem eq_mach_Machine_read_14 (R : Orc) (t0i : Nat) (b3_0 : DV) (b3_1 : DV) (b3_2 : DV) (b3_3 : DV) (b3_4 : DV) (b3_5 : DV) (b3_6 : DV) (b3_7 : DV) (b3_8 : DV) (sg : List SObj) : P_mach_Machine_read_14 R t0i b3_0 b3_1 b3_2 b3_3 b3_4 b3_5 b3_6 b3_7 b3_8 sg =
  (og (isCell b3_0) <|
  og (isCell b3_1) <|
  og (isCell b3_2) <|
  ob (dBin .eql b3_0 (.int .i64 8)) fun d1 =>
  oif d1
   (P_mach_Machine_read_17 R t0i b3_0 (.int .i64 0) b3_2 (.int .i64 0) (.int .i64 0) (.int .i64 0) (.bool false) (.list 5 []) (.list 9 []) sg)
   (P_mach_Machine_read_17 R t0i b3_0 b3_1 b3_2 (.int .i64 0) (.int .i64 0) (.int .i64 0) (.bool false) (.list 5 []) (.list 9 []) sg)) := evP_of [4, 8, 14, 17] (by kernel_rfl)
theorem eq_mach_Machine_read_8 (R : Orc) (t0i : Nat) (b3_0 : DV) (b3_1 : DV) (b3_2 : DV) (b3_3 : DV) (b3_4 : DV) (b3_5 : DV) (b3_6 : DV) (b3_7 : DV) (b3_8 : DV) (sg : List SObj) : P_mach_Machine_read_8 R t0i b3_0 b3_1 b3_2 b3_3 b3_4 b3_5 b3_6 b3_7 b3_8 sg =
  (ob (R.p F_val_Two [(.agg [b3_0, b3_1, b3_2, b3_3, b3_4, b3_5, b3_6, b3_7, b3_8])]) fun d1 =>
  ob (dExt 0 d1) fun d2 =>
  ob (dExt 1 d1) fun d3 =>
  ob (dExt 2 d1) fun d4 =>
  ob (dExt 3 d1) fun d5 =>
  og (isAggN 9 d2) <|
  og (isAggN 9 d3) <|
  og (isAggN 15 d4) <|
  ob (dBin .neq d5 (.int .i64 0)) fun d6 =>
  oif d6
   (ob (R.r F_mach_Machine_stuck [(.undef, (.ptr t0i 0))] sg) fun q7 =>
   some ([], q7.2))
   (ob (dBin .neq (proj 0 d4) (.int .i64 0)) fun d8 =>
   oif d8
    (ob (R.r F_mach_Machine_ends [(.undef, (.ptr t0i 0)), ((.agg [(proj 0 d4), (proj 1 d4), (proj 2 d4), (proj 3 d4), (proj 4 d4), (proj 5 d4), (proj 6 d4), (proj 7 d4), (proj 8 d4), (proj 9 d4), (proj 10 d4), (proj 11 d4), (proj 12 d4), (proj 13 d4), (proj 14 d4)]), .val)] sg) fun q9 =>
    some ([], q9.2))
    (ob (sgBox sg t0i) fun c10 =>
    ob (cellOwn c10 52) fun d11 =>
    ob (dLen d11) fun d12 =>
    ob (dApp2 9 d11 (.list 9 [(.agg [(.int .i64 0), (.int .i64 0), (.str ⟨#[]⟩), (.int .i64 0), (.int .i64 0), (.int .i64 0), (.bool false), (.list 5 []), (.list 9 [])]), (.agg [(.int .i64 0), (.int .i64 0), (.str ⟨#[]⟩), (.int .i64 0), (.int .i64 0), (.int .i64 0), (.bool false), (.list 5 []), (.list 9 [])])])) fun p13 =>
    ob (arrIdx 0 (p13.1.length + p13.2.length) d12) fun n14 =>
    ob (sgOpn ((sg.set t0i (SObj.box (c10.set 52 (d11, .val)))) ++ [SObj.opn 9 p13.1 p13.2]) ((sg.set t0i (SObj.box (c10.set 52 (d11, .val))))).length) fun q15 =>
    og (q15.1 == 9 && true) <|
    ob (openSet q15 n14 (.agg [(proj 0 d3), (proj 1 d3), (proj 2 d3), (proj 3 d3), (proj 4 d3), (proj 5 d3), (proj 6 d3), (proj 7 d3), (proj 8 d3)])) fun x16 =>
    ob (dBin .add d12 (.int .i64 1)) fun d17 =>
    ob (arrIdx 0 (p13.1.length + p13.2.length) d17) fun n18 =>
    ob (sgOpn (((sg.set t0i (SObj.box (c10.set 52 (d11, .val)))) ++ [SObj.opn 9 p13.1 p13.2]).set ((sg.set t0i (SObj.box (c10.set 52 (d11, .val))))).length (x16)) ((sg.set t0i (SObj.box (c10.set 52 (d11, .val))))).length) fun q19 =>
    og (q19.1 == 9 && true) <|
    ob (openSet q19 n18 (.agg [(proj 0 d2), (proj 1 d2), (proj 2 d2), (proj 3 d2), (proj 4 d2), (proj 5 d2), (proj 6 d2), (proj 7 d2), (proj 8 d2)])) fun x20 =>
    ob (sgBox ((((sg.set t0i (SObj.box (c10.set 52 (d11, .val)))) ++ [SObj.opn 9 p13.1 p13.2]).set ((sg.set t0i (SObj.box (c10.set 52 (d11, .val))))).length (x16)).set ((sg.set t0i (SObj.box (c10.set 52 (d11, .val))))).length (x20)) t0i) fun c21 =>
    ob (c21[52]?) fun u22 =>
    ob (sgBox (((((sg.set t0i (SObj.box (c10.set 52 (d11, .val)))) ++ [SObj.opn 9 p13.1 p13.2]).set ((sg.set t0i (SObj.box (c10.set 52 (d11, .val))))).length (x16)).set ((sg.set t0i (SObj.box (c10.set 52 (d11, .val))))).length (x20)).set t0i (SObj.box (c21.set 52 (.undef, (.arr ((sg.set t0i (SObj.box (c10.set 52 (d11, .val))))).length 9 0 (p13.1.length + p13.2.length)))))) t0i) fun c23 =>
    ob (cellArr c23 52) fun a24 =>
    ob (sgOpn (((((sg.set t0i (SObj.box (c10.set 52 (d11, .val)))) ++ [SObj.opn 9 p13.1 p13.2]).set ((sg.set t0i (SObj.box (c10.set 52 (d11, .val))))).length (x16)).set ((sg.set t0i (SObj.box (c10.set 52 (d11, .val))))).length (x20)).set t0i (SObj.box (c21.set 52 (.undef, (.arr ((sg.set t0i (SObj.box (c10.set 52 (d11, .val))))).length 9 0 (p13.1.length + p13.2.length)))))) a24.1) fun q25 =>
    ob (closeObj q25 a24.2.1 a24.2.2) fun d26 =>
    P_mach_Machine_read_14 R t0i b3_0 b3_1 b3_2 b3_3 b3_4 b3_5 b3_6 b3_7 b3_8 (((((((sg.set t0i (SObj.box (c10.set 52 (d11, .val)))) ++ [SObj.opn 9 p13.1 p13.2]).set ((sg.set t0i (SObj.box (c10.set 52 (d11, .val))))).length (x16)).set ((sg.set t0i (SObj.box (c10.set 52 (d11, .val))))).length (x20)).set t0i (SObj.box (c21.set 52 (.undef, (.arr ((sg.set t0i (SObj.box (c10.set 52 (d11, .val))))).length 9 0 (p13.1.length + p13.2.length)))))).set t0i (SObj.box (c23.set 52 (d26, .own)))).set a24.1 (.arr 1 []))))) := evP_of [4, 8, 14, 17] (by kernel_rfl)
theorem eq_mach_Machine_read_17 (R : Orc) (t0i : Nat) (b8_0 : DV) (b8_1 : DV) (b8_2 : DV) (b8_3 : DV) (b8_4 : DV) (b8_5 : DV) (b8_6 : DV) (b8_7 : DV) (b8_8 : DV) (sg : List SObj) : P_mach_Machine_read_17 R t0i b8_0 b8_1 b8_2 b8_3 b8_4 b8_5 b8_6 b8_7 b8_8 sg =
  (ob (sgBox sg t0i) fun c1 =>
  ob (cellOwn c1 53) fun d2 =>
  ob (dLen d2) fun d3 =>
  ob (dApp2 9 d2 (.list 9 [(.agg [(.int .i64 0), (.int .i64 0), (.str ⟨#[]⟩), (.int .i64 0), (.int .i64 0), (.int .i64 0), (.bool false), (.list 5 []), (.list 9 [])])])) fun p4 =>
  ob (arrIdx 0 (p4.1.length + p4.2.length) d3) fun n5 =>
  ob (sgOpn ((sg.set t0i (SObj.box (c1.set 53 (d2, .val)))) ++ [SObj.opn 9 p4.1 p4.2]) ((sg.set t0i (SObj.box (c1.set 53 (d2, .val))))).length) fun q6 =>
  og (q6.1 == 9 && true) <|
  ob (openSet q6 n5 (.agg [b8_0, b8_1, b8_2, b8_3, b8_4, b8_5, b8_6, b8_7, b8_8])) fun x7 =>
  ob (sgBox (((sg.set t0i (SObj.box (c1.set 53 (d2, .val)))) ++ [SObj.opn 9 p4.1 p4.2]).set ((sg.set t0i (SObj.box (c1.set 53 (d2, .val))))).length (x7)) t0i) fun c8 =>
  ob (c8[53]?) fun u9 =>
  ob (sgBox ((((sg.set t0i (SObj.box (c1.set 53 (d2, .val)))) ++ [SObj.opn 9 p4.1 p4.2]).set ((sg.set t0i (SObj.box (c1.set 53 (d2, .val))))).length (x7)).set t0i (SObj.box (c8.set 53 (.undef, (.arr ((sg.set t0i (SObj.box (c1.set 53 (d2, .val))))).length 9 0 (p4.1.length + p4.2.length)))))) t0i) fun c10 =>
  ob (cellArr c10 53) fun a11 =>
  ob (sgOpn ((((sg.set t0i (SObj.box (c1.set 53 (d2, .val)))) ++ [SObj.opn 9 p4.1 p4.2]).set ((sg.set t0i (SObj.box (c1.set 53 (d2, .val))))).length (x7)).set t0i (SObj.box (c8.set 53 (.undef, (.arr ((sg.set t0i (SObj.box (c1.set 53 (d2, .val))))).length 9 0 (p4.1.length + p4.2.length)))))) a11.1) fun q12 =>
  ob (closeObj q12 a11.2.1 a11.2.2) fun d13 =>
  ob (sgBox ((((((sg.set t0i (SObj.box (c1.set 53 (d2, .val)))) ++ [SObj.opn 9 p4.1 p4.2]).set ((sg.set t0i (SObj.box (c1.set 53 (d2, .val))))).length (x7)).set t0i (SObj.box (c8.set 53 (.undef, (.arr ((sg.set t0i (SObj.box (c1.set 53 (d2, .val))))).length 9 0 (p4.1.length + p4.2.length)))))).set t0i (SObj.box (c10.set 53 (d13, .own)))).set a11.1 (.arr 1 [])) t0i) fun c14 =>
  ob (cellDat c14 52) fun d15 =>
  ob (dLen d15) fun d16 =>
  ob (dBin .eql d16 (.int .i64 0)) fun d17 =>
  oif d17
   (ob (sgBox ((((((sg.set t0i (SObj.box (c1.set 53 (d2, .val)))) ++ [SObj.opn 9 p4.1 p4.2]).set ((sg.set t0i (SObj.box (c1.set 53 (d2, .val))))).length (x7)).set t0i (SObj.box (c8.set 53 (.undef, (.arr ((sg.set t0i (SObj.box (c1.set 53 (d2, .val))))).length 9 0 (p4.1.length + p4.2.length)))))).set t0i (SObj.box (c10.set 53 (d13, .own)))).set a11.1 (.arr 1 [])) t0i) fun c18 =>
   ob (cellDat c18 53) fun d19 =>
   ob (R.p F_mach_told [d19]) fun d20 =>
   ob (dExt 0 d20) fun d21 =>
   ob (dExt 1 d20) fun d22 =>
   og (isAggN 9 d21) <|
   ob (R.r F_mach_Machine_ends [(.undef, (.ptr t0i 0)), ((.agg [(.int .i64 1), (proj 0 d21), (proj 1 d21), (proj 2 d21), (proj 3 d21), (proj 4 d21), (proj 5 d21), (proj 6 d21), (proj 7 d21), (proj 8 d21), (.int .i64 0), (.bool false), (.int .i64 0), (.int .i64 0), (.int .i64 0)]), .val)] ((((((sg.set t0i (SObj.box (c1.set 53 (d2, .val)))) ++ [SObj.opn 9 p4.1 p4.2]).set ((sg.set t0i (SObj.box (c1.set 53 (d2, .val))))).length (x7)).set t0i (SObj.box (c8.set 53 (.undef, (.arr ((sg.set t0i (SObj.box (c1.set 53 (d2, .val))))).length 9 0 (p4.1.length + p4.2.length)))))).set t0i (SObj.box (c10.set 53 (d13, .own)))).set a11.1 (.arr 1 []))) fun q23 =>
   some ([], q23.2))
   (some ([], ((((((sg.set t0i (SObj.box (c1.set 53 (d2, .val)))) ++ [SObj.opn 9 p4.1 p4.2]).set ((sg.set t0i (SObj.box (c1.set 53 (d2, .val))))).length (x7)).set t0i (SObj.box (c8.set 53 (.undef, (.arr ((sg.set t0i (SObj.box (c1.set 53 (d2, .val))))).length 9 0 (p4.1.length + p4.2.length)))))).set t0i (SObj.box (c10.set 53 (d13, .own)))).set a11.1 (.arr 1 []))))) := evP_of [4, 8, 14, 17] (by kernel_rfl)
theorem fix_mach_Machine_read (x0 : Nat) (sg : List SObj) : (run cfg).r F_mach_Machine_read [(.undef, (.ptr x0 0))] sg = P_mach_Machine_read (run cfg) x0 sg :=
  (fix_raw (C := cfg) (f := F_mach_Machine_read) (s := sig_mach_Machine_read) (fn := Try.f21) (c := code_mach_Machine_read) (by kernel_rfl) Try.func21 (by kernel_rfl) (by kernel_rfl)).trans (by kernel_rfl)
noncomputable def code_mach_Machine_term : Code := Try.f22.body.getD .skip
noncomputable def P_mach_Machine_term (R : Orc) (x0 : Nat) (sg : List SObj) : Option (List DV × List SObj) := evP cfg R fl_mach_Machine_term (retR cfg.P Try.f22 sig_mach_Machine_term) [] code_mach_Machine_term (initSt Try.f22 [(.undef, (.ptr x0 0))] sg)
noncomputable def P_mach_Machine_term_4h (R : Orc) (t0i : Nat) (t3 : DV) (b2 : DV) (sg : List SObj) : Option (List DV × List SObj) := headP cfg R fl_mach_Machine_term (retR cfg.P Try.f22 sig_mach_Machine_term) [true, true, false, true, false, false, true, false] code_mach_Machine_term ⟨spread .undef 301 0 [(3, t3)], spread .val 301 0 [(0, (.ptr t0i 0)), (2, (.loc 2 0))], spread none 301 0 [(2, some [((proj 0 b2), .val), ((proj 1 b2), .val), ((proj 2 b2), .val), ((proj 3 b2), .val), ((proj 4 b2), .val), ((proj 5 b2), .val), ((proj 6 b2), .val), ((proj 7 b2), .val), ((proj 8 b2), .val), ((proj 9 b2), .val), ((proj 10 b2), .val), ((proj 11 b2), .val), ((proj 12 b2), .val), ((proj 13 b2), .val), ((proj 14 b2), .val), ((proj 15 b2), .val), ((proj 16 b2), .val), ((proj 17 b2), .val), ((proj 18 b2), .val), ((proj 19 b2), .val)])], sg⟩
noncomputable def P_mach_Machine_term_13 (R : Orc) (t0i : Nat) (b2 : DV) (sg : List SObj) : Option (List DV × List SObj) := evP cfg R fl_mach_Machine_term (retR cfg.P Try.f22 sig_mach_Machine_term) [true, true, false, true, true, true, false] code_mach_Machine_term ⟨spread .undef 301 0 [], spread .val 301 0 [(0, (.ptr t0i 0)), (2, (.loc 2 0))], spread none 301 0 [(2, some [((proj 0 b2), .val), ((proj 1 b2), .val), ((proj 2 b2), .val), ((proj 3 b2), .val), ((proj 4 b2), .val), ((proj 5 b2), .val), ((proj 6 b2), .val), ((proj 7 b2), .val), ((proj 8 b2), .val), ((proj 9 b2), .val), ((proj 10 b2), .val), ((proj 11 b2), .val), ((proj 12 b2), .val), ((proj 13 b2), .val), ((proj 14 b2), .val), ((proj 15 b2), .val), ((proj 16 b2), .val), ((proj 17 b2), .val), ((proj 18 b2), .val), ((proj 19 b2), .val)])], sg⟩
noncomputable def P_mach_Machine_term_30 (R : Orc) (t0i : Nat) (t12 : DV) (b2 : DV) (sg : List SObj) : Option (List DV × List SObj) := evP cfg R fl_mach_Machine_term (retR cfg.P Try.f22 sig_mach_Machine_term) [true, true, false, true, true, true, true, true, true, true, true, true, true, true, true, true, true, true, true] code_mach_Machine_term ⟨spread .undef 301 0 [(12, t12)], spread .val 301 0 [(0, (.ptr t0i 0)), (2, (.loc 2 0))], spread none 301 0 [(2, some [((proj 0 b2), .val), ((proj 1 b2), .val), ((proj 2 b2), .val), ((proj 3 b2), .val), ((proj 4 b2), .val), ((proj 5 b2), .val), ((proj 6 b2), .val), ((proj 7 b2), .val), ((proj 8 b2), .val), ((proj 9 b2), .val), ((proj 10 b2), .val), ((proj 11 b2), .val), ((proj 12 b2), .val), ((proj 13 b2), .val), ((proj 14 b2), .val), ((proj 15 b2), .val), ((proj 16 b2), .val), ((proj 17 b2), .val), ((proj 18 b2), .val), ((proj 19 b2), .val)])], sg⟩
set_option maxRecDepth 100000 in
theorem eq_mach_Machine_term (R : Orc) (x0 : Nat) (sg : List SObj) : P_mach_Machine_term R x0 sg =
  (ob (sgBox sg x0) fun c1 =>
  ob (segDat 0 20 c1) fun e2 =>
  og (isAggN 20 (.agg e2)) <|
  ob (dBin .eql (proj 0 (.agg e2)) (.int .i64 1)) fun d3 =>
  oif d3
   (ob (sgBox sg x0) fun c4 =>
   ob (cellDat c4 20) fun d5 =>
   P_mach_Machine_term_4h R x0 d5 (.agg e2) sg)
   (ob (dBin .eql (proj 0 (.agg e2)) (.int .i64 2)) fun d6 =>
   oif d6
    (P_mach_Machine_term_13 R x0 (.agg e2) sg)
    (ob (dBin .eql (proj 0 (.agg e2)) (.int .i64 3)) fun d7 =>
    oif d7
     (P_mach_Machine_term_13 R x0 (.agg e2) sg)
     (ob (dBin .eql (proj 0 (.agg e2)) (.int .i64 4)) fun d8 =>
     oif d8
      (P_mach_Machine_term_13 R x0 (.agg e2) sg)
      (ob (dBin .eql (proj 0 (.agg e2)) (.int .i64 5)) fun d9 =>
      oif d9
       (P_mach_Machine_term_13 R x0 (.agg e2) sg)
       (ob (dBin .eql (proj 0 (.agg e2)) (.int .i64 7)) fun d10 =>
       oif d10
        (ob (R.r F_mach_Machine_gives [(.undef, (.ptr x0 0)), ((.agg [(.int .i64 6), (.int .i64 0), (.str ⟨#[]⟩), (.int .i64 0), (.int .i64 0), (.int .i64 0), (.bool false), (.list 5 []), (.list 9 [])]), .val)] sg) fun q11 =>
        some ([], q11.2))
        (ob (dBin .eql (proj 0 (.agg e2)) (.int .i64 9)) fun d12 =>
        oif d12
         (ob (dIdx 20 (proj 19 (.agg e2)) (.int .i64 0)) fun d13 =>
         ob (sgBox sg x0) fun c14 =>
         ob (cellDat c14 20) fun d15 =>
         og (isCell (proj 3 (.agg e2))) <|
         og (isCell d15) <|
         ob (R.r F_mach_Machine_makes [(.undef, (.ptr x0 0)), ((.agg [(proj 3 (.agg e2)), (.str ⟨#[]⟩), (.bool false), (proj 0 d13), (proj 1 d13), (proj 2 d13), (proj 3 d13), (proj 4 d13), (proj 5 d13), (proj 6 d13), (proj 7 d13), (proj 8 d13), (proj 9 d13), (proj 10 d13), (proj 11 d13), (proj 12 d13), (proj 13 d13), (proj 14 d13), (proj 15 d13), (proj 16 d13), (proj 17 d13), (proj 18 d13), (proj 19 d13), d15]), .val)] sg) fun q16 =>
         ob (R.r F_mach_Machine_gives [(.undef, (.ptr x0 0)), ((q16.1.getD 0 .undef), .val)] q16.2) fun q17 =>
         some ([], q17.2))
         (ob (dBin .eql (proj 0 (.agg e2)) (.int .i64 6)) fun d18 =>
         oif d18
          (ob (dIdx 20 (proj 19 (.agg e2)) (.int .i64 1)) fun d19 =>
          ob (sgBox sg x0) fun c20 =>
          ob (cellDat c20 20) fun d21 =>
          og (isCell d21) <|
          ob (R.r F_mach_Machine_push [(.undef, (.ptr x0 0)), ((.agg [(.int .i64 1), (proj 0 d19), (proj 1 d19), (proj 2 d19), (proj 3 d19), (proj 4 d19), (proj 5 d19), (proj 6 d19), (proj 7 d19), (proj 8 d19), (proj 9 d19), (proj 10 d19), (proj 11 d19), (proj 12 d19), (proj 13 d19), (proj 14 d19), (proj 15 d19), (proj 16 d19), (proj 17 d19), (proj 18 d19), (proj 19 d19), (.int .i64 0), (.int .i64 0), (.int .i64 0), (.str ⟨#[]⟩), (.str ⟨#[]⟩), (.int .i64 0), (.str ⟨#[]⟩), (.int .i64 0), (.int .i64 0), (.bool false), (.list 1 []), (.int .i64 0), (.int .i64 0), (.list 3 []), (.int .i64 0), (.int .i64 0), (.list 3 []), (.list 3 []), (.list 7 []), (.list 20 []), (.str ⟨#[]⟩), d21, (.int .i64 0), (.int .i64 0), (.str ⟨#[]⟩), (.int .i64 0), (.int .i64 0), (.int .i64 0), (.bool false), (.list 5 []), (.list 9 []), (.int .i64 0), (.int .i64 0), (.int .i64 0), (.bool false), (.list 5 [])]), .val)] sg) fun q22 =>
          ob (dIdx 20 (proj 19 (.agg e2)) (.int .i64 0)) fun d23 =>
          ob (sgBox q22.2 x0) fun c24 =>
          ob (cellDat c24 20) fun d25 =>
          ob (R.r F_mach_Machine_goes [(.undef, (.ptr x0 0)), ((.agg [(proj 0 d23), (proj 1 d23), (proj 2 d23), (proj 3 d23), (proj 4 d23), (proj 5 d23), (proj 6 d23), (proj 7 d23), (proj 8 d23), (proj 9 d23), (proj 10 d23), (proj 11 d23), (proj 12 d23), (proj 13 d23), (proj 14 d23), (proj 15 d23), (proj 16 d23), (proj 17 d23), (proj 18 d23), (proj 19 d23)]), .val), (d25, .val)] q22.2) fun q26 =>
          some ([], q26.2))
          (ob (dBin .eql (proj 0 (.agg e2)) (.int .i64 8)) fun d27 =>
          oif d27
           (ob (dIdx 20 (proj 19 (.agg e2)) (.int .i64 1)) fun d28 =>
           ob (sgBox sg x0) fun c29 =>
           ob (cellDat c29 20) fun d30 =>
           og (isCell d30) <|
           ob (R.r F_mach_Machine_push [(.undef, (.ptr x0 0)), ((.agg [(.int .i64 3), (proj 0 d28), (proj 1 d28), (proj 2 d28), (proj 3 d28), (proj 4 d28), (proj 5 d28), (proj 6 d28), (proj 7 d28), (proj 8 d28), (proj 9 d28), (proj 10 d28), (proj 11 d28), (proj 12 d28), (proj 13 d28), (proj 14 d28), (proj 15 d28), (proj 16 d28), (proj 17 d28), (proj 18 d28), (proj 19 d28), (.int .i64 0), (.int .i64 0), (.int .i64 0), (.str ⟨#[]⟩), (.str ⟨#[]⟩), (.int .i64 0), (.str ⟨#[]⟩), (.int .i64 0), (.int .i64 0), (.bool false), (.list 1 []), (.int .i64 0), (.int .i64 0), (.list 3 []), (.int .i64 0), (.int .i64 0), (.list 3 []), (.list 3 []), (.list 7 []), (.list 20 []), (.str ⟨#[]⟩), d30, (.int .i64 0), (.int .i64 0), (.str ⟨#[]⟩), (.int .i64 0), (.int .i64 0), (.int .i64 0), (.bool false), (.list 5 []), (.list 9 []), (.int .i64 0), (.int .i64 0), (.int .i64 0), (.bool false), (.list 5 [])]), .val)] sg) fun q31 =>
           ob (dIdx 20 (proj 19 (.agg e2)) (.int .i64 0)) fun d32 =>
           ob (sgBox q31.2 x0) fun c33 =>
           ob (cellDat c33 20) fun d34 =>
           ob (R.r F_mach_Machine_goes [(.undef, (.ptr x0 0)), ((.agg [(proj 0 d32), (proj 1 d32), (proj 2 d32), (proj 3 d32), (proj 4 d32), (proj 5 d32), (proj 6 d32), (proj 7 d32), (proj 8 d32), (proj 9 d32), (proj 10 d32), (proj 11 d32), (proj 12 d32), (proj 13 d32), (proj 14 d32), (proj 15 d32), (proj 16 d32), (proj 17 d32), (proj 18 d32), (proj 19 d32)]), .val), (d34, .val)] q31.2) fun q35 =>
           some ([], q35.2))
           (ob (dBin .eql (proj 0 (.agg e2)) (.int .i64 10)) fun d36 =>
           oif d36
            (ob (dIdx 20 (proj 19 (.agg e2)) (.int .i64 1)) fun d37 =>
            ob (sgBox sg x0) fun c38 =>
            ob (cellDat c38 20) fun d39 =>
            og (isCell d39) <|
            ob (R.r F_mach_Machine_push [(.undef, (.ptr x0 0)), ((.agg [(.int .i64 5), (proj 0 d37), (proj 1 d37), (proj 2 d37), (proj 3 d37), (proj 4 d37), (proj 5 d37), (proj 6 d37), (proj 7 d37), (proj 8 d37), (proj 9 d37), (proj 10 d37), (proj 11 d37), (proj 12 d37), (proj 13 d37), (proj 14 d37), (proj 15 d37), (proj 16 d37), (proj 17 d37), (proj 18 d37), (proj 19 d37), (.int .i64 0), (.int .i64 0), (.int .i64 0), (.str ⟨#[]⟩), (.str ⟨#[]⟩), (.int .i64 0), (.str ⟨#[]⟩), (.int .i64 0), (.int .i64 0), (.bool false), (.list 1 []), (.int .i64 0), (.int .i64 0), (.list 3 []), (.int .i64 0), (.int .i64 0), (.list 3 []), (.list 3 []), (.list 7 []), (.list 20 []), (.str ⟨#[]⟩), d39, (.int .i64 0), (.int .i64 0), (.str ⟨#[]⟩), (.int .i64 0), (.int .i64 0), (.int .i64 0), (.bool false), (.list 5 []), (.list 9 []), (.int .i64 0), (.int .i64 0), (.int .i64 0), (.bool false), (.list 5 [])]), .val)] sg) fun q40 =>
            ob (dIdx 20 (proj 19 (.agg e2)) (.int .i64 0)) fun d41 =>
            ob (sgBox q40.2 x0) fun c42 =>
            ob (cellDat c42 20) fun d43 =>
            ob (R.r F_mach_Machine_goes [(.undef, (.ptr x0 0)), ((.agg [(proj 0 d41), (proj 1 d41), (proj 2 d41), (proj 3 d41), (proj 4 d41), (proj 5 d41), (proj 6 d41), (proj 7 d41), (proj 8 d41), (proj 9 d41), (proj 10 d41), (proj 11 d41), (proj 12 d41), (proj 13 d41), (proj 14 d41), (proj 15 d41), (proj 16 d41), (proj 17 d41), (proj 18 d41), (proj 19 d41)]), .val), (d43, .val)] q40.2) fun q44 =>
            some ([], q44.2))
            (ob (dBin .eql (proj 0 (.agg e2)) (.int .i64 11)) fun d45 =>
            oif d45
             (ob (dIdx 20 (proj 19 (.agg e2)) (.int .i64 1)) fun d46 =>
             ob (sgBox sg x0) fun c47 =>
             ob (cellDat c47 20) fun d48 =>
             og (isCell (proj 3 (.agg e2))) <|
             og (isCell d48) <|
             ob (R.r F_mach_Machine_push [(.undef, (.ptr x0 0)), ((.agg [(.int .i64 7), (proj 0 d46), (proj 1 d46), (proj 2 d46), (proj 3 d46), (proj 4 d46), (proj 5 d46), (proj 6 d46), (proj 7 d46), (proj 8 d46), (proj 9 d46), (proj 10 d46), (proj 11 d46), (proj 12 d46), (proj 13 d46), (proj 14 d46), (proj 15 d46), (proj 16 d46), (proj 17 d46), (proj 18 d46), (proj 19 d46), (.int .i64 0), (.int .i64 0), (.int .i64 0), (.str ⟨#[]⟩), (.str ⟨#[]⟩), (.int .i64 0), (.str ⟨#[]⟩), (.int .i64 0), (.int .i64 0), (.bool false), (.list 1 []), (.int .i64 0), (.int .i64 0), (.list 3 []), (.int .i64 0), (.int .i64 0), (.list 3 []), (.list 3 []), (.list 7 []), (.list 20 []), (proj 3 (.agg e2)), d48, (.int .i64 0), (.int .i64 0), (.str ⟨#[]⟩), (.int .i64 0), (.int .i64 0), (.int .i64 0), (.bool false), (.list 5 []), (.list 9 []), (.int .i64 0), (.int .i64 0), (.int .i64 0), (.bool false), (.list 5 [])]), .val)] sg) fun q49 =>
             ob (dIdx 20 (proj 19 (.agg e2)) (.int .i64 0)) fun d50 =>
             ob (sgBox q49.2 x0) fun c51 =>
             ob (cellDat c51 20) fun d52 =>
             ob (R.r F_mach_Machine_goes [(.undef, (.ptr x0 0)), ((.agg [(proj 0 d50), (proj 1 d50), (proj 2 d50), (proj 3 d50), (proj 4 d50), (proj 5 d50), (proj 6 d50), (proj 7 d50), (proj 8 d50), (proj 9 d50), (proj 10 d50), (proj 11 d50), (proj 12 d50), (proj 13 d50), (proj 14 d50), (proj 15 d50), (proj 16 d50), (proj 17 d50), (proj 18 d50), (proj 19 d50)]), .val), (d52, .val)] q49.2) fun q53 =>
             some ([], q53.2))
             (P_mach_Machine_term_30 R x0 (proj 0 (.agg e2)) (.agg e2) sg)))))))))))) := evP_of [13, 30] (by kernel_rfl)
theorem eq_mach_Machine_term_4h (R : Orc) (t0i : Nat) (t3 : DV) (b2 : DV) (sg : List SObj) : P_mach_Machine_term_4h R t0i t3 b2 sg =
  (ob (eqNil (t3, .val) (.pnil, .nilp)) fun b1 =>
  oif (.bool !b1)
   (ob (dRef 11 t3) fun d2 =>
   ob (dBin .eql (proj 0 d2) (proj 3 b2)) fun d3 =>
   oif d3
    (ob (dRef 11 t3) fun d4 =>
    ob (R.r F_mach_Machine_gives [(.undef, (.ptr t0i 0)), ((.agg [(proj 1 d4), (proj 2 d4), (proj 3 d4), (proj 4 d4), (proj 5 d4), (proj 6 d4), (proj 7 d4), (proj 8 d4), (proj 9 d4)]), .val)] sg) fun q5 =>
    some ([], q5.2))
    (ob (dRef 11 t3) fun d6 =>
    P_mach_Machine_term_4h R t0i (proj 10 d6) b2 sg))
   (ob (R.r F_mach_Machine_stuck [(.undef, (.ptr t0i 0))] sg) fun q7 =>
   some ([], q7.2))) := headP_of [13, 30] (by kernel_rfl)
theorem eq_mach_Machine_term_13 (R : Orc) (t0i : Nat) (b2 : DV) (sg : List SObj) : P_mach_Machine_term_13 R t0i b2 sg =
  (ob (dBin .sub (proj 0 b2) (.int .i64 2)) fun d1 =>
  ob (dBin .add d1 (.int .i64 1)) fun d2 =>
  og (isCell d2) <|
  og (isCell (proj 5 b2)) <|
  og (isCell (proj 6 b2)) <|
  ob (R.r F_mach_Machine_gives [(.undef, (.ptr t0i 0)), ((.agg [d2, (proj 5 b2), (proj 6 b2), (.int .i64 0), (.int .i64 0), (.int .i64 0), (.bool false), (.list 5 []), (.list 9 [])]), .val)] sg) fun q3 =>
  some ([], q3.2)) := evP_of [13, 30] (by kernel_rfl)
set_option maxRecDepth 100000 in
theorem eq_mach_Machine_term_30 (R : Orc) (t0i : Nat) (t12 : DV) (b2 : DV) (sg : List SObj) : P_mach_Machine_term_30 R t0i t12 b2 sg =
  (ob (dBin .eql t12 (.int .i64 13)) fun d1 =>
  oif d1
   (ob (dIdx 20 (proj 19 b2) (.int .i64 1)) fun d2 =>
   ob (dIdx 20 (proj 19 b2) (.int .i64 2)) fun d3 =>
   ob (sgBox sg t0i) fun c4 =>
   ob (cellDat c4 20) fun d5 =>
   og (isCell d5) <|
   ob (R.r F_mach_Machine_push [(.undef, (.ptr t0i 0)), ((.agg [(.int .i64 8), (proj 0 d2), (proj 1 d2), (proj 2 d2), (proj 3 d2), (proj 4 d2), (proj 5 d2), (proj 6 d2), (proj 7 d2), (proj 8 d2), (proj 9 d2), (proj 10 d2), (proj 11 d2), (proj 12 d2), (proj 13 d2), (proj 14 d2), (proj 15 d2), (proj 16 d2), (proj 17 d2), (proj 18 d2), (proj 19 d2), (proj 0 d3), (proj 1 d3), (proj 2 d3), (proj 3 d3), (proj 4 d3), (proj 5 d3), (proj 6 d3), (proj 7 d3), (proj 8 d3), (proj 9 d3), (proj 10 d3), (proj 11 d3), (proj 12 d3), (proj 13 d3), (proj 14 d3), (proj 15 d3), (proj 16 d3), (proj 17 d3), (proj 18 d3), (proj 19 d3), (.str ⟨#[]⟩), d5, (.int .i64 0), (.int .i64 0), (.str ⟨#[]⟩), (.int .i64 0), (.int .i64 0), (.int .i64 0), (.bool false), (.list 5 []), (.list 9 []), (.int .i64 0), (.int .i64 0), (.int .i64 0), (.bool false), (.list 5 [])]), .val)] sg) fun q6 =>
   ob (dIdx 20 (proj 19 b2) (.int .i64 0)) fun d7 =>
   ob (sgBox q6.2 t0i) fun c8 =>
   ob (cellDat c8 20) fun d9 =>
   ob (R.r F_mach_Machine_goes [(.undef, (.ptr t0i 0)), ((.agg [(proj 0 d7), (proj 1 d7), (proj 2 d7), (proj 3 d7), (proj 4 d7), (proj 5 d7), (proj 6 d7), (proj 7 d7), (proj 8 d7), (proj 9 d7), (proj 10 d7), (proj 11 d7), (proj 12 d7), (proj 13 d7), (proj 14 d7), (proj 15 d7), (proj 16 d7), (proj 17 d7), (proj 18 d7), (proj 19 d7)]), .val), (d9, .val)] q6.2) fun q10 =>
   some ([], q10.2))
   (ob (dBin .eql t12 (.int .i64 14)) fun d11 =>
   oif d11
    (ob (sgBox sg t0i) fun c12 =>
    ob (cellDat c12 20) fun d13 =>
    og (isCell d13) <|
    ob (R.r F_mach_Machine_push [(.undef, (.ptr t0i 0)), ((.agg [(.int .i64 9), (proj 0 b2), (proj 1 b2), (proj 2 b2), (proj 3 b2), (proj 4 b2), (proj 5 b2), (proj 6 b2), (proj 7 b2), (proj 8 b2), (proj 9 b2), (proj 10 b2), (proj 11 b2), (proj 12 b2), (proj 13 b2), (proj 14 b2), (proj 15 b2), (proj 16 b2), (proj 17 b2), (proj 18 b2), (proj 19 b2), (.int .i64 0), (.int .i64 0), (.int .i64 0), (.str ⟨#[]⟩), (.str ⟨#[]⟩), (.int .i64 0), (.str ⟨#[]⟩), (.int .i64 0), (.int .i64 0), (.bool false), (.list 1 []), (.int .i64 0), (.int .i64 0), (.list 3 []), (.int .i64 0), (.int .i64 0), (.list 3 []), (.list 3 []), (.list 7 []), (.list 20 []), (.str ⟨#[]⟩), d13, (.int .i64 0), (.int .i64 0), (.str ⟨#[]⟩), (.int .i64 0), (.int .i64 0), (.int .i64 0), (.bool false), (.list 5 []), (.list 9 []), (.int .i64 0), (.int .i64 0), (.int .i64 0), (.bool false), (.list 5 [])]), .val)] sg) fun q14 =>
    ob (dIdx 20 (proj 19 b2) (.int .i64 0)) fun d15 =>
    ob (sgBox q14.2 t0i) fun c16 =>
    ob (cellDat c16 20) fun d17 =>
    ob (R.r F_mach_Machine_goes [(.undef, (.ptr t0i 0)), ((.agg [(proj 0 d15), (proj 1 d15), (proj 2 d15), (proj 3 d15), (proj 4 d15), (proj 5 d15), (proj 6 d15), (proj 7 d15), (proj 8 d15), (proj 9 d15), (proj 10 d15), (proj 11 d15), (proj 12 d15), (proj 13 d15), (proj 14 d15), (proj 15 d15), (proj 16 d15), (proj 17 d15), (proj 18 d15), (proj 19 d15)]), .val), (d17, .val)] q14.2) fun q18 =>
    some ([], q18.2))
    (ob (dBin .eql t12 (.int .i64 15)) fun d19 =>
    oif d19
     (ob (sgBox sg t0i) fun c20 =>
     ob (cellDat c20 20) fun d21 =>
     og (isCell d21) <|
     ob (R.r F_mach_Machine_push [(.undef, (.ptr t0i 0)), ((.agg [(.int .i64 10), (proj 0 b2), (proj 1 b2), (proj 2 b2), (proj 3 b2), (proj 4 b2), (proj 5 b2), (proj 6 b2), (proj 7 b2), (proj 8 b2), (proj 9 b2), (proj 10 b2), (proj 11 b2), (proj 12 b2), (proj 13 b2), (proj 14 b2), (proj 15 b2), (proj 16 b2), (proj 17 b2), (proj 18 b2), (proj 19 b2), (.int .i64 0), (.int .i64 0), (.int .i64 0), (.str ⟨#[]⟩), (.str ⟨#[]⟩), (.int .i64 0), (.str ⟨#[]⟩), (.int .i64 0), (.int .i64 0), (.bool false), (.list 1 []), (.int .i64 0), (.int .i64 0), (.list 3 []), (.int .i64 0), (.int .i64 0), (.list 3 []), (.list 3 []), (.list 7 []), (.list 20 []), (.str ⟨#[]⟩), d21, (.int .i64 0), (.int .i64 0), (.str ⟨#[]⟩), (.int .i64 0), (.int .i64 0), (.int .i64 0), (.bool false), (.list 5 []), (.list 9 []), (.int .i64 0), (.int .i64 0), (.int .i64 0), (.bool false), (.list 5 [])]), .val)] sg) fun q22 =>
     ob (dIdx 20 (proj 19 b2) (.int .i64 0)) fun d23 =>
     ob (sgBox q22.2 t0i) fun c24 =>
     ob (cellDat c24 20) fun d25 =>
     ob (R.r F_mach_Machine_goes [(.undef, (.ptr t0i 0)), ((.agg [(proj 0 d23), (proj 1 d23), (proj 2 d23), (proj 3 d23), (proj 4 d23), (proj 5 d23), (proj 6 d23), (proj 7 d23), (proj 8 d23), (proj 9 d23), (proj 10 d23), (proj 11 d23), (proj 12 d23), (proj 13 d23), (proj 14 d23), (proj 15 d23), (proj 16 d23), (proj 17 d23), (proj 18 d23), (proj 19 d23)]), .val), (d25, .val)] q22.2) fun q26 =>
     some ([], q26.2))
     (ob (dBin .eql t12 (.int .i64 12)) fun d27 =>
     oif d27
      (ob (dIdx 20 (proj 19 b2) (.int .i64 0)) fun d28 =>
      ob (sgBox sg t0i) fun c29 =>
      ob (cellDat c29 20) fun d30 =>
      og (isCell (proj 4 b2)) <|
      og (isCell (proj 3 b2)) <|
      og (isCell d30) <|
      ob (R.r F_mach_Machine_makes [(.undef, (.ptr t0i 0)), ((.agg [(proj 4 b2), (proj 3 b2), (.bool true), (proj 0 d28), (proj 1 d28), (proj 2 d28), (proj 3 d28), (proj 4 d28), (proj 5 d28), (proj 6 d28), (proj 7 d28), (proj 8 d28), (proj 9 d28), (proj 10 d28), (proj 11 d28), (proj 12 d28), (proj 13 d28), (proj 14 d28), (proj 15 d28), (proj 16 d28), (proj 17 d28), (proj 18 d28), (proj 19 d28), d30]), .val)] sg) fun q31 =>
      og (isAggN 9 (q31.1.getD 0 .undef)) <|
      ob (dIdx 20 (proj 19 b2) (.int .i64 1)) fun d32 =>
      ob (sgBox q31.2 t0i) fun c33 =>
      ob (cellDat c33 20) fun d34 =>
      ob (R.p F_mach_env_with [d34, (proj 3 b2), (.agg [(proj 0 (q31.1.getD 0 .undef)), (proj 1 (q31.1.getD 0 .undef)), (proj 2 (q31.1.getD 0 .undef)), (proj 3 (q31.1.getD 0 .undef)), (proj 4 (q31.1.getD 0 .undef)), (proj 5 (q31.1.getD 0 .undef)), (proj 6 (q31.1.getD 0 .undef)), (proj 7 (q31.1.getD 0 .undef)), (proj 8 (q31.1.getD 0 .undef))])]) fun d35 =>
      ob (R.r F_mach_Machine_goes [(.undef, (.ptr t0i 0)), ((.agg [(proj 0 d32), (proj 1 d32), (proj 2 d32), (proj 3 d32), (proj 4 d32), (proj 5 d32), (proj 6 d32), (proj 7 d32), (proj 8 d32), (proj 9 d32), (proj 10 d32), (proj 11 d32), (proj 12 d32), (proj 13 d32), (proj 14 d32), (proj 15 d32), (proj 16 d32), (proj 17 d32), (proj 18 d32), (proj 19 d32)]), .val), (d35, .val)] q31.2) fun q36 =>
      some ([], q36.2))
      (ob (dBin .eql t12 (.int .i64 16)) fun d37 =>
      oif d37
       (ob (R.p F_trans_Cast [(.agg [(proj 11 b2), (proj 12 b2), (proj 13 b2)]), (.agg [(proj 14 b2), (proj 15 b2), (proj 16 b2)]), (proj 8 b2), (proj 9 b2)]) fun d38 =>
       ob (dExt 0 d38) fun d39 =>
       ob (dExt 1 d38) fun d40 =>
       og (isAggN 5 d39) <|
       ob (dBin .neq d40 (.int .i64 0)) fun d41 =>
       oif d41
        (ob (R.r F_mach_Machine_stuck [(.undef, (.ptr t0i 0))] sg) fun q42 =>
        some ([], q42.2))
        (ob (R.r F_mach_Machine_put [(.undef, (.ptr t0i 0)), ((.agg [(proj 0 d39), (proj 1 d39), (proj 2 d39), (proj 3 d39), (proj 4 d39)]), .val)] sg) fun q43 =>
        ob (dIdx 20 (proj 19 b2) (.int .i64 0)) fun d44 =>
        ob (sgBox q43.2 t0i) fun c45 =>
        ob (cellDat c45 20) fun d46 =>
        ob (R.r F_mach_Machine_goes [(.undef, (.ptr t0i 0)), ((.agg [(proj 0 d44), (proj 1 d44), (proj 2 d44), (proj 3 d44), (proj 4 d44), (proj 5 d44), (proj 6 d44), (proj 7 d44), (proj 8 d44), (proj 9 d44), (proj 10 d44), (proj 11 d44), (proj 12 d44), (proj 13 d44), (proj 14 d44), (proj 15 d44), (proj 16 d44), (proj 17 d44), (proj 18 d44), (proj 19 d44)]), .val), (d46, .val)] q43.2) fun q47 =>
        some ([], q47.2)))
       (some ([], sg))))))) := evP_of [13, 30] (by kernel_rfl)
theorem fix_mach_Machine_term (x0 : Nat) (sg : List SObj) : (run cfg).r F_mach_Machine_term [(.undef, (.ptr x0 0))] sg = P_mach_Machine_term (run cfg) x0 sg :=
  (fix_raw (C := cfg) (f := F_mach_Machine_term) (s := sig_mach_Machine_term) (fn := Try.f22) (c := code_mach_Machine_term) (by kernel_rfl) Try.func22 (by kernel_rfl) (by kernel_rfl)).trans (by kernel_rfl)
noncomputable def code_mach_Machine_frame : Code := Try.f23.body.getD .skip
noncomputable def P_mach_Machine_frame (R : Orc) (x0 : Nat) (x1 : DV) (sg : List SObj) : Option (List DV × List SObj) := evP cfg R fl_mach_Machine_frame (retR cfg.P Try.f23 sig_mach_Machine_frame) [] code_mach_Machine_frame (initSt Try.f23 [(.undef, (.ptr x0 0)), (x1, .val)] sg)
noncomputable def P_mach_Machine_frame_15 (R : Orc) (t0i : Nat) (b3 : DV) (sg : List SObj) : Option (List DV × List SObj) := evP cfg R fl_mach_Machine_frame (retR cfg.P Try.f23 sig_mach_Machine_frame) [true, true, false, true, true, true, true, true, true, true, true, true, true, true, false, true] code_mach_Machine_frame ⟨spread .undef 194 0 [], spread .val 194 0 [(0, (.ptr t0i 0)), (3, (.loc 3 0))], spread none 194 0 [(3, some [((proj 0 b3), .val), ((proj 1 b3), .val), ((proj 2 b3), .val), ((proj 3 b3), .val), ((proj 4 b3), .val), ((proj 5 b3), .val), ((proj 6 b3), .val), ((proj 7 b3), .val), ((proj 8 b3), .val), ((proj 9 b3), .val), ((proj 10 b3), .val), ((proj 11 b3), .val), ((proj 12 b3), .val), ((proj 13 b3), .val), ((proj 14 b3), .val), ((proj 15 b3), .val), ((proj 16 b3), .val), ((proj 17 b3), .val), ((proj 18 b3), .val), ((proj 19 b3), .val), ((proj 20 b3), .val), ((proj 21 b3), .val), ((proj 22 b3), .val), ((proj 23 b3), .val), ((proj 24 b3), .val), ((proj 25 b3), .val), ((proj 26 b3), .val), ((proj 27 b3), .val), ((proj 28 b3), .val), ((proj 29 b3), .val), ((proj 30 b3), .val), ((proj 31 b3), .val), ((proj 32 b3), .val), ((proj 33 b3), .val), ((proj 34 b3), .val), ((proj 35 b3), .val), ((proj 36 b3), .val), ((proj 37 b3), .val), ((proj 38 b3), .val), ((proj 39 b3), .val), ((proj 40 b3), .val), ((proj 41 b3), .val), ((proj 42 b3), .val), ((proj 43 b3), .val), ((proj 44 b3), .val), ((proj 45 b3), .val), ((proj 46 b3), .val), ((proj 47 b3), .val), ((proj 48 b3), .val), ((proj 49 b3), .val), ((proj 50 b3), .val), ((proj 51 b3), .val), ((proj 52 b3), .val), ((proj 53 b3), .val), ((proj 54 b3), .val), ((proj 55 b3), .val), ((proj 56 b3), .val)])], sg⟩
noncomputable def P_mach_Machine_frame_20 (R : Orc) (t0i : Nat) (t9 : DV) (b3 : DV) (sg : List SObj) : Option (List DV × List SObj) := evP cfg R fl_mach_Machine_frame (retR cfg.P Try.f23 sig_mach_Machine_frame) [true, true, false, true, true, true, true, true, true, true, true, true, true, true, true, true, true, true, true] code_mach_Machine_frame ⟨spread .undef 194 0 [(9, t9)], spread .val 194 0 [(0, (.ptr t0i 0)), (3, (.loc 3 0))], spread none 194 0 [(3, some [((proj 0 b3), .val), ((proj 1 b3), .val), ((proj 2 b3), .val), ((proj 3 b3), .val), ((proj 4 b3), .val), ((proj 5 b3), .val), ((proj 6 b3), .val), ((proj 7 b3), .val), ((proj 8 b3), .val), ((proj 9 b3), .val), ((proj 10 b3), .val), ((proj 11 b3), .val), ((proj 12 b3), .val), ((proj 13 b3), .val), ((proj 14 b3), .val), ((proj 15 b3), .val), ((proj 16 b3), .val), ((proj 17 b3), .val), ((proj 18 b3), .val), ((proj 19 b3), .val), ((proj 20 b3), .val), ((proj 21 b3), .val), ((proj 22 b3), .val), ((proj 23 b3), .val), ((proj 24 b3), .val), ((proj 25 b3), .val), ((proj 26 b3), .val), ((proj 27 b3), .val), ((proj 28 b3), .val), ((proj 29 b3), .val), ((proj 30 b3), .val), ((proj 31 b3), .val), ((proj 32 b3), .val), ((proj 33 b3), .val), ((proj 34 b3), .val), ((proj 35 b3), .val), ((proj 36 b3), .val), ((proj 37 b3), .val), ((proj 38 b3), .val), ((proj 39 b3), .val), ((proj 40 b3), .val), ((proj 41 b3), .val), ((proj 42 b3), .val), ((proj 43 b3), .val), ((proj 44 b3), .val), ((proj 45 b3), .val), ((proj 46 b3), .val), ((proj 47 b3), .val), ((proj 48 b3), .val), ((proj 49 b3), .val), ((proj 50 b3), .val), ((proj 51 b3), .val), ((proj 52 b3), .val), ((proj 53 b3), .val), ((proj 54 b3), .val), ((proj 55 b3), .val), ((proj 56 b3), .val)])], sg⟩
set_option maxRecDepth 100000 in
theorem eq_mach_Machine_frame (R : Orc) (x0 : Nat) (x1 : DV) (sg : List SObj) : P_mach_Machine_frame R x0 x1 sg =
  (og (isAggN 57 x1) <|
  ob (dBin .eql (proj 0 x1) (.int .i64 1)) fun d1 =>
  oif d1
   (ob (R.r F_mach_Machine_then [(.undef, (.ptr x0 0)), ((.int .i64 2), .val), ((.agg [(proj 0 x1), (proj 1 x1), (proj 2 x1), (proj 3 x1), (proj 4 x1), (proj 5 x1), (proj 6 x1), (proj 7 x1), (proj 8 x1), (proj 9 x1), (proj 10 x1), (proj 11 x1), (proj 12 x1), (proj 13 x1), (proj 14 x1), (proj 15 x1), (proj 16 x1), (proj 17 x1), (proj 18 x1), (proj 19 x1), (proj 20 x1), (proj 21 x1), (proj 22 x1), (proj 23 x1), (proj 24 x1), (proj 25 x1), (proj 26 x1), (proj 27 x1), (proj 28 x1), (proj 29 x1), (proj 30 x1), (proj 31 x1), (proj 32 x1), (proj 33 x1), (proj 34 x1), (proj 35 x1), (proj 36 x1), (proj 37 x1), (proj 38 x1), (proj 39 x1), (proj 40 x1), (proj 41 x1), (proj 42 x1), (proj 43 x1), (proj 44 x1), (proj 45 x1), (proj 46 x1), (proj 47 x1), (proj 48 x1), (proj 49 x1), (proj 50 x1), (proj 51 x1), (proj 52 x1), (proj 53 x1), (proj 54 x1), (proj 55 x1), (proj 56 x1)]), .val), ((.agg [(proj 1 x1), (proj 2 x1), (proj 3 x1), (proj 4 x1), (proj 5 x1), (proj 6 x1), (proj 7 x1), (proj 8 x1), (proj 9 x1), (proj 10 x1), (proj 11 x1), (proj 12 x1), (proj 13 x1), (proj 14 x1), (proj 15 x1), (proj 16 x1), (proj 17 x1), (proj 18 x1), (proj 19 x1), (proj 20 x1)]), .val)] sg) fun q2 =>
   some ([], q2.2))
   (ob (dBin .eql (proj 0 x1) (.int .i64 3)) fun d3 =>
   oif d3
    (ob (R.r F_mach_Machine_then [(.undef, (.ptr x0 0)), ((.int .i64 4), .val), ((.agg [(proj 0 x1), (proj 1 x1), (proj 2 x1), (proj 3 x1), (proj 4 x1), (proj 5 x1), (proj 6 x1), (proj 7 x1), (proj 8 x1), (proj 9 x1), (proj 10 x1), (proj 11 x1), (proj 12 x1), (proj 13 x1), (proj 14 x1), (proj 15 x1), (proj 16 x1), (proj 17 x1), (proj 18 x1), (proj 19 x1), (proj 20 x1), (proj 21 x1), (proj 22 x1), (proj 23 x1), (proj 24 x1), (proj 25 x1), (proj 26 x1), (proj 27 x1), (proj 28 x1), (proj 29 x1), (proj 30 x1), (proj 31 x1), (proj 32 x1), (proj 33 x1), (proj 34 x1), (proj 35 x1), (proj 36 x1), (proj 37 x1), (proj 38 x1), (proj 39 x1), (proj 40 x1), (proj 41 x1), (proj 42 x1), (proj 43 x1), (proj 44 x1), (proj 45 x1), (proj 46 x1), (proj 47 x1), (proj 48 x1), (proj 49 x1), (proj 50 x1), (proj 51 x1), (proj 52 x1), (proj 53 x1), (proj 54 x1), (proj 55 x1), (proj 56 x1)]), .val), ((.agg [(proj 1 x1), (proj 2 x1), (proj 3 x1), (proj 4 x1), (proj 5 x1), (proj 6 x1), (proj 7 x1), (proj 8 x1), (proj 9 x1), (proj 10 x1), (proj 11 x1), (proj 12 x1), (proj 13 x1), (proj 14 x1), (proj 15 x1), (proj 16 x1), (proj 17 x1), (proj 18 x1), (proj 19 x1), (proj 20 x1)]), .val)] sg) fun q4 =>
    some ([], q4.2))
    (ob (dBin .eql (proj 0 x1) (.int .i64 5)) fun d5 =>
    oif d5
     (ob (R.r F_mach_Machine_then [(.undef, (.ptr x0 0)), ((.int .i64 6), .val), ((.agg [(proj 0 x1), (proj 1 x1), (proj 2 x1), (proj 3 x1), (proj 4 x1), (proj 5 x1), (proj 6 x1), (proj 7 x1), (proj 8 x1), (proj 9 x1), (proj 10 x1), (proj 11 x1), (proj 12 x1), (proj 13 x1), (proj 14 x1), (proj 15 x1), (proj 16 x1), (proj 17 x1), (proj 18 x1), (proj 19 x1), (proj 20 x1), (proj 21 x1), (proj 22 x1), (proj 23 x1), (proj 24 x1), (proj 25 x1), (proj 26 x1), (proj 27 x1), (proj 28 x1), (proj 29 x1), (proj 30 x1), (proj 31 x1), (proj 32 x1), (proj 33 x1), (proj 34 x1), (proj 35 x1), (proj 36 x1), (proj 37 x1), (proj 38 x1), (proj 39 x1), (proj 40 x1), (proj 41 x1), (proj 42 x1), (proj 43 x1), (proj 44 x1), (proj 45 x1), (proj 46 x1), (proj 47 x1), (proj 48 x1), (proj 49 x1), (proj 50 x1), (proj 51 x1), (proj 52 x1), (proj 53 x1), (proj 54 x1), (proj 55 x1), (proj 56 x1)]), .val), ((.agg [(proj 1 x1), (proj 2 x1), (proj 3 x1), (proj 4 x1), (proj 5 x1), (proj 6 x1), (proj 7 x1), (proj 8 x1), (proj 9 x1), (proj 10 x1), (proj 11 x1), (proj 12 x1), (proj 13 x1), (proj 14 x1), (proj 15 x1), (proj 16 x1), (proj 17 x1), (proj 18 x1), (proj 19 x1), (proj 20 x1)]), .val)] sg) fun q6 =>
     some ([], q6.2))
     (ob (dBin .eql (proj 0 x1) (.int .i64 10)) fun d7 =>
     oif d7
      (ob (dIdx 20 (proj 20 x1) (.int .i64 1)) fun d8 =>
      ob (R.r F_mach_Machine_then [(.undef, (.ptr x0 0)), ((.int .i64 11), .val), ((.agg [(proj 0 x1), (proj 1 x1), (proj 2 x1), (proj 3 x1), (proj 4 x1), (proj 5 x1), (proj 6 x1), (proj 7 x1), (proj 8 x1), (proj 9 x1), (proj 10 x1), (proj 11 x1), (proj 12 x1), (proj 13 x1), (proj 14 x1), (proj 15 x1), (proj 16 x1), (proj 17 x1), (proj 18 x1), (proj 19 x1), (proj 20 x1), (proj 21 x1), (proj 22 x1), (proj 23 x1), (proj 24 x1), (proj 25 x1), (proj 26 x1), (proj 27 x1), (proj 28 x1), (proj 29 x1), (proj 30 x1), (proj 31 x1), (proj 32 x1), (proj 33 x1), (proj 34 x1), (proj 35 x1), (proj 36 x1), (proj 37 x1), (proj 38 x1), (proj 39 x1), (proj 40 x1), (proj 41 x1), (proj 42 x1), (proj 43 x1), (proj 44 x1), (proj 45 x1), (proj 46 x1), (proj 47 x1), (proj 48 x1), (proj 49 x1), (proj 50 x1), (proj 51 x1), (proj 52 x1), (proj 53 x1), (proj 54 x1), (proj 55 x1), (proj 56 x1)]), .val), ((.agg [(proj 0 d8), (proj 1 d8), (proj 2 d8), (proj 3 d8), (proj 4 d8), (proj 5 d8), (proj 6 d8), (proj 7 d8), (proj 8 d8), (proj 9 d8), (proj 10 d8), (proj 11 d8), (proj 12 d8), (proj 13 d8), (proj 14 d8), (proj 15 d8), (proj 16 d8), (proj 17 d8), (proj 18 d8), (proj 19 d8)]), .val)] sg) fun q9 =>
      some ([], q9.2))
      (ob (dBin .eql (proj 0 x1) (.int .i64 2)) fun d10 =>
      oif d10
       (ob (sgBox sg x0) fun c11 =>
       ob (segDat 21 9 c11) fun e12 =>
       og (isAggN 9 (.agg e12)) <|
       ob (R.r F_mach_Machine_gives [(.undef, (.ptr x0 0)), ((.agg [(.int .i64 5), (.int .i64 0), (.str ⟨#[]⟩), (.int .i64 0), (.int .i64 0), (.int .i64 0), (.bool false), (.list 5 []), (.list 9 [(.agg [(proj 43 x1), (proj 44 x1), (proj 45 x1), (proj 46 x1), (proj 47 x1), (proj 48 x1), (proj 49 x1), (proj 50 x1), (proj 51 x1)]), (.agg e12)])]), .val)] sg) fun q13 =>
       some ([], q13.2))
       (ob (dBin .eql (proj 0 x1) (.int .i64 4)) fun d14 =>
       oif d14
        (ob (sgBox sg x0) fun c15 =>
        ob (cellDat c15 21) fun d16 =>
        ob (dBin .neq d16 (.int .i64 6)) fun d17 =>
        ogd d17
         (ob (sgBox sg x0) fun c18 =>
         ob (cellDat c18 21) fun d19 =>
         ob (dBin .neq d19 (.int .i64 7)) fun d20 =>
         ogd d20
          (ob (R.r F_mach_Machine_stuck [(.undef, (.ptr x0 0))] sg) fun q21 =>
          some ([], q21.2))
          (ob (sgBox sg x0) fun c22 =>
          ob (cellDat c22 24) fun d23 =>
          ob (dBin .eql d23 (.int .i64 5)) fun d24 =>
          oif d24
           (ob (R.r F_mach_Machine_stuck [(.undef, (.ptr x0 0))] sg) fun q25 =>
           some ([], q25.2))
           (P_mach_Machine_frame_15 R x0 x1 sg))
          none)
         (ob (sgBox sg x0) fun c26 =>
         ob (cellDat c26 24) fun d27 =>
         ob (dBin .eql d27 (.int .i64 5)) fun d28 =>
         oif d28
          (ob (R.r F_mach_Machine_stuck [(.undef, (.ptr x0 0))] sg) fun q29 =>
          some ([], q29.2))
          (P_mach_Machine_frame_15 R x0 x1 sg))
         none)
        (ob (dBin .eql (proj 0 x1) (.int .i64 6)) fun d30 =>
        oif d30
         (ob (R.r F_mach_Machine_call [(.undef, (.ptr x0 0)), ((.agg [(proj 43 x1), (proj 44 x1), (proj 45 x1), (proj 46 x1), (proj 47 x1), (proj 48 x1), (proj 49 x1), (proj 50 x1), (proj 51 x1)]), .val)] sg) fun q31 =>
         some ([], q31.2))
         (ob (dBin .eql (proj 0 x1) (.int .i64 7)) fun d32 =>
         oif d32
          (ob (sgBox sg x0) fun c33 =>
          ob (segDat 21 9 c33) fun e34 =>
          ob (R.p F_mach_env_with [(proj 42 x1), (proj 41 x1), (.agg e34)]) fun d35 =>
          ob (R.r F_mach_Machine_goes [(.undef, (.ptr x0 0)), ((.agg [(proj 1 x1), (proj 2 x1), (proj 3 x1), (proj 4 x1), (proj 5 x1), (proj 6 x1), (proj 7 x1), (proj 8 x1), (proj 9 x1), (proj 10 x1), (proj 11 x1), (proj 12 x1), (proj 13 x1), (proj 14 x1), (proj 15 x1), (proj 16 x1), (proj 17 x1), (proj 18 x1), (proj 19 x1), (proj 20 x1)]), .val), (d35, .val)] sg) fun q36 =>
          some ([], q36.2))
          (P_mach_Machine_frame_20 R x0 (proj 0 x1) x1 sg))))))))) := evP_of [15, 20] (by kernel_rfl)
theorem eq_mach_Machine_frame_15 (R : Orc) (t0i : Nat) (b3 : DV) (sg : List SObj) : P_mach_Machine_frame_15 R t0i b3 sg =
  (ob (sgBox sg t0i) fun c1 =>
  ob (segDat 21 9 c1) fun e2 =>
  og (isAggN 9 (.agg e2)) <|
  ob (R.r F_mach_Machine_gives [(.undef, (.ptr t0i 0)), ((.agg [(.int .i64 7), (.int .i64 0), (.str ⟨#[]⟩), (.int .i64 0), (.int .i64 0), (.int .i64 0), (.bool false), (.list 5 []), (.list 9 [(.agg [(proj 43 b3), (proj 44 b3), (proj 45 b3), (proj 46 b3), (proj 47 b3), (proj 48 b3), (proj 49 b3), (proj 50 b3), (proj 51 b3)]), (.agg e2)])]), .val)] sg) fun q3 =>
  some ([], q3.2)) := evP_of [15, 20] (by kernel_rfl)
set_option maxRecDepth 100000 in
theorem eq_mach_Machine_frame_20 (R : Orc) (t0i : Nat) (t9 : DV) (b3 : DV) (sg : List SObj) : P_mach_Machine_frame_20 R t0i t9 b3 sg =
  (ob (dBin .eql t9 (.int .i64 8)) fun d1 =>
  oif d1
   (ob (sgBox sg t0i) fun c2 =>
   ob (cellDat c2 21) fun d3 =>
   ob (dBin .neq d3 (.int .i64 2)) fun d4 =>
   ogd d4
    (ob (R.r F_mach_Machine_stuck [(.undef, (.ptr t0i 0))] sg) fun q5 =>
    some ([], q5.2))
    (ob (sgBox sg t0i) fun c6 =>
    ob (segDat 21 9 c6) fun e7 =>
    ob (R.p F_mach_plain [(.agg e7)]) fun d8 =>
    ob (dUn .not d8) fun d9 =>
    oif d9
     (ob (R.r F_mach_Machine_stuck [(.undef, (.ptr t0i 0))] sg) fun q10 =>
     some ([], q10.2))
     (ob (sgBox sg t0i) fun c11 =>
     ob (cellDat c11 22) fun d12 =>
     ob (dBin .eql d12 (.int .i64 1)) fun d13 =>
     oif d13
      (ob (R.r F_mach_Machine_goes [(.undef, (.ptr t0i 0)), ((.agg [(proj 1 b3), (proj 2 b3), (proj 3 b3), (proj 4 b3), (proj 5 b3), (proj 6 b3), (proj 7 b3), (proj 8 b3), (proj 9 b3), (proj 10 b3), (proj 11 b3), (proj 12 b3), (proj 13 b3), (proj 14 b3), (proj 15 b3), (proj 16 b3), (proj 17 b3), (proj 18 b3), (proj 19 b3), (proj 20 b3)]), .val), ((proj 42 b3), .val)] sg) fun q14 =>
      some ([], q14.2))
      (ob (R.r F_mach_Machine_goes [(.undef, (.ptr t0i 0)), ((.agg [(proj 21 b3), (proj 22 b3), (proj 23 b3), (proj 24 b3), (proj 25 b3), (proj 26 b3), (proj 27 b3), (proj 28 b3), (proj 29 b3), (proj 30 b3), (proj 31 b3), (proj 32 b3), (proj 33 b3), (proj 34 b3), (proj 35 b3), (proj 36 b3), (proj 37 b3), (proj 38 b3), (proj 39 b3), (proj 40 b3)]), .val), ((proj 42 b3), .val)] sg) fun q15 =>
      some ([], q15.2))))
    none)
   (ob (dBin .eql t9 (.int .i64 11)) fun d16 =>
   oif d16
    (ob (sgBox sg t0i) fun c17 =>
    ob (segDat 21 9 c17) fun e18 =>
    ob (R.p F_mach_operate [(.agg [(proj 1 b3), (proj 2 b3), (proj 3 b3), (proj 4 b3), (proj 5 b3), (proj 6 b3), (proj 7 b3), (proj 8 b3), (proj 9 b3), (proj 10 b3), (proj 11 b3), (proj 12 b3), (proj 13 b3), (proj 14 b3), (proj 15 b3), (proj 16 b3), (proj 17 b3), (proj 18 b3), (proj 19 b3), (proj 20 b3)]), (.agg [(proj 43 b3), (proj 44 b3), (proj 45 b3), (proj 46 b3), (proj 47 b3), (proj 48 b3), (proj 49 b3), (proj 50 b3), (proj 51 b3)]), (.agg e18)]) fun d19 =>
    ob (dExt 0 d19) fun d20 =>
    ob (dExt 1 d19) fun d21 =>
    og (isAggN 9 d20) <|
    og (isAggN 15 d21) <|
    ob (dBin .neq (proj 0 d21) (.int .i64 0)) fun d22 =>
    oif d22
     (ob (R.r F_mach_Machine_ends [(.undef, (.ptr t0i 0)), ((.agg [(proj 0 d21), (proj 1 d21), (proj 2 d21), (proj 3 d21), (proj 4 d21), (proj 5 d21), (proj 6 d21), (proj 7 d21), (proj 8 d21), (proj 9 d21), (proj 10 d21), (proj 11 d21), (proj 12 d21), (proj 13 d21), (proj 14 d21)]), .val)] sg) fun q23 =>
     some ([], q23.2))
     (ob (R.r F_mach_Machine_gives [(.undef, (.ptr t0i 0)), ((.agg [(proj 0 d20), (proj 1 d20), (proj 2 d20), (proj 3 d20), (proj 4 d20), (proj 5 d20), (proj 6 d20), (proj 7 d20), (proj 8 d20)]), .val)] sg) fun q24 =>
     some ([], q24.2)))
    (ob (dBin .eql t9 (.int .i64 9)) fun d25 =>
    oif d25
     (ob (R.r F_mach_Machine_match [(.undef, (.ptr t0i 0)), ((.agg [(proj 0 b3), (proj 1 b3), (proj 2 b3), (proj 3 b3), (proj 4 b3), (proj 5 b3), (proj 6 b3), (proj 7 b3), (proj 8 b3), (proj 9 b3), (proj 10 b3), (proj 11 b3), (proj 12 b3), (proj 13 b3), (proj 14 b3), (proj 15 b3), (proj 16 b3), (proj 17 b3), (proj 18 b3), (proj 19 b3), (proj 20 b3), (proj 21 b3), (proj 22 b3), (proj 23 b3), (proj 24 b3), (proj 25 b3), (proj 26 b3), (proj 27 b3), (proj 28 b3), (proj 29 b3), (proj 30 b3), (proj 31 b3), (proj 32 b3), (proj 33 b3), (proj 34 b3), (proj 35 b3), (proj 36 b3), (proj 37 b3), (proj 38 b3), (proj 39 b3), (proj 40 b3), (proj 41 b3), (proj 42 b3), (proj 43 b3), (proj 44 b3), (proj 45 b3), (proj 46 b3), (proj 47 b3), (proj 48 b3), (proj 49 b3), (proj 50 b3), (proj 51 b3), (proj 52 b3), (proj 53 b3), (proj 54 b3), (proj 55 b3), (proj 56 b3)]), .val)] sg) fun q26 =>
     some ([], q26.2))
     (ob (dBin .eql t9 (.int .i64 12)) fun d27 =>
     oif d27
      (ob (sgBox sg t0i) fun c28 =>
      ob (segDat 21 9 c28) fun e29 =>
      ob (R.r F_mach_Machine_wrap [(.undef, (.ptr t0i 0)), ((.agg e29), .val), ((.agg [(proj 52 b3), (proj 53 b3), (proj 54 b3), (proj 55 b3), (proj 56 b3)]), .val)] sg) fun q30 =>
      ob (dExt 0 (.tup q30.1)) fun d31 =>
      ob (dExt 1 (.tup q30.1)) fun d32 =>
      og (isAggN 9 d31) <|
      oif d32
       (ob (R.r F_mach_Machine_gives [(.undef, (.ptr t0i 0)), ((.agg [(proj 0 d31), (proj 1 d31), (proj 2 d31), (proj 3 d31), (proj 4 d31), (proj 5 d31), (proj 6 d31), (proj 7 d31), (proj 8 d31)]), .val)] q30.2) fun q33 =>
       some ([], q33.2))
       (some ([], q30.2)))
      (some ([], sg)))))) := evP_of [15, 20] (by kernel_rfl)
theorem fix_mach_Machine_frame (x0 : Nat) (x1 : DV) (sg : List SObj) : (run cfg).r F_mach_Machine_frame [(.undef, (.ptr x0 0)), (x1, .val)] sg = P_mach_Machine_frame (run cfg) x0 x1 sg :=
  (fix_raw (C := cfg) (f := F_mach_Machine_frame) (s := sig_mach_Machine_frame) (fn := Try.f23) (c := code_mach_Machine_frame) (by kernel_rfl) Try.func23 (by kernel_rfl) (by kernel_rfl)).trans (by kernel_rfl)
noncomputable def code_r03_Leaf : Code := Try.f24.body.getD .skip
noncomputable def P_r03_Leaf (R : Orc) (x0 : DV) : Option DV := evP cfg R fl_r03_Leaf (retP cfg.P Try.f24) [] code_r03_Leaf (initSt Try.f24 [(x0, .val)] [])
theorem eq_r03_Leaf (R : Orc) (x0 : DV) : P_r03_Leaf R x0 =
  (og (isCell x0) <|
  some (.agg [x0, (.int .i64 0), (.list 3 [])])) := evP_of [] (by kernel_rfl)
theorem fix_r03_Leaf (x0 : DV) : (run cfg).p F_r03_Leaf [x0] = P_r03_Leaf (run cfg) x0 :=
  (fix_pure (C := cfg) (f := F_r03_Leaf) (fn := Try.f24) (c := code_r03_Leaf) (by kernel_rfl) Try.func24 (by kernel_rfl)).trans (by kernel_rfl)
noncomputable def code_slices_EqualFunc__api_Coer__api_Coer_api_Coer_api_Coer : Code := Try.f25.body.getD .skip
noncomputable def P_slices_EqualFunc__api_Coer__api_Coer_api_Coer_api_Coer (R : Orc) (x0 : DV) (x1 : DV) (sg : List SObj) : Option (List DV × List SObj) := evP cfg R fl_slices_EqualFunc__api_Coer__api_Coer_api_Coer_api_Coer (retR cfg.P Try.f25 sig_slices_EqualFunc__api_Coer__api_Coer_api_Coer_api_Coer) [] code_slices_EqualFunc__api_Coer__api_Coer_api_Coer_api_Coer (initSt Try.f25 [(x0, .val), (x1, .val), (.undef, (.fn 16 []))] sg)
noncomputable def P_slices_EqualFunc__api_Coer__api_Coer_api_Coer_api_Coer_4h (R : Orc) (t1 : DV) (t15 : DV) (t16 : DV) (t17 : DV) (sg : List SObj) : Option (List DV × List SObj) := headP cfg R fl_slices_EqualFunc__api_Coer__api_Coer_api_Coer_api_Coer (retR cfg.P Try.f25 sig_slices_EqualFunc__api_Coer__api_Coer_api_Coer_api_Coer) [true, true, false, true, false] code_slices_EqualFunc__api_Coer__api_Coer_api_Coer_api_Coer ⟨spread .undef 32 0 [(1, t1), (15, t15), (16, t16), (17, t17)], spread .val 32 0 [(2, (.fn 16 []))], spread none 32 0 [], sg⟩
theorem eq_slices_EqualFunc__api_Coer__api_Coer_api_Coer_api_Coer (R : Orc) (x0 : DV) (x1 : DV) (sg : List SObj) : P_slices_EqualFunc__api_Coer__api_Coer_api_Coer_api_Coer R x0 x1 sg =
  (ob (dLen x0) fun d1 =>
  ob (dLen x1) fun d2 =>
  ob (dBin .neq d1 d2) fun d3 =>
  oif d3
   (some ([(.bool false)], sg))
   (ob (dLen x0) fun d4 =>
   P_slices_EqualFunc__api_Coer__api_Coer_api_Coer_api_Coer_4h R x1 x0 d4 (.int .i64 0) sg)) := evP_of [] (by kernel_rfl)
theorem eq_slices_EqualFunc__api_Coer__api_Coer_api_Coer_api_Coer_4h (R : Orc) (t1 : DV) (t15 : DV) (t16 : DV) (t17 : DV) (sg : List SObj) : P_slices_EqualFunc__api_Coer__api_Coer_api_Coer_api_Coer_4h R t1 t15 t16 t17 sg =
  (ob (dBin .lss t17 t16) fun d1 =>
  oif d1
   (ob (dIdx 5 t15 t17) fun d2 =>
   ob (dIdx 5 t1 t17) fun d3 =>
   ob (R.p F_coer_Same [(.agg [(proj 0 d2), (proj 1 d2), (proj 2 d2), (proj 3 d2), (proj 4 d2)]), (.agg [(proj 0 d3), (proj 1 d3), (proj 2 d3), (proj 3 d3), (proj 4 d3)])]) fun d4 =>
   ob (dUn .not d4) fun d5 =>
   oif d5
    (some ([(.bool false)], sg))
    (ob (dBin .add t17 (.int .i64 1)) fun d6 =>
    P_slices_EqualFunc__api_Coer__api_Coer_api_Coer_api_Coer_4h R t1 t15 t16 d6 sg))
   (some ([(.bool true)], sg))) := headP_of [] (by kernel_rfl)
theorem fix_slices_EqualFunc__api_Coer__api_Coer_api_Coer_api_Coer (x0 : DV) (x1 : DV) (sg : List SObj) : (run cfg).r F_slices_EqualFunc__api_Coer__api_Coer_api_Coer_api_Coer [(x0, .val), (x1, .val), (.undef, (.fn 16 []))] sg = P_slices_EqualFunc__api_Coer__api_Coer_api_Coer_api_Coer (run cfg) x0 x1 sg :=
  (fix_raw (C := cfg) (f := F_slices_EqualFunc__api_Coer__api_Coer_api_Coer_api_Coer) (s := sig_slices_EqualFunc__api_Coer__api_Coer_api_Coer_api_Coer) (fn := Try.f25) (c := code_slices_EqualFunc__api_Coer__api_Coer_api_Coer_api_Coer) (by kernel_rfl) Try.func25 (by kernel_rfl) (by kernel_rfl)).trans (by kernel_rfl)
end Go.Su

/-
  Equations of the program's functions: by program.
-/
namespace Go.Su
open Go.Proofs
set_option linter.unusedVariables false

noncomputable def code_term_right : Code := Try.f26.body.getD .skip
noncomputable def P_term_right (R : Orc) (x0 : DV) : Option DV := evP cfg R fl_term_right (retP cfg.P Try.f26) [] code_term_right (initSt Try.f26 [(x0, .val)] [])
noncomputable def P_term_right_4h (R : Orc) (t9 : DV) (t10 : DV) (t11 : DV) : Option DV := headP cfg R fl_term_right (retP cfg.P Try.f26) [true, true, false, true, false] code_term_right ⟨spread .undef 19 0 [(9, t9), (10, t10), (11, t11)], spread .val 19 0 [], spread none 19 0 [], []⟩
theorem eq_term_right (R : Orc) (x0 : DV) : P_term_right R x0 =
  (og (isAggN 20 x0) <|
  ob (R.p F_term_one [(.agg [(proj 0 x0), (proj 1 x0), (proj 2 x0), (proj 3 x0), (proj 4 x0), (proj 5 x0), (proj 6 x0), (proj 7 x0), (proj 8 x0), (proj 9 x0), (proj 10 x0), (proj 11 x0), (proj 12 x0), (proj 13 x0), (proj 14 x0), (proj 15 x0), (proj 16 x0), (proj 17 x0), (proj 18 x0), (proj 19 x0)])]) fun d1 =>
  ob (dUn .not d1) fun d2 =>
  oif d2
   (some (.bool false))
   (ob (dLen (proj 19 x0)) fun d3 =>
   P_term_right_4h R (proj 19 x0) d3 (.int .i64 0))) := evP_of [] (by kernel_rfl)
theorem eq_term_right_4h (R : Orc) (t9 : DV) (t10 : DV) (t11 : DV) : P_term_right_4h R t9 t10 t11 =
  (ob (dBin .lss t11 t10) fun d1 =>
  oif d1
   (ob (dIdx 20 t9 t11) fun d2 =>
   ob (R.p F_term_right [(.agg [(proj 0 d2), (proj 1 d2), (proj 2 d2), (proj 3 d2), (proj 4 d2), (proj 5 d2), (proj 6 d2), (proj 7 d2), (proj 8 d2), (proj 9 d2), (proj 10 d2), (proj 11 d2), (proj 12 d2), (proj 13 d2), (proj 14 d2), (proj 15 d2), (proj 16 d2), (proj 17 d2), (proj 18 d2), (proj 19 d2)])]) fun d3 =>
   ob (dUn .not d3) fun d4 =>
   oif d4
    (some (.bool false))
    (ob (dBin .add t11 (.int .i64 1)) fun d5 =>
    P_term_right_4h R t9 t10 d5))
   (some (.bool true))) := headP_of [] (by kernel_rfl)
theorem fix_term_right (x0 : DV) : (run cfg).p F_term_right [x0] = P_term_right (run cfg) x0 :=
  (fix_pure (C := cfg) (f := F_term_right) (fn := Try.f26) (c := code_term_right) (by kernel_rfl) Try.func26 (by kernel_rfl)).trans (by kernel_rfl)
noncomputable def code_mach_cloneType : Code := Try.f27.body.getD .skip
noncomputable def P_mach_cloneType (R : Orc) (x0 : DV) : Option DV := evP cfg R fl_mach_cloneType (retP cfg.P Try.f27) [] code_mach_cloneType (initSt Try.f27 [(x0, .val)] [])
noncomputable def P_mach_cloneType_3h (R : Orc) (t10r3 : Nat) (t11 : DV) (t12 : DV) (b1_0 : DV) (b1_1 : DV) (b1_2r3 : Nat) (b2_0 : DV) (b2_1 : DV) (b2_2 : DV) (sg : List SObj) : Option DV := headP cfg R fl_mach_cloneType (retP cfg.P Try.f27) [true, true, false, true, false] code_mach_cloneType ⟨spread .undef 25 0 [(11, t11), (12, t12)], spread .val 25 0 [(1, (.loc 1 0)), (2, (.loc 2 0)), (10, (.arr 0 3 0 t10r3))], spread none 25 0 [(1, some [(b1_0, .val), (b1_1, .val), (.undef, (.arr 0 3 0 b1_2r3))]), (2, some [(b2_0, .val), (b2_1, .val), (b2_2, .val)])], sg⟩
theorem eq_mach_cloneType (R : Orc) (x0 : DV) : P_mach_cloneType R x0 =
  (og (isAggN 3 x0) <|
  ob (dList (proj 2 x0)) fun p1 =>
  og (true && p1.1 == 3 && decide (p1.2.length ≤ lim)) <|
  P_mach_cloneType_3h R (p1.2.length) (.int .i64 p1.2.length) (.int .i64 0) (proj 0 x0) (proj 1 x0) (p1.2.length) (.int .i64 0) (.int .i64 0) (.list 3 []) [.arr 3 p1.2]) := evP_of [] (by kernel_rfl)
theorem eq_mach_cloneType_3h (R : Orc) (t10r3 : Nat) (t11 : DV) (t12 : DV) (b1_0 : DV) (b1_1 : DV) (b1_2r3 : Nat) (b2_0 : DV) (b2_1 : DV) (b2_2 : DV) (sg : List SObj) : P_mach_cloneType_3h R t10r3 t11 t12 b1_0 b1_1 b1_2r3 b2_0 b2_1 b2_2 sg =
  (ob (dBin .lss t12 t11) fun d1 =>
  oif d1
   (ob (arrIdx 0 t10r3 t12) fun n2 =>
   ob (sgArr sg 0) fun r3 =>
   ob (r3.2[n2]?) fun d4 =>
   og (r3.1 == 3) <|
   ob (R.p F_mach_cloneType [(.agg [(proj 0 d4), (proj 1 d4), (proj 2 d4)])]) fun d5 =>
   ob (arrIdx 0 b1_2r3 t12) fun n6 =>
   ob (sgArr sg 0) fun r7 =>
   ob (r7.2[n6]?) fun u8 =>
   og (isAggN 3 d5) <|
   og (r7.1 == 3) <|
   ob (dBin .add t12 (.int .i64 1)) fun d9 =>
   P_mach_cloneType_3h R t10r3 t11 d9 b1_0 b1_1 b1_2r3 b2_0 b2_1 b2_2 (sg.set 0 (.arr 3 (r7.2.set n6 d5))))
   (retL [ob (sealCells sg [(b1_0, .val), (b1_1, .val), (.undef, (.arr 0 3 0 b1_2r3))]) fun ds => some (.agg ds)])) := headP_of [] (by kernel_rfl)
theorem fix_mach_cloneType (x0 : DV) : (run cfg).p F_mach_cloneType [x0] = P_mach_cloneType (run cfg) x0 :=
  (fix_pure (C := cfg) (f := F_mach_cloneType) (fn := Try.f27) (c := code_mach_cloneType) (by kernel_rfl) Try.func27 (by kernel_rfl)).trans (by kernel_rfl)
noncomputable def code_mach_clonePat : Code := Try.f30.body.getD .skip
noncomputable def P_mach_clonePat (R : Orc) (x0 : DV) : Option DV := evP cfg R fl_mach_clonePat (retP cfg.P Try.f30) [] code_mach_clonePat (initSt Try.f30 [(x0, .val)] [])
noncomputable def P_mach_clonePat_3h (R : Orc) (t10r3 : Nat) (t11 : DV) (t12 : DV) (b1_0 : DV) (b1_1 : DV) (b1_2 : DV) (b1_3 : DV) (b1_4 : DV) (b1_5 : DV) (b1_6r3 : Nat) (b2_0 : DV) (b2_1 : DV) (b2_2 : DV) (b2_3 : DV) (b2_4 : DV) (b2_5 : DV) (b2_6 : DV) (sg : List SObj) : Option DV := headP cfg R fl_mach_clonePat (retP cfg.P Try.f30) [true, true, false, true, false] code_mach_clonePat ⟨spread .undef 25 0 [(11, t11), (12, t12)], spread .val 25 0 [(1, (.loc 1 0)), (2, (.loc 2 0)), (10, (.arr 0 7 0 t10r3))], spread none 25 0 [(1, some [(b1_0, .val), (b1_1, .val), (b1_2, .val), (b1_3, .val), (b1_4, .val), (b1_5, .val), (.undef, (.arr 0 7 0 b1_6r3))]), (2, some [(b2_0, .val), (b2_1, .val), (b2_2, .val), (b2_3, .val), (b2_4, .val), (b2_5, .val), (b2_6, .val)])], sg⟩
theorem eq_mach_clonePat (R : Orc) (x0 : DV) : P_mach_clonePat R x0 =
  (og (isAggN 7 x0) <|
  ob (dList (proj 6 x0)) fun p1 =>
  og (true && p1.1 == 7 && decide (p1.2.length ≤ lim)) <|
  P_mach_clonePat_3h R (p1.2.length) (.int .i64 p1.2.length) (.int .i64 0) (proj 0 x0) (proj 1 x0) (proj 2 x0) (proj 3 x0) (proj 4 x0) (proj 5 x0) (p1.2.length) (.int .i64 0) (.int .i64 0) (.int .i64 0) (.str ⟨#[]⟩) (.int .i64 0) (.str ⟨#[]⟩) (.list 7 []) [.arr 7 p1.2]) := evP_of [] (by kernel_rfl)
theorem eq_mach_clonePat_3h (R : Orc) (t10r3 : Nat) (t11 : DV) (t12 : DV) (b1_0 : DV) (b1_1 : DV) (b1_2 : DV) (b1_3 : DV) (b1_4 : DV) (b1_5 : DV) (b1_6r3 : Nat) (b2_0 : DV) (b2_1 : DV) (b2_2 : DV) (b2_3 : DV) (b2_4 : DV) (b2_5 : DV) (b2_6 : DV) (sg : List SObj) : P_mach_clonePat_3h R t10r3 t11 t12 b1_0 b1_1 b1_2 b1_3 b1_4 b1_5 b1_6r3 b2_0 b2_1 b2_2 b2_3 b2_4 b2_5 b2_6 sg =
  (ob (dBin .lss t12 t11) fun d1 =>
  oif d1
   (ob (arrIdx 0 t10r3 t12) fun n2 =>
   ob (sgArr sg 0) fun r3 =>
   ob (r3.2[n2]?) fun d4 =>
   og (r3.1 == 7) <|
   ob (R.p F_mach_clonePat [(.agg [(proj 0 d4), (proj 1 d4), (proj 2 d4), (proj 3 d4), (proj 4 d4), (proj 5 d4), (proj 6 d4)])]) fun d5 =>
   ob (arrIdx 0 b1_6r3 t12) fun n6 =>
   ob (sgArr sg 0) fun r7 =>
   ob (r7.2[n6]?) fun u8 =>
   og (isAggN 7 d5) <|
   og (r7.1 == 7) <|
   ob (dBin .add t12 (.int .i64 1)) fun d9 =>
   P_mach_clonePat_3h R t10r3 t11 d9 b1_0 b1_1 b1_2 b1_3 b1_4 b1_5 b1_6r3 b2_0 b2_1 b2_2 b2_3 b2_4 b2_5 b2_6 (sg.set 0 (.arr 7 (r7.2.set n6 d5))))
   (retL [ob (sealCells sg [(b1_0, .val), (b1_1, .val), (b1_2, .val), (b1_3, .val), (b1_4, .val), (b1_5, .val), (.undef, (.arr 0 7 0 b1_6r3))]) fun ds => some (.agg ds)])) := headP_of [] (by kernel_rfl)
theorem fix_mach_clonePat (x0 : DV) : (run cfg).p F_mach_clonePat [x0] = P_mach_clonePat (run cfg) x0 :=
  (fix_pure (C := cfg) (f := F_mach_clonePat) (fn := Try.f30) (c := code_mach_clonePat) (by kernel_rfl) Try.func30 (by kernel_rfl)).trans (by kernel_rfl)
noncomputable def code_mach_Machine_stuck : Code := Try.f32.body.getD .skip
noncomputable def P_mach_Machine_stuck (R : Orc) (x0 : Nat) (sg : List SObj) : Option (List DV × List SObj) := evP cfg R fl_mach_Machine_stuck (retR cfg.P Try.f32 sig_mach_Machine_stuck) [] code_mach_Machine_stuck (initSt Try.f32 [(.undef, (.ptr x0 0))] sg)
theorem eq_mach_Machine_stuck (R : Orc) (x0 : Nat) (sg : List SObj) : P_mach_Machine_stuck R x0 sg =
  (ob (R.r F_mach_Machine_ends [(.undef, (.ptr x0 0)), ((.agg [(.int .i64 6), (.int .i64 0), (.int .i64 0), (.str ⟨#[]⟩), (.int .i64 0), (.int .i64 0), (.int .i64 0), (.bool false), (.list 5 []), (.list 9 []), (.int .i64 0), (.bool false), (.int .i64 0), (.int .i64 0), (.int .i64 0)]), .val)] sg) fun q1 =>
  some ([], q1.2)) := evP_of [] (by kernel_rfl)
theorem fix_mach_Machine_stuck (x0 : Nat) (sg : List SObj) : (run cfg).r F_mach_Machine_stuck [(.undef, (.ptr x0 0))] sg = P_mach_Machine_stuck (run cfg) x0 sg :=
  (fix_raw (C := cfg) (f := F_mach_Machine_stuck) (s := sig_mach_Machine_stuck) (fn := Try.f32) (c := code_mach_Machine_stuck) (by kernel_rfl) Try.func32 (by kernel_rfl) (by kernel_rfl)).trans (by kernel_rfl)
noncomputable def code_mach_told : Code := Try.f33.body.getD .skip
noncomputable def P_mach_told (R : Orc) (x0 : DV) : Option DV := evP cfg R fl_mach_told (retP cfg.P Try.f33) [] code_mach_told (initSt Try.f33 [(x0, .val)] [])
noncomputable def P_mach_told_4 (R : Orc) (t0 : DV) (b2_0 : DV) (b2_1 : DV) (b2_2 : DV) (b2_3 : DV) (b2_4 : DV) (b2_5 : DV) (b2_6 : DV) (b2_7 : DV) (b2_8 : DV) (b4 : DV) : Option DV := evP cfg R fl_mach_told (retP cfg.P Try.f33) [true, true, true, false, true, false] code_mach_told ⟨spread .undef 39 0 [(0, t0)], spread .val 39 0 [(2, (.loc 2 0)), (4, (.loc 4 0))], spread none 39 0 [(2, some [(b2_0, .val), (b2_1, .val), (b2_2, .val), (b2_3, .val), (b2_4, .val), (b2_5, .val), (b2_6, .val), (b2_7, .val), (b2_8, .val)]), (4, some [((proj 0 b4), .val), ((proj 1 b4), .val), ((proj 2 b4), .val), ((proj 3 b4), .val), ((proj 4 b4), .val), ((proj 5 b4), .val), ((proj 6 b4), .val), ((proj 7 b4), .val), ((proj 8 b4), .val)])], []⟩
theorem eq_mach_told (R : Orc) (x0 : DV) : P_mach_told R x0 =
  (ob (dIdx 9 x0 (.int .i64 0)) fun d1 =>
  ob (dSlice 9 x0 (some (.int .i64 1)) none) fun d2 =>
  ob (dBin .eql (proj 0 d1) (.int .i64 5)) fun d3 =>
  ogd d3
   (P_mach_told_4 R d2 (.int .i64 0) (.int .i64 0) (.str ⟨#[]⟩) (.int .i64 0) (.int .i64 0) (.int .i64 0) (.bool false) (.list 5 []) (.list 9 []) d1)
   (ob (dBin .eql (proj 0 d1) (.int .i64 7)) fun d4 =>
   oif d4
    (P_mach_told_4 R d2 (.int .i64 0) (.int .i64 0) (.str ⟨#[]⟩) (.int .i64 0) (.int .i64 0) (.int .i64 0) (.bool false) (.list 5 []) (.list 9 []) d1)
    (some (.tup [(.agg [(proj 0 d1), (proj 1 d1), (proj 2 d1), (proj 3 d1), (proj 4 d1), (proj 5 d1), (proj 6 d1), (proj 7 d1), (proj 8 d1)]), d2])))
   none) := evP_of [4] (by kernel_rfl)
theorem eq_mach_told_4 (R : Orc) (t0 : DV) (b2_0 : DV) (b2_1 : DV) (b2_2 : DV) (b2_3 : DV) (b2_4 : DV) (b2_5 : DV) (b2_6 : DV) (b2_7 : DV) (b2_8 : DV) (b4 : DV) : P_mach_told_4 R t0 b2_0 b2_1 b2_2 b2_3 b2_4 b2_5 b2_6 b2_7 b2_8 b4 =
  (ob (R.p F_mach_told [t0]) fun d1 =>
  ob (dExt 0 d1) fun d2 =>
  ob (dExt 1 d1) fun d3 =>
  og (isAggN 9 d2) <|
  ob (R.p F_mach_told [d3]) fun d4 =>
  ob (dExt 0 d4) fun d5 =>
  ob (dExt 1 d4) fun d6 =>
  og (isAggN 9 d5) <|
  some (.tup [(.agg [(proj 0 b4), (proj 1 b4), (proj 2 b4), (proj 3 b4), (proj 4 b4), (proj 5 b4), (proj 6 b4), (proj 7 b4), (.list 9 [(.agg [(proj 0 d2), (proj 1 d2), (proj 2 d2), (proj 3 d2), (proj 4 d2), (proj 5 d2), (proj 6 d2), (proj 7 d2), (proj 8 d2)]), (.agg [(proj 0 d5), (proj 1 d5), (proj 2 d5), (proj 3 d5), (proj 4 d5), (proj 5 d5), (proj 6 d5), (proj 7 d5), (proj 8 d5)])])]), d6])) := evP_of [4] (by kernel_rfl)
theorem fix_mach_told (x0 : DV) : (run cfg).p F_mach_told [x0] = P_mach_told (run cfg) x0 :=
  (fix_pure (C := cfg) (f := F_mach_told) (fn := Try.f33) (c := code_mach_told) (by kernel_rfl) Try.func33 (by kernel_rfl)).trans (by kernel_rfl)
noncomputable def code_mach_Machine_gives : Code := Try.f34.body.getD .skip
noncomputable def P_mach_Machine_gives (R : Orc) (x0 : Nat) (x1 : DV) (sg : List SObj) : Option (List DV × List SObj) := evP cfg R fl_mach_Machine_gives (retR cfg.P Try.f34 sig_mach_Machine_gives) [] code_mach_Machine_gives (initSt Try.f34 [(.undef, (.ptr x0 0)), (x1, .val)] sg)
theorem eq_mach_Machine_gives (R : Orc) (x0 : Nat) (x1 : DV) (sg : List SObj) : P_mach_Machine_gives R x0 x1 sg =
  (og (isAggN 9 x1) <|
  ob (sgBox sg x0) fun c1 =>
  if 21 + 9 ≤ c1.length then
   (ob (sgBox (sg.set x0 (SObj.box (putAt c1 21 [((proj 0 x1), .val), ((proj 1 x1), .val), ((proj 2 x1), .val), ((proj 3 x1), .val), ((proj 4 x1), .val), ((proj 5 x1), .val), ((proj 6 x1), .val), ((proj 7 x1), .val), ((proj 8 x1), .val)]))) x0) fun c2 =>
   ob (c2[30]?) fun u3 =>
   some ([], ((sg.set x0 (SObj.box (putAt c1 21 [((proj 0 x1), .val), ((proj 1 x1), .val), ((proj 2 x1), .val), ((proj 3 x1), .val), ((proj 4 x1), .val), ((proj 5 x1), .val), ((proj 6 x1), .val), ((proj 7 x1), .val), ((proj 8 x1), .val)]))).set x0 (SObj.box (c2.set 30 ((.bool true), .val))))))
  else none) := evP_of [] (by kernel_rfl)
theorem fix_mach_Machine_gives (x0 : Nat) (x1 : DV) (sg : List SObj) : (run cfg).r F_mach_Machine_gives [(.undef, (.ptr x0 0)), (x1, .val)] sg = P_mach_Machine_gives (run cfg) x0 x1 sg :=
  (fix_raw (C := cfg) (f := F_mach_Machine_gives) (s := sig_mach_Machine_gives) (fn := Try.f34) (c := code_mach_Machine_gives) (by kernel_rfl) Try.func34 (by kernel_rfl) (by kernel_rfl)).trans (by kernel_rfl)
noncomputable def code_mach_Machine_makes : Code := Try.f35.body.getD .skip
noncomputable def P_mach_Machine_makes (R : Orc) (x0 : Nat) (x1 : DV) (sg : List SObj) : Option (List DV × List SObj) := evP cfg R fl_mach_Machine_makes (retR cfg.P Try.f35 sig_mach_Machine_makes) [] code_mach_Machine_makes (initSt Try.f35 [(.undef, (.ptr x0 0)), (x1, .val)] sg)
theorem eq_mach_Machine_makes (R : Orc) (x0 : Nat) (x1 : DV) (sg : List SObj) : P_mach_Machine_makes R x0 x1 sg =
  (og (isAggN 24 x1) <|
  ob (sgBox sg x0) fun c1 =>
  ob (cellOwn c1 32) fun d2 =>
  ob (dApp 24 d2 (.list 24 [(.agg [(proj 0 x1), (proj 1 x1), (proj 2 x1), (proj 3 x1), (proj 4 x1), (proj 5 x1), (proj 6 x1), (proj 7 x1), (proj 8 x1), (proj 9 x1), (proj 10 x1), (proj 11 x1), (proj 12 x1), (proj 13 x1), (proj 14 x1), (proj 15 x1), (proj 16 x1), (proj 17 x1), (proj 18 x1), (proj 19 x1), (proj 20 x1), (proj 21 x1), (proj 22 x1), (proj 23 x1)])])) fun d3 =>
  ob (sgBox (sg.set x0 (SObj.box (c1.set 32 (d2, .val)))) x0) fun c4 =>
  ob (c4[32]?) fun u5 =>
  ob (sgBox ((sg.set x0 (SObj.box (c1.set 32 (d2, .val)))).set x0 (SObj.box (c4.set 32 (d3, .own)))) x0) fun c6 =>
  ob (cellDat c6 32) fun d7 =>
  ob (dLen d7) fun d8 =>
  ob (dBin .sub d8 (.int .i64 1)) fun d9 =>
  og (isCell d9) <|
  some ([(.agg [(.int .i64 8), d9, (.str ⟨#[]⟩), (.int .i64 0), (.int .i64 0), (.int .i64 0), (.bool false), (.list 5 []), (.list 9 [])])], ((sg.set x0 (SObj.box (c1.set 32 (d2, .val)))).set x0 (SObj.box (c4.set 32 (d3, .own)))))) := evP_of [] (by kernel_rfl)
theorem fix_mach_Machine_makes (x0 : Nat) (x1 : DV) (sg : List SObj) : (run cfg).r F_mach_Machine_makes [(.undef, (.ptr x0 0)), (x1, .val)] sg = P_mach_Machine_makes (run cfg) x0 x1 sg :=
  (fix_raw (C := cfg) (f := F_mach_Machine_makes) (s := sig_mach_Machine_makes) (fn := Try.f35) (c := code_mach_Machine_makes) (by kernel_rfl) Try.func35 (by kernel_rfl) (by kernel_rfl)).trans (by kernel_rfl)
noncomputable def code_mach_Machine_push : Code := Try.f36.body.getD .skip
noncomputable def P_mach_Machine_push (R : Orc) (x0 : Nat) (x1 : DV) (sg : List SObj) : Option (List DV × List SObj) := evP cfg R fl_mach_Machine_push (retR cfg.P Try.f36 sig_mach_Machine_push) [] code_mach_Machine_push (initSt Try.f36 [(.undef, (.ptr x0 0)), (x1, .val)] sg)
theorem eq_mach_Machine_push (R : Orc) (x0 : Nat) (x1 : DV) (sg : List SObj) : P_mach_Machine_push R x0 x1 sg =
  (og (isAggN 57 x1) <|
  ob (sgBox sg x0) fun c1 =>
  ob (vecIn sg x0 31 c1 57) fun v2 =>
  ob (sgVec v2.1 v2.2.1 v2.2.2.1) fun a3 =>
  og (a3.1 == 57 && true && decide (v2.2.2.2 ≤ a3.2.length)) <|
  ob (dApp2 57 (.list 57 (a3.2.take v2.2.2.2)) (.list 57 [(.agg [(proj 0 x1), (proj 1 x1), (proj 2 x1), (proj 3 x1), (proj 4 x1), (proj 5 x1), (proj 6 x1), (proj 7 x1), (proj 8 x1), (proj 9 x1), (proj 10 x1), (proj 11 x1), (proj 12 x1), (proj 13 x1), (proj 14 x1), (proj 15 x1), (proj 16 x1), (proj 17 x1), (proj 18 x1), (proj 19 x1), (proj 20 x1), (proj 21 x1), (proj 22 x1), (proj 23 x1), (proj 24 x1), (proj 25 x1), (proj 26 x1), (proj 27 x1), (proj 28 x1), (proj 29 x1), (proj 30 x1), (proj 31 x1), (proj 32 x1), (proj 33 x1), (proj 34 x1), (proj 35 x1), (proj 36 x1), (proj 37 x1), (proj 38 x1), (proj 39 x1), (proj 40 x1), (proj 41 x1), (proj 42 x1), (proj 43 x1), (proj 44 x1), (proj 45 x1), (proj 46 x1), (proj 47 x1), (proj 48 x1), (proj 49 x1), (proj 50 x1), (proj 51 x1), (proj 52 x1), (proj 53 x1), (proj 54 x1), (proj 55 x1), (proj 56 x1)])])) fun p4 =>
  ob (sgBox (v2.1.set v2.2.1 (SObj.vec (v2.2.2.1 + 1) 57 (p4.1 ++ p4.2))) x0) fun c5 =>
  ob (c5[31]?) fun u6 =>
  some ([], ((v2.1.set v2.2.1 (SObj.vec (v2.2.2.1 + 1) 57 (p4.1 ++ p4.2))).set x0 (SObj.box (c5.set 31 (.undef, (.vec v2.2.1 (v2.2.2.1 + 1) 57 (p4.1.length + p4.2.length)))))))) := evP_of [] (by kernel_rfl)
theorem fix_mach_Machine_push (x0 : Nat) (x1 : DV) (sg : List SObj) : (run cfg).r F_mach_Machine_push [(.undef, (.ptr x0 0)), (x1, .val)] sg = P_mach_Machine_push (run cfg) x0 x1 sg :=
  (fix_raw (C := cfg) (f := F_mach_Machine_push) (s := sig_mach_Machine_push) (fn := Try.f36) (c := code_mach_Machine_push) (by kernel_rfl) Try.func36 (by kernel_rfl) (by kernel_rfl)).trans (by kernel_rfl)
noncomputable def code_mach_Machine_goes : Code := Try.f37.body.getD .skip
noncomputable def P_mach_Machine_goes (R : Orc) (x0 : Nat) (x1 : DV) (x2 : DV) (sg : List SObj) : Option (List DV × List SObj) := evP cfg R fl_mach_Machine_goes (retR cfg.P Try.f37 sig_mach_Machine_goes) [] code_mach_Machine_goes (initSt Try.f37 [(.undef, (.ptr x0 0)), (x1, .val), (x2, .val)] sg)
theorem eq_mach_Machine_goes (R : Orc) (x0 : Nat) (x1 : DV) (x2 : DV) (sg : List SObj) : P_mach_Machine_goes R x0 x1 x2 sg =
  (og (isAggN 20 x1) <|
  ob (sgBox sg x0) fun c1 =>
  if 0 + 20 ≤ c1.length then
   (ob (sgBox (sg.set x0 (SObj.box (putAt c1 0 [((proj 0 x1), .val), ((proj 1 x1), .val), ((proj 2 x1), .val), ((proj 3 x1), .val), ((proj 4 x1), .val), ((proj 5 x1), .val), ((proj 6 x1), .val), ((proj 7 x1), .val), ((proj 8 x1), .val), ((proj 9 x1), .val), ((proj 10 x1), .val), ((proj 11 x1), .val), ((proj 12 x1), .val), ((proj 13 x1), .val), ((proj 14 x1), .val), ((proj 15 x1), .val), ((proj 16 x1), .val), ((proj 17 x1), .val), ((proj 18 x1), .val), ((proj 19 x1), .val)]))) x0) fun c2 =>
   og (isCell x2) <|
   ob (c2[20]?) fun u3 =>
   ob (sgBox ((sg.set x0 (SObj.box (putAt c1 0 [((proj 0 x1), .val), ((proj 1 x1), .val), ((proj 2 x1), .val), ((proj 3 x1), .val), ((proj 4 x1), .val), ((proj 5 x1), .val), ((proj 6 x1), .val), ((proj 7 x1), .val), ((proj 8 x1), .val), ((proj 9 x1), .val), ((proj 10 x1), .val), ((proj 11 x1), .val), ((proj 12 x1), .val), ((proj 13 x1), .val), ((proj 14 x1), .val), ((proj 15 x1), .val), ((proj 16 x1), .val), ((proj 17 x1), .val), ((proj 18 x1), .val), ((proj 19 x1), .val)]))).set x0 (SObj.box (c2.set 20 (x2, .val)))) x0) fun c4 =>
   ob (c4[30]?) fun u5 =>
   some ([], (((sg.set x0 (SObj.box (putAt c1 0 [((proj 0 x1), .val), ((proj 1 x1), .val), ((proj 2 x1), .val), ((proj 3 x1), .val), ((proj 4 x1), .val), ((proj 5 x1), .val), ((proj 6 x1), .val), ((proj 7 x1), .val), ((proj 8 x1), .val), ((proj 9 x1), .val), ((proj 10 x1), .val), ((proj 11 x1), .val), ((proj 12 x1), .val), ((proj 13 x1), .val), ((proj 14 x1), .val), ((proj 15 x1), .val), ((proj 16 x1), .val), ((proj 17 x1), .val), ((proj 18 x1), .val), ((proj 19 x1), .val)]))).set x0 (SObj.box (c2.set 20 (x2, .val)))).set x0 (SObj.box (c4.set 30 ((.bool false), .val))))))
  else none) := evP_of [] (by kernel_rfl)
theorem fix_mach_Machine_goes (x0 : Nat) (x1 : DV) (x2 : DV) (sg : List SObj) : (run cfg).r F_mach_Machine_goes [(.undef, (.ptr x0 0)), (x1, .val), (x2, .val)] sg = P_mach_Machine_goes (run cfg) x0 x1 x2 sg :=
  (fix_raw (C := cfg) (f := F_mach_Machine_goes) (s := sig_mach_Machine_goes) (fn := Try.f37) (c := code_mach_Machine_goes) (by kernel_rfl) Try.func37 (by kernel_rfl) (by kernel_rfl)).trans (by kernel_rfl)
noncomputable def code_mach_env_with : Code := Try.f38.body.getD .skip
noncomputable def P_mach_env_with (R : Orc) (x0 : DV) (x1 : DV) (x2 : DV) : Option DV := evP cfg R fl_mach_env_with (retP cfg.P Try.f38) [] code_mach_env_with (initSt Try.f38 [(x0, .val), (x1, .val), (x2, .val)] [])
theorem eq_mach_env_with (R : Orc) (x0 : DV) (x1 : DV) (x2 : DV) : P_mach_env_with R x0 x1 x2 =
  (og (isAggN 9 x2) <|
  og (isCell x1) <|
  og (isCell x0) <|
  some (.pref 11 (.agg [x1, (proj 0 x2), (proj 1 x2), (proj 2 x2), (proj 3 x2), (proj 4 x2), (proj 5 x2), (proj 6 x2), (proj 7 x2), (proj 8 x2), x0]))) := evP_of [] (by kernel_rfl)
theorem fix_mach_env_with (x0 : DV) (x1 : DV) (x2 : DV) : (run cfg).p F_mach_env_with [x0, x1, x2] = P_mach_env_with (run cfg) x0 x1 x2 :=
  (fix_pure (C := cfg) (f := F_mach_env_with) (fn := Try.f38) (c := code_mach_env_with) (by kernel_rfl) Try.func38 (by kernel_rfl)).trans (by kernel_rfl)
noncomputable def code_trans_Cast : Code := Try.f39.body.getD .skip
noncomputable def P_trans_Cast (R : Orc) (x0 : DV) (x1 : DV) (x2 : DV) (x3 : DV) : Option DV := evP cfg R fl_trans_Cast (retP cfg.P Try.f39) [] code_trans_Cast (initSt Try.f39 [(x0, .val), (x1, .val), (x2, .val), (x3, .val)] [])
set_option maxRecDepth 100000 in
theorem eq_trans_Cast (R : Orc) (x0 : DV) (x1 : DV) (x2 : DV) (x3 : DV) : P_trans_Cast R x0 x1 x2 x3 =
  (og (isAggN 3 x0) <|
  og (isAggN 3 x1) <|
  ob (R.p F_typ_Check [(.agg [(proj 0 x0), (proj 1 x0), (proj 2 x0)])]) fun d1 =>
  ob (dBin .neq d1 (.int .i64 0)) fun d2 =>
  ogd d2
   (some (.tup [(.agg [(.int .i64 0), (.int .i64 0), (.int .i64 0), (.bool false), (.list 5 [])]), (.int .i64 1)]))
   (ob (R.p F_typ_Check [(.agg [(proj 0 x1), (proj 1 x1), (proj 2 x1)])]) fun d3 =>
   ob (dBin .neq d3 (.int .i64 0)) fun d4 =>
   ogd d4
    (some (.tup [(.agg [(.int .i64 0), (.int .i64 0), (.int .i64 0), (.bool false), (.list 5 [])]), (.int .i64 1)]))
    (ob (dBin .lss x2 (.int .i64 0)) fun d5 =>
    ogd d5
     (some (.tup [(.agg [(.int .i64 0), (.int .i64 0), (.int .i64 0), (.bool false), (.list 5 [])]), (.int .i64 1)]))
     (ob (dBin .gtr x2 (.int .i64 1048576)) fun d6 =>
     oif d6
      (some (.tup [(.agg [(.int .i64 0), (.int .i64 0), (.int .i64 0), (.bool false), (.list 5 [])]), (.int .i64 1)]))
      (ob (R.p F_agree_Agree [(.agg [(proj 0 x0), (proj 1 x0), (proj 2 x0)]), (.agg [(proj 0 x1), (proj 1 x1), (proj 2 x1)])]) fun d7 =>
      ob (dUn .not d7) fun d8 =>
      oif d8
       (some (.tup [(.agg [(.int .i64 0), (.int .i64 0), (.int .i64 0), (.bool false), (.list 5 [])]), (.int .i64 4)]))
       (ob (R.p F_trans_cast [(.agg [(proj 0 x0), (proj 1 x0), (proj 2 x0)]), (.agg [(proj 0 x1), (proj 1 x1), (proj 2 x1)]), x2, x3]) fun d9 =>
       og (isAggN 5 d9) <|
       some (.tup [(.agg [(proj 0 d9), (proj 1 d9), (proj 2 d9), (proj 3 d9), (proj 4 d9)]), (.int .i64 0)]))))
     none)
    none)
   none) := evP_of [] (by kernel_rfl)
theorem fix_trans_Cast (x0 : DV) (x1 : DV) (x2 : DV) (x3 : DV) : (run cfg).p F_trans_Cast [x0, x1, x2, x3] = P_trans_Cast (run cfg) x0 x1 x2 x3 :=
  (fix_pure (C := cfg) (f := F_trans_Cast) (fn := Try.f39) (c := code_trans_Cast) (by kernel_rfl) Try.func39 (by kernel_rfl)).trans (by kernel_rfl)
noncomputable def code_mach_Machine_put : Code := Try.f40.body.getD .skip
noncomputable def P_mach_Machine_put (R : Orc) (x0 : Nat) (x1 : DV) (sg : List SObj) : Option (List DV × List SObj) := evP cfg R fl_mach_Machine_put (retR cfg.P Try.f40 sig_mach_Machine_put) [] code_mach_Machine_put (initSt Try.f40 [(.undef, (.ptr x0 0)), (x1, .val)] sg)
set_option maxRecDepth 100000 in
theorem eq_mach_Machine_put (R : Orc) (x0 : Nat) (x1 : DV) (sg : List SObj) : P_mach_Machine_put R x0 x1 sg =
  (og (isAggN 5 x1) <|
  ob (dBin .eql (proj 0 x1) (.int .i64 1)) fun d1 =>
  oif d1
   (some ([], sg))
   (ob (sgBox sg x0) fun c2 =>
   ob (vecIn sg x0 31 c2 57) fun v3 =>
   ob (vLen v3.2.2.2) fun d4 =>
   ob (dBin .sub d4 (.int .i64 1)) fun d5 =>
   ob (dBin .lss d5 (.int .i64 0)) fun d6 =>
   ogd d6
    (ob (R.r F_mach_Machine_push [(.undef, (.ptr x0 0)), ((.agg [(.int .i64 12), (.int .i64 0), (.int .i64 0), (.int .i64 0), (.str ⟨#[]⟩), (.str ⟨#[]⟩), (.int .i64 0), (.str ⟨#[]⟩), (.int .i64 0), (.int .i64 0), (.bool false), (.list 1 []), (.int .i64 0), (.int .i64 0), (.list 3 []), (.int .i64 0), (.int .i64 0), (.list 3 []), (.list 3 []), (.list 7 []), (.list 20 []), (.int .i64 0), (.int .i64 0), (.int .i64 0), (.str ⟨#[]⟩), (.str ⟨#[]⟩), (.int .i64 0), (.str ⟨#[]⟩), (.int .i64 0), (.int .i64 0), (.bool false), (.list 1 []), (.int .i64 0), (.int .i64 0), (.list 3 []), (.int .i64 0), (.int .i64 0), (.list 3 []), (.list 3 []), (.list 7 []), (.list 20 []), (.str ⟨#[]⟩), .pnil, (.int .i64 0), (.int .i64 0), (.str ⟨#[]⟩), (.int .i64 0), (.int .i64 0), (.int .i64 0), (.bool false), (.list 5 []), (.list 9 []), (proj 0 x1), (proj 1 x1), (proj 2 x1), (proj 3 x1), (proj 4 x1)]), .val)] v3.1) fun q7 =>
    some ([], q7.2))
    (ob (sgBox v3.1 x0) fun c8 =>
    ob (vecIn v3.1 x0 31 c8 57) fun v9 =>
    ob (arrIdx 0 v9.2.2.2 d5) fun n10 =>
    ob (sgVec v9.1 v9.2.1 v9.2.2.1) fun a11 =>
    ob (a11.2[n10]?) fun d12 =>
    og (a11.1 == 57) <|
    ob (dBin .neq (proj 0 d12) (.int .i64 12)) fun d13 =>
    oif d13
     (ob (R.r F_mach_Machine_push [(.undef, (.ptr x0 0)), ((.agg [(.int .i64 12), (.int .i64 0), (.int .i64 0), (.int .i64 0), (.str ⟨#[]⟩), (.str ⟨#[]⟩), (.int .i64 0), (.str ⟨#[]⟩), (.int .i64 0), (.int .i64 0), (.bool false), (.list 1 []), (.int .i64 0), (.int .i64 0), (.list 3 []), (.int .i64 0), (.int .i64 0), (.list 3 []), (.list 3 []), (.list 7 []), (.list 20 []), (.int .i64 0), (.int .i64 0), (.int .i64 0), (.str ⟨#[]⟩), (.str ⟨#[]⟩), (.int .i64 0), (.str ⟨#[]⟩), (.int .i64 0), (.int .i64 0), (.bool false), (.list 1 []), (.int .i64 0), (.int .i64 0), (.list 3 []), (.int .i64 0), (.int .i64 0), (.list 3 []), (.list 3 []), (.list 7 []), (.list 20 []), (.str ⟨#[]⟩), .pnil, (.int .i64 0), (.int .i64 0), (.str ⟨#[]⟩), (.int .i64 0), (.int .i64 0), (.int .i64 0), (.bool false), (.list 5 []), (.list 9 []), (proj 0 x1), (proj 1 x1), (proj 2 x1), (proj 3 x1), (proj 4 x1)]), .val)] v9.1) fun q14 =>
     some ([], q14.2))
     (ob (sgBox v9.1 x0) fun c15 =>
     ob (vecIn v9.1 x0 31 c15 57) fun v16 =>
     ob (arrIdx 0 v16.2.2.2 d5) fun n17 =>
     ob (sgVec v16.1 v16.2.1 v16.2.2.1) fun a18 =>
     ob (a18.2[n17]?) fun d19 =>
     og (a18.1 == 57) <|
     ob (R.p F_comp_Join [(.agg [(proj 0 x1), (proj 1 x1), (proj 2 x1), (proj 3 x1), (proj 4 x1)]), (.agg [(proj 52 d19), (proj 53 d19), (proj 54 d19), (proj 55 d19), (proj 56 d19)])]) fun d20 =>
     ob (dExt 0 d20) fun d21 =>
     ob (dExt 1 d20) fun d22 =>
     og (isAggN 5 d21) <|
     ob (dBin .neq d22 (.int .i64 0)) fun d23 =>
     oif d23
      (ob (R.r F_mach_Machine_stuck [(.undef, (.ptr x0 0))] v16.1) fun q24 =>
      some ([], q24.2))
      (ob (dBin .eql (proj 0 d21) (.int .i64 1)) fun d25 =>
      oif d25
       (ob (sgBox v16.1 x0) fun c26 =>
       ob (vecIn v16.1 x0 31 c26 57) fun v27 =>
       ob (bnd v27.2.2.2 (some d5)) fun n28 =>
       if n28 ≤ v27.2.2.2 then
        (ob (sgBox v27.1 x0) fun c29 =>
        ob (c29[31]?) fun u30 =>
        some ([], (v27.1.set x0 (SObj.box (c29.set 31 (.undef, (.vec v27.2.1 v27.2.2.1 57 n28)))))))
       else none)
       (ob (sgBox v16.1 x0) fun c31 =>
       ob (vecIn v16.1 x0 31 c31 57) fun v32 =>
       ob (arrIdx 0 v32.2.2.2 d5) fun n33 =>
       ob (sgVec v32.1 v32.2.1 v32.2.2.1) fun a34 =>
       ob (a34.2[n33]?) fun d35 =>
       og (a34.1 == 57) <|
       ob (setPart 57 52 d35 [((proj 0 d21), .val), ((proj 1 d21), .val), ((proj 2 d21), .val), ((proj 3 d21), .val), ((proj 4 d21), .val)]) fun e36 =>
       some ([], (v32.1.set v32.2.1 (SObj.vec v32.2.2.1 57 (a34.2.set n33 e36))))))))
    none)) := evP_of [] (by kernel_rfl)
theorem fix_mach_Machine_put (x0 : Nat) (x1 : DV) (sg : List SObj) : (run cfg).r F_mach_Machine_put [(.undef, (.ptr x0 0)), (x1, .val)] sg = P_mach_Machine_put (run cfg) x0 x1 sg :=
  (fix_raw (C := cfg) (f := F_mach_Machine_put) (s := sig_mach_Machine_put) (fn := Try.f40) (c := code_mach_Machine_put) (by kernel_rfl) Try.func40 (by kernel_rfl) (by kernel_rfl)).trans (by kernel_rfl)
noncomputable def code_mach_Machine_then : Code := Try.f41.body.getD .skip
noncomputable def P_mach_Machine_then (R : Orc) (x0 : Nat) (x1 : DV) (x2 : DV) (x3 : DV) (sg : List SObj) : Option (List DV × List SObj) := evP cfg R fl_mach_Machine_then (retR cfg.P Try.f41 sig_mach_Machine_then) [] code_mach_Machine_then (initSt Try.f41 [(.undef, (.ptr x0 0)), (x1, .val), (x2, .val), (x3, .val)] sg)
theorem eq_mach_Machine_then (R : Orc) (x0 : Nat) (x1 : DV) (x2 : DV) (x3 : DV) (sg : List SObj) : P_mach_Machine_then R x0 x1 x2 x3 sg =
  (og (isAggN 57 x2) <|
  og (isAggN 20 x3) <|
  ob (sgBox sg x0) fun c1 =>
  ob (segDat 21 9 c1) fun e2 =>
  og (isCell x1) <|
  og (isAggN 9 (.agg e2)) <|
  ob (R.r F_mach_Machine_push [(.undef, (.ptr x0 0)), ((.agg [x1, (proj 1 x2), (proj 2 x2), (proj 3 x2), (proj 4 x2), (proj 5 x2), (proj 6 x2), (proj 7 x2), (proj 8 x2), (proj 9 x2), (proj 10 x2), (proj 11 x2), (proj 12 x2), (proj 13 x2), (proj 14 x2), (proj 15 x2), (proj 16 x2), (proj 17 x2), (proj 18 x2), (proj 19 x2), (proj 20 x2), (.int .i64 0), (.int .i64 0), (.int .i64 0), (.str ⟨#[]⟩), (.str ⟨#[]⟩), (.int .i64 0), (.str ⟨#[]⟩), (.int .i64 0), (.int .i64 0), (.bool false), (.list 1 []), (.int .i64 0), (.int .i64 0), (.list 3 []), (.int .i64 0), (.int .i64 0), (.list 3 []), (.list 3 []), (.list 7 []), (.list 20 []), (.str ⟨#[]⟩), .pnil, (proj 0 (.agg e2)), (proj 1 (.agg e2)), (proj 2 (.agg e2)), (proj 3 (.agg e2)), (proj 4 (.agg e2)), (proj 5 (.agg e2)), (proj 6 (.agg e2)), (proj 7 (.agg e2)), (proj 8 (.agg e2)), (.int .i64 0), (.int .i64 0), (.int .i64 0), (.bool false), (.list 5 [])]), .val)] sg) fun q3 =>
  ob (R.r F_mach_Machine_goes [(.undef, (.ptr x0 0)), ((.agg [(proj 0 x3), (proj 1 x3), (proj 2 x3), (proj 3 x3), (proj 4 x3), (proj 5 x3), (proj 6 x3), (proj 7 x3), (proj 8 x3), (proj 9 x3), (proj 10 x3), (proj 11 x3), (proj 12 x3), (proj 13 x3), (proj 14 x3), (proj 15 x3), (proj 16 x3), (proj 17 x3), (proj 18 x3), (proj 19 x3)]), .val), ((proj 42 x2), .val)] q3.2) fun q4 =>
  some ([], q4.2)) := evP_of [] (by kernel_rfl)
theorem fix_mach_Machine_then (x0 : Nat) (x1 : DV) (x2 : DV) (x3 : DV) (sg : List SObj) : (run cfg).r F_mach_Machine_then [(.undef, (.ptr x0 0)), (x1, .val), (x2, .val), (x3, .val)] sg = P_mach_Machine_then (run cfg) x0 x1 x2 x3 sg :=
  (fix_raw (C := cfg) (f := F_mach_Machine_then) (s := sig_mach_Machine_then) (fn := Try.f41) (c := code_mach_Machine_then) (by kernel_rfl) Try.func41 (by kernel_rfl) (by kernel_rfl)).trans (by kernel_rfl)
noncomputable def code_mach_Machine_call : Code := Try.f42.body.getD .skip
noncomputable def P_mach_Machine_call (R : Orc) (x0 : Nat) (x1 : DV) (sg : List SObj) : Option (List DV × List SObj) := evP cfg R fl_mach_Machine_call (retR cfg.P Try.f42 sig_mach_Machine_call) [] code_mach_Machine_call (initSt Try.f42 [(.undef, (.ptr x0 0)), (x1, .val)] sg)
noncomputable def P_mach_Machine_call_13 (R : Orc) (t0i : Nat) (b3_0 : DV) (b3_1 : DV) (b3_2 : DV) (b3_3 : DV) (b3_4 : DV) (b3_5 : DV) (b3_6 : DV) (b3_7 : DV) (b3_8 : DV) (b4 : DV) (sg : List SObj) : Option (List DV × List SObj) := evP cfg R fl_mach_Machine_call (retR cfg.P Try.f42 sig_mach_Machine_call) [true, true, true, true] code_mach_Machine_call ⟨spread .undef 90 0 [], spread .val 90 0 [(0, (.ptr t0i 0)), (3, (.loc 3 0)), (4, (.loc 4 0))], spread none 90 0 [(3, some [(b3_0, .val), (b3_1, .val), (b3_2, .val), (b3_3, .val), (b3_4, .val), (b3_5, .val), (b3_6, .val), (b3_7, .val), (b3_8, .val)]), (4, some [((proj 0 b4), .val), ((proj 1 b4), .val), ((proj 2 b4), .val), ((proj 3 b4), .val), ((proj 4 b4), .val), ((proj 5 b4), .val), ((proj 6 b4), .val), ((proj 7 b4), .val), ((proj 8 b4), .val)])], sg⟩
noncomputable def P_mach_Machine_call_17 (R : Orc) (t0i : Nat) (t8 : DV) (b4 : DV) (b7 : DV) (sg : List SObj) : Option (List DV × List SObj) := evP cfg R fl_mach_Machine_call (retR cfg.P Try.f42 sig_mach_Machine_call) [true, true, true, true, true, true, true] code_mach_Machine_call ⟨spread .undef 90 0 [(8, t8)], spread .val 90 0 [(0, (.ptr t0i 0)), (4, (.loc 4 0)), (7, (.loc 7 0))], spread none 90 0 [(4, some [((proj 0 b4), .val), ((proj 1 b4), .val), ((proj 2 b4), .val), ((proj 3 b4), .val), ((proj 4 b4), .val), ((proj 5 b4), .val), ((proj 6 b4), .val), ((proj 7 b4), .val), ((proj 8 b4), .val)]), (7, some [((proj 0 b7), .val), ((proj 1 b7), .val), ((proj 2 b7), .val), ((proj 3 b7), .val), ((proj 4 b7), .val), ((proj 5 b7), .val), ((proj 6 b7), .val), ((proj 7 b7), .val), ((proj 8 b7), .val), ((proj 9 b7), .val), ((proj 10 b7), .val), ((proj 11 b7), .val), ((proj 12 b7), .val), ((proj 13 b7), .val), ((proj 14 b7), .val), ((proj 15 b7), .val), ((proj 16 b7), .val), ((proj 17 b7), .val), ((proj 18 b7), .val), ((proj 19 b7), .val), ((proj 20 b7), .val), ((proj 21 b7), .val), ((proj 22 b7), .val), ((proj 23 b7), .val)])], sg⟩
set_option maxRecDepth 100000 in
theorem eq_mach_Machine_call (R : Orc) (x0 : Nat) (x1 : DV) (sg : List SObj) : P_mach_Machine_call R x0 x1 sg =
  (og (isAggN 9 x1) <|
  ob (sgBox sg x0) fun c1 =>
  ob (segDat 21 9 c1) fun e2 =>
  og (isAggN 9 (.agg e2)) <|
  ob (dBin .neq (proj 0 x1) (.int .i64 8)) fun d3 =>
  ogd d3
   (ob (R.r F_mach_Machine_stuck [(.undef, (.ptr x0 0))] sg) fun q4 =>
   some ([], q4.2))
   (ob (sgBox sg x0) fun c5 =>
   ob (cellDat c5 32) fun d6 =>
   ob (dLen d6) fun d7 =>
   ob (dBin .geq (proj 1 x1) d7) fun d8 =>
   oif d8
    (ob (R.r F_mach_Machine_stuck [(.undef, (.ptr x0 0))] sg) fun q9 =>
    some ([], q9.2))
    (ob (R.p F_mach_plain [(.agg [(proj 0 x1), (proj 1 x1), (proj 2 x1), (proj 3 x1), (proj 4 x1), (proj 5 x1), (proj 6 x1), (proj 7 x1), (proj 8 x1)])]) fun d10 =>
    ob (dUn .not d10) fun d11 =>
    oif d11
     (ob (dBin .neq (proj 3 x1) (.int .i64 2)) fun d12 =>
     oif d12
      (ob (R.r F_mach_Machine_stuck [(.undef, (.ptr x0 0))] sg) fun q13 =>
      some ([], q13.2))
      (ob (dIdx 5 (proj 7 x1) (.int .i64 0)) fun d14 =>
      ob (R.r F_mach_Machine_wrap [(.undef, (.ptr x0 0)), ((.agg [(proj 0 (.agg e2)), (proj 1 (.agg e2)), (proj 2 (.agg e2)), (proj 3 (.agg e2)), (proj 4 (.agg e2)), (proj 5 (.agg e2)), (proj 6 (.agg e2)), (proj 7 (.agg e2)), (proj 8 (.agg e2))]), .val), ((.agg [(proj 0 d14), (proj 1 d14), (proj 2 d14), (proj 3 d14), (proj 4 d14)]), .val)] sg) fun q15 =>
      ob (dExt 0 (.tup q15.1)) fun d16 =>
      ob (dExt 1 (.tup q15.1)) fun d17 =>
      og (isAggN 9 d16) <|
      ob (dUn .not d17) fun d18 =>
      oif d18
       (some ([], q15.2))
       (ob (dIdx 5 (proj 7 x1) (.int .i64 1)) fun d19 =>
       ob (R.r F_mach_Machine_put [(.undef, (.ptr x0 0)), ((.agg [(proj 0 d19), (proj 1 d19), (proj 2 d19), (proj 3 d19), (proj 4 d19)]), .val)] q15.2) fun q20 =>
       ob (sgBox q20.2 x0) fun c21 =>
       ob (cellDat c21 35) fun d22 =>
       oif d22
        (some ([], q20.2))
        (P_mach_Machine_call_13 R x0 (proj 0 x1) (proj 1 x1) (proj 2 x1) (.int .i64 0) (.int .i64 0) (.int .i64 0) (.bool false) (.list 5 []) (proj 8 x1) d16 q20.2))))
     (P_mach_Machine_call_13 R x0 (proj 0 x1) (proj 1 x1) (proj 2 x1) (proj 3 x1) (proj 4 x1) (proj 5 x1) (proj 6 x1) (proj 7 x1) (proj 8 x1) (.agg e2) sg)))
   none) := evP_of [13, 17] (by kernel_rfl)
theorem eq_mach_Machine_call_13 (R : Orc) (t0i : Nat) (b3_0 : DV) (b3_1 : DV) (b3_2 : DV) (b3_3 : DV) (b3_4 : DV) (b3_5 : DV) (b3_6 : DV) (b3_7 : DV) (b3_8 : DV) (b4 : DV) (sg : List SObj) : P_mach_Machine_call_13 R t0i b3_0 b3_1 b3_2 b3_3 b3_4 b3_5 b3_6 b3_7 b3_8 b4 sg =
  (ob (sgBox sg t0i) fun c1 =>
  ob (cellDat c1 32) fun d2 =>
  ob (dIdx 24 d2 b3_1) fun d3 =>
  oif (proj 2 d3)
   (ob (R.p F_mach_env_with [(proj 23 d3), (proj 1 d3), (.agg [b3_0, b3_1, b3_2, b3_3, b3_4, b3_5, b3_6, b3_7, b3_8])]) fun d4 =>
   P_mach_Machine_call_17 R t0i d4 b4 d3 sg)
   (P_mach_Machine_call_17 R t0i (proj 23 d3) b4 d3 sg)) := evP_of [13, 17] (by kernel_rfl)
theorem eq_mach_Machine_call_17 (R : Orc) (t0i : Nat) (t8 : DV) (b4 : DV) (b7 : DV) (sg : List SObj) : P_mach_Machine_call_17 R t0i t8 b4 b7 sg =
  (ob (R.p F_mach_env_with [t8, (proj 0 b7), (.agg [(proj 0 b4), (proj 1 b4), (proj 2 b4), (proj 3 b4), (proj 4 b4), (proj 5 b4), (proj 6 b4), (proj 7 b4), (proj 8 b4)])]) fun d1 =>
  ob (R.r F_mach_Machine_goes [(.undef, (.ptr t0i 0)), ((.agg [(proj 3 b7), (proj 4 b7), (proj 5 b7), (proj 6 b7), (proj 7 b7), (proj 8 b7), (proj 9 b7), (proj 10 b7), (proj 11 b7), (proj 12 b7), (proj 13 b7), (proj 14 b7), (proj 15 b7), (proj 16 b7), (proj 17 b7), (proj 18 b7), (proj 19 b7), (proj 20 b7), (proj 21 b7), (proj 22 b7)]), .val), (d1, .val)] sg) fun q2 =>
  some ([], q2.2)) := evP_of [13, 17] (by kernel_rfl)
theorem fix_mach_Machine_call (x0 : Nat) (x1 : DV) (sg : List SObj) : (run cfg).r F_mach_Machine_call [(.undef, (.ptr x0 0)), (x1, .val)] sg = P_mach_Machine_call (run cfg) x0 x1 sg :=
  (fix_raw (C := cfg) (f := F_mach_Machine_call) (s := sig_mach_Machine_call) (fn := Try.f42) (c := code_mach_Machine_call) (by kernel_rfl) Try.func42 (by kernel_rfl) (by kernel_rfl)).trans (by kernel_rfl)
noncomputable def code_mach_plain : Code := Try.f43.body.getD .skip
noncomputable def P_mach_plain (R : Orc) (x0 : DV) : Option DV := evP cfg R fl_mach_plain (retP cfg.P Try.f43) [] code_mach_plain (initSt Try.f43 [(x0, .val)] [])
theorem eq_mach_plain (R : Orc) (x0 : DV) : P_mach_plain R x0 =
  (og (isAggN 9 x0) <|
  ob (dBin .eql (proj 3 x0) (.int .i64 0)) fun d1 =>
  some d1) := evP_of [] (by kernel_rfl)
theorem fix_mach_plain (x0 : DV) : (run cfg).p F_mach_plain [x0] = P_mach_plain (run cfg) x0 :=
  (fix_pure (C := cfg) (f := F_mach_plain) (fn := Try.f43) (c := code_mach_plain) (by kernel_rfl) Try.func43 (by kernel_rfl)).trans (by kernel_rfl)
noncomputable def code_mach_operate : Code := Try.f44.body.getD .skip
noncomputable def P_mach_operate (R : Orc) (x0 : DV) (x1 : DV) (x2 : DV) : Option DV := evP cfg R fl_mach_operate (retP cfg.P Try.f44) [] code_mach_operate (initSt Try.f44 [(x0, .val), (x1, .val), (x2, .val)] [])
noncomputable def P_mach_operate_5 (R : Orc) (t9 : DV) (b3 : DV) (b4 : DV) (b5 : DV) (b6_0 : DV) (b6_1 : DV) (b6_2 : DV) (b6_3 : DV) (b6_4 : DV) (b6_5 : DV) (b6_6 : DV) (b6_7 : DV) (b6_8 : DV) (b7_0 : DV) (b7_1 : DV) (b7_2 : DV) (b7_3 : DV) (b7_4 : DV) (b7_5 : DV) (b7_6 : DV) (b7_7 : DV) (b7_8 : DV) (b7_9 : DV) (b7_10 : DV) (b7_11 : DV) (b7_12 : DV) (b7_13 : DV) (b7_14 : DV) (b8_0 : DV) (b8_1 : DV) (b8_2 : DV) (b8_3 : DV) (b8_4 : DV) (b8_5 : DV) (b8_6 : DV) (b8_7 : DV) (b8_8 : DV) (b8_9 : DV) (b8_10 : DV) (b8_11 : DV) (b8_12 : DV) (b8_13 : DV) (b8_14 : DV) : Option DV := evP cfg R fl_mach_operate (retP cfg.P Try.f44) [true, true, true, true] code_mach_operate ⟨spread .undef 106 0 [(9, t9)], spread .val 106 0 [(3, (.loc 3 0)), (4, (.loc 4 0)), (5, (.loc 5 0)), (6, (.loc 6 0)), (7, (.loc 7 0)), (8, (.loc 8 0))], spread none 106 0 [(3, some [((proj 0 b3), .val), ((proj 1 b3), .val), ((proj 2 b3), .val), ((proj 3 b3), .val), ((proj 4 b3), .val), ((proj 5 b3), .val), ((proj 6 b3), .val), ((proj 7 b3), .val), ((proj 8 b3), .val), ((proj 9 b3), .val), ((proj 10 b3), .val), ((proj 11 b3), .val), ((proj 12 b3), .val), ((proj 13 b3), .val), ((proj 14 b3), .val), ((proj 15 b3), .val), ((proj 16 b3), .val), ((proj 17 b3), .val), ((proj 18 b3), .val), ((proj 19 b3), .val)]), (4, some [((proj 0 b4), .val), ((proj 1 b4), .val), ((proj 2 b4), .val), ((proj 3 b4), .val), ((proj 4 b4), .val), ((proj 5 b4), .val), ((proj 6 b4), .val), ((proj 7 b4), .val), ((proj 8 b4), .val)]), (5, some [((proj 0 b5), .val), ((proj 1 b5), .val), ((proj 2 b5), .val), ((proj 3 b5), .val), ((proj 4 b5), .val), ((proj 5 b5), .val), ((proj 6 b5), .val), ((proj 7 b5), .val), ((proj 8 b5), .val)]), (6, some [(b6_0, .val), (b6_1, .val), (b6_2, .val), (b6_3, .val), (b6_4, .val), (b6_5, .val), (b6_6, .val), (b6_7, .val), (b6_8, .val)]), (7, some [(b7_0, .val), (b7_1, .val), (b7_2, .val), (b7_3, .val), (b7_4, .val), (b7_5, .val), (b7_6, .val), (b7_7, .val), (b7_8, .val), (b7_9, .val), (b7_10, .val), (b7_11, .val), (b7_12, .val), (b7_13, .val), (b7_14, .val)]), (8, some [(b8_0, .val), (b8_1, .val), (b8_2, .val), (b8_3, .val), (b8_4, .val), (b8_5, .val), (b8_6, .val), (b8_7, .val), (b8_8, .val), (b8_9, .val), (b8_10, .val), (b8_11, .val), (b8_12, .val), (b8_13, .val), (b8_14, .val)])], []⟩
noncomputable def P_mach_operate_14 (R : Orc) (t39 : DV) (b3 : DV) (b4 : DV) (b5 : DV) (b6_0 : DV) (b6_1 : DV) (b6_2 : DV) (b6_3 : DV) (b6_4 : DV) (b6_5 : DV) (b6_6 : DV) (b6_7 : DV) (b6_8 : DV) (b7_0 : DV) (b7_1 : DV) (b7_2 : DV) (b7_3 : DV) (b7_4 : DV) (b7_5 : DV) (b7_6 : DV) (b7_7 : DV) (b7_8 : DV) (b7_9 : DV) (b7_10 : DV) (b7_11 : DV) (b7_12 : DV) (b7_13 : DV) (b7_14 : DV) (b10_0 : DV) (b10_1 : DV) (b10_2 : DV) (b10_3 : DV) (b10_4 : DV) (b10_5 : DV) (b10_6 : DV) (b10_7 : DV) (b10_8 : DV) : Option DV := evP cfg R fl_mach_operate (retP cfg.P Try.f44) [true, true, true, true, true, true, false, true, false, true, true, true, true] code_mach_operate ⟨spread .undef 106 0 [(39, t39)], spread .val 106 0 [(3, (.loc 3 0)), (4, (.loc 4 0)), (5, (.loc 5 0)), (6, (.loc 6 0)), (7, (.loc 7 0)), (10, (.loc 10 0))], spread none 106 0 [(3, some [((proj 0 b3), .val), ((proj 1 b3), .val), ((proj 2 b3), .val), ((proj 3 b3), .val), ((proj 4 b3), .val), ((proj 5 b3), .val), ((proj 6 b3), .val), ((proj 7 b3), .val), ((proj 8 b3), .val), ((proj 9 b3), .val), ((proj 10 b3), .val), ((proj 11 b3), .val), ((proj 12 b3), .val), ((proj 13 b3), .val), ((proj 14 b3), .val), ((proj 15 b3), .val), ((proj 16 b3), .val), ((proj 17 b3), .val), ((proj 18 b3), .val), ((proj 19 b3), .val)]), (4, some [((proj 0 b4), .val), ((proj 1 b4), .val), ((proj 2 b4), .val), ((proj 3 b4), .val), ((proj 4 b4), .val), ((proj 5 b4), .val), ((proj 6 b4), .val), ((proj 7 b4), .val), ((proj 8 b4), .val)]), (5, some [((proj 0 b5), .val), ((proj 1 b5), .val), ((proj 2 b5), .val), ((proj 3 b5), .val), ((proj 4 b5), .val), ((proj 5 b5), .val), ((proj 6 b5), .val), ((proj 7 b5), .val), ((proj 8 b5), .val)]), (6, some [(b6_0, .val), (b6_1, .val), (b6_2, .val), (b6_3, .val), (b6_4, .val), (b6_5, .val), (b6_6, .val), (b6_7, .val), (b6_8, .val)]), (7, some [(b7_0, .val), (b7_1, .val), (b7_2, .val), (b7_3, .val), (b7_4, .val), (b7_5, .val), (b7_6, .val), (b7_7, .val), (b7_8, .val), (b7_9, .val), (b7_10, .val), (b7_11, .val), (b7_12, .val), (b7_13, .val), (b7_14, .val)]), (10, some [(b10_0, .val), (b10_1, .val), (b10_2, .val), (b10_3, .val), (b10_4, .val), (b10_5, .val), (b10_6, .val), (b10_7, .val), (b10_8, .val)])], []⟩
theorem eq_mach_operate (R : Orc) (x0 : DV) (x1 : DV) (x2 : DV) : P_mach_operate R x0 x1 x2 =
  (og (isAggN 20 x0) <|
  og (isAggN 9 x1) <|
  og (isAggN 9 x2) <|
  ob (dBin .eql (proj 7 x0) (.int .i64 7)) fun d1 =>
  oif d1
   (P_mach_operate_5 R (.int .i64 3) x0 x1 x2 (.int .i64 0) (.int .i64 0) (.str ⟨#[]⟩) (.int .i64 0) (.int .i64 0) (.int .i64 0) (.bool false) (.list 5 []) (.list 9 []) (.int .i64 0) (.int .i64 0) (.int .i64 0) (.str ⟨#[]⟩) (.int .i64 0) (.int .i64 0) (.int .i64 0) (.bool false) (.list 5 []) (.list 9 []) (.int .i64 0) (.bool false) (.int .i64 0) (.int .i64 0) (.int .i64 0) (.int .i64 6) (.int .i64 0) (.int .i64 0) (.str ⟨#[]⟩) (.int .i64 0) (.int .i64 0) (.int .i64 0) (.bool false) (.list 5 []) (.list 9 []) (.int .i64 0) (.bool false) (.int .i64 0) (.int .i64 0) (.int .i64 0))
   (P_mach_operate_5 R (.int .i64 1) x0 x1 x2 (.int .i64 0) (.int .i64 0) (.str ⟨#[]⟩) (.int .i64 0) (.int .i64 0) (.int .i64 0) (.bool false) (.list 5 []) (.list 9 []) (.int .i64 0) (.int .i64 0) (.int .i64 0) (.str ⟨#[]⟩) (.int .i64 0) (.int .i64 0) (.int .i64 0) (.bool false) (.list 5 []) (.list 9 []) (.int .i64 0) (.bool false) (.int .i64 0) (.int .i64 0) (.int .i64 0) (.int .i64 6) (.int .i64 0) (.int .i64 0) (.str ⟨#[]⟩) (.int .i64 0) (.int .i64 0) (.int .i64 0) (.bool false) (.list 5 []) (.list 9 []) (.int .i64 0) (.bool false) (.int .i64 0) (.int .i64 0) (.int .i64 0))) := evP_of [5, 14] (by kernel_rfl)
set_option maxRecDepth 100000 in
theorem eq_mach_operate_5 (R : Orc) (t9 : DV) (b3 : DV) (b4 : DV) (b5 : DV) (b6_0 : DV) (b6_1 : DV) (b6_2 : DV) (b6_3 : DV) (b6_4 : DV) (b6_5 : DV) (b6_6 : DV) (b6_7 : DV) (b6_8 : DV) (b7_0 : DV) (b7_1 : DV) (b7_2 : DV) (b7_3 : DV) (b7_4 : DV) (b7_5 : DV) (b7_6 : DV) (b7_7 : DV) (b7_8 : DV) (b7_9 : DV) (b7_10 : DV) (b7_11 : DV) (b7_12 : DV) (b7_13 : DV) (b7_14 : DV) (b8_0 : DV) (b8_1 : DV) (b8_2 : DV) (b8_3 : DV) (b8_4 : DV) (b8_5 : DV) (b8_6 : DV) (b8_7 : DV) (b8_8 : DV) (b8_9 : DV) (b8_10 : DV) (b8_11 : DV) (b8_12 : DV) (b8_13 : DV) (b8_14 : DV) : P_mach_operate_5 R t9 b3 b4 b5 b6_0 b6_1 b6_2 b6_3 b6_4 b6_5 b6_6 b6_7 b6_8 b7_0 b7_1 b7_2 b7_3 b7_4 b7_5 b7_6 b7_7 b7_8 b7_9 b7_10 b7_11 b7_12 b7_13 b7_14 b8_0 b8_1 b8_2 b8_3 b8_4 b8_5 b8_6 b8_7 b8_8 b8_9 b8_10 b8_11 b8_12 b8_13 b8_14 =
  (ob (dBin .neq (proj 0 b4) t9) fun d1 =>
  ogd d1
   (some (.tup [(.agg [(.int .i64 0), (.int .i64 0), (.str ⟨#[]⟩), (.int .i64 0), (.int .i64 0), (.int .i64 0), (.bool false), (.list 5 []), (.list 9 [])]), (.agg [b8_0, b8_1, b8_2, b8_3, b8_4, b8_5, b8_6, b8_7, b8_8, b8_9, b8_10, b8_11, b8_12, b8_13, b8_14])]))
   (ob (dBin .neq (proj 0 b5) t9) fun d2 =>
   ogd d2
    (some (.tup [(.agg [(.int .i64 0), (.int .i64 0), (.str ⟨#[]⟩), (.int .i64 0), (.int .i64 0), (.int .i64 0), (.bool false), (.list 5 []), (.list 9 [])]), (.agg [b8_0, b8_1, b8_2, b8_3, b8_4, b8_5, b8_6, b8_7, b8_8, b8_9, b8_10, b8_11, b8_12, b8_13, b8_14])]))
    (ob (R.p F_mach_plain [(.agg [(proj 0 b4), (proj 1 b4), (proj 2 b4), (proj 3 b4), (proj 4 b4), (proj 5 b4), (proj 6 b4), (proj 7 b4), (proj 8 b4)])]) fun d3 =>
    ob (dUn .not d3) fun d4 =>
    ogd d4
     (some (.tup [(.agg [(.int .i64 0), (.int .i64 0), (.str ⟨#[]⟩), (.int .i64 0), (.int .i64 0), (.int .i64 0), (.bool false), (.list 5 []), (.list 9 [])]), (.agg [b8_0, b8_1, b8_2, b8_3, b8_4, b8_5, b8_6, b8_7, b8_8, b8_9, b8_10, b8_11, b8_12, b8_13, b8_14])]))
     (ob (R.p F_mach_plain [(.agg [(proj 0 b5), (proj 1 b5), (proj 2 b5), (proj 3 b5), (proj 4 b5), (proj 5 b5), (proj 6 b5), (proj 7 b5), (proj 8 b5)])]) fun d5 =>
     ob (dUn .not d5) fun d6 =>
     oif d6
      (some (.tup [(.agg [(.int .i64 0), (.int .i64 0), (.str ⟨#[]⟩), (.int .i64 0), (.int .i64 0), (.int .i64 0), (.bool false), (.list 5 []), (.list 9 [])]), (.agg [b8_0, b8_1, b8_2, b8_3, b8_4, b8_5, b8_6, b8_7, b8_8, b8_9, b8_10, b8_11, b8_12, b8_13, b8_14])]))
      (ob (dBin .eql (proj 7 b3) (.int .i64 1)) fun d7 =>
      oif d7
       (ob (dBin .add (proj 1 b4) (proj 1 b5)) fun d8 =>
       og (isCell d8) <|
       some (.tup [(.agg [(.int .i64 1), d8, (.str ⟨#[]⟩), (.int .i64 0), (.int .i64 0), (.int .i64 0), (.bool false), (.list 5 []), (.list 9 [])]), (.agg [(.int .i64 0), (.int .i64 0), (.int .i64 0), (.str ⟨#[]⟩), (.int .i64 0), (.int .i64 0), (.int .i64 0), (.bool false), (.list 5 []), (.list 9 []), (.int .i64 0), (.bool false), (.int .i64 0), (.int .i64 0), (.int .i64 0)])]))
       (ob (dBin .eql (proj 7 b3) (.int .i64 2)) fun d9 =>
       oif d9
        (ob (dBin .sub (proj 1 b4) (proj 1 b5)) fun d10 =>
        og (isCell d10) <|
        some (.tup [(.agg [(.int .i64 1), d10, (.str ⟨#[]⟩), (.int .i64 0), (.int .i64 0), (.int .i64 0), (.bool false), (.list 5 []), (.list 9 [])]), (.agg [(.int .i64 0), (.int .i64 0), (.int .i64 0), (.str ⟨#[]⟩), (.int .i64 0), (.int .i64 0), (.int .i64 0), (.bool false), (.list 5 []), (.list 9 []), (.int .i64 0), (.bool false), (.int .i64 0), (.int .i64 0), (.int .i64 0)])]))
        (P_mach_operate_14 R (proj 7 b3) b3 b4 b5 b6_0 b6_1 b6_2 b6_3 b6_4 b6_5 b6_6 b6_7 b6_8 b7_0 b7_1 b7_2 b7_3 b7_4 b7_5 b7_6 b7_7 b7_8 b7_9 b7_10 b7_11 b7_12 b7_13 b7_14 (.int .i64 1) (.int .i64 0) (.str ⟨#[]⟩) (.int .i64 0) (.int .i64 0) (.int .i64 0) (.bool false) (.list 5 []) (.list 9 [])))))
     none)
    none)
   none) := evP_of [5, 14] (by kernel_rfl)
set_option maxRecDepth 100000 in
theorem eq_mach_operate_14 (R : Orc) (t39 : DV) (b3 : DV) (b4 : DV) (b5 : DV) (b6_0 : DV) (b6_1 : DV) (b6_2 : DV) (b6_3 : DV) (b6_4 : DV) (b6_5 : DV) (b6_6 : DV) (b6_7 : DV) (b6_8 : DV) (b7_0 : DV) (b7_1 : DV) (b7_2 : DV) (b7_3 : DV) (b7_4 : DV) (b7_5 : DV) (b7_6 : DV) (b7_7 : DV) (b7_8 : DV) (b7_9 : DV) (b7_10 : DV) (b7_11 : DV) (b7_12 : DV) (b7_13 : DV) (b7_14 : DV) (b10_0 : DV) (b10_1 : DV) (b10_2 : DV) (b10_3 : DV) (b10_4 : DV) (b10_5 : DV) (b10_6 : DV) (b10_7 : DV) (b10_8 : DV) : P_mach_operate_14 R t39 b3 b4 b5 b6_0 b6_1 b6_2 b6_3 b6_4 b6_5 b6_6 b6_7 b6_8 b7_0 b7_1 b7_2 b7_3 b7_4 b7_5 b7_6 b7_7 b7_8 b7_9 b7_10 b7_11 b7_12 b7_13 b7_14 b10_0 b10_1 b10_2 b10_3 b10_4 b10_5 b10_6 b10_7 b10_8 =
  (ob (dBin .eql t39 (.int .i64 3)) fun d1 =>
  oif d1
   (ob (dBin .mul (proj 1 b4) (proj 1 b5)) fun d2 =>
   og (isCell d2) <|
   some (.tup [(.agg [b10_0, d2, b10_2, b10_3, b10_4, b10_5, b10_6, b10_7, b10_8]), (.agg [(.int .i64 0), (.int .i64 0), (.int .i64 0), (.str ⟨#[]⟩), (.int .i64 0), (.int .i64 0), (.int .i64 0), (.bool false), (.list 5 []), (.list 9 []), (.int .i64 0), (.bool false), (.int .i64 0), (.int .i64 0), (.int .i64 0)])]))
   (ob (dBin .eql t39 (.int .i64 4)) fun d3 =>
   oif d3
    (ob (dBin .eql (proj 1 b5) (.int .i64 0)) fun d4 =>
    oif d4
     (some (.tup [(.agg [(.int .i64 0), (.int .i64 0), (.str ⟨#[]⟩), (.int .i64 0), (.int .i64 0), (.int .i64 0), (.bool false), (.list 5 []), (.list 9 [])]), (.agg [(.int .i64 3), (.int .i64 0), (.int .i64 0), (.str ⟨#[]⟩), (.int .i64 0), (.int .i64 0), (.int .i64 0), (.bool false), (.list 5 []), (.list 9 []), (.int .i64 0), (.bool false), (proj 1 b3), (proj 2 b3), (.int .i64 0)])]))
     (ob (dBin .quo (proj 1 b4) (proj 1 b5)) fun d5 =>
     og (isCell d5) <|
     some (.tup [(.agg [b10_0, d5, b10_2, b10_3, b10_4, b10_5, b10_6, b10_7, b10_8]), (.agg [(.int .i64 0), (.int .i64 0), (.int .i64 0), (.str ⟨#[]⟩), (.int .i64 0), (.int .i64 0), (.int .i64 0), (.bool false), (.list 5 []), (.list 9 []), (.int .i64 0), (.bool false), (.int .i64 0), (.int .i64 0), (.int .i64 0)])])))
    (ob (dBin .eql t39 (.int .i64 5)) fun d6 =>
    oif d6
     (ob (dBin .lss (proj 1 b4) (proj 1 b5)) fun d7 =>
     ob (R.p F_mach_truth [d7]) fun d8 =>
     og (isAggN 9 d8) <|
     some (.tup [(.agg [(proj 0 d8), (proj 1 d8), (proj 2 d8), (proj 3 d8), (proj 4 d8), (proj 5 d8), (proj 6 d8), (proj 7 d8), (proj 8 d8)]), (.agg [(.int .i64 0), (.int .i64 0), (.int .i64 0), (.str ⟨#[]⟩), (.int .i64 0), (.int .i64 0), (.int .i64 0), (.bool false), (.list 5 []), (.list 9 []), (.int .i64 0), (.bool false), (.int .i64 0), (.int .i64 0), (.int .i64 0)])]))
     (ob (dBin .eql t39 (.int .i64 6)) fun d9 =>
     oif d9
      (ob (dBin .eql (proj 1 b4) (proj 1 b5)) fun d10 =>
      ob (R.p F_mach_truth [d10]) fun d11 =>
      og (isAggN 9 d11) <|
      some (.tup [(.agg [(proj 0 d11), (proj 1 d11), (proj 2 d11), (proj 3 d11), (proj 4 d11), (proj 5 d11), (proj 6 d11), (proj 7 d11), (proj 8 d11)]), (.agg [(.int .i64 0), (.int .i64 0), (.int .i64 0), (.str ⟨#[]⟩), (.int .i64 0), (.int .i64 0), (.int .i64 0), (.bool false), (.list 5 []), (.list 9 []), (.int .i64 0), (.bool false), (.int .i64 0), (.int .i64 0), (.int .i64 0)])]))
      (ob (dBin .eql (proj 2 b4) (proj 2 b5)) fun d12 =>
      ob (R.p F_mach_truth [d12]) fun d13 =>
      og (isAggN 9 d13) <|
      some (.tup [(.agg [(proj 0 d13), (proj 1 d13), (proj 2 d13), (proj 3 d13), (proj 4 d13), (proj 5 d13), (proj 6 d13), (proj 7 d13), (proj 8 d13)]), (.agg [(.int .i64 0), (.int .i64 0), (.int .i64 0), (.str ⟨#[]⟩), (.int .i64 0), (.int .i64 0), (.int .i64 0), (.bool false), (.list 5 []), (.list 9 []), (.int .i64 0), (.bool false), (.int .i64 0), (.int .i64 0), (.int .i64 0)])])))))) := evP_of [5, 14] (by kernel_rfl)
theorem fix_mach_operate (x0 : DV) (x1 : DV) (x2 : DV) : (run cfg).p F_mach_operate [x0, x1, x2] = P_mach_operate (run cfg) x0 x1 x2 :=
  (fix_pure (C := cfg) (f := F_mach_operate) (fn := Try.f44) (c := code_mach_operate) (by kernel_rfl) Try.func44 (by kernel_rfl)).trans (by kernel_rfl)
end Go.Su

/-
  Equations of the program's functions: by program.
-/
namespace Go.Su
open Go.Proofs
set_option linter.unusedVariables false

noncomputable def code_mach_Machine_match : Code := Try.f45.body.getD .skip
noncomputable def P_mach_Machine_match (R : Orc) (x0 : Nat) (x1 : DV) (sg : List SObj) : Option (List DV × List SObj) := evP cfg R fl_mach_Machine_match (retR cfg.P Try.f45 sig_mach_Machine_match) [] code_mach_Machine_match (initSt Try.f45 [(.undef, (.ptr x0 0)), (x1, .val)] sg)
noncomputable def P_mach_Machine_match_2h (R : Orc) (t0i : Nat) (t15 : DV) (t16 : DV) (t17 : DV) (b3 : DV) (sg : List SObj) : Option (List DV × List SObj) := headP cfg R fl_mach_Machine_match (retR cfg.P Try.f45 sig_mach_Machine_match) [true, false, true, false] code_mach_Machine_match ⟨spread .undef 79 0 [(15, t15), (16, t16), (17, t17)], spread .val 79 0 [(0, (.ptr t0i 0)), (3, (.loc 3 0))], spread none 79 0 [(3, some [((proj 0 b3), .val), ((proj 1 b3), .val), ((proj 2 b3), .val), ((proj 3 b3), .val), ((proj 4 b3), .val), ((proj 5 b3), .val), ((proj 6 b3), .val), ((proj 7 b3), .val), ((proj 8 b3), .val), ((proj 9 b3), .val), ((proj 10 b3), .val), ((proj 11 b3), .val), ((proj 12 b3), .val), ((proj 13 b3), .val), ((proj 14 b3), .val), ((proj 15 b3), .val), ((proj 16 b3), .val), ((proj 17 b3), .val), ((proj 18 b3), .val), ((proj 19 b3), .val), ((proj 20 b3), .val), ((proj 21 b3), .val), ((proj 22 b3), .val), ((proj 23 b3), .val), ((proj 24 b3), .val), ((proj 25 b3), .val), ((proj 26 b3), .val), ((proj 27 b3), .val), ((proj 28 b3), .val), ((proj 29 b3), .val), ((proj 30 b3), .val), ((proj 31 b3), .val), ((proj 32 b3), .val), ((proj 33 b3), .val), ((proj 34 b3), .val), ((proj 35 b3), .val), ((proj 36 b3), .val), ((proj 37 b3), .val), ((proj 38 b3), .val), ((proj 39 b3), .val), ((proj 40 b3), .val), ((proj 41 b3), .val), ((proj 42 b3), .val), ((proj 43 b3), .val), ((proj 44 b3), .val), ((proj 45 b3), .val), ((proj 46 b3), .val), ((proj 47 b3), .val), ((proj 48 b3), .val), ((proj 49 b3), .val), ((proj 50 b3), .val), ((proj 51 b3), .val), ((proj 52 b3), .val), ((proj 53 b3), .val), ((proj 54 b3), .val), ((proj 55 b3), .val), ((proj 56 b3), .val)])], sg⟩
noncomputable def P_mach_Machine_match_12h (R : Orc) (t0i : Nat) (t4 : DV) (t10 : DV) (t49 : DV) (t50 : DV) (t51 : DV) (b3 : DV) (sg : List SObj) : Option (List DV × List SObj) := headP cfg R fl_mach_Machine_match (retR cfg.P Try.f45 sig_mach_Machine_match) [true, false, true, false, false, true, true, false, false, true, true, false, true, true, true, true, true, false, true, false, true, false] code_mach_Machine_match ⟨spread .undef 79 0 [(4, t4), (10, t10), (49, t49), (50, t50), (51, t51)], spread .val 79 0 [(0, (.ptr t0i 0)), (3, (.loc 3 0))], spread none 79 0 [(3, some [((proj 0 b3), .val), ((proj 1 b3), .val), ((proj 2 b3), .val), ((proj 3 b3), .val), ((proj 4 b3), .val), ((proj 5 b3), .val), ((proj 6 b3), .val), ((proj 7 b3), .val), ((proj 8 b3), .val), ((proj 9 b3), .val), ((proj 10 b3), .val), ((proj 11 b3), .val), ((proj 12 b3), .val), ((proj 13 b3), .val), ((proj 14 b3), .val), ((proj 15 b3), .val), ((proj 16 b3), .val), ((proj 17 b3), .val), ((proj 18 b3), .val), ((proj 19 b3), .val), ((proj 20 b3), .val), ((proj 21 b3), .val), ((proj 22 b3), .val), ((proj 23 b3), .val), ((proj 24 b3), .val), ((proj 25 b3), .val), ((proj 26 b3), .val), ((proj 27 b3), .val), ((proj 28 b3), .val), ((proj 29 b3), .val), ((proj 30 b3), .val), ((proj 31 b3), .val), ((proj 32 b3), .val), ((proj 33 b3), .val), ((proj 34 b3), .val), ((proj 35 b3), .val), ((proj 36 b3), .val), ((proj 37 b3), .val), ((proj 38 b3), .val), ((proj 39 b3), .val), ((proj 40 b3), .val), ((proj 41 b3), .val), ((proj 42 b3), .val), ((proj 43 b3), .val), ((proj 44 b3), .val), ((proj 45 b3), .val), ((proj 46 b3), .val), ((proj 47 b3), .val), ((proj 48 b3), .val), ((proj 49 b3), .val), ((proj 50 b3), .val), ((proj 51 b3), .val), ((proj 52 b3), .val), ((proj 53 b3), .val), ((proj 54 b3), .val), ((proj 55 b3), .val), ((proj 56 b3), .val)])], sg⟩
theorem eq_mach_Machine_match (R : Orc) (x0 : Nat) (x1 : DV) (sg : List SObj) : P_mach_Machine_match R x0 x1 sg =
  (og (isAggN 57 x1) <|
  ob (dLen (proj 19 x1)) fun d1 =>
  P_mach_Machine_match_2h R x0 (proj 19 x1) d1 (.int .i64 0) x1 sg) := evP_of [] (by kernel_rfl)
theorem eq_mach_Machine_match_2h (R : Orc) (t0i : Nat) (t15 : DV) (t16 : DV) (t17 : DV) (b3 : DV) (sg : List SObj) : P_mach_Machine_match_2h R t0i t15 t16 t17 b3 sg =
  (ob (dBin .lss t17 t16) fun d1 =>
  oif d1
   (ob (dIdx 7 t15 t17) fun d2 =>
   ob (sgBox sg t0i) fun c3 =>
   ob (segDat 21 9 c3) fun e4 =>
   ob (R.p F_val_Fits [(.agg [(proj 0 d2), (proj 1 d2), (proj 2 d2), (proj 3 d2), (proj 4 d2), (proj 5 d2), (proj 6 d2)]), (.agg e4)]) fun d5 =>
   ob (dExt 0 d5) fun d6 =>
   ob (dExt 1 d5) fun d7 =>
   ob (dExt 2 d5) fun d8 =>
   ob (dExt 3 d5) fun d9 =>
   og (isAggN 15 d8) <|
   ob (dBin .neq d9 (.int .i64 0)) fun d10 =>
   oif d10
    (ob (R.r F_mach_Machine_stuck [(.undef, (.ptr t0i 0))] sg) fun q11 =>
    some ([], q11.2))
    (ob (dBin .neq (proj 0 d8) (.int .i64 0)) fun d12 =>
    oif d12
     (ob (R.r F_mach_Machine_ends [(.undef, (.ptr t0i 0)), ((.agg [(proj 0 d8), (proj 1 d8), (proj 2 d8), (proj 3 d8), (proj 4 d8), (proj 5 d8), (proj 6 d8), (proj 7 d8), (proj 8 d8), (proj 9 d8), (proj 10 d8), (proj 11 d8), (proj 12 d8), (proj 13 d8), (proj 14 d8)]), .val)] sg) fun q13 =>
     some ([], q13.2))
     (oif d7
      (ob (dLen d6) fun d14 =>
      P_mach_Machine_match_12h R t0i t17 (proj 42 b3) d6 d14 (.int .i64 0) b3 sg)
      (ob (dBin .add t17 (.int .i64 1)) fun d15 =>
      P_mach_Machine_match_2h R t0i t15 t16 d15 b3 sg))))
   (ob (R.r F_mach_Machine_ends [(.undef, (.ptr t0i 0)), ((.agg [(.int .i64 4), (.int .i64 0), (.int .i64 0), (.str ⟨#[]⟩), (.int .i64 0), (.int .i64 0), (.int .i64 0), (.bool false), (.list 5 []), (.list 9 []), (.int .i64 0), (.bool false), (proj 2 b3), (proj 3 b3), (.int .i64 0)]), .val)] sg) fun q16 =>
   some ([], q16.2))) := headP_of [] (by kernel_rfl)
theorem eq_mach_Machine_match_12h (R : Orc) (t0i : Nat) (t4 : DV) (t10 : DV) (t49 : DV) (t50 : DV) (t51 : DV) (b3 : DV) (sg : List SObj) : P_mach_Machine_match_12h R t0i t4 t10 t49 t50 t51 b3 sg =
  (ob (dBin .lss t51 t50) fun d1 =>
  oif d1
   (ob (dIdx 10 t49 t51) fun d2 =>
   ob (R.p F_mach_env_with [t10, (proj 0 d2), (.agg [(proj 1 d2), (proj 2 d2), (proj 3 d2), (proj 4 d2), (proj 5 d2), (proj 6 d2), (proj 7 d2), (proj 8 d2), (proj 9 d2)])]) fun d3 =>
   ob (dBin .add t51 (.int .i64 1)) fun d4 =>
   P_mach_Machine_match_12h R t0i t4 d3 t49 t50 d4 b3 sg)
   (ob (dBin .add t4 (.int .i64 1)) fun d5 =>
   ob (dIdx 20 (proj 20 b3) d5) fun d6 =>
   ob (R.r F_mach_Machine_goes [(.undef, (.ptr t0i 0)), ((.agg [(proj 0 d6), (proj 1 d6), (proj 2 d6), (proj 3 d6), (proj 4 d6), (proj 5 d6), (proj 6 d6), (proj 7 d6), (proj 8 d6), (proj 9 d6), (proj 10 d6), (proj 11 d6), (proj 12 d6), (proj 13 d6), (proj 14 d6), (proj 15 d6), (proj 16 d6), (proj 17 d6), (proj 18 d6), (proj 19 d6)]), .val), (t10, .val)] sg) fun q7 =>
   some ([], q7.2))) := headP_of [] (by kernel_rfl)
theorem fix_mach_Machine_match (x0 : Nat) (x1 : DV) (sg : List SObj) : (run cfg).r F_mach_Machine_match [(.undef, (.ptr x0 0)), (x1, .val)] sg = P_mach_Machine_match (run cfg) x0 x1 sg :=
  (fix_raw (C := cfg) (f := F_mach_Machine_match) (s := sig_mach_Machine_match) (fn := Try.f45) (c := code_mach_Machine_match) (by kernel_rfl) Try.func45 (by kernel_rfl) (by kernel_rfl)).trans (by kernel_rfl)
noncomputable def code_mach_Machine_wrap : Code := Try.f46.body.getD .skip
noncomputable def P_mach_Machine_wrap (R : Orc) (x0 : Nat) (x1 : DV) (x2 : DV) (sg : List SObj) : Option (List DV × List SObj) := evP cfg R fl_mach_Machine_wrap (retR cfg.P Try.f46 sig_mach_Machine_wrap) [] code_mach_Machine_wrap (initSt Try.f46 [(.undef, (.ptr x0 0)), (x1, .val), (x2, .val)] sg)
theorem eq_mach_Machine_wrap (R : Orc) (x0 : Nat) (x1 : DV) (x2 : DV) (sg : List SObj) : P_mach_Machine_wrap R x0 x1 x2 sg =
  (og (isAggN 9 x1) <|
  og (isAggN 5 x2) <|
  ob (R.p F_val_Around [(.agg [(proj 0 x1), (proj 1 x1), (proj 2 x1), (proj 3 x1), (proj 4 x1), (proj 5 x1), (proj 6 x1), (proj 7 x1), (proj 8 x1)]), (.agg [(proj 0 x2), (proj 1 x2), (proj 2 x2), (proj 3 x2), (proj 4 x2)])]) fun d1 =>
  ob (dExt 0 d1) fun d2 =>
  ob (dExt 1 d1) fun d3 =>
  ob (dExt 2 d1) fun d4 =>
  og (isAggN 9 d2) <|
  og (isAggN 15 d3) <|
  ob (dBin .neq d4 (.int .i64 0)) fun d5 =>
  oif d5
   (ob (R.r F_mach_Machine_stuck [(.undef, (.ptr x0 0))] sg) fun q6 =>
   some ([(.agg [(.int .i64 0), (.int .i64 0), (.str ⟨#[]⟩), (.int .i64 0), (.int .i64 0), (.int .i64 0), (.bool false), (.list 5 []), (.list 9 [])]), (.bool false)], q6.2))
   (ob (dBin .neq (proj 0 d3) (.int .i64 0)) fun d7 =>
   oif d7
    (ob (R.r F_mach_Machine_ends [(.undef, (.ptr x0 0)), ((.agg [(proj 0 d3), (proj 1 d3), (proj 2 d3), (proj 3 d3), (proj 4 d3), (proj 5 d3), (proj 6 d3), (proj 7 d3), (proj 8 d3), (proj 9 d3), (proj 10 d3), (proj 11 d3), (proj 12 d3), (proj 13 d3), (proj 14 d3)]), .val)] sg) fun q8 =>
    some ([(.agg [(.int .i64 0), (.int .i64 0), (.str ⟨#[]⟩), (.int .i64 0), (.int .i64 0), (.int .i64 0), (.bool false), (.list 5 []), (.list 9 [])]), (.bool false)], q8.2))
    (some ([(.agg [(proj 0 d2), (proj 1 d2), (proj 2 d2), (proj 3 d2), (proj 4 d2), (proj 5 d2), (proj 6 d2), (proj 7 d2), (proj 8 d2)]), (.bool true)], sg)))) := evP_of [] (by kernel_rfl)
theorem fix_mach_Machine_wrap (x0 : Nat) (x1 : DV) (x2 : DV) (sg : List SObj) : (run cfg).r F_mach_Machine_wrap [(.undef, (.ptr x0 0)), (x1, .val), (x2, .val)] sg = P_mach_Machine_wrap (run cfg) x0 x1 x2 sg :=
  (fix_raw (C := cfg) (f := F_mach_Machine_wrap) (s := sig_mach_Machine_wrap) (fn := Try.f46) (c := code_mach_Machine_wrap) (by kernel_rfl) Try.func46 (by kernel_rfl) (by kernel_rfl)).trans (by kernel_rfl)
noncomputable def code_term_one : Code := Try.f47.body.getD .skip
noncomputable def P_term_one (R : Orc) (x0 : DV) : Option DV := evP cfg R fl_term_one (retP cfg.P Try.f47) [] code_term_one (initSt Try.f47 [(x0, .val)] [])
noncomputable def P_term_one_4 (R : Orc) (b1 : DV) (b3 : DV) : Option DV := evP cfg R fl_term_one (retP cfg.P Try.f47) [true, true, false, false, true, true] code_term_one ⟨spread .undef 183 0 [], spread .val 183 0 [(1, (.loc 1 0)), (3, (.loc 3 0))], spread none 183 0 [(1, some [((proj 0 b1), .val), ((proj 1 b1), .val), ((proj 2 b1), .val), ((proj 3 b1), .val), ((proj 4 b1), .val), ((proj 5 b1), .val), ((proj 6 b1), .val), ((proj 7 b1), .val), ((proj 8 b1), .val), ((proj 9 b1), .val), ((proj 10 b1), .val), ((proj 11 b1), .val), ((proj 12 b1), .val), ((proj 13 b1), .val), ((proj 14 b1), .val), ((proj 15 b1), .val), ((proj 16 b1), .val), ((proj 17 b1), .val), ((proj 18 b1), .val), ((proj 19 b1), .val)]), (3, some [((proj 0 b3), .val), ((proj 1 b3), .val), ((proj 2 b3), .val), ((proj 3 b3), .val), ((proj 4 b3), .val), ((proj 5 b3), .val), ((proj 6 b3), .val), ((proj 7 b3), .val), ((proj 8 b3), .val), ((proj 9 b3), .val), ((proj 10 b3), .val), ((proj 11 b3), .val), ((proj 12 b3), .val)])], []⟩
noncomputable def P_term_one_6 (R : Orc) (b1 : DV) (b3 : DV) : Option DV := evP cfg R fl_term_one (retP cfg.P Try.f47) [true, true, false, false, true, true, true, true] code_term_one ⟨spread .undef 183 0 [], spread .val 183 0 [(1, (.loc 1 0)), (3, (.loc 3 0))], spread none 183 0 [(1, some [((proj 0 b1), .val), ((proj 1 b1), .val), ((proj 2 b1), .val), ((proj 3 b1), .val), ((proj 4 b1), .val), ((proj 5 b1), .val), ((proj 6 b1), .val), ((proj 7 b1), .val), ((proj 8 b1), .val), ((proj 9 b1), .val), ((proj 10 b1), .val), ((proj 11 b1), .val), ((proj 12 b1), .val), ((proj 13 b1), .val), ((proj 14 b1), .val), ((proj 15 b1), .val), ((proj 16 b1), .val), ((proj 17 b1), .val), ((proj 18 b1), .val), ((proj 19 b1), .val)]), (3, some [((proj 0 b3), .val), ((proj 1 b3), .val), ((proj 2 b3), .val), ((proj 3 b3), .val), ((proj 4 b3), .val), ((proj 5 b3), .val), ((proj 6 b3), .val), ((proj 7 b3), .val), ((proj 8 b3), .val), ((proj 9 b3), .val), ((proj 10 b3), .val), ((proj 11 b3), .val), ((proj 12 b3), .val)])], []⟩
noncomputable def P_term_one_8 (R : Orc) (b1 : DV) (b3 : DV) : Option DV := evP cfg R fl_term_one (retP cfg.P Try.f47) [true, true, false, false, true, true, true, true, true, true] code_term_one ⟨spread .undef 183 0 [], spread .val 183 0 [(1, (.loc 1 0)), (3, (.loc 3 0))], spread none 183 0 [(1, some [((proj 0 b1), .val), ((proj 1 b1), .val), ((proj 2 b1), .val), ((proj 3 b1), .val), ((proj 4 b1), .val), ((proj 5 b1), .val), ((proj 6 b1), .val), ((proj 7 b1), .val), ((proj 8 b1), .val), ((proj 9 b1), .val), ((proj 10 b1), .val), ((proj 11 b1), .val), ((proj 12 b1), .val), ((proj 13 b1), .val), ((proj 14 b1), .val), ((proj 15 b1), .val), ((proj 16 b1), .val), ((proj 17 b1), .val), ((proj 18 b1), .val), ((proj 19 b1), .val)]), (3, some [((proj 0 b3), .val), ((proj 1 b3), .val), ((proj 2 b3), .val), ((proj 3 b3), .val), ((proj 4 b3), .val), ((proj 5 b3), .val), ((proj 6 b3), .val), ((proj 7 b3), .val), ((proj 8 b3), .val), ((proj 9 b3), .val), ((proj 10 b3), .val), ((proj 11 b3), .val), ((proj 12 b3), .val)])], []⟩
noncomputable def P_term_one_10 (R : Orc) (b1 : DV) (b3 : DV) : Option DV := evP cfg R fl_term_one (retP cfg.P Try.f47) [true, true, false, false, true, true, true, true, true, true, true, true] code_term_one ⟨spread .undef 183 0 [], spread .val 183 0 [(1, (.loc 1 0)), (3, (.loc 3 0))], spread none 183 0 [(1, some [((proj 0 b1), .val), ((proj 1 b1), .val), ((proj 2 b1), .val), ((proj 3 b1), .val), ((proj 4 b1), .val), ((proj 5 b1), .val), ((proj 6 b1), .val), ((proj 7 b1), .val), ((proj 8 b1), .val), ((proj 9 b1), .val), ((proj 10 b1), .val), ((proj 11 b1), .val), ((proj 12 b1), .val), ((proj 13 b1), .val), ((proj 14 b1), .val), ((proj 15 b1), .val), ((proj 16 b1), .val), ((proj 17 b1), .val), ((proj 18 b1), .val), ((proj 19 b1), .val)]), (3, some [((proj 0 b3), .val), ((proj 1 b3), .val), ((proj 2 b3), .val), ((proj 3 b3), .val), ((proj 4 b3), .val), ((proj 5 b3), .val), ((proj 6 b3), .val), ((proj 7 b3), .val), ((proj 8 b3), .val), ((proj 9 b3), .val), ((proj 10 b3), .val), ((proj 11 b3), .val), ((proj 12 b3), .val)])], []⟩
noncomputable def P_term_one_12 (R : Orc) (b1 : DV) (b3 : DV) : Option DV := evP cfg R fl_term_one (retP cfg.P Try.f47) [true, true, false, false, true, true, true, true, true, true, true, true, true, true] code_term_one ⟨spread .undef 183 0 [], spread .val 183 0 [(1, (.loc 1 0)), (3, (.loc 3 0))], spread none 183 0 [(1, some [((proj 0 b1), .val), ((proj 1 b1), .val), ((proj 2 b1), .val), ((proj 3 b1), .val), ((proj 4 b1), .val), ((proj 5 b1), .val), ((proj 6 b1), .val), ((proj 7 b1), .val), ((proj 8 b1), .val), ((proj 9 b1), .val), ((proj 10 b1), .val), ((proj 11 b1), .val), ((proj 12 b1), .val), ((proj 13 b1), .val), ((proj 14 b1), .val), ((proj 15 b1), .val), ((proj 16 b1), .val), ((proj 17 b1), .val), ((proj 18 b1), .val), ((proj 19 b1), .val)]), (3, some [((proj 0 b3), .val), ((proj 1 b3), .val), ((proj 2 b3), .val), ((proj 3 b3), .val), ((proj 4 b3), .val), ((proj 5 b3), .val), ((proj 6 b3), .val), ((proj 7 b3), .val), ((proj 8 b3), .val), ((proj 9 b3), .val), ((proj 10 b3), .val), ((proj 11 b3), .val), ((proj 12 b3), .val)])], []⟩
set_option maxRecDepth 100000 in
theorem eq_term_one (R : Orc) (x0 : DV) : P_term_one R x0 =
  (og (isAggN 20 x0) <|
  ob (R.p F_term_shapeOf [(.agg [(proj 0 x0), (proj 1 x0), (proj 2 x0), (proj 3 x0), (proj 4 x0), (proj 5 x0), (proj 6 x0), (proj 7 x0), (proj 8 x0), (proj 9 x0), (proj 10 x0), (proj 11 x0), (proj 12 x0), (proj 13 x0), (proj 14 x0), (proj 15 x0), (proj 16 x0), (proj 17 x0), (proj 18 x0), (proj 19 x0)])]) fun d1 =>
  ob (dExt 0 d1) fun d2 =>
  ob (dExt 1 d1) fun d3 =>
  og (isAggN 13 d2) <|
  ob (dUn .not d3) fun d4 =>
  ogd d4
   (some (.bool false))
   (ob (dLen (proj 19 x0)) fun d5 =>
   ob (dBin .neq d5 (proj 12 d2)) fun d6 =>
   ogd d6
    (some (.bool false))
    (ob (R.p F_term_named [(proj 0 d2), (proj 3 x0)]) fun d7 =>
    ob (dUn .not d7) fun d8 =>
    ogd d8
     (some (.bool false))
     (ob (R.p F_term_named [(proj 1 d2), (proj 4 x0)]) fun d9 =>
     ob (dUn .not d9) fun d10 =>
     ogd d10
      (some (.bool false))
      (ob (R.p F_term_typed [(proj 9 d2), (.agg [(proj 11 x0), (proj 12 x0), (proj 13 x0)])]) fun d11 =>
      ob (dUn .not d11) fun d12 =>
      ogd d12
       (some (.bool false))
       (ob (R.p F_term_typed [(proj 10 d2), (.agg [(proj 14 x0), (proj 15 x0), (proj 16 x0)])]) fun d13 =>
       ob (dUn .not d13) fun d14 =>
       oif d14
        (some (.bool false))
        (P_term_one_4 R x0 d2))
       none)
      none)
     none)
    none)
   none) := evP_of [4, 6, 8, 10, 12] (by kernel_rfl)
set_option maxRecDepth 100000 in
theorem eq_term_one_4 (R : Orc) (b1 : DV) (b3 : DV) : P_term_one_4 R b1 b3 =
  (ob (dUn .not (proj 2 b3)) fun d1 =>
  ogd d1
   (ob (dBin .neq (proj 5 b1) (.int .i64 0)) fun d2 =>
   ogd d2
    (some (.bool false))
    (ob (dBin .eql (proj 0 b1) (.int .i64 3)) fun d3 =>
    ogd d3
     (ob (dBin .neq (proj 5 b1) (.int .i64 0)) fun d4 =>
     ogd d4
      (ob (dBin .neq (proj 5 b1) (.int .i64 1)) fun d5 =>
      oif d5
       (some (.bool false))
       (P_term_one_6 R b1 b3))
      (P_term_one_6 R b1 b3)
      none)
     (P_term_one_6 R b1 b3)
     none)
    none)
   (ob (dBin .eql (proj 0 b1) (.int .i64 3)) fun d6 =>
   ogd d6
    (ob (dBin .neq (proj 5 b1) (.int .i64 0)) fun d7 =>
    ogd d7
     (ob (dBin .neq (proj 5 b1) (.int .i64 1)) fun d8 =>
     oif d8
      (some (.bool false))
      (P_term_one_6 R b1 b3))
     (P_term_one_6 R b1 b3)
     none)
    (P_term_one_6 R b1 b3)
    none)
   none) := evP_of [4, 6, 8, 10, 12] (by kernel_rfl)
set_option maxRecDepth 100000 in
theorem eq_term_one_6 (R : Orc) (b1 : DV) (b3 : DV) : P_term_one_6 R b1 b3 =
  (ob (dUn .not (proj 3 b3)) fun d1 =>
  ogd d1
   (ob (dBin .neq (proj 6 b1) (.str ⟨#[]⟩)) fun d2 =>
   ogd d2
    (some (.bool false))
    (ob (dLenS (proj 6 b1)) fun d3 =>
    ob (dBin .gtr d3 (.int .i64 200)) fun d4 =>
    ogd d4
     (some (.bool false))
     (ob (dUn .not (proj 5 b3)) fun d5 =>
     ogd d5
      (ob (dEqA [.int, .int] (.agg [(proj 1 b1), (proj 2 b1)]) (.agg [(.int .i64 0), (.int .i64 0)])) fun b6 =>
      oif (.bool !b6)
       (some (.bool false))
       (P_term_one_8 R b1 b3))
      (P_term_one_8 R b1 b3)
      none)
     none)
    none)
   (ob (dLenS (proj 6 b1)) fun d7 =>
   ob (dBin .gtr d7 (.int .i64 200)) fun d8 =>
   ogd d8
    (some (.bool false))
    (ob (dUn .not (proj 5 b3)) fun d9 =>
    ogd d9
     (ob (dEqA [.int, .int] (.agg [(proj 1 b1), (proj 2 b1)]) (.agg [(.int .i64 0), (.int .i64 0)])) fun b10 =>
     oif (.bool !b10)
      (some (.bool false))
      (P_term_one_8 R b1 b3))
     (P_term_one_8 R b1 b3)
     none)
    none)
   none) := evP_of [4, 6, 8, 10, 12] (by kernel_rfl)
set_option maxRecDepth 100000 in
theorem eq_term_one_8 (R : Orc) (b1 : DV) (b3 : DV) : P_term_one_8 R b1 b3 =
  (ogd (proj 4 b3)
   (ob (dBin .lss (proj 7 b1) (.int .i64 1)) fun d1 =>
   ogd d1
    (some (.bool false))
    (ob (dBin .gtr (proj 7 b1) (.int .i64 7)) fun d2 =>
    ogd d2
     (some (.bool false))
     (ob (dUn .not (proj 4 b3)) fun d3 =>
     ogd d3
      (ob (dBin .neq (proj 7 b1) (.int .i64 0)) fun d4 =>
      oif d4
       (some (.bool false))
       (P_term_one_10 R b1 b3))
      (P_term_one_10 R b1 b3)
      none)
     none)
    none)
   (ob (dUn .not (proj 4 b3)) fun d5 =>
   ogd d5
    (ob (dBin .neq (proj 7 b1) (.int .i64 0)) fun d6 =>
    oif d6
     (some (.bool false))
     (P_term_one_10 R b1 b3))
    (P_term_one_10 R b1 b3)
    none)
   none) := evP_of [4, 6, 8, 10, 12] (by kernel_rfl)
set_option maxRecDepth 100000 in
theorem eq_term_one_10 (R : Orc) (b1 : DV) (b3 : DV) : P_term_one_10 R b1 b3 =
  (ob (dUn .not (proj 11 b3)) fun d1 =>
  ogd d1
   (ob (dBin .neq (proj 8 b1) (.int .i64 0)) fun d2 =>
   ogd d2
    (some (.bool false))
    (ogd (proj 9 b1)
     (some (.bool false))
     (ob (dBin .lss (proj 8 b1) (.int .i64 0)) fun d3 =>
     ogd d3
      (some (.bool false))
      (ob (dBin .gtr (proj 8 b1) (.int .i64 1048576)) fun d4 =>
      oif d4
       (some (.bool false))
       (P_term_one_12 R b1 b3))
      none)
     none)
    none)
   (ob (dBin .lss (proj 8 b1) (.int .i64 0)) fun d5 =>
   ogd d5
    (some (.bool false))
    (ob (dBin .gtr (proj 8 b1) (.int .i64 1048576)) fun d6 =>
    oif d6
     (some (.bool false))
     (P_term_one_12 R b1 b3))
    none)
   none) := evP_of [4, 6, 8, 10, 12] (by kernel_rfl)
set_option maxRecDepth 100000 in
theorem eq_term_one_12 (R : Orc) (b1 : DV) (b3 : DV) : P_term_one_12 R b1 b3 =
  (ob (dUn .not (proj 6 b3)) fun d1 =>
  ogd d1
   (ob (dLen (proj 10 b1)) fun d2 =>
   ob (dBin .gtr d2 (.int .i64 0)) fun d3 =>
   ogd d3
    (some (.bool false))
    (ob (dUn .not (proj 7 b3)) fun d4 =>
    ogd d4
     (ob (dLen (proj 17 b1)) fun d5 =>
     ob (dBin .gtr d5 (.int .i64 0)) fun d6 =>
     ogd d6
      (some (.bool false))
      (ob (dUn .not (proj 8 b3)) fun d7 =>
      ogd d7
       (ob (dLen (proj 18 b1)) fun d8 =>
       ob (dBin .gtr d8 (.int .i64 0)) fun d9 =>
       oif d9
        (some (.bool false))
        (ob (R.p F_term_lists [(.agg [(proj 0 b1), (proj 1 b1), (proj 2 b1), (proj 3 b1), (proj 4 b1), (proj 5 b1), (proj 6 b1), (proj 7 b1), (proj 8 b1), (proj 9 b1), (proj 10 b1), (proj 11 b1), (proj 12 b1), (proj 13 b1), (proj 14 b1), (proj 15 b1), (proj 16 b1), (proj 17 b1), (proj 18 b1), (proj 19 b1)])]) fun d10 =>
        some d10))
       (ob (R.p F_term_lists [(.agg [(proj 0 b1), (proj 1 b1), (proj 2 b1), (proj 3 b1), (proj 4 b1), (proj 5 b1), (proj 6 b1), (proj 7 b1), (proj 8 b1), (proj 9 b1), (proj 10 b1), (proj 11 b1), (proj 12 b1), (proj 13 b1), (proj 14 b1), (proj 15 b1), (proj 16 b1), (proj 17 b1), (proj 18 b1), (proj 19 b1)])]) fun d11 =>
       some d11)
       none)
      none)
     (ob (dUn .not (proj 8 b3)) fun d12 =>
     ogd d12
      (ob (dLen (proj 18 b1)) fun d13 =>
      ob (dBin .gtr d13 (.int .i64 0)) fun d14 =>
      oif d14
       (some (.bool false))
       (ob (R.p F_term_lists [(.agg [(proj 0 b1), (proj 1 b1), (proj 2 b1), (proj 3 b1), (proj 4 b1), (proj 5 b1), (proj 6 b1), (proj 7 b1), (proj 8 b1), (proj 9 b1), (proj 10 b1), (proj 11 b1), (proj 12 b1), (proj 13 b1), (proj 14 b1), (proj 15 b1), (proj 16 b1), (proj 17 b1), (proj 18 b1), (proj 19 b1)])]) fun d15 =>
       some d15))
      (ob (R.p F_term_lists [(.agg [(proj 0 b1), (proj 1 b1), (proj 2 b1), (proj 3 b1), (proj 4 b1), (proj 5 b1), (proj 6 b1), (proj 7 b1), (proj 8 b1), (proj 9 b1), (proj 10 b1), (proj 11 b1), (proj 12 b1), (proj 13 b1), (proj 14 b1), (proj 15 b1), (proj 16 b1), (proj 17 b1), (proj 18 b1), (proj 19 b1)])]) fun d16 =>
      some d16)
      none)
     none)
    none)
   (ob (dUn .not (proj 7 b3)) fun d17 =>
   ogd d17
    (ob (dLen (proj 17 b1)) fun d18 =>
    ob (dBin .gtr d18 (.int .i64 0)) fun d19 =>
    ogd d19
     (some (.bool false))
     (ob (dUn .not (proj 8 b3)) fun d20 =>
     ogd d20
      (ob (dLen (proj 18 b1)) fun d21 =>
      ob (dBin .gtr d21 (.int .i64 0)) fun d22 =>
      oif d22
       (some (.bool false))
       (ob (R.p F_term_lists [(.agg [(proj 0 b1), (proj 1 b1), (proj 2 b1), (proj 3 b1), (proj 4 b1), (proj 5 b1), (proj 6 b1), (proj 7 b1), (proj 8 b1), (proj 9 b1), (proj 10 b1), (proj 11 b1), (proj 12 b1), (proj 13 b1), (proj 14 b1), (proj 15 b1), (proj 16 b1), (proj 17 b1), (proj 18 b1), (proj 19 b1)])]) fun d23 =>
       some d23))
      (ob (R.p F_term_lists [(.agg [(proj 0 b1), (proj 1 b1), (proj 2 b1), (proj 3 b1), (proj 4 b1), (proj 5 b1), (proj 6 b1), (proj 7 b1), (proj 8 b1), (proj 9 b1), (proj 10 b1), (proj 11 b1), (proj 12 b1), (proj 13 b1), (proj 14 b1), (proj 15 b1), (proj 16 b1), (proj 17 b1), (proj 18 b1), (proj 19 b1)])]) fun d24 =>
      some d24)
      none)
     none)
    (ob (dUn .not (proj 8 b3)) fun d25 =>
    ogd d25
     (ob (dLen (proj 18 b1)) fun d26 =>
     ob (dBin .gtr d26 (.int .i64 0)) fun d27 =>
     oif d27
      (some (.bool false))
      (ob (R.p F_term_lists [(.agg [(proj 0 b1), (proj 1 b1), (proj 2 b1), (proj 3 b1), (proj 4 b1), (proj 5 b1), (proj 6 b1), (proj 7 b1), (proj 8 b1), (proj 9 b1), (proj 10 b1), (proj 11 b1), (proj 12 b1), (proj 13 b1), (proj 14 b1), (proj 15 b1), (proj 16 b1), (proj 17 b1), (proj 18 b1), (proj 19 b1)])]) fun d28 =>
      some d28))
     (ob (R.p F_term_lists [(.agg [(proj 0 b1), (proj 1 b1), (proj 2 b1), (proj 3 b1), (proj 4 b1), (proj 5 b1), (proj 6 b1), (proj 7 b1), (proj 8 b1), (proj 9 b1), (proj 10 b1), (proj 11 b1), (proj 12 b1), (proj 13 b1), (proj 14 b1), (proj 15 b1), (proj 16 b1), (proj 17 b1), (proj 18 b1), (proj 19 b1)])]) fun d29 =>
     some d29)
     none)
    none)
   none) := evP_of [4, 6, 8, 10, 12] (by kernel_rfl)
theorem fix_term_one (x0 : DV) : (run cfg).p F_term_one [x0] = P_term_one (run cfg) x0 :=
  (fix_pure (C := cfg) (f := F_term_one) (fn := Try.f47) (c := code_term_one) (by kernel_rfl) Try.func47 (by kernel_rfl)).trans (by kernel_rfl)
noncomputable def code_val_none : Code := Try.f49.body.getD .skip
noncomputable def P_val_none (R : Orc) (x0 : DV) : Option DV := evP cfg R fl_val_none (retP cfg.P Try.f49) [] code_val_none (initSt Try.f49 [(x0, .val)] [])
set_option maxRecDepth 100000 in
theorem eq_val_none (R : Orc) (x0 : DV) : P_val_none R x0 =
  (og (isAggN 5 x0) <|
  ob (dBin .eql (proj 0 x0) (.int .i64 0)) fun d1 =>
  ogd d1
   (ob (dBin .eql (proj 1 x0) (.int .i64 0)) fun d2 =>
   ogd d2
    (ob (dBin .eql (proj 2 x0) (.int .i64 0)) fun d3 =>
    ogd d3
     (ob (dUn .not (proj 3 x0)) fun d4 =>
     ogd d4
      (ob (dLen (proj 4 x0)) fun d5 =>
      ob (dBin .eql d5 (.int .i64 0)) fun d6 =>
      some d6)
      (some (.bool false))
      none)
     (some (.bool false))
     none)
    (some (.bool false))
    none)
   (some (.bool false))
   none) := evP_of [] (by kernel_rfl)
theorem fix_val_none (x0 : DV) : (run cfg).p F_val_none [x0] = P_val_none (run cfg) x0 :=
  (fix_pure (C := cfg) (f := F_val_none) (fn := Try.f49) (c := code_val_none) (by kernel_rfl) Try.func49 (by kernel_rfl)).trans (by kernel_rfl)
noncomputable def code_val_Around : Code := Try.f50.body.getD .skip
noncomputable def P_val_Around (R : Orc) (x0 : DV) (x1 : DV) : Option DV := evP cfg R fl_val_Around (retP cfg.P Try.f50) [] code_val_Around (initSt Try.f50 [(x0, .val), (x1, .val)] [])
noncomputable def P_val_Around_4 (R : Orc) (b2 : DV) (b3 : DV) (b4_0 : DV) (b4_1 : DV) (b4_2 : DV) (b4_3 : DV) (b4_4 : DV) (b4_5 : DV) (b4_6 : DV) (b4_7 : DV) (b4_8 : DV) (b5_0 : DV) (b5_1 : DV) (b5_2 : DV) (b5_3 : DV) (b5_4 : DV) (b5_5 : DV) (b5_6 : DV) (b5_7 : DV) (b5_8 : DV) (b5_9 : DV) (b5_10 : DV) (b5_11 : DV) (b5_12 : DV) (b5_13 : DV) (b5_14 : DV) (b7_0 : DV) (b7_1 : DV) (b7_2 : DV) (b7_3 : DV) (b7_4 : DV) : Option DV := evP cfg R fl_val_Around (retP cfg.P Try.f50) [true, true, true] code_val_Around ⟨spread .undef 50 0 [], spread .val 50 0 [(2, (.loc 2 0)), (3, (.loc 3 0)), (4, (.loc 4 0)), (5, (.loc 5 0)), (7, (.loc 7 0))], spread none 50 0 [(2, some [((proj 0 b2), .val), ((proj 1 b2), .val), ((proj 2 b2), .val), ((proj 3 b2), .val), ((proj 4 b2), .val), ((proj 5 b2), .val), ((proj 6 b2), .val), ((proj 7 b2), .val), ((proj 8 b2), .val)]), (3, some [((proj 0 b3), .val), ((proj 1 b3), .val), ((proj 2 b3), .val), ((proj 3 b3), .val), ((proj 4 b3), .val)]), (4, some [(b4_0, .val), (b4_1, .val), (b4_2, .val), (b4_3, .val), (b4_4, .val), (b4_5, .val), (b4_6, .val), (b4_7, .val), (b4_8, .val)]), (5, some [(b5_0, .val), (b5_1, .val), (b5_2, .val), (b5_3, .val), (b5_4, .val), (b5_5, .val), (b5_6, .val), (b5_7, .val), (b5_8, .val), (b5_9, .val), (b5_10, .val), (b5_11, .val), (b5_12, .val), (b5_13, .val), (b5_14, .val)]), (7, some [(b7_0, .val), (b7_1, .val), (b7_2, .val), (b7_3, .val), (b7_4, .val)])], []⟩
theorem eq_val_Around (R : Orc) (x0 : DV) (x1 : DV) : P_val_Around R x0 x1 =
  (og (isAggN 9 x0) <|
  og (isAggN 5 x1) <|
  ob (R.p F_val_none [(.agg [(proj 3 x0), (proj 4 x0), (proj 5 x0), (proj 6 x0), (proj 7 x0)])]) fun d1 =>
  oif d1
   (P_val_Around_4 R x0 x1 (.int .i64 0) (.int .i64 0) (.str ⟨#[]⟩) (.int .i64 0) (.int .i64 0) (.int .i64 0) (.bool false) (.list 5 []) (.list 9 []) (.int .i64 0) (.int .i64 0) (.int .i64 0) (.str ⟨#[]⟩) (.int .i64 0) (.int .i64 0) (.int .i64 0) (.bool false) (.list 5 []) (.list 9 []) (.int .i64 0) (.bool false) (.int .i64 0) (.int .i64 0) (.int .i64 0) (.int .i64 1) (.int .i64 0) (.int .i64 0) (.bool false) (.list 5 []))
   (P_val_Around_4 R x0 x1 (.int .i64 0) (.int .i64 0) (.str ⟨#[]⟩) (.int .i64 0) (.int .i64 0) (.int .i64 0) (.bool false) (.list 5 []) (.list 9 []) (.int .i64 0) (.int .i64 0) (.int .i64 0) (.str ⟨#[]⟩) (.int .i64 0) (.int .i64 0) (.int .i64 0) (.bool false) (.list 5 []) (.list 9 []) (.int .i64 0) (.bool false) (.int .i64 0) (.int .i64 0) (.int .i64 0) (proj 3 x0) (proj 4 x0) (proj 5 x0) (proj 6 x0) (proj 7 x0))) := evP_of [4] (by kernel_rfl)
theorem eq_val_Around_4 (R : Orc) (b2 : DV) (b3 : DV) (b4_0 : DV) (b4_1 : DV) (b4_2 : DV) (b4_3 : DV) (b4_4 : DV) (b4_5 : DV) (b4_6 : DV) (b4_7 : DV) (b4_8 : DV) (b5_0 : DV) (b5_1 : DV) (b5_2 : DV) (b5_3 : DV) (b5_4 : DV) (b5_5 : DV) (b5_6 : DV) (b5_7 : DV) (b5_8 : DV) (b5_9 : DV) (b5_10 : DV) (b5_11 : DV) (b5_12 : DV) (b5_13 : DV) (b5_14 : DV) (b7_0 : DV) (b7_1 : DV) (b7_2 : DV) (b7_3 : DV) (b7_4 : DV) : P_val_Around_4 R b2 b3 b4_0 b4_1 b4_2 b4_3 b4_4 b4_5 b4_6 b4_7 b4_8 b5_0 b5_1 b5_2 b5_3 b5_4 b5_5 b5_6 b5_7 b5_8 b5_9 b5_10 b5_11 b5_12 b5_13 b5_14 b7_0 b7_1 b7_2 b7_3 b7_4 =
  (ob (R.p F_comp_Join [(.agg [b7_0, b7_1, b7_2, b7_3, b7_4]), (.agg [(proj 0 b3), (proj 1 b3), (proj 2 b3), (proj 3 b3), (proj 4 b3)])]) fun d1 =>
  ob (dExt 0 d1) fun d2 =>
  ob (dExt 1 d1) fun d3 =>
  og (isAggN 5 d2) <|
  ob (dBin .neq d3 (.int .i64 0)) fun d4 =>
  oif d4
   (some (.tup [(.agg [(.int .i64 0), (.int .i64 0), (.str ⟨#[]⟩), (.int .i64 0), (.int .i64 0), (.int .i64 0), (.bool false), (.list 5 []), (.list 9 [])]), (.agg [(.int .i64 0), (.int .i64 0), (.int .i64 0), (.str ⟨#[]⟩), (.int .i64 0), (.int .i64 0), (.int .i64 0), (.bool false), (.list 5 []), (.list 9 []), (.int .i64 0), (.bool false), (.int .i64 0), (.int .i64 0), (.int .i64 0)]), (.int .i64 8)]))
   (ob (dBin .eql (proj 0 d2) (.int .i64 7)) fun d5 =>
   oif d5
    (ob (R.p F_val_blame [(.agg [(proj 0 d2), (proj 1 d2), (proj 2 d2), (proj 3 d2), (proj 4 d2)])]) fun d6 =>
    og (isAggN 15 d6) <|
    some (.tup [(.agg [(.int .i64 0), (.int .i64 0), (.str ⟨#[]⟩), (.int .i64 0), (.int .i64 0), (.int .i64 0), (.bool false), (.list 5 []), (.list 9 [])]), (.agg [(proj 0 d6), (proj 1 d6), (proj 2 d6), (proj 3 d6), (proj 4 d6), (proj 5 d6), (proj 6 d6), (proj 7 d6), (proj 8 d6), (proj 9 d6), (proj 10 d6), (proj 11 d6), (proj 12 d6), (proj 13 d6), (proj 14 d6)]), (.int .i64 0)]))
    (ob (dBin .eql (proj 0 d2) (.int .i64 1)) fun d7 =>
    oif d7
     (some (.tup [(.agg [(proj 0 b2), (proj 1 b2), (proj 2 b2), (.int .i64 0), (.int .i64 0), (.int .i64 0), (.bool false), (.list 5 []), (proj 8 b2)]), (.agg [(.int .i64 0), (.int .i64 0), (.int .i64 0), (.str ⟨#[]⟩), (.int .i64 0), (.int .i64 0), (.int .i64 0), (.bool false), (.list 5 []), (.list 9 []), (.int .i64 0), (.bool false), (.int .i64 0), (.int .i64 0), (.int .i64 0)]), (.int .i64 0)]))
     (ob (R.p F_val_around [(.agg [(proj 0 b2), (proj 1 b2), (proj 2 b2), (proj 0 d2), (proj 1 d2), (proj 2 d2), (proj 3 d2), (proj 4 d2), (proj 8 b2)])]) fun d8 =>
     ob (dUn .not d8) fun d9 =>
     oif d9
      (some (.tup [(.agg [(.int .i64 0), (.int .i64 0), (.str ⟨#[]⟩), (.int .i64 0), (.int .i64 0), (.int .i64 0), (.bool false), (.list 5 []), (.list 9 [])]), (.agg [(.int .i64 0), (.int .i64 0), (.int .i64 0), (.str ⟨#[]⟩), (.int .i64 0), (.int .i64 0), (.int .i64 0), (.bool false), (.list 5 []), (.list 9 []), (.int .i64 0), (.bool false), (.int .i64 0), (.int .i64 0), (.int .i64 0)]), (.int .i64 8)]))
      (some (.tup [(.agg [(proj 0 b2), (proj 1 b2), (proj 2 b2), (proj 0 d2), (proj 1 d2), (proj 2 d2), (proj 3 d2), (proj 4 d2), (proj 8 b2)]), (.agg [(.int .i64 0), (.int .i64 0), (.int .i64 0), (.str ⟨#[]⟩), (.int .i64 0), (.int .i64 0), (.int .i64 0), (.bool false), (.list 5 []), (.list 9 []), (.int .i64 0), (.bool false), (.int .i64 0), (.int .i64 0), (.int .i64 0)]), (.int .i64 0)])))))) := evP_of [4] (by kernel_rfl)
theorem fix_val_Around (x0 : DV) (x1 : DV) : (run cfg).p F_val_Around [x0, x1] = P_val_Around (run cfg) x0 x1 :=
  (fix_pure (C := cfg) (f := F_val_Around) (fn := Try.f50) (c := code_val_Around) (by kernel_rfl) Try.func50 (by kernel_rfl)).trans (by kernel_rfl)
noncomputable def code_typ_Check : Code := Try.f51.body.getD .skip
noncomputable def P_typ_Check (R : Orc) (x0 : DV) : Option DV := evP cfg R fl_typ_Check (retP cfg.P Try.f51) [] code_typ_Check (initSt Try.f51 [(x0, .val)] [])
theorem eq_typ_Check (R : Orc) (x0 : DV) : P_typ_Check R x0 =
  (og (isAggN 3 x0) <|
  ob (R.p F_typ_right [(.agg [(proj 0 x0), (proj 1 x0), (proj 2 x0)])]) fun d1 =>
  ob (dUn .not d1) fun d2 =>
  oif d2
   (some (.int .i64 1))
   (some (.int .i64 0))) := evP_of [] (by kernel_rfl)
theorem fix_typ_Check (x0 : DV) : (run cfg).p F_typ_Check [x0] = P_typ_Check (run cfg) x0 :=
  (fix_pure (C := cfg) (f := F_typ_Check) (fn := Try.f51) (c := code_typ_Check) (by kernel_rfl) Try.func51 (by kernel_rfl)).trans (by kernel_rfl)
noncomputable def code_agree_Agree : Code := Try.f52.body.getD .skip
noncomputable def P_agree_Agree (R : Orc) (x0 : DV) (x1 : DV) : Option DV := evP cfg R fl_agree_Agree (retP cfg.P Try.f52) [] code_agree_Agree (initSt Try.f52 [(x0, .val), (x1, .val)] [])
theorem eq_agree_Agree (R : Orc) (x0 : DV) (x1 : DV) : P_agree_Agree R x0 x1 =
  (og (isAggN 3 x0) <|
  og (isAggN 3 x1) <|
  ob (R.p F_typ_Check [(.agg [(proj 0 x0), (proj 1 x0), (proj 2 x0)])]) fun d1 =>
  ob (dBin .eql d1 (.int .i64 0)) fun d2 =>
  ogd d2
   (ob (R.p F_typ_Check [(.agg [(proj 0 x1), (proj 1 x1), (proj 2 x1)])]) fun d3 =>
   ob (dBin .eql d3 (.int .i64 0)) fun d4 =>
   ogd d4
    (ob (R.p F_agree_agrees [(.agg [(proj 0 x0), (proj 1 x0), (proj 2 x0)]), (.agg [(proj 0 x1), (proj 1 x1), (proj 2 x1)])]) fun d5 =>
    some d5)
    (some (.bool false))
    none)
   (some (.bool false))
   none) := evP_of [] (by kernel_rfl)
theorem fix_agree_Agree (x0 : DV) (x1 : DV) : (run cfg).p F_agree_Agree [x0, x1] = P_agree_Agree (run cfg) x0 x1 :=
  (fix_pure (C := cfg) (f := F_agree_Agree) (fn := Try.f52) (c := code_agree_Agree) (by kernel_rfl) Try.func52 (by kernel_rfl)).trans (by kernel_rfl)
noncomputable def code_trans_cast : Code := Try.f53.body.getD .skip
noncomputable def P_trans_cast (R : Orc) (x0 : DV) (x1 : DV) (x2 : DV) (x3 : DV) : Option DV := evP cfg R fl_trans_cast (retP cfg.P Try.f53) [] code_trans_cast (initSt Try.f53 [(x0, .val), (x1, .val), (x2, .val), (x3, .val)] [])
noncomputable def P_trans_cast_18 (R : Orc) (b8_0 : DV) (b8_1 : DV) (b8_2 : DV) (b8_3 : DV) (b8_4 : DV) (b13_0 : DV) (b13_1 : DV) (b13_2 : DV) (b13_3 : DV) (b13_4 : DV) : Option DV := evP cfg R fl_trans_cast (retP cfg.P Try.f53) [true, true, true, true] code_trans_cast ⟨spread .undef 143 0 [], spread .val 143 0 [(8, (.loc 8 0)), (13, (.loc 13 0))], spread none 143 0 [(8, some [(b8_0, .val), (b8_1, .val), (b8_2, .val), (b8_3, .val), (b8_4, .val)]), (13, some [(b13_0, .val), (b13_1, .val), (b13_2, .val), (b13_3, .val), (b13_4, .val)])], []⟩
noncomputable def P_trans_cast_19h (R : Orc) (t131 : DV) (t132 : DV) (t133 : DV) (b8_0 : DV) (b8_1 : DV) (b8_2 : DV) (b8_3 : DV) (b8_4 : DV) (b13_0 : DV) (b13_1 : DV) (b13_2 : DV) (b13_3 : DV) (b13_4 : DV) : Option DV := headP cfg R fl_trans_cast (retP cfg.P Try.f53) [true, true, true, true, false, true, false] code_trans_cast ⟨spread .undef 143 0 [(131, t131), (132, t132), (133, t133)], spread .val 143 0 [(8, (.loc 8 0)), (13, (.loc 13 0))], spread none 143 0 [(8, some [(b8_0, .val), (b8_1, .val), (b8_2, .val), (b8_3, .val), (b8_4, .val)]), (13, some [(b13_0, .val), (b13_1, .val), (b13_2, .val), (b13_3, .val), (b13_4, .val)])], []⟩
set_option maxRecDepth 100000 in
theorem eq_trans_cast (R : Orc) (x0 : DV) (x1 : DV) (x2 : DV) (x3 : DV) : P_trans_cast R x0 x1 x2 x3 =
  (og (isAggN 3 x0) <|
  og (isAggN 3 x1) <|
  ob (R.p F_typ_Same [(.agg [(proj 0 x0), (proj 1 x0), (proj 2 x0)]), (.agg [(proj 0 x1), (proj 1 x1), (proj 2 x1)])]) fun d1 =>
  oif d1
   (ob (R.p F_trans_id []) fun d2 =>
   og (isAggN 5 d2) <|
   some (.agg [(proj 0 d2), (proj 1 d2), (proj 2 d2), (proj 3 d2), (proj 4 d2)]))
   (ob (dBin .eql (proj 0 x0) (.int .i64 5)) fun d3 =>
   oif d3
    (ob (R.p F_prec_Ground [(.agg [(proj 0 x1), (proj 1 x1), (proj 2 x1)])]) fun d4 =>
    ob (dExt 0 d4) fun d5 =>
    ob (dExt 1 d4) fun d6 =>
    og (isAggN 3 d5) <|
    ob (R.p F_trans_cast [(.agg [(proj 0 d5), (proj 1 d5), (proj 2 d5)]), (.agg [(proj 0 x1), (proj 1 x1), (proj 2 x1)]), x2, x3]) fun d7 =>
    og (isAggN 5 d7) <|
    og (isCell (proj 0 x1)) <|
    og (isCell x2) <|
    og (isCell x3) <|
    some (.agg [(.int .i64 6), (proj 0 x1), x2, x3, (.list 5 [d7])]))
    (ob (dBin .eql (proj 0 x1) (.int .i64 5)) fun d8 =>
    oif d8
     (ob (R.p F_prec_Ground [(.agg [(proj 0 x0), (proj 1 x0), (proj 2 x0)])]) fun d9 =>
     ob (dExt 0 d9) fun d10 =>
     ob (dExt 1 d9) fun d11 =>
     og (isAggN 3 d10) <|
     ob (R.p F_trans_cast [(.agg [(proj 0 x0), (proj 1 x0), (proj 2 x0)]), (.agg [(proj 0 d10), (proj 1 d10), (proj 2 d10)]), x2, x3]) fun d12 =>
     og (isAggN 5 d12) <|
     og (isCell (proj 0 x0)) <|
     some (.agg [(.int .i64 5), (proj 0 x0), (.int .i64 0), (.bool false), (.list 5 [d12])]))
     (ob (dBin .eql (proj 0 x0) (.int .i64 9)) fun d13 =>
     oif d13
      (ob (dIdx 3 (proj 2 x1) (.int .i64 0)) fun d14 =>
      ob (dIdx 3 (proj 2 x0) (.int .i64 0)) fun d15 =>
      ob (dUn .not x3) fun d16 =>
      ob (R.p F_trans_cast [(.agg [(proj 0 d14), (proj 1 d14), (proj 2 d14)]), (.agg [(proj 0 d15), (proj 1 d15), (proj 2 d15)]), x2, d16]) fun d17 =>
      ob (dIdx 3 (proj 2 x0) (.int .i64 1)) fun d18 =>
      ob (dIdx 3 (proj 2 x1) (.int .i64 1)) fun d19 =>
      ob (R.p F_trans_cast [(.agg [(proj 0 d18), (proj 1 d18), (proj 2 d18)]), (.agg [(proj 0 d19), (proj 1 d19), (proj 2 d19)]), x2, x3]) fun d20 =>
      og (isAggN 5 d17) <|
      og (isAggN 5 d20) <|
      P_trans_cast_18 R (.int .i64 0) (.int .i64 0) (.int .i64 0) (.bool false) (.list 5 []) (.int .i64 2) (.int .i64 0) (.int .i64 0) (.bool false) (.list 5 [d17, d20]))
      (ob (dBin .eql (proj 0 x0) (.int .i64 7)) fun d21 =>
      oif d21
       (ob (dIdx 3 (proj 2 x0) (.int .i64 0)) fun d22 =>
       ob (dIdx 3 (proj 2 x1) (.int .i64 0)) fun d23 =>
       ob (R.p F_trans_cast [(.agg [(proj 0 d22), (proj 1 d22), (proj 2 d22)]), (.agg [(proj 0 d23), (proj 1 d23), (proj 2 d23)]), x2, x3]) fun d24 =>
       ob (dIdx 3 (proj 2 x0) (.int .i64 1)) fun d25 =>
       ob (dIdx 3 (proj 2 x1) (.int .i64 1)) fun d26 =>
       ob (R.p F_trans_cast [(.agg [(proj 0 d25), (proj 1 d25), (proj 2 d25)]), (.agg [(proj 0 d26), (proj 1 d26), (proj 2 d26)]), x2, x3]) fun d27 =>
       og (isAggN 5 d24) <|
       og (isAggN 5 d27) <|
       P_trans_cast_18 R (.int .i64 0) (.int .i64 0) (.int .i64 0) (.bool false) (.list 5 []) (.int .i64 3) (.int .i64 0) (.int .i64 0) (.bool false) (.list 5 [d24, d27]))
       (ob (dIdx 3 (proj 2 x0) (.int .i64 0)) fun d28 =>
       ob (dIdx 3 (proj 2 x1) (.int .i64 0)) fun d29 =>
       ob (R.p F_trans_cast [(.agg [(proj 0 d28), (proj 1 d28), (proj 2 d28)]), (.agg [(proj 0 d29), (proj 1 d29), (proj 2 d29)]), x2, x3]) fun d30 =>
       og (isAggN 5 d30) <|
       P_trans_cast_18 R (.int .i64 0) (.int .i64 0) (.int .i64 0) (.bool false) (.list 5 []) (.int .i64 4) (.int .i64 0) (.int .i64 0) (.bool false) (.list 5 [d30]))))))) := evP_of [18] (by kernel_rfl)
theorem eq_trans_cast_18 (R : Orc) (b8_0 : DV) (b8_1 : DV) (b8_2 : DV) (b8_3 : DV) (b8_4 : DV) (b13_0 : DV) (b13_1 : DV) (b13_2 : DV) (b13_3 : DV) (b13_4 : DV) : P_trans_cast_18 R b8_0 b8_1 b8_2 b8_3 b8_4 b13_0 b13_1 b13_2 b13_3 b13_4 =
  (ob (dLen b13_4) fun d1 =>
  P_trans_cast_19h R b13_4 d1 (.int .i64 0) b8_0 b8_1 b8_2 b8_3 b8_4 b13_0 b13_1 b13_2 b13_3 b13_4) := evP_of [18] (by kernel_rfl)
theorem eq_trans_cast_19h (R : Orc) (t131 : DV) (t132 : DV) (t133 : DV) (b8_0 : DV) (b8_1 : DV) (b8_2 : DV) (b8_3 : DV) (b8_4 : DV) (b13_0 : DV) (b13_1 : DV) (b13_2 : DV) (b13_3 : DV) (b13_4 : DV) : P_trans_cast_19h R t131 t132 t133 b8_0 b8_1 b8_2 b8_3 b8_4 b13_0 b13_1 b13_2 b13_3 b13_4 =
  (ob (dBin .lss t133 t132) fun d1 =>
  oif d1
   (ob (dIdx 5 t131 t133) fun d2 =>
   ob (dBin .neq (proj 0 d2) (.int .i64 1)) fun d3 =>
   oif d3
    (some (.agg [b13_0, b13_1, b13_2, b13_3, b13_4]))
    (ob (dBin .add t133 (.int .i64 1)) fun d4 =>
    P_trans_cast_19h R t131 t132 d4 b8_0 b8_1 b8_2 b8_3 b8_4 b13_0 b13_1 b13_2 b13_3 b13_4))
   (ob (R.p F_trans_id []) fun d5 =>
   og (isAggN 5 d5) <|
   some (.agg [(proj 0 d5), (proj 1 d5), (proj 2 d5), (proj 3 d5), (proj 4 d5)]))) := headP_of [18] (by kernel_rfl)
theorem fix_trans_cast (x0 : DV) (x1 : DV) (x2 : DV) (x3 : DV) : (run cfg).p F_trans_cast [x0, x1, x2, x3] = P_trans_cast (run cfg) x0 x1 x2 x3 :=
  (fix_pure (C := cfg) (f := F_trans_cast) (fn := Try.f53) (c := code_trans_cast) (by kernel_rfl) Try.func53 (by kernel_rfl)).trans (by kernel_rfl)
noncomputable def code_comp_Join : Code := Try.f54.body.getD .skip
noncomputable def P_comp_Join (R : Orc) (x0 : DV) (x1 : DV) : Option DV := evP cfg R fl_comp_Join (retP cfg.P Try.f54) [] code_comp_Join (initSt Try.f54 [(x0, .val), (x1, .val)] [])
theorem eq_comp_Join (R : Orc) (x0 : DV) (x1 : DV) : P_comp_Join R x0 x1 =
  (og (isAggN 5 x0) <|
  og (isAggN 5 x1) <|
  ob (R.p F_coer_Check [(.agg [(proj 0 x0), (proj 1 x0), (proj 2 x0), (proj 3 x0), (proj 4 x0)])]) fun d1 =>
  ob (dBin .neq d1 (.int .i64 0)) fun d2 =>
  ogd d2
   (some (.tup [(.agg [(.int .i64 0), (.int .i64 0), (.int .i64 0), (.bool false), (.list 5 [])]), (.int .i64 1)]))
   (ob (R.p F_coer_Check [(.agg [(proj 0 x1), (proj 1 x1), (proj 2 x1), (proj 3 x1), (proj 4 x1)])]) fun d3 =>
   ob (dBin .neq d3 (.int .i64 0)) fun d4 =>
   oif d4
    (some (.tup [(.agg [(.int .i64 0), (.int .i64 0), (.int .i64 0), (.bool false), (.list 5 [])]), (.int .i64 1)]))
    (ob (R.p F_comp_join [(.agg [(proj 0 x0), (proj 1 x0), (proj 2 x0), (proj 3 x0), (proj 4 x0)]), (.agg [(proj 0 x1), (proj 1 x1), (proj 2 x1), (proj 3 x1), (proj 4 x1)])]) fun d5 =>
    ob (dExt 0 d5) fun d6 =>
    ob (dExt 1 d5) fun d7 =>
    og (isAggN 5 d6) <|
    ob (dUn .not d7) fun d8 =>
    ogd d8
     (some (.tup [(.agg [(.int .i64 0), (.int .i64 0), (.int .i64 0), (.bool false), (.list 5 [])]), (.int .i64 8)]))
     (ob (R.p F_coer_Check [(.agg [(proj 0 d6), (proj 1 d6), (proj 2 d6), (proj 3 d6), (proj 4 d6)])]) fun d9 =>
     ob (dBin .neq d9 (.int .i64 0)) fun d10 =>
     oif d10
      (some (.tup [(.agg [(.int .i64 0), (.int .i64 0), (.int .i64 0), (.bool false), (.list 5 [])]), (.int .i64 8)]))
      (some (.tup [(.agg [(proj 0 d6), (proj 1 d6), (proj 2 d6), (proj 3 d6), (proj 4 d6)]), (.int .i64 0)])))
     none))
   none) := evP_of [] (by kernel_rfl)
theorem fix_comp_Join (x0 : DV) (x1 : DV) : (run cfg).p F_comp_Join [x0, x1] = P_comp_Join (run cfg) x0 x1 :=
  (fix_pure (C := cfg) (f := F_comp_Join) (fn := Try.f54) (c := code_comp_Join) (by kernel_rfl) Try.func54 (by kernel_rfl)).trans (by kernel_rfl)
noncomputable def code_mach_truth : Code := Try.f55.body.getD .skip
noncomputable def P_mach_truth (R : Orc) (x0 : DV) : Option DV := evP cfg R fl_mach_truth (retP cfg.P Try.f55) [] code_mach_truth (initSt Try.f55 [(x0, .val)] [])
theorem eq_mach_truth (R : Orc) (x0 : DV) : P_mach_truth R x0 =
  (oif x0
   (some (.agg [(.int .i64 2), (.int .i64 1), (.str ⟨#[]⟩), (.int .i64 0), (.int .i64 0), (.int .i64 0), (.bool false), (.list 5 []), (.list 9 [])]))
   (some (.agg [(.int .i64 2), (.int .i64 0), (.str ⟨#[]⟩), (.int .i64 0), (.int .i64 0), (.int .i64 0), (.bool false), (.list 5 []), (.list 9 [])]))) := evP_of [] (by kernel_rfl)
theorem fix_mach_truth (x0 : DV) : (run cfg).p F_mach_truth [x0] = P_mach_truth (run cfg) x0 :=
  (fix_pure (C := cfg) (f := F_mach_truth) (fn := Try.f55) (c := code_mach_truth) (by kernel_rfl) Try.func55 (by kernel_rfl)).trans (by kernel_rfl)
noncomputable def code_val_Fits : Code := Try.f56.body.getD .skip
noncomputable def P_val_Fits (R : Orc) (x0 : DV) (x1 : DV) : Option DV := evP cfg R fl_val_Fits (retP cfg.P Try.f56) [] code_val_Fits (initSt Try.f56 [(x0, .val), (x1, .val)] [])
theorem eq_val_Fits (R : Orc) (x0 : DV) (x1 : DV) : P_val_Fits R x0 x1 =
  (og (isAggN 7 x0) <|
  og (isAggN 9 x1) <|
  ob (R.r F_val_matching_pat [(.undef, (.ptr 0 0)), ((.agg [(proj 0 x0), (proj 1 x0), (proj 2 x0), (proj 3 x0), (proj 4 x0), (proj 5 x0), (proj 6 x0)]), .val), ((.agg [(proj 0 x1), (proj 1 x1), (proj 2 x1), (proj 3 x1), (proj 4 x1), (proj 5 x1), (proj 6 x1), (proj 7 x1), (proj 8 x1)]), .val)] [SObj.box [((.list 10 []), .full), ((.int .i64 0), .val), ((.int .i64 0), .val), ((.int .i64 0), .val), ((.str ⟨#[]⟩), .val), ((.int .i64 0), .val), ((.int .i64 0), .val), ((.int .i64 0), .val), ((.bool false), .val), ((.list 5 []), .full), ((.list 9 []), .full), ((.int .i64 0), .val), ((.bool false), .val), ((.int .i64 0), .val), ((.int .i64 0), .val), ((.int .i64 0), .val), ((.int .i64 0), .val)]]) fun q1 =>
  ob (dUn .not (q1.1.getD 0 .undef)) fun d2 =>
  oif d2
   (ob (sgBox q1.2 0) fun c3 =>
   ob (segDat 1 15 c3) fun e4 =>
   ob (sgBox q1.2 0) fun c5 =>
   ob (cellDat c5 16) fun d6 =>
   og (isAggN 15 (.agg e4)) <|
   some (.tup [(.list 10 []), (.bool false), (.agg [(proj 0 (.agg e4)), (proj 1 (.agg e4)), (proj 2 (.agg e4)), (proj 3 (.agg e4)), (proj 4 (.agg e4)), (proj 5 (.agg e4)), (proj 6 (.agg e4)), (proj 7 (.agg e4)), (proj 8 (.agg e4)), (proj 9 (.agg e4)), (proj 10 (.agg e4)), (proj 11 (.agg e4)), (proj 12 (.agg e4)), (proj 13 (.agg e4)), (proj 14 (.agg e4))]), d6]))
   (ob (sgBox q1.2 0) fun c7 =>
   ob (cellDat c7 0) fun d8 =>
   some (.tup [d8, (.bool true), (.agg [(.int .i64 0), (.int .i64 0), (.int .i64 0), (.str ⟨#[]⟩), (.int .i64 0), (.int .i64 0), (.int .i64 0), (.bool false), (.list 5 []), (.list 9 []), (.int .i64 0), (.bool false), (.int .i64 0), (.int .i64 0), (.int .i64 0)]), (.int .i64 0)]))) := evP_of [] (by kernel_rfl)
theorem fix_val_Fits (x0 : DV) (x1 : DV) : (run cfg).p F_val_Fits [x0, x1] = P_val_Fits (run cfg) x0 x1 :=
  (fix_pure (C := cfg) (f := F_val_Fits) (fn := Try.f56) (c := code_val_Fits) (by kernel_rfl) Try.func56 (by kernel_rfl)).trans (by kernel_rfl)
noncomputable def code_term_shapeOf : Code := Try.f57.body.getD .skip
noncomputable def P_term_shapeOf (R : Orc) (x0 : DV) : Option DV := evP cfg R fl_term_shapeOf (retP cfg.P Try.f57) [] code_term_shapeOf (initSt Try.f57 [(x0, .val)] [])
set_option maxRecDepth 100000 in
theorem eq_term_shapeOf (R : Orc) (x0 : DV) : P_term_shapeOf R x0 =
  (og (isAggN 20 x0) <|
  ob (dBin .eql (proj 0 x0) (.int .i64 1)) fun d1 =>
  oif d1
   (some (.tup [(.agg [(.bool true), (.bool false), (.bool false), (.bool false), (.bool false), (.bool false), (.bool false), (.bool true), (.bool false), (.bool false), (.bool false), (.bool false), (.int .i64 0)]), (.bool true)]))
   (ob (dBin .eql (proj 0 x0) (.int .i64 2)) fun d2 =>
   oif d2
    (some (.tup [(.agg [(.bool false), (.bool false), (.bool true), (.bool false), (.bool false), (.bool false), (.bool false), (.bool false), (.bool false), (.bool false), (.bool false), (.bool false), (.int .i64 0)]), (.bool true)]))
    (ob (dBin .eql (proj 0 x0) (.int .i64 3)) fun d3 =>
    oif d3
     (some (.tup [(.agg [(.bool false), (.bool false), (.bool true), (.bool false), (.bool false), (.bool false), (.bool false), (.bool false), (.bool false), (.bool false), (.bool false), (.bool false), (.int .i64 0)]), (.bool true)]))
     (ob (dBin .eql (proj 0 x0) (.int .i64 4)) fun d4 =>
     oif d4
      (some (.tup [(.agg [(.bool false), (.bool false), (.bool false), (.bool true), (.bool false), (.bool false), (.bool false), (.bool false), (.bool false), (.bool false), (.bool false), (.bool false), (.int .i64 0)]), (.bool true)]))
      (ob (dBin .eql (proj 0 x0) (.int .i64 5)) fun d5 =>
      oif d5
       (some (.tup [(.agg [(.bool false), (.bool false), (.bool false), (.bool false), (.bool false), (.bool false), (.bool false), (.bool false), (.bool false), (.bool false), (.bool false), (.bool false), (.int .i64 0)]), (.bool true)]))
       (ob (dBin .eql (proj 0 x0) (.int .i64 7)) fun d6 =>
       oif d6
        (some (.tup [(.agg [(.bool false), (.bool false), (.bool false), (.bool false), (.bool false), (.bool false), (.bool false), (.bool false), (.bool false), (.bool true), (.bool false), (.bool false), (.int .i64 0)]), (.bool true)]))
        (ob (dBin .eql (proj 0 x0) (.int .i64 6)) fun d7 =>
        oif d7
         (some (.tup [(.agg [(.bool false), (.bool false), (.bool false), (.bool false), (.bool false), (.bool false), (.bool false), (.bool false), (.bool false), (.bool false), (.bool false), (.bool false), (.int .i64 2)]), (.bool true)]))
         (ob (dBin .eql (proj 0 x0) (.int .i64 8)) fun d8 =>
         oif d8
          (some (.tup [(.agg [(.bool false), (.bool false), (.bool false), (.bool false), (.bool false), (.bool false), (.bool false), (.bool false), (.bool false), (.bool false), (.bool false), (.bool false), (.int .i64 2)]), (.bool true)]))
          (ob (dBin .eql (proj 0 x0) (.int .i64 10)) fun d9 =>
          oif d9
           (some (.tup [(.agg [(.bool false), (.bool false), (.bool false), (.bool false), (.bool false), (.bool false), (.bool false), (.bool false), (.bool false), (.bool false), (.bool false), (.bool false), (.int .i64 2)]), (.bool true)]))
           (ob (dBin .eql (proj 0 x0) (.int .i64 9)) fun d10 =>
           oif d10
            (some (.tup [(.agg [(.bool true), (.bool false), (.bool false), (.bool false), (.bool false), (.bool false), (.bool false), (.bool false), (.bool false), (.bool true), (.bool false), (.bool false), (.int .i64 1)]), (.bool true)]))
            (ob (dBin .eql (proj 0 x0) (.int .i64 11)) fun d11 =>
            oif d11
             (some (.tup [(.agg [(.bool true), (.bool false), (.bool false), (.bool false), (.bool false), (.bool false), (.bool true), (.bool false), (.bool false), (.bool false), (.bool false), (.bool false), (.int .i64 2)]), (.bool true)]))
             (ob (dBin .eql (proj 0 x0) (.int .i64 12)) fun d12 =>
             oif d12
              (some (.tup [(.agg [(.bool true), (.bool true), (.bool false), (.bool false), (.bool false), (.bool false), (.bool true), (.bool false), (.bool false), (.bool true), (.bool true), (.bool false), (.int .i64 2)]), (.bool true)]))
              (ob (dBin .eql (proj 0 x0) (.int .i64 13)) fun d13 =>
              oif d13
               (some (.tup [(.agg [(.bool false), (.bool false), (.bool false), (.bool false), (.bool false), (.bool false), (.bool false), (.bool false), (.bool false), (.bool false), (.bool false), (.bool false), (.int .i64 3)]), (.bool true)]))
               (ob (dBin .eql (proj 0 x0) (.int .i64 14)) fun d14 =>
               oif d14
                (ob (dLen (proj 18 x0)) fun d15 =>
                ob (dBin .add d15 (.int .i64 1)) fun d16 =>
                og (isCell d16) <|
                ob (dLen (proj 18 x0)) fun d17 =>
                ob (dBin .gtr d17 (.int .i64 0)) fun d18 =>
                some (.tup [(.agg [(.bool false), (.bool false), (.bool false), (.bool false), (.bool false), (.bool true), (.bool false), (.bool false), (.bool true), (.bool false), (.bool false), (.bool false), d16]), d18]))
                (ob (dBin .eql (proj 0 x0) (.int .i64 15)) fun d19 =>
                oif d19
                 (some (.tup [(.agg [(.bool false), (.bool false), (.bool false), (.bool false), (.bool true), (.bool true), (.bool false), (.bool false), (.bool false), (.bool false), (.bool false), (.bool false), (.int .i64 2)]), (.bool true)]))
                 (ob (dBin .eql (proj 0 x0) (.int .i64 16)) fun d20 =>
                 oif d20
                  (some (.tup [(.agg [(.bool false), (.bool false), (.bool false), (.bool false), (.bool false), (.bool false), (.bool false), (.bool false), (.bool false), (.bool true), (.bool true), (.bool true), (.int .i64 1)]), (.bool true)]))
                  (some (.tup [(.agg [(.bool false), (.bool false), (.bool false), (.bool false), (.bool false), (.bool false), (.bool false), (.bool false), (.bool false), (.bool false), (.bool false), (.bool false), (.int .i64 0)]), (.bool false)])))))))))))))))))) := evP_of [] (by kernel_rfl)
theorem fix_term_shapeOf (x0 : DV) : (run cfg).p F_term_shapeOf [x0] = P_term_shapeOf (run cfg) x0 :=
  (fix_pure (C := cfg) (f := F_term_shapeOf) (fn := Try.f57) (c := code_term_shapeOf) (by kernel_rfl) Try.func57 (by kernel_rfl)).trans (by kernel_rfl)
noncomputable def code_term_named : Code := Try.f58.body.getD .skip
noncomputable def P_term_named (R : Orc) (x0 : DV) (x1 : DV) : Option DV := evP cfg R fl_term_named (retP cfg.P Try.f58) [] code_term_named (initSt Try.f58 [(x0, .val), (x1, .val)] [])
theorem eq_term_named (R : Orc) (x0 : DV) (x1 : DV) : P_term_named R x0 x1 =
  (oif x0
   (ob (R.p F_word_Name [x1]) fun d1 =>
   some d1)
   (ob (dBin .eql x1 (.str ⟨#[]⟩)) fun d2 =>
   some d2)) := evP_of [] (by kernel_rfl)
theorem fix_term_named (x0 : DV) (x1 : DV) : (run cfg).p F_term_named [x0, x1] = P_term_named (run cfg) x0 x1 :=
  (fix_pure (C := cfg) (f := F_term_named) (fn := Try.f58) (c := code_term_named) (by kernel_rfl) Try.func58 (by kernel_rfl)).trans (by kernel_rfl)
noncomputable def code_term_typed : Code := Try.f59.body.getD .skip
noncomputable def P_term_typed (R : Orc) (x0 : DV) (x1 : DV) : Option DV := evP cfg R fl_term_typed (retP cfg.P Try.f59) [] code_term_typed (initSt Try.f59 [(x0, .val), (x1, .val)] [])
theorem eq_term_typed (R : Orc) (x0 : DV) (x1 : DV) : P_term_typed R x0 x1 =
  (og (isAggN 3 x1) <|
  oif x0
   (ob (R.p F_typ_Check [(.agg [(proj 0 x1), (proj 1 x1), (proj 2 x1)])]) fun d1 =>
   ob (dBin .eql d1 (.int .i64 0)) fun d2 =>
   some d2)
   (ob (R.p F_term_none [(.agg [(proj 0 x1), (proj 1 x1), (proj 2 x1)])]) fun d3 =>
   some d3)) := evP_of [] (by kernel_rfl)
theorem fix_term_typed (x0 : DV) (x1 : DV) : (run cfg).p F_term_typed [x0, x1] = P_term_typed (run cfg) x0 x1 :=
  (fix_pure (C := cfg) (f := F_term_typed) (fn := Try.f59) (c := code_term_typed) (by kernel_rfl) Try.func59 (by kernel_rfl)).trans (by kernel_rfl)
end Go.Su

/-
  Equations of the program's functions: by program.
-/
namespace Go.Su
open Go.Proofs
set_option linter.unusedVariables false

noncomputable def code_term_lists : Code := Try.f60.body.getD .skip
noncomputable def P_term_lists (R : Orc) (x0 : DV) : Option DV := evP cfg R fl_term_lists (retP cfg.P Try.f60) [] code_term_lists (initSt Try.f60 [(x0, .val)] [])
noncomputable def P_term_lists_2h (R : Orc) (t10 : DV) (t11 : DV) (t12 : DV) (b1 : DV) : Option DV := headP cfg R fl_term_lists (retP cfg.P Try.f60) [true, false, true, false] code_term_lists ⟨spread .undef 45 0 [(10, t10), (11, t11), (12, t12)], spread .val 45 0 [(1, (.loc 1 0))], spread none 45 0 [(1, some [((proj 0 b1), .val), ((proj 1 b1), .val), ((proj 2 b1), .val), ((proj 3 b1), .val), ((proj 4 b1), .val), ((proj 5 b1), .val), ((proj 6 b1), .val), ((proj 7 b1), .val), ((proj 8 b1), .val), ((proj 9 b1), .val), ((proj 10 b1), .val), ((proj 11 b1), .val), ((proj 12 b1), .val), ((proj 13 b1), .val), ((proj 14 b1), .val), ((proj 15 b1), .val), ((proj 16 b1), .val), ((proj 17 b1), .val), ((proj 18 b1), .val), ((proj 19 b1), .val)])], []⟩
noncomputable def P_term_lists_8h (R : Orc) (t24 : DV) (t25 : DV) (t26 : DV) (b1 : DV) : Option DV := headP cfg R fl_term_lists (retP cfg.P Try.f60) [true, true, false, true, false] code_term_lists ⟨spread .undef 45 0 [(24, t24), (25, t25), (26, t26)], spread .val 45 0 [(1, (.loc 1 0))], spread none 45 0 [(1, some [((proj 0 b1), .val), ((proj 1 b1), .val), ((proj 2 b1), .val), ((proj 3 b1), .val), ((proj 4 b1), .val), ((proj 5 b1), .val), ((proj 6 b1), .val), ((proj 7 b1), .val), ((proj 8 b1), .val), ((proj 9 b1), .val), ((proj 10 b1), .val), ((proj 11 b1), .val), ((proj 12 b1), .val), ((proj 13 b1), .val), ((proj 14 b1), .val), ((proj 15 b1), .val), ((proj 16 b1), .val), ((proj 17 b1), .val), ((proj 18 b1), .val), ((proj 19 b1), .val)])], []⟩
noncomputable def P_term_lists_14h (R : Orc) (t35 : DV) (t36 : DV) (t37 : DV) : Option DV := headP cfg R fl_term_lists (retP cfg.P Try.f60) [true, true, true, false, true, false] code_term_lists ⟨spread .undef 45 0 [(35, t35), (36, t36), (37, t37)], spread .val 45 0 [], spread none 45 0 [], []⟩
theorem eq_term_lists (R : Orc) (x0 : DV) : P_term_lists R x0 =
  (og (isAggN 20 x0) <|
  ob (dLen (proj 10 x0)) fun d1 =>
  P_term_lists_2h R (proj 10 x0) d1 (.int .i64 0) x0) := evP_of [] (by kernel_rfl)
theorem eq_term_lists_2h (R : Orc) (t10 : DV) (t11 : DV) (t12 : DV) (b1 : DV) : P_term_lists_2h R t10 t11 t12 b1 =
  (ob (dBin .lss t12 t11) fun d1 =>
  oif d1
   (ob (dIdx 1 t10 t12) fun d2 =>
   og (isLeaf d2) <|
   ob (dBin .lss d2 (.int .i64 0)) fun d3 =>
   ogd d3
    (some (.bool false))
    (ob (dBin .gtr d2 (.int .i64 1048576)) fun d4 =>
    oif d4
     (some (.bool false))
     (ob (dBin .add t12 (.int .i64 1)) fun d5 =>
     P_term_lists_2h R t10 t11 d5 b1))
    none)
   (ob (dLen (proj 17 b1)) fun d6 =>
   P_term_lists_8h R (proj 17 b1) d6 (.int .i64 0) b1)) := headP_of [] (by kernel_rfl)
theorem eq_term_lists_8h (R : Orc) (t24 : DV) (t25 : DV) (t26 : DV) (b1 : DV) : P_term_lists_8h R t24 t25 t26 b1 =
  (ob (dBin .lss t26 t25) fun d1 =>
  oif d1
   (ob (dIdx 3 t24 t26) fun d2 =>
   ob (R.p F_typ_Check [(.agg [(proj 0 d2), (proj 1 d2), (proj 2 d2)])]) fun d3 =>
   ob (dBin .neq d3 (.int .i64 0)) fun d4 =>
   oif d4
    (some (.bool false))
    (ob (dBin .add t26 (.int .i64 1)) fun d5 =>
    P_term_lists_8h R t24 t25 d5 b1))
   (ob (dLen (proj 18 b1)) fun d6 =>
   P_term_lists_14h R (proj 18 b1) d6 (.int .i64 0))) := headP_of [] (by kernel_rfl)
theorem eq_term_lists_14h (R : Orc) (t35 : DV) (t36 : DV) (t37 : DV) : P_term_lists_14h R t35 t36 t37 =
  (ob (dBin .lss t37 t36) fun d1 =>
  oif d1
   (ob (dIdx 7 t35 t37) fun d2 =>
   ob (R.p F_tree_CheckPat [(.agg [(proj 0 d2), (proj 1 d2), (proj 2 d2), (proj 3 d2), (proj 4 d2), (proj 5 d2), (proj 6 d2)])]) fun d3 =>
   ob (dBin .neq d3 (.int .i64 0)) fun d4 =>
   oif d4
    (some (.bool false))
    (ob (dBin .add t37 (.int .i64 1)) fun d5 =>
    P_term_lists_14h R t35 t36 d5))
   (some (.bool true))) := headP_of [] (by kernel_rfl)
theorem fix_term_lists (x0 : DV) : (run cfg).p F_term_lists [x0] = P_term_lists (run cfg) x0 :=
  (fix_pure (C := cfg) (f := F_term_lists) (fn := Try.f60) (c := code_term_lists) (by kernel_rfl) Try.func60 (by kernel_rfl)).trans (by kernel_rfl)
noncomputable def code_val_blame : Code := Try.f61.body.getD .skip
noncomputable def P_val_blame (R : Orc) (x0 : DV) : Option DV := evP cfg R fl_val_blame (retP cfg.P Try.f61) [] code_val_blame (initSt Try.f61 [(x0, .val)] [])
theorem eq_val_blame (R : Orc) (x0 : DV) : P_val_blame R x0 =
  (og (isAggN 5 x0) <|
  og (isCell (proj 2 x0)) <|
  og (isCell (proj 3 x0)) <|
  some (.agg [(.int .i64 2), (.int .i64 0), (.int .i64 0), (.str ⟨#[]⟩), (.int .i64 0), (.int .i64 0), (.int .i64 0), (.bool false), (.list 5 []), (.list 9 []), (proj 2 x0), (proj 3 x0), (.int .i64 0), (.int .i64 0), (.int .i64 0)])) := evP_of [] (by kernel_rfl)
theorem fix_val_blame (x0 : DV) : (run cfg).p F_val_blame [x0] = P_val_blame (run cfg) x0 :=
  (fix_pure (C := cfg) (f := F_val_blame) (fn := Try.f61) (c := code_val_blame) (by kernel_rfl) Try.func61 (by kernel_rfl)).trans (by kernel_rfl)
noncomputable def code_val_around : Code := Try.f62.body.getD .skip
noncomputable def P_val_around (R : Orc) (x0 : DV) : Option DV := evP cfg R fl_val_around (retP cfg.P Try.f62) [] code_val_around (initSt Try.f62 [(x0, .val)] [])
set_option maxRecDepth 100000 in
theorem eq_val_around (R : Orc) (x0 : DV) : P_val_around R x0 =
  (og (isAggN 9 x0) <|
  ob (R.p F_val_none [(.agg [(proj 3 x0), (proj 4 x0), (proj 5 x0), (proj 6 x0), (proj 7 x0)])]) fun d1 =>
  oif d1
   (some (.bool true))
   (ob (dBin .eql (proj 3 x0) (.int .i64 5)) fun d2 =>
   oif d2
    (ob (R.p F_val_head [(proj 0 x0)]) fun d3 =>
    ob (dBin .eql (proj 4 x0) d3) fun d4 =>
    ogd d4
     (ob (R.p F_coer_Check [(.agg [(proj 3 x0), (proj 4 x0), (proj 5 x0), (proj 6 x0), (proj 7 x0)])]) fun d5 =>
     ob (dBin .eql d5 (.int .i64 0)) fun d6 =>
     some d6)
     (some (.bool false))
     none)
    (ob (dBin .eql (proj 3 x0) (.int .i64 3)) fun d7 =>
    oif d7
     (ob (dBin .eql (proj 0 x0) (.int .i64 5)) fun d8 =>
     ogd d8
      (ob (R.p F_coer_Check [(.agg [(proj 3 x0), (proj 4 x0), (proj 5 x0), (proj 6 x0), (proj 7 x0)])]) fun d9 =>
      ob (dBin .eql d9 (.int .i64 0)) fun d10 =>
      some d10)
      (some (.bool false))
      none)
     (ob (dBin .eql (proj 3 x0) (.int .i64 4)) fun d11 =>
     oif d11
      (ob (dBin .eql (proj 0 x0) (.int .i64 6)) fun d12 =>
      ogd d12
       (ob (R.p F_coer_Check [(.agg [(proj 3 x0), (proj 4 x0), (proj 5 x0), (proj 6 x0), (proj 7 x0)])]) fun d13 =>
       ob (dBin .eql d13 (.int .i64 0)) fun d14 =>
       some d14)
       (ob (dBin .eql (proj 0 x0) (.int .i64 7)) fun d15 =>
       ogd d15
        (ob (R.p F_coer_Check [(.agg [(proj 3 x0), (proj 4 x0), (proj 5 x0), (proj 6 x0), (proj 7 x0)])]) fun d16 =>
        ob (dBin .eql d16 (.int .i64 0)) fun d17 =>
        some d17)
        (some (.bool false))
        none)
       none)
      (ob (dBin .eql (proj 3 x0) (.int .i64 2)) fun d18 =>
      oif d18
       (ob (dBin .eql (proj 0 x0) (.int .i64 8)) fun d19 =>
       ogd d19
        (ob (R.p F_coer_Check [(.agg [(proj 3 x0), (proj 4 x0), (proj 5 x0), (proj 6 x0), (proj 7 x0)])]) fun d20 =>
        ob (dBin .eql d20 (.int .i64 0)) fun d21 =>
        some d21)
        (some (.bool false))
        none)
       (some (.bool false))))))) := evP_of [] (by kernel_rfl)
theorem fix_val_around (x0 : DV) : (run cfg).p F_val_around [x0] = P_val_around (run cfg) x0 :=
  (fix_pure (C := cfg) (f := F_val_around) (fn := Try.f62) (c := code_val_around) (by kernel_rfl) Try.func62 (by kernel_rfl)).trans (by kernel_rfl)
noncomputable def code_typ_right : Code := Try.f63.body.getD .skip
noncomputable def P_typ_right (R : Orc) (x0 : DV) : Option DV := evP cfg R fl_typ_right (retP cfg.P Try.f63) [] code_typ_right (initSt Try.f63 [(x0, .val)] [])
noncomputable def P_typ_right_9h (R : Orc) (t33 : DV) (t34 : DV) (t35 : DV) : Option DV := headP cfg R fl_typ_right (retP cfg.P Try.f63) [true, true, true, true, false, true, false] code_typ_right ⟨spread .undef 43 0 [(33, t33), (34, t34), (35, t35)], spread .val 43 0 [], spread none 43 0 [], []⟩
theorem eq_typ_right (R : Orc) (x0 : DV) : P_typ_right R x0 =
  (og (isAggN 3 x0) <|
  ob (R.p F_typ_arity [(proj 0 x0)]) fun d1 =>
  ob (dBin .lss d1 (.int .i64 0)) fun d2 =>
  ogd d2
   (some (.bool false))
   (ob (dLen (proj 2 x0)) fun d3 =>
   ob (dBin .neq d3 d1) fun d4 =>
   oif d4
    (some (.bool false))
    (ob (dBin .eql (proj 0 x0) (.int .i64 6)) fun d5 =>
    oif d5
     (ob (dBin .geq (proj 1 x0) (.int .i64 0)) fun d6 =>
     ogd d6
      (ob (dBin .leq (proj 1 x0) (.int .i64 1048576)) fun d7 =>
      some d7)
      (some (.bool false))
      none)
     (ob (dBin .neq (proj 1 x0) (.int .i64 0)) fun d8 =>
     oif d8
      (some (.bool false))
      (ob (dLen (proj 2 x0)) fun d9 =>
      P_typ_right_9h R (proj 2 x0) d9 (.int .i64 0)))))
   none) := evP_of [] (by kernel_rfl)
theorem eq_typ_right_9h (R : Orc) (t33 : DV) (t34 : DV) (t35 : DV) : P_typ_right_9h R t33 t34 t35 =
  (ob (dBin .lss t35 t34) fun d1 =>
  oif d1
   (ob (dIdx 3 t33 t35) fun d2 =>
   ob (R.p F_typ_right [(.agg [(proj 0 d2), (proj 1 d2), (proj 2 d2)])]) fun d3 =>
   ob (dUn .not d3) fun d4 =>
   oif d4
    (some (.bool false))
    (ob (dBin .add t35 (.int .i64 1)) fun d5 =>
    P_typ_right_9h R t33 t34 d5))
   (some (.bool true))) := headP_of [] (by kernel_rfl)
theorem fix_typ_right (x0 : DV) : (run cfg).p F_typ_right [x0] = P_typ_right (run cfg) x0 :=
  (fix_pure (C := cfg) (f := F_typ_right) (fn := Try.f63) (c := code_typ_right) (by kernel_rfl) Try.func63 (by kernel_rfl)).trans (by kernel_rfl)
noncomputable def code_agree_agrees : Code := Try.f64.body.getD .skip
noncomputable def P_agree_agrees (R : Orc) (x0 : DV) (x1 : DV) : Option DV := evP cfg R fl_agree_agrees (retP cfg.P Try.f64) [] code_agree_agrees (initSt Try.f64 [(x0, .val), (x1, .val)] [])
noncomputable def P_agree_agrees_8h (R : Orc) (t33 : DV) (t34 : DV) (t35 : DV) (b3 : DV) : Option DV := headP cfg R fl_agree_agrees (retP cfg.P Try.f64) [true, true, false, true, false] code_agree_agrees ⟨spread .undef 49 0 [(33, t33), (34, t34), (35, t35)], spread .val 49 0 [(3, (.loc 3 0))], spread none 49 0 [(3, some [((proj 0 b3), .val), ((proj 1 b3), .val), ((proj 2 b3), .val)])], []⟩
theorem eq_agree_agrees (R : Orc) (x0 : DV) (x1 : DV) : P_agree_agrees R x0 x1 =
  (og (isAggN 3 x0) <|
  og (isAggN 3 x1) <|
  ob (dBin .eql (proj 0 x0) (.int .i64 5)) fun d1 =>
  oif d1
   (ob (R.p F_typ_Closed [(.agg [(proj 0 x1), (proj 1 x1), (proj 2 x1)])]) fun d2 =>
   some d2)
   (ob (dBin .eql (proj 0 x1) (.int .i64 5)) fun d3 =>
   oif d3
    (ob (R.p F_typ_Closed [(.agg [(proj 0 x0), (proj 1 x0), (proj 2 x0)])]) fun d4 =>
    some d4)
    (ob (dBin .neq (proj 0 x0) (proj 0 x1)) fun d5 =>
    ogd d5
     (some (.bool false))
     (ob (dBin .neq (proj 1 x0) (proj 1 x1)) fun d6 =>
     oif d6
      (some (.bool false))
      (ob (dLen (proj 2 x0)) fun d7 =>
      P_agree_agrees_8h R (proj 2 x0) d7 (.int .i64 0) x1))
     none))) := evP_of [] (by kernel_rfl)
theorem eq_agree_agrees_8h (R : Orc) (t33 : DV) (t34 : DV) (t35 : DV) (b3 : DV) : P_agree_agrees_8h R t33 t34 t35 b3 =
  (ob (dBin .lss t35 t34) fun d1 =>
  oif d1
   (ob (dIdx 3 t33 t35) fun d2 =>
   ob (dIdx 3 (proj 2 b3) t35) fun d3 =>
   ob (R.p F_agree_agrees [(.agg [(proj 0 d2), (proj 1 d2), (proj 2 d2)]), (.agg [(proj 0 d3), (proj 1 d3), (proj 2 d3)])]) fun d4 =>
   ob (dUn .not d4) fun d5 =>
   oif d5
    (some (.bool false))
    (ob (dBin .add t35 (.int .i64 1)) fun d6 =>
    P_agree_agrees_8h R t33 t34 d6 b3))
   (some (.bool true))) := headP_of [] (by kernel_rfl)
theorem fix_agree_agrees (x0 : DV) (x1 : DV) : (run cfg).p F_agree_agrees [x0, x1] = P_agree_agrees (run cfg) x0 x1 :=
  (fix_pure (C := cfg) (f := F_agree_agrees) (fn := Try.f64) (c := code_agree_agrees) (by kernel_rfl) Try.func64 (by kernel_rfl)).trans (by kernel_rfl)
noncomputable def code_typ_Same : Code := Try.f65.body.getD .skip
noncomputable def P_typ_Same (R : Orc) (x0 : DV) (x1 : DV) : Option DV := evP cfg R fl_typ_Same (retP cfg.P Try.f65) [] code_typ_Same (initSt Try.f65 [(x0, .val), (x1, .val)] [])
noncomputable def P_typ_Same_4h (R : Orc) (t29 : DV) (t30 : DV) (t31 : DV) (b3 : DV) : Option DV := headP cfg R fl_typ_Same (retP cfg.P Try.f65) [true, true, false, true, false] code_typ_Same ⟨spread .undef 45 0 [(29, t29), (30, t30), (31, t31)], spread .val 45 0 [(3, (.loc 3 0))], spread none 45 0 [(3, some [((proj 0 b3), .val), ((proj 1 b3), .val), ((proj 2 b3), .val)])], []⟩
set_option maxRecDepth 100000 in
theorem eq_typ_Same (R : Orc) (x0 : DV) (x1 : DV) : P_typ_Same R x0 x1 =
  (og (isAggN 3 x0) <|
  og (isAggN 3 x1) <|
  ob (dBin .neq (proj 0 x0) (proj 0 x1)) fun d1 =>
  ogd d1
   (some (.bool false))
   (ob (dBin .neq (proj 1 x0) (proj 1 x1)) fun d2 =>
   ogd d2
    (some (.bool false))
    (ob (dLen (proj 2 x0)) fun d3 =>
    ob (dLen (proj 2 x1)) fun d4 =>
    ob (dBin .neq d3 d4) fun d5 =>
    oif d5
     (some (.bool false))
     (ob (dLen (proj 2 x0)) fun d6 =>
     P_typ_Same_4h R (proj 2 x0) d6 (.int .i64 0) x1))
    none)
   none) := evP_of [] (by kernel_rfl)
theorem eq_typ_Same_4h (R : Orc) (t29 : DV) (t30 : DV) (t31 : DV) (b3 : DV) : P_typ_Same_4h R t29 t30 t31 b3 =
  (ob (dBin .lss t31 t30) fun d1 =>
  oif d1
   (ob (dIdx 3 t29 t31) fun d2 =>
   ob (dIdx 3 (proj 2 b3) t31) fun d3 =>
   ob (R.p F_typ_Same [(.agg [(proj 0 d2), (proj 1 d2), (proj 2 d2)]), (.agg [(proj 0 d3), (proj 1 d3), (proj 2 d3)])]) fun d4 =>
   ob (dUn .not d4) fun d5 =>
   oif d5
    (some (.bool false))
    (ob (dBin .add t31 (.int .i64 1)) fun d6 =>
    P_typ_Same_4h R t29 t30 d6 b3))
   (some (.bool true))) := headP_of [] (by kernel_rfl)
theorem fix_typ_Same (x0 : DV) (x1 : DV) : (run cfg).p F_typ_Same [x0, x1] = P_typ_Same (run cfg) x0 x1 :=
  (fix_pure (C := cfg) (f := F_typ_Same) (fn := Try.f65) (c := code_typ_Same) (by kernel_rfl) Try.func65 (by kernel_rfl)).trans (by kernel_rfl)
noncomputable def code_trans_id : Code := Try.f66.body.getD .skip
noncomputable def P_trans_id (R : Orc) : Option DV := evP cfg R fl_trans_id (retP cfg.P Try.f66) [] code_trans_id (initSt Try.f66 [] [])
theorem eq_trans_id (R : Orc) : P_trans_id R =
  (some (.agg [(.int .i64 1), (.int .i64 0), (.int .i64 0), (.bool false), (.list 5 [])])) := evP_of [] (by kernel_rfl)
theorem fix_trans_id : (run cfg).p F_trans_id [] = P_trans_id (run cfg) :=
  (fix_pure (C := cfg) (f := F_trans_id) (fn := Try.f66) (c := code_trans_id) (by kernel_rfl) Try.func66 (by kernel_rfl)).trans (by kernel_rfl)
noncomputable def code_prec_Ground : Code := Try.f67.body.getD .skip
noncomputable def P_prec_Ground (R : Orc) (x0 : DV) : Option DV := evP cfg R fl_prec_Ground (retP cfg.P Try.f67) [] code_prec_Ground (initSt Try.f67 [(x0, .val)] [])
noncomputable def P_prec_Ground_12 (R : Orc) (b1 : DV) (b2_0 : DV) (b2_1 : DV) (b2_2 : DV) (b4_0 : DV) (b4_1 : DV) (b4_2 : DV) : Option DV := evP cfg R fl_prec_Ground (retP cfg.P Try.f67) [true, true, true, false, true, false, true, false] code_prec_Ground ⟨spread .undef 36 0 [], spread .val 36 0 [(1, (.loc 1 0)), (2, (.loc 2 0)), (4, (.loc 4 0))], spread none 36 0 [(1, some [((proj 0 b1), .val), ((proj 1 b1), .val), ((proj 2 b1), .val)]), (2, some [(b2_0, .val), (b2_1, .val), (b2_2, .val)]), (4, some [(b4_0, .val), (b4_1, .val), (b4_2, .own)])], []⟩
noncomputable def P_prec_Ground_13h (R : Orc) (t24 : DV) (t25 : DV) (b2_0 : DV) (b2_1 : DV) (b2_2 : DV) (b4_0 : DV) (b4_1 : DV) (b4_2 : DV) : Option DV := headP cfg R fl_prec_Ground (retP cfg.P Try.f67) [true, true, true, false, true, false, true, false, false, true, false] code_prec_Ground ⟨spread .undef 36 0 [(24, t24), (25, t25)], spread .val 36 0 [(2, (.loc 2 0)), (4, (.loc 4 0))], spread none 36 0 [(2, some [(b2_0, .val), (b2_1, .val), (b2_2, .val)]), (4, some [(b4_0, .val), (b4_1, .val), (b4_2, .own)])], []⟩
theorem eq_prec_Ground (R : Orc) (x0 : DV) : P_prec_Ground R x0 =
  (og (isAggN 3 x0) <|
  ob (R.p F_typ_Check [(.agg [(proj 0 x0), (proj 1 x0), (proj 2 x0)])]) fun d1 =>
  ob (dBin .neq d1 (.int .i64 0)) fun d2 =>
  oif d2
   (some (.tup [(.agg [(.int .i64 0), (.int .i64 0), (.list 3 [])]), (.bool false)]))
   (og (isCell (proj 0 x0)) <|
   ob (dBin .eql (proj 0 x0) (.int .i64 1)) fun d3 =>
   oif d3
    (P_prec_Ground_12 R x0 (.int .i64 0) (.int .i64 0) (.list 3 []) (proj 0 x0) (.int .i64 0) (.list 3 []))
    (ob (dBin .eql (proj 0 x0) (.int .i64 2)) fun d4 =>
    oif d4
     (P_prec_Ground_12 R x0 (.int .i64 0) (.int .i64 0) (.list 3 []) (proj 0 x0) (.int .i64 0) (.list 3 []))
     (ob (dBin .eql (proj 0 x0) (.int .i64 3)) fun d5 =>
     oif d5
      (P_prec_Ground_12 R x0 (.int .i64 0) (.int .i64 0) (.list 3 []) (proj 0 x0) (.int .i64 0) (.list 3 []))
      (ob (dBin .eql (proj 0 x0) (.int .i64 4)) fun d6 =>
      oif d6
       (P_prec_Ground_12 R x0 (.int .i64 0) (.int .i64 0) (.list 3 []) (proj 0 x0) (.int .i64 0) (.list 3 []))
       (ob (dBin .eql (proj 0 x0) (.int .i64 7)) fun d7 =>
       oif d7
        (P_prec_Ground_12 R x0 (.int .i64 0) (.int .i64 0) (.list 3 []) (proj 0 x0) (.int .i64 0) (.list 3 []))
        (ob (dBin .eql (proj 0 x0) (.int .i64 8)) fun d8 =>
        oif d8
         (P_prec_Ground_12 R x0 (.int .i64 0) (.int .i64 0) (.list 3 []) (proj 0 x0) (.int .i64 0) (.list 3 []))
         (ob (dBin .eql (proj 0 x0) (.int .i64 9)) fun d9 =>
         oif d9
          (P_prec_Ground_12 R x0 (.int .i64 0) (.int .i64 0) (.list 3 []) (proj 0 x0) (.int .i64 0) (.list 3 []))
          (some (.tup [(.agg [(.int .i64 0), (.int .i64 0), (.list 3 [])]), (.bool false)])))))))))) := evP_of [12] (by kernel_rfl)
theorem eq_prec_Ground_12 (R : Orc) (b1 : DV) (b2_0 : DV) (b2_1 : DV) (b2_2 : DV) (b4_0 : DV) (b4_1 : DV) (b4_2 : DV) : P_prec_Ground_12 R b1 b2_0 b2_1 b2_2 b4_0 b4_1 b4_2 =
  (ob (dLen (proj 2 b1)) fun d1 =>
  P_prec_Ground_13h R d1 (.int .i64 0) b2_0 b2_1 b2_2 b4_0 b4_1 b4_2) := evP_of [12] (by kernel_rfl)
theorem eq_prec_Ground_13h (R : Orc) (t24 : DV) (t25 : DV) (b2_0 : DV) (b2_1 : DV) (b2_2 : DV) (b4_0 : DV) (b4_1 : DV) (b4_2 : DV) : P_prec_Ground_13h R t24 t25 b2_0 b2_1 b2_2 b4_0 b4_1 b4_2 =
  (ob (dBin .lss t25 t24) fun d1 =>
  oif d1
   (ob (dApp 3 b4_2 (.list 3 [(.agg [(.int .i64 5), (.int .i64 0), (.list 3 [])])])) fun d2 =>
   ob (dBin .add t25 (.int .i64 1)) fun d3 =>
   P_prec_Ground_13h R t24 d3 b2_0 b2_1 b2_2 b4_0 b4_1 d2)
   (some (.tup [(.agg [b4_0, b4_1, b4_2]), (.bool true)]))) := headP_of [12] (by kernel_rfl)
theorem fix_prec_Ground (x0 : DV) : (run cfg).p F_prec_Ground [x0] = P_prec_Ground (run cfg) x0 :=
  (fix_pure (C := cfg) (f := F_prec_Ground) (fn := Try.f67) (c := code_prec_Ground) (by kernel_rfl) Try.func67 (by kernel_rfl)).trans (by kernel_rfl)
noncomputable def code_coer_Check : Code := Try.f68.body.getD .skip
noncomputable def P_coer_Check (R : Orc) (x0 : DV) : Option DV := evP cfg R fl_coer_Check (retP cfg.P Try.f68) [] code_coer_Check (initSt Try.f68 [(x0, .val)] [])
theorem eq_coer_Check (R : Orc) (x0 : DV) : P_coer_Check R x0 =
  (og (isAggN 5 x0) <|
  ob (R.p F_coer_right [(.agg [(proj 0 x0), (proj 1 x0), (proj 2 x0), (proj 3 x0), (proj 4 x0)])]) fun d1 =>
  ob (dUn .not d1) fun d2 =>
  oif d2
   (some (.int .i64 1))
   (some (.int .i64 0))) := evP_of [] (by kernel_rfl)
theorem fix_coer_Check (x0 : DV) : (run cfg).p F_coer_Check [x0] = P_coer_Check (run cfg) x0 :=
  (fix_pure (C := cfg) (f := F_coer_Check) (fn := Try.f68) (c := code_coer_Check) (by kernel_rfl) Try.func68 (by kernel_rfl)).trans (by kernel_rfl)
noncomputable def code_comp_join : Code := Try.f69.body.getD .skip
noncomputable def P_comp_join (R : Orc) (x0 : DV) (x1 : DV) : Option DV := evP cfg R fl_comp_join (retP cfg.P Try.f69) [] code_comp_join (initSt Try.f69 [(x0, .val), (x1, .val)] [])
noncomputable def P_comp_join_12 (R : Orc) (b2 : DV) (b3 : DV) (b4_0 : DV) (b4_1 : DV) (b4_2 : DV) (b4_3 : DV) (b4_4 : DV) : Option DV := evP cfg R fl_comp_join (retP cfg.P Try.f69) [true, false, false, true, true, true, true, true, true, true, true] code_comp_join ⟨spread .undef 111 0 [], spread .val 111 0 [(2, (.loc 2 0)), (3, (.loc 3 0)), (4, (.loc 4 0))], spread none 111 0 [(2, some [((proj 0 b2), .val), ((proj 1 b2), .val), ((proj 2 b2), .val), ((proj 3 b2), .val), ((proj 4 b2), .val)]), (3, some [((proj 0 b3), .val), ((proj 1 b3), .val), ((proj 2 b3), .val), ((proj 3 b3), .val), ((proj 4 b3), .val)]), (4, some [(b4_0, .val), (b4_1, .val), (b4_2, .val), (b4_3, .val), (b4_4, .val)])], []⟩
set_option maxRecDepth 100000 in
theorem eq_comp_join (R : Orc) (x0 : DV) (x1 : DV) : P_comp_join R x0 x1 =
  (og (isAggN 5 x0) <|
  og (isAggN 5 x1) <|
  ob (dBin .eql (proj 0 x0) (.int .i64 1)) fun d1 =>
  oif d1
   (some (.tup [(.agg [(proj 0 x1), (proj 1 x1), (proj 2 x1), (proj 3 x1), (proj 4 x1)]), (.bool true)]))
   (ob (dBin .eql (proj 0 x1) (.int .i64 1)) fun d2 =>
   ogd d2
    (some (.tup [(.agg [(proj 0 x0), (proj 1 x0), (proj 2 x0), (proj 3 x0), (proj 4 x0)]), (.bool true)]))
    (ob (dBin .eql (proj 0 x0) (.int .i64 7)) fun d3 =>
    oif d3
     (some (.tup [(.agg [(proj 0 x0), (proj 1 x0), (proj 2 x0), (proj 3 x0), (proj 4 x0)]), (.bool true)]))
     (ob (dBin .eql (proj 0 x0) (.int .i64 6)) fun d4 =>
     oif d4
      (ob (dIdx 5 (proj 4 x0) (.int .i64 0)) fun d5 =>
      ob (R.p F_comp_join [(.agg [(proj 0 d5), (proj 1 d5), (proj 2 d5), (proj 3 d5), (proj 4 d5)]), (.agg [(proj 0 x1), (proj 1 x1), (proj 2 x1), (proj 3 x1), (proj 4 x1)])]) fun d6 =>
      ob (dExt 0 d6) fun d7 =>
      ob (dExt 1 d6) fun d8 =>
      og (isAggN 5 d7) <|
      ob (R.p F_comp_inner [(.agg [(proj 0 x0), (proj 1 x0), (proj 2 x0), (proj 3 x0), (proj 4 x0)]), (.agg [(proj 0 d7), (proj 1 d7), (proj 2 d7), (proj 3 d7), (proj 4 d7)])]) fun d9 =>
      og (isAggN 5 d9) <|
      some (.tup [(.agg [(proj 0 d9), (proj 1 d9), (proj 2 d9), (proj 3 d9), (proj 4 d9)]), d8]))
      (ob (dBin .eql (proj 0 x0) (.int .i64 5)) fun d10 =>
      ogd d10
       (ob (dBin .eql (proj 0 x1) (.int .i64 6)) fun d11 =>
       oif d11
        (ob (dBin .neq (proj 1 x0) (proj 1 x1)) fun d12 =>
        oif d12
         (og (isCell (proj 2 x1)) <|
         og (isCell (proj 3 x1)) <|
         some (.tup [(.agg [(.int .i64 7), (.int .i64 0), (proj 2 x1), (proj 3 x1), (.list 5 [])]), (.bool true)]))
         (ob (dIdx 5 (proj 4 x0) (.int .i64 0)) fun d13 =>
         ob (dIdx 5 (proj 4 x1) (.int .i64 0)) fun d14 =>
         ob (R.p F_comp_join [(.agg [(proj 0 d13), (proj 1 d13), (proj 2 d13), (proj 3 d13), (proj 4 d13)]), (.agg [(proj 0 d14), (proj 1 d14), (proj 2 d14), (proj 3 d14), (proj 4 d14)])]) fun d15 =>
         ob (dExt 0 d15) fun d16 =>
         ob (dExt 1 d15) fun d17 =>
         og (isAggN 5 d16) <|
         some (.tup [(.agg [(proj 0 d16), (proj 1 d16), (proj 2 d16), (proj 3 d16), (proj 4 d16)]), d17])))
        (P_comp_join_12 R x0 x1 (.int .i64 0) (.int .i64 0) (.int .i64 0) (.bool false) (.list 5 [])))
       (P_comp_join_12 R x0 x1 (.int .i64 0) (.int .i64 0) (.int .i64 0) (.bool false) (.list 5 []))
       none)))
    none)) := evP_of [12] (by kernel_rfl)
theorem eq_comp_join_12 (R : Orc) (b2 : DV) (b3 : DV) (b4_0 : DV) (b4_1 : DV) (b4_2 : DV) (b4_3 : DV) (b4_4 : DV) : P_comp_join_12 R b2 b3 b4_0 b4_1 b4_2 b4_3 b4_4 =
  (ob (dBin .eql (proj 0 b2) (.int .i64 5)) fun d1 =>
  oif d1
   (some (.tup [(.agg [(.int .i64 0), (.int .i64 0), (.int .i64 0), (.bool false), (.list 5 [])]), (.bool false)]))
   (ob (dBin .eql (proj 0 b3) (.int .i64 7)) fun d2 =>
   oif d2
    (some (.tup [(.agg [(proj 0 b3), (proj 1 b3), (proj 2 b3), (proj 3 b3), (proj 4 b3)]), (.bool true)]))
    (ob (dBin .eql (proj 0 b3) (.int .i64 5)) fun d3 =>
    oif d3
     (ob (dIdx 5 (proj 4 b3) (.int .i64 0)) fun d4 =>
     ob (R.p F_comp_join [(.agg [(proj 0 b2), (proj 1 b2), (proj 2 b2), (proj 3 b2), (proj 4 b2)]), (.agg [(proj 0 d4), (proj 1 d4), (proj 2 d4), (proj 3 d4), (proj 4 d4)])]) fun d5 =>
     ob (dExt 0 d5) fun d6 =>
     ob (dExt 1 d5) fun d7 =>
     og (isAggN 5 d6) <|
     ob (R.p F_comp_inner [(.agg [(proj 0 b3), (proj 1 b3), (proj 2 b3), (proj 3 b3), (proj 4 b3)]), (.agg [(proj 0 d6), (proj 1 d6), (proj 2 d6), (proj 3 d6), (proj 4 d6)])]) fun d8 =>
     og (isAggN 5 d8) <|
     some (.tup [(.agg [(proj 0 d8), (proj 1 d8), (proj 2 d8), (proj 3 d8), (proj 4 d8)]), d7]))
     (ob (dBin .neq (proj 0 b2) (proj 0 b3)) fun d9 =>
     oif d9
      (some (.tup [(.agg [(.int .i64 0), (.int .i64 0), (.int .i64 0), (.bool false), (.list 5 [])]), (.bool false)]))
      (ob (R.p F_comp_formed [(.agg [(proj 0 b2), (proj 1 b2), (proj 2 b2), (proj 3 b2), (proj 4 b2)]), (.agg [(proj 0 b3), (proj 1 b3), (proj 2 b3), (proj 3 b3), (proj 4 b3)])]) fun d10 =>
      ob (dExt 0 d10) fun d11 =>
      ob (dExt 1 d10) fun d12 =>
      og (isAggN 5 d11) <|
      some (.tup [(.agg [(proj 0 d11), (proj 1 d11), (proj 2 d11), (proj 3 d11), (proj 4 d11)]), d12])))))) := evP_of [12] (by kernel_rfl)
theorem fix_comp_join (x0 : DV) (x1 : DV) : (run cfg).p F_comp_join [x0, x1] = P_comp_join (run cfg) x0 x1 :=
  (fix_pure (C := cfg) (f := F_comp_join) (fn := Try.f69) (c := code_comp_join) (by kernel_rfl) Try.func69 (by kernel_rfl)).trans (by kernel_rfl)
noncomputable def code_val_matching_pat : Code := Try.f70.body.getD .skip
noncomputable def P_val_matching_pat (R : Orc) (x0 : Nat) (x1 : DV) (x2 : DV) (sg : List SObj) : Option (List DV × List SObj) := evP cfg R fl_val_matching_pat (retR cfg.P Try.f70 sig_val_matching_pat) [] code_val_matching_pat (initSt Try.f70 [(.undef, (.ptr x0 0)), (x1, .val), (x2, .val)] sg)
noncomputable def P_val_matching_pat_20 (R : Orc) (t0i : Nat) (b4 : DV) (b5 : DV) (sg : List SObj) : Option (List DV × List SObj) := evP cfg R fl_val_matching_pat (retR cfg.P Try.f70 sig_val_matching_pat) [true, true, true, true] code_val_matching_pat ⟨spread .undef 138 0 [], spread .val 138 0 [(0, (.ptr t0i 0)), (4, (.loc 4 0)), (5, (.loc 5 0))], spread none 138 0 [(4, some [((proj 0 b4), .val), ((proj 1 b4), .val), ((proj 2 b4), .val), ((proj 3 b4), .val), ((proj 4 b4), .val), ((proj 5 b4), .val), ((proj 6 b4), .val)]), (5, some [((proj 0 b5), .val), ((proj 1 b5), .val), ((proj 2 b5), .val), ((proj 3 b5), .val), ((proj 4 b5), .val), ((proj 5 b5), .val), ((proj 6 b5), .val), ((proj 7 b5), .val), ((proj 8 b5), .val)])], sg⟩
noncomputable def P_val_matching_pat_22 (R : Orc) (t0i : Nat) (b4 : DV) (b5 : DV) (sg : List SObj) : Option (List DV × List SObj) := evP cfg R fl_val_matching_pat (retR cfg.P Try.f70 sig_val_matching_pat) [true, true, true, true, true] code_val_matching_pat ⟨spread .undef 138 0 [], spread .val 138 0 [(0, (.ptr t0i 0)), (4, (.loc 4 0)), (5, (.loc 5 0))], spread none 138 0 [(4, some [((proj 0 b4), .val), ((proj 1 b4), .val), ((proj 2 b4), .val), ((proj 3 b4), .val), ((proj 4 b4), .val), ((proj 5 b4), .val), ((proj 6 b4), .val)]), (5, some [((proj 0 b5), .val), ((proj 1 b5), .val), ((proj 2 b5), .val), ((proj 3 b5), .val), ((proj 4 b5), .val), ((proj 5 b5), .val), ((proj 6 b5), .val), ((proj 7 b5), .val), ((proj 8 b5), .val)])], sg⟩
noncomputable def P_val_matching_pat_24 (R : Orc) (t0i : Nat) (t10 : DV) (b9 : DV) (sg : List SObj) : Option (List DV × List SObj) := evP cfg R fl_val_matching_pat (retR cfg.P Try.f70 sig_val_matching_pat) [true, true, true, true, true, true, false, true, false] code_val_matching_pat ⟨spread .undef 138 0 [(10, t10)], spread .val 138 0 [(0, (.ptr t0i 0)), (9, (.loc 9 0))], spread none 138 0 [(9, some [((proj 0 b9), .val), ((proj 1 b9), .val), ((proj 2 b9), .val), ((proj 3 b9), .val), ((proj 4 b9), .val), ((proj 5 b9), .val), ((proj 6 b9), .val), ((proj 7 b9), .val), ((proj 8 b9), .val), ((proj 9 b9), .val), ((proj 10 b9), .val), ((proj 11 b9), .val), ((proj 12 b9), .val), ((proj 13 b9), .val), ((proj 14 b9), .val)])], sg⟩
set_option maxRecDepth 100000 in
theorem eq_val_matching_pat (R : Orc) (x0 : Nat) (x1 : DV) (x2 : DV) (sg : List SObj) : P_val_matching_pat R x0 x1 x2 sg =
  (og (isAggN 7 x1) <|
  og (isAggN 9 x2) <|
  ob (dBin .eql (proj 0 x1) (.int .i64 1)) fun d1 =>
  oif d1
   (some ([(.bool true)], sg))
   (ob (dBin .eql (proj 0 x1) (.int .i64 2)) fun d2 =>
   oif d2
    (ob (sgBox sg x0) fun c3 =>
    ob (cellOwn c3 0) fun d4 =>
    og (isCell (proj 3 x1)) <|
    ob (dApp 10 d4 (.list 10 [(.agg [(proj 3 x1), (proj 0 x2), (proj 1 x2), (proj 2 x2), (proj 3 x2), (proj 4 x2), (proj 5 x2), (proj 6 x2), (proj 7 x2), (proj 8 x2)])])) fun d5 =>
    ob (sgBox (sg.set x0 (SObj.box (c3.set 0 (d4, .val)))) x0) fun c6 =>
    ob (c6[0]?) fun u7 =>
    some ([(.bool true)], ((sg.set x0 (SObj.box (c3.set 0 (d4, .val)))).set x0 (SObj.box (c6.set 0 (d5, .own))))))
    (ob (dBin .eql (proj 3 x2) (.int .i64 5)) fun d8 =>
    oif d8
     (some ([(.bool false)], sg))
     (ob (dBin .eql (proj 0 x1) (.int .i64 3)) fun d9 =>
     oif d9
      (ob (dBin .eql (proj 0 x2) (.int .i64 1)) fun d10 =>
      ogd d10
       (ob (dBin .eql (proj 1 x2) (proj 4 x1)) fun d11 =>
       some ([d11], sg))
       (some ([(.bool false)], sg))
       none)
      (ob (dBin .eql (proj 0 x1) (.int .i64 4)) fun d12 =>
      oif d12
       (ob (dBin .eql (proj 0 x2) (.int .i64 2)) fun d13 =>
       ogd d13
        (ob (dBin .eql (proj 1 x2) (proj 4 x1)) fun d14 =>
        some ([d14], sg))
        (some ([(.bool false)], sg))
        none)
       (ob (dBin .eql (proj 0 x1) (.int .i64 5)) fun d15 =>
       oif d15
        (ob (dBin .eql (proj 0 x2) (.int .i64 3)) fun d16 =>
        ogd d16
         (ob (dBin .eql (proj 2 x2) (proj 5 x1)) fun d17 =>
         some ([d17], sg))
         (some ([(.bool false)], sg))
         none)
        (ob (dBin .eql (proj 0 x1) (.int .i64 6)) fun d18 =>
        oif d18
         (ob (dBin .eql (proj 0 x2) (.int .i64 4)) fun d19 =>
         some ([d19], sg))
         (ob (dBin .eql (proj 0 x1) (.int .i64 8)) fun d20 =>
         oif d20
          (ob (dBin .eql (proj 0 x2) (.int .i64 6)) fun d21 =>
          some ([d21], sg))
          (P_val_matching_pat_20 R x0 x1 x2 sg))))))))) := evP_of [20, 22, 24] (by kernel_rfl)
set_option maxRecDepth 100000 in
theorem eq_val_matching_pat_20 (R : Orc) (t0i : Nat) (b4 : DV) (b5 : DV) (sg : List SObj) : P_val_matching_pat_20 R t0i b4 b5 sg =
  (ob (dBin .eql (proj 0 b4) (.int .i64 7)) fun d1 =>
  ogd d1
   (ob (dBin .neq (proj 0 b5) (.int .i64 5)) fun d2 =>
   ogd d2
    (some ([(.bool false)], sg))
    (ob (dBin .eql (proj 0 b4) (.int .i64 9)) fun d3 =>
    ogd d3
     (ob (dBin .neq (proj 0 b5) (.int .i64 7)) fun d4 =>
     oif d4
      (some ([(.bool false)], sg))
      (P_val_matching_pat_22 R t0i b4 b5 sg))
     (P_val_matching_pat_22 R t0i b4 b5 sg)
     none)
    none)
   (ob (dBin .eql (proj 0 b4) (.int .i64 9)) fun d5 =>
   ogd d5
    (ob (dBin .neq (proj 0 b5) (.int .i64 7)) fun d6 =>
    oif d6
     (some ([(.bool false)], sg))
     (P_val_matching_pat_22 R t0i b4 b5 sg))
    (P_val_matching_pat_22 R t0i b4 b5 sg)
    none)
   none) := evP_of [20, 22, 24] (by kernel_rfl)
theorem eq_val_matching_pat_22 (R : Orc) (t0i : Nat) (b4 : DV) (b5 : DV) (sg : List SObj) : P_val_matching_pat_22 R t0i b4 b5 sg =
  (ob (R.p F_val_Two [(.agg [(proj 0 b5), (proj 1 b5), (proj 2 b5), (proj 3 b5), (proj 4 b5), (proj 5 b5), (proj 6 b5), (proj 7 b5), (proj 8 b5)])]) fun d1 =>
  ob (dExt 0 d1) fun d2 =>
  ob (dExt 1 d1) fun d3 =>
  ob (dExt 2 d1) fun d4 =>
  ob (dExt 3 d1) fun d5 =>
  og (isAggN 9 d2) <|
  og (isAggN 9 d3) <|
  og (isAggN 15 d4) <|
  ob (dBin .neq d5 (.int .i64 0)) fun d6 =>
  ogd d6
   (P_val_matching_pat_24 R t0i d5 d4 sg)
   (ob (dBin .neq (proj 0 d4) (.int .i64 0)) fun d7 =>
   oif d7
    (P_val_matching_pat_24 R t0i d5 d4 sg)
    (ob (dIdx 7 (proj 6 b4) (.int .i64 0)) fun d8 =>
    ob (R.r F_val_matching_pat [(.undef, (.ptr t0i 0)), ((.agg [(proj 0 d8), (proj 1 d8), (proj 2 d8), (proj 3 d8), (proj 4 d8), (proj 5 d8), (proj 6 d8)]), .val), ((.agg [(proj 0 d2), (proj 1 d2), (proj 2 d2), (proj 3 d2), (proj 4 d2), (proj 5 d2), (proj 6 d2), (proj 7 d2), (proj 8 d2)]), .val)] sg) fun q9 =>
    ogd (q9.1.getD 0 .undef)
     (ob (dIdx 7 (proj 6 b4) (.int .i64 1)) fun d10 =>
     ob (R.r F_val_matching_pat [(.undef, (.ptr t0i 0)), ((.agg [(proj 0 d10), (proj 1 d10), (proj 2 d10), (proj 3 d10), (proj 4 d10), (proj 5 d10), (proj 6 d10)]), .val), ((.agg [(proj 0 d3), (proj 1 d3), (proj 2 d3), (proj 3 d3), (proj 4 d3), (proj 5 d3), (proj 6 d3), (proj 7 d3), (proj 8 d3)]), .val)] q9.2) fun q11 =>
     some ([(q11.1.getD 0 .undef)], q11.2))
     (some ([(.bool false)], q9.2))
     none))
   none) := evP_of [20, 22, 24] (by kernel_rfl)
theorem eq_val_matching_pat_24 (R : Orc) (t0i : Nat) (t10 : DV) (b9 : DV) (sg : List SObj) : P_val_matching_pat_24 R t0i t10 b9 sg =
  (ob (sgBox sg t0i) fun c1 =>
  if 1 + 15 ≤ c1.length then
   (ob (sgBox (sg.set t0i (SObj.box (putAt c1 1 [((proj 0 b9), .val), ((proj 1 b9), .val), ((proj 2 b9), .val), ((proj 3 b9), .val), ((proj 4 b9), .val), ((proj 5 b9), .val), ((proj 6 b9), .val), ((proj 7 b9), .val), ((proj 8 b9), .val), ((proj 9 b9), .val), ((proj 10 b9), .val), ((proj 11 b9), .val), ((proj 12 b9), .val), ((proj 13 b9), .val), ((proj 14 b9), .val)]))) t0i) fun c2 =>
   og (isCell t10) <|
   ob (c2[16]?) fun u3 =>
   some ([(.bool false)], ((sg.set t0i (SObj.box (putAt c1 1 [((proj 0 b9), .val), ((proj 1 b9), .val), ((proj 2 b9), .val), ((proj 3 b9), .val), ((proj 4 b9), .val), ((proj 5 b9), .val), ((proj 6 b9), .val), ((proj 7 b9), .val), ((proj 8 b9), .val), ((proj 9 b9), .val), ((proj 10 b9), .val), ((proj 11 b9), .val), ((proj 12 b9), .val), ((proj 13 b9), .val), ((proj 14 b9), .val)]))).set t0i (SObj.box (c2.set 16 (t10, .val))))))
  else none) := evP_of [20, 22, 24] (by kernel_rfl)
theorem fix_val_matching_pat (x0 : Nat) (x1 : DV) (x2 : DV) (sg : List SObj) : (run cfg).r F_val_matching_pat [(.undef, (.ptr x0 0)), (x1, .val), (x2, .val)] sg = P_val_matching_pat (run cfg) x0 x1 x2 sg :=
  (fix_raw (C := cfg) (f := F_val_matching_pat) (s := sig_val_matching_pat) (fn := Try.f70) (c := code_val_matching_pat) (by kernel_rfl) Try.func70 (by kernel_rfl) (by kernel_rfl)).trans (by kernel_rfl)
noncomputable def code_word_Name : Code := Try.f71.body.getD .skip
noncomputable def P_word_Name (R : Orc) (x0 : DV) : Option DV := evP cfg R fl_word_Name (retP cfg.P Try.f71) [] code_word_Name (initSt Try.f71 [(x0, .val)] [])
noncomputable def P_word_Name_4h (R : Orc) (t0 : DV) (t3 : DV) : Option DV := headP cfg R fl_word_Name (retP cfg.P Try.f71) [true, true, false, true, false] code_word_Name ⟨spread .undef 37 0 [(0, t0), (3, t3)], spread .val 37 0 [], spread none 37 0 [], []⟩
set_option maxRecDepth 100000 in
theorem eq_word_Name (R : Orc) (x0 : DV) : P_word_Name R x0 =
  (ob (dLenS x0) fun d1 =>
  ob (dBin .lss d1 (.int .i64 1)) fun d2 =>
  ogd d2
   (some (.bool false))
   (ob (dLenS x0) fun d3 =>
   ob (dBin .gtr d3 (.int .i64 32)) fun d4 =>
   ogd d4
    (some (.bool false))
    (ob (dStrIdx x0 (.int .i64 0)) fun d5 =>
    ob (dBin .lss d5 (.int .u8 97)) fun d6 =>
    ogd d6
     (some (.bool false))
     (ob (dStrIdx x0 (.int .i64 0)) fun d7 =>
     ob (dBin .gtr d7 (.int .u8 122)) fun d8 =>
     ogd d8
      (some (.bool false))
      (ob (R.p F_word_Key [x0]) fun d9 =>
      oif d9
       (some (.bool false))
       (P_word_Name_4h R x0 (.int .i64 1)))
      none)
     none)
    none)
   none) := evP_of [] (by kernel_rfl)
theorem eq_word_Name_4h (R : Orc) (t0 : DV) (t3 : DV) : P_word_Name_4h R t0 t3 =
  (ob (dLenS t0) fun d1 =>
  ob (dBin .lss t3 d1) fun d2 =>
  oif d2
   (ob (dStrIdx t0 t3) fun d3 =>
   ob (R.p F_word_inner [d3]) fun d4 =>
   ob (dUn .not d4) fun d5 =>
   oif d5
    (some (.bool false))
    (ob (dBin .add t3 (.int .i64 1)) fun d6 =>
    P_word_Name_4h R t0 d6))
   (some (.bool true))) := headP_of [] (by kernel_rfl)
theorem fix_word_Name (x0 : DV) : (run cfg).p F_word_Name [x0] = P_word_Name (run cfg) x0 :=
  (fix_pure (C := cfg) (f := F_word_Name) (fn := Try.f71) (c := code_word_Name) (by kernel_rfl) Try.func71 (by kernel_rfl)).trans (by kernel_rfl)
noncomputable def code_term_none : Code := Try.f72.body.getD .skip
noncomputable def P_term_none (R : Orc) (x0 : DV) : Option DV := evP cfg R fl_term_none (retP cfg.P Try.f72) [] code_term_none (initSt Try.f72 [(x0, .val)] [])
theorem eq_term_none (R : Orc) (x0 : DV) : P_term_none R x0 =
  (og (isAggN 3 x0) <|
  ob (dBin .eql (proj 0 x0) (.int .i64 0)) fun d1 =>
  ogd d1
   (ob (dBin .eql (proj 1 x0) (.int .i64 0)) fun d2 =>
   ogd d2
    (ob (dLen (proj 2 x0)) fun d3 =>
    ob (dBin .eql d3 (.int .i64 0)) fun d4 =>
    some d4)
    (some (.bool false))
    none)
   (some (.bool false))
   none) := evP_of [] (by kernel_rfl)
theorem fix_term_none (x0 : DV) : (run cfg).p F_term_none [x0] = P_term_none (run cfg) x0 :=
  (fix_pure (C := cfg) (f := F_term_none) (fn := Try.f72) (c := code_term_none) (by kernel_rfl) Try.func72 (by kernel_rfl)).trans (by kernel_rfl)
noncomputable def code_tree_CheckPat : Code := Try.f73.body.getD .skip
noncomputable def P_tree_CheckPat (R : Orc) (x0 : DV) : Option DV := evP cfg R fl_tree_CheckPat (retP cfg.P Try.f73) [] code_tree_CheckPat (initSt Try.f73 [(x0, .val)] [])
noncomputable def P_tree_CheckPat_r0 (R : Orc) (t0 : DV) (t6 : DV) (sg : List SObj) : Option DV := evP cfg R fl_tree_CheckPat (retP cfg.P Try.f73) [true, true, false, true, false] code_tree_CheckPat ⟨spread .undef 32 0 [(0, t0), (4, (.tup [])), (6, t6), (8, (.tup [])), (9, (.tup [])), (10, (.tup [])), (11, (.tup [])), (12, (.tup [])), (13, (.tup [])), (14, (.tup [])), (15, (.tup [])), (16, (.tup [])), (17, (.tup [])), (18, (.tup [])), (19, (.tup [])), (20, (.tup [])), (21, (.tup [])), (22, (.tup [])), (23, (.tup [])), (24, (.tup [])), (25, (.tup [])), (26, (.tup [])), (27, (.tup [])), (28, (.tup [])), (29, (.tup [])), (30, (.tup [])), (31, (.tup []))], spread .val 32 0 [(1, (.ptr 0 0)), (2, (.ptr 1 0)), (3, (.ptr 3 0)), (5, (.map 2)), (7, (.fn 90 [(4, 0)]))], spread none 32 0 [], sg⟩
noncomputable def rcode_tree_CheckPat_r0 : Code := match (sub [true, true, false, true, false] code_tree_CheckPat []).1 with
  | .rangeFunc _ _ a b => .seq a b
  | c => c
noncomputable def X_tree_CheckPat_r0 (R : Orc) (t0 : DV) (t6 : DV) (o : Out) (sg : List SObj) : Option DV := konP cfg R fl_tree_CheckPat (retP cfg.P Try.f73) [true, true, false, true, false] code_tree_CheckPat o (outerSt ⟨spread .undef 32 0 [(0, t0), (4, (.tup [])), (6, t6), (8, (.tup [])), (9, (.tup [])), (10, (.tup [])), (11, (.tup [])), (12, (.tup [])), (13, (.tup [])), (14, (.tup [])), (15, (.tup [])), (16, (.tup [])), (17, (.tup [])), (18, (.tup [])), (19, (.tup [])), (20, (.tup [])), (21, (.tup [])), (22, (.tup [])), (23, (.tup [])), (24, (.tup [])), (25, (.tup [])), (26, (.tup [])), (27, (.tup [])), (28, (.tup [])), (29, (.tup [])), (30, (.tup [])), (31, (.tup []))], spread .val 32 0 [(1, (.ptr 0 0)), (2, (.ptr 1 0)), (3, (.ptr 3 0)), (5, (.map 2)), (7, (.fn 90 [(4, 0)]))], spread none 32 0 [], []⟩ sg)
noncomputable def B_tree_CheckPat_r0 (R : Orc) (t0 : DV) (t6 : DV) (I : List SObj → Option DV) (x : DV) (sg : List SObj) : Option DV := evP cfg R fl_tree_CheckPat (kr I (X_tree_CheckPat_r0 R t0 t6)) [] rcode_tree_CheckPat_r0 ⟨spread .undef 32 0 [(8, x)], spread .val 32 0 [(2, (.ptr 1 0)), (3, (.ptr 3 0))], spread none 32 0 [], sg⟩
noncomputable def I_tree_CheckPat_r0 (R : Orc) (t0 : DV) (t6 : DV) : List DV → List SObj → Option DV := foldIt (fun x I sg => B_tree_CheckPat_r0 R t0 t6 I x sg) (X_tree_CheckPat_r0 R t0 t6 .normal)
noncomputable def P_tree_CheckPat_6 (R : Orc) (t0 : DV) (t6 : DV) (I : List SObj → Option DV) (b4 : DV) (sg : List SObj) : Option DV := evP cfg R fl_tree_CheckPat (kr I (X_tree_CheckPat_r0 R t0 t6)) [true, false, true] rcode_tree_CheckPat_r0 ⟨spread .undef 32 0 [], spread .val 32 0 [(3, (.ptr 3 0)), (4, (.loc 4 0))], spread none 32 0 [(4, some [((proj 0 b4), .val), ((proj 1 b4), .val), ((proj 2 b4), .val), ((proj 3 b4), .val), ((proj 4 b4), .val), ((proj 5 b4), .val), ((proj 6 b4), .val)])], sg⟩
theorem eq_tree_CheckPat (R : Orc) (x0 : DV) : P_tree_CheckPat R x0 =
  (og (isAggN 7 x0) <|
  P_tree_CheckPat_r0 R x0 (.agg [(proj 0 x0), (proj 1 x0), (proj 2 x0), (proj 3 x0), (proj 4 x0), (proj 5 x0), (proj 6 x0)]) [SObj.box [((proj 0 x0), .val), ((proj 1 x0), .val), ((proj 2 x0), .val), ((proj 3 x0), .val), ((proj 4 x0), .val), ((proj 5 x0), .val), ((proj 6 x0), .val)], SObj.box [((.int .i64 0), .val)], .map true [], SObj.box [(.undef, (.map 2))], SObj.box [((proj 0 x0), .val), ((proj 1 x0), .val), ((proj 2 x0), .val), ((proj 3 x0), .val), ((proj 4 x0), .val), ((proj 5 x0), .val), ((proj 6 x0), .val)]]) := evP_of [6] (by kernel_rfl)
theorem eq_tree_CheckPat_r0 (R : Orc) (t0 : DV) (t6 : DV) (sg : List SObj) : P_tree_CheckPat_r0 R t0 t6 sg =
  ob (sgBox sg 4) fun cs => ob (allDat cs) fun cd => ob (flatD 7 6 cd) fun ds => I_tree_CheckPat_r0 R t0 t6 ds (sg.set 4 (.arr 1 [])) :=
  (rangeP2 (t := 7) (f := 90) (i := 4) (q := 8) (it := flatD 7 6) (by kernel_rfl) (by kernel_rfl) (by kernel_rfl) (by kernel_rfl)).trans (by kernel_rfl)
theorem I_tree_CheckPat_r0_nil (R : Orc) (t0 : DV) (t6 : DV) (sg : List SObj) : I_tree_CheckPat_r0 R t0 t6 [] sg = X_tree_CheckPat_r0 R t0 t6 .normal sg := rfl
theorem I_tree_CheckPat_r0_cons (R : Orc) (t0 : DV) (t6 : DV) (x : DV) (ds : List DV) (sg : List SObj) : I_tree_CheckPat_r0 R t0 t6 (x :: ds) sg = B_tree_CheckPat_r0 R t0 t6 (I_tree_CheckPat_r0 R t0 t6 ds) x sg := rfl
theorem eq_B_tree_CheckPat_r0 (R : Orc) (t0 : DV) (t6 : DV) (I : List SObj → Option DV) (x : DV) (sg : List SObj) : B_tree_CheckPat_r0 R t0 t6 I x sg =
  (og (isAggN 7 x) <|
  ob (R.p F_tree_onePat [(.agg [(proj 0 x), (proj 1 x), (proj 2 x), (proj 3 x), (proj 4 x), (proj 5 x), (proj 6 x)])]) fun d1 =>
  ob (dUn .not d1) fun d2 =>
  ogd d2
   (ob (sgBox sg 1) fun c3 =>
   ob (c3[0]?) fun u4 =>
   X_tree_CheckPat_r0 R t0 t6 .ret (sg.set 1 (SObj.box (c3.set 0 ((.int .i64 1), .val)))))
   (ob (dBin .eql (proj 0 x) (.int .i64 2)) fun d5 =>
   ogd d5
    (ob (sgBox sg 3) fun c6 =>
    ob (cellMap c6 0) fun i7 =>
    og (isKey true (proj 3 x) && true) <|
    ob (sgMap sg i7) fun m8 =>
    og (m8.1 == true) <|
    ob (dBin .gtr ((mGet m8.2 (proj 3 x)).getD (.int .i64 0)) (.int .i64 0)) fun d9 =>
    oif d9
     (ob (sgBox sg 1) fun c10 =>
     ob (c10[0]?) fun u11 =>
     X_tree_CheckPat_r0 R t0 t6 .ret (sg.set 1 (SObj.box (c10.set 0 ((.int .i64 1), .val)))))
     (P_tree_CheckPat_6 R t0 t6 I x sg))
    (P_tree_CheckPat_6 R t0 t6 I x sg)
    none)
   none) := evP_of [6] (by kernel_rfl)
theorem eq_X_tree_CheckPat_r0_normal (R : Orc) (t0 : DV) (t6 : DV) (sg : List SObj) : X_tree_CheckPat_r0 R t0 t6 .normal sg =
  (ob (sgBox sg 1) fun c1 =>
  ob (c1[0]?) fun u2 =>
  ret1 (ob (sgBox (sg.set 1 (SObj.box (c1.set 0 ((.int .i64 0), .val)))) 1) fun c => oneCell (sg.set 1 (SObj.box (c1.set 0 ((.int .i64 0), .val)))) c)) := konP_of [6] (by kernel_rfl)
theorem eq_X_tree_CheckPat_r0_ret (R : Orc) (t0 : DV) (t6 : DV) (sg : List SObj) : X_tree_CheckPat_r0 R t0 t6 .ret sg =
  (ret1 (ob (sgBox sg 1) fun c => oneCell sg c)) := konP_of [6] (by kernel_rfl)
theorem eq_tree_CheckPat_6 (R : Orc) (t0 : DV) (t6 : DV) (I : List SObj → Option DV) (b4 : DV) (sg : List SObj) : P_tree_CheckPat_6 R t0 t6 I b4 sg =
  (ob (dBin .eql (proj 0 b4) (.int .i64 2)) fun d1 =>
  oif d1
   (ob (sgBox sg 3) fun c2 =>
   ob (cellMap c2 0) fun i3 =>
   og (isKey true (proj 3 b4) && true) <|
   ob (sgMap sg i3) fun m4 =>
   og (m4.1 == true) <|
   ob (dBin .add ((mGet m4.2 (proj 3 b4)).getD (.int .i64 0)) (.int .i64 1)) fun d5 =>
   og (isKey true (proj 3 b4) && true && true) <|
   ob (sgMap sg i3) fun m6 =>
   og (m6.1 == true) <|
   I (sg.set i3 (.map true (mSet m6.2 (proj 3 b4) d5))))
   (I sg)) := evP_of [6] (by kernel_rfl)
theorem fix_tree_CheckPat (x0 : DV) : (run cfg).p F_tree_CheckPat [x0] = P_tree_CheckPat (run cfg) x0 :=
  (fix_pure (C := cfg) (f := F_tree_CheckPat) (fn := Try.f73) (c := code_tree_CheckPat) (by kernel_rfl) Try.func73 (by kernel_rfl)).trans (by kernel_rfl)
noncomputable def code_val_head : Code := Try.f74.body.getD .skip
noncomputable def P_val_head (R : Orc) (x0 : DV) : Option DV := evP cfg R fl_val_head (retP cfg.P Try.f74) [] code_val_head (initSt Try.f74 [(x0, .val)] [])
theorem eq_val_head (R : Orc) (x0 : DV) : P_val_head R x0 =
  (ob (dBin .eql x0 (.int .i64 1)) fun d1 =>
  oif d1
   (some (.int .i64 1))
   (ob (dBin .eql x0 (.int .i64 2)) fun d2 =>
   oif d2
    (some (.int .i64 2))
    (ob (dBin .eql x0 (.int .i64 3)) fun d3 =>
    oif d3
     (some (.int .i64 3))
     (ob (dBin .eql x0 (.int .i64 4)) fun d4 =>
     oif d4
      (some (.int .i64 4))
      (ob (dBin .eql x0 (.int .i64 5)) fun d5 =>
      oif d5
       (some (.int .i64 7))
       (ob (dBin .eql x0 (.int .i64 6)) fun d6 =>
       oif d6
        (some (.int .i64 8))
        (ob (dBin .eql x0 (.int .i64 7)) fun d7 =>
        oif d7
         (some (.int .i64 8))
         (some (.int .i64 9))))))))) := evP_of [] (by kernel_rfl)
theorem fix_val_head (x0 : DV) : (run cfg).p F_val_head [x0] = P_val_head (run cfg) x0 :=
  (fix_pure (C := cfg) (f := F_val_head) (fn := Try.f74) (c := code_val_head) (by kernel_rfl) Try.func74 (by kernel_rfl)).trans (by kernel_rfl)
noncomputable def code_typ_arity : Code := Try.f75.body.getD .skip
noncomputable def P_typ_arity (R : Orc) (x0 : DV) : Option DV := evP cfg R fl_typ_arity (retP cfg.P Try.f75) [] code_typ_arity (initSt Try.f75 [(x0, .val)] [])
theorem eq_typ_arity (R : Orc) (x0 : DV) : P_typ_arity R x0 =
  (ob (dBin .eql x0 (.int .i64 1)) fun d1 =>
  oif d1
   (some (.int .i64 0))
   (ob (dBin .eql x0 (.int .i64 2)) fun d2 =>
   oif d2
    (some (.int .i64 0))
    (ob (dBin .eql x0 (.int .i64 3)) fun d3 =>
    oif d3
     (some (.int .i64 0))
     (ob (dBin .eql x0 (.int .i64 4)) fun d4 =>
     oif d4
      (some (.int .i64 0))
      (ob (dBin .eql x0 (.int .i64 5)) fun d5 =>
      oif d5
       (some (.int .i64 0))
       (ob (dBin .eql x0 (.int .i64 6)) fun d6 =>
       oif d6
        (some (.int .i64 0))
        (ob (dBin .eql x0 (.int .i64 8)) fun d7 =>
        oif d7
         (some (.int .i64 1))
         (ob (dBin .eql x0 (.int .i64 7)) fun d8 =>
         oif d8
          (some (.int .i64 2))
          (ob (dBin .eql x0 (.int .i64 9)) fun d9 =>
          oif d9
           (some (.int .i64 2))
           (some (.int .i64 (-1)))))))))))) := evP_of [] (by kernel_rfl)
theorem fix_typ_arity (x0 : DV) : (run cfg).p F_typ_arity [x0] = P_typ_arity (run cfg) x0 :=
  (fix_pure (C := cfg) (f := F_typ_arity) (fn := Try.f75) (c := code_typ_arity) (by kernel_rfl) Try.func75 (by kernel_rfl)).trans (by kernel_rfl)
noncomputable def code_typ_Closed : Code := Try.f76.body.getD .skip
noncomputable def P_typ_Closed (R : Orc) (x0 : DV) : Option DV := evP cfg R fl_typ_Closed (retP cfg.P Try.f76) [] code_typ_Closed (initSt Try.f76 [(x0, .val)] [])
theorem eq_typ_Closed (R : Orc) (x0 : DV) : P_typ_Closed R x0 =
  (og (isAggN 3 x0) <|
  ob (R.p F_typ_without [(.agg [(proj 0 x0), (proj 1 x0), (proj 2 x0)]), (.int .i64 6)]) fun d1 =>
  some d1) := evP_of [] (by kernel_rfl)
theorem fix_typ_Closed (x0 : DV) : (run cfg).p F_typ_Closed [x0] = P_typ_Closed (run cfg) x0 :=
  (fix_pure (C := cfg) (f := F_typ_Closed) (fn := Try.f76) (c := code_typ_Closed) (by kernel_rfl) Try.func76 (by kernel_rfl)).trans (by kernel_rfl)
noncomputable def code_coer_right : Code := Try.f77.body.getD .skip
noncomputable def P_coer_right (R : Orc) (x0 : DV) : Option DV := evP cfg R fl_coer_right (retP cfg.P Try.f77) [] code_coer_right (initSt Try.f77 [(x0, .val)] [])
noncomputable def P_coer_right_6 (R : Orc) (t5 : DV) (b1 : DV) : Option DV := evP cfg R fl_coer_right (retP cfg.P Try.f77) [true, false, true, false, true, true, true, true] code_coer_right ⟨spread .undef 130 0 [(5, t5)], spread .val 130 0 [(1, (.loc 1 0))], spread none 130 0 [(1, some [((proj 0 b1), .val), ((proj 1 b1), .val), ((proj 2 b1), .val), ((proj 3 b1), .val), ((proj 4 b1), .val)])], []⟩
noncomputable def P_coer_right_8 (R : Orc) (t5 : DV) (b1 : DV) : Option DV := evP cfg R fl_coer_right (retP cfg.P Try.f77) [true, false, true, false, true, true, true, true, true, true] code_coer_right ⟨spread .undef 130 0 [(5, t5)], spread .val 130 0 [(1, (.loc 1 0))], spread none 130 0 [(1, some [((proj 0 b1), .val), ((proj 1 b1), .val), ((proj 2 b1), .val), ((proj 3 b1), .val), ((proj 4 b1), .val)])], []⟩
noncomputable def P_coer_right_11 (R : Orc) (b1 : DV) : Option DV := evP cfg R fl_coer_right (retP cfg.P Try.f77) [true, false, true, false, true, true, true, true, true, true, true, false, true] code_coer_right ⟨spread .undef 130 0 [], spread .val 130 0 [(1, (.loc 1 0))], spread none 130 0 [(1, some [((proj 0 b1), .val), ((proj 1 b1), .val), ((proj 2 b1), .val), ((proj 3 b1), .val), ((proj 4 b1), .val)])], []⟩
noncomputable def P_coer_right_12 (R : Orc) (b1 : DV) (b3 : DV) : Option DV := evP cfg R fl_coer_right (retP cfg.P Try.f77) [true, false, true, false, true, true, true, true, true, true, true, false, true, true] code_coer_right ⟨spread .undef 130 0 [], spread .val 130 0 [(1, (.loc 1 0)), (3, (.loc 3 0))], spread none 130 0 [(1, some [((proj 0 b1), .val), ((proj 1 b1), .val), ((proj 2 b1), .val), ((proj 3 b1), .val), ((proj 4 b1), .val)]), (3, some [((proj 0 b3), .val), ((proj 1 b3), .val), ((proj 2 b3), .val), ((proj 3 b3), .val), ((proj 4 b3), .val)])], []⟩
set_option maxRecDepth 100000 in
theorem eq_coer_right (R : Orc) (x0 : DV) : P_coer_right R x0 =
  (og (isAggN 5 x0) <|
  ob (dBin .eql (proj 0 x0) (.int .i64 1)) fun d1 =>
  oif d1
   (ob (dLen (proj 4 x0)) fun d2 =>
   ob (dBin .eql d2 (.int .i64 0)) fun d3 =>
   ogd d3
    (ob (dBin .eql (proj 1 x0) (.int .i64 0)) fun d4 =>
    ogd d4
     (ob (dBin .eql (proj 2 x0) (.int .i64 0)) fun d5 =>
     ogd d5
      (ob (dUn .not (proj 3 x0)) fun d6 =>
      some d6)
      (some (.bool false))
      none)
     (some (.bool false))
     none)
    (some (.bool false))
    none)
   (ob (dBin .eql (proj 0 x0) (.int .i64 7)) fun d7 =>
   oif d7
    (ob (dLen (proj 4 x0)) fun d8 =>
    ob (dBin .eql d8 (.int .i64 0)) fun d9 =>
    ogd d9
     (ob (dBin .eql (proj 1 x0) (.int .i64 0)) fun d10 =>
     ogd d10
      (ob (R.p F_coer_label [(proj 2 x0)]) fun d11 =>
      some d11)
      (some (.bool false))
      none)
     (some (.bool false))
     none)
    (P_coer_right_6 R (proj 0 x0) x0))) := evP_of [6, 8, 11, 12] (by kernel_rfl)
set_option maxRecDepth 100000 in
theorem eq_coer_right_6 (R : Orc) (t5 : DV) (b1 : DV) : P_coer_right_6 R t5 b1 =
  (ob (dBin .eql t5 (.int .i64 5)) fun d1 =>
  oif d1
   (ob (dLen (proj 4 b1)) fun d2 =>
   ob (dBin .eql d2 (.int .i64 1)) fun d3 =>
   ogd d3
    (ob (R.p F_coer_isHead [(proj 1 b1)]) fun d4 =>
    ogd d4
     (ob (dBin .eql (proj 2 b1) (.int .i64 0)) fun d5 =>
     ogd d5
      (ob (dUn .not (proj 3 b1)) fun d6 =>
      ogd d6
       (ob (dIdx 5 (proj 4 b1) (.int .i64 0)) fun d7 =>
       ob (R.p F_coer_within [(.agg [(proj 0 d7), (proj 1 d7), (proj 2 d7), (proj 3 d7), (proj 4 d7)]), (proj 1 b1)]) fun d8 =>
       some d8)
       (some (.bool false))
       none)
      (some (.bool false))
      none)
     (some (.bool false))
     none)
    (some (.bool false))
    none)
   (P_coer_right_8 R t5 b1)) := evP_of [6, 8, 11, 12] (by kernel_rfl)
theorem eq_coer_right_8 (R : Orc) (t5 : DV) (b1 : DV) : P_coer_right_8 R t5 b1 =
  (ob (dBin .eql t5 (.int .i64 6)) fun d1 =>
  oif d1
   (ob (dLen (proj 4 b1)) fun d2 =>
   ob (dBin .neq d2 (.int .i64 1)) fun d3 =>
   ogd d3
    (some (.bool false))
    (ob (R.p F_coer_isHead [(proj 1 b1)]) fun d4 =>
    ob (dUn .not d4) fun d5 =>
    ogd d5
     (some (.bool false))
     (ob (R.p F_coer_label [(proj 2 b1)]) fun d6 =>
     ob (dUn .not d6) fun d7 =>
     oif d7
      (some (.bool false))
      (P_coer_right_11 R b1))
     none)
    none)
   (ob (dBin .eql t5 (.int .i64 2)) fun d8 =>
   oif d8
    (ob (R.p F_coer_formed [(.agg [(proj 0 b1), (proj 1 b1), (proj 2 b1), (proj 3 b1), (proj 4 b1)])]) fun d9 =>
    some d9)
    (ob (dBin .eql t5 (.int .i64 3)) fun d10 =>
    oif d10
     (ob (R.p F_coer_formed [(.agg [(proj 0 b1), (proj 1 b1), (proj 2 b1), (proj 3 b1), (proj 4 b1)])]) fun d11 =>
     some d11)
     (ob (dBin .eql t5 (.int .i64 4)) fun d12 =>
     oif d12
      (ob (R.p F_coer_formed [(.agg [(proj 0 b1), (proj 1 b1), (proj 2 b1), (proj 3 b1), (proj 4 b1)])]) fun d13 =>
      some d13)
      (some (.bool false)))))) := evP_of [6, 8, 11, 12] (by kernel_rfl)
theorem eq_coer_right_11 (R : Orc) (b1 : DV) : P_coer_right_11 R b1 =
  (ob (dIdx 5 (proj 4 b1) (.int .i64 0)) fun d1 =>
  P_coer_right_12 R b1 d1) := evP_of [6, 8, 11, 12] (by kernel_rfl)
set_option maxRecDepth 100000 in
theorem eq_coer_right_12 (R : Orc) (b1 : DV) (b3 : DV) : P_coer_right_12 R b1 b3 =
  (ob (dBin .eql (proj 0 b3) (.int .i64 7)) fun d1 =>
  ogd d1
   (ob (R.p F_coer_right [(.agg [(proj 0 b3), (proj 1 b3), (proj 2 b3), (proj 3 b3), (proj 4 b3)])]) fun d2 =>
   ogd d2
    (some (.bool true))
    (ob (dBin .eql (proj 0 b3) (.int .i64 5)) fun d3 =>
    ogd d3
     (ob (dBin .eql (proj 1 b3) (proj 1 b1)) fun d4 =>
     ogd d4
      (ob (R.p F_coer_right [(.agg [(proj 0 b3), (proj 1 b3), (proj 2 b3), (proj 3 b3), (proj 4 b3)])]) fun d5 =>
      ogd d5
       (some (.bool true))
       (ob (R.p F_coer_within [(.agg [(proj 0 b3), (proj 1 b3), (proj 2 b3), (proj 3 b3), (proj 4 b3)]), (proj 1 b1)]) fun d6 =>
       some d6)
       none)
      (ob (R.p F_coer_within [(.agg [(proj 0 b3), (proj 1 b3), (proj 2 b3), (proj 3 b3), (proj 4 b3)]), (proj 1 b1)]) fun d7 =>
      some d7)
      none)
     (ob (R.p F_coer_within [(.agg [(proj 0 b3), (proj 1 b3), (proj 2 b3), (proj 3 b3), (proj 4 b3)]), (proj 1 b1)]) fun d8 =>
     some d8)
     none)
    none)
   (ob (dBin .eql (proj 0 b3) (.int .i64 5)) fun d9 =>
   ogd d9
    (ob (dBin .eql (proj 1 b3) (proj 1 b1)) fun d10 =>
    ogd d10
     (ob (R.p F_coer_right [(.agg [(proj 0 b3), (proj 1 b3), (proj 2 b3), (proj 3 b3), (proj 4 b3)])]) fun d11 =>
     ogd d11
      (some (.bool true))
      (ob (R.p F_coer_within [(.agg [(proj 0 b3), (proj 1 b3), (proj 2 b3), (proj 3 b3), (proj 4 b3)]), (proj 1 b1)]) fun d12 =>
      some d12)
      none)
     (ob (R.p F_coer_within [(.agg [(proj 0 b3), (proj 1 b3), (proj 2 b3), (proj 3 b3), (proj 4 b3)]), (proj 1 b1)]) fun d13 =>
     some d13)
     none)
    (ob (R.p F_coer_within [(.agg [(proj 0 b3), (proj 1 b3), (proj 2 b3), (proj 3 b3), (proj 4 b3)]), (proj 1 b1)]) fun d14 =>
    some d14)
    none)
   none) := evP_of [6, 8, 11, 12] (by kernel_rfl)
theorem fix_coer_right (x0 : DV) : (run cfg).p F_coer_right [x0] = P_coer_right (run cfg) x0 :=
  (fix_pure (C := cfg) (f := F_coer_right) (fn := Try.f77) (c := code_coer_right) (by kernel_rfl) Try.func77 (by kernel_rfl)).trans (by kernel_rfl)
noncomputable def code_comp_inner : Code := Try.f78.body.getD .skip
noncomputable def P_comp_inner (R : Orc) (x0 : DV) (x1 : DV) : Option DV := evP cfg R fl_comp_inner (retP cfg.P Try.f78) [] code_comp_inner (initSt Try.f78 [(x0, .val), (x1, .val)] [])
theorem eq_comp_inner (R : Orc) (x0 : DV) (x1 : DV) : P_comp_inner R x0 x1 =
  (og (isAggN 5 x0) <|
  og (isAggN 5 x1) <|
  some (.agg [(proj 0 x0), (proj 1 x0), (proj 2 x0), (proj 3 x0), (.list 5 [(.agg [(proj 0 x1), (proj 1 x1), (proj 2 x1), (proj 3 x1), (proj 4 x1)])])])) := evP_of [] (by kernel_rfl)
theorem fix_comp_inner (x0 : DV) (x1 : DV) : (run cfg).p F_comp_inner [x0, x1] = P_comp_inner (run cfg) x0 x1 :=
  (fix_pure (C := cfg) (f := F_comp_inner) (fn := Try.f78) (c := code_comp_inner) (by kernel_rfl) Try.func78 (by kernel_rfl)).trans (by kernel_rfl)
end Go.Su

/-
  Equations of the program's functions: by program.
-/
namespace Go.Su
open Go.Proofs
set_option linter.unusedVariables false

noncomputable def code_comp_formed : Code := Try.f79.body.getD .skip
noncomputable def P_comp_formed (R : Orc) (x0 : DV) (x1 : DV) : Option DV := evP cfg R fl_comp_formed (retP cfg.P Try.f79) [] code_comp_formed (initSt Try.f79 [(x0, .val), (x1, .val)] [])
noncomputable def P_comp_formed_3h (R : Orc) (t7 : DV) (t18 : DV) (t19 : DV) (b2 : DV) (b3 : DV) (b4_0 : DV) (b4_1 : DV) (b4_2 : DV) (b4_3 : DV) (b4_4 : DV) (b6_0 : DV) (b6_1 : DV) (b6_2 : DV) (b6_3 : DV) (b6_4 : DV) : Option DV := headP cfg R fl_comp_formed (retP cfg.P Try.f79) [true, true, false, true, false] code_comp_formed ⟨spread .undef 69 0 [(7, t7), (18, t18), (19, t19)], spread .val 69 0 [(2, (.loc 2 0)), (3, (.loc 3 0)), (4, (.loc 4 0)), (6, (.loc 6 0))], spread none 69 0 [(2, some [((proj 0 b2), .val), ((proj 1 b2), .val), ((proj 2 b2), .val), ((proj 3 b2), .val), ((proj 4 b2), .val)]), (3, some [((proj 0 b3), .val), ((proj 1 b3), .val), ((proj 2 b3), .val), ((proj 3 b3), .val), ((proj 4 b3), .val)]), (4, some [(b4_0, .val), (b4_1, .val), (b4_2, .val), (b4_3, .val), (b4_4, .val)]), (6, some [(b6_0, .val), (b6_1, .val), (b6_2, .val), (b6_3, .val), (b6_4, .own)])], []⟩
noncomputable def P_comp_formed_8 (R : Orc) (t7 : DV) (t18 : DV) (t19 : DV) (b2 : DV) (b3 : DV) (b4_0 : DV) (b4_1 : DV) (b4_2 : DV) (b4_3 : DV) (b4_4 : DV) (b6_0 : DV) (b6_1 : DV) (b6_2 : DV) (b6_3 : DV) (b6_4 : DV) (b9 : DV) (b10 : DV) : Option DV := evP cfg R fl_comp_formed (retP cfg.P Try.f79) [true, true, false, true, false, false, true, true, false, false, true, true, true] code_comp_formed ⟨spread .undef 69 0 [(7, t7), (18, t18), (19, t19)], spread .val 69 0 [(2, (.loc 2 0)), (3, (.loc 3 0)), (4, (.loc 4 0)), (6, (.loc 6 0)), (9, (.loc 9 0)), (10, (.loc 10 0))], spread none 69 0 [(2, some [((proj 0 b2), .val), ((proj 1 b2), .val), ((proj 2 b2), .val), ((proj 3 b2), .val), ((proj 4 b2), .val)]), (3, some [((proj 0 b3), .val), ((proj 1 b3), .val), ((proj 2 b3), .val), ((proj 3 b3), .val), ((proj 4 b3), .val)]), (4, some [(b4_0, .val), (b4_1, .val), (b4_2, .val), (b4_3, .val), (b4_4, .val)]), (6, some [(b6_0, .val), (b6_1, .val), (b6_2, .val), (b6_3, .val), (b6_4, .own)]), (9, some [((proj 0 b9), .val), ((proj 1 b9), .val), ((proj 2 b9), .val), ((proj 3 b9), .val), ((proj 4 b9), .val)]), (10, some [((proj 0 b10), .val), ((proj 1 b10), .val), ((proj 2 b10), .val), ((proj 3 b10), .val), ((proj 4 b10), .val)])], []⟩
theorem eq_comp_formed (R : Orc) (x0 : DV) (x1 : DV) : P_comp_formed R x0 x1 =
  (og (isAggN 5 x0) <|
  og (isAggN 5 x1) <|
  og (isCell (proj 0 x0)) <|
  ob (dLen (proj 4 x0)) fun d1 =>
  P_comp_formed_3h R (.int .i64 0) d1 (.int .i64 0) x0 x1 (.int .i64 0) (.int .i64 0) (.int .i64 0) (.bool false) (.list 5 []) (proj 0 x0) (.int .i64 0) (.int .i64 0) (.bool false) (.list 5 [])) := evP_of [8] (by kernel_rfl)
theorem eq_comp_formed_3h (R : Orc) (t7 : DV) (t18 : DV) (t19 : DV) (b2 : DV) (b3 : DV) (b4_0 : DV) (b4_1 : DV) (b4_2 : DV) (b4_3 : DV) (b4_4 : DV) (b6_0 : DV) (b6_1 : DV) (b6_2 : DV) (b6_3 : DV) (b6_4 : DV) : P_comp_formed_3h R t7 t18 t19 b2 b3 b4_0 b4_1 b4_2 b4_3 b4_4 b6_0 b6_1 b6_2 b6_3 b6_4 =
  (ob (dBin .lss t19 t18) fun d1 =>
  oif d1
   (ob (dIdx 5 (proj 4 b2) t19) fun d2 =>
   ob (dIdx 5 (proj 4 b3) t19) fun d3 =>
   ob (dBin .eql (proj 0 b2) (.int .i64 2)) fun d4 =>
   ogd d4
    (ob (dBin .eql t19 (.int .i64 0)) fun d5 =>
    oif d5
     (P_comp_formed_8 R t7 t18 t19 b2 b3 b4_0 b4_1 b4_2 b4_3 b4_4 b6_0 b6_1 b6_2 b6_3 b6_4 d3 d2)
     (P_comp_formed_8 R t7 t18 t19 b2 b3 b4_0 b4_1 b4_2 b4_3 b4_4 b6_0 b6_1 b6_2 b6_3 b6_4 d2 d3))
    (P_comp_formed_8 R t7 t18 t19 b2 b3 b4_0 b4_1 b4_2 b4_3 b4_4 b6_0 b6_1 b6_2 b6_3 b6_4 d2 d3)
    none)
   (ob (dLen b6_4) fun d6 =>
   ob (dBin .eql t7 d6) fun d7 =>
   oif d7
    (ob (R.p F_comp_id []) fun d8 =>
    og (isAggN 5 d8) <|
    some (.tup [(.agg [(proj 0 d8), (proj 1 d8), (proj 2 d8), (proj 3 d8), (proj 4 d8)]), (.bool true)]))
    (some (.tup [(.agg [b6_0, b6_1, b6_2, b6_3, b6_4]), (.bool true)])))) := headP_of [8] (by kernel_rfl)
theorem eq_comp_formed_8 (R : Orc) (t7 : DV) (t18 : DV) (t19 : DV) (b2 : DV) (b3 : DV) (b4_0 : DV) (b4_1 : DV) (b4_2 : DV) (b4_3 : DV) (b4_4 : DV) (b6_0 : DV) (b6_1 : DV) (b6_2 : DV) (b6_3 : DV) (b6_4 : DV) (b9 : DV) (b10 : DV) : P_comp_formed_8 R t7 t18 t19 b2 b3 b4_0 b4_1 b4_2 b4_3 b4_4 b6_0 b6_1 b6_2 b6_3 b6_4 b9 b10 =
  (ob (R.p F_comp_join [(.agg [(proj 0 b9), (proj 1 b9), (proj 2 b9), (proj 3 b9), (proj 4 b9)]), (.agg [(proj 0 b10), (proj 1 b10), (proj 2 b10), (proj 3 b10), (proj 4 b10)])]) fun d1 =>
  ob (dExt 0 d1) fun d2 =>
  ob (dExt 1 d1) fun d3 =>
  og (isAggN 5 d2) <|
  ob (dUn .not d3) fun d4 =>
  oif d4
   (some (.tup [(.agg [(.int .i64 0), (.int .i64 0), (.int .i64 0), (.bool false), (.list 5 [])]), (.bool false)]))
   (ob (dBin .eql (proj 0 d2) (.int .i64 1)) fun d5 =>
   oif d5
    (ob (dBin .add t7 (.int .i64 1)) fun d6 =>
    ob (dApp 5 b6_4 (.list 5 [(.agg [(proj 0 d2), (proj 1 d2), (proj 2 d2), (proj 3 d2), (proj 4 d2)])])) fun d7 =>
    ob (dBin .add t19 (.int .i64 1)) fun d8 =>
    P_comp_formed_3h R d6 t18 d8 b2 b3 b4_0 b4_1 b4_2 b4_3 b4_4 b6_0 b6_1 b6_2 b6_3 d7)
    (ob (dApp 5 b6_4 (.list 5 [(.agg [(proj 0 d2), (proj 1 d2), (proj 2 d2), (proj 3 d2), (proj 4 d2)])])) fun d9 =>
    ob (dBin .add t19 (.int .i64 1)) fun d10 =>
    P_comp_formed_3h R t7 t18 d10 b2 b3 b4_0 b4_1 b4_2 b4_3 b4_4 b6_0 b6_1 b6_2 b6_3 d9))) := evP_of [8] (by kernel_rfl)
theorem fix_comp_formed (x0 : DV) (x1 : DV) : (run cfg).p F_comp_formed [x0, x1] = P_comp_formed (run cfg) x0 x1 :=
  (fix_pure (C := cfg) (f := F_comp_formed) (fn := Try.f79) (c := code_comp_formed) (by kernel_rfl) Try.func79 (by kernel_rfl)).trans (by kernel_rfl)
noncomputable def code_word_Key : Code := Try.f80.body.getD .skip
noncomputable def P_word_Key (R : Orc) (x0 : DV) : Option DV := evP cfg R fl_word_Key (retP cfg.P Try.f80) [] code_word_Key (initSt Try.f80 [(x0, .val)] [])
theorem eq_word_Key (R : Orc) (x0 : DV) : P_word_Key R x0 =
  (ob (dBin .eql x0 (.str ⟨#[108, 101, 116]⟩)) fun d1 =>
  oif d1
   (some (.bool true))
   (ob (dBin .eql x0 (.str ⟨#[114, 101, 99]⟩)) fun d2 =>
   oif d2
    (some (.bool true))
    (ob (dBin .eql x0 (.str ⟨#[105, 110]⟩)) fun d3 =>
    oif d3
     (some (.bool true))
     (ob (dBin .eql x0 (.str ⟨#[102, 117, 110]⟩)) fun d4 =>
     oif d4
      (some (.bool true))
      (ob (dBin .eql x0 (.str ⟨#[105, 102]⟩)) fun d5 =>
      oif d5
       (some (.bool true))
       (ob (dBin .eql x0 (.str ⟨#[116, 104, 101, 110]⟩)) fun d6 =>
       oif d6
        (some (.bool true))
        (ob (dBin .eql x0 (.str ⟨#[101, 108, 115, 101]⟩)) fun d7 =>
        oif d7
         (some (.bool true))
         (ob (dBin .eql x0 (.str ⟨#[109, 97, 116, 99, 104]⟩)) fun d8 =>
         oif d8
          (some (.bool true))
          (ob (dBin .eql x0 (.str ⟨#[119, 105, 116, 104]⟩)) fun d9 =>
          oif d9
           (some (.bool true))
           (ob (dBin .eql x0 (.str ⟨#[101, 110, 100]⟩)) fun d10 =>
           oif d10
            (some (.bool true))
            (ob (dBin .eql x0 (.str ⟨#[116, 114, 117, 101]⟩)) fun d11 =>
            oif d11
             (some (.bool true))
             (ob (dBin .eql x0 (.str ⟨#[102, 97, 108, 115, 101]⟩)) fun d12 =>
             oif d12
              (some (.bool true))
              (ob (dBin .eql x0 (.str ⟨#[105, 110, 116]⟩)) fun d13 =>
              oif d13
               (some (.bool true))
               (ob (dBin .eql x0 (.str ⟨#[98, 111, 111, 108]⟩)) fun d14 =>
               oif d14
                (some (.bool true))
                (ob (dBin .eql x0 (.str ⟨#[115, 116, 114, 105, 110, 103]⟩)) fun d15 =>
                oif d15
                 (some (.bool true))
                 (ob (dBin .eql x0 (.str ⟨#[117, 110, 105, 116]⟩)) fun d16 =>
                 oif d16
                  (some (.bool true))
                  (ob (dBin .eql x0 (.str ⟨#[108, 105, 115, 116]⟩)) fun d17 =>
                  oif d17
                   (some (.bool true))
                   (some (.bool false))))))))))))))))))) := evP_of [] (by kernel_rfl)
theorem fix_word_Key (x0 : DV) : (run cfg).p F_word_Key [x0] = P_word_Key (run cfg) x0 :=
  (fix_pure (C := cfg) (f := F_word_Key) (fn := Try.f80) (c := code_word_Key) (by kernel_rfl) Try.func80 (by kernel_rfl)).trans (by kernel_rfl)
noncomputable def code_word_inner : Code := Try.f81.body.getD .skip
noncomputable def P_word_inner (R : Orc) (x0 : DV) : Option DV := evP cfg R fl_word_inner (retP cfg.P Try.f81) [] code_word_inner (initSt Try.f81 [(x0, .val)] [])
set_option maxRecDepth 100000 in
theorem eq_word_inner (R : Orc) (x0 : DV) : P_word_inner R x0 =
  (ob (dBin .geq x0 (.int .u8 97)) fun d1 =>
  ogd d1
   (ob (dBin .leq x0 (.int .u8 122)) fun d2 =>
   ogd d2
    (some (.bool true))
    (ob (dBin .geq x0 (.int .u8 65)) fun d3 =>
    ogd d3
     (ob (dBin .leq x0 (.int .u8 90)) fun d4 =>
     ogd d4
      (some (.bool true))
      (ob (dBin .geq x0 (.int .u8 48)) fun d5 =>
      ogd d5
       (ob (dBin .leq x0 (.int .u8 57)) fun d6 =>
       ogd d6
        (some (.bool true))
        (ob (dBin .eql x0 (.int .u8 95)) fun d7 =>
        ogd d7
         (some (.bool true))
         (ob (dBin .eql x0 (.int .u8 39)) fun d8 =>
         some d8)
         none)
        none)
       (ob (dBin .eql x0 (.int .u8 95)) fun d9 =>
       ogd d9
        (some (.bool true))
        (ob (dBin .eql x0 (.int .u8 39)) fun d10 =>
        some d10)
        none)
       none)
      none)
     (ob (dBin .geq x0 (.int .u8 48)) fun d11 =>
     ogd d11
      (ob (dBin .leq x0 (.int .u8 57)) fun d12 =>
      ogd d12
       (some (.bool true))
       (ob (dBin .eql x0 (.int .u8 95)) fun d13 =>
       ogd d13
        (some (.bool true))
        (ob (dBin .eql x0 (.int .u8 39)) fun d14 =>
        some d14)
        none)
       none)
      (ob (dBin .eql x0 (.int .u8 95)) fun d15 =>
      ogd d15
       (some (.bool true))
       (ob (dBin .eql x0 (.int .u8 39)) fun d16 =>
       some d16)
       none)
      none)
     none)
    none)
   (ob (dBin .geq x0 (.int .u8 65)) fun d17 =>
   ogd d17
    (ob (dBin .leq x0 (.int .u8 90)) fun d18 =>
    ogd d18
     (some (.bool true))
     (ob (dBin .geq x0 (.int .u8 48)) fun d19 =>
     ogd d19
      (ob (dBin .leq x0 (.int .u8 57)) fun d20 =>
      ogd d20
       (some (.bool true))
       (ob (dBin .eql x0 (.int .u8 95)) fun d21 =>
       ogd d21
        (some (.bool true))
        (ob (dBin .eql x0 (.int .u8 39)) fun d22 =>
        some d22)
        none)
       none)
      (ob (dBin .eql x0 (.int .u8 95)) fun d23 =>
      ogd d23
       (some (.bool true))
       (ob (dBin .eql x0 (.int .u8 39)) fun d24 =>
       some d24)
       none)
      none)
     none)
    (ob (dBin .geq x0 (.int .u8 48)) fun d25 =>
    ogd d25
     (ob (dBin .leq x0 (.int .u8 57)) fun d26 =>
     ogd d26
      (some (.bool true))
      (ob (dBin .eql x0 (.int .u8 95)) fun d27 =>
      ogd d27
       (some (.bool true))
       (ob (dBin .eql x0 (.int .u8 39)) fun d28 =>
       some d28)
       none)
      none)
     (ob (dBin .eql x0 (.int .u8 95)) fun d29 =>
     ogd d29
      (some (.bool true))
      (ob (dBin .eql x0 (.int .u8 39)) fun d30 =>
      some d30)
      none)
     none)
    none)
   none) := evP_of [] (by kernel_rfl)
theorem fix_word_inner (x0 : DV) : (run cfg).p F_word_inner [x0] = P_word_inner (run cfg) x0 :=
  (fix_pure (C := cfg) (f := F_word_inner) (fn := Try.f81) (c := code_word_inner) (by kernel_rfl) Try.func81 (by kernel_rfl)).trans (by kernel_rfl)
noncomputable def code_tree_onePat : Code := Try.f83.body.getD .skip
noncomputable def P_tree_onePat (R : Orc) (x0 : DV) : Option DV := evP cfg R fl_tree_onePat (retP cfg.P Try.f83) [] code_tree_onePat (initSt Try.f83 [(x0, .val)] [])
noncomputable def P_tree_onePat_24 (R : Orc) (t4 : DV) (b1 : DV) (b3_0 : DV) (b3_1 : DV) (b3_2 : DV) (b3_3 : DV) (b3_4 : DV) (b3_5 : DV) (b3_6 : DV) : Option DV := evP cfg R fl_tree_onePat (retP cfg.P Try.f83) [true, true, true] code_tree_onePat ⟨spread .undef 83 0 [(4, t4)], spread .val 83 0 [(1, (.loc 1 0)), (3, (.loc 3 0))], spread none 83 0 [(1, some [((proj 0 b1), .val), ((proj 1 b1), .val), ((proj 2 b1), .val), ((proj 3 b1), .val), ((proj 4 b1), .val), ((proj 5 b1), .val), ((proj 6 b1), .val)]), (3, some [(b3_0, .val), (b3_1, .val), (b3_2, .val), (b3_3, .val), (b3_4, .val), (b3_5, .val), (b3_6, .val)])], []⟩
set_option maxRecDepth 100000 in
theorem eq_tree_onePat (R : Orc) (x0 : DV) : P_tree_onePat R x0 =
  (og (isAggN 7 x0) <|
  og (isCell (proj 0 x0)) <|
  og (isCell (proj 6 x0)) <|
  ob (dBin .eql (proj 0 x0) (.int .i64 1)) fun d1 =>
  oif d1
   (P_tree_onePat_24 R (.int .i64 0) x0 (proj 0 x0) (proj 1 x0) (proj 2 x0) (.str ⟨#[]⟩) (.int .i64 0) (.str ⟨#[]⟩) (proj 6 x0))
   (ob (dBin .eql (proj 0 x0) (.int .i64 6)) fun d2 =>
   oif d2
    (P_tree_onePat_24 R (.int .i64 0) x0 (proj 0 x0) (proj 1 x0) (proj 2 x0) (.str ⟨#[]⟩) (.int .i64 0) (.str ⟨#[]⟩) (proj 6 x0))
    (ob (dBin .eql (proj 0 x0) (.int .i64 8)) fun d3 =>
    oif d3
     (P_tree_onePat_24 R (.int .i64 0) x0 (proj 0 x0) (proj 1 x0) (proj 2 x0) (.str ⟨#[]⟩) (.int .i64 0) (.str ⟨#[]⟩) (proj 6 x0))
     (ob (dBin .eql (proj 0 x0) (.int .i64 2)) fun d4 =>
     oif d4
      (og (isCell (proj 3 x0)) <|
      ob (R.p F_word_Name [(proj 3 x0)]) fun d5 =>
      ob (dUn .not d5) fun d6 =>
      oif d6
       (some (.bool false))
       (P_tree_onePat_24 R (.int .i64 0) x0 (proj 0 x0) (proj 1 x0) (proj 2 x0) (proj 3 x0) (.int .i64 0) (.str ⟨#[]⟩) (proj 6 x0)))
      (ob (dBin .eql (proj 0 x0) (.int .i64 3)) fun d7 =>
      oif d7
       (og (isCell (proj 4 x0)) <|
       P_tree_onePat_24 R (.int .i64 0) x0 (proj 0 x0) (proj 1 x0) (proj 2 x0) (.str ⟨#[]⟩) (proj 4 x0) (.str ⟨#[]⟩) (proj 6 x0))
       (ob (dBin .eql (proj 0 x0) (.int .i64 4)) fun d8 =>
       oif d8
        (og (isCell (proj 4 x0)) <|
        ob (dBin .neq (proj 4 x0) (.int .i64 0)) fun d9 =>
        ogd d9
         (ob (dBin .neq (proj 4 x0) (.int .i64 1)) fun d10 =>
         oif d10
          (some (.bool false))
          (P_tree_onePat_24 R (.int .i64 0) x0 (proj 0 x0) (proj 1 x0) (proj 2 x0) (.str ⟨#[]⟩) (proj 4 x0) (.str ⟨#[]⟩) (proj 6 x0)))
         (P_tree_onePat_24 R (.int .i64 0) x0 (proj 0 x0) (proj 1 x0) (proj 2 x0) (.str ⟨#[]⟩) (proj 4 x0) (.str ⟨#[]⟩) (proj 6 x0))
         none)
        (ob (dBin .eql (proj 0 x0) (.int .i64 5)) fun d11 =>
        oif d11
         (og (isCell (proj 5 x0)) <|
         ob (dLenS (proj 5 x0)) fun d12 =>
         ob (dBin .gtr d12 (.int .i64 200)) fun d13 =>
         oif d13
          (some (.bool false))
          (P_tree_onePat_24 R (.int .i64 0) x0 (proj 0 x0) (proj 1 x0) (proj 2 x0) (.str ⟨#[]⟩) (.int .i64 0) (proj 5 x0) (proj 6 x0)))
         (ob (dBin .eql (proj 0 x0) (.int .i64 7)) fun d14 =>
         oif d14
          (P_tree_onePat_24 R (.int .i64 2) x0 (proj 0 x0) (proj 1 x0) (proj 2 x0) (.str ⟨#[]⟩) (.int .i64 0) (.str ⟨#[]⟩) (proj 6 x0))
          (ob (dBin .eql (proj 0 x0) (.int .i64 9)) fun d15 =>
          oif d15
           (P_tree_onePat_24 R (.int .i64 2) x0 (proj 0 x0) (proj 1 x0) (proj 2 x0) (.str ⟨#[]⟩) (.int .i64 0) (.str ⟨#[]⟩) (proj 6 x0))
           (some (.bool false))))))))))) := evP_of [24] (by kernel_rfl)
set_option maxRecDepth 100000 in
theorem eq_tree_onePat_24 (R : Orc) (t4 : DV) (b1 : DV) (b3_0 : DV) (b3_1 : DV) (b3_2 : DV) (b3_3 : DV) (b3_4 : DV) (b3_5 : DV) (b3_6 : DV) : P_tree_onePat_24 R t4 b1 b3_0 b3_1 b3_2 b3_3 b3_4 b3_5 b3_6 =
  (ob (dLen (proj 6 b1)) fun d1 =>
  ob (dBin .eql d1 t4) fun d2 =>
  ogd d2
   (ob (dBin .eql b3_3 (proj 3 b1)) fun d3 =>
   ogd d3
    (ob (dBin .eql b3_4 (proj 4 b1)) fun d4 =>
    ogd d4
     (ob (dBin .eql b3_5 (proj 5 b1)) fun d5 =>
     some d5)
     (some (.bool false))
     none)
    (some (.bool false))
    none)
   (some (.bool false))
   none) := evP_of [24] (by kernel_rfl)
theorem fix_tree_onePat (x0 : DV) : (run cfg).p F_tree_onePat [x0] = P_tree_onePat (run cfg) x0 :=
  (fix_pure (C := cfg) (f := F_tree_onePat) (fn := Try.f83) (c := code_tree_onePat) (by kernel_rfl) Try.func83 (by kernel_rfl)).trans (by kernel_rfl)
noncomputable def code_typ_without : Code := Try.f84.body.getD .skip
noncomputable def P_typ_without (R : Orc) (x0 : DV) (x1 : DV) : Option DV := evP cfg R fl_typ_without (retP cfg.P Try.f84) [] code_typ_without (initSt Try.f84 [(x0, .val), (x1, .val)] [])
noncomputable def P_typ_without_4h (R : Orc) (t1 : DV) (t12 : DV) (t13 : DV) (t14 : DV) : Option DV := headP cfg R fl_typ_without (retP cfg.P Try.f84) [true, true, false, true, false] code_typ_without ⟨spread .undef 23 0 [(1, t1), (12, t12), (13, t13), (14, t14)], spread .val 23 0 [], spread none 23 0 [], []⟩
theorem eq_typ_without (R : Orc) (x0 : DV) (x1 : DV) : P_typ_without R x0 x1 =
  (og (isAggN 3 x0) <|
  ob (dBin .eql (proj 0 x0) x1) fun d1 =>
  oif d1
   (some (.bool false))
   (ob (dLen (proj 2 x0)) fun d2 =>
   P_typ_without_4h R x1 (proj 2 x0) d2 (.int .i64 0))) := evP_of [] (by kernel_rfl)
theorem eq_typ_without_4h (R : Orc) (t1 : DV) (t12 : DV) (t13 : DV) (t14 : DV) : P_typ_without_4h R t1 t12 t13 t14 =
  (ob (dBin .lss t14 t13) fun d1 =>
  oif d1
   (ob (dIdx 3 t12 t14) fun d2 =>
   ob (R.p F_typ_without [(.agg [(proj 0 d2), (proj 1 d2), (proj 2 d2)]), t1]) fun d3 =>
   ob (dUn .not d3) fun d4 =>
   oif d4
    (some (.bool false))
    (ob (dBin .add t14 (.int .i64 1)) fun d5 =>
    P_typ_without_4h R t1 t12 t13 d5))
   (some (.bool true))) := headP_of [] (by kernel_rfl)
theorem fix_typ_without (x0 : DV) (x1 : DV) : (run cfg).p F_typ_without [x0, x1] = P_typ_without (run cfg) x0 x1 :=
  (fix_pure (C := cfg) (f := F_typ_without) (fn := Try.f84) (c := code_typ_without) (by kernel_rfl) Try.func84 (by kernel_rfl)).trans (by kernel_rfl)
noncomputable def code_coer_label : Code := Try.f85.body.getD .skip
noncomputable def P_coer_label (R : Orc) (x0 : DV) : Option DV := evP cfg R fl_coer_label (retP cfg.P Try.f85) [] code_coer_label (initSt Try.f85 [(x0, .val)] [])
theorem eq_coer_label (R : Orc) (x0 : DV) : P_coer_label R x0 =
  (ob (dBin .geq x0 (.int .i64 0)) fun d1 =>
  ogd d1
   (ob (dBin .leq x0 (.int .i64 1048576)) fun d2 =>
   some d2)
   (some (.bool false))
   none) := evP_of [] (by kernel_rfl)
theorem fix_coer_label (x0 : DV) : (run cfg).p F_coer_label [x0] = P_coer_label (run cfg) x0 :=
  (fix_pure (C := cfg) (f := F_coer_label) (fn := Try.f85) (c := code_coer_label) (by kernel_rfl) Try.func85 (by kernel_rfl)).trans (by kernel_rfl)
noncomputable def code_coer_isHead : Code := Try.f86.body.getD .skip
noncomputable def P_coer_isHead (R : Orc) (x0 : DV) : Option DV := evP cfg R fl_coer_isHead (retP cfg.P Try.f86) [] code_coer_isHead (initSt Try.f86 [(x0, .val)] [])
theorem eq_coer_isHead (R : Orc) (x0 : DV) : P_coer_isHead R x0 =
  (ob (dBin .eql x0 (.int .i64 1)) fun d1 =>
  oif d1
   (some (.bool true))
   (ob (dBin .eql x0 (.int .i64 2)) fun d2 =>
   oif d2
    (some (.bool true))
    (ob (dBin .eql x0 (.int .i64 3)) fun d3 =>
    oif d3
     (some (.bool true))
     (ob (dBin .eql x0 (.int .i64 4)) fun d4 =>
     oif d4
      (some (.bool true))
      (ob (dBin .eql x0 (.int .i64 7)) fun d5 =>
      oif d5
       (some (.bool true))
       (ob (dBin .eql x0 (.int .i64 8)) fun d6 =>
       oif d6
        (some (.bool true))
        (ob (dBin .eql x0 (.int .i64 9)) fun d7 =>
        oif d7
         (some (.bool true))
         (some (.bool false))))))))) := evP_of [] (by kernel_rfl)
theorem fix_coer_isHead (x0 : DV) : (run cfg).p F_coer_isHead [x0] = P_coer_isHead (run cfg) x0 :=
  (fix_pure (C := cfg) (f := F_coer_isHead) (fn := Try.f86) (c := code_coer_isHead) (by kernel_rfl) Try.func86 (by kernel_rfl)).trans (by kernel_rfl)
noncomputable def code_coer_within : Code := Try.f87.body.getD .skip
noncomputable def P_coer_within (R : Orc) (x0 : DV) (x1 : DV) : Option DV := evP cfg R fl_coer_within (retP cfg.P Try.f87) [] code_coer_within (initSt Try.f87 [(x0, .val), (x1, .val)] [])
theorem eq_coer_within (R : Orc) (x0 : DV) (x1 : DV) : P_coer_within R x0 x1 =
  (og (isAggN 5 x0) <|
  ob (dBin .eql (proj 0 x0) (.int .i64 1)) fun d1 =>
  ogd d1
   (ob (R.p F_coer_right [(.agg [(proj 0 x0), (proj 1 x0), (proj 2 x0), (proj 3 x0), (proj 4 x0)])]) fun d2 =>
   some d2)
   (ob (R.p F_coer_former [(proj 0 x0)]) fun d3 =>
   ob (dBin .eql d3 x1) fun d4 =>
   ogd d4
    (ob (R.p F_coer_right [(.agg [(proj 0 x0), (proj 1 x0), (proj 2 x0), (proj 3 x0), (proj 4 x0)])]) fun d5 =>
    some d5)
    (some (.bool false))
    none)
   none) := evP_of [] (by kernel_rfl)
theorem fix_coer_within (x0 : DV) (x1 : DV) : (run cfg).p F_coer_within [x0, x1] = P_coer_within (run cfg) x0 x1 :=
  (fix_pure (C := cfg) (f := F_coer_within) (fn := Try.f87) (c := code_coer_within) (by kernel_rfl) Try.func87 (by kernel_rfl)).trans (by kernel_rfl)
noncomputable def code_coer_formed : Code := Try.f88.body.getD .skip
noncomputable def P_coer_formed (R : Orc) (x0 : DV) : Option DV := evP cfg R fl_coer_formed (retP cfg.P Try.f88) [] code_coer_formed (initSt Try.f88 [(x0, .val)] [])
noncomputable def P_coer_formed_4 (R : Orc) (t3 : DV) (b1 : DV) : Option DV := evP cfg R fl_coer_formed (retP cfg.P Try.f88) [true, true, true] code_coer_formed ⟨spread .undef 48 0 [(3, t3)], spread .val 48 0 [(1, (.loc 1 0))], spread none 48 0 [(1, some [((proj 0 b1), .val), ((proj 1 b1), .val), ((proj 2 b1), .val), ((proj 3 b1), .val), ((proj 4 b1), .val)])], []⟩
noncomputable def P_coer_formed_8h (R : Orc) (t3 : DV) (t4 : DV) (t30 : DV) (t31 : DV) (t32 : DV) : Option DV := headP cfg R fl_coer_formed (retP cfg.P Try.f88) [true, true, true, true, true, false, true, false] code_coer_formed ⟨spread .undef 48 0 [(3, t3), (4, t4), (30, t30), (31, t31), (32, t32)], spread .val 48 0 [], spread none 48 0 [], []⟩
theorem eq_coer_formed (R : Orc) (x0 : DV) : P_coer_formed R x0 =
  (og (isAggN 5 x0) <|
  ob (dBin .eql (proj 0 x0) (.int .i64 4)) fun d1 =>
  oif d1
   (P_coer_formed_4 R (.int .i64 1) x0)
   (P_coer_formed_4 R (.int .i64 2) x0)) := evP_of [4] (by kernel_rfl)
theorem eq_coer_formed_4 (R : Orc) (t3 : DV) (b1 : DV) : P_coer_formed_4 R t3 b1 =
  (ob (dLen (proj 4 b1)) fun d1 =>
  ob (dBin .neq d1 t3) fun d2 =>
  ogd d2
   (some (.bool false))
   (ob (dBin .neq (proj 1 b1) (.int .i64 0)) fun d3 =>
   ogd d3
    (some (.bool false))
    (ob (dBin .neq (proj 2 b1) (.int .i64 0)) fun d4 =>
    ogd d4
     (some (.bool false))
     (oif (proj 3 b1)
      (some (.bool false))
      (ob (dLen (proj 4 b1)) fun d5 =>
      P_coer_formed_8h R t3 (.int .i64 0) (proj 4 b1) d5 (.int .i64 0)))
     none)
    none)
   none) := evP_of [4] (by kernel_rfl)
theorem eq_coer_formed_8h (R : Orc) (t3 : DV) (t4 : DV) (t30 : DV) (t31 : DV) (t32 : DV) : P_coer_formed_8h R t3 t4 t30 t31 t32 =
  (ob (dBin .lss t32 t31) fun d1 =>
  oif d1
   (ob (dIdx 5 t30 t32) fun d2 =>
   ob (R.p F_coer_right [(.agg [(proj 0 d2), (proj 1 d2), (proj 2 d2), (proj 3 d2), (proj 4 d2)])]) fun d3 =>
   ob (dUn .not d3) fun d4 =>
   oif d4
    (some (.bool false))
    (ob (dBin .eql (proj 0 d2) (.int .i64 1)) fun d5 =>
    oif d5
     (ob (dBin .add t4 (.int .i64 1)) fun d6 =>
     ob (dBin .add t32 (.int .i64 1)) fun d7 =>
     P_coer_formed_8h R t3 d6 t30 t31 d7)
     (ob (dBin .add t32 (.int .i64 1)) fun d8 =>
     P_coer_formed_8h R t3 t4 t30 t31 d8)))
   (ob (dBin .lss t4 t3) fun d9 =>
   some d9)) := headP_of [4] (by kernel_rfl)
theorem fix_coer_formed (x0 : DV) : (run cfg).p F_coer_formed [x0] = P_coer_formed (run cfg) x0 :=
  (fix_pure (C := cfg) (f := F_coer_formed) (fn := Try.f88) (c := code_coer_formed) (by kernel_rfl) Try.func88 (by kernel_rfl)).trans (by kernel_rfl)
noncomputable def code_comp_id : Code := Try.f89.body.getD .skip
noncomputable def P_comp_id (R : Orc) : Option DV := evP cfg R fl_comp_id (retP cfg.P Try.f89) [] code_comp_id (initSt Try.f89 [] [])
theorem eq_comp_id (R : Orc) : P_comp_id R =
  (some (.agg [(.int .i64 1), (.int .i64 0), (.int .i64 0), (.bool false), (.list 5 [])])) := evP_of [] (by kernel_rfl)
theorem fix_comp_id : (run cfg).p F_comp_id [] = P_comp_id (run cfg) :=
  (fix_pure (C := cfg) (f := F_comp_id) (fn := Try.f89) (c := code_comp_id) (by kernel_rfl) Try.func89 (by kernel_rfl)).trans (by kernel_rfl)
noncomputable def code_coer_former : Code := Try.f92.body.getD .skip
noncomputable def P_coer_former (R : Orc) (x0 : DV) : Option DV := evP cfg R fl_coer_former (retP cfg.P Try.f92) [] code_coer_former (initSt Try.f92 [(x0, .val)] [])
theorem eq_coer_former (R : Orc) (x0 : DV) : P_coer_former R x0 =
  (ob (dBin .eql x0 (.int .i64 2)) fun d1 =>
  oif d1
   (some (.int .i64 9))
   (ob (dBin .eql x0 (.int .i64 3)) fun d2 =>
   oif d2
    (some (.int .i64 7))
    (ob (dBin .eql x0 (.int .i64 4)) fun d3 =>
    oif d3
     (some (.int .i64 8))
     (some (.int .i64 0))))) := evP_of [] (by kernel_rfl)
theorem fix_coer_former (x0 : DV) : (run cfg).p F_coer_former [x0] = P_coer_former (run cfg) x0 :=
  (fix_pure (C := cfg) (f := F_coer_former) (fn := Try.f92) (c := code_coer_former) (by kernel_rfl) Try.func92 (by kernel_rfl)).trans (by kernel_rfl)
end Go.Su

/-
  All equations.
-/
namespace Go.Su
end Go.Su
