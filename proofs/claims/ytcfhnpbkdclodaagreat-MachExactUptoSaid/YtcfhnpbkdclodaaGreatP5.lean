/-
  Parts of the proof, merged: G4, G5, G6, G7, G8, G9, G10, G11, G12, T0.
-/
import Derived.Test.YtcfhnpbkdclodaaGreatP4
set_option linter.unusedVariables false
set_option linter.unusedSimpArgs false
/-
 Equations of the program's functions: by program.
-/
namespace Go.Su
set_option maxRecDepth 100000
noncomputable section
open Go.Proofs
variable (R : Q8) (i j k l m n : Nat) (a b c d e f g h o p q r t u v w x y z A B C D E F G H I J K L M N O P Q S T U V W X Y Z a1 a2 a3 a4 a5 a6 a7 a8 a9 a10 a11 a12 a13 a14 a15 a16 a17 a18 a19 a20 a21 a22 a23 a24 a25 a26 a27 a28 a29 a30 a31 a32 a33 a34 a35 a36 a37 a38 a39 a40 a41 a42 a43 a44 a45 a46 a47 a48 a49 a50 a51 a52 a53 a54 a55 a56 a57 a58 a59 : DV) (s : List C9)
def xG := eR Tryz.f41 Ep IX R [] (F4 Tryz.f41 [(pt i)] s)
def MF := eR Tryz.f41 Ep IX R (pb 506) (ms 215 [] [(0, (.ptr i 0))] [(3, bx a 36), (4, bx b 9)] s)
def Tv := eR Tryz.f41 Ep IX R (pb 2030) (ms 215 [] [(0, (.ptr i 0))] [(3, bx a 36), (4, bx b 9)] s)
def gD := eR Tryz.f41 Ep IX R (pb 8127) (ms 215 [(53, a)] [(0, (.ptr i 0))] [(3, bx b 36), (4, bx c 9)] s)
def MG := eR Tryz.f41 Ep IX R (pb 8123) (ms 215 [] [(0, (.ptr i 0))] [(5, bv (a::(iI 0)::(.str ⟨#[]⟩)::(Ab [b])))] s)
theorem tO : xG R i s =
 (ob (E9 s i) fun c1 => ob (H5 c1 48) fun d2 => ob (dLen d2) fun d3 => ob (A8 .eql d3 (iI 0)) fun d4 => D7 d4 (ob (E9 s i) fun c5 => ob (c5[50]?) fun u6 => ob (E9 (s.set i (C9.box (c5.set 50 ((.bool true), .val)))) i) fun c7 => ob (O8 39 9 c7) fun e8 => og (D6 9 (.agg e8)) <| ob (E9 (s.set i (C9.box (c5.set 50 ((.bool true), .val)))) i) fun c9 => ob (c9[51]?) fun u10 => oc (R.r TL [(pt i)] ((s.set i (C9.box (c5.set 50 ((.bool true), .val)))).set i (C9.box (c9.set 51 ((.list 9 [(.agg e8)]), .full))))) fun q11 s11 => some ([], s11)) (ob (E9 s i) fun c12 => ob (H5 c12 48) fun d13 => ob (A8 .sub d3 (iI 1)) fun d14 => ob (F5 36 d13 d14) fun d15 => ob (E9 s i) fun c16 => ob (O8 39 9 c16) fun e17 => og (D6 9 (.agg e17)) <| ob (E9 s i) fun c18 => ob (H5 c18 48) fun d19 => ob (A8 .sub d3 (iI 1)) fun d20 => ob (Ak 36 d19 none (some d20)) fun d21 => ob (AQ 36 (.list 36 []) d21) fun d22 => ob (E9 s i) fun c23 => ob (c23[48]?) fun u24 => ob (A8 .eql (A7 0 d15) (iI 1)) fun d25 => D7 d25 (MF R i d15 (.agg e17) (s.set i (C9.box (c23.set 48 (d22, .own))))) (ob (A8 .eql (A7 0 d15) (iI 3)) fun d26 =>
 D7 d26 (MF R i d15 (.agg e17) (s.set i (C9.box (c23.set 48 (d22, .own))))) (ob (A8 .eql (A7 0 d15) (iI 2)) fun d27 => D7 d27 (Tv R i d15 (.agg e17) (s.set i (C9.box (c23.set 48 (d22, .own))))) (ob (A8 .eql (A7 0 d15) (iI 4)) fun d28 => D7 d28 (Tv R i d15 (.agg e17) (s.set i (C9.box (c23.set 48 (d22, .own))))) (ob (A8 .eql (A7 0 d15) (iI 5)) fun d29 => D7 d29 (ob (E9 (s.set i (C9.box (c23.set 48 (d22, .own)))) i) fun c30 => ob (X9 c30 48) fun d31 => ob (AQ 36 d31 (.list 36 [(.agg ((iI 6)::(iI 0)::(Mh ((.list 10 [])::(V3 (.agg e17) (Ab []))))))])) fun d32 => ob (E9 ((s.set i (C9.box (c23.set 48 (d22, .own)))).set i (C9.box (c30.set 48 (d31, .val)))) i) fun c33 =>
 ob (c33[48]?) fun u34 => oc (R.r Cy [(pt i), ((.agg (JA d15 [])), .val), ((A7 21 d15), .val)] (((s.set i (C9.box (c23.set 48 (d22, .own)))).set i (C9.box (c30.set 48 (d31, .val)))).set i (C9.box (c33.set 48 (d32, .own))))) fun q35 s35 => some ([], s35)) (gD R i (A7 0 d15) d15 (.agg e17) (s.set i (C9.box (c23.set 48 (d22, .own))))))))))) := E8 [13, 17, 20, 26]
theorem bP : MF R i a b s =
 (ob (E9 s i) fun c1 => ob (X9 c1 48) fun d2 => ob (A8 .add (A7 0 a) (iI 1)) fun d3 => og (H6 d3) <| ob (AQ 36 d2 (.list 36 [(.agg (d3::(iI 0)::(Mh ((.list 10 [])::(V3 b (Ab []))))))])) fun d4 => ob (E9 (s.set i (C9.box (c1.set 48 (d2, .val)))) i) fun c5 => ob (c5[48]?) fun u6 => oc (R.r Cy [(pt i), ((.agg (JA a [])), .val), ((A7 21 a), .val)] ((s.set i (C9.box (c1.set 48 (d2, .val)))).set i (C9.box (c5.set 48 (d4, .own))))) fun q7 s7 =>
 some ([], s7)) := E8 [13, 17, 20, 26]
theorem Ra : Tv R i a b s =
 (ob (A8 .eql (A7 0 a) (iI 4)) fun d1 => D7 d1 (MG R i (iI 7) (.list 9 [(.agg (A0u a [])), (R8 b)]) s) (MG R i (iI 5) (.list 9 [(.agg (A0u a [])), (R8 b)]) s)) := E8 [13, 17, 20, 26]
theorem bR : gD R i a b c s =
 (ob (A8 .eql a (iI 6)) fun d1 => D7 d1 (oc (R.r aR [(pt i), ((.agg (A0u b [])), .val), ((R8 c), .val)] s) fun q2 s2 => some ([], s2)) (ob (A8 .eql a (iI 7)) fun d3 => D7 d3 (ob (F5 20 (A7 20 b) (iI 1)) fun d4 => ob (R.p Nq [(A7 21 b), (A7 4 b), (R8 c)]) fun d5 => oc (R.r Cy [(pt i), ((Q6 d4), .val), (d5, .val)] s) fun q6 s6 => some ([], s6)) (ob (A8 .eql a (iI 8)) fun d7 => D7 d7 (ob (A8 .neq (A7 0 c) (iI 2)) fun d8 => F7 d8 (oc (R.r Y2 [(pt i)] s) fun q9 s9 => some ([], s9)) (ob (R.p GQ [(.agg [(A7 3 c), (A7 4 c), (A7 5 c), (A7 6 c), (A7 7 c)])]) fun d10 => ob (M5 .not d10) fun d11 => D7 d11 (oc (R.r Y2 [(pt i)] s) fun q12 s12 => some ([], s12)) (ob (A8 .sub (iI 2) (A7 1 c)) fun d13 => ob (F5 20 (A7 20 b) d13) fun d14 => oc (R.r Cy [(pt i), ((Q6 d14), .val), ((A7 21 b), .val)] s) fun q15 s15 => some ([], s15))) none) (ob (A8 .eql a (iI 9)) fun d16 =>
 D7 d16 (oc (R.r wX [(pt i), ((.agg (B38 b [])), .val), ((R8 c), .val)] s) fun q17 s17 => some ([], s17)) (ob (A8 .eql a (iI 10)) fun d18 => D7 d18 (ob (E9 s i) fun c19 => ob (X9 c19 48) fun d20 => ob (AQ 36 d20 (.list 36 [(.agg ((iI 11)::(JA b ((.list 10 [])::(V3 c (Ab []))))))])) fun d21 =>
 ob (E9 (s.set i (C9.box (c19.set 48 (d20, .val)))) i) fun c22 => ob (c22[48]?) fun u23 => ob (F5 20 (A7 20 b) (iI 1)) fun d24 => oc (R.r Cy [(pt i), ((Q6 d24), .val), ((A7 21 b), .val)] ((s.set i (C9.box (c19.set 48 (d20, .val)))).set i (C9.box (c22.set 48 (d21, .own))))) fun q25 s25 => some ([], s25)) (ob (A8 .eql a (iI 11)) fun d26 => D7 d26 (oc (R.r jV [(pt i), ((.agg (JA b [])), .val), ((.agg (A0u b [])), .val), ((R8 c), .val)] s) fun q27 s27 => some ([], s27)) (ob (R.r Ie [(pt i), ((R8 c), .val), ((.agg (A0v b [])), .val)] s) fun q28 => ob (J5 0 (.H7 q28.1)) fun d29 => ob (J5 1 (.H7 q28.1)) fun d30 => og (D6 9 d29) <| D7 d30 (oc (R.r DU [(pt i), ((R8 d29), .val)] q28.2) fun q31 s31 =>
 some ([], s31)) (some ([], q28.2))))))))) := E8 [13, 17, 20, 26]
theorem bQ : MG R i a b s =
 (ob (R.p Rw [(.agg (a::(iI 0)::(.str ⟨#[]⟩)::(Ab [b])))]) fun d1 => ob (M5 .not d1) fun d2 => D7 d2 (oc (R.r Y2 [(pt i)] s) fun q3 s3 => some ([], s3)) (oc (R.r DU [(pt i), ((.agg (a::(iI 0)::(.str ⟨#[]⟩)::(Ab [b]))), .val)] s) fun q4 s4 => some ([], s4))) := E8 [13, 17, 20, 26]
theorem nJ : (run cfg).r aQ [(.undef, (.ptr i 0))] s = xG (run cfg) i s := DF (s := Ep) Tryz.func41
def A1R := eR Tryz.f42 GD Jt R [] (F4 Tryz.f42 [(pt i)] s)
def OD := hR Tryz.f42 GD Jt R (pb 468) (ms 238 [(3, a)] [(0, (.ptr i 0))] [(2, bx b 20)] s)
def Gw := eR Tryz.f42 GD Jt R (pb 238) (ms 238 [] [(0, (.ptr i 0))] [(2, bx a 20)] s)
def lF := eR Tryz.f42 GD Jt R (pb 245759) (ms 238 [(10, a)] [(0, (.ptr i 0))] [(2, bx b 20)] s)
def Vx := eR Tryz.f42 GD Jt R (pb 235) (ms 238 [(3, a)] [(0, (.ptr i 0))] [] s)
theorem yQ : A1R R i s =
 (ob (E9 s i) fun c1 => ob (O8 18 20 c1) fun e2 => og (D6 20 (.agg e2)) <| ob (A8 .eql (A7 0 (.agg e2)) (iI 1)) fun d3 => D7 d3 (ob (E9 s i) fun c4 => ob (H5 c4 38) fun d5 => ob (dLen d5) fun d6 => ob (A8 .sub d6 (iI 1)) fun d7 => OD R i d7 (.agg e2) s) (ob (A8 .eql (A7 0 (.agg e2)) (iI 2)) fun d8 => D7 d8 (Gw R i (.agg e2) s) (ob (A8 .eql (A7 0 (.agg e2)) (iI 3)) fun d9 => D7 d9 (Gw R i (.agg e2) s) (ob (A8 .eql (A7 0 (.agg e2)) (iI 4)) fun d10 => D7 d10 (Gw R i (.agg e2) s) (ob (A8 .eql (A7 0 (.agg e2)) (iI 5)) fun d11 => D7 d11 (Gw R i (.agg e2) s) (ob (A8 .eql (A7 0 (.agg e2)) (iI 7)) fun d12 => D7 d12 (oc (R.r DU [(pt i), ((.agg ((iI 6)::(iI 0)::(.str ⟨#[]⟩)::(Ab [(.list 9 [])]))), .val)] s) fun q13 s13 => some ([], s13)) (ob (A8 .eql (A7 0 (.agg e2)) (iI 9)) fun d14 => D7 d14 (ob (F5 20 (A7 19 (.agg e2)) (iI 0)) fun d15 => ob (E9 s i) fun c16 => ob (H5 c16 38) fun d17 =>
 og (H6 (A7 3 (.agg e2))) <| og (H6 d17) <| oc (R.r Lp [(pt i), ((.agg ((.str ⟨#[]⟩)::(A7 3 (.agg e2))::(Y9 d15 [d17]))), .val)] s) fun q18 s18 => oc (R.r DU [(pt i), (q18, .val)] s18) fun q19 s19 => some ([], s19)) (ob (A8 .eql (A7 0 (.agg e2)) (iI 6)) fun d20 => D7 d20 (ob (F5 20 (A7 19 (.agg e2)) (iI 1)) fun d21 => oc (R.r Cx [(pt i), ((iI 1), .val), ((Q6 d21), .val)] s) fun q22 s22 => ob (F5 20 (A7 19 (.agg e2)) (iI 0)) fun d23 => ob (E9 s22 i) fun c24 => if 18 + 20 <= c24.length then (some ([], (s22.set i (C9.box (putAt c24 18 (V6 d23 [])))))) else none) (ob (A8 .eql (A7 0 (.agg e2)) (iI 8)) fun d25 =>
 D7 d25 (ob (F5 20 (A7 19 (.agg e2)) (iI 1)) fun d26 => oc (R.r Cx [(pt i), ((iI 3), .val), ((Q6 d26), .val)] s) fun q27 s27 => ob (F5 20 (A7 19 (.agg e2)) (iI 0)) fun d28 => ob (E9 s27 i) fun c29 => if 18 + 20 <= c29.length then (some ([], (s27.set i (C9.box (putAt c29 18 (V6 d28 [])))))) else none) (ob (A8 .eql (A7 0 (.agg e2)) (iI 10)) fun d30 => D7 d30 (ob (F5 20 (A7 19 (.agg e2)) (iI 1)) fun d31 => oc (R.r Cx [(pt i), ((iI 5), .val), ((Q6 d31), .val)] s) fun q32 s32 => ob (F5 20 (A7 19 (.agg e2)) (iI 0)) fun d33 => ob (E9 s32 i) fun c34 => if 18 + 20 <= c34.length then (some ([], (s32.set i (C9.box (putAt c34 18 (V6 d33 [])))))) else none) (lF R i (A7 0 (.agg e2)) (.agg e2) s))))))))))) := E8 [10, 17, 31]
theorem Ug : OD R i a b s =
 (ob (A8 .geq a (iI 0)) fun d1 => F7 d1 (ob (E9 s i) fun c2 => ob (H5 c2 38) fun d3 => ob (F5 10 d3 a) fun d4 => ob (A8 .neq (A7 0 d4) (A7 3 b)) fun d5 => D7 d5 (ob (A8 .sub a (iI 1)) fun d6 => OD R i d6 b s) (Vx R i a s)) (Vx R i a s) none) := I7 [10, 17, 31]
theorem gy : Gw R i a s =
 (ob (A8 .sub (A7 0 a) (iI 2)) fun d1 => ob (A8 .add d1 (iI 1)) fun d2 => og (H6 d2) <| og (H6 (A7 5 a)) <| og (H6 (A7 6 a)) <| oc (R.r DU [(pt i), ((.agg (d2::(A7 5 a)::(A7 6 a)::(Ab [(.list 9 [])]))), .val)] s) fun q3 s3 => some ([], s3)) := E8 [10, 17, 31]
theorem gz : lF R i a b s =
 (ob (A8 .eql a (iI 11)) fun d1 => D7 d1 (oc (R.r Cx [(pt i), ((iI 7), .val), ((Q6 b), .val)] s) fun q2 s2 => ob (F5 20 (A7 19 b) (iI 0)) fun d3 => ob (E9 s2 i) fun c4 => if 18 + 20 <= c4.length then (some ([], (s2.set i (C9.box (putAt c4 18 (V6 d3 [])))))) else none) (ob (A8 .eql a (iI 13)) fun d5 => D7 d5 (oc (R.r Cx [(pt i), ((iI 8), .val), ((Q6 b), .val)] s) fun q6 s6 => ob (F5 20 (A7 19 b) (iI 0)) fun d7 => ob (E9 s6 i) fun c8 => if 18 + 20 <= c8.length then (some ([], (s6.set i (C9.box (putAt c8 18 (V6 d7 [])))))) else none) (ob (A8 .eql a (iI 14)) fun d9 =>
 D7 d9 (oc (R.r Cx [(pt i), ((iI 9), .val), ((Q6 b), .val)] s) fun q10 s10 => ob (F5 20 (A7 19 b) (iI 0)) fun d11 => ob (E9 s10 i) fun c12 => if 18 + 20 <= c12.length then (some ([], (s10.set i (C9.box (putAt c12 18 (V6 d11 [])))))) else none) (ob (A8 .eql a (iI 15)) fun d13 => D7 d13 (oc (R.r Cx [(pt i), ((iI 10), .val), ((Q6 b), .val)] s) fun q14 s14 => ob (F5 20 (A7 19 b) (iI 0)) fun d15 => ob (E9 s14 i) fun c16 => if 18 + 20 <= c16.length then (some ([], (s14.set i (C9.box (putAt c16 18 (V6 d15 [])))))) else none) (ob (A8 .eql a (iI 12)) fun d17 =>
 D7 d17 (ob (F5 20 (A7 19 b) (iI 0)) fun d18 => ob (E9 s i) fun c19 => ob (H5 c19 38) fun d20 => og (H6 (A7 3 b)) <| og (H6 (A7 4 b)) <| og (H6 d20) <| oc (R.r Lp [(pt i), ((.agg ((A7 3 b)::(A7 4 b)::(Y9 d18 [d20]))), .val)] s) fun q21 s21 => og (D6 9 q21) <| ob (F5 20 (A7 19 b) (iI 1)) fun d22 => ob (E9 s21 i) fun c23 => ob (H5 c23 38) fun d24 => ob (R.p Nq [d24, (A7 3 b), (.agg (V3 q21 []))]) fun d25 => oc (R.r Cy [(pt i), ((Q6 d22), .val), (d25, .val)] s21) fun q26 s26 => some ([], s26)) (ob (R.p XE [(.agg [(A7 11 b), (A7 12 b), (A7 13 b)]), (.agg [(A7 14 b), (A7 15 b), (A7 16 b)])]) fun d27 =>
 ob (M5 .not d27) fun d28 => D7 d28 (oc (R.r Y2 [(pt i)] s) fun q29 s29 => some ([], s29)) (ob (F5 20 (A7 19 b) (iI 0)) fun d30 => ob (E9 s i) fun c31 => if 18 + 20 <= c31.length then (ob (R.p Et [(.agg [(A7 11 b), (A7 12 b), (A7 13 b)]), (.agg [(A7 14 b), (A7 15 b), (A7 16 b)]), (A7 8 b), (A7 9 b)]) fun d32 => oc (R.r Zh [(pt i), (d32, .val)] (s.set i (C9.box (putAt c31 18 (V6 d30 []))))) fun q33 s33 => some ([], s33)) else none))))))) := E8 [10, 17, 31]
theorem Uf : Vx R i a s =
 (ob (A8 .lss a (iI 0)) fun d1 => D7 d1 (oc (R.r Y2 [(pt i)] s) fun q2 s2 => some ([], s2)) (ob (E9 s i) fun c3 => ob (H5 c3 38) fun d4 => ob (F5 10 d4 a) fun d5 => oc (R.r DU [(pt i), ((.agg (aB d5 [])), .val)] s) fun q6 s6 => some ([], s6))) := E8 [10, 17, 31]
theorem ut : (run cfg).r jU [(.undef, (.ptr i 0))] s = A1R (run cfg) i s := DF (s := GD) Tryz.func42
def A4u := eP Tryz.f43 kD R [] (F4 Tryz.f43 [(a, .val), (b, .val)] [])
def Qr := hP Tryz.f43 kD R (pb 58) (ms 61 [(5, a)] [] [(2, bx b 9), (3, bx c 9)] [])
theorem A2w : A4u R a b =
 (og (D6 9 a) <| og (D6 9 b) <| ob (A8 .neq (A7 0 a) (A7 0 b)) fun d1 => F7 d1 sF (ob (A8 .neq (A7 1 a) (A7 1 b)) fun d2 => F7 d2 sF (ob (A8 .neq (A7 2 a) (A7 2 b)) fun d3 => F7 d3 sF (ob (R.p Ze [(.agg [(A7 3 a), (A7 4 a), (A7 5 a), (A7 6 a), (A7 7 a)]), (.agg [(A7 3 b), (A7 4 b), (A7 5 b), (A7 6 b), (A7 7 b)])]) fun d4 => ob (M5 .not d4) fun d5 => F7 d5 sF (ob (dLen (A7 8 a)) fun d6 => ob (dLen (A7 8 b)) fun d7 => ob (A8 .neq d6 d7) fun d8 => D7 d8 sF (Qr R (iI 0) a b)) none) none) none) none) := E8 []
theorem WQ : Qr R a b c =
 (ob (dLen (A7 8 b)) fun d1 => ob (A8 .lss a d1) fun d2 => D7 d2 (ob (F5 9 (A7 8 b) a) fun d3 => ob (F5 9 (A7 8 c) a) fun d4 => ob (R.p Zi [(R8 d3), (R8 d4)]) fun d5 => ob (M5 .not d5) fun d6 => D7 d6 sF (ob (A8 .add a (iI 1)) fun d7 => Qr R d7 b c)) sT) := I7 []
theorem zU : (run cfg).p Zi [a, b] = A4u (run cfg) a b := N8 Tryz.func43
def A6r := eP Tryz.f44 A5b R [] (F4 Tryz.f44 [(a, .val)] [])
theorem B15 : A6r R a =
 (og (H6 a) <| some (.agg ((iI 2)::(iI 0)::(iI 0)::(.str ⟨#[]⟩)::(.str ⟨#[]⟩)::a::(.str ⟨#[]⟩)::(iI 0)::(wT [(.list 20 [])])))) := E8 []
theorem B0t : (run cfg).p fQ [a] = A6r (run cfg) a := N8 Tryz.func44
def A36 := eP Tryz.f45 A2R R [] (F4 Tryz.f45 [(a, .val), (b, .val), (c, .val), (d, .val)] [])
theorem B0p : A36 R a b c d =
 (og (D6 20 d) <| ob (R.p TI [a]) fun d1 => ob (R.p TI [b]) fun d2 => og (H6 c) <| og (D6 3 d1) <| og (D6 3 d2) <| some (.agg ((iI 16)::(zz9 [(iI 0), c, (.bool false), (.list 1 []), (A7 0 d1), (A7 1 d1), (A7 2 d1), (A7 0 d2), (A7 1 d2), (A7 2 d2), (.list 3 []), (.list 7 []), (.list 20 [(Q6 d)])])))) := E8 []
theorem A8G : (run cfg).p pG [a, b, c, d] = A36 (run cfg) a b c d := N8 Tryz.func45
def A6v := eP Tryz.f46 Uz R [] (F4 Tryz.f46 [(a, .val)] [])
def Tu := hP Tryz.f46 Uz R (pb 122) (ms 168 [(5, a)] [] [(1, bx b 20)] [])
def Qj := hP Tryz.f46 Uz R (pb 250) (ms 168 [(6, a)] [] [(1, bx b 20)] [])
def Qk := hP Tryz.f46 Uz R (pb 506) (ms 168 [(7, a)] [] [(1, bx b 20)] [])
theorem A4Y : A6v R a =
 (og (D6 20 a) <| ob (R.p pQ [(Q6 a)]) fun d1 => ob (J5 0 d1) fun d2 => ob (J5 1 d1) fun d3 => og (D6 20 d2) <| ob (dLen (A7 19 a)) fun d4 => ob (A8 .neq d3 d4) fun d5 => F7 d5 sF (ob (R.p Zc [(Q6 d2), (Q6 a)]) fun d6 => ob (M5 .not d6) fun d7 => D7 d7 sF (Tu R (iI 0) a)) none) := E8 []
theorem YY : Tu R a b =
 (ob (dLen (A7 17 b)) fun d1 => ob (A8 .lss a d1) fun d2 => D7 d2 (ob (F5 3 (A7 17 b) a) fun d3 => ob (R.p Du [(W9 d3)]) fun d4 => ob (M5 .not d4) fun d5 => D7 d5 sF (ob (A8 .add a (iI 1)) fun d6 => Tu R d6 b)) (Qj R (iI 0) b)) := I7 []
theorem WN : Qj R a b =
 (ob (dLen (A7 10 b)) fun d1 => ob (A8 .lss a d1) fun d2 => D7 d2 (ob (F5 1 (A7 10 b) a) fun d3 => og (M4 d3) <| ob (A8 .lss d3 (iI 0)) fun d4 => F7 d4 sF (ob (F5 1 (A7 10 b) a) fun d5 => og (M4 d5) <| ob (A8 .gtr d5 (iI 1048576)) fun d6 => D7 d6 sF (ob (A8 .add a (iI 1)) fun d7 => Qj R d7 b)) none) (Qk R (iI 0) b)) := I7 []
theorem WO : Qk R a b =
 (ob (dLen (A7 18 b)) fun d1 => ob (A8 .lss a d1) fun d2 => D7 d2 (ob (F5 7 (A7 18 b) a) fun d3 => ob (R.p Vp [(IP d3)]) fun d4 => ob (M5 .not d4) fun d5 => D7 d5 sF (ob (A8 .add a (iI 1)) fun d6 => Qk R d6 b)) (ob (A8 .eql (A7 0 b) (iI 1)) fun d7 => D7 d7 (ob (R.p Ic [(A7 3 b)]) fun d8 => some d8) (ob (A8 .eql (A7 0 b) (iI 11)) fun d9 => D7 d9 (ob (R.p Ic [(A7 3 b)]) fun d10 => some d10) (ob (A8 .eql (A7 0 b) (iI 3)) fun d11 => D7 d11 (ob (A8 .eql (A7 5 b) (iI 0)) fun d12 => F7 d12 sT (ob (A8 .eql (A7 5 b) (iI 1)) fun d13 => some d13) none) (ob (A8 .eql (A7 0 b) (iI 4)) fun d14 => D7 d14 (ob (CF (A7 6 b)) fun d15 => ob (A8 .leq d15 (iI 200)) fun d16 => some d16) (ob (A8 .eql (A7 0 b) (iI 7)) fun d17 => D7 d17 (ob (R.p Du [(.agg [(A7 11 b), (A7 12 b), (A7 13 b)])]) fun d18 => some d18) (ob (A8 .eql (A7 0 b) (iI 9)) fun d19 => D7 d19 (ob (R.p Ic [(A7 3 b)]) fun d20 => F7 d20 (ob (R.p Du [(.agg [(A7 11 b), (A7 12 b), (A7 13 b)])]) fun d21 =>
 some d21) sF none) (ob (A8 .eql (A7 0 b) (iI 12)) fun d22 => D7 d22 (ob (R.p Ic [(A7 3 b)]) fun d23 => F7 d23 (ob (R.p Ic [(A7 4 b)]) fun d24 => F7 d24 (ob (R.p Du [(.agg [(A7 11 b), (A7 12 b), (A7 13 b)])]) fun d25 => F7 d25 (ob (R.p Du [(.agg [(A7 14 b), (A7 15 b), (A7 16 b)])]) fun d26 => some d26) sF none) sF none) sF none) (ob (A8 .eql (A7 0 b) (iI 14)) fun d27 => D7 d27 (ob (dLen (A7 18 b)) fun d28 => ob (A8 .gtr d28 (iI 0)) fun d29 => some d29) (ob (A8 .eql (A7 0 b) (iI 15)) fun d30 => D7 d30 (ob (A8 .geq (A7 7 b) (iI 1)) fun d31 => F7 d31 (ob (A8 .leq (A7 7 b) (iI 7)) fun d32 => some d32) sF none) (ob (A8 .eql (A7 0 b) (iI 16)) fun d33 => D7 d33 (ob (A8 .geq (A7 8 b) (iI 0)) fun d34 => F7 d34 (ob (A8 .leq (A7 8 b) (iI 1048576)) fun d35 => F7 d35 (ob (R.p Du [(.agg [(A7 11 b), (A7 12 b), (A7 13 b)])]) fun d36 => F7 d36 (ob (R.p Du [(.agg [(A7 14 b), (A7 15 b), (A7 16 b)])]) fun d37 =>
 some d37) sF none) sF none) sF none) sT))))))))))) := I7 []
theorem A2O : (run cfg).p wW [a] = A6v (run cfg) a := N8 Tryz.func46
def A1A := eP Tryz.f57 zm R [] (F4 Tryz.f57 [(a, .val)] [])
theorem bH : A1A R a =
 (og (D6 3 a) <| ob (R.p jO [(.list 3 [(W9 a)])]) fun d1 => F7 d1 (ob (R.p ZY [(W9 a)]) fun d2 => ob (A8 .leq d2 (iI 60)) fun d3 => some d3) sF none) := E8 []
theorem Yc : (run cfg).p Pg [a] = A1A (run cfg) a := N8 Tryz.func57
def ky := eP Tryz.f58 Ur R [] (F4 Tryz.f58 [(a, .val), (b, .val)] [])
def JV := hP Tryz.f58 Ur R (pb 122) (ms 37 [(1, a), (5, b)] [] [(2, bx c 7)] [])
theorem MP : ky R a b =
 (og (D6 7 a) <| ob (CF (A7 5 a)) fun d1 => ob (A8 .gtr d1 (iI 300)) fun d2 => F7 d2 (some (iI 501)) (ob (CF (A7 3 a)) fun d3 => ob (A8 .gtr d3 (iI 300)) fun d4 => D7 d4 (some (iI 501)) (ob (A8 .add b (iI 1)) fun d5 => JV R d5 (iI 0) a)) none) := E8 []
theorem ND : JV R a b c =
 (ob (dLen (A7 6 c)) fun d1 => ob (A8 .lss b d1) fun d2 => F7 d2 (ob (A8 .leq a (iI 500)) fun d3 => D7 d3 (ob (F5 7 (A7 6 c) b) fun d4 => ob (R.p Nl [(IP d4), a]) fun d5 => ob (A8 .add b (iI 1)) fun d6 => JV R d5 d6 c) (some a)) (some a) none) := I7 []
theorem Kh : (run cfg).p Nl [a, b] = ky (run cfg) a b := N8 Tryz.func58
def gH := eP Tryz.f59 Rk R [] (F4 Tryz.f59 [(a, .val), (b, .val)] [])
def Io := hP Tryz.f59 Rk R (pb 58) (ms 27 [(1, a), (5, b)] [] [(2, bx c 20)] [])
theorem bW : gH R a b =
 (og (D6 20 a) <| ob (A8 .add b (iI 1)) fun d1 => Io R d1 (iI 0) a) := E8 []
theorem Ve : Io R a b c =
 (ob (dLen (A7 19 c)) fun d1 => ob (A8 .lss b d1) fun d2 => F7 d2 (ob (A8 .leq a (iI 1200)) fun d3 => D7 d3 (ob (F5 20 (A7 19 c) b) fun d4 => ob (R.p Lr [(Q6 d4), a]) fun d5 => ob (A8 .add b (iI 1)) fun d6 => Io R d5 d6 c) (some a)) (some a) none) := I7 []
theorem ZK : (run cfg).p Lr [a, b] = gH (run cfg) a b := N8 Tryz.func59
end
end Go.Su

/-
 Equations of the program's functions: by program.
-/
namespace Go.Su
noncomputable section
open Go.Proofs
variable (R : Q8) (i j k l m n : Nat) (a b c d e f g h o p q r t u v w x y z A B C D E F G H I J K L M N O P Q S T U V W X Y Z a1 a2 a3 a4 a5 a6 a7 a8 a9 a10 a11 a12 a13 a14 a15 a16 a17 a18 a19 a20 a21 a22 a23 a24 a25 a26 a27 a28 a29 a30 a31 a32 a33 a34 a35 a36 a37 a38 a39 a40 a41 a42 a43 a44 a45 a46 a47 a48 a49 a50 a51 a52 a53 a54 a55 a56 a57 a58 a59 : DV) (s : List C9)
def ae := eP Tryz.f60 Ja R [] (F4 Tryz.f60 [(a, .val), (b, .val)] [])
def IK := hP Tryz.f60 Ja R (pb 58) (ms 51 [(1, a), (5, b)] [] [(2, bx c 20)] [])
def Ct := hP Tryz.f60 Ja R (pb 122) (ms 51 [(1, a), (6, b)] [] [(2, bx c 20)] [])
theorem ZC : ae R a b =
 (og (D6 20 a) <| ob (R.p FZ [(.agg [(A7 11 a), (A7 12 a), (A7 13 a)]), b]) fun d1 => ob (R.p FZ [(.agg [(A7 14 a), (A7 15 a), (A7 16 a)]), d1]) fun d2 => IK R d2 (iI 0) a) := E8 []
theorem Ui : IK R a b c =
 (ob (dLen (A7 17 c)) fun d1 => ob (A8 .lss b d1) fun d2 => F7 d2 (ob (A8 .leq a (iI 20000)) fun d3 => D7 d3 (ob (F5 3 (A7 17 c) b) fun d4 => ob (R.p FZ [(W9 d4), a]) fun d5 => ob (A8 .add b (iI 1)) fun d6 => IK R d5 d6 c) (Ct R a (iI 0) c)) (Ct R a (iI 0) c) none) := I7 []
theorem Uj : Ct R a b c =
 (ob (dLen (A7 19 c)) fun d1 => ob (A8 .lss b d1) fun d2 => F7 d2 (ob (A8 .leq a (iI 20000)) fun d3 => D7 d3 (ob (F5 20 (A7 19 c) b) fun d4 => ob (R.p KU [(Q6 d4), a]) fun d5 => ob (A8 .add b (iI 1)) fun d6 => Ct R d5 d6 c) (some a)) (some a) none) := I7 []
theorem Xv : (run cfg).p KU [a, b] = ae (run cfg) a b := N8 Tryz.func60
def lI := eP Tryz.f61 VA R [] (F4 Tryz.f61 [(a, .val), (b, .val)] [])
def JZ := hP Tryz.f61 VA R (pb 58) (ms 27 [(1, a), (5, b)] [] [(2, bx c 9)] [])
theorem iC : lI R a b =
 (og (D6 9 a) <| ob (A8 .add b (iI 1)) fun d1 => JZ R d1 (iI 0) a) := E8 []
theorem Xq : JZ R a b c =
 (ob (dLen (A7 8 c)) fun d1 => ob (A8 .lss b d1) fun d2 => F7 d2 (ob (A8 .leq a (iI 1200)) fun d3 => D7 d3 (ob (F5 9 (A7 8 c) b) fun d4 => ob (R.p Nr [(R8 d4), a]) fun d5 => ob (A8 .add b (iI 1)) fun d6 => JZ R d5 d6 c) (some a)) (some a) none) := I7 []
theorem cK : (run cfg).p Nr [a, b] = lI (run cfg) a b := N8 Tryz.func61
def xP := eP Tryz.f62 Yh R [] (F4 Tryz.f62 [(a, .val)] [])
def MM := hP Tryz.f62 Yh R (pb 58) (ms 19 [(9, a), (10, b), (11, c)] [] [] [])
theorem uF : xP R a =
 (og (D6 20 a) <| ob (R.p pR [(Q6 a)]) fun d1 => ob (M5 .not d1) fun d2 => D7 d2 sF (ob (dLen (A7 19 a)) fun d3 => MM R (A7 19 a) d3 (iI 0))) := E8 []
theorem Re : MM R a b c =
 (ob (A8 .lss c b) fun d1 => D7 d1 (ob (F5 20 a c) fun d2 => ob (R.p TP [(Q6 d2)]) fun d3 => ob (M5 .not d3) fun d4 => D7 d4 sF (ob (A8 .add c (iI 1)) fun d5 => MM R a b d5)) sT) := I7 []
theorem nS : (run cfg).p TP [a] = xP (run cfg) a := N8 Tryz.func62
def aY := eP Tryz.f63 PW R [] (F4 Tryz.f63 [(a, .val)] [])
def IJ (R : Q8) (t10r3 : Nat) (t11 t12 b1_0 b1_1 : DV) (b1_2r3 : Nat) (sg : List C9) : Option DV := hP Tryz.f63 PW R (pb 58) (ms 25 [(11, t11), (12, t12)] [(10, (.arr 0 3 0 t10r3))] [(1, some [(b1_0, .val), (b1_1, .val), (.undef, (.arr 0 3 0 b1_2r3))]), (2, some zb3)] sg)
theorem Yz : aY R a =
 (og (D6 3 a) <| ob (qB (A7 2 a)) fun p1 => og (true && p1.1 == 3 && decide (p1.2.length <= lim)) <| IJ R (p1.2.length) (.int .i64 p1.2.length) (iI 0) (A7 0 a) (A7 1 a) (p1.2.length) [.arr 3 p1.2]) := E8 []
theorem Kg (R : Q8) (t10r3 : Nat) (t11 t12 b1_0 b1_1 : DV) (b1_2r3 : Nat) (sg : List C9) : IJ R t10r3 t11 t12 b1_0 b1_1 b1_2r3 sg =
 (ob (A8 .lss t12 t11) fun d1 => D7 d1 (ob (AF 0 t10r3 t12) fun n2 => ob (DX sg 0) fun r3 => ob (r3.2[n2]?) fun d4 => og (r3.1 == 3) <| ob (R.p Ha [(W9 d4)]) fun d5 => ob (AF 0 b1_2r3 t12) fun n6 => ob (DX sg 0) fun r7 => ob (r7.2[n6]?) fun u8 => og (D6 3 d5) <| og (r7.1 == 3) <| ob (A8 .add t12 (iI 1)) fun d9 => IJ R t10r3 t11 d9 b1_0 b1_1 b1_2r3 (sg.set 0 (.arr 3 (r7.2.set n6 d5)))) (A3T [ob (Y4 sg [(b1_0, .val), (b1_1, .val), (.undef, (.arr 0 3 0 b1_2r3))]) fun ds => some (.agg ds)])) := I7 []
theorem Xt : (run cfg).p Ha [a] = aY (run cfg) a := N8 Tryz.func63
def f_ := eP Tryz.f66 Rh R [] (F4 Tryz.f66 [(a, .val)] [])
def Il (R : Q8) (t10r3 : Nat) (t11 t12 b1_0 b1_1 b1_2 b1_3 b1_4 b1_5 : DV) (b1_6r3 : Nat) (sg : List C9) : Option DV := hP Tryz.f66 Rh R (pb 58) (ms 25 [(11, t11), (12, t12)] [(10, (.arr 0 7 0 t10r3))] [(1, some [(b1_0, .val), (b1_1, .val), (b1_2, .val), (b1_3, .val), (b1_4, .val), (b1_5, .val), (.undef, (.arr 0 7 0 b1_6r3))]), (2, bv [(iI 0), (iI 0), (iI 0), (.str ⟨#[]⟩), (iI 0), (.str ⟨#[]⟩), (.list 7 [])])] sg)
theorem bJ : f_ R a =
 (og (D6 7 a) <| ob (qB (A7 6 a)) fun p1 => og (true && p1.1 == 7 && decide (p1.2.length <= lim)) <| Il R (p1.2.length) (.int .i64 p1.2.length) (iI 0) (A7 0 a) (A7 1 a) (A7 2 a) (A7 3 a) (A7 4 a) (A7 5 a) (p1.2.length) [.arr 7 p1.2]) := E8 []
theorem Ll (R : Q8) (t10r3 : Nat) (t11 t12 b1_0 b1_1 b1_2 b1_3 b1_4 b1_5 : DV) (b1_6r3 : Nat) (sg : List C9) : Il R t10r3 t11 t12 b1_0 b1_1 b1_2 b1_3 b1_4 b1_5 b1_6r3 sg =
 (ob (A8 .lss t12 t11) fun d1 => D7 d1 (ob (AF 0 t10r3 t12) fun n2 => ob (DX sg 0) fun r3 => ob (r3.2[n2]?) fun d4 => og (r3.1 == 7) <| ob (R.p Lm [(IP d4)]) fun d5 => ob (AF 0 b1_6r3 t12) fun n6 => ob (DX sg 0) fun r7 => ob (r7.2[n6]?) fun u8 => og (D6 7 d5) <| og (r7.1 == 7) <| ob (A8 .add t12 (iI 1)) fun d9 => Il R t10r3 t11 d9 b1_0 b1_1 b1_2 b1_3 b1_4 b1_5 b1_6r3 (sg.set 0 (.arr 7 (r7.2.set n6 d5)))) (A3T [ob (Y4 sg [(b1_0, .val), (b1_1, .val), (b1_2, .val), (b1_3, .val), (b1_4, .val), (b1_5, .val), (.undef, (.arr 0 7 0 b1_6r3))]) fun ds => some (.agg ds)])) := I7 []
theorem ZG : (run cfg).p Lm [a] = f_ (run cfg) a := N8 Tryz.func66
def BC := eR Tryz.f67 U0 Z6 R [] (F4 Tryz.f67 [(a, .val), (b, .val), (.undef, (.fn 34 []))] s)
def R9 := hR Tryz.f67 U0 Z6 R (pb 58) (ms 32 [(1, a), (15, b), (16, c), (17, d)] [(2, (.fn 34 []))] [] s)
theorem Ay : BC R a b s =
 (ob (dLen a) fun d1 => ob (dLen b) fun d2 => ob (A8 .neq d1 d2) fun d3 => D7 d3 (some ([(.bool false)], s)) (ob (dLen a) fun d4 => R9 R b a d4 (iI 0) s)) := E8 []
theorem Y7 : R9 R a b c d s =
 (ob (A8 .lss d c) fun d1 => D7 d1 (ob (F5 5 b d) fun d2 => ob (F5 5 a d) fun d3 => ob (R.p Pf [(P6 d2), (P6 d3)]) fun d4 => ob (M5 .not d4) fun d5 => D7 d5 (some ([(.bool false)], s)) (ob (A8 .add d (iI 1)) fun d6 => R9 R a b c d6 s)) (some ([(.bool true)], s))) := I7 []
theorem Au : (run cfg).r BA [(a, .val), (b, .val), (.undef, (.fn 34 []))] s = BC (run cfg) a b s := DF (s := U0) Tryz.func67
def Bd := eR Tryz.f68 V8 w9 R [] (F4 Tryz.f68 [(a, .val), (b, .val), (.undef, (.fn 36 []))] s)
def V5 := hR Tryz.f68 V8 w9 R (pb 58) (ms 32 [(1, a), (15, b), (16, c), (17, d)] [(2, (.fn 36 []))] [] s)
theorem Bb : Bd R a b s =
 (ob (dLen a) fun d1 => ob (dLen b) fun d2 => ob (A8 .neq d1 d2) fun d3 => D7 d3 (some ([(.bool false)], s)) (ob (dLen a) fun d4 => V5 R b a d4 (iI 0) s)) := E8 []
theorem Z7 : V5 R a b c d s =
 (ob (A8 .lss d c) fun d1 => D7 d1 (ob (F5 9 b d) fun d2 => ob (F5 9 a d) fun d3 => ob (R.p TW [(R8 d2), (R8 d3)]) fun d4 => ob (M5 .not d4) fun d5 => D7 d5 (some ([(.bool false)], s)) (ob (A8 .add d (iI 1)) fun d6 => V5 R a b c d6 s)) (some ([(.bool true)], s))) := I7 []
theorem BN : (run cfg).r Bc [(a, .val), (b, .val), (.undef, (.fn 36 []))] s = Bd (run cfg) a b s := DF (s := V8) Tryz.func68
def A6y := eP Tryz.f69 Ki R [] (F4 Tryz.f69 [(a, .val)] [])
def XM := eP Tryz.f69 Ki R (pb 26) (ms 93 [] [] [(2, some TC), (3, some TC), (4, some pE)] [])
def XN := eP Tryz.f69 Ki R (pb 7) (ms 93 [] [] [(1, bx a 9), (2, some TC), (3, some TC), (4, some pE)] [])
def UA := hP Tryz.f69 Ki R (pb 1966) (ms 93 [(59, (iI 0))] [] [(2, some TC), (3, some TC), (4, some pE), (6, bv [a, b, c, d, e, f, g, h, o, p, q, r, t, u, v, w, x, y]), (7, bv [z, A, B, C, D, E, F, G, H, I])] [])
def sI := hP Tryz.f69 Ki R (pb 1966) (ms 93 [(59, (iI 1))] [] [(2, some TC), (3, some TC), (4, some pE), (6, bv [a, b, c, d, e, f, g, h, o, p, q, r, t, u, v, w, x, y]), (7, bv [z, A, B, C, D, E, F, G, H, I])] [])
def sJ := hP Tryz.f69 Ki R (pb 1966) (ms 93 [(59, (iI 2))] [] [(2, some TC), (3, some TC), (4, some pE), (6, bv [a, b, c, d, e, f, g, h, o, p, q, r, t, u, v, w, x, y]), (7, bv [z, A, B, C, D, E, F, G, H, I])] [])
theorem A40 : A6y R a =
 (og (D6 9 a) <| ob (A8 .neq (A7 0 a) (iI 5)) fun d1 => F7 d1 (ob (A8 .neq (A7 0 a) (iI 7)) fun d2 => F7 d2 (XM R) (ob (A8 .eql (A7 3 a) (iI 5)) fun d3 => D7 d3 (XM R) (XN R a)) none) (ob (A8 .eql (A7 3 a) (iI 5)) fun d4 => D7 d4 (XM R) (XN R a)) none) := E8 [2, 3]
theorem yg : XM R =
 (some (.H7 [(.agg (P9 [])), (.agg (P9 [])), (.agg ((iI 0)::(P9 (Bz [])))), (iI 8)])) := E8 [2, 3]
theorem yh : XN R a =
 (ob (F5 9 (A7 8 a) (iI 0)) fun d1 => ob (F5 9 (A7 8 a) (iI 1)) fun d2 => ob (R.p TY [(.agg [(A7 3 a), (A7 4 a), (A7 5 a), (A7 6 a), (A7 7 a)])]) fun d3 => ob (M5 .not d3) fun d4 => D7 d4 (ob (F5 5 (A7 7 a) (iI 0)) fun d5 => ob (A8 .eql (A7 0 a) (iI 5)) fun d6 => D7 d6 (ob (F5 5 (A7 7 a) (iI 1)) fun d7 => UA R (A7 0 d1) (A7 1 d1) (A7 2 d1) (A7 3 d1) (A7 4 d1) (A7 5 d1) (A7 6 d1) (A7 7 d1) (A7 8 d1) (A7 0 d2) (A7 1 d2) (A7 2 d2) (A7 3 d2) (A7 4 d2) (A7 5 d2) (A7 6 d2) (A7 7 d2) (A7 8 d2) (A7 0 d5) (A7 1 d5) (A7 2 d5) (A7 3 d5) (A7 4 d5) (A7 0 d7) (A7 1 d7) (A7 2 d7) (A7 3 d7) (A7 4 d7)) (UA R (A7 0 d1) (A7 1 d1) (A7 2 d1) (A7 3 d1) (A7 4 d1) (A7 5 d1) (A7 6 d1) (A7 7 d1) (A7 8 d1) (A7 0 d2) (A7 1 d2) (A7 2 d2) (A7 3 d2) (A7 4 d2) (A7 5 d2) (A7 6 d2) (A7 7 d2) (A7 8 d2) (A7 0 d5) (A7 1 d5) (A7 2 d5) (A7 3 d5) (A7 4 d5) (A7 3 a) (A7 4 a) (A7 5 a) (A7 6 a) (A7 7 a))) (some (.H7 [(R8 d1), (R8 d2), (.agg ((iI 0)::(P9 (Bz [])))), (iI 0)]))) := E8 [2, 3]
theorem uL : UA R a b c d e f g h o p q r t u v w x y z A B C D E F G H I =
 (ob (R.p Mm [(.agg [a, b, c, d, e, f, g, h, o]), (.agg [z, A, B, C, D])]) fun d1 => ob (J5 0 d1) fun d2 => ob (J5 1 d1) fun d3 => ob (J5 2 d1) fun d4 => og (D6 9 d2) <| og (D6 15 d3) <| ob (A8 .neq d4 (iI 0)) fun d5 => F7 d5 (some (.H7 [(.agg (P9 [])), (.agg (P9 [])), (EU d3), d4])) (ob (A8 .neq (A7 0 d3) (iI 0)) fun d6 => D7 d6 (some (.H7 [(.agg (P9 [])), (.agg (P9 [])), (EU d3), d4])) (sI R (A7 0 d2) (A7 1 d2) (A7 2 d2) (A7 3 d2) (A7 4 d2) (A7 5 d2) (A7 6 d2) (A7 7 d2) (A7 8 d2) p q r t u v w x y z A B C D E F G H I)) none) := I7 [2, 3]
theorem mf : sI R a b c d e f g h o p q r t u v w x y z A B C D E F G H I =
 (ob (R.p Mm [(.agg [p, q, r, t, u, v, w, x, y]), (.agg [E, F, G, H, I])]) fun d1 => ob (J5 0 d1) fun d2 => ob (J5 1 d1) fun d3 => ob (J5 2 d1) fun d4 => og (D6 9 d2) <| og (D6 15 d3) <| ob (A8 .neq d4 (iI 0)) fun d5 => F7 d5 (some (.H7 [(.agg (P9 [])), (.agg (P9 [])), (EU d3), d4])) (ob (A8 .neq (A7 0 d3) (iI 0)) fun d6 => D7 d6 (some (.H7 [(.agg (P9 [])), (.agg (P9 [])), (EU d3), d4])) (sJ R a b c d e f g h o (A7 0 d2) (A7 1 d2) (A7 2 d2) (A7 3 d2) (A7 4 d2) (A7 5 d2) (A7 6 d2) (A7 7 d2) (A7 8 d2) z A B C D E F G H I)) none) := I7 [2, 3]
theorem mg : sJ R a b c d e f g h o p q r t u v w x y z A B C D E F G H I =
 (some (.H7 [(.agg [a, b, c, d, e, f, g, h, o]), (.agg [p, q, r, t, u, v, w, x, y]), (.agg ((iI 0)::(P9 (Bz [])))), (iI 0)])) := I7 [2, 3]
theorem A2Q : (run cfg).p fV [a] = A6y (run cfg) a := N8 Tryz.func69
def Tn := eR Tryz.f70 JP Sk R [] (F4 Tryz.f70 [(pt i)] s)
theorem SN : Tn R i s =
 (oc (R.r Y1 [(pt i), ((.agg ((iI 6)::(P9 (Bz [])))), .val)] s) fun q1 s1 => some ([], s1)) := E8 []
theorem QI : (run cfg).r O6 [(.undef, (.ptr i 0))] s = Tn (run cfg) i s := DF (s := JP) Tryz.func70
def A1E := eP Tryz.f71 dF R [] (F4 Tryz.f71 [(a, .val)] [])
def Qc := eP Tryz.f71 dF R (pb 122) (ms 39 [(0, a)] [] [(2, some TC), (4, bx b 9)] [])
theorem bL : A1E R a =
 (ob (F5 9 a (iI 0)) fun d1 => ob (Ak 9 a (some (iI 1)) none) fun d2 => ob (A8 .eql (A7 0 d1) (iI 5)) fun d3 => F7 d3 (Qc R d2 d1) (ob (A8 .eql (A7 0 d1) (iI 7)) fun d4 => D7 d4 (Qc R d2 d1) (some (.H7 [(R8 d1), d2]))) none) := E8 [4]
theorem mE : Qc R a b =
 (ob (R.p Ph [a]) fun d1 => ob (J5 0 d1) fun d2 => ob (J5 1 d1) fun d3 => og (D6 9 d2) <| ob (R.p Ph [d3]) fun d4 => ob (J5 0 d4) fun d5 => ob (J5 1 d4) fun d6 => og (D6 9 d5) <| some (.H7 [(.agg [(A7 0 b), (A7 1 b), (A7 2 b), (A7 3 b), (A7 4 b), (A7 5 b), (A7 6 b), (A7 7 b), (.list 9 [(R8 d2), (R8 d5)])]), d6])) := E8 [4]
theorem Yd : (run cfg).p Ph [a] = A1E (run cfg) a := N8 Tryz.func71
def Tf := eR Tryz.f72 JN Si R [] (F4 Tryz.f72 [(pt i), (a, .val)] s)
theorem SI : Tf R i a s =
 (og (D6 9 a) <| ob (E9 s i) fun c1 => if 21 + 9 <= c1.length then (ob (E9 (s.set i (C9.box (putAt c1 21 (X3 a [])))) i) fun c2 => ob (c2[30]?) fun u3 => some ([], ((s.set i (C9.box (putAt c1 21 (X3 a [])))).set i (C9.box (c2.set 30 ((.bool true), .val)))))) else none) := E8 []
theorem QF : (run cfg).r Y5 [(.undef, (.ptr i 0)), (a, .val)] s = Tf (run cfg) i a s := DF (s := JN) Tryz.func72
def Tg := eR Tryz.f73 JO Sj R [] (F4 Tryz.f73 [(pt i), (a, .val)] s)
theorem SK : Tg R i a s =
 (og (D6 24 a) <| ob (E9 s i) fun c1 => ob (X9 c1 32) fun d2 => ob (AQ 24 d2 (.list 24 [(.agg (B37 a []))])) fun d3 => ob (E9 (s.set i (C9.box (c1.set 32 (d2, .val)))) i) fun c4 => ob (c4[32]?) fun u5 => ob (E9 ((s.set i (C9.box (c1.set 32 (d2, .val)))).set i (C9.box (c4.set 32 (d3, .own)))) i) fun c6 => ob (H5 c6 32) fun d7 => ob (dLen d7) fun d8 => ob (A8 .sub d8 (iI 1)) fun d9 => og (H6 d9) <| some ([(.agg ((iI 8)::d9::(.str ⟨#[]⟩)::(Ab [(.list 9 [])])))], ((s.set i (C9.box (c1.set 32 (d2, .val)))).set i (C9.box (c4.set 32 (d3, .own)))))) := E8 []
theorem QG : (run cfg).r Dx [(.undef, (.ptr i 0)), (a, .val)] s = Tg (run cfg) i a s := DF (s := JO) Tryz.func73
def VV := eR Tryz.f74 KJ Uv R [] (F4 Tryz.f74 [(pt i), (a, .val)] s)
theorem UT : VV R i a s =
 (og (D6 57 a) <| ob (E9 s i) fun c1 => ob (CG s i 31 c1 57) fun v2 => ob (AX v2.1 v2.2.1 v2.2.2.1) fun a3 => og (a3.1 == 57 && true && decide (v2.2.2.2 <= a3.2.length)) <| ob (Kb 57 (.list 57 (a3.2.take v2.2.2.2)) (.list 57 [(.agg (YI a []))])) fun p4 => ob (E9 (v2.1.set v2.2.1 (C9.M6 (v2.2.2.1 + 1) 57 (p4.1 ++ p4.2))) i) fun c5 => ob (c5[31]?) fun u6 => some ([], ((v2.1.set v2.2.1 (C9.M6 (v2.2.2.1 + 1) 57 (p4.1 ++ p4.2))).set i (C9.box (c5.set 31 (.undef, (.M6 v2.2.1 (v2.2.2.1 + 1) 57 (p4.1.length + p4.2.length)))))))) := E8 []
theorem SY : (run cfg).r R6 [(.undef, (.ptr i 0)), (a, .val)] s = VV (run cfg) i a s := DF (s := KJ) Tryz.func74
def VU := eR Tryz.f75 KI Uu R [] (F4 Tryz.f75 [(pt i), (a, .val), (b, .val)] s)
theorem UR : VU R i a b s =
 (og (D6 20 a) <| ob (E9 s i) fun c1 => if 0 + 20 <= c1.length then (ob (E9 (s.set i (C9.box (putAt c1 0 (V6 a [])))) i) fun c2 => og (H6 b) <| ob (c2[20]?) fun u3 => ob (E9 ((s.set i (C9.box (putAt c1 0 (V6 a [])))).set i (C9.box (c2.set 20 (b, .val)))) i) fun c4 => ob (c4[30]?) fun u5 => some ([], (((s.set i (C9.box (putAt c1 0 (V6 a [])))).set i (C9.box (c2.set 20 (b, .val)))).set i (C9.box (c4.set 30 ((.bool false), .val)))))) else none) := E8 []
theorem SX : (run cfg).r O0 [(.undef, (.ptr i 0)), (a, .val), (b, .val)] s = VU (run cfg) i a b s := DF (s := KI) Tryz.func75
def gB := eP Tryz.f76 dE R [] (F4 Tryz.f76 [(a, .val), (b, .val), (c, .val)] [])
theorem bK : gB R a b c =
 (og (D6 9 c) <| og (H6 b) <| og (H6 a) <| some (.Hz 11 (.agg (b::(V3 c [a]))))) := E8 []
theorem ZH : (run cfg).p Dy [a, b, c] = gB (run cfg) a b c := N8 Tryz.func76
end
end Go.Su

/-
 Equations of the program's functions: by program.
-/
namespace Go.Su
set_option maxRecDepth 100000
noncomputable section
open Go.Proofs
variable (R : Q8) (i j k l m n : Nat) (a b c d e f g h o p q r t u v w x y z A B C D E F G H I J K L M N O P Q S T U V W X Y Z a1 a2 a3 a4 a5 a6 a7 a8 a9 a10 a11 a12 a13 a14 a15 a16 a17 a18 a19 a20 a21 a22 a23 a24 a25 a26 a27 a28 a29 a30 a31 a32 a33 a34 a35 a36 a37 a38 a39 a40 a41 a42 a43 a44 a45 a46 a47 a48 a49 a50 a51 a52 a53 a54 a55 a56 a57 a58 a59 : DV) (s : List C9)
def xR := eP Tryz.f77 vY R [] (F4 Tryz.f77 [(a, .val), (b, .val), (c, .val), (d, .val)] [])
theorem uH : xR R a b c d =
 (og (D6 3 a) <| og (D6 3 b) <| ob (R.p Eu [(W9 a)]) fun d1 => ob (A8 .neq d1 (iI 0)) fun d2 => F7 d2 (some (.H7 [(.agg (Ab [])), (iI 1)])) (ob (R.p Eu [(W9 b)]) fun d3 => ob (A8 .neq d3 (iI 0)) fun d4 => F7 d4 (some (.H7 [(.agg (Ab [])), (iI 1)])) (ob (A8 .lss c (iI 0)) fun d5 => F7 d5 (some (.H7 [(.agg (Ab [])), (iI 1)])) (ob (A8 .gtr c (iI 1048576)) fun d6 => D7 d6 (some (.H7 [(.agg (Ab [])), (iI 1)])) (ob (R.p YL [(W9 a), (W9 b)]) fun d7 => ob (M5 .not d7) fun d8 => D7 d8 (some (.H7 [(.agg (Ab [])), (iI 4)])) (ob (R.p C_ [(W9 a), (W9 b), c, d]) fun d9 => og (D6 5 d9) <| some (.H7 [(P6 d9), (iI 0)])))) none) none) none) := E8 []
theorem nU : (run cfg).p aU [a, b, c, d] = xR (run cfg) a b c d := N8 Tryz.func77
def Xc := eR Tryz.f78 Kq Vj R [] (F4 Tryz.f78 [(pt i), (a, .val)] s)
theorem Vd : Xc R i a s =
 (og (D6 5 a) <| ob (A8 .eql (A7 0 a) (iI 1)) fun d1 => D7 d1 (some ([], s)) (ob (E9 s i) fun c2 => ob (CG s i 31 c2 57) fun v3 => ob (VQ v3.2.2.2) fun d4 => ob (A8 .sub d4 (iI 1)) fun d5 => ob (A8 .lss d5 (iI 0)) fun d6 => F7 d6 (oc (R.r R6 [(pt i), ((.agg ((iI 12)::(iI 0)::(Mh ((iI 0)::(Mh ((.str ⟨#[]⟩)::.B_::(P9 [(A7 0 a), (A7 1 a), (A7 2 a), (A7 3 a), (A7 4 a)]))))))), .val)] v3.1) fun q7 s7 => some ([], s7)) (ob (E9 v3.1 i) fun c8 =>
 ob (CG v3.1 i 31 c8 57) fun v9 => ob (AF 0 v9.2.2.2 d5) fun n10 => ob (AX v9.1 v9.2.1 v9.2.2.1) fun a11 => ob (a11.2[n10]?) fun d12 => og (a11.1 == 57) <| ob (A8 .neq (A7 0 d12) (iI 12)) fun d13 => D7 d13 (oc (R.r R6 [(pt i), ((.agg ((iI 12)::(iI 0)::(Mh ((iI 0)::(Mh ((.str ⟨#[]⟩)::.B_::(P9 [(A7 0 a), (A7 1 a), (A7 2 a), (A7 3 a), (A7 4 a)]))))))), .val)] v9.1) fun q14 s14 => some ([], s14)) (ob (E9 v9.1 i) fun c15 => ob (CG v9.1 i 31 c15 57) fun v16 =>
 ob (AF 0 v16.2.2.2 d5) fun n17 => ob (AX v16.1 v16.2.1 v16.2.2.1) fun a18 => ob (a18.2[n17]?) fun d19 => og (a18.1 == 57) <| ob (R.p Wz [(P6 a), (.agg (oN d19 []))]) fun d20 => ob (J5 0 d20) fun d21 => ob (J5 1 d20) fun d22 => og (D6 5 d21) <| ob (A8 .neq d22 (iI 0)) fun d23 => D7 d23 (oc (R.r O6 [(pt i)] v16.1) fun q24 s24 => some ([], s24)) (ob (A8 .eql (A7 0 d21) (iI 1)) fun d25 => D7 d25 (ob (E9 v16.1 i) fun c26 => ob (CG v16.1 i 31 c26 57) fun v27 => ob (bnd v27.2.2.2 (some d5)) fun n28 => if n28 <= v27.2.2.2 then (ob (E9 v27.1 i) fun c29 => ob (c29[31]?) fun u30 => some ([], (v27.1.set i (C9.box (c29.set 31 (.undef, (.M6 v27.2.1 v27.2.2.1 57 n28))))))) else none) (ob (E9 v16.1 i) fun c31 => ob (CG v16.1 i 31 c31 57) fun v32 => ob (AF 0 v32.2.2.2 d5) fun n33 => ob (AX v32.1 v32.2.1 v32.2.2.1) fun a34 => ob (a34.2[n33]?) fun d35 => og (a34.1 == 57) <| ob (IZ 57 52 d35 [((A7 0 d21), .val), ((A7 1 d21), .val), ((A7 2 d21), .val), ((A7 3 d21), .val), ((A7 4 d21), .val)]) fun e36 => some ([], (v32.1.set v32.2.1 (C9.M6 v32.2.2.1 57 (a34.2.set n33 e36)))))))) none)) := E8 []
theorem Un : (run cfg).r Ib [(.undef, (.ptr i 0)), (a, .val)] s = Xc (run cfg) i a s := DF (s := Kq) Tryz.func78
def VY := eR Tryz.f79 KL Uw R [] (F4 Tryz.f79 [(pt i), (a, .val), (b, .val), (c, .val)] s)
theorem UW : VY R i a b c s =
 (og (D6 57 b) <| og (D6 20 c) <| ob (E9 s i) fun c1 => ob (O8 21 9 c1) fun e2 => og (H6 a) <| og (D6 9 (.agg e2)) <| oc (R.r R6 [(pt i), ((.agg (a::(JA b ((iI 0)::(Mh ((.str ⟨#[]⟩)::.B_::(V3 (.agg e2) (Ab [])))))))), .val)] s) fun q3 s3 => oc (R.r O0 [(pt i), ((Q6 c), .val), ((A7 42 b), .val)] s3) fun q4 s4 => some ([], s4)) := E8 []
theorem Sc : (run cfg).r Cs [(.undef, (.ptr i 0)), (a, .val), (b, .val), (c, .val)] s = VY (run cfg) i a b c s := DF (s := KL) Tryz.func79
def VS := eR Tryz.f80 Dn Gb R [] (F4 Tryz.f80 [(pt i), (a, .val)] s)
def Ev := eR Tryz.f80 Dn Gb R (pb 31) (ms 90 [] [(0, (.ptr i 0))] [(3, bv [a, b, c, d, e, f, g, h, o]), (4, bx p 9)] s)
def Ew := eR Tryz.f80 Dn Gb R (pb 255) (ms 90 [(8, a)] [(0, (.ptr i 0))] [(4, bx b 9), (7, bx c 24)] s)
theorem UO : VS R i a s =
 (og (D6 9 a) <| ob (E9 s i) fun c1 => ob (O8 21 9 c1) fun e2 => og (D6 9 (.agg e2)) <| ob (A8 .neq (A7 0 a) (iI 8)) fun d3 => F7 d3 (oc (R.r O6 [(pt i)] s) fun q4 s4 => some ([], s4)) (ob (E9 s i) fun c5 => ob (H5 c5 32) fun d6 => ob (dLen d6) fun d7 => ob (A8 .geq (A7 1 a) d7) fun d8 => D7 d8 (oc (R.r O6 [(pt i)] s) fun q9 s9 => some ([], s9)) (ob (R.p Hd [(R8 a)]) fun d10 => ob (M5 .not d10) fun d11 => D7 d11 (ob (A8 .neq (A7 3 a) (iI 2)) fun d12 => D7 d12 (oc (R.r O6 [(pt i)] s) fun q13 s13 => some ([], s13)) (ob (F5 5 (A7 7 a) (iI 0)) fun d14 => ob (R.r Eb [(pt i), ((.agg (V3 (.agg e2) [])), .val), ((P6 d14), .val)] s) fun q15 => ob (J5 0 (.H7 q15.1)) fun d16 => ob (J5 1 (.H7 q15.1)) fun d17 => og (D6 9 d16) <| ob (M5 .not d17) fun d18 => D7 d18 (some ([], q15.2)) (ob (F5 5 (A7 7 a) (iI 1)) fun d19 =>
 oc (R.r Ib [(pt i), ((P6 d19), .val)] q15.2) fun q20 s20 => ob (E9 s20 i) fun c21 => ob (H5 c21 35) fun d22 => D7 d22 (some ([], s20)) (Ev R i (A7 0 a) (A7 1 a) (A7 2 a) (iI 0) (iI 0) (iI 0) (.bool false) (.list 5 []) (A7 8 a) d16 s20)))) (Ev R i (A7 0 a) (A7 1 a) (A7 2 a) (A7 3 a) (A7 4 a) (A7 5 a) (A7 6 a) (A7 7 a) (A7 8 a) (.agg e2) s))) none) := E8 [13, 17]
theorem Ov : Ev R i a b c d e f g h o p s =
 (ob (E9 s i) fun c1 => ob (H5 c1 32) fun d2 => ob (F5 24 d2 b) fun d3 => D7 (A7 2 d3) (ob (R.p Dy [(A7 23 d3), (A7 1 d3), (.agg [a, b, c, d, e, f, g, h, o])]) fun d4 => Ew R i d4 p d3 s) (Ew R i (A7 23 d3) p d3 s)) := E8 [13, 17]
theorem Ow : Ew R i a b c s =
 (ob (R.p Dy [a, (A7 0 c), (R8 b)]) fun d1 => oc (R.r O0 [(pt i), ((.agg (B4a c [])), .val), (d1, .val)] s) fun q2 s2 => some ([], s2)) := E8 [13, 17]
theorem SS : (run cfg).r Li [(.undef, (.ptr i 0)), (a, .val)] s = VS (run cfg) i a s := DF (s := Dn) Tryz.func80
def ww := eP Tryz.f81 vM R [] (F4 Tryz.f81 [(a, .val)] [])
theorem sW : ww R a =
 (og (D6 9 a) <| ob (A8 .eql (A7 3 a) (iI 0)) fun d1 => some d1) := E8 []
theorem m_ : (run cfg).p Hd [a] = ww (run cfg) a := N8 Tryz.func81
def kz := eP Tryz.f82 MW R [] (F4 Tryz.f82 [(a, .val), (b, .val), (c, .val)] [])
def RI := eP Tryz.f82 MW R (pb 31) (ms 106 [(9, a)] [] [(3, bx b 20), (4, bx c 9), (5, bx d 9), (6, some TC), (7, some pE), (8, bv ((iI 6)::(P9 (Bz []))))] [])
def Yw := eP Tryz.f82 MW R (pb 16303) (ms 106 [(39, a)] [] [(3, bx b 20), (4, bx c 9), (5, bx d 9), (6, some TC), (7, some pE), (10, bv ((iI 1)::(iI 0)::(.str ⟨#[]⟩)::(Ab [(.list 9 [])])))] [])
theorem gZ : kz R a b c =
 (og (D6 20 a) <| og (D6 9 b) <| og (D6 9 c) <| ob (A8 .eql (A7 7 a) (iI 7)) fun d1 => D7 d1 (RI R (iI 3) a b c) (RI R (iI 1) a b c)) := E8 [5, 14]
theorem Y_ : RI R a b c d =
 (ob (A8 .neq (A7 0 c) a) fun d1 => F7 d1 (some (.H7 [(.agg (P9 [])), (.agg ((iI 6)::(P9 (Bz []))))])) (ob (A8 .neq (A7 0 d) a) fun d2 => F7 d2 (some (.H7 [(.agg (P9 [])), (.agg ((iI 6)::(P9 (Bz []))))])) (ob (R.p Hd [(R8 c)]) fun d3 => ob (M5 .not d3) fun d4 => F7 d4 (some (.H7 [(.agg (P9 [])), (.agg ((iI 6)::(P9 (Bz []))))])) (ob (R.p Hd [(R8 d)]) fun d5 =>
 ob (M5 .not d5) fun d6 => D7 d6 (some (.H7 [(.agg (P9 [])), (.agg ((iI 6)::(P9 (Bz []))))])) (ob (A8 .eql (A7 7 b) (iI 1)) fun d7 => D7 d7 (ob (A8 .add (A7 1 c) (A7 1 d)) fun d8 => og (H6 d8) <| some (.H7 [(.agg ((iI 1)::d8::(.str ⟨#[]⟩)::(Ab [(.list 9 [])]))), (.agg ((iI 0)::(P9 (Bz []))))])) (ob (A8 .eql (A7 7 b) (iI 2)) fun d9 => D7 d9 (ob (A8 .sub (A7 1 c) (A7 1 d)) fun d10 => og (H6 d10) <| some (.H7 [(.agg ((iI 1)::d10::(.str ⟨#[]⟩)::(Ab [(.list 9 [])]))), (.agg ((iI 0)::(P9 (Bz []))))])) (Yw R (A7 7 b) b c d)))) none) none) none) := E8 [5, 14]
theorem Xo : Yw R a b c d =
 (ob (A8 .eql a (iI 3)) fun d1 => D7 d1 (ob (A8 .mul (A7 1 c) (A7 1 d)) fun d2 => og (H6 d2) <| some (.H7 [(.agg ((iI 1)::d2::(.str ⟨#[]⟩)::(Ab [(.list 9 [])]))), (.agg ((iI 0)::(P9 (Bz []))))])) (ob (A8 .eql a (iI 4)) fun d3 => D7 d3 (ob (A8 .eql (A7 1 d) (iI 0)) fun d4 => D7 d4 (some (.H7 [(.agg (P9 [])), (.agg ((iI 3)::(P9 [(iI 0), (.bool false), (A7 1 b), (A7 2 b), (iI 0)])))])) (ob (A8 .quo (A7 1 c) (A7 1 d)) fun d5 => og (H6 d5) <| some (.H7 [(.agg ((iI 1)::d5::(.str ⟨#[]⟩)::(Ab [(.list 9 [])]))), (.agg ((iI 0)::(P9 (Bz []))))]))) (ob (A8 .eql a (iI 5)) fun d6 =>
 D7 d6 (ob (A8 .lss (A7 1 c) (A7 1 d)) fun d7 => ob (R.p Mj [d7]) fun d8 => og (D6 9 d8) <| some (.H7 [(R8 d8), (.agg ((iI 0)::(P9 (Bz []))))])) (ob (A8 .eql a (iI 6)) fun d9 => D7 d9 (ob (A8 .eql (A7 1 c) (A7 1 d)) fun d10 => ob (R.p Mj [d10]) fun d11 => og (D6 9 d11) <| some (.H7 [(R8 d11), (.agg ((iI 0)::(P9 (Bz []))))])) (ob (A8 .eql (A7 2 c) (A7 2 d)) fun d12 => ob (R.p Mj [d12]) fun d13 => og (D6 9 d13) <| some (.H7 [(R8 d13), (.agg ((iI 0)::(P9 (Bz []))))])))))) := E8 [5, 14]
theorem bu : (run cfg).p Vo [a, b, c] = kz (run cfg) a b c := N8 Tryz.func82
def Tk := eR Tryz.f83 DL Fu R [] (F4 Tryz.f83 [(pt i), (a, .val)] s)
def EX := hR Tryz.f83 DL Fu R (pb 26) (ms 79 [(15, a), (16, b), (17, c)] [(0, (.ptr i 0))] [(3, bx d 57)] s)
def D_ := hR Tryz.f83 DL Fu R (pb 6921194) (ms 79 [(4, a), (10, b), (49, c), (50, d), (51, e)] [(0, (.ptr i 0))] [(3, bx f 57)] s)
theorem SL : Tk R i a s =
 (og (D6 57 a) <| ob (dLen (A7 19 a)) fun d1 => EX R i (A7 19 a) d1 (iI 0) a s) := E8 []
theorem Hu : EX R i a b c d s =
 (ob (A8 .lss c b) fun d1 => D7 d1 (ob (F5 7 a c) fun d2 => ob (E9 s i) fun c3 => ob (O8 21 9 c3) fun e4 => ob (R.p pV [(IP d2), (.agg e4)]) fun d5 => ob (J5 0 d5) fun d6 => ob (J5 1 d5) fun d7 => ob (J5 2 d5) fun d8 => ob (J5 3 d5) fun d9 => og (D6 15 d8) <| ob (A8 .neq d9 (iI 0)) fun d10 => D7 d10 (oc (R.r O6 [(pt i)] s) fun q11 s11 => some ([], s11)) (ob (A8 .neq (A7 0 d8) (iI 0)) fun d12 => D7 d12 (oc (R.r Y1 [(pt i), ((EU d8), .val)] s) fun q13 s13 => some ([], s13)) (D7 d7 (ob (dLen d6) fun d14 => D_ R i c (A7 42 d) d6 d14 (iI 0) d s) (ob (A8 .add c (iI 1)) fun d15 => EX R i a b d15 d s)))) (oc (R.r Y1 [(pt i), ((.agg ((iI 4)::(P9 [(iI 0), (.bool false), (A7 2 d), (A7 3 d), (iI 0)]))), .val)] s) fun q16 s16 => some ([], s16))) := I7 []
theorem GZ : D_ R i a b c d e f s =
 (ob (A8 .lss e d) fun d1 => D7 d1 (ob (F5 10 c e) fun d2 => ob (R.p Dy [b, (A7 0 d2), (.agg (aB d2 []))]) fun d3 => ob (A8 .add e (iI 1)) fun d4 => D_ R i a d3 c d d4 f s) (ob (A8 .add a (iI 1)) fun d5 => ob (F5 20 (A7 20 f) d5) fun d6 => oc (R.r O0 [(pt i), ((Q6 d6), .val), (b, .val)] s) fun q7 s7 => some ([], s7))) := I7 []
theorem QH : (run cfg).r KT [(.undef, (.ptr i 0)), (a, .val)] s = Tk (run cfg) i a s := DF (s := DL) Tryz.func83
def VZ := eR Tryz.f84 KM Ux R [] (F4 Tryz.f84 [(pt i), (a, .val), (b, .val)] s)
theorem UX : VZ R i a b s =
 (og (D6 9 a) <| og (D6 5 b) <| ob (R.p Mm [(R8 a), (P6 b)]) fun d1 => ob (J5 0 d1) fun d2 => ob (J5 1 d1) fun d3 => ob (J5 2 d1) fun d4 => og (D6 9 d2) <| og (D6 15 d3) <| ob (A8 .neq d4 (iI 0)) fun d5 => D7 d5 (oc (R.r O6 [(pt i)] s) fun q6 s6 => some ([(.agg (P9 [])), (.bool false)], s6)) (ob (A8 .neq (A7 0 d3) (iI 0)) fun d7 => D7 d7 (oc (R.r Y1 [(pt i), ((EU d3), .val)] s) fun q8 s8 => some ([(.agg (P9 [])), (.bool false)], s8)) (some ([(R8 d2), (.bool true)], s)))) := E8 []
theorem Sd : (run cfg).r Eb [(.undef, (.ptr i 0)), (a, .val), (b, .val)] s = VZ (run cfg) i a b s := DF (s := KM) Tryz.func84
def A1U := eP Tryz.f85 dO R [] (F4 Tryz.f85 [(a, .val)] [])
def Qq := eP Tryz.f85 dO R (pb 127) (ms 99 [] [] [(1, bx a 9), (2, some TC), (3, some TC), (4, some pE), (6, some TC), (7, bx b 5), (8, bv [c, d, e, f, g])] [])
theorem yT : A1U R a =
 (og (D6 9 a) <| ob (dLen (A7 8 a)) fun d1 => ob (A8 .neq d1 (iI 2)) fun d2 => F7 d2 (some (.H7 [(.agg (P9 [])), (.agg (P9 [])), (.agg ((iI 0)::(P9 (Bz [])))), (iI 8)])) (ob (A8 .eql (A7 3 a) (iI 5)) fun d3 => D7 d3 (some (.H7 [(.agg (P9 [])), (.agg (P9 [])), (.agg ((iI 0)::(P9 (Bz [])))), (iI 8)])) (ob (R.p GQ [(.agg [(A7 3 a), (A7 4 a), (A7 5 a), (A7 6 a), (A7 7 a)])]) fun d4 =>
 D7 d4 (ob (F5 9 (A7 8 a) (iI 0)) fun d5 => ob (F5 9 (A7 8 a) (iI 1)) fun d6 => some (.H7 [(R8 d5), (R8 d6), (.agg ((iI 0)::(P9 (Bz [])))), (iI 0)])) (ob (F5 5 (A7 7 a) (iI 0)) fun d7 => ob (A8 .eql (A7 0 a) (iI 5)) fun d8 => D7 d8 (ob (F5 5 (A7 7 a) (iI 1)) fun d9 => Qq R a d7 (A7 0 d9) (A7 1 d9) (A7 2 d9) (A7 3 d9) (A7 4 d9)) (Qq R a d7 (A7 3 a) (A7 4 a) (A7 5 a) (A7 6 a) (A7 7 a))))) none) := E8 [9]
theorem mW : Qq R a b c d e f g =
 (ob (F5 9 (A7 8 a) (iI 0)) fun d1 => ob (R.p TM [(R8 d1), (P6 b)]) fun d2 => ob (J5 0 d2) fun d3 => ob (J5 1 d2) fun d4 => ob (J5 2 d2) fun d5 => og (D6 9 d3) <| og (D6 15 d4) <| ob (A8 .neq d5 (iI 0)) fun d6 => F7 d6 (some (.H7 [(.agg (P9 [])), (.agg (P9 [])), (EU d4), d5])) (ob (A8 .neq (A7 0 d4) (iI 0)) fun d7 => D7 d7 (some (.H7 [(.agg (P9 [])), (.agg (P9 [])), (EU d4), d5])) (ob (F5 9 (A7 8 a) (iI 1)) fun d8 => ob (R.p TM [(R8 d8), (.agg [c, d, e, f, g])]) fun d9 => ob (J5 0 d9) fun d10 => ob (J5 1 d9) fun d11 => ob (J5 2 d9) fun d12 => og (D6 9 d10) <| og (D6 15 d11) <| ob (A8 .neq d12 (iI 0)) fun d13 =>
 F7 d13 (some (.H7 [(.agg (P9 [])), (.agg (P9 [])), (EU d11), d12])) (ob (A8 .neq (A7 0 d11) (iI 0)) fun d14 => D7 d14 (some (.H7 [(.agg (P9 [])), (.agg (P9 [])), (EU d11), d12])) (some (.H7 [(R8 d3), (R8 d10), (.agg ((iI 0)::(P9 (Bz [])))), (iI 0)]))) none)) none) := E8 [9]
theorem uy : (run cfg).p XH [a] = A1U (run cfg) a := N8 Tryz.func85
def r_ := eR Tryz.f86 VM oC R [] (F4 Tryz.f86 [(pt i)] s)
theorem mU : r_ R i s =
 (oc (R.r CZ [(pt i), ((.agg ((iI 6)::(P9 (Bz [])))), .val)] s) fun q1 s1 => some ([], s1)) := E8 []
theorem iT : (run cfg).r Y2 [(.undef, (.ptr i 0))] s = r_ (run cfg) i s := DF (s := VM) Tryz.func86
def A1P := eP Tryz.f87 dL R [] (F4 Tryz.f87 [(a, .val)] [])
def Qo := eP Tryz.f87 dL R (pb 122) (ms 40 [(5, a)] [] [(2, some TC), (4, bx b 9)] [])
theorem bO : A1P R a =
 (ob (F5 9 a (iI 0)) fun d1 => ob (Ak 9 a (some (iI 1)) none) fun d2 => ob (A8 .eql (A7 0 d1) (iI 5)) fun d3 => F7 d3 (Qo R d2 d1) (ob (A8 .eql (A7 0 d1) (iI 7)) fun d4 => D7 d4 (Qo R d2 d1) (some (.H7 [(R8 d1), d2]))) none) := E8 [4]
theorem mP : Qo R a b =
 (ob (R.p Pj [a]) fun d1 => ob (J5 0 d1) fun d2 => ob (J5 1 d1) fun d3 => og (D6 9 d2) <| ob (R.p Pj [d3]) fun d4 => ob (J5 0 d4) fun d5 => ob (J5 1 d4) fun d6 => og (D6 9 d5) <| some (.H7 [(.agg [(A7 0 b), (A7 1 b), (A7 2 b), (A7 3 b), (A7 4 b), (A7 5 b), (A7 6 b), (A7 7 b), (.list 9 [(R8 d2), (R8 d5)])]), d6])) := E8 [4]
theorem Ye : (run cfg).p Pj [a] = A1P (run cfg) a := N8 Tryz.func87
end
end Go.Su

/-
 Equations of the program's functions: by program.
-/
namespace Go.Su
set_option maxRecDepth 100000
noncomputable section
open Go.Proofs
variable (R : Q8) (i j k l m n : Nat) (a b c d e f g h o p q r t u v w x y z A B C D E F G H I J K L M N O P Q S T U V W X Y Z a1 a2 a3 a4 a5 a6 a7 a8 a9 a10 a11 a12 a13 a14 a15 a16 a17 a18 a19 a20 a21 a22 a23 a24 a25 a26 a27 a28 a29 a30 a31 a32 a33 a34 a35 a36 a37 a38 a39 a40 a41 a42 a43 a44 a45 a46 a47 a48 a49 a50 a51 a52 a53 a54 a55 a56 a57 a58 a59 : DV) (s : List C9)
def xK := eR Tryz.f88 Wx vT R [] (F4 Tryz.f88 [(pt i), (a, .val), (b, .val)] s)
theorem tY : xK R i a b s =
 (og (D6 20 a) <| ob (E9 s i) fun c1 => ob (c1[17]?) fun u2 => ob (E9 (s.set i (C9.box (c1.set 17 ((.bool false), .val)))) i) fun c3 => if 18 + 20 <= c3.length then (ob (E9 ((s.set i (C9.box (c1.set 17 ((.bool false), .val)))).set i (C9.box (putAt c3 18 (V6 a [])))) i) fun c4 => og (H6 b) <| ob (c4[38]?) fun u5 => some ([], (((s.set i (C9.box (c1.set 17 ((.bool false), .val)))).set i (C9.box (putAt c3 18 (V6 a [])))).set i (C9.box (c4.set 38 (b, .val)))))) else none) := E8 []
theorem nN : (run cfg).r Cy [(.undef, (.ptr i 0)), (a, .val), (b, .val)] s = xK (run cfg) i a b s := DF (s := Wx) Tryz.func88
def A6x := eP Tryz.f89 OZ R [] (F4 Tryz.f89 [(a, .val)] [])
def CP := eP Tryz.f89 OZ R (pb 15) (ms 116 [(3, a)] [] [(1, bx b 9)] [])
def Tz := eP Tryz.f89 OZ R (pb 31) (ms 116 [] [] [(1, bx a 9)] [])
def Hm := eP Tryz.f89 OZ R (pb 63) (ms 116 [] [] [(1, bx a 9)] [])
def T_ := eP Tryz.f89 OZ R (pb 127) (ms 116 [] [] [(1, bx a 9)] [])
theorem qF : A6x R a =
 (og (D6 9 a) <| ob (A8 .eql (A7 0 a) (iI 1)) fun d1 => D7 d1 (CP R (iI 0) a) (ob (A8 .eql (A7 0 a) (iI 4)) fun d2 => D7 d2 (CP R (iI 0) a) (ob (A8 .eql (A7 0 a) (iI 6)) fun d3 => D7 d3 (CP R (iI 0) a) (ob (A8 .eql (A7 0 a) (iI 3)) fun d4 => D7 d4 (CP R (iI 0) a) (ob (A8 .eql (A7 0 a) (iI 2)) fun d5 => D7 d5 (ob (A8 .lss (A7 1 a) (iI 0)) fun d6 => F7 d6 sF (ob (A8 .gtr (A7 1 a) (iI 1)) fun d7 => D7 d7 sF (CP R (iI 0) a)) none) (ob (A8 .eql (A7 0 a) (iI 5)) fun d8 => D7 d8 (CP R (iI 2) a) (ob (A8 .eql (A7 0 a) (iI 7)) fun d9 => D7 d9 (CP R (iI 2) a) (ob (A8 .eql (A7 0 a) (iI 8)) fun d10 => D7 d10 (ob (A8 .lss (A7 1 a) (iI 0)) fun d11 => D7 d11 sF (CP R (iI 0) a)) sF)))))))) := E8 [17, 19, 21, 23]
theorem YZ : CP R a b =
 (ob (dLen (A7 8 b)) fun d1 => ob (A8 .neq d1 a) fun d2 => F7 d2 sF (ob (CF (A7 2 b)) fun d3 => ob (A8 .gtr d3 (iI 200)) fun d4 => F7 d4 sF (ob (A8 .neq (A7 0 b) (iI 3)) fun d5 => F7 d5 (ob (A8 .neq (A7 2 b) (.str ⟨#[]⟩)) fun d6 => D7 d6 sF (Tz R b)) (Tz R b) none) none) none) := E8 [17, 19, 21, 23]
theorem Ya : Tz R a =
 (ob (A8 .neq (A7 1 a) (iI 0)) fun d1 => F7 d1 (ob (A8 .neq (A7 0 a) (iI 1)) fun d2 => F7 d2 (ob (A8 .neq (A7 0 a) (iI 2)) fun d3 => F7 d3 (ob (A8 .neq (A7 0 a) (iI 8)) fun d4 => D7 d4 sF (Hm R a)) (Hm R a) none) (Hm R a) none) (Hm R a) none) := E8 [17, 19, 21, 23]
theorem Yb : Hm R a =
 (ob (A8 .eql (A7 0 a) (iI 7)) fun d1 => F7 d1 (ob (F5 9 (A7 8 a) (iI 1)) fun d2 => ob (R.p Zj [(R8 d2)]) fun d3 => ob (M5 .not d3) fun d4 => F7 d4 sF (ob (F5 9 (A7 8 a) (iI 1)) fun d5 => ob (A8 .eql (A7 3 d5) (iI 5)) fun d6 => D7 d6 sF (T_ R a)) none) (T_ R a) none) := E8 [17, 19, 21, 23]
theorem tu : T_ R a =
 (ob (R.p GQ [(.agg [(A7 3 a), (A7 4 a), (A7 5 a), (A7 6 a), (A7 7 a)])]) fun d1 => D7 d1 sT (ob (R.p Dv [(.agg [(A7 3 a), (A7 4 a), (A7 5 a), (A7 6 a), (A7 7 a)])]) fun d2 => ob (M5 .not d2) fun d3 => D7 d3 sF (ob (A8 .eql (A7 3 a) (iI 5)) fun d4 => D7 d4 (ob (R.p Zg [(R8 a)]) fun d5 => ob (A8 .eql (A7 4 a) d5) fun d6 => some d6) (ob (R.p Mk [(A7 3 a)]) fun d7 => ob (R.p Zg [(R8 a)]) fun d8 => ob (A8 .eql d7 d8) fun d9 => F7 d9 (ob (R.p aS [(R8 a)]) fun d10 => some d10) sF none)))) := E8 [17, 19, 21, 23]
theorem jk : (run cfg).p Rw [a] = A6x (run cfg) a := N8 Tryz.func89
def sD := eR Tryz.f90 VN oD R [] (F4 Tryz.f90 [(pt i), (a, .val)] s)
theorem mV : sD R i a s =
 (og (D6 9 a) <| ob (E9 s i) fun c1 => ob (c1[17]?) fun u2 => ob (E9 (s.set i (C9.box (c1.set 17 ((.bool true), .val)))) i) fun c3 => if 39 + 9 <= c3.length then (some ([], ((s.set i (C9.box (c1.set 17 ((.bool true), .val)))).set i (C9.box (putAt c3 39 (X3 a [])))))) else none) := E8 []
theorem iU : (run cfg).r DU [(.undef, (.ptr i 0)), (a, .val)] s = sD (run cfg) i a s := DF (s := VN) Tryz.func90
def xH := eR Tryz.f91 G_ LH R [] (F4 Tryz.f91 [(pt i), (a, .val), (b, .val)] s)
def Vw := eR Tryz.f91 G_ LH R (pb 7) (ms 96 [] [(0, (.ptr i 0))] [(4, bx a 9), (5, bx b 9)] s)
def OC := eR Tryz.f91 G_ LH R (pb 15) (ms 96 [] [(0, (.ptr i 0))] [(4, bv [a, b, c, d, e, f, g, h, o]), (5, bx p 9)] s)
def MH := eR Tryz.f91 G_ LH R (pb 127) (ms 96 [(9, a)] [(0, (.ptr i 0))] [(5, bx b 9), (8, bx c 23)] s)
theorem tQ : xH R i a b s =
 (og (D6 9 a) <| og (D6 9 b) <| ob (A8 .neq (A7 0 a) (iI 8)) fun d1 => F7 d1 (oc (R.r Y2 [(pt i)] s) fun q2 s2 => some ([], s2)) (ob (E9 s i) fun c3 => ob (H5 c3 49) fun d4 => ob (dLen d4) fun d5 => ob (A8 .geq (A7 1 a) d5) fun d6 => F7 d6 (oc (R.r Y2 [(pt i)] s) fun q7 s7 => some ([], s7)) (ob (R.p GQ [(.agg [(A7 3 a), (A7 4 a), (A7 5 a), (A7 6 a), (A7 7 a)])]) fun d8 => ob (M5 .not d8) fun d9 => F7 d9 (ob (A8 .neq (A7 3 a) (iI 2)) fun d10 => D7 d10 (oc (R.r Y2 [(pt i)] s) fun q11 s11 => some ([], s11)) (Vw R i a b s)) (Vw R i a b s) none) none) none) := E8 [3, 9, 13]
theorem Ue : Vw R i a b s =
 (ob (A8 .eql (A7 3 a) (iI 2)) fun d1 => D7 d1 (ob (F5 5 (A7 7 a) (iI 0)) fun d2 => ob (R.r Ie [(pt i), ((R8 b), .val), ((P6 d2), .val)] s) fun q3 => ob (J5 0 (.H7 q3.1)) fun d4 => ob (J5 1 (.H7 q3.1)) fun d5 => og (D6 9 d4) <| ob (M5 .not d5) fun d6 => D7 d6 (some ([], q3.2)) (ob (F5 5 (A7 7 a) (iI 1)) fun d7 => oc (R.r Zh [(pt i), ((P6 d7), .val)] q3.2) fun q8 s8 => OC R i (A7 0 a) (A7 1 a) (A7 2 a) (iI 0) (iI 0) (iI 0) (.bool false) (.list 5 []) (A7 8 a) d4 s8)) (OC R i (A7 0 a) (A7 1 a) (A7 2 a) (A7 3 a) (A7 4 a) (A7 5 a) (A7 6 a) (A7 7 a) (A7 8 a) b s)) := E8 [3, 9, 13]
theorem gu : OC R i a b c d e f g h o p s =
 (ob (E9 s i) fun c1 => ob (H5 c1 49) fun d2 => ob (F5 23 d2 b) fun d3 => ob (A8 .neq (A7 0 d3) (.str ⟨#[]⟩)) fun d4 => D7 d4 (ob (R.p Nq [(A7 22 d3), (A7 0 d3), (.agg [a, b, c, d, e, f, g, h, o])]) fun d5 => MH R i d5 p d3 s) (MH R i (A7 22 d3) p d3 s)) := E8 [3, 9, 13]
theorem bS : MH R i a b c s =
 (ob (E9 s i) fun c1 => ob (H5 c1 1) fun d2 => ob (M5 .not d2) fun d3 => D7 d3 (ob (R.p Nq [a, (A7 1 c), (R8 b)]) fun d4 => oc (R.r Cy [(pt i), ((.agg (B39 c [])), .val), (d4, .val)] s) fun q5 s5 => some ([], s5)) (some ([], s))) := E8 [3, 9, 13]
theorem nK : (run cfg).r aR [(.undef, (.ptr i 0)), (a, .val), (b, .val)] s = xH (run cfg) i a b s := DF (s := G_) Tryz.func91
def A4w := eP Tryz.f92 A24 R [] (F4 Tryz.f92 [(a, .val), (b, .val), (c, .val)] [])
theorem A2y : A4w R a b c =
 (og (D6 9 c) <| ob (AQ 10 (.list 10 []) a) fun d1 => og (H6 b) <| ob (AQ 10 d1 (.list 10 [(.agg (b::(V3 c [])))])) fun d2 => some d2) := E8 []
theorem zW : (run cfg).p Nq [a, b, c] = A4w (run cfg) a b c := N8 Tryz.func92
def A4p := eP Tryz.f93 A21 R [] (F4 Tryz.f93 [(a, .val)] [])
theorem A2q : A4p R a =
 (og (D6 5 a) <| ob (A8 .eql (A7 0 a) (iI 0)) fun d1 => F7 d1 (ob (A8 .eql (A7 1 a) (iI 0)) fun d2 => F7 d2 (ob (A8 .eql (A7 2 a) (iI 0)) fun d3 => F7 d3 (ob (M5 .not (A7 3 a)) fun d4 => F7 d4 (ob (dLen (A7 4 a)) fun d5 => ob (A8 .eql d5 (iI 0)) fun d6 => some d6) sF none) sF none) sF none) sF none) := E8 []
theorem zO : (run cfg).p GQ [a] = A4p (run cfg) a := N8 Tryz.func93
def xF := eR Tryz.f94 Om Yg R [] (F4 Tryz.f94 [(pt i), (a, .val), (b, .val)] s)
def ME := hR Tryz.f94 Om Yg R (pb 26) (ms 64 [(6, a)] [(0, (.ptr i 0))] [(4, bx b 36), (5, bx c 9)] s)
theorem tN : xF R i a b s =
 (og (D6 36 a) <| og (D6 9 b) <| ME R i (iI 0) a b s) := E8 []
theorem RZ : ME R i a b c s =
 (ob (dLen (A7 19 b)) fun d1 => ob (A8 .lss a d1) fun d2 => D7 d2 (ob (F5 7 (A7 19 b) a) fun d3 => ob (R.p jW [(IP d3), (R8 c)]) fun d4 => ob (J5 0 d4) fun d5 => ob (J5 1 d4) fun d6 => ob (J5 2 d4) fun d7 => ob (J5 3 d4) fun d8 => og (D6 15 d7) <| ob (A8 .neq d8 (iI 0)) fun d9 => D7 d9 (oc (R.r Y2 [(pt i)] s) fun q10 s10 => some ([], s10)) (ob (A8 .neq (A7 0 d7) (iI 0)) fun d11 => D7 d11 (oc (R.r CZ [(pt i), ((EU d7), .val)] s) fun q12 s12 => some ([], s12)) (D7 d6 (ob (A8 .add a (iI 1)) fun d13 => ob (F5 20 (A7 20 b) d13) fun d14 => ob (AQ 10 (.list 10 []) (A7 21 b)) fun d15 => ob (AQ 10 d15 d5) fun d16 => oc (R.r Cy [(pt i), ((Q6 d14), .val), (d16, .val)] s) fun q17 s17 => some ([], s17)) (ob (A8 .add a (iI 1)) fun d18 => ME R i d18 b c s)))) (oc (R.r CZ [(pt i), ((.agg ((iI 4)::(P9 [(iI 0), (.bool false), (A7 2 b), (A7 3 b), (iI 0)]))), .val)] s) fun q19 s19 =>
 some ([], s19))) := I7 []
theorem nI : (run cfg).r wX [(.undef, (.ptr i 0)), (a, .val), (b, .val)] s = xF (run cfg) i a b s := DF (s := Om) Tryz.func94
def A1S := eR Tryz.f95 Ia NJ R [] (F4 Tryz.f95 [(pt i), (a, .val), (b, .val), (c, .val)] s)
def Qp := eR Tryz.f95 Ia NJ R (pb 15) (ms 75 [(8, a)] [(0, (.ptr i 0))] [(5, bx b 20), (6, bx c 9), (7, bx d 9)] s)
def LB := eR Tryz.f95 Ia NJ R (pb 127) (ms 75 [] [(0, (.ptr i 0))] [(5, bx a 20), (6, bx b 9), (7, bx c 9), (9, bv (d::(iI 0)::(.str ⟨#[]⟩)::(Ab [(.list 9 [])])))] s)
def OE := eR Tryz.f95 Ia NJ R (pb 511) (ms 75 [(10, a), (11, b)] [(0, (.ptr i 0))] [(5, bx c 20), (9, bv (d::(iI 0)::(.str ⟨#[]⟩)::(Ab [(.list 9 [])])))] s)
theorem yR : A1S R i a b c s =
 (og (D6 20 a) <| og (D6 9 b) <| og (D6 9 c) <| ob (A8 .eql (A7 7 a) (iI 7)) fun d1 => D7 d1 (Qp R i (iI 3) a b c s) (Qp R i (iI 1) a b c s)) := E8 [4, 9, 12]
theorem mQ : Qp R i a b c d s =
 (ob (A8 .neq (A7 0 c) a) fun d1 => F7 d1 (oc (R.r Y2 [(pt i)] s) fun q2 s2 => some ([], s2)) (ob (A8 .neq (A7 0 d) a) fun d3 => F7 d3 (oc (R.r Y2 [(pt i)] s) fun q4 s4 => some ([], s4)) (ob (R.p GQ [(.agg [(A7 3 c), (A7 4 c), (A7 5 c), (A7 6 c), (A7 7 c)])]) fun d5 => ob (M5 .not d5) fun d6 => F7 d6 (oc (R.r Y2 [(pt i)] s) fun q7 s7 => some ([], s7)) (ob (R.p GQ [(.agg [(A7 3 d), (A7 4 d), (A7 5 d), (A7 6 d), (A7 7 d)])]) fun d8 => ob (M5 .not d8) fun d9 => D7 d9 (oc (R.r Y2 [(pt i)] s) fun q10 s10 => some ([], s10)) (ob (A8 .geq (A7 7 b) (iI 5)) fun d11 => D7 d11 (LB R i b c d (iI 2) s) (LB R i b c d (iI 1) s))) none) none) none) := E8 [4, 9, 12]
theorem mR : LB R i a b c d s =
 (ob (R.p A3s [(A7 7 a), (A7 1 b), (A7 1 c)]) fun d1 => ob (J5 0 d1) fun d2 => ob (J5 1 d1) fun d3 => ob (A8 .eql (A7 7 a) (iI 7)) fun d4 => D7 d4 (ob (A8 .eql (A7 2 b) (A7 2 c)) fun d5 => ob (R.p Pm [d5]) fun d6 => OE R i d6 d3 a d s) (OE R i d2 d3 a d s)) := E8 [4, 9, 12]
theorem Uh : OE R i a b c d s =
 (ob (M5 .not b) fun d1 => D7 d1 (oc (R.r CZ [(pt i), ((.agg ((iI 3)::(P9 [(iI 0), (.bool false), (A7 1 c), (A7 2 c), (iI 0)]))), .val)] s) fun q2 s2 => some ([], s2)) (og (H6 a) <| oc (R.r DU [(pt i), ((.agg (d::a::(.str ⟨#[]⟩)::(Ab [(.list 9 [])]))), .val)] s) fun q3 s3 => some ([], s3))) := E8 [4, 9, 12]
theorem uu : (run cfg).r jV [(.undef, (.ptr i 0)), (a, .val), (b, .val), (c, .val)] s = A1S (run cfg) i a b c s := DF (s := Ia) Tryz.func95
def gG := eR Tryz.f96 PZ dN R [] (F4 Tryz.f96 [(pt i), (a, .val), (b, .val)] s)
theorem bV : gG R i a b s =
 (og (D6 9 a) <| og (D6 5 b) <| ob (R.p TM [(R8 a), (P6 b)]) fun d1 => ob (J5 0 d1) fun d2 => ob (J5 1 d1) fun d3 => ob (J5 2 d1) fun d4 => og (D6 9 d2) <| og (D6 15 d3) <| ob (A8 .neq d4 (iI 0)) fun d5 => D7 d5 (oc (R.r Y2 [(pt i)] s) fun q6 s6 => some ([(R8 d2), (.bool false)], s6)) (ob (A8 .neq (A7 0 d3) (iI 0)) fun d7 => D7 d7 (oc (R.r CZ [(pt i), ((EU d3), .val)] s) fun q8 s8 => some ([(R8 d2), (.bool false)], s8)) (some ([(R8 d2), (.bool true)], s)))) := E8 []
theorem ZJ : (run cfg).r Ie [(.undef, (.ptr i 0)), (a, .val), (b, .val)] s = gG (run cfg) i a b s := DF (s := PZ) Tryz.func96
def gF := eR Tryz.f97 PY dM R [] (F4 Tryz.f97 [(pt i), (a, .val)] s)
theorem bT : gF R i a s =
 (og (D6 23 a) <| ob (E9 s i) fun c1 => ob (X9 c1 49) fun d2 => ob (AQ 23 d2 (.list 23 [(.agg (B36 a []))])) fun d3 => ob (E9 (s.set i (C9.box (c1.set 49 (d2, .val)))) i) fun c4 => ob (c4[49]?) fun u5 => ob (E9 ((s.set i (C9.box (c1.set 49 (d2, .val)))).set i (C9.box (c4.set 49 (d3, .own)))) i) fun c6 => ob (H5 c6 49) fun d7 => ob (dLen d7) fun d8 => ob (A8 .sub d8 (iI 1)) fun d9 => og (H6 d9) <| some ([(.agg ((iI 8)::d9::(.str ⟨#[]⟩)::(Ab [(.list 9 [])])))], ((s.set i (C9.box (c1.set 49 (d2, .val)))).set i (C9.box (c4.set 49 (d3, .own)))))) := E8 []
theorem ZI : (run cfg).r Lp [(.undef, (.ptr i 0)), (a, .val)] s = gF (run cfg) i a s := DF (s := PY) Tryz.func97
def xI := eR Tryz.f98 Ww vR R [] (F4 Tryz.f98 [(pt i), (a, .val), (b, .val)] s)
theorem tV : xI R i a b s =
 (og (D6 20 b) <| ob (E9 s i) fun c1 => ob (H5 c1 48) fun d2 => ob (AQ 36 (.list 36 []) d2) fun d3 => ob (E9 s i) fun c4 => ob (H5 c4 38) fun d5 => og (H6 a) <| og (H6 d5) <| ob (AQ 36 d3 (.list 36 [(.agg (a::(Y9 b (d5::(P9 (Ab []))))))])) fun d6 => ob (E9 s i) fun c7 => ob (c7[48]?) fun u8 => some ([], (s.set i (C9.box (c7.set 48 (d6, .own)))))) := E8 []
theorem nL : (run cfg).r Cx [(.undef, (.ptr i 0)), (a, .val), (b, .val)] s = xI (run cfg) i a b s := DF (s := Ww) Tryz.func98
def A1L := eP Tryz.f99 dJ R [] (F4 Tryz.f99 [(a, .val), (b, .val)] [])
def Lx := hP Tryz.f99 dJ R (pb 58) (ms 46 [(5, a)] [] [(2, bx b 3), (3, bx c 3)] [])
theorem yL : A1L R a b =
 (og (D6 3 a) <| og (D6 3 b) <| ob (A8 .eql (A7 0 a) (iI 5)) fun d1 => D7 d1 (ob (R.p Kw [(W9 b), (iI 6)]) fun d2 => some d2) (ob (A8 .eql (A7 0 b) (iI 5)) fun d3 => D7 d3 (ob (R.p Kw [(W9 a), (iI 6)]) fun d4 => some d4) (ob (R.p pM [(W9 a), (W9 b)]) fun d5 => D7 d5 sT (ob (R.p pO [(W9 a), (W9 b)]) fun d6 => ob (M5 .not d6) fun d7 => D7 d7 sF (Lx R (iI 0) a b))))) := E8 []
theorem RU : Lx R a b c =
 (ob (dLen (A7 2 b)) fun d1 => ob (A8 .lss a d1) fun d2 => D7 d2 (ob (F5 3 (A7 2 b) a) fun d3 => ob (F5 3 (A7 2 c) a) fun d4 => ob (R.p XE [(W9 d3), (W9 d4)]) fun d5 => ob (M5 .not d5) fun d6 => D7 d6 sF (ob (A8 .add a (iI 1)) fun d7 => Lx R d7 b c)) sT) := I7 []
theorem ui : (run cfg).p XE [a, b] = A1L (run cfg) a b := N8 Tryz.func99
def A4t := eR Tryz.f100 VL kC R [] (F4 Tryz.f100 [(pt i), (a, .val)] s)
def Tw := eR Tryz.f100 VL kC R (pb 122) (ms 86 [] [(0, (.ptr i 0))] [(3, bx a 5)] s)
theorem A2v : A4t R i a s =
 (og (D6 5 a) <| ob (E9 s i) fun c1 => ob (H5 c1 48) fun d2 => ob (dLen d2) fun d3 => ob (A8 .eql (A7 0 a) (iI 1)) fun d4 => D7 d4 (some ([], s)) (ob (A8 .eql d3 (iI 0)) fun d5 => F7 d5 (Tw R i a s) (ob (E9 s i) fun c6 => ob (H5 c6 48) fun d7 => ob (A8 .sub d3 (iI 1)) fun d8 => ob (F5 36 d7 d8) fun d9 => ob (A8 .neq (A7 0 d9) (iI 12)) fun d10 => D7 d10 (Tw R i a s) (ob (E9 s i) fun c11 => ob (H5 c11 48) fun d12 => ob (A8 .sub d3 (iI 1)) fun d13 => ob (F5 36 d12 d13) fun d14 => ob (R.p Zd [(P6 a), (.agg (A0v d14 []))]) fun d15 => ob (J5 0 d15) fun d16 => ob (J5 1 d15) fun d17 => og (D6 5 d16) <| ob (M5 .not d17) fun d18 => D7 d18 (oc (R.r Y2 [(pt i)] s) fun q19 s19 => some ([], s19)) (ob (E9 s i) fun c20 => ob (H5 c20 48) fun d21 => ob (A8 .sub d3 (iI 1)) fun d22 => ob (Ak 36 d21 none (some d22)) fun d23 => ob (AQ 36 (.list 36 []) d23) fun d24 => ob (E9 s i) fun c25 => ob (c25[48]?) fun u26 => ob (A8 .neq (A7 0 d16) (iI 1)) fun d27 =>
 D7 d27 (ob (E9 (s.set i (C9.box (c25.set 48 (d24, .own)))) i) fun c28 => ob (X9 c28 48) fun d29 => ob (AQ 36 d29 (.list 36 [(.agg ((iI 12)::(iI 0)::(Mh ((.list 10 [])::(P9 [(A7 0 d16), (A7 1 d16), (A7 2 d16), (A7 3 d16), (A7 4 d16)])))))])) fun d30 => ob (E9 ((s.set i (C9.box (c25.set 48 (d24, .own)))).set i (C9.box (c28.set 48 (d29, .val)))) i) fun c31 => ob (c31[48]?) fun u32 => some ([], (((s.set i (C9.box (c25.set 48 (d24, .own)))).set i (C9.box (c28.set 48 (d29, .val)))).set i (C9.box (c31.set 48 (d30, .own)))))) (some ([], (s.set i (C9.box (c25.set 48 (d24, .own))))))))) none)) := E8 [4]
theorem tT : Tw R i a s =
 (ob (E9 s i) fun c1 => ob (H5 c1 48) fun d2 => ob (AQ 36 (.list 36 []) d2) fun d3 => ob (AQ 36 d3 (.list 36 [(.agg ((iI 12)::(iI 0)::(Mh ((.list 10 [])::(P9 [(A7 0 a), (A7 1 a), (A7 2 a), (A7 3 a), (A7 4 a)])))))])) fun d4 => ob (E9 s i) fun c5 => ob (c5[48]?) fun u6 => some ([], (s.set i (C9.box (c5.set 48 (d4, .own)))))) := E8 [4]
theorem zT : (run cfg).r Zh [(.undef, (.ptr i 0)), (a, .val)] s = A4t (run cfg) i a s := DF (s := VL) Tryz.func100
def A4n := eP Tryz.f101 A2Z R [] (F4 Tryz.f101 [(a, .val), (b, .val), (c, .val), (d, .val)] [])
theorem A2o : A4n R a b c d =
 (og (D6 3 a) <| og (D6 3 b) <| ob (R.p GN [(W9 a), (W9 b)]) fun d1 => D7 d1 (ob (R.p Vq []) fun d2 => og (D6 5 d2) <| some (P6 d2)) (ob (A8 .eql (A7 0 a) (iI 5)) fun d3 => D7 d3 (ob (R.p pK [(A7 0 b)]) fun d4 => ob (R.p Et [d4, (W9 b), c, d]) fun d5 => og (D6 5 d5) <| og (H6 (A7 0 b)) <| og (H6 c) <| og (H6 d) <| some (.agg [(iI 6), (A7 0 b), c, d, (.list 5 [(P6 d5)])])) (ob (A8 .eql (A7 0 b) (iI 5)) fun d6 => D7 d6 (ob (R.p pK [(A7 0 a)]) fun d7 => ob (R.p Et [(W9 a), d7, c, d]) fun d8 => og (D6 5 d8) <| og (H6 (A7 0 a)) <| some (.agg [(iI 5), (A7 0 a), (iI 0), (.bool false), (.list 5 [(P6 d8)])])) (ob (A8 .eql (A7 0 a) (iI 9)) fun d9 => D7 d9 (ob (F5 3 (A7 2 b) (iI 0)) fun d10 => ob (F5 3 (A7 2 a) (iI 0)) fun d11 => ob (M5 .not d) fun d12 => ob (R.p Et [(W9 d10), (W9 d11), c, d12]) fun d13 => ob (F5 3 (A7 2 a) (iI 1)) fun d14 => ob (F5 3 (A7 2 b) (iI 1)) fun d15 => ob (R.p Et [(W9 d14), (W9 d15), c, d]) fun d16 => og (D6 5 d13) <| og (D6 5 d16) <| ob (R.p Jf [(iI 2), (.list 5 [d13, d16])]) fun d17 =>
 og (D6 5 d17) <| some (P6 d17)) (ob (A8 .eql (A7 0 a) (iI 8)) fun d18 => D7 d18 (ob (F5 3 (A7 2 a) (iI 0)) fun d19 => ob (F5 3 (A7 2 b) (iI 0)) fun d20 => ob (R.p Et [(W9 d19), (W9 d20), c, d]) fun d21 => og (D6 5 d21) <| ob (R.p Jf [(iI 4), (.list 5 [d21])]) fun d22 => og (D6 5 d22) <| some (P6 d22)) (ob (F5 3 (A7 2 a) (iI 0)) fun d23 => ob (F5 3 (A7 2 b) (iI 0)) fun d24 => ob (R.p Et [(W9 d23), (W9 d24), c, d]) fun d25 => ob (F5 3 (A7 2 a) (iI 1)) fun d26 => ob (F5 3 (A7 2 b) (iI 1)) fun d27 => ob (R.p Et [(W9 d26), (W9 d27), c, d]) fun d28 => og (D6 5 d25) <| og (D6 5 d28) <| ob (R.p Jf [(iI 3), (.list 5 [d25, d28])]) fun d29 => og (D6 5 d29) <| some (P6 d29))))))) := E8 []
theorem zM : (run cfg).p Et [a, b, c, d] = A4n (run cfg) a b c d := N8 Tryz.func101
def A4q := eP Tryz.f102 j_ R [] (F4 Tryz.f102 [(a, .val), (b, .val)] [])
def Qn := hP Tryz.f102 j_ R (pb 58) (ms 60 [(5, a)] [] [(2, bx b 5), (3, bx c 5)] [])
theorem A2r : A4q R a b =
 (og (D6 5 a) <| og (D6 5 b) <| ob (A8 .neq (A7 0 a) (A7 0 b)) fun d1 => F7 d1 sF (ob (A8 .neq (A7 1 a) (A7 1 b)) fun d2 => F7 d2 sF (ob (A8 .neq (A7 2 a) (A7 2 b)) fun d3 => F7 d3 sF (ob (UE (A7 3 a) (A7 3 b)) fun b4 => F7 (.bool !b4) sF (ob (dLen (A7 4 a)) fun d5 => ob (dLen (A7 4 b)) fun d6 => ob (A8 .neq d5 d6) fun d7 => D7 d7 sF (Qn R (iI 0) a b)) none) none) none) none) := E8 []
theorem WP : Qn R a b c =
 (ob (dLen (A7 4 b)) fun d1 => ob (A8 .lss a d1) fun d2 => D7 d2 (ob (F5 5 (A7 4 b) a) fun d3 => ob (F5 5 (A7 4 c) a) fun d4 => ob (R.p Ze [(P6 d3), (P6 d4)]) fun d5 => ob (M5 .not d5) fun d6 => D7 d6 sF (ob (A8 .add a (iI 1)) fun d7 => Qn R d7 b c)) sT) := I7 []
theorem zP : (run cfg).p Ze [a, b] = A4q (run cfg) a b := N8 Tryz.func102
def A4c := eP Tryz.f103 A2V R [] (F4 Tryz.f103 [(a, .val)] [])
theorem A2d : A4c R a =
 (og (H6 a) <| some (.agg [a, (iI 0), (.list 3 [])])) := E8 []
theorem zA : (run cfg).p TI [a] = A4c (run cfg) a := N8 Tryz.func103
end
end Go.Su

/-
 Equations of the program's functions: by program.
-/
namespace Go.Su
set_option maxRecDepth 100000
noncomputable section
open Go.Proofs
variable (R : Q8) (i j k l m n : Nat) (a b c d e f g h o p q r t u v w x y z A B C D E F G H I J K L M N O P Q S T U V W X Y Z a1 a2 a3 a4 a5 a6 a7 a8 a9 a10 a11 a12 a13 a14 a15 a16 a17 a18 a19 a20 a21 a22 a23 a24 a25 a26 a27 a28 a29 a30 a31 a32 a33 a34 a35 a36 a37 a38 a39 a40 a41 a42 a43 a44 a45 a46 a47 a48 a49 a50 a51 a52 a53 a54 a55 a56 a57 a58 a59 : DV) (s : List C9)
def A4l := eP Tryz.f104 jy R [] (F4 Tryz.f104 [(a, .val)] [])
def YR := eP Tryz.f104 jy R (pb 966655) (ms 123 [(9, a)] [] [(1, bx b 20), (2, bv ((iI 0)::(iI 0)::(iI 0)::c::d::(iI 0)::e::(iI 0)::(wT [(.list 20 [])]))), (4, bv (f::(iI 0)::(iI 0)::g::h::(iI 0)::o::(iI 0)::(wT [(.list 20 [])])))] [])
theorem A2m : A4l R a =
 (og (D6 20 a) <| og (H6 (A7 0 a)) <| ob (A8 .eql (A7 0 a) (iI 1)) fun d1 => D7 d1 (og (H6 (A7 3 a)) <| og (H6 (A7 17 a)) <| some (.H7 [(.agg ((A7 0 a)::(iI 0)::(iI 0)::(A7 3 a)::(.str ⟨#[]⟩)::(iI 0)::(.str ⟨#[]⟩)::(Pd ((.list 1 [])::(Pe (Pe [(A7 17 a), (.list 7 []), (.list 20 [])])))))), (iI 0)])) (ob (A8 .eql (A7 0 a) (iI 2)) fun d2 => D7 d2 (og (H6 (A7 5 a)) <| some (.H7 [(.agg ((A7 0 a)::(iI 0)::(iI 0)::(.str ⟨#[]⟩)::(.str ⟨#[]⟩)::(A7 5 a)::(.str ⟨#[]⟩)::(iI 0)::(wT [(.list 20 [])]))), (iI 0)])) (ob (A8 .eql (A7 0 a) (iI 3)) fun d3 => D7 d3 (og (H6 (A7 5 a)) <| some (.H7 [(.agg ((A7 0 a)::(iI 0)::(iI 0)::(.str ⟨#[]⟩)::(.str ⟨#[]⟩)::(A7 5 a)::(.str ⟨#[]⟩)::(iI 0)::(wT [(.list 20 [])]))), (iI 0)])) (ob (A8 .eql (A7 0 a) (iI 4)) fun d4 =>
 D7 d4 (og (H6 (A7 6 a)) <| some (.H7 [(.agg ((A7 0 a)::(iI 0)::(iI 0)::(.str ⟨#[]⟩)::(.str ⟨#[]⟩)::(iI 0)::(A7 6 a)::(iI 0)::(wT [(.list 20 [])]))), (iI 0)])) (ob (A8 .eql (A7 0 a) (iI 5)) fun d5 => D7 d5 (some (.H7 [(.agg ((A7 0 a)::(Mh []))), (iI 0)])) (ob (A8 .eql (A7 0 a) (iI 7)) fun d6 => D7 d6 (some (.H7 [(.agg ((A7 0 a)::(zz9 (Pd ((.list 1 [])::(A7 11 a)::(A7 12 a)::(A7 13 a)::(Pe (B0h []))))))), (iI 0)])) (ob (A8 .eql (A7 0 a) (iI 6)) fun d7 => D7 d7 (some (.H7 [(.agg ((A7 0 a)::(Mh []))), (iI 2)])) (ob (A8 .eql (A7 0 a) (iI 8)) fun d8 =>
 D7 d8 (some (.H7 [(.agg ((A7 0 a)::(Mh []))), (iI 2)])) (ob (A8 .eql (A7 0 a) (iI 10)) fun d9 => D7 d9 (some (.H7 [(.agg ((A7 0 a)::(Mh []))), (iI 2)])) (ob (A8 .eql (A7 0 a) (iI 9)) fun d10 => D7 d10 (og (H6 (A7 3 a)) <| some (.H7 [(.agg ((A7 0 a)::(iI 0)::(iI 0)::(A7 3 a)::(.str ⟨#[]⟩)::(iI 0)::(.str ⟨#[]⟩)::(Pd ((.list 1 [])::(A7 11 a)::(A7 12 a)::(A7 13 a)::(Pe (B0h [])))))), (iI 1)])) (YR R (A7 0 a) a (.str ⟨#[]⟩) (.str ⟨#[]⟩) (.str ⟨#[]⟩) (A7 0 a) (.str ⟨#[]⟩) (.str ⟨#[]⟩) (.str ⟨#[]⟩)))))))))))) := E8 [25]
theorem mJ : YR R a b c d e f g h o =
 (ob (A8 .eql a (iI 11)) fun d1 => D7 d1 (og (H6 (A7 3 b)) <| og (H6 (A7 10 b)) <| some (.H7 [(.agg (f::(iI 0)::(iI 0)::(A7 3 b)::h::(iI 0)::o::(Pd ((A7 10 b)::(Pe (Pe (B0h []))))))), (iI 2)])) (ob (A8 .eql a (iI 12)) fun d2 => D7 d2 (og (H6 (A7 3 b)) <| og (H6 (A7 4 b)) <| og (H6 (A7 10 b)) <| some (.H7 [(.agg (f::(iI 0)::(iI 0)::(A7 3 b)::(A7 4 b)::(iI 0)::o::(Pd ((A7 10 b)::(A7 11 b)::(A7 12 b)::(A7 13 b)::(A7 14 b)::(A7 15 b)::(A7 16 b)::(B0h []))))), (iI 2)])) (ob (A8 .eql a (iI 13)) fun d3 => D7 d3 (some (.H7 [(.agg (f::(iI 0)::(iI 0)::g::h::(iI 0)::o::(iI 0)::(wT [(.list 20 [])]))), (iI 3)])) (ob (A8 .eql a (iI 14)) fun d4 =>
 D7 d4 (og (H6 (A7 18 b)) <| ob (dLen (A7 18 b)) fun d5 => ob (A8 .add d5 (iI 1)) fun d6 => some (.H7 [(.agg (f::(A7 1 b)::(A7 2 b)::g::h::(iI 0)::o::(Pd ((.list 1 [])::(Pe (Pe [(.list 3 []), (A7 18 b), (.list 20 [])])))))), d6])) (ob (A8 .eql a (iI 15)) fun d7 => D7 d7 (og (H6 (A7 7 b)) <| some (.H7 [(.agg (f::(A7 1 b)::(A7 2 b)::g::h::(iI 0)::o::(A7 7 b)::(wT [(.list 20 [])]))), (iI 2)])) (ob (A8 .eql a (iI 16)) fun d8 => D7 d8 (og (H6 (A7 8 b)) <| og (H6 (A7 9 b)) <| some (.H7 [(.agg (f::(iI 0)::(iI 0)::g::h::(iI 0)::o::(iI 0)::(A7 8 b)::(A7 9 b)::(.list 1 [])::(A7 11 b)::(A7 12 b)::(A7 13 b)::(A7 14 b)::(A7 15 b)::(A7 16 b)::(B0h []))), (iI 1)])) (some (.H7 [(.agg (f::(iI 0)::(iI 0)::g::h::(iI 0)::o::(iI 0)::(wT [(.list 20 [])]))), (.int .i64 (-1))])))))))) := E8 [25]
theorem zK : (run cfg).p pQ [a] = A4l (run cfg) a := N8 Tryz.func104
def A4m := eP Tryz.f105 QL R [] (F4 Tryz.f105 [(a, .val), (b, .val)] [])
def aZ := eP Tryz.f105 QL R (pb 7) (ms 153 [] [] [(2, bx a 20), (3, bx b 20)] [])
def Qi := hP Tryz.f105 QL R (pb 122) (ms 153 [(5, a)] [] [(2, bx b 20), (3, bx c 20)] [])
def OB := hP Tryz.f105 QL R (pb 250) (ms 153 [(6, a)] [] [(2, bx b 20), (3, bx c 20)] [])
theorem A2n : A4m R a b =
 (og (D6 20 a) <| og (D6 20 b) <| ob (A8 .neq (A7 0 a) (A7 0 b)) fun d1 => F7 d1 sF (ob (WA [.int, .int] (.agg [(A7 1 a), (A7 2 a)]) (.agg [(A7 1 b), (A7 2 b)])) fun b2 => F7 (.bool !b2) sF (ob (A8 .neq (A7 3 a) (A7 3 b)) fun d3 => F7 d3 sF (ob (A8 .neq (A7 4 a) (A7 4 b)) fun d4 => F7 d4 sF (ob (A8 .neq (A7 5 a) (A7 5 b)) fun d5 => F7 d5 sF (ob (A8 .neq (A7 6 a) (A7 6 b)) fun d6 => F7 d6 sF (ob (A8 .neq (A7 7 a) (A7 7 b)) fun d7 => F7 d7 sF (ob (A8 .neq (A7 8 a) (A7 8 b)) fun d8 => F7 d8 sF (ob (UE (A7 9 a) (A7 9 b)) fun b9 => D7 (.bool !b9) sF (aZ R a b)) none) none) none) none) none) none) none) none) := E8 [3]
theorem tF : aZ R a b =
 (ob (dLen (A7 10 a)) fun d1 => ob (dLen (A7 10 b)) fun d2 => ob (A8 .neq d1 d2) fun d3 => F7 d3 sF (ob (dLen (A7 18 a)) fun d4 => ob (dLen (A7 18 b)) fun d5 => ob (A8 .neq d4 d5) fun d6 => F7 d6 sF (ob (R.p YO [(A7 17 a), (A7 17 b)]) fun d7 => ob (M5 .not d7) fun d8 => F7 d8 sF (ob (R.p GN [(.agg [(A7 11 a), (A7 12 a), (A7 13 a)]), (.agg [(A7 11 b), (A7 12 b), (A7 13 b)])]) fun d9 => ob (M5 .not d9) fun d10 => F7 d10 sF (ob (R.p GN [(.agg [(A7 14 a), (A7 15 a), (A7 16 a)]), (.agg [(A7 14 b), (A7 15 b), (A7 16 b)])]) fun d11 => ob (M5 .not d11) fun d12 => D7 d12 sF (Qi R (iI 0) a b)) none) none) none) none) := E8 [3]
theorem WM : Qi R a b c =
 (ob (dLen (A7 10 b)) fun d1 => ob (A8 .lss a d1) fun d2 => D7 d2 (ob (F5 1 (A7 10 b) a) fun d3 => og (M4 d3) <| ob (F5 1 (A7 10 c) a) fun d4 => og (M4 d4) <| ob (A8 .neq d3 d4) fun d5 => D7 d5 sF (ob (A8 .add a (iI 1)) fun d6 => Qi R d6 b c)) (OB R (iI 0) b c)) := I7 [3]
theorem Ud : OB R a b c =
 (ob (dLen (A7 18 b)) fun d1 => ob (A8 .lss a d1) fun d2 => D7 d2 (ob (A8 .add a (iI 1)) fun d3 => ob (Ak 7 (A7 18 b) (some a) (some d3)) fun d4 => og (H6 d4) <| ob (A8 .add a (iI 1)) fun d5 => ob (Ak 7 (A7 18 c) (some a) (some d5)) fun d6 => og (H6 d6) <| ob (R.p TJ [(.agg ((iI 14)::(zz9 ((iI 0)::(Pe (Pe [d4, (.list 16 [])])))))), (.agg ((iI 14)::(zz9 ((iI 0)::(Pe (Pe [d6, (.list 16 [])]))))))]) fun d7 => ob (M5 .not d7) fun d8 => D7 d8 sF (ob (A8 .add a (iI 1)) fun d9 => OB R d9 b c)) sT) := I7 [3]
theorem zL : (run cfg).p Zc [a, b] = A4m (run cfg) a b := N8 Tryz.func105
def A1H := eP Tryz.f106 dG R [] (F4 Tryz.f106 [(a, .val)] [])
def Gu := hP Tryz.f106 dG R (pb 58) (ms 45 [(3, a)] [] [(1, bx b 3)] [])
theorem yH : A1H R a =
 (og (D6 3 a) <| ob (R.p Np [(A7 0 a)]) fun d1 => ob (dLen (A7 2 a)) fun d2 => ob (A8 .neq d1 d2) fun d3 => F7 d3 sF (ob (A8 .lss (A7 1 a) (iI 0)) fun d4 => F7 d4 sF (ob (A8 .gtr (A7 1 a) (iI 1048576)) fun d5 => F7 d5 sF (ob (A8 .neq (A7 0 a) (iI 6)) fun d6 => F7 d6 (ob (A8 .neq (A7 1 a) (iI 0)) fun d7 => D7 d7 sF (Gu R (iI 0) a)) (Gu R (iI 0) a) none) none) none) none) := E8 []
theorem UY : Gu R a b =
 (ob (dLen (A7 2 b)) fun d1 => ob (A8 .lss a d1) fun d2 => D7 d2 (ob (F5 3 (A7 2 b) a) fun d3 => ob (R.p Du [(W9 d3)]) fun d4 => ob (M5 .not d4) fun d5 => D7 d5 sF (ob (A8 .add a (iI 1)) fun d6 => Gu R d6 b)) sT) := I7 []
theorem uZ : (run cfg).p Du [a] = A1H (run cfg) a := N8 Tryz.func106
def k_ := eP Tryz.f107 Uy R [] (F4 Tryz.f107 [(a, .val)] [])
def JY := hP Tryz.f107 Uy R (pb 122) (ms 24 [(3, a), (4, b)] [] [] [])
theorem gm : k_ R a =
 (og (D6 7 a) <| ob (R.p fT [(IP a)]) fun d1 => ob (M5 .not d1) fun d2 => D7 d2 sF (ob (R.p jT [(IP a)]) fun d3 => JY R d3 (iI 0))) := E8 []
theorem NH : JY R a b =
 (ob (dLen a) fun d1 => ob (A8 .lss b d1) fun d2 => D7 d2 (ob (Ak 1 a none (some b)) fun d3 => ob (F5 1 a b) fun d4 => og (M4 d4) <| ob (R.p wV [d3, d4]) fun d5 => D7 d5 sF (ob (A8 .add b (iI 1)) fun d6 => JY R a d6)) sT) := I7 []
theorem bz : (run cfg).p Vp [a] = k_ (run cfg) a := N8 Tryz.func107
def A39 := eP Tryz.f108 jo R [] (F4 Tryz.f108 [(a, .val)] [])
def Qd := hP Tryz.f108 jo R (pb 58) (ms 32 [(0, a), (3, b)] [] [] [])
theorem A2a : A39 R a =
 (ob (CF a) fun d1 => ob (A8 .lss d1 (iI 1)) fun d2 => F7 d2 sF (ob (CF a) fun d3 => ob (A8 .gtr d3 (iI 32)) fun d4 => F7 d4 sF (ob (j6 a (iI 0)) fun d5 => ob (R.p Pi [d5]) fun d6 => ob (M5 .not d6) fun d7 => D7 d7 sF (Qd R a (iI 0))) none) none) := E8 []
theorem WF : Qd R a b =
 (ob (CF a) fun d1 => ob (A8 .lss b d1) fun d2 => D7 d2 (ob (j6 a b) fun d3 => ob (R.p pI [d3]) fun d4 => ob (M5 .not d4) fun d5 => D7 d5 sF (ob (A8 .add b (iI 1)) fun d6 => Qd R a d6)) (ob (R.p wU [a]) fun d7 => ob (M5 .not d7) fun d8 => some d8)) := I7 []
theorem yx : (run cfg).p Ic [a] = A39 (run cfg) a := N8 Tryz.func108
def A6t := eP Tryz.f109 qL R [] (F4 Tryz.f109 [(a, .val), (b, .val)] [])
def Tt := hP Tryz.f109 qL R (pb 26) (ms 18 [(0, a), (1, b), (5, c)] [] [] [])
theorem A4W : A6t R a b =
 (Tt R a b (iI 0)) := E8 []
theorem YX : Tt R a b c =
 (ob (dLen a) fun d1 => ob (A8 .lss c d1) fun d2 => D7 d2 (ob (F5 1 a c) fun d3 => og (M4 d3) <| ob (A8 .eql d3 b) fun d4 => D7 d4 sT (ob (A8 .add c (iI 1)) fun d5 => Tt R a b d5)) sF) := I7 []
theorem A2M : (run cfg).p wV [a, b] = A6t (run cfg) a b := N8 Tryz.func109
def A1y := eP Tryz.f132 dB R [] (F4 Tryz.f132 [(a, .val)] [])
def Nw := hP Tryz.f132 dB R (pb 26) (ms 32 [(0, a), (3, b)] [] [] [])
theorem yC : A1y R a =
 (Nw R a (iI 0)) := E8 []
theorem UJ : Nw R a b =
 (ob (dLen a) fun d1 => ob (A8 .lss b d1) fun d2 => D7 d2 (ob (F5 3 a b) fun d3 => ob (R.p jN [(.list 3 [(W9 d3)])]) fun d4 => F7 d4 sF (ob (F5 3 a b) fun d5 => ob (R.p Zb [(W9 d5), (iI 60)]) fun d6 => F7 d6 sF (ob (F5 3 a b) fun d7 => ob (R.p pJ [(W9 d7)]) fun d8 => ob (dLen d8) fun d9 => ob (A8 .gtr d9 (iI 8)) fun d10 => D7 d10 sF (ob (A8 .add b (iI 1)) fun d11 => Nw R a d11)) none) none) sT) := I7 []
theorem uU : (run cfg).p jO [a] = A1y (run cfg) a := N8 Tryz.func132
def A4e := eP Tryz.f133 jv R [] (F4 Tryz.f133 [(a, .val)] [])
def Qf := hP Tryz.f133 jv R (pb 58) (ms 21 [(3, a), (4, b)] [] [(1, bx c 3)] [])
theorem A2f : A4e R a =
 (og (D6 3 a) <| Qf R (iI 1) (iI 0) a) := E8 []
theorem WH : Qf R a b c =
 (ob (dLen (A7 2 c)) fun d1 => ob (A8 .lss b d1) fun d2 => D7 d2 (ob (F5 3 (A7 2 c) b) fun d3 => ob (R.p ZY [(W9 d3)]) fun d4 => ob (A8 .add a d4) fun d5 => ob (A8 .add b (iI 1)) fun d6 => Qf R d5 d6 c) (some a)) := I7 []
theorem zC : (run cfg).p ZY [a] = A4e (run cfg) a := N8 Tryz.func133
def gI := eP Tryz.f134 Rm R [] (F4 Tryz.f134 [(a, .val), (b, .val)] [])
def Ip := hP Tryz.f134 Rm R (pb 58) (ms 27 [(1, a), (5, b)] [] [(2, bx c 3)] [])
theorem bX : gI R a b =
 (og (D6 3 a) <| ob (A8 .add b (iI 1)) fun d1 => Ip R d1 (iI 0) a) := E8 []
theorem Vf : Ip R a b c =
 (ob (dLen (A7 2 c)) fun d1 => ob (A8 .lss b d1) fun d2 => F7 d2 (ob (A8 .leq a (iI 20000)) fun d3 => D7 d3 (ob (F5 3 (A7 2 c) b) fun d4 => ob (R.p FZ [(W9 d4), a]) fun d5 => ob (A8 .add b (iI 1)) fun d6 => Ip R d5 d6 c) (some a)) (some a) none) := I7 []
theorem ZL : (run cfg).p FZ [a, b] = gI (run cfg) a b := N8 Tryz.func134
def A4y := eP Tryz.f135 JG R [] (F4 Tryz.f135 [(a, .val)] [])
def af := eP Tryz.f135 JG R (pb 115) (ms 183 [] [] [(1, bx a 20), (3, bx b 13)] [])
def FI := eP Tryz.f135 JG R (pb 463) (ms 183 [] [] [(1, bx a 20), (3, bx b 13)] [])
def Jk := eP Tryz.f135 JG R (pb 1855) (ms 183 [] [] [(1, bx a 20), (3, bx b 13)] [])
def IV := eP Tryz.f135 JG R (pb 7423) (ms 183 [] [] [(1, bx a 20), (3, bx b 13)] [])
def Qs := eP Tryz.f135 JG R (pb 29695) (ms 183 [] [] [(1, bx a 20), (3, bx b 13)] [])
theorem A2A : A4y R a =
 (og (D6 20 a) <| ob (R.p Ns [(Q6 a)]) fun d1 => ob (J5 0 d1) fun d2 => ob (J5 1 d1) fun d3 => og (D6 13 d2) <| ob (M5 .not d3) fun d4 => F7 d4 sF (ob (dLen (A7 19 a)) fun d5 => ob (A8 .neq d5 (A7 12 d2)) fun d6 => F7 d6 sF (ob (R.p TN [(A7 0 d2), (A7 3 a)]) fun d7 => ob (M5 .not d7) fun d8 => F7 d8 sF (ob (R.p TN [(A7 1 d2), (A7 4 a)]) fun d9 => ob (M5 .not d9) fun d10 => F7 d10 sF (ob (R.p TQ [(A7 9 d2), (.agg [(A7 11 a), (A7 12 a), (A7 13 a)])]) fun d11 => ob (M5 .not d11) fun d12 => F7 d12 sF (ob (R.p TQ [(A7 10 d2), (.agg [(A7 14 a), (A7 15 a), (A7 16 a)])]) fun d13 => ob (M5 .not d13) fun d14 => D7 d14 sF (af R a d2)) none) none) none) none) none) := E8 [4, 6, 8, 10, 12]
theorem uC : af R a b =
 (ob (M5 .not (A7 2 b)) fun d1 => F7 d1 (ob (A8 .neq (A7 5 a) (iI 0)) fun d2 => F7 d2 sF (ob (A8 .eql (A7 0 a) (iI 3)) fun d3 => F7 d3 (ob (A8 .neq (A7 5 a) (iI 0)) fun d4 => F7 d4 (ob (A8 .neq (A7 5 a) (iI 1)) fun d5 => D7 d5 sF (FI R a b)) (FI R a b) none) (FI R a b) none) none) (ob (A8 .eql (A7 0 a) (iI 3)) fun d6 => F7 d6 (ob (A8 .neq (A7 5 a) (iI 0)) fun d7 => F7 d7 (ob (A8 .neq (A7 5 a) (iI 1)) fun d8 => D7 d8 sF (FI R a b)) (FI R a b) none) (FI R a b) none) none) := E8 [4, 6, 8, 10, 12]
theorem uD : FI R a b =
 (ob (M5 .not (A7 3 b)) fun d1 => F7 d1 (ob (A8 .neq (A7 6 a) (.str ⟨#[]⟩)) fun d2 => F7 d2 sF (ob (CF (A7 6 a)) fun d3 => ob (A8 .gtr d3 (iI 200)) fun d4 => F7 d4 sF (ob (M5 .not (A7 5 b)) fun d5 => F7 d5 (ob (WA [.int, .int] (.agg [(A7 1 a), (A7 2 a)]) (.agg [(iI 0), (iI 0)])) fun b6 => D7 (.bool !b6) sF (Jk R a b)) (Jk R a b) none) none) none) (ob (CF (A7 6 a)) fun d7 => ob (A8 .gtr d7 (iI 200)) fun d8 => F7 d8 sF (ob (M5 .not (A7 5 b)) fun d9 => F7 d9 (ob (WA [.int, .int] (.agg [(A7 1 a), (A7 2 a)]) (.agg [(iI 0), (iI 0)])) fun b10 => D7 (.bool !b10) sF (Jk R a b)) (Jk R a b) none) none) none) := E8 [4, 6, 8, 10, 12]
theorem uE : Jk R a b =
 (F7 (A7 4 b) (ob (A8 .lss (A7 7 a) (iI 1)) fun d1 => F7 d1 sF (ob (A8 .gtr (A7 7 a) (iI 7)) fun d2 => F7 d2 sF (ob (M5 .not (A7 4 b)) fun d3 => F7 d3 (ob (A8 .neq (A7 7 a) (iI 0)) fun d4 => D7 d4 sF (IV R a b)) (IV R a b) none) none) none) (ob (M5 .not (A7 4 b)) fun d5 => F7 d5 (ob (A8 .neq (A7 7 a) (iI 0)) fun d6 => D7 d6 sF (IV R a b)) (IV R a b) none) none) := E8 [4, 6, 8, 10, 12]
theorem mX : IV R a b =
 (ob (M5 .not (A7 11 b)) fun d1 => F7 d1 (ob (A8 .neq (A7 8 a) (iI 0)) fun d2 => F7 d2 sF (F7 (A7 9 a) sF (ob (A8 .lss (A7 8 a) (iI 0)) fun d3 => F7 d3 sF (ob (A8 .gtr (A7 8 a) (iI 1048576)) fun d4 => D7 d4 sF (Qs R a b)) none) none) none) (ob (A8 .lss (A7 8 a) (iI 0)) fun d5 => F7 d5 sF (ob (A8 .gtr (A7 8 a) (iI 1048576)) fun d6 => D7 d6 sF (Qs R a b)) none) none) := E8 [4, 6, 8, 10, 12]
theorem mY : Qs R a b =
 (ob (M5 .not (A7 6 b)) fun d1 => F7 d1 (ob (dLen (A7 10 a)) fun d2 => ob (A8 .gtr d2 (iI 0)) fun d3 => F7 d3 sF (ob (M5 .not (A7 7 b)) fun d4 => F7 d4 (ob (dLen (A7 17 a)) fun d5 => ob (A8 .gtr d5 (iI 0)) fun d6 => F7 d6 sF (ob (M5 .not (A7 8 b)) fun d7 => F7 d7 (ob (dLen (A7 18 a)) fun d8 => ob (A8 .gtr d8 (iI 0)) fun d9 => D7 d9 sF (ob (R.p Cz [(Q6 a)]) fun d10 => some d10)) (ob (R.p Cz [(Q6 a)]) fun d11 => some d11) none) none) (ob (M5 .not (A7 8 b)) fun d12 => F7 d12 (ob (dLen (A7 18 a)) fun d13 => ob (A8 .gtr d13 (iI 0)) fun d14 => D7 d14 sF (ob (R.p Cz [(Q6 a)]) fun d15 => some d15)) (ob (R.p Cz [(Q6 a)]) fun d16 => some d16) none) none) none) (ob (M5 .not (A7 7 b)) fun d17 => F7 d17 (ob (dLen (A7 17 a)) fun d18 => ob (A8 .gtr d18 (iI 0)) fun d19 => F7 d19 sF (ob (M5 .not (A7 8 b)) fun d20 => F7 d20 (ob (dLen (A7 18 a)) fun d21 => ob (A8 .gtr d21 (iI 0)) fun d22 => D7 d22 sF (ob (R.p Cz [(Q6 a)]) fun d23 =>
 some d23)) (ob (R.p Cz [(Q6 a)]) fun d24 => some d24) none) none) (ob (M5 .not (A7 8 b)) fun d25 => F7 d25 (ob (dLen (A7 18 a)) fun d26 => ob (A8 .gtr d26 (iI 0)) fun d27 => D7 d27 sF (ob (R.p Cz [(Q6 a)]) fun d28 => some d28)) (ob (R.p Cz [(Q6 a)]) fun d29 => some d29) none) none) none) := E8 [4, 6, 8, 10, 12]
theorem zY : (run cfg).p pR [a] = A4y (run cfg) a := N8 Tryz.func135
def A4D := eP Tryz.f137 A3a R [] (F4 Tryz.f137 [(a, .val)] [])
theorem A2G : A4D R a =
 (og (D6 5 a) <| ob (A8 .eql (A7 0 a) (iI 0)) fun d1 => F7 d1 (ob (A8 .eql (A7 1 a) (iI 0)) fun d2 => F7 d2 (ob (A8 .eql (A7 2 a) (iI 0)) fun d3 => F7 d3 (ob (M5 .not (A7 3 a)) fun d4 => F7 d4 (ob (dLen (A7 4 a)) fun d5 => ob (A8 .eql d5 (iI 0)) fun d6 => some d6) sF none) sF none) sF none) sF none) := E8 []
theorem zh : (run cfg).p TY [a] = A4D (run cfg) a := N8 Tryz.func137
def xV := eP Tryz.f138 Yi R [] (F4 Tryz.f138 [(a, .val), (b, .val)] [])
def OI := eP Tryz.f138 Yi R (pb 15) (ms 50 [] [] [(2, bx a 9), (3, bx b 5), (4, some TC), (5, some pE), (7, bv [c, d, e, f, g])] [])
theorem uK : xV R a b =
 (og (D6 9 a) <| og (D6 5 b) <| ob (R.p TY [(.agg [(A7 3 a), (A7 4 a), (A7 5 a), (A7 6 a), (A7 7 a)])]) fun d1 => D7 d1 (OI R a b (iI 1) (iI 0) (iI 0) (.bool false) (.list 5 [])) (OI R a b (A7 3 a) (A7 4 a) (A7 5 a) (A7 6 a) (A7 7 a))) := E8 [4]
theorem iF : OI R a b c d e f g =
 (ob (R.p Wz [(.agg [c, d, e, f, g]), (P6 b)]) fun d1 => ob (J5 0 d1) fun d2 => ob (J5 1 d1) fun d3 => og (D6 5 d2) <| ob (A8 .neq d3 (iI 0)) fun d4 => D7 d4 (some (.H7 [(.agg (P9 [])), (.agg ((iI 0)::(P9 (Bz [])))), (iI 8)])) (ob (A8 .eql (A7 0 d2) (iI 7)) fun d5 => D7 d5 (ob (R.p jc [(P6 d2)]) fun d6 => og (D6 15 d6) <| some (.H7 [(.agg (P9 [])), (EU d6), (iI 0)])) (ob (A8 .eql (A7 0 d2) (iI 1)) fun d7 => D7 d7 (some (.H7 [(.agg ((A7 0 a)::(A7 1 a)::(A7 2 a)::(Ab [(A7 8 a)]))), (.agg ((iI 0)::(P9 (Bz [])))), (iI 0)])) (ob (R.p aV [(.agg [(A7 0 a), (A7 1 a), (A7 2 a), (A7 0 d2), (A7 1 d2), (A7 2 d2), (A7 3 d2), (A7 4 d2), (A7 8 a)])]) fun d8 =>
 ob (M5 .not d8) fun d9 => D7 d9 (some (.H7 [(.agg (P9 [])), (.agg ((iI 0)::(P9 (Bz [])))), (iI 8)])) (some (.H7 [(.agg [(A7 0 a), (A7 1 a), (A7 2 a), (A7 0 d2), (A7 1 d2), (A7 2 d2), (A7 3 d2), (A7 4 d2), (A7 8 a)]), (.agg ((iI 0)::(P9 (Bz [])))), (iI 0)])))))) := E8 [4]
theorem nX : (run cfg).p Mm [a, b] = xV (run cfg) a b := N8 Tryz.func138
def A1Z := eP Tryz.f139 A0b R [] (F4 Tryz.f139 [(a, .val)] [])
theorem yZ : A1Z R a =
 (og (D6 3 a) <| ob (R.p XI [(W9 a)]) fun d1 => ob (M5 .not d1) fun d2 => D7 d2 (some (iI 1)) (some (iI 0))) := E8 []
theorem vD : (run cfg).p Eu [a] = A1Z (run cfg) a := N8 Tryz.func139
def rQ := eP Tryz.f140 nu R [] (F4 Tryz.f140 [(a, .val), (b, .val)] [])
theorem lZ : rQ R a b =
 (og (D6 3 a) <| og (D6 3 b) <| ob (R.p Eu [(W9 a)]) fun d1 => ob (A8 .eql d1 (iI 0)) fun d2 => F7 d2 (ob (R.p Eu [(W9 b)]) fun d3 => ob (A8 .eql d3 (iI 0)) fun d4 => F7 d4 (ob (R.p Nk [(W9 a), (W9 b)]) fun d5 => some d5) sF none) sF none) := E8 []
theorem iH : (run cfg).p YL [a, b] = rQ (run cfg) a b := N8 Tryz.func140
end
end Go.Su

/-
 Equations of the program's functions: by program.
-/
namespace Go.Su
set_option maxRecDepth 100000
noncomputable section
open Go.Proofs
variable (R : Q8) (i j k l m n : Nat) (a b c d e f g h o p q r t u v w x y z A B C D E F G H I J K L M N O P Q S T U V W X Y Z a1 a2 a3 a4 a5 a6 a7 a8 a9 a10 a11 a12 a13 a14 a15 a16 a17 a18 a19 a20 a21 a22 a23 a24 a25 a26 a27 a28 a29 a30 a31 a32 a33 a34 a35 a36 a37 a38 a39 a40 a41 a42 a43 a44 a45 a46 a47 a48 a49 a50 a51 a52 a53 a54 a55 a56 a57 a58 a59 : DV) (s : List C9)
def xS := eP Tryz.f141 Qx R [] (F4 Tryz.f141 [(a, .val), (b, .val), (c, .val), (d, .val)] [])
def Iq := eP Tryz.f141 Qx R (pb 31) (ms 143 [] [] [(8, some zb0), (13, bv (a::(Pd [b])))] [])
def KZ := hP Tryz.f141 Qx R (pb 250) (ms 143 [(131, a), (132, b), (133, c)] [] [(8, some zb0), (13, bv (d::(Pd [e])))] [])
theorem uI : xS R a b c d =
 (og (D6 3 a) <| og (D6 3 b) <| ob (R.p Zk [(W9 a), (W9 b)]) fun d1 => D7 d1 (ob (R.p TS []) fun d2 => og (D6 5 d2) <| some (P6 d2)) (ob (A8 .eql (A7 0 a) (iI 5)) fun d3 => D7 d3 (ob (R.p QX [(W9 b)]) fun d4 => ob (J5 0 d4) fun d5 => ob (J5 1 d4) fun d6 => og (D6 3 d5) <| ob (R.p C_ [(W9 d5), (W9 b), c, d]) fun d7 => og (D6 5 d7) <| og (H6 (A7 0 b)) <| og (H6 c) <| og (H6 d) <| some (.agg [(iI 6), (A7 0 b), c, d, (.list 5 [d7])])) (ob (A8 .eql (A7 0 b) (iI 5)) fun d8 => D7 d8 (ob (R.p QX [(W9 a)]) fun d9 => ob (J5 0 d9) fun d10 => ob (J5 1 d9) fun d11 => og (D6 3 d10) <| ob (R.p C_ [(W9 a), (W9 d10), c, d]) fun d12 => og (D6 5 d12) <| og (H6 (A7 0 a)) <| some (.agg [(iI 5), (A7 0 a), (iI 0), (.bool false), (.list 5 [d12])])) (ob (A8 .eql (A7 0 a) (iI 9)) fun d13 => D7 d13 (ob (F5 3 (A7 2 b) (iI 0)) fun d14 => ob (F5 3 (A7 2 a) (iI 0)) fun d15 => ob (M5 .not d) fun d16 => ob (R.p C_ [(W9 d14), (W9 d15), c, d16]) fun d17 => ob (F5 3 (A7 2 a) (iI 1)) fun d18 =>
 ob (F5 3 (A7 2 b) (iI 1)) fun d19 => ob (R.p C_ [(W9 d18), (W9 d19), c, d]) fun d20 => og (D6 5 d17) <| og (D6 5 d20) <| Iq R (iI 2) (.list 5 [d17, d20])) (ob (A8 .eql (A7 0 a) (iI 7)) fun d21 => D7 d21 (ob (F5 3 (A7 2 a) (iI 0)) fun d22 => ob (F5 3 (A7 2 b) (iI 0)) fun d23 => ob (R.p C_ [(W9 d22), (W9 d23), c, d]) fun d24 => ob (F5 3 (A7 2 a) (iI 1)) fun d25 => ob (F5 3 (A7 2 b) (iI 1)) fun d26 => ob (R.p C_ [(W9 d25), (W9 d26), c, d]) fun d27 => og (D6 5 d24) <| og (D6 5 d27) <| Iq R (iI 3) (.list 5 [d24, d27])) (ob (F5 3 (A7 2 a) (iI 0)) fun d28 => ob (F5 3 (A7 2 b) (iI 0)) fun d29 => ob (R.p C_ [(W9 d28), (W9 d29), c, d]) fun d30 => og (D6 5 d30) <| Iq R (iI 4) (.list 5 [d30]))))))) := E8 [18]
theorem bY : Iq R a b =
 (ob (dLen b) fun d1 => KZ R b d1 (iI 0) a b) := E8 [18]
theorem PU : KZ R a b c d e =
 (ob (A8 .lss c b) fun d1 => D7 d1 (ob (F5 5 a c) fun d2 => ob (A8 .neq (A7 0 d2) (iI 1)) fun d3 => D7 d3 (some (.agg (d::(Pd [e])))) (ob (A8 .add c (iI 1)) fun d4 => KZ R a b d4 d e)) (ob (R.p TS []) fun d5 => og (D6 5 d5) <| some (P6 d5))) := I7 [18]
theorem nV : (run cfg).p C_ [a, b, c, d] = xS (run cfg) a b c d := N8 Tryz.func141
def A1u := eP Tryz.f142 zl R [] (F4 Tryz.f142 [(a, .val), (b, .val)] [])
theorem xy : A1u R a b =
 (og (D6 5 a) <| og (D6 5 b) <| ob (R.p Cw [(P6 a)]) fun d1 => ob (A8 .neq d1 (iI 0)) fun d2 => F7 d2 (some (.H7 [(.agg (Ab [])), (iI 1)])) (ob (R.p Cw [(P6 b)]) fun d3 => ob (A8 .neq d3 (iI 0)) fun d4 => D7 d4 (some (.H7 [(.agg (Ab [])), (iI 1)])) (ob (R.p Dt [(P6 a), (P6 b)]) fun d5 => ob (J5 0 d5) fun d6 => ob (J5 1 d5) fun d7 => og (D6 5 d6) <| ob (M5 .not d7) fun d8 => F7 d8 (some (.H7 [(.agg (Ab [])), (iI 8)])) (ob (R.p Cw [(P6 d6)]) fun d9 => ob (A8 .neq d9 (iI 0)) fun d10 => D7 d10 (some (.H7 [(.agg (Ab [])), (iI 8)])) (some (.H7 [(P6 d6), (iI 0)]))) none)) none) := E8 []
theorem uP : (run cfg).p Wz [a, b] = A1u (run cfg) a b := N8 Tryz.func142
def wy := eP Tryz.f143 vN R [] (F4 Tryz.f143 [(a, .val)] [])
theorem sZ : wy R a =
 (D7 a (some (.agg ((iI 2)::(iI 1)::(.str ⟨#[]⟩)::(Ab [(.list 9 [])])))) (some (.agg ((iI 2)::(iI 0)::(.str ⟨#[]⟩)::(Ab [(.list 9 [])]))))) := E8 []
theorem nA : (run cfg).p Mj [a] = wy (run cfg) a := N8 Tryz.func143
def A4A := eP Tryz.f144 A27 R [] (F4 Tryz.f144 [(a, .val), (b, .val)] [])
theorem A2D : A4A R a b =
 (og (D6 7 a) <| og (D6 9 b) <| oc (R.r FF [(pt 0), ((IP a), .val), ((R8 b), .val)] [C9.box (((.list 10 []), .full)::((iI 0), .val)::(TD (A0W [((iI 0), .val), ((iI 0), .val), ((iI 0), .val)])))]) fun q1 s1 => ob (M5 .not q1) fun d2 => D7 d2 (ob (E9 s1 0) fun c3 => ob (O8 1 15 c3) fun e4 => ob (E9 s1 0) fun c5 => ob (H5 c5 16) fun d6 => og (D6 15 (.agg e4)) <| some (.H7 [(.list 10 []), (.bool false), (.agg (A9k (.agg e4) [])), d6])) (ob (E9 s1 0) fun c7 => ob (H5 c7 0) fun d8 => some (.H7 [d8, (.bool true), (.agg ((iI 0)::(P9 (Bz [])))), (iI 0)]))) := E8 []
theorem zb : (run cfg).p pV [a, b] = A4A (run cfg) a b := N8 Tryz.func144
def A4v := eP Tryz.f145 XT R [] (F4 Tryz.f145 [(a, .val), (b, .val)] [])
def Tx := eP Tryz.f145 XT R (pb 15) (ms 48 [] [] [(2, bx a 9), (3, bx b 5), (4, some TC), (5, some pE), (7, bv [c, d, e, f, g])] [])
def YS := eP Tryz.f145 XT R (pb 511) (ms 48 [] [] [(2, bv [a, b, c, d, e, f, g, h, o]), (4, some TC), (5, some pE)] [])
theorem A2x : A4v R a b =
 (og (D6 9 a) <| og (D6 5 b) <| ob (R.p GQ [(.agg [(A7 3 a), (A7 4 a), (A7 5 a), (A7 6 a), (A7 7 a)])]) fun d1 => D7 d1 (ob (R.p Vq []) fun d2 => og (D6 5 d2) <| Tx R a b (A7 0 d2) (A7 1 d2) (A7 2 d2) (A7 3 d2) (A7 4 d2)) (Tx R a b (A7 3 a) (A7 4 a) (A7 5 a) (A7 6 a) (A7 7 a))) := E8 [4, 12]
theorem tZ : Tx R a b c d e f g =
 (ob (R.p Zd [(.agg [c, d, e, f, g]), (P6 b)]) fun d1 => ob (J5 0 d1) fun d2 => ob (J5 1 d1) fun d3 => og (D6 5 d2) <| ob (M5 .not d3) fun d4 => D7 d4 (some (.H7 [(.agg (P9 [])), (.agg ((iI 0)::(P9 (Bz [])))), (iI 8)])) (ob (A8 .eql (A7 0 d2) (iI 7)) fun d5 => D7 d5 (og (H6 (A7 2 d2)) <| og (H6 (A7 3 d2)) <| some (.H7 [(.agg (P9 [])), (.agg ((iI 2)::(P9 [(A7 2 d2), (A7 3 d2), (iI 0), (iI 0), (iI 0)]))), (iI 0)])) (ob (A8 .eql (A7 0 d2) (iI 1)) fun d6 => D7 d6 (YS R (A7 0 a) (A7 1 a) (A7 2 a) (iI 0) (iI 0) (iI 0) (.bool false) (.list 5 []) (A7 8 a)) (YS R (A7 0 a) (A7 1 a) (A7 2 a) (A7 0 d2) (A7 1 d2) (A7 2 d2) (A7 3 d2) (A7 4 d2) (A7 8 a))))) := E8 [4, 12]
theorem WS : YS R a b c d e f g h o =
 (ob (R.p Rw [(.agg [a, b, c, d, e, f, g, h, o])]) fun d1 => ob (M5 .not d1) fun d2 => D7 d2 (some (.H7 [(.agg (P9 [])), (.agg ((iI 0)::(P9 (Bz [])))), (iI 8)])) (some (.H7 [(.agg [a, b, c, d, e, f, g, h, o]), (.agg ((iI 0)::(P9 (Bz [])))), (iI 0)]))) := E8 [4, 12]
theorem zV : (run cfg).p TM [a, b] = A4v (run cfg) a b := N8 Tryz.func145
def A4x := eP Tryz.f146 A25 R [] (F4 Tryz.f146 [(a, .val)] [])
theorem A2z : A4x R a =
 (og (D6 9 a) <| ob (A8 .eql (A7 0 a) (iI 6)) fun d1 => F7 d1 sT (ob (A8 .eql (A7 0 a) (iI 7)) fun d2 => some d2) none) := E8 []
theorem zX : (run cfg).p Zj [a] = A4x (run cfg) a := N8 Tryz.func146
def A1N := eP Tryz.f147 FL R [] (F4 Tryz.f147 [(a, .val)] [])
def Ql := eP Tryz.f147 FL R (pb 7) (ms 170 [(3, a)] [] [(1, bx b 5)] [])
def Qm := eP Tryz.f147 FL R (pb 15) (ms 170 [(3, a), (4, b)] [] [(1, bx c 5)] [])
def rz := eP Tryz.f147 FL R (pb 1967) (ms 170 [(3, a), (4, b), (26, c)] [] [(1, bx d 5)] [])
def lC := eP Tryz.f147 FL R (pb 62973) (ms 170 [] [] [(1, bx a 5)] [])
def lD := eP Tryz.f147 FL R (pb 31) (ms 170 [(4, a)] [] [(1, bx b 5)] [])
def Im := hP Tryz.f147 FL R (pb 2042) (ms 170 [(7, a), (8, b)] [] [(1, bx c 5)] [])
theorem yN : A1N R a =
 (og (D6 5 a) <| ob (A8 .geq (A7 2 a) (iI 0)) fun d1 => F7 d1 (ob (A8 .leq (A7 2 a) (iI 1048576)) fun d2 => Ql R d2 a) (Ql R (.bool false) a) none) := E8 [2, 3, 8, 13, 15]
theorem mK : Ql R a b =
 (ob (A8 .eql (A7 2 b) (iI 0)) fun d1 => F7 d1 (ob (M5 .not (A7 3 b)) fun d2 => Qm R a d2 b) (Qm R a (.bool false) b) none) := E8 [2, 3, 8, 13, 15]
theorem mM : Qm R a b c =
 (ob (A8 .eql (A7 0 c) (iI 1)) fun d1 => D7 d1 (F7 b (ob (A8 .eql (A7 1 c) (iI 0)) fun d2 => F7 d2 (ob (dLen (A7 4 c)) fun d3 => ob (A8 .eql d3 (iI 0)) fun d4 => some d4) sF none) sF none) (ob (A8 .eql (A7 0 c) (iI 7)) fun d5 => D7 d5 (F7 a (ob (A8 .eql (A7 1 c) (iI 0)) fun d6 => F7 d6 (ob (dLen (A7 4 c)) fun d7 => ob (A8 .eql d7 (iI 0)) fun d8 => some d8) sF none) sF none) (rz R a b (A7 0 c) c))) := E8 [2, 3, 8, 13, 15]
theorem mO : rz R a b c d =
 (ob (A8 .eql c (iI 5)) fun d1 => D7 d1 (F7 b (ob (R.p Zf [(A7 1 d)]) fun d2 => F7 d2 (ob (dLen (A7 4 d)) fun d3 => ob (A8 .eql d3 (iI 1)) fun d4 => F7 d4 (ob (F5 5 (A7 4 d) (iI 0)) fun d5 => ob (R.p XG [(P6 d5), (A7 1 d)]) fun d6 => some d6) sF none) sF none) sF none) (ob (A8 .eql c (iI 6)) fun d7 => D7 d7 (ob (M5 .not a) fun d8 => F7 d8 sF (ob (R.p Zf [(A7 1 d)]) fun d9 => ob (M5 .not d9) fun d10 => F7 d10 sF (ob (dLen (A7 4 d)) fun d11 => ob (A8 .neq d11 (iI 1)) fun d12 => D7 d12 sF (lC R d)) none) none) (lD R b d))) := E8 [2, 3, 8, 13, 15]
theorem gp : lC R a =
 (ob (F5 5 (A7 4 a) (iI 0)) fun d1 => ob (R.p XG [(P6 d1), (A7 1 a)]) fun d2 => F7 d2 sT (ob (A8 .eql (A7 0 d1) (iI 7)) fun d3 => F7 d3 (ob (R.p Dv [(P6 d1)]) fun d4 => some d4) (ob (A8 .eql (A7 0 d1) (iI 5)) fun d5 => F7 d5 (ob (A8 .eql (A7 1 d1) (A7 1 a)) fun d6 => F7 d6 (ob (R.p Dv [(P6 d1)]) fun d7 => some d7) sF none) sF none) none) none) := E8 [2, 3, 8, 13, 15]
theorem gq : lD R a b =
 (ob (R.p Mk [(A7 0 b)]) fun d1 => ob (A8 .eql d1 (iI 0)) fun d2 => F7 d2 sF (ob (M5 .not a) fun d3 => F7 d3 sF (ob (A8 .neq (A7 1 b) (iI 0)) fun d4 => F7 d4 sF (ob (dLen (A7 4 b)) fun d5 => ob (R.p Np [d1]) fun d6 => ob (A8 .neq d5 d6) fun d7 => D7 d7 sF (Im R (.bool false) (iI 0) b)) none) none) none) := E8 [2, 3, 8, 13, 15]
theorem RX : Im R a b c =
 (ob (dLen (A7 4 c)) fun d1 => ob (A8 .lss b d1) fun d2 => D7 d2 (ob (F5 5 (A7 4 c) b) fun d3 => ob (R.p Dv [(P6 d3)]) fun d4 => ob (M5 .not d4) fun d5 => D7 d5 sF (F7 a (ob (A8 .add b (iI 1)) fun d6 => Im R (.bool true) d6 c) (ob (F5 5 (A7 4 c) b) fun d7 => ob (A8 .neq (A7 0 d7) (iI 1)) fun d8 => ob (A8 .add b (iI 1)) fun d9 => Im R d8 d9 c) none)) (some a)) := I7 [2, 3, 8, 13, 15]
theorem uk : (run cfg).p Dv [a] = A1N (run cfg) a := N8 Tryz.func147
def A4s := eP Tryz.f148 A23 R [] (F4 Tryz.f148 [(a, .val)] [])
theorem A2u : A4s R a =
 (og (D6 9 a) <| ob (A8 .eql (A7 0 a) (iI 1)) fun d1 => D7 d1 (some (iI 1)) (ob (A8 .eql (A7 0 a) (iI 2)) fun d2 => D7 d2 (some (iI 2)) (ob (A8 .eql (A7 0 a) (iI 3)) fun d3 => D7 d3 (some (iI 3)) (ob (A8 .eql (A7 0 a) (iI 4)) fun d4 => D7 d4 (some (iI 4)) (ob (A8 .eql (A7 0 a) (iI 5)) fun d5 => D7 d5 (some (iI 7)) (ob (A8 .eql (A7 0 a) (iI 6)) fun d6 => D7 d6 (some (iI 8)) (ob (A8 .eql (A7 0 a) (iI 7)) fun d7 => D7 d7 (some (iI 8)) (some (iI 9))))))))) := E8 []
theorem zS : (run cfg).p Zg [a] = A4s (run cfg) a := N8 Tryz.func148
def xB := eP Tryz.f149 vO R [] (F4 Tryz.f149 [(a, .val)] [])
theorem tH : xB R a =
 (ob (A8 .eql a (iI 2)) fun d1 => D7 d1 (some (iI 9)) (ob (A8 .eql a (iI 3)) fun d2 => D7 d2 (some (iI 7)) (ob (A8 .eql a (iI 4)) fun d3 => D7 d3 (some (iI 8)) (some (iI 0))))) := E8 []
theorem nD : (run cfg).p Mk [a] = xB (run cfg) a := N8 Tryz.func149
def xL := eP Tryz.f150 vU R [] (F4 Tryz.f150 [(a, .val)] [])
theorem tq : xL R a =
 (og (D6 9 a) <| ob (A8 .eql (A7 0 a) (iI 5)) fun d1 => F7 d1 sT (ob (R.p Zj [(R8 a)]) fun d2 => F7 d2 sT (ob (A8 .eql (A7 0 a) (iI 8)) fun d3 => some d3) none) none) := E8 []
theorem nO : (run cfg).p aS [a] = xL (run cfg) a := N8 Tryz.func150
def A1T := eP Tryz.f151 zy R [] (F4 Tryz.f151 [(a, .val), (b, .val)] [])
theorem yS : A1T R a b =
 (og (D6 7 a) <| og (D6 9 b) <| ob (R.r Pk [((IP a), .val), ((R8 b), .val), ((.list 10 []), .own)] []) fun q1 => ob (J5 0 (.H7 q1.1)) fun d2 => ob (J5 1 (.H7 q1.1)) fun d3 => ob (J5 2 (.H7 q1.1)) fun d4 => ob (J5 3 (.H7 q1.1)) fun d5 => og (D6 15 d4) <| ob (M5 .not d3) fun d6 => D7 d6 (some (.H7 [(.list 10 []), d3, (EU d4), d5])) (some (.H7 [d2, d3, (EU d4), d5]))) := E8 []
theorem uw : (run cfg).p jW [a, b] = A1T (run cfg) a b := N8 Tryz.func151
def A8d := eP Tryz.f152 A6X R [] (F4 Tryz.f152 [(a, .val), (b, .val), (c, .val)] [])
theorem A6Q : A8d R a b c =
 (ob (A8 .eql a (iI 1)) fun d1 => D7 d1 (ob (A8 .add b c) fun d2 => some (.H7 [d2, (.bool true)])) (ob (A8 .eql a (iI 2)) fun d3 => D7 d3 (ob (A8 .sub b c) fun d4 => some (.H7 [d4, (.bool true)])) (ob (A8 .eql a (iI 3)) fun d5 => D7 d5 (ob (A8 .mul b c) fun d6 => some (.H7 [d6, (.bool true)])) (ob (A8 .eql a (iI 4)) fun d7 => D7 d7 (ob (A8 .eql c (iI 0)) fun d8 => D7 d8 (some (.H7 [(iI 0), (.bool false)])) (ob (A8 .eql c (.int .i64 (-1))) fun d9 => D7 d9 (ob (A8 .sub (iI 0) b) fun d10 => some (.H7 [d10, (.bool true)])) (ob (A8 .quo b c) fun d11 => some (.H7 [d11, (.bool true)])))) (ob (A8 .eql a (iI 5)) fun d12 => D7 d12 (ob (A8 .lss b c) fun d13 => ob (R.p Pm [d13]) fun d14 => some (.H7 [d14, (.bool true)])) (ob (A8 .eql b c) fun d15 => ob (R.p Pm [d15]) fun d16 => some (.H7 [d16, (.bool true)]))))))) := E8 []
theorem A49 : (run cfg).p A3s [a, b, c] = A8d (run cfg) a b c := N8 Tryz.func152
def A1X := eP Tryz.f153 z_ R [] (F4 Tryz.f153 [(a, .val)] [])
theorem yX : A1X R a =
 (D7 a (some (iI 1)) (some (iI 0))) := E8 []
theorem vB : (run cfg).p Pm [a] = A1X (run cfg) a := N8 Tryz.func153
def rf := eP Tryz.f154 WW R [] (F4 Tryz.f154 [(a, .val), (b, .val)] [])
def Hl := hP Tryz.f154 WW R (pb 58) (ms 25 [(1, a), (5, b)] [] [(2, bx c 3)] [])
theorem mH : rf R a b =
 (og (D6 3 a) <| ob (A8 .eql (A7 0 a) b) fun d1 => D7 d1 sF (Hl R b (iI 0) a)) := E8 []
theorem PQ : Hl R a b c =
 (ob (dLen (A7 2 c)) fun d1 => ob (A8 .lss b d1) fun d2 => D7 d2 (ob (F5 3 (A7 2 c) b) fun d3 => ob (R.p Kw [(W9 d3), a]) fun d4 => ob (M5 .not d4) fun d5 => D7 d5 sF (ob (A8 .add b (iI 1)) fun d6 => Hl R a d6 c)) sT) := I7 []
theorem iQ : (run cfg).p Kw [a, b] = rf (run cfg) a b := N8 Tryz.func154
def A4j := eP Tryz.f155 A2X R [] (F4 Tryz.f155 [(a, .val), (b, .val)] [])
theorem A2k : A4j R a b =
 (og (D6 3 a) <| og (D6 3 b) <| ob (dLen (A7 2 a)) fun d1 => ob (A8 .eql d1 (iI 0)) fun d2 => F7 d2 (ob (A8 .eql (A7 0 a) (A7 0 b)) fun d3 => F7 d3 (ob (A8 .eql (A7 1 a) (A7 1 b)) fun d4 => some d4) sF none) sF none) := E8 []
theorem zI : (run cfg).p pM [a, b] = A4j (run cfg) a b := N8 Tryz.func155
def A4k := eP Tryz.f156 A2Y R [] (F4 Tryz.f156 [(a, .val), (b, .val)] [])
theorem A2l : A4k R a b =
 (og (D6 3 a) <| og (D6 3 b) <| ob (dLen (A7 2 a)) fun d1 => ob (A8 .gtr d1 (iI 0)) fun d2 => F7 d2 (ob (A8 .eql (A7 0 a) (A7 0 b)) fun d3 => some d3) sF none) := E8 []
theorem zJ : (run cfg).p pO [a, b] = A4k (run cfg) a b := N8 Tryz.func156
def A4o := eP Tryz.f157 A20 R [] (F4 Tryz.f157 [(a, .val), (b, .val)] [])
theorem A2p : A4o R a b =
 (og (D6 5 a) <| og (D6 5 b) <| ob (R.p GR [(P6 a), (P6 b)]) fun d1 => ob (J5 0 d1) fun d2 => ob (J5 1 d1) fun d3 => og (D6 5 d2) <| ob (M5 .not d3) fun d4 => F7 d4 (some (.H7 [(.agg (Ab [])), (.bool false)])) (ob (R.p Dv [(P6 d2)]) fun d5 => ob (M5 .not d5) fun d6 => D7 d6 (some (.H7 [(.agg (Ab [])), (.bool false)])) (some (.H7 [(P6 d2), (.bool true)]))) none) := E8 []
theorem zN : (run cfg).p Zd [a, b] = A4o (run cfg) a b := N8 Tryz.func157
def A4d := eP Tryz.f158 jq R [] (F4 Tryz.f158 [(a, .val), (b, .val)] [])
def Qe := hP Tryz.f158 jq R (pb 58) (ms 46 [(5, a)] [] [(2, bx b 3), (3, bx c 3)] [])
theorem A2e : A4d R a b =
 (og (D6 3 a) <| og (D6 3 b) <| ob (A8 .neq (A7 0 a) (A7 0 b)) fun d1 => F7 d1 sF (ob (A8 .neq (A7 1 a) (A7 1 b)) fun d2 => F7 d2 sF (ob (dLen (A7 2 a)) fun d3 => ob (dLen (A7 2 b)) fun d4 => ob (A8 .neq d3 d4) fun d5 => D7 d5 sF (Qe R (iI 0) a b)) none) none) := E8 []
theorem WG : Qe R a b c =
 (ob (dLen (A7 2 b)) fun d1 => ob (A8 .lss a d1) fun d2 => D7 d2 (ob (F5 3 (A7 2 b) a) fun d3 => ob (F5 3 (A7 2 c) a) fun d4 => ob (R.p GN [(W9 d3), (W9 d4)]) fun d5 => ob (M5 .not d5) fun d6 => D7 d6 sF (ob (A8 .add a (iI 1)) fun d7 => Qe R d7 b c)) sT) := I7 []
theorem zB : (run cfg).p GN [a, b] = A4d (run cfg) a b := N8 Tryz.func158
def A3t := eP Tryz.f159 A6W R [] (F4 Tryz.f159 [] [])
theorem A6P : A3t R =
 (some (.agg ((iI 1)::(Pd [(.list 5 [])])))) := E8 []
theorem A48 : (run cfg).p Vq [] = A3t (run cfg) := N8 Tryz.func159
theorem B0k {d : DV} (h : A3t (run cfg) = some d) : (run cfg).p Vq [] = some d := (A48).trans h
def A8c := eP Tryz.f160 zu R [] (F4 Tryz.f160 [(a, .val)] [])
def XL := hP Tryz.f160 zu R (pb 58) (ms 20 [(0, a), (4, b)] [] [(2, some zb3), (3, some [(c, .val), ((iI 0), .val), (d, .own)])] [])
theorem A6O : A8c R a =
 (og (H6 a) <| XL R a (iI 0) a (.list 3 [])) := E8 []
theorem bN : XL R a b c d =
 (ob (R.p Np [a]) fun d1 => ob (A8 .lss b d1) fun d2 => D7 d2 (ob (R.p TI [(iI 5)]) fun d3 => og (D6 3 d3) <| ob (AQ 3 d (.list 3 [d3])) fun d4 => ob (A8 .add b (iI 1)) fun d5 => XL R a d5 c d4) (some (.agg [c, (iI 0), d]))) := I7 []
theorem A47 : (run cfg).p pK [a] = A8c (run cfg) a := N8 Tryz.func160
def xD := eP Tryz.f161 Yf R [] (F4 Tryz.f161 [(a, .val), (b, .val)] [])
def L_ := hP Tryz.f161 Yf R (pb 26) (ms 22 [(0, a), (1, b), (5, c)] [] [(4, some zb0)] [])
theorem tK : xD R a b =
 (L_ R a b (iI 0)) := E8 []
theorem RY : L_ R a b c =
 (ob (dLen b) fun d1 => ob (A8 .lss c d1) fun d2 => D7 d2 (ob (F5 5 b c) fun d3 => ob (A8 .neq (A7 0 d3) (iI 1)) fun d4 => D7 d4 (og (H6 a) <| og (H6 b) <| some (.agg (a::(Pd [b])))) (ob (A8 .add c (iI 1)) fun d5 => L_ R a b d5)) (ob (R.p Vq []) fun d6 => og (D6 5 d6) <| some (P6 d6))) := I7 []
theorem nG : (run cfg).p Jf [a, b] = xD (run cfg) a b := N8 Tryz.func161
def rZ := eP Tryz.f162 WV R [] (F4 Tryz.f162 [(a, .val), (b, .val)] [])
def KW := hP Tryz.f162 WV R (pb 58) (ms 27 [(0, a), (1, b), (5, c)] [] [] [])
theorem mG : rZ R a b =
 (ob (dLen a) fun d1 => ob (dLen b) fun d2 => ob (A8 .neq d1 d2) fun d3 => D7 d3 sF (KW R a b (iI 0))) := E8 []
theorem PP : KW R a b c =
 (ob (dLen a) fun d1 => ob (A8 .lss c d1) fun d2 => D7 d2 (ob (F5 3 a c) fun d3 => ob (F5 3 b c) fun d4 => ob (R.p GN [(W9 d3), (W9 d4)]) fun d5 => ob (M5 .not d5) fun d6 => D7 d6 sF (ob (A8 .add c (iI 1)) fun d7 => KW R a b d7)) sT) := I7 []
theorem iP : (run cfg).p YO [a, b] = rZ (run cfg) a b := N8 Tryz.func162
def w_ := eP Tryz.f163 Qw R [] (F4 Tryz.f163 [(a, .val), (b, .val)] [])
def Lu := hP Tryz.f163 Qw R (pb 58) (ms 56 [(5, a)] [] [(2, bx b 16), (3, bx c 16)] [])
def Lv := hP Tryz.f163 Qw R (pb 122) (ms 56 [(6, a)] [] [(2, bx b 16), (3, bx c 16)] [])
theorem su : w_ R a b =
 (og (D6 16 a) <| og (D6 16 b) <| ob (R.p Za [(A3v a), (A3v b)]) fun d1 => ob (M5 .not d1) fun d2 => F7 d2 sF (ob (WA [.int, .int] (.agg [(A7 1 a), (A7 2 a)]) (.agg [(A7 1 b), (A7 2 b)])) fun b3 => D7 (.bool !b3) sF (Lu R (iI 0) a b)) none) := E8 []
theorem RQ : Lu R a b c =
 (ob (dLen (A7 14 b)) fun d1 => ob (A8 .lss a d1) fun d2 => D7 d2 (ob (F5 7 (A7 14 b) a) fun d3 => ob (F5 7 (A7 14 c) a) fun d4 => ob (R.p XD [(IP d3), (IP d4)]) fun d5 => ob (M5 .not d5) fun d6 => D7 d6 sF (ob (A8 .add a (iI 1)) fun d7 => Lu R d7 b c)) (Lv R (iI 0) b c)) := I7 []
theorem RS : Lv R a b c =
 (ob (dLen (A7 15 b)) fun d1 => ob (A8 .lss a d1) fun d2 => D7 d2 (ob (F5 16 (A7 15 b) a) fun d3 => ob (F5 16 (A7 15 c) a) fun d4 => ob (R.p TJ [(A3v d3), (A3v d4)]) fun d5 => ob (M5 .not d5) fun d6 => D7 d6 sF (ob (A8 .add a (iI 1)) fun d7 => Lv R d7 b c)) sT) := I7 []
theorem nC : (run cfg).p TJ [a, b] = w_ (run cfg) a b := N8 Tryz.func163
def A4b := eP Tryz.f164 A2U R [] (F4 Tryz.f164 [(a, .val)] [])
theorem A2c : A4b R a =
 (ob (A8 .eql a (iI 1)) fun d1 => D7 d1 (some (iI 0)) (ob (A8 .eql a (iI 2)) fun d2 => D7 d2 (some (iI 0)) (ob (A8 .eql a (iI 3)) fun d3 => D7 d3 (some (iI 0)) (ob (A8 .eql a (iI 4)) fun d4 => D7 d4 (some (iI 0)) (ob (A8 .eql a (iI 5)) fun d5 => D7 d5 (some (iI 0)) (ob (A8 .eql a (iI 6)) fun d6 => D7 d6 (some (iI 0)) (ob (A8 .eql a (iI 8)) fun d7 => D7 d7 (some (iI 1)) (ob (A8 .eql a (iI 7)) fun d8 => D7 d8 (some (iI 2)) (ob (A8 .eql a (iI 9)) fun d9 => D7 d9 (some (iI 2)) (some (.int .i64 (-1)))))))))))) := E8 []
theorem y_ : (run cfg).p Np [a] = A4b (run cfg) a := N8 Tryz.func164
end
end Go.Su

/-
 Equations of the program's functions: by program.
-/
namespace Go.Su
set_option maxRecDepth 100000
noncomputable section
open Go.Proofs
variable (R : Q8) (i j k l m n : Nat) (a b c d e f g h o p q r t u v w x y z A B C D E F G H I J K L M N O P Q S T U V W X Y Z a1 a2 a3 a4 a5 a6 a7 a8 a9 a10 a11 a12 a13 a14 a15 a16 a17 a18 a19 a20 a21 a22 a23 a24 a25 a26 a27 a28 a29 a30 a31 a32 a33 a34 a35 a36 a37 a38 a39 a40 a41 a42 a43 a44 a45 a46 a47 a48 a49 a50 a51 a52 a53 a54 a55 a56 a57 a58 a59 : DV) (s : List C9)
def A6u := eP Tryz.f165 Zu R [] (F4 Tryz.f165 [(a, .val)] [])
def CO := eP Tryz.f165 Zu R (pb 31) (ms 92 [(3, a)] [] [(1, bx b 7), (4, bv [c, (iI 0), (iI 0), d, e, f, (.list 7 [])])] [])
def K_ := hP Tryz.f165 Zu R (pb 506) (ms 92 [(3, a), (5, b)] [] [(1, bx c 7)] [])
theorem A4X : A6u R a =
 (og (D6 7 a) <| og (H6 (A7 0 a)) <| ob (A8 .eql (A7 0 a) (iI 1)) fun d1 => D7 d1 (CO R (iI 0) a (A7 0 a) (.str ⟨#[]⟩) (iI 0) (.str ⟨#[]⟩)) (ob (A8 .eql (A7 0 a) (iI 6)) fun d2 => D7 d2 (CO R (iI 0) a (A7 0 a) (.str ⟨#[]⟩) (iI 0) (.str ⟨#[]⟩)) (ob (A8 .eql (A7 0 a) (iI 8)) fun d3 => D7 d3 (CO R (iI 0) a (A7 0 a) (.str ⟨#[]⟩) (iI 0) (.str ⟨#[]⟩)) (ob (A8 .eql (A7 0 a) (iI 2)) fun d4 => D7 d4 (og (H6 (A7 3 a)) <| ob (R.p Ic [(A7 3 a)]) fun d5 => ob (M5 .not d5) fun d6 => D7 d6 sF (CO R (iI 0) a (A7 0 a) (A7 3 a) (iI 0) (.str ⟨#[]⟩))) (ob (A8 .eql (A7 0 a) (iI 3)) fun d7 => D7 d7 (og (H6 (A7 4 a)) <| CO R (iI 0) a (A7 0 a) (.str ⟨#[]⟩) (A7 4 a) (.str ⟨#[]⟩)) (ob (A8 .eql (A7 0 a) (iI 4)) fun d8 => D7 d8 (og (H6 (A7 4 a)) <| ob (A8 .lss (A7 4 a) (iI 0)) fun d9 => F7 d9 sF (ob (A8 .gtr (A7 4 a) (iI 1)) fun d10 => D7 d10 sF (CO R (iI 0) a (A7 0 a) (.str ⟨#[]⟩) (A7 4 a) (.str ⟨#[]⟩))) none) (ob (A8 .eql (A7 0 a) (iI 5)) fun d11 =>
 D7 d11 (og (H6 (A7 5 a)) <| ob (CF (A7 5 a)) fun d12 => ob (A8 .gtr d12 (iI 200)) fun d13 => D7 d13 sF (CO R (iI 0) a (A7 0 a) (.str ⟨#[]⟩) (iI 0) (A7 5 a))) (ob (A8 .eql (A7 0 a) (iI 7)) fun d14 => D7 d14 (CO R (iI 2) a (A7 0 a) (.str ⟨#[]⟩) (iI 0) (.str ⟨#[]⟩)) (ob (A8 .eql (A7 0 a) (iI 9)) fun d15 => D7 d15 (CO R (iI 2) a (A7 0 a) (.str ⟨#[]⟩) (iI 0) (.str ⟨#[]⟩)) sF))))))))) := E8 [25]
theorem tC : CO R a b c d e f =
 (ob (dLen (A7 6 b)) fun d1 => ob (A8 .neq d1 a) fun d2 => F7 d2 sF (ob (A8 .neq (A7 3 b) d) fun d3 => F7 d3 sF (ob (A8 .neq (A7 4 b) e) fun d4 => F7 d4 sF (ob (A8 .neq (A7 5 b) f) fun d5 => D7 d5 sF (K_ R a (iI 0) b)) none) none) none) := E8 [25]
theorem WK : K_ R a b c =
 (ob (A8 .lss b a) fun d1 => D7 d1 (ob (F5 7 (A7 6 c) b) fun d2 => ob (R.p fT [(IP d2)]) fun d3 => ob (M5 .not d3) fun d4 => D7 d4 sF (ob (A8 .add b (iI 1)) fun d5 => K_ R a d5 c)) sT) := I7 [25]
theorem A2N : (run cfg).p fT [a] = A6u (run cfg) a := N8 Tryz.func165
def A1I := eP Tryz.f166 zt R [] (F4 Tryz.f166 [(a, .val)] [])
theorem yI : A1I R a =
 (og (D6 7 a) <| oc (R.r XC [((IP a), .val), ((.list 1 []), .own)] []) fun q1 s1 => some q1) := E8 []
theorem uf : (run cfg).p jT [a] = A1I (run cfg) a := N8 Tryz.func166
def A1G := eP Tryz.f167 zo R [] (F4 Tryz.f167 [(a, .val)] [])
theorem yG : A1G R a =
 (ob (A8 .geq a (.int .u8 97)) fun d1 => F7 d1 (ob (A8 .leq a (.int .u8 122)) fun d2 => some d2) sF none) := E8 []
theorem uY : (run cfg).p Pi [a] = A1G (run cfg) a := N8 Tryz.func167
def A4a := eP Tryz.f168 A2T R [] (F4 Tryz.f168 [(a, .val)] [])
theorem A2b : A4a R a =
 (ob (R.p Pi [a]) fun d1 => F7 d1 sT (ob (R.p jS [a]) fun d2 => F7 d2 sT (ob (A8 .geq a (.int .u8 65)) fun d3 => F7 d3 (ob (A8 .leq a (.int .u8 90)) fun d4 => F7 d4 sT (ob (A8 .eql a (.int .u8 95)) fun d5 => F7 d5 sT (ob (A8 .eql a (.int .u8 39)) fun d6 => some d6) none) none) (ob (A8 .eql a (.int .u8 95)) fun d7 => F7 d7 sT (ob (A8 .eql a (.int .u8 39)) fun d8 => some d8) none) none) none) none) := E8 []
theorem yz : (run cfg).p pI [a] = A4a (run cfg) a := N8 Tryz.func168
def A6s := eP Tryz.f169 Zt R [] (F4 Tryz.f169 [(a, .val)] [])
def Tp := hP Tryz.f169 Zt R (pb 26) (ms 40 [(0, a), (3, b)] [] [] [])
def Mq := hP Tryz.f169 Zt R (pb 122) (ms 40 [(0, a), (4, b), (5, c)] [] [] [])
theorem A4V : A6s R a =
 (Tp R a (iI 0)) := E8 []
theorem YV : Tp R a b =
 (ob (CF a) fun d1 => ob (A8 .lss b d1) fun d2 => D7 d2 (ob (j6 a b) fun d3 => ob (R.p Pi [d3]) fun d4 => ob (M5 .not d4) fun d5 => D7 d5 sF (ob (A8 .add b (iI 1)) fun d6 => Tp R a d6)) (ob (A8 .add (.str ⟨#[32]⟩) a) fun d7 => ob (A8 .add d7 (.str ⟨#[32]⟩)) fun d8 => Mq R a d8 (iI 0))) := I7 []
theorem YW : Mq R a b c =
 (ob (CF b) fun d1 => ob (A8 .add c d1) fun d2 => ob (A8 .leq d2 (iI 81)) fun d3 => D7 d3 (ob (CF a) fun d4 => ob (A8 .gtr d4 (iI 0)) fun d5 => F7 d5 (ob (CF b) fun d6 => ob (A8 .add c d6) fun d7 => ob (lW (.str ⟨#[32, 108, 101, 116, 32, 114, 101, 99, 32, 105, 110, 32, 102, 117, 110, 32, 105, 102, 32, 116, 104, 101, 110, 32, 101, 108, 115, 101, 32, 109, 97, 116, 99, 104, 32, 119, 105, 116, 104, 32, 101, 110, 100, 32, 116, 114, 117, 101, 32, 102, 97, 108, 115, 101, 32, 105, 110, 116, 32, 98, 111, 111, 108, 32, 115, 116, 114, 105, 110, 103, 32, 117, 110, 105, 116, 32, 108, 105, 115, 116, 32]⟩) (some c) (some d7)) fun d8 => ob (A8 .eql d8 b) fun d9 => D7 d9 sT (ob (A8 .add c (iI 1)) fun d10 => Mq R a b d10)) (ob (A8 .add c (iI 1)) fun d11 => Mq R a b d11) none) sF) := I7 []
theorem A2L : (run cfg).p wU [a] = A6s (run cfg) a := N8 Tryz.func169
def A4z := eP Tryz.f181 kE R [] (F4 Tryz.f181 [(a, .val), (b, .val)] [])
def Qt := hP Tryz.f181 kE R (pb 58) (ms 45 [(29, a), (30, b), (31, c)] [] [(3, bx d 3)] [])
theorem A2C : A4z R a b =
 (og (D6 3 a) <| og (D6 3 b) <| ob (A8 .neq (A7 0 a) (A7 0 b)) fun d1 => F7 d1 sF (ob (A8 .neq (A7 1 a) (A7 1 b)) fun d2 => F7 d2 sF (ob (dLen (A7 2 a)) fun d3 => ob (dLen (A7 2 b)) fun d4 => ob (A8 .neq d3 d4) fun d5 => D7 d5 sF (ob (dLen (A7 2 a)) fun d6 => Qt R (A7 2 a) d6 (iI 0) b)) none) none) := E8 []
theorem WT : Qt R a b c d =
 (ob (A8 .lss c b) fun d1 => D7 d1 (ob (F5 3 a c) fun d2 => ob (F5 3 (A7 2 d) c) fun d3 => ob (R.p Zk [(W9 d2), (W9 d3)]) fun d4 => ob (M5 .not d4) fun d5 => D7 d5 sF (ob (A8 .add c (iI 1)) fun d6 => Qt R a b d6 d)) sT) := I7 []
theorem za : (run cfg).p Zk [a, b] = A4z (run cfg) a b := N8 Tryz.func181
def rY := eP Tryz.f182 OY R [] (F4 Tryz.f182 [(a, .val)] [])
def BU := eP Tryz.f182 OY R (pb 490) (ms 36 [] [] [(1, bx a 3), (2, some zb3), (4, some [(b, .val), ((iI 0), .val), ((.list 3 []), .own)])] [])
def JX := hP Tryz.f182 OY R (pb 3922) (ms 36 [(24, a), (25, b)] [] [(2, some zb3), (4, some [(c, .val), ((iI 0), .val), (d, .own)])] [])
theorem mF : rY R a =
 (og (D6 3 a) <| ob (R.p Eu [(W9 a)]) fun d1 => ob (A8 .neq d1 (iI 0)) fun d2 => D7 d2 (some (.H7 [(.agg (Pe [])), (.bool false)])) (og (H6 (A7 0 a)) <| ob (A8 .eql (A7 0 a) (iI 1)) fun d3 => D7 d3 (BU R a (A7 0 a)) (ob (A8 .eql (A7 0 a) (iI 2)) fun d4 => D7 d4 (BU R a (A7 0 a)) (ob (A8 .eql (A7 0 a) (iI 3)) fun d5 => D7 d5 (BU R a (A7 0 a)) (ob (A8 .eql (A7 0 a) (iI 4)) fun d6 => D7 d6 (BU R a (A7 0 a)) (ob (A8 .eql (A7 0 a) (iI 7)) fun d7 => D7 d7 (BU R a (A7 0 a)) (ob (A8 .eql (A7 0 a) (iI 8)) fun d8 => D7 d8 (BU R a (A7 0 a)) (ob (A8 .eql (A7 0 a) (iI 9)) fun d9 => D7 d9 (BU R a (A7 0 a)) (some (.H7 [(.agg (Pe [])), (.bool false)])))))))))) := E8 [12]
theorem ZA : BU R a b =
 (ob (dLen (A7 2 a)) fun d1 => JX R d1 (iI 0) b (.list 3 [])) := E8 [12]
theorem NG : JX R a b c d =
 (ob (A8 .lss b a) fun d1 => D7 d1 (ob (AQ 3 d (.list 3 [(.agg [(iI 5), (iI 0), (.list 3 [])])])) fun d2 => ob (A8 .add b (iI 1)) fun d3 => JX R a d3 c d2) (some (.H7 [(.agg [c, (iI 0), d]), (.bool true)]))) := I7 [12]
theorem iO : (run cfg).p QX [a] = rY (run cfg) a := N8 Tryz.func182
def A1w := eP Tryz.f184 cz R [] (F4 Tryz.f184 [(a, .val)] [])
def Vt := hP Tryz.f184 cz R (pb 58) (ms 19 [(0, a), (3, b), (4, c)] [] [] [])
theorem yA : A1w R a =
 (Vt R a (iI 0) (iI 0)) := E8 []
theorem UH : Vt R a b c =
 (ob (dLen a) fun d1 => ob (A8 .lss c d1) fun d2 => D7 d2 (ob (F5 3 a c) fun d3 => ob (R.p XA [(W9 d3), b]) fun d4 => ob (A8 .add c (iI 1)) fun d5 => Vt R a d4 d5) (ob (A8 .gtr b (iI 600)) fun d6 => some d6)) := I7 []
theorem uS : (run cfg).p jN [a] = A1w (run cfg) a := N8 Tryz.func184
def A4i := eP Tryz.f185 jw R [] (F4 Tryz.f185 [(a, .val), (b, .val)] [])
def Qh := hP Tryz.f185 jw R (pb 58) (ms 23 [(1, a), (5, b)] [] [(2, bx c 3)] [])
theorem A2j : A4i R a b =
 (og (D6 3 a) <| ob (A8 .leq b (iI 0)) fun d1 => D7 d1 sT (Qh R b (iI 0) a)) := E8 []
theorem WL : Qh R a b c =
 (ob (dLen (A7 2 c)) fun d1 => ob (A8 .lss b d1) fun d2 => D7 d2 (ob (F5 3 (A7 2 c) b) fun d3 => ob (A8 .sub a (iI 1)) fun d4 => ob (R.p Zb [(W9 d3), d4]) fun d5 => D7 d5 sT (ob (A8 .add b (iI 1)) fun d6 => Qh R a d6 c)) sF) := I7 []
theorem zH : (run cfg).p Zb [a, b] = A4i (run cfg) a b := N8 Tryz.func185
def A4f := eP Tryz.f186 A2W R [] (F4 Tryz.f186 [(a, .val)] [])
theorem A2g : A4f R a =
 (og (D6 3 a) <| oc (R.r ZZ [((W9 a), .val), ((.list 1 []), .own)] []) fun q1 s1 => some q1) := E8 []
theorem zD : (run cfg).p pJ [a] = A4f (run cfg) a := N8 Tryz.func186
def OH := eP Tryz.f187 iY R [] (F4 Tryz.f187 [(a, .val)] [])
theorem iE : OH R a =
 (og (D6 20 a) <| ob (A8 .eql (A7 0 a) (iI 1)) fun d1 => D7 d1 (some (.H7 [(.agg ((.bool true)::(ET ((.bool false)::(.bool false)::(.bool true)::(ET [(iI 0)]))))), (.bool true)])) (ob (A8 .eql (A7 0 a) (iI 2)) fun d2 => D7 d2 (some (.H7 [(.agg ((.bool false)::(.bool false)::(.bool true)::(ET (ET [(.bool false), (iI 0)])))), (.bool true)])) (ob (A8 .eql (A7 0 a) (iI 3)) fun d3 => D7 d3 (some (.H7 [(.agg ((.bool false)::(.bool false)::(.bool true)::(ET (ET [(.bool false), (iI 0)])))), (.bool true)])) (ob (A8 .eql (A7 0 a) (iI 4)) fun d4 => D7 d4 (some (.H7 [(.agg ((.bool false)::(.bool false)::(.bool false)::(.bool true)::(ET (ET [(iI 0)])))), (.bool true)])) (ob (A8 .eql (A7 0 a) (iI 5)) fun d5 =>
 D7 d5 (some (.H7 [(.agg (ET (ET (ET [(iI 0)])))), (.bool true)])) (ob (A8 .eql (A7 0 a) (iI 7)) fun d6 => D7 d6 (some (.H7 [(.agg (ET (ET [(.bool false), (.bool true), (.bool false), (.bool false), (iI 0)]))), (.bool true)])) (ob (A8 .eql (A7 0 a) (iI 6)) fun d7 => D7 d7 (some (.H7 [(.agg (ET (ET (ET [(iI 2)])))), (.bool true)])) (ob (A8 .eql (A7 0 a) (iI 8)) fun d8 => D7 d8 (some (.H7 [(.agg (ET (ET (ET [(iI 2)])))), (.bool true)])) (ob (A8 .eql (A7 0 a) (iI 10)) fun d9 => D7 d9 (some (.H7 [(.agg (ET (ET (ET [(iI 2)])))), (.bool true)])) (ob (A8 .eql (A7 0 a) (iI 9)) fun d10 =>
 D7 d10 (some (.H7 [(.agg ((.bool true)::(ET (ET [(.bool true), (.bool false), (.bool false), (iI 1)])))), (.bool true)])) (ob (A8 .eql (A7 0 a) (iI 11)) fun d11 => D7 d11 (some (.H7 [(.agg ((.bool true)::(ET ((.bool false)::(.bool true)::(ET [(.bool false), (iI 2)]))))), (.bool true)])) (ob (A8 .eql (A7 0 a) (iI 12)) fun d12 => D7 d12 (some (.H7 [(.agg ((.bool true)::(.bool true)::(ET [(.bool true), (.bool false), (.bool false), (.bool true), (.bool true), (.bool false), (iI 2)]))), (.bool true)])) (ob (A8 .eql (A7 0 a) (iI 13)) fun d13 => D7 d13 (some (.H7 [(.agg (ET (ET (ET [(iI 3)])))), (.bool true)])) (ob (A8 .eql (A7 0 a) (iI 14)) fun d14 => D7 d14 (ob (dLen (A7 18 a)) fun d15 =>
 ob (A8 .add d15 (iI 1)) fun d16 => og (H6 d16) <| ob (dLen (A7 18 a)) fun d17 => ob (A8 .gtr d17 (iI 0)) fun d18 => some (.H7 [(.agg (ET [(.bool false), (.bool true), (.bool false), (.bool false), (.bool true), (.bool false), (.bool false), (.bool false), d16])), d18])) (ob (A8 .eql (A7 0 a) (iI 15)) fun d19 => D7 d19 (some (.H7 [(.agg (ET ((.bool true)::(.bool true)::(ET [(.bool false), (.bool false), (iI 2)])))), (.bool true)])) (ob (A8 .eql (A7 0 a) (iI 16)) fun d20 => D7 d20 (some (.H7 [(.agg (ET (ET [(.bool false), (.bool true), (.bool true), (.bool true), (iI 1)]))), (.bool true)])) (some (.H7 [(.agg (ET (ET (ET [(iI 0)])))), (.bool false)])))))))))))))))))) := E8 []
theorem cO : (run cfg).p Ns [a] = OH (run cfg) a := N8 Tryz.func187
theorem A1s (x0 : DV) {d : DV} (h : OH (run cfg) x0 = some d) : (run cfg).p Ns [x0] = some d := (cO x0).trans h
def xO := eP Tryz.f188 vW R [] (F4 Tryz.f188 [(a, .val), (b, .val)] [])
theorem uB : xO R a b =
 (D7 a (ob (R.p XJ [b]) fun d1 => some d1) (ob (A8 .eql b (.str ⟨#[]⟩)) fun d2 => some d2)) := E8 []
theorem nR : (run cfg).p TN [a, b] = xO (run cfg) a b := N8 Tryz.func188
def xQ := eP Tryz.f189 vX R [] (F4 Tryz.f189 [(a, .val), (b, .val)] [])
theorem uG : xQ R a b =
 (og (D6 3 b) <| D7 a (ob (R.p Eu [(W9 b)]) fun d1 => ob (A8 .eql d1 (iI 0)) fun d2 => some d2) (ob (R.p jY [(W9 b)]) fun d3 => some d3)) := E8 []
theorem nT : (run cfg).p TQ [a, b] = xQ (run cfg) a b := N8 Tryz.func189
def xN := eP Tryz.f190 LM R [] (F4 Tryz.f190 [(a, .val)] [])
def MJ := hP Tryz.f190 LM R (pb 26) (ms 45 [(10, a), (11, b), (12, c)] [] [(1, bx d 20)] [])
def ML := hP Tryz.f190 LM R (pb 58) (ms 45 [(24, a), (25, b), (26, c)] [] [(1, bx d 20)] [])
def KY := hP Tryz.f190 LM R (pb 122) (ms 45 [(35, a), (36, b), (37, c)] [] [] [])
theorem uA : xN R a =
 (og (D6 20 a) <| ob (dLen (A7 10 a)) fun d1 => MJ R (A7 10 a) d1 (iI 0) a) := E8 []
theorem Rb : MJ R a b c d =
 (ob (A8 .lss c b) fun d1 => D7 d1 (ob (F5 1 a c) fun d2 => og (M4 d2) <| ob (A8 .lss d2 (iI 0)) fun d3 => F7 d3 sF (ob (A8 .gtr d2 (iI 1048576)) fun d4 => D7 d4 sF (ob (A8 .add c (iI 1)) fun d5 => MJ R a b d5 d)) none) (ob (dLen (A7 17 d)) fun d6 => ML R (A7 17 d) d6 (iI 0) d)) := I7 []
theorem Rc : ML R a b c d =
 (ob (A8 .lss c b) fun d1 => D7 d1 (ob (F5 3 a c) fun d2 => ob (R.p Eu [(W9 d2)]) fun d3 => ob (A8 .neq d3 (iI 0)) fun d4 => D7 d4 sF (ob (A8 .add c (iI 1)) fun d5 => ML R a b d5 d)) (ob (dLen (A7 18 d)) fun d6 => KY R (A7 18 d) d6 (iI 0))) := I7 []
theorem PT : KY R a b c =
 (ob (A8 .lss c b) fun d1 => D7 d1 (ob (F5 7 a c) fun d2 => ob (R.p TU [(IP d2)]) fun d3 => ob (A8 .neq d3 (iI 0)) fun d4 => D7 d4 sF (ob (A8 .add c (iI 1)) fun d5 => KY R a b d5)) sT) := I7 []
theorem nQ : (run cfg).p Cz [a] = xN (run cfg) a := N8 Tryz.func190
def A12 := eP Tryz.f191 A0d R [] (F4 Tryz.f191 [(a, .val)] [])
theorem yl : A12 R a =
 (og (D6 5 a) <| og (H6 (A7 2 a)) <| og (H6 (A7 3 a)) <| some (.agg ((iI 2)::(P9 [(A7 2 a), (A7 3 a), (iI 0), (iI 0), (iI 0)])))) := E8 []
theorem vH : (run cfg).p jc [a] = A12 (run cfg) a := N8 Tryz.func191
def xW := eP Tryz.f192 ve R [] (F4 Tryz.f192 [(a, .val)] [])
theorem uM : xW R a =
 (og (D6 9 a) <| ob (R.p TY [(.agg [(A7 3 a), (A7 4 a), (A7 5 a), (A7 6 a), (A7 7 a)])]) fun d1 => D7 d1 sT (ob (A8 .eql (A7 3 a) (iI 5)) fun d2 => D7 d2 (ob (R.p pW [(A7 0 a)]) fun d3 => ob (A8 .eql (A7 4 a) d3) fun d4 => F7 d4 (ob (R.p Cw [(.agg [(A7 3 a), (A7 4 a), (A7 5 a), (A7 6 a), (A7 7 a)])]) fun d5 => ob (A8 .eql d5 (iI 0)) fun d6 => some d6) sF none) (ob (A8 .eql (A7 3 a) (iI 3)) fun d7 => D7 d7 (ob (A8 .eql (A7 0 a) (iI 5)) fun d8 => F7 d8 (ob (R.p Cw [(.agg [(A7 3 a), (A7 4 a), (A7 5 a), (A7 6 a), (A7 7 a)])]) fun d9 => ob (A8 .eql d9 (iI 0)) fun d10 => some d10) sF none) (ob (A8 .eql (A7 3 a) (iI 4)) fun d11 => D7 d11 (ob (A8 .eql (A7 0 a) (iI 6)) fun d12 => F7 d12 (ob (R.p Cw [(.agg [(A7 3 a), (A7 4 a), (A7 5 a), (A7 6 a), (A7 7 a)])]) fun d13 => ob (A8 .eql d13 (iI 0)) fun d14 => some d14) (ob (A8 .eql (A7 0 a) (iI 7)) fun d15 => F7 d15 (ob (R.p Cw [(.agg [(A7 3 a), (A7 4 a), (A7 5 a), (A7 6 a), (A7 7 a)])]) fun d16 =>
 ob (A8 .eql d16 (iI 0)) fun d17 => some d17) sF none) none) (ob (A8 .eql (A7 3 a) (iI 2)) fun d18 => D7 d18 (ob (A8 .eql (A7 0 a) (iI 8)) fun d19 => F7 d19 (ob (R.p Cw [(.agg [(A7 3 a), (A7 4 a), (A7 5 a), (A7 6 a), (A7 7 a)])]) fun d20 => ob (A8 .eql d20 (iI 0)) fun d21 => some d21) sF none) sF))))) := E8 []
theorem nY : (run cfg).p aV [a] = xW (run cfg) a := N8 Tryz.func192
def A11 := eP Tryz.f193 dQ R [] (F4 Tryz.f193 [(a, .val)] [])
def Jl := hP Tryz.f193 dQ R (pb 250) (ms 43 [(33, a), (34, b), (35, c)] [] [] [])
theorem yf : A11 R a =
 (og (D6 3 a) <| ob (R.p jZ [(A7 0 a)]) fun d1 => ob (A8 .lss d1 (iI 0)) fun d2 => F7 d2 sF (ob (dLen (A7 2 a)) fun d3 => ob (A8 .neq d3 d1) fun d4 => D7 d4 sF (ob (A8 .eql (A7 0 a) (iI 6)) fun d5 => D7 d5 (ob (A8 .geq (A7 1 a) (iI 0)) fun d6 => F7 d6 (ob (A8 .leq (A7 1 a) (iI 1048576)) fun d7 => some d7) sF none) (ob (A8 .neq (A7 1 a) (iI 0)) fun d8 => D7 d8 sF (ob (dLen (A7 2 a)) fun d9 => Jl R (A7 2 a) d9 (iI 0))))) none) := E8 []
theorem Uk : Jl R a b c =
 (ob (A8 .lss c b) fun d1 => D7 d1 (ob (F5 3 a c) fun d2 => ob (R.p XI [(W9 d2)]) fun d3 => ob (M5 .not d3) fun d4 => D7 d4 sF (ob (A8 .add c (iI 1)) fun d5 => Jl R a b d5)) sT) := I7 []
theorem vG : (run cfg).p XI [a] = A11 (run cfg) a := N8 Tryz.func193
def ku := eP Tryz.f194 Uq R [] (F4 Tryz.f194 [(a, .val), (b, .val)] [])
def JU := hP Tryz.f194 Uq R (pb 58) (ms 49 [(33, a), (34, b), (35, c)] [] [(3, bx d 3)] [])
theorem gT : ku R a b =
 (og (D6 3 a) <| og (D6 3 b) <| ob (A8 .eql (A7 0 a) (iI 5)) fun d1 => D7 d1 (ob (R.p TV [(W9 b)]) fun d2 => some d2) (ob (A8 .eql (A7 0 b) (iI 5)) fun d3 => D7 d3 (ob (R.p TV [(W9 a)]) fun d4 => some d4) (ob (A8 .neq (A7 0 a) (A7 0 b)) fun d5 => F7 d5 sF (ob (A8 .neq (A7 1 a) (A7 1 b)) fun d6 => D7 d6 sF (ob (dLen (A7 2 a)) fun d7 => JU R (A7 2 a) d7 (iI 0) b)) none))) := E8 []
theorem NC : JU R a b c d =
 (ob (A8 .lss c b) fun d1 => D7 d1 (ob (F5 3 a c) fun d2 => ob (F5 3 (A7 2 d) c) fun d3 => ob (R.p Nk [(W9 d2), (W9 d3)]) fun d4 => ob (M5 .not d4) fun d5 => D7 d5 sF (ob (A8 .add c (iI 1)) fun d6 => JU R a b d6 d)) sT) := I7 []
theorem bq : (run cfg).p Nk [a, b] = ku (run cfg) a b := N8 Tryz.func194
def pz := eP Tryz.f195 A26 R [] (F4 Tryz.f195 [] [])
theorem A2B : pz R =
 (some (.agg ((iI 1)::(Pd [(.list 5 [])])))) := E8 []
theorem zZ : (run cfg).p TS [] = pz (run cfg) := N8 Tryz.func195
theorem A7v {d : DV} (h : pz (run cfg) = some d) : (run cfg).p TS [] = some d := (zZ).trans h
def wY := eP Tryz.f196 vJ R [] (F4 Tryz.f196 [(a, .val)] [])
theorem sP : wY R a =
 (og (D6 5 a) <| ob (R.p CK [(P6 a)]) fun d1 => ob (M5 .not d1) fun d2 => D7 d2 (some (iI 1)) (some (iI 0))) := E8 []
theorem mh : (run cfg).p Cw [a] = wY (run cfg) a := N8 Tryz.func196
def jd := eP Tryz.f197 cZ R [] (F4 Tryz.f197 [(a, .val), (b, .val)] [])
def Nu := eP Tryz.f197 cZ R (pb 3327) (ms 111 [] [] [(2, bx a 5), (3, bx b 5), (4, some zb0)] [])
theorem xz : jd R a b =
 (og (D6 5 a) <| og (D6 5 b) <| ob (A8 .eql (A7 0 a) (iI 1)) fun d1 => D7 d1 (some (.H7 [(P6 b), (.bool true)])) (ob (A8 .eql (A7 0 b) (iI 1)) fun d2 => F7 d2 (some (.H7 [(P6 a), (.bool true)])) (ob (A8 .eql (A7 0 a) (iI 7)) fun d3 => D7 d3 (some (.H7 [(P6 a), (.bool true)])) (ob (A8 .eql (A7 0 a) (iI 6)) fun d4 => D7 d4 (ob (F5 5 (A7 4 a) (iI 0)) fun d5 => ob (R.p Dt [(P6 d5), (P6 b)]) fun d6 => ob (J5 0 d6) fun d7 => ob (J5 1 d6) fun d8 => og (D6 5 d7) <| ob (R.p TF [(P6 a), (P6 d7)]) fun d9 => og (D6 5 d9) <| some (.H7 [(P6 d9), d8])) (ob (A8 .eql (A7 0 a) (iI 5)) fun d10 => F7 d10 (ob (A8 .eql (A7 0 b) (iI 6)) fun d11 => D7 d11 (ob (A8 .neq (A7 1 a) (A7 1 b)) fun d12 => D7 d12 (og (H6 (A7 2 b)) <| og (H6 (A7 3 b)) <| some (.H7 [(.agg [(iI 7), (iI 0), (A7 2 b), (A7 3 b), (.list 5 [])]), (.bool true)])) (ob (F5 5 (A7 4 a) (iI 0)) fun d13 => ob (F5 5 (A7 4 b) (iI 0)) fun d14 => ob (R.p Dt [(P6 d13), (P6 d14)]) fun d15 => ob (J5 0 d15) fun d16 => ob (J5 1 d15) fun d17 =>
 og (D6 5 d16) <| some (.H7 [(P6 d16), d17]))) (Nu R a b)) (Nu R a b) none))) none)) := E8 [12]
theorem gW : Nu R a b =
 (ob (A8 .eql (A7 0 a) (iI 5)) fun d1 => D7 d1 (some (.H7 [(.agg (Ab [])), (.bool false)])) (ob (A8 .eql (A7 0 b) (iI 7)) fun d2 => D7 d2 (some (.H7 [(P6 b), (.bool true)])) (ob (A8 .eql (A7 0 b) (iI 5)) fun d3 => D7 d3 (ob (F5 5 (A7 4 b) (iI 0)) fun d4 => ob (R.p Dt [(P6 a), (P6 d4)]) fun d5 => ob (J5 0 d5) fun d6 => ob (J5 1 d5) fun d7 => og (D6 5 d6) <| ob (R.p TF [(P6 b), (P6 d6)]) fun d8 => og (D6 5 d8) <| some (.H7 [(P6 d8), d7])) (ob (A8 .neq (A7 0 a) (A7 0 b)) fun d9 => D7 d9 (some (.H7 [(.agg (Ab [])), (.bool false)])) (ob (R.p YN [(P6 a), (P6 b)]) fun d10 => ob (J5 0 d10) fun d11 => ob (J5 1 d10) fun d12 => og (D6 5 d11) <| some (.H7 [(P6 d11), d12])))))) := E8 [12]
theorem uQ : (run cfg).p Dt [a, b] = jd (run cfg) a b := N8 Tryz.func197
end
end Go.Su

/-
 Equations of the program's functions: by program.
-/
namespace Go.Su
set_option maxRecDepth 100000
noncomputable section
open Go.Proofs
variable (R : Q8) (i j k l m n : Nat) (a b c d e f g h o p q r t u v w x y z A B C D E F G H I J K L M N O P Q S T U V W X Y Z a1 a2 a3 a4 a5 a6 a7 a8 a9 a10 a11 a12 a13 a14 a15 a16 a17 a18 a19 a20 a21 a22 a23 a24 a25 a26 a27 a28 a29 a30 a31 a32 a33 a34 a35 a36 a37 a38 a39 a40 a41 a42 a43 a44 a45 a46 a47 a48 a49 a50 a51 a52 a53 a54 a55 a56 a57 a58 a59 : DV) (s : List C9)
def Xe := eR Tryz.f198 Cg Ec R [] (F4 Tryz.f198 [(pt i), (a, .val), (b, .val)] s)
def Rz := eR Tryz.f198 Cg Ec R (pb 31) (ms 138 [] [(0, (.ptr i 0))] [(4, bx a 7), (5, bx b 9)] s)
def CB := eR Tryz.f198 Cg Ec R (pb 63) (ms 138 [] [(0, (.ptr i 0))] [(4, bx a 7), (5, bx b 9)] s)
def Fe := eR Tryz.f198 Cg Ec R (pb 1018) (ms 138 [(10, a)] [(0, (.ptr i 0))] [(9, bx b 15)] s)
theorem Vh : Xe R i a b s =
 (og (D6 7 a) <| og (D6 9 b) <| ob (A8 .eql (A7 0 a) (iI 1)) fun d1 => D7 d1 (some ([(.bool true)], s)) (ob (A8 .eql (A7 0 a) (iI 2)) fun d2 => D7 d2 (ob (E9 s i) fun c3 => ob (X9 c3 0) fun d4 => og (H6 (A7 3 a)) <| ob (AQ 10 d4 (.list 10 [(.agg ((A7 3 a)::(V3 b [])))])) fun d5 => ob (E9 (s.set i (C9.box (c3.set 0 (d4, .val)))) i) fun c6 => ob (c6[0]?) fun u7 => some ([(.bool true)], ((s.set i (C9.box (c3.set 0 (d4, .val)))).set i (C9.box (c6.set 0 (d5, .own)))))) (ob (A8 .eql (A7 3 b) (iI 5)) fun d8 => D7 d8 (some ([(.bool false)], s)) (ob (A8 .eql (A7 0 a) (iI 3)) fun d9 => D7 d9 (ob (A8 .eql (A7 0 b) (iI 1)) fun d10 => F7 d10 (ob (A8 .eql (A7 1 b) (A7 4 a)) fun d11 => some ([d11], s)) (some ([(.bool false)], s)) none) (ob (A8 .eql (A7 0 a) (iI 4)) fun d12 => D7 d12 (ob (A8 .eql (A7 0 b) (iI 2)) fun d13 => F7 d13 (ob (A8 .eql (A7 1 b) (A7 4 a)) fun d14 => some ([d14], s)) (some ([(.bool false)], s)) none) (ob (A8 .eql (A7 0 a) (iI 5)) fun d15 =>
 D7 d15 (ob (A8 .eql (A7 0 b) (iI 3)) fun d16 => F7 d16 (ob (A8 .eql (A7 2 b) (A7 5 a)) fun d17 => some ([d17], s)) (some ([(.bool false)], s)) none) (ob (A8 .eql (A7 0 a) (iI 6)) fun d18 => D7 d18 (ob (A8 .eql (A7 0 b) (iI 4)) fun d19 => some ([d19], s)) (ob (A8 .eql (A7 0 a) (iI 8)) fun d20 => D7 d20 (ob (A8 .eql (A7 0 b) (iI 6)) fun d21 => some ([d21], s)) (Rz R i a b s))))))))) := E8 [20, 22, 24]
theorem P_ : Rz R i a b s =
 (ob (A8 .eql (A7 0 a) (iI 7)) fun d1 => F7 d1 (ob (A8 .neq (A7 0 b) (iI 5)) fun d2 => F7 d2 (some ([(.bool false)], s)) (ob (A8 .eql (A7 0 a) (iI 9)) fun d3 => F7 d3 (ob (A8 .neq (A7 0 b) (iI 7)) fun d4 => D7 d4 (some ([(.bool false)], s)) (CB R i a b s)) (CB R i a b s) none) none) (ob (A8 .eql (A7 0 a) (iI 9)) fun d5 => F7 d5 (ob (A8 .neq (A7 0 b) (iI 7)) fun d6 => D7 d6 (some ([(.bool false)], s)) (CB R i a b s)) (CB R i a b s) none) none) := E8 [20, 22, 24]
theorem QA : CB R i a b s =
 (ob (R.p fV [(R8 b)]) fun d1 => ob (J5 0 d1) fun d2 => ob (J5 1 d1) fun d3 => ob (J5 2 d1) fun d4 => ob (J5 3 d1) fun d5 => og (D6 9 d2) <| og (D6 9 d3) <| og (D6 15 d4) <| ob (A8 .neq d5 (iI 0)) fun d6 => F7 d6 (Fe R i d5 d4 s) (ob (A8 .neq (A7 0 d4) (iI 0)) fun d7 => D7 d7 (Fe R i d5 d4 s) (ob (F5 7 (A7 6 a) (iI 0)) fun d8 => oc (R.r FF [(pt i), ((IP d8), .val), ((R8 d2), .val)] s) fun q9 s9 => F7 q9 (ob (F5 7 (A7 6 a) (iI 1)) fun d10 => oc (R.r FF [(pt i), ((IP d10), .val), ((R8 d3), .val)] s9) fun q11 s11 => some ([q11], s11)) (some ([(.bool false)], s9)) none)) none) := E8 [20, 22, 24]
theorem QB : Fe R i a b s =
 (ob (E9 s i) fun c1 => if 1 + 15 <= c1.length then (ob (E9 (s.set i (C9.box (putAt c1 1 (oO b [])))) i) fun c2 => og (H6 a) <| ob (c2[16]?) fun u3 => some ([(.bool false)], ((s.set i (C9.box (putAt c1 1 (oO b [])))).set i (C9.box (c2.set 16 (a, .val)))))) else none) := E8 [20, 22, 24]
theorem Uo : (run cfg).r FF [(.undef, (.ptr i 0)), (a, .val), (b, .val)] s = Xe (run cfg) i a b s := DF (s := Cg) Tryz.func198
def A4r := eP Tryz.f199 A22 R [] (F4 Tryz.f199 [(a, .val)] [])
theorem A2s : A4r R a =
 (ob (R.p Np [a]) fun d1 => ob (A8 .geq d1 (iI 0)) fun d2 => F7 d2 (ob (A8 .neq a (iI 5)) fun d3 => F7 d3 (ob (A8 .neq a (iI 6)) fun d4 => some d4) sF none) sF none) := E8 []
theorem zQ : (run cfg).p Zf [a] = A4r (run cfg) a := N8 Tryz.func199
def A1O := eP Tryz.f200 zw R [] (F4 Tryz.f200 [(a, .val), (b, .val)] [])
theorem yO : A1O R a b =
 (og (D6 5 a) <| ob (A8 .eql (A7 0 a) (iI 1)) fun d1 => F7 d1 (ob (R.p Dv [(P6 a)]) fun d2 => some d2) (ob (R.p Mk [(A7 0 a)]) fun d3 => ob (A8 .eql d3 b) fun d4 => F7 d4 (ob (R.p Dv [(P6 a)]) fun d5 => some d5) sF none) none) := E8 []
theorem um : (run cfg).p XG [a, b] = A1O (run cfg) a b := N8 Tryz.func200
def A1V := eR Tryz.f201 RG dP R [] (F4 Tryz.f201 [(a, .val), (b, .val), (c, .own)] s)
def OG := eR Tryz.f201 RG dP R (pb 127) (ms 119 [(2, a)] [(2, .own)] [(3, bx b 7), (4, bx c 9), (8, some pE)] s)
theorem yU : A1V R a b c s =
 (og (D6 7 a) <| og (D6 9 b) <| ob (A8 .eql (A7 0 a) (iI 1)) fun d1 => D7 d1 (some ([c, (.bool true), (.agg ((iI 0)::(P9 (Bz [])))), (iI 0)], s)) (ob (A8 .eql (A7 0 a) (iI 2)) fun d2 => D7 d2 (og (H6 (A7 3 a)) <| ob (AQ 10 c (.list 10 [(.agg ((A7 3 a)::(V3 b [])))])) fun d3 => some ([d3, (.bool true), (.agg ((iI 0)::(P9 (Bz [])))), (iI 0)], s)) (ob (A8 .sub (A7 0 a) (iI 3)) fun d4 => ob (A8 .add d4 (iI 1)) fun d5 => ob (A8 .eql (A7 3 b) (iI 5)) fun d6 => F7 d6 (some ([(.list 10 []), (.bool false), (.agg ((iI 0)::(P9 (Bz [])))), (iI 0)], s)) (ob (A8 .neq (A7 0 b) d5) fun d7 =>
 D7 d7 (some ([(.list 10 []), (.bool false), (.agg ((iI 0)::(P9 (Bz [])))), (iI 0)], s)) (ob (A8 .neq (A7 0 a) (iI 7)) fun d8 => F7 d8 (ob (A8 .neq (A7 0 a) (iI 9)) fun d9 => D7 d9 (ob (A8 .eql (A7 0 a) (iI 8)) fun d10 => F7 d10 (some ([c, (.bool true), (.agg ((iI 0)::(P9 (Bz [])))), (iI 0)], s)) (ob (A8 .eql (A7 1 b) (A7 4 a)) fun d11 => F7 d11 (ob (A8 .eql (A7 2 b) (A7 5 a)) fun d12 => some ([c, d12, (.agg ((iI 0)::(P9 (Bz [])))), (iI 0)], s)) (some ([c, (.bool false), (.agg ((iI 0)::(P9 (Bz [])))), (iI 0)], s)) none) none) (OG R c a b s)) (OG R c a b s) none)) none))) := E8 [12]
theorem iD : OG R a b c s =
 (ob (R.p XH [(R8 c)]) fun d1 => ob (J5 0 d1) fun d2 => ob (J5 1 d1) fun d3 => ob (J5 2 d1) fun d4 => ob (J5 3 d1) fun d5 => og (D6 9 d2) <| og (D6 9 d3) <| og (D6 15 d4) <| ob (A8 .neq d5 (iI 0)) fun d6 => F7 d6 (some ([(.list 10 []), (.bool false), (EU d4), d5], s)) (ob (A8 .neq (A7 0 d4) (iI 0)) fun d7 => D7 d7 (some ([(.list 10 []), (.bool false), (EU d4), d5], s)) (ob (F5 7 (A7 6 b) (iI 0)) fun d8 => ob (R.r Pk [((IP d8), .val), ((R8 d2), .val), (a, .own)] s) fun q9 => ob (J5 0 (.H7 q9.1)) fun d10 => ob (J5 1 (.H7 q9.1)) fun d11 => ob (J5 2 (.H7 q9.1)) fun d12 => ob (J5 3 (.H7 q9.1)) fun d13 => og (D6 15 d12) <| ob (M5 .not d11) fun d14 => D7 d14 (some ([(.list 10 []), (.bool false), (EU d12), d13], q9.2)) (ob (F5 7 (A7 6 b) (iI 1)) fun d15 => ob (R.r Pk [((IP d15), .val), ((R8 d3), .val), (d10, .own)] q9.2) fun q16 => ob (J5 0 (.H7 q16.1)) fun d17 => ob (J5 1 (.H7 q16.1)) fun d18 => ob (J5 2 (.H7 q16.1)) fun d19 => ob (J5 3 (.H7 q16.1)) fun d20 => og (D6 15 d19) <| some ([d17, d18, (EU d19), d20], q16.2)))) none) := E8 [12]
theorem uz : (run cfg).r Pk [(a, .val), (b, .val), (c, .own)] s = A1V (run cfg) a b c s := DF (s := RG) Tryz.func201
def pq := eP Tryz.f202 XR R [] (F4 Tryz.f202 [(a, .val), (b, .val)] [])
def Vv := hP Tryz.f202 XR R (pb 122) (ms 147 [(10, a), (11, b)] [(10, .own)] [(2, bx c 5), (3, bx d 5), (4, some zb0)] [])
def LA := eP Tryz.f202 XR R (pb 7827) (ms 147 [(10, a), (11, b)] [(10, .own)] [(2, bx c 5), (3, bx d 5), (4, some zb0), (12, bx e 5), (13, bx f 5)] [])
theorem A2t : pq R a b =
 (og (D6 5 a) <| og (D6 5 b) <| ob (A8 .eql (A7 0 a) (iI 1)) fun d1 => D7 d1 (some (.H7 [(P6 b), (.bool true)])) (ob (A8 .eql (A7 0 b) (iI 1)) fun d2 => D7 d2 (some (.H7 [(P6 a), (.bool true)])) (ob (A8 .eql (A7 0 a) (iI 7)) fun d3 => D7 d3 (some (.H7 [(P6 a), (.bool true)])) (ob (A8 .eql (A7 0 a) (iI 6)) fun d4 => D7 d4 (ob (F5 5 (A7 4 a) (iI 0)) fun d5 => ob (R.p GR [(P6 d5), (P6 b)]) fun d6 => ob (J5 0 d6) fun d7 => ob (J5 1 d6) fun d8 => og (D6 5 d7) <| ob (R.p TK [(P6 a), (P6 d7)]) fun d9 => og (D6 5 d9) <| some (.H7 [(P6 d9), d8])) (ob (A8 .eql (A7 0 a) (iI 5)) fun d10 => D7 d10 (ob (A8 .neq (A7 0 b) (iI 6)) fun d11 => D7 d11 (some (.H7 [(P6 a), (.bool false)])) (ob (A8 .neq (A7 1 a) (A7 1 b)) fun d12 => D7 d12 (og (H6 (A7 2 b)) <| og (H6 (A7 3 b)) <| some (.H7 [(.agg [(iI 7), (iI 0), (A7 2 b), (A7 3 b), (.list 5 [])]), (.bool true)])) (ob (F5 5 (A7 4 a) (iI 0)) fun d13 => ob (F5 5 (A7 4 b) (iI 0)) fun d14 => ob (R.p GR [(P6 d13), (P6 d14)]) fun d15 =>
 ob (J5 0 d15) fun d16 => ob (J5 1 d15) fun d17 => og (D6 5 d16) <| some (.H7 [(P6 d16), d17])))) (ob (A8 .eql (A7 0 b) (iI 7)) fun d18 => D7 d18 (some (.H7 [(P6 b), (.bool true)])) (ob (A8 .eql (A7 0 b) (iI 5)) fun d19 => D7 d19 (ob (F5 5 (A7 4 b) (iI 0)) fun d20 => ob (R.p GR [(P6 a), (P6 d20)]) fun d21 => ob (J5 0 d21) fun d22 => ob (J5 1 d21) fun d23 => og (D6 5 d22) <| ob (R.p TK [(P6 b), (P6 d22)]) fun d24 => og (D6 5 d24) <| some (.H7 [(P6 d24), d23])) (ob (A8 .neq (A7 0 a) (A7 0 b)) fun d25 => D7 d25 (some (.H7 [(P6 a), (.bool false)])) (Vv R (.list 5 []) (iI 0) a b))))))))) := E8 [29]
theorem Fq : Vv R a b c d =
 (ob (dLen (A7 4 c)) fun d1 => ob (A8 .lss b d1) fun d2 => D7 d2 (ob (F5 5 (A7 4 c) b) fun d3 => ob (F5 5 (A7 4 d) b) fun d4 => ob (A8 .eql (A7 0 c) (iI 2)) fun d5 => F7 d5 (ob (A8 .eql b (iI 0)) fun d6 => D7 d6 (LA R a b c d d4 d3) (LA R a b c d d3 d4)) (LA R a b c d d3 d4) none) (ob (R.p Jf [(A7 0 c), a]) fun d7 => og (D6 5 d7) <| some (.H7 [(P6 d7), (.bool true)]))) := I7 [29]
theorem OT : LA R a b c d e f =
 (ob (R.p GR [(P6 e), (P6 f)]) fun d1 => ob (J5 0 d1) fun d2 => ob (J5 1 d1) fun d3 => og (D6 5 d2) <| ob (M5 .not d3) fun d4 => D7 d4 (some (.H7 [(P6 c), (.bool false)])) (ob (AQ 5 a (.list 5 [(P6 d2)])) fun d5 => ob (A8 .add b (iI 1)) fun d6 => Vv R d5 d6 c d)) := E8 [29]
theorem zR : (run cfg).p GR [a, b] = pq (run cfg) a b := N8 Tryz.func202
def A4h := eP Tryz.f203 QK R [] (F4 Tryz.f203 [(a, .val), (b, .val)] [])
def xA := eP Tryz.f203 QK R (pb 7) (ms 117 [] [] [(2, bx a 16), (3, bx b 16)] [])
def Qg := hP Tryz.f203 QK R (pb 122) (ms 117 [(5, a)] [] [(2, bx b 16), (3, bx c 16)] [])
def Nz := hP Tryz.f203 QK R (pb 250) (ms 117 [(6, a)] [] [(2, bx b 16), (3, bx c 16)] [])
theorem A2i : A4h R a b =
 (og (D6 16 a) <| og (D6 16 b) <| ob (A8 .neq (A7 0 a) (A7 0 b)) fun d1 => F7 d1 sF (ob (A8 .neq (A7 3 a) (A7 3 b)) fun d2 => F7 d2 sF (ob (A8 .neq (A7 4 a) (A7 4 b)) fun d3 => F7 d3 sF (ob (A8 .neq (A7 5 a) (A7 5 b)) fun d4 => F7 d4 sF (ob (A8 .neq (A7 6 a) (A7 6 b)) fun d5 => F7 d5 sF (ob (A8 .neq (A7 7 a) (A7 7 b)) fun d6 => F7 d6 sF (ob (dLen (A7 14 a)) fun d7 => ob (dLen (A7 14 b)) fun d8 => ob (A8 .neq d7 d8) fun d9 => F7 d9 sF (ob (dLen (A7 15 a)) fun d10 => ob (dLen (A7 15 b)) fun d11 => ob (A8 .neq d10 d11) fun d12 => D7 d12 sF (xA R a b)) none) none) none) none) none) none) none) := E8 [3]
theorem sw : xA R a b =
 (ob (R.p GN [(.agg [(A7 8 a), (A7 9 a), (A7 10 a)]), (.agg [(A7 8 b), (A7 9 b), (A7 10 b)])]) fun d1 => ob (M5 .not d1) fun d2 => F7 d2 sF (ob (R.p GN [(.agg [(A7 11 a), (A7 12 a), (A7 13 a)]), (.agg [(A7 11 b), (A7 12 b), (A7 13 b)])]) fun d3 => ob (M5 .not d3) fun d4 => D7 d4 sF (Qg R (iI 0) a b)) none) := E8 [3]
theorem WJ : Qg R a b c =
 (ob (dLen (A7 14 b)) fun d1 => ob (A8 .lss a d1) fun d2 => D7 d2 (ob (F5 7 (A7 14 b) a) fun d3 => ob (F5 7 (A7 14 c) a) fun d4 => ob (R.p QY [(IP d3), (IP d4)]) fun d5 => ob (M5 .not d5) fun d6 => D7 d6 sF (ob (A8 .add a (iI 1)) fun d7 => Qg R d7 b c)) (Nz R (iI 0) b c)) := I7 [3]
theorem UZ : Nz R a b c =
 (ob (dLen (A7 15 b)) fun d1 => ob (A8 .lss a d1) fun d2 => D7 d2 (ob (F5 16 (A7 15 b) a) fun d3 => ob (F5 16 (A7 15 c) a) fun d4 => ob (R.p Za [(A3v d3), (A3v d4)]) fun d5 => ob (M5 .not d5) fun d6 => D7 d6 sF (ob (A8 .add a (iI 1)) fun d7 => Nz R d7 b c)) sT) := I7 [3]
theorem zG : (run cfg).p Za [a, b] = A4h (run cfg) a b := N8 Tryz.func203
def A1K := eP Tryz.f204 dI R [] (F4 Tryz.f204 [(a, .val), (b, .val)] [])
def N_ := hP Tryz.f204 dI R (pb 58) (ms 30 [(5, a)] [] [(2, bx b 7), (3, bx c 7)] [])
theorem yK : A1K R a b =
 (og (D6 7 a) <| og (D6 7 b) <| ob (WA [.int, .int] (.agg [(A7 1 a), (A7 2 a)]) (.agg [(A7 1 b), (A7 2 b)])) fun b1 => D7 (.bool !b1) sF (N_ R (iI 0) a b)) := E8 []
theorem Ub : N_ R a b c =
 (ob (dLen (A7 6 b)) fun d1 => ob (A8 .lss a d1) fun d2 => D7 d2 (ob (F5 7 (A7 6 b) a) fun d3 => ob (F5 7 (A7 6 c) a) fun d4 => ob (R.p XD [(IP d3), (IP d4)]) fun d5 => ob (M5 .not d5) fun d6 => D7 d6 sF (ob (A8 .add a (iI 1)) fun d7 => N_ R d7 b c)) sT) := I7 []
theorem uh : (run cfg).p XD [a, b] = A1K (run cfg) a b := N8 Tryz.func204
def A1J := eR Tryz.f205 RF dH R [] (F4 Tryz.f205 [(a, .val), (b, .own)] s)
def Gv := hR Tryz.f205 RF dH R (pb 58) (ms 29 [(1, a), (5, b)] [(1, .own)] [(2, bx c 7)] s)
theorem yJ : A1J R a b s =
 (og (D6 7 a) <| ob (A8 .eql (A7 0 a) (iI 2)) fun d1 => D7 d1 (og (H6 (A7 3 a)) <| ob (AQ 1 b (.list 1 [(A7 3 a)])) fun d2 => Gv R d2 (iI 0) a s) (Gv R b (iI 0) a s)) := E8 []
theorem Ua : Gv R a b c s =
 (ob (dLen (A7 6 c)) fun d1 => ob (A8 .lss b d1) fun d2 => D7 d2 (ob (F5 7 (A7 6 c) b) fun d3 => oc (R.r XC [((IP d3), .val), (a, .own)] s) fun q4 s4 => ob (A8 .add b (iI 1)) fun d5 => Gv R q4 d5 c s4) (some ([a], s))) := I7 []
theorem ug : (run cfg).r XC [(a, .val), (b, .own)] s = A1J (run cfg) a b s := DF (s := RF) Tryz.func205
def A1F := eP Tryz.f206 zn R [] (F4 Tryz.f206 [(a, .val)] [])
theorem yF : A1F R a =
 (ob (A8 .geq a (.int .u8 48)) fun d1 => F7 d1 (ob (A8 .leq a (.int .u8 57)) fun d2 => some d2) sF none) := E8 []
theorem uX : (run cfg).p jS [a] = A1F (run cfg) a := N8 Tryz.func206
def A1x := eP Tryz.f215 dA R [] (F4 Tryz.f215 [(a, .val), (b, .val)] [])
def Jg := hP Tryz.f215 dA R (pb 58) (ms 27 [(1, a), (5, b)] [] [(2, bx c 3)] [])
theorem yB : A1x R a b =
 (og (D6 3 a) <| ob (A8 .add b (iI 1)) fun d1 => Jg R d1 (iI 0) a) := E8 []
theorem UI : Jg R a b c =
 (ob (dLen (A7 2 c)) fun d1 => ob (A8 .lss b d1) fun d2 => F7 d2 (ob (A8 .leq a (iI 600)) fun d3 => D7 d3 (ob (F5 3 (A7 2 c) b) fun d4 => ob (R.p XA [(W9 d4), a]) fun d5 => ob (A8 .add b (iI 1)) fun d6 => Jg R d5 d6 c) (some a)) (some a) none) := I7 []
theorem uT : (run cfg).p XA [a, b] = A1x (run cfg) a b := N8 Tryz.func215
def A4g := eR Tryz.f216 Nb XQ R [] (F4 Tryz.f216 [(a, .val), (b, .own)] s)
def Tq := eR Tryz.f216 Nb XQ R (pb 7) (ms 36 [(1, a)] [(1, .own)] [(2, bx b 3)] s)
def Kz := hR Tryz.f216 Nb XQ R (pb 58) (ms 36 [(1, a), (5, b)] [(1, .own)] [(2, bx c 3)] s)
theorem A2h : A4g R a b s =
 (og (D6 3 a) <| ob (A8 .eql (A7 0 a) (iI 6)) fun d1 => F7 d1 (ob (R.p A3r [b, (A7 1 a)]) fun d2 => ob (M5 .not d2) fun d3 => D7 d3 (og (H6 (A7 1 a)) <| ob (AQ 1 b (.list 1 [(A7 1 a)])) fun d4 => Tq R d4 a s) (Tq R b a s)) (Tq R b a s) none) := E8 [3]
theorem Qu : Tq R a b s =
 (Kz R a (iI 0) b s) := E8 [3]
theorem WI : Kz R a b c s =
 (ob (dLen (A7 2 c)) fun d1 => ob (A8 .lss b d1) fun d2 => D7 d2 (ob (F5 3 (A7 2 c) b) fun d3 => oc (R.r ZZ [((W9 d3), .val), (a, .own)] s) fun q4 s4 => ob (A8 .add b (iI 1)) fun d5 => Kz R q4 d5 c s4) (some ([a], s))) := I7 [3]
theorem zF : (run cfg).r ZZ [(a, .val), (b, .own)] s = A4g (run cfg) a b s := DF (s := Nb) Tryz.func216
def A13 := eP Tryz.f217 dR R [] (F4 Tryz.f217 [(a, .val)] [])
def OJ := hP Tryz.f217 dR R (pb 58) (ms 37 [(0, a), (3, b)] [] [] [])
theorem ym : A13 R a =
 (ob (CF a) fun d1 => ob (A8 .lss d1 (iI 1)) fun d2 => F7 d2 sF (ob (CF a) fun d3 => ob (A8 .gtr d3 (iI 32)) fun d4 => F7 d4 sF (ob (j6 a (iI 0)) fun d5 => ob (A8 .lss d5 (.int .u8 97)) fun d6 => F7 d6 sF (ob (j6 a (iI 0)) fun d7 => ob (A8 .gtr d7 (.int .u8 122)) fun d8 => F7 d8 sF (ob (R.p pX [a]) fun d9 => D7 d9 sF (OJ R a (iI 1))) none) none) none) none) := E8 []
theorem Ul : OJ R a b =
 (ob (CF a) fun d1 => ob (A8 .lss b d1) fun d2 => D7 d2 (ob (j6 a b) fun d3 => ob (R.p aW [d3]) fun d4 => ob (M5 .not d4) fun d5 => D7 d5 sF (ob (A8 .add b (iI 1)) fun d6 => OJ R a d6)) sT) := I7 []
theorem vI : (run cfg).p XJ [a] = A13 (run cfg) a := N8 Tryz.func217
def A1Y := eP Tryz.f218 A0a R [] (F4 Tryz.f218 [(a, .val)] [])
theorem yY : A1Y R a =
 (og (D6 3 a) <| ob (A8 .eql (A7 0 a) (iI 0)) fun d1 => F7 d1 (ob (A8 .eql (A7 1 a) (iI 0)) fun d2 => F7 d2 (ob (dLen (A7 2 a)) fun d3 => ob (A8 .eql d3 (iI 0)) fun d4 => some d4) sF none) sF none) := E8 []
theorem vC : (run cfg).p jY [a] = A1Y (run cfg) a := N8 Tryz.func218
def Xi : Code := Tryz.f219.body.getD .skip
def gJ := eP Tryz.f219 Ej R [] (F4 Tryz.f219 [(a, .val)] [])
def Xd := eP Tryz.f219 Ej R (pb 58) (ms 32 [(0, a), (4, (.H7 [])), (6, b), (8, (.H7 [])), (9, (.H7 [])), (10, (.H7 [])), (11, (.H7 [])), (12, (.H7 [])), (13, (.H7 [])), (14, (.H7 [])), (15, (.H7 [])), (16, (.H7 [])), (17, (.H7 [])), (18, (.H7 [])), (19, (.H7 [])), (20, (.H7 [])), (21, (.H7 [])), (22, (.H7 [])), (23, (.H7 [])), (24, (.H7 [])), (25, (.H7 [])), (26, (.H7 [])), (27, (.H7 [])), (28, (.H7 [])), (29, (.H7 [])), (30, (.H7 [])), (31, (.H7 []))] [(1, (.ptr 0 0)), (2, (.ptr 1 0)), (3, (.ptr 3 0)), (5, (.map 2)), (7, (.fn 268 [(4, 0)]))] [] s)
def QT : Code := match (sub [true, true, false, true, false] Xi []).1 with
 | .rangeFunc _ _ a b => .seq a b
 | c => c
def AC (R : Q8) (t0 t6 : DV) (o : Out) (sg : List C9) : Option DV := A0j cfg R Ej (Yo cfg.P Tryz.f219) [true, true, false, true, false] Xi o (AA ⟨spread .undef 32 0 [(0, t0), (4, (.H7 [])), (6, t6), (8, (.H7 [])), (9, (.H7 [])), (10, (.H7 [])), (11, (.H7 [])), (12, (.H7 [])), (13, (.H7 [])), (14, (.H7 [])), (15, (.H7 [])), (16, (.H7 [])), (17, (.H7 [])), (18, (.H7 [])), (19, (.H7 [])), (20, (.H7 [])), (21, (.H7 [])), (22, (.H7 [])), (23, (.H7 [])), (24, (.H7 [])), (25, (.H7 [])), (26, (.H7 [])), (27, (.H7 [])), (28, (.H7 [])), (29, (.H7 [])), (30, (.H7 [])), (31, (.H7 []))], spread .val 32 0 [(1, (.ptr 0 0)), (2, (.ptr 1 0)), (3, (.ptr 3 0)), (5, (.map 2)), (7, (.fn 268 [(4, 0)]))], spread none 32 0 [], []⟩ sg)
def Mi (R : Q8) (t0 t6 : DV) (I : List C9 -> Option DV) (x : DV) (sg : List C9) : Option DV := Vi cfg R Ej (kr I (AC R t0 t6)) [] QT (mst 32 [(8, x)] [(2, (.ptr 1 0)), (3, (.ptr 3 0))] [] sg)
def Df (R : Q8) (t0 t6 : DV) : List DV -> List C9 -> Option DV := LP (fun x I sg => Mi R t0 t6 I x sg) (AC R t0 t6 .normal)
def PI (R : Q8) (t0 t6 : DV) (I : List C9 -> Option DV) (b4 : DV) (sg : List C9) : Option DV := Vi cfg R Ej (kr I (AC R t0 t6)) (pb 13) QT (ms 32 [] [(3, (.ptr 3 0))] [(4, bx b4 7)] sg)
theorem bZ : gJ R a =
 (og (D6 7 a) <| Xd R a (IP a) [C9.box [((A7 0 a), .val), ((A7 1 a), .val), ((A7 2 a), .val), ((A7 3 a), .val), ((A7 4 a), .val), ((A7 5 a), .val), ((A7 6 a), .val)], C9.box [((iI 0), .val)], .map true [], C9.box [(.undef, (.map 2))], C9.box [((A7 0 a), .val), ((A7 1 a), .val), ((A7 2 a), .val), ((A7 3 a), .val), ((A7 4 a), .val), ((A7 5 a), .val), ((A7 6 a), .val)]]) := E8 [6]
theorem Vg : Xd R a b s =
 ob (E9 s 4) fun cs => ob (BL cs) fun cd => ob (Qy 7 6 cd) fun ds => Df R a b ds (s.set 4 (.arr 1 [])) := (B7B (t := 7) (f := 268) (i := 4) (q := 8) (it := Qy 7 6) (by kernel_rfl) (by kernel_rfl) (by kernel_rfl) (by kernel_rfl)).trans (by kernel_rfl)
theorem Pn (R : Q8) (t0 t6 : DV) (sg : List C9) : Df R t0 t6 [] sg = AC R t0 t6 .normal sg := rfl
theorem Ot (R : Q8) (t0 t6 x : DV) (ds : List DV) (sg : List C9) : Df R t0 t6 (x :: ds) sg = Mi R t0 t6 (Df R t0 t6 ds) x sg := rfl
theorem SF (R : Q8) (t0 t6 : DV) (I : List C9 -> Option DV) (x : DV) (sg : List C9) : Mi R t0 t6 I x sg = (og (D6 7 x) <| ob (R.p YP [(IP x)]) fun d1 => ob (M5 .not d1) fun d2 => F7 d2 (ob (E9 sg 1) fun c3 => ob (c3[0]?) fun u4 => AC R t0 t6 .ret (sg.set 1 (C9.box (c3.set 0 ((iI 1), .val))))) (ob (A8 .eql (A7 0 x) (iI 2)) fun d5 => F7 d5 (ob (E9 sg 3) fun c6 => ob (SB c6 0) fun i7 => og (isKey true (A7 3 x) && true) <| ob (Ko sg i7) fun m8 =>
 og (m8.1 == true) <| ob (A8 .gtr ((FQ m8.2 (A7 3 x)).getD (iI 0)) (iI 0)) fun d9 => D7 d9 (ob (E9 sg 1) fun c10 => ob (c10[0]?) fun u11 => AC R t0 t6 .ret (sg.set 1 (C9.box (c10.set 0 ((iI 1), .val))))) (PI R t0 t6 I x sg)) (PI R t0 t6 I x sg) none) none) := E8 [6]
theorem Jr : AC R a b .normal s =
 (ob (E9 s 1) fun c1 => ob (c1[0]?) fun u2 => B5Z (ob (E9 (s.set 1 (C9.box (c1.set 0 ((iI 0), .val)))) 1) fun c => oneCell (s.set 1 (C9.box (c1.set 0 ((iI 0), .val)))) c)) := B1k [6] (by kernel_rfl)
theorem MO : AC R a b .ret s = (B5Z (ob (E9 s 1) fun c => oneCell s c)) := B1k [6] (by kernel_rfl)
theorem Xr (R : Q8) (t0 t6 : DV) (I : List C9 -> Option DV) (b4 : DV) (sg : List C9) : PI R t0 t6 I b4 sg = (ob (A8 .eql (A7 0 b4) (iI 2)) fun d1 => D7 d1 (ob (E9 sg 3) fun c2 => ob (SB c2 0) fun i3 => og (isKey true (A7 3 b4) && true) <| ob (Ko sg i3) fun m4 => og (m4.1 == true) <| ob (A8 .add ((FQ m4.2 (A7 3 b4)).getD (iI 0)) (iI 1)) fun d5 => og (isKey true (A7 3 b4) && true && true) <| ob (Ko sg i3) fun m6 => og (m6.1 == true) <| I (sg.set i3 (.map true (JJ m6.2 (A7 3 b4) d5)))) (I sg)) := E8 [6]
theorem ZM : (run cfg).p TU [a] = gJ (run cfg) a := N8 Tryz.func219
def A4C := eP Tryz.f220 A29 R [] (F4 Tryz.f220 [(a, .val)] [])
theorem A2F : A4C R a =
 (ob (A8 .eql a (iI 1)) fun d1 => D7 d1 (some (iI 1)) (ob (A8 .eql a (iI 2)) fun d2 => D7 d2 (some (iI 2)) (ob (A8 .eql a (iI 3)) fun d3 => D7 d3 (some (iI 3)) (ob (A8 .eql a (iI 4)) fun d4 => D7 d4 (some (iI 4)) (ob (A8 .eql a (iI 5)) fun d5 => D7 d5 (some (iI 7)) (ob (A8 .eql a (iI 6)) fun d6 => D7 d6 (some (iI 8)) (ob (A8 .eql a (iI 7)) fun d7 => D7 d7 (some (iI 8)) (some (iI 9))))))))) := E8 []
theorem zg : (run cfg).p pW [a] = A4C (run cfg) a := N8 Tryz.func220
def A10 := eP Tryz.f221 A0c R [] (F4 Tryz.f221 [(a, .val)] [])
theorem yc : A10 R a =
 (ob (A8 .eql a (iI 1)) fun d1 => D7 d1 (some (iI 0)) (ob (A8 .eql a (iI 2)) fun d2 => D7 d2 (some (iI 0)) (ob (A8 .eql a (iI 3)) fun d3 => D7 d3 (some (iI 0)) (ob (A8 .eql a (iI 4)) fun d4 => D7 d4 (some (iI 0)) (ob (A8 .eql a (iI 5)) fun d5 => D7 d5 (some (iI 0)) (ob (A8 .eql a (iI 6)) fun d6 => D7 d6 (some (iI 0)) (ob (A8 .eql a (iI 8)) fun d7 => D7 d7 (some (iI 1)) (ob (A8 .eql a (iI 7)) fun d8 => D7 d8 (some (iI 2)) (ob (A8 .eql a (iI 9)) fun d9 => D7 d9 (some (iI 2)) (some (.int .i64 (-1)))))))))))) := E8 []
theorem vF : (run cfg).p jZ [a] = A10 (run cfg) a := N8 Tryz.func221
def xU := eP Tryz.f222 vZ R [] (F4 Tryz.f222 [(a, .val)] [])
theorem uJ : xU R a =
 (og (D6 3 a) <| ob (R.p QZ [(W9 a), (iI 6)]) fun d1 => some d1) := E8 []
theorem nW : (run cfg).p TV [a] = xU (run cfg) a := N8 Tryz.func222
end
end Go.Su

/-
 Equations of the program's functions: by program.
-/
namespace Go.Su
set_option maxRecDepth 100000
noncomputable section
open Go.Proofs
variable (R : Q8) (i j k l m n : Nat) (a b c d e f g h o p q r t u v w x y z A B C D E F G H I J K L M N O P Q S T U V W X Y Z a1 a2 a3 a4 a5 a6 a7 a8 a9 a10 a11 a12 a13 a14 a15 a16 a17 a18 a19 a20 a21 a22 a23 a24 a25 a26 a27 a28 a29 a30 a31 a32 a33 a34 a35 a36 a37 a38 a39 a40 a41 a42 a43 a44 a45 a46 a47 a48 a49 a50 a51 a52 a53 a54 a55 a56 a57 a58 a59 : DV) (s : List C9)
def wh := eP Tryz.f223 IW R [] (F4 Tryz.f223 [(a, .val)] [])
def kv := eP Tryz.f223 IW R (pb 431) (ms 130 [(5, a)] [] [(1, bx b 5)] [])
def kw := eP Tryz.f223 IW R (pb 1727) (ms 130 [(5, a)] [] [(1, bx b 5)] [])
def fZ := eP Tryz.f223 IW R (pb 13821) (ms 130 [] [] [(1, bx a 5)] [])
def fq := eP Tryz.f223 IW R (pb 27643) (ms 130 [] [] [(1, bx a 5), (3, bx b 5)] [])
theorem sS : wh R a =
 (og (D6 5 a) <| ob (A8 .eql (A7 0 a) (iI 1)) fun d1 => D7 d1 (ob (dLen (A7 4 a)) fun d2 => ob (A8 .eql d2 (iI 0)) fun d3 => F7 d3 (ob (A8 .eql (A7 1 a) (iI 0)) fun d4 => F7 d4 (ob (A8 .eql (A7 2 a) (iI 0)) fun d5 => F7 d5 (ob (M5 .not (A7 3 a)) fun d6 => some d6) sF none) sF none) sF none) (ob (A8 .eql (A7 0 a) (iI 7)) fun d7 => D7 d7 (ob (dLen (A7 4 a)) fun d8 => ob (A8 .eql d8 (iI 0)) fun d9 => F7 d9 (ob (A8 .eql (A7 1 a) (iI 0)) fun d10 => F7 d10 (ob (R.p TE [(A7 2 a)]) fun d11 => some d11) sF none) sF none) (kv R (A7 0 a) a))) := E8 [6, 8, 11, 12]
theorem gU : kv R a b =
 (ob (A8 .eql a (iI 5)) fun d1 => D7 d1 (ob (dLen (A7 4 b)) fun d2 => ob (A8 .eql d2 (iI 1)) fun d3 => F7 d3 (ob (R.p QW [(A7 1 b)]) fun d4 => F7 d4 (ob (A8 .eql (A7 2 b) (iI 0)) fun d5 => F7 d5 (ob (M5 .not (A7 3 b)) fun d6 => F7 d6 (ob (F5 5 (A7 4 b) (iI 0)) fun d7 => ob (R.p DT [(P6 d7), (A7 1 b)]) fun d8 => some d8) sF none) sF none) sF none) sF none) (kw R a b)) := E8 [6, 8, 11, 12]
theorem gV : kw R a b =
 (ob (A8 .eql a (iI 6)) fun d1 => D7 d1 (ob (dLen (A7 4 b)) fun d2 => ob (A8 .neq d2 (iI 1)) fun d3 => F7 d3 sF (ob (R.p QW [(A7 1 b)]) fun d4 => ob (M5 .not d4) fun d5 => F7 d5 sF (ob (R.p TE [(A7 2 b)]) fun d6 => ob (M5 .not d6) fun d7 => D7 d7 sF (fZ R b)) none) none) (ob (A8 .eql a (iI 2)) fun d8 => D7 d8 (ob (R.p Kv [(P6 b)]) fun d9 => some d9) (ob (A8 .eql a (iI 3)) fun d10 => D7 d10 (ob (R.p Kv [(P6 b)]) fun d11 => some d11) (ob (A8 .eql a (iI 4)) fun d12 => D7 d12 (ob (R.p Kv [(P6 b)]) fun d13 => some d13) sF)))) := E8 [6, 8, 11, 12]
theorem bF : fZ R a =
 (ob (F5 5 (A7 4 a) (iI 0)) fun d1 => fq R a d1) := E8 [6, 8, 11, 12]
theorem bG : fq R a b =
 (ob (A8 .eql (A7 0 b) (iI 7)) fun d1 => F7 d1 (ob (R.p CK [(P6 b)]) fun d2 => F7 d2 sT (ob (A8 .eql (A7 0 b) (iI 5)) fun d3 => F7 d3 (ob (A8 .eql (A7 1 b) (A7 1 a)) fun d4 => F7 d4 (ob (R.p CK [(P6 b)]) fun d5 => F7 d5 sT (ob (R.p DT [(P6 b), (A7 1 a)]) fun d6 => some d6) none) (ob (R.p DT [(P6 b), (A7 1 a)]) fun d7 => some d7) none) (ob (R.p DT [(P6 b), (A7 1 a)]) fun d8 => some d8) none) none) (ob (A8 .eql (A7 0 b) (iI 5)) fun d9 => F7 d9 (ob (A8 .eql (A7 1 b) (A7 1 a)) fun d10 => F7 d10 (ob (R.p CK [(P6 b)]) fun d11 => F7 d11 sT (ob (R.p DT [(P6 b), (A7 1 a)]) fun d12 => some d12) none) (ob (R.p DT [(P6 b), (A7 1 a)]) fun d13 => some d13) none) (ob (R.p DT [(P6 b), (A7 1 a)]) fun d14 => some d14) none) none) := E8 [6, 8, 11, 12]
theorem mo : (run cfg).p CK [a] = wh (run cfg) a := N8 Tryz.func223
def wo := eP Tryz.f224 vL R [] (F4 Tryz.f224 [(a, .val), (b, .val)] [])
theorem sU : wo R a b =
 (og (D6 5 a) <| og (D6 5 b) <| some (.agg [(A7 0 a), (A7 1 a), (A7 2 a), (A7 3 a), (.list 5 [(P6 b)])])) := E8 []
theorem mq : (run cfg).p TF [a, b] = wo (run cfg) a b := N8 Tryz.func224
def rW := eP Tryz.f225 OX R [] (F4 Tryz.f225 [(a, .val), (b, .val)] [])
def Hg := hP Tryz.f225 OX R (pb 58) (ms 69 [(7, a), (18, b), (19, c)] [] [(2, bx d 5), (3, bx e 5), (4, some zb0), (6, some [(f, .val), ((iI 0), .val), ((iI 0), .val), ((.bool false), .val), (g, .own)])] [])
def Fa := eP Tryz.f225 OX R (pb 14951) (ms 69 [(7, a), (18, b), (19, c)] [] [(2, bx d 5), (3, bx e 5), (4, some zb0), (6, some [(f, .val), ((iI 0), .val), ((iI 0), .val), ((.bool false), .val), (g, .own)]), (9, bx h 5), (10, bx o 5)] [])
theorem lw : rW R a b =
 (og (D6 5 a) <| og (D6 5 b) <| og (H6 (A7 0 a)) <| ob (dLen (A7 4 a)) fun d1 => Hg R (iI 0) d1 (iI 0) a b (A7 0 a) (.list 5 [])) := E8 [8]
theorem Bj : Hg R a b c d e f g =
 (ob (A8 .lss c b) fun d1 => D7 d1 (ob (F5 5 (A7 4 d) c) fun d2 => ob (F5 5 (A7 4 e) c) fun d3 => ob (A8 .eql (A7 0 d) (iI 2)) fun d4 => F7 d4 (ob (A8 .eql c (iI 0)) fun d5 => D7 d5 (Fa R a b c d e f g d3 d2) (Fa R a b c d e f g d2 d3)) (Fa R a b c d e f g d2 d3) none) (ob (dLen g) fun d6 => ob (A8 .eql a d6) fun d7 => D7 d7 (ob (R.p fO []) fun d8 => og (D6 5 d8) <| some (.H7 [(P6 d8), (.bool true)])) (some (.H7 [(.agg (f::(Pd [g]))), (.bool true)])))) := I7 [8]
theorem Ke : Fa R a b c d e f g h o =
 (ob (R.p Dt [(P6 h), (P6 o)]) fun d1 => ob (J5 0 d1) fun d2 => ob (J5 1 d1) fun d3 => og (D6 5 d2) <| ob (M5 .not d3) fun d4 => D7 d4 (some (.H7 [(.agg (Ab [])), (.bool false)])) (ob (A8 .eql (A7 0 d2) (iI 1)) fun d5 => D7 d5 (ob (A8 .add a (iI 1)) fun d6 => ob (AQ 5 g (.list 5 [(P6 d2)])) fun d7 => ob (A8 .add c (iI 1)) fun d8 => Hg R d6 b d8 d e f d7) (ob (AQ 5 g (.list 5 [(P6 d2)])) fun d9 => ob (A8 .add c (iI 1)) fun d10 => Hg R a b d10 d e f d9))) := E8 [8]
theorem iN : (run cfg).p YN [a, b] = rW (run cfg) a b := N8 Tryz.func225
def xC := eP Tryz.f226 vP R [] (F4 Tryz.f226 [(a, .val), (b, .val)] [])
theorem tJ : xC R a b =
 (og (D6 5 a) <| og (D6 5 b) <| some (.agg [(A7 0 a), (A7 1 a), (A7 2 a), (A7 3 a), (.list 5 [(P6 b)])])) := E8 []
theorem nE : (run cfg).p TK [a, b] = xC (run cfg) a b := N8 Tryz.func226
def rq := eP Tryz.f227 WX R [] (F4 Tryz.f227 [(a, .val), (b, .val)] [])
def KX := hP Tryz.f227 WX R (pb 58) (ms 60 [(5, a)] [] [(2, bx b 7), (3, bx c 7)] [])
theorem mI : rq R a b =
 (og (D6 7 a) <| og (D6 7 b) <| ob (A8 .neq (A7 0 a) (A7 0 b)) fun d1 => F7 d1 sF (ob (A8 .neq (A7 3 a) (A7 3 b)) fun d2 => F7 d2 sF (ob (A8 .neq (A7 4 a) (A7 4 b)) fun d3 => F7 d3 sF (ob (A8 .neq (A7 5 a) (A7 5 b)) fun d4 => F7 d4 sF (ob (dLen (A7 6 a)) fun d5 => ob (dLen (A7 6 b)) fun d6 => ob (A8 .neq d5 d6) fun d7 => D7 d7 sF (KX R (iI 0) a b)) none) none) none) none) := E8 []
theorem PR : KX R a b c =
 (ob (dLen (A7 6 b)) fun d1 => ob (A8 .lss a d1) fun d2 => D7 d2 (ob (F5 7 (A7 6 b) a) fun d3 => ob (F5 7 (A7 6 c) a) fun d4 => ob (R.p QY [(IP d3), (IP d4)]) fun d5 => ob (M5 .not d5) fun d6 => D7 d6 sF (ob (A8 .add a (iI 1)) fun d7 => KX R d7 b c)) sT) := I7 []
theorem iR : (run cfg).p QY [a, b] = rq (run cfg) a b := N8 Tryz.func227
def A8b := eP Tryz.f246 zq R [] (F4 Tryz.f246 [(a, .val), (b, .val)] [])
def XK := hP Tryz.f246 zq R (pb 26) (ms 18 [(0, a), (1, b), (5, c)] [] [] [])
theorem A6N : A8b R a b =
 (XK R a b (iI 0)) := E8 []
theorem bM : XK R a b c =
 (ob (dLen a) fun d1 => ob (A8 .lss c d1) fun d2 => D7 d2 (ob (F5 1 a c) fun d3 => og (M4 d3) <| ob (A8 .eql d3 b) fun d4 => D7 d4 sT (ob (A8 .add c (iI 1)) fun d5 => XK R a b d5)) sF) := I7 []
theorem A46 : (run cfg).p A3r [a, b] = A8b (run cfg) a b := N8 Tryz.func246
def A4E := eP Tryz.f247 A3b R [] (F4 Tryz.f247 [(a, .val)] [])
theorem A2H : A4E R a =
 (ob (A8 .eql a (.str ⟨#[108, 101, 116]⟩)) fun d1 => D7 d1 sT (ob (A8 .eql a (.str ⟨#[114, 101, 99]⟩)) fun d2 => D7 d2 sT (ob (A8 .eql a (.str ⟨#[105, 110]⟩)) fun d3 => D7 d3 sT (ob (A8 .eql a (.str ⟨#[102, 117, 110]⟩)) fun d4 => D7 d4 sT (ob (A8 .eql a (.str ⟨#[105, 102]⟩)) fun d5 => D7 d5 sT (ob (A8 .eql a (.str ⟨#[116, 104, 101, 110]⟩)) fun d6 => D7 d6 sT (ob (A8 .eql a (.str ⟨#[101, 108, 115, 101]⟩)) fun d7 => D7 d7 sT (ob (A8 .eql a (.str ⟨#[109, 97, 116, 99, 104]⟩)) fun d8 => D7 d8 sT (ob (A8 .eql a (.str ⟨#[119, 105, 116, 104]⟩)) fun d9 => D7 d9 sT (ob (A8 .eql a (.str ⟨#[101, 110, 100]⟩)) fun d10 => D7 d10 sT (ob (A8 .eql a (.str ⟨#[116, 114, 117, 101]⟩)) fun d11 => D7 d11 sT (ob (A8 .eql a (.str ⟨#[102, 97, 108, 115, 101]⟩)) fun d12 => D7 d12 sT (ob (A8 .eql a (.str ⟨#[105, 110, 116]⟩)) fun d13 => D7 d13 sT (ob (A8 .eql a (.str ⟨#[98, 111, 111, 108]⟩)) fun d14 => D7 d14 sT (ob (A8 .eql a (.str ⟨#[115, 116, 114, 105, 110, 103]⟩)) fun d15 =>
 D7 d15 sT (ob (A8 .eql a (.str ⟨#[117, 110, 105, 116]⟩)) fun d16 => D7 d16 sT (ob (A8 .eql a (.str ⟨#[108, 105, 115, 116]⟩)) fun d17 => D7 d17 sT sF))))))))))))))))) := E8 []
theorem zi : (run cfg).p pX [a] = A4E (run cfg) a := N8 Tryz.func247
def xX := eP Tryz.f248 vg R [] (F4 Tryz.f248 [(a, .val)] [])
theorem uN : xX R a =
 (ob (A8 .geq a (.int .u8 97)) fun d1 => F7 d1 (ob (A8 .leq a (.int .u8 122)) fun d2 => F7 d2 sT (ob (A8 .geq a (.int .u8 65)) fun d3 => F7 d3 (ob (A8 .leq a (.int .u8 90)) fun d4 => F7 d4 sT (ob (A8 .geq a (.int .u8 48)) fun d5 => F7 d5 (ob (A8 .leq a (.int .u8 57)) fun d6 => F7 d6 sT (ob (A8 .eql a (.int .u8 95)) fun d7 => F7 d7 sT (ob (A8 .eql a (.int .u8 39)) fun d8 => some d8) none) none) (ob (A8 .eql a (.int .u8 95)) fun d9 => F7 d9 sT (ob (A8 .eql a (.int .u8 39)) fun d10 => some d10) none) none) none) (ob (A8 .geq a (.int .u8 48)) fun d11 => F7 d11 (ob (A8 .leq a (.int .u8 57)) fun d12 => F7 d12 sT (ob (A8 .eql a (.int .u8 95)) fun d13 => F7 d13 sT (ob (A8 .eql a (.int .u8 39)) fun d14 => some d14) none) none) (ob (A8 .eql a (.int .u8 95)) fun d15 => F7 d15 sT (ob (A8 .eql a (.int .u8 39)) fun d16 => some d16) none) none) none) none) (ob (A8 .geq a (.int .u8 65)) fun d17 => F7 d17 (ob (A8 .leq a (.int .u8 90)) fun d18 => F7 d18 sT (ob (A8 .geq a (.int .u8 48)) fun d19 =>
 F7 d19 (ob (A8 .leq a (.int .u8 57)) fun d20 => F7 d20 sT (ob (A8 .eql a (.int .u8 95)) fun d21 => F7 d21 sT (ob (A8 .eql a (.int .u8 39)) fun d22 => some d22) none) none) (ob (A8 .eql a (.int .u8 95)) fun d23 => F7 d23 sT (ob (A8 .eql a (.int .u8 39)) fun d24 => some d24) none) none) none) (ob (A8 .geq a (.int .u8 48)) fun d25 => F7 d25 (ob (A8 .leq a (.int .u8 57)) fun d26 => F7 d26 sT (ob (A8 .eql a (.int .u8 95)) fun d27 => F7 d27 sT (ob (A8 .eql a (.int .u8 39)) fun d28 => some d28) none) none) (ob (A8 .eql a (.int .u8 95)) fun d29 => F7 d29 sT (ob (A8 .eql a (.int .u8 39)) fun d30 => some d30) none) none) none) none) := E8 []
theorem nZ : (run cfg).p aW [a] = xX (run cfg) a := N8 Tryz.func248
def sG := eP Tryz.f250 WY R [] (F4 Tryz.f250 [(a, .val)] [])
def z8 := eP Tryz.f250 WY R (pb 15) (ms 83 [(4, a)] [] [(1, bx b 7), (3, bv [c, d, e, f, g, h, o])] [])
theorem mZ : sG R a =
 (og (D6 7 a) <| og (H6 (A7 0 a)) <| og (H6 (A7 6 a)) <| ob (A8 .eql (A7 0 a) (iI 1)) fun d1 => D7 d1 (z8 R (iI 0) a (A7 0 a) (A7 1 a) (A7 2 a) (.str ⟨#[]⟩) (iI 0) (.str ⟨#[]⟩) (A7 6 a)) (ob (A8 .eql (A7 0 a) (iI 6)) fun d2 => D7 d2 (z8 R (iI 0) a (A7 0 a) (A7 1 a) (A7 2 a) (.str ⟨#[]⟩) (iI 0) (.str ⟨#[]⟩) (A7 6 a)) (ob (A8 .eql (A7 0 a) (iI 8)) fun d3 => D7 d3 (z8 R (iI 0) a (A7 0 a) (A7 1 a) (A7 2 a) (.str ⟨#[]⟩) (iI 0) (.str ⟨#[]⟩) (A7 6 a)) (ob (A8 .eql (A7 0 a) (iI 2)) fun d4 => D7 d4 (og (H6 (A7 3 a)) <| ob (R.p XJ [(A7 3 a)]) fun d5 => ob (M5 .not d5) fun d6 => D7 d6 sF (z8 R (iI 0) a (A7 0 a) (A7 1 a) (A7 2 a) (A7 3 a) (iI 0) (.str ⟨#[]⟩) (A7 6 a))) (ob (A8 .eql (A7 0 a) (iI 3)) fun d7 => D7 d7 (og (H6 (A7 4 a)) <| z8 R (iI 0) a (A7 0 a) (A7 1 a) (A7 2 a) (.str ⟨#[]⟩) (A7 4 a) (.str ⟨#[]⟩) (A7 6 a)) (ob (A8 .eql (A7 0 a) (iI 4)) fun d8 =>
 D7 d8 (og (H6 (A7 4 a)) <| ob (A8 .neq (A7 4 a) (iI 0)) fun d9 => F7 d9 (ob (A8 .neq (A7 4 a) (iI 1)) fun d10 => D7 d10 sF (z8 R (iI 0) a (A7 0 a) (A7 1 a) (A7 2 a) (.str ⟨#[]⟩) (A7 4 a) (.str ⟨#[]⟩) (A7 6 a))) (z8 R (iI 0) a (A7 0 a) (A7 1 a) (A7 2 a) (.str ⟨#[]⟩) (A7 4 a) (.str ⟨#[]⟩) (A7 6 a)) none) (ob (A8 .eql (A7 0 a) (iI 5)) fun d11 => D7 d11 (og (H6 (A7 5 a)) <| ob (CF (A7 5 a)) fun d12 => ob (A8 .gtr d12 (iI 200)) fun d13 => D7 d13 sF (z8 R (iI 0) a (A7 0 a) (A7 1 a) (A7 2 a) (.str ⟨#[]⟩) (iI 0) (A7 5 a) (A7 6 a))) (ob (A8 .eql (A7 0 a) (iI 7)) fun d14 => D7 d14 (z8 R (iI 2) a (A7 0 a) (A7 1 a) (A7 2 a) (.str ⟨#[]⟩) (iI 0) (.str ⟨#[]⟩) (A7 6 a)) (ob (A8 .eql (A7 0 a) (iI 9)) fun d15 => D7 d15 (z8 R (iI 2) a (A7 0 a) (A7 1 a) (A7 2 a) (.str ⟨#[]⟩) (iI 0) (.str ⟨#[]⟩) (A7 6 a)) sF))))))))) := E8 [24]
theorem ZE : z8 R a b c d e f g h o =
 (ob (dLen (A7 6 b)) fun d1 => ob (A8 .eql d1 a) fun d2 => F7 d2 (ob (A8 .eql f (A7 3 b)) fun d3 => F7 d3 (ob (A8 .eql g (A7 4 b)) fun d4 => F7 d4 (ob (A8 .eql h (A7 5 b)) fun d5 => some d5) sF none) sF none) sF none) := E8 [24]
theorem iV : (run cfg).p YP [a] = sG (run cfg) a := N8 Tryz.func250
def sH := eP Tryz.f251 WZ R [] (F4 Tryz.f251 [(a, .val), (b, .val)] [])
def Ho := hP Tryz.f251 WZ R (pb 58) (ms 23 [(1, a), (12, b), (13, c), (14, d)] [] [] [])
theorem ma : sH R a b =
 (og (D6 3 a) <| ob (A8 .eql (A7 0 a) b) fun d1 => D7 d1 sF (ob (dLen (A7 2 a)) fun d2 => Ho R b (A7 2 a) d2 (iI 0))) := E8 []
theorem PV : Ho R a b c d =
 (ob (A8 .lss d c) fun d1 => D7 d1 (ob (F5 3 b d) fun d2 => ob (R.p QZ [(W9 d2), a]) fun d3 => ob (M5 .not d3) fun d4 => D7 d4 sF (ob (A8 .add d (iI 1)) fun d5 => Ho R a b c d5)) sT) := I7 []
theorem iW : (run cfg).p QZ [a, b] = sH (run cfg) a b := N8 Tryz.func251
def wZ := eP Tryz.f252 vK R [] (F4 Tryz.f252 [(a, .val)] [])
theorem sQ : wZ R a =
 (ob (A8 .geq a (iI 0)) fun d1 => F7 d1 (ob (A8 .leq a (iI 1048576)) fun d2 => some d2) sF none) := E8 []
theorem mi : (run cfg).p TE [a] = wZ (run cfg) a := N8 Tryz.func252
def rU := eP Tryz.f253 nz R [] (F4 Tryz.f253 [(a, .val)] [])
theorem lu : rU R a =
 (ob (A8 .eql a (iI 1)) fun d1 => D7 d1 sT (ob (A8 .eql a (iI 2)) fun d2 => D7 d2 sT (ob (A8 .eql a (iI 3)) fun d3 => D7 d3 sT (ob (A8 .eql a (iI 4)) fun d4 => D7 d4 sT (ob (A8 .eql a (iI 7)) fun d5 => D7 d5 sT (ob (A8 .eql a (iI 8)) fun d6 => D7 d6 sT (ob (A8 .eql a (iI 9)) fun d7 => D7 d7 sT sF))))))) := E8 []
theorem iL : (run cfg).p QW [a] = rU (run cfg) a := N8 Tryz.func253
def rV := eP Tryz.f254 n_ R [] (F4 Tryz.f254 [(a, .val), (b, .val)] [])
theorem lv : rV R a b =
 (og (D6 5 a) <| ob (A8 .eql (A7 0 a) (iI 1)) fun d1 => F7 d1 (ob (R.p CK [(P6 a)]) fun d2 => some d2) (ob (R.p YM [(A7 0 a)]) fun d3 => ob (A8 .eql d3 b) fun d4 => F7 d4 (ob (R.p CK [(P6 a)]) fun d5 => some d5) sF none) none) := E8 []
theorem iM : (run cfg).p DT [a, b] = rV (run cfg) a b := N8 Tryz.func254
def rR := eP Tryz.f255 OW R [] (F4 Tryz.f255 [(a, .val)] [])
def Ls := eP Tryz.f255 OW R (pb 15) (ms 48 [(3, a)] [] [(1, bx b 5)] [])
def Hf := hP Tryz.f255 OW R (pb 506) (ms 48 [(3, a), (4, b), (30, c), (31, d), (32, e)] [] [] [])
theorem lh : rR R a =
 (og (D6 5 a) <| ob (A8 .eql (A7 0 a) (iI 4)) fun d1 => D7 d1 (Ls R (iI 1) a) (Ls R (iI 2) a)) := E8 [4]
theorem bD : Ls R a b =
 (ob (dLen (A7 4 b)) fun d1 => ob (A8 .neq d1 a) fun d2 => F7 d2 sF (ob (A8 .neq (A7 1 b) (iI 0)) fun d3 => F7 d3 sF (ob (A8 .neq (A7 2 b) (iI 0)) fun d4 => F7 d4 sF (D7 (A7 3 b) sF (ob (dLen (A7 4 b)) fun d5 => Hf R a (iI 0) (A7 4 b) d5 (iI 0))) none) none) none) := E8 [4]
theorem PN : Hf R a b c d e =
 (ob (A8 .lss e d) fun d1 => D7 d1 (ob (F5 5 c e) fun d2 => ob (R.p CK [(P6 d2)]) fun d3 => ob (M5 .not d3) fun d4 => D7 d4 sF (ob (A8 .eql (A7 0 d2) (iI 1)) fun d5 => D7 d5 (ob (A8 .add b (iI 1)) fun d6 => ob (A8 .add e (iI 1)) fun d7 => Hf R a d6 c d d7) (ob (A8 .add e (iI 1)) fun d8 => Hf R a b c d d8))) (ob (A8 .lss b a) fun d9 => some d9)) := I7 [4]
theorem iJ : (run cfg).p Kv [a] = rR (run cfg) a := N8 Tryz.func255
def wm := eP Tryz.f256 A5a R [] (F4 Tryz.f256 [] [])
theorem A4T : wm R =
 (some (.agg ((iI 1)::(Pd [(.list 5 [])])))) := E8 []
theorem A2K : (run cfg).p fO [] = wm (run cfg) := N8 Tryz.func256
theorem A8j {d : DV} (h : wm (run cfg) = some d) : (run cfg).p fO [] = some d := (A2K).trans h
def rT := eP Tryz.f270 ny R [] (F4 Tryz.f270 [(a, .val)] [])
theorem lq : rT R a =
 (ob (A8 .eql a (iI 2)) fun d1 => D7 d1 (some (iI 9)) (ob (A8 .eql a (iI 3)) fun d2 => D7 d2 (some (iI 7)) (ob (A8 .eql a (iI 4)) fun d3 => D7 d3 (some (iI 8)) (some (iI 0))))) := E8 []
theorem iK : (run cfg).p YM [a] = rT (run cfg) a := N8 Tryz.func270
end
end Go.Su

/-
 All equations.
-/
namespace Go.Su
end Go.Su
