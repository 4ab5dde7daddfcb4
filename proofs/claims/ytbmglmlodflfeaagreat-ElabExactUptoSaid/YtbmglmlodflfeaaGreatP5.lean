/-
  Parts of the proof, merged: G7, G8, G9, G10, G11, T0.
-/
import Derived.Test.YtbmglmlodflfeaaGreatP4
set_option linter.unusedVariables false
set_option linter.unusedSimpArgs false
/-
 Equations of the program's functions: by program.
-/
namespace Go.Su
set_option maxRecDepth 100000
noncomputable section
open Go.Proofs
variable (R : N7) (i j k l m n : Nat) (a b c d e f g h o p q r t u v w x y z A B C D E F G H I J K L M N O P Q S T U V W X Y Z a1 a2 a3 a4 a5 a6 a7 a8 a9 ai VZ a12 a13 a14 Yv a16 a17 a18 a19 a20 a21 a22 a23 a24 a25 a26 a27 a28 a29 a30 a31 a32 a33 a34 a35 a36 a37 a38 a39 a40 a41 a42 a43 a44 a45 a46 a47 a48 a49 a50 a51 a52 a53 a54 a55 a56 a57 a58 a59 : DV) (s : List D7)
def A4w := eP Tryz.f81 Zf R [] (F5 Tryz.f81 [(a, .val)] [])
def CY := eP Tryz.f81 Zf R (pb 31) (ms 92 [(3, a)] [] [(1, bx b 7), (4, bv [c, (iI 0), (iI 0), d, e, f, (.list 7 [])])] [])
def MJ := hP Tryz.f81 Zf R (pb 506) (ms 92 [(3, a), (5, b)] [] [(1, bx c 7)] [])
theorem A2T : A4w R a =
 (og (C9 7 a) <| og (I7 (A7 0 a)) <| ob (A8 .eql (A7 0 a) (iI 1)) fun d1 => D6 d1 (CY R (iI 0) a (A7 0 a) (.str ⟨#[]⟩) (iI 0) (.str ⟨#[]⟩)) (ob (A8 .eql (A7 0 a) (iI 6)) fun d2 => D6 d2 (CY R (iI 0) a (A7 0 a) (.str ⟨#[]⟩) (iI 0) (.str ⟨#[]⟩)) (ob (A8 .eql (A7 0 a) (iI 8)) fun d3 => D6 d3 (CY R (iI 0) a (A7 0 a) (.str ⟨#[]⟩) (iI 0) (.str ⟨#[]⟩)) (ob (A8 .eql (A7 0 a) (iI 2)) fun d4 => D6 d4 (og (I7 (A7 3 a)) <| ob (R.p IV [(A7 3 a)]) fun d5 => ob (O9 .not d5) fun d6 => D6 d6 (some (.bool false)) (CY R (iI 0) a (A7 0 a) (A7 3 a) (iI 0) (.str ⟨#[]⟩))) (ob (A8 .eql (A7 0 a) (iI 3)) fun d7 => D6 d7 (og (I7 (A7 4 a)) <| CY R (iI 0) a (A7 0 a) (.str ⟨#[]⟩) (A7 4 a) (.str ⟨#[]⟩)) (ob (A8 .eql (A7 0 a) (iI 4)) fun d8 => D6 d8 (og (I7 (A7 4 a)) <| ob (A8 .lss (A7 4 a) (iI 0)) fun d9 => I5 d9 (some (.bool false)) (ob (A8 .gtr (A7 4 a) (iI 1)) fun U2 => D6 U2 (some (.bool false)) (CY R (iI 0) a (A7 0 a) (.str ⟨#[]⟩) (A7 4 a) (.str ⟨#[]⟩))) none) (ob (A8 .eql (A7 0 a) (iI 5)) fun V7 =>
 D6 V7 (og (I7 (A7 5 a)) <| ob (Dr (A7 5 a)) fun Z7 => ob (A8 .gtr Z7 (iI 200)) fun Ci => D6 Ci (some (.bool false)) (CY R (iI 0) a (A7 0 a) (.str ⟨#[]⟩) (iI 0) (A7 5 a))) (ob (A8 .eql (A7 0 a) (iI 7)) fun ET => D6 ET (CY R (iI 2) a (A7 0 a) (.str ⟨#[]⟩) (iI 0) (.str ⟨#[]⟩)) (ob (A8 .eql (A7 0 a) (iI 9)) fun GK => D6 GK (CY R (iI 2) a (A7 0 a) (.str ⟨#[]⟩) (iI 0) (.str ⟨#[]⟩)) (some (.bool false))))))))))) := D9 [25]
theorem qV : CY R a b c d e f =
 (ob (dLen (A7 6 b)) fun d1 => ob (A8 .neq d1 a) fun d2 => I5 d2 (some (.bool false)) (ob (A8 .neq (A7 3 b) d) fun d3 => I5 d3 (some (.bool false)) (ob (A8 .neq (A7 4 b) e) fun d4 => I5 d4 (some (.bool false)) (ob (A8 .neq (A7 5 b) f) fun d5 => D6 d5 (some (.bool false)) (MJ R a (iI 0) b)) none) none) none) := D9 [25]
theorem WH : MJ R a b c =
 (ob (A8 .lss b a) fun d1 => D6 d1 (ob (E8 7 (A7 6 c) b) fun d2 => ob (R.p eu [(Gb d2)]) fun d3 => ob (O9 .not d3) fun d4 => D6 d4 (some (.bool false)) (ob (A8 .add b (iI 1)) fun d5 => MJ R a d5 c)) (some (.bool true))) := H5 [25]
theorem A08 : (run cfg).p eu [a] = A4w (run cfg) a := P9 Tryz.func81
def A0i := eP Tryz.f82 xP R [] (F5 Tryz.f82 [(a, .val)] [])
theorem vW : A0i R a =
 (og (C9 7 a) <| oc (R.r XD [((Gb a), .val), ((.list 1 []), .own)] []) fun q1 s1 => some q1) := D9 []
theorem rX : (run cfg).p XC [a] = A0i (run cfg) a := P9 Tryz.func82
def A4u := eP Tryz.f83 nz R [] (F5 Tryz.f83 [(a, .val), (b, .val)] [])
def Tk := hP Tryz.f83 nz R (pb 26) (ms 18 [(0, a), (1, b), (5, c)] [] [] [])
theorem A2R : A4u R a b =
 (Tk R a b (iI 0)) := D9 []
theorem YZ : Tk R a b c =
 (ob (dLen a) fun d1 => ob (A8 .lss c d1) fun d2 => D6 d2 (ob (E8 1 a c) fun d3 => og (M9 d3) <| ob (A8 .eql d3 b) fun d4 => D6 d4 (some (.bool true)) (ob (A8 .add c (iI 1)) fun d5 => Tk R a b d5)) (some (.bool false))) := H5 []
theorem A06 : (run cfg).p uF [a, b] = A4u (run cfg) a b := P9 Tryz.func83
def A2a := eP Tryz.f84 A1c R [] (F5 Tryz.f84 [(a, .val)] [])
theorem A0G : A2a R a =
 (ob (A8 .eql a (iI 1)) fun d1 => D6 d1 (some (iI 0)) (ob (A8 .eql a (iI 2)) fun d2 => D6 d2 (some (iI 0)) (ob (A8 .eql a (iI 3)) fun d3 => D6 d3 (some (iI 0)) (ob (A8 .eql a (iI 4)) fun d4 => D6 d4 (some (iI 0)) (ob (A8 .eql a (iI 5)) fun d5 => D6 d5 (some (iI 0)) (ob (A8 .eql a (iI 6)) fun d6 => D6 d6 (some (iI 0)) (ob (A8 .eql a (iI 8)) fun d7 => D6 d7 (some (iI 1)) (ob (A8 .eql a (iI 7)) fun d8 => D6 d8 (some (iI 2)) (ob (A8 .eql a (iI 9)) fun d9 => D6 d9 (some (iI 2)) (some (.int .i64 (-1)))))))))))) := D9 []
theorem wS : (run cfg).p nI [a] = A2a (run cfg) a := P9 Tryz.func84
def pR (R : N7) (x0 : DV) (x1 : Nat) (sg : List D7) : Option (List DV × List D7) := eR Tryz.f85 JF PT R [] (F5 Tryz.f85 [(x0, .val), (.undef, (.map x1))] sg)
def Ru := hR Tryz.f85 JF PT R (pb 26) (ms 31 [(9, a), (10, b), (11, c)] [(1, (.map i))] [(2, bx d 3)] s)
def Rv := hR Tryz.f85 JF PT R (pb 30) (ms 31 [(21, a), (22, b), (23, c)] [(1, (.map i))] [] s)
theorem A3Y (R : N7) (x0 : DV) (x1 : Nat) (sg : List D7) : pR R x0 x1 sg =
 (og (C9 3 x0) <| ob (dLen (A7 1 x0)) fun d1 => Ru R x1 (A7 1 x0) d1 (iI 0) x0 sg) := D9 []
theorem zZ : Ru R i a b c d s =
 (ob (A8 .lss c b) fun d1 => D6 d1 (ob (E8 1 a c) fun d2 => og (M9 d2) <| og (isKey false d2 && true) <| ob (p9 s i) fun m3 => og (m3.1 == false) <| ob (A8 .add ((Y7 m3.2 d2).getD (iI 0)) (iI 1)) fun d4 => og (isKey false d2 && true && true) <| ob (p9 s i) fun m5 => og (m5.1 == false) <| ob (A8 .add c (iI 1)) fun d6 => Ru R i a b d6 d (s.set i (.map false (Cm m5.2 d2 d4)))) (ob (dLen (A7 2 d)) fun d7 => Rv R i (A7 2 d) d7 (iI 0) s)) := H5 []
theorem za : Rv R i a b c s =
 (ob (A8 .lss c b) fun d1 => D6 d1 (ob (E8 3 a c) fun d2 => oc (R.r YN [((H6 d2), .val), (.undef, (.map i))] s) fun q3 s3 => ob (A8 .add c (iI 1)) fun d4 => Rv R i a b d4 s3) (some ([], s))) := H5 []
theorem A21 (x0 : DV) (x1 : Nat) (sg : List D7) : (run cfg).r YN [(x0, .val), (.undef, (.map x1))] sg = pR (run cfg) x0 x1 sg := Dl (s := JF) Tryz.func85
def A16 (R : N7) (x0 : DV) (x1 : Nat) (sg : List D7) : Option (List DV × List D7) := eR Tryz.f86 OU XR R [] (F5 Tryz.f86 [(x0, .val), (.undef, (.map x1))] sg)
def YS := hR Tryz.f86 OU XR R (pb 58) (ms 46 [(14, a), (15, b), (16, c)] [(1, (.map i))] [(2, bx d 3), (4, some zb5), (5, some [(e, .own), (f, .val), ((.list 3 []), .own)])] s)
def YT := hR Tryz.f86 OU XR R (pb 122) (ms 46 [(30, a), (31, b), (32, c)] [(1, (.map i))] [(4, some zb5), (5, some [(d, .own), (e, .val), (f, .own)])] s)
theorem A71 (R : N7) (x0 : DV) (x1 : Nat) (sg : List D7) : A16 R x0 x1 sg =
 (og (C9 3 x0) <| og (I7 (A7 1 x0)) <| ob (dLen (A7 0 x0)) fun d1 => YS R x1 (A7 0 x0) d1 (iI 0) x0 (.list 3 []) (A7 1 x0) sg) := D9 []
theorem A3W : YS R i a b c d e f s =
 (ob (A8 .lss c b) fun d1 => D6 d1 (ob (E8 3 a c) fun d2 => oc (R.r uD [((H6 d2), .val), (.undef, (.map i))] s) fun q3 s3 => og (C9 3 q3) <| ob (R8 3 e (.list 3 [q3])) fun d4 => ob (A8 .add c (iI 1)) fun d5 => YS R i a b d5 d d4 f s3) (ob (dLen (A7 2 d)) fun d6 => YT R i (A7 2 d) d6 (iI 0) e f (.list 3 []) s)) := H5 []
theorem A3X : YT R i a b c d e f s =
 (ob (A8 .lss c b) fun d1 => D6 d1 (ob (E8 3 a c) fun d2 => oc (R.r nG [((H6 d2), .val), (.undef, (.map i))] s) fun q3 s3 => og (C9 3 q3) <| ob (R8 3 f (.list 3 [q3])) fun d4 => ob (A8 .add c (iI 1)) fun d5 => YT R i a b d5 d e d4 s3) (some ([(.agg [d, e, f])], s))) := H5 []
theorem A6n (x0 : DV) (x1 : Nat) (sg : List D7) : (run cfg).r nG [(x0, .val), (.undef, (.map x1))] sg = A16 (run cfg) x0 x1 sg := Dl (s := OU) Tryz.func86
def A0t := eP Tryz.f87 dE R [] (F5 Tryz.f87 [(a, .val), (b, .val), (c, .val)] [])
def NI := hP Tryz.f87 dE R (pb 3866602) (ms 120 [(9, a), (10, b)] [(9, .own)] [(3, bx c 16), (4, bx d 3)] [])
theorem wF : A0t R a b c =
 (og (C9 16 a) <| og (C9 3 b) <| og (C9 4 c) <| ob (A8 .eql (A7 0 a) (iI 8)) fun d1 => D6 d1 (ob (E8 3 (A7 0 b) (iI 0)) fun d2 => some (.list 3 [(H6 d2), (H6 c)])) (ob (A8 .eql (A7 0 a) (iI 10)) fun d3 => D6 d3 (ob (E8 4 (A7 3 c) (iI 0)) fun d4 => ob (A8 .eql (A7 0 d4) (iI 5)) fun d5 => D6 d5 (ob (R.p IX [(iI 9), (H6 d4), (H6 d4)]) fun d6 => og (C9 3 d6) <| some (.list 3 [d6, (H6 d4)])) (ob (E8 3 (A7 2 d4) (iI 0)) fun d7 => some (.list 3 [(.agg [(iI 0), (iI 0), (.list 3 [])]), (H6 d7)]))) (ob (A8 .eql (A7 0 a) (iI 11)) fun d8 => D6 d8 (some (.list 3 [(.agg [(A7 8 a), (A7 9 a), (A7 10 a)]), (.agg [(iI 0), (iI 0), (.list 3 [])])])) (ob (A8 .eql (A7 0 a) (iI 12)) fun d9 => D6 d9 (ob (R.p DX [(.agg [(A7 11 a), (A7 12 a), (A7 13 a)])]) fun U2 => ob (O9 .not U2) fun V7 => D6 V7 (some (.list 3 [(.agg [(A7 11 a), (A7 12 a), (A7 13 a)]), (.agg [(iI 0), (iI 0), (.list 3 [])])])) (ob (dLen (A7 0 b)) fun Z7 => ob (A8 .sub Z7 (iI 1)) fun Ci => ob (E8 3 (A7 0 b) Ci) fun ET =>
 some (.list 3 [(H6 ET), (.agg [(iI 0), (iI 0), (.list 3 [])])]))) (ob (A8 .eql (A7 0 a) (iI 13)) fun GK => D6 GK (ob (R.p BC [(iI 2)]) fun d16 => og (C9 3 d16) <| some (.list 3 [d16, (H6 c), (H6 c)])) (ob (A8 .eql (A7 0 a) (iI 14)) fun d17 => D6 d17 (ob (E8 3 (A7 0 b) (iI 0)) fun d18 => NI R (.list 3 [(H6 d18)]) (iI 0) a b) (ob (A8 .eql (A7 0 a) (iI 15)) fun d19 => D6 d19 (some (.list 3 [(.agg [(A7 8 a), (A7 9 a), (A7 10 a)])])) (ob (A8 .eql (A7 0 a) (iI 16)) fun d20 => D6 d20 (ob (R.p BC [(iI 1)]) fun d21 => og (C9 3 d21) <| ob (A8 .eql (A7 7 a) (iI 7)) fun d22 => D6 d22 (ob (R.p BC [(iI 3)]) fun d23 => og (C9 3 d23) <| some (.list 3 [(H6 d23), (H6 d23)])) (some (.list 3 [(H6 d21), (H6 d21)]))) (some (.list 3 [(.agg [(iI 0), (iI 0), (.list 3 [])]), (.agg [(iI 0), (iI 0), (.list 3 [])]), (.agg [(iI 0), (iI 0), (.list 3 [])])])))))))))) := D9 []
theorem SN : NI R a b c d =
 (ob (dLen (A7 14 c)) fun d1 => ob (A8 .lss b d1) fun d2 => D6 d2 (ob (E8 3 (A7 0 d) (iI 1)) fun d3 => ob (R8 3 a (.list 3 [(H6 d3)])) fun d4 => ob (A8 .add b (iI 1)) fun d5 => NI R d4 d5 c d) (some a)) := H5 []
theorem sJ : (run cfg).p XH [a, b, c] = A0t (run cfg) a b c := P9 Tryz.func87
def A2d := eP Tryz.f88 A1f R [] (F5 Tryz.f88 [(a, .val)] [])
theorem A0J : A2d R a =
 (og (C9 3 a) <| ob (A8 .eql (A7 0 a) (iI 0)) fun d1 => I5 d1 (ob (A8 .eql (A7 1 a) (iI 0)) fun d2 => I5 d2 (ob (dLen (A7 2 a)) fun d3 => ob (A8 .eql d3 (iI 0)) fun d4 => some d4) (some (.bool false)) none) (some (.bool false)) none) := D9 []
theorem wV : (run cfg).p DX [a] = A2d (run cfg) a := P9 Tryz.func88
def uX := eR Tryz.f89 Wv sZ R [] (F5 Tryz.f89 [(pt i), (a, .val), (b, .val), (c, .val), (d, .val)] s)
theorem qY : uX R i a b c d s =
 (og (C9 20 a) <| og (C9 3 b) <| og (C9 3 c) <| og (C9 2 d) <| ob (M7 s i) fun c1 => ob (Vu c1 0) fun d2 => ob (R8 8 d2 (.list 8 [(.agg [(A7 0 d), (A7 1 d), (A7 0 b), (A7 1 b), (A7 2 b), (A7 0 c), (A7 1 c), (A7 2 c)])])) fun d3 => ob (M7 (s.set i (D7.box (c1.set 0 (d2, .val)))) i) fun c4 => ob (c4[0]?) fun u5 => ob (M7 ((s.set i (D7.box (c1.set 0 (d2, .val)))).set i (D7.box (c4.set 0 (d3, .own)))) i) fun c6 => ob (U4 c6 0) fun d7 => ob (dLen d7) fun d8 => ob (A8 .sub d8 (iI 1)) fun d9 => og (I7 d9) <| some ([(.agg [(iI 16), (iI 0), (iI 0), (.str ⟨#[]⟩), (.str ⟨#[]⟩), (iI 0), (.str ⟨#[]⟩), (iI 0), d9, (.bool false), (.list 1 []), (A7 0 b), (A7 1 b), (A7 2 b), (A7 0 c), (A7 1 c), (A7 2 c), (.list 3 []), (.list 7 []), (.list 20 [(jC a)])])], ((s.set i (D7.box (c1.set 0 (d2, .val)))).set i (D7.box (c4.set 0 (d3, .own)))))) := D9 []
theorem lV : (run cfg).r aS [(.undef, (.ptr i 0)), (a, .val), (b, .val), (c, .val), (d, .val)] s = uX (run cfg) i a b c d s := Dl (s := Wv) Tryz.func89
def pY := eP Tryz.f90 WX R [] (F5 Tryz.f90 [(a, .val), (b, .val)] [])
def LZ := hP Tryz.f90 WX R (pb 58) (ms 27 [(0, a), (1, b), (5, c)] [] [] [])
theorem kW : pY R a b =
 (ob (dLen a) fun d1 => ob (dLen b) fun d2 => ob (A8 .neq d1 d2) fun d3 => D6 d3 (some (.bool false)) (LZ R a b (iI 0))) := D9 []
theorem QD : LZ R a b c =
 (ob (dLen a) fun d1 => ob (A8 .lss c d1) fun d2 => D6 d2 (ob (E8 3 a c) fun d3 => ob (E8 3 b c) fun d4 => ob (R.p Ez [(H6 d3), (H6 d4)]) fun d5 => ob (O9 .not d5) fun d6 => D6 d6 (some (.bool false)) (ob (A8 .add c (iI 1)) fun d7 => LZ R a b d7)) (some (.bool true))) := H5 []
theorem gL : (run cfg).p YP [a, b] = pY (run cfg) a b := P9 Tryz.func90
def fD := eP Tryz.f91 SQ R [] (F5 Tryz.f91 [(a, .val), (b, .val)] [])
def Ib := hP Tryz.f91 SQ R (pb 26) (ms 26 [(1, a), (5, b)] [] [(2, bx c 3)] [])
theorem Lf : fD R a b =
 (og (C9 3 a) <| Ib R b (iI 0) a) := D9 []
theorem Eb : Ib R a b c =
 (ob (dLen (A7 2 c)) fun d1 => ob (A8 .lss b d1) fun d2 => I5 d2 (ob (A8 .leq a (iI 400)) fun d3 => D6 d3 (ob (E8 3 (A7 2 c) b) fun d4 => ob (A8 .add a (iI 1)) fun d5 => ob (R.p D_ [(H6 d4), d5]) fun d6 => ob (A8 .add b (iI 1)) fun d7 => Ib R d6 d7 c) (some a)) (some a) none) := H5 []
theorem Jk : (run cfg).p D_ [a, b] = fD (run cfg) a b := P9 Tryz.func91
def j_ := eP Tryz.f92 Us R [] (F5 Tryz.f92 [(a, .val), (b, .val)] [])
def Jg := hP Tryz.f92 Us R (pb 58) (ms 36 [(1, a), (5, b)] [] [(2, bx c 7)] [])
theorem NN : j_ R a b =
 (og (C9 7 a) <| ob (Dr (A7 5 a)) fun d1 => ob (A8 .gtr d1 (iI 300)) fun d2 => I5 d2 (some (iI 401)) (ob (Dr (A7 3 a)) fun d3 => ob (A8 .gtr d3 (iI 300)) fun d4 => D6 d4 (some (iI 401)) (Jg R b (iI 0) a)) none) := D9 []
theorem Nv : Jg R a b c =
 (ob (dLen (A7 6 c)) fun d1 => ob (A8 .lss b d1) fun d2 => I5 d2 (ob (A8 .leq a (iI 400)) fun d3 => D6 d3 (ob (E8 7 (A7 6 c) b) fun d4 => ob (A8 .add a (iI 1)) fun d5 => ob (R.p Oh [(Gb d4), d5]) fun d6 => ob (A8 .add b (iI 1)) fun d7 => Jg R d6 d7 c) (some a)) (some a) none) := H5 []
theorem Lm : (run cfg).p Oh [a, b] = j_ (run cfg) a b := P9 Tryz.func92
def zu := eP Tryz.f93 bn R [] (F5 Tryz.f93 [(a, .val)] [])
def Vq := hP Tryz.f93 bn R (pb 58) (ms 19 [(0, a), (3, b), (4, c)] [] [] [])
theorem vJ : zu R a =
 (Vq R a (iI 0) (iI 0)) := D9 []
theorem UL : Vq R a b c =
 (ob (dLen a) fun d1 => ob (A8 .lss c d1) fun d2 => D6 d2 (ob (E8 3 a c) fun d3 => ob (R.p Wy [(H6 d3), b]) fun d4 => ob (A8 .add c (iI 1)) fun d5 => Vq R a d4 d5) (ob (A8 .gtr b (iI 600)) fun d6 => some d6)) := H5 []
theorem rG : (run cfg).p iW [a] = zu (run cfg) a := P9 Tryz.func93
def A2l := eP Tryz.f94 jR R [] (F5 Tryz.f94 [(a, .val), (b, .val)] [])
def RI := hP Tryz.f94 jR R (pb 58) (ms 23 [(1, a), (5, b)] [] [(2, bx c 3)] [])
theorem A0R : A2l R a b =
 (og (C9 3 a) <| ob (A8 .leq b (iI 0)) fun d1 => D6 d1 (some (.bool true)) (RI R b (iI 0) a)) := D9 []
theorem WI : RI R a b c =
 (ob (dLen (A7 2 c)) fun d1 => ob (A8 .lss b d1) fun d2 => D6 d2 (ob (E8 3 (A7 2 c) b) fun d3 => ob (A8 .sub a (iI 1)) fun d4 => ob (R.p ZU [(H6 d3), d4]) fun d5 => D6 d5 (some (.bool true)) (ob (A8 .add b (iI 1)) fun d6 => RI R a d6 c)) (some (.bool false))) := H5 []
theorem wu : (run cfg).p ZU [a, b] = A2l (run cfg) a b := P9 Tryz.func94
def A2g := eP Tryz.f95 A1g R [] (F5 Tryz.f95 [(a, .val)] [])
theorem A0M : A2g R a =
 (og (C9 3 a) <| oc (R.r ZP [((H6 a), .val), ((.list 1 []), .own)] []) fun q1 s1 => some q1) := D9 []
theorem wY : (run cfg).p ZO [a] = A2g (run cfg) a := P9 Tryz.func95
def A2t := eP Tryz.f97 DL R [] (F5 Tryz.f97 [(a, .val)] [])
def Tx := eP Tryz.f97 DL R (pb 115) (ms 186 [] [] [(1, bx a 16), (3, bx b 9)] [])
def KG := eP Tryz.f97 DL R (pb 463) (ms 186 [] [] [(1, bx a 16), (3, bx b 9)] [])
def KH := eP Tryz.f97 DL R (pb 1855) (ms 186 [] [] [(1, bx a 16), (3, bx b 9)] [])
def ES := eP Tryz.f97 DL R (pb 7423) (ms 186 [] [] [(1, bx a 16), (3, bx b 9)] [])
def RS := eP Tryz.f97 DL R (pb 29695) (ms 186 [] [] [(1, bx a 16), (3, bx b 9)] [])
def IL := eP Tryz.f97 DL R (pb 118783) (ms 186 [] [] [(1, bx a 16), (3, bx b 9)] [])
def IM := eP Tryz.f97 DL R (pb 475135) (ms 186 [] [] [(1, bx a 16), (3, bx b 9)] [])
def RU := eP Tryz.f97 DL R (pb 15) (ms 186 [] [] [(1, bx a 16)] [])
def PK := hP Tryz.f97 DL R (pb 122) (ms 186 [(176, a), (177, b), (178, c)] [] [] [])
theorem A0Z : A2t R a =
 (og (C9 16 a) <| ob (R.p Oi [(L8 a)]) fun d1 => ob (O4 0 d1) fun d2 => ob (O4 1 d1) fun d3 => og (C9 9 d2) <| ob (O9 .not d3) fun d4 => I5 d4 (some (.bool false)) (ob (dLen (A7 15 a)) fun d5 => ob (A8 .neq d5 (A7 8 d2)) fun d6 => I5 d6 (some (.bool false)) (ob (A8 .neq (A7 0 a) (iI 14)) fun d7 => I5 d7 (ob (dLen (A7 14 a)) fun d8 => ob (A8 .gtr d8 (iI 0)) fun d9 => D6 d9 (some (.bool false)) (Tx R a d2)) (Tx R a d2) none) none) none) := D9 [4, 6, 8, 10, 12, 14, 16, 18]
theorem qg : Tx R a b =
 (I5 (A7 0 b) (ob (R.p QV [(A7 3 a)]) fun d1 => ob (O9 .not d1) fun d2 => I5 d2 (some (.bool false)) (ob (O9 .not (A7 0 b)) fun d3 => I5 d3 (ob (A8 .neq (A7 3 a) (.str ⟨#[]⟩)) fun d4 => D6 d4 (some (.bool false)) (KG R a b)) (KG R a b) none) none) (ob (O9 .not (A7 0 b)) fun d5 => I5 d5 (ob (A8 .neq (A7 3 a) (.str ⟨#[]⟩)) fun d6 => D6 d6 (some (.bool false)) (KG R a b)) (KG R a b) none) none) := D9 [4, 6, 8, 10, 12, 14, 16, 18]
theorem ql : KG R a b =
 (I5 (A7 1 b) (ob (R.p QV [(A7 4 a)]) fun d1 => ob (O9 .not d1) fun d2 => I5 d2 (some (.bool false)) (ob (O9 .not (A7 1 b)) fun d3 => I5 d3 (ob (A8 .neq (A7 4 a) (.str ⟨#[]⟩)) fun d4 => D6 d4 (some (.bool false)) (KH R a b)) (KH R a b) none) none) (ob (O9 .not (A7 1 b)) fun d5 => I5 d5 (ob (A8 .neq (A7 4 a) (.str ⟨#[]⟩)) fun d6 => D6 d6 (some (.bool false)) (KH R a b)) (KH R a b) none) none) := D9 [4, 6, 8, 10, 12, 14, 16, 18]
theorem qm : KH R a b =
 (ob (O9 .not (A7 2 b)) fun d1 => I5 d1 (ob (A8 .neq (A7 5 a) (iI 0)) fun d2 => I5 d2 (some (.bool false)) (ob (A8 .eql (A7 0 a) (iI 3)) fun d3 => I5 d3 (ob (A8 .neq (A7 5 a) (iI 0)) fun d4 => I5 d4 (ob (A8 .neq (A7 5 a) (iI 1)) fun d5 => D6 d5 (some (.bool false)) (ES R a b)) (ES R a b) none) (ES R a b) none) none) (ob (A8 .eql (A7 0 a) (iI 3)) fun d6 => I5 d6 (ob (A8 .neq (A7 5 a) (iI 0)) fun d7 => I5 d7 (ob (A8 .neq (A7 5 a) (iI 1)) fun d8 => D6 d8 (some (.bool false)) (ES R a b)) (ES R a b) none) (ES R a b) none) none) := D9 [4, 6, 8, 10, 12, 14, 16, 18]
theorem ky : ES R a b =
 (ob (O9 .not (A7 3 b)) fun d1 => I5 d1 (ob (A8 .neq (A7 6 a) (.str ⟨#[]⟩)) fun d2 => I5 d2 (some (.bool false)) (ob (Dr (A7 6 a)) fun d3 => ob (A8 .gtr d3 (iI 200)) fun d4 => D6 d4 (some (.bool false)) (RS R a b)) none) (ob (Dr (A7 6 a)) fun d5 => ob (A8 .gtr d5 (iI 200)) fun d6 => D6 d6 (some (.bool false)) (RS R a b)) none) := D9 [4, 6, 8, 10, 12, 14, 16, 18]
theorem kz : RS R a b =
 (I5 (A7 4 b) (ob (A8 .lss (A7 7 a) (iI 1)) fun d1 => I5 d1 (some (.bool false)) (ob (A8 .gtr (A7 7 a) (iI 7)) fun d2 => I5 d2 (some (.bool false)) (ob (O9 .not (A7 4 b)) fun d3 => I5 d3 (ob (A8 .neq (A7 7 a) (iI 0)) fun d4 => D6 d4 (some (.bool false)) (IL R a b)) (IL R a b) none) none) none) (ob (O9 .not (A7 4 b)) fun d5 => I5 d5 (ob (A8 .neq (A7 7 a) (iI 0)) fun d6 => D6 d6 (some (.bool false)) (IL R a b)) (IL R a b) none) none) := D9 [4, 6, 8, 10, 12, 14, 16, 18]
theorem k_ : IL R a b =
 (ob (R.p Ma [(.agg [(A7 8 a), (A7 9 a), (A7 10 a)])]) fun d1 => ob (O9 .not d1) fun d2 => I5 d2 (ob (O9 .not (A7 5 b)) fun d3 => I5 d3 (some (.bool false)) (ob (R.p Qz [(.agg [(A7 8 a), (A7 9 a), (A7 10 a)])]) fun d4 => ob (O9 .not d4) fun d5 => I5 d5 (some (.bool false)) (I5 (A7 7 b) (ob (R.p Ma [(.agg [(A7 8 a), (A7 9 a), (A7 10 a)])]) fun d6 => D6 d6 (some (.bool false)) (IM R a b)) (IM R a b) none) none) none) (I5 (A7 7 b) (ob (R.p Ma [(.agg [(A7 8 a), (A7 9 a), (A7 10 a)])]) fun d7 => D6 d7 (some (.bool false)) (IM R a b)) (IM R a b) none) none) := D9 [4, 6, 8, 10, 12, 14, 16, 18]
theorem lC : IM R a b =
 (ob (R.p Ma [(.agg [(A7 11 a), (A7 12 a), (A7 13 a)])]) fun d1 => ob (O9 .not d1) fun d2 => I5 d2 (ob (O9 .not (A7 6 b)) fun d3 => I5 d3 (some (.bool false)) (ob (R.p Qz [(.agg [(A7 11 a), (A7 12 a), (A7 13 a)])]) fun d4 => ob (O9 .not d4) fun d5 => D6 d5 (some (.bool false)) (RU R a)) none) (RU R a) none) := D9 [4, 6, 8, 10, 12, 14, 16, 18]
theorem lD : RU R a =
 (ob (dLen (A7 14 a)) fun d1 => PK R (A7 14 a) d1 (iI 0)) := D9 [4, 6, 8, 10, 12, 14, 16, 18]
theorem Ug : PK R a b c =
 (ob (A8 .lss c b) fun d1 => D6 d1 (ob (E8 7 a c) fun d2 => ob (R.p M_ [(Gb d2)]) fun d3 => ob (A8 .neq d3 (iI 0)) fun d4 => D6 d4 (some (.bool false)) (ob (A8 .add c (iI 1)) fun d5 => PK R a b d5)) (some (.bool true))) := H5 [4, 6, 8, 10, 12, 14, 16, 18]
theorem xE : (run cfg).p nN [a] = A2t (run cfg) a := P9 Tryz.func97
def A0v := eP Tryz.f98 xW R [] (F5 Tryz.f98 [(a, .val)] [])
theorem wH : A0v R a =
 (og (C9 3 a) <| ob (R.p XI [(H6 a)]) fun d1 => ob (O9 .not d1) fun d2 => D6 d2 (some (iI 1)) (some (iI 0))) := D9 []
theorem sM : (run cfg).p E_ [a] = A0v (run cfg) a := P9 Tryz.func98
def uL := eP Tryz.f99 Yf R [] (F5 Tryz.f99 [(a, .val), (b, .val)] [])
def NB := hP Tryz.f99 Yf R (pb 26) (ms 26 [(0, a), (1, b), (6, c)] [] [(4, bv [d, e, f, g, h])] [])
theorem qK : uL R a b =
 (ob (dLen a) fun d1 => ob (A8 .sub d1 (iI 1)) fun d2 => NB R a b d2 (.str ⟨#[]⟩) (iI 0) (iI 0) (.list 3 []) (.list 1 [])) := D9 []
theorem Ry : NB R a b c d e f g h =
 (ob (A8 .geq c (iI 0)) fun d1 => D6 d1 (ob (E8 5 a c) fun d2 => ob (A8 .eql (A7 0 d2) b) fun d3 => D6 d3 (ob (E8 5 a c) fun d4 => some (.I6 [(.agg [(A7 0 d4), (A7 1 d4), (A7 2 d4), (A7 3 d4), (A7 4 d4)]), (.bool true)])) (ob (A8 .sub c (iI 1)) fun d5 => NB R a b d5 d e f g h)) (some (.I6 [(.agg [(.str ⟨#[]⟩), (iI 0), (iI 0), (.list 3 []), (.list 1 [])]), (.bool false)]))) := H5 []
theorem lI : (run cfg).p aM [a, b] = uL (run cfg) a b := P9 Tryz.func99
def Sg := eR Tryz.f100 IK Ql R [] (F5 Tryz.f100 [(pt i), (a, .val)] s)
theorem Qd : Sg R i a s =
 (oc (R.r Al [(pt i)] s) fun q1 s1 => D6 q1 (ob (M7 s1 i) fun c2 => og (I7 a) <| ob (c2[3]?) fun u3 => some ([], (s1.set i (D7.box (c2.set 3 (a, .val)))))) (some ([], s1))) := D9 []
theorem Po : (run cfg).r Ac [(.undef, (.ptr i 0)), (a, .val)] s = Sg (run cfg) i a s := Dl (s := IK) Tryz.func100
end
end Go.Su

/-
 Equations of the program's functions: by program.
-/
namespace Go.Su
noncomputable section
open Go.Proofs
variable (R : N7) (i j k l m n : Nat) (a b c d e f g h o p q r t u v w x y z A B C D E F G H I J K L M N O P Q S T U V W X Y Z a1 a2 a3 a4 a5 a6 a7 a8 a9 ai VZ a12 a13 a14 Yv a16 a17 a18 a19 a20 a21 a22 a23 a24 a25 a26 a27 a28 a29 a30 a31 a32 a33 a34 a35 a36 a37 a38 a39 a40 a41 a42 a43 a44 a45 a46 a47 a48 a49 a50 a51 a52 a53 a54 a55 a56 a57 a58 a59 : DV) (s : List D7)
def Cn : Option (List DV × List D7) := Iy cfg R M5 (A2L cfg R M5 I8 (Ba cfg.P Tryz.f101 L9) (UC R (Ba cfg.P Tryz.f101 L9))) [] (Bh (I8.pre ++ [I8.r]) .skip) (F5 Tryz.f101 [(pt i), (a, .val), (b, .val), (c, .val)] s)
def Bw : Option (List DV × List D7) := Iy cfg R M5 (A2L cfg R M5 I8 (Ba cfg.P Tryz.f101 L9) (UC R (Ba cfg.P Tryz.f101 L9))) (pb 15) (Bh (I8.pre ++ [I8.r]) .skip) (ms 113 [] [(0, (.ptr i 0))] [(5, bx a 16), (6, bx b 3)] s)
def Ak : Option (List DV × List D7) := Zk cfg R M5 (A2L cfg R M5 I8 (Ba cfg.P Tryz.f101 L9) (UC R (Ba cfg.P Tryz.f101 L9))) (pb 122) (Bh (I8.pre ++ [I8.r]) .skip) (ms 113 [(48, a), (49, b), (50, c)] [(0, (.ptr i 0))] [(5, bx d 16), (6, bx e 3)] s)
def DZ : Option (List DV × List D7) := Iy cfg R M5 (A9q cfg R M5 I8 (Ba cfg.P Tryz.f101 L9) (UC R (Ba cfg.P Tryz.f101 L9))) [] I8.a (ms 113 [] [(0, (.ptr i 0))] [(6, bx a 3)] s)
def Da : Option (List DV × List D7) := Iy cfg R M5 (Ba cfg.P Tryz.f101 L9) [] I8.post (ms 113 [] [(0, (.ptr i 0))] [(6, bx a 3)] s)
def LD (R : N7) (dq : FuncId × List (DV × Meta)) (t0i : Nat) (b6 : DV) (sg : List D7) : Option (List DV × List D7) := Iy cfg R M5 (UC R (Ba cfg.P Tryz.f101 L9) dq) [] I8.post (ms 113 [] [(0, (.ptr t0i 0))] [(6, bx b6 3)] sg)
def BK : Option (List DV × List D7) := Zk cfg R M5 (Ba cfg.P Tryz.f101 L9) (pb 10) I8.post (ms 113 [(82, a), (83, b), (84, c)] [(0, (.ptr i 0))] [] s)
def BF (R : N7) (dq : FuncId × List (DV × Meta)) (t0i : Nat) (t82 t83 t84 : DV) (sg : List D7) : Option (List DV × List D7) := Zk cfg R M5 (UC R (Ba cfg.P Tryz.f101 L9) dq) (pb 10) I8.post (ms 113 [(82, t82), (83, t83), (84, t84)] [(0, (.ptr t0i 0))] [] sg)
def BL : Option (List DV × List D7) := Zk cfg R M5 (Ba cfg.P Tryz.f101 L9) (pb 5326) I8.post (ms 113 [(82, a), (83, b), (84, c), (98, d), (99, e), (100, f)] [(0, (.ptr i 0))] [] s)
def BG (R : N7) (dq : FuncId × List (DV × Meta)) (t0i : Nat) (t82 t83 t84 t98 t99 t100 : DV) (sg : List D7) : Option (List DV × List D7) := Zk cfg R M5 (UC R (Ba cfg.P Tryz.f101 L9) dq) (pb 5326) I8.post (ms 113 [(82, t82), (83, t83), (84, t84), (98, t98), (99, t99), (100, t100)] [(0, (.ptr t0i 0))] [] sg)
set_option maxRecDepth 100000 in
theorem Nq : Cn R i a b c s =
 (og (C9 16 a) <| og (C9 3 b) <| og (C9 5 c) <| ob (R.p aN [(L8 a), (.agg [(A7 0 c), (A7 1 c), (A7 2 c), (A7 3 c), (A7 4 c)])]) fun d1 => ob (O4 0 d1) fun d2 => ob (O4 1 d1) fun d3 => ob (dLen (A7 0 b)) fun d4 => ob (A8 .neq d4 d2) fun d5 => I5 d5 (some ([(iI 8)], s)) (ob (dLen (A7 2 b)) fun d6 => ob (dLen (A7 15 a)) fun d7 => ob (A8 .neq d6 d7) fun d8 => I5 d8 (some ([(iI 8)], s)) (ob (dLen (A7 1 b)) fun d9 => ob (A8 .gtr d9 (iI 0)) fun U2 => I5 U2 (ob (O9 .not d3) fun V7 => D6 V7 (some ([(iI 8)], s)) (Bw R i a b s)) (Bw R i a b s) none) none) none) := D9 [4]
theorem MO : Bw R i a b s =
 (ob (dLen (A7 1 b)) fun d1 => Ak R i (A7 1 b) d1 (iI 0) a b s) := D9 [4]
theorem FO : Ak R i a b c d e s =
 (ob (A8 .lss c b) fun d1 => D6 d1 (ob (E8 1 a c) fun d2 => og (M9 d2) <| ob (M7 s i) fun c3 => ob (KN c3 1) fun i4 => og (isKey false d2 && true) <| ob (p9 s i4) fun m5 => og (m5.1 == false) <| ob (A8 .gtr ((Y7 m5.2 d2).getD (iI 0)) (iI 0)) fun d6 => I5 d6 (some ([(iI 6)], s)) (ob (Ca 1 (A7 1 e) none (some c)) fun d7 => ob (R.p GA [d7, d2]) fun d8 => D6 d8 (some ([(iI 6)], s)) (ob (A8 .add c (iI 1)) fun d9 => Ak R i a b d9 d e s)) none) (ob (A8 .eql (A7 0 d) (iI 12)) fun U2 => D6 U2 (DZ R i e s) (Da R i e s))) := H5 [4]
theorem LF : DZ R i a s =
 (oc (R.r Z5 [(pt i), ((A7 1 a), .val), ((iI 1), .val)] s) fun q1 s1 => LD R (Z5, [(pt i), ((A7 1 a), .val), ((.int .i64 (-1)), .val)]) i a s1) := D9 [4]
theorem LG : Da R i a s =
 (ob (dLen (A7 0 a)) fun d1 => BK R i (A7 0 a) d1 (iI 0) s) := D9 [4]
theorem KS (R : N7) (dq : FuncId × List (DV × Meta)) (t0i : Nat) (b6 : DV) (sg : List D7) : LD R dq t0i b6 sg =
 (ob (dLen (A7 0 b6)) fun d1 => BF R dq t0i (A7 0 b6) d1 (iI 0) sg) := D9 [4]
theorem Ef : BK R i a b c s =
 (ob (A8 .lss c b) fun d1 => D6 d1 (ob (E8 3 a c) fun d2 => ob (M7 s i) fun c3 => ob (U4 c3 0) fun d4 => I5 d4 (ob (R.p TU [(H6 d2)]) fun d5 => ob (O9 .not d5) fun d6 => D6 d6 (some ([(iI 9)], s)) (ob (R.p Oj [(H6 d2)]) fun d7 => ob (dLen d7) fun d8 => BL R i a b c d7 d8 (iI 0) s)) (ob (R.p Oj [(H6 d2)]) fun d9 => ob (dLen d9) fun U2 => BL R i a b c d9 U2 (iI 0) s) none) (some ([(iI 0)], s))) := H5 [4]
theorem EX (R : N7) (dq : FuncId × List (DV × Meta)) (t0i : Nat) (t82 t83 t84 : DV) (sg : List D7) : BF R dq t0i t82 t83 t84 sg =
 (ob (A8 .lss t84 t83) fun d1 => D6 d1 (ob (E8 3 t82 t84) fun d2 => ob (M7 sg t0i) fun c3 => ob (U4 c3 0) fun d4 => I5 d4 (ob (R.p TU [(H6 d2)]) fun d5 => ob (O9 .not d5) fun d6 => D6 d6 (ob (R.r dq.1 dq.2 sg) fun p7 => some ([(iI 9)], p7.2)) (ob (R.p Oj [(H6 d2)]) fun d8 => ob (dLen d8) fun d9 => BG R dq t0i t82 t83 t84 d8 d9 (iI 0) sg)) (ob (R.p Oj [(H6 d2)]) fun U2 => ob (dLen U2) fun V7 => BG R dq t0i t82 t83 t84 U2 V7 (iI 0) sg) none) (ob (R.r dq.1 dq.2 sg) fun p12 => some ([(iI 0)], p12.2))) := H5 [4]
theorem Eg : BL R i a b c d e f s =
 (ob (A8 .lss f e) fun d1 => D6 d1 (ob (E8 1 d f) fun d2 => og (M9 d2) <| ob (M7 s i) fun c3 => ob (KN c3 1) fun i4 => og (isKey false d2 && true) <| ob (p9 s i4) fun m5 => og (m5.1 == false) <| ob (A8 .eql ((Y7 m5.2 d2).getD (iI 0)) (iI 0)) fun d6 => D6 d6 (some ([(iI 6)], s)) (ob (A8 .add f (iI 1)) fun d7 => BL R i a b c d e d7 s)) (ob (A8 .add c (iI 1)) fun d8 => BK R i a b d8 s)) := H5 [4]
theorem EY (R : N7) (dq : FuncId × List (DV × Meta)) (t0i : Nat) (t82 t83 t84 t98 t99 t100 : DV) (sg : List D7) : BG R dq t0i t82 t83 t84 t98 t99 t100 sg =
 (ob (A8 .lss t100 t99) fun d1 => D6 d1 (ob (E8 1 t98 t100) fun d2 => og (M9 d2) <| ob (M7 sg t0i) fun c3 => ob (KN c3 1) fun i4 => og (isKey false d2 && true) <| ob (p9 sg i4) fun m5 => og (m5.1 == false) <| ob (A8 .eql ((Y7 m5.2 d2).getD (iI 0)) (iI 0)) fun d6 => D6 d6 (ob (R.r dq.1 dq.2 sg) fun p7 => some ([(iI 6)], p7.2)) (ob (A8 .add t100 (iI 1)) fun d8 => BG R dq t0i t82 t83 t84 t98 t99 d8 sg)) (ob (A8 .add t84 (iI 1)) fun d9 => BF R dq t0i t82 t83 d9 sg)) := H5 [4]
theorem NR : (run cfg).r BQ [(.undef, (.ptr i 0)), (a, .val), (b, .val), (c, .val)] s = Cn (run cfg) i a b c s :=
 (B3Y (C := cfg) (f := BQ) (s := L9) (p := I8) (fn := Tryz.f101) (c := Y5) (by kernel_rfl) rfl Tryz.func101 (by kernel_rfl)).trans ((congrArg (fun k => Iy cfg (run cfg) M5 k [] (Bh (I8.pre ++ [I8.r]) .skip) (F5 Tryz.f101 [(.undef, (.ptr i 0)), (a, .val), (b, .val), (c, .val)] s)) B2c).trans (by kernel_rfl))
theorem YV (x0 : Nat) (x1 x2 x3 : DV) (sg : List D7) {q : List DV × List D7} (h : Cn (run cfg) x0 x1 x2 x3 sg = some q) : (run cfg).r BQ [(.undef, (.ptr x0 0)), (x1, .val), (x2, .val), (x3, .val)] sg = some q := (NR x0 x1 x2 x3 sg).trans h
def Tc := eR Tryz.f102 FM KZ R [] (F5 Tryz.f102 [(pt i), (a, .val), (b, .val), (c, .val)] s)
def BS := hR Tryz.f102 FM KZ R (pb 938) (ms 51 [(10, a), (20, b), (21, c), (22, d)] [(10, .own)] [(5, bx e 16), (6, bx f 3), (8, some zb2), (9, bv [g, h, o])] s)
theorem Sv : Tc R i a b c s =
 (og (C9 16 a) <| og (C9 3 b) <| og (C9 5 c) <| ob (dLen (A7 4 c)) fun d1 => ob (A8 .gtr d1 (iI 0)) fun d2 => D6 d2 (ob (dLen (A7 4 c)) fun d3 => BS R (.list 4 []) (A7 4 c) d3 (iI 0) a b (A7 1 c) (A7 2 c) (A7 3 c) s) (og (I7 (A7 3 a)) <| og (I7 (A7 0 b)) <| some ([(.agg [(A7 1 c), (A7 2 c), (A7 3 c), (iI 1), (iI 0), (iI 0), (A7 3 a), (.str ⟨#[]⟩), (iI 0), (.str ⟨#[]⟩), (iI 0), (iI 0), (.bool false), (.list 1 []), (iI 0), (iI 0), (.list 3 []), (iI 0), (iI 0), (.list 3 []), (A7 0 b), (.list 7 []), (.list 20 [])])], s))) := D9 []
theorem Gy : BS R a b c d e f g h o s =
 (ob (A8 .lss d c) fun d1 => D6 d1 (ob (E8 1 b d) fun d2 => og (M9 d2) <| ob (E8 3 (A7 0 f) d) fun d3 => og (I7 d2) <| ob (R8 4 a (.list 4 [(.agg [d2, (A7 0 d3), (A7 1 d3), (A7 2 d3)])])) fun d4 => ob (A8 .add d (iI 1)) fun d5 => BS R d4 b c d5 e f g h o s) (ob (R.p Vo [(.agg [g, h, o]), a]) fun d6 => ob (O4 0 d6) fun d7 => ob (O4 1 d6) fun d8 => og (C9 3 d7) <| og (I7 (A7 3 e)) <| og (I7 (A7 0 f)) <| some ([(.agg [(A7 0 d7), (A7 1 d7), (A7 2 d7), (iI 1), (iI 0), (iI 0), (A7 3 e), (.str ⟨#[]⟩), (iI 0), (.str ⟨#[]⟩), (iI 0), (iI 0), (.bool false), (.list 1 []), (iI 0), (iI 0), (.list 3 []), (iI 0), (iI 0), (.list 3 []), (A7 0 f), (.list 7 []), (.list 20 [])])], s))) := H5 []
theorem Qk : (run cfg).r LU [(.undef, (.ptr i 0)), (a, .val), (b, .val), (c, .val)] s = Tc (run cfg) i a b c s := Dl (s := FM) Tryz.func102
def VX := eR Tryz.f103 Ky Uo R [] (F5 Tryz.f103 [(pt i), (a, .val), (b, .val), (c, .val), (d, .val)] s)
theorem Lc : VX R i a b c d s =
 (og (C9 16 a) <| og (C9 3 b) <| oc (R.r Al [(pt i)] s) fun q1 s1 => ob (O9 .not q1) fun d2 => D6 d2 (some ([zA4], s1)) (ob (E8 16 (A7 15 a) c) fun d3 => ob (E8 3 (A7 2 b) c) fun d4 => oc (R.r GR [(pt i), ((L8 d3), .val), ((H6 d4), .val), (d, .val)] s1) fun q5 s5 => og (C9 23 q5) <| some ([(.agg [(A7 0 q5), (A7 1 q5), (A7 2 q5), (A7 3 q5), (A7 4 q5), (A7 5 q5), (A7 6 q5), (A7 7 q5), (A7 8 q5), (A7 9 q5), (A7 10 q5), (A7 11 q5), (A7 12 q5), (A7 13 q5), (A7 14 q5), (A7 15 q5), (A7 16 q5), (A7 17 q5), (A7 18 q5), (A7 19 q5), (A7 20 q5), (A7 21 q5), (A7 22 q5)])], s5))) := D9 []
theorem KU : (run cfg).r U7 [(.undef, (.ptr i 0)), (a, .val), (b, .val), (c, .val), (d, .val)] s = VX (run cfg) i a b c d s := Dl (s := Ky) Tryz.func103
def uM := eP Tryz.f104 sU R [] (F5 Tryz.f104 [(a, .val)] [])
theorem qL : uM R a =
 (og (C9 3 a) <| some (.agg [(iI 8), (iI 0), (.list 3 [(H6 a)])])) := D9 []
theorem lJ : (run cfg).p TL [a] = uM (run cfg) a := P9 Tryz.func104
def TZ := eR Tryz.f105 FK KX R [] (F5 Tryz.f105 [(pt i), (a, .val), (b, .val), (c, .val), (d, .val), (e, .val)] s)
def DJ := eR Tryz.f105 FK KX R (pb 15) (ms 44 [(3, a)] [(0, (.ptr i 0))] [(7, bx b 16), (11, bx c 3), (12, some zb0), (13, bx d 23)] s)
theorem KT : TZ R i a b c d e s =
 (og (C9 16 a) <| og (C9 3 b) <| og (C9 3 e) <| oc (R.r U7 [(pt i), ((L8 a), .val), ((H6 b), .val), (c, .val), (d, .val)] s) fun q1 s1 => og (C9 23 q1) <| oc (R.r Al [(pt i)] s1) fun q2 s2 => I5 q2 (ob (R.p YM [(.agg [(A7 0 q1), (A7 1 q1), (A7 2 q1)]), (H6 e)]) fun d3 => ob (O9 .not d3) fun d4 => D6 d4 (oc (R.r Ac [(pt i), ((iI 4), .val)] s2) fun q5 s5 => DJ R i c a e q1 s5) (DJ R i c a e q1 s2)) (DJ R i c a e q1 s2) none) := D9 [4]
theorem IG : DJ R i a b c d s =
 (oc (R.r Al [(pt i)] s) fun q1 s1 => ob (O9 .not q1) fun d2 => D6 d2 (some ([zA3], s1)) (ob (E8 16 (A7 15 b) a) fun d3 => oc (R.r GQ [(pt i), ((.agg [(A7 0 d), (A7 1 d), (A7 2 d), (A7 3 d), (A7 4 d), (A7 5 d), (A7 6 d), (A7 7 d), (A7 8 d), (A7 9 d), (A7 10 d), (A7 11 d), (A7 12 d), (A7 13 d), (A7 14 d), (A7 15 d), (A7 16 d), (A7 17 d), (A7 18 d), (A7 19 d), (A7 20 d), (A7 21 d), (A7 22 d)]), .val), ((L8 d3), .val), ((H6 c), .val)] s1) fun q4 s4 => og (C9 20 q4) <| some ([(.agg [(A7 0 q4), (A7 1 q4), (A7 2 q4), (A7 3 q4), (A7 4 q4), (A7 5 q4), (A7 6 q4), (A7 7 q4), (A7 8 q4), (A7 9 q4), (A7 10 q4), (A7 11 q4), (A7 12 q4), (A7 13 q4), (A7 14 q4), (A7 15 q4), (A7 16 q4), (A7 17 q4), (A7 18 q4), (A7 19 q4)])], s4))) := D9 [4]
theorem JN : (run cfg).r O0 [(.undef, (.ptr i 0)), (a, .val), (b, .val), (c, .val), (d, .val), (e, .val)] s = TZ (run cfg) i a b c d e s := Dl (s := FK) Tryz.func105
def zl := eP Tryz.f106 xJ R [] (F5 Tryz.f106 [(a, .val), (b, .val)] [])
theorem vE : zl R a b =
 (og (C9 3 a) <| ob (A8 .eql (A7 0 a) (iI 0)) fun d1 => D6 d1 (ob (E8 3 b (iI 0)) fun d2 => some (H6 d2)) (some (H6 a))) := D9 []
theorem rA : (run cfg).p MW [a, b] = zl (run cfg) a b := P9 Tryz.func106
def uO := eR Tryz.f107 Wt sV R [] (F5 Tryz.f107 [(a, .val), (b, .val)] s)
theorem qN : uO R a b s =
 (ob (dLen a) fun d1 => ob (dLen a) fun d2 => ob (aD 5 a none d1 d2) fun d3 => ob (R8 5 d3 b) fun d4 => some ([d4], s)) := D9 []
theorem lL : (run cfg).r CV [(a, .val), (b, .val)] s = uO (run cfg) a b s := Dl (s := Wt) Tryz.func107
def zk := eP Tryz.f108 xI R [] (F5 Tryz.f108 [(a, .val), (b, .val)] [])
theorem bA : zk R a b =
 (og (C9 3 a) <| og (C9 3 b) <| some (.agg [(iI 9), (iI 0), (.list 3 [(H6 a), (H6 b)])])) := D9 []
theorem Yc : (run cfg).p MV [a, b] = zk (run cfg) a b := P9 Tryz.func108
def Ta := eR Tryz.f109 FL KY R [] (F5 Tryz.f109 [(pt i), (a, .val), (b, .val), (c, .val)] s)
def BR := eR Tryz.f109 FL KY R (pb 31) (ms 124 [(3, a)] [(0, (.ptr i 0))] [(5, bx b 16), (6, bx c 3), (8, bv [d, e, f, g, h, o, p, q, r, t, u, v, w, x, y, z, A, B, C, D, E, F, G]), (13, bv [H, I, J]), (14, bv [K, L, M])] s)
set_option maxRecDepth 100000 in
theorem Sr : Ta R i a b c s =
 (og (C9 16 a) <| og (C9 3 b) <| ob (A8 .eql (A7 0 a) (iI 10)) fun d1 => D6 d1 (oc (R.r Mq [(pt i), ((L8 a), .val), ((H6 b), .val), (c, .val)] s) fun q2 s2 => og (C9 23 q2) <| some ([(.agg [(A7 0 q2), (A7 1 q2), (A7 2 q2), (A7 3 q2), (A7 4 q2), (A7 5 q2), (A7 6 q2), (A7 7 q2), (A7 8 q2), (A7 9 q2), (A7 10 q2), (A7 11 q2), (A7 12 q2), (A7 13 q2), (A7 14 q2), (A7 15 q2), (A7 16 q2), (A7 17 q2), (A7 18 q2), (A7 19 q2), (A7 20 q2), (A7 21 q2), (A7 22 q2)])], s2)) (ob (A8 .eql (A7 0 a) (iI 11)) fun d3 => D6 d3 (oc (R.r Mr [(pt i), ((L8 a), .val), ((H6 b), .val), (c, .val)] s) fun q4 s4 => og (C9 23 q4) <| some ([(.agg [(A7 0 q4), (A7 1 q4), (A7 2 q4), (A7 3 q4), (A7 4 q4), (A7 5 q4), (A7 6 q4), (A7 7 q4), (A7 8 q4), (A7 9 q4), (A7 10 q4), (A7 11 q4), (A7 12 q4), (A7 13 q4), (A7 14 q4), (A7 15 q4), (A7 16 q4), (A7 17 q4), (A7 18 q4), (A7 19 q4), (A7 20 q4), (A7 21 q4), (A7 22 q4)])], s4)) (ob (A8 .eql (A7 0 a) (iI 12)) fun d5 =>
 D6 d5 (oc (R.r Ms [(pt i), ((L8 a), .val), ((H6 b), .val), (c, .val)] s) fun q6 s6 => og (C9 23 q6) <| some ([(.agg [(A7 0 q6), (A7 1 q6), (A7 2 q6), (A7 3 q6), (A7 4 q6), (A7 5 q6), (A7 6 q6), (A7 7 q6), (A7 8 q6), (A7 9 q6), (A7 10 q6), (A7 11 q6), (A7 12 q6), (A7 13 q6), (A7 14 q6), (A7 15 q6), (A7 16 q6), (A7 17 q6), (A7 18 q6), (A7 19 q6), (A7 20 q6), (A7 21 q6), (A7 22 q6)])], s6)) (ob (A8 .eql (A7 0 a) (iI 13)) fun d7 => D6 d7 (ob (E8 3 (A7 0 b) (iI 0)) fun d8 => oc (R.r O0 [(pt i), ((L8 a), .val), ((H6 b), .val), ((iI 0), .val), (c, .val), ((.agg [(iI 2), (iI 0), (.list 3 [])]), .val)] s) fun q9 s9 =>
 og (C9 20 q9) <| oc (R.r O0 [(pt i), ((L8 a), .val), ((H6 b), .val), ((iI 1), .val), (c, .val), ((H6 d8), .val)] s9) fun q10 s10 => og (C9 20 q10) <| oc (R.r O0 [(pt i), ((L8 a), .val), ((H6 b), .val), ((iI 2), .val), (c, .val), ((H6 d8), .val)] s10) fun q11 s11 => og (C9 20 q11) <| some ([(.agg [(A7 0 d8), (A7 1 d8), (A7 2 d8), (iI 13), (iI 0), (iI 0), (.str ⟨#[]⟩), (.str ⟨#[]⟩), (iI 0), (.str ⟨#[]⟩), (iI 0), (iI 0), (.bool false), (.list 1 []), (iI 0), (iI 0), (.list 3 []), (iI 0), (iI 0), (.list 3 []), (.list 3 []), (.list 7 []), (.list 20 [(.agg [(A7 0 q9), (A7 1 q9), (A7 2 q9), (A7 3 q9), (A7 4 q9), (A7 5 q9), (A7 6 q9), (A7 7 q9), (A7 8 q9), (A7 9 q9), (A7 10 q9), (A7 11 q9), (A7 12 q9), (A7 13 q9), (A7 14 q9), (A7 15 q9), (A7 16 q9), (A7 17 q9), (A7 18 q9), (A7 19 q9)]), (.agg [(A7 0 q10), (A7 1 q10), (A7 2 q10), (A7 3 q10), (A7 4 q10), (A7 5 q10), (A7 6 q10), (A7 7 q10), (A7 8 q10), (A7 9 q10), (A7 10 q10), (A7 11 q10), (A7 12 q10), (A7 13 q10), (A7 14 q10), (A7 15 q10), (A7 16 q10), (A7 17 q10), (A7 18 q10), (A7 19 q10)]), (.agg [(A7 0 q11), (A7 1 q11), (A7 2 q11), (A7 3 q11), (A7 4 q11), (A7 5 q11), (A7 6 q11), (A7 7 q11), (A7 8 q11), (A7 9 q11), (A7 10 q11), (A7 11 q11), (A7 12 q11), (A7 13 q11), (A7 14 q11), (A7 15 q11), (A7 16 q11), (A7 17 q11), (A7 18 q11), (A7 19 q11)])])])], s11)) (ob (A8 .eql (A7 0 a) (iI 14)) fun Z7 =>
 D6 Z7 (oc (R.r Jr [(pt i), ((L8 a), .val), ((H6 b), .val), (c, .val)] s) fun q13 s13 => og (C9 23 q13) <| some ([(.agg [(A7 0 q13), (A7 1 q13), (A7 2 q13), (A7 3 q13), (A7 4 q13), (A7 5 q13), (A7 6 q13), (A7 7 q13), (A7 8 q13), (A7 9 q13), (A7 10 q13), (A7 11 q13), (A7 12 q13), (A7 13 q13), (A7 14 q13), (A7 15 q13), (A7 16 q13), (A7 17 q13), (A7 18 q13), (A7 19 q13), (A7 20 q13), (A7 21 q13), (A7 22 q13)])], s13)) (ob (A8 .eql (A7 0 a) (iI 15)) fun ET => D6 ET (oc (R.r O0 [(pt i), ((L8 a), .val), ((H6 b), .val), ((iI 0), .val), (c, .val), ((.agg [(A7 8 a), (A7 9 a), (A7 10 a)]), .val)] s) fun q15 s15 =>
 og (C9 20 q15) <| some ([(.agg [(A7 8 a), (A7 9 a), (A7 10 a), (A7 0 q15), (A7 1 q15), (A7 2 q15), (A7 3 q15), (A7 4 q15), (A7 5 q15), (A7 6 q15), (A7 7 q15), (A7 8 q15), (A7 9 q15), (A7 10 q15), (A7 11 q15), (A7 12 q15), (A7 13 q15), (A7 14 q15), (A7 15 q15), (A7 16 q15), (A7 17 q15), (A7 18 q15), (A7 19 q15)])], s15)) (ob (A8 .eql (A7 7 a) (iI 5)) fun d16 => D6 d16 (BR R i c a b (iI 0) (iI 0) (.list 3 []) (iI 0) (iI 0) (iI 0) (.str ⟨#[]⟩) (.str ⟨#[]⟩) (iI 0) (.str ⟨#[]⟩) (iI 0) (iI 0) (.bool false) (.list 1 []) (iI 0) (iI 0) (.list 3 []) (iI 0) (iI 0) (.list 3 []) (.list 3 []) (.list 7 []) (.list 20 []) (iI 1) (iI 0) (.list 3 []) (iI 2) (iI 0) (.list 3 []) s) (ob (A8 .eql (A7 7 a) (iI 6)) fun d17 =>
 D6 d17 (BR R i c a b (iI 0) (iI 0) (.list 3 []) (iI 0) (iI 0) (iI 0) (.str ⟨#[]⟩) (.str ⟨#[]⟩) (iI 0) (.str ⟨#[]⟩) (iI 0) (iI 0) (.bool false) (.list 1 []) (iI 0) (iI 0) (.list 3 []) (iI 0) (iI 0) (.list 3 []) (.list 3 []) (.list 7 []) (.list 20 []) (iI 1) (iI 0) (.list 3 []) (iI 2) (iI 0) (.list 3 []) s) (ob (A8 .eql (A7 7 a) (iI 7)) fun d18 => D6 d18 (BR R i c a b (iI 0) (iI 0) (.list 3 []) (iI 0) (iI 0) (iI 0) (.str ⟨#[]⟩) (.str ⟨#[]⟩) (iI 0) (.str ⟨#[]⟩) (iI 0) (iI 0) (.bool false) (.list 1 []) (iI 0) (iI 0) (.list 3 []) (iI 0) (iI 0) (.list 3 []) (.list 3 []) (.list 7 []) (.list 20 []) (iI 3) (iI 0) (.list 3 []) (iI 2) (iI 0) (.list 3 []) s) (BR R i c a b (iI 0) (iI 0) (.list 3 []) (iI 0) (iI 0) (iI 0) (.str ⟨#[]⟩) (.str ⟨#[]⟩) (iI 0) (.str ⟨#[]⟩) (iI 0) (iI 0) (.bool false) (.list 1 []) (iI 0) (iI 0) (.list 3 []) (iI 0) (iI 0) (.list 3 []) (.list 3 []) (.list 7 []) (.list 20 []) (iI 1) (iI 0) (.list 3 []) (iI 1) (iI 0) (.list 3 []) s)))))))))) := D9 [25]
theorem Ns : BR R i a b c d e f g h o p q r t u v w x y z A B C D E F G H I J K L M s =
 (oc (R.r O0 [(pt i), ((L8 b), .val), ((H6 c), .val), ((iI 0), .val), (a, .val), ((.agg [H, I, J]), .val)] s) fun q1 s1 => og (C9 20 q1) <| oc (R.r O0 [(pt i), ((L8 b), .val), ((H6 c), .val), ((iI 1), .val), (a, .val), ((.agg [H, I, J]), .val)] s1) fun q2 s2 => og (C9 20 q2) <| og (I7 (A7 7 b)) <| some ([(.agg [K, L, M, (iI 15), (A7 1 b), (A7 2 b), (.str ⟨#[]⟩), (.str ⟨#[]⟩), (iI 0), (.str ⟨#[]⟩), (A7 7 b), (iI 0), (.bool false), (.list 1 []), (iI 0), (iI 0), (.list 3 []), (iI 0), (iI 0), (.list 3 []), (.list 3 []), (.list 7 []), (.list 20 [(.agg [(A7 0 q1), (A7 1 q1), (A7 2 q1), (A7 3 q1), (A7 4 q1), (A7 5 q1), (A7 6 q1), (A7 7 q1), (A7 8 q1), (A7 9 q1), (A7 10 q1), (A7 11 q1), (A7 12 q1), (A7 13 q1), (A7 14 q1), (A7 15 q1), (A7 16 q1), (A7 17 q1), (A7 18 q1), (A7 19 q1)]), (.agg [(A7 0 q2), (A7 1 q2), (A7 2 q2), (A7 3 q2), (A7 4 q2), (A7 5 q2), (A7 6 q2), (A7 7 q2), (A7 8 q2), (A7 9 q2), (A7 10 q2), (A7 11 q2), (A7 12 q2), (A7 13 q2), (A7 14 q2), (A7 15 q2), (A7 16 q2), (A7 17 q2), (A7 18 q2), (A7 19 q2)])])])], s2)) := D9 [25]
theorem Qj : (run cfg).r LQ [(.undef, (.ptr i 0)), (a, .val), (b, .val), (c, .val)] s = Ta (run cfg) i a b c s := Dl (s := FL) Tryz.func109
def A4y := eP Tryz.f110 Zh R [] (F5 Tryz.f110 [(a, .val)] [])
def jB := eP Tryz.f110 Zh R (pb 15) (ms 39 [(4, a), (5, (iI 0))] [] [(1, bx b 16)] [])
def XL := eP Tryz.f110 Zh R (pb 31) (ms 39 [(4, a), (5, b)] [] [(1, bx c 16)] [])
theorem A2V : A4y R a =
 (og (C9 16 a) <| ob (R.p DX [(.agg [(A7 8 a), (A7 9 a), (A7 10 a)])]) fun d1 => D6 d1 (jB R (iI 1) a) (jB R (iI 0) a)) := D9 [4, 6]
theorem wB : jB R a b =
 (ob (R.p DX [(.agg [(A7 11 b), (A7 12 b), (A7 13 b)])]) fun d1 => D6 d1 (XL R a (iI 1) b) (XL R a (iI 0) b)) := D9 [4, 6]
theorem wC : XL R a b c =
 (ob (A8 .eql (A7 0 c) (iI 7)) fun d1 => D6 d1 (some (.I6 [(iI 1), (.bool false)])) (ob (A8 .eql (A7 0 c) (iI 8)) fun d2 => D6 d2 (some (.I6 [(iI 1), (.bool false)])) (ob (A8 .eql (A7 0 c) (iI 13)) fun d3 => D6 d3 (some (.I6 [(iI 1), (.bool false)])) (ob (A8 .eql (A7 0 c) (iI 9)) fun d4 => D6 d4 (some (.I6 [a, (.bool false)])) (ob (A8 .eql (A7 0 c) (iI 11)) fun d5 => D6 d5 (ob (A8 .eql a (iI 1)) fun d6 => I5 d6 (ob (E8 16 (A7 15 c) (iI 0)) fun d7 => ob (R.p QR [(L8 d7)]) fun d8 => some (.I6 [(iI 0), d8])) (some (.I6 [(iI 0), (.bool false)])) none) (ob (A8 .eql (A7 0 c) (iI 12)) fun d9 => D6 d9 (ob (A8 .add a b) fun U2 => some (.I6 [U2, (.bool true)])) (ob (A8 .eql (A7 0 c) (iI 14)) fun V7 => D6 V7 (some (.I6 [(iI 2), (.bool false)])) (some (.I6 [(iI 0), (.bool false)]))))))))) := D9 [4, 6]
theorem A1a : (run cfg).p uH [a] = A4y (run cfg) a := P9 Tryz.func110
def p_ := eR Tryz.f111 VS mD R [] (F5 Tryz.f111 [(pt i), (a, .val)] s)
theorem ku : p_ R i a s =
 (ob (M7 s i) fun c1 => ob (U4 c1 0) fun d2 => ob (A8 .eql d2 (iI 0)) fun d3 => D6 d3 (ob (M7 s i) fun c4 => og (I7 a) <| ob (c4[0]?) fun u5 => some ([], (s.set i (D7.box (c4.set 0 (a, .val)))))) (some ([], s))) := D9 []
theorem gQ : (run cfg).r Bd [(.undef, (.ptr i 0)), (a, .val)] s = p_ (run cfg) i a s := Dl (s := VS) Tryz.func111
end
end Go.Su

/-
 Equations of the program's functions: by program.
-/
namespace Go.Su
set_option maxRecDepth 100000
noncomputable section
open Go.Proofs
variable (R : N7) (i j k l m n : Nat) (a b c d e f g h o p q r t u v w x y z A B C D E F G H I J K L M N O P Q S T U V W X Y Z a1 a2 a3 a4 a5 a6 a7 a8 a9 ai VZ a12 a13 a14 Yv a16 a17 a18 a19 a20 a21 a22 a23 a24 a25 a26 a27 a28 a29 a30 a31 a32 a33 a34 a35 a36 a37 a38 a39 a40 a41 a42 a43 a44 a45 a46 a47 a48 a49 a50 a51 a52 a53 a54 a55 a56 a57 a58 a59 : DV) (s : List D7)
def A52 := eP Tryz.f112 xO R [] (F5 Tryz.f112 [(a, .val), (b, .val)] [])
def XJ := hP Tryz.f112 xO R (pb 26) (ms 18 [(0, a), (1, b), (5, c)] [] [] [])
theorem A4M : A52 R a b =
 (XJ R a b (iI 0)) := D9 []
theorem bC : XJ R a b c =
 (ob (dLen a) fun d1 => ob (A8 .lss c d1) fun d2 => D6 d2 (ob (E8 1 a c) fun d3 => og (M9 d3) <| ob (A8 .eql d3 b) fun d4 => D6 d4 (some (.bool true)) (ob (A8 .add c (iI 1)) fun d5 => XJ R a b d5)) (some (.bool false))) := H5 []
theorem A22 : (run cfg).p aP [a, b] = A52 (run cfg) a b := P9 Tryz.func112
def pg := eP Tryz.f113 WY R [] (F5 Tryz.f113 [(a, .val), (b, .val)] [])
def Gt := hP Tryz.f113 WY R (pb 58) (ms 25 [(1, a), (5, b)] [] [(2, bx c 3)] [])
theorem kX : pg R a b =
 (og (C9 3 a) <| ob (A8 .eql (A7 0 a) b) fun d1 => D6 d1 (some (.bool false)) (Gt R b (iI 0) a)) := D9 []
theorem QE : Gt R a b c =
 (ob (dLen (A7 2 c)) fun d1 => ob (A8 .lss b d1) fun d2 => D6 d2 (ob (E8 3 (A7 2 c) b) fun d3 => ob (R.p F_ [(H6 d3), a]) fun d4 => ob (O9 .not d4) fun d5 => D6 d5 (some (.bool false)) (ob (A8 .add b (iI 1)) fun d6 => Gt R a d6 c)) (some (.bool true))) := H5 []
theorem gM : (run cfg).p F_ [a, b] = pg (run cfg) a b := P9 Tryz.func113
def A0n := eP Tryz.f114 cz R [] (F5 Tryz.f114 [(a, .val), (b, .val)] [])
def NG := hP Tryz.f114 cz R (pb 58) (ms 46 [(5, a)] [] [(2, bx b 3), (3, bx c 3)] [])
theorem vo : A0n R a b =
 (og (C9 3 a) <| og (C9 3 b) <| ob (A8 .eql (A7 0 a) (iI 5)) fun d1 => D6 d1 (ob (R.p F_ [(H6 b), (iI 6)]) fun d2 => some d2) (ob (A8 .eql (A7 0 b) (iI 5)) fun d3 => D6 d3 (ob (R.p F_ [(H6 a), (iI 6)]) fun d4 => some d4) (ob (R.p nJ [(H6 a), (H6 b)]) fun d5 => D6 d5 (some (.bool true)) (ob (R.p nK [(H6 a), (H6 b)]) fun d6 => ob (O9 .not d6) fun d7 => D6 d7 (some (.bool false)) (NG R (iI 0) a b))))) := D9 []
theorem SF : NG R a b c =
 (ob (dLen (A7 2 b)) fun d1 => ob (A8 .lss a d1) fun d2 => D6 d2 (ob (E8 3 (A7 2 b) a) fun d3 => ob (E8 3 (A7 2 c) a) fun d4 => ob (R.p XF [(H6 d3), (H6 d4)]) fun d5 => ob (O9 .not d5) fun d6 => D6 d6 (some (.bool false)) (ob (A8 .add a (iI 1)) fun d7 => NG R d7 b c)) (some (.bool true))) := H5 []
theorem r_ : (run cfg).p XF [a, b] = A0n (run cfg) a b := P9 Tryz.func114
def Tq := eR Tryz.f115 VR jS R [] (F5 Tryz.f115 [(a, .val), (b, .val), (c, .own)] s)
def ML := eR Tryz.f115 VR jS R (pb 1726) (ms 107 [(2, a)] [(2, .own)] [(3, bx b 7), (4, bx c 3)] s)
theorem Bo : Tq R a b c s =
 (og (C9 7 a) <| og (C9 3 b) <| ob (A8 .eql (A7 0 a) (iI 1)) fun d1 => D6 d1 (some ([c, (.bool true)], s)) (ob (A8 .eql (A7 0 a) (iI 2)) fun d2 => D6 d2 (og (I7 (A7 3 a)) <| ob (R8 4 c (.list 4 [(.agg [(A7 3 a), (A7 0 b), (A7 1 b), (A7 2 b)])])) fun d3 => some ([d3, (.bool true)], s)) (ob (A8 .eql (A7 0 a) (iI 3)) fun d4 => D6 d4 (ML R c a b s) (ob (A8 .eql (A7 0 a) (iI 4)) fun d5 => D6 d5 (ML R c a b s) (ob (A8 .eql (A7 0 a) (iI 5)) fun d6 => D6 d6 (ML R c a b s) (ob (A8 .eql (A7 0 a) (iI 6)) fun d7 => D6 d7 (ML R c a b s) (ob (A8 .eql (A7 0 a) (iI 7)) fun d8 => D6 d8 (ob (A8 .neq (A7 0 b) (iI 7)) fun d9 => D6 d9 (some ([c, (.bool false)], s)) (ob (E8 7 (A7 6 a) (iI 0)) fun U2 => ob (E8 3 (A7 2 b) (iI 0)) fun V7 => ob (R.r DY [((Gb U2), .val), ((H6 V7), .val), (c, .own)] s) fun q12 => ob (O4 0 (.I6 q12.1)) fun Ci => ob (O4 1 (.I6 q12.1)) fun ET => ob (O9 .not ET) fun GK => D6 GK (some ([Ci, (.bool false)], q12.2)) (ob (E8 7 (A7 6 a) (iI 1)) fun d16 =>
 ob (E8 3 (A7 2 b) (iI 1)) fun d17 => ob (R.r DY [((Gb d16), .val), ((H6 d17), .val), (Ci, .own)] q12.2) fun q18 => ob (O4 0 (.I6 q18.1)) fun d19 => ob (O4 1 (.I6 q18.1)) fun d20 => some ([d19, d20], q18.2)))) (ob (A8 .eql (A7 0 a) (iI 8)) fun d21 => D6 d21 (ob (A8 .eql (A7 0 b) (iI 8)) fun d22 => some ([c, d22], s)) (ob (A8 .neq (A7 0 b) (iI 8)) fun d23 => D6 d23 (some ([c, (.bool false)], s)) (ob (E8 7 (A7 6 a) (iI 0)) fun d24 => ob (E8 3 (A7 2 b) (iI 0)) fun d25 => ob (R.r DY [((Gb d24), .val), ((H6 d25), .val), (c, .own)] s) fun q26 => ob (O4 0 (.I6 q26.1)) fun d27 => ob (O4 1 (.I6 q26.1)) fun d28 => ob (O9 .not d28) fun d29 => D6 d29 (some ([d27, (.bool false)], q26.2)) (ob (E8 7 (A7 6 a) (iI 1)) fun d30 => ob (R.r DY [((Gb d30), .val), ((H6 b), .val), (d27, .own)] q26.2) fun q31 => ob (O4 0 (.I6 q31.1)) fun d32 => ob (O4 1 (.I6 q31.1)) fun d33 => some ([d32, d33], q31.2)))))))))))) := D9 [10]
theorem kZ : ML R a b c s =
 (ob (A8 .sub (A7 0 b) (iI 3)) fun d1 => ob (A8 .add d1 (iI 1)) fun d2 => ob (A8 .eql (A7 0 c) d2) fun d3 => some ([a, d3], s)) := D9 [10]
theorem Bf : (run cfg).r DY [(a, .val), (b, .val), (c, .own)] s = Tq (run cfg) a b c s := Dl (s := VR) Tryz.func115
theorem RY (x0 x1 x2 : DV) (sg : List D7) {q : List DV × List D7} (h : Tq (run cfg) x0 x1 x2 sg = some q) : (run cfg).r DY [(x0, .val), (x1, .val), (x2, .own)] sg = some q := (Bf x0 x1 x2 sg).trans h
def uZ (R : N7) (x0 x1 : DV) (x2 : Nat) (sg : List D7) : Option (List DV × List D7) := eR Tryz.f116 Pf Yj R [] (F5 Tryz.f116 [(x0, .val), (x1, .val), (.undef, (.map x2))] sg)
def Lb (R : N7) (t1 : DV) (t2i : Nat) (t38 t39 t40 b9_0 b9_2 : DV) (sg : List D7) : Option (List DV × List D7) := hR Tryz.f116 Pf Yj R (pb 250) (ms 55 [(1, t1), (38, t38), (39, t39), (40, t40)] [(2, (.map t2i))] [(6, some zb4), (9, some [(b9_0, .val), ((iI 0), .val), (b9_2, .own)])] sg)
theorem qc (R : N7) (x0 x1 : DV) (x2 : Nat) (sg : List D7) : uZ R x0 x1 x2 sg =
 (og (C9 3 x0) <| ob (A8 .eql (A7 0 x0) (iI 6)) fun d1 => D6 d1 (og (isKey false (A7 1 x0) && true) <| ob (p9 sg x2) fun m2 => og (m2.1 == false) <| D6 (.bool (Y7 m2.2 (A7 1 x0)).isSome) (ob (E8 4 x1 ((Y7 m2.2 (A7 1 x0)).getD (iI 0))) fun d3 => some ([(.agg [(A7 1 d3), (A7 2 d3), (A7 3 d3)])], sg)) (some ([(H6 x0)], sg))) (ob (dLen (A7 2 x0)) fun d4 => ob (A8 .eql d4 (iI 0)) fun d5 => D6 d5 (some ([(H6 x0)], sg)) (og (I7 (A7 0 x0)) <| ob (dLen (A7 2 x0)) fun d6 => Lb R x1 x2 (A7 2 x0) d6 (iI 0) (A7 0 x0) (.list 3 []) sg))) := D9 []
theorem QG (R : N7) (t1 : DV) (t2i : Nat) (t38 t39 t40 b9_0 b9_2 : DV) (sg : List D7) : Lb R t1 t2i t38 t39 t40 b9_0 b9_2 sg =
 (ob (A8 .lss t40 t39) fun d1 => D6 d1 (ob (E8 3 t38 t40) fun d2 => oc (R.r TR [((H6 d2), .val), (t1, .val), (.undef, (.map t2i))] sg) fun q3 s3 => og (C9 3 q3) <| ob (R8 3 b9_2 (.list 3 [q3])) fun d4 => ob (A8 .add t40 (iI 1)) fun d5 => Lb R t1 t2i t38 t39 d5 b9_0 d4 s3) (some ([(.agg [b9_0, (iI 0), b9_2])], sg))) := H5 []
theorem lX (x0 x1 : DV) (x2 : Nat) (sg : List D7) : (run cfg).r TR [(x0, .val), (x1, .val), (.undef, (.map x2))] sg = uZ (run cfg) x0 x1 x2 sg := Dl (s := Pf) Tryz.func116
def A0g := eP Tryz.f117 xN R [] (F5 Tryz.f117 [(a, .val)] [])
theorem vU : A0g R a =
 (ob (A8 .geq a (.int .u8 97)) fun d1 => I5 d1 (ob (A8 .leq a (.int .u8 122)) fun d2 => some d2) (some (.bool false)) none) := D9 []
theorem rV : (run cfg).p QO [a] = A0g (run cfg) a := P9 Tryz.func117
def A19 := eP Tryz.f118 A1b R [] (F5 Tryz.f118 [(a, .val)] [])
theorem A0F : A19 R a =
 (ob (R.p QO [a]) fun d1 => I5 d1 (some (.bool true)) (ob (R.p ic [a]) fun d2 => I5 d2 (some (.bool true)) (ob (A8 .geq a (.int .u8 65)) fun d3 => I5 d3 (ob (A8 .leq a (.int .u8 90)) fun d4 => I5 d4 (some (.bool true)) (ob (A8 .eql a (.int .u8 95)) fun d5 => I5 d5 (some (.bool true)) (ob (A8 .eql a (.int .u8 39)) fun d6 => some d6) none) none) (ob (A8 .eql a (.int .u8 95)) fun d7 => I5 d7 (some (.bool true)) (ob (A8 .eql a (.int .u8 39)) fun d8 => some d8) none) none) none) none) := D9 []
theorem wR : (run cfg).p nH [a] = A19 (run cfg) a := P9 Tryz.func118
def A4s := eP Tryz.f119 Zd R [] (F5 Tryz.f119 [(a, .val)] [])
def Tf := hP Tryz.f119 Zd R (pb 26) (ms 40 [(0, a), (3, b)] [] [] [])
def Nc := hP Tryz.f119 Zd R (pb 122) (ms 40 [(0, a), (4, b), (5, c)] [] [] [])
theorem A2Q : A4s R a =
 (Tf R a (iI 0)) := D9 []
theorem YX : Tf R a b =
 (ob (Dr a) fun d1 => ob (A8 .lss b d1) fun d2 => D6 d2 (ob (Y4 a b) fun d3 => ob (R.p QO [d3]) fun d4 => ob (O9 .not d4) fun d5 => D6 d5 (some (.bool false)) (ob (A8 .add b (iI 1)) fun d6 => Tf R a d6)) (ob (A8 .add (.str ⟨#[32]⟩) a) fun d7 => ob (A8 .add d7 (.str ⟨#[32]⟩)) fun d8 => Nc R a d8 (iI 0))) := H5 []
theorem YY : Nc R a b c =
 (ob (Dr b) fun d1 => ob (A8 .add c d1) fun d2 => ob (A8 .leq d2 (iI 81)) fun d3 => D6 d3 (ob (Dr a) fun d4 => ob (A8 .gtr d4 (iI 0)) fun d5 => I5 d5 (ob (Dr b) fun d6 => ob (A8 .add c d6) fun d7 => ob (kP (.str ⟨#[32, 108, 101, 116, 32, 114, 101, 99, 32, 105, 110, 32, 102, 117, 110, 32, 105, 102, 32, 116, 104, 101, 110, 32, 101, 108, 115, 101, 32, 109, 97, 116, 99, 104, 32, 119, 105, 116, 104, 32, 101, 110, 100, 32, 116, 114, 117, 101, 32, 102, 97, 108, 115, 101, 32, 105, 110, 116, 32, 98, 111, 111, 108, 32, 115, 116, 114, 105, 110, 103, 32, 117, 110, 105, 116, 32, 108, 105, 115, 116, 32]⟩) (some c) (some d7)) fun d8 => ob (A8 .eql d8 b) fun d9 => D6 d9 (some (.bool true)) (ob (A8 .add c (iI 1)) fun U2 => Nc R a b U2)) (ob (A8 .add c (iI 1)) fun V7 => Nc R a b V7) none) (some (.bool false))) := H5 []
theorem A05 : (run cfg).p uE [a] = A4s (run cfg) a := P9 Tryz.func119
def A0l := eR Tryz.f120 Rk cZ R [] (F5 Tryz.f120 [(a, .val), (b, .own)] s)
def Gl := hR Tryz.f120 Rk cZ R (pb 58) (ms 29 [(1, a), (5, b)] [(1, .own)] [(2, bx c 7)] s)
theorem vZ : A0l R a b s =
 (og (C9 7 a) <| ob (A8 .eql (A7 0 a) (iI 2)) fun d1 => D6 d1 (og (I7 (A7 3 a)) <| ob (R8 1 b (.list 1 [(A7 3 a)])) fun d2 => Gl R d2 (iI 0) a s) (Gl R b (iI 0) a s)) := D9 []
theorem Ua : Gl R a b c s =
 (ob (dLen (A7 6 c)) fun d1 => ob (A8 .lss b d1) fun d2 => D6 d2 (ob (E8 7 (A7 6 c) b) fun d3 => oc (R.r XD [((Gb d3), .val), (a, .own)] s) fun q4 s4 => ob (A8 .add b (iI 1)) fun d5 => Gl R q4 d5 c s4) (some ([a], s))) := H5 []
theorem rq : (run cfg).r XD [(a, .val), (b, .own)] s = A0l (run cfg) a b s := Dl (s := Rk) Tryz.func120
def uJ (R : N7) (x0 : DV) (x1 : Nat) (sg : List D7) : Option (List DV × List D7) := eR Tryz.f121 Kv Rc R [] (F5 Tryz.f121 [(x0, .val), (.undef, (.map x1))] sg)
def Vp := eR Tryz.f121 Kv Rc R (pb 7) (ms 46 [] [(1, (.map i))] [(2, bx a 3), (4, some zb4)] s)
def A15 := hR Tryz.f121 Kv Rc R (pb 250) (ms 46 [(30, a), (31, b), (32, (iI 0))] [(1, (.map i))] [(4, some zb4), (5, some [(c, .val), (d, .val), ((.list 3 []), .own)])] s)
theorem A5n (R : N7) (x0 : DV) (x1 : Nat) (sg : List D7) : uJ R x0 x1 sg =
 (og (C9 3 x0) <| ob (A8 .eql (A7 0 x0) (iI 6)) fun d1 => I5 d1 (og (isKey false (A7 1 x0) && true) <| ob (p9 sg x1) fun m2 => og (m2.1 == false) <| ob (A8 .eql ((Y7 m2.2 (A7 1 x0)).getD (iI 0)) (iI 0)) fun d3 => D6 d3 (some ([(.agg [(iI 5), (iI 0), (.list 3 [])])], sg)) (Vp R x1 x0 sg)) (Vp R x1 x0 sg) none) := D9 [3]
theorem A2O : Vp R i a s =
 (ob (dLen (A7 2 a)) fun d1 => ob (A8 .eql d1 (iI 0)) fun d2 => D6 d2 (some ([(H6 a)], s)) (og (I7 (A7 0 a)) <| og (I7 (A7 1 a)) <| ob (dLen (A7 2 a)) fun d3 => A15 R i (A7 2 a) d3 (A7 0 a) (A7 1 a) s)) := D9 [3]
theorem A31 (x0 : DV) (x1 : Nat) (sg : List D7) : (run cfg).r uD [(x0, .val), (.undef, (.map x1))] sg = uJ (run cfg) x0 x1 sg := Dl (s := Kv) Tryz.func121
def zw := eP Tryz.f122 bq R [] (F5 Tryz.f122 [(a, .val), (b, .val)] [])
def Ju := hP Tryz.f122 bq R (pb 58) (ms 27 [(1, a), (5, b)] [] [(2, bx c 3)] [])
theorem vK : zw R a b =
 (og (C9 3 a) <| ob (A8 .add b (iI 1)) fun d1 => Ju R d1 (iI 0) a) := D9 []
theorem UM : Ju R a b c =
 (ob (dLen (A7 2 c)) fun d1 => ob (A8 .lss b d1) fun d2 => I5 d2 (ob (A8 .leq a (iI 600)) fun d3 => D6 d3 (ob (E8 3 (A7 2 c) b) fun d4 => ob (R.p Wy [(H6 d4), a]) fun d5 => ob (A8 .add b (iI 1)) fun d6 => Ju R d5 d6 c) (some a)) (some a) none) := H5 []
theorem rH : (run cfg).p Wy [a, b] = zw (run cfg) a b := P9 Tryz.func122
def A2h := eR Tryz.f123 OV XT R [] (F5 Tryz.f123 [(a, .val), (b, .own)] s)
def Tg := eR Tryz.f123 OV XT R (pb 7) (ms 36 [(1, a)] [(1, .own)] [(2, bx b 3)] s)
def MI := hR Tryz.f123 OV XT R (pb 58) (ms 36 [(1, a), (5, b)] [(1, .own)] [(2, bx c 3)] s)
theorem A0N : A2h R a b s =
 (og (C9 3 a) <| ob (A8 .eql (A7 0 a) (iI 6)) fun d1 => I5 d1 (ob (R.p aP [b, (A7 1 a)]) fun d2 => ob (O9 .not d2) fun d3 => D6 d3 (og (I7 (A7 1 a)) <| ob (R8 1 b (.list 1 [(A7 1 a)])) fun d4 => Tg R d4 a s) (Tg R b a s)) (Tg R b a s) none) := D9 [3]
theorem Ra : Tg R a b s =
 (MI R a (iI 0) b s) := D9 [3]
theorem WE : MI R a b c s =
 (ob (dLen (A7 2 c)) fun d1 => ob (A8 .lss b d1) fun d2 => D6 d2 (ob (E8 3 (A7 2 c) b) fun d3 => oc (R.r ZP [((H6 d3), .val), (a, .own)] s) fun q4 s4 => ob (A8 .add b (iI 1)) fun d5 => MI R q4 d5 c s4) (some ([a], s))) := H5 [3]
theorem wZ : (run cfg).r ZP [(a, .val), (b, .own)] s = A2h (run cfg) a b s := Dl (s := OV) Tryz.func123
def PL := eP Tryz.f126 gX R [] (F5 Tryz.f126 [(a, .val)] [])
theorem gF : PL R a =
 (og (C9 16 a) <| ob (A8 .eql (A7 0 a) (iI 1)) fun d1 => D6 d1 (some (.I6 [(.agg [(.bool true), (.bool false), (.bool false), (.bool false), (.bool false), (.bool false), (.bool false), (.bool false), (iI 0)]), (.bool true)])) (ob (A8 .eql (A7 0 a) (iI 2)) fun d2 => D6 d2 (some (.I6 [zA2, (.bool true)])) (ob (A8 .eql (A7 0 a) (iI 3)) fun d3 => D6 d3 (some (.I6 [zA2, (.bool true)])) (ob (A8 .eql (A7 0 a) (iI 4)) fun d4 => D6 d4 (some (.I6 [(.agg [(.bool false), (.bool false), (.bool false), (.bool true), (.bool false), (.bool false), (.bool false), (.bool false), (iI 0)]), (.bool true)])) (ob (A8 .eql (A7 0 a) (iI 5)) fun d5 => D6 d5 (some (.I6 [zA0, (.bool true)])) (ob (A8 .eql (A7 0 a) (iI 7)) fun d6 => D6 d6 (some (.I6 [zA0, (.bool true)])) (ob (A8 .eql (A7 0 a) (iI 6)) fun d7 => D6 d7 (some (.I6 [zA1, (.bool true)])) (ob (A8 .eql (A7 0 a) (iI 8)) fun d8 => D6 d8 (some (.I6 [zA1, (.bool true)])) (ob (A8 .eql (A7 0 a) (iI 10)) fun d9 => D6 d9 (some (.I6 [zA1, (.bool true)])) (ob (A8 .eql (A7 0 a) (iI 9)) fun U2 => D6 U2 (some (.I6 [(.agg [(.bool true), (.bool false), (.bool false), (.bool false), (.bool false), (.bool true), (.bool false), (.bool false), (iI 1)]), (.bool true)])) (ob (A8 .eql (A7 0 a) (iI 11)) fun V7 =>
 D6 V7 (some (.I6 [(.agg [(.bool true), (.bool false), (.bool false), (.bool false), (.bool false), (.bool true), (.bool false), (.bool false), (iI 2)]), (.bool true)])) (ob (A8 .eql (A7 0 a) (iI 12)) fun Z7 => D6 Z7 (some (.I6 [(.agg [(.bool true), (.bool true), (.bool false), (.bool false), (.bool false), (.bool true), (.bool true), (.bool false), (iI 2)]), (.bool true)])) (ob (A8 .eql (A7 0 a) (iI 13)) fun Ci => D6 Ci (some (.I6 [(.agg [(.bool false), (.bool false), (.bool false), (.bool false), (.bool false), (.bool false), (.bool false), (.bool false), (iI 3)]), (.bool true)])) (ob (A8 .eql (A7 0 a) (iI 14)) fun ET => D6 ET (ob (dLen (A7 14 a)) fun GK => ob (A8 .add GK (iI 1)) fun d16 => og (I7 d16) <| ob (dLen (A7 14 a)) fun d17 => ob (A8 .gtr d17 (iI 0)) fun d18 => some (.I6 [(.agg [(.bool false), (.bool false), (.bool false), (.bool false), (.bool false), (.bool false), (.bool false), (.bool false), d16]), d18])) (ob (A8 .eql (A7 0 a) (iI 15)) fun d19 => D6 d19 (some (.I6 [(.agg [(.bool false), (.bool false), (.bool false), (.bool false), (.bool false), (.bool true), (.bool false), (.bool true), (iI 1)]), (.bool true)])) (ob (A8 .eql (A7 0 a) (iI 16)) fun d20 =>
 D6 d20 (some (.I6 [(.agg [(.bool false), (.bool false), (.bool false), (.bool false), (.bool true), (.bool false), (.bool false), (.bool false), (iI 2)]), (.bool true)])) (some (.I6 [zA0, (.bool false)])))))))))))))))))) := D9 []
theorem bX : (run cfg).p Oi [a] = PL (run cfg) a := P9 Tryz.func126
theorem zY (x0 : DV) {d : DV} (h : PL (run cfg) x0 = some d) : (run cfg).p Oi [x0] = some d := (bX x0).trans h
def A0y := eP Tryz.f127 dG R [] (F5 Tryz.f127 [(a, .val)] [])
def PM := hP Tryz.f127 dG R (pb 58) (ms 37 [(0, a), (3, b)] [] [] [])
theorem wK : A0y R a =
 (ob (Dr a) fun d1 => ob (A8 .lss d1 (iI 1)) fun d2 => I5 d2 (some (.bool false)) (ob (Dr a) fun d3 => ob (A8 .gtr d3 (iI 32)) fun d4 => I5 d4 (some (.bool false)) (ob (Y4 a (iI 0)) fun d5 => ob (A8 .lss d5 (.int .u8 97)) fun d6 => I5 d6 (some (.bool false)) (ob (Y4 a (iI 0)) fun d7 => ob (A8 .gtr d7 (.int .u8 122)) fun d8 => I5 d8 (some (.bool false)) (ob (R.p nO [a]) fun d9 => D6 d9 (some (.bool false)) (PM R a (iI 1))) none) none) none) none) := D9 []
theorem Ui : PM R a b =
 (ob (Dr a) fun d1 => ob (A8 .lss b d1) fun d2 => D6 d2 (ob (Y4 a b) fun d3 => ob (R.p aU [d3]) fun d4 => ob (O9 .not d4) fun d5 => D6 d5 (some (.bool false)) (ob (A8 .add b (iI 1)) fun d6 => PM R a d6)) (some (.bool true))) := H5 []
theorem sP : (run cfg).p QV [a] = A0y (run cfg) a := P9 Tryz.func127
def A0u := eP Tryz.f128 xV R [] (F5 Tryz.f128 [(a, .val)] [])
theorem wG : A0u R a =
 (og (C9 3 a) <| ob (A8 .eql (A7 0 a) (iI 0)) fun d1 => I5 d1 (ob (A8 .eql (A7 1 a) (iI 0)) fun d2 => I5 d2 (ob (dLen (A7 2 a)) fun d3 => ob (A8 .eql d3 (iI 0)) fun d4 => some d4) (some (.bool false)) none) (some (.bool false)) none) := D9 []
theorem sK : (run cfg).p Ma [a] = A0u (run cfg) a := P9 Tryz.func128
def qA := eP Tryz.f129 mE R [] (F5 Tryz.f129 [(a, .val)] [])
theorem kv : qA R a =
 (og (C9 3 a) <| ob (R.p E_ [(H6 a)]) fun d1 => ob (A8 .eql d1 (iI 0)) fun d2 => I5 d2 (ob (R.p Na [(H6 a)]) fun d3 => some d3) (some (.bool false)) none) := D9 []
theorem gT : (run cfg).p Qz [a] = qA (run cfg) a := P9 Tryz.func129
def Xg : Code := Tryz.f130.body.getD .skip
def fH := eP Tryz.f130 Ei R [] (F5 Tryz.f130 [(a, .val)] [])
def Xc := eP Tryz.f130 Ei R (pb 58) (ms 32 [(0, a), (4, (.I6 [])), (6, b), (8, (.I6 [])), (9, (.I6 [])), (10, (.I6 [])), (11, (.I6 [])), (12, (.I6 [])), (13, (.I6 [])), (14, (.I6 [])), (15, (.I6 [])), (16, (.I6 [])), (17, (.I6 [])), (18, (.I6 [])), (19, (.I6 [])), (20, (.I6 [])), (21, (.I6 [])), (22, (.I6 [])), (23, (.I6 [])), (24, (.I6 [])), (25, (.I6 [])), (26, (.I6 [])), (27, (.I6 [])), (28, (.I6 [])), (29, (.I6 [])), (30, (.I6 [])), (31, (.I6 []))] [(1, (.ptr 0 0)), (2, (.ptr 1 0)), (3, (.ptr 3 0)), (5, (.map 2)), (7, (.fn 159 [(4, 0)]))] [] s)
def Qq : Code := match (sub [true, true, false, true, false] Xg []).1 with
 | .rangeFunc _ _ a b => .seq a b
 | c => c
def AL (R : N7) (t0 t6 : DV) (o : Out) (sg : List D7) : Option DV := oO cfg R Ei (Wp cfg.P Tryz.f130) [true, true, false, true, false] Xg o (j4 ⟨spread .undef 32 0 [(0, t0), (4, (.I6 [])), (6, t6), (8, (.I6 [])), (9, (.I6 [])), (10, (.I6 [])), (11, (.I6 [])), (12, (.I6 [])), (13, (.I6 [])), (14, (.I6 [])), (15, (.I6 [])), (16, (.I6 [])), (17, (.I6 [])), (18, (.I6 [])), (19, (.I6 [])), (20, (.I6 [])), (21, (.I6 [])), (22, (.I6 [])), (23, (.I6 [])), (24, (.I6 [])), (25, (.I6 [])), (26, (.I6 [])), (27, (.I6 [])), (28, (.I6 [])), (29, (.I6 [])), (30, (.I6 [])), (31, (.I6 []))], spread .val 32 0 [(1, (.ptr 0 0)), (2, (.ptr 1 0)), (3, (.ptr 3 0)), (5, (.map 2)), (7, (.fn 159 [(4, 0)]))], spread none 32 0 [], []⟩ sg)
def NW (R : N7) (t0 t6 : DV) (I : List D7 → Option DV) (x : DV) (sg : List D7) : Option DV := Iy cfg R Ei (kr I (AL R t0 t6)) [] Qq (mst 32 [(8, x)] [(2, (.ptr 1 0)), (3, (.ptr 3 0))] [] sg)
def Df (R : N7) (t0 t6 : DV) : List DV → List D7 → Option DV := Ke (fun x I sg => NW R t0 t6 I x sg) (AL R t0 t6 .normal)
def Pz (R : N7) (t0 t6 : DV) (I : List D7 → Option DV) (b4 : DV) (sg : List D7) : Option DV := Iy cfg R Ei (kr I (AL R t0 t6)) (pb 13) Qq (ms 32 [] [(3, (.ptr 3 0))] [(4, bx b4 7)] sg)
theorem bN : fH R a =
 (og (C9 7 a) <| Xc R a (Gb a) [D7.box [((A7 0 a), .val), ((A7 1 a), .val), ((A7 2 a), .val), ((A7 3 a), .val), ((A7 4 a), .val), ((A7 5 a), .val), ((A7 6 a), .val)], D7.box [((iI 0), .val)], .map true [], D7.box [(.undef, (.map 2))], D7.box [((A7 0 a), .val), ((A7 1 a), .val), ((A7 2 a), .val), ((A7 3 a), .val), ((A7 4 a), .val), ((A7 5 a), .val), ((A7 6 a), .val)]]) := D9 [6]
theorem Ve : Xc R a b s =
 ob (M7 s 4) fun cs => ob (Ik cs) fun cd => ob (Jn 7 6 cd) fun ds => Df R a b ds (s.set 4 (.arr 1 [])) := (A8W (t := 7) (f := 159) (i := 4) (q := 8) (it := Jn 7 6) (by kernel_rfl) (by kernel_rfl) (by kernel_rfl) (by kernel_rfl)).trans (by kernel_rfl)
theorem QX (R : N7) (t0 t6 : DV) (sg : List D7) : Df R t0 t6 [] sg = AL R t0 t6 .normal sg := rfl
theorem Ph (R : N7) (t0 t6 x : DV) (ds : List DV) (sg : List D7) : Df R t0 t6 (x :: ds) sg = NW R t0 t6 (Df R t0 t6 ds) x sg := rfl
theorem Sm (R : N7) (t0 t6 : DV) (I : List D7 → Option DV) (x : DV) (sg : List D7) : NW R t0 t6 I x sg = (og (C9 7 x) <| ob (R.p YR [(Gb x)]) fun d1 => ob (O9 .not d1) fun d2 => I5 d2 (ob (M7 sg 1) fun c3 => ob (c3[0]?) fun u4 => AL R t0 t6 .ret (sg.set 1 (D7.box (c3.set 0 ((iI 1), .val))))) (ob (A8 .eql (A7 0 x) (iI 2)) fun d5 => I5 d5 (ob (M7 sg 3) fun c6 => ob (KN c6 0) fun i7 => og (isKey true (A7 3 x) && true) <| ob (p9 sg i7) fun m8 =>
 og (m8.1 == true) <| ob (A8 .gtr ((Y7 m8.2 (A7 3 x)).getD (iI 0)) (iI 0)) fun d9 => D6 d9 (ob (M7 sg 1) fun c10 => ob (c10[0]?) fun u11 => AL R t0 t6 .ret (sg.set 1 (D7.box (c10.set 0 ((iI 1), .val))))) (Pz R t0 t6 I x sg)) (Pz R t0 t6 I x sg) none) none) := D9 [6]
theorem KR : AL R a b .normal s =
 (ob (M7 s 1) fun c1 => ob (c1[0]?) fun u2 => A68 (ob (M7 (s.set 1 (D7.box (c1.set 0 ((iI 0), .val)))) 1) fun c => oneCell (s.set 1 (D7.box (c1.set 0 ((iI 0), .val)))) c)) := zN [6] (by kernel_rfl)
theorem NL : AL R a b .ret s = (A68 (ob (M7 s 1) fun c => oneCell s c)) := zN [6] (by kernel_rfl)
theorem Xo (R : N7) (t0 t6 : DV) (I : List D7 → Option DV) (b4 : DV) (sg : List D7) : Pz R t0 t6 I b4 sg = (ob (A8 .eql (A7 0 b4) (iI 2)) fun d1 => D6 d1 (ob (M7 sg 3) fun c2 => ob (KN c2 0) fun i3 => og (isKey true (A7 3 b4) && true) <| ob (p9 sg i3) fun m4 => og (m4.1 == true) <| ob (A8 .add ((Y7 m4.2 (A7 3 b4)).getD (iI 0)) (iI 1)) fun d5 => og (isKey true (A7 3 b4) && true && true) <| ob (p9 sg i3) fun m6 => og (m6.1 == true) <| I (sg.set i3 (.map true (Cm m6.2 (A7 3 b4) d5)))) (I sg)) := D9 [6]
theorem ZG : (run cfg).p M_ [a] = fH (run cfg) a := P9 Tryz.func130
def A0x := eP Tryz.f131 dF R [] (F5 Tryz.f131 [(a, .val)] [])
def KI := hP Tryz.f131 dF R (pb 250) (ms 43 [(33, a), (34, b), (35, c)] [] [] [])
theorem wJ : A0x R a =
 (og (C9 3 a) <| ob (R.p iq [(A7 0 a)]) fun d1 => ob (A8 .lss d1 (iI 0)) fun d2 => I5 d2 (some (.bool false)) (ob (dLen (A7 2 a)) fun d3 => ob (A8 .neq d3 d1) fun d4 => D6 d4 (some (.bool false)) (ob (A8 .eql (A7 0 a) (iI 6)) fun d5 => D6 d5 (ob (A8 .geq (A7 1 a) (iI 0)) fun d6 => I5 d6 (ob (A8 .leq (A7 1 a) (iI 1048576)) fun d7 => some d7) (some (.bool false)) none) (ob (A8 .neq (A7 1 a) (iI 0)) fun d8 => D6 d8 (some (.bool false)) (ob (dLen (A7 2 a)) fun d9 => KI R (A7 2 a) d9 (iI 0))))) none) := D9 []
theorem Uh : KI R a b c =
 (ob (A8 .lss c b) fun d1 => D6 d1 (ob (E8 3 a c) fun d2 => ob (R.p XI [(H6 d2)]) fun d3 => ob (O9 .not d3) fun d4 => D6 d4 (some (.bool false)) (ob (A8 .add c (iI 1)) fun d5 => KI R a b d5)) (some (.bool true))) := H5 []
theorem sO : (run cfg).p XI [a] = A0x (run cfg) a := P9 Tryz.func131
def uN := eP Tryz.f132 MQ R [] (F5 Tryz.f132 [(a, .val), (b, .val)] [])
def Td := eP Tryz.f132 MQ R (pb 27646) (ms 56 [(4, (iI 0))] [] [(2, bx a 16)] [])
def Te := eP Tryz.f132 MQ R (pb 55293) (ms 56 [(4, a)] [] [(2, bx b 16)] [])
def Ia := eP Tryz.f132 MQ R (pb 110587) (ms 56 [(4, a)] [] [(2, bx b 16)] [])
theorem qM : uN R a b =
 (og (C9 16 a) <| og (C9 5 b) <| ob (A8 .eql (A7 0 a) (iI 1)) fun d1 => D6 d1 (ob (dLen (A7 4 b)) fun d2 => some (.I6 [d2, (.bool false)])) (ob (A8 .eql (A7 0 a) (iI 7)) fun d3 => D6 d3 (some (.I6 [(iI 1), (.bool false)])) (ob (A8 .eql (A7 0 a) (iI 8)) fun d4 => D6 d4 (some (.I6 [(iI 1), (.bool false)])) (ob (A8 .eql (A7 0 a) (iI 13)) fun d5 => D6 d5 (some (.I6 [(iI 1), (.bool false)])) (ob (A8 .eql (A7 0 a) (iI 14)) fun d6 => D6 d6 (some (.I6 [(iI 2), (.bool false)])) (ob (A8 .eql (A7 0 a) (iI 11)) fun d7 => D6 d7 (ob (A8 .eql (A7 8 a) (iI 0)) fun d8 => I5 d8 (ob (E8 16 (A7 15 a) (iI 0)) fun d9 => ob (R.p aT [(L8 d9)]) fun U2 => some (.I6 [(iI 0), U2])) (some (.I6 [(iI 0), (.bool false)])) none) (ob (A8 .eql (A7 0 a) (iI 9)) fun V7 => D6 V7 (Td R a) (ob (A8 .eql (A7 0 a) (iI 12)) fun Z7 => D6 Z7 (Td R a) (some (.I6 [(iI 0), (.bool false)])))))))))) := D9 [14, 16, 18]
theorem Ld : Td R a =
 (ob (A8 .eql (A7 8 a) (iI 0)) fun d1 => D6 d1 (ob (A8 .add (iI 0) (iI 1)) fun d2 => Te R d2 a) (Te R (iI 0) a)) := D9 [14, 16, 18]
theorem Le : Te R a b =
 (ob (A8 .eql (A7 0 b) (iI 12)) fun d1 => I5 d1 (ob (A8 .eql (A7 11 b) (iI 0)) fun d2 => D6 d2 (ob (A8 .add a (iI 1)) fun d3 => Ia R d3 b) (Ia R a b)) (Ia R a b) none) := D9 [14, 16, 18]
theorem Gz : Ia R a b =
 (ob (A8 .eql (A7 0 b) (iI 12)) fun d1 => some (.I6 [a, d1])) := D9 [14, 16, 18]
theorem lK : (run cfg).p aN [a, b] = uN (run cfg) a b := P9 Tryz.func132
def MM := eP Tryz.f133 LJ R [] (F5 Tryz.f133 [(a, .val), (b, .val)] [])
theorem LH : MM R a b =
 (ob (R.p IB [a, b]) fun d1 => ob (A8 .geq d1 (iI 0)) fun d2 => some d2) := D9 []
theorem KV : (run cfg).p GA [a, b] = MM (run cfg) a b := P9 Tryz.func133
def Sd := eR Tryz.f134 Ea JO R [] (F5 Tryz.f134 [(pt i), (a, .val), (b, .val)] s)
def EA := hR Tryz.f134 Ea JO R (pb 6) (ms 23 [(2, a), (8, b), (9, c), (10, d)] [(0, (.ptr i 0))] [] s)
theorem Qc : Sd R i a b s =
 (ob (dLen a) fun d1 => EA R i b a d1 (iI 0) s) := D9 []
theorem GV : EA R i a b c d s =
 (ob (A8 .lss d c) fun d1 => D6 d1 (ob (E8 1 b d) fun d2 => og (M9 d2) <| ob (M7 s i) fun c3 => ob (KN c3 1) fun i4 => og (isKey false d2 && true) <| ob (p9 s i4) fun m5 => og (m5.1 == false) <| ob (A8 .add ((Y7 m5.2 d2).getD (iI 0)) a) fun d6 => og (isKey false d2 && true && true) <| ob (p9 s i4) fun m7 => og (m7.1 == false) <| ob (A8 .add d (iI 1)) fun d8 => EA R i a b c d8 (s.set i4 (.map false (Cm m7.2 d2 d6)))) (some ([], s))) := H5 []
theorem Pn : (run cfg).r Z5 [(.undef, (.ptr i 0)), (a, .val), (b, .val)] s = Sd (run cfg) i a b s := Dl (s := Ea) Tryz.func134
def uj := eP Tryz.f135 tF R [] (F5 Tryz.f135 [(a, .val)] [])
theorem qw : uj R a =
 (og (C9 3 a) <| ob (R.p MF [(H6 a), (iI 5)]) fun d1 => some d1) := D9 []
theorem lu : (run cfg).p TU [a] = uj (run cfg) a := P9 Tryz.func135
end
end Go.Su

/-
 Equations of the program's functions: by program.
-/
namespace Go.Su
set_option maxRecDepth 100000
noncomputable section
open Go.Proofs
variable (R : N7) (i j k l m n : Nat) (a b c d e f g h o p q r t u v w x y z A B C D E F G H I J K L M N O P Q S T U V W X Y Z a1 a2 a3 a4 a5 a6 a7 a8 a9 ai VZ a12 a13 a14 Yv a16 a17 a18 a19 a20 a21 a22 a23 a24 a25 a26 a27 a28 a29 a30 a31 a32 a33 a34 a35 a36 a37 a38 a39 a40 a41 a42 a43 a44 a45 a46 a47 a48 a49 a50 a51 a52 a53 a54 a55 a56 a57 a58 a59 : DV) (s : List D7)
def A2u := eP Tryz.f136 A1n R [] (F5 Tryz.f136 [(a, .val)] [])
theorem A00 : A2u R a =
 (og (C9 3 a) <| oc (R.r ZX [((H6 a), .val), (.undef, (.map 0)), ((.list 1 []), .own)] [.map false []]) fun q1 s1 => some q1) := D9 []
theorem xF : (run cfg).p Oj [a] = A2u (run cfg) a := P9 Tryz.func136
def pQ := eP Tryz.f137 lw R [] (F5 Tryz.f137 [(a, .val), (b, .val)] [])
theorem kS : pQ R a b =
 (og (C9 3 a) <| og (C9 3 b) <| ob (R.p E_ [(H6 a)]) fun d1 => ob (A8 .eql d1 (iI 0)) fun d2 => I5 d2 (ob (R.p E_ [(H6 b)]) fun d3 => ob (A8 .eql d3 (iI 0)) fun d4 => I5 d4 (ob (R.p Og [(H6 a), (H6 b)]) fun d5 => some d5) (some (.bool false)) none) (some (.bool false)) none) := D9 []
theorem gH : (run cfg).p YM [a, b] = pQ (run cfg) a b := P9 Tryz.func137
def TW := eR Tryz.f138 FJ KW R [] (F5 Tryz.f138 [(pt i), (a, .val), (b, .val), (c, .val)] s)
def JH := eR Tryz.f138 FJ KW R (pb 15) (ms 50 [(9, a)] [(0, (.ptr i 0))] [(5, bx b 23), (6, bx c 16), (7, bx d 3), (8, some zb0)] s)
theorem Sn : TW R i a b c s =
 (og (C9 23 a) <| og (C9 16 b) <| og (C9 3 c) <| ob (M7 s i) fun c1 => ob (U4 c1 2) fun d2 => ob (dLen d2) fun d3 => ob (A8 .gtr d3 (iI 1048576)) fun d4 => I5 d4 (ob (M7 s i) fun c5 => ob (U4 c5 0) fun d6 => ob (O9 .not d6) fun d7 => D6 d7 (oc (R.r Ac [(pt i), ((iI 2), .val)] s) fun q8 s8 => some ([zA3], s8)) (JH R i d3 a b c s)) (JH R i d3 a b c s) none) := D9 [5]
theorem Pk : JH R i a b c d s =
 (ob (M7 s i) fun c1 => ob (Vu c1 2) fun d2 => ob (R8 8 d2 (.list 8 [(.agg [(A7 1 c), (A7 2 c), (A7 0 b), (A7 1 b), (A7 2 b), (A7 0 d), (A7 1 d), (A7 2 d)])])) fun d3 => ob (M7 (s.set i (D7.box (c1.set 2 (d2, .val)))) i) fun c4 => ob (c4[2]?) fun u5 => og (I7 a) <| some ([(.agg [(iI 16), (iI 0), (iI 0), (.str ⟨#[]⟩), (.str ⟨#[]⟩), (iI 0), (.str ⟨#[]⟩), (iI 0), a, (.bool false), (.list 1 []), (A7 0 b), (A7 1 b), (A7 2 b), (A7 0 d), (A7 1 d), (A7 2 d), (.list 3 []), (.list 7 []), (.list 20 [(.agg [(A7 3 b), (A7 4 b), (A7 5 b), (A7 6 b), (A7 7 b), (A7 8 b), (A7 9 b), (A7 10 b), (A7 11 b), (A7 12 b), (A7 13 b), (A7 14 b), (A7 15 b), (A7 16 b), (A7 17 b), (A7 18 b), (A7 19 b), (A7 20 b), (A7 21 b), (A7 22 b)])])])], ((s.set i (D7.box (c1.set 2 (d2, .val)))).set i (D7.box (c4.set 2 (d3, .own)))))) := D9 [5]
theorem Qh : (run cfg).r GQ [(.undef, (.ptr i 0)), (a, .val), (b, .val), (c, .val)] s = TW (run cfg) i a b c s := Dl (s := FJ) Tryz.func138
def VW := eR Tryz.f139 Kw Un R [] (F5 Tryz.f139 [(pt i), (a, .val), (b, .val), (c, .val)] s)
theorem UD : VW R i a b c s =
 (og (C9 16 a) <| og (C9 3 b) <| oc (R.r U7 [(pt i), ((L8 a), .val), ((H6 b), .val), ((iI 0), .val), (c, .val)] s) fun q1 s1 => og (C9 23 q1) <| oc (R.r Al [(pt i)] s1) fun q2 s2 => ob (O9 .not q2) fun d3 => D6 d3 (some ([zA4], s2)) (ob (A8 .eql (A7 0 q1) (iI 5)) fun d4 => D6 d4 (ob (E8 16 (A7 15 a) (iI 0)) fun d5 => ob (R.p MV [(.agg [(iI 5), (iI 0), (.list 3 [])]), (.agg [(iI 5), (iI 0), (.list 3 [])])]) fun d6 => oc (R.r GQ [(pt i), ((.agg [(A7 0 q1), (A7 1 q1), (A7 2 q1), (A7 3 q1), (A7 4 q1), (A7 5 q1), (A7 6 q1), (A7 7 q1), (A7 8 q1), (A7 9 q1), (A7 10 q1), (A7 11 q1), (A7 12 q1), (A7 13 q1), (A7 14 q1), (A7 15 q1), (A7 16 q1), (A7 17 q1), (A7 18 q1), (A7 19 q1), (A7 20 q1), (A7 21 q1), (A7 22 q1)]), .val), ((L8 d5), .val), (d6, .val)] s2) fun q7 s7 =>
 og (C9 20 q7) <| oc (R.r O0 [(pt i), ((L8 a), .val), ((H6 b), .val), ((iI 1), .val), (c, .val), ((.agg [(iI 5), (iI 0), (.list 3 [])]), .val)] s7) fun q8 s8 => og (C9 20 q8) <| some ([(.agg [(iI 5), (iI 0), (.list 3 []), (iI 10), (iI 0), (iI 0), (.str ⟨#[]⟩), (.str ⟨#[]⟩), (iI 0), (.str ⟨#[]⟩), (iI 0), (iI 0), (.bool false), (.list 1 []), (iI 0), (iI 0), (.list 3 []), (iI 0), (iI 0), (.list 3 []), (.list 3 []), (.list 7 []), (.list 20 [(.agg [(A7 0 q7), (A7 1 q7), (A7 2 q7), (A7 3 q7), (A7 4 q7), (A7 5 q7), (A7 6 q7), (A7 7 q7), (A7 8 q7), (A7 9 q7), (A7 10 q7), (A7 11 q7), (A7 12 q7), (A7 13 q7), (A7 14 q7), (A7 15 q7), (A7 16 q7), (A7 17 q7), (A7 18 q7), (A7 19 q7)]), (.agg [(A7 0 q8), (A7 1 q8), (A7 2 q8), (A7 3 q8), (A7 4 q8), (A7 5 q8), (A7 6 q8), (A7 7 q8), (A7 8 q8), (A7 9 q8), (A7 10 q8), (A7 11 q8), (A7 12 q8), (A7 13 q8), (A7 14 q8), (A7 15 q8), (A7 16 q8), (A7 17 q8), (A7 18 q8), (A7 19 q8)])])])], s8)) (ob (A8 .eql (A7 0 q1) (iI 9)) fun d9 =>
 D6 d9 (ob (E8 3 (A7 2 q1) (iI 0)) fun U2 => oc (R.r O0 [(pt i), ((L8 a), .val), ((H6 b), .val), ((iI 1), .val), (c, .val), ((H6 U2), .val)] s2) fun q11 s11 => og (C9 20 q11) <| ob (E8 3 (A7 2 q1) (iI 1)) fun Z7 => some ([(.agg [(A7 0 Z7), (A7 1 Z7), (A7 2 Z7), (iI 10), (iI 0), (iI 0), (.str ⟨#[]⟩), (.str ⟨#[]⟩), (iI 0), (.str ⟨#[]⟩), (iI 0), (iI 0), (.bool false), (.list 1 []), (iI 0), (iI 0), (.list 3 []), (iI 0), (iI 0), (.list 3 []), (.list 3 []), (.list 7 []), (.list 20 [(.agg [(A7 3 q1), (A7 4 q1), (A7 5 q1), (A7 6 q1), (A7 7 q1), (A7 8 q1), (A7 9 q1), (A7 10 q1), (A7 11 q1), (A7 12 q1), (A7 13 q1), (A7 14 q1), (A7 15 q1), (A7 16 q1), (A7 17 q1), (A7 18 q1), (A7 19 q1), (A7 20 q1), (A7 21 q1), (A7 22 q1)]), (.agg [(A7 0 q11), (A7 1 q11), (A7 2 q11), (A7 3 q11), (A7 4 q11), (A7 5 q11), (A7 6 q11), (A7 7 q11), (A7 8 q11), (A7 9 q11), (A7 10 q11), (A7 11 q11), (A7 12 q11), (A7 13 q11), (A7 14 q11), (A7 15 q11), (A7 16 q11), (A7 17 q11), (A7 18 q11), (A7 19 q11)])])])], s11)) (oc (R.r U7 [(pt i), ((L8 a), .val), ((H6 b), .val), ((iI 1), .val), (c, .val)] s2) fun q13 s13 =>
 oc (R.r Ac [(pt i), ((iI 4), .val)] s13) fun q14 s14 => some ([zA4], s14))))) := D9 []
theorem Sy : (run cfg).r Mq [(.undef, (.ptr i 0)), (a, .val), (b, .val), (c, .val)] s = VW (run cfg) i a b c s := Dl (s := Kw) Tryz.func139
def VY := eR Tryz.f140 Fx Lp R [] (F5 Tryz.f140 [(pt i), (a, .val), (b, .val), (c, .val)] s)
def FY := eR Tryz.f140 Fx Lp R (pb 15) (ms 72 [(3, a)] [(0, (.ptr i 0))] [(5, bx b 16), (6, bx c 3), (8, bv [d, e, f, g, h, o, p, q, r, t, u, v, w, x, y, z, A, B, C, D, E, F, G]), (9, bv [H, I, J, K, L]), (10, bv [M, N, O, P, Q, S, T, U, V, W, X, Y, Z, a1, a2, a3, a4, a5, a6, a7])] s)
theorem UE : VY R i a b c s =
 (og (C9 16 a) <| og (C9 3 b) <| og (I7 (A7 3 a)) <| ob (A8 .eql (A7 8 a) (iI 0)) fun d1 => D6 d1 (oc (R.r Z5 [(pt i), ((A7 1 b), .val), ((iI 1), .val)] s) fun q2 s2 => oc (R.r U7 [(pt i), ((L8 a), .val), ((H6 b), .val), ((iI 0), .val), (c, .val)] s2) fun q3 s3 => og (C9 23 q3) <| oc (R.r Z5 [(pt i), ((A7 1 b), .val), ((.int .i64 (-1)), .val)] s3) fun q4 s4 => og (I7 (A7 1 b)) <| FY R i c a b (iI 0) (iI 0) (.list 3 []) (iI 0) (iI 0) (iI 0) (.str ⟨#[]⟩) (.str ⟨#[]⟩) (iI 0) (.str ⟨#[]⟩) (iI 0) (iI 0) (.bool false) (.list 1 []) (iI 0) (iI 0) (.list 3 []) (iI 0) (iI 0) (.list 3 []) (.list 3 []) (.list 7 []) (.list 20 []) (A7 3 a) (A7 0 q3) (A7 1 q3) (A7 2 q3) (A7 1 b) (A7 3 q3) (A7 4 q3) (A7 5 q3) (A7 6 q3) (A7 7 q3) (A7 8 q3) (A7 9 q3) (A7 10 q3) (A7 11 q3) (A7 12 q3) (A7 13 q3) (A7 14 q3) (A7 15 q3) (A7 16 q3) (A7 17 q3) (A7 18 q3) (A7 19 q3) (A7 20 q3) (A7 21 q3) (A7 22 q3) s4) (oc (R.r O0 [(pt i), ((L8 a), .val), ((H6 b), .val), ((iI 0), .val), (c, .val), ((.agg [(A7 8 a), (A7 9 a), (A7 10 a)]), .val)] s) fun q5 s5 =>
 og (C9 20 q5) <| FY R i c a b (iI 0) (iI 0) (.list 3 []) (iI 0) (iI 0) (iI 0) (.str ⟨#[]⟩) (.str ⟨#[]⟩) (iI 0) (.str ⟨#[]⟩) (iI 0) (iI 0) (.bool false) (.list 1 []) (iI 0) (iI 0) (.list 3 []) (iI 0) (iI 0) (.list 3 []) (.list 3 []) (.list 7 []) (.list 20 []) (A7 3 a) (A7 8 a) (A7 9 a) (A7 10 a) (.list 1 []) (A7 0 q5) (A7 1 q5) (A7 2 q5) (A7 3 q5) (A7 4 q5) (A7 5 q5) (A7 6 q5) (A7 7 q5) (A7 8 q5) (A7 9 q5) (A7 10 q5) (A7 11 q5) (A7 12 q5) (A7 13 q5) (A7 14 q5) (A7 15 q5) (A7 16 q5) (A7 17 q5) (A7 18 q5) (A7 19 q5) s5)) := D9 [9]
theorem FD : FY R i a b c d e f g h o p q r t u v w x y z A B C D E F G H I J K L M N O P Q S T U V W X Y Z a1 a2 a3 a4 a5 a6 a7 s =
 (oc (R.r CV [(a, .val), ((.list 5 [(.agg [H, I, J, K, L])]), .val)] s) fun q1 s1 => oc (R.r U7 [(pt i), ((L8 b), .val), ((H6 c), .val), ((iI 1), .val), (q1, .val)] s1) fun q2 s2 => og (C9 23 q2) <| og (I7 (A7 3 b)) <| og (I7 L) <| some ([(.agg [(A7 0 q2), (A7 1 q2), (A7 2 q2), (iI 11), (iI 0), (iI 0), (A7 3 b), (.str ⟨#[]⟩), (iI 0), (.str ⟨#[]⟩), (iI 0), (iI 0), (.bool false), L, (iI 0), (iI 0), (.list 3 []), (iI 0), (iI 0), (.list 3 []), (.list 3 []), (.list 7 []), (.list 20 [(.agg [M, N, O, P, Q, S, T, U, V, W, X, Y, Z, a1, a2, a3, a4, a5, a6, a7]), (.agg [(A7 3 q2), (A7 4 q2), (A7 5 q2), (A7 6 q2), (A7 7 q2), (A7 8 q2), (A7 9 q2), (A7 10 q2), (A7 11 q2), (A7 12 q2), (A7 13 q2), (A7 14 q2), (A7 15 q2), (A7 16 q2), (A7 17 q2), (A7 18 q2), (A7 19 q2), (A7 20 q2), (A7 21 q2), (A7 22 q2)])])])], s2)) := D9 [9]
theorem Sz : (run cfg).r Mr [(.undef, (.ptr i 0)), (a, .val), (b, .val), (c, .val)] s = VY (run cfg) i a b c s := Dl (s := Fx) Tryz.func140
def Mt := eR Tryz.f141 Fy Lr R [] (F5 Tryz.f141 [(pt i), (a, .val), (b, .val), (c, .val)] s)
def FZ := eR Tryz.f141 Fy Lr R (pb 31) (ms 86 [(3, a), (10, b)] [(0, (.ptr i 0))] [(5, bx c 16), (6, bx d 3), (8, some zb2), (9, bx e 3)] s)
theorem UF : Mt R i a b c s =
 (og (C9 16 a) <| og (C9 3 b) <| ob (R.p MW [(.agg [(A7 8 a), (A7 9 a), (A7 10 a)]), (A7 0 b)]) fun d1 => og (C9 3 d1) <| ob (A8 .eql (A7 8 a) (iI 0)) fun d2 => D6 d2 (ob (Ca 3 (A7 0 b) (some (iI 1)) none) fun d3 => FZ R i c d3 a b d1 s) (FZ R i c (A7 0 b) a b d1 s)) := D9 [5]
theorem Qf : FZ R i a b c d e s =
 (ob (R.p MW [(.agg [(A7 11 c), (A7 12 c), (A7 13 c)]), b]) fun d1 => og (C9 3 d1) <| ob (R.p MV [(H6 e), (H6 d1)]) fun d2 => og (I7 (A7 3 c)) <| og (C9 3 d2) <| oc (R.r Z5 [(pt i), ((A7 1 d), .val), ((iI 1), .val)] s) fun q3 s3 => og (I7 (A7 4 c)) <| oc (R.r CV [(a, .val), ((.list 5 [(.agg [(A7 3 c), (A7 0 d2), (A7 1 d2), (A7 2 d2), (.list 1 [])]), (.agg [(A7 4 c), (A7 0 e), (A7 1 e), (A7 2 e), (.list 1 [])])]), .val)] s3) fun q4 s4 => oc (R.r O0 [(pt i), ((L8 c), .val), ((H6 d), .val), ((iI 0), .val), (q4, .val), ((H6 d1), .val)] s4) fun q5 s5 => og (C9 20 q5) <| oc (R.r Z5 [(pt i), ((A7 1 d), .val), ((.int .i64 (-1)), .val)] s5) fun q6 s6 => og (I7 (A7 1 d)) <| oc (R.r CV [(a, .val), ((.list 5 [(.agg [(A7 3 c), (A7 0 d2), (A7 1 d2), (A7 2 d2), (A7 1 d)])]), .val)] s6) fun q7 s7 => oc (R.r U7 [(pt i), ((L8 c), .val), ((H6 d), .val), ((iI 1), .val), (q7, .val)] s7) fun q8 s8 =>
 og (C9 23 q8) <| og (I7 (A7 3 c)) <| og (I7 (A7 4 c)) <| og (I7 (A7 1 d)) <| some ([(.agg [(A7 0 q8), (A7 1 q8), (A7 2 q8), (iI 12), (iI 0), (iI 0), (A7 3 c), (A7 4 c), (iI 0), (.str ⟨#[]⟩), (iI 0), (iI 0), (.bool false), (A7 1 d), (A7 0 e), (A7 1 e), (A7 2 e), (A7 0 d1), (A7 1 d1), (A7 2 d1), (.list 3 []), (.list 7 []), (.list 20 [(.agg [(A7 0 q5), (A7 1 q5), (A7 2 q5), (A7 3 q5), (A7 4 q5), (A7 5 q5), (A7 6 q5), (A7 7 q5), (A7 8 q5), (A7 9 q5), (A7 10 q5), (A7 11 q5), (A7 12 q5), (A7 13 q5), (A7 14 q5), (A7 15 q5), (A7 16 q5), (A7 17 q5), (A7 18 q5), (A7 19 q5)]), (.agg [(A7 3 q8), (A7 4 q8), (A7 5 q8), (A7 6 q8), (A7 7 q8), (A7 8 q8), (A7 9 q8), (A7 10 q8), (A7 11 q8), (A7 12 q8), (A7 13 q8), (A7 14 q8), (A7 15 q8), (A7 16 q8), (A7 17 q8), (A7 18 q8), (A7 19 q8), (A7 20 q8), (A7 21 q8), (A7 22 q8)])])])], s8)) := D9 [5]
theorem S_ : (run cfg).r Ms [(.undef, (.ptr i 0)), (a, .val), (b, .val), (c, .val)] s = Mt (run cfg) i a b c s := Dl (s := Fy) Tryz.func141
def Si := eR Tryz.f142 Cq FF R [] (F5 Tryz.f142 [(pt i), (a, .val), (b, .val), (c, .val)] s)
def CX := hR Tryz.f142 Cq FF R (pb 122) (ms 95 [(3, a), (11, b), (35, c), (36, d), (37, e)] [(0, (.ptr i 0)), (11, .own)] [(5, bx f 16), (6, bx g 3), (8, bv [h, o, p, q, r, t, u, v, w, x, y, z, A, B, C, D, E, F, G, H, I, J, K]), (9, bx L 3), (10, bx M 3)] s)
def Bz := hR Tryz.f142 Cq FF R (pb 1002746) (ms 95 [(3, a), (11, b), (12, c), (16, d), (35, e), (36, f), (37, g), (60, h), (61, o), (62, p)] [(0, (.ptr i 0)), (11, .own), (16, .own)] [(5, bx q 16), (6, bx r 3), (8, bv [t, u, v, w, x, y, z, A, B, C, D, E, F, G, H, I, J, K, L, M, N, O, P]), (9, bx Q 3), (10, bx S 3)] s)
theorem Qe : Si R i a b c s =
 (og (C9 16 a) <| og (C9 3 b) <| ob (E8 3 (A7 0 b) (iI 0)) fun d1 => ob (E8 3 (A7 0 b) (iI 1)) fun d2 => oc (R.r O0 [(pt i), ((L8 a), .val), ((H6 b), .val), ((iI 0), .val), (c, .val), ((H6 d1), .val)] s) fun q3 s3 => og (C9 20 q3) <| ob (dLen (A7 14 a)) fun d4 => CX R i c (.list 20 [q3]) (A7 14 a) d4 (iI 0) a b (iI 0) (iI 0) (.list 3 []) (iI 0) (iI 0) (iI 0) (.str ⟨#[]⟩) (.str ⟨#[]⟩) (iI 0) (.str ⟨#[]⟩) (iI 0) (iI 0) (.bool false) (.list 1 []) (iI 0) (iI 0) (.list 3 []) (iI 0) (iI 0) (.list 3 []) (.list 3 []) (.list 7 []) (.list 20 []) d1 d2 s3) := D9 []
theorem CB : CX R i a b c d e f g h o p q r t u v w x y z A B C D E F G H I J K L M s =
 (ob (A8 .lss e d) fun d1 => D6 d1 (ob (E8 7 c e) fun d2 => oc (R.r Al [(pt i)] s) fun q3 s3 => ob (O9 .not q3) fun d4 => D6 d4 (some ([zA4], s3)) (ob (R.p iZ [(Gb d2), (H6 L)]) fun d5 => ob (O4 0 d5) fun d6 => ob (O4 1 d5) fun d7 => ob (A8 .neq d7 (iI 0)) fun d8 => D6 d8 (oc (R.r Ac [(pt i), (d7, .val)] s3) fun q9 s9 => some ([zA4], s9)) (oc (R.r CV [(a, .val), ((.list 5 []), .val)] s3) fun q10 s10 => ob (dLen d6) fun V7 => Bz R i a b e q10 c d e d6 V7 (iI 0) f g h o p q r t u v w x y z A B C D E F G H I J K L M s10))) (og (I7 (A7 14 f)) <| some ([(.agg [(A7 0 M), (A7 1 M), (A7 2 M), (iI 14), (A7 1 f), (A7 2 f), (.str ⟨#[]⟩), (.str ⟨#[]⟩), (iI 0), (.str ⟨#[]⟩), (iI 0), (iI 0), (.bool false), (.list 1 []), (iI 0), (iI 0), (.list 3 []), (iI 0), (iI 0), (.list 3 []), (.list 3 []), (A7 14 f), b])], s))) := H5 []
theorem GD : Bz R i a b c d e f g h o p q r t u v w x y z A B C D E F G H I J K L M N O P Q S s =
 (ob (A8 .lss p o) fun d1 => D6 d1 (ob (E8 4 h p) fun d2 => og (I7 (A7 0 d2)) <| ob (R8 5 d (.list 5 [(.agg [(A7 0 d2), (A7 1 d2), (A7 2 d2), (A7 3 d2), (.list 1 [])])])) fun d3 => ob (A8 .add p (iI 1)) fun d4 => Bz R i a b c d3 e f g h o d4 q r t u v w x y z A B C D E F G H I J K L M N O P Q S s) (ob (A8 .add c (iI 1)) fun d5 => oc (R.r O0 [(pt i), ((L8 q), .val), ((H6 r), .val), (d5, .val), (d, .val), ((H6 S), .val)] s) fun q6 s6 => og (C9 20 q6) <| ob (R8 20 b (.list 20 [q6])) fun d7 => ob (A8 .add g (iI 1)) fun d8 => CX R i a d7 e f d8 q r t u v w x y z A B C D E F G H I J K L M N O P Q S s6)) := H5 []
theorem Pq : (run cfg).r Jr [(.undef, (.ptr i 0)), (a, .val), (b, .val), (c, .val)] s = Si (run cfg) i a b c s := Dl (s := Cq) Tryz.func142
def A0k := eP Tryz.f143 cO R [] (F5 Tryz.f143 [(a, .val)] [])
def O_ := eP Tryz.f143 cO R (pb 430) (ms 28 [] [] [(1, bx a 16)] [])
theorem vY : A0k R a =
 (og (C9 16 a) <| ob (A8 .eql (A7 0 a) (iI 1)) fun d1 => D6 d1 (some (.bool true)) (ob (A8 .eql (A7 0 a) (iI 2)) fun d2 => D6 d2 (some (.bool true)) (ob (A8 .eql (A7 0 a) (iI 3)) fun d3 => D6 d3 (some (.bool true)) (ob (A8 .eql (A7 0 a) (iI 4)) fun d4 => D6 d4 (some (.bool true)) (ob (A8 .eql (A7 0 a) (iI 5)) fun d5 => D6 d5 (some (.bool true)) (ob (A8 .eql (A7 0 a) (iI 7)) fun d6 => D6 d6 (some (.bool true)) (ob (A8 .eql (A7 0 a) (iI 9)) fun d7 => D6 d7 (some (.bool true)) (ob (A8 .eql (A7 0 a) (iI 6)) fun d8 => D6 d8 (O_ R a) (ob (A8 .eql (A7 0 a) (iI 8)) fun d9 => D6 d9 (O_ R a) (some (.bool false))))))))))) := D9 [12]
theorem fq : O_ R a =
 (ob (E8 16 (A7 15 a) (iI 0)) fun d1 => ob (R.p QR [(L8 d1)]) fun d2 => I5 d2 (ob (E8 16 (A7 15 a) (iI 1)) fun d3 => ob (R.p QR [(L8 d3)]) fun d4 => some d4) (some (.bool false)) none) := D9 [12]
theorem rZ : (run cfg).p QR [a] = A0k (run cfg) a := P9 Tryz.func143
def A2m := eP Tryz.f144 A1i R [] (F5 Tryz.f144 [(a, .val), (b, .val)] [])
theorem A0S : A2m R a b =
 (og (C9 3 a) <| og (C9 3 b) <| ob (dLen (A7 2 a)) fun d1 => ob (A8 .eql d1 (iI 0)) fun d2 => I5 d2 (ob (A8 .eql (A7 0 a) (A7 0 b)) fun d3 => I5 d3 (ob (A8 .eql (A7 1 a) (A7 1 b)) fun d4 => some d4) (some (.bool false)) none) (some (.bool false)) none) := D9 []
theorem ww : (run cfg).p nJ [a, b] = A2m (run cfg) a b := P9 Tryz.func144
def A2n := eP Tryz.f145 A1j R [] (F5 Tryz.f145 [(a, .val), (b, .val)] [])
theorem A0T : A2n R a b =
 (og (C9 3 a) <| og (C9 3 b) <| ob (dLen (A7 2 a)) fun d1 => ob (A8 .gtr d1 (iI 0)) fun d2 => I5 d2 (ob (A8 .eql (A7 0 a) (A7 0 b)) fun d3 => some d3) (some (.bool false)) none) := D9 []
theorem wy : (run cfg).p nK [a, b] = A2n (run cfg) a b := P9 Tryz.func145
def A0f := eP Tryz.f146 xM R [] (F5 Tryz.f146 [(a, .val)] [])
theorem vT : A0f R a =
 (ob (A8 .geq a (.int .u8 48)) fun d1 => I5 d1 (ob (A8 .leq a (.int .u8 57)) fun d2 => some d2) (some (.bool false)) none) := D9 []
theorem rU : (run cfg).p ic [a] = A0f (run cfg) a := P9 Tryz.func146
def A2w := eP Tryz.f147 A1o R [] (F5 Tryz.f147 [(a, .val)] [])
theorem A01 : A2w R a =
 (ob (A8 .eql a (.str ⟨#[108, 101, 116]⟩)) fun d1 => D6 d1 (some (.bool true)) (ob (A8 .eql a (.str ⟨#[114, 101, 99]⟩)) fun d2 => D6 d2 (some (.bool true)) (ob (A8 .eql a (.str ⟨#[105, 110]⟩)) fun d3 => D6 d3 (some (.bool true)) (ob (A8 .eql a (.str ⟨#[102, 117, 110]⟩)) fun d4 => D6 d4 (some (.bool true)) (ob (A8 .eql a (.str ⟨#[105, 102]⟩)) fun d5 => D6 d5 (some (.bool true)) (ob (A8 .eql a (.str ⟨#[116, 104, 101, 110]⟩)) fun d6 => D6 d6 (some (.bool true)) (ob (A8 .eql a (.str ⟨#[101, 108, 115, 101]⟩)) fun d7 => D6 d7 (some (.bool true)) (ob (A8 .eql a (.str ⟨#[109, 97, 116, 99, 104]⟩)) fun d8 => D6 d8 (some (.bool true)) (ob (A8 .eql a (.str ⟨#[119, 105, 116, 104]⟩)) fun d9 => D6 d9 (some (.bool true)) (ob (A8 .eql a (.str ⟨#[101, 110, 100]⟩)) fun U2 => D6 U2 (some (.bool true)) (ob (A8 .eql a (.str ⟨#[116, 114, 117, 101]⟩)) fun V7 => D6 V7 (some (.bool true)) (ob (A8 .eql a (.str ⟨#[102, 97, 108, 115, 101]⟩)) fun Z7 => D6 Z7 (some (.bool true)) (ob (A8 .eql a (.str ⟨#[105, 110, 116]⟩)) fun Ci => D6 Ci (some (.bool true)) (ob (A8 .eql a (.str ⟨#[98, 111, 111, 108]⟩)) fun ET => D6 ET (some (.bool true)) (ob (A8 .eql a (.str ⟨#[115, 116, 114, 105, 110, 103]⟩)) fun GK =>
 D6 GK (some (.bool true)) (ob (A8 .eql a (.str ⟨#[117, 110, 105, 116]⟩)) fun d16 => D6 d16 (some (.bool true)) (ob (A8 .eql a (.str ⟨#[108, 105, 115, 116]⟩)) fun d17 => D6 d17 (some (.bool true)) (some (.bool false))))))))))))))))))) := D9 []
theorem xG : (run cfg).p nO [a] = A2w (run cfg) a := P9 Tryz.func147
def uk := eP Tryz.f148 tH R [] (F5 Tryz.f148 [(a, .val)] [])
theorem qy : uk R a =
 (ob (A8 .geq a (.int .u8 97)) fun d1 => I5 d1 (ob (A8 .leq a (.int .u8 122)) fun d2 => I5 d2 (some (.bool true)) (ob (A8 .geq a (.int .u8 65)) fun d3 => I5 d3 (ob (A8 .leq a (.int .u8 90)) fun d4 => I5 d4 (some (.bool true)) (ob (A8 .geq a (.int .u8 48)) fun d5 => I5 d5 (ob (A8 .leq a (.int .u8 57)) fun d6 => I5 d6 (some (.bool true)) (ob (A8 .eql a (.int .u8 95)) fun d7 => I5 d7 (some (.bool true)) (ob (A8 .eql a (.int .u8 39)) fun d8 => some d8) none) none) (ob (A8 .eql a (.int .u8 95)) fun d9 => I5 d9 (some (.bool true)) (ob (A8 .eql a (.int .u8 39)) fun U2 => some U2) none) none) none) (ob (A8 .geq a (.int .u8 48)) fun V7 => I5 V7 (ob (A8 .leq a (.int .u8 57)) fun Z7 => I5 Z7 (some (.bool true)) (ob (A8 .eql a (.int .u8 95)) fun Ci => I5 Ci (some (.bool true)) (ob (A8 .eql a (.int .u8 39)) fun ET => some ET) none) none) (ob (A8 .eql a (.int .u8 95)) fun GK => I5 GK (some (.bool true)) (ob (A8 .eql a (.int .u8 39)) fun d16 => some d16) none) none) none) none) (ob (A8 .geq a (.int .u8 65)) fun d17 => I5 d17 (ob (A8 .leq a (.int .u8 90)) fun d18 => I5 d18 (some (.bool true)) (ob (A8 .geq a (.int .u8 48)) fun d19 =>
 I5 d19 (ob (A8 .leq a (.int .u8 57)) fun d20 => I5 d20 (some (.bool true)) (ob (A8 .eql a (.int .u8 95)) fun d21 => I5 d21 (some (.bool true)) (ob (A8 .eql a (.int .u8 39)) fun d22 => some d22) none) none) (ob (A8 .eql a (.int .u8 95)) fun d23 => I5 d23 (some (.bool true)) (ob (A8 .eql a (.int .u8 39)) fun d24 => some d24) none) none) none) (ob (A8 .geq a (.int .u8 48)) fun d25 => I5 d25 (ob (A8 .leq a (.int .u8 57)) fun d26 => I5 d26 (some (.bool true)) (ob (A8 .eql a (.int .u8 95)) fun d27 => I5 d27 (some (.bool true)) (ob (A8 .eql a (.int .u8 39)) fun d28 => some d28) none) none) (ob (A8 .eql a (.int .u8 95)) fun d29 => I5 d29 (some (.bool true)) (ob (A8 .eql a (.int .u8 39)) fun d30 => some d30) none) none) none) none) := D9 []
theorem lv : (run cfg).p aU [a] = uk (run cfg) a := P9 Tryz.func148
end
end Go.Su

/-
 Equations of the program's functions: by program.
-/
namespace Go.Su
noncomputable section
open Go.Proofs
variable (R : N7) (i j k l m n : Nat) (a b c d e f g h o p q r t u v w x y z A B C D E F G H I J K L M N O P Q S T U V W X Y Z a1 a2 a3 a4 a5 a6 a7 a8 a9 ai VZ a12 a13 a14 Yv a16 a17 a18 a19 a20 a21 a22 a23 a24 a25 a26 a27 a28 a29 a30 a31 a32 a33 a34 a35 a36 a37 a38 a39 a40 a41 a42 a43 a44 a45 a46 a47 a48 a49 a50 a51 a52 a53 a54 a55 a56 a57 a58 a59 : DV) (s : List D7)
def ui := eP Tryz.f149 tC R [] (F5 Tryz.f149 [(a, .val)] [])
theorem qp : ui R a =
 (og (C9 3 a) <| ob (R.p MF [(H6 a), (iI 6)]) fun d1 => some d1) := D9 []
theorem lq : (run cfg).p Na [a] = ui (run cfg) a := P9 Tryz.func149
def qB := eP Tryz.f151 Wd R [] (F5 Tryz.f151 [(a, .val)] [])
def j6 := eP Tryz.f151 Wd R (pb 15) (ms 83 [(4, a)] [] [(1, bx b 7), (3, bv [c, d, e, f, g, h, o])] [])
set_option maxRecDepth 100000 in
theorem kw : qB R a =
 (og (C9 7 a) <| og (I7 (A7 0 a)) <| og (I7 (A7 6 a)) <| ob (A8 .eql (A7 0 a) (iI 1)) fun d1 => D6 d1 (j6 R (iI 0) a (A7 0 a) (A7 1 a) (A7 2 a) (.str ⟨#[]⟩) (iI 0) (.str ⟨#[]⟩) (A7 6 a)) (ob (A8 .eql (A7 0 a) (iI 6)) fun d2 => D6 d2 (j6 R (iI 0) a (A7 0 a) (A7 1 a) (A7 2 a) (.str ⟨#[]⟩) (iI 0) (.str ⟨#[]⟩) (A7 6 a)) (ob (A8 .eql (A7 0 a) (iI 8)) fun d3 => D6 d3 (j6 R (iI 0) a (A7 0 a) (A7 1 a) (A7 2 a) (.str ⟨#[]⟩) (iI 0) (.str ⟨#[]⟩) (A7 6 a)) (ob (A8 .eql (A7 0 a) (iI 2)) fun d4 => D6 d4 (og (I7 (A7 3 a)) <| ob (R.p QV [(A7 3 a)]) fun d5 => ob (O9 .not d5) fun d6 => D6 d6 (some (.bool false)) (j6 R (iI 0) a (A7 0 a) (A7 1 a) (A7 2 a) (A7 3 a) (iI 0) (.str ⟨#[]⟩) (A7 6 a))) (ob (A8 .eql (A7 0 a) (iI 3)) fun d7 => D6 d7 (og (I7 (A7 4 a)) <| j6 R (iI 0) a (A7 0 a) (A7 1 a) (A7 2 a) (.str ⟨#[]⟩) (A7 4 a) (.str ⟨#[]⟩) (A7 6 a)) (ob (A8 .eql (A7 0 a) (iI 4)) fun d8 =>
 D6 d8 (og (I7 (A7 4 a)) <| ob (A8 .neq (A7 4 a) (iI 0)) fun d9 => I5 d9 (ob (A8 .neq (A7 4 a) (iI 1)) fun U2 => D6 U2 (some (.bool false)) (j6 R (iI 0) a (A7 0 a) (A7 1 a) (A7 2 a) (.str ⟨#[]⟩) (A7 4 a) (.str ⟨#[]⟩) (A7 6 a))) (j6 R (iI 0) a (A7 0 a) (A7 1 a) (A7 2 a) (.str ⟨#[]⟩) (A7 4 a) (.str ⟨#[]⟩) (A7 6 a)) none) (ob (A8 .eql (A7 0 a) (iI 5)) fun V7 => D6 V7 (og (I7 (A7 5 a)) <| ob (Dr (A7 5 a)) fun Z7 => ob (A8 .gtr Z7 (iI 200)) fun Ci => D6 Ci (some (.bool false)) (j6 R (iI 0) a (A7 0 a) (A7 1 a) (A7 2 a) (.str ⟨#[]⟩) (iI 0) (A7 5 a) (A7 6 a))) (ob (A8 .eql (A7 0 a) (iI 7)) fun ET => D6 ET (j6 R (iI 2) a (A7 0 a) (A7 1 a) (A7 2 a) (.str ⟨#[]⟩) (iI 0) (.str ⟨#[]⟩) (A7 6 a)) (ob (A8 .eql (A7 0 a) (iI 9)) fun GK => D6 GK (j6 R (iI 2) a (A7 0 a) (A7 1 a) (A7 2 a) (.str ⟨#[]⟩) (iI 0) (.str ⟨#[]⟩) (A7 6 a)) (some (.bool false))))))))))) := D9 [24]
set_option maxRecDepth 100000 in
theorem ZA : j6 R a b c d e f g h o =
 (ob (dLen (A7 6 b)) fun d1 => ob (A8 .eql d1 a) fun d2 => I5 d2 (ob (A8 .eql f (A7 3 b)) fun d3 => I5 d3 (ob (A8 .eql g (A7 4 b)) fun d4 => I5 d4 (ob (A8 .eql h (A7 5 b)) fun d5 => some d5) (some (.bool false)) none) (some (.bool false)) none) (some (.bool false)) none) := D9 [24]
theorem gU : (run cfg).p YR [a] = qB (run cfg) a := P9 Tryz.func151
def A0w := eP Tryz.f152 xX R [] (F5 Tryz.f152 [(a, .val)] [])
theorem wI : A0w R a =
 (ob (A8 .eql a (iI 1)) fun d1 => D6 d1 (some (iI 0)) (ob (A8 .eql a (iI 2)) fun d2 => D6 d2 (some (iI 0)) (ob (A8 .eql a (iI 3)) fun d3 => D6 d3 (some (iI 0)) (ob (A8 .eql a (iI 4)) fun d4 => D6 d4 (some (iI 0)) (ob (A8 .eql a (iI 5)) fun d5 => D6 d5 (some (iI 0)) (ob (A8 .eql a (iI 6)) fun d6 => D6 d6 (some (iI 0)) (ob (A8 .eql a (iI 8)) fun d7 => D6 d7 (some (iI 1)) (ob (A8 .eql a (iI 7)) fun d8 => D6 d8 (some (iI 2)) (ob (A8 .eql a (iI 9)) fun d9 => D6 d9 (some (iI 2)) (some (.int .i64 (-1)))))))))))) := D9 []
theorem sN : (run cfg).p iq [a] = A0w (run cfg) a := P9 Tryz.func152
def ug := eP Tryz.f153 su R [] (F5 Tryz.f153 [(a, .val)] [])
theorem qf : ug R a =
 (og (C9 16 a) <| ob (R.p TS [(L8 a)]) fun d1 => ob (A8 .eql d1 (iI 0)) fun d2 => I5 d2 (ob (R.p NZ [(L8 a)]) fun d3 => some d3) (some (.bool false)) none) := D9 []
theorem lZ : (run cfg).p aT [a] = ug (run cfg) a := P9 Tryz.func153
def Pi := eP Tryz.f154 HZ R [] (F5 Tryz.f154 [(a, .val), (b, .val)] [])
def Db := hP Tryz.f154 HZ R (pb 26) (ms 19 [(0, a), (1, b), (7, c), (8, d)] [] [] [])
theorem N_ : Pi R a b =
 (ob (dLen a) fun d1 => Db R a b d1 (iI 0)) := D9 []
theorem FP : Db R a b c d =
 (ob (A8 .lss d c) fun d1 => D6 d1 (ob (E8 1 a d) fun d2 => og (M9 d2) <| ob (A8 .eql b d2) fun d3 => D6 d3 (some d) (ob (A8 .add d (iI 1)) fun d4 => Db R a b c d4)) (some (.int .i64 (-1)))) := H5 []
theorem NS : (run cfg).p IB [a, b] = Pi (run cfg) a b := P9 Tryz.func154
def qC := eP Tryz.f155 We R [] (F5 Tryz.f155 [(a, .val), (b, .val)] [])
def Gw := hP Tryz.f155 We R (pb 58) (ms 23 [(1, a), (12, b), (13, c), (14, d)] [] [] [])
theorem lF : qC R a b =
 (og (C9 3 a) <| ob (A8 .eql (A7 0 a) b) fun d1 => D6 d1 (some (.bool false)) (ob (dLen (A7 2 a)) fun d2 => Gw R b (A7 2 a) d2 (iI 0))) := D9 []
theorem QH : Gw R a b c d =
 (ob (A8 .lss d c) fun d1 => D6 d1 (ob (E8 3 b d) fun d2 => ob (R.p MF [(H6 d2), a]) fun d3 => ob (O9 .not d3) fun d4 => D6 d4 (some (.bool false)) (ob (A8 .add d (iI 1)) fun d5 => Gw R a b c d5)) (some (.bool true))) := H5 []
theorem gV : (run cfg).p MF [a, b] = qC (run cfg) a b := P9 Tryz.func155
def A2v (R : N7) (x0 : DV) (x1 : Nat) (x2 : DV) (sg : List D7) : Option (List DV × List D7) := eR Tryz.f156 OX XU R [] (F5 Tryz.f156 [(x0, .val), (.undef, (.map x1)), (x2, .own)] sg)
def Ng := eR Tryz.f156 OX XU R (pb 7) (ms 40 [(2, a)] [(1, (.map i)), (2, .own)] [(3, bx b 3)] s)
def RX := hR Tryz.f156 OX XU R (pb 58) (ms 40 [(2, a), (28, b), (29, c), (30, d)] [(1, (.map i)), (2, .own)] [] s)
theorem XO (R : N7) (x0 : DV) (x1 : Nat) (x2 : DV) (sg : List D7) : A2v R x0 x1 x2 sg =
 (og (C9 3 x0) <| ob (A8 .eql (A7 0 x0) (iI 6)) fun d1 => D6 d1 (og (isKey false (A7 1 x0) && true) <| ob (p9 sg x1) fun m2 => og (m2.1 == false) <| ob (A8 .eql ((Y7 m2.2 (A7 1 x0)).getD (iI 0)) (iI 0)) fun d3 => D6 d3 (og (I7 (A7 1 x0)) <| ob (R8 1 x2 (.list 1 [(A7 1 x0)])) fun d4 => og (isKey false (A7 1 x0) && true) <| ob (p9 sg x1) fun m5 => og (m5.1 == false) <| ob (A8 .add ((Y7 m5.2 (A7 1 x0)).getD (iI 0)) (iI 1)) fun d6 => og (isKey false (A7 1 x0) && true && true) <| ob (p9 sg x1) fun m7 => og (m7.1 == false) <| Ng R x1 d4 x0 (sg.set x1 (.map false (Cm m7.2 (A7 1 x0) d6)))) (og (isKey false (A7 1 x0) && true) <| ob (p9 sg x1) fun m8 => og (m8.1 == false) <| ob (A8 .add ((Y7 m8.2 (A7 1 x0)).getD (iI 0)) (iI 1)) fun d9 => og (isKey false (A7 1 x0) && true && true) <| ob (p9 sg x1) fun m10 => og (m10.1 == false) <| Ng R x1 x2 x0 (sg.set x1 (.map false (Cm m10.2 (A7 1 x0) d9))))) (Ng R x1 x2 x0 sg)) := D9 [5]
theorem qx : Ng R i a b s =
 (ob (dLen (A7 2 b)) fun d1 => RX R i a (A7 2 b) d1 (iI 0) s) := D9 [5]
theorem WO : RX R i a b c d s =
 (ob (A8 .lss d c) fun d1 => D6 d1 (ob (E8 3 b d) fun d2 => oc (R.r ZX [((H6 d2), .val), (.undef, (.map i)), (a, .own)] s) fun q3 s3 => ob (A8 .add d (iI 1)) fun d4 => RX R i q3 b c d4 s3) (some ([a], s))) := H5 [5]
theorem Ul (x0 : DV) (x1 : Nat) (x2 : DV) (sg : List D7) : (run cfg).r ZX [(x0, .val), (.undef, (.map x1)), (x2, .own)] sg = A2v (run cfg) x0 x1 x2 sg := Dl (s := OX) Tryz.func156
def jw := eP Tryz.f157 Um R [] (F5 Tryz.f157 [(a, .val), (b, .val)] [])
def Jd := hP Tryz.f157 Um R (pb 58) (ms 49 [(33, a), (34, b), (35, c)] [] [(3, bx d 3)] [])
theorem fU : jw R a b =
 (og (C9 3 a) <| og (C9 3 b) <| ob (A8 .eql (A7 0 a) (iI 5)) fun d1 => D6 d1 (ob (R.p Na [(H6 b)]) fun d2 => some d2) (ob (A8 .eql (A7 0 b) (iI 5)) fun d3 => D6 d3 (ob (R.p Na [(H6 a)]) fun d4 => some d4) (ob (A8 .neq (A7 0 a) (A7 0 b)) fun d5 => I5 d5 (some (.bool false)) (ob (A8 .neq (A7 1 a) (A7 1 b)) fun d6 => D6 d6 (some (.bool false)) (ob (dLen (A7 2 a)) fun d7 => Jd R (A7 2 a) d7 (iI 0) b)) none))) := D9 []
theorem Np : Jd R a b c d =
 (ob (A8 .lss c b) fun d1 => D6 d1 (ob (E8 3 a c) fun d2 => ob (E8 3 (A7 2 d) c) fun d3 => ob (R.p Og [(H6 d2), (H6 d3)]) fun d4 => ob (O9 .not d4) fun d5 => D6 d5 (some (.bool false)) (ob (A8 .add c (iI 1)) fun d6 => Jd R a b d6 d)) (some (.bool true))) := H5 []
theorem bR : (run cfg).p Og [a, b] = jw (run cfg) a b := P9 Tryz.func157
def A0c := eP Tryz.f158 xK R [] (F5 Tryz.f158 [(a, .val), (b, .val)] [])
theorem vQ : A0c R a b =
 (og (C9 7 a) <| og (C9 3 b) <| ob (R.p M_ [(Gb a)]) fun d1 => ob (A8 .neq d1 (iI 0)) fun d2 => I5 d2 (some (.I6 [(.list 4 []), (iI 1)])) (ob (R.p E_ [(H6 b)]) fun d3 => ob (A8 .neq d3 (iI 0)) fun d4 => D6 d4 (some (.I6 [(.list 4 []), (iI 1)])) (ob (R.r QN [((Gb a), .val), ((H6 b), .val), ((.list 4 []), .own)] []) fun q5 => ob (O4 0 (.I6 q5.1)) fun d6 => ob (O4 1 (.I6 q5.1)) fun d7 => ob (O9 .not d7) fun d8 => D6 d8 (some (.I6 [(.list 4 []), (iI 4)])) (some (.I6 [d6, (iI 0)])))) none) := D9 []
theorem rR : (run cfg).p iZ [a, b] = A0c (run cfg) a b := P9 Tryz.func158
def uh := eP Tryz.f161 Yk R [] (F5 Tryz.f161 [(a, .val)] [])
def NJ := eP Tryz.f161 Yk R (pb 430) (ms 28 [] [] [(1, bx a 16)] [])
theorem qo : uh R a =
 (og (C9 16 a) <| ob (A8 .eql (A7 0 a) (iI 1)) fun d1 => D6 d1 (some (.bool true)) (ob (A8 .eql (A7 0 a) (iI 2)) fun d2 => D6 d2 (some (.bool true)) (ob (A8 .eql (A7 0 a) (iI 3)) fun d3 => D6 d3 (some (.bool true)) (ob (A8 .eql (A7 0 a) (iI 4)) fun d4 => D6 d4 (some (.bool true)) (ob (A8 .eql (A7 0 a) (iI 5)) fun d5 => D6 d5 (some (.bool true)) (ob (A8 .eql (A7 0 a) (iI 7)) fun d6 => D6 d6 (some (.bool true)) (ob (A8 .eql (A7 0 a) (iI 9)) fun d7 => D6 d7 (some (.bool true)) (ob (A8 .eql (A7 0 a) (iI 6)) fun d8 => D6 d8 (NJ R a) (ob (A8 .eql (A7 0 a) (iI 8)) fun d9 => D6 d9 (NJ R a) (some (.bool false))))))))))) := D9 [12]
theorem bP : NJ R a =
 (ob (E8 16 (A7 15 a) (iI 0)) fun d1 => ob (R.p NZ [(L8 d1)]) fun d2 => I5 d2 (ob (E8 16 (A7 15 a) (iI 1)) fun d3 => ob (R.p NZ [(L8 d3)]) fun d4 => some d4) (some (.bool false)) none) := D9 [12]
theorem lh : (run cfg).p NZ [a] = uh (run cfg) a := P9 Tryz.func161
def A0d := eR Tryz.f162 MU Uu R [] (F5 Tryz.f162 [(a, .val), (b, .val), (c, .own)] s)
def KC := eR Tryz.f162 MU Uu R (pb 15) (ms 73 [(2, a), (8, b)] [(2, .own)] [(3, bx c 7)] s)
def Ie := hR Tryz.f162 MU Uu R (pb 122) (ms 73 [(2, a), (8, b), (52, c), (53, d), (54, e)] [(2, .own)] [] s)
theorem Cb : A0d R a b c s =
 (og (C9 7 a) <| og (C9 3 b) <| ob (A8 .eql (A7 0 a) (iI 1)) fun d1 => D6 d1 (some ([c, (.bool true)], s)) (ob (A8 .eql (A7 0 a) (iI 2)) fun d2 => D6 d2 (og (I7 (A7 3 a)) <| ob (R8 4 c (.list 4 [(.agg [(A7 3 a), (A7 0 b), (A7 1 b), (A7 2 b)])])) fun d3 => some ([d3, (.bool true)], s)) (ob (A8 .eql (A7 0 a) (iI 7)) fun d4 => D6 d4 (ob (A8 .neq (A7 0 b) (iI 7)) fun d5 => D6 d5 (some ([(.list 4 []), (.bool false)], s)) (KC R c (A7 2 b) a s)) (ob (A8 .eql (A7 0 a) (iI 9)) fun d6 => D6 d6 (ob (A8 .neq (A7 0 b) (iI 8)) fun d7 => D6 d7 (some ([(.list 4 []), (.bool false)], s)) (ob (E8 3 (A7 2 b) (iI 0)) fun d8 => KC R c (.list 3 [(H6 d8), (H6 b)]) a s)) (ob (R.p ib [(A7 0 a)]) fun d9 => ob (A8 .eql (A7 0 b) d9) fun U2 => some ([c, U2], s)))))) := D9 [16]
theorem fZ : KC R a b c s =
 (ob (dLen (A7 6 c)) fun d1 => Ie R a b (A7 6 c) d1 (iI 0) s) := D9 [16]
theorem G_ : Ie R a b c d e s =
 (ob (A8 .lss e d) fun d1 => D6 d1 (ob (E8 7 c e) fun d2 => ob (E8 3 b e) fun d3 => ob (R.r QN [((Gb d2), .val), ((H6 d3), .val), (a, .own)] s) fun q4 => ob (O4 0 (.I6 q4.1)) fun d5 => ob (O4 1 (.I6 q4.1)) fun d6 => ob (O9 .not d6) fun d7 => D6 d7 (some ([(.list 4 []), (.bool false)], q4.2)) (ob (A8 .add e (iI 1)) fun d8 => Ie R d5 b c d d8 q4.2)) (some ([a, (.bool true)], s))) := H5 [16]
theorem Be : (run cfg).r QN [(a, .val), (b, .val), (c, .own)] s = A0d (run cfg) a b c s := Dl (s := MU) Tryz.func162
def A0e := eP Tryz.f163 xL R [] (F5 Tryz.f163 [(a, .val)] [])
theorem vR : A0e R a =
 (ob (A8 .eql a (iI 3)) fun d1 => D6 d1 (some (iI 1)) (ob (A8 .eql a (iI 4)) fun d2 => D6 d2 (some (iI 2)) (ob (A8 .eql a (iI 5)) fun d3 => D6 d3 (some (iI 3)) (ob (A8 .eql a (iI 6)) fun d4 => D6 d4 (some (iI 4)) (ob (A8 .eql a (iI 8)) fun d5 => D6 d5 (some (iI 8)) (some (iI 0))))))) := D9 []
theorem rT : (run cfg).p ib [a] = A0e (run cfg) a := P9 Tryz.func163
end
end Go.Su

/-
 All equations.
-/
namespace Go.Su
end Go.Su
