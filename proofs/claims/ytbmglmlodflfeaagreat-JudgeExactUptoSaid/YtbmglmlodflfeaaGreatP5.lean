/-
  Parts of the proof, merged: G8, G9, G10, G11, T0, Q, TJ1.
-/
import Derived.Test.YtbmglmlodflfeaaGreatP3
import Derived.Test.YtbmglmlodflfeaaGreatP4
set_option linter.unusedVariables false
set_option linter.unusedSimpArgs false
/-
 Equations of the program's functions: by program.
-/
namespace Go.Su
noncomputable section
open Go.Proofs
variable (R : N7) (i j k l m n : Nat) (a b c d e f g h o p q r t u v w x y z A B C D E F G H I J K L M N O P Q S T U V W X Y Z a1 a2 a3 a4 a5 a6 a7 a8 a9 ZU Uj a12 a13 a14 Xq a16 a17 a18 a19 a20 a21 a22 a23 a24 a25 a26 a27 a28 a29 a30 a31 a32 a33 a34 a35 a36 a37 a38 a39 a40 a41 a42 a43 a44 a45 a46 a47 a48 a49 a50 a51 a52 a53 a54 a55 a56 a57 a58 a59 : DV) (s : List D7)
def CU : Option (List DV × List D7) := Ia cfg R M0 (A1l cfg R M0 I7 (BK cfg.P Tryz.f101 K9) (TC R (BK cfg.P Tryz.f101 K9))) [] (BQ (I7.pre ++ [I7.r]) .skip) (F5 Tryz.f101 [(pt i), (a, .val), (b, .val), (c, .val)] s)
def Bd : Option (List DV × List D7) := Ia cfg R M0 (A1l cfg R M0 I7 (BK cfg.P Tryz.f101 K9) (TC R (BK cfg.P Tryz.f101 K9))) (pb 15) (BQ (I7.pre ++ [I7.r]) .skip) (ms 113 [] [(0, (.ptr i 0))] [(5, bx a 16), (6, bx b 3)] s)
def AR : Option (List DV × List D7) := Yd cfg R M0 (A1l cfg R M0 I7 (BK cfg.P Tryz.f101 K9) (TC R (BK cfg.P Tryz.f101 K9))) (pb 122) (BQ (I7.pre ++ [I7.r]) .skip) (ms 113 [(48, a), (49, b), (50, c)] [(0, (.ptr i 0))] [(5, bx d 16), (6, bx e 3)] s)
def Cx : Option (List DV × List D7) := Ia cfg R M0 (A7X cfg R M0 I7 (BK cfg.P Tryz.f101 K9) (TC R (BK cfg.P Tryz.f101 K9))) [] I7.a (ms 113 [] [(0, (.ptr i 0))] [(6, bx a 3)] s)
def Cy : Option (List DV × List D7) := Ia cfg R M0 (BK cfg.P Tryz.f101 K9) [] I7.post (ms 113 [] [(0, (.ptr i 0))] [(6, bx a 3)] s)
def Kb (R : N7) (dq : FuncId × List (DV × Meta)) (t0i : Nat) (b6 : DV) (sg : List D7) : Option (List DV × List D7) := Ia cfg R M0 (TC R (BK cfg.P Tryz.f101 K9) dq) [] I7.post (ms 113 [] [(0, (.ptr t0i 0))] [(6, bx b6 3)] sg)
def Az : Option (List DV × List D7) := Yd cfg R M0 (BK cfg.P Tryz.f101 K9) (pb 10) I7.post (ms 113 [(82, a), (83, b), (84, c)] [(0, (.ptr i 0))] [] s)
def Am (R : N7) (dq : FuncId × List (DV × Meta)) (t0i : Nat) (t82 t83 t84 : DV) (sg : List D7) : Option (List DV × List D7) := Yd cfg R M0 (TC R (BK cfg.P Tryz.f101 K9) dq) (pb 10) I7.post (ms 113 [(82, t82), (83, t83), (84, t84)] [(0, (.ptr t0i 0))] [] sg)
def A_ : Option (List DV × List D7) := Yd cfg R M0 (BK cfg.P Tryz.f101 K9) (pb 5326) I7.post (ms 113 [(82, a), (83, b), (84, c), (98, d), (99, e), (100, f)] [(0, (.ptr i 0))] [] s)
def Ao (R : N7) (dq : FuncId × List (DV × Meta)) (t0i : Nat) (t82 t83 t84 t98 t99 t100 : DV) (sg : List D7) : Option (List DV × List D7) := Yd cfg R M0 (TC R (BK cfg.P Tryz.f101 K9) dq) (pb 5326) I7.post (ms 113 [(82, t82), (83, t83), (84, t84), (98, t98), (99, t99), (100, t100)] [(0, (.ptr t0i 0))] [] sg)
set_option maxRecDepth 100000 in
theorem NQ : CU R i a b c s =
 (og (D5 16 a) <| og (D5 3 b) <| og (D5 5 c) <| ob (R.p ZB [(L6 a), (.agg [(A7 0 c), (A7 1 c), (A7 2 c), (A7 3 c), (A7 4 c)])]) fun d1 => ob (N8 0 d1) fun d2 => ob (N8 1 d1) fun d3 => ob (dLen (A7 0 b)) fun d4 => ob (A8 .neq d4 d2) fun d5 => I6 d5 (some ([(iI 8)], s)) (ob (dLen (A7 2 b)) fun d6 => ob (dLen (A7 15 a)) fun d7 => ob (A8 .neq d6 d7) fun d8 => I6 d8 (some ([(iI 8)], s)) (ob (dLen (A7 1 b)) fun d9 => ob (A8 .gtr d9 (iI 0)) fun W9 => I6 W9 (ob (Q5 .not d3) fun AC => D6 AC (some ([(iI 8)], s)) (Bd R i a b s)) (Bd R i a b s) none) none) none) := D9 [4]
theorem Lm : Bd R i a b s =
 (ob (dLen (A7 1 b)) fun d1 => AR R i (A7 1 b) d1 (iI 0) a b s) := D9 [4]
theorem Ew : AR R i a b c d e s =
 (ob (A8 .lss c b) fun d1 => D6 d1 (ob (F3 1 a c) fun d2 => og (M7 d2) <| ob (M4 s i) fun c3 => ob (Jp c3 1) fun i4 => og (isKey false d2 && true) <| ob (AJ s i4) fun m5 => og (m5.1 == false) <| ob (A8 .gtr ((Z4 m5.2 d2).getD (iI 0)) (iI 0)) fun d6 => I6 d6 (some ([(iI 6)], s)) (ob (Dh 1 (A7 1 e) none (some c)) fun d7 => ob (R.p FW [d7, d2]) fun d8 => D6 d8 (some ([(iI 6)], s)) (ob (A8 .add c (iI 1)) fun d9 => AR R i a b d9 d e s)) none) (ob (A8 .eql (A7 0 d) (iI 12)) fun W9 => D6 W9 (Cx R i e s) (Cy R i e s))) := H5 [4]
theorem Kc : Cx R i a s =
 (oc (R.r Y1 [(pt i), ((A7 1 a), .val), ((iI 1), .val)] s) fun q1 s1 => Kb R (Y1, [(pt i), ((A7 1 a), .val), ((.int .i64 (-1)), .val)]) i a s1) := D9 [4]
theorem Ke : Cy R i a s =
 (ob (dLen (A7 0 a)) fun d1 => Az R i (A7 0 a) d1 (iI 0) s) := D9 [4]
theorem Jv (R : N7) (dq : FuncId × List (DV × Meta)) (t0i : Nat) (b6 : DV) (sg : List D7) : Kb R dq t0i b6 sg =
 (ob (dLen (A7 0 b6)) fun d1 => Am R dq t0i (A7 0 b6) d1 (iI 0) sg) := D9 [4]
theorem EQ : Az R i a b c s =
 (ob (A8 .lss c b) fun d1 => D6 d1 (ob (F3 3 a c) fun d2 => ob (M4 s i) fun c3 => ob (X5 c3 0) fun d4 => I6 d4 (ob (R.p SS [(H8 d2)]) fun d5 => ob (Q5 .not d5) fun d6 => D6 d6 (some ([(iI 9)], s)) (ob (R.p OE [(H8 d2)]) fun d7 => ob (dLen d7) fun d8 => A_ R i a b c d7 d8 (iI 0) s)) (ob (R.p OE [(H8 d2)]) fun d9 => ob (dLen d9) fun W9 => A_ R i a b c d9 W9 (iI 0) s) none) (some ([(iI 0)], s))) := H5 [4]
theorem EG (R : N7) (dq : FuncId × List (DV × Meta)) (t0i : Nat) (t82 t83 t84 : DV) (sg : List D7) : Am R dq t0i t82 t83 t84 sg =
 (ob (A8 .lss t84 t83) fun d1 => D6 d1 (ob (F3 3 t82 t84) fun d2 => ob (M4 sg t0i) fun c3 => ob (X5 c3 0) fun d4 => I6 d4 (ob (R.p SS [(H8 d2)]) fun d5 => ob (Q5 .not d5) fun d6 => D6 d6 (ob (R.r dq.1 dq.2 sg) fun p7 => some ([(iI 9)], p7.2)) (ob (R.p OE [(H8 d2)]) fun d8 => ob (dLen d8) fun d9 => Ao R dq t0i t82 t83 t84 d8 d9 (iI 0) sg)) (ob (R.p OE [(H8 d2)]) fun W9 => ob (dLen W9) fun AC => Ao R dq t0i t82 t83 t84 W9 AC (iI 0) sg) none) (ob (R.r dq.1 dq.2 sg) fun p12 => some ([(iI 0)], p12.2))) := H5 [4]
theorem ER : A_ R i a b c d e f s =
 (ob (A8 .lss f e) fun d1 => D6 d1 (ob (F3 1 d f) fun d2 => og (M7 d2) <| ob (M4 s i) fun c3 => ob (Jp c3 1) fun i4 => og (isKey false d2 && true) <| ob (AJ s i4) fun m5 => og (m5.1 == false) <| ob (A8 .eql ((Z4 m5.2 d2).getD (iI 0)) (iI 0)) fun d6 => D6 d6 (some ([(iI 6)], s)) (ob (A8 .add f (iI 1)) fun d7 => A_ R i a b c d e d7 s)) (ob (A8 .add c (iI 1)) fun d8 => Az R i a b d8 s)) := H5 [4]
theorem EH (R : N7) (dq : FuncId × List (DV × Meta)) (t0i : Nat) (t82 t83 t84 t98 t99 t100 : DV) (sg : List D7) : Ao R dq t0i t82 t83 t84 t98 t99 t100 sg =
 (ob (A8 .lss t100 t99) fun d1 => D6 d1 (ob (F3 1 t98 t100) fun d2 => og (M7 d2) <| ob (M4 sg t0i) fun c3 => ob (Jp c3 1) fun i4 => og (isKey false d2 && true) <| ob (AJ sg i4) fun m5 => og (m5.1 == false) <| ob (A8 .eql ((Z4 m5.2 d2).getD (iI 0)) (iI 0)) fun d6 => D6 d6 (ob (R.r dq.1 dq.2 sg) fun p7 => some ([(iI 6)], p7.2)) (ob (A8 .add t100 (iI 1)) fun d8 => Ao R dq t0i t82 t83 t84 t98 t99 d8 sg)) (ob (A8 .add t84 (iI 1)) fun d9 => Am R dq t0i t82 t83 d9 sg)) := H5 [4]
theorem Mt : (run cfg).r BF [(.undef, (.ptr i 0)), (a, .val), (b, .val), (c, .val)] s = CU (run cfg) i a b c s :=
 (B2m (C := cfg) (f := BF) (s := K9) (p := I7) (fn := Tryz.f101) (c := X7) (by kernel_rfl) rfl Tryz.func101 (by kernel_rfl)).trans ((congrArg (fun k => Ia cfg (run cfg) M0 k [] (BQ (I7.pre ++ [I7.r]) .skip) (F5 Tryz.f101 [(.undef, (.ptr i 0)), (a, .val), (b, .val), (c, .val)] s)) B0E).trans (by kernel_rfl))
theorem XQ (x0 : Nat) (x1 x2 x3 : DV) (sg : List D7) {q : List DV × List D7} (h : CU (run cfg) x0 x1 x2 x3 sg = some q) : (run cfg).r BF [(.undef, (.ptr x0 0)), (x1, .val), (x2, .val), (x3, .val)] sg = some q := (Mt x0 x1 x2 x3 sg).trans h
def Sc := eR Tryz.f102 Eu KE R [] (F5 Tryz.f102 [(pt i), (a, .val), (b, .val), (c, .val)] s)
def BH := hR Tryz.f102 Eu KE R (pb 938) (ms 51 [(10, a), (20, b), (21, c), (22, d)] [(10, .own)] [(5, bx e 16), (6, bx f 3), (8, some zb2), (9, bv [g, h, o])] s)
theorem Ro : Sc R i a b c s =
 (og (D5 16 a) <| og (D5 3 b) <| og (D5 5 c) <| ob (dLen (A7 4 c)) fun d1 => ob (A8 .gtr d1 (iI 0)) fun d2 => D6 d2 (ob (dLen (A7 4 c)) fun d3 => BH R (.list 4 []) (A7 4 c) d3 (iI 0) a b (A7 1 c) (A7 2 c) (A7 3 c) s) (og (J4 (A7 3 a)) <| og (J4 (A7 0 b)) <| some ([(.agg [(A7 1 c), (A7 2 c), (A7 3 c), (iI 1), (iI 0), (iI 0), (A7 3 a), (.str ⟨#[]⟩), (iI 0), (.str ⟨#[]⟩), (iI 0), (iI 0), (.bool false), (.list 1 []), (iI 0), (iI 0), (.list 3 []), (iI 0), (iI 0), (.list 3 []), (A7 0 b), (.list 7 []), (.list 20 [])])], s))) := D9 []
theorem Gh : BH R a b c d e f g h o s =
 (ob (A8 .lss d c) fun d1 => D6 d1 (ob (F3 1 b d) fun d2 => og (M7 d2) <| ob (F3 3 (A7 0 f) d) fun d3 => og (J4 d2) <| ob (R6 4 a (.list 4 [(.agg [d2, (A7 0 d3), (A7 1 d3), (A7 2 d3)])])) fun d4 => ob (A8 .add d (iI 1)) fun d5 => BH R d4 b c d5 e f g h o s) (ob (R.p JW [(.agg [g, h, o]), a]) fun d6 => ob (N8 0 d6) fun d7 => ob (N8 1 d6) fun d8 => og (D5 3 d7) <| og (J4 (A7 3 e)) <| og (J4 (A7 0 f)) <| some ([(.agg [(A7 0 d7), (A7 1 d7), (A7 2 d7), (iI 1), (iI 0), (iI 0), (A7 3 e), (.str ⟨#[]⟩), (iI 0), (.str ⟨#[]⟩), (iI 0), (iI 0), (.bool false), (.list 1 []), (iI 0), (iI 0), (.list 3 []), (iI 0), (iI 0), (.list 3 []), (A7 0 f), (.list 7 []), (.list 20 [])])], s))) := H5 []
theorem QH : (run cfg).r Ko [(.undef, (.ptr i 0)), (a, .val), (b, .val), (c, .val)] s = Sc (run cfg) i a b c s := Ed (s := Eu) Tryz.func102
def Uh := eR Tryz.f103 KX Tv R [] (F5 Tryz.f103 [(pt i), (a, .val), (b, .val), (c, .val), (d, .val)] s)
theorem Kz : Uh R i a b c d s =
 (og (D5 16 a) <| og (D5 3 b) <| oc (R.r AU [(pt i)] s) fun q1 s1 => ob (Q5 .not q1) fun d2 => D6 d2 (some ([zA4], s1)) (ob (F3 16 (A7 15 a) c) fun d3 => ob (F3 3 (A7 2 b) c) fun d4 => oc (R.r Fs [(pt i), ((L6 d3), .val), ((H8 d4), .val), (d, .val)] s1) fun q5 s5 => og (D5 23 q5) <| some ([(.agg [(A7 0 q5), (A7 1 q5), (A7 2 q5), (A7 3 q5), (A7 4 q5), (A7 5 q5), (A7 6 q5), (A7 7 q5), (A7 8 q5), (A7 9 q5), (A7 10 q5), (A7 11 q5), (A7 12 q5), (A7 13 q5), (A7 14 q5), (A7 15 q5), (A7 16 q5), (A7 17 q5), (A7 18 q5), (A7 19 q5), (A7 20 q5), (A7 21 q5), (A7 22 q5)])], s5))) := D9 []
theorem Jz : (run cfg).r T9 [(.undef, (.ptr i 0)), (a, .val), (b, .val), (c, .val), (d, .val)] s = Uh (run cfg) i a b c d s := Ed (s := KX) Tryz.func103
def qU := eP Tryz.f104 pU R [] (F5 Tryz.f104 [(a, .val)] [])
theorem nL : qU R a =
 (og (D5 3 a) <| some (.agg [(iI 8), (iI 0), (.list 3 [(H8 a)])])) := D9 []
theorem jA : (run cfg).p SG [a] = qU (run cfg) a := O9 Tryz.func104
def Sa := eR Tryz.f105 Er KC R [] (F5 Tryz.f105 [(pt i), (a, .val), (b, .val), (c, .val), (d, .val), (e, .val)] s)
def Cq := eR Tryz.f105 Er KC R (pb 15) (ms 44 [(3, a)] [(0, (.ptr i 0))] [(7, bx b 16), (11, bx c 3), (12, some zb0), (13, bx d 23)] s)
theorem Jw : Sa R i a b c d e s =
 (og (D5 16 a) <| og (D5 3 b) <| og (D5 3 e) <| oc (R.r T9 [(pt i), ((L6 a), .val), ((H8 b), .val), (c, .val), (d, .val)] s) fun q1 s1 => og (D5 23 q1) <| oc (R.r AU [(pt i)] s1) fun q2 s2 => I6 q2 (ob (R.p XM [(.agg [(A7 0 q1), (A7 1 q1), (A7 2 q1)]), (H8 e)]) fun d3 => ob (Q5 .not d3) fun d4 => D6 d4 (oc (R.r AL [(pt i), ((iI 4), .val)] s2) fun q5 s5 => Cq R i c a e q1 s5) (Cq R i c a e q1 s2)) (Cq R i c a e q1 s2) none) := D9 [4]
theorem Hg : Cq R i a b c d s =
 (oc (R.r AU [(pt i)] s) fun q1 s1 => ob (Q5 .not q1) fun d2 => D6 d2 (some ([zA3], s1)) (ob (F3 16 (A7 15 b) a) fun d3 => oc (R.r Fq [(pt i), ((.agg [(A7 0 d), (A7 1 d), (A7 2 d), (A7 3 d), (A7 4 d), (A7 5 d), (A7 6 d), (A7 7 d), (A7 8 d), (A7 9 d), (A7 10 d), (A7 11 d), (A7 12 d), (A7 13 d), (A7 14 d), (A7 15 d), (A7 16 d), (A7 17 d), (A7 18 d), (A7 19 d), (A7 20 d), (A7 21 d), (A7 22 d)]), .val), ((L6 d3), .val), ((H8 c), .val)] s1) fun q4 s4 => og (D5 20 q4) <| some ([(.agg [(A7 0 q4), (A7 1 q4), (A7 2 q4), (A7 3 q4), (A7 4 q4), (A7 5 q4), (A7 6 q4), (A7 7 q4), (A7 8 q4), (A7 9 q4), (A7 10 q4), (A7 11 q4), (A7 12 q4), (A7 13 q4), (A7 14 q4), (A7 15 q4), (A7 16 q4), (A7 17 q4), (A7 18 q4), (A7 19 q4)])], s4))) := D9 [4]
theorem Iq : (run cfg).r M6 [(.undef, (.ptr i 0)), (a, .val), (b, .val), (c, .val), (d, .val), (e, .val)] s = Sa (run cfg) i a b c d e s := Ed (s := Er) Tryz.func105
def xQ := eP Tryz.f106 uR R [] (F5 Tryz.f106 [(a, .val), (b, .val)] [])
theorem rQ : xQ R a b =
 (og (D5 3 a) <| ob (A8 .eql (A7 0 a) (iI 0)) fun d1 => D6 d1 (ob (F3 3 b (iI 0)) fun d2 => some (H8 d2)) (some (H8 a))) := D9 []
theorem oD : (run cfg).p L_ [a, b] = xQ (run cfg) a b := O9 Tryz.func106
def qW := eR Tryz.f107 Vq pV R [] (F5 Tryz.f107 [(a, .val), (b, .val)] s)
theorem nN : qW R a b s =
 (ob (dLen a) fun d1 => ob (dLen a) fun d2 => ob (Yt 5 a none d1 d2) fun d3 => ob (R6 5 d3 b) fun d4 => some ([d4], s)) := D9 []
theorem jC : (run cfg).r Br [(a, .val), (b, .val)] s = qW (run cfg) a b s := Ed (s := Vq) Tryz.func107
def xP := eP Tryz.f108 uQ R [] (F5 Tryz.f108 [(a, .val), (b, .val)] [])
theorem Zb : xP R a b =
 (og (D5 3 a) <| og (D5 3 b) <| some (.agg [(iI 9), (iI 0), (.list 3 [(H8 a), (H8 b)])])) := D9 []
theorem XY : (run cfg).p Lx [a, b] = xP (run cfg) a b := O9 Tryz.func108
def Sb := eR Tryz.f109 Es KD R [] (F5 Tryz.f109 [(pt i), (a, .val), (b, .val), (c, .val)] s)
def BG := eR Tryz.f109 Es KD R (pb 31) (ms 124 [(3, a)] [(0, (.ptr i 0))] [(5, bx b 16), (6, bx c 3), (8, bv [d, e, f, g, h, o, p, q, r, t, u, v, w, x, y, z, A, B, C, D, E, F, G]), (13, bv [H, I, J]), (14, bv [K, L, M])] s)
set_option maxRecDepth 100000 in
theorem Rn : Sb R i a b c s =
 (og (D5 16 a) <| og (D5 3 b) <| ob (A8 .eql (A7 0 a) (iI 10)) fun d1 => D6 d1 (oc (R.r MS [(pt i), ((L6 a), .val), ((H8 b), .val), (c, .val)] s) fun q2 s2 => og (D5 23 q2) <| some ([(.agg [(A7 0 q2), (A7 1 q2), (A7 2 q2), (A7 3 q2), (A7 4 q2), (A7 5 q2), (A7 6 q2), (A7 7 q2), (A7 8 q2), (A7 9 q2), (A7 10 q2), (A7 11 q2), (A7 12 q2), (A7 13 q2), (A7 14 q2), (A7 15 q2), (A7 16 q2), (A7 17 q2), (A7 18 q2), (A7 19 q2), (A7 20 q2), (A7 21 q2), (A7 22 q2)])], s2)) (ob (A8 .eql (A7 0 a) (iI 11)) fun d3 => D6 d3 (oc (R.r MU [(pt i), ((L6 a), .val), ((H8 b), .val), (c, .val)] s) fun q4 s4 => og (D5 23 q4) <| some ([(.agg [(A7 0 q4), (A7 1 q4), (A7 2 q4), (A7 3 q4), (A7 4 q4), (A7 5 q4), (A7 6 q4), (A7 7 q4), (A7 8 q4), (A7 9 q4), (A7 10 q4), (A7 11 q4), (A7 12 q4), (A7 13 q4), (A7 14 q4), (A7 15 q4), (A7 16 q4), (A7 17 q4), (A7 18 q4), (A7 19 q4), (A7 20 q4), (A7 21 q4), (A7 22 q4)])], s4)) (ob (A8 .eql (A7 0 a) (iI 12)) fun d5 =>
 D6 d5 (oc (R.r MV [(pt i), ((L6 a), .val), ((H8 b), .val), (c, .val)] s) fun q6 s6 => og (D5 23 q6) <| some ([(.agg [(A7 0 q6), (A7 1 q6), (A7 2 q6), (A7 3 q6), (A7 4 q6), (A7 5 q6), (A7 6 q6), (A7 7 q6), (A7 8 q6), (A7 9 q6), (A7 10 q6), (A7 11 q6), (A7 12 q6), (A7 13 q6), (A7 14 q6), (A7 15 q6), (A7 16 q6), (A7 17 q6), (A7 18 q6), (A7 19 q6), (A7 20 q6), (A7 21 q6), (A7 22 q6)])], s6)) (ob (A8 .eql (A7 0 a) (iI 13)) fun d7 => D6 d7 (ob (F3 3 (A7 0 b) (iI 0)) fun d8 => oc (R.r M6 [(pt i), ((L6 a), .val), ((H8 b), .val), ((iI 0), .val), (c, .val), ((.agg [(iI 2), (iI 0), (.list 3 [])]), .val)] s) fun q9 s9 =>
 og (D5 20 q9) <| oc (R.r M6 [(pt i), ((L6 a), .val), ((H8 b), .val), ((iI 1), .val), (c, .val), ((H8 d8), .val)] s9) fun q10 s10 => og (D5 20 q10) <| oc (R.r M6 [(pt i), ((L6 a), .val), ((H8 b), .val), ((iI 2), .val), (c, .val), ((H8 d8), .val)] s10) fun q11 s11 => og (D5 20 q11) <| some ([(.agg [(A7 0 d8), (A7 1 d8), (A7 2 d8), (iI 13), (iI 0), (iI 0), (.str ⟨#[]⟩), (.str ⟨#[]⟩), (iI 0), (.str ⟨#[]⟩), (iI 0), (iI 0), (.bool false), (.list 1 []), (iI 0), (iI 0), (.list 3 []), (iI 0), (iI 0), (.list 3 []), (.list 3 []), (.list 7 []), (.list 20 [(.agg [(A7 0 q9), (A7 1 q9), (A7 2 q9), (A7 3 q9), (A7 4 q9), (A7 5 q9), (A7 6 q9), (A7 7 q9), (A7 8 q9), (A7 9 q9), (A7 10 q9), (A7 11 q9), (A7 12 q9), (A7 13 q9), (A7 14 q9), (A7 15 q9), (A7 16 q9), (A7 17 q9), (A7 18 q9), (A7 19 q9)]), (.agg [(A7 0 q10), (A7 1 q10), (A7 2 q10), (A7 3 q10), (A7 4 q10), (A7 5 q10), (A7 6 q10), (A7 7 q10), (A7 8 q10), (A7 9 q10), (A7 10 q10), (A7 11 q10), (A7 12 q10), (A7 13 q10), (A7 14 q10), (A7 15 q10), (A7 16 q10), (A7 17 q10), (A7 18 q10), (A7 19 q10)]), (.agg [(A7 0 q11), (A7 1 q11), (A7 2 q11), (A7 3 q11), (A7 4 q11), (A7 5 q11), (A7 6 q11), (A7 7 q11), (A7 8 q11), (A7 9 q11), (A7 10 q11), (A7 11 q11), (A7 12 q11), (A7 13 q11), (A7 14 q11), (A7 15 q11), (A7 16 q11), (A7 17 q11), (A7 18 q11), (A7 19 q11)])])])], s11)) (ob (A8 .eql (A7 0 a) (iI 14)) fun Ap =>
 D6 Ap (oc (R.r JV [(pt i), ((L6 a), .val), ((H8 b), .val), (c, .val)] s) fun q13 s13 => og (D5 23 q13) <| some ([(.agg [(A7 0 q13), (A7 1 q13), (A7 2 q13), (A7 3 q13), (A7 4 q13), (A7 5 q13), (A7 6 q13), (A7 7 q13), (A7 8 q13), (A7 9 q13), (A7 10 q13), (A7 11 q13), (A7 12 q13), (A7 13 q13), (A7 14 q13), (A7 15 q13), (A7 16 q13), (A7 17 q13), (A7 18 q13), (A7 19 q13), (A7 20 q13), (A7 21 q13), (A7 22 q13)])], s13)) (ob (A8 .eql (A7 0 a) (iI 15)) fun FP => D6 FP (oc (R.r M6 [(pt i), ((L6 a), .val), ((H8 b), .val), ((iI 0), .val), (c, .val), ((.agg [(A7 8 a), (A7 9 a), (A7 10 a)]), .val)] s) fun q15 s15 =>
 og (D5 20 q15) <| some ([(.agg [(A7 8 a), (A7 9 a), (A7 10 a), (A7 0 q15), (A7 1 q15), (A7 2 q15), (A7 3 q15), (A7 4 q15), (A7 5 q15), (A7 6 q15), (A7 7 q15), (A7 8 q15), (A7 9 q15), (A7 10 q15), (A7 11 q15), (A7 12 q15), (A7 13 q15), (A7 14 q15), (A7 15 q15), (A7 16 q15), (A7 17 q15), (A7 18 q15), (A7 19 q15)])], s15)) (ob (A8 .eql (A7 7 a) (iI 5)) fun d16 => D6 d16 (BG R i c a b (iI 0) (iI 0) (.list 3 []) (iI 0) (iI 0) (iI 0) (.str ⟨#[]⟩) (.str ⟨#[]⟩) (iI 0) (.str ⟨#[]⟩) (iI 0) (iI 0) (.bool false) (.list 1 []) (iI 0) (iI 0) (.list 3 []) (iI 0) (iI 0) (.list 3 []) (.list 3 []) (.list 7 []) (.list 20 []) (iI 1) (iI 0) (.list 3 []) (iI 2) (iI 0) (.list 3 []) s) (ob (A8 .eql (A7 7 a) (iI 6)) fun d17 =>
 D6 d17 (BG R i c a b (iI 0) (iI 0) (.list 3 []) (iI 0) (iI 0) (iI 0) (.str ⟨#[]⟩) (.str ⟨#[]⟩) (iI 0) (.str ⟨#[]⟩) (iI 0) (iI 0) (.bool false) (.list 1 []) (iI 0) (iI 0) (.list 3 []) (iI 0) (iI 0) (.list 3 []) (.list 3 []) (.list 7 []) (.list 20 []) (iI 1) (iI 0) (.list 3 []) (iI 2) (iI 0) (.list 3 []) s) (ob (A8 .eql (A7 7 a) (iI 7)) fun d18 => D6 d18 (BG R i c a b (iI 0) (iI 0) (.list 3 []) (iI 0) (iI 0) (iI 0) (.str ⟨#[]⟩) (.str ⟨#[]⟩) (iI 0) (.str ⟨#[]⟩) (iI 0) (iI 0) (.bool false) (.list 1 []) (iI 0) (iI 0) (.list 3 []) (iI 0) (iI 0) (.list 3 []) (.list 3 []) (.list 7 []) (.list 20 []) (iI 3) (iI 0) (.list 3 []) (iI 2) (iI 0) (.list 3 []) s) (BG R i c a b (iI 0) (iI 0) (.list 3 []) (iI 0) (iI 0) (iI 0) (.str ⟨#[]⟩) (.str ⟨#[]⟩) (iI 0) (.str ⟨#[]⟩) (iI 0) (iI 0) (.bool false) (.list 1 []) (iI 0) (iI 0) (.list 3 []) (iI 0) (iI 0) (.list 3 []) (.list 3 []) (.list 7 []) (.list 20 []) (iI 1) (iI 0) (.list 3 []) (iI 1) (iI 0) (.list 3 []) s)))))))))) := D9 [25]
theorem NS : BG R i a b c d e f g h o p q r t u v w x y z A B C D E F G H I J K L M s =
 (oc (R.r M6 [(pt i), ((L6 b), .val), ((H8 c), .val), ((iI 0), .val), (a, .val), ((.agg [H, I, J]), .val)] s) fun q1 s1 => og (D5 20 q1) <| oc (R.r M6 [(pt i), ((L6 b), .val), ((H8 c), .val), ((iI 1), .val), (a, .val), ((.agg [H, I, J]), .val)] s1) fun q2 s2 => og (D5 20 q2) <| og (J4 (A7 7 b)) <| some ([(.agg [K, L, M, (iI 15), (A7 1 b), (A7 2 b), (.str ⟨#[]⟩), (.str ⟨#[]⟩), (iI 0), (.str ⟨#[]⟩), (A7 7 b), (iI 0), (.bool false), (.list 1 []), (iI 0), (iI 0), (.list 3 []), (iI 0), (iI 0), (.list 3 []), (.list 3 []), (.list 7 []), (.list 20 [(.agg [(A7 0 q1), (A7 1 q1), (A7 2 q1), (A7 3 q1), (A7 4 q1), (A7 5 q1), (A7 6 q1), (A7 7 q1), (A7 8 q1), (A7 9 q1), (A7 10 q1), (A7 11 q1), (A7 12 q1), (A7 13 q1), (A7 14 q1), (A7 15 q1), (A7 16 q1), (A7 17 q1), (A7 18 q1), (A7 19 q1)]), (.agg [(A7 0 q2), (A7 1 q2), (A7 2 q2), (A7 3 q2), (A7 4 q2), (A7 5 q2), (A7 6 q2), (A7 7 q2), (A7 8 q2), (A7 9 q2), (A7 10 q2), (A7 11 q2), (A7 12 q2), (A7 13 q2), (A7 14 q2), (A7 15 q2), (A7 16 q2), (A7 17 q2), (A7 18 q2), (A7 19 q2)])])])], s2)) := D9 [25]
theorem QG : (run cfg).r Kn [(.undef, (.ptr i 0)), (a, .val), (b, .val), (c, .val)] s = Sb (run cfg) i a b c s := Ed (s := Es) Tryz.func109
def A25 := eP Tryz.f110 Ya R [] (F5 Tryz.f110 [(a, .val)] [])
def fT := eP Tryz.f110 Ya R (pb 15) (ms 39 [(4, a), (5, (iI 0))] [] [(1, bx b 16)] [])
def WE := eP Tryz.f110 Ya R (pb 31) (ms 39 [(4, a), (5, b)] [] [(1, bx c 16)] [])
theorem A1v : A25 R a =
 (og (D5 16 a) <| ob (R.p Fu [(.agg [(A7 8 a), (A7 9 a), (A7 10 a)])]) fun d1 => D6 d1 (fT R (iI 1) a) (fT R (iI 0) a)) := D9 [4, 6]
theorem sW : fT R a b =
 (ob (R.p Fu [(.agg [(A7 11 b), (A7 12 b), (A7 13 b)])]) fun d1 => D6 d1 (WE R a (iI 1) b) (WE R a (iI 0) b)) := D9 [4, 6]
theorem sZ : WE R a b c =
 (ob (A8 .eql (A7 0 c) (iI 7)) fun d1 => D6 d1 (some (.H7 [(iI 1), (.bool false)])) (ob (A8 .eql (A7 0 c) (iI 8)) fun d2 => D6 d2 (some (.H7 [(iI 1), (.bool false)])) (ob (A8 .eql (A7 0 c) (iI 13)) fun d3 => D6 d3 (some (.H7 [(iI 1), (.bool false)])) (ob (A8 .eql (A7 0 c) (iI 9)) fun d4 => D6 d4 (some (.H7 [a, (.bool false)])) (ob (A8 .eql (A7 0 c) (iI 11)) fun d5 => D6 d5 (ob (A8 .eql a (iI 1)) fun d6 => I6 d6 (ob (F3 16 (A7 15 c) (iI 0)) fun d7 => ob (R.p Pj [(L6 d7)]) fun d8 => some (.H7 [(iI 0), d8])) (some (.H7 [(iI 0), (.bool false)])) none) (ob (A8 .eql (A7 0 c) (iI 12)) fun d9 => D6 d9 (ob (A8 .add a b) fun W9 => some (.H7 [W9, (.bool true)])) (ob (A8 .eql (A7 0 c) (iI 14)) fun AC => D6 AC (some (.H7 [(iI 2), (.bool false)])) (some (.H7 [(iI 0), (.bool false)]))))))))) := D9 [4, 6]
theorem zL : (run cfg).p qP [a] = A25 (run cfg) a := O9 Tryz.func110
def mq := eR Tryz.f111 Uc jV R [] (F5 Tryz.f111 [(pt i), (a, .val)] s)
theorem iW : mq R i a s =
 (ob (M4 s i) fun c1 => ob (X5 c1 0) fun d2 => ob (A8 .eql d2 (iI 0)) fun d3 => D6 d3 (ob (M4 s i) fun c4 => og (J4 a) <| ob (c4[0]?) fun u5 => some ([], (s.set i (D7.box (c4.set 0 (a, .val)))))) (some ([], s))) := D9 []
theorem dN : (run cfg).r BM [(.undef, (.ptr i 0)), (a, .val)] s = mq (run cfg) i a s := Ed (s := Uc) Tryz.func111
end
end Go.Su

/-
 Equations of the program's functions: by program.
-/
namespace Go.Su
set_option maxRecDepth 100000
noncomputable section
open Go.Proofs
variable (R : N7) (i j k l m n : Nat) (a b c d e f g h o p q r t u v w x y z A B C D E F G H I J K L M N O P Q S T U V W X Y Z a1 a2 a3 a4 a5 a6 a7 a8 a9 ZU Uj a12 a13 a14 Xq a16 a17 a18 a19 a20 a21 a22 a23 a24 a25 a26 a27 a28 a29 a30 a31 a32 a33 a34 a35 a36 a37 a38 a39 a40 a41 a42 a43 a44 a45 a46 a47 a48 a49 a50 a51 a52 a53 a54 a55 a56 a57 a58 a59 : DV) (s : List D7)
def A4C := eP Tryz.f112 uW R [] (F5 Tryz.f112 [(a, .val), (b, .val)] [])
def WB := hP Tryz.f112 uW R (pb 26) (ms 18 [(0, a), (1, b), (5, c)] [] [] [])
theorem A3j : A4C R a b =
 (WB R a b (iI 0)) := D9 []
theorem Zc : WB R a b c =
 (ob (dLen a) fun d1 => ob (A8 .lss c d1) fun d2 => D6 d2 (ob (F3 1 a c) fun d3 => og (M7 d3) <| ob (A8 .eql d3 b) fun d4 => D6 d4 (some (.bool true)) (ob (A8 .add c (iI 1)) fun d5 => WB R a b d5)) (some (.bool false))) := H5 []
theorem A1B : (run cfg).p ZF [a, b] = A4C (run cfg) a b := O9 Tryz.func112
def mZ := eP Tryz.f113 Vb R [] (F5 Tryz.f113 [(a, .val), (b, .val)] [])
def Ga := hP Tryz.f113 Vb R (pb 58) (ms 25 [(1, a), (5, b)] [] [(2, bx c 3)] [])
theorem iQ : mZ R a b =
 (og (D5 3 a) <| ob (A8 .eql (A7 0 a) b) fun d1 => D6 d1 (some (.bool false)) (Ga R b (iI 0) a)) := D9 []
theorem PT : Ga R a b c =
 (ob (dLen (A7 2 c)) fun d1 => ob (A8 .lss b d1) fun d2 => D6 d2 (ob (F3 3 (A7 2 c) b) fun d3 => ob (R.p FV [(H8 d3), a]) fun d4 => ob (Q5 .not d4) fun d5 => D6 d5 (some (.bool false)) (ob (A8 .add b (iI 1)) fun d6 => Ga R a d6 c)) (some (.bool true))) := H5 []
theorem dK : (run cfg).p FV [a, b] = mZ (run cfg) a b := O9 Tryz.func113
def yA := eP Tryz.f114 aK R [] (F5 Tryz.f114 [(a, .val), (b, .val)] [])
def Mi := hP Tryz.f114 aK R (pb 58) (ms 46 [(5, a)] [] [(2, bx b 3), (3, bx c 3)] [])
theorem sP : yA R a b =
 (og (D5 3 a) <| og (D5 3 b) <| ob (A8 .eql (A7 0 a) (iI 5)) fun d1 => D6 d1 (ob (R.p FV [(H8 b), (iI 6)]) fun d2 => some d2) (ob (A8 .eql (A7 0 b) (iI 5)) fun d3 => D6 d3 (ob (R.p FV [(H8 a), (iI 6)]) fun d4 => some d4) (ob (R.p kN [(H8 a), (H8 b)]) fun d5 => D6 d5 (some (.bool true)) (ob (R.p kP [(H8 a), (H8 b)]) fun d6 => ob (Q5 .not d6) fun d7 => D6 d7 (some (.bool false)) (Mi R (iI 0) a b))))) := D9 []
theorem RG : Mi R a b c =
 (ob (dLen (A7 2 b)) fun d1 => ob (A8 .lss a d1) fun d2 => D6 d2 (ob (F3 3 (A7 2 b) a) fun d3 => ob (F3 3 (A7 2 c) a) fun d4 => ob (R.p Vz [(H8 d3), (H8 d4)]) fun d5 => ob (Q5 .not d5) fun d6 => D6 d6 (some (.bool false)) (ob (A8 .add a (iI 1)) fun d7 => Mi R d7 b c)) (some (.bool true))) := H5 []
theorem ow : (run cfg).p Vz [a, b] = yA (run cfg) a b := O9 Tryz.func114
def Sq := eR Tryz.f115 Ub gG R [] (F5 Tryz.f115 [(a, .val), (b, .val), (c, .own)] s)
def Li := eR Tryz.f115 Ub gG R (pb 1726) (ms 107 [(2, a)] [(2, .own)] [(3, bx b 7), (4, bx c 3)] s)
theorem BZ : Sq R a b c s =
 (og (D5 7 a) <| og (D5 3 b) <| ob (A8 .eql (A7 0 a) (iI 1)) fun d1 => D6 d1 (some ([c, (.bool true)], s)) (ob (A8 .eql (A7 0 a) (iI 2)) fun d2 => D6 d2 (og (J4 (A7 3 a)) <| ob (R6 4 c (.list 4 [(.agg [(A7 3 a), (A7 0 b), (A7 1 b), (A7 2 b)])])) fun d3 => some ([d3, (.bool true)], s)) (ob (A8 .eql (A7 0 a) (iI 3)) fun d4 => D6 d4 (Li R c a b s) (ob (A8 .eql (A7 0 a) (iI 4)) fun d5 => D6 d5 (Li R c a b s) (ob (A8 .eql (A7 0 a) (iI 5)) fun d6 => D6 d6 (Li R c a b s) (ob (A8 .eql (A7 0 a) (iI 6)) fun d7 => D6 d7 (Li R c a b s) (ob (A8 .eql (A7 0 a) (iI 7)) fun d8 => D6 d8 (ob (A8 .neq (A7 0 b) (iI 7)) fun d9 => D6 d9 (some ([c, (.bool false)], s)) (ob (F3 7 (A7 6 a) (iI 0)) fun W9 => ob (F3 3 (A7 2 b) (iI 0)) fun AC => ob (R.r Cw [((GD W9), .val), ((H8 AC), .val), (c, .own)] s) fun q12 => ob (N8 0 (.H7 q12.1)) fun EL => ob (N8 1 (.H7 q12.1)) fun FP => ob (Q5 .not FP) fun Gg => D6 Gg (some ([EL, (.bool false)], q12.2)) (ob (F3 7 (A7 6 a) (iI 1)) fun d16 =>
 ob (F3 3 (A7 2 b) (iI 1)) fun d17 => ob (R.r Cw [((GD d16), .val), ((H8 d17), .val), (EL, .own)] q12.2) fun q18 => ob (N8 0 (.H7 q18.1)) fun d19 => ob (N8 1 (.H7 q18.1)) fun d20 => some ([d19, d20], q18.2)))) (ob (A8 .eql (A7 0 a) (iI 8)) fun d21 => D6 d21 (ob (A8 .eql (A7 0 b) (iI 8)) fun d22 => some ([c, d22], s)) (ob (A8 .neq (A7 0 b) (iI 8)) fun d23 => D6 d23 (some ([c, (.bool false)], s)) (ob (F3 7 (A7 6 a) (iI 0)) fun d24 => ob (F3 3 (A7 2 b) (iI 0)) fun d25 => ob (R.r Cw [((GD d24), .val), ((H8 d25), .val), (c, .own)] s) fun q26 => ob (N8 0 (.H7 q26.1)) fun d27 => ob (N8 1 (.H7 q26.1)) fun d28 => ob (Q5 .not d28) fun d29 => D6 d29 (some ([d27, (.bool false)], q26.2)) (ob (F3 7 (A7 6 a) (iI 1)) fun d30 => ob (R.r Cw [((GD d30), .val), ((H8 b), .val), (d27, .own)] q26.2) fun q31 => ob (N8 0 (.H7 q31.1)) fun d32 => ob (N8 1 (.H7 q31.1)) fun d33 => some ([d32, d33], q31.2)))))))))))) := D9 [10]
theorem iT : Li R a b c s =
 (ob (A8 .sub (A7 0 b) (iI 3)) fun d1 => ob (A8 .add d1 (iI 1)) fun d2 => ob (A8 .eql (A7 0 c) d2) fun d3 => some ([a, d3], s)) := D9 [10]
theorem BO : (run cfg).r Cw [(a, .val), (b, .val), (c, .own)] s = Sq (run cfg) a b c s := Ed (s := Ub) Tryz.func115
theorem Ql (x0 x1 x2 : DV) (sg : List D7) {q : List DV × List D7} (h : Sq (run cfg) x0 x1 x2 sg = some q) : (run cfg).r Cw [(x0, .val), (x1, .val), (x2, .own)] sg = some q := (BO x0 x1 x2 sg).trans h
def ql (R : N7) (x0 x1 : DV) (x2 : Nat) (sg : List D7) : Option (List DV × List D7) := eR Tryz.f116 Ov Xg R [] (F5 Tryz.f116 [(x0, .val), (x1, .val), (.undef, (.map x2))] sg)
def Ky (R : N7) (t1 : DV) (t2i : Nat) (t38 t39 t40 b9_0 b9_2 : DV) (sg : List D7) : Option (List DV × List D7) := hR Tryz.f116 Ov Xg R (pb 250) (ms 55 [(1, t1), (38, t38), (39, t39), (40, t40)] [(2, (.map t2i))] [(6, some zb4), (9, some [(b9_0, .val), ((iI 0), .val), (b9_2, .own)])] sg)
theorem nW (R : N7) (x0 x1 : DV) (x2 : Nat) (sg : List D7) : ql R x0 x1 x2 sg =
 (og (D5 3 x0) <| ob (A8 .eql (A7 0 x0) (iI 6)) fun d1 => D6 d1 (og (isKey false (A7 1 x0) && true) <| ob (AJ sg x2) fun m2 => og (m2.1 == false) <| D6 (.bool (Z4 m2.2 (A7 1 x0)).isSome) (ob (F3 4 x1 ((Z4 m2.2 (A7 1 x0)).getD (iI 0))) fun d3 => some ([(.agg [(A7 1 d3), (A7 2 d3), (A7 3 d3)])], sg)) (some ([(H8 x0)], sg))) (ob (dLen (A7 2 x0)) fun d4 => ob (A8 .eql d4 (iI 0)) fun d5 => D6 d5 (some ([(H8 x0)], sg)) (og (J4 (A7 0 x0)) <| ob (dLen (A7 2 x0)) fun d6 => Ky R x1 x2 (A7 2 x0) d6 (iI 0) (A7 0 x0) (.list 3 []) sg))) := D9 []
theorem PV (R : N7) (t1 : DV) (t2i : Nat) (t38 t39 t40 b9_0 b9_2 : DV) (sg : List D7) : Ky R t1 t2i t38 t39 t40 b9_0 b9_2 sg =
 (ob (A8 .lss t40 t39) fun d1 => D6 d1 (ob (F3 3 t38 t40) fun d2 => oc (R.r SN [((H8 d2), .val), (t1, .val), (.undef, (.map t2i))] sg) fun q3 s3 => og (D5 3 q3) <| ob (R6 3 b9_2 (.list 3 [q3])) fun d4 => ob (A8 .add t40 (iI 1)) fun d5 => Ky R t1 t2i t38 t39 d5 b9_0 d4 s3) (some ([(.agg [b9_0, (iI 0), b9_2])], sg))) := H5 []
theorem jL (x0 x1 : DV) (x2 : Nat) (sg : List D7) : (run cfg).r SN [(x0, .val), (x1, .val), (.undef, (.map x2))] sg = ql (run cfg) x0 x1 x2 sg := Ed (s := Ov) Tryz.func116
def xq := eP Tryz.f117 uV R [] (F5 Tryz.f117 [(a, .val)] [])
theorem sF : xq R a =
 (ob (A8 .geq a (.int .u8 97)) fun d1 => I6 d1 (ob (A8 .leq a (.int .u8 122)) fun d2 => some d2) (some (.bool false)) none) := D9 []
theorem oV : (run cfg).p Pg [a] = xq (run cfg) a := O9 Tryz.func117
def A0N := eP Tryz.f118 zM R [] (F5 Tryz.f118 [(a, .val)] [])
theorem yU : A0N R a =
 (ob (R.p Pg [a]) fun d1 => I6 d1 (some (.bool true)) (ob (R.p fF [a]) fun d2 => I6 d2 (some (.bool true)) (ob (A8 .geq a (.int .u8 65)) fun d3 => I6 d3 (ob (A8 .leq a (.int .u8 90)) fun d4 => I6 d4 (some (.bool true)) (ob (A8 .eql a (.int .u8 95)) fun d5 => I6 d5 (some (.bool true)) (ob (A8 .eql a (.int .u8 39)) fun d6 => some d6) none) none) (ob (A8 .eql a (.int .u8 95)) fun d7 => I6 d7 (some (.bool true)) (ob (A8 .eql a (.int .u8 39)) fun d8 => some d8) none) none) none) none) := D9 []
theorem tY : (run cfg).p kL [a] = A0N (run cfg) a := O9 Tryz.func118
def A2Z := eP Tryz.f119 YW R [] (F5 Tryz.f119 [(a, .val)] [])
def Sj := hP Tryz.f119 YW R (pb 26) (ms 40 [(0, a), (3, b)] [] [] [])
def NF := hP Tryz.f119 YW R (pb 122) (ms 40 [(0, a), (4, b), (5, c)] [] [] [])
theorem A1q : A2Z R a =
 (Sj R a (iI 0)) := D9 []
theorem XT : Sj R a b =
 (ob (DT a) fun d1 => ob (A8 .lss b d1) fun d2 => D6 d2 (ob (X6 a b) fun d3 => ob (R.p Pg [d3]) fun d4 => ob (Q5 .not d4) fun d5 => D6 d5 (some (.bool false)) (ob (A8 .add b (iI 1)) fun d6 => Sj R a d6)) (ob (A8 .add (.str ⟨#[32]⟩) a) fun d7 => ob (A8 .add d7 (.str ⟨#[32]⟩)) fun d8 => NF R a d8 (iI 0))) := H5 []
theorem XU : NF R a b c =
 (ob (DT b) fun d1 => ob (A8 .add c d1) fun d2 => ob (A8 .leq d2 (iI 81)) fun d3 => D6 d3 (ob (DT a) fun d4 => ob (A8 .gtr d4 (iI 0)) fun d5 => I6 d5 (ob (DT b) fun d6 => ob (A8 .add c d6) fun d7 => ob (iJ (.str ⟨#[32, 108, 101, 116, 32, 114, 101, 99, 32, 105, 110, 32, 102, 117, 110, 32, 105, 102, 32, 116, 104, 101, 110, 32, 101, 108, 115, 101, 32, 109, 97, 116, 99, 104, 32, 119, 105, 116, 104, 32, 101, 110, 100, 32, 116, 114, 117, 101, 32, 102, 97, 108, 115, 101, 32, 105, 110, 116, 32, 98, 111, 111, 108, 32, 115, 116, 114, 105, 110, 103, 32, 117, 110, 105, 116, 32, 108, 105, 115, 116, 32]⟩) (some c) (some d7)) fun d8 => ob (A8 .eql d8 b) fun d9 => D6 d9 (some (.bool true)) (ob (A8 .add c (iI 1)) fun W9 => NF R a b W9)) (ob (A8 .add c (iI 1)) fun AC => NF R a b AC) none) (some (.bool false))) := H5 []
theorem zG : (run cfg).p qM [a] = A2Z (run cfg) a := O9 Tryz.func119
def xz := eR Tryz.f120 Qr aI R [] (F5 Tryz.f120 [(a, .val), (b, .own)] s)
def GR := hR Tryz.f120 Qr aI R (pb 58) (ms 29 [(1, a), (5, b)] [(1, .own)] [(2, bx c 7)] s)
theorem sK : xz R a b s =
 (og (D5 7 a) <| ob (A8 .eql (A7 0 a) (iI 2)) fun d1 => D6 d1 (og (J4 (A7 3 a)) <| ob (R6 1 b (.list 1 [(A7 3 a)])) fun d2 => GR R d2 (iI 0) a s) (GR R b (iI 0) a s)) := D9 []
theorem TZ : GR R a b c s =
 (ob (dLen (A7 6 c)) fun d1 => ob (A8 .lss b d1) fun d2 => D6 d2 (ob (F3 7 (A7 6 c) b) fun d3 => oc (R.r Vx [((GD d3), .val), (a, .own)] s) fun q4 s4 => ob (A8 .add b (iI 1)) fun d5 => GR R q4 d5 c s4) (some ([a], s))) := H5 []
theorem om : (run cfg).r Vx [(a, .val), (b, .own)] s = xz (run cfg) a b s := Ed (s := Qr) Tryz.func120
def xY := eP Tryz.f122 aA R [] (F5 Tryz.f122 [(a, .val), (b, .val)] [])
def JY := hP Tryz.f122 aA R (pb 58) (ms 27 [(1, a), (5, b)] [] [(2, bx c 3)] [])
theorem rX : xY R a b =
 (og (D5 3 a) <| ob (A8 .add b (iI 1)) fun d1 => JY R d1 (iI 0) a) := D9 []
theorem TM : JY R a b c =
 (ob (dLen (A7 2 c)) fun d1 => ob (A8 .lss b d1) fun d2 => I6 d2 (ob (A8 .leq a (iI 600)) fun d3 => D6 d3 (ob (F3 3 (A7 2 c) b) fun d4 => ob (R.p Vt [(H8 d4), a]) fun d5 => ob (A8 .add b (iI 1)) fun d6 => JY R d5 d6 c) (some a)) (some a) none) := H5 []
theorem oK : (run cfg).p Vt [a, b] = xY (run cfg) a b := O9 Tryz.func122
def A0V := eR Tryz.f123 Ns WK R [] (F5 Tryz.f123 [(a, .val), (b, .own)] s)
def Sk := eR Tryz.f123 Ns WK R (pb 7) (ms 36 [(1, a)] [(1, .own)] [(2, bx b 3)] s)
def Lg := hR Tryz.f123 Ns WK R (pb 58) (ms 36 [(1, a), (5, b)] [(1, .own)] [(2, bx c 3)] s)
theorem yh : A0V R a b s =
 (og (D5 3 a) <| ob (A8 .eql (A7 0 a) (iI 6)) fun d1 => I6 d1 (ob (R.p ZF [b, (A7 1 a)]) fun d2 => ob (Q5 .not d2) fun d3 => D6 d3 (og (J4 (A7 1 a)) <| ob (R6 1 b (.list 1 [(A7 1 a)])) fun d4 => Sk R d4 a s) (Sk R b a s)) (Sk R b a s) none) := D9 [3]
theorem Qn : Sk R a b s =
 (Lg R a (iI 0) b s) := D9 [3]
theorem VK : Lg R a b c s =
 (ob (dLen (A7 2 c)) fun d1 => ob (A8 .lss b d1) fun d2 => D6 d2 (ob (F3 3 (A7 2 c) b) fun d3 => oc (R.r YL [((H8 d3), .val), (a, .own)] s) fun q4 s4 => ob (A8 .add b (iI 1)) fun d5 => Lg R q4 d5 c s4) (some ([a], s))) := H5 [3]
theorem uD : (run cfg).r YL [(a, .val), (b, .own)] s = A0V (run cfg) a b s := Ed (s := Ns) Tryz.func123
def Oa := eP Tryz.f126 dU R [] (F5 Tryz.f126 [(a, .val)] [])
theorem dC : Oa R a =
 (og (D5 16 a) <| ob (A8 .eql (A7 0 a) (iI 1)) fun d1 => D6 d1 (some (.H7 [(.agg [(.bool true), (.bool false), (.bool false), (.bool false), (.bool false), (.bool false), (.bool false), (.bool false), (iI 0)]), (.bool true)])) (ob (A8 .eql (A7 0 a) (iI 2)) fun d2 => D6 d2 (some (.H7 [zA2, (.bool true)])) (ob (A8 .eql (A7 0 a) (iI 3)) fun d3 => D6 d3 (some (.H7 [zA2, (.bool true)])) (ob (A8 .eql (A7 0 a) (iI 4)) fun d4 => D6 d4 (some (.H7 [(.agg [(.bool false), (.bool false), (.bool false), (.bool true), (.bool false), (.bool false), (.bool false), (.bool false), (iI 0)]), (.bool true)])) (ob (A8 .eql (A7 0 a) (iI 5)) fun d5 => D6 d5 (some (.H7 [zA0, (.bool true)])) (ob (A8 .eql (A7 0 a) (iI 7)) fun d6 => D6 d6 (some (.H7 [zA0, (.bool true)])) (ob (A8 .eql (A7 0 a) (iI 6)) fun d7 => D6 d7 (some (.H7 [zA1, (.bool true)])) (ob (A8 .eql (A7 0 a) (iI 8)) fun d8 => D6 d8 (some (.H7 [zA1, (.bool true)])) (ob (A8 .eql (A7 0 a) (iI 10)) fun d9 => D6 d9 (some (.H7 [zA1, (.bool true)])) (ob (A8 .eql (A7 0 a) (iI 9)) fun W9 => D6 W9 (some (.H7 [(.agg [(.bool true), (.bool false), (.bool false), (.bool false), (.bool false), (.bool true), (.bool false), (.bool false), (iI 1)]), (.bool true)])) (ob (A8 .eql (A7 0 a) (iI 11)) fun AC =>
 D6 AC (some (.H7 [(.agg [(.bool true), (.bool false), (.bool false), (.bool false), (.bool false), (.bool true), (.bool false), (.bool false), (iI 2)]), (.bool true)])) (ob (A8 .eql (A7 0 a) (iI 12)) fun Ap => D6 Ap (some (.H7 [(.agg [(.bool true), (.bool true), (.bool false), (.bool false), (.bool false), (.bool true), (.bool true), (.bool false), (iI 2)]), (.bool true)])) (ob (A8 .eql (A7 0 a) (iI 13)) fun EL => D6 EL (some (.H7 [(.agg [(.bool false), (.bool false), (.bool false), (.bool false), (.bool false), (.bool false), (.bool false), (.bool false), (iI 3)]), (.bool true)])) (ob (A8 .eql (A7 0 a) (iI 14)) fun FP => D6 FP (ob (dLen (A7 14 a)) fun Gg => ob (A8 .add Gg (iI 1)) fun d16 => og (J4 d16) <| ob (dLen (A7 14 a)) fun d17 => ob (A8 .gtr d17 (iI 0)) fun d18 => some (.H7 [(.agg [(.bool false), (.bool false), (.bool false), (.bool false), (.bool false), (.bool false), (.bool false), (.bool false), d16]), d18])) (ob (A8 .eql (A7 0 a) (iI 15)) fun d19 => D6 d19 (some (.H7 [(.agg [(.bool false), (.bool false), (.bool false), (.bool false), (.bool false), (.bool true), (.bool false), (.bool true), (iI 1)]), (.bool true)])) (ob (A8 .eql (A7 0 a) (iI 16)) fun d20 =>
 D6 d20 (some (.H7 [(.agg [(.bool false), (.bool false), (.bool false), (.bool false), (.bool true), (.bool false), (.bool false), (.bool false), (iI 2)]), (.bool true)])) (some (.H7 [zA0, (.bool false)])))))))))))))))))) := D9 []
theorem Zw : (run cfg).p OD [a] = Oa (run cfg) a := O9 Tryz.func126
theorem xJ (x0 : DV) {d : DV} (h : Oa (run cfg) x0 = some d) : (run cfg).p OD [x0] = some d := (Zw x0).trans h
def yL := eP Tryz.f127 aP R [] (F5 Tryz.f127 [(a, .val)] [])
def Ob := hP Tryz.f127 aP R (pb 58) (ms 37 [(0, a), (3, b)] [] [] [])
theorem tL : yL R a =
 (ob (DT a) fun d1 => ob (A8 .lss d1 (iI 1)) fun d2 => I6 d2 (some (.bool false)) (ob (DT a) fun d3 => ob (A8 .gtr d3 (iI 32)) fun d4 => I6 d4 (some (.bool false)) (ob (X6 a (iI 0)) fun d5 => ob (A8 .lss d5 (.int .u8 97)) fun d6 => I6 d6 (some (.bool false)) (ob (X6 a (iI 0)) fun d7 => ob (A8 .gtr d7 (.int .u8 122)) fun d8 => I6 d8 (some (.bool false)) (ob (R.p kR [a]) fun d9 => D6 d9 (some (.bool false)) (Ob R a (iI 1))) none) none) none) none) := D9 []
theorem Tk : Ob R a b =
 (ob (DT a) fun d1 => ob (A8 .lss b d1) fun d2 => D6 d2 (ob (X6 a b) fun d3 => ob (R.p ZJ [d3]) fun d4 => ob (Q5 .not d4) fun d5 => D6 d5 (some (.bool false)) (ob (A8 .add b (iI 1)) fun d6 => Ob R a d6)) (some (.bool true))) := H5 []
theorem pQ : (run cfg).p Po [a] = yL (run cfg) a := O9 Tryz.func127
def yH := eP Tryz.f128 ui R [] (F5 Tryz.f128 [(a, .val)] [])
theorem tF : yH R a =
 (og (D5 3 a) <| ob (A8 .eql (A7 0 a) (iI 0)) fun d1 => I6 d1 (ob (A8 .eql (A7 1 a) (iI 0)) fun d2 => I6 d2 (ob (dLen (A7 2 a)) fun d3 => ob (A8 .eql d3 (iI 0)) fun d4 => some d4) (some (.bool false)) none) (some (.bool false)) none) := D9 []
theorem pJ : (run cfg).p MF [a] = yH (run cfg) a := O9 Tryz.func128
def mr := eP Tryz.f129 jX R [] (F5 Tryz.f129 [(a, .val)] [])
theorem iX : mr R a =
 (og (D5 3 a) <| ob (R.p Eh [(H8 a)]) fun d1 => ob (A8 .eql d1 (iI 0)) fun d2 => I6 d2 (ob (R.p ND [(H8 a)]) fun d3 => some d3) (some (.bool false)) none) := D9 []
theorem dO : (run cfg).p QW [a] = mr (run cfg) a := O9 Tryz.func129
def WX : Code := Tryz.f130.body.getD .skip
def bU := eP Tryz.f130 ET R [] (F5 Tryz.f130 [(a, .val)] [])
def WU := eP Tryz.f130 ET R (pb 58) (ms 32 [(0, a), (4, (.H7 [])), (6, b), (8, (.H7 [])), (9, (.H7 [])), (10, (.H7 [])), (11, (.H7 [])), (12, (.H7 [])), (13, (.H7 [])), (14, (.H7 [])), (15, (.H7 [])), (16, (.H7 [])), (17, (.H7 [])), (18, (.H7 [])), (19, (.H7 [])), (20, (.H7 [])), (21, (.H7 [])), (22, (.H7 [])), (23, (.H7 [])), (24, (.H7 [])), (25, (.H7 [])), (26, (.H7 [])), (27, (.H7 [])), (28, (.H7 [])), (29, (.H7 [])), (30, (.H7 [])), (31, (.H7 []))] [(1, (.ptr 0 0)), (2, (.ptr 1 0)), (3, (.ptr 3 0)), (5, (.map 2)), (7, (.fn 159 [(4, 0)]))] [] s)
def QM : Code := match (sub [true, true, false, true, false] WX []).1 with
 | .rangeFunc _ _ a b => .seq a b
 | c => c
def j5 (R : N7) (t0 t6 : DV) (o : Out) (sg : List D7) : Option DV := lT cfg R ET (Vn cfg.P Tryz.f130) [true, true, false, true, false] WX o (Y6 ⟨spread .undef 32 0 [(0, t0), (4, (.H7 [])), (6, t6), (8, (.H7 [])), (9, (.H7 [])), (10, (.H7 [])), (11, (.H7 [])), (12, (.H7 [])), (13, (.H7 [])), (14, (.H7 [])), (15, (.H7 [])), (16, (.H7 [])), (17, (.H7 [])), (18, (.H7 [])), (19, (.H7 [])), (20, (.H7 [])), (21, (.H7 [])), (22, (.H7 [])), (23, (.H7 [])), (24, (.H7 [])), (25, (.H7 [])), (26, (.H7 [])), (27, (.H7 [])), (28, (.H7 [])), (29, (.H7 [])), (30, (.H7 [])), (31, (.H7 []))], spread .val 32 0 [(1, (.ptr 0 0)), (2, (.ptr 1 0)), (3, (.ptr 3 0)), (5, (.map 2)), (7, (.fn 159 [(4, 0)]))], spread none 32 0 [], []⟩ sg)
def NB (R : N7) (t0 t6 : DV) (I : List D7 → Option DV) (x : DV) (sg : List D7) : Option DV := Ia cfg R ET (kr I (j5 R t0 t6)) [] QM (mst 32 [(8, x)] [(2, (.ptr 1 0)), (3, (.ptr 3 0))] [] sg)
def DI (R : N7) (t0 t6 : DV) : List DV → List D7 → Option DV := KI (fun x I sg => NB R t0 t6 I x sg) (j5 R t0 t6 .normal)
def PO (R : N7) (t0 t6 : DV) (I : List D7 → Option DV) (b4 : DV) (sg : List D7) : Option DV := Ia cfg R ET (kr I (j5 R t0 t6)) (pb 13) QM (ms 32 [] [(3, (.ptr 3 0))] [(4, bx b4 7)] sg)
theorem Zm : bU R a =
 (og (D5 7 a) <| WU R a (GD a) [D7.box [((A7 0 a), .val), ((A7 1 a), .val), ((A7 2 a), .val), ((A7 3 a), .val), ((A7 4 a), .val), ((A7 5 a), .val), ((A7 6 a), .val)], D7.box [((iI 0), .val)], .map true [], D7.box [(.undef, (.map 2))], D7.box [((A7 0 a), .val), ((A7 1 a), .val), ((A7 2 a), .val), ((A7 3 a), .val), ((A7 4 a), .val), ((A7 5 a), .val), ((A7 6 a), .val)]]) := D9 [6]
theorem Un : WU R a b s =
 ob (M4 s 4) fun cs => ob (IP cs) fun cd => ob (JO 7 6 cd) fun ds => DI R a b ds (s.set 4 (.arr 1 [])) := (A7s (t := 7) (f := 159) (i := 4) (q := 8) (it := JO 7 6) (by kernel_rfl) (by kernel_rfl) (by kernel_rfl) (by kernel_rfl)).trans (by kernel_rfl)
theorem Ps (R : N7) (t0 t6 : DV) (sg : List D7) : DI R t0 t6 [] sg = j5 R t0 t6 .normal sg := rfl
theorem Oy (R : N7) (t0 t6 x : DV) (ds : List DV) (sg : List D7) : DI R t0 t6 (x :: ds) sg = NB R t0 t6 (DI R t0 t6 ds) x sg := rfl
theorem Rh (R : N7) (t0 t6 : DV) (I : List D7 → Option DV) (x : DV) (sg : List D7) : NB R t0 t6 I x sg = (og (D5 7 x) <| ob (R.p XO [(GD x)]) fun d1 => ob (Q5 .not d1) fun d2 => I6 d2 (ob (M4 sg 1) fun c3 => ob (c3[0]?) fun u4 => j5 R t0 t6 .ret (sg.set 1 (D7.box (c3.set 0 ((iI 1), .val))))) (ob (A8 .eql (A7 0 x) (iI 2)) fun d5 => I6 d5 (ob (M4 sg 3) fun c6 => ob (Jp c6 0) fun i7 => og (isKey true (A7 3 x) && true) <| ob (AJ sg i7) fun m8 =>
 og (m8.1 == true) <| ob (A8 .gtr ((Z4 m8.2 (A7 3 x)).getD (iI 0)) (iI 0)) fun d9 => D6 d9 (ob (M4 sg 1) fun c10 => ob (c10[0]?) fun u11 => j5 R t0 t6 .ret (sg.set 1 (D7.box (c10.set 0 ((iI 1), .val))))) (PO R t0 t6 I x sg)) (PO R t0 t6 I x sg) none) none) := D9 [6]
theorem Ju : j5 R a b .normal s =
 (ob (M4 s 1) fun c1 => ob (c1[0]?) fun u2 => A5I (ob (M4 (s.set 1 (D7.box (c1.set 0 ((iI 0), .val)))) 1) fun c => oneCell (s.set 1 (D7.box (c1.set 0 ((iI 0), .val)))) c)) := wy [6] (by kernel_rfl)
theorem Mm : j5 R a b .ret s = (A5I (ob (M4 s 1) fun c => oneCell s c)) := wy [6] (by kernel_rfl)
theorem Wj (R : N7) (t0 t6 : DV) (I : List D7 → Option DV) (b4 : DV) (sg : List D7) : PO R t0 t6 I b4 sg = (ob (A8 .eql (A7 0 b4) (iI 2)) fun d1 => D6 d1 (ob (M4 sg 3) fun c2 => ob (Jp c2 0) fun i3 => og (isKey true (A7 3 b4) && true) <| ob (AJ sg i3) fun m4 => og (m4.1 == true) <| ob (A8 .add ((Z4 m4.2 (A7 3 b4)).getD (iI 0)) (iI 1)) fun d5 => og (isKey true (A7 3 b4) && true && true) <| ob (AJ sg i3) fun m6 => og (m6.1 == true) <| I (sg.set i3 (.map true (Cc m6.2 (A7 3 b4) d5)))) (I sg)) := D9 [6]
theorem YC : (run cfg).p Ma [a] = bU (run cfg) a := O9 Tryz.func130
def yK := eP Tryz.f131 aO R [] (F5 Tryz.f131 [(a, .val)] [])
def Jl := hP Tryz.f131 aO R (pb 250) (ms 43 [(33, a), (34, b), (35, c)] [] [] [])
theorem tK : yK R a =
 (og (D5 3 a) <| ob (R.p fJ [(A7 0 a)]) fun d1 => ob (A8 .lss d1 (iI 0)) fun d2 => I6 d2 (some (.bool false)) (ob (dLen (A7 2 a)) fun d3 => ob (A8 .neq d3 d1) fun d4 => D6 d4 (some (.bool false)) (ob (A8 .eql (A7 0 a) (iI 6)) fun d5 => D6 d5 (ob (A8 .geq (A7 1 a) (iI 0)) fun d6 => I6 d6 (ob (A8 .leq (A7 1 a) (iI 1048576)) fun d7 => some d7) (some (.bool false)) none) (ob (A8 .neq (A7 1 a) (iI 0)) fun d8 => D6 d8 (some (.bool false)) (ob (dLen (A7 2 a)) fun d9 => Jl R (A7 2 a) d9 (iI 0))))) none) := D9 []
theorem Tg : Jl R a b c =
 (ob (A8 .lss c b) fun d1 => D6 d1 (ob (F3 3 a c) fun d2 => ob (R.p WA [(H8 d2)]) fun d3 => ob (Q5 .not d3) fun d4 => D6 d4 (some (.bool false)) (ob (A8 .add c (iI 1)) fun d5 => Jl R a b d5)) (some (.bool true))) := H5 []
theorem pO : (run cfg).p WA [a] = yK (run cfg) a := O9 Tryz.func131
def qV := eP Tryz.f132 Lr R [] (F5 Tryz.f132 [(a, .val), (b, .val)] [])
def Sd := eP Tryz.f132 Lr R (pb 27646) (ms 56 [(4, (iI 0))] [] [(2, bx a 16)] [])
def Sg := eP Tryz.f132 Lr R (pb 55293) (ms 56 [(4, a)] [] [(2, bx b 16)] [])
def IE := eP Tryz.f132 Lr R (pb 110587) (ms 56 [(4, a)] [] [(2, bx b 16)] [])
theorem nM : qV R a b =
 (og (D5 16 a) <| og (D5 5 b) <| ob (A8 .eql (A7 0 a) (iI 1)) fun d1 => D6 d1 (ob (dLen (A7 4 b)) fun d2 => some (.H7 [d2, (.bool false)])) (ob (A8 .eql (A7 0 a) (iI 7)) fun d3 => D6 d3 (some (.H7 [(iI 1), (.bool false)])) (ob (A8 .eql (A7 0 a) (iI 8)) fun d4 => D6 d4 (some (.H7 [(iI 1), (.bool false)])) (ob (A8 .eql (A7 0 a) (iI 13)) fun d5 => D6 d5 (some (.H7 [(iI 1), (.bool false)])) (ob (A8 .eql (A7 0 a) (iI 14)) fun d6 => D6 d6 (some (.H7 [(iI 2), (.bool false)])) (ob (A8 .eql (A7 0 a) (iI 11)) fun d7 => D6 d7 (ob (A8 .eql (A7 8 a) (iI 0)) fun d8 => I6 d8 (ob (F3 16 (A7 15 a) (iI 0)) fun d9 => ob (R.p ZI [(L6 d9)]) fun W9 => some (.H7 [(iI 0), W9])) (some (.H7 [(iI 0), (.bool false)])) none) (ob (A8 .eql (A7 0 a) (iI 9)) fun AC => D6 AC (Sd R a) (ob (A8 .eql (A7 0 a) (iI 12)) fun Ap => D6 Ap (Sd R a) (some (.H7 [(iI 0), (.bool false)])))))))))) := D9 [14, 16, 18]
theorem K_ : Sd R a =
 (ob (A8 .eql (A7 8 a) (iI 0)) fun d1 => D6 d1 (ob (A8 .add (iI 0) (iI 1)) fun d2 => Sg R d2 a) (Sg R (iI 0) a)) := D9 [14, 16, 18]
theorem LA : Sg R a b =
 (ob (A8 .eql (A7 0 b) (iI 12)) fun d1 => I6 d1 (ob (A8 .eql (A7 11 b) (iI 0)) fun d2 => D6 d2 (ob (A8 .add a (iI 1)) fun d3 => IE R d3 b) (IE R a b)) (IE R a b) none) := D9 [14, 16, 18]
theorem Gl : IE R a b =
 (ob (A8 .eql (A7 0 b) (iI 12)) fun d1 => some (.H7 [a, d1])) := D9 [14, 16, 18]
theorem jB : (run cfg).p ZB [a, b] = qV (run cfg) a b := O9 Tryz.func132
def Lj := eP Tryz.f133 Kh R [] (F5 Tryz.f133 [(a, .val), (b, .val)] [])
theorem Kg : Lj R a b =
 (ob (R.p Hd [a, b]) fun d1 => ob (A8 .geq d1 (iI 0)) fun d2 => some d2) := D9 []
theorem J_ : (run cfg).p FW [a, b] = Lj (run cfg) a b := O9 Tryz.func133
def RZ := eR Tryz.f134 EJ Ir R [] (F5 Tryz.f134 [(pt i), (a, .val), (b, .val)] s)
def Dc := hR Tryz.f134 EJ Ir R (pb 6) (ms 23 [(2, a), (8, b), (9, c), (10, d)] [(0, (.ptr i 0))] [] s)
theorem Pz : RZ R i a b s =
 (ob (dLen a) fun d1 => Dc R i b a d1 (iI 0) s) := D9 []
theorem Fw : Dc R i a b c d s =
 (ob (A8 .lss d c) fun d1 => D6 d1 (ob (F3 1 b d) fun d2 => og (M7 d2) <| ob (M4 s i) fun c3 => ob (Jp c3 1) fun i4 => og (isKey false d2 && true) <| ob (AJ s i4) fun m5 => og (m5.1 == false) <| ob (A8 .add ((Z4 m5.2 d2).getD (iI 0)) a) fun d6 => og (isKey false d2 && true && true) <| ob (AJ s i4) fun m7 => og (m7.1 == false) <| ob (A8 .add d (iI 1)) fun d8 => Dc R i a b c d8 (s.set i4 (.map false (Cc m7.2 d2 d6)))) (some ([], s))) := H5 []
theorem PG : (run cfg).r Y1 [(.undef, (.ptr i 0)), (a, .val), (b, .val)] s = RZ (run cfg) i a b s := Ed (s := EJ) Tryz.func134
def qx := eP Tryz.f135 pg R [] (F5 Tryz.f135 [(a, .val)] [])
theorem nz : qx R a =
 (og (D5 3 a) <| ob (R.p Ld [(H8 a), (iI 5)]) fun d1 => some d1) := D9 []
theorem jQ : (run cfg).p SS [a] = qx (run cfg) a := O9 Tryz.func135
end
end Go.Su

/-
 Equations of the program's functions: by program.
-/
namespace Go.Su
set_option maxRecDepth 100000
noncomputable section
open Go.Proofs
variable (R : N7) (i j k l m n : Nat) (a b c d e f g h o p q r t u v w x y z A B C D E F G H I J K L M N O P Q S T U V W X Y Z a1 a2 a3 a4 a5 a6 a7 a8 a9 ZU Uj a12 a13 a14 Xq a16 a17 a18 a19 a20 a21 a22 a23 a24 a25 a26 a27 a28 a29 a30 a31 a32 a33 a34 a35 a36 a37 a38 a39 a40 a41 a42 a43 a44 a45 a46 a47 a48 a49 a50 a51 a52 a53 a54 a55 a56 a57 a58 a59 : DV) (s : List D7)
def A05 := eP Tryz.f136 zY R [] (F5 Tryz.f136 [(a, .val)] [])
theorem zA : A05 R a =
 (og (D5 3 a) <| oc (R.r YR [((H8 a), .val), (.undef, (.map 0)), ((.list 1 []), .own)] [.map false []]) fun q1 s1 => some q1) := D9 []
theorem uN : (run cfg).p OE [a] = A05 (run cfg) a := O9 Tryz.func136
def mU := eP Tryz.f137 jS R [] (F5 Tryz.f137 [(a, .val), (b, .val)] [])
theorem iM : mU R a b =
 (og (D5 3 a) <| og (D5 3 b) <| ob (R.p Eh [(H8 a)]) fun d1 => ob (A8 .eql d1 (iI 0)) fun d2 => I6 d2 (ob (R.p Eh [(H8 b)]) fun d3 => ob (A8 .eql d3 (iI 0)) fun d4 => I6 d4 (ob (R.p OB [(H8 a), (H8 b)]) fun d5 => some d5) (some (.bool false)) none) (some (.bool false)) none) := D9 []
theorem dG : (run cfg).p XM [a, b] = mU (run cfg) a b := O9 Tryz.func137
def SX := eR Tryz.f138 Ep KA R [] (F5 Tryz.f138 [(pt i), (a, .val), (b, .val), (c, .val)] s)
def Ik := eR Tryz.f138 Ep KA R (pb 15) (ms 50 [(9, a)] [(0, (.ptr i 0))] [(5, bx b 23), (6, bx c 16), (7, bx d 3), (8, some zb0)] s)
theorem Rk : SX R i a b c s =
 (og (D5 23 a) <| og (D5 16 b) <| og (D5 3 c) <| ob (M4 s i) fun c1 => ob (X5 c1 2) fun d2 => ob (dLen d2) fun d3 => ob (A8 .gtr d3 (iI 1048576)) fun d4 => I6 d4 (ob (M4 s i) fun c5 => ob (X5 c5 0) fun d6 => ob (Q5 .not d6) fun d7 => D6 d7 (oc (R.r AL [(pt i), ((iI 2), .val)] s) fun q8 s8 => some ([zA3], s8)) (Ik R i d3 a b c s)) (Ik R i d3 a b c s) none) := D9 [5]
theorem PD : Ik R i a b c d s =
 (ob (M4 s i) fun c1 => ob (iG c1 2) fun d2 => ob (R6 8 d2 (.list 8 [(.agg [(A7 1 c), (A7 2 c), (A7 0 b), (A7 1 b), (A7 2 b), (A7 0 d), (A7 1 d), (A7 2 d)])])) fun d3 => ob (M4 (s.set i (D7.box (c1.set 2 (d2, .val)))) i) fun c4 => ob (c4[2]?) fun u5 => og (J4 a) <| some ([(.agg [(iI 16), (iI 0), (iI 0), (.str ⟨#[]⟩), (.str ⟨#[]⟩), (iI 0), (.str ⟨#[]⟩), (iI 0), a, (.bool false), (.list 1 []), (A7 0 b), (A7 1 b), (A7 2 b), (A7 0 d), (A7 1 d), (A7 2 d), (.list 3 []), (.list 7 []), (.list 20 [(.agg [(A7 3 b), (A7 4 b), (A7 5 b), (A7 6 b), (A7 7 b), (A7 8 b), (A7 9 b), (A7 10 b), (A7 11 b), (A7 12 b), (A7 13 b), (A7 14 b), (A7 15 b), (A7 16 b), (A7 17 b), (A7 18 b), (A7 19 b), (A7 20 b), (A7 21 b), (A7 22 b)])])])], ((s.set i (D7.box (c1.set 2 (d2, .val)))).set i (D7.box (c4.set 2 (d3, .own)))))) := D9 [5]
theorem QE : (run cfg).r Fq [(.undef, (.ptr i 0)), (a, .val), (b, .val), (c, .val)] s = SX (run cfg) i a b c s := Ed (s := Ep) Tryz.func138
def Ug := eR Tryz.f139 KW Tu R [] (F5 Tryz.f139 [(pt i), (a, .val), (b, .val), (c, .val)] s)
theorem TD : Ug R i a b c s =
 (og (D5 16 a) <| og (D5 3 b) <| oc (R.r T9 [(pt i), ((L6 a), .val), ((H8 b), .val), ((iI 0), .val), (c, .val)] s) fun q1 s1 => og (D5 23 q1) <| oc (R.r AU [(pt i)] s1) fun q2 s2 => ob (Q5 .not q2) fun d3 => D6 d3 (some ([zA4], s2)) (ob (A8 .eql (A7 0 q1) (iI 5)) fun d4 => D6 d4 (ob (F3 16 (A7 15 a) (iI 0)) fun d5 => ob (R.p Lx [(.agg [(iI 5), (iI 0), (.list 3 [])]), (.agg [(iI 5), (iI 0), (.list 3 [])])]) fun d6 => oc (R.r Fq [(pt i), ((.agg [(A7 0 q1), (A7 1 q1), (A7 2 q1), (A7 3 q1), (A7 4 q1), (A7 5 q1), (A7 6 q1), (A7 7 q1), (A7 8 q1), (A7 9 q1), (A7 10 q1), (A7 11 q1), (A7 12 q1), (A7 13 q1), (A7 14 q1), (A7 15 q1), (A7 16 q1), (A7 17 q1), (A7 18 q1), (A7 19 q1), (A7 20 q1), (A7 21 q1), (A7 22 q1)]), .val), ((L6 d5), .val), (d6, .val)] s2) fun q7 s7 =>
 og (D5 20 q7) <| oc (R.r M6 [(pt i), ((L6 a), .val), ((H8 b), .val), ((iI 1), .val), (c, .val), ((.agg [(iI 5), (iI 0), (.list 3 [])]), .val)] s7) fun q8 s8 => og (D5 20 q8) <| some ([(.agg [(iI 5), (iI 0), (.list 3 []), (iI 10), (iI 0), (iI 0), (.str ⟨#[]⟩), (.str ⟨#[]⟩), (iI 0), (.str ⟨#[]⟩), (iI 0), (iI 0), (.bool false), (.list 1 []), (iI 0), (iI 0), (.list 3 []), (iI 0), (iI 0), (.list 3 []), (.list 3 []), (.list 7 []), (.list 20 [(.agg [(A7 0 q7), (A7 1 q7), (A7 2 q7), (A7 3 q7), (A7 4 q7), (A7 5 q7), (A7 6 q7), (A7 7 q7), (A7 8 q7), (A7 9 q7), (A7 10 q7), (A7 11 q7), (A7 12 q7), (A7 13 q7), (A7 14 q7), (A7 15 q7), (A7 16 q7), (A7 17 q7), (A7 18 q7), (A7 19 q7)]), (.agg [(A7 0 q8), (A7 1 q8), (A7 2 q8), (A7 3 q8), (A7 4 q8), (A7 5 q8), (A7 6 q8), (A7 7 q8), (A7 8 q8), (A7 9 q8), (A7 10 q8), (A7 11 q8), (A7 12 q8), (A7 13 q8), (A7 14 q8), (A7 15 q8), (A7 16 q8), (A7 17 q8), (A7 18 q8), (A7 19 q8)])])])], s8)) (ob (A8 .eql (A7 0 q1) (iI 9)) fun d9 =>
 D6 d9 (ob (F3 3 (A7 2 q1) (iI 0)) fun W9 => oc (R.r M6 [(pt i), ((L6 a), .val), ((H8 b), .val), ((iI 1), .val), (c, .val), ((H8 W9), .val)] s2) fun q11 s11 => og (D5 20 q11) <| ob (F3 3 (A7 2 q1) (iI 1)) fun Ap => some ([(.agg [(A7 0 Ap), (A7 1 Ap), (A7 2 Ap), (iI 10), (iI 0), (iI 0), (.str ⟨#[]⟩), (.str ⟨#[]⟩), (iI 0), (.str ⟨#[]⟩), (iI 0), (iI 0), (.bool false), (.list 1 []), (iI 0), (iI 0), (.list 3 []), (iI 0), (iI 0), (.list 3 []), (.list 3 []), (.list 7 []), (.list 20 [(.agg [(A7 3 q1), (A7 4 q1), (A7 5 q1), (A7 6 q1), (A7 7 q1), (A7 8 q1), (A7 9 q1), (A7 10 q1), (A7 11 q1), (A7 12 q1), (A7 13 q1), (A7 14 q1), (A7 15 q1), (A7 16 q1), (A7 17 q1), (A7 18 q1), (A7 19 q1), (A7 20 q1), (A7 21 q1), (A7 22 q1)]), (.agg [(A7 0 q11), (A7 1 q11), (A7 2 q11), (A7 3 q11), (A7 4 q11), (A7 5 q11), (A7 6 q11), (A7 7 q11), (A7 8 q11), (A7 9 q11), (A7 10 q11), (A7 11 q11), (A7 12 q11), (A7 13 q11), (A7 14 q11), (A7 15 q11), (A7 16 q11), (A7 17 q11), (A7 18 q11), (A7 19 q11)])])])], s11)) (oc (R.r T9 [(pt i), ((L6 a), .val), ((H8 b), .val), ((iI 1), .val), (c, .val)] s2) fun q13 s13 =>
 oc (R.r AL [(pt i), ((iI 4), .val)] s13) fun q14 s14 => some ([zA4], s14))))) := D9 []
theorem Rt : (run cfg).r MS [(.undef, (.ptr i 0)), (a, .val), (b, .val), (c, .val)] s = Ug (run cfg) i a b c s := Ed (s := KW) Tryz.func139
def Ui := eR Tryz.f140 FR LQ R [] (F5 Tryz.f140 [(pt i), (a, .val), (b, .val), (c, .val)] s)
def FF := eR Tryz.f140 FR LQ R (pb 15) (ms 72 [(3, a)] [(0, (.ptr i 0))] [(5, bx b 16), (6, bx c 3), (8, bv [d, e, f, g, h, o, p, q, r, t, u, v, w, x, y, z, A, B, C, D, E, F, G]), (9, bv [H, I, J, K, L]), (10, bv [M, N, O, P, Q, S, T, U, V, W, X, Y, Z, a1, a2, a3, a4, a5, a6, a7])] s)
theorem TE : Ui R i a b c s =
 (og (D5 16 a) <| og (D5 3 b) <| og (J4 (A7 3 a)) <| ob (A8 .eql (A7 8 a) (iI 0)) fun d1 => D6 d1 (oc (R.r Y1 [(pt i), ((A7 1 b), .val), ((iI 1), .val)] s) fun q2 s2 => oc (R.r T9 [(pt i), ((L6 a), .val), ((H8 b), .val), ((iI 0), .val), (c, .val)] s2) fun q3 s3 => og (D5 23 q3) <| oc (R.r Y1 [(pt i), ((A7 1 b), .val), ((.int .i64 (-1)), .val)] s3) fun q4 s4 => og (J4 (A7 1 b)) <| FF R i c a b (iI 0) (iI 0) (.list 3 []) (iI 0) (iI 0) (iI 0) (.str ⟨#[]⟩) (.str ⟨#[]⟩) (iI 0) (.str ⟨#[]⟩) (iI 0) (iI 0) (.bool false) (.list 1 []) (iI 0) (iI 0) (.list 3 []) (iI 0) (iI 0) (.list 3 []) (.list 3 []) (.list 7 []) (.list 20 []) (A7 3 a) (A7 0 q3) (A7 1 q3) (A7 2 q3) (A7 1 b) (A7 3 q3) (A7 4 q3) (A7 5 q3) (A7 6 q3) (A7 7 q3) (A7 8 q3) (A7 9 q3) (A7 10 q3) (A7 11 q3) (A7 12 q3) (A7 13 q3) (A7 14 q3) (A7 15 q3) (A7 16 q3) (A7 17 q3) (A7 18 q3) (A7 19 q3) (A7 20 q3) (A7 21 q3) (A7 22 q3) s4) (oc (R.r M6 [(pt i), ((L6 a), .val), ((H8 b), .val), ((iI 0), .val), (c, .val), ((.agg [(A7 8 a), (A7 9 a), (A7 10 a)]), .val)] s) fun q5 s5 =>
 og (D5 20 q5) <| FF R i c a b (iI 0) (iI 0) (.list 3 []) (iI 0) (iI 0) (iI 0) (.str ⟨#[]⟩) (.str ⟨#[]⟩) (iI 0) (.str ⟨#[]⟩) (iI 0) (iI 0) (.bool false) (.list 1 []) (iI 0) (iI 0) (.list 3 []) (iI 0) (iI 0) (.list 3 []) (.list 3 []) (.list 7 []) (.list 20 []) (A7 3 a) (A7 8 a) (A7 9 a) (A7 10 a) (.list 1 []) (A7 0 q5) (A7 1 q5) (A7 2 q5) (A7 3 q5) (A7 4 q5) (A7 5 q5) (A7 6 q5) (A7 7 q5) (A7 8 q5) (A7 9 q5) (A7 10 q5) (A7 11 q5) (A7 12 q5) (A7 13 q5) (A7 14 q5) (A7 15 q5) (A7 16 q5) (A7 17 q5) (A7 18 q5) (A7 19 q5) s5)) := D9 [9]
theorem Ej : FF R i a b c d e f g h o p q r t u v w x y z A B C D E F G H I J K L M N O P Q S T U V W X Y Z a1 a2 a3 a4 a5 a6 a7 s =
 (oc (R.r Br [(a, .val), ((.list 5 [(.agg [H, I, J, K, L])]), .val)] s) fun q1 s1 => oc (R.r T9 [(pt i), ((L6 b), .val), ((H8 c), .val), ((iI 1), .val), (q1, .val)] s1) fun q2 s2 => og (D5 23 q2) <| og (J4 (A7 3 b)) <| og (J4 L) <| some ([(.agg [(A7 0 q2), (A7 1 q2), (A7 2 q2), (iI 11), (iI 0), (iI 0), (A7 3 b), (.str ⟨#[]⟩), (iI 0), (.str ⟨#[]⟩), (iI 0), (iI 0), (.bool false), L, (iI 0), (iI 0), (.list 3 []), (iI 0), (iI 0), (.list 3 []), (.list 3 []), (.list 7 []), (.list 20 [(.agg [M, N, O, P, Q, S, T, U, V, W, X, Y, Z, a1, a2, a3, a4, a5, a6, a7]), (.agg [(A7 3 q2), (A7 4 q2), (A7 5 q2), (A7 6 q2), (A7 7 q2), (A7 8 q2), (A7 9 q2), (A7 10 q2), (A7 11 q2), (A7 12 q2), (A7 13 q2), (A7 14 q2), (A7 15 q2), (A7 16 q2), (A7 17 q2), (A7 18 q2), (A7 19 q2), (A7 20 q2), (A7 21 q2), (A7 22 q2)])])])], s2)) := D9 [9]
theorem Ru : (run cfg).r MU [(.undef, (.ptr i 0)), (a, .val), (b, .val), (c, .val)] s = Ui (run cfg) i a b c s := Ed (s := FR) Tryz.func140
def MW := eR Tryz.f141 FT LU R [] (F5 Tryz.f141 [(pt i), (a, .val), (b, .val), (c, .val)] s)
def FH := eR Tryz.f141 FT LU R (pb 31) (ms 86 [(3, a), (10, b)] [(0, (.ptr i 0))] [(5, bx c 16), (6, bx d 3), (8, some zb2), (9, bx e 3)] s)
theorem TF : MW R i a b c s =
 (og (D5 16 a) <| og (D5 3 b) <| ob (R.p L_ [(.agg [(A7 8 a), (A7 9 a), (A7 10 a)]), (A7 0 b)]) fun d1 => og (D5 3 d1) <| ob (A8 .eql (A7 8 a) (iI 0)) fun d2 => D6 d2 (ob (Dh 3 (A7 0 b) (some (iI 1)) none) fun d3 => FH R i c d3 a b d1 s) (FH R i c (A7 0 b) a b d1 s)) := D9 [5]
theorem QB : FH R i a b c d e s =
 (ob (R.p L_ [(.agg [(A7 11 c), (A7 12 c), (A7 13 c)]), b]) fun d1 => og (D5 3 d1) <| ob (R.p Lx [(H8 e), (H8 d1)]) fun d2 => og (J4 (A7 3 c)) <| og (D5 3 d2) <| oc (R.r Y1 [(pt i), ((A7 1 d), .val), ((iI 1), .val)] s) fun q3 s3 => og (J4 (A7 4 c)) <| oc (R.r Br [(a, .val), ((.list 5 [(.agg [(A7 3 c), (A7 0 d2), (A7 1 d2), (A7 2 d2), (.list 1 [])]), (.agg [(A7 4 c), (A7 0 e), (A7 1 e), (A7 2 e), (.list 1 [])])]), .val)] s3) fun q4 s4 => oc (R.r M6 [(pt i), ((L6 c), .val), ((H8 d), .val), ((iI 0), .val), (q4, .val), ((H8 d1), .val)] s4) fun q5 s5 => og (D5 20 q5) <| oc (R.r Y1 [(pt i), ((A7 1 d), .val), ((.int .i64 (-1)), .val)] s5) fun q6 s6 => og (J4 (A7 1 d)) <| oc (R.r Br [(a, .val), ((.list 5 [(.agg [(A7 3 c), (A7 0 d2), (A7 1 d2), (A7 2 d2), (A7 1 d)])]), .val)] s6) fun q7 s7 => oc (R.r T9 [(pt i), ((L6 c), .val), ((H8 d), .val), ((iI 1), .val), (q7, .val)] s7) fun q8 s8 =>
 og (D5 23 q8) <| og (J4 (A7 3 c)) <| og (J4 (A7 4 c)) <| og (J4 (A7 1 d)) <| some ([(.agg [(A7 0 q8), (A7 1 q8), (A7 2 q8), (iI 12), (iI 0), (iI 0), (A7 3 c), (A7 4 c), (iI 0), (.str ⟨#[]⟩), (iI 0), (iI 0), (.bool false), (A7 1 d), (A7 0 e), (A7 1 e), (A7 2 e), (A7 0 d1), (A7 1 d1), (A7 2 d1), (.list 3 []), (.list 7 []), (.list 20 [(.agg [(A7 0 q5), (A7 1 q5), (A7 2 q5), (A7 3 q5), (A7 4 q5), (A7 5 q5), (A7 6 q5), (A7 7 q5), (A7 8 q5), (A7 9 q5), (A7 10 q5), (A7 11 q5), (A7 12 q5), (A7 13 q5), (A7 14 q5), (A7 15 q5), (A7 16 q5), (A7 17 q5), (A7 18 q5), (A7 19 q5)]), (.agg [(A7 3 q8), (A7 4 q8), (A7 5 q8), (A7 6 q8), (A7 7 q8), (A7 8 q8), (A7 9 q8), (A7 10 q8), (A7 11 q8), (A7 12 q8), (A7 13 q8), (A7 14 q8), (A7 15 q8), (A7 16 q8), (A7 17 q8), (A7 18 q8), (A7 19 q8), (A7 20 q8), (A7 21 q8), (A7 22 q8)])])])], s8)) := D9 [5]
theorem Rv : (run cfg).r MV [(.undef, (.ptr i 0)), (a, .val), (b, .val), (c, .val)] s = MW (run cfg) i a b c s := Ed (s := FT) Tryz.func141
def Rb := eR Tryz.f142 CY El R [] (F5 Tryz.f142 [(pt i), (a, .val), (b, .val), (c, .val)] s)
def Bu := hR Tryz.f142 CY El R (pb 122) (ms 95 [(3, a), (11, b), (35, c), (36, d), (37, e)] [(0, (.ptr i 0)), (11, .own)] [(5, bx f 16), (6, bx g 3), (8, bv [h, o, p, q, r, t, u, v, w, x, y, z, A, B, C, D, E, F, G, H, I, J, K]), (9, bx L 3), (10, bx M 3)] s)
def Be := hR Tryz.f142 CY El R (pb 1002746) (ms 95 [(3, a), (11, b), (12, c), (16, d), (35, e), (36, f), (37, g), (60, h), (61, o), (62, p)] [(0, (.ptr i 0)), (11, .own), (16, .own)] [(5, bx q 16), (6, bx r 3), (8, bv [t, u, v, w, x, y, z, A, B, C, D, E, F, G, H, I, J, K, L, M, N, O, P]), (9, bx Q 3), (10, bx S 3)] s)
theorem QA : Rb R i a b c s =
 (og (D5 16 a) <| og (D5 3 b) <| ob (F3 3 (A7 0 b) (iI 0)) fun d1 => ob (F3 3 (A7 0 b) (iI 1)) fun d2 => oc (R.r M6 [(pt i), ((L6 a), .val), ((H8 b), .val), ((iI 0), .val), (c, .val), ((H8 d1), .val)] s) fun q3 s3 => og (D5 20 q3) <| ob (dLen (A7 14 a)) fun d4 => Bu R i c (.list 20 [q3]) (A7 14 a) d4 (iI 0) a b (iI 0) (iI 0) (.list 3 []) (iI 0) (iI 0) (iI 0) (.str ⟨#[]⟩) (.str ⟨#[]⟩) (iI 0) (.str ⟨#[]⟩) (iI 0) (iI 0) (.bool false) (.list 1 []) (iI 0) (iI 0) (.list 3 []) (iI 0) (iI 0) (.list 3 []) (.list 3 []) (.list 7 []) (.list 20 []) d1 d2 s3) := D9 []
theorem Bg : Bu R i a b c d e f g h o p q r t u v w x y z A B C D E F G H I J K L M s =
 (ob (A8 .lss e d) fun d1 => D6 d1 (ob (F3 7 c e) fun d2 => oc (R.r AU [(pt i)] s) fun q3 s3 => ob (Q5 .not q3) fun d4 => D6 d4 (some ([zA4], s3)) (ob (R.p fD [(GD d2), (H8 L)]) fun d5 => ob (N8 0 d5) fun d6 => ob (N8 1 d5) fun d7 => ob (A8 .neq d7 (iI 0)) fun d8 => D6 d8 (oc (R.r AL [(pt i), (d7, .val)] s3) fun q9 s9 => some ([zA4], s9)) (oc (R.r Br [(a, .val), ((.list 5 []), .val)] s3) fun q10 s10 => ob (dLen d6) fun AC => Be R i a b e q10 c d e d6 AC (iI 0) f g h o p q r t u v w x y z A B C D E F G H I J K L M s10))) (og (J4 (A7 14 f)) <| some ([(.agg [(A7 0 M), (A7 1 M), (A7 2 M), (iI 14), (A7 1 f), (A7 2 f), (.str ⟨#[]⟩), (.str ⟨#[]⟩), (iI 0), (.str ⟨#[]⟩), (iI 0), (iI 0), (.bool false), (.list 1 []), (iI 0), (iI 0), (.list 3 []), (iI 0), (iI 0), (.list 3 []), (.list 3 []), (A7 14 f), b])], s))) := H5 []
theorem FX : Be R i a b c d e f g h o p q r t u v w x y z A B C D E F G H I J K L M N O P Q S s =
 (ob (A8 .lss p o) fun d1 => D6 d1 (ob (F3 4 h p) fun d2 => og (J4 (A7 0 d2)) <| ob (R6 5 d (.list 5 [(.agg [(A7 0 d2), (A7 1 d2), (A7 2 d2), (A7 3 d2), (.list 1 [])])])) fun d3 => ob (A8 .add p (iI 1)) fun d4 => Be R i a b c d3 e f g h o d4 q r t u v w x y z A B C D E F G H I J K L M N O P Q S s) (ob (A8 .add c (iI 1)) fun d5 => oc (R.r M6 [(pt i), ((L6 q), .val), ((H8 r), .val), (d5, .val), (d, .val), ((H8 S), .val)] s) fun q6 s6 => og (D5 20 q6) <| ob (R6 20 b (.list 20 [q6])) fun d7 => ob (A8 .add g (iI 1)) fun d8 => Bu R i a d7 e f d8 q r t u v w x y z A B C D E F G H I J K L M N O P Q S s6)) := H5 []
theorem PI : (run cfg).r JV [(.undef, (.ptr i 0)), (a, .val), (b, .val), (c, .val)] s = Rb (run cfg) i a b c s := Ed (s := CY) Tryz.func142
def xy := eP Tryz.f143 aH R [] (F5 Tryz.f143 [(a, .val)] [])
def OU := eP Tryz.f143 aH R (pb 430) (ms 28 [] [] [(1, bx a 16)] [])
theorem sJ : xy R a =
 (og (D5 16 a) <| ob (A8 .eql (A7 0 a) (iI 1)) fun d1 => D6 d1 (some (.bool true)) (ob (A8 .eql (A7 0 a) (iI 2)) fun d2 => D6 d2 (some (.bool true)) (ob (A8 .eql (A7 0 a) (iI 3)) fun d3 => D6 d3 (some (.bool true)) (ob (A8 .eql (A7 0 a) (iI 4)) fun d4 => D6 d4 (some (.bool true)) (ob (A8 .eql (A7 0 a) (iI 5)) fun d5 => D6 d5 (some (.bool true)) (ob (A8 .eql (A7 0 a) (iI 7)) fun d6 => D6 d6 (some (.bool true)) (ob (A8 .eql (A7 0 a) (iI 9)) fun d7 => D6 d7 (some (.bool true)) (ob (A8 .eql (A7 0 a) (iI 6)) fun d8 => D6 d8 (OU R a) (ob (A8 .eql (A7 0 a) (iI 8)) fun d9 => D6 d9 (OU R a) (some (.bool false))))))))))) := D9 [12]
theorem cK : OU R a =
 (ob (F3 16 (A7 15 a) (iI 0)) fun d1 => ob (R.p Pj [(L6 d1)]) fun d2 => I6 d2 (ob (F3 16 (A7 15 a) (iI 1)) fun d3 => ob (R.p Pj [(L6 d3)]) fun d4 => some d4) (some (.bool false)) none) := D9 [12]
theorem ol : (run cfg).p Pj [a] = xy (run cfg) a := O9 Tryz.func143
def A00 := eP Tryz.f144 zU R [] (F5 Tryz.f144 [(a, .val), (b, .val)] [])
theorem yu : A00 R a b =
 (og (D5 3 a) <| og (D5 3 b) <| ob (dLen (A7 2 a)) fun d1 => ob (A8 .eql d1 (iI 0)) fun d2 => I6 d2 (ob (A8 .eql (A7 0 a) (A7 0 b)) fun d3 => I6 d3 (ob (A8 .eql (A7 1 a) (A7 1 b)) fun d4 => some d4) (some (.bool false)) none) (some (.bool false)) none) := D9 []
theorem uI : (run cfg).p kN [a, b] = A00 (run cfg) a b := O9 Tryz.func144
def A01 := eP Tryz.f145 zV R [] (F5 Tryz.f145 [(a, .val), (b, .val)] [])
theorem yw : A01 R a b =
 (og (D5 3 a) <| og (D5 3 b) <| ob (dLen (A7 2 a)) fun d1 => ob (A8 .gtr d1 (iI 0)) fun d2 => I6 d2 (ob (A8 .eql (A7 0 a) (A7 0 b)) fun d3 => some d3) (some (.bool false)) none) := D9 []
theorem uJ : (run cfg).p kP [a, b] = A01 (run cfg) a b := O9 Tryz.func145
def xn := eP Tryz.f146 uU R [] (F5 Tryz.f146 [(a, .val)] [])
theorem sD : xn R a =
 (ob (A8 .geq a (.int .u8 48)) fun d1 => I6 d1 (ob (A8 .leq a (.int .u8 57)) fun d2 => some d2) (some (.bool false)) none) := D9 []
theorem oU : (run cfg).p fF [a] = xn (run cfg) a := O9 Tryz.func146
def A07 := eP Tryz.f147 zZ R [] (F5 Tryz.f147 [(a, .val)] [])
theorem zB : A07 R a =
 (ob (A8 .eql a (.str ⟨#[108, 101, 116]⟩)) fun d1 => D6 d1 (some (.bool true)) (ob (A8 .eql a (.str ⟨#[114, 101, 99]⟩)) fun d2 => D6 d2 (some (.bool true)) (ob (A8 .eql a (.str ⟨#[105, 110]⟩)) fun d3 => D6 d3 (some (.bool true)) (ob (A8 .eql a (.str ⟨#[102, 117, 110]⟩)) fun d4 => D6 d4 (some (.bool true)) (ob (A8 .eql a (.str ⟨#[105, 102]⟩)) fun d5 => D6 d5 (some (.bool true)) (ob (A8 .eql a (.str ⟨#[116, 104, 101, 110]⟩)) fun d6 => D6 d6 (some (.bool true)) (ob (A8 .eql a (.str ⟨#[101, 108, 115, 101]⟩)) fun d7 => D6 d7 (some (.bool true)) (ob (A8 .eql a (.str ⟨#[109, 97, 116, 99, 104]⟩)) fun d8 => D6 d8 (some (.bool true)) (ob (A8 .eql a (.str ⟨#[119, 105, 116, 104]⟩)) fun d9 => D6 d9 (some (.bool true)) (ob (A8 .eql a (.str ⟨#[101, 110, 100]⟩)) fun W9 => D6 W9 (some (.bool true)) (ob (A8 .eql a (.str ⟨#[116, 114, 117, 101]⟩)) fun AC => D6 AC (some (.bool true)) (ob (A8 .eql a (.str ⟨#[102, 97, 108, 115, 101]⟩)) fun Ap => D6 Ap (some (.bool true)) (ob (A8 .eql a (.str ⟨#[105, 110, 116]⟩)) fun EL => D6 EL (some (.bool true)) (ob (A8 .eql a (.str ⟨#[98, 111, 111, 108]⟩)) fun FP => D6 FP (some (.bool true)) (ob (A8 .eql a (.str ⟨#[115, 116, 114, 105, 110, 103]⟩)) fun Gg =>
 D6 Gg (some (.bool true)) (ob (A8 .eql a (.str ⟨#[117, 110, 105, 116]⟩)) fun d16 => D6 d16 (some (.bool true)) (ob (A8 .eql a (.str ⟨#[108, 105, 115, 116]⟩)) fun d17 => D6 d17 (some (.bool true)) (some (.bool false))))))))))))))))))) := D9 []
theorem uO : (run cfg).p kR [a] = A07 (run cfg) a := O9 Tryz.func147
def qy := eP Tryz.f148 pm R [] (F5 Tryz.f148 [(a, .val)] [])
theorem oC : qy R a =
 (ob (A8 .geq a (.int .u8 97)) fun d1 => I6 d1 (ob (A8 .leq a (.int .u8 122)) fun d2 => I6 d2 (some (.bool true)) (ob (A8 .geq a (.int .u8 65)) fun d3 => I6 d3 (ob (A8 .leq a (.int .u8 90)) fun d4 => I6 d4 (some (.bool true)) (ob (A8 .geq a (.int .u8 48)) fun d5 => I6 d5 (ob (A8 .leq a (.int .u8 57)) fun d6 => I6 d6 (some (.bool true)) (ob (A8 .eql a (.int .u8 95)) fun d7 => I6 d7 (some (.bool true)) (ob (A8 .eql a (.int .u8 39)) fun d8 => some d8) none) none) (ob (A8 .eql a (.int .u8 95)) fun d9 => I6 d9 (some (.bool true)) (ob (A8 .eql a (.int .u8 39)) fun W9 => some W9) none) none) none) (ob (A8 .geq a (.int .u8 48)) fun AC => I6 AC (ob (A8 .leq a (.int .u8 57)) fun Ap => I6 Ap (some (.bool true)) (ob (A8 .eql a (.int .u8 95)) fun EL => I6 EL (some (.bool true)) (ob (A8 .eql a (.int .u8 39)) fun FP => some FP) none) none) (ob (A8 .eql a (.int .u8 95)) fun Gg => I6 Gg (some (.bool true)) (ob (A8 .eql a (.int .u8 39)) fun d16 => some d16) none) none) none) none) (ob (A8 .geq a (.int .u8 65)) fun d17 => I6 d17 (ob (A8 .leq a (.int .u8 90)) fun d18 => I6 d18 (some (.bool true)) (ob (A8 .geq a (.int .u8 48)) fun d19 =>
 I6 d19 (ob (A8 .leq a (.int .u8 57)) fun d20 => I6 d20 (some (.bool true)) (ob (A8 .eql a (.int .u8 95)) fun d21 => I6 d21 (some (.bool true)) (ob (A8 .eql a (.int .u8 39)) fun d22 => some d22) none) none) (ob (A8 .eql a (.int .u8 95)) fun d23 => I6 d23 (some (.bool true)) (ob (A8 .eql a (.int .u8 39)) fun d24 => some d24) none) none) none) (ob (A8 .geq a (.int .u8 48)) fun d25 => I6 d25 (ob (A8 .leq a (.int .u8 57)) fun d26 => I6 d26 (some (.bool true)) (ob (A8 .eql a (.int .u8 95)) fun d27 => I6 d27 (some (.bool true)) (ob (A8 .eql a (.int .u8 39)) fun d28 => some d28) none) none) (ob (A8 .eql a (.int .u8 95)) fun d29 => I6 d29 (some (.bool true)) (ob (A8 .eql a (.int .u8 39)) fun d30 => some d30) none) none) none) none) := D9 []
theorem jR : (run cfg).p ZJ [a] = qy (run cfg) a := O9 Tryz.func148
end
end Go.Su

/-
 Equations of the program's functions: by program.
-/
namespace Go.Su
noncomputable section
open Go.Proofs
variable (R : N7) (i j k l m n : Nat) (a b c d e f g h o p q r t u v w x y z A B C D E F G H I J K L M N O P Q S T U V W X Y Z a1 a2 a3 a4 a5 a6 a7 a8 a9 ZU Uj a12 a13 a14 Xq a16 a17 a18 a19 a20 a21 a22 a23 a24 a25 a26 a27 a28 a29 a30 a31 a32 a33 a34 a35 a36 a37 a38 a39 a40 a41 a42 a43 a44 a45 a46 a47 a48 a49 a50 a51 a52 a53 a54 a55 a56 a57 a58 a59 : DV) (s : List D7)
def qw := eP Tryz.f149 pY R [] (F5 Tryz.f149 [(a, .val)] [])
theorem ny : qw R a =
 (og (D5 3 a) <| ob (R.p Ld [(H8 a), (iI 6)]) fun d1 => some d1) := D9 []
theorem jP : (run cfg).p ND [a] = qw (run cfg) a := O9 Tryz.func149
def m_ := eP Tryz.f151 Ve R [] (F5 Tryz.f151 [(a, .val)] [])
def Y8 := eP Tryz.f151 Ve R (pb 15) (ms 83 [(4, a)] [] [(1, bx b 7), (3, bv [c, d, e, f, g, h, o])] [])
set_option maxRecDepth 100000 in
theorem iY : m_ R a =
 (og (D5 7 a) <| og (J4 (A7 0 a)) <| og (J4 (A7 6 a)) <| ob (A8 .eql (A7 0 a) (iI 1)) fun d1 => D6 d1 (Y8 R (iI 0) a (A7 0 a) (A7 1 a) (A7 2 a) (.str ⟨#[]⟩) (iI 0) (.str ⟨#[]⟩) (A7 6 a)) (ob (A8 .eql (A7 0 a) (iI 6)) fun d2 => D6 d2 (Y8 R (iI 0) a (A7 0 a) (A7 1 a) (A7 2 a) (.str ⟨#[]⟩) (iI 0) (.str ⟨#[]⟩) (A7 6 a)) (ob (A8 .eql (A7 0 a) (iI 8)) fun d3 => D6 d3 (Y8 R (iI 0) a (A7 0 a) (A7 1 a) (A7 2 a) (.str ⟨#[]⟩) (iI 0) (.str ⟨#[]⟩) (A7 6 a)) (ob (A8 .eql (A7 0 a) (iI 2)) fun d4 => D6 d4 (og (J4 (A7 3 a)) <| ob (R.p Po [(A7 3 a)]) fun d5 => ob (Q5 .not d5) fun d6 => D6 d6 (some (.bool false)) (Y8 R (iI 0) a (A7 0 a) (A7 1 a) (A7 2 a) (A7 3 a) (iI 0) (.str ⟨#[]⟩) (A7 6 a))) (ob (A8 .eql (A7 0 a) (iI 3)) fun d7 => D6 d7 (og (J4 (A7 4 a)) <| Y8 R (iI 0) a (A7 0 a) (A7 1 a) (A7 2 a) (.str ⟨#[]⟩) (A7 4 a) (.str ⟨#[]⟩) (A7 6 a)) (ob (A8 .eql (A7 0 a) (iI 4)) fun d8 =>
 D6 d8 (og (J4 (A7 4 a)) <| ob (A8 .neq (A7 4 a) (iI 0)) fun d9 => I6 d9 (ob (A8 .neq (A7 4 a) (iI 1)) fun W9 => D6 W9 (some (.bool false)) (Y8 R (iI 0) a (A7 0 a) (A7 1 a) (A7 2 a) (.str ⟨#[]⟩) (A7 4 a) (.str ⟨#[]⟩) (A7 6 a))) (Y8 R (iI 0) a (A7 0 a) (A7 1 a) (A7 2 a) (.str ⟨#[]⟩) (A7 4 a) (.str ⟨#[]⟩) (A7 6 a)) none) (ob (A8 .eql (A7 0 a) (iI 5)) fun AC => D6 AC (og (J4 (A7 5 a)) <| ob (DT (A7 5 a)) fun Ap => ob (A8 .gtr Ap (iI 200)) fun EL => D6 EL (some (.bool false)) (Y8 R (iI 0) a (A7 0 a) (A7 1 a) (A7 2 a) (.str ⟨#[]⟩) (iI 0) (A7 5 a) (A7 6 a))) (ob (A8 .eql (A7 0 a) (iI 7)) fun FP => D6 FP (Y8 R (iI 2) a (A7 0 a) (A7 1 a) (A7 2 a) (.str ⟨#[]⟩) (iI 0) (.str ⟨#[]⟩) (A7 6 a)) (ob (A8 .eql (A7 0 a) (iI 9)) fun Gg => D6 Gg (Y8 R (iI 2) a (A7 0 a) (A7 1 a) (A7 2 a) (.str ⟨#[]⟩) (iI 0) (.str ⟨#[]⟩) (A7 6 a)) (some (.bool false))))))))))) := D9 [24]
set_option maxRecDepth 100000 in
theorem Xz : Y8 R a b c d e f g h o =
 (ob (dLen (A7 6 b)) fun d1 => ob (A8 .eql d1 a) fun d2 => I6 d2 (ob (A8 .eql f (A7 3 b)) fun d3 => I6 d3 (ob (A8 .eql g (A7 4 b)) fun d4 => I6 d4 (ob (A8 .eql h (A7 5 b)) fun d5 => some d5) (some (.bool false)) none) (some (.bool false)) none) (some (.bool false)) none) := D9 [24]
theorem dP : (run cfg).p XO [a] = m_ (run cfg) a := O9 Tryz.func151
def yJ := eP Tryz.f152 uk R [] (F5 Tryz.f152 [(a, .val)] [])
theorem tJ : yJ R a =
 (ob (A8 .eql a (iI 1)) fun d1 => D6 d1 (some (iI 0)) (ob (A8 .eql a (iI 2)) fun d2 => D6 d2 (some (iI 0)) (ob (A8 .eql a (iI 3)) fun d3 => D6 d3 (some (iI 0)) (ob (A8 .eql a (iI 4)) fun d4 => D6 d4 (some (iI 0)) (ob (A8 .eql a (iI 5)) fun d5 => D6 d5 (some (iI 0)) (ob (A8 .eql a (iI 6)) fun d6 => D6 d6 (some (iI 0)) (ob (A8 .eql a (iI 8)) fun d7 => D6 d7 (some (iI 1)) (ob (A8 .eql a (iI 7)) fun d8 => D6 d8 (some (iI 2)) (ob (A8 .eql a (iI 9)) fun d9 => D6 d9 (some (iI 2)) (some (.int .i64 (-1)))))))))))) := D9 []
theorem pM : (run cfg).p fJ [a] = yJ (run cfg) a := O9 Tryz.func152
def qo := eP Tryz.f153 pX R [] (F5 Tryz.f153 [(a, .val)] [])
theorem nY : qo R a =
 (og (D5 16 a) <| ob (R.p SQ [(L6 a)]) fun d1 => ob (A8 .eql d1 (iI 0)) fun d2 => I6 d2 (ob (R.p NC [(L6 a)]) fun d3 => some d3) (some (.bool false)) none) := D9 []
theorem jN : (run cfg).p ZI [a] = qo (run cfg) a := O9 Tryz.func153
def Oz := eP Tryz.f154 Gr R [] (F5 Tryz.f154 [(a, .val), (b, .val)] [])
def Cz := hP Tryz.f154 Gr R (pb 26) (ms 19 [(0, a), (1, b), (7, c), (8, d)] [] [] [])
theorem NZ : Oz R a b =
 (ob (dLen a) fun d1 => Cz R a b d1 (iI 0)) := D9 []
theorem Ey : Cz R a b c d =
 (ob (A8 .lss d c) fun d1 => D6 d1 (ob (F3 1 a d) fun d2 => og (M7 d2) <| ob (A8 .eql b d2) fun d3 => D6 d3 (some d) (ob (A8 .add d (iI 1)) fun d4 => Cz R a b c d4)) (some (.int .i64 (-1)))) := H5 []
theorem Mv : (run cfg).p Hd [a, b] = Oz (run cfg) a b := O9 Tryz.func154
def nA := eP Tryz.f155 Vf R [] (F5 Tryz.f155 [(a, .val), (b, .val)] [])
def Gd := hP Tryz.f155 Vf R (pb 58) (ms 23 [(1, a), (12, b), (13, c), (14, d)] [] [] [])
theorem iq : nA R a b =
 (og (D5 3 a) <| ob (A8 .eql (A7 0 a) b) fun d1 => D6 d1 (some (.bool false)) (ob (dLen (A7 2 a)) fun d2 => Gd R b (A7 2 a) d2 (iI 0))) := D9 []
theorem PW : Gd R a b c d =
 (ob (A8 .lss d c) fun d1 => D6 d1 (ob (F3 3 b d) fun d2 => ob (R.p Ld [(H8 d2), a]) fun d3 => ob (Q5 .not d3) fun d4 => D6 d4 (some (.bool false)) (ob (A8 .add d (iI 1)) fun d5 => Gd R a b c d5)) (some (.bool true))) := H5 []
theorem dQ : (run cfg).p Ld [a, b] = nA (run cfg) a b := O9 Tryz.func155
def A06 (R : N7) (x0 : DV) (x1 : Nat) (x2 : DV) (sg : List D7) : Option (List DV × List D7) := eR Tryz.f156 Nu WL R [] (F5 Tryz.f156 [(x0, .val), (.undef, (.map x1)), (x2, .own)] sg)
def NH := eR Tryz.f156 Nu WL R (pb 7) (ms 40 [(2, a)] [(1, (.map i)), (2, .own)] [(3, bx b 3)] s)
def Qk := hR Tryz.f156 Nu WL R (pb 58) (ms 40 [(2, a), (28, b), (29, c), (30, d)] [(1, (.map i)), (2, .own)] [] s)
theorem WH (R : N7) (x0 : DV) (x1 : Nat) (x2 : DV) (sg : List D7) : A06 R x0 x1 x2 sg =
 (og (D5 3 x0) <| ob (A8 .eql (A7 0 x0) (iI 6)) fun d1 => D6 d1 (og (isKey false (A7 1 x0) && true) <| ob (AJ sg x1) fun m2 => og (m2.1 == false) <| ob (A8 .eql ((Z4 m2.2 (A7 1 x0)).getD (iI 0)) (iI 0)) fun d3 => D6 d3 (og (J4 (A7 1 x0)) <| ob (R6 1 x2 (.list 1 [(A7 1 x0)])) fun d4 => og (isKey false (A7 1 x0) && true) <| ob (AJ sg x1) fun m5 => og (m5.1 == false) <| ob (A8 .add ((Z4 m5.2 (A7 1 x0)).getD (iI 0)) (iI 1)) fun d6 => og (isKey false (A7 1 x0) && true && true) <| ob (AJ sg x1) fun m7 => og (m7.1 == false) <| NH R x1 d4 x0 (sg.set x1 (.map false (Cc m7.2 (A7 1 x0) d6)))) (og (isKey false (A7 1 x0) && true) <| ob (AJ sg x1) fun m8 => og (m8.1 == false) <| ob (A8 .add ((Z4 m8.2 (A7 1 x0)).getD (iI 0)) (iI 1)) fun d9 => og (isKey false (A7 1 x0) && true && true) <| ob (AJ sg x1) fun m10 => og (m10.1 == false) <| NH R x1 x2 x0 (sg.set x1 (.map false (Cc m10.2 (A7 1 x0) d9))))) (NH R x1 x2 x0 sg)) := D9 [5]
theorem n_ : NH R i a b s =
 (ob (dLen (A7 2 b)) fun d1 => Qk R i a (A7 2 b) d1 (iI 0) s) := D9 [5]
theorem VS : Qk R i a b c d s =
 (ob (A8 .lss d c) fun d1 => D6 d1 (ob (F3 3 b d) fun d2 => oc (R.r YR [((H8 d2), .val), (.undef, (.map i)), (a, .own)] s) fun q3 s3 => ob (A8 .add d (iI 1)) fun d4 => Qk R i q3 b c d4 s3) (some ([a], s))) := H5 [5]
theorem Tq (x0 : DV) (x1 : Nat) (x2 : DV) (sg : List D7) : (run cfg).r YR [(x0, .val), (.undef, (.map x1)), (x2, .own)] sg = A06 (run cfg) x0 x1 x2 sg := Ed (s := Nu) Tryz.func156
def gm := eP Tryz.f157 Tt R [] (F5 Tryz.f157 [(a, .val), (b, .val)] [])
def JF := hP Tryz.f157 Tt R (pb 58) (ms 49 [(33, a), (34, b), (35, c)] [] [(3, bx d 3)] [])
theorem bu : gm R a b =
 (og (D5 3 a) <| og (D5 3 b) <| ob (A8 .eql (A7 0 a) (iI 5)) fun d1 => D6 d1 (ob (R.p ND [(H8 b)]) fun d2 => some d2) (ob (A8 .eql (A7 0 b) (iI 5)) fun d3 => D6 d3 (ob (R.p ND [(H8 a)]) fun d4 => some d4) (ob (A8 .neq (A7 0 a) (A7 0 b)) fun d5 => I6 d5 (some (.bool false)) (ob (A8 .neq (A7 1 a) (A7 1 b)) fun d6 => D6 d6 (some (.bool false)) (ob (dLen (A7 2 a)) fun d7 => JF R (A7 2 a) d7 (iI 0) b)) none))) := D9 []
theorem NP : JF R a b c d =
 (ob (A8 .lss c b) fun d1 => D6 d1 (ob (F3 3 a c) fun d2 => ob (F3 3 (A7 2 d) c) fun d3 => ob (R.p OB [(H8 d2), (H8 d3)]) fun d4 => ob (Q5 .not d4) fun d5 => D6 d5 (some (.bool false)) (ob (A8 .add c (iI 1)) fun d6 => JF R a b d6 d)) (some (.bool true))) := H5 []
theorem Zp : (run cfg).p OB [a, b] = gm (run cfg) a b := O9 Tryz.func157
def xh := eP Tryz.f158 uS R [] (F5 Tryz.f158 [(a, .val), (b, .val)] [])
theorem rz : xh R a b =
 (og (D5 7 a) <| og (D5 3 b) <| ob (R.p Ma [(GD a)]) fun d1 => ob (A8 .neq d1 (iI 0)) fun d2 => I6 d2 (some (.H7 [(.list 4 []), (iI 1)])) (ob (R.p Eh [(H8 b)]) fun d3 => ob (A8 .neq d3 (iI 0)) fun d4 => D6 d4 (some (.H7 [(.list 4 []), (iI 1)])) (ob (R.r Pf [((GD a), .val), ((H8 b), .val), ((.list 4 []), .own)] []) fun q5 => ob (N8 0 (.H7 q5.1)) fun d6 => ob (N8 1 (.H7 q5.1)) fun d7 => ob (Q5 .not d7) fun d8 => D6 d8 (some (.H7 [(.list 4 []), (iI 4)])) (some (.H7 [d6, (iI 0)])))) none) := D9 []
theorem oP : (run cfg).p fD [a, b] = xh (run cfg) a b := O9 Tryz.func158
def qp := eP Tryz.f161 Xh R [] (F5 Tryz.f161 [(a, .val)] [])
def Mk := eP Tryz.f161 Xh R (pb 430) (ms 28 [] [] [(1, bx a 16)] [])
theorem nu : qp R a =
 (og (D5 16 a) <| ob (A8 .eql (A7 0 a) (iI 1)) fun d1 => D6 d1 (some (.bool true)) (ob (A8 .eql (A7 0 a) (iI 2)) fun d2 => D6 d2 (some (.bool true)) (ob (A8 .eql (A7 0 a) (iI 3)) fun d3 => D6 d3 (some (.bool true)) (ob (A8 .eql (A7 0 a) (iI 4)) fun d4 => D6 d4 (some (.bool true)) (ob (A8 .eql (A7 0 a) (iI 5)) fun d5 => D6 d5 (some (.bool true)) (ob (A8 .eql (A7 0 a) (iI 7)) fun d6 => D6 d6 (some (.bool true)) (ob (A8 .eql (A7 0 a) (iI 9)) fun d7 => D6 d7 (some (.bool true)) (ob (A8 .eql (A7 0 a) (iI 6)) fun d8 => D6 d8 (Mk R a) (ob (A8 .eql (A7 0 a) (iI 8)) fun d9 => D6 d9 (Mk R a) (some (.bool false))))))))))) := D9 [12]
theorem Zo : Mk R a =
 (ob (F3 16 (A7 15 a) (iI 0)) fun d1 => ob (R.p NC [(L6 d1)]) fun d2 => I6 d2 (ob (F3 16 (A7 15 a) (iI 1)) fun d3 => ob (R.p NC [(L6 d3)]) fun d4 => some d4) (some (.bool false)) none) := D9 [12]
theorem jO : (run cfg).p NC [a] = qp (run cfg) a := O9 Tryz.func161
def xk := eR Tryz.f162 Lv UB R [] (F5 Tryz.f162 [(a, .val), (b, .val), (c, .own)] s)
def Je := eR Tryz.f162 Lv UB R (pb 15) (ms 73 [(2, a), (8, b)] [(2, .own)] [(3, bx c 7)] s)
def II := hR Tryz.f162 Lv UB R (pb 122) (ms 73 [(2, a), (8, b), (52, c), (53, d), (54, e)] [(2, .own)] [] s)
theorem B_ : xk R a b c s =
 (og (D5 7 a) <| og (D5 3 b) <| ob (A8 .eql (A7 0 a) (iI 1)) fun d1 => D6 d1 (some ([c, (.bool true)], s)) (ob (A8 .eql (A7 0 a) (iI 2)) fun d2 => D6 d2 (og (J4 (A7 3 a)) <| ob (R6 4 c (.list 4 [(.agg [(A7 3 a), (A7 0 b), (A7 1 b), (A7 2 b)])])) fun d3 => some ([d3, (.bool true)], s)) (ob (A8 .eql (A7 0 a) (iI 7)) fun d4 => D6 d4 (ob (A8 .neq (A7 0 b) (iI 7)) fun d5 => D6 d5 (some ([(.list 4 []), (.bool false)], s)) (Je R c (A7 2 b) a s)) (ob (A8 .eql (A7 0 a) (iI 9)) fun d6 => D6 d6 (ob (A8 .neq (A7 0 b) (iI 8)) fun d7 => D6 d7 (some ([(.list 4 []), (.bool false)], s)) (ob (F3 3 (A7 2 b) (iI 0)) fun d8 => Je R c (.list 3 [(H8 d8), (H8 b)]) a s)) (ob (R.p fE [(A7 0 a)]) fun d9 => ob (A8 .eql (A7 0 b) d9) fun W9 => some ([c, W9], s)))))) := D9 [16]
theorem b_ : Je R a b c s =
 (ob (dLen (A7 6 c)) fun d1 => II R a b (A7 6 c) d1 (iI 0) s) := D9 [16]
theorem Gm : II R a b c d e s =
 (ob (A8 .lss e d) fun d1 => D6 d1 (ob (F3 7 c e) fun d2 => ob (F3 3 b e) fun d3 => ob (R.r Pf [((GD d2), .val), ((H8 d3), .val), (a, .own)] s) fun q4 => ob (N8 0 (.H7 q4.1)) fun d5 => ob (N8 1 (.H7 q4.1)) fun d6 => ob (Q5 .not d6) fun d7 => D6 d7 (some ([(.list 4 []), (.bool false)], q4.2)) (ob (A8 .add e (iI 1)) fun d8 => II R d5 b c d d8 q4.2)) (some ([a, (.bool true)], s))) := H5 [16]
theorem BN : (run cfg).r Pf [(a, .val), (b, .val), (c, .own)] s = xk (run cfg) a b c s := Ed (s := Lv) Tryz.func162
def xm := eP Tryz.f163 uT R [] (F5 Tryz.f163 [(a, .val)] [])
theorem r_ : xm R a =
 (ob (A8 .eql a (iI 3)) fun d1 => D6 d1 (some (iI 1)) (ob (A8 .eql a (iI 4)) fun d2 => D6 d2 (some (iI 2)) (ob (A8 .eql a (iI 5)) fun d3 => D6 d3 (some (iI 3)) (ob (A8 .eql a (iI 6)) fun d4 => D6 d4 (some (iI 4)) (ob (A8 .eql a (iI 8)) fun d5 => D6 d5 (some (iI 8)) (some (iI 0))))))) := D9 []
theorem oQ : (run cfg).p fE [a] = xm (run cfg) a := O9 Tryz.func163
end
end Go.Su

/-
 All equations.
-/
namespace Go.Su
end Go.Su

/-
 The functions' specs that this claim needs.
-/
namespace Go.Su
theorem big {n : Nat} (h : n ≤ lim) : n < 4294967297 := by unfold lim at h; omega
theorem Ty.B2y {t k : Ty} (ht : t.size ≤ lim) (h : k ∈ t.kids) : k.size ≤ lim := by have := Ty.bD h; omega
theorem Ty.A7n {t : Ty} (ht : t.size ≤ lim) : t.kids.length < 4294967296 := by have := t.vM; have := big ht; omega
theorem A6U (k : Int) : (run cfg).p kM [.int .i64 k] = some (.int .i64 (arity k)) := by
 refine (tZ _).trans ?_;rw [yV];simp [arity]
 by_cases h1 : k = 1 <;> by_cases h2 : k = 2 <;> by_cases h3 : k = 3 <;> by_cases h4 : k = 4 <;> by_cases h5 : k = 5 <;> by_cases h6 : k = 6 <;> by_cases h7 : k = 7 <;> by_cases h8 : k = 8 <;> by_cases h9 : k = 9 <;> simp_all
theorem A6m (k : Int) : (run cfg).p fJ [.int .i64 k] = some (.int .i64 (arity k)) := by
 refine (pM _).trans ?_;rw [tJ];simp [arity]
 by_cases h1 : k = 1 <;> by_cases h2 : k = 2 <;> by_cases h3 : k = 3 <;> by_cases h4 : k = 4 <;> by_cases h5 : k = 5 <;> by_cases h6 : k = 6 <;> by_cases h7 : k = 7 <;> by_cases h8 : k = 8 <;> by_cases h9 : k = 9 <;> simp_all
theorem v_ (t : Ty) : t.thin = true → (run cfg).p Ph [t.enc] = some (.bool t.right) := by
 induction t using Ty.ind with
 | h t ih =>
   intro ht;have hb := t.Ad ht;refine (oW _).trans ?_;have loop : GQ (run cfg) (.int .i64 0) t.enc = _ := Ni (l := t.kids) (f := Ty.right) (P := fun i => GQ (run cfg) (.int .i64 i) t.enc) (y := .bool true) (n := .bool false)
    (by rw [TU]; simp)
    (fun i h => by
      rw [TU];simp [h, F4 h, Ty.E8, Ty.ag, ih _ (List.getElem_mem h) (Ty.CF ht (List.getElem_mem h)), K6 (show i < 9223372036854775807 by omega)]
      cases t.kids[i].right <;> rfl)
   rw [sG];simp only [Ie, O8, Ty.Dy, Ty.LY, Ty.Ij, A6U, H6, BB, Im, Bz, Cb, V3, M9, loop, Ty.right_eq t, List.length_map]
   grind
theorem A6n (t : Ty) : t.thin = true → (run cfg).p WA [t.enc] = some (.bool t.right) := by
 induction t using Ty.ind with
 | h t ih =>
   intro ht;have hb := t.Ad ht;refine (pO _).trans ?_;have loop : Jl (run cfg) (.list 3 (t.kids.map Ty.enc)) (.int .i64 t.kids.length) (.int .i64 0) = _ := Ni (l := t.kids) (f := Ty.right) (P := fun i => Jl (run cfg) (.list 3 (t.kids.map Ty.enc)) (.int .i64 t.kids.length) (.int .i64 i)) (y := .bool true) (n := .bool false)
    (by rw [Tg]; simp)
    (fun i h => by
      rw [Tg];simp [h, F4 h, Ty.E8, Ty.ag, ih _ (List.getElem_mem h) (Ty.CF ht (List.getElem_mem h)), K6 (show i < 9223372036854775807 by omega)]
      cases t.kids[i].right <;> rfl)
   rw [tK];simp only [Ie, O8, Ty.Dy, Ty.LY, Ty.Ij, A6m, H6, BB, Im, Bz, Cb, VC, NJ, Bw, V3, M9, loop, Ty.right_eq t, List.length_map];have h0 : t.kind = 6 → arity t.kind = 0 := fun h => by rw [h]; rfl
   have h7 : t.kind = 6 → arity t.kind = t.kids.length → t.kids.all Ty.right = true := fun h h' => by
    have : t.kids = [] := List.eq_nil_of_length_eq_zero (by have := h0 h; omega)
    rw [this]; rfl
   have h8 : (t.kids.length : Int) = arity t.kind ↔ arity t.kind = t.kids.length := eq_comm;simp only [h8, A9C, A9B];refine B4F ?_
   by_cases h1 : arity t.kind = t.kids.length
   ·have h2 : ¬ (arity t.kind < 0) := by omega
    by_cases h4 : t.kind = 6
    ·simp [h1, h2, h4, h7 h4 h1]
     omega
    ·by_cases h5 : t.n = 0 <;> simp [h1, h2, h4, h5]
   ·by_cases h2 : arity t.kind < 0 <;> simp [h1, h2]
theorem CE (t : Ty) (ht : t.thin = true) : (run cfg).p Eh [t.enc] = some (.int .i64 (if t.right = true then 0 else 1)) := by
 refine (pK _).trans ?_;rw [tH];simp [Ty.E8, Ty.ag, A6n t ht];cases t.right <;> rfl
theorem QQ (t : Ty) : t.size ≤ lim → (run cfg).p H_ [t.enc] = some (.int .i64 t.size) := by
 induction t using Ty.ind with
 | h t ih =>
   intro ht;have hb := Ty.A7n ht;refine (uB _).trans ?_;rw [yf];simp only [Ie, O8];have loop := GL (l := t.kids) (P := fun i (a : Nat) => Qb (run cfg) (.int .i64 a) (.int .i64 i) t.enc) (g := fun a k => a + k.size) (fin := fun a => some (.int .i64 a))
    (I := fun i a => a + ((t.kids.drop i).map Ty.size).sum ≤ lim)
    (fun a _ => by rw [VJ]; simp)
    (fun i h a ha => by
      rw [List.drop_eq_getElem_cons h, List.map_cons, List.sum_cons] at ha;have := big ha;refine ⟨?_, by omega⟩
      rw [VJ];simp [h, F4 h, Ty.E8, Ty.ag, ih _ (List.getElem_mem h) (Ty.B2y ht (List.getElem_mem h)), K6 (show i < 9223372036854775807 by omega)]
      rw [CO (by omega) (by omega)]
      simp) 1 (by have := Ty.size_eq t; simpa using (by omega : 1 + (t.kids.map Ty.size).sum ≤ lim))
   have e : ∀ (l : List Ty) (a : Nat), l.foldl (fun a k => a + k.size) a = a + (l.map Ty.size).sum := by
    intro l
    induction l with
    | nil => intro a; simp
    | cons x l ih => intro a; simp [ih]; omega
   rw [e, ← Ty.size_eq] at loop;exact loop
theorem WQ (a : Ty) : a.thin = true → ∀ b : Ty, (run cfg).p Kq [a.enc, b.enc] = some (.bool (decide (a = b))) := by
 induction a using Ty.ind with
 | h a ih =>
   intro ha b;have hb := a.Ad ha;refine (uA _ _).trans ?_;rw [yc];simp
   by_cases h1 : a.kind = b.kind <;> simp [h1, Ty.Dj]
   by_cases h2 : a.n = b.n <;> simp [h2]
   by_cases h3 : a.kids.length = b.kids.length
   ·have loop := Nj (l := a.kids) (m := b.kids) h3 (P := fun i => Qa (run cfg) (.int .i64 i) a.enc b.enc) (y := .bool true) (n := .bool false)
     (by rw [VI]; simp [h3])
     (fun i h => by
       have h' : i < b.kids.length := by omega
       rw [VI];simp [h, h', F4 h, F4 h', Ty.E8, Ty.ag, ih _ (List.getElem_mem h) (Ty.CF ha (List.getElem_mem h)), K6 (show i < 9223372036854775807 by omega)])
    simp only [h3] at loop ⊢;simp [loop]
    by_cases h4 : a.kids = b.kids <;> simp [h4]
   ·have : a.kids ≠ b.kids := fun h => h3 (by rw [h])
    simp [Int.ofNat_inj, h3, this]
theorem bH (a : Ty) : a.thin = true → ∀ b : Ty, (run cfg).p MB [a.enc, b.enc] = some (.bool (decide (a = b))) := by
 induction a using Ty.ind with
 | h a ih =>
   intro ha b;have hb := a.Ad ha;refine (oH _ _).trans ?_;rw [rU];simp
   by_cases h1 : a.kind = b.kind <;> simp [h1, Ty.Dj]
   by_cases h2 : a.n = b.n <;> simp [h2]
   by_cases h3 : a.kids.length = b.kids.length
   ·have loop := Nj (l := a.kids) (m := b.kids) h3 (P := fun i => OJ (run cfg) (.int .i64 i) a.enc b.enc) (y := .bool true) (n := .bool false)
     (by rw [TJ]; simp [h3])
     (fun i h => by
       have h' : i < b.kids.length := by omega
       rw [TJ];simp [h, h', F4 h, F4 h', Ty.E8, Ty.ag, ih _ (List.getElem_mem h) (Ty.CF ha (List.getElem_mem h)), K6 (show i < 9223372036854775807 by omega)])
    simp only [h3] at loop ⊢;simp [loop]
    by_cases h4 : a.kids = b.kids <;> simp [h4]
   ·have : a.kids ≠ b.kids := fun h => h3 (by rw [h])
    simp [Int.ofNat_inj, h3, this]
theorem kJ (q : Int) (t : Ty) : t.thin = true → (run cfg).p Ld [t.enc, .int .i64 q] = some (.bool (t.without q)) := by
 induction t using Ty.ind with
 | h t ih =>
   intro ht;have hb := t.Ad ht;refine (dQ _ _).trans ?_;have loop : Gd (run cfg) (.int .i64 q) (.list 3 (t.kids.map Ty.enc)) (.int .i64 t.kids.length) (.int .i64 0) = _ := XB (l := t.kids) (f := Ty.without q) (P := fun i => Gd (run cfg) (.int .i64 q) (.list 3 (t.kids.map Ty.enc)) (.int .i64 t.kids.length) (.int .i64 i))
    (by rw [PW]; simp)
    (fun i h => by
      rw [PW];simp [h, F4 h, Ty.E8, Ty.ag, ih _ (List.getElem_mem h) (Ty.CF ht (List.getElem_mem h)), K6 (show i < 9223372036854775807 by omega)]
      cases (t.kids[i].without q) <;> rfl)
   rw [iq];simp only [loop, Ie, O8, Ty.Dy, Ty.Ij, H6, BB, Bw, M9, List.length_map, Ty.A2m q t]
   by_cases h1 : t.kind = q <;> simp [h1]
theorem Ow (q : Int) (t : Ty) : t.thin = true → (run cfg).p FV [t.enc, .int .i64 q] = some (.bool (t.without q)) := by
 induction t using Ty.ind with
 | h t ih =>
   intro ht;have hb := t.Ad ht;refine (dK _ _).trans ?_;have loop : Ga (run cfg) (.int .i64 q) (.int .i64 0) t.enc = _ := XB (l := t.kids) (f := Ty.without q) (P := fun i => Ga (run cfg) (.int .i64 q) (.int .i64 i) t.enc)
    (by rw [PT]; simp)
    (fun i h => by
      rw [PT];simp [h, F4 h, Ty.E8, Ty.ag, ih _ (List.getElem_mem h) (Ty.CF ht (List.getElem_mem h)), K6 (show i < 9223372036854775807 by omega)]
      cases (t.kids[i].without q) <;> rfl)
   rw [iQ];simp only [loop, Ie, O8, Ty.Dy, Ty.Ij, H6, BB, Bw, M9, List.length_map, Ty.A2m q t]
   by_cases h1 : t.kind = q <;> simp [h1]
theorem Xp (t : Ty) (ht : t.thin = true) : (run cfg).p ND [t.enc] = some (.bool (t.without 6)) := by
 refine (jP _).trans ?_;rw [ny];simp [Ty.E8, Ty.ag, kJ 6 t ht]
theorem vz (l : List Int) (hl : l.length ≤ lim) (n : Int) : (run cfg).p ZF [E9 l, .int .i64 n] = some (.bool (decide (n ∈ l))) := by
 have hb := big hl;refine (A1B _ _).trans ?_;rw [A3j];have loop := vO (l := l) (f := fun x => decide (x = n)) (P := fun i => WB (run cfg) (E9 l) (.int .i64 n) (.int .i64 i))
  (by rw [Zc]; simp)
  (fun i h => by
    rw [Zc];simp [h, U3 h, K6 (show i < 9223372036854775807 by omega)])
 refine loop.trans ?_
 congr 2
 rw [Bool.eq_iff_iff];simp
theorem A6V (t : Ty) : ∀ (l : List Int) (sg : List D7), l.length + t.size ≤ lim → (run cfg).r YL [(t.enc, .val), (E9 l, .own)] sg = some ([E9 (t.BD l)], sg) := by
 induction t using Ty.ind with
 | h t ih =>
   intro l sg hl;have hb := Ty.A7n (show t.size ≤ lim by omega)
   have hB := big hl;refine (uD _ _ _).trans ?_;have loop : ∀ l : List Int, l.length + (t.kids.map Ty.size).sum ≤ lim → Lg (run cfg) (E9 l) (.int .i64 0) t.enc sg = some ([E9 (t.kids.foldl (fun l k => k.BD l) l)], sg) :=
    GL (l := t.kids) (P := fun i (a : List Int) => Lg (run cfg) (E9 a) (.int .i64 i) t.enc sg) (g := fun a k => k.BD a) (fin := fun a => some ([E9 a], sg))
     (I := fun i a => a.length + ((t.kids.drop i).map Ty.size).sum ≤ lim)
     (fun a _ => by rw [VK]; simp)
     (fun i h a ha => by
       rw [List.drop_eq_getElem_cons h, List.map_cons, List.sum_cons] at ha;have h1 := Ty.A2l t.kids[i] a;refine ⟨?_, by omega⟩
       rw [VK];simp [h, F4 h, Ty.E8, Ty.ag, ih _ (List.getElem_mem h) a sg (by omega), K6 (show i < 9223372036854775807 by omega)])
   have Y4 := Ty.size_eq t;rw [yh, Ty.XJ];simp
   by_cases h6 : t.kind = 6
   ·simp [h6, vz l (by omega) t.n]
    by_cases hn : t.n ∈ l
    ·simp [hn, Qn, loop l (by omega)]
    ·simp [hn, Qn]
     rw [show E9 l = .list 1 (l.map fun n => .int .i64 n) from rfl, DL (by simp; omega)]
     simp;have := loop (l ++ [t.n]) (by simp; omega)
     simpa [E9] using this
   ·simp [h6, Qn, loop l (by omega)]
theorem z_ (t : Ty) (ht : t.size ≤ lim) : (run cfg).p YK [t.enc] = some (E9 t.vars) := by
 refine (uC _).trans ?_;rw [yg];have := A6V t [] [] (by simpa using ht)
 have e : E9 [] = .list 1 [] := rfl;rw [e] at this;simp [Ty.E8, Ty.ag, this, Ty.vars]
theorem QP (k : Int) : (run cfg).p AV [.int .i64 k] = some (Ty.mk k 0 []).enc := by
 refine (tq _).trans ?_;rw [yX];simp [Ty.enc]
theorem A54 (t : Ty) : ∀ n : Int, t.thin = true → 0 ≤ n → n ≤ 1048576 → ∃ m : Int, (run cfg).p Vt [t.enc, .int .i64 n] = some (.int .i64 m) ∧ 0 ≤ m ∧ m ≤ max (n + 1) 601 := by
 induction t using Ty.ind with
 | h t ih =>
   intro n ht h0 h1;have hb := t.Ad ht;have loop : ∀ m : Int, 0 ≤ m → m ≤ 1048577 → ∃ r : Int, JY (run cfg) (.int .i64 m) (.int .i64 0) t.enc = some (.int .i64 r) ∧ 0 ≤ r ∧ r ≤ max m 601 := by
    have key : ∀ (k i : Nat) (m : Int), i + k = t.kids.length → 0 ≤ m → m ≤ 1048577 → ∃ r : Int, JY (run cfg) (.int .i64 m) (.int .i64 i) t.enc = some (.int .i64 r) ∧ 0 ≤ r ∧ r ≤ max m 601 := by
     intro k
     induction k with
     | zero =>
       intro i m hi h0 h1;rw [TM];have : ¬ i < t.kids.length := by omega
       exact ⟨m, by simp [this], h0, by omega⟩
     | succ k ihk =>
       intro i m hi h0 h1;have h : i < t.kids.length := by omega
       rw [TM]
       by_cases hm : m ≤ 600
       ·obtain ⟨r, hr, CW, Km⟩ := ih _ (List.getElem_mem h) m (Ty.CF ht (List.getElem_mem h)) h0 (by omega)
        obtain ⟨s, hs, hs0, CL⟩ := ihk (i + 1) r (by omega) CW (by omega)
        push_cast at hs;exact ⟨s, by simp [h, hm, F4 h, Ty.E8, Ty.ag, hr, K6 (show i < 9223372036854775807 by omega), hs], hs0, by omega⟩
       ·exact ⟨m, by simp [h, hm], h0, by omega⟩
    exact fun m h0 h1 => key t.kids.length 0 m (by omega) h0 h1
   obtain ⟨r, hr, CW, Km⟩ := loop (n + 1) (by omega) (by omega)
   refine ⟨r, (oK _ _).trans ?_, CW, Km⟩;rw [rX];simp;rw [CO (by omega) (by omega)]
   simpa using hr
theorem A4b (t : Ty) (ht : t.thin = true) : ∃ b : Bool, (run cfg).p eu [.list 3 [t.enc]] = some (.bool b) := by
 obtain ⟨m, h1, h2, h3⟩ := A54 t 0 ht (by omega) (by omega)
 refine ⟨decide (600 < m), (oJ _).trans ?_⟩;rw [rW, TL];have e0 : F3 3 (.list 3 [t.enc]) (.int .i64 0) = some t.enc := by simp [F3]
 simp [e0, Ty.E8, Ty.ag, h1, CO (show (-9223372036854775808 : Int) ≤ 0 + 1 by omega) (by omega)]
 rw [TL];simp
theorem A6Y (t : Ty) : ∀ n : Int, -9223372036854775000 ≤ n → n ≤ 1000 → t.thin = true → (run cfg).p YP [t.enc, .int .i64 n] = some (.bool (t.deep n)) := by
 induction t using Ty.ind with
 | h t ih =>
   intro n hn0 hn ht;have hb := t.Ad ht;refine (uH _ _).trans ?_;rw [yo, Ty.B2i];simp
   by_cases h0 : n ≤ 0
   ·simp [h0]
   ·have loop := vO (l := t.kids) (f := fun k => k.deep (n - 1)) (P := fun i => Qe (run cfg) (.int .i64 n) (.int .i64 i) t.enc)
     (by rw [VO]; simp)
     (fun i h => by
       rw [VO];simp [h, F4 h, Ty.E8, Ty.ag, Df, CS (show (-9223372036854775808 : Int) ≤ n - 1 by omega) (by omega), ih _ (List.getElem_mem h) (n - 1) (by omega) (by omega) (Ty.CF ht (List.getElem_mem h)), K6 (show i < 9223372036854775807 by omega)])
    simp only [h0, decide_false, Bool.false_or];exact loop
theorem A67 (s : ByteArray) : (run cfg).p kR [.str s] = some (.bool (A0v s)) := by
 refine (uO _).trans ?_;rw [zB];have e : ∀ l : List UInt8, (s = ⟨l.toArray⟩) ↔ s.data.toList = l := fun l => by
  constructor
  ·rintro rfl; simp
  ·intro h; cases s; simp only [ByteArray.mk.injEq]; exact Array.ext' (by simpa using h)
 simp only [rG, H6, M9];simp only [e, A0v, A2D, List.mem_cons, List.not_mem_nil, or_false];simp only [decide_eq_true_eq, B5o, A9B, Bool.if_true_left, Bool.decide_or, Bool.or_false]
theorem A4i (c : Int) : (run cfg).p ZJ [.int .u8 c] = some (.bool (Oq c)) := by
 refine (jR _).trans ?_;rw [oC];simp only [VC, NJ, Bw, H6, V3, decide_eq_true_eq, Oq, lowerB, rP]
 by_cases h1 : 97 ≤ c <;> by_cases h2 : c ≤ 122 <;> by_cases h3 : 65 ≤ c <;> by_cases h4 : c ≤ 90 <;> by_cases h5 : 48 ≤ c <;> by_cases h6 : c ≤ 57 <;> by_cases h7 : c = 95 <;> simp [h1, h2, h3, h4, h5, h6, h7]
theorem bK (c : Int) : (run cfg).p Pg [.int .u8 c] = some (.bool (lowerB c)) := by
 refine (oV _).trans ?_;rw [sF];simp only [VC, NJ, H6, V3, decide_eq_true_eq, lowerB]
 by_cases h1 : 97 ≤ c <;> simp [h1]
theorem A6b (c : Int) : (run cfg).p fF [.int .u8 c] = some (.bool (rP c)) := by
 refine (oU _).trans ?_;rw [sD];simp only [VC, NJ, H6, V3, decide_eq_true_eq, rP]
 by_cases h1 : 48 ≤ c <;> simp [h1]
theorem A6T (c : Int) : (run cfg).p kL [.int .u8 c] = some (.bool (Oq c)) := by
 refine (tY _).trans ?_;rw [yU];simp only [VC, NJ, Bw, H6, V3, decide_eq_true_eq, bK, A6b, Oq]
 by_cases h1 : lowerB c = true <;> by_cases h2 : rP c = true <;> by_cases h3 : 65 ≤ c <;> by_cases h4 : c ≤ 90 <;> by_cases h7 : c = 95 <;> simp [h1, h2, h3, h4, h7]
theorem A7z {s : ByteArray} (h : s.size ≤ lim) : (Ak s).length < 4294967297 := by rw [MJ]; exact big h
theorem bM (s : ByteArray) (hs : s.size ≤ lim) : (run cfg).p Po [.str s] = some (.bool (Ii s)) := by
 have hb := A7z hs;refine (pQ _).trans ?_;rw [tL];simp only [ED, H6, Bz, Cb, V3, M9, decide_eq_true_eq, Ii, ← MJ]
 by_cases h1 : ((Ak s).length : Int) < 1
 ·have : ¬ (1 ≤ (Ak s).length) := by omega
  simp [h1, this]
 ·by_cases h2 : (32 : Int) < ((Ak s).length : Int)
  ·have : ¬ ((Ak s).length ≤ 32) := by omega
   simp [h1, h2, this]
  ·have h0 : 0 < (Ak s).length := by omega
   have e0 := Za (s := s) (k := .i64) h0;simp only [Int.natCast_zero, Int.ofNat_zero, Int.cast_ofNat_Int] at e0;have loop : ∀ (k i : Nat), i + k = (Ak s).length → Ob (run cfg) (.str s) (.int .i64 i) = some (.bool (((Ak s).drop i).all Oq)) := by
    intro k
    induction k with
    | zero =>
      intro i hi;rw [Tk];have : ¬ i < (Ak s).length := by omega
      simp [← MJ, this, List.drop_of_length_le (show (Ak s).length ≤ i by omega)]
    | succ k ih =>
      intro i hi;have h : i < (Ak s).length := by omega
      rw [Tk];have := ih (i + 1) (by omega)
      push_cast at this;have I4 : (i : Int) < (s.size : Int) := by rw [← MJ]; omega
      rw [List.drop_eq_getElem_cons h, List.all_cons];simp only [ED, H6, Bz, I4, decide_true, M9, if_true, Za h, A4i, CP, K6 (show i < 9223372036854775807 by omega)]
      push_cast;rw [this];cases Oq (Ak s)[i] <;> rfl
   have l1 := loop ((Ak s).length - 1) 1 (by omega)
   simp only [Int.natCast_one, Int.ofNat_one, Int.cast_ofNat_Int] at l1;have g0 : (Ak s).getD 0 0 = (Ak s)[0] := by simp [List.getD_eq_getElem?_getD, h0]
   have d0 : Ak s = (Ak s)[0] :: (Ak s).drop 1 := by
    have := List.drop_eq_getElem_cons h0;simpa using this
   have a1 : (1 ≤ (Ak s).length) := by omega
   have a2 : ((Ak s).length ≤ 32) := by omega
   have e0' : X6 (.str s) (.int .i64 0) = some (.int .u8 (Ak s)[0]) := e0;simp only [h1, h2, if_false, e0', H6, Bz, Cb, V3, decide_eq_true_eq, A67, M9, g0, a1, a2, decide_true, Bool.true_and]
   by_cases h3 : (Ak s)[0] < 97
   ·have : lowerB (Ak s)[0] = false := by simp [lowerB]; omega
    simp [h3, this]
   ·by_cases h4 : (122 : Int) < (Ak s)[0]
    ·have : lowerB (Ak s)[0] = false := by simp [lowerB]; omega
     simp [h3, h4, this]
    ·have h5 : lowerB (Ak s)[0] = true := by simp [lowerB]; omega
     have h6 : Oq (Ak s)[0] = true := by simp [Oq, h5]
     have h7 : (Ak s).all Oq = ((Ak s).drop 1).all Oq := by
      conv => lhs; rw [d0]
      simp [h6]
     cases hk : A0v s
     ·simp only [h3, h4, if_false, Bool.false_eq_true, h5, h7, Bool.true_and, Bool.not_false, Bool.and_true]
      exact l1
     ·simp [h3, h4]
open Classical in
theorem A8H (s : ByteArray) (hs : s.size ≤ 4294967000) : (run cfg).p qM [.str s] = some (.bool (A0v s)) := by
 have hb : (Ak s).length ≤ 4294967000 := by rw [MJ]; exact hs
 refine (zG _).trans ?_;rw [A1q]
 let t : ByteArray := ⟨#[32]⟩ ++ s ++ ⟨#[32]⟩
 have tl : t.data.toList = 32 :: s.data.toList ++ [32] := by simp [t]
 have ts : t.size = s.size + 2 := by
  have := congrArg List.length tl;simp only [Array.length_toList, List.length_append, List.length_cons, List.length_nil] at this;have e1 : t.size = t.data.size := rfl;have e2 : s.size = s.data.size := rfl;omega
 have search : ∀ (k i : Nat), i + k = 82 → NF (run cfg) (.str s) (.str t) (.int .i64 i) = some (.bool (decide (0 < s.size ∧ ∃ j, i ≤ j ∧ j + t.size ≤ 81 ∧ (CJ.drop j).take t.size = t.data.toList))) := by
  intro k
  induction k with
  | zero =>
    intro i hi;rw [XU];simp only [ED, H6];rw [CO (by omega) (by omega)]
    have : ¬ ((i : Int) + (t.size : Int) ≤ 81) := by omega
    have h2 : ¬ (0 < s.size ∧ ∃ j, i ≤ j ∧ j + t.size ≤ 81 ∧ (CJ.drop j).take t.size = t.data.toList) := by rintro ⟨-, j, h1, h2, -⟩; omega
    simp [this, h2]
  | succ k ih =>
    intro i hi;rw [XU];simp only [ED, H6];rw [CO (by omega) (by omega)]
    by_cases h1 : (i : Int) + (t.size : Int) ≤ 81
    ·have jY : i + t.size ≤ 81 := by omega
     have nx := ih (i + 1) (by omega)
     simp only [NJ, h1, decide_true, H6, M9, if_true, Cb, V3, decide_eq_true_eq];rw [show ((i + 1 : Nat) : Int) = (i : Int) + 1 by omega] at nx
     by_cases h0 : (0 : Int) < (s.size : Int)
     ·have Ib : 0 < s.size := by omega
      have ext : ∀ w : ByteArray, w.data.toList = CJ → iJ (.str w) (some (.int .i64 (i : Int))) (some (.int .i64 ((i : Int) + (t.size : Int)))) = some (.str (w.extract i (i + t.size))) := by
       intro w hw;have hwl : w.size = 81 := by
        have := congrArg List.length hw;rw [B0k] at this;simpa using this
       have e1 : ((i : Int) + (t.size : Int)).toNat = i + t.size := by omega
       simp only [iJ, bnd, H6, e1, show (0 : Int) ≤ (i : Int) + (t.size : Int) by omega, if_true, Int.natCast_nonneg, Int.toNat_natCast, hwl]
       rw [if_pos (by omega)]
      simp only [h0, if_true];rw [ext _ rfl];simp only [H6, rG, M9, decide_eq_true_eq];rw [K6 (by omega)]
      simp only [H6];rw [show ((i + 1 : Nat) : Int) = (i : Int) + 1 by omega, nx]
      have exl : ∀ w : ByteArray, w.data.toList = CJ → ((w.extract i (i + t.size) = t) ↔ (CJ.drop i).take t.size = t.data.toList) := by
       intro w hw;have e : (w.extract i (i + t.size)).data.toList = (CJ.drop i).take t.size := by
        rw [ByteArray.data_extract, Array.toList_extract, hw, List.extract_eq_take_drop]
        congr 1
        omega
       rw [← e];constructor
       ·intro h; rw [h]
       ·intro h
        cases hx : w.extract i (i + t.size);rw [hx] at h;cases ht : t;rw [ht] at h;simp only [ByteArray.mk.injEq];exact Array.ext' h
      by_cases h2 : (CJ.drop i).take t.size = t.data.toList
      ·rw [if_pos ((exl _ rfl).2 h2)]
       have : (0 < s.size ∧ ∃ j, i ≤ j ∧ j + t.size ≤ 81 ∧ (CJ.drop j).take t.size = t.data.toList) := ⟨Ib, i, Nat.le_refl _, jY, h2⟩;simp [this]
      ·rw [if_neg (fun h => h2 ((exl _ rfl).1 h))]
       congr 2
       rw [Bool.eq_iff_iff];simp only [decide_eq_true_eq];constructor
       ·rintro ⟨a, j, b, c⟩; exact ⟨a, j, by omega, c⟩
       ·rintro ⟨a, j, b, c, d⟩
        refine ⟨a, j, ?_, c, d⟩;rcases Nat.lt_or_ge i j with h | h
        ·exact h
        ·exact absurd (by rw [show i = j by omega]; exact d) h2
     ·have : ¬ (0 < s.size ∧ ∃ j, i ≤ j ∧ j + t.size ≤ 81 ∧ (CJ.drop j).take t.size = t.data.toList) := fun h => h0 (by have := h.1; omega)
      have B5A : ¬ (0 < s.size ∧ ∃ j, i + 1 ≤ j ∧ j + t.size ≤ 81 ∧ (CJ.drop j).take t.size = t.data.toList) := fun h => h0 (by have := h.1; omega)
      simp only [h0, if_false];rw [K6 (by omega)]
      simp only [H6];rw [show ((i + 1 : Nat) : Int) = (i : Int) + 1 by omega, nx]
      simp [this, B5A]
    ·have h2 : ¬ (0 < s.size ∧ ∃ j, i ≤ j ∧ j + t.size ≤ 81 ∧ (CJ.drop j).take t.size = t.data.toList) := by rintro ⟨-, j, h3, h4, -⟩; omega
     simp [h1, h2]
 have fin : (s.data.toList.all A0x = true ∧ 0 < s.size ∧ ∃ j, 0 ≤ j ∧ j + t.size ≤ 81 ∧ (CJ.drop j).take t.size = t.data.toList) ↔ s.data.toList ∈ A2D := by
  rw [← B0j];have e2 : s.data.toList.length = s.size := by simp
  rw [e2, ts, tl];simp
 have low : ∀ b : UInt8, lowerB (b.toNat : Int) = A0x b := by
  intro b;simp only [lowerB, A0x, UInt8.le_iff_toNat_le];rw [Bool.eq_iff_iff];simp only [Bool.and_eq_true, decide_eq_true_eq];have h1 : (97 : UInt8).toNat = 97 := rfl;have h2 : (122 : UInt8).toNat = 122 := rfl;rw [h1, h2];omega
 have loop : ∀ (k i : Nat), i + k = (Ak s).length → Sj (run cfg) (.str s) (.int .i64 i) = some (.bool (decide (((Ak s).drop i).all lowerB = true ∧ 0 < s.size ∧ ∃ j, 0 ≤ j ∧ j + t.size ≤ 81 ∧ (CJ.drop j).take t.size = t.data.toList))) := by
  intro k
  induction k with
  | zero =>
    intro i hi;rw [XT];have I4 : ¬ (i : Int) < (s.size : Int) := by rw [← MJ]; omega
    have e1 : A8 .add (.str ⟨#[32]⟩) (.str s) = some (.str (⟨#[32]⟩ ++ s)) := by
     simp only [A8, iK];rw [if_pos];have : (⟨#[32]⟩ : ByteArray).size = 1 := rfl;unfold lim; omega
    have e2 : A8 .add (.str (⟨#[32]⟩ ++ s)) (.str ⟨#[32]⟩) = some (.str t) := by
     simp only [A8, iK];rw [if_pos];have h1 : (⟨#[32]⟩ : ByteArray).size = 1 := rfl;have h2 : (⟨#[32]⟩ ++ s : ByteArray).size = s.size + 1 := by
      have := ByteArray.size_append (a := ⟨#[32]⟩) (b := s);omega
     unfold lim; omega
    have := search 82 0 rfl;simp only [Int.natCast_zero, Int.ofNat_zero, Int.cast_ofNat_Int] at this;simp only [ED, H6, Bz, I4, decide_false, M9, Bool.false_eq_true, if_false, e1, e2, List.drop_of_length_le (show (Ak s).length ≤ i by omega), List.all_nil, true_and]
    exact this
  | succ k ih =>
    intro i hi;have h : i < (Ak s).length := by omega
    rw [XT];have := ih (i + 1) (by omega)
    push_cast at this;have I4 : (i : Int) < (s.size : Int) := by rw [← MJ]; omega
    rw [List.drop_eq_getElem_cons h, List.all_cons];simp only [ED, H6, Bz, I4, decide_true, M9, if_true, Za h, bK, CP, K6 (show i < 9223372036854775807 by omega)]
    push_cast;rw [this];cases lowerB (Ak s)[i] <;> simp
 have l0 := loop (Ak s).length 0 (by omega)
 simp only [Int.natCast_zero, Int.ofNat_zero, Int.cast_ofNat_Int] at l0;have e3 : (Ak s).all lowerB = s.data.toList.all A0x := by
  simp only [Ak, List.all_map]
  congr 1
  funext b
  exact low b
 refine l0.trans ?_;rw [List.drop_zero, e3];simp only [fin, A0v]
theorem gU (s : ByteArray) (hs : s.size ≤ 4294967000) : (run cfg).p Hz [.str s] = some (.bool (Ii s)) := by
 have hb := A7z (s := s) (by unfold lim; omega)
 refine (tX _).trans ?_;rw [yT];have h32 : A8 .gtr (.int .i64 (s.size : Int)) (.int .i64 32) = some (.bool (decide (32 < s.size))) := by
  rw [Cb]; congr 2; rw [decide_eq_decide]; omega
 simp only [ED, H6, Bz, h32, V3, M9, decide_eq_true_eq, Ii]
 by_cases h1 : (s.size : Int) < 1
 ·have : ¬ (1 ≤ s.size) := by omega
  simp [h1, this]
 ·by_cases h2 : 32 < s.size
  ·have : ¬ (s.size ≤ 32) := by omega
   simp [h1, h2, this]
  ·have h0 : 0 < (Ak s).length := by rw [MJ]; omega
   have loop : ∀ (k i : Nat), i + k = (Ak s).length → QZ (run cfg) (.str s) (.int .i64 i) = some (.bool (((Ak s).drop i).all Oq && !A0v s)) := by
    intro k
    induction k with
    | zero =>
      intro i hi;rw [VH];have I4 : ¬ (i : Int) < (s.size : Int) := by rw [← MJ]; omega
      simp [I4, List.drop_of_length_le (show (Ak s).length ≤ i by omega), A8H s hs]
    | succ k ih =>
      intro i hi;have h : i < (Ak s).length := by omega
      rw [VH];have := ih (i + 1) (by omega)
      push_cast at this;have I4 : (i : Int) < (s.size : Int) := by rw [← MJ]; omega
      rw [List.drop_eq_getElem_cons h, List.all_cons];simp only [ED, H6, Bz, I4, decide_true, M9, if_true, Za h, A6T, CP, K6 (show i < 9223372036854775807 by omega)]
      push_cast;rw [this];cases Oq (Ak s)[i] <;> rfl
   have l0 := loop (Ak s).length 0 (by omega)
   simp only [Int.natCast_zero, Int.ofNat_zero, Int.cast_ofNat_Int, List.drop_zero] at l0;have g0 : (Ak s).getD 0 0 = (Ak s)[0] := by simp [List.getD_eq_getElem?_getD, h0]
   have e0' : X6 (.str s) (.int .i64 0) = some (.int .u8 (Ak s)[0]) := Za (s := s) (k := .i64) h0;have a1 : (1 ≤ s.size) := by omega
   have a2 : (s.size ≤ 32) := by omega
   simp only [h1, h2, if_false, e0', H6, bK, CP, M9, g0, a1, a2, decide_true, Bool.true_and, l0];cases lowerB (Ak s)[0] <;> simp
theorem Ah : (.str ⟨#[]⟩ : DV) = .str N9 := rfl
theorem A2W (p : C9) (hp : p.texts) : (run cfg).p XO [p.enc] = some (.bool p.one) := by
 obtain ⟨hn, hs⟩ := hp;have h24 : ∀ (t4 : Int) (a b c g : DV) (nm : ByteArray) (n : Int) (s : ByteArray), Y8 (run cfg) (.int .i64 t4) p.enc a b c (.str nm) (.int .i64 n) (.str s) g =
  some (.bool (decide ((p.kids.length : Int) = t4) && decide (nm = p.name) && decide (n = p.n) && decide (s = p.s))) := by
  intro t4 a b c g nm n s;rw [Xz];simp only [C9.Yk, C9.WN, C9.Yj, C9.eF, BB, List.length_map, H6, Bw, rG, V3, decide_eq_true_eq]
  by_cases h1 : (p.kids.length : Int) = t4 <;> by_cases h2 : nm = p.name <;> by_cases h3 : n = p.n <;> simp [h1, h2, h3]
 refine (dP _).trans ?_;rw [iY];have DZ : A8 .gtr (.int .i64 (p.s.size : Int)) (.int .i64 200) = some (.bool (decide (200 < p.s.size))) := by
  rw [Cb]; congr 2; rw [decide_eq_decide]; omega
 simp only [Ic, O8, C9.pj, Ye, A1L, zn, Bw, Im, H6, M9, V3, bM p.name (by unfold lim; omega), CP, ED, DZ, h24, Ah]
 unfold C9.one
 by_cases k1 : p.kind = 1
 ·simp [k1, eq_comm]
 by_cases k6 : p.kind = 6
 ·simp [k6, eq_comm]
 by_cases k8 : p.kind = 8
 ·simp [k8, eq_comm]
 by_cases k2 : p.kind = 2
 ·cases vC : Ii p.name <;> simp [k2, vC, eq_comm]
 by_cases k3 : p.kind = 3
 ·simp [k3, eq_comm]
 by_cases k4 : p.kind = 4
 ·by_cases n0 : p.n = 0
  ·simp [k4, n0, eq_comm]
  ·by_cases n1 : p.n = 1 <;> simp [k4, n0, n1, eq_comm]
 by_cases k5 : p.kind = 5
 ·by_cases h : 200 < p.s.size
  ·have : ¬ p.s.size ≤ 200 := by omega
   simp [k5, h, this]
  ·have : p.s.size ≤ 200 := by omega
   simp [k5, h, this, eq_comm]
 have h2 : decide (2 = (p.kids.length : Int)) = decide (2 = p.kids.length) := by rw [decide_eq_decide]; omega
 by_cases k7 : p.kind = 7
 ·simp [k7, eq_comm, h2]
 by_cases k9 : p.kind = 9
 ·simp [k9, eq_comm, h2]
 simp [k1, k2, k3, k4, k5, k6, k7, k8, k9]
theorem A8K (p : C9) : p.thin = true → p.txt → (run cfg).p bO [p.enc] = some (.bool p.pat) := by
 induction p using C9.ind with
 | h p ih =>
   intro ht hx;have hb := p.Ad ht;obtain ⟨hn, hs⟩ := hx p p.B1q;have loop : Lh (run cfg) (.int .i64 p.kids.length) (.int .i64 0) p.enc = some (.bool (p.kids.all C9.pat)) :=
    XB (l := p.kids) (f := C9.pat) (P := fun i => Lh (run cfg) (.int .i64 p.kids.length) (.int .i64 i) p.enc)
     (by rw [VN]; simp)
     (fun i h => by
       rw [VN];simp [h, F4 h, C9.E8, C9.ag, ih _ (List.getElem_mem h) (C9.CF ht (List.getElem_mem h)) (C9.B3d hx (List.getElem_mem h)), K6 (show i < 9223372036854775807 by omega)]
       cases p.kids[i].pat <;> rfl)
   have h25 : ∀ (t4 : Int) (a : DV) (nm : ByteArray) (n : Int) (s : ByteArray), Bv (run cfg) (.int .i64 t4) p.enc a (.str nm) (.int .i64 n) (.str s) =
    some (.bool ((decide ((p.kids.length : Int) = t4) && decide (p.name = nm) && decide (p.n = n) && decide (p.s = s)) && p.kids.all C9.pat)) := by
    intro t4 a nm n s;rw [nT];simp only [C9.Yk, C9.WN, C9.Yj, C9.eF, BB, List.length_map, H6, Im, Wd, V3, M9, decide_eq_true_eq]
    by_cases h1 : (p.kids.length : Int) = t4 <;> by_cases h2 : p.name = nm <;> by_cases h3 : p.n = n <;> by_cases h4 : p.s = s <;> simp [h1, h2, h3, h4]
    rw [← h1];rw [loop]
   refine (zJ _).trans ?_;rw [A1t];have DZ : A8 .gtr (.int .i64 (p.s.size : Int)) (.int .i64 200) = some (.bool (decide (200 < p.s.size))) := by
    rw [Cb]; congr 2; rw [decide_eq_decide]; omega
   simp only [Ic, O8, C9.pj, Ye, A1L, zn, Bw, Im, Bz, Cb, H6, M9, V3, gU p.name hn, CP, ED, h25, Ah];rw [C9.A1Y];unfold C9.one
   by_cases k1 : p.kind = 1
   ·simp [k1]
   by_cases k6 : p.kind = 6
   ·simp [k6]
   by_cases k8 : p.kind = 8
   ·simp [k8]
   by_cases k2 : p.kind = 2
   ·cases vC : Ii p.name <;> simp [k2, vC]
   by_cases k3 : p.kind = 3
   ·simp [k3]
   by_cases k4 : p.kind = 4
   ·by_cases n0 : p.n < 0
    ·have h1 : ¬ (p.n = 0 ∨ p.n = 1) := by omega
     simp [k4, n0, h1]
    ·by_cases n1 : 1 < p.n
     ·have h1 : ¬ (p.n = 0 ∨ p.n = 1) := by omega
      simp [k4, n0, n1, h1]
     ·have h1 : (p.n = 0 ∨ p.n = 1) := by omega
      simp [k4, n0, n1, h1]
   by_cases k5 : p.kind = 5
   ·by_cases h : (200 : Int) < (p.s.size : Int)
    ·have : ¬ p.s.size ≤ 200 := by omega
     simp [k5, h, this]
    ·have : p.s.size ≤ 200 := by omega
     simp [k5, h, this]
   by_cases k7 : p.kind = 7
   ·simp [k7]
    have : ((p.kids.length : Int) = 2) ↔ (p.kids.length = 2) := by omega
    simp [this]
   by_cases k9 : p.kind = 9
   ·simp [k9]
    have : ((p.kids.length : Int) = 2) ↔ (p.kids.length = 2) := by omega
    simp [this]
   simp [k1, k2, k3, k4, k5, k6, k7, k8, k9]
theorem A6d (t : C9) : ∀ (l : List ByteArray) (sg : List D7), l.length + t.size ≤ lim → (run cfg).r Vx [(t.enc, .val), (Bn l, .own)] sg = some ([Bn (t.EX l)], sg) := by
 induction t using C9.ind with
 | h t ih =>
   intro l sg hl;have hb := C9.Ad _ (C9.CG (show t.size ≤ lim by omega))
   have hB := big hl;refine (om _ _ _).trans ?_;have loop : ∀ l : List ByteArray, l.length + (t.kids.map C9.size).sum ≤ lim → GR (run cfg) (Bn l) (.int .i64 0) t.enc sg = some ([Bn (t.kids.foldl (fun l k => k.EX l) l)], sg) :=
    GL (l := t.kids) (P := fun i (a : List ByteArray) => GR (run cfg) (Bn a) (.int .i64 i) t.enc sg) (g := fun a k => k.EX a) (fin := fun a => some ([Bn a], sg))
     (I := fun i a => a.length + ((t.kids.drop i).map C9.size).sum ≤ lim)
     (fun a _ => by rw [TZ]; simp)
     (fun i h a ha => by
       rw [List.drop_eq_getElem_cons h, List.map_cons, List.sum_cons] at ha;have h1 := C9.gP t.kids[i] a;refine ⟨?_, by omega⟩
       rw [TZ];simp [h, F4 h, C9.E8, C9.ag, ih _ (List.getElem_mem h) a sg (by omega), K6 (show i < 9223372036854775807 by omega)])
   have Y4 := C9.size_eq t;rw [sK, C9.lU];simp
   by_cases h6 : t.kind = 2
   ·simp [h6]
    rw [show Bn l = .list 1 (l.map fun n => .str n) from rfl, DL (by simp; omega)]
    have := loop (l ++ [t.name]) (by simp; omega)
    simpa [Bn] using this
   ·simp [h6, loop l (by omega)]
theorem wB (t : C9) (ht : t.size ≤ lim) : (run cfg).p Vw [t.enc] = some (Bn t.names) := by
 refine (oZ _).trans ?_;rw [sH];have := A6d t [] [] (by simpa using ht)
 have e : Bn [] = .list 1 [] := rfl;rw [e] at this;simp [C9.E8, C9.ag, this, C9.names]
def Xi (l : List ByteArray) (n : ByteArray) : Bool := l.any fun x => decide (x = n)
theorem aR {l : List ByteArray} {n : ByteArray} : Xi l n = true ↔ n ∈ l := by simp [Xi]
theorem A8I (l : List ByteArray) (hl : l.length ≤ lim) (n : ByteArray) : (run cfg).p qN [Bn l, .str n] = some (.bool (Xi l n)) := by
 have hb := big hl;refine (zH _ _).trans ?_;rw [A1r];have loop := vO (l := l) (f := fun x => decide (x = n)) (P := fun i => Sl (run cfg) (Bn l) (.str n) (.int .i64 i))
  (by rw [XV]; simp)
  (fun i h => by
    rw [XV];simp [h, rO h, K6 (show i < 9223372036854775807 by omega)])
 exact loop
theorem A1k {α : Type} {e : α → DV} {l : List α} {i : Nat} (h : i ≤ l.length) (sz : Nat) : Dh sz (.list sz (l.map e)) none (some (.int .i64 (i : Int))) = some (.list sz ((l.take i).map e)) := by
 simp [Dh, bnd, h, List.map_take]
theorem lW {α : Type} [DecidableEq α] (l : List α) : (∀ (i : Nat) (h : i < l.length), l[i] ∉ l.take i) ↔ l.Nodup := by
 constructor
 ·intro h
  rw [List.nodup_iff_pairwise_ne, List.pairwise_iff_getElem];intro i j hi hj PL he;exact h j hj (by rw [← he]; exact List.mem_take_iff_getElem.2 ⟨i, by omega, rfl⟩)
 ·intro h i hi hm
  obtain ⟨j, hj, he⟩ := List.mem_take_iff_getElem.1 hm;rw [List.nodup_iff_pairwise_ne, List.pairwise_iff_getElem] at h;exact h j i (by omega) hi (by omega) he
open Classical in
theorem A2e (p : C9) (ht : p.size ≤ lim) (hx : p.txt) : (run cfg).p Ux [p.enc] = some (.bool p.right) := by
 refine (Zr _).trans ?_;rw [cB];have hnl : p.names.length ≤ lim := by have := C9.gP p []; simp at this; unfold C9.names; omega
 have hb := big hnl;simp [C9.E8, C9.ag, A8K p (C9.CG ht) hx, wB p ht, C9.right];cases hp : p.pat
 ·simp
 ·simp
  have loop : ∀ (k i : Nat), i + k = p.names.length → JI (run cfg) (Bn p.names) (.int .i64 i) = some (.bool (decide (∀ j (h : j < p.names.length), i ≤ j → p.names[j] ∉ p.names.take j))) := by
   intro k
   induction k with
   | zero =>
     intro i hi;rw [NW];have : ¬ i < p.names.length := by omega
     have h2 : ∀ j (h : j < p.names.length), i ≤ j → p.names[j] ∉ p.names.take j := fun j h h' => by omega
     simp [this];exact h2
   | succ k ih =>
     intro i hi;have h : i < p.names.length := by omega
     have nx := ih (i + 1) (by omega)
     push_cast at nx;rw [NW];have sl : Dh 1 (Bn p.names) none (some (.int .i64 (i : Int))) = some (Bn (p.names.take i)) := A1k (by omega) 1
     simp [h, sl, rO h, A8I (p.names.take i) (by simp; omega), K6 (show i < 9223372036854775807 by omega), nx]
     by_cases hm : p.names[i] ∈ p.names.take i
     ·simp only [aR.2 hm, if_true]
      congr 2
      symm
      rw [decide_eq_false_iff_not];exact fun hh => hh i h (Nat.le_refl _) hm
     ·have Wv : ¬ (Xi (p.names.take i) p.names[i] = true) := fun h => hm (aR.1 h)
      have B6h : Xi (p.names.take i) p.names[i] = false := by simpa using Wv
      simp only [B6h, Bool.false_eq_true, if_false]
      congr 2
      rw [decide_eq_decide];constructor
      ·intro hh j hj PL
       rcases Nat.lt_or_ge i j with h1 | h1
       ·exact hh j hj h1
       ·have : i = j := by omega
        subst this;exact hm
      ·intro hh j hj PL
       exact hh j hj (by omega)
  have l0 := loop p.names.length 0 (by omega)
  simp only [Int.natCast_zero, Int.ofNat_zero, Int.cast_ofNat_Int] at l0;rw [l0]
  congr 2
  rw [decide_eq_decide, ← lW];simp
def A4J (es : List (DV × DV)) (s : ByteArray) : DV := (Z4 es (.str s)).getD (.int .i64 0)
def ZZ (a b c e : D7) (n : Int) (es : List (DV × DV)) : List D7 := [a, .box [(.int .i64 n, .val)], .map true es, .box [(.undef, .map 2)], e]
theorem A85 (t0 t6 : DV) (a b c e : D7) (n : Int) (es : List (DV × DV)) : j5 (run cfg) t0 t6 .ret (ZZ a b c e n es) = some (.int .i64 n) := by
 rw [Mm];rfl
theorem B2f (t0 t6 : DV) (a b c e : D7) (n : Int) (es : List (DV × DV)) : j5 (run cfg) t0 t6 .normal (ZZ a b c e n es) = some (.int .i64 0) := by
 rw [Ju];rfl
theorem A3g (t0 t6 : DV) (a b c e : D7) : ∀ (ps : List C9) (pre : List ByteArray) (es : List (DV × DV)), (∀ q ∈ ps, q.texts) → pre.Nodup → (∀ s, A4J es s = .int .i64 (if Xi pre s = true then 1 else 0)) →
 DI (run cfg) t0 t6 (ps.map C9.enc) (ZZ a b c e 0 es) = some (.int .i64 (if ps.all C9.one = true ∧ (pre ++ ps.flatMap Xk).Nodup then 0 else 1))
 | [], pre, es, _, hn, _ => by
   rw [List.map_nil, Ps, B2f];simp [hn]
 | q :: ps, pre, es, hx, hn, hc => by
   rw [List.map_cons, Oy, Rh];have hq := hx q (List.mem_cons_self ..);simp only [Ic, O8, C9.pj, C9.E8, C9.ag, A2W q hq, H6, CP, V3, Bw];have sg1 : M4 (ZZ a b c e 0 es) 1 = some [(.int .i64 0, .val)] := rfl;have sg3 : M4 (ZZ a b c e 0 es) 3 = some [(.undef, .map 2)] := rfl;have set1 : (ZZ a b c e 0 es).set 1 (.box ([((.int .i64 0 : DV), Meta.val)].set 0 (.int .i64 1, .val))) = ZZ a b c e 1 es := rfl;have g0 : [((.int .i64 0 : DV), Meta.val)][0]? = some (.int .i64 0, .val) := rfl;have cm : Jp [((.undef : DV), Meta.map 2)] 0 = some 2 := rfl;have sm : AJ (ZZ a b c e 0 es) 2 = some (true, es) := rfl;cases h1 : q.one
   ·simp only [Bool.not_false, if_true, sg1, H6, g0, set1, A85]
    simp [h1]
   ·simp only [Bool.not_true, Bool.false_eq_true, if_false]
    have rest : ∀ (pre' : List ByteArray) (es' : List (DV × DV)), pre'.Nodup → (∀ s, A4J es' s = .int .i64 (if Xi pre' s = true then 1 else 0)) →
     DI (run cfg) t0 t6 (ps.map C9.enc) (ZZ a b c e 0 es') = some (.int .i64 (if ps.all C9.one = true ∧ (pre' ++ ps.flatMap Xk).Nodup then 0 else 1)) :=
     fun pre' es' h h' => A3g t0 t6 a b c e ps pre' es' (fun x hx' => hx x (List.mem_cons_of_mem _ hx')) h h'
    rw [Wj];simp only [C9.Dy, C9.WN, Bw, H6, M9, decide_eq_true_eq]
    by_cases h2 : q.kind = 2
    ·have hcq := hc q.name
     unfold A4J at hcq;have sm' : (ZZ a b c e 0 es).set 2 (.map true (Cc es (.str q.name) (.int .i64 1))) = ZZ a b c e 0 (Cc es (.str q.name) (.int .i64 1)) := rfl;simp only [h2, if_true, sg3, H6, cm, A9A, Bool.and_true, O8, sm, BEq.rfl, hcq, Cb, M9, decide_eq_true_eq]
     by_cases um : Xi pre q.name = true
     ·have h3 := aR.1 um
      simp only [um, if_true, show (0 : Int) < 1 by omega, decide_true, sg1, H6, g0, set1, A85]
      have : ¬ (pre ++ (q :: ps).flatMap Xk).Nodup := by
       simp only [List.flatMap_cons, Xk, h2, if_true, List.singleton_append, List.nodup_append];rintro ⟨-, -, h⟩;exact h q.name h3 q.name (List.mem_cons_self ..) rfl
      rw [if_neg (fun h => this h.2)]
     ·have h3 : q.name ∉ pre := fun h => um (aR.2 h)
      simp only [um, if_false, show ¬ (0 : Int) < 0 by omega, decide_false, Bool.false_eq_true]
      rw [CO (by omega) (by omega)]
      simp only [H6, Int.zero_add];rw [sm', rest (pre ++ [q.name]) _ (by rw [List.nodup_append]; refine ⟨hn, by simp, ?_⟩; rintro x hx' y hy rfl; simp at hy; exact h3 (hy ▸ hx')) ?_]
      ·simp [List.flatMap_cons, Xk, h2, h1]
      ·intro s
       unfold A4J;rw [B1c];have := hc s;unfold A4J at this
       by_cases h4 : q.name = s
       ·have : Xi (pre ++ [q.name]) s = true := aR.2 (by simp [h4])
        rw [if_pos h4, if_pos this];rfl
       ·have e : Xi (pre ++ [q.name]) s = Xi pre s := by simp [Xi, h4]
        simp only [if_neg h4, e];exact this
    ·simp only [h2, if_false]
     rw [rest pre es hn hc];simp [List.flatMap_cons, Xk, h2, h1]
theorem RU (p : C9) (ht : p.thin = true) (hx : p.txt) : (run cfg).p Ma [p.enc] = some (.int .i64 (if p.right = true then 0 else 1)) := by
 refine (YC _).trans ?_;rw [Zm];simp only [Ic, O8, C9.pj, C9.E8, C9.ag];rw [Un];obtain ⟨n, hn⟩ := B0P p ht;rw [C9.I5] at hn;simp only [M4, List.getElem?_cons_succ, List.getElem?_cons_zero, H6, IP, O8, lC hn];have := A3g p.enc p.enc (.box [(.int .i64 p.kind, .val), (.int .i64 p.lo, .val), (.int .i64 p.hi, .val), (.str p.name, .val), (.int .i64 p.n, .val), (.str p.s, .val), (.list 7 (p.kids.map C9.enc), .val)])
  (.arr 1 []) (.arr 1 []) (.arr 1 []) p.subs [] [] (fun q hq => hx q hq) (by simp) (fun s => rfl)
 refine this.trans ?_
 congr 2
 have e : p.right = true ↔ (p.subs.all C9.one = true ∧ (([] : List ByteArray) ++ p.subs.flatMap Xk).Nodup) := by
  unfold C9.right C9.names;rw [C9.B1k, C9.A5r];simp
 by_cases h : p.right = true
 ·rw [if_pos h, if_pos (e.1 h)]
 ·rw [if_neg h, if_neg (fun h' => h (e.2 h'))]
@[simp] theorem B5J (a b c d : Int) (k : IntKind) : rH [.int, .int] (.agg [.int k a, .int k b]) (.agg [.int k c, .int k d]) = some (decide (a = c) && decide (b = d)) := by
  simp only [rH, Cf, rJ, if_true, H6]
  by_cases h : a = c <;> by_cases h' : b = d <;> simp [h, h']
theorem A2V (a : C9) : a.thin = true → ∀ b : C9, (run cfg).p QV [a.enc, b.enc] = some (.bool (decide (a.bare = b.bare))) := by
 induction a using C9.ind with
 | h a ih =>
   intro ha b;have hb := a.Ad ha;refine (dL _ _).trans ?_;rw [iR];simp
   by_cases h1 : a.kind = b.kind <;> simp [h1, C9.Dj]
   by_cases h2 : a.name = b.name <;> simp [h2]
   by_cases h3 : a.n = b.n <;> simp [h3]
   by_cases h4 : a.s = b.s <;> simp [h4]
   by_cases h5 : a.kids.length = b.kids.length
   ·have loop := df (l := a.kids.map C9.bare) (m := b.kids.map C9.bare) (by simpa using h5) (P := fun i => Kw (run cfg) (.int .i64 i) a.enc b.enc)
     (by rw [PU]; simp [h5])
     (fun i h => by
       have h : i < a.kids.length := by simpa using h
       have h' : i < b.kids.length := by omega
       rw [PU];simp [h, h', F4 h, F4 h', C9.E8, C9.ag, ih _ (List.getElem_mem h) (C9.CF ha (List.getElem_mem h)), K6 (show i < 9223372036854775807 by omega)])
    simp only [List.length_map, h5] at loop ⊢;simp [loop]
   ·have : a.kids.map C9.bare ≠ b.kids.map C9.bare := fun h => h5 (by have := congrArg List.length h; simpa using this)
    simp [Int.ofNat_inj, h5, this]
theorem A6e (a : C9) : a.thin = true → ∀ b : C9, a.bare = b.bare → (run cfg).p Vy [a.enc, b.enc] = some (.bool (decide (a = b))) := by
 induction a using C9.ind with
 | h a ih =>
   intro ha b he;have hb := a.Ad ha;rw [C9.Dj] at he;simp at he;obtain ⟨e1, e2, e3, e4, e5⟩ := he;have h5 : a.kids.length = b.kids.length := by have := congrArg List.length e5; simpa using this
   refine (oo _ _).trans ?_;rw [sO];simp [C9.Dj, e1, e2, e3, e4]
   by_cases h1 : a.lo = b.lo <;> simp [h1]
   by_cases h2 : a.hi = b.hi <;> simp [h2]
   have loop := df (l := a.kids) (m := b.kids) h5 (P := fun i => OV (run cfg) (.int .i64 i) a.enc b.enc)
    (by rw [Ta]; simp [h5])
    (fun i h => by
      have h' : i < b.kids.length := by omega
      have e6 : a.kids[i].bare = b.kids[i].bare := by
       have : (a.kids.map C9.bare)[i]'(by simpa using h) = (b.kids.map C9.bare)[i]'(by simpa using h') := by simp only [e5]
       simpa using this
      rw [Ta];simp [h, h', F4 h, F4 h', C9.E8, C9.ag, ih _ (List.getElem_mem h) (C9.CF ha (List.getElem_mem h)) _ e6, K6 (show i < 9223372036854775807 by omega)])
   simp [loop]
theorem A6W (a : Ex) : a.fit → ∀ b : Ex, (run cfg).p YM [a.enc, b.enc] = some (.bool (decide (a.bare = b.bare))) := by
 induction a using Ex.ind with
 | h a ih =>
   intro ha b;have hk := big (Nat.le_of_lt ha.one.kids);have hp := big (Nat.le_of_lt ha.one.F7);refine (uE _ _).trans ?_;rw [yl];simp
   by_cases h1 : a.kind = b.kind <;> simp [h1, Ex.Dj]
   by_cases h2 : a.name = b.name <;> simp [h2]
   by_cases h3 : a.arg = b.arg <;> simp [h3]
   by_cases h4 : a.n = b.n <;> simp [h4]
   by_cases h6 : a.s = b.s <;> simp [h6]
   by_cases h7 : a.op = b.op <;> simp [h7]
   by_cases h8 : a.F7.length = b.F7.length
   ·by_cases h5 : a.kids.length = b.kids.length
    ·have loop := df (l := a.kids.map Ex.bare) (m := b.kids.map Ex.bare) (by simpa using h5) (P := fun i => OT (run cfg) (.int .i64 i) a.enc b.enc)
      (by rw [TY]; simp [h5])
      (fun i h => by
        have h : i < a.kids.length := by simpa using h
        have h' : i < b.kids.length := by omega
        rw [TY];simp [h, h', F4 h, F4 h', Ex.E8, Ex.ag, ih _ (List.getElem_mem h) (ha.kid (List.getElem_mem h)), K6 (show i < 9223372036854775807 by omega)])
     have xA := Nj (l := a.F7.map C9.bare) (m := b.F7.map C9.bare) (by simpa using h8) (P := fun i => Qc (run cfg) (.int .i64 i) a.enc b.enc) (y := .bool (decide (a.kids.map Ex.bare = b.kids.map Ex.bare))) (n := .bool false)
      (by rw [VL]; simp [h8, loop])
      (fun i h => by
        have h : i < a.F7.length := by simpa using h
        have h' : i < b.F7.length := by omega
        rw [VL];simp [h, h', F4 h, F4 h', C9.E8, C9.ag, A2V _ (C9.VY (ha.one.pat _ (List.getElem_mem h))), K6 (show i < 9223372036854775807 by omega)])
     simp only [h5, h8];simp [nR, Ty.E8, Ty.ag, WQ _ ha.one.a, WQ _ ha.one.b]
     by_cases h9 : a.a = b.a <;> simp [h9]
     by_cases DY : a.b = b.b <;> simp [DY, xA]
     by_cases Dn : a.F7.map C9.bare = b.F7.map C9.bare <;> simp [Dn]
    ·have : a.kids.map Ex.bare ≠ b.kids.map Ex.bare := fun h => h5 (by have := congrArg List.length h; simpa using this)
     simp [Int.ofNat_inj, h5, h8, this]
   ·have : a.F7.map C9.bare ≠ b.F7.map C9.bare := fun h => h8 (by have := congrArg List.length h; simpa using this)
    simp [Int.ofNat_inj, h8, this]
theorem A4d (a : Ex) : a.fit → ∀ b : Ex, (run cfg).p SK [a.enc, b.enc] = some (.bool (decide (a = b))) := by
 induction a using Ex.ind with
 | h a ih =>
   intro ha b;have hk := big (Nat.le_of_lt ha.one.kids);have hp := big (Nat.le_of_lt ha.one.F7);refine (jH _ _).trans ?_;rw [nQ];simp [Ex.E8, Ex.ag, A6W a ha]
   by_cases he : a.bare = b.bare
   ·rw [if_pos he]
    rw [Ex.Dj] at he;simp at he;obtain ⟨e1, e2, e3, e4, e5, e6, e7, e8, e9, e10⟩ := he;have h5 : a.kids.length = b.kids.length := by have := congrArg List.length e10; simpa using this
    have h8 : a.F7.length = b.F7.length := by have := congrArg List.length e9; simpa using this
    have loop := df (l := a.kids) (m := b.kids) h5 (P := fun i => Mh (run cfg) (.int .i64 i) a.enc b.enc)
     (by rw [RD]; simp [h5])
     (fun i h => by
       have h' : i < b.kids.length := by omega
       rw [RD];simp [h, h', F4 h, F4 h', Ex.E8, Ex.ag, ih _ (List.getElem_mem h) (ha.kid (List.getElem_mem h)), K6 (show i < 9223372036854775807 by omega)])
    have xA := Nj (l := a.F7) (m := b.F7) h8 (P := fun i => Mg (run cfg) (.int .i64 i) a.enc b.enc) (y := .bool (decide (a.kids = b.kids))) (n := .bool false)
     (by rw [RB]; simp [h8, loop])
     (fun i h => by
       have h' : i < b.F7.length := by omega
       have e11 : a.F7[i].bare = b.F7[i].bare := by
        have : (a.F7.map C9.bare)[i]'(by simpa using h) = (b.F7.map C9.bare)[i]'(by simpa using h') := by simp only [e9]
        simpa using this
       rw [RB];simp [h, h', F4 h, F4 h', C9.E8, C9.ag, A6e _ (C9.VY (ha.one.pat _ (List.getElem_mem h))) _ e11, K6 (show i < 9223372036854775807 by omega)])
    simp [Ex.Dj, e1, e2, e3, e4, e5, e6, e7, e8]
    by_cases h1 : a.lo = b.lo <;> simp [h1]
    by_cases h2 : a.hi = b.hi <;> simp [h2, xA]
    by_cases Dn : a.F7 = b.F7 <;> simp [Dn]
   ·have : a ≠ b := fun h => he (by rw [h])
    rw [if_neg he];simp [this]
theorem A66 (t : Ty) : ∀ (i : Nat) (out : List Int) (sg : List D7) (es : List (DV × DV)) (c : Int → Int) (B : Int), AJ sg i = some (false, es) → Da es c → (∀ v, 0 ≤ c v ∧ c v ≤ B) → (∀ v, c v = 0 ↔ v ∉ out) → B + t.BS ≤ 4611686018427387904 →
 out.length + t.BS ≤ lim → t.thin = true → ∃ es' c', (run cfg).r YR [(t.enc, .val), (.undef, .map i), (E9 out, .own)] sg = some ([E9 (t.BD out)], sg.set i (.map false es')) ∧ Da es' c' ∧ (∀ v, 0 ≤ c' v ∧ c' v ≤ B + t.BS) ∧ (∀ v, c' v = 0 ↔ v ∉ t.BD out) := by
 induction t using Ty.ind with
 | h t ih =>
   intro i out sg es c B hm hc hb hz hB hl R_;have Ef := t.Ad R_;have Y4 := Ty.wM t;have hi := A5P hm;have loop : ∀ (n j : Nat) (out : List Int) (es : List (DV × DV)) (c : Int → Int) (B : Int), j + n = t.kids.length → Da es c → (∀ v, 0 ≤ c v ∧ c v ≤ B) → (∀ v, c v = 0 ↔ v ∉ out) → B + ((t.kids.drop j).map Ty.BS).sum ≤ 4611686018427387904 → out.length + ((t.kids.drop j).map Ty.BS).sum ≤ lim →
    ∃ es' c', Qk (run cfg) i (E9 out) (.list 3 (t.kids.map Ty.enc)) (.int .i64 t.kids.length) (.int .i64 j) (sg.set i (.map false es)) = some ([E9 ((t.kids.drop j).foldl (fun l k => k.BD l) out)], sg.set i (.map false es')) ∧ Da es' c' ∧ (∀ v, 0 ≤ c' v ∧ c' v ≤ B + ((t.kids.drop j).map Ty.BS).sum) ∧
      (∀ v, c' v = 0 ↔ v ∉ (t.kids.drop j).foldl (fun l k => k.BD l) out) := by
    intro n
    induction n with
    | zero =>
      intro j out es c B hj hc hb hz hB hl;have : ¬ j < t.kids.length := by omega
      rw [VS, List.drop_of_length_le (by omega)]
      refine ⟨es, c, by simp [this], hc, fun v => ⟨(hb v).1, by simpa using (hb v).2⟩, by simpa using hz⟩
    | succ n ihn =>
      intro j out es c B hj hc hb hz hB hl;have h : j < t.kids.length := by omega
      rw [List.drop_eq_getElem_cons h] at hB hl ⊢;simp only [List.map_cons, List.sum_cons, List.foldl_cons] at hB hl ⊢;obtain ⟨es1, c1, h1, h2, h3, h4⟩ := ih _ (List.getElem_mem h) i out (sg.set i (.map false es)) es c B (A92 hi _ _) hc hb hz (by omega) (by omega) (Ty.CF R_ (List.getElem_mem h))
      have hv := Ty.gW t.kids[j] out;obtain ⟨es2, c2, k1, k2, k3, k4⟩ := ihn (j + 1) (t.kids[j].BD out) es1 c1 (B + t.kids[j].BS) (by omega) h2 h3 h4 (by omega) (by omega)
      refine ⟨es2, c2, ?_, k2, fun v => ⟨(k3 v).1, by have := (k3 v).2; omega⟩, k4⟩
      rw [VS];rw [List.set_set] at h1;simp [h, F4 h, Ty.E8, Ty.ag, h1, K6 (show j < 9223372036854775807 by omega)]
      push_cast at k1;exact k1
   have fin : ∀ (out : List Int) (es : List (DV × DV)) (c : Int → Int) (B : Int), Da es c → (∀ v, 0 ≤ c v ∧ c v ≤ B) → (∀ v, c v = 0 ↔ v ∉ out) → B + (t.kids.map Ty.BS).sum ≤ 4611686018427387904 → out.length + (t.kids.map Ty.BS).sum ≤ lim →
    ∃ es' c', NH (run cfg) i (E9 out) t.enc (sg.set i (.map false es)) = some ([E9 (t.kids.foldl (fun l k => k.BD l) out)], sg.set i (.map false es')) ∧ Da es' c' ∧ (∀ v, 0 ≤ c' v ∧ c' v ≤ B + (t.kids.map Ty.BS).sum) ∧ (∀ v, c' v = 0 ↔ v ∉ t.kids.foldl (fun l k => k.BD l) out) := by
    intro out es c B hc hb hz hB hl;have := loop t.kids.length 0 out es c B (by omega) hc hb hz (by simpa using hB) (by simpa using hl)
    simp only [List.drop_zero] at this;obtain ⟨es', c', k1, k2⟩ := this;refine ⟨es', c', ?_, k2⟩;rw [n_];simp;exact k1
   rw [Ty.XJ]
   by_cases h6 : t.kind = 6
   ·rw [if_pos h6] at Y4
    have hcv := hc t.n
    by_cases hn : t.n ∈ out
    ·have hc0 : c t.n ≠ 0 := fun h => (hz t.n).1 h hn
     obtain ⟨es', c', k1, k2, k3, k4⟩ := fin out (Cc es (.int .i64 t.n) (.int .i64 (c t.n + 1))) _ (B + 1) (hc.set t.n (c t.n + 1)) (fun v => by
      have := hb v; have := hb t.n
      by_cases e : t.n = v <;> simp [e] <;> omega) (fun v => by
      by_cases e : t.n = v
      ·subst e; simp [hn]; have := hb t.n; omega
      ·simp [e, hz v]) (by omega) (by omega)
     refine ⟨es', c', (Tq _ _ _ _).trans ?_, k2, fun v => ⟨(k3 v).1, by have := (k3 v).2; omega⟩, by simpa [h6, hn] using k4⟩
     rw [WH];have ha := hb t.n;have Dp : A8 .add (.int .i64 (c t.n)) (.int .i64 1) = some (.int .i64 (c t.n + 1)) := CO (by omega) (by omega)
     simp [h6, hm, hcv, hc0, Dp, k1, hn]
    ·have hc0 : c t.n = 0 := (hz t.n).2 hn
     obtain ⟨es', c', k1, k2, k3, k4⟩ := fin (out ++ [t.n]) (Cc es (.int .i64 t.n) (.int .i64 (c t.n + 1))) _ (B + 1) (hc.set t.n (c t.n + 1)) (fun v => by
      have := hb v; have := hb t.n
      by_cases e : t.n = v <;> simp [e] <;> omega) (fun v => by
      by_cases e : t.n = v
      ·subst e; simp; have := hb t.n; omega
      ·simp only [e, if_false, hz v, List.mem_append, List.mem_singleton]; rw [not_or]; exact ⟨fun h => ⟨h, fun h' => e h'.symm⟩, fun h => h.1⟩) (by omega) (by simp; omega)
     refine ⟨es', c', (Tq _ _ _ _).trans ?_, k2, fun v => ⟨(k3 v).1, by have := (k3 v).2; omega⟩, by simpa [h6, hn] using k4⟩
     rw [WH];have ha := hb t.n;have Dp : A8 .add (.int .i64 (c t.n)) (.int .i64 1) = some (.int .i64 (c t.n + 1)) := CO (by omega) (by omega)
     have B57 : R6 1 (E9 out) (.list 1 [.int .i64 t.n]) = some (E9 (out ++ [t.n])) := Ac (e := fun n => DV.int .i64 n) (by omega)
     rw [hc0] at hcv Dp;rw [hc0] at k1;rw [show (0 : Int) + 1 = 1 from rfl] at Dp k1
     simp [h6, hm, hcv, B57, Dp, hn, k1]
   ·rw [if_neg h6] at Y4
    obtain ⟨es', c', k1, k2, k3, k4⟩ := fin out es c B hc hb hz (by omega) (by omega)
    refine ⟨es', c', (Tq _ _ _ _).trans ?_, k2, fun v => ⟨(k3 v).1, by have := (k3 v).2; omega⟩, by simpa [h6] using k4⟩
    rw [WH];rw [B1s hm] at k1;simp [h6, k1]
theorem WR (t : Ty) (R_ : t.thin = true) (ht : t.BS ≤ lim) : (run cfg).p OE [t.enc] = some (E9 t.vars) := by
 refine (uN _).trans ?_;rw [zA];obtain ⟨es', c', h, -⟩ := A66 t 0 [] [.map false []] [] (fun _ => 0) 0 rfl Da.nil (by simp) (by simp) (by unfold lim at ht; omega) (by simpa using ht) R_
 have e : E9 [] = .list 1 [] := rfl;rw [e] at h;simp [Ty.E8, Ty.ag, h, Ty.vars]
theorem A2h (l : List Int) (hl : l.length ≤ lim) (n : Int) : ∃ k : Int, (run cfg).p Hd [E9 l, .int .i64 n] = some (.int .i64 k) ∧ (0 ≤ k ↔ n ∈ l) := by
 have hb := big hl;have loop : ∀ (m i : Nat), i + m = l.length → ∃ k : Int, Cz (run cfg) (E9 l) (.int .i64 n) (.int .i64 l.length) (.int .i64 i) = some (.int .i64 k) ∧ (0 ≤ k ↔ n ∈ l.drop i) := by
  intro m
  induction m with
  | zero =>
    intro i hi;have : ¬ i < l.length := by omega
    rw [Ey];exact ⟨-1, by simp [this], by simp [List.drop_of_length_le (show l.length ≤ i by omega)]⟩
  | succ m ihm =>
    intro i hi;have h : i < l.length := by omega
    rw [Ey, List.drop_eq_getElem_cons h]
    by_cases e : n = l[i]
    ·exact ⟨i, by simp [h, U3 h, e], ⟨fun _ => by rw [e]; exact List.mem_cons_self .., fun _ => by omega⟩⟩
    ·obtain ⟨k, h1, h2⟩ := ihm (i + 1) (by omega)
     push_cast at h1;refine ⟨k, by simp [h, U3 h, e, K6 (show i < 9223372036854775807 by omega), h1], ?_⟩
     rw [h2, List.mem_cons];simp [e]
 obtain ⟨k, h1, h2⟩ := loop l.length 0 (by omega)
 refine ⟨k, (Mv _ _).trans ?_, by simpa using h2⟩
 rw [NZ];simpa using h1
theorem wF (l : List Int) (hl : l.length ≤ lim) (n : Int) : (run cfg).p FW [E9 l, .int .i64 n] = some (.bool (decide (n ∈ l))) := by
 refine (J_ _ _).trans ?_;rw [Kg];obtain ⟨k, h1, h2⟩ := A2h l hl n;simp [h1, h2]
def wO (es : List (DV × DV)) (l : List (Int × Ty)) : Prop :=
 ∀ v, match Z4 es (.int .i64 v) with
   | none => ∀ e ∈ l, e.1 ≠ v
   | some d => ∃ (i : Nat) (h : i < l.length), d = .int .i64 i ∧ l[i].1 = v ∧ ∀ j (hj : j < i), (l[j]'(by omega)).1 ≠ v
theorem wO.look {es : List (DV × DV)} {l : List (Int × Ty)} (h : wO es l) (v : Int) : (Z4 es (.int .i64 v) = none ∧ look l v = none) ∨ ∃ (i : Nat) (hi : i < l.length), Z4 es (.int .i64 v) = some (.int .i64 i) ∧ look l v = some l[i].2 := by
 have := h v;cases hm : Z4 es (.int .i64 v) with
 | none =>
   rw [hm] at this
   left
   refine ⟨rfl, ?_⟩;unfold Su.look;rw [List.find?_eq_none.2]
   ·rfl
   ·intro e he; simpa using this e he
 | some d =>
   rw [hm] at this;obtain ⟨i, hi, rfl, h1, h2⟩ := this
   right
   refine ⟨i, hi, rfl, ?_⟩;unfold Su.look;have : l.find? (fun e => decide (e.1 = v)) = some l[i] := by
    rw [List.find?_eq_some_iff_getElem];refine ⟨by simpa using h1, i, hi, rfl, fun j hj => ?_⟩
    simpa using h2 j hj
   rw [this];rfl
@[simp] theorem B6E (e : Int × Ty) : A7 0 (NL e) = .int .i64 e.1 := rfl
@[simp] theorem B6F (e : Int × Ty) : A7 1 (NL e) = .int .i64 e.2.kind := rfl
@[simp] theorem B6G (e : Int × Ty) : A7 2 (NL e) = .int .i64 e.2.n := rfl
@[simp] theorem B6H (e : Int × Ty) : A7 3 (NL e) = .list 3 (e.2.kids.map Ty.enc) := rfl
@[simp] theorem B5l (e : Int × Ty) : D5 4 (NL e) = true := rfl
theorem A4f (l : List (Int × Ty)) (es : List (DV × DV)) (hf : wO es l) (i : Nat) (sg : List D7) (hm : AJ sg i = some (false, es)) (t : Ty) : t.right = true →
 (run cfg).r SN [(t.enc, .val), (Ae l, .val), (.undef, .map i)] sg = some ([(t.put l).enc], sg) := by
 induction t using Ty.ind with
 | h t ih =>
   intro ht;have hb := t.Ad (Ty.Z5 ht);refine (jL _ _ _ _).trans ?_;rw [nW, Ty.put_eq]
   by_cases h6 : t.kind = 6
   ·have e6 : DV.agg [.int .i64 6, .int .i64 t.n, .list 3 (t.kids.map Ty.enc)] = t.enc := by rw [← h6]; exact Ty.E8 t
    rcases hf.look t.n with ⟨h1, h2⟩ | ⟨j, hj, h1, h2⟩
    ·simp [h6, hm, h1, h2, e6]
    ·have e1 : F3 4 (Ae l) (.int .i64 (j : Int)) = some (NL l[j]) := F4 hj
     simp [h6, hm, h1, h2, e1, Ty.E8, Ty.ag]
   ·have loop := GL (l := t.kids) (P := fun j (a : List Ty) => Ky (run cfg) (Ae l) i (.list 3 (t.kids.map Ty.enc)) (.int .i64 t.kids.length) (.int .i64 j) (.int .i64 t.kind) (.list 3 (a.map Ty.enc)) sg)
     (g := fun a k => a ++ [k.put l]) (fin := fun a => some ([(Ty.mk t.kind 0 a).enc], sg)) (I := fun j a => a.length = j)
     (fun a _ => by rw [PV]; simp [Ty.I5])
     (fun j h a ha => by
       refine ⟨?_, by simp [ha]⟩
       rw [PV];have := Ac (e := Ty.enc) (sz := 3) (l := a) (x := t.kids[j].put l) (by unfold lim; omega)
       simp [h, F4 h, Ty.E8, Ty.ag, ih _ (List.getElem_mem h) (Ty.P5 ht (List.getElem_mem h)), this, K6 (show j < 9223372036854775807 by omega)]) [] rfl
    have e : ∀ (m : List Ty) (a : List Ty), m.foldl (fun a k => a ++ [k.put l]) a = a ++ m.map (Ty.put l) := by
     intro m
     induction m with
     | nil => intro a; simp
     | cons x m ih => intro a; simp [ih]
    rw [e] at loop;have hn : t.n = 0 := by have := (Ty.Z6.1 ht).2.2.2.1; omega
    by_cases h0 : t.kids.length = 0
    ·have hk : t.kids = [] := List.eq_nil_of_length_eq_zero h0
     simp only [if_neg h6, hk, List.map_nil, Ty.I5 (Ty.mk t.kind t.n [])];simp [h6, hk]
     try (rw [Ty.I5 t, hk]; rfl)
    ·have Ib : ¬ ((t.kids.length : Int) = 0) := by omega
     simp only [List.map_nil, List.nil_append] at loop;have A2x : ¬ t.kids = [] := fun h => h0 (by rw [h]; rfl)
     simp [h6, Ib, A2x, hn, loop]
theorem A2g (t : Ty) (l : List (Int × Ty)) (ht : t.thin = true) (hl : l.length ≤ lim) (I4 : ∀ e ∈ l, e.2.thin = true) :
 (run cfg).p JW [t.enc, Ae l] = some (if t.right = true ∧ LZ l = true then .H7 [(t.put l).enc, .int .i64 0] else .H7 [F8.enc, .int .i64 1]) := by
 have hb := big hl;have z : F8.enc = .agg [.int .i64 0, .int .i64 0, .list 3 []] := by rw [Ty.I5]; rfl
 refine (Zv _ _).trans ?_;rw [dB]
 by_cases hr : t.right = true
 ·have loop : ∀ (m i : Nat) (es : List (DV × DV)), i + m = l.length → wO es (l.take i) → (l.take i).all (fun e => decide (0 ≤ e.1) && decide (e.1 ≤ 1048576) && e.2.right) = true →
   Fb (run cfg) (Ae l) (Ae l) (.int .i64 l.length) (.int .i64 i) t.enc [.map false es] = some (if LZ l = true then .H7 [(t.put l).enc, .int .i64 0] else .H7 [F8.enc, .int .i64 1]) := by
   intro m
   induction m with
   | zero =>
     intro i es hi hf ha;rw [List.take_of_length_le (by omega)] at hf ha
     have : ¬ i < l.length := by omega
     rw [NY];have hp := A4f l es hf 0 [.map false es] rfl t hr;have ha' : LZ l = true := ha;simp [this, Ty.E8, Ty.ag, hp, ha']
   | succ m ihm =>
     intro i es hi hf ha;have h : i < l.length := by omega
     have A2z : l[i] ∈ l := List.getElem_mem h;have ha' : ¬ (0 ≤ l[i].1 ∧ l[i].1 ≤ 1048576 ∧ l[i].2.right = true) → LZ l = false := by
      intro hh;rw [Bool.eq_false_iff];intro h';exact hh (kC.1 h' _ A2z)
     rw [NY];have e1 : F3 4 (Ae l) (.int .i64 (i : Int)) = some (NL l[i]) := F4 h
     by_cases h1 : l[i].1 < 0
     ·simp [h, e1, h1, ha' (by omega), z]
     by_cases h2 : 1048576 < l[i].1
     ·simp [h, e1, h1, h2, ha' (by omega), z]
     cases h3 : l[i].2.right
     ·simp [h, e1, h1, h2, Ty.E8, Ty.ag, CE _ (I4 _ A2z), h3, ha' (by simp [h3]), z]
     have hm : AJ [D7.map false es] 0 = some (false, es) := rfl;have lG : (l.take (i + 1)).all (fun e => decide (0 ≤ e.1) && decide (e.1 ≤ 1048576) && e.2.right) = true := by
      rw [List.take_succ_eq_append_getElem h, List.all_append, ha];have jY : 0 ≤ l[i].1 := by omega
      have YG : l[i].1 ≤ 1048576 := by omega
      simp [jY, YG, h3]
     have Z0 : (l.take i).length = i := by simp; omega
     cases hg : Z4 es (.int .i64 l[i].1) with
     | none =>
       have nx := ihm (i + 1) (Cc es (.int .i64 l[i].1) (.int .i64 i)) (by omega) (by
        intro v;rw [A3x]
        by_cases e : l[i].1 = v
        ·rw [if_pos e]
         refine ⟨i, by simp; omega, rfl, by simpa using e, fun j hj => ?_⟩
         have := hf l[i].1;rw [hg] at this;have := this l[j] (List.mem_take_iff_getElem.2 ⟨j, by omega, rfl⟩)
         simpa [e] using this
        ·rw [if_neg e]
         have := hf v;cases hv : Z4 es (.int .i64 v) with
         | none =>
           rw [hv] at this;intro x hx;rw [List.take_succ_eq_append_getElem h, List.mem_append, List.mem_singleton] at hx;rcases hx with hx | rfl
           ·exact this x hx
           ·exact e
         | some d =>
           rw [hv] at this;obtain ⟨k, hk, a, b, c⟩ := this;rw [Z0] at hk;refine ⟨k, by simp; omega, a, by simpa using b, fun j hj => by simpa using c j hj⟩) lG
       push_cast at nx;simp [h, e1, h1, h2, Ty.E8, Ty.ag, CE _ (I4 _ A2z), h3, hm, hg, K6 (show i < 9223372036854775807 by omega), nx]
     | some d =>
       have nx := ihm (i + 1) es (by omega) (by
        intro v;have := hf v;cases hv : Z4 es (.int .i64 v) with
        | none =>
          rw [hv] at this;intro x hx;rw [List.take_succ_eq_append_getElem h, List.mem_append, List.mem_singleton] at hx;rcases hx with hx | rfl
          ·exact this x hx
          ·intro e; rw [e, hv] at hg; cases hg
        | some d =>
          rw [hv] at this;obtain ⟨k, hk, a, b, c⟩ := this;rw [Z0] at hk;refine ⟨k, by simp; omega, a, by simpa using b, fun j hj => by simpa using c j hj⟩) lG
       push_cast at nx;simp [h, e1, h1, h2, Ty.E8, Ty.ag, CE _ (I4 _ A2z), h3, hm, hg, K6 (show i < 9223372036854775807 by omega), nx]
  have l0 := loop l.length 0 [] (by omega) (fun v => by simp [Z4]) (by simp)
  simp only [Int.natCast_zero, Int.ofNat_zero, Int.cast_ofNat_Int] at l0;have dl : dLen (Ae l) = some (.int .i64 l.length) := by simp [Ae]
  simp [Ty.E8, Ty.ag, CE t ht, hr, dl, l0]
 ·simp [Ty.E8, Ty.ag, CE t ht, hr, z]
theorem A5o {α β X : Type} {l : List α} {m : List β} (hl : l.length = m.length) {P : Int → Option X} {f : α → β → Bool} {y n : X} (stop : P l.length = some y)
 (step : ∀ (i : Nat) (h : i < l.length), P i = if f l[i] (m[i]'(by omega)) = true then P ((i : Int) + 1) else some n) : P 0 = some (if ((l.zip m).all fun p => f p.1 p.2) = true then y else n) := by
 refine Ni (l := l.zip m) (f := fun p => f p.1 p.2) (by rw [List.length_zip, ← hl, Nat.min_self]; exact stop) fun i h => ?_
 have h' : i < l.length := by rw [List.length_zip] at h; omega
 rw [step i h'];simp
theorem A3b {a b : Ty} (ha : a.right = true) (hb : b.right = true) (h : a.kind = b.kind) : a.kids.length = b.kids.length := by
 have h1 := (Ty.Z6.1 ha).1;have h2 := (Ty.Z6.1 hb).1;rw [h] at h1;omega
theorem A2b (a : Ty) : a.right = true → ∀ b : Ty, b.right = true → (run cfg).p OB [a.enc, b.enc] = some (.bool (a.agrees b)) := by
 induction a using Ty.ind with
 | h a ih =>
   intro ha b hb;have hn := a.Ad (Ty.Z5 ha);refine (Zp _ _).trans ?_;rw [bu, Ty.A29];simp [Ty.E8, Ty.ag, Xp _ (Ty.Z5 ha), Xp _ (Ty.Z5 hb)]
   by_cases h1 : a.kind = 5 <;> simp [h1]
   by_cases h2 : b.kind = 5 <;> simp [h2]
   by_cases h3 : a.kind = b.kind <;> simp [h3]
   by_cases h4 : a.n = b.n <;> simp [h4]
   have h5 := A3b ha hb h3;have loop := A5o (l := a.kids) (m := b.kids) h5 (P := fun i => JF (run cfg) (.list 3 (a.kids.map Ty.enc)) (.int .i64 a.kids.length) (.int .i64 i) b.enc) (f := Ty.agrees) (y := .bool true) (n := .bool false)
    (by rw [NP]; simp)
    (fun i h => by
      have h' : i < b.kids.length := by omega
      rw [NP];simp [h, h', F4 h, F4 h', Ty.E8, Ty.ag, ih _ (List.getElem_mem h) (Ty.P5 ha (List.getElem_mem h)) _ (Ty.P5 hb (List.getElem_mem h')), K6 (show i < 9223372036854775807 by omega)]
      cases (a.kids[i].agrees b.kids[i]) <;> rfl)
   rw [loop];cases ((a.kids.zip b.kids).all fun p => p.1.agrees p.2) <;> rfl
theorem A2Q (a b : Ty) (ha : a.thin = true) (hb : b.thin = true) : (run cfg).p XM [a.enc, b.enc] = some (.bool (a.right && b.right && a.agrees b)) := by
 refine (dG _ _).trans ?_;rw [iM];simp [Ty.E8, Ty.ag, CE _ ha, CE _ hb];cases h1 : a.right
 ·simp
 ·cases h2 : b.right
  ·simp
  ·simp [A2b a h1 b h2]
theorem vw (k : Int) : (run cfg).p fE [.int .i64 k] = some (.int .i64 (MP k)) := by
 refine (oQ _).trans ?_;rw [r_];simp [MP]
 by_cases h3 : k = 3 <;> by_cases h4 : k = 4 <;> by_cases h5 : k = 5 <;> by_cases h6 : k = 6 <;> by_cases h8 : k = 8 <;> simp_all
def qL (R : N7) (p : C9) (t : Ty) (sg : List D7) (out : List (ByteArray × Ty)) : Option (List (ByteArray × Ty)) → Prop
 | some b => R.r Pf [(p.enc, .val), (t.enc, .val), (O5 out, .own)] sg = some ([O5 (out ++ b), .bool true], sg)
 | none => ∃ d, R.r Pf [(p.enc, .val), (t.enc, .val), (O5 out, .own)] sg = some ([d, .bool false], sg)
theorem A6a (p : C9) : p.pat = true → ∀ (t : Ty) (sg : List D7) (out : List (ByteArray × Ty)), t.right = true → out.length + p.size ≤ lim → qL (run cfg) p t sg out (p.binds t) := by
 induction p using C9.ind with
 | h p ih =>
   intro hp t sg out ht hl;have Dt := C9.lX (C9.A7r hp);have Y4 := C9.size_eq p;have loop : ∀ (ts : List Ty), ts.length = p.kids.length → (∀ u ∈ ts, u.right = true) → ∀ (n j : Nat) (out : List (ByteArray × Ty)), j + n = p.kids.length → out.length + ((p.kids.drop j).map C9.size).sum ≤ lim →
    match Jt ((p.kids.drop j).map C9.binds) (ts.drop j) with
    | some b => II (run cfg) (O5 out) (.list 3 (ts.map Ty.enc)) (.list 7 (p.kids.map C9.enc)) (.int .i64 p.kids.length) (.int .i64 j) sg = some ([O5 (out ++ b), .bool true], sg)
    | none => ∃ d, II (run cfg) (O5 out) (.list 3 (ts.map Ty.enc)) (.list 7 (p.kids.map C9.enc)) (.int .i64 p.kids.length) (.int .i64 j) sg = some ([d, .bool false], sg) := by
    intro ts hts htr n
    induction n with
    | zero =>
      intro j out hj hl;have : ¬ j < p.kids.length := by omega
      rw [List.drop_of_length_le (show p.kids.length ≤ j by omega)]
      simp only [List.map_nil, Jt];rw [Gm];simp [this]
    | succ n ihn =>
      intro j out hj hl;have h : j < p.kids.length := by omega
      have h' : j < ts.length := by omega
      have hb : p.kids.length < 4294967297 := by rw [Dt]; split <;> omega
      rw [List.drop_eq_getElem_cons h] at hl ⊢;rw [List.drop_eq_getElem_cons h'];simp only [List.map_cons, List.sum_cons, Jt] at hl ⊢;have k1 := ih _ (List.getElem_mem h) (C9.A2I hp (List.getElem_mem h)) ts[j] sg out (htr _ (List.getElem_mem h')) (by omega)
      cases UJ : p.kids[j].binds ts[j] with
      | none =>
        rw [UJ] at k1;obtain ⟨d, k1⟩ := k1;simp only [Option.bind_none];refine ⟨.list 4 [], ?_⟩;rw [Gm];simp [h, F4 h, F4 h', C9.E8, C9.ag, Ty.E8, Ty.ag, k1]
      | some b1 =>
        rw [UJ] at k1;have B65 := C9.Re _ _ _ UJ;simp only [qL] at k1;have k2 := ihn (j + 1) (out ++ b1) (by omega) (by rw [List.length_append]; omega)
        simp only [Option.bind_some];cases hc : Jt ((p.kids.drop (j + 1)).map C9.binds) (ts.drop (j + 1)) with
        | none =>
          rw [hc] at k2;obtain ⟨d, k2⟩ := k2;simp only [Option.bind_none];refine ⟨d, ?_⟩;rw [Gm];push_cast at k2;simp [h, F4 h, F4 h', C9.E8, C9.ag, Ty.E8, Ty.ag, k1, K6 (show j < 9223372036854775807 by omega), k2]
        | some b2 =>
          rw [hc] at k2;simp only [Option.bind_some];rw [Gm];push_cast at k2;simp only [List.append_assoc] at k2;simp [h, F4 h, F4 h', C9.E8, C9.ag, Ty.E8, Ty.ag, k1, K6 (show j < 9223372036854775807 by omega), k2]
   have fin : ∀ (ts : List Ty), ts.length = p.kids.length → (∀ u ∈ ts, u.right = true) → match Jt (p.kids.map C9.binds) ts with
    | some b => Je (run cfg) (O5 out) (.list 3 (ts.map Ty.enc)) p.enc sg = some ([O5 (out ++ b), .bool true], sg)
    | none => ∃ d, Je (run cfg) (O5 out) (.list 3 (ts.map Ty.enc)) p.enc sg = some ([d, .bool false], sg) := by
    intro ts hts htr;have := loop ts hts htr p.kids.length 0 out (by omega) (by simp; omega)
    simp only [List.drop_zero] at this;rw [b_];simp only [C9.Yk, BB, List.length_map, H6];exact this
   rw [C9.kU];unfold Yx
   by_cases k1 : p.kind = 1
   ·simp only [if_pos k1, qL]
    refine (BN _ _ _ _).trans ?_;rw [B_];simp [k1]
   rw [if_neg k1]
   by_cases k2 : p.kind = 2
   ·simp only [if_pos k2, qL]
    refine (BN _ _ _ _).trans ?_;rw [B_];have := Ac (e := NM) (sz := 4) (l := out) (x := (p.name, t)) (by omega)
    simp [k1, k2]
    show ob (R6 4 (O5 out) (.list 4 [NM (p.name, t)])) _ = _
    rw [show O5 out = .list 4 (out.map NM) from rfl, this]
    rfl
   rw [if_neg k2]
   by_cases k7 : p.kind = 7
   ·rw [if_pos k7]
    by_cases t7 : t.kind = 7
    ·rw [if_pos t7]
     obtain ⟨a, b, hk⟩ := A3N ht (.inl t7);have := fin t.kids (by rw [hk, Dt]; simp [k7]) (fun u hu => Ty.P5 ht hu)
     cases hc : Jt (p.kids.map C9.binds) t.kids with
     | none =>
       rw [hc] at this;obtain ⟨d, this⟩ := this;refine ⟨d, (BN _ _ _ _).trans ?_⟩;rw [B_];simp [k1, k2, k7, t7, this]
     | some b =>
       rw [hc] at this;refine (BN _ _ _ _).trans ?_;rw [B_];simp [k1, k2, k7, t7, this]
    ·rw [if_neg t7]
     refine ⟨.list 4 [], (BN _ _ _ _).trans ?_⟩;rw [B_];simp [k1, k2, k7, t7]
   rw [if_neg k7]
   by_cases k9 : p.kind = 9
   ·rw [if_pos k9]
    by_cases t7 : t.kind = 8
    ·rw [if_pos t7]
     obtain ⟨a, hk⟩ := mQ ht t7;have e0 : F3 3 (.list 3 (t.kids.map Ty.enc)) (.int .i64 0) = some a.enc := by rw [hk]; simp [F3]
     have ea : t.kids.getD 0 F8 = a := by rw [hk]; rfl
     have := fin [a, t] (by rw [Dt]; simp [k9]) (fun u hu => by
      simp at hu;rcases hu with rfl | rfl
      ·exact Ty.P5 ht (by rw [hk]; exact List.mem_cons_self ..)
      ·exact ht)
     rw [ea];cases hc : Jt (p.kids.map C9.binds) [a, t] with
     | none =>
       rw [hc] at this;obtain ⟨d, this⟩ := this;refine ⟨d, (BN _ _ _ _).trans ?_⟩;rw [B_];have e9 : DV.agg [.int .i64 8, .int .i64 t.n, .list 3 (t.kids.map Ty.enc)] = t.enc := by rw [← t7]; exact Ty.E8 t
       simp [k1, k2, k7, k9, t7, e0, Ty.E8, Ty.ag, e9];simpa using this
     | some b =>
       rw [hc] at this;refine (BN _ _ _ _).trans ?_;rw [B_];have e9 : DV.agg [.int .i64 8, .int .i64 t.n, .list 3 (t.kids.map Ty.enc)] = t.enc := by rw [← t7]; exact Ty.E8 t
       simp [k1, k2, k7, k9, t7, e0, Ty.E8, Ty.ag, e9];simpa using this
    ·rw [if_neg t7]
     refine ⟨.list 4 [], (BN _ _ _ _).trans ?_⟩;rw [B_];simp [k1, k2, k7, k9, t7]
   rw [if_neg k9]
   by_cases A4r : t.kind = MP p.kind
   ·rw [if_pos A4r]
    refine (BN _ _ _ _).trans ?_;rw [B_];simp [k1, k2, k7, k9, vw, A4r]
   ·rw [if_neg A4r]
    refine ⟨O5 out, (BN _ _ _ _).trans ?_⟩;rw [B_];simp [k1, k2, k7, k9, vw, A4r]
theorem A59 (p : C9) (t : Ty) (hf : p.fit) (hp : p.right = true) (ht : t.right = true) :
 (run cfg).p fD [p.enc, t.enc] = some (match p.binds t with
   | some b => .H7 [O5 b, .int .i64 0]
   | none => .H7 [O5 [], .int .i64 4]) := by
 refine (oP _ _).trans ?_;rw [rz];have := A6a p (C9.A3H hp) t [] [] ht (by simpa using hf.size)
 have e0 : (DV.list 4 []) = O5 [] := rfl;rw [e0];cases hb : p.binds t with
 | none =>
   rw [hb] at this;obtain ⟨d, this⟩ := this;simp [C9.E8, C9.ag, Ty.E8, Ty.ag, RU p (C9.VY hf) hf.txt, hp, CE t (Ty.Z5 ht), ht, this]
 | some b =>
   rw [hb] at this;simp only [qL] at this;simp [C9.E8, C9.ag, Ty.E8, Ty.ag, RU p (C9.VY hf) hf.txt, hp, CE t (Ty.Z5 ht), ht, this]
theorem Ty.A1S (k n : Int) (ks : List Ty) : DV.agg [.int .i64 k, .int .i64 n, .list 3 (ks.map Ty.enc)] = (Ty.mk k n ks).enc := (Ty.I5 (.mk k n ks)).symm
theorem Ty.A7o (k n : Int) (a : Ty) : DV.agg [.int .i64 k, .int .i64 n, .list 3 [a.enc]] = (Ty.mk k n [a]).enc := (Ty.I5 (.mk k n [a])).symm
theorem Ty.A7p (k n : Int) (a b : Ty) : DV.agg [.int .i64 k, .int .i64 n, .list 3 [a.enc, b.enc]] = (Ty.mk k n [a, b]).enc := (Ty.I5 (.mk k n [a, b])).symm
theorem A3Q (vs : List Int) (ts : List Ty) (k : Nat) (h1 : k < vs.length) (h2 : k < ts.length) : (vs.take (k + 1)).zip (ts.take (k + 1)) = (vs.take k).zip (ts.take k) ++ [(vs[k], ts[k])] := by
 rw [List.take_succ_eq_append_getElem h1, List.take_succ_eq_append_getElem h2, List.zip_append (by simp; omega)]
 rfl
theorem A57 (ts : List Ty) (hl : ts.length ≤ lim) (h : ∀ t ∈ ts, t.size ≤ lim) : ∃ b : Bool, (run cfg).p fB [.list 3 (ts.map Ty.enc)] = some (.bool b) := by
 have hb := big hl;have loop : ∀ (n j : Nat), j + n = ts.length → ∃ b : Bool, OO (run cfg) (.list 3 (ts.map Ty.enc)) (.int .i64 j) = some (.bool b) := by
  intro n
  induction n with
  | zero =>
    intro j hj;refine ⟨true, ?_⟩;have : ¬ j < ts.length := by omega
    rw [TR];simp [this]
  | succ n ih =>
    intro j hj;have Dq : j < ts.length := by omega
    obtain ⟨b, Ry⟩ := ih (j + 1) (by omega)
    have Y4 := h _ (List.getElem_mem Dq);have R_ := Ty.CG Y4;obtain ⟨c, hc⟩ := A4b ts[j] R_;have hd := A6Y ts[j] 60 (by omega) (by omega) R_
    have hv := z_ ts[j] Y4;push_cast at Ry;rw [TR];cases c
    ·cases JA : ts[j].deep 60
     ·by_cases hq : (8 : Int) < (ts[j].vars.length : Int)
      ·exact ⟨false, by simp [Dq, F4 Dq, Ty.E8, Ty.ag, hc, hd, JA, hv, hq]⟩
      ·exact ⟨b, by simp [Dq, F4 Dq, Ty.E8, Ty.ag, hc, hd, JA, hv, hq, K6 (show j < 9223372036854775807 by omega), Ry]⟩
     ·exact ⟨false, by simp [Dq, F4 Dq, Ty.E8, Ty.ag, hc, hd, JA]⟩
    ·exact ⟨false, by simp [Dq, F4 Dq, Ty.E8, Ty.ag, hc]⟩
 obtain ⟨b, h1⟩ := loop ts.length 0 (by omega)
 refine ⟨b, (oM _).trans ?_⟩;rw [rZ];exact h1
def Yv (x : ByteArray × Int) : DV := .agg [.str x.1, .int .i64 x.2]
def Y9 (l : List (ByteArray × Int)) : DV := .list 2 (l.map Yv)
@[simp] theorem B52 (x : ByteArray × Int) : A7 0 (Yv x) = .str x.1 := rfl
@[simp] theorem B53 (x : ByteArray × Int) : A7 1 (Yv x) = .int .i64 x.2 := rfl
@[simp] theorem B3g (l : List (ByteArray × Int)) : dLen (Y9 l) = some (.int .i64 l.length) := by simp [Y9]
@[simp] theorem B1R (l : List (ByteArray × Int)) : J4 (Y9 l) = true := rfl
def Room (n : Int) : Prop := 0 ≤ n ∧ n ≤ 3000
def Oc (l : List (ByteArray × Int)) : Prop := ∀ x ∈ l, Room x.2
theorem A4L (a b : Int) : A0g (.int .i64 a) (.int .i64 b) = some (.int .i64 (if b < a then b else a)) := rfl
theorem B0z (a b : Int) : A2r (.int .i64 a) (.int .i64 b) = some (.int .i64 (if b > a then b else a)) := rfl
def Bq (sg : List D7) (i : Nat) (b : Bool) : List D7 := sg.set i (.box [(.bool b, .val)])
theorem rC {sg : List D7} {i : Nat} (hi : i < sg.length) (b : Bool) : M4 (Bq sg i b) i = some [(.bool b, .val)] := A91 hi _
theorem A81 {sg : List D7} {i : Nat} (b c : Bool) : (Bq sg i b).set i (.box [(.bool c, .val)]) = Bq sg i c := by unfold Bq; rw [List.set_set]
theorem wD {sg : List D7} {i : Nat} (hi : i < sg.length) (b : Bool) (n : Int) (hn : 0 ≤ n) : ∃ (m : Int) (c : Bool), (run cfg).r AQ [(.undef, .ptr i 0), (.int .i64 n, .val)] (Bq sg i b) = some ([.int .i64 m], Bq sg i c) ∧ Room m := by
 by_cases h : 3000 < n
 ·refine ⟨3000, true, (Tp _ _ _).trans ?_, by unfold Room; omega⟩
  rw [VQ];have e : [((DV.bool b : DV), Meta.val)].set 0 (.bool true, .val) = [(.bool true, .val)] := rfl;have e0 : [((DV.bool b : DV), Meta.val)][0]? = some (.bool b, .val) := rfl;simp only [Cb, h, decide_true, H6, M9, if_true, rC hi, e0, A4L, e, A81]
 ·refine ⟨n, b, (Tp _ _ _).trans ?_, by unfold Room; omega⟩
  rw [VQ];simp [h, A4L]
theorem A6i {sg : List D7} {i : Nat} (hi : i < sg.length) (b : Bool) (l : List (ByteArray × Int)) (hl : l.length ≤ lim) (ho : Oc l) (s : ByteArray) (ts : List Ty) (hts : ts.length ≤ lim) (Y4 : ∀ t ∈ ts, t.size ≤ lim) :
 ∃ (m : Int) (c : Bool), (run cfg).r Qv [(.undef, .ptr i 0), (Y9 l, .val), (.str s, .val), (.list 3 (ts.map Ty.enc), .val)] (Bq sg i b) = some ([.int .i64 m], Bq sg i c) ∧ Room m := by
 have hb := big hl;have aT := big hts;have l2 : ∀ (m : Nat) (a : Int) (b : Bool), m ≤ l.length → 0 ≤ a → a ≤ 3000 → ∃ (r : Int) (c : Bool), Gz (run cfg) i (Y9 l) (.str s) (.int .i64 a) (.int .i64 ((m : Int) - 1)) (Bq sg i b) = some ([.int .i64 r], Bq sg i c) ∧ Room r := by
  intro m
  induction m with
  | zero =>
    intro a b _ h0 h1;refine ⟨1, b, ?_, by unfold Room; omega⟩
    rw [LD];simp
  | succ m ih =>
    intro a b hm h0 h1;have h : m < l.length := by omega
    have e1 : ((m + 1 : Nat) : Int) - 1 = (m : Int) := by omega
    have e2 : F3 2 (Y9 l) (.int .i64 (m : Int)) = some (Yv l[m]) := F4 h;have e3 : A8 .sub (.int .i64 (m : Int)) (.int .i64 1) = some (.int .i64 ((m : Int) - 1)) := by rw [Df, CS (by omega) (by omega)]
    rw [e1, LD]
    by_cases hn : l[m].1 = s
    ·obtain ⟨r0, r1⟩ := ho _ (List.getElem_mem h)
     have p0 : 0 ≤ a * l[m].2 := Int.mul_nonneg h0 r0;have p1 : a * l[m].2 ≤ 3000 * 3000 := Int.mul_le_mul h1 r1 r0 (by omega)
     have e4 : A8 .mul (.int .i64 a) (.int .i64 l[m].2) = some (.int .i64 (a * l[m].2)) := by rw [B0y, CS (by omega) (by omega)]
     obtain ⟨r, c, k1, k2⟩ := wD hi b _ p0;exact ⟨r, c, by simp [e2, hn, e4, k1], k2⟩
    ·obtain ⟨r, c, k1, k2⟩ := ih a b (by omega) h0 h1
     exact ⟨r, c, by simp [e2, hn, e3, k1], k2⟩
 have l1 : ∀ (n j : Nat) (a : Int) (b : Bool), j + n = ts.length → 0 ≤ a → a ≤ 3000 → ∃ (r : Int) (c : Bool), Gy (run cfg) i (Y9 l) (.str s) (.list 3 (ts.map Ty.enc)) (.int .i64 a) (.int .i64 j) (Bq sg i b) = some ([.int .i64 r], Bq sg i c) ∧ Room r := by
  intro n
  induction n with
  | zero =>
    intro j a b hj h0 h1;obtain ⟨r, c, k1, k2⟩ := l2 l.length a b (Nat.le_refl _) h0 h1;refine ⟨r, c, ?_, k2⟩;have : ¬ j < ts.length := by omega
    rw [LC];have e3 : A8 .sub (.int .i64 (l.length : Int)) (.int .i64 1) = some (.int .i64 ((l.length : Int) - 1)) := by rw [Df, CS (by omega) (by omega)]
    simp [this, e3, k1]
  | succ n ih =>
    intro j a b hj h0 h1;have h : j < ts.length := by omega
    obtain ⟨m, c, k1, k2, k3⟩ := wD hi b (ts[j].size : Int) (by omega)
    have hmx : 0 ≤ (if m > a then m else a) ∧ (if m > a then m else a) ≤ 3000 := by split <;> omega
    obtain ⟨r, d, q1, q2⟩ := ih (j + 1) (if m > a then m else a) c (by omega) hmx.1 hmx.2
    refine ⟨r, d, ?_, q2⟩;rw [LC];push_cast at q1;simp only [BB, List.length_map, Bz, Int.ofNat_lt, h, decide_true, H6, M9, if_true, F4 h, Ty.Dy, Ty.LY, Ty.Ij, Ty.E8, Ty.ag, QQ _ (Y4 _ (List.getElem_mem h)), k1, List.getD_cons_zero, B0z, K6 (show j < 9223372036854775807 by omega)]
    push_cast;exact q1
 obtain ⟨r, c, k1, k2⟩ := l1 ts.length 0 1 b (by omega) (by omega) (by omega)
 refine ⟨r, c, (Wp _ _ _ _ _).trans ?_, k2⟩;rw [Xw];exact k1
theorem mE (k : Int) (a b : Ty) : (run cfg).p IA [.int .i64 k, a.enc, b.enc] = some (Ty.mk k 0 [a, b]).enc := by
 refine (fq _ _ _).trans ?_;rw [ko];simp [Ty.E8, Ty.ag, Ty.A7p]
theorem zz (a : Ty) : (run cfg).p SI [a.enc] = some (Ty.mk 8 0 [a]).enc := by
 refine (tu _).trans ?_;rw [yY];simp [Ty.E8, Ty.ag, Ty.A7o]
theorem A8L (l : List (Int × Ty)) (hl : l.length ≤ lim) (t : Ty) : t.right = true → (run cfg).p bP [t.enc, Ae l] = some (t.put l).enc := by
 have hb := big hl
 induction t using Ty.ind with
 | h t ih =>
   intro ht;have hn := t.Ad (Ty.Z5 ht);refine (zK _ _).trans ?_;rw [A1u, Ty.put_eq]
   by_cases h6 : t.kind = 6
   ·have loop : ∀ (m i : Nat), i + m = l.length → Sn (run cfg) (Ae l) (.int .i64 i) t.enc = some ((look (l.drop i) t.n).getD t).enc := by
     intro m
     induction m with
     | zero =>
       intro i hi;have : ¬ i < l.length := by omega
       rw [XW, List.drop_of_length_le (by omega)]
       simp [this, look, Ty.E8, Ty.ag]
     | succ m ihm =>
       intro i hi;have h : i < l.length := by omega
       have nx := ihm (i + 1) (by omega)
       push_cast at nx;have e1 : F3 4 (Ae l) (.int .i64 (i : Int)) = some (NL l[i]) := F4 h;rw [XW, List.drop_eq_getElem_cons h]
       by_cases e : l[i].1 = t.n
       ·simp only [look, List.find?_cons, e, decide_true]
        simp [h, e1, e, Ty.E8, Ty.ag]
       ·simp only [look, List.find?_cons, e, decide_false] at nx ⊢
        simp [h, e1, e, K6 (show i < 9223372036854775807 by omega), nx]
    have l0 := loop l.length 0 (by omega)
    simp only [Int.natCast_zero, Int.ofNat_zero, Int.cast_ofNat_Int, List.drop_zero] at l0;simp [h6, l0]
   ·have loop := GL (l := t.kids) (P := fun j (a : List Ty) => Qf (run cfg) (Ae l) (.int .i64 j) t.enc (.int .i64 t.kind) (.list 3 (a.map Ty.enc)))
     (g := fun a k => a ++ [k.put l]) (fin := fun a => some (Ty.mk t.kind 0 a).enc) (I := fun j a => a.length = j)
     (fun a _ => by rw [VP]; simp [Ty.A1S])
     (fun j h a ha => by
       refine ⟨?_, by simp [ha]⟩
       rw [VP];have := Ac (e := Ty.enc) (sz := 3) (l := a) (x := t.kids[j].put l) (by unfold lim; omega)
       simp [h, F4 h, Ty.E8, Ty.ag, ih _ (List.getElem_mem h) (Ty.P5 ht (List.getElem_mem h)), this, K6 (show j < 9223372036854775807 by omega)]) [] rfl
    have e : ∀ (m : List Ty) (a : List Ty), m.foldl (fun a k => a ++ [k.put l]) a = a ++ m.map (Ty.put l) := by
     intro m
     induction m with
     | nil => intro a; simp
     | cons x m ih => intro a; simp [ih]
    rw [e] at loop;simp only [List.map_nil, List.nil_append] at loop;have hn0 : t.n = 0 := by have := (Ty.Z6.1 ht).2.2.2.1; omega
    simp [h6, hn0, loop]
theorem A6Z (a b : Ty) : (run cfg).p kN [a.enc, b.enc] = some (.bool (decide (a.kids.length = 0) && decide (a.kind = b.kind) && decide (a.n = b.n))) := by
 refine (uI _ _).trans ?_;rw [yu]
 by_cases h0 : a.kids.length = 0
 ·have Ib : a.kids = [] := List.eq_nil_of_length_eq_zero h0
  by_cases h1 : a.kind = b.kind <;> simp [Ib, h1]
 ·have Ib : ¬ ((a.kids.length : Int) = 0) := by omega
  have A2x : ¬ a.kids = [] := fun h => h0 (by rw [h]; rfl)
  simp [Ib, A2x]
theorem A60 (a b : Ty) : (run cfg).p kP [a.enc, b.enc] = some (.bool (decide (0 < a.kids.length) && decide (a.kind = b.kind))) := by
 refine (uJ _ _).trans ?_;rw [yw]
 by_cases h0 : 0 < a.kids.length
 ·have Ib : (0 : Int) < (a.kids.length : Int) := by omega
  simp [h0, Ib]
 ·have Ib : ¬ (0 : Int) < (a.kids.length : Int) := by omega
  simp [h0, Ib]
theorem A6f (a : Ty) : a.right = true → ∀ b : Ty, b.right = true → (run cfg).p Vz [a.enc, b.enc] = some (.bool (a.agrees b)) := by
 induction a using Ty.ind with
 | h a ih =>
   intro ha b hb;have hn := a.Ad (Ty.Z5 ha);refine (ow _ _).trans ?_;rw [sP, Ty.A29];simp [Ty.E8, Ty.ag, Ow _ _ (Ty.Z5 ha), Ow _ _ (Ty.Z5 hb), A6Z, A60]
   by_cases h1 : a.kind = 5 <;> simp [h1]
   by_cases h2 : b.kind = 5 <;> simp [h2]
   by_cases h3 : a.kind = b.kind
   ·have h5 := A3b ha hb h3
    have loop := A5o (l := a.kids) (m := b.kids) h5 (P := fun i => Mi (run cfg) (.int .i64 i) a.enc b.enc) (f := Ty.agrees) (y := .bool true) (n := .bool false)
     (by rw [RG]; simp)
     (fun i h => by
       have h' : i < b.kids.length := by omega
       rw [RG];simp [h, h', F4 h, F4 h', Ty.E8, Ty.ag, ih _ (List.getElem_mem h) (Ty.P5 ha (List.getElem_mem h)) _ (Ty.P5 hb (List.getElem_mem h')), K6 (show i < 9223372036854775807 by omega)]
       cases (a.kids[i].agrees b.kids[i]) <;> rfl)
    by_cases h0 : a.kids.length = 0
    ·have Ib : a.kids = [] := List.eq_nil_of_length_eq_zero h0
     by_cases h4 : a.n = b.n <;> simp [Ib, h3, h4]
    ·have hp : 0 < a.kids.length := by omega
     have A2x : ¬ a.kids = [] := fun h => h0 (by rw [h]; rfl)
     have h4 : a.n = b.n := by
      have h1 := (Ty.Z6.1 ha).2.2.2.1;have h2 := (Ty.Z6.1 hb).2.2.2.1;have h6 : ¬ a.kind = 6 := fun h => A2x (Ty.B1H ha h)
      omega
     simp only [loop];simp [A2x, h3, h4, hp, A9C];cases ((a.kids.zip b.kids).all fun p => p.1.agrees p.2) <;> simp
   ·simp [h3]
theorem A6g (vs : List Int) (ts : List Ty) (h : vs.length = ts.length) (hl : vs.length ≤ lim) : (run cfg).p fG [E9 vs, .list 3 (ts.map Ty.enc)] = some (Ae (vs.zip ts)) := by
 have hb := big hl;refine (oz _ _).trans ?_;rw [sQ];have loop : ∀ (m i : Nat), i + m = vs.length → OW (run cfg) (E9 vs) (.list 3 (ts.map Ty.enc)) (Ae ((vs.take i).zip (ts.take i))) (.int .i64 i) = some (Ae (vs.zip ts)) := by
  intro m
  induction m with
  | zero =>
    intro i hi;have : ¬ i < vs.length := by omega
    rw [List.take_of_length_le (by omega), List.take_of_length_le (by omega), Tc]
    simp [this]
  | succ m ihm =>
    intro i hi;have h1 : i < vs.length := by omega
    have h2 : i < ts.length := by omega
    have nx := ihm (i + 1) (by omega)
    rw [A3Q _ _ _ h1 h2] at nx;push_cast at nx;have UI : R6 4 (Ae ((vs.take i).zip (ts.take i))) (.list 4 [.agg [.int .i64 vs[i], .int .i64 ts[i].kind, .int .i64 ts[i].n, .list 3 (ts[i].kids.map Ty.enc)]]) = some (Ae ((vs.take i).zip (ts.take i) ++ [(vs[i], ts[i])])) :=
     Ac (e := NL) (sz := 4) (l := (vs.take i).zip (ts.take i)) (x := (vs[i], ts[i])) (by rw [List.length_zip, List.length_take, List.length_take]; omega)
    rw [Tc];simp [h1, U3 h1, F4 h2, UI, K6 (show i < 9223372036854775807 by omega), nx]
 have := loop vs.length 0 (by omega)
 simp only [List.take_zero, List.zip_nil_left, Int.natCast_zero, Int.ofNat_zero, Int.cast_ofNat_Int] at this;exact this
def Pq (R : N7) (p : C9) (t : Ty) (sg : List D7) (out : List (ByteArray × Ty)) : Option (List (ByteArray × Ty)) → Prop
 | some b => R.r Cw [(p.enc, .val), (t.enc, .val), (O5 out, .own)] sg = some ([O5 (out ++ b), .bool true], sg)
 | none => ∃ b : List (ByteArray × Ty), b.length ≤ p.size ∧ R.r Cw [(p.enc, .val), (t.enc, .val), (O5 out, .own)] sg = some ([O5 (out ++ b), .bool false], sg)
theorem A61 (p : C9) : p.pat = true → ∀ (t : Ty) (sg : List D7) (out : List (ByteArray × Ty)), t.right = true → out.length + p.size ≤ lim → Pq (run cfg) p t sg out (p.binds t) := by
 induction p using C9.ind with
 | h p ih =>
   intro hp t sg out ht hl;have aW := C9.A7r hp;have Dt := C9.lX aW;have Y4 := C9.size_eq p;rw [C9.kU];unfold Yx;have A4v : ∀ c : Int, p.kind = c → 3 ≤ c → c ≤ 6 → Pq (run cfg) p t sg out (if t.kind = MP p.kind then some [] else none) := by
    intro c hc h3 h6;have hl : MP p.kind = p.kind - 2 := by unfold MP; (repeat' split) <;> omega
    have e1 : A8 .sub (.int .i64 p.kind) (.int .i64 3) = some (.int .i64 (p.kind - 3)) := by rw [Df, CS (by omega) (by omega)]
    have e2 : A8 .add (.int .i64 (p.kind - 3)) (.int .i64 1) = some (.int .i64 (p.kind - 2)) := by rw [CO (by omega) (by omega)]; congr 2; omega
    have DY : Sq (run cfg) p.enc t.enc (O5 out) sg = some ([O5 out, .bool (decide (t.kind = MP p.kind))], sg) := by
     rw [BZ, iT, hl];simp only [Ic, Ie, O8, C9.Dy, Ty.Dy, Bw, H6, M9, decide_eq_true_eq, e1, e2];rw [if_neg (by omega), if_neg (by omega)]
     by_cases c3 : p.kind = 3
     ·rw [if_pos c3]
     rw [if_neg c3]
     by_cases c4 : p.kind = 4
     ·rw [if_pos c4]
     rw [if_neg c4]
     by_cases c5 : p.kind = 5
     ·rw [if_pos c5]
     rw [if_neg c5, if_pos (by omega)]
    by_cases ht : t.kind = MP p.kind
    ·rw [if_pos ht]
     have := Ql _ _ _ _ DY;simpa [Pq, ht] using this
    ·rw [if_neg ht]
     have := Ql _ _ _ _ DY;exact ⟨[], by simp, by simpa [ht] using this⟩
   have two : ∀ (u v : Ty), u.right = true → v.right = true → ∀ (k m : C9), p.kids = [k, m] → Pq (run cfg) k u sg out (k.binds u) ∧ (∀ b, k.binds u = some b → Pq (run cfg) m v sg (out ++ b) (m.binds v)) := by
    intro u v hu hv k m JB;have hk : k ∈ p.kids := by rw [JB]; simp
    have hm : m ∈ p.kids := by rw [JB]; simp
    rw [JB] at Y4;simp at Y4;refine ⟨ih k hk (C9.A2I hp hk) u sg out hu (by omega), fun b hb => ?_⟩
    have := C9.Re _ _ _ hb;exact ih m hm (C9.A2I hp hm) v sg (out ++ b) hv (by simp; omega)
   by_cases k1 : p.kind = 1
   ·rw [if_pos k1]
    refine (BO _ _ _ _).trans ?_;rw [BZ];simp [k1]
   rw [if_neg k1]
   by_cases k2 : p.kind = 2
   ·rw [if_pos k2]
    refine (BO _ _ _ _).trans ?_;rw [BZ];have UI : R6 4 (O5 out) (.list 4 [.agg [.str p.name, .int .i64 t.kind, .int .i64 t.n, .list 3 (t.kids.map Ty.enc)]]) = some (O5 (out ++ [(p.name, t)])) := Ac (e := NM) (sz := 4) (l := out) (x := (p.name, t)) (by omega)
    simp [k1, k2, UI]
   rw [if_neg k2]
   by_cases k7 : p.kind = 7
   ·rw [if_pos k7]
    obtain ⟨k, m, JB⟩ : ∃ k m, p.kids = [k, m] := by
     have : p.kids.length = 2 := by rw [Dt]; simp [k7]
     match hx : p.kids, this with
     | [a, b], _ => exact ⟨a, b, rfl⟩
    by_cases t7 : t.kind = 7
    ·rw [if_pos t7]
     obtain ⟨u, v, hu⟩ := A3N ht (.inl t7);have ru := Ty.P5 ht (k := u) (by rw [hu]; simp)
     have rv := Ty.P5 ht (k := v) (by rw [hu]; simp)
     obtain ⟨f1, f2⟩ := two u v ru rv k m JB;have d0 : F3 7 (.list 7 [k.enc, m.enc]) (.int .i64 0) = some k.enc := rfl;have d1 : F3 7 (.list 7 [k.enc, m.enc]) (.int .i64 1) = some m.enc := rfl;have e0 : F3 3 (.list 3 [u.enc, v.enc]) (.int .i64 0) = some u.enc := rfl;have e1 : F3 3 (.list 3 [u.enc, v.enc]) (.int .i64 1) = some v.enc := rfl;rw [JB] at Y4;simp at Y4;rw [JB, hu];simp only [List.map_cons, List.map_nil, Jt];cases hb : k.binds u with
     | none =>
       rw [hb] at f1;obtain ⟨b, je, f1⟩ := f1;refine ⟨b, by omega, (BO _ _ _ _).trans ?_⟩
       rw [BZ];simp [k1, k2, k7, t7, JB, hu, d0, e0, C9.E8, C9.ag, Ty.E8, Ty.ag, f1]
     | some b =>
       rw [hb] at f1;have f2 := f2 b hb;have je := C9.Re _ _ _ hb;simp only [Pq] at f1;cases UK : m.binds v with
       | none =>
         rw [UK] at f2;obtain ⟨b2, B6b, f2⟩ := f2;refine ⟨b ++ b2, by simp; omega, (BO _ _ _ _).trans ?_⟩
         rw [BZ];simp only [List.append_assoc] at f2;simp [k1, k2, k7, t7, JB, hu, d0, d1, e0, e1, C9.E8, C9.ag, Ty.E8, Ty.ag, f1, f2]
       | some b2 =>
         rw [UK] at f2;simp only [Pq, List.append_assoc] at f2;refine (BO _ _ _ _).trans ?_;rw [BZ];simp [k1, k2, k7, t7, JB, hu, d0, d1, e0, e1, C9.E8, C9.ag, Ty.E8, Ty.ag, f1, f2]
    ·rw [if_neg t7]
     refine ⟨[], by simp, (BO _ _ _ _).trans ?_⟩
     rw [BZ];simp [k1, k2, k7, t7]
   rw [if_neg k7]
   by_cases k9 : p.kind = 9
   ·rw [if_pos k9]
    obtain ⟨k, m, JB⟩ : ∃ k m, p.kids = [k, m] := by
     have : p.kids.length = 2 := by rw [Dt]; simp [k9]
     match hx : p.kids, this with
     | [a, b], _ => exact ⟨a, b, rfl⟩
    by_cases t7 : t.kind = 8
    ·rw [if_pos t7]
     obtain ⟨u, hu⟩ := mQ ht t7;have ru := Ty.P5 ht (k := u) (by rw [hu]; simp)
     obtain ⟨f1, f2⟩ := two u t ru ht k m JB;have d0 : F3 7 (.list 7 [k.enc, m.enc]) (.int .i64 0) = some k.enc := rfl;have d1 : F3 7 (.list 7 [k.enc, m.enc]) (.int .i64 1) = some m.enc := rfl;have e0 : F3 3 (.list 3 [u.enc]) (.int .i64 0) = some u.enc := rfl;have et : DV.agg [.int .i64 8, .int .i64 t.n, .list 3 [u.enc]] = t.enc := by rw [Ty.I5 t, t7, hu]; rfl
     rw [JB] at Y4;simp at Y4;rw [JB];have eg : t.kids.getD 0 F8 = u := by rw [hu]; rfl
     simp only [List.map_cons, List.map_nil, Jt, eg];cases hb : k.binds u with
     | none =>
       rw [hb] at f1;obtain ⟨b, je, f1⟩ := f1;refine ⟨b, by omega, (BO _ _ _ _).trans ?_⟩
       rw [BZ];simp [k1, k2, k7, k9, t7, JB, hu, d0, e0, C9.E8, C9.ag, Ty.E8, Ty.ag, f1]
     | some b =>
       rw [hb] at f1;have f2 := f2 b hb;have je := C9.Re _ _ _ hb;simp only [Pq] at f1;cases UK : m.binds t with
       | none =>
         rw [UK] at f2;obtain ⟨b2, B6b, f2⟩ := f2;refine ⟨b ++ b2, by simp; omega, (BO _ _ _ _).trans ?_⟩
         rw [BZ];simp only [List.append_assoc] at f2;simp [k1, k2, k7, k9, t7, JB, hu, d0, d1, e0, C9.E8, C9.ag, Ty.E8, Ty.ag, f1, et, f2]
       | some b2 =>
         rw [UK] at f2;simp only [Pq, List.append_assoc] at f2;refine (BO _ _ _ _).trans ?_;rw [BZ];simp [k1, k2, k7, k9, t7, JB, hu, d0, d1, e0, C9.E8, C9.ag, Ty.E8, Ty.ag, f1, et, f2]
    ·rw [if_neg t7]
     refine ⟨[], by simp, (BO _ _ _ _).trans ?_⟩
     rw [BZ];have n8 : ¬ p.kind = 8 := by omega
     simp [k1, k2, k7, k9, n8, t7]
   rw [if_neg k9]
   by_cases k3 : p.kind = 3
   ·exact A4v 3 k3 (by omega) (by omega)
   by_cases k4 : p.kind = 4
   ·exact A4v 4 k4 (by omega) (by omega)
   by_cases k5 : p.kind = 5
   ·exact A4v 5 k5 (by omega) (by omega)
   by_cases k6 : p.kind = 6
   ·exact A4v 6 k6 (by omega) (by omega)
   by_cases k8 : p.kind = 8
   ·have hl8 : MP p.kind = 8 := by rw [k8]; rfl
    have DY : Sq (run cfg) p.enc t.enc (O5 out) sg = some ([O5 out, .bool (decide (t.kind = 8))], sg) := by
     rw [BZ];simp [k1, k2, k3, k4, k5, k6, k7, k8]
    by_cases ht : t.kind = 8
    ·rw [if_pos (by rw [ht, hl8])]
     have := Ql _ _ _ _ DY;simpa [Pq, ht] using this
    ·rw [if_neg (by rw [hl8]; exact ht)]
     have := Ql _ _ _ _ DY;exact ⟨[], by simp, by simpa [ht] using this⟩
   ·exfalso
    unfold C9.one at aW;simp [k1, k2, k3, k4, k5, k6, k7, k8, k9] at aW
theorem e4 : B1L 4 := .inl rfl
theorem e6 : B1L 6 := .inr (.inl rfl)
theorem Vi {α β X : Type} {l : List α} {P : Int → List β → Option X} {g : α → β} {fin : List β → Option X} (stop : ∀ a, a.length = l.length → P l.length a = fin a)
 (step : ∀ (i : Nat) (h : i < l.length) (a : List β), a.length = i → P i a = P ((i : Int) + 1) (a ++ [g l[i]])) : P 0 [] = fin (l.map g) := by
 have := GL (l := l) (P := P) (g := fun a k => a ++ [g k]) (fin := fin) (I := fun j a => a.length = j) (fun a h => stop a h)
  (fun j h a ha => ⟨step j h a ha, by simp [ha]⟩) [] rfl
 rw [this]
 congr 1
 have e : ∀ (m : List α) (a : List β), m.foldl (fun a k => a ++ [g k]) a = a ++ m.map g := by
  intro m
  induction m with
  | nil => intro a; simp
  | cons x m ih => intro a; simp [ih]
 rw [e]; rfl
def C8.fit (d : C8) : Prop := d.types.length < lim ∧ d.vars.length < lim ∧ d.kids.length < lim ∧ (∀ t ∈ d.types, t.thin = true) ∧ ∀ k : { x // x ∈ d.kids }, C8.fit k.1
termination_by SizeOf.sizeOf d
decreasing_by exact C8.CX k.2
theorem C8.A1A (d : C8) : d.fit ↔ d.types.length < lim ∧ d.vars.length < lim ∧ d.kids.length < lim ∧ (∀ t ∈ d.types, t.thin = true) ∧ ∀ k ∈ d.kids, k.fit := by
 rw [C8.fit];simp
theorem C8.VX {d : C8} : d.J3 ≤ lim → d.fit := by
 induction d using C8.ind with
 | h d ih =>
   intro h;rw [C8.A1A];have h1 := d.UR;have h2 := d.XC;have h3 := d.ah;have h4 : d.types.length ≤ (d.types.map Ty.size).sum := by
    have : ∀ l : List Ty, l.length ≤ (l.map Ty.size).sum := by
     intro l
     induction l with
     | nil => simp
     | cons x l ih => have := Ty.Nw x; simp only [List.length_cons, List.map_cons, List.sum_cons]; omega
    exact this _
   refine ⟨by omega, by omega, by omega, fun t ht => ?_, fun k hk => ih k hk ?_⟩
   ·refine Ty.CG ?_
    have := AY (List.mem_map_of_mem (f := Ty.size) ht);omega
   ·have := C8.O3 hk; omega
theorem C8.B0i {d : C8} (h : d.J3 ≤ lim) {t : Ty} (ht : t ∈ d.types) : t.size ≤ lim := by
 have := AY (List.mem_map_of_mem (f := Ty.size) ht);have := d.UR;omega
theorem bI (t : Ty) : t.thin = true → (run cfg).p MC [t.enc] = some t.enc := by
 induction t using Ty.ind with
 | h t ih =>
   intro ht;have hb := t.Ad ht;refine (oI _).trans ?_;rw [rV];have loop := Vi (l := t.kids) (P := fun j (a : List Ty) => OL (run cfg) (.int .i64 j) t.enc (.int .i64 t.kind) (.int .i64 t.n) (.list 3 (a.map Ty.enc)))
    (g := fun k => k) (fin := fun a => some (Ty.mk t.kind t.n a).enc)
    (fun a _ => by rw [TK]; simp [Ty.A1S])
    (fun j h a ha => by
      rw [TK];have := Ac (e := Ty.enc) (sz := 3) (l := a) (x := t.kids[j]) (by unfold lim; omega)
      simp [h, F4 h, Ty.E8, Ty.ag, ih _ (List.getElem_mem h) (Ty.CF ht (List.getElem_mem h)), this, K6 (show j < 9223372036854775807 by omega)])
   simp only [List.map_nil, List.map_id_fun', id_eq] at loop;have e : Ty.mk t.kind t.n t.kids = t := by cases t; rfl
   rw [e] at loop;simp [loop]
theorem A4a (l : List Ty) (hl : l.length < lim) (h : ∀ t ∈ l, t.thin = true) : (run cfg).p ZC [.list 3 (l.map Ty.enc)] = some (.list 3 (l.map Ty.enc)) := by
 have hb := big (Nat.le_of_lt hl);refine (jG _).trans ?_;rw [nP];have loop := Vi (l := l) (P := fun j (a : List Ty) => Mf (run cfg) (.list 3 (l.map Ty.enc)) (.list 3 (a.map Ty.enc)) (.int .i64 j))
  (g := fun k => k) (fin := fun a => some (.list 3 (a.map Ty.enc)))
  (fun a _ => by rw [RA]; simp)
  (fun j hj a ha => by
    rw [RA];have := Ac (e := Ty.enc) (sz := 3) (l := a) (x := l[j]) (by omega)
    simp [hj, F4 hj, Ty.E8, Ty.ag, bI _ (h _ (List.getElem_mem hj)), this, K6 (show j < 9223372036854775807 by omega)])
 simp only [List.map_nil, List.map_id_fun', id_eq] at loop;simp [loop]
theorem A53 (a b : List Int) (hl : a.length ≤ lim) : (run cfg).p ed [E9 a, E9 b] = some (.bool (decide (a = b))) := by
 have hb := big hl;refine (oG _ _).trans ?_;rw [rT];simp
 by_cases h3 : a.length = b.length
 ·have loop := Nj (l := a) (m := b) h3 (P := fun i => OI (run cfg) (E9 a) (E9 b) (.int .i64 i)) (y := .bool true) (n := .bool false)
   (by rw [TI]; simp [h3])
   (fun i h => by
     have h' : i < b.length := by omega
     rw [TI]
     by_cases hh : a[i] = b[i] <;> simp [h, h', U3 h, U3 h', hh, K6 (show i < 9223372036854775807 by omega)])
  simp only [h3] at loop ⊢;simp [loop]
  by_cases h4 : a = b <;> simp [h4]
 ·have : a ≠ b := fun h => h3 (by rw [h])
  simp [Int.ofNat_inj, h3, this]
theorem A2c (a b : List Ty) (hl : a.length ≤ lim) (ha : ∀ t ∈ a, t.thin = true) : (run cfg).p Uw [.list 3 (a.map Ty.enc), .list 3 (b.map Ty.enc)] = some (.bool (decide (a = b))) := by
 have hb := big hl;refine (Zq _ _).trans ?_;rw [bz];simp
 by_cases h3 : a.length = b.length
 ·have loop := Nj (l := a) (m := b) h3 (P := fun i => JG (run cfg) (.list 3 (a.map Ty.enc)) (.list 3 (b.map Ty.enc)) (.int .i64 i)) (y := .bool true) (n := .bool false)
   (by rw [NU]; simp [h3])
   (fun i h => by
     have h' : i < b.length := by omega
     rw [NU];simp [h, h', F4 h, F4 h', Ty.E8, Ty.ag, bH _ (ha _ (List.getElem_mem h)), K6 (show i < 9223372036854775807 by omega)])
  simp only [h3] at loop ⊢;simp [loop]
  by_cases h4 : a = b <;> simp [h4]
 ·have : a ≠ b := fun h => h3 (by rw [h])
  simp [Int.ofNat_inj, h3, this]
theorem A2U (a : C8) : a.fit → ∀ b : C8, (run cfg).p QU [a.enc, b.enc] = some (.bool (decide (a = b))) := by
 induction a using C8.ind with
 | h a ih =>
   intro ha b;have hf := (C8.A1A a).1 ha;have hb := big (Nat.le_of_lt hf.2.2.1);refine (dJ _ _).trans ?_;rw [iP];simp [A2c _ _ (Nat.le_of_lt hf.1) hf.2.2.2.1, A53 _ _ (Nat.le_of_lt hf.2.1)]
   by_cases h1 : a.types = b.types <;> simp [h1, C8.Dj]
   by_cases h2 : a.vars = b.vars <;> simp [h2]
   by_cases h3 : a.kids.length = b.kids.length
   ·have loop := Nj (l := a.kids) (m := b.kids) h3 (P := fun i => Kv (run cfg) (.int .i64 i) a.enc b.enc) (y := .bool true) (n := .bool false)
     (by rw [PR]; simp [h3])
     (fun i h => by
       have h' : i < b.kids.length := by omega
       rw [PR];simp [h, h', F4 h, F4 h', C8.E8, C8.ag, ih _ (List.getElem_mem h) (hf.2.2.2.2 _ (List.getElem_mem h)), K6 (show i < 9223372036854775807 by omega)])
    simp only [h3] at loop ⊢;simp [loop]
    by_cases h4 : a.kids = b.kids <;> simp [h4]
   ·have : a.kids ≠ b.kids := fun h => h3 (by rw [h])
    simp [Int.ofNat_inj, h3, this]
theorem C8.A1S (ts : List Ty) (vs : List Int) (ks : List C8) : DV.agg [.list 3 (ts.map Ty.enc), E9 vs, .list 3 (ks.map C8.enc)] = (C8.mk ts vs ks).enc := (C8.I5 (.mk ts vs ks)).symm
theorem A87 {a b : List Int} (h : a.length + b.length ≤ lim) : R6 1 (E9 a) (E9 b) = some (E9 (a ++ b)) := A88 h
theorem A6z : (.list 1 [] : DV) = E9 [] := rfl
theorem A39 (t : C8) : t.fit → (run cfg).p SH [t.enc] = some t.enc := by
 induction t using C8.ind with
 | h t ih =>
   intro ht;have hf := (C8.A1A t).1 ht;have hb := big (Nat.le_of_lt hf.2.2.1);refine (jD _).trans ?_;rw [nO];have loop := Vi (l := t.kids) (P := fun j (a : List C8) => Me (run cfg) (.int .i64 j) t.enc (E9 []) (.list 3 (t.types.map Ty.enc)) (E9 t.vars) (.list 3 (a.map C8.enc)))
    (g := fun k => k) (fin := fun a => some (C8.mk t.types t.vars a).enc)
    (fun a _ => by rw [Q_]; simp [C8.A1S])
    (fun j h a ha => by
      rw [Q_];have := Ac (e := C8.enc) (sz := 3) (l := a) (x := t.kids[j]) (by omega)
      simp [h, F4 h, C8.E8, C8.ag, ih _ (List.getElem_mem h) (hf.2.2.2.2 _ (List.getElem_mem h)), this, K6 (show j < 9223372036854775807 by omega)])
   simp only [List.map_nil, List.map_id_fun', id_eq] at loop;have e : C8.mk t.types t.vars t.kids = t := by cases t; rfl
   rw [e] at loop;have hv := A87 (a := []) (b := t.vars) (by simp; omega)
   simp only [A6z];simp [A4a _ hf.1 hf.2.2.2.1, hv, loop]
theorem A58 (d : C8) : d.J3 ≤ 4000000000 → ∀ n : Int, 0 ≤ n → n ≤ 1500 → ∃ m : Int, (run cfg).p Vv [d.enc, .int .i64 n] = some (.int .i64 m) ∧ 0 ≤ m ∧ m ≤ 10000000000 := by
 induction d using C8.ind with
 | h d ih =>
   intro hm n h0 h1;have hl : d.J3 ≤ lim := by unfold lim; omega
   have hv := d.XC;have ht := (C8.A1A d).1 (C8.VX hl);have UJ := big (Nat.le_of_lt ht.1);have hb3 := big (Nat.le_of_lt ht.2.2.1);have xA : ∀ (k i : Nat) (m : Int), i + k = d.kids.length → 0 ≤ m → m ≤ 10000000000 → ∃ r : Int, Jd (run cfg) (.int .i64 m) (.int .i64 i) d.enc = some (.int .i64 r) ∧ 0 ≤ r ∧ r ≤ 10000000000 := by
    intro k
    induction k with
    | zero =>
      intro i m hi h0 h1;have : ¬ i < d.kids.length := by omega
      exact ⟨m, by rw [Mr]; simp [this], h0, h1⟩
    | succ k ihk =>
      intro i m hi h0 h1;have h : i < d.kids.length := by omega
      by_cases Wv : m ≤ 1500
      ·obtain ⟨r, hr, CW, Km⟩ := ih _ (List.getElem_mem h) (by have := C8.O3 (List.getElem_mem h); omega) m h0 Wv
       obtain ⟨s, hs, hs0, CL⟩ := ihk (i + 1) r (by omega) CW Km
       push_cast at hs;exact ⟨s, by rw [Mr]; simp [h, Wv, F4 h, C8.E8, C8.ag, hr, K6 (show i < 9223372036854775807 by omega), hs], hs0, CL⟩
      ·exact ⟨m, by rw [Mr]; simp [h, Wv], h0, h1⟩
   have B5q : ∀ (k i : Nat) (m : Int), i + k = d.types.length → 0 ≤ m → m ≤ 10000000000 → ∃ r : Int, OP (run cfg) (.int .i64 m) (.int .i64 i) d.enc = some (.int .i64 r) ∧ 0 ≤ r ∧ r ≤ 10000000000 := by
    intro k
    induction k with
    | zero =>
      intro i m hi h0 h1;have : ¬ i < d.types.length := by omega
      obtain ⟨r, hr, CW, Km⟩ := xA d.kids.length 0 m (by omega) h0 h1
      simp only [Int.natCast_zero, Int.ofNat_zero, Int.cast_ofNat_Int] at hr;exact ⟨r, by rw [IY]; simp [this, hr], CW, Km⟩
    | succ k ihk =>
      intro i m hi h0 h1;have h : i < d.types.length := by omega
      by_cases Wv : m ≤ 1500
      ·have Y4 := C8.B0i hl (List.getElem_mem h)
       obtain ⟨c, hc⟩ := A57 [d.types[i]] (by simp [lim]) (by intro t ht; simp at ht; subst ht; exact Y4)
       simp only [List.map_cons, List.map_nil] at hc;cases c
       ·exact ⟨1501, by rw [IY]; simp [h, Wv, F4 h, Ty.E8, Ty.ag, hc], by omega, by omega⟩
       ·have hz := QQ _ Y4
        have B7a : d.types[i].size ≤ 4000000000 := by
         have := AY (List.mem_map_of_mem (f := Ty.size) (List.getElem_mem h));have := d.UR;omega
        obtain ⟨s, hs, hs0, CL⟩ := ihk (i + 1) (m + d.types[i].size) (by omega) (by omega) (by omega)
        push_cast at hs;exact ⟨s, by rw [IY]; simp [h, Wv, F4 h, Ty.E8, Ty.ag, hc, hz, CO (show (-9223372036854775808 : Int) ≤ m + d.types[i].size by omega) (by omega), K6 (show i < 9223372036854775807 by omega), hs], hs0, CL⟩
      ·obtain ⟨r, hr, CW, Km⟩ := xA d.kids.length 0 m (by omega) h0 h1
       simp only [Int.natCast_zero, Int.ofNat_zero, Int.cast_ofNat_Int] at hr;exact ⟨r, by rw [IY]; simp [h, Wv, hr], CW, Km⟩
   obtain ⟨r, hr, CW, Km⟩ := B5q d.types.length 0 (n + 1 + d.vars.length) (by omega) (by omega) (by omega)
   simp only [Int.natCast_zero, Int.ofNat_zero, Int.cast_ofNat_Int] at hr;refine ⟨r, (oO _ _).trans ?_, CW, Km⟩;rw [rq];simp [CO (show (-9223372036854775808 : Int) ≤ n + 1 by omega) (by omega), CO (show (-9223372036854775808 : Int) ≤ n + 1 + d.vars.length by omega) (by omega), hr]
theorem xL (d : C8) (h : d.J3 ≤ 4000000000) : ∃ b : Bool, (run cfg).p Qu [d.enc] = some (.bool b) := by
 obtain ⟨m, h1, h2, h3⟩ := A58 d h 0 (by omega) (by omega)
 refine ⟨decide (1500 < m), (Wm _).trans ?_⟩;rw [Xt];simp [C8.E8, C8.ag, h1]
def Y7 (k : Int) (np : Nat) : DV := .agg [.bool (Y3 k), .bool (Aq k), .bool (eN k), .bool (eS k), .bool (Cr k), .bool (eA k), .bool (eB k), .bool (l7 k), .int .i64 (K8 k np)]
theorem A2i (t : Ex) (ht : t.A0k) : ∃ d, (run cfg).p OD [t.enc] = some (.H7 [d, .bool (IV t.kind t.F7.length)]) ∧ (IV t.kind t.F7.length = true → d = Y7 t.kind t.F7.length) ∧ D5 9 d = true := by
 have hp := big (Nat.le_of_lt ht.F7)
 suffices h : ∃ d, Oa (run cfg) t.enc = some (.H7 [d, .bool (IV t.kind t.F7.length)]) ∧ (IV t.kind t.F7.length = true → d = Y7 t.kind t.F7.length) ∧ D5 9 d = true by
  obtain ⟨d, h1, h2⟩ := h;exact ⟨d, xJ _ h1, h2⟩
 rw [dC];have fl : ∀ {a b c d e f g h : Bool} {n : Int}, D5 9 (.agg [.bool a, .bool b, .bool c, .bool d, .bool e, .bool f, .bool g, .bool h, .int .i64 n]) = true := rfl
 by_cases k14 : t.kind = 14
 ·have h1 : A8 .add (.int .i64 (t.F7.length : Int)) (.int .i64 1) = some (.int .i64 ((t.F7.length : Int) + 1)) := CO (by omega) (by omega)
  simp [k14, h1, IV, Y7, Y3, Aq, eN, eS, Cr, eA, eB, l7, K8, fl]
 by_cases k1 : t.kind = 1
 ·simp [k1, IV, Y7, Y3, Aq, eN, eS, Cr, eA, eB, l7, K8, fl]
 by_cases k2 : t.kind = 2
 ·simp [k2, IV, Y7, Y3, Aq, eN, eS, Cr, eA, eB, l7, K8, fl]
 by_cases k3 : t.kind = 3
 ·simp [k3, IV, Y7, Y3, Aq, eN, eS, Cr, eA, eB, l7, K8, fl]
 by_cases k4 : t.kind = 4
 ·simp [k4, IV, Y7, Y3, Aq, eN, eS, Cr, eA, eB, l7, K8, fl]
 by_cases k5 : t.kind = 5
 ·simp [k5, IV, Y7, Y3, Aq, eN, eS, Cr, eA, eB, l7, K8, fl]
 by_cases k6 : t.kind = 6
 ·simp [k6, IV, Y7, Y3, Aq, eN, eS, Cr, eA, eB, l7, K8, fl]
 by_cases k7 : t.kind = 7
 ·simp [k7, IV, Y7, Y3, Aq, eN, eS, Cr, eA, eB, l7, K8, fl]
 by_cases k8 : t.kind = 8
 ·simp [k8, IV, Y7, Y3, Aq, eN, eS, Cr, eA, eB, l7, K8, fl]
 by_cases k9 : t.kind = 9
 ·simp [k9, IV, Y7, Y3, Aq, eN, eS, Cr, eA, eB, l7, K8, fl]
 by_cases k10 : t.kind = 10
 ·simp [k10, IV, Y7, Y3, Aq, eN, eS, Cr, eA, eB, l7, K8, fl]
 by_cases k11 : t.kind = 11
 ·simp [k11, IV, Y7, Y3, Aq, eN, eS, Cr, eA, eB, l7, K8, fl]
 by_cases k12 : t.kind = 12
 ·simp [k12, IV, Y7, Y3, Aq, eN, eS, Cr, eA, eB, l7, K8, fl]
 by_cases k13 : t.kind = 13
 ·simp [k13, IV, Y7, Y3, Aq, eN, eS, Cr, eA, eB, l7, K8, fl]
 by_cases k15 : t.kind = 15
 ·simp [k15, IV, Y7, Y3, Aq, eN, eS, Cr, eA, eB, l7, K8, fl]
 by_cases k16 : t.kind = 16
 ·simp [k16, IV, Y7, Y3, Aq, eN, eS, Cr, eA, eB, l7, K8, fl]
 ·have hk : IV t.kind t.F7.length = false := by
   unfold IV;rw [Bool.eq_false_iff];intro h;simp only [Bool.and_eq_true, decide_eq_true_eq] at h;omega
  simp [hk, k1, k2, k3, k4, k5, k6, k7, k8, k9, k10, k11, k12, k13, k14, k15, k16, fl]
theorem wG (t : Ty) : (run cfg).p MF [t.enc] = some (.bool t.none) := by
 refine (pJ _).trans ?_;rw [tF];simp [Ty.none]
 by_cases h1 : t.kind = 0 <;> by_cases h2 : t.n = 0 <;> simp [h1, h2]
theorem kI (t : Ty) (ht : t.thin = true) : (run cfg).p QW [t.enc] = some (.bool t.closed) := by
 refine (dO _).trans ?_;rw [iX];simp [Ty.E8, Ty.ag, CE t ht, Xp t ht, Ty.closed];cases t.right <;> simp
theorem A65 (t : Ex) (ht : t.A0k) : (run cfg).p kQ [t.enc] = some (.bool t.one) := by
 refine (uM _).trans ?_;obtain ⟨d, h1, h2, h3⟩ := A2i t ht;have hp := big (Nat.le_of_lt ht.F7);rw [y_];have x0 : ∀ b, N8 0 (.H7 [d, .bool b]) = some d := fun _ => rfl
 have x1 : ∀ b, N8 1 (.H7 [d, .bool b]) = some (.bool b) := fun _ => rfl
 simp only [Al, O8, Ex.pj, Ex.E8, Ex.ag, Ty.E8, Ty.ag, h1, x0, x1, H6, h3, CP, V3];cases hk : IV t.kind t.F7.length
 ·simp [Ex.one, hk]
 rw [h2 hk];have p0 : A7 0 (Y7 t.kind t.F7.length) = .bool (Y3 t.kind) := rfl;have p1 : A7 1 (Y7 t.kind t.F7.length) = .bool (Aq t.kind) := rfl;have p2 : A7 2 (Y7 t.kind t.F7.length) = .bool (eN t.kind) := rfl;have p3 : A7 3 (Y7 t.kind t.F7.length) = .bool (eS t.kind) := rfl;have p4 : A7 4 (Y7 t.kind t.F7.length) = .bool (Cr t.kind) := rfl;have p5 : A7 5 (Y7 t.kind t.F7.length) = .bool (eA t.kind) := rfl;have p6 : A7 6 (Y7 t.kind t.F7.length) = .bool (eB t.kind) := rfl;have p7 : A7 7 (Y7 t.kind t.F7.length) = .bool (l7 t.kind) := rfl;have p8 : A7 8 (Y7 t.kind t.F7.length) = .int .i64 (K8 t.kind t.F7.length) := rfl;have l := XB (l := t.F7) (f := C9.right) (P := fun i => OZ (run cfg) (.list 7 (t.F7.map C9.enc)) (.int .i64 t.F7.length) (.int .i64 i))
  (by rw [Tf]; simp)
  (fun i h => by
    rw [Tf];have f := ht.pat _ (List.getElem_mem h);simp [h, F4 h, C9.E8, C9.ag, RU _ (C9.VY f) f.txt, K6 (show i < 9223372036854775807 by omega)]
    cases t.F7[i].right <;> rfl)
 have h18 : Qj (run cfg) t.enc = some (.bool t.A8r) := by
  rw [il];simp only [Ex.au, BB, List.length_map, H6];exact l
 have h16 : Hr (run cfg) t.enc (Y7 t.kind t.F7.length) = some (.bool t.A5C) := by
  rw [ig];simp only [p6, Ex.A10, Ex.A11, Ex.A12, Ty.E8, Ty.ag, wG, kI _ ht.b, h18, H6, CP, V3, M9, Ex.A5C, dw];cases t.b.none <;> cases eB t.kind <;> cases t.b.closed <;> simp
 have Ki : Hq (run cfg) t.enc (Y7 t.kind t.F7.length) = some (.bool t.A5B) := by
  rw [ic];simp only [p5, p7, Ex.A4z, Ex.A4A, Ex.A1Z, Ty.E8, Ty.ag, wG, kI _ ht.a, h16, H6, CP, V3, M9, Ex.A5B, dw];cases t.a.none <;> cases eA t.kind <;> cases t.a.closed <;> cases l7 t.kind <;> simp
 have Ee : Qi (run cfg) t.enc (Y7 t.kind t.F7.length) = some (.bool t.A5A) := by
  rw [ib];simp only [p4, Ex.A4y, Ki, H6, CP, V3, M9, Cb, Bz, Im, Ex.A5A];cases Cr t.kind
  ·by_cases v : t.op = 0 <;> simp [v]
  ·by_cases a : t.op < 1
   ·simp [a, show ¬ 1 ≤ t.op by omega]
   ·by_cases p : 7 < t.op
    ·simp [a, p, show ¬ t.op ≤ 7 by omega]
    ·simp [a, p, show 1 ≤ t.op by omega, show t.op ≤ 7 by omega]
 have hs : ∀ n : Nat, A8 .gtr (.int .i64 (n : Int)) (.int .i64 200) = some (.bool (decide (200 < n))) := fun n => by
  rw [Cb]; congr 2; rw [decide_eq_decide]; omega
 have DY : EC (run cfg) t.enc (Y7 t.kind t.F7.length) = some (.bool t.A5z) := by
  rw [iZ];simp only [p3, Ex.Yk, Ee, H6, CP, V3, M9, ED, hs, Ah, Wd, Ex.A5z];generalize t.s.size = z
  by_cases a : 200 < z
  ·have : ¬ z ≤ 200 := by omega
   cases eS t.kind <;> by_cases v : t.s = N9 <;> simp [a, v, this]
  ·have : z ≤ 200 := by omega
   cases eS t.kind <;> by_cases v : t.s = N9 <;> simp [a, v, this]
 have h8 : Jk (run cfg) t.enc (Y7 t.kind t.F7.length) = some (.bool t.A5y) := by
  rw [nk];simp only [p2, Ex.eF, Ex.Dy, DY, H6, CP, V3, M9, Im, Bw, Ex.A5y];cases eN t.kind <;> by_cases v : t.kind = 3 <;> by_cases x : t.n = 0 <;> by_cases y : t.n = 1 <;> simp [v, x, y]
 have h6 : Jj (run cfg) t.enc (Y7 t.kind t.F7.length) = some (.bool t.A5x) := by
  rw [ng];simp only [p1, Ex.Yj, h8, bM t.arg (by have := ht.arg; unfold lim; omega), H6, CP, V3, M9, Wd, Ah, Ex.A5x, jr]
  cases Aq t.kind
  ·by_cases v : t.arg = N9 <;> simp [v]
  ·cases Ii t.arg <;> simp
 have h4 : Sy (run cfg) t.enc (Y7 t.kind t.F7.length) = some (.bool t.Np) := by
  rw [nZ];simp only [p0, Ex.WN, h6, bM t.name (by have := ht.name; unfold lim; omega), H6, CP, V3, M9, Wd, Ah, Ex.Np, jr]
  cases Y3 t.kind
  ·by_cases v : t.name = N9 <;> simp [v]
  ·cases Ii t.name <;> simp
 have hg : A8 .gtr (.int .i64 (t.F7.length : Int)) (.int .i64 0) = some (.bool (!decide (t.F7.length = 0))) := by
  rw [Cb]; congr 2
  by_cases h : t.F7.length = 0
  ·simp [h]
  ·have : (0 : Int) < (t.F7.length : Int) := by omega
   simp [h];omega
 simp only [p8, h4, BB, List.length_map, H6, V3, M9, Im, hg, Ex.one, hk];generalize K8 t.kind t.F7.length = ek
 by_cases v : (t.kids.length : Int) = ek <;> by_cases w : t.kind = 14 <;> by_cases u : t.F7.length = 0 <;> simp [v, w, u]
def B4P (a c : D7) (n : Int) : List D7 := [a, .box [(.int .i64 n, .val)], c]
theorem A3M (t0 t4 : DV) (a c : D7) : ∀ (ps : List Ex), (∀ q ∈ ps, q.A0k) →
 IC (run cfg) t0 t4 (ps.map Ex.enc) (B4P a c 0) = some (.int .i64 (if ps.all Ex.one = true then 0 else 1))
 | [], _ => by
   rw [List.map_nil, Uf, Mo];rfl
 | q :: ps, h => by
   rw [List.map_cons, SV, Wi];have hq := A65 q (h q (List.mem_cons_self ..));have ih := A3M t0 t4 a c ps fun x hx => h x (List.mem_cons_of_mem _ hx)
   simp only [Al, O8, Ex.pj, Ex.E8, Ex.ag, hq, H6, CP, M9, ih, List.all_cons];rcases Bool.eq_false_or_eq_true q.one with hq1 | hq1
   rotate_left
   ·have sg1 : M4 (B4P a c 0) 1 = some [(.int .i64 0, .val)] := rfl
    have g0 : [((.int .i64 0 : DV), Meta.val)][0]? = some (.int .i64 0, .val) := rfl;simp only [hq1, Bool.not_false, if_true, sg1, H6, g0];rw [Py];rfl
   ·simp [hq1]
theorem qJ (t : Ex) (ht : t.fit) : (run cfg).p SQ [t.enc] = some (.int .i64 (if t.right = true then 0 else 1)) := by
 refine (jM _).trans ?_;rw [nX];simp only [Al, O8, Ex.pj, Ex.E8, Ex.ag];rw [Zn];obtain ⟨n, hn⟩ := B2o t ht;rw [Ex.I5] at hn;simp only [M4, List.getElem?_cons_succ, List.getElem?_cons_zero, H6, IP, O8, lC hn];rw [Ex.A8A];exact A3M _ _ _ _ t.subs fun q hq => (Ex.B2l ht q hq).one
theorem Iz (t : Ty) : (run cfg).p Fu [t.enc] = some (.bool t.none) := by
 refine (t_ _).trans ?_;rw [yZ];simp [Ty.none]
 by_cases h1 : t.kind = 0 <;> by_cases h2 : t.n = 0 <;> simp [h1, h2]
theorem A0a (t : Ty) (ht : t.thin = true) (may : Bool) : (run cfg).p YO [t.enc, .bool may] = some (.bool (if t.none = true then may else t.closed)) := by
 refine (uG _ _).trans ?_;rw [yn];simp [Ty.E8, Ty.ag, Iz, v_ t ht, Ow 6 t ht, Ty.closed];cases t.none <;> cases t.right <;> simp
def Hm : Ty := .mk 0 0 []
theorem A9Q (t : Ty) : (t = Hm) ↔ t.none = true := Ty.B1g.symm
noncomputable def Q6 (t : Ex) : Ex := .mk t.kind 0 0 (if Y3 t.kind = true then t.name else N9) (if Aq t.kind = true then t.arg else N9) (if eN t.kind = true then t.n else 0) (if eS t.kind = true then t.s else N9) (if Cr t.kind = true then t.op else 0)
 (if eA t.kind = true then t.a else Hm) (if eB t.kind = true then t.b else Hm) (if t.kind = 14 then t.F7 else []) []
def DU (t : Ex) : Int := if 1 ≤ t.kind ∧ t.kind ≤ 16 then K8 t.kind t.F7.length else -1
theorem A4e (t : Ex) (ht : t.A0k) : (run cfg).p ZG [t.enc] = some (.H7 [(Q6 t).enc, .int .i64 (DU t)]) := by
 have hp := big (Nat.le_of_lt ht.F7);refine (jI _).trans ?_;rw [nS, Ex.I5 (Q6 t)]
 by_cases k14 : t.kind = 14
 ·have h1 : A8 .add (.int .i64 1) (.int .i64 (t.F7.length : Int)) = some (.int .i64 ((t.F7.length : Int) + 1)) := by
   rw [kX, CS (by omega) (by omega), Int.add_comm]
  simp [k14, h1, Q6, DU, Hm, Y3, Aq, eN, eS, Cr, eA, eB, l7, K8, Ah]
 by_cases k1 : t.kind = 1
 ·simp [k1, Q6, DU, Hm, Y3, Aq, eN, eS, Cr, eA, eB, l7, K8, Ah]
 by_cases k2 : t.kind = 2
 ·simp [k2, Q6, DU, Hm, Y3, Aq, eN, eS, Cr, eA, eB, l7, K8, Ah]
 by_cases k3 : t.kind = 3
 ·simp [k3, Q6, DU, Hm, Y3, Aq, eN, eS, Cr, eA, eB, l7, K8, Ah]
 by_cases k4 : t.kind = 4
 ·simp [k4, Q6, DU, Hm, Y3, Aq, eN, eS, Cr, eA, eB, l7, K8, Ah]
 by_cases k5 : t.kind = 5
 ·simp [k5, Q6, DU, Hm, Y3, Aq, eN, eS, Cr, eA, eB, l7, K8, Ah]
 by_cases k6 : t.kind = 6
 ·simp [k6, Q6, DU, Hm, Y3, Aq, eN, eS, Cr, eA, eB, l7, K8, Ah]
 by_cases k7 : t.kind = 7
 ·simp [k7, Q6, DU, Hm, Y3, Aq, eN, eS, Cr, eA, eB, l7, K8, Ah]
 by_cases k8 : t.kind = 8
 ·simp [k8, Q6, DU, Hm, Y3, Aq, eN, eS, Cr, eA, eB, l7, K8, Ah]
 by_cases k9 : t.kind = 9
 ·have d1 : A8 .sub (.int .i64 9) (.int .i64 9) = some (.int .i64 0) := by rw [Df, CS (by omega) (by omega)]; rfl
  have d2 : A8 .quo (.int .i64 0) (.int .i64 2) = some (.int .i64 0) := rfl;have d3 : A8 .add (.int .i64 1) (.int .i64 0) = some (.int .i64 1) := by rw [kX, CS (by omega) (by omega)]; rfl
  simp only [k9, Q6, DU, Hm, Y3, Aq, eN, eS, Cr, eA, eB, l7, K8, Ah, Ex.Dy, Al, O8, Ye, Bw, H6, M9];simp [RF, d1, d2, d3, k9, Ah]
 by_cases k10 : t.kind = 10
 ·simp [k10, Q6, DU, Hm, Y3, Aq, eN, eS, Cr, eA, eB, l7, K8, Ah]
 by_cases k11 : t.kind = 11
 ·have d1 : A8 .sub (.int .i64 11) (.int .i64 9) = some (.int .i64 2) := by rw [Df, CS (by omega) (by omega)]; rfl
  have d2 : A8 .quo (.int .i64 2) (.int .i64 2) = some (.int .i64 1) := rfl;have d3 : A8 .add (.int .i64 1) (.int .i64 1) = some (.int .i64 2) := by rw [kX, CS (by omega) (by omega)]; rfl
  simp only [k11, Q6, DU, Hm, Y3, Aq, eN, eS, Cr, eA, eB, l7, K8, Ah, Ex.Dy, Al, O8, Ye, Bw, H6, M9];simp [RF, d1, d2, d3, k11, Ah]
 by_cases k12 : t.kind = 12
 ·simp [k12, Q6, DU, Hm, Y3, Aq, eN, eS, Cr, eA, eB, l7, K8, Ah]
 by_cases k13 : t.kind = 13
 ·simp [k13, Q6, DU, Hm, Y3, Aq, eN, eS, Cr, eA, eB, l7, K8, Ah]
 by_cases k15 : t.kind = 15
 ·simp [k15, Q6, DU, Hm, Y3, Aq, eN, eS, Cr, eA, eB, l7, K8, Ah]
 by_cases k16 : t.kind = 16
 ·simp [k16, Q6, DU, Hm, Y3, Aq, eN, eS, Cr, eA, eB, l7, K8, Ah]
 ·have hk : ¬ (1 ≤ t.kind ∧ t.kind ≤ 16) := by omega
  simp [Q6, DU, hk, Hm, Y3, Aq, eN, eS, Cr, eA, eB, k1, k2, k3, k4, k5, k6, k7, k8, k9, k10, k11, k12, k13, k14, k15, k16, Ah]
def Ex.A8u (t : Ex) : Bool :=
 if t.kind = 1 ∨ t.kind = 9 ∨ t.kind = 11 then Ii t.name else if t.kind = 12 then Ii t.name && Ii t.arg
 else if t.kind = 3 then decide (t.n = 0) || decide (t.n = 1) else if t.kind = 4 then decide (t.s.size ≤ 200)
 else if t.kind = 14 then decide (0 < t.F7.length) else if t.kind = 16 then decide (1 ≤ t.op) && decide (t.op ≤ 7) else true
def Ex.A5D (t : Ex) : Bool := (if t.a.none = true then !decide (t.kind = 15) else t.a.closed) && (if t.b.none = true then true else t.b.closed) && t.A8u
noncomputable def Ex.own (t : Ex) : Bool := decide (DU t = (t.kids.length : Int)) && decide (t.name = (Q6 t).name) && decide (t.arg = (Q6 t).arg) && decide (t.n = (Q6 t).n) && decide (t.s = (Q6 t).s) && decide (t.op = (Q6 t).op) && decide (t.F7.length = (Q6 t).F7.length) &&
 decide (t.a = (Q6 t).a) && decide (t.b = (Q6 t).b) && t.A5D
theorem A8J (t : Ex) (ht : t.A0k) : (run cfg).p qO [t.enc] = some (.bool t.own) := by
 refine (zI _).trans ?_;have x0 : ∀ a b, N8 0 (.H7 [a, b]) = some a := fun _ _ => rfl
 have x1 : ∀ a b, N8 1 (.H7 [a, b]) = some b := fun _ _ => rfl
 have hg : A8 .gtr (.int .i64 (t.F7.length : Int)) (.int .i64 0) = some (.bool (decide (0 < t.F7.length))) := by
  rw [Cb]; congr 2; rw [decide_eq_decide]; omega
 have hs : A8 .leq (.int .i64 (t.s.size : Int)) (.int .i64 200) = some (.bool (decide (t.s.size ≤ 200))) := by
  rw [NJ]; congr 2; rw [decide_eq_decide]; omega
 have h6 : fP (run cfg) t.enc = some (.bool t.A5D) := by
  rw [sN];simp only [Ex.pj, Ty.E8, Ty.ag, Im, Bw, H6, A0a _ ht.a, A0a _ ht.b, gU t.name ht.name, gU t.arg ht.arg, CP, V3, M9, ED, hs, BB, List.length_map, hg, VC, NJ, Ex.A5D, Ex.A8u]
  by_cases c1 : (if t.a.none = true then !decide (t.kind = 15) else t.a.closed) = true
  ·by_cases c2 : (if t.b.none = true then true else t.b.closed) = true
   ·simp only [c1, c2, Bool.not_true, Bool.false_eq_true, if_false, Bool.true_and]
    by_cases k1 : t.kind = 1
    ·simp [k1]
    by_cases k9 : t.kind = 9
    ·simp [k9]
    by_cases k11 : t.kind = 11
    ·simp [k11]
    by_cases k12 : t.kind = 12
    ·simp [k12]; cases Ii t.name <;> simp
    by_cases k3 : t.kind = 3
    ·simp [k3]; by_cases n0 : t.n = 0 <;> simp [n0]
    by_cases k4 : t.kind = 4
    ·simp [k4]
    by_cases k14 : t.kind = 14
    ·simp [k14]
    by_cases k16 : t.kind = 16
    ·simp [k16]; by_cases o1 : 1 ≤ t.op <;> simp [o1]
    simp [k1, k9, k11, k12, k3, k4, k14, k16]
   ·have c2' : (if t.b.none = true then true else t.b.closed) = false := Bool.eq_false_iff.2 c2
    simp only [c1, c2', Bool.not_true, Bool.false_eq_true, if_false, Bool.not_false, if_true, Bool.and_false, Bool.false_and]
  ·have c1' : (if t.a.none = true then !decide (t.kind = 15) else t.a.closed) = false := Bool.eq_false_iff.2 c1
   simp only [c1', Bool.not_false, if_true, Bool.false_and]
 have h4 : fO (run cfg) t.enc (Q6 t).enc = some (.bool (decide (t.a = (Q6 t).a) && decide (t.b = (Q6 t).b) && t.A5D)) := by
  rw [sM];simp only [Ex.pj, Ty.E8, Ty.ag, WQ _ ht.a, WQ _ ht.b, H6, CP, V3, M9, h6]
  by_cases a1 : t.a = (Q6 t).a <;> by_cases a2 : t.b = (Q6 t).b <;> simp [a1, a2]
 rw [A1s];simp only [Al, O8, Ex.pj, Ex.E8, Ex.ag, A4e t ht, x0, x1, H6, BB, List.length_map, Im, Wd, V3, M9, h4, Ex.own]
 by_cases a1 : DU t = (t.kids.length : Int) <;> simp [a1]
 by_cases a2 : t.name = (Q6 t).name <;> simp [a2]
 by_cases a3 : t.arg = (Q6 t).arg <;> simp [a3]
 by_cases a4 : t.n = (Q6 t).n <;> simp [a4]
 by_cases a5 : t.s = (Q6 t).s <;> simp [a5]
 by_cases a6 : t.op = (Q6 t).op <;> simp [a6]
 by_cases a7 : t.F7.length = (Q6 t).F7.length
 ·have a7' : (t.F7.length : Int) = ((Q6 t).F7.length : Int) := by omega
  simp [a7]
 ·have a7' : ¬ (t.F7.length : Int) = ((Q6 t).F7.length : Int) := by omega
  simp [a7, a7']
theorem Ex.B2F (t : Ex) : t.A8u = ((!Y3 t.kind || Ii t.name) && (!Aq t.kind || Ii t.arg) && (!decide (t.kind = 3) || decide (t.n = 0) || decide (t.n = 1)) && (!decide (t.kind = 4) || decide (t.s.size ≤ 200)) && (!decide (t.kind = 14) || decide (0 < t.F7.length)) && (!Cr t.kind || (decide (1 ≤ t.op) && decide (t.op ≤ 7)))) := by
 unfold Ex.A8u Y3 Aq Cr
 by_cases k1 : t.kind = 1
 ·simp [k1]
 by_cases k9 : t.kind = 9
 ·simp [k9]
 by_cases k11 : t.kind = 11
 ·simp [k11]
 by_cases k12 : t.kind = 12
 ·simp [k12]
 by_cases k3 : t.kind = 3
 ·simp [k3]
 by_cases k4 : t.kind = 4
 ·simp [k4]
 by_cases k14 : t.kind = 14
 ·simp [k14]
 by_cases k16 : t.kind = 16
 ·simp [k16]
 simp [k1, k9, k11, k12, k3, k4, k14, k16]
theorem A3n (E : Bool) (s : ByteArray) : (decide (s = if E = true then s else N9) && (!E || Ii s)) = jr E s := by cases E <;> simp [jr]
theorem B45 (E : Bool) (n : Int) : decide (n = if E = true then n else 0) = (E || decide (n = 0)) := by cases E <;> simp
theorem B46 (k : Int) (s : ByteArray) : (decide (s = if eS k = true then s else N9) && (!decide (k = 4) || decide (s.size ≤ 200))) = ((eS k || decide (s = N9)) && decide (s.size ≤ 200)) := by
 have n200 : N9.size ≤ 200 := by decide
 unfold eS
 by_cases h : k = 4
 ·simp [h]
 ·by_cases e : s = N9
  ·simp [h, e, n200]
  ·simp [h, e]
theorem B3E (E : Bool) (n : Int) (r : Bool) : (decide (n = if E = true then n else 0) && (!E || r)) = ((!E || r) && (E || decide (n = 0))) := by cases E <;> simp
theorem B0Q (k : Int) (l : List C9) : decide (l.length = (if k = 14 then l else []).length) = (decide (k = 14) || decide (l.length = 0)) := by by_cases h : k = 14 <;> simp [h]
theorem A44 (E m : Bool) (t : Ty) : (decide (t = if E = true then t else Hm) && (if t.none = true then !m else t.closed)) = dw E m t := by
 have dA : decide (t = Hm) = t.none := by rw [Bool.eq_iff_iff, decide_eq_true_eq]; exact A9Q t
 unfold dw;cases E
 ·simp only [Bool.false_eq_true, if_false, dA]
  cases hn : t.none <;> simp
 ·simp
theorem Ex.B2G (t : Ex) : (t.own && t.F7.all C9.right) = t.one := by
 by_cases hk : 1 ≤ t.kind ∧ t.kind ≤ 16
 rotate_left
 ·have h1 : DU t = -1 := by unfold DU; rw [if_neg hk]
  have h2 : ¬ ((-1 : Int) = (t.kids.length : Int)) := by omega
  have k0 : IV t.kind t.F7.length = false := by
   unfold IV;rw [Bool.eq_false_iff];intro h';simp only [Bool.and_eq_true, decide_eq_true_eq] at h';omega
  unfold Ex.own Ex.one;rw [k0, h1];simp [h2]
 have hm : DU t = K8 t.kind t.F7.length := by unfold DU; rw [if_pos hk]
 have p9 : IV t.kind t.F7.length = (!decide (t.kind = 14) || decide (0 < t.F7.length)) := by unfold IV; simp [hk.1, hk.2]
 have cm : decide (K8 t.kind t.F7.length = (t.kids.length : Int)) = decide ((t.kids.length : Int) = K8 t.kind t.F7.length) := by rw [decide_eq_decide]; exact eq_comm
 have hb : (if t.b.none = true then true else t.b.closed) = (if t.b.none = true then !false else t.b.closed) := rfl
 have ha : (if t.a.none = true then !decide (t.kind = 15) else t.a.closed) = (if t.a.none = true then !l7 t.kind else t.a.closed) := rfl
 unfold Ex.own Ex.one Ex.A5D Ex.Np Ex.A5x Ex.A5y Ex.A5z Ex.A5A Ex.A5B Ex.A5C Ex.A8r;rw [hm, cm, p9, Ex.B2F, hb, ha];simp only [Q6, Ex.Vj, Ex.A1c, Ex.gN, Ex.A0C, Ex.A4x, Ex.A7G, Ex.A7J, Ex.xF];rw [← A3n (Y3 t.kind) t.name, ← A3n (Aq t.kind) t.arg, ← B45 (eN t.kind) t.n, ← B46 t.kind t.s, ← B3E (Cr t.kind) t.op, ← B0Q t.kind t.F7, ← A44 (eA t.kind), ← A44 (eB t.kind)]
 ac_rfl
theorem wC (t : Ex) : t.fit → (run cfg).p Pi [t.enc] = some (.bool t.right) := by
 induction t using Ex.ind with
 | h t ih =>
   intro ht;have hk := big (Nat.le_of_lt ht.one.kids);have hp := big (Nat.le_of_lt ht.one.F7);refine (oh _).trans ?_;have l2 := XB (l := t.kids) (f := Ex.right) (P := fun i => OQ (run cfg) (.int .i64 i) t.enc)
    (by rw [TW]; simp)
    (fun i h => by
      rw [TW];simp [h, F4 h, Ex.E8, Ex.ag, ih _ (List.getElem_mem h) (ht.kid (List.getElem_mem h)), K6 (show i < 9223372036854775807 by omega)]
      cases t.kids[i].right <;> rfl)
   have l1 := Ni (l := t.F7) (f := C9.right) (P := fun i => Jg (run cfg) (.int .i64 i) t.enc) (y := .bool (t.kids.all Ex.right)) (n := .bool false)
    (by rw [TV]; simp only [Bz, Int.lt_irrefl, decide_false, H6, M9, Bool.false_eq_true, if_false, Ex.au, BB, List.length_map]; exact l2)
    (fun i h => by
      rw [TV];have f := ht.one.pat _ (List.getElem_mem h);simp [h, F4 h, C9.E8, C9.ag, A2e _ f.size f.txt, K6 (show i < 9223372036854775807 by omega)]
      cases t.F7[i].right <;> rfl)
   rw [sI, Ex.right_eq, ← Ex.B2G];simp only [Al, O8, Ex.pj, Ex.E8, Ex.ag, A8J t ht.one, H6, CP, M9];have l1' : Jg (run cfg) (.int .i64 0) t.enc = _ := l1;rw [l1'];cases t.own <;> cases t.F7.all C9.right <;> simp
theorem bJ (t : Ty) : t.thin = true → ∀ n : Int, 0 ≤ n → n ≤ 401 → ∃ m : Int, (run cfg).p Db [t.enc, .int .i64 n] = some (.int .i64 m) ∧ n ≤ m ∧ m ≤ 401 := by
 induction t using Ty.ind with
 | h t ih =>
   intro ht n h0 h1;have hb := t.Ad ht;have loop : ∀ (k j : Nat) (n : Int), j + k = t.kids.length → 0 ≤ n → n ≤ 401 → ∃ m : Int, IG (run cfg) (.int .i64 n) (.int .i64 j) t.enc = some (.int .i64 m) ∧ n ≤ m ∧ m ≤ 401 := by
    intro k
    induction k with
    | zero =>
      intro j n hj h0 h1;refine ⟨n, ?_, Int.le_refl _, h1⟩;have : ¬ j < t.kids.length := by omega
      rw [EM];simp [this]
    | succ k ihk =>
      intro j n hj h0 h1;have Dq : j < t.kids.length := by omega
      rw [EM]
      by_cases hn : n ≤ 400
      ·have Dp : A8 .add (.int .i64 n) (.int .i64 1) = some (.int .i64 (n + 1)) := CO (by omega) (by omega)
       obtain ⟨m, a1, a2, a3⟩ := ih _ (List.getElem_mem Dq) (Ty.CF ht (List.getElem_mem Dq)) (n + 1) (by omega) (by omega)
       obtain ⟨m', b1, b2, b3⟩ := ihk (j + 1) m (by omega) (by omega) a3
       push_cast at b1;exact ⟨m', by simp [Dq, hn, Dp, F4 Dq, Ty.E8, Ty.ag, a1, K6 (show j < 9223372036854775807 by omega), b1], by omega, b3⟩
      ·exact ⟨n, by simp [Dq, hn], Int.le_refl _, h1⟩
   obtain ⟨m, a1, a2, a3⟩ := loop t.kids.length 0 n (by omega) h0 h1
   refine ⟨m, (JK _ _).trans ?_, a2, a3⟩;rw [LB];simp;exact a1
theorem A2d (p : C9) : p.thin = true → ∀ n : Int, 0 ≤ n → n ≤ 401 → ∃ m : Int, (run cfg).p OC [p.enc, .int .i64 n] = some (.int .i64 m) ∧ n ≤ m ∧ m ≤ 401 := by
 induction p using C9.ind with
 | h p ih =>
   intro ht n h0 h1;have hb := p.Ad ht;have loop : ∀ (k j : Nat) (n : Int), j + k = p.kids.length → 0 ≤ n → n ≤ 401 → ∃ m : Int, JH (run cfg) (.int .i64 n) (.int .i64 j) p.enc = some (.int .i64 m) ∧ n ≤ m ∧ m ≤ 401 := by
    intro k
    induction k with
    | zero =>
      intro j n hj h0 h1;refine ⟨n, ?_, Int.le_refl _, h1⟩;have : ¬ j < p.kids.length := by omega
      rw [NV];simp [this]
    | succ k ihk =>
      intro j n hj h0 h1;have Dq : j < p.kids.length := by omega
      rw [NV]
      by_cases hn : n ≤ 400
      ·have Dp : A8 .add (.int .i64 n) (.int .i64 1) = some (.int .i64 (n + 1)) := CO (by omega) (by omega)
       obtain ⟨m, a1, a2, a3⟩ := ih _ (List.getElem_mem Dq) (C9.CF ht (List.getElem_mem Dq)) (n + 1) (by omega) (by omega)
       obtain ⟨m', b1, b2, b3⟩ := ihk (j + 1) m (by omega) (by omega) a3
       push_cast at b1;exact ⟨m', by simp [Dq, hn, Dp, F4 Dq, C9.E8, C9.ag, a1, K6 (show j < 9223372036854775807 by omega), b1], by omega, b3⟩
      ·exact ⟨n, by simp [Dq, hn], Int.le_refl _, h1⟩
   by_cases c1 : (300 : Int) < (p.s.size : Int)
   ·refine ⟨401, (LP _ _).trans ?_, h1, by omega⟩
    rw [Mq];simp [c1]
   by_cases c2 : (300 : Int) < (p.name.size : Int)
   ·refine ⟨401, (LP _ _).trans ?_, h1, by omega⟩
    rw [Mq];simp [c1, c2]
   obtain ⟨m, a1, a2, a3⟩ := loop p.kids.length 0 n (by omega) h0 h1
   refine ⟨m, (LP _ _).trans ?_, a2, a3⟩;rw [Mq];simp [c1, c2];exact a1
theorem A56 (t : Ex) : t.fit → ∀ n : Int, 0 ≤ n → n ≤ 401 → ∃ m : Int, (run cfg).p ME [t.enc, .int .i64 n] = some (.int .i64 m) ∧ 0 ≤ m ∧ m ≤ 402 ∧ (n = 401 → 401 ≤ m) ∧ (m ≤ 400 → n + t.size ≤ m) := by
 induction t using Ex.ind with
 | h t ih =>
   intro ht n h0 h1;have hk := big (Nat.le_of_lt ht.one.kids);have hp := big (Nat.le_of_lt ht.one.F7);have e12 : ∀ m : Int, 0 ≤ m → m ≤ 402 → ∃ m' : Int, JZ (run cfg) (.int .i64 m) t.enc = some (.int .i64 m') ∧ 0 ≤ m' ∧ m' ≤ 402 ∧ (m' = m ∨ m' = 401) := by
    intro m hm Kl;rw [TQ]
    by_cases c1 : (300 : Int) < (t.s.size : Int)
    ·exact ⟨401, by simp [c1], by omega, by omega, .inr rfl⟩
    by_cases c2 : (300 : Int) < (t.name.size : Int)
    ·exact ⟨401, by simp [c1, c2], by omega, by omega, .inr rfl⟩
    by_cases c3 : (300 : Int) < (t.arg.size : Int)
    ·exact ⟨401, by simp [c1, c2, c3], by omega, by omega, .inr rfl⟩
    ·exact ⟨m, by simp [c1, c2, c3], hm, Kl, .inl rfl⟩
   have l9 : ∀ (k j : Nat) (n : Int), j + k = t.kids.length → 0 ≤ n → n ≤ 402 → ∃ m : Int, Jb (run cfg) (.int .i64 n) (.int .i64 j) t.enc = some (.int .i64 m) ∧ 0 ≤ m ∧ m ≤ 402 ∧ (401 ≤ n → 401 ≤ m) ∧ (m ≤ 400 → n + (((t.kids.drop j).map Ex.size).sum : Nat) ≤ m) := by
    intro k
    induction k with
    | zero =>
      intro j n hj h0 h1;obtain ⟨m, a1, a2, a3, a4⟩ := e12 n h0 h1;have : ¬ j < t.kids.length := by omega
      refine ⟨m, by rw [IX]; simp [this, a1], a2, a3, fun _ => by omega, fun hm => ?_⟩
      rw [List.drop_of_length_le (by omega)]
      simp;omega
    | succ k ihk =>
      intro j n hj h0 h1;have Dq : j < t.kids.length := by omega
      by_cases hn : n ≤ 400
      ·obtain ⟨m, a1, a2, a3, a4, a5⟩ := ih _ (List.getElem_mem Dq) (ht.kid (List.getElem_mem Dq)) n h0 (by omega)
       obtain ⟨m', b1, b2, b3, b4, b5⟩ := ihk (j + 1) m (by omega) a2 a3
       push_cast at b1;refine ⟨m', by rw [IX]; simp [Dq, hn, F4 Dq, Ex.E8, Ex.ag, a1, K6 (show j < 9223372036854775807 by omega), b1], b2, b3, fun h => absurd h (by omega), fun hm => ?_⟩
       have g1 := b5 hm;have g2 : m ≤ 400 := by
        by_cases h : m ≤ 400
        ·exact h
        ·have := b4 (by omega); omega
       have g3 := a5 g2;rw [List.drop_eq_getElem_cons Dq, List.map_cons, List.sum_cons];push_cast;omega
      ·obtain ⟨m, a1, a2, a3, a4⟩ := e12 n h0 h1
       exact ⟨m, by rw [IX]; simp [Dq, hn, a1], a2, a3, fun _ => by omega, fun hm => absurd hm (by omega)⟩
   have e8 : ∀ n : Int, 0 ≤ n → n ≤ 402 → ∃ m : Int, Lf (run cfg) (.int .i64 n) t.enc = some (.int .i64 m) ∧ 0 ≤ m ∧ m ≤ 402 ∧ (401 ≤ n → 401 ≤ m) ∧ (m ≤ 400 → n + ((t.kids.map Ex.size).sum : Nat) ≤ m) := by
    intro n h0 h1;obtain ⟨m, a1, a2, a3, a4, a5⟩ := l9 t.kids.length 0 n (by omega) h0 h1
    exact ⟨m, by rw [VG]; simpa using a1, a2, a3, a4, by simpa using a5⟩
   have l5 : ∀ (k j : Nat) (n : Int), j + k = t.F7.length → 0 ≤ n → n ≤ 402 → ∃ m : Int, Ja (run cfg) (.int .i64 n) (.int .i64 j) t.enc = some (.int .i64 m) ∧ 0 ≤ m ∧ m ≤ 402 ∧ (401 ≤ n → 401 ≤ m) ∧ (m ≤ 400 → n + ((t.kids.map Ex.size).sum : Nat) ≤ m) := by
    intro k
    induction k with
    | zero =>
      intro j n hj h0 h1;obtain ⟨m, a1, a2, a3, a4, a5⟩ := e8 n h0 h1;have : ¬ j < t.F7.length := by omega
      exact ⟨m, by rw [IW]; simp [this, a1], a2, a3, a4, a5⟩
    | succ k ihk =>
      intro j n hj h0 h1;have Dq : j < t.F7.length := by omega
      by_cases hn : n ≤ 400
      ·obtain ⟨m, a1, a2, a3⟩ := A2d _ (C9.VY (ht.one.pat _ (List.getElem_mem Dq))) n h0 (by omega)
       obtain ⟨m', b1, b2, b3, b4, b5⟩ := ihk (j + 1) m (by omega) (by omega) (by omega)
       push_cast at b1;refine ⟨m', by rw [IW]; simp [Dq, hn, F4 Dq, C9.E8, C9.ag, a1, K6 (show j < 9223372036854775807 by omega), b1], b2, b3, fun h => absurd h (by omega), fun hm => ?_⟩
       have := b5 hm;omega
      ·obtain ⟨m, a1, a2, a3, a4, a5⟩ := e8 n h0 h1
       exact ⟨m, by rw [IW]; simp [Dq, hn, a1], a2, a3, a4, a5⟩
   have Dp : A8 .add (.int .i64 n) (.int .i64 1) = some (.int .i64 (n + 1)) := CO (by omega) (by omega)
   by_cases hn1 : n + 1 ≤ 401
   ·obtain ⟨ma, a1, a2, a3⟩ := bJ _ ht.one.a (n + 1) (by omega) hn1
    obtain ⟨mb, b1, b2, b3⟩ := bJ _ ht.one.b ma (by omega) a3
    obtain ⟨m, c1, c2, c3, c4, c5⟩ := l5 t.F7.length 0 mb (by omega) (by omega) (by omega)
    refine ⟨m, (Qo _ _).trans ?_, c2, c3, fun h => absurd h (by omega), fun hm => ?_⟩
    ·rw [TP]
     simp [Dp, Ty.E8, Ty.ag, a1, b1];exact c1
    ·have := c5 hm
     have := t.size_eq;push_cast at *;omega
   ·-- more than enough
    have hn : n = 401 := by omega
    subst hn;have A4F : ∀ y : Ty, (run cfg).p Db [y.enc, .int .i64 402] = some (.int .i64 402) := by
     intro y;refine (JK _ _).trans ?_;rw [LB];simp;rw [EM]
     by_cases h : 0 < y.kids.length <;> simp [h]
    obtain ⟨m, c1, c2, c3, c4, c5⟩ := l5 t.F7.length 0 402 (by omega) (by omega) (by omega)
    refine ⟨m, (Qo _ _).trans ?_, c2, c3, fun _ => c4 (by omega), fun hm => absurd (c4 (by omega)) (by omega)⟩
    rw [TP];simp [Dp, Ty.E8, Ty.ag, A4F];exact c1
theorem xK (t : Ex) (ht : t.fit) (n : Int) (h0 : 401 ≤ n) (h1 : n ≤ 1000000) : ∃ m : Int, (run cfg).p ME [t.enc, .int .i64 n] = some (.int .i64 m) ∧ 401 ≤ m ∧ m ≤ n + 1 := by
 have hk := big (Nat.le_of_lt ht.one.kids);have hp := big (Nat.le_of_lt ht.one.F7);have hn : ¬ n + 1 ≤ 400 := by omega
 have e12 : ∃ m : Int, JZ (run cfg) (.int .i64 (n + 1)) t.enc = some (.int .i64 m) ∧ 401 ≤ m ∧ m ≤ n + 1 := by
  rw [TQ]
  by_cases c1 : (300 : Int) < (t.s.size : Int)
  ·exact ⟨401, by simp [c1], by omega, by omega⟩
  by_cases c2 : (300 : Int) < (t.name.size : Int)
  ·exact ⟨401, by simp [c1, c2], by omega, by omega⟩
  by_cases c3 : (300 : Int) < (t.arg.size : Int)
  ·exact ⟨401, by simp [c1, c2, c3], by omega, by omega⟩
  ·exact ⟨n + 1, by simp [c1, c2, c3], by omega, by omega⟩
 obtain ⟨m, a1, a2, a3⟩ := e12;have e9 : Jb (run cfg) (.int .i64 (n + 1)) (.int .i64 0) t.enc = some (.int .i64 m) := by
  rw [IX]
  by_cases h : 0 < t.kids.length <;> simp [h, hn, a1]
 have e8 : Lf (run cfg) (.int .i64 (n + 1)) t.enc = some (.int .i64 m) := by
  rw [VG];exact e9
 have e5 : Ja (run cfg) (.int .i64 (n + 1)) (.int .i64 0) t.enc = some (.int .i64 m) := by
  rw [IW]
  by_cases h : 0 < t.F7.length <;> simp [h, hn, e8]
 have A4F : ∀ y : Ty, (run cfg).p Db [y.enc, .int .i64 (n + 1)] = some (.int .i64 (n + 1)) := by
  intro y;refine (JK _ _).trans ?_;rw [LB];simp;rw [EM]
  by_cases h : 0 < y.kids.length <;> simp [h, hn]
 have Dp : A8 .add (.int .i64 n) (.int .i64 1) = some (.int .i64 (n + 1)) := CO (by omega) (by omega)
 refine ⟨m, (Qo _ _).trans ?_, a2, a3⟩;rw [TP];simp [Dp, Ty.E8, Ty.ag, A4F];exact e5
theorem A55 (l : List Ex) (hl : l.length ≤ 16) (ft : ∀ t ∈ l, t.fit) : ∃ b : Bool, (run cfg).p fA [.list 16 (l.map Ex.enc)] = some (.bool b) ∧ (b = false → (l.map Ex.size).sum ≤ 400) := by
 have loop : ∀ (k j : Nat) (n : Int), j + k = l.length → 0 ≤ n → n ≤ 500 + j → ∃ b : Bool, OM (run cfg) (.list 16 (l.map Ex.enc)) (.int .i64 n) (.int .i64 (j : Int)) = some (.bool b) ∧ (b = false → n + (((l.drop j).map Ex.size).sum : Nat) ≤ 400) := by
  intro k
  induction k with
  | zero =>
    intro j n hj h0 h1;have : ¬ j < l.length := by omega
    refine ⟨decide (400 < n), ?_, fun h => ?_⟩
    ·rw [TN]
     simp [this]
    ·rw [List.drop_of_length_le (by omega)]
     simp at h;simp;omega
  | succ k ih =>
    intro j n hj h0 h1;have h : j < l.length := by omega
    obtain ⟨m, a1, a2, a3, a4⟩ : ∃ m : Int, (run cfg).p ME [l[j].enc, .int .i64 n] = some (.int .i64 m) ∧ 0 ≤ m ∧ m ≤ 500 + (j + 1 : Nat) ∧ (m ≤ 400 → n + l[j].size ≤ m) := by
     by_cases hn : n ≤ 400
     ·obtain ⟨m, a1, a2, a3, a4, a5⟩ := A56 _ (ft _ (List.getElem_mem h)) n h0 (by omega)
      exact ⟨m, a1, a2, by omega, a5⟩
     ·obtain ⟨m, a1, a2, a3⟩ := xK _ (ft _ (List.getElem_mem h)) n (by omega) (by omega)
      exact ⟨m, a1, by omega, by omega, fun h => absurd h (by omega)⟩
    obtain ⟨b, hb, UK⟩ := ih (j + 1) m (by omega) a2 a3
    push_cast at hb;refine ⟨b, ?_, fun hf => ?_⟩
    ·rw [TN]
     simp [h, F4 h, Ex.E8, Ex.ag, a1, K6 (show j < 9223372036854775807 by omega), hb]
    ·have g1 := UK hf
     rw [List.drop_eq_getElem_cons h, List.map_cons, List.sum_cons];have g2 := a4 (by omega)
     push_cast;omega
 obtain ⟨b, hb, UK⟩ := loop l.length 0 0 (by omega) (by omega) (by omega)
 refine ⟨b, (oL _).trans ?_, fun h => ?_⟩
 ·rw [rY]
  simpa using hb
 ·have := UK h
  simp at this;omega
theorem A7O {i : Nat} (h : i < 9223372036854775807) : A8 .add (.int .i64 (i : Int)) (.int .i64 1) = some (.int .i64 ((i : Int) + 1)) := by
 rw [K6 h];rfl
theorem exx (k : Ex) : (DV.agg [A7 0 k.enc, A7 1 k.enc, A7 2 k.enc, A7 3 k.enc, A7 4 k.enc, A7 5 k.enc, A7 6 k.enc, A7 7 k.enc, A7 8 k.enc, A7 9 k.enc, A7 10 k.enc, A7 11 k.enc, A7 12 k.enc, A7 13 k.enc, A7 14 k.enc, A7 15 k.enc]) = k.enc := by simp [Ex.E8, Ex.ag]
theorem pax (k : C9) : (DV.agg [A7 0 k.enc, A7 1 k.enc, A7 2 k.enc, A7 3 k.enc, A7 4 k.enc, A7 5 k.enc, A7 6 k.enc]) = k.enc := by simp [C9.E8, C9.ag]
theorem A6X (t : Ex) : t.fit → t.J3 ≤ lim → (run cfg).p YN [t.enc] = some (.int .i64 t.size) := by
 induction t using Ex.ind with
 | h t ih =>
   intro ft hm;have hk := big (Nat.le_of_lt ft.one.kids);have hs := t.Nv;have hb := big hm;refine (uF _).trans ?_;rw [ym];simp only [Al, O8];have loop := GL (l := t.kids) (P := fun i (a : Nat) => Qd (run cfg) (.int .i64 a) (.int .i64 i) t.enc) (g := fun a k => a + k.size) (fin := fun a => some (.int .i64 a))
    (I := fun i a => a + ((t.kids.drop i).map Ex.size).sum ≤ lim)
    (fun a _ => by rw [VM]; simp)
    (fun i h a ha => by
      rw [List.drop_eq_getElem_cons h, List.map_cons, List.sum_cons] at ha;have := big ha;refine ⟨?_, by omega⟩
      rw [VM];have e : A8 .add (.int .i64 (a : Int)) (.int .i64 (t.kids[i].size : Int)) = some (.int .i64 ((a + t.kids[i].size : Nat) : Int)) := by
       rw [CO (by omega) (by omega)]; simp
      simp [h, F4 h, Ex.E8, Ex.ag, ih _ (List.getElem_mem h) (ft.kid (List.getElem_mem h)) (by have := Ex.O3 (List.getElem_mem h); omega), K6 (show i < 9223372036854775807 by omega), e]) 1
    (by have := t.size_eq; simpa using (by omega : 1 + (t.kids.map Ex.size).sum ≤ lim))
   have e : ∀ (l : List Ex) (a : Nat), l.foldl (fun a k => a + k.size) a = a + (l.map Ex.size).sum := by
    intro l
    induction l with
    | nil => intro a; simp
    | cons x l ih => intro a; simp [ih]; omega
   rw [e, ← Ex.size_eq] at loop;exact loop
theorem Ex.A9I {t : Ex} (rt : t.right = true) (k68 : t.kind = 6 ∨ t.kind = 8) : ∃ (h0 : 0 < t.kids.length) (h1 : 1 < t.kids.length), t.kids.take 2 = [t.kids[0], t.kids[1]] := by
 have JD := Ex.lX (Ex.A3G rt);have Z0 : t.kids.length = 2 := by
  rcases k68 with k | k <;> rw [k] at JD <;> simp [K8] at JD <;> omega
 refine ⟨by omega, by omega, ?_⟩
 apply List.ext_getElem
 ·simp [Z0]
 ·intro i h1 h2
  simp at h2
  match i, h2 with
  | 0, _ => simp
  | 1, _ => simp
theorem A4h (t : Ex) : t.fit → t.right = true → (run cfg).p NC [t.enc] = some (.bool t.value) := by
 induction t using Ex.ind with
 | h t ih =>
   intro ft rt;refine (jO _).trans ?_;rw [nu, Ex.A6r]
   by_cases k1 : t.kind = 1
   ·simp [k1]
   by_cases k2 : t.kind = 2
   ·simp [k2]
   by_cases k3 : t.kind = 3
   ·simp [k3]
   by_cases k4 : t.kind = 4
   ·simp [k4]
   by_cases k5 : t.kind = 5
   ·simp [k5]
   by_cases k7 : t.kind = 7
   ·simp [k7]
   by_cases k9 : t.kind = 9
   ·simp [k9]
   by_cases k68 : t.kind = 6 ∨ t.kind = 8
   ·obtain ⟨h0, h1, e⟩ := Ex.A9I rt k68
    have d0 : F3 16 (.list 16 (t.kids.map Ex.enc)) (.int .i64 0) = some t.kids[0].enc := F4 h0;have d1 : F3 16 (.list 16 (t.kids.map Ex.enc)) (.int .i64 1) = some t.kids[1].enc := F4 h1;have i0 := ih _ (List.getElem_mem h0) (ft.kid (List.getElem_mem h0)) (Ex.P5 rt (List.getElem_mem h0));have i1 := ih _ (List.getElem_mem h1) (ft.kid (List.getElem_mem h1)) (Ex.P5 rt (List.getElem_mem h1));have p11 : Mk (run cfg) t.enc = some (.bool ((t.kids.take 2).all Ex.value)) := by
     rw [Zo, e];simp [d0, d1, Ex.E8, Ex.ag, i0, i1];cases t.kids[0].value <;> simp
    rcases k68 with k | k <;> simp [k, p11]
   ·have k6 : ¬ t.kind = 6 := fun h => k68 (.inl h)
    have k8 : ¬ t.kind = 8 := fun h => k68 (.inr h)
    simp [k1, k2, k3, k4, k5, k6, k7, k8, k9]
theorem A4g (t : Ex) (ft : t.fit) : (run cfg).p ZI [t.enc] = some (.bool (t.right && t.value)) := by
 refine (jN _).trans ?_;rw [nY];simp only [Al, O8, exx, qJ t ft, H6, Bw];cases rt : t.right
 ·simp
 ·simp [exx, A4h t ft rt]
theorem A6c (t : Ex) : t.fit → t.right = true → (run cfg).p Pj [t.enc] = some (.bool t.value) := by
 induction t using Ex.ind with
 | h t ih =>
   intro ft rt;refine (ol _).trans ?_;rw [sJ, Ex.A6r]
   by_cases k1 : t.kind = 1
   ·simp [k1]
   by_cases k2 : t.kind = 2
   ·simp [k2]
   by_cases k3 : t.kind = 3
   ·simp [k3]
   by_cases k4 : t.kind = 4
   ·simp [k4]
   by_cases k5 : t.kind = 5
   ·simp [k5]
   by_cases k7 : t.kind = 7
   ·simp [k7]
   by_cases k9 : t.kind = 9
   ·simp [k9]
   by_cases k68 : t.kind = 6 ∨ t.kind = 8
   ·obtain ⟨h0, h1, e⟩ := Ex.A9I rt k68
    have d0 : F3 16 (.list 16 (t.kids.map Ex.enc)) (.int .i64 0) = some t.kids[0].enc := F4 h0;have d1 : F3 16 (.list 16 (t.kids.map Ex.enc)) (.int .i64 1) = some t.kids[1].enc := F4 h1;have i0 := ih _ (List.getElem_mem h0) (ft.kid (List.getElem_mem h0)) (Ex.P5 rt (List.getElem_mem h0));have i1 := ih _ (List.getElem_mem h1) (ft.kid (List.getElem_mem h1)) (Ex.P5 rt (List.getElem_mem h1));have p11 : OU (run cfg) t.enc = some (.bool ((t.kids.take 2).all Ex.value)) := by
     rw [cK, e];simp [d0, d1, Ex.E8, Ex.ag, i0, i1];cases t.kids[0].value <;> simp
    rcases k68 with k | k <;> simp [k, p11]
   ·have k6 : ¬ t.kind = 6 := fun h => k68 (.inl h)
    have k8 : ¬ t.kind = 8 := fun h => k68 (.inr h)
    simp [k1, k2, k3, k4, k5, k6, k7, k8, k9]
theorem A6S (t : C9) : t.size ≤ lim → (run cfg).p YJ [t.enc] = some t.enc := by
 induction t using C9.ind with
 | h t ih =>
   intro hs;have hb := t.vM;have hB := big hs;refine (tV _).trans ?_;rw [yS];have loop := Vi (l := t.kids) (P := fun j (a : List C9) => QY (run cfg) (.int .i64 j) t.enc (.int .i64 t.kind) (.int .i64 t.lo) (.int .i64 t.hi) (.str t.name) (.int .i64 t.n) (.str t.s) (.list 7 (a.map C9.enc)))
    (g := fun k => k) (fin := fun a => some (C9.mk t.kind t.lo t.hi t.name t.n t.s a).enc)
    (fun a _ => by rw [VF, C9.I5 (C9.mk _ _ _ _ _ _ _)]; simp)
    (fun j h a ha => by
      have hk := C9.bD (List.getElem_mem h);have := Ac (e := C9.enc) (sz := 7) (l := a) (x := t.kids[j]) (by omega)
      rw [VF];simp only [C9.pj, BB, List.length_map, Bz, Int.ofNat_lt, h, decide_true, H6, M9, if_true, F4 h, C9.E8, C9.ag, ih _ (List.getElem_mem h) (by omega), Ic, O8, this, A7O (show j < 9223372036854775807 by omega)])
   simp only [List.map_nil, List.map_id_fun', id_eq] at loop;have e : C9.mk t.kind t.lo t.hi t.name t.n t.s t.kids = t := by cases t; rfl
   rw [e] at loop;simp only [Ic, O8, C9.pj];exact loop
theorem A52 (t : Ex) : t.fit → t.J3 ≤ lim → (run cfg).p Vs [t.enc] = some t.enc := by
 induction t using Ex.ind with
 | h t ih =>
   intro ft hm;have hk := ft.one.kids;have hp := ft.one.F7;have hK := big (Nat.le_of_lt hk);have hP := big (Nat.le_of_lt hp);have XK : (.list 16 [] : DV) = .list 16 (([] : List Ex).map Ex.enc) := rfl;refine (oF _).trans ?_;rw [rR];have l8 : ∀ ps : List C9, _ := fun ps => Vi (l := t.kids) (P := fun j (a : List Ex) => OH (run cfg) (.int .i64 j) t.enc
    (.int .i64 t.kind) (.int .i64 t.lo) (.int .i64 t.hi) (.str t.name) (.str t.arg) (.int .i64 t.n) (.str t.s) (.int .i64 t.op) (.int .i64 t.a.kind) (.int .i64 t.a.n) (.list 3 (t.a.kids.map Ty.enc)) (.int .i64 t.b.kind) (.int .i64 t.b.n) (.list 3 (t.b.kids.map Ty.enc)) (.list 7 (ps.map C9.enc)) (.list 16 (a.map Ex.enc)))
    (g := fun k => k) (fin := fun a => some (Ex.mk t.kind t.lo t.hi t.name t.arg t.n t.s t.op t.a t.b ps a).enc)
    (fun a _ => by rw [TH, Ex.I5 (Ex.mk _ _ _ _ _ _ _ _ _ _ _ _)]; simp)
    (fun j h a ha => by
      have := Ac (e := Ex.enc) (sz := 16) (l := a) (x := t.kids[j]) (by omega)
      rw [TH];simp only [Ex.pj, BB, List.length_map, Bz, Int.ofNat_lt, h, decide_true, H6, M9, if_true, F4 h, Ex.E8, Ex.ag, ih _ (List.getElem_mem h) (ft.kid (List.getElem_mem h)) (by have := Ex.O3 (List.getElem_mem h); omega), Al, O8, this, A7O (show j < 9223372036854775807 by omega)])
   have l4 := Vi (l := t.F7) (P := fun j (a : List C9) => OG (run cfg) (.int .i64 j) t.enc
    (.int .i64 t.kind) (.int .i64 t.lo) (.int .i64 t.hi) (.str t.name) (.str t.arg) (.int .i64 t.n) (.str t.s) (.int .i64 t.op) (.int .i64 t.a.kind) (.int .i64 t.a.n) (.list 3 (t.a.kids.map Ty.enc)) (.int .i64 t.b.kind) (.int .i64 t.b.n) (.list 3 (t.b.kids.map Ty.enc)) (.list 7 (a.map C9.enc)))
    (g := fun k => k) (fin := fun a => some (Ex.mk t.kind t.lo t.hi t.name t.arg t.n t.s t.op t.a t.b a t.kids).enc)
    (fun a _ => by
      have := l8 a;simp only [List.map_nil, List.map_id_fun', id_eq] at this;rw [TG];simp only [Ex.au, BB, List.length_map, Bz, Int.lt_irrefl, decide_false, H6, M9, Bool.false_eq_true, if_false];exact this)
    (fun j h a ha => by
      have ps : t.F7[j].size ≤ lim := (ft.one.pat _ (List.getElem_mem h)).size;have := Ac (e := C9.enc) (sz := 7) (l := a) (x := t.F7[j]) (by omega)
      rw [TG];simp only [Ex.au, BB, List.length_map, Bz, Int.ofNat_lt, h, decide_true, H6, M9, if_true, F4 h, pax, A6S _ ps, Ic, O8, this, A7O (show j < 9223372036854775807 by omega)])
   simp only [List.map_nil, List.map_id_fun', id_eq] at l4;have e : Ex.mk t.kind t.lo t.hi t.name t.arg t.n t.s t.op t.a t.b t.F7 t.kids = t := by cases t; rfl
   rw [e] at l4;simp only [Al, O8, Ex.pj, Ty.E8, Ty.ag, bI _ ft.one.a, bI _ ft.one.b, H6, Ie, Ty.Dy, Ty.LY, Ty.Ij];exact l4
end Go.Su

/-
 What the program's judging does: the small functions.
-/
namespace Go.Su
def S9.enc (x : S9) : DV := .agg [.int .i64 x.lo, .int .i64 x.hi, .int .i64 x.frm.kind, .int .i64 x.frm.n, .list 3 (x.frm.kids.map Ty.enc), .int .i64 x.to.kind, .int .i64 x.to.n, .list 3 (x.to.kids.map Ty.enc)]
def MM (L : List S9) : DV := .list 8 (L.map S9.enc)
@[simp] theorem A9e (L : List S9) : dLen (MM L) = some (.int .i64 L.length) := by simp [MM, dLen]
def Y0 (t : Ty) (x : Tm) : DV := .agg [.int .i64 t.kind, .int .i64 t.n, .list 3 (t.kids.map Ty.enc), .int .i64 x.kind, .int .i64 x.lo, .int .i64 x.hi, .str x.name, .str x.arg, .int .i64 x.n, .str x.s, .int .i64 x.op, .int .i64 x.label, .bool x.neg, E9 x.vars, .int .i64 x.a.kind, .int .i64 x.a.n, .list 3 (x.a.kids.map Ty.enc), .int .i64 x.b.kind, .int .i64 x.b.n, .list 3 (x.b.kids.map Ty.enc), .list 3 (x.args.map Ty.enc), .list 7 (x.F7.map C9.enc), .list 20 (x.kids.map Tm.enc)]
section
variable (t : Ty) (x : Tm)
@[simp] theorem A5l : D5 23 (Y0 t x) = true := rfl
@[simp] theorem B4p : A7 0 (Y0 t x) = .int .i64 t.kind := rfl
@[simp] theorem B4q : A7 1 (Y0 t x) = .int .i64 t.n := rfl
@[simp] theorem B4r : A7 2 (Y0 t x) = .list 3 (t.kids.map Ty.enc) := rfl
@[simp] theorem B4s : A7 3 (Y0 t x) = .int .i64 x.kind := rfl
@[simp] theorem B4t : A7 4 (Y0 t x) = .int .i64 x.lo := rfl
@[simp] theorem B4u : A7 5 (Y0 t x) = .int .i64 x.hi := rfl
@[simp] theorem B4v : A7 6 (Y0 t x) = .str x.name := rfl
@[simp] theorem B4w : A7 7 (Y0 t x) = .str x.arg := rfl
@[simp] theorem B4x : A7 8 (Y0 t x) = .int .i64 x.n := rfl
@[simp] theorem B4y : A7 9 (Y0 t x) = .str x.s := rfl
@[simp] theorem B2I : A7 10 (Y0 t x) = .int .i64 x.op := rfl
@[simp] theorem B2J : A7 11 (Y0 t x) = .int .i64 x.label := rfl
@[simp] theorem B2K : A7 12 (Y0 t x) = .bool x.neg := rfl
@[simp] theorem B2L : A7 13 (Y0 t x) = E9 x.vars := rfl
@[simp] theorem B2M : A7 14 (Y0 t x) = .int .i64 x.a.kind := rfl
@[simp] theorem B2N : A7 15 (Y0 t x) = .int .i64 x.a.n := rfl
@[simp] theorem B2O : A7 16 (Y0 t x) = .list 3 (x.a.kids.map Ty.enc) := rfl
@[simp] theorem B2P : A7 17 (Y0 t x) = .int .i64 x.b.kind := rfl
@[simp] theorem B2Q : A7 18 (Y0 t x) = .int .i64 x.b.n := rfl
@[simp] theorem B2R : A7 19 (Y0 t x) = .list 3 (x.b.kids.map Ty.enc) := rfl
@[simp] theorem B2S : A7 20 (Y0 t x) = .list 3 (x.args.map Ty.enc) := rfl
@[simp] theorem B2T : A7 21 (Y0 t x) = .list 7 (x.F7.map C9.enc) := rfl
@[simp] theorem B2U : A7 22 (Y0 t x) = .list 20 (x.kids.map Tm.enc) := rfl
theorem A7F : DV.agg [.int .i64 t.kind, .int .i64 t.n, .list 3 (t.kids.map Ty.enc), .int .i64 x.kind, .int .i64 x.lo, .int .i64 x.hi, .str x.name, .str x.arg, .int .i64 x.n, .str x.s, .int .i64 x.op, .int .i64 x.label, .bool x.neg, E9 x.vars, .int .i64 x.a.kind, .int .i64 x.a.n, .list 3 (x.a.kids.map Ty.enc), .int .i64 x.b.kind, .int .i64 x.b.n, .list 3 (x.b.kids.map Ty.enc), .list 3 (x.args.map Ty.enc), .list 7 (x.F7.map C9.enc), .list 20 (x.kids.map Tm.enc)] = Y0 t x := rfl
end
structure JP (sg : List D7) (p mi : Nat) : Prop where
 pl : p < sg.length
 ml : mi < sg.length
 ne : p ≠ mi
def Roomy (m : Meta) : Prop := m = .full ∨ m = .own
def W_ (st : Bool) (mi : Nat) (L : List S9) (m : Meta) (er : Int) : List (DV × Meta) := [(.bool st, .val), (.undef, .map mi), (MM L, m), (.int .i64 er, .val)]
def Q7 (sg : List D7) (p mi : Nat) (st : Bool) (es : List (DV × DV)) (L : List S9) (m : Meta) (er : Int) : List D7 := (sg.set p (.box (W_ st mi L m er))).set mi (.map false es)
section
variable {sg : List D7} {p mi : Nat} (h : JP sg p mi) (st : Bool) (es : List (DV × DV)) (L : List S9) (m : Meta) (er : Int)
include h
theorem Bp : M4 (Q7 sg p mi st es L m er) p = some (W_ st mi L m er) := by
 simp [M4, Q7, List.getElem?_set_ne h.ne.symm, List.getElem?_set_self h.pl]
theorem SA : AJ (Q7 sg p mi st es L m er) mi = some (false, es) := by
 simp [AJ, Q7, List.getElem?_set_self, h.ml]
theorem A7l (L' : List S9) (m' : Meta) (er' : Int) : (Q7 sg p mi st es L m er).set p (.box (W_ st mi L' m' er')) = Q7 sg p mi st es L' m' er' := by
 unfold Q7;rw [List.set_comm _ _ h.ne.symm, List.set_set]
theorem B08 (es' : List (DV × DV)) : (Q7 sg p mi st es L m er).set mi (.map false es') = Q7 sg p mi st es' L m er := by
 have _ := h;unfold Q7;rw [List.set_set]
end
@[simp] theorem B7h (st : Bool) (mi : Nat) (L : List S9) (m : Meta) (er : Int) : X5 (W_ st mi L m er) 0 = some (.bool st) := rfl
@[simp] theorem B7i (st : Bool) (mi : Nat) (L : List S9) (m : Meta) (er : Int) : Jp (W_ st mi L m er) 1 = some mi := rfl
@[simp] theorem B7j (st : Bool) (mi : Nat) (L : List S9) (m : Meta) (er : Int) : X5 (W_ st mi L m er) 3 = some (.int .i64 er) := rfl
@[simp] theorem B6Q (st : Bool) (mi : Nat) (L : List S9) (m : Meta) (er : Int) : (W_ st mi L m er)[3]? = some (.int .i64 er, .val) := rfl
@[simp] theorem B6P (st : Bool) (mi : Nat) (L : List S9) (m : Meta) (er : Int) : (W_ st mi L m er)[2]? = some (MM L, m) := rfl
@[simp] theorem B6R (st : Bool) (mi : Nat) (L : List S9) (m : Meta) (er z : Int) : (W_ st mi L m er).set 3 (.int .i64 z, .val) = W_ st mi L m z := rfl
theorem B34 (st : Bool) (mi : Nat) (L L' : List S9) (m m' : Meta) (er : Int) : (W_ st mi L m er).set 2 (MM L', m') = W_ st mi L' m' er := rfl
theorem B33 {m : Meta} (hm : Roomy m) (st : Bool) (mi : Nat) (L : List S9) (er : Int) : X5 (W_ st mi L m er) 2 = some (MM L) := by
 rcases hm with rfl | rfl <;> rfl
theorem B5p {m : Meta} (hm : Roomy m) (st : Bool) (mi : Nat) (L : List S9) (er : Int) : iG (W_ st mi L m er) 2 = some (MM L) := by
 rcases hm with rfl | rfl <;> rfl
theorem qI (t : Ty) : (run cfg).p SG [t.enc] = some (Y5 t).enc := by
 refine (jA _).trans ?_;rw [nL];simp [Ty.E8, Ty.ag, Ty.A7o, Y5]
theorem bG (a b : Ty) : (run cfg).p Lx [a.enc, b.enc] = some (U9 a b).enc := by
 refine (XY _ _).trans ?_;rw [Zb];simp [Ty.E8, Ty.ag, Ty.A7p, U9]
theorem Ud (a : Ty) (ts : List Ty) (h : a.kind = 0 → 0 < ts.length) : (run cfg).p L_ [a.enc, .list 3 (ts.map Ty.enc)] = some (K4 a (ts.getD 0 F8)).enc := by
 refine (oD _ _).trans ?_;rw [rQ]
 by_cases h0 : a.kind = 0
 ·have hl := h h0
  have e1 : F3 3 (.list 3 (ts.map Ty.enc)) (.int .i64 (0 : Int)) = some (ts.getD 0 F8).enc := by
   have := F4 (e := Ty.enc) (sz := 3) (k := .i64) (i := 0) hl;rw [List.getD_eq_getElem?_getD, List.getElem?_eq_getElem hl];exact this
  simp [h0, e1, Ty.E8, Ty.ag, K4]
 ·simp [h0, Ty.E8, Ty.ag, K4]
theorem Qs (ds es : List DV) (sg : List D7) (h : ds.length + es.length ≤ lim) : (run cfg).r Br [(.list 5 ds, .val), (.list 5 es, .val)] sg = some ([.list 5 (ds ++ es)], sg) := by
 refine (jC _ _ _).trans ?_;rw [nN];simp [dLen, Yt, Dh, bnd, R6, h, List.take_of_length_le]
theorem KZ (l m : List Nm) (sg : List D7) (h : l.length + m.length ≤ lim) : (run cfg).r Br [(F9 l, .val), (.list 5 (m.map Nm.enc), .val)] sg = some ([F9 (l ++ m)], sg) := by
 have := Qs (l.map Nm.enc) (m.map Nm.enc) sg (by simpa using h)
 simpa [F9] using this
theorem Aw {sg : List D7} {p mi : Nat} (h : JP sg p mi) (st : Bool) (es : List (DV × DV)) (L : List S9) (m : Meta) (er : Int) : (run cfg).r AU [(.undef, .ptr p 0)] (Q7 sg p mi st es L m er) = some ([.bool (decide (er = 0))], Q7 sg p mi st es L m er) := by
 refine (Tn _ _).trans ?_;rw [Uk];simp [Bp h]
theorem GY {sg : List D7} {p mi : Nat} (h : JP sg p mi) (st : Bool) (es : List (DV × DV)) (L : List S9) (m : Meta) (er z : Int) : (run cfg).r AL [(.undef, .ptr p 0), (.int .i64 z, .val)] (Q7 sg p mi st es L m er) = some ([], Q7 sg p mi st es L m (if er = 0 then z else er)) := by
 refine (PH _ _ _).trans ?_;rw [P_];simp only [Aw h, H6]
 by_cases h0 : er = 0
 ·simp [h0, Bp h, A7l h]
 ·simp [h0]
theorem DR {sg : List D7} {p mi : Nat} (h : JP sg p mi) (st : Bool) (L : List S9) (m : Meta) (er : Int) (n : Int) (hn : n = 1 ∨ n = -1) (l : List Int) (hl : l.length ≤ lim) : ∀ (es : List (DV × DV)) (c : Int → Int), Da es c → (∀ v, -1 ≤ c v ∧ c v ≤ 1) →
 ∃ es', (run cfg).r Y1 [(.undef, .ptr p 0), (E9 l, .val), (.int .i64 n, .val)] (Q7 sg p mi st es L m er) = some ([], Q7 sg p mi st es' L m er) ∧ Da es' fun v => c v + n * (l.count v : Int) := by
 intro es c hc hb;have je := big hl;have loop : ∀ (k0 k : Nat) (es : List (DV × DV)) (c : Int → Int), k + k0 = l.length → Da es c → (∀ v, -4611686018427387904 + (k0 : Int) ≤ c v ∧ c v ≤ 4611686018427387904 - (k0 : Int)) →
  ∃ es', Dc (run cfg) p (.int .i64 n) (E9 l) (.int .i64 l.length) (.int .i64 k) (Q7 sg p mi st es L m er) = some ([], Q7 sg p mi st es' L m er) ∧ Da es' fun v => c v + n * ((l.drop k).count v : Int) := by
  intro k0
  induction k0 with
  | zero =>
    intro k es c hk hc hb;rw [Fw, List.drop_of_length_le (by omega)]
    have : ¬ k < l.length := by omega
    exact ⟨es, by simp [this], by simpa using hc⟩
  | succ k0 ih =>
    intro k es c hk hc hb;have I4 : k < l.length := by omega
    have hcv := hc l[k];have hbv := hb l[k];obtain ⟨es', h1, h2⟩ := ih (k + 1) (Cc es (.int .i64 l[k]) (.int .i64 (c l[k] + n))) _ (by omega) (hc.set l[k] (c l[k] + n)) (fun v => by
     have := hb v
     by_cases e : l[k] = v
     ·simp only [e, if_true]; rw [e] at hbv; rcases hn with rfl | rfl <;> omega
     ·simp only [e, if_false]; omega)
    refine ⟨es', ?_, h2.congr fun v => ?_⟩
    ·rw [Fw]
     have Dp : A8 .add (.int .i64 (c l[k])) (.int .i64 n) = some (.int .i64 (c l[k] + n)) := by
      refine CO ?_ ?_ <;> (rcases hn with rfl | rfl <;> omega)
     push_cast at h1;simp [I4, U3 I4, Bp h, SA h, B08 h, hcv, Dp, K6 (show k < 9223372036854775807 by omega), h1]
    ·rw [List.drop_eq_getElem_cons I4, List.count_cons]
     by_cases e : l[k] = v
     ·simp only [e, if_true, beq_self_eq_true]; rcases hn with rfl | rfl <;> (push_cast; omega)
     ·simp [e]
 obtain ⟨es', h1, h2⟩ := loop l.length 0 es c (by omega) hc (fun v => by have := hb v; omega)
 refine ⟨es', (PG _ _ _ _).trans ?_, by simpa using h2⟩
 rw [Pz];simp only [A9d, H6];exact h1
end Go.Su
