/-
  Parts of the proof, merged: G6, G7, G8, G9, G10, G11, G12, G13, G14, G15, G16, G17, T0.
-/
import Derived.Test.YtglacjdohajkeaaGreatP4
set_option linter.unusedVariables false
set_option linter.unusedSimpArgs false
/-
 Equations of the program's functions: by program.
-/
namespace Go.Su
noncomputable section
open Go.Proofs
variable (R:O4) (i j k l m n:Nat) (a b c d e f g h o p q r t u v w x y z A B C D E F G H I J K L M N O P Q S T U V W X Y Z a1 a2 a3 a4 a5 a6 a7 a8 a9 a10 a11 a12 a13 a14 a15 a16 a17 a18 a19 a20 a21 a22 a23 a24 a25 a26 a27 a28 a29 a30 a31 a32 a33 a34 a35 a36 a37 a38 a39 a40 a41 a42 a43 a44 a45 a46 a47 a48 a49 a50 a51 a52 a53 a54 a55 a56 a57 a58 a59:DV) (s:List D8)
def qZ:=eP Tryz.f54 PM R [] (F7 Tryz.f54 [(a, .val),(b, .val),(c, .val)] [])
def ND:=eP Tryz.f54 PM R (pb 15) (ms 62 [(8,a)] [] [(3,bx b 20),(4,bx c 20),(5,bx d 20),(6,some Ja),(7,some BV)] [])
def NE:=eP Tryz.f54 PM R (pb 127) (ms 62 [] [] [(3,bx a 20),(4,bx b 20),(5,bx c 20),(6,some Ja),(7,some BV),(9,bv (d::(Cw [])))] [])
theorem lK:qZ R a b c =
 (og (C9 20 a) <| og (C9 20 b) <| og (C9 20 c) <| ob (A8 .eql (A7 7 a) (iI 7)) fun d1=>D7 d1 (ND R (iI 4) a b c) (ND R (iI 2) a b c)):=E8 [4,9]
theorem bO:ND R a b c d =
 (ob (A8 .neq (A7 0 c) a) fun d1=>I1 d1 (ob (R.p Y9 []) fun d2=>og (C9 15 d2) <| some (.F3 [(.agg ((iI 0)::(Cw []))),(U8 d2)])) (ob (A8 .neq (A7 0 d) a) fun d3=>D7 d3 (ob (R.p Y9 []) fun d4=>og (C9 15 d4) <| some (.F3 [(.agg ((iI 0)::(Cw []))),(U8 d4)])) (ob (A8 .geq (A7 7 b) (iI 5)) fun d5=>D7 d5 (NE R b c d (iI 3)) (NE R b c d (iI 2)))) none):=E8 [4,9]
theorem bP:NE R a b c d =
 (ob (R.p A2M [(A7 7 a),(A7 5 b),(A7 5 c)]) fun d1=>ob (I9 0 d1) fun d2=>ob (I9 1 d1) fun d3=>ob (O6 .not d3) fun d4=>D7 d4 (some (.F3 [(.agg ((iI 0)::(Cw []))),(.agg ((iI 3)::(uw [(iI 0),(.bool false),(A7 1 a),(A7 2 a),(iI 0)])))])) (og (I6 d2) <| ob (A8 .eql (A7 7 a) (iI 7)) fun d5=>D7 d5 (ob (A8 .eql (A7 6 b) (A7 6 c)) fun d6=>ob (R.p MW [d6]) fun d7=>og (I6 d7) <| some (.F3 [(.agg (d::(Nb (d7::(.str ⟨#[]⟩)::(iI 0)::(Qs [(.list 20 [])]))))),(.agg ((iI 0)::(Bh [(iI 0)])))])) (some (.F3 [(.agg (d::(Nb (d2::(.str ⟨#[]⟩)::(iI 0)::(Qs [(.list 20 [])]))))),(.agg ((iI 0)::(Bh [(iI 0)])))])))):=E8 [4,9]
theorem gm:(run cfg).p Xy [a,b,c]=qZ (run cfg) a b c:=N7 Tryz.func54
def vW:=eP Tryz.f55 MI R [] (F7 Tryz.f55 [(a, .val)] [])
def Tv:=hP Tryz.f55 MI R (pb 26) (ms 79 [(4,a)] [] [(1,bx b 20),(2,some Ja),(3,some BV)] [])
def LV:=hP Tryz.f55 MI R (pb 26) (ms 79 [(4,a)] [] [(1,bx b 20),(2,some Ja),(3,some BV)] s)
def IM:=hP Tryz.f55 MI R (pb 53882) (ms 79 [(5,a),(9,b)] [] [(2,some Ja),(3,some BV),(8,bx c 20)] s)
theorem rW:vW R a =
 (og (C9 20 a) <| Tv R (iI 0) a):=E8 []
theorem bM:Tv R a b =
 (ob (dLen (A7 18 b)) fun d1=>ob (A8 .lss a d1) fun d2=>D7 d2 (ob (F5 7 (A7 18 b) a) fun d3=>ob (F5 20 (A7 19 b) (iI 0)) fun d4=>ob (R.r JC [((IQ d3), .val),((F6 d4), .val),((.list 21 []), .own)] []) fun q5=>ob (I9 0 (.F3 q5.1)) fun d6=>ob (I9 1 (.F3 q5.1)) fun d7=>ob (I9 2 (.F3 q5.1)) fun d8=>og (C9 15 d8) <| ob (A8 .neq (A7 0 d8) (iI 0)) fun d9=>D7 d9 (some (.F3 [(.agg ((iI 0)::(Cw []))),(U8 d8)])) (ob (O6 .not d7) fun d10=>D7 d10 (ob (A8 .add a (iI 1)) fun d11=>LV R d11 b q5.2) (ob (A8 .add a (iI 1)) fun d12=>ob (F5 20 (A7 19 b) d12) fun d13=>IM R d6 (iI 0) d13 q5.2))) (some (.F3 [(.agg ((iI 0)::(Cw []))),(.agg ((iI 4)::(uw [(iI 0),(.bool false),(A7 1 b),(A7 2 b),(iI 0)])))]))):=I5 []
theorem QG:LV R a b s =
 (ob (dLen (A7 18 b)) fun d1=>ob (A8 .lss a d1) fun d2=>D7 d2 (ob (F5 7 (A7 18 b) a) fun d3=>ob (F5 20 (A7 19 b) (iI 0)) fun d4=>ob (R.r JC [((IQ d3), .val),((F6 d4), .val),((.list 21 []), .own)] s) fun q5=>ob (I9 0 (.F3 q5.1)) fun d6=>ob (I9 1 (.F3 q5.1)) fun d7=>ob (I9 2 (.F3 q5.1)) fun d8=>og (C9 15 d8) <| ob (A8 .neq (A7 0 d8) (iI 0)) fun d9=>D7 d9 (some (.F3 [(.agg ((iI 0)::(Cw []))),(U8 d8)])) (ob (O6 .not d7) fun d10=>D7 d10 (ob (A8 .add a (iI 1)) fun d11=>LV R d11 b q5.2) (ob (A8 .add a (iI 1)) fun d12=>ob (F5 20 (A7 19 b) d12) fun d13=>IM R d6 (iI 0) d13 q5.2))) (some (.F3 [(.agg ((iI 0)::(Cw []))),(.agg ((iI 4)::(uw [(iI 0),(.bool false),(A7 1 b),(A7 2 b),(iI 0)])))]))):=I5 []
theorem QF:IM R a b c s =
 (ob (dLen a) fun d1=>ob (A8 .lss b d1) fun d2=>D7 d2 (ob (F5 21 a b) fun d3=>ob (F5 21 a b) fun d4=>ob (R.p Sc [(F6 c),(A7 0 d3),(.list 1 []),(.agg [(A7 1 d4),(A7 2 d4),(A7 3 d4),(A7 4 d4),(A7 5 d4),(A7 6 d4),(A7 7 d4),(A7 8 d4),(A7 9 d4),(A7 10 d4),(A7 11 d4),(A7 12 d4),(A7 13 d4),(A7 14 d4),(A7 15 d4),(A7 16 d4),(A7 17 d4),(A7 18 d4),(A7 19 d4),(A7 20 d4)])]) fun d5=>ob (I9 0 d5) fun d6=>ob (I9 1 d5) fun d7=>og (C9 20 d6) <| og (C9 15 d7) <| ob (A8 .neq (A7 0 d7) (iI 0)) fun d8=>D7 d8 (some (.F3 [(F6 d6),(U8 d7)])) (ob (A8 .add b (iI 1)) fun d9=>IM R a d9 d6 s)) (some (.F3 [(F6 c),(.agg ((iI 0)::(Bh [(iI 0)])))]))):=I5 []
theorem l_:(run cfg).p aQ [a]=vW (run cfg) a:=N7 Tryz.func55
def vZ:=eP Tryz.f56 Ra R [] (F7 Tryz.f56 [(a, .val),(b, .val)] [])
def VX:=eP Tryz.f56 Ra R (pb 115) (ms 102 [] [] [(2,bx a 20),(3,bx b 20),(4,some Ja),(5,some BV),(6,bv [c,d,e]),(7,bv [f,g,h])] [])
def Tw:=eP Tryz.f56 Ra R (pb 463) (ms 102 [] [] [(2,bx a 20),(3,bx b 20),(4,some Ja),(5,some BV),(6,bv [c,d,e]),(7,bv [f,g,h])] [])
theorem rZ:vZ R a b =
 (og (C9 20 a) <| og (C9 20 b) <| ob (dLen (A7 13 a)) fun d1=>ob (A8 .eql d1 (iI 0)) fun d2=>I1 d2 (ob (R.p Dl [(.agg [(A7 11 a),(A7 12 a),(A7 13 a)]),(.agg [(A7 14 a),(A7 15 a),(A7 16 a)])]) fun d3=>D7 d3 (some (.F3 [(F6 b),(.agg ((iI 0)::(Bh [(iI 0)])))])) (VX R a b (A7 11 a) (A7 12 a) (A7 13 a) (A7 14 a) (A7 15 a) (A7 16 a))) (VX R a b (A7 11 a) (A7 12 a) (A7 13 a) (A7 14 a) (A7 15 a) (A7 16 a)) none):=E8 [4,13]
set_option maxRecDepth 100000 in
theorem gK:VX R a b c d e f g h =
 (ob (A8 .eql c (iI 5)) fun d1=>I1 d1 (ob (A8 .neq f (iI 6)) fun d2=>D7 d2 (ob (R.p aP [f]) fun d3=>og (C9 3 d3) <| ob (R.p Dl [(V9 d3),(.agg [f,g,h])]) fun d4=>ob (O6 .not d4) fun d5=>D7 d5 (ob (R.p Gw [(F6 a),(.agg [c,d,e]),(V9 d3),(F6 b)]) fun d6=>ob (R.p Gw [(F6 a),(V9 d3),(.agg [f,g,h]),d6]) fun d7=>og (C9 20 d7) <| some (.F3 [(F6 d7),(.agg ((iI 0)::(Bh [(iI 0)])))])) (ob (A8 .neq (A7 0 b) (iI 16)) fun d8=>I1 d8 (ob (R.p Y9 []) fun d9=>og (C9 15 d9) <| some (.F3 [(.agg ((iI 0)::(Cw []))),(U8 d9)])) (ob (A8 .neq (A7 14 b) (iI 5)) fun d10 =>
 D7 d10 (ob (R.p Y9 []) fun d11=>og (C9 15 d11) <| some (.F3 [(.agg ((iI 0)::(Cw []))),(U8 d11)])) (ob (R.p Dl [(.agg [(A7 11 b),(A7 12 b),(A7 13 b)]),(V9 d3)]) fun d12=>D7 d12 (ob (F5 20 (A7 19 b) (iI 0)) fun d13=>some (.F3 [(F6 d13),(.agg ((iI 0)::(Bh [(iI 0)])))])) (og (I6 (A7 8 a)) <| og (I6 (A7 9 a)) <| some (.F3 [(.agg ((iI 0)::(Cw []))),(.agg ((iI 2)::(uw [(A7 8 a),(A7 9 a),(iI 0),(iI 0),(iI 0)])))])))) none)) (Tw R a b c d e f g h)) (Tw R a b c d e f g h) none):=E8 [4,13]
theorem Rw:Tw R a b c d e f g h =
 (ob (A8 .eql f (iI 5)) fun d1=>I1 d1 (ob (A8 .neq c (iI 6)) fun d2=>D7 d2 (ob (R.p aP [c]) fun d3=>og (C9 3 d3) <| ob (R.p Gw [(F6 a),(.agg [c,d,e]),(V9 d3),(F6 b)]) fun d4=>ob (R.p Gw [(F6 a),(V9 d3),(.agg [f,g,h]),d4]) fun d5=>og (C9 20 d5) <| some (.F3 [(F6 d5),(.agg ((iI 0)::(Bh [(iI 0)])))])) (ob (R.p Y9 []) fun d6=>og (C9 15 d6) <| some (.F3 [(.agg ((iI 0)::(Cw []))),(U8 d6)]))) (ob (R.p Y9 []) fun d7=>og (C9 15 d7) <| some (.F3 [(.agg ((iI 0)::(Cw []))),(U8 d7)])) none):=E8 [4,13]
theorem mF:(run cfg).p aS [a,b]=vZ (run cfg) a b:=N7 Tryz.func56
def nZ:=eP Tryz.f57 A2p R [] (F7 Tryz.f57 [] [])
theorem A1X:nZ R =
 (some (.agg ((iI 6)::(Bh [(iI 0)])))):=E8 []
theorem yH:(run cfg).p Y9 []=nZ (run cfg):=N7 Tryz.func57
theorem A7n {d:DV} (h:nZ (run cfg)=some d):(run cfg).p Y9 []=some d:=(yH).trans h
def A1j:Option DV:=Qb cfg R Ug (B6b cfg R Ug OL Eu.post (SY cfg.P Tryz.f58)) [] (CX Eu.pre .skip) (F7 Tryz.f58 [(a, .val)] [])
theorem xL:A1j R a =
 (og (C9 20 a) <| ob (R.p Ni [(F6 a)]) fun d1=>ob (O6 .not d1) fun d2=>D7 d2 (some (.list 1 [])) (oc (R.r MX [((F6 a), .val),(.undef,(.map 1)),(.undef,(.map 0))] [.map true [], .map true []]) fun q3 s3=>ob (Av s3 0) fun m4=>og (m4.1 && true && true) <| if m4.2.length<=lim then (some (Lt m4.2)) else none)):=E8 []
theorem tZ:(run cfg).p Wh [a]=A1j (run cfg) a :=
 (B7V (C:=cfg) (f:=Wh) (fn:=Tryz.f58) (c:=V8) (p:=Eu) rfl Tryz.func58 (by kernel_rfl)).trans ((congrArg (fun k=>Qb cfg (run cfg) Ug k [] (CX Eu.pre .skip) (F7 Tryz.f58 ([a].map fun d=>(d, .val)) [])) (B79 (q:=OL) (p:=Eu) (by kernel_rfl))).trans (by kernel_rfl))
def qP:=eP Tryz.f59 mU R [] (F7 Tryz.f59 [(a, .val)] [])
set_option maxRecDepth 100000 in
theorem ku:qP R a =
 (og (C9 20 a) <| ob (A8 .eql (A7 14 a) (iI 5)) fun d1=>D7 d1 (ob (R.p TI [(.agg [(A7 11 a),(A7 12 a),(A7 13 a)])]) fun d2=>some d2) (ob (A8 .neq (A7 11 a) (A7 14 a)) fun d3=>D7 d3 sF (ob (A8 .eql (A7 11 a) (iI 7)) fun d4=>I1 d4 sT (ob (A8 .eql (A7 11 a) (iI 8)) fun d5=>I1 d5 sT (ob (A8 .eql (A7 11 a) (iI 9)) fun d6=>some d6) none) none))):=E8 []
theorem gT:(run cfg).p Xv [a]=qP (run cfg) a:=N7 Tryz.func59
def A0U:=eP Tryz.f60 yQ R [] (F7 Tryz.f60 [(a, .val)] [])
theorem wY:A0U R a =
 (ob (A8 .eql a (iI 6)) fun d1=>D7 d1 (some (iI 2)) (ob (A8 .eql a (iI 8)) fun d2=>D7 d2 (some (iI 2)) (ob (A8 .eql a (iI 10)) fun d3=>D7 d3 (some (iI 2)) (ob (A8 .eql a (iI 15)) fun d4=>D7 d4 (some (iI 2)) (ob (A8 .eql a (iI 11)) fun d5=>D7 d5 (some (iI 1)) (ob (A8 .eql a (iI 13)) fun d6=>D7 d6 (some (iI 1)) (ob (A8 .eql a (iI 14)) fun d7=>D7 d7 (some (iI 1)) (ob (A8 .eql a (iI 16)) fun d8=>D7 d8 (some (iI 1)) (some (iI 0)))))))))):=E8 []
theorem sU:(run cfg).p iY [a]=A0U (run cfg) a:=N7 Tryz.func60
end
end Go.Su

/-
 Equations of the program's functions: by program.
-/
namespace Go.Su
noncomputable section
open Go.Proofs
variable (R:O4) (i j k l m n:Nat) (a b c d e f g h o p q r t u v w x y z A B C D E F G H I J K L M N O P Q S T U V W X Y Z a1 a2 a3 a4 a5 a6 a7 a8 a9 a10 a11 a12 a13 a14 a15 a16 a17 a18 a19 a20 a21 a22 a23 a24 a25 a26 a27 a28 a29 a30 a31 a32 a33 a34 a35 a36 a37 a38 a39 a40 a41 a42 a43 a44 a45 a46 a47 a48 a49 a50 a51 a52 a53 a54 a55 a56 a57 a58 a59:DV) (s:List D8)
def A3t:=eP Tryz.f62 jL R [] (F7 Tryz.f62 [(a, .val),(b, .val)] [])
def Nk:=eP Tryz.f62 jL R (pb 58) (ms 78 [] [] [(4,some Ja),(5,some BV)] [])
set_option maxRecDepth 100000 in
theorem A1y:A3t R a b =
 (og (C9 20 a) <| og (C9 20 b) <| ob (A8 .eql (A7 0 a) (iI 9)) fun d1=>D7 d1 (ob (F5 20 (A7 19 a) (iI 0)) fun d2=>ob (R.p Oe [(F6 d2),(A7 3 a),(.list 1 []),(F6 b)]) fun d3=>ob (I9 0 d3) fun d4=>ob (I9 1 d3) fun d5=>og (C9 20 d4) <| og (C9 15 d5) <| some (.F3 [(F6 d4),(U8 d5)])) (ob (A8 .neq (A7 0 a) (iI 16)) fun d6=>I1 d6 (Nk R) (ob (A8 .neq (A7 11 a) (iI 9)) fun d7=>I1 d7 (Nk R) (ob (A8 .neq (A7 14 a) (iI 9)) fun d8=>D7 d8 (Nk R) (ob (O6 .not (A7 9 a)) fun d9=>ob (F5 3 (A7 16 a) (iI 0)) fun d10=>ob (F5 3 (A7 13 a) (iI 0)) fun d11=>ob (R.p Da [(F6 a),d9,(V9 d10),(V9 d11),(F6 b)]) fun d12=>og (C9 20 d12) <| ob (F5 20 (A7 19 a) (iI 0)) fun d13=>ob (F5 3 (A7 13 a) (iI 1)) fun d14=>ob (F5 3 (A7 16 a) (iI 1)) fun d15=>ob (R.p Da [(F6 a),(A7 9 a),(V9 d14),(V9 d15),(.agg ((iI 10)::(Nb (Xu (Qs [(.list 20 [(F6 d13),(F6 d12)])])))))]) fun d16 =>
 og (C9 20 d16) <| some (.F3 [(F6 d16),(.agg ((iI 0)::(Bh [(iI 0)])))]))) none) none)):=E8 [4]
theorem qz:Nk R =
 (ob (R.p Au []) fun d1=>ob (I9 0 d1) fun d2=>ob (I9 1 d1) fun d3=>og (C9 20 d2) <| og (C9 15 d3) <| some (.F3 [(F6 d2),(U8 d3)])):=E8 [4]
theorem xX:(run cfg).p nO [a,b]=A3t (run cfg) a b:=N7 Tryz.func62
def A3u:=eP Tryz.f63 A2e R [] (F7 Tryz.f63 [(a, .val),(b, .val),(c, .val),(d, .val)] [])
theorem A1z:A3u R a b c d =
 (og (C9 20 a) <| og (C9 20 d) <| ob (R.p nW [(F6 a),b,c,(F6 d)]) fun d1=>ob (I9 0 d1) fun d2=>ob (I9 1 d1) fun d3=>og (C9 20 d2) <| ob (A8 .neq d3 (iI 0)) fun d4=>D7 d4 (ob (R.p Au []) fun d5=>ob (I9 0 d5) fun d6=>ob (I9 1 d5) fun d7=>og (C9 20 d6) <| og (C9 15 d7) <| some (.F3 [(F6 d6),(U8 d7)])) (some (.F3 [(F6 d2),(.agg ((iI 0)::(Bh [(iI 0)])))]))):=E8 []
theorem xY:(run cfg).p Oe [a,b,c,d]=A3u (run cfg) a b c d:=N7 Tryz.func63
def A3v:=eP Tryz.f64 jM R [] (F7 Tryz.f64 [(a, .val)] [])
def Td:=eP Tryz.f64 jM R (pb 15) (ms 46 [] [] [(1,bx a 20),(2,some Ja),(3,some BV),(4,bv [b,c,d,e,f,g,h,o,p,q,r,t,u,v,w,x,y,z,A,B])] [])
theorem A1A:A3v R a =
 (og (C9 20 a) <| ob (F5 20 (A7 19 a) (iI 0)) fun d1=>ob (A8 .neq (A7 3 a) (A7 4 a)) fun d2=>D7 d2 (og (I6 (A7 3 a)) <| og (I6 (A7 4 a)) <| Td R a (iI 12) (iI 0) (iI 0) (A7 3 a) (A7 4 a) (iI 0) (.str ⟨#[]⟩) (iI 0) (iI 0) (.bool false) (.list 1 []) (A7 11 a) (A7 12 a) (A7 13 a) (A7 14 a) (A7 15 a) (A7 16 a) (.list 3 []) (.list 7 []) (.list 20 [(F6 d1),(F6 d1)])) (Td R a (A7 0 d1) (A7 1 d1) (A7 2 d1) (A7 3 d1) (A7 4 d1) (A7 5 d1) (A7 6 d1) (A7 7 d1) (A7 8 d1) (A7 9 d1) (A7 10 d1) (A7 11 d1) (A7 12 d1) (A7 13 d1) (A7 14 d1) (A7 15 d1) (A7 16 d1) (A7 17 d1) (A7 18 d1) (A7 19 d1))):=E8 [4]
theorem rE:Td R a b c d e f g h o p q r t u v w x y z A B =
 (og (I6 (A7 4 a)) <| ob (F5 20 (A7 19 a) (iI 1)) fun d1=>ob (R.p Oe [(F6 d1),(A7 3 a),(A7 10 a),(.agg ((iI 9)::(iI 0)::(iI 0)::(A7 4 a)::(.str ⟨#[]⟩)::(Xu (A0m ((A7 11 a)::(A7 12 a)::(A7 13 a)::(Kt [(.list 3 []),(.list 7 []),(.list 20 [(.agg [b,c,d,e,f,g,h,o,p,q,r,t,u,v,w,x,y,z,A,B])])]))))))]) fun d2=>ob (I9 0 d2) fun d3=>ob (I9 1 d2) fun d4=>og (C9 20 d3) <| og (C9 15 d4) <| some (.F3 [(F6 d3),(U8 d4)])):=E8 [4]
theorem xZ:(run cfg).p nP [a]=A3v (run cfg) a:=N7 Tryz.func64
def aa:=eP Tryz.f65 uF R [] (F7 Tryz.f65 [] [])
theorem rF:aa R =
 (some (.F3 [(.agg ((iI 0)::(Cw []))),(.agg ((iI 6)::(Bh [(iI 0)])))])):=E8 []
theorem lZ:(run cfg).p Au []=aa (run cfg):=N7 Tryz.func65
theorem A38 {d:DV} (h:aa (run cfg)=some d):(run cfg).p Au []=some d:=(lZ).trans h
def jw:=eP Tryz.f66 UZ R [] (F7 Tryz.f66 [(a, .val),(b, .val),(c, .val)] [])
def LG:=eP Tryz.f66 UZ R (pb 15) (ms 92 [(8,a)] [] [(3,bx b 20),(4,bx c 20),(5,bx d 20),(6,some Ja),(7,some BV)] [])
theorem gG:jw R a b c =
 (og (C9 20 a) <| og (C9 20 b) <| og (C9 20 c) <| ob (A8 .eql (A7 7 a) (iI 7)) fun d1=>D7 d1 (LG R (iI 4) a b c) (LG R (iI 2) a b c)):=E8 [4]
set_option maxRecDepth 100000 in
theorem Yt:LG R a b c d =
 (ob (A8 .neq (A7 0 c) a) fun d1=>I1 d1 (ob (R.p Au []) fun d2=>ob (I9 0 d2) fun d3=>ob (I9 1 d2) fun d4=>og (C9 20 d3) <| og (C9 15 d4) <| some (.F3 [(F6 d3),(U8 d4)])) (ob (A8 .neq (A7 0 d) a) fun d5=>D7 d5 (ob (R.p Au []) fun d6=>ob (I9 0 d6) fun d7=>ob (I9 1 d6) fun d8=>og (C9 20 d7) <| og (C9 15 d8) <| some (.F3 [(F6 d7),(U8 d8)])) (ob (A8 .eql (A7 7 b) (iI 1)) fun d9=>D7 d9 (ob (A8 .add (A7 5 c) (A7 5 d)) fun d10=>og (I6 d10) <| some (.F3 [(.agg ((iI 2)::(Nb (d10::(.str ⟨#[]⟩)::(iI 0)::(Qs [(.list 20 [])]))))),(.agg ((iI 0)::(Bh [(iI 0)])))])) (ob (A8 .eql (A7 7 b) (iI 2)) fun d11=>D7 d11 (ob (A8 .sub (A7 5 c) (A7 5 d)) fun d12 =>
 og (I6 d12) <| some (.F3 [(.agg ((iI 2)::(Nb (d12::(.str ⟨#[]⟩)::(iI 0)::(Qs [(.list 20 [])]))))),(.agg ((iI 0)::(Bh [(iI 0)])))])) (ob (A8 .eql (A7 7 b) (iI 3)) fun d13=>D7 d13 (ob (A8 .mul (A7 5 c) (A7 5 d)) fun d14=>og (I6 d14) <| some (.F3 [(.agg ((iI 2)::(Nb (d14::(.str ⟨#[]⟩)::(iI 0)::(Qs [(.list 20 [])]))))),(.agg ((iI 0)::(Bh [(iI 0)])))])) (ob (A8 .eql (A7 7 b) (iI 4)) fun d15 =>
 D7 d15 (ob (A8 .eql (A7 5 d) (iI 0)) fun d16=>D7 d16 (some (.F3 [(.agg ((iI 0)::(Cw []))),(.agg ((iI 3)::(uw [(iI 0),(.bool false),(A7 1 b),(A7 2 b),(iI 0)])))])) (ob (A8 .quo (A7 5 c) (A7 5 d)) fun d17=>og (I6 d17) <| some (.F3 [(.agg ((iI 2)::(Nb (d17::(.str ⟨#[]⟩)::(iI 0)::(Qs [(.list 20 [])]))))),(.agg ((iI 0)::(Bh [(iI 0)])))]))) (ob (A8 .eql (A7 7 b) (iI 5)) fun d18 =>
 D7 d18 (ob (A8 .lss (A7 5 c) (A7 5 d)) fun d19=>ob (R.p KG [d19]) fun d20=>og (C9 20 d20) <| some (.F3 [(F6 d20),(.agg ((iI 0)::(Bh [(iI 0)])))])) (ob (A8 .eql (A7 7 b) (iI 6)) fun d21=>D7 d21 (ob (A8 .eql (A7 5 c) (A7 5 d)) fun d22=>ob (R.p KG [d22]) fun d23=>og (C9 20 d23) <| some (.F3 [(F6 d23),(.agg ((iI 0)::(Bh [(iI 0)])))])) (ob (A8 .eql (A7 6 c) (A7 6 d)) fun d24=>ob (R.p KG [d24]) fun d25=>og (C9 20 d25) <| some (.F3 [(F6 d25),(.agg ((iI 0)::(Bh [(iI 0)])))]))))))))) none):=E8 [4]
theorem bX:(run cfg).p VR [a,b,c]=jw (run cfg) a b c:=N7 Tryz.func66
def vN:=eP Tryz.f67 MH R [] (F7 Tryz.f67 [(a, .val)] [])
def Ta:=hP Tryz.f67 MH R (pb 26) (ms 81 [(14,a),(15,b),(16,c)] [] [(1,bx d 20),(2,some Ja),(3,some BV)] [])
def LF:=hP Tryz.f67 MH R (pb 26) (ms 81 [(14,a),(15,b),(16,c)] [] [(1,bx d 20),(2,some Ja),(3,some BV)] s)
def IJ:=hP Tryz.f67 MH R (pb 432634) (ms 81 [(52,a),(53,b),(54,c)] [] [(2,some Ja),(3,some BV),(8,bx d 20)] s)
theorem rC:vN R a =
 (og (C9 20 a) <| ob (dLen (A7 18 a)) fun d1=>Ta R (A7 18 a) d1 (iI 0) a):=E8 []
theorem bH:Ta R a b c d =
 (ob (A8 .lss c b) fun d1=>D7 d1 (ob (F5 7 a c) fun d2=>ob (F5 20 (A7 19 d) (iI 0)) fun d3=>oc (R.r BD [(pt 0),((IQ d2), .val),((F6 d3), .val)] [D8.box (((.list 21 []), .full)::(zz4 []))]) fun q4 s4=>ob (M5 s4 0) fun c5=>ob (X5 c5 1) fun d6=>ob (A8 .neq d6 (iI 0)) fun d7=>D7 d7 (ob (M5 s4 0) fun c8=>ob (CV 1 15 c8) fun e9=>og (C9 15 (.agg e9)) <| some (.F3 [(.agg ((iI 0)::(Cw []))),(.agg [(A7 0 (.agg e9)),(A7 1 (.agg e9)),(A7 2 (.agg e9)),(A7 3 (.agg e9)),(A7 4 (.agg e9)),(A7 5 (.agg e9)),(A7 6 (.agg e9)),(A7 7 (.agg e9)),(A7 8 (.agg e9)),(A7 9 (.agg e9)),(A7 10 (.agg e9)),(A7 11 (.agg e9)),(A7 12 (.agg e9)),(A7 13 (.agg e9)),(A7 14 (.agg e9))])])) (ob (O6 .not q4) fun d10 =>
 D7 d10 (ob (A8 .add c (iI 1)) fun d11=>LF R a b d11 d s4) (ob (A8 .add c (iI 1)) fun d12=>ob (F5 20 (A7 19 d) d12) fun d13=>ob (M5 s4 0) fun c14=>ob (X5 c14 0) fun d15=>ob (dLen d15) fun d16=>IJ R d15 d16 (iI 0) d13 s4))) (some (.F3 [(.agg ((iI 0)::(Cw []))),(.agg ((iI 4)::(uw [(iI 0),(.bool false),(A7 1 d),(A7 2 d),(iI 0)])))]))):=I5 []
theorem P_:LF R a b c d s =
 (ob (A8 .lss c b) fun d1=>D7 d1 (ob (F5 7 a c) fun d2=>ob (F5 20 (A7 19 d) (iI 0)) fun d3=>oc (R.r BD [(.undef,(.ptr s.length 0)),((IQ d2), .val),((F6 d3), .val)] (s++[D8.box (((.list 21 []), .full)::(zz4 []))])) fun q4 s4=>ob (M5 s4 s.length) fun c5=>ob (X5 c5 1) fun d6=>ob (A8 .neq d6 (iI 0)) fun d7=>D7 d7 (ob (M5 s4 s.length) fun c8=>ob (CV 1 15 c8) fun e9=>og (C9 15 (.agg e9)) <| some (.F3 [(.agg ((iI 0)::(Cw []))),(.agg [(A7 0 (.agg e9)),(A7 1 (.agg e9)),(A7 2 (.agg e9)),(A7 3 (.agg e9)),(A7 4 (.agg e9)),(A7 5 (.agg e9)),(A7 6 (.agg e9)),(A7 7 (.agg e9)),(A7 8 (.agg e9)),(A7 9 (.agg e9)),(A7 10 (.agg e9)),(A7 11 (.agg e9)),(A7 12 (.agg e9)),(A7 13 (.agg e9)),(A7 14 (.agg e9))])])) (ob (O6 .not q4) fun d10 =>
 D7 d10 (ob (A8 .add c (iI 1)) fun d11=>LF R a b d11 d s4) (ob (A8 .add c (iI 1)) fun d12=>ob (F5 20 (A7 19 d) d12) fun d13=>ob (M5 s4 s.length) fun c14=>ob (X5 c14 0) fun d15=>ob (dLen d15) fun d16=>IJ R d15 d16 (iI 0) d13 s4))) (some (.F3 [(.agg ((iI 0)::(Cw []))),(.agg ((iI 4)::(uw [(iI 0),(.bool false),(A7 1 d),(A7 2 d),(iI 0)])))]))):=I5 []
theorem Pz:IJ R a b c d s =
 (ob (A8 .lss c b) fun d1=>D7 d1 (ob (F5 21 a c) fun d2=>ob (R.p Oe [(F6 d),(A7 0 d2),(.list 1 []),(.agg [(A7 1 d2),(A7 2 d2),(A7 3 d2),(A7 4 d2),(A7 5 d2),(A7 6 d2),(A7 7 d2),(A7 8 d2),(A7 9 d2),(A7 10 d2),(A7 11 d2),(A7 12 d2),(A7 13 d2),(A7 14 d2),(A7 15 d2),(A7 16 d2),(A7 17 d2),(A7 18 d2),(A7 19 d2),(A7 20 d2)])]) fun d3=>ob (I9 0 d3) fun d4=>ob (I9 1 d3) fun d5=>og (C9 20 d4) <| og (C9 15 d5) <| ob (A8 .neq (A7 0 d5) (iI 0)) fun d6=>D7 d6 (some (.F3 [(.agg ((iI 0)::(Cw []))),(U8 d5)])) (ob (A8 .add c (iI 1)) fun d7=>IJ R a b d7 d4 s)) (some (.F3 [(F6 d),(.agg ((iI 0)::(Bh [(iI 0)])))]))):=I5 []
theorem lX:(run cfg).p aN [a]=vN (run cfg) a:=N7 Tryz.func67
end
end Go.Su

/-
 Equations of the program's functions: by program.
-/
namespace Go.Su
noncomputable section
open Go.Proofs
variable (R:O4) (i j k l m n:Nat) (a b c d e f g h o p q r t u v w x y z A B C D E F G H I J K L M N O P Q S T U V W X Y Z a1 a2 a3 a4 a5 a6 a7 a8 a9 a10 a11 a12 a13 a14 a15 a16 a17 a18 a19 a20 a21 a22 a23 a24 a25 a26 a27 a28 a29 a30 a31 a32 a33 a34 a35 a36 a37 a38 a39 a40 a41 a42 a43 a44 a45 a46 a47 a48 a49 a50 a51 a52 a53 a54 a55 a56 a57 a58 a59:DV) (s:List D8)
def vL:=eP Tryz.f68 YW R [] (F7 Tryz.f68 [(a, .val),(b, .val)] [])
def VV:=eP Tryz.f68 YW R (pb 15) (ms 117 [] [] [(2,bx a 20),(3,bx b 20),(4,some Ja),(5,some BV),(6,bv [c,d,e]),(7,bv [f,g,h])] [])
theorem q_:vL R a b =
 (og (C9 20 a) <| og (C9 20 b) <| ob (dLen (A7 13 a)) fun d1=>ob (A8 .eql d1 (iI 0)) fun d2=>I1 d2 (ob (R.p LD [(.agg [(A7 11 a),(A7 12 a),(A7 13 a)]),(.agg [(A7 14 a),(A7 15 a),(A7 16 a)])]) fun d3=>D7 d3 (some (.F3 [(F6 b),(.agg ((iI 0)::(Bh [(iI 0)])))])) (VV R a b (A7 11 a) (A7 12 a) (A7 13 a) (A7 14 a) (A7 15 a) (A7 16 a))) (VV R a b (A7 11 a) (A7 12 a) (A7 13 a) (A7 14 a) (A7 15 a) (A7 16 a)) none):=E8 [4]
set_option maxRecDepth 100000 in
theorem gF:VV R a b c d e f g h =
 (ob (A8 .eql c (iI 5)) fun d1=>D7 d1 (ob (R.p Lx [(.agg [f,g,h])]) fun d2=>ob (I9 0 d2) fun d3=>ob (I9 1 d2) fun d4=>og (C9 3 d3) <| ob (O6 .not d4) fun d5=>D7 d5 (ob (R.p Au []) fun d6=>ob (I9 0 d6) fun d7=>ob (I9 1 d6) fun d8=>og (C9 20 d7) <| og (C9 15 d8) <| some (.F3 [(F6 d7),(U8 d8)])) (ob (R.p LD [(.agg [f,g,h]),(V9 d3)]) fun d9=>ob (O6 .not d9) fun d10=>D7 d10 (ob (R.p Da [(F6 a),(A7 9 a),(.agg [c,d,e]),(V9 d3),(F6 b)]) fun d11=>ob (R.p Da [(F6 a),(A7 9 a),(V9 d3),(.agg [f,g,h]),d11]) fun d12=>og (C9 20 d12) <| some (.F3 [(F6 d12),(.agg ((iI 0)::(Bh [(iI 0)])))])) (ob (A8 .neq (A7 0 b) (iI 16)) fun d13=>I1 d13 (ob (R.p Au []) fun d14=>ob (I9 0 d14) fun d15=>ob (I9 1 d14) fun d16=>og (C9 20 d15) <| og (C9 15 d16) <| some (.F3 [(F6 d15),(U8 d16)])) (ob (A8 .neq (A7 14 b) (iI 5)) fun d17 =>
 D7 d17 (ob (R.p Au []) fun d18=>ob (I9 0 d18) fun d19=>ob (I9 1 d18) fun d20=>og (C9 20 d19) <| og (C9 15 d20) <| some (.F3 [(F6 d19),(U8 d20)])) (ob (R.p LD [(.agg [(A7 11 b),(A7 12 b),(A7 13 b)]),(V9 d3)]) fun d21=>D7 d21 (ob (F5 20 (A7 19 b) (iI 0)) fun d22=>some (.F3 [(F6 d22),(.agg ((iI 0)::(Bh [(iI 0)])))])) (og (I6 (A7 8 a)) <| og (I6 (A7 9 a)) <| some (.F3 [(.agg ((iI 0)::(Cw []))),(.agg ((iI 2)::(uw [(A7 8 a),(A7 9 a),(iI 0),(iI 0),(iI 0)])))])))) none))) (ob (A8 .eql f (iI 5)) fun d23 =>
 D7 d23 (ob (R.p Lx [(.agg [c,d,e])]) fun d24=>ob (I9 0 d24) fun d25=>ob (I9 1 d24) fun d26=>og (C9 3 d25) <| D7 d26 (ob (R.p Da [(F6 a),(A7 9 a),(.agg [c,d,e]),(V9 d25),(F6 b)]) fun d27=>ob (R.p Da [(F6 a),(A7 9 a),(V9 d25),(.agg [f,g,h]),d27]) fun d28=>og (C9 20 d28) <| some (.F3 [(F6 d28),(.agg ((iI 0)::(Bh [(iI 0)])))])) (ob (R.p Au []) fun d29=>ob (I9 0 d29) fun d30=>ob (I9 1 d29) fun d31=>og (C9 20 d30) <| og (C9 15 d31) <| some (.F3 [(F6 d30),(U8 d31)]))) (ob (R.p Au []) fun d32=>ob (I9 0 d32) fun d33=>ob (I9 1 d32) fun d34=>og (C9 20 d33) <| og (C9 15 d34) <| some (.F3 [(F6 d33),(U8 d34)])))):=E8 [4]
theorem lV:(run cfg).p aM [a,b]=vL (run cfg) a b:=N7 Tryz.func68
def vM:=eR Tryz.f69 WS uE R [] (F7 Tryz.f69 [(a, .val)] s)
theorem rA:vM R a s =
 (og (C9 20 a) <| ob (A8 .neq (A7 0 a) (iI 16)) fun d1=>D7 d1 (some ([(.list 20 []),(F6 a)],s)) (ob (F5 20 (A7 19 a) (iI 0)) fun d2=>ob (R.r Ng [((F6 d2), .val)] s) fun q3=>ob (I9 0 (.F3 q3.1)) fun d4=>ob (I9 1 (.F3 q3.1)) fun d5=>og (C9 20 d5) <| ob (Be 20 d4 (.list 20 [(F6 a)])) fun d6=>some ([d6,(F6 d5)],q3.2))):=E8 []
theorem lW:(run cfg).r Ng [(a, .val)] s=vM (run cfg) a s:=gz (s:=WS) Tryz.func69
end
end Go.Su

/-
 Equations of the program's functions: by program.
-/
namespace Go.Su
noncomputable section
open Go.Proofs
variable (R:O4) (i j k l m n:Nat) (a b c d e f g h o p q r t u v w x y z A B C D E F G H I J K L M N O P Q S T U V W X Y Z a1 a2 a3 a4 a5 a6 a7 a8 a9 a10 a11 a12 a13 a14 a15 a16 a17 a18 a19 a20 a21 a22 a23 a24 a25 a26 a27 a28 a29 a30 a31 a32 a33 a34 a35 a36 a37 a38 a39 a40 a41 a42 a43 a44 a45 a46 a47 a48 a49 a50 a51 a52 a53 a54 a55 a56 a57 a58 a59:DV) (s:List D8)
def vO:=eP Tryz.f70 Dq R [] (F7 Tryz.f70 [(a, .val),(b, .val)] [])
def Tc:=hP Tryz.f70 Dq R (pb 250) (ms 89 [(0,a),(7,b),(26,(iI 0))] [] [(4,some zb1),(5,some BV),(6,bv [c,d,e,f,g,h,o,p,q,r,t,u,v,w,x,y,z,A,B,C,D,E,F,G,H,I,J,K,L,M,N,O,P,Q,S,T,U,V,W,X])] [])
def JD:=hP Tryz.f70 Dq R (pb 64102) (ms 89 [(0,a),(7,b),(8,(iI 0)),(26,(iI 0)),(29,c),(30,d),(31,e)] [] [(4,some zb1),(5,some BV),(6,bv [f,g,h,o,p,q,r,t,u,v,w,x,y,z,A,B,C,D,E,F,G,H,I,J,K,L,M,N,O,P,Q,S,T,U,V,W,X,Y,Z,a1])] [])
def LH:=hP Tryz.f70 Dq R (pb 131281724) (ms 89 [(0,a),(7,b),(8,(iI 0)),(26,(iI 0)),(29,c),(30,d),(31,e)] [] [(4,some zb1),(5,some BV),(6,bv [f,g,h,o,p,q,r,t,u,v,w,x,y,z,A,B,C,D,E,F,G,H,I,J,K,L,M,N,O,P,Q,S,T,U,V,W,X,Y,Z,a1]),(11,bx a2 20)] [])
def Rm:=hP Tryz.f70 Dq R (pb 250) (ms 89 [(0,a),(7,b),(26,(iI 1))] [] [(4,some zb1),(5,some BV),(6,bv [c,d,e,f,g,h,o,p,q,r,t,u,v,w,x,y,z,A,B,C,D,E,F,G,H,I,J,K,L,M,N,O,P,Q,S,T,U,V,W,X])] [])
def IK:=hP Tryz.f70 Dq R (pb 64102) (ms 89 [(0,a),(7,b),(8,(iI 1)),(26,(iI 1)),(29,c),(30,d),(31,e)] [] [(4,some zb1),(5,some BV),(6,bv [f,g,h,o,p,q,r,t,u,v,w,x,y,z,A,B,C,D,E,F,G,H,I,J,K,L,M,N,O,P,Q,S,T,U,V,W,X,Y,Z,a1])] [])
def Jr:=hP Tryz.f70 Dq R (pb 131281724) (ms 89 [(0,a),(7,b),(8,(iI 1)),(26,(iI 1)),(29,c),(30,d),(31,e)] [] [(4,some zb1),(5,some BV),(6,bv [f,g,h,o,p,q,r,t,u,v,w,x,y,z,A,B,C,D,E,F,G,H,I,J,K,L,M,N,O,P,Q,S,T,U,V,W,X,Y,Z,a1]),(11,bx a2 20)] [])
def aZ:=hP Tryz.f70 Dq R (pb 250) (ms 89 [(0,a),(7,b),(26,(iI 2))] [] [(4,some zb1),(5,some BV),(6,bv [c,d,e,f,g,h,o,p,q,r,t,u,v,w,x,y,z,A,B,C,D,E,F,G,H,I,J,K,L,M,N,O,P,Q,S,T,U,V,W,X])] [])
theorem rD:vO R a b =
 (og (C9 20 b) <| ob (F5 20 (A7 19 b) (iI 0)) fun d1=>ob (F5 20 (A7 19 b) (iI 1)) fun d2=>ob (A8 .eql (A7 0 b) (iI 8)) fun d3=>D7 d3 (Tc R a (iI 8) (A7 0 d1) (A7 1 d1) (A7 2 d1) (A7 3 d1) (A7 4 d1) (A7 5 d1) (A7 6 d1) (A7 7 d1) (A7 8 d1) (A7 9 d1) (A7 10 d1) (A7 11 d1) (A7 12 d1) (A7 13 d1) (A7 14 d1) (A7 15 d1) (A7 16 d1) (A7 17 d1) (A7 18 d1) (A7 19 d1) (A7 0 d2) (A7 1 d2) (A7 2 d2) (A7 3 d2) (A7 4 d2) (A7 5 d2) (A7 6 d2) (A7 7 d2) (A7 8 d2) (A7 9 d2) (A7 10 d2) (A7 11 d2) (A7 12 d2) (A7 13 d2) (A7 14 d2) (A7 15 d2) (A7 16 d2) (A7 17 d2) (A7 18 d2) (A7 19 d2)) (Tc R a (iI 7) (A7 0 d1) (A7 1 d1) (A7 2 d1) (A7 3 d1) (A7 4 d1) (A7 5 d1) (A7 6 d1) (A7 7 d1) (A7 8 d1) (A7 9 d1) (A7 10 d1) (A7 11 d1) (A7 12 d1) (A7 13 d1) (A7 14 d1) (A7 15 d1) (A7 16 d1) (A7 17 d1) (A7 18 d1) (A7 19 d1) (A7 0 d2) (A7 1 d2) (A7 2 d2) (A7 3 d2) (A7 4 d2) (A7 5 d2) (A7 6 d2) (A7 7 d2) (A7 8 d2) (A7 9 d2) (A7 10 d2) (A7 11 d2) (A7 12 d2) (A7 13 d2) (A7 14 d2) (A7 15 d2) (A7 16 d2) (A7 17 d2) (A7 18 d2) (A7 19 d2))):=E8 []
theorem Rn:Tc R a b c d e f g h o p q r t u v w x y z A B C D E F G H I J K L M N O P Q S T U V W X =
 (ob (dLen a) fun d1=>JD R a b a d1 (iI 0) c d e f g h o p q r t u v w x y z A B C D E F G H I J K L M N O P Q S T U V W X):=I5 []
theorem IV:JD R a b c d e f g h o p q r t u v w x y z A B C D E F G H I J K L M N O P Q S T U V W X Y Z a1 =
 (ob (A8 .lss e d) fun d1=>D7 d1 (ob (F5 20 c e) fun d2=>ob (A8 .eql (A7 14 d2) (iI 5)) fun d3=>D7 d3 (ob (A8 .add e (iI 1)) fun d4=>JD R a b c d d4 f g h o p q r t u v w x y z A B C D E F G H I J K L M N O P Q S T U V W X Y Z a1) (ob (A8 .neq (A7 11 d2) b) fun d5=>I1 d5 (some (.F3 [(.agg [f,g,h,o,p,q,r,t,u,v,w,x,y,z,A,B,C,D,E,F,G,H,I,J,K,L,M,N,O,P,Q,S,T,U,V,W,X,Y,Z,a1]),(.agg ((iI 6)::(Bh [(iI 0)])))])) (ob (A8 .neq (A7 14 d2) b) fun d6=>D7 d6 (some (.F3 [(.agg [f,g,h,o,p,q,r,t,u,v,w,x,y,z,A,B,C,D,E,F,G,H,I,J,K,L,M,N,O,P,Q,S,T,U,V,W,X,Y,Z,a1]),(.agg ((iI 6)::(Bh [(iI 0)])))])) (ob (R.p Hl [(.agg [(A7 11 d2),(A7 12 d2),(A7 13 d2)]),(iI 0)]) fun d7 =>
 ob (R.p Hl [(.agg [(A7 14 d2),(A7 15 d2),(A7 16 d2)]),(iI 0)]) fun d8=>ob (R.p Da [(F6 d2),(A7 9 d2),d7,d8,(.agg [f,g,h,o,p,q,r,t,u,v,w,x,y,z,A,B,C,D,E,F])]) fun d9=>og (C9 20 d9) <| LH R a b c d e f g h o p q r t u v w x y z A B C D E F G H I J K L M N O P Q S T U V W X Y Z a1 d9)) none)) (Rm R a b f g h o p q r t u v w x y z A B C D E F G H I J K L M N O P Q S T U V W X Y Z a1)):=I5 []
theorem QA:LH R a b c d e f g h o p q r t u v w x y z A B C D E F G H I J K L M N O P Q S T U V W X Y Z a1 a2 =
 (ob (R.p Cf [(F6 a2)]) fun d1=>ob (O6 .not d1) fun d2=>D7 d2 (ob (R.p Bz [(F6 a2)]) fun d3=>ob (I9 0 d3) fun d4=>ob (I9 1 d3) fun d5=>og (C9 20 d4) <| og (C9 15 d5) <| ob (A8 .neq (A7 0 d5) (iI 0)) fun d6=>D7 d6 (some (.F3 [(.agg [f,g,h,o,p,q,r,t,u,v,w,x,y,z,A,B,C,D,E,F,G,H,I,J,K,L,M,N,O,P,Q,S,T,U,V,W,X,Y,Z,a1]),(U8 d5)])) (LH R a b c d e f g h o p q r t u v w x y z A B C D E F G H I J K L M N O P Q S T U V W X Y Z a1 d4)) (ob (A8 .add e (iI 1)) fun d7=>JD R a b c d d7 (A7 0 a2) (A7 1 a2) (A7 2 a2) (A7 3 a2) (A7 4 a2) (A7 5 a2) (A7 6 a2) (A7 7 a2) (A7 8 a2) (A7 9 a2) (A7 10 a2) (A7 11 a2) (A7 12 a2) (A7 13 a2) (A7 14 a2) (A7 15 a2) (A7 16 a2) (A7 17 a2) (A7 18 a2) (A7 19 a2) G H I J K L M N O P Q S T U V W X Y Z a1)):=I5 []
theorem Yu:Rm R a b c d e f g h o p q r t u v w x y z A B C D E F G H I J K L M N O P Q S T U V W X =
 (ob (dLen a) fun d1=>IK R a b a d1 (iI 0) c d e f g h o p q r t u v w x y z A B C D E F G H I J K L M N O P Q S T U V W X):=I5 []
theorem Gs:IK R a b c d e f g h o p q r t u v w x y z A B C D E F G H I J K L M N O P Q S T U V W X Y Z a1 =
 (ob (A8 .lss e d) fun d1=>D7 d1 (ob (F5 20 c e) fun d2=>ob (A8 .eql (A7 14 d2) (iI 5)) fun d3=>D7 d3 (ob (A8 .add e (iI 1)) fun d4=>IK R a b c d d4 f g h o p q r t u v w x y z A B C D E F G H I J K L M N O P Q S T U V W X Y Z a1) (ob (A8 .neq (A7 11 d2) b) fun d5=>I1 d5 (some (.F3 [(.agg [f,g,h,o,p,q,r,t,u,v,w,x,y,z,A,B,C,D,E,F,G,H,I,J,K,L,M,N,O,P,Q,S,T,U,V,W,X,Y,Z,a1]),(.agg ((iI 6)::(Bh [(iI 0)])))])) (ob (A8 .neq (A7 14 d2) b) fun d6=>D7 d6 (some (.F3 [(.agg [f,g,h,o,p,q,r,t,u,v,w,x,y,z,A,B,C,D,E,F,G,H,I,J,K,L,M,N,O,P,Q,S,T,U,V,W,X,Y,Z,a1]),(.agg ((iI 6)::(Bh [(iI 0)])))])) (ob (R.p Hl [(.agg [(A7 11 d2),(A7 12 d2),(A7 13 d2)]),(iI 1)]) fun d7 =>
 ob (R.p Hl [(.agg [(A7 14 d2),(A7 15 d2),(A7 16 d2)]),(iI 1)]) fun d8=>ob (R.p Da [(F6 d2),(A7 9 d2),d7,d8,(.agg [G,H,I,J,K,L,M,N,O,P,Q,S,T,U,V,W,X,Y,Z,a1])]) fun d9=>og (C9 20 d9) <| Jr R a b c d e f g h o p q r t u v w x y z A B C D E F G H I J K L M N O P Q S T U V W X Y Z a1 d9)) none)) (aZ R a b f g h o p q r t u v w x y z A B C D E F G H I J K L M N O P Q S T U V W X Y Z a1)):=I5 []
theorem Nu:Jr R a b c d e f g h o p q r t u v w x y z A B C D E F G H I J K L M N O P Q S T U V W X Y Z a1 a2 =
 (ob (R.p Cf [(F6 a2)]) fun d1=>ob (O6 .not d1) fun d2=>D7 d2 (ob (R.p Bz [(F6 a2)]) fun d3=>ob (I9 0 d3) fun d4=>ob (I9 1 d3) fun d5=>og (C9 20 d4) <| og (C9 15 d5) <| ob (A8 .neq (A7 0 d5) (iI 0)) fun d6=>D7 d6 (some (.F3 [(.agg [f,g,h,o,p,q,r,t,u,v,w,x,y,z,A,B,C,D,E,F,G,H,I,J,K,L,M,N,O,P,Q,S,T,U,V,W,X,Y,Z,a1]),(U8 d5)])) (Jr R a b c d e f g h o p q r t u v w x y z A B C D E F G H I J K L M N O P Q S T U V W X Y Z a1 d4)) (ob (A8 .add e (iI 1)) fun d7=>IK R a b c d d7 f g h o p q r t u v w x y z A B C D E F (A7 0 a2) (A7 1 a2) (A7 2 a2) (A7 3 a2) (A7 4 a2) (A7 5 a2) (A7 6 a2) (A7 7 a2) (A7 8 a2) (A7 9 a2) (A7 10 a2) (A7 11 a2) (A7 12 a2) (A7 13 a2) (A7 14 a2) (A7 15 a2) (A7 16 a2) (A7 17 a2) (A7 18 a2) (A7 19 a2))):=I5 []
theorem Yv:aZ R a b c d e f g h o p q r t u v w x y z A B C D E F G H I J K L M N O P Q S T U V W X =
 (some (.F3 [(.agg [c,d,e,f,g,h,o,p,q,r,t,u,v,w,x,y,z,A,B,C,D,E,F,G,H,I,J,K,L,M,N,O,P,Q,S,T,U,V,W,X]),(.agg ((iI 0)::(Bh [(iI 0)])))])):=I5 []
theorem lY:(run cfg).p Nh [a,b]=vO (run cfg) a b:=N7 Tryz.func70
def A3B:=eP Tryz.f71 A2j R [] (F7 Tryz.f71 [(a, .val)] [])
theorem A1F:A3B R a =
 (og (I6 a) <| some (.agg [a,(iI 0),(.list 3 [])])):=E8 []
theorem xh:(run cfg).p TK [a]=A3B (run cfg) a:=N7 Tryz.func71
def A3O:=eP Tryz.f72 jS R [] (F7 Tryz.f72 [(a, .val),(b, .val)] [])
def RL:=hP Tryz.f72 jS R (pb 58) (ms 60 [(5,a)] [] [(2,bx b 5),(3,bx c 5)] [])
set_option maxRecDepth 100000 in
theorem A1S:A3O R a b =
 (og (C9 5 a) <| og (C9 5 b) <| ob (A8 .neq (A7 0 a) (A7 0 b)) fun d1=>I1 d1 sF (ob (A8 .neq (A7 1 a) (A7 1 b)) fun d2=>I1 d2 sF (ob (A8 .neq (A7 2 a) (A7 2 b)) fun d3=>I1 d3 sF (ob (jF (A7 3 a) (A7 3 b)) fun b4=>I1 (.bool !b4) sF (ob (dLen (A7 4 a)) fun d5=>ob (dLen (A7 4 b)) fun d6=>ob (A8 .neq d5 d6) fun d7=>D7 d7 sF (RL R (iI 0) a b)) none) none) none) none):=E8 []
theorem lH:RL R a b c =
 (ob (dLen (A7 4 b)) fun d1=>ob (A8 .lss a d1) fun d2=>D7 d2 (ob (F5 5 (A7 4 b) a) fun d3=>ob (F5 5 (A7 4 c) a) fun d4=>ob (R.p ZY [(ag5 d3),(ag5 d4)]) fun d5=>ob (O6 .not d5) fun d6=>D7 d6 sF (ob (A8 .add a (iI 1)) fun d7=>RL R d7 b c)) sT):=I5 []
theorem yC:(run cfg).p ZY [a,b]=A3O (run cfg) a b:=N7 Tryz.func72
end
end Go.Su

/-
 Equations of the program's functions: by program.
-/
namespace Go.Su
noncomputable section
open Go.Proofs
variable (R:O4) (i j k l m n:Nat) (a b c d e f g h o p q r t u v w x y z A B C D E F G H I J K L M N O P Q S T U V W X Y Z a1 a2 a3 a4 a5 a6 a7 a8 a9 a10 a11 a12 a13 a14 a15 a16 a17 a18 a19 a20 a21 a22 a23 a24 a25 a26 a27 a28 a29 a30 a31 a32 a33 a34 a35 a36 a37 a38 a39 a40 a41 a42 a43 a44 a45 a46 a47 a48 a49 a50 a51 a52 a53 a54 a55 a56 a57 a58 a59:DV) (s:List D8)
def A3E:=eP Tryz.f75 jP R [] (F7 Tryz.f75 [(a, .val)] [])
def Qz:=hP Tryz.f75 jP R (pb 58) (ms 21 [(3,a),(4,b)] [] [(1,bx c 3)] [])
theorem A1I:A3E R a =
 (og (C9 3 a) <| Qz R (iI 1) (iI 0) a):=E8 []
theorem Vj:Qz R a b c =
 (ob (dLen (A7 2 c)) fun d1=>ob (A8 .lss b d1) fun d2=>D7 d2 (ob (F5 3 (A7 2 c) b) fun d3=>ob (R.p ZR [(V9 d3)]) fun d4=>ob (A8 .add a d4) fun d5=>ob (A8 .add b (iI 1)) fun d6=>Qz R d5 d6 c) (some a)):=I5 []
theorem xn:(run cfg).p ZR [a]=A3E (run cfg) a:=N7 Tryz.func75
def A08:=eP Tryz.f76 yc R [] (F7 Tryz.f76 [(a, .val)] [])
theorem xA:A08 R a =
 (og (C9 7 a) <| oc (R.r WY [((IQ a), .val),((.list 1 []), .own)] []) fun q1 s1=>some q1):=E8 []
theorem tJ:(run cfg).p WX [a]=A08 (run cfg) a:=N7 Tryz.func76
def wE:=eP Tryz.f78 Yc R [] (F7 Tryz.f78 [(a, .val)] [])
def NI:=hP Tryz.f78 Yc R (pb 58) (ms 19 [(9,a),(10,b),(11,c)] [] [] [])
theorem sM:wE R a =
 (og (C9 20 a) <| ob (R.p nX [(F6 a)]) fun d1=>ob (O6 .not d1) fun d2=>D7 d2 sF (ob (dLen (A7 19 a)) fun d3=>NI R (A7 19 a) d3 (iI 0))):=E8 []
theorem SA:NI R a b c =
 (ob (A8 .lss c b) fun d1=>D7 d1 (ob (F5 20 a c) fun d2=>ob (R.p Ni [(F6 d2)]) fun d3=>ob (O6 .not d3) fun d4=>D7 d4 sF (ob (A8 .add c (iI 1)) fun d5=>NI R a b d5)) sT):=I5 []
theorem mO:(run cfg).p Ni [a]=wE (run cfg) a:=N7 Tryz.func78
def qV:=eP Tryz.f88 Vz R [] (F7 Tryz.f88 [(a, .val),(b, .val)] [])
def LJ:=hP Tryz.f88 Vz R (pb 58) (ms 27 [(0,a),(1,b),(5,c)] [] [] [])
theorem kz:qV R a b =
 (ob (dLen a) fun d1=>ob (dLen b) fun d2=>ob (A8 .neq d1 d2) fun d3=>D7 d3 sF (LJ R a b (iI 0))):=E8 []
theorem QC:LJ R a b c =
 (ob (dLen a) fun d1=>ob (A8 .lss c d1) fun d2=>D7 d2 (ob (F5 3 a c) fun d3=>ob (F5 3 b c) fun d4=>ob (R.p Dl [(V9 d3),(V9 d4)]) fun d5=>ob (O6 .not d5) fun d6=>D7 d6 sF (ob (A8 .add c (iI 1)) fun d7=>LJ R a b d7)) sT):=I5 []
theorem gW:(run cfg).p Xw [a,b]=qV (run cfg) a b:=N7 Tryz.func88
def A3D:=eP Tryz.f89 jO R [] (F7 Tryz.f89 [(a, .val),(b, .val)] [])
def Qy:=hP Tryz.f89 jO R (pb 58) (ms 46 [(5,a)] [] [(2,bx b 3),(3,bx c 3)] [])
set_option maxRecDepth 100000 in
theorem A1H:A3D R a b =
 (og (C9 3 a) <| og (C9 3 b) <| ob (A8 .neq (A7 0 a) (A7 0 b)) fun d1=>I1 d1 sF (ob (A8 .neq (A7 1 a) (A7 1 b)) fun d2=>I1 d2 sF (ob (dLen (A7 2 a)) fun d3=>ob (dLen (A7 2 b)) fun d4=>ob (A8 .neq d3 d4) fun d5=>D7 d5 sF (Qy R (iI 0) a b)) none) none):=E8 []
theorem Vi:Qy R a b c =
 (ob (dLen (A7 2 b)) fun d1=>ob (A8 .lss a d1) fun d2=>D7 d2 (ob (F5 3 (A7 2 b) a) fun d3=>ob (F5 3 (A7 2 c) a) fun d4=>ob (R.p Dl [(V9 d3),(V9 d4)]) fun d5=>ob (O6 .not d5) fun d6=>D7 d6 sF (ob (A8 .add a (iI 1)) fun d7=>Qy R d7 b c)) sT):=I5 []
theorem xm:(run cfg).p Dl [a,b]=A3D (run cfg) a b:=N7 Tryz.func89
def vR:=eP Tryz.f90 RZ R [] (F7 Tryz.f90 [(a, .val),(b, .val)] [])
def NB:=hP Tryz.f90 RZ R (pb 58) (ms 56 [(5,a)] [] [(2,bx b 16),(3,bx c 16)] [])
def NC:=hP Tryz.f90 RZ R (pb 122) (ms 56 [(6,a)] [] [(2,bx b 16),(3,bx c 16)] [])
theorem rO:vR R a b =
 (og (C9 16 a) <| og (C9 16 b) <| ob (R.p ZU [(A2O a),(A2O b)]) fun d1=>ob (O6 .not d1) fun d2=>I1 d2 sF (ob (Vd [.int, .int] (.agg [(A7 1 a),(A7 2 a)]) (.agg [(A7 1 b),(A7 2 b)])) fun b3=>D7 (.bool !b3) sF (NB R (iI 0) a b)) none):=E8 []
theorem Ro:NB R a b c =
 (ob (dLen (A7 14 b)) fun d1=>ob (A8 .lss a d1) fun d2=>D7 d2 (ob (F5 7 (A7 14 b) a) fun d3=>ob (F5 7 (A7 14 c) a) fun d4=>ob (R.p WZ [(IQ d3),(IQ d4)]) fun d5=>ob (O6 .not d5) fun d6=>D7 d6 sF (ob (A8 .add a (iI 1)) fun d7=>NB R d7 b c)) (NC R (iI 0) b c)):=I5 []
theorem Rq:NC R a b c =
 (ob (dLen (A7 15 b)) fun d1=>ob (A8 .lss a d1) fun d2=>D7 d2 (ob (F5 16 (A7 15 b) a) fun d3=>ob (F5 16 (A7 15 c) a) fun d4=>ob (R.p TL [(A2O d3),(A2O d4)]) fun d5=>ob (O6 .not d5) fun d6=>D7 d6 sF (ob (A8 .add a (iI 1)) fun d7=>NC R d7 b c)) sT):=I5 []
theorem lu:(run cfg).p TL [a,b]=vR (run cfg) a b:=N7 Tryz.func90
end
end Go.Su

/-
 Equations of the program's functions: by program.
-/
namespace Go.Su
set_option maxRecDepth 100000
noncomputable section
open Go.Proofs
variable (R:O4) (i j k l m n:Nat) (a b c d e f g h o p q r t u v w x y z A B C D E F G H I J K L M N O P Q S T U V W X Y Z a1 a2 a3 a4 a5 a6 a7 a8 a9 a10 a11 a12 a13 a14 a15 a16 a17 a18 a19 a20 a21 a22 a23 a24 a25 a26 a27 a28 a29 a30 a31 a32 a33 a34 a35 a36 a37 a38 a39 a40 a41 a42 a43 a44 a45 a46 a47 a48 a49 a50 a51 a52 a53 a54 a55 a56 a57 a58 a59:DV) (s:List D8)
def A00:=eP Tryz.f91 dB R [] (F7 Tryz.f91 [(a, .val)] [])
def Om:=hP Tryz.f91 dB R (pb 26) (ms 32 [(0,a),(3,b)] [] [] [])
theorem wo:A00 R a =
 (Om R a (iI 0)):=E8 []
theorem UG:Om R a b =
 (ob (dLen a) fun d1=>ob (A8 .lss b d1) fun d2=>D7 d2 (ob (F5 3 a b) fun d3=>ob (R.p iZ [(.list 3 [(V9 d3)])]) fun d4=>I1 d4 sF (ob (F5 3 a b) fun d5=>ob (R.p ZV [(V9 d5),(iI 60)]) fun d6=>I1 d6 sF (ob (F5 3 a b) fun d7=>ob (R.p nT [(V9 d7)]) fun d8=>ob (dLen d8) fun d9=>ob (A8 .gtr d9 (iI 8)) fun d10=>D7 d10 sF (ob (A8 .add b (iI 1)) fun d11=>Om R a d11)) none) none) sT):=I5 []
theorem su:(run cfg).p ib [a]=A00 (run cfg) a:=N7 Tryz.func91
def A3A:=eP Tryz.f92 A2i R [] (F7 Tryz.f92 [(a, .val)] [])
theorem A1E:A3A R a =
 (ob (A8 .eql a (iI 1)) fun d1=>D7 d1 (some (iI 0)) (ob (A8 .eql a (iI 2)) fun d2=>D7 d2 (some (iI 0)) (ob (A8 .eql a (iI 3)) fun d3=>D7 d3 (some (iI 0)) (ob (A8 .eql a (iI 4)) fun d4=>D7 d4 (some (iI 0)) (ob (A8 .eql a (iI 5)) fun d5=>D7 d5 (some (iI 0)) (ob (A8 .eql a (iI 6)) fun d6=>D7 d6 (some (iI 0)) (ob (A8 .eql a (iI 8)) fun d7=>D7 d7 (some (iI 1)) (ob (A8 .eql a (iI 7)) fun d8=>D7 d8 (some (iI 2)) (ob (A8 .eql a (iI 9)) fun d9=>D7 d9 (some (iI 2)) (some (.int .i64 (-1)))))))))))):=E8 []
theorem xg:(run cfg).p ZQ [a]=A3A (run cfg) a:=N7 Tryz.func92
def A6f:=eP Tryz.f93 Zi R [] (F7 Tryz.f93 [(a, .val)] [])
def Ci:=eP Tryz.f93 Zi R (pb 31) (ms 92 [(3,a)] [] [(1,bx b 7),(4,bv [c,(iI 0),(iI 0),d,e,f,(.list 7 [])])] [])
def MC:=hP Tryz.f93 Zi R (pb 506) (ms 92 [(3,a),(5,b)] [] [(1,bx c 7)] [])
theorem A4l:A6f R a =
 (og (C9 7 a) <| og (I6 (A7 0 a)) <| ob (A8 .eql (A7 0 a) (iI 1)) fun d1=>D7 d1 (Ci R (iI 0) a (A7 0 a) (.str ⟨#[]⟩) (iI 0) (.str ⟨#[]⟩)) (ob (A8 .eql (A7 0 a) (iI 6)) fun d2=>D7 d2 (Ci R (iI 0) a (A7 0 a) (.str ⟨#[]⟩) (iI 0) (.str ⟨#[]⟩)) (ob (A8 .eql (A7 0 a) (iI 8)) fun d3=>D7 d3 (Ci R (iI 0) a (A7 0 a) (.str ⟨#[]⟩) (iI 0) (.str ⟨#[]⟩)) (ob (A8 .eql (A7 0 a) (iI 2)) fun d4=>D7 d4 (og (I6 (A7 3 a)) <| ob (R.p Gv [(A7 3 a)]) fun d5=>ob (O6 .not d5) fun d6=>D7 d6 sF (Ci R (iI 0) a (A7 0 a) (A7 3 a) (iI 0) (.str ⟨#[]⟩))) (ob (A8 .eql (A7 0 a) (iI 3)) fun d7=>D7 d7 (og (I6 (A7 4 a)) <| Ci R (iI 0) a (A7 0 a) (.str ⟨#[]⟩) (A7 4 a) (.str ⟨#[]⟩)) (ob (A8 .eql (A7 0 a) (iI 4)) fun d8=>D7 d8 (og (I6 (A7 4 a)) <| ob (A8 .lss (A7 4 a) (iI 0)) fun d9=>I1 d9 sF (ob (A8 .gtr (A7 4 a) (iI 1)) fun d10=>D7 d10 sF (Ci R (iI 0) a (A7 0 a) (.str ⟨#[]⟩) (A7 4 a) (.str ⟨#[]⟩))) none) (ob (A8 .eql (A7 0 a) (iI 5)) fun d11 =>
 D7 d11 (og (I6 (A7 5 a)) <| ob (DC (A7 5 a)) fun d12=>ob (A8 .gtr d12 (iI 200)) fun d13=>D7 d13 sF (Ci R (iI 0) a (A7 0 a) (.str ⟨#[]⟩) (iI 0) (A7 5 a))) (ob (A8 .eql (A7 0 a) (iI 7)) fun d14=>D7 d14 (Ci R (iI 2) a (A7 0 a) (.str ⟨#[]⟩) (iI 0) (.str ⟨#[]⟩)) (ob (A8 .eql (A7 0 a) (iI 9)) fun d15=>D7 d15 (Ci R (iI 2) a (A7 0 a) (.str ⟨#[]⟩) (iI 0) (.str ⟨#[]⟩)) sF))))))))):=E8 [25]
theorem rQ:Ci R a b c d e f =
 (ob (dLen (A7 6 b)) fun d1=>ob (A8 .neq d1 a) fun d2=>I1 d2 sF (ob (A8 .neq (A7 3 b) d) fun d3=>I1 d3 sF (ob (A8 .neq (A7 4 b) e) fun d4=>I1 d4 sF (ob (A8 .neq (A7 5 b) f) fun d5=>D7 d5 sF (MC R a (iI 0) b)) none) none) none):=E8 [25]
theorem Vn:MC R a b c =
 (ob (A8 .lss b a) fun d1=>D7 d1 (ob (F5 7 (A7 6 c) b) fun d2=>ob (R.p fO [(IQ d2)]) fun d3=>ob (O6 .not d3) fun d4=>D7 d4 sF (ob (A8 .add b (iI 1)) fun d5=>MC R a d5 c)) sT):=I5 [25]
theorem A17:(run cfg).p fO [a]=A6f (run cfg) a:=N7 Tryz.func93
def A06:=eP Tryz.f94 yY R [] (F7 Tryz.f94 [(a, .val)] [])
theorem wy:A06 R a =
 (ob (A8 .geq a (.int .u8 97)) fun d1=>I1 d1 (ob (A8 .leq a (.int .u8 122)) fun d2=>some d2) sF none):=E8 []
theorem tF:(run cfg).p QQ [a]=A06 (run cfg) a:=N7 Tryz.func94
def A3z:=eP Tryz.f95 A2h R [] (F7 Tryz.f95 [(a, .val)] [])
theorem A1D:A3z R a =
 (ob (R.p QQ [a]) fun d1=>I1 d1 sT (ob (R.p iq [a]) fun d2=>I1 d2 sT (ob (A8 .geq a (.int .u8 65)) fun d3=>I1 d3 (ob (A8 .leq a (.int .u8 90)) fun d4=>I1 d4 sT (ob (A8 .eql a (.int .u8 95)) fun d5=>I1 d5 sT (ob (A8 .eql a (.int .u8 39)) fun d6=>some d6) none) none) (ob (A8 .eql a (.int .u8 95)) fun d7=>I1 d7 sT (ob (A8 .eql a (.int .u8 39)) fun d8=>some d8) none) none) none) none):=E8 []
theorem xf:(run cfg).p nQ [a]=A3z (run cfg) a:=N7 Tryz.func95
def A6d:=eP Tryz.f96 Zh R [] (F7 Tryz.f96 [(a, .val)] [])
def Te:=hP Tryz.f96 Zh R (pb 26) (ms 40 [(0,a),(3,b)] [] [] [])
def Nl:=hP Tryz.f96 Zh R (pb 122) (ms 40 [(0,a),(4,b),(5,c)] [] [] [])
theorem A4j:A6d R a =
 (Te R a (iI 0)):=E8 []
theorem YN:Te R a b =
 (ob (DC a) fun d1=>ob (A8 .lss b d1) fun d2=>D7 d2 (ob (Y4 a b) fun d3=>ob (R.p QQ [d3]) fun d4=>ob (O6 .not d4) fun d5=>D7 d5 sF (ob (A8 .add b (iI 1)) fun d6=>Te R a d6)) (ob (A8 .add (.str ⟨#[32]⟩) a) fun d7=>ob (A8 .add d7 (.str ⟨#[32]⟩)) fun d8=>Nl R a d8 (iI 0))):=I5 []
theorem YO:Nl R a b c =
 (ob (DC b) fun d1=>ob (A8 .add c d1) fun d2=>ob (A8 .leq d2 (iI 81)) fun d3=>D7 d3 (ob (DC a) fun d4=>ob (A8 .gtr d4 (iI 0)) fun d5=>I1 d5 (ob (DC b) fun d6=>ob (A8 .add c d6) fun d7=>ob (kV (.str ⟨#[32,108,101,116,32,114,101,99,32,105,110,32,102,117,110,32,105,102,32,116,104,101,110,32,101,108,115,101,32,109,97,116,99,104,32,119,105,116,104,32,101,110,100,32,116,114,117,101,32,102,97,108,115,101,32,105,110,116,32,98,111,111,108,32,115,116,114,105,110,103,32,117,110,105,116,32,108,105,115,116,32]⟩) (some c) (some d7)) fun d8=>ob (A8 .eql d8 b) fun d9=>D7 d9 sT (ob (A8 .add c (iI 1)) fun d10=>Nl R a b d10)) (ob (A8 .add c (iI 1)) fun d11=>Nl R a b d11) none) sF):=I5 []
theorem A15:(run cfg).p vG [a]=A6d (run cfg) a:=N7 Tryz.func96
def fU:=eP Tryz.f97 SH R [] (F7 Tryz.f97 [(a, .val),(b, .val)] [])
def Ck:=hP Tryz.f97 SH R (pb 58) (ms 27 [(1,a),(5,b)] [] [(2,bx c 3)] [])
theorem Rv:fU R a b =
 (og (C9 3 a) <| ob (A8 .add b (iI 1)) fun d1=>Ck R d1 (iI 0) a):=E8 []
theorem FJ:Ck R a b c =
 (ob (dLen (A7 2 c)) fun d1=>ob (A8 .lss b d1) fun d2=>I1 d2 (ob (A8 .leq a (iI 20000)) fun d3=>D7 d3 (ob (F5 3 (A7 2 c) b) fun d4=>ob (R.p DL [(V9 d4),a]) fun d5=>ob (A8 .add b (iI 1)) fun d6=>Ck R d5 d6 c) (some a)) (some a) none):=I5 []
theorem QJ:(run cfg).p DL [a,b]=fU (run cfg) a b:=N7 Tryz.func97
def vU:=eP Tryz.f98 uH R [] (F7 Tryz.f98 [(a, .val)] [])
theorem rR:vU R a =
 (og (C9 3 a) <| ob (A8 .eql (A7 0 a) (iI 5)) fun d1=>I1 d1 (some (.F3 [(.agg (Kt [])),(.bool false)])) (ob (A8 .eql (A7 0 a) (iI 6)) fun d2=>D7 d2 (some (.F3 [(.agg (Kt [])),(.bool false)])) (ob (R.p aP [(A7 0 a)]) fun d3=>og (C9 3 d3) <| some (.F3 [(V9 d3),(.bool true)]))) none):=E8 []
theorem lv:(run cfg).p aO [a]=vU (run cfg) a:=N7 Tryz.func98
def A3Q:=eP Tryz.f99 A2n R [] (F7 Tryz.f99 [(a, .val),(b, .val),(c, .val),(d, .val)] [])
theorem A1U:A3Q R a b c d =
 (og (C9 20 a) <| og (C9 3 b) <| og (C9 3 c) <| og (C9 20 d) <| og (I6 (A7 8 a)) <| og (I6 (A7 9 a)) <| some (.agg ((iI 16)::(Nb (Xu [(A7 8 a),(A7 9 a),(.list 1 []),(A7 0 b),(A7 1 b),(A7 2 b),(A7 0 c),(A7 1 c),(A7 2 c),(.list 3 []),(.list 7 []),(.list 20 [(F6 d)])]))))):=E8 []
theorem yE:(run cfg).p Gw [a,b,c,d]=A3Q (run cfg) a b c d:=N7 Tryz.func99
def A6h:=eP Tryz.f100 oQ R [] (F7 Tryz.f100 [(a, .val),(b, .val),(c, .val),(d, .val)] [])
def Tt:=hP Tryz.f100 oQ R (pb 58) (ms 62 [(1,a),(2,b),(10,c)] [] [(4,bx d 20),(7,bx e 20),(8,some Ja)] [])
theorem A4n:A6h R a b c d =
 (og (C9 20 a) <| og (C9 20 d) <| ob (R.p Jb [(F6 a)]) fun d1=>ob (O6 .not d1) fun d2=>I1 d2 (some (.F3 [(.agg ((iI 0)::(Cw []))),(iI 1)])) (ob (R.p Jb [(F6 d)]) fun d3=>ob (O6 .not d3) fun d4=>I1 d4 (some (.F3 [(.agg ((iI 0)::(Cw []))),(iI 1)])) (ob (R.p Gv [b]) fun d5=>ob (O6 .not d5) fun d6=>I1 d6 (some (.F3 [(.agg ((iI 0)::(Cw []))),(iI 1)])) (ob (R.p TM [(F6 d)]) fun d7 =>
 ob (dLen d7) fun d8=>ob (A8 .gtr d8 (iI 0)) fun d9=>D7 d9 (some (.F3 [(.agg ((iI 0)::(Cw []))),(iI 1)])) (Tt R b c (iI 0) a d)) none) none) none):=E8 []
theorem YR:Tt R a b c d e =
 (ob (dLen b) fun d1=>ob (A8 .lss c d1) fun d2=>D7 d2 (ob (F5 1 b c) fun d3=>og (K6 d3) <| ob (A8 .lss d3 (iI 0)) fun d4=>I1 d4 (some (.F3 [(.agg ((iI 0)::(Cw []))),(iI 1)])) (ob (F5 1 b c) fun d5=>og (K6 d5) <| ob (A8 .gtr d5 (iI 1048576)) fun d6=>D7 d6 (some (.F3 [(.agg ((iI 0)::(Cw []))),(iI 1)])) (ob (A8 .add c (iI 1)) fun d7=>Tt R a b d7 d e)) none) (ob (dLen b) fun d8=>ob (R.p TN [(F6 d),a,d8]) fun d9=>ob (O6 .not d9) fun d10=>D7 d10 (some (.F3 [(.agg ((iI 0)::(Cw []))),(iI 8)])) (ob (R.p Oh [(F6 d),a,b,(F6 e)]) fun d11 =>
 og (C9 20 d11) <| some (.F3 [(F6 d11),(iI 0)])))):=I5 []
theorem A19:(run cfg).p vH [a,b,c,d]=A6h (run cfg) a b c d:=N7 Tryz.func100
def A8f:=eP Tryz.f101 A6G R [] (F7 Tryz.f101 [(a, .val),(b, .val),(c, .val)] [])
theorem A6B:A8f R a b c =
 (ob (A8 .eql a (iI 1)) fun d1=>D7 d1 (ob (A8 .add b c) fun d2=>some (.F3 [d2,(.bool true)])) (ob (A8 .eql a (iI 2)) fun d3=>D7 d3 (ob (A8 .sub b c) fun d4=>some (.F3 [d4,(.bool true)])) (ob (A8 .eql a (iI 3)) fun d5=>D7 d5 (ob (A8 .mul b c) fun d6=>some (.F3 [d6,(.bool true)])) (ob (A8 .eql a (iI 4)) fun d7=>D7 d7 (ob (A8 .eql c (iI 0)) fun d8=>D7 d8 (some (.F3 [(iI 0),(.bool false)])) (ob (A8 .eql c (.int .i64 (-1))) fun d9=>D7 d9 (ob (A8 .sub (iI 0) b) fun d10=>some (.F3 [d10,(.bool true)])) (ob (A8 .quo b c) fun d11=>some (.F3 [d11,(.bool true)])))) (ob (A8 .eql a (iI 5)) fun d12=>D7 d12 (ob (A8 .lss b c) fun d13=>ob (R.p MW [d13]) fun d14=>some (.F3 [d14,(.bool true)])) (ob (A8 .eql b c) fun d15=>ob (R.p MW [d15]) fun d16=>some (.F3 [d16,(.bool true)]))))))):=E8 []
theorem A4x:(run cfg).p A2M [a,b,c]=A8f (run cfg) a b c:=N7 Tryz.func101
def A1i:=eP Tryz.f102 ym R [] (F7 Tryz.f102 [(a, .val)] [])
theorem bQ:A1i R a =
 (D7 a (some (iI 1)) (some (iI 0))):=E8 []
theorem YU:(run cfg).p MW [a]=A1i (run cfg) a:=N7 Tryz.func102
end
end Go.Su

/-
 Equations of the program's functions: by program.
-/
namespace Go.Su
noncomputable section
open Go.Proofs
variable (R:O4) (i j k l m n:Nat) (a b c d e f g h o p q r t u v w x y z A B C D E F G H I J K L M N O P Q S T U V W X Y Z a1 a2 a3 a4 a5 a6 a7 a8 a9 a10 a11 a12 a13 a14 a15 a16 a17 a18 a19 a20 a21 a22 a23 a24 a25 a26 a27 a28 a29 a30 a31 a32 a33 a34 a35 a36 a37 a38 a39 a40 a41 a42 a43 a44 a45 a46 a47 a48 a49 a50 a51 a52 a53 a54 a55 a56 a57 a58 a59:DV) (s:List D8)
def A3R:=eR Tryz.f103 BH Cx R [] (F7 Tryz.f103 [(a, .val),(b, .val),(c, .own)] s)
def Np:=eR Tryz.f103 BH Cx R (pb 127) (ms 168 [(2,a),(11,b)] [(2, .own)] [(3,bx c 7),(8,some BV),(9,some BV),(10,bx d 20)] s)
def YC:=eR Tryz.f103 BH Cx R (pb 2034) (ms 168 [(2,a)] [(2, .own)] [(3,bx b 7),(8,some BV),(9,some BV),(10,bx c 20)] s)
def YB:=eR Tryz.f103 BH Cx R (pb 4067) (ms 168 [(2,a),(11,b)] [(2, .own)] [(3,bx c 7),(8,some BV),(9,some BV),(10,bx d 20)] s)
def YD:=eR Tryz.f103 BH Cx R (pb 2035) (ms 168 [(2,a),(11,b)] [(2, .own)] [(3,bx c 7),(8,some BV),(9,some BV),(10,bx d 20)] s)
def YE:=eR Tryz.f103 BH Cx R (pb 8143) (ms 168 [(2,a),(11,b)] [(2, .own)] [(3,bx c 7),(8,some BV),(9,some BV),(10,bx d 20)] s)
def YG:=eR Tryz.f103 BH Cx R (pb 32574) (ms 168 [(2,a)] [(2, .own)] [(8,some BV),(9,some BV)] s)
def YF:=eR Tryz.f103 BH Cx R (pb 65147) (ms 168 [(2,a),(11,b)] [(2, .own)] [(3,bx c 7),(8,some BV),(9,some BV),(10,bx d 20)] s)
def YH:=eR Tryz.f103 BH Cx R (pb 32575) (ms 168 [(2,a),(11,b)] [(2, .own)] [(3,bx c 7),(8,some BV),(9,some BV),(10,bx d 20)] s)
def RP:=eR Tryz.f103 BH Cx R (pb 130302) (ms 168 [(2,a),(11,b)] [(2, .own)] [(3,bx c 7),(8,some BV),(10,bx d 20)] s)
def YI:=eR Tryz.f103 BH Cx R (pb 260603) (ms 168 [(2,a),(11,b)] [(2, .own)] [(3,bx c 7),(8,some BV),(9,some BV),(10,bx d 20)] s)
set_option maxRecDepth 100000 in
theorem A1V:A3R R a b c s =
 (og (C9 7 a) <| og (C9 20 b) <| ob (A8 .eql (A7 0 a) (iI 1)) fun d1=>D7 d1 (some ([c,(.bool true),(.agg ((iI 0)::(Bh [(iI 0)])))],s)) (ob (A8 .eql (A7 0 a) (iI 2)) fun d2=>D7 d2 (og (I6 (A7 3 a)) <| ob (Be 21 c (.list 21 [(.agg [(A7 3 a),(A7 0 b),(A7 1 b),(A7 2 b),(A7 3 b),(A7 4 b),(A7 5 b),(A7 6 b),(A7 7 b),(A7 8 b),(A7 9 b),(A7 10 b),(A7 11 b),(A7 12 b),(A7 13 b),(A7 14 b),(A7 15 b),(A7 16 b),(A7 17 b),(A7 18 b),(A7 19 b)])])) fun d3=>some ([d3,(.bool true),(.agg ((iI 0)::(Bh [(iI 0)])))],s)) (ob (R.r TP [((F6 b), .val)] s) fun q4=>ob (I9 0 (.F3 q4.1)) fun d5=>ob (I9 1 (.F3 q4.1)) fun d6=>og (C9 20 d5) <| ob (dLen d6) fun d7 =>
 ob (A8 .gtr d7 (iI 0)) fun d8=>I1 d8 (ob (dLen d6) fun d9=>ob (A8 .sub d9 (iI 1)) fun d10=>ob (F5 20 d6 d10) fun d11=>ob (A8 .eql (A7 14 d11) (iI 5)) fun d12=>D7 d12 (some ([(.list 21 []),(.bool false),(.agg ((iI 0)::(Bh [(iI 0)])))],q4.2)) (Np R c d6 a d5 q4.2)) (Np R c d6 a d5 q4.2) none))):=E8 [9,10,11,12,14,15,16,17,18,19]
theorem Ew:Np R a b c d s =
 (ob (A8 .eql (A7 0 c) (iI 3)) fun d1=>I1 d1 (ob (A8 .eql (A7 0 d) (iI 2)) fun d2=>D7 d2 (YC R a c d s) (YB R a b c d s)) (YB R a b c d s) none):=E8 [9,10,11,12,14,15,16,17,18,19]
theorem EI:YC R a b c s =
 (ob (A8 .eql (A7 4 b) (A7 5 c)) fun d1=>some ([a,d1,(.agg ((iI 0)::(Bh [(iI 0)])))],s)):=E8 [9,10,11,12,14,15,16,17,18,19]
theorem EH:YB R a b c d s =
 (ob (A8 .eql (A7 0 c) (iI 4)) fun d1=>I1 d1 (ob (A8 .eql (A7 0 d) (iI 3)) fun d2=>D7 d2 (YC R a c d s) (YD R a b c d s)) (YD R a b c d s) none):=E8 [9,10,11,12,14,15,16,17,18,19]
theorem EJ:YD R a b c d s =
 (ob (A8 .eql (A7 0 c) (iI 5)) fun d1=>I1 d1 (ob (A8 .eql (A7 0 d) (iI 4)) fun d2=>D7 d2 (ob (A8 .eql (A7 5 c) (A7 6 d)) fun d3=>some ([a,d3,(.agg ((iI 0)::(Bh [(iI 0)])))],s)) (YE R a b c d s)) (YE R a b c d s) none):=E8 [9,10,11,12,14,15,16,17,18,19]
theorem EK:YE R a b c d s =
 (ob (A8 .eql (A7 0 c) (iI 6)) fun d1=>I1 d1 (ob (A8 .eql (A7 0 d) (iI 5)) fun d2=>D7 d2 (YG R a s) (YF R a b c d s)) (YF R a b c d s) none):=E8 [9,10,11,12,14,15,16,17,18,19]
theorem EM:YG R a s =
 (some ([a,(.bool true),(.agg ((iI 0)::(Bh [(iI 0)])))],s)):=E8 [9,10,11,12,14,15,16,17,18,19]
theorem EL:YF R a b c d s =
 (ob (A8 .eql (A7 0 c) (iI 8)) fun d1=>I1 d1 (ob (A8 .eql (A7 0 d) (iI 7)) fun d2=>D7 d2 (YG R a s) (YH R a b c d s)) (YH R a b c d s) none):=E8 [9,10,11,12,14,15,16,17,18,19]
theorem EN:YH R a b c d s =
 (ob (A8 .eql (A7 0 c) (iI 7)) fun d1=>I1 d1 (ob (A8 .eql (A7 0 d) (iI 6)) fun d2=>D7 d2 (RP R a b c d s) (YI R a b c d s)) (YI R a b c d s) none):=E8 [9,10,11,12,14,15,16,17,18,19]
theorem lJ:RP R a b c d s =
 (ob (R.p Wd [(F6 d),b]) fun d1=>ob (I9 0 d1) fun d2=>ob (I9 1 d1) fun d3=>og (C9 15 d3) <| ob (A8 .neq (A7 0 d3) (iI 0)) fun d4=>D7 d4 (some ([(.list 21 []),(.bool false),(U8 d3)],s)) (ob (F5 7 (A7 6 c) (iI 0)) fun d5=>ob (F5 20 d2 (iI 0)) fun d6=>ob (R.r JC [((IQ d5), .val),((F6 d6), .val),(a, .own)] s) fun q7=>ob (I9 0 (.F3 q7.1)) fun d8=>ob (I9 1 (.F3 q7.1)) fun d9=>ob (I9 2 (.F3 q7.1)) fun d10=>og (C9 15 d10) <| ob (O6 .not d9) fun d11=>D7 d11 (some ([(.list 21 []),(.bool false),(U8 d10)],q7.2)) (ob (F5 7 (A7 6 c) (iI 1)) fun d12=>ob (F5 20 d2 (iI 1)) fun d13=>ob (R.r JC [((IQ d12), .val),((F6 d13), .val),(d8, .own)] q7.2) fun q14=>ob (I9 0 (.F3 q14.1)) fun d15=>ob (I9 1 (.F3 q14.1)) fun d16=>ob (I9 2 (.F3 q14.1)) fun d17=>og (C9 15 d17) <| some ([d15,d16,(U8 d17)],q14.2)))):=E8 [9,10,11,12,14,15,16,17,18,19]
theorem EO:YI R a b c d s =
 (ob (A8 .eql (A7 0 c) (iI 9)) fun d1=>I1 d1 (ob (A8 .eql (A7 0 d) (iI 8)) fun d2=>D7 d2 (RP R a b c d s) (some ([(.list 21 []),(.bool false),(.agg ((iI 0)::(Bh [(iI 0)])))],s))) (some ([(.list 21 []),(.bool false),(.agg ((iI 0)::(Bh [(iI 0)])))],s)) none):=E8 [9,10,11,12,14,15,16,17,18,19]
theorem yF:(run cfg).r JC [(a, .val),(b, .val),(c, .own)] s=A3R (run cfg) a b c s:=gz (s:=BH) Tryz.func103
def A8e:=eP Tryz.f104 yf R [] (F7 Tryz.f104 [(a, .val)] [])
def Wm:=hP Tryz.f104 yf R (pb 58) (ms 20 [(0,a),(4,b)] [] [(2,some zb3),(3,some [(c, .val),((iI 0), .val),(d, .own)])] [])
theorem A6A:A8e R a =
 (og (I6 a) <| Wm R a (iI 0) a (.list 3 [])):=E8 []
theorem bL:Wm R a b c d =
 (ob (R.p ZQ [a]) fun d1=>ob (A8 .lss b d1) fun d2=>D7 d2 (ob (R.p TK [(iI 5)]) fun d3=>og (C9 3 d3) <| ob (Be 3 d (.list 3 [d3])) fun d4=>ob (A8 .add b (iI 1)) fun d5=>Wm R a d5 c d4) (some (.agg [c,(iI 0),d]))):=I5 []
theorem A4w:(run cfg).p aP [a]=A8e (run cfg) a:=N7 Tryz.func104
def A1k (R:O4) (x0:DV) (x1 x2:Nat) (sg:List D8):Option (List DV × List D8):=eR Tryz.f105 Gd Ka R [] (F7 Tryz.f105 [(x0, .val),(.undef,(.map x1)),(.undef,(.map x2))] sg)
def MF:=eR Tryz.f105 Gd Ka R (pb 7) (ms 66 [] [(1,(.map i)),(2,(.map j))] [(3,bx a 20)] s)
def KN:=hR Tryz.f105 Gd Ka R (pb 30) (ms 66 [(29,a),(30,b),(31,c)] [(1,(.map i)),(2,(.map j))] [(3,bx d 20)] s)
def KO:=hR Tryz.f105 Gd Ka R (pb 31130) (ms 66 [(8,a),(29,b),(30,c),(31,d),(39,e),(40,f),(41,g)] [(1,(.map i)),(2,(.map j))] [(3,bx h 20),(7,bx o 20)] s)
def GL:=hR Tryz.f105 Gd Ka R (pb 62270) (ms 66 [(29,a),(30,b),(31,c),(54,d),(55,e),(56,f)] [(1,(.map i)),(2,(.map j))] [(3,bx g 20)] s)
theorem bR (R:O4) (x0:DV) (x1 x2:Nat) (sg:List D8):A1k R x0 x1 x2 sg =
 (og (C9 20 x0) <| ob (A8 .eql (A7 0 x0) (iI 1)) fun d1=>I1 d1 (og (isKey true (A7 3 x0) && true) <| ob (Av sg x1) fun m2=>og (m2.1 == true) <| ob (A8 .eql ((AO m2.2 (A7 3 x0)).getD (iI 0)) (iI 0)) fun d3=>D7 d3 (og (isKey true (A7 3 x0) && true) <| ob (Av sg x2) fun m4=>og (m4.1 == true) <| ob (A8 .add ((AO m4.2 (A7 3 x0)).getD (iI 0)) (iI 1)) fun d5=>og (isKey true (A7 3 x0) && true && true) <| ob (Av sg x2) fun m6=>og (m6.1 == true) <| MF R x1 x2 x0 (sg.set x2 (.map true (BC m6.2 (A7 3 x0) d5)))) (MF R x1 x2 x0 sg)) (MF R x1 x2 x0 sg) none):=E8 [3]
theorem lM:MF R i j a s =
 (ob (dLen (A7 19 a)) fun d1=>KN R i j (A7 19 a) d1 (iI 0) a s):=E8 [3]
theorem UT:KN R i j a b c d s =
 (ob (A8 .lss c b) fun d1=>D7 d1 (ob (F5 20 a c) fun d2=>ob (R.p TS [(F6 d),c]) fun d3=>ob (dLen d3) fun d4=>KO R i j d3 a b c d3 d4 (iI 0) d d2 s) (some ([],s))):=I5 [3]
theorem UU:KO R i j a b c d e f g h o s =
 (ob (A8 .lss g f) fun d1=>D7 d1 (ob (F5 1 e g) fun d2=>og (K6 d2) <| og (isKey true d2 && true) <| ob (Av s i) fun m3=>og (m3.1 == true) <| ob (A8 .add ((AO m3.2 d2).getD (iI 0)) (iI 1)) fun d4=>og (isKey true d2 && true && true) <| ob (Av s i) fun m5=>og (m5.1 == true) <| ob (A8 .add g (iI 1)) fun d6=>KO R i j a b c d e f d6 h o (s.set i (.map true (BC m5.2 d2 d4)))) (oc (R.r MX [((F6 o), .val),(.undef,(.map i)),(.undef,(.map j))] s) fun q7 s7=>ob (dLen a) fun d8=>GL R i j b c d a d8 (iI 0) h s7)):=I5 [3]
theorem Ry:GL R i j a b c d e f g s =
 (ob (A8 .lss f e) fun d1=>D7 d1 (ob (F5 1 d f) fun d2=>og (K6 d2) <| og (isKey true d2 && true) <| ob (Av s i) fun m3=>og (m3.1 == true) <| ob (A8 .sub ((AO m3.2 d2).getD (iI 0)) (iI 1)) fun d4=>og (isKey true d2 && true && true) <| ob (Av s i) fun m5=>og (m5.1 == true) <| ob (A8 .add f (iI 1)) fun d6=>GL R i j a b c d e d6 g (s.set i (.map true (BC m5.2 d2 d4)))) (ob (A8 .add c (iI 1)) fun d7=>KN R i j a b d7 g s)):=I5 [3]
theorem YV (x0:DV) (x1 x2:Nat) (sg:List D8):(run cfg).r MX [(x0, .val),(.undef,(.map x1)),(.undef,(.map x2))] sg=A1k (run cfg) x0 x1 x2 sg:=gz (s:=Gd) Tryz.func105
def fQ:=eP Tryz.f107 cK R [] (F7 Tryz.f107 [(a, .val)] [])
theorem bG:fQ R a =
 (og (C9 3 a) <| ob (R.p Lx [(V9 a)]) fun d1=>ob (I9 0 d1) fun d2=>ob (I9 1 d1) fun d3=>og (C9 3 d2) <| I1 d3 (ob (R.p LD [(V9 d2),(V9 a)]) fun d4=>some d4) sF none):=E8 []
theorem ZE:(run cfg).p TI [a]=fQ (run cfg) a:=N7 Tryz.func107
def A0T:=eP Tryz.f108 yP R [] (F7 Tryz.f108 [(a, .val),(b, .val),(c, .val),(d, .val),(e, .val)] [])
theorem wX:A0T R a b c d e =
 (og (C9 20 a) <| og (C9 3 c) <| og (C9 3 d) <| og (C9 20 e) <| og (I6 (A7 8 a)) <| og (I6 b) <| some (.agg ((iI 16)::(Nb (Xu [(A7 8 a),b,(.list 1 []),(A7 0 c),(A7 1 c),(A7 2 c),(A7 0 d),(A7 1 d),(A7 2 d),(.list 3 []),(.list 7 []),(.list 20 [(F6 e)])]))))):=E8 []
theorem sS:(run cfg).p Da [a,b,c,d,e]=A0T (run cfg) a b c d e:=N7 Tryz.func108
def A3U:=eP Tryz.f109 A2q R [] (F7 Tryz.f109 [(a, .val),(b, .val),(c, .val),(d, .val)] [])
theorem A1Y:A3U R a b c d =
 (og (C9 20 a) <| og (C9 20 d) <| og (I6 b) <| og (I6 c) <| ob (R.r Gh [(pt 0),((F6 a), .val)] [D8.box [(b, .val),(c, .val),((A7 0 d), .val),((A7 1 d), .val),((A7 2 d), .val),((A7 3 d), .val),((A7 4 d), .val),((A7 5 d), .val),((A7 6 d), .val),((A7 7 d), .val),((A7 8 d), .val),((A7 9 d), .val),((A7 10 d), .val),((A7 11 d), .val),((A7 12 d), .val),((A7 13 d), .val),((A7 14 d), .val),((A7 15 d), .val),((A7 16 d), .val),((A7 17 d), .val),((A7 18 d), .val),((A7 19 d), .val)]]) fun q1=>ob (I9 0 (.F3 q1.1)) fun d2=>ob (I9 1 (.F3 q1.1)) fun d3=>og (C9 20 d2) <| ob (O6 .not d3) fun d4=>D7 d4 (some (.F3 [(.agg ((iI 0)::(Cw []))),(iI 8)])) (some (.F3 [(F6 d2),(iI 0)]))):=E8 []
theorem yJ:(run cfg).p nW [a,b,c,d]=A3U (run cfg) a b c d:=N7 Tryz.func109
def vP:=eP Tryz.f110 uG R [] (F7 Tryz.f110 [(a, .val)] [])
theorem rG:vP R a =
 (D7 a (some (.agg ((iI 3)::(Nb ((iI 1)::(.str ⟨#[]⟩)::(iI 0)::(Qs [(.list 20 [])])))))) (some (.agg ((iI 3)::(Cw []))))):=E8 []
theorem lh:(run cfg).p KG [a]=vP (run cfg) a:=N7 Tryz.func110
end
end Go.Su

/-
 Equations of the program's functions: by program.
-/
namespace Go.Su
set_option maxRecDepth 100000
noncomputable section
open Go.Proofs
variable (R:O4) (i j k l m n:Nat) (a b c d e f g h o p q r t u v w x y z A B C D E F G H I J K L M N O P Q S T U V W X Y Z a1 a2 a3 a4 a5 a6 a7 a8 a9 a10 a11 a12 a13 a14 a15 a16 a17 a18 a19 a20 a21 a22 a23 a24 a25 a26 a27 a28 a29 a30 a31 a32 a33 a34 a35 a36 a37 a38 a39 a40 a41 a42 a43 a44 a45 a46 a47 a48 a49 a50 a51 a52 a53 a54 a55 a56 a57 a58 a59:DV) (s:List D8)
def VG:=eR Tryz.f111 EP HV R [] (F7 Tryz.f111 [(pt i),(a, .val),(b, .val)] s)
def Ff:=eR Tryz.f111 EP HV R (pb 31) (ms 141 [(7,a)] [(0,(.ptr i 0))] [(4,bx b 7),(8,bx c 20)] s)
def B_:=eR Tryz.f111 EP HV R (pb 127) (ms 141 [(7,a)] [(0,(.ptr i 0))] [(4,bx b 7),(8,bx c 20)] s)
theorem UB:VG R i a b s =
 (og (C9 7 a) <| og (C9 20 b) <| ob (A8 .eql (A7 0 a) (iI 1)) fun d1=>D7 d1 (some ([(.bool true)],s)) (ob (A8 .eql (A7 0 a) (iI 2)) fun d2=>D7 d2 (ob (M5 s i) fun c3=>ob (FP c3 0) fun d4=>og (I6 (A7 3 a)) <| ob (Be 21 d4 (.list 21 [(.agg [(A7 3 a),(A7 0 b),(A7 1 b),(A7 2 b),(A7 3 b),(A7 4 b),(A7 5 b),(A7 6 b),(A7 7 b),(A7 8 b),(A7 9 b),(A7 10 b),(A7 11 b),(A7 12 b),(A7 13 b),(A7 14 b),(A7 15 b),(A7 16 b),(A7 17 b),(A7 18 b),(A7 19 b)])])) fun d5=>ob (M5 (s.set i (D8.box (c3.set 0 (d4, .val)))) i) fun c6=>ob (c6[0]?) fun u7=>some ([(.bool true)],((s.set i (D8.box (c3.set 0 (d4, .val)))).set i (D8.box (c6.set 0 (d5, .own)))))) (ob (R.r Ng [((F6 b), .val)] s) fun q8=>ob (I9 0 (.F3 q8.1)) fun d9=>ob (I9 1 (.F3 q8.1)) fun d10=>og (C9 20 d10) <| ob (A8 .eql (A7 0 b) (iI 16)) fun d11=>I1 d11 (ob (A8 .eql (A7 14 b) (iI 5)) fun d12=>D7 d12 (some ([(.bool false)],q8.2)) (Ff R i d9 a d10 q8.2)) (Ff R i d9 a d10 q8.2) none))):=E8 [10,23]
theorem Pk:Ff R i a b c s =
 (ob (A8 .eql (A7 0 b) (iI 3)) fun d1=>D7 d1 (ob (A8 .eql (A7 0 c) (iI 2)) fun d2=>I1 d2 (ob (A8 .eql (A7 5 c) (A7 4 b)) fun d3=>some ([d3],s)) (some ([(.bool false)],s)) none) (ob (A8 .eql (A7 0 b) (iI 4)) fun d4=>D7 d4 (ob (A8 .eql (A7 0 c) (iI 3)) fun d5=>I1 d5 (ob (A8 .eql (A7 5 c) (A7 4 b)) fun d6=>some ([d6],s)) (some ([(.bool false)],s)) none) (ob (A8 .eql (A7 0 b) (iI 5)) fun d7=>D7 d7 (ob (A8 .eql (A7 0 c) (iI 4)) fun d8=>I1 d8 (ob (A8 .eql (A7 6 c) (A7 5 b)) fun d9=>some ([d9],s)) (some ([(.bool false)],s)) none) (ob (A8 .eql (A7 0 b) (iI 6)) fun d10=>D7 d10 (ob (A8 .eql (A7 0 c) (iI 5)) fun d11=>some ([d11],s)) (ob (A8 .eql (A7 0 b) (iI 8)) fun d12=>D7 d12 (ob (A8 .eql (A7 0 c) (iI 7)) fun d13=>some ([d13],s)) (ob (A8 .eql (A7 0 b) (iI 7)) fun d14=>I1 d14 (ob (A8 .neq (A7 0 c) (iI 6)) fun d15=>I1 d15 (some ([(.bool false)],s)) (ob (A8 .eql (A7 0 b) (iI 9)) fun d16=>I1 d16 (ob (A8 .neq (A7 0 c) (iI 8)) fun d17=>D7 d17 (some ([(.bool false)],s)) (B_ R i a b c s)) (B_ R i a b c s) none) none) (ob (A8 .eql (A7 0 b) (iI 9)) fun d18 =>
 I1 d18 (ob (A8 .neq (A7 0 c) (iI 8)) fun d19=>D7 d19 (some ([(.bool false)],s)) (B_ R i a b c s)) (B_ R i a b c s) none) none)))))):=E8 [10,23]
theorem Pm:B_ R i a b c s =
 (ob (R.p Nh [a,(F6 c)]) fun d1=>ob (I9 0 d1) fun d2=>ob (I9 1 d1) fun d3=>og (C9 40 d2) <| og (C9 15 d3) <| ob (A8 .neq (A7 0 d3) (iI 0)) fun d4=>D7 d4 (ob (M5 s i) fun c5=>if 1+15<=c5.length then (some ([(.bool false)],(s.set i (D8.box (putAt c5 1 [((A7 0 d3), .val),((A7 1 d3), .val),((A7 2 d3), .val),((A7 3 d3), .val),((A7 4 d3), .val),((A7 5 d3), .val),((A7 6 d3), .val),((A7 7 d3), .val),((A7 8 d3), .val),((A7 9 d3), .val),((A7 10 d3), .val),((A7 11 d3), .val),((A7 12 d3), .val),((A7 13 d3), .val),((A7 14 d3), .val)]))))) else none) (ob (F5 7 (A7 6 b) (iI 0)) fun d6=>oc (R.r BD [(pt i),((IQ d6), .val),((F6 d2), .val)] s) fun q7 s7=>I1 q7 (ob (F5 7 (A7 6 b) (iI 1)) fun d8=>oc (R.r BD [(pt i),((IQ d8), .val),((.agg [(A7 20 d2),(A7 21 d2),(A7 22 d2),(A7 23 d2),(A7 24 d2),(A7 25 d2),(A7 26 d2),(A7 27 d2),(A7 28 d2),(A7 29 d2),(A7 30 d2),(A7 31 d2),(A7 32 d2),(A7 33 d2),(A7 34 d2),(A7 35 d2),(A7 36 d2),(A7 37 d2),(A7 38 d2),(A7 39 d2)]), .val)] s7) fun q9 s9 =>
 some ([q9],s9)) (some ([(.bool false)],s7)) none)):=E8 [10,23]
theorem Sv:(run cfg).r BD [(.undef,(.ptr i 0)),(a, .val),(b, .val)] s=VG (run cfg) i a b s:=gz (s:=EP) Tryz.func111
def A3X:=eP Tryz.f112 jU R [] (F7 Tryz.f112 [(a, .val),(b, .val)] [])
def RU:=hP Tryz.f112 jU R (pb 58) (ms 45 [(29,a),(30,b),(31,c)] [] [(3,bx d 3)] [])
theorem A11:A3X R a b =
 (og (C9 3 a) <| og (C9 3 b) <| ob (A8 .neq (A7 0 a) (A7 0 b)) fun d1=>I1 d1 sF (ob (A8 .neq (A7 1 a) (A7 1 b)) fun d2=>I1 d2 sF (ob (dLen (A7 2 a)) fun d3=>ob (dLen (A7 2 b)) fun d4=>ob (A8 .neq d3 d4) fun d5=>D7 d5 sF (ob (dLen (A7 2 a)) fun d6=>RU R (A7 2 a) d6 (iI 0) b)) none) none):=E8 []
theorem Vx:RU R a b c d =
 (ob (A8 .lss c b) fun d1=>D7 d1 (ob (F5 3 a c) fun d2=>ob (F5 3 (A7 2 d) c) fun d3=>ob (R.p LD [(V9 d2),(V9 d3)]) fun d4=>ob (O6 .not d4) fun d5=>D7 d5 sF (ob (A8 .add c (iI 1)) fun d6=>RU R a b d6 d)) sT):=I5 []
theorem yM:(run cfg).p LD [a,b]=A3X (run cfg) a b:=N7 Tryz.func112
def qU:=eP Tryz.f113 PK R [] (F7 Tryz.f113 [(a, .val)] [])
def Bb:=eP Tryz.f113 PK R (pb 490) (ms 36 [] [] [(1,bx a 3),(2,some zb3),(4,some [(b, .val),((iI 0), .val),((.list 3 []), .own)])] [])
def Jv:=hP Tryz.f113 PK R (pb 3922) (ms 36 [(24,a),(25,b)] [] [(2,some zb3),(4,some [(c, .val),((iI 0), .val),(d, .own)])] [])
theorem ky:qU R a =
 (og (C9 3 a) <| ob (R.p Jc [(V9 a)]) fun d1=>ob (A8 .neq d1 (iI 0)) fun d2=>D7 d2 (some (.F3 [(.agg (Kt [])),(.bool false)])) (og (I6 (A7 0 a)) <| ob (A8 .eql (A7 0 a) (iI 1)) fun d3=>D7 d3 (Bb R a (A7 0 a)) (ob (A8 .eql (A7 0 a) (iI 2)) fun d4=>D7 d4 (Bb R a (A7 0 a)) (ob (A8 .eql (A7 0 a) (iI 3)) fun d5=>D7 d5 (Bb R a (A7 0 a)) (ob (A8 .eql (A7 0 a) (iI 4)) fun d6=>D7 d6 (Bb R a (A7 0 a)) (ob (A8 .eql (A7 0 a) (iI 7)) fun d7=>D7 d7 (Bb R a (A7 0 a)) (ob (A8 .eql (A7 0 a) (iI 8)) fun d8=>D7 d8 (Bb R a (A7 0 a)) (ob (A8 .eql (A7 0 a) (iI 9)) fun d9=>D7 d9 (Bb R a (A7 0 a)) (some (.F3 [(.agg (Kt [])),(.bool false)])))))))))):=E8 [12]
theorem Yw:Bb R a b =
 (ob (dLen (A7 2 a)) fun d1=>Jv R d1 (iI 0) b (.list 3 [])):=E8 [12]
theorem Ny:Jv R a b c d =
 (ob (A8 .lss b a) fun d1=>D7 d1 (ob (Be 3 d (.list 3 [(.agg [(iI 5),(iI 0),(.list 3 [])])])) fun d2=>ob (A8 .add b (iI 1)) fun d3=>Jv R a d3 c d2) (some (.F3 [(.agg [c,(iI 0),d]),(.bool true)]))):=I5 [12]
theorem gV:(run cfg).p Lx [a]=qU (run cfg) a:=N7 Tryz.func113
def A0V:=eP Tryz.f114 yR R [] (F7 Tryz.f114 [(a, .val),(b, .val)] [])
theorem wZ:A0V R a b =
 (og (C9 3 a) <| ob (A8 .eql (A7 0 a) (iI 8)) fun d1=>I1 d1 (ob (A8 .eql b (iI 1)) fun d2=>D7 d2 (some (V9 a)) (ob (F5 3 (A7 2 a) b) fun d3=>some (V9 d3))) (ob (F5 3 (A7 2 a) b) fun d4=>some (V9 d4)) none):=E8 []
theorem sV:(run cfg).p Hl [a,b]=A0V (run cfg) a b:=N7 Tryz.func114
def A09:=eR Tryz.f115 Rf dF R [] (F7 Tryz.f115 [(a, .val),(b, .own)] s)
def Hy:=hR Tryz.f115 Rf dF R (pb 58) (ms 29 [(1,a),(5,b)] [(1, .own)] [(2,bx c 7)] s)
theorem xB:A09 R a b s =
 (og (C9 7 a) <| ob (A8 .eql (A7 0 a) (iI 2)) fun d1=>D7 d1 (og (I6 (A7 3 a)) <| ob (Be 1 b (.list 1 [(A7 3 a)])) fun d2=>Hy R d2 (iI 0) a s) (Hy R b (iI 0) a s)):=E8 []
theorem UK:Hy R a b c s =
 (ob (dLen (A7 6 c)) fun d1=>ob (A8 .lss b d1) fun d2=>D7 d2 (ob (F5 7 (A7 6 c) b) fun d3=>oc (R.r WY [((IQ d3), .val),(a, .own)] s) fun q4 s4=>ob (A8 .add b (iI 1)) fun d5=>Hy R q4 d5 c s4) (some ([a],s))):=I5 []
theorem tK:(run cfg).r WY [(a, .val),(b, .own)] s=A09 (run cfg) a b s:=gz (s:=Rf) Tryz.func115
def A3V:=eP Tryz.f116 Jh R [] (F7 Tryz.f116 [(a, .val)] [])
def ai:=eP Tryz.f116 Jh R (pb 115) (ms 183 [] [] [(1,bx a 20),(3,bx b 13)] [])
def Fw:=eP Tryz.f116 Jh R (pb 463) (ms 183 [] [] [(1,bx a 20),(3,bx b 13)] [])
def KQ:=eP Tryz.f116 Jh R (pb 1855) (ms 183 [] [] [(1,bx a 20),(3,bx b 13)] [])
def Ir:=eP Tryz.f116 Jh R (pb 7423) (ms 183 [] [] [(1,bx a 20),(3,bx b 13)] [])
def RS:=eP Tryz.f116 Jh R (pb 29695) (ms 183 [] [] [(1,bx a 20),(3,bx b 13)] [])
theorem A1Z:A3V R a =
 (og (C9 20 a) <| ob (R.p Oi [(F6 a)]) fun d1=>ob (I9 0 d1) fun d2=>ob (I9 1 d1) fun d3=>og (C9 13 d2) <| ob (O6 .not d3) fun d4=>I1 d4 sF (ob (dLen (A7 19 a)) fun d5=>ob (A8 .neq d5 (A7 12 d2)) fun d6=>I1 d6 sF (ob (R.p TU [(A7 0 d2),(A7 3 a)]) fun d7=>ob (O6 .not d7) fun d8=>I1 d8 sF (ob (R.p TU [(A7 1 d2),(A7 4 a)]) fun d9=>ob (O6 .not d9) fun d10=>I1 d10 sF (ob (R.p TW [(A7 9 d2),(.agg [(A7 11 a),(A7 12 a),(A7 13 a)])]) fun d11=>ob (O6 .not d11) fun d12=>I1 d12 sF (ob (R.p TW [(A7 10 d2),(.agg [(A7 14 a),(A7 15 a),(A7 16 a)])]) fun d13=>ob (O6 .not d13) fun d14=>D7 d14 sF (ai R a d2)) none) none) none) none) none):=E8 [4,6,8,10,12]
theorem sH:ai R a b =
 (ob (O6 .not (A7 2 b)) fun d1=>I1 d1 (ob (A8 .neq (A7 5 a) (iI 0)) fun d2=>I1 d2 sF (ob (A8 .eql (A7 0 a) (iI 3)) fun d3=>I1 d3 (ob (A8 .neq (A7 5 a) (iI 0)) fun d4=>I1 d4 (ob (A8 .neq (A7 5 a) (iI 1)) fun d5=>D7 d5 sF (Fw R a b)) (Fw R a b) none) (Fw R a b) none) none) (ob (A8 .eql (A7 0 a) (iI 3)) fun d6=>I1 d6 (ob (A8 .neq (A7 5 a) (iI 0)) fun d7=>I1 d7 (ob (A8 .neq (A7 5 a) (iI 1)) fun d8=>D7 d8 sF (Fw R a b)) (Fw R a b) none) (Fw R a b) none) none):=E8 [4,6,8,10,12]
theorem sJ:Fw R a b =
 (ob (O6 .not (A7 3 b)) fun d1=>I1 d1 (ob (A8 .neq (A7 6 a) (.str ⟨#[]⟩)) fun d2=>I1 d2 sF (ob (DC (A7 6 a)) fun d3=>ob (A8 .gtr d3 (iI 200)) fun d4=>I1 d4 sF (ob (O6 .not (A7 5 b)) fun d5=>I1 d5 (ob (Vd [.int, .int] (.agg [(A7 1 a),(A7 2 a)]) (.agg [(iI 0),(iI 0)])) fun b6=>D7 (.bool !b6) sF (KQ R a b)) (KQ R a b) none) none) none) (ob (DC (A7 6 a)) fun d7=>ob (A8 .gtr d7 (iI 200)) fun d8=>I1 d8 sF (ob (O6 .not (A7 5 b)) fun d9=>I1 d9 (ob (Vd [.int, .int] (.agg [(A7 1 a),(A7 2 a)]) (.agg [(iI 0),(iI 0)])) fun b10=>D7 (.bool !b10) sF (KQ R a b)) (KQ R a b) none) none) none):=E8 [4,6,8,10,12]
theorem sK:KQ R a b =
 (I1 (A7 4 b) (ob (A8 .lss (A7 7 a) (iI 1)) fun d1=>I1 d1 sF (ob (A8 .gtr (A7 7 a) (iI 7)) fun d2=>I1 d2 sF (ob (O6 .not (A7 4 b)) fun d3=>I1 d3 (ob (A8 .neq (A7 7 a) (iI 0)) fun d4=>D7 d4 sF (Ir R a b)) (Ir R a b) none) none) none) (ob (O6 .not (A7 4 b)) fun d5=>I1 d5 (ob (A8 .neq (A7 7 a) (iI 0)) fun d6=>D7 d6 sF (Ir R a b)) (Ir R a b) none) none):=E8 [4,6,8,10,12]
theorem lN:Ir R a b =
 (ob (O6 .not (A7 11 b)) fun d1=>I1 d1 (ob (A8 .neq (A7 8 a) (iI 0)) fun d2=>I1 d2 sF (I1 (A7 9 a) sF (ob (A8 .lss (A7 8 a) (iI 0)) fun d3=>I1 d3 sF (ob (A8 .gtr (A7 8 a) (iI 1048576)) fun d4=>D7 d4 sF (RS R a b)) none) none) none) (ob (A8 .lss (A7 8 a) (iI 0)) fun d5=>I1 d5 sF (ob (A8 .gtr (A7 8 a) (iI 1048576)) fun d6=>D7 d6 sF (RS R a b)) none) none):=E8 [4,6,8,10,12]
theorem lQ:RS R a b =
 (ob (O6 .not (A7 6 b)) fun d1=>I1 d1 (ob (dLen (A7 10 a)) fun d2=>ob (A8 .gtr d2 (iI 0)) fun d3=>I1 d3 sF (ob (O6 .not (A7 7 b)) fun d4=>I1 d4 (ob (dLen (A7 17 a)) fun d5=>ob (A8 .gtr d5 (iI 0)) fun d6=>I1 d6 sF (ob (O6 .not (A7 8 b)) fun d7=>I1 d7 (ob (dLen (A7 18 a)) fun d8=>ob (A8 .gtr d8 (iI 0)) fun d9=>D7 d9 sF (ob (R.p Db [(F6 a)]) fun d10=>some d10)) (ob (R.p Db [(F6 a)]) fun d11=>some d11) none) none) (ob (O6 .not (A7 8 b)) fun d12=>I1 d12 (ob (dLen (A7 18 a)) fun d13=>ob (A8 .gtr d13 (iI 0)) fun d14=>D7 d14 sF (ob (R.p Db [(F6 a)]) fun d15=>some d15)) (ob (R.p Db [(F6 a)]) fun d16=>some d16) none) none) none) (ob (O6 .not (A7 7 b)) fun d17=>I1 d17 (ob (dLen (A7 17 a)) fun d18=>ob (A8 .gtr d18 (iI 0)) fun d19=>I1 d19 sF (ob (O6 .not (A7 8 b)) fun d20=>I1 d20 (ob (dLen (A7 18 a)) fun d21=>ob (A8 .gtr d21 (iI 0)) fun d22=>D7 d22 sF (ob (R.p Db [(F6 a)]) fun d23 =>
 some d23)) (ob (R.p Db [(F6 a)]) fun d24=>some d24) none) none) (ob (O6 .not (A7 8 b)) fun d25=>I1 d25 (ob (dLen (A7 18 a)) fun d26=>ob (A8 .gtr d26 (iI 0)) fun d27=>D7 d27 sF (ob (R.p Db [(F6 a)]) fun d28=>some d28)) (ob (R.p Db [(F6 a)]) fun d29=>some d29) none) none) none):=E8 [4,6,8,10,12]
theorem yK:(run cfg).p nX [a]=A3V (run cfg) a:=N7 Tryz.func116
def kF:=eP Tryz.f117 Uf R [] (F7 Tryz.f117 [(a, .val),(b, .val)] [])
def Gn:=hP Tryz.f117 Uf R (pb 122) (ms 56 [(1,a),(16,b),(17,c),(18,d)] [(6,(.map 0))] [(2,bx e 3),(4,some zb3)] s)
theorem gL:kF R a b =
 (og (C9 3 a) <| ob (R.p Jc [(V9 a)]) fun d1=>ob (A8 .neq d1 (iI 0)) fun d2=>D7 d2 (some (.F3 [(.agg (Kt [])),(iI 1)])) (ob (dLen b) fun d3=>Gn R b b d3 (iI 0) a [.map false []])):=E8 []
theorem OB:Gn R a b c d e s =
 (ob (A8 .lss d c) fun d1=>D7 d1 (ob (F5 4 b d) fun d2=>ob (A8 .lss (A7 0 d2) (iI 0)) fun d3=>I1 d3 (some (.F3 [(.agg (Kt [])),(iI 1)])) (ob (A8 .gtr (A7 0 d2) (iI 1048576)) fun d4=>I1 d4 (some (.F3 [(.agg (Kt [])),(iI 1)])) (ob (R.p Jc [(.agg [(A7 1 d2),(A7 2 d2),(A7 3 d2)])]) fun d5=>ob (A8 .neq d5 (iI 0)) fun d6=>D7 d6 (some (.F3 [(.agg (Kt [])),(iI 1)])) (og (isKey false (A7 0 d2) && true) <| ob (Av s 0) fun m7=>og (m7.1 == false) <| ob (O6 .not (.bool (AO m7.2 (A7 0 d2)).isSome)) fun d8=>D7 d8 (og (isKey false (A7 0 d2) && true && true) <| ob (Av s 0) fun m9=>og (m9.1 == false) <| ob (A8 .add d (iI 1)) fun d10=>Gn R a b c d10 e (s.set 0 (.map false (BC m9.2 (A7 0 d2) d)))) (ob (A8 .add d (iI 1)) fun d11=>Gn R a b c d11 e s))) none) none) (oc (R.r TR [((V9 e), .val),(a, .val),(.undef,(.map 0))] s) fun q12 s12=>og (C9 3 q12) <| some (.F3 [(.agg [(A7 0 q12),(A7 1 q12),(A7 2 q12)]),(iI 0)]))):=I5 []
theorem bz:(run cfg).p VU [a,b]=kF (run cfg) a b:=N7 Tryz.func117
def A3I:=eP Tryz.f123 Qd R [] (F7 Tryz.f123 [(a, .val),(b, .val)] [])
def vT:=eP Tryz.f123 Qd R (pb 7) (ms 117 [] [] [(2,bx a 16),(3,bx b 16)] [])
def RA:=hP Tryz.f123 Qd R (pb 122) (ms 117 [(5,a)] [] [(2,bx b 16),(3,bx c 16)] [])
def Oq:=hP Tryz.f123 Qd R (pb 250) (ms 117 [(6,a)] [] [(2,bx b 16),(3,bx c 16)] [])
theorem A1M:A3I R a b =
 (og (C9 16 a) <| og (C9 16 b) <| ob (A8 .neq (A7 0 a) (A7 0 b)) fun d1=>I1 d1 sF (ob (A8 .neq (A7 3 a) (A7 3 b)) fun d2=>I1 d2 sF (ob (A8 .neq (A7 4 a) (A7 4 b)) fun d3=>I1 d3 sF (ob (A8 .neq (A7 5 a) (A7 5 b)) fun d4=>I1 d4 sF (ob (A8 .neq (A7 6 a) (A7 6 b)) fun d5=>I1 d5 sF (ob (A8 .neq (A7 7 a) (A7 7 b)) fun d6=>I1 d6 sF (ob (dLen (A7 14 a)) fun d7=>ob (dLen (A7 14 b)) fun d8=>ob (A8 .neq d7 d8) fun d9=>I1 d9 sF (ob (dLen (A7 15 a)) fun d10=>ob (dLen (A7 15 b)) fun d11=>ob (A8 .neq d10 d11) fun d12=>D7 d12 sF (vT R a b)) none) none) none) none) none) none) none):=E8 [3]
theorem rP:vT R a b =
 (ob (R.p Dl [(.agg [(A7 8 a),(A7 9 a),(A7 10 a)]),(.agg [(A7 8 b),(A7 9 b),(A7 10 b)])]) fun d1=>ob (O6 .not d1) fun d2=>I1 d2 sF (ob (R.p Dl [(.agg [(A7 11 a),(A7 12 a),(A7 13 a)]),(.agg [(A7 11 b),(A7 12 b),(A7 13 b)])]) fun d3=>ob (O6 .not d3) fun d4=>D7 d4 sF (RA R (iI 0) a b)) none):=E8 [3]
theorem Vm:RA R a b c =
 (ob (dLen (A7 14 b)) fun d1=>ob (A8 .lss a d1) fun d2=>D7 d2 (ob (F5 7 (A7 14 b) a) fun d3=>ob (F5 7 (A7 14 c) a) fun d4=>ob (R.p Qu [(IQ d3),(IQ d4)]) fun d5=>ob (O6 .not d5) fun d6=>D7 d6 sF (ob (A8 .add a (iI 1)) fun d7=>RA R d7 b c)) (Oq R (iI 0) b c)):=I5 [3]
theorem UJ:Oq R a b c =
 (ob (dLen (A7 15 b)) fun d1=>ob (A8 .lss a d1) fun d2=>D7 d2 (ob (F5 16 (A7 15 b) a) fun d3=>ob (F5 16 (A7 15 c) a) fun d4=>ob (R.p ZU [(A2O d3),(A2O d4)]) fun d5=>ob (O6 .not d5) fun d6=>D7 d6 sF (ob (A8 .add a (iI 1)) fun d7=>Oq R d7 b c)) sT):=I5 [3]
theorem xx:(run cfg).p ZU [a,b]=A3I (run cfg) a b:=N7 Tryz.func123
def A1a:=eP Tryz.f124 dG R [] (F7 Tryz.f124 [(a, .val),(b, .val)] [])
def Ot:=hP Tryz.f124 dG R (pb 58) (ms 30 [(5,a)] [] [(2,bx b 7),(3,bx c 7)] [])
theorem xC:A1a R a b =
 (og (C9 7 a) <| og (C9 7 b) <| ob (Vd [.int, .int] (.agg [(A7 1 a),(A7 2 a)]) (.agg [(A7 1 b),(A7 2 b)])) fun b1=>D7 (.bool !b1) sF (Ot R (iI 0) a b)):=E8 []
theorem UL:Ot R a b c =
 (ob (dLen (A7 6 b)) fun d1=>ob (A8 .lss a d1) fun d2=>D7 d2 (ob (F5 7 (A7 6 b) a) fun d3=>ob (F5 7 (A7 6 c) a) fun d4=>ob (R.p WZ [(IQ d3),(IQ d4)]) fun d5=>ob (O6 .not d5) fun d6=>D7 d6 sF (ob (A8 .add a (iI 1)) fun d7=>Ot R d7 b c)) sT):=I5 []
theorem tL:(run cfg).p WZ [a,b]=A1a (run cfg) a b:=N7 Tryz.func124
def A0Y:=eP Tryz.f125 cu R [] (F7 Tryz.f125 [(a, .val)] [])
def VW:=hP Tryz.f125 cu R (pb 58) (ms 19 [(0,a),(3,b),(4,c)] [] [] [])
theorem wh:A0Y R a =
 (VW R a (iI 0) (iI 0)):=E8 []
theorem UE:VW R a b c =
 (ob (dLen a) fun d1=>ob (A8 .lss c d1) fun d2=>D7 d2 (ob (F5 3 a c) fun d3=>ob (R.p WW [(V9 d3),b]) fun d4=>ob (A8 .add c (iI 1)) fun d5=>VW R a d4 d5) (ob (A8 .gtr b (iI 600)) fun d6=>some d6)):=I5 []
theorem sW:(run cfg).p iZ [a]=A0Y (run cfg) a:=N7 Tryz.func125
end
end Go.Su

/-
 Equations of the program's functions: by program.
-/
namespace Go.Su
set_option maxRecDepth 100000
noncomputable section
open Go.Proofs
variable (R:O4) (i j k l m n:Nat) (a b c d e f g h o p q r t u v w x y z A B C D E F G H I J K L M N O P Q S T U V W X Y Z a1 a2 a3 a4 a5 a6 a7 a8 a9 a10 a11 a12 a13 a14 a15 a16 a17 a18 a19 a20 a21 a22 a23 a24 a25 a26 a27 a28 a29 a30 a31 a32 a33 a34 a35 a36 a37 a38 a39 a40 a41 a42 a43 a44 a45 a46 a47 a48 a49 a50 a51 a52 a53 a54 a55 a56 a57 a58 a59:DV) (s:List D8)
def A3J:=eP Tryz.f126 jQ R [] (F7 Tryz.f126 [(a, .val),(b, .val)] [])
def RB:=hP Tryz.f126 jQ R (pb 58) (ms 23 [(1,a),(5,b)] [] [(2,bx c 3)] [])
theorem A1N:A3J R a b =
 (og (C9 3 a) <| ob (A8 .leq b (iI 0)) fun d1=>D7 d1 sT (RB R b (iI 0) a)):=E8 []
theorem Vo:RB R a b c =
 (ob (dLen (A7 2 c)) fun d1=>ob (A8 .lss b d1) fun d2=>D7 d2 (ob (F5 3 (A7 2 c) b) fun d3=>ob (A8 .sub a (iI 1)) fun d4=>ob (R.p ZV [(V9 d3),d4]) fun d5=>D7 d5 sT (ob (A8 .add b (iI 1)) fun d6=>RB R a d6 c)) sF):=I5 []
theorem xy:(run cfg).p ZV [a,b]=A3J (run cfg) a b:=N7 Tryz.func126
def A3F:=eP Tryz.f127 A2l R [] (F7 Tryz.f127 [(a, .val)] [])
theorem A1J:A3F R a =
 (og (C9 3 a) <| oc (R.r ZT [((V9 a), .val),((.list 1 []), .own)] []) fun q1 s1=>some q1):=E8 []
theorem xq:(run cfg).p nT [a]=A3F (run cfg) a:=N7 Tryz.func127
def A05:=eP Tryz.f128 yX R [] (F7 Tryz.f128 [(a, .val)] [])
theorem ww:A05 R a =
 (ob (A8 .geq a (.int .u8 48)) fun d1=>I1 d1 (ob (A8 .leq a (.int .u8 57)) fun d2=>some d2) sF none):=E8 []
theorem tC:(run cfg).p iq [a]=A05 (run cfg) a:=N7 Tryz.func128
def vV:=eP Tryz.f129 YY R [] (F7 Tryz.f129 [(a, .val),(b, .val),(c, .val)] [])
def EX:=hP Tryz.f129 YY R (pb 58) (ms 48 [(1,a),(2,b),(7,c)] [] [(3,bx d 20)] [])
theorem rT:vV R a b c =
 (og (C9 20 a) <| ob (A8 .eql (A7 0 a) (iI 1)) fun d1=>I1 d1 (ob (A8 .eql (A7 3 a) b) fun d2=>I1 d2 (ob (dLen (A7 17 a)) fun d3=>ob (A8 .neq d3 c) fun d4=>D7 d4 sF (EX R b c (iI 0) a)) (EX R b c (iI 0) a) none) (EX R b c (iI 0) a) none):=E8 []
theorem Ru:EX R a b c d =
 (ob (dLen (A7 19 d)) fun d1=>ob (A8 .lss c d1) fun d2=>D7 d2 (ob (R.p QR [(F6 d),c]) fun d3=>ob (R.p Sb [d3,a]) fun d4=>ob (O6 .not d4) fun d5=>I1 d5 (ob (F5 20 (A7 19 d) c) fun d6=>ob (R.p TN [(F6 d6),a,b]) fun d7=>ob (O6 .not d7) fun d8=>D7 d8 sF (ob (A8 .add c (iI 1)) fun d9=>EX R a b d9 d)) (ob (A8 .add c (iI 1)) fun d10=>EX R a b d10 d) none) sT):=I5 []
theorem lw:(run cfg).p TN [a,b,c]=vV (run cfg) a b c:=N7 Tryz.func129
def kD:=eP Tryz.f130 NT R [] (F7 Tryz.f130 [(a, .val),(b, .val),(c, .val),(d, .val)] [])
def LP:=eP Tryz.f130 NT R (pb 7) (ms 61 [(1,a),(2,b)] [] [(4,bx c 20),(7,bx d 20),(8,some Ja)] [])
def Gm:=hP Tryz.f130 NT R (pb 122) (ms 61 [(1,a),(2,b),(9,c),(10,d)] [(9, .own)] [(4,bx e 20),(7,bx f 20),(8,some Ja)] [])
theorem gJ:kD R a b c d =
 (og (C9 20 a) <| og (C9 20 d) <| ob (A8 .eql (A7 0 a) (iI 1)) fun d1=>I1 d1 (ob (A8 .eql (A7 3 a) b) fun d2=>D7 d2 (ob (R.p iw [c,(A7 17 a)]) fun d3=>ob (R.p QS [(F6 d),d3]) fun d4=>og (C9 20 d4) <| some (F6 d4)) (LP R b c a d)) (LP R b c a d) none):=E8 [3]
theorem Yx:LP R a b c d =
 (Gm R a b (.list 20 []) (iI 0) c d):=E8 [3]
theorem N_:Gm R a b c d e f =
 (ob (dLen (A7 19 e)) fun d1=>ob (A8 .lss d d1) fun d2=>D7 d2 (ob (R.p QR [(F6 e),d]) fun d3=>ob (R.p Sb [d3,a]) fun d4=>D7 d4 (ob (F5 20 (A7 19 e) d) fun d5=>ob (Be 20 c (.list 20 [(F6 d5)])) fun d6=>ob (A8 .add d (iI 1)) fun d7=>Gm R a b d6 d7 e f) (ob (F5 20 (A7 19 e) d) fun d8=>ob (R.p Oh [(F6 d8),a,b,(F6 f)]) fun d9=>og (C9 20 d9) <| ob (Be 20 c (.list 20 [d9])) fun d10=>ob (A8 .add d (iI 1)) fun d11=>Gm R a b d10 d11 e f)) (some (.agg [(A7 0 e),(A7 1 e),(A7 2 e),(A7 3 e),(A7 4 e),(A7 5 e),(A7 6 e),(A7 7 e),(A7 8 e),(A7 9 e),(A7 10 e),(A7 11 e),(A7 12 e),(A7 13 e),(A7 14 e),(A7 15 e),(A7 16 e),(A7 17 e),(A7 18 e),c]))):=I5 [3]
theorem bu:(run cfg).p Oh [a,b,c,d]=kD (run cfg) a b c d:=N7 Tryz.func130
def vY:=eR Tryz.f131 WT uJ R [] (F7 Tryz.f131 [(a, .val)] s)
theorem rY:vY R a s =
 (og (C9 20 a) <| ob (A8 .neq (A7 0 a) (iI 16)) fun d1=>D7 d1 (some ([(F6 a),(.list 20 [])],s)) (ob (F5 20 (A7 19 a) (iI 0)) fun d2=>ob (R.r TP [((F6 d2), .val)] s) fun q3=>ob (I9 0 (.F3 q3.1)) fun d4=>ob (I9 1 (.F3 q3.1)) fun d5=>og (C9 20 d4) <| ob (Be 20 d5 (.list 20 [(F6 a)])) fun d6=>some ([(F6 d4),d6],q3.2))):=E8 []
theorem mE:(run cfg).r TP [(a, .val)] s=vY (run cfg) a s:=gz (s:=WT) Tryz.func131
def A1g:=eP Tryz.f132 Ue R [] (F7 Tryz.f132 [(a, .val),(b, .val)] [])
def KM:=hP Tryz.f132 Ue R (pb 250) (ms 92 [(1,a),(6,b),(7,c),(8,d)] [(6, .own)] [(2,bx e 20),(5,some BV)] [])
def JG:=hP Tryz.f132 Ue R (pb 64074) (ms 92 [(1,a),(6,b),(7,c),(8,d),(10,e)] [(6, .own)] [(2,bx f 20),(5,some BV),(9,bx g 20)] [])
theorem xJ:A1g R a b =
 (og (C9 20 a) <| ob (A8 .eql (A7 0 a) (iI 8)) fun d1=>D7 d1 (KM R b (.list 20 []) (iI 8) (iI 0) a) (KM R b (.list 20 []) (iI 7) (iI 0) a)):=E8 []
theorem NR:KM R a b c d e =
 (ob (A8 .lss d (iI 2)) fun d1=>D7 d1 (ob (F5 20 (A7 19 e) d) fun d2=>JG R a b c d (iI 0) e d2) (some (.F3 [b,(.agg ((iI 0)::(Bh [(iI 0)])))]))):=I5 []
theorem IW:JG R a b c d e f g =
 (ob (dLen a) fun d1=>ob (A8 .lss e d1) fun d2=>D7 d2 (ob (F5 20 a e) fun d3=>ob (A8 .eql (A7 14 d3) (iI 5)) fun d4=>D7 d4 (ob (A8 .add e (iI 1)) fun d5=>JG R a b c d d5 f g) (ob (F5 20 a e) fun d6=>ob (A8 .neq (A7 11 d6) c) fun d7=>I1 d7 (ob (R.p Y9 []) fun d8=>og (C9 15 d8) <| some (.F3 [(.list 20 []),(U8 d8)])) (ob (F5 20 a e) fun d9=>ob (A8 .neq (A7 14 d9) c) fun d10=>D7 d10 (ob (R.p Y9 []) fun d11=>og (C9 15 d11) <| some (.F3 [(.list 20 []),(U8 d11)])) (ob (F5 20 a e) fun d12=>ob (F5 20 a e) fun d13=>ob (R.p Za [(.agg [(A7 11 d13),(A7 12 d13),(A7 13 d13)]),d]) fun d14=>ob (F5 20 a e) fun d15=>ob (R.p Za [(.agg [(A7 14 d15),(A7 15 d15),(A7 16 d15)]),d]) fun d16=>ob (R.p Gw [(F6 d12),d14,d16,(F6 g)]) fun d17=>ob (R.p aT [d17]) fun d18=>ob (I9 0 d18) fun d19=>ob (I9 1 d18) fun d20=>og (C9 20 d19) <| og (C9 15 d20) <| ob (A8 .neq (A7 0 d20) (iI 0)) fun d21=>D7 d21 (some (.F3 [(.list 20 []),(U8 d20)])) (ob (A8 .add e (iI 1)) fun d22 =>
 JG R a b c d d22 f d19))) none)) (ob (Be 20 b (.list 20 [(F6 g)])) fun d23=>ob (A8 .add d (iI 1)) fun d24=>KM R a d23 c d24 f)):=I5 []
theorem tX:(run cfg).p Wd [a,b]=A1g (run cfg) a b:=N7 Tryz.func132
def wB:=eP Tryz.f133 Yb R [] (F7 Tryz.f133 [(a, .val),(b, .val)] [])
def Hz:=eP Tryz.f133 Yb R (pb 51) (ms 50 [(1,a)] [] [(2,bx b 20)] [])
theorem r_:wB R a b =
 (og (C9 20 a) <| ob (A8 .eql (A7 0 a) (iI 9)) fun d1=>D7 d1 (og (I6 (A7 3 a)) <| some (.list 1 [(A7 3 a)])) (ob (A8 .eql (A7 0 a) (iI 11)) fun d2=>I1 d2 (ob (A8 .eql b (iI 1)) fun d3=>D7 d3 (og (I6 (A7 3 a)) <| some (.list 1 [(A7 3 a)])) (ob (A8 .eql (A7 0 a) (iI 12)) fun d4=>I1 d4 (ob (A8 .eql b (iI 1)) fun d5=>D7 d5 (og (I6 (A7 3 a)) <| some (.list 1 [(A7 3 a)])) (Hz R b a)) (Hz R b a) none)) (ob (A8 .eql (A7 0 a) (iI 12)) fun d6=>I1 d6 (ob (A8 .eql b (iI 1)) fun d7=>D7 d7 (og (I6 (A7 3 a)) <| some (.list 1 [(A7 3 a)])) (Hz R b a)) (Hz R b a) none) none)):=E8 [5]
theorem gM:Hz R a b =
 (ob (A8 .eql (A7 0 b) (iI 12)) fun d1=>D7 d1 (og (I6 (A7 3 b)) <| og (I6 (A7 4 b)) <| some (.list 1 [(A7 3 b),(A7 4 b)])) (ob (A8 .eql (A7 0 b) (iI 14)) fun d2=>I1 d2 (ob (A8 .gtr a (iI 0)) fun d3=>D7 d3 (ob (A8 .sub a (iI 1)) fun d4=>ob (F5 7 (A7 18 b) d4) fun d5=>oc (R.r M_ [((IQ d5), .val),((.list 1 []), .own)] []) fun q6 s6=>some q6) (some (.list 1 []))) (some (.list 1 [])) none)):=E8 [5]
theorem mJ:(run cfg).p TS [a,b]=wB (run cfg) a b:=N7 Tryz.func133
def Yq:=eR Tryz.f136 FO JQ R [] (F7 Tryz.f136 [(pt i),(a, .val)] s)
def GM:=hR Tryz.f136 FO JQ R (pb 858) (ms 115 [(6,a),(51,b),(52,c),(53,d)] [(0,(.ptr i 0)),(6, .own)] [(3,bx e 20),(4,some Ja)] s)
def EE:=hR Tryz.f136 FO JQ R (pb 250) (ms 115 [(84,a),(85,b)] [(0,(.ptr i 0)),(9,(.arr j 20 0 k)),(83,(.arr l 20 0 m))] [(3,bx c 20),(4,some Ja)] s)
theorem Cn:Yq R i a s =
 (og (C9 20 a) <| ob (A8 .eql (A7 0 a) (iI 1)) fun d1=>D7 d1 (ob (M5 s i) fun c2=>ob (X5 c2 0) fun d3=>ob (A8 .neq (A7 3 a) d3) fun d4=>D7 d4 (some ([(F6 a),(.bool true)],s)) (ob (dLen (A7 17 a)) fun d5=>ob (M5 s i) fun c6=>ob (X5 c6 1) fun d7=>ob (dLen d7) fun d8=>ob (A8 .neq d5 d8) fun d9=>D7 d9 (some ([(F6 a),(.bool false)],s)) (ob (M5 s i) fun c10=>ob (X5 c10 1) fun d11=>ob (dLen d11) fun d12=>ob (A8 .eql d12 (iI 0)) fun d13=>D7 d13 (ob (M5 s i) fun c14=>ob (CV 2 20 c14) fun e15=>og (C9 20 (.agg e15)) <| some ([(.agg [(A7 0 (.agg e15)),(A7 1 (.agg e15)),(A7 2 (.agg e15)),(A7 3 (.agg e15)),(A7 4 (.agg e15)),(A7 5 (.agg e15)),(A7 6 (.agg e15)),(A7 7 (.agg e15)),(A7 8 (.agg e15)),(A7 9 (.agg e15)),(A7 10 (.agg e15)),(A7 11 (.agg e15)),(A7 12 (.agg e15)),(A7 13 (.agg e15)),(A7 14 (.agg e15)),(A7 15 (.agg e15)),(A7 16 (.agg e15)),(A7 17 (.agg e15)),(A7 18 (.agg e15)),(A7 19 (.agg e15))]),(.bool true)],s)) (ob (M5 s i) fun c16=>ob (X5 c16 1) fun d17=>ob (dLen d17) fun d18 =>
 GM R i (.list 4 []) d17 d18 (iI 0) a s)))) (ob (dLen (A7 19 a)) fun d19=>ob (A8 .eql d19 (iI 0)) fun d20=>D7 d20 (some ([(F6 a),(.bool true)],s)) (ob (Wp (A7 19 a)) fun p21=>og (true && p21.1 == 20 && decide (p21.2.length<=lim)) <| EE R i (s.length) (p21.2.length) (s.length) (p21.2.length) (.int .i64 p21.2.length) (iI 0) a (s++[.arr 20 p21.2])))):=E8 []
theorem Jg:GM R i a b c d e s =
 (ob (A8 .lss d c) fun d1=>D7 d1 (ob (F5 1 b d) fun d2=>og (K6 d2) <| ob (F5 3 (A7 17 e) d) fun d3=>og (I6 d2) <| ob (Be 4 a (.list 4 [(.agg [d2,(A7 0 d3),(A7 1 d3),(A7 2 d3)])])) fun d4=>ob (A8 .add d (iI 1)) fun d5=>GM R i d4 b c d5 e s) (ob (M5 s i) fun c6=>ob (CV 2 20 c6) fun e7=>ob (R.p Nj [(.agg e7),a]) fun d8=>og (C9 20 d8) <| some ([(F6 d8),(.bool true)],s))):=I5 []
theorem Df:EE R i j k l m a b c s =
 (ob (A8 .lss b a) fun d1=>D7 d1 (ob (Am 0 m b) fun n2=>ob (BN s l) fun r3=>ob (r3.2[n2]?) fun d4=>og (r3.1 == 20) <| ob (R.p TS [(F6 c),b]) fun d5=>ob (M5 s i) fun c6=>ob (X5 c6 0) fun d7=>ob (R.p Dv [d5,d7]) fun d8=>D7 d8 (ob (A8 .add b (iI 1)) fun d9=>EE R i j k l m a d9 c s) (ob (R.r Gh [(pt i),((F6 d4), .val)] s) fun Il=>ob (I9 0 (.F3 Il.1)) fun d11=>ob (I9 1 (.F3 Il.1)) fun d12=>og (C9 20 d11) <| ob (O6 .not d12) fun d13=>D7 d13 (some ([(F6 c),(.bool false)],Il.2)) (ob (Am 0 k b) fun n14=>ob (BN Il.2 j) fun r15=>ob (r15.2[n14]?) fun u16=>og (r15.1 == 20) <| ob (A8 .add b (iI 1)) fun d17=>EE R i j k l m a d17 c (Il.2.set j (.arr 20 (r15.2.set n14 (F6 d11))))))) (ob (fB [ob (U0 s [((A7 0 c), .val),((A7 1 c), .val),((A7 2 c), .val),((A7 3 c), .val),((A7 4 c), .val),((A7 5 c), .val),((A7 6 c), .val),((A7 7 c), .val),((A7 8 c), .val),((A7 9 c), .val),((A7 10 c), .val),((A7 11 c), .val),((A7 12 c), .val),((A7 13 c), .val),((A7 14 c), .val),((A7 15 c), .val),((A7 16 c), .val),((A7 17 c), .val),((A7 18 c), .val),(.undef,(.arr j 20 0 k))]) fun ds =>
 some (.agg ds),some (.bool true)]) fun ds=>some (ds,(s.set j (D8.arr 1 []))))):=I5 []
theorem CJ:(run cfg).r Gh [(.undef,(.ptr i 0)),(a, .val)] s=Yq (run cfg) i a s:=gz (s:=FO) Tryz.func136
def A1m:=eP Tryz.f137 yo R [] (F7 Tryz.f137 [(a, .val)] [])
theorem xN:A1m R a =
 (og (C9 3 a) <| ob (R.p Wi [(V9 a)]) fun d1=>ob (O6 .not d1) fun d2=>D7 d2 (some (iI 1)) (some (iI 0))):=E8 []
theorem t_:(run cfg).p Jc [a]=A1m (run cfg) a:=N7 Tryz.func137
def Oy:=eP Tryz.f138 gu R [] (F7 Tryz.f138 [(a, .val)] [])
theorem gP:Oy R a =
 (og (C9 20 a) <| ob (A8 .eql (A7 0 a) (iI 1)) fun d1=>D7 d1 (some (.F3 [(.agg ((.bool true)::(FC ((.bool false)::(.bool false)::(.bool true)::(FC [(iI 0)]))))),(.bool true)])) (ob (A8 .eql (A7 0 a) (iI 2)) fun d2=>D7 d2 (some (.F3 [(.agg ((.bool false)::(.bool false)::(.bool true)::(FC (FC [(.bool false),(iI 0)])))),(.bool true)])) (ob (A8 .eql (A7 0 a) (iI 3)) fun d3=>D7 d3 (some (.F3 [(.agg ((.bool false)::(.bool false)::(.bool true)::(FC (FC [(.bool false),(iI 0)])))),(.bool true)])) (ob (A8 .eql (A7 0 a) (iI 4)) fun d4=>D7 d4 (some (.F3 [(.agg ((.bool false)::(.bool false)::(.bool false)::(.bool true)::(FC (FC [(iI 0)])))),(.bool true)])) (ob (A8 .eql (A7 0 a) (iI 5)) fun d5 =>
 D7 d5 (some (.F3 [(.agg (FC (FC (FC [(iI 0)])))),(.bool true)])) (ob (A8 .eql (A7 0 a) (iI 7)) fun d6=>D7 d6 (some (.F3 [(.agg (FC (FC [(.bool false),(.bool true),(.bool false),(.bool false),(iI 0)]))),(.bool true)])) (ob (A8 .eql (A7 0 a) (iI 6)) fun d7=>D7 d7 (some (.F3 [(.agg (FC (FC (FC [(iI 2)])))),(.bool true)])) (ob (A8 .eql (A7 0 a) (iI 8)) fun d8=>D7 d8 (some (.F3 [(.agg (FC (FC (FC [(iI 2)])))),(.bool true)])) (ob (A8 .eql (A7 0 a) (iI 10)) fun d9=>D7 d9 (some (.F3 [(.agg (FC (FC (FC [(iI 2)])))),(.bool true)])) (ob (A8 .eql (A7 0 a) (iI 9)) fun d10 =>
 D7 d10 (some (.F3 [(.agg ((.bool true)::(FC (FC [(.bool true),(.bool false),(.bool false),(iI 1)])))),(.bool true)])) (ob (A8 .eql (A7 0 a) (iI 11)) fun d11=>D7 d11 (some (.F3 [(.agg ((.bool true)::(FC ((.bool false)::(.bool true)::(FC [(.bool false),(iI 2)]))))),(.bool true)])) (ob (A8 .eql (A7 0 a) (iI 12)) fun d12=>D7 d12 (some (.F3 [(.agg ((.bool true)::(.bool true)::(FC [(.bool true),(.bool false),(.bool false),(.bool true),(.bool true),(.bool false),(iI 2)]))),(.bool true)])) (ob (A8 .eql (A7 0 a) (iI 13)) fun d13=>D7 d13 (some (.F3 [(.agg (FC (FC (FC [(iI 3)])))),(.bool true)])) (ob (A8 .eql (A7 0 a) (iI 14)) fun d14=>D7 d14 (ob (dLen (A7 18 a)) fun d15 =>
 ob (A8 .add d15 (iI 1)) fun d16=>og (I6 d16) <| ob (dLen (A7 18 a)) fun d17=>ob (A8 .gtr d17 (iI 0)) fun d18=>some (.F3 [(.agg (FC [(.bool false),(.bool true),(.bool false),(.bool false),(.bool true),(.bool false),(.bool false),(.bool false),d16])),d18])) (ob (A8 .eql (A7 0 a) (iI 15)) fun d19=>D7 d19 (some (.F3 [(.agg (FC ((.bool true)::(.bool true)::(FC [(.bool false),(.bool false),(iI 2)])))),(.bool true)])) (ob (A8 .eql (A7 0 a) (iI 16)) fun d20=>D7 d20 (some (.F3 [(.agg (FC (FC [(.bool false),(.bool true),(.bool true),(.bool true),(iI 1)]))),(.bool true)])) (some (.F3 [(.agg (FC (FC (FC [(iI 0)])))),(.bool false)])))))))))))))))))):=E8 []
theorem cB:(run cfg).p Oi [a]=Oy (run cfg) a:=N7 Tryz.func138
theorem A0P (x0:DV) {d:DV} (h:Oy (run cfg) x0=some d):(run cfg).p Oi [x0]=some d:=(cB x0).trans h
def wD:=eP Tryz.f139 uL R [] (F7 Tryz.f139 [(a, .val),(b, .val)] [])
theorem sG:wD R a b =
 (D7 a (ob (R.p Wj [b]) fun d1=>some d1) (ob (A8 .eql b (.str ⟨#[]⟩)) fun d2=>some d2)):=E8 []
theorem mM:(run cfg).p TU [a,b]=wD (run cfg) a b:=N7 Tryz.func139
def wF:=eP Tryz.f140 uM R [] (F7 Tryz.f140 [(a, .val),(b, .val)] [])
theorem sN:wF R a b =
 (og (C9 3 b) <| D7 a (ob (R.p Jc [(V9 b)]) fun d1=>ob (A8 .eql d1 (iI 0)) fun d2=>some d2) (ob (R.p i_ [(V9 b)]) fun d3=>some d3)):=E8 []
theorem mP:(run cfg).p TW [a,b]=wF (run cfg) a b:=N7 Tryz.func140
def wC:=eP Tryz.f141 MJ R [] (F7 Tryz.f141 [(a, .val)] [])
def NG:=hP Tryz.f141 MJ R (pb 26) (ms 45 [(10,a),(11,b),(12,c)] [] [(1,bx d 20)] [])
def NH:=hP Tryz.f141 MJ R (pb 58) (ms 45 [(24,a),(25,b),(26,c)] [] [(1,bx d 20)] [])
def LX:=hP Tryz.f141 MJ R (pb 122) (ms 45 [(35,a),(36,b),(37,c)] [] [] [])
theorem sD:wC R a =
 (og (C9 20 a) <| ob (dLen (A7 10 a)) fun d1=>NG R (A7 10 a) d1 (iI 0) a):=E8 []
theorem Rz:NG R a b c d =
 (ob (A8 .lss c b) fun d1=>D7 d1 (ob (F5 1 a c) fun d2=>og (K6 d2) <| ob (A8 .lss d2 (iI 0)) fun d3=>I1 d3 sF (ob (A8 .gtr d2 (iI 1048576)) fun d4=>D7 d4 sF (ob (A8 .add c (iI 1)) fun d5=>NG R a b d5 d)) none) (ob (dLen (A7 17 d)) fun d6=>NH R (A7 17 d) d6 (iI 0) d)):=I5 []
theorem R_:NH R a b c d =
 (ob (A8 .lss c b) fun d1=>D7 d1 (ob (F5 3 a c) fun d2=>ob (R.p Jc [(V9 d2)]) fun d3=>ob (A8 .neq d3 (iI 0)) fun d4=>D7 d4 sF (ob (A8 .add c (iI 1)) fun d5=>NH R a b d5 d)) (ob (dLen (A7 18 d)) fun d6=>LX R (A7 18 d) d6 (iI 0))):=I5 []
theorem QI:LX R a b c =
 (ob (A8 .lss c b) fun d1=>D7 d1 (ob (F5 7 a c) fun d2=>ob (R.p TY [(IQ d2)]) fun d3=>ob (A8 .neq d3 (iI 0)) fun d4=>D7 d4 sF (ob (A8 .add c (iI 1)) fun d5=>LX R a b d5)) sT):=I5 []
theorem mK:(run cfg).p Db [a]=wC (run cfg) a:=N7 Tryz.func141
end
end Go.Su

/-
 Equations of the program's functions: by program.
-/
namespace Go.Su
noncomputable section
open Go.Proofs
variable (R:O4) (i j k l m n:Nat) (a b c d e f g h o p q r t u v w x y z A B C D E F G H I J K L M N O P Q S T U V W X Y Z a1 a2 a3 a4 a5 a6 a7 a8 a9 a10 a11 a12 a13 a14 a15 a16 a17 a18 a19 a20 a21 a22 a23 a24 a25 a26 a27 a28 a29 a30 a31 a32 a33 a34 a35 a36 a37 a38 a39 a40 a41 a42 a43 a44 a45 a46 a47 a48 a49 a50 a51 a52 a53 a54 a55 a56 a57 a58 a59:DV) (s:List D8)
def vo (R:O4) (x0 x1:DV) (x2:Nat) (sg:List D8):Option (List DV × List D8):=eR Tryz.f142 Pf Ya R [] (F7 Tryz.f142 [(x0, .val),(x1, .val),(.undef,(.map x2))] sg)
def LW (R:O4) (t1:DV) (t2i:Nat) (t38 t39 t40 b9_0 b9_2:DV) (sg:List D8):Option (List DV × List D8):=hR Tryz.f142 Pf Ya R (pb 250) (ms 55 [(1,t1),(38,t38),(39,t39),(40,t40)] [(2,(.map t2i))] [(6,some zb3),(9,some [(b9_0, .val),((iI 0), .val),(b9_2, .own)])] sg)
theorem rq (R:O4) (x0 x1:DV) (x2:Nat) (sg:List D8):vo R x0 x1 x2 sg =
 (og (C9 3 x0) <| ob (A8 .eql (A7 0 x0) (iI 6)) fun d1=>D7 d1 (og (isKey false (A7 1 x0) && true) <| ob (Av sg x2) fun m2=>og (m2.1 == false) <| D7 (.bool (AO m2.2 (A7 1 x0)).isSome) (ob (F5 4 x1 ((AO m2.2 (A7 1 x0)).getD (iI 0))) fun d3=>some ([(.agg [(A7 1 d3),(A7 2 d3),(A7 3 d3)])],sg)) (some ([(V9 x0)],sg))) (ob (dLen (A7 2 x0)) fun d4=>ob (A8 .eql d4 (iI 0)) fun d5=>D7 d5 (some ([(V9 x0)],sg)) (og (I6 (A7 0 x0)) <| ob (dLen (A7 2 x0)) fun d6=>LW R x1 x2 (A7 2 x0) d6 (iI 0) (A7 0 x0) (.list 3 []) sg))):=E8 []
theorem QH (R:O4) (t1:DV) (t2i:Nat) (t38 t39 t40 b9_0 b9_2:DV) (sg:List D8):LW R t1 t2i t38 t39 t40 b9_0 b9_2 sg =
 (ob (A8 .lss t40 t39) fun d1=>D7 d1 (ob (F5 3 t38 t40) fun d2=>oc (R.r TR [((V9 d2), .val),(t1, .val),(.undef,(.map t2i))] sg) fun q3 s3=>og (C9 3 q3) <| ob (Be 3 b9_2 (.list 3 [q3])) fun d4=>ob (A8 .add t40 (iI 1)) fun d5=>LW R t1 t2i t38 t39 d5 b9_0 d4 s3) (some ([(.agg [b9_0,(iI 0),b9_2])],sg))):=I5 []
theorem mH (x0 x1:DV) (x2:Nat) (sg:List D8):(run cfg).r TR [(x0, .val),(x1, .val),(.undef,(.map x2))] sg=vo (run cfg) x0 x1 x2 sg:=gz (s:=Pf) Tryz.func142
def ME:=eP Tryz.f144 Ky R [] (F7 Tryz.f144 [(a, .val),(b, .val)] [])
theorem Kw:ME R a b =
 (ob (R.p Im [a,b]) fun d1=>ob (A8 .geq d1 (iI 0)) fun d2=>some d2):=E8 []
theorem KZ:(run cfg).p GY [a,b]=ME (run cfg) a b:=N7 Tryz.func144
def XQ:Code:=Tryz.f145.body.getD .skip
def fZ:=eP Tryz.f145 FV R [] (F7 Tryz.f145 [(a, .val)] [])
def XL:=eP Tryz.f145 FV R (pb 58) (ms 32 [(0,a),(4,(.F3 [])),(6,b),(8,(.F3 [])),(9,(.F3 [])),(10,(.F3 [])),(11,(.F3 [])),(12,(.F3 [])),(13,(.F3 [])),(14,(.F3 [])),(15,(.F3 [])),(16,(.F3 [])),(17,(.F3 [])),(18,(.F3 [])),(19,(.F3 [])),(20,(.F3 [])),(21,(.F3 [])),(22,(.F3 [])),(23,(.F3 [])),(24,(.F3 [])),(25,(.F3 [])),(26,(.F3 [])),(27,(.F3 [])),(28,(.F3 [])),(29,(.F3 [])),(30,(.F3 [])),(31,(.F3 []))] [(1,(.ptr 0 0)),(2,(.ptr 1 0)),(3,(.ptr 3 0)),(5,(.map 2)),(7,(.fn 193 [(4,0)]))] [] s)
def Qo:Code:=match (sub [true,true,false,true,false] XQ []).1 with
 | .rangeFunc _ _ a b => .seq a b
 | c=>c
def AU (R:O4) (t0 t6:DV) (o:Out) (sg:List D8):Option DV:=zP cfg R FV (SY cfg.P Tryz.f145) [true,true,false,true,false] XQ o (AB ⟨spread .undef 32 0 [(0,t0),(4,(.F3 [])),(6,t6),(8,(.F3 [])),(9,(.F3 [])),(10,(.F3 [])),(11,(.F3 [])),(12,(.F3 [])),(13,(.F3 [])),(14,(.F3 [])),(15,(.F3 [])),(16,(.F3 [])),(17,(.F3 [])),(18,(.F3 [])),(19,(.F3 [])),(20,(.F3 [])),(21,(.F3 [])),(22,(.F3 [])),(23,(.F3 [])),(24,(.F3 [])),(25,(.F3 [])),(26,(.F3 [])),(27,(.F3 [])),(28,(.F3 [])),(29,(.F3 [])),(30,(.F3 [])),(31,(.F3 []))],spread .val 32 0 [(1,(.ptr 0 0)),(2,(.ptr 1 0)),(3,(.ptr 3 0)),(5,(.map 2)),(7,(.fn 193 [(4,0)]))],spread none 32 0 [],[]⟩ sg)
def Nc (R:O4) (t0 t6:DV) (I:List D8->Option DV) (x:DV) (sg:List D8):Option DV:=Qb cfg R FV (kr I (AU R t0 t6)) [] Qo (mst 32 [(8,x)] [(2,(.ptr 1 0)),(3,(.ptr 3 0))] [] sg)
def EB (R:O4) (t0 t6:DV):List DV->List D8->Option DV:=MM (fun x I sg=>Nc R t0 t6 I x sg) (AU R t0 t6 .normal)
def Py (R:O4) (t0 t6:DV) (I:List D8->Option DV) (b4:DV) (sg:List D8):Option DV:=Qb cfg R FV (kr I (AU R t0 t6)) (pb 13) Qo (ms 32 [] [(3,(.ptr 3 0))] [(4,bx b4 7)] sg)
theorem bU:fZ R a =
 (og (C9 7 a) <| XL R a (IQ a) [D8.box [((A7 0 a), .val),((A7 1 a), .val),((A7 2 a), .val),((A7 3 a), .val),((A7 4 a), .val),((A7 5 a), .val),((A7 6 a), .val)],D8.box [((iI 0), .val)], .map true [],D8.box [(.undef,(.map 2))],D8.box [((A7 0 a), .val),((A7 1 a), .val),((A7 2 a), .val),((A7 3 a), .val),((A7 4 a), .val),((A7 5 a), .val),((A7 6 a), .val)]]):=E8 [6]
theorem VJ:XL R a b s =
 ob (M5 s 4) fun cs=>ob (BQ cs) fun cd=>ob (Rb 7 6 cd) fun ds=>EB R a b ds (s.set 4 (.arr 1 [])):=(B8w (t:=7) (f:=193) (i:=4) (q:=8) (it:=Rb 7 6) (by kernel_rfl) (by kernel_rfl) (by kernel_rfl) (by kernel_rfl)).trans (by kernel_rfl)
theorem QU (R:O4) (t0 t6:DV) (sg:List D8):EB R t0 t6 [] sg=AU R t0 t6 .normal sg:=rfl
theorem Ph (R:O4) (t0 t6 x:DV) (ds:List DV) (sg:List D8):EB R t0 t6 (x::ds) sg=Nc R t0 t6 (EB R t0 t6 ds) x sg:=rfl
theorem Sr (R:O4) (t0 t6:DV) (I:List D8->Option DV) (x:DV) (sg:List D8):Nc R t0 t6 I x sg=(og (C9 7 x) <| ob (R.p Xz [(IQ x)]) fun d1=>ob (O6 .not d1) fun d2=>I1 d2 (ob (M5 sg 1) fun c3=>ob (c3[0]?) fun u4=>AU R t0 t6 .ret (sg.set 1 (D8.box (c3.set 0 ((iI 1), .val))))) (ob (A8 .eql (A7 0 x) (iI 2)) fun d5=>I1 d5 (ob (M5 sg 3) fun c6=>ob (Sk c6 0) fun i7=>og (isKey true (A7 3 x) && true) <| ob (Av sg i7) fun m8 =>
 og (m8.1 == true) <| ob (A8 .gtr ((AO m8.2 (A7 3 x)).getD (iI 0)) (iI 0)) fun d9=>D7 d9 (ob (M5 sg 1) fun c10=>ob (c10[0]?) fun u11=>AU R t0 t6 .ret (sg.set 1 (D8.box (c10.set 0 ((iI 1), .val))))) (Py R t0 t6 I x sg)) (Py R t0 t6 I x sg) none) none):=E8 [6]
theorem KY:AU R a b .normal s =
 (ob (M5 s 1) fun c1=>ob (c1[0]?) fun u2=>B6x (ob (M5 (s.set 1 (D8.box (c1.set 0 ((iI 0), .val)))) 1) fun c=>oneCell (s.set 1 (D8.box (c1.set 0 ((iI 0), .val)))) c)):=B1n [6] (by kernel_rfl)
theorem NM:AU R a b .ret s=(B6x (ob (M5 s 1) fun c=>oneCell s c)):=B1n [6] (by kernel_rfl)
theorem XZ (R:O4) (t0 t6:DV) (I:List D8->Option DV) (b4:DV) (sg:List D8):Py R t0 t6 I b4 sg=(ob (A8 .eql (A7 0 b4) (iI 2)) fun d1=>D7 d1 (ob (M5 sg 3) fun c2=>ob (Sk c2 0) fun i3=>og (isKey true (A7 3 b4) && true) <| ob (Av sg i3) fun m4=>og (m4.1 == true) <| ob (A8 .add ((AO m4.2 (A7 3 b4)).getD (iI 0)) (iI 1)) fun d5=>og (isKey true (A7 3 b4) && true && true) <| ob (Av sg i3) fun m6=>og (m6.1 == true) <| I (sg.set i3 (.map true (BC m6.2 (A7 3 b4) d5)))) (I sg)):=E8 [6]
theorem ZH:(run cfg).p TY [a]=fZ (run cfg) a:=N7 Tryz.func145
def qW:=eP Tryz.f148 V_ R [] (F7 Tryz.f148 [(a, .val),(b, .val)] [])
def LM:=hP Tryz.f148 V_ R (pb 58) (ms 60 [(5,a)] [] [(2,bx b 7),(3,bx c 7)] [])
set_option maxRecDepth 100000 in
theorem k_:qW R a b =
 (og (C9 7 a) <| og (C9 7 b) <| ob (A8 .neq (A7 0 a) (A7 0 b)) fun d1=>I1 d1 sF (ob (A8 .neq (A7 3 a) (A7 3 b)) fun d2=>I1 d2 sF (ob (A8 .neq (A7 4 a) (A7 4 b)) fun d3=>I1 d3 sF (ob (A8 .neq (A7 5 a) (A7 5 b)) fun d4=>I1 d4 sF (ob (dLen (A7 6 a)) fun d5=>ob (dLen (A7 6 b)) fun d6=>ob (A8 .neq d5 d6) fun d7=>D7 d7 sF (LM R (iI 0) a b)) none) none) none) none):=E8 []
theorem QD:LM R a b c =
 (ob (dLen (A7 6 b)) fun d1=>ob (A8 .lss a d1) fun d2=>D7 d2 (ob (F5 7 (A7 6 b) a) fun d3=>ob (F5 7 (A7 6 c) a) fun d4=>ob (R.p Qu [(IQ d3),(IQ d4)]) fun d5=>ob (O6 .not d5) fun d6=>D7 d6 sF (ob (A8 .add a (iI 1)) fun d7=>LM R d7 b c)) sT):=I5 []
theorem gX:(run cfg).p Qu [a,b]=qW (run cfg) a b:=N7 Tryz.func148
def A0Z:=eP Tryz.f149 dA R [] (F7 Tryz.f149 [(a, .val),(b, .val)] [])
def KJ:=hP Tryz.f149 dA R (pb 58) (ms 27 [(1,a),(5,b)] [] [(2,bx c 3)] [])
theorem wm:A0Z R a b =
 (og (C9 3 a) <| ob (A8 .add b (iI 1)) fun d1=>KJ R d1 (iI 0) a):=E8 []
theorem UF:KJ R a b c =
 (ob (dLen (A7 2 c)) fun d1=>ob (A8 .lss b d1) fun d2=>I1 d2 (ob (A8 .leq a (iI 600)) fun d3=>D7 d3 (ob (F5 3 (A7 2 c) b) fun d4=>ob (R.p WW [(V9 d4),a]) fun d5=>ob (A8 .add b (iI 1)) fun d6=>KJ R d5 d6 c) (some a)) (some a) none):=I5 []
theorem sZ:(run cfg).p WW [a,b]=A0Z (run cfg) a b:=N7 Tryz.func149
def A3G:=eR Tryz.f150 OY Wt R [] (F7 Tryz.f150 [(a, .val),(b, .own)] s)
def Tf:=eR Tryz.f150 OY Wt R (pb 7) (ms 36 [(1,a)] [(1, .own)] [(2,bx b 3)] s)
def MB:=hR Tryz.f150 OY Wt R (pb 58) (ms 36 [(1,a),(5,b)] [(1, .own)] [(2,bx c 3)] s)
theorem A1K:A3G R a b s =
 (og (C9 3 a) <| ob (A8 .eql (A7 0 a) (iI 6)) fun d1=>I1 d1 (ob (R.p nR [b,(A7 1 a)]) fun d2=>ob (O6 .not d2) fun d3=>D7 d3 (og (I6 (A7 1 a)) <| ob (Be 1 b (.list 1 [(A7 1 a)])) fun d4=>Tf R d4 a s) (Tf R b a s)) (Tf R b a s) none):=E8 [3]
theorem RX:Tf R a b s =
 (MB R a (iI 0) b s):=E8 [3]
theorem Vk:MB R a b c s =
 (ob (dLen (A7 2 c)) fun d1=>ob (A8 .lss b d1) fun d2=>D7 d2 (ob (F5 3 (A7 2 c) b) fun d3=>oc (R.r ZT [((V9 d3), .val),(a, .own)] s) fun q4 s4=>ob (A8 .add b (iI 1)) fun d5=>MB R q4 d5 c s4) (some ([a],s))):=I5 [3]
theorem xu:(run cfg).r ZT [(a, .val),(b, .own)] s=A3G (run cfg) a b s:=gz (s:=OY) Tryz.func150
def A1e:=eP Tryz.f151 OG R [] (F7 Tryz.f151 [(a, .val),(b, .val)] [])
def RF:=eP Tryz.f151 OG R (pb 15) (ms 81 [(1,a),(5,b),(6,c)] [] [(2,bx d 20),(4,some Ja)] [])
def Ow:=hP Tryz.f151 OG R (pb 506) (ms 81 [(1,a),(5,b),(7,c),(8,d)] [(7, .own)] [(2,bv [e,f,g,h,o,p,q,r,t,u,v,w,x,y,z,A,B,C,D,E]),(4,some Ja)] [])
def JF:=hP Tryz.f151 OG R (pb 2042) (ms 81 [(1,a),(5,b),(7,c),(9,d),(10,e)] [(9, .own)] [(2,bv [f,g,h,o,p,q,r,t,u,v,w,x,y,z,A,B,C,D,E,F]),(4,some Ja)] [])
theorem xG:A1e R a b =
 (og (C9 20 a) <| ob (R.p Xx [b,(A7 10 a)]) fun d1=>ob (A8 .eql (A7 0 a) (iI 12)) fun d2=>D7 d2 (RF R b d1 d1 a) (RF R b d1 b a)):=E8 [4]
theorem lD:RF R a b c d =
 (ob (R.p XJ [(.agg [(A7 11 d),(A7 12 d),(A7 13 d)]),c]) fun d1=>ob (R.p XJ [(.agg [(A7 14 d),(A7 15 d),(A7 16 d)]),c]) fun d2=>og (C9 3 d1) <| og (C9 3 d2) <| Ow R a b (.list 3 []) (iI 0) (A7 0 d) (A7 1 d) (A7 2 d) (A7 3 d) (A7 4 d) (A7 5 d) (A7 6 d) (A7 7 d) (A7 8 d) (A7 9 d) (A7 10 d) (A7 0 d1) (A7 1 d1) (A7 2 d1) (A7 0 d2) (A7 1 d2) (A7 2 d2) (A7 17 d) (A7 18 d) (A7 19 d)):=E8 [4]
theorem UO:Ow R a b c d e f g h o p q r t u v w x y z A B C D E =
 (ob (dLen C) fun d1=>ob (A8 .lss d d1) fun d2=>D7 d2 (ob (F5 3 C d) fun d3=>ob (R.p XJ [(V9 d3),a]) fun d4=>og (C9 3 d4) <| ob (Be 3 c (.list 3 [d4])) fun d5=>ob (A8 .add d (iI 1)) fun d6=>Ow R a b d5 d6 e f g h o p q r t u v w x y z A B C D E) (JF R a b c (.list 20 []) (iI 0) e f g h o p q r t u v w x y z A B C D E)):=I5 [4]
theorem Rt:JF R a b c d e f g h o p q r t u v w x y z A B C D E F =
 (ob (dLen F) fun d1=>ob (A8 .lss e d1) fun d2=>D7 d2 (ob (A8 .eql e (iI 0)) fun d3=>D7 d3 (ob (F5 20 F e) fun d4=>ob (R.p QS [(F6 d4),b]) fun d5=>og (C9 20 d5) <| ob (Be 20 d (.list 20 [d5])) fun d6=>ob (A8 .add e (iI 1)) fun d7=>JF R a b c d6 d7 f g h o p q r t u v w x y z A B C D E F) (ob (F5 20 F e) fun d8=>ob (R.p QS [(F6 d8),a]) fun d9=>og (C9 20 d9) <| ob (Be 20 d (.list 20 [d9])) fun d10=>ob (A8 .add e (iI 1)) fun d11=>JF R a b c d10 d11 f g h o p q r t u v w x y z A B C D E F)) (og (I6 c) <| some (.agg [f,g,h,o,p,q,r,t,u,v,w,x,y,z,A,B,C,c,E,d]))):=I5 [4]
theorem tT:(run cfg).p QS [a,b]=A1e (run cfg) a b:=N7 Tryz.func151
def A1b:=eP Tryz.f152 dH R [] (F7 Tryz.f152 [(a, .val),(b, .val)] [])
def Ou:=hP Tryz.f152 dH R (pb 58) (ms 26 [(0,a),(1,b),(5,c),(6,d)] [(5, .own)] [] [])
theorem xD:A1b R a b =
 (Ou R a b (.list 4 []) (iI 0)):=E8 []
theorem UM:Ou R a b c d =
 (ob (dLen a) fun d1=>ob (A8 .lss d d1) fun d2=>D7 d2 (ob (F5 1 a d) fun d3=>og (K6 d3) <| ob (F5 3 b d) fun d4=>og (I6 d3) <| ob (Be 4 c (.list 4 [(.agg [d3,(A7 0 d4),(A7 1 d4),(A7 2 d4)])])) fun d5=>ob (A8 .add d (iI 1)) fun d6=>Ou R a b d5 d6) (some c)):=I5 []
theorem tN:(run cfg).p iw [a,b]=A1b (run cfg) a b:=N7 Tryz.func152
def ve:=eP Tryz.f153 YZ R [] (F7 Tryz.f153 [(a, .val)] [])
def NF:=hP Tryz.f153 YZ R (pb 12) (ms 22 [] [] [(1,bx a 20),(2,some Ja),(3,some BV)] [])
theorem rf:ve R a =
 (og (C9 20 a) <| NF R a):=E8 []
theorem Rx:NF R a =
 (ob (R.p Dm [(F6 a)]) fun d1=>ob (O6 .not d1) fun d2=>D7 d2 (ob (R.p EU [(F6 a)]) fun d3=>ob (I9 0 d3) fun d4=>ob (I9 1 d3) fun d5=>og (C9 20 d4) <| og (C9 15 d5) <| ob (A8 .neq (A7 0 d5) (iI 0)) fun d6=>D7 d6 (some (.F3 [(F6 d4),(U8 d5)])) (NF R d4)) (some (.F3 [(F6 a),(.agg ((iI 0)::(Bh [(iI 0)])))]))):=I5 []
theorem mG:(run cfg).p aT [a]=ve (run cfg) a:=N7 Tryz.func153
def A3S:=eP Tryz.f154 A2o R [] (F7 Tryz.f154 [(a, .val),(b, .val)] [])
theorem A1W:A3S R a b =
 (og (C9 3 a) <| ob (A8 .eql (A7 0 a) (iI 8)) fun d1=>I1 d1 (ob (A8 .eql b (iI 1)) fun d2=>D7 d2 (some (V9 a)) (ob (F5 3 (A7 2 a) b) fun d3=>some (V9 d3))) (ob (F5 3 (A7 2 a) b) fun d4=>some (V9 d4)) none):=E8 []
theorem yG:(run cfg).p Za [a,b]=A3S (run cfg) a b:=N7 Tryz.func154
def fV:=eR Tryz.f155 KF SI R [] (F7 Tryz.f155 [(a, .val),(b, .own)] s)
def ED:=hR Tryz.f155 KF SI R (pb 58) (ms 27 [(1,a),(16,b),(17,c),(18,d)] [(1, .own)] [] s)
theorem bS:fV R a b s =
 (og (C9 7 a) <| ob (A8 .eql (A7 0 a) (iI 2)) fun d1=>D7 d1 (og (I6 (A7 3 a)) <| ob (Be 1 b (.list 1 [(A7 3 a)])) fun d2=>ob (dLen (A7 6 a)) fun d3=>ED R d2 (A7 6 a) d3 (iI 0) s) (ob (dLen (A7 6 a)) fun d4=>ED R b (A7 6 a) d4 (iI 0) s)):=E8 []
theorem Mq:ED R a b c d s =
 (ob (A8 .lss d c) fun d1=>D7 d1 (ob (F5 7 b d) fun d2=>oc (R.r M_ [((IQ d2), .val),(a, .own)] s) fun q3 s3=>ob (A8 .add d (iI 1)) fun d4=>ED R q3 b c d4 s3) (some ([a],s))):=I5 []
theorem ZG:(run cfg).r M_ [(a, .val),(b, .own)] s=fV (run cfg) a b s:=gz (s:=KF) Tryz.func155
end
end Go.Su

/-
 Equations of the program's functions: by program.
-/
namespace Go.Su
set_option maxRecDepth 100000
noncomputable section
open Go.Proofs
variable (R:O4) (i j k l m n:Nat) (a b c d e f g h o p q r t u v w x y z A B C D E F G H I J K L M N O P Q S T U V W X Y Z a1 a2 a3 a4 a5 a6 a7 a8 a9 a10 a11 a12 a13 a14 a15 a16 a17 a18 a19 a20 a21 a22 a23 a24 a25 a26 a27 a28 a29 a30 a31 a32 a33 a34 a35 a36 a37 a38 a39 a40 a41 a42 a43 a44 a45 a46 a47 a48 a49 a50 a51 a52 a53 a54 a55 a56 a57 a58 a59:DV) (s:List D8)
def wG:=eP Tryz.f167 ML R [] (F7 Tryz.f167 [(a, .val),(b, .val)] [])
def NK (R:O4) (t1:DV) (t18r3:Nat) (t19 t20 b2_0 b2_1 b2_2 b2_3 b2_4 b2_5 b2_6 b2_7 b2_8 b2_9 b2_10 b2_11 b2_12 b2_13 b2_14 b2_15 b2_16:DV) (b2_17r3:Nat) (b2_18:DV) (b2_19r3:Nat) (sg:List D8):Option DV:=hP Tryz.f167 ML R (pb 58) (ms 69 [(1,t1),(19,t19),(20,t20)] [(18,(.arr 0 3 0 t18r3))] [(2,some [(b2_0, .val),(b2_1, .val),(b2_2, .val),(b2_3, .val),(b2_4, .val),(b2_5, .val),(b2_6, .val),(b2_7, .val),(b2_8, .val),(b2_9, .val),(b2_10, .val),(b2_11, .val),(b2_12, .val),(b2_13, .val),(b2_14, .val),(b2_15, .val),(b2_16, .val),(.undef,(.arr 0 3 0 b2_17r3)),(b2_18, .val),(.undef,(.arr 1 20 0 b2_19r3))]),(4,some Ja)] sg)
def NL (R:O4) (t1:DV) (t34r3:Nat) (t35 t36 b2_0 b2_1 b2_2 b2_3 b2_4 b2_5 b2_6 b2_7 b2_8 b2_9 b2_10 b2_11 b2_12 b2_13 b2_14 b2_15 b2_16:DV) (b2_17r3:Nat) (b2_18:DV) (b2_19r3:Nat) (sg:List D8):Option DV:=hP Tryz.f167 ML R (pb 122) (ms 69 [(1,t1),(35,t35),(36,t36)] [(34,(.arr 1 20 0 t34r3))] [(2,some [(b2_0, .val),(b2_1, .val),(b2_2, .val),(b2_3, .val),(b2_4, .val),(b2_5, .val),(b2_6, .val),(b2_7, .val),(b2_8, .val),(b2_9, .val),(b2_10, .val),(b2_11, .val),(b2_12, .val),(b2_13, .val),(b2_14, .val),(b2_15, .val),(b2_16, .val),(.undef,(.arr 0 3 0 b2_17r3)),(b2_18, .val),(.undef,(.arr 1 20 0 b2_19r3))]),(4,some Ja)] sg)
def NJ (R:O4) (t1 b2_0 b2_1 b2_2 b2_3 b2_4 b2_5 b2_6 b2_7 b2_8 b2_9 b2_10 b2_11 b2_12 b2_13 b2_14 b2_15 b2_16:DV) (b2_17r3:Nat) (b2_18:DV) (b2_19r3:Nat) (sg:List D8):Option DV:=eP Tryz.f167 ML R (pb 63) (ms 69 [(1,t1)] [] [(2,some [(b2_0, .val),(b2_1, .val),(b2_2, .val),(b2_3, .val),(b2_4, .val),(b2_5, .val),(b2_6, .val),(b2_7, .val),(b2_8, .val),(b2_9, .val),(b2_10, .val),(b2_11, .val),(b2_12, .val),(b2_13, .val),(b2_14, .val),(b2_15, .val),(b2_16, .val),(.undef,(.arr 0 3 0 b2_17r3)),(b2_18, .val),(.undef,(.arr 1 20 0 b2_19r3))]),(4,some Ja)] sg)
theorem sO:wG R a b =
 (og (C9 20 a) <| ob (Wp (A7 17 a)) fun p1=>og (true && p1.1 == 3 && decide (p1.2.length<=lim)) <| ob (Wp (A7 19 a)) fun p2=>og (true && p2.1 == 20 && decide (p2.2.length<=lim)) <| NK R b (p1.2.length) (.int .i64 p1.2.length) (iI 0) (A7 0 a) (A7 1 a) (A7 2 a) (A7 3 a) (A7 4 a) (A7 5 a) (A7 6 a) (A7 7 a) (A7 8 a) (A7 9 a) (A7 10 a) (A7 11 a) (A7 12 a) (A7 13 a) (A7 14 a) (A7 15 a) (A7 16 a) (p1.2.length) (A7 18 a) (p2.2.length) [.arr 3 p1.2, .arr 20 p2.2]):=E8 [14]
theorem SB (R:O4) (t1:DV) (t18r3:Nat) (t19 t20 b2_0 b2_1 b2_2 b2_3 b2_4 b2_5 b2_6 b2_7 b2_8 b2_9 b2_10 b2_11 b2_12 b2_13 b2_14 b2_15 b2_16:DV) (b2_17r3:Nat) (b2_18:DV) (b2_19r3:Nat) (sg:List D8):NK R t1 t18r3 t19 t20 b2_0 b2_1 b2_2 b2_3 b2_4 b2_5 b2_6 b2_7 b2_8 b2_9 b2_10 b2_11 b2_12 b2_13 b2_14 b2_15 b2_16 b2_17r3 b2_18 b2_19r3 sg =
 (ob (A8 .lss t20 t19) fun d1=>D7 d1 (ob (Am 0 t18r3 t20) fun n2=>ob (BN sg 0) fun r3=>ob (r3.2[n2]?) fun d4=>og (r3.1 == 3) <| ob (R.p TV [(V9 d4),t1]) fun d5=>ob (Am 0 b2_17r3 t20) fun n6=>ob (BN sg 0) fun r7=>ob (r7.2[n6]?) fun u8=>og (C9 3 d5) <| og (r7.1 == 3) <| ob (A8 .add t20 (iI 1)) fun d9=>NK R t1 t18r3 t19 d9 b2_0 b2_1 b2_2 b2_3 b2_4 b2_5 b2_6 b2_7 b2_8 b2_9 b2_10 b2_11 b2_12 b2_13 b2_14 b2_15 b2_16 b2_17r3 b2_18 b2_19r3 (sg.set 0 (.arr 3 (r7.2.set n6 d5)))) (NL R t1 b2_19r3 (.int .i64 b2_19r3) (iI 0) b2_0 b2_1 b2_2 b2_3 b2_4 b2_5 b2_6 b2_7 b2_8 b2_9 b2_10 b2_11 b2_12 b2_13 b2_14 b2_15 b2_16 b2_17r3 b2_18 b2_19r3 sg)):=I5 [14]
theorem SC (R:O4) (t1:DV) (t34r3:Nat) (t35 t36 b2_0 b2_1 b2_2 b2_3 b2_4 b2_5 b2_6 b2_7 b2_8 b2_9 b2_10 b2_11 b2_12 b2_13 b2_14 b2_15 b2_16:DV) (b2_17r3:Nat) (b2_18:DV) (b2_19r3:Nat) (sg:List D8):NL R t1 t34r3 t35 t36 b2_0 b2_1 b2_2 b2_3 b2_4 b2_5 b2_6 b2_7 b2_8 b2_9 b2_10 b2_11 b2_12 b2_13 b2_14 b2_15 b2_16 b2_17r3 b2_18 b2_19r3 sg =
 (ob (A8 .lss t36 t35) fun d1=>D7 d1 (ob (Am 0 t34r3 t36) fun n2=>ob (BN sg 1) fun r3=>ob (r3.2[n2]?) fun d4=>og (r3.1 == 20) <| ob (R.p KH [(.agg [b2_0,b2_1,b2_2,b2_3,b2_4,b2_5,b2_6,b2_7,b2_8,b2_9,b2_10,b2_11,b2_12,b2_13,b2_14,b2_15,b2_16, .undef,b2_18, .undef]),t36,t1]) fun d5=>ob (R.p Nj [(F6 d4),d5]) fun d6=>ob (Am 0 b2_19r3 t36) fun n7=>ob (BN sg 1) fun r8=>ob (r8.2[n7]?) fun u9=>og (C9 20 d6) <| og (r8.1 == 20) <| ob (A8 .add t36 (iI 1)) fun d10=>NL R t1 t34r3 t35 d10 b2_0 b2_1 b2_2 b2_3 b2_4 b2_5 b2_6 b2_7 b2_8 b2_9 b2_10 b2_11 b2_12 b2_13 b2_14 b2_15 b2_16 b2_17r3 b2_18 b2_19r3 (sg.set 1 (.arr 20 (r8.2.set n7 d6)))) (ob (A8 .eql b2_0 (iI 12)) fun d11=>D7 d11 (ob (R.p KH [(.agg [b2_0,b2_1,b2_2,b2_3,b2_4,b2_5,b2_6,b2_7,b2_8,b2_9,b2_10,b2_11,b2_12,b2_13,b2_14,b2_15,b2_16, .undef,b2_18, .undef]),(iI 0),t1]) fun d12=>NJ R d12 b2_0 b2_1 b2_2 b2_3 b2_4 b2_5 b2_6 b2_7 b2_8 b2_9 b2_10 b2_11 b2_12 b2_13 b2_14 b2_15 b2_16 b2_17r3 b2_18 b2_19r3 sg) (NJ R t1 b2_0 b2_1 b2_2 b2_3 b2_4 b2_5 b2_6 b2_7 b2_8 b2_9 b2_10 b2_11 b2_12 b2_13 b2_14 b2_15 b2_16 b2_17r3 b2_18 b2_19r3 sg))):=I5 [14]
theorem bT (R:O4) (t1 b2_0 b2_1 b2_2 b2_3 b2_4 b2_5 b2_6 b2_7 b2_8 b2_9 b2_10 b2_11 b2_12 b2_13 b2_14 b2_15 b2_16:DV) (b2_17r3:Nat) (b2_18:DV) (b2_19r3:Nat) (sg:List D8):NJ R t1 b2_0 b2_1 b2_2 b2_3 b2_4 b2_5 b2_6 b2_7 b2_8 b2_9 b2_10 b2_11 b2_12 b2_13 b2_14 b2_15 b2_16 b2_17r3 b2_18 b2_19r3 sg =
 (ob (R.p TV [(.agg [b2_11,b2_12,b2_13]),t1]) fun d1=>ob (R.p TV [(.agg [b2_14,b2_15,b2_16]),t1]) fun d2=>og (C9 3 d1) <| og (C9 3 d2) <| A9s [ob (U0 sg [(b2_0, .val),(b2_1, .val),(b2_2, .val),(b2_3, .val),(b2_4, .val),(b2_5, .val),(b2_6, .val),(b2_7, .val),(b2_8, .val),(b2_9, .val),(b2_10, .val),((A7 0 d1), .val),((A7 1 d1), .val),((A7 2 d1), .val),((A7 0 d2), .val),((A7 1 d2), .val),((A7 2 d2), .val),(.undef,(.arr 0 3 0 b2_17r3)),(b2_18, .val),(.undef,(.arr 1 20 0 b2_19r3))]) fun ds=>some (.agg ds)]):=E8 [14]
theorem mQ:(run cfg).p Nj [a,b]=wG (run cfg) a b:=N7 Tryz.func167
def IP:=eP Tryz.f168 Hq R [] (F7 Tryz.f168 [(a, .val),(b, .val)] [])
theorem Ho:IP R a b =
 (ob (R.p FD [a,b]) fun d1=>ob (A8 .geq d1 (iI 0)) fun d2=>some d2):=E8 []
theorem Gt:(run cfg).p Dv [a,b]=IP (run cfg) a b:=N7 Tryz.func168
def A1o:=eP Tryz.f169 dL R [] (F7 Tryz.f169 [(a, .val)] [])
def KR:=hP Tryz.f169 dL R (pb 250) (ms 43 [(33,a),(34,b),(35,c)] [] [] [])
theorem xP:A1o R a =
 (og (C9 3 a) <| ob (R.p jA [(A7 0 a)]) fun d1=>ob (A8 .lss d1 (iI 0)) fun d2=>I1 d2 sF (ob (dLen (A7 2 a)) fun d3=>ob (A8 .neq d3 d1) fun d4=>D7 d4 sF (ob (A8 .eql (A7 0 a) (iI 6)) fun d5=>D7 d5 (ob (A8 .geq (A7 1 a) (iI 0)) fun d6=>I1 d6 (ob (A8 .leq (A7 1 a) (iI 1048576)) fun d7=>some d7) sF none) (ob (A8 .neq (A7 1 a) (iI 0)) fun d8=>D7 d8 sF (ob (dLen (A7 2 a)) fun d9=>KR R (A7 2 a) d9 (iI 0))))) none):=E8 []
theorem UV:KR R a b c =
 (ob (A8 .lss c b) fun d1=>D7 d1 (ob (F5 3 a c) fun d2=>ob (R.p Wi [(V9 d2)]) fun d3=>ob (O6 .not d3) fun d4=>D7 d4 sF (ob (A8 .add c (iI 1)) fun d5=>KR R a b d5)) sT):=I5 []
theorem uB:(run cfg).p Wi [a]=A1o (run cfg) a:=N7 Tryz.func169
def A1p:=eP Tryz.f170 dM R [] (F7 Tryz.f170 [(a, .val)] [])
def Oz:=hP Tryz.f170 dM R (pb 58) (ms 37 [(0,a),(3,b)] [] [] [])
theorem xQ:A1p R a =
 (ob (DC a) fun d1=>ob (A8 .lss d1 (iI 1)) fun d2=>I1 d2 sF (ob (DC a) fun d3=>ob (A8 .gtr d3 (iI 32)) fun d4=>I1 d4 sF (ob (Y4 a (iI 0)) fun d5=>ob (A8 .lss d5 (.int .u8 97)) fun d6=>I1 d6 sF (ob (Y4 a (iI 0)) fun d7=>ob (A8 .gtr d7 (.int .u8 122)) fun d8=>I1 d8 sF (ob (R.p nY [a]) fun d9=>D7 d9 sF (Oz R a (iI 1))) none) none) none) none):=E8 []
theorem UW:Oz R a b =
 (ob (DC a) fun d1=>ob (A8 .lss b d1) fun d2=>D7 d2 (ob (Y4 a b) fun d3=>ob (R.p aV [d3]) fun d4=>ob (O6 .not d4) fun d5=>D7 d5 sF (ob (A8 .add b (iI 1)) fun d6=>Oz R a d6)) sT):=I5 []
theorem uC:(run cfg).p Wj [a]=A1p (run cfg) a:=N7 Tryz.func170
def A1l:=eP Tryz.f171 yn R [] (F7 Tryz.f171 [(a, .val)] [])
theorem xM:A1l R a =
 (og (C9 3 a) <| ob (A8 .eql (A7 0 a) (iI 0)) fun d1=>I1 d1 (ob (A8 .eql (A7 1 a) (iI 0)) fun d2=>I1 d2 (ob (dLen (A7 2 a)) fun d3=>ob (A8 .eql d3 (iI 0)) fun d4=>some d4) sF none) sF none):=E8 []
theorem tu:(run cfg).p i_ [a]=A1l (run cfg) a:=N7 Tryz.func171
def Pi:=eP Tryz.f172 IY R [] (F7 Tryz.f172 [(a, .val),(b, .val)] [])
def Dn:=hP Tryz.f172 IY R (pb 26) (ms 19 [(0,a),(1,b),(7,c),(8,d)] [] [] [])
theorem OC:Pi R a b =
 (ob (dLen a) fun d1=>Dn R a b d1 (iI 0)):=E8 []
theorem Fx:Dn R a b c d =
 (ob (A8 .lss d c) fun d1=>D7 d1 (ob (F5 1 a d) fun d2=>og (K6 d2) <| ob (A8 .eql b d2) fun d3=>D7 d3 (some d) (ob (A8 .add d (iI 1)) fun d4=>Dn R a b c d4)) (some (.int .i64 (-1)))):=I5 []
theorem NS:(run cfg).p Im [a,b]=Pi (run cfg) a b:=N7 Tryz.func172
def qf:=eP Tryz.f174 WB R [] (F7 Tryz.f174 [(a, .val)] [])
def Z7:=eP Tryz.f174 WB R (pb 15) (ms 83 [(4,a)] [] [(1,bx b 7),(3,bv [c,d,e,f,g,h,o])] [])
theorem lS:qf R a =
 (og (C9 7 a) <| og (I6 (A7 0 a)) <| og (I6 (A7 6 a)) <| ob (A8 .eql (A7 0 a) (iI 1)) fun d1=>D7 d1 (Z7 R (iI 0) a (A7 0 a) (A7 1 a) (A7 2 a) (.str ⟨#[]⟩) (iI 0) (.str ⟨#[]⟩) (A7 6 a)) (ob (A8 .eql (A7 0 a) (iI 6)) fun d2=>D7 d2 (Z7 R (iI 0) a (A7 0 a) (A7 1 a) (A7 2 a) (.str ⟨#[]⟩) (iI 0) (.str ⟨#[]⟩) (A7 6 a)) (ob (A8 .eql (A7 0 a) (iI 8)) fun d3=>D7 d3 (Z7 R (iI 0) a (A7 0 a) (A7 1 a) (A7 2 a) (.str ⟨#[]⟩) (iI 0) (.str ⟨#[]⟩) (A7 6 a)) (ob (A8 .eql (A7 0 a) (iI 2)) fun d4=>D7 d4 (og (I6 (A7 3 a)) <| ob (R.p Wj [(A7 3 a)]) fun d5=>ob (O6 .not d5) fun d6=>D7 d6 sF (Z7 R (iI 0) a (A7 0 a) (A7 1 a) (A7 2 a) (A7 3 a) (iI 0) (.str ⟨#[]⟩) (A7 6 a))) (ob (A8 .eql (A7 0 a) (iI 3)) fun d7=>D7 d7 (og (I6 (A7 4 a)) <| Z7 R (iI 0) a (A7 0 a) (A7 1 a) (A7 2 a) (.str ⟨#[]⟩) (A7 4 a) (.str ⟨#[]⟩) (A7 6 a)) (ob (A8 .eql (A7 0 a) (iI 4)) fun d8 =>
 D7 d8 (og (I6 (A7 4 a)) <| ob (A8 .neq (A7 4 a) (iI 0)) fun d9=>I1 d9 (ob (A8 .neq (A7 4 a) (iI 1)) fun d10=>D7 d10 sF (Z7 R (iI 0) a (A7 0 a) (A7 1 a) (A7 2 a) (.str ⟨#[]⟩) (A7 4 a) (.str ⟨#[]⟩) (A7 6 a))) (Z7 R (iI 0) a (A7 0 a) (A7 1 a) (A7 2 a) (.str ⟨#[]⟩) (A7 4 a) (.str ⟨#[]⟩) (A7 6 a)) none) (ob (A8 .eql (A7 0 a) (iI 5)) fun d11=>D7 d11 (og (I6 (A7 5 a)) <| ob (DC (A7 5 a)) fun d12=>ob (A8 .gtr d12 (iI 200)) fun d13=>D7 d13 sF (Z7 R (iI 0) a (A7 0 a) (A7 1 a) (A7 2 a) (.str ⟨#[]⟩) (iI 0) (A7 5 a) (A7 6 a))) (ob (A8 .eql (A7 0 a) (iI 7)) fun d14=>D7 d14 (Z7 R (iI 2) a (A7 0 a) (A7 1 a) (A7 2 a) (.str ⟨#[]⟩) (iI 0) (.str ⟨#[]⟩) (A7 6 a)) (ob (A8 .eql (A7 0 a) (iI 9)) fun d15=>D7 d15 (Z7 R (iI 2) a (A7 0 a) (A7 1 a) (A7 2 a) (.str ⟨#[]⟩) (iI 0) (.str ⟨#[]⟩) (A7 6 a)) sF))))))))):=E8 [24]
theorem ZC:Z7 R a b c d e f g h o =
 (ob (dLen (A7 6 b)) fun d1=>ob (A8 .eql d1 a) fun d2=>I1 d2 (ob (A8 .eql f (A7 3 b)) fun d3=>I1 d3 (ob (A8 .eql g (A7 4 b)) fun d4=>I1 d4 (ob (A8 .eql h (A7 5 b)) fun d5=>some d5) sF none) sF none) sF none):=E8 [24]
theorem gp:(run cfg).p Xz [a]=qf (run cfg) a:=N7 Tryz.func174
def A8d:=eP Tryz.f177 yZ R [] (F7 Tryz.f177 [(a, .val),(b, .val)] [])
def Wl:=hP Tryz.f177 yZ R (pb 26) (ms 18 [(0,a),(1,b),(5,c)] [] [] [])
theorem A6z:A8d R a b =
 (Wl R a b (iI 0)):=E8 []
theorem bK:Wl R a b c =
 (ob (dLen a) fun d1=>ob (A8 .lss c d1) fun d2=>D7 d2 (ob (F5 1 a c) fun d3=>og (K6 d3) <| ob (A8 .eql d3 b) fun d4=>D7 d4 sT (ob (A8 .add c (iI 1)) fun d5=>Wl R a b d5)) sF):=I5 []
theorem A4v:(run cfg).p nR [a,b]=A8d (run cfg) a b:=N7 Tryz.func177
def qX:=eP Tryz.f178 WA R [] (F7 Tryz.f178 [(a, .val),(b, .val)] [])
def IL:=hP Tryz.f178 WA R (pb 58) (ms 29 [(0,a),(1,b),(5,c),(6,d)] [(5, .own)] [] [])
theorem lG:qX R a b =
 (IL R a b (.list 4 []) (iI 0)):=E8 []
theorem QE:IL R a b c d =
 (ob (dLen a) fun d1=>ob (A8 .lss d d1) fun d2=>D7 d2 (ob (F5 4 a d) fun d3=>ob (R.p nR [b,(A7 0 d3)]) fun d4=>ob (O6 .not d4) fun d5=>D7 d5 (ob (F5 4 a d) fun d6=>ob (Be 4 c (.list 4 [(.agg [(A7 0 d6),(A7 1 d6),(A7 2 d6),(A7 3 d6)])])) fun d7=>ob (A8 .add d (iI 1)) fun d8=>IL R a b d7 d8) (ob (A8 .add d (iI 1)) fun d9=>IL R a b c d9)) (some c)):=I5 []
theorem gY:(run cfg).p Xx [a,b]=qX (run cfg) a b:=N7 Tryz.func178
def A6j:=eP Tryz.f179 A4B R [] (F7 Tryz.f179 [(a, .val),(b, .val)] [])
theorem A4p:A6j R a b =
 (og (C9 3 a) <| ob (R.p nS [(V9 a)]) fun d1=>D7 d1 (some (V9 a)) (ob (R.p fP [(V9 a),b]) fun d2=>og (C9 3 d2) <| some (V9 d2))):=E8 []
theorem A2b:(run cfg).p XJ [a,b]=A6j (run cfg) a b:=N7 Tryz.func179
def A3W:=eP Tryz.f187 A2r R [] (F7 Tryz.f187 [(a, .val),(b, .val)] [])
theorem A10:A3W R a b =
 (og (C9 3 a) <| ob (A8 .eql (A7 0 a) (iI 0)) fun d1=>D7 d1 (some (V9 a)) (ob (R.p VU [(V9 a),b]) fun d2=>ob (I9 0 d2) fun d3=>ob (I9 1 d2) fun d4=>og (C9 3 d3) <| some (V9 d3))):=E8 []
theorem yL:(run cfg).p TV [a,b]=A3W (run cfg) a b:=N7 Tryz.func187
def kG:=eP Tryz.f188 gq R [] (F7 Tryz.f188 [(a, .val),(b, .val),(c, .val)] [])
theorem gN:kG R a b c =
 (og (C9 20 a) <| ob (A8 .gtr b (iI 0)) fun d1=>I1 d1 (some c) (ob (dLen (A7 10 a)) fun d2=>ob (A8 .eql d2 (iI 0)) fun d3=>D7 d3 (some c) (ob (Wp c) fun p4=>og (true && p4.1 == 4 && decide (p4.2.length<=lim)) <| oc (R.r Ae [(.undef,(.arr 1 4 0 p4.2.length)),(.undef,(.fn 201 [(0,0)]))] [D8.box [((A7 0 a), .val),((A7 1 a), .val),((A7 2 a), .val),((A7 3 a), .val),((A7 4 a), .val),((A7 5 a), .val),((A7 6 a), .val),((A7 7 a), .val),((A7 8 a), .val),((A7 9 a), .val),((A7 10 a), .val),((A7 11 a), .val),((A7 12 a), .val),((A7 13 a), .val),((A7 14 a), .val),((A7 15 a), .val),((A7 16 a), .val),((A7 17 a), .val),((A7 18 a), .val),((A7 19 a), .val)], .arr 4 p4.2]) fun q5 s5=>some q5)) none):=E8 []
theorem b_:(run cfg).p KH [a,b,c]=kG (run cfg) a b c:=N7 Tryz.func188
def Jp:=eP Tryz.f189 Ed R [] (F7 Tryz.f189 [(a, .val),(b, .val)] [])
def Bc:=hP Tryz.f189 Ed R (pb 26) (ms 19 [(0,a),(1,b),(7,c),(8,d)] [] [] [])
theorem JN:Jp R a b =
 (ob (dLen a) fun d1=>Bc R a b d1 (iI 0)):=E8 []
theorem De:Bc R a b c d =
 (ob (A8 .lss d c) fun d1=>D7 d1 (ob (F5 1 a d) fun d2=>og (K6 d2) <| ob (A8 .eql b d2) fun d3=>D7 d3 (some d) (ob (A8 .add d (iI 1)) fun d4=>Bc R a b c d4)) (some (.int .i64 (-1)))):=I5 []
theorem Ij:(run cfg).p FD [a,b]=Jp (run cfg) a b:=N7 Tryz.func189
def A1n:=eP Tryz.f190 yu R [] (F7 Tryz.f190 [(a, .val)] [])
theorem xO:A1n R a =
 (ob (A8 .eql a (iI 1)) fun d1=>D7 d1 (some (iI 0)) (ob (A8 .eql a (iI 2)) fun d2=>D7 d2 (some (iI 0)) (ob (A8 .eql a (iI 3)) fun d3=>D7 d3 (some (iI 0)) (ob (A8 .eql a (iI 4)) fun d4=>D7 d4 (some (iI 0)) (ob (A8 .eql a (iI 5)) fun d5=>D7 d5 (some (iI 0)) (ob (A8 .eql a (iI 6)) fun d6=>D7 d6 (some (iI 0)) (ob (A8 .eql a (iI 8)) fun d7=>D7 d7 (some (iI 1)) (ob (A8 .eql a (iI 7)) fun d8=>D7 d8 (some (iI 2)) (ob (A8 .eql a (iI 9)) fun d9=>D7 d9 (some (iI 2)) (some (.int .i64 (-1)))))))))))):=E8 []
theorem uA:(run cfg).p jA [a]=A1n (run cfg) a:=N7 Tryz.func190
def A3Y:=eP Tryz.f191 A2s R [] (F7 Tryz.f191 [(a, .val)] [])
theorem A12:A3Y R a =
 (ob (A8 .eql a (.str ⟨#[108,101,116]⟩)) fun d1=>D7 d1 sT (ob (A8 .eql a (.str ⟨#[114,101,99]⟩)) fun d2=>D7 d2 sT (ob (A8 .eql a (.str ⟨#[105,110]⟩)) fun d3=>D7 d3 sT (ob (A8 .eql a (.str ⟨#[102,117,110]⟩)) fun d4=>D7 d4 sT (ob (A8 .eql a (.str ⟨#[105,102]⟩)) fun d5=>D7 d5 sT (ob (A8 .eql a (.str ⟨#[116,104,101,110]⟩)) fun d6=>D7 d6 sT (ob (A8 .eql a (.str ⟨#[101,108,115,101]⟩)) fun d7=>D7 d7 sT (ob (A8 .eql a (.str ⟨#[109,97,116,99,104]⟩)) fun d8=>D7 d8 sT (ob (A8 .eql a (.str ⟨#[119,105,116,104]⟩)) fun d9=>D7 d9 sT (ob (A8 .eql a (.str ⟨#[101,110,100]⟩)) fun d10=>D7 d10 sT (ob (A8 .eql a (.str ⟨#[116,114,117,101]⟩)) fun d11=>D7 d11 sT (ob (A8 .eql a (.str ⟨#[102,97,108,115,101]⟩)) fun d12=>D7 d12 sT (ob (A8 .eql a (.str ⟨#[105,110,116]⟩)) fun d13=>D7 d13 sT (ob (A8 .eql a (.str ⟨#[98,111,111,108]⟩)) fun d14=>D7 d14 sT (ob (A8 .eql a (.str ⟨#[115,116,114,105,110,103]⟩)) fun d15 =>
 D7 d15 sT (ob (A8 .eql a (.str ⟨#[117,110,105,116]⟩)) fun d16=>D7 d16 sT (ob (A8 .eql a (.str ⟨#[108,105,115,116]⟩)) fun d17=>D7 d17 sT sF))))))))))))))))):=E8 []
theorem yN:(run cfg).p nY [a]=A3Y (run cfg) a:=N7 Tryz.func191
def wH:=eP Tryz.f192 uN R [] (F7 Tryz.f192 [(a, .val)] [])
theorem sP:wH R a =
 (ob (A8 .geq a (.int .u8 97)) fun d1=>I1 d1 (ob (A8 .leq a (.int .u8 122)) fun d2=>I1 d2 sT (ob (A8 .geq a (.int .u8 65)) fun d3=>I1 d3 (ob (A8 .leq a (.int .u8 90)) fun d4=>I1 d4 sT (ob (A8 .geq a (.int .u8 48)) fun d5=>I1 d5 (ob (A8 .leq a (.int .u8 57)) fun d6=>I1 d6 sT (ob (A8 .eql a (.int .u8 95)) fun d7=>I1 d7 sT (ob (A8 .eql a (.int .u8 39)) fun d8=>some d8) none) none) (ob (A8 .eql a (.int .u8 95)) fun d9=>I1 d9 sT (ob (A8 .eql a (.int .u8 39)) fun d10=>some d10) none) none) none) (ob (A8 .geq a (.int .u8 48)) fun d11=>I1 d11 (ob (A8 .leq a (.int .u8 57)) fun d12=>I1 d12 sT (ob (A8 .eql a (.int .u8 95)) fun d13=>I1 d13 sT (ob (A8 .eql a (.int .u8 39)) fun d14=>some d14) none) none) (ob (A8 .eql a (.int .u8 95)) fun d15=>I1 d15 sT (ob (A8 .eql a (.int .u8 39)) fun d16=>some d16) none) none) none) none) (ob (A8 .geq a (.int .u8 65)) fun d17=>I1 d17 (ob (A8 .leq a (.int .u8 90)) fun d18=>I1 d18 sT (ob (A8 .geq a (.int .u8 48)) fun d19 =>
 I1 d19 (ob (A8 .leq a (.int .u8 57)) fun d20=>I1 d20 sT (ob (A8 .eql a (.int .u8 95)) fun d21=>I1 d21 sT (ob (A8 .eql a (.int .u8 39)) fun d22=>some d22) none) none) (ob (A8 .eql a (.int .u8 95)) fun d23=>I1 d23 sT (ob (A8 .eql a (.int .u8 39)) fun d24=>some d24) none) none) none) (ob (A8 .geq a (.int .u8 48)) fun d25=>I1 d25 (ob (A8 .leq a (.int .u8 57)) fun d26=>I1 d26 sT (ob (A8 .eql a (.int .u8 95)) fun d27=>I1 d27 sT (ob (A8 .eql a (.int .u8 39)) fun d28=>some d28) none) none) (ob (A8 .eql a (.int .u8 95)) fun d29=>I1 d29 sT (ob (A8 .eql a (.int .u8 39)) fun d30=>some d30) none) none) none) none):=E8 []
theorem mR:(run cfg).p aV [a]=wH (run cfg) a:=N7 Tryz.func192
def A3C:=eP Tryz.f196 A2k R [] (F7 Tryz.f196 [(a, .val)] [])
theorem A1G:A3C R a =
 (og (C9 3 a) <| ob (A8 .eql (A7 0 a) (iI 0)) fun d1=>I1 d1 (ob (A8 .eql (A7 1 a) (iI 0)) fun d2=>I1 d2 (ob (dLen (A7 2 a)) fun d3=>ob (A8 .eql d3 (iI 0)) fun d4=>some d4) sF none) sF none):=E8 []
theorem xk:(run cfg).p nS [a]=A3C (run cfg) a:=N7 Tryz.func196
def A6g:=eP Tryz.f197 Zj R [] (F7 Tryz.f197 [(a, .val),(b, .val)] [])
def Tp:=hP Tryz.f197 Zj R (pb 210) (ms 54 [(1,a),(5,b)] [] [(2,bx c 3),(4,some zb3)] [])
def RD:=hP Tryz.f197 Zj R (pb 122) (ms 54 [(1,a),(7,b)] [] [(2,bx c 3),(4,some zb3),(6,some [(d, .val),((iI 0), .val),(e, .own)])] [])
theorem A4m:A6g R a b =
 (og (C9 3 a) <| ob (A8 .eql (A7 0 a) (iI 6)) fun d1=>D7 d1 (Tp R b (iI 0) a) (og (I6 (A7 0 a)) <| RD R b (iI 0) a (A7 0 a) (.list 3 []))):=E8 []
theorem YQ:Tp R a b c =
 (ob (dLen a) fun d1=>ob (A8 .lss b d1) fun d2=>D7 d2 (ob (F5 4 a b) fun d3=>ob (A8 .eql (A7 0 d3) (A7 1 c)) fun d4=>D7 d4 (ob (F5 4 a b) fun d5=>some (.agg [(A7 1 d5),(A7 2 d5),(A7 3 d5)])) (ob (A8 .add b (iI 1)) fun d6=>Tp R a d6 c)) (some (V9 c))):=I5 []
theorem Vp:RD R a b c d e =
 (ob (dLen (A7 2 c)) fun d1=>ob (A8 .lss b d1) fun d2=>D7 d2 (ob (F5 3 (A7 2 c) b) fun d3=>ob (R.p fP [(V9 d3),a]) fun d4=>og (C9 3 d4) <| ob (Be 3 e (.list 3 [d4])) fun d5=>ob (A8 .add b (iI 1)) fun d6=>RD R a d6 c d d5) (some (.agg [d,(iI 0),e]))):=I5 []
theorem A18:(run cfg).p fP [a,b]=A6g (run cfg) a b:=N7 Tryz.func197
def CG:=eR Tryz.f199 AQ Bl R [] (F7 Tryz.f199 [(.undef,(.arr i 4 j k)),(.undef,(.fn 201 [(l,0)]))] s)
def V5:=hR Tryz.f199 AQ Bl R (pb 122) (ms 42 [(5,a),(6,b)] [(0,(.arr i 4 j k)),(1,(.fn 201 [(l,0)]))] [] s)
theorem Bj:CG R i j k l s =
 (oc (R.r U5 [(.undef,(.arr i 4 j k)),(.undef,(.fn 201 [(l,0)]))] s) fun q1 s1=>ob (A8 .eql q1 (.int .i64 (-1))) fun d2=>D7 d2 (ob (fB [Q7 s1 (.undef,(.arr i 4 j k))]) fun ds=>some (ds,(s1.set i (D8.arr 1 [])))) (ob (A8 .add q1 (iI 1)) fun d3=>V5 R i j k l q1 d3 s1)):=E8 []
theorem BG:V5 R i j k l a b s =
 (ob (A8 .lss b (.int .i64 k)) fun d1=>D7 d1 (ob (Am j k b) fun n2=>ob (BN s i) fun r3=>ob (r3.2[n2]?) fun d4=>og (r3.1 == 4) <| oc (R.r Cg [((.agg [(A7 0 d4),(A7 1 d4),(A7 2 d4),(A7 3 d4)]), .val),(pt l)] s) fun q5 s5=>ob (O6 .not q5) fun d6=>D7 d6 (ob (Am j k a) fun n7=>ob (BN s5 i) fun r8=>ob (r8.2[n7]?) fun u9=>og (r8.1 == 4) <| ob (A8 .add a (iI 1)) fun d10=>ob (A8 .add b (iI 1)) fun d11=>V5 R i j k l d10 d11 (s5.set i (.arr 4 (r8.2.set n7 (.agg [(A7 0 d4),(A7 1 d4),(A7 2 d4),(A7 3 d4)]))))) (ob (A8 .add b (iI 1)) fun d12=>V5 R i j k l a d12 s5)) (ob (bnd 0 (some a)) fun n13=>if n13<=k/\k<=k then (ob (BN s i) fun r14=>og (r14.1 == 4 && true && true && decide ((j+n13)+(k-n13)<=r14.2.length)) <| ob (bnd k (some a)) fun n15=>if 0<=n15/\n15<=k then (ob (fB [Q7 (s.set i (.arr 4 (r14.2.take (j+n13)))) (.undef,(.arr i 4 (j+0) (n15-0)))]) fun ds =>
 some (ds,((s.set i (.arr 4 (r14.2.take (j+n13)))).set i (D8.arr 1 [])))) else none) else none)):=I5 []
theorem Eb:(run cfg).r Ae [(.undef,(.arr i 4 j k)),(.undef,(.fn 201 [(l,0)]))] s=CG (run cfg) i j k l s:=gz (s:=AQ) Tryz.func199
theorem ER (x0i x0o x0n x1_0:Nat) (sg:List D8) {q:List DV × List D8} (h:CG (run cfg) x0i x0o x0n x1_0 sg=some q):(run cfg).r Ae [(.undef,(.arr x0i 4 x0o x0n)),(.undef,(.fn 201 [(x1_0,0)]))] sg=some q:=(Eb x0i x0o x0n x1_0 sg).trans h
def aj (R:O4) (x0:DV) (x1:Nat) (sg:List D8):Option (List DV × List D8):=eR Tryz.f201 OZ ZJ R [] (F7 Tryz.f201 [(x0, .val),(pt x1)] sg)
theorem ZB (R:O4) (x0:DV) (x1:Nat) (sg:List D8):aj R x0 x1 sg =
 (og (C9 4 x0) <| ob (M5 sg x1) fun c1=>ob (X5 c1 10) fun d2=>ob (R.p GY [d2,(A7 0 x0)]) fun d3=>some ([d3],sg)):=E8 []
theorem Xc (x0:DV) (x1:Nat) (sg:List D8):(run cfg).r Cg [(x0, .val),(.undef,(.ptr x1 0))] sg=aj (run cfg) x0 x1 sg:=gz (s:=OZ) Tryz.func201
end
end Go.Su

/-
 Equations of the program's functions: by program.
-/
namespace Go.Su
open Go.Proofs
variable (R:O4) (i j k l m n:Nat) (a b c d e f g h o p q r t u v w x y z A B C D E F G H I J K L M N O P Q S T U V W X Y Z a1 a2 a3 a4 a5 a6 a7 a8 a9 a10 a11 a12 a13 a14 a15 a16 a17 a18 a19 a20 a21 a22 a23 a24 a25 a26 a27 a28 a29 a30 a31 a32 a33 a34 a35 a36 a37 a38 a39 a40 a41 a42 a43 a44 a45 a46 a47 a48 a49 a50 a51 a52 a53 a54 a55 a56 a57 a58 a59:DV) (s:List D8)
noncomputable def CW:=eR Tryz.f202 Ac CK R [] (F7 Tryz.f202 [(.undef,(.arr i 4 j k)),(.undef,(.fn 201 [(l,0)]))] s)
noncomputable def O3:=hR Tryz.f202 Ac CK R (pb 26) (ms 19 [(7,a),(8,b)] [(0,(.arr i 4 j k)),(1,(.fn 201 [(l,0)]))] [] s)
theorem FK:CW R i j k l s =
 (O3 R i j k l (.int .i64 k) (iI 0) s):=E8 []
theorem BO:O3 R i j k l a b s =
 (ob (A8 .lss b a) fun d1=>D7 d1 (ob (Am j k b) fun n2=>ob (BN s i) fun r3=>ob (r3.2[n2]?) fun d4=>og (r3.1 == 4) <| oc (R.r Cg [((.agg [(A7 0 d4),(A7 1 d4),(A7 2 d4),(A7 3 d4)]), .val),(pt l)] s) fun q5 s5=>D7 q5 (some ([b],s5)) (ob (A8 .add b (iI 1)) fun d6=>O3 R i j k l a d6 s5)) (some ([(.int .i64 (-1))],s))):=I5 []
theorem Ey:(run cfg).r U5 [(.undef,(.arr i 4 j k)),(.undef,(.fn 201 [(l,0)]))] s=CW (run cfg) i j k l s:=gz (s:=Ac) Tryz.func202
theorem La (x0i x0o x0n x1_0:Nat) (sg:List D8) {q:List DV × List D8} (h:CW (run cfg) x0i x0o x0n x1_0 sg=some q):(run cfg).r U5 [(.undef,(.arr x0i 4 x0o x0n)),(.undef,(.fn 201 [(x1_0,0)]))] sg=some q:=(Ey x0i x0o x0n x1_0 sg).trans h
end Go.Su

/-
 All equations.
-/
namespace Go.Su
end Go.Su
