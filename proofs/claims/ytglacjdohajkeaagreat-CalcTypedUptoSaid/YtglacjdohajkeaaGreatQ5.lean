/-
  Parts of the proof, merged: G8, G9, G10, G11, G12, G13, G14, G15, G16, G17, T0.
-/
import Derived.Test.YtglacjdohajkeaaGreatQ4
set_option linter.unusedVariables false
set_option linter.unusedSimpArgs false
/-
 Equations of the program's functions: by program.
-/
namespace Go.Su
set_option linter.defProp false
noncomputable section
open Go.Proofs
open Tryz
variable (R: U1)(i j k l m n: Nat)(a b c d e f g h o p q r t u v w x y z I J K L M N O P Q S T U V W X Y Z: DV)(s: List H7)
def A1u:=eP f68 eB R [] (I6 f68 [(a,.val),(b,.val)] [])
def Yg:=eP f68 eB R (pb 15) (ms 117 [] [] [(2,bx a 20),(3,bx b 20),(4,some MR),(5,some Ck),(6,bv [c,d,e]),(7,bv [f,g,h])] [])
def zW:A1u R a b =
 (og (E5 20 a)<|og (E5 20 b)<|ob (L6 (A7 13 a)) λx=>ob (D7 .eql x (iI 0)) λy=>K3 y (ob (R.p EP [(.agg [(A7 11 a),(A7 12 a),(A7 13 a)]),(.agg [(A7 14 a),(A7 15 a),(A7 16 a)])]) λz=>F3 z (some (.I4 [(I7 b),(.agg ((iI 0)::(Dk [])))])) (Yg R a b (A7 11 a) (A7 12 a) (A7 13 a) (A7 14 a) (A7 15 a) (A7 16 a))) (Yg R a b (A7 11 a) (A7 12 a) (A7 13 a) (A7 14 a) (A7 15 a) (A7 16 a)) none):=F6 [4]
set_option maxRecDepth 100000 in
def ny:Yg R a b c d e f g h =
 (ob (D7 .eql c (iI 5)) λU=>F3 U (ob (R.p Ov [(.agg [f,g,h])]) λz=>ob (K5 0 z) λx=>ob (K5 1 z) λV=>og (E5 3 x)<|ob (R8 .not V) λT=>F3 T (ob (R.p Bu []) λw=>ob (K5 0 w) λu=>ob (K5 1 w) λv=>og (E5 20 u)<|og (E5 15 v)<|some (.I4 [(I7 u),(AO v)])) (ob (R.p EP [(.agg [f,g,h]),(R6 x)]) λS=>ob (R8 .not S) λQ=>F3 Q (ob (R.p Eu [(I7 a),(A7 9 a),(.agg [c,d,e]),(R6 x),(I7 b)]) λP=>ob (R.p Eu [(I7 a),(A7 9 a),(R6 x),(.agg [f,g,h]),P]) λt=>og (E5 20 t)<|some (.I4 [(I7 t),(.agg ((iI 0)::(Dk [])))])) (ob (D7 .neq (A7 0 b) (iI 16)) λO=>K3 O (ob (R.p Bu []) λs=>ob (K5 0 s) λr=>ob (K5 1 s) λq=>og (E5 20 r)<|og (E5 15 q)<|some (.I4 [(I7 r),(AO q)])) (ob (D7 .neq (A7 14 b) (iI 5)) λN=>
 F3 N (ob (R.p Bu []) λo=>ob (K5 0 o) λn=>ob (K5 1 o) λm=>og (E5 20 n)<|og (E5 15 m)<|some (.I4 [(I7 n),(AO m)])) (ob (R.p EP [(.agg [(A7 11 b),(A7 12 b),(A7 13 b)]),(R6 x)]) λM=>F3 M (ob (F7 20 (A7 19 b) (iI 0)) λL=>some (.I4 [(I7 L),(.agg ((iI 0)::(Dk [])))])) (og (J7 (A7 8 a))<|og (J7 (A7 9 a))<|some (.I4 [(.agg ((iI 0)::(EX []))),(.agg ((iI 2)::(qI [(A7 8 a),(A7 9 a),(iI 0),(iI 0),(iI 0)])))])))) none))) (ob (D7 .eql f (iI 5)) λK=>
 F3 K (ob (R.p Ov [(.agg [c,d,e])]) λl=>ob (K5 0 l) λy=>ob (K5 1 l) λJ=>og (E5 3 y)<|F3 J (ob (R.p Eu [(I7 a),(A7 9 a),(.agg [c,d,e]),(R6 y),(I7 b)]) λI=>ob (R.p Eu [(I7 a),(A7 9 a),(R6 y),(.agg [f,g,h]),I]) λk=>og (E5 20 k)<|some (.I4 [(I7 k),(.agg ((iI 0)::(Dk [])))])) (ob (R.p Bu []) λj=>ob (K5 0 j) λi=>ob (K5 1 j) λX=>og (E5 20 i)<|og (E5 15 X)<|some (.I4 [(I7 i),(AO X)]))) (ob (R.p Bu []) λY=>ob (K5 0 Y) λZ=>ob (K5 1 Y) λW=>og (E5 20 Z)<|og (E5 15 W)<|some (.I4 [(I7 Z),(AO W)])))):=F6 [4]
def uT:C9.p jA [a,b]=A1u C9 a b:=Q0 func68
def A1v:=eR f69 Zh A0O R [] (I6 f69 [(a,.val)] s)
def zX:A1v R a s =
 (og (E5 20 a)<|ob (D7 .neq (A7 0 a) (iI 16)) λy=>F3 y (some ([(.list 20 []),(I7 a)],s)) (ob (F7 20 (A7 19 a) (iI 0)) λz=>ob (R.r Qh [((I7 z),.val)] s) λq3=>ob (K5 0 (.I4 q3.1)) λw=>ob (K5 1 (.I4 q3.1)) λx=>og (E5 20 x)<|ob (AP 20 w (.list 20 [(I7 a)])) λu=>some ([u,(I7 x)],q3.2))):=F6 []
def uU:C9.r Qh [(a,.val)] s=A1v C9 a s:=LU (s:=Zh) func69
end
end Go.Su

/-
 Equations of the program's functions: by program.
-/
namespace Go.Su
set_option linter.defProp false
noncomputable section
open Go.Proofs
open Tryz
variable (R: U1)(i j k l m n: Nat)(a b c d e f g h o p q r t u v w x y z A B C D E F G H I J K L M N O P Q S T U V W X Y Z a1 a2: DV)(s: List H7)
def A1x:=eP f70 FO R [] (I6 f70 [(a,.val),(b,.val)] [])
def Wp:=hP f70 FO R (pb 250) (ms 89 [(0,a),(7,b),(26,(iI 0))] [] [(4,some zb1),(5,some Ck),(6,bv [c,d,e,f,g,h,o,p,q,r,t,u,v,w,x,y,z,A,B,C,D,E,F,G,H,I,J,K,L,M,N,O,P,Q,S,T,U,V,W,X])] [])
def Lm:=hP f70 FO R (pb 64102) (ms 89 [(0,a),(7,b),(8,(iI 0)),(26,(iI 0)),(29,c),(30,d),(31,e)] [] [(4,some zb1),(5,some Ck),(6,bv [f,g,h,o,p,q,r,t,u,v,w,x,y,z,A,B,C,D,E,F,G,H,I,J,K,L,M,N,O,P,Q,S,T,U,V,W,X,Y,Z,a1])] [])
def OD:=hP f70 FO R (pb 131281724) (ms 89 [(0,a),(7,b),(8,(iI 0)),(26,(iI 0)),(29,c),(30,d),(31,e)] [] [(4,some zb1),(5,some Ck),(6,bv [f,g,h,o,p,q,r,t,u,v,w,x,y,z,A,B,C,D,E,F,G,H,I,J,K,L,M,N,O,P,Q,S,T,U,V,W,X,Y,Z,a1]),(11,bx a2 20)] [])
def VN:=hP f70 FO R (pb 250) (ms 89 [(0,a),(7,b),(26,(iI 1))] [] [(4,some zb1),(5,some Ck),(6,bv [c,d,e,f,g,h,o,p,q,r,t,u,v,w,x,y,z,A,B,C,D,E,F,G,H,I,J,K,L,M,N,O,P,Q,S,T,U,V,W,X])] [])
def Ka:=hP f70 FO R (pb 64102) (ms 89 [(0,a),(7,b),(8,(iI 1)),(26,(iI 1)),(29,c),(30,d),(31,e)] [] [(4,some zb1),(5,some Ck),(6,bv [f,g,h,o,p,q,r,t,u,v,w,x,y,z,A,B,C,D,E,F,G,H,I,J,K,L,M,N,O,P,Q,S,T,U,V,W,X,Y,Z,a1])] [])
def Mj:=hP f70 FO R (pb 131281724) (ms 89 [(0,a),(7,b),(8,(iI 1)),(26,(iI 1)),(29,c),(30,d),(31,e)] [] [(4,some zb1),(5,some Ck),(6,bv [f,g,h,o,p,q,r,t,u,v,w,x,y,z,A,B,C,D,E,F,G,H,I,J,K,L,M,N,O,P,Q,S,T,U,V,W,X,Y,Z,a1]),(11,bx a2 20)] [])
def jL:=hP f70 FO R (pb 250) (ms 89 [(0,a),(7,b),(26,(iI 2))] [] [(4,some zb1),(5,some Ck),(6,bv [c,d,e,f,g,h,o,p,q,r,t,u,v,w,x,y,z,A,B,C,D,E,F,G,H,I,J,K,L,M,N,O,P,Q,S,T,U,V,W,X])] [])
def zZ:A1x R a b =
 (og (E5 20 b)<|ob (F7 20 (A7 19 b) (iI 0)) λx=>ob (F7 20 (A7 19 b) (iI 1)) λy=>ob (D7 .eql (A7 0 b) (iI 8)) λz=>F3 z (Wp R a (iI 8) (A7 0 x) (A7 1 x) (A7 2 x) (A7 3 x) (A7 4 x) (A7 5 x) (A7 6 x) (A7 7 x) (A7 8 x) (A7 9 x) (A7 10 x) (A7 11 x) (A7 12 x) (A7 13 x) (A7 14 x) (A7 15 x) (A7 16 x) (A7 17 x) (A7 18 x) (A7 19 x) (A7 0 y) (A7 1 y) (A7 2 y) (A7 3 y) (A7 4 y) (A7 5 y) (A7 6 y) (A7 7 y) (A7 8 y) (A7 9 y) (A7 10 y) (A7 11 y) (A7 12 y) (A7 13 y) (A7 14 y) (A7 15 y) (A7 16 y) (A7 17 y) (A7 18 y) (A7 19 y)) (Wp R a (iI 7) (A7 0 x) (A7 1 x) (A7 2 x) (A7 3 x) (A7 4 x) (A7 5 x) (A7 6 x) (A7 7 x) (A7 8 x) (A7 9 x) (A7 10 x) (A7 11 x) (A7 12 x) (A7 13 x) (A7 14 x) (A7 15 x) (A7 16 x) (A7 17 x) (A7 18 x) (A7 19 x) (A7 0 y) (A7 1 y) (A7 2 y) (A7 3 y) (A7 4 y) (A7 5 y) (A7 6 y) (A7 7 y) (A7 8 y) (A7 9 y) (A7 10 y) (A7 11 y) (A7 12 y) (A7 13 y) (A7 14 y) (A7 15 y) (A7 16 y) (A7 17 y) (A7 18 y) (A7 19 y))):=F6 []
def VO:Wp R a b c d e f g h o p q r t u v w x y z A B C D E F G H I J K L M N O P Q S T U V W X =
 (ob (L6 a) λs=>Lm R a b a s (iI 0) c d e f g h o p q r t u v w x y z A B C D E F G H I J K L M N O P Q S T U V W X):=J2 []
def Kj:Lm R a b c d e f g h o p q r t u v w x y z A B C D E F G H I J K L M N O P Q S T U V W X Y Z a1 =
 (ob (D7 .lss e d) λm=>F3 m (ob (F7 20 c e) λs=>ob (D7 .eql (A7 14 s) (iI 5)) λl=>F3 l (ob (D7 .add e (iI 1)) λk=>Lm R a b c d k f g h o p q r t u v w x y z A B C D E F G H I J K L M N O P Q S T U V W X Y Z a1) (ob (D7 .neq (A7 11 s) b) λj=>K3 j (some (.I4 [(.agg [f,g,h,o,p,q,r,t,u,v,w,x,y,z,A,B,C,D,E,F,G,H,I,J,K,L,M,N,O,P,Q,S,T,U,V,W,X,Y,Z,a1]),(.agg ((iI 6)::(Dk [])))])) (ob (D7 .neq (A7 14 s) b) λi=>F3 i (some (.I4 [(.agg [f,g,h,o,p,q,r,t,u,v,w,x,y,z,A,B,C,D,E,F,G,H,I,J,K,L,M,N,O,P,Q,S,T,U,V,W,X,Y,Z,a1]),(.agg ((iI 6)::(Dk [])))])) (ob (R.p KA [(.agg [(A7 11 s),(A7 12 s),(A7 13 s)]),(iI 0)]) λd7=>
 ob (R.p KA [(.agg [(A7 14 s),(A7 15 s),(A7 16 s)]),(iI 0)]) λd8=>ob (R.p Eu [(I7 s),(A7 9 s),d7,d8,(.agg [f,g,h,o,p,q,r,t,u,v,w,x,y,z,A,B,C,D,E,F])]) λn=>og (E5 20 n)<|OD R a b c d e f g h o p q r t u v w x y z A B C D E F G H I J K L M N O P Q S T U V W X Y Z a1 n)) none)) (VN R a b f g h o p q r t u v w x y z A B C D E F G H I J K L M N O P Q S T U V W X Y Z a1)):=J2 []
def Tc:OD R a b c d e f g h o p q r t u v w x y z A B C D E F G H I J K L M N O P Q S T U V W X Y Z a1 a2 =
 (ob (R.p Dv [(I7 a2)]) λl=>ob (R8 .not l) λk=>F3 k (ob (R.p DN [(I7 a2)]) λn=>ob (K5 0 n) λm=>ob (K5 1 n) λs=>og (E5 20 m)<|og (E5 15 s)<|ob (D7 .neq (A7 0 s) (iI 0)) λj=>F3 j (some (.I4 [(.agg [f,g,h,o,p,q,r,t,u,v,w,x,y,z,A,B,C,D,E,F,G,H,I,J,K,L,M,N,O,P,Q,S,T,U,V,W,X,Y,Z,a1]),(AO s)])) (OD R a b c d e f g h o p q r t u v w x y z A B C D E F G H I J K L M N O P Q S T U V W X Y Z a1 m)) (ob (D7 .add e (iI 1)) λi=>Lm R a b c d i (A7 0 a2) (A7 1 a2) (A7 2 a2) (A7 3 a2) (A7 4 a2) (A7 5 a2) (A7 6 a2) (A7 7 a2) (A7 8 a2) (A7 9 a2) (A7 10 a2) (A7 11 a2) (A7 12 a2) (A7 13 a2) (A7 14 a2) (A7 15 a2) (A7 16 a2) (A7 17 a2) (A7 18 a2) (A7 19 a2) G H I J K L M N O P Q S T U V W X Y Z a1)):=J2 []
def fK:VN R a b c d e f g h o p q r t u v w x y z A B C D E F G H I J K L M N O P Q S T U V W X =
 (ob (L6 a) λs=>Ka R a b a s (iI 0) c d e f g h o p q r t u v w x y z A B C D E F G H I J K L M N O P Q S T U V W X):=J2 []
def Jd:Ka R a b c d e f g h o p q r t u v w x y z A B C D E F G H I J K L M N O P Q S T U V W X Y Z a1 =
 (ob (D7 .lss e d) λm=>F3 m (ob (F7 20 c e) λs=>ob (D7 .eql (A7 14 s) (iI 5)) λl=>F3 l (ob (D7 .add e (iI 1)) λk=>Ka R a b c d k f g h o p q r t u v w x y z A B C D E F G H I J K L M N O P Q S T U V W X Y Z a1) (ob (D7 .neq (A7 11 s) b) λj=>K3 j (some (.I4 [(.agg [f,g,h,o,p,q,r,t,u,v,w,x,y,z,A,B,C,D,E,F,G,H,I,J,K,L,M,N,O,P,Q,S,T,U,V,W,X,Y,Z,a1]),(.agg ((iI 6)::(Dk [])))])) (ob (D7 .neq (A7 14 s) b) λi=>F3 i (some (.I4 [(.agg [f,g,h,o,p,q,r,t,u,v,w,x,y,z,A,B,C,D,E,F,G,H,I,J,K,L,M,N,O,P,Q,S,T,U,V,W,X,Y,Z,a1]),(.agg ((iI 6)::(Dk [])))])) (ob (R.p KA [(.agg [(A7 11 s),(A7 12 s),(A7 13 s)]),(iI 1)]) λd7=>
 ob (R.p KA [(.agg [(A7 14 s),(A7 15 s),(A7 16 s)]),(iI 1)]) λd8=>ob (R.p Eu [(I7 s),(A7 9 s),d7,d8,(.agg [G,H,I,J,K,L,M,N,O,P,Q,S,T,U,V,W,X,Y,Z,a1])]) λn=>og (E5 20 n)<|Mj R a b c d e f g h o p q r t u v w x y z A B C D E F G H I J K L M N O P Q S T U V W X Y Z a1 n)) none)) (jL R a b f g h o p q r t u v w x y z A B C D E F G H I J K L M N O P Q S T U V W X Y Z a1)):=J2 []
def Qw:Mj R a b c d e f g h o p q r t u v w x y z A B C D E F G H I J K L M N O P Q S T U V W X Y Z a1 a2 =
 (ob (R.p Dv [(I7 a2)]) λl=>ob (R8 .not l) λk=>F3 k (ob (R.p DN [(I7 a2)]) λn=>ob (K5 0 n) λm=>ob (K5 1 n) λs=>og (E5 20 m)<|og (E5 15 s)<|ob (D7 .neq (A7 0 s) (iI 0)) λj=>F3 j (some (.I4 [(.agg [f,g,h,o,p,q,r,t,u,v,w,x,y,z,A,B,C,D,E,F,G,H,I,J,K,L,M,N,O,P,Q,S,T,U,V,W,X,Y,Z,a1]),(AO s)])) (Mj R a b c d e f g h o p q r t u v w x y z A B C D E F G H I J K L M N O P Q S T U V W X Y Z a1 m)) (ob (D7 .add e (iI 1)) λi=>Ka R a b c d i f g h o p q r t u v w x y z A B C D E F (A7 0 a2) (A7 1 a2) (A7 2 a2) (A7 3 a2) (A7 4 a2) (A7 5 a2) (A7 6 a2) (A7 7 a2) (A7 8 a2) (A7 9 a2) (A7 10 a2) (A7 11 a2) (A7 12 a2) (A7 13 a2) (A7 14 a2) (A7 15 a2) (A7 16 a2) (A7 17 a2) (A7 18 a2) (A7 19 a2))):=J2 []
def fM:jL R a b c d e f g h o p q r t u v w x y z A B C D E F G H I J K L M N O P Q S T U V W X =
 (some (.I4 [(.agg [c,d,e,f,g,h,o,p,q,r,t,u,v,w,x,y,z,A,B,C,D,E,F,G,H,I,J,K,L,M,N,O,P,Q,S,T,U,V,W,X]),(.agg ((iI 0)::(Dk [])))])):=J2 []
def uW:C9.p WR [a,b]=A1x C9 a b:=Q0 func70
def A7G:=eP f71 A6j R [] (I6 f71 [(a,.val)] [])
def A5G:A7G R a =
 (og (J7 a)<|some (.agg [a,(iI 0),(.list 3 [])])):=F6 []
def A2P:C9.p WU [a]=A7G C9 a:=Q0 func71
def A7W:=eP f73 A6n R [] (I6 f73 [(a,.val),(b,.val),(c,.val)] [])
def B5F:A7W R a b c =
 (ob (AP 2 (.list 2 []) a) λx=>og (J7 b)<|og (J7 c)<|ob (AP 2 x (.list 2 [(.agg [b,c])])) λy=>some y):=F6 []
def B3Q:C9.p OA [a,b,c]=A7W C9 a b c:=Q0 func73
end
end Go.Su

/-
 Equations of the program's functions: by program.
-/
namespace Go.Su
set_option linter.defProp false
set_option maxRecDepth 100000
noncomputable section
open Go.Proofs
open Tryz
variable (R: U1)(i j k l m n: Nat)(a b c d e f g h o p q r t u v w x y z W X Y Z: DV)(s: List H7)
def zI:=eR f74 YP vK R [] (I6 f74 [(pt i),(a,.val)] s)
def uA:zI R i a s =
 (ob (D7 .gtr a (iI 3000)) λx=>F3 x (ob (Q7 s i) λc2=>ob (c2[0]?) λu3=>ob (jo a (iI 3000)) λy=>some ([y],(s.set i (H7.box (c2.set 0 ((.bool true),.val)))))) (ob (jo a (iI 3000)) λz=>some ([z],s))):=F6 []
def oW:C9.r CU [(.undef,(.ptr i 0)),(a,.val)] s=zI C9 i a s:=LU (s:=YP) func74
def A7J:=eP f75 rE R [] (I6 f75 [(a,.val)] [])
def Uk:=hP f75 rE R (pb 58) (ms 21 [(3,a),(4,b)] [] [(1,bx c 3)] [])
def A5J:A7J R a =
 (og (E5 3 a)<|Uk R (iI 1) (iI 0) a):=F6 []
def Yw:Uk R a b c =
 (ob (L6 (A7 2 c)) λx=>ob (D7 .lss b x) λy=>F3 y (ob (F7 3 (A7 2 c) b) λz=>ob (R.p FH [(R6 z)]) λw=>ob (D7 .add a w) λu=>ob (D7 .add b (iI 1)) λv=>Uk R u v c) (some a)):=J2 []
def A2S:C9.p FH [a]=A7J C9 a:=Q0 func75
def A48:=eP f76 A3o R [] (I6 f76 [(a,.val)] [])
def A2o:A48 R a =
 (og (E5 7 a)<|oc (R.r Zq [((IL a),.val),((.list 1 []),.own)] []) λq1 s1=>some q1):=F6 []
def A0x:C9.p Tz [a]=A48 C9 a:=Q0 func76
def jO:=eR f77 Iy Mt R [] (I6 f77 [(pt i),(a,.val),(b,.val),(c,.val)] s)
def LC:=hR f77 Iy Mt R (pb 58) (ms 50 [(1,a),(2,b),(3,c),(9,d),(10,e)] [(0,(.ptr i 0))] [] s)
def LD:=hR f77 Iy Mt R (pb 122) (ms 50 [(1,a),(2,b),(9,c),(11,d)] [(0,(.ptr i 0))] [] s)
def A4J:jO R i a b c s =
 (LC R i a b c (iI 1) (iI 0) s):=F6 []
def XW:LC R i a b c d e s =
 (ob (L6 c) λx=>ob (D7 .lss e x) λy=>F3 y (ob (F7 3 c e) λz=>ob (R.p FH [(R6 z)]) λw=>oc (R.r CU [(pt i),(w,.val)] s) λq5 s5=>ob (jm d q5) λu=>ob (D7 .add e (iI 1)) λv=>LC R i a b c u v s5) (ob (L6 a) λt=>ob (D7 .sub t (iI 1)) λq=>LD R i a b d q s)):=J2 []
def XX:LD R i a b c d s =
 (ob (D7 .geq d (iI 0)) λx=>F3 x (ob (F7 2 a d) λy=>ob (D7 .eql (A7 0 y) b) λz=>F3 z (ob (F7 2 a d) λw=>ob (D7 .mul c (A7 1 w)) λu=>oc (R.r CU [(pt i),(u,.val)] s) λq6 s6=>some ([q6],s6)) (ob (D7 .sub d (iI 1)) λv=>LD R i a b c v s)) (some ([(iI 1)],s))):=J2 []
def A2Y:C9.r VM [(.undef,(.ptr i 0)),(a,.val),(b,.val),(c,.val)] s=jO C9 i a b c s:=LU (s:=Iy) func77
def A1Q:=eP f78 eQ R [] (I6 f78 [(a,.val)] [])
def QM:=hP f78 eQ R (pb 58) (ms 19 [(9,a),(10,b),(11,c)] [] [] [])
def A0j:A1Q R a =
 (og (E5 20 a)<|ob (R.p wV [(I7 a)]) λx=>ob (R8 .not x) λy=>F3 y sF (ob (L6 (A7 19 a)) λz=>QM R (A7 19 a) z (iI 0))):=F6 []
def VZ:QM R a b c =
 (ob (D7 .lss c b) λx=>F3 x (ob (F7 20 a c) λy=>ob (R.p Qj [(I7 y)]) λz=>ob (R8 .not z) λw=>F3 w sF (ob (D7 .add c (iI 1)) λu=>QM R a b u)) sT):=J2 []
def vC:C9.p Qj [a]=A1Q C9 a:=Q0 func78
def af:=eR f79 Gn LH R [] (I6 f79 [(.undef,(.map i)),(a,.val),(b,.val)] s)
def JC:=hR f79 Gn LH R (pb 26) (ms 79 [(2,a),(8,b)] [(0,(.map i))] [(4,bx c 20),(6,some nK)] s)
def DT:=hR f79 Gn LH R (pb 26938) (ms 79 [(10,a),(54,b),(55,c),(56,d)] [(10,.own)] [(4,bx e 20),(6,some nK),(9,bx f 5)] s)
def A1j:af R i a b s =
 (og (E5 20 a)<|ob (L6 b) λx=>ob (D7 .sub x (iI 1)) λy=>JC R i b y a s):=F6 []
def UG:JC R i a b c s =
 (ob (D7 .geq b (iI 0)) λy=>F3 y (ob (F7 5 a b) λx=>ob (D7 .neq (A7 0 x) (A7 3 c)) λz=>F3 z (ob (D7 .sub b (iI 1)) λw=>JC R i a w c s) (ob (L6 (A7 4 x)) λu=>ob (L6 (A7 17 c)) λv=>ob (D7 .neq u v) λt=>F3 t (some ([(.agg (Bz [])),(iI 8)],s)) (oc (R.r EZ [(.undef,(.map i)),((A7 17 c),.val)] s) λq8 s8=>ob (R8 .not q8) λq=>F3 q (some ([(.agg (Bz [])),(iI 6)],s8)) (ob (L6 (A7 4 x)) λp=>ob (D7 .eql p (iI 0)) λo=>F3 o (some ([(.agg [(A7 1 x),(A7 2 x),(A7 3 x)]),(iI 0)],s8)) (ob (L6 (A7 4 x)) λn=>DT R (.list 4 []) (A7 4 x) n (iI 0) c x s8))))) (some ([(.agg (Bz [])),(iI 6)],s))):=J2 []
def TP:DT R a b c d e f s =
 (ob (D7 .lss d c) λu=>F3 u (ob (F7 1 b d) λx=>og (M7 x)<|ob (F7 3 (A7 17 e) d) λy=>og (J7 x)<|ob (AP 4 a (.list 4 [(.agg [x,(A7 0 y),(A7 1 y),(A7 2 y)])])) λv=>ob (D7 .add d (iI 1)) λt=>DT R v b c t e f s) (ob (R.p SB [(.agg [(A7 1 f),(A7 2 f),(A7 3 f)]),a]) λz=>ob (K5 0 z) λw=>ob (K5 1 z) λr=>og (E5 3 w)<|some ([(R6 w),r],s))):=J2 []
def xU:C9.r Li [(.undef,(.map i)),(a,.val),(b,.val)] s=af C9 i a b s:=LU (s:=Gn) func79
def fF:=eR f80 Hz MG R [] (I6 f80 [(.undef,(.map i)),(a,.val)] s)
def GV:=hR f80 Hz MG R (pb 26) (ms 28 [(9,a),(10,b),(11,c)] [(0,(.map i))] [] s)
def Ji:=hR f80 Hz MG R (pb 6758) (ms 28 [(9,a),(10,b),(11,c),(16,d),(17,e),(18,f)] [(0,(.map i))] [] s)
def A2e:fF R i a s =
 (ob (L6 a) λx=>GV R i a x (iI 0) s):=F6 []
def WC:GV R i a b c s =
 (ob (D7 .lss c b) λy=>F3 y (ob (F7 3 a c) λz=>ob (R.p wW [(R6 z)]) λx=>ob (L6 x) λw=>Ji R i a b c x w (iI 0) s) (some ([(.bool true)],s))):=J2 []
def WE:Ji R i a b c d e f s =
 (ob (D7 .lss f e) λy=>F3 y (ob (F7 1 d f) λx=>og (M7 x)<|og (Ao false x&&true)<|ob (X0 s i) λm3=>og (m3.1==false)<|ob (D7 .eql ((AQ m3.2 x).getD (iI 0)) (iI 0)) λz=>F3 z (some ([(.bool false)],s)) (ob (D7 .add f (iI 1)) λw=>Ji R i a b c d e w s)) (ob (D7 .add c (iI 1)) λu=>GV R i a b u s)):=J2 []
def A1k:C9.r EZ [(.undef,(.map i)),(a,.val)] s=fF C9 i a s:=LU (s:=Hz) func80
def A1B:=eR f81 Zi A0S R [] (I6 f81 [(a,.val),(b,.val)] s)
def B2c:A1B R a b s =
 (ob (L6 a) λx=>ob (L6 a) λy=>ob (Yq 5 a none x y) λz=>ob (AP 5 z b) λw=>some ([w],s)):=F6 []
def A99:C9.r KX [(a,.val),(b,.val)] s=A1B C9 a b s:=LU (s:=Zi) func81
def A4T:=eP f82 A3h R [] (I6 f82 [(a,.val),(b,.val)] [])
def B3A:A4T R a b =
 (og (E5 3 a)<|og (E5 3 b)<|some (.agg [(iI 9),(iI 0),(.list 3 [(R6 a),(R6 b)])])):=F6 []
def B2g:C9.p Zn [a,b]=A4T C9 a b:=Q0 func82
def Mk:=eR f83 QA bK R [] (I6 f83 [(.undef,(.map i)),(a,.val),(b,.val)] s)
def A2f:Mk R i a b s =
 (og (E5 20 a)<|oc (R.r K_ [(.undef,(.map i)),((A7 10 a),.val)] s) λq1 s1=>ob (R8 .not q1) λw=>F3 w (some ([(.agg (Bz [])),(iI 6)],s1)) (oc (R.r Ep [(.undef,(.map i)),((A7 10 a),.val),((iI 1),.val)] s1) λq3 s3=>ob (F7 20 (A7 19 a) (iI 0)) λu=>ob (R.r Y8 [(.undef,(.map i)),((I7 u),.val),(b,.val)] s3) λq5=>ob (K5 0 (.I4 q5.1)) λx=>ob (K5 1 (.I4 q5.1)) λy=>og (E5 3 x)<|oc (R.r Ep [(.undef,(.map i)),((A7 10 a),.val),((.int .i64 (-1)),.val)] q5.2) λq8 s8=>ob (D7 .neq y (iI 0)) λv=>F3 v (some ([(.agg (Bz [])),y],s8)) (ob (F7 20 (A7 19 a) (iI 1)) λt=>og (J7 (A7 3 a))<|og (J7 (A7 10 a))<|oc (R.r KX [(b,.val),((.list 5 [(.agg [(A7 3 a),(A7 0 x),(A7 1 x),(A7 2 x),(A7 10 a)])]),.val)] s8) λq11 s11=>ob (R.r Y8 [(.undef,(.map i)),((I7 t),.val),(q11,.val)] s11) λq12=>ob (K5 0 (.I4 q12.1)) λz=>
 ob (K5 1 (.I4 q12.1)) λq=>og (E5 3 z)<|some ([(R6 z),q],q12.2)))):=F6 []
def A1l:C9.r JV [(.undef,(.map i)),(a,.val),(b,.val)] s=Mk C9 i a b s:=LU (s:=QA) func83
def wm(x0:Nat)(x1 x2:DV)(sg:List H7){q:List DV×List H7}(h:Mk C9 x0 x1 x2 sg=some q):C9.r JV [(.undef,(.map x0)),(x1,.val),(x2,.val)] sg=some q:=(A1l x0 x1 x2 sg).trans h
def Ml:=eR f84 LM RG R [] (I6 f84 [(.undef,(.map i)),(a,.val),(b,.val)] s)
def Jj:=eR f84 LM RG R (pb 511) (ms 87 [(2,a),(11,b)] [(0,(.map i))] [(4,bx c 20),(6,some nK),(9,bv [d,e,f,g,(.list 1 [])]),(10,bv [h,o,p])] s)
def A2g:Ml R i a b s =
 (og (E5 20 a)<|oc (R.r K_ [(.undef,(.map i)),((A7 10 a),.val)] s) λq1 s1=>ob (R8 .not q1) λz=>F3 z (some ([(.agg (Bz [])),(iI 6)],s1)) (oc (R.r Ep [(.undef,(.map i)),((A7 10 a),.val),((iI 1),.val)] s1) λq3 s3=>oc (R.r EZ [(.undef,(.map i)),((.list 3 [(.agg [(A7 11 a),(A7 12 a),(A7 13 a)]),(.agg [(A7 14 a),(A7 15 a),(A7 16 a)])]),.val)] s3) λq4 s4=>ob (R.p Zn [(.agg [(A7 11 a),(A7 12 a),(A7 13 a)]),(.agg [(A7 14 a),(A7 15 a),(A7 16 a)])]) λx=>og (J7 (A7 3 a))<|og (E5 3 x)<|F3 q4 (ob (F7 20 (A7 19 a) (iI 0)) λw=>og (J7 (A7 4 a))<|oc (R.r KX [(b,.val),((.list 5 [(.agg [(A7 3 a),(A7 0 x),(A7 1 x),(A7 2 x),(.list 1 [])]),(.agg [(A7 4 a),(A7 11 a),(A7 12 a),(A7 13 a),(.list 1 [])])]),.val)] s4) λq7 s7=>ob (R.r Y8 [(.undef,(.map i)),((I7 w),.val),(q7,.val)] s7) λq8=>ob (K5 0 (.I4 q8.1)) λy=>ob (K5 1 (.I4 q8.1)) λu=>
 og (E5 3 y)<|Jj R i b u a (A7 3 a) (A7 0 x) (A7 1 x) (A7 2 x) (A7 0 y) (A7 1 y) (A7 2 y) q8.2) (Jj R i b (iI 6) a (A7 3 a) (A7 0 x) (A7 1 x) (A7 2 x) (iI 0) (iI 0) (.list 3 []) s4))):=F6 [10]
def tV:Jj R i a b c d e f g h o p s =
 (oc (R.r Ep [(.undef,(.map i)),((A7 10 c),.val),((.int .i64 (-1)),.val)] s) λq1 s1=>ob (D7 .neq b (iI 0)) λy=>F3 y (some ([(.agg (Bz [])),b],s1)) (ob (R.p EP [(.agg [h,o,p]),(.agg [(A7 14 c),(A7 15 c),(A7 16 c)])]) λz=>ob (R8 .not z) λw=>F3 w (some ([(.agg (Bz [])),(iI 4)],s1)) (og (J7 (A7 10 c))<|ob (F7 20 (A7 19 c) (iI 1)) λu=>oc (R.r KX [(a,.val),((.list 5 [(.agg [d,e,f,g,(A7 10 c)])]),.val)] s1) λq6 s6=>ob (R.r Y8 [(.undef,(.map i)),((I7 u),.val),(q6,.val)] s6) λq7=>ob (K5 0 (.I4 q7.1)) λx=>ob (K5 1 (.I4 q7.1)) λv=>og (E5 3 x)<|some ([(R6 x),v],q7.2)))):=F6 [10]
def A1m:C9.r JW [(.undef,(.map i)),(a,.val),(b,.val)] s=Ml C9 i a b s:=LU (s:=LM) func84
def wo(x0:Nat)(x1 x2:DV)(sg:List H7){q:List DV×List H7}(h:Ml C9 x0 x1 x2 sg=some q):C9.r JW [(.undef,(.map x0)),(x1,.val),(x2,.val)] sg=some q:=(A1m x0 x1 x2 sg).trans h
def LA:=eR f85 GH Jp R [] (I6 f85 [(.undef,(.map i)),(a,.val),(b,.val)] s)
def Ey:=hR f85 GH Jp R (pb 250) (ms 97 [(2,a),(34,b),(35,c),(36,d)] [(0,(.map i))] [(4,bx e 20),(6,some nK),(8,bx f 3),(10,bv [g,h,o])] s)
def AJ:=hR f85 GH Jp R (pb 1025658) (ms 97 [(2,a),(11,b),(15,c),(34,d),(35,e),(36,f),(53,g),(54,h),(55,o)] [(0,(.map i)),(15,.own)] [(4,bx p 20),(6,some nK),(8,bx q 3),(10,bv [r,t,u])] s)
def xH:LA R i a b s =
 (og (E5 20 a)<|ob (F7 20 (A7 19 a) (iI 0)) λz=>ob (R.r Y8 [(.undef,(.map i)),((I7 z),.val),(b,.val)] s) λq2=>ob (K5 0 (.I4 q2.1)) λx=>ob (K5 1 (.I4 q2.1)) λy=>og (E5 3 x)<|ob (D7 .neq y (iI 0)) λw=>F3 w (some ([(.agg (Bz [])),y],q2.2)) (ob (L6 (A7 18 a)) λu=>Ey R i b (A7 18 a) u (iI 0) a x (iI 0) (iI 0) (.list 3 []) q2.2)):=F6 []
def TN:Ey R i a b c d e f g h o s =
 (ob (D7 .lss d c) λw=>F3 w (ob (F7 7 b d) λu=>ob (R.p qN [(IL u),(R6 f)]) λx=>ob (K5 0 x) λy=>ob (K5 1 x) λz=>ob (D7 .neq z (iI 0)) λv=>F3 v (some ([(.agg (Bz [])),z],s)) (oc (R.r KX [(a,.val),((.list 5 []),.val)] s) λq7 s7=>ob (L6 y) λt=>AJ R i a d q7 b c d y t (iI 0) e f g h o s7)) (some ([(.agg [g,h,o]),(iI 0)],s))):=J2 []
def EA:AJ R i a b c d e f g h o p q r t u s =
 (ob (D7 .lss o h) λw=>F3 w (ob (F7 4 g o) λx=>og (J7 (A7 0 x))<|ob (AP 5 c (.list 5 [(.agg [(A7 0 x),(A7 1 x),(A7 2 x),(A7 3 x),(.list 1 [])])])) λv=>ob (D7 .add o (iI 1)) λn=>AJ R i a b v d e f g h n p q r t u s) (ob (D7 .add b (iI 1)) λm=>ob (F7 20 (A7 19 p) m) λl=>ob (R.r Y8 [(.undef,(.map i)),((I7 l),.val),(c,.val)] s) λq7=>ob (K5 0 (.I4 q7.1)) λy=>ob (K5 1 (.I4 q7.1)) λz=>og (E5 3 y)<|ob (D7 .neq z (iI 0)) λk=>F3 k (some ([(.agg (Bz [])),z],q7.2)) (ob (D7 .eql b (iI 0)) λj=>F3 j (ob (D7 .add f (iI 1)) λX=>Ey R i a d e X p q (A7 0 y) (A7 1 y) (A7 2 y) q7.2) (ob (R.p EP [(R6 y),(.agg [r,t,u])]) λY=>ob (R8 .not Y) λZ=>F3 Z (some ([(.agg (Bz [])),(iI 4)],q7.2)) (ob (D7 .add f (iI 1)) λW=>Ey R i a d e W p q r t u q7.2))))):=J2 []
def uh:C9.r Ho [(.undef,(.map i)),(a,.val),(b,.val)] s=LA C9 i a b s:=LU (s:=GH) func85
def qg(x0:Nat)(x1 x2:DV)(sg:List H7){q:List DV×List H7}(h:LA C9 x0 x1 x2 sg=some q):C9.r Ho [(.undef,(.map x0)),(x1,.val),(x2,.val)] sg=some q:=(uh x0 x1 x2 sg).trans h
def ae:=eR f86 Jv Px R [] (I6 f86 [(.undef,(.map i)),(a,.val),(b,.val)] s)
def JB:=hR f86 Jv Px R (pb 58) (ms 36 [(2,a),(8,b),(14,c),(15,d),(16,e)] [(0,(.map i)),(8,.own)] [] s)
def A1i:ae R i a b s =
 (og (E5 20 a)<|ob (L6 (A7 19 a)) λx=>JB R i b (.list 3 []) (A7 19 a) x (iI 0) s):=F6 []
def UF:JB R i a b c d e s =
 (ob (D7 .lss e d) λz=>F3 z (ob (F7 20 c e) λw=>ob (R.r Y8 [(.undef,(.map i)),((I7 w),.val),(a,.val)] s) λq3=>ob (K5 0 (.I4 q3.1)) λx=>ob (K5 1 (.I4 q3.1)) λy=>og (E5 3 x)<|ob (D7 .neq y (iI 0)) λu=>F3 u (some ([(.list 3 []),y],q3.2)) (ob (AP 3 b (.list 3 [(R6 x)])) λv=>ob (D7 .add e (iI 1)) λt=>JB R i a v c d t q3.2)) (some ([b,(iI 0)],s))):=J2 []
def xS:C9.r Qi [(.undef,(.map i)),(a,.val),(b,.val)] s=ae C9 i a b s:=LU (s:=Jv) func86
def jN:=eR f87 Iw Ms R [] (I6 f87 [(.undef,(.map i)),(a,.val),(b,.val)] s)
def LB:=eR f87 Iw Ms R (pb 6911) (ms 134 [(2,a),(11,b)] [(0,(.map i))] [(4,bx c 20),(6,some nK)] s)
def Er:=eR f87 Iw Ms R (pb 110587) (ms 134 [(2,a),(8,b),(9,c)] [] [(6,some nK)] s)
def A4I:jN R i a b s =
 (og (E5 20 a)<|ob (D7 .eql (A7 0 a) (iI 6)) λx=>F3 x (og (J7 b)<|some ([(.agg [(iI 7),(iI 0),b]),(iI 0)],s)) (ob (D7 .eql (A7 0 a) (iI 8)) λy=>F3 y (ob (F7 3 b (iI 1)) λz=>ob (D7 .eql (A7 0 z) (iI 8)) λw=>K3 w (ob (F7 3 b (iI 1)) λu=>ob (F7 3 (A7 2 u) (iI 0)) λv=>ob (F7 3 b (iI 0)) λt=>ob (R.p EP [(R6 v),(R6 t)]) λr=>F3 r (ob (F7 3 b (iI 1)) λq=>some ([(R6 q),(iI 0)],s)) (some ([(.agg (Bz [])),(iI 4)],s))) (some ([(.agg (Bz [])),(iI 4)],s)) none) (ob (D7 .eql (A7 0 a) (iI 10)) λo=>F3 o (ob (F7 3 b (iI 0)) λn=>ob (D7 .eql (A7 0 n) (iI 9)) λm=>K3 m (ob (F7 3 b (iI 0)) λl=>ob (F7 3 (A7 2 l) (iI 0)) λk=>ob (F7 3 b (iI 1)) λj=>ob (R.p EP [(R6 k),(R6 j)]) λh=>F3 h (ob (F7 3 b (iI 0)) λg=>ob (F7 3 (A7 2 g) (iI 1)) λf=>
 some ([(R6 f),(iI 0)],s)) (some ([(.agg (Bz [])),(iI 4)],s))) (some ([(.agg (Bz [])),(iI 4)],s)) none) (ob (D7 .eql (A7 0 a) (iI 13)) λe=>F3 e (ob (F7 3 b (iI 0)) λd=>ob (D7 .eql (A7 0 d) (iI 2)) λc=>K3 c (ob (F7 3 b (iI 1)) λX=>ob (F7 3 b (iI 2)) λY=>ob (R.p EP [(R6 X),(R6 Y)]) λZ=>F3 Z (ob (F7 3 b (iI 1)) λW=>some ([(R6 W),(iI 0)],s)) (some ([(.agg (Bz [])),(iI 4)],s))) (some ([(.agg (Bz [])),(iI 4)],s)) none) (LB R i b (A7 0 a) a s))))):=F6 [13,21]
def XL:LB R i a b c s =
 (ob (D7 .eql b (iI 15)) λx=>F3 x (ob (D7 .eql (A7 7 c) (iI 5)) λy=>F3 y (Er R a (iI 1) (iI 2) s) (ob (D7 .eql (A7 7 c) (iI 6)) λz=>F3 z (Er R a (iI 1) (iI 2) s) (ob (D7 .eql (A7 7 c) (iI 7)) λw=>F3 w (Er R a (iI 3) (iI 2) s) (Er R a (iI 1) (iI 1) s)))) (ob (D7 .eql b (iI 16)) λu=>F3 u (oc (R.r EZ [(.undef,(.map i)),((.list 3 [(.agg [(A7 11 c),(A7 12 c),(A7 13 c)]),(.agg [(A7 14 c),(A7 15 c),(A7 16 c)])]),.val)] s) λq6 s6=>ob (R8 .not q6) λv=>F3 v (some ([(.agg (Bz [])),(iI 6)],s6)) (ob (F7 3 a (iI 0)) λt=>ob (R.p EP [(R6 t),(.agg [(A7 11 c),(A7 12 c),(A7 13 c)])]) λq=>K3 q (ob (R.p cu [(.agg [(A7 11 c),(A7 12 c),(A7 13 c)]),(.agg [(A7 14 c),(A7 15 c),(A7 16 c)])]) λo=>F3 o (some ([(.agg [(A7 14 c),(A7 15 c),(A7 16 c)]),(iI 0)],s6)) (some ([(.agg (Bz [])),(iI 4)],s6))) (some ([(.agg (Bz [])),(iI 4)],s6)) none)) (some ([(.agg (Bz [])),(iI 4)],s)))):=F6 [13,21]
def xJ:Er R a b c s =
 (ob (F7 3 a (iI 0)) λx=>ob (D7 .eql (A7 0 x) b) λy=>K3 y (ob (F7 3 a (iI 1)) λz=>ob (D7 .eql (A7 0 z) b) λw=>F3 w (og (J7 c)<|some ([(.agg [c,(iI 0),(.list 3 [])]),(iI 0)],s)) (some ([(.agg (Bz [])),(iI 4)],s))) (some ([(.agg (Bz [])),(iI 4)],s)) none):=F6 [13,21]
def A2K:C9.r VL [(.undef,(.map i)),(a,.val),(b,.val)] s=jN C9 i a b s:=LU (s:=Iw) func87
def zG:=eP f88 ZM R [] (I6 f88 [(a,.val),(b,.val)] [])
def OE:=hP f88 ZM R (pb 58) (ms 27 [(0,a),(1,b),(5,c)] [] [] [])
def tu:zG R a b =
 (ob (L6 a) λx=>ob (L6 b) λy=>ob (D7 .neq x y) λz=>F3 z sF (OE R a b (iI 0))):=F6 []
def Td:OE R a b c =
 (ob (L6 a) λx=>ob (D7 .lss c x) λy=>F3 y (ob (F7 3 a c) λz=>ob (F7 3 b c) λw=>ob (R.p FF [(R6 z),(R6 w)]) λu=>ob (R8 .not u) λv=>F3 v sF (ob (D7 .add c (iI 1)) λt=>OE R a b t)) sT):=J2 []
def oU:C9.p dB [a,b]=zG C9 a b:=Q0 func88
def A7I:=eP f89 rD R [] (I6 f89 [(a,.val),(b,.val)] [])
def Uj:=hP f89 rD R (pb 58) (ms 46 [(5,a)] [] [(2,bx b 3),(3,bx c 3)] [])
def A5I:A7I R a b =
 (og (E5 3 a)<|og (E5 3 b)<|ob (D7 .neq (A7 0 a) (A7 0 b)) λx=>K3 x sF (ob (D7 .neq (A7 1 a) (A7 1 b)) λy=>K3 y sF (ob (L6 (A7 2 a)) λz=>ob (L6 (A7 2 b)) λw=>ob (D7 .neq z w) λu=>F3 u sF (Uj R (iI 0) a b)) none) none):=F6 []
def Yv:Uj R a b c =
 (ob (L6 (A7 2 b)) λx=>ob (D7 .lss a x) λy=>F3 y (ob (F7 3 (A7 2 b) a) λz=>ob (F7 3 (A7 2 c) a) λw=>ob (R.p FF [(R6 z),(R6 w)]) λu=>ob (R8 .not u) λv=>F3 v sF (ob (D7 .add a (iI 1)) λt=>Uj R t b c)) sT):=J2 []
def A2R:C9.p FF [a,b]=A7I C9 a b:=Q0 func89
def A1C:=eP f90 VF R [] (I6 f90 [(a,.val),(b,.val)] [])
def QF:=hP f90 VF R (pb 58) (ms 56 [(5,a)] [] [(2,bx b 16),(3,bx c 16)] [])
def QG:=hP f90 VF R (pb 122) (ms 56 [(6,a)] [] [(2,bx b 16),(3,bx c 16)] [])
def zk:A1C R a b =
 (og (E5 16 a)<|og (E5 16 b)<|ob (R.p gN [(A6P a),(A6P b)]) λx=>ob (R8 .not x) λy=>K3 y sF (ob (jk [.int,.int] (.agg [(A7 1 a),(A7 2 a)]) (.agg [(A7 1 b),(A7 2 b)])) λb3=>F3 (.bool !b3) sF (QF R (iI 0) a b)) none):=F6 []
def VP:QF R a b c =
 (ob (L6 (A7 14 b)) λx=>ob (D7 .lss a x) λy=>F3 y (ob (F7 7 (A7 14 b) a) λz=>ob (F7 7 (A7 14 c) a) λw=>ob (R.p Zr [(IL z),(IL w)]) λu=>ob (R8 .not u) λv=>F3 v sF (ob (D7 .add a (iI 1)) λt=>QF R t b c)) (QG R (iI 0) b c)):=J2 []
def VQ:QG R a b c =
 (ob (L6 (A7 15 b)) λx=>ob (D7 .lss a x) λy=>F3 y (ob (F7 16 (A7 15 b) a) λz=>ob (F7 16 (A7 15 c) a) λw=>ob (R.p WV [(A6P z),(A6P w)]) λu=>ob (R8 .not u) λv=>F3 v sF (ob (D7 .add a (iI 1)) λt=>QG R t b c)) sT):=J2 []
def uj:C9.p WV [a,b]=A1C C9 a b:=Q0 func90
end
end Go.Su

/-
 Equations of the program's functions: by program.
-/
namespace Go.Su
set_option linter.defProp false
set_option maxRecDepth 100000
noncomputable section
open Go.Proofs
open Tryz
variable (R: U1)(j k l m n: Nat)(a b c d e f o p q r t u v w x y z: DV)(s: List H7)
def A4X:=eP f91 lD R [] (I6 f91 [(a,.val)] [])
def SH:=hP f91 lD R (pb 26) (ms 32 [(0,a),(3,b)] [] [] [])
def A2j:A4X R a =
 (SH R a (iI 0)):=F6 []
def XO:SH R a b =
 (ob (L6 a) λx=>ob (D7 .lss b x) λy=>F3 y (ob (F7 3 a b) λz=>ob (R.p qK [(.list 3 [(R6 z)])]) λw=>K3 w sF (ob (F7 3 a b) λu=>ob (R.p gP [(R6 u),(iI 60)]) λv=>K3 v sF (ob (F7 3 a b) λt=>ob (R.p wR [(R6 t)]) λs=>ob (L6 s) λr=>ob (D7 .gtr r (iI 8)) λq=>F3 q sF (ob (D7 .add b (iI 1)) λo=>SH R a o)) none) none) sT):=J2 []
def A0s:C9.p qL [a]=A4X C9 a:=Q0 func91
def A7F:=eP f92 A6i R [] (I6 f92 [(a,.val)] [])
def A5F:A7F R a =
 (ob (D7 .eql a (iI 1)) λx=>F3 x (some (iI 0)) (ob (D7 .eql a (iI 2)) λy=>F3 y (some (iI 0)) (ob (D7 .eql a (iI 3)) λz=>F3 z (some (iI 0)) (ob (D7 .eql a (iI 4)) λw=>F3 w (some (iI 0)) (ob (D7 .eql a (iI 5)) λu=>F3 u (some (iI 0)) (ob (D7 .eql a (iI 6)) λv=>F3 v (some (iI 0)) (ob (D7 .eql a (iI 8)) λt=>F3 t (some (iI 1)) (ob (D7 .eql a (iI 7)) λs=>F3 s (some (iI 2)) (ob (D7 .eql a (iI 9)) λr=>F3 r (some (iI 2)) (some (.int .i64 (-1)))))))))))):=F6 []
def A2O:C9.p gL [a]=A7F C9 a:=Q0 func92
def B0L:=eP f93 gy R [] (I6 f93 [(a,.val)] [])
def Dx:=eP f93 gy R (pb 31) (ms 92 [(3,a)] [] [(1,bx b 7),(4,bv [c,(iI 0),(iI 0),d,e,f,(.list 7 [])])] [])
def Oy:=hP f93 gy R (pb 506) (ms 92 [(3,a),(5,b)] [] [(1,bx c 7)] [])
def A8B:B0L R a =
 (og (E5 7 a)<|og (J7 (A7 0 a))<|ob (D7 .eql (A7 0 a) (iI 1)) λx=>F3 x (Dx R (iI 0) a (A7 0 a) (.str ⟨#[]⟩) (iI 0) (.str ⟨#[]⟩)) (ob (D7 .eql (A7 0 a) (iI 6)) λy=>F3 y (Dx R (iI 0) a (A7 0 a) (.str ⟨#[]⟩) (iI 0) (.str ⟨#[]⟩)) (ob (D7 .eql (A7 0 a) (iI 8)) λz=>F3 z (Dx R (iI 0) a (A7 0 a) (.str ⟨#[]⟩) (iI 0) (.str ⟨#[]⟩)) (ob (D7 .eql (A7 0 a) (iI 2)) λw=>F3 w (og (J7 (A7 3 a))<|ob (R.p Jg [(A7 3 a)]) λu=>ob (R8 .not u) λv=>F3 v sF (Dx R (iI 0) a (A7 0 a) (A7 3 a) (iI 0) (.str ⟨#[]⟩))) (ob (D7 .eql (A7 0 a) (iI 3)) λt=>F3 t (og (J7 (A7 4 a))<|Dx R (iI 0) a (A7 0 a) (.str ⟨#[]⟩) (A7 4 a) (.str ⟨#[]⟩)) (ob (D7 .eql (A7 0 a) (iI 4)) λs=>F3 s (og (J7 (A7 4 a))<|ob (D7 .lss (A7 4 a) (iI 0)) λr=>K3 r sF (ob (D7 .gtr (A7 4 a) (iI 1)) λq=>F3 q sF (Dx R (iI 0) a (A7 0 a) (.str ⟨#[]⟩) (A7 4 a) (.str ⟨#[]⟩))) none) (ob (D7 .eql (A7 0 a) (iI 5)) λo=>
 F3 o (og (J7 (A7 5 a))<|ob (ES (A7 5 a)) λn=>ob (D7 .gtr n (iI 200)) λm=>F3 m sF (Dx R (iI 0) a (A7 0 a) (.str ⟨#[]⟩) (iI 0) (A7 5 a))) (ob (D7 .eql (A7 0 a) (iI 7)) λl=>F3 l (Dx R (iI 2) a (A7 0 a) (.str ⟨#[]⟩) (iI 0) (.str ⟨#[]⟩)) (ob (D7 .eql (A7 0 a) (iI 9)) λk=>F3 k (Dx R (iI 2) a (A7 0 a) (.str ⟨#[]⟩) (iI 0) (.str ⟨#[]⟩)) sF))))))))):=F6 [25]
def zm:Dx R a b c d e f =
 (ob (L6 (A7 6 b)) λx=>ob (D7 .neq x a) λy=>K3 y sF (ob (D7 .neq (A7 3 b) d) λz=>K3 z sF (ob (D7 .neq (A7 4 b) e) λw=>K3 w sF (ob (D7 .neq (A7 5 b) f) λu=>F3 u sF (Oy R a (iI 0) b)) none) none) none):=F6 [25]
def Y_:Oy R a b c =
 (ob (D7 .lss b a) λx=>F3 x (ob (F7 7 (A7 6 c) b) λy=>ob (R.p nO [(IL y)]) λz=>ob (R8 .not z) λw=>F3 w sF (ob (D7 .add b (iI 1)) λu=>Oy R a u c)) sT):=J2 [25]
def A57:C9.p nO [a]=B0L C9 a:=Q0 func93
def A46:=eP f94 A3m R [] (I6 f94 [(a,.val)] [])
def A2m:A46 R a =
 (ob (D7 .geq a (.int .u8 97)) λx=>K3 x (ob (D7 .leq a (.int .u8 122)) λy=>some y) sF none):=F6 []
def A0v:C9.p Tx [a]=A46 C9 a:=Q0 func94
def A7E:=eP f95 A6h R [] (I6 f95 [(a,.val)] [])
def A5E:A7E R a =
 (ob (R.p Tx [a]) λx=>K3 x sT (ob (R.p qP [a]) λy=>K3 y sT (ob (D7 .geq a (.int .u8 65)) λz=>K3 z (ob (D7 .leq a (.int .u8 90)) λw=>K3 w sT (ob (D7 .eql a (.int .u8 95)) λu=>K3 u sT (ob (D7 .eql a (.int .u8 39)) λv=>some v) none) none) (ob (D7 .eql a (.int .u8 95)) λt=>K3 t sT (ob (D7 .eql a (.int .u8 39)) λs=>some s) none) none) none) none):=F6 []
def A2N:C9.p wO [a]=A7E C9 a:=Q0 func95
def B0J:=eP f96 gu R [] (I6 f96 [(a,.val)] [])
def Ws:=hP f96 gu R (pb 26) (ms 40 [(0,a),(3,b)] [] [] [])
def Qm:=hP f96 gu R (pb 122) (ms 40 [(0,a),(4,b),(5,c)] [] [] [])
def A8z:B0J R a =
 (Ws R a (iI 0)):=F6 []
def dV:Ws R a b =
 (ob (ES a) λx=>ob (D7 .lss b x) λy=>F3 y (ob (Af a b) λz=>ob (R.p Tx [z]) λw=>ob (R8 .not w) λu=>F3 u sF (ob (D7 .add b (iI 1)) λv=>Ws R a v)) (ob (D7 .add (.str ⟨#[32]⟩) a) λt=>ob (D7 .add t (.str ⟨#[32]⟩)) λs=>Qm R a s (iI 0))):=J2 []
def dW:Qm R a b c =
 (ob (ES b) λx=>ob (D7 .add c x) λy=>ob (D7 .leq y (iI 81)) λz=>F3 z (ob (ES a) λw=>ob (D7 .gtr w (iI 0)) λu=>K3 u (ob (ES b) λv=>ob (D7 .add c v) λt=>ob (tL (.str ⟨#[32,108,101,116,32,114,101,99,32,105,110,32,102,117,110,32,105,102,32,116,104,101,110,32,101,108,115,101,32,109,97,116,99,104,32,119,105,116,104,32,101,110,100,32,116,114,117,101,32,102,97,108,115,101,32,105,110,116,32,98,111,111,108,32,115,116,114,105,110,103,32,117,110,105,116,32,108,105,115,116,32]⟩) (some c) (some t)) λs=>ob (D7 .eql s b) λr=>F3 r sT (ob (D7 .add c (iI 1)) λq=>Qm R a b q)) (ob (D7 .add c (iI 1)) λp=>Qm R a b p) none) sF):=J2 []
def A55:C9.p A1p [a]=B0J C9 a:=Q0 func96
def nT:=eP f97 Vg R [] (I6 f97 [(a,.val),(b,.val)] [])
def Dz:=hP f97 Vg R (pb 58) (ms 27 [(1,a),(5,b)] [] [(2,bx c 3)] [])
def VT:nT R a b =
 (og (E5 3 a)<|ob (D7 .add b (iI 1)) λx=>Dz R x (iI 0) a):=F6 []
def Hq:Dz R a b c =
 (ob (L6 (A7 2 c)) λx=>ob (D7 .lss b x) λy=>K3 y (ob (D7 .leq a (iI 20000)) λz=>F3 z (ob (F7 3 (A7 2 c) b) λw=>ob (R.p Ef [(R6 w),a]) λu=>ob (D7 .add b (iI 1)) λv=>Dz R u v c) (some a)) (some a) none):=J2 []
def Tt:C9.p Ef [a,b]=nT C9 a b:=Q0 func97
def A1E:=eP f98 A0T R [] (I6 f98 [(a,.val)] [])
def zn:A1E R a =
 (og (E5 3 a)<|ob (D7 .eql (A7 0 a) (iI 5)) λy=>K3 y (some (.I4 [(.agg (Bz [])),(.bool false)])) (ob (D7 .eql (A7 0 a) (iI 6)) λz=>F3 z (some (.I4 [(.agg (Bz [])),(.bool false)])) (ob (R.p jD [(A7 0 a)]) λx=>og (E5 3 x)<|some (.I4 [(R6 x),(.bool true)]))) none):=F6 []
def uk:C9.p jC [a]=A1E C9 a:=Q0 func98
def A7X:=eP f99 A6o R [] (I6 f99 [(a,.val),(b,.val),(c,.val),(d,.val)] [])
def A5U:A7X R a b c d =
 (og (E5 20 a)<|og (E5 3 b)<|og (E5 3 c)<|og (E5 20 d)<|og (J7 (A7 8 a))<|og (J7 (A7 9 a))<|some (.agg ((iI 16)::(Qe (cZ [(A7 8 a),(A7 9 a),(.list 1 []),(A7 0 b),(A7 1 b),(A7 2 b),(A7 0 c),(A7 1 c),(A7 2 c),(.list 3 []),(.list 7 []),(.list 20 [(I7 d)])]))))):=F6 []
def A24:C9.p Jh [a,b,c,d]=A7X C9 a b c d:=Q0 func99
def B0N:=eP f100 xX R [] (I6 f100 [(a,.val),(b,.val),(c,.val),(d,.val)] [])
def Wy:=hP f100 xX R (pb 58) (ms 62 [(1,a),(2,b),(10,c)] [] [(4,bx d 20),(7,bx e 20),(8,some MR)] [])
def A8D:B0N R a b c d =
 (og (E5 20 a)<|og (E5 20 d)<|ob (R.p KC [(I7 a)]) λx=>ob (R8 .not x) λy=>K3 y (some (.I4 [(.agg ((iI 0)::(EX []))),(iI 1)])) (ob (R.p KC [(I7 d)]) λz=>ob (R8 .not z) λw=>K3 w (some (.I4 [(.agg ((iI 0)::(EX []))),(iI 1)])) (ob (R.p Jg [b]) λu=>ob (R8 .not u) λv=>K3 v (some (.I4 [(.agg ((iI 0)::(EX []))),(iI 1)])) (ob (R.p gQ [(I7 d)]) λt=>
 ob (L6 t) λs=>ob (D7 .gtr s (iI 0)) λr=>F3 r (some (.I4 [(.agg ((iI 0)::(EX []))),(iI 1)])) (Wy R b c (iI 0) a d)) none) none) none):=F6 []
def dZ:Wy R a b c d e =
 (ob (L6 b) λw=>ob (D7 .lss c w) λu=>F3 u (ob (F7 1 b c) λx=>og (M7 x)<|ob (D7 .lss x (iI 0)) λv=>K3 v (some (.I4 [(.agg ((iI 0)::(EX []))),(iI 1)])) (ob (F7 1 b c) λy=>og (M7 y)<|ob (D7 .gtr y (iI 1048576)) λt=>F3 t (some (.I4 [(.agg ((iI 0)::(EX []))),(iI 1)])) (ob (D7 .add c (iI 1)) λs=>Wy R a b s d e)) none) (ob (L6 b) λr=>ob (R.p WX [(I7 d),a,r]) λq=>ob (R8 .not q) λo=>F3 o (some (.I4 [(.agg ((iI 0)::(EX []))),(iI 8)])) (ob (R.p SA [(I7 d),a,b,(I7 e)]) λz=>
 og (E5 20 z)<|some (.I4 [(I7 z),(iI 0)])))):=J2 []
def A59:C9.p A1q [a,b,c,d]=B0N C9 a b c d:=Q0 func100
def B3d:=eP f101 B1g R [] (I6 f101 [(a,.val),(b,.val),(c,.val)] [])
def B1a:B3d R a b c =
 (ob (D7 .eql a (iI 1)) λx=>F3 x (ob (D7 .add b c) λy=>some (.I4 [y,(.bool true)])) (ob (D7 .eql a (iI 2)) λz=>F3 z (ob (D7 .sub b c) λw=>some (.I4 [w,(.bool true)])) (ob (D7 .eql a (iI 3)) λu=>F3 u (ob (D7 .mul b c) λv=>some (.I4 [v,(.bool true)])) (ob (D7 .eql a (iI 4)) λt=>F3 t (ob (D7 .eql c (iI 0)) λs=>F3 s (some (.I4 [(iI 0),(.bool false)])) (ob (D7 .eql c (.int .i64 (-1))) λr=>F3 r (ob (D7 .sub (iI 0) b) λq=>some (.I4 [q,(.bool true)])) (ob (D7 .quo b c) λo=>some (.I4 [o,(.bool true)])))) (ob (D7 .eql a (iI 5)) λn=>F3 n (ob (D7 .lss b c) λm=>ob (R.p PZ [m]) λl=>some (.I4 [l,(.bool true)])) (ob (D7 .eql b c) λk=>ob (R.p PZ [k]) λj=>some (.I4 [j,(.bool true)]))))))):=F6 []
def A8P:C9.p A6N [a,b,c]=B3d C9 a b c:=Q0 func101
def A5i:=eP f102 A3s R [] (I6 f102 [(a,.val)] [])
def kJ:A5i R a =
 (F3 a (some (iI 1)) (some (iI 0))):=F6 []
def dw:C9.p PZ [a]=A5i C9 a:=Q0 func102
end
end Go.Su

/-
 Equations of the program's functions: by program.
-/
namespace Go.Su
set_option linter.defProp false
noncomputable section
open Go.Proofs
open Tryz
variable (R: U1)(i j k l m n: Nat)(a b c d e f g h o p q r t u v w x y z: DV)(s: List H7)
def A7Y:=eR f103 CX EM R [] (I6 f103 [(a,.val),(b,.val),(c,.own)] s)
def Qo:=eR f103 CX EM R (pb 127) (ms 168 [(2,a),(11,b)] [(2,.own)] [(3,bx c 7),(8,some Ck),(9,some Ck),(10,bx d 20)] s)
def dK:=eR f103 CX EM R (pb 2034) (ms 168 [(2,a)] [(2,.own)] [(3,bx b 7),(8,some Ck),(9,some Ck),(10,bx c 20)] s)
def dJ:=eR f103 CX EM R (pb 4067) (ms 168 [(2,a),(11,b)] [(2,.own)] [(3,bx c 7),(8,some Ck),(9,some Ck),(10,bx d 20)] s)
def dL:=eR f103 CX EM R (pb 2035) (ms 168 [(2,a),(11,b)] [(2,.own)] [(3,bx c 7),(8,some Ck),(9,some Ck),(10,bx d 20)] s)
def dM:=eR f103 CX EM R (pb 8143) (ms 168 [(2,a),(11,b)] [(2,.own)] [(3,bx c 7),(8,some Ck),(9,some Ck),(10,bx d 20)] s)
def dO:=eR f103 CX EM R (pb 32574) (ms 168 [(2,a)] [(2,.own)] [(8,some Ck),(9,some Ck)] s)
def dN:=eR f103 CX EM R (pb 65147) (ms 168 [(2,a),(11,b)] [(2,.own)] [(3,bx c 7),(8,some Ck),(9,some Ck),(10,bx d 20)] s)
def dP:=eR f103 CX EM R (pb 32575) (ms 168 [(2,a),(11,b)] [(2,.own)] [(3,bx c 7),(8,some Ck),(9,some Ck),(10,bx d 20)] s)
def Uz:=eR f103 CX EM R (pb 130302) (ms 168 [(2,a),(11,b)] [(2,.own)] [(3,bx c 7),(8,some Ck),(10,bx d 20)] s)
def dQ:=eR f103 CX EM R (pb 260603) (ms 168 [(2,a),(11,b)] [(2,.own)] [(3,bx c 7),(8,some Ck),(9,some Ck),(10,bx d 20)] s)
set_option maxRecDepth 100000 in
def A5V:A7Y R a b c s =
 (og (E5 7 a)<|og (E5 20 b)<|ob (D7 .eql (A7 0 a) (iI 1)) λz=>F3 z (some ([c,(.bool true),(.agg ((iI 0)::(Dk [])))],s)) (ob (D7 .eql (A7 0 a) (iI 2)) λw=>F3 w (og (J7 (A7 3 a))<|ob (AP 21 c (.list 21 [(.agg [(A7 3 a),(A7 0 b),(A7 1 b),(A7 2 b),(A7 3 b),(A7 4 b),(A7 5 b),(A7 6 b),(A7 7 b),(A7 8 b),(A7 9 b),(A7 10 b),(A7 11 b),(A7 12 b),(A7 13 b),(A7 14 b),(A7 15 b),(A7 16 b),(A7 17 b),(A7 18 b),(A7 19 b)])])) λu=>some ([u,(.bool true),(.agg ((iI 0)::(Dk [])))],s)) (ob (R.r WZ [((I7 b),.val)] s) λq4=>ob (K5 0 (.I4 q4.1)) λy=>ob (K5 1 (.I4 q4.1)) λx=>og (E5 20 y)<|ob (L6 x) λv=>
 ob (D7 .gtr v (iI 0)) λt=>K3 t (ob (L6 x) λq=>ob (D7 .sub q (iI 1)) λp=>ob (F7 20 x p) λo=>ob (D7 .eql (A7 14 o) (iI 5)) λn=>F3 n (some ([(.list 21 []),(.bool false),(.agg ((iI 0)::(Dk [])))],q4.2)) (Qo R c x a y q4.2)) (Qo R c x a y q4.2) none))):=F6 [9,10,11,12,14,15,16,17,18,19]
def Gy:Qo R a b c d s =
 (ob (D7 .eql (A7 0 c) (iI 3)) λx=>K3 x (ob (D7 .eql (A7 0 d) (iI 2)) λy=>F3 y (dK R a c d s) (dJ R a b c d s)) (dJ R a b c d s) none):=F6 [9,10,11,12,14,15,16,17,18,19]
def Fv:dK R a b c s =
 (ob (D7 .eql (A7 4 b) (A7 5 c)) λx=>some ([a,x,(.agg ((iI 0)::(Dk [])))],s)):=F6 [9,10,11,12,14,15,16,17,18,19]
def Fu:dJ R a b c d s =
 (ob (D7 .eql (A7 0 c) (iI 4)) λx=>K3 x (ob (D7 .eql (A7 0 d) (iI 3)) λy=>F3 y (dK R a c d s) (dL R a b c d s)) (dL R a b c d s) none):=F6 [9,10,11,12,14,15,16,17,18,19]
def Fw:dL R a b c d s =
 (ob (D7 .eql (A7 0 c) (iI 5)) λx=>K3 x (ob (D7 .eql (A7 0 d) (iI 4)) λy=>F3 y (ob (D7 .eql (A7 5 c) (A7 6 d)) λz=>some ([a,z,(.agg ((iI 0)::(Dk [])))],s)) (dM R a b c d s)) (dM R a b c d s) none):=F6 [9,10,11,12,14,15,16,17,18,19]
def Fx:dM R a b c d s =
 (ob (D7 .eql (A7 0 c) (iI 6)) λx=>K3 x (ob (D7 .eql (A7 0 d) (iI 5)) λy=>F3 y (dO R a s) (dN R a b c d s)) (dN R a b c d s) none):=F6 [9,10,11,12,14,15,16,17,18,19]
def Fz:dO R a s =
 (some ([a,(.bool true),(.agg ((iI 0)::(Dk [])))],s)):=F6 [9,10,11,12,14,15,16,17,18,19]
def Fy:dN R a b c d s =
 (ob (D7 .eql (A7 0 c) (iI 8)) λx=>K3 x (ob (D7 .eql (A7 0 d) (iI 7)) λy=>F3 y (dO R a s) (dP R a b c d s)) (dP R a b c d s) none):=F6 [9,10,11,12,14,15,16,17,18,19]
def F_:dP R a b c d s =
 (ob (D7 .eql (A7 0 c) (iI 7)) λx=>K3 x (ob (D7 .eql (A7 0 d) (iI 6)) λy=>F3 y (Uz R a b c d s) (dQ R a b c d s)) (dQ R a b c d s) none):=F6 [9,10,11,12,14,15,16,17,18,19]
def uJ:Uz R a b c d s =
 (ob (R.p Zt [(I7 d),b]) λy=>ob (K5 0 y) λz=>ob (K5 1 y) λx=>og (E5 15 x)<|ob (D7 .neq (A7 0 x) (iI 0)) λv=>F3 v (some ([(.list 21 []),(.bool false),(AO x)],s)) (ob (F7 7 (A7 6 c) (iI 0)) λt=>ob (F7 20 z (iI 0)) λq=>ob (R.r Ll [((IL t),.val),((I7 q),.val),(a,.own)] s) λq7=>ob (K5 0 (.I4 q7.1)) λo=>ob (K5 1 (.I4 q7.1)) λn=>ob (K5 2 (.I4 q7.1)) λw=>og (E5 15 w)<|ob (R8 .not n) λm=>F3 m (some ([(.list 21 []),(.bool false),(AO w)],q7.2)) (ob (F7 7 (A7 6 c) (iI 1)) λl=>ob (F7 20 z (iI 1)) λk=>ob (R.r Ll [((IL l),.val),((I7 k),.val),(o,.own)] q7.2) λq14=>ob (K5 0 (.I4 q14.1)) λj=>ob (K5 1 (.I4 q14.1)) λi=>ob (K5 2 (.I4 q14.1)) λu=>og (E5 15 u)<|some ([j,i,(AO u)],q14.2)))):=F6 [9,10,11,12,14,15,16,17,18,19]
def GA:dQ R a b c d s =
 (ob (D7 .eql (A7 0 c) (iI 9)) λx=>K3 x (ob (D7 .eql (A7 0 d) (iI 8)) λy=>F3 y (Uz R a b c d s) (some ([(.list 21 []),(.bool false),(.agg ((iI 0)::(Dk [])))],s))) (some ([(.list 21 []),(.bool false),(.agg ((iI 0)::(Dk [])))],s)) none):=F6 [9,10,11,12,14,15,16,17,18,19]
def A25:C9.r Ll [(a,.val),(b,.val),(c,.own)] s=A7Y C9 a b c s:=LU (s:=CX) func103
def B3c:=eP f104 A3p R [] (I6 f104 [(a,.val)] [])
def Zz:=hP f104 A3p R (pb 58) (ms 20 [(0,a),(4,b)] [] [(2,some nK),(3,some [(c,.val),((iI 0),.val),(d,.own)])] [])
def B09:B3c R a =
 (og (J7 a)<|Zz R a (iI 0) a (.list 3 [])):=F6 []
def kC:Zz R a b c d =
 (ob (R.p gL [a]) λy=>ob (D7 .lss b y) λz=>F3 z (ob (R.p WU [(iI 5)]) λx=>og (E5 3 x)<|ob (AP 3 d (.list 3 [x])) λw=>ob (D7 .add b (iI 1)) λu=>Zz R a u c w) (some (.agg [c,(iI 0),d]))):=J2 []
def A8O:C9.p jD [a]=B3c C9 a:=Q0 func104
def A5k(R:U1)(x0:DV)(x1 x2:Nat)(sg:List H7):Option (List DV×List H7):=eR f105 JU NW R [] (I6 f105 [(x0,.val),(.undef,(.map x1)),(.undef,(.map x2))] sg)
def O_:=eR f105 JU NW R (pb 7) (ms 66 [] [(1,(.map i)),(2,(.map j))] [(3,bx a 20)] s)
def NJ:=hR f105 JU NW R (pb 30) (ms 66 [(29,a),(30,b),(31,c)] [(1,(.map i)),(2,(.map j))] [(3,bx d 20)] s)
def NK:=hR f105 JU NW R (pb 31130) (ms 66 [(8,a),(29,b),(30,c),(31,d),(39,e),(40,f),(41,g)] [(1,(.map i)),(2,(.map j))] [(3,bx h 20),(7,bx o 20)] s)
def JF:=hR f105 JU NW R (pb 62270) (ms 66 [(29,a),(30,b),(31,c),(54,d),(55,e),(56,f)] [(1,(.map i)),(2,(.map j))] [(3,bx g 20)] s)
def kK(R:U1)(x0:DV)(x1 x2:Nat)(sg:List H7):A5k R x0 x1 x2 sg =
 (og (E5 20 x0)<|ob (D7 .eql (A7 0 x0) (iI 1)) λx=>K3 x (og (Ao true (A7 3 x0)&&true)<|ob (X0 sg x1) λm2=>og (m2.1==true)<|ob (D7 .eql ((AQ m2.2 (A7 3 x0)).getD (iI 0)) (iI 0)) λy=>F3 y (og (Ao true (A7 3 x0)&&true)<|ob (X0 sg x2) λm4=>og (m4.1==true)<|ob (D7 .add ((AQ m4.2 (A7 3 x0)).getD (iI 0)) (iI 1)) λz=>og (Ao true (A7 3 x0)&&true&&true)<|ob (X0 sg x2) λm6=>og (m6.1==true)<|O_ R x1 x2 x0 (sg.set x2 (.map true (BJ m6.2 (A7 3 x0) z)))) (O_ R x1 x2 x0 sg)) (O_ R x1 x2 x0 sg) none):=F6 [3]
def uM:O_ R i j a s =
 (ob (L6 (A7 19 a)) λx=>NJ R i j (A7 19 a) x (iI 0) a s):=F6 [3]
def Xb:NJ R i j a b c d s =
 (ob (D7 .lss c b) λy=>F3 y (ob (F7 20 a c) λz=>ob (R.p Wh [(I7 d),c]) λx=>ob (L6 x) λw=>NK R i j x a b c x w (iI 0) d z s) (some ([],s))):=J2 [3]
def Xc:NK R i j a b c d e f g h o s =
 (ob (D7 .lss g f) λy=>F3 y (ob (F7 1 e g) λx=>og (M7 x)<|og (Ao true x&&true)<|ob (X0 s i) λm3=>og (m3.1==true)<|ob (D7 .add ((AQ m3.2 x).getD (iI 0)) (iI 1)) λz=>og (Ao true x&&true&&true)<|ob (X0 s i) λm5=>og (m5.1==true)<|ob (D7 .add g (iI 1)) λw=>NK R i j a b c d e f w h o (s.set i (.map true (BJ m5.2 x z)))) (oc (R.r Pd [((I7 o),.val),(.undef,(.map i)),(.undef,(.map j))] s) λq7 s7=>ob (L6 a) λu=>JF R i j b c d a u (iI 0) h s7)):=J2 [3]
def VW:JF R i j a b c d e f g s =
 (ob (D7 .lss f e) λy=>F3 y (ob (F7 1 d f) λx=>og (M7 x)<|og (Ao true x&&true)<|ob (X0 s i) λm3=>og (m3.1==true)<|ob (D7 .sub ((AQ m3.2 x).getD (iI 0)) (iI 1)) λz=>og (Ao true x&&true&&true)<|ob (X0 s i) λm5=>og (m5.1==true)<|ob (D7 .add f (iI 1)) λw=>JF R i j a b c d e w g (s.set i (.map true (BJ m5.2 x z)))) (ob (D7 .add c (iI 1)) λu=>NJ R i j a b u g s)):=J2 [3]
def d_(x0:DV)(x1 x2:Nat)(sg:List H7):C9.r Pd [(x0,.val),(.undef,(.map x1)),(.undef,(.map x2))] sg=A5k C9 x0 x1 x2 sg:=LU (s:=JU) func105
def nQ:=eP f107 kv R [] (I6 f107 [(a,.val)] [])
def jv:nQ R a =
 (og (E5 3 a)<|ob (R.p Ov [(R6 a)]) λx=>ob (K5 0 x) λy=>ob (K5 1 x) λz=>og (E5 3 y)<|K3 z (ob (R.p EP [(R6 y),(R6 a)]) λw=>some w) sF none):=F6 []
def fo:C9.p WQ [a]=nQ C9 a:=Q0 func107
def A4O:=eP f108 A3e R [] (I6 f108 [(a,.val),(b,.val),(c,.val),(d,.val),(e,.val)] [])
def A2b:A4O R a b c d e =
 (og (E5 20 a)<|og (E5 3 c)<|og (E5 3 d)<|og (E5 20 e)<|og (J7 (A7 8 a))<|og (J7 b)<|some (.agg ((iI 16)::(Qe (cZ [(A7 8 a),b,(.list 1 []),(A7 0 c),(A7 1 c),(A7 2 c),(A7 0 d),(A7 1 d),(A7 2 d),(.list 3 []),(.list 7 []),(.list 20 [(I7 e)])]))))):=F6 []
def A0n:C9.p Eu [a,b,c,d,e]=A4O C9 a b c d e:=Q0 func108
def A71:=eP f109 A6r R [] (I6 f109 [(a,.val),(b,.val),(c,.val),(d,.val)] [])
def A5Y:A71 R a b c d =
 (og (E5 20 a)<|og (E5 20 d)<|og (J7 b)<|og (J7 c)<|ob (R.r JX [(pt 0),((I7 a),.val)] [H7.box [(b,.val),(c,.val),((A7 0 d),.val),((A7 1 d),.val),((A7 2 d),.val),((A7 3 d),.val),((A7 4 d),.val),((A7 5 d),.val),((A7 6 d),.val),((A7 7 d),.val),((A7 8 d),.val),((A7 9 d),.val),((A7 10 d),.val),((A7 11 d),.val),((A7 12 d),.val),((A7 13 d),.val),((A7 14 d),.val),((A7 15 d),.val),((A7 16 d),.val),((A7 17 d),.val),((A7 18 d),.val),((A7 19 d),.val)]]) λq1=>ob (K5 0 (.I4 q1.1)) λx=>ob (K5 1 (.I4 q1.1)) λy=>og (E5 20 x)<|ob (R8 .not y) λz=>F3 z (some (.I4 [(.agg ((iI 0)::(EX []))),(iI 8)])) (some (.I4 [(I7 x),(iI 0)]))):=F6 []
def A28:C9.p wU [a,b,c,d]=A71 C9 a b c d:=Q0 func109
def A1y:=eP f110 A0Q R [] (I6 f110 [(a,.val)] [])
def zf:A1y R a =
 (F3 a (some (.agg ((iI 3)::(Qe ((iI 1)::(.str ⟨#[]⟩)::(iI 0)::(Ue [(.list 20 [])])))))) (some (.agg ((iI 3)::(EX []))))):=F6 []
def uZ:C9.p ND [a]=A1y C9 a:=Q0 func110
end
end Go.Su

/-
 Equations of the program's functions: by program.
-/
namespace Go.Su
set_option linter.defProp false
set_option maxRecDepth 100000
noncomputable section
open Go.Proofs
open Tryz
variable (R: U1)(i j k l m n: Nat)(a b c d e f g h o p q r t u v w x y z U V W X Y Z: DV)(s: List H7)
def YT:=eR f111 GG Jo R [] (I6 f111 [(pt i),(a,.val),(b,.val)] s)
def IR:=eR f111 GG Jo R (pb 31) (ms 141 [(7,a)] [(0,(.ptr i 0))] [(4,bx b 7),(8,bx c 20)] s)
def DR:=eR f111 GG Jo R (pb 127) (ms 141 [(7,a)] [(0,(.ptr i 0))] [(4,bx b 7),(8,bx c 20)] s)
def XJ:YT R i a b s =
 (og (E5 7 a)<|og (E5 20 b)<|ob (D7 .eql (A7 0 a) (iI 1)) λw=>F3 w (some ([(.bool true)],s)) (ob (D7 .eql (A7 0 a) (iI 2)) λu=>F3 u (ob (Q7 s i) λc3=>ob (Ld c3 0) λx=>og (J7 (A7 3 a))<|ob (AP 21 x (.list 21 [(.agg [(A7 3 a),(A7 0 b),(A7 1 b),(A7 2 b),(A7 3 b),(A7 4 b),(A7 5 b),(A7 6 b),(A7 7 b),(A7 8 b),(A7 9 b),(A7 10 b),(A7 11 b),(A7 12 b),(A7 13 b),(A7 14 b),(A7 15 b),(A7 16 b),(A7 17 b),(A7 18 b),(A7 19 b)])])) λv=>ob (Q7 (s.set i (H7.box (c3.set 0 (x,.val)))) i) λc6=>ob (c6[0]?) λu7=>some ([(.bool true)],((s.set i (H7.box (c3.set 0 (x,.val)))).set i (H7.box (c6.set 0 (v,.own)))))) (ob (R.r Qh [((I7 b),.val)] s) λq8=>ob (K5 0 (.I4 q8.1)) λz=>ob (K5 1 (.I4 q8.1)) λy=>og (E5 20 y)<|ob (D7 .eql (A7 0 b) (iI 16)) λt=>K3 t (ob (D7 .eql (A7 14 b) (iI 5)) λq=>F3 q (some ([(.bool false)],q8.2)) (IR R i z a y q8.2)) (IR R i z a y q8.2) none))):=F6 [10,23]
def TK:IR R i a b c s =
 (ob (D7 .eql (A7 0 b) (iI 3)) λx=>F3 x (ob (D7 .eql (A7 0 c) (iI 2)) λy=>K3 y (ob (D7 .eql (A7 5 c) (A7 4 b)) λz=>some ([z],s)) (some ([(.bool false)],s)) none) (ob (D7 .eql (A7 0 b) (iI 4)) λw=>F3 w (ob (D7 .eql (A7 0 c) (iI 3)) λu=>K3 u (ob (D7 .eql (A7 5 c) (A7 4 b)) λv=>some ([v],s)) (some ([(.bool false)],s)) none) (ob (D7 .eql (A7 0 b) (iI 5)) λt=>F3 t (ob (D7 .eql (A7 0 c) (iI 4)) λr=>K3 r (ob (D7 .eql (A7 6 c) (A7 5 b)) λq=>some ([q],s)) (some ([(.bool false)],s)) none) (ob (D7 .eql (A7 0 b) (iI 6)) λp=>F3 p (ob (D7 .eql (A7 0 c) (iI 5)) λo=>some ([o],s)) (ob (D7 .eql (A7 0 b) (iI 8)) λn=>F3 n (ob (D7 .eql (A7 0 c) (iI 7)) λm=>some ([m],s)) (ob (D7 .eql (A7 0 b) (iI 7)) λl=>K3 l (ob (D7 .neq (A7 0 c) (iI 6)) λk=>K3 k (some ([(.bool false)],s)) (ob (D7 .eql (A7 0 b) (iI 9)) λj=>K3 j (ob (D7 .neq (A7 0 c) (iI 8)) λh=>F3 h (some ([(.bool false)],s)) (DR R i a b c s)) (DR R i a b c s) none) none) (ob (D7 .eql (A7 0 b) (iI 9)) λg=>
 K3 g (ob (D7 .neq (A7 0 c) (iI 8)) λf=>F3 f (some ([(.bool false)],s)) (DR R i a b c s)) (DR R i a b c s) none) none)))))):=F6 [10,23]
def TL:DR R i a b c s =
 (ob (R.p WR [a,(I7 c)]) λz=>ob (K5 0 z) λx=>ob (K5 1 z) λy=>og (E5 40 x)<|og (E5 15 y)<|ob (D7 .neq (A7 0 y) (iI 0)) λw=>F3 w (ob (Q7 s i) λc5=>if 1+15<=c5.length then(some ([(.bool false)],(s.set i (H7.box (Ic c5 1 [((A7 0 y),.val),((A7 1 y),.val),((A7 2 y),.val),((A7 3 y),.val),((A7 4 y),.val),((A7 5 y),.val),((A7 6 y),.val),((A7 7 y),.val),((A7 8 y),.val),((A7 9 y),.val),((A7 10 y),.val),((A7 11 y),.val),((A7 12 y),.val),((A7 13 y),.val),((A7 14 y),.val)])))))else none) (ob (F7 7 (A7 6 b) (iI 0)) λu=>oc (R.r CO [(pt i),((IL u),.val),((I7 x),.val)] s) λq7 s7=>K3 q7 (ob (F7 7 (A7 6 b) (iI 1)) λv=>oc (R.r CO [(pt i),((IL v),.val),((.agg [(A7 20 x),(A7 21 x),(A7 22 x),(A7 23 x),(A7 24 x),(A7 25 x),(A7 26 x),(A7 27 x),(A7 28 x),(A7 29 x),(A7 30 x),(A7 31 x),(A7 32 x),(A7 33 x),(A7 34 x),(A7 35 x),(A7 36 x),(A7 37 x),(A7 38 x),(A7 39 x)]),.val)] s7) λq9 s9=>
 some ([q9],s9)) (some ([(.bool false)],s7)) none)):=F6 [10,23]
def WF:C9.r CO [(.undef,(.ptr i 0)),(a,.val),(b,.val)] s=YT C9 i a b s:=LU (s:=GG) func111
def A74:=eP f112 rM R [] (I6 f112 [(a,.val),(b,.val)] [])
def VB:=hP f112 rM R (pb 58) (ms 45 [(29,a),(30,b),(31,c)] [] [(3,bx d 3)] [])
def A51:A74 R a b =
 (og (E5 3 a)<|og (E5 3 b)<|ob (D7 .neq (A7 0 a) (A7 0 b)) λx=>K3 x sF (ob (D7 .neq (A7 1 a) (A7 1 b)) λy=>K3 y sF (ob (L6 (A7 2 a)) λz=>ob (L6 (A7 2 b)) λw=>ob (D7 .neq z w) λu=>F3 u sF (ob (L6 (A7 2 a)) λv=>VB R (A7 2 a) v (iI 0) b)) none) none):=F6 []
def ZJ:VB R a b c d =
 (ob (D7 .lss c b) λx=>F3 x (ob (F7 3 a c) λy=>ob (F7 3 (A7 2 d) c) λz=>ob (R.p EP [(R6 y),(R6 z)]) λw=>ob (R8 .not w) λu=>F3 u sF (ob (D7 .add c (iI 1)) λv=>VB R a b v d)) sT):=J2 []
def A3b:C9.p EP [a,b]=A74 C9 a b:=Q0 func112
def zF:=eP f113 Sk R [] (I6 f113 [(a,.val)] [])
def Cq:=eP f113 Sk R (pb 490) (ms 36 [] [] [(1,bx a 3),(2,some nK),(4,some [(b,.val),((iI 0),.val),((.list 3 []),.own)])] [])
def Mo:=hP f113 Sk R (pb 3922) (ms 36 [(24,a),(25,b)] [] [(2,some nK),(4,some [(c,.val),((iI 0),.val),(d,.own)])] [])
def tZ:zF R a =
 (og (E5 3 a)<|ob (R.p GN [(R6 a)]) λx=>ob (D7 .neq x (iI 0)) λy=>F3 y (some (.I4 [(.agg (Bz [])),(.bool false)])) (og (J7 (A7 0 a))<|ob (D7 .eql (A7 0 a) (iI 1)) λz=>F3 z (Cq R a (A7 0 a)) (ob (D7 .eql (A7 0 a) (iI 2)) λw=>F3 w (Cq R a (A7 0 a)) (ob (D7 .eql (A7 0 a) (iI 3)) λu=>F3 u (Cq R a (A7 0 a)) (ob (D7 .eql (A7 0 a) (iI 4)) λv=>F3 v (Cq R a (A7 0 a)) (ob (D7 .eql (A7 0 a) (iI 7)) λt=>F3 t (Cq R a (A7 0 a)) (ob (D7 .eql (A7 0 a) (iI 8)) λs=>F3 s (Cq R a (A7 0 a)) (ob (D7 .eql (A7 0 a) (iI 9)) λr=>F3 r (Cq R a (A7 0 a)) (some (.I4 [(.agg (Bz [])),(.bool false)])))))))))):=F6 [12]
def fO:Cq R a b =
 (ob (L6 (A7 2 a)) λx=>Mo R x (iI 0) b (.list 3 [])):=F6 [12]
def Qz:Mo R a b c d =
 (ob (D7 .lss b a) λx=>F3 x (ob (AP 3 d (.list 3 [(.agg [(iI 5),(iI 0),(.list 3 [])])])) λy=>ob (D7 .add b (iI 1)) λz=>Mo R a z c y) (some (.I4 [(.agg [c,(iI 0),d]),(.bool true)]))):=J2 [12]
def oQ:C9.p Ov [a]=zF C9 a:=Q0 func113
def A4Q:=eP f114 A3g R [] (I6 f114 [(a,.val),(b,.val)] [])
def A2d:A4Q R a b =
 (og (E5 3 a)<|ob (D7 .eql (A7 0 a) (iI 8)) λx=>K3 x (ob (D7 .eql b (iI 1)) λy=>F3 y (some (R6 a)) (ob (F7 3 (A7 2 a) b) λz=>some (R6 z))) (ob (F7 3 (A7 2 a) b) λw=>some (R6 w)) none):=F6 []
def A0p:C9.p KA [a,b]=A4Q C9 a b:=Q0 func114
def A49:=eR f115 VK lI R [] (I6 f115 [(a,.val),(b,.own)] s)
def KO:=hR f115 VK lI R (pb 58) (ms 29 [(1,a),(5,b)] [(1,.own)] [(2,bx c 7)] s)
def A2p:A49 R a b s =
 (og (E5 7 a)<|ob (D7 .eql (A7 0 a) (iI 2)) λx=>F3 x (og (J7 (A7 3 a))<|ob (AP 1 b (.list 1 [(A7 3 a)])) λy=>KO R y (iI 0) a s) (KO R b (iI 0) a s)):=F6 []
def XT:KO R a b c s =
 (ob (L6 (A7 6 c)) λx=>ob (D7 .lss b x) λy=>F3 y (ob (F7 7 (A7 6 c) b) λz=>oc (R.r Zq [((IL z),.val),(a,.own)] s) λq4 s4=>ob (D7 .add b (iI 1)) λw=>KO R q4 w c s4) (some ([a],s))):=J2 []
def A0y:C9.r Zq [(a,.val),(b,.own)] s=A49 C9 a b s:=LU (s:=VK) func115
def A72:=eP f116 MZ R [] (I6 f116 [(a,.val)] [])
def jR:=eP f116 MZ R (pb 115) (ms 183 [] [] [(1,bx a 20),(3,bx b 13)] [])
def Ih:=eP f116 MZ R (pb 463) (ms 183 [] [] [(1,bx a 20),(3,bx b 13)] [])
def NL:=eP f116 MZ R (pb 1855) (ms 183 [] [] [(1,bx a 20),(3,bx b 13)] [])
def Lc:=eP f116 MZ R (pb 7423) (ms 183 [] [] [(1,bx a 20),(3,bx b 13)] [])
def VA:=eP f116 MZ R (pb 29695) (ms 183 [] [] [(1,bx a 20),(3,bx b 13)] [])
def A5Z:A72 R a =
 (og (E5 20 a)<|ob (R.p SC [(I7 a)]) λy=>ob (K5 0 y) λx=>ob (K5 1 y) λz=>og (E5 13 x)<|ob (R8 .not z) λw=>K3 w sF (ob (L6 (A7 19 a)) λu=>ob (D7 .neq u (A7 12 x)) λv=>K3 v sF (ob (R.p Wi [(A7 0 x),(A7 3 a)]) λt=>ob (R8 .not t) λs=>K3 s sF (ob (R.p Wi [(A7 1 x),(A7 4 a)]) λr=>ob (R8 .not r) λq=>K3 q sF (ob (R.p Wl [(A7 9 x),(.agg [(A7 11 a),(A7 12 a),(A7 13 a)])]) λo=>ob (R8 .not o) λn=>K3 n sF (ob (R.p Wl [(A7 10 x),(.agg [(A7 14 a),(A7 15 a),(A7 16 a)])]) λm=>ob (R8 .not m) λl=>F3 l sF (jR R a x)) none) none) none) none) none):=F6 [4,6,8,10,12]
def A0g:jR R a b =
 (ob (R8 .not (A7 2 b)) λx=>K3 x (ob (D7 .neq (A7 5 a) (iI 0)) λy=>K3 y sF (ob (D7 .eql (A7 0 a) (iI 3)) λz=>K3 z (ob (D7 .neq (A7 5 a) (iI 0)) λw=>K3 w (ob (D7 .neq (A7 5 a) (iI 1)) λu=>F3 u sF (Ih R a b)) (Ih R a b) none) (Ih R a b) none) none) (ob (D7 .eql (A7 0 a) (iI 3)) λv=>K3 v (ob (D7 .neq (A7 5 a) (iI 0)) λt=>K3 t (ob (D7 .neq (A7 5 a) (iI 1)) λs=>F3 s sF (Ih R a b)) (Ih R a b) none) (Ih R a b) none) none):=F6 [4,6,8,10,12]
def A0h:Ih R a b =
 (ob (R8 .not (A7 3 b)) λx=>K3 x (ob (D7 .neq (A7 6 a) (.str ⟨#[]⟩)) λy=>K3 y sF (ob (ES (A7 6 a)) λz=>ob (D7 .gtr z (iI 200)) λw=>K3 w sF (ob (R8 .not (A7 5 b)) λu=>K3 u (ob (jk [.int,.int] (.agg [(A7 1 a),(A7 2 a)]) (.agg [(iI 0),(iI 0)])) λb6=>F3 (.bool !b6) sF (NL R a b)) (NL R a b) none) none) none) (ob (ES (A7 6 a)) λv=>ob (D7 .gtr v (iI 200)) λt=>K3 t sF (ob (R8 .not (A7 5 b)) λs=>K3 s (ob (jk [.int,.int] (.agg [(A7 1 a),(A7 2 a)]) (.agg [(iI 0),(iI 0)])) λb10=>F3 (.bool !b10) sF (NL R a b)) (NL R a b) none) none) none):=F6 [4,6,8,10,12]
def A0i:NL R a b =
 (K3 (A7 4 b) (ob (D7 .lss (A7 7 a) (iI 1)) λx=>K3 x sF (ob (D7 .gtr (A7 7 a) (iI 7)) λy=>K3 y sF (ob (R8 .not (A7 4 b)) λz=>K3 z (ob (D7 .neq (A7 7 a) (iI 0)) λw=>F3 w sF (Lc R a b)) (Lc R a b) none) none) none) (ob (R8 .not (A7 4 b)) λu=>K3 u (ob (D7 .neq (A7 7 a) (iI 0)) λv=>F3 v sF (Lc R a b)) (Lc R a b) none) none):=F6 [4,6,8,10,12]
def uN:Lc R a b =
 (ob (R8 .not (A7 11 b)) λx=>K3 x (ob (D7 .neq (A7 8 a) (iI 0)) λy=>K3 y sF (K3 (A7 9 a) sF (ob (D7 .lss (A7 8 a) (iI 0)) λz=>K3 z sF (ob (D7 .gtr (A7 8 a) (iI 1048576)) λw=>F3 w sF (VA R a b)) none) none) none) (ob (D7 .lss (A7 8 a) (iI 0)) λu=>K3 u sF (ob (D7 .gtr (A7 8 a) (iI 1048576)) λv=>F3 v sF (VA R a b)) none) none):=F6 [4,6,8,10,12]
def uO:VA R a b =
 (ob (R8 .not (A7 6 b)) λx=>K3 x (ob (L6 (A7 10 a)) λy=>ob (D7 .gtr y (iI 0)) λz=>K3 z sF (ob (R8 .not (A7 7 b)) λw=>K3 w (ob (L6 (A7 17 a)) λu=>ob (D7 .gtr u (iI 0)) λv=>K3 v sF (ob (R8 .not (A7 8 b)) λt=>K3 t (ob (L6 (A7 18 a)) λs=>ob (D7 .gtr s (iI 0)) λr=>F3 r sF (ob (R.p Ev [(I7 a)]) λq=>some q)) (ob (R.p Ev [(I7 a)]) λo=>some o) none) none) (ob (R8 .not (A7 8 b)) λn=>K3 n (ob (L6 (A7 18 a)) λm=>ob (D7 .gtr m (iI 0)) λl=>F3 l sF (ob (R.p Ev [(I7 a)]) λk=>some k)) (ob (R.p Ev [(I7 a)]) λj=>some j) none) none) none) (ob (R8 .not (A7 7 b)) λi=>K3 i (ob (L6 (A7 17 a)) λh=>ob (D7 .gtr h (iI 0)) λg=>K3 g sF (ob (R8 .not (A7 8 b)) λf=>K3 f (ob (L6 (A7 18 a)) λe=>ob (D7 .gtr e (iI 0)) λd=>F3 d sF (ob (R.p Ev [(I7 a)]) λc=>
 some c)) (ob (R.p Ev [(I7 a)]) λX=>some X) none) none) (ob (R8 .not (A7 8 b)) λY=>K3 Y (ob (L6 (A7 18 a)) λZ=>ob (D7 .gtr Z (iI 0)) λW=>F3 W sF (ob (R.p Ev [(I7 a)]) λU=>some U)) (ob (R.p Ev [(I7 a)]) λV=>some V) none) none) none):=F6 [4,6,8,10,12]
def A29:C9.p wV [a]=A72 C9 a:=Q0 func116
def sO:=eP f117 Xq R [] (I6 f117 [(a,.val),(b,.val)] [])
def Ja:=hP f117 Xq R (pb 122) (ms 56 [(1,a),(16,b),(17,c),(18,d)] [(6,(.map 0))] [(2,bx e 3),(4,some nK)] s)
def oJ:sO R a b =
 (og (E5 3 a)<|ob (R.p GN [(R6 a)]) λx=>ob (D7 .neq x (iI 0)) λy=>F3 y (some (.I4 [(.agg (Bz [])),(iI 1)])) (ob (L6 b) λz=>Ja R b b z (iI 0) a [.map false []])):=F6 []
def RD:Ja R a b c d e s =
 (ob (D7 .lss d c) λy=>F3 y (ob (F7 4 b d) λx=>ob (D7 .lss (A7 0 x) (iI 0)) λz=>K3 z (some (.I4 [(.agg (Bz [])),(iI 1)])) (ob (D7 .gtr (A7 0 x) (iI 1048576)) λw=>K3 w (some (.I4 [(.agg (Bz [])),(iI 1)])) (ob (R.p GN [(.agg [(A7 1 x),(A7 2 x),(A7 3 x)])]) λu=>ob (D7 .neq u (iI 0)) λv=>F3 v (some (.I4 [(.agg (Bz [])),(iI 1)])) (og (Ao false (A7 0 x)&&true)<|ob (X0 s 0) λm7=>og (m7.1==false)<|ob (R8 .not (.bool (AQ m7.2 (A7 0 x)).isSome)) λt=>F3 t (og (Ao false (A7 0 x)&&true&&true)<|ob (X0 s 0) λm9=>og (m9.1==false)<|ob (D7 .add d (iI 1)) λq=>Ja R a b c q e (s.set 0 (.map false (BJ m9.2 (A7 0 x) d)))) (ob (D7 .add d (iI 1)) λo=>Ja R a b c o e s))) none) none) (oc (R.r Wd [((R6 e),.val),(a,.val),(.undef,(.map 0))] s) λq12 s12=>og (E5 3 q12)<|some (.I4 [(.agg [(A7 0 q12),(A7 1 q12),(A7 2 q12)]),(iI 0)]))):=J2 []
def kY:C9.p SB [a,b]=sO C9 a b:=Q0 func117
def A75:=eP f118 A6t R [] (I6 f118 [(a,.val)] [])
def B5G:A75 R a =
 (og (E5 3 a)<|oc (R.r gX [((R6 a),.val),(.undef,(.map 0)),((.list 1 []),.own)] [.map false []]) λq1 s1=>some q1):=F6 []
def B3R:C9.p wW [a]=A75 C9 a:=Q0 func118
def YW:=eR f119 JQ Oa R [] (I6 f119 [(.undef,(.map i)),(a,.val)] s)
def IW:=hR f119 JQ Oa R (pb 26) (ms 26 [(1,a),(7,b),(8,c),(9,d)] [(0,(.map i))] [] s)
def xK:YW R i a s =
 (ob (L6 a) λx=>IW R i a a x (iI 0) s):=F6 []
def TR:IW R i a b c d s =
 (ob (D7 .lss d c) λy=>F3 y (ob (F7 1 b d) λx=>og (M7 x)<|og (Ao false x&&true)<|ob (X0 s i) λm3=>og (m3.1==false)<|ob (D7 .gtr ((AQ m3.2 x).getD (iI 0)) (iI 0)) λz=>K3 z (some ([(.bool false)],s)) (ob (Cz 1 a none (some d)) λw=>ob (R.p FJ [w,x]) λu=>F3 u (some ([(.bool false)],s)) (ob (D7 .add d (iI 1)) λv=>IW R i a b c v s)) none) (some ([(.bool true)],s))):=J2 []
def ui:C9.r K_ [(.undef,(.map i)),(a,.val)] s=YW C9 i a s:=LU (s:=JQ) func119
def YV:=eR f120 JP OZ R [] (I6 f120 [(.undef,(.map i)),(a,.val),(b,.val)] s)
def IV:=hR f120 JP OZ R (pb 6) (ms 20 [(2,a),(8,b),(9,c),(10,d)] [(0,(.map i))] [] s)
def xG:YV R i a b s =
 (ob (L6 a) λx=>IV R i b a x (iI 0) s):=F6 []
def TM:IV R i a b c d s =
 (ob (D7 .lss d c) λy=>F3 y (ob (F7 1 b d) λx=>og (M7 x)<|og (Ao false x&&true)<|ob (X0 s i) λm3=>og (m3.1==false)<|ob (D7 .add ((AQ m3.2 x).getD (iI 0)) a) λz=>og (Ao false x&&true&&true)<|ob (X0 s i) λm5=>og (m5.1==false)<|ob (D7 .add d (iI 1)) λw=>IV R i a b c w (s.set i (.map false (BJ m5.2 x z)))) (some ([],s))):=J2 []
def ug:C9.r Ep [(.undef,(.map i)),(a,.val),(b,.val)] s=YV C9 i a b s:=LU (s:=JP) func120
def A42:=eP f121 A3j R [] (I6 f121 [(a,.val),(b,.val)] [])
def B3D:A42 R a b =
 (og (E5 7 a)<|og (E5 3 b)<|ob (R.p QD [(IL a)]) λx=>ob (D7 .neq x (iI 0)) λy=>K3 y (some (.I4 [(.list 4 []),(iI 1)])) (ob (R.p GN [(R6 b)]) λz=>ob (D7 .neq z (iI 0)) λw=>F3 w (some (.I4 [(.list 4 []),(iI 1)])) (ob (R.r Tw [((IL a),.val),((R6 b),.val),((.list 4 []),.own)] []) λq5=>ob (K5 0 (.I4 q5.1)) λu=>ob (K5 1 (.I4 q5.1)) λv=>ob (R8 .not v) λt=>F3 t (some (.I4 [(.list 4 []),(iI 4)])) (some (.I4 [u,(iI 0)])))) none):=F6 []
def B2j:C9.p qN [a,b]=A42 C9 a b:=Q0 func121
def y_:=eP f122 vH R [] (I6 f122 [(a,.val),(b,.val)] [])
def A90:y_ R a b =
 (og (E5 3 a)<|og (E5 3 b)<|ob (R.p GN [(R6 a)]) λx=>ob (D7 .eql x (iI 0)) λy=>K3 y (ob (R.p GN [(R6 b)]) λz=>ob (D7 .eql z (iI 0)) λw=>K3 w (ob (R.p Ry [(R6 a),(R6 b)]) λu=>some u) sF none) sF none):=F6 []
def A8M:C9.p cu [a,b]=y_ C9 a b:=Q0 func122
def A7N:=eP f123 UK R [] (I6 f123 [(a,.val),(b,.val)] [])
def A1D:=eP f123 UK R (pb 7) (ms 117 [] [] [(2,bx a 16),(3,bx b 16)] [])
def Um:=hP f123 UK R (pb 122) (ms 117 [(5,a)] [] [(2,bx b 16),(3,bx c 16)] [])
def SK:=hP f123 UK R (pb 250) (ms 117 [(6,a)] [] [(2,bx b 16),(3,bx c 16)] [])
def A5N:A7N R a b =
 (og (E5 16 a)<|og (E5 16 b)<|ob (D7 .neq (A7 0 a) (A7 0 b)) λx=>K3 x sF (ob (D7 .neq (A7 3 a) (A7 3 b)) λy=>K3 y sF (ob (D7 .neq (A7 4 a) (A7 4 b)) λz=>K3 z sF (ob (D7 .neq (A7 5 a) (A7 5 b)) λw=>K3 w sF (ob (D7 .neq (A7 6 a) (A7 6 b)) λu=>K3 u sF (ob (D7 .neq (A7 7 a) (A7 7 b)) λv=>K3 v sF (ob (L6 (A7 14 a)) λt=>ob (L6 (A7 14 b)) λs=>ob (D7 .neq t s) λr=>K3 r sF (ob (L6 (A7 15 a)) λq=>ob (L6 (A7 15 b)) λp=>ob (D7 .neq q p) λo=>F3 o sF (A1D R a b)) none) none) none) none) none) none) none):=F6 [3]
def zl:A1D R a b =
 (ob (R.p FF [(.agg [(A7 8 a),(A7 9 a),(A7 10 a)]),(.agg [(A7 8 b),(A7 9 b),(A7 10 b)])]) λx=>ob (R8 .not x) λy=>K3 y sF (ob (R.p FF [(.agg [(A7 11 a),(A7 12 a),(A7 13 a)]),(.agg [(A7 11 b),(A7 12 b),(A7 13 b)])]) λz=>ob (R8 .not z) λw=>F3 w sF (Um R (iI 0) a b)) none):=F6 [3]
def Yz:Um R a b c =
 (ob (L6 (A7 14 b)) λx=>ob (D7 .lss a x) λy=>F3 y (ob (F7 7 (A7 14 b) a) λz=>ob (F7 7 (A7 14 c) a) λw=>ob (R.p Uf [(IL z),(IL w)]) λu=>ob (R8 .not u) λv=>F3 v sF (ob (D7 .add a (iI 1)) λt=>Um R t b c)) (SK R (iI 0) b c)):=J2 [3]
def XR:SK R a b c =
 (ob (L6 (A7 15 b)) λx=>ob (D7 .lss a x) λy=>F3 y (ob (F7 16 (A7 15 b) a) λz=>ob (F7 16 (A7 15 c) a) λw=>ob (R.p gN [(A6P z),(A6P w)]) λu=>ob (R8 .not u) λv=>F3 v sF (ob (D7 .add a (iI 1)) λt=>SK R t b c)) sT):=J2 [3]
def A2W:C9.p gN [a,b]=A7N C9 a b:=Q0 func123
def A5a:=eP f124 lJ R [] (I6 f124 [(a,.val),(b,.val)] [])
def SL:=hP f124 lJ R (pb 58) (ms 30 [(5,a)] [] [(2,bx b 7),(3,bx c 7)] [])
def A2q:A5a R a b =
 (og (E5 7 a)<|og (E5 7 b)<|ob (jk [.int,.int] (.agg [(A7 1 a),(A7 2 a)]) (.agg [(A7 1 b),(A7 2 b)])) λb1=>F3 (.bool !b1) sF (SL R (iI 0) a b)):=F6 []
def XU:SL R a b c =
 (ob (L6 (A7 6 b)) λx=>ob (D7 .lss a x) λy=>F3 y (ob (F7 7 (A7 6 b) a) λz=>ob (F7 7 (A7 6 c) a) λw=>ob (R.p Zr [(IL z),(IL w)]) λu=>ob (R8 .not u) λv=>F3 v sF (ob (D7 .add a (iI 1)) λt=>SL R t b c)) sT):=J2 []
def A0z:C9.p Zr [a,b]=A5a C9 a b:=Q0 func124
def A4V:=eP f125 k_ R [] (I6 f125 [(a,.val)] [])
def Yh:=hP f125 k_ R (pb 58) (ms 19 [(0,a),(3,b),(4,c)] [] [] [])
def A2h:A4V R a =
 (Yh R a (iI 0) (iI 0)):=F6 []
def XM:Yh R a b c =
 (ob (L6 a) λx=>ob (D7 .lss c x) λy=>F3 y (ob (F7 3 a c) λz=>ob (R.p Zp [(R6 z),b]) λw=>ob (D7 .add c (iI 1)) λu=>Yh R a w u) (ob (D7 .gtr b (iI 600)) λv=>some v)):=J2 []
def A0q:C9.p qK [a]=A4V C9 a:=Q0 func125
end
end Go.Su

/-
 Equations of the program's functions: by program.
-/
namespace Go.Su
set_option linter.defProp false
set_option maxRecDepth 100000
noncomputable section
open Go.Proofs
open Tryz
variable (R: U1)(i j k l m n: Nat)(a b c d e f g h o p q r t u v w x y z U V W X Y Z: DV)(s: List H7)
def A7O:=eP f126 rF R [] (I6 f126 [(a,.val),(b,.val)] [])
def Un:=hP f126 rF R (pb 58) (ms 23 [(1,a),(5,b)] [] [(2,bx c 3)] [])
def A5O:A7O R a b =
 (og (E5 3 a)<|ob (D7 .leq b (iI 0)) λx=>F3 x sT (Un R b (iI 0) a)):=F6 []
def ZA:Un R a b c =
 (ob (L6 (A7 2 c)) λx=>ob (D7 .lss b x) λy=>F3 y (ob (F7 3 (A7 2 c) b) λz=>ob (D7 .sub a (iI 1)) λw=>ob (R.p gP [(R6 z),w]) λu=>F3 u sT (ob (D7 .add b (iI 1)) λv=>Un R a v c)) sF):=J2 []
def A2X:C9.p gP [a,b]=A7O C9 a b:=Q0 func126
def A7K:=eP f127 A6l R [] (I6 f127 [(a,.val)] [])
def A5K:A7K R a =
 (og (E5 3 a)<|oc (R.r gM [((R6 a),.val),((.list 1 []),.own)] []) λq1 s1=>some q1):=F6 []
def A2T:C9.p wR [a]=A7K C9 a:=Q0 func127
def A45:=eP f128 A3l R [] (I6 f128 [(a,.val)] [])
def A2l:A45 R a =
 (ob (D7 .geq a (.int .u8 48)) λx=>K3 x (ob (D7 .leq a (.int .u8 57)) λy=>some y) sF none):=F6 []
def A0u:C9.p qP [a]=A45 C9 a:=Q0 func128
def A1F:=eP f129 eF R [] (I6 f129 [(a,.val),(b,.val),(c,.val)] [])
def GY:=hP f129 eF R (pb 58) (ms 48 [(1,a),(2,b),(7,c)] [] [(3,bx d 20)] [])
def zo:A1F R a b c =
 (og (E5 20 a)<|ob (D7 .eql (A7 0 a) (iI 1)) λx=>K3 x (ob (D7 .eql (A7 3 a) b) λy=>K3 y (ob (L6 (A7 17 a)) λz=>ob (D7 .neq z c) λw=>F3 w sF (GY R b c (iI 0) a)) (GY R b c (iI 0) a) none) (GY R b c (iI 0) a) none):=F6 []
def VS:GY R a b c d =
 (ob (L6 (A7 19 d)) λx=>ob (D7 .lss c x) λy=>F3 y (ob (R.p T_ [(I7 d),c]) λz=>ob (R.p Vs [z,a]) λw=>ob (R8 .not w) λu=>K3 u (ob (F7 20 (A7 19 d) c) λv=>ob (R.p WX [(I7 v),a,b]) λt=>ob (R8 .not t) λs=>F3 s sF (ob (D7 .add c (iI 1)) λr=>GY R a b r d)) (ob (D7 .add c (iI 1)) λq=>GY R a b q d) none) sT):=J2 []
def ul:C9.p WX [a,b,c]=A1F C9 a b c:=Q0 func129
def sM:=eP f130 QX R [] (I6 f130 [(a,.val),(b,.val),(c,.val),(d,.val)] [])
def OH:=eP f130 QX R (pb 7) (ms 61 [(1,a),(2,b)] [] [(4,bx c 20),(7,bx d 20),(8,some MR)] [])
def JZ:=hP f130 QX R (pb 122) (ms 61 [(1,a),(2,b),(9,c),(10,d)] [(9,.own)] [(4,bx e 20),(7,bx f 20),(8,some MR)] [])
def oH:sM R a b c d =
 (og (E5 20 a)<|og (E5 20 d)<|ob (D7 .eql (A7 0 a) (iI 1)) λy=>K3 y (ob (D7 .eql (A7 3 a) b) λz=>F3 z (ob (R.p qQ [c,(A7 17 a)]) λw=>ob (R.p UA [(I7 d),w]) λx=>og (E5 20 x)<|some (I7 x)) (OH R b c a d)) (OH R b c a d) none):=F6 [3]
def fP:OH R a b c d =
 (JZ R a b (.list 20 []) (iI 0) c d):=F6 [3]
def RA:JZ R a b c d e f =
 (ob (L6 (A7 19 e)) λy=>ob (D7 .lss d y) λz=>F3 z (ob (R.p T_ [(I7 e),d]) λw=>ob (R.p Vs [w,a]) λu=>F3 u (ob (F7 20 (A7 19 e) d) λv=>ob (AP 20 c (.list 20 [(I7 v)])) λt=>ob (D7 .add d (iI 1)) λs=>JZ R a b t s e f) (ob (F7 20 (A7 19 e) d) λr=>ob (R.p SA [(I7 r),a,b,(I7 f)]) λx=>og (E5 20 x)<|ob (AP 20 c (.list 20 [x])) λq=>ob (D7 .add d (iI 1)) λo=>JZ R a b q o e f)) (some (.agg [(A7 0 e),(A7 1 e),(A7 2 e),(A7 3 e),(A7 4 e),(A7 5 e),(A7 6 e),(A7 7 e),(A7 8 e),(A7 9 e),(A7 10 e),(A7 11 e),(A7 12 e),(A7 13 e),(A7 14 e),(A7 15 e),(A7 16 e),(A7 17 e),(A7 18 e),c]))):=J2 [3]
def kW:C9.p SA [a,b,c,d]=sM C9 a b c d:=Q0 func130
def A1I:=eR f131 Zj A0V R [] (I6 f131 [(a,.val)] s)
def zz:A1I R a s =
 (og (E5 20 a)<|ob (D7 .neq (A7 0 a) (iI 16)) λy=>F3 y (some ([(I7 a),(.list 20 [])],s)) (ob (F7 20 (A7 19 a) (iI 0)) λz=>ob (R.r WZ [((I7 z),.val)] s) λq3=>ob (K5 0 (.I4 q3.1)) λx=>ob (K5 1 (.I4 q3.1)) λw=>og (E5 20 x)<|ob (AP 20 w (.list 20 [(I7 a)])) λu=>some ([(I7 x),u],q3.2))):=F6 []
def uq:C9.r WZ [(a,.val)] s=A1I C9 a s:=LU (s:=Zj) func131
def A5g:=eP f132 Xp R [] (I6 f132 [(a,.val),(b,.val)] [])
def NI:=hP f132 Xp R (pb 250) (ms 92 [(1,a),(6,b),(7,c),(8,d)] [(6,.own)] [(2,bx e 20),(5,some Ck)] [])
def Lt:=hP f132 Xp R (pb 64074) (ms 92 [(1,a),(6,b),(7,c),(8,d),(10,e)] [(6,.own)] [(2,bx f 20),(5,some Ck),(9,bx g 20)] [])
def A2w:A5g R a b =
 (og (E5 20 a)<|ob (D7 .eql (A7 0 a) (iI 8)) λx=>F3 x (NI R b (.list 20 []) (iI 8) (iI 0) a) (NI R b (.list 20 []) (iI 7) (iI 0) a)):=F6 []
def QV:NI R a b c d e =
 (ob (D7 .lss d (iI 2)) λx=>F3 x (ob (F7 20 (A7 19 e) d) λy=>Lt R a b c d (iI 0) e y) (some (.I4 [b,(.agg ((iI 0)::(Dk [])))]))):=J2 []
def Kk:Lt R a b c d e f g =
 (ob (L6 a) λs=>ob (D7 .lss e s) λr=>F3 r (ob (F7 20 a e) λq=>ob (D7 .eql (A7 14 q) (iI 5)) λo=>F3 o (ob (D7 .add e (iI 1)) λn=>Lt R a b c d n f g) (ob (F7 20 a e) λm=>ob (D7 .neq (A7 11 m) c) λl=>K3 l (ob (R.p Am []) λw=>og (E5 15 w)<|some (.I4 [(.list 20 []),(AO w)])) (ob (F7 20 a e) λk=>ob (D7 .neq (A7 14 k) c) λj=>F3 j (ob (R.p Am []) λu=>og (E5 15 u)<|some (.I4 [(.list 20 []),(AO u)])) (ob (F7 20 a e) λi=>ob (F7 20 a e) λx=>ob (R.p gW [(.agg [(A7 11 x),(A7 12 x),(A7 13 x)]),d]) λh=>ob (F7 20 a e) λy=>ob (R.p gW [(.agg [(A7 14 y),(A7 15 y),(A7 16 y)]),d]) λX=>ob (R.p Jh [(I7 i),h,X,(I7 g)]) λY=>ob (R.p jH [Y]) λv=>ob (K5 0 v) λt=>ob (K5 1 v) λz=>og (E5 20 t)<|og (E5 15 z)<|ob (D7 .neq (A7 0 z) (iI 0)) λZ=>F3 Z (some (.I4 [(.list 20 []),(AO z)])) (ob (D7 .add e (iI 1)) λW=>
 Lt R a b c d W f t))) none)) (ob (AP 20 b (.list 20 [(I7 g)])) λU=>ob (D7 .add d (iI 1)) λV=>NI R a U c V f)):=J2 []
def A0F:C9.p Zt [a,b]=A5g C9 a b:=Q0 func132
def A1N:=eP f133 eO R [] (I6 f133 [(a,.val),(b,.val)] [])
def KQ:=eP f133 eO R (pb 51) (ms 50 [(1,a)] [] [(2,bx b 20)] [])
def A0d:A1N R a b =
 (og (E5 20 a)<|ob (D7 .eql (A7 0 a) (iI 9)) λx=>F3 x (og (J7 (A7 3 a))<|some (.list 1 [(A7 3 a)])) (ob (D7 .eql (A7 0 a) (iI 11)) λy=>K3 y (ob (D7 .eql b (iI 1)) λz=>F3 z (og (J7 (A7 3 a))<|some (.list 1 [(A7 3 a)])) (ob (D7 .eql (A7 0 a) (iI 12)) λw=>K3 w (ob (D7 .eql b (iI 1)) λu=>F3 u (og (J7 (A7 3 a))<|some (.list 1 [(A7 3 a)])) (KQ R b a)) (KQ R b a) none)) (ob (D7 .eql (A7 0 a) (iI 12)) λv=>K3 v (ob (D7 .eql b (iI 1)) λt=>F3 t (og (J7 (A7 3 a))<|some (.list 1 [(A7 3 a)])) (KQ R b a)) (KQ R b a) none) none)):=F6 [5]
def oK:KQ R a b =
 (ob (D7 .eql (A7 0 b) (iI 12)) λx=>F3 x (og (J7 (A7 3 b))<|og (J7 (A7 4 b))<|some (.list 1 [(A7 3 b),(A7 4 b)])) (ob (D7 .eql (A7 0 b) (iI 14)) λy=>K3 y (ob (D7 .gtr a (iI 0)) λz=>F3 z (ob (D7 .sub a (iI 1)) λw=>ob (F7 7 (A7 18 b) w) λu=>oc (R.r QC [((IL u),.val),((.list 1 []),.own)] []) λq6 s6=>some q6) (some (.list 1 []))) (some (.list 1 [])) none)):=F6 [5]
def uz:C9.p Wh [a,b]=A1N C9 a b:=Q0 func133
def fG:=eR f136 H_ MH R [] (I6 f136 [(pt i),(a,.val)] s)
def JG:=hR f136 H_ MH R (pb 858) (ms 115 [(6,a),(51,b),(52,c),(53,d)] [(0,(.ptr i 0)),(6,.own)] [(3,bx e 20),(4,some MR)] s)
def Fh:=hR f136 H_ MH R (pb 250) (ms 115 [(84,a),(85,b)] [(0,(.ptr i 0)),(9,(.arr j 20 0 k)),(83,(.arr l 20 0 m))] [(3,bx c 20),(4,some MR)] s)
def EB:fG R i a s =
 (og (E5 20 a)<|ob (D7 .eql (A7 0 a) (iI 1)) λy=>F3 y (ob (Q7 s i) λc2=>ob (Y5 c2 0) λz=>ob (D7 .neq (A7 3 a) z) λw=>F3 w (some ([(I7 a),(.bool true)],s)) (ob (L6 (A7 17 a)) λu=>ob (Q7 s i) λc6=>ob (Y5 c6 1) λv=>ob (L6 v) λt=>ob (D7 .neq u t) λr=>F3 r (some ([(I7 a),(.bool false)],s)) (ob (Q7 s i) λc10=>ob (Y5 c10 1) λq=>ob (L6 q) λp=>ob (D7 .eql p (iI 0)) λo=>F3 o (ob (Q7 s i) λc14=>ob (Dj 2 20 c14) λe15=>og (E5 20 (.agg e15))<|some ([(.agg [(A7 0 (.agg e15)),(A7 1 (.agg e15)),(A7 2 (.agg e15)),(A7 3 (.agg e15)),(A7 4 (.agg e15)),(A7 5 (.agg e15)),(A7 6 (.agg e15)),(A7 7 (.agg e15)),(A7 8 (.agg e15)),(A7 9 (.agg e15)),(A7 10 (.agg e15)),(A7 11 (.agg e15)),(A7 12 (.agg e15)),(A7 13 (.agg e15)),(A7 14 (.agg e15)),(A7 15 (.agg e15)),(A7 16 (.agg e15)),(A7 17 (.agg e15)),(A7 18 (.agg e15)),(A7 19 (.agg e15))]),(.bool true)],s)) (ob (Q7 s i) λc16=>ob (Y5 c16 1) λx=>ob (L6 x) λn=>
 JG R i (.list 4 []) x n (iI 0) a s)))) (ob (L6 (A7 19 a)) λm=>ob (D7 .eql m (iI 0)) λl=>F3 l (some ([(I7 a),(.bool true)],s)) (ob (aC (A7 19 a)) λp21=>og (true&&p21.1==20&&decide (p21.2.length<=J9))<|Fh R i (s.length) (p21.2.length) (s.length) (p21.2.length) (.int .i64 p21.2.length) (iI 0) a (s++[.arr 20 p21.2])))):=F6 []
def MW:JG R i a b c d e s =
 (ob (D7 .lss d c) λw=>F3 w (ob (F7 1 b d) λx=>og (M7 x)<|ob (F7 3 (A7 17 e) d) λy=>og (J7 x)<|ob (AP 4 a (.list 4 [(.agg [x,(A7 0 y),(A7 1 y),(A7 2 y)])])) λu=>ob (D7 .add d (iI 1)) λv=>JG R i u b c v e s) (ob (Q7 s i) λc6=>ob (Dj 2 20 c6) λe7=>ob (R.p Qk [(.agg e7),a]) λz=>og (E5 20 z)<|some ([(I7 z),(.bool true)],s))):=J2 []
def FC:Fh R i j k l m a b c s =
 (ob (D7 .lss b a) λy=>F3 y (ob (Cf 0 m b) λn2=>ob (CZ s l) λr3=>ob (r3.2[n2]?) λz=>og (r3.1==20)<|ob (R.p Wh [(I7 c),b]) λw=>ob (Q7 s i) λc6=>ob (Y5 c6 0) λu=>ob (R.p FV [w,u]) λv=>F3 v (ob (D7 .add b (iI 1)) λt=>Fh R i j k l m a t c s) (ob (R.r JX [(pt i),((I7 z),.val)] s) λJO=>ob (K5 0 (.I4 JO.1)) λx=>ob (K5 1 (.I4 JO.1)) λq=>og (E5 20 x)<|ob (R8 .not q) λo=>F3 o (some ([(I7 c),(.bool false)],JO.2)) (ob (Cf 0 k b) λn14=>ob (CZ JO.2 j) λr15=>ob (r15.2[n14]?) λu16=>og (r15.1==20)<|ob (D7 .add b (iI 1)) λn=>Fh R i j k l m a n c (JO.2.set j (.arr 20 (r15.2.set n14 (I7 x))))))) (ob (mi [ob (X6 s [((A7 0 c),.val),((A7 1 c),.val),((A7 2 c),.val),((A7 3 c),.val),((A7 4 c),.val),((A7 5 c),.val),((A7 6 c),.val),((A7 7 c),.val),((A7 8 c),.val),((A7 9 c),.val),((A7 10 c),.val),((A7 11 c),.val),((A7 12 c),.val),((A7 13 c),.val),((A7 14 c),.val),((A7 15 c),.val),((A7 16 c),.val),((A7 17 c),.val),((A7 18 c),.val),(.undef,(.arr j 20 0 k))]) λds=>
 some (.agg ds),some (.bool true)]) λds=>some (ds,(s.set j (H7.arr 1 []))))):=J2 []
def DZ:C9.r JX [(.undef,(.ptr i 0)),(a,.val)] s=fG C9 i a s:=LU (s:=H_) func136
def A5m:=eP f137 A3u R [] (I6 f137 [(a,.val)] [])
def A2A:A5m R a =
 (og (E5 3 a)<|ob (R.p Zw [(R6 a)]) λx=>ob (R8 .not x) λy=>F3 y (some (iI 1)) (some (iI 0))):=F6 []
def A0J:C9.p GN [a]=A5m C9 a:=Q0 func137
def Sa:=eP f138 oz R [] (I6 f138 [(a,.val)] [])
def oM:Sa R a =
 (og (E5 20 a)<|ob (D7 .eql (A7 0 a) (iI 1)) λy=>F3 y (some (.I4 [(.agg ((.bool true)::(Ha ((.bool false)::(.bool false)::(.bool true)::(Ha [(iI 0)]))))),(.bool true)])) (ob (D7 .eql (A7 0 a) (iI 2)) λz=>F3 z (some (.I4 [(.agg ((.bool false)::(.bool false)::(.bool true)::(Ha (Ha [(.bool false),(iI 0)])))),(.bool true)])) (ob (D7 .eql (A7 0 a) (iI 3)) λw=>F3 w (some (.I4 [(.agg ((.bool false)::(.bool false)::(.bool true)::(Ha (Ha [(.bool false),(iI 0)])))),(.bool true)])) (ob (D7 .eql (A7 0 a) (iI 4)) λu=>F3 u (some (.I4 [(.agg ((.bool false)::(.bool false)::(.bool false)::(.bool true)::(Ha (Ha [(iI 0)])))),(.bool true)])) (ob (D7 .eql (A7 0 a) (iI 5)) λv=>
 F3 v (some (.I4 [(.agg (Ha (Ha (Ha [(iI 0)])))),(.bool true)])) (ob (D7 .eql (A7 0 a) (iI 7)) λt=>F3 t (some (.I4 [(.agg (Ha (Ha [(.bool false),(.bool true),(.bool false),(.bool false),(iI 0)]))),(.bool true)])) (ob (D7 .eql (A7 0 a) (iI 6)) λs=>F3 s (some (.I4 [(.agg (Ha (Ha (Ha [(iI 2)])))),(.bool true)])) (ob (D7 .eql (A7 0 a) (iI 8)) λr=>F3 r (some (.I4 [(.agg (Ha (Ha (Ha [(iI 2)])))),(.bool true)])) (ob (D7 .eql (A7 0 a) (iI 10)) λq=>F3 q (some (.I4 [(.agg (Ha (Ha (Ha [(iI 2)])))),(.bool true)])) (ob (D7 .eql (A7 0 a) (iI 9)) λp=>
 F3 p (some (.I4 [(.agg ((.bool true)::(Ha (Ha [(.bool true),(.bool false),(.bool false),(iI 1)])))),(.bool true)])) (ob (D7 .eql (A7 0 a) (iI 11)) λo=>F3 o (some (.I4 [(.agg ((.bool true)::(Ha ((.bool false)::(.bool true)::(Ha [(.bool false),(iI 2)]))))),(.bool true)])) (ob (D7 .eql (A7 0 a) (iI 12)) λn=>F3 n (some (.I4 [(.agg ((.bool true)::(.bool true)::(Ha [(.bool true),(.bool false),(.bool false),(.bool true),(.bool true),(.bool false),(iI 2)]))),(.bool true)])) (ob (D7 .eql (A7 0 a) (iI 13)) λm=>F3 m (some (.I4 [(.agg (Ha (Ha (Ha [(iI 3)])))),(.bool true)])) (ob (D7 .eql (A7 0 a) (iI 14)) λl=>F3 l (ob (L6 (A7 18 a)) λk=>
 ob (D7 .add k (iI 1)) λx=>og (J7 x)<|ob (L6 (A7 18 a)) λj=>ob (D7 .gtr j (iI 0)) λi=>some (.I4 [(.agg (Ha [(.bool false),(.bool true),(.bool false),(.bool false),(.bool true),(.bool false),(.bool false),(.bool false),x])),i])) (ob (D7 .eql (A7 0 a) (iI 15)) λh=>F3 h (some (.I4 [(.agg (Ha ((.bool true)::(.bool true)::(Ha [(.bool false),(.bool false),(iI 2)])))),(.bool true)])) (ob (D7 .eql (A7 0 a) (iI 16)) λg=>F3 g (some (.I4 [(.agg (Ha (Ha [(.bool false),(.bool true),(.bool true),(.bool true),(iI 1)]))),(.bool true)])) (some (.I4 [(.agg (Ha (Ha (Ha [(iI 0)])))),(.bool false)])))))))))))))))))):=F6 []
def kg:C9.p SC [a]=Sa C9 a:=Q0 func138
def A4H(x0:DV){d:DV}(h:Sa C9 x0=some d):C9.p SC [x0]=some d:=(kg x0).trans h
def A1P:=eP f139 A0X R [] (I6 f139 [(a,.val),(b,.val)] [])
def A0f:A1P R a b =
 (F3 a (ob (R.p Zx [b]) λx=>some x) (ob (D7 .eql b (.str ⟨#[]⟩)) λy=>some y)):=F6 []
def vB:C9.p Wi [a,b]=A1P C9 a b:=Q0 func139
def A1R:=eP f140 A0Y R [] (I6 f140 [(a,.val),(b,.val)] [])
def A0k:A1R R a b =
 (og (E5 3 b)<|F3 a (ob (R.p GN [(R6 b)]) λx=>ob (D7 .eql x (iI 0)) λy=>some y) (ob (R.p qU [(R6 b)]) λz=>some z)):=F6 []
def vD:C9.p Wl [a,b]=A1R C9 a b:=Q0 func140
def A1O:=eP f141 PI R [] (I6 f141 [(a,.val)] [])
def QK:=hP f141 PI R (pb 26) (ms 45 [(10,a),(11,b),(12,c)] [] [(1,bx d 20)] [])
def QL:=hP f141 PI R (pb 58) (ms 45 [(24,a),(25,b),(26,c)] [] [(1,bx d 20)] [])
def OO:=hP f141 PI R (pb 122) (ms 45 [(35,a),(36,b),(37,c)] [] [] [])
def A0e:A1O R a =
 (og (E5 20 a)<|ob (L6 (A7 10 a)) λx=>QK R (A7 10 a) x (iI 0) a):=F6 []
def VX:QK R a b c d =
 (ob (D7 .lss c b) λy=>F3 y (ob (F7 1 a c) λx=>og (M7 x)<|ob (D7 .lss x (iI 0)) λz=>K3 z sF (ob (D7 .gtr x (iI 1048576)) λw=>F3 w sF (ob (D7 .add c (iI 1)) λu=>QK R a b u d)) none) (ob (L6 (A7 17 d)) λv=>QL R (A7 17 d) v (iI 0) d)):=J2 []
def VY:QL R a b c d =
 (ob (D7 .lss c b) λx=>F3 x (ob (F7 3 a c) λy=>ob (R.p GN [(R6 y)]) λz=>ob (D7 .neq z (iI 0)) λw=>F3 w sF (ob (D7 .add c (iI 1)) λu=>QL R a b u d)) (ob (L6 (A7 18 d)) λv=>OO R (A7 18 d) v (iI 0))):=J2 []
def Tp:OO R a b c =
 (ob (D7 .lss c b) λx=>F3 x (ob (F7 7 a c) λy=>ob (R.p QD [(IL y)]) λz=>ob (D7 .neq z (iI 0)) λw=>F3 w sF (ob (D7 .add c (iI 1)) λu=>OO R a b u)) sT):=J2 []
def u_:C9.p Ev [a]=A1O C9 a:=Q0 func141
end
end Go.Su

/-
 Equations of the program's functions: by program.
-/
namespace Go.Su
set_option linter.defProp false
noncomputable section
open Go.Proofs
open Tryz
variable (R: U1)(i j k l m n: Nat)(a b c d e f g h o p q r t u v w x y z A B C D E F I P W X Y Z: DV)(s: List H7)
def A1L(R:U1)(x0 x1:DV)(x2:Nat)(sg:List H7):Option (List DV×List H7):=eR f142 TE eH R [] (I6 f142 [(x0,.val),(x1,.val),(.undef,(.map x2))] sg)
def OM(R:U1)(t1:DV)(t2i:Nat)(t38 t39 t40 b9_0 b9_2:DV)(sg:List H7):Option (List DV×List H7):=hR f142 TE eH R (pb 250) (ms 55 [(1,t1),(38,t38),(39,t39),(40,t40)] [(2,(.map t2i))] [(6,some nK),(9,some [(b9_0,.val),((iI 0),.val),(b9_2,.own)])] sg)
def A0b(R:U1)(x0 x1:DV)(x2:Nat)(sg:List H7):A1L R x0 x1 x2 sg =
 (og (E5 3 x0)<|ob (D7 .eql (A7 0 x0) (iI 6)) λy=>F3 y (og (Ao false (A7 1 x0)&&true)<|ob (X0 sg x2) λm2=>og (m2.1==false)<|F3 (.bool (AQ m2.2 (A7 1 x0)).isSome) (ob (F7 4 x1 ((AQ m2.2 (A7 1 x0)).getD (iI 0))) λx=>some ([(.agg [(A7 1 x),(A7 2 x),(A7 3 x)])],sg)) (some ([(R6 x0)],sg))) (ob (L6 (A7 2 x0)) λz=>ob (D7 .eql z (iI 0)) λw=>F3 w (some ([(R6 x0)],sg)) (og (J7 (A7 0 x0))<|ob (L6 (A7 2 x0)) λu=>OM R x1 x2 (A7 2 x0) u (iI 0) (A7 0 x0) (.list 3 []) sg))):=F6 []
def Tn(R:U1)(t1:DV)(t2i:Nat)(t38 t39 t40 b9_0 b9_2:DV)(sg:List H7):OM R t1 t2i t38 t39 t40 b9_0 b9_2 sg =
 (ob (D7 .lss t40 t39) λx=>F3 x (ob (F7 3 t38 t40) λy=>oc (R.r Wd [((R6 y),.val),(t1,.val),(.undef,(.map t2i))] sg) λq3 s3=>og (E5 3 q3)<|ob (AP 3 b9_2 (.list 3 [q3])) λz=>ob (D7 .add t40 (iI 1)) λw=>OM R t1 t2i t38 t39 w b9_0 z s3) (some ([(.agg [b9_0,(iI 0),b9_2])],sg))):=J2 []
def uw(x0 x1:DV)(x2:Nat)(sg:List H7):C9.r Wd [(x0,.val),(x1,.val),(.undef,(.map x2))] sg=A1L C9 x0 x1 x2 sg:=LU (s:=TE) func142
def A76(R:U1)(x0:DV)(x1:Nat)(x2:DV)(sg:List H7):Option (List DV×List H7):=eR f143 Rk aK R [] (I6 f143 [(x0,.val),(.undef,(.map x1)),(x2,.own)] sg)
def Qp:=eR f143 Rk aK R (pb 7) (ms 40 [(2,a)] [(1,(.map i)),(2,.own)] [(3,bx b 3)] s)
def VC:=hR f143 Rk aK R (pb 58) (ms 40 [(2,a),(28,b),(29,c),(30,d)] [(1,(.map i)),(2,.own)] [] s)
def qw(R:U1)(x0:DV)(x1:Nat)(x2:DV)(sg:List H7):A76 R x0 x1 x2 sg =
 (og (E5 3 x0)<|ob (D7 .eql (A7 0 x0) (iI 6)) λx=>F3 x (og (Ao false (A7 1 x0)&&true)<|ob (X0 sg x1) λm2=>og (m2.1==false)<|ob (D7 .eql ((AQ m2.2 (A7 1 x0)).getD (iI 0)) (iI 0)) λy=>F3 y (og (J7 (A7 1 x0))<|ob (AP 1 x2 (.list 1 [(A7 1 x0)])) λz=>og (Ao false (A7 1 x0)&&true)<|ob (X0 sg x1) λm5=>og (m5.1==false)<|ob (D7 .add ((AQ m5.2 (A7 1 x0)).getD (iI 0)) (iI 1)) λw=>og (Ao false (A7 1 x0)&&true&&true)<|ob (X0 sg x1) λm7=>og (m7.1==false)<|Qp R x1 z x0 (sg.set x1 (.map false (BJ m7.2 (A7 1 x0) w)))) (og (Ao false (A7 1 x0)&&true)<|ob (X0 sg x1) λm8=>og (m8.1==false)<|ob (D7 .add ((AQ m8.2 (A7 1 x0)).getD (iI 0)) (iI 1)) λu=>og (Ao false (A7 1 x0)&&true&&true)<|ob (X0 sg x1) λm10=>og (m10.1==false)<|Qp R x1 x2 x0 (sg.set x1 (.map false (BJ m10.2 (A7 1 x0) u))))) (Qp R x1 x2 x0 sg)):=F6 [5]
def B2e:Qp R i a b s =
 (ob (L6 (A7 2 b)) λx=>VC R i a (A7 2 b) x (iI 0) s):=F6 [5]
def uQ:VC R i a b c d s =
 (ob (D7 .lss d c) λx=>F3 x (ob (F7 3 b d) λy=>oc (R.r gX [((R6 y),.val),(.undef,(.map i)),(a,.own)] s) λq3 s3=>ob (D7 .add d (iI 1)) λz=>VC R i q3 b c z s3) (some ([a],s))):=J2 [5]
def ku(x0:DV)(x1:Nat)(x2:DV)(sg:List H7):C9.r gX [(x0,.val),(.undef,(.map x1)),(x2,.own)] sg=A76 C9 x0 x1 x2 sg:=LU (s:=Rk) func143
def Oz:=eP f144 Nw R [] (I6 f144 [(a,.val),(b,.val)] [])
def Nv:Oz R a b =
 (ob (R.p LV [a,b]) λx=>ob (D7 .geq x (iI 0)) λy=>some y):=F6 []
def NV:C9.p FJ [a,b]=Oz C9 a b:=Q0 func144
def a_:Code:=f145.body.getD .skip
def nV:=eP f145 IB R [] (I6 f145 [(a,.val)] [])
def ah:=eP f145 IB R (pb 58) (ms 32 [(0,a),(4,(.I4 [])),(6,b),(8,(.I4 [])),(9,(.I4 [])),(10,(.I4 [])),(11,(.I4 [])),(12,(.I4 [])),(13,(.I4 [])),(14,(.I4 [])),(15,(.I4 [])),(16,(.I4 [])),(17,(.I4 [])),(18,(.I4 [])),(19,(.I4 [])),(20,(.I4 [])),(21,(.I4 [])),(22,(.I4 [])),(23,(.I4 [])),(24,(.I4 [])),(25,(.I4 [])),(26,(.I4 [])),(27,(.I4 [])),(28,(.I4 [])),(29,(.I4 [])),(30,(.I4 [])),(31,(.I4 []))] [(1,(.ptr 0 0)),(2,(.ptr 1 0)),(3,(.ptr 3 0)),(5,(.map 2)),(7,(.fn 193 [(4,0)]))] [] s)
def UY:Code:=match (sub [true,true,false,true,false] a_ []).1 with
 |.rangeFunc _ _ a b=>.seq a b
 |c=>c
def BN(R:U1)(t0 t6:DV)(o:Out)(sg:List H7):Option DV:=A3D cfg R IB (Vp cfg.P f145) [true,true,false,true,false] a_ o (BA ⟨spread .undef 32 0 [(0,t0),(4,(.I4 [])),(6,t6),(8,(.I4 [])),(9,(.I4 [])),(10,(.I4 [])),(11,(.I4 [])),(12,(.I4 [])),(13,(.I4 [])),(14,(.I4 [])),(15,(.I4 [])),(16,(.I4 [])),(17,(.I4 [])),(18,(.I4 [])),(19,(.I4 [])),(20,(.I4 [])),(21,(.I4 [])),(22,(.I4 [])),(23,(.I4 [])),(24,(.I4 [])),(25,(.I4 [])),(26,(.I4 [])),(27,(.I4 [])),(28,(.I4 [])),(29,(.I4 [])),(30,(.I4 [])),(31,(.I4 []))],spread .val 32 0 [(1,(.ptr 0 0)),(2,(.ptr 1 0)),(3,(.ptr 3 0)),(5,(.map 2)),(7,(.fn 193 [(4,0)]))],spread none 32 0 [],[]⟩ sg)
def Qf(R:U1)(t0 t6:DV)(I:List H7->Option DV)(x:DV)(sg:List H7):Option DV:=UI cfg R IB (kr I (BN R t0 t6)) [] UY (mst 32 [(8,x)] [(2,(.ptr 1 0)),(3,(.ptr 3 0))] [] sg)
def Fe(R:U1)(t0 t6:DV):List DV->List H7->Option DV:=PL (λx I sg=>Qf R t0 t6 I x sg) (BN R t0 t6 .normal)
def TY(R:U1)(t0 t6:DV)(I:List H7->Option DV)(b4:DV)(sg:List H7):Option DV:=UI cfg R IB (kr I (BN R t0 t6)) (pb 13) UY (ms 32 [] [(3,(.ptr 3 0))] [(4,bx b4 7)] sg)
def kP:nV R a =
 (og (E5 7 a)<|ah R a (IL a) [H7.box [((A7 0 a),.val),((A7 1 a),.val),((A7 2 a),.val),((A7 3 a),.val),((A7 4 a),.val),((A7 5 a),.val),((A7 6 a),.val)],H7.box [((iI 0),.val)],.map true [],H7.box [(.undef,(.map 2))],H7.box [((A7 0 a),.val),((A7 1 a),.val),((A7 2 a),.val),((A7 3 a),.val),((A7 4 a),.val),((A7 5 a),.val),((A7 6 a),.val)]]):=F6 [6]
def YY:ah R a b s =
 ob (Q7 s 4) λcs=>ob (Ce cs) λcd=>ob (VH 7 6 cd) λds=>Fe R a b ds (s.set 4 (.arr 1 [])):=(C4b (t:=7) (f:=193) (i:=4) (q:=8) (it:=VH 7 6) (by kernel_rfl) (by kernel_rfl) (by kernel_rfl) (by kernel_rfl)).trans (by kernel_rfl)
theorem UB(R:U1)(t0 t6:DV)(sg:List H7):Fe R t0 t6 [] sg=BN R t0 t6 .normal sg:=rfl
theorem TH(R:U1)(t0 t6 x:DV)(ds:List DV)(sg:List H7):Fe R t0 t6 (x::ds) sg=Qf R t0 t6 (Fe R t0 t6 ds) x sg:=rfl
def WB(R:U1)(t0 t6:DV)(I:List H7->Option DV)(x:DV)(sg:List H7):Qf R t0 t6 I x sg=(og (E5 7 x)<|ob (R.p dE [(IL x)]) λy=>ob (R8 .not y) λz=>K3 z (ob (Q7 sg 1) λc3=>ob (c3[0]?) λu4=>BN R t0 t6 .ret (sg.set 1 (H7.box (c3.set 0 ((iI 1),.val))))) (ob (D7 .eql (A7 0 x) (iI 2)) λw=>K3 w (ob (Q7 sg 3) λc6=>ob (Vy c6 0) λi7=>og (Ao true (A7 3 x)&&true)<|ob (X0 sg i7) λm8=>og (m8.1==true)<|ob (D7 .gtr ((AQ m8.2 (A7 3 x)).getD (iI 0)) (iI 0)) λu=>F3 u (ob (Q7 sg 1) λc10=>ob (c10[0]?) λu11=>BN R t0 t6 .ret (sg.set 1 (H7.box (c10.set 0 ((iI 1),.val))))) (TY R t0 t6 I x sg)) (TY R t0 t6 I x sg) none) none):=F6 [6]
def NU:BN R a b .normal s =
 (ob (Q7 s 1) λc1=>ob (c1[0]?) λu2=>C2b (ob (Q7 (s.set 1 (H7.box (c1.set 0 ((iI 0),.val)))) 1) λc=>oneCell (s.set 1 (H7.box (c1.set 0 ((iI 0),.val)))) c)):=B6Q [6] (by kernel_rfl)
def QR:BN R a b .ret s=(C2b (ob (Q7 s 1) λc=>oneCell s c)):=B6Q [6] (by kernel_rfl)
def bH(R:U1)(t0 t6:DV)(I:List H7->Option DV)(b4:DV)(sg:List H7):TY R t0 t6 I b4 sg=(ob (D7 .eql (A7 0 b4) (iI 2)) λx=>F3 x (ob (Q7 sg 3) λc2=>ob (Vy c2 0) λi3=>og (Ao true (A7 3 b4)&&true)<|ob (X0 sg i3) λm4=>og (m4.1==true)<|ob (D7 .add ((AQ m4.2 (A7 3 b4)).getD (iI 0)) (iI 1)) λy=>og (Ao true (A7 3 b4)&&true&&true)<|ob (X0 sg i3) λm6=>og (m6.1==true)<|I (sg.set i3 (.map true (BJ m6.2 (A7 3 b4) y)))) (I sg)):=F6 [6]
def fw:C9.p QD [a]=nV C9 a:=Q0 func145
def A43:=eR f146 PT Xl R [] (I6 f146 [(a,.val),(b,.val),(c,.own)] s)
def NH:=eR f146 PT Xl R (pb 15) (ms 73 [(2,a),(8,b)] [(2,.own)] [(3,bx c 7)] s)
def Lr:=hR f146 PT Xl R (pb 122) (ms 73 [(2,a),(8,b),(52,c),(53,d),(54,e)] [(2,.own)] [] s)
def E_:A43 R a b c s =
 (og (E5 7 a)<|og (E5 3 b)<|ob (D7 .eql (A7 0 a) (iI 1)) λx=>F3 x (some ([c,(.bool true)],s)) (ob (D7 .eql (A7 0 a) (iI 2)) λy=>F3 y (og (J7 (A7 3 a))<|ob (AP 4 c (.list 4 [(.agg [(A7 3 a),(A7 0 b),(A7 1 b),(A7 2 b)])])) λz=>some ([z,(.bool true)],s)) (ob (D7 .eql (A7 0 a) (iI 7)) λw=>F3 w (ob (D7 .neq (A7 0 b) (iI 7)) λu=>F3 u (some ([(.list 4 []),(.bool false)],s)) (NH R c (A7 2 b) a s)) (ob (D7 .eql (A7 0 a) (iI 9)) λv=>F3 v (ob (D7 .neq (A7 0 b) (iI 8)) λt=>F3 t (some ([(.list 4 []),(.bool false)],s)) (ob (F7 3 (A7 2 b) (iI 0)) λr=>NH R c (.list 3 [(R6 r),(R6 b)]) a s)) (ob (R.p qO [(A7 0 a)]) λq=>ob (D7 .eql (A7 0 b) q) λo=>some ([c,o],s)))))):=F6 [16]
def A8y:NH R a b c s =
 (ob (L6 (A7 6 c)) λx=>Lr R a b (A7 6 c) x (iI 0) s):=F6 [16]
def OX:Lr R a b c d e s =
 (ob (D7 .lss e d) λx=>F3 x (ob (F7 7 c e) λy=>ob (F7 3 b e) λz=>ob (R.r Tw [((IL y),.val),((R6 z),.val),(a,.own)] s) λq4=>ob (K5 0 (.I4 q4.1)) λw=>ob (K5 1 (.I4 q4.1)) λu=>ob (R8 .not u) λv=>F3 v (some ([(.list 4 []),(.bool false)],q4.2)) (ob (D7 .add e (iI 1)) λt=>Lr R w b c d t q4.2)) (some ([a,(.bool true)],s))):=J2 [16]
def EL:C9.r Tw [(a,.val),(b,.val),(c,.own)] s=A43 C9 a b c s:=LU (s:=PT) func146
def sD:=eP f147 Xi R [] (I6 f147 [(a,.val),(b,.val)] [])
def Mi:=hP f147 Xi R (pb 58) (ms 49 [(33,a),(34,b),(35,c)] [] [(3,bx d 3)] [])
def A8v:sD R a b =
 (og (E5 3 a)<|og (E5 3 b)<|ob (D7 .eql (A7 0 a) (iI 5)) λx=>F3 x (ob (R.p Wm [(R6 b)]) λy=>some y) (ob (D7 .eql (A7 0 b) (iI 5)) λz=>F3 z (ob (R.p Wm [(R6 a)]) λw=>some w) (ob (D7 .neq (A7 0 a) (A7 0 b)) λu=>K3 u sF (ob (D7 .neq (A7 1 a) (A7 1 b)) λv=>F3 v sF (ob (L6 (A7 2 a)) λt=>Mi R (A7 2 a) t (iI 0) b)) none))):=F6 []
def bG:Mi R a b c d =
 (ob (D7 .lss c b) λx=>F3 x (ob (F7 3 a c) λy=>ob (F7 3 (A7 2 d) c) λz=>ob (R.p Ry [(R6 y),(R6 z)]) λw=>ob (R8 .not w) λu=>F3 u sF (ob (D7 .add c (iI 1)) λv=>Mi R a b v d)) sT):=J2 []
def A6Z:C9.p Ry [a,b]=sD C9 a b:=Q0 func147
def zH:=eP f148 ZN R [] (I6 f148 [(a,.val),(b,.val)] [])
def OG:=hP f148 ZN R (pb 58) (ms 60 [(5,a)] [] [(2,bx b 7),(3,bx c 7)] [])
set_option maxRecDepth 100000 in
def t_:zH R a b =
 (og (E5 7 a)<|og (E5 7 b)<|ob (D7 .neq (A7 0 a) (A7 0 b)) λx=>K3 x sF (ob (D7 .neq (A7 3 a) (A7 3 b)) λy=>K3 y sF (ob (D7 .neq (A7 4 a) (A7 4 b)) λz=>K3 z sF (ob (D7 .neq (A7 5 a) (A7 5 b)) λw=>K3 w sF (ob (L6 (A7 6 a)) λu=>ob (L6 (A7 6 b)) λv=>ob (D7 .neq u v) λt=>F3 t sF (OG R (iI 0) a b)) none) none) none) none):=F6 []
def Te:OG R a b c =
 (ob (L6 (A7 6 b)) λx=>ob (D7 .lss a x) λy=>F3 y (ob (F7 7 (A7 6 b) a) λz=>ob (F7 7 (A7 6 c) a) λw=>ob (R.p Uf [(IL z),(IL w)]) λu=>ob (R8 .not u) λv=>F3 v sF (ob (D7 .add a (iI 1)) λt=>OG R t b c)) sT):=J2 []
def oV:C9.p Uf [a,b]=zH C9 a b:=Q0 func148
def A4W:=eP f149 lC R [] (I6 f149 [(a,.val),(b,.val)] [])
def NF:=hP f149 lC R (pb 58) (ms 27 [(1,a),(5,b)] [] [(2,bx c 3)] [])
def A2i:A4W R a b =
 (og (E5 3 a)<|ob (D7 .add b (iI 1)) λx=>NF R x (iI 0) a):=F6 []
def XN:NF R a b c =
 (ob (L6 (A7 2 c)) λx=>ob (D7 .lss b x) λy=>K3 y (ob (D7 .leq a (iI 600)) λz=>F3 z (ob (F7 3 (A7 2 c) b) λw=>ob (R.p Zp [(R6 w),a]) λu=>ob (D7 .add b (iI 1)) λv=>NF R u v c) (some a)) (some a) none):=J2 []
def A0r:C9.p Zp [a,b]=A4W C9 a b:=Q0 func149
def A7L:=eR f150 Rf aG R [] (I6 f150 [(a,.val),(b,.own)] s)
def Wt:=eR f150 Rf aG R (pb 7) (ms 36 [(1,a)] [(1,.own)] [(2,bx b 3)] s)
def Ox:=hR f150 Rf aG R (pb 58) (ms 36 [(1,a),(5,b)] [(1,.own)] [(2,bx c 3)] s)
def A5L:A7L R a b s =
 (og (E5 3 a)<|ob (D7 .eql (A7 0 a) (iI 6)) λx=>K3 x (ob (R.p wP [b,(A7 1 a)]) λy=>ob (R8 .not y) λz=>F3 z (og (J7 (A7 1 a))<|ob (AP 1 b (.list 1 [(A7 1 a)])) λw=>Wt R w a s) (Wt R b a s)) (Wt R b a s) none):=F6 [3]
def VD:Wt R a b s =
 (Ox R a (iI 0) b s):=F6 [3]
def Yx:Ox R a b c s =
 (ob (L6 (A7 2 c)) λx=>ob (D7 .lss b x) λy=>F3 y (ob (F7 3 (A7 2 c) b) λz=>oc (R.r gM [((R6 z),.val),(a,.own)] s) λq4 s4=>ob (D7 .add b (iI 1)) λw=>Ox R q4 w c s4) (some ([a],s))):=J2 [3]
def A2U:C9.r gM [(a,.val),(b,.own)] s=A7L C9 a b s:=LU (s:=Rf) func150
def A5e:=eP f151 RI R [] (I6 f151 [(a,.val),(b,.val)] [])
def Us:=eP f151 RI R (pb 15) (ms 81 [(1,a),(5,b),(6,c)] [] [(2,bx d 20),(4,some MR)] [])
def SS:=hP f151 RI R (pb 506) (ms 81 [(1,a),(5,b),(7,c),(8,d)] [(7,.own)] [(2,bv [e,f,g,h,o,p,q,r,t,u,v,w,x,y,z,A,B,C,D,E]),(4,some MR)] [])
def Ls:=hP f151 RI R (pb 2042) (ms 81 [(1,a),(5,b),(7,c),(9,d),(10,e)] [(9,.own)] [(2,bv [f,g,h,o,p,q,r,t,u,v,w,x,y,z,A,B,C,D,E,F]),(4,some MR)] [])
def A2u:A5e R a b =
 (og (E5 20 a)<|ob (R.p dC [b,(A7 10 a)]) λx=>ob (D7 .eql (A7 0 a) (iI 12)) λy=>F3 y (Us R b x x a) (Us R b x b a)):=F6 [4]
def uE:Us R a b c d =
 (ob (R.p aZ [(.agg [(A7 11 d),(A7 12 d),(A7 13 d)]),c]) λx=>ob (R.p aZ [(.agg [(A7 14 d),(A7 15 d),(A7 16 d)]),c]) λy=>og (E5 3 x)<|og (E5 3 y)<|SS R a b (.list 3 []) (iI 0) (A7 0 d) (A7 1 d) (A7 2 d) (A7 3 d) (A7 4 d) (A7 5 d) (A7 6 d) (A7 7 d) (A7 8 d) (A7 9 d) (A7 10 d) (A7 0 x) (A7 1 x) (A7 2 x) (A7 0 y) (A7 1 y) (A7 2 y) (A7 17 d) (A7 18 d) (A7 19 d)):=F6 [4]
def XZ:SS R a b c d e f g h o p q r t u v w x y z A B C D E =
 (ob (L6 C) λn=>ob (D7 .lss d n) λm=>F3 m (ob (F7 3 C d) λl=>ob (R.p aZ [(R6 l),a]) λs=>og (E5 3 s)<|ob (AP 3 c (.list 3 [s])) λk=>ob (D7 .add d (iI 1)) λj=>SS R a b k j e f g h o p q r t u v w x y z A B C D E) (Ls R a b c (.list 20 []) (iI 0) e f g h o p q r t u v w x y z A B C D E)):=J2 [4]
def VR:Ls R a b c d e f g h o p q r t u v w x y z A B C D E F =
 (ob (L6 F) λm=>ob (D7 .lss e m) λl=>F3 l (ob (D7 .eql e (iI 0)) λk=>F3 k (ob (F7 20 F e) λj=>ob (R.p UA [(I7 j),b]) λs=>og (E5 20 s)<|ob (AP 20 d (.list 20 [s])) λi=>ob (D7 .add e (iI 1)) λX=>Ls R a b c i X f g h o p q r t u v w x y z A B C D E F) (ob (F7 20 F e) λY=>ob (R.p UA [(I7 Y),a]) λn=>og (E5 20 n)<|ob (AP 20 d (.list 20 [n])) λZ=>ob (D7 .add e (iI 1)) λW=>Ls R a b c Z W f g h o p q r t u v w x y z A B C D E F)) (og (J7 c)<|some (.agg [f,g,h,o,p,q,r,t,u,v,w,x,y,z,A,B,C,c,E,d]))):=J2 [4]
def A0D:C9.p UA [a,b]=A5e C9 a b:=Q0 func151
def A5b:=eP f152 lK R [] (I6 f152 [(a,.val),(b,.val)] [])
def SN:=hP f152 lK R (pb 58) (ms 26 [(0,a),(1,b),(5,c),(6,d)] [(5,.own)] [] [])
def A2r:A5b R a b =
 (SN R a b (.list 4 []) (iI 0)):=F6 []
def XV:SN R a b c d =
 (ob (L6 a) λz=>ob (D7 .lss d z) λw=>F3 w (ob (F7 1 a d) λx=>og (M7 x)<|ob (F7 3 b d) λy=>og (J7 x)<|ob (AP 4 c (.list 4 [(.agg [x,(A7 0 y),(A7 1 y),(A7 2 y)])])) λu=>ob (D7 .add d (iI 1)) λv=>SN R a b u v) (some c)):=J2 []
def A0A:C9.p qQ [a,b]=A5b C9 a b:=Q0 func152
def A1K:=eP f153 eG R [] (I6 f153 [(a,.val)] [])
def QJ:=hP f153 eG R (pb 12) (ms 22 [] [] [(1,bx a 20),(2,some MR),(3,some Ck)] [])
def A0a:A1K R a =
 (og (E5 20 a)<|QJ R a):=F6 []
def VV:QJ R a =
 (ob (R.p FI [(I7 a)]) λw=>ob (R8 .not w) λu=>F3 u (ob (R.p GR [(I7 a)]) λz=>ob (K5 0 z) λx=>ob (K5 1 z) λy=>og (E5 20 x)<|og (E5 15 y)<|ob (D7 .neq (A7 0 y) (iI 0)) λv=>F3 v (some (.I4 [(I7 x),(AO y)])) (QJ R x)) (some (.I4 [(I7 a),(.agg ((iI 0)::(Dk [])))]))):=J2 []
def uu:C9.p jH [a]=A1K C9 a:=Q0 func153
def A7Z:=eP f154 A6p R [] (I6 f154 [(a,.val),(b,.val)] [])
def A5W:A7Z R a b =
 (og (E5 3 a)<|ob (D7 .eql (A7 0 a) (iI 8)) λx=>K3 x (ob (D7 .eql b (iI 1)) λy=>F3 y (some (R6 a)) (ob (F7 3 (A7 2 a) b) λz=>some (R6 z))) (ob (F7 3 (A7 2 a) b) λw=>some (R6 w)) none):=F6 []
def A26:C9.p gW [a,b]=A7Z C9 a b:=Q0 func154
def nU:=eR f155 NC Vh R [] (I6 f155 [(a,.val),(b,.own)] s)
def Fg:=hR f155 NC Vh R (pb 58) (ms 27 [(1,a),(16,b),(17,c),(18,d)] [(1,.own)] [] s)
def kL:nU R a b s =
 (og (E5 7 a)<|ob (D7 .eql (A7 0 a) (iI 2)) λx=>F3 x (og (J7 (A7 3 a))<|ob (AP 1 b (.list 1 [(A7 3 a)])) λy=>ob (L6 (A7 6 a)) λz=>Fg R y (A7 6 a) z (iI 0) s) (ob (L6 (A7 6 a)) λw=>Fg R b (A7 6 a) w (iI 0) s)):=F6 []
def Pt:Fg R a b c d s =
 (ob (D7 .lss d c) λx=>F3 x (ob (F7 7 b d) λy=>oc (R.r QC [((IL y),.val),(a,.own)] s) λq3 s3=>ob (D7 .add d (iI 1)) λz=>Fg R q3 b c z s3) (some ([a],s))):=J2 []
def fu:C9.r QC [(a,.val),(b,.own)] s=nU C9 a b s:=LU (s:=NC) func155
end
end Go.Su

/-
 Equations of the program's functions: by program.
-/
namespace Go.Su
set_option linter.defProp false
set_option maxRecDepth 100000
noncomputable section
open Go.Proofs
open Tryz
variable (R: U1)(i j k l m n: Nat)(a b c d e f g h o p q r t u v w x y z U W X Y Z: DV)(s: List H7)
def A1S:=eP f167 PK R [] (I6 f167 [(a,.val),(b,.val)] [])
def QP(R:U1)(t1:DV)(t18r3:Nat)(t19 t20 b2_0 b2_1 b2_2 b2_3 b2_4 b2_5 b2_6 b2_7 b2_8 b2_9 b2_10 b2_11 b2_12 b2_13 b2_14 b2_15 b2_16:DV)(b2_17r3:Nat)(b2_18:DV)(b2_19r3:Nat)(sg:List H7):Option DV:=hP f167 PK R (pb 58) (ms 69 [(1,t1),(19,t19),(20,t20)] [(18,(.arr 0 3 0 t18r3))] [(2,some [(b2_0,.val),(b2_1,.val),(b2_2,.val),(b2_3,.val),(b2_4,.val),(b2_5,.val),(b2_6,.val),(b2_7,.val),(b2_8,.val),(b2_9,.val),(b2_10,.val),(b2_11,.val),(b2_12,.val),(b2_13,.val),(b2_14,.val),(b2_15,.val),(b2_16,.val),(.undef,(.arr 0 3 0 b2_17r3)),(b2_18,.val),(.undef,(.arr 1 20 0 b2_19r3))]),(4,some MR)] sg)
def QQ(R:U1)(t1:DV)(t34r3:Nat)(t35 t36 b2_0 b2_1 b2_2 b2_3 b2_4 b2_5 b2_6 b2_7 b2_8 b2_9 b2_10 b2_11 b2_12 b2_13 b2_14 b2_15 b2_16:DV)(b2_17r3:Nat)(b2_18:DV)(b2_19r3:Nat)(sg:List H7):Option DV:=hP f167 PK R (pb 122) (ms 69 [(1,t1),(35,t35),(36,t36)] [(34,(.arr 1 20 0 t34r3))] [(2,some [(b2_0,.val),(b2_1,.val),(b2_2,.val),(b2_3,.val),(b2_4,.val),(b2_5,.val),(b2_6,.val),(b2_7,.val),(b2_8,.val),(b2_9,.val),(b2_10,.val),(b2_11,.val),(b2_12,.val),(b2_13,.val),(b2_14,.val),(b2_15,.val),(b2_16,.val),(.undef,(.arr 0 3 0 b2_17r3)),(b2_18,.val),(.undef,(.arr 1 20 0 b2_19r3))]),(4,some MR)] sg)
def QN(R:U1)(t1 b2_0 b2_1 b2_2 b2_3 b2_4 b2_5 b2_6 b2_7 b2_8 b2_9 b2_10 b2_11 b2_12 b2_13 b2_14 b2_15 b2_16:DV)(b2_17r3:Nat)(b2_18:DV)(b2_19r3:Nat)(sg:List H7):Option DV:=eP f167 PK R (pb 63) (ms 69 [(1,t1)] [] [(2,some [(b2_0,.val),(b2_1,.val),(b2_2,.val),(b2_3,.val),(b2_4,.val),(b2_5,.val),(b2_6,.val),(b2_7,.val),(b2_8,.val),(b2_9,.val),(b2_10,.val),(b2_11,.val),(b2_12,.val),(b2_13,.val),(b2_14,.val),(b2_15,.val),(b2_16,.val),(.undef,(.arr 0 3 0 b2_17r3)),(b2_18,.val),(.undef,(.arr 1 20 0 b2_19r3))]),(4,some MR)] sg)
def A0l:A1S R a b =
 (og (E5 20 a)<|ob (aC (A7 17 a)) λp1=>og (true&&p1.1==3&&decide (p1.2.length<=J9))<|ob (aC (A7 19 a)) λp2=>og (true&&p2.1==20&&decide (p2.2.length<=J9))<|QP R b (p1.2.length) (.int .i64 p1.2.length) (iI 0) (A7 0 a) (A7 1 a) (A7 2 a) (A7 3 a) (A7 4 a) (A7 5 a) (A7 6 a) (A7 7 a) (A7 8 a) (A7 9 a) (A7 10 a) (A7 11 a) (A7 12 a) (A7 13 a) (A7 14 a) (A7 15 a) (A7 16 a) (p1.2.length) (A7 18 a) (p2.2.length) [.arr 3 p1.2,.arr 20 p2.2]):=F6 [14]
def Va(R:U1)(t1:DV)(t18r3:Nat)(t19 t20 b2_0 b2_1 b2_2 b2_3 b2_4 b2_5 b2_6 b2_7 b2_8 b2_9 b2_10 b2_11 b2_12 b2_13 b2_14 b2_15 b2_16:DV)(b2_17r3:Nat)(b2_18:DV)(b2_19r3:Nat)(sg:List H7):QP R t1 t18r3 t19 t20 b2_0 b2_1 b2_2 b2_3 b2_4 b2_5 b2_6 b2_7 b2_8 b2_9 b2_10 b2_11 b2_12 b2_13 b2_14 b2_15 b2_16 b2_17r3 b2_18 b2_19r3 sg =
 (ob (D7 .lss t20 t19) λy=>F3 y (ob (Cf 0 t18r3 t20) λn2=>ob (CZ sg 0) λr3=>ob (r3.2[n2]?) λz=>og (r3.1==3)<|ob (R.p Wj [(R6 z),t1]) λx=>ob (Cf 0 b2_17r3 t20) λn6=>ob (CZ sg 0) λr7=>ob (r7.2[n6]?) λu8=>og (E5 3 x)<|og (r7.1==3)<|ob (D7 .add t20 (iI 1)) λw=>QP R t1 t18r3 t19 w b2_0 b2_1 b2_2 b2_3 b2_4 b2_5 b2_6 b2_7 b2_8 b2_9 b2_10 b2_11 b2_12 b2_13 b2_14 b2_15 b2_16 b2_17r3 b2_18 b2_19r3 (sg.set 0 (.arr 3 (r7.2.set n6 x)))) (QQ R t1 b2_19r3 (.int .i64 b2_19r3) (iI 0) b2_0 b2_1 b2_2 b2_3 b2_4 b2_5 b2_6 b2_7 b2_8 b2_9 b2_10 b2_11 b2_12 b2_13 b2_14 b2_15 b2_16 b2_17r3 b2_18 b2_19r3 sg)):=J2 [14]
def Vb(R:U1)(t1:DV)(t34r3:Nat)(t35 t36 b2_0 b2_1 b2_2 b2_3 b2_4 b2_5 b2_6 b2_7 b2_8 b2_9 b2_10 b2_11 b2_12 b2_13 b2_14 b2_15 b2_16:DV)(b2_17r3:Nat)(b2_18:DV)(b2_19r3:Nat)(sg:List H7):QQ R t1 t34r3 t35 t36 b2_0 b2_1 b2_2 b2_3 b2_4 b2_5 b2_6 b2_7 b2_8 b2_9 b2_10 b2_11 b2_12 b2_13 b2_14 b2_15 b2_16 b2_17r3 b2_18 b2_19r3 sg =
 (ob (D7 .lss t36 t35) λy=>F3 y (ob (Cf 0 t34r3 t36) λn2=>ob (CZ sg 1) λr3=>ob (r3.2[n2]?) λz=>og (r3.1==20)<|ob (R.p NE [(.agg [b2_0,b2_1,b2_2,b2_3,b2_4,b2_5,b2_6,b2_7,b2_8,b2_9,b2_10,b2_11,b2_12,b2_13,b2_14,b2_15,b2_16,.undef,b2_18,.undef]),t36,t1]) λw=>ob (R.p Qk [(I7 z),w]) λx=>ob (Cf 0 b2_19r3 t36) λn7=>ob (CZ sg 1) λr8=>ob (r8.2[n7]?) λu9=>og (E5 20 x)<|og (r8.1==20)<|ob (D7 .add t36 (iI 1)) λu=>QQ R t1 t34r3 t35 u b2_0 b2_1 b2_2 b2_3 b2_4 b2_5 b2_6 b2_7 b2_8 b2_9 b2_10 b2_11 b2_12 b2_13 b2_14 b2_15 b2_16 b2_17r3 b2_18 b2_19r3 (sg.set 1 (.arr 20 (r8.2.set n7 x)))) (ob (D7 .eql b2_0 (iI 12)) λv=>F3 v (ob (R.p NE [(.agg [b2_0,b2_1,b2_2,b2_3,b2_4,b2_5,b2_6,b2_7,b2_8,b2_9,b2_10,b2_11,b2_12,b2_13,b2_14,b2_15,b2_16,.undef,b2_18,.undef]),(iI 0),t1]) λt=>QN R t b2_0 b2_1 b2_2 b2_3 b2_4 b2_5 b2_6 b2_7 b2_8 b2_9 b2_10 b2_11 b2_12 b2_13 b2_14 b2_15 b2_16 b2_17r3 b2_18 b2_19r3 sg) (QN R t1 b2_0 b2_1 b2_2 b2_3 b2_4 b2_5 b2_6 b2_7 b2_8 b2_9 b2_10 b2_11 b2_12 b2_13 b2_14 b2_15 b2_16 b2_17r3 b2_18 b2_19r3 sg))):=J2 [14]
def kM(R:U1)(t1 b2_0 b2_1 b2_2 b2_3 b2_4 b2_5 b2_6 b2_7 b2_8 b2_9 b2_10 b2_11 b2_12 b2_13 b2_14 b2_15 b2_16:DV)(b2_17r3:Nat)(b2_18:DV)(b2_19r3:Nat)(sg:List H7):QN R t1 b2_0 b2_1 b2_2 b2_3 b2_4 b2_5 b2_6 b2_7 b2_8 b2_9 b2_10 b2_11 b2_12 b2_13 b2_14 b2_15 b2_16 b2_17r3 b2_18 b2_19r3 sg =
 (ob (R.p Wj [(.agg [b2_11,b2_12,b2_13]),t1]) λx=>ob (R.p Wj [(.agg [b2_14,b2_15,b2_16]),t1]) λy=>og (E5 3 x)<|og (E5 3 y)<|B4C [ob (X6 sg [(b2_0,.val),(b2_1,.val),(b2_2,.val),(b2_3,.val),(b2_4,.val),(b2_5,.val),(b2_6,.val),(b2_7,.val),(b2_8,.val),(b2_9,.val),(b2_10,.val),((A7 0 x),.val),((A7 1 x),.val),((A7 2 x),.val),((A7 0 y),.val),((A7 1 y),.val),((A7 2 y),.val),(.undef,(.arr 0 3 0 b2_17r3)),(b2_18,.val),(.undef,(.arr 1 20 0 b2_19r3))]) λds=>some (.agg ds)]):=F6 [14]
def vF:C9.p Qk [a,b]=A1S C9 a b:=Q0 func167
def Ke:=eP f168 KE R [] (I6 f168 [(a,.val),(b,.val)] [])
def KD:Ke R a b =
 (ob (R.p Hd [a,b]) λx=>ob (D7 .geq x (iI 0)) λy=>some y):=F6 []
def Je:C9.p FV [a,b]=Ke C9 a b:=Q0 func168
def A5o:=eP f169 lN R [] (I6 f169 [(a,.val)] [])
def NM:=hP f169 lN R (pb 250) (ms 43 [(33,a),(34,b),(35,c)] [] [] [])
def A2C:A5o R a =
 (og (E5 3 a)<|ob (R.p qV [(A7 0 a)]) λx=>ob (D7 .lss x (iI 0)) λy=>K3 y sF (ob (L6 (A7 2 a)) λz=>ob (D7 .neq z x) λw=>F3 w sF (ob (D7 .eql (A7 0 a) (iI 6)) λu=>F3 u (ob (D7 .geq (A7 1 a) (iI 0)) λv=>K3 v (ob (D7 .leq (A7 1 a) (iI 1048576)) λt=>some t) sF none) (ob (D7 .neq (A7 1 a) (iI 0)) λs=>F3 s sF (ob (L6 (A7 2 a)) λr=>NM R (A7 2 a) r (iI 0))))) none):=F6 []
def Xd:NM R a b c =
 (ob (D7 .lss c b) λx=>F3 x (ob (F7 3 a c) λy=>ob (R.p Zw [(R6 y)]) λz=>ob (R8 .not z) λw=>F3 w sF (ob (D7 .add c (iI 1)) λu=>NM R a b u)) sT):=J2 []
def A0L:C9.p Zw [a]=A5o C9 a:=Q0 func169
def A5p:=eP f170 lQ R [] (I6 f170 [(a,.val)] [])
def Sb:=hP f170 lQ R (pb 58) (ms 37 [(0,a),(3,b)] [] [] [])
def A2D:A5p R a =
 (ob (ES a) λx=>ob (D7 .lss x (iI 1)) λy=>K3 y sF (ob (ES a) λz=>ob (D7 .gtr z (iI 32)) λw=>K3 w sF (ob (Af a (iI 0)) λu=>ob (D7 .lss u (.int .u8 97)) λv=>K3 v sF (ob (Af a (iI 0)) λt=>ob (D7 .gtr t (.int .u8 122)) λs=>K3 s sF (ob (R.p wX [a]) λr=>F3 r sF (Sb R a (iI 1))) none) none) none) none):=F6 []
def Xe:Sb R a b =
 (ob (ES a) λx=>ob (D7 .lss b x) λy=>F3 y (ob (Af a b) λz=>ob (R.p jI [z]) λw=>ob (R8 .not w) λu=>F3 u sF (ob (D7 .add b (iI 1)) λv=>Sb R a v)) sT):=J2 []
def A0M:C9.p Zx [a]=A5p C9 a:=Q0 func170
def A5l:=eP f171 A3t R [] (I6 f171 [(a,.val)] [])
def A2z:A5l R a =
 (og (E5 3 a)<|ob (D7 .eql (A7 0 a) (iI 0)) λx=>K3 x (ob (D7 .eql (A7 1 a) (iI 0)) λy=>K3 y (ob (L6 (A7 2 a)) λz=>ob (D7 .eql z (iI 0)) λw=>some w) sF none) sF none):=F6 []
def A0I:C9.p qU [a]=A5l C9 a:=Q0 func171
def TI:=eP f172 Ko R [] (I6 f172 [(a,.val),(b,.val)] [])
def FK:=hP f172 Ko R (pb 26) (ms 19 [(0,a),(1,b),(7,c),(8,d)] [] [] [])
def RF:TI R a b =
 (ob (L6 a) λx=>FK R a b x (iI 0)):=F6 []
def Ij:FK R a b c d =
 (ob (D7 .lss d c) λy=>F3 y (ob (F7 1 a d) λx=>og (M7 x)<|ob (D7 .eql b x) λz=>F3 z (some d) (ob (D7 .add d (iI 1)) λw=>FK R a b c w)) (some (.int .i64 (-1)))):=J2 []
def QW:C9.p LV [a,b]=TI C9 a b:=Q0 func172
def zN:=eP f174 ZP R [] (I6 f174 [(a,.val)] [])
def Ay:=eP f174 ZP R (pb 15) (ms 83 [(4,a)] [] [(1,bx b 7),(3,bv [c,d,e,f,g,h,o])] [])
def uP:zN R a =
 (og (E5 7 a)<|og (J7 (A7 0 a))<|og (J7 (A7 6 a))<|ob (D7 .eql (A7 0 a) (iI 1)) λx=>F3 x (Ay R (iI 0) a (A7 0 a) (A7 1 a) (A7 2 a) (.str ⟨#[]⟩) (iI 0) (.str ⟨#[]⟩) (A7 6 a)) (ob (D7 .eql (A7 0 a) (iI 6)) λy=>F3 y (Ay R (iI 0) a (A7 0 a) (A7 1 a) (A7 2 a) (.str ⟨#[]⟩) (iI 0) (.str ⟨#[]⟩) (A7 6 a)) (ob (D7 .eql (A7 0 a) (iI 8)) λz=>F3 z (Ay R (iI 0) a (A7 0 a) (A7 1 a) (A7 2 a) (.str ⟨#[]⟩) (iI 0) (.str ⟨#[]⟩) (A7 6 a)) (ob (D7 .eql (A7 0 a) (iI 2)) λw=>F3 w (og (J7 (A7 3 a))<|ob (R.p Zx [(A7 3 a)]) λu=>ob (R8 .not u) λv=>F3 v sF (Ay R (iI 0) a (A7 0 a) (A7 1 a) (A7 2 a) (A7 3 a) (iI 0) (.str ⟨#[]⟩) (A7 6 a))) (ob (D7 .eql (A7 0 a) (iI 3)) λt=>F3 t (og (J7 (A7 4 a))<|Ay R (iI 0) a (A7 0 a) (A7 1 a) (A7 2 a) (.str ⟨#[]⟩) (A7 4 a) (.str ⟨#[]⟩) (A7 6 a)) (ob (D7 .eql (A7 0 a) (iI 4)) λs=>
 F3 s (og (J7 (A7 4 a))<|ob (D7 .neq (A7 4 a) (iI 0)) λr=>K3 r (ob (D7 .neq (A7 4 a) (iI 1)) λq=>F3 q sF (Ay R (iI 0) a (A7 0 a) (A7 1 a) (A7 2 a) (.str ⟨#[]⟩) (A7 4 a) (.str ⟨#[]⟩) (A7 6 a))) (Ay R (iI 0) a (A7 0 a) (A7 1 a) (A7 2 a) (.str ⟨#[]⟩) (A7 4 a) (.str ⟨#[]⟩) (A7 6 a)) none) (ob (D7 .eql (A7 0 a) (iI 5)) λo=>F3 o (og (J7 (A7 5 a))<|ob (ES (A7 5 a)) λn=>ob (D7 .gtr n (iI 200)) λm=>F3 m sF (Ay R (iI 0) a (A7 0 a) (A7 1 a) (A7 2 a) (.str ⟨#[]⟩) (iI 0) (A7 5 a) (A7 6 a))) (ob (D7 .eql (A7 0 a) (iI 7)) λl=>F3 l (Ay R (iI 2) a (A7 0 a) (A7 1 a) (A7 2 a) (.str ⟨#[]⟩) (iI 0) (.str ⟨#[]⟩) (A7 6 a)) (ob (D7 .eql (A7 0 a) (iI 9)) λk=>F3 k (Ay R (iI 2) a (A7 0 a) (A7 1 a) (A7 2 a) (.str ⟨#[]⟩) (iI 0) (.str ⟨#[]⟩) (A7 6 a)) sF))))))))):=F6 [24]
def fZ:Ay R a b c d e f g h o =
 (ob (L6 (A7 6 b)) λx=>ob (D7 .eql x a) λy=>K3 y (ob (D7 .eql f (A7 3 b)) λz=>K3 z (ob (D7 .eql g (A7 4 b)) λw=>K3 w (ob (D7 .eql h (A7 5 b)) λu=>some u) sF none) sF none) sF none):=F6 [24]
def om:C9.p dE [a]=zN C9 a:=Q0 func174
def A44:=eP f175 A3k R [] (I6 f175 [(a,.val)] [])
def B3E:A44 R a =
 (ob (D7 .eql a (iI 3)) λx=>F3 x (some (iI 1)) (ob (D7 .eql a (iI 4)) λy=>F3 y (some (iI 2)) (ob (D7 .eql a (iI 5)) λz=>F3 z (some (iI 3)) (ob (D7 .eql a (iI 6)) λw=>F3 w (some (iI 4)) (ob (D7 .eql a (iI 8)) λu=>F3 u (some (iI 8)) (some (iI 0))))))):=F6 []
def B2k:C9.p qO [a]=A44 C9 a:=Q0 func175
def A1T:=eP f176 A0Z R [] (I6 f176 [(a,.val)] [])
def B2d:A1T R a =
 (og (E5 3 a)<|ob (R.p Ug [(R6 a),(iI 6)]) λx=>some x):=F6 []
def B0a:C9.p Wm [a]=A1T C9 a:=Q0 func176
def B3b:=eP f177 A3n R [] (I6 f177 [(a,.val),(b,.val)] [])
def Zy:=hP f177 A3n R (pb 26) (ms 18 [(0,a),(1,b),(5,c)] [] [] [])
def B08:B3b R a b =
 (Zy R a b (iI 0)):=F6 []
def j_:Zy R a b c =
 (ob (L6 a) λy=>ob (D7 .lss c y) λz=>F3 z (ob (F7 1 a c) λx=>og (M7 x)<|ob (D7 .eql x b) λw=>F3 w sT (ob (D7 .add c (iI 1)) λu=>Zy R a b u)) sF):=J2 []
def A8N:C9.p wP [a,b]=B3b C9 a b:=Q0 func177
def zJ:=eP f178 ZO R [] (I6 f178 [(a,.val),(b,.val)] [])
def Kb:=hP f178 ZO R (pb 58) (ms 29 [(0,a),(1,b),(5,c),(6,d)] [(5,.own)] [] [])
def uH:zJ R a b =
 (Kb R a b (.list 4 []) (iI 0)):=F6 []
def Tf:Kb R a b c d =
 (ob (L6 a) λy=>ob (D7 .lss d y) λz=>F3 z (ob (F7 4 a d) λw=>ob (R.p wP [b,(A7 0 w)]) λu=>ob (R8 .not u) λv=>F3 v (ob (F7 4 a d) λx=>ob (AP 4 c (.list 4 [(.agg [(A7 0 x),(A7 1 x),(A7 2 x),(A7 3 x)])])) λt=>ob (D7 .add d (iI 1)) λs=>Kb R a b t s) (ob (D7 .add d (iI 1)) λr=>Kb R a b c r)) (some c)):=J2 []
def oZ:C9.p dC [a,b]=zJ C9 a b:=Q0 func178
def B0P:=eP f179 A8T R [] (I6 f179 [(a,.val),(b,.val)] [])
def A8F:B0P R a b =
 (og (E5 3 a)<|ob (R.p wQ [(R6 a)]) λy=>F3 y (some (R6 a)) (ob (R.p nP [(R6 a),b]) λx=>og (E5 3 x)<|some (R6 x))):=F6 []
def A6b:C9.p aZ [a,b]=B0P C9 a b:=Q0 func179
def A73:=eP f187 A6s R [] (I6 f187 [(a,.val),(b,.val)] [])
def A50:A73 R a b =
 (og (E5 3 a)<|ob (D7 .eql (A7 0 a) (iI 0)) λz=>F3 z (some (R6 a)) (ob (R.p SB [(R6 a),b]) λx=>ob (K5 0 x) λy=>ob (K5 1 x) λw=>og (E5 3 y)<|some (R6 y))):=F6 []
def A3a:C9.p Wj [a,b]=A73 C9 a b:=Q0 func187
def sP:=eP f188 ow R [] (I6 f188 [(a,.val),(b,.val),(c,.val)] [])
def oL:sP R a b c =
 (og (E5 20 a)<|ob (D7 .gtr b (iI 0)) λx=>K3 x (some c) (ob (L6 (A7 10 a)) λy=>ob (D7 .eql y (iI 0)) λz=>F3 z (some c) (ob (aC c) λp4=>og (true&&p4.1==4&&decide (p4.2.length<=J9))<|oc (R.r Bd [(.undef,(.arr 1 4 0 p4.2.length)),(.undef,(.fn 201 [(0,0)]))] [H7.box [((A7 0 a),.val),((A7 1 a),.val),((A7 2 a),.val),((A7 3 a),.val),((A7 4 a),.val),((A7 5 a),.val),((A7 6 a),.val),((A7 7 a),.val),((A7 8 a),.val),((A7 9 a),.val),((A7 10 a),.val),((A7 11 a),.val),((A7 12 a),.val),((A7 13 a),.val),((A7 14 a),.val),((A7 15 a),.val),((A7 16 a),.val),((A7 17 a),.val),((A7 18 a),.val),((A7 19 a),.val)],.arr 4 p4.2]) λq5 s5=>some q5)) none):=F6 []
def kZ:C9.p NE [a,b,c]=sP C9 a b c:=Q0 func188
def Mg:=eP f189 Gd R [] (I6 f189 [(a,.val),(b,.val)] [])
def Cr:=hP f189 Gd R (pb 26) (ms 19 [(0,a),(1,b),(7,c),(8,d)] [] [] [])
def MF:Mg R a b =
 (ob (L6 a) λx=>Cr R a b x (iI 0)):=F6 []
def FB:Cr R a b c d =
 (ob (D7 .lss d c) λy=>F3 y (ob (F7 1 a d) λx=>og (M7 x)<|ob (D7 .eql b x) λz=>F3 z (some d) (ob (D7 .add d (iI 1)) λw=>Cr R a b c w)) (some (.int .i64 (-1)))):=J2 []
def LQ:C9.p Hd [a,b]=Mg C9 a b:=Q0 func189
def A5n:=eP f190 A3v R [] (I6 f190 [(a,.val)] [])
def A2B:A5n R a =
 (ob (D7 .eql a (iI 1)) λx=>F3 x (some (iI 0)) (ob (D7 .eql a (iI 2)) λy=>F3 y (some (iI 0)) (ob (D7 .eql a (iI 3)) λz=>F3 z (some (iI 0)) (ob (D7 .eql a (iI 4)) λw=>F3 w (some (iI 0)) (ob (D7 .eql a (iI 5)) λu=>F3 u (some (iI 0)) (ob (D7 .eql a (iI 6)) λv=>F3 v (some (iI 0)) (ob (D7 .eql a (iI 8)) λt=>F3 t (some (iI 1)) (ob (D7 .eql a (iI 7)) λs=>F3 s (some (iI 2)) (ob (D7 .eql a (iI 9)) λr=>F3 r (some (iI 2)) (some (.int .i64 (-1)))))))))))):=F6 []
def A0K:C9.p qV [a]=A5n C9 a:=Q0 func190
def A77:=eP f191 A6u R [] (I6 f191 [(a,.val)] [])
def A52:A77 R a =
 (ob (D7 .eql a (.str ⟨#[108,101,116]⟩)) λx=>F3 x sT (ob (D7 .eql a (.str ⟨#[114,101,99]⟩)) λy=>F3 y sT (ob (D7 .eql a (.str ⟨#[105,110]⟩)) λz=>F3 z sT (ob (D7 .eql a (.str ⟨#[102,117,110]⟩)) λw=>F3 w sT (ob (D7 .eql a (.str ⟨#[105,102]⟩)) λu=>F3 u sT (ob (D7 .eql a (.str ⟨#[116,104,101,110]⟩)) λv=>F3 v sT (ob (D7 .eql a (.str ⟨#[101,108,115,101]⟩)) λt=>F3 t sT (ob (D7 .eql a (.str ⟨#[109,97,116,99,104]⟩)) λs=>F3 s sT (ob (D7 .eql a (.str ⟨#[119,105,116,104]⟩)) λr=>F3 r sT (ob (D7 .eql a (.str ⟨#[101,110,100]⟩)) λq=>F3 q sT (ob (D7 .eql a (.str ⟨#[116,114,117,101]⟩)) λp=>F3 p sT (ob (D7 .eql a (.str ⟨#[102,97,108,115,101]⟩)) λo=>F3 o sT (ob (D7 .eql a (.str ⟨#[105,110,116]⟩)) λn=>F3 n sT (ob (D7 .eql a (.str ⟨#[98,111,111,108]⟩)) λm=>F3 m sT (ob (D7 .eql a (.str ⟨#[115,116,114,105,110,103]⟩)) λl=>
 F3 l sT (ob (D7 .eql a (.str ⟨#[117,110,105,116]⟩)) λk=>F3 k sT (ob (D7 .eql a (.str ⟨#[108,105,115,116]⟩)) λj=>F3 j sT sF))))))))))))))))):=F6 []
def A3c:C9.p wX [a]=A77 C9 a:=Q0 func191
def A1U:=eP f192 A00 R [] (I6 f192 [(a,.val)] [])
def A0m:A1U R a =
 (ob (D7 .geq a (.int .u8 97)) λx=>K3 x (ob (D7 .leq a (.int .u8 122)) λy=>K3 y sT (ob (D7 .geq a (.int .u8 65)) λz=>K3 z (ob (D7 .leq a (.int .u8 90)) λw=>K3 w sT (ob (D7 .geq a (.int .u8 48)) λu=>K3 u (ob (D7 .leq a (.int .u8 57)) λv=>K3 v sT (ob (D7 .eql a (.int .u8 95)) λt=>K3 t sT (ob (D7 .eql a (.int .u8 39)) λs=>some s) none) none) (ob (D7 .eql a (.int .u8 95)) λr=>K3 r sT (ob (D7 .eql a (.int .u8 39)) λq=>some q) none) none) none) (ob (D7 .geq a (.int .u8 48)) λp=>K3 p (ob (D7 .leq a (.int .u8 57)) λo=>K3 o sT (ob (D7 .eql a (.int .u8 95)) λn=>K3 n sT (ob (D7 .eql a (.int .u8 39)) λm=>some m) none) none) (ob (D7 .eql a (.int .u8 95)) λl=>K3 l sT (ob (D7 .eql a (.int .u8 39)) λk=>some k) none) none) none) none) (ob (D7 .geq a (.int .u8 65)) λj=>K3 j (ob (D7 .leq a (.int .u8 90)) λi=>K3 i sT (ob (D7 .geq a (.int .u8 48)) λh=>
 K3 h (ob (D7 .leq a (.int .u8 57)) λg=>K3 g sT (ob (D7 .eql a (.int .u8 95)) λf=>K3 f sT (ob (D7 .eql a (.int .u8 39)) λe=>some e) none) none) (ob (D7 .eql a (.int .u8 95)) λd=>K3 d sT (ob (D7 .eql a (.int .u8 39)) λc=>some c) none) none) none) (ob (D7 .geq a (.int .u8 48)) λb=>K3 b (ob (D7 .leq a (.int .u8 57)) λX=>K3 X sT (ob (D7 .eql a (.int .u8 95)) λY=>K3 Y sT (ob (D7 .eql a (.int .u8 39)) λZ=>some Z) none) none) (ob (D7 .eql a (.int .u8 95)) λW=>K3 W sT (ob (D7 .eql a (.int .u8 39)) λU=>some U) none) none) none) none):=F6 []
def vG:C9.p jI [a]=A1U C9 a:=Q0 func192
def zO:=eP f195 ZQ R [] (I6 f195 [(a,.val),(b,.val)] [])
def Kg:=hP f195 ZQ R (pb 58) (ms 23 [(1,a),(12,b),(13,c),(14,d)] [] [] [])
def A96:zO R a b =
 (og (E5 3 a)<|ob (D7 .eql (A7 0 a) b) λx=>F3 x sF (ob (L6 (A7 2 a)) λy=>Kg R b (A7 2 a) y (iI 0))):=F6 []
def fe:Kg R a b c d =
 (ob (D7 .lss d c) λx=>F3 x (ob (F7 3 b d) λy=>ob (R.p Ug [(R6 y),a]) λz=>ob (R8 .not z) λw=>F3 w sF (ob (D7 .add d (iI 1)) λu=>Kg R a b c u)) sT):=J2 []
def A8Q:C9.p Ug [a,b]=zO C9 a b:=Q0 func195
def A7H:=eP f196 A6k R [] (I6 f196 [(a,.val)] [])
def A5H:A7H R a =
 (og (E5 3 a)<|ob (D7 .eql (A7 0 a) (iI 0)) λx=>K3 x (ob (D7 .eql (A7 1 a) (iI 0)) λy=>K3 y (ob (L6 (A7 2 a)) λz=>ob (D7 .eql z (iI 0)) λw=>some w) sF none) sF none):=F6 []
def A2Q:C9.p wQ [a]=A7H C9 a:=Q0 func196
def B0M:=eP f197 gz R [] (I6 f197 [(a,.val),(b,.val)] [])
def Wx:=hP f197 gz R (pb 210) (ms 54 [(1,a),(5,b)] [] [(2,bx c 3),(4,some nK)] [])
def Uo:=hP f197 gz R (pb 122) (ms 54 [(1,a),(7,b)] [] [(2,bx c 3),(4,some nK),(6,some [(d,.val),((iI 0),.val),(e,.own)])] [])
def A8C:B0M R a b =
 (og (E5 3 a)<|ob (D7 .eql (A7 0 a) (iI 6)) λx=>F3 x (Wx R b (iI 0) a) (og (J7 (A7 0 a))<|Uo R b (iI 0) a (A7 0 a) (.list 3 []))):=F6 []
def dY:Wx R a b c =
 (ob (L6 a) λy=>ob (D7 .lss b y) λz=>F3 z (ob (F7 4 a b) λw=>ob (D7 .eql (A7 0 w) (A7 1 c)) λu=>F3 u (ob (F7 4 a b) λx=>some (.agg [(A7 1 x),(A7 2 x),(A7 3 x)])) (ob (D7 .add b (iI 1)) λv=>Wx R a v c)) (some (R6 c))):=J2 []
def ZB:Uo R a b c d e =
 (ob (L6 (A7 2 c)) λy=>ob (D7 .lss b y) λz=>F3 z (ob (F7 3 (A7 2 c) b) λw=>ob (R.p nP [(R6 w),a]) λx=>og (E5 3 x)<|ob (AP 3 e (.list 3 [x])) λu=>ob (D7 .add b (iI 1)) λv=>Uo R a v c d u) (some (.agg [d,(iI 0),e]))):=J2 []
def A58:C9.p nP [a,b]=B0M C9 a b:=Q0 func197
def DY:=eR f199 BL DC R [] (I6 f199 [(.undef,(.arr i 4 j k)),(.undef,(.fn 201 [(l,0)]))] s)
def Y9:=hR f199 BL DC R (pb 122) (ms 42 [(5,a),(6,b)] [(0,(.arr i 4 j k)),(1,(.fn 201 [(l,0)]))] [] s)
def C_:DY R i j k l s =
 (oc (R.r Y3 [(.undef,(.arr i 4 j k)),(.undef,(.fn 201 [(l,0)]))] s) λq1 s1=>ob (D7 .eql q1 (.int .i64 (-1))) λx=>F3 x (ob (mi [V6 s1 (.undef,(.arr i 4 j k))]) λds=>some (ds,(s1.set i (H7.arr 1 [])))) (ob (D7 .add q1 (iI 1)) λy=>Y9 R i j k l q1 y s1)):=F6 []
def CW:Y9 R i j k l a b s =
 (ob (D7 .lss b (.int .i64 k)) λy=>F3 y (ob (Cf j k b) λn2=>ob (CZ s i) λr3=>ob (r3.2[n2]?) λx=>og (r3.1==4)<|oc (R.r Dw [((.agg [(A7 0 x),(A7 1 x),(A7 2 x),(A7 3 x)]),.val),(pt l)] s) λq5 s5=>ob (R8 .not q5) λz=>F3 z (ob (Cf j k a) λn7=>ob (CZ s5 i) λr8=>ob (r8.2[n7]?) λu9=>og (r8.1==4)<|ob (D7 .add a (iI 1)) λw=>ob (D7 .add b (iI 1)) λu=>Y9 R i j k l w u (s5.set i (.arr 4 (r8.2.set n7 (.agg [(A7 0 x),(A7 1 x),(A7 2 x),(A7 3 x)]))))) (ob (D7 .add b (iI 1)) λv=>Y9 R i j k l a v s5)) (ob (bnd 0 (some a)) λn13=>if n13<=k/\k<=k then(ob (CZ s i) λr14=>og (r14.1==4&&true&&true&&decide ((j+n13)+(k-n13)<=r14.2.length))<|ob (bnd k (some a)) λn15=>if 0<=n15/\n15<=k then(ob (mi [V6 (s.set i (.arr 4 (r14.2.take (j+n13)))) (.undef,(.arr i 4 (j+0) (n15-0)))]) λds=>
 some (ds,((s.set i (.arr 4 (r14.2.take (j+n13)))).set i (H7.arr 1 []))))else none)else none)):=J2 []
def Gb:C9.r Bd [(.undef,(.arr i 4 j k)),(.undef,(.fn 201 [(l,0)]))] s=DY C9 i j k l s:=LU (s:=BL) func199
def GL(x0i x0o x0n x1_0:Nat)(sg:List H7){q:List DV×List H7}(h:DY C9 x0i x0o x0n x1_0 sg=some q):C9.r Bd [(.undef,(.arr x0i 4 x0o x0n)),(.undef,(.fn 201 [(x1_0,0)]))] sg=some q:=(Gb x0i x0o x0n x1_0 sg).trans h
def jS(R:U1)(x0:DV)(x1:Nat)(sg:List H7):Option (List DV×List H7):=eR f201 Rh f_ R [] (I6 f201 [(x0,.val),(pt x1)] sg)
def fV(R:U1)(x0:DV)(x1:Nat)(sg:List H7):jS R x0 x1 sg =
 (og (E5 4 x0)<|ob (Q7 sg x1) λc1=>ob (Y5 c1 10) λx=>ob (R.p FJ [x,(A7 0 x0)]) λy=>some ([y],sg)):=F6 []
def bJ(x0:DV)(x1:Nat)(sg:List H7):C9.r Dw [(x0,.val),(.undef,(.ptr x1 0))] sg=jS C9 x0 x1 sg:=LU (s:=Rh) func201
end
end Go.Su

/-
 Equations of the program's functions: by program.
-/
namespace Go.Su
set_option linter.defProp false
open Go.Proofs
open Tryz
variable (R: U1)(i j k l: Nat)(a b h q r x y z: DV)(s: List H7)
noncomputable def Dl:=eR f202 BV Da R [] (I6 f202 [(.undef,(.arr i 4 j k)),(.undef,(.fn 201 [(l,0)]))] s)
noncomputable def T9:=hR f202 BV Da R (pb 26) (ms 19 [(7,a),(8,b)] [(0,(.arr i 4 j k)),(1,(.fn 201 [(l,0)]))] [] s)
def Hr:Dl R i j k l s =
 (T9 R i j k l (.int .i64 k) (iI 0) s):=F6 []
def Cb:T9 R i j k l a b s =
 (ob (D7 .lss b a) λy=>F3 y (ob (Cf j k b) λn2=>ob (CZ s i) λr3=>ob (r3.2[n2]?) λx=>og (r3.1==4)<|oc (R.r Dw [((.agg [(A7 0 x),(A7 1 x),(A7 2 x),(A7 3 x)]),.val),(pt l)] s) λq5 s5=>F3 q5 (some ([b],s5)) (ob (D7 .add b (iI 1)) λz=>T9 R i j k l a z s5)) (some ([(.int .i64 (-1))],s))):=J2 []
def Gz:C9.r Y3 [(.undef,(.arr i 4 j k)),(.undef,(.fn 201 [(l,0)]))] s=Dl C9 i j k l s:=LU (s:=BV) func202
def OQ(x0i x0o x0n x1_0:Nat)(sg:List H7){q:List DV×List H7}(h:Dl C9 x0i x0o x0n x1_0 sg=some q):C9.r Y3 [(.undef,(.arr x0i 4 x0o x0n)),(.undef,(.fn 201 [(x1_0,0)]))] sg=some q:=(Gz x0i x0o x0n x1_0 sg).trans h
end Go.Su

/-
 All equations.
-/
namespace Go.Su
end Go.Su
