/-
  Parts of the proof, merged: Cfg, It, J0, G1, G2, G3, G4, G5, G6, G7, T0, Q.
-/
import Derived.KernelRfl
import Derived.LoopNIn
import Derived.OwnWalkIn
import Derived.RangeFuncBound
import Derived.RangeFuncKeeps
import Derived.RangeFuncLeaves
import Derived.Shelf.Abstract
import Derived.TacticsInMore
import Derived.Test.YtfcklgngoefgmaaGreatProg
import Derived.Test.YtfcklgngoefgmaaGreatRows
import Derived.WalkKit
import Derived.Test.YtfcklgngoefgmaaGreatQ3
set_option linter.unusedVariables false
set_option linter.unusedSimpArgs false
set_option linter.unusedSectionVars false
/-
 The settings of the data machine for this seat: by program.
-/
open Array renaming replicate_succ → z6q, replicate_zero → z7q
open Bool renaming false_eq_true → z2q, and_eq_true → zkq, eq_false_iff → znq, not_false → zpq, eq_iff_iff → zuq, true_and → zEq, not_true → zJq, false_and → zMq, and_true → zNq
open Int renaming cast_ofNat_Int → zaq, natCast_zero → ziq, ofNat_zero → zlq
open List renaming getElem_mem → z0q, drop_eq_getElem_cons → z1q, getElem?_eq_getElem → z3q, length_map → z4q, drop_of_length_le → z5q, append_toArray → z8q, getD_eq_getElem?_getD → z9q, length_cons → zbq, size_toArray → zcq, push_toArray → zdq, length_nil → zeq, cons_append → zfq, mem_cons_self → zgq, nil_append → zhq, map_cons → zjq, mem_cons_of_mem → zoq, setIfInBounds_toArray → zrq, nodup_iff_pairwise_ne → zsq, sum_cons → ztq, pairwise_iff_getElem → zvq, mem_take_iff_getElem → zwq, length_append → zxq, flatMap_cons → zyq, getElem?_cons_succ → zzq, getElem?_cons_zero → zAq, not_mem_nil → zBq, mem_cons → zCq, all_cons → zDq, drop_zero → zFq, set_cons_zero → zGq, set_cons_succ → zHq, append_assoc → zIq, nodup_append → zKq, drop_length → zLq
open Nat renaming le_of_lt → zmq, le_refl → zqq
namespace Go.Su
set_option linter.defProp false
noncomputable section
open Go.Proofs
open Tryz
def spread{α : Type}(d : α):Nat->Nat->List (Nat×α)->List α
 |0,_,_=>[]
 |n+1,i,[]=>d::spread d n (i+1) []
 |n+1,i,(j,x)::l=>match Nat.beq i j with
   |true=>x::spread d n (i+1) l
   |false=>d::spread d n (i+1) ((j,x)::l)
def bxs(d:DV):Nat->Nat->List (DV×F4)
 |_,0=>[]
 |i,n+1=>(A8 i d,.val)::bxs d (i+1) n
def mst(n:Nat)(a:List (Nat×DV))(b:List (Nat×F4))(c:List (Nat×Option (List (DV×F4))))(g:List E5):St:=⟨spread .undef n 0 a,spread .val n 0 b,spread none n 0 c,g⟩
abbrev sF:Option DV:=some (.bool false)
abbrev sT:Option DV:=some (.bool true)
abbrev bZ(l:List DV):List DV:=(.str ⟨#[]⟩)::(.int .i64 0)::(.str ⟨#[]⟩)::(.int .i64 0)::(.int .i64 0)::(.int .i64 0)::(.list 3 [])::(.int .i64 0)::(.int .i64 0)::(.list 3 [])::(.list 7 [])::(.list 16 [])::l
abbrev Ox(l:List DV):List DV:=(.bool false)::(.bool false)::(.bool false)::(.bool false)::l
abbrev Ig(l:List DV):List DV:=(.int .i64 0)::(.int .i64 0)::(.list 3 [])::l
abbrev JU(l:List DV):List DV:=(.int .i64 0)::(.int .i64 0)::(.str ⟨#[]⟩)::l
abbrev zz4(l:List (DV×F4)):List (DV×F4):=(.int .i64 0,.val)::(.int .i64 0,.val)::(.int .i64 0,.val)::(.int .i64 0,.val)::(.int .i64 0,.val)::(.str ⟨#[]⟩,.val)::l
abbrev ym(l:List DV):List DV:=(.str ⟨#[]⟩)::(.int .i64 0)::(.str ⟨#[]⟩)::l
abbrev vV(l:List DV):List DV:=(.int .i64 0)::(.int .i64 0)::(.int .i64 0)::l
abbrev zz7(l:List DV):List DV:=(.int .i64 0)::(.list 1 [])::(.list 1 [])::(.list 4 [])::l
abbrev iV:FuncId:=5
abbrev fU:FuncId:=9
abbrev Cm:FuncId:=11
abbrev RQ:FuncId:=13
abbrev LF:FuncId:=16
abbrev Wn:FuncId:=17
abbrev Wl:FuncId:=19
abbrev RU:FuncId:=20
abbrev Ym:FuncId:=21
abbrev QI:FuncId:=22
abbrev Td:FuncId:=23
abbrev rV:FuncId:=25
abbrev Yl:FuncId:=27
abbrev lU:FuncId:=29
abbrev cK:FuncId:=31
abbrev Rx:FuncId:=32
abbrev fT:FuncId:=35
abbrev Yo:FuncId:=36
abbrev Tg:FuncId:=39
abbrev fu:FuncId:=40
abbrev B_:FuncId:=41
abbrev FJ:FuncId:=42
abbrev GI:FuncId:=43
abbrev U5:FuncId:=44
abbrev Yr:FuncId:=45
abbrev De:FuncId:=46
abbrev Hu:FuncId:=47
abbrev GH:FuncId:=48
abbrev Jp:FuncId:=49
abbrev OE:FuncId:=50
abbrev lN:FuncId:=64
abbrev rW:FuncId:=65
abbrev Vp:FuncId:=66
abbrev fQ:FuncId:=67
abbrev Yq:FuncId:=68
abbrev lS:FuncId:=69
abbrev Wm:FuncId:=70
abbrev Yn:FuncId:=73
abbrev Wp:FuncId:=74
abbrev Wj:FuncId:=76
abbrev lV:FuncId:=78
abbrev Jt:FuncId:=79
abbrev O7:FuncId:=80
abbrev BK:FuncId:=81
abbrev Z0:FuncId:=82
abbrev Jr:FuncId:=83
abbrev FK:FuncId:=84
abbrev DT:FuncId:=85
abbrev KR:FuncId:=86
abbrev KS:FuncId:=87
abbrev KT:FuncId:=88
abbrev Jq:FuncId:=89
abbrev Ii:FuncId:=90
abbrev HZ:FuncId:=91
abbrev R5:FuncId:=92
abbrev Ld:FuncId:=93
abbrev Ha:FuncId:=94
abbrev R6:FuncId:=95
abbrev Yt:FuncId:=96
abbrev yn:FuncId:=115
abbrev Te:FuncId:=116
abbrev Zi:FuncId:=118
abbrev Yp:FuncId:=119
abbrev KU:FuncId:=120
abbrev cO:FuncId:=121
abbrev fq:FuncId:=122
abbrev Wi:FuncId:=123
abbrev Wq:FuncId:=125
abbrev Hw:FuncId:=126
abbrev QH:FuncId:=127
abbrev Vq:FuncId:=130
abbrev RX:FuncId:=131
abbrev Nr:FuncId:=132
abbrev Rz:FuncId:=133
abbrev OX:FuncId:=134
abbrev Oz:FuncId:=135
abbrev Eh:FuncId:=136
abbrev IZ:FuncId:=137
abbrev Y4:FuncId:=138
abbrev DU:FuncId:=139
abbrev Zj:FuncId:=140
abbrev Ih:FuncId:=141
abbrev fV:FuncId:=142
abbrev RG:FuncId:=143
abbrev Ry:FuncId:=144
abbrev Y2:FuncId:=145
abbrev Il:FuncId:=146
abbrev GK:FuncId:=147
abbrev lT:FuncId:=155
abbrev RS:FuncId:=161
abbrev lQ:FuncId:=162
abbrev rU:FuncId:=163
abbrev Wo:FuncId:=164
abbrev fw:FuncId:=165
abbrev lW:FuncId:=166
abbrev Zk:FuncId:=167
abbrev Tk:FuncId:=168
abbrev YA:FuncId:=170
abbrev Q5:FuncId:=171
abbrev EE:FuncId:=172
abbrev Ei:FuncId:=173
abbrev Ik:FuncId:=174
abbrev BO:FuncId:=175
abbrev O_:FuncId:=177
abbrev KV:FuncId:=178
abbrev GJ:FuncId:=179
abbrev Hy:FuncId:=180
abbrev Tf:FuncId:=181
abbrev Lf:FuncId:=182
abbrev Ju:FuncId:=183
abbrev QJ:FuncId:=184
abbrev fo:FuncId:=197
abbrev R_:FuncId:=198
abbrev KW:FuncId:=201
abbrev CX:FuncId:=202
abbrev Le:FuncId:=203
abbrev fZ:FuncId:=204
abbrev Jv:FuncId:=205
abbrev Mx:FuncId:=206
abbrev Eg:FuncId:=207
abbrev Ij:FuncId:=208
abbrev Cb:FuncId:=214
abbrev KF:FuncId:=215
def Om:H8:={ keep:=[(4,[1,2,5],[2],[],[1,2,5]),(15,[1,2,6,8],[2,6],[],[1,2,6,8])] }
def aO:H8:={ keep:=[(5,[0,3,4],[],[],[0,3,4])] }
def aI:H8:={ shared:=[23],keep:=[(11,[4,5,7,10,11,12,50,51,52],[4,5,10,11],[],[4,5,7,10,11,12,50,51,52])] }
def aJ:H8:={ keep:=[(4,[2,3,5],[2,3],[],[2,3,5])] }
def aQ:H8:={ keep:=[(5,[1,3,4,6,7,10],[1,4,6],[],[1,3,4,6,7,10])] }
def Ud:H8:={ keep:=[(4,[1,3],[1],[],[1,3]),(9,[1,4],[1],[],[1,4])] }
def aN:H8:={ keep:=[(2,[0,3],[],[],[0,3])] }
def aS:H8:={ keep:=[(4,[1,3],[1],[],[1,3])] }
def iC:H8:={ keep:=[(3,[1,3,4],[1],[],[1,3,4])] }
def yA:H8:={}
def YE:H8:={ Q3:=[39],keep:=[(7,[1,2,4,5,6],[2,4,5],[5],[1,2,4,6])] }
def nM:H8:={ keep:=[(2,[0,1,5],[],[],[0,1,5])] }
def xy:H8:={}
def yC:H8:={ Q3:=[2] }
def A06:H8:={}
def WG:H8:={ keep:=[(4,[1,2,5],[2],[],[1,2,5])] }
def aM:H8:={ keep:=[(3,[0,3,4],[],[],[0,3,4])] }
def iD:H8:={ keep:=[(3,[1,3,4],[1],[],[1,3,4])] }
def Nn:H8:={ shared:=[1,2],keep:=[(2,[2,6],[],[],[2,6])] }
def aU:H8:={ shared:=[10],Dl:=[21,25],keep:=[(3,[3,11,12,13],[],[],[3,11,12,13])] }
def Sa:Z8:={ params:=[.val],results:=[.ptr] }
def Iu:H8:={ shared:=[10],grow:=[(1,10,[1])],keep:=[(20,[0,2,3,5,9,10,11,17],[5,9],[],[0,2,3,5,9,10,11,17]),(39,[9,10,11],[9],[],[9,10,11])] }
def Eu:Z8:={ params:=[.val,.val,.val,.val],results:=[.val,.val] }
def MH:H8:={ keep:=[(6,[0,4,5,28,29,30],[4,5],[],[0,4,5,28,29,30])] }
def Gz:Z8:={ params:=[.val,.val],results:=[.val] }
def Iy:H8:={ Q3:=[40,58],keep:=[(3,[0,3,4,5,16,17,18],[3,4,5],[5],[0,3,4,16,17,18]),(12,[0,4,5,47,48,49],[4,5],[5],[0,4,47,48,49])] }
def Ew:Z8:={ params:=[.val,.val],results:=[.val] }
def Xg:H8:={}
def OP:Z8:={ params:=[.val],results:=[.val] }
def yE:H8:={ Q3:=[2] }
def TD:H8:={}
def LU:Z8:={ params:=[.val,.val],results:=[] }
def Cs:H8:={ keep:=[(2,[0,3,13,14,15],[3],[],[0,3,13,14,15]),(5,[0,3,13,14,15,20,21,22],[3],[],[0,3,13,14,15,20,21,22]),(11,[0,3,32,33,34],[3],[],[0,3,32,33,34]),(16,[0,43,44,45],[],[],[0,43,44,45])] }
def BR:Z8:={ params:=[.val,.val],results:=[] }
def NE:H8:={ Q3:=[33],keep:=[(8,[0,4,5,26,27,28],[4,5],[5],[0,4,26,27,28])] }
def IQ:Z8:={ params:=[.val,.val],results:=[.val] }
def FO:H8:={ Q3:=[20,36,52],keep:=[(3,[0,3,4,5,13,14,15],[3,4,5],[5],[0,3,4,13,14,15]),(8,[0,3,4,5,29,30,31],[3,4,5],[5],[0,3,4,29,30,31]),(13,[0,4,5,45,46,47],[4,5],[5],[0,4,45,46,47])] }
def DL:Z8:={ params:=[.val,.val],results:=[.val] }
def Ug:H8:={}
def Mh:Z8:={ params:=[.val],results:=[.val] }
def A3l:H8:={}
def Y_:H8:={ keep:=[(4,[1,3],[1,3],[],[1,3]),(6,[1],[1],[],[1])] }
def Ue:H8:={ keep:=[(5,[3,4],[],[],[3,4])] }
def aK:H8:={ keep:=[(3,[0,3,4],[],[],[0,3,4])] }
def iE:H8:={ keep:=[(4,[1,2,5],[2],[],[1,2,5])] }
def x_:H8:={}
def aP:H8:={ Q3:=[27],keep:=[(5,[1,2,3,4],[1,2,3],[3],[1,2,4])] }
def Wv:H8:={ Q3:=[1,4,16,33,35],keep:=[(3,[1,2],[2],[1],[2]),(4,[1,2,5],[2],[1],[2,5])] }
def QB:Z8:={ params:=[.val,.own],results:=[.own] }
def uF:H8:={}
def MI:H8:={ keep:=[(5,[1,2,5],[2],[],[1,2,5]),(8,[1,2],[2],[],[1,2]),(9,[1,2,6],[2],[],[1,2,6]),(12,[1,2],[2],[],[1,2])] }
def EK:H8:={ keep:=[(4,[1,3],[1,3],[],[1,3]),(6,[1,3],[1,3],[],[1,3]),(8,[1,3],[1,3],[],[1,3]),(10,[1,3],[1,3],[],[1,3]),(12,[1,3],[1,3],[],[1,3]),(14,[1,3],[1,3],[],[1,3]),(16,[1,3],[1,3],[],[1,3]),(18,[1],[1],[],[1]),(19,[176,177,178],[],[],[176,177,178])] }
def Iw:H8:={ OO:=[46,51],keep:=[(2,[0,2,3,4,6,11],[6],[],[0,2,3,4,6,11]),(9,[0,2,4,12,39,40],[12],[],[0,2,4,12,39,40])] }
def Ev:Z8:={ params:=[.val,.val,.val,.val,.val],results:=[.val] }
def Vf:H8:={ Q3:=[33],opn:=[37,38],B55:=[(4,40)] }
def NP:Z8:={ params:=[.val,.val,.val,.val,.val,.val],results:=[.val] }
def Ub:H8:={}
def Mg:Z8:={ params:=[.val,.val,.val,.val],results:=[.val] }
def TG:H8:={}
def LX:Z8:={ params:=[.val,.val],results:=[.val] }
def Ua:H8:={}
def Mf:Z8:={ params:=[.val,.val,.val,.val,.val],results:=[.val] }
def TH:H8:={ OO:=[23,26] }
def LY:Z8:={ params:=[.val,.val,.val,.val],results:=[.val] }
def qG:H8:={ Q3:=[4] }
def WY:Z8:={ params:=[.val,.val],results:=[.own] }
def Ve:H8:={}
def NN:Z8:={ params:=[.val,.val,.val,.val,.val],results:=[.val] }
def OH:H8:={ keep:=[(12,[0,2,3,4,6,11],[6,11],[],[0,2,3,4,6,11])] }
def JE:Z8:={ params:=[.val,.val,.val,.val,.val],results:=[.val] }
def OI:H8:={ keep:=[(9,[0,2,3,4,6,13],[6,13],[],[0,2,3,4,6,13])] }
def JF:Z8:={ params:=[.val,.val,.val,.val,.val],results:=[.val] }
def UZ:H8:={}
def Me:Z8:={ params:=[.val,.val,.val,.val,.val],results:=[.val] }
def IJ:H8:={ Q3:=[20,87,102],keep:=[(7,[0,2,3,4,6,12,13,51,52,53],[6],[],[0,2,3,4,6,12,13,51,52,53]),(15,[0,2,3,4,6,12,13,14,17,20,51,52,53,80,81,82],[6],[20],[0,2,3,4,6,12,13,14,17,51,52,53,80,81,82])] }
def ES:Z8:={ params:=[.val,.val,.val,.val,.val],results:=[.val] }
def Vg:H8:={}
def NQ:Z8:={ params:=[.val,.val],results:=[.val] }
def TE:H8:={}
def LV:Z8:={ params:=[.val,.val,.val,.val],results:=[] }
def Kn:H8:={ keep:=[(8,[0,2,3,4,6,11,12],[6],[],[0,2,3,4,6,11,12]),(9,[0,2,3,4,6,11,12,23,24,25],[6],[],[0,2,3,4,6,11,12,23,24,25])] }
def GU:Z8:={ params:=[.val,.val,.val,.val,.val],results:=[.val] }
def Vk:H8:={ shared:=[26],Hl:=[23,24],B5Y:=[(25,[23,24])] }
def NW:Z8:={ params:=[.val,.val],results:=[.val,.val] }
def TF:H8:={}
def LW:Z8:={ params:=[.val,.val,.val],results:=[] }
def Ww:H8:={ Q3:=[2,6,17,36,39],keep:=[(5,[1,2,3],[3],[2],[1,3]),(6,[1,2,28,29,30],[],[2],[1,28,29,30])] }
def QD:Z8:={ params:=[.val,.val,.own],results:=[.own] }
def uC:H8:={ keep:=[(2,[0,1,5],[],[],[0,1,5])] }
def iB:H8:={ keep:=[(4,[2,3,5],[2,3],[],[2,3,5])] }
def YF:H8:={ keep:=[(20,[1,2,4],[1,2,4],[],[1,2,4])] }
def yD:H8:={}
def iA:H8:={ keep:=[(4,[0,3],[],[],[0,3])] }
def ZA:H8:={ keep:=[(25,[1,3,4],[1,4],[],[1,3,4]),(28,[1,3,5],[1],[],[1,3,5])] }
def uD:H8:={ Q3:=[2] }
def aL:H8:={ keep:=[(3,[1,2,5],[2],[],[1,2,5])] }
def aV:H8:={ keep:=[(9,[33,34,35],[],[],[33,34,35])] }
def Sj:H8:={ keep:=[(2,[1,2,5],[2],[],[1,2,5])] }
def Uc:H8:={ keep:=[(4,[1,2,5],[2],[],[1,2,5])] }
def dw:H8:={}
def aW:H8:={ keep:=[(4,[0,3],[],[],[0,3])] }
def uE:H8:={}
def kH:H8:={}
def GY:H8:={ shared:=[1,2,3],keep:=[(3,[2,3,8],[],[],[2,3,8]),(6,[3,4],[4],[],[3,4])] }
def Jz:H8:={ shared:=[35],OW:=[61,99],keep:=[(5,[0,1,3,10,36,37,38],[],[],[0,1,3,10,36,37,38]),(17,[0,1,10,16,90,91,92],[],[],[0,1,10,16,90,91,92])] }
def FZ:Z8:={ params:=[.val,.val,.val,.val],results:=[.val,.val] }
def J_:H8:={ keep:=[(8,[0,1,10],[],[],[0,1,10]),(9,[0,1,10,24,25,26],[],[],[0,1,10,24,25,26])] }
def Fa:Z8:={ params:=[.val,.val,.val,.val],results:=[.val,.val] }
def Xj:H8:={}
def OU:Z8:={ params:=[.val,.val],results:=[.val,.val] }
def Vi:H8:={ OW:=[12] }
def NU:Z8:={ params:=[.val,.val],results:=[.val] }
def Vh:H8:={ OW:=[12] }
def NS:Z8:={ params:=[.val,.val],results:=[.val],lock:=true }
def qH:H8:={}
def MG:H8:={ Q3:=[6,7,29,34],keep:=[(3,[0,2,7,15,16,17],[],[7],[0,2,15,16,17])] }
def Gy:Z8:={ params:=[.val,.val,.val],results:=[.val] }
def aR:H8:={ shared:=[31],grow:=[(3,31,[2,3])],keep:=[(2,[10],[10],[],[10])] }
def SX:Z8:={ params:=[.val,.val,.val,.val],results:=[.val,.val,.val,.val] }
def Xi:H8:={}
def OT:Z8:={ params:=[.val,.val],results:=[.val,.val] }
def JY:H8:={ Dl:=[33,146],keep:=[(4,[0,6,7,9],[],[],[0,6,7,9]),(27,[0,6,7,9,11,12],[],[],[0,6,7,9,11,12]),(29,[0,6,7,9,17,18,19],[],[],[0,6,7,9,17,18,19]),(32,[6,7],[],[],[6,7])] }
def FY:Z8:={ params:=[.val,.val,.val],results:=[.val,.val,.val] }
def Ye:H8:={ OW:=[12] }
def QC:Z8:={ params:=[.val,.val],results:=[.val] }
def ML:H8:={ OW:=[33],keep:=[(7,[0,1,7,37,38,39],[],[],[0,1,7,37,38,39])] }
def HV:Z8:={ params:=[.val,.val],results:=[.val] }
def Iz:H8:={ Q3:=[61],OW:=[33,50],keep:=[(8,[0,1,4,7],[4,7],[7],[0,1,4]),(9,[0,1,4,7,54,55,56],[4,7],[7],[0,1,4,54,55,56])] }
def Ey:Z8:={ params:=[.val,.val],results:=[.val] }
def yB:H8:={}
def uB:H8:={}
def xz:H8:={}
def Yz:H8:={ keep:=[(2,[0,3],[],[],[0,3]),(8,[0,4,5],[],[],[0,4,5])] }
def aT:H8:={ Q3:=[1,4,9,26,28],keep:=[(4,[1,2,5],[2],[1],[2,5])] }
def SY:Z8:={ params:=[.val,.own],results:=[.own] }
def uG:H8:={}
def yF:H8:={}
def qJ:H8:={}
def qI:H8:={}
def WH:H8:={ keep:=[(24,[1,3,4],[1,3],[],[1,3,4])] }
def OJ:H8:={ OW:=[12,21],keep:=[(3,[0,1],[],[],[0,1])] }
def JG:Z8:={ params:=[.val,.val],results:=[.val] }
def Uj:H8:={ Q3:=[4] }
def Mk:Z8:={ params:=[.val,.val],results:=[.val] }
def Gu:H8:={ OW:=[37],keep:=[(8,[0,1,6],[],[],[0,1,6]),(9,[0,1,6,41,42,43],[],[],[0,1,6,41,42,43])] }
def Dt:Z8:={ params:=[.val,.val],results:=[.val] }
def MJ:H8:={ Q3:=[10,63,85],OW:=[53,80],keep:=[(12,[0,5,10,57,58,59],[],[10],[0,5,57,58,59])] }
def G_:Z8:={ params:=[.val,.val],results:=[.val] }
def Xk:H8:={ Dl:=[13],OW:=[10,26] }
def OV:Z8:={ params:=[.val,.val],results:=[.val] }
def YH:H8:={ keep:=[(12,[1],[1],[],[1])] }
def OL:H8:={ Q3:=[4,5,29,34],OW:=[23],keep:=[(5,[0,5,14,15,16],[],[5],[0,14,15,16])] }
def JH:Z8:={ params:=[.val,.val],results:=[.val] }
def Uh:H8:={ OW:=[12] }
def Mi:Z8:={ params:=[.val,.val],results:=[.val] }
def Jj:H8:={ Q3:=[7,8,11,54,59,65,69,74,85],OO:=[36,40,44,47],keep:=[(16,[0,2,4],[4],[],[0,2,4]),(20,[0,4,7],[4],[],[0,4,7]),(21,[0,7,90,91,92],[],[],[0,7,90,91,92])] }
def Ff:Z8:={ params:=[.val,.val,.val],results:=[.val] }
def YG:H8:={ keep:=[(5,[1,5,13,14,15],[],[],[1,5,13,14,15])] }
def PZ:H8:={ Q3:=[5,22,32],keep:=[(5,[0,3,5,16,17,18],[3],[5],[0,3,16,17,18])] }
def KD:Z8:={ params:=[.val,.val],results:=[.val] }
def Ui:H8:={}
def Mj:Z8:={ params:=[.val,.val,.val],results:=[.val] }
def Uf:H8:={ Dl:=[31],keep:=[(7,[0,1,2,8,35,36],[],[],[0,1,2,8,35,36])] }
def NR:Z8:={ params:=[.val,.val,.val],results:=[.val,.val] }
def uA:H8:={}
def WI:H8:={ keep:=[(4,[1,12,13,14],[],[],[1,12,13,14])] }
def OM:H8:={ Q3:=[2,6,26,38,57,60],OW:=[16,30,45],keep:=[(7,[0,2,49,50,51],[],[2],[0,49,50,51])] }
def JI:Z8:={ params:=[.val,.val,.own],results:=[.own] }
def RJ:H8:={ Q3:=[10,33,58],keep:=[(2,[0,2,3,4,6,10,15,16],[6],[10],[0,2,3,4,6,15,16])] }
def LC:Z8:={ params:=[.val,.val,.val,.val,.val],results:=[.own,.val,.val] }
def Xh:H8:={}
def OQ:Z8:={ params:=[.val,.val,.val,.val],results:=[.val] }
def t_:H8:={}
def NF:H8:={ OW:=[19,24],keep:=[(1,[0,2,10,11,12],[],[],[0,2,10,11,12])] }
def IR:Z8:={ params:=[.val,.val,.val],results:=[] }
def TI:H8:={}
def LZ:Z8:={ params:=[.val,.val],results:=[.val] }
def Vj:H8:={ OW:=[26,46,56] }
def NV:Z8:={ params:=[.val,.val,.val],results:=[.val] }
def TJ:H8:={}
def La:Z8:={ params:=[.val,.val,.val],results:=[.val] }
def Mq:H8:={}
def Jk:H8:={ keep:=[(2,[0,1,7,8],[],[],[0,1,7,8])] }
def flL:List H8:=[{},{},{},{},{},Om,{},{},{},aO,{},aI,{},aJ,{},{},aQ,Ud,{},aN,aS,iC,yA,YE,{},nM,{},xy,{},yC,{},A06,WG,{},{},aM,iD,{},{},Nn,aU,Iu,MH,Iy,Xg,yE,TD,Cs,NE,FO,Ug,{},{},{},{},{},{},{},{},{},{},{},{},{},A3l,Y_,Ue,aK,iE,x_,aP,{},{},Wv,uF,{},MI,{},EK,Iw,Vf,Ub,TG,Ua,TH,qG,Ve,OH,OI,UZ,IJ,Vg,TE,Kn,Vk,TF,Ww,{},{},{},{},{},{},{},{},{},{},{},{},{},{},{},{},{},{},uC,iB,{},YF,yD,iA,ZA,uD,aL,{},aV,Sj,Uc,{},{},dw,aW,uE,kH,GY,Jz,J_,Xj,Vi,Vh,qH,MG,aR,Xi,JY,Ye,ML,Iz,{},{},{},{},{},{},{},yB,{},{},{},{},{},uB,xz,Yz,aT,uG,yF,qJ,qI,{},WH,OJ,Uj,Gu,MJ,Xk,{},YH,OL,Uh,Jj,YG,PZ,Ui,Uf,{},{},{},{},{},{},{},{},{},{},{},{},uA,WI,{},{},OM,RJ,Xh,t_,NF,TI,Vj,TJ,{},{},{},{},{},Mq,Jk,{},{},{},{},{},{},{},{},{},{},{},{},{},{},{},{},{}]
def C0D:List (Option Z8):=List.replicate 40 (none:Option Z8)++[some Sa,some Eu,some Gz,some Ew,some OP,none,some LU,some BR,some IQ,some DL,some Mh]++List.replicate 22 (none:Option Z8)++[some QB,none,none,none,none,none,some Ev,some NP,some Mg,some LX,some Mf,some LY,some WY,some NN,some JE,some JF,some Me,some ES,some NQ,some LV,some GU,some NW,some LW,some QD]++List.replicate 38 (none:Option Z8)++[some FZ,some Fa,some OU,some NU,some NS,none,some Gy,some SX,some OT,some FY,some QC,some HV,some Ey]++List.replicate 16 (none:Option Z8)++[some SY,none,none,none,none,none,none,some JG,some Mk,some Dt,some G_,some OV,none,none,some JH,some Mi,some Ff,none,some KD,some Mj,some NR]++List.replicate 16 (none:Option Z8)++[some JI,some LC,some OQ,none,some IR,some LZ,some NV,some La]++List.replicate 23 (none:Option Z8)++[none]
def clL:List FuncId:=[176]
def csL:List (FuncId×Nat):=[(176,1),(77,16),(169,7)]
def mkL:List (FuncId×FuncId):=[(77,128),(169,199)]
def itF(f:FuncId):Option (List DV->Option (List DV)):=if f=128 then some (SS 16 15)else if f=199 then some (SS 7 6)else none
def dcL:List (FuncId×B7z):=[]
def dfL:List FuncId:=[]
def C0A:List TypeId:=[]
def B9K:List (FuncId×Cut):=[]
def cfg:Ba where
 P:=Tryz.prog
 fl f:=flL.getD f {}
 sig f:=C0D.getD f none
 uw f:=B9K.lookup f
 clone f:=clL.contains f
 jD f:=(csL.lookup f).getD 0
 eQ f:=mkL.lookup f
 iter f:=itF f
 ref t:=C0A.contains t
 B4h f:=dcL.lookup f
 dfn f:=dfL.contains f
def zb0:List (DV×F4):=[((.int .i64 0),.val),((.int .i64 0),.val),((.int .i64 0),.val),((.int .i64 0),.val),((.int .i64 0),.val),((.str ⟨#[]⟩),.val)]
def zb1:List (DV×F4):=[((.int .i64 0),.val),((.int .i64 0),.val),((.list 3 []),.val)]
abbrev C8:=run cfg
def hP(fn:Func)(fl:H8)(R:O9)(l:List Bool)(s:St):=A4Y cfg R fl (WU cfg.P fn) l (fn.body.getD .skip) s
def eP(fn:Func)(fl:H8)(R:O9)(l:List Bool)(s:St):=UY cfg R fl (WU cfg.P fn) l (fn.body.getD .skip) s
def B0k{f:FuncId}{fn:Func}{ds:List DV}{X:Option DV}{d:DV}(hf:cfg.P.funcs[f]?=some fn)(hp:cfg.uw f=none)(hb:fn.body=some (fn.body.getD .skip))(hX:UY cfg (run cfg) (cfg.fl f) (WU cfg.P fn) [] (fn.body.getD .skip) (I1 fn (ds.map λd=>(d,.val)) [])=X)(h:X=some d):(run cfg).p f ds=some d:=(A5Z hp hf hb).trans (hX.trans h)
def pbA:Nat->Nat->List Bool->List Bool
  |0,_,a=>a
  |k+1,n,a=>match Nat.ble n 1 with
    |true=>a
    |false=>pbA k (n / 2) (Nat.beq (n % 2) 1::a)
def pb(n:Nat):List Bool:=pbA 300 n []
def mrg:Nat->List (Nat×F4)->List Nat->List (Nat×F4)
  |0,_,_=>[]
  |_+1,l,[]=>l
  |k+1,[],j::b=>(j,.loc j 0)::mrg k [] b
  |k+1,(i,m)::l,j::b=>match Nat.ble i j with
    |true=>(i,m)::mrg k l (j::b)
    |false=>(j,.loc j 0)::mrg k ((i,m)::l) b
def ms(n:Nat)(a:List (Nat×DV))(b:List (Nat×F4))(c:List (Nat×Option (List (DV×F4))))(g:List E5):St:=mst n a (mrg 300 b (c.map Prod.fst)) c g
def bx(d:DV)(n:Nat):=some (bxs d 0 n)
def bv(l:List DV):Option (List (DV×F4)):=some (l.map λd=>(d,.val))
def hR(fn:Func)(g:Z8)(fl:H8)(R:O9)(l:List Bool)(s:St):=A4Y cfg R fl (bM cfg.P fn g) l (fn.body.getD .skip) s
def eR(fn:Func)(g:Z8)(fl:H8)(R:O9)(l:List Bool)(s:St):=UY cfg R fl (bM cfg.P fn g) l (fn.body.getD .skip) s
def BU{f:FuncId}{fn:Func}{s:Z8}{rs:List (DV×F4)}{sg:List E5}{q:Option (List DV×List E5)}(hf:cfg.P.funcs[f]?=some fn)(hs:cfg.sig f=some s:=by kernel_rfl)(hb:fn.body=some (fn.body.getD .skip):=by kernel_rfl)(hp:cfg.B4h f=none:=by kernel_rfl)(h:UY cfg (run cfg) (cfg.fl f) (bM cfg.P fn s) [] (fn.body.getD .skip) (I1 fn rs sg)=q:=by kernel_rfl):(run cfg).r f rs sg=q:=(B6u hs hf hb hp).trans h
def BS{f:FuncId}{fn:Func}{ds:List DV}{q:Option DV}(hf:cfg.P.funcs[f]?=some fn)(hp:cfg.uw f=none:=by kernel_rfl)(hb:fn.body=some (fn.body.getD .skip):=by kernel_rfl)(h:UY cfg (run cfg) (cfg.fl f) (WU cfg.P fn) [] (fn.body.getD .skip) (I1 fn (ds.map λd=>(d,.val)) [])=q:=by kernel_rfl):(run cfg).p f ds=q:=(A5Z hp hf hb).trans h
end
end Go.Su

/-
 The program's iterators keep their word: by program.
-/
namespace Go.Su
open Go.Proofs Go.RowKit Go.Shelf
attribute [local go_sem] Oper.semAt_some
variable {F:Fence}
theorem B3i(hd:F.depth=none)(k:Nat):F.room k:=λd h=>by rw[hd]at h;cases h
theorem RoundIn.B7D(hd:F.depth=none){m m':Nat}{P:Program}{l:Nat}{f:FuncId}{tmps:Array Value}{assign body:Code}{w:World}{R:Ending->World->Prop}(h:RoundIn F m P l f tmps assign body w R):RoundIn F m' P l f tmps assign body w R:=⟨h.1,λc cs _=>h.2 c cs (B3i hd _)⟩
set_option maxHeartbeats 1000000 in
theorem B6J:A99 Tryz.prog 169 199 7:=by
 intro w vs hs;obtain⟨l⟩:=vs
 match l,hs with
 |[v0,v1,v2,v3,v4,v5,v6],_=>
 refine(callsIn_wide (n:=1)).1 (callsIn_of_wp Tryz.func169 rfl trivial ?_);simp only[Tryz.ntmps169,zcq,zbq,zeq,Nat.reduceAdd,Nat.reduceSub,z6q,z7q,zdq,z8q,zhq,zfq]
 gi_wp2
 go_ret
 exact⟨rfl,_,rfl⟩
set_option maxRecDepth 10000 in
set_option maxHeartbeats 4000000 in
theorem B6A(l n0:Nat)(ds:List DV)(J:Nat->Env->World->Prop)(Jx:World->Prop)(n:Nat)(hf:∀k E' W',J k E' W'->∀b o,W'.heap.size<=b->E'.O b o=.other)(hI:∀k E' W1 W2,J k E' W1->PD n0 E' W1 W2->J k E' W2)(hY:∀k E' W1 d v,J k E' W1->ds[k]?=some d->RV E'.S W1.heap d v->YieldAt Fence.wide n Tryz.prog l #[v] W1 λe W2=>
   (e=.returned (.bool true)/\∃E2,J (k+1) E2 W2/\Pr P9 E' W1.heap E2 W2.heap)\/(e=.returned (.bool false)/\Jx W2)):
 ∀(m:Nat)(d:DV)(sub:List DV),BL 7 6 m d=some sub->∀(k:Nat)(E:Env)(W:World)(v:Value),J k E W->RV E.S W.heap d v->(∀j x,sub[j]?=some x->ds[k+j]?=some x)->n0<=W.heap.size->CallsIn Fence.wide n Tryz.prog 200 #[v,.func (.yield l) #[] #[]] W λe W'=>(e=.returned (.bool true)/\∃E',J (k+sub.length) E' W'/\OY E W E' W')\/(e=.returned (.bool false)/\Jx W'):=by
 intro m;induction m with
 |zero=>intro d sub h;simp[BL]at h
 |succ m ih=>
   intro d sub EO k E W v hJ hv MP hn0;cases d with
   |agg cs=>
     rw[BL]at EO;obtain⟨h1,EO⟩:=H6 EO;cases hk:cs.getD 6 .undef with
     |list s kds=>
       rw[hk]at EO;simp only at EO;obtain⟨h2,EO⟩:=H6 EO;obtain⟨ks,h3,EO⟩:=D6 EO;simp only[D8]at EO;subst EO;simp only[beq_iff_eq,zkq,I4]at h1 h2;obtain⟨h2,YK⟩:=h2;subst h2;have Pj:=hv;simp only[RV]at Pj;obtain⟨vs,rfl,Pm⟩:=Pj;obtain⟨hl,Pm⟩:=CU.1 Pm;obtain⟨l',rfl⟩:∃l':List Value,vs=l'.toArray:=⟨vs.toList,by simp⟩;simp only at hl Pm
       match l',hl.symm.trans h1 with
       |[v0,v1,v2,v3,v4,v5,v6],_=>
       have hk5:cs[6]?=some (.list 7 kds):=by
        have:6<cs.length:=by omega
        rw[z9q,z3q this]at hk;rw[z3q this];exact congrArg some hk
       have hkc:=(Pm 6 _ v6 hk5 rfl).2;simp only[RC]at hkc;obtain⟨ka,len,cap,h4,h5,h6,h7,h8,h9⟩:=hkc;simp only[List.cons.injEq,and_true]at h4;subst h4 h5;have Ms:∀k:Nat,(Fence.wide.depth.isSome=true->1<=k):=λk h=>by cases h
       have ho:∀o,E.O W.heap.size o=.other:=λo=>hf k E W hJ _ o (zqq _);have key:∀T,∃fy ty ay by_,(Instr.yield l #[.agg #[v0,v1,v2,v3,v4,v5,.slice ka kds.length cap]]).run Tryz.prog (W.alloc (.cells #[v0,v1,v2,v3,v4,v5,.slice ka kds.length cap] T))=.ok (.round l fy ty ay by_) (W.alloc (.cells #[v0,v1,v2,v3,v4,v5,.slice ka kds.length cap] T)) /\
        RoundIn Fence.wide (n-1) Tryz.prog l fy ty ay by_ (W.alloc (.cells #[v0,v1,v2,v3,v4,v5,.slice ka kds.length cap] T)) λe W2=>(e=.returned (.bool true)/\∃E2,J (k+1) E2 W2/\OY E W E2 W2/\(W2.heap[W.heap.size]?=some (.cells #[v0,v1,v2,v3,v4,v5,.slice ka kds.length cap] T (0,0))/\(∀o,E2.O W.heap.size o=.other))/\W2.cell? ⟨W.heap.size,6,none⟩=some (.slice ka kds.length cap))\/(e=.returned (.bool false)/\Jx W2):=by
        intro T;have hJ1:J k E (W.alloc (.cells #[v0,v1,v2,v3,v4,v5,.slice ka kds.length cap] T)):=hI _ _ _ _ hJ (PD.alloc _);have K1:=OY.alloc (E:=E) (W:=W) (.cells #[v0,v1,v2,v3,v4,v5,.slice ka kds.length cap] T) (hf k E W hJ);obtain⟨fy,ty,ay,by_,hy,hR⟩:=hY k E _ (.agg cs) _ hJ1 (MP 0 _ rfl) (RV.mono K1.sh _ hv);refine⟨fy,ty,ay,by_,hy,RoundIn.B7D rfl (RoundIn.mono hR ?_)⟩;rintro e W2 (⟨rfl,E2,hJ2,hP2⟩ | ⟨rfl,hx⟩)
        ·have K2:=OY.B5V hP2 (hf _ _ _ hJ1);have hb:=K2.blk W.heap.size (by simp) ho;rw[World.alloc_heap_new]at hb;refine .inl ⟨rfl,E2,hJ2,K1.trans K2,hb,?_⟩;simp[World.cell?,hb.1]
        ·exact .inr ⟨rfl,hx⟩
       obtain⟨fy,ty,ay,by_,hy,hR⟩:=key 71;refine callsIn_of_wp Tryz.func200 rfl trivial ?_;simp only[Tryz.ntmps200,zcq,zbq,zeq,Nat.reduceAdd,Nat.reduceSub,z6q,z7q,zdq,z8q,zhq,zfq]
       gi_wp2_with ((try refine⟨Ms _,?_⟩);refine hR.mono ?_;clear hR;rintro e W2 (⟨rfl,E2,hJ2,hK2,qL,hc2⟩ | ⟨rfl,hx2⟩))
       ·-- the D5, one by one
        refine wpIn_loop_rounds (kds.length+1) ?_;refine(?loop:∀(r i:Nat)(pre rs:List DV)(E3:Env)(w:World)(x6 x15 x16 x17 x18 x19 x20 x21 x22:Value),i+r=kds.length->NG (BL 7 6 m) (kds.drop i)=some rs->ks=pre++rs->J (k+1+pre.length) E3 w->OY E W E3 w->
         Code.roundsIn Fence.wide n Tryz.prog _ _ (r+1) { tmps := #[.agg #[v0,v1,v2,v3,v4,v5,.slice ka kds.length cap],.func (.yield l) #[] #[],.pointer (some { block:=W.heap.size,off:=0 }),undef,.bool false,undef,x6,.func (.yield l) #[] #[],.agg #[v0,v1,v2,v3,v4,v5,.slice ka kds.length cap],.bool true,.bool false,.pointer (some { block:=W.heap.size,off:=6 }),.slice ka kds.length cap,.int .i64 (kds.length:Int),.int .i64 (i:Int),x15,x16,x17,x18,x19,x20,x21,x22],defers:=[] } w)
         kds.length 0 [] ks E2 W2 undef undef undef undef undef undef undef undef undef (by simp) h3 rfl hJ2 hK2
        clear hJ2 hK2 qL hc2 hy key hJ;intro r;induction r with
        |zero=>
          intro i pre rs E3 w x6 x15 x16 x17 x18 x19 x20 x21 x22 hi hrs Lc hJ3 kI;have hi':i=kds.length:=by omega
          have B4y:(i:Int)=(kds.length:Int):=by omega
          rw[roundsIn_succ];rw[B4y];have P8:¬((kds.length:Int)<(kds.length:Int)):=by omega
          gi_wp2
          go_ret
          rw[hi',zLq,NG]at hrs;simp only[D8]at hrs;subst hrs;refine .inl ⟨rfl,E3,?_,kI⟩;rw[show k+(pre.length+([]:List DV).length+1)=k+1+pre.length by simp;omega];exact hJ3
        |succ r ihr=>
          intro i pre rs E3 w x6 x15 x16 x17 x18 x19 x20 x21 x22 hi hrs Lc hJ3 kI;rw[roundsIn_succ];have P8:((i:Int)<(kds.length:Int)):=by omega
          have hil:i<kds.length:=by omega
          obtain⟨xa,rfl⟩:∃xa,ka=some xa:=by
           cases ka with
           |none=>have:=h7 rfl;omega
           |some xa=>exact⟨xa,rfl⟩
          obtain⟨Yf,h11⟩:=h9 xa rfl;obtain⟨xb,xo,xs⟩:=xa;have Yf:=Yf (by omega);simp only at Yf h11;subst Yf;obtain⟨us,hu1,hu2,hu3⟩:=EW.1 h11 i _ (z3q hil);have hu4:=hu2.mono kI.sh
          match us,hu1 with
          |[u0,u1,u2,u3,u4,u5,u6],_=>
          have cc:∀(j:Nat)(u:Value),[u0,u1,u2,u3,u4,u5,u6][j]?=some u->w.cell? ⟨xb,xo+i * 7+j,none⟩=some u:=λj u hj=>by rw[ME];exact(hu4 j u hj).1
          have c0:w.cell? ⟨xb,xo+i * 7,none⟩=some u0:=cc 0 u0 rfl;have c1:=cc 1 u1 rfl;have c2:=cc 2 u2 rfl;have c3:=cc 3 u3 rfl;have c4:=cc 4 u4 rfl;have c5:=cc 5 u5 rfl;have c6:=cc 6 u6 rfl;have ou:∀(j:Nat)(u:Value),[u0,u1,u2,u3,u4,u5,u6][j]?=some u->u.oneCell'=true:=λj u hj=>(Ns hu3 hj).elim λh1 h2=>Jg h1 h2;have e0:u0.oneCell'=true:=ou 0 u0 rfl;have e1:u1.oneCell'=true:=ou 1 u1 rfl;have e2:u2.oneCell'=true:=ou 2 u2 rfl;have e3:u3.oneCell'=true:=ou 3 u3 rfl;have e4:u4.oneCell'=true:=ou 4 u4 rfl;have e5:u5.oneCell'=true:=ou 5 u5 rfl;have e6:u6.oneCell'=true:=ou 6 u6 rfl;obtain⟨w1,s0,b0,r0,z0,o0⟩:=Aa (P:=Tryz.prog) (j:=0) (World.alloc_heap_new w (.cells #[.int .i64 0,.int .i64 0,.int .i64 0,.string ⟨#[]⟩,.int .i64 0,.string ⟨#[]⟩,.slice none 0 0] 71)) (by simp) e0;obtain⟨w2,s1,b1,r1,z1,o1⟩:=Aa (P:=Tryz.prog) (j:=1) b0 (by simp) e1;obtain⟨w3,s2,b2,r2,z2,o2⟩:=Aa (P:=Tryz.prog) (j:=2) b1 (by simp) e2;obtain⟨w4,s3,b3,r3,z3,o3⟩:=Aa (P:=Tryz.prog) (j:=3) b2 (by simp) e3;obtain⟨w5,s4,b4,r4,z4,o4⟩:=Aa (P:=Tryz.prog) (j:=4) b3 (by simp) e4;obtain⟨w6,s5,b5,r5,z5,o5⟩:=Aa (P:=Tryz.prog) (j:=5) b4 (by simp) e5;obtain⟨w7,s6,b6,r6,z6,o6⟩:=Aa (P:=Tryz.prog) (j:=6) b5 (by simp) e6;simp only[zrq,zGq,zHq]at b0 b1 b2 b3 b4 b5 b6;have dd:∀(j:Nat)(u:Value),[u0,u1,u2,u3,u4,u5,u6][j]?=some u->w7.cell? ⟨w.heap.size,j,none⟩=some u:=λj u hj=>by rw[ME];simp only[hc,b6];simpa using hj
          have d0:=dd 0 u0 rfl;have d1:=dd 1 u1 rfl;have d2:=dd 2 u2 rfl;have d3:=dd 3 u3 rfl;have d4:=dd 4 u4 rfl;have d5:=dd 5 u5 rfl;have d6:=dd 6 u6 rfl;have low:∀b,b<w.heap.size->w7.heap[b]?=w.heap[b]?:=λb hb=>by rw[r6 b (by omega),r5 b (by omega),r4 b (by omega),r3 b (by omega),r2 b (by omega),r1 b (by omega),r0 b (by omega)];exact Below.heap_alloc _ _ _ hb
          have hz:w.heap.size<=w7.heap.size:=by rw[z6,z5,z4,z3,z2,z1,z0];simp
          have WM:Y7 w w7:=Y7.trans (b:=w1) (Y7.trans (b:=w.alloc (.cells #[.int .i64 0,.int .i64 0,.int .i64 0,.string ⟨#[]⟩,.int .i64 0,.string ⟨#[]⟩,.slice none 0 0] 71)) ⟨rfl,rfl,rfl⟩ o0) ((((((o1).trans o2).trans o3).trans o4).trans o5).trans o6);have hfr:=hf _ _ _ hJ3;have K7:OY E3 w E3 w7:=OY.same hz low hfr;have hJ7:=hI _ _ _ _ hJ3 (PD.same hz low WM);rw[z1q hil,NG]at hrs;obtain⟨sa,hsa,hrs⟩:=D6 hrs;obtain⟨sb,hsb,hrs⟩:=D6 hrs;simp only[D8]at hrs;subst hrs;have B4v:Fence.wide.fn 200:=trivial;have A1c:CallsIn Fence.wide (n-1) Tryz.prog 200 _ w7 _:=callsIn_wide.2 (callsIn_wide.1 (ih _ sa hsa (k+1+pre.length) E3 w7 (.agg #[u0,u1,u2,u3,u4,u5,u6]) hJ7 (RV.mono (kI.trans K7).sh _ (flat_agg hsa hu3)) (A9q MP Lc) (by have:=kI.size;omega)));clear ih
          gi_wp2_with ((try refine⟨Ms _,?_⟩);gi_at_call 200;refine A1c.mono ?_;clear A1c;rintro e wz (⟨rfl,E4,hJ4,hK4⟩ | ⟨rfl,hx⟩))
          ·rw[show wrap64 ((i:Int)+1)=((i+1:Nat):Int)by unfold Q8 at YK;rw[wrap64];omega];exact ihr (i+1) (pre++sa) sb E4 wz _ _ _ _ _ _ _ _ _ (by omega) hsb (by rw[Lc,zIq]) (by rw[zxq,<- Nat.add_assoc];exact hJ4) ((kI.trans K7).trans hK4)
          ·go_ret
           exact .inr ⟨rfl,hx⟩
       ·go_ret
        exact .inr ⟨rfl,hx2⟩
     |_=>rw[hk]at EO;simp at EO
   |_=>simp[BL]at EO
set_option maxHeartbeats 1000000 in
theorem B6D:A0i Tryz.prog 199 (SS 7 6):=by
 intro cs ds Yg n l b c T0 J Jx E W hb ho hR hf hI hY h0;obtain⟨m,hm⟩:=A07 Yg;have GZ:cs.length=7:=by
  cases m with
  |zero=>simp[BL]at hm
  |succ m=>rw[BL]at hm;obtain⟨h1,-⟩:=H6 hm;simpa using h1
 have hlc:=(CU.1 hR).1;obtain⟨l',rfl⟩:∃l':List Value,c=l'.toArray:=⟨c.toList,by simp⟩;simp only at hR hlc
 match l',hlc.symm.trans GZ with
 |[v0,v1,v2,v3,v4,v5,v6],_=>
 have cc:∀(j:Nat)(u:Value),[v0,v1,v2,v3,v4,v5,v6][j]?=some u->W.cell? ⟨b,j,none⟩=some u:=λj u hj=>by rw[ME];simp only[hc,hb];simpa using hj
 have c0:=cc 0 v0 rfl;have c1:=cc 1 v1 rfl;have c2:=cc 2 v2 rfl;have c3:=cc 3 v3 rfl;have c4:=cc 4 v4 rfl;have c5:=cc 5 v5 rfl;have c6:=cc 6 v6 rfl;have hgo:CallsIn Fence.wide (n-1) Tryz.prog 200 _ W _:=callsIn_wide.2 (callsIn_wide.1 (B6A l W.heap.size ds J Jx n hf hI hY m (.agg cs) ds hm 0 E W (.agg #[v0,v1,v2,v3,v4,v5,v6]) h0 (by simp only[RV];exact⟨_,rfl,hR⟩) (λj x h=>by rw[Nat.zero_add];exact h) (zqq _)));have B4v:Fence.wide.fn 200:=trivial;have Ms:∀k:Nat,(Fence.wide.depth.isSome=true->1<=k):=λk h=>by cases h
 refine callsIn_of_wp Tryz.func199 rfl trivial ?_;simp only[Tryz.ntmps199,zcq,zbq,zeq,Nat.reduceAdd,Nat.reduceSub,z6q,z7q,zdq,z8q,zhq,zfq]
 gi_wp2_with ((try refine⟨Ms _,?_⟩);gi_at_call 200;refine hgo.mono ?_;clear hgo;rintro e w2 (⟨rfl,E4,hJ4,-⟩ | ⟨rfl,hx⟩))
 ·go_end0
  exact⟨⟨_,rfl⟩,.inl ⟨E4,by simpa using hJ4⟩⟩
 ·go_end0
  exact⟨⟨_,rfl⟩,.inr hx⟩
set_option maxHeartbeats 1000000 in
theorem B8A:A99 Tryz.prog 77 128 16:=by
 intro w vs hs;obtain⟨l⟩:=vs
 match l,hs with
 |[v0,v1,v2,v3,v4,v5,v6,v7,v8,v9,v10,v11,v12,v13,v14,v15],_=>
 refine(callsIn_wide (n:=1)).1 (callsIn_of_wp Tryz.func77 rfl trivial ?_);simp only[Tryz.ntmps77,zcq,zbq,zeq,Nat.reduceAdd,Nat.reduceSub,z6q,z7q,zdq,z8q,zhq,zfq]
 gi_wp2
 go_ret
 exact⟨rfl,_,rfl⟩
set_option maxRecDepth 10000 in
set_option maxHeartbeats 4000000 in
theorem B77(l n0:Nat)(ds:List DV)(J:Nat->Env->World->Prop)(Jx:World->Prop)(n:Nat)(hf:∀k E' W',J k E' W'->∀b o,W'.heap.size<=b->E'.O b o=.other)(hI:∀k E' W1 W2,J k E' W1->PD n0 E' W1 W2->J k E' W2)(hY:∀k E' W1 d v,J k E' W1->ds[k]?=some d->RV E'.S W1.heap d v->YieldAt Fence.wide n Tryz.prog l #[v] W1 λe W2=>
   (e=.returned (.bool true)/\∃E2,J (k+1) E2 W2/\Pr P9 E' W1.heap E2 W2.heap)\/(e=.returned (.bool false)/\Jx W2)):
 ∀(m:Nat)(d:DV)(sub:List DV),BL 16 15 m d=some sub->∀(k:Nat)(E:Env)(W:World)(v:Value),J k E W->RV E.S W.heap d v->(∀j x,sub[j]?=some x->ds[k+j]?=some x)->n0<=W.heap.size->CallsIn Fence.wide n Tryz.prog 129 #[v,.func (.yield l) #[] #[]] W λe W'=>(e=.returned (.bool true)/\∃E',J (k+sub.length) E' W'/\OY E W E' W')\/(e=.returned (.bool false)/\Jx W'):=by
 intro m;induction m with
 |zero=>intro d sub h;simp[BL]at h
 |succ m ih=>
   intro d sub EO k E W v hJ hv MP hn0;cases d with
   |agg cs=>
     rw[BL]at EO;obtain⟨h1,EO⟩:=H6 EO;cases hk:cs.getD 15 .undef with
     |list s kds=>
       rw[hk]at EO;simp only at EO;obtain⟨h2,EO⟩:=H6 EO;obtain⟨ks,h3,EO⟩:=D6 EO;simp only[D8]at EO;subst EO;simp only[beq_iff_eq,zkq,I4]at h1 h2;obtain⟨h2,YK⟩:=h2;subst h2;have Pj:=hv;simp only[RV]at Pj;obtain⟨vs,rfl,Pm⟩:=Pj;obtain⟨hl,Pm⟩:=CU.1 Pm;obtain⟨l',rfl⟩:∃l':List Value,vs=l'.toArray:=⟨vs.toList,by simp⟩;simp only at hl Pm
       match l',hl.symm.trans h1 with
       |[v0,v1,v2,v3,v4,v5,v6,v7,v8,v9,v10,v11,v12,v13,v14,v15],_=>
       have hk5:cs[15]?=some (.list 16 kds):=by
        have:15<cs.length:=by omega
        rw[z9q,z3q this]at hk;rw[z3q this];exact congrArg some hk
       have hkc:=(Pm 15 _ v15 hk5 rfl).2;simp only[RC]at hkc;obtain⟨ka,len,cap,h4,h5,h6,h7,h8,h9⟩:=hkc;simp only[List.cons.injEq,and_true]at h4;subst h4 h5;have Ms:∀k:Nat,(Fence.wide.depth.isSome=true->1<=k):=λk h=>by cases h
       have ho:∀o,E.O W.heap.size o=.other:=λo=>hf k E W hJ _ o (zqq _);have key:∀T,∃fy ty ay by_,(Instr.yield l #[.agg #[v0,v1,v2,v3,v4,v5,v6,v7,v8,v9,v10,v11,v12,v13,v14,.slice ka kds.length cap]]).run Tryz.prog (W.alloc (.cells #[v0,v1,v2,v3,v4,v5,v6,v7,v8,v9,v10,v11,v12,v13,v14,.slice ka kds.length cap] T))=.ok (.round l fy ty ay by_) (W.alloc (.cells #[v0,v1,v2,v3,v4,v5,v6,v7,v8,v9,v10,v11,v12,v13,v14,.slice ka kds.length cap] T)) /\
        RoundIn Fence.wide (n-1) Tryz.prog l fy ty ay by_ (W.alloc (.cells #[v0,v1,v2,v3,v4,v5,v6,v7,v8,v9,v10,v11,v12,v13,v14,.slice ka kds.length cap] T)) λe W2=>(e=.returned (.bool true)/\∃E2,J (k+1) E2 W2/\OY E W E2 W2/\(W2.heap[W.heap.size]?=some (.cells #[v0,v1,v2,v3,v4,v5,v6,v7,v8,v9,v10,v11,v12,v13,v14,.slice ka kds.length cap] T (0,0))/\(∀o,E2.O W.heap.size o=.other))/\W2.cell? ⟨W.heap.size,15,none⟩=some (.slice ka kds.length cap))\/(e=.returned (.bool false)/\Jx W2):=by
        intro T;have hJ1:J k E (W.alloc (.cells #[v0,v1,v2,v3,v4,v5,v6,v7,v8,v9,v10,v11,v12,v13,v14,.slice ka kds.length cap] T)):=hI _ _ _ _ hJ (PD.alloc _);have K1:=OY.alloc (E:=E) (W:=W) (.cells #[v0,v1,v2,v3,v4,v5,v6,v7,v8,v9,v10,v11,v12,v13,v14,.slice ka kds.length cap] T) (hf k E W hJ);obtain⟨fy,ty,ay,by_,hy,hR⟩:=hY k E _ (.agg cs) _ hJ1 (MP 0 _ rfl) (RV.mono K1.sh _ hv);refine⟨fy,ty,ay,by_,hy,RoundIn.B7D rfl (RoundIn.mono hR ?_)⟩;rintro e W2 (⟨rfl,E2,hJ2,hP2⟩ | ⟨rfl,hx⟩)
        ·have K2:=OY.B5V hP2 (hf _ _ _ hJ1);have hb:=K2.blk W.heap.size (by simp) ho;rw[World.alloc_heap_new]at hb;refine .inl ⟨rfl,E2,hJ2,K1.trans K2,hb,?_⟩;simp[World.cell?,hb.1]
        ·exact .inr ⟨rfl,hx⟩
       obtain⟨fy,ty,ay,by_,hy,hR⟩:=key 30;refine callsIn_of_wp Tryz.func129 rfl trivial ?_;simp only[Tryz.ntmps129,zcq,zbq,zeq,Nat.reduceAdd,Nat.reduceSub,z6q,z7q,zdq,z8q,zhq,zfq]
       gi_wp2_with ((try refine⟨Ms _,?_⟩);refine hR.mono ?_;clear hR;rintro e W2 (⟨rfl,E2,hJ2,hK2,qL,hc2⟩ | ⟨rfl,hx2⟩))
       ·-- the D5, one by one
        refine wpIn_loop_rounds (kds.length+1) ?_;refine(?loop:∀(r i:Nat)(pre rs:List DV)(E3:Env)(w:World)(x6 x15 x16 x17 x18 x19 x20 x21 x22:Value),i+r=kds.length->NG (BL 16 15 m) (kds.drop i)=some rs->ks=pre++rs->J (k+1+pre.length) E3 w->OY E W E3 w->
         Code.roundsIn Fence.wide n Tryz.prog _ _ (r+1) { tmps := #[.agg #[v0,v1,v2,v3,v4,v5,v6,v7,v8,v9,v10,v11,v12,v13,v14,.slice ka kds.length cap],.func (.yield l) #[] #[],.pointer (some { block:=W.heap.size,off:=0 }),undef,.bool false,undef,x6,.func (.yield l) #[] #[],.agg #[v0,v1,v2,v3,v4,v5,v6,v7,v8,v9,v10,v11,v12,v13,v14,.slice ka kds.length cap],.bool true,.bool false,.pointer (some { block:=W.heap.size,off:=15 }),.slice ka kds.length cap,.int .i64 (kds.length:Int),.int .i64 (i:Int),x15,x16,x17,x18,x19,x20,x21,x22],defers:=[] } w)
         kds.length 0 [] ks E2 W2 undef undef undef undef undef undef undef undef undef (by simp) h3 rfl hJ2 hK2
        clear hJ2 hK2 qL hc2 hy key hJ;intro r;induction r with
        |zero=>
          intro i pre rs E3 w x6 x15 x16 x17 x18 x19 x20 x21 x22 hi hrs Lc hJ3 kI;have hi':i=kds.length:=by omega
          have B4y:(i:Int)=(kds.length:Int):=by omega
          rw[roundsIn_succ];rw[B4y];have P8:¬((kds.length:Int)<(kds.length:Int)):=by omega
          gi_wp2
          go_ret
          rw[hi',zLq,NG]at hrs;simp only[D8]at hrs;subst hrs;refine .inl ⟨rfl,E3,?_,kI⟩;rw[show k+(pre.length+([]:List DV).length+1)=k+1+pre.length by simp;omega];exact hJ3
        |succ r ihr=>
          intro i pre rs E3 w x6 x15 x16 x17 x18 x19 x20 x21 x22 hi hrs Lc hJ3 kI;rw[roundsIn_succ];have P8:((i:Int)<(kds.length:Int)):=by omega
          have hil:i<kds.length:=by omega
          obtain⟨xa,rfl⟩:∃xa,ka=some xa:=by
           cases ka with
           |none=>have:=h7 rfl;omega
           |some xa=>exact⟨xa,rfl⟩
          obtain⟨Yf,h11⟩:=h9 xa rfl;obtain⟨xb,xo,xs⟩:=xa;have Yf:=Yf (by omega);simp only at Yf h11;subst Yf;obtain⟨us,hu1,hu2,hu3⟩:=EW.1 h11 i _ (z3q hil);have hu4:=hu2.mono kI.sh
          match us,hu1 with
          |[u0,u1,u2,u3,u4,u5,u6,u7,u8,u9,u10,u11,u12,u13,u14,u15],_=>
          have cc:∀(j:Nat)(u:Value),[u0,u1,u2,u3,u4,u5,u6,u7,u8,u9,u10,u11,u12,u13,u14,u15][j]?=some u->w.cell? ⟨xb,xo+i * 16+j,none⟩=some u:=λj u hj=>by rw[ME];exact(hu4 j u hj).1
          have c0:w.cell? ⟨xb,xo+i * 16,none⟩=some u0:=cc 0 u0 rfl;have c1:=cc 1 u1 rfl;have c2:=cc 2 u2 rfl;have c3:=cc 3 u3 rfl;have c4:=cc 4 u4 rfl;have c5:=cc 5 u5 rfl;have c6:=cc 6 u6 rfl;have c7:=cc 7 u7 rfl;have c8:=cc 8 u8 rfl;have c9:=cc 9 u9 rfl;have c10:=cc 10 u10 rfl;have c11:=cc 11 u11 rfl;have c12:=cc 12 u12 rfl;have c13:=cc 13 u13 rfl;have c14:=cc 14 u14 rfl;have c15:=cc 15 u15 rfl;have ou:∀(j:Nat)(u:Value),[u0,u1,u2,u3,u4,u5,u6,u7,u8,u9,u10,u11,u12,u13,u14,u15][j]?=some u->u.oneCell'=true:=λj u hj=>(Ns hu3 hj).elim λh1 h2=>Jg h1 h2;have e0:u0.oneCell'=true:=ou 0 u0 rfl;have e1:u1.oneCell'=true:=ou 1 u1 rfl;have e2:u2.oneCell'=true:=ou 2 u2 rfl;have e3:u3.oneCell'=true:=ou 3 u3 rfl;have e4:u4.oneCell'=true:=ou 4 u4 rfl;have e5:u5.oneCell'=true:=ou 5 u5 rfl;have e6:u6.oneCell'=true:=ou 6 u6 rfl;have e7:u7.oneCell'=true:=ou 7 u7 rfl;have e8:u8.oneCell'=true:=ou 8 u8 rfl;have e9:u9.oneCell'=true:=ou 9 u9 rfl;have e10:u10.oneCell'=true:=ou 10 u10 rfl;have e11:u11.oneCell'=true:=ou 11 u11 rfl;have e12:u12.oneCell'=true:=ou 12 u12 rfl;have e13:u13.oneCell'=true:=ou 13 u13 rfl;have e14:u14.oneCell'=true:=ou 14 u14 rfl;have e15:u15.oneCell'=true:=ou 15 u15 rfl;obtain⟨w1,s0,b0,r0,z0,o0⟩:=Aa (P:=Tryz.prog) (j:=0) (World.alloc_heap_new w (.cells #[.int .i64 0,.int .i64 0,.int .i64 0,.string ⟨#[]⟩,.string ⟨#[]⟩,.int .i64 0,.string ⟨#[]⟩,.int .i64 0,.int .i64 0,.int .i64 0,.slice none 0 0,.int .i64 0,.int .i64 0,.slice none 0 0,.slice none 0 0,.slice none 0 0] 30)) (by simp) e0;obtain⟨w2,s1,b1,r1,z1,o1⟩:=Aa (P:=Tryz.prog) (j:=1) b0 (by simp) e1;obtain⟨w3,s2,b2,r2,z2,o2⟩:=Aa (P:=Tryz.prog) (j:=2) b1 (by simp) e2;obtain⟨w4,s3,b3,r3,z3,o3⟩:=Aa (P:=Tryz.prog) (j:=3) b2 (by simp) e3;obtain⟨w5,s4,b4,r4,z4,o4⟩:=Aa (P:=Tryz.prog) (j:=4) b3 (by simp) e4;obtain⟨w6,s5,b5,r5,z5,o5⟩:=Aa (P:=Tryz.prog) (j:=5) b4 (by simp) e5;obtain⟨w7,s6,b6,r6,z6,o6⟩:=Aa (P:=Tryz.prog) (j:=6) b5 (by simp) e6;obtain⟨w8,s7,b7,r7,z7,o7⟩:=Aa (P:=Tryz.prog) (j:=7) b6 (by simp) e7;obtain⟨w9,s8,b8,r8,z8,o8⟩:=Aa (P:=Tryz.prog) (j:=8) b7 (by simp) e8;obtain⟨w10,s9,b9,r9,z9,o9⟩:=Aa (P:=Tryz.prog) (j:=9) b8 (by simp) e9;obtain⟨w11,s10,b10,r10,z10,o10⟩:=Aa (P:=Tryz.prog) (j:=10) b9 (by simp) e10;obtain⟨w12,s11,b11,r11,z11,o11⟩:=Aa (P:=Tryz.prog) (j:=11) b10 (by simp) e11;obtain⟨w13,s12,b12,r12,z12,o12⟩:=Aa (P:=Tryz.prog) (j:=12) b11 (by simp) e12;obtain⟨w14,s13,b13,r13,z13,o13⟩:=Aa (P:=Tryz.prog) (j:=13) b12 (by simp) e13;obtain⟨w15,s14,b14,r14,z14,o14⟩:=Aa (P:=Tryz.prog) (j:=14) b13 (by simp) e14;obtain⟨w16,s15,b15,r15,z15,o15⟩:=Aa (P:=Tryz.prog) (j:=15) b14 (by simp) e15;simp only[zrq,zGq,zHq]at b0 b1 b2 b3 b4 b5 b6 b7 b8 b9 b10 b11 b12 b13 b14 b15;have dd:∀(j:Nat)(u:Value),[u0,u1,u2,u3,u4,u5,u6,u7,u8,u9,u10,u11,u12,u13,u14,u15][j]?=some u->w16.cell? ⟨w.heap.size,j,none⟩=some u:=λj u hj=>by rw[ME];simp only[hc,b15];simpa using hj
          have d0:=dd 0 u0 rfl;have d1:=dd 1 u1 rfl;have d2:=dd 2 u2 rfl;have d3:=dd 3 u3 rfl;have d4:=dd 4 u4 rfl;have d5:=dd 5 u5 rfl;have d6:=dd 6 u6 rfl;have d7:=dd 7 u7 rfl;have d8:=dd 8 u8 rfl;have d9:=dd 9 u9 rfl;have d10:=dd 10 u10 rfl;have d11:=dd 11 u11 rfl;have d12:=dd 12 u12 rfl;have d13:=dd 13 u13 rfl;have d14:=dd 14 u14 rfl;have d15:=dd 15 u15 rfl;have low:∀b,b<w.heap.size->w16.heap[b]?=w.heap[b]?:=λb hb=>by rw[r15 b (by omega),r14 b (by omega),r13 b (by omega),r12 b (by omega),r11 b (by omega),r10 b (by omega),r9 b (by omega),r8 b (by omega),r7 b (by omega),r6 b (by omega),r5 b (by omega),r4 b (by omega),r3 b (by omega),r2 b (by omega),r1 b (by omega),r0 b (by omega)];exact Below.heap_alloc _ _ _ hb
          have hz:w.heap.size<=w16.heap.size:=by rw[z15,z14,z13,z12,z11,z10,z9,z8,z7,z6,z5,z4,z3,z2,z1,z0];simp
          have WM:Y7 w w16:=Y7.trans (b:=w1) (Y7.trans (b:=w.alloc (.cells #[.int .i64 0,.int .i64 0,.int .i64 0,.string ⟨#[]⟩,.string ⟨#[]⟩,.int .i64 0,.string ⟨#[]⟩,.int .i64 0,.int .i64 0,.int .i64 0,.slice none 0 0,.int .i64 0,.int .i64 0,.slice none 0 0,.slice none 0 0,.slice none 0 0] 30)) ⟨rfl,rfl,rfl⟩ o0) (((((((((((((((o1).trans o2).trans o3).trans o4).trans o5).trans o6).trans o7).trans o8).trans o9).trans o10).trans o11).trans o12).trans o13).trans o14).trans o15);have hfr:=hf _ _ _ hJ3;have K7:OY E3 w E3 w16:=OY.same hz low hfr;have hJ7:=hI _ _ _ _ hJ3 (PD.same hz low WM);rw[z1q hil,NG]at hrs;obtain⟨sa,hsa,hrs⟩:=D6 hrs;obtain⟨sb,hsb,hrs⟩:=D6 hrs;simp only[D8]at hrs;subst hrs;have B4v:Fence.wide.fn 129:=trivial;have A1c:CallsIn Fence.wide (n-1) Tryz.prog 129 _ w16 _:=callsIn_wide.2 (callsIn_wide.1 (ih _ sa hsa (k+1+pre.length) E3 w16 (.agg #[u0,u1,u2,u3,u4,u5,u6,u7,u8,u9,u10,u11,u12,u13,u14,u15]) hJ7 (RV.mono (kI.trans K7).sh _ (flat_agg hsa hu3)) (A9q MP Lc) (by have:=kI.size;omega)));clear ih
          gi_wp2_with ((try refine⟨Ms _,?_⟩);gi_at_call 129;refine A1c.mono ?_;clear A1c;rintro e wz (⟨rfl,E4,hJ4,hK4⟩ | ⟨rfl,hx⟩))
          ·rw[show wrap64 ((i:Int)+1)=((i+1:Nat):Int)by unfold Q8 at YK;rw[wrap64];omega];exact ihr (i+1) (pre++sa) sb E4 wz _ _ _ _ _ _ _ _ _ (by omega) hsb (by rw[Lc,zIq]) (by rw[zxq,<- Nat.add_assoc];exact hJ4) ((kI.trans K7).trans hK4)
          ·go_ret
           exact .inr ⟨rfl,hx⟩
       ·go_ret
        exact .inr ⟨rfl,hx2⟩
     |_=>rw[hk]at EO;simp at EO
   |_=>simp[BL]at EO
set_option maxHeartbeats 1000000 in
theorem B8q:A0i Tryz.prog 128 (SS 16 15):=by
 intro cs ds Yg n l b c T0 J Jx E W hb ho hR hf hI hY h0;obtain⟨m,hm⟩:=A07 Yg;have GZ:cs.length=16:=by
  cases m with
  |zero=>simp[BL]at hm
  |succ m=>rw[BL]at hm;obtain⟨h1,-⟩:=H6 hm;simpa using h1
 have hlc:=(CU.1 hR).1;obtain⟨l',rfl⟩:∃l':List Value,c=l'.toArray:=⟨c.toList,by simp⟩;simp only at hR hlc
 match l',hlc.symm.trans GZ with
 |[v0,v1,v2,v3,v4,v5,v6,v7,v8,v9,v10,v11,v12,v13,v14,v15],_=>
 have cc:∀(j:Nat)(u:Value),[v0,v1,v2,v3,v4,v5,v6,v7,v8,v9,v10,v11,v12,v13,v14,v15][j]?=some u->W.cell? ⟨b,j,none⟩=some u:=λj u hj=>by rw[ME];simp only[hc,hb];simpa using hj
 have c0:=cc 0 v0 rfl;have c1:=cc 1 v1 rfl;have c2:=cc 2 v2 rfl;have c3:=cc 3 v3 rfl;have c4:=cc 4 v4 rfl;have c5:=cc 5 v5 rfl;have c6:=cc 6 v6 rfl;have c7:=cc 7 v7 rfl;have c8:=cc 8 v8 rfl;have c9:=cc 9 v9 rfl;have c10:=cc 10 v10 rfl;have c11:=cc 11 v11 rfl;have c12:=cc 12 v12 rfl;have c13:=cc 13 v13 rfl;have c14:=cc 14 v14 rfl;have c15:=cc 15 v15 rfl;have hgo:CallsIn Fence.wide (n-1) Tryz.prog 129 _ W _:=callsIn_wide.2 (callsIn_wide.1 (B77 l W.heap.size ds J Jx n hf hI hY m (.agg cs) ds hm 0 E W (.agg #[v0,v1,v2,v3,v4,v5,v6,v7,v8,v9,v10,v11,v12,v13,v14,v15]) h0 (by simp only[RV];exact⟨_,rfl,hR⟩) (λj x h=>by rw[Nat.zero_add];exact h) (zqq _)));have B4v:Fence.wide.fn 129:=trivial;have Ms:∀k:Nat,(Fence.wide.depth.isSome=true->1<=k):=λk h=>by cases h
 refine callsIn_of_wp Tryz.func128 rfl trivial ?_;simp only[Tryz.ntmps128,zcq,zbq,zeq,Nat.reduceAdd,Nat.reduceSub,z6q,z7q,zdq,z8q,zhq,zfq]
 gi_wp2_with ((try refine⟨Ms _,?_⟩);gi_at_call 129;refine hgo.mono ?_;clear hgo;rintro e w2 (⟨rfl,E4,hJ4,-⟩ | ⟨rfl,hx⟩))
 ·go_end0
  exact⟨⟨_,rfl⟩,.inl ⟨E4,by simpa using hJ4⟩⟩
 ·go_end0
  exact⟨⟨_,rfl⟩,.inr hx⟩
noncomputable def B7P:ClP where
 i0:=0
 i1:=1
 i2:=2
 i3:=3
 r0:=(opR (Tryz.f176.body.getD .skip) [false] 0)
 r1:=(opR (Tryz.f176.body.getD .skip) [true,false,false] 0)
 r2:=(opR (Tryz.f176.body.getD .skip) [true,false,false] 1)
 r3:=(opR (Tryz.f176.body.getD .skip) [true,false,true,false,false] 0)
 r4:=(opR (Tryz.f176.body.getD .skip) [true,true,false] 0)
 r5:=(opR (Tryz.f176.body.getD .skip) [true,true,false] 1)
 r6:=(opR (Tryz.f176.body.getD .skip) [true,true,false] 2)
 r7:=(opR (Tryz.f176.body.getD .skip) [true,true,false] 3)
 ts:=33
 ty:=C0G (Tryz.f176.body.getD .skip) [true,false,false] 1
theorem B2a:vW Tryz.prog 176 1:=B4b (q:=B7P) (by kernel_rfl) Tryz.func176 (by kernel_rfl) (by kernel_rfl) (by kernel_rfl)
end Go.Su

/-
 The settings are right.
-/
namespace Go.Su
open Go.Proofs
theorem B4P:Tryz.prog.funcs.toList.all (λfn=>fn.name != "runtime.NumGoroutine")=true:=by kernel_rfl
theorem B05{β : Type}{l:List (FuncId×β)}{f:FuncId}{g : β}(h:l.lookup f=some g):(f,g)∈l:=by
 induction l with
 |nil=>cases h
 |cons x l ih=>
   obtain⟨a,b⟩:=x;simp only[List.lookup_cons]at h;by_cases e:f==a
   ·rw[e]at h;simp only[D8]at h;rw[h];rw[eq_of_beq e];exact zgq ..
   ·simp only[e]at h;exact zoq _ (ih h)
theorem B7M:A0h cfg where
 mixed:=by kernel_rfl
 go f fn h:=by
  have h1:fn∈Tryz.prog.funcs.toList:=by have:Tryz.prog.funcs[f]?=some fn:=h;rw[<- Array.getElem?_toList]at this;exact List.mem_of_getElem? this
  have:=List.all_eq_true.1 B4P fn h1;simpa using this
 uw f g h:=by cases h
 clone f h:=by
  have h0:clL.contains f=true:=h;have h1:f∈clL:=by simpa using h0
  simp only[clL,zCq,zBq,or_false]at h1;rcases h1 with rfl
  ·exact⟨by kernel_rfl,B2a⟩
 eQ f g h:=by
  have h1:(f,g)∈mkL:=B05 h;simp only[mkL,zCq,zBq,or_false,Prod.mk.injEq]at h1;rcases h1 with⟨rfl,rfl⟩ | ⟨rfl,rfl⟩
  ·exact⟨by kernel_rfl,B8A⟩
  ·exact⟨by kernel_rfl,B6J⟩
 iter g it h:=by
  have h1:itF g=some it:=h;unfold itF at h1;split at h1
  ·rename_i e;subst e;cases h1;exact⟨by kernel_rfl,B8q⟩
  split at h1
  ·rename_i e;subst e;cases h1;exact⟨by kernel_rfl,B6D⟩
  ·cases h1
end Go.Su

/-
 Equations of the program's functions: by program.
-/
namespace Go.Su
set_option linter.defProp false
set_option maxRecDepth 100000
noncomputable section
open Go.Proofs
open Tryz
variable (R: O9)(i j k l m n: Nat)(a b c d e f g h o p q r t u v w x y z I P T U V W X Y Z a5: DV)(s: List E5)
def iY:=eP f5 Om R [] (I1 f5 [(a,.val),(b,.val)] [])
def Ib:=hP f5 Om R (pb 58) (ms 130 [(1,a),(5,b)] [] [(2,bx c 16)] [])
def Lh:=eP f5 Om R (pb 511) (ms 130 [(1,a),(8,b)] [] [(2,bx c 16),(6,bx d 7)] [])
def A0P:iY R a b =
 (og (I5 16 a)<|ob (R.p fU [(.list 16 [(X7 a)])]) λx=>M9 x sT (ob (R.p Wn [(X7 a)]) λy=>ob (j6 .not y) λz=>M9 z sT (ob (N9 b) λw=>ob (D7 .gtr w (iI 20)) λu=>G9 u sT (Ib R b (iI 0) a)) none) none):=H7 [15]
def Xa:Ib R a b c =
 (ob (N9 a) λs=>ob (D7 .lss b s) λr=>G9 r (ob (M4 3 a b) λq=>ob (R.p Wl [(.list 3 [(BI q)])]) λo=>ob (j6 .not o) λn=>M9 n sT (ob (M4 3 a b) λm=>ob (R.p RU [(BI m)]) λl=>ob (j6 .not l) λk=>M9 k sT (ob (M4 3 a b) λj=>ob (R.p Ym [(BI j)]) λi=>ob (D7 .gtr i (iI 60)) λh=>G9 h sT (ob (D7 .add b (iI 1)) λg=>Ib R a g c)) none) none) (ob (R.p Cm [(X7 c),(iI 65536)]) λz=>ob (Q4 0 z) λw=>ob (Q4 1 z) λf=>ob (Q4 2 z) λx=>og (I5 7 w)<|og (I5 6 f)<|ob (R.p QI [(iI 5)]) λy=>og (I5 3 y)<|ob (R.p Cm [(.agg ((iI 15)::(JU (ym ((iI 0)::(A8 0 y)::(A8 1 y)::(A8 2 y)::(Ig [(.list 7 []),(.list 16 [(X7 c)])])))))),(iI 65536)]) λu=>ob (Q4 0 u) λt=>ob (Q4 1 u) λe=>ob (Q4 2 u) λv=>og (I5 7 t)<|og (I5 6 e)<|ob (D7 .eql x (iI 7)) λd=>
 M9 d (ob (R.p LF []) λX=>some X) (ob (D7 .eql v (iI 7)) λY=>G9 Y (ob (R.p LF []) λZ=>some Z) (ob (D7 .eql x (iI 0)) λW=>ob (D7 .eql v (iI 0)) λU=>ob (A1X W U) λb28=>M9 (.bool !b28) sF (ob (D7 .eql v (iI 0)) λV=>M9 V (ob (D7 .neq (A8 0 t) (iI 5)) λT=>G9 T sF (Lh R a x c w)) (Lh R a x c w) none) none)) none)):=K5 [15]
def tJ:Lh R a b c d =
 (ob (D7 .neq b (iI 0)) λu=>G9 u (ob (R.p LF []) λv=>some v) (ob (R.p Td [(BI d),a]) λx=>og (I5 3 x)<|ob (R.p Cm [(.agg ((iI 15)::(JU (ym ((iI 0)::(A8 0 x)::(A8 1 x)::(A8 2 x)::(Ig [(.list 7 []),(.list 16 [(X7 c)])])))))),(iI 65536)]) λy=>ob (Q4 0 y) λz=>ob (Q4 1 y) λt=>ob (Q4 2 y) λw=>og (I5 7 z)<|og (I5 6 t)<|ob (D7 .eql w (iI 7)) λs=>M9 s (ob (R.p LF []) λr=>some r) (ob (D7 .eql w (iI 0)) λq=>M9 q (ob (R.p RQ [(BI z),(BI x)]) λo=>M9 o (ob (R.p LF []) λn=>some n) sF none) sF none) none)):=H7 [15]
def zM:C8.p iV [a,b]=iY C8 a b:=BS func5
def xI:=eP f9 aO R [] (I1 f9 [(a,.val)] [])
def Vt:=hP f9 aO R (pb 122) (ms 22 [(0,a),(3,b),(4,c)] [] [] [])
def tH:xI R a =
 (ob (R.p fT [a]) λx=>G9 x sT (Vt R a (iI 0) (iI 0))):=H7 []
def dP:Vt R a b c =
 (ob (N9 a) λx=>ob (D7 .lss c x) λy=>G9 y (ob (M4 16 a c) λz=>ob (R.p Yo [(X7 z)]) λw=>ob (D7 .add b w) λu=>ob (D7 .add c (iI 1)) λv=>Vt R a u v) (ob (D7 .gtr b (iI 90)) λt=>some t)):=K5 []
def qF:C8.p fU [a]=xI C8 a:=BS func9
def w_:=eP f11 aI R [] (I1 f11 [(a,.val),(b,.val)] [])
def FL:=hP f11 aI R (pb 4090) (ms 76 [(50,a),(51,b),(52,c)] [(7,(.ptr i 0)),(12,(F4.map j))] [(4,bv (Ig [(.list 3 []),(.list 1 []),(.list 3 []),(iI 0)])),(5,some zb0),(10,bx d 3),(11,bx e 3)] s)
def A5v:w_ R a b =
 (og (I5 16 a)<|ob (R.p Tg [(X7 a)]) λz=>ob (D7 .neq z (iI 0)) λw=>G9 w (some (.J8 [(.agg (Ig [(.list 3 []),(.list 1 []),(.list 3 []),(iI 0)])),(.agg (vV (JU []))),(iI 1)])) (oc (R.r fu [(b,.val)] []) λq3 s3=>ob (A5o q3) λi4=>ob (R.r B_ [(.undef,(.ptr s3.length 0)),((X7 a),.val),((iI 1),.val),((.list 3 []),.val)] (s3++[E5.box ((pt i4)::(zz4 [((iI 0),.val)]))])) λq5=>ob (Q4 0 (.J8 q5.1)) λs=>ob (Q4 1 (.J8 q5.1)) λx=>og (I5 4 x)<|oc (R.r FJ [(.undef,(.ptr s3.length 0)),((.agg [(A8 0 x),(A8 1 x),(A8 2 x),(A8 3 x)]),.val)] q5.2) λq8 s8=>og (I5 3 q8)<|oc (R.r GI [(.undef,(.ptr s3.length 0)),((.agg [(A8 0 x),(A8 1 x),(A8 2 x),(A8 3 x)]),.val)] s8) λq9 s9=>
 og (I5 3 q9)<|oc (R.r U5 [(.undef,(.ptr s3.length 0))] s9) λq10 s10=>ob (j6 .not q10) λu=>G9 u (ob (H5 s10 s3.length) λc12=>ob (VK 1 6 c12) λe13=>ob (H5 s10 s3.length) λc14=>ob (U8 c14 7) λv=>og (I5 6 (.agg e13))<|some (.J8 [(.agg (Ig [(.list 3 []),(.list 1 []),(.list 3 []),(iI 0)])),(.agg [(A8 0 (.agg e13)),(A8 1 (.agg e13)),(A8 2 (.agg e13)),(A8 3 (.agg e13)),(A8 4 (.agg e13)),(A8 5 (.agg e13))]),v])) (ob (R.p Yr [(.agg [(A8 0 q8),(A8 1 q8),(A8 2 q8)])]) λy=>ob (N9 y) λt=>FL R (s3.length) (s10.length) y t (iI 0) q8 q9 (s10++[E5.map false []])))):=H7 []
def Zz:FL R i j a b c d e s =
 (ob (D7 .lss c b) λy=>G9 y (ob (M4 1 a c) λx=>og (N8 x)<|oc (R.r De [(.undef,(F4.map j)),(x,.val)] s) λq3 s3=>ob (D7 .add c (iI 1)) λz=>FL R i j a b z d e s3) (oc (R.r Hu [(.undef,(F4.map j)),((BI e),.val)] s) λq5 s5=>oc (R.r GH [(.undef,(F4.map j)),((BI d),.val)] s5) λq6 s6=>oc (R.r Jp [(.undef,(F4.map j)),((BI e),.val)] s6) λq7 s7=>ob (H5 s7 i) λc8=>ob (X9 c8 0) λi9=>MZ (s7[i]?=s6[i]?)<|MZ (s6[i]?=s5[i]?)<|oc (R.r OE [(pt i9)] s7) λq10 s10=>og (I5 3 q6)<|og (I5 3 q7)<|og (J2 q10)<|some (.J8 [(.agg [(A8 0 q6),(A8 1 q6),(A8 2 q6),(A8 0 q7),(A8 1 q7),(A8 2 q7),q10]),(.agg (vV (JU []))),(iI 0)]))):=K5 []
def A4j:C8.p Cm [a,b]=w_ C8 a b:=BS func11
def xA:=eP f13 aJ R [] (I1 f13 [(a,.val),(b,.val)] [])
def QK:=hP f13 aJ R (pb 58) (ms 46 [(5,a)] [] [(2,bx b 3),(3,bx c 3)] [])
def A5w:xA R a b =
 (og (I5 3 a)<|og (I5 3 b)<|ob (D7 .neq (A8 0 a) (A8 0 b)) λx=>M9 x sF (ob (D7 .neq (A8 1 a) (A8 1 b)) λy=>M9 y sF (ob (N9 (A8 2 a)) λz=>ob (N9 (A8 2 b)) λw=>ob (D7 .neq z w) λu=>G9 u sF (QK R (iI 0) a b)) none) none):=H7 []
def dK:QK R a b c =
 (ob (N9 (A8 2 b)) λx=>ob (D7 .lss a x) λy=>G9 y (ob (M4 3 (A8 2 b) a) λz=>ob (M4 3 (A8 2 c) a) λw=>ob (R.p RQ [(BI z),(BI w)]) λu=>ob (j6 .not u) λv=>G9 v sF (ob (D7 .add a (iI 1)) λt=>QK R t b c)) sT):=K5 []
def A4k:C8.p RQ [a,b]=xA C8 a b:=BS func13
def xK:=eP f16 aQ R [] (I1 f16 [] [])
def pU:=eP f16 aQ R (pb 63) (ms 70 [(3,a),(7,b),(10,c)] [] [(1,bx d 7),(4,bv [(iI 6),(iI 0),(.list 3 [])]),(6,bx e 6)] [])
def A5C:xK R =
 (ob (R.p lN []) λv=>ob (R.p Cm [v,(iI 100)]) λx=>ob (Q4 0 x) λw=>ob (Q4 1 x) λt=>ob (Q4 2 x) λs=>og (I5 7 w)<|og (I5 6 t)<|ob (R.p Cm [(.agg ((iI 16)::(JU (ym ((iI 1)::(Ig (Ig [(.list 7 []),(.list 16 [(.agg ((iI 2)::(JU (bZ [])))),(.agg ((iI 5)::(iI 4)::(iI 6)::(.str ⟨#[]⟩)::(bZ [])))])]))))))),(iI 100)]) λy=>ob (Q4 0 y) λr=>ob (Q4 1 y) λu=>ob (Q4 2 y) λq=>og (I5 7 r)<|og (I5 6 u)<|ob (R.p lN []) λo=>ob (R.p Cm [o,(iI 1)]) λz=>ob (Q4 0 z) λn=>
 ob (Q4 1 z) λm=>ob (Q4 2 z) λl=>og (I5 7 n)<|og (I5 6 m)<|pU R s q l w u):=H7 [5]
def A12:pU R a b c d e =
 (ob (D7 .eql a (iI 0)) λx=>M9 x (ob (R.p cK [(iI 9),(.agg [(iI 6),(iI 0),(.list 3 [])]),(.agg [(iI 6),(iI 0),(.list 3 [])])]) λy=>ob (R.p RQ [(BI d),y]) λz=>M9 z (ob (N9 (A8 3 d)) λw=>ob (D7 .eql w (iI 1)) λu=>M9 u (ob (D7 .eql (A8 6 d) (iI 7)) λv=>M9 v (ob (D7 .eql b (iI 4)) λt=>M9 t (ob (A1W [.int,.int,.int,.int,.int,.str] (.agg [(A8 0 e),(A8 1 e),(A8 2 e),(A8 3 e),(A8 4 e),(A8 5 e)]) (.agg [(iI 4),(iI 6),(iI 4),(iI 4),(iI 1),(.str ⟨#[]⟩)])) λb8=>M9 (.bool b8) (ob (D7 .eql c (iI 7)) λs=>some s) sF none) sF none) sF none) sF none) sF none) sF none):=H7 [5]
def A1U{d:DV}(h:xK C8=some d):C8.p LF []=some d:=B0k func16 (by kernel_rfl) (by kernel_rfl) (by kernel_rfl) h
def xR:=eP f17 Ud R [] (I1 f17 [(a,.val)] [])
def Lr:=hP f17 Ud R (pb 58) (ms 36 [(3,a)] [] [(1,bx b 16)] [])
def QQ:=hP f17 Ud R (pb 122) (ms 36 [(4,a)] [] [(1,bx b 16)] [])
def A5K:xR R a =
 (og (I5 16 a)<|ob (R.p rW [(X7 a)]) λx=>ob (j6 .not x) λy=>G9 y sF (Lr R (iI 0) a)):=H7 []
def dU:Lr R a b =
 (ob (N9 (A8 14 b)) λx=>ob (D7 .lss a x) λy=>G9 y (ob (M4 7 (A8 14 b) a) λz=>ob (R.p Vp [(Sz z)]) λw=>ob (j6 .not w) λu=>G9 u sF (ob (D7 .add a (iI 1)) λv=>Lr R v b)) (QQ R (iI 0) b)):=K5 []
def dV:QQ R a b =
 (ob (N9 (A8 15 b)) λx=>ob (D7 .lss a x) λy=>G9 y (ob (M4 16 (A8 15 b) a) λz=>ob (R.p Wn [(X7 z)]) λw=>ob (j6 .not w) λu=>G9 u sF (ob (D7 .add a (iI 1)) λv=>QQ R v b)) sT):=K5 []
def A4w:C8.p Wn [a]=xR C8 a:=BS func17
def xH:=eP f19 aN R [] (I1 f19 [(a,.val)] [])
def QO:=hP f19 aN R (pb 26) (ms 32 [(0,a),(3,b)] [] [] [])
def A5A:xH R a =
 (QO R a (iI 0)):=H7 []
def dO:QO R a b =
 (ob (N9 a) λx=>ob (D7 .lss b x) λy=>G9 y (ob (M4 3 a b) λz=>ob (R.p fQ [(.list 3 [(BI z)])]) λw=>M9 w sF (ob (M4 3 a b) λu=>ob (R.p Yq [(BI u),(iI 60)]) λv=>M9 v sF (ob (M4 3 a b) λt=>ob (R.p lU [(BI t)]) λs=>ob (N9 s) λr=>ob (D7 .gtr r (iI 8)) λq=>G9 q sF (ob (D7 .add b (iI 1)) λo=>QO R a o)) none) none) sT):=K5 []
def A4o:C8.p Wl [a]=xH C8 a:=BS func19
def xP:=eP f20 aS R [] (I1 f20 [(a,.val)] [])
def JV:=hP f20 aS R (pb 58) (ms 45 [(3,a)] [] [(1,bx b 3)] [])
def A5I:xP R a =
 (og (I5 3 a)<|ob (R.p lS [(A8 0 a)]) λx=>ob (N9 (A8 2 a)) λy=>ob (D7 .neq x y) λz=>M9 z sF (ob (D7 .lss (A8 1 a) (iI 0)) λw=>M9 w sF (ob (D7 .gtr (A8 1 a) (iI 1048576)) λu=>M9 u sF (ob (D7 .neq (A8 0 a) (iI 6)) λv=>M9 v (ob (D7 .neq (A8 1 a) (iI 0)) λt=>G9 t sF (JV R (iI 0) a)) (JV R (iI 0) a) none) none) none) none):=H7 []
def dR:JV R a b =
 (ob (N9 (A8 2 b)) λx=>ob (D7 .lss a x) λy=>G9 y (ob (M4 3 (A8 2 b) a) λz=>ob (R.p RU [(BI z)]) λw=>ob (j6 .not w) λu=>G9 u sF (ob (D7 .add a (iI 1)) λv=>JV R v b)) sT):=K5 []
def A4u:C8.p RU [a]=xP C8 a:=BS func20
def A0r:=eP f21 iC R [] (I1 f21 [(a,.val)] [])
def SF:=hP f21 iC R (pb 58) (ms 21 [(3,a),(4,b)] [] [(1,bx c 3)] [])
def A8j:A0r R a =
 (og (I5 3 a)<|SF R (iI 1) (iI 0) a):=H7 []
def jW:SF R a b c =
 (ob (N9 (A8 2 c)) λx=>ob (D7 .lss b x) λy=>G9 y (ob (M4 3 (A8 2 c) b) λz=>ob (R.p Ym [(BI z)]) λw=>ob (D7 .add a w) λu=>ob (D7 .add b (iI 1)) λv=>SF R u v c) (some a)):=K5 []
def A56:C8.p Ym [a]=A0r C8 a:=BS func21
def A0o:=eP f22 yA R [] (I1 f22 [(a,.val)] [])
def A8g:A0o R a =
 (og (J2 a)<|some (.agg [a,(iI 0),(.list 3 [])])):=H7 []
def A53:C8.p QI [a]=A0o C8 a:=BS func22
def rY:=eP f23 YE R [] (I1 f23 [(a,.val),(b,.val)] [])
def OZ:=hP f23 YE R (pb 122) (ms 51 [(1,a),(6,b)] [] [(2,bx c 3),(4,some zb1),(5,some [(d,.val),(e,.val),(f,.own)])] [])
def A36:rY R a b =
 (og (I5 3 a)<|ob (D7 .eql (A8 0 a) (iI 6)) λz=>G9 z (ob (N9 b) λw=>ob (D7 .eql w (iI 0)) λu=>G9 u (ob (R.p QI [(iI 1)]) λx=>og (I5 3 x)<|some (BI x)) (ob (dJ .u64 (A8 1 a)) λv=>ob (N9 b) λt=>ob (dJ .u64 t) λs=>ob (D7 .rem v s) λr=>ob (dJ .i64 r) λq=>ob (M4 3 b q) λo=>ob (R.p Wm [(BI o)]) λy=>og (I5 3 y)<|some (BI y))) (og (J2 (A8 0 a))<|og (J2 (A8 1 a))<|OZ R b (iI 0) a (A8 0 a) (A8 1 a) (.list 3 []))):=H7 []
def aA:OZ R a b c d e f =
 (ob (N9 (A8 2 c)) λy=>ob (D7 .lss b y) λz=>G9 z (ob (M4 3 (A8 2 c) b) λw=>ob (R.p Td [(BI w),a]) λx=>og (I5 3 x)<|ob (Di 3 f (.list 3 [x])) λu=>ob (D7 .add b (iI 1)) λv=>OZ R a v c d e u) (some (.agg [d,e,f]))):=K5 []
def A2g:C8.p Td [a,b]=rY C8 a b:=BS func23
def A21:=eP f25 nM R [] (I1 f25 [(a,.val),(b,.val)] [])
def UF:=hP f25 nM R (pb 26) (ms 18 [(0,a),(1,b),(5,c)] [] [] [])
def B0C:A21 R a b =
 (UF R a b (iI 0)):=H7 []
def qD:UF R a b c =
 (ob (N9 a) λy=>ob (D7 .lss c y) λz=>G9 z (ob (M4 1 a c) λx=>og (N8 x)<|ob (D7 .eql x b) λw=>G9 w sT (ob (D7 .add c (iI 1)) λu=>UF R a b u)) sF):=K5 []
def A8v:C8.p rV [a,b]=A21 C8 a b:=BS func25
def A0k:=eP f27 xy R [] (I1 f27 [(a,.val)] [])
def A8c:A0k R a =
 (og (J2 a)<|some (.agg ((iI 1)::(iI 0)::(iI 0)::a::(bZ [])))):=H7 []
def A5Y:C8.p Yl [a]=A0k C8 a:=BS func27
def A0s:=eP f29 yC R [] (I1 f29 [(a,.val)] [])
def A8k:A0s R a =
 (og (I5 3 a)<|oc (R.r Yn [((BI a),.val),((.list 1 []),.own)] []) λq1 s1=>some q1):=H7 []
def A57:C8.p lU [a]=A0s C8 a:=BS func29
def A20:=eP f31 A06 R [] (I1 f31 [(a,.val),(b,.val),(c,.val)] [])
def B0B:A20 R a b c =
 (og (I5 3 b)<|og (I5 3 c)<|og (J2 a)<|some (.agg [a,(iI 0),(.list 3 [(BI b),(BI c)])])):=H7 []
def A8u:C8.p cK [a,b,c]=A20 C8 a b c:=BS func31
def pV:=eP f32 WG R [] (I1 f32 [(a,.val),(b,.val)] [])
def Je:=hP f32 WG R (pb 58) (ms 25 [(1,a),(5,b)] [] [(2,bx c 3)] [])
def A13:pV R a b =
 (og (I5 3 a)<|ob (D7 .eql (A8 0 a) b) λx=>G9 x sF (Je R b (iI 0) a)):=H7 []
def YZ:Je R a b c =
 (ob (N9 (A8 2 c)) λx=>ob (D7 .lss b x) λy=>G9 y (ob (M4 3 (A8 2 c) b) λz=>ob (R.p Rx [(BI z),a]) λw=>ob (j6 .not w) λu=>G9 u sF (ob (D7 .add b (iI 1)) λv=>Je R a v c)) sT):=K5 []
def A01:C8.p Rx [a,b]=pV C8 a b:=BS func32
def xE:=eP f35 aM R [] (I1 f35 [(a,.val)] [])
def Vs:=hP f35 aM R (pb 58) (ms 19 [(0,a),(3,b),(4,c)] [] [] [])
def A5z:xE R a =
 (Vs R a (iI 0) (iI 0)):=H7 []
def dN:Vs R a b c =
 (ob (N9 a) λx=>ob (D7 .lss c x) λy=>G9 y (ob (M4 16 a c) λz=>ob (R.p Wj [(X7 z),b]) λw=>ob (D7 .add c (iI 1)) λu=>Vs R a w u) (ob (D7 .gtr b (iI 400)) λv=>some v)):=K5 []
def A4n:C8.p fT [a]=xE C8 a:=BS func35
def A0u:=eP f36 iD R [] (I1 f36 [(a,.val)] [])
def SG:=hP f36 iD R (pb 58) (ms 21 [(3,a),(4,b)] [] [(1,bx c 16)] [])
def A8m:A0u R a =
 (og (I5 16 a)<|SG R (iI 1) (iI 0) a):=H7 []
def jY:SG R a b c =
 (ob (N9 (A8 15 c)) λx=>ob (D7 .lss b x) λy=>G9 y (ob (M4 16 (A8 15 c) b) λz=>ob (R.p Yo [(X7 z)]) λw=>ob (D7 .add a w) λu=>ob (D7 .add b (iI 1)) λv=>SG R u v c) (some a)):=K5 []
def A59:C8.p Yo [a]=A0u C8 a:=BS func36
def dH:Code:=f39.body.getD .skip
def r_:=eP f39 Nn R [] (I1 f39 [(a,.val)] [])
def dB:=eP f39 Nn R (pb 26) (ms 10 [(0,a),(3,(.J8 [])),(4,b),(6,(.J8 [])),(7,(.J8 [])),(8,(.J8 [])),(9,(.J8 []))] [(1,(.ptr 0 0)),(2,(.ptr 1 0)),(5,(.fn 128 [(2,0)]))] [] s)
def rT:Code:=match (sub [true,false,true,false] dH []).1 with
 |.rangeFunc _ _ a b=>.seq a b
 |c=>c
def IA(R:O9)(t0 t4:DV)(o:Out)(sg:List E5):Option DV:=nU cfg R Nn (WU cfg.P f39) [true,false,true,false] dH o (Ag ⟨spread .undef 10 0 [(0,t0),(3,(.J8 [])),(4,t4),(6,(.J8 [])),(7,(.J8 [])),(8,(.J8 [])),(9,(.J8 []))],spread .val 10 0 [(1,(.ptr 0 0)),(2,(.ptr 1 0)),(5,(.fn 128 [(2,0)]))],spread none 10 0 [],[]⟩ sg)
def Tc(R:O9)(t0 t4:DV)(I:List E5->Option DV)(x:DV)(sg:List E5):Option DV:=UY cfg R Nn (kr I (IA R t0 t4)) [] rT (mst 10 [(6,x)] [(2,(.ptr 1 0))] [] sg)
def KX(R:O9)(t0 t4:DV):List DV->List E5->Option DV:=MM (λx I sg=>Tc R t0 t4 I x sg) (IA R t0 t4 .normal)
def A4a:r_ R a =
 (og (I5 16 a)<|dB R a (X7 a) [E5.box [((A8 0 a),.val),((A8 1 a),.val),((A8 2 a),.val),((A8 3 a),.val),((A8 4 a),.val),((A8 5 a),.val),((A8 6 a),.val),((A8 7 a),.val),((A8 8 a),.val),((A8 9 a),.val),((A8 10 a),.val),((A8 11 a),.val),((A8 12 a),.val),((A8 13 a),.val),((A8 14 a),.val),((A8 15 a),.val)],E5.box [((iI 0),.val)],E5.box [((A8 0 a),.val),((A8 1 a),.val),((A8 2 a),.val),((A8 3 a),.val),((A8 4 a),.val),((A8 5 a),.val),((A8 6 a),.val),((A8 7 a),.val),((A8 8 a),.val),((A8 9 a),.val),((A8 10 a),.val),((A8 11 a),.val),((A8 12 a),.val),((A8 13 a),.val),((A8 14 a),.val),((A8 15 a),.val)]]):=H7 []
def zI:dB R a b s =
 ob (H5 s 2) λcs=>ob (MB cs) λcd=>ob (SS 16 15 cd) λds=>KX R a b ds (s.set 2 (.arr 1 [])):=(A9M (t:=5) (f:=128) (i:=2) (q:=6) (it:=SS 16 15) (by kernel_rfl) (by kernel_rfl) (by kernel_rfl) (by kernel_rfl)).trans (by kernel_rfl)
theorem qZ(R:O9)(t0 t4:DV)(sg:List E5):KX R t0 t4 [] sg=IA R t0 t4 .normal sg:=rfl
theorem lX(R:O9)(t0 t4 x:DV)(ds:List DV)(sg:List E5):KX R t0 t4 (x::ds) sg=Tc R t0 t4 (KX R t0 t4 ds) x sg:=rfl
def su(R:O9)(t0 t4:DV)(I:List E5->Option DV)(x:DV)(sg:List E5):Tc R t0 t4 I x sg=(og (I5 16 x)<|ob (R.p lV [(X7 x)]) λy=>ob (j6 .not y) λz=>G9 z (ob (H5 sg 1) λc3=>ob (c3[0]?) λu4=>IA R t0 t4 .ret (sg.set 1 (E5.box (c3.set 0 ((iI 1),.val))))) (I sg)):=H7 []
def Yv:IA R a b .normal s =
 (ob (H5 s 1) λc1=>ob (c1[0]?) λu2=>B1r (ob (H5 (s.set 1 (E5.box (c1.set 0 ((iI 0),.val)))) 1) λc=>oneCell (s.set 1 (E5.box (c1.set 0 ((iI 0),.val)))) c)):=wK [] (by kernel_rfl)
def gL:IA R a b .ret s=(B1r (ob (H5 s 1) λc=>oneCell s c)):=wK [] (by kernel_rfl)
def A2j:C8.p Tg [a]=r_ C8 a:=BS func39
def xU:=eR f40 Sa aU R [] (I1 f40 [(a,.val)] s)
def GX:=hR f40 Sa aU R (pb 58) (ms 30 [(11,a),(12,b),(13,c)] [(3,(.ptr i 0))] [] s)
def A5O:xU R a s=(ob (zC a (iI 0)) λy=>ob (Zx y (iI 65536)) λx=>og (J2 x)<|GX R (s.length) (.list 1 [(iI 1),(iI 2),(iI 3),(iI 4),(iI 5)]) (iI 5) (iI 0) (s++[E5.box [((.list 5 []),.full),(x,.val),((iI 0),.val),((iI 0),.val)]])):=H7 []
def UW:GX R i a b c s =
 (ob (D7 .lss c b) λy=>G9 y (ob (M4 1 a c) λx=>og (N8 x)<|ob (H5 s i) λc3=>ob (B1Q s i 0 c3 5) λv4=>og (J2 x)<|ob (V5 v4.1 v4.2.1 v4.2.2.1) λa5=>og (a5.1==5&&true&&decide (v4.2.2.2<=a5.2.length))<|ob (Jy 5 (.list 5 (a5.2.take v4.2.2.2)) (.list 5 [(.agg [x,(iI 0),(.int .i64 (-1)),(.list 1 []),(iI 0)])])) λp6=>ob (H5 (v4.1.set v4.2.1 (E5.Q0 (v4.2.2.1+1) 5 (p6.1++p6.2))) i) λc7=>ob (c7[0]?) λu8=>ob (D7 .add c (iI 1)) λz=>GX R i a b z ((v4.1.set v4.2.1 (E5.Q0 (v4.2.2.1+1) 5 (p6.1++p6.2))).set i (E5.box (c7.set 0 (.undef,(.Q0 v4.2.1 (v4.2.2.1+1) 5 (p6.1.length+p6.2.length))))))) (some ([(.int .u64 (i:Nat))],s))):=K5 []
def A4y:C8.r fu [(a,.val)] s=xU C8 a s:=BU (s:=Sa) func40
end
end Go.Su

/-
 Equations of the program's functions: by program.
-/
namespace Go.Su
set_option linter.defProp false
set_option maxRecDepth 100000
noncomputable section
open Go.Proofs
open Tryz
variable (R: O9)(i j k l m n: Nat)(a b c d e f g h o p q r t u v w x y z X Y: DV)(s: List E5)
def VT:=eR f41 Eu Iu R [] (I1 f41 [(pt i),(a,.val),(b,.val),(c,.val)] s)
def O3:=eR f41 Eu Iu R (pb 31) (ms 152 [(11,a)] [(10,(.ptr i 0))] [(9,bv [b,c,d,e])] s)
def LG(R:O9)(t0i:Nat)(t2 t3:DV)(t10i:Nat)(t17 b5:DV)(sg:List E5):Option (List DV×List E5):=eR f41 Eu Iu R (pb 125951) (ms 152 [(2,t2),(3,t3),(11,(iI 0)),(17,t17)] [(0,(.ptr t0i 0)),(10,(.ptr t10i 0))] [(5,bx b5 16),(9,bv (zz7 []))] sg)
def mI:VT R i a b c s =
 (og (I5 16 a)<|ob (Pe (s++[E5.box [((iI 0),.val),((.list 1 []),.full),((.list 1 []),.full),((.list 4 []),.full)]]) s.length [1]) λg1=>ob (D7 .eql (A8 0 a) (iI 1)) λx=>G9 x (oc (R.r Jt [(pt i),((X7 a),.val),(b,.val),(c,.val),(.undef,(.ptr s.length 0))] g1) λq3 s3=>O3 R (s.length) q3 (iI 0) (.list 1 []) (.list 1 []) (.list 4 []) s3) (ob (D7 .eql (A8 0 a) (iI 2)) λy=>G9 y (ob (D7 .sub (A8 0 a) (iI 2)) λz=>O3 R (s.length) z (iI 0) (.list 1 []) (.list 1 []) (.list 4 []) g1) (ob (D7 .eql (A8 0 a) (iI 3)) λw=>G9 w (ob (D7 .sub (A8 0 a) (iI 2)) λu=>O3 R (s.length) u (iI 0) (.list 1 []) (.list 1 []) (.list 4 []) g1) (ob (D7 .eql (A8 0 a) (iI 4)) λv=>G9 v (ob (D7 .sub (A8 0 a) (iI 2)) λt=>O3 R (s.length) t (iI 0) (.list 1 []) (.list 1 []) (.list 4 []) g1) (ob (D7 .eql (A8 0 a) (iI 5)) λq=>G9 q (ob (D7 .sub (A8 0 a) (iI 2)) λp=>
 O3 R (s.length) p (iI 0) (.list 1 []) (.list 1 []) (.list 4 []) g1) (ob (D7 .eql (A8 0 a) (iI 6)) λo=>G9 o (oc (R.r O7 [(pt i),((X7 a),.val),((iI 0),.val),(b,.val),(c,.val),(.undef,(.ptr s.length 0))] g1) λq13 s13=>oc (R.r O7 [(pt i),((X7 a),.val),((iI 1),.val),(b,.val),(c,.val),(.undef,(.ptr s.length 0))] s13) λq14 s14=>oc (R.r BK [(pt i),((iI 7),.val),(q13,.val),(q14,.val)] s14) λq15 s15=>O3 R (s.length) q15 (iI 0) (.list 1 []) (.list 1 []) (.list 4 []) s15) (ob (D7 .eql (A8 0 a) (iI 7)) λn=>G9 n (oc (R.r Z0 [(pt i),(b,.val)] g1) λq17 s17=>og (J2 q17)<|ob (H5 s17 s.length) λc18=>ob (c18[1]?) λu19=>oc (R.r BK [(pt i),((iI 8),.val),(q17,.val),((iI 0),.val)] (s17.set s.length (E5.box (c18.set 1 ((.list 1 [q17]),.full))))) λq20 s20=>
 O3 R (s.length) q20 (iI 0) (.list 1 []) (.list 1 []) (.list 4 []) s20) (ob (D7 .eql (A8 0 a) (iI 8)) λm=>G9 m (oc (R.r Jr [(pt i),((X7 a),.val),(b,.val),(c,.val),(.undef,(.ptr s.length 0))] g1) λq22 s22=>O3 R (s.length) q22 (iI 0) (.list 1 []) (.list 1 []) (.list 4 []) s22) (LG R i b c (s.length) (A8 0 a) a g1))))))))):=H7 [20,39]
def bz:O3 R i a b c d e s =
 (ob (H5 s i) λc1=>og (J2 a)<|ob (c1[0]?) λu2=>ob (H5 (s.set i (E5.box (c1.set 0 (a,.val)))) i) λc3=>ob (VK 0 4 c3) λe4=>og (I5 4 (.agg e4))<|some ([a,(.agg [(A8 0 (.agg e4)),(A8 1 (.agg e4)),(A8 2 (.agg e4)),(A8 3 (.agg e4))])],(s.set i (E5.box (c1.set 0 (a,.val)))))):=H7 [20,39]
def bu(R:O9)(t0i:Nat)(t2 t3:DV)(t10i:Nat)(t17 b5:DV)(sg:List E5):LG R t0i t2 t3 t10i t17 b5 sg =
 (ob (D7 .eql t17 (iI 9)) λx=>G9 x (oc (R.r FK [(pt t0i),((.agg [(A8 8 b5),(A8 9 b5),(A8 10 b5)]),.val),(t2,.val),(pt t10i)] sg) λq2 s2=>og (J2 (A8 3 b5))<|og (J2 q2)<|oc (R.r DT [(t3,.val),((.list 3 [(.agg [(A8 3 b5),q2,(.list 1 [])])]),.val)] s2) λq3 s3=>oc (R.r O7 [(pt t0i),((X7 b5),.val),((iI 0),.val),(t2,.val),(q3,.val),(pt t10i)] s3) λq4 s4=>oc (R.r BK [(pt t0i),((iI 9),.val),(q2,.val),(q4,.val)] s4) λq5 s5=>O3 R t10i q5 (iI 0) (.list 1 []) (.list 1 []) (.list 4 []) s5) (ob (D7 .eql t17 (iI 10)) λy=>G9 y (oc (R.r KR [(pt t0i),((X7 b5),.val),(t2,.val),(t3,.val),(pt t10i)] sg) λq7 s7=>O3 R t10i q7 (iI 0) (.list 1 []) (.list 1 []) (.list 4 []) s7) (ob (D7 .eql t17 (iI 11)) λz=>G9 z (oc (R.r KS [(pt t0i),((X7 b5),.val),(t2,.val),(t3,.val),(pt t10i)] sg) λq9 s9=>
 O3 R t10i q9 (iI 0) (.list 1 []) (.list 1 []) (.list 4 []) s9) (ob (D7 .eql t17 (iI 12)) λw=>G9 w (oc (R.r KT [(pt t0i),((X7 b5),.val),(t2,.val),(t3,.val),(pt t10i)] sg) λq11 s11=>O3 R t10i q11 (iI 0) (.list 1 []) (.list 1 []) (.list 4 []) s11) (ob (D7 .eql t17 (iI 13)) λu=>G9 u (oc (R.r Jq [(pt t0i),((X7 b5),.val),(t2,.val),(t3,.val),(pt t10i)] sg) λq13 s13=>O3 R t10i q13 (iI 0) (.list 1 []) (.list 1 []) (.list 4 []) s13) (ob (D7 .eql t17 (iI 14)) λv=>G9 v (oc (R.r Ii [(pt t0i),((X7 b5),.val),(t2,.val),(t3,.val),(pt t10i)] sg) λq15 s15=>O3 R t10i q15 (iI 0) (.list 1 []) (.list 1 []) (.list 4 []) s15) (ob (D7 .eql t17 (iI 15)) λt=>G9 t (oc (R.r O7 [(pt t0i),((X7 b5),.val),((iI 0),.val),(t2,.val),(t3,.val),(pt t10i)] sg) λq17 s17=>
 oc (R.r HZ [(pt t0i),((.agg [(A8 8 b5),(A8 9 b5),(A8 10 b5)]),.val)] s17) λq18 s18=>ob (M4 16 (A8 15 b5) (iI 0)) λs=>oc (R.r R5 [(pt t0i),(q17,.val),(q18,.val),((X7 s),.val)] s18) λq20 s20=>O3 R t10i q18 (iI 0) (.list 1 []) (.list 1 []) (.list 4 []) s20) (ob (D7 .eql t17 (iI 16)) λq=>G9 q (oc (R.r Ld [(pt t0i),((X7 b5),.val),(t2,.val),(t3,.val),(pt t10i)] sg) λq22 s22=>O3 R t10i q22 (iI 0) (.list 1 []) (.list 1 []) (.list 4 []) s22) (O3 R t10i (iI 0) (iI 0) (.list 1 []) (.list 1 []) (.list 4 []) sg))))))))):=H7 [20,39]
def jr:C8.r B_ [(.undef,(.ptr i 0)),(a,.val),(b,.val),(c,.val)] s=VT C8 i a b c s:=BU (s:=Eu) func41
def UB:=eR f42 Gz MH R [] (I1 f42 [(pt i),(a,.val)] s)
def Fz:=hR f42 Gz MH R (pb 250) (ms 39 [(28,a),(29,b),(30,c)] [(0,(.ptr i 0))] [(4,bv [d,e,f]),(5,bx g 3)] s)
def jR:UB R i a s =
 (og (I5 4 a)<|oc (R.r U5 [(pt i)] s) λq1 s1=>ob (j6 .not q1) λy=>G9 y (some ([(.agg (Ig []))],s1)) (ob (H5 s1 i) λc3=>ob (X9 c3 0) λi4=>ob (R.r Ha [(pt i4),((A8 0 a),.val)] s1) λq5=>ob (Q4 0 (.J8 q5.1)) λx=>ob (Q4 1 (.J8 q5.1)) λz=>og (I5 3 x)<|oc (R.r R6 [(pt i),(z,.val),((.agg (vV (JU []))),.val)] q5.2) λq8 s8=>ob (N9 (A8 3 a)) λw=>Fz R i (A8 3 a) w (iI 0) (iI 0) (iI 0) (.list 3 []) x s8)):=H7 []
def PU:Fz R i a b c d e f g s =
 (ob (D7 .lss c b) λy=>G9 y (ob (M4 4 a c) λx=>oc (R.r FJ [(pt i),((.agg [(A8 0 x),(A8 1 x),(A8 2 x),(A8 3 x)]),.val)] s) λq3 s3=>ob (D7 .add c (iI 1)) λz=>Fz R i a b z d e f g s3) (some ([(BI g)],s))):=K5 []
def gp:C8.r FJ [(.undef,(.ptr i 0)),(a,.val)] s=UB C8 i a s:=BU (s:=Gz) func42
def VW:=eR f43 Ew Iy R [] (I1 f43 [(pt i),(a,.val)] s)
def Cr:=hR f43 Ew Iy R (pb 58) (ms 67 [(16,a),(17,b),(18,c)] [(0,(.ptr i 0))] [(3,bx d 4),(4,bv [e,f,g]),(5,some [(h,.own),(o,.val),((.list 3 []),.own)])] s)
def F_:=hR f43 Ew Iy R (pb 122) (ms 67 [(47,a),(48,b),(49,c)] [(0,(.ptr i 0))] [(4,bv [d,e,f]),(5,some [(g,.own),(h,.val),(o,.own)])] s)
def mO:VW R i a s =
 (og (I5 4 a)<|og (J2 (A8 2 a))<|ob (N9 (A8 1 a)) λx=>Cr R i (A8 1 a) x (iI 0) a (.list 3 []) (.list 1 []) (.list 3 []) (.list 3 []) (A8 2 a) s):=H7 []
def Dq:Cr R i a b c d e f g h o s =
 (ob (D7 .lss c b) λz=>G9 z (ob (M4 1 a c) λx=>og (N8 x)<|oc (R.r U5 [(pt i)] s) λq3 s3=>ob (j6 .not q3) λw=>G9 w (some ([(.agg [h,o,(.list 3 [])])],s3)) (ob (H5 s3 i) λc5=>ob (X9 c5 0) λi6=>ob (R.r Ha [(pt i6),(x,.val)] s3) λq7=>ob (Q4 0 (.J8 q7.1)) λy=>ob (Q4 1 (.J8 q7.1)) λu=>og (I5 3 y)<|oc (R.r R6 [(pt i),(u,.val),((.agg (vV (JU []))),.val)] q7.2) λq10 s10=>ob (Di 3 h (.list 3 [(BI y)])) λv=>ob (D7 .add c (iI 1)) λt=>Cr R i a b t d e f g v o s10)) (ob (N9 (A8 3 d)) λq=>F_ R i (A8 3 d) q (iI 0) e f g h o (.list 3 []) s)):=K5 []
def PV:F_ R i a b c d e f g h o s =
 (ob (D7 .lss c b) λy=>G9 y (ob (M4 4 a c) λx=>oc (R.r U5 [(pt i)] s) λq3 s3=>ob (j6 .not q3) λz=>G9 z (some ([(.agg [g,h,o])],s3)) (oc (R.r GI [(pt i),((.agg [(A8 0 x),(A8 1 x),(A8 2 x),(A8 3 x)]),.val)] s3) λq5 s5=>og (I5 3 q5)<|ob (Di 3 o (.list 3 [q5])) λw=>ob (D7 .add c (iI 1)) λu=>F_ R i a b u d e f g h w s5)) (some ([(.agg [g,h,o])],s))):=K5 []
def jy:C8.r GI [(.undef,(.ptr i 0)),(a,.val)] s=VW C8 i a s:=BU (s:=Ew) func43
def YR:=eR f44 OP Xg R [] (I1 f44 [(pt i)] s)
def sw:YR R i s =
 (ob (H5 s i) λc1=>ob (U8 c1 7) λx=>ob (D7 .eql x (iI 0)) λy=>some ([y],s)):=H7 []
def rG:C8.r U5 [(.undef,(.ptr i 0))] s=YR C8 i s:=BU (s:=OP) func44
def A0y:=eP f45 yE R [] (I1 f45 [(a,.val)] [])
def A8q:A0y R a =
 (og (I5 3 a)<|oc (R.r Yt [((BI a),.val),(.undef,(F4.map 0)),((.list 1 []),.own)] [E5.map false []]) λq1 s1=>some q1):=H7 []
def A6d:C8.p Yr [a]=A0y C8 a:=BS func45
def Tv:=eR f46 LU TD R [] (I1 f46 [(.undef,(F4.map i)),(a,.val)] s)
def jL:Tv R i a s =
 (og (j4 false a&&true)<|ob (R9 s i) λm1=>og (m1.1==false)<|ob (j6 .not (.bool (Y0 m1.2 a).isSome)) λx=>G9 x (ob (A1j s (.map i)) λn3=>ob (iQ n3) λy=>og (j4 false a&&true&&true)<|ob (R9 s i) λm5=>og (m5.1==false)<|some ([],(s.set i (E5.map false (Bz m5.2 a y))))) (some ([],s))):=H7 []
def gU:C8.r De [(.undef,(F4.map i)),(a,.val)] s=Tv C8 i a s:=BU (s:=LU) func46
def Sw:=eR f47 BR Cs R [] (I1 f47 [(.undef,(F4.map i)),(a,.val)] s)
def CE:=hR f47 BR Cs R (pb 26) (ms 53 [(13,a),(14,b),(15,c)] [(0,(F4.map i))] [(3,bx d 3)] s)
def Z4:=hR f47 BR Cs R (pb 6758) (ms 53 [(13,a),(14,b),(15,c),(20,d),(21,e),(22,f)] [(0,(F4.map i))] [(3,bx g 3)] s)
def Au:=hR f47 BR Cs R (pb 58) (ms 53 [(32,a),(33,b),(34,c)] [(0,(F4.map i))] [(3,bx d 3)] s)
def Ez:=hR f47 BR Cs R (pb 62) (ms 53 [(43,a),(44,b),(45,c)] [(0,(F4.map i))] [] s)
def gM:Sw R i a s =
 (og (I5 3 a)<|ob (N9 (A8 0 a)) λx=>CE R i (A8 0 a) x (iI 0) a s):=H7 []
def Oh:CE R i a b c d s =
 (ob (D7 .lss c b) λy=>G9 y (ob (M4 3 a c) λz=>ob (R.p Yr [(BI z)]) λx=>ob (N9 x) λw=>Z4 R i a b c x w (iI 0) d s) (ob (N9 (A8 1 d)) λu=>Au R i (A8 1 d) u (iI 0) d s)):=K5 []
def Oi:Z4 R i a b c d e f g s =
 (ob (D7 .lss f e) λy=>G9 y (ob (M4 1 d f) λx=>og (N8 x)<|oc (R.r De [(.undef,(F4.map i)),(x,.val)] s) λq3 s3=>ob (D7 .add f (iI 1)) λz=>Z4 R i a b c d e z g s3) (ob (D7 .add c (iI 1)) λw=>CE R i a b w g s)):=K5 []
def Nk:Au R i a b c d s =
 (ob (D7 .lss c b) λy=>G9 y (ob (M4 1 a c) λx=>og (N8 x)<|oc (R.r De [(.undef,(F4.map i)),(x,.val)] s) λq3 s3=>ob (D7 .add c (iI 1)) λz=>Au R i a b z d s3) (ob (N9 (A8 2 d)) λw=>Ez R i (A8 2 d) w (iI 0) s)):=K5 []
def Nl:Ez R i a b c s =
 (ob (D7 .lss c b) λx=>G9 x (ob (M4 3 a c) λy=>oc (R.r Hu [(.undef,(F4.map i)),((BI y),.val)] s) λq3 s3=>ob (D7 .add c (iI 1)) λz=>Ez R i a b z s3) (some ([],s))):=K5 []
def b_:C8.r Hu [(.undef,(F4.map i)),(a,.val)] s=Sw C8 i a s:=BU (s:=BR) func47
def VQ:=eR f48 IQ NE R [] (I1 f48 [(.undef,(F4.map i)),(a,.val)] s)
def Gq:=hR f48 IQ NE R (pb 250) (ms 42 [(26,a),(27,b),(28,c)] [(0,(F4.map i))] [(4,bv [d,e,(.list 3 [])]),(5,some [(f,.val),(g,.val),(h,.own)])] s)
def mF:VQ R i a s =
 (og (I5 3 a)<|ob (D7 .eql (A8 0 a) (iI 6)) λx=>G9 x (og (j4 false (A8 1 a)&&true)<|ob (R9 s i) λm2=>og (m2.1==false)<|og (J2 ((Y0 m2.2 (A8 1 a)).getD (iI 0)))<|some ([(.agg [(A8 0 a),((Y0 m2.2 (A8 1 a)).getD (iI 0)),(A8 2 a)])],s)) (ob (N9 (A8 2 a)) λy=>ob (D7 .eql y (iI 0)) λz=>G9 z (some ([(BI a)],s)) (og (J2 (A8 0 a))<|ob (N9 (A8 2 a)) λw=>Gq R i (A8 2 a) w (iI 0) (iI 0) (iI 0) (A8 0 a) (iI 0) (.list 3 []) s))):=H7 []
def Qt:Gq R i a b c d e f g h s =
 (ob (D7 .lss c b) λx=>G9 x (ob (M4 3 a c) λy=>oc (R.r GH [(.undef,(F4.map i)),((BI y),.val)] s) λq3 s3=>og (I5 3 q3)<|ob (Di 3 h (.list 3 [q3])) λz=>ob (D7 .add c (iI 1)) λw=>Gq R i a b w d e f g z s3) (some ([(.agg [f,g,h])],s))):=K5 []
def jm:C8.r GH [(.undef,(F4.map i)),(a,.val)] s=VQ C8 i a s:=BU (s:=IQ) func48
def VP:=eR f49 DL FO R [] (I1 f49 [(.undef,(F4.map i)),(a,.val)] s)
def Cn:=hR f49 DL FO R (pb 58) (ms 61 [(13,a),(14,b),(15,c)] [(0,(F4.map i))] [(3,bx d 3),(4,bv [e,f,g]),(5,some [(h,.own),((.list 1 []),.own),((.list 3 []),.own)])] s)
def Co:=hR f49 DL FO R (pb 122) (ms 61 [(29,a),(30,b),(31,c)] [(0,(F4.map i))] [(3,bx d 3),(4,bv [e,f,g]),(5,some [(h,.own),(o,.own),(p,.own)])] s)
def Fy:=hR f49 DL FO R (pb 250) (ms 61 [(45,a),(46,b),(47,c)] [(0,(F4.map i))] [(4,bv [d,e,f]),(5,some [(g,.own),(h,.own),(o,.own)])] s)
def mE:VP R i a s =
 (og (I5 3 a)<|ob (N9 (A8 0 a)) λx=>Cn R i (A8 0 a) x (iI 0) a (.list 3 []) (.list 1 []) (.list 3 []) (.list 3 []) s):=H7 []
def Qr:Cn R i a b c d e f g h s =
 (ob (D7 .lss c b) λx=>G9 x (ob (M4 3 a c) λy=>oc (R.r GH [(.undef,(F4.map i)),((BI y),.val)] s) λq3 s3=>og (I5 3 q3)<|ob (Di 3 h (.list 3 [q3])) λz=>ob (D7 .add c (iI 1)) λw=>Cn R i a b w d e f g z s3) (ob (N9 (A8 1 d)) λu=>Co R i (A8 1 d) u (iI 0) d e f g h (.list 1 []) (.list 3 []) s)):=K5 []
def Qs:Co R i a b c d e f g h o p s =
 (ob (D7 .lss c b) λy=>G9 y (ob (M4 1 a c) λx=>og (N8 x)<|og (j4 false x&&true)<|ob (R9 s i) λm3=>og (m3.1==false)<|og (J2 ((Y0 m3.2 x).getD (iI 0)))<|ob (Di 1 o (.list 1 [((Y0 m3.2 x).getD (iI 0))])) λz=>ob (D7 .add c (iI 1)) λw=>Co R i a b w d e f g h z p s) (ob (N9 (A8 2 d)) λu=>Fy R i (A8 2 d) u (iI 0) e f g h o p s)):=K5 []
def PQ:Fy R i a b c d e f g h o s =
 (ob (D7 .lss c b) λx=>G9 x (ob (M4 3 a c) λy=>oc (R.r Jp [(.undef,(F4.map i)),((BI y),.val)] s) λq3 s3=>og (I5 3 q3)<|ob (Di 3 o (.list 3 [q3])) λz=>ob (D7 .add c (iI 1)) λw=>Fy R i a b w d e f g h z s3) (some ([(.agg [g,h,o])],s))):=K5 []
def jk:C8.r Jp [(.undef,(F4.map i)),(a,.val)] s=VP C8 i a s:=BU (s:=DL) func49
def VX:=eR f50 Mh Ug R [] (I1 f50 [(pt i)] s)
def mP:VX R i s =
 (ob (H5 s i) λc1=>ob (U8 c1 2) λx=>some ([x],s)):=H7 []
def j_:C8.r OE [(.undef,(.ptr i 0))] s=VX C8 i s:=BU (s:=Mh) func50
def A49:=eP f64 A3l R [] (I1 f64 [] [])
def B2s:A49 R =
 (ob (R.p Yl [(.str ⟨#[120]⟩)]) λx=>og (I5 16 x)<|some (.agg ((iI 9)::(iI 0)::(iI 0)::(.str ⟨#[120]⟩)::(ym ((iI 0)::(Ig (Ig [(.list 7 []),(.list 16 [x])]))))))):=H7 []
def A77{d:DV}(h:A49 C8=some d):C8.p lN []=some d:=B0k func64 (by kernel_rfl) (by kernel_rfl) (by kernel_rfl) h
def A22:=eP f65 Y_ R [] (I1 f65 [(a,.val)] [])
def gB:=eP f65 Y_ R (pb 15) (ms 137 [] [] [(1,bx a 16),(3,bx b 16)] [])
def gD:=eP f65 Y_ R (pb 31) (ms 137 [] [] [(1,bx a 16)] [])
def B0D:A22 R a =
 (og (I5 16 a)<|ob (R.p Zi [(X7 a)]) λy=>ob (Q4 0 y) λx=>ob (Q4 1 y) λz=>og (I5 16 x)<|ob (N9 (A8 15 a)) λw=>ob (D7 .neq z w) λu=>M9 u sF (ob (D7 .neq (A8 3 a) (A8 3 x)) λv=>M9 v sF (ob (D7 .neq (A8 4 a) (A8 4 x)) λt=>M9 t sF (ob (D7 .neq (A8 5 a) (A8 5 x)) λs=>M9 s sF (ob (D7 .neq (A8 6 a) (A8 6 x)) λr=>M9 r sF (ob (D7 .neq (A8 7 a) (A8 7 x)) λq=>M9 q sF (ob (N9 (A8 14 a)) λo=>ob (N9 (A8 14 x)) λn=>ob (D7 .neq o n) λm=>G9 m sF (gB R a x)) none) none) none) none) none) none):=H7 [4,6]
def A5M:gB R a b =
 (ob (R.p Te [(.agg [(A8 8 a),(A8 9 a),(A8 10 a)]),(.agg [(A8 8 b),(A8 9 b),(A8 10 b)])]) λx=>ob (j6 .not x) λy=>M9 y sF (ob (R.p Te [(.agg [(A8 11 a),(A8 12 a),(A8 13 a)]),(.agg [(A8 11 b),(A8 12 b),(A8 13 b)])]) λz=>ob (j6 .not z) λw=>G9 w sF (gD R a)) none):=H7 [4,6]
def A5N:gD R a =
 (ob (D7 .neq (A8 0 a) (iI 15)) λx=>ob (R.p Yp [(.agg [(A8 8 a),(A8 9 a),(A8 10 a)]),x]) λy=>ob (j6 .not y) λz=>M9 z sF (ob (R.p Yp [(.agg [(A8 11 a),(A8 12 a),(A8 13 a)]),(.bool true)]) λw=>ob (j6 .not w) λu=>G9 u sF (ob (D7 .eql (A8 0 a) (iI 1)) λv=>G9 v (ob (R.p KU [(A8 3 a)]) λt=>some t) (ob (D7 .eql (A8 0 a) (iI 9)) λs=>G9 s (ob (R.p KU [(A8 3 a)]) λr=>some r) (ob (D7 .eql (A8 0 a) (iI 11)) λq=>G9 q (ob (R.p KU [(A8 3 a)]) λo=>some o) (ob (D7 .eql (A8 0 a) (iI 12)) λn=>G9 n (ob (R.p KU [(A8 3 a)]) λm=>M9 m (ob (R.p KU [(A8 4 a)]) λl=>some l) sF none) (ob (D7 .eql (A8 0 a) (iI 3)) λk=>G9 k (ob (D7 .eql (A8 5 a) (iI 0)) λj=>M9 j sT (ob (D7 .eql (A8 5 a) (iI 1)) λi=>some i) none) (ob (D7 .eql (A8 0 a) (iI 4)) λh=>G9 h (ob (FB (A8 6 a)) λg=>ob (D7 .leq g (iI 200)) λf=>
 some f) (ob (D7 .eql (A8 0 a) (iI 14)) λe=>G9 e (ob (N9 (A8 14 a)) λd=>ob (D7 .gtr d (iI 0)) λc=>some c) (ob (D7 .eql (A8 0 a) (iI 16)) λb=>G9 b (ob (D7 .geq (A8 7 a) (iI 1)) λX=>M9 X (ob (D7 .leq (A8 7 a) (iI 7)) λY=>some Y) sF none) sT))))))))) none):=H7 [4,6]
def A8w:C8.p rW [a]=A22 C8 a:=BS func65
def iZ:=eP f66 Ue R [] (I1 f66 [(a,.val)] [])
def Li:=hP f66 Ue R (pb 122) (ms 24 [(3,a),(4,b)] [] [] [])
def A0R:iZ R a =
 (og (I5 7 a)<|ob (R.p cO [(Sz a)]) λx=>ob (j6 .not x) λy=>G9 y sF (ob (R.p fq [(Sz a)]) λz=>Li R z (iI 0))):=H7 []
def Xb:Li R a b =
 (ob (N9 a) λy=>ob (D7 .lss b y) λz=>G9 z (ob (Nj 1 a none (some b)) λw=>ob (M4 1 a b) λx=>og (N8 x)<|ob (R.p rV [w,x]) λu=>G9 u sF (ob (D7 .add b (iI 1)) λv=>Li R a v)) sT):=K5 []
def zN:C8.p Vp [a]=iZ C8 a:=BS func66
def xC:=eP f67 aK R [] (I1 f67 [(a,.val)] [])
def Vr:=hP f67 aK R (pb 58) (ms 19 [(0,a),(3,b),(4,c)] [] [] [])
def A5x:xC R a =
 (Vr R a (iI 0) (iI 0)):=H7 []
def dL:Vr R a b c =
 (ob (N9 a) λx=>ob (D7 .lss c x) λy=>G9 y (ob (M4 3 a c) λz=>ob (R.p Wi [(BI z),b]) λw=>ob (D7 .add c (iI 1)) λu=>Vr R a w u) (ob (D7 .gtr b (iI 600)) λv=>some v)):=K5 []
def A4l:C8.p fQ [a]=xC C8 a:=BS func67
def A0w:=eP f68 iE R [] (I1 f68 [(a,.val),(b,.val)] [])
def SH:=hP f68 iE R (pb 58) (ms 23 [(1,a),(5,b)] [] [(2,bx c 3)] [])
def A8o:A0w R a b =
 (og (I5 3 a)<|ob (D7 .leq b (iI 0)) λx=>G9 x sT (SH R b (iI 0) a)):=H7 []
def jc:SH R a b c =
 (ob (N9 (A8 2 c)) λx=>ob (D7 .lss b x) λy=>G9 y (ob (M4 3 (A8 2 c) b) λz=>ob (D7 .sub a (iI 1)) λw=>ob (R.p Yq [(BI z),w]) λu=>G9 u sT (ob (D7 .add b (iI 1)) λv=>SH R a v c)) sF):=K5 []
def A6b:C8.p Yq [a,b]=A0w C8 a b:=BS func68
def A0n:=eP f69 x_ R [] (I1 f69 [(a,.val)] [])
def A8f:A0n R a =
 (ob (D7 .eql a (iI 1)) λx=>G9 x (some (iI 0)) (ob (D7 .eql a (iI 2)) λy=>G9 y (some (iI 0)) (ob (D7 .eql a (iI 3)) λz=>G9 z (some (iI 0)) (ob (D7 .eql a (iI 4)) λw=>G9 w (some (iI 0)) (ob (D7 .eql a (iI 5)) λu=>G9 u (some (iI 0)) (ob (D7 .eql a (iI 6)) λv=>G9 v (some (iI 0)) (ob (D7 .eql a (iI 8)) λt=>G9 t (some (iI 1)) (ob (D7 .eql a (iI 7)) λs=>G9 s (some (iI 2)) (ob (D7 .eql a (iI 9)) λr=>G9 r (some (iI 2)) (some (.int .i64 (-1)))))))))))):=H7 []
def A52:C8.p lS [a]=A0n C8 a:=BS func69
def xJ:=eP f70 aP R [] (I1 f70 [(a,.val)] [])
def QP:=hP f70 aP R (pb 122) (ms 38 [(4,a)] [] [(1,bx b 3),(2,some zb1),(3,some [(c,.val),(d,.val),(e,.own)])] [])
def A5B:xJ R a =
 (og (I5 3 a)<|ob (D7 .eql (A8 0 a) (iI 5)) λz=>M9 z (ob (R.p QI [(iI 2)]) λx=>og (I5 3 x)<|some (BI x)) (ob (D7 .eql (A8 0 a) (iI 6)) λw=>G9 w (ob (R.p QI [(iI 2)]) λy=>og (I5 3 y)<|some (BI y)) (og (J2 (A8 0 a))<|og (J2 (A8 1 a))<|QP R (iI 0) a (A8 0 a) (A8 1 a) (.list 3 []))) none):=H7 []
def dQ:QP R a b c d e =
 (ob (N9 (A8 2 b)) λy=>ob (D7 .lss a y) λz=>G9 z (ob (M4 3 (A8 2 b) a) λw=>ob (R.p Wm [(BI w)]) λx=>og (I5 3 x)<|ob (Di 3 e (.list 3 [x])) λu=>ob (D7 .add a (iI 1)) λv=>QP R v b c d u) (some (.agg [c,d,e]))):=K5 []
def A4p:C8.p Wm [a]=xJ C8 a:=BS func70
end
end Go.Su

/-
 Equations of the program's functions: by program.
-/
namespace Go.Su
set_option linter.defProp false
set_option maxRecDepth 100000
noncomputable section
open Go.Proofs
open Tryz
variable (R: O9)(i: Nat)(a b c o p q r t u v w x y z a17: DV)(s: List E5)
def A0t:=eR f73 QB Wv R [] (I1 f73 [(a,.val),(b,.own)] s)
def UE:=eR f73 QB Wv R (pb 7) (ms 36 [(1,a)] [(1,.own)] [(2,bx b 3)] s)
def Nf:=hR f73 QB Wv R (pb 58) (ms 36 [(1,a),(5,b)] [(1,.own)] [(2,bx c 3)] s)
def A8l:A0t R a b s =
 (og (I5 3 a)<|ob (D7 .eql (A8 0 a) (iI 6)) λx=>M9 x (ob (R.p yn [b,(A8 1 a)]) λy=>ob (j6 .not y) λz=>G9 z (og (J2 (A8 1 a))<|ob (Di 1 b (.list 1 [(A8 1 a)])) λw=>UE R w a s) (UE R b a s)) (UE R b a s) none):=H7 [3]
def YD:UE R a b s =
 (Nf R a (iI 0) b s):=H7 [3]
def jX:Nf R a b c s =
 (ob (N9 (A8 2 c)) λx=>ob (D7 .lss b x) λy=>G9 y (ob (M4 3 (A8 2 c) b) λz=>oc (R.r Yn [((BI z),.val),(a,.own)] s) λq4 s4=>ob (D7 .add b (iI 1)) λw=>Nf R q4 w c s4) (some ([a],s))):=K5 [3]
def A58:C8.r Yn [(a,.val),(b,.own)] s=A0t C8 a b s:=BU (s:=QB) func73
def xW:=eP f74 uF R [] (I1 f74 [(a,.val)] [])
def A5Q:xW R a =
 (og (I5 3 a)<|ob (R.p Wq [(BI a)]) λx=>ob (j6 .not x) λy=>G9 y (some (iI 1)) (some (iI 0))):=H7 []
def A4A:C8.p Wp [a]=xW C8 a:=BS func74
def xG:=eP f76 MI R [] (I1 f76 [(a,.val),(b,.val)] [])
def QM:=hP f76 MI R (pb 250) (ms 70 [(1,a),(5,b)] [] [(2,bx c 16)] [])
def SB:=eP f76 MI R (pb 63) (ms 70 [(1,a)] [] [(2,bx b 16)] [])
def QN:=hP f76 MI R (pb 506) (ms 70 [(1,a),(6,b)] [] [(2,bx c 16)] [])
def QL:=eP f76 MI R (pb 127) (ms 70 [(1,a)] [] [(2,bx b 16)] [])
def tF:xG R a b =
 (og (I5 16 a)<|ob (D7 .add b (iI 1)) λx=>ob (R.p Hw [(.agg [(A8 8 a),(A8 9 a),(A8 10 a)]),x]) λy=>ob (R.p Hw [(.agg [(A8 11 a),(A8 12 a),(A8 13 a)]),y]) λz=>QM R z (iI 0) a):=H7 [8,12]
def UR:QM R a b c =
 (ob (N9 (A8 14 c)) λx=>ob (D7 .lss b x) λy=>M9 y (ob (D7 .leq a (iI 400)) λz=>G9 z (ob (M4 7 (A8 14 c) b) λw=>ob (R.p QH [(Sz w),a]) λu=>ob (D7 .add b (iI 1)) λv=>QM R u v c) (SB R a c)) (SB R a c) none):=K5 [8,12]
def A11:SB R a b =
 (QN R a (iI 0) b):=H7 [8,12]
def UT:QN R a b c =
 (ob (N9 (A8 15 c)) λx=>ob (D7 .lss b x) λy=>M9 y (ob (D7 .leq a (iI 400)) λz=>G9 z (ob (M4 16 (A8 15 c) b) λw=>ob (R.p Wj [(X7 w),a]) λu=>ob (D7 .add b (iI 1)) λv=>QN R u v c) (QL R a c)) (QL R a c) none):=K5 [8,12]
def A0O:QL R a b =
 (ob (FB (A8 6 b)) λx=>ob (D7 .gtr x (iI 300)) λy=>M9 y (some (iI 401)) (ob (FB (A8 3 b)) λz=>ob (D7 .gtr z (iI 300)) λw=>M9 w (some (iI 401)) (ob (FB (A8 4 b)) λu=>ob (D7 .gtr u (iI 300)) λv=>G9 v (some (iI 401)) (some a)) none) none):=H7 [8,12]
def qE:C8.p Wj [a,b]=xG C8 a b:=BS func76
def A0x:=eP f78 EK R [] (I1 f78 [(a,.val)] [])
def UL:=eP f78 EK R (pb 115) (ms 186 [] [] [(1,bx a 16),(3,bx b 9)] [])
def Lt:=eP f78 EK R (pb 463) (ms 186 [] [] [(1,bx a 16),(3,bx b 9)] [])
def Lu:=eP f78 EK R (pb 1855) (ms 186 [] [] [(1,bx a 16),(3,bx b 9)] [])
def Fh:=eP f78 EK R (pb 7423) (ms 186 [] [] [(1,bx a 16),(3,bx b 9)] [])
def SI:=eP f78 EK R (pb 29695) (ms 186 [] [] [(1,bx a 16),(3,bx b 9)] [])
def KJ:=eP f78 EK R (pb 118783) (ms 186 [] [] [(1,bx a 16),(3,bx b 9)] [])
def KL:=eP f78 EK R (pb 475135) (ms 186 [] [] [(1,bx a 16),(3,bx b 9)] [])
def SK:=eP f78 EK R (pb 15) (ms 186 [] [] [(1,bx a 16)] [])
def QR:=hP f78 EK R (pb 122) (ms 186 [(176,a),(177,b),(178,c)] [] [] [])
def A8p:A0x R a =
 (og (I5 16 a)<|ob (R.p Vq [(X7 a)]) λy=>ob (Q4 0 y) λx=>ob (Q4 1 y) λz=>og (I5 9 x)<|ob (j6 .not z) λw=>M9 w sF (ob (N9 (A8 15 a)) λu=>ob (D7 .neq u (A8 8 x)) λv=>M9 v sF (ob (D7 .neq (A8 0 a) (iI 14)) λt=>M9 t (ob (N9 (A8 14 a)) λs=>ob (D7 .gtr s (iI 0)) λr=>G9 r sF (UL R a x)) (UL R a x) none) none) none):=H7 [4,6,8,10,12,14,16,18]
def A4c:UL R a b =
 (M9 (A8 0 b) (ob (R.p RX [(A8 3 a)]) λx=>ob (j6 .not x) λy=>M9 y sF (ob (j6 .not (A8 0 b)) λz=>M9 z (ob (D7 .neq (A8 3 a) (.str ⟨#[]⟩)) λw=>G9 w sF (Lt R a b)) (Lt R a b) none) none) (ob (j6 .not (A8 0 b)) λu=>M9 u (ob (D7 .neq (A8 3 a) (.str ⟨#[]⟩)) λv=>G9 v sF (Lt R a b)) (Lt R a b) none) none):=H7 [4,6,8,10,12,14,16,18]
def A4d:Lt R a b =
 (M9 (A8 1 b) (ob (R.p RX [(A8 4 a)]) λx=>ob (j6 .not x) λy=>M9 y sF (ob (j6 .not (A8 1 b)) λz=>M9 z (ob (D7 .neq (A8 4 a) (.str ⟨#[]⟩)) λw=>G9 w sF (Lu R a b)) (Lu R a b) none) none) (ob (j6 .not (A8 1 b)) λu=>M9 u (ob (D7 .neq (A8 4 a) (.str ⟨#[]⟩)) λv=>G9 v sF (Lu R a b)) (Lu R a b) none) none):=H7 [4,6,8,10,12,14,16,18]
def A4e:Lu R a b =
 (ob (j6 .not (A8 2 b)) λx=>M9 x (ob (D7 .neq (A8 5 a) (iI 0)) λy=>M9 y sF (ob (D7 .eql (A8 0 a) (iI 3)) λz=>M9 z (ob (D7 .neq (A8 5 a) (iI 0)) λw=>M9 w (ob (D7 .neq (A8 5 a) (iI 1)) λu=>G9 u sF (Fh R a b)) (Fh R a b) none) (Fh R a b) none) none) (ob (D7 .eql (A8 0 a) (iI 3)) λv=>M9 v (ob (D7 .neq (A8 5 a) (iI 0)) λt=>M9 t (ob (D7 .neq (A8 5 a) (iI 1)) λs=>G9 s sF (Fh R a b)) (Fh R a b) none) (Fh R a b) none) none):=H7 [4,6,8,10,12,14,16,18]
def A17:Fh R a b =
 (ob (j6 .not (A8 3 b)) λx=>M9 x (ob (D7 .neq (A8 6 a) (.str ⟨#[]⟩)) λy=>M9 y sF (ob (FB (A8 6 a)) λz=>ob (D7 .gtr z (iI 200)) λw=>G9 w sF (SI R a b)) none) (ob (FB (A8 6 a)) λu=>ob (D7 .gtr u (iI 200)) λv=>G9 v sF (SI R a b)) none):=H7 [4,6,8,10,12,14,16,18]
def A18:SI R a b =
 (M9 (A8 4 b) (ob (D7 .lss (A8 7 a) (iI 1)) λx=>M9 x sF (ob (D7 .gtr (A8 7 a) (iI 7)) λy=>M9 y sF (ob (j6 .not (A8 4 b)) λz=>M9 z (ob (D7 .neq (A8 7 a) (iI 0)) λw=>G9 w sF (KJ R a b)) (KJ R a b) none) none) none) (ob (j6 .not (A8 4 b)) λu=>M9 u (ob (D7 .neq (A8 7 a) (iI 0)) λv=>G9 v sF (KJ R a b)) (KJ R a b) none) none):=H7 [4,6,8,10,12,14,16,18]
def A19:KJ R a b =
 (ob (R.p Nr [(.agg [(A8 8 a),(A8 9 a),(A8 10 a)])]) λx=>ob (j6 .not x) λy=>M9 y (ob (j6 .not (A8 5 b)) λz=>M9 z sF (ob (R.p Rz [(.agg [(A8 8 a),(A8 9 a),(A8 10 a)])]) λw=>ob (j6 .not w) λu=>M9 u sF (M9 (A8 7 b) (ob (R.p Nr [(.agg [(A8 8 a),(A8 9 a),(A8 10 a)])]) λv=>G9 v sF (KL R a b)) (KL R a b) none) none) none) (M9 (A8 7 b) (ob (R.p Nr [(.agg [(A8 8 a),(A8 9 a),(A8 10 a)])]) λt=>G9 t sF (KL R a b)) (KL R a b) none) none):=H7 [4,6,8,10,12,14,16,18]
def A2a:KL R a b =
 (ob (R.p Nr [(.agg [(A8 11 a),(A8 12 a),(A8 13 a)])]) λx=>ob (j6 .not x) λy=>M9 y (ob (j6 .not (A8 6 b)) λz=>M9 z sF (ob (R.p Rz [(.agg [(A8 11 a),(A8 12 a),(A8 13 a)])]) λw=>ob (j6 .not w) λu=>G9 u sF (SK R a)) none) (SK R a) none):=H7 [4,6,8,10,12,14,16,18]
def A2b:SK R a =
 (ob (N9 (A8 14 a)) λx=>QR R (A8 14 a) x (iI 0)):=H7 [4,6,8,10,12,14,16,18]
def dX:QR R a b c =
 (ob (D7 .lss c b) λx=>G9 x (ob (M4 7 a c) λy=>ob (R.p OX [(Sz y)]) λz=>ob (D7 .neq z (iI 0)) λw=>G9 w sF (ob (D7 .add c (iI 1)) λu=>QR R a b u)) sT):=K5 [4,6,8,10,12,14,16,18]
def A6c:C8.p lV [a]=A0x C8 a:=BS func78
def VV(R:O9)(x0:Nat)(x1 x2 x3:DV)(x4:Nat)(sg:List E5):Option (List DV×List E5):=eR f79 Ev Iw R [] (I1 f79 [(pt x0),(x1,.val),(x2,.val),(x3,.val),(pt x4)] sg)
def Bn(R:O9)(t0i:Nat)(t2 t3:DV)(t4i:Nat)(t11 b6:DV)(sg:List E5):Option (List DV×List E5):=hR f79 Ev Iw R (pb 26) (ms 86 [(2,t2),(3,t3),(11,t11)] [(0,(.ptr t0i 0)),(4,(.ptr t4i 0))] [(6,bx b6 16)] sg)
def Cq(R:O9)(t0i:Nat)(t2:DV)(t4i:Nat)(t39 t40 b12:DV)(sg:List E5):Option (List DV×List E5):=hR f79 Ev Iw R (pb 26938) (ms 86 [(2,t2),(39,t39),(40,t40)] [(0,(.ptr t0i 0)),(4,(.ptr t4i 0))] [(12,bx b12 3)] sg)
def mK(R:O9)(x0:Nat)(x1 x2 x3:DV)(x4:Nat)(sg:List E5):VV R x0 x1 x2 x3 x4 sg =
 (og (I5 16 x1)<|ob (N9 x3) λx=>ob (D7 .sub x (iI 1)) λy=>Bn R x0 x2 x3 x4 y x1 sg):=H7 []
def Qu(R:O9)(t0i:Nat)(t2 t3:DV)(t4i:Nat)(t11 b6:DV)(sg:List E5):Bn R t0i t2 t3 t4i t11 b6 sg =
 (ob (D7 .geq t11 (iI 0)) λy=>G9 y (ob (M4 3 t3 t11) λx=>ob (D7 .neq (A8 0 x) (A8 3 b6)) λz=>G9 z (ob (D7 .sub t11 (iI 1)) λw=>Bn R t0i t2 t3 t4i w b6 sg) (ob (N9 (A8 2 x)) λu=>ob (D7 .eql u (iI 0)) λv=>G9 v (some ([(A8 1 x)],sg)) (ob (N9 (A8 2 x)) λt=>Cq R t0i t2 t4i t (iI 0) x sg))) (og (J2 (A8 3 b6))<|oc (R.r R6 [(pt t0i),((iI 6),.val),((.agg [(A8 1 b6),(A8 2 b6),(iI 6),(iI 0),(iI 0),(A8 3 b6)]),.val)] sg) λq8 s8=>some ([(iI 0)],s8))):=K5 []
def Qv(R:O9)(t0i:Nat)(t2:DV)(t4i:Nat)(t39 t40 b12:DV)(sg:List E5):Cq R t0i t2 t4i t39 t40 b12 sg =
 (ob (D7 .lss t40 t39) λx=>G9 x (ob (H5 sg t4i) λc2=>ob (QX c2 1 1) λv3=>oc (R.r Z0 [(pt t0i),(t2,.val)] sg) λq4 s4=>MZ (s4[t4i]?=sg[t4i]?)<|og (J2 q4)<|ob (Ro s4 v3.2.1 v3.2.2 1 v3.1 (.list 1 [q4])) λp5=>ob (H5 p5.2 t4i) λc6=>ob (c6[1]?) λu7=>ob (D7 .add t40 (iI 1)) λy=>Cq R t0i t2 t4i t39 y b12 (p5.2.set t4i (E5.box (c6.set 1 (p5.1,(.U3 v3.2.1 (v3.2.2+1) 1)))))) (oc (R.r U5 [(pt t0i)] sg) λq9 s9=>ob (j6 .not q9) λz=>G9 z (some ([(iI 0)],s9)) (ob (H5 s9 t0i) λc11=>ob (X9 c11 0) λi12=>ob (H5 s9 t4i) λc13=>ob (U8 c13 1) λw=>ob (R.r Oz [(pt i12),((A8 1 b12),.val),((A8 2 b12),.val),(w,.val)] s9) λq15=>ob (Q4 0 (.J8 q15.1)) λu=>ob (Q4 1 (.J8 q15.1)) λv=>oc (R.r R6 [(pt t0i),(v,.val),((.agg (vV (JU []))),.val)] q15.2) λq18 s18=>
 some ([u],s18)))):=K5 []
def jw(x0:Nat)(x1 x2 x3:DV)(x4:Nat)(sg:List E5):C8.r Jt [(.undef,(.ptr x0 0)),(x1,.val),(x2,.val),(x3,.val),(.undef,(.ptr x4 0))] sg=VV C8 x0 x1 x2 x3 x4 sg:=BU (s:=Ev) func79
def XD(R:O9)(x0:Nat)(x1 x2 x3 x4:DV)(x5:Nat)(sg:List E5):Option (List DV×List E5):=eR f80 NP Vf R [] (I1 f80 [(pt x0),(x1,.val),(x2,.val),(x3,.val),(x4,.val),(pt x5)] sg)
def qc(R:O9)(x0:Nat)(x1 x2 x3 x4:DV)(x5:Nat)(sg:List E5):XD R x0 x1 x2 x3 x4 x5 sg =
 (og (I5 16 x1)<|oc (R.r U5 [(pt x0)] sg) λq1 s1=>ob (j6 .not q1) λz=>G9 z (some ([(iI 0)],s1)) (ob (M4 16 (A8 15 x1) x2) λw=>ob (R.r B_ [(pt x0),((X7 w),.val),(x3,.val),(x4,.val)] s1) λq4=>ob (Q4 0 (.J8 q4.1)) λu=>ob (Q4 1 (.J8 q4.1)) λy=>og (I5 4 y)<|ob (H5 q4.2 x5) λc7=>ob (v_ c7 3) λx=>ob (N9 x) λv=>ob (Jy 4 x (.list 4 [(.agg (zz7 []))])) λp10=>ob (j5 0 (p10.1.length+p10.2.length) v) λn11=>ob (LB ((q4.2.set x5 (E5.box (c7.set 3 (x,.val))))++[E5.opn 4 p10.1 p10.2]) ((q4.2.set x5 (E5.box (c7.set 3 (x,.val))))).length) λq12=>og (q12.1==4&&true)<|ob (Zd q12 n11 (.agg [(A8 0 y),(A8 1 y),(A8 2 y),(A8 3 y)])) λx13=>ob (H5 (((q4.2.set x5 (E5.box (c7.set 3 (x,.val))))++[E5.opn 4 p10.1 p10.2]).set ((q4.2.set x5 (E5.box (c7.set 3 (x,.val))))).length (x13)) x5) λc14=>ob (c14[3]?) λu15=>ob (H5 ((((q4.2.set x5 (E5.box (c7.set 3 (x,.val))))++[E5.opn 4 p10.1 p10.2]).set ((q4.2.set x5 (E5.box (c7.set 3 (x,.val))))).length (x13)).set x5 (E5.box (c14.set 3 (.undef,(.arr ((q4.2.set x5 (E5.box (c7.set 3 (x,.val))))).length 4 0 (p10.1.length+p10.2.length)))))) x5) λc16=>
 ob (vw c16 3) λa17=>ob (LB ((((q4.2.set x5 (E5.box (c7.set 3 (x,.val))))++[E5.opn 4 p10.1 p10.2]).set ((q4.2.set x5 (E5.box (c7.set 3 (x,.val))))).length (x13)).set x5 (E5.box (c14.set 3 (.undef,(.arr ((q4.2.set x5 (E5.box (c7.set 3 (x,.val))))).length 4 0 (p10.1.length+p10.2.length)))))) a17.1) λq18=>ob (Sd q18 a17.2.1 a17.2.2) λt=>some ([u],((((((q4.2.set x5 (E5.box (c7.set 3 (x,.val))))++[E5.opn 4 p10.1 p10.2]).set ((q4.2.set x5 (E5.box (c7.set 3 (x,.val))))).length (x13)).set x5 (E5.box (c14.set 3 (.undef,(.arr ((q4.2.set x5 (E5.box (c7.set 3 (x,.val))))).length 4 0 (p10.1.length+p10.2.length)))))).set x5 (E5.box (c16.set 3 (t,.own)))).set a17.1 (E5.arr 1 []))))):=H7 []
def mq(x0:Nat)(x1 x2 x3 x4:DV)(x5:Nat)(sg:List E5):C8.r O7 [(.undef,(.ptr x0 0)),(x1,.val),(x2,.val),(x3,.val),(x4,.val),(.undef,(.ptr x5 0))] sg=XD C8 x0 x1 x2 x3 x4 x5 sg:=BU (s:=NP) func80
def VU:=eR f81 Mg Ub R [] (I1 f81 [(pt i),(a,.val),(b,.val),(c,.val)] s)
def mJ:VU R i a b c s =
 (oc (R.r U5 [(pt i)] s) λq1 s1=>ob (j6 .not q1) λx=>G9 x (some ([(iI 0)],s1)) (ob (H5 s1 i) λc3=>ob (X9 c3 0) λi4=>ob (R.r Eh [(pt i4),(a,.val),(b,.val),(c,.val)] s1) λq5=>ob (Q4 0 (.J8 q5.1)) λy=>ob (Q4 1 (.J8 q5.1)) λz=>oc (R.r R6 [(pt i),(z,.val),((.agg (vV (JU []))),.val)] q5.2) λq8 s8=>some ([y],s8))):=H7 []
def jv:C8.r BK [(.undef,(.ptr i 0)),(a,.val),(b,.val),(c,.val)] s=VU C8 i a b c s:=BU (s:=Mg) func81
def T_:=eR f82 LX TG R [] (I1 f82 [(pt i),(a,.val)] s)
def jP:T_ R i a s =
 (oc (R.r U5 [(pt i)] s) λq1 s1=>ob (j6 .not q1) λx=>G9 x (some ([(iI 0)],s1)) (ob (H5 s1 i) λc3=>ob (X9 c3 0) λi4=>ob (R.r IZ [(pt i4),(a,.val)] s1) λq5=>ob (Q4 0 (.J8 q5.1)) λy=>ob (Q4 1 (.J8 q5.1)) λz=>oc (R.r R6 [(pt i),(z,.val),((.agg (vV (JU []))),.val)] q5.2) λq8 s8=>some ([y],s8))):=H7 []
def gY:C8.r Z0 [(.undef,(.ptr i 0)),(a,.val)] s=T_ C8 i a s:=BU (s:=LX) func82
def VS(R:O9)(x0:Nat)(x1 x2 x3:DV)(x4:Nat)(sg:List E5):Option (List DV×List E5):=eR f83 Mf Ua R [] (I1 f83 [(pt x0),(x1,.val),(x2,.val),(x3,.val),(pt x4)] sg)
def mH(R:O9)(x0:Nat)(x1 x2 x3:DV)(x4:Nat)(sg:List E5):VS R x0 x1 x2 x3 x4 sg =
 (og (I5 16 x1)<|oc (R.r O7 [(pt x0),((X7 x1),.val),((iI 0),.val),(x2,.val),(x3,.val),(pt x4)] sg) λq1 s1=>oc (R.r O7 [(pt x0),((X7 x1),.val),((iI 1),.val),(x2,.val),(x3,.val),(pt x4)] s1) λq2 s2=>oc (R.r Z0 [(pt x0),(x2,.val)] s2) λq3 s3=>og (J2 q3)<|ob (H5 s3 x4) λc4=>ob (c4[1]?) λu5=>ob (M4 16 (A8 15 x1) (iI 0)) λx=>oc (R.r R5 [(pt x0),(q1,.val),(q3,.val),((X7 x),.val)] (s3.set x4 (E5.box (c4.set 1 ((.list 1 [q3]),.full))))) λq7 s7=>oc (R.r BK [(pt x0),((iI 8),.val),(q3,.val),((iI 0),.val)] s7) λq8 s8=>ob (M4 16 (A8 15 x1) (iI 1)) λy=>oc (R.r R5 [(pt x0),(q2,.val),(q8,.val),((X7 y),.val)] s8) λq10 s10=>some ([q8],s10)):=H7 []
def jq(x0:Nat)(x1 x2 x3:DV)(x4:Nat)(sg:List E5):C8.r Jr [(.undef,(.ptr x0 0)),(x1,.val),(x2,.val),(x3,.val),(.undef,(.ptr x4 0))] sg=VS C8 x0 x1 x2 x3 x4 sg:=BU (s:=Mf) func83
def UC(R:O9)(x0:Nat)(x1 x2:DV)(x3:Nat)(sg:List E5):Option (List DV×List E5):=eR f84 LY TH R [] (I1 f84 [(pt x0),(x1,.val),(x2,.val),(pt x3)] sg)
def jS(R:O9)(x0:Nat)(x1 x2:DV)(x3:Nat)(sg:List E5):UC R x0 x1 x2 x3 sg =
 (og (I5 3 x1)<|ob (D7 .neq (A8 0 x1) (iI 0)) λx=>G9 x (oc (R.r HZ [(pt x0),((BI x1),.val)] sg) λq2 s2=>some ([q2],s2)) (oc (R.r Z0 [(pt x0),(x2,.val)] sg) λq3 s3=>ob (H5 s3 x3) λc4=>ob (QX c4 1 1) λv5=>og (J2 q3)<|ob (Ro s3 v5.2.1 v5.2.2 1 v5.1 (.list 1 [q3])) λp6=>ob (H5 p6.2 x3) λc7=>ob (c7[1]?) λu8=>some ([q3],(p6.2.set x3 (E5.box (c7.set 1 (p6.1,(.U3 v5.2.1 (v5.2.2+1) 1)))))))):=H7 []
def gq(x0:Nat)(x1 x2:DV)(x3:Nat)(sg:List E5):C8.r FK [(.undef,(.ptr x0 0)),(x1,.val),(x2,.val),(.undef,(.ptr x3 0))] sg=UC C8 x0 x1 x2 x3 sg:=BU (s:=LY) func84
def rX:=eR f85 WY qG R [] (I1 f85 [(a,.val),(b,.val)] s)
def A35:rX R a b s =
 (ob (N9 a) λx=>ob (N9 a) λy=>ob (ZX 3 a none x y) λz=>ob (Di 3 z b) λw=>some ([w],s)):=H7 []
def A2f:C8.r DT [(a,.val),(b,.val)] s=rX C8 a b s:=BU (s:=WY) func85
def XC(R:O9)(x0:Nat)(x1 x2 x3:DV)(x4:Nat)(sg:List E5):Option (List DV×List E5):=eR f86 NN Ve R [] (I1 f86 [(pt x0),(x1,.val),(x2,.val),(x3,.val),(pt x4)] sg)
def qb(R:O9)(x0:Nat)(x1 x2 x3:DV)(x4:Nat)(sg:List E5):XC R x0 x1 x2 x3 x4 sg =
 (og (I5 16 x1)<|oc (R.r O7 [(pt x0),((X7 x1),.val),((iI 0),.val),(x2,.val),(x3,.val),(pt x4)] sg) λq1 s1=>oc (R.r O7 [(pt x0),((X7 x1),.val),((iI 1),.val),(x2,.val),(x3,.val),(pt x4)] s1) λq2 s2=>oc (R.r U5 [(pt x0)] s2) λq3 s3=>ob (j6 .not q3) λw=>G9 w (some ([(iI 0)],s3)) (ob (H5 s3 x0) λc5=>ob (X9 c5 0) λi6=>oc (R.r Y4 [(pt i6),(q1,.val)] s3) λq7 s7=>ob (D7 .eql q7 (iI 5)) λu=>G9 u (ob (M4 16 (A8 15 x1) (iI 1)) λv=>oc (R.r R5 [(pt x0),(q2,.val),((iI 4),.val),((X7 v),.val)] s7) λq10 s10=>some ([(iI 4)],s10)) (ob (D7 .eql q7 (iI 6)) λt=>G9 t (oc (R.r Z0 [(pt x0),(x2,.val)] s7) λq12 s12=>oc (R.r Z0 [(pt x0),(x2,.val)] s12) λq13 s13=>oc (R.r BK [(pt x0),((iI 9),.val),(q12,.val),(q13,.val)] s13) λq14 s14=>
 ob (M4 16 (A8 15 x1) (iI 0)) λs=>oc (R.r R5 [(pt x0),(q1,.val),(q14,.val),((X7 s),.val)] s14) λq16 s16=>ob (M4 16 (A8 15 x1) (iI 1)) λq=>oc (R.r R5 [(pt x0),(q2,.val),(q12,.val),((X7 q),.val)] s16) λq18 s18=>some ([q13],s18)) (ob (D7 .eql q7 (iI 9)) λp=>G9 p (ob (H5 s7 x0) λc20=>ob (X9 c20 0) λi21=>oc (R.r DU [(pt i21),(q1,.val)] s7) λq22 s22=>ob (M4 1 q22 (iI 0)) λx=>og (N8 x)<|ob (M4 16 (A8 15 x1) (iI 1)) λo=>oc (R.r R5 [(pt x0),(q2,.val),(x,.val),((X7 o),.val)] s22) λq25 s25=>ob (M4 1 q22 (iI 1)) λy=>og (N8 y)<|some ([y],s25)) (ob (M4 16 (A8 15 x1) (iI 0)) λz=>og (J2 q7)<|oc (R.r R6 [(pt x0),((iI 4),.val),((.agg [(A8 1 z),(A8 2 z),(iI 4),q7,(iI 9),(.str ⟨#[]⟩)]),.val)] s7) λq28 s28=>
 some ([(iI 0)],s28)))))):=H7 []
def mo(x0:Nat)(x1 x2 x3:DV)(x4:Nat)(sg:List E5):C8.r KR [(.undef,(.ptr x0 0)),(x1,.val),(x2,.val),(x3,.val),(.undef,(.ptr x4 0))] sg=XC C8 x0 x1 x2 x3 x4 sg:=BU (s:=NN) func86
def XE(R:O9)(x0:Nat)(x1 x2 x3:DV)(x4:Nat)(sg:List E5):Option (List DV×List E5):=eR f87 JE OH R [] (I1 f87 [(pt x0),(x1,.val),(x2,.val),(x3,.val),(pt x4)] sg)
def DF(R:O9)(t0i:Nat)(t2 t3:DV)(t4i:Nat)(b6 b11_0 b11_1 b11_2:DV)(sg:List E5):Option (List DV×List E5):=eR f87 JE OH R (pb 15) (ms 84 [(2,t2),(3,t3)] [(0,(.ptr t0i 0)),(4,(.ptr t4i 0))] [(6,bx b6 16),(11,bv [b11_0,b11_1,b11_2])] sg)
def qd(R:O9)(x0:Nat)(x1 x2 x3:DV)(x4:Nat)(sg:List E5):XE R x0 x1 x2 x3 x4 sg =
 (og (I5 16 x1)<|og (J2 (A8 3 x1))<|ob (D7 .neq (A8 8 x1) (iI 0)) λx=>G9 x (oc (R.r O7 [(pt x0),((X7 x1),.val),((iI 0),.val),(x2,.val),(x3,.val),(pt x4)] sg) λq2 s2=>oc (R.r HZ [(pt x0),((.agg [(A8 8 x1),(A8 9 x1),(A8 10 x1)]),.val)] s2) λq3 s3=>og (J2 q3)<|ob (M4 16 (A8 15 x1) (iI 0)) λy=>oc (R.r R5 [(pt x0),(q2,.val),(q3,.val),((X7 y),.val)] s3) λq5 s5=>DF R x0 x2 x3 x4 x1 (A8 3 x1) q3 (.list 1 []) s5) (ob (M4 16 (A8 15 x1) (iI 0)) λz=>ob (R.p Zj [(X7 z)]) λw=>G9 w (ob (D7 .add x2 (iI 1)) λu=>oc (R.r O7 [(pt x0),((X7 x1),.val),((iI 0),.val),(u,.val),(x3,.val),(pt x4)] sg) λq9 s9=>og (J2 q9)<|oc (R.r U5 [(pt x0)] s9) λq10 s10=>G9 q10 (oc (R.r Ih [(pt x0),(q9,.val),(x2,.val)] s10) λq11 s11=>
 og (J2 q11)<|ob (H5 s11 x4) λc12=>og (J2 q11)<|ob (c12[2]?) λu13=>DF R x0 x2 x3 x4 x1 (A8 3 x1) q9 q11 (s11.set x4 (E5.box (c12.set 2 (q11,.val))))) (DF R x0 x2 x3 x4 x1 (A8 3 x1) q9 (.list 1 []) s10)) (oc (R.r O7 [(pt x0),((X7 x1),.val),((iI 0),.val),(x2,.val),(x3,.val),(pt x4)] sg) λq14 s14=>og (J2 q14)<|DF R x0 x2 x3 x4 x1 (A8 3 x1) q14 (.list 1 []) s14))):=H7 [12]
def gN(R:O9)(t0i:Nat)(t2 t3:DV)(t4i:Nat)(b6 b11_0 b11_1 b11_2:DV)(sg:List E5):DF R t0i t2 t3 t4i b6 b11_0 b11_1 b11_2 sg =
 (oc (R.r DT [(t3,.val),((.list 3 [(.agg [b11_0,b11_1,b11_2])]),.val)] sg) λq1 s1=>oc (R.r O7 [(pt t0i),((X7 b6),.val),((iI 1),.val),(t2,.val),(q1,.val),(pt t4i)] s1) λq2 s2=>some ([q2],s2)):=H7 [12]
def mr(x0:Nat)(x1 x2 x3:DV)(x4:Nat)(sg:List E5):C8.r KS [(.undef,(.ptr x0 0)),(x1,.val),(x2,.val),(x3,.val),(.undef,(.ptr x4 0))] sg=XE C8 x0 x1 x2 x3 x4 sg:=BU (s:=JE) func87
end
end Go.Su

/-
 Equations of the program's functions: by program.
-/
namespace Go.Su
set_option linter.defProp false
set_option maxRecDepth 100000
noncomputable section
open Go.Proofs
open Tryz
variable (R: O9)(i j k l m n: Nat)(a b c d e f o p q r t u v w x y z: DV)(s: List E5)
def XH(R:O9)(x0:Nat)(x1 x2 x3:DV)(x4:Nat)(sg:List E5):Option (List DV×List E5):=eR f88 JF OI R [] (I1 f88 [(pt x0),(x1,.val),(x2,.val),(x3,.val),(pt x4)] sg)
def Ip(R:O9)(t0i:Nat)(t2 t3:DV)(t4i:Nat)(b6 b13_0 b13_1 b13_2:DV)(sg:List E5):Option (List DV×List E5):=eR f88 JF OI R (pb 255) (ms 80 [(2,t2),(3,t3)] [(0,(.ptr t0i 0)),(4,(.ptr t4i 0))] [(6,bx b6 16),(13,bv [b13_0,b13_1,b13_2])] sg)
def qg(R:O9)(x0:Nat)(x1 x2 x3:DV)(x4:Nat)(sg:List E5):XH R x0 x1 x2 x3 x4 sg =
 (og (I5 16 x1)<|ob (D7 .add x2 (iI 1)) λx=>oc (R.r FK [(pt x0),((.agg [(A8 8 x1),(A8 9 x1),(A8 10 x1)]),.val),(x,.val),(pt x4)] sg) λq2 s2=>ob (D7 .add x2 (iI 1)) λy=>oc (R.r FK [(pt x0),((.agg [(A8 11 x1),(A8 12 x1),(A8 13 x1)]),.val),(y,.val),(pt x4)] s2) λq4 s4=>oc (R.r BK [(pt x0),((iI 9),.val),(q2,.val),(q4,.val)] s4) λq5 s5=>og (J2 (A8 3 x1))<|og (J2 q5)<|ob (D7 .add x2 (iI 1)) λz=>og (J2 (A8 4 x1))<|og (J2 q2)<|oc (R.r DT [(x3,.val),((.list 3 [(.agg [(A8 3 x1),q5,(.list 1 [])]),(.agg [(A8 4 x1),q2,(.list 1 [])])]),.val)] s5) λq7 s7=>oc (R.r O7 [(pt x0),((X7 x1),.val),((iI 0),.val),(z,.val),(q7,.val),(pt x4)] s7) λq8 s8=>ob (M4 16 (A8 15 x1) (iI 0)) λw=>oc (R.r R5 [(pt x0),(q8,.val),(q4,.val),((X7 w),.val)] s8) λq10 s10=>
 oc (R.r U5 [(pt x0)] s10) λq11 s11=>G9 q11 (oc (R.r Ih [(pt x0),(q5,.val),(x2,.val)] s11) λq12 s12=>og (J2 q12)<|ob (H5 s12 x4) λc13=>og (J2 q12)<|ob (c13[2]?) λu14=>Ip R x0 x2 x3 x4 x1 (A8 3 x1) q5 q12 (s12.set x4 (E5.box (c13.set 2 (q12,.val))))) (Ip R x0 x2 x3 x4 x1 (A8 3 x1) q5 (.list 1 []) s11)):=H7 [9]
def jT(R:O9)(t0i:Nat)(t2 t3:DV)(t4i:Nat)(b6 b13_0 b13_1 b13_2:DV)(sg:List E5):Ip R t0i t2 t3 t4i b6 b13_0 b13_1 b13_2 sg =
 (oc (R.r DT [(t3,.val),((.list 3 [(.agg [b13_0,b13_1,b13_2])]),.val)] sg) λq1 s1=>oc (R.r O7 [(pt t0i),((X7 b6),.val),((iI 1),.val),(t2,.val),(q1,.val),(pt t4i)] s1) λq2 s2=>some ([q2],s2)):=H7 [9]
def nA(x0:Nat)(x1 x2 x3:DV)(x4:Nat)(sg:List E5):C8.r KT [(.undef,(.ptr x0 0)),(x1,.val),(x2,.val),(x3,.val),(.undef,(.ptr x4 0))] sg=XH C8 x0 x1 x2 x3 x4 sg:=BU (s:=JF) func88
def VR(R:O9)(x0:Nat)(x1 x2 x3:DV)(x4:Nat)(sg:List E5):Option (List DV×List E5):=eR f89 Me UZ R [] (I1 f89 [(pt x0),(x1,.val),(x2,.val),(x3,.val),(pt x4)] sg)
def mG(R:O9)(x0:Nat)(x1 x2 x3:DV)(x4:Nat)(sg:List E5):VR R x0 x1 x2 x3 x4 sg =
 (og (I5 16 x1)<|oc (R.r O7 [(pt x0),((X7 x1),.val),((iI 0),.val),(x2,.val),(x3,.val),(pt x4)] sg) λq1 s1=>ob (M4 16 (A8 15 x1) (iI 0)) λx=>oc (R.r R5 [(pt x0),(q1,.val),((iI 1),.val),((X7 x),.val)] s1) λq3 s3=>oc (R.r O7 [(pt x0),((X7 x1),.val),((iI 1),.val),(x2,.val),(x3,.val),(pt x4)] s3) λq4 s4=>oc (R.r O7 [(pt x0),((X7 x1),.val),((iI 2),.val),(x2,.val),(x3,.val),(pt x4)] s4) λq5 s5=>oc (R.r Z0 [(pt x0),(x2,.val)] s5) λq6 s6=>og (J2 q6)<|ob (H5 s6 x4) λc7=>ob (c7[1]?) λu8=>ob (M4 16 (A8 15 x1) (iI 1)) λy=>oc (R.r R5 [(pt x0),(q4,.val),(q6,.val),((X7 y),.val)] (s6.set x4 (E5.box (c7.set 1 ((.list 1 [q6]),.full))))) λq10 s10=>ob (M4 16 (A8 15 x1) (iI 2)) λz=>oc (R.r R5 [(pt x0),(q5,.val),(q6,.val),((X7 z),.val)] s10) λq12 s12=>
 some ([q6],s12)):=H7 []
def jo(x0:Nat)(x1 x2 x3:DV)(x4:Nat)(sg:List E5):C8.r Jq [(.undef,(.ptr x0 0)),(x1,.val),(x2,.val),(x3,.val),(.undef,(.ptr x4 0))] sg=VR C8 x0 x1 x2 x3 x4 sg:=BU (s:=Me) func89
def UA(R:O9)(x0:Nat)(x1 x2 x3:DV)(x4:Nat)(sg:List E5):Option (List DV×List E5):=eR f90 ES IJ R [] (I1 f90 [(pt x0),(x1,.val),(x2,.val),(x3,.val),(pt x4)] sg)
def Dn(R:O9)(t0i:Nat)(t2 t3:DV)(t4i:Nat)(t12 t13 t51 t52 t53 b6:DV)(sg:List E5):Option (List DV×List E5):=hR f90 ES IJ R (pb 1018) (ms 117 [(2,t2),(3,t3),(12,t12),(13,t13),(51,t51),(52,t52),(53,t53)] [(0,(.ptr t0i 0)),(4,(.ptr t4i 0))] [(6,bx b6 16)] sg)
def CF(R:O9)(t0i:Nat)(t2 t3:DV)(t4i:Nat)(t12 t13 t14 t17 t20 t51 t52 t53 t80 t81 t82 b6:DV)(sg:List E5):Option (List DV×List E5):=hR f90 ES IJ R (pb 8342778) (ms 117 [(2,t2),(3,t3),(12,t12),(13,t13),(14,t14),(17,t17),(20,t20),(51,t51),(52,t52),(53,t53),(80,t80),(81,t81),(82,t82)] [(0,(.ptr t0i 0)),(4,(.ptr t4i 0)),(20,.own)] [(6,bx b6 16)] sg)
def jQ(R:O9)(x0:Nat)(x1 x2 x3:DV)(x4:Nat)(sg:List E5):UA R x0 x1 x2 x3 x4 sg =
 (og (I5 16 x1)<|oc (R.r O7 [(pt x0),((X7 x1),.val),((iI 0),.val),(x2,.val),(x3,.val),(pt x4)] sg) λq1 s1=>oc (R.r Z0 [(pt x0),(x2,.val)] s1) λq2 s2=>ob (M4 16 (A8 15 x1) (iI 0)) λx=>oc (R.r R5 [(pt x0),(q1,.val),(q2,.val),((X7 x),.val)] s2) λq4 s4=>oc (R.r Z0 [(pt x0),(x2,.val)] s4) λq5 s5=>og (J2 q2)<|og (J2 q5)<|ob (H5 s5 x4) λc6=>ob (c6[1]?) λu7=>ob (N9 (A8 14 x1)) λy=>Dn R x0 x2 x3 x4 q2 q5 (A8 14 x1) y (iI 0) x1 (s5.set x4 (E5.box (c6.set 1 ((.list 1 [q2,q5]),.full))))):=H7 []
def PT(R:O9)(t0i:Nat)(t2 t3:DV)(t4i:Nat)(t12 t13 t51 t52 t53 b6:DV)(sg:List E5):Dn R t0i t2 t3 t4i t12 t13 t51 t52 t53 b6 sg =
 (ob (D7 .lss t53 t52) λz=>G9 z (ob (M4 7 t51 t53) λw=>oc (R.r U5 [(pt t0i)] sg) λq3 s3=>ob (j6 .not q3) λu=>G9 u (some ([(iI 0)],s3)) (ob (H5 s3 t0i) λc5=>ob (X9 c5 0) λi6=>ob (R.r fV [(pt i6),((Sz w),.val),(t12,.val),(t2,.val)] s3) λq7=>ob (Q4 0 (.J8 q7.1)) λy=>ob (Q4 1 (.J8 q7.1)) λv=>ob (Q4 2 (.J8 q7.1)) λx=>ob (Q4 3 (.J8 q7.1)) λt=>og (I5 6 x)<|oc (R.r R6 [(pt t0i),(t,.val),((.agg [(A8 0 x),(A8 1 x),(A8 2 x),(A8 3 x),(A8 4 x),(A8 5 x)]),.val)] q7.2) λq12 s12=>oc (R.r DT [(t3,.val),((.list 3 []),.val)] s12) λq13 s13=>ob (N9 y) λs=>CF R t0i t2 t3 t4i t12 t13 t53 v q13 t51 t52 t53 y s (iI 0) b6 s13)) (some ([t13],sg))):=K5 []
def Ir(R:O9)(t0i:Nat)(t2 t3:DV)(t4i:Nat)(t12 t13 t14 t17 t20 t51 t52 t53 t80 t81 t82 b6:DV)(sg:List E5):CF R t0i t2 t3 t4i t12 t13 t14 t17 t20 t51 t52 t53 t80 t81 t82 b6 sg =
 (ob (D7 .lss t82 t81) λz=>G9 z (ob (M4 1 t80 t82) λx=>og (N8 x)<|ob (M4 1 t17 t82) λy=>og (N8 y)<|og (J2 x)<|og (J2 y)<|ob (Di 3 t20 (.list 3 [(.agg [x,y,(.list 1 [])])])) λw=>ob (D7 .add t82 (iI 1)) λu=>CF R t0i t2 t3 t4i t12 t13 t14 t17 w t51 t52 t53 t80 t81 u b6 sg) (ob (D7 .add t14 (iI 1)) λv=>oc (R.r O7 [(pt t0i),((X7 b6),.val),(v,.val),(t2,.val),(t20,.val),(pt t4i)] sg) λq7 s7=>ob (D7 .add t14 (iI 1)) λt=>ob (M4 16 (A8 15 b6) t) λs=>oc (R.r R5 [(pt t0i),(q7,.val),(t13,.val),((X7 s),.val)] s7) λq10 s10=>ob (D7 .add t53 (iI 1)) λq=>Dn R t0i t2 t3 t4i t12 t13 t51 t52 q b6 s10)):=K5 []
def gZ(x0:Nat)(x1 x2 x3:DV)(x4:Nat)(sg:List E5):C8.r Ii [(.undef,(.ptr x0 0)),(x1,.val),(x2,.val),(x3,.val),(.undef,(.ptr x4 0))] sg=UA C8 x0 x1 x2 x3 x4 sg:=BU (s:=ES) func90
def XG:=eR f91 NQ Vg R [] (I1 f91 [(pt i),(a,.val)] s)
def qf:XG R i a s =
 (og (I5 3 a)<|oc (R.r U5 [(pt i)] s) λq1 s1=>ob (j6 .not q1) λx=>G9 x (some ([(iI 0)],s1)) (ob (H5 s1 i) λc3=>ob (X9 c3 0) λi4=>ob (R.r RG [(pt i4),((BI a),.val)] s1) λq5=>ob (Q4 0 (.J8 q5.1)) λy=>ob (Q4 1 (.J8 q5.1)) λz=>oc (R.r R6 [(pt i),(z,.val),((.agg (vV (JU []))),.val)] q5.2) λq8 s8=>some ([y],s8))):=H7 []
def m_:C8.r HZ [(.undef,(.ptr i 0)),(a,.val)] s=XG C8 i a s:=BU (s:=NQ) func91
def Tx:=eR f92 LV TE R [] (I1 f92 [(pt i),(a,.val),(b,.val),(c,.val)] s)
def jN:Tx R i a b c s =
 (og (I5 16 c)<|oc (R.r U5 [(pt i)] s) λq1 s1=>G9 q1 (ob (H5 s1 i) λc2=>ob (X9 c2 0) λi3=>ob (R.r Ry [(pt i3),(a,.val),(b,.val)] s1) λq4=>ob (Q4 0 (.J8 q4.1)) λy=>ob (Q4 1 (.J8 q4.1)) λz=>ob (Q4 2 (.J8 q4.1)) λx=>og (J2 x)<|og (J2 y)<|og (J2 z)<|oc (R.r R6 [(pt i),(x,.val),((.agg [(A8 1 c),(A8 2 c),x,y,z,(.str ⟨#[]⟩)]),.val)] q4.2) λq8 s8=>some ([],s8)) (some ([],s1))):=H7 []
def gW:C8.r R5 [(.undef,(.ptr i 0)),(a,.val),(b,.val),(c,.val)] s=Tx C8 i a b c s:=BU (s:=LV) func92
def YS(R:O9)(x0:Nat)(x1 x2 x3:DV)(x4:Nat)(sg:List E5):Option (List DV×List E5):=eR f93 GU Kn R [] (I1 f93 [(pt x0),(x1,.val),(x2,.val),(x3,.val),(pt x4)] sg)
def GM(R:O9)(t0i:Nat)(t2 t3:DV)(t4i:Nat)(t11 t12 b6:DV)(sg:List E5):Option (List DV×List E5):=eR f93 GU Kn R (pb 15) (ms 43 [(2,t2),(3,t3),(11,t11),(12,t12)] [(0,(.ptr t0i 0)),(4,(.ptr t4i 0))] [(6,bx b6 16)] sg)
def Io(R:O9)(t0i:Nat)(t2 t3:DV)(t4i:Nat)(t11 t12 t23 t24 t25 b6:DV)(sg:List E5):Option (List DV×List E5):=hR f93 GU Kn R (pb 122) (ms 43 [(2,t2),(3,t3),(11,t11),(12,t12),(23,t23),(24,t24),(25,t25)] [(0,(.ptr t0i 0)),(4,(.ptr t4i 0))] [(6,bx b6 16)] sg)
def tC(R:O9)(x0:Nat)(x1 x2 x3:DV)(x4:Nat)(sg:List E5):YS R x0 x1 x2 x3 x4 sg =
 (og (I5 16 x1)<|ob (D7 .eql (A8 7 x1) (iI 5)) λx=>G9 x (GM R x0 x2 x3 x4 (iI 0) (iI 1) x1 sg) (ob (D7 .eql (A8 7 x1) (iI 6)) λy=>G9 y (GM R x0 x2 x3 x4 (iI 0) (iI 1) x1 sg) (ob (D7 .eql (A8 7 x1) (iI 7)) λz=>G9 z (GM R x0 x2 x3 x4 (iI 2) (iI 1) x1 sg) (GM R x0 x2 x3 x4 (iI 0) (iI 0) x1 sg)))):=H7 [8]
def mM(R:O9)(t0i:Nat)(t2 t3:DV)(t4i:Nat)(t11 t12 b6:DV)(sg:List E5):GM R t0i t2 t3 t4i t11 t12 b6 sg =
 (ob (N9 (A8 15 b6)) λx=>Io R t0i t2 t3 t4i t11 t12 (A8 15 b6) x (iI 0) b6 sg):=H7 [8]
def TB(R:O9)(t0i:Nat)(t2 t3:DV)(t4i:Nat)(t11 t12 t23 t24 t25 b6:DV)(sg:List E5):Io R t0i t2 t3 t4i t11 t12 t23 t24 t25 b6 sg =
 (ob (D7 .lss t25 t24) λx=>G9 x (ob (M4 16 t23 t25) λy=>oc (R.r O7 [(pt t0i),((X7 b6),.val),(t25,.val),(t2,.val),(t3,.val),(pt t4i)] sg) λq3 s3=>oc (R.r R5 [(pt t0i),(q3,.val),(t11,.val),((X7 y),.val)] s3) λq4 s4=>ob (D7 .add t25 (iI 1)) λz=>Io R t0i t2 t3 t4i t11 t12 t23 t24 z b6 s4) (some ([t12],sg))):=K5 [8]
def rH(x0:Nat)(x1 x2 x3:DV)(x4:Nat)(sg:List E5):C8.r Ld [(.undef,(.ptr x0 0)),(x1,.val),(x2,.val),(x3,.val),(.undef,(.ptr x4 0))] sg=YS C8 x0 x1 x2 x3 x4 sg:=BU (s:=GU) func93
def XM:=eR f94 NW Vk R [] (I1 f94 [(pt i),(a,.val)] s)
def rA:XM R i a s =
 (oc (R.r Y2 [(pt i),(a,.val)] s) λq1 s1=>ob (j6 .not q1) λz=>G9 z (some ([(.agg (Ig [])),(iI 1)],s1)) (ob (H5 s1 i) λc3=>ob (U8 c3 1) λw=>ob (H5 s1 i) λc5=>ob (U8 c5 2) λu=>ob (D7 .sub w u) λx=>og (J2 x)<|oc (R.r Il [(.undef,(.ptr (((s1++[E5.map false []])++[E5.map false []])).length 0)),(a,.val)] (((s1++[E5.map false []])++[E5.map false []])++[E5.box [(pt i),(x,.val),(.undef,(F4.map s1.length)),(.undef,(F4.map ((s1++[E5.map false []])).length))]])) λq8 s8=>ob (H5 s8 (((s1++[E5.map false []])++[E5.map false []])).length) λc9=>ob (U8 c9 1) λv=>ob (D7 .gtr q8 v) λt=>G9 t (some ([(.agg (Ig [])),(iI 7)],s8)) (ob (H5 s8 i) λc12=>ob (U8 c12 2) λq=>ob (D7 .add q q8) λy=>ob (H5 s8 i) λc15=>og (J2 y)<|ob (c15[2]?) λu16=>oc (R.r GK [(.undef,(.ptr (((s1++[E5.map false []])++[E5.map false []])).length 0)),(a,.val)] (s8.set i (E5.box (c15.set 2 (y,.val))))) λq17 s17=>
 og (I5 3 q17)<|some ([(.agg [(A8 0 q17),(A8 1 q17),(A8 2 q17)]),(iI 0)],s17)))):=H7 []
def nI:C8.r Ha [(.undef,(.ptr i 0)),(a,.val)] s=XM C8 i a s:=BU (s:=NW) func94
def Tz:=eR f95 LW TF R [] (I1 f95 [(pt i),(a,.val),(b,.val)] s)
def jO:Tz R i a b s =
 (og (I5 6 b)<|oc (R.r U5 [(pt i)] s) λq1 s1=>M9 q1 (ob (D7 .neq a (iI 0)) λx=>G9 x (ob (H5 s1 i) λc3=>og (J2 a)<|ob (c3[7]?) λu4=>ob (D7 .neq a (iI 7)) λy=>G9 y (ob (H5 (s1.set i (E5.box (c3.set 7 (a,.val)))) i) λc6=>if 1+6<=c6.length then(some ([],((s1.set i (E5.box (c3.set 7 (a,.val)))).set i (E5.box (FF c6 1 [((A8 0 b),.val),((A8 1 b),.val),((A8 2 b),.val),((A8 3 b),.val),((A8 4 b),.val),((A8 5 b),.val)])))))else none) (some ([],(s1.set i (E5.box (c3.set 7 (a,.val))))))) (some ([],s1))) (some ([],s1)) none):=H7 []
def gX:C8.r R6 [(.undef,(.ptr i 0)),(a,.val),(b,.val)] s=Tz C8 i a b s:=BU (s:=LW) func95
def A0z(R:O9)(x0:DV)(x1:Nat)(x2:DV)(sg:List E5):Option (List DV×List E5):=eR f96 QD Ww R [] (I1 f96 [(x0,.val),(.undef,(F4.map x1)),(x2,.own)] sg)
def PK:=eR f96 QD Ww R (pb 7) (ms 40 [(2,a)] [(1,(F4.map i)),(2,.own)] [(3,bx b 3)] s)
def SL:=hR f96 QD Ww R (pb 58) (ms 40 [(2,a),(28,b),(29,c),(30,d)] [(1,(F4.map i)),(2,.own)] [] s)
def gT(R:O9)(x0:DV)(x1:Nat)(x2:DV)(sg:List E5):A0z R x0 x1 x2 sg =
 (og (I5 3 x0)<|ob (D7 .eql (A8 0 x0) (iI 6)) λx=>G9 x (og (j4 false (A8 1 x0)&&true)<|ob (R9 sg x1) λm2=>og (m2.1==false)<|ob (D7 .eql ((Y0 m2.2 (A8 1 x0)).getD (iI 0)) (iI 0)) λy=>G9 y (og (J2 (A8 1 x0))<|ob (Di 1 x2 (.list 1 [(A8 1 x0)])) λz=>og (j4 false (A8 1 x0)&&true)<|ob (R9 sg x1) λm5=>og (m5.1==false)<|ob (D7 .add ((Y0 m5.2 (A8 1 x0)).getD (iI 0)) (iI 1)) λw=>og (j4 false (A8 1 x0)&&true&&true)<|ob (R9 sg x1) λm7=>og (m7.1==false)<|PK R x1 z x0 (sg.set x1 (E5.map false (Bz m7.2 (A8 1 x0) w)))) (og (j4 false (A8 1 x0)&&true)<|ob (R9 sg x1) λm8=>og (m8.1==false)<|ob (D7 .add ((Y0 m8.2 (A8 1 x0)).getD (iI 0)) (iI 1)) λu=>og (j4 false (A8 1 x0)&&true&&true)<|ob (R9 sg x1) λm10=>og (m10.1==false)<|PK R x1 x2 x0 (sg.set x1 (E5.map false (Bz m10.2 (A8 1 x0) u))))) (PK R x1 x2 x0 sg)):=H7 [5]
def A4h:PK R i a b s =
 (ob (N9 (A8 2 b)) λx=>SL R i a (A8 2 b) x (iI 0) s):=H7 [5]
def ji:SL R i a b c d s =
 (ob (D7 .lss d c) λx=>G9 x (ob (M4 3 b d) λy=>oc (R.r Yt [((BI y),.val),(.undef,(F4.map i)),(a,.own)] s) λq3 s3=>ob (D7 .add d (iI 1)) λz=>SL R i q3 b c z s3) (some ([a],s))):=K5 [5]
def aH(x0:DV)(x1:Nat)(x2:DV)(sg:List E5):C8.r Yt [(x0,.val),(.undef,(F4.map x1)),(x2,.own)] sg=A0z C8 x0 x1 x2 sg:=BU (s:=QD) func96
def A5a:=eP f115 uC R [] (I1 f115 [(a,.val),(b,.val)] [])
def Ws:=hP f115 uC R (pb 26) (ms 18 [(0,a),(1,b),(5,c)] [] [] [])
def B2t:A5a R a b =
 (Ws R a b (iI 0)):=H7 []
def tL:Ws R a b c =
 (ob (N9 a) λy=>ob (D7 .lss c y) λz=>G9 z (ob (M4 1 a c) λx=>og (N8 x)<|ob (D7 .eql x b) λw=>G9 w sT (ob (D7 .add c (iI 1)) λu=>Ws R a b u)) sF):=K5 []
def B0G:C8.p yn [a,b]=A5a C8 a b:=BS func115
def A0q:=eP f116 iB R [] (I1 f116 [(a,.val),(b,.val)] [])
def SE:=hP f116 iB R (pb 58) (ms 46 [(5,a)] [] [(2,bx b 3),(3,bx c 3)] [])
def A8i:A0q R a b =
 (og (I5 3 a)<|og (I5 3 b)<|ob (D7 .neq (A8 0 a) (A8 0 b)) λx=>M9 x sF (ob (D7 .neq (A8 1 a) (A8 1 b)) λy=>M9 y sF (ob (N9 (A8 2 a)) λz=>ob (N9 (A8 2 b)) λw=>ob (D7 .neq z w) λu=>G9 u sF (SE R (iI 0) a b)) none) none):=H7 []
def jV:SE R a b c =
 (ob (N9 (A8 2 b)) λx=>ob (D7 .lss a x) λy=>G9 y (ob (M4 3 (A8 2 b) a) λz=>ob (M4 3 (A8 2 c) a) λw=>ob (R.p Te [(BI z),(BI w)]) λu=>ob (j6 .not u) λv=>G9 v sF (ob (D7 .add a (iI 1)) λt=>SE R t b c)) sT):=K5 []
def A55:C8.p Te [a,b]=A0q C8 a b:=BS func116
def rZ:=eP f118 YF R [] (I1 f118 [(a,.val)] [])
def UG:=eP f118 YF R (pb 503806) (ms 85 [] [] [(1,bx a 16),(2,bv ((iI 0)::(JU (bZ [])))),(4,bv (b::(JU (bZ []))))] [])
def A37:rZ R a =
 (og (I5 16 a)<|og (J2 (A8 0 a))<|ob (D7 .eql (A8 0 a) (iI 1)) λx=>G9 x (og (J2 (A8 3 a))<|some (.J8 [(.agg ((A8 0 a)::(iI 0)::(iI 0)::(A8 3 a)::(bZ []))),(iI 0)])) (ob (D7 .eql (A8 0 a) (iI 2)) λy=>G9 y (og (J2 (A8 5 a))<|some (.J8 [(.agg ((A8 0 a)::(JU ((.str ⟨#[]⟩)::(A8 5 a)::(.str ⟨#[]⟩)::(iI 0)::(Ig (Ig [(.list 7 []),(.list 16 [])])))))),(iI 0)])) (ob (D7 .eql (A8 0 a) (iI 3)) λz=>G9 z (og (J2 (A8 5 a))<|some (.J8 [(.agg ((A8 0 a)::(JU ((.str ⟨#[]⟩)::(A8 5 a)::(.str ⟨#[]⟩)::(iI 0)::(Ig (Ig [(.list 7 []),(.list 16 [])])))))),(iI 0)])) (ob (D7 .eql (A8 0 a) (iI 4)) λw=>G9 w (og (J2 (A8 6 a))<|some (.J8 [(.agg ((A8 0 a)::(JU ((.str ⟨#[]⟩)::(iI 0)::(A8 6 a)::(iI 0)::(Ig (Ig [(.list 7 []),(.list 16 [])])))))),(iI 0)])) (ob (D7 .eql (A8 0 a) (iI 5)) λu=>
 G9 u (some (.J8 [(.agg ((A8 0 a)::(JU (bZ [])))),(iI 0)])) (ob (D7 .eql (A8 0 a) (iI 7)) λv=>G9 v (some (.J8 [(.agg ((A8 0 a)::(JU (bZ [])))),(iI 0)])) (ob (D7 .eql (A8 0 a) (iI 6)) λt=>G9 t (some (.J8 [(.agg ((A8 0 a)::(JU (bZ [])))),(iI 2)])) (ob (D7 .eql (A8 0 a) (iI 8)) λs=>G9 s (some (.J8 [(.agg ((A8 0 a)::(JU (bZ [])))),(iI 2)])) (ob (D7 .eql (A8 0 a) (iI 10)) λr=>
 G9 r (some (.J8 [(.agg ((A8 0 a)::(JU (bZ [])))),(iI 2)])) (ob (D7 .eql (A8 0 a) (iI 9)) λq=>G9 q (UG R a (A8 0 a)) (ob (D7 .eql (A8 0 a) (iI 11)) λp=>G9 p (UG R a (A8 0 a)) (ob (D7 .eql (A8 0 a) (iI 12)) λo=>G9 o (og (J2 (A8 3 a))<|og (J2 (A8 4 a))<|some (.J8 [(.agg [(A8 0 a),(iI 0),(iI 0),(A8 3 a),(A8 4 a),(iI 0),(.str ⟨#[]⟩),(iI 0),(A8 8 a),(A8 9 a),(A8 10 a),(A8 11 a),(A8 12 a),(A8 13 a),(.list 7 []),(.list 16 [])]),(iI 2)])) (ob (D7 .eql (A8 0 a) (iI 13)) λn=>G9 n (some (.J8 [(.agg ((A8 0 a)::(JU (bZ [])))),(iI 3)])) (ob (D7 .eql (A8 0 a) (iI 14)) λm=>
 G9 m (ob (N9 (A8 14 a)) λl=>ob (D7 .add (iI 1) l) λk=>og (J2 (A8 14 a))<|some (.J8 [(.agg ((A8 0 a)::(JU (ym ((iI 0)::(Ig (Ig [(A8 14 a),(.list 16 [])]))))))),k])) (ob (D7 .eql (A8 0 a) (iI 15)) λj=>G9 j (some (.J8 [(.agg ((A8 0 a)::(JU (ym ((iI 0)::(A8 8 a)::(A8 9 a)::(A8 10 a)::(Ig [(.list 7 []),(.list 16 [])])))))),(iI 1)])) (ob (D7 .eql (A8 0 a) (iI 16)) λi=>G9 i (og (J2 (A8 7 a))<|some (.J8 [(.agg ((A8 0 a)::(JU (ym ((A8 7 a)::(Ig (Ig [(.list 7 []),(.list 16 [])]))))))),(iI 2)])) (some (.J8 [(.agg ((A8 0 a)::(JU (bZ [])))),(.int .i64 (-1))])))))))))))))))))):=H7 [20]
def aB:UG R a b =
 (og (J2 (A8 3 a))<|ob (D7 .sub (A8 0 a) (iI 9)) λx=>ob (D7 .quo x (iI 2)) λy=>ob (D7 .add (iI 1) y) λz=>some (.J8 [(.agg (b::(iI 0)::(iI 0)::(A8 3 a)::(ym ((iI 0)::(A8 8 a)::(A8 9 a)::(A8 10 a)::(Ig [(.list 7 []),(.list 16 [])]))))),z])):=H7 [20]
def A2h:C8.p Zi [a]=rZ C8 a:=BS func118
def A0v:=eP f119 yD R [] (I1 f119 [(a,.val),(b,.val)] [])
def A8n:A0v R a b =
 (og (I5 3 a)<|ob (R.p lT [(BI a)]) λx=>G9 x (some b) (ob (R.p RU [(BI a)]) λy=>M9 y (ob (R.p Rx [(BI a),(iI 6)]) λz=>some z) sF none)):=H7 []
def A6a:C8.p Yp [a,b]=A0v C8 a b:=BS func119
def A0l:=eP f120 iA R [] (I1 f120 [(a,.val)] [])
def SC:=hP f120 iA R (pb 58) (ms 32 [(0,a),(3,b)] [] [] [])
def A8d:A0l R a =
 (ob (FB a) λx=>ob (D7 .lss x (iI 1)) λy=>M9 y sF (ob (FB a) λz=>ob (D7 .gtr z (iI 32)) λw=>M9 w sF (ob (IG a (iI 0)) λu=>ob (R.p RS [u]) λv=>ob (j6 .not v) λt=>G9 t sF (SC R a (iI 0))) none) none):=H7 []
def jU:SC R a b =
 (ob (FB a) λx=>ob (D7 .lss b x) λy=>G9 y (ob (IG a b) λz=>ob (R.p lQ [z]) λw=>ob (j6 .not w) λu=>G9 u sF (ob (D7 .add b (iI 1)) λv=>SC R a v)) (ob (R.p rU [a]) λt=>ob (j6 .not t) λs=>some s)):=K5 []
def A50:C8.p KU [a]=A0l C8 a:=BS func120
def A23:=eP f121 ZA R [] (I1 f121 [(a,.val)] [])
def DW:=eP f121 ZA R (pb 31) (ms 92 [(3,a)] [] [(1,bx b 7),(4,bv [c,(iI 0),(iI 0),d,e,f,(.list 7 [])])] [])
def Ng:=hP f121 ZA R (pb 506) (ms 92 [(3,a),(5,b)] [] [(1,bx c 7)] [])
def B0E:A23 R a =
 (og (I5 7 a)<|og (J2 (A8 0 a))<|ob (D7 .eql (A8 0 a) (iI 1)) λx=>G9 x (DW R (iI 0) a (A8 0 a) (.str ⟨#[]⟩) (iI 0) (.str ⟨#[]⟩)) (ob (D7 .eql (A8 0 a) (iI 6)) λy=>G9 y (DW R (iI 0) a (A8 0 a) (.str ⟨#[]⟩) (iI 0) (.str ⟨#[]⟩)) (ob (D7 .eql (A8 0 a) (iI 8)) λz=>G9 z (DW R (iI 0) a (A8 0 a) (.str ⟨#[]⟩) (iI 0) (.str ⟨#[]⟩)) (ob (D7 .eql (A8 0 a) (iI 2)) λw=>G9 w (og (J2 (A8 3 a))<|ob (R.p KU [(A8 3 a)]) λu=>ob (j6 .not u) λv=>G9 v sF (DW R (iI 0) a (A8 0 a) (A8 3 a) (iI 0) (.str ⟨#[]⟩))) (ob (D7 .eql (A8 0 a) (iI 3)) λt=>G9 t (og (J2 (A8 4 a))<|DW R (iI 0) a (A8 0 a) (.str ⟨#[]⟩) (A8 4 a) (.str ⟨#[]⟩)) (ob (D7 .eql (A8 0 a) (iI 4)) λs=>G9 s (og (J2 (A8 4 a))<|ob (D7 .lss (A8 4 a) (iI 0)) λr=>M9 r sF (ob (D7 .gtr (A8 4 a) (iI 1)) λq=>G9 q sF (DW R (iI 0) a (A8 0 a) (.str ⟨#[]⟩) (A8 4 a) (.str ⟨#[]⟩))) none) (ob (D7 .eql (A8 0 a) (iI 5)) λo=>
 G9 o (og (J2 (A8 5 a))<|ob (FB (A8 5 a)) λn=>ob (D7 .gtr n (iI 200)) λm=>G9 m sF (DW R (iI 0) a (A8 0 a) (.str ⟨#[]⟩) (iI 0) (A8 5 a))) (ob (D7 .eql (A8 0 a) (iI 7)) λl=>G9 l (DW R (iI 2) a (A8 0 a) (.str ⟨#[]⟩) (iI 0) (.str ⟨#[]⟩)) (ob (D7 .eql (A8 0 a) (iI 9)) λk=>G9 k (DW R (iI 2) a (A8 0 a) (.str ⟨#[]⟩) (iI 0) (.str ⟨#[]⟩)) sF))))))))):=H7 [25]
def A38:DW R a b c d e f =
 (ob (N9 (A8 6 b)) λx=>ob (D7 .neq x a) λy=>M9 y sF (ob (D7 .neq (A8 3 b) d) λz=>M9 z sF (ob (D7 .neq (A8 4 b) e) λw=>M9 w sF (ob (D7 .neq (A8 5 b) f) λu=>G9 u sF (Ng R a (iI 0) b)) none) none) none):=H7 [25]
def jZ:Ng R a b c =
 (ob (D7 .lss b a) λx=>G9 x (ob (M4 7 (A8 6 c) b) λy=>ob (R.p cO [(Sz y)]) λz=>ob (j6 .not z) λw=>G9 w sF (ob (D7 .add b (iI 1)) λu=>Ng R a u c)) sT):=K5 [25]
def A8x:C8.p cO [a]=A23 C8 a:=BS func121
def xQ:=eP f122 uD R [] (I1 f122 [(a,.val)] [])
def A5J:xQ R a =
 (og (I5 7 a)<|oc (R.r Wo [((Sz a),.val),((.list 1 []),.own)] []) λq1 s1=>some q1):=H7 []
def A4v:C8.p fq [a]=xQ C8 a:=BS func122
end
end Go.Su

/-
 Equations of the program's functions: by program.
-/
namespace Go.Su
set_option linter.defProp false
set_option maxRecDepth 100000
noncomputable section
open Go.Proofs
open Tryz
variable (R: O9)(i j k l m n: Nat)(a b c d e f g h o p q r t u v w x y z I P a6 a7 a11: DV)(s: List E5)
def xD:=eP f123 aL R [] (I1 f123 [(a,.val),(b,.val)] [])
def Lp:=hP f123 aL R (pb 58) (ms 27 [(1,a),(5,b)] [] [(2,bx c 3)] [])
def A5y:xD R a b =
 (og (I5 3 a)<|ob (D7 .add b (iI 1)) λx=>Lp R x (iI 0) a):=H7 []
def dM:Lp R a b c =
 (ob (N9 (A8 2 c)) λx=>ob (D7 .lss b x) λy=>M9 y (ob (D7 .leq a (iI 600)) λz=>G9 z (ob (M4 3 (A8 2 c) b) λw=>ob (R.p Wi [(BI w),a]) λu=>ob (D7 .add b (iI 1)) λv=>Lp R u v c) (some a)) (some a) none):=K5 []
def A4m:C8.p Wi [a,b]=xD C8 a b:=BS func123
def xY:=eP f125 aV R [] (I1 f125 [(a,.val)] [])
def Lv:=hP f125 aV R (pb 250) (ms 43 [(33,a),(34,b),(35,c)] [] [] [])
def A5S:xY R a =
 (og (I5 3 a)<|ob (R.p fw [(A8 0 a)]) λx=>ob (D7 .lss x (iI 0)) λy=>M9 y sF (ob (N9 (A8 2 a)) λz=>ob (D7 .neq z x) λw=>G9 w sF (ob (D7 .eql (A8 0 a) (iI 6)) λu=>G9 u (ob (D7 .geq (A8 1 a) (iI 0)) λv=>M9 v (ob (D7 .leq (A8 1 a) (iI 1048576)) λt=>some t) sF none) (ob (D7 .neq (A8 1 a) (iI 0)) λs=>G9 s sF (ob (N9 (A8 2 a)) λr=>Lv R (A8 2 a) r (iI 0))))) none):=H7 []
def dY:Lv R a b c =
 (ob (D7 .lss c b) λx=>G9 x (ob (M4 3 a c) λy=>ob (R.p Wq [(BI y)]) λz=>ob (j6 .not z) λw=>G9 w sF (ob (D7 .add c (iI 1)) λu=>Lv R a b u)) sT):=K5 []
def A4C:C8.p Wq [a]=xY C8 a:=BS func125
def cZ:=eP f126 Sj R [] (I1 f126 [(a,.val),(b,.val)] [])
def KY:=hP f126 Sj R (pb 26) (ms 26 [(1,a),(5,b)] [] [(2,bx c 3)] [])
def Z_:cZ R a b =
 (og (I5 3 a)<|KY R b (iI 0) a):=H7 []
def OG:KY R a b c =
 (ob (N9 (A8 2 c)) λx=>ob (D7 .lss b x) λy=>M9 y (ob (D7 .leq a (iI 400)) λz=>G9 z (ob (M4 3 (A8 2 c) b) λw=>ob (D7 .add a (iI 1)) λu=>ob (R.p Hw [(BI w),u]) λv=>ob (D7 .add b (iI 1)) λt=>KY R v t c) (some a)) (some a) none):=K5 []
def Yd:C8.p Hw [a,b]=cZ C8 a b:=BS func126
def iX:=eP f127 Uc R [] (I1 f127 [(a,.val),(b,.val)] [])
def Lg:=hP f127 Uc R (pb 58) (ms 36 [(1,a),(5,b)] [] [(2,bx c 7)] [])
def UQ:iX R a b =
 (og (I5 7 a)<|ob (FB (A8 5 a)) λx=>ob (D7 .gtr x (iI 300)) λy=>M9 y (some (iI 401)) (ob (FB (A8 3 a)) λz=>ob (D7 .gtr z (iI 300)) λw=>G9 w (some (iI 401)) (Lg R b (iI 0) a)) none):=H7 []
def XZ:Lg R a b c =
 (ob (N9 (A8 6 c)) λx=>ob (D7 .lss b x) λy=>M9 y (ob (D7 .leq a (iI 400)) λz=>G9 z (ob (M4 7 (A8 6 c) b) λw=>ob (D7 .add a (iI 1)) λu=>ob (R.p QH [(Sz w),u]) λv=>ob (D7 .add b (iI 1)) λt=>Lg R v t c) (some a)) (some a) none):=K5 []
def Si:C8.p QH [a,b]=iX C8 a b:=BS func127
def Vu:=eP f130 dw R [] (I1 f130 [(a,.val)] [])
def A0T:Vu R a =
 (og (I5 16 a)<|ob (D7 .eql (A8 0 a) (iI 1)) λy=>G9 y (some (.J8 [(.agg ((.bool true)::(Ox [(.bool false),(.bool false),(.bool false),(iI 0)]))),(.bool true)])) (ob (D7 .eql (A8 0 a) (iI 2)) λz=>G9 z (some (.J8 [(.agg ((.bool false)::(.bool false)::(.bool true)::(Ox [(.bool false),(iI 0)]))),(.bool true)])) (ob (D7 .eql (A8 0 a) (iI 3)) λw=>G9 w (some (.J8 [(.agg ((.bool false)::(.bool false)::(.bool true)::(Ox [(.bool false),(iI 0)]))),(.bool true)])) (ob (D7 .eql (A8 0 a) (iI 4)) λu=>G9 u (some (.J8 [(.agg ((.bool false)::(.bool false)::(.bool false)::(.bool true)::(Ox [(iI 0)]))),(.bool true)])) (ob (D7 .eql (A8 0 a) (iI 5)) λv=>G9 v (some (.J8 [(.agg (Ox (Ox [(iI 0)]))),(.bool true)])) (ob (D7 .eql (A8 0 a) (iI 7)) λt=>
 G9 t (some (.J8 [(.agg (Ox (Ox [(iI 0)]))),(.bool true)])) (ob (D7 .eql (A8 0 a) (iI 6)) λs=>G9 s (some (.J8 [(.agg (Ox (Ox [(iI 2)]))),(.bool true)])) (ob (D7 .eql (A8 0 a) (iI 8)) λr=>G9 r (some (.J8 [(.agg (Ox (Ox [(iI 2)]))),(.bool true)])) (ob (D7 .eql (A8 0 a) (iI 10)) λq=>G9 q (some (.J8 [(.agg (Ox (Ox [(iI 2)]))),(.bool true)])) (ob (D7 .eql (A8 0 a) (iI 9)) λp=>G9 p (some (.J8 [(.agg ((.bool true)::(Ox [(.bool true),(.bool false),(.bool false),(iI 1)]))),(.bool true)])) (ob (D7 .eql (A8 0 a) (iI 11)) λo=>G9 o (some (.J8 [(.agg ((.bool true)::(Ox [(.bool true),(.bool false),(.bool false),(iI 2)]))),(.bool true)])) (ob (D7 .eql (A8 0 a) (iI 12)) λn=>
 G9 n (some (.J8 [(.agg [(.bool true),(.bool true),(.bool false),(.bool false),(.bool false),(.bool true),(.bool true),(.bool false),(iI 2)]),(.bool true)])) (ob (D7 .eql (A8 0 a) (iI 13)) λm=>G9 m (some (.J8 [(.agg (Ox (Ox [(iI 3)]))),(.bool true)])) (ob (D7 .eql (A8 0 a) (iI 14)) λl=>G9 l (ob (N9 (A8 14 a)) λk=>ob (D7 .add k (iI 1)) λx=>og (J2 x)<|ob (N9 (A8 14 a)) λj=>ob (D7 .gtr j (iI 0)) λi=>some (.J8 [(.agg (Ox (Ox [x]))),i])) (ob (D7 .eql (A8 0 a) (iI 15)) λh=>G9 h (some (.J8 [(.agg (Ox [(.bool false),(.bool true),(.bool false),(.bool true),(iI 1)])),(.bool true)])) (ob (D7 .eql (A8 0 a) (iI 16)) λg=>G9 g (some (.J8 [(.agg (Ox [(.bool true),(.bool false),(.bool false),(.bool false),(iI 2)])),(.bool true)])) (some (.J8 [(.agg (Ox (Ox [(iI 0)]))),(.bool false)])))))))))))))))))):=H7 []
def wW(x0:DV){d:DV}(h:Vu C8 x0=some d):C8.p Vq [x0]=some d:=B0k func130 (by kernel_rfl) (by kernel_rfl) (by kernel_rfl) h
def xZ:=eP f131 aW R [] (I1 f131 [(a,.val)] [])
def QS:=hP f131 aW R (pb 58) (ms 37 [(0,a),(3,b)] [] [] [])
def A5T:xZ R a =
 (ob (FB a) λx=>ob (D7 .lss x (iI 1)) λy=>M9 y sF (ob (FB a) λz=>ob (D7 .gtr z (iI 32)) λw=>M9 w sF (ob (IG a (iI 0)) λu=>ob (D7 .lss u (.int .u8 97)) λv=>M9 v sF (ob (IG a (iI 0)) λt=>ob (D7 .gtr t (.int .u8 122)) λs=>M9 s sF (ob (R.p lW [a]) λr=>G9 r sF (QS R a (iI 1))) none) none) none) none):=H7 []
def dZ:QS R a b =
 (ob (FB a) λx=>ob (D7 .lss b x) λy=>G9 y (ob (IG a b) λz=>ob (R.p Zk [z]) λw=>ob (j6 .not w) λu=>G9 u sF (ob (D7 .add b (iI 1)) λv=>QS R a v)) sT):=K5 []
def A4D:C8.p RX [a]=xZ C8 a:=BS func131
def xV:=eP f132 uE R [] (I1 f132 [(a,.val)] [])
def A5P:xV R a =
 (og (I5 3 a)<|ob (D7 .eql (A8 0 a) (iI 0)) λx=>M9 x (ob (D7 .eql (A8 1 a) (iI 0)) λy=>M9 y (ob (N9 (A8 2 a)) λz=>ob (D7 .eql z (iI 0)) λw=>some w) sF none) sF none):=H7 []
def A4z:C8.p Nr [a]=xV C8 a:=BS func132
def pX:=eP f133 kH R [] (I1 f133 [(a,.val)] [])
def A15:pX R a =
 (og (I5 3 a)<|ob (R.p Wp [(BI a)]) λx=>ob (D7 .eql x (iI 0)) λy=>M9 y (ob (R.p Tk [(BI a)]) λz=>some z) sF none):=H7 []
def A03:C8.p Rz [a]=pX C8 a:=BS func133
def XV:Code:=f134.body.getD .skip
def cz:=eP f134 GY R [] (I1 f134 [(a,.val)] [])
def XQ:=eP f134 GY R (pb 58) (ms 32 [(0,a),(4,(.J8 [])),(6,b),(8,(.J8 [])),(9,(.J8 [])),(10,(.J8 [])),(11,(.J8 [])),(12,(.J8 [])),(13,(.J8 [])),(14,(.J8 [])),(15,(.J8 [])),(16,(.J8 [])),(17,(.J8 [])),(18,(.J8 [])),(19,(.J8 [])),(20,(.J8 [])),(21,(.J8 [])),(22,(.J8 [])),(23,(.J8 [])),(24,(.J8 [])),(25,(.J8 [])),(26,(.J8 [])),(27,(.J8 [])),(28,(.J8 [])),(29,(.J8 [])),(30,(.J8 [])),(31,(.J8 []))] [(1,(.ptr 0 0)),(2,(.ptr 1 0)),(3,(.ptr 3 0)),(5,(F4.map 2)),(7,(.fn 199 [(4,0)]))] [] s)
def Rv:Code:=match (sub [true,true,false,true,false] XV []).1 with
 |.rangeFunc _ _ a b=>.seq a b
 |c=>c
def BD(R:O9)(t0 t6:DV)(o:Out)(sg:List E5):Option DV:=nU cfg R GY (WU cfg.P f134) [true,true,false,true,false] XV o (Ag ⟨spread .undef 32 0 [(0,t0),(4,(.J8 [])),(6,t6),(8,(.J8 [])),(9,(.J8 [])),(10,(.J8 [])),(11,(.J8 [])),(12,(.J8 [])),(13,(.J8 [])),(14,(.J8 [])),(15,(.J8 [])),(16,(.J8 [])),(17,(.J8 [])),(18,(.J8 [])),(19,(.J8 [])),(20,(.J8 [])),(21,(.J8 [])),(22,(.J8 [])),(23,(.J8 [])),(24,(.J8 [])),(25,(.J8 [])),(26,(.J8 [])),(27,(.J8 [])),(28,(.J8 [])),(29,(.J8 [])),(30,(.J8 [])),(31,(.J8 []))],spread .val 32 0 [(1,(.ptr 0 0)),(2,(.ptr 1 0)),(3,(.ptr 3 0)),(5,(F4.map 2)),(7,(.fn 199 [(4,0)]))],spread none 32 0 [],[]⟩ sg)
def Oy(R:O9)(t0 t6:DV)(I:List E5->Option DV)(x:DV)(sg:List E5):Option DV:=UY cfg R GY (kr I (BD R t0 t6)) [] Rv (mst 32 [(8,x)] [(2,(.ptr 1 0)),(3,(.ptr 3 0))] [] sg)
def Ej(R:O9)(t0 t6:DV):List DV->List E5->Option DV:=MM (λx I sg=>Oy R t0 t6 I x sg) (BD R t0 t6 .normal)
def RH(R:O9)(t0 t6:DV)(I:List E5->Option DV)(b4:DV)(sg:List E5):Option DV:=UY cfg R GY (kr I (BD R t0 t6)) (pb 13) Rv (ms 32 [] [(3,(.ptr 3 0))] [(4,bx b4 7)] sg)
def zH:cz R a =
 (og (I5 7 a)<|XQ R a (Sz a) [E5.box [((A8 0 a),.val),((A8 1 a),.val),((A8 2 a),.val),((A8 3 a),.val),((A8 4 a),.val),((A8 5 a),.val),((A8 6 a),.val)],E5.box [((iI 0),.val)],E5.map true [],E5.box [(.undef,(F4.map 2))],E5.box [((A8 0 a),.val),((A8 1 a),.val),((A8 2 a),.val),((A8 3 a),.val),((A8 4 a),.val),((A8 5 a),.val),((A8 6 a),.val)]]):=H7 [6]
def rF:XQ R a b s =
 ob (H5 s 4) λcs=>ob (MB cs) λcd=>ob (SS 7 6 cd) λds=>Ej R a b ds (s.set 4 (.arr 1 [])):=(A9M (t:=7) (f:=199) (i:=4) (q:=8) (it:=SS 7 6) (by kernel_rfl) (by kernel_rfl) (by kernel_rfl) (by kernel_rfl)).trans (by kernel_rfl)
theorem f_(R:O9)(t0 t6:DV)(sg:List E5):Ej R t0 t6 [] sg=BD R t0 t6 .normal sg:=rfl
theorem bg(R:O9)(t0 t6 x:DV)(ds:List DV)(sg:List E5):Ej R t0 t6 (x::ds) sg=Oy R t0 t6 (Ej R t0 t6 ds) x sg:=rfl
def jK(R:O9)(t0 t6:DV)(I:List E5->Option DV)(x:DV)(sg:List E5):Oy R t0 t6 I x sg=(og (I5 7 x)<|ob (R.p YA [(Sz x)]) λy=>ob (j6 .not y) λz=>M9 z (ob (H5 sg 1) λc3=>ob (c3[0]?) λu4=>BD R t0 t6 .ret (sg.set 1 (E5.box (c3.set 0 ((iI 1),.val))))) (ob (D7 .eql (A8 0 x) (iI 2)) λw=>M9 w (ob (H5 sg 3) λc6=>ob (Bq c6 0) λi7=>og (j4 true (A8 3 x)&&true)<|ob (R9 sg i7) λm8=>og (m8.1==true)<|ob (D7 .gtr ((Y0 m8.2 (A8 3 x)).getD (iI 0)) (iI 0)) λu=>G9 u (ob (H5 sg 1) λc10=>ob (c10[0]?) λu11=>BD R t0 t6 .ret (sg.set 1 (E5.box (c10.set 0 ((iI 1),.val))))) (RH R t0 t6 I x sg)) (RH R t0 t6 I x sg) none) none):=H7 [6]
def WE:BD R a b .normal s =
 (ob (H5 s 1) λc1=>ob (c1[0]?) λu2=>B1r (ob (H5 (s.set 1 (E5.box (c1.set 0 ((iI 0),.val)))) 1) λc=>oneCell (s.set 1 (E5.box (c1.set 0 ((iI 0),.val)))) c)):=wK [6] (by kernel_rfl)
def Yu:BD R a b .ret s=(B1r (ob (H5 s 1) λc=>oneCell s c)):=wK [6] (by kernel_rfl)
def tV(R:O9)(t0 t6:DV)(I:List E5->Option DV)(b4:DV)(sg:List E5):RH R t0 t6 I b4 sg=(ob (D7 .eql (A8 0 b4) (iI 2)) λx=>G9 x (ob (H5 sg 3) λc2=>ob (Bq c2 0) λi3=>og (j4 true (A8 3 b4)&&true)<|ob (R9 sg i3) λm4=>og (m4.1==true)<|ob (D7 .add ((Y0 m4.2 (A8 3 b4)).getD (iI 0)) (iI 1)) λy=>og (j4 true (A8 3 b4)&&true&&true)<|ob (R9 sg i3) λm6=>og (m6.1==true)<|I (sg.set i3 (E5.map true (Bz m6.2 (A8 3 b4) y)))) (I sg)):=H7 [6]
def wo:C8.p OX [a]=cz C8 a:=BS func134
def XI:=eR f135 FZ Jz R [] (I1 f135 [(pt i),(a,.val),(b,.val),(c,.val)] s)
def DI(R:O9)(t0i:Nat)(t1 t3:DV)(t10i:Nat)(t36 t37 t38:DV)(sg:List E5):Option (List DV×List E5):=hR f135 FZ Jz R (pb 122) (ms 127 [(1,t1),(3,t3),(36,t36),(37,t37),(38,t38)] [(0,(.ptr t0i 0)),(10,(.ptr t10i 0))] [] sg)
def BA(R:O9)(t0i:Nat)(t1:DV)(t10i:Nat)(t16 t90 t91 t92:DV)(sg:List E5):Option (List DV×List E5):=hR f135 FZ Jz R (pb 506) (ms 127 [(1,t1),(16,t16),(90,t90),(91,t91),(92,t92)] [(0,(.ptr t0i 0)),(10,(.ptr t10i 0))] [] sg)
def qw:XI R i a b c s =
 (oc (R.r Y2 [(pt i),(a,.val)] s) λq1 s1=>ob (j6 .not q1) λx=>M9 x (some ([(iI 0),(iI 1)],s1)) (ob (N9 b) λy=>ob (N9 c) λz=>ob (D7 .neq y z) λw=>G9 w (some ([(iI 0),(iI 1)],s1)) (ob (N9 b) λu=>DI R i a c (((((s1++[E5.map false []])++[E5.map false []])++[E5.map false []])).length) b u (iI 0) ((((s1++[E5.map false []])++[E5.map false []])++[E5.map false []])++[E5.box [(pt i),(.undef,(F4.map s1.length)),(.undef,(F4.map ((s1++[E5.map false []])).length)),(.undef,(F4.map (((s1++[E5.map false []])++[E5.map false []])).length))]]))) none):=H7 []
def Rc(R:O9)(t0i:Nat)(t1 t3:DV)(t10i:Nat)(t36 t37 t38:DV)(sg:List E5):DI R t0i t1 t3 t10i t36 t37 t38 sg =
 (ob (D7 .lss t38 t37) λw=>G9 w (ob (M4 1 t36 t38) λx=>og (N8 x)<|oc (R.r Q5 [(pt t0i),(x,.val)] sg) λq3 s3=>ob (D7 .lss q3 (iI 0)) λu=>M9 u (some ([(iI 0),(iI 1)],s3)) (ob (M4 1 t3 t38) λy=>og (N8 y)<|oc (R.r Y2 [(pt t0i),(y,.val)] s3) λq6 s6=>ob (j6 .not q6) λv=>M9 v (some ([(iI 0),(iI 1)],s6)) (ob (H5 s6 t0i) λc8=>ob (Ar c8 0 5) λv9=>ob (j5 0 v9.2.2 q3) λn10=>ob (V5 s6 v9.1 v9.2.1) λa11=>ob (a11.2[n10]?) λt=>og (a11.1==5)<|ob (D7 .neq (A8 0 t) (iI 6)) λs=>G9 s (some ([(iI 0),(iI 1)],s6)) (ob (H5 s6 t10i) λc14=>ob (Bq c14 1) λi15=>og (j4 false q3&&true)<|ob (R9 s6 i15) λm16=>og (m16.1==false)<|G9 (.bool (Y0 m16.2 q3).isSome) (some ([(iI 0),(iI 1)],s6)) (ob (H5 s6 t10i) λc17=>ob (Bq c17 1) λi18=>ob (M4 1 t3 t38) λz=>og (N8 z)<|og (j4 false q3&&true&&true)<|ob (R9 s6 i18) λm20=>
 og (m20.1==false)<|ob (D7 .add t38 (iI 1)) λq=>DI R t0i t1 t3 t10i t36 t37 q (s6.set i18 (E5.map false (Bz m20.2 q3 z)))))) none) none) (oc (R.r EE [(pt t0i),(t1,.val)] sg) λq22 s22=>ob (N9 q22) λp=>BA R t0i t1 t10i (iI 0) q22 p (iI 0) s22)):=K5 []
def Qw(R:O9)(t0i:Nat)(t1:DV)(t10i:Nat)(t16 t90 t91 t92:DV)(sg:List E5):BA R t0i t1 t10i t16 t90 t91 t92 sg =
 (ob (D7 .lss t92 t91) λy=>G9 y (ob (M4 1 t90 t92) λx=>og (N8 x)<|ob (H5 sg t0i) λc3=>ob (Ar c3 0 5) λv4=>ob (j5 0 v4.2.2 x) λn5=>ob (V5 sg v4.1 v4.2.1) λa6=>ob (a6.2[n5]?) λz=>og (a6.1==5)<|ob (D7 .neq (A8 0 z) (iI 6)) λw=>M9 w (oc (R.r Ei [(pt t10i),(x,.val)] sg) λq9 s9=>G9 q9 (ob (D7 .add t16 (iI 1)) λu=>ob (D7 .add t92 (iI 1)) λv=>BA R t0i t1 t10i u t90 t91 v s9) (ob (D7 .add t92 (iI 1)) λt=>BA R t0i t1 t10i t16 t90 t91 t s9)) (ob (D7 .add t92 (iI 1)) λs=>BA R t0i t1 t10i t16 t90 t91 s sg) none) (ob (H5 sg t0i) λc14=>ob (U8 c14 1) λq=>ob (H5 sg t0i) λc16=>ob (U8 c16 2) λp=>ob (D7 .sub q p) λo=>ob (D7 .gtr t16 o) λn=>G9 n (some ([(iI 0),(iI 7)],sg)) (oc (R.r Ik [(pt t10i),(t1,.val)] sg) λq20 s20=>some ([q20,(iI 0)],s20)))):=K5 []
def nC:C8.r Oz [(.undef,(.ptr i 0)),(a,.val),(b,.val),(c,.val)] s=XI C8 i a b c s:=BU (s:=FZ) func135
def XL:=eR f136 Fa J_ R [] (I1 f136 [(pt i),(a,.val),(b,.val),(c,.val)] s)
def Df:=eR f136 Fa J_ R (pb 15) (ms 49 [(1,a),(10,b)] [(0,(.ptr i 0))] [] s)
def DJ:=hR f136 Fa J_ R (pb 122) (ms 49 [(1,a),(10,b),(24,c),(25,d),(26,e)] [(0,(.ptr i 0))] [] s)
def q_:XL R i a b c s =
 (og (J2 b)<|og (J2 c)<|ob (D7 .eql a (iI 7)) λx=>G9 x (Df R i a (.list 1 [b,c]) s) (ob (D7 .eql a (iI 9)) λy=>G9 y (Df R i a (.list 1 [b,c]) s) (ob (D7 .eql a (iI 8)) λz=>G9 z (ob (Nj 1 (.list 1 [b,c]) none (some (iI 1))) λw=>Df R i a w s) (some ([(iI 0),(iI 1)],s))))):=H7 [8]
def jd:Df R i a b s =
 (ob (N9 b) λx=>DJ R i a b b x (iI 0) s):=H7 [8]
def Re:DJ R i a b c d e s =
 (ob (D7 .lss e d) λy=>G9 y (ob (M4 1 c e) λx=>og (N8 x)<|oc (R.r Y2 [(pt i),(x,.val)] s) λq3 s3=>ob (j6 .not q3) λz=>G9 z (some ([(iI 0),(iI 1)],s3)) (ob (D7 .add e (iI 1)) λw=>DJ R i a b c d w s3)) (ob (H5 s i) λc6=>ob (U8 c6 2) λu=>ob (H5 s i) λc8=>ob (U8 c8 1) λv=>ob (D7 .eql u v) λt=>G9 t (some ([(iI 0),(iI 7)],s)) (og (J2 a)<|og (J2 b)<|oc (R.r BO [(pt i),((.agg [a,(iI 0),(iI 0),b,(iI 0)]),.val)] s) λq11 s11=>some ([q11,(iI 0)],s11)))):=K5 [8]
def nH:C8.r Eh [(.undef,(.ptr i 0)),(a,.val),(b,.val),(c,.val)] s=XL C8 i a b c s:=BU (s:=Fa) func136
def YV:=eR f137 OU Xj R [] (I1 f137 [(pt i),(a,.val)] s)
def tO:YV R i a s =
 (ob (D7 .lss a (iI 0)) λx=>G9 x (some ([(iI 0),(iI 1)],s)) (ob (H5 s i) λc2=>ob (U8 c2 2) λy=>ob (H5 s i) λc4=>ob (U8 c4 1) λz=>ob (D7 .eql y z) λw=>G9 w (some ([(iI 0),(iI 7)],s)) (og (J2 a)<|oc (R.r BO [(pt i),((.agg [(iI 6),a,(iI 0),(.list 1 []),(iI 0)]),.val)] s) λq7 s7=>some ([q7,(iI 0)],s7)))):=H7 []
def rP:C8.r IZ [(.undef,(.ptr i 0)),(a,.val)] s=YV C8 i a s:=BU (s:=OU) func137
def XK:=eR f138 NU Vi R [] (I1 f138 [(pt i),(a,.val)] s)
def qy:XK R i a s =
 (oc (R.r Y2 [(pt i),(a,.val)] s) λq1 s1=>ob (j6 .not q1) λx=>G9 x (some ([(iI 0)],s1)) (ob (H5 s1 i) λc3=>ob (Ar c3 0 5) λv4=>oc (R.r Q5 [(pt i),(a,.val)] s1) λq5 s5=>MZ (s5[i]?=s1[i]?)<|ob (j5 0 v4.2.2 q5) λn6=>ob (V5 s5 v4.1 v4.2.1) λa7=>ob (a7.2[n6]?) λy=>og (a7.1==5)<|some ([(A8 0 y)],s5))):=H7 []
def nE:C8.r Y4 [(.undef,(.ptr i 0)),(a,.val)] s=XK C8 i a s:=BU (s:=NU) func138
def XJ:=eR f139 NS Vh R [] (I1 f139 [(pt i),(a,.val)] s)
def qx:XJ R i a s =
 (oc (R.r Y2 [(pt i),(a,.val)] s) λq1 s1=>ob (j6 .not q1) λx=>G9 x (some ([(.list 1 [])],s1)) (ob (H5 s1 i) λc3=>ob (Ar c3 0 5) λv4=>oc (R.r Q5 [(pt i),(a,.val)] s1) λq5 s5=>MZ (s5[i]?=s1[i]?)<|ob (j5 0 v4.2.2 q5) λn6=>ob (V5 s5 v4.1 v4.2.1) λa7=>ob (a7.2[n6]?) λy=>og (a7.1==5)<|ob (A4U (A8 3 y)) λp9=>og (true&&p9.1==1&&decide (p9.2.length<=Q8))<|ob (B49 [Bo (s5++[E5.arr 1 p9.2]) (.undef,(.arr s5.length 1 0 p9.2.length))]) λds=>some (ds,((s5++[E5.arr 1 p9.2]).set s5.length (E5.arr 1 []))))):=H7 []
def nD:C8.r DU [(.undef,(.ptr i 0)),(a,.val)] s=XJ C8 i a s:=BU (s:=NS) func139
def sD:=eP f140 qH R [] (I1 f140 [(a,.val)] [])
def A4b:sD R a =
 (og (I5 16 a)<|ob (R.p Tg [(X7 a)]) λx=>ob (D7 .eql x (iI 0)) λy=>M9 y (ob (R.p O_ [(X7 a)]) λz=>some z) sF none):=H7 []
def A2k:C8.p Zj [a]=sD C8 a:=BS func140
def Tw:=eR f141 Gy MG R [] (I1 f141 [(pt i),(a,.val),(b,.val)] s)
def Dm:=hR f141 Gy MG R (pb 58) (ms 35 [(2,a),(7,b),(15,c),(16,d),(17,e)] [(0,(.ptr i 0)),(7,.own)] [] s)
def jM:Tw R i a b s =
 (ob (H5 s i) λc1=>ob (X9 c1 0) λi2=>oc (R.r KV [(pt i2),(a,.val)] s) λq3 s3=>ob (N9 q3) λx=>Dm R i b (.list 1 []) q3 x (iI 0) s3):=H7 []
def PR:Dm R i a b c d e s =
 (ob (D7 .lss e d) λy=>G9 y (ob (M4 1 c e) λx=>og (N8 x)<|ob (H5 s i) λc3=>ob (X9 c3 0) λi4=>oc (R.r GJ [(pt i4),(x,.val)] s) λq5 s5=>ob (D7 .gtr q5 a) λz=>G9 z (og (J2 x)<|ob (Di 1 b (.list 1 [x])) λw=>ob (D7 .add e (iI 1)) λu=>Dm R i a w c d u s5) (ob (D7 .add e (iI 1)) λv=>Dm R i a b c d v s5)) (some ([b],s))):=K5 []
def gV:C8.r Ih [(.undef,(.ptr i 0)),(a,.val),(b,.val)] s=Tw C8 i a b s:=BU (s:=Gy) func141
def xL:=eR f142 SX aR R [] (I1 f142 [(pt i),(a,.val),(b,.val),(c,.val)] s)
def YB:=eR f142 SX aR R (pb 26) (ms 52 [] [] [(10,some zb0)] s)
def A5E:xL R i a b c s =
 (og (I5 7 a)<|ob (R.p OX [(Sz a)]) λx=>ob (D7 .neq x (iI 0)) λy=>M9 y (YB R s) (oc (R.r Q5 [(pt i),(b,.val)] s) λq3 s3=>ob (D7 .lss q3 (iI 0)) λz=>M9 z (YB R s3) (ob (D7 .lss c (iI 0)) λw=>G9 w (YB R s3) (og (J2 c)<|ob (Pe (s3++[E5.box ((pt i)::(c,.val)::((.list 1 []),.full)::((.list 1 []),.full)::(zz4 []))]) s3.length [2,3]) λg6=>oc (R.r Hy [(.undef,(.ptr s3.length 0)),((Sz a),.val),(b,.val)] g6) λq7 s7=>ob (D7 .neq q7 (iI 0)) λu=>G9 u (ob (H5 s7 s3.length) λc9=>ob (VK 4 6 c9) λe10=>og (I5 6 (.agg e10))<|some ([(.list 1 []),(.list 1 []),(.agg [(A8 0 (.agg e10)),(A8 1 (.agg e10)),(A8 2 (.agg e10)),(A8 3 (.agg e10)),(A8 4 (.agg e10)),(A8 5 (.agg e10))]),q7],s7)) (ob (H5 s7 s3.length) λc11=>ob (U8 c11 2) λv=>
 ob (H5 s7 s3.length) λc13=>ob (U8 c13 3) λt=>some ([v,t,(.agg (vV (JU []))),(iI 0)],s7)))) none) none):=H7 [2]
def A4q:C8.r fV [(.undef,(.ptr i 0)),(a,.val),(b,.val),(c,.val)] s=xL C8 i a b c s:=BU (s:=SX) func142
def YU:=eR f143 OT Xi R [] (I1 f143 [(pt i),(a,.val)] s)
def tN:YU R i a s =
 (og (I5 3 a)<|ob (R.p Wp [(BI a)]) λx=>ob (D7 .neq x (iI 0)) λy=>M9 y (some ([(iI 0),(iI 1)],s)) (ob (R.p Tk [(BI a)]) λz=>ob (j6 .not z) λw=>G9 w (some ([(iI 0),(iI 1)],s)) (ob (H5 s i) λc5=>ob (U8 c5 1) λu=>ob (H5 s i) λc7=>ob (U8 c7 2) λv=>ob (D7 .sub u v) λt=>ob (R.p Tf [(BI a),t]) λq=>ob (H5 s i) λc11=>ob (U8 c11 1) λo=>ob (H5 s i) λc13=>ob (U8 c13 2) λn=>ob (D7 .sub o n) λm=>ob (D7 .gtr q m) λl=>G9 l (some ([(iI 0),(iI 7)],s)) (oc (R.r Lf [(pt i),((BI a),.val)] s) λq17 s17=>some ([q17,(iI 0)],s17)))) none):=H7 []
def rO:C8.r RG [(.undef,(.ptr i 0)),(a,.val)] s=YU C8 i a s:=BU (s:=OT) func143
end
end Go.Su

/-
 Equations of the program's functions: by program.
-/
namespace Go.Su
set_option linter.defProp false
set_option maxRecDepth 100000
noncomputable section
open Go.Proofs
open Tryz
variable (R: O9)(i j k l m n: Nat)(a b c d e f g h o p q r t u v w x y z U W X Y Z a3 a4 a6 a10 a12 a13 a17: DV)(s: List E5)
def pW:=eR f144 FY JY R [] (I1 f144 [(pt i),(a,.val),(b,.val)] s)
def V7(R:O9)(t0i:Nat)(t6 t7:DV)(t9r0 t9r1 t9r3:Nat)(sg:List E5):Option (List DV×List E5):=hR f144 FY JY R (pb 220) (ms 151 [(6,t6),(7,t7)] [(0,(.ptr t0i 0)),(9,(.Q0 t9r0 t9r1 2 t9r3))] [] sg)
def GV(R:O9)(t0i:Nat)(t6 t7:DV)(t9r0 t9r1 t9r3:Nat)(t11 t12:DV)(sg:List E5):Option (List DV×List E5):=eR f144 FY JY R (pb 28207) (ms 151 [(6,t6),(7,t7),(11,t11),(12,t12)] [(0,(.ptr t0i 0)),(9,(.Q0 t9r0 t9r1 2 t9r3))] [] sg)
def Sc:=eR f144 FY JY R (pb 111) (ms 151 [(6,a),(7,b)] [] [] s)
def Lj(R:O9)(t0i:Nat)(t6 t7:DV)(t9r0 t9r1 t9r3:Nat)(t17 t18 t19:DV)(sg:List E5):Option (List DV×List E5):=hR f144 FY JY R (pb 225662) (ms 151 [(6,t6),(7,t7),(17,t17),(18,t18),(19,t19)] [(0,(.ptr t0i 0)),(9,(.Q0 t9r0 t9r1 2 t9r3))] [] sg)
def A14:pW R i a b s =
 (oc (R.r Q5 [(pt i),(a,.val)] s) λq1 s1=>ob (D7 .lss q1 (iI 0)) λx=>M9 x (some ([(iI 0),(iI 0),(iI 1)],s1)) (oc (R.r Q5 [(pt i),(b,.val)] s1) λq3 s3=>ob (D7 .lss q3 (iI 0)) λy=>G9 y (some ([(iI 0),(iI 0),(iI 1)],s3)) (og (J2 a)<|og (J2 b)<|V7 R i (iI 0) (iI 0) (s3.length) 1 1 (s3++[E5.Q0 1 2 [(.agg [a,b])]]))) none):=H7 [27,32]
def Yb(R:O9)(t0i:Nat)(t6 t7:DV)(t9r0 t9r1 t9r3:Nat)(sg:List E5):V7 R t0i t6 t7 t9r0 t9r1 t9r3 sg =
 (ob (iQ t9r3) λv=>ob (D7 .gtr v (iI 0)) λt=>G9 t (ob (iQ t9r3) λs=>ob (D7 .sub s (iI 1)) λq=>ob (j5 0 t9r3 q) λn5=>ob (V5 sg t9r0 t9r1) λa6=>ob (a6.2[n5]?) λx=>og (a6.1==2)<|ob (iQ t9r3) λp=>ob (D7 .sub p (iI 1)) λo=>ob (bnd t9r3 (some o)) λn10=>if n10<=t9r3 then(oc (R.r Q5 [(pt t0i),((A8 0 x),.val)] sg) λq11 s11=>oc (R.r Q5 [(pt t0i),((A8 1 x),.val)] s11) λq12 s12=>ob (D7 .eql q11 q12) λn=>G9 n (V7 R t0i t6 t7 t9r0 t9r1 n10 s12) (ob (D7 .eql q11 (iI 4)) λm=>G9 m (oc (R.r Ju [(pt t0i),(q12,.val),((iI 0),.val)] s12) λq15 s15=>V7 R t0i t6 t7 t9r0 t9r1 n10 s15) (ob (D7 .eql q12 (iI 4)) λl=>G9 l (oc (R.r Ju [(pt t0i),(q11,.val),((iI 0),.val)] s12) λq17 s17=>V7 R t0i t6 t7 t9r0 t9r1 n10 s17) (oc (R.r Y4 [(pt t0i),(q11,.val)] s12) λq18 s18=>
 ob (D7 .eql q18 (iI 6)) λk=>G9 k (ob (R.r QJ [(pt t0i),(q11,.val),(q12,.val)] s18) λq20=>ob (Q4 0 (.J8 q20.1)) λy=>ob (Q4 1 (.J8 q20.1)) λz=>ob (D7 .neq z (iI 0)) λj=>G9 j (some ([(iI 0),(iI 0),z],q20.2)) (ob (D7 .lss y (iI 0)) λi=>G9 i (V7 R t0i t6 t7 t9r0 t9r1 n10 q20.2) (GV R t0i t6 t7 t9r0 t9r1 n10 y q12 q20.2))) (oc (R.r Y4 [(pt t0i),(q12,.val)] s18) λq25 s25=>ob (D7 .eql q25 (iI 6)) λh=>G9 h (ob (R.r QJ [(pt t0i),(q12,.val),(q11,.val)] s25) λq27=>ob (Q4 0 (.J8 q27.1)) λw=>ob (Q4 1 (.J8 q27.1)) λu=>ob (D7 .neq u (iI 0)) λg=>G9 g (some ([(iI 0),(iI 0),u],q27.2)) (ob (D7 .lss w (iI 0)) λf=>G9 f (V7 R t0i t6 t7 t9r0 t9r1 n10 q27.2) (GV R t0i t6 t7 t9r0 t9r1 n10 q11 w q27.2))) (oc (R.r Y4 [(pt t0i),(q11,.val)] s25) λq32 s32=>
 oc (R.r Y4 [(pt t0i),(q12,.val)] s32) λq33 s33=>ob (D7 .neq q32 q33) λe=>G9 e (oc (R.r Y4 [(pt t0i),(q11,.val)] s33) λq35 s35=>oc (R.r Y4 [(pt t0i),(q12,.val)] s35) λq36 s36=>Sc R q35 q36 s36) (GV R t0i t6 t7 t9r0 t9r1 n10 q11 q12 s33)))))))else none) (Sc R t6 t7 sg)):=K5 [27,32]
def wY(R:O9)(t0i:Nat)(t6 t7:DV)(t9r0 t9r1 t9r3:Nat)(t11 t12:DV)(sg:List E5):GV R t0i t6 t7 t9r0 t9r1 t9r3 t11 t12 sg =
 (oc (R.r DU [(pt t0i),(t11,.val)] sg) λq1 s1=>oc (R.r DU [(pt t0i),(t12,.val)] s1) λq2 s2=>ob (N9 q1) λx=>ob (D7 .sub x (iI 1)) λy=>Lj R t0i t6 t7 t9r0 t9r1 t9r3 q1 q2 y s2):=H7 [27,32]
def Ya:Sc R a b s =
 (ob (D7 .gtr a (iI 0)) λx=>G9 x (some ([a,b,(iI 4)],s)) (some ((vV []),s))):=H7 [27,32]
def Xd(R:O9)(t0i:Nat)(t6 t7:DV)(t9r0 t9r1 t9r3:Nat)(t17 t18 t19:DV)(sg:List E5):Lj R t0i t6 t7 t9r0 t9r1 t9r3 t17 t18 t19 sg =
 (ob (D7 .geq t19 (iI 0)) λz=>G9 z (ob (M4 1 t17 t19) λx=>og (N8 x)<|ob (M4 1 t18 t19) λy=>og (N8 y)<|og (J2 x)<|og (J2 y)<|ob (V5 sg t9r0 t9r1) λa4=>og (a4.1==2&&true&&decide (t9r3<=a4.2.length))<|ob (Jy 2 (.list 2 (a4.2.take t9r3)) (.list 2 [(.agg [x,y])])) λp5=>ob (D7 .sub t19 (iI 1)) λw=>Lj R t0i t6 t7 t9r0 ((t9r1+1)) ((p5.1.length+p5.2.length)) t17 t18 w (sg.set t9r0 (E5.Q0 (t9r1+1) 2 (p5.1++p5.2)))) (V7 R t0i t6 t7 t9r0 t9r1 t9r3 sg)):=K5 [27,32]
def A02:C8.r Ry [(.undef,(.ptr i 0)),(a,.val),(b,.val)] s=pW C8 i a b s:=BU (s:=FY) func144
def Zm:=eR f145 QC Ye R [] (I1 f145 [(pt i),(a,.val)] s)
def wZ:Zm R i a s =
 (ob (D7 .geq a (iI 0)) λx=>M9 x (ob (H5 s i) λc2=>ob (Ar c2 0 5) λv3=>ob (iQ v3.2.2) λy=>ob (D7 .lss a y) λz=>some ([z],s)) (some ([(.bool false)],s)) none):=H7 []
def tu:C8.r Y2 [(.undef,(.ptr i 0)),(a,.val)] s=Zm C8 i a s:=BU (s:=QC) func145
def UK:=eR f146 HV ML R [] (I1 f146 [(pt i),(a,.val)] s)
def GD:=hR f146 HV ML R (pb 250) (ms 62 [(1,a),(7,b),(37,c),(38,d),(39,e)] [(0,(.ptr i 0))] [] s)
def jh:UK R i a s =
 (ob (H5 s i) λc1=>ob (X9 c1 0) λi2=>oc (R.r Q5 [(pt i2),(a,.val)] s) λq3 s3=>ob (H5 s3 i) λc4=>ob (Bq c4 2) λi5=>og (j4 false q3&&true)<|ob (R9 s3 i5) λm6=>og (m6.1==false)<|G9 (.bool (Y0 m6.2 q3).isSome) (some ([((Y0 m6.2 q3).getD (iI 0))],s3)) (ob (H5 s3 i) λc7=>ob (X9 c7 0) λi8=>ob (H5 s3 i8) λc9=>ob (Ar c9 0 5) λv10=>ob (j5 0 v10.2.2 q3) λn11=>ob (V5 s3 v10.1 v10.2.1) λa12=>ob (a12.2[n11]?) λx=>og (a12.1==5)<|ob (N9 (A8 3 x)) λy=>GD R i q3 (iI 1) (A8 3 x) y (iI 0) s3)):=H7 []
def PW:GD R i a b c d e s =
 (ob (D7 .lss e d) λy=>G9 y (ob (M4 1 c e) λx=>og (N8 x)<|oc (R.r Il [(pt i),(x,.val)] s) λq3 s3=>ob (D7 .add b q3) λz=>ob (H5 s3 i) λc5=>ob (U8 c5 1) λw=>MZ (s3[i]?=s[i]?)<|ob (D7 .add w (iI 1)) λu=>ob (Zx z u) λv=>ob (D7 .add e (iI 1)) λt=>GD R i a v c d t s3) (ob (H5 s i) λc10=>ob (Bq c10 2) λi11=>og (j4 false a&&true&&true)<|ob (R9 s i11) λm12=>og (m12.1==false)<|some ([b],(s.set i11 (E5.map false (Bz m12.2 a b)))))):=K5 []
def h_:C8.r Il [(.undef,(.ptr i 0)),(a,.val)] s=UK C8 i a s:=BU (s:=HV) func146
def Vd:=eR f147 Ey Iz R [] (I1 f147 [(pt i),(a,.val)] s)
def H_:=eR f147 Ey Iz R (pb 63) (ms 76 [(1,a)] [(0,(.ptr i 0))] [(4,some zb1),(7,some [(b,.val),(c,.val),((.list 3 []),.own)])] s)
def EI:=hR f147 Ey Iz R (pb 506) (ms 76 [(1,a),(54,b),(55,c),(56,d)] [(0,(.ptr i 0))] [(4,some zb1),(7,some [(e,.val),(f,.val),(g,.own)])] s)
def mW:Vd R i a s =
 (ob (H5 s i) λc1=>ob (X9 c1 0) λi2=>oc (R.r Q5 [(pt i2),(a,.val)] s) λq3 s3=>ob (H5 s3 i) λc4=>ob (Bq c4 3) λi5=>og (j4 false q3&&true)<|ob (R9 s3 i5) λm6=>og (m6.1==false)<|og (I5 3 ((Y0 m6.2 q3).getD (.agg (Ig []))))<|G9 (.bool (Y0 m6.2 q3).isSome) (some ([(.agg [(A8 0 ((Y0 m6.2 q3).getD (.agg (Ig [])))),(A8 1 ((Y0 m6.2 q3).getD (.agg (Ig [])))),(A8 2 ((Y0 m6.2 q3).getD (.agg (Ig []))))])],s3)) (ob (H5 s3 i) λc7=>ob (X9 c7 0) λi8=>ob (H5 s3 i8) λc9=>ob (Ar c9 0 5) λv10=>ob (j5 0 v10.2.2 q3) λn11=>ob (V5 s3 v10.1 v10.2.1) λa12=>ob (a12.2[n11]?) λx=>og (a12.1==5)<|og (J2 (A8 0 x))<|ob (D7 .eql (A8 0 x) (iI 6)) λy=>G9 y (og (J2 q3)<|H_ R i q3 (A8 0 x) q3 s3) (H_ R i q3 (A8 0 x) (iI 0) s3))):=H7 [8]
def gQ:H_ R i a b c s =
 (ob (H5 s i) λc1=>ob (X9 c1 0) λi2=>ob (H5 s i2) λc3=>ob (Ar c3 0 5) λv4=>ob (j5 0 v4.2.2 a) λn5=>ob (V5 s v4.1 v4.2.1) λa6=>ob (a6.2[n5]?) λx=>og (a6.1==5)<|ob (N9 (A8 3 x)) λy=>EI R i a (A8 3 x) y (iI 0) b c (.list 3 []) s):=H7 [8]
def Qy:EI R i a b c d e f g s =
 (ob (D7 .lss d c) λy=>G9 y (ob (M4 1 b d) λx=>og (N8 x)<|oc (R.r GK [(pt i),(x,.val)] s) λq3 s3=>og (I5 3 q3)<|ob (Di 3 g (.list 3 [q3])) λz=>ob (D7 .add d (iI 1)) λw=>EI R i a b c w e f z s3) (ob (H5 s i) λc6=>ob (Bq c6 3) λi7=>og (j4 false a&&true&&true)<|ob (R9 s i7) λm8=>og (m8.1==false)<|some ([(.agg [e,f,g])],(s.set i7 (E5.map false (Bz m8.2 a (.agg [e,f,g]))))))):=K5 [8]
def kG:C8.r GK [(.undef,(.ptr i 0)),(a,.val)] s=Vd C8 i a s:=BU (s:=Ey) func147
def A0p:=eP f155 yB R [] (I1 f155 [(a,.val)] [])
def A8h:A0p R a =
 (og (I5 3 a)<|ob (D7 .eql (A8 0 a) (iI 0)) λx=>M9 x (ob (D7 .eql (A8 1 a) (iI 0)) λy=>M9 y (ob (N9 (A8 2 a)) λz=>ob (D7 .eql z (iI 0)) λw=>some w) sF none) sF none):=H7 []
def A54:C8.p lT [a]=A0p C8 a:=BS func155
def xO:=eP f161 uB R [] (I1 f161 [(a,.val)] [])
def A5H:xO R a =
 (ob (D7 .geq a (.int .u8 97)) λx=>M9 x (ob (D7 .leq a (.int .u8 122)) λy=>some y) sF none):=H7 []
def A4t:C8.p RS [a]=xO C8 a:=BS func161
def A0m:=eP f162 xz R [] (I1 f162 [(a,.val)] [])
def A8e:A0m R a =
 (ob (R.p RS [a]) λx=>M9 x sT (ob (R.p fo [a]) λy=>M9 y sT (ob (D7 .geq a (.int .u8 65)) λz=>M9 z (ob (D7 .leq a (.int .u8 90)) λw=>M9 w sT (ob (D7 .eql a (.int .u8 95)) λu=>M9 u sT (ob (D7 .eql a (.int .u8 39)) λv=>some v) none) none) (ob (D7 .eql a (.int .u8 95)) λt=>M9 t sT (ob (D7 .eql a (.int .u8 39)) λs=>some s) none) none) none) none):=H7 []
def A51:C8.p lQ [a]=A0m C8 a:=BS func162
def A2Z:=eP f163 Yz R [] (I1 f163 [(a,.val)] [])
def UD:=hP f163 Yz R (pb 26) (ms 40 [(0,a),(3,b)] [] [] [])
def PH:=hP f163 Yz R (pb 122) (ms 40 [(0,a),(4,b),(5,c)] [] [] [])
def B0A:A2Z R a =
 (UD R a (iI 0)):=H7 []
def qB:UD R a b =
 (ob (FB a) λx=>ob (D7 .lss b x) λy=>G9 y (ob (IG a b) λz=>ob (R.p RS [z]) λw=>ob (j6 .not w) λu=>G9 u sF (ob (D7 .add b (iI 1)) λv=>UD R a v)) (ob (D7 .add (.str ⟨#[32]⟩) a) λt=>ob (D7 .add t (.str ⟨#[32]⟩)) λs=>PH R a s (iI 0))):=K5 []
def qC:PH R a b c =
 (ob (FB b) λx=>ob (D7 .add c x) λy=>ob (D7 .leq y (iI 81)) λz=>G9 z (ob (FB a) λw=>ob (D7 .gtr w (iI 0)) λu=>M9 u (ob (FB b) λv=>ob (D7 .add c v) λt=>ob (jH (.str ⟨#[32,108,101,116,32,114,101,99,32,105,110,32,102,117,110,32,105,102,32,116,104,101,110,32,101,108,115,101,32,109,97,116,99,104,32,119,105,116,104,32,101,110,100,32,116,114,117,101,32,102,97,108,115,101,32,105,110,116,32,98,111,111,108,32,115,116,114,105,110,103,32,117,110,105,116,32,108,105,115,116,32]⟩) (some c) (some t)) λs=>ob (D7 .eql s b) λr=>G9 r sT (ob (D7 .add c (iI 1)) λq=>PH R a b q)) (ob (D7 .add c (iI 1)) λp=>PH R a b p) none) sF):=K5 []
def A8t:C8.p rU [a]=A2Z C8 a:=BS func163
def xS:=eR f164 SY aT R [] (I1 f164 [(a,.val),(b,.own)] s)
def JW:=hR f164 SY aT R (pb 58) (ms 29 [(1,a),(5,b)] [(1,.own)] [(2,bx c 7)] s)
def A5L:xS R a b s =
 (og (I5 7 a)<|ob (D7 .eql (A8 0 a) (iI 2)) λx=>G9 x (og (J2 (A8 3 a))<|ob (Di 1 b (.list 1 [(A8 3 a)])) λy=>JW R y (iI 0) a s) (JW R b (iI 0) a s)):=H7 []
def dW:JW R a b c s =
 (ob (N9 (A8 6 c)) λx=>ob (D7 .lss b x) λy=>G9 y (ob (M4 7 (A8 6 c) b) λz=>oc (R.r Wo [((Sz z),.val),(a,.own)] s) λq4 s4=>ob (D7 .add b (iI 1)) λw=>JW R q4 w c s4) (some ([a],s))):=K5 []
def A4x:C8.r Wo [(a,.val),(b,.own)] s=xS C8 a b s:=BU (s:=SY) func164
def xX:=eP f165 uG R [] (I1 f165 [(a,.val)] [])
def A5R:xX R a =
 (ob (D7 .eql a (iI 1)) λx=>G9 x (some (iI 0)) (ob (D7 .eql a (iI 2)) λy=>G9 y (some (iI 0)) (ob (D7 .eql a (iI 3)) λz=>G9 z (some (iI 0)) (ob (D7 .eql a (iI 4)) λw=>G9 w (some (iI 0)) (ob (D7 .eql a (iI 5)) λu=>G9 u (some (iI 0)) (ob (D7 .eql a (iI 6)) λv=>G9 v (some (iI 0)) (ob (D7 .eql a (iI 8)) λt=>G9 t (some (iI 1)) (ob (D7 .eql a (iI 7)) λs=>G9 s (some (iI 2)) (ob (D7 .eql a (iI 9)) λr=>G9 r (some (iI 2)) (some (.int .i64 (-1)))))))))))):=H7 []
def A4B:C8.p fw [a]=xX C8 a:=BS func165
def A0A:=eP f166 yF R [] (I1 f166 [(a,.val)] [])
def A8r:A0A R a =
 (ob (D7 .eql a (.str ⟨#[108,101,116]⟩)) λx=>G9 x sT (ob (D7 .eql a (.str ⟨#[114,101,99]⟩)) λy=>G9 y sT (ob (D7 .eql a (.str ⟨#[105,110]⟩)) λz=>G9 z sT (ob (D7 .eql a (.str ⟨#[102,117,110]⟩)) λw=>G9 w sT (ob (D7 .eql a (.str ⟨#[105,102]⟩)) λu=>G9 u sT (ob (D7 .eql a (.str ⟨#[116,104,101,110]⟩)) λv=>G9 v sT (ob (D7 .eql a (.str ⟨#[101,108,115,101]⟩)) λt=>G9 t sT (ob (D7 .eql a (.str ⟨#[109,97,116,99,104]⟩)) λs=>G9 s sT (ob (D7 .eql a (.str ⟨#[119,105,116,104]⟩)) λr=>G9 r sT (ob (D7 .eql a (.str ⟨#[101,110,100]⟩)) λq=>G9 q sT (ob (D7 .eql a (.str ⟨#[116,114,117,101]⟩)) λp=>G9 p sT (ob (D7 .eql a (.str ⟨#[102,97,108,115,101]⟩)) λo=>G9 o sT (ob (D7 .eql a (.str ⟨#[105,110,116]⟩)) λn=>G9 n sT (ob (D7 .eql a (.str ⟨#[98,111,111,108]⟩)) λm=>G9 m sT (ob (D7 .eql a (.str ⟨#[115,116,114,105,110,103]⟩)) λl=>
 G9 l sT (ob (D7 .eql a (.str ⟨#[117,110,105,116]⟩)) λk=>G9 k sT (ob (D7 .eql a (.str ⟨#[108,105,115,116]⟩)) λj=>G9 j sT sF))))))))))))))))):=H7 []
def A6e:C8.p lW [a]=A0A C8 a:=BS func166
def sI:=eP f167 qJ R [] (I1 f167 [(a,.val)] [])
def A4i:sI R a =
 (ob (D7 .geq a (.int .u8 97)) λx=>M9 x (ob (D7 .leq a (.int .u8 122)) λy=>M9 y sT (ob (D7 .geq a (.int .u8 65)) λz=>M9 z (ob (D7 .leq a (.int .u8 90)) λw=>M9 w sT (ob (D7 .geq a (.int .u8 48)) λu=>M9 u (ob (D7 .leq a (.int .u8 57)) λv=>M9 v sT (ob (D7 .eql a (.int .u8 95)) λt=>M9 t sT (ob (D7 .eql a (.int .u8 39)) λs=>some s) none) none) (ob (D7 .eql a (.int .u8 95)) λr=>M9 r sT (ob (D7 .eql a (.int .u8 39)) λq=>some q) none) none) none) (ob (D7 .geq a (.int .u8 48)) λp=>M9 p (ob (D7 .leq a (.int .u8 57)) λo=>M9 o sT (ob (D7 .eql a (.int .u8 95)) λn=>M9 n sT (ob (D7 .eql a (.int .u8 39)) λm=>some m) none) none) (ob (D7 .eql a (.int .u8 95)) λl=>M9 l sT (ob (D7 .eql a (.int .u8 39)) λk=>some k) none) none) none) none) (ob (D7 .geq a (.int .u8 65)) λj=>M9 j (ob (D7 .leq a (.int .u8 90)) λi=>M9 i sT (ob (D7 .geq a (.int .u8 48)) λh=>
 M9 h (ob (D7 .leq a (.int .u8 57)) λg=>M9 g sT (ob (D7 .eql a (.int .u8 95)) λf=>M9 f sT (ob (D7 .eql a (.int .u8 39)) λe=>some e) none) none) (ob (D7 .eql a (.int .u8 95)) λd=>M9 d sT (ob (D7 .eql a (.int .u8 39)) λc=>some c) none) none) none) (ob (D7 .geq a (.int .u8 48)) λb=>M9 b (ob (D7 .leq a (.int .u8 57)) λX=>M9 X sT (ob (D7 .eql a (.int .u8 95)) λY=>M9 Y sT (ob (D7 .eql a (.int .u8 39)) λZ=>some Z) none) none) (ob (D7 .eql a (.int .u8 95)) λW=>M9 W sT (ob (D7 .eql a (.int .u8 39)) λU=>some U) none) none) none) none):=H7 []
def A2n:C8.p Zk [a]=sI C8 a:=BS func167
def sH:=eP f168 qI R [] (I1 f168 [(a,.val)] [])
def A4g:sH R a =
 (og (I5 3 a)<|ob (R.p R_ [(BI a),(iI 6)]) λx=>some x):=H7 []
def A2m:C8.p Tk [a]=sH C8 a:=BS func168
def pY:=eP f170 WH R [] (I1 f170 [(a,.val)] [])
def Am:=eP f170 WH R (pb 15) (ms 83 [(4,a)] [] [(1,bx b 7),(3,bv [c,d,e,f,g,h,o])] [])
def A16:pY R a =
 (og (I5 7 a)<|og (J2 (A8 0 a))<|og (J2 (A8 6 a))<|ob (D7 .eql (A8 0 a) (iI 1)) λx=>G9 x (Am R (iI 0) a (A8 0 a) (A8 1 a) (A8 2 a) (.str ⟨#[]⟩) (iI 0) (.str ⟨#[]⟩) (A8 6 a)) (ob (D7 .eql (A8 0 a) (iI 6)) λy=>G9 y (Am R (iI 0) a (A8 0 a) (A8 1 a) (A8 2 a) (.str ⟨#[]⟩) (iI 0) (.str ⟨#[]⟩) (A8 6 a)) (ob (D7 .eql (A8 0 a) (iI 8)) λz=>G9 z (Am R (iI 0) a (A8 0 a) (A8 1 a) (A8 2 a) (.str ⟨#[]⟩) (iI 0) (.str ⟨#[]⟩) (A8 6 a)) (ob (D7 .eql (A8 0 a) (iI 2)) λw=>G9 w (og (J2 (A8 3 a))<|ob (R.p RX [(A8 3 a)]) λu=>ob (j6 .not u) λv=>G9 v sF (Am R (iI 0) a (A8 0 a) (A8 1 a) (A8 2 a) (A8 3 a) (iI 0) (.str ⟨#[]⟩) (A8 6 a))) (ob (D7 .eql (A8 0 a) (iI 3)) λt=>G9 t (og (J2 (A8 4 a))<|Am R (iI 0) a (A8 0 a) (A8 1 a) (A8 2 a) (.str ⟨#[]⟩) (A8 4 a) (.str ⟨#[]⟩) (A8 6 a)) (ob (D7 .eql (A8 0 a) (iI 4)) λs=>
 G9 s (og (J2 (A8 4 a))<|ob (D7 .neq (A8 4 a) (iI 0)) λr=>M9 r (ob (D7 .neq (A8 4 a) (iI 1)) λq=>G9 q sF (Am R (iI 0) a (A8 0 a) (A8 1 a) (A8 2 a) (.str ⟨#[]⟩) (A8 4 a) (.str ⟨#[]⟩) (A8 6 a))) (Am R (iI 0) a (A8 0 a) (A8 1 a) (A8 2 a) (.str ⟨#[]⟩) (A8 4 a) (.str ⟨#[]⟩) (A8 6 a)) none) (ob (D7 .eql (A8 0 a) (iI 5)) λo=>G9 o (og (J2 (A8 5 a))<|ob (FB (A8 5 a)) λn=>ob (D7 .gtr n (iI 200)) λm=>G9 m sF (Am R (iI 0) a (A8 0 a) (A8 1 a) (A8 2 a) (.str ⟨#[]⟩) (iI 0) (A8 5 a) (A8 6 a))) (ob (D7 .eql (A8 0 a) (iI 7)) λl=>G9 l (Am R (iI 2) a (A8 0 a) (A8 1 a) (A8 2 a) (.str ⟨#[]⟩) (iI 0) (.str ⟨#[]⟩) (A8 6 a)) (ob (D7 .eql (A8 0 a) (iI 9)) λk=>G9 k (Am R (iI 2) a (A8 0 a) (A8 1 a) (A8 2 a) (.str ⟨#[]⟩) (iI 0) (.str ⟨#[]⟩) (A8 6 a)) sF))))))))):=H7 [24]
def wh:Am R a b c d e f g h o =
 (ob (N9 (A8 6 b)) λx=>ob (D7 .eql x a) λy=>M9 y (ob (D7 .eql f (A8 3 b)) λz=>M9 z (ob (D7 .eql g (A8 4 b)) λw=>M9 w (ob (D7 .eql h (A8 5 b)) λu=>some u) sF none) sF none) sF none):=H7 [24]
def A04:C8.p YA [a]=pY C8 a:=BS func170
def XN:=eR f171 JG OJ R [] (I1 f171 [(pt i),(a,.val)] s)
def Ls:=hR f171 JG OJ R (pb 28) (ms 27 [(1,a)] [(0,(.ptr i 0))] [] s)
def rC:XN R i a s =
 (oc (R.r Y2 [(pt i),(a,.val)] s) λq1 s1=>ob (j6 .not q1) λx=>G9 x (some ([(.int .i64 (-1))],s1)) (Ls R i a s1)):=H7 []
def Rf:Ls R i a s =
 (ob (H5 s i) λc1=>ob (Ar c1 0 5) λv2=>ob (j5 0 v2.2.2 a) λn3=>ob (V5 s v2.1 v2.2.1) λa4=>ob (a4.2[n3]?) λx=>og (a4.1==5)<|ob (D7 .geq (A8 2 x) (iI 0)) λy=>G9 y (ob (H5 s i) λc7=>ob (Ar c7 0 5) λv8=>ob (j5 0 v8.2.2 a) λn9=>ob (V5 s v8.1 v8.2.1) λa10=>ob (a10.2[n9]?) λz=>og (a10.1==5)<|Ls R i (A8 2 z) s) (some ([a],s))):=K5 []
def nJ:C8.r Q5 [(.undef,(.ptr i 0)),(a,.val)] s=XN C8 i a s:=BU (s:=JG) func171
def Vb:=eR f172 Mk Uj R [] (I1 f172 [(pt i),(a,.val)] s)
def mV:Vb R i a s =
 (ob (H5 s i) λc1=>ob (U8 c1 3) λy=>ob (D7 .add y (iI 1)) λx=>ob (H5 s i) λc4=>og (J2 x)<|ob (c4[3]?) λu5=>oc (R.r KW [(pt i),(a,.val),((.list 1 []),.own)] (s.set i (E5.box (c4.set 3 (x,.val))))) λq6 s6=>some ([q6],s6)):=H7 []
def kF:C8.r EE [(.undef,(.ptr i 0)),(a,.val)] s=Vb C8 i a s:=BU (s:=Mk) func172
def Sy:=eR f173 Dt Gu R [] (I1 f173 [(pt i),(a,.val)] s)
def GA:=eR f173 Dt Gu R (pb 31) (ms 64 [(1,a),(6,b)] [(0,(.ptr i 0))] [] s)
def CJ:=hR f173 Dt Gu R (pb 250) (ms 64 [(1,a),(6,b),(41,c),(42,d),(43,e)] [(0,(.ptr i 0))] [] s)
def gP:Sy R i a s =
 (ob (H5 s i) λc1=>ob (Bq c1 2) λi2=>og (j4 false a&&true)<|ob (R9 s i2) λm3=>og (m3.1==false)<|ob (D7 .gtr ((Y0 m3.2 a).getD (iI 0)) (iI 0)) λx=>G9 x (ob (D7 .eql ((Y0 m3.2 a).getD (iI 0)) (iI 1)) λy=>some ([y],s)) (ob (H5 s i) λc6=>ob (Bq c6 1) λi7=>og (j4 false a&&true)<|ob (R9 s i7) λm8=>og (m8.1==false)<|G9 (.bool (Y0 m8.2 a).isSome) (GA R i a (iI 1) s) (GA R i a (iI 2) s))):=H7 [8]
def aD:GA R i a b s =
 (ob (H5 s i) λc1=>ob (X9 c1 0) λi2=>ob (H5 s i2) λc3=>ob (Ar c3 0 5) λv4=>ob (j5 0 v4.2.2 a) λn5=>ob (V5 s v4.1 v4.2.1) λa6=>ob (a6.2[n5]?) λx=>og (a6.1==5)<|ob (N9 (A8 3 x)) λy=>CJ R i a b (A8 3 x) y (iI 0) s):=H7 [8]
def Ol:CJ R i a b c d e s =
 (ob (D7 .lss e d) λy=>G9 y (ob (M4 1 c e) λx=>og (N8 x)<|ob (H5 s i) λc3=>ob (X9 c3 0) λi4=>oc (R.r Q5 [(pt i4),(x,.val)] s) λq5 s5=>oc (R.r Ei [(pt i),(q5,.val)] s5) λq6 s6=>G9 q6 (ob (D7 .add e (iI 1)) λz=>CJ R i a (iI 1) c d z s6) (ob (D7 .add e (iI 1)) λw=>CJ R i a b c d w s6)) (ob (H5 s i) λc9=>ob (Bq c9 2) λi10=>og (j4 false a&&true&&true)<|ob (R9 s i10) λm11=>og (m11.1==false)<|ob (D7 .eql b (iI 1)) λu=>some ([u],(s.set i10 (E5.map false (Bz m11.2 a b)))))):=K5 [8]
def cB:C8.r Ei [(.undef,(.ptr i 0)),(a,.val)] s=Sy C8 i a s:=BU (s:=Dt) func173
def UJ:=eR f174 G_ MJ R [] (I1 f174 [(pt i),(a,.val)] s)
def CG:=hR f174 G_ MJ R (pb 1018) (ms 95 [(5,a),(10,b),(57,c),(58,d),(59,e)] [(0,(.ptr i 0)),(10,.own)] [] s)
def jg:UJ R i a s =
 (ob (H5 s i) λc1=>ob (X9 c1 0) λi2=>oc (R.r Q5 [(pt i2),(a,.val)] s) λq3 s3=>ob (H5 s3 i) λc4=>ob (Bq c4 1) λi5=>og (j4 false q3&&true)<|ob (R9 s3 i5) λm6=>og (m6.1==false)<|G9 (.bool (Y0 m6.2 q3).isSome) (some ([((Y0 m6.2 q3).getD (iI 0))],s3)) (oc (R.r Ei [(pt i),(q3,.val)] s3) λq7 s7=>ob (j6 .not q7) λy=>G9 y (some ([q3],s7)) (ob (H5 s7 i) λc9=>ob (Bq c9 3) λi10=>og (j4 false q3&&true)<|ob (R9 s7 i10) λm11=>og (m11.1==false)<|G9 (.bool (Y0 m11.2 q3).isSome) (some ([((Y0 m11.2 q3).getD (iI 0))],s7)) (ob (H5 s7 i) λc12=>ob (X9 c12 0) λi13=>ob (H5 s7 i13) λc14=>ob (Ar c14 0 5) λv15=>ob (j5 0 v15.2.2 q3) λn16=>ob (V5 s7 v15.1 v15.2.1) λa17=>ob (a17.2[n16]?) λx=>og (a17.1==5)<|ob (N9 (A8 3 x)) λz=>
 CG R i q3 (.list 1 []) (A8 3 x) z (iI 0) s7)))):=H7 []
def Oj:CG R i a b c d e s =
 (ob (D7 .lss e d) λz=>G9 z (ob (M4 1 c e) λx=>og (N8 x)<|oc (R.r Ik [(pt i),(x,.val)] s) λq3 s3=>og (J2 q3)<|ob (Di 1 b (.list 1 [q3])) λw=>ob (D7 .add e (iI 1)) λu=>CG R i a w c d u s3) (ob (H5 s i) λc6=>ob (X9 c6 0) λi7=>ob (H5 s i) λc8=>ob (X9 c8 0) λi9=>ob (H5 s i9) λc10=>ob (Ar c10 0 5) λv11=>ob (j5 0 v11.2.2 a) λn12=>ob (V5 s v11.1 v11.2.1) λa13=>ob (a13.2[n12]?) λy=>og (a13.1==5)<|og (J2 (A8 0 y))<|oc (R.r BO [(pt i7),((.agg [(A8 0 y),(iI 0),(iI 0),b,(iI 0)]),.val)] s) λq15 s15=>ob (H5 s15 i) λc16=>ob (Bq c16 3) λi17=>og (j4 false a&&true&&true)<|ob (R9 s15 i17) λm18=>og (m18.1==false)<|some ([q15],(s15.set i17 (E5.map false (Bz m18.2 a q15)))))):=K5 []
def g_:C8.r Ik [(.undef,(.ptr i 0)),(a,.val)] s=UJ C8 i a s:=BU (s:=G_) func174
def YW:=eR f175 OV Xk R [] (I1 f175 [(pt i),(a,.val)] s)
def tQ:YW R i a s =
 (og (I5 5 a)<|ob (H5 s i) λc1=>ob (Ar c1 0 5) λv2=>ob (V5 s v2.1 v2.2.1) λa3=>og (a3.1==5&&true&&decide (v2.2.2<=a3.2.length))<|ob (Jy 5 (.list 5 (a3.2.take v2.2.2)) (.list 5 [(.agg [(A8 0 a),(A8 1 a),(.int .i64 (-1)),(A8 3 a),(A8 4 a)])])) λp4=>ob (H5 (s.set v2.1 (E5.Q0 (v2.2.1+1) 5 (p4.1++p4.2))) i) λc5=>ob (c5[0]?) λu6=>ob (H5 ((s.set v2.1 (E5.Q0 (v2.2.1+1) 5 (p4.1++p4.2))).set i (E5.box (c5.set 0 (.undef,(.Q0 v2.1 (v2.2.1+1) 5 (p4.1.length+p4.2.length)))))) i) λc7=>ob (U8 c7 2) λy=>ob (D7 .add y (iI 1)) λx=>ob (H5 ((s.set v2.1 (E5.Q0 (v2.2.1+1) 5 (p4.1++p4.2))).set i (E5.box (c5.set 0 (.undef,(.Q0 v2.1 (v2.2.1+1) 5 (p4.1.length+p4.2.length)))))) i) λc10=>og (J2 x)<|ob (c10[2]?) λu11=>ob (H5 (((s.set v2.1 (E5.Q0 (v2.2.1+1) 5 (p4.1++p4.2))).set i (E5.box (c5.set 0 (.undef,(.Q0 v2.1 (v2.2.1+1) 5 (p4.1.length+p4.2.length)))))).set i (E5.box (c10.set 2 (x,.val)))) i) λc12=>ob (Ar c12 0 5) λv13=>ob (iQ v13.2.2) λz=>ob (D7 .sub z (iI 1)) λw=>
 some ([w],(((s.set v2.1 (E5.Q0 (v2.2.1+1) 5 (p4.1++p4.2))).set i (E5.box (c5.set 0 (.undef,(.Q0 v2.1 (v2.2.1+1) 5 (p4.1.length+p4.2.length)))))).set i (E5.box (c10.set 2 (x,.val)))))):=H7 []
def rQ:C8.r BO [(.undef,(.ptr i 0)),(a,.val)] s=YW C8 i a s:=BU (s:=OV) func175
end
end Go.Su

/-
 Equations of the program's functions: by program.
-/
namespace Go.Su
set_option linter.defProp false
set_option maxRecDepth 100000
noncomputable section
open Go.Proofs
open Tryz
variable (R: O9)(i l m n: Nat)(a b c d e f g o p q r t u v w x y z a5 a6 a7 a8 a12 a14 a15 a16 a17 a22: DV)(s: List E5)
def sG:=eP f177 YH R [] (I1 f177 [(a,.val)] [])
def Ob:=eP f177 YH R (pb 430) (ms 28 [] [] [(1,bx a 16)] [])
def A4f:sG R a =
 (og (I5 16 a)<|ob (D7 .eql (A8 0 a) (iI 1)) λx=>G9 x sT (ob (D7 .eql (A8 0 a) (iI 2)) λy=>G9 y sT (ob (D7 .eql (A8 0 a) (iI 3)) λz=>G9 z sT (ob (D7 .eql (A8 0 a) (iI 4)) λw=>G9 w sT (ob (D7 .eql (A8 0 a) (iI 5)) λu=>G9 u sT (ob (D7 .eql (A8 0 a) (iI 7)) λv=>G9 v sT (ob (D7 .eql (A8 0 a) (iI 9)) λt=>G9 t sT (ob (D7 .eql (A8 0 a) (iI 6)) λs=>G9 s (Ob R a) (ob (D7 .eql (A8 0 a) (iI 8)) λr=>G9 r (Ob R a) sF))))))))):=H7 [12]
def zJ:Ob R a =
 (ob (M4 16 (A8 15 a) (iI 0)) λx=>ob (R.p O_ [(X7 x)]) λy=>M9 y (ob (M4 16 (A8 15 a) (iI 1)) λz=>ob (R.p O_ [(X7 z)]) λw=>some w) sF none):=H7 [12]
def A2l:C8.p O_ [a]=sG C8 a:=BS func177
def XO:=eR f178 JH OL R [] (I1 f178 [(pt i),(a,.val)] s)
def El:=hR f178 JH OL R (pb 122) (ms 35 [(5,a),(14,b),(15,c),(16,d)] [(0,(.ptr i 0)),(5,.own)] [] s)
def rD:XO R i a s =
 (oc (R.r Y2 [(pt i),(a,.val)] s) λq1 s1=>ob (j6 .not q1) λx=>G9 x (some ([(.list 1 [])],s1)) (oc (R.r EE [(pt i),(a,.val)] s1) λq3 s3=>ob (N9 q3) λy=>El R i (.list 1 []) q3 y (iI 0) s3)):=H7 []
def Rh:El R i a b c d s =
 (ob (D7 .lss d c) λy=>G9 y (ob (M4 1 b d) λx=>og (N8 x)<|ob (H5 s i) λc3=>ob (Ar c3 0 5) λv4=>ob (j5 0 v4.2.2 x) λn5=>ob (V5 s v4.1 v4.2.1) λa6=>ob (a6.2[n5]?) λz=>og (a6.1==5)<|ob (D7 .eql (A8 0 z) (iI 6)) λw=>G9 w (og (J2 x)<|ob (Di 1 a (.list 1 [x])) λu=>ob (D7 .add d (iI 1)) λv=>El R i u b c v s) (ob (D7 .add d (iI 1)) λt=>El R i a b c t s)) (some ([a],s))):=K5 []
def nK:C8.r KV [(.undef,(.ptr i 0)),(a,.val)] s=XO C8 i a s:=BU (s:=JH) func178
def VY:=eR f179 Mi Uh R [] (I1 f179 [(pt i),(a,.val)] s)
def mQ:VY R i a s =
 (oc (R.r Y4 [(pt i),(a,.val)] s) λq1 s1=>ob (D7 .neq q1 (iI 6)) λx=>G9 x (some ([(.int .i64 (-1))],s1)) (ob (H5 s1 i) λc3=>ob (Ar c3 0 5) λv4=>oc (R.r Q5 [(pt i),(a,.val)] s1) λq5 s5=>MZ (s5[i]?=s1[i]?)<|ob (j5 0 v4.2.2 q5) λn6=>ob (V5 s5 v4.1 v4.2.1) λa7=>ob (a7.2[n6]?) λy=>og (a7.1==5)<|some ([(A8 1 y)],s5))):=H7 []
def kC:C8.r GJ [(.undef,(.ptr i 0)),(a,.val)] s=VY C8 i a s:=BU (s:=Mi) func179
def cu:=eR f180 Ff Jj R [] (I1 f180 [(pt i),(a,.val),(b,.val)] s)
def Ka:=eR f180 Ff Jj R (pb 15) (ms 108 [(7,a)] [(0,(.ptr i 0))] [(4,bx b 7)] s)
def KZ:=eR f180 Ff Jj R (pb 15102) (ms 108 [(2,a)] [(0,(.ptr i 0))] [(4,bx b 7)] s)
def Jw:=hR f180 Ff Jj R (pb 122) (ms 108 [(7,a),(90,b),(91,c),(92,d)] [(0,(.ptr i 0))] [] s)
def zG:cu R i a b s =
 (og (I5 7 a)<|ob (D7 .eql (A8 0 a) (iI 1)) λy=>G9 y (some ([(iI 0)],s)) (ob (D7 .eql (A8 0 a) (iI 2)) λz=>G9 z (ob (H5 s i) λc3=>ob (QX c3 2 1) λv4=>og (J2 (A8 3 a))<|ob (Ro s v4.2.1 v4.2.2 1 v4.1 (.list 1 [(A8 3 a)])) λp5=>ob (H5 p5.2 i) λc6=>ob (QX c6 3 1) λv7=>MZ (p5.2[i]?=s[i]?)<|og (J2 b)<|ob (Ro p5.2 v7.2.1 v7.2.2 1 v7.1 (.list 1 [b])) λp8=>ob (H5 p8.2 i) λc9=>ob (c9[2]?) λu10=>ob (H5 (p8.2.set i (E5.box (c9.set 2 (p5.1,(.U3 v4.2.1 (v4.2.2+1) 1))))) i) λc11=>ob (c11[3]?) λu12=>some ([(iI 0)],((p8.2.set i (E5.box (c9.set 2 (p5.1,(.U3 v4.2.1 (v4.2.2+1) 1))))).set i (E5.box (c11.set 3 (p8.1,(.U3 v7.2.1 (v7.2.2+1) 1))))))) (ob (D7 .eql (A8 0 a) (iI 7)) λw=>G9 w (ob (R.r CX [(pt i),((Sz a),.val),(b,.val),((iI 7),.val),((iI 2),.val)] s) λq14=>ob (Q4 0 (.J8 q14.1)) λu=>ob (Q4 1 (.J8 q14.1)) λm=>ob (Q4 2 (.J8 q14.1)) λx=>ob (D7 .neq x (iI 0)) λv=>G9 v (some ([x],q14.2)) (Ka R i u a q14.2)) (ob (D7 .eql (A8 0 a) (iI 8)) λt=>
 G9 t (KZ R i b a s) (ob (D7 .eql (A8 0 a) (iI 9)) λq=>G9 q (KZ R i b a s) (ob (R.p fZ [(A8 0 a)]) λo=>ob (D7 .sub o (iI 1)) λn=>oc (R.r Le [(pt i),((Sz a),.val),(b,.val),(n,.val)] s) λq23 s23=>some ([q23],s23))))))):=H7 [16,20]
def qp:Ka R i a b s =
 (ob (N9 (A8 6 b)) λx=>Jw R i a (A8 6 b) x (iI 0) s):=H7 [16,20]
def qo:KZ R i a b s =
 (ob (R.r CX [(pt i),((Sz b),.val),(a,.val),((iI 8),.val),((iI 1),.val)] s) λq1=>ob (Q4 0 (.J8 q1.1)) λz=>ob (Q4 1 (.J8 q1.1)) λy=>ob (Q4 2 (.J8 q1.1)) λx=>ob (D7 .neq x (iI 0)) λw=>M9 w (some ([x],q1.2)) (ob (D7 .eql (A8 0 b) (iI 8)) λu=>G9 u (some ([x],q1.2)) (og (J2 y)<|ob (Di 1 z (.list 1 [y])) λv=>Ka R i v b q1.2)) none):=H7 [16,20]
def UV:Jw R i a b c d s =
 (ob (D7 .lss d c) λy=>G9 y (ob (M4 7 b d) λz=>ob (M4 1 a d) λx=>og (N8 x)<|oc (R.r Hy [(pt i),((Sz z),.val),(x,.val)] s) λq4 s4=>ob (D7 .neq q4 (iI 0)) λw=>G9 w (some ([q4],s4)) (ob (D7 .add d (iI 1)) λu=>Jw R i a b c u s4)) (some ([(iI 0)],s))):=K5 [16,20]
def wm:C8.r Hy [(.undef,(.ptr i 0)),(a,.val),(b,.val)] s=cu C8 i a b s:=BU (s:=Ff) func180
def rq:=eP f181 YG R [] (I1 f181 [(a,.val),(b,.val)] [])
def Oa:=hP f181 YG R (pb 122) (ms 31 [(1,a),(5,b),(13,c),(14,d),(15,e)] [] [] [])
def A39:rq R a b =
 (og (I5 3 a)<|ob (N9 (A8 2 a)) λx=>ob (D7 .eql x (iI 0)) λy=>G9 y (some (iI 0)) (ob (N9 (A8 2 a)) λz=>Oa R b (iI 1) (A8 2 a) z (iI 0))):=H7 []
def aF:Oa R a b c d e =
 (ob (D7 .lss e d) λx=>G9 x (ob (M4 3 c e) λy=>ob (D7 .gtr b a) λz=>G9 z (some b) (ob (D7 .sub a b) λw=>ob (R.p Tf [(BI y),w]) λu=>ob (D7 .add b u) λv=>ob (D7 .add e (iI 1)) λt=>Oa R a v c d t)) (some b)):=K5 []
def A2i:C8.p Tf [a,b]=rq C8 a b:=BS func181
def YX:=eR f182 KD PZ R [] (I1 f182 [(pt i),(a,.val)] s)
def Dh:=hR f182 KD PZ R (pb 122) (ms 35 [(5,a),(16,b),(17,c),(18,d)] [(0,(.ptr i 0)),(5,.own)] [(3,bx e 3)] s)
def tT:YX R i a s =
 (og (I5 3 a)<|ob (N9 (A8 2 a)) λx=>ob (D7 .eql x (iI 0)) λy=>G9 y (ob (D7 .sub (A8 0 a) (iI 1)) λz=>some ([z],s)) (ob (N9 (A8 2 a)) λw=>Dh R i (.list 1 []) (A8 2 a) w (iI 0) a s)):=H7 []
def TC:Dh R i a b c d e s =
 (ob (D7 .lss d c) λx=>G9 x (ob (M4 3 b d) λy=>oc (R.r Lf [(pt i),((BI y),.val)] s) λq3 s3=>og (J2 q3)<|ob (Di 1 a (.list 1 [q3])) λz=>ob (D7 .add d (iI 1)) λw=>Dh R i z b c w e s3) (og (J2 (A8 0 e))<|oc (R.r BO [(pt i),((.agg [(A8 0 e),(iI 0),(iI 0),a,(iI 0)]),.val)] s) λq6 s6=>some ([q6],s6))):=K5 []
def rR:C8.r Lf [(.undef,(.ptr i 0)),(a,.val)] s=YX C8 i a s:=BU (s:=KD) func182
def VZ:=eR f183 Mj Ui R [] (I1 f183 [(pt i),(a,.val),(b,.val)] s)
def mR:VZ R i a b s =
 (oc (R.r Y2 [(pt i),(a,.val)] s) λq1 s1=>ob (j6 .not q1) λx=>M9 x (some ([(iI 1)],s1)) (ob (D7 .lss b (iI 0)) λy=>G9 y (some ([(iI 1)],s1)) (oc (R.r Jv [(pt i),(a,.val),(b,.val)] s1) λq4 s4=>some ([(iI 0)],s4))) none):=H7 []
def kD:C8.r Ju [(.undef,(.ptr i 0)),(a,.val),(b,.val)] s=VZ C8 i a b s:=BU (s:=Mj) func183
def ib:=eR f184 NR Uf R [] (I1 f184 [(pt i),(a,.val),(b,.val)] s)
def Dv(R:O9)(t0i:Nat)(t1 t2:DV)(t8r0 t8r1 t8r3:Nat)(t35 t36:DV)(sg:List E5):Option (List DV×List E5):=hR f184 NR Uf R (pb 250) (ms 77 [(1,t1),(2,t2),(35,t35),(36,t36)] [(0,(.ptr t0i 0)),(8,(.Q0 t8r0 t8r1 1 t8r3))] [] sg)
def A0S:ib R i a b s =
 (oc (R.r Y4 [(pt i),(b,.val)] s) λq1 s1=>ob (D7 .eql q1 (iI 6)) λx=>M9 x (oc (R.r Eg [(pt i),(a,.val),(b,.val)] s1) λq3 s3=>some ([(.int .i64 (-1)),q3],s3)) (oc (R.r Mx [(pt i),(b,.val)] s1) λq4 s4=>G9 q4 (oc (R.r Eg [(pt i),(a,.val),(b,.val)] s4) λq5 s5=>some ([(.int .i64 (-1)),q5],s5)) (oc (R.r Ij [(pt i),(a,.val),(b,.val)] s4) λq6 s6=>G9 q6 (some ([(.int .i64 (-1)),(iI 5)],s6)) (oc (R.r DU [(pt i),(b,.val)] (s6++[E5.Q0 1 1 [(iI 0),(iI 0)]])) λq7 s7=>ob (N9 q7) λy=>Dv R i a b (s6.length) 1 2 y (iI 0) s7))) none):=H7 []
def Xe(R:O9)(t0i:Nat)(t1 t2:DV)(t8r0 t8r1 t8r3:Nat)(t35 t36:DV)(sg:List E5):Dv R t0i t1 t2 t8r0 t8r1 t8r3 t35 t36 sg =
 (ob (D7 .lss t36 t35) λt=>G9 t (oc (R.r GJ [(pt t0i),(t1,.val)] sg) λq2 s2=>ob (R.r IZ [(pt t0i),(q2,.val)] s2) λq3=>ob (Q4 0 (.J8 q3.1)) λx=>ob (Q4 1 (.J8 q3.1)) λy=>ob (D7 .neq y (iI 0)) λs=>G9 s (some ([(.int .i64 (-1)),y],q3.2)) (ob (j5 0 t8r3 t36) λn7=>ob (V5 q3.2 t8r0 t8r1) λa8=>ob (a8.2[n7]?) λq=>og (a8.1==1)<|og (J2 x)<|ob (KQ 1 0 q [(x,.val)]) λe10=>ob (D7 .add t36 (iI 1)) λp=>Dv R t0i t1 t2 t8r0 t8r1 t8r3 t35 p (q3.2.set t8r0 (E5.Q0 t8r1 1 (a8.2.set n7 e10))))) (oc (R.r Y4 [(pt t0i),(t2,.val)] sg) λq12 s12=>ob (j5 0 t8r3 (iI 0)) λn13=>ob (V5 s12 t8r0 t8r1) λa14=>ob (a14.2[n13]?) λz=>og (a14.1==1)<|og (N8 z)<|MZ (s12[t8r0]?=sg[t8r0]?)<|ob (j5 0 t8r3 (iI 1)) λn16=>ob (V5 s12 t8r0 t8r1) λa17=>ob (a17.2[n16]?) λw=>og (a17.1==1)<|og (N8 w)<|MZ (s12[t8r0]?=sg[t8r0]?)<|ob (R.r Eh [(pt t0i),(q12,.val),(z,.val),(w,.val)] s12) λq19=>
 ob (Q4 0 (.J8 q19.1)) λu=>ob (Q4 1 (.J8 q19.1)) λv=>ob (D7 .neq v (iI 0)) λo=>G9 o (some ([(.int .i64 (-1)),v],q19.2)) (oc (R.r Eg [(pt t0i),(t1,.val),(u,.val)] q19.2) λq23 s23=>some ([u,q23],s23)))):=K5 []
def zO:C8.r QJ [(.undef,(.ptr i 0)),(a,.val),(b,.val)] s=ib C8 i a b s:=BU (s:=NR) func184
def xN:=eP f197 uA R [] (I1 f197 [(a,.val)] [])
def A5G:xN R a =
 (ob (D7 .geq a (.int .u8 48)) λx=>M9 x (ob (D7 .leq a (.int .u8 57)) λy=>some y) sF none):=H7 []
def A4s:C8.p fo [a]=xN C8 a:=BS func197
def pq:=eP f198 WI R [] (I1 f198 [(a,.val),(b,.val)] [])
def Jf:=hP f198 WI R (pb 58) (ms 23 [(1,a),(12,b),(13,c),(14,d)] [] [] [])
def A2c:pq R a b =
 (og (I5 3 a)<|ob (D7 .eql (A8 0 a) b) λx=>G9 x sF (ob (N9 (A8 2 a)) λy=>Jf R b (A8 2 a) y (iI 0))):=H7 []
def Yc:Jf R a b c d =
 (ob (D7 .lss d c) λx=>G9 x (ob (M4 3 b d) λy=>ob (R.p R_ [(BI y),a]) λz=>ob (j6 .not z) λw=>G9 w sF (ob (D7 .add d (iI 1)) λu=>Jf R a b c u)) sT):=K5 []
def A05:C8.p R_ [a,b]=pq C8 a b:=BS func198
def XP:=eR f201 JI OM R [] (I1 f201 [(pt i),(a,.val),(b,.own)] s)
def Hz:=hR f201 JI OM R (pb 506) (ms 61 [(2,a),(49,b),(50,c),(51,d)] [(0,(.ptr i 0)),(2,.own)] [] s)
def rE:XP R i a b s =
 (oc (R.r Q5 [(pt i),(a,.val)] s) λq1 s1=>ob (H5 s1 i) λc2=>ob (Ar c2 0 5) λv3=>ob (j5 0 v3.2.2 q1) λn4=>ob (V5 s1 v3.1 v3.2.1) λa5=>ob (a5.2[n4]?) λz=>og (a5.1==5)<|ob (H5 s1 i) λc7=>ob (U8 c7 3) λw=>ob (D7 .eql (A8 4 z) w) λu=>G9 u (some ([b],s1)) (ob (H5 s1 i) λc10=>ob (Ar c10 0 5) λv11=>ob (H5 s1 i) λc12=>ob (U8 c12 3) λx=>ob (j5 0 v11.2.2 q1) λn14=>ob (V5 s1 v11.1 v11.2.1) λa15=>ob (a15.2[n14]?) λv=>og (a15.1==5)<|og (J2 x)<|ob (KQ 5 4 v [(x,.val)]) λe17=>og (J2 q1)<|ob (Di 1 b (.list 1 [q1])) λt=>ob (H5 (s1.set v11.1 (E5.Q0 v11.2.1 5 (a15.2.set n14 e17))) i) λc19=>ob (Ar c19 0 5) λv20=>ob (j5 0 v20.2.2 q1) λn21=>ob (V5 (s1.set v11.1 (E5.Q0 v11.2.1 5 (a15.2.set n14 e17))) v20.1 v20.2.1) λa22=>ob (a22.2[n21]?) λy=>og (a22.1==5)<|ob (N9 (A8 3 y)) λq=>Hz R i t (A8 3 y) q (iI 0) (s1.set v11.1 (E5.Q0 v11.2.1 5 (a15.2.set n14 e17))))):=H7 []
def Rk:Hz R i a b c d s =
 (ob (D7 .lss d c) λy=>G9 y (ob (M4 1 b d) λx=>og (N8 x)<|oc (R.r KW [(pt i),(x,.val),(a,.own)] s) λq3 s3=>ob (D7 .add d (iI 1)) λz=>Hz R i q3 b c z s3) (some ([a],s))):=K5 []
def nL:C8.r KW [(.undef,(.ptr i 0)),(a,.val),(b,.own)] s=XP C8 i a b s:=BU (s:=JI) func201
def Zl:=eR f202 LC RJ R [] (I1 f202 [(pt i),(a,.val),(b,.val),(c,.val),(d,.val)] s)
def Cv:=hR f202 LC RJ R (pb 26) (ms 65 [(2,a),(3,b),(4,c),(10,d),(15,e),(16,f)] [(0,(.ptr i 0)),(10,.own)] [(6,bx g 7)] s)
def wX:Zl R i a b c d s =
 (og (I5 7 a)<|Cv R i b c d (.list 1 []) d (iI 0) a s):=H7 []
def UU:Cv R i a b c d e f g s =
 (ob (D7 .lss f e) λt=>G9 t (ob (H5 s i) λc2=>ob (X9 c2 0) λi3=>ob (H5 s i) λc4=>ob (U8 c4 1) λq=>ob (R.r IZ [(pt i3),(q,.val)] s) λq6=>ob (Q4 0 (.J8 q6.1)) λx=>ob (Q4 1 (.J8 q6.1)) λy=>ob (D7 .neq y (iI 0)) λp=>G9 p (some ([(.list 1 []),(iI 0),y],q6.2)) (og (J2 x)<|ob (Di 1 d (.list 1 [x])) λo=>ob (D7 .add f (iI 1)) λn=>Cv R i a b c o e n g q6.2)) (ob (H5 s i) λc12=>ob (X9 c12 0) λi13=>ob (M4 1 d (iI 0)) λz=>og (N8 z)<|ob (D7 .sub c (iI 1)) λm=>ob (M4 1 d m) λw=>og (N8 w)<|ob (R.r Eh [(pt i13),(b,.val),(z,.val),(w,.val)] s) λq17=>ob (Q4 0 (.J8 q17.1)) λu=>ob (Q4 1 (.J8 q17.1)) λv=>ob (D7 .neq v (iI 0)) λl=>G9 l (some ([(.list 1 []),(iI 0),v],q17.2)) (oc (R.r Le [(pt i),((Sz g),.val),(a,.val),(u,.val)] q17.2) λq21 s21=>some ([d,u,q21],s21)))):=K5 []
def tq:C8.r CX [(.undef,(.ptr i 0)),(a,.val),(b,.val),(c,.val),(d,.val)] s=Zl C8 i a b c d s:=BU (s:=LC) func202
def YT:=eR f203 OQ Xh R [] (I1 f203 [(pt i),(a,.val),(b,.val),(c,.val)] s)
def tK:YT R i a b c s =
 (og (I5 7 a)<|ob (H5 s i) λc1=>ob (X9 c1 0) λi2=>ob (R.r Ry [(pt i2),(b,.val),(c,.val)] s) λq3=>ob (Q4 0 (.J8 q3.1)) λy=>ob (Q4 1 (.J8 q3.1)) λz=>ob (Q4 2 (.J8 q3.1)) λx=>ob (D7 .neq x (iI 0)) λw=>M9 w (ob (D7 .neq x (iI 7)) λu=>G9 u (og (J2 x)<|og (J2 y)<|og (J2 z)<|ob (H5 q3.2 i) λc9=>if 4+6<=c9.length then(some ([x],(q3.2.set i (E5.box (FF c9 4 [((A8 1 a),.val),((A8 2 a),.val),(x,.val),(y,.val),(z,.val),((.str ⟨#[]⟩),.val)])))))else none) (some ([x],q3.2))) (some ([x],q3.2)) none):=H7 []
def rJ:C8.r Le [(.undef,(.ptr i 0)),(a,.val),(b,.val),(c,.val)] s=YT C8 i a b c s:=BU (s:=OQ) func203
def xM:=eP f204 t_ R [] (I1 f204 [(a,.val)] [])
def A5F:xM R a =
 (ob (D7 .eql a (iI 3)) λx=>G9 x (some (iI 1)) (ob (D7 .eql a (iI 4)) λy=>G9 y (some (iI 2)) (ob (D7 .eql a (iI 5)) λz=>G9 z (some (iI 3)) (ob (D7 .eql a (iI 6)) λw=>G9 w (some (iI 4)) (ob (D7 .eql a (iI 8)) λu=>G9 u (some (iI 8)) (some (iI 0))))))):=H7 []
def A4r:C8.p fZ [a]=xM C8 a:=BS func204
def Va:=eR f205 IR NF R [] (I1 f205 [(pt i),(a,.val),(b,.val)] s)
def Gr:=hR f205 IR NF R (pb 6) (ms 34 [(2,a),(10,b),(11,c),(12,d)] [(0,(.ptr i 0))] [] s)
def mU:Va R i a b s =
 (oc (R.r KV [(pt i),(a,.val)] s) λq1 s1=>ob (N9 q1) λx=>Gr R i b q1 x (iI 0) s1):=H7 []
def Qx:Gr R i a b c d s =
 (ob (D7 .lss d c) λz=>G9 z (ob (M4 1 b d) λx=>og (N8 x)<|ob (H5 s i) λc3=>ob (Ar c3 0 5) λv4=>ob (H5 s i) λc5=>ob (Ar c5 0 5) λv6=>ob (j5 0 v6.2.2 x) λn7=>ob (V5 s v6.1 v6.2.1) λa8=>ob (a8.2[n7]?) λw=>og (a8.1==5)<|ob (Zx (A8 1 w) a) λy=>ob (j5 0 v4.2.2 x) λn11=>ob (V5 s v4.1 v4.2.1) λa12=>ob (a12.2[n11]?) λu=>og (a12.1==5)<|og (J2 y)<|ob (KQ 5 1 u [(y,.val)]) λe14=>ob (D7 .add d (iI 1)) λv=>Gr R i a b c v (s.set v4.1 (E5.Q0 v4.2.1 5 (a12.2.set n11 e14)))) (some ([],s))):=K5 []
def kE:C8.r Jv [(.undef,(.ptr i 0)),(a,.val),(b,.val)] s=Va C8 i a b s:=BU (s:=IR) func205
def UH:=eR f206 LZ TI R [] (I1 f206 [(pt i),(a,.val)] s)
def je:UH R i a s =
 (oc (R.r Y2 [(pt i),(a,.val)] s) λq1 s1=>M9 q1 (oc (R.r EE [(pt i),(a,.val)] s1) λq2 s2=>ob (R.p Cb [q2,(iI 4)]) λx=>ob (j6 .not x) λy=>some ([y],s2)) (some ([(.bool false)],s1)) none):=H7 []
def gu:C8.r Mx [(.undef,(.ptr i 0)),(a,.val)] s=UH C8 i a s:=BU (s:=LZ) func206
def Kc:=eR f207 NV Vj R [] (I1 f207 [(pt i),(a,.val),(b,.val)] s)
def qz:Kc R i a b s =
 (oc (R.r Q5 [(pt i),(a,.val)] s) λq1 s1=>oc (R.r Q5 [(pt i),(b,.val)] s1) λq2 s2=>ob (D7 .lss q1 (iI 0)) λx=>M9 x (some ([(iI 1)],s2)) (ob (D7 .lss q2 (iI 0)) λy=>M9 y (some ([(iI 1)],s2)) (ob (H5 s2 i) λc5=>ob (Ar c5 0 5) λv6=>ob (j5 0 v6.2.2 q1) λn7=>ob (V5 s2 v6.1 v6.2.1) λa8=>ob (a8.2[n7]?) λz=>og (a8.1==5)<|ob (D7 .neq (A8 0 z) (iI 6)) λw=>M9 w (some ([(iI 1)],s2)) (ob (D7 .eql q1 q2) λu=>G9 u (some ([(iI 1)],s2)) (oc (R.r Ij [(pt i),(q1,.val),(q2,.val)] s2) λq12 s12=>G9 q12 (some ([(iI 5)],s12)) (ob (H5 s12 i) λc13=>ob (Ar c13 0 5) λv14=>ob (j5 0 v14.2.2 q1) λn15=>ob (V5 s12 v14.1 v14.2.1) λa16=>ob (a16.2[n15]?) λv=>og (a16.1==5)<|og (J2 q2)<|ob (KQ 5 2 v [(q2,.val)]) λe18=>
 ob (H5 (s12.set v14.1 (E5.Q0 v14.2.1 5 (a16.2.set n15 e18))) i) λc19=>ob (Ar c19 0 5) λv20=>ob (j5 0 v20.2.2 q1) λn21=>ob (V5 (s12.set v14.1 (E5.Q0 v14.2.1 5 (a16.2.set n15 e18))) v20.1 v20.2.1) λa22=>ob (a22.2[n21]?) λt=>og (a22.1==5)<|oc (R.r Jv [(pt i),(q2,.val),((A8 1 t),.val)] (s12.set v14.1 (E5.Q0 v14.2.1 5 (a16.2.set n15 e18)))) λq24 s24=>some ([(iI 0)],s24)))) none) none) none):=H7 []
def nG:C8.r Eg [(.undef,(.ptr i 0)),(a,.val),(b,.val)] s=Kc C8 i a b s:=BU (s:=NV) func207
def UI:=eR f208 La TJ R [] (I1 f208 [(pt i),(a,.val),(b,.val)] s)
def jf:UI R i a b s =
 (oc (R.r Y2 [(pt i),(a,.val)] s) λq1 s1=>M9 q1 (oc (R.r Y2 [(pt i),(b,.val)] s1) λq2 s2=>M9 q2 (oc (R.r EE [(pt i),(b,.val)] s2) λq3 s3=>oc (R.r Q5 [(pt i),(a,.val)] s3) λq4 s4=>ob (R.p Cb [q3,q4]) λx=>some ([x],s4)) (some ([(.bool false)],s2)) none) (some ([(.bool false)],s1)) none):=H7 []
def gy:C8.r Ij [(.undef,(.ptr i 0)),(a,.val),(b,.val)] s=UI C8 i a b s:=BU (s:=La) func208
def Nh:=eP f214 Mq R [] (I1 f214 [(a,.val),(b,.val)] [])
def Xc:Nh R a b =
 (ob (R.p KF [a,b]) λx=>ob (D7 .geq x (iI 0)) λy=>some y):=H7 []
def WF:C8.p Cb [a,b]=Nh C8 a b:=BS func214
def Qq:=eP f215 Jk R [] (I1 f215 [(a,.val),(b,.val)] [])
def EU:=hP f215 Jk R (pb 26) (ms 19 [(0,a),(1,b),(7,c),(8,d)] [] [] [])
def aC:Qq R a b =
 (ob (N9 a) λx=>EU R a b x (iI 0)):=H7 []
def Mm:EU R a b c d =
 (ob (D7 .lss d c) λy=>G9 y (ob (M4 1 a d) λx=>og (N8 x)<|ob (D7 .eql b x) λz=>G9 z (some d) (ob (D7 .add d (iI 1)) λw=>EU R a b c w)) (some (.int .i64 (-1)))):=K5 []
def Yy:C8.p KF [a,b]=Qq C8 a b:=BS func215
end
end Go.Su

/-
 All equations.
-/
namespace Go.Su
end Go.Su

/-
 The functions' specs that this claim needs.
-/
namespace Go.Su
set_option linter.defProp false
def big{n:Nat}(h:n<=Q8):n<4294967297:=by unfold Q8 at h;omega
def Ty.B6E{t k:Ty}(ht:t.size<=Q8)(h:k∈t.D5):k.size<=Q8:=by have:=Ty.Cy h;omega
def Ty.A9z{t:Ty}(ht:t.size<=Q8):t.D5.length<4294967296:=by have:=t.A1g;have:=big ht;omega
variable (k:Int)
def A8Q:C8.p lS [iI k]=some (iI (IB k)):=by refine(A52 _).trans ?_;rw[A8f];simp[IB];by_cases h1:k=1<;>by_cases h2:k=2<;>by_cases h3:k=3<;>by_cases h4:k=4<;>by_cases h5:k=5<;>by_cases h6:k=6<;>by_cases h7:k=7<;>by_cases h8:k=8<;>by_cases h9:k=9<;>simp_all
def A7T:C8.p fw [iI k]=some (iI (IB k)):=by refine(A4B _).trans ?_;rw[A5R];simp[IB];by_cases h1:k=1<;>by_cases h2:k=2<;>by_cases h3:k=3<;>by_cases h4:k=4<;>by_cases h5:k=5<;>by_cases h6:k=6<;>by_cases h7:k=7<;>by_cases h8:k=8<;>by_cases h9:k=9<;>simp_all
variable (t:Ty)
def vJ:t.thin=true->C8.p RU [t.D9]=some (.bool t.right):=by
 induction t using Ty.ind with
 |h t ih=>
   intro ht;have hb:=t.Dz ht;refine(A4u _).trans ?_;have loop:JV C8 (iI 0) t.D9=_:=az (l:=t.D5) (f:=Ty.right) (P:=λi=>JV C8 (iI i) t.D9) (y:=.bool true) (n:=.bool false)
    (by rw[dR];simp)
    (λi h=>by rw[dR];simp[h,R7 h,Ty.l6,Ty.ag,ih _ (z0q h) (Ty.Dy ht (z0q h)),Br (show i<9223372036854775807 by omega)];cases t.D5[i].right<;>rfl)
   rw[A5I];simp only[Y9,F8,Ty.Bh,Ty.EC,Ty.DN,A8Q,N7,DY,DX,IW,Dw,P5,F3,loop,Ty.right_eq t,z4q]
   grind
def A7U:t.thin=true->C8.p Wq [t.D9]=some (.bool t.right):=by
 induction t using Ty.ind with
 |h t ih=>
   intro ht;have hb:=t.Dz ht;refine(A4C _).trans ?_;have loop:Lv C8 (.list 3 (t.D5.map Ty.D9)) (iI t.D5.length) (iI 0)=_:=az (l:=t.D5) (f:=Ty.right) (P:=λi=>Lv C8 (.list 3 (t.D5.map Ty.D9)) (iI t.D5.length) (iI i)) (y:=.bool true) (n:=.bool false)
    (by rw[dY];simp)
    (λi h=>by rw[dY];simp[h,R7 h,Ty.l6,Ty.ag,ih _ (z0q h) (Ty.Dy ht (z0q h)),Br (show i<9223372036854775807 by omega)];cases t.D5[i].right<;>rfl)
   rw[A5S];simp only[Y9,F8,Ty.Bh,Ty.EC,Ty.DN,A7T,N7,DY,DX,IW,Dw,V_,PO,AV,P5,F3,loop,Ty.right_eq t,z4q];have h0:t.E8=6->IB t.E8=0:=λh=>by rw[h];rfl
   have h7:t.E8=6->IB t.E8=t.D5.length->t.D5.all Ty.right=true:=λh h'=>by have:t.D5=[]:=List.eq_nil_of_length_eq_zero (by have:=h0 h;omega);rw[this];rfl
   have h8:(t.D5.length:Int)=IB t.E8↔IB t.E8=t.D5.length:=eq_comm;simp only[h8,B8r,B2H];refine B8V ?_;by_cases h1:IB t.E8=t.D5.length
   ·have h2:¬(IB t.E8<0):=by omega
    by_cases h4:t.E8=6
    ·simp[h1,h2,h4,h7 h4 h1];omega
    ·by_cases h5:t.n=0<;>simp[h1,h2,h4,h5]
   ·by_cases h2:IB t.E8<0<;>simp[h1,h2]
theorem vM(ht:t.thin=true):C8.p Wp [t.D9]=some (iI (if t.right=true then 0 else 1)):=by refine(A4A _).trans ?_;rw[A5Q];simp[Ty.l6,Ty.ag,A7U t ht];cases t.right<;>rfl
def A8S:t.size<=Q8->C8.p Ym [t.D9]=some (iI t.size):=by
 induction t using Ty.ind with
 |h t ih=>
   intro ht;have hb:=Ty.A9z ht;refine(A56 _).trans ?_;rw[A8j];simp only[Y9,F8];have loop:=Xr (l:=t.D5) (P:=λi (a:Nat)=>SF C8 (iI a) (iI i) t.D9) (g:=λa k=>a+k.size) (fin:=λa=>some (iI a))
    (I:=λi a=>a+((t.D5.drop i).map Ty.size).sum<=Q8)
    (λa _=>by rw[jW];simp)
    (λi h a ha=>by rw[z1q h,zjq,ztq]at ha;have:=big ha;refine⟨?_,by omega⟩;rw[jW];simp[h,R7 h,Ty.l6,Ty.ag,ih _ (z0q h) (Ty.B6E ht (z0q h)),Br (show i<9223372036854775807 by omega)];rw[RI (by omega) (by omega)];simp) 1 (by have:=Ty.size_eq t;simpa using(by omega:1+(t.D5.map Ty.size).sum<=Q8))
   have e:∀(l:List Ty)(a:Nat),l.foldl (λa k=>a+k.size) a=a+(l.map Ty.size).sum:=by
    intro l;induction l with
    |nil=>intro a;simp
    |cons x l ih=>intro a;simp[ih];omega
   rw[e,<- Ty.size_eq]at loop;exact loop
def yc(a:Ty):a.thin=true->∀b:Ty,C8.p Te [a.D9,b.D9]=some (.bool (decide (a=b))):=by
 induction a using Ty.ind with
 |h a ih=>
   intro ha b;have hb:=a.Dz ha;refine(A55 _ _).trans ?_;rw[A8i];simp;by_cases h1:a.E8=b.E8<;>simp[h1,Ty.zK];by_cases h2:a.n=b.n<;>simp[h2];by_cases h3:a.D5.length=b.D5.length
   ·have loop:=A6H (l:=a.D5) (m:=b.D5) h3 (P:=λi=>SE C8 (iI i) a.D9 b.D9) (y:=.bool true) (n:=.bool false)
     (by rw[jV];simp[h3])
     (λi h=>by
       have h':i<b.D5.length:=by omega
       rw[jV];simp[h,h',R7 h,R7 h',Ty.l6,Ty.ag,ih _ (z0q h) (Ty.Dy ha (z0q h)),Br (show i<9223372036854775807 by omega)])
    simp only[h3]at loop ⊢;simp[loop];by_cases h4:a.D5=b.D5<;>simp[h4]
   ·have:a.D5≠b.D5:=λh=>h3 (by rw[h]);simp[Int.ofNat_inj,h3,this]
def vI(a:Ty):a.thin=true->∀b:Ty,C8.p RQ [a.D9,b.D9]=some (.bool (decide (a=b))):=by
 induction a using Ty.ind with
 |h a ih=>
   intro ha b;have hb:=a.Dz ha;refine(A4k _ _).trans ?_;rw[A5w];simp;by_cases h1:a.E8=b.E8<;>simp[h1,Ty.zK];by_cases h2:a.n=b.n<;>simp[h2];by_cases h3:a.D5.length=b.D5.length
   ·have loop:=A6H (l:=a.D5) (m:=b.D5) h3 (P:=λi=>QK C8 (iI i) a.D9 b.D9) (y:=.bool true) (n:=.bool false)
     (by rw[dK];simp[h3])
     (λi h=>by
       have h':i<b.D5.length:=by omega
       rw[dK];simp[h,h',R7 h,R7 h',Ty.l6,Ty.ag,ih _ (z0q h) (Ty.Dy ha (z0q h)),Br (show i<9223372036854775807 by omega)])
    simp only[h3]at loop ⊢;simp[loop];by_cases h4:a.D5=b.D5<;>simp[h4]
   ·have:a.D5≠b.D5:=λh=>h3 (by rw[h]);simp[Int.ofNat_inj,h3,this]
def A2V(q:Int)(t:Ty):t.thin=true->C8.p R_ [t.D9,iI q]=some (.bool (t.CW q)):=by
 induction t using Ty.ind with
 |h t ih=>
   intro ht;have hb:=t.Dz ht;refine(A05 _ _).trans ?_;have loop:Jf C8 (iI q) (.list 3 (t.D5.map Ty.D9)) (iI t.D5.length) (iI 0)=_:=Xq (l:=t.D5) (f:=Ty.CW q) (P:=λi=>Jf C8 (iI q) (.list 3 (t.D5.map Ty.D9)) (iI t.D5.length) (iI i))
    (by rw[Yc];simp)
    (λi h=>by rw[Yc];simp[h,R7 h,Ty.l6,Ty.ag,ih _ (z0q h) (Ty.Dy ht (z0q h)),Br (show i<9223372036854775807 by omega)];cases(t.D5[i].CW q)<;>rfl)
   rw[A2c];simp only[loop,Y9,F8,Ty.Bh,Ty.DN,N7,DY,AV,F3,z4q,Ty.Ea q t]
   by_cases h1:t.E8=q<;>simp[h1]
def A2T(q:Int)(t:Ty):t.thin=true->C8.p Rx [t.D9,iI q]=some (.bool (t.CW q)):=by
 induction t using Ty.ind with
 |h t ih=>
   intro ht;have hb:=t.Dz ht;refine(A01 _ _).trans ?_;have loop:Je C8 (iI q) (iI 0) t.D9=_:=Xq (l:=t.D5) (f:=Ty.CW q) (P:=λi=>Je C8 (iI q) (iI i) t.D9)
    (by rw[YZ];simp)
    (λi h=>by rw[YZ];simp[h,R7 h,Ty.l6,Ty.ag,ih _ (z0q h) (Ty.Dy ht (z0q h)),Br (show i<9223372036854775807 by omega)];cases(t.D5[i].CW q)<;>rfl)
   rw[A13];simp only[loop,Y9,F8,Ty.Bh,Ty.DN,N7,DY,AV,F3,z4q,Ty.Ea q t]
   by_cases h1:t.E8=q<;>simp[h1]
def qW(ht:t.thin=true):C8.p Tk [t.D9]=some (.bool (t.CW 6)):=by refine(A2m _).trans ?_;rw[A4g];simp[Ty.l6,Ty.ag,A2V 6 t ht]
def B3A(l:List Int)(hl:l.length<=Q8)(n:Int):C8.p yn [O6 l,iI n]=some (.bool (decide (n∈l))):=by
 have hb:=big hl;refine(B0G _ _).trans ?_;rw[B2t];have loop:=uU (l:=l) (f:=λx=>decide (x=n)) (P:=λi=>Ws C8 (O6 l) (iI n) (iI i))
  (by rw[tL];simp)
  (λi h=>by rw[tL];simp[h,sW h,Br (show i<9223372036854775807 by omega)])
 refine loop.trans ?_;congr 2;rw[zuq];simp
def A8U:∀(l:List Int)(sg:List E5),l.length+t.size<=Q8->C8.r Yn [(t.D9,.val),(O6 l,.own)] sg=some ([O6 (t.Bw l)],sg):=by
 induction t using Ty.ind with
 |h t ih=>
   intro l sg hl;have hb:=Ty.A9z (show t.size<=Q8 by omega);have hB:=big hl;refine(A58 _ _ _).trans ?_;have loop:∀l:List Int,l.length+(t.D5.map Ty.size).sum<=Q8->Nf C8 (O6 l) (iI 0) t.D9 sg=some ([O6 (t.D5.foldl (λl k=>k.Bw l) l)],sg) :=
    Xr (l:=t.D5) (P:=λi (a:List Int)=>Nf C8 (O6 a) (iI i) t.D9 sg) (g:=λa k=>k.Bw a) (fin:=λa=>some ([O6 a],sg))
     (I:=λi a=>a.length+((t.D5.drop i).map Ty.size).sum<=Q8)
     (λa _=>by rw[jX];simp)
     (λi h a ha=>by rw[z1q h,zjq,ztq]at ha;have h1:=Ty.pK t.D5[i] a;refine⟨?_,by omega⟩;rw[jX];simp[h,R7 h,Ty.l6,Ty.ag,ih _ (z0q h) a sg (by omega),Br (show i<9223372036854775807 by omega)])
   have Ca:=Ty.size_eq t;rw[A8l,Ty.fK];simp;by_cases h6:t.E8=6
   ·simp[h6,B3A l (by omega) t.n];by_cases hn:t.n∈l
    ·simp[hn,YD,loop l (by omega)]
    ·simp[hn,YD];rw[show O6 l=.list 1 (l.map λn=>.int .i64 n)from rfl,JP (by simp;omega)];simp;have:=loop (l++[t.n]) (by simp;omega);simpa[O6]using this
   ·simp[h6,YD,loop l (by omega)]
def A8T(ht:t.size<=Q8):C8.p lU [t.D9]=some (O6 t.vars):=by refine(A57 _).trans ?_;rw[A8k];have:=A8U t [] [] (by simpa using ht);have e:O6 []=.list 1 []:=rfl;rw[e]at this;simp[Ty.l6,Ty.ag,this,Ty.vars]
def iO:C8.p QI [iI k]=some (Ty.mk k 0 []).D9:=by refine(A53 _).trans ?_;rw[A8g];simp[Ty.D9]
def A7J:∀n:Int,t.thin=true->0<=n->n<=1048576->∃m:Int,C8.p Wi [t.D9,iI n]=some (iI m)/\0<=m/\m<=max (n+1) 601:=by
 induction t using Ty.ind with
 |h t ih=>
   intro n ht h0 h1;have hb:=t.Dz ht;have loop:∀m:Int,0<=m->m<=1048577->∃r:Int,Lp C8 (iI m) (iI 0) t.D9=some (iI r)/\0<=r/\r<=max m 601:=by
    have key:∀(k i:Nat)(m:Int),i+k=t.D5.length->0<=m->m<=1048577->∃r:Int,Lp C8 (iI m) (iI i) t.D9=some (iI r)/\0<=r/\r<=max m 601:=by
     intro k;induction k with
     |zero=>
       intro i m hi h0 h1;rw[dM];have:¬i<t.D5.length:=by omega
       exact⟨m,by simp[this],h0,by omega⟩
     |succ k ihk=>
       intro i m hi h0 h1;have h:i<t.D5.length:=by omega
       rw[dM];by_cases hm:m<=600
       ·obtain⟨r,hr,Oq,hr1⟩:=ih _ (z0q h) m (Ty.Dy ht (z0q h)) h0 (by omega);obtain⟨s,hs,hs0,CL⟩:=ihk (i+1) r (by omega) Oq (by omega);push_cast at hs;exact⟨s,by simp[h,hm,R7 h,Ty.l6,Ty.ag,hr,Br (show i<9223372036854775807 by omega),hs],hs0,by omega⟩
       ·exact⟨m,by simp[h,hm],h0,by omega⟩
    exact λm h0 h1=>key t.D5.length 0 m (by omega) h0 h1
   obtain⟨r,hr,Oq,hr1⟩:=loop (n+1) (by omega) (by omega);refine⟨r,(A4m _ _).trans ?_,Oq,hr1⟩;rw[A5y];simp;rw[RI (by omega) (by omega)];simpa using hr
def A4I(ht:t.thin=true):∃b:Bool,C8.p fQ [.list 3 [t.D9]]=some (.bool b):=by
 obtain⟨m,h1,h2,h3⟩:=A7J t 0 ht (by omega) (by omega);refine⟨decide (600<m),(A4l _).trans ?_⟩;rw[A5x,dL];have e0:M4 3 (.list 3 [t.D9]) (iI 0)=some t.D9:=by simp[M4]
 simp[e0,Ty.l6,Ty.ag,h1,RI (show(-9223372036854775808:Int)<=0+1 by omega) (by omega)];rw[dL];simp
def A8W:∀n:Int,-9223372036854775000<=n->n<=1000->t.thin=true->C8.p Yq [t.D9,iI n]=some (.bool (t.deep n)):=by
 induction t using Ty.ind with
 |h t ih=>
   intro n hn0 hn ht;have hb:=t.Dz ht;refine(A6b _ _).trans ?_;rw[A8o,Ty.B6n];simp;by_cases h0:n<=0
   ·simp[h0]
   ·have loop:=uU (l:=t.D5) (f:=λk=>k.deep (n-1)) (P:=λi=>SH C8 (iI n) (iI i) t.D9)
     (by rw[jc];simp)
     (λi h=>by rw[jc];simp[h,R7 h,Ty.l6,Ty.ag,IX,Fg (show(-9223372036854775808:Int)<=n-1 by omega) (by omega),ih _ (z0q h) (n-1) (by omega) (by omega) (Ty.Dy ht (z0q h)),Br (show i<9223372036854775807 by omega)])
    simp only[h0,R8,Bool.false_or];exact loop
variable (s:ByteArray)
def A8Z:C8.p lW [.str s]=some (.bool (zW s)):=by
 refine(A6e _).trans ?_;rw[A8r];have e:∀l:List UInt8,(s=⟨l.toArray⟩)↔s.data.toList=l:=λl=>by
  constructor
  ·rintro rfl;simp
  ·intro h;cases s;simp only[ByteArray.mk.injEq];exact Array.ext' (by simpa using h)
 simp only[sV,N7,F3];simp only[e,zW,uT,zCq,zBq,or_false];simp only[I4,B9F,B2H,Bool.if_true_left,Bool.decide_or,Bool.or_false]
variable (c:Int)
def A4O:C8.p Zk [.int .u8 c]=some (.bool (Qh c)):=by
 refine(A2n _).trans ?_;rw[A4i];simp only[V_,PO,AV,N7,P5,I4,Qh,GQ,sZ]
 by_cases h1:97<=c<;>by_cases h2:c<=122<;>by_cases h3:65<=c<;>by_cases h4:c<=90<;>by_cases h5:48<=c<;>by_cases h6:c<=57<;>by_cases h7:c=95<;>simp[h1,h2,h3,h4,h5,h6,h7]
def bT:C8.p RS [.int .u8 c]=some (.bool (GQ c)):=by
 refine(A4t _).trans ?_;rw[A5H];simp only[V_,PO,N7,P5,I4,GQ]
 by_cases h1:97<=c<;>simp[h1]
def A7O:C8.p fo [.int .u8 c]=some (.bool (sZ c)):=by
 refine(A4s _).trans ?_;rw[A5G];simp only[V_,PO,N7,P5,I4,sZ]
 by_cases h1:48<=c<;>simp[h1]
def A8P:C8.p lQ [.int .u8 c]=some (.bool (Qh c)):=by
 refine(A51 _).trans ?_;rw[A8e];simp only[V_,PO,AV,N7,P5,I4,bT,A7O,Qh]
 by_cases h1:GQ c=true<;>by_cases h2:sZ c=true<;>by_cases h3:65<=c<;>by_cases h4:c<=90<;>by_cases h7:c=95<;>simp[h1,h2,h3,h4,h7]
def A91{s:ByteArray}(h:s.size<=Q8):(Bv s).length<4294967297:=by rw[Nv];exact big h
def bV(hs:s.size<=Q8):C8.p RX [.str s]=some (.bool (KA s)):=by
 have hb:=A91 hs;refine(A4D _).trans ?_;rw[A5T];simp only[Fq,N7,IW,Dw,P5,F3,I4,KA,<- Nv]
 by_cases h1:((Bv s).length:Int)<1
 ·have:¬(1<=(Bv s).length):=by omega
  simp[h1,this]
 ·by_cases h2:(32:Int)<((Bv s).length:Int)
  ·have:¬((Bv s).length<=32):=by omega
   simp[h1,h2,this]
  ·have h0:0<(Bv s).length:=by omega
   have e0:=Zy (s:=s) (k:=.i64) h0;simp only[ziq,zlq,zaq]at e0;have loop:∀(k i:Nat),i+k=(Bv s).length->QS C8 (.str s) (iI i)=some (.bool (((Bv s).drop i).all Qh)):=by
    intro k;induction k with
    |zero=>
      intro i hi;rw[dZ];have:¬i<(Bv s).length:=by omega
      simp[<- Nv,this,z5q (show(Bv s).length<=i by omega)]
    |succ k ih=>
      intro i hi;have h:i<(Bv s).length:=by omega
      rw[dZ];have:=ih (i+1) (by omega);push_cast at this;have P8:(i:Int)<(s.size:Int):=by rw[<- Nv];omega
      rw[z1q h,zDq];simp only[Fq,N7,IW,P8,K3,F3,F5,Zy h,A4O,U4,Br (show i<9223372036854775807 by omega)]
      push_cast;rw[this];cases Qh (Bv s)[i]<;>rfl
   have l1:=loop ((Bv s).length-1) 1 (by omega);simp only[Int.natCast_one,Int.ofNat_one,zaq]at l1;have g0:(Bv s).getD 0 0=(Bv s)[0]:=by simp[z9q,h0]
   have d0:Bv s=(Bv s)[0]::(Bv s).drop 1:=by have:=z1q h0;simpa using this
   have a1:(1<=(Bv s).length):=by omega
   have a2:((Bv s).length<=32):=by omega
   have e0':IG (.str s) (iI 0)=some (.int .u8 (Bv s)[0]):=e0;simp only[h1,h2,G8,e0',N7,IW,Dw,P5,I4,A8Z,F3,g0,a1,a2,K3,zEq]
   by_cases h3:(Bv s)[0]<97
   ·have:GQ (Bv s)[0]=false:=by simp[GQ];omega
    simp[h3,this]
   ·by_cases h4:(122:Int)<(Bv s)[0]
    ·have:GQ (Bv s)[0]=false:=by simp[GQ];omega
     simp[h3,h4,this]
    ·have h5:GQ (Bv s)[0]=true:=by simp[GQ];omega
     have h6:Qh (Bv s)[0]=true:=by simp[Qh,h5]
     have h7:(Bv s).all Qh=((Bv s).drop 1).all Qh:=by
      conv=>lhs;rw[d0]
      simp[h6]
     cases hk:zW s
     ·simp only[h3,h4,G8,z2q,h5,h7,zEq,zpq,zNq]
      exact l1
     ·simp[h3,h4]
open Classical in
def B1E(hs:s.size<=4294967000):C8.p rU [.str s]=some (.bool (zW s)):=by
 have hb:(Bv s).length<=4294967000:=by rw[Nv];exact hs
 refine(A8t _).trans ?_;rw[B0A]
 let t:ByteArray:=⟨#[32]⟩++s++⟨#[32]⟩
 have tl:t.data.toList=32::s.data.toList++[32]:=by simp[t]
 have ts:t.size=s.size+2:=by have:=congrArg List.length tl;simp only[Array.length_toList,zxq,zbq,zeq]at this;have e1:t.size=t.data.size:=rfl;have e2:s.size=s.data.size:=rfl;omega
 have search:∀(k i:Nat),i+k=82->PH C8 (.str s) (.str t) (iI i)=some (.bool (decide (0<s.size/\∃j,i<=j/\j+t.size<=81/\(Dc.drop j).take t.size=t.data.toList))):=by
  intro k;induction k with
  |zero=>
    intro i hi;rw[qC];simp only[Fq,N7];rw[RI (by omega) (by omega)];have:¬((i:Int)+(t.size:Int)<=81):=by omega
    have h2:¬(0<s.size/\∃j,i<=j/\j+t.size<=81/\(Dc.drop j).take t.size=t.data.toList):=by rintro⟨-,j,h1,h2,-⟩;omega
    simp[this,h2]
  |succ k ih=>
    intro i hi;rw[qC];simp only[Fq,N7];rw[RI (by omega) (by omega)];by_cases h1:(i:Int)+(t.size:Int)<=81
    ·have h1':i+t.size<=81:=by omega
     have nx:=ih (i+1) (by omega);simp only[PO,h1,K3,N7,F3,F5,Dw,P5,I4];rw[show((i+1:Nat):Int)=(i:Int)+1 by omega]at nx;by_cases h0:(0:Int)<(s.size:Int)
     ·have h0':0<s.size:=by omega
      have ext:∀w:ByteArray,w.data.toList=Dc->jH (.str w) (some (iI (i:Int))) (some (iI ((i:Int)+(t.size:Int))))=some (.str (w.extract i (i+t.size))):=by
       intro w hw;have hwl:w.size=81:=by have:=congrArg List.length hw;rw[B3O]at this;simpa using this
       have e1:((i:Int)+(t.size:Int)).toNat=i+t.size:=by omega
       simp only[jH,bnd,N7,e1,show(0:Int)<=(i:Int)+(t.size:Int)by omega,F5,Int.natCast_nonneg,Int.toNat_natCast,hwl]
       rw[C9 (by omega)]
      simp only[h0,F5];rw[ext _ rfl];simp only[N7,sV,F3,I4];rw[Br (by omega)];simp only[N7];rw[show((i+1:Nat):Int)=(i:Int)+1 by omega,nx];have exl:∀w:ByteArray,w.data.toList=Dc->((w.extract i (i+t.size)=t)↔(Dc.drop i).take t.size=t.data.toList):=by
       intro w hw;have e:(w.extract i (i+t.size)).data.toList=(Dc.drop i).take t.size:=by rw[ByteArray.data_extract,Array.toList_extract,hw,List.extract_eq_take_drop];congr 1;omega
       rw[<- e];constructor
       ·intro h;rw[h]
       ·intro h;cases hx:w.extract i (i+t.size);rw[hx]at h;cases ht:t;rw[ht]at h;simp only[ByteArray.mk.injEq];exact Array.ext' h
      by_cases h2:(Dc.drop i).take t.size=t.data.toList
      ·rw[C9 ((exl _ rfl).2 h2)];have:(0<s.size/\∃j,i<=j/\j+t.size<=81/\(Dc.drop j).take t.size=t.data.toList):=⟨h0',i,zqq _,h1',h2⟩;simp[this]
      ·rw[A7 (λh=>h2 ((exl _ rfl).1 h))];congr 2;rw[zuq];simp only[I4];constructor
       ·rintro⟨a,j,b,c⟩;exact⟨a,j,by omega,c⟩
       ·rintro⟨a,j,b,c,d⟩;refine⟨a,j,?_,c,d⟩;rcases Nat.lt_or_ge i j with h | h
        ·exact h
        ·exact absurd (by rw[show i=j by omega];exact d) h2
     ·have:¬(0<s.size/\∃j,i<=j/\j+t.size<=81/\(Dc.drop j).take t.size=t.data.toList):=λh=>h0 (by have:=h.1;omega);have B9Q:¬(0<s.size/\∃j,i+1<=j/\j+t.size<=81/\(Dc.drop j).take t.size=t.data.toList):=λh=>h0 (by have:=h.1;omega);simp only[h0,G8];rw[Br (by omega)];simp only[N7];rw[show((i+1:Nat):Int)=(i:Int)+1 by omega,nx];simp[this,B9Q]
    ·have h2:¬(0<s.size/\∃j,i<=j/\j+t.size<=81/\(Dc.drop j).take t.size=t.data.toList):=by rintro⟨-,j,h3,h4,-⟩;omega
     simp[h1,h2]
 have fin:(s.data.toList.all zZ=true/\0<s.size/\∃j,0<=j/\j+t.size<=81/\(Dc.drop j).take t.size=t.data.toList)↔s.data.toList∈uT:=by
  rw[<- B3N];have e2:s.data.toList.length=s.size:=by simp
  rw[e2,ts,tl];simp
 have low:∀b:UInt8,GQ (b.toNat:Int)=zZ b:=by intro b;simp only[GQ,zZ,UInt8.le_iff_toNat_le];rw[zuq];simp only[zkq,I4];have h1:(97:UInt8).toNat=97:=rfl;have h2:(122:UInt8).toNat=122:=rfl;rw[h1,h2];omega
 have loop:∀(k i:Nat),i+k=(Bv s).length->UD C8 (.str s) (iI i)=some (.bool (decide (((Bv s).drop i).all GQ=true/\0<s.size/\∃j,0<=j/\j+t.size<=81/\(Dc.drop j).take t.size=t.data.toList))):=by
  intro k;induction k with
  |zero=>
    intro i hi;rw[qB];have P8:¬(i:Int)<(s.size:Int):=by rw[<- Nv];omega
    have e1:D7 .add (.str ⟨#[32]⟩) (.str s)=some (.str (⟨#[32]⟩++s)):=by simp only[D7,jI];rw[C9];have:(⟨#[32]⟩:ByteArray).size=1:=rfl;unfold Q8;omega
    have e2:D7 .add (.str (⟨#[32]⟩++s)) (.str ⟨#[32]⟩)=some (.str t):=by
     simp only[D7,jI];rw[C9];have h1:(⟨#[32]⟩:ByteArray).size=1:=rfl;have h2:(⟨#[32]⟩++s:ByteArray).size=s.size+1:=by have:=ByteArray.size_append (a:=⟨#[32]⟩) (b:=s);omega
     unfold Q8;omega
    have:=search 82 0 rfl;simp only[ziq,zlq,zaq]at this;simp only[Fq,N7,IW,P8,R8,F3,z2q,G8,e1,e2,z5q (show(Bv s).length<=i by omega),List.all_nil,true_and]
    exact this
  |succ k ih=>
    intro i hi;have h:i<(Bv s).length:=by omega
    rw[qB];have:=ih (i+1) (by omega);push_cast at this;have P8:(i:Int)<(s.size:Int):=by rw[<- Nv];omega
    rw[z1q h,zDq];simp only[Fq,N7,IW,P8,K3,F3,F5,Zy h,bT,U4,Br (show i<9223372036854775807 by omega)]
    push_cast;rw[this];cases GQ (Bv s)[i]<;>simp
 have l0:=loop (Bv s).length 0 (by omega);simp only[ziq,zlq,zaq]at l0;have e3:(Bv s).all GQ=s.data.toList.all zZ:=by
  simp only[Bv,List.all_map]
  congr 1;funext b;exact low b
 refine l0.trans ?_;rw[zFq,e3];simp only[fin,zW]
def iM(hs:s.size<=4294967000):C8.p KU [.str s]=some (.bool (KA s)):=by
 have hb:=A91 (s:=s) (by unfold Q8;omega);refine(A50 _).trans ?_;rw[A8d];have h32:D7 .gtr (iI (s.size:Int)) (iI 32)=some (.bool (decide (32<s.size))):=by rw[Dw];congr 2;rw[decide_eq_decide];omega
 simp only[Fq,N7,IW,h32,P5,F3,I4,KA]
 by_cases h1:(s.size:Int)<1
 ·have:¬(1<=s.size):=by omega
  simp[h1,this]
 ·by_cases h2:32<s.size
  ·have:¬(s.size<=32):=by omega
   simp[h1,h2,this]
  ·have h0:0<(Bv s).length:=by rw[Nv];omega
   have loop:∀(k i:Nat),i+k=(Bv s).length->SC C8 (.str s) (iI i)=some (.bool (((Bv s).drop i).all Qh&&!zW s)):=by
    intro k;induction k with
    |zero=>
      intro i hi;rw[jU];have P8:¬(i:Int)<(s.size:Int):=by rw[<- Nv];omega
      simp[P8,z5q (show(Bv s).length<=i by omega),B1E s hs]
    |succ k ih=>
      intro i hi;have h:i<(Bv s).length:=by omega
      rw[jU];have:=ih (i+1) (by omega);push_cast at this;have P8:(i:Int)<(s.size:Int):=by rw[<- Nv];omega
      rw[z1q h,zDq];simp only[Fq,N7,IW,P8,K3,F3,F5,Zy h,A8P,U4,Br (show i<9223372036854775807 by omega)]
      push_cast;rw[this];cases Qh (Bv s)[i]<;>rfl
   have l0:=loop (Bv s).length 0 (by omega);simp only[ziq,zlq,zaq,zFq]at l0;have g0:(Bv s).getD 0 0=(Bv s)[0]:=by simp[z9q,h0]
   have e0':IG (.str s) (iI 0)=some (.int .u8 (Bv s)[0]):=Zy (s:=s) (k:=.i64) h0;have a1:(1<=s.size):=by omega
   have a2:(s.size<=32):=by omega
   simp only[h1,h2,G8,e0',N7,bT,U4,F3,g0,a1,a2,K3,zEq,l0];cases GQ (Bv s)[0]<;>simp
theorem Bu:(.str ⟨#[]⟩:DV)=.str AO:=rfl
variable (p:F6)
def A2U(hp:p.texts):C8.p YA [p.D9]=some (.bool p.one):=by
 obtain⟨hn,hs⟩:=hp;have h24:∀(t4:Int)(a b c g:DV)(nm:ByteArray)(n:Int)(s:ByteArray),Am C8 (iI t4) p.D9 a b c (.str nm) (iI n) (.str s) g =
  some (.bool (decide ((p.D5.length:Int)=t4)&&decide (nm=p.name)&&decide (n=p.n)&&decide (s=p.s))):=by
  intro t4 a b c g nm n s;rw[wh];simp only[F6.oH,F6.Lm,F6.fB,F6.wQ,DY,z4q,N7,AV,sV,P5,I4]
  by_cases h1:(p.D5.length:Int)=t4<;>by_cases h2:nm=p.name<;>by_cases h3:n=p.n<;>simp[h1,h2,h3]
 refine(A04 _).trans ?_;rw[A16];have EM:D7 .gtr (iI (p.s.size:Int)) (iI 200)=some (.bool (decide (200<p.s.size))):=by rw[Dw];congr 2;rw[decide_eq_decide];omega
 simp only[Kr,F8,F6.pj,Kt,Uw,Wy,AV,DX,N7,F3,P5,bV p.name (by unfold Q8;omega),U4,Fq,EM,h24,Bu]
 unfold F6.one;by_cases k1:p.E8=1
 ·simp[k1,eq_comm]
 by_cases k6:p.E8=6
 ·simp[k6,eq_comm]
 by_cases k8:p.E8=8
 ·simp[k8,eq_comm]
 by_cases k2:p.E8=2
 ·cases eF:KA p.name<;>simp[k2,eF,eq_comm]
 by_cases k3:p.E8=3
 ·simp[k3,eq_comm]
 by_cases k4:p.E8=4
 ·by_cases n0:p.n=0
  ·simp[k4,n0,eq_comm]
  ·by_cases n1:p.n=1<;>simp[k4,n0,n1,eq_comm]
 by_cases k5:p.E8=5
 ·by_cases h:200<p.s.size
  ·have:¬p.s.size<=200:=by omega
   simp[k5,h,this]
  ·have:p.s.size<=200:=by omega
   simp[k5,h,this,eq_comm]
 have h2:decide (2=(p.D5.length:Int))=decide (2=p.D5.length):=by rw[decide_eq_decide];omega
 by_cases k7:p.E8=7
 ·simp[k7,eq_comm,h2]
 by_cases k9:p.E8=9
 ·simp[k9,eq_comm,h2]
 simp[k1,k2,k3,k4,k5,k6,k7,k8,k9]
def B1I:p.thin=true->p.txt->C8.p cO [p.D9]=some (.bool p.pat):=by
 induction p using F6.ind with
 |h p ih=>
   intro ht hx;have hb:=p.Dz ht;obtain⟨hn,hs⟩:=hx p p.B48;have loop:Ng C8 (iI p.D5.length) (iI 0) p.D9=some (.bool (p.D5.all F6.pat)) :=
    Xq (l:=p.D5) (f:=F6.pat) (P:=λi=>Ng C8 (iI p.D5.length) (iI i) p.D9)
     (by rw[jZ];simp)
     (λi h=>by rw[jZ];simp[h,R7 h,F6.l6,F6.ag,ih _ (z0q h) (F6.Dy ht (z0q h)) (F6.B7w hx (z0q h)),Br (show i<9223372036854775807 by omega)];cases p.D5[i].pat<;>rfl)
   have h25:∀(t4:Int)(a:DV)(nm:ByteArray)(n:Int)(s:ByteArray),DW C8 (iI t4) p.D9 a (.str nm) (iI n) (.str s) =
    some (.bool ((decide ((p.D5.length:Int)=t4)&&decide (p.name=nm)&&decide (p.n=n)&&decide (p.s=s))&&p.D5.all F6.pat)):=by
    intro t4 a nm n s;rw[A38];simp only[F6.oH,F6.Lm,F6.fB,F6.wQ,DY,z4q,N7,DX,S_,P5,F3,I4]
    by_cases h1:(p.D5.length:Int)=t4<;>by_cases h2:p.name=nm<;>by_cases h3:p.n=n<;>by_cases h4:p.s=s<;>simp[h1,h2,h3,h4];rw[<- h1];rw[loop]
   refine(A8x _).trans ?_;rw[B0E];have EM:D7 .gtr (iI (p.s.size:Int)) (iI 200)=some (.bool (decide (200<p.s.size))):=by rw[Dw];congr 2;rw[decide_eq_decide];omega
   simp only[Kr,F8,F6.pj,Kt,Uw,Wy,AV,DX,IW,Dw,N7,F3,P5,iM p.name hn,U4,Fq,h25,Bu];rw[F6.ut];unfold F6.one;by_cases k1:p.E8=1
   ·simp[k1]
   by_cases k6:p.E8=6
   ·simp[k6]
   by_cases k8:p.E8=8
   ·simp[k8]
   by_cases k2:p.E8=2
   ·cases eF:KA p.name<;>simp[k2,eF]
   by_cases k3:p.E8=3
   ·simp[k3]
   by_cases k4:p.E8=4
   ·by_cases n0:p.n<0
    ·have h1:¬(p.n=0\/p.n=1):=by omega
     simp[k4,n0,h1]
    ·by_cases n1:1<p.n
     ·have h1:¬(p.n=0\/p.n=1):=by omega
      simp[k4,n0,n1,h1]
     ·have h1:(p.n=0\/p.n=1):=by omega
      simp[k4,n0,n1,h1]
   by_cases k5:p.E8=5
   ·by_cases h:(200:Int)<(p.s.size:Int)
    ·have:¬p.s.size<=200:=by omega
     simp[k5,h,this]
    ·have:p.s.size<=200:=by omega
     simp[k5,h,this]
   by_cases k7:p.E8=7
   ·simp[k7];have:((p.D5.length:Int)=2)↔(p.D5.length=2):=by omega
    simp[this]
   by_cases k9:p.E8=9
   ·simp[k9];have:((p.D5.length:Int)=2)↔(p.D5.length=2):=by omega
    simp[this]
   simp[k1,k2,k3,k4,k5,k6,k7,k8,k9]
def A7R(t:F6):∀(l:List ByteArray)(sg:List E5),l.length+t.size<=Q8->C8.r Wo [(t.D9,.val),(Dj l,.own)] sg=some ([Dj (t.Gd l)],sg):=by
 induction t using F6.ind with
 |h t ih=>
   intro l sg hl;have hb:=F6.Dz _ (F6.ET (show t.size<=Q8 by omega));have hB:=big hl;refine(A4x _ _ _).trans ?_;have loop:∀l:List ByteArray,l.length+(t.D5.map F6.size).sum<=Q8->JW C8 (Dj l) (iI 0) t.D9 sg=some ([Dj (t.D5.foldl (λl k=>k.Gd l) l)],sg) :=
    Xr (l:=t.D5) (P:=λi (a:List ByteArray)=>JW C8 (Dj a) (iI i) t.D9 sg) (g:=λa k=>k.Gd a) (fin:=λa=>some ([Dj a],sg))
     (I:=λi a=>a.length+((t.D5.drop i).map F6.size).sum<=Q8)
     (λa _=>by rw[dW];simp)
     (λi h a ha=>by rw[z1q h,zjq,ztq]at ha;have h1:=F6.yS t.D5[i] a;refine⟨?_,by omega⟩;rw[dW];simp[h,R7 h,F6.l6,F6.ag,ih _ (z0q h) a sg (by omega),Br (show i<9223372036854775807 by omega)])
   have Ca:=F6.size_eq t;rw[A5L,F6.nZ];simp;by_cases h6:t.E8=2
   ·simp[h6];rw[show Dj l=.list 1 (l.map λn=>.str n)from rfl,JP (by simp;omega)];have:=loop (l++[t.name]) (by simp;omega);simpa[Dj]using this
   ·simp[h6,loop l (by omega)]
def A7P(t:F6)(ht:t.size<=Q8):C8.p fq [t.D9]=some (Dj t.names):=by refine(A4v _).trans ?_;rw[A5J];have:=A7R t [] [] (by simpa using ht);have e:Dj []=.list 1 []:=rfl;rw[e]at this;simp[F6.l6,F6.ag,this,F6.names]
variable (l:List ByteArray)(n:ByteArray)
def YJ:Bool:=l.any λx=>decide (x=n)
def aY{l:List ByteArray}{n:ByteArray}:YJ l n=true↔n∈l:=by simp[YJ]
def B1G(hl:l.length<=Q8)(n:ByteArray):C8.p rV [Dj l,.str n]=some (.bool (YJ l n)):=by
 have hb:=big hl;refine(A8v _ _).trans ?_;rw[B0C];have loop:=uU (l:=l) (f:=λx=>decide (x=n)) (P:=λi=>UF C8 (Dj l) (.str n) (iI i))
  (by rw[qD];simp)
  (λi h=>by rw[qD];simp[h,A3g h,Br (show i<9223372036854775807 by omega)])
 exact loop
variable {α : Type}
def B0v{e : α->DV}{l:List α}{i:Nat}(h:i<=l.length)(sz:Nat):Nj sz (.list sz (l.map e)) none (some (iI (i:Int)))=some (.list sz ((l.take i).map e)):=by simp[Nj,bnd,h,List.map_take]
def B1b[DecidableEq α](l:List α):(∀(i:Nat)(h:i<l.length),l[i]∉l.take i)↔l.Nodup:=by
 constructor
 ·intro h;rw[zsq,zvq];intro i j hi hj Q_ he;exact h j hj (by rw[<- he];exact zwq.2 ⟨i,by omega,rfl⟩)
 ·intro h i hi hm;obtain⟨j,hj,he⟩:=zwq.1 hm;rw[zsq,zvq]at h;exact h j i (by omega) hi (by omega) he
open Classical in
def A1I(ht:p.size<=Q8)(hx:p.txt):C8.p Vp [p.D9]=some (.bool p.right):=by
 refine(zN _).trans ?_;rw[A0R];have eD:p.names.length<=Q8:=by have:=F6.yS p [];simp at this;unfold F6.names;omega
 have hb:=big eD;simp[F6.l6,F6.ag,B1I p (F6.ET ht) hx,A7P p ht,F6.right];cases hp:p.pat
 ·simp
 ·simp;have loop:∀(k i:Nat),i+k=p.names.length->Li C8 (Dj p.names) (iI i)=some (.bool (decide (∀j (h:j<p.names.length),i<=j->p.names[j]∉p.names.take j))):=by
   intro k;induction k with
   |zero=>
     intro i hi;rw[Xb];have:¬i<p.names.length:=by omega
     have h2:∀j (h:j<p.names.length),i<=j->p.names[j]∉p.names.take j:=λj h h'=>by omega
     simp[this];exact h2
   |succ k ih=>
     intro i hi;have h:i<p.names.length:=by omega
     have nx:=ih (i+1) (by omega);push_cast at nx;rw[Xb];have sl:Nj 1 (Dj p.names) none (some (iI (i:Int)))=some (Dj (p.names.take i)):=B0v (by omega) 1;simp[h,sl,A3g h,B1G (p.names.take i) (by simp;omega),Br (show i<9223372036854775807 by omega),nx];by_cases hm:p.names[i]∈p.names.take i
     ·simp only[aY.2 hm,F5,sF]
      congr 2;symm;rw[PP];exact λhh=>hh i h (zqq _) hm
     ·have RB:¬(YJ (p.names.take i) p.names[i]=true):=λh=>hm (aY.1 h);have C0g:YJ (p.names.take i) p.names[i]=false:=by simpa using RB
      simp only[C0g,z2q,G8]
      congr 2;rw[decide_eq_decide];constructor
      ·intro hh j hj Q_;rcases Nat.lt_or_ge i j with h1 | h1
       ·exact hh j hj h1
       ·have:i=j:=by omega
        subst this;exact hm
      ·intro hh j hj Q_;exact hh j hj (by omega)
  have l0:=loop p.names.length 0 (by omega);simp only[ziq,zlq,zaq]at l0;rw[l0];congr 2;rw[decide_eq_decide,<- B1b];simp
variable (es:List (DV×DV))
def A5n(s:ByteArray):DV:=(Y0 es (.str s)).getD (iI 0)
def Zw(a b c e:E5)(n:Int)(es:List (DV×DV)):List E5:=[a,.box [(iI n,.val)],.map true es,.box [(.undef,.map 2)],e]
theorem B2d(t0 t6:DV)(a b c e:E5)(n:Int)(es:List (DV×DV)):BD C8 t0 t6 .ret (Zw a b c e n es)=some (iI n):=by rw[Yu];rfl
theorem B6l(t0 t6:DV)(a b c e:E5)(n:Int)(es:List (DV×DV)):BD C8 t0 t6 .normal (Zw a b c e n es)=some (iI 0):=by rw[WE];rfl
def A3d(t0 t6:DV)(a b c e:E5):∀(ps:List F6)(pre:List ByteArray)(es:List (DV×DV)),(∀q∈ps,q.texts)->pre.Nodup->(∀s,A5n es s=.int .i64 (if YJ pre s=true then 1 else 0))->
 Ej C8 t0 t6 (ps.map F6.D9) (Zw a b c e 0 es)=some (iI (if ps.all F6.one=true/\(pre++ps.flatMap YN).Nodup then 0 else 1))
 |[],pre,es,_,hn,_=>by rw[List.map_nil,f_,B6l];simp[hn]
 |q::ps,pre,es,hx,hn,hc=>by
   rw[zjq,bg,jK];have hq:=hx q (zgq ..);simp only[Kr,F8,F6.pj,F6.l6,F6.ag,A2U q hq,N7,U4,P5,AV];have K4:H5 (Zw a b c e 0 es) 1=some [(iI 0,.val)]:=rfl;have bP:H5 (Zw a b c e 0 es) 3=some [(.undef,.map 2)]:=rfl;have set1:(Zw a b c e 0 es).set 1 (.box ([((iI 0:DV),F4.val)].set 0 (iI 1,.val)))=Zw a b c e 1 es:=rfl;have g0:[((iI 0:DV),F4.val)][0]?=some (iI 0,.val):=rfl;have cm:Bq [((.undef:DV),F4.map 2)] 0=some 2:=rfl;have sm:R9 (Zw a b c e 0 es) 2=some (true,es):=rfl;cases h1:q.one
   ·simp only[zpq,F5,K4,N7,g0,set1,B2d]
    simp[h1]
   ·simp only[zJq,z2q,G8]
    have rest:∀(pre':List ByteArray)(es':List (DV×DV)),pre'.Nodup->(∀s,A5n es' s=.int .i64 (if YJ pre' s=true then 1 else 0))->
     Ej C8 t0 t6 (ps.map F6.D9) (Zw a b c e 0 es')=some (iI (if ps.all F6.one=true/\(pre'++ps.flatMap YN).Nodup then 0 else 1)) :=
     λpre' es' h h'=>A3d t0 t6 a b c e ps pre' es' (λx FI=>hx x (zoq _ FI)) h h'
    rw[tV];simp only[F6.Bh,F6.Lm,AV,N7,F3,I4]
    by_cases h2:q.E8=2
    ·have hcq:=hc q.name;unfold A5n at hcq;have sm':(Zw a b c e 0 es).set 2 (.map true (Bz es (.str q.name) (iI 1)))=Zw a b c e 0 (Bz es (.str q.name) (iI 1)):=rfl;simp only[h2,F5,bP,N7,cm,B2G,zNq,F8,sm,BEq.rfl,hcq,Dw,F3,I4]
     by_cases h3':YJ pre q.name=true
     ·have h3:=aY.1 h3';simp only[h3',F5,show(0:Int)<1 by omega,K3,K4,N7,g0,set1,B2d]
      have:¬(pre++(q::ps).flatMap YN).Nodup:=by simp only[zyq,YN,h2,F5,List.singleton_append,zKq];rintro⟨-,-,h⟩;exact h q.name h3 q.name (zgq ..) rfl
      rw[A7 (λh=>this h.2)]
     ·have h3:q.name∉pre:=λh=>h3' (aY.2 h);simp only[h3',G8,show ¬(0:Int)<0 by omega,R8,z2q]
      rw[RI (by omega) (by omega)];simp only[N7,Int.zero_add];rw[sm',rest (pre++[q.name]) _ (by rw[zKq];refine⟨hn,by simp,?_⟩;rintro x FI y hy rfl;simp at hy;exact h3 (hy ▸ FI)) ?_]
      ·simp[zyq,YN,h2,h1]
      ·intro s;unfold A5n;rw[B4M];have:=hc s;unfold A5n at this;by_cases h4:q.name=s
       ·have:YJ (pre++[q.name]) s=true:=aY.2 (by simp[h4]);rw[C9 h4,C9 this];rfl
       ·have e:YJ (pre++[q.name]) s=YJ pre s:=by simp[YJ,h4]
        simp only[A7 h4,e];exact this
    ·simp only[h2,G8]
     rw[rest pre es hn hc];simp[zyq,YN,h2,h1]
def bU(ht:p.thin=true)(hx:p.txt):C8.p OX [p.D9]=some (iI (if p.right=true then 0 else 1)):=by
 refine(wo _).trans ?_;rw[zH];simp only[Kr,F8,F6.pj,F6.l6,F6.ag];rw[rF];obtain⟨n,hn⟩:=B4p p ht;rw[F6.O4]at hn;simp only[H5,zzq,zAq,N7,MB,F8,A6f hn];have:=A3d p.D9 p.D9 (.box [(iI p.E8,.val),(iI p.lo,.val),(iI p.hi,.val),(.str p.name,.val),(iI p.n,.val),(.str p.s,.val),(.list 7 (p.D5.map F6.D9),.val)])
  (.arr 1 []) (.arr 1 []) (.arr 1 []) p.subs [] [] (λq hq=>hx q hq) (by simp) (λs=>rfl)
 refine this.trans ?_;congr 2;have e:p.right=true↔(p.subs.all F6.one=true/\(([]:List ByteArray)++p.subs.flatMap YN).Nodup):=by unfold F6.right F6.names;rw[F6.B4W,F6.A6U];simp
 by_cases h:p.right=true
 ·rw[C9 h,C9 (e.1 h)]
 ·rw[A7 h,A7 (λh'=>h (e.2 h'))]
def A8Y:∀(i:Nat)(out:List Int)(sg:List E5)(es:List (DV×DV))(c:Int->Int)(B:Int),R9 sg i=some (false,es)->Rw es c->(∀v,0<=c v/\c v<=B)->(∀v,c v=0↔v∉out)->B+t.Du<=4611686018427387904->
 out.length+t.Du<=Q8->t.thin=true->∃es' c',C8.r Yt [(t.D9,.val),(.undef,.map i),(O6 out,.own)] sg=some ([O6 (t.Bw out)],sg.set i (.map false es'))/\Rw es' c'/\(∀v,0<=c' v/\c' v<=B+t.Du)/\(∀v,c' v=0↔v∉t.Bw out):=by
 induction t using Ty.ind with
 |h t ih=>
   intro i out sg es c B hm hc hb hz hB hl TM;have Gm:=t.Dz TM;have Ca:=Ty.vT t;have hi:=A7r hm;have loop:∀(n j:Nat)(out:List Int)(es:List (DV×DV))(c:Int->Int)(B:Int),j+n=t.D5.length->Rw es c->(∀v,0<=c v/\c v<=B)->(∀v,c v=0↔v∉out)->B+((t.D5.drop j).map Ty.Du).sum<=4611686018427387904->out.length+((t.D5.drop j).map Ty.Du).sum<=Q8->
    ∃es' c',SL C8 i (O6 out) (.list 3 (t.D5.map Ty.D9)) (iI t.D5.length) (iI j) (sg.set i (.map false es))=some ([O6 ((t.D5.drop j).foldl (λl k=>k.Bw l) out)],sg.set i (.map false es'))/\Rw es' c'/\(∀v,0<=c' v/\c' v<=B+((t.D5.drop j).map Ty.Du).sum) /\(∀v,c' v=0↔v∉(t.D5.drop j).foldl (λl k=>k.Bw l) out):=by
    intro n;induction n with
    |zero=>
      intro j out es c B hj hc hb hz hB hl;have:¬j<t.D5.length:=by omega
      rw[ji,z5q (by omega)];refine⟨es,c,by simp[this],hc,λv=>⟨(hb v).1,by simpa using(hb v).2⟩,by simpa using hz⟩
    |succ n ihn=>
      intro j out es c B hj hc hb hz hB hl;have h:j<t.D5.length:=by omega
      rw[z1q h]at hB hl ⊢;simp only[zjq,ztq,List.foldl_cons]at hB hl ⊢;obtain⟨es1,c1,h1,h2,h3,h4⟩:=ih _ (z0q h) i out (sg.set i (.map false es)) es c B (B3l hi _ _) hc hb hz (by omega) (by omega) (Ty.Dy TM (z0q h));have hv:=Ty.A83 t.D5[j] out;obtain⟨es2,c2,k1,k2,k3,k4⟩:=ihn (j+1) (t.D5[j].Bw out) es1 c1 (B+t.D5[j].Du) (by omega) h2 h3 h4 (by omega) (by omega);refine⟨es2,c2,?_,k2,λv=>⟨(k3 v).1,by have:=(k3 v).2;omega⟩,k4⟩;rw[ji];rw[List.set_set]at h1;simp[h,R7 h,Ty.l6,Ty.ag,h1,Br (show j<9223372036854775807 by omega)];push_cast at k1;exact k1
   have fin:∀(out:List Int)(es:List (DV×DV))(c:Int->Int)(B:Int),Rw es c->(∀v,0<=c v/\c v<=B)->(∀v,c v=0↔v∉out)->B+(t.D5.map Ty.Du).sum<=4611686018427387904->out.length+(t.D5.map Ty.Du).sum<=Q8->
    ∃es' c',PK C8 i (O6 out) t.D9 (sg.set i (.map false es))=some ([O6 (t.D5.foldl (λl k=>k.Bw l) out)],sg.set i (.map false es'))/\Rw es' c'/\(∀v,0<=c' v/\c' v<=B+(t.D5.map Ty.Du).sum)/\(∀v,c' v=0↔v∉t.D5.foldl (λl k=>k.Bw l) out):=by
    intro out es c B hc hb hz hB hl;have:=loop t.D5.length 0 out es c B (by omega) hc hb hz (by simpa using hB) (by simpa using hl);simp only[zFq]at this;obtain⟨es',c',k1,k2⟩:=this;refine⟨es',c',?_,k2⟩;rw[A4h];simp;exact k1
   rw[Ty.fK];by_cases h6:t.E8=6
   ·rw[C9 h6]at Ca;have hcv:=hc t.n;by_cases hn:t.n∈out
    ·have uL:c t.n≠0:=λh=>(hz t.n).1 h hn;obtain⟨es',c',k1,k2,k3,k4⟩:=fin out (Bz es (iI t.n) (iI (c t.n+1))) _ (B+1) (hc.set t.n (c t.n+1)) (λv=>by
      have:=hb v;have:=hb t.n;by_cases e:t.n=v<;>simp[e]<;>omega) (λv=>by
      by_cases e:t.n=v
      ·subst e;simp[hn];have:=hb t.n;omega
      ·simp[e,hz v]) (by omega) (by omega)
     refine⟨es',c',(aH _ _ _ _).trans ?_,k2,λv=>⟨(k3 v).1,by have:=(k3 v).2;omega⟩,by simpa[h6,hn]using k4⟩;rw[gT];have ha:=hb t.n;have YI:D7 .add (iI (c t.n)) (iI 1)=some (iI (c t.n+1)):=RI (by omega) (by omega);simp[h6,hm,hcv,uL,YI,k1,hn]
    ·have uL:c t.n=0:=(hz t.n).2 hn;obtain⟨es',c',k1,k2,k3,k4⟩:=fin (out++[t.n]) (Bz es (iI t.n) (iI (c t.n+1))) _ (B+1) (hc.set t.n (c t.n+1)) (λv=>by
      have:=hb v;have:=hb t.n;by_cases e:t.n=v<;>simp[e]<;>omega) (λv=>by
      by_cases e:t.n=v
      ·subst e;simp;have:=hb t.n;omega
      ·simp only[e,G8,hz v,List.mem_append,List.mem_singleton];rw[not_or];exact⟨λh=>⟨h,λh'=>e h'.symm⟩,λh=>h.1⟩) (by omega) (by simp;omega)
     refine⟨es',c',(aH _ _ _ _).trans ?_,k2,λv=>⟨(k3 v).1,by have:=(k3 v).2;omega⟩,by simpa[h6,hn]using k4⟩;rw[gT];have ha:=hb t.n;have YI:D7 .add (iI (c t.n)) (iI 1)=some (iI (c t.n+1)):=RI (by omega) (by omega);have B97:Di 1 (O6 out) (.list 1 [iI t.n])=some (O6 (out++[t.n])):=zB (e:=λn=>DV.int .i64 n) (by omega);rw[uL]at hcv YI;rw[uL]at k1;rw[show(0:Int)+1=1 from rfl]at YI k1;simp[h6,hm,hcv,B97,YI,hn,k1]
   ·rw[A7 h6]at Ca;obtain⟨es',c',k1,k2,k3,k4⟩:=fin out es c B hc hb hz (by omega) (by omega);refine⟨es',c',(aH _ _ _ _).trans ?_,k2,λv=>⟨(k3 v).1,by have:=(k3 v).2;omega⟩,by simpa[h6]using k4⟩;rw[gT];rw[B5a hm]at k1;simp[h6,k1]
def yg(TM:t.thin=true)(ht:t.Du<=Q8):C8.p Yr [t.D9]=some (O6 t.vars):=by refine(A6d _).trans ?_;rw[A8q];obtain⟨es',c',h,-⟩:=A8Y t 0 [] [.map false []] [] (λ_=>0) 0 rfl Rw.nil (by simp) (by simp) (by unfold Q8 at ht;omega) (by simpa using ht) TM;have e:O6 []=.list 1 []:=rfl;rw[e]at h;simp[Ty.l6,Ty.ag,h,Ty.vars]
variable (l:List Int)
def A1J(hl:l.length<=Q8)(n:Int):∃k:Int,C8.p KF [O6 l,iI n]=some (iI k)/\(0<=k↔n∈l):=by
 have hb:=big hl;have loop:∀(m i:Nat),i+m=l.length->∃k:Int,EU C8 (O6 l) (iI n) (iI l.length) (iI i)=some (iI k)/\(0<=k↔n∈l.drop i):=by
  intro m;induction m with
  |zero=>
    intro i hi;have:¬i<l.length:=by omega
    rw[Mm];exact⟨-1,by simp[this],by simp[z5q (show l.length<=i by omega)]⟩
  |succ m ihm=>
    intro i hi;have h:i<l.length:=by omega
    rw[Mm,z1q h];by_cases e:n=l[i]
    ·exact⟨i,by simp[h,sW h,e],⟨λ_=>by rw[e];exact zgq ..,λ_=>by omega⟩⟩
    ·obtain⟨k,h1,h2⟩:=ihm (i+1) (by omega);push_cast at h1;refine⟨k,by simp[h,sW h,e,Br (show i<9223372036854775807 by omega),h1],?_⟩;rw[h2,zCq];simp[e]
 obtain⟨k,h1,h2⟩:=loop l.length 0 (by omega);refine⟨k,(Yy _ _).trans ?_,by simpa using h2⟩;rw[aC];simpa using h1
def vK(hl:l.length<=Q8)(n:Int):C8.p Cb [O6 l,iI n]=some (.bool (decide (n∈l))):=by refine(WF _ _).trans ?_;rw[Xc];obtain⟨k,h1,h2⟩:=A1J l hl n;simp[h1,h2]
variable (n:Int)
def Ty.B6I(a b:Ty):DV.agg [iI k,iI n,.list 3 [a.D9,b.D9]]=(Ty.mk k n [a,b]).D9:=(Ty.O4 (.mk k n [a,b])).symm
def A7K(ts:List Ty)(hl:ts.length<=Q8)(h:∀t∈ts,t.size<=Q8):∃b:Bool,C8.p Wl [.list 3 (ts.map Ty.D9)]=some (.bool b):=by
 have hb:=big hl;have loop:∀(n j:Nat),j+n=ts.length->∃b:Bool,QO C8 (.list 3 (ts.map Ty.D9)) (iI j)=some (.bool b):=by
  intro n;induction n with
  |zero=>
    intro j hj;refine⟨true,?_⟩;have:¬j<ts.length:=by omega
    rw[dO];simp[this]
  |succ n ih=>
    intro j hj;have O8:j<ts.length:=by omega
    obtain⟨b,Mr⟩:=ih (j+1) (by omega);have Ca:=h _ (z0q O8);have TM:=Ty.ET Ca;obtain⟨c,hc⟩:=A4I ts[j] TM;have hd:=A8W ts[j] 60 (by omega) (by omega) TM;have hv:=A8T ts[j] Ca;push_cast at Mr;rw[dO];cases c
    ·cases Ms:ts[j].deep 60
     ·by_cases hq:(8:Int)<(ts[j].vars.length:Int)
      ·exact⟨false,by simp[O8,R7 O8,Ty.l6,Ty.ag,hc,hd,Ms,hv,hq]⟩
      ·exact⟨b,by simp[O8,R7 O8,Ty.l6,Ty.ag,hc,hd,Ms,hv,hq,Br (show j<9223372036854775807 by omega),Mr]⟩
     ·exact⟨false,by simp[O8,R7 O8,Ty.l6,Ty.ag,hc,hd,Ms]⟩
    ·exact⟨false,by simp[O8,R7 O8,Ty.l6,Ty.ag,hc]⟩
 obtain⟨b,h1⟩:=loop ts.length 0 (by omega);refine⟨b,(A4o _).trans ?_⟩;rw[A5A];exact h1
def B1F(a b:Ty):C8.p cK [iI k,a.D9,b.D9]=some (Ty.mk k 0 [a,b]).D9:=by refine(A8u _ _ _).trans ?_;rw[B0B];simp[Ty.l6,Ty.ag,Ty.B6I]
theorem A6G{β X:Type}{l:List α}{P:Int->List β->Option X}{g : α -> β}{fin:List β->Option X}(stop:∀a,a.length=l.length->P l.length a=fin a)(step:∀(i:Nat)(h:i<l.length)(a:List β),a.length=i->P i a=P ((i:Int)+1) (a++[g l[i]])):P 0 []=fin (l.map g):=by
 have:=Xr (l:=l) (P:=P) (g:=λa k=>a++[g k]) (fin:=fin) (I:=λj a=>a.length=j) (λa h=>stop a h)
  (λj h a ha=>⟨step j h a ha,by simp[ha]⟩) [] rfl
 rw[this];congr 1;have e:∀(m:List α)(a:List β),m.foldl (λa k=>a++[g k]) a=a++m.map g:=by
  intro m;induction m with
  |nil=>intro a;simp
  |cons x m ih=>intro a;simp[ih]
 rw[e];rfl
def Ah(np:Nat):DV:=.agg [.bool (l8 k),.bool (Be k),.bool (eN k),.bool (eS k),.bool (Dp k),.bool (eA k),.bool (eB k),.bool (Ae k),iI (M6 k np)]
variable (t:Ex)
def A1K(ht:t.Sg):∃d,C8.p Vq [t.D9]=some (.J8 [d,.bool (JQ t.E8 t.J7.length)])/\(JQ t.E8 t.J7.length=true->d=Ah t.E8 t.J7.length)/\I5 9 d=true:=by
 have hp:=big (zmq ht.J7);suffices h:∃d,Vu C8 t.D9=some (.J8 [d,.bool (JQ t.E8 t.J7.length)])/\(JQ t.E8 t.J7.length=true->d=Ah t.E8 t.J7.length)/\I5 9 d=true by obtain⟨d,h1,h2⟩:=h;exact⟨d,wW _ h1,h2⟩
 rw[A0T];have fl:∀{a b c d e f g h:Bool}{n:Int},I5 9 (.agg [.bool a,.bool b,.bool c,.bool d,.bool e,.bool f,.bool g,.bool h,iI n])=true:=rfl;by_cases k14:t.E8=14
 ·have h1:D7 .add (iI (t.J7.length:Int)) (iI 1)=some (iI ((t.J7.length:Int)+1)):=RI (by omega) (by omega);simp[k14,h1,JQ,Ah,l8,Be,eN,eS,Dp,eA,eB,Ae,M6,fl]
 by_cases k1:t.E8=1
 ·simp[k1,JQ,Ah,l8,Be,eN,eS,Dp,eA,eB,Ae,M6,fl]
 by_cases k2:t.E8=2
 ·simp[k2,JQ,Ah,l8,Be,eN,eS,Dp,eA,eB,Ae,M6,fl]
 by_cases k3:t.E8=3
 ·simp[k3,JQ,Ah,l8,Be,eN,eS,Dp,eA,eB,Ae,M6,fl]
 by_cases k4:t.E8=4
 ·simp[k4,JQ,Ah,l8,Be,eN,eS,Dp,eA,eB,Ae,M6,fl]
 by_cases k5:t.E8=5
 ·simp[k5,JQ,Ah,l8,Be,eN,eS,Dp,eA,eB,Ae,M6,fl]
 by_cases k6:t.E8=6
 ·simp[k6,JQ,Ah,l8,Be,eN,eS,Dp,eA,eB,Ae,M6,fl]
 by_cases k7:t.E8=7
 ·simp[k7,JQ,Ah,l8,Be,eN,eS,Dp,eA,eB,Ae,M6,fl]
 by_cases k8:t.E8=8
 ·simp[k8,JQ,Ah,l8,Be,eN,eS,Dp,eA,eB,Ae,M6,fl]
 by_cases k9:t.E8=9
 ·simp[k9,JQ,Ah,l8,Be,eN,eS,Dp,eA,eB,Ae,M6,fl]
 by_cases k10:t.E8=10
 ·simp[k10,JQ,Ah,l8,Be,eN,eS,Dp,eA,eB,Ae,M6,fl]
 by_cases k11:t.E8=11
 ·simp[k11,JQ,Ah,l8,Be,eN,eS,Dp,eA,eB,Ae,M6,fl]
 by_cases k12:t.E8=12
 ·simp[k12,JQ,Ah,l8,Be,eN,eS,Dp,eA,eB,Ae,M6,fl]
 by_cases k13:t.E8=13
 ·simp[k13,JQ,Ah,l8,Be,eN,eS,Dp,eA,eB,Ae,M6,fl]
 by_cases k15:t.E8=15
 ·simp[k15,JQ,Ah,l8,Be,eN,eS,Dp,eA,eB,Ae,M6,fl]
 by_cases k16:t.E8=16
 ·simp[k16,JQ,Ah,l8,Be,eN,eS,Dp,eA,eB,Ae,M6,fl]
 ·have hk:JQ t.E8 t.J7.length=false:=by unfold JQ;rw[znq];intro h;simp only[zkq,I4]at h;omega
  simp[hk,k1,k2,k3,k4,k5,k6,k7,k8,k9,k10,k11,k12,k13,k14,k15,k16,fl]
variable (t:Ty)
def vL:C8.p Nr [t.D9]=some (.bool t.none):=by refine(A4z _).trans ?_;rw[A5P];simp[Ty.none];by_cases h1:t.E8=0<;>by_cases h2:t.n=0<;>simp[h1,h2]
def lM(ht:t.thin=true):C8.p Rz [t.D9]=some (.bool t.closed):=by refine(A03 _).trans ?_;rw[A15];simp[Ty.l6,Ty.ag,vM t ht,qW t ht,Ty.closed];cases t.right<;>simp
def A8X(t:Ex)(ht:t.Sg):C8.p lV [t.D9]=some (.bool t.one):=by
 refine(A6c _).trans ?_;obtain⟨d,h1,h2,h3⟩:=A1K t ht;have hp:=big (zmq ht.J7);rw[A8p];have x0:∀b,Q4 0 (.J8 [d,.bool b])=some d:=λ_=>rfl;have x1:∀b,Q4 1 (.J8 [d,.bool b])=some (.bool b):=λ_=>rfl;simp only[AA,F8,Ex.pj,Ex.l6,Ex.ag,Ty.l6,Ty.ag,h1,x0,x1,N7,h3,U4,P5];cases hk:JQ t.E8 t.J7.length
 ·simp[Ex.one,hk]
 rw[h2 hk];have p0:A8 0 (Ah t.E8 t.J7.length)=.bool (l8 t.E8):=rfl;have p1:A8 1 (Ah t.E8 t.J7.length)=.bool (Be t.E8):=rfl;have p2:A8 2 (Ah t.E8 t.J7.length)=.bool (eN t.E8):=rfl;have p3:A8 3 (Ah t.E8 t.J7.length)=.bool (eS t.E8):=rfl;have p4:A8 4 (Ah t.E8 t.J7.length)=.bool (Dp t.E8):=rfl;have p5:A8 5 (Ah t.E8 t.J7.length)=.bool (eA t.E8):=rfl;have p6:A8 6 (Ah t.E8 t.J7.length)=.bool (eB t.E8):=rfl;have p7:A8 7 (Ah t.E8 t.J7.length)=.bool (Ae t.E8):=rfl;have p8:A8 8 (Ah t.E8 t.J7.length)=.int .i64 (M6 t.E8 t.J7.length):=rfl;have l:=Xq (l:=t.J7) (f:=F6.right) (P:=λi=>QR C8 (.list 7 (t.J7.map F6.D9)) (iI t.J7.length) (iI i))
  (by rw[dX];simp)
  (λi h=>by rw[dX];have f:=ht.pat _ (z0q h);simp[h,R7 h,F6.l6,F6.ag,bU _ (F6.zL f) f.txt,Br (show i<9223372036854775807 by omega)];cases t.J7[i].right<;>rfl)
 have h18:SK C8 t.D9=some (.bool t.zm):=by rw[A2b];simp only[Ex.A1v,DY,z4q,N7];exact l
 have h16:KL C8 t.D9 (Ah t.E8 t.J7.length)=some (.bool t.oC):=by rw[A2a];simp only[p6,Ex.B3a,Ex.B3b,Ex.B3c,Ty.l6,Ty.ag,vL,lM _ ht.b,h18,N7,U4,P5,F3,Ex.oC,VC];cases t.b.none<;>cases eB t.E8<;>cases t.b.closed<;>simp
 have h14:KJ C8 t.D9 (Ah t.E8 t.J7.length)=some (.bool t.bD):=by rw[A19];simp only[p5,p7,Ex.B1l,Ex.B5X,Ex.B29,Ty.l6,Ty.ag,vL,lM _ ht.a,h16,N7,U4,P5,F3,Ex.bD,VC];cases t.a.none<;>cases eA t.E8<;>cases t.a.closed<;>cases Ae t.E8<;>simp
 have h12:SI C8 t.D9 (Ah t.E8 t.J7.length)=some (.bool t.uq):=by
  rw[A18];simp only[p4,Ex.B1k,h14,N7,U4,P5,F3,Dw,IW,DX,Ex.uq];cases Dp t.E8
  ·by_cases v:t.op=0<;>simp[v]
  ·by_cases a:t.op<1
   ·simp[a,show ¬ 1<=t.op by omega]
   ·by_cases p:7<t.op
    ·simp[a,p,show ¬t.op<=7 by omega]
    ·simp[a,p,show 1<=t.op by omega,show t.op<=7 by omega]
 have hs:∀n:Nat,D7 .gtr (iI (n:Int)) (iI 200)=some (.bool (decide (200<n))):=λn=>by rw[Dw];congr 2;rw[decide_eq_decide];omega
 have Yf:Fh C8 t.D9 (Ah t.E8 t.J7.length)=some (.bool t.uo):=by
  rw[A17];simp only[p3,Ex.oH,h12,N7,U4,P5,F3,Fq,hs,Bu,S_,Ex.uo];generalize t.s.size=z;by_cases a:200<z
  ·have:¬z<=200:=by omega
   cases eS t.E8<;>by_cases v:t.s=AO<;>simp[a,v,this]
  ·have:z<=200:=by omega
   cases eS t.E8<;>by_cases v:t.s=AO<;>simp[a,v,this]
 have h8:Lu C8 t.D9 (Ah t.E8 t.J7.length)=some (.bool t.um):=by rw[A4e];simp only[p2,Ex.wQ,Ex.Bh,Yf,N7,U4,P5,F3,DX,AV,Ex.um];cases eN t.E8<;>by_cases v:t.E8=3<;>by_cases x:t.n=0<;>by_cases y:t.n=1<;>simp[v,x,y]
 have h6:Lt C8 t.D9 (Ah t.E8 t.J7.length)=some (.bool t.ul):=by
  rw[A4d];simp only[p1,Ex.fB,h8,bV t.arg (by have:=ht.arg;unfold Q8;omega),N7,U4,P5,F3,S_,Bu,Ex.ul,VB]
  cases Be t.E8
  ·by_cases v:t.arg=AO<;>simp[v]
  ·cases KA t.arg<;>simp
 have h4:UL C8 t.D9 (Ah t.E8 t.J7.length)=some (.bool t.uk):=by
  rw[A4c];simp only[p0,Ex.Lm,h6,bV t.name (by have:=ht.name;unfold Q8;omega),N7,U4,P5,F3,S_,Bu,Ex.uk,VB]
  cases l8 t.E8
  ·by_cases v:t.name=AO<;>simp[v]
  ·cases KA t.name<;>simp
 have hg:D7 .gtr (iI (t.J7.length:Int)) (iI 0)=some (.bool (!decide (t.J7.length=0))):=by
  rw[Dw];congr 2;by_cases h:t.J7.length=0
  ·simp[h]
  ·have:(0:Int)<(t.J7.length:Int):=by omega
   simp[h];omega
 simp only[p8,h4,DY,z4q,N7,P5,F3,DX,hg,Ex.one,hk];generalize M6 t.E8 t.J7.length=ek;by_cases v:(t.D5.length:Int)=ek<;>by_cases w:t.E8=14<;>by_cases u:t.J7.length=0<;>simp[v,w,u]
def B9b(a c:E5)(n:Int):List E5:=[a,.box [(iI n,.val)],c]
def A30(t0 t4:DV)(a c:E5):∀(ps:List Ex),(∀q∈ps,q.Sg)->
 KX C8 t0 t4 (ps.map Ex.D9) (B9b a c 0)=some (iI (if ps.all Ex.one=true then 0 else 1))
 |[],_=>by rw[List.map_nil,qZ,Yv];rfl
 |q::ps,h=>by
   rw[zjq,lX,su];have hq:=A8X q (h q (zgq ..));have ih:=A30 t0 t4 a c ps λx hx=>h x (zoq _ hx);simp only[AA,F8,Ex.pj,Ex.l6,Ex.ag,hq,N7,U4,F3,ih,zDq];rcases Bool.eq_false_or_eq_true q.one with hq1 | hq1;rotate_left
   ·have K4:H5 (B9b a c 0) 1=some [(iI 0,.val)]:=rfl;have g0:[((iI 0:DV),F4.val)][0]?=some (iI 0,.val):=rfl;simp only[hq1,zpq,F5,K4,N7,g0];rw[gL];rfl
   ·simp[hq1]
def Sb(t:Ex)(ht:t.fit):C8.p Tg [t.D9]=some (iI (if t.right=true then 0 else 1)):=by refine(A2j _).trans ?_;rw[A4a];simp only[AA,F8,Ex.pj,Ex.l6,Ex.ag];rw[zI];obtain⟨n,hn⟩:=B6v t ht;rw[Ex.O4]at hn;simp only[H5,zzq,zAq,N7,MB,F8,A6f hn];rw[Ex.B1t];exact A30 _ _ _ _ t.subs λq hq=>(Ex.B6t ht q hq).one
def A8R:C8.p lT [t.D9]=some (.bool t.none):=by refine(A54 _).trans ?_;rw[A8h];simp[Ty.none];by_cases h1:t.E8=0<;>by_cases h2:t.n=0<;>simp[h1,h2]
def yf(ht:t.thin=true)(may:Bool):C8.p Yp [t.D9,.bool may]=some (.bool (if t.none=true then may else t.closed)):=by refine(A6a _ _).trans ?_;rw[A8n];simp[Ty.l6,Ty.ag,A8R,vJ t ht,A2T 6 t ht,Ty.closed];cases t.none<;>cases t.right<;>simp
def KH:Ty:=.mk 0 0 []
def B20:(t=KH)↔t.none=true:=Ty.A6X.symm
variable (t:Ex)
noncomputable def V9:Ex:=.mk t.E8 0 0 (if l8 t.E8=true then t.name else AO) (if Be t.E8=true then t.arg else AO) (if eN t.E8=true then t.n else 0) (if eS t.E8=true then t.s else AO) (if Dp t.E8=true then t.op else 0)
 (if eA t.E8=true then t.a else KH) (if eB t.E8=true then t.b else KH) (if t.E8=14 then t.J7 else[]) []
def FD:Int:=if 1<=t.E8/\t.E8<=16 then M6 t.E8 t.J7.length else -1
def A4L(ht:t.Sg):C8.p Zi [t.D9]=some (.J8 [(V9 t).D9,iI (FD t)]):=by
 have hp:=big (zmq ht.J7);refine(A2h _).trans ?_;rw[A37,Ex.O4 (V9 t)];by_cases k14:t.E8=14
 ·have h1:D7 .add (iI 1) (iI (t.J7.length:Int))=some (iI ((t.J7.length:Int)+1)):=by rw[lu,Fg (by omega) (by omega),Int.add_comm]
  simp[k14,h1,V9,FD,KH,l8,Be,eN,eS,Dp,eA,eB,Ae,M6,Bu]
 by_cases k1:t.E8=1
 ·simp[k1,V9,FD,KH,l8,Be,eN,eS,Dp,eA,eB,Ae,M6,Bu]
 by_cases k2:t.E8=2
 ·simp[k2,V9,FD,KH,l8,Be,eN,eS,Dp,eA,eB,Ae,M6,Bu]
 by_cases k3:t.E8=3
 ·simp[k3,V9,FD,KH,l8,Be,eN,eS,Dp,eA,eB,Ae,M6,Bu]
 by_cases k4:t.E8=4
 ·simp[k4,V9,FD,KH,l8,Be,eN,eS,Dp,eA,eB,Ae,M6,Bu]
 by_cases k5:t.E8=5
 ·simp[k5,V9,FD,KH,l8,Be,eN,eS,Dp,eA,eB,Ae,M6,Bu]
 by_cases k6:t.E8=6
 ·simp[k6,V9,FD,KH,l8,Be,eN,eS,Dp,eA,eB,Ae,M6,Bu]
 by_cases k7:t.E8=7
 ·simp[k7,V9,FD,KH,l8,Be,eN,eS,Dp,eA,eB,Ae,M6,Bu]
 by_cases k8:t.E8=8
 ·simp[k8,V9,FD,KH,l8,Be,eN,eS,Dp,eA,eB,Ae,M6,Bu]
 by_cases k9:t.E8=9
 ·have d1:D7 .sub (iI 9) (iI 9)=some (iI 0):=by rw[IX,Fg (by omega) (by omega)];rfl
  have d2:D7 .quo (iI 0) (iI 2)=some (iI 0):=rfl;have d3:D7 .add (iI 1) (iI 0)=some (iI 1):=by rw[lu,Fg (by omega) (by omega)];rfl
  simp only[k9,V9,FD,KH,l8,Be,eN,eS,Dp,eA,eB,Ae,M6,Bu,Ex.Bh,AA,F8,Kt,AV,N7,F3];simp[aB,d1,d2,d3,k9,Bu]
 by_cases k10:t.E8=10
 ·simp[k10,V9,FD,KH,l8,Be,eN,eS,Dp,eA,eB,Ae,M6,Bu]
 by_cases k11:t.E8=11
 ·have d1:D7 .sub (iI 11) (iI 9)=some (iI 2):=by rw[IX,Fg (by omega) (by omega)];rfl
  have d2:D7 .quo (iI 2) (iI 2)=some (iI 1):=rfl;have d3:D7 .add (iI 1) (iI 1)=some (iI 2):=by rw[lu,Fg (by omega) (by omega)];rfl
  simp only[k11,V9,FD,KH,l8,Be,eN,eS,Dp,eA,eB,Ae,M6,Bu,Ex.Bh,AA,F8,Kt,AV,N7,F3];simp[aB,d1,d2,d3,k11,Bu]
 by_cases k12:t.E8=12
 ·simp[k12,V9,FD,KH,l8,Be,eN,eS,Dp,eA,eB,Ae,M6,Bu]
 by_cases k13:t.E8=13
 ·simp[k13,V9,FD,KH,l8,Be,eN,eS,Dp,eA,eB,Ae,M6,Bu]
 by_cases k15:t.E8=15
 ·simp[k15,V9,FD,KH,l8,Be,eN,eS,Dp,eA,eB,Ae,M6,Bu]
 by_cases k16:t.E8=16
 ·simp[k16,V9,FD,KH,l8,Be,eN,eS,Dp,eA,eB,Ae,M6,Bu]
 ·have hk:¬(1<=t.E8/\t.E8<=16):=by omega
  simp[V9,FD,hk,KH,l8,Be,eN,eS,Dp,eA,eB,k1,k2,k3,k4,k5,k6,k7,k8,k9,k10,k11,k12,k13,k14,k15,k16,Bu]
def Ex.B1i:Bool :=
 if t.E8=1\/t.E8=9\/t.E8=11 then KA t.name else if t.E8=12 then KA t.name&&KA t.arg
 else if t.E8=3 then decide (t.n=0)||decide (t.n=1)else if t.E8=4 then decide (t.s.size<=200)
 else if t.E8=14 then decide (0<t.J7.length)else if t.E8=16 then decide (1<=t.op)&&decide (t.op<=7)else true
def Ex.A63:Bool:=(if t.a.none=true then !decide (t.E8=15)else t.a.closed)&&(if t.b.none=true then true else t.b.closed)&&t.B1i
noncomputable def Ex.own:Bool:=decide (FD t=(t.D5.length:Int))&&decide (t.name=(V9 t).name)&&decide (t.arg=(V9 t).arg)&&decide (t.n=(V9 t).n)&&decide (t.s=(V9 t).s)&&decide (t.op=(V9 t).op)&&decide (t.J7.length=(V9 t).J7.length) &&decide (t.a=(V9 t).a)&&decide (t.b=(V9 t).b)&&t.A63
def B1H(ht:t.Sg):C8.p rW [t.D9]=some (.bool t.own):=by
 refine(A8w _).trans ?_;have x0:∀a b,Q4 0 (.J8 [a,b])=some a:=λ_ _=>rfl;have x1:∀a b,Q4 1 (.J8 [a,b])=some b:=λ_ _=>rfl;have hg:D7 .gtr (iI (t.J7.length:Int)) (iI 0)=some (.bool (decide (0<t.J7.length))):=by rw[Dw];congr 2;rw[decide_eq_decide];omega
 have hs:D7 .leq (iI (t.s.size:Int)) (iI 200)=some (.bool (decide (t.s.size<=200))):=by rw[PO];congr 2;rw[decide_eq_decide];omega
 have h6:gD C8 t.D9=some (.bool t.A63):=by
  rw[A5N];simp only[Ex.pj,Ty.l6,Ty.ag,DX,AV,N7,yf _ ht.a,yf _ ht.b,iM t.name ht.name,iM t.arg ht.arg,U4,P5,F3,Fq,hs,DY,z4q,hg,V_,PO,Ex.A63,Ex.B1i]
  by_cases c1:(if t.a.none=true then !decide (t.E8=15)else t.a.closed)=true
  ·by_cases c2:(if t.b.none=true then true else t.b.closed)=true
   ·simp only[c1,c2,zJq,z2q,G8,zEq]
    by_cases k1:t.E8=1
    ·simp[k1]
    by_cases k9:t.E8=9
    ·simp[k9]
    by_cases k11:t.E8=11
    ·simp[k11]
    by_cases k12:t.E8=12
    ·simp[k12];cases KA t.name<;>simp
    by_cases k3:t.E8=3
    ·simp[k3];by_cases n0:t.n=0<;>simp[n0]
    by_cases k4:t.E8=4
    ·simp[k4]
    by_cases k14:t.E8=14
    ·simp[k14]
    by_cases k16:t.E8=16
    ·simp[k16];by_cases o1:1<=t.op<;>simp[o1]
    simp[k1,k9,k11,k12,k3,k4,k14,k16]
   ·have c2':(if t.b.none=true then true else t.b.closed)=false:=znq.2 c2;simp only[c1,c2',zJq,z2q,G8,zpq,F5,Bool.and_false,zMq]
  ·have c1':(if t.a.none=true then !decide (t.E8=15)else t.a.closed)=false:=znq.2 c1;simp only[c1',zpq,F5,zMq]
 have h4:gB C8 t.D9 (V9 t).D9=some (.bool (decide (t.a=(V9 t).a)&&decide (t.b=(V9 t).b)&&t.A63)):=by
  rw[A5M];simp only[Ex.pj,Ty.l6,Ty.ag,yc _ ht.a,yc _ ht.b,N7,U4,P5,F3,h6]
  by_cases a1:t.a=(V9 t).a<;>by_cases a2:t.b=(V9 t).b<;>simp[a1,a2]
 rw[B0D];simp only[AA,F8,Ex.pj,Ex.l6,Ex.ag,A4L t ht,x0,x1,N7,DY,z4q,DX,S_,P5,F3,h4,Ex.own]
 by_cases a1:FD t=(t.D5.length:Int)<;>simp[a1];by_cases a2:t.name=(V9 t).name<;>simp[a2];by_cases a3:t.arg=(V9 t).arg<;>simp[a3];by_cases a4:t.n=(V9 t).n<;>simp[a4];by_cases a5:t.s=(V9 t).s<;>simp[a5];by_cases a6:t.op=(V9 t).op<;>simp[a6];by_cases a7:t.J7.length=(V9 t).J7.length
 ·have a7':(t.J7.length:Int)=((V9 t).J7.length:Int):=by omega
  simp[a7]
 ·have a7':¬(t.J7.length:Int)=((V9 t).J7.length:Int):=by omega
  simp[a7,a7']
def Ex.B6S:t.B1i=((!l8 t.E8||KA t.name)&&(!Be t.E8||KA t.arg)&&(!decide (t.E8=3)||decide (t.n=0)||decide (t.n=1))&&(!decide (t.E8=4)||decide (t.s.size<=200))&&(!decide (t.E8=14)||decide (0<t.J7.length))&&(!Dp t.E8||(decide (1<=t.op)&&decide (t.op<=7)))):=by
 unfold Ex.B1i l8 Be Dp;by_cases k1:t.E8=1
 ·simp[k1]
 by_cases k9:t.E8=9
 ·simp[k9]
 by_cases k11:t.E8=11
 ·simp[k11]
 by_cases k12:t.E8=12
 ·simp[k12]
 by_cases k3:t.E8=3
 ·simp[k3]
 by_cases k4:t.E8=4
 ·simp[k4]
 by_cases k14:t.E8=14
 ·simp[k14]
 by_cases k16:t.E8=16
 ·simp[k16]
 simp[k1,k9,k11,k12,k3,k4,k14,k16]
variable (E:Bool)
def A3m(s:ByteArray):(decide (s=if E=true then s else AO)&&(!E||KA s))=VB E s:=by cases E<;>simp[VB]
def B9m(n:Int):decide (n=if E=true then n else 0)=(E||decide (n=0)):=by cases E<;>simp
def B9n:(decide (s=if eS k=true then s else AO)&&(!decide (k=4)||decide (s.size<=200)))=((eS k||decide (s=AO))&&decide (s.size<=200)):=by
 have n200:AO.size<=200:=by decide
 unfold eS;by_cases h:k=4
 ·simp[h]
 ·by_cases e:s=AO
  ·simp[h,e,n200]
  ·simp[h,e]
def B70(n:Int)(r:Bool):(decide (n=if E=true then n else 0)&&(!E||r))=((!E||r)&&(E||decide (n=0))):=by cases E<;>simp
def B4q(l:List F6):decide (l.length=(if k=14 then l else[]).length)=(decide (k=14)||decide (l.length=0)):=by by_cases h:k=14<;>simp[h]
def A6i(m:Bool)(t:Ty):(decide (t=if E=true then t else KH)&&(if t.none=true then !m else t.closed))=VC E m t:=by
 have dA:decide (t=KH)=t.none:=by rw[zuq,I4];exact B20 t
 unfold VC;cases E
 ·simp only[z2q,G8,dA]
  cases hn:t.none<;>simp
 ·simp
theorem Ex.B6T:(t.own&&t.J7.all F6.right)=t.one:=by
 by_cases hk:1<=t.E8/\t.E8<=16;rotate_left
 ·have h1:FD t=-1:=by unfold FD;rw[A7 hk]
  have h2:¬((-1:Int)=(t.D5.length:Int)):=by omega
  have k0:JQ t.E8 t.J7.length=false:=by unfold JQ;rw[znq];intro h';simp only[zkq,I4]at h';omega
  unfold Ex.own Ex.one;rw[k0,h1];simp[h2]
 have hm:FD t=M6 t.E8 t.J7.length:=by unfold FD;rw[C9 hk]
 have Ao:JQ t.E8 t.J7.length=(!decide (t.E8=14)||decide (0<t.J7.length)):=by unfold JQ;simp[hk.1,hk.2]
 have cm:decide (M6 t.E8 t.J7.length=(t.D5.length:Int))=decide ((t.D5.length:Int)=M6 t.E8 t.J7.length):=by rw[decide_eq_decide];exact eq_comm
 have hb:(if t.b.none=true then true else t.b.closed)=(if t.b.none=true then !false else t.b.closed):=rfl;have ha:(if t.a.none=true then !decide (t.E8=15)else t.a.closed)=(if t.a.none=true then !Ae t.E8 else t.a.closed):=rfl;unfold Ex.own Ex.one Ex.A63 Ex.uk Ex.ul Ex.um Ex.uo Ex.uq Ex.bD Ex.oC Ex.zm;rw[hm,cm,Ao,Ex.B6S,hb,ha];simp only[V9,Ex.Zc,Ex.A5e,Ex.Sl,Ex.A2N,Ex.B1g,Ex.B3T,Ex.B35,Ex.A2I];rw[<- A3m (l8 t.E8) t.name,<- A3m (Be t.E8) t.arg,<- B9m (eN t.E8) t.n,<- B9n t.E8 t.s,<- B70 (Dp t.E8) t.op,<- B4q t.E8 t.J7,<- A6i (eA t.E8),<- A6i (eB t.E8)]
 ac_rfl
def A7Q:t.fit->C8.p Wn [t.D9]=some (.bool t.right):=by
 induction t using Ex.ind with
 |h t ih=>
   intro ht;have hk:=big (zmq ht.one.D5);have hp:=big (zmq ht.one.J7);refine(A4w _).trans ?_;have l2:=Xq (l:=t.D5) (f:=Ex.right) (P:=λi=>QQ C8 (iI i) t.D9)
    (by rw[dV];simp)
    (λi h=>by rw[dV];simp[h,R7 h,Ex.l6,Ex.ag,ih _ (z0q h) (ht.kid (z0q h)),Br (show i<9223372036854775807 by omega)];cases t.D5[i].right<;>rfl)
   have l1:=az (l:=t.J7) (f:=F6.right) (P:=λi=>Lr C8 (iI i) t.D9) (y:=.bool (t.D5.all Ex.right)) (n:=.bool false)
    (by rw[dU];simp only[IW,Int.lt_irrefl,R8,N7,F3,z2q,G8,Ex.A1v,DY,z4q];exact l2)
    (λi h=>by rw[dU];have f:=ht.one.pat _ (z0q h);simp[h,R7 h,F6.l6,F6.ag,A1I _ f.size f.txt,Br (show i<9223372036854775807 by omega)];cases t.J7[i].right<;>rfl)
   rw[A5K,Ex.right_eq,<- Ex.B6T];simp only[AA,F8,Ex.pj,Ex.l6,Ex.ag,B1H t ht.one,N7,U4,F3];have l1':Lr C8 (iI 0) t.D9=_:=l1;rw[l1'];cases t.own<;>cases t.J7.all F6.right<;>simp
def A1H:p.thin=true->∀n:Int,0<=n->n<=401->∃m:Int,C8.p QH [p.D9,iI n]=some (iI m)/\n<=m/\m<=401:=by
 induction p using F6.ind with
 |h p ih=>
   intro ht n h0 h1;have hb:=p.Dz ht;have loop:∀(k j:Nat)(n:Int),j+k=p.D5.length->0<=n->n<=401->∃m:Int,Lg C8 (iI n) (iI j) p.D9=some (iI m)/\n<=m/\m<=401:=by
    intro k;induction k with
    |zero=>
      intro j n hj h0 h1;refine⟨n,?_,Int.le_refl _,h1⟩;have:¬j<p.D5.length:=by omega
      rw[XZ];simp[this]
    |succ k ihk=>
      intro j n hj h0 h1;have O8:j<p.D5.length:=by omega
      rw[XZ];by_cases hn:n<=400
      ·have YI:D7 .add (iI n) (iI 1)=some (iI (n+1)):=RI (by omega) (by omega);obtain⟨m,a1,a2,a3⟩:=ih _ (z0q O8) (F6.Dy ht (z0q O8)) (n+1) (by omega) (by omega);obtain⟨m',b1,b2,b3⟩:=ihk (j+1) m (by omega) (by omega) a3;push_cast at b1;exact⟨m',by simp[O8,hn,YI,R7 O8,F6.l6,F6.ag,a1,Br (show j<9223372036854775807 by omega),b1],by omega,b3⟩
      ·exact⟨n,by simp[O8,hn],Int.le_refl _,h1⟩
   by_cases c1:(300:Int)<(p.s.size:Int)
   ·refine⟨401,(Si _ _).trans ?_,h1,by omega⟩;rw[UQ];simp[c1]
   by_cases c2:(300:Int)<(p.name.size:Int)
   ·refine⟨401,(Si _ _).trans ?_,h1,by omega⟩;rw[UQ];simp[c1,c2]
   obtain⟨m,a1,a2,a3⟩:=loop p.D5.length 0 n (by omega) h0 h1;refine⟨m,(Si _ _).trans ?_,a2,a3⟩;rw[UQ];simp[c1,c2];exact a1
def Mo(k:Ex):(DV.agg [A8 0 k.D9,A8 1 k.D9,A8 2 k.D9,A8 3 k.D9,A8 4 k.D9,A8 5 k.D9,A8 6 k.D9,A8 7 k.D9,A8 8 k.D9,A8 9 k.D9,A8 10 k.D9,A8 11 k.D9,A8 12 k.D9,A8 13 k.D9,A8 14 k.D9,A8 15 k.D9])=k.D9:=by simp[Ex.l6,Ex.ag]
def A8V:t.fit->t.V4<=Q8->C8.p Yo [t.D9]=some (iI t.size):=by
 induction t using Ex.ind with
 |h t ih=>
   intro ft hm;have hk:=big (zmq ft.one.D5);have hs:=t.TY;have hb:=big hm;refine(A59 _).trans ?_;rw[A8m];simp only[AA,F8];have loop:=Xr (l:=t.D5) (P:=λi (a:Nat)=>SG C8 (iI a) (iI i) t.D9) (g:=λa k=>a+k.size) (fin:=λa=>some (iI a))
    (I:=λi a=>a+((t.D5.drop i).map Ex.size).sum<=Q8)
    (λa _=>by rw[jY];simp)
    (λi h a ha=>by
      rw[z1q h,zjq,ztq]at ha;have:=big ha;refine⟨?_,by omega⟩;rw[jY];have e:D7 .add (iI (a:Int)) (iI (t.D5[i].size:Int))=some (iI ((a+t.D5[i].size:Nat):Int)):=by rw[RI (by omega) (by omega)];simp
      simp[h,R7 h,Ex.l6,Ex.ag,ih _ (z0q h) (ft.kid (z0q h)) (by have:=Ex.bA (z0q h);omega),Br (show i<9223372036854775807 by omega),e]) 1
    (by have:=t.size_eq;simpa using(by omega:1+(t.D5.map Ex.size).sum<=Q8))
   have e:∀(l:List Ex)(a:Nat),l.foldl (λa k=>a+k.size) a=a+(l.map Ex.size).sum:=by
    intro l;induction l with
    |nil=>intro a;simp
    |cons x l ih=>intro a;simp[ih];omega
   rw[e,<- Ex.size_eq]at loop;exact loop
def Ex.B8t{t:Ex}(rt:t.right=true)(k68:t.E8=6\/t.E8=8):∃(h0:0<t.D5.length)(h1:1<t.D5.length),t.D5.take 2=[t.D5[0],t.D5[1]]:=by
 have Lc:=Ex.B4T (Ex.Xz rt);have GZ:t.D5.length=2:=by rcases k68 with k | k<;>rw[k]at Lc<;>simp[M6]at Lc<;>omega
 refine⟨by omega,by omega,?_⟩;apply List.ext_getElem
 ·simp[GZ]
 ·intro i h1 h2;simp at h2
  match i,h2 with
  |0,_=>simp
  |1,_=>simp
def A4N:t.fit->t.right=true->C8.p O_ [t.D9]=some (.bool t.value):=by
 induction t using Ex.ind with
 |h t ih=>
   intro ft rt;refine(A2l _).trans ?_;rw[A4f,Ex.B5w];by_cases k1:t.E8=1
   ·simp[k1]
   by_cases k2:t.E8=2
   ·simp[k2]
   by_cases k3:t.E8=3
   ·simp[k3]
   by_cases k4:t.E8=4
   ·simp[k4]
   by_cases k5:t.E8=5
   ·simp[k5]
   by_cases k7:t.E8=7
   ·simp[k7]
   by_cases k9:t.E8=9
   ·simp[k9]
   by_cases k68:t.E8=6\/t.E8=8
   ·obtain⟨h0,h1,e⟩:=Ex.B8t rt k68;have d0:M4 16 (.list 16 (t.D5.map Ex.D9)) (iI 0)=some t.D5[0].D9:=R7 h0;have d1:M4 16 (.list 16 (t.D5.map Ex.D9)) (iI 1)=some t.D5[1].D9:=R7 h1;have i0:=ih _ (z0q h0) (ft.kid (z0q h0)) (Ex.ED rt (z0q h0));have i1:=ih _ (z0q h1) (ft.kid (z0q h1)) (Ex.ED rt (z0q h1));have p11:Ob C8 t.D9=some (.bool ((t.D5.take 2).all Ex.value)):=by rw[zJ,e];simp[d0,d1,Ex.l6,Ex.ag,i0,i1];cases t.D5[0].value<;>simp
    rcases k68 with k | k<;>simp[k,p11]
   ·have k6:¬t.E8=6:=λh=>k68 (.inl h);have k8:¬t.E8=8:=λh=>k68 (.inr h);simp[k1,k2,k3,k4,k5,k6,k7,k8,k9]
def A4M(ft:t.fit):C8.p Zj [t.D9]=some (.bool (t.right&&t.value)):=by
 refine(A2k _).trans ?_;rw[A4b];simp only[AA,F8,Mo,Sb t ft,N7,AV];cases rt:t.right
 ·simp
 ·simp[Mo,A4N t ft rt]
end Go.Su
