/- Part. -/
import Derived.Test.YtdmcadckdnnglaaGreatDoorLb
set_option linter.all false
set_option maxHeartbeats 4000000
namespace Go.Sy
open Go Go.Proofs Tryz Ord
def bH2:Tr:=lZ 64 0 0 0 1 0 2 0 3 0 4 0 5 4 6 (og 202 1 3 3 39 (lZ 36 1 0 1 1 1 2 2 0 2 1 2 2 7 8 (iz 3 3 1 3 2)))
def ao8:aO prog f237 cT [.v (some 6)]=bH2:=aT
def KG:Tr:=.ret [W 0 0,W 3 0,.one (.ref 0 [.u 7 0,.u 7 1,.u 7 2]),W 8 0,.one (.ref 0 [.u 10 0,.u 10 1,.u 10 2,.u 10 3,.u 10 4,.u 10 5,.u 10 6,.u 10 7,.u 10 8])]
def Ie:Tr:=.need (.call 130 [W 13 0,WK (14)] []) (D5 130 #[.tmp 43,.const (I3 (14))] #[4,55]) 0 true KG
def MT:Tr:=.need (.prim [W 12 0,WK (0)] none) (.binOp .leq 3 (.tmp 42) (.const (I3 (0))) 3) 4 false Ie
def NM:Tr:=.need (.call 38 [.agg [U 11 0,U 11 1,U 11 2],.agg [U 10 5,U 10 6,U 10 7]] [none]) (D5 38 #[.tmp 39,.tmp 41] #[39,39]) 3 true MT
def NP:Tr:=.need (.call 64 [.agg [U 7 0,U 7 1,U 7 2],.agg [U 7 0,U 7 1,U 7 2]] [some 3]) (D5 64 #[.tmp 37,.tmp 38] #[39,39]) 39 false NM
def NX:Tr:=.need (.call 123 [.agg [U 9 0,U 9 1,U 9 2,U 9 3,U 9 4]] [some 9]) (D5 123 #[.tmp 35] #[171]) 185 true NP
def LX:Tr:=.need (.call 100 [W 1 0,.agg [U 4 0,U 4 1,U 4 2]] [some 5]) (D5 100 #[.tmp 33,.tmp 34] #[32,39]) 171 true NX
def NF:Tr:=.need (.call 234 [.agg [U 1 0,U 1 1,U 1 2,U 1 3,U 1 4],.agg [U 4 0,U 4 1,U 4 2],W 0 0] [none]) (D5 234 #[.tmp 28,.tmp 29,.tmp 30] #[42,39,3]) 118 true LX
def NZ:Tr:=.need (.call 36 [.agg [U 5 0,U 5 1,U 5 2],.agg [U 6 0,U 6 1,U 6 2]] [some 3]) (D5 36 #[.tmp 25,.tmp 26] #[39,39]) 39 true NF
def Mg:Tr:=.need (.call 202 [WK (1)] [some 3]) (D5 202 #[.const (I3 (1))] #[3]) 39 false NZ
def Of:Tr:=.need (.call 80 [.agg [U 2 0,U 2 1,U 2 2,U 2 3,U 2 4,U 2 5]] [some 3]) (D5 80 #[.tmp 24] #[123]) 39 false Mg
def My:Tr:=.need (.call 237 [.agg [U 2 0,U 2 1,U 2 2,U 2 3,U 2 4,U 2 5]] [some 3]) (D5 237 #[.tmp 22] #[123]) 39 false Of
def sL:lG prog 146 (fun _=>none) (cJ [1] (dJ f170)) [(2,.v none),(3,.ref 5),(4,.ref 6),(6,.v none)] ([2,6,8,9,10].map ResultVar.tmp) (some 3) false=My:=aT
def HX:Tr:=.back 0 [.w (W 14 0),.row 13]
def NJ:Tr:=.need (.prim [W 6 0,WK (1)] none) (.binOp .add 3 (.tmp 52) (.const (I3 (1))) 3) 3 false HX
def NQ:Tr:=.need (.app 6 112 (some 7) none (some 12)) (.call ⟨.builtin .append,#[.tmp 66,.tmp 69],#[118,118]⟩) 118 false NJ
def MQ:Tr:=.need (.lit 6 [[.u 11 0,.u 11 1,.u 11 2,.u 11 3,.u 11 4,.u 11 5]]) (.buildSlice 118 1 #[(0,.tmp 68)]) 118 false NQ
def NC:Tr:=.need (.call 227 [.agg [U 9 0,U 9 1,U 9 2]] [some 6]) (D5 227 #[.tmp 67] #[39]) 123 true MQ
def LG:Tr:=.back 0 [.w (W 15 0),.row 14]
def Hl:Tr:=.need (.prim [W 6 0,WK (1)] none) (.binOp .add 3 (.tmp 52) (.const (I3 (1))) 3) 3 false LG
def Ix:Tr:=.need (.app 6 112 (some 7) none (some 13)) (.call ⟨.builtin .append,#[.tmp 75,.tmp 78],#[118,118]⟩) 118 false Hl
def Gx:Tr:=.need (.lit 6 [[.k (.slice none 0 0),.k (.bool false),.k (.slice none 0 0),.u 9 0,.u 9 1,.u 9 2]]) (.buildSlice 118 1 #[(0,.tmp 77)]) 118 false Ix
def KS:Tr:=.back 0 [.w (W 16 0),.row 15]
def Ik:Tr:=.need (.prim [W 6 0,WK (1)] none) (.binOp .add 3 (.tmp 52) (.const (I3 (1))) 3) 3 false KS
def Ky:Tr:=.need (.app 6 112 (some 7) none (some 14)) (.call ⟨.builtin .append,#[.tmp 58,.tmp 61],#[118,118]⟩) 118 false Ik
def Lm:Tr:=.need (.lit 6 [[.u 13 0,.u 13 1,.u 13 2,.u 13 3,.u 13 4,.u 13 5]]) (.buildSlice 118 1 #[(0,.tmp 60)]) 118 false Ky
def Ko:Tr:=.need (.call 228 [.agg [U 9 0,U 9 1,U 9 2]] [some 6]) (D5 228 #[.tmp 59] #[39]) 123 true Lm
def HM:Tr:=.split (.u 12 0) Gx Ko
def KO:Tr:=.need (.prim [W 11 0,WK (0)] none) (.binOp .eql 3 (.tmp 73) (.const (I3 (0))) 3) 4 false HM
def Kb:Tr:=.need (.prim [W 6 0,WK (2)] none) (.binOp .rem 3 (.tmp 72) (.const (I3 (2))) 3) 3 false KO
def ML:Tr:=.split (.u 10 0) NC Kb
def Nq:Tr:=.need (.prim [W 6 0,WK (0)] none) (.binOp .eql 3 (.tmp 64) (.const (I3 (0))) 3) 4 false ML
def MI:Tr:=.need (.call 203 [.agg [U 2 0,U 2 1,U 2 2],W 6 0] [some 3]) (D5 203 #[.tmp 55,.tmp 56] #[39,3]) 39 true Nq
def KX:Tr:=.ret [W 0 0,W 1 0,.one (.ref 0 [.u 2 0,.u 2 1,.u 2 2]),W 3 0,W 4 0,W 5 0,.one (.c (.sr 6 7))]
def Na:Tr:=.split (.u 8 0) MI KX
def Ny:Tr:=.need (.prim [W 6 0,W 5 0] none) (.binOp .lss 3 (.tmp 52) (.tmp 51) 3) 4 false Na
def Nr:Tr:=.loop 0 [.w (WK (0)),.nilrow] Ny
def Vm:lG prog 146 (fun _=>none) (cJ [1,1,1,1,1,1,1] (dJ f170)) [(2,.v none),(6,.v none),(8,.ref 3),(9,.v none),(11,.v none),(12,.v none)] ([2,6,8,9,11,12,13].map ResultVar.tmp) (some 1) false=Nr:=aT
def Ej:Tr:=.back 1 [.w (W 35 0),.w (W 34 0),.w (W 34 1),.w (W 34 2),.w (W 34 3),.w (W 34 4),.w (W 34 5)]
def DN:Tr:=.need (.prim [W 15 0,WK (1)] none) (.binOp .add 3 (.tmp 95) (.const (I3 (1))) 3) 3 false Ej
def Dy:Tr:=.need (.call 66 [.agg [U 16 0,U 17 0,U 18 0,U 19 0,U 20 0,U 21 0],.agg [U 33 0,U 33 1,U 33 2,U 33 3,U 33 4,U 33 5]] [some 6]) (D5 66 #[.tmp 97,.tmp 115] #[123,123]) 123 true DN
def DR:Tr:=.need (.call 74 [.agg [U 25 0,U 25 1,U 25 2,U 25 3,U 25 4,U 25 5],.agg [U 32 0,U 32 1,U 32 2]] [some 6]) (D5 74 #[.tmp 103,.tmp 114] #[123,39]) 123 true Dy
def Ez:Tr:=.need (.call 36 [.agg [U 30 0,U 30 1,U 30 2],.agg [U 31 0,U 31 1,U 31 2]] [some 3]) (D5 36 #[.tmp 110,.tmp 113] #[39,39]) 39 false DR
def EN:Tr:=.need (.call 209 [W 15 0,WK (0)] [some 3]) (D5 209 #[.tmp 111,.tmp 112] #[3,3]) 39 false Ez
def Ev:Tr:=.need (.prim [W 29 0] (some 3)) (.load 39 (.tmp 109)) 39 false EN
def DT:Tr:=.need (.prim [W 28 0,W 15 0] none) (.indexAddr 40 (.tmp 107) (.tmp 108)) 0 false Ev
def EK:Tr:=.need (.prim [W 27 0] none) (.load 40 (.tmp 106)) 40 false DT
def EP:Tr:=.need (.prim [W 26 0] none) (.fieldAddr 266 (.tmp 105) 2) 0 false EK
def EM:Tr:=.need (.prim [W 14 0] none) (.nilCheck (.tmp 104)) 0 false EP
def Er:Tr:=.need (.prim [W 24 0] (some 6)) (.load 123 (.tmp 102)) 123 false EM
def DK:Tr:=.need (.prim [W 6 0,W 23 0] none) (.indexAddr 118 (.tmp 98) (.tmp 101)) 0 false Er
def IY:Tr:=.need (.prim [W 15 0,WK (0)] none) (.binOp .sub 3 (.tmp 99) (.tmp 100) 3) 3 false DK
def Eu:Tr:=.back 0 [.w (W 32 0),.row 31]
def EA:Tr:=.need (.prim [W 10 0,WK (1)] none) (.binOp .add 3 (.tmp 86) (.const (I3 (1))) 3) 3 false Eu
def Eb:Tr:=.need (.strow 11 12 (.k (.int .i64 (0))) 0 [.u 30 0,.u 30 1,.u 30 2,.u 30 3,.u 30 4,.u 30 5]) (.store 123 (.tmp 135) (.tmp 134)) 0 false EA
def DV:Tr:=.need (.call 66 [.agg [U 23 0,U 23 1,U 23 2,U 23 3,U 23 4,U 23 5],.agg [U 29 0,U 29 1,U 29 2,U 29 3,U 29 4,U 29 5]] [some 6]) (D5 66 #[.tmp 120,.tmp 133] #[123,123]) 123 true Eb
def Dx:Tr:=.need (.call 67 [.agg [U 25 0,U 25 1,U 25 2,U 25 3,U 25 4,U 25 5],.agg [U 28 0,U 28 1,U 28 2,U 28 3,U 28 4,U 28 5]] [some 6]) (D5 67 #[.tmp 124,.tmp 132] #[123,123]) 123 true DV
def EV:Tr:=.need (.call 66 [.agg [U 16 0,U 17 0,U 18 0,U 19 0,U 20 0,U 21 0],.agg [U 27 0,U 27 1,U 27 2,U 27 3,U 27 4,U 27 5]] [some 6]) (D5 66 #[.tmp 125,.tmp 131] #[123,123]) 123 false Dx
def Ek:Tr:=.need (.call 228 [.agg [U 26 0,U 26 1,U 26 2]] [some 6]) (D5 228 #[.tmp 130] #[39]) 123 false EV
def DL:Tr:=.need (.call 133 [W 14 0,W 5 0,WK (0),.agg [U 2 0,U 2 1,U 2 2]] [some 3]) (D5 133 #[.tmp 126,.tmp 127,.tmp 128,.tmp 129] #[194,3,3,39]) 39 false Ek
def Ef:Tr:=.need (.prim [W 24 0] (some 6)) (.load 123 (.tmp 123)) 123 false DL
def DZ:Tr:=.need (.prim [W 3 0,W 10 0] none) (.indexAddr 118 (.tmp 121) (.tmp 122)) 0 false Ef
def DY:Tr:=.need (.ldrow 11 (.k (.int .i64 (0))) 0 6 true) (.load 123 (.tmp 119)) 123 false DZ
def KL:Tr:=.split (.u 22 0) IY DY
def Kj:Tr:=.need (.prim [W 15 0,W 5 0] none) (.binOp .lss 3 (.tmp 92) (.tmp 93) 3) 4 false KL
def GF:Tr:=.loop 1 [.w (WK (0)),.w (.one (.c (.k (.slice none 0 0)))),.w (.one (.c (.k (.bool false)))),.w (.one (.c (.k (.slice none 0 0)))),.w (.one (.c (.k (.slice none 0 0)))),.w (.one (.c (.k (.bool false)))),.w (.one (.c (.k (.slice none 0 0))))] Kj
def LM:Tr:=.need (.prim [W 13 0] none) (.load 194 (.tmp 89)) 194 false GF
def JQ:Tr:=.need (.prim [W 4 0,W 10 0] none) (.indexAddr 276 (.tmp 84) (.tmp 86)) 0 false LM
def Ee:Tr:=.retr [W 0 0,W 1 0,.one (.ref 0 [.u 2 0,.u 2 1,.u 2 2]),W 3 0,W 4 0,W 5 0,W 6 0,WK (0)] 15
def DH:Tr:=.need (.strow 11 12 (.k (.int .i64 (0))) 0 [.u 14 0,.u 14 1,.u 14 2,.u 14 3,.u 14 4,.u 14 5]) (.store 123 (.tmp 143) (.tmp 142)) 0 false Ee
def DX:Tr:=.need (.call 229 [.agg [U 13 0,U 13 1,U 13 2,U 13 3,U 13 4,U 13 5],W 0 0] [some 6]) (D5 229 #[.tmp 140,.tmp 141] #[123,3]) 123 true DH
def Ey:Tr:=.need (.ldrow 11 (.k (.int .i64 (0))) 0 6 true) (.load 123 (.tmp 139)) 123 false DX
def HI:Tr:=.split (.u 12 0) JQ Ey
def Jq:Tr:=.need (.prim [W 10 0,W 9 0] none) (.binOp .lss 3 (.tmp 86) (.tmp 85) 3) 0 false HI
def Gy:Tr:=.loop 0 [.w (WK (0)),.row 8] Jq
def Ju:Tr:=.need (.prim [W 4 0] none) (.call ⟨.builtin .len,#[.tmp 84],#[276]⟩) 3 false Gy
def QE:zO prog 146 (fun _=>none) (cJ [1,1,1,1,1,1,1,1,1,1,0,1,0,0,1,1,0] (dJ f170)) [(2,.v none),(6,.v none),(8,.ref 3),(9,.v none),(11,.v none),(12,.v none),(13,.v none),(81,.k (.int .i64 (0)))] 16 233 12 ([2,6,8,9,11,12,13,81].map ResultVar.tmp)=Ju:=aT
def ES:Tr:=.back 1 [.w (W 35 0),.w (W 34 0),.w (W 34 1),.w (W 34 2),.w (W 34 3),.w (W 34 4),.w (W 34 5)]
def ET:Tr:=.need (.prim [W 15 0,WK (1)] none) (.binOp .add 3 (.tmp 95) (.const (I3 (1))) 3) 3 false ES
def EL:Tr:=.need (.call 66 [.agg [U 16 0,U 17 0,U 18 0,U 19 0,U 20 0,U 21 0],.agg [U 33 0,U 33 1,U 33 2,U 33 3,U 33 4,U 33 5]] [some 6]) (D5 66 #[.tmp 97,.tmp 115] #[123,123]) 123 true ET
def Ec:Tr:=.need (.call 74 [.agg [U 25 0,U 25 1,U 25 2,U 25 3,U 25 4,U 25 5],.agg [U 32 0,U 32 1,U 32 2]] [some 6]) (D5 74 #[.tmp 103,.tmp 114] #[123,39]) 123 true EL
def Eg:Tr:=.need (.call 36 [.agg [U 30 0,U 30 1,U 30 2],.agg [U 31 0,U 31 1,U 31 2]] [some 3]) (D5 36 #[.tmp 110,.tmp 113] #[39,39]) 39 false Ec
def Dw:Tr:=.need (.call 209 [W 15 0,WK (1)] [some 3]) (D5 209 #[.tmp 111,.tmp 112] #[3,3]) 39 false Eg
def EB:Tr:=.need (.prim [W 29 0] (some 3)) (.load 39 (.tmp 109)) 39 false Dw
def Ed:Tr:=.need (.prim [W 28 0,W 15 0] none) (.indexAddr 40 (.tmp 107) (.tmp 108)) 0 false EB
def EI:Tr:=.need (.prim [W 27 0] none) (.load 40 (.tmp 106)) 40 false Ed
def DG:Tr:=.need (.prim [W 26 0] none) (.fieldAddr 266 (.tmp 105) 2) 0 false EI
def EF:Tr:=.need (.prim [W 14 0] none) (.nilCheck (.tmp 104)) 0 false DG
def Et:Tr:=.need (.prim [W 24 0] (some 6)) (.load 123 (.tmp 102)) 123 false EF
def EU:Tr:=.need (.prim [W 6 0,W 23 0] none) (.indexAddr 118 (.tmp 98) (.tmp 101)) 0 false Et
def Js:Tr:=.need (.prim [W 15 0,WK (1)] none) (.binOp .sub 3 (.tmp 99) (.tmp 100) 3) 3 false EU
def Eh:Tr:=.back 0 [.w (W 32 0),.row 31]
def Ea:Tr:=.need (.prim [W 10 0,WK (1)] none) (.binOp .add 3 (.tmp 86) (.const (I3 (1))) 3) 3 false Eh
def DP:Tr:=.need (.strow 11 12 (.k (.int .i64 (0))) 6 [.u 30 0,.u 30 1,.u 30 2,.u 30 3,.u 30 4,.u 30 5]) (.store 123 (.tmp 135) (.tmp 134)) 0 false Ea
def EH:Tr:=.need (.call 66 [.agg [U 23 0,U 23 1,U 23 2,U 23 3,U 23 4,U 23 5],.agg [U 29 0,U 29 1,U 29 2,U 29 3,U 29 4,U 29 5]] [some 6]) (D5 66 #[.tmp 120,.tmp 133] #[123,123]) 123 true DP
def Es:Tr:=.need (.call 67 [.agg [U 25 0,U 25 1,U 25 2,U 25 3,U 25 4,U 25 5],.agg [U 28 0,U 28 1,U 28 2,U 28 3,U 28 4,U 28 5]] [some 6]) (D5 67 #[.tmp 124,.tmp 132] #[123,123]) 123 true EH
def Ep:Tr:=.need (.call 66 [.agg [U 16 0,U 17 0,U 18 0,U 19 0,U 20 0,U 21 0],.agg [U 27 0,U 27 1,U 27 2,U 27 3,U 27 4,U 27 5]] [some 6]) (D5 66 #[.tmp 125,.tmp 131] #[123,123]) 123 false Es
def EJ:Tr:=.need (.call 228 [.agg [U 26 0,U 26 1,U 26 2]] [some 6]) (D5 228 #[.tmp 130] #[39]) 123 false Ep
def DQ:Tr:=.need (.call 133 [W 14 0,W 5 0,WK (1),.agg [U 2 0,U 2 1,U 2 2]] [some 3]) (D5 133 #[.tmp 126,.tmp 127,.tmp 128,.tmp 129] #[194,3,3,39]) 39 false EJ
def DE:Tr:=.need (.prim [W 24 0] (some 6)) (.load 123 (.tmp 123)) 123 false DQ
def DS:Tr:=.need (.prim [W 3 0,W 10 0] none) (.indexAddr 118 (.tmp 121) (.tmp 122)) 0 false DE
def DA:Tr:=.need (.ldrow 11 (.k (.int .i64 (0))) 6 6 true) (.load 123 (.tmp 119)) 123 false DS
def Kv:Tr:=.split (.u 22 0) Js DA
def Iw:Tr:=.need (.prim [W 15 0,W 5 0] none) (.binOp .lss 3 (.tmp 92) (.tmp 93) 3) 4 false Kv
def Lf:Tr:=.loop 1 [.w (WK (1)),.w (.one (.c (.k (.slice none 0 0)))),.w (.one (.c (.k (.bool false)))),.w (.one (.c (.k (.slice none 0 0)))),.w (.one (.c (.k (.slice none 0 0)))),.w (.one (.c (.k (.bool false)))),.w (.one (.c (.k (.slice none 0 0))))] Iw
def Iu:Tr:=.need (.prim [W 13 0] none) (.load 194 (.tmp 89)) 194 false Lf
def GB:Tr:=.need (.prim [W 4 0,W 10 0] none) (.indexAddr 276 (.tmp 84) (.tmp 86)) 0 false Iu
def Eo:Tr:=.retr [W 0 0,W 1 0,.one (.ref 0 [.u 2 0,.u 2 1,.u 2 2]),W 3 0,W 4 0,W 5 0,W 6 0,WK (1)] 15
def Em:Tr:=.need (.strow 11 12 (.k (.int .i64 (0))) 6 [.u 14 0,.u 14 1,.u 14 2,.u 14 3,.u 14 4,.u 14 5]) (.store 123 (.tmp 143) (.tmp 142)) 0 false Eo
def DW:Tr:=.need (.call 229 [.agg [U 13 0,U 13 1,U 13 2,U 13 3,U 13 4,U 13 5],W 0 0] [some 6]) (D5 229 #[.tmp 140,.tmp 141] #[123,3]) 123 true Em
def DJ:Tr:=.need (.ldrow 11 (.k (.int .i64 (0))) 6 6 true) (.load 123 (.tmp 139)) 123 false DW
def IB:Tr:=.split (.u 12 0) GB DJ
def KR:Tr:=.need (.prim [W 10 0,W 9 0] none) (.binOp .lss 3 (.tmp 86) (.tmp 85) 3) 0 false IB
def GK:Tr:=.loop 0 [.w (WK (0)),.row 8] KR
def Gw:Tr:=.need (.prim [W 4 0] none) (.call ⟨.builtin .len,#[.tmp 84],#[276]⟩) 3 false GK
def PW:zO prog 146 (fun _=>none) (cJ [1,1,1,1,1,1,1,1,1,1,0,1,0,0,1,1,0] (dJ f170)) [(2,.v none),(6,.v none),(8,.ref 3),(9,.v none),(11,.v none),(12,.v none),(13,.v none),(81,.k (.int .i64 (1)))] 16 233 12 ([2,6,8,9,11,12,13,81].map ResultVar.tmp)=Gw:=aT
def oc(r:Rat)(i:Nat):Rat×Rat:=if i=0 then(r^i,r^i)else if i%2=0 then(0,r^i)else(-(r^i),r^i)
def oX(r:Rat)(a:j1)(d:Nat):Nat->Rat×Rat
 | 0=>(0,0)
 | c+1=>((oX r a d c).1+(xn (oc r c) (a.getD (d+c) 0*((bB ((d+c:Nat):Int) d:Int):Rat))).1,(oX r a d c).2+(xn (oc r c) (a.getD (d+c) 0*((bB ((d+c:Nat):Int) d:Int):Rat))).2)
def ED(q:j0)(m:Nat)(lead aB:Rat)(st:Nat)(r:Rat)(n d l:Nat):Rat:=fM (lX q m lead aB st l) aB n d r
def dL(q:j0)(m:Nat)(lead aB:Rat)(st:Nat)(r:Rat)(n d l:Nat):Rat×Rat:=
 ((oX r (aU q m lead (ab m l) n) d (n-d)).1 + -(ED q m lead aB st r n d l),(oX r (aU q m lead (ab m l) n) d (n-d)).2+ED q m lead aB st r n d l)
def oV(q:j0)(m:Nat)(lead aB:Rat)(st:Nat)(r:Rat)(k:Int)(V:VS)(n d:Nat):Rat×Rat:=
 (oJ (dR (fun l=>V.getD l (0,0)) (dL q m lead aB st r n d) m).1 k.toNat,ZA (dR (fun l=>V.getD l (0,0)) (dL q m lead aB st r n d) m).2 k.toNat)
structure aQ9(q:j0)(m:Nat)(lead aB:Rat)(st:Nat)(r:Rat)(n B BS G:Nat):Prop where
 BT:∀d,d<=1->oj B aB n d r
 sh:∀d:Nat,d<=1->cP aB n d r<1
 fb:∀l,l<m->Fit B (lX q m lead aB st l)
 ft:∀l,l<m->∀d,d<=1->Fit G (ED q m lead aB st r n d l)
 fc:∀l,l<m->∀x∈aU q m lead (ab m l) n,Fit BS x
 fs:∀l,l<m->∀d,d<=1->∀c,c<=n-d->Fit BS (oX r (aU q m lead (ab m l) n) d c).1/\Fit BS (oX r (aU q m lead (ab m l) n) d c).2
 ff:∀i,i<n->∀d,d<=1->∀j,j<=d->Fit B ((bB (i:Int) j:Int):Rat)
 h0:aB≠0
 hB:B<=1073741824
 h64:64<=B
 hBS:BS<=400000000
 hG:G<=300000000
 n15:n<=1073741824
 n1:1<=n
def Vr{r:Rat}{B c:Nat}(h1:1<=B)(h:Fit B (r^c)):Fit B (oc r c).1/\Fit B (oc r c).2:=by
 unfold oc;split
 .exact⟨h,h⟩
 .split
  .exact⟨Fit.zero h1,h⟩
  .exact⟨h.neg,h⟩
theorem Pz:∀ts:List aE,au aE.Sub ts ts
 | []=>trivial
 | _::ts=>⟨aE.Sub.same,Pz ts⟩
theorem zU{u' u:List aE}(h:au aE.Sub u' u):∀ts:List (List aE),aF.Sub (.rows (ts++[u'])) (.rows (ts++[u]))
 | []=>⟨h,trivial⟩
 | t::ts=>⟨Pz t,zU h ts⟩
abbrev zpC(a:Rat):List aE:=.exact (.slice none 0 0)::.bool false::.exact (.slice none 0 0)::qC a
def cD5(a:Rat):au aE.Sub (zpC a) (cM 0 a):=⟨fg.1,fg.2.1,fg.2.2.1,aE.Sub.same,aE.Sub.same,aE.Sub.same,trivial⟩
abbrev zK(r:Rat)(n:Nat):List (List aE):=(List.range n).map fun i=>cM (oc r i).1 (oc r i).2
def tI(a b:Rat)(B:Nat)(ha:Fit B a)(hb:Fit B b)(hB:B<=4294967296:=by omega):aK prog 237 [(kP a b:aF)] (.ret [qT ((a+b)*mkRat 1 (2^1))]):=by
 refine dB func237 ao8 ?_;apply aA (lU a b B B ha hb);apply aA (CG 1);apply aA (cr (a+b) (mkRat 1 (2^1)) (B+B+1) 257 ((ha.add hb).mono O) (gu O));exact aN
def bQ8(v6 v9 v11:Value)(r:Rat)(k:Int)(n B:Nat)(aB:Rat)(C:oj B aB n 0 r)(hB:B<=1073741824)(hn:n<=1073741824):vc prog (fun o=>ey o (.ret [.one (.int .i64 k),.one (.exact v6),.one (.aW (qC r)),.one (.exact v9),.one (.exact v11),.one (.int .i64 n),.one (.slice 6 (zK r n))])) (lG prog 146 (fun _=>none) (cJ [1,1,1,1,1,1,1] (dJ f170)) [(2,.v none),(6,.v none),(8,.ref 3),(9,.v none),(11,.v none),(12,.v none)] ([2,6,8,9,11,12,13].map ResultVar.tmp) (some 1) false) ([.v (.one (.int .i64 k)),.v (.one (.exact v6)),.ref (qC r),.v (.one (.exact v9)),.v (.one (.exact v11)),.v (.one (.int .i64 n))].map In.env) []:=by
 rw[Vm];dsimp only[List.map,In.env,aP,aQ];refine bC {i:Nat // i<=n} (fun g=>[.one (.int .i64 g.1),.rows (zK r g.1)]) (fun g=>n-g.1) ⟨0,cG _⟩ aR.rfl (fun _=>rfl) ?_;rintro⟨i,hi⟩;dsimp only[aP,aQ]at hi|-;refine uS az ?_ ?_<;>intro h2
 .have hin:i<n:=O
  apply aA (kU r i B (fun j hj=>C.fr j O));refine uS bA ?_ ?_<;>intro h5
  .have hpw:oc r i=(r^i,r^i):=by unfold oc;rw[aI O]
   apply aA (ba9 (r^i));apply bh (us:=[cM (r^i) (r^i)]);refine su (ts:=zK r i) (us:=[cM (r^i) (r^i)]) (vs:=zK r (i+1)) rfl rfl (by rw[zK,zK,ml,ep,dy,jD,hpw]) (by rw[aX,pT];omega) (by rw[aX,pT];simp only[maxLen];omega) ?_;apply vn aC;dsimp only[aP,aQ];exact aa rfl ⟨⟨i+1,O⟩,aR.rfl,by show n-(i+1)<n-i;omega⟩
  apply vn gR;refine uS bA ?_ ?_<;>intro h13
  .have hpw:oc r i=(0,r^i):=by unfold oc;rw[aD O,aI O]
   apply bh (us:=[zpC (r^i)]);refine su (ts:=zK r i) (us:=[zpC (r^i)]) (vs:=zK r i++[zpC (r^i)]) rfl rfl rfl (by rw[gK,aX,pT,Sv];omega) (by rw[gK,aX,pT,Sv];simp only[maxLen];omega) ?_;apply vn aC
   exact aa rfl ⟨⟨i+1,O⟩,⟨aF.Sub.same,by
    show aF.Sub (.rows (zK r i++[zpC (r^i)])) (.rows (zK r (i+1)));rw[show zK r (i+1)=zK r i++[cM 0 (r^i)] by rw[zK,zK,ml,ep,dy,jD,hpw]];exact zU (cD5 (r^i)) _,trivial⟩,by show n-(i+1)<n-i;omega⟩
  have hpw:oc r i=(-(r^i),r^i):=by unfold oc;rw[aD O,aD O]
  apply aA (xL (r^i));apply bh (us:=[cM (-(r^i)) (r^i)]);refine su (ts:=zK r i) (us:=[cM (-(r^i)) (r^i)]) (vs:=zK r (i+1)) rfl rfl (by rw[zK,zK,ml,ep,dy,jD,hpw]) (by rw[aX,pT];omega) (by rw[aX,pT];simp only[maxLen];omega) ?_;dsimp only[aP,aQ];apply vn aC;dsimp only[aP,aQ];exact aa rfl ⟨⟨i+1,O⟩,aR.rfl,by show n-(i+1)<n-i;omega⟩
 obtain rfl:i=n:=O
 exact aN
def bt8(v6:Value)(q:j0)(m:Nat)(lead aB:Rat)(st:Nat)(r:Rat)(k:Int)(V:VS)(n B BS G W:Nat)(C:aQ9 q m lead aB st r n B BS G)(hm:m<=4)(hk:k<=256)(hVl:V.length=m)(hV:∀p∈V,Fit W p.1/\Fit W p.2)(hW1:1<=W)(hW:W<=805306368)(hr0:0<=r)(z:k5):vc prog (fun o=>o=.retr [.one (.int .i64 k),.one (.exact v6),.one (.aW (qC r)),.one (.slice 6 (vS V)),.one (.slice 1 ((List.range m).map fun l=>[.aW (jv q m lead aB st n l)])),.one (.int .i64 n),.one (.slice 6 (zK r n)),.one (.int .i64 0)] ([cM (oV q m lead aB st r k V n 0).1 (oV q m lead aB st r k V n 0).2++cM z.1 z.2])) (zO prog 146 (fun _=>none) (cJ [1,1,1,1,1,1,1,1,1,1,0,1,0,0,1,1,0] (dJ f170)) [(2,.v none),(6,.v none),(8,.ref 3),(9,.v none),(11,.v none),(12,.v none),(13,.v none),(81,.k (.int .i64 (0)))] 16 233 12 ([2,6,8,9,11,12,13,81].map ResultVar.tmp)) ([.v (.one (.int .i64 k)),.v (.one (.exact v6)),.ref (qC r),.v (.one (.slice 6 (vS V))),.v (.one (.slice 1 ((List.range m).map fun l=>[.aW (jv q m lead aB st n l)]))),.v (.one (.int .i64 n)),.v (.one (.slice 6 (zK r n))),.v (.one (.int .i64 0))].map In.env++[.rows ([cM 0 0++cM z.1 z.2])]) []:=by
 rw[QE];dsimp only[List.map,In.env,aP,aQ];obtain⟨hn15,hB,h64,hBS,hG,h0,hn1⟩:=(⟨C.n15,C.hB,C.h64,C.hBS,C.hG,C.h0,C.n1⟩:n<=1073741824/\B<=1073741824/\64<=B/\BS<=400000000/\G<=300000000/\aB≠0/\1<=n)
 have hdf:∀l,l<=m->Fit (m*(W+(BS+G+1)+1)+1) (dR (fun l=>V.getD l (0,0)) (dL q m lead aB st r n 0) l).1/\Fit (m*(W+(BS+G+1)+1)+1) (dR (fun l=>V.getD l (0,0)) (dL q m lead aB st r n 0) l).2:=fun l hl=>by
  obtain⟨h1,h2⟩:=tL (M:=fun l=>V.getD l (0,0)) (v:=dL q m lead aB st r n 0) (m:=m) (H:=W) (W:=BS+G+1) hW1 (fun l hl=>hV _ (cj (cY (v:=V)))) (fun l hl=>⟨(C.fs l hl 0 O (n-0) (ah _)).1.add (C.ft l hl 0 O).neg,(C.fs l hl 0 O (n-0) (ah _)).2.add (C.ft l hl 0 O)⟩) l hl;have hx:l*(W+(BS+G+1)+1)+1<=m*(W+(BS+G+1)+1)+1:=nZ (cg _ hl);exact⟨h1.mono hx,h2.mono hx⟩
 have hmx:m*(W+(BS+G+1)+1)+1<=4*(W+(BS+G+1)+1)+1:=nZ (cg _ hm);generalize hQ:m*(W+(BS+G+1)+1)+1=Q at *;apply vn (aZ Ok (aX _));rw[pT];refine bC {l:Nat // l<=m} (fun g=>[.one (.int .i64 g.1),.rows [cM (dR (fun l=>V.getD l (0,0)) (dL q m lead aB st r n 0) g.1).1 (dR (fun l=>V.getD l (0,0)) (dL q m lead aB st r n 0) g.1).2++cM z.1 z.2]]) (fun g=>m-g.1) ⟨0,cG _⟩ aR.rfl (fun _=>rfl) ?_;rintro⟨l,hl⟩;dsimp only[aP,aQ]at hl|-;refine uS az ?_ ?_<;>intro h3
 .have hlm:l<m:=O
  have hrl:(List.range m)[l]?=some l:=jd hlm;apply vn (aY Ok hrl (bV l));apply vn (bI aS7);dsimp only[aP,aQ];have hal:=bg q m lead (ab m l) n;have hfs:=C.fs l hlm 0 O;have hfc:=C.fc l hlm;obtain⟨nd,hnd⟩:∃nd,n-0=nd:=⟨_,rfl⟩
  refine bC {c:Nat // c<=nd} (fun g=>(.one (.int .i64 ((0+g.1:Nat):Int)):aF)::(cM (oX r (aU q m lead (ab m l) n) 0 g.1).1 (oX r (aU q m lead (ab m l) n) 0 g.1).2).map .one) (fun g=>nd-g.1) ⟨0,cG _⟩ ⟨aF.Sub.same,HU⟩ (fun _=>rfl) ?_;rintro⟨c,hc⟩;dsimp only[aP,aQ,List.map]at hc|-;refine uS az ?_ ?_<;>intro h8
  .have hci:c<n-0:=O
   obtain⟨i,hi⟩:∃i,0+c=i:=⟨_,rfl⟩
   have hia:i<(aU q m lead (ab m l) n).length:=O
   have hfx:=hfc _ (cj (cS hia));have hff:=C.ff i O 0 O;have hpf:=Vr (r:=r) (c:=c) (show 1<=B by omega) ((C.BT 0 O).fr c O);rw[hi];apply vn aL;dsimp only[aP,aQ];rw[show((i:Nat):Int)-0=(c:Int) by omega];refine vn (aY gV (jd O) (bV c)) rfl ?_;apply vn (ay kK dO bY (.inl rfl));apply vn PM;apply vn (jE Qo dO);apply vn (t:=.one (sQ (aU q m lead (ab m l) n))) (ay bO3 dO (by exact nZ (cG _)) (.inr rfl));apply vn (aY vv (cS hia) (bV i));apply vn (ay mq dO bY (.inl rfl));apply aA (lT (i:Int) 0 B h64 hff);dsimp only[aP,aQ];apply aA (cr _ _ BS B hfx (hff 0 (ah _)));apply aA (Tk (oc r c) ((aU q m lead (ab m l) n).getD i 0*((bB (i:Int) 0:Int):Rat)) B (BS+B) hpf.1 hpf.2 (hfx.mul (hff 0 (ah _))));dsimp only[aP,aQ];obtain⟨g1,g2⟩:=ab4 hpf.1 hpf.2 (hfx.mul (hff 0 (ah _))) (show 1<=B by omega);apply aA (wS _ _ _ _ BS (B+(BS+B)) (hfs c O).1 (hfs c O).2 g1 g2);apply vn aC
   exact aa rfl ⟨⟨c+1,O⟩,aR.of_eq (by
    dsimp only;rw[show((0+(c+1):Nat):Int)=(i:Int)+1 by omega,oX,hi];rfl),by show nd-(c+1)<nd-c;omega⟩
  have hcd:c=n-0:=O
  obtain⟨w1,w2⟩:=hV _ (cj (cY (v:=V) (l:=l)));obtain⟨d1,d2⟩:=hdf l hl;have hft:=C.ft l hlm 0 O;refine vld (ts:=[cM (dR (fun l=>V.getD l (0,0)) (dL q m lead aB st r n 0) l).1 (dR (fun l=>V.getD l (0,0)) (dL q m lead aB st r n 0) l).2++cM z.1 z.2]) (ik:=.i64) (n:=0) (t:=kP (dR (fun l=>V.getD l (0,0)) (dL q m lead aB st r n 0) l).1 (dR (fun l=>V.getD l (0,0)) (dL q m lead aB st r n 0) l).2) rfl rfl (uB _) (cells:=cM (dR (fun l=>V.getD l (0,0)) (dL q m lead aB st r n 0) l).1 (dR (fun l=>V.getD l (0,0)) (dL q m lead aB st r n 0) l).2++cM z.1 z.2) rfl (.inl rfl) rfl ?_;dsimp only[aP,aQ,SG,List.drop,List.take];apply vn (aY gV (cY (v:=V)) (bV l));apply vn (ay kK dO bY (.inl rfl));apply aA (EX (eQ q) (.int .i64 m) (dT lead.num.natAbs) (.bool (decide (lead.num<0))) (dT (lead.den-1)) aB st (ab m l) (aU q m lead (ab m l) n) (lX q m lead aB st l) n 0 r B (C.BT 0 O) h0 (C.fb l hlm) (C.sh 0 O));apply aA (xL (fM (lX q m lead aB st l) aB n 0 r));apply aA (wS (oX r (aU q m lead (ab m l) n) 0 c).1 (oX r (aU q m lead (ab m l) n) 0 c).2 (-(ED q m lead aB st r n 0 l)) (ED q m lead aB st r n 0 l) BS G (hfs c O).1 (hfs c O).2 hft.neg hft);rw[show(oX r (aU q m lead (ab m l) n) 0 c).1 + -(ED q m lead aB st r n 0 l)=(dL q m lead aB st r n 0 l).1 by rw[hcd];rfl,show(oX r (aU q m lead (ab m l) n) 0 c).2+ED q m lead aB st r n 0 l=(dL q m lead aB st r n 0 l).2 by rw[hcd];rfl];have u1:Fit (BS+G+1) (dL q m lead aB st r n 0 l).1:=(hfs _ (ah _)).1.add hft.neg;have u2:Fit (BS+G+1) (dL q m lead aB st r n 0 l).2:=(hfs _ (ah _)).2.add hft;apply aA (Cz (V.getD l (0,0)).1 (V.getD l (0,0)).2 (dL q m lead aB st r n 0 l).1 (dL q m lead aB st r n 0 l).2 W (BS+G+1) w1 w2 u1 u2 hW1);dsimp only[aP,aQ];obtain⟨p1,p2⟩:=Gl hW1 w1 w2 u1 u2;apply aA (wS _ _ _ _ Q (W+(BS+G+1)) d1 d2 p1 p2);refine BE (ts:=[cM (dR (fun l=>V.getD l (0,0)) (dL q m lead aB st r n 0) l).1 (dR (fun l=>V.getD l (0,0)) (dL q m lead aB st r n 0) l).2++cM z.1 z.2]) (us:=[cM (dR (fun l=>V.getD l (0,0)) (dL q m lead aB st r n 0) (l+1)).1 (dR (fun l=>V.getD l (0,0)) (dL q m lead aB st r n 0) (l+1)).2++cM z.1 z.2]) rfl rfl O (cells:=cM (dR (fun l=>V.getD l (0,0)) (dL q m lead aB st r n 0) l).1 (dR (fun l=>V.getD l (0,0)) (dL q m lead aB st r n 0) l).2++cM z.1 z.2) rfl rfl ?_;apply vn aC;dsimp only[aP,aQ];exact aa rfl ⟨⟨l+1,O⟩,aR.rfl,by show m-(l+1)<m-l;omega⟩
 obtain rfl:l=m:=O
 obtain⟨d1,d2⟩:=hdf l (ah _);refine vld (ts:=[cM (dR (fun l=>V.getD l (0,0)) (dL q l lead aB st r n 0) l).1 (dR (fun l=>V.getD l (0,0)) (dL q l lead aB st r n 0) l).2++cM z.1 z.2]) (ik:=.i64) (n:=0) (t:=kP (dR (fun l=>V.getD l (0,0)) (dL q l lead aB st r n 0) l).1 (dR (fun l=>V.getD l (0,0)) (dL q l lead aB st r n 0) l).2) rfl rfl (uB _) (cells:=cM (dR (fun l=>V.getD l (0,0)) (dL q l lead aB st r n 0) l).1 (dR (fun l=>V.getD l (0,0)) (dL q l lead aB st r n 0) l).2++cM z.1 z.2) rfl (.inl rfl) rfl ?_;dsimp only[aP,aQ,SG,List.drop,List.take];apply aA (PX _ _ k Q hk d1 d2);refine BE (ts:=[cM (dR (fun l=>V.getD l (0,0)) (dL q l lead aB st r n 0) l).1 (dR (fun l=>V.getD l (0,0)) (dL q l lead aB st r n 0) l).2++cM z.1 z.2]) (us:=[cM (oV q l lead aB st r k V n 0).1 (oV q l lead aB st r k V n 0).2++cM z.1 z.2]) rfl rfl O (cells:=cM (dR (fun l=>V.getD l (0,0)) (dL q l lead aB st r n 0) l).1 (dR (fun l=>V.getD l (0,0)) (dL q l lead aB st r n 0) l).2++cM z.1 z.2) rfl rfl ?_;dsimp only[aP,aQ];exact yC rfl rfl
def bp0(v6:Value)(q:j0)(m:Nat)(lead aB:Rat)(st:Nat)(r:Rat)(k:Int)(V:VS)(n B BS G W:Nat)(C:aQ9 q m lead aB st r n B BS G)(hm:m<=4)(hk:k<=256)(hVl:V.length=m)(hV:∀p∈V,Fit W p.1/\Fit W p.2)(hW1:1<=W)(hW:W<=805306368)(hr0:0<=r)(z:k5):vc prog (fun o=>o=.retr [.one (.int .i64 k),.one (.exact v6),.one (.aW (qC r)),.one (.slice 6 (vS V)),.one (.slice 1 ((List.range m).map fun l=>[.aW (jv q m lead aB st n l)])),.one (.int .i64 n),.one (.slice 6 (zK r n)),.one (.int .i64 1)] ([cM z.1 z.2++cM (oV q m lead aB st r k V n 1).1 (oV q m lead aB st r k V n 1).2])) (zO prog 146 (fun _=>none) (cJ [1,1,1,1,1,1,1,1,1,1,0,1,0,0,1,1,0] (dJ f170)) [(2,.v none),(6,.v none),(8,.ref 3),(9,.v none),(11,.v none),(12,.v none),(13,.v none),(81,.k (.int .i64 (1)))] 16 233 12 ([2,6,8,9,11,12,13,81].map ResultVar.tmp)) ([.v (.one (.int .i64 k)),.v (.one (.exact v6)),.ref (qC r),.v (.one (.slice 6 (vS V))),.v (.one (.slice 1 ((List.range m).map fun l=>[.aW (jv q m lead aB st n l)]))),.v (.one (.int .i64 n)),.v (.one (.slice 6 (zK r n))),.v (.one (.int .i64 1))].map In.env++[.rows ([cM z.1 z.2++cM 0 0])]) []:=by
 rw[PW];dsimp only[List.map,In.env,aP,aQ];obtain⟨hn15,hB,h64,hBS,hG,h0,hn1⟩:=(⟨C.n15,C.hB,C.h64,C.hBS,C.hG,C.h0,C.n1⟩:n<=1073741824/\B<=1073741824/\64<=B/\BS<=400000000/\G<=300000000/\aB≠0/\1<=n)
 have hdf:∀l,l<=m->Fit (m*(W+(BS+G+1)+1)+1) (dR (fun l=>V.getD l (0,0)) (dL q m lead aB st r n 1) l).1/\Fit (m*(W+(BS+G+1)+1)+1) (dR (fun l=>V.getD l (0,0)) (dL q m lead aB st r n 1) l).2:=fun l hl=>by
  obtain⟨h1,h2⟩:=tL (M:=fun l=>V.getD l (0,0)) (v:=dL q m lead aB st r n 1) (m:=m) (H:=W) (W:=BS+G+1) hW1 (fun l hl=>hV _ (cj (cY (v:=V)))) (fun l hl=>⟨(C.fs l hl 1 O (n-1) (ah _)).1.add (C.ft l hl 1 O).neg,(C.fs l hl 1 O (n-1) (ah _)).2.add (C.ft l hl 1 O)⟩) l hl;have hx:l*(W+(BS+G+1)+1)+1<=m*(W+(BS+G+1)+1)+1:=nZ (cg _ hl);exact⟨h1.mono hx,h2.mono hx⟩
 have hmx:m*(W+(BS+G+1)+1)+1<=4*(W+(BS+G+1)+1)+1:=nZ (cg _ hm);generalize hQ:m*(W+(BS+G+1)+1)+1=Q at *;apply vn (aZ Ok (aX _));rw[pT];refine bC {l:Nat // l<=m} (fun g=>[.one (.int .i64 g.1),.rows [cM z.1 z.2++cM (dR (fun l=>V.getD l (0,0)) (dL q m lead aB st r n 1) g.1).1 (dR (fun l=>V.getD l (0,0)) (dL q m lead aB st r n 1) g.1).2]]) (fun g=>m-g.1) ⟨0,cG _⟩ aR.rfl (fun _=>rfl) ?_;rintro⟨l,hl⟩;dsimp only[aP,aQ]at hl|-;refine uS az ?_ ?_<;>intro h3
 .have hlm:l<m:=O
  have hrl:(List.range m)[l]?=some l:=jd hlm;apply vn (aY Ok hrl (bV l));apply vn (bI aS7);dsimp only[aP,aQ];have hal:=bg q m lead (ab m l) n;have hfs:=C.fs l hlm 1 O;have hfc:=C.fc l hlm;obtain⟨nd,hnd⟩:∃nd,n-1=nd:=⟨_,rfl⟩
  refine bC {c:Nat // c<=nd} (fun g=>(.one (.int .i64 ((1+g.1:Nat):Int)):aF)::(cM (oX r (aU q m lead (ab m l) n) 1 g.1).1 (oX r (aU q m lead (ab m l) n) 1 g.1).2).map .one) (fun g=>nd-g.1) ⟨0,cG _⟩ ⟨aF.Sub.same,HU⟩ (fun _=>rfl) ?_;rintro⟨c,hc⟩;dsimp only[aP,aQ,List.map]at hc|-;refine uS az ?_ ?_<;>intro h8
  .have hci:c<n-1:=O
   obtain⟨i,hi⟩:∃i,1+c=i:=⟨_,rfl⟩
   have hia:i<(aU q m lead (ab m l) n).length:=O
   have hfx:=hfc _ (cj (cS hia));have hff:=C.ff i O 1 O;have hpf:=Vr (r:=r) (c:=c) (show 1<=B by omega) ((C.BT 0 O).fr c O);rw[hi];apply vn aL;dsimp only[aP,aQ];rw[show((i:Nat):Int)-1=(c:Int) by omega];refine vn (aY gV (jd O) (bV c)) rfl ?_;apply vn (ay kK dO bY (.inl rfl));apply vn PM;apply vn (jE Qo dO);apply vn (t:=.one (sQ (aU q m lead (ab m l) n))) (ay bO3 dO (by exact nZ (cG _)) (.inr rfl));apply vn (aY vv (cS hia) (bV i));apply vn (ay mq dO bY (.inl rfl));apply aA (lT (i:Int) 1 B h64 hff);dsimp only[aP,aQ];apply aA (cr _ _ BS B hfx (hff 1 (ah _)));apply aA (Tk (oc r c) ((aU q m lead (ab m l) n).getD i 0*((bB (i:Int) 1:Int):Rat)) B (BS+B) hpf.1 hpf.2 (hfx.mul (hff 1 (ah _))));dsimp only[aP,aQ];obtain⟨g1,g2⟩:=ab4 hpf.1 hpf.2 (hfx.mul (hff 1 (ah _))) (show 1<=B by omega);apply aA (wS _ _ _ _ BS (B+(BS+B)) (hfs c O).1 (hfs c O).2 g1 g2);apply vn aC
   exact aa rfl ⟨⟨c+1,O⟩,aR.of_eq (by
    dsimp only;rw[show((1+(c+1):Nat):Int)=(i:Int)+1 by omega,oX,hi];rfl),by show nd-(c+1)<nd-c;omega⟩
  have hcd:c=n-1:=O
  obtain⟨w1,w2⟩:=hV _ (cj (cY (v:=V) (l:=l)));obtain⟨d1,d2⟩:=hdf l hl;have hft:=C.ft l hlm 1 O;refine vld (ts:=[cM z.1 z.2++cM (dR (fun l=>V.getD l (0,0)) (dL q m lead aB st r n 1) l).1 (dR (fun l=>V.getD l (0,0)) (dL q m lead aB st r n 1) l).2]) (ik:=.i64) (n:=0) (t:=kP (dR (fun l=>V.getD l (0,0)) (dL q m lead aB st r n 1) l).1 (dR (fun l=>V.getD l (0,0)) (dL q m lead aB st r n 1) l).2) rfl rfl (uB _) (cells:=cM z.1 z.2++cM (dR (fun l=>V.getD l (0,0)) (dL q m lead aB st r n 1) l).1 (dR (fun l=>V.getD l (0,0)) (dL q m lead aB st r n 1) l).2) rfl (.inl rfl) rfl ?_;dsimp only[aP,aQ,SG,List.drop,List.take];apply vn (aY gV (cY (v:=V)) (bV l));apply vn (ay kK dO bY (.inl rfl));apply aA (EX (eQ q) (.int .i64 m) (dT lead.num.natAbs) (.bool (decide (lead.num<0))) (dT (lead.den-1)) aB st (ab m l) (aU q m lead (ab m l) n) (lX q m lead aB st l) n 1 r B (C.BT 1 O) h0 (C.fb l hlm) (C.sh 1 O));apply aA (xL (fM (lX q m lead aB st l) aB n 1 r));apply aA (wS (oX r (aU q m lead (ab m l) n) 1 c).1 (oX r (aU q m lead (ab m l) n) 1 c).2 (-(ED q m lead aB st r n 1 l)) (ED q m lead aB st r n 1 l) BS G (hfs c O).1 (hfs c O).2 hft.neg hft);rw[show(oX r (aU q m lead (ab m l) n) 1 c).1 + -(ED q m lead aB st r n 1 l)=(dL q m lead aB st r n 1 l).1 by rw[hcd];rfl,show(oX r (aU q m lead (ab m l) n) 1 c).2+ED q m lead aB st r n 1 l=(dL q m lead aB st r n 1 l).2 by rw[hcd];rfl];have u1:Fit (BS+G+1) (dL q m lead aB st r n 1 l).1:=(hfs _ (ah _)).1.add hft.neg;have u2:Fit (BS+G+1) (dL q m lead aB st r n 1 l).2:=(hfs _ (ah _)).2.add hft;apply aA (Cz (V.getD l (0,0)).1 (V.getD l (0,0)).2 (dL q m lead aB st r n 1 l).1 (dL q m lead aB st r n 1 l).2 W (BS+G+1) w1 w2 u1 u2 hW1);dsimp only[aP,aQ];obtain⟨p1,p2⟩:=Gl hW1 w1 w2 u1 u2;apply aA (wS _ _ _ _ Q (W+(BS+G+1)) d1 d2 p1 p2);refine BE (ts:=[cM z.1 z.2++cM (dR (fun l=>V.getD l (0,0)) (dL q m lead aB st r n 1) l).1 (dR (fun l=>V.getD l (0,0)) (dL q m lead aB st r n 1) l).2]) (us:=[cM z.1 z.2++cM (dR (fun l=>V.getD l (0,0)) (dL q m lead aB st r n 1) (l+1)).1 (dR (fun l=>V.getD l (0,0)) (dL q m lead aB st r n 1) (l+1)).2]) rfl rfl O (cells:=cM z.1 z.2++cM (dR (fun l=>V.getD l (0,0)) (dL q m lead aB st r n 1) l).1 (dR (fun l=>V.getD l (0,0)) (dL q m lead aB st r n 1) l).2) rfl rfl ?_;apply vn aC;dsimp only[aP,aQ];exact aa rfl ⟨⟨l+1,O⟩,aR.rfl,by show m-(l+1)<m-l;omega⟩
 obtain rfl:l=m:=O
 obtain⟨d1,d2⟩:=hdf l (ah _);refine vld (ts:=[cM z.1 z.2++cM (dR (fun l=>V.getD l (0,0)) (dL q l lead aB st r n 1) l).1 (dR (fun l=>V.getD l (0,0)) (dL q l lead aB st r n 1) l).2]) (ik:=.i64) (n:=0) (t:=kP (dR (fun l=>V.getD l (0,0)) (dL q l lead aB st r n 1) l).1 (dR (fun l=>V.getD l (0,0)) (dL q l lead aB st r n 1) l).2) rfl rfl (uB _) (cells:=cM z.1 z.2++cM (dR (fun l=>V.getD l (0,0)) (dL q l lead aB st r n 1) l).1 (dR (fun l=>V.getD l (0,0)) (dL q l lead aB st r n 1) l).2) rfl (.inl rfl) rfl ?_;dsimp only[aP,aQ,SG,List.drop,List.take];apply aA (PX _ _ k Q hk d1 d2);refine BE (ts:=[cM z.1 z.2++cM (dR (fun l=>V.getD l (0,0)) (dL q l lead aB st r n 1) l).1 (dR (fun l=>V.getD l (0,0)) (dL q l lead aB st r n 1) l).2]) (us:=[cM z.1 z.2++cM (oV q l lead aB st r k V n 1).1 (oV q l lead aB st r k V n 1).2]) rfl rfl O (cells:=cM z.1 z.2++cM (dR (fun l=>V.getD l (0,0)) (dL q l lead aB st r n 1) l).1 (dR (fun l=>V.getD l (0,0)) (dL q l lead aB st r n 1) l).2) rfl rfl ?_;dsimp only[aP,aQ];exact yC rfl rfl
def bj6(p:k5)(u:Rat):((xn p u).1=p.1*u\/(xn p u).1=p.2*u)/\((xn p u).2=p.1*u\/(xn p u).2=p.2*u):=by
 constructor
 .show mD [p.1*u,p.2*u] 2=_\/mD [p.1*u,p.2*u] 2=_;rw[KB];split
  .exact .inr rfl
  .exact .inl rfl
 .show lA [p.1*u,p.2*u] 2=_\/lA [p.1*u,p.2*u] 2=_;rw[AV];split
  .exact .inr rfl
  .exact .inl rfl
def bp4(r:Rat)(c:Nat):(∃e:Rat,(e=0\/e=1\/e=-1)/\(oc r c).1=e*r^c)/\∃e:Rat,(e=0\/e=1\/e=-1)/\(oc r c).2=e*r^c:=by
 unfold oc;split
 .exact⟨⟨1,.inr (.inl rfl),by dsimp only;grind⟩,⟨1,.inr (.inl rfl),by dsimp only;grind⟩⟩
 .split
  .exact⟨⟨0,.inl rfl,by dsimp only;grind⟩,⟨1,.inr (.inl rfl),by dsimp only;grind⟩⟩
  .exact⟨⟨-1,.inr (.inr rfl),by dsimp only;grind⟩,⟨1,.inr (.inl rfl),by dsimp only;grind⟩⟩
def ZE(r u:Rat)(c:Nat):(∃e:Rat,(e=0\/e=1\/e=-1)/\(xn (oc r c) u).1=e*(r^c*u))/\∃e:Rat,(e=0\/e=1\/e=-1)/\(xn (oc r c) u).2=e*(r^c*u):=by
 obtain⟨⟨e1,h1,p1⟩,⟨e2,h2,p2⟩⟩:=bp4 r c;obtain⟨m1,m2⟩:=bj6 (oc r c) u
 constructor
 .rcases m1 with m | m
  .exact⟨e1,h1,by rw[m,p1];grind⟩
  .exact⟨e2,h2,by rw[m,p2];grind⟩
 .rcases m2 with m | m
  .exact⟨e1,h1,by rw[m,p1];grind⟩
  .exact⟨e2,h2,by rw[m,p2];grind⟩
def bo0{D S:Nat}{x e:Rat}(h:Bd D S x)(he:e=0\/e=1\/e=-1):Bd D S (e*x):=by
 rcases he with rfl | rfl | rfl
 .rw[pO];exact Bd.zero
 .rw[kZ];exact h
 .rw[show -1*x=-x by grind];exact h.neg
def Tg{r:Rat}{a:j1}{d D S:Nat}(ha:∀x∈a,Bd D S x)(g:j4)(hg:∀j,∃e:Rat,(e=0\/e=1\/e=-1)/\g j=e*(r^j*(a.getD (d+j) 0*((bB ((d+j:Nat):Int) d:Int):Rat)))) :
  ∃a':List Rat,(∀x∈a',Bd D S x)/\∀c,d+c<=a.length->sm g c=jl r a' d (d+c) c:=by
 obtain⟨f,hf⟩:=Classical.axiomOfChoice hg;refine⟨(List.range a.length).map fun i=>f (i-d)*a.getD i 0,fun x hx=>?_,fun c hc=>?_⟩
 .obtain⟨i,hi,rfl⟩:=jf.1 hx;have hil:=gO.1 hi
  have hm:a.getD i 0∈a:=by
   rw[dp,bU hil];exact List.getElem_mem hil
  exact bo0 (ha _ hm) (hf _).1
 .rw[Sf _ _ _ _ _ O];refine bK fun j hj=>?_;rw[show d+c-c+j=d+j by omega,(hf j).2]
  have e:co ((List.range a.length).map fun i=>f (i-d)*a.getD i 0) (d+j)=f j*a.getD (d+j) 0:=by
   unfold co;rw[dp,dS,jd O,eS,ib,show d+j-d=j by omega]
  rw[e];unfold fr;grind
theorem ab2(r:Rat)(a:j1)(d:Nat):∀c,(oX r a d c).1=sm (fun j=>(xn (oc r j) (a.getD (d+j) 0*((bB ((d+j:Nat):Int) d:Int):Rat))).1) c/\(oX r a d c).2=sm (fun j=>(xn (oc r j) (a.getD (d+j) 0*((bB ((d+j:Nat):Int) d:Int):Rat))).2) c
 | 0=>⟨rfl,rfl⟩
 | c+1=>by
   obtain⟨h1,h2⟩:=ab2 r a d c;exact⟨by rw[oX,sm,h1],by rw[oX,sm,h2]⟩
def Hu{i d:Nat}(hd:d<=1:=by omega)(hi:i<1500:=by omega):(bB (i:Int) d).natAbs<=1500:=by
 rcases(show d=0\/d=1 by omega)with rfl | rfl
 .simp[bB]
 .simp only[bB];omega
section
variable{E:j0}{ER:List (List RQ)}{X:Rat}{XR:RQ}
def SmallX.aN5(h:SmallX E ER X XR)(hr:jO E X){aB t:Rat}{st:Nat}{k:Int}(S:oQ E X aB st t k){d:Nat}(hd:d<=1) :
  Dd (aV E X) (E.length-1) (aG E X) aB st t.abs (nG k) d 200000000 211000000:=by
 obtain⟨h2,h5,hld,_⟩:=hr.facts;obtain⟨hh,hh62,rfl,hst,hW⟩:=ef S.hv;have hpos:=jZ hh;have hab:=sU t;have hsmall:∀n,st<=n->n<=max 1500 st->∀i,i<=d->oj 2097152 (ae hh) n i t.abs:=fun n h1 h2 i hi=>fI S.tb.abs hh62 O O (ah _);have hsh:∀n,st<=n->n<=max 1500 st->∀i,i<=d->cP (ae hh) n i t.abs<1:=fun n h1 h2 i hi=>ze hpos hab S.t2
 have hfb:∀l,l<E.length-1->Fit 200000000 (lX (aV E X) (E.length-1) (aG E X) (ae hh) st l):=fun l hl=>by
  have hs:=h.FO hr l;have hrho:∀j,j<=2*st+1->Fit (UP) (ae hh^j):=(fI S.tb.abs hh62 (n:=st) (d:=0) O O dO).fo;exact(RT (fun x hx=>KH hs O hx) dO (fun j hj=>hrho j O) (st:=st) O _ (ah _)).mono dO
 refine⟨fun n h1 h2 i hi=>fI S.tb.abs hh62,hsh,hfb,fun l hl n h1 h2 i hi=>?_,?_,O,O,vg hh,O,O,O⟩
 .exact(Pj (hsmall n h1 h2 i hi) (hfb l hl)).mono O
 .exact((gu (by have:=S.k256;omega)).mul (gu O)).mono O
def SmallX.aS9(h:SmallX E ER X XR)(hr:jO E X){aB t:Rat}{st:Nat}{k:Int}(S:oQ E X aB st t k) :
  Dd (aV E X) (E.length-1) (aG E X) aB st t.abs (nG k) 1 200000000 211000000:=h.aN5 hr S (ah 1)
def SmallX.ab8(h:SmallX E ER X XR)(hr:jO E X){aB t:Rat}{st:Nat}{k:Int}(S:oQ E X aB st t k){d:Nat}(hd:d<=1) :
  yM (QC (aV E X) (E.length-1) (aG E X) aB st t.abs (nG k) d) (E.length-1) st (ew E X aB st t d k):=by
 have T:=h.aN5 hr S hd;obtain⟨h2,h5,hld,_⟩:=hr.facts;obtain⟨hh,hh62,rfl,hst,hW⟩:=ef S.hv;refine Pv fun l hl n h1 h2 hen=>?_;unfold QC nh at hen|-;rw[gM]at hen|-;intro i hi;have hid:=gO.1 hi;have h3:=gi (hen i hi);exact gJ (bH (uW (Ql _ _ _ _) (jZ hh) (sU t) (T.sh n h1 O i O)).1 h3)
def SmallX.bz8(h:SmallX E ER X XR)(hr:jO E X){r:Rat}(ht:vJ r){l n d:Nat}(hn:n<=1500)(hd:d<=1)(g:j4)(hg:∀j,∃e:Rat,(e=0\/e=1\/e=-1)/\g j=e*(r^j*((aU (aV E X) (E.length-1) (aG E X) (ab (E.length-1) l) n).getD (d+j) 0*((bB ((d+j:Nat):Int) d:Int):Rat)))){c:Nat}(hc:d+c<=n) :
  Fit 40000000 (sm g c):=by
 rcases iI c with h0 | h0
 .subst h0;exact Fit.zero O
 obtain⟨b,hb⟩:∃b:Nat,11300000<=b:=⟨_,ah _⟩
 have hy:11+(10+7500*n+45+12*1500)<=b:=by
  have hx:7500*n<=11250000:=cd 7500 hn;have hz:12*1500<=18000:=dO
  generalize 12*1500=z at hz|-;generalize 7500*n=x at hx|-;omega
 obtain⟨h2,h5,hld,_⟩:=hr.facts;obtain⟨g0,g1⟩:=Zh h.xb (N:=1500) dO;obtain⟨gq,gr⟩:=g1 (E.length-1) O;obtain⟨Xd,hX0,hXQ,hbd⟩:=Ab (h.ag0 hr l) (N:=1500) O n hn;have hXp:Xd<=2^(14000*n):=an hXQ (by rw[kX];exact gN gq n)
 have hSp:999*fJ (E.length-1) 1500 (dX X) sM 101^n<=2^(10+7500*n):=by
  rw[eH,kX];exact dE (show 999<=2^10 by decide) (gN gr n)
 obtain⟨a',ha',he⟩:=Tg (d:=d) hbd g hg;rw[he c (by rw[bg];exact hc)];have hfz:∀i:Nat,i<d+c->(bB (i:Int) d).natAbs<=1500:=fun i hi=>Hu hd;exact(Pt (y:=b) hy (N:=1500) (c:=c) (B:=40000000) (p:=14000*n) (b:=10+7500*n) (e:=200) (f:=12) (g:=45) hX0 (lY r) ha' ht.bd O hfz O O dO hXp hSp ht.d dO dO).1
def SmallX.av3(h:SmallX E ER X XR)(hr:jO E X){l n:Nat}(hn:n<=1500):∀x∈aU (aV E X) (E.length-1) (aG E X) (ab (E.length-1) l) n,Fit 40000000 x:=by
 obtain⟨h2,h5,hld,_⟩:=hr.facts;obtain⟨g0,g1⟩:=Zh h.xb (N:=1500) dO;obtain⟨gq,gr⟩:=g1 (E.length-1) O;obtain⟨Xd,hX0,hXQ,hbd⟩:=Ab (h.ag0 hr l) (N:=1500) O n hn;have hXp:Xd<=2^(14000*n):=an hXQ (by rw[kX];exact gN gq n)
 have hSp:999*fJ (E.length-1) 1500 (dX X) sM 101^n<=2^(10+7500*n):=by
  rw[eH,kX];exact dE (show 999<=2^10 by decide) (gN gr n)
 intro x hx
 have key:∀B:Nat,33000000<=B->Fit B x:=fun B hB=>by
  refine(hbd x hx).fit hX0 (Ry hXp) (Ry (y:=(10+7500*n)+14000*n) ?_);rw[eH];exact dE hSp hXp
 exact key _ O
def SmallX.cz4(h:SmallX E ER X XR)(hr:jO E X){aB r:Rat}{st:Nat}{k:Int}(S:oQ E X aB st r k)(hr0:0<=r){N:Nat}(h1:st<=N)(h2:N<=1500) :
  aQ9 (aV E X) (E.length-1) (aG E X) aB st r N 200000000 40000000 211000000:=by
 have T:=h.aS9 hr S;have S':=S;have ha:r.abs=r:=by unfold Rat.abs;rw[aI hr0]
 rw[ha]at T;obtain⟨hl2,h5,hld,_⟩:=hr.facts;obtain⟨hh,hh62,rfl,hst,hW⟩:=ef S.hv
 refine⟨fun d hd=>T.BT N h1 O d hd,fun d hd=>(T.sh N h1 O d hd),T.fb,fun l hl d hd=>T.ft l hl N h1 O d hd,fun l hl x hx=>h.av3 hr O x hx,fun l hl d hd c hc=>?_,
  fun i hi d hd j hj=>(iU (by have:=Hu (i:=i) (d:=j);omega) (by have:=Hu (i:=i) (d:=j);omega)).mono O,vg hh,O,O,O,O,O,O⟩
 obtain⟨e1,e2⟩:=ab2 r (aU (aV E X) (E.length-1) (aG E X) (ab (E.length-1) l) N) d c;rw[e1,e2];exact⟨h.bz8 hr S'.tb h2 hd _ (fun j=>(ZE r _ j).1) O,h.bz8 hr S'.tb h2 hd _ (fun j=>(ZE r _ j).2) O⟩
end
open Go Go.Proofs Ord
def aY8{r t:Rat}(ht:Bo r t)(c:Nat):qy (oc r c) (t^c):=by
 have hp:=ht.pow c;unfold oc;split
 .rename_i h;subst h;rw[bQ,bQ];exact⟨ak,ak⟩
 .split
  .rename_i h0 h;refine⟨?_,hp.2⟩;obtain⟨k,rfl⟩:∃k,c=k+k:=⟨c/2,O⟩
   show 0<=t^(k+k);rw[gy];exact TZ _
  .exact hp
def qy.sp{p:k5}{z:Rat}(h:qy p z):Sp p z:=h
def Sp.cF0{p:k5}{z:Rat}(h:Sp p z):qy p z:=h
theorem ah0{r t:Rat}(ht:Bo r t)(a:j1)(d:Nat):∀c,qy (oX r a d c) (sm (fun j=>co a (d+j)*fr (d+j) d*t^j) c)
 | 0=>⟨ak,ak⟩
 | c+1=>by
   have h:=qy.add (ah0 ht a d c) (Sp.cF0 (Sp.scale (a.getD (d+c) 0*((bB ((d+c:Nat):Int) d:Int):Rat)) (aY8 ht c).sp));rw[sm];have e:co a (d+c)*fr (d+c) d*t^c=t^c*(a.getD (d+c) 0*((bB ((d+c:Nat):Int) d:Int):Rat)):=by unfold co fr;grind
   rw[e];exact h
def aW6{b aB t r:Rat}{n d:Nat}{a:j4}(hb:0<=b)(h0:0<aB)(hd:d<=n)(htr:Bo r t)(h1:cP aB n d r<1)(ha:∀i,n<=i->Bo b (a i*aB^i)) :
  ∀N,n<=N->Bo (fM b aB n d r-fM b aB N d r) (iZ (dq d a) (N-d) t-iZ (dq d a) (n-d) t)/\cP aB N d r<1:=by
 have hr:=htr.nn;intro N hN
 induction N with
 | zero=>
   obtain rfl:n=0:=O
   refine⟨?_,h1⟩;rw[show ∀x:Rat,x-x=0 from fun x=>e9,show ∀x:Rat,x-x=0 from fun x=>by grind];exact Bo.zero ak
 | succ N ih=>
   rcases bG N n with h | h
   .obtain rfl:n=N+1:=O
    refine⟨?_,h1⟩;rw[show ∀x:Rat,x-x=0 from fun x=>e9,show ∀x:Rat,x-x=0 from fun x=>by grind];exact Bo.zero ak
   .obtain⟨ih1,ih2⟩:=ih h;have hd':d<=N:=O
    refine⟨?_,(uW hb h0 hr ih2 hd').2⟩;have hs:=Ps hb h0 hr hd' ih2;have hp:=dk (n:=N) h0
    have hterm:Bo (b*LU aB N d r) (dq d a (N-d)*t^(N-d)):=by
     have h2:=((ha N h).mul (Bo.self (xu N d))).mul (htr.pow (N-d));refine Bo.cancel (c:=aB^N) hp ?_
     have e1:aB^N*(b*LU aB N d r)=b*fr N d*r^(N-d):=by
      unfold LU;have:((bB N d:Int):Rat)*r^(N-d)/aB^N*aB^N=((bB N d:Int):Rat)*r^(N-d):=di e9;rw[show aB^N*(b*(((bB N d:Int):Rat)*r^(N-d)/aB^N))=b*(((bB N d:Int):Rat)*r^(N-d)/aB^N*aB^N) by grind,this];unfold fr;grind
     have e2:aB^N*(dq d a (N-d)*t^(N-d))=a N*aB^N*fr N d*t^(N-d):=by
      unfold dq fr;rw[show N-d+d=N by omega];grind
     rw[e1,e2];exact h2
    have e3:iZ (dq d a) (N+1-d) t=iZ (dq d a) (N-d) t+dq d a (N-d)*t^(N-d):=by
     rw[show N+1-d=N-d+1 by omega];rfl
    rw[e3];have h4:=ih1.add hterm;rw[show iZ (dq d a) (N-d) t-iZ (dq d a) (n-d) t+dq d a (N-d)*t^(N-d)=iZ (dq d a) (N-d) t+dq d a (N-d)*t^(N-d)-iZ (dq d a) (n-d) t by grind]at h4;exact h4.mono e9
section
variable{E:j0}{c aB r:Rat}{st n:Nat}{k:Int}
def SQ{d:Nat}{t:Rat}(h:ew E c aB st t d k=some n):st<=n:=by
 unfold ew BW at h;have h1:=(lS (yA (QC (aV E c) (E.length-1) (aG E c) aB st t.abs (nG k) d) (E.length-1)) (1501-st) st).1;split at h
 .simp only[aM]at h;omega
 .cases h
def bb0(w:Oy E c aB st)(h2:r+r<=aB)(hst:st<=n){t:Rat}(ht:Bo r t){d l N:Nat}(hd:d<2)(hN:n<=N) :
  qy (dL (aV E c) (E.length-1) (aG E c) aB st r n d l) (iZ (dq d (aS (aV E c) (E.length-1) (aG E c) (ab (E.length-1) l))) (N-d) t):=by
 have R:=w.yJ;have hs:=R.hs;obtain⟨hE2,_⟩:=w.reg.facts;obtain⟨hb0,hb⟩:=w.bound l;have hr0:=ht.nn;have hsh:=ze (n:=n) (d:=d) R.r0 hr0 h2;obtain⟨hp,hsN⟩:=aW6 hb0 R.r0 (show d<=n by omega) ht hsh (fun i hi=>hb i O) N hN;have htn:=ZK (d:=d) hb0 R.r0 hr0 (show d<=N by omega) hsN;have hS:=ah0 ht (aU (aV E c) (E.length-1) (aG E c) (ab (E.length-1) l) n) d (n-d)
 have e:sm (fun j=>co (aU (aV E c) (E.length-1) (aG E c) (ab (E.length-1) l) n) (d+j)*fr (d+j) d*t^j) (n-d)=iZ (dq d (aS (aV E c) (E.length-1) (aG E c) (ab (E.length-1) l))) (n-d) t:=bK fun j hj=>by
  rw[tQ _ _ _ _];unfold dq fr;rw[iB d j]
 rw[e]at hS;unfold dL;have hO:ED (aV E c) (E.length-1) (aG E c) aB st r n d l=fM (lX (aV E c) (E.length-1) (aG E c) aB st l) aB n d r:=rfl;rw[hO];obtain⟨p1,p2⟩:=hp;obtain⟨q1,q2⟩:=hS;generalize iZ (dq d (aS (aV E c) (E.length-1) (aG E c) (ab (E.length-1) l))) (N-d) t=z at *;generalize iZ (dq d (aS (aV E c) (E.length-1) (aG E c) (ab (E.length-1) l))) (n-d) t=y at *;generalize fM (lX (aV E c) (E.length-1) (aG E c) aB st l) aB n d r=T at *;generalize fM (lX (aV E c) (E.length-1) (aG E c) aB st l) aB N d r=T' at *
 constructor<;>dsimp only <;> grind
def aD0(w:Oy E c aB st)(h2:r+r<=aB)(hst:st<=n){a x:Rat}{Y:j4}{V:VS}(ht:Bo r (x-c))(g:Ao E (E.length-1) a Y c (fun i=>V.getD i (0,0))) :
  ad1 E (E.length-1) 2 a Y c x (fun d=>oV (aV E c) (E.length-1) (aG E c) aB st r k V n d):=by
 have h:=af8 (V':=fun d=>oV (aV E c) (E.length-1) (aG E c) aB st r k V n d) (j:=2) (n:=n) (t:=x-c) w g (ht.mono (by have:=ht.nn;grind)) (fun z N hN hz d hd=>by
  have h1:=SD (m:=E.length-1) (M:=fun l=>V.getD l (0,0)) (v:=dL (aV E c) (E.length-1) (aG E c) aB st r n d) (f:=z) (g:=fun l=>iZ (dq d (aS (aV E c) (E.length-1) (aG E c) (ab (E.length-1) l))) (N-d) (x-c))
   (fun l hl=>hz l hl) (fun l hl=>bb0 w h2 hst ht hd hN) (E.length-1) (ah _)
  unfold oV;rw[QK];exact⟨bH (xB _ _) h1.1,bH h1.2 (HJ _ _)⟩)
 rwa[show c+(x-c)=x by grind]at h
end
end Go.Sy
