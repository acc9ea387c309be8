/- Part. -/
import Derived.Test.YtdmcadckdnnglaaGreatDoorLb
set_option linter.all false
set_option maxHeartbeats 4000000
namespace Go.Sy
open Go Go.Proofs Tryz Ord
def aT8:Tr:=iQ 64 0 0 0 1 0 2 0 3 0 4 0 5 4 6 (lX 202 1 3 3 39 (iQ 36 1 0 1 1 1 2 2 0 2 1 2 2 7 8 (fW 3 3 1 3 2)))
def VI:aM prog f237 bZ [.v (some 6)]=aT8:=by kernel_rfl
def Fp:Tr:=.ret [(W 0 0),(W 3 0),(.one (.ref 0 [(.u 7 0),(.u 7 1),(.u 7 2)])),(W 8 0),(.one (.ref 0 [(.u 10 0),(.u 10 1),(.u 10 2),(.u 10 3),(.u 10 4),(.u 10 5),(.u 10 6),(.u 10 7),(.u 10 8)]))]
def DI:Tr:=.need (.call 130 [(W 13 0),(WK (14))] []) (.call ⟨.value (.func 130),#[(.tmp 43),(.const (I3 (14)))],#[4,55]⟩) 0 true Fp
def GP:Tr:=.need (.prim [(W 12 0),(WK (0))] none) (.binOp .leq 3 (.tmp 42) (.const (I3 (0))) 3) 4 false DI
def Hq:Tr:=.need (.call 38 [(.agg [(U 11 0),(U 11 1),(U 11 2)]),(.agg [(U 10 5),(U 10 6),(U 10 7)])] [none]) (.call ⟨.value (.func 38),#[(.tmp 39),(.tmp 41)],#[39,39]⟩) 3 true GP
def Ht:Tr:=.need (.call 64 [(.agg [(U 7 0),(U 7 1),(U 7 2)]),(.agg [(U 7 0),(U 7 1),(U 7 2)])] [(some 3)]) (.call ⟨.value (.func 64),#[(.tmp 37),(.tmp 38)],#[39,39]⟩) 39 false Hq
def Hz:Tr:=.need (.call 123 [(.agg [(U 9 0),(U 9 1),(U 9 2),(U 9 3),(U 9 4)])] [(some 9)]) (.call ⟨.value (.func 123),#[(.tmp 35)],#[171]⟩) 185 true Ht
def Gk:Tr:=.need (.call 100 [(W 1 0),(.agg [(U 4 0),(U 4 1),(U 4 2)])] [(some 5)]) (.call ⟨.value (.func 100),#[(.tmp 33),(.tmp 34)],#[32,39]⟩) 171 true Hz
def Hl:Tr:=.need (.call 234 [(.agg [(U 1 0),(U 1 1),(U 1 2),(U 1 3),(U 1 4)]),(.agg [(U 4 0),(U 4 1),(U 4 2)]),(W 0 0)] [none]) (.call ⟨.value (.func 234),#[(.tmp 28),(.tmp 29),(.tmp 30)],#[42,39,3]⟩) 118 true Gk
def HC:Tr:=.need (.call 36 [(.agg [(U 5 0),(U 5 1),(U 5 2)]),(.agg [(U 6 0),(U 6 1),(U 6 2)])] [(some 3)]) (.call ⟨.value (.func 36),#[(.tmp 25),(.tmp 26)],#[39,39]⟩) 39 true Hl
def Gr:Tr:=.need (.call 202 [(WK (1))] [(some 3)]) (.call ⟨.value (.func 202),#[(.const (I3 (1)))],#[3]⟩) 39 false HC
def HI:Tr:=.need (.call 80 [(.agg [(U 2 0),(U 2 1),(U 2 2),(U 2 3),(U 2 4),(U 2 5)])] [(some 3)]) (.call ⟨.value (.func 80),#[(.tmp 24)],#[123]⟩) 39 false Gr
def GB:Tr:=.need (.call 237 [(.agg [(U 2 0),(U 2 1),(U 2 2),(U 2 3),(U 2 4),(U 2 5)])] [(some 3)]) (.call ⟨.value (.func 237),#[(.tmp 22)],#[123]⟩) 39 false HI
def oi:kr prog 146 (fun _=>none) (cd [1] (dr f170)) [(2,.v none),(3,.ref 5),(4,.ref 6),(6,.v none)] ([2,6,8,9,10].map ResultVar.tmp) (some 3) false=GB:=by kernel_rfl
def DD:Tr:=.back 0 [(.w (W 14 0)),(.row 13)]
def Hp:Tr:=.need (.prim [(W 6 0),(WK (1))] none) (.binOp .add 3 (.tmp 52) (.const (I3 (1))) 3) 3 false DD
def Hu:Tr:=.need (.app 6 112 (some 7) none (some 12)) (.call ⟨.builtin .append,#[(.tmp 66),(.tmp 69)],#[118,118]⟩) 118 false Hp
def GN:Tr:=.need (.lit 6 [[(.u 11 0),(.u 11 1),(.u 11 2),(.u 11 3),(.u 11 4),(.u 11 5)]]) (.buildSlice 118 1 #[(0,(.tmp 68))]) 118 false Hu
def Hk:Tr:=.need (.call 227 [(.agg [(U 9 0),(U 9 1),(U 9 2)])] [(some 6)]) (.call ⟨.value (.func 227),#[(.tmp 67)],#[39]⟩) 123 true GN
def Gc:Tr:=.back 0 [(.w (W 15 0)),(.row 14)]
def Da:Tr:=.need (.prim [(W 6 0),(WK (1))] none) (.binOp .add 3 (.tmp 52) (.const (I3 (1))) 3) 3 false Gc
def DU:Tr:=.need (.app 6 112 (some 7) none (some 13)) (.call ⟨.builtin .append,#[(.tmp 75),(.tmp 78)],#[118,118]⟩) 118 false Da
def Cw:Tr:=.need (.lit 6 [[(.k (.slice none 0 0)),(.k (.bool false)),(.k (.slice none 0 0)),(.u 9 0),(.u 9 1),(.u 9 2)]]) (.buildSlice 118 1 #[(0,(.tmp 77))]) 118 false DU
def Fy:Tr:=.back 0 [(.w (W 16 0)),(.row 15)]
def DK:Tr:=.need (.prim [(W 6 0),(WK (1))] none) (.binOp .add 3 (.tmp 52) (.const (I3 (1))) 3) 3 false Fy
def Fk:Tr:=.need (.app 6 112 (some 7) none (some 14)) (.call ⟨.builtin .append,#[(.tmp 58),(.tmp 61)],#[118,118]⟩) 118 false DK
def FM:Tr:=.need (.lit 6 [[(.u 13 0),(.u 13 1),(.u 13 2),(.u 13 3),(.u 13 4),(.u 13 5)]]) (.buildSlice 118 1 #[(0,(.tmp 60))]) 118 false Fk
def Fb:Tr:=.need (.call 228 [(.agg [(U 9 0),(U 9 1),(U 9 2)])] [(some 6)]) (.call ⟨.value (.func 228),#[(.tmp 59)],#[39]⟩) 123 true FM
def Dw:Tr:=.split (.u 12 0) Cw Fb
def Fv:Tr:=.need (.prim [(W 11 0),(WK (0))] none) (.binOp .eql 3 (.tmp 73) (.const (I3 (0))) 3) 4 false Dw
def EN:Tr:=.need (.prim [(W 6 0),(WK (2))] none) (.binOp .rem 3 (.tmp 72) (.const (I3 (2))) 3) 3 false Fv
def GK:Tr:=.split (.u 10 0) Hk EN
def Hc:Tr:=.need (.prim [(W 6 0),(WK (0))] none) (.binOp .eql 3 (.tmp 64) (.const (I3 (0))) 3) 4 false GK
def GI:Tr:=.need (.call 203 [(.agg [(U 2 0),(U 2 1),(U 2 2)]),(W 6 0)] [(some 3)]) (.call ⟨.value (.func 203),#[(.tmp 55),(.tmp 56)],#[39,3]⟩) 39 true Hc
def FB:Tr:=.ret [(W 0 0),(W 1 0),(.one (.ref 0 [(.u 2 0),(.u 2 1),(.u 2 2)])),(W 3 0),(W 4 0),(W 5 0),(.one (.c (.sr 6 7)))]
def GV:Tr:=.split (.u 8 0) GI FB
def Hi:Tr:=.need (.prim [(W 6 0),(W 5 0)] none) (.binOp .lss 3 (.tmp 52) (.tmp 51) 3) 4 false GV
def Hd:Tr:=.loop 0 [(.w (WK (0))),.nilrow] Hi
def OC:kr prog 146 (fun _=>none) (cd [1,1,1,1,1,1,1] (dr f170)) [(2,.v none),(6,.v none),(8,.ref 3),(9,.v none),(11,.v none),(12,.v none)] ([2,6,8,9,11,12,13].map ResultVar.tmp) (some 1) false=Hd:=by kernel_rfl
def AB:Tr:=.back 1 [(.w (W 35 0)),(.w (W 34 0)),(.w (W 34 1)),(.w (W 34 2)),(.w (W 34 3)),(.w (W 34 4)),(.w (W 34 5))]
def Ac:Tr:=.need (.prim [(W 15 0),(WK (1))] none) (.binOp .add 3 (.tmp 95) (.const (I3 (1))) 3) 3 false AB
def zj:Tr:=.need (.call 66 [(.agg [(U 16 0),(U 17 0),(U 18 0),(U 19 0),(U 20 0),(U 21 0)]),(.agg [(U 33 0),(U 33 1),(U 33 2),(U 33 3),(U 33 4),(U 33 5)])] [(some 6)]) (.call ⟨.value (.func 66),#[(.tmp 97),(.tmp 115)],#[123,123]⟩) 123 true Ac
def Af:Tr:=.need (.call 74 [(.agg [(U 25 0),(U 25 1),(U 25 2),(U 25 3),(U 25 4),(U 25 5)]),(.agg [(U 32 0),(U 32 1),(U 32 2)])] [(some 6)]) (.call ⟨.value (.func 74),#[(.tmp 103),(.tmp 114)],#[123,39]⟩) 123 true zj
def AR:Tr:=.need (.call 36 [(.agg [(U 30 0),(U 30 1),(U 30 2)]),(.agg [(U 31 0),(U 31 1),(U 31 2)])] [(some 3)]) (.call ⟨.value (.func 36),#[(.tmp 110),(.tmp 113)],#[39,39]⟩) 39 false Af
def Bh:Tr:=.need (.call 209 [(W 15 0),(WK (0))] [(some 3)]) (.call ⟨.value (.func 209),#[(.tmp 111),(.tmp 112)],#[3,3]⟩) 39 false AR
def AO:Tr:=.need (.prim [(W 29 0)] (some 3)) (.load 39 (.tmp 109)) 39 false Bh
def Ai:Tr:=.need (.prim [(W 28 0),(W 15 0)] none) (.indexAddr 40 (.tmp 107) (.tmp 108)) 0 false AO
def Bc:Tr:=.need (.prim [(W 27 0)] none) (.load 40 (.tmp 106)) 40 false Ai
def Bj:Tr:=.need (.prim [(W 26 0)] none) (.fieldAddr 266 (.tmp 105) 2) 0 false Bc
def Bf:Tr:=.need (.prim [(W 14 0)] none) (.nilCheck (.tmp 104)) 0 false Bj
def AK:Tr:=.need (.prim [(W 24 0)] (some 6)) (.load 123 (.tmp 102)) 123 false Bf
def zz:Tr:=.need (.prim [(W 6 0),(W 23 0)] none) (.indexAddr 118 (.tmp 98) (.tmp 101)) 0 false AK
def Ed:Tr:=.need (.prim [(W 15 0),(WK (0))] none) (.binOp .sub 3 (.tmp 99) (.tmp 100) 3) 3 false zz
def AN:Tr:=.back 0 [(.w (W 32 0)),(.row 31)]
def AU:Tr:=.need (.prim [(W 10 0),(WK (1))] none) (.binOp .add 3 (.tmp 86) (.const (I3 (1))) 3) 3 false AN
def Aq:Tr:=.need (.strow 11 12 (.k (.int .i64 (0))) 0 [(.u 30 0),(.u 30 1),(.u 30 2),(.u 30 3),(.u 30 4),(.u 30 5)]) (.store 123 (.tmp 135) (.tmp 134)) 0 false AU
def Ak:Tr:=.need (.call 66 [(.agg [(U 23 0),(U 23 1),(U 23 2),(U 23 3),(U 23 4),(U 23 5)]),(.agg [(U 29 0),(U 29 1),(U 29 2),(U 29 3),(U 29 4),(U 29 5)])] [(some 6)]) (.call ⟨.value (.func 66),#[(.tmp 120),(.tmp 133)],#[123,123]⟩) 123 true Aq
def zi:Tr:=.need (.call 67 [(.agg [(U 25 0),(U 25 1),(U 25 2),(U 25 3),(U 25 4),(U 25 5)]),(.agg [(U 28 0),(U 28 1),(U 28 2),(U 28 3),(U 28 4),(U 28 5)])] [(some 6)]) (.call ⟨.value (.func 67),#[(.tmp 124),(.tmp 132)],#[123,123]⟩) 123 true Ak
def Bp:Tr:=.need (.call 66 [(.agg [(U 16 0),(U 17 0),(U 18 0),(U 19 0),(U 20 0),(U 21 0)]),(.agg [(U 27 0),(U 27 1),(U 27 2),(U 27 3),(U 27 4),(U 27 5)])] [(some 6)]) (.call ⟨.value (.func 66),#[(.tmp 125),(.tmp 131)],#[123,123]⟩) 123 false zi
def AE:Tr:=.need (.call 228 [(.agg [(U 26 0),(U 26 1),(U 26 2)])] [(some 6)]) (.call ⟨.value (.func 228),#[(.tmp 130)],#[39]⟩) 123 false Bp
def Aa:Tr:=.need (.call 133 [(W 14 0),(W 5 0),(WK (0)),(.agg [(U 2 0),(U 2 1),(U 2 2)])] [(some 3)]) (.call ⟨.value (.func 133),#[(.tmp 126),(.tmp 127),(.tmp 128),(.tmp 129)],#[194,3,3,39]⟩) 39 false AE
def Ax:Tr:=.need (.prim [(W 24 0)] (some 6)) (.load 123 (.tmp 123)) 123 false Aa
def Ao:Tr:=.need (.prim [(W 3 0),(W 10 0)] none) (.indexAddr 118 (.tmp 121) (.tmp 122)) 0 false Ax
def An:Tr:=.need (.ldrow 11 (.k (.int .i64 (0))) 0 6 true) (.load 123 (.tmp 119)) 123 false Ao
def Fs:Tr:=.split (.u 22 0) Ed An
def EV:Tr:=.need (.prim [(W 15 0),(W 5 0)] none) (.binOp .lss 3 (.tmp 92) (.tmp 93) 3) 4 false Fs
def CB:Tr:=.loop 1 [(.w (WK (0))),(.w (.one (.c (.k (.slice none 0 0))))),(.w (.one (.c (.k (.bool false))))),(.w (.one (.c (.k (.slice none 0 0))))),(.w (.one (.c (.k (.slice none 0 0))))),(.w (.one (.c (.k (.bool false))))),(.w (.one (.c (.k (.slice none 0 0)))))] EV
def Ge:Tr:=.need (.prim [(W 13 0)] none) (.load 194 (.tmp 89)) 194 false CB
def EJ:Tr:=.need (.prim [(W 4 0),(W 10 0)] none) (.indexAddr 276 (.tmp 84) (.tmp 86)) 0 false Ge
def Av:Tr:=.retr [(W 0 0),(W 1 0),(.one (.ref 0 [(.u 2 0),(.u 2 1),(.u 2 2)])),(W 3 0),(W 4 0),(W 5 0),(W 6 0),(WK (0))] 15
def zx:Tr:=.need (.strow 11 12 (.k (.int .i64 (0))) 0 [(.u 14 0),(.u 14 1),(.u 14 2),(.u 14 3),(.u 14 4),(.u 14 5)]) (.store 123 (.tmp 143) (.tmp 142)) 0 false Av
def Am:Tr:=.need (.call 229 [(.agg [(U 13 0),(U 13 1),(U 13 2),(U 13 3),(U 13 4),(U 13 5)]),(W 0 0)] [(some 6)]) (.call ⟨.value (.func 229),#[(.tmp 140),(.tmp 141)],#[123,3]⟩) 123 true zx
def AQ:Tr:=.need (.ldrow 11 (.k (.int .i64 (0))) 0 6 true) (.load 123 (.tmp 139)) 123 false Am
def Du:Tr:=.split (.u 12 0) EJ AQ
def Es:Tr:=.need (.prim [(W 10 0),(W 9 0)] none) (.binOp .lss 3 (.tmp 86) (.tmp 85) 3) 0 false Du
def Cx:Tr:=.loop 0 [(.w (WK (0))),(.row 8)] Es
def Ew:Tr:=.need (.prim [(W 4 0)] none) (.call ⟨.builtin .len,#[(.tmp 84)],#[276]⟩) 3 false Cx
def JV:Cz prog 146 (fun _=>none) (cd [1,1,1,1,1,1,1,1,1,1,0,1,0,0,1,1,0] (dr f170)) [(2,.v none),(6,.v none),(8,.ref 3),(9,.v none),(11,.v none),(12,.v none),(13,.v none),(81,.k ((.int .i64 (0))))] 16 233 12 ([2,6,8,9,11,12,13,81].map ResultVar.tmp)=Ew:=by kernel_rfl
def Bk:Tr:=.back 1 [(.w (W 35 0)),(.w (W 34 0)),(.w (W 34 1)),(.w (W 34 2)),(.w (W 34 3)),(.w (W 34 4)),(.w (W 34 5))]
def Bl:Tr:=.need (.prim [(W 15 0),(WK (1))] none) (.binOp .add 3 (.tmp 95) (.const (I3 (1))) 3) 3 false Bk
def Be:Tr:=.need (.call 66 [(.agg [(U 16 0),(U 17 0),(U 18 0),(U 19 0),(U 20 0),(U 21 0)]),(.agg [(U 33 0),(U 33 1),(U 33 2),(U 33 3),(U 33 4),(U 33 5)])] [(some 6)]) (.call ⟨.value (.func 66),#[(.tmp 97),(.tmp 115)],#[123,123]⟩) 123 true Bl
def Ar:Tr:=.need (.call 74 [(.agg [(U 25 0),(U 25 1),(U 25 2),(U 25 3),(U 25 4),(U 25 5)]),(.agg [(U 32 0),(U 32 1),(U 32 2)])] [(some 6)]) (.call ⟨.value (.func 74),#[(.tmp 103),(.tmp 114)],#[123,39]⟩) 123 true Be
def Ay:Tr:=.need (.call 36 [(.agg [(U 30 0),(U 30 1),(U 30 2)]),(.agg [(U 31 0),(U 31 1),(U 31 2)])] [(some 3)]) (.call ⟨.value (.func 36),#[(.tmp 110),(.tmp 113)],#[39,39]⟩) 39 false Ar
def zh:Tr:=.need (.call 209 [(W 15 0),(WK (1))] [(some 3)]) (.call ⟨.value (.func 209),#[(.tmp 111),(.tmp 112)],#[3,3]⟩) 39 false Ay
def AV:Tr:=.need (.prim [(W 29 0)] (some 3)) (.load 39 (.tmp 109)) 39 false zh
def Au:Tr:=.need (.prim [(W 28 0),(W 15 0)] none) (.indexAddr 40 (.tmp 107) (.tmp 108)) 0 false AV
def Ba:Tr:=.need (.prim [(W 27 0)] none) (.load 40 (.tmp 106)) 40 false Au
def zw:Tr:=.need (.prim [(W 26 0)] none) (.fieldAddr 266 (.tmp 105) 2) 0 false Ba
def AY:Tr:=.need (.prim [(W 14 0)] none) (.nilCheck (.tmp 104)) 0 false zw
def AM:Tr:=.need (.prim [(W 24 0)] (some 6)) (.load 123 (.tmp 102)) 123 false AY
def Bn:Tr:=.need (.prim [(W 6 0),(W 23 0)] none) (.indexAddr 118 (.tmp 98) (.tmp 101)) 0 false AM
def Eu:Tr:=.need (.prim [(W 15 0),(WK (1))] none) (.binOp .sub 3 (.tmp 99) (.tmp 100) 3) 3 false Bn
def Az:Tr:=.back 0 [(.w (W 32 0)),(.row 31)]
def Ap:Tr:=.need (.prim [(W 10 0),(WK (1))] none) (.binOp .add 3 (.tmp 86) (.const (I3 (1))) 3) 3 false Az
def Ad:Tr:=.need (.strow 11 12 (.k (.int .i64 (0))) 6 [(.u 30 0),(.u 30 1),(.u 30 2),(.u 30 3),(.u 30 4),(.u 30 5)]) (.store 123 (.tmp 135) (.tmp 134)) 0 false Ap
def AZ:Tr:=.need (.call 66 [(.agg [(U 23 0),(U 23 1),(U 23 2),(U 23 3),(U 23 4),(U 23 5)]),(.agg [(U 29 0),(U 29 1),(U 29 2),(U 29 3),(U 29 4),(U 29 5)])] [(some 6)]) (.call ⟨.value (.func 66),#[(.tmp 120),(.tmp 133)],#[123,123]⟩) 123 true Ad
def AL:Tr:=.need (.call 67 [(.agg [(U 25 0),(U 25 1),(U 25 2),(U 25 3),(U 25 4),(U 25 5)]),(.agg [(U 28 0),(U 28 1),(U 28 2),(U 28 3),(U 28 4),(U 28 5)])] [(some 6)]) (.call ⟨.value (.func 67),#[(.tmp 124),(.tmp 132)],#[123,123]⟩) 123 true AZ
def AJ:Tr:=.need (.call 66 [(.agg [(U 16 0),(U 17 0),(U 18 0),(U 19 0),(U 20 0),(U 21 0)]),(.agg [(U 27 0),(U 27 1),(U 27 2),(U 27 3),(U 27 4),(U 27 5)])] [(some 6)]) (.call ⟨.value (.func 66),#[(.tmp 125),(.tmp 131)],#[123,123]⟩) 123 false AL
def Bb:Tr:=.need (.call 228 [(.agg [(U 26 0),(U 26 1),(U 26 2)])] [(some 6)]) (.call ⟨.value (.func 228),#[(.tmp 130)],#[39]⟩) 123 false AJ
def Ae:Tr:=.need (.call 133 [(W 14 0),(W 5 0),(WK (1)),(.agg [(U 2 0),(U 2 1),(U 2 2)])] [(some 3)]) (.call ⟨.value (.func 133),#[(.tmp 126),(.tmp 127),(.tmp 128),(.tmp 129)],#[194,3,3,39]⟩) 39 false Bb
def zt:Tr:=.need (.prim [(W 24 0)] (some 6)) (.load 123 (.tmp 123)) 123 false Ae
def Ag:Tr:=.need (.prim [(W 3 0),(W 10 0)] none) (.indexAddr 118 (.tmp 121) (.tmp 122)) 0 false zt
def zo:Tr:=.need (.ldrow 11 (.k (.int .i64 (0))) 6 6 true) (.load 123 (.tmp 119)) 123 false Ag
def Fh:Tr:=.split (.u 22 0) Eu zo
def DT:Tr:=.need (.prim [(W 15 0),(W 5 0)] none) (.binOp .lss 3 (.tmp 92) (.tmp 93) 3) 4 false Fh
def FH:Tr:=.loop 1 [(.w (WK (1))),(.w (.one (.c (.k (.slice none 0 0))))),(.w (.one (.c (.k (.bool false))))),(.w (.one (.c (.k (.slice none 0 0))))),(.w (.one (.c (.k (.slice none 0 0))))),(.w (.one (.c (.k (.bool false))))),(.w (.one (.c (.k (.slice none 0 0)))))] DT
def DQ:Tr:=.need (.prim [(W 13 0)] none) (.load 194 (.tmp 89)) 194 false FH
def Cy:Tr:=.need (.prim [(W 4 0),(W 10 0)] none) (.indexAddr 276 (.tmp 84) (.tmp 86)) 0 false DQ
def AI:Tr:=.retr [(W 0 0),(W 1 0),(.one (.ref 0 [(.u 2 0),(.u 2 1),(.u 2 2)])),(W 3 0),(W 4 0),(W 5 0),(W 6 0),(WK (1))] 15
def AG:Tr:=.need (.strow 11 12 (.k (.int .i64 (0))) 6 [(.u 14 0),(.u 14 1),(.u 14 2),(.u 14 3),(.u 14 4),(.u 14 5)]) (.store 123 (.tmp 143) (.tmp 142)) 0 false AI
def Al:Tr:=.need (.call 229 [(.agg [(U 13 0),(U 13 1),(U 13 2),(U 13 3),(U 13 4),(U 13 5)]),(W 0 0)] [(some 6)]) (.call ⟨.value (.func 229),#[(.tmp 140),(.tmp 141)],#[123,3]⟩) 123 true AG
def zy:Tr:=.need (.ldrow 11 (.k (.int .i64 (0))) 6 6 true) (.load 123 (.tmp 139)) 123 false Al
def DW:Tr:=.split (.u 12 0) Cy zy
def Fx:Tr:=.need (.prim [(W 10 0),(W 9 0)] none) (.binOp .lss 3 (.tmp 86) (.tmp 85) 3) 0 false DW
def CG:Tr:=.loop 0 [(.w (WK (0))),(.row 8)] Fx
def Cv:Tr:=.need (.prim [(W 4 0)] none) (.call ⟨.builtin .len,#[(.tmp 84)],#[276]⟩) 3 false CG
def Ju:Cz prog 146 (fun _=>none) (cd [1,1,1,1,1,1,1,1,1,1,0,1,0,0,1,1,0] (dr f170)) [(2,.v none),(6,.v none),(8,.ref 3),(9,.v none),(11,.v none),(12,.v none),(13,.v none),(81,.k ((.int .i64 (1))))] 16 233 12 ([2,6,8,9,11,12,13,81].map ResultVar.tmp)=Cv:=by kernel_rfl
def lJ(r:Rat)(i:Nat):Rat×Rat:=if i=0 then(r^i,r^i)else if i%2=0 then(0,r^i)else(-(r^i),r^i)
def lF(r:Rat)(a:List Rat)(d:Nat):Nat->Rat×Rat
 | 0=>(0,0)
 | c+1=>((lF r a d c).1+(uG (lJ r c) (a.getD (d+c) 0*((aq ((d+c:Nat):Int) d:Int):Rat))).1,(lF r a d c).2+(uG (lJ r c) (a.getD (d+c) 0*((aq ((d+c:Nat):Int) d:Int):Rat))).2)
def AW(q:List (List Rat))(m:Nat)(lead aB:Rat)(st:Nat)(r:Rat)(n d l:Nat):Rat:=eI (jQ q m lead aB st l) aB n d r
def cH(q:List (List Rat))(m:Nat)(lead aB:Rat)(st:Nat)(r:Rat)(n d l:Nat):Rat×Rat:=
 ((lF r (aN q m lead (aX m l) n) d (n-d)).1 + -(AW q m lead aB st r n d l),(lF r (aN q m lead (aX m l) n) d (n-d)).2+AW q m lead aB st r n d l)
def kG(q:List (List Rat))(m:Nat)(lead aB:Rat)(st:Nat)(r:Rat)(k:Int)(V:VS)(n d:Nat):Rat×Rat:=
 (ki (cL (fun l=>V.getD l (0,0)) (cH q m lead aB st r n d) m).1 k.toNat,SK (cL (fun l=>V.getD l (0,0)) (cH q m lead aB st r n d) m).2 k.toNat)
structure ae5(q:List (List Rat))(m:Nat)(lead aB:Rat)(st:Nat)(r:Rat)(n B BS G:Nat):Prop where
 yH:∀d,d<=1->lS B aB n d r
 sh:∀d:Nat,d<=1->bh aB n d r<1
 fb:∀l,l<m->Fit B (jQ q m lead aB st l)
 ft:∀l,l<m->∀d,d<=1->Fit G (AW q m lead aB st r n d l)
 fc:∀l,l<m->∀x∈aN q m lead (aX m l) n,Fit BS x
 fs:∀l,l<m->∀d,d<=1->∀c,c<=n-d->Fit BS (lF r (aN q m lead (aX m l) n) d c).1/\Fit BS (lF r (aN q m lead (aX m l) n) d c).2
 ff:∀i,i<n->∀d,d<=1->∀j,j<=d->Fit B ((aq (i:Int) j:Int):Rat)
 h0:aB≠0
 hB:B<=1073741824
 h64:64<=B
 hBS:BS<=400000000
 hG:G<=300000000
 n15:n<=1073741824
 n1:1<=n
def OH{r:Rat}{B c:Nat}(h1:1<=B)(h:Fit B (r^c)):Fit B (lJ r c).1/\Fit B (lJ r c).2:=by
 unfold lJ;split
 ·exact⟨h,h⟩
 ·split
  ·exact⟨Fit.zero h1,h⟩
  ·exact⟨h.neg,h⟩
theorem Jb:∀ts:List aE,ae aE.Sub ts ts
 | []=>trivial
 | _::ts=>⟨aE.Sub.same,Jb ts⟩
theorem vm{u' u:List aE}(h:ae aE.Sub u' u):∀ts:List (List aE),aG.Sub (.rows (ts++[u'])) (.rows (ts++[u]))
 | []=>⟨h,trivial⟩
 | t::ts=>⟨Jb t,vm h ts⟩
abbrev zpC(a:Rat):List aE:=.exact (.slice none 0 0)::.bool false::.exact (.slice none 0 0)::qC a
def bP4(a:Rat):ae aE.Sub (zpC a) (dG 0 a):=⟨db.1,db.2.1,db.2.2.1,aE.Sub.same,aE.Sub.same,aE.Sub.same,trivial⟩
abbrev vd(r:Rat)(n:Nat):List (List aE):=(List.range n).map fun i=>dG (lJ r i).1 (lJ r i).2
def tH(a b:Rat)(B:Nat)(ha:Fit B a)(hb:Fit B b)(hB:B<=4294967296:=by omega):aL prog 237 [(ow a b:aG)] (.ret [qT ((a+b)*mkRat 1 (2^1))]):=by
 refine bw func237 VI ?_;apply aA (iU a b B B ha hb);apply aA (yt 1);apply aA (bg (a+b) (mkRat 1 (2^1)) (B+B+1) 257 ((ha.add hb).mono O) (eu O));exact aK
def bd5(v6 v9 v11:Value)(r:Rat)(k:Int)(n B:Nat)(aB:Rat)(C:lS B aB n 0 r)(hB:B<=1073741824)(hn:n<=1073741824):vc prog (fun o=>ep o (.ret [.one (.int .i64 k),.one (.exact v6),.one (.aj (qC r)),.one (.exact v9),.one (.exact v11),.one (.int .i64 n),.one (.slice 6 (vd r n))])) (kr prog 146 (fun _=>none) (cd [1,1,1,1,1,1,1] (dr f170)) [(2,.v none),(6,.v none),(8,.ref 3),(9,.v none),(11,.v none),(12,.v none)] ([2,6,8,9,11,12,13].map ResultVar.tmp) (some 1) false) ([.v (.one (.int .i64 k)),.v (.one (.exact v6)),.ref (qC r),.v (.one (.exact v9)),.v (.one (.exact v11)),.v (.one (.int .i64 n))].map In.env) []:=by
 rw[OC];dsimp only[List.map,In.env,aO,aP];refine ao {i:Nat // i<=n} (fun g=>[.one (.int .i64 g.1),.rows (vd r g.1)]) (fun g=>n-g.1) ⟨0,bO _⟩ aQ.rfl (fun _=>rfl) ?_;rintro⟨i,hi⟩;dsimp only[aO,aP]at hi|-;apply vn ak;refine vs _ rfl ?_ ?_<;>intro h2
 ·have hin:i<n:=O
  apply aA (iC r i B (fun j hj=>C.fr j O));apply vn bK;refine vs _ rfl ?_ ?_<;>intro h5
  ·have hpw:lJ r i=(r^i,r^i):=by unfold lJ;rw[if_pos O]
   apply aA (aU9 (r^i));apply bF (us:=[dG (r^i) (r^i)]);refine pK (ts:=vd r i) (us:=[dG (r^i) (r^i)]) (vs:=vd r (i+1)) rfl rfl (by rw[vd,vd,mM,eG,dY,lI,hpw]) (by rw[aR,mA];omega) (by rw[aR,mA];simp only[maxLen];omega) ?_;apply vn aC;dsimp only[aO,aP];exact aW rfl ⟨⟨i+1,O⟩,aQ.rfl,by show n-(i+1)<n-i;omega⟩
  apply vn dd;apply vn bK;refine vs _ rfl ?_ ?_<;>intro h13
  ·have hpw:lJ r i=(0,r^i):=by unfold lJ;rw[if_neg O,if_pos O]
   apply bF (us:=[zpC (r^i)]);refine pK (ts:=vd r i) (us:=[zpC (r^i)]) (vs:=vd r i++[zpC (r^i)]) rfl rfl rfl (by rw[eZ,aR,mA,Kz];omega) (by rw[eZ,aR,mA,Kz];simp only[maxLen];omega) ?_;apply vn aC
   exact aW rfl ⟨⟨i+1,O⟩,⟨aG.Sub.same,by
    show aG.Sub (.rows (vd r i++[zpC (r^i)])) (.rows (vd r (i+1)));rw[show vd r (i+1)=vd r i++[dG 0 (r^i)] by rw[vd,vd,mM,eG,dY,lI,hpw]];exact vm (bP4 (r^i)) _,trivial⟩,by show n-(i+1)<n-i;omega⟩
  have hpw:lJ r i=(-(r^i),r^i):=by unfold lJ;rw[if_neg O,if_neg O]
  apply aA (ta (r^i));apply bF (us:=[dG (-(r^i)) (r^i)]);refine pK (ts:=vd r i) (us:=[dG (-(r^i)) (r^i)]) (vs:=vd r (i+1)) rfl rfl (by rw[vd,vd,mM,eG,dY,lI,hpw]) (by rw[aR,mA];omega) (by rw[aR,mA];simp only[maxLen];omega) ?_;dsimp only[aO,aP];apply vn aC;dsimp only[aO,aP];exact aW rfl ⟨⟨i+1,O⟩,aQ.rfl,by show n-(i+1)<n-i;omega⟩
 obtain rfl:i=n:=O
 exact aK
def aH6(v6:Value)(q:List (List Rat))(m:Nat)(lead aB:Rat)(st:Nat)(r:Rat)(k:Int)(V:VS)(n B BS G W:Nat)(C:ae5 q m lead aB st r n B BS G)(hm:m<=4)(hk:k<=256)(hVl:V.length=m)(hV:∀p∈V,Fit W p.1/\Fit W p.2)(hW1:1<=W)(hW:W<=805306368)(hr0:0<=r)(z:Rat×Rat):vc prog (fun o=>o=.retr [.one (.int .i64 k),.one (.exact v6),.one (.aj (qC r)),.one (.slice 6 (vS V)),.one (.slice 1 ((List.range m).map fun l=>[.aj (ga q m lead aB st n l)])),.one (.int .i64 n),.one (.slice 6 (vd r n)),.one (.int .i64 0)] ([dG (kG q m lead aB st r k V n 0).1 (kG q m lead aB st r k V n 0).2++dG z.1 z.2])) (Cz prog 146 (fun _=>none) (cd [1,1,1,1,1,1,1,1,1,1,0,1,0,0,1,1,0] (dr f170)) [(2,.v none),(6,.v none),(8,.ref 3),(9,.v none),(11,.v none),(12,.v none),(13,.v none),(81,.k ((.int .i64 (0))))] 16 233 12 ([2,6,8,9,11,12,13,81].map ResultVar.tmp)) ([.v (.one (.int .i64 k)),.v (.one (.exact v6)),.ref (qC r),.v (.one (.slice 6 (vS V))),.v (.one (.slice 1 ((List.range m).map fun l=>[.aj (ga q m lead aB st n l)]))),.v (.one (.int .i64 n)),.v (.one (.slice 6 (vd r n))),.v (.one (.int .i64 0))].map In.env++[.rows ([dG 0 0++dG z.1 z.2])]) []:=by
 rw[JV];dsimp only[List.map,In.env,aO,aP];obtain⟨hn15,hB,h64,hBS,hG,h0,hn1⟩:=(⟨C.n15,C.hB,C.h64,C.hBS,C.hG,C.h0,C.n1⟩:n<=1073741824/\B<=1073741824/\64<=B/\BS<=400000000/\G<=300000000/\aB≠0/\1<=n)
 have hdf:∀l,l<=m->Fit (m*(W+(BS+G+1)+1)+1) (cL (fun l=>V.getD l (0,0)) (cH q m lead aB st r n 0) l).1/\Fit (m*(W+(BS+G+1)+1)+1) (cL (fun l=>V.getD l (0,0)) (cH q m lead aB st r n 0) l).2:=fun l hl=>by
  obtain⟨h1,h2⟩:=pZ (M:=fun l=>V.getD l (0,0)) (v:=cH q m lead aB st r n 0) (m:=m) (H:=W) (W:=BS+G+1) hW1 (fun l hl=>hV _ (bc (dD (v:=V)))) (fun l hl=>⟨((C.fs l hl 0 O (n-0) (aY _)).1.add (C.ft l hl 0 O).neg),((C.fs l hl 0 O (n-0) (aY _)).2.add (C.ft l hl 0 O))⟩) l hl;have hx:l*(W+(BS+G+1)+1)+1<=m*(W+(BS+G+1)+1)+1:=Nat.succ_le_succ (Nat.mul_le_mul_right _ hl);exact⟨h1.mono hx,h2.mono hx⟩
 have hmx:m*(W+(BS+G+1)+1)+1<=4*(W+(BS+G+1)+1)+1:=Nat.succ_le_succ (Nat.mul_le_mul_right _ hm);generalize hQ:m*(W+(BS+G+1)+1)+1=Q at *;apply vn (aU HL (aR _));rw[mA];refine ao {l:Nat // l<=m} (fun g=>[.one (.int .i64 g.1),.rows [dG (cL (fun l=>V.getD l (0,0)) (cH q m lead aB st r n 0) g.1).1 (cL (fun l=>V.getD l (0,0)) (cH q m lead aB st r n 0) g.1).2++dG z.1 z.2]]) (fun g=>m-g.1) ⟨0,bO _⟩ aQ.rfl (fun _=>rfl) ?_;rintro⟨l,hl⟩;dsimp only[aO,aP]at hl|-;apply vn ak;refine vs _ rfl ?_ ?_<;>intro h3
 ·have hlm:l<m:=O
  have hrl:(List.range m)[l]?=some l:=gv hlm;apply vn (aZ HL hrl (cS l));apply vn (av ag6);dsimp only[aO,aP];have hal:=bE q m lead (aX m l) n;have hfs:=C.fs l hlm 0 O;have hfc:=C.fc l hlm;obtain⟨nd,hnd⟩:∃nd,n-0=nd:=⟨_,rfl⟩
  refine ao {c:Nat // c<=nd} (fun g=>(.one (.int .i64 ((0+g.1:Nat):Int)):aG)::(dG (lF r (aN q m lead (aX m l) n) 0 g.1).1 (lF r (aN q m lead (aX m l) n) 0 g.1).2).map .one) (fun g=>nd-g.1) ⟨0,bO _⟩ ⟨aG.Sub.same,DA⟩ (fun _=>rfl) ?_;rintro⟨c,hc⟩;dsimp only[aO,aP,List.map]at hc|-;apply vn ak;refine vs _ rfl ?_ ?_<;>intro h8
  ·have hci:c<n-0:=O
   obtain⟨i,hi⟩:∃i,0+c=i:=⟨_,rfl⟩
   have hia:i<(aN q m lead (aX m l) n).length:=O
   have hfx:=hfc _ (bc (bX hia));have hff:=C.ff i O 0 O;have hpf:=OH (r:=r) (c:=c) (show 1<=B by omega) ((C.yH 0 O).fr c O);rw[hi];apply vn aJ;dsimp only[aO,aP];rw[show((i:Nat):Int)-0=(c:Int) by omega];refine vn (aZ ju (gv O) (cS c)) rfl ?_;apply vn (bB sq (by decide) (by simp) (.inl rfl));apply vn Jm;apply vn (lk JK (by decide));apply vn (t:=.one (sQ (aN q m lead (aX m l) n))) (bB bb1 (by decide) (by exact Nat.succ_le_succ (bO _)) (.inr rfl));apply vn (aZ sD (bX hia) (cS i));apply vn (bB ov (by decide) (by simp) (.inl rfl));apply aA (iv (i:Int) 0 B h64 hff);dsimp only[aO,aP];apply aA (bg _ _ BS B hfx (hff 0 (aY _)));apply aA (ME (lJ r c) ((aN q m lead (aX m l) n).getD i 0*((aq (i:Int) 0:Int):Rat)) B (BS+B) hpf.1 hpf.2 (hfx.mul (hff 0 (aY _))));dsimp only[aO,aP];obtain⟨g1,g2⟩:=Tz hpf.1 hpf.2 (hfx.mul (hff 0 (aY _))) (show 1<=B by omega);apply aA (sn _ _ _ _ BS (B+(BS+B)) (hfs c O).1 (hfs c O).2 g1 g2);apply vn aC
   exact aW rfl ⟨⟨c+1,O⟩,aQ.of_eq (by
    dsimp only;rw[show((0+(c+1):Nat):Int)=(i:Int)+1 by omega,lF,hi];rfl),by show nd-(c+1)<nd-c;omega⟩
  have hcd:c=n-0:=O
  obtain⟨w1,w2⟩:=hV _ (bc (dD (v:=V) (l:=l)));obtain⟨d1,d2⟩:=hdf l hl;have hft:=C.ft l hlm 0 O;refine vld (ts:=[dG (cL (fun l=>V.getD l (0,0)) (cH q m lead aB st r n 0) l).1 (cL (fun l=>V.getD l (0,0)) (cH q m lead aB st r n 0) l).2++dG z.1 z.2]) (ik:=.i64) (n:=0) (t:=ow (cL (fun l=>V.getD l (0,0)) (cH q m lead aB st r n 0) l).1 (cL (fun l=>V.getD l (0,0)) (cH q m lead aB st r n 0) l).2) rfl rfl (qP _) (cells:=dG (cL (fun l=>V.getD l (0,0)) (cH q m lead aB st r n 0) l).1 (cL (fun l=>V.getD l (0,0)) (cH q m lead aB st r n 0) l).2++dG z.1 z.2) rfl (.inl rfl) rfl ?_;dsimp only[aO,aP,Mf,List.drop,List.take];apply vn (aZ ju (dD (v:=V)) (cS l));apply vn (bB sq (by decide) (by simp) (.inl rfl));apply aA (Br (eQ q) (.int .i64 m) (dT lead.num.natAbs) (.bool (decide (lead.num<0))) (dT (lead.den-1)) aB st (aX m l) (aN q m lead (aX m l) n) (jQ q m lead aB st l) n 0 r B (C.yH 0 O) h0 (C.fb l hlm) (C.sh 0 O));apply aA (ta (eI (jQ q m lead aB st l) aB n 0 r));apply aA (sn (lF r (aN q m lead (aX m l) n) 0 c).1 (lF r (aN q m lead (aX m l) n) 0 c).2 (-(AW q m lead aB st r n 0 l)) (AW q m lead aB st r n 0 l) BS G (hfs c O).1 (hfs c O).2 hft.neg hft);rw[show(lF r (aN q m lead (aX m l) n) 0 c).1 + -(AW q m lead aB st r n 0 l)=(cH q m lead aB st r n 0 l).1 by rw[hcd];rfl,show(lF r (aN q m lead (aX m l) n) 0 c).2+AW q m lead aB st r n 0 l=(cH q m lead aB st r n 0 l).2 by rw[hcd];rfl];have u1:Fit (BS+G+1) (cH q m lead aB st r n 0 l).1:=(hfs _ (aY _)).1.add hft.neg;have u2:Fit (BS+G+1) (cH q m lead aB st r n 0 l).2:=(hfs _ (aY _)).2.add hft;apply aA (Rs (V.getD l (0,0)).1 (V.getD l (0,0)).2 (cH q m lead aB st r n 0 l).1 (cH q m lead aB st r n 0 l).2 W (BS+G+1) hW1 w1 w2 u1 u2);dsimp only[aO,aP];obtain⟨p1,p2⟩:=Cm hW1 w1 w2 u1 u2;apply aA (sn _ _ _ _ Q (W+(BS+G+1)) d1 d2 p1 p2);refine yx (ts:=[dG (cL (fun l=>V.getD l (0,0)) (cH q m lead aB st r n 0) l).1 (cL (fun l=>V.getD l (0,0)) (cH q m lead aB st r n 0) l).2++dG z.1 z.2]) (us:=[dG (cL (fun l=>V.getD l (0,0)) (cH q m lead aB st r n 0) (l+1)).1 (cL (fun l=>V.getD l (0,0)) (cH q m lead aB st r n 0) (l+1)).2++dG z.1 z.2]) rfl rfl O (cells:=dG (cL (fun l=>V.getD l (0,0)) (cH q m lead aB st r n 0) l).1 (cL (fun l=>V.getD l (0,0)) (cH q m lead aB st r n 0) l).2++dG z.1 z.2) rfl rfl ?_;apply vn aC;dsimp only[aO,aP];exact aW rfl ⟨⟨l+1,O⟩,aQ.rfl,by show m-(l+1)<m-l;omega⟩
 obtain rfl:l=m:=O
 obtain⟨d1,d2⟩:=hdf l (aY _);refine vld (ts:=[dG (cL (fun l=>V.getD l (0,0)) (cH q l lead aB st r n 0) l).1 (cL (fun l=>V.getD l (0,0)) (cH q l lead aB st r n 0) l).2++dG z.1 z.2]) (ik:=.i64) (n:=0) (t:=ow (cL (fun l=>V.getD l (0,0)) (cH q l lead aB st r n 0) l).1 (cL (fun l=>V.getD l (0,0)) (cH q l lead aB st r n 0) l).2) rfl rfl (qP _) (cells:=dG (cL (fun l=>V.getD l (0,0)) (cH q l lead aB st r n 0) l).1 (cL (fun l=>V.getD l (0,0)) (cH q l lead aB st r n 0) l).2++dG z.1 z.2) rfl (.inl rfl) rfl ?_;dsimp only[aO,aP,Mf,List.drop,List.take];apply aA (Jv _ _ k Q hk d1 d2);refine yx (ts:=[dG (cL (fun l=>V.getD l (0,0)) (cH q l lead aB st r n 0) l).1 (cL (fun l=>V.getD l (0,0)) (cH q l lead aB st r n 0) l).2++dG z.1 z.2]) (us:=[dG (kG q l lead aB st r k V n 0).1 (kG q l lead aB st r k V n 0).2++dG z.1 z.2]) rfl rfl O (cells:=dG (cL (fun l=>V.getD l (0,0)) (cH q l lead aB st r n 0) l).1 (cL (fun l=>V.getD l (0,0)) (cH q l lead aB st r n 0) l).2++dG z.1 z.2) rfl rfl ?_;dsimp only[aO,aP];exact xH rfl rfl
def aC9(v6:Value)(q:List (List Rat))(m:Nat)(lead aB:Rat)(st:Nat)(r:Rat)(k:Int)(V:VS)(n B BS G W:Nat)(C:ae5 q m lead aB st r n B BS G)(hm:m<=4)(hk:k<=256)(hVl:V.length=m)(hV:∀p∈V,Fit W p.1/\Fit W p.2)(hW1:1<=W)(hW:W<=805306368)(hr0:0<=r)(z:Rat×Rat):vc prog (fun o=>o=.retr [.one (.int .i64 k),.one (.exact v6),.one (.aj (qC r)),.one (.slice 6 (vS V)),.one (.slice 1 ((List.range m).map fun l=>[.aj (ga q m lead aB st n l)])),.one (.int .i64 n),.one (.slice 6 (vd r n)),.one (.int .i64 1)] ([dG z.1 z.2++dG (kG q m lead aB st r k V n 1).1 (kG q m lead aB st r k V n 1).2])) (Cz prog 146 (fun _=>none) (cd [1,1,1,1,1,1,1,1,1,1,0,1,0,0,1,1,0] (dr f170)) [(2,.v none),(6,.v none),(8,.ref 3),(9,.v none),(11,.v none),(12,.v none),(13,.v none),(81,.k ((.int .i64 (1))))] 16 233 12 ([2,6,8,9,11,12,13,81].map ResultVar.tmp)) ([.v (.one (.int .i64 k)),.v (.one (.exact v6)),.ref (qC r),.v (.one (.slice 6 (vS V))),.v (.one (.slice 1 ((List.range m).map fun l=>[.aj (ga q m lead aB st n l)]))),.v (.one (.int .i64 n)),.v (.one (.slice 6 (vd r n))),.v (.one (.int .i64 1))].map In.env++[.rows ([dG z.1 z.2++dG 0 0])]) []:=by
 rw[Ju];dsimp only[List.map,In.env,aO,aP];obtain⟨hn15,hB,h64,hBS,hG,h0,hn1⟩:=(⟨C.n15,C.hB,C.h64,C.hBS,C.hG,C.h0,C.n1⟩:n<=1073741824/\B<=1073741824/\64<=B/\BS<=400000000/\G<=300000000/\aB≠0/\1<=n)
 have hdf:∀l,l<=m->Fit (m*(W+(BS+G+1)+1)+1) (cL (fun l=>V.getD l (0,0)) (cH q m lead aB st r n 1) l).1/\Fit (m*(W+(BS+G+1)+1)+1) (cL (fun l=>V.getD l (0,0)) (cH q m lead aB st r n 1) l).2:=fun l hl=>by
  obtain⟨h1,h2⟩:=pZ (M:=fun l=>V.getD l (0,0)) (v:=cH q m lead aB st r n 1) (m:=m) (H:=W) (W:=BS+G+1) hW1 (fun l hl=>hV _ (bc (dD (v:=V)))) (fun l hl=>⟨((C.fs l hl 1 O (n-1) (aY _)).1.add (C.ft l hl 1 O).neg),((C.fs l hl 1 O (n-1) (aY _)).2.add (C.ft l hl 1 O))⟩) l hl;have hx:l*(W+(BS+G+1)+1)+1<=m*(W+(BS+G+1)+1)+1:=Nat.succ_le_succ (Nat.mul_le_mul_right _ hl);exact⟨h1.mono hx,h2.mono hx⟩
 have hmx:m*(W+(BS+G+1)+1)+1<=4*(W+(BS+G+1)+1)+1:=Nat.succ_le_succ (Nat.mul_le_mul_right _ hm);generalize hQ:m*(W+(BS+G+1)+1)+1=Q at *;apply vn (aU HL (aR _));rw[mA];refine ao {l:Nat // l<=m} (fun g=>[.one (.int .i64 g.1),.rows [dG z.1 z.2++dG (cL (fun l=>V.getD l (0,0)) (cH q m lead aB st r n 1) g.1).1 (cL (fun l=>V.getD l (0,0)) (cH q m lead aB st r n 1) g.1).2]]) (fun g=>m-g.1) ⟨0,bO _⟩ aQ.rfl (fun _=>rfl) ?_;rintro⟨l,hl⟩;dsimp only[aO,aP]at hl|-;apply vn ak;refine vs _ rfl ?_ ?_<;>intro h3
 ·have hlm:l<m:=O
  have hrl:(List.range m)[l]?=some l:=gv hlm;apply vn (aZ HL hrl (cS l));apply vn (av ag6);dsimp only[aO,aP];have hal:=bE q m lead (aX m l) n;have hfs:=C.fs l hlm 1 O;have hfc:=C.fc l hlm;obtain⟨nd,hnd⟩:∃nd,n-1=nd:=⟨_,rfl⟩
  refine ao {c:Nat // c<=nd} (fun g=>(.one (.int .i64 ((1+g.1:Nat):Int)):aG)::(dG (lF r (aN q m lead (aX m l) n) 1 g.1).1 (lF r (aN q m lead (aX m l) n) 1 g.1).2).map .one) (fun g=>nd-g.1) ⟨0,bO _⟩ ⟨aG.Sub.same,DA⟩ (fun _=>rfl) ?_;rintro⟨c,hc⟩;dsimp only[aO,aP,List.map]at hc|-;apply vn ak;refine vs _ rfl ?_ ?_<;>intro h8
  ·have hci:c<n-1:=O
   obtain⟨i,hi⟩:∃i,1+c=i:=⟨_,rfl⟩
   have hia:i<(aN q m lead (aX m l) n).length:=O
   have hfx:=hfc _ (bc (bX hia));have hff:=C.ff i O 1 O;have hpf:=OH (r:=r) (c:=c) (show 1<=B by omega) ((C.yH 0 O).fr c O);rw[hi];apply vn aJ;dsimp only[aO,aP];rw[show((i:Nat):Int)-1=(c:Int) by omega];refine vn (aZ ju (gv O) (cS c)) rfl ?_;apply vn (bB sq (by decide) (by simp) (.inl rfl));apply vn Jm;apply vn (lk JK (by decide));apply vn (t:=.one (sQ (aN q m lead (aX m l) n))) (bB bb1 (by decide) (by exact Nat.succ_le_succ (bO _)) (.inr rfl));apply vn (aZ sD (bX hia) (cS i));apply vn (bB ov (by decide) (by simp) (.inl rfl));apply aA (iv (i:Int) 1 B h64 hff);dsimp only[aO,aP];apply aA (bg _ _ BS B hfx (hff 1 (aY _)));apply aA (ME (lJ r c) ((aN q m lead (aX m l) n).getD i 0*((aq (i:Int) 1:Int):Rat)) B (BS+B) hpf.1 hpf.2 (hfx.mul (hff 1 (aY _))));dsimp only[aO,aP];obtain⟨g1,g2⟩:=Tz hpf.1 hpf.2 (hfx.mul (hff 1 (aY _))) (show 1<=B by omega);apply aA (sn _ _ _ _ BS (B+(BS+B)) (hfs c O).1 (hfs c O).2 g1 g2);apply vn aC
   exact aW rfl ⟨⟨c+1,O⟩,aQ.of_eq (by
    dsimp only;rw[show((1+(c+1):Nat):Int)=(i:Int)+1 by omega,lF,hi];rfl),by show nd-(c+1)<nd-c;omega⟩
  have hcd:c=n-1:=O
  obtain⟨w1,w2⟩:=hV _ (bc (dD (v:=V) (l:=l)));obtain⟨d1,d2⟩:=hdf l hl;have hft:=C.ft l hlm 1 O;refine vld (ts:=[dG z.1 z.2++dG (cL (fun l=>V.getD l (0,0)) (cH q m lead aB st r n 1) l).1 (cL (fun l=>V.getD l (0,0)) (cH q m lead aB st r n 1) l).2]) (ik:=.i64) (n:=0) (t:=ow (cL (fun l=>V.getD l (0,0)) (cH q m lead aB st r n 1) l).1 (cL (fun l=>V.getD l (0,0)) (cH q m lead aB st r n 1) l).2) rfl rfl (qP _) (cells:=dG z.1 z.2++dG (cL (fun l=>V.getD l (0,0)) (cH q m lead aB st r n 1) l).1 (cL (fun l=>V.getD l (0,0)) (cH q m lead aB st r n 1) l).2) rfl (.inl rfl) rfl ?_;dsimp only[aO,aP,Mf,List.drop,List.take];apply vn (aZ ju (dD (v:=V)) (cS l));apply vn (bB sq (by decide) (by simp) (.inl rfl));apply aA (Br (eQ q) (.int .i64 m) (dT lead.num.natAbs) (.bool (decide (lead.num<0))) (dT (lead.den-1)) aB st (aX m l) (aN q m lead (aX m l) n) (jQ q m lead aB st l) n 1 r B (C.yH 1 O) h0 (C.fb l hlm) (C.sh 1 O));apply aA (ta (eI (jQ q m lead aB st l) aB n 1 r));apply aA (sn (lF r (aN q m lead (aX m l) n) 1 c).1 (lF r (aN q m lead (aX m l) n) 1 c).2 (-(AW q m lead aB st r n 1 l)) (AW q m lead aB st r n 1 l) BS G (hfs c O).1 (hfs c O).2 hft.neg hft);rw[show(lF r (aN q m lead (aX m l) n) 1 c).1 + -(AW q m lead aB st r n 1 l)=(cH q m lead aB st r n 1 l).1 by rw[hcd];rfl,show(lF r (aN q m lead (aX m l) n) 1 c).2+AW q m lead aB st r n 1 l=(cH q m lead aB st r n 1 l).2 by rw[hcd];rfl];have u1:Fit (BS+G+1) (cH q m lead aB st r n 1 l).1:=(hfs _ (aY _)).1.add hft.neg;have u2:Fit (BS+G+1) (cH q m lead aB st r n 1 l).2:=(hfs _ (aY _)).2.add hft;apply aA (Rs (V.getD l (0,0)).1 (V.getD l (0,0)).2 (cH q m lead aB st r n 1 l).1 (cH q m lead aB st r n 1 l).2 W (BS+G+1) hW1 w1 w2 u1 u2);dsimp only[aO,aP];obtain⟨p1,p2⟩:=Cm hW1 w1 w2 u1 u2;apply aA (sn _ _ _ _ Q (W+(BS+G+1)) d1 d2 p1 p2);refine yx (ts:=[dG z.1 z.2++dG (cL (fun l=>V.getD l (0,0)) (cH q m lead aB st r n 1) l).1 (cL (fun l=>V.getD l (0,0)) (cH q m lead aB st r n 1) l).2]) (us:=[dG z.1 z.2++dG (cL (fun l=>V.getD l (0,0)) (cH q m lead aB st r n 1) (l+1)).1 (cL (fun l=>V.getD l (0,0)) (cH q m lead aB st r n 1) (l+1)).2]) rfl rfl O (cells:=dG z.1 z.2++dG (cL (fun l=>V.getD l (0,0)) (cH q m lead aB st r n 1) l).1 (cL (fun l=>V.getD l (0,0)) (cH q m lead aB st r n 1) l).2) rfl rfl ?_;apply vn aC;dsimp only[aO,aP];exact aW rfl ⟨⟨l+1,O⟩,aQ.rfl,by show m-(l+1)<m-l;omega⟩
 obtain rfl:l=m:=O
 obtain⟨d1,d2⟩:=hdf l (aY _);refine vld (ts:=[dG z.1 z.2++dG (cL (fun l=>V.getD l (0,0)) (cH q l lead aB st r n 1) l).1 (cL (fun l=>V.getD l (0,0)) (cH q l lead aB st r n 1) l).2]) (ik:=.i64) (n:=0) (t:=ow (cL (fun l=>V.getD l (0,0)) (cH q l lead aB st r n 1) l).1 (cL (fun l=>V.getD l (0,0)) (cH q l lead aB st r n 1) l).2) rfl rfl (qP _) (cells:=dG z.1 z.2++dG (cL (fun l=>V.getD l (0,0)) (cH q l lead aB st r n 1) l).1 (cL (fun l=>V.getD l (0,0)) (cH q l lead aB st r n 1) l).2) rfl (.inl rfl) rfl ?_;dsimp only[aO,aP,Mf,List.drop,List.take];apply aA (Jv _ _ k Q hk d1 d2);refine yx (ts:=[dG z.1 z.2++dG (cL (fun l=>V.getD l (0,0)) (cH q l lead aB st r n 1) l).1 (cL (fun l=>V.getD l (0,0)) (cH q l lead aB st r n 1) l).2]) (us:=[dG z.1 z.2++dG (kG q l lead aB st r k V n 1).1 (kG q l lead aB st r k V n 1).2]) rfl rfl O (cells:=dG z.1 z.2++dG (cL (fun l=>V.getD l (0,0)) (cH q l lead aB st r n 1) l).1 (cL (fun l=>V.getD l (0,0)) (cH q l lead aB st r n 1) l).2) rfl rfl ?_;dsimp only[aO,aP];exact xH rfl rfl
def ax6(p:Rat×Rat)(u:Rat):((uG p u).1=p.1*u\/(uG p u).1=p.2*u)/\((uG p u).2=p.1*u\/(uG p u).2=p.2*u):=by
 constructor
 ·show iG [p.1*u,p.2*u] 2=_\/iG [p.1*u,p.2*u] 2=_;rw[xN];split
  ·exact .inr rfl
  ·exact .inl rfl
 ·show gZ [p.1*u,p.2*u] 2=_\/gZ [p.1*u,p.2*u] 2=_;rw[xJ];split
  ·exact .inr rfl
  ·exact .inl rfl
def aD4(r:Rat)(c:Nat):(∃e:Rat,(e=0\/e=1\/e=-1)/\(lJ r c).1=e*r^c)/\∃e:Rat,(e=0\/e=1\/e=-1)/\(lJ r c).2=e*r^c:=by
 unfold lJ;split
 ·exact⟨⟨1,.inr (.inl rfl),by dsimp only;grind⟩,⟨1,.inr (.inl rfl),by dsimp only;grind⟩⟩
 ·split
  ·exact⟨⟨0,.inl rfl,by dsimp only;grind⟩,⟨1,.inr (.inl rfl),by dsimp only;grind⟩⟩
  ·exact⟨⟨-1,.inr (.inr rfl),by dsimp only;grind⟩,⟨1,.inr (.inl rfl),by dsimp only;grind⟩⟩
def SP(r u:Rat)(c:Nat):(∃e:Rat,(e=0\/e=1\/e=-1)/\(uG (lJ r c) u).1=e*(r^c*u))/\∃e:Rat,(e=0\/e=1\/e=-1)/\(uG (lJ r c) u).2=e*(r^c*u):=by
 obtain⟨⟨e1,h1,p1⟩,⟨e2,h2,p2⟩⟩:=aD4 r c;obtain⟨m1,m2⟩:=ax6 (lJ r c) u
 constructor
 ·rcases m1 with m | m
  ·exact⟨e1,h1,by rw[m,p1];grind⟩
  ·exact⟨e2,h2,by rw[m,p2];grind⟩
 ·rcases m2 with m | m
  ·exact⟨e1,h1,by rw[m,p1];grind⟩
  ·exact⟨e2,h2,by rw[m,p2];grind⟩
def aB7{D S:Nat}{x e:Rat}(h:Bd D S x)(he:e=0\/e=1\/e=-1):Bd D S (e*x):=by
 rcases he with rfl | rfl | rfl
 ·rw[LH];exact Bd.zero
 ·rw[iB];exact h
 ·rw[show -1*x=-x by grind];exact h.neg
def MA{r:Rat}{a:List Rat}{d D S:Nat}(ha:∀x∈a,Bd D S x)(g:Nat->Rat)(hg:∀j,∃e:Rat,(e=0\/e=1\/e=-1)/\g j=e*(r^j*(a.getD (d+j) 0*((aq ((d+j:Nat):Int) d:Int):Rat)))) :
  ∃a':List Rat,(∀x∈a',Bd D S x)/\∀c,d+c<=a.length->sm g c=gV r a' d (d+c) c:=by
 obtain⟨f,hf⟩:=Classical.axiomOfChoice hg;refine⟨(List.range a.length).map fun i=>f (i-d)*a.getD i 0,fun x hx=>?_,fun c hc=>?_⟩
 ·obtain⟨i,hi,rfl⟩:=gn.1 hx;have hil:=jk.1 hi
  have hm:a.getD i 0∈a:=by
   rw[cu,ay hil];exact List.getElem_mem hil
  exact aB7 (ha _ hm) (hf _).1
 ·rw[LF _ _ _ _ _ O];refine aw fun j hj=>?_;rw[show d+c-c+j=d+j by omega,(hf j).2]
  have e:co ((List.range a.length).map fun i=>f (i-d)*a.getD i 0) (d+j)=f j*a.getD (d+j) 0:=by
   unfold co;rw[cu,cC,gv O,cf,ei,show d+j-d=j by omega]
  rw[e];unfold fr;grind
theorem Tw(r:Rat)(a:List Rat)(d:Nat):∀c,(lF r a d c).1=sm (fun j=>(uG (lJ r j) (a.getD (d+j) 0*((aq ((d+j:Nat):Int) d:Int):Rat))).1) c/\(lF r a d c).2=sm (fun j=>(uG (lJ r j) (a.getD (d+j) 0*((aq ((d+j:Nat):Int) d:Int):Rat))).2) c
 | 0=>⟨rfl,rfl⟩
 | c+1=>by
   obtain⟨h1,h2⟩:=Tw r a d c;exact⟨by rw[lF,sm,h1],by rw[lF,sm,h2]⟩
def Dh{i d:Nat}(hd:d<=1:=by omega)(hi:i<1500:=by omega):(aq (i:Int) d).natAbs<=1500:=by
 rcases(show d=0\/d=1 by omega)with rfl | rfl
 ·simp[aq]
 ·simp only[aq];omega
section
variable{E:List (List Rat)}{ER:List (List RQ)}{X:Rat}{XR:RQ}
def SmallX.ab4(h:SmallX E ER X XR)(hr:gT E X){aB t:Rat}{st:Nat}{k:Int}(S:kq E X aB st t k){d:Nat}(hd:d<=1) :
  zM (aV E X) (E.length-1) (aF E X) aB st t.abs (qD k) d 200000000 211000000:=by
 obtain⟨h2,h5,hld,_⟩:=hr.facts;obtain⟨hh,hh62,rfl,hst,hW⟩:=eO S.hv;have hpos:=jI hh;have hab:=rL t;have hsmall:∀n,st<=n->n<=max 1500 st->∀i,i<=d->lS 2097152 (ah hh) n i t.abs:=fun n h1 h2 i hi=>eJ S.tb.abs hh62 O O (aY _);have hsh:∀n,st<=n->n<=max 1500 st->∀i,i<=d->bh (ah hh) n i t.abs<1:=fun n h1 h2 i hi=>vu hpos hab S.t2
 have hfb:∀l,l<E.length-1->Fit 200000000 (jQ (aV E X) (E.length-1) (aF E X) (ah hh) st l):=fun l hl=>by
  have hs:=h.Cd hr l;have hrho:∀j,j<=2*st+1->Fit (Oe) (ah hh^j):=(eJ S.tb.abs hh62 (n:=st) (d:=0) O O (by decide)).fo;exact(Ls (fun x hx=>Fq hs O hx) (by decide) (fun j hj=>hrho j O) (st:=st) O _ (aY _)).mono (by decide)
 refine⟨fun n h1 h2 i hi=>eJ S.tb.abs hh62,hsh,hfb,fun l hl n h1 h2 i hi=>?_,?_,O,O,rh hh,O,O,O⟩
 ·exact(II (hsmall n h1 h2 i hi) (hfb l hl)).mono O
 ·exact((eu (by have:=S.k256;omega)).mul (eu O)).mono O
def SmallX.ag8(h:SmallX E ER X XR)(hr:gT E X){aB t:Rat}{st:Nat}{k:Int}(S:kq E X aB st t k) :
  zM (aV E X) (E.length-1) (aF E X) aB st t.abs (qD k) 1 200000000 211000000:=h.ab4 hr S (aY 1)
def SmallX.TC(h:SmallX E ER X XR)(hr:gT E X){aB t:Rat}{st:Nat}{k:Int}(S:kq E X aB st t k){d:Nat}(hd:d<=1) :
  uf (Ps (aV E X) (E.length-1) (aF E X) aB st t.abs (qD k) d) (E.length-1) st (dm E X aB st t d k):=by
 have T:=h.ab4 hr S hd;obtain⟨h2,h5,hld,_⟩:=hr.facts;obtain⟨hh,hh62,rfl,hst,hW⟩:=eO S.hv;refine IW fun l hl n h1 h2 hen=>?_;unfold Ps lp at hen|-;rw[fS]at hen|-;intro i hi;have hid:=jk.1 hi;have h3:=oP (hen i hi);exact iV (cq (qf (JI _ _ _ _) (jI hh) (rL t) (T.sh n h1 O i O)).1 h3)
def SmallX.aN2(h:SmallX E ER X XR)(hr:gT E X){r:Rat}(ht:rK r){l n d:Nat}(hn:n<=1500)(hd:d<=1)(g:Nat->Rat)(hg:∀j,∃e:Rat,(e=0\/e=1\/e=-1)/\g j=e*(r^j*((aN (aV E X) (E.length-1) (aF E X) (aX (E.length-1) l) n).getD (d+j) 0*((aq ((d+j:Nat):Int) d:Int):Rat)))){c:Nat}(hc:d+c<=n) :
  Fit 40000000 (sm g c):=by
 rcases Nat.eq_zero_or_pos c with h0 | h0
 ·subst h0;exact Fit.zero O
 obtain⟨b,hb⟩:∃b:Nat,11300000<=b:=⟨_,aY _⟩
 have hy:11+(10+7500*n+45+12*1500)<=b:=by
  have hx:7500*n<=11250000:=Nat.mul_le_mul_left 7500 hn;have hz:12*1500<=18000:=by decide
  generalize 12*1500=z at hz|-;generalize 7500*n=x at hx|-;omega
 obtain⟨h2,h5,hld,_⟩:=hr.facts;obtain⟨g0,g1⟩:=Sq h.xb (N:=1500) (by decide);obtain⟨gq,gr⟩:=g1 (E.length-1) O;obtain⟨Xd,hX0,hXQ,hbd⟩:=wN (h.Uj hr l) (N:=1500) O n hn;have hXp:Xd<=2^(14000*n):=Nat.le_trans hXQ (by rw[iA];exact eP gq n)
 have hSp:999*dk (E.length-1) 1500 (dX X) sM 101^n<=2^(10+7500*n):=by
  rw[Nat.pow_add,iA];exact cV (show 999<=2^10 by decide) (eP gr n)
 obtain⟨a',ha',he⟩:=MA (d:=d) hbd g hg;rw[he c (by rw[bE];exact hc)];have hfz:∀i:Nat,i<d+c->(aq (i:Int) d).natAbs<=1500:=fun i hi=>Dh hd;exact(IU (y:=b) hy (N:=1500) (c:=c) (B:=40000000) (p:=14000*n) (b:=10+7500*n) (e:=200) (f:=12) (g:=45) hX0 (iy r) ha' ht.bd O hfz O O (by decide) hXp hSp ht.d (by decide) (by decide)).1
def SmallX.Xa(h:SmallX E ER X XR)(hr:gT E X){l n:Nat}(hn:n<=1500):∀x∈aN (aV E X) (E.length-1) (aF E X) (aX (E.length-1) l) n,Fit 40000000 x:=by
 obtain⟨h2,h5,hld,_⟩:=hr.facts;obtain⟨g0,g1⟩:=Sq h.xb (N:=1500) (by decide);obtain⟨gq,gr⟩:=g1 (E.length-1) O;obtain⟨Xd,hX0,hXQ,hbd⟩:=wN (h.Uj hr l) (N:=1500) O n hn;have hXp:Xd<=2^(14000*n):=Nat.le_trans hXQ (by rw[iA];exact eP gq n)
 have hSp:999*dk (E.length-1) 1500 (dX X) sM 101^n<=2^(10+7500*n):=by
  rw[Nat.pow_add,iA];exact cV (show 999<=2^10 by decide) (eP gr n)
 intro x hx
 have key:∀B:Nat,33000000<=B->Fit B x:=fun B hB=>by
  refine(hbd x hx).fit hX0 (KS hXp) (KS (y:=(10+7500*n)+14000*n) ?_);rw[Nat.pow_add];exact cV hSp hXp
 exact key _ O
def SmallX.bL8(h:SmallX E ER X XR)(hr:gT E X){aB r:Rat}{st:Nat}{k:Int}(S:kq E X aB st r k)(hr0:0<=r){N:Nat}(h1:st<=N)(h2:N<=1500) :
  ae5 (aV E X) (E.length-1) (aF E X) aB st r N 200000000 40000000 211000000:=by
 have T:=h.ag8 hr S;have S':=S;have ha:r.abs=r:=by unfold Rat.abs;rw[if_pos hr0]
 rw[ha]at T;obtain⟨hl2,h5,hld,_⟩:=hr.facts;obtain⟨hh,hh62,rfl,hst,hW⟩:=eO S.hv
 refine⟨fun d hd=>T.yH N h1 O d hd,fun d hd=>(T.sh N h1 O d hd),T.fb,fun l hl d hd=>T.ft l hl N h1 O d hd,fun l hl x hx=>h.Xa hr O x hx,fun l hl d hd c hc=>?_,
  fun i hi d hd j hj=>(eW (by have:=Dh (i:=i) (d:=j);omega) (by have:=Dh (i:=i) (d:=j);omega)).mono O,rh hh,O,O,O,O,O,O⟩
 obtain⟨e1,e2⟩:=Tw r (aN (aV E X) (E.length-1) (aF E X) (aX (E.length-1) l) N) d c;rw[e1,e2];exact⟨h.aN2 hr S'.tb h2 hd _ (fun j=>(SP r _ j).1) O,h.aN2 hr S'.tb h2 hd _ (fun j=>(SP r _ j).2) O⟩
end
open Go Go.Proofs Ord
def an2{r t:Rat}(ht:Bo r t)(c:Nat):np (lJ r c) (t^c):=by
 have hp:=ht.pow c;unfold lJ;split
 ·rename_i h;subst h;rw[ej,ej];exact⟨cr,cr⟩
 ·split
  ·rename_i h0 h;refine⟨?_,hp.2⟩;obtain⟨k,rfl⟩:∃k,c=k+k:=⟨c/2,O⟩
   show 0<=t^(k+k);rw[gL];exact Nn _
  ·exact hp
def np.sp{p:Rat×Rat}{z:Rat}(h:np p z):Sp p z:=h
def Sp.bR1{p:Rat×Rat}{z:Rat}(h:Sp p z):np p z:=h
theorem Uq{r t:Rat}(ht:Bo r t)(a:List Rat)(d:Nat):∀c,np (lF r a d c) (sm (fun j=>co a (d+j)*fr (d+j) d*t^j) c)
 | 0=>⟨cr,cr⟩
 | c+1=>by
   have h:=np.add (Uq ht a d c) (Sp.bR1 (Sp.scale (a.getD (d+c) 0*((aq ((d+c:Nat):Int) d:Int):Rat)) (an2 ht c).sp));rw[sm];have e:co a (d+c)*fr (d+c) d*t^c=t^c*(a.getD (d+c) 0*((aq ((d+c:Nat):Int) d:Int):Rat)):=by unfold co fr;grind
   rw[e];exact h
def ak8{b aB t r:Rat}{n d:Nat}{a:Nat->Rat}(hb:0<=b)(h0:0<aB)(hd:d<=n)(htr:Bo r t)(h1:bh aB n d r<1)(ha:∀i,n<=i->Bo b (a i*aB^i)) :
  ∀N,n<=N->Bo (eI b aB n d r-eI b aB N d r) (fQ (cj d a) (N-d) t-fQ (cj d a) (n-d) t)/\bh aB N d r<1:=by
 have hr:=htr.nn;intro N hN
 induction N with
 | zero=>
   obtain rfl:n=0:=O
   refine⟨?_,h1⟩;rw[show ∀x:Rat,x-x=0 from fun x=>by grind,show ∀x:Rat,x-x=0 from fun x=>by grind];exact Bo.zero cr
 | succ N ih=>
   rcases Nat.lt_or_ge N n with h | h
   ·obtain rfl:n=N+1:=O
    refine⟨?_,h1⟩;rw[show ∀x:Rat,x-x=0 from fun x=>by grind,show ∀x:Rat,x-x=0 from fun x=>by grind];exact Bo.zero cr
   ·obtain⟨ih1,ih2⟩:=ih h;have hd':d<=N:=O
    refine⟨?_,(qf hb h0 hr ih2 hd').2⟩;have hs:=IQ hb h0 hr hd' ih2;have hp:=rn (n:=N) h0
    have hterm:Bo (b*Gj aB N d r) (cj d a (N-d)*t^(N-d)):=by
     have h2:=((ha N h).mul (Bo.self (uK N d))).mul (htr.pow (N-d));refine Bo.cancel (c:=aB^N) hp ?_
     have e1:aB^N*(b*Gj aB N d r)=b*fr N d*r^(N-d):=by
      unfold Gj;have:((aq N d:Int):Rat)*r^(N-d)/aB^N*aB^N=((aq N d:Int):Rat)*r^(N-d):=pH (by grind);rw[show aB^N*(b*(((aq N d:Int):Rat)*r^(N-d)/aB^N))=b*(((aq N d:Int):Rat)*r^(N-d)/aB^N*aB^N) by grind,this];unfold fr;grind
     have e2:aB^N*(cj d a (N-d)*t^(N-d))=a N*aB^N*fr N d*t^(N-d):=by
      unfold cj fr;rw[show N-d+d=N by omega];grind
     rw[e1,e2];exact h2
    have e3:fQ (cj d a) (N+1-d) t=fQ (cj d a) (N-d) t+cj d a (N-d)*t^(N-d):=by
     rw[show N+1-d=N-d+1 by omega];rfl
    rw[e3];have h4:=ih1.add hterm;rw[show fQ (cj d a) (N-d) t-fQ (cj d a) (n-d) t+cj d a (N-d)*t^(N-d)=fQ (cj d a) (N-d) t+cj d a (N-d)*t^(N-d)-fQ (cj d a) (n-d) t by grind]at h4;exact h4.mono (by grind)
section
variable{E:List (List Rat)}{c aB r:Rat}{st n:Nat}{k:Int}
def Mn{d:Nat}{t:Rat}(h:dm E c aB st t d k=some n):st<=n:=by
 unfold dm DC at h;have h1:=(kC (zN (Ps (aV E c) (E.length-1) (aF E c) aB st t.abs (qD k) d) (E.length-1)) (1501-st) st).1;split at h
 ·simp only[aI]at h;omega
 ·cases h
def ap5(w:Wv E c aB st)(h2:r+r<=aB)(hst:st<=n){t:Rat}(ht:Bo r t){d l N:Nat}(hd:d<2)(hN:n<=N) :
  np (cH (aV E c) (E.length-1) (aF E c) aB st r n d l) (fQ (cj d (aS (aV E c) (E.length-1) (aF E c) (aX (E.length-1) l))) (N-d) t):=by
 have R:=w.zg;have hs:=R.hs;obtain⟨hE2,_⟩:=w.reg.facts;obtain⟨hb0,hb⟩:=w.bound l;have hr0:=ht.nn;have hsh:=vu (n:=n) (d:=d) R.r0 hr0 h2;obtain⟨hp,hsN⟩:=ak8 hb0 R.r0 (show d<=n by omega) ht hsh (fun i hi=>hb i O) N hN;have htn:=SS (d:=d) hb0 R.r0 hr0 (show d<=N by omega) hsN;have hS:=Uq ht (aN (aV E c) (E.length-1) (aF E c) (aX (E.length-1) l) n) d (n-d)
 have e:sm (fun j=>co (aN (aV E c) (E.length-1) (aF E c) (aX (E.length-1) l) n) (d+j)*fr (d+j) d*t^j) (n-d)=fQ (cj d (aS (aV E c) (E.length-1) (aF E c) (aX (E.length-1) l))) (n-d) t:=aw fun j hj=>by
  rw[sH _ _ _ _];unfold cj fr;rw[Nat.add_comm d j]
 rw[e]at hS;unfold cH;have hO:AW (aV E c) (E.length-1) (aF E c) aB st r n d l=eI (jQ (aV E c) (E.length-1) (aF E c) aB st l) aB n d r:=rfl;rw[hO];obtain⟨p1,p2⟩:=hp;obtain⟨q1,q2⟩:=hS;generalize fQ (cj d (aS (aV E c) (E.length-1) (aF E c) (aX (E.length-1) l))) (N-d) t=z at *;generalize fQ (cj d (aS (aV E c) (E.length-1) (aF E c) (aX (E.length-1) l))) (n-d) t=y at *;generalize eI (jQ (aV E c) (E.length-1) (aF E c) aB st l) aB n d r=T at *;generalize eI (jQ (aV E c) (E.length-1) (aF E c) aB st l) aB N d r=T' at *
 constructor<;>dsimp only <;> grind
def Yw(w:Wv E c aB st)(h2:r+r<=aB)(hst:st<=n){a x:Rat}{Y:Nat->Rat}{V:VS}(ht:Bo r (x-c))(g:zO E (E.length-1) a Y c (fun i=>V.getD i (0,0))) :
  Oc E (E.length-1) 2 a Y c x (fun d=>kG (aV E c) (E.length-1) (aF E c) aB st r k V n d):=by
 have h:=Ug (V':=fun d=>kG (aV E c) (E.length-1) (aF E c) aB st r k V n d) (j:=2) (n:=n) (t:=x-c) w g (ht.mono (by have:=ht.nn;grind)) (fun z N hN hz d hd=>by
  have h1:=Ma (m:=E.length-1) (M:=fun l=>V.getD l (0,0)) (v:=cH (aV E c) (E.length-1) (aF E c) aB st r n d) (f:=z) (g:=fun l=>fQ (cj d (aS (aV E c) (E.length-1) (aF E c) (aX (E.length-1) l))) (N-d) (x-c))
   (fun l hl=>hz l hl) (fun l hl=>ap5 w h2 hst ht hd hN) (E.length-1) (aY _)
  unfold kG;rw[JZ];exact⟨cq (tQ _ _) h1.1,cq h1.2 (Dv _ _)⟩)
 rwa[show c+(x-c)=x by grind]at h
end
end Go.Sy
