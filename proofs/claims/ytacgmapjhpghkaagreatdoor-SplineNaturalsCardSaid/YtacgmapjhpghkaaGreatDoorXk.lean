/- Part. -/
import Derived.Test.YtacgmapjhpghkaaGreatDoorXj
set_option linter.all false
set_option maxHeartbeats 2000000
namespace Go.Sy
open Go Go.Proofs Tryz Ord
def br7:Tr:=gO 97 [(W 10 0),(G4 3)] [(some 4)] [44,45] [102,51] 51 false (Aq 77 18 18 1 18 2 18 3 19 19 1 19 2 19 3 43 46 (Aq 99 17 17 1 17 2 17 3 20 20 1 20 2 20 3 41 47 (ei 7 14 32 30 34 (.need (.strow 7 4 (.u 14 0) 0 [(.u 21 0),(.u 21 1),(.u 21 2),(.u 21 3)]) (.store 51 (tT 49) (tT 48)) 0 false (cT 6 1 3 19 (sk 0 23 22))))))
def bi7:Tr:=Zu 4 31 (dw 13 6 3 32 33 (Zu 4 36 (dw 15 6 3 37 38 (ei 7 16 32 35 39 (Qd 7 16 4 51 40 (OF 39 4 4 42 51 br7))))))
def bJ5:Tr:=mw 127 6 21 3 102 (.loop 1 [lV 9 0,lK 0] (fN 11 0 2 3 23 24 4 (aY 12 0 (mw 92 10 28 102 102 (cT 11 1 3 26 (lh 1 13 14))) bi7)))
def cd4:Tr:=XR 4 64 0 15 32 (Es 0 5 (jy 6 0 4 3 17 (aY 8 0 bJ5 (qV 4 7))))
def UN:af prog f142 dV [.v none,.v none,.v none,.v (some 4),.v none]=cd4:=aS
def UO:Tr:=.ret [(.one (.c (.sr 4 2)))]
def PB:Tr:=.need (.make [(.int .i64 (0)),(.slice none 0 0),(.int .i64 (0)),(.slice none 0 0)] 64 (.u 1 0) (.u 1 0)) (.makeSlice 32 (.tmp 27) (.tmp 27)) 32 false UO
def RD:Tr:=.need (.prim [(WK (4)),(W 0 0)] none) (.binOp .mul 3 (.const (I3 (4))) (.tmp 26) 3) 3 false PB
def aa1:aj prog 195 (fun _=>none) (aH [1,1,1,1,0] (aM f53)) [(11,.v none)] ([14].map ResultVar.tmp) none false=RD:=aS
def Iu:Tr:=.back 0 [(.w (W 30 0)),(.row 22),(.row 29)]
def Ku:Tr:=.need (.prim [(W 10 0),(WK (1))] none) (.binOp .add 3 (.tmp 32) (.const (I3 (1))) 3) 3 false Iu
def KX:Tr:=.need (.app 4 64 (some 12) none (some 28)) (.call ⟨.builtin .append,#[(.tmp 52),(.tmp 62)],#[32,32]⟩) 32 false Ku
def IY:Tr:=.need (.lit 4 [[(.u 24 0),(.u 24 1),(.u 24 2),(.u 24 3)],[(.u 27 0),(.u 27 1),(.u 27 2),(.u 27 3)]]) (.buildSlice 32 2 #[(0,(.tmp 56)),(1,(.tmp 61))]) 32 false KX
def IG:Tr:=.need (.prim [(W 26 0)] (some 4)) (.load 51 (.tmp 60)) 51 false IY
def JG:Tr:=.need (.prim [(W 1 0),(W 25 0)] none) (.indexAddr 32 (.tmp 57) (.tmp 59)) 0 false IG
def Jj:Tr:=.need (.prim [(W 10 0),(WK (1))] none) (.binOp .add 3 (.tmp 58) (.const (I3 (1))) 3) 3 false JG
def IL:Tr:=.need (.prim [(W 23 0)] (some 4)) (.load 51 (.tmp 55)) 51 false Jj
def Ni:Tr:=.need (.prim [(W 1 0),(W 10 0)] none) (.indexAddr 32 (.tmp 53) (.tmp 54)) 0 false IL
def Ih:Tr:=.need (.app 1 24 (some 11) none (some 21)) (.call ⟨.builtin .append,#[(.tmp 34),(.tmp 50)],#[177,177]⟩) 177 false Ni
def MM:Tr:=.need (.lit 1 [[(.u 16 0)],[(.u 20 0)]]) (.buildSlice 177 2 #[(0,(.tmp 41)),(1,(.tmp 49))]) 177 false Ih
def RK:Tr:=.need (.call 142 [(W 8 0),(W 10 0),(WK (0)),(.agg [(U 19 0),(U 19 1),(U 19 2),(U 19 3)]),(WK (1))] [none]) (.call ⟨.value (.func 142),#[(.tmp 42),(.tmp 43),(.const (I3 (0))),(.tmp 48),(.const (I3 (1)))],#[32,3,3,51,2]⟩) 32 true MM
def QF:Tr:=.need (.prim [(W 18 0)] (some 4)) (.load 51 (.tmp 47)) 51 false RK
def Rh:Tr:=.need (.prim [(W 0 0),(W 17 0)] none) (.indexAddr 32 (.tmp 44) (.tmp 46)) 0 false QF
def UL:Tr:=.need (.prim [(W 10 0),(WK (1))] none) (.binOp .add 3 (.tmp 45) (.const (I3 (1))) 3) 3 false Rh
def Qb:Tr:=.need (.call 142 [(W 8 0),(W 10 0),(WK (0)),(.agg [(U 15 0),(U 15 1),(U 15 2),(U 15 3)]),(WK (1))] [none]) (.call ⟨.value (.func 142),#[(.tmp 35),(.tmp 36),(.const (I3 (0))),(.tmp 40),(.const (I3 (1)))],#[32,3,3,51,2]⟩) 32 false UL
def Pz:Tr:=.need (.prim [(W 14 0)] (some 4)) (.load 51 (.tmp 39)) 51 false Qb
def RX:Tr:=.need (.prim [(W 0 0),(W 10 0)] none) (.indexAddr 32 (.tmp 37) (.tmp 38)) 0 false Pz
def Mi:Tr:=.back 1 [(.w (W 34 0)),(.row 30),(.row 33)]
def IH:Tr:=.need (.prim [(W 18 0),(WK (1))] none) (.binOp .add 3 (.tmp 71) (.const (I3 (1))) 3) 3 false Mi
def NU:Tr:=.need (.app 4 64 (some 20) none (some 32)) (.call ⟨.builtin .append,#[(.tmp 92),(.tmp 94)],#[32,32]⟩) 32 false IH
def JB:Tr:=.need (.lit 4 [[(.u 31 0),(.u 31 1),(.u 31 2),(.u 31 3)]]) (.buildSlice 32 1 #[(0,(.tmp 93))]) 32 false NU
def Ip:Tr:=.need (.call 39 [(WK (0))] [(some 4)]) (.call ⟨.value (.func 39),#[(.const (I3 (0)))],#[2]⟩) 51 true JB
def Jz:Tr:=.need (.app 1 24 (some 19) none (some 29)) (.call ⟨.builtin .append,#[(.tmp 73),(.tmp 90)],#[177,177]⟩) 177 false Ip
def KN:Tr:=.need (.lit 1 [[(.u 28 0)]]) (.buildSlice 177 1 #[(0,(.tmp 89))]) 177 false Jz
def LH:Tr:=.need (.call 142 [(W 24 0),(W 25 0),(W 18 0),(.agg [(U 27 0),(U 27 1),(U 27 2),(U 27 3)]),(WK (-1))] [none]) (.call ⟨.value (.func 142),#[(.tmp 81),(.tmp 83),(.tmp 84),(.tmp 88),(.const (I3 (-1)))],#[32,3,3,51,2]⟩) 32 true KN
def Jq:Tr:=.need (.prim [(W 26 0)] (some 4)) (.load 51 (.tmp 87)) 51 false LH
def NZ:Tr:=.need (.prim [(W 0 0),(W 14 0)] none) (.indexAddr 32 (.tmp 85) (.tmp 86)) 0 false Jq
def MS:Tr:=.need (.prim [(W 14 0),(WK (1))] none) (.binOp .sub 3 (.tmp 82) (.const (I3 (1))) 3) 3 false NZ
def HQ:Tr:=.need (.call 142 [(W 8 0),(W 14 0),(W 18 0),(.agg [(U 23 0),(U 23 1),(U 23 2),(U 23 3)]),(WK (1))] [none]) (.call ⟨.value (.func 142),#[(.tmp 74),(.tmp 75),(.tmp 76),(.tmp 80),(.const (I3 (1)))],#[32,3,3,51,2]⟩) 32 false MS
def Kw:Tr:=.need (.prim [(W 22 0)] (some 4)) (.load 51 (.tmp 79)) 51 false HQ
def NL:Tr:=.need (.prim [(W 0 0),(W 14 0)] none) (.indexAddr 32 (.tmp 77) (.tmp 78)) 0 false Kw
def Ml:Tr:=.back 0 [(.w (W 22 0)),(.row 19),(.row 20)]
def MI:Tr:=.need (.prim [(W 14 0),(WK (1))] none) (.binOp .add 3 (.tmp 67) (.const (I3 (1))) 3) 3 false Ml
def MU:Tr:=.split (.u 21 0) NL MI
def Md:Tr:=.need (.prim [(W 18 0),(WK (2))] none) (.binOp .leq 3 (.tmp 69) (.const (I3 (2))) 3) 4 false MU
def NX:Tr:=.loop 1 [(.w (WK (1))),(.row 15),(.row 16)] Md
def ME:Tr:=.ret [(W 0 0),(W 9 0),(W 5 0),(.one (.c (.sr 1 27))),(.one (.c (.sr 4 31)))]
def Nz:Tr:=.need (.app 4 64 (some 16) none (some 30)) (.call ⟨.builtin .append,#[(.tmp 140),(.tmp 143)],#[32,32]⟩) 32 false ME
def Kk:Tr:=.need (.lit 4 [[(.u 28 0),(.u 28 1),(.u 28 2),(.u 28 3)],[(.u 29 0),(.u 29 1),(.u 29 2),(.u 29 3)]]) (.buildSlice 32 2 #[(0,(.tmp 141)),(1,(.tmp 142))]) 32 false Nz
def IQ:Tr:=.need (.call 39 [(WK (0))] [(some 4)]) (.call ⟨.value (.func 39),#[(.const (I3 (0)))],#[2]⟩) 51 true Kk
def Lk:Tr:=.need (.call 39 [(WK (0))] [(some 4)]) (.call ⟨.value (.func 39),#[(.const (I3 (0)))],#[2]⟩) 51 false IQ
def Nh:Tr:=.need (.app 1 24 (some 15) none (some 26)) (.call ⟨.builtin .append,#[(.tmp 124),(.tmp 138)],#[177,177]⟩) 177 false Lk
def IJ:Tr:=.need (.lit 1 [[(.u 21 0)],[(.u 25 0)]]) (.buildSlice 177 2 #[(0,(.tmp 129)),(1,(.tmp 137))]) 177 false Nh
def Ns:Tr:=.need (.call 142 [(W 8 0),(W 22 0),(WK (2)),(.agg [(U 24 0),(U 24 1),(U 24 2),(U 24 3)]),(WK (1))] [none]) (.call ⟨.value (.func 142),#[(.tmp 130),(.tmp 132),(.const (I3 (2))),(.tmp 136),(.const (I3 (1)))],#[32,3,3,51,2]⟩) 32 true IJ
def Lj:Tr:=.need (.prim [(W 23 0)] (some 4)) (.load 51 (.tmp 135)) 51 false Ns
def ML:Tr:=.need (.prim [(W 0 0),(W 5 0)] none) (.indexAddr 32 (.tmp 133) (.tmp 134)) 0 false Lj
def Lt:Tr:=.need (.prim [(W 5 0),(WK (1))] none) (.binOp .sub 3 (.tmp 131) (.const (I3 (1))) 3) 3 false ML
def Mu:Tr:=.need (.call 142 [(W 8 0),(WK (0)),(WK (2)),(.agg [(U 20 0),(U 20 1),(U 20 2),(U 20 3)]),(WK (1))] [none]) (.call ⟨.value (.func 142),#[(.tmp 125),(.const (I3 (0))),(.const (I3 (2))),(.tmp 128),(.const (I3 (1)))],#[32,3,3,51,2]⟩) 32 false Lt
def Le:Tr:=.need (.prim [(W 19 0)] (some 4)) (.load 51 (.tmp 127)) 51 false Mu
def Kv:Tr:=.need (.prim [(W 0 0),(WK (0))] none) (.indexAddr 32 (.tmp 126) (.const (I3 (0)))) 0 false Le
def LO:Tr:=.ret [(W 0 0),(W 9 0),(W 5 0),(.one (.c (.sr 1 28))),(.one (.c (.sr 4 30)))]
def JQ:Tr:=.need (.app 4 64 (some 16) none (some 29)) (.call ⟨.builtin .append,#[(.tmp 163),(.tmp 166)],#[32,32]⟩) 32 false LO
def Kl:Tr:=.need (.lit 4 [[(.u 3 0),(.u 3 1),(.u 3 2),(.u 3 3)],[(.u 4 0),(.u 4 1),(.u 4 2),(.u 4 3)]]) (.buildSlice 32 2 #[(0,(.tmp 164)),(1,(.tmp 165))]) 32 false JQ
def Ky:Tr:=.need (.app 1 24 (some 15) none (some 27)) (.call ⟨.builtin .append,#[(.tmp 147),(.tmp 161)],#[177,177]⟩) 177 false Kl
def Jb:Tr:=.need (.lit 1 [[(.u 22 0)],[(.u 26 0)]]) (.buildSlice 177 2 #[(0,(.tmp 152)),(1,(.tmp 160))]) 177 false Ky
def Lm:Tr:=.need (.call 142 [(W 8 0),(W 23 0),(WK (1)),(.agg [(U 25 0),(U 25 1),(U 25 2),(U 25 3)]),(WK (1))] [none]) (.call ⟨.value (.func 142),#[(.tmp 153),(.tmp 155),(.const (I3 (1))),(.tmp 159),(.const (I3 (1)))],#[32,3,3,51,2]⟩) 32 true Jb
def IM:Tr:=.need (.prim [(W 24 0)] (some 4)) (.load 51 (.tmp 158)) 51 false Lm
def La:Tr:=.need (.prim [(W 0 0),(W 5 0)] none) (.indexAddr 32 (.tmp 156) (.tmp 157)) 0 false IM
def Jt:Tr:=.need (.prim [(W 5 0),(WK (1))] none) (.binOp .sub 3 (.tmp 154) (.const (I3 (1))) 3) 3 false La
def Lz:Tr:=.need (.call 142 [(W 8 0),(WK (0)),(WK (1)),(.agg [(U 21 0),(U 21 1),(U 21 2),(U 21 3)]),(WK (1))] [none]) (.call ⟨.value (.func 142),#[(.tmp 148),(.const (I3 (0))),(.const (I3 (1))),(.tmp 151),(.const (I3 (1)))],#[32,3,3,51,2]⟩) 32 false Jt
def MQ:Tr:=.need (.prim [(W 20 0)] (some 4)) (.load 51 (.tmp 150)) 51 false Lz
def Of:Tr:=.need (.prim [(W 0 0),(WK (0))] none) (.indexAddr 32 (.tmp 149) (.const (I3 (0)))) 0 false MQ
def MR:Tr:=.back 0 [(.w (W 36 0)),(.row 32),(.row 35)]
def MP:Tr:=.need (.prim [(W 20 0),(WK (1))] none) (.binOp .add 3 (.tmp 99) (.const (I3 (1))) 3) 3 false MR
def Ix:Tr:=.need (.app 4 64 (some 22) none (some 34)) (.call ⟨.builtin .append,#[(.tmp 118),(.tmp 120)],#[32,32]⟩) 32 false MP
def Ny:Tr:=.need (.lit 4 [[(.u 33 0),(.u 33 1),(.u 33 2),(.u 33 3)]]) (.buildSlice 32 1 #[(0,(.tmp 119))]) 32 false Ix
def Mz:Tr:=.need (.call 39 [(WK (0))] [(some 4)]) (.call ⟨.value (.func 39),#[(.const (I3 (0)))],#[2]⟩) 51 true Ny
def Iq:Tr:=.need (.app 1 24 (some 21) none (some 31)) (.call ⟨.builtin .append,#[(.tmp 101),(.tmp 116)],#[177,177]⟩) 177 false Mz
def JS:Tr:=.need (.lit 1 [[(.u 30 0)]]) (.buildSlice 177 1 #[(0,(.tmp 115))]) 177 false Iq
def IB:Tr:=.need (.call 142 [(W 26 0),(W 27 0),(W 20 0),(.agg [(U 29 0),(U 29 1),(U 29 2),(U 29 3)]),(WK (-1))] [none]) (.call ⟨.value (.func 142),#[(.tmp 107),(.tmp 109),(.tmp 110),(.tmp 114),(.const (I3 (-1)))],#[32,3,3,51,2]⟩) 32 true JS
def Nf:Tr:=.need (.prim [(W 28 0)] (some 4)) (.load 51 (.tmp 113)) 51 false IB
def LK:Tr:=.need (.prim [(W 0 0),(W 5 0)] none) (.indexAddr 32 (.tmp 111) (.tmp 112)) 0 false Nf
def Mj:Tr:=.need (.prim [(W 5 0),(WK (1))] none) (.binOp .sub 3 (.tmp 108) (.const (I3 (1))) 3) 3 false LK
def Kj:Tr:=.need (.call 142 [(W 8 0),(WK (0)),(W 20 0),(.agg [(U 25 0),(U 25 1),(U 25 2),(U 25 3)]),(WK (1))] [none]) (.call ⟨.value (.func 142),#[(.tmp 102),(.const (I3 (0))),(.tmp 103),(.tmp 106),(.const (I3 (1)))],#[32,3,3,51,2]⟩) 32 false Mj
def Kt:Tr:=.need (.prim [(W 24 0)] (some 4)) (.load 51 (.tmp 105)) 51 false Kj
def Ji:Tr:=.need (.prim [(W 0 0),(WK (0))] none) (.indexAddr 32 (.tmp 104) (.const (I3 (0)))) 0 false Kt
def Oa:Tr:=.ret [(W 0 0),(W 9 0),(W 5 0),(.one (.c (.sr 1 21))),(.one (.c (.sr 4 22)))]
def NK:Tr:=.split (.u 23 0) Ji Oa
def Ks:Tr:=.need (.prim [(W 20 0),(WK (2))] none) (.binOp .leq 3 (.tmp 97) (.const (I3 (2))) 3) 4 false NK
def Jc:Tr:=.loop 0 [(.w (WK (1))),(.row 15),(.row 16)] Ks
def IX:Tr:=.split (.u 19 0) Of Jc
def Ib:Tr:=.need (.prim [(W 2 0),(WK (1))] none) (.binOp .eql 3 (.tmp 96) (.const (I3 (1))) 3) 4 false IX
def LF:Tr:=.split (.u 18 0) Kv Ib
def JM:Tr:=.need (.prim [(W 2 0),(WK (0))] none) (.binOp .eql 3 (.tmp 96) (.const (I3 (0))) 3) 4 false LF
def Ke:Tr:=.split (.u 17 0) NX JM
def LI:Tr:=.need (.prim [(W 14 0),(W 5 0)] none) (.binOp .lss 3 (.tmp 64) (.tmp 65) 3) 4 false Ke
def Jo:Tr:=.loop 0 [(.w (WK (1))),(.row 11),(.row 12)] LI
def RL:Tr:=.split (.u 13 0) RX Jo
def RS:Tr:=.need (.prim [(W 10 0),(W 5 0)] none) (.binOp .lss 3 (.tmp 29) (.tmp 30) 3) 4 false RL
def QL:Tr:=.loop 0 [(.w (WK (0))),.nilrow,.nilrow] RS
def Zk:aj prog 195 (fun _=>none) (aH [1,1,1,1,1] (aM f53)) [(0,.v none),(1,.v none),(2,.v none),(8,.ref 4),(9,.ref 4),(11,.v none),(12,.k ((.slice none 0 0))),(13,.k ((.slice none 0 0))),(14,.v none),(10,.v none)] ([0,10,11,12,13].map ResultVar.tmp) (some 2) false=QL:=aS
def Ly:Tr:=.back 0 [(.w (W 18 0)),(.w (W 8 0)),(.row 17)]
def LM:Tr:=.need (.prim [(W 7 0),(WK (1))] none) (.binOp .add 3 (.tmp 179) (.const (I3 (1))) 3) 3 false Ly
def Mm:Tr:=.need (.app 1 24 (some 9) none (some 16)) (.call ⟨.builtin .append,#[(.tmp 182),(.tmp 191)],#[33,33]⟩) 33 false LM
def Rg:Tr:=.need (.lit 1 [[(.u 15 0)]]) (.buildSlice 33 1 #[(0,(.tmp 190))]) 33 false Mm
def TH:Tr:=.need (.call 126 [(W 14 0)] [none]) (.call ⟨.value (.func 126),#[(.tmp 189)],#[102]⟩) 102 true Rg
def TM:Tr:=.need (.prim [(W 5 0),(W 11 0),(W 13 0)] none) (.slice 32 (.tmp 183) (some (.tmp 185)) (some (.tmp 188)) none) 32 false TH
def TI:Tr:=.need (.prim [(W 12 0),(WK (4))] none) (.binOp .add 3 (.tmp 187) (.const (I3 (4))) 3) 3 false TM
def Tu:Tr:=.need (.prim [(WK (4)),(W 7 0)] none) (.binOp .mul 3 (.const (I3 (4))) (.tmp 186) 3) 3 false TI
def RO:Tr:=.need (.prim [(WK (4)),(W 7 0)] none) (.binOp .mul 3 (.const (I3 (4))) (.tmp 184) 3) 3 false Tu
def II:Tr:=.ret [(W 4 0),(.one (.ref 0 [(.u 8 0),(.sr 1 9)]))]
def Su:Tr:=.split (.u 10 0) RO II
def PA:Tr:=.need (.prim [(W 7 0),(W 1 0)] none) (.binOp .lss 3 (.tmp 176) (.tmp 177) 3) 4 false Su
def Rr:Tr:=.loop 0 [(.w (WK (0))),(.w (W 0 0)),.nilrow] PA
def QU:Tr:=.need (.call 128 [(W 2 0),(W 3 0)] [none,none]) (.call ⟨.value (.func 128),#[(.tmp 169),(.tmp 170)],#[177,32]⟩) 120 false Rr
def ab9:aj prog 195 (fun _=>none) (aH [1,1,1,1,1,1,1,1] (aM f53)) [(0,.v none),(11,.v none),(12,.v none),(13,.v none),(10,.v none)] ([10,21].map ResultVar.tmp) (some 2) false=QU:=aS
def RC:Tr:=.retr [] 2
def Rw:Tr:=.need (.strow 1 2 (.k (.int .i64 (0))) 0 [(.u 0 0),(.u 0 1)]) (.store 35 (.tmp 10) (.tmp 194)) 0 false RC
def ZS:vB prog 195 (fun _=>none) (aH [1,1,1,1,1,1,1,1,1,1,1,0] (aM f53)) [(21,.ref 2)] 10 35 2 0 ([].map ResultVar.tmp)=Rw:=aS
def Zq{E sz b T ty:Nat}{x y z:j6}{k k':IntKind}{l h:Nat}{ts:List (List aC)}(he:dZ prog T=some (E,sz,b))(h1:l<=h)(h2:h<=ts.length):ao prog (.slice T x (some y) (some z) none) ty [.one (.slice sz ts),.one (.int k (l:Int)),.one (.int k' (h:Int))] (.one (.slice sz ((ts.take h).drop l))):=by
 intro M w ρ o ho _ hr;have hx:(aC.slice sz ts).rep M w (ρ x):=hr.1;have hy:ρ y=.int k l/\_:=hr.2.1;have hz:ρ z=.int k' h/\_:=hr.2.2.1;have hx':=hx;obtain⟨ad,cap,hv,hc,hm,_⟩:=hx;rw[hv]at hx';obtain⟨ie,hu,hie,hies,_⟩:=br he;have:=ru (l:=l) (h:=h) (m:=cap) hx' h1 h2 O (ah _);refine⟨_,?_,this⟩;have i1:(0:Int)<=(l:Int)/\(l:Int)<=(h:Int):=⟨O,O⟩
 have i2:(0:Int)<=(h:Int)/\(h:Int)<=(cap:Int):=⟨O,O⟩
 have i3:h<=cap:=O
 simp[execOp,ho,hv,hy.1,hz.1,Instr.sliceAt,Instr.slice,Instr.sliceBounds,Instr.sliceBound,asIntOf,er hu,sizeOf,typeInfo,hie,hies,i1,i2,i3,h1]
def av3{E sz b T ty:Nat}{α:Type}{f:α->List aC}{ds:List α}{x y z:j6}{k k':IntKind}{l h:Nat}(he:dZ prog T=some (E,sz,b))(h1:l<=h:=by omega)(h2:h<=ds.length:=by omega):ao prog (.slice T x (some y) (some z) none) ty [.one (.slice sz (ds.map f)),.one (.int k (l:Int)),.one (.int k' (h:Int))] (.one (.slice sz (((ds.take h).drop l).map f))):=by
 have:=Zq (x:=x) (y:=y) (z:=z) (ty:=ty) (k:=k) (k':=k') (ts:=ds.map f) he h1 (by rw[aL];exact h2);rw[<-kD,<-mX]at this;exact this
def Ss(row:List RQ)(i r:Nat)(x:RQ)(sg:Int):Nat->List RQ
 | 0=>row
 | k+1=>(Ss row i r x sg k).set (4*i+k) (.of (((Ss row i r x sg k).getD (4*i+k) RQ.nil).q+(RQ.of ((RQ.of ((sg:Int):Rat)).q*(hmE x r k).q)).q))
theorem wS(row:List RQ)(i r:Nat)(x:RQ)(sg:Int):∀k,(Ss row i r x sg k).length=row.length
 | 0=>rfl
 | k+1=>by rw[Ss,al,wS row i r x sg k]
def fV(l:List RQ)(i:Nat):(l.map RQ.q).getD i 0=(l.getD i RQ.nil).q:=by
 rw[fI,fI,dR];cases l[i]? <;> rfl
theorem yP(row:List RQ)(i r:Nat)(x:RQ)(sg:Int):∀k,(Ss row i r x sg k).map RQ.q=wK (row.map RQ.q) i r x.q ((sg:Int):Rat) k
 | 0=>rfl
 | k+1=>by
   rw[Ss,pR,yP row i r x sg k,wK,<-yP row i r x sg k,fV,aH9];rfl
theorem aE1(row:List RQ)(i r:Nat)(x:RQ)(sg:Int){j:Nat}:∀k,4*i+k<=j->(Ss row i r x sg k).getD j RQ.nil=row.getD j RQ.nil
 | 0,_=>rfl
 | k+1,h=>by
   rw[Ss,fI,np O,<-fI,aE1 row i r x sg k O]
def Oh{A:Nat}{l:List RQ}(hA:1<=A)(h:∀a∈l,Fit A a.q)(i:Nat):Fit A (l.getD i RQ.nil).q:=by
 rw[fI];cases hq:l[i]? with
 | none=>exact Fit.zero hA
 | some x=>exact h x (dc hq)
def xU(row:List RQ)(x:RQ)(sg:Int)(i r A:Nat)(hr:r<=2)(hx:Fit 40 x.q)(hg:Fit 1 ((sg:Int):Rat))(hf:∀a∈row,Fit A a.q)(hl:4*i+4<=row.length:=by omega)(hs:row.length<=1000:=by omega)(hg1:-1<=sg:=by omega)(hg2:sg<=1:=by omega)(hA1:1<=A:=by omega)(hA:A<=1000:=by omega):aX prog 142 [(.one (sR row):aQ),(.one (.int .i64 (i:Int)):aQ),(.one (.int .i64 (r:Int)):aQ),(jl x:aQ),(.one (.int .i64 sg):aQ)] (.ret [.one (sR (Ss row i r x sg 4))]):=by
 refine eD func142 UN ?_;refine qc (ts:=[]) (us:=rR row) (vs:=rR row) rfl (.inr aC.Sub.same) rfl (by rw[aL];omega) (by rw[aL];simp only[maxLen];omega) ?_;refine bZ {k:Nat // k<=4} (fun g=>[.one (.int .i64 (g.1:Int)),.rows (rR (Ss row i r x sg g.1))]) (fun g=>4-g.1) ⟨0,dM _⟩ ai.rfl (fun _=>rfl) ?_;rintro⟨k,hk⟩;have hcl:=wS row i r x sg k;dsimp only[aU,aV]at hk|-;apply vn bO;refine l4 ?_ ?_<;>intro h3
 .have hk':k<4:=O
  apply aA (Wc k);refine bZ {s:Nat // s<=r} (fun g=>[.one (sR (IA (yf k) g.1)),.one (.int .i64 (g.1:Int))]) (fun g=>r-g.1) ⟨0,dM _⟩ ai.rfl (fun _=>rfl) ?_;rintro⟨s,hs'⟩;have hsl2:=aT9 (yf k) s;have hsf:=aJ4 (A:=1) (p:=yf k) O (by rw[Xp];omega) (aX0 k) s;rw[Xp]at hsl2;dsimp only[aU,aV]at hs' |-;apply vn bO;refine l4 ?_ ?_<;>intro h7
  .apply aA (aA2 (IA (yf k) s) (1+12*s) hsf);apply vn (aB O O);dsimp only[aU,aV];exact aq rfl ⟨⟨s+1,O⟩,ai.rfl,by show r-(s+1)<r-s;omega⟩
  obtain rfl:s=r:=O
  have fh:Fit 130 (hmE x s k).q:=by rw[aH9];exact Ys hx hr hk'
  have fc:Fit A ((Ss row i s x sg k).getD (4*i+k) RQ.nil).q:=by rw[aE1 _ _ _ _ _ _ (ah _)];exact Oh hA1 hf _
  apply vn lD;apply vn (aB O O);apply vn lD;apply vn (aB O O);refine bo (xs:=Ss row i s x sg k) (f:=rC) rfl rfl O O ?_;refine Nv (xs:=Ss row i s x sg k) (f:=rC) (m:=4*i+k) rfl rfl O O (vM O) (.inl rfl) rfl ?_;dsimp only[aU,aV,mkS,List.drop,List.take];apply aA (sP sg);apply aA (bp6 (IA (yf k) s) x 100 (fun a ha=>(hsf a ha).mono O) (hx.mono O));apply aA (zO (.of ((sg:Int):Rat)) (hmE x s k) 1 130 hg fh);apply aA (aa3 ((Ss row i s x sg k).getD (4*i+k) RQ.nil) (.of ((RQ.of ((sg:Int):Rat)).q*(hmE x s k).q)) A 131 fc (hg.mul fh));refine bo (xs:=Ss row i s x sg k) (f:=rC) rfl rfl O O ?_;refine gL (xs:=Ss row i s x sg k) (f:=rC) (m:=4*i+k) (d':=.of (((Ss row i s x sg k).getD (4*i+k) RQ.nil).q+(RQ.of ((RQ.of ((sg:Int):Rat)).q*(hmE x s k).q)).q)) rfl rfl O O (vM O) rfl ?_;apply vn (aB O O);dsimp only[aU,aV];exact aq rfl ⟨⟨k+1,O⟩,ai.rfl,by show 4-(k+1)<4-k;omega⟩
 obtain rfl:k=4:=O
 exact aR
abbrev zR(m:Nat):List RQ:=List.replicate (4*m) RQ.nil
def DJ(m:Nat):(zR m).length=4*m:=dU
def bb0(m:Nat):∀a∈zR m,Fit 1 a.q:=fun a ha=>by rw[(kL.1 ha).2];exact Fit.zero O
def cg3(m:Nat)(hm:m<=200):vc prog (fun o=>bD o (.ret [.one (sR (zR m))])) (aj prog 195 (fun _=>none) (aH [1,1,1,1,0] (aM f53)) [(11,.v none)] ([14].map ResultVar.tmp) none false) ([.v (.one (.int .i64 (m:Int)))].map In.env) []:=by
 rw[aa1];dsimp only[List.map,In.env,aU,aV];apply vn lD;dsimp only[aU,aV];rw[show(4*(m:Int))=((4*m:Nat):Int) by omega];refine tf (n:=4*m) (m:=4*m) (us:=List.replicate (4*m) [aC.exact (.int .i64 0),.exact (.slice none 0 0),.exact (.int .i64 0),.exact (.slice none 0 0)]) rfl rfl rfl (ah _) O (by simp only[maxLen];omega) ?_;dsimp only[aU,aV];refine gj ⟨GI ?_,trivial⟩;rw[rR,qQ];exact tZ cq5 _
section
variable(x y:List RQ)(m:Nat)
def xr(x:List RQ)(i:Nat):RQ:=x.getD i RQ.nil
def jO(i r:Nat)(t:RQ):List RQ:=Ss (zR m) i r t 1 4
def vg(i j r:Nat)(s t:RQ):List RQ:=Ss (jO m i r s) j r t (-1) 4
def aP:Nat->List (List RQ)
 | 0=>[]
 | i+1=>aP i++[jO m i 0 (xr x i),jO m i 0 (xr x (i+1))]
def bP:Nat->List RQ
 | 0=>[]
 | i+1=>bP i++[xr y i,xr y (i+1)]
def aK(A:List (List RQ))(i j:Nat)(s t:RQ)(n:Nat):List (List RQ):=A++(List.range n).map fun r=>vg m i j (r+1) s t
def bK(B:List RQ)(n:Nat):List RQ:=B++List.replicate n (.of ((0:Int):Rat))
def aJ:Nat->List (List RQ)
 | 0=>aP x m m
 | i+1=>aK m (aJ i) (i+1) i (xr x (i+1)) (xr x (i+1)) 2
def bJ:Nat->List RQ
 | 0=>bP y m
 | i+1=>bK (bJ i) 2
def aE(k:Nat):List (List RQ):=match k with
 | 0=>aJ x m (m-1)++[jO m 0 2 (xr x 0),jO m (m-1) 2 (xr x m)]
 | 1=>aJ x m (m-1)++[jO m 0 1 (xr x 0),jO m (m-1) 1 (xr x m)]
 | _=>aK m (aJ x m (m-1)) 0 (m-1) (xr x 0) (xr x m) 2
def bE(k:Nat)(a b:RQ):List RQ:=match k with
 | 0=>bJ y m (m-1)++[.of ((0:Int):Rat),.of ((0:Int):Rat)]
 | 1=>bJ y m (m-1)++[a,b]
 | _=>bK (bJ y m (m-1)) 2
theorem zK:∀i,(aP x m i).length=2*i
 | 0=>rfl
 | i+1=>by rw[aP,cF,zK i];show _+2=_;omega
theorem yw:∀i,(bP y i).length=2*i
 | 0=>rfl
 | i+1=>by rw[bP,cF,yw i];show _+2=_;omega
def UM(A:List (List RQ))(i j:Nat)(s t:RQ)(n:Nat):(aK m A i j s t n).length=A.length+n:=by rw[aK,cF,aL,nL]
def aj0(A:List (List RQ))(i j:Nat)(s t:RQ)(n:Nat):aK m A i j s t n++[vg m i j (n+1) s t]=aK m A i j s t (n+1):=by rw[aK,aK,dy,gy,cG];rfl
def cz8(A:List (List RQ))(i j:Nat)(s t:RQ):aK m A i j s t 0=A:=cB _
def ck9(B:List RQ):bK B 0=B:=cB _
def Sz(B:List RQ)(n:Nat):(bK B n).length=B.length+n:=by rw[bK,cF,dU]
def ar4(B:List RQ)(n:Nat):bK B n++[.of ((0:Int):Rat)]=bK B (n+1):=by rw[bK,bK,dy,am9]
theorem qb:∀i,(aJ x m i).length=2*m+2*i
 | 0=>zK x m m
 | i+1=>by rw[aJ,UM,qb i];omega
theorem qY:∀i,(bJ y m i).length=2*m+2*i
 | 0=>yw y m
 | i+1=>by rw[bJ,Sz,qY i];omega
end
def ph{x:List RQ}{i:Nat}(h:i<x.length):x[i]?=some (xr x i):=vM h
def ak4:Fit 1 ((1:Int):Rat):=CW (ah 1)
def aQ0:Fit 1 ((-1:Int):Rat):=Fit.int (n:=-1) O b7
def bw6{m i r:Nat}{t:RQ}(hi:i<m)(hr:r<=2)(ht:Fit 40 t.q):(jO m i r t).length=4*m/\∀a∈jO m i r t,Fit 133 a.q:=by
 refine⟨by rw[jO,wS,DJ],fun a ha=>?_⟩;have h:=Tg (row:=(zR m).map RQ.q) (i:=i) (r:=r) (A:=1) (t:=t.q) (sg:=((1:Int):Rat)) (by rw[aL,DJ];omega) O (fun a ha=>by obtain⟨b,hb,rfl⟩:=dm.1 ha;exact bb0 m b hb) ht ak4 hr a.q;rw[<-yP]at h;exact h (sH ha)
def zn{m i r:Nat}{t:RQ}(hm:m<=200)(hi:i<m)(hr:r<=2)(ht:Fit 40 t.q):aX prog 142 [.one (sR (zR m)),.one (.int .i64 (i:Int)),.one (.int .i64 (r:Int)),jl t,.one (.int .i64 1)] (.ret [.one (sR (jO m i r t))]):=
 xU (zR m) t 1 i r 1 hr ht ak4 (bb0 m) (by rw[DJ];omega) (by rw[DJ];omega)
def bz2{m i j r:Nat}{s t:RQ}(hm:m<=200)(hi:i<m)(hj:j<m)(hr:r<=2)(hs:Fit 40 s.q)(ht:Fit 40 t.q):aX prog 142 [.one (sR (jO m i r s)),.one (.int .i64 (j:Int)),.one (.int .i64 (r:Int)),jl t,.one (.int .i64 (-1))] (.ret [.one (sR (vg m i j r s t))]):=by
 obtain⟨h1,h2⟩:=bw6 (m:=m) hi hr hs;exact xU (jO m i r s) t (-1) j r 133 hr ht aQ0 h2
def ce7(x y:List RQ)(a b:RQ)(p:Value)(m k:Nat)(hm1:1<=m)(hm:m<=200)(hk:k<=2)(hx:x.length=m+1)(hy:y.length=m+1)(fx:∀q∈x,Fit 40 q.q):vc prog (fun o=>bD o (.ret [.one (sR x),.one (.exact p),.one (.int .i64 (m:Int)),.one (eR (aE x m k)),.one (sR (bE y m k a b))])) (aj prog 195 (fun _=>none) (aH [1,1,1,1,1] (aM f53)) [(0,.v none),(1,.v none),(2,.v none),(8,.ref 4),(9,.ref 4),(11,.v none),(12,.k ((.slice none 0 0))),(13,.k ((.slice none 0 0))),(14,.v none),(10,.v none)] ([0,10,11,12,13].map ResultVar.tmp) (some 2) false) ([.v (.one (sR x)),.v (.one (sR y)),.v (.one (.int .i64 (k:Int))),.ref (rC a),.ref (rC b),.v (.one (.int .i64 (m:Int))),.v (.one (.exact (.slice none 0 0))),.v (.one (.exact (.slice none 0 0))),.v (.one (sR (zR m))),.v (.one (.exact p))].map In.env) []:=by
 rw[Zk];dsimp only[List.map,In.env,aU,aV];have gx:=fun i=>Oh (A:=40) O fx i;refine bZ {i:Nat // i<=m} (fun g=>[.one (.int .i64 (g.1:Int)),.rows ((aP x m g.1).map cR),.rows (rR (bP y g.1))]) (fun g=>m-g.1) ⟨0,dM _⟩ ai.rfl (fun _=>rfl) ?_;rintro⟨i,hi⟩;have la:=zK x m i;have lb:=yw y i;dsimp only[aU,aV]at hi|-;apply vn bO;refine l4 ?_ ?_<;>intro h2
 .have hi':i<m:=O
  apply vn (aN (f:=rC) jK (m:=i) O (bI i) (ph O));apply vn (ab nH bY aT (.inl rfl));apply aA (zn (r:=0) O hi' O (gx i));apply vn (aB O O);apply vn (aN (f:=rC) jK (m:=i+1) O O (ph O));apply vn (ab nH bY aT (.inl rfl));apply aA (zn (r:=0) O hi' O (gx (i+1)));dsimp only[aU,aV];apply et (us:=[cR (jO m i 0 (xr x i)),cR (jO m i 0 (xr x (i+1)))]);refine qc (ts:=(aP x m i).map cR) (us:=[cR (jO m i 0 (xr x i)),cR (jO m i 0 (xr x (i+1)))]) (vs:=(aP x m (i+1)).map cR) rfl rfl (by rw[aP,cG];rfl) (by rw[aL,zK];omega) (by rw[aL,zK];simp only[maxLen];omega) ?_;apply vn (aN (f:=rC) jK (m:=i) O (bI i) (ph O));apply vn (ab nH bY aT (.inl rfl));apply vn (aB O O);apply vn (aN (f:=rC) jK (m:=i+1) O O (ph O));apply vn (ab nH bY aT (.inl rfl));apply et (us:=[rC (xr y i),rC (xr y (i+1))]);dsimp only[aU,aV];refine qc (ts:=rR (bP y i)) (us:=[rC (xr y i),rC (xr y (i+1))]) (vs:=rR (bP y (i+1))) rfl rfl (by show _=(bP y (i+1)).map rC;rw[bP,cG];rfl) (by rw[aL,yw];omega) (by rw[aL,yw];simp only[maxLen];omega) ?_;apply vn (aB O O);dsimp only[aU,aV];exact aq rfl ⟨⟨i+1,O⟩,ai.rfl,by show m-(i+1)<m-i;omega⟩
 obtain rfl:i=m:=O
 refine bZ {j:Nat // j+1<=i} (fun g=>[.one (.int .i64 ((g.1:Int)+1)),.rows ((aJ x i g.1).map cR),.rows (rR (bJ y i g.1))]) (fun g=>i-g.1) ⟨0,hm1⟩ ai.rfl (fun _=>rfl) ?_;rintro⟨j,hj⟩;have la:=qb x i j;have lb:=qY y i j;dsimp only[aU,aV]at hj|-;apply vn bO;refine l4 ?_ ?_<;>intro h23
 .have hj':j+1<i:=O
  refine bZ {s:Nat // s<=2} (fun g=>[.one (.int .i64 ((g.1:Int)+1)),.rows ((aK i (aJ x i j) (j+1) j (xr x (j+1)) (xr x (j+1)) g.1).map cR),.rows (rR (bK (bJ y i j) g.1))]) (fun g=>2-g.1) ⟨0,dM _⟩ (by
   dsimp only;rw[cz8,ck9];exact ai.rfl) (fun _=>rfl) ?_
  rintro⟨s,hs⟩;dsimp only[aU,aV]at hs|-;have la2:=UM i (aJ x i j) (j+1) j (xr x (j+1)) (xr x (j+1)) s;have lb2:=Sz (bJ y i j) s;apply vn nR;refine l4 ?_ ?_<;>intro h26
  .have hs':s<2:=O
   apply vn (aN (f:=rC) jK (m:=j+1) O O (ph O));apply vn (ab nH bY aT (.inl rfl));apply aA (zn (i:=j+1) (r:=s+1) O O O (gx (j+1)));apply vn (aI O O);dsimp only[aU,aV];rw[show((j:Int)+1-1)=(j:Int) by omega];apply vn (aN (f:=rC) jK (m:=j+1) O O (ph O));apply vn (ab nH bY aT (.inl rfl));apply aA (bz2 (i:=j+1) (j:=j) (r:=s+1) O O O O (gx (j+1)) (gx (j+1)));apply et (us:=[cR (vg i (j+1) j (s+1) (xr x (j+1)) (xr x (j+1)))]);refine kq (xs:=aK i (aJ x i j) (j+1) j (xr x (j+1)) (xr x (j+1)) s) (x:=vg i (j+1) j (s+1) (xr x (j+1)) (xr x (j+1))) (f:=cR) rfl rfl O (by simp only[maxLen];omega) ?_;rw[aj0];apply aA (sP 0);apply et (us:=[rC (.of ((0:Int):Rat))]);refine kq (xs:=bK (bJ y i j) s) (x:=RQ.of ((0:Int):Rat)) (f:=rC) rfl rfl O (by simp only[maxLen];omega) ?_;rw[ar4];dsimp only[aU,aV];apply vn (aB O O);dsimp only[aU,aV];exact aq rfl ⟨⟨s+1,O⟩,ai.rfl,by show 2-(s+1)<2-s;omega⟩
  obtain rfl:s=2:=O
  apply vn (aB O O);dsimp only[aU,aV];exact aq rfl ⟨⟨j+1,O⟩,ai.rfl,by show i-(j+1)<i-j;omega⟩
 obtain rfl:j=i-1:=O
 clear la lb;apply vn cW;refine l4 ?_ ?_<;>intro h44
 .obtain rfl:k=0:=O
  apply vn (aN (f:=rC) jK (m:=0) O rfl (ph O));apply vn (ab nH bY aT (.inl rfl));apply aA (zn (m:=i) (i:=0) (r:=2) O O O (gx 0));apply vn (aI O O);dsimp only[aU,aV];rw[show((i:Int)-1)=((i-1:Nat):Int) by omega];apply vn (aN (f:=rC) jK (m:=i) O (bI i) (ph O));apply vn (ab nH bY aT (.inl rfl));apply aA (zn (m:=i) (i:=i-1) (r:=2) O O O (gx i));apply et (us:=[cR (jO i 0 2 (xr x 0)),cR (jO i (i-1) 2 (xr x i))]);dsimp only[aU,aV];refine qc (ts:=(aJ x i (i-1)).map cR) (us:=[cR (jO i 0 2 (xr x 0)),cR (jO i (i-1) 2 (xr x i))]) (vs:=(aE x i 0).map cR) rfl rfl (by rw[aE,cG];rfl) (by rw[aL,aE,cF,qb];show(_+2)*_<=_;omega) (by rw[aL,aE,cF,qb];show _+2<=_;simp only[maxLen];omega) ?_;apply aA (sP 0);apply aA (sP 0);apply et (us:=[rC (.of ((0:Int):Rat)),rC (.of ((0:Int):Rat))]);dsimp only[aU,aV];refine qc (ts:=rR (bJ y i (i-1))) (us:=[rC (.of ((0:Int):Rat)),rC (.of ((0:Int):Rat))]) (vs:=rR (bE y i 0 a b)) rfl rfl (by show _=(bE y i 0 a b).map rC;rw[bE,cG];rfl) (by rw[aL,bE,cF,qY];show(_+2)*_<=_;omega) (by rw[aL,bE,cF,qY];show _+2<=_;simp only[maxLen];omega) ?_;exact aR
 apply vn cW;refine l4 ?_ ?_<;>intro h60
 .obtain rfl:k=1:=O
  apply vn (aN (f:=rC) jK (m:=0) O rfl (ph O));apply vn (ab nH bY aT (.inl rfl));apply aA (zn (m:=i) (i:=0) (r:=1) O O O (gx 0));apply vn (aI O O);dsimp only[aU,aV];rw[show((i:Int)-1)=((i-1:Nat):Int) by omega];apply vn (aN (f:=rC) jK (m:=i) O (bI i) (ph O));apply vn (ab nH bY aT (.inl rfl));apply aA (zn (m:=i) (i:=i-1) (r:=1) O O O (gx i));apply et (us:=[cR (jO i 0 1 (xr x 0)),cR (jO i (i-1) 1 (xr x i))]);dsimp only[aU,aV];refine qc (ts:=(aJ x i (i-1)).map cR) (us:=[cR (jO i 0 1 (xr x 0)),cR (jO i (i-1) 1 (xr x i))]) (vs:=(aE x i 1).map cR) rfl rfl (by rw[aE,cG];rfl) (by rw[aL,aE,cF,qb];show(_+2)*_<=_;omega) (by rw[aL,aE,cF,qb];show _+2<=_;simp only[maxLen];omega) ?_;apply et (us:=[rC a,rC b]);dsimp only[aU,aV];refine qc (ts:=rR (bJ y i (i-1))) (us:=[rC a,rC b]) (vs:=rR (bE y i 1 a b)) rfl rfl (by show _=(bE y i 1 a b).map rC;rw[bE,cG];rfl) (by rw[aL,bE,cF,qY];show(_+2)*_<=_;omega) (by rw[aL,bE,cF,qY];show _+2<=_;simp only[maxLen];omega) ?_;exact aR
 obtain rfl:k=2:=O
 refine bZ {s:Nat // s<=2} (fun g=>[.one (.int .i64 ((g.1:Int)+1)),.rows ((aK i (aJ x i (i-1)) 0 (i-1) (xr x 0) (xr x i) g.1).map cR),.rows (rR (bK (bJ y i (i-1)) g.1))]) (fun g=>2-g.1) ⟨0,dM _⟩ (by
  dsimp only;rw[cz8,ck9];exact ai.rfl) (fun _=>rfl) ?_
 rintro⟨s,hs⟩;dsimp only[aU,aV]at hs|-;have la2:=UM i (aJ x i (i-1)) 0 (i-1) (xr x 0) (xr x i) s;have lb2:=Sz (bJ y i (i-1)) s;rw[qb]at la2;rw[qY]at lb2;apply vn nR;refine l4 ?_ ?_<;>intro h75
 .apply vn (aN (f:=rC) jK (m:=0) O rfl (ph O));apply vn (ab nH bY aT (.inl rfl));apply aA (zn (m:=i) (i:=0) (r:=s+1) O O O (gx 0));apply vn (aI O O);dsimp only[aU,aV];rw[show((i:Int)-1)=((i-1:Nat):Int) by omega];apply vn (aN (f:=rC) jK (m:=i) O (bI i) (ph O));apply vn (ab nH bY aT (.inl rfl));apply aA (bz2 (m:=i) (i:=0) (j:=i-1) (r:=s+1) O O O O (gx 0) (gx i));apply et (us:=[cR (vg i 0 (i-1) (s+1) (xr x 0) (xr x i))]);refine kq (xs:=aK i (aJ x i (i-1)) 0 (i-1) (xr x 0) (xr x i) s) (x:=vg i 0 (i-1) (s+1) (xr x 0) (xr x i)) (f:=cR) rfl rfl O (by simp only[maxLen];omega) ?_;rw[aj0];apply aA (sP 0);apply et (us:=[rC (.of ((0:Int):Rat))]);refine kq (xs:=bK (bJ y i (i-1)) s) (x:=RQ.of ((0:Int):Rat)) (f:=rC) rfl rfl O (by simp only[maxLen];omega) ?_;rw[ar4];dsimp only[aU,aV];apply vn (aB O O);dsimp only[aU,aV];exact aq rfl ⟨⟨s+1,O⟩,ai.rfl,by show 2-(s+1)<2-s;omega⟩
 obtain rfl:s=2:=O
 exact aR
def nM(sol:List RQ)(i:Nat):List RQ:=rA ((sol.take (4*i+4)).drop (4*i))
def cw4(x:List RQ)(A:List (List RQ))(B sol:List RQ)(p:Value)(m:Nat)(hm:m<=200)(hl:sol.length=4*m)(hS:aX prog 128 [.one (eR A),.one (sR B)] (.ret [.one (sR sol),.one (.bool true)])):vc prog (fun o=>bD o (.ret [.one (.exact p),.one (.aw [sR x,eR ((List.range m).map (nM sol))])])) (aj prog 195 (fun _=>none) (aH [1,1,1,1,1,1,1,1] (aM f53)) [(0,.v none),(11,.v none),(12,.v none),(13,.v none),(10,.v none)] ([10,21].map ResultVar.tmp) (some 2) false) ([.v (.one (sR x)),.v (.one (.int .i64 (m:Int))),.v (.one (eR A)),.v (.one (sR B)),.v (.one (.exact p))].map In.env) []:=by
 rw[ab9];dsimp only[List.map,In.env,aU,aV];apply aA hS;refine bZ {i:Nat // i<=m} (fun g=>[.one (.int .i64 (g.1:Int)),.one (sR x),.rows (((List.range g.1).map (nM sol)).map cR)]) (fun g=>m-g.1) ⟨0,dM _⟩ ai.rfl (fun _=>rfl) ?_;rintro⟨i,hi⟩;have hll:((List.range i).map (nM sol)).length=i:=aT
 dsimp only[aU,aV]at hi|-;apply vn bO;refine l4 ?_ ?_<;>intro h3
 .have hi':i<m:=O
  apply vn lD;apply vn lD;apply vn (aB O O);dsimp only[aU,aV];rw[show(4*(i:Int))=((4*i:Nat):Int) by omega,show(((4*i:Nat):Int)+4)=((4*i+4:Nat):Int) by omega];apply vn (av3 (f:=rC) (ds:=sol) jK (l:=4*i) (h:=4*i+4));apply aA (TS ((sol.take (4*i+4)).drop (4*i)) (by rw[dF,bh];omega)) rfl;apply et (us:=[cR (nM sol i)]);refine kq (xs:=(List.range i).map (nM sol)) (x:=nM sol i) (f:=cR) rfl rfl O (by simp only[maxLen];omega) ?_;rw[show(List.range i).map (nM sol)++[nM sol i]=(List.range (i+1)).map (nM sol) by rw[gy,cG];rfl];apply vn (aB O O);dsimp only[aU,aV];exact aq rfl ⟨⟨i+1,O⟩,ai.rfl,by show m-(i+1)<m-i;omega⟩
 obtain rfl:i=m:=O
 exact aR
abbrev vu(x:List RQ)(ps:List (List RQ)):List aC:=[sR x,eR ps]
def cl3(x:List RQ)(ps:List (List RQ)):vc prog (fun o=>o=.retr [] ([vu x ps])) (vB prog 195 (fun _=>none) (aH [1,1,1,1,1,1,1,1,1,1,1,0] (aM f53)) [(21,.ref 2)] 10 35 2 0 ([].map ResultVar.tmp)) ([.ref (vu x ps)].map In.env++[.rows ([uy])]) []:=by
 rw[ZS];dsimp only[List.map,In.env,aU,aV];refine NM (ts:=[uy]) (us:=[vu x ps]) rfl rfl O (cells:=uy) rfl rfl ?_;dsimp only[aU,aV];exact kA rfl rfl
open Go Go.Proofs Go.RowKit Tryz Ord
attribute [local go_sem] Oper.semAt_some
def og{A1 A2:List (List RQ)}{B1 B2:List RQ}(h:A1.length=B1.length):rowsOf (A1++A2) (B1++B2)=rowsOf A1 B1++rowsOf A2 B2:=by
 rw[rowsOf,List.zip_append h,cG];rfl
def cs1(x:List RQ)(m k:Nat):aE x m (k+2)=aK m (aJ x m (m-1)) 0 (m-1) (xr x 0) (xr x m) 2:=rfl
def cu4(y:List RQ)(m k:Nat)(a b:RQ):bE y m (k+2) a b=bK (bJ y m (m-1)) 2:=rfl
def cj1(x:c4)(k:Nat)(a b:Rat):cuE x (k+2) a b=[(cd2 x 0 (x.length-2) 1 (x.getD 0 0) (x.getD (x.length-1) 0),0),(cd2 x 0 (x.length-2) 2 (x.getD 0 0) (x.getD (x.length-1) 0),0)]:=rfl
section
variable{x y:List RQ}{m:Nat}(hx:x.length=m+1)
include hx
theorem bM4:(zR m).map RQ.q=tB (x.map RQ.q):=by
 rw[zR,qQ,tB,aL,hx];rfl
theorem od(i r:Nat)(t:RQ):(jO m i r t).map RQ.q=wK (tB (x.map RQ.q)) i r t.q 1 4:=by
 rw[jO,yP,bM4 hx];rfl
theorem xW(i j r:Nat)(s t:RQ):(vg m i j r s t).map RQ.q=cd2 (x.map RQ.q) i j r s.q t.q:=by
 rw[vg,yP,od hx,cd2];rfl
theorem an4(y:List RQ):∀i,rowsOf (aP x m i) (bP y i)=((List.range i).flatMap (cuP (x.map RQ.q) (y.map RQ.q))).map fun p=>p.1++[p.2]
 | 0=>rfl
 | i+1=>by
   rw[aP,bP,og (by rw[zK,yw]),an4 y i,gy,TD,cG]
   congr 1
   show[(jO m i 0 (xr x i)).map RQ.q++[(xr y i).q],(jO m i 0 (xr x (i+1))).map RQ.q++[(xr y (i+1)).q]]=_;rw[od hx,od hx,uU,TY,cB,cuP,fV,fV,fV,fV];rfl
theorem as2(hy:y.length=m+1):∀i,rowsOf (aJ x m i) (bJ y m i)=((List.range m).flatMap (cuP (x.map RQ.q) (y.map RQ.q))++(List.range i).flatMap (cuJ (x.map RQ.q))).map fun p=>p.1++[p.2]
 | 0=>by rw[aJ,bJ,an4 hx y m];simp
 | i+1=>by
   rw[aJ,bJ,aK,bK,og (by rw[qb,qY]),as2 hy i,gy (n:=i),TD,<-dy,cG (l₂:=List.flatMap (cuJ (x.map RQ.q)) [i])]
   congr 1
   show[(vg m (i+1) i 1 (xr x (i+1)) (xr x (i+1))).map RQ.q++[((0:Int):Rat)],(vg m (i+1) i 2 (xr x (i+1)) (xr x (i+1))).map RQ.q++[((0:Int):Rat)]]=_;rw[xW hx,xW hx,uU,TY,cB,cuJ,fV];rfl
theorem bw3(hy:y.length=m+1)(hm1:1<=m)(k:Nat)(a b:RQ):rowsOf (aE x m k) (bE y m k a b)=cuT (x.map RQ.q) (y.map RQ.q) k a.q b.q:=by
 have h1:(x.map RQ.q).length-1=m:=by rw[aL,hx];rfl
 have h2:(x.map RQ.q).length-2=m-1:=by rw[aL,hx];rfl
 have hl:(aJ x m (m-1)).length=(bJ y m (m-1)).length:=by rw[qb,qY]
 rw[cuT,cuR,h1,h2,cG,<-as2 hx hy (m-1)]
 match k with
 | 0=>
   rw[aE,bE,og hl,cuE,h1,h2]
   congr 1
   show[(jO m 0 2 (xr x 0)).map RQ.q++[((0:Int):Rat)],(jO m (m-1) 2 (xr x m)).map RQ.q++[((0:Int):Rat)]]=_;rw[od hx,od hx,fV,fV];rfl
 | 1=>
   rw[aE,bE,og hl,cuE,h1,h2]
   congr 1
   show[(jO m 0 1 (xr x 0)).map RQ.q++[a.q],(jO m (m-1) 1 (xr x m)).map RQ.q++[b.q]]=_;rw[od hx,od hx,fV,fV];rfl
 | k+2=>
   rw[cs1,cu4,aK,bK,og hl,cj1,h1,h2]
   congr 1
   show[(vg m 0 (m-1) 1 (xr x 0) (xr x m)).map RQ.q++[((0:Int):Rat)],(vg m 0 (m-1) 2 (xr x 0) (xr x m)).map RQ.q++[((0:Int):Rat)]]=_;rw[xW hx,xW hx,fV,fV];rfl
theorem bD9(fx:∀q∈x,Fit 40 q.q)(hm1:1<=m)(k:Nat):(aE x m k).length=4*m/\∀r∈aE x m k,r.length=4*m:=by
 have c1:∀i r t,(jO m i r t).length=4*m:=fun i r t=>by rw[jO,wS,DJ]
 have c2:∀i j r s t,(vg m i j r s t).length=4*m:=fun i j r s t=>by rw[vg,wS,c1]
 have hP:∀i,∀r∈aP x m i,r.length=4*m:=fun i=>by
  induction i with
  | zero=>intro r hr;cases hr
  | succ i ih=>
    intro r hr;rcases dx.1 hr with hr | hr
    .exact ih r hr
    .simp only[cp,iZ,iQ]at hr;rcases hr with rfl | rfl<;>exact c1 _ _ _
 have hJ:∀i,∀r∈aJ x m i,r.length=4*m:=fun i=>by
  induction i with
  | zero=>exact hP m
  | succ i ih=>
    intro r hr;rcases dx.1 hr with hr | hr
    .exact ih r hr
    .obtain⟨s,_,rfl⟩:=dm.1 hr;exact c2 _ _ _ _ _
 have hl:=qb x m (m-1)
 match k with
 | 0 | 1=>
   refine⟨by rw[aE,cF,hl];show _+2=_;omega,fun r hr=>?_⟩;rcases dx.1 hr with hr | hr
   .exact hJ _ r hr
   .simp only[cp,iZ,iQ]at hr;rcases hr with rfl | rfl<;>exact c1 _ _ _
 | k+2=>
   refine⟨by rw[cs1,UM,hl];omega,fun r hr=>?_⟩;rcases dx.1 hr with hr | hr
   .exact hJ _ r hr
   .obtain⟨s,_,rfl⟩:=dm.1 hr;exact c2 _ _ _ _ _
end
def bY2(y:List RQ){m:Nat}(k:Nat)(a b:RQ)(hm1:1<=m:=by omega):(bE y m k a b).length=4*m:=by
 have hl:=qY y m (m-1)
 match k with
 | 0 | 1=>rw[bE,cF,hl];show _+2=_;omega
 | k+2=>rw[cu4,Sz,hl];omega
def cA8{l:c4}{i:Nat}(h:4*i+4<=l.length):(l.take (4*i+4)).drop (4*i)=[l.getD (4*i) 0,l.getD (4*i+1) 0,l.getD (4*i+2) 0,l.getD (4*i+3) 0]:=by
 apply gU;intro j;rw[fG,eh];by_cases hj:j<4
 .rw[aF O,bM O];have e:∀n(hn:n<l.length),l.getD n 0=l[n]:=fun n hn=>by rw[fH,bM hn];rfl
  match j,hj with
  | 0,_=>rw[e _ O];rfl
  | 1,_=>rw[e (4*i+1) O];rfl
  | 2,_=>rw[e (4*i+2) O];rfl
  | 3,_=>rw[e (4*i+3) O];rfl
 .rw[aG O,jQ (by simp only[bB,bu];omega)]
def aR0{sol:c4}{i:Nat}(h:4*i+4<=sol.length):(nM (sol.map RQ.of) i).map RQ.q=trim [sol.getD (4*i) 0,sol.getD (4*i+1) 0,sol.getD (4*i+2) 0,sol.getD (4*i+3) 0]:=by
 rw[nM,zB,mX,kD,ey,show RQ.q ∘ RQ.of=id from rfl,List.map_id,cA8 h]
section
variable{x y:List RQ}{k:Nat}{a b:RQ}{mm:c4}(D:wI (x.map RQ.q) (y.map RQ.q))(h5:x.length<=5)(h3:2<=k->3<=x.length)(ha:Fit 40 a.q)(hb:Fit 40 b.q)(he:vF (x.map RQ.q) (y.map RQ.q) mm)(hE:CuE (x.map RQ.q) k a.q b.q (Ya (x.length-1) (jG (x.map RQ.q) (y.map RQ.q) mm)))
include D h5 h3 ha hb he hE
theorem aS8:∃sol:List Rat,sol.length=4*(x.length-1)/\(∀i,i<x.length-1->(nM (sol.map RQ.of) i).map RQ.q=jG (x.map RQ.q) (y.map RQ.q) mm i)/\aX prog 128 [.one (eR (aE x (x.length-1) k)),.one (sR (bE y (x.length-1) k a b))] (.ret [.one (sR (sol.map RQ.of)),.one (.bool true)]):=by
 have hX:(x.map RQ.q).length=x.length:=aL _;have h2:2<=x.length:=by have:=D.h2;omega
 have hy:y.length=x.length:=by have:=D.hxy;rwa[aL,aL]at this
 have fx:=oP D.hx;have C:=bY3 D he (k:=k) (a:=a.q) (b:=b.q) (by rw[hX];exact hE);obtain⟨sol,e1,e2,e3⟩:=bF8 D.h2 (by rw[hX];exact h3) D.hx D.hy ha hb D.hr C (aF rfl);rw[hX]at e2 e3;obtain⟨l1,l2⟩:=bD9 (m:=x.length-1) (x:=x) O fx O k;have T:=aj9 (k:=k) D.h2 D.hx D.hy ha hb;rw[hX]at T;have hrows:=bw3 (m:=x.length-1) (x:=x) (y:=y) O O O k a b;refine⟨sol,e2,fun i hi=>?_,?_⟩
 .rw[aR0 O,e3 _ O,e3 _ O,e3 _ O,e3 _ O];have h0:Ya (x.length-1) (jG (x.map RQ.q) (y.map RQ.q) mm) (4*i)=(jG (x.map RQ.q) (y.map RQ.q) mm i).getD 0 0:=uC (j:=0) hi;rw[h0,uC hi,uC hi,uC hi];exact bG8 (rK _ _ _ _)
 .obtain⟨G,hG⟩:∃G,G=1000000000:=⟨_,rfl⟩
  have hR:UX (4*(x.length-1)) (4*(x.length-1)+1) G (4*(x.length-1)) 0 (rowsOf (aE x (x.length-1) k) (bE y (x.length-1) k a b)):=by
   rw[hrows];refine UX.rows T ?_;have hp:2^(4*(x.length-1))<=65536:=bG (gI O (show 4*(x.length-1)<=16 by omega)) (ah _);have hq:265*(4*(x.length-1)+1)+2<=4507:=O
   rw[hG];exact bG (fP hp hq) bY
  exact aB9 _ _ _ G (some sol) l1 (bY2 y k a b) l2 hR (by rw[hrows];exact e1)
end
set_option maxRecDepth 100000 in
def az0(x y:List RQ)(a b:RQ)(k m:Nat)(sol:List RQ)(hk:k<=2)(fx:∀q∈x,Fit 40 q.q)(hl:sol.length=4*m)(hS:aX prog 128 [.one (eR (aE x m k)),.one (sR (bE y m k a b))] (.ret [.one (sR sol),.one (.bool true)]))(hm1:1<=m:=by omega)(hm:m<=200:=by omega)(hx:x.length=m+1:=by omega)(hy:y.length=m+1:=by omega) :
  aX prog 53 [.one (sR x),.one (sR y),.one (.int .i64 (k:Int)),jl a,jl b] (.ret [.agg (vu x ((List.range m).map (nM sol)))]):=by
 refine⟨ay aS,fun M w vs hM hv=>?_⟩
 match vs,hv with
 | [v0,v1,v2,v3,v4],⟨hv0,hv1,hv2,hv3,hv4,_⟩=>
   have hv0:(sR x).rep M w v0:=hv0;have hv1:(sR y).rep M w v1:=hv1
   obtain⟨a0,cap0,he0⟩:∃a cap,v0=.slice a x.length cap:=by
    obtain⟨a,cap,e,_⟩:=hv0;rw[aL]at e;exact⟨a,cap,e⟩
   obtain⟨rfl,_⟩:=(show(aC.int .i64 (k:Int)).rep M w v2 from hv2)
   obtain⟨us3,rfl,hr3⟩:=hv3;obtain⟨us4,rfl,hr4⟩:=hv4;obtain⟨n0,hn0⟩:∃n0,w.heap.size=n0:=⟨_,rfl⟩
   refine kH func53 rfl ?_;simp only[ntmps53,cq,bB,bu,Nat.reduceAdd,Nat.reduceSub,eE,eF,eJ,eI,List.nil_append,List.cons_append];subst he0;refine bU ?_;generalize hK:Exit.then _ _=K
   go_wp2
   rw[<-hK];clear hK K;show Code.wp _ _ _ _ _;refine bU ?_;generalize hK:Exit.then _ _=K
   go_wp2
   rw[<-hK];clear hK K;show Code.wp _ _ _ _ _;refine bU ?_;generalize hK:Exit.then _ _=K
   go_wp2
   rw[<-hK];clear hK K;show Code.wp _ _ _ _ _;refine bU ?_;generalize hK:Exit.then _ _=K
   go_wp2
   rw[<-hK];clear hK K;show Code.wp _ _ _ _ _;generalize hW1:(World.alloc _ _)=W1;have tI:W1.heap.size=n0+3:=by rw[<-hW1];simp[hn0]
   have hB1:Below w.heap.size w W1:=by rw[<-hW1];exact(((cS _ w).alloc (ah _) _).alloc aT _).alloc b6 _
   have hF8:W1.heap[n0]?=some (.cells us3.toArray 51 (0,0)):=by
    rw[<-hW1,dB _ _ _ b6,dB _ _ _ b6,<-hn0];exact cr w _
   have hF9:W1.heap[n0+1]?=some (.cells us4.toArray 51 (0,0)):=by
    rw[<-hW1,dB _ _ _ b6];have:=cr (w.alloc (.cells us3.toArray 51)) (.cells us4.toArray 51)
    rwa[cz,hn0]at this
   have hF10:W1.heap[n0+2]?=some (.cells #[.slice none 0 0,.slice none 0 0] 35 (0,0)):=by
    rw[<-hW1];have:=cr ((w.alloc (.cells us3.toArray 51)).alloc (.cells us4.toArray 51)) (.cells #[.slice none 0 0,.slice none 0 0] 35)
    rwa[cz,cz,hn0]at this
   clear hW1;generalize ha:(Act.mk _ _)=a1;have q0:a1.tmps.getD 0 undef=.slice a0 x.length cap0:=by rw[<-ha];rfl
   have q1:a1.tmps.getD 1 undef=v1:=by rw[<-ha];rfl
   have q2:a1.tmps.getD 2 undef=.int .i64 (k:Int):=by rw[<-ha];rfl
   have q8:a1.tmps.getD 8 undef=.pointer (some ⟨n0,0,none⟩):=by rw[<-ha];rfl
   have q9:a1.tmps.getD 9 undef=.pointer (some ⟨n0+1,0,none⟩):=by rw[<-ha];rfl
   have q10:a1.tmps.getD 10 undef=.pointer (some ⟨n0+2,0,none⟩):=by rw[<-ha];rfl
   have q11:a1.tmps.getD 11 undef=.int .i64 (m:Int):=by rw[<-ha];show Value.int .i64 _=_;congr 1;first | done | omega
   have q12:a1.tmps.getD 12 undef=.slice none 0 0:=by rw[<-ha];rfl
   have q13:a1.tmps.getD 13 undef=.slice none 0 0:=by rw[<-ha];rfl
   have qz:a1.tmps.size=195:=by rw[<-ha];rfl
   have qd:a1.defers=[]:=by rw[<-ha]
   clear ha;generalize (Value.slice a0 x.length cap0)=v0 at hv0 q0;obtain⟨N,hN⟩:∃N:Nat->Prop,N=Mb M (n0+2):=⟨_,rfl⟩
   have nN:∀k,n0<=k->k≠n0+2->¬N k:=fun k h1 h2 h=>by rw[hN]at h;exact h.elim (fun h=>by have:=hM.1 k h;omega) h2
   have hk1:av M w N W1:=fun k o hk ho _=>by
    have hlt:=(cJ.1 ho).1;exact⟨by rw[hN];exact fun h=>h.elim hk O,(hB1.block k hlt).trans ho⟩
   have hFN:bf N W1:=⟨fun k hk=>by rw[hN]at hk;exact hk.elim (fun h=>by have:=hM.1 k h;omega) O,hM.2.dJ hk1⟩
   have e0:(sR x).rep N W1 (a1.tmps.getD 0 undef):=by rw[q0];exact aC.mono _ hk1 hv0
   have e1:(sR y).rep N W1 (a1.tmps.getD 1 undef):=by rw[q1];exact aC.mono _ hk1 hv1
   have e8:(aC.aw (rC a)).rep N W1 (a1.tmps.getD 8 undef):=by
    rw[q8];refine⟨_,0,us3.toArray,51,(0,0),rfl,nN _ O O,hF8,?_⟩;have hl:=hr3.length;have:=hr3.mono hk1;rw[gd,dL (by show us3.length<=_;omega)];exact this
   have e9:(aC.aw (rC b)).rep N W1 (a1.tmps.getD 9 undef):=by
    rw[q9];refine⟨_,0,us4.toArray,51,(0,0),rfl,nN _ O O,hF9,?_⟩;have hl:=hr4.length;have:=hr4.mono hk1;rw[gd,dL (by show us4.length<=_;omega)];exact this
   have j11:(aC.int .i64 (m:Int)).rep N W1 (a1.tmps.getD 11 undef):=by rw[q11];exact⟨rfl,rfl⟩
   refine bU (bV jN.wp (n0:=W1.heap.size) (N:=195) (ins:=[(11,.v none)]) (xs:=[.v (.one (.int .i64 (m:Int)))]) fo ⟨rfl,trivial⟩ (tg (cg3 m hm)) aS (ah _) hFN qz qd ⟨j11,trivial⟩ ?_);intro a2 W2 us2 hag2 hb2 hsz2 hdf2 hr2 hrep2;have hus:=bA hr2;subst hus;obtain⟨e14,_⟩:=hrep2;have k2:=av.below (M:=N) hb2;have hF2:=aW hFN hb2
   have p:∀t,t<14->a2.tmps.getD t undef=a1.tmps.getD t undef:=fun t ht=>by
    match t,ht with
    | 0,_ | 1,_ | 2,_ | 3,_ | 4,_ | 5,_ | 6,_ | 7,_ | 8,_ | 9,_ | 10,_ | 11,_ | 12,_ | 13,_=>exact aO hag2 _ aS
   have z0:(sR x).rep N W2 (a2.tmps.getD 0 undef):=by rw[p 0 O];exact aC.mono _ k2 e0
   have z1:(sR y).rep N W2 (a2.tmps.getD 1 undef):=by rw[p 1 O];exact aC.mono _ k2 e1
   have z2:(aC.int .i64 (k:Int)).rep N W2 (a2.tmps.getD 2 undef):=by rw[p 2 O,q2];exact⟨rfl,rfl⟩
   have z8:(aC.aw (rC a)).rep N W2 (a2.tmps.getD 8 undef):=by rw[p 8 O];exact aC.mono _ k2 e8
   have z9:(aC.aw (rC b)).rep N W2 (a2.tmps.getD 9 undef):=by rw[p 9 O];exact aC.mono _ k2 e9
   have z10:(aC.exact (.pointer (some ⟨n0+2,0,none⟩))).rep N W2 (a2.tmps.getD 10 undef):=by rw[p 10 O,q10];exact⟨rfl,rfl⟩
   have z11:(aC.int .i64 (m:Int)).rep N W2 (a2.tmps.getD 11 undef):=by rw[p 11 O,q11];exact⟨rfl,rfl⟩
   have z12:(aC.exact (.slice none 0 0)).rep N W2 (a2.tmps.getD 12 undef):=by rw[p 12 O,q12];exact⟨rfl,rfl⟩
   have z13:(aC.exact (.slice none 0 0)).rep N W2 (a2.tmps.getD 13 undef):=by rw[p 13 O,q13];exact⟨rfl,rfl⟩
   show Code.wp _ _ _ _ _
   refine Ux (n:=2) (N:=195) (ins:=[(0,.v none),(1,.v none),(2,.v none),(8,.ref 4),(9,.ref 4),(11,.v none),(12,.k (.slice none 0 0)),(13,.k (.slice none 0 0)),(14,.v none),(10,.v none)])
    (xs:=[.v (.one (sR x)),.v (.one (sR y)),.v (.one (.int .i64 (k:Int))),.ref (rC a),.ref (rC b),.v (.one (.int .i64 (m:Int))),.v (.one (.exact (.slice none 0 0))),.v (.one (.exact (.slice none 0 0))),.v (.one (sR (zR m))),.v (.one (.exact (.pointer (some ⟨n0+2,0,none⟩))))])
    fo ⟨rfl,rfl,rfl,rfl,rfl,rfl,rfl,rfl,rfl,rfl,trivial⟩ (ce7 x y a b _ m k hm1 hm hk hx hy fx) aS hF2 hsz2 hdf2
    ⟨z0,z1,z2,z8,z9,z11,z12,z13,e14,z10,trivial⟩ ?_ (by intro c v a' w' h;cases h)
   intro e a3 W3 rs3 us3' hrs hex hb3 hsz3 hdf3 hr3' hrep3;cases hrs;cases e with
   | exit id=>cases hex
   | ret=>cases hex
   | normal=>
   have huse:=bA hr3';subst huse;obtain⟨f0,f10,f11,f12,f13,_⟩:=hrep3;have hF3:=aW hF2 hb3;clear hr3' hex;show Code.wp _ (xB 2 _) _ _ _;simp only[xB]
   refine Ux (n:=2) (N:=195) (ins:=[(0,.v none),(11,.v none),(12,.v none),(13,.v none),(10,.v none)])
    (xs:=[.v (.one (sR x)),.v (.one (.int .i64 (m:Int))),.v (.one (eR (aE x m k))),.v (.one (sR (bE y m k a b))),.v (.one (.exact (.pointer (some ⟨n0+2,0,none⟩))))])
    fo ⟨rfl,rfl,rfl,rfl,rfl,trivial⟩ (cw4 x (aE x m k) (bE y m k a b) sol _ m hm hl hS) aS hF3 hsz3 hdf3 ⟨f0,f11,f12,f13,f10,trivial⟩ ?_ (by intro c v a' w' h;cases h)
   intro e a4 W4 rs4 us4' hrs hex hb4 hsz4 hdf4 hr4' hrep4;cases hrs;cases e with
   | exit id=>cases hex
   | ret=>cases hex
   | normal=>
   have huse:=bA hr4';subst huse;obtain⟨g10,g21,_⟩:=hrep4;have hF4:=aW hF3 hb4;clear hr4' hex;show Code.wp _ (xB 2 _) _ _ _;simp only[xB];have hB4:Below w.heap.size w W4:=hB1.trans ((hb2.mono hB1.size).trans ((hb3.mono (bG hB1.size hb2.size)).trans (hb4.mono (bG hB1.size (bG hb2.size hb3.size)))));have oz:=hb2.size;have hs3:=hb3.size;have hF104:W4.heap[n0+2]?=some (.cells #[.slice none 0 0,.slice none 0 0] 35 (0,0)):=(hb4.block _ O).trans ((hb3.block _ O).trans ((hb2.block _ O).trans hF10));obtain⟨g10,_⟩:=(show(aC.exact (.pointer (some ⟨n0+2,0,none⟩))).rep N W4 _ from g10)
   refine bU (sY jN.wp (N:=195) (t0:=10) (T:=35) (n:=2) (want:=0) (g:=n0+2) (cur:=#[.slice none 0 0,.slice none 0 0]) (cs:=uy) (ins:=[(21,.ref 2)]) (xs:=[.ref (vu x ((List.range m).map (nM sol)))]) fo ⟨rfl,trivial⟩ (cl3 x ((List.range m).map (nM sol))) aS hF4 (by rw[hN];exact .inr rfl) hsz4 hdf4 rfl O ⟨g21,trivial⟩ g10 hF104 ⟨⟨rfl,rfl⟩,⟨rfl,rfl⟩,trivial⟩ ?_);intro a5 w5 us5 cur5 hag5 hg5 hsz5 hdf5 hr5 hgc5 _ hrep5;have hl5:=hrep5.length;have k10:a5.tmps.getD 10 undef=.pointer (some ⟨n0+2,0,none⟩):=(aO hag5 10 aS).trans g10;have hcl:cur5.toList.length=2:=hl5.symm;have h35:(prog.underlying 35).any (fun d=>match d with | .struct _ | .array _ _=>true | _=>false)=true:=aS
   have hi35:(prog.info? 35).map (·.size)=some 2:=aS
   obtain⟨d35,hu35,hd35⟩:=(Ch _ _).1 h35;have hi5:(prog.info? 35).map (·.size)=some cur5.size:=by rw[show cur5.size=2 by rw[<-cK];exact hcl];exact hi35
   have hres:(results f53 a5.tmps).run prog w5=.ok (.agg cur5) w5:=by
    cases d35 with
    | struct f=>exact Ct (ty:=35) (g:=n0+2) (t:=35) (cs:=cur5) (fr:=(0,0)) rfl _ _ _ k10 hgc5 hu35 rfl hi5
    | array l e=>exact Ct (ty:=35) (g:=n0+2) (t:=35) (cs:=cur5) (fr:=(0,0)) rfl _ _ _ k10 hgc5 hu35 rfl hi5
    | _=>cases hd35
   refine rW ?_;refine gB hres hdf5 ⟨?_,[_],rfl,⟨cur5.toList,aT,?_⟩,trivial⟩
   .have hs4:=hB4.size;refine⟨hg5.os.trans hB4.os,hg5.tape.trans hB4.tape,hg5.output.trans hB4.output,bG hs4 hg5.size,fun k hk=>(hg5.block k O (fun e=>by have:=cI e;omega)).trans (hB4.block k hk)⟩
   .exact hrep5.mono fun k o hk ho _=>⟨fun h=>hk (by rw[hN];exact .inl h),ho⟩
 | [],h=>exact h.elim
 | [_],h=>exact h.2.elim
 | [_,_],h=>exact h.2.2.elim
 | [_,_,_],h=>exact h.2.2.2.elim
 | [_,_,_,_],h=>exact h.2.2.2.2.elim
 | _::_::_::_::_::_::_,h=>exact h.2.2.2.2.2.elim
def aY9(x y m:c4)(i:Nat):trim (jG x y m i)=jG x y m i:=by
 obtain⟨a,b,c,d,e⟩:=rK x y m i;rw[e];exact zd (jc _) (qq _ _ _ _) fun t=>me t _
def bc1(x y m:c4):(pcs x (jG x y m)).map trim=pcs x (jG x y m):=by
 have h:trim ∘ jG x y m=jG x y m:=by
  funext i
  rw[Function.comp_apply,aY9]
 rw[pcs,ey,h]
def aF8{x y:List RQ}{k:Nat}{a b:RQ}{mm:c4}(D:wI (x.map RQ.q) (y.map RQ.q))(h5:x.length<=5)(hk:k<=2)(h3:2<=k->3<=x.length)(ha:Fit 40 a.q)(hb:Fit 40 b.q)(he:vF (x.map RQ.q) (y.map RQ.q) mm)(hE:CuE (x.map RQ.q) k a.q b.q (Ya (x.length-1) (jG (x.map RQ.q) (y.map RQ.q) mm)))(hm:∀a∈mm,Fit 800000 a) :
  ∃ps,aX prog 53 [.one (sR x),.one (sR y),.one (.int .i64 (k:Int)),jl a,jl b] (.ret [.agg (vu x ps)])/\aX prog 25 [.agg [sQ (x.map RQ.q),eQ (pcs (x.map RQ.q) (jG (x.map RQ.q) (y.map RQ.q) mm))],.agg (vu x ps)] (.ret [.one (.bool true)]):=by
 have hX:(x.map RQ.q).length=x.length:=aL _;have h2:2<=x.length:=by have:=D.h2;omega
 have hy:y.length=x.length:=by have:=D.hxy;rwa[aL,aL]at this
 have fx:=oP D.hx;obtain⟨sol,e1,e2,e3⟩:=aS8 D h5 h3 ha hb he hE
 have hps:((List.range (x.length-1)).map (nM (sol.map RQ.of))).map (fun p=>p.map RQ.q)=pcs (x.map RQ.q) (jG (x.map RQ.q) (y.map RQ.q) mm):=by
  rw[pcs,hX,ey];exact kY fun i hi=>e2 i (fO.1 hi)
 refine⟨_,az0 x y a b k (x.length-1) (sol.map RQ.of) hk fx (by rw[aL,e1]) e3,?_⟩;refine br8 _ _ x _ 9000000 rfl ?_ (fun a ha=>(fx a ha).mono O) (fun p hp=>?_) (by rw[aL,nL];omega)
 .show _=(List.map (fun p:List RQ=>p.map RQ.q) _).map trim;rw[hps,bc1]
 .obtain⟨i,hi,rfl⟩:=dm.1 hp;have hq:=e2 i (fO.1 hi);have hl:=bq2 (x.map RQ.q) (y.map RQ.q) mm i;rw[<-hq,aL]at hl;exact⟨O,oP (by rw[hq];exact D.bg2 hm i)⟩
end Go.Sy
namespace Go.Sy
open Go Go.Proofs Tryz Ord
def bm3:Tr:=gO 133 [(W 6 0),(G3 20),(.one (.gv 135 [(.ref 0 [(.u 7 0)]),(.ref 0 [(.u 6 0)])]))] [none] [39,48,49] [3,46,184] 28 true (FZ 138 0 1 52 53 28 28 188 (bc0 14 21 55 56 (gO 137 [(W 22 0),(.one (.c (.sr 1 23)))] [none] [54,57] [188,197] 188 false (Oy 136 24 58 188 185 (gO 139 [(W 0 0),(W 1 0),(W 25 0)] [(some 2)] [62,63,64] [28,28,28] 31 true (RN 27))))))
def bw5:Tr:=gO 133 [(W 6 0),(G3 13),(.one (.gv 134 [(.ref 0 [(.u 7 0)])]))] [none] [29,36,37] [3,46,184] 28 true (en 6 2 42 (gW 8 0 15 0 28 41 43 (di 16 3 46 44 (mh 86 3 3 1 3 2 17 40 45 (tq 6 (mh 76 18 18 1 18 2 19 46 47 bm3))))))
def bQ6:Tr:=xQ 131 0 24 28 28 (iK 132 0 0 1 26 27 28 28 28 (nE 8 0 0 28 30 (di 9 3 46 31 (mh 86 10 10 1 10 2 2 32 33 (tq 6 (mh 76 11 11 1 11 2 12 34 35 bw5))))))
def bQ4:Tr:=iK 129 0 0 1 17 18 28 28 4 (jU 4 0 19 (aY 5 0 (RI 2) (bL 0 0 22 28 bQ6)))
def ah5:af prog f50 dV [.v none,.v none,.v (some 3),.v (some 3)]=bQ4:=aS
def gr:Tr:=hx128Q 
def bg0:Tr:=aY 28 0 (Ai 24 19 92 31 4 (aY 29 0 (Ai 24 21 96 31 4 (aY 30 0 (Ot (cd 31)) gr)) gr)) gr
def bl4:Tr:=ir 18 0 2 54 77 (aY 25 0 (ir 20 0 2 54 80 (aY 26 0 (ir 22 0 2 54 84 (aY 27 0 (Ai 24 17 88 31 4 bg0) gr)) gr)) gr)
def bh1:Tr:=ir 22 0 0 54 153 (aY 43 0 (aW3 2 157 158 159 160 (gO 25 [(G2 21),(G2 44)] [none] [156,161] [31,35] 4 false (aY 45 0 (Ot (cd 46)) gr))) gr)
def bh9:Tr:=aY 42 0 (ir 22 0 2 54 144 (aY 43 0 (Ai 24 21 147 31 4 (aY 44 0 (Ot (cd 45)) gr)) gr)) bh1
def bs6:Tr:=di 35 4 51 133 (bL 7 0 136 32 (en 37 1 137 (gW 7 0 38 0 32 135 138 (di 39 4 51 139 (gO 41 [(G4 36),(G4 40)] [none] [134,140] [51,51] 3 false (lS 41 0 3 141 bh9))))))
def bn6:Tr:=aY 34 0 (ir 22 0 2 54 144 (aY 35 0 (Ai 24 21 147 31 4 (aY 36 0 (Ot (cd 37)) gr)) gr)) (nE 7 0 0 32 132 bs6)
def bk1:Tr:=aY 29 0 gr (aW3 1 120 121 122 123 (gO 25 [(G2 19),(G2 30)] [none] [119,124] [31,35] 4 false (jU 31 0 125 (aY 32 0 gr (bL 6 0 128 32 (jy 33 0 3 3 129 bn6))))))
def bf1:Tr:=lS 18 0 54 102 (aY 25 0 gr (lS 20 0 54 105 (aY 26 0 gr (aW3 0 110 111 112 113 (gO 25 [(G2 17),(G2 27)] [none] [109,114] [31,35] 4 false (jU 28 0 115 bk1))))))
def bm1:Tr:=gO 15 [(G3 3)] [(some 3),(some 4)] [49] [27] 52 false (Ww 49 4 5 0 2 54 55 28 28 57 (gO 50 [(W 4 0),(W 5 0),(G3 13),(G3 15)] [(some 2),none] [60,61,62,63] [28,28,46,46] 57 false (Ww 51 4 5 0 2 68 69 28 28 57 (iK 52 6 0 7 73 74 32 32 4 (jU 23 0 75 (aY 24 0 bl4 bf1))))))
def bX6:Tr:=aY 9 0 (Ot (cd 10)) (al7 2 3 22 36 37 (.need (.call 13 [(.one (.c (.sr 3 10))),(WK 2)] [none]) (.call ⟨.value (.func 13),#[(tT 38),(.const (I3 2))],#[22,3]⟩) 4 false (jU 11 0 39 (aY 12 0 (Ot (cd 13)) (gO 15 [(G3 2)] [(some 3),(some 4)] [44] [27] 52 false bm1)))))
def bS7:Tr:=.need (.call 48 [(W 0 0),(W 1 0),(WK 5)] [none,none,none,none,none]) (.call ⟨.value (.func 48),#[(tT 25),(tT 26),(.const (I3 5))],#[22,22,3]⟩) 105 false (jU 8 0 33 bX6)
def lT:af prog f6 dV [.v none,.v none,.v (some 3),.v (some 3)]=bS7:=aS
abbrev ai0:aQ:=.agg [sQ [],eQ []]
def Vo(x y:c4)(A:Nat)(hp:∀a∈x,Fit A a)(hg:mM x y=false)(hl:x.length<1099511627776:=by omega)(hl2:y.length<1099511627776:=by omega)(hA1:1<=A:=by omega)(hA:A<=1073741824:=by omega):aX prog 49 [(.one (sQ x):aQ),(.one (sQ y):aQ)] (.ret [ai0,.one (.int .i64 2)]):=by
 refine eD func49 DY ?_;apply aA (oX x y A hp hA1 hl hA hl2);rw[hg];apply vn fk;refine nI true rfl (fun _=>?_) (fun h=>by cases h);exact gj ⟨⟨aC.Sub.nil,aC.Sub.nil,trivial⟩,aC.Sub.same,trivial⟩
def Wj(x y:c4)(p q:Rat)(A:Nat)(hp:∀a∈x,Fit A a)(hg:mM x y=false)(hl:x.length<1099511627776:=by omega)(hl2:y.length<1099511627776:=by omega)(hA1:1<=A:=by omega)(hA:A<=1073741824:=by omega):aX prog 50 [(.one (sQ x):aQ),(.one (sQ y):aQ),(qT p:aQ),(qT q:aQ)] (.ret [ai0,.one (.int .i64 2)]):=by
 refine eD func50 ah5 ?_;apply aA (oX x y A hp hA1 hl hA hl2);rw[hg];apply vn fk;refine nI true rfl (fun _=>?_) (fun h=>by cases h);exact gj ⟨⟨aC.Sub.nil,aC.Sub.nil,trivial⟩,aC.Sub.same,trivial⟩
def QA(x y:c4)(A:Nat)(hp:∀a∈x,Fit A a)(hg:mM x y=false)(hl:x.length<1099511627776:=by omega)(hl2:y.length<1099511627776:=by omega)(hA1:1<=A:=by omega)(hA:A<=1073741824:=by omega):aX prog 51 [(.one (sQ x):aQ),(.one (sQ y):aQ)] (.ret [ai0,.one (.int .i64 2)]):=by
 refine eD func51 Aa ?_;apply vn (ae bX (aL _));apply aA (oX x y A hp hA1 hl hA hl2);rw[hg];apply vn fk;refine nI true rfl (fun _=>?_) (fun h=>by cases h);exact gj ⟨⟨aC.Sub.nil,aC.Sub.nil,trivial⟩,aC.Sub.same,trivial⟩
def Tz(x y:c4)(D:wI x y)(hno:x.length<3\/y.getD 0 0≠y.getD (y.length-1) 0):aX prog 51 [(.one (sQ x):aQ),(.one (sQ y):aQ)] (.ret [ai0,.one (.int .i64 2)]):=by
 refine eD func51 Aa ?_;have h2:=D.h2;have h8:=D.h8;have hxy:=D.hxy;apply vn (ae bX (aL _));apply aA (oX x y 40 D.hx);rw[D.giv];apply vn fk;refine nI false rfl (fun h=>by cases h) (fun _=>?_);apply vn bO;refine l4 ?_ ?_<;>intro h6
 .exact gj ⟨⟨aC.Sub.nil,aC.Sub.nil,trivial⟩,aC.Sub.same,trivial⟩
 apply vn (aN bX (m:=0) O rfl (aa (show 0<y.length by omega)));apply vn (ab cb bY aT (.inl rfl));apply vn (aI O O);dsimp only[aU,aV];apply vn (aN bX (m:=x.length-1) O O (aa (show x.length-1<y.length by omega)));apply vn (ab cb bY aT (.inl rfl));apply aA (ou _ _ 40 40 (aD D.hy 0) (aD D.hy (x.length-1)));apply vn iC;refine l4 ?_ ?_<;>intro h15
 .exact gj ⟨⟨aC.Sub.nil,aC.Sub.nil,trivial⟩,aC.Sub.same,trivial⟩
 exact absurd (ya.1 (wz.1 ‹_›)) (by rw[<-hxy];exact hno.resolve_left O)
def cd3(x y:List eO)(u v:eO):Bool:=yc x y 5&&iM [u,v] 2
def bj0{x y:List eO}(h:yc x y 5=true)(hg:mM (au x) (au y)=true):wI (au x) (au y)/\x.length<=5:=by
 have hX:(au x).length=x.length:=aL _;have hg':=hg;simp only[yc,bR,uG,SF,uW]at h;simp only[mM,bR,jr]at hg';obtain⟨_,g2,_⟩:=hg';have h5:x.length<=5:=by rcases h.2.2 with e | e<;>omega
 simp only[mM,bR,jr]at hg;obtain⟨g1,_,g3,g4⟩:=hg;exact⟨⟨g1,O,g4,g3,(lM h.1).2,(lM h.2.1).2⟩,h5⟩
def uv(x y:List eO)(u v:eO)(hx:∀a∈x,a.In)(hy:∀a∈y,a.In)(hs:x.length<140737488355328)(oz:y.length<140737488355328)(hbad:cd3 x y u v=false):aX prog 6 [(.one (sN x):aQ),(.one (sN y):aQ),(nT u:aQ),(nT v:aQ)] (.ret [.one (.bool true)]):=by
 refine eD func6 lT ?_;by_cases hls:yc x y 5=true
 rotate_left
 .rw[Bool.not_eq_true]at hls;apply aA (Za x y 5 hls hx hy hs oz);apply vn fk;refine nI true rfl (fun _=>?_) (fun h=>by cases h);apply aA rD;exact aR
 apply aA (CP x y 5 hls hx hy hs oz);apply vn fk;refine nI false rfl (fun h=>by cases h) (fun _=>?_);apply et (us:=[nC u,nC v]);apply aA (rU [u,v] 2 aT);rw[show iM [u,v] 2=false by rw[cd3,hls]at hbad;simpa using hbad];apply vn fk;refine nI true rfl (fun _=>?_) (fun h=>by cases h);apply aA rD;exact aR
def vy(x y:List eO)(u v:eO)(hx:∀a∈x,a.In)(hy:∀a∈y,a.In)(hu:u.In)(hv:v.In)(hs:x.length<140737488355328)(oz:y.length<140737488355328)(hls:yc x y 5=true)(htm:iM [u,v] 2=true)(hg:mM (au x) (au y)=false):aX prog 6 [(.one (sN x):aQ),(.one (sN y):aQ),(nT u:aQ),(nT v:aQ)] (.ret [.one (.bool true)]):=by
 refine eD func6 lT ?_
 obtain⟨tx,ty⟩:iM x 50=true/\iM y 50=true:=by
  simp only[yc,bR]at hls;exact⟨hls.1,hls.2.1⟩
 have lx:=qu tx;have ly:=qu ty;have hXl:(au x).length=x.length:=aL _;have hYl:(au y).length=y.length:=aL _;have hRl:(ec x).length=x.length:=aL _;have hRl2:(ec y).length=y.length:=aL _;apply aA (CP x y 5 hls hx hy hs oz);apply vn fk;refine nI false rfl (fun h=>by cases h) (fun _=>?_);apply et (us:=[nC u,nC v]);apply aA (rU [u,v] 2 aT);rw[htm];apply vn fk;refine nI false rfl (fun h=>by cases h) (fun _=>?_);apply aA (yC u hu);apply aA (yC v hv);apply aA (Vo (au x) (au y) 40 (lM tx).2 hg);dsimp only[aU,aV];apply aA (Wj (au x) (au y) u.v v.v 40 (lM tx).2 hg);apply aA (QA (au x) (au y) 40 (lM tx).2 hg);apply aA (WW (ec x) (ec y) 40 (oP (by rw[fe];exact(lM tx).2))) rfl;rw[fe,fe,hg];apply vn fk;refine nI true rfl (fun _=>?_) (fun h=>by cases h);apply vn cW;refine l4 ?_ ?_<;>intro h20
 .apply vn cW;refine l4 ?_ ?_<;>intro h22
  .apply vn cW;refine l4 ?_ ?_<;>intro h24
   .apply aA tu;dsimp only[aU,aV];refine nI true rfl (fun _=>?_) (fun h=>by cases h);apply aA tu;refine nI true rfl (fun _=>?_) (fun h=>by cases h);apply aA tu;refine nI true rfl (fun _=>?_) (fun h=>by cases h);apply aA rD;exact aR
   exact absurd rfl ‹_›
  exact absurd rfl ‹_›
 exact absurd rfl ‹_›
def aS6{x y:List eO}{k:Nat}{u v:Rat}{mm:c4}(D:wI (au x) (au y))(h5:x.length<=5)(hk:k<=2)(h3:2<=k->3<=(au x).length)(fu:Fit 40 u)(fv:Fit 40 v)(he:vF (au x) (au y) mm)(hE:CuE (au x) k u v (Ya ((au x).length-1) (jG (au x) (au y) mm)))(hm:∀a∈mm,Fit 800000 a) :
  ∃ps,aX prog 53 [.one (sR (ec x)),.one (sR (ec y)),.one (.int .i64 (k:Int)),jl (.of u),jl (.of v)] (.ret [.agg (vu (ec x) ps)])/\aX prog 25 [.agg [sQ (au x),eQ (pcs (au x) (jG (au x) (au y) mm))],.agg (vu (ec x) ps)] (.ret [.one (.bool true)]):=by
 have hXl:(au x).length=x.length:=aL _;have hRl:(ec x).length=x.length:=aL _;have h:=aF8 (x:=ec x) (y:=ec y) (k:=k) (a:=.of u) (b:=.of v) (mm:=mm) (by rw[fe,fe];exact D) O hk (fun h=>by have:=h3 h;omega) fu fv (by rw[fe,fe];exact he) (by rw[fe,fe,hRl,<-hXl];exact hE) hm;rw[fe,fe]at h;exact h
def ox(x y:List eO)(u v:eO)(m c:c4)(ps qs:List (List RQ))(r:List aC)(g:Int)(hr:∃c d,r=[c,d])(hx:∀a∈x,a.In)(hy:∀a∈y,a.In)(hu:u.In)(hv:v.In)(hs:x.length<140737488355328)(oz:y.length<140737488355328)(hls:yc x y 5=true)(htm:iM [u,v] 2=true)(hg:mM (au x) (au y)=true)(D:wI (au x) (au y))(h5:x.length<=5)(dN:aX prog 49 [.one (sQ (au x)),.one (sQ (au y))] (.ret [.agg [sQ (au x),eQ (pcs (au x) (jG (au x) (au y) m))],.one (.int .i64 0)]))(dC:aX prog 50 [.one (sQ (au x)),.one (sQ (au y)),qT u.v,qT v.v] (.ret [.agg [sQ (au x),eQ (pcs (au x) (jG (au x) (au y) c))],.one (.int .i64 0)]))(dP:aX prog 51 [.one (sQ (au x)),.one (sQ (au y))] (.ret [.agg r,.one (.int .i64 g)]))(g0:aX prog 53 [.one (sR (ec x)),.one (sR (ec y)),.one (.int .i64 0),jl (.of u.v),jl (.of v.v)] (.ret [.agg (vu (ec x) ps)]))(s0:aX prog 25 [.agg [sQ (au x),eQ (pcs (au x) (jG (au x) (au y) m))],.agg (vu (ec x) ps)] (.ret [.one (.bool true)]))(g1:aX prog 53 [.one (sR (ec x)),.one (sR (ec y)),.one (.int .i64 1),jl (.of u.v),jl (.of v.v)] (.ret [.agg (vu (ec x) qs)]))(s1:aX prog 25 [.agg [sQ (au x),eQ (pcs (au x) (jG (au x) (au y) c))],.agg (vu (ec x) qs)] (.ret [.one (.bool true)]))(hP:(g=2/\r=[sQ [],eQ []]/\((au x).length<3\/(au y).getD 0 0≠(au y).getD ((au y).length-1) 0))\/(g=0/\3<=(au x).length/\(au y).getD 0 0=(au y).getD ((au y).length-1) 0/\∃ts,aX prog 53 [.one (sR (ec x)),.one (sR (ec y)),.one (.int .i64 2),jl (.of u.v),jl (.of v.v)] (.ret [.agg (vu (ec x) ts)])/\aX prog 25 [.agg r,.agg (vu (ec x) ts)] (.ret [.one (.bool true)]))):aX prog 6 [(.one (sN x):aQ),(.one (sN y):aQ),(nT u:aQ),(nT v:aQ)] (.ret [.one (.bool true)]):=by
 refine eD func6 lT ?_
 obtain⟨tx,ty⟩:iM x 50=true/\iM y 50=true:=by
  simp only[yc,bR]at hls;exact⟨hls.1,hls.2.1⟩
 obtain⟨r1,r2,rfl⟩:=hr;have lx:=qu tx;have ly:=qu ty;have hXl:(au x).length=x.length:=aL _;have hYl:(au y).length=y.length:=aL _;have hRl:(ec x).length=x.length:=aL _;have hRl2:(ec y).length=y.length:=aL _;have fu:Fit 40 u.v:=(lM htm).2 _ (cE);have fv:Fit 40 v.v:=(lM htm).2 _ (cg _ cE);have D2:=D.h2;have Dxy:=D.hxy;have hyq:∀i,(xr (ec y) i).q=(au y).getD i 0:=fun i=>by rw[xr,<-fV,fe]
 have fY:=fun i=>ko (show 1<=40 by omega) D.hy i;apply aA (CP x y 5 hls hx hy hs oz);apply vn fk;refine nI false rfl (fun h=>by cases h) (fun _=>?_);apply et (us:=[nC u,nC v]);apply aA (rU [u,v] 2 aT);rw[htm];apply vn fk;refine nI false rfl (fun h=>by cases h) (fun _=>?_);apply aA (yC u hu);apply aA (yC v hv);apply aA dN;dsimp only[aU,aV];apply aA dC;apply aA dP;apply aA (WW (ec x) (ec y) 40 (oP (by rw[fe];exact(lM tx).2))) rfl;rw[fe,fe,hg];apply vn fk;refine nI false rfl (fun h=>by cases h) (fun _=>?_);apply vn iC;refine l4 ?_ ?_<;>intro h40
 .exact absurd rfl ‹_›
 apply vn iC;refine l4 ?_ ?_<;>intro h43
 .exact absurd rfl ‹_›
 apply aA g0;apply aA s0;dsimp only[aU,aV];apply vn fk;refine nI false rfl (fun h=>by cases h) (fun _=>?_);apply aA g1;apply aA s1;apply vn fk;refine nI false rfl (fun h=>by cases h) (fun _=>?_);apply vn (ae jK (aL _));apply vn bO;refine l4 ?_ ?_<;>intro h57
 .obtain⟨rfl,hr2,_⟩:=hP.resolve_right fun h=>by have:=h.2.1;omega
  cases hr2;apply vn cW;refine l4 ?_ ?_<;>intro h59
  .apply aA tu;dsimp only[aU,aV];refine nI true rfl (fun _=>?_) (fun h=>by cases h);apply aA rD;exact aR
  exact absurd rfl ‹_›
 apply vn (aN (f:=rC) jK (m:=0) O rfl (ph (show 0<(ec y).length by omega)));apply vn (ab nH bY aT (.inl rfl));apply vn (ae jK (aL _));apply vn (aI O O);dsimp only[aU,aV];apply vn (aN (f:=rC) jK (m:=(au y).length-1) O O (ph (show(au y).length-1<(ec y).length by omega)));apply vn (ab nH bY aT (.inl rfl));apply aA (aD5 (xr (ec y) 0) (xr (ec y) ((au y).length-1)) 40 40 (by rw[hyq];exact fY _) (by rw[hyq];exact fY _)) rfl;rw[hyq,hyq];apply vn iC;refine l4 ?_ ?_<;>intro h74
 .obtain⟨rfl,hr2,_⟩:=hP.resolve_right fun h=>h74 (ya.2 h.2.2.1);cases hr2;apply vn cW;refine l4 ?_ ?_<;>intro h76
  .apply aA tu;refine nI true rfl (fun _=>?_) (fun h=>by cases h);apply aA rD;exact aR
  exact absurd rfl ‹_›
 obtain⟨rfl,_,_,ts,g2,s2⟩:=hP.resolve_left fun h=>h.2.2.elim (fun h=>O) fun h=>h (ya.1 (wz.1 h74));apply vn cW;refine l4 ?_ ?_<;>intro h84
 .apply aA g2;dsimp only[aU,aV];apply aA s2;refine nI true rfl (fun _=>?_) (fun h=>by cases h);apply aA rD;exact aR
 exact absurd rfl ‹_›
def wW(x y:List eO)(u v:eO)(hx:∀a∈x,a.In)(hy:∀a∈y,a.In)(hu:u.In)(hv:v.In)(hs:x.length<140737488355328)(oz:y.length<140737488355328) :
  aX prog 6 [.one (sN x),.one (sN y),nT u,nT v] (.ret [.one (.bool true)]):=by
 by_cases hok:cd3 x y u v=true
 rotate_left
 .exact uv x y u v hx hy hs oz (by simpa using hok)
 obtain⟨hls,htm⟩:=Bool.and_eq_true_iff.1 hok;by_cases hg:mM (au x) (au y)=true
 rotate_left
 .exact vy x y u v hx hy hu hv hs oz hls htm (by simpa using hg)
 obtain⟨D,h5⟩:=bj0 hls hg;have fu:Fit 40 u.v:=(lM htm).2 _ (cE);have fv:Fit 40 v.v:=(lM htm).2 _ (cg _ cE);obtain⟨m,hm1,hm2,hm3,hm4,hm5,hm6⟩:=bg3 D;obtain⟨c,hc1,hc2,hc3,hc4,hc5,hc6⟩:=bq1 D fu fv;have hm8:∀a∈m,Fit 800000 a:=fun a ha=>(hm6 a ha).mono O;have hc8:∀a∈c,Fit 800000 a:=fun a ha=>(hc6 a ha).mono O;obtain⟨ps,g0,s0⟩:=aS6 (k:=0) D h5 O O fu fv hm3 (bm7 D hm4 hm5) hm8;obtain⟨qs,g1,s1⟩:=aS6 (k:=1) D h5 O O fu fv hc3 (bf5 D hc4 hc5) hc8;have dN:=bM5 D hm8 hm2 hm1;have dC:=bO5 D fu fv hc8 hc2 hc1;by_cases hq:3<=(au x).length/\(au y).getD 0 0=(au y).getD ((au y).length-1) 0
 .obtain⟨h3,hye⟩:=hq;obtain⟨k,hk1,hk2,hk3,hk4,hk5,hk6⟩:=bv7 D h3;obtain⟨ts,g2,s2⟩:=aS6 (k:=2) D h5 O (fun _=>h3) fu fv hk3 (be5 D hk4 hk5) hk6;exact ox x y u v m c ps qs _ 0 ⟨_,_,rfl⟩ hx hy hu hv hs oz hls htm hg D h5 dN dC (bD3 D h3 (by rw[hye,D.hxy]) hk6 hk2 hk1) g0 s0 g1 s1 (.inr ⟨rfl,h3,hye,ts,g2,s2⟩)
 .have hno:(au x).length<3\/(au y).getD 0 0≠(au y).getD ((au y).length-1) 0:=by
   by_cases h3:3<=(au x).length
   .exact .inr fun h=>hq ⟨h3,h⟩
   .exact .inl O
  exact ox x y u v m c ps qs _ 2 ⟨_,_,rfl⟩ hx hy hu hv hs oz hls htm hg D h5 dN dC (Tz (au x) (au y) D hno) g0 s0 g1 s1 (.inl ⟨rfl,rfl,hno⟩)
end Go.Sy
