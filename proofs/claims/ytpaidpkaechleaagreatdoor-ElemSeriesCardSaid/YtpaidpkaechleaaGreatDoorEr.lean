/- Part. -/
import Derived.Test.YtpaidpkaechleaaGreatDoorEf
set_option linter.all false
namespace Go.Sy
open Go Go.Proofs Tryz Ord
def aF:Tr:=.ret [(tF false)]
def Iv:Tr:=aO .eql 3 72 0 18 0 4 (.split (.u 19 0) (aC 12 [] [none] [] [] 4 true (.ret [(W 20 0)])) aF)
def XR:Tr:=.split (.u 14 0) (.need (.prim [(W 11 0),(WK 2)] none) (.binOp .eql 40 (tT 61) (tT 62) 40) 4 false (.split (.u 15 0) (dH 8 0 66 52 (aO .eql 3 67 0 16 0 4 (.split (.u 17 0) (aC 17 [(G3 10)] [none] [71] [30] 3 false Iv) aF))) aF)) aF
def Iw:Tr:=mN 20 0 (some 3) 30 93 (aC 19 [(W 0 0),(W 18 0)] [(some 4)] [95,96] [5,3] 35 false (aC 18 [(G3 21),(G4 22)] [none] [94,97] [30,35] 4 true (.need (.prim [(W 23 0)] none) (.unOp .not 4 (tT 98)) 4 false (.split (.u 24 0) aF (aO .add 3 89 1 18 0 3 (.back 0 [lV 17 0,lV 25 0]))))))
def uM:Tr:=aC 12 [] [none] [] [] 4 true (.ret [(W 25 0)])
def Kc:Tr:=aO .eql 3 107 0 23 0 4 (.split (.u 24 0) uM aF)
def uQ:Tr:=aC 12 [] [none] [] [] 4 true (.ret [(W 24 0)])
def vA:Tr:=.split (.u 29 0) (aC 12 [] [none] [] [] 4 true (.ret [(W 30 0)])) aF
def Kl:Tr:=aO .eql 3 130 0 28 0 4 vA
def vH:Tr:=.split (.u 28 0) (aC 12 [] [none] [] [] 4 true (.ret [(W 29 0)])) aF
def XB:Tr:=.split (.u 23 0) uQ (aC 20 [(W 0 0),(W 5 0),(G4 7)] [(some 4),none] [118,119,120] [5,3,35] 60 false (.need (.prim [(W 25 0)] none) (.unOp .not 4 (tT 124)) 4 false (.split (.u 26 0) (aO .eql 40 126 11 11 0 4 (.split (.u 27 0) (aC 17 [(G3 10)] [none] [129] [30] 3 false Kl) aF)) (aO .eql 40 136 0 11 0 4 (.split (.u 27 0) (aC 18 [(G3 10),(G4 24)] [none] [139,140] [30,35] 4 false vH) aF)))))
def VX:Tr:=.split (.u 19 0) (mB 8 0 18 0 52 91 92 Iw) (aC 11 [(G4 7)] [none] [100] [35] 3 true (aO .leq 3 101 0 20 0 4 (.split (.u 21 0) (aO .eql 40 103 2 11 0 4 (.split (.u 22 0) (aC 17 [(G3 10)] [none] [106] [30] 3 false Kc) aF)) (aC 13 [(G4 7)] [none] [113] [35] 3 true (aO .gtr 3 114 12 22 0 4 XB)))))
def Xw:Tr:=aO .neq 40 78 0 9 0 4 (.split (.u 14 0) aF (dH 8 0 81 52 (bG .neq 3 82 83 15 0 5 0 4 (.split (.u 16 0) aF (.loop 0 [(.w (.one (.c (.k (.bool false))))),lK 0] (bG .lss 3 86 87 18 0 5 0 4 VX))))))
def Kk:Tr:=aO .eql 3 72 0 19 0 4 (.split (.u 20 0) (aC 12 [] [none] [] [] 4 true (.ret [(W 21 0)])) aF)
def XW:Tr:=.split (.u 15 0) (.need (.prim [(W 11 0),(WK 2)] none) (.binOp .eql 40 (tT 61) (tT 62) 40) 4 false (.split (.u 16 0) (dH 8 0 66 52 (aO .eql 3 67 0 17 0 4 (.split (.u 18 0) (aC 17 [(G3 10)] [none] [71] [30] 3 false Kk) aF))) aF)) aF
def Ch:Tr:=mN 21 0 (some 3) 30 93 (aC 19 [(W 0 0),(W 19 0)] [(some 4)] [95,96] [5,3] 35 false (aC 18 [(G3 22),(G4 23)] [none] [94,97] [30,35] 4 true (.need (.prim [(W 24 0)] none) (.unOp .not 4 (tT 98)) 4 false (.split (.u 25 0) aF (aO .add 3 89 1 19 0 3 (.back 0 [lV 18 0,lV 26 0]))))))
def EO:Tr:=aC 12 [] [none] [] [] 4 true (.ret [(W 26 0)])
def CH:Tr:=aO .eql 3 107 0 24 0 4 (.split (.u 25 0) EO aF)
def wM:Tr:=.split (.u 30 0) (aC 12 [] [none] [] [] 4 true (.ret [(W 31 0)])) aF
def ES:Tr:=aO .eql 3 130 0 29 0 4 wM
def Tc:Tr:=.split (.u 24 0) uM (aC 20 [(W 0 0),(W 5 0),(G4 7)] [(some 4),none] [118,119,120] [5,3,35] 60 false (.need (.prim [(W 26 0)] none) (.unOp .not 4 (tT 124)) 4 false (.split (.u 27 0) (aO .eql 40 126 11 11 0 4 (.split (.u 28 0) (aC 17 [(G3 10)] [none] [129] [30] 3 false ES) aF)) (aO .eql 40 136 0 11 0 4 (.split (.u 28 0) (aC 18 [(G3 10),(G4 25)] [none] [139,140] [30,35] 4 false vA) aF)))))
def SI:Tr:=.split (.u 20 0) (mB 8 0 19 0 52 91 92 Ch) (aC 11 [(G4 7)] [none] [100] [35] 3 true (aO .leq 3 101 0 21 0 4 (.split (.u 22 0) (aO .eql 40 103 2 11 0 4 (.split (.u 23 0) (aC 17 [(G3 10)] [none] [106] [30] 3 false CH) aF)) (aC 13 [(G4 7)] [none] [113] [35] 3 true (aO .gtr 3 114 12 23 0 4 Tc)))))
def Va:Tr:=aO .neq 40 78 0 9 0 4 (.split (.u 15 0) aF (dH 8 0 81 52 (bG .neq 3 82 83 16 0 5 0 4 (.split (.u 17 0) aF (.loop 0 [(.w (.one (.c (.k (.bool false))))),lK 0] (bG .lss 3 86 87 19 0 5 0 4 SI))))))
def MP:Tr:=aC 12 [] [none] [] [] 4 true (.ret [(W 22 0)])
def Mw:Tr:=aO .eql 3 72 0 20 0 4 (.split (.u 21 0) MP aF)
def SE:Tr:=.split (.u 16 0) (.need (.prim [(W 11 0),(WK 3)] none) (.binOp .eql 40 (tT 61) (tT 62) 40) 4 false (.split (.u 17 0) (dH 8 0 66 52 (aO .eql 3 67 0 18 0 4 (.split (.u 19 0) (aC 17 [(G3 10)] [none] [71] [30] 3 false Mw) aF))) aF)) aF
def Mc:Tr:=mN 22 0 (some 3) 30 93 (aC 19 [(W 0 0),(W 20 0)] [(some 4)] [95,96] [5,3] 35 false (aC 18 [(G3 23),(G4 24)] [none] [94,97] [30,35] 4 true (.need (.prim [(W 25 0)] none) (.unOp .not 4 (tT 98)) 4 false (.split (.u 26 0) aF (aO .add 3 89 1 20 0 3 (.back 0 [lV 19 0,lV 27 0]))))))
def Mx:Tr:=aC 12 [] [none] [] [] 4 true (.ret [(W 27 0)])
def MA:Tr:=.split (.u 26 0) Mx aF
def MV:Tr:=aO .eql 3 107 0 25 0 4 MA
def Lw:Tr:=.split (.u 31 0) (aC 12 [] [none] [] [] 4 true (.ret [(W 32 0)])) aF
def Mb:Tr:=aO .eql 3 130 0 30 0 4 Lw
def RT:Tr:=.split (.u 25 0) EO (aC 20 [(W 0 0),(W 5 0),(G4 7)] [(some 4),none] [118,119,120] [5,3,35] 60 false (.need (.prim [(W 27 0)] none) (.unOp .not 4 (tT 124)) 4 false (.split (.u 28 0) (aO .eql 40 126 11 11 0 4 (.split (.u 29 0) (aC 17 [(G3 10)] [none] [129] [30] 3 false Mb) aF)) (aO .eql 40 136 0 11 0 4 (.split (.u 29 0) (aC 18 [(G3 10),(G4 26)] [none] [139,140] [30,35] 4 false wM) aF)))))
def Vz:Tr:=.split (.u 21 0) (mB 8 0 20 0 52 91 92 Mc) (aC 11 [(G4 7)] [none] [100] [35] 3 true (aO .leq 3 101 0 22 0 4 (.split (.u 23 0) (aO .eql 40 103 2 11 0 4 (.split (.u 24 0) (aC 17 [(G3 10)] [none] [106] [30] 3 false MV) aF)) (aC 13 [(G4 7)] [none] [113] [35] 3 true (aO .gtr 3 114 12 24 0 4 RT)))))
def Uu:Tr:=aO .neq 40 78 0 9 0 4 (.split (.u 16 0) aF (dH 8 0 81 52 (bG .neq 3 82 83 17 0 5 0 4 (.split (.u 18 0) aF (.loop 0 [(.w (.one (.c (.k (.bool false))))),lK 0] (bG .lss 3 86 87 20 0 5 0 4 Vz))))))
def zS:Tr:=aC 12 [] [none] [] [] 4 true (.ret [(W 23 0)])
def Mv:Tr:=.split (.u 22 0) zS aF
def Me:Tr:=.split (.u 18 0) (dH 8 0 66 52 (aO .eql 3 67 0 19 0 4 (.split (.u 20 0) (aC 17 [(G3 10)] [none] [71] [30] 3 false (aO .eql 3 72 0 21 0 4 Mv)) aF))) aF
def Sw:Tr:=mN 23 0 (some 3) 30 93 (aC 19 [(W 0 0),(W 21 0)] [(some 4)] [95,96] [5,3] 35 false (aC 18 [(G3 24),(G4 25)] [none] [94,97] [30,35] 4 true (.need (.prim [(W 26 0)] none) (.unOp .not 4 (tT 98)) 4 false (.split (.u 27 0) aF (aO .add 3 89 1 21 0 3 (.back 0 [lV 20 0,lV 28 0]))))))
def rI:Tr:=.split (.u 27 0) (aC 12 [] [none] [] [] 4 true (.ret [(W 28 0)])) aF
def Uv:Tr:=aO .eql 40 126 11 11 0 4 (.split (.u 30 0) (aC 17 [(G3 10)] [none] [129] [30] 3 false (aO .eql 3 130 0 31 0 4 (.split (.u 32 0) (aC 12 [] [none] [] [] 4 true (.ret [(W 33 0)])) aF))) aF)
def Vx:Tr:=.split (.u 26 0) Mx (aC 20 [(W 0 0),(W 5 0),(G4 7)] [(some 4),none] [118,119,120] [5,3,35] 60 false (.need (.prim [(W 28 0)] none) (.unOp .not 4 (tT 124)) 4 false (.split (.u 29 0) Uv (aO .eql 40 136 0 11 0 4 (.split (.u 30 0) (aC 18 [(G3 10),(G4 27)] [none] [139,140] [30,35] 4 false Lw) aF)))))
def Tv:Tr:=aC 11 [(G4 7)] [none] [100] [35] 3 true (aO .leq 3 101 0 23 0 4 (.split (.u 24 0) (aO .eql 40 103 2 11 0 4 (.split (.u 25 0) (aC 17 [(G3 10)] [none] [106] [30] 3 false (aO .eql 3 107 0 26 0 4 rI)) aF)) (aC 13 [(G4 7)] [none] [113] [35] 3 true (aO .gtr 3 114 12 25 0 4 Vx))))
def TK:Tr:=dH 8 0 81 52 (bG .neq 3 82 83 18 0 5 0 4 (.split (.u 19 0) aF (.loop 0 [(.w (.one (.c (.k (.bool false))))),lK 0] (bG .lss 3 86 87 21 0 5 0 4 (.split (.u 22 0) (mB 8 0 21 0 52 91 92 Sw) Tv)))))
def Ly:Tr:=aO .neq 40 78 0 9 0 4 (.split (.u 17 0) aF TK)
def UD:Tr:=aO .gtr 3 52 200 5 0 4 (.split (.u 15 0) (.need (.prim [(WK 3),(WK 0)] none) (.binOp .neq 40 (tT 55) (.const (I3 0)) 40) 4 false (.split (.u 16 0) (.need (.prim [(W 9 0),(WK 3)] none) (.binOp .eql 40 (tT 57) (tT 58) 40) 4 false (.split (.u 17 0) (.need (.prim [(W 11 0),(WK 3)] none) (.binOp .eql 40 (tT 61) (tT 62) 40) 4 false Me) aF)) Ly)) (.need (.prim [(WK 0),(WK 0)] none) (.binOp .neq 40 (tT 55) (.const (I3 0)) 40) 4 false (.split (.u 16 0) (.need (.prim [(W 9 0),(WK 0)] none) (.binOp .eql 40 (tT 57) (tT 58) 40) 4 false (.split (.u 17 0) (.need (.prim [(W 11 0),(WK 0)] none) (.binOp .eql 40 (tT 61) (tT 62) 40) 4 false Me) aF)) Ly)))
def XU:Tr:=.need (.prim [(W 0 0),(.one (.c (.k (.int .u8 6))))] none) (.binOp .gtr 5 (tT 46) (.const (.int .u8 6)) 5) 4 false (.split (.u 13 0) (.need (.prim [(WK 2),(WK 0)] none) (.binOp .neq 40 (tT 55) (.const (I3 0)) 40) 4 false (.split (.u 14 0) (.need (.prim [(W 9 0),(WK 2)] none) (.binOp .eql 40 (tT 57) (tT 58) 40) 4 false XW) Va)) (aO .lss 3 49 0 5 0 4 (.split (.u 14 0) (.need (.prim [(WK 3),(WK 0)] none) (.binOp .neq 40 (tT 55) (.const (I3 0)) 40) 4 false (.split (.u 15 0) (.need (.prim [(W 9 0),(WK 3)] none) (.binOp .eql 40 (tT 57) (tT 58) 40) 4 false SE) Uu)) UD)))
def ar8:Tr:=aC 15 [(W 0 0),(W 5 0)] [none,none] [31,32] [5,3] 53 false (aC 16 [(W 0 0),(W 5 0),(G3 6)] [(some 3),none] [37,38,39] [5,3,30] 55 false (.need (.prim [(W 0 0),(.one (.c (.k (.int .u8 1))))] none) (.binOp .lss 5 (tT 43) (.const (.int .u8 1)) 5) 4 false (.split (.u 12 0) (.need (.prim [(WK 2),(WK 0)] none) (.binOp .neq 40 (tT 55) (.const (I3 0)) 40) 4 false (.split (.u 13 0) (.need (.prim [(W 9 0),(WK 2)] none) (.binOp .eql 40 (tT 57) (tT 58) 40) 4 false XR) Xw)) XU)))
def MX:Tr:=aO .eql 3 72 0 17 0 4 (.split (.u 18 0) (aC 12 [] [none] [] [] 4 true (.ret [(W 19 0)])) aF)
def Td:Tr:=.split (.u 13 0) (.need (.prim [(W 10 0),(WK 2)] none) (.binOp .eql 40 (tT 61) (tT 62) 40) 4 false (.split (.u 14 0) (dH 7 0 66 52 (aO .eql 3 67 0 15 0 4 (.split (.u 16 0) (aC 17 [(G3 9)] [none] [71] [30] 3 false MX) aF))) aF)) aF
def MU:Tr:=mN 19 0 (some 3) 30 93 (aC 19 [(W 0 0),(W 17 0)] [(some 4)] [95,96] [5,3] 35 false (aC 18 [(G3 20),(G4 21)] [none] [94,97] [30,35] 4 true (.need (.prim [(W 22 0)] none) (.unOp .not 4 (tT 98)) 4 false (.split (.u 23 0) aF (aO .add 3 89 1 17 0 3 (.back 0 [lV 16 0,lV 24 0]))))))
def ML:Tr:=aO .eql 3 107 0 22 0 4 (.split (.u 23 0) uQ aF)
def LL:Tr:=aO .eql 3 130 0 27 0 4 vH
def Vt:Tr:=.split (.u 22 0) zS (aC 20 [(W 0 0),(W 1 0),(G4 6)] [(some 4),none] [118,119,120] [5,3,35] 60 false (.need (.prim [(W 24 0)] none) (.unOp .not 4 (tT 124)) 4 false (.split (.u 25 0) (aO .eql 40 126 11 10 0 4 (.split (.u 26 0) (aC 17 [(G3 9)] [none] [129] [30] 3 false LL) aF)) (aO .eql 40 136 0 10 0 4 (.split (.u 26 0) (aC 18 [(G3 9),(G4 23)] [none] [139,140] [30,35] 4 false rI) aF)))))
def Tb:Tr:=.split (.u 18 0) (mB 7 0 17 0 52 91 92 MU) (aC 11 [(G4 6)] [none] [100] [35] 3 true (aO .leq 3 101 0 19 0 4 (.split (.u 20 0) (aO .eql 40 103 2 10 0 4 (.split (.u 21 0) (aC 17 [(G3 9)] [none] [106] [30] 3 false ML) aF)) (aC 13 [(G4 6)] [none] [113] [35] 3 true (aO .gtr 3 114 12 21 0 4 Vt)))))
def Rm:Tr:=aO .neq 40 78 0 8 0 4 (.split (.u 13 0) aF (dH 7 0 81 52 (bG .neq 3 82 83 14 0 1 0 4 (.split (.u 15 0) aF (.loop 0 [(.w (.one (.c (.k (.bool false))))),lK 0] (bG .lss 3 86 87 17 0 1 0 4 Tb))))))
def VA:Tr:=.split (.u 14 0) (.need (.prim [(W 10 0),(WK 2)] none) (.binOp .eql 40 (tT 61) (tT 62) 40) 4 false (.split (.u 15 0) (dH 7 0 66 52 (aO .eql 3 67 0 16 0 4 (.split (.u 17 0) (aC 17 [(G3 9)] [none] [71] [30] 3 false Iv) aF))) aF)) aF
def TL:Tr:=.split (.u 23 0) uQ (aC 20 [(W 0 0),(W 1 0),(G4 6)] [(some 4),none] [118,119,120] [5,3,35] 60 false (.need (.prim [(W 25 0)] none) (.unOp .not 4 (tT 124)) 4 false (.split (.u 26 0) (aO .eql 40 126 11 10 0 4 (.split (.u 27 0) (aC 17 [(G3 9)] [none] [129] [30] 3 false Kl) aF)) (aO .eql 40 136 0 10 0 4 (.split (.u 27 0) (aC 18 [(G3 9),(G4 24)] [none] [139,140] [30,35] 4 false vH) aF)))))
def UO:Tr:=.split (.u 19 0) (mB 7 0 18 0 52 91 92 Iw) (aC 11 [(G4 6)] [none] [100] [35] 3 true (aO .leq 3 101 0 20 0 4 (.split (.u 21 0) (aO .eql 40 103 2 10 0 4 (.split (.u 22 0) (aC 17 [(G3 9)] [none] [106] [30] 3 false Kc) aF)) (aC 13 [(G4 6)] [none] [113] [35] 3 true (aO .gtr 3 114 12 22 0 4 TL)))))
def Vk:Tr:=aO .neq 40 78 0 8 0 4 (.split (.u 14 0) aF (dH 7 0 81 52 (bG .neq 3 82 83 15 0 1 0 4 (.split (.u 16 0) aF (.loop 0 [(.w (.one (.c (.k (.bool false))))),lK 0] (bG .lss 3 86 87 18 0 1 0 4 UO))))))
def Uk:Tr:=.split (.u 15 0) (.need (.prim [(W 10 0),(WK 3)] none) (.binOp .eql 40 (tT 61) (tT 62) 40) 4 false (.split (.u 16 0) (dH 7 0 66 52 (aO .eql 3 67 0 17 0 4 (.split (.u 18 0) (aC 17 [(G3 9)] [none] [71] [30] 3 false Kk) aF))) aF)) aF
def RW:Tr:=.split (.u 24 0) uM (aC 20 [(W 0 0),(W 1 0),(G4 6)] [(some 4),none] [118,119,120] [5,3,35] 60 false (.need (.prim [(W 26 0)] none) (.unOp .not 4 (tT 124)) 4 false (.split (.u 27 0) (aO .eql 40 126 11 10 0 4 (.split (.u 28 0) (aC 17 [(G3 9)] [none] [129] [30] 3 false ES) aF)) (aO .eql 40 136 0 10 0 4 (.split (.u 28 0) (aC 18 [(G3 9),(G4 25)] [none] [139,140] [30,35] 4 false vA) aF)))))
def Rv:Tr:=.split (.u 20 0) (mB 7 0 19 0 52 91 92 Ch) (aC 11 [(G4 6)] [none] [100] [35] 3 true (aO .leq 3 101 0 21 0 4 (.split (.u 22 0) (aO .eql 40 103 2 10 0 4 (.split (.u 23 0) (aC 17 [(G3 9)] [none] [106] [30] 3 false CH) aF)) (aC 13 [(G4 6)] [none] [113] [35] 3 true (aO .gtr 3 114 12 23 0 4 RW)))))
def RO:Tr:=aO .neq 40 78 0 8 0 4 (.split (.u 15 0) aF (dH 7 0 81 52 (bG .neq 3 82 83 16 0 1 0 4 (.split (.u 17 0) aF (.loop 0 [(.w (.one (.c (.k (.bool false))))),lK 0] (bG .lss 3 86 87 19 0 1 0 4 Rv))))))
def MW:Tr:=.split (.u 17 0) (dH 7 0 66 52 (aO .eql 3 67 0 18 0 4 (.split (.u 19 0) (aC 17 [(G3 9)] [none] [71] [30] 3 false Mw) aF))) aF
def Vh:Tr:=.split (.u 25 0) EO (aC 20 [(W 0 0),(W 1 0),(G4 6)] [(some 4),none] [118,119,120] [5,3,35] 60 false (.need (.prim [(W 27 0)] none) (.unOp .not 4 (tT 124)) 4 false (.split (.u 28 0) (aO .eql 40 126 11 10 0 4 (.split (.u 29 0) (aC 17 [(G3 9)] [none] [129] [30] 3 false Mb) aF)) (aO .eql 40 136 0 10 0 4 (.split (.u 29 0) (aC 18 [(G3 9),(G4 26)] [none] [139,140] [30,35] 4 false wM) aF)))))
def Sa:Tr:=.split (.u 21 0) (mB 7 0 20 0 52 91 92 Mc) (aC 11 [(G4 6)] [none] [100] [35] 3 true (aO .leq 3 101 0 22 0 4 (.split (.u 23 0) (aO .eql 40 103 2 10 0 4 (.split (.u 24 0) (aC 17 [(G3 9)] [none] [106] [30] 3 false MV) aF)) (aC 13 [(G4 6)] [none] [113] [35] 3 true (aO .gtr 3 114 12 24 0 4 Vh)))))
def Mr:Tr:=aO .neq 40 78 0 8 0 4 (.split (.u 16 0) aF (dH 7 0 81 52 (bG .neq 3 82 83 17 0 1 0 4 (.split (.u 18 0) aF (.loop 0 [(.w (.one (.c (.k (.bool false))))),lK 0] (bG .lss 3 86 87 20 0 1 0 4 Sa))))))
def SL:Tr:=aO .gtr 3 52 200 1 0 4 (.split (.u 14 0) (.need (.prim [(WK 3),(WK 0)] none) (.binOp .neq 40 (tT 55) (.const (I3 0)) 40) 4 false (.split (.u 15 0) (.need (.prim [(W 8 0),(WK 3)] none) (.binOp .eql 40 (tT 57) (tT 58) 40) 4 false (.split (.u 16 0) (.need (.prim [(W 10 0),(WK 3)] none) (.binOp .eql 40 (tT 61) (tT 62) 40) 4 false MW) aF)) Mr)) (.need (.prim [(WK 0),(WK 0)] none) (.binOp .neq 40 (tT 55) (.const (I3 0)) 40) 4 false (.split (.u 15 0) (.need (.prim [(W 8 0),(WK 0)] none) (.binOp .eql 40 (tT 57) (tT 58) 40) 4 false (.split (.u 16 0) (.need (.prim [(W 10 0),(WK 0)] none) (.binOp .eql 40 (tT 61) (tT 62) 40) 4 false MW) aF)) Mr)))
def Rr:Tr:=.need (.prim [(W 0 0),(.one (.c (.k (.int .u8 6))))] none) (.binOp .gtr 5 (tT 46) (.const (.int .u8 6)) 5) 4 false (.split (.u 12 0) (.need (.prim [(WK 2),(WK 0)] none) (.binOp .neq 40 (tT 55) (.const (I3 0)) 40) 4 false (.split (.u 13 0) (.need (.prim [(W 8 0),(WK 2)] none) (.binOp .eql 40 (tT 57) (tT 58) 40) 4 false VA) Vk)) (aO .lss 3 49 0 1 0 4 (.split (.u 13 0) (.need (.prim [(WK 3),(WK 0)] none) (.binOp .neq 40 (tT 55) (.const (I3 0)) 40) 4 false (.split (.u 14 0) (.need (.prim [(W 8 0),(WK 3)] none) (.binOp .eql 40 (tT 57) (tT 58) 40) 4 false Uk) RO)) SL)))
def Sg:Tr:=aC 15 [(W 0 0),(W 1 0)] [none,none] [31,32] [5,3] 53 false (aC 16 [(W 0 0),(W 1 0),(G3 5)] [(some 3),none] [37,38,39] [5,3,30] 55 false (.need (.prim [(W 0 0),(.one (.c (.k (.int .u8 1))))] none) (.binOp .lss 5 (tT 43) (.const (.int .u8 1)) 5) 4 false (.split (.u 11 0) (.need (.prim [(WK 2),(WK 0)] none) (.binOp .neq 40 (tT 55) (.const (I3 0)) 40) 4 false (.split (.u 12 0) (.need (.prim [(W 8 0),(WK 2)] none) (.binOp .eql 40 (tT 57) (tT 58) 40) 4 false Td) Rm)) Rr)))
def SQ:Tr:=aO .eql 3 67 0 14 0 4 (.split (.u 15 0) (aC 17 [(G3 8)] [none] [71] [30] 3 false (aO .eql 3 72 0 16 0 4 (.split (.u 17 0) (aC 12 [] [none] [] [] 4 true (.ret [(W 18 0)])) aF))) aF)
def Vn:Tr:=mN 18 0 (some 3) 30 93 (aC 19 [(W 0 0),(W 16 0)] [(some 4)] [95,96] [5,3] 35 false (aC 18 [(G3 19),(G4 20)] [none] [94,97] [30,35] 4 true (.need (.prim [(W 21 0)] none) (.unOp .not 4 (tT 98)) 4 false (.split (.u 22 0) aF (aO .add 3 89 1 16 0 3 (.back 0 [lV 15 0,lV 23 0]))))))
def To:Tr:=aC 20 [(W 0 0),(W 1 0),(G4 5)] [(some 4),none] [118,119,120] [5,3,35] 60 false (.need (.prim [(W 23 0)] none) (.unOp .not 4 (tT 124)) 4 false (.split (.u 24 0) (aO .eql 40 126 11 9 0 4 (.split (.u 25 0) (aC 17 [(G3 8)] [none] [129] [30] 3 false (aO .eql 3 130 0 26 0 4 rI)) aF)) (aO .eql 40 136 0 9 0 4 (.split (.u 25 0) (aC 18 [(G3 8),(G4 22)] [none] [139,140] [30,35] 4 false MA) aF))))
def UA:Tr:=aC 11 [(G4 5)] [none] [100] [35] 3 true (aO .leq 3 101 0 18 0 4 (.split (.u 19 0) (aO .eql 40 103 2 9 0 4 (.split (.u 20 0) (aC 17 [(G3 8)] [none] [106] [30] 3 false (aO .eql 3 107 0 21 0 4 Mv)) aF)) (aC 13 [(G4 5)] [none] [113] [35] 3 true (aO .gtr 3 114 12 20 0 4 (.split (.u 21 0) MP To)))))
def UF:Tr:=dH 6 0 81 52 (bG .neq 3 82 83 13 0 1 0 4 (.split (.u 14 0) aF (.loop 0 [(.w (.one (.c (.k (.bool false))))),lK 0] (bG .lss 3 86 87 16 0 1 0 4 (.split (.u 17 0) (mB 6 0 16 0 52 91 92 Vn) UA)))))
def RM:Tr:=.need (.prim [(WK 2),(WK 0)] none) (.binOp .neq 40 (tT 55) (.const (I3 0)) 40) 4 false (.split (.u 11 0) (.need (.prim [(W 7 0),(WK 2)] none) (.binOp .eql 40 (tT 57) (tT 58) 40) 4 false (.split (.u 12 0) (.need (.prim [(W 9 0),(WK 2)] none) (.binOp .eql 40 (tT 61) (tT 62) 40) 4 false (.split (.u 13 0) (dH 6 0 66 52 SQ) aF)) aF)) (aO .neq 40 78 0 7 0 4 (.split (.u 12 0) aF UF)))
def RV:Tr:=.split (.u 13 0) (.need (.prim [(W 9 0),(WK 2)] none) (.binOp .eql 40 (tT 61) (tT 62) 40) 4 false (.split (.u 14 0) (dH 6 0 66 52 (aO .eql 3 67 0 15 0 4 (.split (.u 16 0) (aC 17 [(G3 8)] [none] [71] [30] 3 false MX) aF))) aF)) aF
def Rj:Tr:=.split (.u 22 0) zS (aC 20 [(W 0 0),(W 1 0),(G4 5)] [(some 4),none] [118,119,120] [5,3,35] 60 false (.need (.prim [(W 24 0)] none) (.unOp .not 4 (tT 124)) 4 false (.split (.u 25 0) (aO .eql 40 126 11 9 0 4 (.split (.u 26 0) (aC 17 [(G3 8)] [none] [129] [30] 3 false LL) aF)) (aO .eql 40 136 0 9 0 4 (.split (.u 26 0) (aC 18 [(G3 8),(G4 23)] [none] [139,140] [30,35] 4 false rI) aF)))))
def Tq:Tr:=.split (.u 18 0) (mB 6 0 17 0 52 91 92 MU) (aC 11 [(G4 5)] [none] [100] [35] 3 true (aO .leq 3 101 0 19 0 4 (.split (.u 20 0) (aO .eql 40 103 2 9 0 4 (.split (.u 21 0) (aC 17 [(G3 8)] [none] [106] [30] 3 false ML) aF)) (aC 13 [(G4 5)] [none] [113] [35] 3 true (aO .gtr 3 114 12 21 0 4 Rj)))))
def SR:Tr:=aO .neq 40 78 0 7 0 4 (.split (.u 13 0) aF (dH 6 0 81 52 (bG .neq 3 82 83 14 0 1 0 4 (.split (.u 15 0) aF (.loop 0 [(.w (.one (.c (.k (.bool false))))),lK 0] (bG .lss 3 86 87 17 0 1 0 4 Tq))))))
def SY:Tr:=.split (.u 14 0) (.need (.prim [(W 9 0),(WK 3)] none) (.binOp .eql 40 (tT 61) (tT 62) 40) 4 false (.split (.u 15 0) (dH 6 0 66 52 (aO .eql 3 67 0 16 0 4 (.split (.u 17 0) (aC 17 [(G3 8)] [none] [71] [30] 3 false Iv) aF))) aF)) aF
def SB:Tr:=.split (.u 23 0) uQ (aC 20 [(W 0 0),(W 1 0),(G4 5)] [(some 4),none] [118,119,120] [5,3,35] 60 false (.need (.prim [(W 25 0)] none) (.unOp .not 4 (tT 124)) 4 false (.split (.u 26 0) (aO .eql 40 126 11 9 0 4 (.split (.u 27 0) (aC 17 [(G3 8)] [none] [129] [30] 3 false Kl) aF)) (aO .eql 40 136 0 9 0 4 (.split (.u 27 0) (aC 18 [(G3 8),(G4 24)] [none] [139,140] [30,35] 4 false vH) aF)))))
def Uy:Tr:=.split (.u 19 0) (mB 6 0 18 0 52 91 92 Iw) (aC 11 [(G4 5)] [none] [100] [35] 3 true (aO .leq 3 101 0 20 0 4 (.split (.u 21 0) (aO .eql 40 103 2 9 0 4 (.split (.u 22 0) (aC 17 [(G3 8)] [none] [106] [30] 3 false Kc) aF)) (aC 13 [(G4 5)] [none] [113] [35] 3 true (aO .gtr 3 114 12 22 0 4 SB)))))
def Un:Tr:=aO .neq 40 78 0 7 0 4 (.split (.u 14 0) aF (dH 6 0 81 52 (bG .neq 3 82 83 15 0 1 0 4 (.split (.u 16 0) aF (.loop 0 [(.w (.one (.c (.k (.bool false))))),lK 0] (bG .lss 3 86 87 18 0 1 0 4 Uy))))))
def HW:Tr:=.split (.u 16 0) (dH 6 0 66 52 (aO .eql 3 67 0 17 0 4 (.split (.u 18 0) (aC 17 [(G3 8)] [none] [71] [30] 3 false Kk) aF))) aF
def QS:Tr:=.split (.u 24 0) uM (aC 20 [(W 0 0),(W 1 0),(G4 5)] [(some 4),none] [118,119,120] [5,3,35] 60 false (.need (.prim [(W 26 0)] none) (.unOp .not 4 (tT 124)) 4 false (.split (.u 27 0) (aO .eql 40 126 11 9 0 4 (.split (.u 28 0) (aC 17 [(G3 8)] [none] [129] [30] 3 false ES) aF)) (aO .eql 40 136 0 9 0 4 (.split (.u 28 0) (aC 18 [(G3 8),(G4 25)] [none] [139,140] [30,35] 4 false vA) aF)))))
def PW:Tr:=.split (.u 20 0) (mB 6 0 19 0 52 91 92 Ch) (aC 11 [(G4 5)] [none] [100] [35] 3 true (aO .leq 3 101 0 21 0 4 (.split (.u 22 0) (aO .eql 40 103 2 9 0 4 (.split (.u 23 0) (aC 17 [(G3 8)] [none] [106] [30] 3 false CH) aF)) (aC 13 [(G4 5)] [none] [113] [35] 3 true (aO .gtr 3 114 12 23 0 4 QS)))))
def HH:Tr:=aO .neq 40 78 0 7 0 4 (.split (.u 15 0) aF (dH 6 0 81 52 (bG .neq 3 82 83 16 0 1 0 4 (.split (.u 17 0) aF (.loop 0 [(.w (.one (.c (.k (.bool false))))),lK 0] (bG .lss 3 86 87 19 0 1 0 4 PW))))))
def Vs:Tr:=aO .gtr 3 52 200 1 0 4 (.split (.u 13 0) (.need (.prim [(WK 3),(WK 0)] none) (.binOp .neq 40 (tT 55) (.const (I3 0)) 40) 4 false (.split (.u 14 0) (.need (.prim [(W 7 0),(WK 3)] none) (.binOp .eql 40 (tT 57) (tT 58) 40) 4 false (.split (.u 15 0) (.need (.prim [(W 9 0),(WK 3)] none) (.binOp .eql 40 (tT 61) (tT 62) 40) 4 false HW) aF)) HH)) (.need (.prim [(WK 0),(WK 0)] none) (.binOp .neq 40 (tT 55) (.const (I3 0)) 40) 4 false (.split (.u 14 0) (.need (.prim [(W 7 0),(WK 0)] none) (.binOp .eql 40 (tT 57) (tT 58) 40) 4 false (.split (.u 15 0) (.need (.prim [(W 9 0),(WK 0)] none) (.binOp .eql 40 (tT 61) (tT 62) 40) 4 false HW) aF)) HH)))
def Tw:Tr:=.need (.prim [(W 0 0),(.one (.c (.k (.int .u8 6))))] none) (.binOp .gtr 5 (tT 46) (.const (.int .u8 6)) 5) 4 false (.split (.u 11 0) (.need (.prim [(WK 2),(WK 0)] none) (.binOp .neq 40 (tT 55) (.const (I3 0)) 40) 4 false (.split (.u 12 0) (.need (.prim [(W 7 0),(WK 2)] none) (.binOp .eql 40 (tT 57) (tT 58) 40) 4 false RV) SR)) (aO .lss 3 49 0 1 0 4 (.split (.u 12 0) (.need (.prim [(WK 3),(WK 0)] none) (.binOp .neq 40 (tT 55) (.const (I3 0)) 40) 4 false (.split (.u 13 0) (.need (.prim [(W 7 0),(WK 3)] none) (.binOp .eql 40 (tT 57) (tT 58) 40) 4 false SY) Un)) Vs)))
def ab4:Tr:=aO .gtr 3 17 40 1 0 4 (.split (.u 3 0) (aO .leq 3 20 200 1 0 4 (.split (.u 4 0) (aO .rem 3 23 40 1 0 3 (aC 6 [(G3 2)] [(some 3),(some 4)] [26] [23] 36 false ar8)) (aC 6 [(G3 2)] [(some 3),(some 4)] [26] [23] 36 false Sg))) (aC 6 [(G3 2)] [(some 3),(some 4)] [26] [23] 36 false (aC 15 [(W 0 0),(W 1 0)] [none,none] [31,32] [5,3] 53 false (aC 16 [(W 0 0),(W 1 0),(G3 4)] [(some 3),none] [37,38,39] [5,3,30] 55 false (.need (.prim [(W 0 0),(.one (.c (.k (.int .u8 1))))] none) (.binOp .lss 5 (tT 43) (.const (.int .u8 1)) 5) 4 false (.split (.u 10 0) RM Tw))))))
theorem Hm:aK prog f4 (fun _=>none) [.v none, .v none, .v (some 3)]=ab4:=by kernel_rfl
theorem NL {a b:Rat} (h:b≠0):bL a b=a/b:=if_neg h
theorem OV (kind m:Nat) (r:Rat):rP kind m r=OP kind m r:=by
 have h1:(((m:Int)+1:Int):Rat)≠0:=fun e=>by have:=Rat.intCast_inj.1 (e.trans Rat.intCast_zero.symm);omega
 have h2:((((m:Int)+1)*((m:Int)+2):Int):Rat)≠0:=fun e=>by
  have:=Rat.intCast_inj.1 (e.trans Rat.intCast_zero.symm);rcases Int.mul_eq_zero.1 this with h | h<;>omega
 unfold rP OP;rw [NL h1,NL h2,show ((1:Int):Rat)=1 from rfl];split
 ·rfl
 ·split
  ·rw [Rat.div_def,Rat.div_def,Rat.one_mul]
  ·rfl
theorem aB8 (kind n:Nat) (r:Rat) (h:rP kind (cG kind n) r<((1:Int):Rat)) (h1:1≤kind:=by omega) (h6:kind≤6:=by omega) (hn:n≤42:=by omega):tM kind n r = .of (Hw kind (cG kind n) r):=by
 have hm:cG kind n≤43:=(vE kind h6 n hn h1).2.2;have hk:iL kind n r=true:=by unfold iL;rw [←OV,decide_eq_true_iff];grind
 unfold tM;rw [if_pos hk,TM,Hw,NL (by grind),pG kind h6 _ (by omega) h1,OV]
theorem Zp (kind n:Nat) (r:Rat) (hr:Fit 1024 r) (h1:1≤kind:=by omega) (h6:kind≤6:=by omega) (hn:n≤42:=by omega):Fit 100000 (Hw kind (cG kind n) r):=by
 have hm:cG kind n≤43:=(vE kind h6 n hn h1).2.2;obtain ⟨m,hme⟩:∃ m,m=cG kind n:=⟨_,rfl⟩
 rw [←hme] at hm ⊢;have hxf:=hP (rW kind h6 m (by omega));have hpf:=kE hr m;have h1f:Fit 1 ((1:Int):Rat):=Fit.int (by omega) (by omega);have hb:0≤((m:Int)+1)*((m:Int)+2)∧((m:Int)+1)*((m:Int)+2)≤44*45:=⟨Int.mul_nonneg (by omega) (by omega),Int.mul_le_mul (by omega) (by omega) (by omega) (by omega)⟩
 have hq:Fit 5000 (rP kind m r):=by
  unfold rP;split
  ·exact (fF hr (B:=64) (Fit.int (by omega) (by omega))).mono (by omega)
  ·split
   ·exact ((hr.mul hr).mul (fF h1f (B:=64) (Fit.int (by omega) (by omega)))).mono (by omega)
   ·exact hr.mono (by omega)
 exact (fF (hxf.mul hpf) (h1f.sub hq)).mono (by omega)
structure aP8 (z n:Int) (l:List Rat) (e:Int):Prop where
 run:aL prog 15 [.one (.int .u8 z), .one (.int .i64 n)] (.ret [.one (sQ l), .one (.int .i64 e)])
 k:z<1∨6<z→e=2∧l = []
 r:1≤z→z≤6→n<0∨200<n→e=3∧l = []
 ok:1≤z→z≤6→0≤n→n≤40→e=0∧l=PG z.toNat n.toNat
structure aS2 (z n:Int) (x t:Rat) (e:Int):Prop where
 run:aL prog 16 [.one (.int .u8 z), .one (.int .i64 n),qT x] (.ret [qT t, .one (.int .i64 e)])
 k:z<1∨6<z→e=2∧t=0
 r:1≤z→z≤6→n<0∨200<n→e=3∧t=0
 neg:1≤z→z≤6→0≤n→n≤40→x≤0→e=2∧t=0
 opn:1≤z→z≤6→0≤n→n≤40→0<x→((1:Int):Rat)≤OP z.toNat (cG z.toNat n.toNat) x→e=11∧t=0
 ok:1≤z→z≤6→0≤n→n≤40→0<x→OP z.toNat (cG z.toNat n.toNat) x<((1:Int):Rat)→e=0∧aL prog 18 [qT t,kB (tM z.toNat n.toNat x)] (.ret [.one (.bool true)])
theorem Ke (z n:Int) (hn:n≤40∨200<n:=by omega):∃ l e,aP8 z n l e:=by
 by_cases hk:z<1∨6<z
 ·exact ⟨[],2,rA z n hk,fun _=>⟨rfl,rfl⟩,fun h1 h2=>by omega,fun h1 h2=>by omega⟩
 ·by_cases hr:n<0∨200<n
  ·exact ⟨[],3,qZ z n hr,fun h=>absurd h hk,fun _ _ _=>⟨rfl,rfl⟩,fun _ _ h1 h2=>by omega⟩
  ·obtain ⟨k,rfl⟩:∃ k:Nat,z=(k:Int):=⟨z.toNat,by omega⟩
   obtain ⟨m,rfl⟩:∃ m:Nat,n=(m:Int):=⟨n.toNat,by omega⟩
   exact ⟨_,0,sJ k m,fun h=>absurd h hk,fun _ _ h=>absurd h hr,fun _ _ _ _=>⟨rfl,rfl⟩⟩
theorem IL (z n:Int) (x:Rat) (hx:Fit 1024 x) (hn:n≤40∨200<n:=by omega):∃ t e,aS2 z n x t e:=by
 by_cases hk:z<1∨6<z
 ·exact ⟨0,2,Nn z n x hk,fun _=>⟨rfl,rfl⟩,fun h1 h2=>by omega,fun h1 h2=>by omega,fun h1 h2=>by omega,fun h1 h2=>by omega⟩
 ·by_cases hr:n<0∨200<n
  ·exact ⟨0,3,NS z n x hr,fun h=>absurd h hk,fun _ _ _=>⟨rfl,rfl⟩,fun _ _ h1 h2=>by omega,fun _ _ h1 h2=>by omega,fun _ _ h1 h2=>by omega⟩
  ·obtain ⟨k,rfl⟩:∃ k:Nat,z=(k:Int):=⟨z.toNat,by omega⟩
   obtain ⟨m,rfl⟩:∃ m:Nat,n=(m:Int):=⟨n.toNat,by omega⟩
   by_cases h0:x≤0
   ·exact ⟨0,2,Re k m x h0,fun h=>absurd h hk,fun _ _ h=>absurd h hr,fun _ _ _ _ _=>⟨rfl,rfl⟩,fun _ _ _ _ h=>by grind,fun _ _ _ _ h=>by grind⟩
   ·have h0':0<x:=by grind
    by_cases hq:rP k (cG k m) x<((1:Int):Rat)
    ·refine ⟨_,0,NA k m 1024 x h0' hx hq,fun h=>absurd h hk,fun _ _ h=>absurd h hr,fun _ _ _ _ h=>absurd h h0,fun _ _ _ _ _ h=>?_,fun _ _ _ _ _ _=>⟨rfl,?_⟩⟩
     ·rw [Int.toNat_natCast,Int.toNat_natCast,←OV] at h;grind
     ·rw [Int.toNat_natCast,Int.toNat_natCast,aB8 k m x hq];have hf:=Zp k m x hx;have hd:=uR _ (.of (Hw k (cG k m) x)) 100000 hf hf
      rwa [RQ.Jz,decide_eq_true rfl] at hd
    ·refine ⟨0,11,Jw k m 1024 x h0' hx (by grind),fun h=>absurd h hk,fun _ _ h=>absurd h hr,fun _ _ _ _ h=>absurd h h0,fun _ _ _ _ _ _=>⟨rfl,rfl⟩,fun _ _ _ _ _ h=>?_⟩;rw [Int.toNat_natCast,Int.toNat_natCast,←OV] at h;exact absurd h hq
set_option maxHeartbeats 4000000 in
set_option maxRecDepth 100000 in
theorem FK (z n:Int) (x:jY) (h:x.In):aL prog 4 [(.one (.int .u8 z):aI),(.one (.int .i64 n):aI),(nT x:aI)] (.ret [.one (.bool true)]):=by
 refine bV func4 Hm ?_;have hvf:Fit 1024 x.v:=h.aP2.mono (by omega);apply vn cB rfl;refine vs _ rfl ?_ ?_<;>intro h1
 ·apply vn gE rfl;refine vs _ rfl ?_ ?_<;>intro h3
  ·obtain ⟨n',hn'⟩:∃ n',n'=n%40:=⟨_,rfl⟩
   apply vn (cD) rfl;rw [←hn'];dsimp only [aG,aH];obtain ⟨l,e,S⟩:=Ke z n';obtain ⟨t,e2,T⟩:=IL z n' x.v hvf;apply aA (Kt x h) rfl;apply aA S.run rfl;apply aA T.run rfl;apply vn bA rfl;dsimp only [aG,aH];refine vs _ rfl ?_ ?_<;>intro h9
   ·have hS:=S.k (by omega);have hT:=T.k (by omega);apply vn cS rfl;refine cC true rfl (fun _=>?_) (fun h=>by cases h);apply vn aE rfl;refine vs _ rfl ?_ ?_<;>intro h13
    ·apply vn aE rfl;refine vs _ rfl ?_ ?_<;>intro h15
     ·rw [hS.2];apply vn (aW jW (show (rQ []).length=0 from rfl)) rfl;dsimp only [aG,aH];apply vn aE rfl;refine vs _ rfl ?_ ?_<;>intro h18
      ·apply aA (bB t) rfl;rw [show t.num.sign=0 by rw [hT.2];rfl];apply vn aE rfl;refine vs _ rfl ?_ ?_<;>intro h21
       ·apply aA bM rfl;exact aJ rfl
       exact (h21 (by decide)).elim
      exact (h18 (by decide)).elim
     exact (h15 hT.1).elim
    exact (h13 hS.1).elim
   apply vn cB rfl;dsimp only [aG,aH];refine vs _ rfl ?_ ?_<;>intro h85
   ·have hS:=S.k (by omega);have hT:=T.k (by omega);apply vn cS rfl;refine cC true rfl (fun _=>?_) (fun h=>by cases h);apply vn aE rfl;refine vs _ rfl ?_ ?_<;>intro h89
    ·apply vn aE rfl;refine vs _ rfl ?_ ?_<;>intro h91
     ·rw [hS.2];apply vn (aW jW (show (rQ []).length=0 from rfl)) rfl;dsimp only [aG,aH];apply vn aE rfl;refine vs _ rfl ?_ ?_<;>intro h94
      ·apply aA (bB t) rfl;rw [show t.num.sign=0 by rw [hT.2];rfl];apply vn aE rfl;refine vs _ rfl ?_ ?_<;>intro h97
       ·apply aA bM rfl;exact aJ rfl
       exact (h97 (by decide)).elim
      exact (h94 (by decide)).elim
     exact (h91 hT.1).elim
    exact (h89 hS.1).elim
   apply vn bA rfl;dsimp only [aG,aH];refine vs _ rfl ?_ ?_<;>intro h161
   ·have hS:=S.r (by omega) (by omega) (by omega);have hT:=T.r (by omega) (by omega) (by omega);apply vn cS rfl;refine cC true rfl (fun _=>?_) (fun h=>by cases h);apply vn aE rfl;refine vs _ rfl ?_ ?_<;>intro h165
    ·apply vn aE rfl;refine vs _ rfl ?_ ?_<;>intro h167
     ·rw [hS.2];apply vn (aW jW (show (rQ []).length=0 from rfl)) rfl;dsimp only [aG,aH];apply vn aE rfl;refine vs _ rfl ?_ ?_<;>intro h170
      ·apply aA (bB t) rfl;rw [show t.num.sign=0 by rw [hT.2];rfl];apply vn aE rfl;refine vs _ rfl ?_ ?_<;>intro h173
       ·apply aA bM rfl;exact aJ rfl
       exact (h173 (by decide)).elim
      exact (h170 (by decide)).elim
     exact (h167 hT.1).elim
    exact (h165 hS.1).elim
   apply vn cB rfl;dsimp only [aG,aH];refine vs _ rfl ?_ ?_<;>intro h237
   ·have hS:=S.r (by omega) (by omega) (by omega);have hT:=T.r (by omega) (by omega) (by omega);apply vn cS rfl;refine cC true rfl (fun _=>?_) (fun h=>by cases h);apply vn aE rfl;refine vs _ rfl ?_ ?_<;>intro h241
    ·apply vn aE rfl;refine vs _ rfl ?_ ?_<;>intro h243
     ·rw [hS.2];apply vn (aW jW (show (rQ []).length=0 from rfl)) rfl;dsimp only [aG,aH];apply vn aE rfl;refine vs _ rfl ?_ ?_<;>intro h246
      ·apply aA (bB t) rfl;rw [show t.num.sign=0 by rw [hT.2];rfl];apply vn aE rfl;refine vs _ rfl ?_ ?_<;>intro h249
       ·apply aA bM rfl;exact aJ rfl
       exact (h249 (by decide)).elim
      exact (h246 (by decide)).elim
     exact (h243 hT.1).elim
    exact (h241 hS.1).elim
   apply vn cS rfl;dsimp only [aG,aH];refine cC false rfl (fun h=>by cases h) (fun _=>?_);obtain ⟨hSe,hSl⟩:=S.ok (by omega) (by omega) (by omega) (by omega);obtain ⟨k,hk⟩:∃ k:Nat,z=(k:Int):=⟨z.toNat,by omega⟩
   obtain ⟨m,hm⟩:∃ m:Nat,n'=(m:Int):=⟨(n').toNat,by omega⟩
   have hzk:z.toNat=k:=by omega
   have hnm:(n').toNat=m:=by omega
   rw [hzk,hnm] at hSl;have hsg:=fP x.v;apply vn cS rfl;refine vs _ rfl ?_ ?_<;>intro h331
   ·exact absurd hSe h331
   apply vn (aW jW (show (rQ l).length=m by rw [bE,hSl,vG])) rfl;apply vn cS rfl;refine vs _ rfl ?_ ?_<;>intro h335
   ·exact absurd hm.symm h335
   refine bD {i:Nat // i≤m} (fun g=>[.one (.bool false), .one (.int .i64 g.1)]) (fun g=>m-g.1) ⟨0,eS _⟩ aR.rfl (fun _=>rfl) ?_;rintro ⟨i,hi⟩;dsimp only [aG,aH] at hi ⊢;apply vn bA rfl;refine vs _ rfl ?_ ?_<;>intro h339
   ·have hx:l[i]? = some (xP k i):=by rw [hSl,PG,eV,List.getElem?_range (by omega)];rfl
    apply vn (cY jW hx) rfl;apply vn (nY RE (by decide) (by simp) (.inl rfl)) rfl;dsimp only [aG,aH];rw [hk];apply aA (tG k i) rfl;dsimp only [aG,aH];have hc:=pG k (by omega) i (by omega) (by omega);have hd:=uR (xP k i) (eC k i) 300 (rW k (by omega) i (by omega)) (uT k (by omega) i (by omega));rw [decide_eq_true hc] at hd;apply aA hd rfl;apply vn DI rfl;refine cC false rfl (fun h=>by cases h) (fun _=>?_);apply vn (aD) rfl;dsimp only [aG,aH];exact aX rfl ⟨⟨i+1,by omega⟩,aR.rfl,by show m-(i+1)<m-i;omega⟩
   apply aA (kH (.of x.v)) rfl;apply vn gE rfl;refine vs _ rfl ?_ ?_<;>intro h351
   ·have hT:=T.neg (by omega) (by omega) (by omega) (by omega) (hsg.1 h351);apply vn aE rfl;refine vs _ rfl ?_ ?_<;>intro h353
    ·apply aA (bB t) rfl;rw [show t.num.sign=0 by rw [hT.2];rfl];dsimp only [aG,aH];apply vn aE rfl;refine vs _ rfl ?_ ?_<;>intro h356
     ·apply aA bM rfl;exact aJ rfl
     exact (h356 (by decide)).elim
    exact (h353 hT.1).elim
   apply aA (NV (.of x.v) 1024 hvf) rfl;apply vn cB rfl;refine vs _ rfl ?_ ?_<;>intro h363
   ·apply aA bM rfl;exact aJ rfl
   have hx0:0<x.v:=by have:=mt hsg.2 h351;grind
   rw [hk,hm];have hF:=JF k m (.of x.v) 1024 hvf;rw [show iL k m (RQ.of x.v).q=decide (0<((1:Int):Rat)-OP k (cG k m) x.v) from rfl] at hF;apply aA hF rfl;dsimp only [aG,aH];apply vn kX rfl;refine vs _ rfl ?_ ?_<;>intro h368
   ·have hT:=T.opn (by omega) (by omega) (by omega) (by omega) hx0 (by rw [hzk,hnm];grind);apply vn aE rfl;refine vs _ rfl ?_ ?_<;>intro h370
    ·apply aA (bB t) rfl;rw [show t.num.sign=0 by rw [hT.2];rfl];apply vn aE rfl;dsimp only [aG,aH];refine vs _ rfl ?_ ?_<;>intro h373
     ·apply aA bM rfl;exact aJ rfl
     exact (h373 (by decide)).elim
    exact (h370 hT.1).elim
   have hT:=T.ok (by omega) (by omega) (by omega) (by omega) hx0 (by rw [hzk,hnm];have:=Decidable.not_not.1 h368;grind);apply vn aE rfl;refine vs _ rfl ?_ ?_<;>intro h379
   ·have hK:=hT.2;rw [hzk,hnm] at hK;apply aA hK rfl;refine cC true rfl (fun _=>?_) (fun h=>by cases h);apply aA bM rfl;exact aJ rfl
   exact (h379 hT.1).elim
  obtain ⟨l,e,S⟩:=Ke z n;obtain ⟨t,e2,T⟩:=IL z n x.v hvf;apply aA (Kt x h) rfl;apply aA S.run rfl;dsimp only [aG,aH];apply aA T.run rfl;apply vn bA rfl;refine vs _ rfl ?_ ?_<;>intro h390
  ·have hS:=S.k (by omega);have hT:=T.k (by omega);apply vn cS rfl;refine cC true rfl (fun _=>?_) (fun h=>by cases h);apply vn aE rfl;dsimp only [aG,aH];refine vs _ rfl ?_ ?_<;>intro h394
   ·apply vn aE rfl;refine vs _ rfl ?_ ?_<;>intro h396
    ·rw [hS.2];apply vn (aW jW (show (rQ []).length=0 from rfl)) rfl;apply vn aE rfl;refine vs _ rfl ?_ ?_<;>intro h399
     ·apply aA (bB t) rfl;rw [show t.num.sign=0 by rw [hT.2];rfl];dsimp only [aG,aH];apply vn aE rfl;refine vs _ rfl ?_ ?_<;>intro h402
      ·apply aA bM rfl;exact aJ rfl
      exact (h402 (by decide)).elim
     exact (h399 (by decide)).elim
    exact (h396 hT.1).elim
   exact (h394 hS.1).elim
  apply vn cB rfl;refine vs _ rfl ?_ ?_<;>intro h466
  ·have hS:=S.k (by omega);have hT:=T.k (by omega);apply vn cS rfl;refine cC true rfl (fun _=>?_) (fun h=>by cases h);apply vn aE rfl;dsimp only [aG,aH];refine vs _ rfl ?_ ?_<;>intro h470
   ·apply vn aE rfl;refine vs _ rfl ?_ ?_<;>intro h472
    ·rw [hS.2];apply vn (aW jW (show (rQ []).length=0 from rfl)) rfl;apply vn aE rfl;refine vs _ rfl ?_ ?_<;>intro h475
     ·apply aA (bB t) rfl;rw [show t.num.sign=0 by rw [hT.2];rfl];dsimp only [aG,aH];apply vn aE rfl;refine vs _ rfl ?_ ?_<;>intro h478
      ·apply aA bM rfl;exact aJ rfl
      exact (h478 (by decide)).elim
     exact (h475 (by decide)).elim
    exact (h472 hT.1).elim
   exact (h470 hS.1).elim
  apply vn bA rfl;refine vs _ rfl ?_ ?_<;>intro h542
  ·have hS:=S.r (by omega) (by omega) (by omega);have hT:=T.r (by omega) (by omega) (by omega);apply vn cS rfl;refine cC true rfl (fun _=>?_) (fun h=>by cases h);apply vn aE rfl;dsimp only [aG,aH];refine vs _ rfl ?_ ?_<;>intro h546
   ·apply vn aE rfl;refine vs _ rfl ?_ ?_<;>intro h548
    ·rw [hS.2];apply vn (aW jW (show (rQ []).length=0 from rfl)) rfl;apply vn aE rfl;refine vs _ rfl ?_ ?_<;>intro h551
     ·apply aA (bB t) rfl;rw [show t.num.sign=0 by rw [hT.2];rfl];dsimp only [aG,aH];apply vn aE rfl;refine vs _ rfl ?_ ?_<;>intro h554
      ·apply aA bM rfl;exact aJ rfl
      exact (h554 (by decide)).elim
     exact (h551 (by decide)).elim
    exact (h548 hT.1).elim
   exact (h546 hS.1).elim
  apply vn cB rfl;refine vs _ rfl ?_ ?_<;>intro h618
  ·have hS:=S.r (by omega) (by omega) (by omega);have hT:=T.r (by omega) (by omega) (by omega);apply vn cS rfl;refine cC true rfl (fun _=>?_) (fun h=>by cases h);apply vn aE rfl;dsimp only [aG,aH];refine vs _ rfl ?_ ?_<;>intro h622
   ·apply vn aE rfl;refine vs _ rfl ?_ ?_<;>intro h624
    ·rw [hS.2];apply vn (aW jW (show (rQ []).length=0 from rfl)) rfl;apply vn aE rfl;refine vs _ rfl ?_ ?_<;>intro h627
     ·apply aA (bB t) rfl;rw [show t.num.sign=0 by rw [hT.2];rfl];dsimp only [aG,aH];apply vn aE rfl;refine vs _ rfl ?_ ?_<;>intro h630
      ·apply aA bM rfl;exact aJ rfl
      exact (h630 (by decide)).elim
     exact (h627 (by decide)).elim
    exact (h624 hT.1).elim
   exact (h622 hS.1).elim
  apply vn cS rfl;refine cC false rfl (fun h=>by cases h) (fun _=>?_);obtain ⟨hSe,hSl⟩:=S.ok (by omega) (by omega) (by omega) (by omega);obtain ⟨k,hk⟩:∃ k:Nat,z=(k:Int):=⟨z.toNat,by omega⟩
  obtain ⟨m,hm⟩:∃ m:Nat,n=(m:Int):=⟨(n).toNat,by omega⟩
  have hzk:z.toNat=k:=by omega
  have hnm:(n).toNat=m:=by omega
  rw [hzk,hnm] at hSl;have hsg:=fP x.v;apply vn cS rfl;refine vs _ rfl ?_ ?_<;>intro h712
  ·exact absurd hSe h712
  apply vn (aW jW (show (rQ l).length=m by rw [bE,hSl,vG])) rfl;dsimp only [aG,aH];apply vn cS rfl;refine vs _ rfl ?_ ?_<;>intro h716
  ·exact absurd hm.symm h716
  refine bD {i:Nat // i≤m} (fun g=>[.one (.bool false), .one (.int .i64 g.1)]) (fun g=>m-g.1) ⟨0,eS _⟩ aR.rfl (fun _=>rfl) ?_;rintro ⟨i,hi⟩;dsimp only [aG,aH] at hi ⊢;apply vn bA rfl;refine vs _ rfl ?_ ?_<;>intro h720
  ·have hx:l[i]? = some (xP k i):=by rw [hSl,PG,eV,List.getElem?_range (by omega)];rfl
   apply vn (cY jW hx) rfl;apply vn (nY RE (by decide) (by simp) (.inl rfl)) rfl;dsimp only [aG,aH];rw [hk];apply aA (tG k i) rfl;dsimp only [aG,aH];have hc:=pG k (by omega) i (by omega) (by omega);have hd:=uR (xP k i) (eC k i) 300 (rW k (by omega) i (by omega)) (uT k (by omega) i (by omega));rw [decide_eq_true hc] at hd;apply aA hd rfl;apply vn DI rfl;refine cC false rfl (fun h=>by cases h) (fun _=>?_);apply vn (aD) rfl;dsimp only [aG,aH];exact aX rfl ⟨⟨i+1,by omega⟩,aR.rfl,by show m-(i+1)<m-i;omega⟩
  apply aA (kH (.of x.v)) rfl;apply vn gE rfl;refine vs _ rfl ?_ ?_<;>intro h732
  ·have hT:=T.neg (by omega) (by omega) (by omega) (by omega) (hsg.1 h732);apply vn aE rfl;refine vs _ rfl ?_ ?_<;>intro h734
   ·apply aA (bB t) rfl;rw [show t.num.sign=0 by rw [hT.2];rfl];dsimp only [aG,aH];apply vn aE rfl;refine vs _ rfl ?_ ?_<;>intro h737
    ·apply aA bM rfl;exact aJ rfl
    exact (h737 (by decide)).elim
   exact (h734 hT.1).elim
  apply aA (NV (.of x.v) 1024 hvf) rfl;apply vn cB rfl;refine vs _ rfl ?_ ?_<;>intro h744
  ·apply aA bM rfl;exact aJ rfl
  have hx0:0<x.v:=by have:=mt hsg.2 h732;grind
  rw [hk,hm];have hF:=JF k m (.of x.v) 1024 hvf;rw [show iL k m (RQ.of x.v).q=decide (0<((1:Int):Rat)-OP k (cG k m) x.v) from rfl] at hF;apply aA hF rfl;dsimp only [aG,aH];apply vn kX rfl;refine vs _ rfl ?_ ?_<;>intro h749
  ·have hT:=T.opn (by omega) (by omega) (by omega) (by omega) hx0 (by rw [hzk,hnm];grind);apply vn aE rfl;refine vs _ rfl ?_ ?_<;>intro h751
   ·apply aA (bB t) rfl;rw [show t.num.sign=0 by rw [hT.2];rfl];apply vn aE rfl;dsimp only [aG,aH];refine vs _ rfl ?_ ?_<;>intro h754
    ·apply aA bM rfl;exact aJ rfl
    exact (h754 (by decide)).elim
   exact (h751 hT.1).elim
  have hT:=T.ok (by omega) (by omega) (by omega) (by omega) hx0 (by rw [hzk,hnm];have:=Decidable.not_not.1 h749;grind);apply vn aE rfl;refine vs _ rfl ?_ ?_<;>intro h760
  ·have hK:=hT.2;rw [hzk,hnm] at hK;apply aA hK rfl;refine cC true rfl (fun _=>?_) (fun h=>by cases h);apply aA bM rfl;exact aJ rfl
  exact (h760 hT.1).elim
 obtain ⟨l,e,S⟩:=Ke z n;obtain ⟨t,e2,T⟩:=IL z n x.v hvf;apply aA (Kt x h) rfl;apply aA S.run rfl;dsimp only [aG,aH];apply aA T.run rfl;apply vn bA rfl;refine vs _ rfl ?_ ?_<;>intro h771
 ·have hS:=S.k (by omega);have hT:=T.k (by omega);apply vn cS rfl;refine cC true rfl (fun _=>?_) (fun h=>by cases h);apply vn aE rfl;dsimp only [aG,aH];refine vs _ rfl ?_ ?_<;>intro h775
  ·apply vn aE rfl;refine vs _ rfl ?_ ?_<;>intro h777
   ·rw [hS.2];apply vn (aW jW (show (rQ []).length=0 from rfl)) rfl;apply vn aE rfl;refine vs _ rfl ?_ ?_<;>intro h780
    ·apply aA (bB t) rfl;rw [show t.num.sign=0 by rw [hT.2];rfl];dsimp only [aG,aH];apply vn aE rfl;refine vs _ rfl ?_ ?_<;>intro h783
     ·apply aA bM rfl;exact aJ rfl
     exact (h783 (by decide)).elim
    exact (h780 (by decide)).elim
   exact (h777 hT.1).elim
  exact (h775 hS.1).elim
 apply vn cB rfl;refine vs _ rfl ?_ ?_<;>intro h847
 ·have hS:=S.k (by omega);have hT:=T.k (by omega);apply vn cS rfl;refine cC true rfl (fun _=>?_) (fun h=>by cases h);apply vn aE rfl;dsimp only [aG,aH];refine vs _ rfl ?_ ?_<;>intro h851
  ·apply vn aE rfl;refine vs _ rfl ?_ ?_<;>intro h853
   ·rw [hS.2];apply vn (aW jW (show (rQ []).length=0 from rfl)) rfl;apply vn aE rfl;refine vs _ rfl ?_ ?_<;>intro h856
    ·apply aA (bB t) rfl;rw [show t.num.sign=0 by rw [hT.2];rfl];dsimp only [aG,aH];apply vn aE rfl;refine vs _ rfl ?_ ?_<;>intro h859
     ·apply aA bM rfl;exact aJ rfl
     exact (h859 (by decide)).elim
    exact (h856 (by decide)).elim
   exact (h853 hT.1).elim
  exact (h851 hS.1).elim
 apply vn bA rfl;refine vs _ rfl ?_ ?_<;>intro h923
 ·have hS:=S.r (by omega) (by omega) (by omega);have hT:=T.r (by omega) (by omega) (by omega);apply vn cS rfl;refine cC true rfl (fun _=>?_) (fun h=>by cases h);apply vn aE rfl;dsimp only [aG,aH];refine vs _ rfl ?_ ?_<;>intro h927
  ·apply vn aE rfl;refine vs _ rfl ?_ ?_<;>intro h929
   ·rw [hS.2];apply vn (aW jW (show (rQ []).length=0 from rfl)) rfl;apply vn aE rfl;refine vs _ rfl ?_ ?_<;>intro h932
    ·apply aA (bB t) rfl;rw [show t.num.sign=0 by rw [hT.2];rfl];dsimp only [aG,aH];apply vn aE rfl;refine vs _ rfl ?_ ?_<;>intro h935
     ·apply aA bM rfl;exact aJ rfl
     exact (h935 (by decide)).elim
    exact (h932 (by decide)).elim
   exact (h929 hT.1).elim
  exact (h927 hS.1).elim
 apply vn cB rfl;refine vs _ rfl ?_ ?_<;>intro h999
 ·have hS:=S.r (by omega) (by omega) (by omega);have hT:=T.r (by omega) (by omega) (by omega);apply vn cS rfl;refine cC true rfl (fun _=>?_) (fun h=>by cases h);apply vn aE rfl;dsimp only [aG,aH];refine vs _ rfl ?_ ?_<;>intro h1003
  ·apply vn aE rfl;refine vs _ rfl ?_ ?_<;>intro h1005
   ·rw [hS.2];apply vn (aW jW (show (rQ []).length=0 from rfl)) rfl;apply vn aE rfl;refine vs _ rfl ?_ ?_<;>intro h1008
    ·apply aA (bB t) rfl;rw [show t.num.sign=0 by rw [hT.2];rfl];dsimp only [aG,aH];apply vn aE rfl;refine vs _ rfl ?_ ?_<;>intro h1011
     ·apply aA bM rfl;exact aJ rfl
     exact (h1011 (by decide)).elim
    exact (h1008 (by decide)).elim
   exact (h1005 hT.1).elim
  exact (h1003 hS.1).elim
 apply vn cS rfl;refine cC false rfl (fun h=>by cases h) (fun _=>?_);obtain ⟨hSe,hSl⟩:=S.ok (by omega) (by omega) (by omega) (by omega);obtain ⟨k,hk⟩:∃ k:Nat,z=(k:Int):=⟨z.toNat,by omega⟩
 obtain ⟨m,hm⟩:∃ m:Nat,n=(m:Int):=⟨(n).toNat,by omega⟩
 have hzk:z.toNat=k:=by omega
 have hnm:(n).toNat=m:=by omega
 rw [hzk,hnm] at hSl;have hsg:=fP x.v;apply vn cS rfl;refine vs _ rfl ?_ ?_<;>intro h1093
 ·exact absurd hSe h1093
 apply vn (aW jW (show (rQ l).length=m by rw [bE,hSl,vG])) rfl;dsimp only [aG,aH];apply vn cS rfl;refine vs _ rfl ?_ ?_<;>intro h1097
 ·exact absurd hm.symm h1097
 refine bD {i:Nat // i≤m} (fun g=>[.one (.bool false), .one (.int .i64 g.1)]) (fun g=>m-g.1) ⟨0,eS _⟩ aR.rfl (fun _=>rfl) ?_;rintro ⟨i,hi⟩;dsimp only [aG,aH] at hi ⊢;apply vn bA rfl;refine vs _ rfl ?_ ?_<;>intro h1101
 ·have hx:l[i]? = some (xP k i):=by rw [hSl,PG,eV,List.getElem?_range (by omega)];rfl
  apply vn (cY jW hx) rfl;apply vn (nY RE (by decide) (by simp) (.inl rfl)) rfl;dsimp only [aG,aH];rw [hk];apply aA (tG k i) rfl;dsimp only [aG,aH];have hc:=pG k (by omega) i (by omega) (by omega);have hd:=uR (xP k i) (eC k i) 300 (rW k (by omega) i (by omega)) (uT k (by omega) i (by omega));rw [decide_eq_true hc] at hd;apply aA hd rfl;apply vn DI rfl;refine cC false rfl (fun h=>by cases h) (fun _=>?_);apply vn (aD) rfl;dsimp only [aG,aH];exact aX rfl ⟨⟨i+1,by omega⟩,aR.rfl,by show m-(i+1)<m-i;omega⟩
 apply aA (kH (.of x.v)) rfl;apply vn gE rfl;refine vs _ rfl ?_ ?_<;>intro h1113
 ·have hT:=T.neg (by omega) (by omega) (by omega) (by omega) (hsg.1 h1113);apply vn aE rfl;refine vs _ rfl ?_ ?_<;>intro h1115
  ·apply aA (bB t) rfl;rw [show t.num.sign=0 by rw [hT.2];rfl];dsimp only [aG,aH];apply vn aE rfl;refine vs _ rfl ?_ ?_<;>intro h1118
   ·apply aA bM rfl;exact aJ rfl
   exact (h1118 (by decide)).elim
  exact (h1115 hT.1).elim
 apply aA (NV (.of x.v) 1024 hvf) rfl;apply vn cB rfl;refine vs _ rfl ?_ ?_<;>intro h1125
 ·apply aA bM rfl;exact aJ rfl
 have hx0:0<x.v:=by have:=mt hsg.2 h1113;grind
 rw [hk,hm];have hF:=JF k m (.of x.v) 1024 hvf;rw [show iL k m (RQ.of x.v).q=decide (0<((1:Int):Rat)-OP k (cG k m) x.v) from rfl] at hF;apply aA hF rfl;dsimp only [aG,aH];apply vn kX rfl;refine vs _ rfl ?_ ?_<;>intro h1130
 ·have hT:=T.opn (by omega) (by omega) (by omega) (by omega) hx0 (by rw [hzk,hnm];grind);apply vn aE rfl;refine vs _ rfl ?_ ?_<;>intro h1132
  ·apply aA (bB t) rfl;rw [show t.num.sign=0 by rw [hT.2];rfl];apply vn aE rfl;dsimp only [aG,aH];refine vs _ rfl ?_ ?_<;>intro h1135
   ·apply aA bM rfl;exact aJ rfl
   exact (h1135 (by decide)).elim
  exact (h1132 hT.1).elim
 have hT:=T.ok (by omega) (by omega) (by omega) (by omega) hx0 (by rw [hzk,hnm];have:=Decidable.not_not.1 h1130;grind);apply vn aE rfl;refine vs _ rfl ?_ ?_<;>intro h1141
 ·have hK:=hT.2;rw [hzk,hnm] at hK;apply aA hK rfl;refine cC true rfl (fun _=>?_) (fun h=>by cases h);apply aA bM rfl;exact aJ rfl
 exact (h1141 hT.1).elim
end Go.Sy
