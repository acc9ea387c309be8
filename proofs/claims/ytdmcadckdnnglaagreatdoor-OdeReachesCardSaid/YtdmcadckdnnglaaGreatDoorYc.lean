/- The tree of OdeReaches, its tail once.
-/
import Derived.Test.YtdmcadckdnnglaaGreatDoorYb
import Derived.Test.YtdmcadckdnnglaaGreatDoorVc
import Derived.Test.YtdmcadckdnnglaaGreatDoorSd
set_option linter.unusedVariables false
set_option linter.unusedSimpArgs false
namespace Go.Sy
open Go Go.Proofs Tryz Ord
def bC:Tr:=.ret [(tF false)]
def Ru:Tr:=.split (.u 30 0) (aJ 52 [(W 3 0)] [none] [231] [44] 3 false (aJ 51 [(W 29 0),(G4 10),(W 11 0),(W 31 0),(W 0 0),(W 1 0),(G4 5)] [(some 4)] [227,228,229,232,233,234,235] [50,49,3,3,3,3,49] 49 false (aJ 44 [(G3 6),(G4 32)] [none] [226,236] [39,49] 4 false (.split (.u 33 0) (aJ 16 [] [none] [] [] 4 true (.ret [(W 34 0)])) bC)))) bC
def PI:Tr:=aQ .eql 55 204 3 7 0 4 (.split (.u 27 0) (aJ 35 [(G3 6)] [none] [207] [39] 3 false (aQ .eql 3 208 0 28 0 4 (.split (.u 29 0) (aJ 16 [] [none] [] [] 4 true (.ret [(W 30 0)])) bC))) bC)
def PU:Tr:=aQ .geq 3 201 0 25 0 4 (.split (.u 26 0) PI (aQ .gtr 3 214 200 0 0 4 (.split (.u 27 0) (aJ 16 [] [none] [] [] 4 true (.ret [(W 28 0)])) (aJ 29 [(G6 3)] [none] [217] [52] 44 false (aJ 28 [(W 28 0),(W 3 5),(W 11 0)] [none] [218,220,221] [44,50,3] 50 true (aQ .eql 55 223 0 7 0 4 Ru))))))
def QU:Tr:=aQ .eql 55 204 3 7 0 4 (.split (.u 23 0) (aJ 35 [(G3 6)] [none] [207] [39] 3 false (aQ .eql 3 208 0 24 0 4 (.split (.u 25 0) (aJ 16 [] [none] [] [] 4 true (.ret [(W 26 0)])) bC))) bC)
def RG:Tr:=aQ .eql 55 204 3 7 0 4 (.split (.u 22 0) (aJ 35 [(G3 6)] [none] [207] [39] 3 false (aQ .eql 3 208 0 23 0 4 (.split (.u 24 0) (aJ 16 [] [none] [] [] 4 true (.ret [(W 25 0)])) bC))) bC)
def RS:Tr:=aQ .gtr 3 186 1500 0 0 4 (.split (.u 21 0) RG (bK .leq 3 190 191 0 0 1 0 4 (.split (.u 22 0) QU (aJ 49 [(G4 10),(W 0 0),(W 1 0),(G4 5)] [(some 4)] [195,196,197,198] [49,3,3,49] 49 false (.need (.call 50 [(WK 1)] [(some 4)]) (.call ⟨.value (.func 50),#[(.const (I3 1))],#[2]⟩) 49 false (aJ 47 [(G4 23),(G4 24)] [none] [199,200] [49,49] 3 false PU))))))
def OU:Tr:=aQ .eql 55 204 3 7 0 4 (.split (.u 21 0) (aJ 35 [(G3 6)] [none] [207] [39] 3 false (aQ .eql 3 208 0 22 0 4 (.split (.u 23 0) (aJ 16 [] [none] [] [] 4 true (.ret [(W 24 0)])) bC))) bC)
def TV:Tr:=aQ .eql 55 204 3 7 0 4 (.split (.u 20 0) (aJ 35 [(G3 6)] [none] [207] [39] 3 false (aQ .eql 3 208 0 21 0 4 (.split (.u 22 0) (aJ 16 [] [none] [] [] 4 true (.ret [(W 23 0)])) bC))) bC)
def SR:Tr:=aQ .eql 55 204 3 7 0 4 (.split (.u 17 0) (aJ 35 [(G3 6)] [none] [207] [39] 3 false (aQ .eql 3 208 0 18 0 4 (.split (.u 19 0) (aJ 16 [] [none] [] [] 4 true (.ret [(W 20 0)])) bC))) bC)
def UA:Tr:=.split (.u 16 0) SR (aJ 48 [(G4 5),(G4 5)] [(some 4)] [173,174] [49,49] 49 false (aJ 47 [(G4 17),(G4 10)] [none] [175,176] [49,49] 3 false (aQ .gtr 3 177 0 18 0 4 (.split (.u 19 0) TV (bK .lss 3 181 182 0 0 11 0 4 (.split (.u 20 0) OU RS))))))
def WD:Tr:=aQ .eql 55 204 3 7 0 4 (.split (.u 15 0) (aJ 35 [(G3 6)] [none] [207] [39] 3 false (aQ .eql 3 208 0 16 0 4 (.split (.u 17 0) (aJ 16 [] [none] [] [] 4 true (.ret [(W 18 0)])) bC))) bC)
def Vd:Tr:=aQ .eql 55 204 3 7 0 4 (.split (.u 14 0) (aJ 35 [(G3 6)] [none] [207] [39] 3 false (aQ .eql 3 208 0 15 0 4 (.split (.u 16 0) (aJ 16 [] [none] [] [] 4 true (.ret [(W 17 0)])) bC))) bC)
def Wp:Tr:=aQ .eql 55 151 5 7 0 4 (.split (.u 13 0) (aJ 35 [(G3 6)] [none] [154] [39] 3 false (aQ .eql 3 155 0 14 0 4 (.split (.u 15 0) (aJ 16 [] [none] [] [] 4 true (.ret [(W 16 0)])) bC))) bC)
def TJ:Tr:=.split (.u 12 0) Wp (aQ .lss 3 161 0 1 0 4 (.split (.u 13 0) Vd (aQ .gtr 3 164 4 1 0 4 (.split (.u 14 0) WD (aJ 46 [(G4 5)] [none] [168] [49] 3 false (aQ .lss 3 169 0 15 0 4 UA))))))
def Wq:Tr:=aQ .eql 55 131 2 7 0 4 (.split (.u 10 0) (aJ 35 [(G3 6)] [none] [134] [39] 3 false (aQ .eql 3 135 0 11 0 4 (.split (.u 12 0) (aJ 16 [] [none] [] [] 4 true (.ret [(W 13 0)])) bC))) bC)
def uU:Tr:=aJ 45 [(G5 2),(W 0 0),(W 1 0),(G3 4)] [(some 3),none] [121,122,123,124] [42,3,3,39] 90 false (aJ 22 [(G6 3)] [none] [128] [52] 4 true (.need (.prim [(W 8 0)] none) (.unOp .not 4 (tT 129)) 4 false (.split (.u 9 0) Wq (aJ 43 [(W 3 0),(.agg [(U 3 1),(U 3 2),(U 3 3),(U 3 4)])] [(some 4),none] [143,145] [44,49] 87 false (aQ .eql 3 149 0 11 0 4 TJ)))))
noncomputable def bF:Tr:=aN prog f6 (fun _=>none) [.v (some 8), .v (some 3), .v none, .v none, .v (some 3)]
noncomputable def Mu:Tr:=.split (.u 31 0) bC (bF.part [false,false,false,false,false,false,false,true,false,false])
noncomputable def MM:Tr:=.need (.prim [(W 18 0),(WK (0))] none) (.binOp .neq 3 (.tmp 116) (.const (I3 (0))) 3) 4 false Mu
noncomputable def MR:Tr:=.split (.u 30 0) bC MM
noncomputable def Nj:Tr:=.need (.prim [(W 29 0),(WK (0))] none) (.binOp .neq 3 (.tmp 113) (.const (I3 (0))) 3) 4 false MR
noncomputable def MU:Tr:=.need (.call 35 [(.agg [(U 17 0),(U 17 1),(U 17 2)])] [none]) (.call ⟨.value (.func 35),#[(.tmp 112)],#[39]⟩) 3 false Nj
noncomputable def Na:Tr:=.split (.u 28 0) MU (bF.part [false,false,false,false,false,false,false,false])
noncomputable def LI:Tr:=.need (.prim [(W 19 0),(WK (0))] none) (.binOp .neq 55 (.tmp 109) (.const (I3 (0))) 55) 4 false Na
noncomputable def MK:Tr:=.split (.u 35 0) bC (bF.part [false,false,false,false,false,false,true,false,false,false,true,false,false])
noncomputable def Mi:Tr:=.need (.prim [(W 18 0),(WK (0))] none) (.binOp .neq 3 (.tmp 116) (.const (I3 (0))) 3) 4 false MK
noncomputable def MG:Tr:=.split (.u 34 0) bC Mi
noncomputable def Mv:Tr:=.need (.prim [(W 33 0),(WK (0))] none) (.binOp .neq 3 (.tmp 113) (.const (I3 (0))) 3) 4 false MG
noncomputable def Mj:Tr:=.need (.call 35 [(.agg [(U 17 0),(U 17 1),(U 17 2)])] [none]) (.call ⟨.value (.func 35),#[(.tmp 112)],#[39]⟩) 3 false Mv
noncomputable def Ly:Tr:=.split (.u 32 0) Mj (bF.part [false,false,false,false,false,false,true,false,false,false,false])
noncomputable def MW:Tr:=.need (.prim [(W 19 0),(WK (0))] none) (.binOp .neq 55 (.tmp 109) (.const (I3 (0))) 55) 4 false Ly
noncomputable def Me:Tr:=.split (.u 31 0) bC MW
noncomputable def MN:Tr:=.need (.prim [(W 18 0),(W 25 0)] none) (.binOp .neq 3 (.tmp 103) (.tmp 104) 3) 4 false Me
noncomputable def Mf:Tr:=.split (.u 30 0) bC MN
noncomputable def MS:Tr:=.need (.prim [(W 29 0)] none) (.unOp .not 4 (.tmp 99)) 4 false Mf
noncomputable def Lz:Tr:=.need (.call 44 [(.agg [(U 17 0),(U 17 1),(U 17 2)]),(.agg [(U 24 0),(U 24 1),(U 24 2),(U 24 3)])] [none]) (.call ⟨.value (.func 44),#[(.tmp 97),(.tmp 98)],#[39,49]⟩) 4 false MS
noncomputable def LS:Tr:=.split (.u 28 0) bC Lz
noncomputable def LK:Tr:=.need (.prim [(W 19 0),(WK (0))] none) (.binOp .neq 55 (.tmp 94) (.const (I3 (0))) 55) 4 false LS
noncomputable def Ng:Tr:=.split (.u 27 0) LK LI
noncomputable def Mz:Tr:=.need (.prim [(W 25 0),(WK (0))] none) (.binOp .gtr 3 (.tmp 91) (.const (I3 (0))) 3) 4 false Ng
noncomputable def OX:Tr:=.split (.u 32 0) bC (bF.part [false,false,false,false,false,true,false,false,true,false,false])
noncomputable def Sv:Tr:=.need (.prim [(W 18 0),(WK (0))] none) (.binOp .neq 3 (.tmp 116) (.const (I3 (0))) 3) 4 false OX
noncomputable def Rs:Tr:=.split (.u 31 0) bC Sv
noncomputable def RJ:Tr:=.need (.prim [(W 30 0),(WK (0))] none) (.binOp .neq 3 (.tmp 113) (.const (I3 (0))) 3) 4 false Rs
noncomputable def Oy:Tr:=.need (.call 35 [(.agg [(U 17 0),(U 17 1),(U 17 2)])] [none]) (.call ⟨.value (.func 35),#[(.tmp 112)],#[39]⟩) 3 false RJ
noncomputable def QN:Tr:=.split (.u 29 0) Oy (bF.part [false,false,false,false,false,true,false,false,false])
noncomputable def OB:Tr:=.need (.prim [(W 19 0),(WK (0))] none) (.binOp .neq 55 (.tmp 109) (.const (I3 (0))) 55) 4 false QN
noncomputable def Oh:Tr:=.split (.u 36 0) bC (bF.part [false,false,false,false,false,true,false,true,false,false,false,true,false,false])
noncomputable def OT:Tr:=.need (.prim [(W 18 0),(WK (0))] none) (.binOp .neq 3 (.tmp 116) (.const (I3 (0))) 3) 4 false Oh
noncomputable def Pb:Tr:=.split (.u 35 0) bC OT
noncomputable def Rl:Tr:=.need (.prim [(W 34 0),(WK (0))] none) (.binOp .neq 3 (.tmp 113) (.const (I3 (0))) 3) 4 false Pb
noncomputable def Of:Tr:=.need (.call 35 [(.agg [(U 17 0),(U 17 1),(U 17 2)])] [none]) (.call ⟨.value (.func 35),#[(.tmp 112)],#[39]⟩) 3 false Rl
noncomputable def Re:Tr:=.split (.u 33 0) Of (bF.part [false,false,false,false,false,true,false,true,false,false,false,false])
noncomputable def RD:Tr:=.need (.prim [(W 19 0),(WK (0))] none) (.binOp .neq 55 (.tmp 109) (.const (I3 (0))) 55) 4 false Re
noncomputable def Pv:Tr:=.split (.u 32 0) bC RD
noncomputable def Qu:Tr:=.need (.prim [(W 18 0),(W 25 0)] none) (.binOp .neq 3 (.tmp 103) (.tmp 104) 3) 4 false Pv
noncomputable def Qa:Tr:=.split (.u 31 0) bC Qu
noncomputable def Sl:Tr:=.need (.prim [(W 30 0)] none) (.unOp .not 4 (.tmp 99)) 4 false Qa
noncomputable def NR:Tr:=.need (.call 44 [(.agg [(U 17 0),(U 17 1),(U 17 2)]),(.agg [(U 24 0),(U 24 1),(U 24 2),(U 24 3)])] [none]) (.call ⟨.value (.func 44),#[(.tmp 97),(.tmp 98)],#[39,49]⟩) 4 false Sl
noncomputable def PY:Tr:=.split (.u 29 0) bC NR
noncomputable def RV:Tr:=.need (.prim [(W 19 0),(WK (0))] none) (.binOp .neq 55 (.tmp 94) (.const (I3 (0))) 55) 4 false PY
noncomputable def Su:Tr:=.split (.u 28 0) RV OB
noncomputable def OS:Tr:=.need (.prim [(W 25 0),(WK (0))] none) (.binOp .gtr 3 (.tmp 91) (.const (I3 (0))) 3) 4 false Su
noncomputable def Sd:Tr:=.split (.u 27 0) bC OS
noncomputable def Qv:Tr:=.need (.prim [(W 19 0),(WK (5))] none) (.binOp .neq 55 (.tmp 87) (.const (I3 (5))) 55) 4 false Sd
noncomputable def RT:Tr:=.split (.u 26 0) Qv Mz
noncomputable def Qb:Tr:=.need (.prim [(W 25 0),(WK (0))] none) (.binOp .eql 3 (.tmp 84) (.const (I3 (0))) 3) 4 false RT
noncomputable def Oa:Tr:=.need (.call 43 [(W 12 0),(.agg [(U 14 0),(U 14 1),(U 14 2),(U 14 3)])] [(some 4),none]) (.call ⟨.value (.func 43),#[(.tmp 79),(.tmp 80)],#[44,49]⟩) 87 false Qb
noncomputable def NC:Tr:=.split (.u 28 0) bC (bF.part [false,false,false,false,true,false,true,false,false])
noncomputable def OM:Tr:=.need (.prim [(W 18 0),(WK (0))] none) (.binOp .neq 3 (.tmp 116) (.const (I3 (0))) 3) 4 false NC
noncomputable def NY:Tr:=.split (.u 27 0) bC OM
noncomputable def RC:Tr:=.need (.prim [(W 26 0),(WK (0))] none) (.binOp .neq 3 (.tmp 113) (.const (I3 (0))) 3) 4 false NY
noncomputable def NJ:Tr:=.need (.call 35 [(.agg [(U 17 0),(U 17 1),(U 17 2)])] [none]) (.call ⟨.value (.func 35),#[(.tmp 112)],#[39]⟩) 3 false RC
noncomputable def NL:Tr:=.split (.u 25 0) NJ (bF.part [false,false,false,false,true,false,false])
noncomputable def Qh:Tr:=.need (.prim [(W 19 0),(WK (0))] none) (.binOp .neq 55 (.tmp 109) (.const (I3 (0))) 55) 4 false NL
noncomputable def PD:Tr:=.split (.u 24 0) bC Qh
noncomputable def QI:Tr:=.need (.prim [(W 19 0),(WK (11))] none) (.binOp .neq 55 (.tmp 75) (.const (I3 (11))) 55) 4 false PD
noncomputable def Qi:Tr:=.split (.u 23 0) QI Oa
noncomputable def Sh:Tr:=.need (.prim [(W 22 0)] none) (.unOp .not 4 (.tmp 73)) 4 false Qi
noncomputable def Ov:Tr:=.need (.call 42 [(W 12 0),(.agg [(U 14 0),(U 14 1),(U 14 2),(U 14 3)])] [none]) (.call ⟨.value (.func 42),#[(.tmp 71),(.tmp 72)],#[44,49]⟩) 4 true Sh
noncomputable def Tz:Tr:=.split (.u 26 0) bC (bF.part [false,false,false,true,false,true,false,false])
noncomputable def WO:Tr:=.need (.prim [(W 18 0),(WK (0))] none) (.binOp .neq 3 (.tmp 116) (.const (I3 (0))) 3) 4 false Tz
noncomputable def Vg:Tr:=.split (.u 25 0) bC WO
noncomputable def WZ:Tr:=.need (.prim [(W 24 0),(WK (0))] none) (.binOp .neq 3 (.tmp 113) (.const (I3 (0))) 3) 4 false Vg
noncomputable def UI:Tr:=.need (.call 35 [(.agg [(U 17 0),(U 17 1),(U 17 2)])] [none]) (.call ⟨.value (.func 35),#[(.tmp 112)],#[39]⟩) 3 false WZ
noncomputable def VZ:Tr:=.split (.u 23 0) UI (bF.part [false,false,false,true,false,false])
noncomputable def Vq:Tr:=.need (.prim [(W 19 0),(WK (0))] none) (.binOp .neq 55 (.tmp 109) (.const (I3 (0))) 55) 4 false VZ
noncomputable def Wt:Tr:=.split (.u 22 0) bC Vq
noncomputable def UQ:Tr:=.need (.prim [(W 19 0),(WK (2))] none) (.binOp .neq 55 (.tmp 68) (.const (I3 (2))) 55) 4 false Wt
noncomputable def VE:Tr:=.split (.u 21 0) UQ Ov
noncomputable def Vv:Tr:=.need (.prim [(W 20 0)] none) (.unOp .not 4 (.tmp 66)) 4 false VE
noncomputable def WA:Tr:=.need (.call 20 [(W 12 0)] [none]) (.call ⟨.value (.func 20),#[(.tmp 65)],#[44]⟩) 4 true Vv
noncomputable def Ud:Tr:=.need (.call 41 [(W 11 0),(.agg [(U 13 0),(U 13 1),(U 13 2)])] [(some 3),none,none]) (.call ⟨.value (.func 41),#[(.tmp 58),(.tmp 59)],#[32,39]⟩) 84 false WA
noncomputable def VG:Tr:=.need (.call 40 [(.agg [(U 4 0),(U 4 1),(U 4 2)])] [(some 3),(some 4)]) (.call ⟨.value (.func 40),#[(.tmp 52)],#[26]⟩) 82 false Ud
noncomputable def To:Tr:=.need (.call 40 [(.agg [(U 1 0),(U 1 1),(U 1 2)])] [(some 3),(some 4)]) (.call ⟨.value (.func 40),#[(.tmp 47)],#[26]⟩) 82 false VG
noncomputable def Tn:Tr:=.need (.call 17 [(.agg [(U 0 0),(U 0 1),(U 0 2),(U 0 3),(U 0 4),(U 0 5),(U 0 6),(U 0 7)])] [(some 5),(some 6)]) (.call ⟨.value (.func 17),#[(.tmp 42)],#[29]⟩) 53 false To
def Wj:Tr:=aJ 16 [] [none] [] [] 4 true (.ret [(W 11 0)])
noncomputable def VD:Tr:=.split (.u 10 0) Wj Tn
noncomputable def VM:Tr:=.need (.prim [(W 9 0)] none) (.unOp .not 4 (.tmp 37)) 4 false VD
noncomputable def WW:Tr:=.need (.call 39 [(.agg [(U 4 0),(U 4 1),(U 4 2)])] [none]) (.call ⟨.value (.func 39),#[(.tmp 36)],#[26]⟩) 4 false VM
def an8:Tr:=aJ 16 [] [none] [] [] 4 true (.ret [(W 9 0)])
noncomputable def Ze:Tr:=.split (.u 8 0) an8 WW
noncomputable def ab3:Tr:=.need (.prim [(W 7 0)] none) (.unOp .not 4 (.tmp 32)) 4 false Ze
noncomputable def ad5:Tr:=.need (.call 39 [(.agg [(U 1 0),(U 1 1),(U 1 2)])] [none]) (.call ⟨.value (.func 39),#[(.tmp 31)],#[26]⟩) 4 false ab3
def am4:Tr:=aJ 16 [] [none] [] [] 4 true (.ret [(W 7 0)])
noncomputable def ZR:Tr:=.split (.u 6 0) am4 ad5
noncomputable def af7:Tr:=.need (.prim [(W 5 0)] none) (.unOp .not 4 (.tmp 28)) 4 false ZR
noncomputable def aa1:Tr:=.need (.call 15 [(.agg [(U 0 0),(U 0 1),(U 0 2),(U 0 3),(U 0 4),(U 0 5),(U 0 6),(U 0 7)])] [none]) (.call ⟨.value (.func 15),#[(.tmp 27)],#[29]⟩) 4 false af7
theorem yV:bF.part [false,false,false,true,false,true,false,false] = (uU).gM (bG [2,3,11,12,15,16] 27):=by kernel_rfl
theorem uM:bF.part [false,false,false,false,true,false,true,false,false] = (uU).gM (bG [2,3,11,12,15,16] 29):=by kernel_rfl
theorem vF:bF.part [false,false,false,false,false,true,false,false,true,false,false] = (uU).gM (bG [2,3,11,12,15,16] 33):=by kernel_rfl
theorem uI:bF.part [false,false,false,false,false,false,true,false,false,false,false] = (uU).gM (bG [2,3,11,12,15,16] 33):=by kernel_rfl
theorem DE:aN prog f6 (fun _=>none) [.v (some 8), .v (some 3), .v none, .v none, .v (some 3)] = aa1:=by kernel_rfl
end Go.Sy
