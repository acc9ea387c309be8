/- Tail's closure. Tail, by hand: the closure writes what it has found.
-/
import Derived.Test.YtdmcadckdnnglaaGreatDoorXa
import Derived.Test.YtdmcadckdnnglaaGreatDoorWb
import Derived.Test.YtdmcadckdnnglaaGreatDoorOc
import Derived.Test.YtdmcadckdnnglaaGreatDoorSd
set_option linter.unusedVariables false
set_option linter.unusedSimpArgs false
namespace Go.Sy
open Go Go.Proofs Tryz Ord
def qA:Tr:=.fail 8
def Ux:Tr:=aJ 131 [(.agg [(U 6 0),(U 6 1),(U 6 2),(U 6 3),(U 6 4),(U 6 5),(U 6 6),(U 6 7),(U 6 8)]),(W 3 0),(W 1 0),(G3 2)] [(some 3)] [48,49,50,51] [185,3,3,39] 39 false (.need (.call 68 [(WK 1)] [(some 3)]) (.call ⟨.value (.func 68),#[(.const (I3 1))],#[2]⟩) 39 false (aJ 38 [(G3 17),(G3 18)] [none] [52,53] [39,39] 3 true (aQ .lss 3 54 0 19 0 4 (.need (.call 130 [(W 20 0),(WK 3)] []) (.call ⟨.value (.func 130),#[(tT 55),(.const (I3 3))],#[4,55]⟩) 0 true (aJ 132 [(.agg [(U 6 0),(U 6 1),(U 6 2),(U 6 3),(U 6 4),(U 6 5),(U 6 6),(U 6 7),(U 6 8)]),(W 0 4)] [none] [57,59] [185,40] 194 false (aJ 133 [(W 21 0),(W 3 0),(W 1 0),(G3 2)] [(some 3)] [60,61,62,63] [194,3,3,39] 39 true qA))))))
def WL:Tr:=aJ 131 [(.agg [(U 6 0),(U 6 1),(U 6 2),(U 6 3),(U 6 4),(U 6 5),(U 6 6),(U 6 7),(U 6 8)]),(W 3 0),(W 1 0),(G3 2)] [(some 3)] [48,49,50,51] [185,3,3,39] 39 false (.need (.call 68 [(WK 1)] [(some 3)]) (.call ⟨.value (.func 68),#[(.const (I3 1))],#[2]⟩) 39 false (aJ 38 [(G3 16),(G3 17)] [none] [52,53] [39,39] 3 true (aQ .lss 3 54 0 18 0 4 (.need (.call 130 [(W 19 0),(WK 3)] []) (.call ⟨.value (.func 130),#[(tT 55),(.const (I3 3))],#[4,55]⟩) 0 true (aJ 132 [(.agg [(U 6 0),(U 6 1),(U 6 2),(U 6 3),(U 6 4),(U 6 5),(U 6 6),(U 6 7),(U 6 8)]),(W 0 4)] [none] [57,59] [185,40] 194 false (aJ 133 [(W 20 0),(W 3 0),(W 1 0),(G3 2)] [(some 3)] [60,61,62,63] [194,3,3,39] 39 true qA))))))
def Xh:Tr:=aJ 131 [(.agg [(U 6 0),(U 6 1),(U 6 2),(U 6 3),(U 6 4),(U 6 5),(U 6 6),(U 6 7),(U 6 8)]),(W 3 0),(W 1 0),(G3 2)] [(some 3)] [48,49,50,51] [185,3,3,39] 39 false (.need (.call 68 [(WK 1)] [(some 3)]) (.call ⟨.value (.func 68),#[(.const (I3 1))],#[2]⟩) 39 false (aJ 38 [(G3 15),(G3 16)] [none] [52,53] [39,39] 3 true (aQ .lss 3 54 0 17 0 4 (.need (.call 130 [(W 18 0),(WK 3)] []) (.call ⟨.value (.func 130),#[(tT 55),(.const (I3 3))],#[4,55]⟩) 0 true (aJ 132 [(.agg [(U 6 0),(U 6 1),(U 6 2),(U 6 3),(U 6 4),(U 6 5),(U 6 6),(U 6 7),(U 6 8)]),(W 0 4)] [none] [57,59] [185,40] 194 false (aJ 133 [(W 19 0),(W 3 0),(W 1 0),(G3 2)] [(some 3)] [60,61,62,63] [194,3,3,39] 39 true qA))))))
def Tg:Tr:=aJ 131 [(.agg [(U 6 0),(U 6 1),(U 6 2),(U 6 3),(U 6 4),(U 6 5),(U 6 6),(U 6 7),(U 6 8)]),(W 3 0),(W 1 0),(G3 2)] [(some 3)] [48,49,50,51] [185,3,3,39] 39 false (.need (.call 68 [(WK 1)] [(some 3)]) (.call ⟨.value (.func 68),#[(.const (I3 1))],#[2]⟩) 39 false (aJ 38 [(G3 14),(G3 15)] [none] [52,53] [39,39] 3 true (aQ .lss 3 54 0 16 0 4 (.need (.call 130 [(W 17 0),(WK 3)] []) (.call ⟨.value (.func 130),#[(tT 55),(.const (I3 3))],#[4,55]⟩) 0 true (aJ 132 [(.agg [(U 6 0),(U 6 1),(U 6 2),(U 6 3),(U 6 4),(U 6 5),(U 6 6),(U 6 7),(U 6 8)]),(W 0 4)] [none] [57,59] [185,40] 194 false (aJ 133 [(W 18 0),(W 3 0),(W 1 0),(G3 2)] [(some 3)] [60,61,62,63] [194,3,3,39] 39 true qA))))))
def Va:Tr:=.split (.u 13 0) (bK .geq 3 33 35 3 0 6 8 4 (.split (.u 14 0) (aQ .leq 3 39 1500 3 0 4 (.split (.u 15 0) (bK .gtr 3 43 44 3 0 1 0 4 (.need (.call 130 [(W 16 0),(WK 3)] []) (.call ⟨.value (.func 130),#[(tT 46),(.const (I3 3))],#[4,55]⟩) 0 true Ux)) (.need (.call 130 [(tF false),(WK 3)] []) (.call ⟨.value (.func 130),#[(tT 46),(.const (I3 3))],#[4,55]⟩) 0 true WL))) (.need (.call 130 [(tF false),(WK 3)] []) (.call ⟨.value (.func 130),#[(tT 46),(.const (I3 3))],#[4,55]⟩) 0 true Xh))) (.need (.call 130 [(tF false),(WK 3)] []) (.call ⟨.value (.func 130),#[(tT 46),(.const (I3 3))],#[4,55]⟩) 0 true Tg)
def WY:Tr:=aJ 131 [(.agg [(U 6 0),(U 6 1),(U 6 2),(U 6 3),(U 6 4),(U 6 5),(U 6 6),(U 6 7),(U 6 8)]),(W 3 0),(W 1 0),(G3 2)] [(some 3)] [48,49,50,51] [185,3,3,39] 39 false (.need (.call 68 [(WK 1)] [(some 3)]) (.call ⟨.value (.func 68),#[(.const (I3 1))],#[2]⟩) 39 false (aJ 38 [(G3 11),(G3 12)] [none] [52,53] [39,39] 3 true (aQ .lss 3 54 0 13 0 4 (.need (.call 130 [(W 14 0),(WK 3)] []) (.call ⟨.value (.func 130),#[(tT 55),(.const (I3 3))],#[4,55]⟩) 0 true (aJ 132 [(.agg [(U 6 0),(U 6 1),(U 6 2),(U 6 3),(U 6 4),(U 6 5),(U 6 6),(U 6 7),(U 6 8)]),(W 0 4)] [none] [57,59] [185,40] 194 false (aJ 133 [(W 15 0),(W 3 0),(W 1 0),(G3 2)] [(some 3)] [60,61,62,63] [194,3,3,39] 39 true qA))))))
def Wu:Tr:=aJ 131 [(.agg [(U 6 0),(U 6 1),(U 6 2),(U 6 3),(U 6 4),(U 6 5),(U 6 6),(U 6 7),(U 6 8)]),(W 3 0),(W 1 0),(G3 2)] [(some 3)] [48,49,50,51] [185,3,3,39] 39 false (.need (.call 68 [(WK 1)] [(some 3)]) (.call ⟨.value (.func 68),#[(.const (I3 1))],#[2]⟩) 39 false (aJ 38 [(G3 9),(G3 10)] [none] [52,53] [39,39] 3 true (aQ .lss 3 54 0 11 0 4 (.need (.call 130 [(W 12 0),(WK 3)] []) (.call ⟨.value (.func 130),#[(tT 55),(.const (I3 3))],#[4,55]⟩) 0 true (aJ 132 [(.agg [(U 6 0),(U 6 1),(U 6 2),(U 6 3),(U 6 4),(U 6 5),(U 6 6),(U 6 7),(U 6 8)]),(W 0 4)] [none] [57,59] [185,40] 194 false (aJ 133 [(W 13 0),(W 3 0),(W 1 0),(G3 2)] [(some 3)] [60,61,62,63] [194,3,3,39] 39 true qA))))))
def an4:Tr:=.split (.u 8 0) (aJ 35 [(G3 2)] [none] [19] [39] 3 false (aQ .geq 3 20 0 9 0 4 (.split (.u 10 0) (aJ 64 [(G3 2),(G3 2)] [(some 3)] [24,25] [39,39] 39 false (aJ 38 [(G3 11),(.agg [(U 6 5),(U 6 6),(U 6 7)])] [none] [26,28] [39,39] 3 false (aQ .leq 3 29 0 12 0 4 Va))) (.need (.call 130 [(tF false),(WK 3)] []) (.call ⟨.value (.func 130),#[(tT 46),(.const (I3 3))],#[4,55]⟩) 0 true WY)))) (.need (.call 130 [(tF false),(WK 3)] []) (.call ⟨.value (.func 130),#[(tT 46),(.const (I3 3))],#[4,55]⟩) 0 true Wu)
def WN:Tr:=aJ 131 [(.agg [(U 6 0),(U 6 1),(U 6 2),(U 6 3),(U 6 4),(U 6 5),(U 6 6),(U 6 7),(U 6 8)]),(W 3 0),(W 1 0),(G3 2)] [(some 3)] [48,49,50,51] [185,3,3,39] 39 false (.need (.call 68 [(WK 1)] [(some 3)]) (.call ⟨.value (.func 68),#[(.const (I3 1))],#[2]⟩) 39 false (aJ 38 [(G3 8),(G3 9)] [none] [52,53] [39,39] 3 true (aQ .lss 3 54 0 10 0 4 (.need (.call 130 [(W 11 0),(WK 3)] []) (.call ⟨.value (.func 130),#[(tT 55),(.const (I3 3))],#[4,55]⟩) 0 true (aJ 132 [(.agg [(U 6 0),(U 6 1),(U 6 2),(U 6 3),(U 6 4),(U 6 5),(U 6 6),(U 6 7),(U 6 8)]),(W 0 4)] [none] [57,59] [185,40] 194 false (aJ 133 [(W 12 0),(W 3 0),(W 1 0),(G3 2)] [(some 3)] [60,61,62,63] [194,3,3,39] 39 true qA))))))
def Yi:Tr:=aJ 100 [(W 0 0),(.agg [(U 0 1),(U 0 2),(U 0 3)])] [(some 5)] [7,9] [32,39] 171 true (aJ 123 [(G5 5)] [(some 9)] [10] [171] 185 true (aQ .geq 3 12 0 1 0 4 (.split (.u 7 0) (aQ .leq 3 15 4 1 0 4 an4) (.need (.call 130 [(tF false),(WK 3)] []) (.call ⟨.value (.func 130),#[(tT 46),(.const (I3 3))],#[4,55]⟩) 0 true WN))))
theorem Ek:aN prog f129 (look [(0,⟨[],[],[],[]⟩)]) [.ref 5, .ref 1, .ref 3, .ref 1, .ref 3] = Yi:=by kernel_rfl
def yI:Tr:=.retr [] 23
def xH:Tr:=.need (.strow 4 3 (.k (.int .i64 (0))) 0 [(.u 22 0),(.u 22 1),(.u 22 2)]) (.store 39 (.tmp 4) (.tmp 64)) 0 false yI
def yR:Tr:=.need (.call 133 [(W 21 0),(W 3 0),(W 1 0),(.agg [(U 2 0),(U 2 1),(U 2 2)])] [(some 3)]) (.call ⟨.value (.func 133),#[(.tmp 60),(.tmp 61),(.tmp 62),(.tmp 63)],#[194,3,3,39]⟩) 39 true xH
def wK:Tr:=.need (.call 132 [(.agg [(U 6 0),(U 6 1),(U 6 2),(U 6 3),(U 6 4),(U 6 5),(U 6 6),(U 6 7),(U 6 8)]),(W 0 4)] [none]) (.call ⟨.value (.func 132),#[(.tmp 57),(.tmp 59)],#[185,40]⟩) 194 false yR
def zS:Tr:=.need (.call 130 [(W 20 0),(WK (3))] []) (.call ⟨.value (.func 130),#[(.tmp 55),(.const (I3 (3)))],#[4,55]⟩) 0 true wK
def xB:Tr:=.need (.prim [(W 19 0),(WK (0))] none) (.binOp .lss 3 (.tmp 54) (.const (I3 (0))) 3) 4 false zS
def zI:Tr:=.need (.call 38 [(.agg [(U 17 0),(U 17 1),(U 17 2)]),(.agg [(U 18 0),(U 18 1),(U 18 2)])] [none]) (.call ⟨.value (.func 38),#[(.tmp 52),(.tmp 53)],#[39,39]⟩) 3 true xB
def wV:Tr:=.need (.call 68 [(WK (1))] [(some 3)]) (.call ⟨.value (.func 68),#[(.const (I3 (1)))],#[2]⟩) 39 false zI
def yF:Tr:=.need (.call 131 [(.agg [(U 6 0),(U 6 1),(U 6 2),(U 6 3),(U 6 4),(U 6 5),(U 6 6),(U 6 7),(U 6 8)]),(W 3 0),(W 1 0),(.agg [(U 2 0),(U 2 1),(U 2 2)])] [(some 3)]) (.call ⟨.value (.func 131),#[(.tmp 48),(.tmp 49),(.tmp 50),(.tmp 51)],#[185,3,3,39]⟩) 39 false wV
def xN:Tr:=.need (.call 130 [(W 16 0),(WK (3))] []) (.call ⟨.value (.func 130),#[(.tmp 46),(.const (I3 (3)))],#[4,55]⟩) 0 true yF
def wN:Tr:=.need (.prim [(W 3 0),(W 1 0)] none) (.binOp .gtr 3 (.tmp 43) (.tmp 44) 3) 4 false xN
def Ag:Tr:=.retr [] 22
def yO:Tr:=.need (.strow 4 3 (.k (.int .i64 (0))) 0 [(.u 21 0),(.u 21 1),(.u 21 2)]) (.store 39 (.tmp 4) (.tmp 64)) 0 false Ag
def yQ:Tr:=.need (.call 133 [(W 20 0),(W 3 0),(W 1 0),(.agg [(U 2 0),(U 2 1),(U 2 2)])] [(some 3)]) (.call ⟨.value (.func 133),#[(.tmp 60),(.tmp 61),(.tmp 62),(.tmp 63)],#[194,3,3,39]⟩) 39 true yO
def yM:Tr:=.need (.call 132 [(.agg [(U 6 0),(U 6 1),(U 6 2),(U 6 3),(U 6 4),(U 6 5),(U 6 6),(U 6 7),(U 6 8)]),(W 0 4)] [none]) (.call ⟨.value (.func 132),#[(.tmp 57),(.tmp 59)],#[185,40]⟩) 194 false yQ
def zA:Tr:=.need (.call 130 [(W 19 0),(WK (3))] []) (.call ⟨.value (.func 130),#[(.tmp 55),(.const (I3 (3)))],#[4,55]⟩) 0 true yM
def wY:Tr:=.need (.prim [(W 18 0),(WK (0))] none) (.binOp .lss 3 (.tmp 54) (.const (I3 (0))) 3) 4 false zA
def zK:Tr:=.need (.call 38 [(.agg [(U 16 0),(U 16 1),(U 16 2)]),(.agg [(U 17 0),(U 17 1),(U 17 2)])] [none]) (.call ⟨.value (.func 38),#[(.tmp 52),(.tmp 53)],#[39,39]⟩) 3 true wY
def yY:Tr:=.need (.call 68 [(WK (1))] [(some 3)]) (.call ⟨.value (.func 68),#[(.const (I3 (1)))],#[2]⟩) 39 false zK
def xE:Tr:=.need (.call 131 [(.agg [(U 6 0),(U 6 1),(U 6 2),(U 6 3),(U 6 4),(U 6 5),(U 6 6),(U 6 7),(U 6 8)]),(W 3 0),(W 1 0),(.agg [(U 2 0),(U 2 1),(U 2 2)])] [(some 3)]) (.call ⟨.value (.func 131),#[(.tmp 48),(.tmp 49),(.tmp 50),(.tmp 51)],#[185,3,3,39]⟩) 39 false yY
def xA:Tr:=.need (.call 130 [(.one (.c (.k (.bool false)))),(WK (3))] []) (.call ⟨.value (.func 130),#[(.tmp 46),(.const (I3 (3)))],#[4,55]⟩) 0 true xE
def xY:Tr:=.split (.u 15 0) wN xA
def wX:Tr:=.need (.prim [(W 3 0),(WK (1500))] none) (.binOp .leq 3 (.tmp 39) (.const (I3 (1500))) 3) 4 false xY
def yK:Tr:=.retr [] 21
def yE:Tr:=.need (.strow 4 3 (.k (.int .i64 (0))) 0 [(.u 20 0),(.u 20 1),(.u 20 2)]) (.store 39 (.tmp 4) (.tmp 64)) 0 false yK
def zQ:Tr:=.need (.call 133 [(W 19 0),(W 3 0),(W 1 0),(.agg [(U 2 0),(U 2 1),(U 2 2)])] [(some 3)]) (.call ⟨.value (.func 133),#[(.tmp 60),(.tmp 61),(.tmp 62),(.tmp 63)],#[194,3,3,39]⟩) 39 true yE
def wW:Tr:=.need (.call 132 [(.agg [(U 6 0),(U 6 1),(U 6 2),(U 6 3),(U 6 4),(U 6 5),(U 6 6),(U 6 7),(U 6 8)]),(W 0 4)] [none]) (.call ⟨.value (.func 132),#[(.tmp 57),(.tmp 59)],#[185,40]⟩) 194 false zQ
def zY:Tr:=.need (.call 130 [(W 18 0),(WK (3))] []) (.call ⟨.value (.func 130),#[(.tmp 55),(.const (I3 (3)))],#[4,55]⟩) 0 true wW
def yX:Tr:=.need (.prim [(W 17 0),(WK (0))] none) (.binOp .lss 3 (.tmp 54) (.const (I3 (0))) 3) 4 false zY
def zU:Tr:=.need (.call 38 [(.agg [(U 15 0),(U 15 1),(U 15 2)]),(.agg [(U 16 0),(U 16 1),(U 16 2)])] [none]) (.call ⟨.value (.func 38),#[(.tmp 52),(.tmp 53)],#[39,39]⟩) 3 true yX
def yZ:Tr:=.need (.call 68 [(WK (1))] [(some 3)]) (.call ⟨.value (.func 68),#[(.const (I3 (1)))],#[2]⟩) 39 false zU
def zG:Tr:=.need (.call 131 [(.agg [(U 6 0),(U 6 1),(U 6 2),(U 6 3),(U 6 4),(U 6 5),(U 6 6),(U 6 7),(U 6 8)]),(W 3 0),(W 1 0),(.agg [(U 2 0),(U 2 1),(U 2 2)])] [(some 3)]) (.call ⟨.value (.func 131),#[(.tmp 48),(.tmp 49),(.tmp 50),(.tmp 51)],#[185,3,3,39]⟩) 39 false yZ
def xP:Tr:=.need (.call 130 [(.one (.c (.k (.bool false)))),(WK (3))] []) (.call ⟨.value (.func 130),#[(.tmp 46),(.const (I3 (3)))],#[4,55]⟩) 0 true zG
def wZ:Tr:=.split (.u 14 0) wX xP
def zH:Tr:=.need (.prim [(W 3 0),(W 6 8)] none) (.binOp .geq 3 (.tmp 33) (.tmp 35) 3) 4 false wZ
def wM:Tr:=.retr [] 20
def Ai:Tr:=.need (.strow 4 3 (.k (.int .i64 (0))) 0 [(.u 19 0),(.u 19 1),(.u 19 2)]) (.store 39 (.tmp 4) (.tmp 64)) 0 false wM
def wF:Tr:=.need (.call 133 [(W 18 0),(W 3 0),(W 1 0),(.agg [(U 2 0),(U 2 1),(U 2 2)])] [(some 3)]) (.call ⟨.value (.func 133),#[(.tmp 60),(.tmp 61),(.tmp 62),(.tmp 63)],#[194,3,3,39]⟩) 39 true Ai
def wO:Tr:=.need (.call 132 [(.agg [(U 6 0),(U 6 1),(U 6 2),(U 6 3),(U 6 4),(U 6 5),(U 6 6),(U 6 7),(U 6 8)]),(W 0 4)] [none]) (.call ⟨.value (.func 132),#[(.tmp 57),(.tmp 59)],#[185,40]⟩) 194 false wF
def zR:Tr:=.need (.call 130 [(W 17 0),(WK (3))] []) (.call ⟨.value (.func 130),#[(.tmp 55),(.const (I3 (3)))],#[4,55]⟩) 0 true wO
def Ae:Tr:=.need (.prim [(W 16 0),(WK (0))] none) (.binOp .lss 3 (.tmp 54) (.const (I3 (0))) 3) 4 false zR
def yB:Tr:=.need (.call 38 [(.agg [(U 14 0),(U 14 1),(U 14 2)]),(.agg [(U 15 0),(U 15 1),(U 15 2)])] [none]) (.call ⟨.value (.func 38),#[(.tmp 52),(.tmp 53)],#[39,39]⟩) 3 true Ae
def zN:Tr:=.need (.call 68 [(WK (1))] [(some 3)]) (.call ⟨.value (.func 68),#[(.const (I3 (1)))],#[2]⟩) 39 false yB
def zM:Tr:=.need (.call 131 [(.agg [(U 6 0),(U 6 1),(U 6 2),(U 6 3),(U 6 4),(U 6 5),(U 6 6),(U 6 7),(U 6 8)]),(W 3 0),(W 1 0),(.agg [(U 2 0),(U 2 1),(U 2 2)])] [(some 3)]) (.call ⟨.value (.func 131),#[(.tmp 48),(.tmp 49),(.tmp 50),(.tmp 51)],#[185,3,3,39]⟩) 39 false zN
def Ah:Tr:=.need (.call 130 [(.one (.c (.k (.bool false)))),(WK (3))] []) (.call ⟨.value (.func 130),#[(.tmp 46),(.const (I3 (3)))],#[4,55]⟩) 0 true zM
def yA:Tr:=.split (.u 13 0) zH Ah
def Ab:Tr:=.need (.prim [(W 12 0),(WK (0))] none) (.binOp .leq 3 (.tmp 29) (.const (I3 (0))) 3) 4 false yA
def xW:Tr:=.need (.call 38 [(.agg [(U 11 0),(U 11 1),(U 11 2)]),(.agg [(U 6 5),(U 6 6),(U 6 7)])] [none]) (.call ⟨.value (.func 38),#[(.tmp 26),(.tmp 28)],#[39,39]⟩) 3 false Ab
def AO:Tr:=.need (.call 64 [(.agg [(U 2 0),(U 2 1),(U 2 2)]),(.agg [(U 2 0),(U 2 1),(U 2 2)])] [(some 3)]) (.call ⟨.value (.func 64),#[(.tmp 24),(.tmp 25)],#[39,39]⟩) 39 false xW
def zB:Tr:=.retr [] 17
def yJ:Tr:=.need (.strow 4 3 (.k (.int .i64 (0))) 0 [(.u 16 0),(.u 16 1),(.u 16 2)]) (.store 39 (.tmp 4) (.tmp 64)) 0 false zB
def wI:Tr:=.need (.call 133 [(W 15 0),(W 3 0),(W 1 0),(.agg [(U 2 0),(U 2 1),(U 2 2)])] [(some 3)]) (.call ⟨.value (.func 133),#[(.tmp 60),(.tmp 61),(.tmp 62),(.tmp 63)],#[194,3,3,39]⟩) 39 true yJ
def xK:Tr:=.need (.call 132 [(.agg [(U 6 0),(U 6 1),(U 6 2),(U 6 3),(U 6 4),(U 6 5),(U 6 6),(U 6 7),(U 6 8)]),(W 0 4)] [none]) (.call ⟨.value (.func 132),#[(.tmp 57),(.tmp 59)],#[185,40]⟩) 194 false wI
def wG:Tr:=.need (.call 130 [(W 14 0),(WK (3))] []) (.call ⟨.value (.func 130),#[(.tmp 55),(.const (I3 (3)))],#[4,55]⟩) 0 true xK
def zF:Tr:=.need (.prim [(W 13 0),(WK (0))] none) (.binOp .lss 3 (.tmp 54) (.const (I3 (0))) 3) 4 false wG
def yS:Tr:=.need (.call 38 [(.agg [(U 11 0),(U 11 1),(U 11 2)]),(.agg [(U 12 0),(U 12 1),(U 12 2)])] [none]) (.call ⟨.value (.func 38),#[(.tmp 52),(.tmp 53)],#[39,39]⟩) 3 true zF
def yC:Tr:=.need (.call 68 [(WK (1))] [(some 3)]) (.call ⟨.value (.func 68),#[(.const (I3 (1)))],#[2]⟩) 39 false yS
def zV:Tr:=.need (.call 131 [(.agg [(U 6 0),(U 6 1),(U 6 2),(U 6 3),(U 6 4),(U 6 5),(U 6 6),(U 6 7),(U 6 8)]),(W 3 0),(W 1 0),(.agg [(U 2 0),(U 2 1),(U 2 2)])] [(some 3)]) (.call ⟨.value (.func 131),#[(.tmp 48),(.tmp 49),(.tmp 50),(.tmp 51)],#[185,3,3,39]⟩) 39 false yC
def wU:Tr:=.need (.call 130 [(.one (.c (.k (.bool false)))),(WK (3))] []) (.call ⟨.value (.func 130),#[(.tmp 46),(.const (I3 (3)))],#[4,55]⟩) 0 true zV
def AL:Tr:=.split (.u 10 0) AO wU
def Bc:Tr:=.need (.prim [(W 9 0),(WK (0))] none) (.binOp .geq 3 (.tmp 20) (.const (I3 (0))) 3) 4 false AL
def Bb:Tr:=.need (.call 35 [(.agg [(U 2 0),(U 2 1),(U 2 2)])] [none]) (.call ⟨.value (.func 35),#[(.tmp 19)],#[39]⟩) 3 false Bc
def wT:Tr:=.retr [] 15
def xF:Tr:=.need (.strow 4 3 (.k (.int .i64 (0))) 0 [(.u 14 0),(.u 14 1),(.u 14 2)]) (.store 39 (.tmp 4) (.tmp 64)) 0 false wT
def wS:Tr:=.need (.call 133 [(W 13 0),(W 3 0),(W 1 0),(.agg [(U 2 0),(U 2 1),(U 2 2)])] [(some 3)]) (.call ⟨.value (.func 133),#[(.tmp 60),(.tmp 61),(.tmp 62),(.tmp 63)],#[194,3,3,39]⟩) 39 true xF
def xJ:Tr:=.need (.call 132 [(.agg [(U 6 0),(U 6 1),(U 6 2),(U 6 3),(U 6 4),(U 6 5),(U 6 6),(U 6 7),(U 6 8)]),(W 0 4)] [none]) (.call ⟨.value (.func 132),#[(.tmp 57),(.tmp 59)],#[185,40]⟩) 194 false wS
def zL:Tr:=.need (.call 130 [(W 12 0),(WK (3))] []) (.call ⟨.value (.func 130),#[(.tmp 55),(.const (I3 (3)))],#[4,55]⟩) 0 true xJ
def yP:Tr:=.need (.prim [(W 11 0),(WK (0))] none) (.binOp .lss 3 (.tmp 54) (.const (I3 (0))) 3) 4 false zL
def wJ:Tr:=.need (.call 38 [(.agg [(U 9 0),(U 9 1),(U 9 2)]),(.agg [(U 10 0),(U 10 1),(U 10 2)])] [none]) (.call ⟨.value (.func 38),#[(.tmp 52),(.tmp 53)],#[39,39]⟩) 3 true yP
def xC:Tr:=.need (.call 68 [(WK (1))] [(some 3)]) (.call ⟨.value (.func 68),#[(.const (I3 (1)))],#[2]⟩) 39 false wJ
def xG:Tr:=.need (.call 131 [(.agg [(U 6 0),(U 6 1),(U 6 2),(U 6 3),(U 6 4),(U 6 5),(U 6 6),(U 6 7),(U 6 8)]),(W 3 0),(W 1 0),(.agg [(U 2 0),(U 2 1),(U 2 2)])] [(some 3)]) (.call ⟨.value (.func 131),#[(.tmp 48),(.tmp 49),(.tmp 50),(.tmp 51)],#[185,3,3,39]⟩) 39 false xC
def Ac:Tr:=.need (.call 130 [(.one (.c (.k (.bool false)))),(WK (3))] []) (.call ⟨.value (.func 130),#[(.tmp 46),(.const (I3 (3)))],#[4,55]⟩) 0 true xG
def AY:Tr:=.split (.u 8 0) Bb Ac
def AU:Tr:=.need (.prim [(W 1 0),(WK (4))] none) (.binOp .leq 3 (.tmp 15) (.const (I3 (4))) 3) 4 false AY
def xZ:Tr:=.retr [] 14
def zX:Tr:=.need (.strow 4 3 (.k (.int .i64 (0))) 0 [(.u 13 0),(.u 13 1),(.u 13 2)]) (.store 39 (.tmp 4) (.tmp 64)) 0 false xZ
def xI:Tr:=.need (.call 133 [(W 12 0),(W 3 0),(W 1 0),(.agg [(U 2 0),(U 2 1),(U 2 2)])] [(some 3)]) (.call ⟨.value (.func 133),#[(.tmp 60),(.tmp 61),(.tmp 62),(.tmp 63)],#[194,3,3,39]⟩) 39 true zX
def xU:Tr:=.need (.call 132 [(.agg [(U 6 0),(U 6 1),(U 6 2),(U 6 3),(U 6 4),(U 6 5),(U 6 6),(U 6 7),(U 6 8)]),(W 0 4)] [none]) (.call ⟨.value (.func 132),#[(.tmp 57),(.tmp 59)],#[185,40]⟩) 194 false xI
def yH:Tr:=.need (.call 130 [(W 11 0),(WK (3))] []) (.call ⟨.value (.func 130),#[(.tmp 55),(.const (I3 (3)))],#[4,55]⟩) 0 true xU
def xM:Tr:=.need (.prim [(W 10 0),(WK (0))] none) (.binOp .lss 3 (.tmp 54) (.const (I3 (0))) 3) 4 false yH
def zE:Tr:=.need (.call 38 [(.agg [(U 8 0),(U 8 1),(U 8 2)]),(.agg [(U 9 0),(U 9 1),(U 9 2)])] [none]) (.call ⟨.value (.func 38),#[(.tmp 52),(.tmp 53)],#[39,39]⟩) 3 true xM
def Ak:Tr:=.need (.call 68 [(WK (1))] [(some 3)]) (.call ⟨.value (.func 68),#[(.const (I3 (1)))],#[2]⟩) 39 false zE
def zZ:Tr:=.need (.call 131 [(.agg [(U 6 0),(U 6 1),(U 6 2),(U 6 3),(U 6 4),(U 6 5),(U 6 6),(U 6 7),(U 6 8)]),(W 3 0),(W 1 0),(.agg [(U 2 0),(U 2 1),(U 2 2)])] [(some 3)]) (.call ⟨.value (.func 131),#[(.tmp 48),(.tmp 49),(.tmp 50),(.tmp 51)],#[185,3,3,39]⟩) 39 false Ak
def xS:Tr:=.need (.call 130 [(.one (.c (.k (.bool false)))),(WK (3))] []) (.call ⟨.value (.func 130),#[(.tmp 46),(.const (I3 (3)))],#[4,55]⟩) 0 true zZ
def AM:Tr:=.split (.u 7 0) AU xS
def AN:Tr:=.need (.prim [(W 1 0),(WK (0))] none) (.binOp .geq 3 (.tmp 12) (.const (I3 (0))) 3) 4 false AM
def Bh:Tr:=.need (.call 123 [(.agg [(U 5 0),(U 5 1),(U 5 2),(U 5 3),(U 5 4)])] [(some 9)]) (.call ⟨.value (.func 123),#[(.tmp 10)],#[171]⟩) 185 true AN
def AQ:Tr:=.need (.call 100 [(W 0 0),(.agg [(U 0 1),(U 0 2),(U 0 3)])] [(some 5)]) (.call ⟨.value (.func 100),#[(.tmp 7),(.tmp 9)],#[32,39]⟩) 171 true Bh
theorem DC:OZ prog f129 (look [(0,⟨[],[],[],[]⟩)]) [.ref 5, .ref 1, .ref 3, .ref 1] 39 3 = AQ:=by kernel_rfl
def uH (bG:Rat) (st:Int) (n d:Int) (r:Rat):Prop:=0 ≤ d ∧ d ≤ 4 ∧ 0 ≤ r.num.sign ∧ kO (r + r) bG ≤ 0 ∧ st ≤ n ∧ n ≤ 1500 ∧ d < n
instance (bG:Rat) (st n d:Int) (r:Rat):Decidable (uH bG st n d r):=inferInstanceAs (Decidable (_ ∧ _))
abbrev fC (e:List (List Rat)) (c:Rat) (y:List Rat):List aI:=[eQ e] ++ qC c ++ [sQ y]
theorem Fi {a b:Rat}:kO a b < 0 ↔ a < b:=by
 unfold kO
 by_cases h1:a < b
 ·rw [if_pos h1]; exact ⟨fun _=>h1,fun _=>by omega⟩
 ·rw [if_neg h1]
  by_cases h2:b < a
  ·rw [if_pos h2]; exact ⟨fun h=>by omega,fun h=>absurd h h1⟩
  ·rw [if_neg h2]; exact ⟨fun h=>by omega,fun h=>absurd h h1⟩
theorem DT (e:List (List Rat)) (c:Rat) (y:List Rat) (d n:Int) (r:Rat) (q:List (List Rat)) (m:Nat) (lead:Rat) (er:Int) (hat:aL prog 100 [.one (eQ e),qT c] (.ret [tB q m lead])) (hre:aL prog 123 [tB q m lead] (.pan (MI er))):aL prog 129 [(.one (.bM (fC e c y)):aH),(.one (.bM ([.int .i64 d])):aH),(.one (.bM (qC r)):aH),(.one (.bM ([.int .i64 n])):aH),(.one (.bM (z3)):aH)] (.pan (MI er)):=by
 refine aD (args:=[.ref 5, .ref 1, .ref 3, .ref 1, .ref 3]) (ins:=[.ref (fC e c y), .ref ([.int .i64 d]), .ref (qC r), .ref ([.int .i64 n]), .ref (z3)]) (hints:=(look [(0,⟨[],[],[],[]⟩)])) fo (by kernel_rfl) func129 ⟨rfl,rfl,rfl,rfl,rfl,trivial⟩ ?_
 rw [Ek]
 dsimp only [List.map,In.env,aB,aA]
 refine aC hat rfl ?_
 dsimp only [aB,aA]
 exact RE hre rfl
set_option maxHeartbeats 2000000 in
theorem Fc (e:List (List Rat)) (c:Rat) (y:List Rat) (d n:Int) (r:Rat) (q:List (List Rat)) (m:Nat) (lead bG:Rat) (st:Int) (B:Nat) (hat:aL prog 100 [.one (eQ e),qT c] (.ret [tB q m lead])) (hre:aL prog 123 [tB q m lead] (.ret [.agg (RZ q m lead bG st)])) (hr:Fit B r) (hrho:Fit B bG) (hB:B ≤ 1073741824) (h64:64 ≤ B) (hn1:-9223372036854775808 ≤ n) (hn2:n < 9223372036854775808) (h0:bG ≠ 0) (hst:0 ≤ st) (hno:uH bG st n d r → ¬ dV bG n d r < 1):aL prog 129 [(.one (.bM (fC e c y)):aH),(.one (.bM ([.int .i64 d])):aH),(.one (.bM (qC r)):aH),(.one (.bM ([.int .i64 n])):aH),(.one (.bM (z3)):aH)] (.pan (MI 3)):=by
 refine aD (args:=[.ref 5, .ref 1, .ref 3, .ref 1, .ref 3]) (ins:=[.ref (fC e c y), .ref ([.int .i64 d]), .ref (qC r), .ref ([.int .i64 n]), .ref (z3)]) (hints:=(look [(0,⟨[],[],[],[]⟩)])) fo (by kernel_rfl) func129 ⟨rfl,rfl,rfl,rfl,rfl,trivial⟩ ?_
 rw [Ek]
 dsimp only [List.map,In.env,aB,aA]
 refine aC hat rfl ?_
 dsimp only [aB,aA]
 refine aC hre rfl ?_
 dsimp only [aB,aA]
 refine vn dJ rfl ?_
 dsimp only [aB,aA]
 refine vs _ rfl (fun h3=>?_) (fun h3=>?_)
 ·refine vn fQ rfl ?_
  dsimp only [aB,aA]
  refine vs _ rfl (fun h5=>?_) (fun h5=>?_)
  ·refine aC (dB r) rfl ?_
   dsimp only [aB,aA]
   refine vn dJ rfl ?_
   dsimp only [aB,aA]
   refine vs _ rfl (fun h8=>?_) (fun h8=>?_)
   ·refine aC (pB r r B B hr hr (by omega)) rfl ?_
    dsimp only [aB,aA]
    refine aC (uE (r + r) bG (B + B + 1) B (hr.add hr) hrho (by omega)) rfl ?_
    dsimp only [aB,aA]
    refine vn fQ rfl ?_
    dsimp only [aB,aA]
    refine vs _ rfl (fun h12=>?_) (fun h12=>?_)
    ·refine vn dJ rfl ?_
     dsimp only [aB,aA]
     refine vs _ rfl (fun h14=>?_) (fun h14=>?_)
     ·refine vn fQ rfl ?_
      dsimp only [aB,aA]
      refine vs _ rfl (fun h16=>?_) (fun h16=>?_)
      ·refine vn cP rfl ?_
       dsimp only [aB,aA]
       by_cases hdn:d < n
       ·have hsh:=hno ⟨by omega,by omega,by omega,by omega,by omega,by omega,hdn⟩
        rw [show decide (d < n) = true from decide_eq_true hdn]
        refine aC (lQ 3) rfl ?_
        dsimp only [aB,aA]
        refine aC (Dr (eQ q) (.int .i64 m) _ _ _ bG st n d r B h0 (by omega) (by omega) (by omega) (by omega) (by omega) hr hrho (by omega)) rfl ?_
        dsimp only [aB,aA]
        refine aC (kQ 1 (by omega) (by omega)) rfl ?_
        dsimp only [aB,aA]
        have hfs:Fit (128 + (B + B)) (dV bG n d r):=((dH (n:=n + 1) (by omega) (by omega)).div (dH (n:=n + 1 - d) (by omega) (by omega))).mul (hr.div hrho)
        refine aC (uE (dV bG n d r) _ (128 + (B + B)) 64 hfs (Fit.int (by omega) (by omega)) (by omega)) rfl ?_
        dsimp only [aB,aA]
        refine vn aY rfl ?_
        dsimp only [aB,aA]
        rw [show decide (kO (dV bG n d r) ((1:Int):Rat) < 0) = false from decide_eq_false (fun hh=>hsh (Fi.1 hh))]
        exact RE (eX 3) rfl
       rw [show decide (d < n) = false from decide_eq_false hdn]
       exact RE (eX 3) rfl
      exact RE (eX 3) rfl
     exact RE (eX 3) rfl
    exact RE (eX 3) rfl
   exact RE (eX 3) rfl
  exact RE (eX 3) rfl
 exact RE (eX 3) rfl
set_option maxHeartbeats 2000000 in
theorem GX (e:List (List Rat)) (c:Rat) (y:List Rat) (d n st:Nat) (r:Rat) (q:List (List Rat)) (m:Nat) (lead bG:Rat) (B N BS:Nat) (hat:aL prog 100 [.one (eQ e),qT c] (.ret [tB q m lead])) (hre:aL prog 123 [tB q m lead] (.ret [.agg (RZ q m lead bG st)])) (C:oC BS bG n d r) (h0:bG ≠ 0) (hok:uH bG st n d r) (hsh:dV bG n d r < 1) (S:kK B q m lead y N) (hN:N ≤ 1073741824) (hst:st ≤ N) (hm:m ≤ 64) (hmN:m ≤ N) (hB:B + B ≤ BS) (hBS:BS ≤ 2147483648) (h64:64 ≤ B) (hql:q.length = m + 1) (hyl:y.length = m) (hp:∀ p ∈ q,p.length < 1048576) (hl0:lead ≠ 0) (hw:m + aU q ≤ st) (hrho:∀ j,j ≤ 2 * st + 1 → Fit B (bG ^ j)) (hbf:Fit BS (EU (bD q m lead y st) bG (st - (m + aU q)) (m + aU q))):BD prog 129 39 [(.one (.bM (fC e c y)):aH),(.one (.bM ([.int .i64 d])):aH),(.one (.bM (qC r)):aH),(.one (.bM ([.int .i64 n])):aH)] (z3) [] (qC (wE (EU (bD q m lead y st) bG (st - (m + aU q)) (m + aU q)) bG n d r)):=by
 refine Ny (a1:=[.ref 5, .ref 1, .ref 3, .ref 1]) (i1:=[.ref (fC e c y), .ref ([.int .i64 d]), .ref (qC r), .ref ([.int .i64 n])]) (n:=3) (hints:=(look [(0,⟨[],[],[],[]⟩)])) fo func129 ⟨rfl,rfl,rfl,rfl,trivial⟩ rfl rfl ?_
 rw [DC]
 dsimp only [List.map,In.env,aB,aA]
 obtain ⟨o1,o2,o3,o4,o5,o6,o7⟩:=hok
 have hr:=C.r1
 have hrh:=C.o1
 refine aC hat rfl ?_
 dsimp only [aB,aA]
 refine aC hre rfl ?_
 dsimp only [aB,aA]
 refine vn dJ rfl ?_
 dsimp only [aB,aA]
 refine vs _ rfl (fun h3=>?_) (fun h3=>?_)
 ·refine vn fQ rfl ?_
  dsimp only [aB,aA]
  refine vs _ rfl (fun h5=>?_) (fun h5=>?_)
  ·refine aC (dB r) rfl ?_
   dsimp only [aB,aA]
   refine vn dJ rfl ?_
   dsimp only [aB,aA]
   refine vs _ rfl (fun h8=>?_) (fun h8=>?_)
   ·refine aC (pB r r BS BS hr hr (by omega)) rfl ?_
    dsimp only [aB,aA]
    refine aC (uE (r + r) bG (BS + BS + 1) BS (hr.add hr) hrh (by omega)) rfl ?_
    dsimp only [aB,aA]
    refine vn fQ rfl ?_
    dsimp only [aB,aA]
    refine vs _ rfl (fun h12=>?_) (fun h12=>?_)
    ·refine vn dJ rfl ?_
     dsimp only [aB,aA]
     refine vs _ rfl (fun h14=>?_) (fun h14=>?_)
     ·refine vn fQ rfl ?_
      dsimp only [aB,aA]
      refine vs _ rfl (fun h16=>?_) (fun h16=>?_)
      ·refine vn cP rfl ?_
       dsimp only [aB,aA]
       rw [show decide ((d:Int) < (n:Int)) = true from decide_eq_true o7]
       refine aC (lQ 3) rfl ?_
       refine aC (Dr (eQ q) (.int .i64 m) _ _ _ bG st n d r BS h0 (by omega) (by omega) (by omega) (by omega) (by omega) hr hrh (by omega)) rfl ?_
       dsimp only [aB,aA]
       refine aC (kQ 1 (by omega) (by omega)) rfl ?_
       dsimp only [aB,aA]
       refine aC (uE (dV bG n d r) _ (128 + (BS + BS)) 64 (C.sh (by omega) (by omega)) (Fit.int (by omega) (by omega)) (by omega)) rfl ?_
       dsimp only [aB,aA]
       refine vn aY rfl ?_
       dsimp only [aB,aA]
       rw [show decide (kO (dV bG n d r) ((1:Int):Rat) < 0) = true from decide_eq_true (Fi.2 hsh)]
       refine aC (lQ 3) rfl ?_
       refine aC (Il q m lead bG st y N B S hst hN hm hmN (by omega) h64 hql hyl hp hl0 hw hrho) rfl ?_
       dsimp only [aB,aA]
       refine aC (UZ (eQ q) (.int .i64 m) _ _ _ bG st y _ _ n d r BS C (by omega) (by omega) h0 hbf (by omega) (by omega) hsh) rfl ?_
       dsimp only [aB,aA]
       refine Fo (ts:=[z3]) (us:=[qC (wE (EU (bD q m lead y st) bG (st - (m + aU q)) (m + aU q)) bG n d r)]) rfl rfl (by omega) (cells:=z3) rfl rfl ?_
       dsimp only [aB,aA]
       exact KI rfl rfl
      exfalso; omega
     exfalso; omega
    exfalso; omega
   exfalso; omega
  exfalso; omega
 exfalso; omega
end Go.Sy
namespace Go.Sy
open Go Go.Proofs Go.RowKit Tryz Ord
attribute [local go_sem] Oper.semAt_some
set_option maxRecDepth 100000 in
set_option maxHeartbeats 1000000 in
theorem SM (M:Nat → Prop) (w:World) (hM:jH M w) (e:List (List Rat)) (c r:Rat) (y:List Rat) (d n er:Int) (v:Rat)
  (hck:aL prog 21 [fT e c y] (.ret [.one (.int .i64 0)])) (hcl:(v = 0 ∧ aL prog 129 [.one (.bM (fC e c y)), .one (.bM [.int .i64 d]), .one (.bM (qC r)), .one (.bM [.int .i64 n]), .one (.bM z3)] (.pan (MI er))) ∨ (er = 0 ∧ BD prog 129 39 [.one (.bM (fC e c y)), .one (.bM [.int .i64 d]), .one (.bM (qC r)), .one (.bM [.int .i64 n])] z3 [] (qC v)))
  (u0 u1 u2 u3 u4 r0 r1 r2:Value) (hf:aZ M w (fC e c y) [u0,u1,u2,u3,u4]) (hr:aZ M w (qC r) [r0,r1,r2]) :
  Calls prog 45 #[.agg #[u0,u1,u2,u3,u4], .int .i64 n, .int .i64 d, .agg #[r0,r1,r2]] w fun e w'=>Below w.heap.size w w' ∧ ∃ y0 y1 y2,e = .returned (.tuple #[.agg #[y0,y1,y2], .int .i64 er]) ∧ aZ M w' (qC v) [y0,y1,y2]:=by
 have hmf:∀ (fn:Fn) (first cap:Array Value) (w:World),(Instr.makeFunc fn first cap).run prog w = .ok (.func fn first cap) w:=fun _ _ _ _=>rfl
 obtain ⟨n0,hn0⟩:∃ n0,w.heap.size = n0:=⟨_,rfl⟩
 obtain ⟨o0,o1,o2,o3,o4⟩:u0.oneCell' = true ∧ u1.oneCell' = true ∧ u2.oneCell' = true ∧ u3.oneCell' = true ∧ u4.oneCell' = true:=by have:=hf.one; exact ⟨this _ (by simp),this _ (by simp),this _ (by simp),this _ (by simp),this _ (by simp)⟩
 obtain ⟨p0,p1,p2⟩:r0.oneCell' = true ∧ r1.oneCell' = true ∧ r2.oneCell' = true:=by have:=hr.one; exact ⟨this _ (by simp),this _ (by simp),this _ (by simp)⟩
 refine calls_of_wp func45 rfl ?_
 simp only [ntmps45,List.size_toArray,List.length_cons,List.length_nil,Nat.reduceAdd,Nat.reduceSub,Array.replicate_succ,Array.replicate_zero,List.push_toArray,List.append_toArray,List.nil_append,List.cons_append]
 obtain ⟨Wa,hWa⟩:∃ Wa,(((((w.alloc (.cells #[u0,u1,u2,u3,u4] 42)).alloc (.cells #[.int .i64 n] 3)).alloc (.cells #[.int .i64 d] 3)).alloc (.cells #[r0,r1,r2] 39)).alloc (.cells #[.slice none 0 0, .bool false, .slice none 0 0] 39)) = Wa:=⟨_,rfl⟩
 have hsa:Wa.heap.size = n0 + 5:=by rw [← hWa]; simp [hn0]
 have hBa:Below w.heap.size w Wa:=by
  rw [← hWa]
  exact (((((Below.refl _ w).alloc (by omega) _).alloc (by simp) _).alloc (by simp; omega) _).alloc (by simp; omega) _).alloc (by simp; omega) _
 have hF:Wa.heap[n0]? = some (.cells #[u0,u1,u2,u3,u4] 42 (0,0)):=by rw [← hWa,heap_alloc_old _ _ _ (by simp; omega),heap_alloc_old _ _ _ (by simp; omega),heap_alloc_old _ _ _ (by simp; omega),heap_alloc_old _ _ _ (by simp; omega),← hn0]; exact heap_alloc_new w _
 have hN:Wa.heap[n0 + 1]? = some (.cells #[.int .i64 n] 3 (0,0)):=by
  rw [← hWa,heap_alloc_old _ _ _ (by simp; omega),heap_alloc_old _ _ _ (by simp; omega),heap_alloc_old _ _ _ (by simp; omega)]
  have:=heap_alloc_new (w.alloc (.cells #[u0,u1,u2,u3,u4] 42)) (.cells #[.int .i64 n] 3)
  rwa [World.size_alloc,hn0] at this
 have hD:Wa.heap[n0 + 2]? = some (.cells #[.int .i64 d] 3 (0,0)):=by
  rw [← hWa,heap_alloc_old _ _ _ (by simp; omega),heap_alloc_old _ _ _ (by simp; omega)]
  have:=heap_alloc_new ((w.alloc (.cells #[u0,u1,u2,u3,u4] 42)).alloc (.cells #[.int .i64 n] 3)) (.cells #[.int .i64 d] 3)
  rwa [World.size_alloc,World.size_alloc,hn0] at this
 have hR:Wa.heap[n0 + 3]? = some (.cells #[r0,r1,r2] 39 (0,0)):=by
  rw [← hWa,heap_alloc_old _ _ _ (by simp; omega)]
  have:=heap_alloc_new (((w.alloc (.cells #[u0,u1,u2,u3,u4] 42)).alloc (.cells #[.int .i64 n] 3)).alloc (.cells #[.int .i64 d] 3)) (.cells #[r0,r1,r2] 39)
  rwa [World.size_alloc,World.size_alloc,World.size_alloc,hn0] at this
 have hQ:Wa.heap[n0 + 4]? = some (.cells #[.slice none 0 0, .bool false, .slice none 0 0] 39 (0,0)):=by
  rw [← hWa]
  have:=heap_alloc_new ((((w.alloc (.cells #[u0,u1,u2,u3,u4] 42)).alloc (.cells #[.int .i64 n] 3)).alloc (.cells #[.int .i64 d] 3)).alloc (.cells #[r0,r1,r2] 39)) (.cells #[.slice none 0 0, .bool false, .slice none 0 0] 39)
  rwa [World.size_alloc,World.size_alloc,World.size_alloc,World.size_alloc,hn0] at this
 have hka:cS M w M Wa:=cS.below hBa
 have hMa:jH M Wa:=⟨fun b hb=>Nat.lt_of_lt_of_le (hM.1 b hb) hBa.size,hM.2.jM hka⟩
 have cF0:Wa.cell? ⟨n0,0,none⟩ = some u0:=aF hF rfl
 have cF1:Wa.cell? ⟨n0,1,none⟩ = some u1:=aF hF rfl
 have cF2:Wa.cell? ⟨n0,2,none⟩ = some u2:=aF hF rfl
 have cF3:Wa.cell? ⟨n0,3,none⟩ = some u3:=aF hF rfl
 have cF4:Wa.cell? ⟨n0,4,none⟩ = some u4:=aF hF rfl
 have k1:Calls prog 21 #[.agg #[u0,u1,u2,u3,u4]] Wa fun r w'=>Below Wa.heap.size Wa w' ∧ r = .returned (.int .i64 0):=by
  refine (hck.2 M Wa [.agg #[u0,u1,u2,u3,u4]] hMa ⟨⟨_,rfl,hf.mono hka⟩,trivial⟩).mono ?_
  rintro r w' ⟨hb,vs,rfl,hvs⟩
  obtain ⟨v,e1,hr⟩:=Jg hvs
  rw [hr.1] at e1
  exact ⟨hb,by rw [e1]⟩
 go_wp2_with (go_at_call 21; refine k1.mono ?_; clear k1; rintro r w1 ⟨hb1,rfl⟩)
 obtain ⟨A,hA⟩:∃ A,w1.heap.size = A:=⟨_,rfl⟩
 have hAs:n0 + 5 ≤ A:=by have:=hb1.size; omega
 obtain ⟨W3,hW3⟩:∃ W3,w1.alloc (.cells #[.slice none 0 0, .bool false, .slice none 0 0] 39) = W3:=⟨_,rfl⟩
 have hs3:W3.heap.size = A + 1:=by rw [← hW3,World.size_alloc,hA]
 have hB3:Below Wa.heap.size Wa W3:=by rw [← hW3]; exact hb1.alloc (by omega) _
 have hA3:W3.heap[A]? = some (.cells #[.slice none 0 0, .bool false, .slice none 0 0] 39 (0,0)):=by rw [← hW3,← hA]; exact heap_alloc_new w1 _
 simp only [hA,hW3]
 obtain ⟨W4,hW4⟩:∃ W4,W3.alloc (.cells #[.int .i64 0] 55) = W4:=⟨_,rfl⟩
 have hB4:Below Wa.heap.size Wa W4:=by rw [← hW4]; exact hB3.alloc (by omega) _
 have hs4:W4.heap.size = A + 2:=by rw [← hW4,World.size_alloc,hs3]
 have hA4:W4.heap[A]? = some (.cells #[.slice none 0 0, .bool false, .slice none 0 0] 39 (0,0)):=by rw [← hW4,heap_alloc_old _ _ _ (by omega)]; exact hA3
 have hX4:W4.heap[W3.heap.size]? = some (.cells #[.int .i64 0] 55 (0,0)):=by rw [← hW4]; exact heap_alloc_new W3 _
 have hk:∀ M':Nat → Prop,(∀ b,M' b → M b ∨ n0 ≤ b) → cS M w M' W4:=fun M' hM' b o hb ho _=>by
  have hlt:=(Array.getElem?_eq_some_iff.1 ho).1
  have h3:b < Wa.heap.size:=by omega
  exact ⟨fun h=>(hM' b h).elim hb (fun h=>by omega),(hB4.block b h3).trans ((hBa.block b hlt).trans ho)⟩
 have hpre:∀ M':Nat → Prop,(∀ b,M' b → M b ∨ n0 + 4 ≤ b) → dQ M' W4 [.one (.bM (fC e c y)), .one (.bM [.int .i64 d]), .one (.bM (qC r)), .one (.bM [.int .i64 n])] [.pointer (some ⟨n0,0,none⟩), .pointer (some ⟨n0 + 1 + 1,0,none⟩), .pointer (some ⟨n0 + 1 + 1 + 1,0,none⟩), .pointer (some ⟨n0 + 1,0,none⟩)]:=fun M' hM'=>by
  have hkk:=hk M' (fun b hb=>(hM' b hb).imp id (by omega))
  have hnm:∀ b,n0 ≤ b → b < n0 + 4 → ¬ M' b:=fun b h1 h2 h=>(hM' b h).elim (fun h=>by have:=hM.1 b h; omega) (by omega)
  refine ⟨⟨n0,0,_,_,_,rfl,hnm _ (by omega) (by omega),(hB4.block _ (by omega)).trans hF,hf.mono hkk⟩,⟨n0 + 2,0,_,_,_,rfl,hnm _ (by omega) (by omega),(hB4.block _ (by omega)).trans hD,⟨⟨rfl,rfl⟩,trivial⟩⟩,⟨n0 + 3,0,_,_,_,rfl,hnm _ (by omega) (by omega),(hB4.block _ (by omega)).trans hR,hr.mono hkk⟩,⟨n0 + 1,0,_,_,_,rfl,hnm _ (by omega) (by omega),(hB4.block _ (by omega)).trans hN,⟨⟨rfl,rfl⟩,trivial⟩⟩,trivial⟩
 have hfine:∀ M':Nat → Prop,(∀ b,M b → M' b) → (∀ b,M' b → M b ∨ (n0 ≤ b ∧ b < A + 2)) → jH M' W4:=fun M' _ hM'=>⟨fun b h=>(hM' b h).elim (fun h=>by have:=hMa.1 b h; have:=hB4.size; omega) (fun h=>by omega),hM.2.jM (hk M' fun b hb=>(hM' b hb).imp id (fun h=>h.1))⟩
 have hc1:Calls prog 121 #[.func (.func 129) #[] #[.pointer (some ⟨n0,0,none⟩), .pointer (some ⟨n0 + 1 + 1,0,none⟩), .pointer (some ⟨n0 + 1 + 1 + 1,0,none⟩), .pointer (some ⟨n0 + 1,0,none⟩), .pointer (some ⟨A,0,none⟩)]] W3 fun r w'=>r = .returned (.int .i64 er) ∧
   ∃ w6,w6.grownBy w' (some (A + 1)) ∧ W4.grownBy w6 (some A) ∧ ∃ y0 y1 y2,w6.heap[A]? = some (.cells #[y0,y1,y2] 39 (0,0)) ∧ aZ (fun b=>M b ∨ b = A ∨ b = A + 1 ∨ b = n0 + 4) w6 (qC v) [y0,y1,y2]:=by
  rcases hcl with ⟨rfl,hcl⟩ | ⟨rfl,hcl⟩
  ·refine (Df 129 _ W3 er (fun w'=>Below W4.heap.size W4 w') (bO (by kernel_rfl)) ?_).mono ?_
   ·rw [hW4]
    refine (hcl.2 M W4 [.pointer (some ⟨n0,0,none⟩), .pointer (some ⟨n0 + 1 + 1,0,none⟩), .pointer (some ⟨n0 + 1 + 1 + 1,0,none⟩), .pointer (some ⟨n0 + 1,0,none⟩), .pointer (some ⟨A,0,none⟩)] (hfine M (fun _ h=>h) (fun _ h=>.inl h)) ?_).mono ?_
    ·obtain ⟨h1,h2,h3,h4,_⟩:=hpre M (fun _ h=>.inl h)
     exact ⟨h1,h2,h3,h4,⟨A,0,_,_,_,rfl,fun h=>by have:=hM.1 A h; omega,hA4,⟨⟨rfl,rfl⟩,⟨rfl,rfl⟩,⟨rfl,rfl⟩,trivial⟩⟩,trivial⟩
    ·rintro r w' ⟨hb,hp⟩
     exact ⟨aq0 hp,(hb.block _ (by omega)).trans hX4,hb⟩
   ·rintro r w' ⟨rfl,w6,hb6,hg⟩
    rw [hs3] at hg
    exact ⟨rfl,w6,hg,⟨hb6.os,hb6.tape,hb6.output,hb6.size,fun k hk _=>hb6.block k hk⟩,_,_,_,(hb6.block A (by omega)).trans hA4,fA.1.rep ⟨rfl,rfl⟩,fA.2.1.rep ⟨rfl,rfl⟩,fA.2.2.1.rep ⟨rfl,rfl⟩,trivial⟩
  ·refine (ED 129 _ W3 (fun w'=>W4.grownBy w' (some A) ∧ ∃ y0 y1 y2,w'.heap[A]? = some (.cells #[y0,y1,y2] 39 (0,0)) ∧ aZ (fun b=>M b ∨ b = A ∨ b = A + 1 ∨ b = n0 + 4) w' (qC v) [y0,y1,y2]) (bO (by kernel_rfl)) ?_).mono ?_
   ·rw [hW4]
    refine (hcl (fun b=>M b ∨ b = A ∨ b = A + 1 ∨ b = n0 + 4) W4 A #[.slice none 0 0, .bool false, .slice none 0 0] [.pointer (some ⟨n0,0,none⟩), .pointer (some ⟨n0 + 1 + 1,0,none⟩), .pointer (some ⟨n0 + 1 + 1 + 1,0,none⟩), .pointer (some ⟨n0 + 1,0,none⟩)] (hfine _ (fun _ h=>.inl h) (fun b h=>h.imp id (by omega))) (.inr (.inl rfl)) hA4 ⟨⟨rfl,rfl⟩,⟨rfl,rfl⟩,⟨rfl,rfl⟩,trivial⟩ (hpre _ (fun b h=>h.imp id (by omega)))).mono ?_
    rintro r w' ⟨cur',us,hg,hA',rfl,hus,hcr⟩
    obtain rfl:us = []:=by cases us with
     | nil=>rfl
     | cons x us=>exact hus.elim
    obtain ⟨y0,y1,y2,hy⟩:=UY hcr
    have hcur:cur' = #[y0,y1,y2]:=by cases cur'; simp_all
    subst hcur
    refine ⟨rfl,?_,hg,y0,y1,y2,hA',hcr⟩
    exact (hg.block _ (by omega) (fun e=>by simp only [Option.some.injEq] at e; omega)).trans hX4
   ·rintro r w' ⟨rfl,w6,⟨hg,hy⟩,rfl,hX6⟩
    refine ⟨rfl,w6,⟨rfl,rfl,rfl,by simp [World.setRow],fun k hk hne=>?_⟩,hg,hy⟩
    rw [hs3] at hX6 ⊢
    exact setRow_other _ _ _ _ (fun e=>hne (by rw [e]))
 refine hc1.mono ?_
 clear hc1
 rintro r7 W7 ⟨rfl,w6,hg7,hg6,y0,y1,y2,hA6,hy⟩
 have hB7:Below Wa.heap.size Wa W7:=by
  refine ⟨by rw [hg7.os,hg6.os,hB4.os],by rw [hg7.tape,hg6.tape,hB4.tape],by rw [hg7.output,hg6.output,hB4.output],by have:=hg7.size; have:=hg6.size; omega,fun k hk=>?_⟩
  rw [hg7.block k (by have:=hg6.size; omega) (fun e=>by simp only [Option.some.injEq] at e; omega),hg6.block k (by omega) (fun e=>by simp only [Option.some.injEq] at e; omega),hB4.block k hk]
 have hA7:W7.heap[A]? = some (.cells #[y0,y1,y2] 39 (0,0)):=(hg7.block A (by have:=hg6.size; omega) (fun e=>by simp only [Option.some.injEq] at e; omega)).trans hA6
 have hR7:W7.heap[n0 + 4]? = some (.cells #[.slice none 0 0, .bool false, .slice none 0 0] 39 (0,0)):=(hB7.block _ (by omega)).trans hQ
 have g5:W7.cell? ⟨A,0,none⟩ = some y0:=aF hA7 rfl
 have g6:W7.cell? ⟨A,1,none⟩ = some y1:=aF hA7 rfl
 have g7:W7.cell? ⟨A,2,none⟩ = some y2:=aF hA7 rfl
 have q0:y0.oneCell' = true:=hy.one _ (by simp)
 have q1:y1.oneCell' = true:=hy.one _ (by simp)
 have q2:y2.oneCell' = true:=hy.one _ (by simp)
 have fr:∀ j,W7.frozen? ⟨n0 + 4,j,none⟩ = false:=fun j=>by simp [World.frozen?,hR7]
 go_wp2
 have st3:=tZ (P:=prog) (W:=W7) hR7 q0 q1 q2
 rw [show n0 + 1 + 1 + 1 + 1 = n0 + 4 from rfl,st3]
 have hs9:(W7.setRow (n0 + 4) #[y0,y1,y2]).heap[n0 + 4]? = some (.cells #[y0,y1,y2] 39 (0,0)):=setRow_heap _ _ _ _ _ _ hR7
 have hb9:Below w.heap.size w (W7.setRow (n0 + 4) #[y0,y1,y2]):=below_setRow (hBa.trans (hB7.mono hBa.size)) (by omega) _
 have hk9:cS (fun b=>M b ∨ b = A ∨ b = A + 1 ∨ b = n0 + 4) w6 M (W7.setRow (n0 + 4) #[y0,y1,y2]):=fun b o hb ho _=>by
  refine ⟨fun h=>hb (.inl h),?_⟩
  rw [setRow_other _ _ _ _ (fun e=>hb (.inr (.inr (.inr e)))),hg7.block b (Array.getElem?_eq_some_iff.1 ho).1 (fun e=>hb (.inr (.inr (.inl (by simpa using e)))))]
  exact ho
 have hy9:=hy.mono hk9
 generalize W7.setRow (n0 + 4) #[y0,y1,y2] = W9 at *
 have t0:W9.cell? ⟨n0 + 4,0,none⟩ = some y0:=aF hs9 rfl
 have t1:W9.cell? ⟨n0 + 4,1,none⟩ = some y1:=aF hs9 rfl
 have t2:W9.cell? ⟨n0 + 4,2,none⟩ = some y2:=aF hs9 rfl
 clear st3
 go_wp2
 simp [bodyPost,results,show f45.results = #[.cell 8 39, .tmp 9] from rfl,go_sem,t0,t1,t2]
 exact ⟨hb9,y0,y1,y2,⟨rfl,rfl,rfl⟩,hy9⟩
end Go.Sy
