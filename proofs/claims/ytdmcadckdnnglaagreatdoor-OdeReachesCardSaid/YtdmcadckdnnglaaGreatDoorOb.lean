/- Known functions. Known functions of the reference; what is small.
-/
import Derived.Test.YtdmcadckdnnglaaGreatDoorOa
set_option linter.unusedVariables false
set_option linter.unusedSimpArgs false
namespace Go.Sy
open Go Go.Proofs Tryz Ord
def aF5:Tr:=.need (.idx 5 (.u 3 0)) (.indexAddr 40 (tT 14) (tT 15)) 0 false (.need (.strow 5 3 (.u 3 0) 0 [(.u 7 0),(.u 7 1),(.u 7 2)]) (.store 39 (tT 26) (tT 21)) 0 false (.need (.idx 9 (.u 4 0)) (.indexAddr 40 (tT 16) (tT 17)) 0 false (.need (.strow 9 3 (.u 4 0) 0 [(.u 8 0),(.u 8 1),(.u 8 2)]) (.store 39 (tT 27) (tT 25)) 0 false (aQ .add 3 10 1 3 0 3 (aQ .sub 3 12 1 4 0 3 (.back 0 [lV 11 0,lV 12 0, .row 10]))))))
def av3:Tr:=.loop 0 [lK 0,lV 2 0, .row 0] (bK .lss 3 7 8 3 0 4 0 4 (.split (.u 6 0) (.need (.idx 5 (.u 4 0)) (.indexAddr 40 (tT 18) (tT 19)) 0 false (.need (.ldrow 5 (.u 4 0) 0 3 true) (.load 39 (tT 20)) 39 false (.need (.idx 5 (.u 3 0)) (.indexAddr 40 (tT 22) (tT 23)) 0 false (.need (.ldrow 5 (.u 3 0) 0 3 true) (.load 39 (tT 24)) 39 false aF5)))) (.retr [] 5)))
def az8:Tr:=.need (.lenrow 0) (.call ⟨.builtin .len,#[(tT 4)],#[40]⟩) 3 false (aQ .sub 3 5 1 1 0 3 av3)
theorem JE:Hm prog f92 (fun _=>none) [.lent 39 3] = az8:=by kernel_rfl
def Rr:Tr:=.back 0 [lV 10 0, .row 9]
def OE:Tr:=.ret [(W 5 0)]
def az3:Tr:=.split (.u 4 0) (eU 0 0 2 0 242 6 8 (dP 5 0 none 2 10 (aJ 68 [(W 6 0)] [(some 3)] [13] [2] 39 true (.need (.lit 3 [[(.u 7 0),(.u 7 1),(.u 7 2)]]) (.buildSlice 72 1 #[(0,(tT 14))]) 72 false (.need (.app 3 56 (some 3) none (some 8)) (.call ⟨.builtin .append,#[(tT 12),(tT 15)],#[72,72]⟩) 72 false (aQ .add 3 8 1 2 0 3 Rr)))))) (aJ 34 [(.one (.c (.sr 3 3)))] [none] [18] [72] 72 true OE)
def as6:Tr:=cM 0 0 6 242 (.loop 0 [lK 0, .nilrow] (bK .lss 3 8 7 2 0 1 0 0 az3))
theorem GC:aN prog f91 (fun _=>none) [.v none] = as6:=by kernel_rfl
def aD5:Tr:=.split (.u 4 0) (eU 0 0 1 0 242 12 13 (dP 5 0 none 2 14 (aJ 50 [(W 6 0)] [(some 4)] [15] [2] 49 true (.need (.lit 4 [[(.u 7 0),(.u 7 1),(.u 7 2),(.u 7 3)]]) (.buildSlice 167 1 #[(0,(tT 16))]) 167 false (.need (.app 4 64 (some 2) none (some 8)) (.call ⟨.builtin .append,#[(tT 11),(tT 17)],#[167,167]⟩) 167 false (aQ .add 3 9 1 1 0 3 Rr)))))) (aJ 144 [(.one (.c (.sr 4 2)))] [none] [19] [167] 167 true OE)
def aB1:Tr:=.loop 0 [lK 0, .nilrow] (cM 0 0 6 242 (bK .lss 3 5 7 1 0 3 0 4 aD5))
theorem HO:aN prog f99 (fun _=>none) [.v none] = aB1:=by kernel_rfl
def XN:Tr:=.ret [(.agg [tN,tN,(tE (.bool false)),tN,tN]),(WK 2)]
def Xr:Tr:=.ret [(.agg [tN,tN,(tE (.bool false)),tN,tN]),(WK 3)]
def ag7:Tr:=aJ 91 [(.one (.c (.sr 1 9)))] [none] [30] [242] 72 false (.need (.lit 1 [[(.k (.int .i64 1))]]) (.buildSlice 242 1 #[(0,(.const (I3 1)))]) 242 false (aJ 91 [(.one (.c (.sr 1 11)))] [none] [32] [242] 72 false (.need (.lit 1 [[(.u 10 0)],[(.u 12 0)]]) (.buildSlice 32 2 #[(0,(tT 31)),(1,(tT 33))]) 32 false (.need (.call 68 [(WK 1)] [(some 3)]) (.call ⟨.value (.func 68),#[(.const (I3 1))],#[2]⟩) 39 false (.need (.lit 3 [[(.u 14 0),(.u 14 1),(.u 14 2)]]) (.buildSlice 40 1 #[(0,(tT 35))]) 40 false (.ret [(.agg [(.c (.sr 1 13)),tN,(tE (.bool false)),tN,(.c (.sr 3 15))]),(WK 0)]))))))
def Zo:Tr:=.need (.lit 1 [[(.u 11 0)],[(.k (.slice none 0 0))],[(.u 13 0)]]) (.buildSlice 32 3 #[(0,(tT 41)),(1,(.const (.slice none 0 0))),(2,(tT 43))]) 32 false (.need (.prim [(W 0 0),(.one (.c (.k (.int .u8 3))))] none) (.binOp .eql 5 (tT 104) (.const (.int .u8 3)) 5) 4 false (.split (.u 15 0) (.need (.rop 7 39 3 none [] [] []) (.call ⟨.value (.func 92),#[(tT 111)],#[40]⟩) 0 true (.ret [(.agg [(.c (.sr 1 14)),tN,(tE (.bool false)),tN,(.c (.sr 3 16))]),(WK 0)])) (.need (.prim [(W 0 0),(.one (.c (.k (.int .u8 7))))] none) (.binOp .geq 5 (tT 107) (.const (.int .u8 7)) 5) 4 false (.split (.u 16 0) (.need (.rop 7 39 3 none [] [] []) (.call ⟨.value (.func 92),#[(tT 111)],#[40]⟩) 0 true (.ret [(.agg [(.c (.sr 1 14)),tN,(tE (.bool false)),tN,(.c (.sr 3 17))]),(WK 0)])) (.ret [(.agg [(.c (.sr 1 14)),tN,(tE (.bool false)),tN,(.c (.sr 3 7))]),(WK 0)])))))
def aj3:Tr:=.need (.lit 1 [[(.u 12 0)],[(.k (.slice none 0 0))],[(.u 14 0)]]) (.buildSlice 32 3 #[(0,(tT 49)),(1,(.const (.slice none 0 0))),(2,(tT 51))]) 32 false (.need (.prim [(W 0 0),(.one (.c (.k (.int .u8 3))))] none) (.binOp .eql 5 (tT 104) (.const (.int .u8 3)) 5) 4 false (.split (.u 16 0) (.need (.rop 7 39 3 none [] [] []) (.call ⟨.value (.func 92),#[(tT 111)],#[40]⟩) 0 true (.ret [(.agg [(.c (.sr 1 15)),tN,(tE (.bool false)),tN,(.c (.sr 3 17))]),(WK 0)])) (.need (.prim [(W 0 0),(.one (.c (.k (.int .u8 7))))] none) (.binOp .geq 5 (tT 107) (.const (.int .u8 7)) 5) 4 false (.split (.u 17 0) (.need (.rop 7 39 3 none [] [] []) (.call ⟨.value (.func 92),#[(tT 111)],#[40]⟩) 0 true (.ret [(.agg [(.c (.sr 1 15)),tN,(tE (.bool false)),tN,(.c (.sr 3 18))]),(WK 0)])) (.ret [(.agg [(.c (.sr 1 15)),tN,(tE (.bool false)),tN,(.c (.sr 3 7))]),(WK 0)])))))
def aa6:Tr:=.need (.lit 1 [[(.k (.slice none 0 0))],[(.u 13 0)],[(.u 15 0)]]) (.buildSlice 32 3 #[(0,(.const (.slice none 0 0))),(1,(tT 57)),(2,(tT 59))]) 32 false (.need (.prim [(W 0 0),(.one (.c (.k (.int .u8 3))))] none) (.binOp .eql 5 (tT 104) (.const (.int .u8 3)) 5) 4 false (.split (.u 17 0) (.need (.rop 7 39 3 none [] [] []) (.call ⟨.value (.func 92),#[(tT 111)],#[40]⟩) 0 true (.ret [(.agg [(.c (.sr 1 16)),tN,(tE (.bool false)),tN,(.c (.sr 3 18))]),(WK 0)])) (.need (.prim [(W 0 0),(.one (.c (.k (.int .u8 7))))] none) (.binOp .geq 5 (tT 107) (.const (.int .u8 7)) 5) 4 false (.split (.u 18 0) (.need (.rop 7 39 3 none [] [] []) (.call ⟨.value (.func 92),#[(tT 111)],#[40]⟩) 0 true (.ret [(.agg [(.c (.sr 1 16)),tN,(tE (.bool false)),tN,(.c (.sr 3 19))]),(WK 0)])) (.ret [(.agg [(.c (.sr 1 16)),tN,(tE (.bool false)),tN,(.c (.sr 3 7))]),(WK 0)])))))
def ZY:Tr:=.need (.lit 1 [[(.k (.slice none 0 0))],[(.u 14 0)],[(.u 16 0)]]) (.buildSlice 32 3 #[(0,(.const (.slice none 0 0))),(1,(tT 65)),(2,(tT 67))]) 32 false (.need (.prim [(W 0 0),(.one (.c (.k (.int .u8 3))))] none) (.binOp .eql 5 (tT 104) (.const (.int .u8 3)) 5) 4 false (.split (.u 18 0) (.need (.rop 7 39 3 none [] [] []) (.call ⟨.value (.func 92),#[(tT 111)],#[40]⟩) 0 true (.ret [(.agg [(.c (.sr 1 17)),tN,(tE (.bool false)),tN,(.c (.sr 3 19))]),(WK 0)])) (.need (.prim [(W 0 0),(.one (.c (.k (.int .u8 7))))] none) (.binOp .geq 5 (tT 107) (.const (.int .u8 7)) 5) 4 false (.split (.u 19 0) (.need (.rop 7 39 3 none [] [] []) (.call ⟨.value (.func 92),#[(tT 111)],#[40]⟩) 0 true (.ret [(.agg [(.c (.sr 1 17)),tN,(tE (.bool false)),tN,(.c (.sr 3 20))]),(WK 0)])) (.ret [(.agg [(.c (.sr 1 17)),tN,(tE (.bool false)),tN,(.c (.sr 3 7))]),(WK 0)])))))
def ZP:Tr:=.need (.lit 1 [[(.k (.slice none 0 0))],[(.u 15 0)],[(.u 17 0)]]) (.buildSlice 32 3 #[(0,(.const (.slice none 0 0))),(1,(tT 73)),(2,(tT 75))]) 32 false (.need (.prim [(W 0 0),(.one (.c (.k (.int .u8 3))))] none) (.binOp .eql 5 (tT 104) (.const (.int .u8 3)) 5) 4 false (.split (.u 19 0) (.need (.rop 7 39 3 none [] [] []) (.call ⟨.value (.func 92),#[(tT 111)],#[40]⟩) 0 true (.ret [(.agg [(.c (.sr 1 18)),tN,(tE (.bool false)),tN,(.c (.sr 3 20))]),(WK 0)])) (.need (.prim [(W 0 0),(.one (.c (.k (.int .u8 7))))] none) (.binOp .geq 5 (tT 107) (.const (.int .u8 7)) 5) 4 false (.split (.u 20 0) (.need (.rop 7 39 3 none [] [] []) (.call ⟨.value (.func 92),#[(tT 111)],#[40]⟩) 0 true (.ret [(.agg [(.c (.sr 1 18)),tN,(tE (.bool false)),tN,(.c (.sr 3 21))]),(WK 0)])) (.ret [(.agg [(.c (.sr 1 18)),tN,(tE (.bool false)),tN,(.c (.sr 3 7))]),(WK 0)])))))
def Lt:Tr:=.need (.prim [(W 0 0),(.one (.c (.k (.int .u8 3))))] none) (.binOp .eql 5 (tT 104) (.const (.int .u8 3)) 5) 4 false (.split (.u 24 0) (.need (.rop 7 39 3 none [] [] []) (.call ⟨.value (.func 92),#[(tT 111)],#[40]⟩) 0 true (.ret [(.agg [(.c (.sr 1 23)),tN,(tE (.bool false)),tN,(.c (.sr 3 25))]),(WK 0)])) (.need (.prim [(W 0 0),(.one (.c (.k (.int .u8 7))))] none) (.binOp .geq 5 (tT 107) (.const (.int .u8 7)) 5) 4 false (.split (.u 25 0) (.need (.rop 7 39 3 none [] [] []) (.call ⟨.value (.func 92),#[(tT 111)],#[40]⟩) 0 true (.ret [(.agg [(.c (.sr 1 23)),tN,(tE (.bool false)),tN,(.c (.sr 3 26))]),(WK 0)])) (.ret [(.agg [(.c (.sr 1 23)),tN,(tE (.bool false)),tN,(.c (.sr 3 7))]),(WK 0)]))))
def Ug:Tr:=.need (.lit 1 [[(.u 16 0)]]) (.buildSlice 242 1 #[(0,(tT 83))]) 242 false (aJ 91 [(.one (.c (.sr 1 17)))] [none] [84] [242] 72 false (.need (.lit 1 [[(.k (.int .i64 0))],[(.k (.int .i64 (-2)))]]) (.buildSlice 242 2 #[(0,(.const (I3 0))),(1,(.const (I3 (-2))))]) 242 false (aJ 91 [(.one (.c (.sr 1 19)))] [none] [86] [242] 72 false (.need (.lit 1 [[(.k (.int .i64 1))],[(.k (.int .i64 0))],[(.k (.int .i64 (-1)))]]) (.buildSlice 242 3 #[(0,(.const (I3 1))),(1,(.const (I3 0))),(2,(.const (I3 (-1))))]) 242 false (aJ 91 [(.one (.c (.sr 1 21)))] [none] [88] [242] 72 true (.need (.lit 1 [[(.u 18 0)],[(.u 20 0)],[(.u 22 0)]]) (.buildSlice 32 3 #[(0,(tT 85)),(1,(tT 87)),(2,(tT 89))]) 32 false Lt))))))
def Ul:Tr:=.need (.lit 1 [[(.u 16 0)]]) (.buildSlice 242 1 #[(0,(tT 95))]) 242 false (aJ 91 [(.one (.c (.sr 1 17)))] [none] [96] [242] 72 false (.need (.lit 1 [[(.k (.int .i64 0))],[(.k (.int .i64 (-2)))]]) (.buildSlice 242 2 #[(0,(.const (I3 0))),(1,(.const (I3 (-2))))]) 242 false (aJ 91 [(.one (.c (.sr 1 19)))] [none] [98] [242] 72 false (.need (.lit 1 [[(.k (.int .i64 1))]]) (.buildSlice 242 1 #[(0,(.const (I3 1)))]) 242 false (aJ 91 [(.one (.c (.sr 1 21)))] [none] [100] [242] 72 true (.need (.lit 1 [[(.u 18 0)],[(.u 20 0)],[(.u 22 0)]]) (.buildSlice 32 3 #[(0,(tT 97)),(1,(tT 99)),(2,(tT 101))]) 32 false Lt))))))
def VF:Tr:=.split (.u 15 0) (.need (.prim [(WK 2),(W 1 0)] none) (.binOp .mul 2 (.const (I3 2)) (tT 94) 2) 2 false Ul) (.need (.prim [(W 0 0),(.one (.c (.k (.int .u8 3))))] none) (.binOp .eql 5 (tT 104) (.const (.int .u8 3)) 5) 4 false (.split (.u 16 0) (.need (.rop 7 39 3 none [] [] []) (.call ⟨.value (.func 92),#[(tT 111)],#[40]⟩) 0 true (.ret [(.agg [tN,tN,(tE (.bool false)),tN,(.c (.sr 3 17))]),(WK 0)])) (.need (.prim [(W 0 0),(.one (.c (.k (.int .u8 7))))] none) (.binOp .geq 5 (tT 107) (.const (.int .u8 7)) 5) 4 false (.split (.u 17 0) (.need (.rop 7 39 3 none [] [] []) (.call ⟨.value (.func 92),#[(tT 111)],#[40]⟩) 0 true (.ret [(.agg [tN,tN,(tE (.bool false)),tN,(.c (.sr 3 18))]),(WK 0)])) (.ret [(.agg [tN,tN,(tE (.bool false)),tN,(.c (.sr 3 7))]),(WK 0)])))))
def Yx:Tr:=.split (.u 12 0) (.need (.lit 1 [[(.k (.int .i64 1))]]) (.buildSlice 242 1 #[(0,(.const (I3 1)))]) 242 false (aJ 91 [(.one (.c (.sr 1 13)))] [none] [64] [242] 72 false (.need (.lit 1 [[(.k (.int .i64 1))],[(.k (.int .i64 1))]]) (.buildSlice 242 2 #[(0,(.const (I3 1))),(1,(.const (I3 1)))]) 242 false (aJ 91 [(.one (.c (.sr 1 15)))] [none] [66] [242] 72 true ZY)))) (.need (.prim [(W 0 0),(.one (.c (.k (.int .u8 6))))] none) (.binOp .eql 5 (tT 27) (.const (.int .u8 6)) 5) 4 false (.split (.u 13 0) (.need (.lit 1 [[(.k (.int .i64 0))],[(.k (.int .i64 2))]]) (.buildSlice 242 2 #[(0,(.const (I3 0))),(1,(.const (I3 2)))]) 242 false (aJ 91 [(.one (.c (.sr 1 14)))] [none] [72] [242] 72 false (.need (.lit 1 [[(.k (.int .i64 1))],[(.k (.int .i64 0))],[(.k (.int .i64 1))]]) (.buildSlice 242 3 #[(0,(.const (I3 1))),(1,(.const (I3 0))),(2,(.const (I3 1)))]) 242 false (aJ 91 [(.one (.c (.sr 1 16)))] [none] [74] [242] 72 true ZP)))) (.need (.prim [(W 0 0),(.one (.c (.k (.int .u8 7))))] none) (.binOp .eql 5 (tT 27) (.const (.int .u8 7)) 5) 4 false (.split (.u 14 0) (aQ .add 2 81 1 1 0 2 (bK .mul 2 80 82 1 0 15 0 2 Ug)) (.need (.prim [(W 0 0),(.one (.c (.k (.int .u8 8))))] none) (.binOp .eql 5 (tT 27) (.const (.int .u8 8)) 5) 4 false VF)))))
def Yn:Tr:=.split (.u 10 0) (.need (.lit 1 [[(.k (.int .i64 0))],[(.k (.int .i64 (-1)))]]) (.buildSlice 242 2 #[(0,(.const (I3 0))),(1,(.const (I3 (-1))))]) 242 false (aJ 91 [(.one (.c (.sr 1 11)))] [none] [48] [242] 72 false (.need (.lit 1 [[(.k (.int .i64 1))]]) (.buildSlice 242 1 #[(0,(.const (I3 1)))]) 242 false (aJ 91 [(.one (.c (.sr 1 13)))] [none] [50] [242] 72 true aj3)))) (.need (.prim [(W 0 0),(.one (.c (.k (.int .u8 4))))] none) (.binOp .eql 5 (tT 27) (.const (.int .u8 4)) 5) 4 false (.split (.u 11 0) (.need (.lit 1 [[(.k (.int .i64 0))],[(.k (.int .i64 2))]]) (.buildSlice 242 2 #[(0,(.const (I3 0))),(1,(.const (I3 2)))]) 242 false (aJ 91 [(.one (.c (.sr 1 12)))] [none] [56] [242] 72 false (.need (.lit 1 [[(.k (.int .i64 1))]]) (.buildSlice 242 1 #[(0,(.const (I3 1)))]) 242 false (aJ 91 [(.one (.c (.sr 1 14)))] [none] [58] [242] 72 true aa6)))) (.need (.prim [(W 0 0),(.one (.c (.k (.int .u8 5))))] none) (.binOp .eql 5 (tT 27) (.const (.int .u8 5)) 5) 4 false Yx)))
def ZW:Tr:=.split (.u 8 0) (.need (.lit 1 [[(.k (.int .i64 (-1)))]]) (.buildSlice 242 1 #[(0,(.const (I3 (-1))))]) 242 false ag7) (.need (.prim [(W 0 0),(.one (.c (.k (.int .u8 2))))] none) (.binOp .eql 5 (tT 27) (.const (.int .u8 2)) 5) 4 false (.split (.u 9 0) (.need (.lit 1 [[(.k (.int .i64 1))]]) (.buildSlice 242 1 #[(0,(.const (I3 1)))]) 242 false (aJ 91 [(.one (.c (.sr 1 10)))] [none] [40] [242] 72 false (.need (.lit 1 [[(.k (.int .i64 1))]]) (.buildSlice 242 1 #[(0,(.const (I3 1)))]) 242 false (aJ 91 [(.one (.c (.sr 1 12)))] [none] [42] [242] 72 true Zo)))) (.need (.prim [(W 0 0),(.one (.c (.k (.int .u8 3))))] none) (.binOp .eql 5 (tT 27) (.const (.int .u8 3)) 5) 4 false Yn)))
def aw9:Tr:=aQ .lss 3 15 0 1 0 4 (.split (.u 4 0) Xr (aQ .gtr 3 18 40 1 0 4 (.split (.u 5 0) Xr (.need (.call 68 [(WK 1)] [(some 3)]) (.call ⟨.value (.func 68),#[(.const (I3 1))],#[2]⟩) 39 false (.need (.lit 3 [[(.k (.slice none 0 0)),(.k (.bool false)),(.k (.slice none 0 0))],[(.u 6 0),(.u 6 1),(.u 6 2)]]) (.buildSlice 40 2 #[(0,(tT 23)),(1,(tT 24))]) 40 false (.need (.prim [(W 0 0),(.one (.c (.k (.int .u8 1))))] none) (.binOp .eql 5 (tT 27) (.const (.int .u8 1)) 5) 4 false ZW))))))
def aw5:Tr:=.need (.prim [(W 0 0),(.one (.c (.k (.int .u8 1))))] none) (.binOp .lss 5 (tT 8) (.const (.int .u8 1)) 5) 4 false (.split (.u 2 0) XN (.need (.prim [(W 0 0),(.one (.c (.k (.int .u8 8))))] none) (.binOp .gtr 5 (tT 11) (.const (.int .u8 8)) 5) 4 false (.split (.u 3 0) XN aw9)))
theorem Rp:aN prog f18 (fun _=>none) [.v none, .v none] = aw5:=by kernel_rfl
def YS:Tr:=.need (.lit 1 [[(.k (.int .i64 (-1)))]]) (.buildSlice 242 1 #[(0,(.const (I3 (-1))))]) 242 false (aJ 99 [(.one (.c (.sr 1 4)))] [none] [14] [242] 167 false (.need (.lit 1 [[(.k (.int .i64 1))]]) (.buildSlice 242 1 #[(0,(.const (I3 1)))]) 242 false (aJ 99 [(.one (.c (.sr 1 6)))] [none] [16] [242] 167 false (.need (.lit 1 [[(.u 5 0)],[(.u 7 0)]]) (.buildSlice 44 2 #[(0,(tT 15)),(1,(tT 17))]) 44 false (.need (.lit 4 [[(.u 2 0),(.u 2 1),(.u 2 2),(.u 2 3)]]) (.buildSlice 50 1 #[(0,(tT 19))]) 50 false (.ret [(.agg [(.c (.sr 1 8)),(tE (.int .i64 0)),tN,(tE (.int .i64 0)),tN,(.c (.sr 4 9))])]))))))
def WQ:Tr:=.need (.lit 1 [[(.k (.int .i64 1))]]) (.buildSlice 242 1 #[(0,(.const (I3 1)))]) 242 false (aJ 99 [(.one (.c (.sr 1 5)))] [none] [24] [242] 167 false (.need (.lit 1 [[(.k (.int .i64 1))]]) (.buildSlice 242 1 #[(0,(.const (I3 1)))]) 242 false (aJ 99 [(.one (.c (.sr 1 7)))] [none] [26] [242] 167 false (.need (.lit 1 [[(.u 6 0)],[(.k (.slice none 0 0))],[(.u 8 0)]]) (.buildSlice 44 3 #[(0,(tT 25)),(1,(.const (.slice none 0 0))),(2,(tT 27))]) 44 false (.need (.lit 4 [[(.k (.int .i64 0)),(.k (.slice none 0 0)),(.k (.int .i64 0)),(.k (.slice none 0 0))],[(.u 2 0),(.u 2 1),(.u 2 2),(.u 2 3)]]) (.buildSlice 50 2 #[(0,(tT 29)),(1,(tT 30))]) 50 false (.ret [(.agg [(.c (.sr 1 9)),(tE (.int .i64 0)),tN,(tE (.int .i64 0)),tN,(.c (.sr 4 10))])]))))))
def Ui:Tr:=.need (.lit 1 [[(.k (.int .i64 0))],[(.k (.int .i64 (-1)))]]) (.buildSlice 242 2 #[(0,(.const (I3 0))),(1,(.const (I3 (-1))))]) 242 false (aJ 99 [(.one (.c (.sr 1 6)))] [none] [35] [242] 167 false (.need (.lit 1 [[(.k (.int .i64 1))]]) (.buildSlice 242 1 #[(0,(.const (I3 1)))]) 242 false (aJ 99 [(.one (.c (.sr 1 8)))] [none] [37] [242] 167 false (.need (.lit 1 [[(.u 7 0)],[(.k (.slice none 0 0))],[(.u 9 0)]]) (.buildSlice 44 3 #[(0,(tT 36)),(1,(.const (.slice none 0 0))),(2,(tT 38))]) 44 false (.need (.lit 4 [[(.u 2 0),(.u 2 1),(.u 2 2),(.u 2 3)],[(.k (.int .i64 0)),(.k (.slice none 0 0)),(.k (.int .i64 0)),(.k (.slice none 0 0))]]) (.buildSlice 50 2 #[(0,(tT 40)),(1,(tT 41))]) 50 false (.ret [(.agg [(.c (.sr 1 10)),(tE (.int .i64 0)),tN,(tE (.int .i64 0)),tN,(.c (.sr 4 11))])]))))))
def Ws:Tr:=.need (.lit 1 [[(.k (.int .i64 0))],[(.k (.int .i64 2))]]) (.buildSlice 242 2 #[(0,(.const (I3 0))),(1,(.const (I3 2)))]) 242 false (aJ 99 [(.one (.c (.sr 1 7)))] [none] [46] [242] 167 false (.need (.lit 1 [[(.k (.int .i64 1))]]) (.buildSlice 242 1 #[(0,(.const (I3 1)))]) 242 false (aJ 99 [(.one (.c (.sr 1 9)))] [none] [48] [242] 167 false (.need (.lit 1 [[(.k (.slice none 0 0))],[(.u 8 0)],[(.u 10 0)]]) (.buildSlice 44 3 #[(0,(.const (.slice none 0 0))),(1,(tT 47)),(2,(tT 49))]) 44 false (.need (.lit 4 [[(.k (.int .i64 0)),(.k (.slice none 0 0)),(.k (.int .i64 0)),(.k (.slice none 0 0))],[(.u 2 0),(.u 2 1),(.u 2 2),(.u 2 3)]]) (.buildSlice 50 2 #[(0,(tT 51)),(1,(tT 52))]) 50 false (.ret [(.agg [(.c (.sr 1 11)),(tE (.int .i64 0)),tN,(tE (.int .i64 0)),tN,(.c (.sr 4 12))])]))))))
def Vf:Tr:=.need (.lit 1 [[(.k (.int .i64 1))]]) (.buildSlice 242 1 #[(0,(.const (I3 1)))]) 242 false (aJ 99 [(.one (.c (.sr 1 8)))] [none] [57] [242] 167 false (.need (.lit 1 [[(.k (.int .i64 1))],[(.k (.int .i64 1))]]) (.buildSlice 242 2 #[(0,(.const (I3 1))),(1,(.const (I3 1)))]) 242 false (aJ 99 [(.one (.c (.sr 1 10)))] [none] [59] [242] 167 false (.need (.lit 1 [[(.k (.slice none 0 0))],[(.u 9 0)],[(.u 11 0)]]) (.buildSlice 44 3 #[(0,(.const (.slice none 0 0))),(1,(tT 58)),(2,(tT 60))]) 44 false (.need (.lit 4 [[(.k (.int .i64 0)),(.k (.slice none 0 0)),(.k (.int .i64 0)),(.k (.slice none 0 0))],[(.u 2 0),(.u 2 1),(.u 2 2),(.u 2 3)]]) (.buildSlice 50 2 #[(0,(tT 62)),(1,(tT 63))]) 50 false (.ret [(.agg [(.c (.sr 1 12)),(tE (.int .i64 0)),tN,(tE (.int .i64 0)),tN,(.c (.sr 4 13))])]))))))
def UN:Tr:=.need (.lit 1 [[(.k (.int .i64 0))],[(.k (.int .i64 2))]]) (.buildSlice 242 2 #[(0,(.const (I3 0))),(1,(.const (I3 2)))]) 242 false (aJ 99 [(.one (.c (.sr 1 9)))] [none] [68] [242] 167 false (.need (.lit 1 [[(.k (.int .i64 1))],[(.k (.int .i64 0))],[(.k (.int .i64 1))]]) (.buildSlice 242 3 #[(0,(.const (I3 1))),(1,(.const (I3 0))),(2,(.const (I3 1)))]) 242 false (aJ 99 [(.one (.c (.sr 1 11)))] [none] [70] [242] 167 false (.need (.lit 1 [[(.k (.slice none 0 0))],[(.u 10 0)],[(.u 12 0)]]) (.buildSlice 44 3 #[(0,(.const (.slice none 0 0))),(1,(tT 69)),(2,(tT 71))]) 44 false (.need (.lit 4 [[(.k (.int .i64 0)),(.k (.slice none 0 0)),(.k (.int .i64 0)),(.k (.slice none 0 0))],[(.u 2 0),(.u 2 1),(.u 2 2),(.u 2 3)]]) (.buildSlice 50 2 #[(0,(tT 73)),(1,(tT 74))]) 50 false (.ret [(.agg [(.c (.sr 1 13)),(tE (.int .i64 0)),tN,(tE (.int .i64 0)),tN,(.c (.sr 4 14))])]))))))
def UW:Tr:=.need (.lit 1 [[(.k (.int .i64 0))],[(.k (.int .i64 (-2)))]]) (.buildSlice 242 2 #[(0,(.const (I3 0))),(1,(.const (I3 (-2))))]) 242 false (aJ 99 [(.one (.c (.sr 1 14)))] [none] [85] [242] 167 false (.need (.lit 1 [[(.k (.int .i64 1))],[(.k (.int .i64 0))],[(.k (.int .i64 (-1)))]]) (.buildSlice 242 3 #[(0,(.const (I3 1))),(1,(.const (I3 0))),(2,(.const (I3 (-1))))]) 242 false (aJ 99 [(.one (.c (.sr 1 16)))] [none] [87] [242] 167 false (.need (.lit 1 [[(.u 13 0)],[(.u 15 0)],[(.u 17 0)]]) (.buildSlice 44 3 #[(0,(tT 84)),(1,(tT 86)),(2,(tT 88))]) 44 false (.need (.lit 4 [[(.u 2 0),(.u 2 1),(.u 2 2),(.u 2 3)],[(.k (.int .i64 0)),(.k (.slice none 0 0)),(.k (.int .i64 0)),(.k (.slice none 0 0))]]) (.buildSlice 50 2 #[(0,(tT 90)),(1,(tT 91))]) 50 false (.ret [(.agg [(.c (.sr 1 18)),(tE (.int .i64 0)),tN,(tE (.int .i64 0)),tN,(.c (.sr 4 19))])]))))))
def Ve:Tr:=.need (.lit 1 [[(.k (.int .i64 0))],[(.k (.int .i64 (-2)))]]) (.buildSlice 242 2 #[(0,(.const (I3 0))),(1,(.const (I3 (-2))))]) 242 false (aJ 99 [(.one (.c (.sr 1 13)))] [none] [98] [242] 167 false (.need (.lit 1 [[(.k (.int .i64 1))]]) (.buildSlice 242 1 #[(0,(.const (I3 1)))]) 242 false (aJ 99 [(.one (.c (.sr 1 15)))] [none] [100] [242] 167 false (.need (.lit 1 [[(.u 12 0)],[(.u 14 0)],[(.u 16 0)]]) (.buildSlice 44 3 #[(0,(tT 97)),(1,(tT 99)),(2,(tT 101))]) 44 false (.need (.lit 4 [[(.u 2 0),(.u 2 1),(.u 2 2),(.u 2 3)],[(.k (.int .i64 0)),(.k (.slice none 0 0)),(.k (.int .i64 0)),(.k (.slice none 0 0))]]) (.buildSlice 50 2 #[(0,(tT 103)),(1,(tT 104))]) 50 false (.ret [(.agg [(.c (.sr 1 17)),(tE (.int .i64 0)),tN,(tE (.int .i64 0)),tN,(.c (.sr 4 18))])]))))))
def Vs:Tr:=.split (.u 8 0) UN (.need (.prim [(W 0 0),(.one (.c (.k (.int .u8 7))))] none) (.binOp .eql 5 (tT 11) (.const (.int .u8 7)) 5) 4 false (.split (.u 9 0) (aQ .add 2 80 1 1 0 2 (bK .mul 2 79 81 1 0 10 0 2 (.need (.lit 1 [[(.u 11 0)]]) (.buildSlice 242 1 #[(0,(tT 82))]) 242 false (aJ 99 [(.one (.c (.sr 1 12)))] [none] [83] [242] 167 false UW)))) (.need (.prim [(WK 2),(W 1 0)] none) (.binOp .mul 2 (.const (I3 2)) (tT 94) 2) 2 false (.need (.lit 1 [[(.u 10 0)]]) (.buildSlice 242 1 #[(0,(tT 95))]) 242 false (aJ 99 [(.one (.c (.sr 1 11)))] [none] [96] [242] 167 false Ve)))))
def Ue:Tr:=.need (.prim [(W 0 0),(.one (.c (.k (.int .u8 3))))] none) (.binOp .eql 5 (tT 11) (.const (.int .u8 3)) 5) 4 false (.split (.u 5 0) Ui (.need (.prim [(W 0 0),(.one (.c (.k (.int .u8 4))))] none) (.binOp .eql 5 (tT 11) (.const (.int .u8 4)) 5) 4 false (.split (.u 6 0) Ws (.need (.prim [(W 0 0),(.one (.c (.k (.int .u8 5))))] none) (.binOp .eql 5 (tT 11) (.const (.int .u8 5)) 5) 4 false (.split (.u 7 0) Vf (.need (.prim [(W 0 0),(.one (.c (.k (.int .u8 6))))] none) (.binOp .eql 5 (tT 11) (.const (.int .u8 6)) 5) 4 false Vs))))))
def am9:Tr:=.need (.call 50 [(WK 1)] [(some 4)]) (.call ⟨.value (.func 50),#[(.const (I3 1))],#[2]⟩) 49 true (.need (.prim [(W 0 0),(.one (.c (.k (.int .u8 1))))] none) (.binOp .eql 5 (tT 11) (.const (.int .u8 1)) 5) 4 false (.split (.u 3 0) YS (.need (.prim [(W 0 0),(.one (.c (.k (.int .u8 2))))] none) (.binOp .eql 5 (tT 11) (.const (.int .u8 2)) 5) 4 false (.split (.u 4 0) WQ Ue))))
theorem Ro:aN prog f25 (fun _=>none) [.v none, .v none] = am9:=by kernel_rfl
theorem tU (a0 a1 a2 b0 b1 b2:aI):sY prog 92 39 3 [] [] ([[a0,a1,a2],[b0,b1,b2]]) [] ([[b0,b1,b2],[a0,a1,a2]]):=by
 refine BJ (a1:=[]) (a2:=[]) (i1:=[]) (i2:=[]) (hints:=(fun _=>none)) fo (by kernel_rfl) func92 trivial trivial (by kernel_rfl) ?_ ?_ ?_ ?_
 ·simp [rT]
 ·simp [rT]
 ·simp [rT]
 dsimp only [aB,aA]
 rw [JE]
 dsimp only [List.map,In.env,aB,aA]
 refine Jt (n:=2) rfl rfl ?_
 dsimp only [aB,aA]
 refine vn (aG (by omega) (by omega)) rfl ?_
 dsimp only [aB,aA]
 refine bA Bool (fun g=>if g then [.one (.int .i64 1), .one (.int .i64 0), .rows [[b0,b1,b2],[a0,a1,a2]]] else [.one (.int .i64 0), .one (.int .i64 1), .rows [[a0,a1,a2],[b0,b1,b2]]]) (fun g=>if g then 0 else 1) false aM.rfl (fun g=>by cases g <;> rfl) ?_
 intro g
 cases g
 case true=>
  show vc _ _ _ [_,_,_, .one (.int .i64 1), .one (.int .i64 0), .rows [[b0,b1,b2],[a0,a1,a2]]] _
  refine vn aY rfl ?_
  refine vs _ rfl (fun h=>absurd h (by decide)) (fun _=>?_)
  exact KI rfl rfl
 show vc _ _ _ [_,_,_, .one (.int .i64 0), .one (.int .i64 1), .rows [[a0,a1,a2],[b0,b1,b2]]] _
 refine vn aY rfl ?_
 dsimp only [aB,aA]
 refine vs _ rfl (fun _=>?_) (fun h=>absurd (by decide) h)
 refine oW rfl rfl (by decide) (by simp) ?_
 refine vld (t:=.agg [b0,b1,b2]) rfl rfl (by decide) rfl (.inl rfl) rfl ?_
 dsimp only [aB,aA,Mb,List.drop,List.take]
 refine oW rfl rfl (by decide) (by simp) ?_
 refine vld (t:=.agg [a0,a1,a2]) rfl rfl (by decide) rfl (.inl rfl) rfl ?_
 dsimp only [aB,aA,Mb,List.drop,List.take]
 refine oW rfl rfl (by decide) (by simp) ?_
 refine Fo (us:=[[b0,b1,b2],[b0,b1,b2]]) rfl rfl (by decide) rfl rfl ?_
 dsimp only [aB,aA]
 refine oW rfl rfl (by decide) (by simp) ?_
 refine Fo (us:=[[b0,b1,b2],[a0,a1,a2]]) rfl rfl (by decide) rfl rfl ?_
 dsimp only [aB,aA]
 refine vn (aE (by omega) (by omega)) rfl ?_
 dsimp only [aB,aA]
 refine vn (aG (by omega) (by omega)) rfl ?_
 dsimp only [aB,aA]
 exact aP rfl ⟨true,aM.rfl,by decide⟩
abbrev sI (l:List Int):aI:=.slice 1 (l.map fun n=>[aI.int .i64 n])
def ints (l:List Int):List Rat:=trim (l.map fun n:Int=>(n:Rat))
def fO (l:List Int):Prop:=∀ n ∈ l,-9223372036854775808 ≤ n ∧ n < 9223372036854775808
theorem bR (l:List Int) (h:fO l) (hs:l.length < 1099511627776):aL prog 91 [(.one (sI l):aH)] (.ret [.one (sQ (ints l))]):=by
 refine aD (args:=[.v none]) (ins:=[.v (.one (sI l))]) (hints:=(fun _=>none)) fo (by kernel_rfl) func91 ⟨rfl,trivial⟩ ?_
 rw [GC]
 dsimp only [List.map,In.env,aB,aA]
 refine vn (aO Kx (List.length_map _)) rfl ?_
 dsimp only [aB,aA]
 refine bA {i:Nat // i ≤ l.length} (fun g=>[.one (.int .i64 g.1), .rows (rQ ((l.take g.1).map fun n:Int=>(n:Rat)))]) (fun g=>l.length - g.1) ⟨0,Nat.zero_le _⟩ aM.rfl (fun _=>rfl) ?_
 rintro ⟨i,hi⟩
 dsimp only [aB,aA] at hi ⊢
 refine vn aY rfl ?_
 dsimp only [aB,aA]
 refine vs _ rfl (fun h3=>?_) (fun h3=>?_)
 ·obtain ⟨n,hn⟩:∃ n,l[i]? = some n:=⟨_,List.getElem?_eq_getElem (by omega)⟩
  obtain ⟨hn1,hn2⟩:=h n (List.mem_of_getElem? hn)
  have hl:((l.take i).map fun n:Int=>(n:Rat)).length ≤ i:=by simp; omega
  refine vn (aR Kx (by omega) (by omega) hn) rfl ?_
  dsimp only [aB,aA]
  refine vn (bB ag2) rfl ?_
  dsimp only [aB,aA]
  refine aC (kQ n hn1 hn2) rfl ?_
  dsimp only [aB,aA]
  refine bL (us:=[qC (n:Rat)]) rfl ?_
  dsimp only [aB,aA]
  refine lP (xs:=(l.take i).map fun n:Int=>(n:Rat)) (x:=(n:Rat)) (f:=qC) rfl rfl (by omega) (by simp only [maxLen]; omega) ?_
  rw [jS (f:=fun n:Int=>(n:Rat)) hn]
  dsimp only [aB,aA]
  refine vn (aE (by omega) (by omega)) rfl ?_
  dsimp only [aB,aA]
  exact aP rfl ⟨⟨i + 1,by omega⟩,aM.rfl,by show l.length - (i + 1) < l.length - i; omega⟩
 rw [show i = l.length by omega,List.take_length]
 refine aC (uK (l.map fun n:Int=>(n:Rat)) (by simpa using hs)) rfl ?_
 dsimp only [aB,aA]
 exact aK rfl
def dC (l:List Int):List RQ:=eA (l.map fun n:Int=>RQ.of (n:Rat))
theorem Uw (l:List Int):(dC l).map RQ.q = ints l:=by
 rw [dC,pD,ints,List.map_map]; rfl
theorem bQ (l:List Int) (h:fO l) (hs:l.length < 1099511627776):aL prog 99 [(.one (sI l):aH)] (.ret [.one (sR (dC l))]):=by
 refine aD (args:=[.v none]) (ins:=[.v (.one (sI l))]) (hints:=(fun _=>none)) fo (by kernel_rfl) func99 ⟨rfl,trivial⟩ ?_
 rw [HO]
 dsimp only [List.map,In.env,aB,aA]
 refine bA {i:Nat // i ≤ l.length} (fun g=>[.one (.int .i64 g.1), .rows (rR ((l.take g.1).map fun n:Int=>RQ.of (n:Rat)))]) (fun g=>l.length - g.1) ⟨0,Nat.zero_le _⟩ aM.rfl (fun _=>rfl) ?_
 rintro ⟨i,hi⟩
 dsimp only [aB,aA] at hi ⊢
 refine vn (aO Kx (List.length_map _)) rfl ?_
 dsimp only [aB,aA]
 refine vn aY rfl ?_
 dsimp only [aB,aA]
 refine vs _ rfl (fun h3=>?_) (fun h3=>?_)
 ·obtain ⟨n,hn⟩:∃ n,l[i]? = some n:=⟨_,List.getElem?_eq_getElem (by omega)⟩
  obtain ⟨hn1,hn2⟩:=h n (List.mem_of_getElem? hn)
  have hl:((l.take i).map fun n:Int=>RQ.of (n:Rat)).length ≤ i:=by simp; omega
  refine vn (aR Kx (by omega) (by omega) hn) rfl ?_
  dsimp only [aB,aA]
  refine vn (bB ag2) rfl ?_
  dsimp only [aB,aA]
  refine aC (fY n hn1 hn2) rfl ?_
  dsimp only [aB,aA]
  refine bL (us:=[rC (.of (n:Rat))]) rfl ?_
  dsimp only [aB,aA]
  refine lP (xs:=(l.take i).map fun n:Int=>RQ.of (n:Rat)) (x:=RQ.of (n:Rat)) (f:=rC) rfl rfl (by omega) (by simp only [maxLen]; omega) ?_
  rw [jS (f:=fun n:Int=>RQ.of (n:Rat)) hn]
  dsimp only [aB,aA]
  refine vn (aE (by omega) (by omega)) rfl ?_
  dsimp only [aB,aA]
  exact aP rfl ⟨⟨i + 1,by omega⟩,aM.rfl,by show l.length - (i + 1) < l.length - i; omega⟩
 rw [show i = l.length by omega,List.take_length]
 refine aC (sO (l.map fun n:Int=>RQ.of (n:Rat)) (by simpa using hs)) rfl ?_
 dsimp only [aB,aA]
 exact aK rfl
def kE (k:Nat) (n:Int):List (List Rat):=
 match k with
 | 1=>[ints [-1],ints [1]]
 | 2=>[ints [1],[],ints [1]]
 | 3=>[ints [0,-1],[],ints [1]]
 | 4=>[[],ints [0,2],ints [1]]
 | 5=>[[],ints [1],ints [1,1]]
 | 6=>[[],ints [0,2],ints [1,0,1]]
 | 7=>[ints [n * (n + 1)],ints [0,-2],ints [1,0,-1]]
 | _=>[ints [2 * n],ints [0,-2],ints [1]]
def kY (k:Nat):List Rat:=
 match k with
 | 1=>[1]
 | 3=>[1,0]
 | 7=>[1,0]
 | 8=>[1,0]
 | _=>[0,1]
def jA (k:Nat) (n:Int):List (List Rat) × List Rat × Int:=
 if k < 1 ∨ 8 < k then ([],[],2) else if n < 0 ∨ 40 < n then ([],[],3) else (kE k n,kY k,0)
abbrev fT (e:List (List Rat)) (c:Rat) (y:List Rat):aH:=.agg [eQ e,dT c.num.natAbs, .bool (decide (c.num < 0)),dT (c.den - 1),sQ y]
theorem Fq:aW (aW aI.Sub) [[.exact (.slice none 0 0), .bool false, .exact (.slice none 0 0)],qC 1] [qC 0,qC 1]:=⟨fA,⟨aI.Sub.same,aI.Sub.same,aI.Sub.same,trivial⟩,trivial⟩
theorem Ju:aW (aW aI.Sub) [qC 1,[.exact (.slice none 0 0), .bool false, .exact (.slice none 0 0)]] [qC 1,qC 0]:=⟨⟨aI.Sub.same,aI.Sub.same,aI.Sub.same,trivial⟩,fA,trivial⟩
theorem aE8 (p q:List Rat):aW (aW aI.Sub) [[sQ p],[.exact (.slice none 0 0)],[sQ q]] [cQ p,cQ [],cQ q]:=⟨⟨aI.Sub.same,trivial⟩,⟨aI.Sub.nil,trivial⟩,⟨aI.Sub.same,trivial⟩,trivial⟩
theorem QY (p q:List Rat):aW (aW aI.Sub) [[.exact (.slice none 0 0)],[sQ p],[sQ q]] [cQ [],cQ p,cQ q]:=⟨⟨aI.Sub.nil,trivial⟩,⟨aI.Sub.same,trivial⟩,⟨aI.Sub.same,trivial⟩,trivial⟩
set_option maxHeartbeats 2000000 in
theorem GQ (k:Nat) (n:Int) (hk:k < 256) (h1:-9223372036854775808 ≤ n) (h2:n < 9223372036854775808):aL prog 18 [(.one (.int .u8 k):aH),(.one (.int .i64 n):aH)] (.ret [fT (jA k n).1 0 (jA k n).2.1, .one (.int .i64 (jA k n).2.2)]):=by
 refine aD (args:=[.v none, .v none]) (ins:=[.v (.one (.int .u8 k)), .v (.one (.int .i64 n))]) (hints:=(fun _=>none)) fo (by kernel_rfl) func18 ⟨rfl,rfl,trivial⟩ ?_
 rw [Rp]
 dsimp only [List.map,In.env,aB,aA]
 refine vn aY rfl ?_
 dsimp only [aB,aA]
 refine vs _ rfl (fun h1=>?_) (fun h1'=>?_)
 ·rw [jA,if_pos (by omega)]; exact dA ⟨⟨aI.Sub.nil,jG rfl,aI.Sub.same,jG rfl,aI.Sub.nil,trivial⟩,aH.Sub.same,trivial⟩
 refine vn cP rfl ?_
 dsimp only [aB,aA]
 refine vs _ rfl (fun h4=>?_) (fun h4=>?_)
 ·rw [jA,if_pos (by omega)]; exact dA ⟨⟨aI.Sub.nil,jG rfl,aI.Sub.same,jG rfl,aI.Sub.nil,trivial⟩,aH.Sub.same,trivial⟩
 refine vn aY rfl ?_
 dsimp only [aB,aA]
 refine vs _ rfl (fun h7=>?_) (fun h7=>?_)
 ·rw [jA,if_neg (by omega),if_pos (by omega)]; exact dA ⟨⟨aI.Sub.nil,jG rfl,aI.Sub.same,jG rfl,aI.Sub.nil,trivial⟩,aH.Sub.same,trivial⟩
 refine vn cP rfl ?_
 dsimp only [aB,aA]
 refine vs _ rfl (fun h10=>?_) (fun h10=>?_)
 ·rw [jA,if_neg (by omega),if_pos (by omega)]; exact dA ⟨⟨aI.Sub.nil,jG rfl,aI.Sub.same,jG rfl,aI.Sub.nil,trivial⟩,aH.Sub.same,trivial⟩
 refine aC (kQ 1 (by omega) (by omega)) rfl ?_
 dsimp only [aB,aA]
 rw [jA,if_neg (by omega),if_neg (by omega)]
 refine bL (us:=[[.exact (.slice none 0 0), .bool false, .exact (.slice none 0 0)],qC 1]) rfl ?_
 dsimp only [aB,aA]
 refine vn bE rfl ?_
 dsimp only [aB,aA]
 refine vs _ rfl (fun h15=>?_) (fun h15=>?_)
 ·obtain rfl:k = 1:=by omega
  refine bL (us:=[[.int .i64 (-1)]]) rfl ?_
  dsimp only [aB,aA]
  refine aC (bR [-1] (by simp [fO]) (by simp)) rfl ?_
  dsimp only [aB,aA]
  refine bL (us:=[[.int .i64 1]]) rfl ?_
  dsimp only [aB,aA]
  refine aC (bR [1] (by simp [fO]) (by simp)) rfl ?_
  dsimp only [aB,aA]
  refine bL (us:=[[sQ (ints [-1])],[sQ (ints [1])]]) rfl ?_
  dsimp only [aB,aA]
  refine aC (kQ 1 (by omega) (by omega)) rfl ?_
  dsimp only [aB,aA]
  refine bL (us:=[qC 1]) rfl ?_
  dsimp only [aB,aA]
  exact dA ⟨⟨aI.Sub.same,jG rfl,aI.Sub.same,jG rfl,aI.Sub.same,trivial⟩,aH.Sub.same,trivial⟩
 refine vn bE rfl ?_
 dsimp only [aB,aA]
 refine vs _ rfl (fun h25=>?_) (fun h25=>?_)
 ·obtain rfl:k = 2:=by omega
  refine bL (us:=[[.int .i64 1]]) rfl ?_
  dsimp only [aB,aA]
  refine aC (bR [1] (by simp [fO]) (by simp)) rfl ?_
  dsimp only [aB,aA]
  refine bL (us:=[[.int .i64 1]]) rfl ?_
  dsimp only [aB,aA]
  refine aC (bR [1] (by simp [fO]) (by simp)) rfl ?_
  dsimp only [aB,aA]
  refine bL (us:=[[sQ (ints [1])],[.exact (.slice none 0 0)],[sQ (ints [1])]]) rfl ?_
  dsimp only [aB,aA]
  refine vn bE rfl ?_
  dsimp only [aB,aA]
  refine vs _ rfl (fun h32=>?_) (fun h32=>?_)
  ·exfalso; omega
  refine vn dJ rfl ?_
  dsimp only [aB,aA]
  refine vs _ rfl (fun h36=>?_) (fun h36=>?_)
  ·exfalso; omega
  exact dA ⟨⟨aI.Sub.slice (aE8 _ _),jG rfl,aI.Sub.same,jG rfl,aI.Sub.slice Fq,trivial⟩,aH.Sub.same,trivial⟩
 refine vn bE rfl ?_
 dsimp only [aB,aA]
 refine vs _ rfl (fun h41=>?_) (fun h41=>?_)
 ·obtain rfl:k = 3:=by omega
  refine bL (us:=[[.int .i64 0],[.int .i64 (-1)]]) rfl ?_
  dsimp only [aB,aA]
  refine aC (bR [0,-1] (by simp [fO]) (by simp)) rfl ?_
  dsimp only [aB,aA]
  refine bL (us:=[[.int .i64 1]]) rfl ?_
  dsimp only [aB,aA]
  refine aC (bR [1] (by simp [fO]) (by simp)) rfl ?_
  dsimp only [aB,aA]
  refine bL (us:=[[sQ (ints [0,-1])],[.exact (.slice none 0 0)],[sQ (ints [1])]]) rfl ?_
  dsimp only [aB,aA]
  refine vn bE rfl ?_
  dsimp only [aB,aA]
  refine vs _ rfl (fun h48=>?_) (fun h48=>?_)
  ·refine MZ (n:=0) (us:=[[.exact (.slice none 0 0), .bool false, .exact (.slice none 0 0)],qC 1]) (rs:=[]) (vs:=[qC 1,[.exact (.slice none 0 0), .bool false, .exact (.slice none 0 0)]]) rfl ⟨rfl,rfl⟩ (by simp) rfl (rN rfl (tU _ _ _ _ _ _)) rfl ?_
   dsimp only [aB,aA]
   exact dA ⟨⟨aI.Sub.slice (aE8 _ _),jG rfl,aI.Sub.same,jG rfl,aI.Sub.slice Ju,trivial⟩,aH.Sub.same,trivial⟩
  refine vn dJ rfl ?_
  dsimp only [aB,aA]
  refine vs _ rfl (fun h52=>?_) (fun h52=>?_)
  ·exfalso; omega
  exfalso; omega
 refine vn bE rfl ?_
 dsimp only [aB,aA]
 refine vs _ rfl (fun h57=>?_) (fun h57=>?_)
 ·obtain rfl:k = 4:=by omega
  refine bL (us:=[[.int .i64 0],[.int .i64 2]]) rfl ?_
  dsimp only [aB,aA]
  refine aC (bR [0,2] (by simp [fO]) (by simp)) rfl ?_
  dsimp only [aB,aA]
  refine bL (us:=[[.int .i64 1]]) rfl ?_
  dsimp only [aB,aA]
  refine aC (bR [1] (by simp [fO]) (by simp)) rfl ?_
  dsimp only [aB,aA]
  refine bL (us:=[[.exact (.slice none 0 0)],[sQ (ints [0,2])],[sQ (ints [1])]]) rfl ?_
  dsimp only [aB,aA]
  refine vn bE rfl ?_
  dsimp only [aB,aA]
  refine vs _ rfl (fun h64=>?_) (fun h64=>?_)
  ·exfalso; omega
  refine vn dJ rfl ?_
  dsimp only [aB,aA]
  refine vs _ rfl (fun h68=>?_) (fun h68=>?_)
  ·exfalso; omega
  exact dA ⟨⟨aI.Sub.slice (QY _ _),jG rfl,aI.Sub.same,jG rfl,aI.Sub.slice Fq,trivial⟩,aH.Sub.same,trivial⟩
 refine vn bE rfl ?_
 dsimp only [aB,aA]
 refine vs _ rfl (fun h73=>?_) (fun h73=>?_)
 ·obtain rfl:k = 5:=by omega
  refine bL (us:=[[.int .i64 1]]) rfl ?_
  dsimp only [aB,aA]
  refine aC (bR [1] (by simp [fO]) (by simp)) rfl ?_
  dsimp only [aB,aA]
  refine bL (us:=[[.int .i64 1],[.int .i64 1]]) rfl ?_
  dsimp only [aB,aA]
  refine aC (bR [1,1] (by simp [fO]) (by simp)) rfl ?_
  dsimp only [aB,aA]
  refine bL (us:=[[.exact (.slice none 0 0)],[sQ (ints [1])],[sQ (ints [1,1])]]) rfl ?_
  dsimp only [aB,aA]
  refine vn bE rfl ?_
  dsimp only [aB,aA]
  refine vs _ rfl (fun h80=>?_) (fun h80=>?_)
  ·exfalso; omega
  refine vn dJ rfl ?_
  dsimp only [aB,aA]
  refine vs _ rfl (fun h84=>?_) (fun h84=>?_)
  ·exfalso; omega
  exact dA ⟨⟨aI.Sub.slice (QY _ _),jG rfl,aI.Sub.same,jG rfl,aI.Sub.slice Fq,trivial⟩,aH.Sub.same,trivial⟩
 refine vn bE rfl ?_
 dsimp only [aB,aA]
 refine vs _ rfl (fun h89=>?_) (fun h89=>?_)
 ·obtain rfl:k = 6:=by omega
  refine bL (us:=[[.int .i64 0],[.int .i64 2]]) rfl ?_
  dsimp only [aB,aA]
  refine aC (bR [0,2] (by simp [fO]) (by simp)) rfl ?_
  dsimp only [aB,aA]
  refine bL (us:=[[.int .i64 1],[.int .i64 0],[.int .i64 1]]) rfl ?_
  dsimp only [aB,aA]
  refine aC (bR [1,0,1] (by simp [fO]) (by simp)) rfl ?_
  dsimp only [aB,aA]
  refine bL (us:=[[.exact (.slice none 0 0)],[sQ (ints [0,2])],[sQ (ints [1,0,1])]]) rfl ?_
  dsimp only [aB,aA]
  refine vn bE rfl ?_
  dsimp only [aB,aA]
  refine vs _ rfl (fun h96=>?_) (fun h96=>?_)
  ·exfalso; omega
  refine vn dJ rfl ?_
  dsimp only [aB,aA]
  refine vs _ rfl (fun h100=>?_) (fun h100=>?_)
  ·exfalso; omega
  exact dA ⟨⟨aI.Sub.slice (QY _ _),jG rfl,aI.Sub.same,jG rfl,aI.Sub.slice Fq,trivial⟩,aH.Sub.same,trivial⟩
 refine vn bE rfl ?_
 dsimp only [aB,aA]
 refine vs _ rfl (fun h105=>?_) (fun h105=>?_)
 ·obtain rfl:k = 7:=by omega
  have hnn:n * (n + 1) ≤ 40 * 41:=by
   have:=Int.mul_le_mul (a:=n) (b:=n + 1) (c:=40) (d:=41) (by omega) (by omega) (by omega) (by omega)
   omega
  have hn0:0 ≤ n * (n + 1):=Int.mul_nonneg (by omega) (by omega)
  refine vn (aE (by omega) (by omega)) rfl ?_
  dsimp only [aB,aA]
  refine vn (qS (c:=n * (n + 1)) (dI (by omega) (by omega))) rfl ?_
  dsimp only [aB,aA]
  refine bL (us:=[[.int .i64 (n * (n + 1))]]) rfl ?_
  dsimp only [aB,aA]
  refine aC (bR [n * (n + 1)] (by simp only [fO,List.mem_singleton,forall_eq]; omega) (by simp)) rfl ?_
  dsimp only [aB,aA]
  refine bL (us:=[[.int .i64 0],[.int .i64 (-2)]]) rfl ?_
  dsimp only [aB,aA]
  refine aC (bR [0,-2] (by simp [fO]) (by simp)) rfl ?_
  dsimp only [aB,aA]
  refine bL (us:=[[.int .i64 1],[.int .i64 0],[.int .i64 (-1)]]) rfl ?_
  dsimp only [aB,aA]
  refine aC (bR [1,0,-1] (by simp [fO]) (by simp)) rfl ?_
  dsimp only [aB,aA]
  refine bL (us:=[[sQ (ints [n * (n + 1)])],[sQ (ints [0,-2])],[sQ (ints [1,0,-1])]]) rfl ?_
  dsimp only [aB,aA]
  refine vn bE rfl ?_
  dsimp only [aB,aA]
  refine vs _ rfl (fun h116=>?_) (fun h116=>?_)
  ·exfalso; omega
  refine vn dJ rfl ?_
  dsimp only [aB,aA]
  refine vs _ rfl (fun h120=>?_) (fun h120=>?_)
  ·refine MZ (n:=0) (us:=[[.exact (.slice none 0 0), .bool false, .exact (.slice none 0 0)],qC 1]) (rs:=[]) (vs:=[qC 1,[.exact (.slice none 0 0), .bool false, .exact (.slice none 0 0)]]) rfl ⟨rfl,rfl⟩ (by simp) rfl (rN rfl (tU _ _ _ _ _ _)) rfl ?_
   dsimp only [aB,aA]
   exact dA ⟨⟨aI.Sub.same,jG rfl,aI.Sub.same,jG rfl,aI.Sub.slice Ju,trivial⟩,aH.Sub.same,trivial⟩
  exfalso; omega
 refine vn bE rfl ?_
 dsimp only [aB,aA]
 refine vs _ rfl (fun h125=>?_) (fun h125=>?_)
 ·obtain rfl:k = 8:=by omega
  refine vn (lJ (by omega) (by omega)) rfl ?_
  dsimp only [aB,aA]
  refine bL (us:=[[.int .i64 (2 * n)]]) rfl ?_
  dsimp only [aB,aA]
  refine aC (bR [2 * n] (by simp only [fO,List.mem_singleton,forall_eq]; omega) (by simp)) rfl ?_
  dsimp only [aB,aA]
  refine bL (us:=[[.int .i64 0],[.int .i64 (-2)]]) rfl ?_
  dsimp only [aB,aA]
  refine aC (bR [0,-2] (by simp [fO]) (by simp)) rfl ?_
  dsimp only [aB,aA]
  refine bL (us:=[[.int .i64 1]]) rfl ?_
  dsimp only [aB,aA]
  refine aC (bR [1] (by simp [fO]) (by simp)) rfl ?_
  dsimp only [aB,aA]
  refine bL (us:=[[sQ (ints [2 * n])],[sQ (ints [0,-2])],[sQ (ints [1])]]) rfl ?_
  dsimp only [aB,aA]
  refine vn bE rfl ?_
  dsimp only [aB,aA]
  refine vs _ rfl (fun h135=>?_) (fun h135=>?_)
  ·exfalso; omega
  refine vn dJ rfl ?_
  dsimp only [aB,aA]
  refine vs _ rfl (fun h139=>?_) (fun h139=>?_)
  ·refine MZ (n:=0) (us:=[[.exact (.slice none 0 0), .bool false, .exact (.slice none 0 0)],qC 1]) (rs:=[]) (vs:=[qC 1,[.exact (.slice none 0 0), .bool false, .exact (.slice none 0 0)]]) rfl ⟨rfl,rfl⟩ (by simp) rfl (rN rfl (tU _ _ _ _ _ _)) rfl ?_
   dsimp only [aB,aA]
   exact dA ⟨⟨aI.Sub.same,jG rfl,aI.Sub.same,jG rfl,aI.Sub.slice Ju,trivial⟩,aH.Sub.same,trivial⟩
  exfalso; omega
 refine vn bE rfl ?_
 dsimp only [aB,aA]
 refine vs _ rfl (fun h144=>?_) (fun h144=>?_)
 ·exfalso; omega
 refine vn dJ rfl ?_
 dsimp only [aB,aA]
 refine vs _ rfl (fun h148=>?_) (fun h148=>?_)
 ·exfalso; omega
 exfalso; omega
end Go.Sy
namespace Go.Sy
open Go Go.Proofs Tryz Ord
def IW:Tr:=.ret [(tF false)]
def al6:Tr:=eU 0 5 2 0 27 12 13 (dP 5 0 (some 3) 26 14 (aJ 39 [(G3 6)] [none] [15] [26] 4 true (.need (.prim [(W 7 0)] none) (.unOp .not 4 (tT 16)) 4 false (.split (.u 8 0) IW (aQ .add 3 9 1 2 0 3 (.back 0 [lV 1 0,lV 9 0]))))))
def Vm:Tr:=aJ 55 [(G2 0)] [none] [19] [24] 4 false (.split (.u 5 0) (aJ 39 [(.agg [(U 0 2),(U 0 3),(U 0 4)])] [none] [23] [26] 4 false (.split (.u 6 0) (cM 0 5 28 27 (aQ .leq 3 29 6 7 0 4 (.ret [(W 8 0)]))) IW)) IW)
def ae3:Tr:=.loop 0 [(.w (.one (.c (.k (.bool false))))),lK 0] (cM 0 5 6 27 (bK .lss 3 4 7 2 0 3 0 4 (.split (.u 4 0) al6 Vm)))
theorem QZ:aN prog f15 (fun _=>none) [.v (some 8)] = ae3:=by kernel_rfl
def kER (k:Nat) (n:Int):List (List RQ):=
 match k with
 | 1=>[dC [-1],dC [1]]
 | 2=>[dC [1],[],dC [1]]
 | 3=>[dC [0,-1],[],dC [1]]
 | 4=>[[],dC [0,2],dC [1]]
 | 5=>[[],dC [1],dC [1,1]]
 | 6=>[[],dC [0,2],dC [1,0,1]]
 | 7=>[dC [n * (n + 1)],dC [0,-2],dC [1,0,-1]]
 | _=>[dC [2 * n],dC [0,-2],dC [1]]
def kYR (k:Nat):List RQ:=
 match k with
 | 1=>[.of 1]
 | 3=>[.of 1, .nil]
 | 7=>[.of 1, .nil]
 | 8=>[.of 1, .nil]
 | _=>[.nil, .of 1]
theorem ar3 {k:Nat} (h1:1 ≤ k) (h2:k ≤ 8) (n:Int):eC (kER k n) = kE k n:=by
 rcases (by omega:k = 1 ∨ k = 2 ∨ k = 3 ∨ k = 4 ∨ k = 5 ∨ k = 6 ∨ k = 7 ∨ k = 8) with rfl | rfl | rfl | rfl | rfl | rfl | rfl | rfl <;> simp only [eC,kER,kE,List.map_cons,List.map_nil,Uw]
theorem aH8 {k:Nat} (h1:1 ≤ k) (h2:k ≤ 8):(kYR k).map RQ.q = kY k:=by
 rcases (by omega:k = 1 ∨ k = 2 ∨ k = 3 ∨ k = 4 ∨ k = 5 ∨ k = 6 ∨ k = 7 ∨ k = 8) with rfl | rfl | rfl | rfl | rfl | rfl | rfl | rfl <;> rfl
abbrev fR (e:List (List RQ)) (c:RQ) (y:List RQ):aH:=.agg [eR e, .int .i64 c.q.num.sign,bT c.q.num.natAbs, .int .i64 (if c.z then 0 else 1),bT (if c.z then 0 else c.q.den),sR y]
theorem FZ:aW (aW aI.Sub) [[.int .i64 0, .exact (.slice none 0 0), .int .i64 0, .exact (.slice none 0 0)],rC (.of 1)] [rC .nil,rC (.of 1)]:=⟨kA,⟨aI.Sub.same,aI.Sub.same,aI.Sub.same,aI.Sub.same,trivial⟩,trivial⟩
theorem IH:aW (aW aI.Sub) [rC (.of 1),[.int .i64 0, .exact (.slice none 0 0), .int .i64 0, .exact (.slice none 0 0)]] [rC (.of 1),rC .nil]:=⟨⟨aI.Sub.same,aI.Sub.same,aI.Sub.same,aI.Sub.same,trivial⟩,kA,trivial⟩
theorem XP (p q:List RQ):aW (aW aI.Sub) [[sR p],[.exact (.slice none 0 0)],[sR q]] [cR p,cR [],cR q]:=⟨⟨aI.Sub.same,trivial⟩,⟨aI.Sub.nil,trivial⟩,⟨aI.Sub.same,trivial⟩,trivial⟩
theorem IM (p q:List RQ):aW (aW aI.Sub) [[.exact (.slice none 0 0)],[sR p],[sR q]] [cR [],cR p,cR q]:=⟨⟨aI.Sub.nil,trivial⟩,⟨aI.Sub.same,trivial⟩,⟨aI.Sub.same,trivial⟩,trivial⟩
set_option maxHeartbeats 2000000 in
theorem QW (k:Nat) (n:Int) (hk1:1 ≤ k) (hk:k ≤ 8) (h1:0 ≤ n) (h2:n ≤ 40):aL prog 25 [(.one (.int .u8 k):aH),(.one (.int .i64 n):aH)] (.ret [fR (kER k n) .nil (kYR k)]):=by
 refine aD (args:=[.v none, .v none]) (ins:=[.v (.one (.int .u8 k)), .v (.one (.int .i64 n))]) (hints:=(fun _=>none)) fo (by kernel_rfl) func25 ⟨rfl,rfl,trivial⟩ ?_
 rw [Ro]
 dsimp only [List.map,In.env,aB,aA]
 refine aC (fY 1 (by omega) (by omega)) rfl ?_
 dsimp only [aB,aA]
 refine vn bE rfl ?_
 dsimp only [aB,aA]
 refine vs _ rfl (fun h2=>?_) (fun h2=>?_)
 ·obtain rfl:k = 1:=by omega
  refine bL (us:=[[.int .i64 (-1)]]) rfl ?_
  dsimp only [aB,aA]
  refine aC (bQ [-1] (by simp [fO]) (by simp)) rfl ?_
  dsimp only [aB,aA]
  refine bL (us:=[[.int .i64 1]]) rfl ?_
  dsimp only [aB,aA]
  refine aC (bQ [1] (by simp [fO]) (by simp)) rfl ?_
  dsimp only [aB,aA]
  refine bL (us:=[[sR (dC [-1])],[sR (dC [1])]]) rfl ?_
  dsimp only [aB,aA]
  refine bL (us:=[rC (.of 1)]) rfl ?_
  dsimp only [aB,aA]
  exact dA ⟨⟨aI.Sub.same,aI.Sub.same,pR rfl,aI.Sub.same,pR rfl,aI.Sub.same,trivial⟩,trivial⟩
 refine vn bE rfl ?_
 dsimp only [aB,aA]
 refine vs _ rfl (fun h11=>?_) (fun h11=>?_)
 ·obtain rfl:k = 2:=by omega
  refine bL (us:=[[.int .i64 1]]) rfl ?_
  dsimp only [aB,aA]
  refine aC (bQ [1] (by simp [fO]) (by simp)) rfl ?_
  dsimp only [aB,aA]
  refine bL (us:=[[.int .i64 1]]) rfl ?_
  dsimp only [aB,aA]
  refine aC (bQ [1] (by simp [fO]) (by simp)) rfl ?_
  dsimp only [aB,aA]
  refine bL (us:=[[sR (dC [1])],[.exact (.slice none 0 0)],[sR (dC [1])]]) rfl ?_
  dsimp only [aB,aA]
  refine bL (us:=[[.int .i64 0, .exact (.slice none 0 0), .int .i64 0, .exact (.slice none 0 0)],rC (.of 1)]) rfl ?_
  dsimp only [aB,aA]
  exact dA ⟨⟨aI.Sub.slice (XP _ _),aI.Sub.same,pR rfl,aI.Sub.same,pR rfl,aI.Sub.slice FZ,trivial⟩,trivial⟩
 refine vn bE rfl ?_
 dsimp only [aB,aA]
 refine vs _ rfl (fun h20=>?_) (fun h20=>?_)
 ·obtain rfl:k = 3:=by omega
  refine bL (us:=[[.int .i64 0],[.int .i64 (-1)]]) rfl ?_
  dsimp only [aB,aA]
  refine aC (bQ [0,-1] (by simp [fO]) (by simp)) rfl ?_
  dsimp only [aB,aA]
  refine bL (us:=[[.int .i64 1]]) rfl ?_
  dsimp only [aB,aA]
  refine aC (bQ [1] (by simp [fO]) (by simp)) rfl ?_
  dsimp only [aB,aA]
  refine bL (us:=[[sR (dC [0,-1])],[.exact (.slice none 0 0)],[sR (dC [1])]]) rfl ?_
  dsimp only [aB,aA]
  refine bL (us:=[rC (.of 1),[.int .i64 0, .exact (.slice none 0 0), .int .i64 0, .exact (.slice none 0 0)]]) rfl ?_
  dsimp only [aB,aA]
  exact dA ⟨⟨aI.Sub.slice (XP _ _),aI.Sub.same,pR rfl,aI.Sub.same,pR rfl,aI.Sub.slice IH,trivial⟩,trivial⟩
 refine vn bE rfl ?_
 dsimp only [aB,aA]
 refine vs _ rfl (fun h29=>?_) (fun h29=>?_)
 ·obtain rfl:k = 4:=by omega
  refine bL (us:=[[.int .i64 0],[.int .i64 2]]) rfl ?_
  dsimp only [aB,aA]
  refine aC (bQ [0,2] (by simp [fO]) (by simp)) rfl ?_
  dsimp only [aB,aA]
  refine bL (us:=[[.int .i64 1]]) rfl ?_
  dsimp only [aB,aA]
  refine aC (bQ [1] (by simp [fO]) (by simp)) rfl ?_
  dsimp only [aB,aA]
  refine bL (us:=[[.exact (.slice none 0 0)],[sR (dC [0,2])],[sR (dC [1])]]) rfl ?_
  dsimp only [aB,aA]
  refine bL (us:=[[.int .i64 0, .exact (.slice none 0 0), .int .i64 0, .exact (.slice none 0 0)],rC (.of 1)]) rfl ?_
  dsimp only [aB,aA]
  exact dA ⟨⟨aI.Sub.slice (IM _ _),aI.Sub.same,pR rfl,aI.Sub.same,pR rfl,aI.Sub.slice FZ,trivial⟩,trivial⟩
 refine vn bE rfl ?_
 dsimp only [aB,aA]
 refine vs _ rfl (fun h38=>?_) (fun h38=>?_)
 ·obtain rfl:k = 5:=by omega
  refine bL (us:=[[.int .i64 1]]) rfl ?_
  dsimp only [aB,aA]
  refine aC (bQ [1] (by simp [fO]) (by simp)) rfl ?_
  dsimp only [aB,aA]
  refine bL (us:=[[.int .i64 1],[.int .i64 1]]) rfl ?_
  dsimp only [aB,aA]
  refine aC (bQ [1,1] (by simp [fO]) (by simp)) rfl ?_
  dsimp only [aB,aA]
  refine bL (us:=[[.exact (.slice none 0 0)],[sR (dC [1])],[sR (dC [1,1])]]) rfl ?_
  dsimp only [aB,aA]
  refine bL (us:=[[.int .i64 0, .exact (.slice none 0 0), .int .i64 0, .exact (.slice none 0 0)],rC (.of 1)]) rfl ?_
  dsimp only [aB,aA]
  exact dA ⟨⟨aI.Sub.slice (IM _ _),aI.Sub.same,pR rfl,aI.Sub.same,pR rfl,aI.Sub.slice FZ,trivial⟩,trivial⟩
 refine vn bE rfl ?_
 dsimp only [aB,aA]
 refine vs _ rfl (fun h47=>?_) (fun h47=>?_)
 ·obtain rfl:k = 6:=by omega
  refine bL (us:=[[.int .i64 0],[.int .i64 2]]) rfl ?_
  dsimp only [aB,aA]
  refine aC (bQ [0,2] (by simp [fO]) (by simp)) rfl ?_
  dsimp only [aB,aA]
  refine bL (us:=[[.int .i64 1],[.int .i64 0],[.int .i64 1]]) rfl ?_
  dsimp only [aB,aA]
  refine aC (bQ [1,0,1] (by simp [fO]) (by simp)) rfl ?_
  dsimp only [aB,aA]
  refine bL (us:=[[.exact (.slice none 0 0)],[sR (dC [0,2])],[sR (dC [1,0,1])]]) rfl ?_
  dsimp only [aB,aA]
  refine bL (us:=[[.int .i64 0, .exact (.slice none 0 0), .int .i64 0, .exact (.slice none 0 0)],rC (.of 1)]) rfl ?_
  dsimp only [aB,aA]
  exact dA ⟨⟨aI.Sub.slice (IM _ _),aI.Sub.same,pR rfl,aI.Sub.same,pR rfl,aI.Sub.slice FZ,trivial⟩,trivial⟩
 refine vn bE rfl ?_
 dsimp only [aB,aA]
 refine vs _ rfl (fun h56=>?_) (fun h56=>?_)
 ·obtain rfl:k = 7:=by omega
  have hnn:n * (n + 1) ≤ 40 * 41:=by
   have:=Int.mul_le_mul (a:=n) (b:=n + 1) (c:=40) (d:=41) (by omega) (by omega) (by omega) (by omega)
   omega
  have hn0:0 ≤ n * (n + 1):=Int.mul_nonneg (by omega) (by omega)
  refine vn (aE (by omega) (by omega)) rfl ?_
  dsimp only [aB,aA]
  refine vn (qS (c:=n * (n + 1)) (dI (by omega) (by omega))) rfl ?_
  dsimp only [aB,aA]
  refine bL (us:=[[.int .i64 (n * (n + 1))]]) rfl ?_
  dsimp only [aB,aA]
  refine aC (bQ [n * (n + 1)] (by simp only [fO,List.mem_singleton,forall_eq]; omega) (by simp)) rfl ?_
  dsimp only [aB,aA]
  refine bL (us:=[[.int .i64 0],[.int .i64 (-2)]]) rfl ?_
  dsimp only [aB,aA]
  refine aC (bQ [0,-2] (by simp [fO]) (by simp)) rfl ?_
  dsimp only [aB,aA]
  refine bL (us:=[[.int .i64 1],[.int .i64 0],[.int .i64 (-1)]]) rfl ?_
  dsimp only [aB,aA]
  refine aC (bQ [1,0,-1] (by simp [fO]) (by simp)) rfl ?_
  dsimp only [aB,aA]
  refine bL (us:=[[sR (dC [n * (n + 1)])],[sR (dC [0,-2])],[sR (dC [1,0,-1])]]) rfl ?_
  dsimp only [aB,aA]
  refine bL (us:=[rC (.of 1),[.int .i64 0, .exact (.slice none 0 0), .int .i64 0, .exact (.slice none 0 0)]]) rfl ?_
  dsimp only [aB,aA]
  exact dA ⟨⟨aI.Sub.same,aI.Sub.same,pR rfl,aI.Sub.same,pR rfl,aI.Sub.slice IH,trivial⟩,trivial⟩
 obtain rfl:k = 8:=by omega
 refine vn (lJ (by omega) (by omega)) rfl ?_
 dsimp only [aB,aA]
 refine bL (us:=[[.int .i64 (2 * n)]]) rfl ?_
 dsimp only [aB,aA]
 refine aC (bQ [2 * n] (by simp only [fO,List.mem_singleton,forall_eq]; omega) (by simp)) rfl ?_
 dsimp only [aB,aA]
 refine bL (us:=[[.int .i64 0],[.int .i64 (-2)]]) rfl ?_
 dsimp only [aB,aA]
 refine aC (bQ [0,-2] (by simp [fO]) (by simp)) rfl ?_
 dsimp only [aB,aA]
 refine bL (us:=[[.int .i64 1]]) rfl ?_
 dsimp only [aB,aA]
 refine aC (bQ [1] (by simp [fO]) (by simp)) rfl ?_
 dsimp only [aB,aA]
 refine bL (us:=[[sR (dC [2 * n])],[sR (dC [0,-2])],[sR (dC [1])]]) rfl ?_
 dsimp only [aB,aA]
 refine bL (us:=[rC (.of 1),[.int .i64 0, .exact (.slice none 0 0), .int .i64 0, .exact (.slice none 0 0)]]) rfl ?_
 dsimp only [aB,aA]
 exact dA ⟨⟨aI.Sub.same,aI.Sub.same,pR rfl,aI.Sub.same,pR rfl,aI.Sub.slice IH,trivial⟩,trivial⟩
abbrev sP (p:List (List bP)):aI:=.slice 1 (p.map fun l=>[sN l])
def iX (p:List (List bP)):Bool:=decide (p.length ≤ 6 ∧ ∀ l ∈ p,l.length ≤ 4 ∧ ∀ x ∈ l,x.Bf = true)
structure InP (p:List (List bP)):Prop where
 l:p.length < 140737488355328
 p:∀ l ∈ p,l.length < 140737488355328 ∧ ∀ x ∈ l,x.In
set_option maxHeartbeats 1000000 in
theorem FG (p:List (List bP)) (long:Int) (hp:InP p):aL prog 55 [(.agg [sP p, .int .i64 long]:aH)] (.ret [.one (.bool (iX p))]):=by
 refine aD (args:=[.v (some 2)]) (ins:=[.v (.agg [sP p, .int .i64 long])]) (hints:=(fun _=>none)) fo (by kernel_rfl) func55 ⟨rfl,trivial⟩ ?_
 rw [FQ]
 dsimp only [List.map,In.env,aB,aA]
 have hpl:=hp.l
 refine bA {i:Nat // i ≤ p.length ∧ ∀ j l,j < i → p[j]? = some l → l.length ≤ 4 ∧ ∀ x ∈ l,x.Bf = true} (fun g=>[.one (.bool false), .one (.int .i64 g.1)]) (fun g=>p.length - g.1) ⟨0,Nat.zero_le _,fun j l h=>by omega⟩ aM.rfl (fun _=>rfl) ?_
 rintro ⟨i,hi,hok⟩
 dsimp only [aB,aA] at hi hok ⊢
 refine vn (aO Jo (List.length_map _)) rfl ?_
 dsimp only [aB,aA]
 refine vn aY rfl ?_
 dsimp only [aB,aA]
 refine vs _ rfl (fun h3=>?_) (fun h3=>?_)
 ·obtain ⟨l,hl⟩:∃ l,p[i]? = some l:=⟨_,List.getElem?_eq_getElem (by omega)⟩
  obtain ⟨hll,hlx⟩:=hp.p l (List.mem_of_getElem? hl)
  have hbad:∀ x ∈ l,x.Bf = false → iX p = false:=fun x hx h=>by
   unfold iX; rw [decide_eq_false_iff_not]
   rintro ⟨_,h2⟩
   rw [(h2 l (List.mem_of_getElem? hl)).2 x hx] at h; cases h
  refine vn (aR Jo (by omega) (by omega) hl) rfl ?_
  dsimp only [aB,aA]
  refine vn (bB TR) rfl ?_
  dsimp only [aB,aA]
  refine vn (aO Hr (List.length_map _)) rfl ?_
  dsimp only [aB,aA]
  refine vn cP rfl ?_
  dsimp only [aB,aA]
  refine vs _ rfl (fun h8=>?_) (fun h8=>?_)
  ·rw [show iX p = false by
    unfold iX; rw [decide_eq_false_iff_not]
    rintro ⟨_,h2⟩
    have:=(h2 l (List.mem_of_getElem? hl)).1
    omega]; exact aK rfl
  refine bA {k:Nat // k ≤ l.length ∧ ∀ j x,j < k → l[j]? = some x → x.Bf = true} (fun g=>[.one (.bool false), .one (.int .i64 g.1)]) (fun g=>l.length - g.1) ⟨0,Nat.zero_le _,fun j x h=>by omega⟩ aM.rfl (fun _=>rfl) ?_
  rintro ⟨k,hk,hkok⟩
  dsimp only [aB,aA] at hk hkok ⊢
  refine vn (aR Jo (by omega) (by omega) hl) rfl ?_
  dsimp only [aB,aA]
  refine vn (bB TR) rfl ?_
  dsimp only [aB,aA]
  refine vn (aO Hr (List.length_map _)) rfl ?_
  dsimp only [aB,aA]
  refine vn aY rfl ?_
  dsimp only [aB,aA]
  refine vs _ rfl (fun h15=>?_) (fun h15=>?_)
  ·refine vn (aR Jo (by omega) (by omega) hl) rfl ?_
   dsimp only [aB,aA]
   refine vn (bB TR) rfl ?_
   dsimp only [aB,aA]
   obtain ⟨x,hx⟩:∃ x,l[k]? = some x:=⟨_,List.getElem?_eq_getElem (by omega)⟩
   have hxl:=List.mem_of_getElem? hx
   have hxi:=hlx x hxl
   refine vn (aR Hr (by omega) (by omega) hx) rfl ?_
   dsimp only [aB,aA]
   refine vn (bV ac7 (by decide) (by simp) (.inl rfl)) rfl ?_
   dsimp only [aB,aA]
   refine vn (eS (by omega) (by omega)) rfl ?_
   dsimp only [aB,aA]
   refine vn dR rfl ?_
   dsimp only [aB,aA]
   refine vs _ rfl (fun h22=>?_) (fun h22=>?_)
   ·rw [hbad x hxl (by unfold bP.Bf; rw [decide_eq_false_iff_not]; omega)]; exact aK rfl
   refine vn cP rfl ?_
   dsimp only [aB,aA]
   refine vs _ rfl (fun h25=>?_) (fun h25=>?_)
   ·rw [hbad x hxl (by unfold bP.Bf; rw [decide_eq_false_iff_not]; omega)]; exact aK rfl
   refine vn aY rfl ?_
   dsimp only [aB,aA]
   refine vs _ rfl (fun h28=>?_) (fun h28=>?_)
   ·rw [hbad x hxl (by unfold bP.Bf; rw [decide_eq_false_iff_not]; omega)]; exact aK rfl
   refine vn cP rfl ?_
   dsimp only [aB,aA]
   refine vs _ rfl (fun h31=>?_) (fun h31=>?_)
   ·rw [hbad x hxl (by unfold bP.Bf; rw [decide_eq_false_iff_not]; omega)]; exact aK rfl
   refine vn aY rfl ?_
   dsimp only [aB,aA]
   refine vs _ rfl (fun h34=>?_) (fun h34=>?_)
   ·rw [hbad x hxl (by unfold bP.Bf; rw [decide_eq_false_iff_not]; omega)]; exact aK rfl
   refine vn (aE (by omega) (by omega)) rfl ?_
   dsimp only [aB,aA]
   exact aP rfl ⟨⟨k + 1,by omega,fun j x' hj hx'=>by
    rcases Nat.lt_or_ge j k with h | h
    ·exact hkok j x' h hx'
    ·rw [show j = k by omega,hx] at hx'; simp only [Option.some.injEq] at hx'; subst hx'
     unfold bP.Bf; rw [decide_eq_true_iff]; omega⟩,aM.rfl,by show l.length - (k + 1) < l.length - k; omega⟩
  refine vn (aE (by omega) (by omega)) rfl ?_
  dsimp only [aB,aA]
  exact aP rfl ⟨⟨i + 1,by omega,fun j l' hj hl'=>by
   rcases Nat.lt_or_ge j i with h | h
   ·exact hok j l' h hl'
   ·rw [show j = i by omega,hl] at hl'; simp only [Option.some.injEq] at hl'; subst hl'
    refine ⟨by omega,fun x hx=>?_⟩
    obtain ⟨m,hm⟩:=List.getElem?_of_mem hx
    exact hkok m x (by have:=(List.getElem?_eq_some_iff.1 hm).1; omega) hm⟩,aM.rfl,by show p.length - (i + 1) < p.length - i; omega⟩
 refine vn (aO Jo (List.length_map _)) rfl ?_
 dsimp only [aB,aA]
 refine vn fQ rfl ?_
 dsimp only [aB,aA]
 rw [show iX p = decide ((p.length:Int) ≤ 6) by
  unfold iX; rw [decide_eq_decide]
  constructor
  ·rintro ⟨h,_⟩; omega
  ·intro h
   refine ⟨by omega,fun l hl=>?_⟩
   obtain ⟨m,hm⟩:=List.getElem?_of_mem hl
   exact hok m l (by have:=(List.getElem?_eq_some_iff.1 hm).1; omega) hm]; exact aK rfl
structure bI where
 p:List (List bP)
 long:Int
 c:bP
 y:List bP
 kind:Nat
 n:Int
abbrev caT (c:bI):aH:=.agg [sP c.p, .int .i64 c.long, .int .i64 c.c.n, .int .i64 c.c.d, .int .u8 c.c.pow,sN c.y, .int .u8 c.kind, .int .i64 c.n]
structure bI.In (c:bI):Prop where
 hp:InP c.p
 hl1:-9223372036854775808 ≤ c.long
 hl2:c.long < 9223372036854775808
 hc:c.c.In
 hyl:c.y.length < 140737488355328
 hy:∀ x ∈ c.y,x.In
 hk:c.kind < 256
 hn1:-9223372036854775808 ≤ c.n
 hn2:c.n < 9223372036854775808
def bI.small (c:bI):Bool:=decide ((∀ x ∈ c.y,x.short = true) ∧ iX c.p = true ∧ c.c.short = true ∧ c.y.length ≤ 6)
theorem OP (c:bI) (h:c.In):aL prog 15 [(caT c:aH)] (.ret [.one (.bool c.small)]):=by
 refine aD (args:=[.v (some 8)]) (ins:=[.v (caT c)]) (hints:=(fun _=>none)) fo (by kernel_rfl) func15 ⟨rfl,trivial⟩ ?_
 rw [QZ]
 dsimp only [List.map,In.env,aB,aA]
 have hyl:=h.hyl
 refine bA {i:Nat // i ≤ c.y.length ∧ ∀ j x,j < i → c.y[j]? = some x → x.short = true} (fun g=>[.one (.bool false), .one (.int .i64 g.1)]) (fun g=>c.y.length - g.1) ⟨0,Nat.zero_le _,fun j x h=>by omega⟩ aM.rfl (fun _=>rfl) ?_
 rintro ⟨i,hi,hok⟩
 dsimp only [aB,aA] at hi hok ⊢
 refine vn (aO Hr (List.length_map _)) rfl ?_
 dsimp only [aB,aA]
 refine vn aY rfl ?_
 dsimp only [aB,aA]
 refine vs _ rfl (fun h3=>?_) (fun h3=>?_)
 ·obtain ⟨x,hx⟩:∃ x,c.y[i]? = some x:=⟨_,List.getElem?_eq_getElem (by omega)⟩
  refine vn (aR Hr (by omega) (by omega) hx) rfl ?_
  dsimp only [aB,aA]
  refine vn (bV ac7 (by decide) (by simp) (.inl rfl)) rfl ?_
  dsimp only [aB,aA]
  refine aC (uO x (h.hy x (List.mem_of_getElem? hx))) rfl ?_
  dsimp only [aB,aA]
  refine vn lW rfl ?_
  dsimp only [aB,aA]
  refine uY (!x.short) rfl (fun h8=>?_) (fun h8=>?_)
  ·rw [show c.small = false by
    unfold bI.small; rw [decide_eq_false_iff_not]
    rintro ⟨h2,_⟩
    rw [h2 x (List.mem_of_getElem? hx)] at h8; cases h8]; exact aK rfl
  refine vn (aE (by omega) (by omega)) rfl ?_
  dsimp only [aB,aA]
  exact aP rfl ⟨⟨i + 1,by omega,fun j x' hj hx'=>by
   rcases Nat.lt_or_ge j i with h | h
   ·exact hok j x' h hx'
   ·rw [show j = i by omega,hx] at hx'; simp only [Option.some.injEq] at hx'; subst hx'
    simpa using h8⟩,aM.rfl,by show c.y.length - (i + 1) < c.y.length - i; omega⟩
 have hall:∀ x ∈ c.y,x.short = true:=fun x hx=>by
  obtain ⟨m,hm⟩:=List.getElem?_of_mem hx
  exact hok m x (by have:=(List.getElem?_eq_some_iff.1 hm).1; omega) hm
 refine aC (FG c.p c.long h.hp) rfl ?_
 dsimp only [aB,aA]
 refine uY (iX c.p) rfl (fun h13=>?_) (fun h13=>?_)
 ·refine aC (uO c.c h.hc) rfl ?_
  dsimp only [aB,aA]
  refine uY c.c.short rfl (fun h15=>?_) (fun h15=>?_)
  ·refine vn (aO Hr (List.length_map _)) rfl ?_
   dsimp only [aB,aA]
   refine vn fQ rfl ?_
   dsimp only [aB,aA]
   rw [show c.small = decide ((c.y.length:Int) ≤ 6) by
    unfold bI.small; rw [decide_eq_decide]
    exact ⟨fun h=>by have:=h.2.2.2; omega,fun h=>⟨hall,h13,h15,by omega⟩⟩]; exact aK rfl
  rw [show c.small = false by unfold bI.small; rw [decide_eq_false_iff_not,h15]; simp]; exact aK rfl
 rw [show c.small = false by unfold bI.small; rw [decide_eq_false_iff_not,h13]; simp]; exact aK rfl
end Go.Sy
