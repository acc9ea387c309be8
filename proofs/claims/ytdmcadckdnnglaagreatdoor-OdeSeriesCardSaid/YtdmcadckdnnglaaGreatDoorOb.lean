/- Known functions. Known functions of the reference; what is small.
-/
import Derived.Test.YtdmcadckdnnglaaGreatDoorOa
set_option linter.unusedVariables false
set_option linter.unusedSimpArgs false
namespace Go.Sy
open Go Go.Proofs Tryz Ord
def VD : Tr := .need (.idx 5 (.u 3 0)) (.indexAddr 40 (.tmp 14) (.tmp 15)) 0 false (.need (.strow 5 3 (.u 3 0) 0 [(.u 7 0), (.u 7 1), (.u 7 2)]) (.store 39 (.tmp 26) (.tmp 21)) 0 false (.need (.idx 9 (.u 4 0)) (.indexAddr 40 (.tmp 16) (.tmp 17)) 0 false (.need (.strow 9 3 (.u 4 0) 0 [(.u 8 0), (.u 8 1), (.u 8 2)]) (.store 39 (.tmp 27) (.tmp 25)) 0 false (.need (.prim [(W 3 0), (WK (1))] none) (.binOp .add 3 (.tmp 10) (.const (I3 (1))) 3) 3 false (.need (.prim [(W 4 0), (WK (1))] none) (.binOp .sub 3 (.tmp 12) (.const (I3 (1))) 3) 3 false (.back 0 [(.w (W 11 0)), (.w (W 12 0)), (.row 10)]))))))
def Uo : Tr := .loop 0 [(.w (WK (0))), (.w (W 2 0)), (.row 0)] (.need (.prim [(W 3 0), (W 4 0)] none) (.binOp .lss 3 (.tmp 7) (.tmp 8) 3) 4 false (.split (.u 6 0) (.need (.idx 5 (.u 4 0)) (.indexAddr 40 (.tmp 18) (.tmp 19)) 0 false (.need (.ldrow 5 (.u 4 0) 0 3 true) (.load 39 (.tmp 20)) 39 false (.need (.idx 5 (.u 3 0)) (.indexAddr 40 (.tmp 22) (.tmp 23)) 0 false (.need (.ldrow 5 (.u 3 0) 0 3 true) (.load 39 (.tmp 24)) 39 false VD)))) (.retr [] 5)))
def UO : Tr := .need (.lenrow 0) (.call ⟨.builtin .len, #[(.tmp 4)], #[40]⟩) 3 false (.need (.prim [(W 1 0), (WK (1))] none) (.binOp .sub 3 (.tmp 5) (.const (I3 (1))) 3) 3 false Uo)
theorem EI : Dy prog f92 (fun _ => none) [.lent 39 3] = UO := by kernel_rfl
def Kl : Tr := .back 0 [(.w (W 10 0)), (.row 9)]
def Jo : Tr := .ret [(W 5 0)]
def Vu : Tr := .split (.u 4 0) (.need (.prim [(W 0 0), (W 2 0)] none) (.indexAddr 242 (.tmp 6) (.tmp 8)) 0 false (.need (.prim [(W 5 0)] none) (.load 2 (.tmp 10)) 2 false (.need (.call 68 [(W 6 0)] [(some 3)]) (.call ⟨.value (.func 68), #[(.tmp 13)], #[2]⟩) 39 true (.need (.lit 3 [[(.u 7 0), (.u 7 1), (.u 7 2)]]) (.buildSlice 72 1 #[(0, (.tmp 14))]) 72 false (.need (.app 3 56 (some 3) none (some 8)) (.call ⟨.builtin .append, #[(.tmp 12), (.tmp 15)], #[72, 72]⟩) 72 false (.need (.prim [(W 2 0), (WK (1))] none) (.binOp .add 3 (.tmp 8) (.const (I3 (1))) 3) 3 false Kl)))))) (.need (.call 34 [(.one (.c (.sr 3 3)))] [none]) (.call ⟨.value (.func 34), #[(.tmp 18)], #[72]⟩) 72 true Jo)
def Vp : Tr := .need (.prim [(W 0 0)] none) (.call ⟨.builtin .len, #[(.tmp 6)], #[242]⟩) 3 false (.loop 0 [(.w (WK (0))), .nilrow] (.need (.prim [(W 2 0), (W 1 0)] none) (.binOp .lss 3 (.tmp 8) (.tmp 7) 3) 0 false Vu))
theorem Cf : aM prog f91 (fun _ => none) [.v none] = Vp := by kernel_rfl
def XI : Tr := .split (.u 4 0) (.need (.prim [(W 0 0), (W 1 0)] none) (.indexAddr 242 (.tmp 12) (.tmp 13)) 0 false (.need (.prim [(W 5 0)] none) (.load 2 (.tmp 14)) 2 false (.need (.call 50 [(W 6 0)] [(some 4)]) (.call ⟨.value (.func 50), #[(.tmp 15)], #[2]⟩) 49 true (.need (.lit 4 [[(.u 7 0), (.u 7 1), (.u 7 2), (.u 7 3)]]) (.buildSlice 167 1 #[(0, (.tmp 16))]) 167 false (.need (.app 4 64 (some 2) none (some 8)) (.call ⟨.builtin .append, #[(.tmp 11), (.tmp 17)], #[167, 167]⟩) 167 false (.need (.prim [(W 1 0), (WK (1))] none) (.binOp .add 3 (.tmp 9) (.const (I3 (1))) 3) 3 false Kl)))))) (.need (.call 144 [(.one (.c (.sr 4 2)))] [none]) (.call ⟨.value (.func 144), #[(.tmp 19)], #[167]⟩) 167 true Jo)
def UK : Tr := .loop 0 [(.w (WK (0))), .nilrow] (.need (.prim [(W 0 0)] none) (.call ⟨.builtin .len, #[(.tmp 6)], #[242]⟩) 3 false (.need (.prim [(W 1 0), (W 3 0)] none) (.binOp .lss 3 (.tmp 5) (.tmp 7) 3) 4 false XI))
theorem CP : aM prog f99 (fun _ => none) [.v none] = UK := by kernel_rfl
def Pe : Tr := .ret [(.agg [(.c (.k (.slice none 0 0))), (.c (.k (.slice none 0 0))), (.c (.k (.bool false))), (.c (.k (.slice none 0 0))), (.c (.k (.slice none 0 0)))]), (WK (2))]
def Po : Tr := .ret [(.agg [(.c (.k (.slice none 0 0))), (.c (.k (.slice none 0 0))), (.c (.k (.bool false))), (.c (.k (.slice none 0 0))), (.c (.k (.slice none 0 0)))]), (WK (3))]
def TW : Tr := .need (.call 91 [(.one (.c (.sr 1 9)))] [none]) (.call ⟨.value (.func 91), #[(.tmp 30)], #[242]⟩) 72 false (.need (.lit 1 [[(.k (.int .i64 (1)))]]) (.buildSlice 242 1 #[(0, (.const (I3 (1))))]) 242 false (.need (.call 91 [(.one (.c (.sr 1 11)))] [none]) (.call ⟨.value (.func 91), #[(.tmp 32)], #[242]⟩) 72 false (.need (.lit 1 [[(.u 10 0)], [(.u 12 0)]]) (.buildSlice 32 2 #[(0, (.tmp 31)), (1, (.tmp 33))]) 32 false (.need (.call 68 [(WK (1))] [(some 3)]) (.call ⟨.value (.func 68), #[(.const (I3 (1)))], #[2]⟩) 39 false (.need (.lit 3 [[(.u 14 0), (.u 14 1), (.u 14 2)]]) (.buildSlice 40 1 #[(0, (.tmp 35))]) 40 false (.ret [(.agg [(.c (.sr 1 13)), (.c (.k (.slice none 0 0))), (.c (.k (.bool false))), (.c (.k (.slice none 0 0))), (.c (.sr 3 15))]), (WK (0))]))))))
def SG : Tr := .need (.lit 1 [[(.u 11 0)], [(.k (.slice none 0 0))], [(.u 13 0)]]) (.buildSlice 32 3 #[(0, (.tmp 41)), (1, (.const (.slice none 0 0))), (2, (.tmp 43))]) 32 false (.need (.prim [(W 0 0), (.one (.c (.k (.int .u8 (3)))))] none) (.binOp .eql 5 (.tmp 104) (.const (.int .u8 (3))) 5) 4 false (.split (.u 15 0) (.need (.rop 7 39 3 none [] [] []) (.call ⟨.value (.func 92), #[(.tmp 111)], #[40]⟩) 0 true (.ret [(.agg [(.c (.sr 1 14)), (.c (.k (.slice none 0 0))), (.c (.k (.bool false))), (.c (.k (.slice none 0 0))), (.c (.sr 3 16))]), (WK (0))])) (.need (.prim [(W 0 0), (.one (.c (.k (.int .u8 (7)))))] none) (.binOp .geq 5 (.tmp 107) (.const (.int .u8 (7))) 5) 4 false (.split (.u 16 0) (.need (.rop 7 39 3 none [] [] []) (.call ⟨.value (.func 92), #[(.tmp 111)], #[40]⟩) 0 true (.ret [(.agg [(.c (.sr 1 14)), (.c (.k (.slice none 0 0))), (.c (.k (.bool false))), (.c (.k (.slice none 0 0))), (.c (.sr 3 17))]), (WK (0))])) (.ret [(.agg [(.c (.sr 1 14)), (.c (.k (.slice none 0 0))), (.c (.k (.bool false))), (.c (.k (.slice none 0 0))), (.c (.sr 3 7))]), (WK (0))])))))
def Rm : Tr := .need (.lit 1 [[(.u 12 0)], [(.k (.slice none 0 0))], [(.u 14 0)]]) (.buildSlice 32 3 #[(0, (.tmp 49)), (1, (.const (.slice none 0 0))), (2, (.tmp 51))]) 32 false (.need (.prim [(W 0 0), (.one (.c (.k (.int .u8 (3)))))] none) (.binOp .eql 5 (.tmp 104) (.const (.int .u8 (3))) 5) 4 false (.split (.u 16 0) (.need (.rop 7 39 3 none [] [] []) (.call ⟨.value (.func 92), #[(.tmp 111)], #[40]⟩) 0 true (.ret [(.agg [(.c (.sr 1 15)), (.c (.k (.slice none 0 0))), (.c (.k (.bool false))), (.c (.k (.slice none 0 0))), (.c (.sr 3 17))]), (WK (0))])) (.need (.prim [(W 0 0), (.one (.c (.k (.int .u8 (7)))))] none) (.binOp .geq 5 (.tmp 107) (.const (.int .u8 (7))) 5) 4 false (.split (.u 17 0) (.need (.rop 7 39 3 none [] [] []) (.call ⟨.value (.func 92), #[(.tmp 111)], #[40]⟩) 0 true (.ret [(.agg [(.c (.sr 1 15)), (.c (.k (.slice none 0 0))), (.c (.k (.bool false))), (.c (.k (.slice none 0 0))), (.c (.sr 3 18))]), (WK (0))])) (.ret [(.agg [(.c (.sr 1 15)), (.c (.k (.slice none 0 0))), (.c (.k (.bool false))), (.c (.k (.slice none 0 0))), (.c (.sr 3 7))]), (WK (0))])))))
def Su : Tr := .need (.lit 1 [[(.k (.slice none 0 0))], [(.u 13 0)], [(.u 15 0)]]) (.buildSlice 32 3 #[(0, (.const (.slice none 0 0))), (1, (.tmp 57)), (2, (.tmp 59))]) 32 false (.need (.prim [(W 0 0), (.one (.c (.k (.int .u8 (3)))))] none) (.binOp .eql 5 (.tmp 104) (.const (.int .u8 (3))) 5) 4 false (.split (.u 17 0) (.need (.rop 7 39 3 none [] [] []) (.call ⟨.value (.func 92), #[(.tmp 111)], #[40]⟩) 0 true (.ret [(.agg [(.c (.sr 1 16)), (.c (.k (.slice none 0 0))), (.c (.k (.bool false))), (.c (.k (.slice none 0 0))), (.c (.sr 3 18))]), (WK (0))])) (.need (.prim [(W 0 0), (.one (.c (.k (.int .u8 (7)))))] none) (.binOp .geq 5 (.tmp 107) (.const (.int .u8 (7))) 5) 4 false (.split (.u 18 0) (.need (.rop 7 39 3 none [] [] []) (.call ⟨.value (.func 92), #[(.tmp 111)], #[40]⟩) 0 true (.ret [(.agg [(.c (.sr 1 16)), (.c (.k (.slice none 0 0))), (.c (.k (.bool false))), (.c (.k (.slice none 0 0))), (.c (.sr 3 19))]), (WK (0))])) (.ret [(.agg [(.c (.sr 1 16)), (.c (.k (.slice none 0 0))), (.c (.k (.bool false))), (.c (.k (.slice none 0 0))), (.c (.sr 3 7))]), (WK (0))])))))
def QB : Tr := .need (.lit 1 [[(.k (.slice none 0 0))], [(.u 14 0)], [(.u 16 0)]]) (.buildSlice 32 3 #[(0, (.const (.slice none 0 0))), (1, (.tmp 65)), (2, (.tmp 67))]) 32 false (.need (.prim [(W 0 0), (.one (.c (.k (.int .u8 (3)))))] none) (.binOp .eql 5 (.tmp 104) (.const (.int .u8 (3))) 5) 4 false (.split (.u 18 0) (.need (.rop 7 39 3 none [] [] []) (.call ⟨.value (.func 92), #[(.tmp 111)], #[40]⟩) 0 true (.ret [(.agg [(.c (.sr 1 17)), (.c (.k (.slice none 0 0))), (.c (.k (.bool false))), (.c (.k (.slice none 0 0))), (.c (.sr 3 19))]), (WK (0))])) (.need (.prim [(W 0 0), (.one (.c (.k (.int .u8 (7)))))] none) (.binOp .geq 5 (.tmp 107) (.const (.int .u8 (7))) 5) 4 false (.split (.u 19 0) (.need (.rop 7 39 3 none [] [] []) (.call ⟨.value (.func 92), #[(.tmp 111)], #[40]⟩) 0 true (.ret [(.agg [(.c (.sr 1 17)), (.c (.k (.slice none 0 0))), (.c (.k (.bool false))), (.c (.k (.slice none 0 0))), (.c (.sr 3 20))]), (WK (0))])) (.ret [(.agg [(.c (.sr 1 17)), (.c (.k (.slice none 0 0))), (.c (.k (.bool false))), (.c (.k (.slice none 0 0))), (.c (.sr 3 7))]), (WK (0))])))))
def Sl : Tr := .need (.lit 1 [[(.k (.slice none 0 0))], [(.u 15 0)], [(.u 17 0)]]) (.buildSlice 32 3 #[(0, (.const (.slice none 0 0))), (1, (.tmp 73)), (2, (.tmp 75))]) 32 false (.need (.prim [(W 0 0), (.one (.c (.k (.int .u8 (3)))))] none) (.binOp .eql 5 (.tmp 104) (.const (.int .u8 (3))) 5) 4 false (.split (.u 19 0) (.need (.rop 7 39 3 none [] [] []) (.call ⟨.value (.func 92), #[(.tmp 111)], #[40]⟩) 0 true (.ret [(.agg [(.c (.sr 1 18)), (.c (.k (.slice none 0 0))), (.c (.k (.bool false))), (.c (.k (.slice none 0 0))), (.c (.sr 3 20))]), (WK (0))])) (.need (.prim [(W 0 0), (.one (.c (.k (.int .u8 (7)))))] none) (.binOp .geq 5 (.tmp 107) (.const (.int .u8 (7))) 5) 4 false (.split (.u 20 0) (.need (.rop 7 39 3 none [] [] []) (.call ⟨.value (.func 92), #[(.tmp 111)], #[40]⟩) 0 true (.ret [(.agg [(.c (.sr 1 18)), (.c (.k (.slice none 0 0))), (.c (.k (.bool false))), (.c (.k (.slice none 0 0))), (.c (.sr 3 21))]), (WK (0))])) (.ret [(.agg [(.c (.sr 1 18)), (.c (.k (.slice none 0 0))), (.c (.k (.bool false))), (.c (.k (.slice none 0 0))), (.c (.sr 3 7))]), (WK (0))])))))
def Fu : Tr := .need (.prim [(W 0 0), (.one (.c (.k (.int .u8 (3)))))] none) (.binOp .eql 5 (.tmp 104) (.const (.int .u8 (3))) 5) 4 false (.split (.u 24 0) (.need (.rop 7 39 3 none [] [] []) (.call ⟨.value (.func 92), #[(.tmp 111)], #[40]⟩) 0 true (.ret [(.agg [(.c (.sr 1 23)), (.c (.k (.slice none 0 0))), (.c (.k (.bool false))), (.c (.k (.slice none 0 0))), (.c (.sr 3 25))]), (WK (0))])) (.need (.prim [(W 0 0), (.one (.c (.k (.int .u8 (7)))))] none) (.binOp .geq 5 (.tmp 107) (.const (.int .u8 (7))) 5) 4 false (.split (.u 25 0) (.need (.rop 7 39 3 none [] [] []) (.call ⟨.value (.func 92), #[(.tmp 111)], #[40]⟩) 0 true (.ret [(.agg [(.c (.sr 1 23)), (.c (.k (.slice none 0 0))), (.c (.k (.bool false))), (.c (.k (.slice none 0 0))), (.c (.sr 3 26))]), (WK (0))])) (.ret [(.agg [(.c (.sr 1 23)), (.c (.k (.slice none 0 0))), (.c (.k (.bool false))), (.c (.k (.slice none 0 0))), (.c (.sr 3 7))]), (WK (0))]))))
def No : Tr := .need (.lit 1 [[(.u 16 0)]]) (.buildSlice 242 1 #[(0, (.tmp 83))]) 242 false (.need (.call 91 [(.one (.c (.sr 1 17)))] [none]) (.call ⟨.value (.func 91), #[(.tmp 84)], #[242]⟩) 72 false (.need (.lit 1 [[(.k (.int .i64 (0)))], [(.k (.int .i64 (-2)))]]) (.buildSlice 242 2 #[(0, (.const (I3 (0)))), (1, (.const (I3 (-2))))]) 242 false (.need (.call 91 [(.one (.c (.sr 1 19)))] [none]) (.call ⟨.value (.func 91), #[(.tmp 86)], #[242]⟩) 72 false (.need (.lit 1 [[(.k (.int .i64 (1)))], [(.k (.int .i64 (0)))], [(.k (.int .i64 (-1)))]]) (.buildSlice 242 3 #[(0, (.const (I3 (1)))), (1, (.const (I3 (0)))), (2, (.const (I3 (-1))))]) 242 false (.need (.call 91 [(.one (.c (.sr 1 21)))] [none]) (.call ⟨.value (.func 91), #[(.tmp 88)], #[242]⟩) 72 true (.need (.lit 1 [[(.u 18 0)], [(.u 20 0)], [(.u 22 0)]]) (.buildSlice 32 3 #[(0, (.tmp 85)), (1, (.tmp 87)), (2, (.tmp 89))]) 32 false Fu))))))
def Ot : Tr := .need (.lit 1 [[(.u 16 0)]]) (.buildSlice 242 1 #[(0, (.tmp 95))]) 242 false (.need (.call 91 [(.one (.c (.sr 1 17)))] [none]) (.call ⟨.value (.func 91), #[(.tmp 96)], #[242]⟩) 72 false (.need (.lit 1 [[(.k (.int .i64 (0)))], [(.k (.int .i64 (-2)))]]) (.buildSlice 242 2 #[(0, (.const (I3 (0)))), (1, (.const (I3 (-2))))]) 242 false (.need (.call 91 [(.one (.c (.sr 1 19)))] [none]) (.call ⟨.value (.func 91), #[(.tmp 98)], #[242]⟩) 72 false (.need (.lit 1 [[(.k (.int .i64 (1)))]]) (.buildSlice 242 1 #[(0, (.const (I3 (1))))]) 242 false (.need (.call 91 [(.one (.c (.sr 1 21)))] [none]) (.call ⟨.value (.func 91), #[(.tmp 100)], #[242]⟩) 72 true (.need (.lit 1 [[(.u 18 0)], [(.u 20 0)], [(.u 22 0)]]) (.buildSlice 32 3 #[(0, (.tmp 97)), (1, (.tmp 99)), (2, (.tmp 101))]) 32 false Fu))))))
def Mq : Tr := .split (.u 15 0) (.need (.prim [(WK (2)), (W 1 0)] none) (.binOp .mul 2 (.const (I3 (2))) (.tmp 94) 2) 2 false Ot) (.need (.prim [(W 0 0), (.one (.c (.k (.int .u8 (3)))))] none) (.binOp .eql 5 (.tmp 104) (.const (.int .u8 (3))) 5) 4 false (.split (.u 16 0) (.need (.rop 7 39 3 none [] [] []) (.call ⟨.value (.func 92), #[(.tmp 111)], #[40]⟩) 0 true (.ret [(.agg [(.c (.k (.slice none 0 0))), (.c (.k (.slice none 0 0))), (.c (.k (.bool false))), (.c (.k (.slice none 0 0))), (.c (.sr 3 17))]), (WK (0))])) (.need (.prim [(W 0 0), (.one (.c (.k (.int .u8 (7)))))] none) (.binOp .geq 5 (.tmp 107) (.const (.int .u8 (7))) 5) 4 false (.split (.u 17 0) (.need (.rop 7 39 3 none [] [] []) (.call ⟨.value (.func 92), #[(.tmp 111)], #[40]⟩) 0 true (.ret [(.agg [(.c (.k (.slice none 0 0))), (.c (.k (.slice none 0 0))), (.c (.k (.bool false))), (.c (.k (.slice none 0 0))), (.c (.sr 3 18))]), (WK (0))])) (.ret [(.agg [(.c (.k (.slice none 0 0))), (.c (.k (.slice none 0 0))), (.c (.k (.bool false))), (.c (.k (.slice none 0 0))), (.c (.sr 3 7))]), (WK (0))])))))
def RM : Tr := .split (.u 12 0) (.need (.lit 1 [[(.k (.int .i64 (1)))]]) (.buildSlice 242 1 #[(0, (.const (I3 (1))))]) 242 false (.need (.call 91 [(.one (.c (.sr 1 13)))] [none]) (.call ⟨.value (.func 91), #[(.tmp 64)], #[242]⟩) 72 false (.need (.lit 1 [[(.k (.int .i64 (1)))], [(.k (.int .i64 (1)))]]) (.buildSlice 242 2 #[(0, (.const (I3 (1)))), (1, (.const (I3 (1))))]) 242 false (.need (.call 91 [(.one (.c (.sr 1 15)))] [none]) (.call ⟨.value (.func 91), #[(.tmp 66)], #[242]⟩) 72 true QB)))) (.need (.prim [(W 0 0), (.one (.c (.k (.int .u8 (6)))))] none) (.binOp .eql 5 (.tmp 27) (.const (.int .u8 (6))) 5) 4 false (.split (.u 13 0) (.need (.lit 1 [[(.k (.int .i64 (0)))], [(.k (.int .i64 (2)))]]) (.buildSlice 242 2 #[(0, (.const (I3 (0)))), (1, (.const (I3 (2))))]) 242 false (.need (.call 91 [(.one (.c (.sr 1 14)))] [none]) (.call ⟨.value (.func 91), #[(.tmp 72)], #[242]⟩) 72 false (.need (.lit 1 [[(.k (.int .i64 (1)))], [(.k (.int .i64 (0)))], [(.k (.int .i64 (1)))]]) (.buildSlice 242 3 #[(0, (.const (I3 (1)))), (1, (.const (I3 (0)))), (2, (.const (I3 (1))))]) 242 false (.need (.call 91 [(.one (.c (.sr 1 16)))] [none]) (.call ⟨.value (.func 91), #[(.tmp 74)], #[242]⟩) 72 true Sl)))) (.need (.prim [(W 0 0), (.one (.c (.k (.int .u8 (7)))))] none) (.binOp .eql 5 (.tmp 27) (.const (.int .u8 (7))) 5) 4 false (.split (.u 14 0) (.need (.prim [(W 1 0), (WK (1))] none) (.binOp .add 2 (.tmp 81) (.const (I3 (1))) 2) 2 false (.need (.prim [(W 1 0), (W 15 0)] none) (.binOp .mul 2 (.tmp 80) (.tmp 82) 2) 2 false No)) (.need (.prim [(W 0 0), (.one (.c (.k (.int .u8 (8)))))] none) (.binOp .eql 5 (.tmp 27) (.const (.int .u8 (8))) 5) 4 false Mq)))))
def Qz : Tr := .split (.u 10 0) (.need (.lit 1 [[(.k (.int .i64 (0)))], [(.k (.int .i64 (-1)))]]) (.buildSlice 242 2 #[(0, (.const (I3 (0)))), (1, (.const (I3 (-1))))]) 242 false (.need (.call 91 [(.one (.c (.sr 1 11)))] [none]) (.call ⟨.value (.func 91), #[(.tmp 48)], #[242]⟩) 72 false (.need (.lit 1 [[(.k (.int .i64 (1)))]]) (.buildSlice 242 1 #[(0, (.const (I3 (1))))]) 242 false (.need (.call 91 [(.one (.c (.sr 1 13)))] [none]) (.call ⟨.value (.func 91), #[(.tmp 50)], #[242]⟩) 72 true Rm)))) (.need (.prim [(W 0 0), (.one (.c (.k (.int .u8 (4)))))] none) (.binOp .eql 5 (.tmp 27) (.const (.int .u8 (4))) 5) 4 false (.split (.u 11 0) (.need (.lit 1 [[(.k (.int .i64 (0)))], [(.k (.int .i64 (2)))]]) (.buildSlice 242 2 #[(0, (.const (I3 (0)))), (1, (.const (I3 (2))))]) 242 false (.need (.call 91 [(.one (.c (.sr 1 12)))] [none]) (.call ⟨.value (.func 91), #[(.tmp 56)], #[242]⟩) 72 false (.need (.lit 1 [[(.k (.int .i64 (1)))]]) (.buildSlice 242 1 #[(0, (.const (I3 (1))))]) 242 false (.need (.call 91 [(.one (.c (.sr 1 14)))] [none]) (.call ⟨.value (.func 91), #[(.tmp 58)], #[242]⟩) 72 true Su)))) (.need (.prim [(W 0 0), (.one (.c (.k (.int .u8 (5)))))] none) (.binOp .eql 5 (.tmp 27) (.const (.int .u8 (5))) 5) 4 false RM)))
def Qf : Tr := .split (.u 8 0) (.need (.lit 1 [[(.k (.int .i64 (-1)))]]) (.buildSlice 242 1 #[(0, (.const (I3 (-1))))]) 242 false TW) (.need (.prim [(W 0 0), (.one (.c (.k (.int .u8 (2)))))] none) (.binOp .eql 5 (.tmp 27) (.const (.int .u8 (2))) 5) 4 false (.split (.u 9 0) (.need (.lit 1 [[(.k (.int .i64 (1)))]]) (.buildSlice 242 1 #[(0, (.const (I3 (1))))]) 242 false (.need (.call 91 [(.one (.c (.sr 1 10)))] [none]) (.call ⟨.value (.func 91), #[(.tmp 40)], #[242]⟩) 72 false (.need (.lit 1 [[(.k (.int .i64 (1)))]]) (.buildSlice 242 1 #[(0, (.const (I3 (1))))]) 242 false (.need (.call 91 [(.one (.c (.sr 1 12)))] [none]) (.call ⟨.value (.func 91), #[(.tmp 42)], #[242]⟩) 72 true SG)))) (.need (.prim [(W 0 0), (.one (.c (.k (.int .u8 (3)))))] none) (.binOp .eql 5 (.tmp 27) (.const (.int .u8 (3))) 5) 4 false Qz)))
def UZ : Tr := .need (.prim [(W 1 0), (WK (0))] none) (.binOp .lss 3 (.tmp 15) (.const (I3 (0))) 3) 4 false (.split (.u 4 0) Po (.need (.prim [(W 1 0), (WK (40))] none) (.binOp .gtr 3 (.tmp 18) (.const (I3 (40))) 3) 4 false (.split (.u 5 0) Po (.need (.call 68 [(WK (1))] [(some 3)]) (.call ⟨.value (.func 68), #[(.const (I3 (1)))], #[2]⟩) 39 false (.need (.lit 3 [[(.k (.slice none 0 0)), (.k (.bool false)), (.k (.slice none 0 0))], [(.u 6 0), (.u 6 1), (.u 6 2)]]) (.buildSlice 40 2 #[(0, (.tmp 23)), (1, (.tmp 24))]) 40 false (.need (.prim [(W 0 0), (.one (.c (.k (.int .u8 (1)))))] none) (.binOp .eql 5 (.tmp 27) (.const (.int .u8 (1))) 5) 4 false Qf))))))
def WY : Tr := .need (.prim [(W 0 0), (.one (.c (.k (.int .u8 (1)))))] none) (.binOp .lss 5 (.tmp 8) (.const (.int .u8 (1))) 5) 4 false (.split (.u 2 0) Pe (.need (.prim [(W 0 0), (.one (.c (.k (.int .u8 (8)))))] none) (.binOp .gtr 5 (.tmp 11) (.const (.int .u8 (8))) 5) 4 false (.split (.u 3 0) Pe UZ)))
theorem IQ : aM prog f18 (fun _ => none) [.v none, .v none] = WY := by kernel_rfl
def RY : Tr := .need (.lit 1 [[(.k (.int .i64 (-1)))]]) (.buildSlice 242 1 #[(0, (.const (I3 (-1))))]) 242 false (.need (.call 99 [(.one (.c (.sr 1 4)))] [none]) (.call ⟨.value (.func 99), #[(.tmp 14)], #[242]⟩) 167 false (.need (.lit 1 [[(.k (.int .i64 (1)))]]) (.buildSlice 242 1 #[(0, (.const (I3 (1))))]) 242 false (.need (.call 99 [(.one (.c (.sr 1 6)))] [none]) (.call ⟨.value (.func 99), #[(.tmp 16)], #[242]⟩) 167 false (.need (.lit 1 [[(.u 5 0)], [(.u 7 0)]]) (.buildSlice 44 2 #[(0, (.tmp 15)), (1, (.tmp 17))]) 44 false (.need (.lit 4 [[(.u 2 0), (.u 2 1), (.u 2 2), (.u 2 3)]]) (.buildSlice 50 1 #[(0, (.tmp 19))]) 50 false (.ret [(.agg [(.c (.sr 1 8)), (.c (.k (.int .i64 (0)))), (.c (.k (.slice none 0 0))), (.c (.k (.int .i64 (0)))), (.c (.k (.slice none 0 0))), (.c (.sr 4 9))])]))))))
def Nz : Tr := .need (.lit 1 [[(.k (.int .i64 (1)))]]) (.buildSlice 242 1 #[(0, (.const (I3 (1))))]) 242 false (.need (.call 99 [(.one (.c (.sr 1 5)))] [none]) (.call ⟨.value (.func 99), #[(.tmp 24)], #[242]⟩) 167 false (.need (.lit 1 [[(.k (.int .i64 (1)))]]) (.buildSlice 242 1 #[(0, (.const (I3 (1))))]) 242 false (.need (.call 99 [(.one (.c (.sr 1 7)))] [none]) (.call ⟨.value (.func 99), #[(.tmp 26)], #[242]⟩) 167 false (.need (.lit 1 [[(.u 6 0)], [(.k (.slice none 0 0))], [(.u 8 0)]]) (.buildSlice 44 3 #[(0, (.tmp 25)), (1, (.const (.slice none 0 0))), (2, (.tmp 27))]) 44 false (.need (.lit 4 [[(.k (.int .i64 (0))), (.k (.slice none 0 0)), (.k (.int .i64 (0))), (.k (.slice none 0 0))], [(.u 2 0), (.u 2 1), (.u 2 2), (.u 2 3)]]) (.buildSlice 50 2 #[(0, (.tmp 29)), (1, (.tmp 30))]) 50 false (.ret [(.agg [(.c (.sr 1 9)), (.c (.k (.int .i64 (0)))), (.c (.k (.slice none 0 0))), (.c (.k (.int .i64 (0)))), (.c (.k (.slice none 0 0))), (.c (.sr 4 10))])]))))))
def LZ : Tr := .need (.lit 1 [[(.k (.int .i64 (0)))], [(.k (.int .i64 (-1)))]]) (.buildSlice 242 2 #[(0, (.const (I3 (0)))), (1, (.const (I3 (-1))))]) 242 false (.need (.call 99 [(.one (.c (.sr 1 6)))] [none]) (.call ⟨.value (.func 99), #[(.tmp 35)], #[242]⟩) 167 false (.need (.lit 1 [[(.k (.int .i64 (1)))]]) (.buildSlice 242 1 #[(0, (.const (I3 (1))))]) 242 false (.need (.call 99 [(.one (.c (.sr 1 8)))] [none]) (.call ⟨.value (.func 99), #[(.tmp 37)], #[242]⟩) 167 false (.need (.lit 1 [[(.u 7 0)], [(.k (.slice none 0 0))], [(.u 9 0)]]) (.buildSlice 44 3 #[(0, (.tmp 36)), (1, (.const (.slice none 0 0))), (2, (.tmp 38))]) 44 false (.need (.lit 4 [[(.u 2 0), (.u 2 1), (.u 2 2), (.u 2 3)], [(.k (.int .i64 (0))), (.k (.slice none 0 0)), (.k (.int .i64 (0))), (.k (.slice none 0 0))]]) (.buildSlice 50 2 #[(0, (.tmp 40)), (1, (.tmp 41))]) 50 false (.ret [(.agg [(.c (.sr 1 10)), (.c (.k (.int .i64 (0)))), (.c (.k (.slice none 0 0))), (.c (.k (.int .i64 (0)))), (.c (.k (.slice none 0 0))), (.c (.sr 4 11))])]))))))
def MB : Tr := .need (.lit 1 [[(.k (.int .i64 (0)))], [(.k (.int .i64 (2)))]]) (.buildSlice 242 2 #[(0, (.const (I3 (0)))), (1, (.const (I3 (2))))]) 242 false (.need (.call 99 [(.one (.c (.sr 1 7)))] [none]) (.call ⟨.value (.func 99), #[(.tmp 46)], #[242]⟩) 167 false (.need (.lit 1 [[(.k (.int .i64 (1)))]]) (.buildSlice 242 1 #[(0, (.const (I3 (1))))]) 242 false (.need (.call 99 [(.one (.c (.sr 1 9)))] [none]) (.call ⟨.value (.func 99), #[(.tmp 48)], #[242]⟩) 167 false (.need (.lit 1 [[(.k (.slice none 0 0))], [(.u 8 0)], [(.u 10 0)]]) (.buildSlice 44 3 #[(0, (.const (.slice none 0 0))), (1, (.tmp 47)), (2, (.tmp 49))]) 44 false (.need (.lit 4 [[(.k (.int .i64 (0))), (.k (.slice none 0 0)), (.k (.int .i64 (0))), (.k (.slice none 0 0))], [(.u 2 0), (.u 2 1), (.u 2 2), (.u 2 3)]]) (.buildSlice 50 2 #[(0, (.tmp 51)), (1, (.tmp 52))]) 50 false (.ret [(.agg [(.c (.sr 1 11)), (.c (.k (.int .i64 (0)))), (.c (.k (.slice none 0 0))), (.c (.k (.int .i64 (0)))), (.c (.k (.slice none 0 0))), (.c (.sr 4 12))])]))))))
def OO : Tr := .need (.lit 1 [[(.k (.int .i64 (1)))]]) (.buildSlice 242 1 #[(0, (.const (I3 (1))))]) 242 false (.need (.call 99 [(.one (.c (.sr 1 8)))] [none]) (.call ⟨.value (.func 99), #[(.tmp 57)], #[242]⟩) 167 false (.need (.lit 1 [[(.k (.int .i64 (1)))], [(.k (.int .i64 (1)))]]) (.buildSlice 242 2 #[(0, (.const (I3 (1)))), (1, (.const (I3 (1))))]) 242 false (.need (.call 99 [(.one (.c (.sr 1 10)))] [none]) (.call ⟨.value (.func 99), #[(.tmp 59)], #[242]⟩) 167 false (.need (.lit 1 [[(.k (.slice none 0 0))], [(.u 9 0)], [(.u 11 0)]]) (.buildSlice 44 3 #[(0, (.const (.slice none 0 0))), (1, (.tmp 58)), (2, (.tmp 60))]) 44 false (.need (.lit 4 [[(.k (.int .i64 (0))), (.k (.slice none 0 0)), (.k (.int .i64 (0))), (.k (.slice none 0 0))], [(.u 2 0), (.u 2 1), (.u 2 2), (.u 2 3)]]) (.buildSlice 50 2 #[(0, (.tmp 62)), (1, (.tmp 63))]) 50 false (.ret [(.agg [(.c (.sr 1 12)), (.c (.k (.int .i64 (0)))), (.c (.k (.slice none 0 0))), (.c (.k (.int .i64 (0)))), (.c (.k (.slice none 0 0))), (.c (.sr 4 13))])]))))))
def Oz : Tr := .need (.lit 1 [[(.k (.int .i64 (0)))], [(.k (.int .i64 (2)))]]) (.buildSlice 242 2 #[(0, (.const (I3 (0)))), (1, (.const (I3 (2))))]) 242 false (.need (.call 99 [(.one (.c (.sr 1 9)))] [none]) (.call ⟨.value (.func 99), #[(.tmp 68)], #[242]⟩) 167 false (.need (.lit 1 [[(.k (.int .i64 (1)))], [(.k (.int .i64 (0)))], [(.k (.int .i64 (1)))]]) (.buildSlice 242 3 #[(0, (.const (I3 (1)))), (1, (.const (I3 (0)))), (2, (.const (I3 (1))))]) 242 false (.need (.call 99 [(.one (.c (.sr 1 11)))] [none]) (.call ⟨.value (.func 99), #[(.tmp 70)], #[242]⟩) 167 false (.need (.lit 1 [[(.k (.slice none 0 0))], [(.u 10 0)], [(.u 12 0)]]) (.buildSlice 44 3 #[(0, (.const (.slice none 0 0))), (1, (.tmp 69)), (2, (.tmp 71))]) 44 false (.need (.lit 4 [[(.k (.int .i64 (0))), (.k (.slice none 0 0)), (.k (.int .i64 (0))), (.k (.slice none 0 0))], [(.u 2 0), (.u 2 1), (.u 2 2), (.u 2 3)]]) (.buildSlice 50 2 #[(0, (.tmp 73)), (1, (.tmp 74))]) 50 false (.ret [(.agg [(.c (.sr 1 13)), (.c (.k (.int .i64 (0)))), (.c (.k (.slice none 0 0))), (.c (.k (.int .i64 (0)))), (.c (.k (.slice none 0 0))), (.c (.sr 4 14))])]))))))
def Nt : Tr := .need (.lit 1 [[(.k (.int .i64 (0)))], [(.k (.int .i64 (-2)))]]) (.buildSlice 242 2 #[(0, (.const (I3 (0)))), (1, (.const (I3 (-2))))]) 242 false (.need (.call 99 [(.one (.c (.sr 1 14)))] [none]) (.call ⟨.value (.func 99), #[(.tmp 85)], #[242]⟩) 167 false (.need (.lit 1 [[(.k (.int .i64 (1)))], [(.k (.int .i64 (0)))], [(.k (.int .i64 (-1)))]]) (.buildSlice 242 3 #[(0, (.const (I3 (1)))), (1, (.const (I3 (0)))), (2, (.const (I3 (-1))))]) 242 false (.need (.call 99 [(.one (.c (.sr 1 16)))] [none]) (.call ⟨.value (.func 99), #[(.tmp 87)], #[242]⟩) 167 false (.need (.lit 1 [[(.u 13 0)], [(.u 15 0)], [(.u 17 0)]]) (.buildSlice 44 3 #[(0, (.tmp 84)), (1, (.tmp 86)), (2, (.tmp 88))]) 44 false (.need (.lit 4 [[(.u 2 0), (.u 2 1), (.u 2 2), (.u 2 3)], [(.k (.int .i64 (0))), (.k (.slice none 0 0)), (.k (.int .i64 (0))), (.k (.slice none 0 0))]]) (.buildSlice 50 2 #[(0, (.tmp 90)), (1, (.tmp 91))]) 50 false (.ret [(.agg [(.c (.sr 1 18)), (.c (.k (.int .i64 (0)))), (.c (.k (.slice none 0 0))), (.c (.k (.int .i64 (0)))), (.c (.k (.slice none 0 0))), (.c (.sr 4 19))])]))))))
def MN : Tr := .need (.lit 1 [[(.k (.int .i64 (0)))], [(.k (.int .i64 (-2)))]]) (.buildSlice 242 2 #[(0, (.const (I3 (0)))), (1, (.const (I3 (-2))))]) 242 false (.need (.call 99 [(.one (.c (.sr 1 13)))] [none]) (.call ⟨.value (.func 99), #[(.tmp 98)], #[242]⟩) 167 false (.need (.lit 1 [[(.k (.int .i64 (1)))]]) (.buildSlice 242 1 #[(0, (.const (I3 (1))))]) 242 false (.need (.call 99 [(.one (.c (.sr 1 15)))] [none]) (.call ⟨.value (.func 99), #[(.tmp 100)], #[242]⟩) 167 false (.need (.lit 1 [[(.u 12 0)], [(.u 14 0)], [(.u 16 0)]]) (.buildSlice 44 3 #[(0, (.tmp 97)), (1, (.tmp 99)), (2, (.tmp 101))]) 44 false (.need (.lit 4 [[(.u 2 0), (.u 2 1), (.u 2 2), (.u 2 3)], [(.k (.int .i64 (0))), (.k (.slice none 0 0)), (.k (.int .i64 (0))), (.k (.slice none 0 0))]]) (.buildSlice 50 2 #[(0, (.tmp 103)), (1, (.tmp 104))]) 50 false (.ret [(.agg [(.c (.sr 1 17)), (.c (.k (.int .i64 (0)))), (.c (.k (.slice none 0 0))), (.c (.k (.int .i64 (0)))), (.c (.k (.slice none 0 0))), (.c (.sr 4 18))])]))))))
def OX : Tr := .split (.u 8 0) Oz (.need (.prim [(W 0 0), (.one (.c (.k (.int .u8 (7)))))] none) (.binOp .eql 5 (.tmp 11) (.const (.int .u8 (7))) 5) 4 false (.split (.u 9 0) (.need (.prim [(W 1 0), (WK (1))] none) (.binOp .add 2 (.tmp 80) (.const (I3 (1))) 2) 2 false (.need (.prim [(W 1 0), (W 10 0)] none) (.binOp .mul 2 (.tmp 79) (.tmp 81) 2) 2 false (.need (.lit 1 [[(.u 11 0)]]) (.buildSlice 242 1 #[(0, (.tmp 82))]) 242 false (.need (.call 99 [(.one (.c (.sr 1 12)))] [none]) (.call ⟨.value (.func 99), #[(.tmp 83)], #[242]⟩) 167 false Nt)))) (.need (.prim [(WK (2)), (W 1 0)] none) (.binOp .mul 2 (.const (I3 (2))) (.tmp 94) 2) 2 false (.need (.lit 1 [[(.u 10 0)]]) (.buildSlice 242 1 #[(0, (.tmp 95))]) 242 false (.need (.call 99 [(.one (.c (.sr 1 11)))] [none]) (.call ⟨.value (.func 99), #[(.tmp 96)], #[242]⟩) 167 false MN)))))
def Ni : Tr := .need (.prim [(W 0 0), (.one (.c (.k (.int .u8 (3)))))] none) (.binOp .eql 5 (.tmp 11) (.const (.int .u8 (3))) 5) 4 false (.split (.u 5 0) LZ (.need (.prim [(W 0 0), (.one (.c (.k (.int .u8 (4)))))] none) (.binOp .eql 5 (.tmp 11) (.const (.int .u8 (4))) 5) 4 false (.split (.u 6 0) MB (.need (.prim [(W 0 0), (.one (.c (.k (.int .u8 (5)))))] none) (.binOp .eql 5 (.tmp 11) (.const (.int .u8 (5))) 5) 4 false (.split (.u 7 0) OO (.need (.prim [(W 0 0), (.one (.c (.k (.int .u8 (6)))))] none) (.binOp .eql 5 (.tmp 11) (.const (.int .u8 (6))) 5) 4 false OX))))))
def SY : Tr := .need (.call 50 [(WK (1))] [(some 4)]) (.call ⟨.value (.func 50), #[(.const (I3 (1)))], #[2]⟩) 49 true (.need (.prim [(W 0 0), (.one (.c (.k (.int .u8 (1)))))] none) (.binOp .eql 5 (.tmp 11) (.const (.int .u8 (1))) 5) 4 false (.split (.u 3 0) RY (.need (.prim [(W 0 0), (.one (.c (.k (.int .u8 (2)))))] none) (.binOp .eql 5 (.tmp 11) (.const (.int .u8 (2))) 5) 4 false (.split (.u 4 0) Nz Ni))))
theorem Ir : aM prog f25 (fun _ => none) [.v none, .v none] = SY := by kernel_rfl
theorem qJ (a0 a1 a2 b0 b1 b2 : aF) : pO prog 92 39 3 [] [] ([[a0, a1, a2], [b0, b1, b2]]) [] ([[b0, b1, b2], [a0, a1, a2]]) := by
 refine wI (a1 := []) (a2 := []) (i1 := []) (i2 := []) (hints := (fun _ => none)) fo (by kernel_rfl) func92 trivial trivial (by kernel_rfl) ?_ ?_ ?_ ?_
 ·simp [rT]
 ·simp [rT]
 ·simp [rT]
 dsimp only [aA, aB]
 rw [EI]
 dsimp only [List.map, In.env, aA, aB]
 refine DV (n := 2) rfl rfl ?_
 dsimp only [aA, aB]
 refine vn (aG (by omega) (by omega)) rfl ?_
 dsimp only [aA, aB]
 refine aY Bool (fun g => if g then [.one (.int .i64 1), .one (.int .i64 0), .rows [[b0, b1, b2], [a0, a1, a2]]] else [.one (.int .i64 0), .one (.int .i64 1), .rows [[a0, a1, a2], [b0, b1, b2]]]) (fun g => if g then 0 else 1) false aL.rfl (fun g => by cases g <;> rfl) ?_
 intro g
 cases g
 case true =>
  show vc _ _ _ [_, _, _, .one (.int .i64 1), .one (.int .i64 0), .rows [[b0, b1, b2], [a0, a1, a2]]] _
  refine vn aU rfl ?_
  refine vs _ rfl (fun h => absurd h (by decide)) (fun _ => ?_)
  exact LB rfl rfl
 show vc _ _ _ [_, _, _, .one (.int .i64 0), .one (.int .i64 1), .rows [[a0, a1, a2], [b0, b1, b2]]] _
 refine vn aU rfl ?_
 dsimp only [aA, aB]
 refine vs _ rfl (fun _ => ?_) (fun h => absurd (by decide) h)
 refine lW rfl rfl (by decide) (by simp) ?_
 refine XU (t := .agg [b0, b1, b2]) rfl rfl (by decide) rfl (.inl rfl) rfl ?_
 dsimp only [aA, aB, HH, List.drop, List.take]
 refine lW rfl rfl (by decide) (by simp) ?_
 refine XU (t := .agg [a0, a1, a2]) rfl rfl (by decide) rfl (.inl rfl) rfl ?_
 dsimp only [aA, aB, HH, List.drop, List.take]
 refine lW rfl rfl (by decide) (by simp) ?_
 refine BW (us := [[b0, b1, b2], [b0, b1, b2]]) rfl rfl (by decide) rfl rfl ?_
 dsimp only [aA, aB]
 refine lW rfl rfl (by decide) (by simp) ?_
 refine BW (us := [[b0, b1, b2], [a0, a1, a2]]) rfl rfl (by decide) rfl rfl ?_
 dsimp only [aA, aB]
 refine vn (aE (by omega) (by omega)) rfl ?_
 dsimp only [aA, aB]
 refine vn (aG (by omega) (by omega)) rfl ?_
 dsimp only [aA, aB]
 exact aO rfl ⟨true, aL.rfl, by decide⟩
abbrev sI (l : List Int) : aF := .slice 1 (l.map fun n => [aF.int .i64 n])
def ints (l : List Int) : List Rat := trim (l.map fun n : Int => (n : Rat))
def eG (l : List Int) : Prop := ∀ n ∈ l, -9223372036854775808 ≤ n ∧ n < 9223372036854775808
theorem bD (l : List Int) (h : eG l) (hs : l.length < 1099511627776) : aN prog 91 [(.one (sI l) : aH)] (.ret [.one (sQ (ints l))]) := by
 refine aD (args := [.v none]) (ins := [.v (.one (sI l))]) (hints := (fun _ => none)) fo (by kernel_rfl) func91 ⟨rfl, trivial⟩ ?_
 rw [Cf]
 dsimp only [List.map, In.env, aA, aB]
 refine vn (aK Gv (List.length_map _)) rfl ?_
 dsimp only [aA, aB]
 refine aY {i : Nat // i ≤ l.length} (fun g => [.one (.int .i64 g.1), .rows (rQ ((l.take g.1).map fun n : Int => (n : Rat)))]) (fun g => l.length - g.1) ⟨0, Nat.zero_le _⟩ aL.rfl (fun _ => rfl) ?_
 rintro ⟨i, hi⟩
 dsimp only [aA, aB] at hi ⊢
 refine vn aU rfl ?_
 dsimp only [aA, aB]
 refine vs _ rfl (fun h3 => ?_) (fun h3 => ?_)
 ·obtain ⟨n, hn⟩ : ∃ n, l[i]? = some n := ⟨_, List.getElem?_eq_getElem (by omega)⟩
  obtain ⟨hn1, hn2⟩ := h n (List.mem_of_getElem? hn)
  have hl : ((l.take i).map fun n : Int => (n : Rat)).length ≤ i := by simp; omega
  refine vn (aR Gv (by omega) (by omega) hn) rfl ?_
  dsimp only [aA, aB]
  refine vn (bA Zg) rfl ?_
  dsimp only [aA, aB]
  refine aC (mW n hn1 hn2) rfl ?_
  dsimp only [aA, aB]
  refine bC (us := [qC (n : Rat)]) rfl ?_
  dsimp only [aA, aB]
  refine lK (xs := (l.take i).map fun n : Int => (n : Rat)) (x := (n : Rat)) (f := qC) rfl rfl (by omega) (by simp only [maxLen]; omega) ?_
  rw [iZ (f := fun n : Int => (n : Rat)) hn]
  dsimp only [aA, aB]
  refine vn (aE (by omega) (by omega)) rfl ?_
  dsimp only [aA, aB]
  exact aO rfl ⟨⟨i + 1, by omega⟩, aL.rfl, by show l.length - (i + 1) < l.length - i; omega⟩
 rw [show i = l.length by omega, List.take_length]
 refine aC (sF (l.map fun n : Int => (n : Rat)) (by simpa using hs)) rfl ?_
 dsimp only [aA, aB]
 exact aJ rfl
def cD (l : List Int) : List RQ := dA (l.map fun n : Int => RQ.of (n : Rat))
theorem Ob (l : List Int) : (cD l).map RQ.q = ints l := by
 rw [cD, mO, ints, List.map_map]; rfl
theorem bE (l : List Int) (h : eG l) (hs : l.length < 1099511627776) : aN prog 99 [(.one (sI l) : aH)] (.ret [.one (sR (cD l))]) := by
 refine aD (args := [.v none]) (ins := [.v (.one (sI l))]) (hints := (fun _ => none)) fo (by kernel_rfl) func99 ⟨rfl, trivial⟩ ?_
 rw [CP]
 dsimp only [List.map, In.env, aA, aB]
 refine aY {i : Nat // i ≤ l.length} (fun g => [.one (.int .i64 g.1), .rows (rR ((l.take g.1).map fun n : Int => RQ.of (n : Rat)))]) (fun g => l.length - g.1) ⟨0, Nat.zero_le _⟩ aL.rfl (fun _ => rfl) ?_
 rintro ⟨i, hi⟩
 dsimp only [aA, aB] at hi ⊢
 refine vn (aK Gv (List.length_map _)) rfl ?_
 dsimp only [aA, aB]
 refine vn aU rfl ?_
 dsimp only [aA, aB]
 refine vs _ rfl (fun h3 => ?_) (fun h3 => ?_)
 ·obtain ⟨n, hn⟩ : ∃ n, l[i]? = some n := ⟨_, List.getElem?_eq_getElem (by omega)⟩
  obtain ⟨hn1, hn2⟩ := h n (List.mem_of_getElem? hn)
  have hl : ((l.take i).map fun n : Int => RQ.of (n : Rat)).length ≤ i := by simp; omega
  refine vn (aR Gv (by omega) (by omega) hn) rfl ?_
  dsimp only [aA, aB]
  refine vn (bA Zg) rfl ?_
  dsimp only [aA, aB]
  refine aC (jH n hn1 hn2) rfl ?_
  dsimp only [aA, aB]
  refine bC (us := [rC (.of (n : Rat))]) rfl ?_
  dsimp only [aA, aB]
  refine lK (xs := (l.take i).map fun n : Int => RQ.of (n : Rat)) (x := RQ.of (n : Rat)) (f := rC) rfl rfl (by omega) (by simp only [maxLen]; omega) ?_
  rw [iZ (f := fun n : Int => RQ.of (n : Rat)) hn]
  dsimp only [aA, aB]
  refine vn (aE (by omega) (by omega)) rfl ?_
  dsimp only [aA, aB]
  exact aO rfl ⟨⟨i + 1, by omega⟩, aL.rfl, by show l.length - (i + 1) < l.length - i; omega⟩
 rw [show i = l.length by omega, List.take_length]
 refine aC (pU (l.map fun n : Int => RQ.of (n : Rat)) (by simpa using hs)) rfl ?_
 dsimp only [aA, aB]
 exact aJ rfl
def kE (k : Nat) (n : Int) : List (List Rat) :=
 match k with
 | 1 => [ints [-1], ints [1]]
 | 2 => [ints [1], [], ints [1]]
 | 3 => [ints [0, -1], [], ints [1]]
 | 4 => [[], ints [0, 2], ints [1]]
 | 5 => [[], ints [1], ints [1, 1]]
 | 6 => [[], ints [0, 2], ints [1, 0, 1]]
 | 7 => [ints [n * (n + 1)], ints [0, -2], ints [1, 0, -1]]
 | _ => [ints [2 * n], ints [0, -2], ints [1]]
def kY (k : Nat) : List Rat :=
 match k with
 | 1 => [1]
 | 3 => [1, 0]
 | 7 => [1, 0]
 | 8 => [1, 0]
 | _ => [0, 1]
def gI (k : Nat) (n : Int) : List (List Rat) × List Rat × Int :=
 if k < 1 ∨ 8 < k then ([], [], 2) else if n < 0 ∨ 40 < n then ([], [], 3) else (kE k n, kY k, 0)
abbrev fT (e : List (List Rat)) (c : Rat) (y : List Rat) : aH := .agg [eQ e, dT c.num.natAbs, .bool (decide (c.num < 0)), dT (c.den - 1), sQ y]
theorem AW : aP (aP aF.Sub) [[.exact (.slice none 0 0), .bool false, .exact (.slice none 0 0)], qC 1] [qC 0, qC 1] := ⟨iI, ⟨aF.Sub.same, aF.Sub.same, aF.Sub.same, trivial⟩, trivial⟩
theorem Ff : aP (aP aF.Sub) [qC 1, [.exact (.slice none 0 0), .bool false, .exact (.slice none 0 0)]] [qC 1, qC 0] := ⟨⟨aF.Sub.same, aF.Sub.same, aF.Sub.same, trivial⟩, iI, trivial⟩
theorem Xk (p q : List Rat) : aP (aP aF.Sub) [[sQ p], [.exact (.slice none 0 0)], [sQ q]] [cQ p, cQ [], cQ q] := ⟨⟨aF.Sub.same, trivial⟩, ⟨aF.Sub.nil, trivial⟩, ⟨aF.Sub.same, trivial⟩, trivial⟩
theorem KL (p q : List Rat) : aP (aP aF.Sub) [[.exact (.slice none 0 0)], [sQ p], [sQ q]] [cQ [], cQ p, cQ q] := ⟨⟨aF.Sub.nil, trivial⟩, ⟨aF.Sub.same, trivial⟩, ⟨aF.Sub.same, trivial⟩, trivial⟩
set_option maxHeartbeats 2000000 in
theorem DF (k : Nat) (n : Int) (hk : k < 256) (h1 : -9223372036854775808 ≤ n) (h2 : n < 9223372036854775808) : aN prog 18 [(.one (.int .u8 k) : aH), (.one (.int .i64 n) : aH)] (.ret [fT (gI k n).1 0 (gI k n).2.1, .one (.int .i64 (gI k n).2.2)]) := by
 refine aD (args := [.v none, .v none]) (ins := [.v (.one (.int .u8 k)), .v (.one (.int .i64 n))]) (hints := (fun _ => none)) fo (by kernel_rfl) func18 ⟨rfl, rfl, trivial⟩ ?_
 rw [IQ]
 dsimp only [List.map, In.env, aA, aB]
 refine vn aU rfl ?_
 dsimp only [aA, aB]
 refine vs _ rfl (fun h1 => ?_) (fun h1' => ?_)
 ·rw [gI, if_pos (by omega)]; exact cS ⟨⟨aF.Sub.nil, gQ rfl, aF.Sub.same, gQ rfl, aF.Sub.nil, trivial⟩, aH.Sub.same, trivial⟩
 refine vn cT rfl ?_
 dsimp only [aA, aB]
 refine vs _ rfl (fun h4 => ?_) (fun h4 => ?_)
 ·rw [gI, if_pos (by omega)]; exact cS ⟨⟨aF.Sub.nil, gQ rfl, aF.Sub.same, gQ rfl, aF.Sub.nil, trivial⟩, aH.Sub.same, trivial⟩
 refine vn aU rfl ?_
 dsimp only [aA, aB]
 refine vs _ rfl (fun h7 => ?_) (fun h7 => ?_)
 ·rw [gI, if_neg (by omega), if_pos (by omega)]; exact cS ⟨⟨aF.Sub.nil, gQ rfl, aF.Sub.same, gQ rfl, aF.Sub.nil, trivial⟩, aH.Sub.same, trivial⟩
 refine vn cT rfl ?_
 dsimp only [aA, aB]
 refine vs _ rfl (fun h10 => ?_) (fun h10 => ?_)
 ·rw [gI, if_neg (by omega), if_pos (by omega)]; exact cS ⟨⟨aF.Sub.nil, gQ rfl, aF.Sub.same, gQ rfl, aF.Sub.nil, trivial⟩, aH.Sub.same, trivial⟩
 refine aC (mW 1 (by omega) (by omega)) rfl ?_
 dsimp only [aA, aB]
 rw [gI, if_neg (by omega), if_neg (by omega)]
 refine bC (us := [[.exact (.slice none 0 0), .bool false, .exact (.slice none 0 0)], qC 1]) rfl ?_
 dsimp only [aA, aB]
 refine vn aX rfl ?_
 dsimp only [aA, aB]
 refine vs _ rfl (fun h15 => ?_) (fun h15 => ?_)
 ·obtain rfl : k = 1 := by omega
  refine bC (us := [[.int .i64 (-1)]]) rfl ?_
  dsimp only [aA, aB]
  refine aC (bD [-1] (by simp [eG]) (by simp)) rfl ?_
  dsimp only [aA, aB]
  refine bC (us := [[.int .i64 1]]) rfl ?_
  dsimp only [aA, aB]
  refine aC (bD [1] (by simp [eG]) (by simp)) rfl ?_
  dsimp only [aA, aB]
  refine bC (us := [[sQ (ints [-1])], [sQ (ints [1])]]) rfl ?_
  dsimp only [aA, aB]
  refine aC (mW 1 (by omega) (by omega)) rfl ?_
  dsimp only [aA, aB]
  refine bC (us := [qC 1]) rfl ?_
  dsimp only [aA, aB]
  exact cS ⟨⟨aF.Sub.same, gQ rfl, aF.Sub.same, gQ rfl, aF.Sub.same, trivial⟩, aH.Sub.same, trivial⟩
 refine vn aX rfl ?_
 dsimp only [aA, aB]
 refine vs _ rfl (fun h25 => ?_) (fun h25 => ?_)
 ·obtain rfl : k = 2 := by omega
  refine bC (us := [[.int .i64 1]]) rfl ?_
  dsimp only [aA, aB]
  refine aC (bD [1] (by simp [eG]) (by simp)) rfl ?_
  dsimp only [aA, aB]
  refine bC (us := [[.int .i64 1]]) rfl ?_
  dsimp only [aA, aB]
  refine aC (bD [1] (by simp [eG]) (by simp)) rfl ?_
  dsimp only [aA, aB]
  refine bC (us := [[sQ (ints [1])], [.exact (.slice none 0 0)], [sQ (ints [1])]]) rfl ?_
  dsimp only [aA, aB]
  refine vn aX rfl ?_
  dsimp only [aA, aB]
  refine vs _ rfl (fun h32 => ?_) (fun h32 => ?_)
  ·exfalso; omega
  refine vn dU rfl ?_
  dsimp only [aA, aB]
  refine vs _ rfl (fun h36 => ?_) (fun h36 => ?_)
  ·exfalso; omega
  exact cS ⟨⟨aF.Sub.slice (Xk _ _), gQ rfl, aF.Sub.same, gQ rfl, aF.Sub.slice AW, trivial⟩, aH.Sub.same, trivial⟩
 refine vn aX rfl ?_
 dsimp only [aA, aB]
 refine vs _ rfl (fun h41 => ?_) (fun h41 => ?_)
 ·obtain rfl : k = 3 := by omega
  refine bC (us := [[.int .i64 0], [.int .i64 (-1)]]) rfl ?_
  dsimp only [aA, aB]
  refine aC (bD [0, -1] (by simp [eG]) (by simp)) rfl ?_
  dsimp only [aA, aB]
  refine bC (us := [[.int .i64 1]]) rfl ?_
  dsimp only [aA, aB]
  refine aC (bD [1] (by simp [eG]) (by simp)) rfl ?_
  dsimp only [aA, aB]
  refine bC (us := [[sQ (ints [0, -1])], [.exact (.slice none 0 0)], [sQ (ints [1])]]) rfl ?_
  dsimp only [aA, aB]
  refine vn aX rfl ?_
  dsimp only [aA, aB]
  refine vs _ rfl (fun h48 => ?_) (fun h48 => ?_)
  ·refine GL (n := 0) (us := [[.exact (.slice none 0 0), .bool false, .exact (.slice none 0 0)], qC 1]) (rs := []) (vs := [qC 1, [.exact (.slice none 0 0), .bool false, .exact (.slice none 0 0)]]) rfl ⟨rfl, rfl⟩ (by simp) rfl (pH rfl (qJ _ _ _ _ _ _)) rfl ?_
   dsimp only [aA, aB]
   exact cS ⟨⟨aF.Sub.slice (Xk _ _), gQ rfl, aF.Sub.same, gQ rfl, aF.Sub.slice Ff, trivial⟩, aH.Sub.same, trivial⟩
  refine vn dU rfl ?_
  dsimp only [aA, aB]
  refine vs _ rfl (fun h52 => ?_) (fun h52 => ?_)
  ·exfalso; omega
  exfalso; omega
 refine vn aX rfl ?_
 dsimp only [aA, aB]
 refine vs _ rfl (fun h57 => ?_) (fun h57 => ?_)
 ·obtain rfl : k = 4 := by omega
  refine bC (us := [[.int .i64 0], [.int .i64 2]]) rfl ?_
  dsimp only [aA, aB]
  refine aC (bD [0, 2] (by simp [eG]) (by simp)) rfl ?_
  dsimp only [aA, aB]
  refine bC (us := [[.int .i64 1]]) rfl ?_
  dsimp only [aA, aB]
  refine aC (bD [1] (by simp [eG]) (by simp)) rfl ?_
  dsimp only [aA, aB]
  refine bC (us := [[.exact (.slice none 0 0)], [sQ (ints [0, 2])], [sQ (ints [1])]]) rfl ?_
  dsimp only [aA, aB]
  refine vn aX rfl ?_
  dsimp only [aA, aB]
  refine vs _ rfl (fun h64 => ?_) (fun h64 => ?_)
  ·exfalso; omega
  refine vn dU rfl ?_
  dsimp only [aA, aB]
  refine vs _ rfl (fun h68 => ?_) (fun h68 => ?_)
  ·exfalso; omega
  exact cS ⟨⟨aF.Sub.slice (KL _ _), gQ rfl, aF.Sub.same, gQ rfl, aF.Sub.slice AW, trivial⟩, aH.Sub.same, trivial⟩
 refine vn aX rfl ?_
 dsimp only [aA, aB]
 refine vs _ rfl (fun h73 => ?_) (fun h73 => ?_)
 ·obtain rfl : k = 5 := by omega
  refine bC (us := [[.int .i64 1]]) rfl ?_
  dsimp only [aA, aB]
  refine aC (bD [1] (by simp [eG]) (by simp)) rfl ?_
  dsimp only [aA, aB]
  refine bC (us := [[.int .i64 1], [.int .i64 1]]) rfl ?_
  dsimp only [aA, aB]
  refine aC (bD [1, 1] (by simp [eG]) (by simp)) rfl ?_
  dsimp only [aA, aB]
  refine bC (us := [[.exact (.slice none 0 0)], [sQ (ints [1])], [sQ (ints [1, 1])]]) rfl ?_
  dsimp only [aA, aB]
  refine vn aX rfl ?_
  dsimp only [aA, aB]
  refine vs _ rfl (fun h80 => ?_) (fun h80 => ?_)
  ·exfalso; omega
  refine vn dU rfl ?_
  dsimp only [aA, aB]
  refine vs _ rfl (fun h84 => ?_) (fun h84 => ?_)
  ·exfalso; omega
  exact cS ⟨⟨aF.Sub.slice (KL _ _), gQ rfl, aF.Sub.same, gQ rfl, aF.Sub.slice AW, trivial⟩, aH.Sub.same, trivial⟩
 refine vn aX rfl ?_
 dsimp only [aA, aB]
 refine vs _ rfl (fun h89 => ?_) (fun h89 => ?_)
 ·obtain rfl : k = 6 := by omega
  refine bC (us := [[.int .i64 0], [.int .i64 2]]) rfl ?_
  dsimp only [aA, aB]
  refine aC (bD [0, 2] (by simp [eG]) (by simp)) rfl ?_
  dsimp only [aA, aB]
  refine bC (us := [[.int .i64 1], [.int .i64 0], [.int .i64 1]]) rfl ?_
  dsimp only [aA, aB]
  refine aC (bD [1, 0, 1] (by simp [eG]) (by simp)) rfl ?_
  dsimp only [aA, aB]
  refine bC (us := [[.exact (.slice none 0 0)], [sQ (ints [0, 2])], [sQ (ints [1, 0, 1])]]) rfl ?_
  dsimp only [aA, aB]
  refine vn aX rfl ?_
  dsimp only [aA, aB]
  refine vs _ rfl (fun h96 => ?_) (fun h96 => ?_)
  ·exfalso; omega
  refine vn dU rfl ?_
  dsimp only [aA, aB]
  refine vs _ rfl (fun h100 => ?_) (fun h100 => ?_)
  ·exfalso; omega
  exact cS ⟨⟨aF.Sub.slice (KL _ _), gQ rfl, aF.Sub.same, gQ rfl, aF.Sub.slice AW, trivial⟩, aH.Sub.same, trivial⟩
 refine vn aX rfl ?_
 dsimp only [aA, aB]
 refine vs _ rfl (fun h105 => ?_) (fun h105 => ?_)
 ·obtain rfl : k = 7 := by omega
  have hnn : n * (n + 1) ≤ 40 * 41 := by
   have := Int.mul_le_mul (a := n) (b := n + 1) (c := 40) (d := 41) (by omega) (by omega) (by omega) (by omega)
   omega
  have hn0 : 0 ≤ n * (n + 1) := Int.mul_nonneg (by omega) (by omega)
  refine vn (aE (by omega) (by omega)) rfl ?_
  dsimp only [aA, aB]
  refine vn (oT (c := n * (n + 1)) (cY (by omega) (by omega))) rfl ?_
  dsimp only [aA, aB]
  refine bC (us := [[.int .i64 (n * (n + 1))]]) rfl ?_
  dsimp only [aA, aB]
  refine aC (bD [n * (n + 1)] (by simp only [eG, List.mem_singleton, forall_eq]; omega) (by simp)) rfl ?_
  dsimp only [aA, aB]
  refine bC (us := [[.int .i64 0], [.int .i64 (-2)]]) rfl ?_
  dsimp only [aA, aB]
  refine aC (bD [0, -2] (by simp [eG]) (by simp)) rfl ?_
  dsimp only [aA, aB]
  refine bC (us := [[.int .i64 1], [.int .i64 0], [.int .i64 (-1)]]) rfl ?_
  dsimp only [aA, aB]
  refine aC (bD [1, 0, -1] (by simp [eG]) (by simp)) rfl ?_
  dsimp only [aA, aB]
  refine bC (us := [[sQ (ints [n * (n + 1)])], [sQ (ints [0, -2])], [sQ (ints [1, 0, -1])]]) rfl ?_
  dsimp only [aA, aB]
  refine vn aX rfl ?_
  dsimp only [aA, aB]
  refine vs _ rfl (fun h116 => ?_) (fun h116 => ?_)
  ·exfalso; omega
  refine vn dU rfl ?_
  dsimp only [aA, aB]
  refine vs _ rfl (fun h120 => ?_) (fun h120 => ?_)
  ·refine GL (n := 0) (us := [[.exact (.slice none 0 0), .bool false, .exact (.slice none 0 0)], qC 1]) (rs := []) (vs := [qC 1, [.exact (.slice none 0 0), .bool false, .exact (.slice none 0 0)]]) rfl ⟨rfl, rfl⟩ (by simp) rfl (pH rfl (qJ _ _ _ _ _ _)) rfl ?_
   dsimp only [aA, aB]
   exact cS ⟨⟨aF.Sub.same, gQ rfl, aF.Sub.same, gQ rfl, aF.Sub.slice Ff, trivial⟩, aH.Sub.same, trivial⟩
  exfalso; omega
 refine vn aX rfl ?_
 dsimp only [aA, aB]
 refine vs _ rfl (fun h125 => ?_) (fun h125 => ?_)
 ·obtain rfl : k = 8 := by omega
  refine vn (nD (by omega) (by omega)) rfl ?_
  dsimp only [aA, aB]
  refine bC (us := [[.int .i64 (2 * n)]]) rfl ?_
  dsimp only [aA, aB]
  refine aC (bD [2 * n] (by simp only [eG, List.mem_singleton, forall_eq]; omega) (by simp)) rfl ?_
  dsimp only [aA, aB]
  refine bC (us := [[.int .i64 0], [.int .i64 (-2)]]) rfl ?_
  dsimp only [aA, aB]
  refine aC (bD [0, -2] (by simp [eG]) (by simp)) rfl ?_
  dsimp only [aA, aB]
  refine bC (us := [[.int .i64 1]]) rfl ?_
  dsimp only [aA, aB]
  refine aC (bD [1] (by simp [eG]) (by simp)) rfl ?_
  dsimp only [aA, aB]
  refine bC (us := [[sQ (ints [2 * n])], [sQ (ints [0, -2])], [sQ (ints [1])]]) rfl ?_
  dsimp only [aA, aB]
  refine vn aX rfl ?_
  dsimp only [aA, aB]
  refine vs _ rfl (fun h135 => ?_) (fun h135 => ?_)
  ·exfalso; omega
  refine vn dU rfl ?_
  dsimp only [aA, aB]
  refine vs _ rfl (fun h139 => ?_) (fun h139 => ?_)
  ·refine GL (n := 0) (us := [[.exact (.slice none 0 0), .bool false, .exact (.slice none 0 0)], qC 1]) (rs := []) (vs := [qC 1, [.exact (.slice none 0 0), .bool false, .exact (.slice none 0 0)]]) rfl ⟨rfl, rfl⟩ (by simp) rfl (pH rfl (qJ _ _ _ _ _ _)) rfl ?_
   dsimp only [aA, aB]
   exact cS ⟨⟨aF.Sub.same, gQ rfl, aF.Sub.same, gQ rfl, aF.Sub.slice Ff, trivial⟩, aH.Sub.same, trivial⟩
  exfalso; omega
 refine vn aX rfl ?_
 dsimp only [aA, aB]
 refine vs _ rfl (fun h144 => ?_) (fun h144 => ?_)
 ·exfalso; omega
 refine vn dU rfl ?_
 dsimp only [aA, aB]
 refine vs _ rfl (fun h148 => ?_) (fun h148 => ?_)
 ·exfalso; omega
 exfalso; omega
end Go.Sy
namespace Go.Sy
open Go Go.Proofs Tryz Ord
def Ed : Tr := .ret [(.one (.c (.k (.bool false))))]
def To : Tr := .need (.prim [(W 0 5), (W 2 0)] none) (.indexAddr 27 (.tmp 12) (.tmp 13)) 0 false (.need (.prim [(W 5 0)] (some 3)) (.load 26 (.tmp 14)) 26 false (.need (.call 39 [(.agg [(U 6 0), (U 6 1), (U 6 2)])] [none]) (.call ⟨.value (.func 39), #[(.tmp 15)], #[26]⟩) 4 true (.need (.prim [(W 7 0)] none) (.unOp .not 4 (.tmp 16)) 4 false (.split (.u 8 0) Ed (.need (.prim [(W 2 0), (WK (1))] none) (.binOp .add 3 (.tmp 9) (.const (I3 (1))) 3) 3 false (.back 0 [(.w (W 1 0)), (.w (W 9 0))]))))))
def NO : Tr := .need (.call 55 [(.agg [(U 0 0), (U 0 1)])] [none]) (.call ⟨.value (.func 55), #[(.tmp 19)], #[24]⟩) 4 false (.split (.u 5 0) (.need (.call 39 [(.agg [(U 0 2), (U 0 3), (U 0 4)])] [none]) (.call ⟨.value (.func 39), #[(.tmp 23)], #[26]⟩) 4 false (.split (.u 6 0) (.need (.prim [(W 0 5)] none) (.call ⟨.builtin .len, #[(.tmp 28)], #[27]⟩) 3 false (.need (.prim [(W 7 0), (WK (6))] none) (.binOp .leq 3 (.tmp 29) (.const (I3 (6))) 3) 4 false (.ret [(W 8 0)]))) Ed)) Ed)
def Tw : Tr := .loop 0 [(.w (.one (.c (.k (.bool false))))), (.w (WK (0)))] (.need (.prim [(W 0 5)] none) (.call ⟨.builtin .len, #[(.tmp 6)], #[27]⟩) 3 false (.need (.prim [(W 2 0), (W 3 0)] none) (.binOp .lss 3 (.tmp 4) (.tmp 7) 3) 4 false (.split (.u 4 0) To NO)))
theorem Kk : aM prog f15 (fun _ => none) [.v (some 8)] = Tw := by kernel_rfl
def Xa (k : Nat) (n : Int) : List (List RQ) :=
 match k with
 | 1 => [cD [-1], cD [1]]
 | 2 => [cD [1], [], cD [1]]
 | 3 => [cD [0, -1], [], cD [1]]
 | 4 => [[], cD [0, 2], cD [1]]
 | 5 => [[], cD [1], cD [1, 1]]
 | 6 => [[], cD [0, 2], cD [1, 0, 1]]
 | 7 => [cD [n * (n + 1)], cD [0, -2], cD [1, 0, -1]]
 | _ => [cD [2 * n], cD [0, -2], cD [1]]
def XT (k : Nat) : List RQ :=
 match k with
 | 1 => [.of 1]
 | 3 => [.of 1, .nil]
 | 7 => [.of 1, .nil]
 | 8 => [.of 1, .nil]
 | _ => [.nil, .of 1]
theorem XC {k : Nat} (h1 : 1 ≤ k) (h2 : k ≤ 8) (n : Int) : fI (Xa k n) = kE k n := by
 rcases (by omega : k = 1 ∨ k = 2 ∨ k = 3 ∨ k = 4 ∨ k = 5 ∨ k = 6 ∨ k = 7 ∨ k = 8) with rfl | rfl | rfl | rfl | rfl | rfl | rfl | rfl <;> simp only [fI, Xa, kE, List.map_cons, List.map_nil, Ob]
theorem VZ {k : Nat} (h1 : 1 ≤ k) (h2 : k ≤ 8) : (XT k).map RQ.q = kY k := by
 rcases (by omega : k = 1 ∨ k = 2 ∨ k = 3 ∨ k = 4 ∨ k = 5 ∨ k = 6 ∨ k = 7 ∨ k = 8) with rfl | rfl | rfl | rfl | rfl | rfl | rfl | rfl <;> rfl
abbrev fR (e : List (List RQ)) (c : RQ) (y : List RQ) : aH := .agg [eR e, .int .i64 c.q.num.sign, bT c.q.num.natAbs, .int .i64 (if c.z then 0 else 1), bT (if c.z then 0 else c.q.den), sR y]
theorem Bj : aP (aP aF.Sub) [[.int .i64 0, .exact (.slice none 0 0), .int .i64 0, .exact (.slice none 0 0)], rC (.of 1)] [rC .nil, rC (.of 1)] := ⟨Dd, ⟨aF.Sub.same, aF.Sub.same, aF.Sub.same, aF.Sub.same, trivial⟩, trivial⟩
theorem Fl : aP (aP aF.Sub) [rC (.of 1), [.int .i64 0, .exact (.slice none 0 0), .int .i64 0, .exact (.slice none 0 0)]] [rC (.of 1), rC .nil] := ⟨⟨aF.Sub.same, aF.Sub.same, aF.Sub.same, aF.Sub.same, trivial⟩, Dd, trivial⟩
theorem PC (p q : List RQ) : aP (aP aF.Sub) [[sR p], [.exact (.slice none 0 0)], [sR q]] [cR p, cR [], cR q] := ⟨⟨aF.Sub.same, trivial⟩, ⟨aF.Sub.nil, trivial⟩, ⟨aF.Sub.same, trivial⟩, trivial⟩
theorem Eu (p q : List RQ) : aP (aP aF.Sub) [[.exact (.slice none 0 0)], [sR p], [sR q]] [cR [], cR p, cR q] := ⟨⟨aF.Sub.nil, trivial⟩, ⟨aF.Sub.same, trivial⟩, ⟨aF.Sub.same, trivial⟩, trivial⟩
set_option maxHeartbeats 2000000 in
theorem Lj (k : Nat) (n : Int) (hk1 : 1 ≤ k) (hk : k ≤ 8) (h1 : 0 ≤ n) (h2 : n ≤ 40) : aN prog 25 [(.one (.int .u8 k) : aH), (.one (.int .i64 n) : aH)] (.ret [fR (Xa k n) .nil (XT k)]) := by
 refine aD (args := [.v none, .v none]) (ins := [.v (.one (.int .u8 k)), .v (.one (.int .i64 n))]) (hints := (fun _ => none)) fo (by kernel_rfl) func25 ⟨rfl, rfl, trivial⟩ ?_
 rw [Ir]
 dsimp only [List.map, In.env, aA, aB]
 refine aC (jH 1 (by omega) (by omega)) rfl ?_
 dsimp only [aA, aB]
 refine vn aX rfl ?_
 dsimp only [aA, aB]
 refine vs _ rfl (fun h2 => ?_) (fun h2 => ?_)
 ·obtain rfl : k = 1 := by omega
  refine bC (us := [[.int .i64 (-1)]]) rfl ?_
  dsimp only [aA, aB]
  refine aC (bE [-1] (by simp [eG]) (by simp)) rfl ?_
  dsimp only [aA, aB]
  refine bC (us := [[.int .i64 1]]) rfl ?_
  dsimp only [aA, aB]
  refine aC (bE [1] (by simp [eG]) (by simp)) rfl ?_
  dsimp only [aA, aB]
  refine bC (us := [[sR (cD [-1])], [sR (cD [1])]]) rfl ?_
  dsimp only [aA, aB]
  refine bC (us := [rC (.of 1)]) rfl ?_
  dsimp only [aA, aB]
  exact cS ⟨⟨aF.Sub.same, aF.Sub.same, mN rfl, aF.Sub.same, mN rfl, aF.Sub.same, trivial⟩, trivial⟩
 refine vn aX rfl ?_
 dsimp only [aA, aB]
 refine vs _ rfl (fun h11 => ?_) (fun h11 => ?_)
 ·obtain rfl : k = 2 := by omega
  refine bC (us := [[.int .i64 1]]) rfl ?_
  dsimp only [aA, aB]
  refine aC (bE [1] (by simp [eG]) (by simp)) rfl ?_
  dsimp only [aA, aB]
  refine bC (us := [[.int .i64 1]]) rfl ?_
  dsimp only [aA, aB]
  refine aC (bE [1] (by simp [eG]) (by simp)) rfl ?_
  dsimp only [aA, aB]
  refine bC (us := [[sR (cD [1])], [.exact (.slice none 0 0)], [sR (cD [1])]]) rfl ?_
  dsimp only [aA, aB]
  refine bC (us := [[.int .i64 0, .exact (.slice none 0 0), .int .i64 0, .exact (.slice none 0 0)], rC (.of 1)]) rfl ?_
  dsimp only [aA, aB]
  exact cS ⟨⟨aF.Sub.slice (PC _ _), aF.Sub.same, mN rfl, aF.Sub.same, mN rfl, aF.Sub.slice Bj, trivial⟩, trivial⟩
 refine vn aX rfl ?_
 dsimp only [aA, aB]
 refine vs _ rfl (fun h20 => ?_) (fun h20 => ?_)
 ·obtain rfl : k = 3 := by omega
  refine bC (us := [[.int .i64 0], [.int .i64 (-1)]]) rfl ?_
  dsimp only [aA, aB]
  refine aC (bE [0, -1] (by simp [eG]) (by simp)) rfl ?_
  dsimp only [aA, aB]
  refine bC (us := [[.int .i64 1]]) rfl ?_
  dsimp only [aA, aB]
  refine aC (bE [1] (by simp [eG]) (by simp)) rfl ?_
  dsimp only [aA, aB]
  refine bC (us := [[sR (cD [0, -1])], [.exact (.slice none 0 0)], [sR (cD [1])]]) rfl ?_
  dsimp only [aA, aB]
  refine bC (us := [rC (.of 1), [.int .i64 0, .exact (.slice none 0 0), .int .i64 0, .exact (.slice none 0 0)]]) rfl ?_
  dsimp only [aA, aB]
  exact cS ⟨⟨aF.Sub.slice (PC _ _), aF.Sub.same, mN rfl, aF.Sub.same, mN rfl, aF.Sub.slice Fl, trivial⟩, trivial⟩
 refine vn aX rfl ?_
 dsimp only [aA, aB]
 refine vs _ rfl (fun h29 => ?_) (fun h29 => ?_)
 ·obtain rfl : k = 4 := by omega
  refine bC (us := [[.int .i64 0], [.int .i64 2]]) rfl ?_
  dsimp only [aA, aB]
  refine aC (bE [0, 2] (by simp [eG]) (by simp)) rfl ?_
  dsimp only [aA, aB]
  refine bC (us := [[.int .i64 1]]) rfl ?_
  dsimp only [aA, aB]
  refine aC (bE [1] (by simp [eG]) (by simp)) rfl ?_
  dsimp only [aA, aB]
  refine bC (us := [[.exact (.slice none 0 0)], [sR (cD [0, 2])], [sR (cD [1])]]) rfl ?_
  dsimp only [aA, aB]
  refine bC (us := [[.int .i64 0, .exact (.slice none 0 0), .int .i64 0, .exact (.slice none 0 0)], rC (.of 1)]) rfl ?_
  dsimp only [aA, aB]
  exact cS ⟨⟨aF.Sub.slice (Eu _ _), aF.Sub.same, mN rfl, aF.Sub.same, mN rfl, aF.Sub.slice Bj, trivial⟩, trivial⟩
 refine vn aX rfl ?_
 dsimp only [aA, aB]
 refine vs _ rfl (fun h38 => ?_) (fun h38 => ?_)
 ·obtain rfl : k = 5 := by omega
  refine bC (us := [[.int .i64 1]]) rfl ?_
  dsimp only [aA, aB]
  refine aC (bE [1] (by simp [eG]) (by simp)) rfl ?_
  dsimp only [aA, aB]
  refine bC (us := [[.int .i64 1], [.int .i64 1]]) rfl ?_
  dsimp only [aA, aB]
  refine aC (bE [1, 1] (by simp [eG]) (by simp)) rfl ?_
  dsimp only [aA, aB]
  refine bC (us := [[.exact (.slice none 0 0)], [sR (cD [1])], [sR (cD [1, 1])]]) rfl ?_
  dsimp only [aA, aB]
  refine bC (us := [[.int .i64 0, .exact (.slice none 0 0), .int .i64 0, .exact (.slice none 0 0)], rC (.of 1)]) rfl ?_
  dsimp only [aA, aB]
  exact cS ⟨⟨aF.Sub.slice (Eu _ _), aF.Sub.same, mN rfl, aF.Sub.same, mN rfl, aF.Sub.slice Bj, trivial⟩, trivial⟩
 refine vn aX rfl ?_
 dsimp only [aA, aB]
 refine vs _ rfl (fun h47 => ?_) (fun h47 => ?_)
 ·obtain rfl : k = 6 := by omega
  refine bC (us := [[.int .i64 0], [.int .i64 2]]) rfl ?_
  dsimp only [aA, aB]
  refine aC (bE [0, 2] (by simp [eG]) (by simp)) rfl ?_
  dsimp only [aA, aB]
  refine bC (us := [[.int .i64 1], [.int .i64 0], [.int .i64 1]]) rfl ?_
  dsimp only [aA, aB]
  refine aC (bE [1, 0, 1] (by simp [eG]) (by simp)) rfl ?_
  dsimp only [aA, aB]
  refine bC (us := [[.exact (.slice none 0 0)], [sR (cD [0, 2])], [sR (cD [1, 0, 1])]]) rfl ?_
  dsimp only [aA, aB]
  refine bC (us := [[.int .i64 0, .exact (.slice none 0 0), .int .i64 0, .exact (.slice none 0 0)], rC (.of 1)]) rfl ?_
  dsimp only [aA, aB]
  exact cS ⟨⟨aF.Sub.slice (Eu _ _), aF.Sub.same, mN rfl, aF.Sub.same, mN rfl, aF.Sub.slice Bj, trivial⟩, trivial⟩
 refine vn aX rfl ?_
 dsimp only [aA, aB]
 refine vs _ rfl (fun h56 => ?_) (fun h56 => ?_)
 ·obtain rfl : k = 7 := by omega
  have hnn : n * (n + 1) ≤ 40 * 41 := by
   have := Int.mul_le_mul (a := n) (b := n + 1) (c := 40) (d := 41) (by omega) (by omega) (by omega) (by omega)
   omega
  have hn0 : 0 ≤ n * (n + 1) := Int.mul_nonneg (by omega) (by omega)
  refine vn (aE (by omega) (by omega)) rfl ?_
  dsimp only [aA, aB]
  refine vn (oT (c := n * (n + 1)) (cY (by omega) (by omega))) rfl ?_
  dsimp only [aA, aB]
  refine bC (us := [[.int .i64 (n * (n + 1))]]) rfl ?_
  dsimp only [aA, aB]
  refine aC (bE [n * (n + 1)] (by simp only [eG, List.mem_singleton, forall_eq]; omega) (by simp)) rfl ?_
  dsimp only [aA, aB]
  refine bC (us := [[.int .i64 0], [.int .i64 (-2)]]) rfl ?_
  dsimp only [aA, aB]
  refine aC (bE [0, -2] (by simp [eG]) (by simp)) rfl ?_
  dsimp only [aA, aB]
  refine bC (us := [[.int .i64 1], [.int .i64 0], [.int .i64 (-1)]]) rfl ?_
  dsimp only [aA, aB]
  refine aC (bE [1, 0, -1] (by simp [eG]) (by simp)) rfl ?_
  dsimp only [aA, aB]
  refine bC (us := [[sR (cD [n * (n + 1)])], [sR (cD [0, -2])], [sR (cD [1, 0, -1])]]) rfl ?_
  dsimp only [aA, aB]
  refine bC (us := [rC (.of 1), [.int .i64 0, .exact (.slice none 0 0), .int .i64 0, .exact (.slice none 0 0)]]) rfl ?_
  dsimp only [aA, aB]
  exact cS ⟨⟨aF.Sub.same, aF.Sub.same, mN rfl, aF.Sub.same, mN rfl, aF.Sub.slice Fl, trivial⟩, trivial⟩
 obtain rfl : k = 8 := by omega
 refine vn (nD (by omega) (by omega)) rfl ?_
 dsimp only [aA, aB]
 refine bC (us := [[.int .i64 (2 * n)]]) rfl ?_
 dsimp only [aA, aB]
 refine aC (bE [2 * n] (by simp only [eG, List.mem_singleton, forall_eq]; omega) (by simp)) rfl ?_
 dsimp only [aA, aB]
 refine bC (us := [[.int .i64 0], [.int .i64 (-2)]]) rfl ?_
 dsimp only [aA, aB]
 refine aC (bE [0, -2] (by simp [eG]) (by simp)) rfl ?_
 dsimp only [aA, aB]
 refine bC (us := [[.int .i64 1]]) rfl ?_
 dsimp only [aA, aB]
 refine aC (bE [1] (by simp [eG]) (by simp)) rfl ?_
 dsimp only [aA, aB]
 refine bC (us := [[sR (cD [2 * n])], [sR (cD [0, -2])], [sR (cD [1])]]) rfl ?_
 dsimp only [aA, aB]
 refine bC (us := [rC (.of 1), [.int .i64 0, .exact (.slice none 0 0), .int .i64 0, .exact (.slice none 0 0)]]) rfl ?_
 dsimp only [aA, aB]
 exact cS ⟨⟨aF.Sub.same, aF.Sub.same, mN rfl, aF.Sub.same, mN rfl, aF.Sub.slice Fl, trivial⟩, trivial⟩
abbrev sP (p : List (List bG)) : aF := .slice 1 (p.map fun l => [sN l])
def gK (p : List (List bG)) : Bool := decide (p.length ≤ 6 ∧ ∀ l ∈ p, l.length ≤ 4 ∧ ∀ x ∈ l, x.vA = true)
structure XK (p : List (List bG)) : Prop where
 l : p.length < 140737488355328
 p : ∀ l ∈ p, l.length < 140737488355328 ∧ ∀ x ∈ l, x.In
set_option maxHeartbeats 1000000 in
theorem BF (p : List (List bG)) (long : Int) (hp : XK p) : aN prog 55 [(.agg [sP p, .int .i64 long] : aH)] (.ret [.one (.bool (gK p))]) := by
 refine aD (args := [.v (some 2)]) (ins := [.v (.agg [sP p, .int .i64 long])]) (hints := (fun _ => none)) fo (by kernel_rfl) func55 ⟨rfl, trivial⟩ ?_
 rw [BI]
 dsimp only [List.map, In.env, aA, aB]
 have hpl := hp.l
 refine aY {i : Nat // i ≤ p.length ∧ ∀ j l, j < i → p[j]? = some l → l.length ≤ 4 ∧ ∀ x ∈ l, x.vA = true} (fun g => [.one (.bool false), .one (.int .i64 g.1)]) (fun g => p.length - g.1) ⟨0, Nat.zero_le _, fun j l h => by omega⟩ aL.rfl (fun _ => rfl) ?_
 rintro ⟨i, hi, hok⟩
 dsimp only [aA, aB] at hi hok ⊢
 refine vn (aK DT (List.length_map _)) rfl ?_
 dsimp only [aA, aB]
 refine vn aU rfl ?_
 dsimp only [aA, aB]
 refine vs _ rfl (fun h3 => ?_) (fun h3 => ?_)
 ·obtain ⟨l, hl⟩ : ∃ l, p[i]? = some l := ⟨_, List.getElem?_eq_getElem (by omega)⟩
  obtain ⟨hll, hlx⟩ := hp.p l (List.mem_of_getElem? hl)
  have hbad : ∀ x ∈ l, x.vA = false → gK p = false := fun x hx h => by
   unfold gK; rw [decide_eq_false_iff_not]
   rintro ⟨_, h2⟩
   rw [(h2 l (List.mem_of_getElem? hl)).2 x hx] at h; cases h
  refine vn (aR DT (by omega) (by omega) hl) rfl ?_
  dsimp only [aA, aB]
  refine vn (bA OW) rfl ?_
  dsimp only [aA, aB]
  refine vn (aK Dc (List.length_map _)) rfl ?_
  dsimp only [aA, aB]
  refine vn cT rfl ?_
  dsimp only [aA, aB]
  refine vs _ rfl (fun h8 => ?_) (fun h8 => ?_)
  ·rw [show gK p = false by
    unfold gK; rw [decide_eq_false_iff_not]
    rintro ⟨_, h2⟩
    have := (h2 l (List.mem_of_getElem? hl)).1
    omega]; exact aJ rfl
  refine aY {k : Nat // k ≤ l.length ∧ ∀ j x, j < k → l[j]? = some x → x.vA = true} (fun g => [.one (.bool false), .one (.int .i64 g.1)]) (fun g => l.length - g.1) ⟨0, Nat.zero_le _, fun j x h => by omega⟩ aL.rfl (fun _ => rfl) ?_
  rintro ⟨k, hk, hkok⟩
  dsimp only [aA, aB] at hk hkok ⊢
  refine vn (aR DT (by omega) (by omega) hl) rfl ?_
  dsimp only [aA, aB]
  refine vn (bA OW) rfl ?_
  dsimp only [aA, aB]
  refine vn (aK Dc (List.length_map _)) rfl ?_
  dsimp only [aA, aB]
  refine vn aU rfl ?_
  dsimp only [aA, aB]
  refine vs _ rfl (fun h15 => ?_) (fun h15 => ?_)
  ·refine vn (aR DT (by omega) (by omega) hl) rfl ?_
   dsimp only [aA, aB]
   refine vn (bA OW) rfl ?_
   dsimp only [aA, aB]
   obtain ⟨x, hx⟩ : ∃ x, l[k]? = some x := ⟨_, List.getElem?_eq_getElem (by omega)⟩
   have hxl := List.mem_of_getElem? hx
   have hxi := hlx x hxl
   refine vn (aR Dc (by omega) (by omega) hx) rfl ?_
   dsimp only [aA, aB]
   refine vn (cB SD (by decide) (by simp) (.inl rfl)) rfl ?_
   dsimp only [aA, aB]
   refine vn (dI (by omega) (by omega)) rfl ?_
   dsimp only [aA, aB]
   refine vn jC rfl ?_
   dsimp only [aA, aB]
   refine vs _ rfl (fun h22 => ?_) (fun h22 => ?_)
   ·rw [hbad x hxl (by unfold bG.vA; rw [decide_eq_false_iff_not]; omega)]; exact aJ rfl
   refine vn cT rfl ?_
   dsimp only [aA, aB]
   refine vs _ rfl (fun h25 => ?_) (fun h25 => ?_)
   ·rw [hbad x hxl (by unfold bG.vA; rw [decide_eq_false_iff_not]; omega)]; exact aJ rfl
   refine vn aU rfl ?_
   dsimp only [aA, aB]
   refine vs _ rfl (fun h28 => ?_) (fun h28 => ?_)
   ·rw [hbad x hxl (by unfold bG.vA; rw [decide_eq_false_iff_not]; omega)]; exact aJ rfl
   refine vn cT rfl ?_
   dsimp only [aA, aB]
   refine vs _ rfl (fun h31 => ?_) (fun h31 => ?_)
   ·rw [hbad x hxl (by unfold bG.vA; rw [decide_eq_false_iff_not]; omega)]; exact aJ rfl
   refine vn aU rfl ?_
   dsimp only [aA, aB]
   refine vs _ rfl (fun h34 => ?_) (fun h34 => ?_)
   ·rw [hbad x hxl (by unfold bG.vA; rw [decide_eq_false_iff_not]; omega)]; exact aJ rfl
   refine vn (aE (by omega) (by omega)) rfl ?_
   dsimp only [aA, aB]
   exact aO rfl ⟨⟨k + 1, by omega, fun j x' hj hx' => by
    rcases Nat.lt_or_ge j k with h | h
    ·exact hkok j x' h hx'
    ·rw [show j = k by omega, hx] at hx'; simp only [Option.some.injEq] at hx'; subst hx'
     unfold bG.vA; rw [decide_eq_true_iff]; omega⟩, aL.rfl, by show l.length - (k + 1) < l.length - k; omega⟩
  refine vn (aE (by omega) (by omega)) rfl ?_
  dsimp only [aA, aB]
  exact aO rfl ⟨⟨i + 1, by omega, fun j l' hj hl' => by
   rcases Nat.lt_or_ge j i with h | h
   ·exact hok j l' h hl'
   ·rw [show j = i by omega, hl] at hl'; simp only [Option.some.injEq] at hl'; subst hl'
    refine ⟨by omega, fun x hx => ?_⟩
    obtain ⟨m, hm⟩ := List.getElem?_of_mem hx
    exact hkok m x (by have := (List.getElem?_eq_some_iff.1 hm).1; omega) hm⟩, aL.rfl, by show p.length - (i + 1) < p.length - i; omega⟩
 refine vn (aK DT (List.length_map _)) rfl ?_
 dsimp only [aA, aB]
 refine vn jA rfl ?_
 dsimp only [aA, aB]
 rw [show gK p = decide ((p.length : Int) ≤ 6) by
  unfold gK; rw [decide_eq_decide]
  constructor
  ·rintro ⟨h, _⟩; omega
  ·intro h
   refine ⟨by omega, fun l hl => ?_⟩
   obtain ⟨m, hm⟩ := List.getElem?_of_mem hl
   exact hok m l (by have := (List.getElem?_eq_some_iff.1 hm).1; omega) hm]; exact aJ rfl
structure aZ where
 p : List (List bG)
 long : Int
 c : bG
 y : List bG
 kind : Nat
 n : Int
abbrev Ua (c : aZ) : aH := .agg [sP c.p, .int .i64 c.long, .int .i64 c.c.n, .int .i64 c.c.d, .int .u8 c.c.pow, sN c.y, .int .u8 c.kind, .int .i64 c.n]
structure aZ.In (c : aZ) : Prop where
 hp : XK c.p
 hl1 : -9223372036854775808 ≤ c.long
 hl2 : c.long < 9223372036854775808
 hc : c.c.In
 hyl : c.y.length < 140737488355328
 hy : ∀ x ∈ c.y, x.In
 hk : c.kind < 256
 hn1 : -9223372036854775808 ≤ c.n
 hn2 : c.n < 9223372036854775808
def aZ.small (c : aZ) : Bool := decide ((∀ x ∈ c.y, x.short = true) ∧ gK c.p = true ∧ c.c.short = true ∧ c.y.length ≤ 6)
theorem Io (c : aZ) (h : c.In) : aN prog 15 [(Ua c : aH)] (.ret [.one (.bool c.small)]) := by
 refine aD (args := [.v (some 8)]) (ins := [.v (Ua c)]) (hints := (fun _ => none)) fo (by kernel_rfl) func15 ⟨rfl, trivial⟩ ?_
 rw [Kk]
 dsimp only [List.map, In.env, aA, aB]
 have hyl := h.hyl
 refine aY {i : Nat // i ≤ c.y.length ∧ ∀ j x, j < i → c.y[j]? = some x → x.short = true} (fun g => [.one (.bool false), .one (.int .i64 g.1)]) (fun g => c.y.length - g.1) ⟨0, Nat.zero_le _, fun j x h => by omega⟩ aL.rfl (fun _ => rfl) ?_
 rintro ⟨i, hi, hok⟩
 dsimp only [aA, aB] at hi hok ⊢
 refine vn (aK Dc (List.length_map _)) rfl ?_
 dsimp only [aA, aB]
 refine vn aU rfl ?_
 dsimp only [aA, aB]
 refine vs _ rfl (fun h3 => ?_) (fun h3 => ?_)
 ·obtain ⟨x, hx⟩ : ∃ x, c.y[i]? = some x := ⟨_, List.getElem?_eq_getElem (by omega)⟩
  refine vn (aR Dc (by omega) (by omega) hx) rfl ?_
  dsimp only [aA, aB]
  refine vn (cB SD (by decide) (by simp) (.inl rfl)) rfl ?_
  dsimp only [aA, aB]
  refine aC (DA x (h.hy x (List.mem_of_getElem? hx))) rfl ?_
  dsimp only [aA, aB]
  refine vn qE rfl ?_
  dsimp only [aA, aB]
  refine uB (!x.short) rfl (fun h8 => ?_) (fun h8 => ?_)
  ·rw [show c.small = false by
    unfold aZ.small; rw [decide_eq_false_iff_not]
    rintro ⟨h2, _⟩
    rw [h2 x (List.mem_of_getElem? hx)] at h8; cases h8]; exact aJ rfl
  refine vn (aE (by omega) (by omega)) rfl ?_
  dsimp only [aA, aB]
  exact aO rfl ⟨⟨i + 1, by omega, fun j x' hj hx' => by
   rcases Nat.lt_or_ge j i with h | h
   ·exact hok j x' h hx'
   ·rw [show j = i by omega, hx] at hx'; simp only [Option.some.injEq] at hx'; subst hx'
    simpa using h8⟩, aL.rfl, by show c.y.length - (i + 1) < c.y.length - i; omega⟩
 have hall : ∀ x ∈ c.y, x.short = true := fun x hx => by
  obtain ⟨m, hm⟩ := List.getElem?_of_mem hx
  exact hok m x (by have := (List.getElem?_eq_some_iff.1 hm).1; omega) hm
 refine aC (BF c.p c.long h.hp) rfl ?_
 dsimp only [aA, aB]
 refine uB (gK c.p) rfl (fun h13 => ?_) (fun h13 => ?_)
 ·refine aC (DA c.c h.hc) rfl ?_
  dsimp only [aA, aB]
  refine uB c.c.short rfl (fun h15 => ?_) (fun h15 => ?_)
  ·refine vn (aK Dc (List.length_map _)) rfl ?_
   dsimp only [aA, aB]
   refine vn jA rfl ?_
   dsimp only [aA, aB]
   rw [show c.small = decide ((c.y.length : Int) ≤ 6) by
    unfold aZ.small; rw [decide_eq_decide]
    exact ⟨fun h => by have := h.2.2.2; omega, fun h => ⟨hall, h13, h15, by omega⟩⟩]; exact aJ rfl
  rw [show c.small = false by unfold aZ.small; rw [decide_eq_false_iff_not, h15]; simp]; exact aJ rfl
 rw [show c.small = false by unfold aZ.small; rw [decide_eq_false_iff_not, h13]; simp]; exact aJ rfl
end Go.Sy
