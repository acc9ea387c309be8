/- Known functions. Known functions of the reference; what is small.
-/
import Derived.Test.YtdmcadckdnnglaaGreatDoorOa
set_option linter.unusedVariables false
set_option linter.unusedSimpArgs false
namespace Go.Sy
open Go Go.Proofs Tryz Ord

def t96_15 : Tr := .back 0 [(.w (W 11 0)), (.w (W 12 0)), (.row 10)]
def t96_14 : Tr := .need (.prim [(W 4 0), (WK (1))] none) (.binOp .sub 3 (.tmp 12) (.const (I3 (1))) 3) 3 false t96_15
def t96_13 : Tr := .need (.prim [(W 3 0), (WK (1))] none) (.binOp .add 3 (.tmp 10) (.const (I3 (1))) 3) 3 false t96_14
def t96_12 : Tr := .need (.strow 9 3 (.u 4 0) 0 [(.u 8 0), (.u 8 1), (.u 8 2)]) (.store 39 (.tmp 27) (.tmp 25)) 0 false t96_13
def t96_11 : Tr := .need (.idx 9 (.u 4 0)) (.indexAddr 40 (.tmp 16) (.tmp 17)) 0 false t96_12
def t96_10 : Tr := .need (.strow 5 3 (.u 3 0) 0 [(.u 7 0), (.u 7 1), (.u 7 2)]) (.store 39 (.tmp 26) (.tmp 21)) 0 false t96_11
def t96_9 : Tr := .need (.idx 5 (.u 3 0)) (.indexAddr 40 (.tmp 14) (.tmp 15)) 0 false t96_10
def t96_8 : Tr := .need (.ldrow 5 (.u 3 0) 0 3 true) (.load 39 (.tmp 24)) 39 false t96_9
def t96_7 : Tr := .need (.idx 5 (.u 3 0)) (.indexAddr 40 (.tmp 22) (.tmp 23)) 0 false t96_8
def t96_6 : Tr := .need (.ldrow 5 (.u 4 0) 0 3 true) (.load 39 (.tmp 20)) 39 false t96_7
def t96_5 : Tr := .need (.idx 5 (.u 4 0)) (.indexAddr 40 (.tmp 18) (.tmp 19)) 0 false t96_6
def t96_16 : Tr := .retr [] 5
def t96_4 : Tr := .split (.u 6 0) t96_5 t96_16
def t96_3 : Tr := .need (.prim [(W 3 0), (W 4 0)] none) (.binOp .lss 3 (.tmp 7) (.tmp 8) 3) 4 false t96_4
def t96_2 : Tr := .loop 0 [(.w (WK (0))), (.w (W 2 0)), (.row 0)] t96_3
def t96_1 : Tr := .need (.prim [(W 1 0), (WK (1))] none) (.binOp .sub 3 (.tmp 5) (.const (I3 (1))) 3) 3 false t96_2
def t96_0 : Tr := .need (.lenrow 0) (.call ⟨.builtin .len, #[(.tmp 4)], #[40]⟩) 3 false t96_1
theorem x_sReverse : execR prog f92 (fun _ => none) [.lent 39 3] = t96_0 := by kernel_rfl
def t97_10 : Tr := .back 0 [(.w (W 10 0)), (.row 9)]
def t97_9 : Tr := .need (.prim [(W 2 0), (WK (1))] none) (.binOp .add 3 (.tmp 8) (.const (I3 (1))) 3) 3 false t97_10
def t97_8 : Tr := .need (.app 3 56 (some 3) none (some 8)) (.call ⟨.builtin .append, #[(.tmp 12), (.tmp 15)], #[72, 72]⟩) 72 false t97_9
def t97_7 : Tr := .need (.lit 3 [[(.u 7 0), (.u 7 1), (.u 7 2)]]) (.buildSlice 72 1 #[(0, (.tmp 14))]) 72 false t97_8
def t97_6 : Tr := .need (.call 68 [(W 6 0)] [(some 3)]) (.call ⟨.value (.func 68), #[(.tmp 13)], #[2]⟩) 39 true t97_7
def t97_5 : Tr := .need (.prim [(W 5 0)] none) (.load 2 (.tmp 10)) 2 false t97_6
def t97_4 : Tr := .need (.prim [(W 0 0), (W 2 0)] none) (.indexAddr 242 (.tmp 6) (.tmp 8)) 0 false t97_5
def t97_12 : Tr := .ret [(W 5 0)]
def t97_11 : Tr := .need (.call 34 [(.one (.c (.sr 3 3)))] [none]) (.call ⟨.value (.func 34), #[(.tmp 18)], #[72]⟩) 72 true t97_12
def t97_3 : Tr := .split (.u 4 0) t97_4 t97_11
def t97_2 : Tr := .need (.prim [(W 2 0), (W 1 0)] none) (.binOp .lss 3 (.tmp 8) (.tmp 7) 3) 0 false t97_3
def t97_1 : Tr := .loop 0 [(.w (WK (0))), .nilrow] t97_2
def t97_0 : Tr := .need (.prim [(W 0 0)] none) (.call ⟨.builtin .len, #[(.tmp 6)], #[242]⟩) 3 false t97_1
theorem x_ointegers : execF prog f91 (fun _ => none) [.v none] = t97_0 := by kernel_rfl
def t98_9 : Tr := .need (.prim [(W 1 0), (WK (1))] none) (.binOp .add 3 (.tmp 9) (.const (I3 (1))) 3) 3 false t97_10
def t98_8 : Tr := .need (.app 4 64 (some 2) none (some 8)) (.call ⟨.builtin .append, #[(.tmp 11), (.tmp 17)], #[167, 167]⟩) 167 false t98_9
def t98_7 : Tr := .need (.lit 4 [[(.u 7 0), (.u 7 1), (.u 7 2), (.u 7 3)]]) (.buildSlice 167 1 #[(0, (.tmp 16))]) 167 false t98_8
def t98_6 : Tr := .need (.call 50 [(W 6 0)] [(some 4)]) (.call ⟨.value (.func 50), #[(.tmp 15)], #[2]⟩) 49 true t98_7
def t98_5 : Tr := .need (.prim [(W 5 0)] none) (.load 2 (.tmp 14)) 2 false t98_6
def t98_4 : Tr := .need (.prim [(W 0 0), (W 1 0)] none) (.indexAddr 242 (.tmp 12) (.tmp 13)) 0 false t98_5
def t98_11 : Tr := .need (.call 144 [(.one (.c (.sr 4 2)))] [none]) (.call ⟨.value (.func 144), #[(.tmp 19)], #[167]⟩) 167 true t97_12
def t98_3 : Tr := .split (.u 4 0) t98_4 t98_11
def t98_2 : Tr := .need (.prim [(W 1 0), (W 3 0)] none) (.binOp .lss 3 (.tmp 5) (.tmp 7) 3) 4 false t98_3
def t98_1 : Tr := .need (.prim [(W 0 0)] none) (.call ⟨.builtin .len, #[(.tmp 6)], #[242]⟩) 3 false t98_2
def t98_0 : Tr := .loop 0 [(.w (WK (0))), .nilrow] t98_1
theorem x_Eintegers : execF prog f99 (fun _ => none) [.v none] = t98_0 := by kernel_rfl
def t99_2 : Tr := .ret [(.agg [(.c (.k (.slice none 0 0))), (.c (.k (.slice none 0 0))), (.c (.k (.bool false))), (.c (.k (.slice none 0 0))), (.c (.k (.slice none 0 0)))]), (WK (2))]
def t99_8 : Tr := .ret [(.agg [(.c (.k (.slice none 0 0))), (.c (.k (.slice none 0 0))), (.c (.k (.bool false))), (.c (.k (.slice none 0 0))), (.c (.k (.slice none 0 0)))]), (WK (3))]
def t99_23 : Tr := .ret [(.agg [(.c (.sr 1 13)), (.c (.k (.slice none 0 0))), (.c (.k (.bool false))), (.c (.k (.slice none 0 0))), (.c (.sr 3 15))]), (WK (0))]
def t99_22 : Tr := .need (.lit 3 [[(.u 14 0), (.u 14 1), (.u 14 2)]]) (.buildSlice 40 1 #[(0, (.tmp 35))]) 40 false t99_23
def t99_21 : Tr := .need (.call 68 [(WK (1))] [(some 3)]) (.call ⟨.value (.func 68), #[(.const (I3 (1)))], #[2]⟩) 39 false t99_22
def t99_20 : Tr := .need (.lit 1 [[(.u 10 0)], [(.u 12 0)]]) (.buildSlice 32 2 #[(0, (.tmp 31)), (1, (.tmp 33))]) 32 false t99_21
def t99_19 : Tr := .need (.call 91 [(.one (.c (.sr 1 11)))] [none]) (.call ⟨.value (.func 91), #[(.tmp 32)], #[242]⟩) 72 false t99_20
def t99_18 : Tr := .need (.lit 1 [[(.k (.int .i64 (1)))]]) (.buildSlice 242 1 #[(0, (.const (I3 (1))))]) 242 false t99_19
def t99_17 : Tr := .need (.call 91 [(.one (.c (.sr 1 9)))] [none]) (.call ⟨.value (.func 91), #[(.tmp 30)], #[242]⟩) 72 false t99_18
def t99_16 : Tr := .need (.lit 1 [[(.k (.int .i64 (-1)))]]) (.buildSlice 242 1 #[(0, (.const (I3 (-1))))]) 242 false t99_17
def t99_34 : Tr := .ret [(.agg [(.c (.sr 1 14)), (.c (.k (.slice none 0 0))), (.c (.k (.bool false))), (.c (.k (.slice none 0 0))), (.c (.sr 3 16))]), (WK (0))]
def t99_33 : Tr := .need (.rop 7 39 3 none [] [] []) (.call ⟨.value (.func 92), #[(.tmp 111)], #[40]⟩) 0 true t99_34
def t99_38 : Tr := .ret [(.agg [(.c (.sr 1 14)), (.c (.k (.slice none 0 0))), (.c (.k (.bool false))), (.c (.k (.slice none 0 0))), (.c (.sr 3 17))]), (WK (0))]
def t99_37 : Tr := .need (.rop 7 39 3 none [] [] []) (.call ⟨.value (.func 92), #[(.tmp 111)], #[40]⟩) 0 true t99_38
def t99_39 : Tr := .ret [(.agg [(.c (.sr 1 14)), (.c (.k (.slice none 0 0))), (.c (.k (.bool false))), (.c (.k (.slice none 0 0))), (.c (.sr 3 7))]), (WK (0))]
def t99_36 : Tr := .split (.u 16 0) t99_37 t99_39
def t99_35 : Tr := .need (.prim [(W 0 0), (.one (.c (.k (.int .u8 (7)))))] none) (.binOp .geq 5 (.tmp 107) (.const (.int .u8 (7))) 5) 4 false t99_36
def t99_32 : Tr := .split (.u 15 0) t99_33 t99_35
def t99_31 : Tr := .need (.prim [(W 0 0), (.one (.c (.k (.int .u8 (3)))))] none) (.binOp .eql 5 (.tmp 104) (.const (.int .u8 (3))) 5) 4 false t99_32
def t99_30 : Tr := .need (.lit 1 [[(.u 11 0)], [(.k (.slice none 0 0))], [(.u 13 0)]]) (.buildSlice 32 3 #[(0, (.tmp 41)), (1, (.const (.slice none 0 0))), (2, (.tmp 43))]) 32 false t99_31
def t99_29 : Tr := .need (.call 91 [(.one (.c (.sr 1 12)))] [none]) (.call ⟨.value (.func 91), #[(.tmp 42)], #[242]⟩) 72 true t99_30
def t99_28 : Tr := .need (.lit 1 [[(.k (.int .i64 (1)))]]) (.buildSlice 242 1 #[(0, (.const (I3 (1))))]) 242 false t99_29
def t99_27 : Tr := .need (.call 91 [(.one (.c (.sr 1 10)))] [none]) (.call ⟨.value (.func 91), #[(.tmp 40)], #[242]⟩) 72 false t99_28
def t99_26 : Tr := .need (.lit 1 [[(.k (.int .i64 (1)))]]) (.buildSlice 242 1 #[(0, (.const (I3 (1))))]) 242 false t99_27
def t99_50 : Tr := .ret [(.agg [(.c (.sr 1 15)), (.c (.k (.slice none 0 0))), (.c (.k (.bool false))), (.c (.k (.slice none 0 0))), (.c (.sr 3 17))]), (WK (0))]
def t99_49 : Tr := .need (.rop 7 39 3 none [] [] []) (.call ⟨.value (.func 92), #[(.tmp 111)], #[40]⟩) 0 true t99_50
def t99_54 : Tr := .ret [(.agg [(.c (.sr 1 15)), (.c (.k (.slice none 0 0))), (.c (.k (.bool false))), (.c (.k (.slice none 0 0))), (.c (.sr 3 18))]), (WK (0))]
def t99_53 : Tr := .need (.rop 7 39 3 none [] [] []) (.call ⟨.value (.func 92), #[(.tmp 111)], #[40]⟩) 0 true t99_54
def t99_55 : Tr := .ret [(.agg [(.c (.sr 1 15)), (.c (.k (.slice none 0 0))), (.c (.k (.bool false))), (.c (.k (.slice none 0 0))), (.c (.sr 3 7))]), (WK (0))]
def t99_52 : Tr := .split (.u 17 0) t99_53 t99_55
def t99_51 : Tr := .need (.prim [(W 0 0), (.one (.c (.k (.int .u8 (7)))))] none) (.binOp .geq 5 (.tmp 107) (.const (.int .u8 (7))) 5) 4 false t99_52
def t99_48 : Tr := .split (.u 16 0) t99_49 t99_51
def t99_47 : Tr := .need (.prim [(W 0 0), (.one (.c (.k (.int .u8 (3)))))] none) (.binOp .eql 5 (.tmp 104) (.const (.int .u8 (3))) 5) 4 false t99_48
def t99_46 : Tr := .need (.lit 1 [[(.u 12 0)], [(.k (.slice none 0 0))], [(.u 14 0)]]) (.buildSlice 32 3 #[(0, (.tmp 49)), (1, (.const (.slice none 0 0))), (2, (.tmp 51))]) 32 false t99_47
def t99_45 : Tr := .need (.call 91 [(.one (.c (.sr 1 13)))] [none]) (.call ⟨.value (.func 91), #[(.tmp 50)], #[242]⟩) 72 true t99_46
def t99_44 : Tr := .need (.lit 1 [[(.k (.int .i64 (1)))]]) (.buildSlice 242 1 #[(0, (.const (I3 (1))))]) 242 false t99_45
def t99_43 : Tr := .need (.call 91 [(.one (.c (.sr 1 11)))] [none]) (.call ⟨.value (.func 91), #[(.tmp 48)], #[242]⟩) 72 false t99_44
def t99_42 : Tr := .need (.lit 1 [[(.k (.int .i64 (0)))], [(.k (.int .i64 (-1)))]]) (.buildSlice 242 2 #[(0, (.const (I3 (0)))), (1, (.const (I3 (-1))))]) 242 false t99_43
def t99_66 : Tr := .ret [(.agg [(.c (.sr 1 16)), (.c (.k (.slice none 0 0))), (.c (.k (.bool false))), (.c (.k (.slice none 0 0))), (.c (.sr 3 18))]), (WK (0))]
def t99_65 : Tr := .need (.rop 7 39 3 none [] [] []) (.call ⟨.value (.func 92), #[(.tmp 111)], #[40]⟩) 0 true t99_66
def t99_70 : Tr := .ret [(.agg [(.c (.sr 1 16)), (.c (.k (.slice none 0 0))), (.c (.k (.bool false))), (.c (.k (.slice none 0 0))), (.c (.sr 3 19))]), (WK (0))]
def t99_69 : Tr := .need (.rop 7 39 3 none [] [] []) (.call ⟨.value (.func 92), #[(.tmp 111)], #[40]⟩) 0 true t99_70
def t99_71 : Tr := .ret [(.agg [(.c (.sr 1 16)), (.c (.k (.slice none 0 0))), (.c (.k (.bool false))), (.c (.k (.slice none 0 0))), (.c (.sr 3 7))]), (WK (0))]
def t99_68 : Tr := .split (.u 18 0) t99_69 t99_71
def t99_67 : Tr := .need (.prim [(W 0 0), (.one (.c (.k (.int .u8 (7)))))] none) (.binOp .geq 5 (.tmp 107) (.const (.int .u8 (7))) 5) 4 false t99_68
def t99_64 : Tr := .split (.u 17 0) t99_65 t99_67
def t99_63 : Tr := .need (.prim [(W 0 0), (.one (.c (.k (.int .u8 (3)))))] none) (.binOp .eql 5 (.tmp 104) (.const (.int .u8 (3))) 5) 4 false t99_64
def t99_62 : Tr := .need (.lit 1 [[(.k (.slice none 0 0))], [(.u 13 0)], [(.u 15 0)]]) (.buildSlice 32 3 #[(0, (.const (.slice none 0 0))), (1, (.tmp 57)), (2, (.tmp 59))]) 32 false t99_63
def t99_61 : Tr := .need (.call 91 [(.one (.c (.sr 1 14)))] [none]) (.call ⟨.value (.func 91), #[(.tmp 58)], #[242]⟩) 72 true t99_62
def t99_60 : Tr := .need (.lit 1 [[(.k (.int .i64 (1)))]]) (.buildSlice 242 1 #[(0, (.const (I3 (1))))]) 242 false t99_61
def t99_59 : Tr := .need (.call 91 [(.one (.c (.sr 1 12)))] [none]) (.call ⟨.value (.func 91), #[(.tmp 56)], #[242]⟩) 72 false t99_60
def t99_58 : Tr := .need (.lit 1 [[(.k (.int .i64 (0)))], [(.k (.int .i64 (2)))]]) (.buildSlice 242 2 #[(0, (.const (I3 (0)))), (1, (.const (I3 (2))))]) 242 false t99_59
def t99_82 : Tr := .ret [(.agg [(.c (.sr 1 17)), (.c (.k (.slice none 0 0))), (.c (.k (.bool false))), (.c (.k (.slice none 0 0))), (.c (.sr 3 19))]), (WK (0))]
def t99_81 : Tr := .need (.rop 7 39 3 none [] [] []) (.call ⟨.value (.func 92), #[(.tmp 111)], #[40]⟩) 0 true t99_82
def t99_86 : Tr := .ret [(.agg [(.c (.sr 1 17)), (.c (.k (.slice none 0 0))), (.c (.k (.bool false))), (.c (.k (.slice none 0 0))), (.c (.sr 3 20))]), (WK (0))]
def t99_85 : Tr := .need (.rop 7 39 3 none [] [] []) (.call ⟨.value (.func 92), #[(.tmp 111)], #[40]⟩) 0 true t99_86
def t99_87 : Tr := .ret [(.agg [(.c (.sr 1 17)), (.c (.k (.slice none 0 0))), (.c (.k (.bool false))), (.c (.k (.slice none 0 0))), (.c (.sr 3 7))]), (WK (0))]
def t99_84 : Tr := .split (.u 19 0) t99_85 t99_87
def t99_83 : Tr := .need (.prim [(W 0 0), (.one (.c (.k (.int .u8 (7)))))] none) (.binOp .geq 5 (.tmp 107) (.const (.int .u8 (7))) 5) 4 false t99_84
def t99_80 : Tr := .split (.u 18 0) t99_81 t99_83
def t99_79 : Tr := .need (.prim [(W 0 0), (.one (.c (.k (.int .u8 (3)))))] none) (.binOp .eql 5 (.tmp 104) (.const (.int .u8 (3))) 5) 4 false t99_80
def t99_78 : Tr := .need (.lit 1 [[(.k (.slice none 0 0))], [(.u 14 0)], [(.u 16 0)]]) (.buildSlice 32 3 #[(0, (.const (.slice none 0 0))), (1, (.tmp 65)), (2, (.tmp 67))]) 32 false t99_79
def t99_77 : Tr := .need (.call 91 [(.one (.c (.sr 1 15)))] [none]) (.call ⟨.value (.func 91), #[(.tmp 66)], #[242]⟩) 72 true t99_78
def t99_76 : Tr := .need (.lit 1 [[(.k (.int .i64 (1)))], [(.k (.int .i64 (1)))]]) (.buildSlice 242 2 #[(0, (.const (I3 (1)))), (1, (.const (I3 (1))))]) 242 false t99_77
def t99_75 : Tr := .need (.call 91 [(.one (.c (.sr 1 13)))] [none]) (.call ⟨.value (.func 91), #[(.tmp 64)], #[242]⟩) 72 false t99_76
def t99_74 : Tr := .need (.lit 1 [[(.k (.int .i64 (1)))]]) (.buildSlice 242 1 #[(0, (.const (I3 (1))))]) 242 false t99_75
def t99_98 : Tr := .ret [(.agg [(.c (.sr 1 18)), (.c (.k (.slice none 0 0))), (.c (.k (.bool false))), (.c (.k (.slice none 0 0))), (.c (.sr 3 20))]), (WK (0))]
def t99_97 : Tr := .need (.rop 7 39 3 none [] [] []) (.call ⟨.value (.func 92), #[(.tmp 111)], #[40]⟩) 0 true t99_98
def t99_102 : Tr := .ret [(.agg [(.c (.sr 1 18)), (.c (.k (.slice none 0 0))), (.c (.k (.bool false))), (.c (.k (.slice none 0 0))), (.c (.sr 3 21))]), (WK (0))]
def t99_101 : Tr := .need (.rop 7 39 3 none [] [] []) (.call ⟨.value (.func 92), #[(.tmp 111)], #[40]⟩) 0 true t99_102
def t99_103 : Tr := .ret [(.agg [(.c (.sr 1 18)), (.c (.k (.slice none 0 0))), (.c (.k (.bool false))), (.c (.k (.slice none 0 0))), (.c (.sr 3 7))]), (WK (0))]
def t99_100 : Tr := .split (.u 20 0) t99_101 t99_103
def t99_99 : Tr := .need (.prim [(W 0 0), (.one (.c (.k (.int .u8 (7)))))] none) (.binOp .geq 5 (.tmp 107) (.const (.int .u8 (7))) 5) 4 false t99_100
def t99_96 : Tr := .split (.u 19 0) t99_97 t99_99
def t99_95 : Tr := .need (.prim [(W 0 0), (.one (.c (.k (.int .u8 (3)))))] none) (.binOp .eql 5 (.tmp 104) (.const (.int .u8 (3))) 5) 4 false t99_96
def t99_94 : Tr := .need (.lit 1 [[(.k (.slice none 0 0))], [(.u 15 0)], [(.u 17 0)]]) (.buildSlice 32 3 #[(0, (.const (.slice none 0 0))), (1, (.tmp 73)), (2, (.tmp 75))]) 32 false t99_95
def t99_93 : Tr := .need (.call 91 [(.one (.c (.sr 1 16)))] [none]) (.call ⟨.value (.func 91), #[(.tmp 74)], #[242]⟩) 72 true t99_94
def t99_92 : Tr := .need (.lit 1 [[(.k (.int .i64 (1)))], [(.k (.int .i64 (0)))], [(.k (.int .i64 (1)))]]) (.buildSlice 242 3 #[(0, (.const (I3 (1)))), (1, (.const (I3 (0)))), (2, (.const (I3 (1))))]) 242 false t99_93
def t99_91 : Tr := .need (.call 91 [(.one (.c (.sr 1 14)))] [none]) (.call ⟨.value (.func 91), #[(.tmp 72)], #[242]⟩) 72 false t99_92
def t99_90 : Tr := .need (.lit 1 [[(.k (.int .i64 (0)))], [(.k (.int .i64 (2)))]]) (.buildSlice 242 2 #[(0, (.const (I3 (0)))), (1, (.const (I3 (2))))]) 242 false t99_91
def t99_118 : Tr := .ret [(.agg [(.c (.sr 1 23)), (.c (.k (.slice none 0 0))), (.c (.k (.bool false))), (.c (.k (.slice none 0 0))), (.c (.sr 3 25))]), (WK (0))]
def t99_117 : Tr := .need (.rop 7 39 3 none [] [] []) (.call ⟨.value (.func 92), #[(.tmp 111)], #[40]⟩) 0 true t99_118
def t99_122 : Tr := .ret [(.agg [(.c (.sr 1 23)), (.c (.k (.slice none 0 0))), (.c (.k (.bool false))), (.c (.k (.slice none 0 0))), (.c (.sr 3 26))]), (WK (0))]
def t99_121 : Tr := .need (.rop 7 39 3 none [] [] []) (.call ⟨.value (.func 92), #[(.tmp 111)], #[40]⟩) 0 true t99_122
def t99_123 : Tr := .ret [(.agg [(.c (.sr 1 23)), (.c (.k (.slice none 0 0))), (.c (.k (.bool false))), (.c (.k (.slice none 0 0))), (.c (.sr 3 7))]), (WK (0))]
def t99_120 : Tr := .split (.u 25 0) t99_121 t99_123
def t99_119 : Tr := .need (.prim [(W 0 0), (.one (.c (.k (.int .u8 (7)))))] none) (.binOp .geq 5 (.tmp 107) (.const (.int .u8 (7))) 5) 4 false t99_120
def t99_116 : Tr := .split (.u 24 0) t99_117 t99_119
def t99_115 : Tr := .need (.prim [(W 0 0), (.one (.c (.k (.int .u8 (3)))))] none) (.binOp .eql 5 (.tmp 104) (.const (.int .u8 (3))) 5) 4 false t99_116
def t99_114 : Tr := .need (.lit 1 [[(.u 18 0)], [(.u 20 0)], [(.u 22 0)]]) (.buildSlice 32 3 #[(0, (.tmp 85)), (1, (.tmp 87)), (2, (.tmp 89))]) 32 false t99_115
def t99_113 : Tr := .need (.call 91 [(.one (.c (.sr 1 21)))] [none]) (.call ⟨.value (.func 91), #[(.tmp 88)], #[242]⟩) 72 true t99_114
def t99_112 : Tr := .need (.lit 1 [[(.k (.int .i64 (1)))], [(.k (.int .i64 (0)))], [(.k (.int .i64 (-1)))]]) (.buildSlice 242 3 #[(0, (.const (I3 (1)))), (1, (.const (I3 (0)))), (2, (.const (I3 (-1))))]) 242 false t99_113
def t99_111 : Tr := .need (.call 91 [(.one (.c (.sr 1 19)))] [none]) (.call ⟨.value (.func 91), #[(.tmp 86)], #[242]⟩) 72 false t99_112
def t99_110 : Tr := .need (.lit 1 [[(.k (.int .i64 (0)))], [(.k (.int .i64 (-2)))]]) (.buildSlice 242 2 #[(0, (.const (I3 (0)))), (1, (.const (I3 (-2))))]) 242 false t99_111
def t99_109 : Tr := .need (.call 91 [(.one (.c (.sr 1 17)))] [none]) (.call ⟨.value (.func 91), #[(.tmp 84)], #[242]⟩) 72 false t99_110
def t99_108 : Tr := .need (.lit 1 [[(.u 16 0)]]) (.buildSlice 242 1 #[(0, (.tmp 83))]) 242 false t99_109
def t99_107 : Tr := .need (.prim [(W 1 0), (W 15 0)] none) (.binOp .mul 2 (.tmp 80) (.tmp 82) 2) 2 false t99_108
def t99_106 : Tr := .need (.prim [(W 1 0), (WK (1))] none) (.binOp .add 2 (.tmp 81) (.const (I3 (1))) 2) 2 false t99_107
def t99_133 : Tr := .need (.lit 1 [[(.u 18 0)], [(.u 20 0)], [(.u 22 0)]]) (.buildSlice 32 3 #[(0, (.tmp 97)), (1, (.tmp 99)), (2, (.tmp 101))]) 32 false t99_115
def t99_132 : Tr := .need (.call 91 [(.one (.c (.sr 1 21)))] [none]) (.call ⟨.value (.func 91), #[(.tmp 100)], #[242]⟩) 72 true t99_133
def t99_131 : Tr := .need (.lit 1 [[(.k (.int .i64 (1)))]]) (.buildSlice 242 1 #[(0, (.const (I3 (1))))]) 242 false t99_132
def t99_130 : Tr := .need (.call 91 [(.one (.c (.sr 1 19)))] [none]) (.call ⟨.value (.func 91), #[(.tmp 98)], #[242]⟩) 72 false t99_131
def t99_129 : Tr := .need (.lit 1 [[(.k (.int .i64 (0)))], [(.k (.int .i64 (-2)))]]) (.buildSlice 242 2 #[(0, (.const (I3 (0)))), (1, (.const (I3 (-2))))]) 242 false t99_130
def t99_128 : Tr := .need (.call 91 [(.one (.c (.sr 1 17)))] [none]) (.call ⟨.value (.func 91), #[(.tmp 96)], #[242]⟩) 72 false t99_129
def t99_127 : Tr := .need (.lit 1 [[(.u 16 0)]]) (.buildSlice 242 1 #[(0, (.tmp 95))]) 242 false t99_128
def t99_126 : Tr := .need (.prim [(WK (2)), (W 1 0)] none) (.binOp .mul 2 (.const (I3 (2))) (.tmp 94) 2) 2 false t99_127
def t99_146 : Tr := .ret [(.agg [(.c (.k (.slice none 0 0))), (.c (.k (.slice none 0 0))), (.c (.k (.bool false))), (.c (.k (.slice none 0 0))), (.c (.sr 3 17))]), (WK (0))]
def t99_145 : Tr := .need (.rop 7 39 3 none [] [] []) (.call ⟨.value (.func 92), #[(.tmp 111)], #[40]⟩) 0 true t99_146
def t99_150 : Tr := .ret [(.agg [(.c (.k (.slice none 0 0))), (.c (.k (.slice none 0 0))), (.c (.k (.bool false))), (.c (.k (.slice none 0 0))), (.c (.sr 3 18))]), (WK (0))]
def t99_149 : Tr := .need (.rop 7 39 3 none [] [] []) (.call ⟨.value (.func 92), #[(.tmp 111)], #[40]⟩) 0 true t99_150
def t99_151 : Tr := .ret [(.agg [(.c (.k (.slice none 0 0))), (.c (.k (.slice none 0 0))), (.c (.k (.bool false))), (.c (.k (.slice none 0 0))), (.c (.sr 3 7))]), (WK (0))]
def t99_148 : Tr := .split (.u 17 0) t99_149 t99_151
def t99_147 : Tr := .need (.prim [(W 0 0), (.one (.c (.k (.int .u8 (7)))))] none) (.binOp .geq 5 (.tmp 107) (.const (.int .u8 (7))) 5) 4 false t99_148
def t99_144 : Tr := .split (.u 16 0) t99_145 t99_147
def t99_143 : Tr := .need (.prim [(W 0 0), (.one (.c (.k (.int .u8 (3)))))] none) (.binOp .eql 5 (.tmp 104) (.const (.int .u8 (3))) 5) 4 false t99_144
def t99_125 : Tr := .split (.u 15 0) t99_126 t99_143
def t99_124 : Tr := .need (.prim [(W 0 0), (.one (.c (.k (.int .u8 (8)))))] none) (.binOp .eql 5 (.tmp 27) (.const (.int .u8 (8))) 5) 4 false t99_125
def t99_105 : Tr := .split (.u 14 0) t99_106 t99_124
def t99_104 : Tr := .need (.prim [(W 0 0), (.one (.c (.k (.int .u8 (7)))))] none) (.binOp .eql 5 (.tmp 27) (.const (.int .u8 (7))) 5) 4 false t99_105
def t99_89 : Tr := .split (.u 13 0) t99_90 t99_104
def t99_88 : Tr := .need (.prim [(W 0 0), (.one (.c (.k (.int .u8 (6)))))] none) (.binOp .eql 5 (.tmp 27) (.const (.int .u8 (6))) 5) 4 false t99_89
def t99_73 : Tr := .split (.u 12 0) t99_74 t99_88
def t99_72 : Tr := .need (.prim [(W 0 0), (.one (.c (.k (.int .u8 (5)))))] none) (.binOp .eql 5 (.tmp 27) (.const (.int .u8 (5))) 5) 4 false t99_73
def t99_57 : Tr := .split (.u 11 0) t99_58 t99_72
def t99_56 : Tr := .need (.prim [(W 0 0), (.one (.c (.k (.int .u8 (4)))))] none) (.binOp .eql 5 (.tmp 27) (.const (.int .u8 (4))) 5) 4 false t99_57
def t99_41 : Tr := .split (.u 10 0) t99_42 t99_56
def t99_40 : Tr := .need (.prim [(W 0 0), (.one (.c (.k (.int .u8 (3)))))] none) (.binOp .eql 5 (.tmp 27) (.const (.int .u8 (3))) 5) 4 false t99_41
def t99_25 : Tr := .split (.u 9 0) t99_26 t99_40
def t99_24 : Tr := .need (.prim [(W 0 0), (.one (.c (.k (.int .u8 (2)))))] none) (.binOp .eql 5 (.tmp 27) (.const (.int .u8 (2))) 5) 4 false t99_25
def t99_15 : Tr := .split (.u 8 0) t99_16 t99_24
def t99_14 : Tr := .need (.prim [(W 0 0), (.one (.c (.k (.int .u8 (1)))))] none) (.binOp .eql 5 (.tmp 27) (.const (.int .u8 (1))) 5) 4 false t99_15
def t99_13 : Tr := .need (.lit 3 [[(.k (.slice none 0 0)), (.k (.bool false)), (.k (.slice none 0 0))], [(.u 6 0), (.u 6 1), (.u 6 2)]]) (.buildSlice 40 2 #[(0, (.tmp 23)), (1, (.tmp 24))]) 40 false t99_14
def t99_12 : Tr := .need (.call 68 [(WK (1))] [(some 3)]) (.call ⟨.value (.func 68), #[(.const (I3 (1)))], #[2]⟩) 39 false t99_13
def t99_10 : Tr := .split (.u 5 0) t99_8 t99_12
def t99_9 : Tr := .need (.prim [(W 1 0), (WK (40))] none) (.binOp .gtr 3 (.tmp 18) (.const (I3 (40))) 3) 4 false t99_10
def t99_7 : Tr := .split (.u 4 0) t99_8 t99_9
def t99_6 : Tr := .need (.prim [(W 1 0), (WK (0))] none) (.binOp .lss 3 (.tmp 15) (.const (I3 (0))) 3) 4 false t99_7
def t99_4 : Tr := .split (.u 3 0) t99_2 t99_6
def t99_3 : Tr := .need (.prim [(W 0 0), (.one (.c (.k (.int .u8 (8)))))] none) (.binOp .gtr 5 (.tmp 11) (.const (.int .u8 (8))) 5) 4 false t99_4
def t99_1 : Tr := .split (.u 2 0) t99_2 t99_3
def t99_0 : Tr := .need (.prim [(W 0 0), (.one (.c (.k (.int .u8 (1)))))] none) (.binOp .lss 5 (.tmp 8) (.const (.int .u8 (1))) 5) 4 false t99_1
theorem x_oKnown : execF prog f18 (fun _ => none) [.v none, .v none] = t99_0 := by kernel_rfl
def t100_9 : Tr := .ret [(.agg [(.c (.sr 1 8)), (.c (.k (.int .i64 (0)))), (.c (.k (.slice none 0 0))), (.c (.k (.int .i64 (0)))), (.c (.k (.slice none 0 0))), (.c (.sr 4 9))])]
def t100_8 : Tr := .need (.lit 4 [[(.u 2 0), (.u 2 1), (.u 2 2), (.u 2 3)]]) (.buildSlice 50 1 #[(0, (.tmp 19))]) 50 false t100_9
def t100_7 : Tr := .need (.lit 1 [[(.u 5 0)], [(.u 7 0)]]) (.buildSlice 44 2 #[(0, (.tmp 15)), (1, (.tmp 17))]) 44 false t100_8
def t100_6 : Tr := .need (.call 99 [(.one (.c (.sr 1 6)))] [none]) (.call ⟨.value (.func 99), #[(.tmp 16)], #[242]⟩) 167 false t100_7
def t100_5 : Tr := .need (.lit 1 [[(.k (.int .i64 (1)))]]) (.buildSlice 242 1 #[(0, (.const (I3 (1))))]) 242 false t100_6
def t100_4 : Tr := .need (.call 99 [(.one (.c (.sr 1 4)))] [none]) (.call ⟨.value (.func 99), #[(.tmp 14)], #[242]⟩) 167 false t100_5
def t100_3 : Tr := .need (.lit 1 [[(.k (.int .i64 (-1)))]]) (.buildSlice 242 1 #[(0, (.const (I3 (-1))))]) 242 false t100_4
def t100_18 : Tr := .ret [(.agg [(.c (.sr 1 9)), (.c (.k (.int .i64 (0)))), (.c (.k (.slice none 0 0))), (.c (.k (.int .i64 (0)))), (.c (.k (.slice none 0 0))), (.c (.sr 4 10))])]
def t100_17 : Tr := .need (.lit 4 [[(.k (.int .i64 (0))), (.k (.slice none 0 0)), (.k (.int .i64 (0))), (.k (.slice none 0 0))], [(.u 2 0), (.u 2 1), (.u 2 2), (.u 2 3)]]) (.buildSlice 50 2 #[(0, (.tmp 29)), (1, (.tmp 30))]) 50 false t100_18
def t100_16 : Tr := .need (.lit 1 [[(.u 6 0)], [(.k (.slice none 0 0))], [(.u 8 0)]]) (.buildSlice 44 3 #[(0, (.tmp 25)), (1, (.const (.slice none 0 0))), (2, (.tmp 27))]) 44 false t100_17
def t100_15 : Tr := .need (.call 99 [(.one (.c (.sr 1 7)))] [none]) (.call ⟨.value (.func 99), #[(.tmp 26)], #[242]⟩) 167 false t100_16
def t100_14 : Tr := .need (.lit 1 [[(.k (.int .i64 (1)))]]) (.buildSlice 242 1 #[(0, (.const (I3 (1))))]) 242 false t100_15
def t100_13 : Tr := .need (.call 99 [(.one (.c (.sr 1 5)))] [none]) (.call ⟨.value (.func 99), #[(.tmp 24)], #[242]⟩) 167 false t100_14
def t100_12 : Tr := .need (.lit 1 [[(.k (.int .i64 (1)))]]) (.buildSlice 242 1 #[(0, (.const (I3 (1))))]) 242 false t100_13
def t100_27 : Tr := .ret [(.agg [(.c (.sr 1 10)), (.c (.k (.int .i64 (0)))), (.c (.k (.slice none 0 0))), (.c (.k (.int .i64 (0)))), (.c (.k (.slice none 0 0))), (.c (.sr 4 11))])]
def t100_26 : Tr := .need (.lit 4 [[(.u 2 0), (.u 2 1), (.u 2 2), (.u 2 3)], [(.k (.int .i64 (0))), (.k (.slice none 0 0)), (.k (.int .i64 (0))), (.k (.slice none 0 0))]]) (.buildSlice 50 2 #[(0, (.tmp 40)), (1, (.tmp 41))]) 50 false t100_27
def t100_25 : Tr := .need (.lit 1 [[(.u 7 0)], [(.k (.slice none 0 0))], [(.u 9 0)]]) (.buildSlice 44 3 #[(0, (.tmp 36)), (1, (.const (.slice none 0 0))), (2, (.tmp 38))]) 44 false t100_26
def t100_24 : Tr := .need (.call 99 [(.one (.c (.sr 1 8)))] [none]) (.call ⟨.value (.func 99), #[(.tmp 37)], #[242]⟩) 167 false t100_25
def t100_23 : Tr := .need (.lit 1 [[(.k (.int .i64 (1)))]]) (.buildSlice 242 1 #[(0, (.const (I3 (1))))]) 242 false t100_24
def t100_22 : Tr := .need (.call 99 [(.one (.c (.sr 1 6)))] [none]) (.call ⟨.value (.func 99), #[(.tmp 35)], #[242]⟩) 167 false t100_23
def t100_21 : Tr := .need (.lit 1 [[(.k (.int .i64 (0)))], [(.k (.int .i64 (-1)))]]) (.buildSlice 242 2 #[(0, (.const (I3 (0)))), (1, (.const (I3 (-1))))]) 242 false t100_22
def t100_36 : Tr := .ret [(.agg [(.c (.sr 1 11)), (.c (.k (.int .i64 (0)))), (.c (.k (.slice none 0 0))), (.c (.k (.int .i64 (0)))), (.c (.k (.slice none 0 0))), (.c (.sr 4 12))])]
def t100_35 : Tr := .need (.lit 4 [[(.k (.int .i64 (0))), (.k (.slice none 0 0)), (.k (.int .i64 (0))), (.k (.slice none 0 0))], [(.u 2 0), (.u 2 1), (.u 2 2), (.u 2 3)]]) (.buildSlice 50 2 #[(0, (.tmp 51)), (1, (.tmp 52))]) 50 false t100_36
def t100_34 : Tr := .need (.lit 1 [[(.k (.slice none 0 0))], [(.u 8 0)], [(.u 10 0)]]) (.buildSlice 44 3 #[(0, (.const (.slice none 0 0))), (1, (.tmp 47)), (2, (.tmp 49))]) 44 false t100_35
def t100_33 : Tr := .need (.call 99 [(.one (.c (.sr 1 9)))] [none]) (.call ⟨.value (.func 99), #[(.tmp 48)], #[242]⟩) 167 false t100_34
def t100_32 : Tr := .need (.lit 1 [[(.k (.int .i64 (1)))]]) (.buildSlice 242 1 #[(0, (.const (I3 (1))))]) 242 false t100_33
def t100_31 : Tr := .need (.call 99 [(.one (.c (.sr 1 7)))] [none]) (.call ⟨.value (.func 99), #[(.tmp 46)], #[242]⟩) 167 false t100_32
def t100_30 : Tr := .need (.lit 1 [[(.k (.int .i64 (0)))], [(.k (.int .i64 (2)))]]) (.buildSlice 242 2 #[(0, (.const (I3 (0)))), (1, (.const (I3 (2))))]) 242 false t100_31
def t100_45 : Tr := .ret [(.agg [(.c (.sr 1 12)), (.c (.k (.int .i64 (0)))), (.c (.k (.slice none 0 0))), (.c (.k (.int .i64 (0)))), (.c (.k (.slice none 0 0))), (.c (.sr 4 13))])]
def t100_44 : Tr := .need (.lit 4 [[(.k (.int .i64 (0))), (.k (.slice none 0 0)), (.k (.int .i64 (0))), (.k (.slice none 0 0))], [(.u 2 0), (.u 2 1), (.u 2 2), (.u 2 3)]]) (.buildSlice 50 2 #[(0, (.tmp 62)), (1, (.tmp 63))]) 50 false t100_45
def t100_43 : Tr := .need (.lit 1 [[(.k (.slice none 0 0))], [(.u 9 0)], [(.u 11 0)]]) (.buildSlice 44 3 #[(0, (.const (.slice none 0 0))), (1, (.tmp 58)), (2, (.tmp 60))]) 44 false t100_44
def t100_42 : Tr := .need (.call 99 [(.one (.c (.sr 1 10)))] [none]) (.call ⟨.value (.func 99), #[(.tmp 59)], #[242]⟩) 167 false t100_43
def t100_41 : Tr := .need (.lit 1 [[(.k (.int .i64 (1)))], [(.k (.int .i64 (1)))]]) (.buildSlice 242 2 #[(0, (.const (I3 (1)))), (1, (.const (I3 (1))))]) 242 false t100_42
def t100_40 : Tr := .need (.call 99 [(.one (.c (.sr 1 8)))] [none]) (.call ⟨.value (.func 99), #[(.tmp 57)], #[242]⟩) 167 false t100_41
def t100_39 : Tr := .need (.lit 1 [[(.k (.int .i64 (1)))]]) (.buildSlice 242 1 #[(0, (.const (I3 (1))))]) 242 false t100_40
def t100_54 : Tr := .ret [(.agg [(.c (.sr 1 13)), (.c (.k (.int .i64 (0)))), (.c (.k (.slice none 0 0))), (.c (.k (.int .i64 (0)))), (.c (.k (.slice none 0 0))), (.c (.sr 4 14))])]
def t100_53 : Tr := .need (.lit 4 [[(.k (.int .i64 (0))), (.k (.slice none 0 0)), (.k (.int .i64 (0))), (.k (.slice none 0 0))], [(.u 2 0), (.u 2 1), (.u 2 2), (.u 2 3)]]) (.buildSlice 50 2 #[(0, (.tmp 73)), (1, (.tmp 74))]) 50 false t100_54
def t100_52 : Tr := .need (.lit 1 [[(.k (.slice none 0 0))], [(.u 10 0)], [(.u 12 0)]]) (.buildSlice 44 3 #[(0, (.const (.slice none 0 0))), (1, (.tmp 69)), (2, (.tmp 71))]) 44 false t100_53
def t100_51 : Tr := .need (.call 99 [(.one (.c (.sr 1 11)))] [none]) (.call ⟨.value (.func 99), #[(.tmp 70)], #[242]⟩) 167 false t100_52
def t100_50 : Tr := .need (.lit 1 [[(.k (.int .i64 (1)))], [(.k (.int .i64 (0)))], [(.k (.int .i64 (1)))]]) (.buildSlice 242 3 #[(0, (.const (I3 (1)))), (1, (.const (I3 (0)))), (2, (.const (I3 (1))))]) 242 false t100_51
def t100_49 : Tr := .need (.call 99 [(.one (.c (.sr 1 9)))] [none]) (.call ⟨.value (.func 99), #[(.tmp 68)], #[242]⟩) 167 false t100_50
def t100_48 : Tr := .need (.lit 1 [[(.k (.int .i64 (0)))], [(.k (.int .i64 (2)))]]) (.buildSlice 242 2 #[(0, (.const (I3 (0)))), (1, (.const (I3 (2))))]) 242 false t100_49
def t100_67 : Tr := .ret [(.agg [(.c (.sr 1 18)), (.c (.k (.int .i64 (0)))), (.c (.k (.slice none 0 0))), (.c (.k (.int .i64 (0)))), (.c (.k (.slice none 0 0))), (.c (.sr 4 19))])]
def t100_66 : Tr := .need (.lit 4 [[(.u 2 0), (.u 2 1), (.u 2 2), (.u 2 3)], [(.k (.int .i64 (0))), (.k (.slice none 0 0)), (.k (.int .i64 (0))), (.k (.slice none 0 0))]]) (.buildSlice 50 2 #[(0, (.tmp 90)), (1, (.tmp 91))]) 50 false t100_67
def t100_65 : Tr := .need (.lit 1 [[(.u 13 0)], [(.u 15 0)], [(.u 17 0)]]) (.buildSlice 44 3 #[(0, (.tmp 84)), (1, (.tmp 86)), (2, (.tmp 88))]) 44 false t100_66
def t100_64 : Tr := .need (.call 99 [(.one (.c (.sr 1 16)))] [none]) (.call ⟨.value (.func 99), #[(.tmp 87)], #[242]⟩) 167 false t100_65
def t100_63 : Tr := .need (.lit 1 [[(.k (.int .i64 (1)))], [(.k (.int .i64 (0)))], [(.k (.int .i64 (-1)))]]) (.buildSlice 242 3 #[(0, (.const (I3 (1)))), (1, (.const (I3 (0)))), (2, (.const (I3 (-1))))]) 242 false t100_64
def t100_62 : Tr := .need (.call 99 [(.one (.c (.sr 1 14)))] [none]) (.call ⟨.value (.func 99), #[(.tmp 85)], #[242]⟩) 167 false t100_63
def t100_61 : Tr := .need (.lit 1 [[(.k (.int .i64 (0)))], [(.k (.int .i64 (-2)))]]) (.buildSlice 242 2 #[(0, (.const (I3 (0)))), (1, (.const (I3 (-2))))]) 242 false t100_62
def t100_60 : Tr := .need (.call 99 [(.one (.c (.sr 1 12)))] [none]) (.call ⟨.value (.func 99), #[(.tmp 83)], #[242]⟩) 167 false t100_61
def t100_59 : Tr := .need (.lit 1 [[(.u 11 0)]]) (.buildSlice 242 1 #[(0, (.tmp 82))]) 242 false t100_60
def t100_58 : Tr := .need (.prim [(W 1 0), (W 10 0)] none) (.binOp .mul 2 (.tmp 79) (.tmp 81) 2) 2 false t100_59
def t100_57 : Tr := .need (.prim [(W 1 0), (WK (1))] none) (.binOp .add 2 (.tmp 80) (.const (I3 (1))) 2) 2 false t100_58
def t100_77 : Tr := .ret [(.agg [(.c (.sr 1 17)), (.c (.k (.int .i64 (0)))), (.c (.k (.slice none 0 0))), (.c (.k (.int .i64 (0)))), (.c (.k (.slice none 0 0))), (.c (.sr 4 18))])]
def t100_76 : Tr := .need (.lit 4 [[(.u 2 0), (.u 2 1), (.u 2 2), (.u 2 3)], [(.k (.int .i64 (0))), (.k (.slice none 0 0)), (.k (.int .i64 (0))), (.k (.slice none 0 0))]]) (.buildSlice 50 2 #[(0, (.tmp 103)), (1, (.tmp 104))]) 50 false t100_77
def t100_75 : Tr := .need (.lit 1 [[(.u 12 0)], [(.u 14 0)], [(.u 16 0)]]) (.buildSlice 44 3 #[(0, (.tmp 97)), (1, (.tmp 99)), (2, (.tmp 101))]) 44 false t100_76
def t100_74 : Tr := .need (.call 99 [(.one (.c (.sr 1 15)))] [none]) (.call ⟨.value (.func 99), #[(.tmp 100)], #[242]⟩) 167 false t100_75
def t100_73 : Tr := .need (.lit 1 [[(.k (.int .i64 (1)))]]) (.buildSlice 242 1 #[(0, (.const (I3 (1))))]) 242 false t100_74
def t100_72 : Tr := .need (.call 99 [(.one (.c (.sr 1 13)))] [none]) (.call ⟨.value (.func 99), #[(.tmp 98)], #[242]⟩) 167 false t100_73
def t100_71 : Tr := .need (.lit 1 [[(.k (.int .i64 (0)))], [(.k (.int .i64 (-2)))]]) (.buildSlice 242 2 #[(0, (.const (I3 (0)))), (1, (.const (I3 (-2))))]) 242 false t100_72
def t100_70 : Tr := .need (.call 99 [(.one (.c (.sr 1 11)))] [none]) (.call ⟨.value (.func 99), #[(.tmp 96)], #[242]⟩) 167 false t100_71
def t100_69 : Tr := .need (.lit 1 [[(.u 10 0)]]) (.buildSlice 242 1 #[(0, (.tmp 95))]) 242 false t100_70
def t100_68 : Tr := .need (.prim [(WK (2)), (W 1 0)] none) (.binOp .mul 2 (.const (I3 (2))) (.tmp 94) 2) 2 false t100_69
def t100_56 : Tr := .split (.u 9 0) t100_57 t100_68
def t100_55 : Tr := .need (.prim [(W 0 0), (.one (.c (.k (.int .u8 (7)))))] none) (.binOp .eql 5 (.tmp 11) (.const (.int .u8 (7))) 5) 4 false t100_56
def t100_47 : Tr := .split (.u 8 0) t100_48 t100_55
def t100_46 : Tr := .need (.prim [(W 0 0), (.one (.c (.k (.int .u8 (6)))))] none) (.binOp .eql 5 (.tmp 11) (.const (.int .u8 (6))) 5) 4 false t100_47
def t100_38 : Tr := .split (.u 7 0) t100_39 t100_46
def t100_37 : Tr := .need (.prim [(W 0 0), (.one (.c (.k (.int .u8 (5)))))] none) (.binOp .eql 5 (.tmp 11) (.const (.int .u8 (5))) 5) 4 false t100_38
def t100_29 : Tr := .split (.u 6 0) t100_30 t100_37
def t100_28 : Tr := .need (.prim [(W 0 0), (.one (.c (.k (.int .u8 (4)))))] none) (.binOp .eql 5 (.tmp 11) (.const (.int .u8 (4))) 5) 4 false t100_29
def t100_20 : Tr := .split (.u 5 0) t100_21 t100_28
def t100_19 : Tr := .need (.prim [(W 0 0), (.one (.c (.k (.int .u8 (3)))))] none) (.binOp .eql 5 (.tmp 11) (.const (.int .u8 (3))) 5) 4 false t100_20
def t100_11 : Tr := .split (.u 4 0) t100_12 t100_19
def t100_10 : Tr := .need (.prim [(W 0 0), (.one (.c (.k (.int .u8 (2)))))] none) (.binOp .eql 5 (.tmp 11) (.const (.int .u8 (2))) 5) 4 false t100_11
def t100_2 : Tr := .split (.u 3 0) t100_3 t100_10
def t100_1 : Tr := .need (.prim [(W 0 0), (.one (.c (.k (.int .u8 (1)))))] none) (.binOp .eql 5 (.tmp 11) (.const (.int .u8 (1))) 5) 4 false t100_2
def t100_0 : Tr := .need (.call 50 [(WK (1))] [(some 4)]) (.call ⟨.value (.func 50), #[(.const (I3 (1)))], #[2]⟩) 49 true t100_1
theorem x_EKnown : execF prog f25 (fun _ => none) [.v none, .v none] = t100_0 := by kernel_rfl

/-- two rows are exchanged -/
theorem d_sReverse (a0 a1 a2 b0 b1 b2 : CTy) : DoesRow prog 92 39 3 [] [] ([[a0, a1, a2], [b0, b1, b2]]) [] ([[b0, b1, b2], [a0, a1, a2]]) := by
  refine does_row (a1 := []) (a2 := []) (i1 := []) (i2 := []) (hints := (fun _ => none)) fo (by kernel_rfl) func92 trivial trivial (by kernel_rfl) ?_ ?_ ?_ ?_
  · simp [rT]
  · simp [rT]
  · simp [rT]
  dsimp only [c_a, n_a]
  rw [x_sReverse]
  dsimp only [List.map, In.env, c_a, n_a]
  refine vlen (n := 2) rfl rfl ?_
  dsimp only [c_a, n_a]
  refine vn (p_sub_i64 (by omega) (by omega)) rfl ?_
  dsimp only [c_a, n_a]
  refine vloop Bool (fun g => if g then [.one (.int .i64 1), .one (.int .i64 0), .rows [[b0, b1, b2], [a0, a1, a2]]] else [.one (.int .i64 0), .one (.int .i64 1), .rows [[a0, a1, a2], [b0, b1, b2]]]) (fun g => if g then 0 else 1) false SubL.rfl (fun g => by cases g <;> rfl) ?_
  intro g
  cases g
  case true =>
    show vc _ _ _ [_, _, _, .one (.int .i64 1), .one (.int .i64 0), .rows [[b0, b1, b2], [a0, a1, a2]]] _
    refine vn q_lss rfl ?_
    refine vs _ rfl (fun h => absurd h (by decide)) (fun _ => ?_)
    exact vretr rfl rfl
  show vc _ _ _ [_, _, _, .one (.int .i64 0), .one (.int .i64 1), .rows [[a0, a1, a2], [b0, b1, b2]]] _
  refine vn q_lss rfl ?_
  dsimp only [c_a, n_a]
  refine vs _ rfl (fun _ => ?_) (fun h => absurd (by decide) h)
  -- true
  refine vidx rfl rfl (by decide) (by simp) ?_
  refine vld (t := .agg [b0, b1, b2]) rfl rfl (by decide) rfl (.inl rfl) rfl ?_
  dsimp only [c_a, n_a, mkS, List.drop, List.take]
  refine vidx rfl rfl (by decide) (by simp) ?_
  refine vld (t := .agg [a0, a1, a2]) rfl rfl (by decide) rfl (.inl rfl) rfl ?_
  dsimp only [c_a, n_a, mkS, List.drop, List.take]
  refine vidx rfl rfl (by decide) (by simp) ?_
  refine vst (us := [[b0, b1, b2], [b0, b1, b2]]) rfl rfl (by decide) rfl rfl ?_
  dsimp only [c_a, n_a]
  refine vidx rfl rfl (by decide) (by simp) ?_
  refine vst (us := [[b0, b1, b2], [a0, a1, a2]]) rfl rfl (by decide) rfl rfl ?_
  dsimp only [c_a, n_a]
  refine vn (p_add_i64 (by omega) (by omega)) rfl ?_
  dsimp only [c_a, n_a]
  refine vn (p_sub_i64 (by omega) (by omega)) rfl ?_
  dsimp only [c_a, n_a]
  exact vback rfl ⟨true, SubL.rfl, by decide⟩

abbrev sI (l : List Int) : CTy := .slice 1 (l.map fun n => [CTy.int .i64 n])
def ints (l : List Int) : List Rat := trim (l.map fun n : Int => (n : Rat))
def i64s (l : List Int) : Prop := ∀ n ∈ l, -9223372036854775808 ≤ n ∧ n < 9223372036854775808

theorem d_ointegers (l : List Int) (h : i64s l) (hs : l.length < 1099511627776) : Does prog 91 [(.one (sI l) : STy)] (.ret [.one (sQ (ints l))]) := by
  refine does_of_vc (args := [.v none]) (ins := [.v (.one (sI l))]) (hints := (fun _ => none)) fo (by kernel_rfl) func91 ⟨rfl, trivial⟩ ?_
  rw [x_ointegers]
  dsimp only [List.map, In.env, c_a, n_a]
  refine vn (p_len el242 (List.length_map _)) rfl ?_
  dsimp only [c_a, n_a]
  refine vloop {i : Nat // i ≤ l.length} (fun g => [.one (.int .i64 g.1), .rows (rQ ((l.take g.1).map fun n : Int => (n : Rat)))]) (fun g => l.length - g.1) ⟨0, Nat.zero_le _⟩ SubL.rfl (fun _ => rfl) ?_
  rintro ⟨i, hi⟩
  dsimp only [c_a, n_a] at hi ⊢
  refine vn q_lss rfl ?_
  dsimp only [c_a, n_a]
  refine vs _ rfl (fun h3 => ?_) (fun h3 => ?_)
  · obtain ⟨n, hn⟩ : ∃ n, l[i]? = some n := ⟨_, List.getElem?_eq_getElem (by omega)⟩
    obtain ⟨hn1, hn2⟩ := h n (List.mem_of_getElem? hn)
    have hl : ((l.take i).map fun n : Int => (n : Rat)).length ≤ i := by simp; omega
    refine vn (p_idxm el242 (by omega) (by omega) hn) rfl ?_
    dsimp only [c_a, n_a]
    refine vn (p_load1 ag2) rfl ?_
    dsimp only [c_a, n_a]
    refine vcall (d_Int n hn1 hn2) rfl ?_
    dsimp only [c_a, n_a]
    refine vlit (us := [qC (n : Rat)]) rfl ?_
    dsimp only [c_a, n_a]
    refine vappm (xs := (l.take i).map fun n : Int => (n : Rat)) (x := (n : Rat)) (f := qC) rfl rfl (by omega) (by simp only [maxLen]; omega) ?_
    rw [take_snoc (f := fun n : Int => (n : Rat)) hn]
    dsimp only [c_a, n_a]
    refine vn (p_add_i64 (by omega) (by omega)) rfl ?_
    dsimp only [c_a, n_a]
    exact vback rfl ⟨⟨i + 1, by omega⟩, SubL.rfl, by show l.length - (i + 1) < l.length - i; omega⟩
  rw [show i = l.length by omega, List.take_length]
  refine vcall (d_pTrim (l.map fun n : Int => (n : Rat)) (by simpa using hs)) rfl ?_
  dsimp only [c_a, n_a]
  exact vret rfl

def intsR (l : List Int) : List RQ := trimR (l.map fun n : Int => RQ.of (n : Rat))
theorem intsR_q (l : List Int) : (intsR l).map RQ.q = ints l := by
  rw [intsR, trimR_map, ints, List.map_map]; rfl

theorem d_Eintegers (l : List Int) (h : i64s l) (hs : l.length < 1099511627776) : Does prog 99 [(.one (sI l) : STy)] (.ret [.one (sR (intsR l))]) := by
  refine does_of_vc (args := [.v none]) (ins := [.v (.one (sI l))]) (hints := (fun _ => none)) fo (by kernel_rfl) func99 ⟨rfl, trivial⟩ ?_
  rw [x_Eintegers]
  dsimp only [List.map, In.env, c_a, n_a]
  refine vloop {i : Nat // i ≤ l.length} (fun g => [.one (.int .i64 g.1), .rows (rR ((l.take g.1).map fun n : Int => RQ.of (n : Rat)))]) (fun g => l.length - g.1) ⟨0, Nat.zero_le _⟩ SubL.rfl (fun _ => rfl) ?_
  rintro ⟨i, hi⟩
  dsimp only [c_a, n_a] at hi ⊢
  refine vn (p_len el242 (List.length_map _)) rfl ?_
  dsimp only [c_a, n_a]
  refine vn q_lss rfl ?_
  dsimp only [c_a, n_a]
  refine vs _ rfl (fun h3 => ?_) (fun h3 => ?_)
  · obtain ⟨n, hn⟩ : ∃ n, l[i]? = some n := ⟨_, List.getElem?_eq_getElem (by omega)⟩
    obtain ⟨hn1, hn2⟩ := h n (List.mem_of_getElem? hn)
    have hl : ((l.take i).map fun n : Int => RQ.of (n : Rat)).length ≤ i := by simp; omega
    refine vn (p_idxm el242 (by omega) (by omega) hn) rfl ?_
    dsimp only [c_a, n_a]
    refine vn (p_load1 ag2) rfl ?_
    dsimp only [c_a, n_a]
    refine vcall (d_RInt n hn1 hn2) rfl ?_
    dsimp only [c_a, n_a]
    refine vlit (us := [rC (.of (n : Rat))]) rfl ?_
    dsimp only [c_a, n_a]
    refine vappm (xs := (l.take i).map fun n : Int => RQ.of (n : Rat)) (x := RQ.of (n : Rat)) (f := rC) rfl rfl (by omega) (by simp only [maxLen]; omega) ?_
    rw [take_snoc (f := fun n : Int => RQ.of (n : Rat)) hn]
    dsimp only [c_a, n_a]
    refine vn (p_add_i64 (by omega) (by omega)) rfl ?_
    dsimp only [c_a, n_a]
    exact vback rfl ⟨⟨i + 1, by omega⟩, SubL.rfl, by show l.length - (i + 1) < l.length - i; omega⟩
  rw [show i = l.length by omega, List.take_length]
  refine vcall (d_PTrim (l.map fun n : Int => RQ.of (n : Rat)) (by simpa using hs)) rfl ?_
  dsimp only [c_a, n_a]
  exact vret rfl

/-- the knownV equations and values -/
def kE (k : Nat) (n : Int) : List (List Rat) :=
  match k with
  | 1 => [ints [-1], ints [1]]
  | 2 => [ints [1], [], ints [1]]
  | 3 => [ints [0, -1], [], ints [1]]
  | 4 => [[], ints [0, 2], ints [1]]
  | 5 => [[], ints [1], ints [1, 1]]
  | 6 => [[], ints [0, 2], ints [1, 0, 1]]
  | 7 => [ints [n * (n + 1)], ints [0, -2], ints [1, 0, -1]]
  | _ => [ints [2 * n], ints [0, -2], ints [1]]
def kY (k : Nat) : List Rat :=
  match k with
  | 1 => [1]
  | 3 => [1, 0]
  | 7 => [1, 0]
  | 8 => [1, 0]
  | _ => [0, 1]
def knownV (k : Nat) (n : Int) : List (List Rat) × List Rat × Int :=
  if k < 1 ∨ 8 < k then ([], [], 2) else if n < 0 ∨ 40 < n then ([], [], 3) else (kE k n, kY k, 0)
/-- a function -/
abbrev fT (e : List (List Rat)) (c : Rat) (y : List Rat) : STy := .agg [eQ e, dT c.num.natAbs, .bool (decide (c.num < 0)), dT (c.den - 1), sQ y]

theorem sub010 : All2 (All2 CTy.Sub) [[.exact (.slice none 0 0), .bool false, .exact (.slice none 0 0)], qC 1] [qC 0, qC 1] := ⟨zeroQ, ⟨CTy.Sub.same, CTy.Sub.same, CTy.Sub.same, trivial⟩, trivial⟩
theorem sub100 : All2 (All2 CTy.Sub) [qC 1, [.exact (.slice none 0 0), .bool false, .exact (.slice none 0 0)]] [qC 1, qC 0] := ⟨⟨CTy.Sub.same, CTy.Sub.same, CTy.Sub.same, trivial⟩, zeroQ, trivial⟩
theorem subE (p q : List Rat) : All2 (All2 CTy.Sub) [[sQ p], [.exact (.slice none 0 0)], [sQ q]] [cQ p, cQ [], cQ q] := ⟨⟨CTy.Sub.same, trivial⟩, ⟨CTy.Sub.nil, trivial⟩, ⟨CTy.Sub.same, trivial⟩, trivial⟩
theorem subE0 (p q : List Rat) : All2 (All2 CTy.Sub) [[.exact (.slice none 0 0)], [sQ p], [sQ q]] [cQ [], cQ p, cQ q] := ⟨⟨CTy.Sub.nil, trivial⟩, ⟨CTy.Sub.same, trivial⟩, ⟨CTy.Sub.same, trivial⟩, trivial⟩

set_option maxHeartbeats 2000000 in
theorem d_oKnown (k : Nat) (n : Int) (hk : k < 256) (h1 : -9223372036854775808 ≤ n) (h2 : n < 9223372036854775808) : Does prog 18 [(.one (.int .u8 k) : STy), (.one (.int .i64 n) : STy)] (.ret [fT (knownV k n).1 0 (knownV k n).2.1, .one (.int .i64 (knownV k n).2.2)]) := by
  refine does_of_vc (args := [.v none, .v none]) (ins := [.v (.one (.int .u8 k)), .v (.one (.int .i64 n))]) (hints := (fun _ => none)) fo (by kernel_rfl) func18 ⟨rfl, rfl, trivial⟩ ?_
  rw [x_oKnown]
  dsimp only [List.map, In.env, c_a, n_a]
  refine vn q_lss rfl ?_
  dsimp only [c_a, n_a]
  refine vs _ rfl (fun h1 => ?_) (fun h1' => ?_)
  -- both
  · rw [knownV, if_pos (by omega)]; exact vrets ⟨⟨CTy.Sub.nil, nilT rfl, CTy.Sub.same, nilT rfl, CTy.Sub.nil, trivial⟩, STy.Sub.same, trivial⟩
  refine vn q_gtr rfl ?_
  dsimp only [c_a, n_a]
  refine vs _ rfl (fun h4 => ?_) (fun h4 => ?_)
  · rw [knownV, if_pos (by omega)]; exact vrets ⟨⟨CTy.Sub.nil, nilT rfl, CTy.Sub.same, nilT rfl, CTy.Sub.nil, trivial⟩, STy.Sub.same, trivial⟩
  refine vn q_lss rfl ?_
  dsimp only [c_a, n_a]
  refine vs _ rfl (fun h7 => ?_) (fun h7 => ?_)
  · rw [knownV, if_neg (by omega), if_pos (by omega)]; exact vrets ⟨⟨CTy.Sub.nil, nilT rfl, CTy.Sub.same, nilT rfl, CTy.Sub.nil, trivial⟩, STy.Sub.same, trivial⟩
  refine vn q_gtr rfl ?_
  dsimp only [c_a, n_a]
  refine vs _ rfl (fun h10 => ?_) (fun h10 => ?_)
  · rw [knownV, if_neg (by omega), if_pos (by omega)]; exact vrets ⟨⟨CTy.Sub.nil, nilT rfl, CTy.Sub.same, nilT rfl, CTy.Sub.nil, trivial⟩, STy.Sub.same, trivial⟩
  refine vcall (d_Int 1 (by omega) (by omega)) rfl ?_
  dsimp only [c_a, n_a]
  rw [knownV, if_neg (by omega), if_neg (by omega)]
  refine vlit (us := [[.exact (.slice none 0 0), .bool false, .exact (.slice none 0 0)], qC 1]) rfl ?_
  dsimp only [c_a, n_a]
  refine vn q_eql rfl ?_
  dsimp only [c_a, n_a]
  refine vs _ rfl (fun h15 => ?_) (fun h15 => ?_)
  · obtain rfl : k = 1 := by omega
    refine vlit (us := [[.int .i64 (-1)]]) rfl ?_
    dsimp only [c_a, n_a]
    refine vcall (d_ointegers [-1] (by simp [i64s]) (by simp)) rfl ?_
    dsimp only [c_a, n_a]
    refine vlit (us := [[.int .i64 1]]) rfl ?_
    dsimp only [c_a, n_a]
    refine vcall (d_ointegers [1] (by simp [i64s]) (by simp)) rfl ?_
    dsimp only [c_a, n_a]
    refine vlit (us := [[sQ (ints [-1])], [sQ (ints [1])]]) rfl ?_
    dsimp only [c_a, n_a]
    refine vcall (d_Int 1 (by omega) (by omega)) rfl ?_
    dsimp only [c_a, n_a]
    refine vlit (us := [qC 1]) rfl ?_
    dsimp only [c_a, n_a]
    exact vrets ⟨⟨CTy.Sub.same, nilT rfl, CTy.Sub.same, nilT rfl, CTy.Sub.same, trivial⟩, STy.Sub.same, trivial⟩
  refine vn q_eql rfl ?_
  dsimp only [c_a, n_a]
  refine vs _ rfl (fun h25 => ?_) (fun h25 => ?_)
  · obtain rfl : k = 2 := by omega
    refine vlit (us := [[.int .i64 1]]) rfl ?_
    dsimp only [c_a, n_a]
    refine vcall (d_ointegers [1] (by simp [i64s]) (by simp)) rfl ?_
    dsimp only [c_a, n_a]
    refine vlit (us := [[.int .i64 1]]) rfl ?_
    dsimp only [c_a, n_a]
    refine vcall (d_ointegers [1] (by simp [i64s]) (by simp)) rfl ?_
    dsimp only [c_a, n_a]
    refine vlit (us := [[sQ (ints [1])], [.exact (.slice none 0 0)], [sQ (ints [1])]]) rfl ?_
    dsimp only [c_a, n_a]
    refine vn q_eql rfl ?_
    dsimp only [c_a, n_a]
    refine vs _ rfl (fun h32 => ?_) (fun h32 => ?_)
    · exfalso; omega
      -- stop
    refine vn q_geq rfl ?_
    dsimp only [c_a, n_a]
    refine vs _ rfl (fun h36 => ?_) (fun h36 => ?_)
    · exfalso; omega
      -- stop
    exact vrets ⟨⟨CTy.Sub.slice (subE _ _), nilT rfl, CTy.Sub.same, nilT rfl, CTy.Sub.slice sub010, trivial⟩, STy.Sub.same, trivial⟩
  refine vn q_eql rfl ?_
  dsimp only [c_a, n_a]
  refine vs _ rfl (fun h41 => ?_) (fun h41 => ?_)
  · obtain rfl : k = 3 := by omega
    refine vlit (us := [[.int .i64 0], [.int .i64 (-1)]]) rfl ?_
    dsimp only [c_a, n_a]
    refine vcall (d_ointegers [0, -1] (by simp [i64s]) (by simp)) rfl ?_
    dsimp only [c_a, n_a]
    refine vlit (us := [[.int .i64 1]]) rfl ?_
    dsimp only [c_a, n_a]
    refine vcall (d_ointegers [1] (by simp [i64s]) (by simp)) rfl ?_
    dsimp only [c_a, n_a]
    refine vlit (us := [[sQ (ints [0, -1])], [.exact (.slice none 0 0)], [sQ (ints [1])]]) rfl ?_
    dsimp only [c_a, n_a]
    refine vn q_eql rfl ?_
    dsimp only [c_a, n_a]
    refine vs _ rfl (fun h48 => ?_) (fun h48 => ?_)
    · refine vrop (n := 0) (us := [[.exact (.slice none 0 0), .bool false, .exact (.slice none 0 0)], qC 1]) (rs := []) (vs := [qC 1, [.exact (.slice none 0 0), .bool false, .exact (.slice none 0 0)]]) rfl ⟨rfl, rfl⟩ (by simp) rfl (row_call rfl (d_sReverse _ _ _ _ _ _)) rfl ?_
      dsimp only [c_a, n_a]
      exact vrets ⟨⟨CTy.Sub.slice (subE _ _), nilT rfl, CTy.Sub.same, nilT rfl, CTy.Sub.slice sub100, trivial⟩, STy.Sub.same, trivial⟩
    refine vn q_geq rfl ?_
    dsimp only [c_a, n_a]
    refine vs _ rfl (fun h52 => ?_) (fun h52 => ?_)
    · exfalso; omega
      -- stop
    exfalso; omega
    -- stop
  refine vn q_eql rfl ?_
  dsimp only [c_a, n_a]
  refine vs _ rfl (fun h57 => ?_) (fun h57 => ?_)
  · obtain rfl : k = 4 := by omega
    refine vlit (us := [[.int .i64 0], [.int .i64 2]]) rfl ?_
    dsimp only [c_a, n_a]
    refine vcall (d_ointegers [0, 2] (by simp [i64s]) (by simp)) rfl ?_
    dsimp only [c_a, n_a]
    refine vlit (us := [[.int .i64 1]]) rfl ?_
    dsimp only [c_a, n_a]
    refine vcall (d_ointegers [1] (by simp [i64s]) (by simp)) rfl ?_
    dsimp only [c_a, n_a]
    refine vlit (us := [[.exact (.slice none 0 0)], [sQ (ints [0, 2])], [sQ (ints [1])]]) rfl ?_
    dsimp only [c_a, n_a]
    refine vn q_eql rfl ?_
    dsimp only [c_a, n_a]
    refine vs _ rfl (fun h64 => ?_) (fun h64 => ?_)
    · exfalso; omega
      -- stop
    refine vn q_geq rfl ?_
    dsimp only [c_a, n_a]
    refine vs _ rfl (fun h68 => ?_) (fun h68 => ?_)
    · exfalso; omega
      -- stop
    exact vrets ⟨⟨CTy.Sub.slice (subE0 _ _), nilT rfl, CTy.Sub.same, nilT rfl, CTy.Sub.slice sub010, trivial⟩, STy.Sub.same, trivial⟩
  refine vn q_eql rfl ?_
  dsimp only [c_a, n_a]
  refine vs _ rfl (fun h73 => ?_) (fun h73 => ?_)
  · obtain rfl : k = 5 := by omega
    refine vlit (us := [[.int .i64 1]]) rfl ?_
    dsimp only [c_a, n_a]
    refine vcall (d_ointegers [1] (by simp [i64s]) (by simp)) rfl ?_
    dsimp only [c_a, n_a]
    refine vlit (us := [[.int .i64 1], [.int .i64 1]]) rfl ?_
    dsimp only [c_a, n_a]
    refine vcall (d_ointegers [1, 1] (by simp [i64s]) (by simp)) rfl ?_
    dsimp only [c_a, n_a]
    refine vlit (us := [[.exact (.slice none 0 0)], [sQ (ints [1])], [sQ (ints [1, 1])]]) rfl ?_
    dsimp only [c_a, n_a]
    refine vn q_eql rfl ?_
    dsimp only [c_a, n_a]
    refine vs _ rfl (fun h80 => ?_) (fun h80 => ?_)
    · exfalso; omega
      -- stop
    refine vn q_geq rfl ?_
    dsimp only [c_a, n_a]
    refine vs _ rfl (fun h84 => ?_) (fun h84 => ?_)
    · exfalso; omega
      -- stop
    exact vrets ⟨⟨CTy.Sub.slice (subE0 _ _), nilT rfl, CTy.Sub.same, nilT rfl, CTy.Sub.slice sub010, trivial⟩, STy.Sub.same, trivial⟩
  refine vn q_eql rfl ?_
  dsimp only [c_a, n_a]
  refine vs _ rfl (fun h89 => ?_) (fun h89 => ?_)
  · obtain rfl : k = 6 := by omega
    refine vlit (us := [[.int .i64 0], [.int .i64 2]]) rfl ?_
    dsimp only [c_a, n_a]
    refine vcall (d_ointegers [0, 2] (by simp [i64s]) (by simp)) rfl ?_
    dsimp only [c_a, n_a]
    refine vlit (us := [[.int .i64 1], [.int .i64 0], [.int .i64 1]]) rfl ?_
    dsimp only [c_a, n_a]
    refine vcall (d_ointegers [1, 0, 1] (by simp [i64s]) (by simp)) rfl ?_
    dsimp only [c_a, n_a]
    refine vlit (us := [[.exact (.slice none 0 0)], [sQ (ints [0, 2])], [sQ (ints [1, 0, 1])]]) rfl ?_
    dsimp only [c_a, n_a]
    refine vn q_eql rfl ?_
    dsimp only [c_a, n_a]
    refine vs _ rfl (fun h96 => ?_) (fun h96 => ?_)
    · exfalso; omega
      -- stop
    refine vn q_geq rfl ?_
    dsimp only [c_a, n_a]
    refine vs _ rfl (fun h100 => ?_) (fun h100 => ?_)
    · exfalso; omega
      -- stop
    exact vrets ⟨⟨CTy.Sub.slice (subE0 _ _), nilT rfl, CTy.Sub.same, nilT rfl, CTy.Sub.slice sub010, trivial⟩, STy.Sub.same, trivial⟩
  refine vn q_eql rfl ?_
  dsimp only [c_a, n_a]
  refine vs _ rfl (fun h105 => ?_) (fun h105 => ?_)
  · obtain rfl : k = 7 := by omega
    have hnn : n * (n + 1) ≤ 40 * 41 := by
      have := Int.mul_le_mul (a := n) (b := n + 1) (c := 40) (d := 41) (by omega) (by omega) (by omega) (by omega)
      omega
    have hn0 : 0 ≤ n * (n + 1) := Int.mul_nonneg (by omega) (by omega)
    refine vn (p_add_i64 (by omega) (by omega)) rfl ?_
    dsimp only [c_a, n_a]
    refine vn (p_mul (c := n * (n + 1)) (wr_i64 (by omega) (by omega))) rfl ?_
    dsimp only [c_a, n_a]
    refine vlit (us := [[.int .i64 (n * (n + 1))]]) rfl ?_
    dsimp only [c_a, n_a]
    refine vcall (d_ointegers [n * (n + 1)] (by simp only [i64s, List.mem_singleton, forall_eq]; omega) (by simp)) rfl ?_
    dsimp only [c_a, n_a]
    refine vlit (us := [[.int .i64 0], [.int .i64 (-2)]]) rfl ?_
    dsimp only [c_a, n_a]
    refine vcall (d_ointegers [0, -2] (by simp [i64s]) (by simp)) rfl ?_
    dsimp only [c_a, n_a]
    refine vlit (us := [[.int .i64 1], [.int .i64 0], [.int .i64 (-1)]]) rfl ?_
    dsimp only [c_a, n_a]
    refine vcall (d_ointegers [1, 0, -1] (by simp [i64s]) (by simp)) rfl ?_
    dsimp only [c_a, n_a]
    refine vlit (us := [[sQ (ints [n * (n + 1)])], [sQ (ints [0, -2])], [sQ (ints [1, 0, -1])]]) rfl ?_
    dsimp only [c_a, n_a]
    refine vn q_eql rfl ?_
    dsimp only [c_a, n_a]
    refine vs _ rfl (fun h116 => ?_) (fun h116 => ?_)
    · exfalso; omega
      -- stop
    refine vn q_geq rfl ?_
    dsimp only [c_a, n_a]
    refine vs _ rfl (fun h120 => ?_) (fun h120 => ?_)
    · refine vrop (n := 0) (us := [[.exact (.slice none 0 0), .bool false, .exact (.slice none 0 0)], qC 1]) (rs := []) (vs := [qC 1, [.exact (.slice none 0 0), .bool false, .exact (.slice none 0 0)]]) rfl ⟨rfl, rfl⟩ (by simp) rfl (row_call rfl (d_sReverse _ _ _ _ _ _)) rfl ?_
      dsimp only [c_a, n_a]
      exact vrets ⟨⟨CTy.Sub.same, nilT rfl, CTy.Sub.same, nilT rfl, CTy.Sub.slice sub100, trivial⟩, STy.Sub.same, trivial⟩
    exfalso; omega
    -- stop
  refine vn q_eql rfl ?_
  dsimp only [c_a, n_a]
  refine vs _ rfl (fun h125 => ?_) (fun h125 => ?_)
  · obtain rfl : k = 8 := by omega
    refine vn (p_mul_i64 (by omega) (by omega)) rfl ?_
    dsimp only [c_a, n_a]
    refine vlit (us := [[.int .i64 (2 * n)]]) rfl ?_
    dsimp only [c_a, n_a]
    refine vcall (d_ointegers [2 * n] (by simp only [i64s, List.mem_singleton, forall_eq]; omega) (by simp)) rfl ?_
    dsimp only [c_a, n_a]
    refine vlit (us := [[.int .i64 0], [.int .i64 (-2)]]) rfl ?_
    dsimp only [c_a, n_a]
    refine vcall (d_ointegers [0, -2] (by simp [i64s]) (by simp)) rfl ?_
    dsimp only [c_a, n_a]
    refine vlit (us := [[.int .i64 1]]) rfl ?_
    dsimp only [c_a, n_a]
    refine vcall (d_ointegers [1] (by simp [i64s]) (by simp)) rfl ?_
    dsimp only [c_a, n_a]
    refine vlit (us := [[sQ (ints [2 * n])], [sQ (ints [0, -2])], [sQ (ints [1])]]) rfl ?_
    dsimp only [c_a, n_a]
    refine vn q_eql rfl ?_
    dsimp only [c_a, n_a]
    refine vs _ rfl (fun h135 => ?_) (fun h135 => ?_)
    · exfalso; omega
      -- stop
    refine vn q_geq rfl ?_
    dsimp only [c_a, n_a]
    refine vs _ rfl (fun h139 => ?_) (fun h139 => ?_)
    · refine vrop (n := 0) (us := [[.exact (.slice none 0 0), .bool false, .exact (.slice none 0 0)], qC 1]) (rs := []) (vs := [qC 1, [.exact (.slice none 0 0), .bool false, .exact (.slice none 0 0)]]) rfl ⟨rfl, rfl⟩ (by simp) rfl (row_call rfl (d_sReverse _ _ _ _ _ _)) rfl ?_
      dsimp only [c_a, n_a]
      exact vrets ⟨⟨CTy.Sub.same, nilT rfl, CTy.Sub.same, nilT rfl, CTy.Sub.slice sub100, trivial⟩, STy.Sub.same, trivial⟩
    exfalso; omega
    -- stop
  refine vn q_eql rfl ?_
  dsimp only [c_a, n_a]
  refine vs _ rfl (fun h144 => ?_) (fun h144 => ?_)
  · exfalso; omega
    -- stop
  refine vn q_geq rfl ?_
  dsimp only [c_a, n_a]
  refine vs _ rfl (fun h148 => ?_) (fun h148 => ?_)
  · exfalso; omega
    -- stop
  exfalso; omega
  -- stop
end Go.Sy
namespace Go.Sy
open Go Go.Proofs Tryz Ord

def t101_9 : Tr := .ret [(.one (.c (.k (.bool false))))]
def t101_11 : Tr := .back 0 [(.w (W 1 0)), (.w (W 9 0))]
def t101_10 : Tr := .need (.prim [(W 2 0), (WK (1))] none) (.binOp .add 3 (.tmp 9) (.const (I3 (1))) 3) 3 false t101_11
def t101_8 : Tr := .split (.u 8 0) t101_9 t101_10
def t101_7 : Tr := .need (.prim [(W 7 0)] none) (.unOp .not 4 (.tmp 16)) 4 false t101_8
def t101_6 : Tr := .need (.call 39 [(.agg [(U 6 0), (U 6 1), (U 6 2)])] [none]) (.call ⟨.value (.func 39), #[(.tmp 15)], #[26]⟩) 4 true t101_7
def t101_5 : Tr := .need (.prim [(W 5 0)] (some 3)) (.load 26 (.tmp 14)) 26 false t101_6
def t101_4 : Tr := .need (.prim [(W 0 5), (W 2 0)] none) (.indexAddr 27 (.tmp 12) (.tmp 13)) 0 false t101_5
def t101_18 : Tr := .ret [(W 8 0)]
def t101_17 : Tr := .need (.prim [(W 7 0), (WK (6))] none) (.binOp .leq 3 (.tmp 29) (.const (I3 (6))) 3) 4 false t101_18
def t101_16 : Tr := .need (.prim [(W 0 5)] none) (.call ⟨.builtin .len, #[(.tmp 28)], #[27]⟩) 3 false t101_17
def t101_15 : Tr := .split (.u 6 0) t101_16 t101_9
def t101_14 : Tr := .need (.call 39 [(.agg [(U 0 2), (U 0 3), (U 0 4)])] [none]) (.call ⟨.value (.func 39), #[(.tmp 23)], #[26]⟩) 4 false t101_15
def t101_13 : Tr := .split (.u 5 0) t101_14 t101_9
def t101_12 : Tr := .need (.call 55 [(.agg [(U 0 0), (U 0 1)])] [none]) (.call ⟨.value (.func 55), #[(.tmp 19)], #[24]⟩) 4 false t101_13
def t101_3 : Tr := .split (.u 4 0) t101_4 t101_12
def t101_2 : Tr := .need (.prim [(W 2 0), (W 3 0)] none) (.binOp .lss 3 (.tmp 4) (.tmp 7) 3) 4 false t101_3
def t101_1 : Tr := .need (.prim [(W 0 5)] none) (.call ⟨.builtin .len, #[(.tmp 6)], #[27]⟩) 3 false t101_2
def t101_0 : Tr := .loop 0 [(.w (.one (.c (.k (.bool false))))), (.w (WK (0)))] t101_1
theorem x_Lsmall : execF prog f15 (fun _ => none) [.v (some 8)] = t101_0 := by kernel_rfl

def kER (k : Nat) (n : Int) : List (List RQ) :=
  match k with
  | 1 => [intsR [-1], intsR [1]]
  | 2 => [intsR [1], [], intsR [1]]
  | 3 => [intsR [0, -1], [], intsR [1]]
  | 4 => [[], intsR [0, 2], intsR [1]]
  | 5 => [[], intsR [1], intsR [1, 1]]
  | 6 => [[], intsR [0, 2], intsR [1, 0, 1]]
  | 7 => [intsR [n * (n + 1)], intsR [0, -2], intsR [1, 0, -1]]
  | _ => [intsR [2 * n], intsR [0, -2], intsR [1]]
def kYR (k : Nat) : List RQ :=
  match k with
  | 1 => [.of 1]
  | 3 => [.of 1, .nil]
  | 7 => [.of 1, .nil]
  | 8 => [.of 1, .nil]
  | _ => [.nil, .of 1]
theorem kER_q {k : Nat} (h1 : 1 ≤ k) (h2 : k ≤ 8) (n : Int) : eqR (kER k n) = kE k n := by
  rcases (by omega : k = 1 ∨ k = 2 ∨ k = 3 ∨ k = 4 ∨ k = 5 ∨ k = 6 ∨ k = 7 ∨ k = 8) with rfl | rfl | rfl | rfl | rfl | rfl | rfl | rfl <;> simp only [eqR, kER, kE, List.map_cons, List.map_nil, intsR_q]
theorem kYR_q {k : Nat} (h1 : 1 ≤ k) (h2 : k ≤ 8) : (kYR k).map RQ.q = kY k := by
  rcases (by omega : k = 1 ∨ k = 2 ∨ k = 3 ∨ k = 4 ∨ k = 5 ∨ k = 6 ∨ k = 7 ∨ k = 8) with rfl | rfl | rfl | rfl | rfl | rfl | rfl | rfl <;> rfl
/-- a function of the reference -/
abbrev fR (e : List (List RQ)) (c : RQ) (y : List RQ) : STy := .agg [eR e, .int .i64 c.q.num.sign, bT c.q.num.natAbs, .int .i64 (if c.z then 0 else 1), bT (if c.z then 0 else c.q.den), sR y]
theorem subR01 : All2 (All2 CTy.Sub) [[.int .i64 0, .exact (.slice none 0 0), .int .i64 0, .exact (.slice none 0 0)], rC (.of 1)] [rC .nil, rC (.of 1)] := ⟨nilR, ⟨CTy.Sub.same, CTy.Sub.same, CTy.Sub.same, CTy.Sub.same, trivial⟩, trivial⟩
theorem subR10 : All2 (All2 CTy.Sub) [rC (.of 1), [.int .i64 0, .exact (.slice none 0 0), .int .i64 0, .exact (.slice none 0 0)]] [rC (.of 1), rC .nil] := ⟨⟨CTy.Sub.same, CTy.Sub.same, CTy.Sub.same, CTy.Sub.same, trivial⟩, nilR, trivial⟩
theorem subER (p q : List RQ) : All2 (All2 CTy.Sub) [[sR p], [.exact (.slice none 0 0)], [sR q]] [cR p, cR [], cR q] := ⟨⟨CTy.Sub.same, trivial⟩, ⟨CTy.Sub.nil, trivial⟩, ⟨CTy.Sub.same, trivial⟩, trivial⟩
theorem subER0 (p q : List RQ) : All2 (All2 CTy.Sub) [[.exact (.slice none 0 0)], [sR p], [sR q]] [cR [], cR p, cR q] := ⟨⟨CTy.Sub.nil, trivial⟩, ⟨CTy.Sub.same, trivial⟩, ⟨CTy.Sub.same, trivial⟩, trivial⟩

set_option maxHeartbeats 2000000 in
theorem d_EKnown (k : Nat) (n : Int) (hk1 : 1 ≤ k) (hk : k ≤ 8) (h1 : 0 ≤ n) (h2 : n ≤ 40) : Does prog 25 [(.one (.int .u8 k) : STy), (.one (.int .i64 n) : STy)] (.ret [fR (kER k n) .nil (kYR k)]) := by
  refine does_of_vc (args := [.v none, .v none]) (ins := [.v (.one (.int .u8 k)), .v (.one (.int .i64 n))]) (hints := (fun _ => none)) fo (by kernel_rfl) func25 ⟨rfl, rfl, trivial⟩ ?_
  rw [x_EKnown]
  dsimp only [List.map, In.env, c_a, n_a]
  refine vcall (d_RInt 1 (by omega) (by omega)) rfl ?_
  dsimp only [c_a, n_a]
  refine vn q_eql rfl ?_
  dsimp only [c_a, n_a]
  refine vs _ rfl (fun h2 => ?_) (fun h2 => ?_)
  · obtain rfl : k = 1 := by omega
    refine vlit (us := [[.int .i64 (-1)]]) rfl ?_
    dsimp only [c_a, n_a]
    refine vcall (d_Eintegers [-1] (by simp [i64s]) (by simp)) rfl ?_
    dsimp only [c_a, n_a]
    refine vlit (us := [[.int .i64 1]]) rfl ?_
    dsimp only [c_a, n_a]
    refine vcall (d_Eintegers [1] (by simp [i64s]) (by simp)) rfl ?_
    dsimp only [c_a, n_a]
    refine vlit (us := [[sR (intsR [-1])], [sR (intsR [1])]]) rfl ?_
    dsimp only [c_a, n_a]
    refine vlit (us := [rC (.of 1)]) rfl ?_
    dsimp only [c_a, n_a]
    exact vrets ⟨⟨CTy.Sub.same, CTy.Sub.same, nilB rfl, CTy.Sub.same, nilB rfl, CTy.Sub.same, trivial⟩, trivial⟩
  refine vn q_eql rfl ?_
  dsimp only [c_a, n_a]
  refine vs _ rfl (fun h11 => ?_) (fun h11 => ?_)
  · obtain rfl : k = 2 := by omega
    refine vlit (us := [[.int .i64 1]]) rfl ?_
    dsimp only [c_a, n_a]
    refine vcall (d_Eintegers [1] (by simp [i64s]) (by simp)) rfl ?_
    dsimp only [c_a, n_a]
    refine vlit (us := [[.int .i64 1]]) rfl ?_
    dsimp only [c_a, n_a]
    refine vcall (d_Eintegers [1] (by simp [i64s]) (by simp)) rfl ?_
    dsimp only [c_a, n_a]
    refine vlit (us := [[sR (intsR [1])], [.exact (.slice none 0 0)], [sR (intsR [1])]]) rfl ?_
    dsimp only [c_a, n_a]
    refine vlit (us := [[.int .i64 0, .exact (.slice none 0 0), .int .i64 0, .exact (.slice none 0 0)], rC (.of 1)]) rfl ?_
    dsimp only [c_a, n_a]
    exact vrets ⟨⟨CTy.Sub.slice (subER _ _), CTy.Sub.same, nilB rfl, CTy.Sub.same, nilB rfl, CTy.Sub.slice subR01, trivial⟩, trivial⟩
  refine vn q_eql rfl ?_
  dsimp only [c_a, n_a]
  refine vs _ rfl (fun h20 => ?_) (fun h20 => ?_)
  · obtain rfl : k = 3 := by omega
    refine vlit (us := [[.int .i64 0], [.int .i64 (-1)]]) rfl ?_
    dsimp only [c_a, n_a]
    refine vcall (d_Eintegers [0, -1] (by simp [i64s]) (by simp)) rfl ?_
    dsimp only [c_a, n_a]
    refine vlit (us := [[.int .i64 1]]) rfl ?_
    dsimp only [c_a, n_a]
    refine vcall (d_Eintegers [1] (by simp [i64s]) (by simp)) rfl ?_
    dsimp only [c_a, n_a]
    refine vlit (us := [[sR (intsR [0, -1])], [.exact (.slice none 0 0)], [sR (intsR [1])]]) rfl ?_
    dsimp only [c_a, n_a]
    refine vlit (us := [rC (.of 1), [.int .i64 0, .exact (.slice none 0 0), .int .i64 0, .exact (.slice none 0 0)]]) rfl ?_
    dsimp only [c_a, n_a]
    exact vrets ⟨⟨CTy.Sub.slice (subER _ _), CTy.Sub.same, nilB rfl, CTy.Sub.same, nilB rfl, CTy.Sub.slice subR10, trivial⟩, trivial⟩
  refine vn q_eql rfl ?_
  dsimp only [c_a, n_a]
  refine vs _ rfl (fun h29 => ?_) (fun h29 => ?_)
  · obtain rfl : k = 4 := by omega
    refine vlit (us := [[.int .i64 0], [.int .i64 2]]) rfl ?_
    dsimp only [c_a, n_a]
    refine vcall (d_Eintegers [0, 2] (by simp [i64s]) (by simp)) rfl ?_
    dsimp only [c_a, n_a]
    refine vlit (us := [[.int .i64 1]]) rfl ?_
    dsimp only [c_a, n_a]
    refine vcall (d_Eintegers [1] (by simp [i64s]) (by simp)) rfl ?_
    dsimp only [c_a, n_a]
    refine vlit (us := [[.exact (.slice none 0 0)], [sR (intsR [0, 2])], [sR (intsR [1])]]) rfl ?_
    dsimp only [c_a, n_a]
    refine vlit (us := [[.int .i64 0, .exact (.slice none 0 0), .int .i64 0, .exact (.slice none 0 0)], rC (.of 1)]) rfl ?_
    dsimp only [c_a, n_a]
    exact vrets ⟨⟨CTy.Sub.slice (subER0 _ _), CTy.Sub.same, nilB rfl, CTy.Sub.same, nilB rfl, CTy.Sub.slice subR01, trivial⟩, trivial⟩
  refine vn q_eql rfl ?_
  dsimp only [c_a, n_a]
  refine vs _ rfl (fun h38 => ?_) (fun h38 => ?_)
  · obtain rfl : k = 5 := by omega
    refine vlit (us := [[.int .i64 1]]) rfl ?_
    dsimp only [c_a, n_a]
    refine vcall (d_Eintegers [1] (by simp [i64s]) (by simp)) rfl ?_
    dsimp only [c_a, n_a]
    refine vlit (us := [[.int .i64 1], [.int .i64 1]]) rfl ?_
    dsimp only [c_a, n_a]
    refine vcall (d_Eintegers [1, 1] (by simp [i64s]) (by simp)) rfl ?_
    dsimp only [c_a, n_a]
    refine vlit (us := [[.exact (.slice none 0 0)], [sR (intsR [1])], [sR (intsR [1, 1])]]) rfl ?_
    dsimp only [c_a, n_a]
    refine vlit (us := [[.int .i64 0, .exact (.slice none 0 0), .int .i64 0, .exact (.slice none 0 0)], rC (.of 1)]) rfl ?_
    dsimp only [c_a, n_a]
    exact vrets ⟨⟨CTy.Sub.slice (subER0 _ _), CTy.Sub.same, nilB rfl, CTy.Sub.same, nilB rfl, CTy.Sub.slice subR01, trivial⟩, trivial⟩
  refine vn q_eql rfl ?_
  dsimp only [c_a, n_a]
  refine vs _ rfl (fun h47 => ?_) (fun h47 => ?_)
  · obtain rfl : k = 6 := by omega
    refine vlit (us := [[.int .i64 0], [.int .i64 2]]) rfl ?_
    dsimp only [c_a, n_a]
    refine vcall (d_Eintegers [0, 2] (by simp [i64s]) (by simp)) rfl ?_
    dsimp only [c_a, n_a]
    refine vlit (us := [[.int .i64 1], [.int .i64 0], [.int .i64 1]]) rfl ?_
    dsimp only [c_a, n_a]
    refine vcall (d_Eintegers [1, 0, 1] (by simp [i64s]) (by simp)) rfl ?_
    dsimp only [c_a, n_a]
    refine vlit (us := [[.exact (.slice none 0 0)], [sR (intsR [0, 2])], [sR (intsR [1, 0, 1])]]) rfl ?_
    dsimp only [c_a, n_a]
    refine vlit (us := [[.int .i64 0, .exact (.slice none 0 0), .int .i64 0, .exact (.slice none 0 0)], rC (.of 1)]) rfl ?_
    dsimp only [c_a, n_a]
    exact vrets ⟨⟨CTy.Sub.slice (subER0 _ _), CTy.Sub.same, nilB rfl, CTy.Sub.same, nilB rfl, CTy.Sub.slice subR01, trivial⟩, trivial⟩
  refine vn q_eql rfl ?_
  dsimp only [c_a, n_a]
  refine vs _ rfl (fun h56 => ?_) (fun h56 => ?_)
  · obtain rfl : k = 7 := by omega
    have hnn : n * (n + 1) ≤ 40 * 41 := by
      have := Int.mul_le_mul (a := n) (b := n + 1) (c := 40) (d := 41) (by omega) (by omega) (by omega) (by omega)
      omega
    have hn0 : 0 ≤ n * (n + 1) := Int.mul_nonneg (by omega) (by omega)
    refine vn (p_add_i64 (by omega) (by omega)) rfl ?_
    dsimp only [c_a, n_a]
    refine vn (p_mul (c := n * (n + 1)) (wr_i64 (by omega) (by omega))) rfl ?_
    dsimp only [c_a, n_a]
    refine vlit (us := [[.int .i64 (n * (n + 1))]]) rfl ?_
    dsimp only [c_a, n_a]
    refine vcall (d_Eintegers [n * (n + 1)] (by simp only [i64s, List.mem_singleton, forall_eq]; omega) (by simp)) rfl ?_
    dsimp only [c_a, n_a]
    refine vlit (us := [[.int .i64 0], [.int .i64 (-2)]]) rfl ?_
    dsimp only [c_a, n_a]
    refine vcall (d_Eintegers [0, -2] (by simp [i64s]) (by simp)) rfl ?_
    dsimp only [c_a, n_a]
    refine vlit (us := [[.int .i64 1], [.int .i64 0], [.int .i64 (-1)]]) rfl ?_
    dsimp only [c_a, n_a]
    refine vcall (d_Eintegers [1, 0, -1] (by simp [i64s]) (by simp)) rfl ?_
    dsimp only [c_a, n_a]
    refine vlit (us := [[sR (intsR [n * (n + 1)])], [sR (intsR [0, -2])], [sR (intsR [1, 0, -1])]]) rfl ?_
    dsimp only [c_a, n_a]
    refine vlit (us := [rC (.of 1), [.int .i64 0, .exact (.slice none 0 0), .int .i64 0, .exact (.slice none 0 0)]]) rfl ?_
    dsimp only [c_a, n_a]
    exact vrets ⟨⟨CTy.Sub.same, CTy.Sub.same, nilB rfl, CTy.Sub.same, nilB rfl, CTy.Sub.slice subR10, trivial⟩, trivial⟩
  obtain rfl : k = 8 := by omega
  refine vn (p_mul_i64 (by omega) (by omega)) rfl ?_
  dsimp only [c_a, n_a]
  refine vlit (us := [[.int .i64 (2 * n)]]) rfl ?_
  dsimp only [c_a, n_a]
  refine vcall (d_Eintegers [2 * n] (by simp only [i64s, List.mem_singleton, forall_eq]; omega) (by simp)) rfl ?_
  dsimp only [c_a, n_a]
  refine vlit (us := [[.int .i64 0], [.int .i64 (-2)]]) rfl ?_
  dsimp only [c_a, n_a]
  refine vcall (d_Eintegers [0, -2] (by simp [i64s]) (by simp)) rfl ?_
  dsimp only [c_a, n_a]
  refine vlit (us := [[.int .i64 1]]) rfl ?_
  dsimp only [c_a, n_a]
  refine vcall (d_Eintegers [1] (by simp [i64s]) (by simp)) rfl ?_
  dsimp only [c_a, n_a]
  refine vlit (us := [[sR (intsR [2 * n])], [sR (intsR [0, -2])], [sR (intsR [1])]]) rfl ?_
  dsimp only [c_a, n_a]
  refine vlit (us := [rC (.of 1), [.int .i64 0, .exact (.slice none 0 0), .int .i64 0, .exact (.slice none 0 0)]]) rfl ?_
  dsimp only [c_a, n_a]
  exact vrets ⟨⟨CTy.Sub.same, CTy.Sub.same, nilB rfl, CTy.Sub.same, nilB rfl, CTy.Sub.slice subR10, trivial⟩, trivial⟩

/-- equations as they are handed in -/
abbrev sP (p : List (List NumD)) : CTy := .slice 1 (p.map fun l => [sN l])
def smallP (p : List (List NumD)) : Bool := decide (p.length ≤ 6 ∧ ∀ l ∈ p, l.length ≤ 4 ∧ ∀ x ∈ l, x.tiny = true)
structure InP (p : List (List NumD)) : Prop where
  l : p.length < 140737488355328
  p : ∀ l ∈ p, l.length < 140737488355328 ∧ ∀ x ∈ l, x.In

set_option maxHeartbeats 1000000 in
theorem d_LsmallRule (p : List (List NumD)) (long : Int) (hp : InP p) : Does prog 55 [(.agg [sP p, .int .i64 long] : STy)] (.ret [.one (.bool (smallP p))]) := by
  refine does_of_vc (args := [.v (some 2)]) (ins := [.v (.agg [sP p, .int .i64 long])]) (hints := (fun _ => none)) fo (by kernel_rfl) func55 ⟨rfl, trivial⟩ ?_
  rw [x_LsmallRule]
  dsimp only [List.map, In.env, c_a, n_a]
  have hpl := hp.l
  refine vloop {i : Nat // i ≤ p.length ∧ ∀ j l, j < i → p[j]? = some l → l.length ≤ 4 ∧ ∀ x ∈ l, x.tiny = true} (fun g => [.one (.bool false), .one (.int .i64 g.1)]) (fun g => p.length - g.1) ⟨0, Nat.zero_le _, fun j l h => by omega⟩ SubL.rfl (fun _ => rfl) ?_
  rintro ⟨i, hi, hok⟩
  dsimp only [c_a, n_a] at hi hok ⊢
  refine vn (p_len el22 (List.length_map _)) rfl ?_
  dsimp only [c_a, n_a]
  refine vn q_lss rfl ?_
  dsimp only [c_a, n_a]
  refine vs _ rfl (fun h3 => ?_) (fun h3 => ?_)
  · obtain ⟨l, hl⟩ : ∃ l, p[i]? = some l := ⟨_, List.getElem?_eq_getElem (by omega)⟩
    obtain ⟨hll, hlx⟩ := hp.p l (List.mem_of_getElem? hl)
    have hbad : ∀ x ∈ l, x.tiny = false → smallP p = false := fun x hx h => by
      unfold smallP; rw [decide_eq_false_iff_not]
      rintro ⟨_, h2⟩
      rw [(h2 l (List.mem_of_getElem? hl)).2 x hx] at h; cases h
    refine vn (p_idxm el22 (by omega) (by omega) hl) rfl ?_
    dsimp only [c_a, n_a]
    refine vn (p_load1 ag27) rfl ?_
    dsimp only [c_a, n_a]
    refine vn (p_len el27 (List.length_map _)) rfl ?_
    dsimp only [c_a, n_a]
    refine vn q_gtr rfl ?_
    dsimp only [c_a, n_a]
    refine vs _ rfl (fun h8 => ?_) (fun h8 => ?_)
    · rw [show smallP p = false by
        unfold smallP; rw [decide_eq_false_iff_not]
        rintro ⟨_, h2⟩
        have := (h2 l (List.mem_of_getElem? hl)).1
        omega]; exact vret rfl
    refine vloop {k : Nat // k ≤ l.length ∧ ∀ j x, j < k → l[j]? = some x → x.tiny = true} (fun g => [.one (.bool false), .one (.int .i64 g.1)]) (fun g => l.length - g.1) ⟨0, Nat.zero_le _, fun j x h => by omega⟩ SubL.rfl (fun _ => rfl) ?_
    rintro ⟨k, hk, hkok⟩
    dsimp only [c_a, n_a] at hk hkok ⊢
    refine vn (p_idxm el22 (by omega) (by omega) hl) rfl ?_
    dsimp only [c_a, n_a]
    refine vn (p_load1 ag27) rfl ?_
    dsimp only [c_a, n_a]
    refine vn (p_len el27 (List.length_map _)) rfl ?_
    dsimp only [c_a, n_a]
    refine vn q_lss rfl ?_
    dsimp only [c_a, n_a]
    refine vs _ rfl (fun h15 => ?_) (fun h15 => ?_)
    · refine vn (p_idxm el22 (by omega) (by omega) hl) rfl ?_
      dsimp only [c_a, n_a]
      refine vn (p_load1 ag27) rfl ?_
      dsimp only [c_a, n_a]
      obtain ⟨x, hx⟩ : ∃ x, l[k]? = some x := ⟨_, List.getElem?_eq_getElem (by omega)⟩
      have hxl := List.mem_of_getElem? hx
      have hxi := hlx x hxl
      refine vn (p_idxm el27 (by omega) (by omega) hx) rfl ?_
      dsimp only [c_a, n_a]
      refine vn (p_load ag26 (by decide) (by simp) (.inl rfl)) rfl ?_
      dsimp only [c_a, n_a]
      refine vn (p_rem_n (by omega) (by omega)) rfl ?_
      dsimp only [c_a, n_a]
      refine vn q_neq rfl ?_
      dsimp only [c_a, n_a]
      refine vs _ rfl (fun h22 => ?_) (fun h22 => ?_)
      · rw [hbad x hxl (by unfold NumD.tiny; rw [decide_eq_false_iff_not]; omega)]; exact vret rfl
      refine vn q_gtr rfl ?_
      dsimp only [c_a, n_a]
      refine vs _ rfl (fun h25 => ?_) (fun h25 => ?_)
      · rw [hbad x hxl (by unfold NumD.tiny; rw [decide_eq_false_iff_not]; omega)]; exact vret rfl
      refine vn q_lss rfl ?_
      dsimp only [c_a, n_a]
      refine vs _ rfl (fun h28 => ?_) (fun h28 => ?_)
      · rw [hbad x hxl (by unfold NumD.tiny; rw [decide_eq_false_iff_not]; omega)]; exact vret rfl
      refine vn q_gtr rfl ?_
      dsimp only [c_a, n_a]
      refine vs _ rfl (fun h31 => ?_) (fun h31 => ?_)
      · rw [hbad x hxl (by unfold NumD.tiny; rw [decide_eq_false_iff_not]; omega)]; exact vret rfl
      refine vn q_lss rfl ?_
      dsimp only [c_a, n_a]
      refine vs _ rfl (fun h34 => ?_) (fun h34 => ?_)
      · rw [hbad x hxl (by unfold NumD.tiny; rw [decide_eq_false_iff_not]; omega)]; exact vret rfl
      refine vn (p_add_i64 (by omega) (by omega)) rfl ?_
      dsimp only [c_a, n_a]
      exact vback rfl ⟨⟨k + 1, by omega, fun j x' hj hx' => by
        rcases Nat.lt_or_ge j k with h | h
        · exact hkok j x' h hx'
        · rw [show j = k by omega, hx] at hx'; simp only [Option.some.injEq] at hx'; subst hx'
          unfold NumD.tiny; rw [decide_eq_true_iff]; omega⟩, SubL.rfl, by show l.length - (k + 1) < l.length - k; omega⟩
    refine vn (p_add_i64 (by omega) (by omega)) rfl ?_
    dsimp only [c_a, n_a]
    exact vback rfl ⟨⟨i + 1, by omega, fun j l' hj hl' => by
      rcases Nat.lt_or_ge j i with h | h
      · exact hok j l' h hl'
      · rw [show j = i by omega, hl] at hl'; simp only [Option.some.injEq] at hl'; subst hl'
        refine ⟨by omega, fun x hx => ?_⟩
        obtain ⟨m, hm⟩ := List.getElem?_of_mem hx
        exact hkok m x (by have := (List.getElem?_eq_some_iff.1 hm).1; omega) hm⟩, SubL.rfl, by show p.length - (i + 1) < p.length - i; omega⟩
  refine vn (p_len el22 (List.length_map _)) rfl ?_
  dsimp only [c_a, n_a]
  refine vn q_leq rfl ?_
  dsimp only [c_a, n_a]
  rw [show smallP p = decide ((p.length : Int) ≤ 6) by
    unfold smallP; rw [decide_eq_decide]
    constructor
    · rintro ⟨h, _⟩; omega
    · intro h
      refine ⟨by omega, fun l hl => ?_⟩
      obtain ⟨m, hm⟩ := List.getElem?_of_mem hl
      exact hok m l (by have := (List.getElem?_eq_some_iff.1 hm).1; omega) hm]; exact vret rfl

/-- a case as it is handed in -/
structure CaseD where
  p : List (List NumD)
  long : Int
  c : NumD
  y : List NumD
  kind : Nat
  n : Int
abbrev caT (c : CaseD) : STy := .agg [sP c.p, .int .i64 c.long, .int .i64 c.c.n, .int .i64 c.c.d, .int .u8 c.c.pow, sN c.y, .int .u8 c.kind, .int .i64 c.n]
structure CaseD.In (c : CaseD) : Prop where
  hp : InP c.p
  hl1 : -9223372036854775808 ≤ c.long
  hl2 : c.long < 9223372036854775808
  hc : c.c.In
  hyl : c.y.length < 140737488355328
  hy : ∀ x ∈ c.y, x.In
  hk : c.kind < 256
  hn1 : -9223372036854775808 ≤ c.n
  hn2 : c.n < 9223372036854775808
def CaseD.small (c : CaseD) : Bool := decide ((∀ x ∈ c.y, x.short = true) ∧ smallP c.p = true ∧ c.c.short = true ∧ c.y.length ≤ 6)

theorem d_Lsmall (c : CaseD) (h : c.In) : Does prog 15 [(caT c : STy)] (.ret [.one (.bool c.small)]) := by
  refine does_of_vc (args := [.v (some 8)]) (ins := [.v (caT c)]) (hints := (fun _ => none)) fo (by kernel_rfl) func15 ⟨rfl, trivial⟩ ?_
  rw [x_Lsmall]
  dsimp only [List.map, In.env, c_a, n_a]
  have hyl := h.hyl
  refine vloop {i : Nat // i ≤ c.y.length ∧ ∀ j x, j < i → c.y[j]? = some x → x.short = true} (fun g => [.one (.bool false), .one (.int .i64 g.1)]) (fun g => c.y.length - g.1) ⟨0, Nat.zero_le _, fun j x h => by omega⟩ SubL.rfl (fun _ => rfl) ?_
  rintro ⟨i, hi, hok⟩
  dsimp only [c_a, n_a] at hi hok ⊢
  refine vn (p_len el27 (List.length_map _)) rfl ?_
  dsimp only [c_a, n_a]
  refine vn q_lss rfl ?_
  dsimp only [c_a, n_a]
  refine vs _ rfl (fun h3 => ?_) (fun h3 => ?_)
  · obtain ⟨x, hx⟩ : ∃ x, c.y[i]? = some x := ⟨_, List.getElem?_eq_getElem (by omega)⟩
    refine vn (p_idxm el27 (by omega) (by omega) hx) rfl ?_
    dsimp only [c_a, n_a]
    refine vn (p_load ag26 (by decide) (by simp) (.inl rfl)) rfl ?_
    dsimp only [c_a, n_a]
    refine vcall (d_Lshort x (h.hy x (List.mem_of_getElem? hx))) rfl ?_
    dsimp only [c_a, n_a]
    refine vn p_not rfl ?_
    dsimp only [c_a, n_a]
    refine vsb (!x.short) rfl (fun h8 => ?_) (fun h8 => ?_)
    · rw [show c.small = false by
        unfold CaseD.small; rw [decide_eq_false_iff_not]
        rintro ⟨h2, _⟩
        rw [h2 x (List.mem_of_getElem? hx)] at h8; cases h8]; exact vret rfl
    refine vn (p_add_i64 (by omega) (by omega)) rfl ?_
    dsimp only [c_a, n_a]
    exact vback rfl ⟨⟨i + 1, by omega, fun j x' hj hx' => by
      rcases Nat.lt_or_ge j i with h | h
      · exact hok j x' h hx'
      · rw [show j = i by omega, hx] at hx'; simp only [Option.some.injEq] at hx'; subst hx'
        simpa using h8⟩, SubL.rfl, by show c.y.length - (i + 1) < c.y.length - i; omega⟩
  have hall : ∀ x ∈ c.y, x.short = true := fun x hx => by
    obtain ⟨m, hm⟩ := List.getElem?_of_mem hx
    exact hok m x (by have := (List.getElem?_eq_some_iff.1 hm).1; omega) hm
  refine vcall (d_LsmallRule c.p c.long h.hp) rfl ?_
  dsimp only [c_a, n_a]
  refine vsb (smallP c.p) rfl (fun h13 => ?_) (fun h13 => ?_)
  · refine vcall (d_Lshort c.c h.hc) rfl ?_
    dsimp only [c_a, n_a]
    refine vsb c.c.short rfl (fun h15 => ?_) (fun h15 => ?_)
    · refine vn (p_len el27 (List.length_map _)) rfl ?_
      dsimp only [c_a, n_a]
      refine vn q_leq rfl ?_
      dsimp only [c_a, n_a]
      rw [show c.small = decide ((c.y.length : Int) ≤ 6) by
        unfold CaseD.small; rw [decide_eq_decide]
        exact ⟨fun h => by have := h.2.2.2; omega, fun h => ⟨hall, h13, h15, by omega⟩⟩]; exact vret rfl
    rw [show c.small = false by unfold CaseD.small; rw [decide_eq_false_iff_not, h15]; simp]; exact vret rfl
  rw [show c.small = false by unfold CaseD.small; rw [decide_eq_false_iff_not, h13]; simp]; exact vret rfl
end Go.Sy
