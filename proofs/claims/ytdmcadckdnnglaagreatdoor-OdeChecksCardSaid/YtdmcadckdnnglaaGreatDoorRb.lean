/- The reference's integers: division, common divisors. The reference's rational numbers.
-/
import Derived.Test.YtdmcadckdnnglaaGreatDoorRa
set_option linter.unusedVariables false
set_option linter.unusedSimpArgs false
namespace Go.Sy
open Go Go.Proofs Tryz Ord

def t52_9 : Tr := .back 0 [(.w (W 10 0)), (.w (W 11 0))]
def t52_8 : Tr := .need (.prim [(W 4 0), (WK (1))] none) (.binOp .add 3 (.tmp 12) (.const (I3 (1))) 3) 3 false t52_9
def t52_7 : Tr := .need (.prim [(W 6 0), (W 9 0)] none) (.binOp .add 3 (.tmp 15) (.tmp 21) 3) 3 false t52_8
def t52_6 : Tr := .need (.call 263 [(W 0 0), (W 8 0)] [none]) (.call ⟨.value (.func 263), #[(.tmp 16), (.tmp 20)], #[45, 3]⟩) 3 true t52_7
def t52_5 : Tr := .need (.prim [(W 7 0), (W 4 0)] none) (.binOp .sub 3 (.tmp 18) (.tmp 19) 3) 3 false t52_6
def t52_4 : Tr := .need (.prim [(W 1 0), (WK (1))] none) (.binOp .sub 3 (.tmp 17) (.const (I3 (1))) 3) 3 false t52_5
def t52_3 : Tr := .need (.prim [(W 3 0), (WK (32768))] none) (.binOp .mul 3 (.tmp 14) (.const (I3 (32768))) 3) 3 false t52_4
def t52_10 : Tr := .ret [(W 3 0)]
def t52_2 : Tr := .split (.u 5 0) t52_3 t52_10
def t52_1 : Tr := .need (.prim [(W 4 0), (W 2 0)] none) (.binOp .lss 3 (.tmp 9) (.tmp 10) 3) 4 false t52_2
def t52_0 : Tr := .loop 0 [(.w (WK (0))), (.w (WK (0)))] t52_1
theorem x_Rfront : execF prog f284 (fun _ => none) [.v none, .v none, .v none] = t52_0 := by kernel_rfl
def t53_22 : Tr := .back 0 [(.w (W 19 0)), (.w (W 20 0))]
def t53_21 : Tr := .need (.prim [(W 16 0), (WK (1))] none) (.binOp .add 3 (.tmp 53) (.const (I3 (1))) 3) 3 false t53_22
def t53_20 : Tr := .need (.call 214 [(W 15 0), (W 1 0), (WK (-1))] [none]) (.call ⟨.value (.func 214), #[(.tmp 50), (.tmp 51), (.const (I3 (-1)))], #[45, 45, 3]⟩) 45 true t53_21
def t53_23 : Tr := .ret [(W 16 0), (W 15 0)]
def t53_19 : Tr := .split (.u 18 0) t53_20 t53_23
def t53_18 : Tr := .need (.prim [(W 17 0), (WK (0))] none) (.binOp .geq 3 (.tmp 48) (.const (I3 (0))) 3) 4 false t53_19
def t53_17 : Tr := .need (.call 215 [(W 15 0), (W 1 0)] [none]) (.call ⟨.value (.func 215), #[(.tmp 46), (.tmp 47)], #[45, 45]⟩) 3 true t53_18
def t53_16 : Tr := .loop 0 [(.w (W 14 0)), (.w (W 10 0))] t53_17
def t53_15 : Tr := .need (.call 214 [(W 0 0), (W 13 1), (WK (-1))] [none]) (.call ⟨.value (.func 214), #[(.tmp 38), (.tmp 44), (.const (I3 (-1)))], #[45, 45, 3]⟩) 45 true t53_16
def t53_14 : Tr := .need (.call 135 [(.agg [(U 12 0), (U 12 1)]), (.agg [(.c (.k (.int .i64 (1)))), (U 1 0)])] [(some 2)]) (.call ⟨.value (.func 135), #[(.tmp 40), (.tmp 42)], #[47, 47]⟩) 47 true t53_15
def t53_13 : Tr := .need (.call 139 [(W 10 0)] [(some 2)]) (.call ⟨.value (.func 139), #[(.tmp 39)], #[2]⟩) 47 false t53_14
def t53_30 : Tr := .back 0 [(.w (W 16 0)), (.w (W 17 0))]
def t53_29 : Tr := .need (.prim [(W 13 0), (WK (1))] none) (.binOp .add 3 (.tmp 53) (.const (I3 (1))) 3) 3 false t53_30
def t53_28 : Tr := .need (.call 214 [(W 12 0), (W 1 0), (WK (-1))] [none]) (.call ⟨.value (.func 214), #[(.tmp 50), (.tmp 51), (.const (I3 (-1)))], #[45, 45, 3]⟩) 45 true t53_29
def t53_31 : Tr := .ret [(W 13 0), (W 12 0)]
def t53_27 : Tr := .split (.u 15 0) t53_28 t53_31
def t53_26 : Tr := .need (.prim [(W 14 0), (WK (0))] none) (.binOp .geq 3 (.tmp 48) (.const (I3 (0))) 3) 4 false t53_27
def t53_25 : Tr := .need (.call 215 [(W 12 0), (W 1 0)] [none]) (.call ⟨.value (.func 215), #[(.tmp 46), (.tmp 47)], #[45, 45]⟩) 3 true t53_26
def t53_24 : Tr := .loop 0 [(.w (W 0 0)), (.w (W 10 0))] t53_25
def t53_12 : Tr := .split (.u 11 0) t53_13 t53_24
def t53_11 : Tr := .need (.prim [(W 10 0), (WK (0))] none) (.binOp .gtr 3 (.tmp 36) (.const (I3 (0))) 3) 4 false t53_12
def t53_10 : Tr := .need (.prim [(W 8 0), (W 9 0)] none) (.binOp .quo 3 (.tmp 21) (.tmp 25) 3) 3 false t53_11
def t53_9 : Tr := .need (.call 284 [(W 1 0), (W 2 0), (W 2 0)] [none]) (.call ⟨.value (.func 284), #[(.tmp 22), (.tmp 23), (.tmp 24)], #[45, 3, 3]⟩) 3 true t53_10
def t53_8 : Tr := .need (.call 284 [(W 0 0), (W 6 0), (W 7 0)] [none]) (.call ⟨.value (.func 284), #[(.tmp 16), (.tmp 18), (.tmp 20)], #[45, 3, 3]⟩) 3 false t53_9
def t53_7 : Tr := .need (.prim [(W 2 0), (WK (1))] none) (.binOp .add 3 (.tmp 19) (.const (I3 (1))) 3) 3 false t53_8
def t53_6 : Tr := .need (.prim [(W 2 0), (WK (1))] none) (.binOp .add 3 (.tmp 17) (.const (I3 (1))) 3) 3 false t53_7
def t53_36 : Tr := .need (.prim [(W 7 0), (W 9 0)] none) (.binOp .quo 3 (.tmp 30) (.tmp 34) 3) 3 false t53_11
def t53_35 : Tr := .need (.prim [(W 8 0), (WK (1))] none) (.binOp .add 3 (.tmp 33) (.const (I3 (1))) 3) 3 false t53_36
def t53_34 : Tr := .need (.call 284 [(W 1 0), (W 2 0), (WK (3))] [none]) (.call ⟨.value (.func 284), #[(.tmp 31), (.tmp 32), (.const (I3 (3)))], #[45, 3, 3]⟩) 3 false t53_35
def t53_33 : Tr := .need (.call 284 [(W 0 0), (W 6 0), (WK (4))] [none]) (.call ⟨.value (.func 284), #[(.tmp 27), (.tmp 29), (.const (I3 (4)))], #[45, 3, 3]⟩) 3 false t53_34
def t53_32 : Tr := .need (.prim [(W 2 0), (WK (1))] none) (.binOp .add 3 (.tmp 28) (.const (I3 (1))) 3) 3 false t53_33
def t53_5 : Tr := .split (.u 5 0) t53_6 t53_32
def t53_4 : Tr := .need (.prim [(W 2 0), (WK (3))] none) (.binOp .leq 3 (.tmp 14) (.const (I3 (3))) 3) 4 false t53_5
def t53_69 : Tr := .back 0 [(.w (W 13 0)), (.w (W 14 0))]
def t53_68 : Tr := .need (.prim [(W 10 0), (WK (1))] none) (.binOp .add 3 (.tmp 53) (.const (I3 (1))) 3) 3 false t53_69
def t53_67 : Tr := .need (.call 214 [(W 9 0), (W 1 0), (WK (-1))] [none]) (.call ⟨.value (.func 214), #[(.tmp 50), (.tmp 51), (.const (I3 (-1)))], #[45, 45, 3]⟩) 45 true t53_68
def t53_70 : Tr := .ret [(W 10 0), (W 9 0)]
def t53_66 : Tr := .split (.u 12 0) t53_67 t53_70
def t53_65 : Tr := .need (.prim [(W 11 0), (WK (0))] none) (.binOp .geq 3 (.tmp 48) (.const (I3 (0))) 3) 4 false t53_66
def t53_64 : Tr := .need (.call 215 [(W 9 0), (W 1 0)] [none]) (.call ⟨.value (.func 215), #[(.tmp 46), (.tmp 47)], #[45, 45]⟩) 3 true t53_65
def t53_63 : Tr := .loop 0 [(.w (W 8 0)), (.w (WK (0)))] t53_64
def t53_62 : Tr := .need (.call 214 [(W 0 0), (W 7 1), (WK (-1))] [none]) (.call ⟨.value (.func 214), #[(.tmp 38), (.tmp 44), (.const (I3 (-1)))], #[45, 45, 3]⟩) 45 true t53_63
def t53_61 : Tr := .need (.call 135 [(.agg [(U 6 0), (U 6 1)]), (.agg [(.c (.k (.int .i64 (1)))), (U 1 0)])] [(some 2)]) (.call ⟨.value (.func 135), #[(.tmp 40), (.tmp 42)], #[47, 47]⟩) 47 true t53_62
def t53_60 : Tr := .need (.call 139 [(WK (0))] [(some 2)]) (.call ⟨.value (.func 139), #[(.tmp 39)], #[2]⟩) 47 false t53_61
def t53_76 : Tr := .need (.prim [(W 7 0), (WK (1))] none) (.binOp .add 3 (.tmp 53) (.const (I3 (1))) 3) 3 false t52_9
def t53_75 : Tr := .need (.call 214 [(W 6 0), (W 1 0), (WK (-1))] [none]) (.call ⟨.value (.func 214), #[(.tmp 50), (.tmp 51), (.const (I3 (-1)))], #[45, 45, 3]⟩) 45 true t53_76
def t53_78 : Tr := .ret [(W 7 0), (W 6 0)]
def t53_74 : Tr := .split (.u 9 0) t53_75 t53_78
def t53_73 : Tr := .need (.prim [(W 8 0), (WK (0))] none) (.binOp .geq 3 (.tmp 48) (.const (I3 (0))) 3) 4 false t53_74
def t53_72 : Tr := .need (.call 215 [(W 6 0), (W 1 0)] [none]) (.call ⟨.value (.func 215), #[(.tmp 46), (.tmp 47)], #[45, 45]⟩) 3 true t53_73
def t53_71 : Tr := .loop 0 [(.w (W 0 0)), (.w (WK (0)))] t53_72
def t53_59 : Tr := .split (.u 5 0) t53_60 t53_71
def t53_58 : Tr := .need (.prim [(WK (0)), (WK (0))] none) (.binOp .gtr 3 (.tmp 36) (.const (I3 (0))) 3) 4 false t53_59
def t53_3 : Tr := .split (.u 4 0) t53_4 t53_58
def t53_2 : Tr := .need (.prim [(W 3 0), (W 2 0)] none) (.binOp .geq 3 (.tmp 11) (.tmp 12) 3) 4 false t53_3
def t53_1 : Tr := .need (.prim [(W 0 0)] none) (.call ⟨.builtin .len, #[(.tmp 10)], #[45]⟩) 3 false t53_2
def t53_0 : Tr := .need (.prim [(W 1 0)] none) (.call ⟨.builtin .len, #[(.tmp 8)], #[45]⟩) 3 false t53_1
theorem x_Rshare : execF prog f261 (fun _ => none) [.v none, .v none] = t53_0 := by kernel_rfl
def t54_4 : Tr := .ret [(.one (.c (.k (.slice none 0 0)))), (W 0 0)]
def t54_26 : Tr := .back 0 [(.w (W 24 0)), (.w (W 27 0)), (.row 26)]
def t54_25 : Tr := .need (.prim [(W 13 0), (WK (1))] none) (.binOp .add 3 (.tmp 30) (.const (I3 (1))) 3) 3 false t54_26
def t54_24 : Tr := .need (.app 1 8 (some 14) none (some 25)) (.call ⟨.builtin .append, #[(.tmp 47), (.tmp 49)], #[45, 45]⟩) 45 false t54_25
def t54_23 : Tr := .need (.lit 1 [[(.u 23 0)]]) (.buildSlice 45 1 #[(0, (.tmp 48))]) 45 false t54_24
def t54_22 : Tr := .need (.call 261 [(W 22 0), (W 1 0)] [none, none]) (.call ⟨.value (.func 261), #[(.tmp 42), (.tmp 43)], #[45, 45]⟩) 311 false t54_23
def t54_21 : Tr := .need (.call 260 [(.one (.c (.sr 1 21)))] [none]) (.call ⟨.value (.func 260), #[(.tmp 39)], #[45]⟩) 45 true t54_22
def t54_20 : Tr := .need (.app 1 8 (some 17) none (some 20)) (.call ⟨.builtin .append, #[(.tmp 33), (.tmp 38)], #[45, 45]⟩) 45 false t54_21
def t54_19 : Tr := .need (.lit 1 [[(.u 19 0)]]) (.buildSlice 45 1 #[(0, (.tmp 37))]) 45 false t54_20
def t54_18 : Tr := .need (.prim [(W 18 0)] none) (.load 3 (.tmp 36)) 3 false t54_19
def t54_17 : Tr := .need (.prim [(W 0 0), (W 13 0)] none) (.indexAddr 45 (.tmp 34) (.tmp 35)) 0 false t54_18
def t54_16 : Tr := .need (.app 1 8 none (some (.u 12 0)) none) (.call ⟨.builtin .append, #[(.const (.slice none 0 0)), (.tmp 32)], #[45, 45]⟩) 45 false t54_17
def t54_28 : Tr := .ret [(W 17 0), (W 12 0)]
def t54_27 : Tr := .need (.call 260 [(.one (.c (.sr 1 14)))] [none]) (.call ⟨.value (.func 260), #[(.tmp 51)], #[45]⟩) 45 false t54_28
def t54_15 : Tr := .split (.u 16 0) t54_16 t54_27
def t54_14 : Tr := .need (.prim [(W 13 0), (W 15 0)] none) (.binOp .lss 3 (.tmp 26) (.tmp 28) 3) 4 false t54_15
def t54_13 : Tr := .need (.prim [(W 0 0)] none) (.call ⟨.builtin .len, #[(.tmp 27)], #[45]⟩) 3 false t54_14
def t54_12 : Tr := .loop 0 [(.w (W 9 0)), (.w (W 11 0)), .nilrow] t54_13
def t54_11 : Tr := .need (.prim [(W 10 0), (WK (1))] none) (.binOp .sub 3 (.tmp 24) (.const (I3 (1))) 3) 3 false t54_12
def t54_10 : Tr := .need (.prim [(W 1 0)] none) (.call ⟨.builtin .len, #[(.tmp 23)], #[45]⟩) 3 false t54_11
def t54_9 : Tr := .need (.call 260 [(.one (.c (.sr 1 8)))] [none]) (.call ⟨.value (.func 260), #[(.tmp 21)], #[45]⟩) 45 true t54_10
def t54_8 : Tr := .need (.app 1 8 none (some (.u 7 0)) none) (.call ⟨.builtin .append, #[(.const (.slice none 0 0)), (.tmp 20)], #[45, 45]⟩) 45 false t54_9
def t54_7 : Tr := .need (.prim [(W 0 0), (W 6 0)] none) (.slice 45 (.tmp 16) none (some (.tmp 19)) none) 45 false t54_8
def t54_6 : Tr := .need (.prim [(W 5 0), (WK (1))] none) (.binOp .sub 3 (.tmp 18) (.const (I3 (1))) 3) 3 false t54_7
def t54_5 : Tr := .need (.prim [(W 1 0)] none) (.call ⟨.builtin .len, #[(.tmp 17)], #[45]⟩) 3 false t54_6
def t54_3 : Tr := .split (.u 4 0) t54_4 t54_5
def t54_2 : Tr := .need (.prim [(W 2 0), (W 3 0)] none) (.binOp .lss 3 (.tmp 11) (.tmp 13) 3) 4 false t54_3
def t54_1 : Tr := .need (.prim [(W 1 0)] none) (.call ⟨.builtin .len, #[(.tmp 12)], #[45]⟩) 3 false t54_2
def t54_0 : Tr := .need (.prim [(W 0 0)] none) (.call ⟨.builtin .len, #[(.tmp 10)], #[45]⟩) 3 false t54_1
theorem x_Rover : execF prog f213 (fun _ => none) [.v none, .v none] = t54_0 := by kernel_rfl
def t56_9 : Tr := .back 0 [(.w (W 8 0)), (.w (W 9 0))]
def t56_8 : Tr := .need (.prim [(W 2 0), (WK (1))] none) (.binOp .add 3 (.tmp 9) (.const (I3 (1))) 3) 3 false t56_9
def t56_7 : Tr := .need (.prim [(W 5 0), (W 7 0)] none) (.binOp .add 3 (.tmp 12) (.tmp 16) 3) 3 false t56_8
def t56_6 : Tr := .need (.prim [(W 6 0)] none) (.load 3 (.tmp 15)) 3 false t56_7
def t56_5 : Tr := .need (.prim [(W 0 0), (W 2 0)] none) (.indexAddr 45 (.tmp 13) (.tmp 14)) 0 false t56_6
def t56_4 : Tr := .need (.prim [(W 1 0), (WK (32768))] none) (.binOp .mul 3 (.tmp 11) (.const (I3 (32768))) 3) 3 false t56_5
def t56_10 : Tr := .ret [(W 1 0)]
def t56_3 : Tr := .split (.u 4 0) t56_4 t56_10
def t56_2 : Tr := .need (.prim [(W 2 0), (W 3 0)] none) (.binOp .lss 3 (.tmp 5) (.tmp 7) 3) 4 false t56_3
def t56_1 : Tr := .need (.prim [(W 0 0)] none) (.call ⟨.builtin .len, #[(.tmp 6)], #[45]⟩) 3 false t56_2
def t56_0 : Tr := .loop 0 [(.w (WK (0))), (.w (WK (0)))] t56_1
theorem x_Rshort : execF prog f257 (fun _ => none) [.v none] = t56_0 := by kernel_rfl
def t57_16 : Tr := .back 1 [(.w (W 15 0)), (.w (W 17 0))]
def t57_15 : Tr := .need (.prim [(W 14 0), (W 15 0)] none) (.binOp .rem 3 (.tmp 33) (.tmp 34) 3) 3 false t57_16
def t57_18 : Tr := .ret [(.agg [(U 17 0), (U 17 1)])]
def t57_17 : Tr := .need (.call 139 [(W 14 0)] [(some 2)]) (.call ⟨.value (.func 139), #[(.tmp 36)], #[2]⟩) 47 true t57_18
def t57_14 : Tr := .split (.u 16 0) t57_15 t57_17
def t57_13 : Tr := .need (.prim [(W 15 0), (WK (0))] none) (.binOp .neq 3 (.tmp 30) (.const (I3 (0))) 3) 4 false t57_14
def t57_12 : Tr := .loop 1 [(.w (W 12 0)), (.w (W 13 0))] t57_13
def t57_11 : Tr := .need (.call 257 [(W 3 0)] [none]) (.call ⟨.value (.func 257), #[(.tmp 28)], #[45]⟩) 3 true t57_12
def t57_10 : Tr := .need (.call 257 [(W 2 0)] [none]) (.call ⟨.value (.func 257), #[(.tmp 26)], #[45]⟩) 3 false t57_11
def t57_20 : Tr := .back 0 [(.w (W 3 0)), (.w (W 13 0)), (.w (W 4 0)), (.w (W 5 0))]
def t57_19 : Tr := .need (.call 213 [(W 2 0), (W 3 0)] [none, none]) (.call ⟨.value (.func 213), #[(.tmp 39), (.tmp 40)], #[45, 45]⟩) 269 false t57_20
def t57_9 : Tr := .split (.u 11 0) t57_10 t57_19
def t57_8 : Tr := .need (.prim [(W 10 0), (WK (4))] none) (.binOp .leq 3 (.tmp 23) (.const (I3 (4))) 3) 4 false t57_9
def t57_7 : Tr := .need (.prim [(W 3 0)] none) (.call ⟨.builtin .len, #[(.tmp 22)], #[45]⟩) 3 false t57_8
def t57_22 : Tr := .back 0 [(.w (W 3 0)), (.w (W 11 0)), (.w (W 4 0)), (.w (W 5 0))]
def t57_21 : Tr := .need (.call 213 [(W 2 0), (W 3 0)] [none, none]) (.call ⟨.value (.func 213), #[(.tmp 39), (.tmp 40)], #[45, 45]⟩) 269 false t57_22
def t57_6 : Tr := .split (.u 9 0) t57_7 t57_21
def t57_5 : Tr := .need (.prim [(W 8 0), (WK (4))] none) (.binOp .leq 3 (.tmp 19) (.const (I3 (4))) 3) 4 false t57_6
def t57_4 : Tr := .need (.prim [(W 2 0)] none) (.call ⟨.builtin .len, #[(.tmp 18)], #[45]⟩) 3 false t57_5
def t57_24 : Tr := .ret [(.agg [(U 8 0), (U 8 1)])]
def t57_23 : Tr := .need (.call 211 [(WK (1)), (W 2 0)] [(some 2)]) (.call ⟨.value (.func 211), #[(.const (I3 (1))), (.tmp 46)], #[3, 45]⟩) 47 true t57_24
def t57_3 : Tr := .split (.u 7 0) t57_4 t57_23
def t57_2 : Tr := .need (.prim [(W 6 0), (WK (0))] none) (.binOp .gtr 3 (.tmp 16) (.const (I3 (0))) 3) 4 false t57_3
def t57_1 : Tr := .need (.prim [(W 3 0)] none) (.call ⟨.builtin .len, #[(.tmp 15)], #[45]⟩) 3 false t57_2
def t57_0 : Tr := .loop 0 [(.w (W 0 1)), (.w (W 1 1)), (.w (WK (0))), (.w (.one (.c (.k (.slice none 0 0)))))] t57_1
theorem x_RZGcd : execF prog f212 (fun _ => none) [.v (some 2), .v (some 2)] = t57_0 := by kernel_rfl

theorem front_step {m long i : Nat} (h : i < long) : m / 32768 ^ (long - i) * 32768 + m / 32768 ^ (long - 1 - i) % 32768 = m / 32768 ^ (long - (i + 1)) := by
  have e : m / 32768 ^ (long - i) = m / 32768 ^ (long - (i + 1)) / 32768 := by
    rw [Nat.div_div_eq_div_mul, ← Nat.pow_succ]; congr 2; omega
  rw [e, show long - 1 - i = long - (i + 1) by omega]
  have := Nat.div_add_mod (m / 32768 ^ (long - (i + 1))) 32768
  omega
theorem front_lt {m long i : Nat} (h : i ≤ long) (hm : m < 32768 ^ long) : m / 32768 ^ (long - i) < 32768 ^ i := by
  rw [Nat.div_lt_iff_lt_mul (Nat.pow_pos (by omega)), ← Nat.pow_add, show i + (long - i) = long by omega]; exact hm
theorem pow4 {i : Nat} (h : i ≤ 4) : 32768 ^ i ≤ 1152921504606846976 := by
  have := Nat.pow_le_pow_right (n := 32768) (by omega) h
  rw [show (32768 : Nat) ^ 4 = 1152921504606846976 by decide] at this; exact this

theorem d_Rfront (m long k : Nat) (hm : m < 32768 ^ long) (hk : k ≤ long) (hk4 : k ≤ 4) (hl : long < 1099511627776) (hs : (bd m).length < 1099511627776) : Does prog 284 [(.one (bT m) : STy), (.one (.int .i64 long) : STy), (.one (.int .i64 k) : STy)] (.ret [.one (.int .i64 ((m / 32768 ^ (long - k) : Nat) : Int))]) := by
  refine does_of_vc (args := [.v none, .v none, .v none]) (ins := [.v (.one (bT m)), .v (.one (.int .i64 long)), .v (.one (.int .i64 k))]) (hints := (fun _ => none)) fo (by kernel_rfl) func284 ⟨rfl, rfl, rfl, trivial⟩ ?_
  rw [x_Rfront]
  dsimp only [List.map, In.env, c_a, n_a]
  refine vloop {i : Nat // i ≤ k} (fun g => [.one (.int .i64 ((m / 32768 ^ (long - g.1) : Nat) : Int)), .one (.int .i64 g.1)]) (fun g => k - g.1) ⟨0, Nat.zero_le _⟩ ⟨STy.Sub.of_eq (congrArg (fun q : Nat => STy.one (CTy.int .i64 (q : Int))) (by show 0 = m / 32768 ^ long; rw [Nat.div_eq_of_lt hm])), STy.Sub.same, trivial⟩ (fun _ => rfl) ?_
  rintro ⟨i, hi⟩
  dsimp only [c_a, n_a] at hi ⊢
  refine vn q_lss rfl ?_
  dsimp only [c_a, n_a]
  refine vs _ rfl (fun h2 => ?_) (fun h2 => ?_)
  · have hx := front_lt (m := m) (i := i) (long := long) (by omega) hm
    have hp := pow4 (i := i) (by omega)
    have hstep := front_step (m := m) (long := long) (i := i) (by omega)
    have hlt := front_lt (m := m) (i := i + 1) (long := long) (by omega) hm
    have hp2 := pow4 (i := i + 1) (by omega)
    generalize m / 32768 ^ (long - i) = x at *
    generalize hy : m / 32768 ^ (long - (i + 1)) = y at *
    refine vn (p_mul_i64 (by omega) (by omega)) rfl ?_
    dsimp only [c_a, n_a]
    refine vn (p_sub_i64 (by omega) (by omega)) rfl ?_
    dsimp only [c_a, n_a]
    refine vn (p_sub (c := ((long - 1 - i : Nat) : Int)) (by rw [show ((long : Int) - 1 - (i : Int)) = ((long - 1 - i : Nat) : Int) by omega]; exact wr_i64 (by omega) (by omega))) rfl ?_
    dsimp only [c_a, n_a]
    refine vcall (d_Rdigit m (long - 1 - i) (by omega) hs) rfl ?_
    generalize m / 32768 ^ (long - 1 - i) % 32768 = d at *
    dsimp only [c_a, n_a]
    refine vn (p_add (c := (y : Int)) (by rw [show (x : Int) * 32768 + (d : Int) = (y : Int) by omega]; exact wr_i64 (by omega) (by omega))) rfl ?_
    dsimp only [c_a, n_a]
    refine vn (p_add_i64 (by omega) (by omega)) rfl ?_
    dsimp only [c_a, n_a]
    exact vback rfl ⟨⟨i + 1, by omega⟩, ⟨STy.Sub.of_eq (congrArg (fun q : Nat => STy.one (CTy.int .i64 (q : Int))) hy.symm), STy.Sub.same, trivial⟩, by show k - (i + 1) < k - i; omega⟩
  rw [show k = i by omega]; exact vret rfl

theorem zT_pos {d : Nat} (h : 0 < d) : zT (d : Int) = .agg [.int .i64 1, bT d] := by
  rw [zT, zC, Int.sign_eq_one_of_pos (by omega)]; rfl
theorem share_le {r d m : Nat} : r / 32768 ^ m / (d / 32768 ^ m + 1) * d ≤ r := by
  have hp : 0 < 32768 ^ m := Nat.pow_pos (by omega)
  have h1 : d ≤ (d / 32768 ^ m + 1) * 32768 ^ m := by
    rw [Nat.mul_comm]; exact Nat.le_of_lt (Nat.lt_mul_div_succ d hp)
  calc r / 32768 ^ m / (d / 32768 ^ m + 1) * d ≤ r / 32768 ^ m / (d / 32768 ^ m + 1) * ((d / 32768 ^ m + 1) * 32768 ^ m) := Nat.mul_le_mul_left _ h1
    _ = r / 32768 ^ m / (d / 32768 ^ m + 1) * (d / 32768 ^ m + 1) * 32768 ^ m := (Nat.mul_assoc _ _ _).symm
    _ ≤ r / 32768 ^ m * 32768 ^ m := Nat.mul_le_mul_right _ (Nat.div_mul_le_self _ _)
    _ ≤ r := Nat.div_mul_le_self _ _

set_option maxHeartbeats 2000000 in
theorem d_Rshare (r d : Nat) (hd : 0 < d) (hr : r < d * 32768) (hs : (bd d).length < 34359738368) : Does prog 261 [(.one (bT r) : STy), (.one (bT d) : STy)] (.ret [.one (.int .i64 ((r / d : Nat) : Int)), .one (bT (r % d))]) := by
  refine does_of_vc (args := [.v none, .v none]) (ins := [.v (.one (bT r)), .v (.one (bT d))]) (hints := (fun _ => none)) fo (by kernel_rfl) func261 ⟨rfl, rfl, trivial⟩ ?_
  rw [x_Rshare]
  dsimp only [List.map, In.env, c_a, n_a]
  have hdl := bd_lt d
  have hrl : r < 32768 ^ ((bd d).length + 1) := by
    rw [Nat.pow_succ]; exact Nat.lt_trans hr (Nat.mul_lt_mul_of_pos_right hdl (by omega))
  have hrs := bd_len_le hrl
  have hle : ∀ q, q ≤ r → (bd q).length ≤ (bd d).length + 1 := fun q hq => Nat.le_trans (bd_len_mono hq) hrs
  have hdn : 0 < (bd d).length := by
    rcases Nat.eq_zero_or_pos (bd d).length with h | h
    · have := bd_nil.1 (List.eq_nil_of_length_eq_zero h); omega
    · exact h
  have hqB : r / d < 32768 := by rw [Nat.div_lt_iff_lt_mul hd, Nat.mul_comm]; exact hr
  have hkd : ∀ k, k * d ≤ r → k < 32768 := fun k hk => by
    have : k ≤ r / d := by rw [Nat.le_div_iff_mul_le hd]; exact hk
    omega
  have hfin : ∀ r' k, r' + k * d = r → r' < d → k = r / d ∧ r' = r % d := fun r' k h1 h2 => longd_end (by rw [← h1, Nat.mul_comm]) h2
  have hah : ∀ r' : Nat, (0 ≤ cmpI (r' : Int) (d : Int)) ↔ d ≤ r' := fun r' => by
    have := cmpI_neg (a := (r' : Int)) (b := (d : Int)); omega
  refine vn (p_len el45 (List.length_map _)) rfl ?_
  dsimp only [c_a, n_a]
  refine vn (p_len el45 (List.length_map _)) rfl ?_
  dsimp only [c_a, n_a]
  refine vn q_geq rfl ?_
  dsimp only [c_a, n_a]
  refine vs _ rfl (fun h3 => ?_) (fun h3 => ?_)
  · refine vn q_leq rfl ?_
    dsimp only [c_a, n_a]
    refine vs _ rfl (fun h5 => ?_) (fun h5 => ?_)
    · refine vn (p_add_i64 (by omega) (by omega)) rfl ?_
      dsimp only [c_a, n_a]
      refine vn (p_add_i64 (by omega) (by omega)) rfl ?_
      dsimp only [c_a, n_a]
      refine vcall (d_Rfront r ((bd d).length + 1) ((bd d).length + 1) hrl (Nat.le_refl _) (by omega) (by omega) (by omega)) rfl ?_
      rw [Nat.sub_self, Nat.pow_zero, Nat.div_one]
      dsimp only [c_a, n_a]
      refine vcall (d_Rfront d (bd d).length (bd d).length hdl (Nat.le_refl _) (by omega) (by omega) (by omega)) rfl ?_
      rw [Nat.sub_self, Nat.pow_zero, Nat.div_one]
      dsimp only [c_a, n_a]
      obtain ⟨k, hk⟩ : ∃ k, r / d = k := ⟨_, rfl⟩
      have hk1 : k * d ≤ r := by rw [← hk]; exact Nat.div_mul_le_self _ _
      have hk2 := hkd k hk1
      refine vn (p_quo (c := (k : Int)) (by omega) (by rw [Int.tdiv_eq_ediv_of_nonneg (cast_nn _), ← Int.natCast_ediv, hk]; exact wr_i64 (by omega) (by omega))) rfl ?_
      dsimp only [c_a, n_a]
      refine vn q_gtr rfl ?_
      dsimp only [c_a, n_a]
      refine vs _ rfl (fun h12 => ?_) (fun h12 => ?_)
      · have hm := d_RZMul (k : Int) (d : Int) (by
          rw [Int.natAbs_natCast, Int.natAbs_natCast]
          have : (bd k).length ≤ 1 := bd_len_le (by omega)
          omega)
        rw [zT_pos hd, show (k : Int) * (d : Int) = ((k * d : Nat) : Int) by rw [Int.natCast_mul]] at hm
        refine vcall (d_RZInt k (by omega) (by omega)) rfl ?_
        dsimp only [c_a, n_a]
        refine vcall hm rfl ?_
        dsimp only [c_a, n_a]
        refine vcall (d_Rboth r (k * d) (r - k * d) (-1) (.inr rfl) (by omega) (by omega) (by have := hle _ hk1; omega)) rfl ?_
        dsimp only [c_a, n_a]
        refine vloop {g : Nat × Nat // g.1 + g.2 * d = r} (fun g => [.one (bT g.1.1), .one (.int .i64 g.1.2)]) (fun g => g.1.1) ⟨(r - k * d, k), by show r - k * d + k * d = r; omega⟩ SubL.rfl (fun _ => rfl) ?_
        rintro ⟨⟨r', k'⟩, hg⟩
        dsimp only [c_a, n_a] at hg ⊢
        have hk3 := hkd k' (by omega)
        have hr3 := hle r' (by omega)
        refine vcall (d_Rahead r' d (by omega)) rfl ?_
        dsimp only [c_a, n_a]
        refine vn q_geq rfl ?_
        dsimp only [c_a, n_a]
        refine vs _ rfl (fun h19 => ?_) (fun h19 => ?_)
        · have hdr : d ≤ r' := (hah r').1 (by assumption)
          refine vcall (d_Rboth r' d (r' - d) (-1) (.inr rfl) (by omega) (by omega) (by omega)) rfl ?_
          dsimp only [c_a, n_a]
          refine vn (p_add_i64 (by omega) (by omega)) rfl ?_
          dsimp only [c_a, n_a]
          exact vback rfl ⟨⟨(r' - d, k' + 1), by show r' - d + (k' + 1) * d = r; rw [Nat.add_mul]; omega⟩, SubL.rfl, by show r' - d < r'; omega⟩
        have hdr : r' < d := by
          rcases Nat.lt_or_ge r' d with h | h
          · exact h
          · exact absurd ((hah r').2 h) (by assumption)
        obtain ⟨e1, e2⟩ := hfin r' k' hg hdr
        rw [← e1, ← e2]; exact vret rfl
      refine vloop {g : Nat × Nat // g.1 + g.2 * d = r} (fun g => [.one (bT g.1.1), .one (.int .i64 g.1.2)]) (fun g => g.1.1) ⟨(r, 0), by omega⟩ ⟨STy.Sub.same, STy.Sub.of_eq (congrArg (fun q : Nat => STy.one (CTy.int .i64 (q : Int))) (by show k = 0; omega)), trivial⟩ (fun _ => rfl) ?_
      rintro ⟨⟨r', k'⟩, hg⟩
      dsimp only [c_a, n_a] at hg ⊢
      have hk3 := hkd k' (by omega)
      have hr3 := hle r' (by omega)
      refine vcall (d_Rahead r' d (by omega)) rfl ?_
      dsimp only [c_a, n_a]
      refine vn q_geq rfl ?_
      dsimp only [c_a, n_a]
      refine vs _ rfl (fun h27 => ?_) (fun h27 => ?_)
      · have hdr : d ≤ r' := (hah r').1 (by assumption)
        refine vcall (d_Rboth r' d (r' - d) (-1) (.inr rfl) (by omega) (by omega) (by omega)) rfl ?_
        dsimp only [c_a, n_a]
        refine vn (p_add_i64 (by omega) (by omega)) rfl ?_
        dsimp only [c_a, n_a]
        exact vback rfl ⟨⟨(r' - d, k' + 1), by show r' - d + (k' + 1) * d = r; rw [Nat.add_mul]; omega⟩, SubL.rfl, by show r' - d < r'; omega⟩
      have hdr : r' < d := by
        rcases Nat.lt_or_ge r' d with h | h
        · exact h
        · exact absurd ((hah r').2 h) (by assumption)
      obtain ⟨e1, e2⟩ := hfin r' k' hg hdr
      rw [← e1, ← e2]; exact vret rfl
    refine vn (p_add_i64 (by omega) (by omega)) rfl ?_
    dsimp only [c_a, n_a]
    refine vcall (d_Rfront r ((bd d).length + 1) 4 hrl (by omega) (by omega) (by omega) (by omega)) rfl ?_
    dsimp only [c_a, n_a]
    refine vcall (d_Rfront d (bd d).length 3 hdl (by omega) (by omega) (by omega) (by omega)) rfl ?_
    rw [show (bd d).length + 1 - 4 = (bd d).length - 3 by omega]
    have hd3 := front_lt (m := d) (long := (bd d).length) (i := 3) (by omega) hdl
    have hr4 := front_lt (m := r) (long := (bd d).length + 1) (i := 4) (by omega) hrl
    rw [show (bd d).length + 1 - 4 = (bd d).length - 3 by omega] at hr4
    have hp3 := pow4 (i := 3) (by omega)
    have hp4 := pow4 (i := 4) (by omega)
    have hk1 := share_le (r := r) (d := d) (m := (bd d).length - 3)
    generalize r / 32768 ^ ((bd d).length - 3) = rt at *
    generalize d / 32768 ^ ((bd d).length - 3) = dt at *
    obtain ⟨k, hk⟩ : ∃ k, rt / (dt + 1) = k := ⟨_, rfl⟩
    rw [hk] at hk1
    have hk2 := hkd k hk1
    dsimp only [c_a, n_a]
    refine vn (p_add_i64 (by omega) (by omega)) rfl ?_
    dsimp only [c_a, n_a]
    refine vn (p_quo (c := (k : Int)) (by omega) (by rw [Int.tdiv_eq_ediv_of_nonneg (cast_nn _), show ((dt : Int) + 1) = ((dt + 1 : Nat) : Int) by omega, ← Int.natCast_ediv, hk]; exact wr_i64 (by omega) (by omega))) rfl ?_
    dsimp only [c_a, n_a]
    refine vn q_gtr rfl ?_
    dsimp only [c_a, n_a]
    refine vs _ rfl (fun h38 => ?_) (fun h38 => ?_)
    · have hm := d_RZMul (k : Int) (d : Int) (by
        rw [Int.natAbs_natCast, Int.natAbs_natCast]
        have : (bd k).length ≤ 1 := bd_len_le (by omega)
        omega)
      rw [zT_pos hd, show (k : Int) * (d : Int) = ((k * d : Nat) : Int) by rw [Int.natCast_mul]] at hm
      refine vcall (d_RZInt k (by omega) (by omega)) rfl ?_
      dsimp only [c_a, n_a]
      refine vcall hm rfl ?_
      dsimp only [c_a, n_a]
      refine vcall (d_Rboth r (k * d) (r - k * d) (-1) (.inr rfl) (by omega) (by omega) (by have := hle _ hk1; omega)) rfl ?_
      dsimp only [c_a, n_a]
      refine vloop {g : Nat × Nat // g.1 + g.2 * d = r} (fun g => [.one (bT g.1.1), .one (.int .i64 g.1.2)]) (fun g => g.1.1) ⟨(r - k * d, k), by show r - k * d + k * d = r; omega⟩ SubL.rfl (fun _ => rfl) ?_
      rintro ⟨⟨r', k'⟩, hg⟩
      dsimp only [c_a, n_a] at hg ⊢
      have hk3 := hkd k' (by omega)
      have hr3 := hle r' (by omega)
      refine vcall (d_Rahead r' d (by omega)) rfl ?_
      dsimp only [c_a, n_a]
      refine vn q_geq rfl ?_
      dsimp only [c_a, n_a]
      refine vs _ rfl (fun h45 => ?_) (fun h45 => ?_)
      · have hdr : d ≤ r' := (hah r').1 (by assumption)
        refine vcall (d_Rboth r' d (r' - d) (-1) (.inr rfl) (by omega) (by omega) (by omega)) rfl ?_
        dsimp only [c_a, n_a]
        refine vn (p_add_i64 (by omega) (by omega)) rfl ?_
        dsimp only [c_a, n_a]
        exact vback rfl ⟨⟨(r' - d, k' + 1), by show r' - d + (k' + 1) * d = r; rw [Nat.add_mul]; omega⟩, SubL.rfl, by show r' - d < r'; omega⟩
      have hdr : r' < d := by
        rcases Nat.lt_or_ge r' d with h | h
        · exact h
        · exact absurd ((hah r').2 h) (by assumption)
      obtain ⟨e1, e2⟩ := hfin r' k' hg hdr
      rw [← e1, ← e2]; exact vret rfl
    refine vloop {g : Nat × Nat // g.1 + g.2 * d = r} (fun g => [.one (bT g.1.1), .one (.int .i64 g.1.2)]) (fun g => g.1.1) ⟨(r, 0), by omega⟩ ⟨STy.Sub.same, STy.Sub.of_eq (congrArg (fun q : Nat => STy.one (CTy.int .i64 (q : Int))) (by show k = 0; omega)), trivial⟩ (fun _ => rfl) ?_
    rintro ⟨⟨r', k'⟩, hg⟩
    dsimp only [c_a, n_a] at hg ⊢
    have hk3 := hkd k' (by omega)
    have hr3 := hle r' (by omega)
    refine vcall (d_Rahead r' d (by omega)) rfl ?_
    dsimp only [c_a, n_a]
    refine vn q_geq rfl ?_
    dsimp only [c_a, n_a]
    refine vs _ rfl (fun h53 => ?_) (fun h53 => ?_)
    · have hdr : d ≤ r' := (hah r').1 (by assumption)
      refine vcall (d_Rboth r' d (r' - d) (-1) (.inr rfl) (by omega) (by omega) (by omega)) rfl ?_
      dsimp only [c_a, n_a]
      refine vn (p_add_i64 (by omega) (by omega)) rfl ?_
      dsimp only [c_a, n_a]
      exact vback rfl ⟨⟨(r' - d, k' + 1), by show r' - d + (k' + 1) * d = r; rw [Nat.add_mul]; omega⟩, SubL.rfl, by show r' - d < r'; omega⟩
    have hdr : r' < d := by
      rcases Nat.lt_or_ge r' d with h | h
      · exact h
      · exact absurd ((hah r').2 h) (by assumption)
    obtain ⟨e1, e2⟩ := hfin r' k' hg hdr
    rw [← e1, ← e2]; exact vret rfl
  refine vn q_gtr rfl ?_
  dsimp only [c_a, n_a]
  refine vs _ rfl (fun h59 => ?_) (fun h59 => ?_)
  · exfalso; omega
    -- stop
  refine vloop {g : Nat × Nat // g.1 + g.2 * d = r} (fun g => [.one (bT g.1.1), .one (.int .i64 g.1.2)]) (fun g => g.1.1) ⟨(r, 0), by omega⟩ SubL.rfl (fun _ => rfl) ?_
  rintro ⟨⟨r', k'⟩, hg⟩
  dsimp only [c_a, n_a] at hg ⊢
  have hk3 := hkd k' (by omega)
  have hr3 := hle r' (by omega)
  refine vcall (d_Rahead r' d (by omega)) rfl ?_
  dsimp only [c_a, n_a]
  refine vn q_geq rfl ?_
  dsimp only [c_a, n_a]
  refine vs _ rfl (fun h74 => ?_) (fun h74 => ?_)
  · have hdr : d ≤ r' := (hah r').1 (by assumption)
    refine vcall (d_Rboth r' d (r' - d) (-1) (.inr rfl) (by omega) (by omega) (by omega)) rfl ?_
    dsimp only [c_a, n_a]
    refine vn (p_add_i64 (by omega) (by omega)) rfl ?_
    dsimp only [c_a, n_a]
    exact vback rfl ⟨⟨(r' - d, k' + 1), by show r' - d + (k' + 1) * d = r; rw [Nat.add_mul]; omega⟩, SubL.rfl, by show r' - d < r'; omega⟩
  have hdr : r' < d := by
    rcases Nat.lt_or_ge r' d with h | h
    · exact h
    · exact absurd ((hah r').2 h) (by assumption)
  obtain ⟨e1, e2⟩ := hfin r' k' hg hdr
  rw [← e1, ← e2]; exact vret rfl

set_option maxHeartbeats 1000000 in
theorem d_Rover (a d : Nat) (hd : 0 < d) (hs : (bd a).length + (bd d).length < 34359738368) : Does prog 213 [(.one (bT a) : STy), (.one (bT d) : STy)] (.ret [.one (bT (a / d)), .one (bT (a % d))]) := by
  refine does_of_vc (args := [.v none, .v none]) (ins := [.v (.one (bT a)), .v (.one (bT d))]) (hints := (fun _ => none)) fo (by kernel_rfl) func213 ⟨rfl, rfl, trivial⟩ ?_
  rw [x_Rover]
  dsimp only [List.map, In.env, c_a, n_a]
  have hdn : 0 < (bd d).length := by
    rcases Nat.eq_zero_or_pos (bd d).length with h | h
    · have := bd_nil.1 (List.eq_nil_of_length_eq_zero h); omega
    · exact h
  refine vn (p_len el45 (List.length_map _)) rfl ?_
  dsimp only [c_a, n_a]
  refine vn (p_len el45 (List.length_map _)) rfl ?_
  dsimp only [c_a, n_a]
  refine vn q_lss rfl ?_
  dsimp only [c_a, n_a]
  refine vs _ rfl (fun h3 => ?_) (fun h3 => ?_)
  · have had := bd_len_iff (a := a) (b := d) (by omega)
    refine vrets ⟨nilB (Nat.div_eq_of_lt had), ?_, trivial⟩
    rw [Nat.mod_eq_of_lt had]; exact CTy.Sub.same
  refine vn (p_len el45 (List.length_map _)) rfl ?_
  dsimp only [c_a, n_a]
  refine vn (p_sub_i64 (by omega) (by omega)) rfl ?_
  dsimp only [c_a, n_a]
  refine vn (sliceBh (m := (bd d).length - 1) (by omega) (by omega) (by omega)) rfl ?_
  dsimp only [c_a, n_a]
  refine vapp (ts := []) (us := rB ((bd a).take ((bd d).length - 1))) (vs := rB ((bd a).take ((bd d).length - 1))) rfl (.inr CTy.Sub.same) rfl (by simp; omega) (by simp [maxLen]; omega) ?_
  dsimp only [c_a, n_a]
  refine vcall (d_Rstrip ((bd a).take ((bd d).length - 1)) ((bd_DB a).take _) (by rw [List.length_take]; omega)) rfl ?_
  dsimp only [c_a, n_a]
  refine vn (p_len el45 (List.length_map _)) rfl ?_
  dsimp only [c_a, n_a]
  refine vn (p_sub_i64 (by omega) (by omega)) rfl ?_
  dsimp only [c_a, n_a]
  refine vloop {g : Nat × Nat × List Nat // (bd d).length - 1 ≤ g.1 ∧ g.1 ≤ (bd a).length ∧ bv ((bd a).take g.1) = g.2.1 + d * bv g.2.2 ∧ g.2.1 < d ∧ DB 32768 g.2.2 ∧ g.2.2.length ≤ g.1} (fun g => [.one (bT g.1.2.1), .one (.int .i64 g.1.1), .rows (rB g.1.2.2)]) (fun g => (bd a).length - g.1.1) ⟨((bd d).length - 1, bv ((bd a).take ((bd d).length - 1)), []), Nat.le_refl _, by show (bd d).length - 1 ≤ _; omega, by simp [bv, val], by
    have h1 := bv_lt ((bd_DB a).take ((bd d).length - 1))
    rw [List.length_take, Nat.min_eq_left (by omega)] at h1
    exact Nat.lt_of_lt_of_le h1 (bd_ge (by omega)), dbnil, Nat.zero_le _⟩ ⟨STy.Sub.same, STy.Sub.of_eq (congrArg (fun q => STy.one (CTy.int .i64 q)) (by show ((bd d).length : Int) - 1 = (((bd d).length - 1 : Nat) : Int); omega)), STy.Sub.same, trivial⟩ (fun _ => rfl) ?_
  rintro ⟨⟨i, R, qs⟩, hi1, hi2, hv, hR, hq, hql⟩
  dsimp only [c_a, n_a] at hi1 hi2 hv hR hq hql ⊢
  have hRl := bd_len_mono (Nat.le_of_lt hR)
  refine vn (p_len el45 (List.length_map _)) rfl ?_
  dsimp only [c_a, n_a]
  refine vn q_lss rfl ?_
  dsimp only [c_a, n_a]
  refine vs _ rfl (fun h15 => ?_) (fun h15 => ?_)
  · obtain ⟨x, hx⟩ : ∃ x, (bd a)[i]? = some x := ⟨_, List.getElem?_eq_getElem (by omega)⟩
    have hxB := (bd_DB a).get hx
    refine vapp (ts := []) (us := rB (bd R)) (vs := rB (bd R)) rfl (.inr CTy.Sub.same) rfl (by simp; omega) (by simp [maxLen]; omega) ?_
    dsimp only [c_a, n_a]
    refine vn (p_idxm el45 (by omega) (by omega) hx) rfl ?_
    dsimp only [c_a, n_a]
    refine vn (p_load1 ag3) rfl ?_
    dsimp only [c_a, n_a]
    refine vlit (us := rB [x]) rfl ?_
    dsimp only [c_a, n_a]
    refine vapp (ts := rB (bd R)) (us := rB [x]) (vs := rB (bd R ++ [x])) rfl rfl (by rw [rB, rB, rB, ← List.map_append]) (by simp; omega) (by simp [maxLen]; omega) ?_
    dsimp only [c_a, n_a]
    have hdb : DB 32768 (bd R ++ [x]) := (bd_DB R).append (fun y hy => by simp at hy; omega)
    refine vcall (d_Rstrip (bd R ++ [x]) hdb (by simp; omega)) rfl ?_
    rw [bv_snoc, bv_bd]
    dsimp only [c_a, n_a]
    refine vcall (d_Rshare (R * 32768 + x) d hd (by
      have : (R + 1) * 32768 ≤ d * 32768 := Nat.mul_le_mul_right _ hR
      omega) (by omega)) rfl ?_
    have hmd := Nat.mod_add_div (R * 32768 + x) d
    have hqB : (R * 32768 + x) / d < 32768 := by
      rw [Nat.div_lt_iff_lt_mul hd, Nat.mul_comm]
      have : (R + 1) * 32768 ≤ d * 32768 := Nat.mul_le_mul_right _ hR
      omega
    have hRm := Nat.mod_lt (R * 32768 + x) hd
    generalize (R * 32768 + x) / d = k at *
    generalize (R * 32768 + x) % d = R' at *
    dsimp only [c_a, n_a]
    refine vlit (us := rB [k]) rfl ?_
    dsimp only [c_a, n_a]
    refine vapp (ts := rB qs) (us := rB [k]) (vs := rB (qs ++ [k])) rfl rfl (by rw [rB, rB, rB, ← List.map_append]) (by simp; omega) (by simp [maxLen]; omega) ?_
    dsimp only [c_a, n_a]
    refine vn (p_add_i64 (by omega) (by omega)) rfl ?_
    dsimp only [c_a, n_a]
    exact vback rfl ⟨⟨(i + 1, R', qs ++ [k]), by show _ ≤ i + 1; omega, by show i + 1 ≤ _; omega, by
      show bv ((bd a).take (i + 1)) = R' + d * bv (qs ++ [k])
      rw [take_succ hx, bv_snoc, bv_snoc, hv, Nat.mul_add, Nat.add_mul, ← Nat.mul_assoc]
      omega, hRm, hq.append (fun y hy => by simp at hy; omega), by show (qs ++ [k]).length ≤ i + 1; simp; omega⟩, SubL.rfl, by show (bd a).length - (i + 1) < (bd a).length - i; omega⟩
  have hie : i = (bd a).length := by omega
  subst hie
  rw [List.take_length, bv_bd] at hv
  obtain ⟨e1, e2⟩ := longd_end hv hR
  refine vcall (d_Rstrip qs hq (by omega)) rfl ?_
  dsimp only [c_a, n_a]
  rw [← e1, ← e2]; exact vret rfl

theorem d_Rshort (m : Nat) (hm : (bd m).length ≤ 4) : Does prog 257 [(.one (bT m) : STy)] (.ret [.one (.int .i64 m)]) := by
  refine does_of_vc (args := [.v none]) (ins := [.v (.one (bT m))]) (hints := (fun _ => none)) fo (by kernel_rfl) func257 ⟨rfl, trivial⟩ ?_
  rw [x_Rshort]
  dsimp only [List.map, In.env, c_a, n_a]
  refine vloop {i : Nat // i ≤ (bd m).length} (fun g => [.one (.int .i64 (bv ((bd m).take g.1) : Nat)), .one (.int .i64 g.1)]) (fun g => (bd m).length - g.1) ⟨0, Nat.zero_le _⟩ SubL.rfl (fun _ => rfl) ?_
  rintro ⟨i, hi⟩
  dsimp only [c_a, n_a] at hi ⊢
  refine vn (p_len el45 (List.length_map _)) rfl ?_
  dsimp only [c_a, n_a]
  refine vn q_lss rfl ?_
  dsimp only [c_a, n_a]
  refine vs _ rfl (fun h3 => ?_) (fun h3 => ?_)
  · obtain ⟨x, hx⟩ : ∃ x, (bd m)[i]? = some x := ⟨_, List.getElem?_eq_getElem (by omega)⟩
    have hxB := (bd_DB m).get hx
    have hb := bv_lt ((bd_DB m).take i)
    rw [List.length_take, Nat.min_eq_left hi] at hb
    have hp := pow4 (i := i) (by omega)
    have hb2 := bv_lt ((bd_DB m).take (i + 1))
    rw [List.length_take, Nat.min_eq_left (by omega)] at hb2
    have hp2 := pow4 (i := i + 1) (by omega)
    have hsn : bv ((bd m).take (i + 1)) = bv ((bd m).take i) * 32768 + x := by rw [take_succ hx, bv_snoc]
    generalize bv ((bd m).take i) = y at *
    refine vn (p_mul_i64 (by omega) (by omega)) rfl ?_
    dsimp only [c_a, n_a]
    refine vn (p_idxm el45 (by omega) (by omega) hx) rfl ?_
    dsimp only [c_a, n_a]
    refine vn (p_load1 ag3) rfl ?_
    dsimp only [c_a, n_a]
    refine vn (p_add_i64 (by omega) (by omega)) rfl ?_
    dsimp only [c_a, n_a]
    refine vn (p_add_i64 (by omega) (by omega)) rfl ?_
    dsimp only [c_a, n_a]
    exact vback rfl ⟨⟨i + 1, by omega⟩, ⟨STy.Sub.of_eq (congrArg (fun q : Int => STy.one (CTy.int .i64 q)) (by show (y : Int) * 32768 + x = ((bv ((bd m).take (i + 1)) : Nat) : Int); omega)), STy.Sub.same, trivial⟩, by show (bd m).length - (i + 1) < (bd m).length - i; omega⟩
  rw [show i = (bd m).length by omega, List.take_length, bv_bd]; exact vret rfl

set_option maxHeartbeats 1000000 in
theorem d_RZGcd (x y : Int) (hs : (bd x.natAbs).length < 17179869184) (hs2 : (bd y.natAbs).length < 17179869184) : Does prog 212 [(zT x : STy), (zT y : STy)] (.ret [zT ((Nat.gcd x.natAbs y.natAbs : Nat) : Int)]) := by
  refine does_of_vc (args := [.v (some 2), .v (some 2)]) (ins := [.v (zT x), .v (zT y)]) (hints := (fun _ => none)) fo (by kernel_rfl) func212 ⟨rfl, rfl, trivial⟩ ?_
  rw [x_RZGcd]
  dsimp only [List.map, In.env, c_a, n_a]
  refine vloop {p : Nat × Nat // Nat.gcd p.1 p.2 = Nat.gcd x.natAbs y.natAbs ∧ (bd p.1).length < 17179869184 ∧ (bd p.2).length < 17179869184} (fun p => [.one (bT p.1.1), .one (bT p.1.2), .one (.int .i64 0), .one (.exact (.slice none 0 0))]) (fun p => p.1.2) ⟨(x.natAbs, y.natAbs), rfl, hs, hs2⟩ SubL.rfl (fun _ => rfl) ?_
  rintro ⟨⟨a, b⟩, hg, ha, hb⟩
  dsimp only [c_a, n_a] at hg ha hb ⊢
  have hbz : (bd b).length = 0 ↔ b = 0 := by rw [List.length_eq_zero_iff, bd_nil]
  have hml := bd_len_mono (Nat.mod_le a b)
  refine vn (p_len el45 (List.length_map _)) rfl ?_
  dsimp only [c_a, n_a]
  refine vn q_gtr rfl ?_
  dsimp only [c_a, n_a]
  refine vs _ rfl (fun h3 => ?_) (fun h3 => ?_)
  · have hb0 : 0 < b := by
      rcases Nat.eq_zero_or_pos b with h | h
      · have := hbz.2 h; omega
      · exact h
    refine vn (p_len el45 (List.length_map _)) rfl ?_
    dsimp only [c_a, n_a]
    refine vn q_leq rfl ?_
    dsimp only [c_a, n_a]
    refine vs _ rfl (fun h6 => ?_) (fun h6 => ?_)
    · refine vn (p_len el45 (List.length_map _)) rfl ?_
      dsimp only [c_a, n_a]
      refine vn q_leq rfl ?_
      dsimp only [c_a, n_a]
      refine vs _ rfl (fun h9 => ?_) (fun h9 => ?_)
      · have h4 : ∀ n, (bd n).length ≤ 4 → n < 1152921504606846976 := fun n hn => Nat.lt_of_lt_of_le (bd_lt n) (pow4 hn)
        have ha4 := h4 a (by omega)
        have hb4 := h4 b (by omega)
        refine vcall (d_Rshort a (by omega)) rfl ?_
        dsimp only [c_a, n_a]
        refine vcall (d_Rshort b (by omega)) rfl ?_
        dsimp only [c_a, n_a]
        refine vloop {p : Nat × Nat // Nat.gcd p.1 p.2 = Nat.gcd x.natAbs y.natAbs ∧ p.1 < 1152921504606846976 ∧ p.2 < 1152921504606846976} (fun p => [.one (.int .i64 p.1.1), .one (.int .i64 p.1.2)]) (fun p => p.1.2) ⟨(a, b), hg, ha4, hb4⟩ SubL.rfl (fun _ => rfl) ?_
        rintro ⟨⟨p, q⟩, hpq, hp, hq⟩
        dsimp only [c_a, n_a] at hpq hp hq ⊢
        refine vn q_neq rfl ?_
        dsimp only [c_a, n_a]
        refine vs _ rfl (fun h14 => ?_) (fun h14 => ?_)
        · refine vn (p_rem (c := ((p % q : Nat) : Int)) (by omega) (by rw [Int.tmod_eq_emod_of_nonneg (cast_nn _), ← Int.natCast_emod])) rfl ?_
          dsimp only [c_a, n_a]
          exact vback rfl ⟨⟨(q, p % q), by rw [← hpq, Nat.gcd_comm p q, Nat.gcd_rec q p, Nat.gcd_comm], hq, Nat.lt_of_le_of_lt (Nat.mod_le _ _) hp⟩, SubL.rfl, Nat.mod_lt _ (by omega)⟩
        have hq0 : q = 0 := by omega
        subst hq0
        rw [Nat.gcd_zero_right] at hpq
        refine vcall (d_RZInt p (by omega) (by omega)) rfl ?_
        dsimp only [c_a, n_a]
        rw [← hpq]; exact vret rfl
      refine vcall (d_Rover a b hb0 (by omega)) rfl ?_
      dsimp only [c_a, n_a]
      exact vback rfl ⟨⟨(b, a % b), by rw [← hg, Nat.gcd_comm a b, Nat.gcd_rec b a, Nat.gcd_comm], hb, by show (bd (a % b)).length < _; omega⟩, SubL.rfl, Nat.mod_lt _ hb0⟩
    refine vcall (d_Rover a b hb0 (by omega)) rfl ?_
    dsimp only [c_a, n_a]
    exact vback rfl ⟨⟨(b, a % b), by rw [← hg, Nat.gcd_comm a b, Nat.gcd_rec b a, Nat.gcd_comm], hb, by show (bd (a % b)).length < _; omega⟩, SubL.rfl, Nat.mod_lt _ hb0⟩
  have hb0 : b = 0 := hbz.1 (by omega)
  subst hb0
  rw [Nat.gcd_zero_right] at hg
  refine vcall (d_Rwith 1 (a : Int) (bd a) (bd_DB _) (by omega) (by rw [bv_bd]; rfl) (fun hne => by rw [bv_bd] at hne; exact Int.sign_eq_one_of_pos (by omega))) rfl ?_
  dsimp only [c_a, n_a]
  rw [← hg]; exact vret rfl
end Go.Sy
namespace Go.Sy
open Go Go.Proofs Tryz Ord

def t58_3 : Tr := .ret [(.agg [(U 2 0), (U 2 1)])]
def t58_2 : Tr := .need (.call 139 [(WK (1))] [(some 2)]) (.call ⟨.value (.func 139), #[(.const (I3 (1)))], #[2]⟩) 47 true t58_3
def t58_4 : Tr := .ret [(.agg [(U 0 2), (U 0 3)])]
def t58_1 : Tr := .split (.u 1 0) t58_2 t58_4
def t58_0 : Tr := .need (.prim [(W 0 2), (WK (0))] none) (.binOp .eql 3 (.tmp 5) (.const (I3 (0))) 3) 4 false t58_1
theorem x_Rden : execF prog f136 (fun _ => none) [.v (some 4)] = t58_0 := by kernel_rfl
def t59_12 : Tr := .ret [(.agg [(U 3 0), (U 3 1), (U 4 0), (U 4 1)])]
def t59_17 : Tr := .ret [(.agg [(U 15 0), (U 15 1), (U 16 0), (U 16 1)])]
def t59_16 : Tr := .need (.call 211 [(WK (1)), (W 13 0)] [(some 2)]) (.call ⟨.value (.func 211), #[(.const (I3 (1))), (.tmp 54)], #[3, 45]⟩) 47 true t59_17
def t59_15 : Tr := .need (.call 211 [(W 3 0), (W 11 0)] [(some 2)]) (.call ⟨.value (.func 211), #[(.tmp 51), (.tmp 52)], #[3, 45]⟩) 47 false t59_16
def t59_14 : Tr := .need (.call 213 [(W 4 1), (W 5 1)] [none, none]) (.call ⟨.value (.func 213), #[(.tmp 44), (.tmp 46)], #[45, 45]⟩) 269 false t59_15
def t59_13 : Tr := .need (.call 213 [(W 3 1), (W 5 1)] [none, none]) (.call ⟨.value (.func 213), #[(.tmp 36), (.tmp 38)], #[45, 45]⟩) 269 false t59_14
def t59_11 : Tr := .split (.u 10 0) t59_12 t59_13
def t59_10 : Tr := .need (.prim [(W 9 0), (WK (1))] none) (.binOp .eql 3 (.tmp 28) (.const (I3 (1))) 3) 4 false t59_11
def t59_9 : Tr := .need (.prim [(W 8 0)] none) (.load 3 (.tmp 27)) 3 false t59_10
def t59_8 : Tr := .need (.prim [(W 5 1), (WK (0))] none) (.indexAddr 45 (.tmp 26) (.const (I3 (0)))) 0 false t59_9
def t59_22 : Tr := .ret [(.agg [(U 12 0), (U 12 1), (U 13 0), (U 13 1)])]
def t59_21 : Tr := .need (.call 211 [(WK (1)), (W 10 0)] [(some 2)]) (.call ⟨.value (.func 211), #[(.const (I3 (1))), (.tmp 54)], #[3, 45]⟩) 47 true t59_22
def t59_20 : Tr := .need (.call 211 [(W 3 0), (W 8 0)] [(some 2)]) (.call ⟨.value (.func 211), #[(.tmp 51), (.tmp 52)], #[3, 45]⟩) 47 false t59_21
def t59_19 : Tr := .need (.call 213 [(W 4 1), (W 5 1)] [none, none]) (.call ⟨.value (.func 213), #[(.tmp 44), (.tmp 46)], #[45, 45]⟩) 269 false t59_20
def t59_18 : Tr := .need (.call 213 [(W 3 1), (W 5 1)] [none, none]) (.call ⟨.value (.func 213), #[(.tmp 36), (.tmp 38)], #[45, 45]⟩) 269 false t59_19
def t59_7 : Tr := .split (.u 7 0) t59_8 t59_18
def t59_6 : Tr := .need (.prim [(W 6 0), (WK (1))] none) (.binOp .eql 3 (.tmp 22) (.const (I3 (1))) 3) 4 false t59_7
def t59_5 : Tr := .need (.prim [(W 5 1)] none) (.call ⟨.builtin .len, #[(.tmp 21)], #[45]⟩) 3 false t59_6
def t59_4 : Tr := .need (.call 212 [(.agg [(U 3 0), (U 3 1)]), (.agg [(U 4 0), (U 4 1)])] [(some 2)]) (.call ⟨.value (.func 212), #[(.tmp 17), (.tmp 18)], #[47, 47]⟩) 47 true t59_5
def t59_3 : Tr := .need (.call 183 [(.agg [(U 1 0), (U 1 1)])] [(some 2)]) (.call ⟨.value (.func 183), #[(.tmp 15)], #[47]⟩) 47 true t59_4
def t59_2 : Tr := .need (.call 183 [(.agg [(U 0 0), (U 0 1)])] [(some 2)]) (.call ⟨.value (.func 183), #[(.tmp 13)], #[47]⟩) 47 false t59_3
def t59_31 : Tr := .ret [(.agg [(U 0 0), (U 0 1), (U 1 0), (U 1 1)])]
def t59_36 : Tr := .ret [(.agg [(U 13 0), (U 13 1), (U 14 0), (U 14 1)])]
def t59_35 : Tr := .need (.call 211 [(WK (1)), (W 11 0)] [(some 2)]) (.call ⟨.value (.func 211), #[(.const (I3 (1))), (.tmp 54)], #[3, 45]⟩) 47 true t59_36
def t59_34 : Tr := .need (.call 211 [(W 0 0), (W 9 0)] [(some 2)]) (.call ⟨.value (.func 211), #[(.tmp 51), (.tmp 52)], #[3, 45]⟩) 47 false t59_35
def t59_33 : Tr := .need (.call 213 [(W 1 1), (W 3 1)] [none, none]) (.call ⟨.value (.func 213), #[(.tmp 44), (.tmp 46)], #[45, 45]⟩) 269 false t59_34
def t59_32 : Tr := .need (.call 213 [(W 0 1), (W 3 1)] [none, none]) (.call ⟨.value (.func 213), #[(.tmp 36), (.tmp 38)], #[45, 45]⟩) 269 false t59_33
def t59_30 : Tr := .split (.u 8 0) t59_31 t59_32
def t59_29 : Tr := .need (.prim [(W 7 0), (WK (1))] none) (.binOp .eql 3 (.tmp 28) (.const (I3 (1))) 3) 4 false t59_30
def t59_28 : Tr := .need (.prim [(W 6 0)] none) (.load 3 (.tmp 27)) 3 false t59_29
def t59_27 : Tr := .need (.prim [(W 3 1), (WK (0))] none) (.indexAddr 45 (.tmp 26) (.const (I3 (0)))) 0 false t59_28
def t59_41 : Tr := .ret [(.agg [(U 10 0), (U 10 1), (U 11 0), (U 11 1)])]
def t59_40 : Tr := .need (.call 211 [(WK (1)), (W 8 0)] [(some 2)]) (.call ⟨.value (.func 211), #[(.const (I3 (1))), (.tmp 54)], #[3, 45]⟩) 47 true t59_41
def t59_39 : Tr := .need (.call 211 [(W 0 0), (W 6 0)] [(some 2)]) (.call ⟨.value (.func 211), #[(.tmp 51), (.tmp 52)], #[3, 45]⟩) 47 false t59_40
def t59_38 : Tr := .need (.call 213 [(W 1 1), (W 3 1)] [none, none]) (.call ⟨.value (.func 213), #[(.tmp 44), (.tmp 46)], #[45, 45]⟩) 269 false t59_39
def t59_37 : Tr := .need (.call 213 [(W 0 1), (W 3 1)] [none, none]) (.call ⟨.value (.func 213), #[(.tmp 36), (.tmp 38)], #[45, 45]⟩) 269 false t59_38
def t59_26 : Tr := .split (.u 5 0) t59_27 t59_37
def t59_25 : Tr := .need (.prim [(W 4 0), (WK (1))] none) (.binOp .eql 3 (.tmp 22) (.const (I3 (1))) 3) 4 false t59_26
def t59_24 : Tr := .need (.prim [(W 3 1)] none) (.call ⟨.builtin .len, #[(.tmp 21)], #[45]⟩) 3 false t59_25
def t59_23 : Tr := .need (.call 212 [(.agg [(U 0 0), (U 0 1)]), (.agg [(U 1 0), (U 1 1)])] [(some 2)]) (.call ⟨.value (.func 212), #[(.tmp 17), (.tmp 18)], #[47, 47]⟩) 47 true t59_24
def t59_1 : Tr := .split (.u 2 0) t59_2 t59_23
def t59_0 : Tr := .need (.prim [(W 1 0), (WK (0))] none) (.binOp .lss 3 (.tmp 11) (.const (I3 (0))) 3) 4 false t59_1
theorem x_RRatio : execF prog f137 (fun _ => none) [.v (some 2), .v (some 2)] = t59_0 := by kernel_rfl
def t60_2 : Tr := .ret [(.agg [(U 1 0), (U 1 1), (U 2 0), (U 2 1)])]
def t60_1 : Tr := .need (.call 139 [(WK (1))] [(some 2)]) (.call ⟨.value (.func 139), #[(.const (I3 (1)))], #[2]⟩) 47 true t60_2
def t60_0 : Tr := .need (.call 139 [(W 0 0)] [(some 2)]) (.call ⟨.value (.func 139), #[(.tmp 3)], #[2]⟩) 47 true t60_1
theorem x_RInt : execF prog f50 (fun _ => none) [.v none] = t60_0 := by kernel_rfl
def t61_3 : Tr := .ret [(.agg [(U 4 0), (U 4 1), (U 4 2), (U 4 3)])]
def t61_2 : Tr := .need (.call 137 [(.agg [(U 2 0), (U 2 1)]), (.agg [(U 3 0), (U 3 1)])] [(some 4)]) (.call ⟨.value (.func 137), #[(.tmp 6), (.tmp 8)], #[47, 47]⟩) 49 true t61_3
def t61_1 : Tr := .need (.call 139 [(W 1 0)] [(some 2)]) (.call ⟨.value (.func 139), #[(.tmp 7)], #[2]⟩) 47 true t61_2
def t61_0 : Tr := .need (.call 139 [(W 0 0)] [(some 2)]) (.call ⟨.value (.func 139), #[(.tmp 5)], #[2]⟩) 47 false t61_1
theorem x_ROf : execF prog f79 (fun _ => none) [.v none, .v none] = t61_0 := by kernel_rfl
def t62_9 : Tr := .ret [(.agg [(U 10 0), (U 10 1), (U 10 2), (U 10 3)])]
def t62_8 : Tr := .need (.call 137 [(.agg [(U 6 0), (U 6 1)]), (.agg [(U 9 0), (U 9 1)])] [(some 4)]) (.call ⟨.value (.func 137), #[(.tmp 15), (.tmp 20)], #[47, 47]⟩) 49 true t62_9
def t62_7 : Tr := .need (.call 135 [(.agg [(U 7 0), (U 7 1)]), (.agg [(U 8 0), (U 8 1)])] [(some 2)]) (.call ⟨.value (.func 135), #[(.tmp 17), (.tmp 19)], #[47, 47]⟩) 47 true t62_8
def t62_6 : Tr := .need (.call 136 [(.agg [(U 1 0), (U 1 1), (U 1 2), (U 1 3)])] [(some 2)]) (.call ⟨.value (.func 136), #[(.tmp 18)], #[49]⟩) 47 false t62_7
def t62_5 : Tr := .need (.call 136 [(.agg [(U 0 0), (U 0 1), (U 0 2), (U 0 3)])] [(some 2)]) (.call ⟨.value (.func 136), #[(.tmp 16)], #[49]⟩) 47 false t62_6
def t62_4 : Tr := .need (.call 138 [(.agg [(U 3 0), (U 3 1)]), (.agg [(U 5 0), (U 5 1)])] [(some 2)]) (.call ⟨.value (.func 138), #[(.tmp 9), (.tmp 14)], #[47, 47]⟩) 47 false t62_5
def t62_3 : Tr := .need (.call 135 [(.agg [(U 1 0), (U 1 1)]), (.agg [(U 4 0), (U 4 1)])] [(some 2)]) (.call ⟨.value (.func 135), #[(.tmp 11), (.tmp 13)], #[47, 47]⟩) 47 false t62_4
def t62_2 : Tr := .need (.call 136 [(.agg [(U 0 0), (U 0 1), (U 0 2), (U 0 3)])] [(some 2)]) (.call ⟨.value (.func 136), #[(.tmp 12)], #[49]⟩) 47 false t62_3
def t62_1 : Tr := .need (.call 135 [(.agg [(U 0 0), (U 0 1)]), (.agg [(U 2 0), (U 2 1)])] [(some 2)]) (.call ⟨.value (.func 135), #[(.tmp 6), (.tmp 8)], #[47, 47]⟩) 47 false t62_2
def t62_0 : Tr := .need (.call 136 [(.agg [(U 1 0), (U 1 1), (U 1 2), (U 1 3)])] [(some 2)]) (.call ⟨.value (.func 136), #[(.tmp 7)], #[49]⟩) 47 false t62_1
theorem x_RAdd : execF prog f48 (fun _ => none) [.v (some 4), .v (some 4)] = t62_0 := by kernel_rfl
def t64_5 : Tr := .ret [(.agg [(U 6 0), (U 6 1), (U 6 2), (U 6 3)])]
def t64_4 : Tr := .need (.call 137 [(.agg [(U 2 0), (U 2 1)]), (.agg [(U 5 0), (U 5 1)])] [(some 4)]) (.call ⟨.value (.func 137), #[(.tmp 9), (.tmp 14)], #[47, 47]⟩) 49 true t64_5
def t64_3 : Tr := .need (.call 135 [(.agg [(U 3 0), (U 3 1)]), (.agg [(U 4 0), (U 4 1)])] [(some 2)]) (.call ⟨.value (.func 135), #[(.tmp 11), (.tmp 13)], #[47, 47]⟩) 47 true t64_4
def t64_2 : Tr := .need (.call 136 [(.agg [(U 1 0), (U 1 1), (U 1 2), (U 1 3)])] [(some 2)]) (.call ⟨.value (.func 136), #[(.tmp 12)], #[49]⟩) 47 false t64_3
def t64_1 : Tr := .need (.call 136 [(.agg [(U 0 0), (U 0 1), (U 0 2), (U 0 3)])] [(some 2)]) (.call ⟨.value (.func 136), #[(.tmp 10)], #[49]⟩) 47 false t64_2
def t64_0 : Tr := .need (.call 135 [(.agg [(U 0 0), (U 0 1)]), (.agg [(U 1 0), (U 1 1)])] [(some 2)]) (.call ⟨.value (.func 135), #[(.tmp 6), (.tmp 8)], #[47, 47]⟩) 47 false t64_1
theorem x_RMul : execF prog f104 (fun _ => none) [.v (some 4), .v (some 4)] = t64_0 := by kernel_rfl
def t69_0 : Tr := .ret [(W 0 0)]
theorem x_RSign : execF prog f46 (fun _ => none) [.v (some 4)] = t69_0 := by kernel_rfl

/-- a number of the reference: zero may have no denominator -/
structure RQ where
  q : Rat
  z : Bool
  h : z = true → q = 0
def RQ.of (q : Rat) : RQ := ⟨q, false, fun h => by cases h⟩
def RQ.nil : RQ := ⟨0, true, fun _ => rfl⟩
abbrev rC (a : RQ) : List CTy := [.int .i64 a.q.num.sign, bT a.q.num.natAbs, .int .i64 (if a.z then 0 else 1), bT (if a.z then 0 else a.q.den)]
abbrev rT' (a : RQ) : STy := .agg (rC a)
theorem RQ.of_q (q : Rat) : (RQ.of q).q = q := rfl
theorem zT_den (q : Rat) : zT (q.den : Int) = .agg [.int .i64 1, bT q.den] := zT_pos q.den_pos
theorem nilR : All2 CTy.Sub [.int .i64 0, .exact (.slice none 0 0), .int .i64 0, .exact (.slice none 0 0)] (rC RQ.nil) := ⟨CTy.Sub.same, nilB rfl, CTy.Sub.same, nilB rfl, trivial⟩

theorem d_Rden (a : RQ) : Does prog 136 [(rT' a : STy)] (.ret [zT (a.q.den : Int)]) := by
  refine does_of_vc (args := [.v (some 4)]) (ins := [.v (rT' a)]) (hints := (fun _ => none)) fo (by kernel_rfl) func136 ⟨rfl, trivial⟩ ?_
  rw [x_Rden]
  dsimp only [List.map, In.env, c_a, n_a]
  refine vn q_eql rfl ?_
  dsimp only [c_a, n_a]
  refine vs _ rfl (fun h1 => ?_) (fun h1 => ?_)
  · have ha : a.z = true := by cases h : a.z <;> simp_all
    have hq := a.h ha
    refine vcall (d_RZInt 1 (by omega) (by omega)) rfl ?_
    dsimp only [c_a, n_a]
    rw [hq]; exact vret rfl
  have ha : a.z = false := by cases h : a.z <;> simp_all
  refine vret ?_
  rw [zT_den]
  show [STy.agg [.int .i64 (if a.z then 0 else 1), bT (if a.z then 0 else a.q.den)]] = _
  rw [ha]; rfl

theorem bd_bits {n B : Nat} (h : n < 2 ^ B) : (bd n).length ≤ B := bd_len_le (Nat.lt_of_lt_of_le h (Nat.pow_le_pow_left (by omega) B))

/-- the ratio of integers -/
def ratZ (n d : Int) : Rat := mkRat (if d < 0 then -n else n) d.natAbs

theorem mk_num' {z : Int} {d : Nat} (hd : d ≠ 0) : (mkRat z d).num = z / ((z.natAbs.gcd d : Nat) : Int) ∧ (mkRat z d).den = d / z.natAbs.gcd d ∧ (mkRat z d).num.natAbs = z.natAbs / z.natAbs.gcd d ∧ (mkRat z d).num.sign = z.sign := by
  obtain ⟨h1, h2⟩ := mk_num (z := z) hd
  have hg : 0 < z.natAbs.gcd d := Nat.gcd_pos_of_pos_right _ (by omega)
  have hgz : z ≠ 0 → z.natAbs.gcd d ≤ z.natAbs := fun h => Nat.gcd_le_left _ (by omega)
  have h3 : (mkRat z d).num.natAbs = z.natAbs / z.natAbs.gcd d := by
    rw [h1]
    generalize z.natAbs / z.natAbs.gcd d = t
    split <;> omega
  refine ⟨?_, h2, h3, ?_⟩
  · rw [← Rat.normalize_eq_mkRat hd, Rat.normalize_eq hd]
  · rcases sign_cases z with ⟨h, e⟩ | ⟨h, e⟩ | ⟨h, e⟩
    · rw [e, h1, decide_eq_true h, if_pos rfl]
      have := Nat.div_pos (hgz (by omega)) hg
      exact Int.sign_eq_neg_one_of_neg (by omega)
    · rw [e]; subst h; rw [Rat.zero_mkRat]; rfl
    · rw [e, h1, decide_eq_false (by omega), if_neg (by simp)]
      have := Nat.div_pos (hgz (by omega)) hg
      exact Int.sign_eq_one_of_pos (by omega)

theorem gcd_one_list {g : Nat} (h : (bd g).length = 1) {x : Nat} (hx : (bd g)[0]? = some x) : g = x := by
  match hb : bd g, h with
  | [y], _ =>
    rw [hb] at hx
    simp only [List.getElem?_cons_zero, Option.some.injEq] at hx
    subst hx
    rw [← bv_bd g, hb, bv_cons]; simp [bv, val]

theorem rT_mk {q : Rat} : rT' (RQ.of q) = .agg [.int .i64 q.num.sign, bT q.num.natAbs, .int .i64 1, bT q.den] := rfl

set_option maxHeartbeats 1000000 in
theorem d_RRatio (n d : Int) (hd : d ≠ 0) (hs : (bd n.natAbs).length < 8589934592) (hs2 : (bd d.natAbs).length < 8589934592) : Does prog 137 [(zT n : STy), (zT d : STy)] (.ret [rT' (.of (ratZ n d))]) := by
  refine does_of_vc (args := [.v (some 2), .v (some 2)]) (ins := [.v (zT n), .v (zT d)]) (hints := (fun _ => none)) fo (by kernel_rfl) func137 ⟨rfl, rfl, trivial⟩ ?_
  rw [x_RRatio]
  dsimp only [List.map, In.env, c_a, n_a]
  have hsd := sign_cases d
  have key : ∀ m : Int, m.natAbs = n.natAbs → ratZ n d = mkRat m d.natAbs → (ratZ n d).den = d.natAbs / Nat.gcd n.natAbs d.natAbs ∧ (ratZ n d).num.natAbs = n.natAbs / Nat.gcd n.natAbs d.natAbs ∧ (ratZ n d).num.sign = m.sign := fun m hm e => by
    have := mk_num' (z := m) (d := d.natAbs) (by omega)
    rw [hm] at this
    rw [e]; exact ⟨this.2.1, this.2.2.1, this.2.2.2⟩
  have hg : 0 < Nat.gcd n.natAbs d.natAbs := Nat.gcd_pos_of_pos_right _ (by omega)
  have hgd : Nat.gcd n.natAbs d.natAbs ≤ d.natAbs := Nat.gcd_le_right _ (by omega)
  have hgl := bd_len_mono hgd
  have hdg := Nat.div_pos hgd hg
  have hnl := bd_len_mono (Nat.div_le_self n.natAbs (Nat.gcd n.natAbs d.natAbs))
  have hdl := bd_len_mono (Nat.div_le_self d.natAbs (Nat.gcd n.natAbs d.natAbs))
  refine vn q_lss rfl ?_
  dsimp only [c_a, n_a]
  refine vs _ rfl (fun h1 => ?_) (fun h1 => ?_)
  · have hd0 : d < 0 := by rcases hsd with ⟨h, e⟩ | ⟨h, e⟩ | ⟨h, e⟩ <;> omega
    have hR : ratZ n d = mkRat (-n) d.natAbs := by rw [ratZ, if_pos hd0]
    obtain ⟨k1, k2, k3⟩ := key (-n) (Int.natAbs_neg n) hR
    generalize ratZ n d = q at *
    refine vcall (d_RZNeg n) rfl ?_
    dsimp only [c_a, n_a]
    refine vcall (d_RZNeg d) rfl ?_
    dsimp only [c_a, n_a]
    have hc := d_RZGcd (-n) (-d) (by rw [Int.natAbs_neg]; omega) (by rw [Int.natAbs_neg]; omega)
    rw [Int.natAbs_neg, Int.natAbs_neg] at hc
    refine vcall hc rfl ?_
    generalize hG : Nat.gcd n.natAbs d.natAbs = g at *
    dsimp only [c_a, n_a]
    refine vn (p_len el45 (List.length_map _)) rfl ?_
    dsimp only [c_a, n_a]
    refine vn q_eql rfl ?_
    dsimp only [c_a, n_a]
    refine vs _ rfl (fun h7 => ?_) (fun h7 => ?_)
    · obtain ⟨x, hx⟩ : ∃ x, (bd g)[0]? = some x := ⟨_, List.getElem?_eq_getElem (by rw [Int.natAbs_natCast] at h7; omega)⟩
      refine vn (p_idxm el45 (by omega) (by omega) (show (bd ((g : Int)).natAbs)[0]? = some x from hx)) rfl ?_
      dsimp only [c_a, n_a]
      refine vn (p_load1 ag3) rfl ?_
      dsimp only [c_a, n_a]
      refine vn q_eql rfl ?_
      dsimp only [c_a, n_a]
      refine vs _ rfl (fun h11 => ?_) (fun h11 => ?_)
      · have hg1 : g = 1 := by
          have := gcd_one_list (g := g) (by rw [Int.natAbs_natCast] at h7; omega) hx
          omega
        rw [hg1, Nat.div_one] at k1 k2
        refine vret ?_
        rw [rT_mk, k3, k2, k1]
        show [STy.agg [.int .i64 (-n).sign, bT (-n).natAbs, .int .i64 (-d).sign, bT (-d).natAbs]] = _
        rw [Int.natAbs_neg, Int.natAbs_neg, Int.sign_eq_one_of_pos (show 0 < -d by omega)]
      have ho1 := d_Rover n.natAbs g hg (by omega)
      have ho2 := d_Rover d.natAbs g hg (by omega)
      rw [← k2] at ho1 hnl
      rw [← k1] at ho2 hdl hdg
      have hn' : (-n).natAbs = n.natAbs := Int.natAbs_neg n
      have hd' : (-d).natAbs = d.natAbs := Int.natAbs_neg d
      rw [← hn'] at ho1
      rw [← hd'] at ho2
      refine vcall ho1 rfl ?_
      dsimp only [c_a, n_a]
      refine vcall ho2 rfl ?_
      dsimp only [c_a, n_a]
      refine vcall (d_Rwith (-n).sign q.num _ (bd_DB _) (by omega) (by rw [bv_bd]) (fun _ => k3)) rfl ?_
      dsimp only [c_a, n_a]
      refine vcall (d_Rwith 1 (q.den : Int) _ (bd_DB _) (by omega) (by rw [bv_bd]; rfl) (fun _ => Int.sign_eq_one_of_pos (by omega))) rfl ?_
      dsimp only [c_a, n_a]
      refine vret ?_
      rw [rT_mk]
      show [STy.agg [.int .i64 q.num.sign, bT q.num.natAbs, .int .i64 (q.den : Int).sign, bT (q.den : Int).natAbs]] = _
      rw [Int.sign_eq_one_of_pos (show (0 : Int) < q.den by omega), Int.natAbs_natCast]
    have ho1 := d_Rover n.natAbs g hg (by omega)
    have ho2 := d_Rover d.natAbs g hg (by omega)
    rw [← k2] at ho1 hnl
    rw [← k1] at ho2 hdl hdg
    have hn' : (-n).natAbs = n.natAbs := Int.natAbs_neg n
    have hd' : (-d).natAbs = d.natAbs := Int.natAbs_neg d
    rw [← hn'] at ho1
    rw [← hd'] at ho2
    refine vcall ho1 rfl ?_
    dsimp only [c_a, n_a]
    refine vcall ho2 rfl ?_
    dsimp only [c_a, n_a]
    refine vcall (d_Rwith (-n).sign q.num _ (bd_DB _) (by omega) (by rw [bv_bd]) (fun _ => k3)) rfl ?_
    dsimp only [c_a, n_a]
    refine vcall (d_Rwith 1 (q.den : Int) _ (bd_DB _) (by omega) (by rw [bv_bd]; rfl) (fun _ => Int.sign_eq_one_of_pos (by omega))) rfl ?_
    dsimp only [c_a, n_a]
    refine vret ?_
    rw [rT_mk]
    show [STy.agg [.int .i64 q.num.sign, bT q.num.natAbs, .int .i64 (q.den : Int).sign, bT (q.den : Int).natAbs]] = _
    rw [Int.sign_eq_one_of_pos (show (0 : Int) < q.den by omega), Int.natAbs_natCast]
  have hd0 : 0 < d := by rcases hsd with ⟨h, e⟩ | ⟨h, e⟩ | ⟨h, e⟩ <;> omega
  have hR : ratZ n d = mkRat n d.natAbs := by rw [ratZ, if_neg (by omega)]
  obtain ⟨k1, k2, k3⟩ := key n rfl hR
  generalize ratZ n d = q at *
  have hc := d_RZGcd n d (by omega) (by omega)
  refine vcall hc rfl ?_
  generalize hG : Nat.gcd n.natAbs d.natAbs = g at *
  dsimp only [c_a, n_a]
  refine vn (p_len el45 (List.length_map _)) rfl ?_
  dsimp only [c_a, n_a]
  refine vn q_eql rfl ?_
  dsimp only [c_a, n_a]
  refine vs _ rfl (fun h26 => ?_) (fun h26 => ?_)
  · obtain ⟨x, hx⟩ : ∃ x, (bd g)[0]? = some x := ⟨_, List.getElem?_eq_getElem (by rw [Int.natAbs_natCast] at h26; omega)⟩
    refine vn (p_idxm el45 (by omega) (by omega) (show (bd ((g : Int)).natAbs)[0]? = some x from hx)) rfl ?_
    dsimp only [c_a, n_a]
    refine vn (p_load1 ag3) rfl ?_
    dsimp only [c_a, n_a]
    refine vn q_eql rfl ?_
    dsimp only [c_a, n_a]
    refine vs _ rfl (fun h30 => ?_) (fun h30 => ?_)
    · have hg1 : g = 1 := by
        have := gcd_one_list (g := g) (by rw [Int.natAbs_natCast] at h26; omega) hx
        omega
      rw [hg1, Nat.div_one] at k1 k2
      refine vret ?_
      rw [rT_mk, k3, k2, k1]
      show [STy.agg [.int .i64 n.sign, bT n.natAbs, .int .i64 d.sign, bT d.natAbs]] = _
      rw [Int.sign_eq_one_of_pos (show 0 < d by omega)]
    have ho1 := d_Rover n.natAbs g hg (by omega)
    have ho2 := d_Rover d.natAbs g hg (by omega)
    rw [← k2] at ho1 hnl
    rw [← k1] at ho2 hdl hdg
    refine vcall ho1 rfl ?_
    dsimp only [c_a, n_a]
    refine vcall ho2 rfl ?_
    dsimp only [c_a, n_a]
    refine vcall (d_Rwith n.sign q.num _ (bd_DB _) (by omega) (by rw [bv_bd]) (fun _ => k3)) rfl ?_
    dsimp only [c_a, n_a]
    refine vcall (d_Rwith 1 (q.den : Int) _ (bd_DB _) (by omega) (by rw [bv_bd]; rfl) (fun _ => Int.sign_eq_one_of_pos (by omega))) rfl ?_
    dsimp only [c_a, n_a]
    refine vret ?_
    rw [rT_mk]
    show [STy.agg [.int .i64 q.num.sign, bT q.num.natAbs, .int .i64 (q.den : Int).sign, bT (q.den : Int).natAbs]] = _
    rw [Int.sign_eq_one_of_pos (show (0 : Int) < q.den by omega), Int.natAbs_natCast]
  have ho1 := d_Rover n.natAbs g hg (by omega)
  have ho2 := d_Rover d.natAbs g hg (by omega)
  rw [← k2] at ho1 hnl
  rw [← k1] at ho2 hdl hdg
  refine vcall ho1 rfl ?_
  dsimp only [c_a, n_a]
  refine vcall ho2 rfl ?_
  dsimp only [c_a, n_a]
  refine vcall (d_Rwith n.sign q.num _ (bd_DB _) (by omega) (by rw [bv_bd]) (fun _ => k3)) rfl ?_
  dsimp only [c_a, n_a]
  refine vcall (d_Rwith 1 (q.den : Int) _ (bd_DB _) (by omega) (by rw [bv_bd]; rfl) (fun _ => Int.sign_eq_one_of_pos (by omega))) rfl ?_
  dsimp only [c_a, n_a]
  refine vret ?_
  rw [rT_mk]
  show [STy.agg [.int .i64 q.num.sign, bT q.num.natAbs, .int .i64 (q.den : Int).sign, bT (q.den : Int).natAbs]] = _
  rw [Int.sign_eq_one_of_pos (show (0 : Int) < q.den by omega), Int.natAbs_natCast]

theorem ratZ_pos {n : Int} {d : Nat} : ratZ n (d : Int) = mkRat n d := by
  rw [ratZ, if_neg (by omega), Int.natAbs_natCast]
theorem ratZ_div {a b : Rat} (hb : b ≠ 0) : ratZ (a.num * (b.den : Int)) ((a.den : Int) * b.num) = a / b := by
  have hn : b.num ≠ 0 := fun e => hb (Rat.num_eq_zero.1 e)
  have ha := a.den_pos
  rw [← div_mk hb, ratZ, Int.natAbs_mul, Int.natAbs_natCast]
  by_cases h : b.num < 0
  · rw [if_pos (Int.mul_neg_of_pos_of_neg (by omega) h), decide_eq_true h, if_pos rfl, Int.mul_neg]
  · rw [if_neg (by have := Int.mul_nonneg (show (0 : Int) ≤ a.den by omega) (show 0 ≤ b.num by omega); omega), decide_eq_false h, if_neg (by simp)]
theorem ratZ_of {n d : Int} (hd : d ≠ 0) : ratZ n d = (n : Rat) / (d : Rat) := by
  have h := ratZ_div (a := (n : Rat)) (b := (d : Rat)) (by rw [Ne, ← Rat.num_eq_zero, Rat.num_intCast]; exact hd)
  rw [Rat.num_intCast, Rat.num_intCast, Rat.den_intCast, Rat.den_intCast] at h
  rw [← h]; congr 1 <;> omega

theorem Fit.bd {B : Nat} {q : Rat} (h : Fit B q) : (bd q.num.natAbs).length ≤ B ∧ (bd q.den).length ≤ B := ⟨bd_bits h.1, bd_bits h.2⟩

theorem d_RInt (n : Int) (h1 : -9223372036854775808 ≤ n) (h2 : n < 9223372036854775808) : Does prog 50 [(.one (.int .i64 n) : STy)] (.ret [rT' (.of (n : Rat))]) := by
  refine does_of_vc (args := [.v none]) (ins := [.v (.one (.int .i64 n))]) (hints := (fun _ => none)) fo (by kernel_rfl) func50 ⟨rfl, trivial⟩ ?_
  rw [x_RInt]
  dsimp only [List.map, In.env, c_a, n_a]
  refine vcall (d_RZInt n h1 h2) rfl ?_
  dsimp only [c_a, n_a]
  refine vcall (d_RZInt 1 (by omega) (by omega)) rfl ?_
  dsimp only [c_a, n_a]
  rw [rT_mk, Rat.num_intCast, Rat.den_intCast]; exact vret rfl

theorem d_ROf (n d : Int) (hd : d ≠ 0) (h1 : -9223372036854775808 ≤ n) (h2 : n < 9223372036854775808) (h3 : -9223372036854775808 ≤ d) (h4 : d < 9223372036854775808) : Does prog 79 [(.one (.int .i64 n) : STy), (.one (.int .i64 d) : STy)] (.ret [rT' (.of ((n : Rat) / (d : Rat)))]) := by
  refine does_of_vc (args := [.v none, .v none]) (ins := [.v (.one (.int .i64 n)), .v (.one (.int .i64 d))]) (hints := (fun _ => none)) fo (by kernel_rfl) func79 ⟨rfl, rfl, trivial⟩ ?_
  rw [x_ROf]
  dsimp only [List.map, In.env, c_a, n_a]
  refine vcall (d_RZInt n h1 h2) rfl ?_
  dsimp only [c_a, n_a]
  refine vcall (d_RZInt d h3 h4) rfl ?_
  dsimp only [c_a, n_a]
  have hn := bd_bits (n := n.natAbs) (B := 64) (by omega)
  have hdd := bd_bits (n := d.natAbs) (B := 64) (by omega)
  refine vcall (d_RRatio n d hd (by omega) (by omega)) rfl ?_
  rw [ratZ_of hd]
  dsimp only [c_a, n_a]
  exact vret rfl

theorem d_RSign (a : RQ) : Does prog 46 [(rT' a : STy)] (.ret [.one (.int .i64 a.q.num.sign)]) := by
  refine does_of_vc (args := [.v (some 4)]) (ins := [.v (rT' a)]) (hints := (fun _ => none)) fo (by kernel_rfl) func46 ⟨rfl, trivial⟩ ?_
  rw [x_RSign]
  dsimp only [List.map, In.env, c_a, n_a]
  exact vret rfl

theorem d_RMul (a b : RQ) (A B : Nat) (ha : Fit A a.q) (hb : Fit B b.q) (h : A + B ≤ 4294967296) : Does prog 104 [(rT' a : STy), (rT' b : STy)] (.ret [rT' (.of (a.q * b.q))]) := by
  refine does_of_vc (args := [.v (some 4), .v (some 4)]) (ins := [.v (rT' a), .v (rT' b)]) (hints := (fun _ => none)) fo (by kernel_rfl) func104 ⟨rfl, rfl, trivial⟩ ?_
  rw [x_RMul]
  dsimp only [List.map, In.env, c_a, n_a]
  obtain ⟨ha1, ha2⟩ := Fit.bd ha
  obtain ⟨hb1, hb2⟩ := Fit.bd hb
  have hn := bd_bits (mul_lt_pow ha.1 hb.1)
  have hd := bd_bits (mul_lt_pow ha.2 hb.2)
  have hpa := a.q.den_pos
  have hpb := b.q.den_pos
  refine vcall (d_RZMul a.q.num b.q.num (by omega)) rfl ?_
  dsimp only [c_a, n_a]
  refine vcall (d_Rden a) rfl ?_
  dsimp only [c_a, n_a]
  refine vcall (d_Rden b) rfl ?_
  dsimp only [c_a, n_a]
  refine vcall (d_RZMul (a.q.den : Int) (b.q.den : Int) (by rw [Int.natAbs_natCast, Int.natAbs_natCast]; omega)) rfl ?_
  rw [← Int.natCast_mul]
  dsimp only [c_a, n_a]
  refine vcall (d_RRatio _ ((a.q.den * b.q.den : Nat) : Int) (by have := Nat.mul_pos hpa hpb; omega) (by rw [Int.natAbs_mul]; omega) (by rw [Int.natAbs_natCast]; omega)) rfl ?_
  rw [ratZ_pos, ← Rat.mul_def']
  dsimp only [c_a, n_a]
  exact vret rfl

theorem d_RAdd (a b : RQ) (A B : Nat) (ha : Fit A a.q) (hb : Fit B b.q) (h : A + B ≤ 4294967296) : Does prog 48 [(rT' a : STy), (rT' b : STy)] (.ret [rT' (.of (a.q + b.q))]) := by
  refine does_of_vc (args := [.v (some 4), .v (some 4)]) (ins := [.v (rT' a), .v (rT' b)]) (hints := (fun _ => none)) fo (by kernel_rfl) func48 ⟨rfl, rfl, trivial⟩ ?_
  rw [x_RAdd]
  dsimp only [List.map, In.env, c_a, n_a]
  obtain ⟨ha1, ha2⟩ := Fit.bd ha
  obtain ⟨hb1, hb2⟩ := Fit.bd hb
  have hn1 := bd_bits (mul_lt_pow ha.1 hb.2)
  have hn2 := bd_bits (mul_lt_pow hb.1 ha.2)
  have hd := bd_bits (mul_lt_pow ha.2 hb.2)
  have hpa := a.q.den_pos
  have hpb := b.q.den_pos
  have hsum : (bd (a.q.num * (b.q.den : Int) + b.q.num * (a.q.den : Int)).natAbs).length ≤ A + B + 1 := by
    apply bd_bits
    have h1 := mul_lt_pow ha.1 hb.2
    have h2 := mul_lt_pow hb.1 ha.2
    rw [Nat.add_comm B A] at h2
    rw [Nat.pow_succ]
    refine Nat.lt_of_le_of_lt (Int.natAbs_add_le _ _) ?_
    rw [Int.natAbs_mul, Int.natAbs_mul, Int.natAbs_natCast, Int.natAbs_natCast]
    omega
  refine vcall (d_Rden b) rfl ?_
  dsimp only [c_a, n_a]
  refine vcall (d_RZMul a.q.num (b.q.den : Int) (by rw [Int.natAbs_natCast]; omega)) rfl ?_
  dsimp only [c_a, n_a]
  refine vcall (d_Rden a) rfl ?_
  dsimp only [c_a, n_a]
  refine vcall (d_RZMul b.q.num (a.q.den : Int) (by rw [Int.natAbs_natCast]; omega)) rfl ?_
  dsimp only [c_a, n_a]
  refine vcall (d_RZAdd _ _ (by rw [Int.natAbs_mul, Int.natAbs_natCast]; omega) (by rw [Int.natAbs_mul, Int.natAbs_natCast]; omega)) rfl ?_
  dsimp only [c_a, n_a]
  refine vcall (d_Rden a) rfl ?_
  dsimp only [c_a, n_a]
  refine vcall (d_Rden b) rfl ?_
  dsimp only [c_a, n_a]
  refine vcall (d_RZMul (a.q.den : Int) (b.q.den : Int) (by rw [Int.natAbs_natCast, Int.natAbs_natCast]; omega)) rfl ?_
  rw [← Int.natCast_mul a.q.den b.q.den]
  dsimp only [c_a, n_a]
  refine vcall (d_RRatio _ ((a.q.den * b.q.den : Nat) : Int) (by have := Nat.mul_pos hpa hpb; omega) (by omega) (by rw [Int.natAbs_natCast]; omega)) rfl ?_
  rw [ratZ_pos, ← Rat.add_def']
  dsimp only [c_a, n_a]
  exact vret rfl

end Go.Sy
