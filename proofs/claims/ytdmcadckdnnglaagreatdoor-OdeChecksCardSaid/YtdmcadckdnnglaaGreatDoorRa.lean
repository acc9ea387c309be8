/- The reference's integers: digits to the base 2^15, the highest first. The reference's integers: the operations.
-/
import Derived.Test.YtdmcadckdnnglaaGreatDoorNc
import Derived.Test.YtdmcadckdnnglaaGreatDoorPa
set_option linter.unusedVariables false
set_option linter.unusedSimpArgs false
namespace Go.Sy
open Go Go.Proofs Tryz Ord

def t39_9 : Tr := .back 0 [(.w (W 7 0))]
def t39_8 : Tr := .need (.prim [(W 1 0), (WK (1))] none) (.slice 45 (.tmp 12) (some (.const (I3 (1)))) none none) 45 false t39_9
def t39_10 : Tr := .ret [(W 1 0)]
def t39_7 : Tr := .split (.u 6 0) t39_8 t39_10
def t39_6 : Tr := .need (.prim [(W 5 0), (WK (0))] none) (.binOp .eql 3 (.tmp 9) (.const (I3 (0))) 3) 4 false t39_7
def t39_5 : Tr := .need (.prim [(W 4 0)] none) (.load 3 (.tmp 8)) 3 false t39_6
def t39_4 : Tr := .need (.prim [(W 1 0), (WK (0))] none) (.indexAddr 45 (.tmp 7) (.const (I3 (0)))) 0 false t39_5
def t39_3 : Tr := .split (.u 3 0) t39_4 t39_10
def t39_2 : Tr := .need (.prim [(W 2 0), (WK (0))] none) (.binOp .gtr 3 (.tmp 4) (.const (I3 (0))) 3) 4 false t39_3
def t39_1 : Tr := .need (.prim [(W 1 0)] none) (.call ⟨.builtin .len, #[(.tmp 3)], #[45]⟩) 3 false t39_2
def t39_0 : Tr := .loop 0 [(.w (W 0 0))] t39_1
theorem x_Rstrip : execF prog f260 (fun _ => none) [.v none] = t39_0 := by kernel_rfl
def t40_4 : Tr := .ret [(.agg [(.c (.k (.int .i64 (0)))), (.c (.k (.slice none 0 0)))])]
def t40_5 : Tr := .ret [(.agg [(U 0 0), (U 2 0)])]
def t40_3 : Tr := .split (.u 4 0) t40_4 t40_5
def t40_2 : Tr := .need (.prim [(W 3 0), (WK (0))] none) (.binOp .eql 3 (.tmp 8) (.const (I3 (0))) 3) 4 false t40_3
def t40_1 : Tr := .need (.prim [(W 2 0)] none) (.call ⟨.builtin .len, #[(.tmp 7)], #[45]⟩) 3 false t40_2
def t40_0 : Tr := .need (.call 260 [(W 1 0)] [none]) (.call ⟨.value (.func 260), #[(.tmp 5)], #[45]⟩) 45 true t40_1
theorem x_Rwith : execF prog f211 (fun _ => none) [.v none, .v none] = t40_0 := by kernel_rfl
def t41_12 : Tr := .back 0 [(.w (W 10 0)), (.row 9)]
def t41_11 : Tr := .need (.prim [(W 2 0), (WK (32768))] none) (.binOp .quo 2 (.tmp 20) (.const (I3 (32768))) 2) 2 false t41_12
def t41_10 : Tr := .need (.app 1 8 (some 8) none (some 3)) (.call ⟨.builtin .append, #[(.tmp 17), (.tmp 18)], #[45, 45]⟩) 45 false t41_11
def t41_9 : Tr := .need (.lit 1 [[(.u 7 0)]]) (.buildSlice 45 1 #[(0, (.tmp 16))]) 45 false t41_10
def t41_8 : Tr := .need (.prim [(W 5 0)] none) (.unOp .neg 3 (.tmp 14)) 3 false t41_9
def t41_16 : Tr := .back 0 [(.w (W 9 0)), (.row 8)]
def t41_15 : Tr := .need (.prim [(W 2 0), (WK (32768))] none) (.binOp .quo 2 (.tmp 20) (.const (I3 (32768))) 2) 2 false t41_16
def t41_14 : Tr := .need (.app 1 8 (some 7) none (some 3)) (.call ⟨.builtin .append, #[(.tmp 17), (.tmp 18)], #[45, 45]⟩) 45 false t41_15
def t41_13 : Tr := .need (.lit 1 [[(.u 5 0)]]) (.buildSlice 45 1 #[(0, (.tmp 16))]) 45 false t41_14
def t41_7 : Tr := .split (.u 6 0) t41_8 t41_13
def t41_6 : Tr := .need (.prim [(W 5 0), (WK (0))] none) (.binOp .lss 3 (.tmp 12) (.const (I3 (0))) 3) 4 false t41_7
def t41_5 : Tr := .need (.prim [(W 2 0), (WK (32768))] none) (.binOp .rem 2 (.tmp 10) (.const (I3 (32768))) 2) 2 false t41_6
def t41_18 : Tr := .ret [(.agg [(U 5 0), (U 5 1)])]
def t41_17 : Tr := .need (.call 211 [(WK (-1)), (.one (.c (.sr 1 3)))] [(some 2)]) (.call ⟨.value (.func 211), #[(.tmp 22), (.tmp 23)], #[3, 45]⟩) 47 true t41_18
def t41_4 : Tr := .split (.u 4 0) t41_5 t41_17
def t41_3 : Tr := .need (.prim [(W 2 0), (WK (0))] none) (.binOp .neq 2 (.tmp 8) (.const (I3 (0))) 2) 4 false t41_4
def t41_2 : Tr := .loop 0 [(.w (W 0 0)), .nilrow] t41_3
def t41_34 : Tr := .need (.call 211 [(WK (1)), (.one (.c (.sr 1 3)))] [(some 2)]) (.call ⟨.value (.func 211), #[(.tmp 22), (.tmp 23)], #[3, 45]⟩) 47 true t41_18
def t41_21 : Tr := .split (.u 4 0) t41_5 t41_34
def t41_20 : Tr := .need (.prim [(W 2 0), (WK (0))] none) (.binOp .neq 2 (.tmp 8) (.const (I3 (0))) 2) 4 false t41_21
def t41_19 : Tr := .loop 0 [(.w (W 0 0)), .nilrow] t41_20
def t41_1 : Tr := .split (.u 1 0) t41_2 t41_19
def t41_0 : Tr := .need (.prim [(W 0 0), (WK (0))] none) (.binOp .lss 2 (.tmp 6) (.const (I3 (0))) 2) 4 false t41_1
theorem x_RZInt : execF prog f139 (fun _ => none) [.v none] = t41_0 := by kernel_rfl
def t42_8 : Tr := .ret [(WK (-1))]
def t42_9 : Tr := .ret [(WK (1))]
def t42_7 : Tr := .split (.u 7 0) t42_8 t42_9
def t42_6 : Tr := .need (.prim [(W 5 0), (W 6 0)] none) (.binOp .lss 3 (.tmp 12) (.tmp 14) 3) 4 false t42_7
def t42_5 : Tr := .need (.prim [(W 1 0)] none) (.call ⟨.builtin .len, #[(.tmp 13)], #[45]⟩) 3 false t42_6
def t42_4 : Tr := .need (.prim [(W 0 0)] none) (.call ⟨.builtin .len, #[(.tmp 11)], #[45]⟩) 3 false t42_5
def t42_29 : Tr := .back 0 [(.w (W 5 0)), (.w (W 19 0))]
def t42_28 : Tr := .need (.prim [(W 6 0), (WK (1))] none) (.binOp .add 3 (.tmp 20) (.const (I3 (1))) 3) 3 false t42_29
def t42_26 : Tr := .split (.u 18 0) t42_9 t42_28
def t42_25 : Tr := .need (.prim [(W 15 0), (W 17 0)] none) (.binOp .gtr 3 (.tmp 34) (.tmp 38) 3) 4 false t42_26
def t42_24 : Tr := .need (.prim [(W 16 0)] none) (.load 3 (.tmp 37)) 3 false t42_25
def t42_23 : Tr := .need (.prim [(W 1 0), (W 6 0)] none) (.indexAddr 45 (.tmp 35) (.tmp 36)) 0 false t42_24
def t42_22 : Tr := .need (.prim [(W 14 0)] none) (.load 3 (.tmp 33)) 3 false t42_23
def t42_21 : Tr := .need (.prim [(W 0 0), (W 6 0)] none) (.indexAddr 45 (.tmp 31) (.tmp 32)) 0 false t42_22
def t42_19 : Tr := .split (.u 13 0) t42_8 t42_21
def t42_18 : Tr := .need (.prim [(W 10 0), (W 12 0)] none) (.binOp .lss 3 (.tmp 25) (.tmp 29) 3) 4 false t42_19
def t42_17 : Tr := .need (.prim [(W 11 0)] none) (.load 3 (.tmp 28)) 3 false t42_18
def t42_16 : Tr := .need (.prim [(W 1 0), (W 6 0)] none) (.indexAddr 45 (.tmp 26) (.tmp 27)) 0 false t42_17
def t42_15 : Tr := .need (.prim [(W 9 0)] none) (.load 3 (.tmp 24)) 3 false t42_16
def t42_14 : Tr := .need (.prim [(W 0 0), (W 6 0)] none) (.indexAddr 45 (.tmp 22) (.tmp 23)) 0 false t42_15
def t42_30 : Tr := .ret [(WK (0))]
def t42_13 : Tr := .split (.u 8 0) t42_14 t42_30
def t42_12 : Tr := .need (.prim [(W 6 0), (W 7 0)] none) (.binOp .lss 3 (.tmp 16) (.tmp 18) 3) 4 false t42_13
def t42_11 : Tr := .need (.prim [(W 0 0)] none) (.call ⟨.builtin .len, #[(.tmp 17)], #[45]⟩) 3 false t42_12
def t42_10 : Tr := .loop 0 [(.w (WK (0))), (.w (WK (0)))] t42_11
def t42_3 : Tr := .split (.u 4 0) t42_4 t42_10
def t42_2 : Tr := .need (.prim [(W 2 0), (W 3 0)] none) (.binOp .neq 3 (.tmp 7) (.tmp 9) 3) 4 false t42_3
def t42_1 : Tr := .need (.prim [(W 1 0)] none) (.call ⟨.builtin .len, #[(.tmp 8)], #[45]⟩) 3 false t42_2
def t42_0 : Tr := .need (.prim [(W 0 0)] none) (.call ⟨.builtin .len, #[(.tmp 6)], #[45]⟩) 3 false t42_1
theorem x_Rahead : execF prog f215 (fun _ => none) [.v none, .v none] = t42_0 := by kernel_rfl
def t43_9 : Tr := .ret [(W 8 0)]
def t43_8 : Tr := .need (.prim [(W 7 0)] none) (.load 3 (.tmp 15)) 3 false t43_9
def t43_7 : Tr := .need (.prim [(W 0 0), (W 6 0)] none) (.indexAddr 45 (.tmp 9) (.tmp 14)) 0 false t43_8
def t43_6 : Tr := .need (.prim [(W 5 0), (W 1 0)] none) (.binOp .sub 3 (.tmp 12) (.tmp 13) 3) 3 false t43_7
def t43_5 : Tr := .need (.prim [(W 4 0), (WK (1))] none) (.binOp .sub 3 (.tmp 11) (.const (I3 (1))) 3) 3 false t43_6
def t43_4 : Tr := .need (.prim [(W 0 0)] none) (.call ⟨.builtin .len, #[(.tmp 10)], #[45]⟩) 3 false t43_5
def t43_2 : Tr := .split (.u 3 0) t42_30 t43_4
def t43_1 : Tr := .need (.prim [(W 1 0), (W 2 0)] none) (.binOp .geq 3 (.tmp 5) (.tmp 7) 3) 4 false t43_2
def t43_0 : Tr := .need (.prim [(W 0 0)] none) (.call ⟨.builtin .len, #[(.tmp 6)], #[45]⟩) 3 false t43_1
theorem x_Rdigit : execF prog f263 (fun _ => none) [.v none, .v none] = t43_0 := by kernel_rfl
def t44_5 : Tr := .ret [(W 5 0)]
def t44_4 : Tr := .need (.prim [(W 0 0)] none) (.call ⟨.builtin .len, #[(.tmp 10)], #[45]⟩) 3 false t44_5
def t44_6 : Tr := .need (.prim [(W 1 0)] none) (.call ⟨.builtin .len, #[(.tmp 12)], #[45]⟩) 3 false t44_5
def t44_3 : Tr := .split (.u 4 0) t44_4 t44_6
def t44_2 : Tr := .need (.prim [(W 2 0), (W 3 0)] none) (.binOp .gtr 3 (.tmp 6) (.tmp 8) 3) 4 false t44_3
def t44_1 : Tr := .need (.prim [(W 1 0)] none) (.call ⟨.builtin .len, #[(.tmp 7)], #[45]⟩) 3 false t44_2
def t44_0 : Tr := .need (.prim [(W 0 0)] none) (.call ⟨.builtin .len, #[(.tmp 5)], #[45]⟩) 3 false t44_1
theorem x_Rlongest : execF prog f262 (fun _ => none) [.v none, .v none] = t44_0 := by kernel_rfl
def t45_22 : Tr := .back 0 [(.w (WK (1))), (.w (W 22 0)), (.row 21)]
def t45_21 : Tr := .need (.prim [(W 7 0), (WK (1))] none) (.binOp .add 3 (.tmp 21) (.const (I3 (1))) 3) 3 false t45_22
def t45_20 : Tr := .need (.strow 8 1 (.u 20 0) 0 [(.u 18 0)]) (.store 3 (.tmp 48) (.tmp 47)) 0 false t45_21
def t45_19 : Tr := .need (.idx 8 (.u 20 0)) (.indexAddr 45 (.tmp 42) (.tmp 46)) 0 false t45_20
def t45_18 : Tr := .need (.prim [(W 19 0), (W 7 0)] none) (.binOp .sub 3 (.tmp 44) (.tmp 45) 3) 3 false t45_19
def t45_17 : Tr := .need (.prim [(W 4 0), (WK (1))] none) (.binOp .sub 3 (.tmp 43) (.const (I3 (1))) 3) 3 false t45_18
def t45_16 : Tr := .need (.prim [(W 16 0), (WK (32768))] none) (.binOp .sub 3 (.tmp 40) (.const (I3 (32768))) 3) 3 false t45_17
def t45_28 : Tr := .back 0 [(.w (WK (-1))), (.w (W 21 0)), (.row 20)]
def t45_27 : Tr := .need (.prim [(W 7 0), (WK (1))] none) (.binOp .add 3 (.tmp 21) (.const (I3 (1))) 3) 3 false t45_28
def t45_26 : Tr := .need (.strow 8 1 (.u 19 0) 0 [(.u 16 0)]) (.store 3 (.tmp 48) (.tmp 47)) 0 false t45_27
def t45_25 : Tr := .need (.idx 8 (.u 19 0)) (.indexAddr 45 (.tmp 42) (.tmp 46)) 0 false t45_26
def t45_24 : Tr := .need (.prim [(W 18 0), (W 7 0)] none) (.binOp .sub 3 (.tmp 44) (.tmp 45) 3) 3 false t45_25
def t45_23 : Tr := .need (.prim [(W 4 0), (WK (1))] none) (.binOp .sub 3 (.tmp 43) (.const (I3 (1))) 3) 3 false t45_24
def t45_15 : Tr := .split (.u 17 0) t45_16 t45_23
def t45_14 : Tr := .need (.prim [(W 16 0), (WK (32768))] none) (.binOp .geq 3 (.tmp 38) (.const (I3 (32768))) 3) 4 false t45_15
def t45_13 : Tr := .need (.prim [(W 14 0), (WK (32768))] none) (.binOp .add 3 (.tmp 36) (.const (I3 (32768))) 3) 3 false t45_14
def t45_37 : Tr := .back 0 [(.w (WK (1))), (.w (W 21 0)), (.row 20)]
def t45_36 : Tr := .need (.prim [(W 7 0), (WK (1))] none) (.binOp .add 3 (.tmp 21) (.const (I3 (1))) 3) 3 false t45_37
def t45_35 : Tr := .need (.strow 8 1 (.u 19 0) 0 [(.u 17 0)]) (.store 3 (.tmp 48) (.tmp 47)) 0 false t45_36
def t45_34 : Tr := .need (.idx 8 (.u 19 0)) (.indexAddr 45 (.tmp 42) (.tmp 46)) 0 false t45_35
def t45_33 : Tr := .need (.prim [(W 18 0), (W 7 0)] none) (.binOp .sub 3 (.tmp 44) (.tmp 45) 3) 3 false t45_34
def t45_32 : Tr := .need (.prim [(W 4 0), (WK (1))] none) (.binOp .sub 3 (.tmp 43) (.const (I3 (1))) 3) 3 false t45_33
def t45_31 : Tr := .need (.prim [(W 14 0), (WK (32768))] none) (.binOp .sub 3 (.tmp 40) (.const (I3 (32768))) 3) 3 false t45_32
def t45_43 : Tr := .back 0 [(.w (WK (0))), (.w (W 20 0)), (.row 19)]
def t45_42 : Tr := .need (.prim [(W 7 0), (WK (1))] none) (.binOp .add 3 (.tmp 21) (.const (I3 (1))) 3) 3 false t45_43
def t45_41 : Tr := .need (.strow 8 1 (.u 18 0) 0 [(.u 14 0)]) (.store 3 (.tmp 48) (.tmp 47)) 0 false t45_42
def t45_40 : Tr := .need (.idx 8 (.u 18 0)) (.indexAddr 45 (.tmp 42) (.tmp 46)) 0 false t45_41
def t45_39 : Tr := .need (.prim [(W 17 0), (W 7 0)] none) (.binOp .sub 3 (.tmp 44) (.tmp 45) 3) 3 false t45_40
def t45_38 : Tr := .need (.prim [(W 4 0), (WK (1))] none) (.binOp .sub 3 (.tmp 43) (.const (I3 (1))) 3) 3 false t45_39
def t45_30 : Tr := .split (.u 16 0) t45_31 t45_38
def t45_29 : Tr := .need (.prim [(W 14 0), (WK (32768))] none) (.binOp .geq 3 (.tmp 38) (.const (I3 (32768))) 3) 4 false t45_30
def t45_12 : Tr := .split (.u 15 0) t45_13 t45_29
def t45_11 : Tr := .need (.prim [(W 14 0), (WK (0))] none) (.binOp .lss 3 (.tmp 34) (.const (I3 (0))) 3) 4 false t45_12
def t45_10 : Tr := .need (.prim [(W 13 0), (W 6 0)] none) (.binOp .add 3 (.tmp 31) (.tmp 32) 3) 3 false t45_11
def t45_9 : Tr := .need (.prim [(W 10 0), (W 12 0)] none) (.binOp .add 3 (.tmp 25) (.tmp 30) 3) 3 false t45_10
def t45_8 : Tr := .need (.prim [(W 2 0), (W 11 0)] none) (.binOp .mul 3 (.tmp 26) (.tmp 29) 3) 3 false t45_9
def t45_7 : Tr := .need (.call 263 [(W 1 0), (W 7 0)] [none]) (.call ⟨.value (.func 263), #[(.tmp 27), (.tmp 28)], #[45, 3]⟩) 3 false t45_8
def t45_6 : Tr := .need (.call 263 [(W 0 0), (W 7 0)] [none]) (.call ⟨.value (.func 263), #[(.tmp 23), (.tmp 24)], #[45, 3]⟩) 3 false t45_7
def t45_45 : Tr := .ret [(W 10 0)]
def t45_44 : Tr := .need (.call 260 [(.one (.c (.sr 1 8)))] [none]) (.call ⟨.value (.func 260), #[(.tmp 49)], #[45]⟩) 45 true t45_45
def t45_5 : Tr := .split (.u 9 0) t45_6 t45_44
def t45_4 : Tr := .need (.prim [(W 7 0), (W 4 0)] none) (.binOp .lss 3 (.tmp 18) (.tmp 19) 3) 4 false t45_5
def t45_3 : Tr := .loop 0 [(.w (WK (0))), (.w (WK (0))), (.row 5)] t45_4
def t45_2 : Tr := .need (.make [(.int .i64 (0))] 8 (.u 4 0) (.u 4 0)) (.makeSlice 45 (.tmp 16) (.tmp 16)) 45 false t45_3
def t45_1 : Tr := .need (.prim [(W 3 0), (WK (1))] none) (.binOp .add 3 (.tmp 14) (.const (I3 (1))) 3) 3 false t45_2
def t45_0 : Tr := .need (.call 262 [(W 0 0), (W 1 0)] [none]) (.call ⟨.value (.func 262), #[(.tmp 12), (.tmp 13)], #[45, 45]⟩) 3 true t45_1
theorem x_Rboth : execF prog f214 (fun _ => none) [.v none, .v none, .v none] = t45_0 := by kernel_rfl
def t46_1 : Tr := .ret [(.agg [(U 1 0), (U 0 1)])]
def t46_0 : Tr := .need (.prim [(W 0 0)] none) (.unOp .neg 3 (.tmp 4)) 3 false t46_1
theorem x_RZNeg : execF prog f183 (fun _ => none) [.v (some 2)] = t46_0 := by kernel_rfl
def t48_2 : Tr := .ret [(.agg [(U 1 0), (U 1 1)])]
def t48_5 : Tr := .ret [(.agg [(U 0 0), (U 0 1)])]
def t48_10 : Tr := .ret [(.agg [(U 6 0), (U 6 1)])]
def t48_9 : Tr := .need (.call 211 [(W 0 0), (W 5 0)] [(some 2)]) (.call ⟨.value (.func 211), #[(.tmp 19), (.tmp 24)], #[3, 45]⟩) 47 true t48_10
def t48_8 : Tr := .need (.call 214 [(W 0 1), (W 1 1), (WK (1))] [none]) (.call ⟨.value (.func 214), #[(.tmp 21), (.tmp 23), (.const (I3 (1)))], #[45, 45, 3]⟩) 45 true t48_9
def t48_16 : Tr := .ret [(.agg [(U 8 0), (U 8 1)])]
def t48_15 : Tr := .need (.call 211 [(W 0 0), (W 7 0)] [(some 2)]) (.call ⟨.value (.func 211), #[(.tmp 33), (.tmp 38)], #[3, 45]⟩) 47 true t48_16
def t48_14 : Tr := .need (.call 214 [(W 0 1), (W 1 1), (WK (-1))] [none]) (.call ⟨.value (.func 214), #[(.tmp 35), (.tmp 37), (.const (I3 (-1)))], #[45, 45, 3]⟩) 45 true t48_15
def t48_18 : Tr := .need (.call 211 [(W 1 0), (W 7 0)] [(some 2)]) (.call ⟨.value (.func 211), #[(.tmp 41), (.tmp 46)], #[3, 45]⟩) 47 true t48_16
def t48_17 : Tr := .need (.call 214 [(W 1 1), (W 0 1), (WK (-1))] [none]) (.call ⟨.value (.func 214), #[(.tmp 43), (.tmp 45), (.const (I3 (-1)))], #[45, 45, 3]⟩) 45 true t48_18
def t48_13 : Tr := .split (.u 6 0) t48_14 t48_17
def t48_12 : Tr := .need (.prim [(W 5 0), (WK (0))] none) (.binOp .geq 3 (.tmp 30) (.const (I3 (0))) 3) 4 false t48_13
def t48_11 : Tr := .need (.call 215 [(W 0 1), (W 1 1)] [none]) (.call ⟨.value (.func 215), #[(.tmp 27), (.tmp 29)], #[45, 45]⟩) 3 true t48_12
def t48_7 : Tr := .split (.u 4 0) t48_8 t48_11
def t48_6 : Tr := .need (.prim [(W 0 0), (W 1 0)] none) (.binOp .eql 3 (.tmp 14) (.tmp 16) 3) 4 false t48_7
def t48_4 : Tr := .split (.u 3 0) t48_5 t48_6
def t48_3 : Tr := .need (.prim [(W 1 0), (WK (0))] none) (.binOp .eql 3 (.tmp 10) (.const (I3 (0))) 3) 4 false t48_4
def t48_1 : Tr := .split (.u 2 0) t48_2 t48_3
def t48_0 : Tr := .need (.prim [(W 0 0), (WK (0))] none) (.binOp .eql 3 (.tmp 6) (.const (I3 (0))) 3) 4 false t48_1
theorem x_RZAdd : execF prog f138 (fun _ => none) [.v (some 2), .v (some 2)] = t48_0 := by kernel_rfl
def t50_32 : Tr := .back 1 [(.w (W 31 0)), (.w (W 32 0)), (.row 30)]
def t50_31 : Tr := .need (.prim [(W 14 0), (WK (1))] none) (.binOp .sub 3 (.tmp 32) (.const (I3 (1))) 3) 3 false t50_32
def t50_30 : Tr := .need (.prim [(W 26 0), (WK (32768))] none) (.binOp .quo 3 (.tmp 63) (.const (I3 (32768))) 3) 3 false t50_31
def t50_29 : Tr := .need (.strow 15 1 (.u 28 0) 0 [(.u 29 0)]) (.store 3 (.tmp 62) (.tmp 61)) 0 false t50_30
def t50_28 : Tr := .need (.idx 15 (.u 28 0)) (.indexAddr 45 (.tmp 55) (.tmp 59)) 0 false t50_29
def t50_27 : Tr := .need (.prim [(W 26 0), (WK (32768))] none) (.binOp .rem 3 (.tmp 60) (.const (I3 (32768))) 3) 3 false t50_28
def t50_26 : Tr := .need (.prim [(W 27 0), (WK (1))] none) (.binOp .add 3 (.tmp 58) (.const (I3 (1))) 3) 3 false t50_27
def t50_25 : Tr := .need (.prim [(W 8 0), (W 14 0)] none) (.binOp .add 3 (.tmp 56) (.tmp 57) 3) 3 false t50_26
def t50_24 : Tr := .need (.prim [(W 25 0), (W 13 0)] none) (.binOp .add 3 (.tmp 52) (.tmp 53) 3) 3 false t50_25
def t50_23 : Tr := .need (.prim [(W 19 0), (W 24 0)] none) (.binOp .add 3 (.tmp 40) (.tmp 51) 3) 3 false t50_24
def t50_22 : Tr := .need (.prim [(W 21 0), (W 23 0)] none) (.binOp .mul 3 (.tmp 45) (.tmp 50) 3) 3 false t50_23
def t50_21 : Tr := .need (.prim [(W 22 0)] none) (.load 3 (.tmp 49)) 3 false t50_22
def t50_20 : Tr := .need (.prim [(W 1 1), (W 14 0)] none) (.indexAddr 45 (.tmp 47) (.tmp 48)) 0 false t50_21
def t50_19 : Tr := .need (.prim [(W 20 0)] none) (.load 3 (.tmp 44)) 3 false t50_20
def t50_18 : Tr := .need (.prim [(W 0 1), (W 8 0)] none) (.indexAddr 45 (.tmp 42) (.tmp 43)) 0 false t50_19
def t50_17 : Tr := .need (.ldrow 15 (.u 18 0) 0 1 false) (.load 3 (.tmp 39)) 3 false t50_18
def t50_16 : Tr := .need (.idx 15 (.u 18 0)) (.indexAddr 45 (.tmp 34) (.tmp 38)) 0 false t50_17
def t50_15 : Tr := .need (.prim [(W 17 0), (WK (1))] none) (.binOp .add 3 (.tmp 37) (.const (I3 (1))) 3) 3 false t50_16
def t50_14 : Tr := .need (.prim [(W 8 0), (W 14 0)] none) (.binOp .add 3 (.tmp 35) (.tmp 36) 3) 3 false t50_15
def t50_36 : Tr := .back 0 [(.w (W 18 0)), (.row 17)]
def t50_35 : Tr := .need (.prim [(W 8 0), (WK (1))] none) (.binOp .sub 3 (.tmp 24) (.const (I3 (1))) 3) 3 false t50_36
def t50_34 : Tr := .need (.strow 15 1 (.u 8 0) 0 [(.u 13 0)]) (.store 3 (.tmp 68) (.tmp 67)) 0 false t50_35
def t50_33 : Tr := .need (.idx 15 (.u 8 0)) (.indexAddr 45 (.tmp 65) (.tmp 66)) 0 false t50_34
def t50_13 : Tr := .split (.u 16 0) t50_14 t50_33
def t50_12 : Tr := .need (.prim [(W 14 0), (WK (0))] none) (.binOp .geq 3 (.tmp 30) (.const (I3 (0))) 3) 4 false t50_13
def t50_11 : Tr := .loop 1 [(.w (WK (0))), (.w (W 12 0)), (.row 9)] t50_12
def t50_10 : Tr := .need (.prim [(W 11 0), (WK (1))] none) (.binOp .sub 3 (.tmp 28) (.const (I3 (1))) 3) 3 false t50_11
def t50_9 : Tr := .need (.prim [(W 1 1)] none) (.call ⟨.builtin .len, #[(.tmp 27)], #[45]⟩) 3 false t50_10
def t50_39 : Tr := .ret [(.agg [(U 12 0), (U 12 1)])]
def t50_38 : Tr := .need (.call 211 [(W 11 0), (.one (.c (.sr 1 9)))] [(some 2)]) (.call ⟨.value (.func 211), #[(.tmp 73), (.tmp 74)], #[3, 45]⟩) 47 true t50_39
def t50_37 : Tr := .need (.prim [(W 0 0), (W 1 0)] none) (.binOp .mul 3 (.tmp 70) (.tmp 72) 3) 3 false t50_38
def t50_8 : Tr := .split (.u 10 0) t50_9 t50_37
def t50_7 : Tr := .need (.prim [(W 8 0), (WK (0))] none) (.binOp .geq 3 (.tmp 22) (.const (I3 (0))) 3) 4 false t50_8
def t50_6 : Tr := .loop 0 [(.w (W 7 0)), (.row 5)] t50_7
def t50_5 : Tr := .need (.prim [(W 6 0), (WK (1))] none) (.binOp .sub 3 (.tmp 20) (.const (I3 (1))) 3) 3 false t50_6
def t50_4 : Tr := .need (.prim [(W 0 1)] none) (.call ⟨.builtin .len, #[(.tmp 19)], #[45]⟩) 3 false t50_5
def t50_3 : Tr := .need (.make [(.int .i64 (0))] 8 (.u 4 0) (.u 4 0)) (.makeSlice 45 (.tmp 16) (.tmp 16)) 45 false t50_4
def t50_2 : Tr := .need (.prim [(W 2 0), (W 3 0)] none) (.binOp .add 3 (.tmp 12) (.tmp 15) 3) 3 false t50_3
def t50_1 : Tr := .need (.prim [(W 1 1)] none) (.call ⟨.builtin .len, #[(.tmp 14)], #[45]⟩) 3 false t50_2
def t50_0 : Tr := .need (.prim [(W 0 1)] none) (.call ⟨.builtin .len, #[(.tmp 11)], #[45]⟩) 3 false t50_1
theorem x_RZMul : execF prog f135 (fun _ => none) [.v (some 2), .v (some 2)] = t50_0 := by kernel_rfl
abbrev rB (ds : List Nat) : List (List CTy) := ds.map fun (d : Nat) => [CTy.int .i64 (d : Int)]
abbrev sB (ds : List Nat) : CTy := .slice 1 (rB ds)
abbrev bT (n : Nat) : CTy := sB (bd n)
abbrev zC (z : Int) : List CTy := [.int .i64 z.sign, bT z.natAbs]
abbrev zT (z : Int) : STy := .agg (zC z)
theorem dbnil : DB 32768 [] := fun d hd => by cases hd
theorem nilB {n : Nat} (h : n = 0) : CTy.Sub (.exact (.slice none 0 0)) (bT n) := by
  subst h
  rw [bT, bd_zero]; exact CTy.Sub.nil
theorem sliceB {ds : List Nat} {x : Operand} {ty : Nat} {y : Operand} {k : IntKind} {n : Int} {m : Nat} (h0 : 0 ≤ n) (hm : n.toNat = m) (hn : m ≤ ds.length) : PrimOk prog (.slice 45 x (some y) none none) ty [.one (sB ds), .one (.int k n)] (.one (sB (ds.drop m))) := by
  have := p_slice_l (P := prog) (T := 45) (x := x) (y := y) (ty := ty) (k := k) (n := n) (ts := rB ds) el45 h0 (by rw [List.length_map, hm]; exact hn)
  rw [hm, rB, ← List.map_drop] at this
  exact this
theorem sliceBh {ds : List Nat} {x : Operand} {ty : Nat} {y : Operand} {k : IntKind} {n : Int} {m : Nat} (h0 : 0 ≤ n) (hm : n.toNat = m) (hn : m ≤ ds.length) : PrimOk prog (.slice 45 x none (some y) none) ty [.one (sB ds), .one (.int k n)] (.one (sB (ds.take m))) := by
  have := p_slice_h (P := prog) (T := 45) (x := x) (y := y) (ty := ty) (k := k) (n := n) (ts := rB ds) el45 h0 (by rw [List.length_map, hm]; exact hn)
  rw [hm, rB, ← List.map_take] at this
  exact this

theorem d_Rstrip (ds : List Nat) (hd : DB 32768 ds) (hs : ds.length < 4611686018427387904) : Does prog 260 [(.one (sB ds) : STy)] (.ret [.one (bT (bv ds))]) := by
  refine does_of_vc (args := [.v none]) (ins := [.v (.one (sB ds))]) (hints := (fun _ => none)) fo (by kernel_rfl) func260 ⟨rfl, trivial⟩ ?_
  rw [x_Rstrip]
  dsimp only [List.map, In.env, c_a, n_a]
  refine vloop {xs : List Nat // DB 32768 xs ∧ bv xs = bv ds ∧ xs.length ≤ ds.length} (fun g => [.one (sB g.1)]) (fun g => g.1.length) ⟨ds, hd, rfl, Nat.le_refl _⟩ SubL.rfl (fun _ => rfl) ?_
  rintro ⟨xs, hx, hv, hl⟩
  dsimp only [c_a, n_a] at hx hv hl ⊢
  refine vn (p_len el45 (List.length_map _)) rfl ?_
  dsimp only [c_a, n_a]
  refine vn q_gtr rfl ?_
  dsimp only [c_a, n_a]
  refine vs _ rfl (fun h3 => ?_) (fun h3 => ?_)
  · obtain ⟨d, hget⟩ : ∃ d, xs[0]? = some d := ⟨_, List.getElem?_eq_getElem (by omega)⟩
    refine vn (p_idxm el45 (by omega) (by omega) hget) rfl ?_
    dsimp only [c_a, n_a]
    refine vn (p_load1 ag3) rfl ?_
    dsimp only [c_a, n_a]
    refine vn q_eql rfl ?_
    dsimp only [c_a, n_a]
    refine vs _ rfl (fun h7 => ?_) (fun h7 => ?_)
    · refine vn (sliceB (by omega) rfl (by omega)) rfl ?_
      dsimp only [c_a, n_a]
      exact vback rfl ⟨⟨xs.drop 1, hx.drop 1, by
        have h7 : d = 0 := by omega
        rw [← hv, head_rest hget, h7, Nat.mul_zero, Nat.add_zero], by show (xs.drop 1).length ≤ _; rw [List.length_drop]; omega⟩, SubL.rfl, by show (xs.drop 1).length < xs.length; rw [List.length_drop]; omega⟩
    have e : bd (bv ds) = xs := by
      rw [← hv]
      refine bd_bv hx fun d' h' => ?_
      rw [List.head?_eq_getElem?, hget] at h'
      simp only [Option.some.injEq] at h'
      subst h'; omega
    rw [bT, e]; exact vret rfl
  have e : bd (bv ds) = xs := by
    have : xs = [] := List.eq_nil_of_length_eq_zero (by omega)
    rw [← hv, this]; exact bd_zero
  rw [bT, e]; exact vret rfl

theorem d_Rwith (s z : Int) (ds : List Nat) (hd : DB 32768 ds) (hs : ds.length < 4611686018427387904) (h1 : z.natAbs = bv ds) (h2 : bv ds ≠ 0 → z.sign = s) : Does prog 211 [(.one (.int .i64 s) : STy), (.one (sB ds) : STy)] (.ret [zT z]) := by
  refine does_of_vc (args := [.v none, .v none]) (ins := [.v (.one (.int .i64 s)), .v (.one (sB ds))]) (hints := (fun _ => none)) fo (by kernel_rfl) func211 ⟨rfl, rfl, trivial⟩ ?_
  rw [x_Rwith]
  dsimp only [List.map, In.env, c_a, n_a]
  have hlen : (bd (bv ds)).length = 0 ↔ bv ds = 0 := by rw [List.length_eq_zero_iff, bd_nil]
  have hl2 : (bd (bv ds)).length ≤ ds.length := bd_len_le (bv_lt hd)
  refine vcall (d_Rstrip ds hd hs) rfl ?_
  dsimp only [c_a, n_a]
  refine vn (p_len el45 (List.length_map _)) rfl ?_
  dsimp only [c_a, n_a]
  refine vn q_eql rfl ?_
  dsimp only [c_a, n_a]
  refine vs _ rfl (fun h3 => ?_) (fun h3 => ?_)
  · have hz : z = 0 := by
      have := hlen.1 (by omega)
      omega
    subst hz
    exact vrets ⟨⟨CTy.Sub.same, nilB rfl, trivial⟩, trivial⟩
  refine vret ?_
  rw [← h2 (fun h => h3 (by have := hlen.2 h; omega)), ← h1]
  rfl

theorem zint_len {ds : List Nat} {m n : Nat} (hm : m ≠ 0) (h : bv ds + 32768 ^ ds.length * m = n) (hn : n < 18446744073709551616) : ds.length ≤ 4 := by
  rcases Nat.lt_or_ge ds.length 5 with h1 | h1
  · omega
  · have h2 : 32768 ^ 5 ≤ 32768 ^ ds.length := Nat.pow_le_pow_right (by omega) h1
    have h3 : 32768 ^ ds.length ≤ 32768 ^ ds.length * m := Nat.le_mul_of_pos_right _ (by omega)
    omega
theorem zint_next {ds : List Nat} {m n : Nat} (h : bv ds + 32768 ^ ds.length * m = n) : bv (m % 32768 :: ds) + 32768 ^ (m % 32768 :: ds).length * (m / 32768) = n := by
  rw [bv_cons, List.length_cons, Nat.pow_succ, Nat.add_assoc, Nat.mul_assoc, ← Nat.mul_add, Nat.mod_add_div]; exact h
theorem neg_tmod {m : Nat} : (-(m : Int)).tmod 32768 = -((m % 32768 : Nat) : Int) := by rw [Int.neg_tmod, Int.tmod_eq_emod_of_nonneg (by omega)]; omega
theorem neg_tdiv {m : Nat} : (-(m : Int)).tdiv 32768 = -((m / 32768 : Nat) : Int) := by rw [Int.neg_tdiv, Int.tdiv_eq_ediv_of_nonneg (by omega)]; omega

theorem d_RZInt (n : Int) (h1 : -9223372036854775808 ≤ n) (h2 : n < 9223372036854775808) : Does prog 139 [(.one (.int .i64 n) : STy)] (.ret [zT n]) := by
  refine does_of_vc (args := [.v none]) (ins := [.v (.one (.int .i64 n))]) (hints := (fun _ => none)) fo (by kernel_rfl) func139 ⟨rfl, trivial⟩ ?_
  rw [x_RZInt]
  dsimp only [List.map, In.env, c_a, n_a]
  refine vn q_lss rfl ?_
  dsimp only [c_a, n_a]
  refine vs _ rfl (fun h1 => ?_) (fun h1' => ?_)
  -- both
  · refine vloop {g : Nat × List Nat // bv g.2 + 32768 ^ g.2.length * g.1 = n.natAbs ∧ DB 32768 g.2 ∧ g.1 ≤ 9223372036854775808 ∧ g.2.length ≤ 5} (fun g => [.one (.int .i64 (-(g.1.1 : Int))), .rows (rB g.1.2)]) (fun g => g.1.1) ⟨(n.natAbs, []), by simp [bv, val], dbnil, by show n.natAbs ≤ _; omega, by simp⟩ ⟨STy.Sub.of_eq (congrArg (fun q => STy.one (CTy.int .i64 q)) (by show n = -((n.natAbs : Nat) : Int); omega)), STy.Sub.same, trivial⟩ (fun _ => rfl) ?_
    rintro ⟨⟨m, ds⟩, hv, hd, hm, hl⟩
    dsimp only [c_a, n_a] at hv hd hm hl ⊢
    refine vn q_neq rfl ?_
    dsimp only [c_a, n_a]
    refine vs _ rfl (fun h4 => ?_) (fun h4 => ?_)
    · have hm0 : m ≠ 0 := by omega
      have hl4 := zint_len hm0 hv (by omega)
      have hd2 : DB 32768 (m % 32768 :: ds) := fun d hd' => by
        rcases List.mem_cons.1 hd' with rfl | hd'
        · omega
        · exact hd d hd'
      refine vn (p_rem (c := -((m % 32768 : Nat) : Int)) (by decide) neg_tmod) rfl ?_
      dsimp only [c_a, n_a]
      refine vn q_lss rfl ?_
      dsimp only [c_a, n_a]
      refine vs _ rfl (fun h7 => ?_) (fun h7 => ?_)
      · refine vn (p_neg_i64 (by omega) (by omega)) rfl ?_
        dsimp only [c_a, n_a]
        refine vlit (us := rB [m % 32768]) (by show [[CTy.int .i64 _]] = [[CTy.int .i64 _]]; congr 3; omega) ?_
        dsimp only [c_a, n_a]
        refine vapp (ts := rB [m % 32768]) (us := rB ds) (vs := rB (m % 32768 :: ds)) rfl rfl rfl (by simp; omega) (by simp [maxLen]; omega) ?_
        dsimp only [c_a, n_a]
        refine vn (p_quo (c := -((m / 32768 : Nat) : Int)) (by decide) (by rw [neg_tdiv]; exact wr_i64 (by omega) (by omega))) rfl ?_
        dsimp only [c_a, n_a]
        exact vback rfl ⟨⟨(m / 32768, m % 32768 :: ds), zint_next hv, hd2, by show m / 32768 ≤ _; omega, by show ds.length + 1 ≤ 5; omega⟩, SubL.rfl, by show m / 32768 < m; omega⟩
      refine vlit (us := rB [m % 32768]) (by show [[CTy.int .i64 _]] = [[CTy.int .i64 _]]; congr 3; omega) ?_
      dsimp only [c_a, n_a]
      refine vapp (ts := rB [m % 32768]) (us := rB ds) (vs := rB (m % 32768 :: ds)) rfl rfl rfl (by simp; omega) (by simp [maxLen]; omega) ?_
      dsimp only [c_a, n_a]
      refine vn (p_quo (c := -((m / 32768 : Nat) : Int)) (by decide) (by rw [neg_tdiv]; exact wr_i64 (by omega) (by omega))) rfl ?_
      dsimp only [c_a, n_a]
      exact vback rfl ⟨⟨(m / 32768, m % 32768 :: ds), zint_next hv, hd2, by show m / 32768 ≤ _; omega, by show ds.length + 1 ≤ 5; omega⟩, SubL.rfl, by show m / 32768 < m; omega⟩
    have hm0 : m = 0 := by omega
    subst hm0
    rw [Nat.mul_zero, Nat.add_zero] at hv
    refine vcall (d_Rwith (-1) n ds hd (by omega) hv.symm (fun _ => Int.sign_eq_neg_one_of_neg h1)) rfl ?_
    dsimp only [c_a, n_a]
    exact vret rfl
  refine vloop {g : Nat × List Nat // bv g.2 + 32768 ^ g.2.length * g.1 = n.natAbs ∧ DB 32768 g.2 ∧ g.1 ≤ 9223372036854775808 ∧ g.2.length ≤ 5 ∧ g.1 < 9223372036854775808} (fun g => [.one (.int .i64 (g.1.1 : Int)), .rows (rB g.1.2)]) (fun g => g.1.1) ⟨(n.natAbs, []), by simp [bv, val], dbnil, by show n.natAbs ≤ _; omega, by simp, by show n.natAbs < _; omega⟩ ⟨STy.Sub.of_eq (congrArg (fun q => STy.one (CTy.int .i64 q)) (by show n = ((n.natAbs : Nat) : Int); omega)), STy.Sub.same, trivial⟩ (fun _ => rfl) ?_
  rintro ⟨⟨m, ds⟩, hv, hd, hm, hl, hmm⟩
  dsimp only [c_a, n_a] at hv hd hm hl hmm ⊢
  refine vn q_neq rfl ?_
  dsimp only [c_a, n_a]
  refine vs _ rfl (fun h21 => ?_) (fun h21 => ?_)
  · have hm0 : m ≠ 0 := by omega
    have hl4 := zint_len hm0 hv (by omega)
    have hd2 : DB 32768 (m % 32768 :: ds) := fun d hd' => by
      rcases List.mem_cons.1 hd' with rfl | hd'
      · omega
      · exact hd d hd'
    refine vn (p_rem_n (by omega) (by omega)) rfl ?_
    dsimp only [c_a, n_a]
    refine vn q_lss rfl ?_
    dsimp only [c_a, n_a]
    refine vs _ rfl (fun h24 => ?_) (fun h24 => ?_)
    · exfalso; omega
      -- stop
    refine vlit (us := rB [m % 32768]) (by show [[CTy.int .i64 _]] = [[CTy.int .i64 _]]; congr 3) ?_
    dsimp only [c_a, n_a]
    refine vapp (ts := rB [m % 32768]) (us := rB ds) (vs := rB (m % 32768 :: ds)) rfl rfl rfl (by simp; omega) (by simp [maxLen]; omega) ?_
    dsimp only [c_a, n_a]
    refine vn (p_quo_i64 (by omega) (by omega) (by omega)) rfl ?_
    dsimp only [c_a, n_a]
    exact vback rfl ⟨⟨(m / 32768, m % 32768 :: ds), zint_next hv, hd2, by show m / 32768 ≤ _; omega, by show ds.length + 1 ≤ 5; omega, by show m / 32768 < _; omega⟩, SubL.rfl, by show m / 32768 < m; omega⟩
  have hm0 : m = 0 := by omega
  subst hm0
  rw [Nat.mul_zero, Nat.add_zero] at hv
  refine vcall (d_Rwith 1 n ds hd (by omega) hv.symm (fun h => Int.sign_eq_one_of_pos (by omega))) rfl ?_
  dsimp only [c_a, n_a]
  exact vret rfl

theorem bv_lt_of {xs ys : List Nat} (hx : DB 32768 xs) {i x y : Nat} (hl : xs.length = ys.length) (hi : xs[i]? = some x) (hj : ys[i]? = some y) (ht : xs.take i = ys.take i) (hxy : x < y) : bv xs < bv ys := by
  have e : ∀ (zs : List Nat) (z : Nat), zs[i]? = some z → bv zs = bv (zs.take i) * 32768 ^ (zs.length - i) + (bv (zs.drop (i + 1)) + 32768 ^ (zs.length - (i + 1)) * z) := fun zs z hz => by
    have hlt : i < zs.length := (List.getElem?_eq_some_iff.1 hz).1
    conv => lhs; rw [← List.take_append_drop i zs]
    rw [bv_append, List.length_drop]
    congr 1
    rw [List.drop_eq_getElem_cons hlt, (List.getElem?_eq_some_iff.1 hz).2, bv_cons, List.length_drop]
  rw [e xs x hi, e ys y hj, ht, hl]
  have h1 := bv_lt (hx.drop (i + 1))
  rw [List.length_drop, hl] at h1
  have h2 : 32768 ^ (ys.length - (i + 1)) * (x + 1) ≤ 32768 ^ (ys.length - (i + 1)) * y := Nat.mul_le_mul_left _ hxy
  rw [Nat.mul_add, Nat.mul_one] at h2
  omega
theorem bd_len_iff {a b : Nat} (h : (bd a).length < (bd b).length) : a < b := by
  rcases Nat.lt_or_ge a b with h1 | h1
  · exact h1
  · have := bd_len_mono h1; omega

theorem d_Rahead (a b : Nat) (hs : (bd a).length + (bd b).length < 1099511627776) : Does prog 215 [(.one (bT a) : STy), (.one (bT b) : STy)] (.ret [.one (.int .i64 (cmpI a b))]) := by
  refine does_of_vc (args := [.v none, .v none]) (ins := [.v (.one (bT a)), .v (.one (bT b))]) (hints := (fun _ => none)) fo (by kernel_rfl) func215 ⟨rfl, rfl, trivial⟩ ?_
  rw [x_Rahead]
  dsimp only [List.map, In.env, c_a, n_a]
  refine vn (p_len el45 (List.length_map _)) rfl ?_
  dsimp only [c_a, n_a]
  refine vn (p_len el45 (List.length_map _)) rfl ?_
  dsimp only [c_a, n_a]
  refine vn q_neq rfl ?_
  dsimp only [c_a, n_a]
  refine vs _ rfl (fun h3 => ?_) (fun h3 => ?_)
  · refine vn (p_len el45 (List.length_map _)) rfl ?_
    dsimp only [c_a, n_a]
    refine vn (p_len el45 (List.length_map _)) rfl ?_
    dsimp only [c_a, n_a]
    refine vn q_lss rfl ?_
    dsimp only [c_a, n_a]
    refine vs _ rfl (fun h7 => ?_) (fun h7 => ?_)
    · rw [cmpI_lt (by have := bd_len_iff (a := a) (b := b) (by omega); omega)]; exact vret rfl
    rw [cmpI_gt (by have := bd_len_iff (a := b) (b := a) (by omega); omega)]; exact vret rfl
  have hlen : (bd a).length = (bd b).length := by omega
  refine vloop {i : Nat // i ≤ (bd a).length ∧ (bd a).take i = (bd b).take i} (fun g => [.one (.int .i64 0), .one (.int .i64 g.1)]) (fun g => (bd a).length - g.1) ⟨0, Nat.zero_le _, rfl⟩ SubL.rfl (fun _ => rfl) ?_
  rintro ⟨i, hi, ht⟩
  dsimp only [c_a, n_a] at hi ht ⊢
  refine vn (p_len el45 (List.length_map _)) rfl ?_
  dsimp only [c_a, n_a]
  refine vn q_lss rfl ?_
  dsimp only [c_a, n_a]
  refine vs _ rfl (fun h13 => ?_) (fun h13 => ?_)
  · obtain ⟨x, hx⟩ : ∃ x, (bd a)[i]? = some x := ⟨_, List.getElem?_eq_getElem (by omega)⟩
    obtain ⟨y, hy⟩ : ∃ y, (bd b)[i]? = some y := ⟨_, List.getElem?_eq_getElem (by omega)⟩
    refine vn (p_idxm el45 (by omega) (by omega) hx) rfl ?_
    dsimp only [c_a, n_a]
    refine vn (p_load1 ag3) rfl ?_
    dsimp only [c_a, n_a]
    refine vn (p_idxm el45 (by omega) (by omega) hy) rfl ?_
    dsimp only [c_a, n_a]
    refine vn (p_load1 ag3) rfl ?_
    dsimp only [c_a, n_a]
    refine vn q_lss rfl ?_
    dsimp only [c_a, n_a]
    refine vs _ rfl (fun h19 => ?_) (fun h19 => ?_)
    · have := bv_lt_of (bd_DB a) hlen hx hy ht (by omega)
      rw [bv_bd, bv_bd] at this
      rw [cmpI_lt (by omega)]; exact vret rfl
    refine vn (p_idxm el45 (by omega) (by omega) hx) rfl ?_
    dsimp only [c_a, n_a]
    refine vn (p_load1 ag3) rfl ?_
    dsimp only [c_a, n_a]
    refine vn (p_idxm el45 (by omega) (by omega) hy) rfl ?_
    dsimp only [c_a, n_a]
    refine vn (p_load1 ag3) rfl ?_
    dsimp only [c_a, n_a]
    refine vn q_gtr rfl ?_
    dsimp only [c_a, n_a]
    refine vs _ rfl (fun h26 => ?_) (fun h26 => ?_)
    · have := bv_lt_of (bd_DB b) hlen.symm hy hx ht.symm (by omega)
      rw [bv_bd, bv_bd] at this
      rw [cmpI_gt (by omega)]; exact vret rfl
    refine vn (p_add_i64 (by omega) (by omega)) rfl ?_
    dsimp only [c_a, n_a]
    exact vback rfl ⟨⟨i + 1, by omega, by rw [take_succ hx, take_succ hy, ht, show x = y by omega]⟩, SubL.rfl, by show (bd a).length - (i + 1) < (bd a).length - i; omega⟩
  have hie : i = (bd a).length := by omega
  subst hie
  have e : bd a = bd b := by
    rw [List.take_length, List.take_of_length_le (by omega)] at ht; exact ht
  have : a = b := by rw [← bv_bd a, e, bv_bd]
  rw [this, cmpI_eq]; exact vret rfl

theorem d_Rdigit (n i : Nat) (hi : i < 4611686018427387904) (hs : (bd n).length < 1099511627776) : Does prog 263 [(.one (bT n) : STy), (.one (.int .i64 i) : STy)] (.ret [.one (.int .i64 ((n / 32768 ^ i % 32768 : Nat) : Int))]) := by
  refine does_of_vc (args := [.v none, .v none]) (ins := [.v (.one (bT n)), .v (.one (.int .i64 i))]) (hints := (fun _ => none)) fo (by kernel_rfl) func263 ⟨rfl, rfl, trivial⟩ ?_
  rw [x_Rdigit]
  dsimp only [List.map, In.env, c_a, n_a]
  have hdg := bd_digit n i
  refine vn (p_len el45 (List.length_map _)) rfl ?_
  dsimp only [c_a, n_a]
  refine vn q_geq rfl ?_
  dsimp only [c_a, n_a]
  refine vs _ rfl (fun h2 => ?_) (fun h2 => ?_)
  · rw [List.getElem?_eq_none_iff.2 (by rw [List.length_reverse]; omega)] at hdg
    rw [← hdg]; exact vret rfl
  refine vn (p_len el45 (List.length_map _)) rfl ?_
  dsimp only [c_a, n_a]
  refine vn (p_sub_i64 (by omega) (by omega)) rfl ?_
  dsimp only [c_a, n_a]
  refine vn (p_sub_i64 (by omega) (by omega)) rfl ?_
  dsimp only [c_a, n_a]
  obtain ⟨d, hd⟩ : ∃ d, (bd n).reverse[i]? = some d := ⟨_, List.getElem?_eq_getElem (by rw [List.length_reverse]; omega)⟩
  have hd2 : (bd n)[(bd n).length - 1 - i]? = some d := by rw [rev_get (by omega)]; exact hd
  rw [hd] at hdg
  refine vn (p_idxm el45 (by omega) (by omega) hd2) rfl ?_
  dsimp only [c_a, n_a]
  refine vn (p_load1 ag3) rfl ?_
  dsimp only [c_a, n_a]
  rw [← hdg]; exact vret rfl

theorem d_Rlongest (a b : Nat) : Does prog 262 [(.one (bT a) : STy), (.one (bT b) : STy)] (.ret [.one (.int .i64 ((max (bd a).length (bd b).length : Nat) : Int))]) := by
  refine does_of_vc (args := [.v none, .v none]) (ins := [.v (.one (bT a)), .v (.one (bT b))]) (hints := (fun _ => none)) fo (by kernel_rfl) func262 ⟨rfl, rfl, trivial⟩ ?_
  rw [x_Rlongest]
  dsimp only [List.map, In.env, c_a, n_a]
  refine vn (p_len el45 (List.length_map _)) rfl ?_
  dsimp only [c_a, n_a]
  refine vn (p_len el45 (List.length_map _)) rfl ?_
  dsimp only [c_a, n_a]
  refine vn q_gtr rfl ?_
  dsimp only [c_a, n_a]
  refine vs _ rfl (fun h3 => ?_) (fun h3 => ?_)
  · refine vn (p_len el45 (List.length_map _)) rfl ?_
    dsimp only [c_a, n_a]
    refine vret ?_
    show [STy.one (CTy.int .i64 _)] = [STy.one (CTy.int .i64 _)]
    congr 3; omega
  refine vn (p_len el45 (List.length_map _)) rfl ?_
  dsimp only [c_a, n_a]
  refine vret ?_
  show [STy.one (CTy.int .i64 _)] = [STy.one (CTy.int .i64 _)]
  congr 3; omega

theorem val_rev (n : Nat) : val 32768 (bd n).reverse = n := bv_bd n
theorem rev_getD (n i : Nat) : (bd n).reverse[i]?.getD 0 = n / 32768 ^ i % 32768 := bd_digit n i

set_option maxHeartbeats 1000000 in
theorem d_Rboth (a b r : Nat) (k : Int) (hk : k = 1 ∨ k = -1) (hr : (r : Int) = a + k * b) (hs : (bd a).length < 274877906944) (hs2 : (bd b).length < 274877906944) : Does prog 214 [(.one (bT a) : STy), (.one (bT b) : STy), (.one (.int .i64 k) : STy)] (.ret [.one (bT r)]) := by
  refine does_of_vc (args := [.v none, .v none, .v none]) (ins := [.v (.one (bT a)), .v (.one (bT b)), .v (.one (.int .i64 k))]) (hints := (fun _ => none)) fo (by kernel_rfl) func214 ⟨rfl, rfl, rfl, trivial⟩ ?_
  rw [x_Rboth]
  dsimp only [List.map, In.env, c_a, n_a]
  obtain ⟨n, hn⟩ : ∃ n, max (bd a).length (bd b).length + 1 = n := ⟨_, rfl⟩
  have hrl : r < 32768 ^ n := by
    have h1 := bd_lt a
    have h2 := bd_lt b
    have h3 : 32768 ^ (bd a).length ≤ 32768 ^ (n - 1) := Nat.pow_le_pow_right (by omega) (by omega)
    have h4 : 32768 ^ (bd b).length ≤ 32768 ^ (n - 1) := Nat.pow_le_pow_right (by omega) (by omega)
    have h5 : 32768 ^ n = 32768 ^ (n - 1) * 32768 := by rw [← Nat.pow_succ]; congr 1; omega
    rcases hk with rfl | rfl <;> omega
  refine vcall (d_Rlongest a b) rfl ?_
  dsimp only [c_a, n_a]
  refine vn (p_add_i64 (by omega) (by omega)) rfl ?_
  dsimp only [c_a, n_a]
  refine vmakem (n := n) (f := fun d : Nat => [CTy.int .i64 (d : Int)]) 0 rfl rfl (by omega) rfl (by omega) (by simp only [maxLen]; omega) ?_
  dsimp only [c_a, n_a]
  refine vloop {g : Nat × Int × List Nat // CInv 32768 (bd a).reverse (bd b).reverse n k g.1 g.2.1 g.2.2} (fun g => [.one (.int .i64 g.1.2.1), .one (.int .i64 g.1.1), .rows (rB g.1.2.2.reverse)]) (fun g => n - g.1.1) ⟨(0, 0, List.replicate n 0), CInv.init (by omega) _ _ _ _⟩ ⟨STy.Sub.same, STy.Sub.same, STy.Sub.of_eq (by rw [List.reverse_replicate]; rfl), trivial⟩ (fun _ => rfl) ?_
  rintro ⟨⟨i, c, os⟩, hI⟩
  dsimp only [c_a, n_a] at hI ⊢
  have hil := hI.le
  have hol := hI.len
  have hc0 := hI.c0
  have hc1 := hI.c1
  refine vn q_lss rfl ?_
  dsimp only [c_a, n_a]
  refine vs _ rfl (fun h5 => ?_) (fun h5 => ?_)
  · obtain ⟨x, hx⟩ : ∃ x, a / 32768 ^ i % 32768 = x := ⟨_, rfl⟩
    obtain ⟨y, hy⟩ : ∃ y, b / 32768 ^ i % 32768 = y := ⟨_, rfl⟩
    have hxB : x < 32768 := by rw [← hx]; exact Nat.mod_lt _ (by omega)
    have hyB : y < 32768 := by rw [← hy]; exact Nat.mod_lt _ (by omega)
    have hcall1 := d_Rdigit a i (by omega) (by omega)
    have hcall2 := d_Rdigit b i (by omega) (by omega)
    rw [hx] at hcall1
    rw [hy] at hcall2
    have hnext : ∀ (z : Nat) (c' : Int), z < 32768 → -1 ≤ c' → c' ≤ 1 → (z : Int) + 32768 * c' = x + k * y + c → CInv 32768 (bd a).reverse (bd b).reverse n k (i + 1) c' (os.set i z) := fun z c' h1 h2 h3 h4 =>
      hI.next (by omega) (by rw [rev_getD, hx]) (by rw [rev_getD, hy]) h2 h3 h1 h4
    have hst : ∀ z, os.reverse.set (n - 1 - i) z = (os.set i z).reverse := fun z => by rw [← hol]; exact set_rev (by omega)
    obtain ⟨o0, hgo⟩ : ∃ o0, os.reverse[n - 1 - i]? = some o0 := ⟨_, List.getElem?_eq_getElem (by rw [List.length_reverse]; omega)⟩
    have hky : k * y = y ∨ k * y = -(y : Int) := by rcases hk with rfl | rfl <;> simp
    generalize hkyv : k * (y : Int) = ky at hnext hky
    refine vcall hcall1 rfl ?_
    dsimp only [c_a, n_a]
    refine vcall hcall2 rfl ?_
    dsimp only [c_a, n_a]
    refine vn (p_mul (c := ky) (by rw [hkyv]; exact wr_i64 (by omega) (by omega))) rfl ?_
    dsimp only [c_a, n_a]
    refine vn (p_add_i64 (by omega) (by omega)) rfl ?_
    dsimp only [c_a, n_a]
    refine vn (p_add_i64 (by omega) (by omega)) rfl ?_
    dsimp only [c_a, n_a]
    refine vn q_lss rfl ?_
    dsimp only [c_a, n_a]
    refine vs _ rfl (fun h12 => ?_) (fun h12 => ?_)
    · refine vn (p_add_i64 (by omega) (by omega)) rfl ?_
      dsimp only [c_a, n_a]
      refine vn q_geq rfl ?_
      dsimp only [c_a, n_a]
      refine vs _ rfl (fun h15 => ?_) (fun h15 => ?_)
      · exfalso; omega
        -- stop
      refine vn (p_sub_i64 (by omega) (by omega)) rfl ?_
      dsimp only [c_a, n_a]
      refine vn (p_sub_i64 (by omega) (by omega)) rfl ?_
      dsimp only [c_a, n_a]
      refine vidxm rfl rfl (by omega) (by rw [List.length_reverse]; omega) ?_
      refine vstm (d' := (x + ky + c + 32768).toNat) rfl rfl (by omega) (by omega) hgo (by show [CTy.int .i64 _] = [CTy.int .i64 _]; congr 2; omega) ?_
      rw [hst]
      dsimp only [c_a, n_a]
      refine vn (p_add_i64 (by omega) (by omega)) rfl ?_
      dsimp only [c_a, n_a]
      exact vback rfl ⟨⟨(i + 1, -1, os.set i (x + ky + c + 32768).toNat), hnext _ (-1) (by omega) (by omega) (by omega) (by omega)⟩, SubL.rfl, by show n - (i + 1) < n - i; omega⟩
    refine vn q_geq rfl ?_
    dsimp only [c_a, n_a]
    refine vs _ rfl (fun h30 => ?_) (fun h30 => ?_)
    · refine vn (p_sub_i64 (by omega) (by omega)) rfl ?_
      dsimp only [c_a, n_a]
      refine vn (p_sub_i64 (by omega) (by omega)) rfl ?_
      dsimp only [c_a, n_a]
      refine vn (p_sub_i64 (by omega) (by omega)) rfl ?_
      dsimp only [c_a, n_a]
      refine vidxm rfl rfl (by omega) (by rw [List.length_reverse]; omega) ?_
      refine vstm (d' := (x + ky + c - 32768).toNat) rfl rfl (by omega) (by omega) hgo (by show [CTy.int .i64 _] = [CTy.int .i64 _]; congr 2; omega) ?_
      rw [hst]
      dsimp only [c_a, n_a]
      refine vn (p_add_i64 (by omega) (by omega)) rfl ?_
      dsimp only [c_a, n_a]
      exact vback rfl ⟨⟨(i + 1, 1, os.set i (x + ky + c - 32768).toNat), hnext _ 1 (by omega) (by omega) (by omega) (by omega)⟩, SubL.rfl, by show n - (i + 1) < n - i; omega⟩
    refine vn (p_sub_i64 (by omega) (by omega)) rfl ?_
    dsimp only [c_a, n_a]
    refine vn (p_sub_i64 (by omega) (by omega)) rfl ?_
    dsimp only [c_a, n_a]
    refine vidxm rfl rfl (by omega) (by rw [List.length_reverse]; omega) ?_
    refine vstm (d' := (x + ky + c).toNat) rfl rfl (by omega) (by omega) hgo (by show [CTy.int .i64 _] = [CTy.int .i64 _]; congr 2; omega) ?_
    rw [hst]
    dsimp only [c_a, n_a]
    refine vn (p_add_i64 (by omega) (by omega)) rfl ?_
    dsimp only [c_a, n_a]
    exact vback rfl ⟨⟨(i + 1, 0, os.set i (x + ky + c).toNat), hnext _ 0 (by omega) (by omega) (by omega) (by omega)⟩, SubL.rfl, by show n - (i + 1) < n - i; omega⟩
  have hie : i = n := by omega
  subst hie
  have hf := hI.fin (by omega) (by rw [List.length_reverse]; omega) (by rw [List.length_reverse]; omega) (r := r) (by rw [val_rev, val_rev]; exact hr) hrl
  refine vcall (d_Rstrip os.reverse hI.dg.rev (by rw [List.length_reverse]; omega)) rfl ?_
  dsimp only [c_a, n_a]
  refine vret ?_
  rw [← hf, bv, List.reverse_reverse]; rfl
end Go.Sy
namespace Go.Sy
open Go Go.Proofs Tryz Ord

theorem sign_bd (z : Int) : -1 ≤ z.sign ∧ z.sign ≤ 1 := by rcases sign_cases z with ⟨_, e⟩ | ⟨_, e⟩ | ⟨_, e⟩ <;> omega
theorem d_RZNeg (z : Int) : Does prog 183 [(zT z : STy)] (.ret [zT (-z)]) := by
  refine does_of_vc (args := [.v (some 2)]) (ins := [.v (zT z)]) (hints := (fun _ => none)) fo (by kernel_rfl) func183 ⟨rfl, trivial⟩ ?_
  rw [x_RZNeg]
  dsimp only [List.map, In.env, c_a, n_a]
  have := sign_bd z
  refine vn (p_neg_i64 (by omega) (by omega)) rfl ?_
  dsimp only [c_a, n_a]
  refine vret ?_
  show [STy.agg [.int .i64 (-z.sign), bT z.natAbs]] = [zT (-z)]
  rw [zT, zC, Int.sign_neg, Int.natAbs_neg]

theorem bd_add {a b : Nat} : (bd (a + b)).length ≤ max (bd a).length (bd b).length + 1 := by
  apply bd_len_le
  have h1 := bd_lt a
  have h2 := bd_lt b
  have h3 : 32768 ^ (bd a).length ≤ 32768 ^ (max (bd a).length (bd b).length) := Nat.pow_le_pow_right (by omega) (by omega)
  have h4 : 32768 ^ (bd b).length ≤ 32768 ^ (max (bd a).length (bd b).length) := Nat.pow_le_pow_right (by omega) (by omega)
  rw [Nat.pow_succ]; omega

theorem d_RZAdd (x y : Int) (hx : (bd x.natAbs).length < 137438953472) (hy : (bd y.natAbs).length < 137438953472) : Does prog 138 [(zT x : STy), (zT y : STy)] (.ret [zT (x + y)]) := by
  refine does_of_vc (args := [.v (some 2), .v (some 2)]) (ins := [.v (zT x), .v (zT y)]) (hints := (fun _ => none)) fo (by kernel_rfl) func138 ⟨rfl, rfl, trivial⟩ ?_
  rw [x_RZAdd]
  dsimp only [List.map, In.env, c_a, n_a]
  have hx0 := sign_cases x
  have hy0 := sign_cases y
  have hl : ∀ n, n ≤ x.natAbs + y.natAbs → (bd n).length < 274877906944 := fun n hn => by
    have h1 := bd_len_mono hn
    have h2 := bd_add (a := x.natAbs) (b := y.natAbs)
    omega
  refine vn q_eql rfl ?_
  dsimp only [c_a, n_a]
  refine vs _ rfl (fun h1 => ?_) (fun h1 => ?_)
  · rw [show x = 0 by omega, Int.zero_add]; exact vret rfl
  refine vn q_eql rfl ?_
  dsimp only [c_a, n_a]
  refine vs _ rfl (fun h4 => ?_) (fun h4 => ?_)
  · rw [show y = 0 by omega, Int.add_zero]; exact vret rfl
  refine vn q_eql rfl ?_
  dsimp only [c_a, n_a]
  refine vs _ rfl (fun h7 => ?_) (fun h7 => ?_)
  · refine vcall (d_Rboth x.natAbs y.natAbs (x.natAbs + y.natAbs) 1 (.inl rfl) (by omega) (by omega) (by omega)) rfl ?_
    dsimp only [c_a, n_a]
    refine vcall (d_Rwith x.sign (x + y) _ (bd_DB _) (by have := hl _ (Nat.le_refl _); omega) (by rw [bv_bd]; omega) (fun _ => by
      rcases hx0 with ⟨h, e⟩ | ⟨h, e⟩ | ⟨h, e⟩
      · rw [e]; exact Int.sign_eq_neg_one_of_neg (by omega)
      · omega
      · rw [e]; exact Int.sign_eq_one_of_pos (by omega))) rfl ?_
    dsimp only [c_a, n_a]
    exact vret rfl
  refine vcall (d_Rahead x.natAbs y.natAbs (by omega)) rfl ?_
  dsimp only [c_a, n_a]
  refine vn q_geq rfl ?_
  dsimp only [c_a, n_a]
  have hci : (0 ≤ cmpI (x.natAbs : Int) (y.natAbs : Int)) ↔ y.natAbs ≤ x.natAbs := by
    have := cmpI_neg (a := (x.natAbs : Int)) (b := (y.natAbs : Int)); omega
  refine vs _ rfl (fun h13 => ?_) (fun h13 => ?_)
  · refine vcall (d_Rboth x.natAbs y.natAbs (x.natAbs - y.natAbs) (-1) (.inr rfl) (by omega) (by omega) (by omega)) rfl ?_
    dsimp only [c_a, n_a]
    refine vcall (d_Rwith x.sign (x + y) _ (bd_DB _) (by have := hl (x.natAbs - y.natAbs) (by omega); omega) (by rw [bv_bd]; omega) (fun hne => by
      rw [bv_bd] at hne
      rcases hx0 with ⟨h, e⟩ | ⟨h, e⟩ | ⟨h, e⟩
      · rw [e]; exact Int.sign_eq_neg_one_of_neg (by omega)
      · omega
      · rw [e]; exact Int.sign_eq_one_of_pos (by omega))) rfl ?_
    dsimp only [c_a, n_a]
    exact vret rfl
  refine vcall (d_Rboth y.natAbs x.natAbs (y.natAbs - x.natAbs) (-1) (.inr rfl) (by omega) (by omega) (by omega)) rfl ?_
  dsimp only [c_a, n_a]
  refine vcall (d_Rwith y.sign (x + y) _ (bd_DB _) (by have := hl (y.natAbs - x.natAbs) (by omega); omega) (by rw [bv_bd]; omega) (fun hne => by
    rw [bv_bd] at hne
    rcases hy0 with ⟨h, e⟩ | ⟨h, e⟩ | ⟨h, e⟩
    · rw [e]; exact Int.sign_eq_neg_one_of_neg (by omega)
    · omega
    · rw [e]; exact Int.sign_eq_one_of_pos (by omega))) rfl ?_
  dsimp only [c_a, n_a]
  exact vret rfl

theorem idx_rev {n la i : Nat} (h : la = (bd n).length) (hi : i < la) : ∃ d, (bd n)[la - 1 - i]? = some d ∧ (bd n).reverse[i]? = some d ∧ d < 32768 := by
  subst h
  have hd : (bd n).reverse[i]? = some ((bd n).reverse[i]'(by rw [List.length_reverse]; exact hi)) := List.getElem?_eq_getElem _
  exact ⟨_, by rw [rev_get hi]; exact hd, hd, (bd_DB n).rev.get hd⟩

set_option maxHeartbeats 2000000 in
theorem d_RZMul (x y : Int) (hs : (bd x.natAbs).length + (bd y.natAbs).length < 274877906944) : Does prog 135 [(zT x : STy), (zT y : STy)] (.ret [zT (x * y)]) := by
  refine does_of_vc (args := [.v (some 2), .v (some 2)]) (ins := [.v (zT x), .v (zT y)]) (hints := (fun _ => none)) fo (by kernel_rfl) func135 ⟨rfl, rfl, trivial⟩ ?_
  rw [x_RZMul]
  dsimp only [List.map, In.env, c_a, n_a]
  obtain ⟨la, hla⟩ : ∃ n, (bd x.natAbs).length = n := ⟨_, rfl⟩
  obtain ⟨lb, hlb⟩ : ∃ n, (bd y.natAbs).length = n := ⟨_, rfl⟩
  have hra : (bd x.natAbs).reverse.length = la := by rw [List.length_reverse, hla]
  have hrb : (bd y.natAbs).reverse.length = lb := by rw [List.length_reverse, hlb]
  have hsx := sign_bd x
  have hsy := sign_bd y
  refine vn (p_len el45 (List.length_map _)) rfl ?_
  dsimp only [c_a, n_a]
  refine vn (p_len el45 (List.length_map _)) rfl ?_
  dsimp only [c_a, n_a]
  refine vn (p_add_i64 (by omega) (by omega)) rfl ?_
  dsimp only [c_a, n_a]
  rw [hla, hlb]
  refine vmakem (n := la + lb) (f := fun d : Nat => [CTy.int .i64 (d : Int)]) 0 rfl rfl (by omega) rfl (by omega) (by simp only [maxLen]; omega) ?_
  dsimp only [c_a, n_a]
  refine vn (p_len el45 (List.length_map _)) rfl ?_
  dsimp only [c_a, n_a]
  refine vn (p_sub_i64 (by omega) (by omega)) rfl ?_
  dsimp only [c_a, n_a]
  rw [hla]
  refine vloop {g : Nat × List Nat // BOut 32768 (bd x.natAbs).reverse (bd y.natAbs).reverse g.1 g.2} (fun g => [.one (.int .i64 ((la : Int) - 1 - g.1.1)), .rows (rB g.1.2.reverse)]) (fun g => la - g.1.1) ⟨(0, List.replicate (la + lb) 0), by have := BOut.init (B := 32768) (by omega) (bd x.natAbs).reverse (bd y.natAbs).reverse; rw [hra, hrb] at this; exact this⟩ ⟨STy.Sub.of_eq (congrArg (fun q => STy.one (CTy.int .i64 q)) (by show (la : Int) - 1 = (la : Int) - 1 - ((0 : Nat) : Int); omega)), STy.Sub.of_eq (by rw [List.reverse_replicate]; rfl), trivial⟩ (fun _ => rfl) ?_
  rintro ⟨⟨i, os⟩, hO⟩
  dsimp only [c_a, n_a] at hO ⊢
  have hil := hO.le
  rw [hra] at hil
  refine vn q_geq rfl ?_
  dsimp only [c_a, n_a]
  refine vs _ rfl (fun h8 => ?_) (fun h8 => ?_)
  · refine vn (p_len el45 (List.length_map _)) rfl ?_
    obtain ⟨d, hd1, hd2, hd3⟩ := idx_rev (n := x.natAbs) (la := la) (i := i) hla.symm (by omega)
    dsimp only [c_a, n_a]
    refine vn (p_sub_i64 (by omega) (by omega)) rfl ?_
    dsimp only [c_a, n_a]
    rw [hlb]
    refine vloop {g : Nat × Nat × List Nat // BIn 32768 (bd x.natAbs).reverse (bd y.natAbs).reverse i d (val 32768 ((bd x.natAbs).reverse.take i) * val 32768 (bd y.natAbs).reverse) g.1 g.2.1 g.2.2} (fun g => [.one (.int .i64 g.1.2.1), .one (.int .i64 ((lb : Int) - 1 - g.1.1)), .rows (rB g.1.2.2.reverse)]) (fun g => lb - g.1.1) ⟨(0, 0, os), hO.inn (by omega)⟩ ⟨STy.Sub.same, STy.Sub.of_eq (congrArg (fun q => STy.one (CTy.int .i64 q)) (by show (lb : Int) - 1 = (lb : Int) - 1 - ((0 : Nat) : Int); omega)), STy.Sub.same, trivial⟩ (fun _ => rfl) ?_
    rintro ⟨⟨k, c, os2⟩, hI⟩
    dsimp only [c_a, n_a] at hI ⊢
    have hkl := hI.le
    have hol := hI.len
    have hc1 := hI.c1
    rw [hrb] at hkl
    rw [hra, hrb] at hol
    refine vn q_geq rfl ?_
    dsimp only [c_a, n_a]
    refine vs _ rfl (fun h13 => ?_) (fun h13 => ?_)
    · refine vn (p_add_i64 (by omega) (by omega)) rfl ?_
      dsimp only [c_a, n_a]
      refine vn (p_add_i64 (by omega) (by omega)) rfl ?_
      dsimp only [c_a, n_a]
      obtain ⟨e, he1, he2, he3⟩ := idx_rev (n := y.natAbs) (la := lb) (i := k) hlb.symm (by omega)
      obtain ⟨o, ho2⟩ : ∃ o, os2[i + k]? = some o := ⟨_, List.getElem?_eq_getElem (by omega)⟩
      have ho1 : os2.reverse[la + lb - 1 - (i + k)]? = some o := by
        have := rev_get (ds := os2.reverse) (i := i + k) (by rw [List.length_reverse]; omega)
        rw [List.reverse_reverse, List.length_reverse, hol] at this
        rw [this]; exact ho2
      have hoB := hI.dg.get ho2
      have hde : d * e ≤ 32767 * 32767 := Nat.mul_le_mul (by omega) (by omega)
      have hst : ∀ z, os2.reverse.set (la + lb - 1 - (i + k)) z = (os2.set (i + k) z).reverse := fun z => by rw [← hol]; exact set_rev (by omega)
      obtain ⟨w, hw⟩ : ∃ w, c + (d * e + o) = w := ⟨_, rfl⟩
      have hN := hI.next (z := w % 32768) (c' := w / 32768) (by rw [hrb]; omega) he2 ho2 (by omega) (by omega) (by omega)
      refine vidxm rfl rfl (by omega) (by rw [List.length_reverse]; omega) ?_
      refine vldm1 rfl rfl (by omega) (by omega) ho1 rfl ?_
      dsimp only [c_a, n_a]
      refine vn (p_idxm el45 (by omega) (by omega) hd1) rfl ?_
      dsimp only [c_a, n_a]
      refine vn (p_load1 ag3) rfl ?_
      dsimp only [c_a, n_a]
      refine vn (p_idxm el45 (by omega) (by omega) he1) rfl ?_
      dsimp only [c_a, n_a]
      refine vn (p_load1 ag3) rfl ?_
      dsimp only [c_a, n_a]
      refine vn (p_mul (c := ((d * e : Nat) : Int)) (by rw [← Int.natCast_mul]; exact wr_i64 (by omega) (by omega))) rfl ?_
      dsimp only [c_a, n_a]
      refine vn (p_add_i64 (by omega) (by omega)) rfl ?_
      dsimp only [c_a, n_a]
      refine vn (p_add (c := (w : Int)) (by rw [show (o : Int) + ((d * e : Nat) : Int) + (c : Int) = (w : Int) by omega]; exact wr_i64 (by omega) (by omega))) rfl ?_
      dsimp only [c_a, n_a]
      refine vn (p_add_i64 (by omega) (by omega)) rfl ?_
      dsimp only [c_a, n_a]
      refine vn (p_add_i64 (by omega) (by omega)) rfl ?_
      dsimp only [c_a, n_a]
      refine vn (p_rem_n (by omega) (by omega)) rfl ?_
      dsimp only [c_a, n_a]
      refine vidxm rfl rfl (by omega) (by rw [List.length_reverse]; omega) ?_
      refine vstm (d' := w % 32768) rfl rfl (by omega) (by omega) ho1 rfl ?_
      rw [hst]
      dsimp only [c_a, n_a]
      refine vn (p_quo_i64 (by omega) (by omega) (by omega)) rfl ?_
      dsimp only [c_a, n_a]
      refine vn (p_sub_i64 (by omega) (by omega)) rfl ?_
      dsimp only [c_a, n_a]
      exact vback rfl ⟨⟨(k + 1, w / 32768, os2.set (i + k) (w % 32768)), hN⟩, ⟨STy.Sub.same, STy.Sub.of_eq (congrArg (fun q => STy.one (CTy.int .i64 q)) (by show (lb : Int) - 1 - (k : Int) - 1 = (lb : Int) - 1 - ((k + 1 : Nat) : Int); omega)), STy.Sub.same, trivial⟩, by show lb - (k + 1) < lb - k; omega⟩
    have hke : k = lb := by omega
    subst hke
    obtain ⟨o, ho2⟩ : ∃ o, os2[i + k]? = some o := ⟨_, List.getElem?_eq_getElem (by omega)⟩
    have ho1 : os2.reverse[la + k - 1 - (i + k)]? = some o := by
      have := rev_get (ds := os2.reverse) (i := i + k) (by rw [List.length_reverse]; omega)
      rw [List.reverse_reverse, List.length_reverse, hol] at this
      rw [this]; exact ho2
    have hst : ∀ z, os2.reverse.set (la + k - 1 - (i + k)) z = (os2.set (i + k) z).reverse := fun z => by rw [← hol]; exact set_rev (by omega)
    have hN : BOut 32768 (bd x.natAbs).reverse (bd y.natAbs).reverse (i + 1) (os2.set (i + k) c) := by
      have := hI
      rw [← hrb] at this ⊢
      exact this.out hd2
    refine vidxm rfl rfl (by omega) (by rw [List.length_reverse]; omega) ?_
    refine vstm (d' := c) rfl rfl (by omega) (by omega) ho1 rfl ?_
    rw [hst]
    dsimp only [c_a, n_a]
    refine vn (p_sub_i64 (by omega) (by omega)) rfl ?_
    dsimp only [c_a, n_a]
    exact vback rfl ⟨⟨(i + 1, os2.set (i + k) c), hN⟩, ⟨STy.Sub.of_eq (congrArg (fun q => STy.one (CTy.int .i64 q)) (by show (la : Int) - 1 - (i : Int) - 1 = (la : Int) - 1 - ((i + 1 : Nat) : Int); omega)), STy.Sub.same, trivial⟩, by show la - (i + 1) < la - i; omega⟩
  have hie : i = la := by omega
  subst hie
  have hf : val 32768 os = x.natAbs * y.natAbs := by
    have := hO
    rw [← hra] at this
    have := this.fin
    rw [val_rev, val_rev] at this; exact this
  have hol := hO.len
  rw [hra, hrb] at hol
  have hmul : x.sign * y.sign = (x * y).sign := (Int.sign_mul x y).symm
  have hsb := sign_bd (x * y)
  refine vn (p_mul (c := (x * y).sign) (by rw [hmul]; exact wr_i64 (by omega) (by omega))) rfl ?_
  dsimp only [c_a, n_a]
  refine vcall (d_Rwith (x * y).sign (x * y) os.reverse hO.dg.rev (by rw [List.length_reverse]; omega) (by rw [bv, List.reverse_reverse, hf, Int.natAbs_mul]) (fun _ => rfl)) rfl ?_
  dsimp only [c_a, n_a]
  exact vret rfl
end Go.Sy
