/- Taking away: less, subtract, giveBack. Division.
-/
import Derived.Test.YtdmcadckdnnglaaGreatDoorNa
import Derived.Test.YtdmcadckdnnglaaGreatDoorPa
set_option linter.unusedVariables false
set_option linter.unusedSimpArgs false
namespace Go.Sy
open Go Go.Proofs Tryz Ord

def t14_28 : Tr := .back 0 [(.w (.one (.c (.k (.int .u32 (1)))))), (.w (W 24 0)), (.row 23)]
def t14_27 : Tr := .need (.prim [(W 8 0), (WK (1))] none) (.binOp .add 3 (.tmp 19) (.const (I3 (1))) 3) 3 false t14_28
def t14_26 : Tr := .need (.strow 20 1 (.u 8 0) 0 [(.u 22 0)]) (.store 255 (.tmp 57) (.tmp 56)) 0 false t14_27
def t14_25 : Tr := .need (.idx 20 (.u 8 0)) (.indexAddr 33 (.tmp 51) (.tmp 52)) 0 false t14_26
def t14_24 : Tr := .need (.prim [(W 21 0), (W 15 0)] none) (.binOp .sub 255 (.tmp 54) (.tmp 55) 255) 255 false t14_25
def t14_23 : Tr := .need (.ldrow 20 (.u 8 0) 0 1 false) (.load 255 (.tmp 53)) 255 false t14_24
def t14_22 : Tr := .need (.idx 20 (.u 8 0)) (.indexAddr 33 (.tmp 51) (.tmp 52)) 0 false t14_23
def t14_21 : Tr := .need (.strow 9 1 (.u 8 0) 0 [(.u 19 0)]) (.store 255 (.tmp 50) (.tmp 49)) 0 false t14_22
def t14_20 : Tr := .need (.idx 9 (.u 8 0)) (.indexAddr 33 (.tmp 43) (.tmp 44)) 0 false t14_21
def t14_19 : Tr := .need (.prim [(W 18 0), (.one (.c (.k (.int .u32 (1000000000)))))] none) (.binOp .add 255 (.tmp 48) (.const (.int .u32 (1000000000))) 255) 255 false t14_20
def t14_18 : Tr := .need (.ldrow 9 (.u 8 0) 0 1 false) (.load 255 (.tmp 47)) 255 false t14_19
def t14_17 : Tr := .need (.idx 9 (.u 8 0)) (.indexAddr 33 (.tmp 45) (.tmp 46)) 0 false t14_18
def t14_35 : Tr := .back 0 [(.w (.one (.c (.k (.int .u32 (0)))))), (.w (W 21 0)), (.row 20)]
def t14_34 : Tr := .need (.prim [(W 8 0), (WK (1))] none) (.binOp .add 3 (.tmp 19) (.const (I3 (1))) 3) 3 false t14_35
def t14_33 : Tr := .need (.strow 9 1 (.u 8 0) 0 [(.u 19 0)]) (.store 255 (.tmp 57) (.tmp 56)) 0 false t14_34
def t14_32 : Tr := .need (.idx 9 (.u 8 0)) (.indexAddr 33 (.tmp 51) (.tmp 52)) 0 false t14_33
def t14_31 : Tr := .need (.prim [(W 18 0), (W 15 0)] none) (.binOp .sub 255 (.tmp 54) (.tmp 55) 255) 255 false t14_32
def t14_30 : Tr := .need (.ldrow 9 (.u 8 0) 0 1 false) (.load 255 (.tmp 53)) 255 false t14_31
def t14_29 : Tr := .need (.idx 9 (.u 8 0)) (.indexAddr 33 (.tmp 51) (.tmp 52)) 0 false t14_30
def t14_16 : Tr := .split (.u 17 0) t14_17 t14_29
def t14_15 : Tr := .need (.prim [(W 16 0), (W 15 0)] none) (.binOp .lss 255 (.tmp 40) (.tmp 41) 255) 4 false t14_16
def t14_14 : Tr := .need (.ldrow 9 (.u 8 0) 0 1 false) (.load 255 (.tmp 39)) 255 false t14_15
def t14_13 : Tr := .need (.idx 9 (.u 8 0)) (.indexAddr 33 (.tmp 37) (.tmp 38)) 0 false t14_14
def t14_12 : Tr := .need (.prim [(W 7 0), (W 14 0)] none) (.binOp .add 255 (.tmp 28) (.tmp 33) 255) 255 false t14_13
def t14_11 : Tr := .need (.prim [(W 13 0)] none) (.load 255 (.tmp 32)) 255 false t14_12
def t14_10 : Tr := .need (.prim [(W 1 0), (W 8 0)] none) (.indexAddr 33 (.tmp 30) (.tmp 31)) 0 false t14_11
def t14_39 : Tr := .ret [(.agg [(U 14 0)])]
def t14_38 : Tr := .need (.call 197 [(.one (.c (.sr 1 9)))] [(some 1)]) (.call ⟨.value (.func 197), #[(.tmp 59)], #[33]⟩) 35 true t14_39
def t14_55 : Tr := .back 0 [(.w (.one (.c (.k (.int .u32 (1)))))), (.w (W 22 0)), (.row 21)]
def t14_54 : Tr := .need (.prim [(W 8 0), (WK (1))] none) (.binOp .add 3 (.tmp 19) (.const (I3 (1))) 3) 3 false t14_55
def t14_53 : Tr := .need (.strow 18 1 (.u 8 0) 0 [(.u 20 0)]) (.store 255 (.tmp 57) (.tmp 56)) 0 false t14_54
def t14_52 : Tr := .need (.idx 18 (.u 8 0)) (.indexAddr 33 (.tmp 51) (.tmp 52)) 0 false t14_53
def t14_51 : Tr := .need (.prim [(W 19 0), (W 7 0)] none) (.binOp .sub 255 (.tmp 54) (.tmp 55) 255) 255 false t14_52
def t14_50 : Tr := .need (.ldrow 18 (.u 8 0) 0 1 false) (.load 255 (.tmp 53)) 255 false t14_51
def t14_49 : Tr := .need (.idx 18 (.u 8 0)) (.indexAddr 33 (.tmp 51) (.tmp 52)) 0 false t14_50
def t14_48 : Tr := .need (.strow 9 1 (.u 8 0) 0 [(.u 17 0)]) (.store 255 (.tmp 50) (.tmp 49)) 0 false t14_49
def t14_47 : Tr := .need (.idx 9 (.u 8 0)) (.indexAddr 33 (.tmp 43) (.tmp 44)) 0 false t14_48
def t14_46 : Tr := .need (.prim [(W 16 0), (.one (.c (.k (.int .u32 (1000000000)))))] none) (.binOp .add 255 (.tmp 48) (.const (.int .u32 (1000000000))) 255) 255 false t14_47
def t14_45 : Tr := .need (.ldrow 9 (.u 8 0) 0 1 false) (.load 255 (.tmp 47)) 255 false t14_46
def t14_44 : Tr := .need (.idx 9 (.u 8 0)) (.indexAddr 33 (.tmp 45) (.tmp 46)) 0 false t14_45
def t14_62 : Tr := .back 0 [(.w (.one (.c (.k (.int .u32 (0)))))), (.w (W 19 0)), (.row 18)]
def t14_61 : Tr := .need (.prim [(W 8 0), (WK (1))] none) (.binOp .add 3 (.tmp 19) (.const (I3 (1))) 3) 3 false t14_62
def t14_60 : Tr := .need (.strow 9 1 (.u 8 0) 0 [(.u 17 0)]) (.store 255 (.tmp 57) (.tmp 56)) 0 false t14_61
def t14_59 : Tr := .need (.idx 9 (.u 8 0)) (.indexAddr 33 (.tmp 51) (.tmp 52)) 0 false t14_60
def t14_58 : Tr := .need (.prim [(W 16 0), (W 7 0)] none) (.binOp .sub 255 (.tmp 54) (.tmp 55) 255) 255 false t14_59
def t14_57 : Tr := .need (.ldrow 9 (.u 8 0) 0 1 false) (.load 255 (.tmp 53)) 255 false t14_58
def t14_56 : Tr := .need (.idx 9 (.u 8 0)) (.indexAddr 33 (.tmp 51) (.tmp 52)) 0 false t14_57
def t14_43 : Tr := .split (.u 15 0) t14_44 t14_56
def t14_42 : Tr := .need (.prim [(W 14 0), (W 7 0)] none) (.binOp .lss 255 (.tmp 40) (.tmp 41) 255) 4 false t14_43
def t14_41 : Tr := .need (.ldrow 9 (.u 8 0) 0 1 false) (.load 255 (.tmp 39)) 255 false t14_42
def t14_40 : Tr := .need (.idx 9 (.u 8 0)) (.indexAddr 33 (.tmp 37) (.tmp 38)) 0 false t14_41
def t14_37 : Tr := .split (.u 13 0) t14_38 t14_40
def t14_36 : Tr := .need (.prim [(W 7 0), (.one (.c (.k (.int .u32 (0)))))] none) (.binOp .eql 255 (.tmp 35) (.const (.int .u32 (0))) 255) 4 false t14_37
def t14_9 : Tr := .split (.u 12 0) t14_10 t14_36
def t14_8 : Tr := .need (.prim [(W 8 0), (W 11 0)] none) (.binOp .lss 3 (.tmp 23) (.tmp 26) 3) 4 false t14_9
def t14_7 : Tr := .need (.prim [(W 1 0)] none) (.call ⟨.builtin .len, #[(.tmp 25)], #[33]⟩) 3 false t14_8
def t14_64 : Tr := .ret [(.agg [(U 11 0)])]
def t14_63 : Tr := .need (.call 197 [(.one (.c (.sr 1 9)))] [(some 1)]) (.call ⟨.value (.func 197), #[(.tmp 59)], #[33]⟩) 35 true t14_64
def t14_6 : Tr := .split (.u 10 0) t14_7 t14_63
def t14_5 : Tr := .need (.prim [(W 8 0), (W 6 0)] none) (.binOp .lss 3 (.tmp 19) (.tmp 18) 3) 0 false t14_6
def t14_4 : Tr := .loop 0 [(.w (.one (.c (.k (.int .u32 (0)))))), (.w (WK (0))), (.row 5)] t14_5
def t14_3 : Tr := .need (.lenrow 5) (.call ⟨.builtin .len, #[(.tmp 17)], #[33]⟩) 3 false t14_4
def t14_2 : Tr := .need (.rop 3 255 1 none [] [(W 0 0)] [none]) (.call ⟨.builtin .copy, #[(.tmp 13), (.tmp 15)], #[33, 33]⟩) 3 false t14_3
def t14_1 : Tr := .need (.make [(.int .u32 (0))] 4 (.u 2 0) (.u 2 0)) (.makeSlice 33 (.tmp 11) (.tmp 11)) 33 false t14_2
def t14_0 : Tr := .need (.prim [(W 0 0)] none) (.call ⟨.builtin .len, #[(.tmp 10)], #[33]⟩) 3 false t14_1
theorem x_less : execF prog f194 (fun _ => none) [.v (some 1), .v (some 1)] = t14_0 := by kernel_rfl
def t15_27 : Tr := .back 0 [(.w (W 22 0)), (.w (WK (1))), (.w (W 27 0)), (.row 26)]
def t15_26 : Tr := .need (.prim [(W 6 0), (WK (1))] none) (.binOp .add 3 (.tmp 13) (.const (I3 (1))) 3) 3 false t15_27
def t15_25 : Tr := .need (.strow 7 1 (.u 6 0) 0 [(.u 25 0)]) (.store 255 (.tmp 50) (.tmp 49)) 0 false t15_26
def t15_24 : Tr := .need (.idx 7 (.u 6 0)) (.indexAddr 33 (.tmp 46) (.tmp 47)) 0 false t15_25
def t15_23 : Tr := .need (.prim [(W 24 0)] none) (.convert 2 255 (.tmp 48)) 255 false t15_24
def t15_22 : Tr := .need (.prim [(W 21 0), (WK (1000000000))] none) (.binOp .add 2 (.tmp 44) (.const (I3 (1000000000))) 2) 2 false t15_23
def t15_32 : Tr := .back 0 [(.w (W 22 0)), (.w (WK (0))), (.w (W 26 0)), (.row 25)]
def t15_31 : Tr := .need (.prim [(W 6 0), (WK (1))] none) (.binOp .add 3 (.tmp 13) (.const (I3 (1))) 3) 3 false t15_32
def t15_30 : Tr := .need (.strow 7 1 (.u 6 0) 0 [(.u 24 0)]) (.store 255 (.tmp 50) (.tmp 49)) 0 false t15_31
def t15_29 : Tr := .need (.idx 7 (.u 6 0)) (.indexAddr 33 (.tmp 46) (.tmp 47)) 0 false t15_30
def t15_28 : Tr := .need (.prim [(W 21 0)] none) (.convert 2 255 (.tmp 48)) 255 false t15_29
def t15_21 : Tr := .split (.u 23 0) t15_22 t15_28
def t15_20 : Tr := .need (.prim [(W 21 0), (WK (0))] none) (.binOp .lss 2 (.tmp 42) (.const (I3 (0))) 2) 4 false t15_21
def t15_19 : Tr := .need (.prim [(W 15 0), (.one (.c (.k (.int .u64 (1000000000)))))] none) (.binOp .quo 254 (.tmp 40) (.const (.int .u64 (1000000000))) 254) 254 false t15_20
def t15_18 : Tr := .need (.prim [(W 20 0), (W 5 0)] none) (.binOp .sub 2 (.tmp 37) (.tmp 38) 2) 2 false t15_19
def t15_17 : Tr := .need (.prim [(W 17 0), (W 19 0)] none) (.binOp .sub 2 (.tmp 33) (.tmp 36) 2) 2 false t15_18
def t15_16 : Tr := .need (.prim [(W 18 0)] none) (.convert 254 2 (.tmp 35)) 2 false t15_17
def t15_15 : Tr := .need (.prim [(W 15 0), (.one (.c (.k (.int .u64 (1000000000)))))] none) (.binOp .rem 254 (.tmp 34) (.const (.int .u64 (1000000000))) 254) 254 false t15_16
def t15_14 : Tr := .need (.prim [(W 16 0)] none) (.convert 255 2 (.tmp 32)) 2 false t15_15
def t15_13 : Tr := .need (.ldrow 7 (.u 6 0) 0 1 false) (.load 255 (.tmp 31)) 255 false t15_14
def t15_12 : Tr := .need (.idx 7 (.u 6 0)) (.indexAddr 33 (.tmp 29) (.tmp 30)) 0 false t15_13
def t15_11 : Tr := .need (.prim [(W 4 0), (W 14 0)] none) (.binOp .add 254 (.tmp 20) (.tmp 27) 254) 254 false t15_12
def t15_10 : Tr := .need (.prim [(W 2 0), (W 13 0)] none) (.binOp .mul 254 (.tmp 21) (.tmp 26) 254) 254 false t15_11
def t15_9 : Tr := .need (.prim [(W 12 0)] none) (.convert 255 254 (.tmp 25)) 254 false t15_10
def t15_8 : Tr := .need (.prim [(W 11 0)] none) (.load 255 (.tmp 24)) 255 false t15_9
def t15_7 : Tr := .need (.prim [(W 1 0), (W 6 0)] none) (.indexAddr 33 (.tmp 22) (.tmp 23)) 0 false t15_8
def t15_48 : Tr := .back 0 [(.w (W 17 0)), (.w (WK (1))), (.w (W 22 0)), (.row 21)]
def t15_47 : Tr := .need (.prim [(W 6 0), (WK (1))] none) (.binOp .add 3 (.tmp 13) (.const (I3 (1))) 3) 3 false t15_48
def t15_46 : Tr := .need (.strow 7 1 (.u 6 0) 0 [(.u 20 0)]) (.store 255 (.tmp 50) (.tmp 49)) 0 false t15_47
def t15_45 : Tr := .need (.idx 7 (.u 6 0)) (.indexAddr 33 (.tmp 46) (.tmp 47)) 0 false t15_46
def t15_44 : Tr := .need (.prim [(W 19 0)] none) (.convert 2 255 (.tmp 48)) 255 false t15_45
def t15_43 : Tr := .need (.prim [(W 16 0), (WK (1000000000))] none) (.binOp .add 2 (.tmp 44) (.const (I3 (1000000000))) 2) 2 false t15_44
def t15_53 : Tr := .back 0 [(.w (W 17 0)), (.w (WK (0))), (.w (W 21 0)), (.row 20)]
def t15_52 : Tr := .need (.prim [(W 6 0), (WK (1))] none) (.binOp .add 3 (.tmp 13) (.const (I3 (1))) 3) 3 false t15_53
def t15_51 : Tr := .need (.strow 7 1 (.u 6 0) 0 [(.u 19 0)]) (.store 255 (.tmp 50) (.tmp 49)) 0 false t15_52
def t15_50 : Tr := .need (.idx 7 (.u 6 0)) (.indexAddr 33 (.tmp 46) (.tmp 47)) 0 false t15_51
def t15_49 : Tr := .need (.prim [(W 16 0)] none) (.convert 2 255 (.tmp 48)) 255 false t15_50
def t15_42 : Tr := .split (.u 18 0) t15_43 t15_49
def t15_41 : Tr := .need (.prim [(W 16 0), (WK (0))] none) (.binOp .lss 2 (.tmp 42) (.const (I3 (0))) 2) 4 false t15_42
def t15_40 : Tr := .need (.prim [(W 4 0), (.one (.c (.k (.int .u64 (1000000000)))))] none) (.binOp .quo 254 (.tmp 40) (.const (.int .u64 (1000000000))) 254) 254 false t15_41
def t15_39 : Tr := .need (.prim [(W 15 0), (W 5 0)] none) (.binOp .sub 2 (.tmp 37) (.tmp 38) 2) 2 false t15_40
def t15_38 : Tr := .need (.prim [(W 12 0), (W 14 0)] none) (.binOp .sub 2 (.tmp 33) (.tmp 36) 2) 2 false t15_39
def t15_37 : Tr := .need (.prim [(W 13 0)] none) (.convert 254 2 (.tmp 35)) 2 false t15_38
def t15_36 : Tr := .need (.prim [(W 4 0), (.one (.c (.k (.int .u64 (1000000000)))))] none) (.binOp .rem 254 (.tmp 34) (.const (.int .u64 (1000000000))) 254) 254 false t15_37
def t15_35 : Tr := .need (.prim [(W 11 0)] none) (.convert 255 2 (.tmp 32)) 2 false t15_36
def t15_34 : Tr := .need (.ldrow 7 (.u 6 0) 0 1 false) (.load 255 (.tmp 31)) 255 false t15_35
def t15_33 : Tr := .need (.idx 7 (.u 6 0)) (.indexAddr 33 (.tmp 29) (.tmp 30)) 0 false t15_34
def t15_6 : Tr := .split (.u 10 0) t15_7 t15_33
def t15_5 : Tr := .need (.prim [(W 6 0), (W 9 0)] none) (.binOp .lss 3 (.tmp 16) (.tmp 18) 3) 4 false t15_6
def t15_4 : Tr := .need (.prim [(W 1 0)] none) (.call ⟨.builtin .len, #[(.tmp 17)], #[33]⟩) 3 false t15_5
def t15_55 : Tr := .retr [(W 9 0)] 7
def t15_54 : Tr := .need (.prim [(W 5 0), (WK (0))] none) (.binOp .neq 2 (.tmp 52) (.const (I3 (0))) 2) 4 false t15_55
def t15_3 : Tr := .split (.u 8 0) t15_4 t15_54
def t15_2 : Tr := .need (.prim [(W 6 0), (W 3 0)] none) (.binOp .lss 3 (.tmp 13) (.tmp 12) 3) 0 false t15_3
def t15_1 : Tr := .loop 0 [(.w (.one (.c (.k (.int .u64 (0)))))), (.w (WK (0))), (.w (WK (0))), (.row 0)] t15_2
def t15_0 : Tr := .need (.lenrow 0) (.call ⟨.builtin .len, #[(.tmp 11)], #[33]⟩) 3 false t15_1
theorem x_subtract : execR prog f251 (fun _ => none) [.lent 255 1, .v none, .v none] = t15_0 := by kernel_rfl
def t16_19 : Tr := .back 0 [(.w (.one (.c (.k (.int .u32 (1)))))), (.w (W 17 0)), (.row 16)]
def t16_18 : Tr := .need (.prim [(W 4 0), (WK (1))] none) (.binOp .add 3 (.tmp 10) (.const (I3 (1))) 3) 3 false t16_19
def t16_17 : Tr := .need (.strow 5 1 (.u 4 0) 0 [(.u 15 0)]) (.store 255 (.tmp 36) (.tmp 35)) 0 false t16_18
def t16_16 : Tr := .need (.idx 5 (.u 4 0)) (.indexAddr 33 (.tmp 33) (.tmp 34)) 0 false t16_17
def t16_15 : Tr := .need (.prim [(W 13 0), (.one (.c (.k (.int .u32 (1000000000)))))] none) (.binOp .sub 255 (.tmp 31) (.const (.int .u32 (1000000000))) 255) 255 false t16_16
def t16_23 : Tr := .back 0 [(.w (.one (.c (.k (.int .u32 (0)))))), (.w (W 16 0)), (.row 15)]
def t16_22 : Tr := .need (.prim [(W 4 0), (WK (1))] none) (.binOp .add 3 (.tmp 10) (.const (I3 (1))) 3) 3 false t16_23
def t16_21 : Tr := .need (.strow 5 1 (.u 4 0) 0 [(.u 13 0)]) (.store 255 (.tmp 36) (.tmp 35)) 0 false t16_22
def t16_20 : Tr := .need (.idx 5 (.u 4 0)) (.indexAddr 33 (.tmp 33) (.tmp 34)) 0 false t16_21
def t16_14 : Tr := .split (.u 14 0) t16_15 t16_20
def t16_13 : Tr := .need (.prim [(W 13 0), (.one (.c (.k (.int .u32 (1000000000)))))] none) (.binOp .geq 255 (.tmp 29) (.const (.int .u32 (1000000000))) 255) 4 false t16_14
def t16_12 : Tr := .need (.prim [(W 8 0), (W 12 0)] none) (.binOp .add 255 (.tmp 23) (.tmp 27) 255) 255 false t16_13
def t16_11 : Tr := .need (.prim [(W 11 0)] none) (.load 255 (.tmp 26)) 255 false t16_12
def t16_10 : Tr := .need (.prim [(W 1 0), (W 4 0)] none) (.indexAddr 33 (.tmp 24) (.tmp 25)) 0 false t16_11
def t16_30 : Tr := .back 0 [(.w (.one (.c (.k (.int .u32 (1)))))), (.w (W 14 0)), (.row 13)]
def t16_29 : Tr := .need (.prim [(W 4 0), (WK (1))] none) (.binOp .add 3 (.tmp 10) (.const (I3 (1))) 3) 3 false t16_30
def t16_28 : Tr := .need (.strow 5 1 (.u 4 0) 0 [(.u 12 0)]) (.store 255 (.tmp 36) (.tmp 35)) 0 false t16_29
def t16_27 : Tr := .need (.idx 5 (.u 4 0)) (.indexAddr 33 (.tmp 33) (.tmp 34)) 0 false t16_28
def t16_26 : Tr := .need (.prim [(W 8 0), (.one (.c (.k (.int .u32 (1000000000)))))] none) (.binOp .sub 255 (.tmp 31) (.const (.int .u32 (1000000000))) 255) 255 false t16_27
def t16_34 : Tr := .back 0 [(.w (.one (.c (.k (.int .u32 (0)))))), (.w (W 13 0)), (.row 12)]
def t16_33 : Tr := .need (.prim [(W 4 0), (WK (1))] none) (.binOp .add 3 (.tmp 10) (.const (I3 (1))) 3) 3 false t16_34
def t16_32 : Tr := .need (.strow 5 1 (.u 4 0) 0 [(.u 8 0)]) (.store 255 (.tmp 36) (.tmp 35)) 0 false t16_33
def t16_31 : Tr := .need (.idx 5 (.u 4 0)) (.indexAddr 33 (.tmp 33) (.tmp 34)) 0 false t16_32
def t16_25 : Tr := .split (.u 11 0) t16_26 t16_31
def t16_24 : Tr := .need (.prim [(W 8 0), (.one (.c (.k (.int .u32 (1000000000)))))] none) (.binOp .geq 255 (.tmp 29) (.const (.int .u32 (1000000000))) 255) 4 false t16_25
def t16_9 : Tr := .split (.u 10 0) t16_10 t16_24
def t16_8 : Tr := .need (.prim [(W 4 0), (W 9 0)] none) (.binOp .lss 3 (.tmp 19) (.tmp 21) 3) 4 false t16_9
def t16_7 : Tr := .need (.prim [(W 1 0)] none) (.call ⟨.builtin .len, #[(.tmp 20)], #[33]⟩) 3 false t16_8
def t16_6 : Tr := .need (.prim [(W 7 0), (W 3 0)] none) (.binOp .add 255 (.tmp 16) (.tmp 17) 255) 255 false t16_7
def t16_5 : Tr := .need (.ldrow 5 (.u 4 0) 0 1 false) (.load 255 (.tmp 15)) 255 false t16_6
def t16_4 : Tr := .need (.idx 5 (.u 4 0)) (.indexAddr 33 (.tmp 13) (.tmp 14)) 0 false t16_5
def t16_36 : Tr := .retr [(W 7 0)] 5
def t16_35 : Tr := .need (.prim [(W 3 0), (.one (.c (.k (.int .u32 (0)))))] none) (.binOp .neq 255 (.tmp 38) (.const (.int .u32 (0))) 255) 4 false t16_36
def t16_3 : Tr := .split (.u 6 0) t16_4 t16_35
def t16_2 : Tr := .need (.prim [(W 4 0), (W 2 0)] none) (.binOp .lss 3 (.tmp 10) (.tmp 9) 3) 0 false t16_3
def t16_1 : Tr := .loop 0 [(.w (.one (.c (.k (.int .u32 (0)))))), (.w (WK (0))), (.row 0)] t16_2
def t16_0 : Tr := .need (.lenrow 0) (.call ⟨.builtin .len, #[(.tmp 8)], #[33]⟩) 3 false t16_1
theorem x_giveBack : execR prog f252 (fun _ => none) [.lent 255 1, .v none] = t16_0 := by kernel_rfl

structure LInv (xs ys : List Nat) (i b : Nat) (os : List Nat) : Prop where
  h : SubInv 1000000000 xs ys 1 i 0 b os
theorem LInv.init {xs : List Nat} (hx : Dg xs) (ys : List Nat) : LInv xs ys 0 0 xs := ⟨SubInv.init hx ys 1⟩
theorem LInv.next {xs ys os : List Nat} {i b x y z b' : Nat} (h : LInv xs ys i b os) (hx : xs[i]? = some x) (hy : ys[i]?.getD 0 = y) (hyB : y < 1000000000) (hz : z < 1000000000) (hb : b' ≤ 1) (he : z + y + b = x + 1000000000 * b') :
    LInv xs ys (i + 1) b' (os.set i z) := by
  have := h.h.next (by omega) (by omega) hx hy hyB hz hb (by rw [Nat.zero_add, Nat.one_mul, Nat.mod_eq_of_lt hyB]; exact he)
  rw [Nat.zero_add, Nat.one_mul, Nat.div_eq_of_lt hyB] at this
  exact ⟨this⟩
theorem LInv.fin {xs ys os : List Nat} {i b : Nat} (h : LInv xs ys i b os) (hle : lv ys ≤ lv xs) (he : b = 0 ∧ ys.length ≤ i ∨ i = xs.length ∧ ys.length ≤ xs.length) : lv os + lv ys = lv xs := by
  have h1 := h.h.eq
  rw [Nat.one_mul, Nat.zero_add] at h1
  rcases he with ⟨rfl, hl⟩ | ⟨rfl, hl⟩
  · rw [Nat.mul_zero, Nat.add_zero, List.take_of_length_le hl] at h1
    have e : ∀ l : List Nat, i ≤ l.length → lv l = lv (l.take i) + 1000000000 ^ i * lv (l.drop i) := fun l hl => by
      conv => lhs; rw [← List.take_append_drop i l]
      rw [lv_append, List.length_take, Nat.min_eq_left hl]
    rw [e os (by rw [h.h.len]; exact h.h.le), e xs h.h.le, h.h.rest]
    simp only [lv] at h1 ⊢
    omega
  · rw [List.take_of_length_le (by rw [h.h.len]; omega), List.take_length, List.take_of_length_le hl] at h1
    have h2 := DB.lt (by omega) h.h.dg
    rw [h.h.len] at h2
    have hb := h.h.b1
    rcases (by omega : b = 0 ∨ b = 1) with rfl | rfl
    · show val _ os + val _ ys = val _ xs
      omega
    · have hle : val 1000000000 ys ≤ val 1000000000 xs := hle
      omega
theorem dl_mono {a b : Nat} (h : a ≤ b) : (dg a).length ≤ (dg b).length := digs_length_le (by omega) (Nat.lt_of_le_of_lt h (lt_pow_digs (by omega) b))

theorem d_less (a b : Nat) (hab : b ≤ a) (ha : 0 < a) (hs : (dg a).length < 1099511627776) : Does prog 194 [(mT a : STy), (mT b : STy)] (.ret [mT (a - b)]) := by
  refine does_of_vc (args := [.v (some 1), .v (some 1)]) (ins := [.v (mT a), .v (mT b)]) (hints := (fun _ => none)) fo (by kernel_rfl) func194 ⟨rfl, rfl, trivial⟩ ?_
  rw [x_less]
  dsimp only [List.map, In.env, c_a, n_a]
  have hlen := dl_mono hab
  have hane : dg a ≠ [] := fun e => by have := dg_nil.1 e; omega
  refine vn (p_len el33 (List.length_map _)) rfl ?_
  dsimp only [c_a, n_a]
  refine vmakem (f := fun d : Nat => [CTy.int .u32 (d : Int)]) 0 rfl rfl rfl rfl (by omega) (by simp only [maxLen]; omega) ?_
  dsimp only [c_a, n_a]
  refine vcopym (xs := dg a) (ws := dg a) (fun _ => rfl) rfl rfl el33 (by simp) (by simpa using hane) (by simp) ?_
  dsimp only [c_a, n_a]
  refine vlen rfl (List.length_map _) ?_
  dsimp only [c_a, n_a]
  refine vloop {g : Nat × Nat × List Nat // LInv (dg a) (dg b) g.1 g.2.1 g.2.2} (fun g => [.one (.int .u32 g.1.2.1), .one (.int .i64 g.1.1), .rows (rT g.1.2.2)]) (fun g => (dg a).length - g.1.1) ⟨(0, 0, dg a), LInv.init (dg_dg a) _⟩ SubL.rfl (fun _ => rfl) ?_
  rintro ⟨⟨i, c, os⟩, hI⟩
  dsimp only [c_a, n_a] at hI ⊢
  have hol := hI.h.len
  have hil := hI.h.le
  have hc := hI.h.b1
  have hle : lv (dg b) ≤ lv (dg a) := by rw [lv_dg, lv_dg]; exact hab
  have fin : (c = 0 ∧ (dg b).length ≤ i ∨ i = (dg a).length ∧ (dg b).length ≤ (dg a).length) → lv os = a - b := fun h => by
    have := hI.fin hle h
    rw [lv_dg, lv_dg] at this
    omega
  refine vn q_lss rfl ?_
  dsimp only [c_a, n_a]
  refine vs _ rfl (fun h6 => ?_) (fun h6 => ?_)
  · have hx : (dg a)[i]? = some ((dg a)[i]'(by omega)) := List.getElem?_eq_getElem (by omega)
    generalize (dg a)[i]'(by omega) = x at hx
    have hxB := (dg_dg a).get hx
    have ho := hI.h.get hx
    refine vn (p_len el33 (List.length_map _)) rfl ?_
    dsimp only [c_a, n_a]
    refine vn q_lss rfl ?_
    dsimp only [c_a, n_a]
    refine vs _ rfl (fun h9 => ?_) (fun h9 => ?_)
    · have hy : (dg b)[i]? = some ((dg b)[i]'(by omega)) := List.getElem?_eq_getElem (by omega)
      generalize (dg b)[i]'(by omega) = y at hy
      have hyB := (dg_dg b).get hy
      refine vn (p_idxm el33 (by omega) (by omega) hy) rfl ?_
      dsimp only [c_a, n_a]
      refine vn (p_load1 ag255) rfl ?_
      dsimp only [c_a, n_a]
      refine vn (p_add_u32 (by omega) (by omega)) rfl ?_
      dsimp only [c_a, n_a]
      refine vidxm rfl rfl (by omega) (by first | omega | (rw [List.length_set]; omega)) ?_
      refine vldm1 rfl rfl (by omega) (by omega) ho rfl ?_
      dsimp only [c_a, n_a]
      refine vn q_lss rfl ?_
      dsimp only [c_a, n_a]
      refine vs _ rfl (fun h16 => ?_) (fun h16 => ?_)
      · refine vidxm rfl rfl (by omega) (by first | omega | (rw [List.length_set]; omega)) ?_
        refine vldm1 rfl rfl (by omega) (by omega) ho rfl ?_
        dsimp only [c_a, n_a]
        refine vn (p_add_u32 (by omega) (by omega)) rfl ?_
        dsimp only [c_a, n_a]
        refine vidxm rfl rfl (by omega) (by first | omega | (rw [List.length_set]; omega)) ?_
        refine vstm (d' := x + 1000000000) rfl rfl (by omega) (by omega) ho rfl ?_
        dsimp only [c_a, n_a]
        refine vidxm rfl rfl (by omega) (by first | omega | (rw [List.length_set]; omega)) ?_
        refine vldm (d := x + 1000000000) rfl rfl (by omega) (by omega) (List.getElem?_set_self (by omega)) (.inr rfl) rfl ?_
        dsimp only [c_a, n_a]
        refine vn (p_sub_u32 (by omega) (by omega)) rfl ?_
        dsimp only [c_a, n_a]
        refine vidxm rfl rfl (by omega) (by first | omega | (rw [List.length_set]; omega)) ?_
        refine vstm (d := x + 1000000000) (d' := x + 1000000000 - (y + c)) rfl rfl (by omega) (by omega) (List.getElem?_set_self (by omega)) ?_ ?_
        · show [CTy.int .u32 _] = [CTy.int .u32 _]
          congr 2; omega
        rw [List.set_set]
        dsimp only [c_a, n_a]
        refine vn (p_add_i64 (by omega) (by omega)) rfl ?_
        dsimp only [c_a, n_a]
        exact vback rfl ⟨⟨(i + 1, 1, os.set i (x + 1000000000 - (y + c))), hI.next (b' := 1) (z := x + 1000000000 - (y + c)) hx (by rw [hy]; rfl) hyB (by omega) (by omega) (by omega)⟩, SubL.rfl, by show (dg a).length - (i + 1) < (dg a).length - i; omega⟩
      refine vidxm rfl rfl (by omega) (by first | omega | (rw [List.length_set]; omega)) ?_
      refine vldm1 rfl rfl (by omega) (by omega) ho rfl ?_
      dsimp only [c_a, n_a]
      refine vn (p_sub_u32 (by omega) (by omega)) rfl ?_
      dsimp only [c_a, n_a]
      refine vidxm rfl rfl (by omega) (by first | omega | (rw [List.length_set]; omega)) ?_
      refine vstm (d' := x - (y + c)) rfl rfl (by omega) (by omega) ho ?_ ?_
      · show [CTy.int .u32 _] = [CTy.int .u32 _]
        congr 2; omega
      dsimp only [c_a, n_a]
      refine vn (p_add_i64 (by omega) (by omega)) rfl ?_
      dsimp only [c_a, n_a]
      exact vback rfl ⟨⟨(i + 1, 0, os.set i (x - (y + c))), hI.next (b' := 0) (z := x - (y + c)) hx (by rw [hy]; rfl) hyB (by omega) (by omega) (by omega)⟩, SubL.rfl, by show (dg a).length - (i + 1) < (dg a).length - i; omega⟩
    refine vn q_eql rfl ?_
    dsimp only [c_a, n_a]
    refine vs _ rfl (fun h37 => ?_) (fun h37 => ?_)
    · refine vcall (d_trimmed os hI.h.dg (by omega)) rfl ?_
      dsimp only [c_a, n_a]
      refine vret ?_
      rw [fin (.inl (by omega))]
      rfl
    have hnone : (dg b)[i]? = none := List.getElem?_eq_none_iff.2 (by omega)
    refine vidxm rfl rfl (by omega) (by first | omega | (rw [List.length_set]; omega)) ?_
    refine vldm1 rfl rfl (by omega) (by omega) ho rfl ?_
    dsimp only [c_a, n_a]
    refine vn q_lss rfl ?_
    dsimp only [c_a, n_a]
    refine vs _ rfl (fun h43 => ?_) (fun h43 => ?_)
    · refine vidxm rfl rfl (by omega) (by first | omega | (rw [List.length_set]; omega)) ?_
      refine vldm1 rfl rfl (by omega) (by omega) ho rfl ?_
      dsimp only [c_a, n_a]
      refine vn (p_add_u32 (by omega) (by omega)) rfl ?_
      dsimp only [c_a, n_a]
      refine vidxm rfl rfl (by omega) (by first | omega | (rw [List.length_set]; omega)) ?_
      refine vstm (d' := x + 1000000000) rfl rfl (by omega) (by omega) ho rfl ?_
      dsimp only [c_a, n_a]
      refine vidxm rfl rfl (by omega) (by first | omega | (rw [List.length_set]; omega)) ?_
      refine vldm (d := x + 1000000000) rfl rfl (by omega) (by omega) (List.getElem?_set_self (by omega)) (.inr rfl) rfl ?_
      dsimp only [c_a, n_a]
      refine vn (p_sub_u32 (by omega) (by omega)) rfl ?_
      dsimp only [c_a, n_a]
      refine vidxm rfl rfl (by omega) (by first | omega | (rw [List.length_set]; omega)) ?_
      refine vstm (d := x + 1000000000) (d' := x + 1000000000 - c) rfl rfl (by omega) (by omega) (List.getElem?_set_self (by omega)) ?_ ?_
      · show [CTy.int .u32 _] = [CTy.int .u32 _]
        congr 2; omega
      rw [List.set_set]
      dsimp only [c_a, n_a]
      refine vn (p_add_i64 (by omega) (by omega)) rfl ?_
      dsimp only [c_a, n_a]
      exact vback rfl ⟨⟨(i + 1, 1, os.set i (x + 1000000000 - c)), hI.next (b' := 1) (z := x + 1000000000 - c) (y := 0) hx (by rw [hnone]; rfl) (by omega) (by omega) (by omega) (by omega)⟩, SubL.rfl, by show (dg a).length - (i + 1) < (dg a).length - i; omega⟩
    refine vidxm rfl rfl (by omega) (by first | omega | (rw [List.length_set]; omega)) ?_
    refine vldm1 rfl rfl (by omega) (by omega) ho rfl ?_
    dsimp only [c_a, n_a]
    refine vn (p_sub_u32 (by omega) (by omega)) rfl ?_
    dsimp only [c_a, n_a]
    refine vidxm rfl rfl (by omega) (by first | omega | (rw [List.length_set]; omega)) ?_
    refine vstm (d' := x - c) rfl rfl (by omega) (by omega) ho ?_ ?_
    · show [CTy.int .u32 _] = [CTy.int .u32 _]
      congr 2; omega
    dsimp only [c_a, n_a]
    refine vn (p_add_i64 (by omega) (by omega)) rfl ?_
    dsimp only [c_a, n_a]
    exact vback rfl ⟨⟨(i + 1, 0, os.set i (x - c)), hI.next (b' := 0) (z := x - c) (y := 0) hx (by rw [hnone]; rfl) (by omega) (by omega) (by omega) (by omega)⟩, SubL.rfl, by show (dg a).length - (i + 1) < (dg a).length - i; omega⟩
  refine vcall (d_trimmed os hI.h.dg (by omega)) rfl ?_
  dsimp only [c_a, n_a]
  refine vret ?_
  rw [fin (.inr ⟨by omega, hlen⟩)]
  rfl

theorem bool_ne {b : Nat} {p : Prop} [Decidable p] (h : b = if p then 1 else 0) : decide ((b : Int) ≠ 0) = decide p := by
  subst h
  by_cases hp : p <;> simp [hp]

set_option maxHeartbeats 1000000 in
theorem d_subtract (xs ys : List Nat) (t : Nat) (hx : Dg xs) (hy : Dg ys) (ht : t < 1000000000) (hl : ys.length < xs.length) (hs : xs.length < 1099511627776) : DoesRow prog 251 255 1 [] [(.one (.slice 1 (rT ys)) : STy), (.one (.int .u64 t) : STy)] (rT xs) [.one (.bool (decide (lv xs < t * lv ys)))] (rT (pd 1000000000 xs.length (lv xs + 1000000000 ^ xs.length * (if lv xs < t * lv ys then 1 else 0) - t * lv ys))) := by
  refine does_row (a1 := []) (a2 := [.v none, .v none]) (i1 := []) (i2 := [.v (.one (.slice 1 (rT ys))), .v (.one (.int .u64 t))]) (hints := (fun _ => none)) fo (by kernel_rfl) func251 trivial ⟨rfl, rfl, trivial⟩ (by kernel_rfl) ?_ ?_ ?_ ?_
  · simp [rT]
  · simp [rT]
  · simp [rT]
  dsimp only [c_a, n_a]
  rw [x_subtract]
  dsimp only [List.map, In.env, c_a, n_a]
  refine vlen rfl (List.length_map _) ?_
  dsimp only [c_a, n_a]
  refine vloop {g : Nat × Nat × Nat × List Nat // SubInv 1000000000 xs ys t g.1 g.2.1 g.2.2.1 g.2.2.2} (fun g => [.one (.int .u64 g.1.2.1), .one (.int .i64 g.1.2.2.1), .one (.int .i64 g.1.1), .rows (rT g.1.2.2.2)]) (fun g => xs.length - g.1.1) ⟨(0, 0, 0, xs), SubInv.init hx _ _⟩ SubL.rfl (fun _ => rfl) ?_
  rintro ⟨⟨i, c, b, os⟩, hI⟩
  dsimp only [c_a, n_a] at hI ⊢
  have hol := hI.len
  have hil := hI.le
  have hc := hI.c1
  have hb := hI.b1
  refine vn q_lss rfl ?_
  dsimp only [c_a, n_a]
  refine vs _ rfl (fun h3 => ?_) (fun h3 => ?_)
  · have hgx : xs[i]? = some (xs[i]'(by omega)) := List.getElem?_eq_getElem (by omega)
    generalize xs[i]'(by omega) = x at hgx
    have hxB := hx.get hgx
    have ho := hI.get hgx
    refine vn (p_len el33 (List.length_map _)) rfl ?_
    dsimp only [c_a, n_a]
    refine vn q_lss rfl ?_
    dsimp only [c_a, n_a]
    refine vs _ rfl (fun h6 => ?_) (fun h6 => ?_)
    · have hgy : ys[i]? = some (ys[i]'(by omega)) := List.getElem?_eq_getElem (by omega)
      generalize ys[i]'(by omega) = y at hgy
      have hyB := hy.get hgy
      have hty : t * y ≤ 999999999 * 999999999 := Nat.mul_le_mul (by omega) (by omega)
      obtain ⟨w, hw⟩ : ∃ w, c + t * y = w := ⟨_, rfl⟩
      have hwB : w < 1000000000 * 1000000000 := by omega
      have hm : ∀ z b' : Nat, z < 1000000000 → b' ≤ 1 → z + w % 1000000000 + b = x + 1000000000 * b' → SubInv 1000000000 xs ys t (i + 1) (w / 1000000000) b' (os.set i z) := fun z b' h1 h2 h3 => by
        have := hI.next (by omega) ht hgx (by rw [hgy]; rfl) hyB h1 h2 (by rw [hw]; exact h3)
        rw [hw] at this; exact this
      refine vn (p_idxm el33 (by omega) (by omega) hgy) rfl ?_
      dsimp only [c_a, n_a]
      refine vn (p_load1 ag255) rfl ?_
      dsimp only [c_a, n_a]
      refine vn (p_cv_u64 ⟨_, un255⟩ un254 (by omega) (by omega)) rfl ?_
      dsimp only [c_a, n_a]
      refine vn (p_mul (c := ((t * y : Nat) : Int)) (by rw [← Int.natCast_mul, wu64] <;> omega)) rfl ?_
      dsimp only [c_a, n_a]
      refine vn (p_add (c := (w : Int)) (by rw [wu64] <;> omega)) rfl ?_
      dsimp only [c_a, n_a]
      refine vidxm rfl rfl (by omega) (by first | omega | (rw [List.length_set]; omega)) ?_
      refine vldm1 rfl rfl (by omega) (by omega) ho rfl ?_
      dsimp only [c_a, n_a]
      refine vn (p_cv_i64 ⟨_, un255⟩ un2 (by omega) (by omega)) rfl ?_
      dsimp only [c_a, n_a]
      refine vn (p_rem_n (by omega) (by omega)) rfl ?_
      dsimp only [c_a, n_a]
      refine vn (p_cv_i64 ⟨_, un254⟩ un2 (by omega) (by omega)) rfl ?_
      dsimp only [c_a, n_a]
      refine vn (p_sub_i64 (by omega) (by omega)) rfl ?_
      dsimp only [c_a, n_a]
      refine vn (p_sub_i64 (by omega) (by omega)) rfl ?_
      dsimp only [c_a, n_a]
      refine vn (p_quo_u64 (by omega) (by omega) (by omega)) rfl ?_
      dsimp only [c_a, n_a]
      refine vn q_lss rfl ?_
      dsimp only [c_a, n_a]
      refine vs _ rfl (fun h21 => ?_) (fun h21 => ?_)
      · refine vn (p_add_i64 (by omega) (by omega)) rfl ?_
        dsimp only [c_a, n_a]
        refine vn (p_cv_u32 ⟨_, un2⟩ un255 (by omega) (by omega)) rfl ?_
        dsimp only [c_a, n_a]
        refine vidxm rfl rfl (by omega) (by first | omega | (rw [List.length_set]; omega)) ?_
        refine vstm (d' := x + 1000000000 - w % 1000000000 - b) rfl rfl (by omega) (by omega) ho ?_ ?_
        · show [CTy.int .u32 _] = [CTy.int .u32 _]
          congr 2; omega
        dsimp only [c_a, n_a]
        refine vn (p_add_i64 (by omega) (by omega)) rfl ?_
        dsimp only [c_a, n_a]
        exact vback rfl ⟨⟨(i + 1, w / 1000000000, 1, os.set i (x + 1000000000 - w % 1000000000 - b)), hm _ 1 (by omega) (by omega) (by omega)⟩, SubL.rfl, by show xs.length - (i + 1) < xs.length - i; omega⟩
      refine vn (p_cv_u32 ⟨_, un2⟩ un255 (by omega) (by omega)) rfl ?_
      dsimp only [c_a, n_a]
      refine vidxm rfl rfl (by omega) (by first | omega | (rw [List.length_set]; omega)) ?_
      refine vstm (d' := x - w % 1000000000 - b) rfl rfl (by omega) (by omega) ho ?_ ?_
      · show [CTy.int .u32 _] = [CTy.int .u32 _]
        congr 2; omega
      dsimp only [c_a, n_a]
      refine vn (p_add_i64 (by omega) (by omega)) rfl ?_
      dsimp only [c_a, n_a]
      exact vback rfl ⟨⟨(i + 1, w / 1000000000, 0, os.set i (x - w % 1000000000 - b)), hm _ 0 (by omega) (by omega) (by omega)⟩, SubL.rfl, by show xs.length - (i + 1) < xs.length - i; omega⟩
    have hnone : ys[i]? = none := List.getElem?_eq_none_iff.2 (by omega)
    have hm : ∀ z b' : Nat, z < 1000000000 → b' ≤ 1 → z + c % 1000000000 + b = x + 1000000000 * b' → SubInv 1000000000 xs ys t (i + 1) (c / 1000000000) b' (os.set i z) := fun z b' h1 h2 h3 => by
      have := hI.next (y := 0) (by omega) ht hgx (by rw [hnone]; rfl) (by omega) h1 h2 (by rw [Nat.mul_zero, Nat.add_zero]; exact h3)
      rw [Nat.mul_zero, Nat.add_zero] at this; exact this
    refine vidxm rfl rfl (by omega) (by first | omega | (rw [List.length_set]; omega)) ?_
    refine vldm1 rfl rfl (by omega) (by omega) ho rfl ?_
    dsimp only [c_a, n_a]
    refine vn (p_cv_i64 ⟨_, un255⟩ un2 (by omega) (by omega)) rfl ?_
    dsimp only [c_a, n_a]
    refine vn (p_rem_n (by omega) (by omega)) rfl ?_
    dsimp only [c_a, n_a]
    refine vn (p_cv_i64 ⟨_, un254⟩ un2 (by omega) (by omega)) rfl ?_
    dsimp only [c_a, n_a]
    refine vn (p_sub_i64 (by omega) (by omega)) rfl ?_
    dsimp only [c_a, n_a]
    refine vn (p_sub_i64 (by omega) (by omega)) rfl ?_
    dsimp only [c_a, n_a]
    refine vn (p_quo_u64 (by omega) (by omega) (by omega)) rfl ?_
    dsimp only [c_a, n_a]
    refine vn q_lss rfl ?_
    dsimp only [c_a, n_a]
    refine vs _ rfl (fun h42 => ?_) (fun h42 => ?_)
    · refine vn (p_add_i64 (by omega) (by omega)) rfl ?_
      dsimp only [c_a, n_a]
      refine vn (p_cv_u32 ⟨_, un2⟩ un255 (by omega) (by omega)) rfl ?_
      dsimp only [c_a, n_a]
      refine vidxm rfl rfl (by omega) (by first | omega | (rw [List.length_set]; omega)) ?_
      refine vstm (d' := x + 1000000000 - c % 1000000000 - b) rfl rfl (by omega) (by omega) ho ?_ ?_
      · show [CTy.int .u32 _] = [CTy.int .u32 _]
        congr 2; omega
      dsimp only [c_a, n_a]
      refine vn (p_add_i64 (by omega) (by omega)) rfl ?_
      dsimp only [c_a, n_a]
      exact vback rfl ⟨⟨(i + 1, c / 1000000000, 1, os.set i (x + 1000000000 - c % 1000000000 - b)), hm _ 1 (by omega) (by omega) (by omega)⟩, SubL.rfl, by show xs.length - (i + 1) < xs.length - i; omega⟩
    refine vn (p_cv_u32 ⟨_, un2⟩ un255 (by omega) (by omega)) rfl ?_
    dsimp only [c_a, n_a]
    refine vidxm rfl rfl (by omega) (by first | omega | (rw [List.length_set]; omega)) ?_
    refine vstm (d' := x - c % 1000000000 - b) rfl rfl (by omega) (by omega) ho ?_ ?_
    · show [CTy.int .u32 _] = [CTy.int .u32 _]
      congr 2; omega
    dsimp only [c_a, n_a]
    refine vn (p_add_i64 (by omega) (by omega)) rfl ?_
    dsimp only [c_a, n_a]
    exact vback rfl ⟨⟨(i + 1, c / 1000000000, 0, os.set i (x - c % 1000000000 - b)), hm _ 0 (by omega) (by omega) (by omega)⟩, SubL.rfl, by show xs.length - (i + 1) < xs.length - i; omega⟩
  refine vn q_neq rfl ?_
  dsimp only [c_a, n_a]
  have hie : i = xs.length := by omega
  subst hie
  obtain ⟨hb1, ho1⟩ := hI.fin (by omega) hx hl
  rw [hb1] at ho1
  exact vretr (by rw [← show rT os = rT _ from congrArg rT ho1]; rfl) (congrArg (fun q => [STy.one (.bool q)]) (bool_ne hb1))

/-- the invariant of giveBack -/
structure GInv (xs ys : List Nat) (i c : Nat) (os : List Nat) : Prop where
  le : i ≤ xs.length
  c1 : c ≤ 1
  len : os.length = xs.length
  dg : DB 1000000000 os
  rest : os.drop i = xs.drop i
  eq : lv (os.take i) + 1000000000 ^ i * c = lv (xs.take i) + lv (ys.take i)
theorem GInv.init {xs : List Nat} (hx : Dg xs) (ys : List Nat) : GInv xs ys 0 0 xs := ⟨Nat.zero_le _, by omega, rfl, hx, rfl, by simp [lv, val]⟩
theorem GInv.get {xs ys os : List Nat} {i c x : Nat} (h : GInv xs ys i c os) (hx : xs[i]? = some x) : os[i]? = some x := by
  have := congrArg (fun l => l[0]?) h.rest
  simp only [List.getElem?_drop, Nat.add_zero] at this
  rw [this, hx]
theorem GInv.next {xs ys os : List Nat} {i c x y c' z : Nat} (h : GInv xs ys i c os) (hx : xs[i]? = some x) (hy : ys[i]?.getD 0 = y) (hz : z < 1000000000) (hc : c' ≤ 1) (he : z + 1000000000 * c' = x + c + y) : GInv xs ys (i + 1) c' (os.set i z) := by
  have hi : i < xs.length := (List.getElem?_eq_some_iff.1 hx).1
  refine ⟨hi, hc, by rw [List.length_set]; exact h.len, h.dg.set hz, ?_, ?_⟩
  · rw [List.drop_set_of_lt (by omega)]
    have := congrArg (List.drop 1) h.rest
    simpa [List.drop_drop] using this
  · have h1 := h.eq
    have h2 := congrArg (fun q => 1000000000 ^ i * q) he
    have e1 : lv ((os.set i z).take (i + 1)) = lv (os.take i) + 1000000000 ^ i * z := val_set_take (by rw [h.len]; exact hi)
    have e2 : lv (xs.take (i + 1)) = lv (xs.take i) + 1000000000 ^ i * x := val_take_succ hx
    have e3 : lv (ys.take (i + 1)) = lv (ys.take i) + 1000000000 ^ i * y := val_take_succD hy
    rw [e1, e2, e3, Nat.pow_succ, Nat.mul_assoc]
    simp only [Nat.mul_add] at h2
    omega
theorem GInv.fin {xs ys os : List Nat} {c : Nat} (h : GInv xs ys xs.length c os) (hl : ys.length < xs.length) :
    c = (if 1000000000 ^ xs.length ≤ lv xs + lv ys then 1 else 0) ∧ os = pd 1000000000 xs.length (lv xs + lv ys - 1000000000 ^ xs.length * c) := by
  have h1 := h.eq
  rw [List.take_of_length_le (by rw [h.len]; omega), List.take_length, List.take_of_length_le (by omega)] at h1
  have h2 : lv os < _ := DB.lt (by omega) h.dg
  rw [h.len] at h2
  have hc := h.c1
  constructor
  · split <;> rcases (by omega : c = 0 ∨ c = 1) with rfl | rfl <;> omega
  · refine pd_of (by omega) h.dg h.len ?_
    show lv os = _
    omega

theorem d_giveBack (xs ys : List Nat) (hx : Dg xs) (hy : Dg ys) (hl : ys.length < xs.length) (hs : xs.length < 1099511627776) : DoesRow prog 252 255 1 [] [(.one (.slice 1 (rT ys)) : STy)] (rT xs) [.one (.bool (decide (1000000000 ^ xs.length ≤ lv xs + lv ys)))] (rT (pd 1000000000 xs.length (lv xs + lv ys - 1000000000 ^ xs.length * (if 1000000000 ^ xs.length ≤ lv xs + lv ys then 1 else 0)))) := by
  refine does_row (a1 := []) (a2 := [.v none]) (i1 := []) (i2 := [.v (.one (.slice 1 (rT ys)))]) (hints := (fun _ => none)) fo (by kernel_rfl) func252 trivial ⟨rfl, trivial⟩ (by kernel_rfl) ?_ ?_ ?_ ?_
  · simp [rT]
  · simp [rT]
  · simp [rT]
  dsimp only [c_a, n_a]
  rw [x_giveBack]
  dsimp only [List.map, In.env, c_a, n_a]
  refine vlen rfl (List.length_map _) ?_
  dsimp only [c_a, n_a]
  refine vloop {g : Nat × Nat × List Nat // GInv xs ys g.1 g.2.1 g.2.2} (fun g => [.one (.int .u32 g.1.2.1), .one (.int .i64 g.1.1), .rows (rT g.1.2.2)]) (fun g => xs.length - g.1.1) ⟨(0, 0, xs), GInv.init hx _⟩ SubL.rfl (fun _ => rfl) ?_
  rintro ⟨⟨i, c, os⟩, hI⟩
  dsimp only [c_a, n_a] at hI ⊢
  have hol := hI.len
  have hil := hI.le
  have hc := hI.c1
  refine vn q_lss rfl ?_
  dsimp only [c_a, n_a]
  refine vs _ rfl (fun h3 => ?_) (fun h3 => ?_)
  · have hgx : xs[i]? = some (xs[i]'(by omega)) := List.getElem?_eq_getElem (by omega)
    generalize xs[i]'(by omega) = x at hgx
    have hxB := hx.get hgx
    have ho := hI.get hgx
    refine vidxm rfl rfl (by omega) (by first | omega | (rw [List.length_set]; omega)) ?_
    refine vldm1 rfl rfl (by omega) (by omega) ho rfl ?_
    dsimp only [c_a, n_a]
    refine vn (p_add_u32 (by omega) (by omega)) rfl ?_
    dsimp only [c_a, n_a]
    refine vn (p_len el33 (List.length_map _)) rfl ?_
    dsimp only [c_a, n_a]
    refine vn q_lss rfl ?_
    dsimp only [c_a, n_a]
    refine vs _ rfl (fun h9 => ?_) (fun h9 => ?_)
    · have hgy : ys[i]? = some (ys[i]'(by omega)) := List.getElem?_eq_getElem (by omega)
      generalize ys[i]'(by omega) = y at hgy
      have hyB := hy.get hgy
      refine vn (p_idxm el33 (by omega) (by omega) hgy) rfl ?_
      dsimp only [c_a, n_a]
      refine vn (p_load1 ag255) rfl ?_
      dsimp only [c_a, n_a]
      refine vn (p_add_u32 (by omega) (by omega)) rfl ?_
      dsimp only [c_a, n_a]
      refine vn q_geq rfl ?_
      dsimp only [c_a, n_a]
      refine vs _ rfl (fun h14 => ?_) (fun h14 => ?_)
      · refine vn (p_sub_u32 (by omega) (by omega)) rfl ?_
        dsimp only [c_a, n_a]
        refine vidxm rfl rfl (by omega) (by first | omega | (rw [List.length_set]; omega)) ?_
        refine vstm (d' := x + c + y - 1000000000) rfl rfl (by omega) (by omega) ho ?_ ?_
        · show [CTy.int .u32 _] = [CTy.int .u32 _]
          congr 2; omega
        dsimp only [c_a, n_a]
        refine vn (p_add_i64 (by omega) (by omega)) rfl ?_
        dsimp only [c_a, n_a]
        exact vback rfl ⟨⟨(i + 1, 1, os.set i (x + c + y - 1000000000)), hI.next (z := x + c + y - 1000000000) (c' := 1) (y := y) hgx (by rw [hgy]; rfl) (by omega) (by omega) (by omega)⟩, SubL.rfl, by show xs.length - (i + 1) < xs.length - i; omega⟩
      refine vidxm rfl rfl (by omega) (by first | omega | (rw [List.length_set]; omega)) ?_
      refine vstm (d' := x + c + y) rfl rfl (by omega) (by omega) ho ?_ ?_
      · show [CTy.int .u32 _] = [CTy.int .u32 _]
        congr 2
      dsimp only [c_a, n_a]
      refine vn (p_add_i64 (by omega) (by omega)) rfl ?_
      dsimp only [c_a, n_a]
      exact vback rfl ⟨⟨(i + 1, 0, os.set i (x + c + y)), hI.next (z := x + c + y) (c' := 0) (y := y) hgx (by rw [hgy]; rfl) (by omega) (by omega) (by omega)⟩, SubL.rfl, by show xs.length - (i + 1) < xs.length - i; omega⟩
    have hnone : ys[i]? = none := List.getElem?_eq_none_iff.2 (by omega)
    refine vn q_geq rfl ?_
    dsimp only [c_a, n_a]
    refine vs _ rfl (fun h25 => ?_) (fun h25 => ?_)
    · refine vn (p_sub_u32 (by omega) (by omega)) rfl ?_
      dsimp only [c_a, n_a]
      refine vidxm rfl rfl (by omega) (by first | omega | (rw [List.length_set]; omega)) ?_
      refine vstm (d' := x + c - 1000000000) rfl rfl (by omega) (by omega) ho ?_ ?_
      · show [CTy.int .u32 _] = [CTy.int .u32 _]
        congr 2; omega
      dsimp only [c_a, n_a]
      refine vn (p_add_i64 (by omega) (by omega)) rfl ?_
      dsimp only [c_a, n_a]
      exact vback rfl ⟨⟨(i + 1, 1, os.set i (x + c - 1000000000)), hI.next (z := x + c - 1000000000) (c' := 1) (y := 0) hgx (by rw [hnone]; rfl) (by omega) (by omega) (by omega)⟩, SubL.rfl, by show xs.length - (i + 1) < xs.length - i; omega⟩
    refine vidxm rfl rfl (by omega) (by first | omega | (rw [List.length_set]; omega)) ?_
    refine vstm (d' := x + c) rfl rfl (by omega) (by omega) ho ?_ ?_
    · show [CTy.int .u32 _] = [CTy.int .u32 _]
      congr 2
    dsimp only [c_a, n_a]
    refine vn (p_add_i64 (by omega) (by omega)) rfl ?_
    dsimp only [c_a, n_a]
    exact vback rfl ⟨⟨(i + 1, 0, os.set i (x + c)), hI.next (z := x + c) (c' := 0) (y := 0) hgx (by rw [hnone]; rfl) (by omega) (by omega) (by omega)⟩, SubL.rfl, by show xs.length - (i + 1) < xs.length - i; omega⟩
  refine vn q_neq rfl ?_
  dsimp only [c_a, n_a]
  have hie : i = xs.length := by omega
  subst hie
  obtain ⟨hb1, ho1⟩ := hI.fin hl
  rw [hb1] at ho1
  exact vretr (by rw [← show rT os = rT _ from congrArg rT ho1]; rfl) (congrArg (fun q => [STy.one (.bool q)]) (bool_ne hb1))
end Go.Sy
namespace Go.Sy
open Go Go.Proofs Tryz Ord

def t17_3 : Tr := .ret [(.agg [(.c (.k (.slice none 0 0)))]), (.agg [(U 0 0)])]
def t17_10 : Tr := .ret [(.agg [(U 8 0)]), (.agg [(U 9 0)])]
def t17_9 : Tr := .need (.call 250 [(.agg [(U 0 0)]), (W 7 0)] [(some 1), (some 1)]) (.call ⟨.value (.func 250), #[(.tmp 30), (.tmp 34)], #[35, 255]⟩) 251 true t17_10
def t17_8 : Tr := .need (.prim [(W 6 0)] none) (.load 255 (.tmp 33)) 255 false t17_9
def t17_7 : Tr := .need (.prim [(W 1 0), (WK (0))] none) (.indexAddr 33 (.tmp 32) (.const (I3 (0)))) 0 false t17_8
def t17_63 : Tr := .back 1 [(.w (W 56 0)), (.w (W 58 0)), (.row 57)]
def t17_62 : Tr := .need (.prim [(W 53 0), (.one (.c (.k (.int .u64 (1)))))] none) (.binOp .sub 254 (.tmp 122) (.const (.int .u64 (1))) 254) 254 false t17_63
def t17_61 : Tr := .need (.rop 54 255 1 (some ((.u 27 0), (.u 47 0))) [] [(W 14 0)] [none]) (.call ⟨.value (.func 252), #[(.tmp 124), (.tmp 125)], #[33, 33]⟩) 4 true t17_62
def t17_68 : Tr := .back 0 [(.w (W 58 0)), (.row 57), (.row 54)]
def t17_67 : Tr := .need (.prim [(W 27 0), (WK (1))] none) (.binOp .sub 3 (.tmp 77) (.const (I3 (1))) 3) 3 false t17_68
def t17_66 : Tr := .need (.strow 28 1 (.u 27 0) 0 [(.u 56 0)]) (.store 255 (.tmp 131) (.tmp 130)) 0 false t17_67
def t17_65 : Tr := .need (.idx 28 (.u 27 0)) (.indexAddr 33 (.tmp 127) (.tmp 128)) 0 false t17_66
def t17_64 : Tr := .need (.prim [(W 53 0)] none) (.convert 254 255 (.tmp 129)) 255 false t17_65
def t17_60 : Tr := .split (.u 55 0) t17_61 t17_64
def t17_59 : Tr := .need (.prim [(W 52 0)] none) (.unOp .not 4 (.tmp 120)) 4 false t17_60
def t17_58 : Tr := .loop 1 [(.w (.one (.c (.k (.bool false))))), (.w (W 45 0)), (.row 51)] t17_59
def t17_73 : Tr := .back 0 [(.w (W 54 0)), (.row 53), (.row 51)]
def t17_72 : Tr := .need (.prim [(W 27 0), (WK (1))] none) (.binOp .sub 3 (.tmp 77) (.const (I3 (1))) 3) 3 false t17_73
def t17_71 : Tr := .need (.strow 28 1 (.u 27 0) 0 [(.u 52 0)]) (.store 255 (.tmp 131) (.tmp 130)) 0 false t17_72
def t17_70 : Tr := .need (.idx 28 (.u 27 0)) (.indexAddr 33 (.tmp 127) (.tmp 128)) 0 false t17_71
def t17_69 : Tr := .need (.prim [(W 45 0)] none) (.convert 254 255 (.tmp 129)) 255 false t17_70
def t17_57 : Tr := .split (.u 50 0) t17_58 t17_69
def t17_56 : Tr := .need (.rop 29 255 1 (some ((.u 27 0), (.u 47 0))) [] [(W 14 0), (W 45 0)] [none]) (.call ⟨.value (.func 251), #[(.tmp 116), (.tmp 117), (.tmp 118)], #[33, 33, 254]⟩) 4 true t17_57
def t17_55 : Tr := .need (.view 29 (.u 27 0) (.u 47 0) (.u 49 0)) (.slice 33 (.tmp 105) (some (.tmp 106)) (some (.tmp 110)) (some (.tmp 114))) 33 false t17_56
def t17_54 : Tr := .need (.prim [(W 48 0), (WK (1))] none) (.binOp .add 3 (.tmp 113) (.const (I3 (1))) 3) 3 false t17_55
def t17_53 : Tr := .need (.prim [(W 27 0), (W 15 0)] none) (.binOp .add 3 (.tmp 111) (.tmp 112) 3) 3 false t17_54
def t17_52 : Tr := .need (.prim [(W 46 0), (WK (1))] none) (.binOp .add 3 (.tmp 109) (.const (I3 (1))) 3) 3 false t17_53
def t17_51 : Tr := .need (.prim [(W 27 0), (W 15 0)] none) (.binOp .add 3 (.tmp 107) (.tmp 108) 3) 3 false t17_52
def t17_50 : Tr := .need (.prim [(W 44 0), (.one (.c (.k (.int .u64 (999999999)))))] none) (.call ⟨.builtin .min, #[(.tmp 103), (.const (.int .u64 (999999999)))], #[254, 254]⟩) 254 false t17_51
def t17_49 : Tr := .need (.prim [(W 39 0), (W 43 0)] none) (.binOp .quo 254 (.tmp 96) (.tmp 102) 254) 254 false t17_50
def t17_48 : Tr := .need (.prim [(W 42 0)] none) (.convert 255 254 (.tmp 101)) 254 false t17_49
def t17_47 : Tr := .need (.prim [(W 41 0)] none) (.load 255 (.tmp 100)) 255 false t17_48
def t17_46 : Tr := .need (.prim [(W 14 0), (W 40 0)] none) (.indexAddr 33 (.tmp 97) (.tmp 99)) 0 false t17_47
def t17_45 : Tr := .need (.prim [(W 15 0), (WK (1))] none) (.binOp .sub 3 (.tmp 98) (.const (I3 (1))) 3) 3 false t17_46
def t17_44 : Tr := .need (.prim [(W 34 0), (W 38 0)] none) (.binOp .add 254 (.tmp 86) (.tmp 94) 254) 254 false t17_45
def t17_43 : Tr := .need (.prim [(W 37 0)] none) (.convert 255 254 (.tmp 93)) 254 false t17_44
def t17_42 : Tr := .need (.ldrow 29 (.u 36 0) 0 1 false) (.load 255 (.tmp 92)) 255 false t17_43
def t17_41 : Tr := .need (.idx 29 (.u 36 0)) (.indexAddr 33 (.tmp 87) (.tmp 91)) 0 false t17_42
def t17_40 : Tr := .need (.prim [(W 35 0), (WK (1))] none) (.binOp .sub 3 (.tmp 90) (.const (I3 (1))) 3) 3 false t17_41
def t17_39 : Tr := .need (.prim [(W 27 0), (W 15 0)] none) (.binOp .add 3 (.tmp 88) (.tmp 89) 3) 3 false t17_40
def t17_38 : Tr := .need (.prim [(W 33 0), (.one (.c (.k (.int .u64 (1000000000)))))] none) (.binOp .mul 254 (.tmp 85) (.const (.int .u64 (1000000000))) 254) 254 false t17_39
def t17_37 : Tr := .need (.prim [(W 32 0)] none) (.convert 255 254 (.tmp 84)) 254 false t17_38
def t17_36 : Tr := .need (.ldrow 29 (.u 31 0) 0 1 false) (.load 255 (.tmp 83)) 255 false t17_37
def t17_35 : Tr := .need (.idx 29 (.u 31 0)) (.indexAddr 33 (.tmp 79) (.tmp 82)) 0 false t17_36
def t17_34 : Tr := .need (.prim [(W 27 0), (W 15 0)] none) (.binOp .add 3 (.tmp 80) (.tmp 81) 3) 3 false t17_35
def t17_77 : Tr := .ret [(.agg [(U 34 0)]), (.agg [(U 32 0)])]
def t17_76 : Tr := .need (.call 197 [(.one (.c (.sr 1 28)))] [(some 1)]) (.call ⟨.value (.func 197), #[(.tmp 139)], #[33]⟩) 35 false t17_77
def t17_75 : Tr := .need (.call 193 [(.agg [(U 31 0)]), (.agg [(U 13 0)])] [(some 1), (some 1)]) (.call ⟨.value (.func 193), #[(.tmp 134), (.tmp 135)], #[35, 35]⟩) 251 false t17_76
def t17_74 : Tr := .need (.call 197 [(.one (.c (.sr 1 29)))] [(some 1)]) (.call ⟨.value (.func 197), #[(.tmp 133)], #[33]⟩) 35 false t17_75
def t17_33 : Tr := .split (.u 30 0) t17_34 t17_74
def t17_32 : Tr := .need (.prim [(W 27 0), (WK (0))] none) (.binOp .geq 3 (.tmp 75) (.const (I3 (0))) 3) 4 false t17_33
def t17_31 : Tr := .loop 0 [(.w (W 26 0)), (.row 24), (.row 21)] t17_32
def t17_30 : Tr := .need (.prim [(W 25 0), (WK (1))] none) (.binOp .sub 3 (.tmp 73) (.const (I3 (1))) 3) 3 false t17_31
def t17_29 : Tr := .need (.lenrow 24) (.call ⟨.builtin .len, #[(.tmp 72)], #[33]⟩) 3 false t17_30
def t17_28 : Tr := .need (.make [(.int .u32 (0))] 4 (.u 23 0) (.u 23 0)) (.makeSlice 33 (.tmp 70) (.tmp 70)) 33 false t17_29
def t17_27 : Tr := .need (.prim [(W 22 0), (W 15 0)] none) (.binOp .sub 3 (.tmp 68) (.tmp 69) 3) 3 false t17_28
def t17_26 : Tr := .need (.lenrow 21) (.call ⟨.builtin .len, #[(.tmp 67)], #[33]⟩) 3 false t17_27
def t17_25 : Tr := .need (.rop 18 255 1 none [] [(W 19 0)] [none]) (.call ⟨.builtin .copy, #[(.tmp 61), (.tmp 65)], #[33, 33]⟩) 3 false t17_26
def t17_24 : Tr := .need (.call 118 [(.agg [(U 0 0)]), (.agg [(U 13 0)])] [(some 1)]) (.call ⟨.value (.func 118), #[(.tmp 62), (.tmp 63)], #[35, 35]⟩) 35 true t17_25
def t17_23 : Tr := .need (.make [(.int .u32 (0))] 4 (.u 17 0) (.u 17 0)) (.makeSlice 33 (.tmp 59) (.tmp 59)) 33 false t17_24
def t17_22 : Tr := .need (.prim [(W 16 0), (WK (1))] none) (.binOp .add 3 (.tmp 58) (.const (I3 (1))) 3) 3 false t17_23
def t17_21 : Tr := .need (.prim [(W 0 0)] none) (.call ⟨.builtin .len, #[(.tmp 57)], #[33]⟩) 3 false t17_22
def t17_20 : Tr := .need (.prim [(W 14 0)] none) (.call ⟨.builtin .len, #[(.tmp 54)], #[33]⟩) 3 false t17_21
def t17_19 : Tr := .need (.call 118 [(.agg [(U 1 0)]), (.agg [(U 13 0)])] [(some 1)]) (.call ⟨.value (.func 118), #[(.tmp 50), (.tmp 51)], #[35, 35]⟩) 35 true t17_20
def t17_18 : Tr := .need (.call 195 [(W 12 0)] [(some 1)]) (.call ⟨.value (.func 195), #[(.tmp 48)], #[254]⟩) 35 true t17_19
def t17_17 : Tr := .need (.prim [(W 11 0)] none) (.convert 255 254 (.tmp 47)) 254 false t17_18
def t17_16 : Tr := .need (.prim [(.one (.c (.k (.int .u32 (1000000000))))), (W 10 0)] none) (.binOp .quo 255 (.const (.int .u32 (1000000000))) (.tmp 46) 255) 255 false t17_17
def t17_15 : Tr := .need (.prim [(W 9 0), (.one (.c (.k (.int .u32 (1)))))] none) (.binOp .add 255 (.tmp 45) (.const (.int .u32 (1))) 255) 255 false t17_16
def t17_14 : Tr := .need (.prim [(W 8 0)] none) (.load 255 (.tmp 44)) 255 false t17_15
def t17_13 : Tr := .need (.prim [(W 1 0), (W 7 0)] none) (.indexAddr 33 (.tmp 39) (.tmp 43)) 0 false t17_14
def t17_12 : Tr := .need (.prim [(W 6 0), (WK (1))] none) (.binOp .sub 3 (.tmp 42) (.const (I3 (1))) 3) 3 false t17_13
def t17_11 : Tr := .need (.prim [(W 1 0)] none) (.call ⟨.builtin .len, #[(.tmp 41)], #[33]⟩) 3 false t17_12
def t17_6 : Tr := .split (.u 5 0) t17_7 t17_11
def t17_5 : Tr := .need (.prim [(W 4 0), (WK (1))] none) (.binOp .eql 3 (.tmp 28) (.const (I3 (1))) 3) 4 false t17_6
def t17_4 : Tr := .need (.prim [(W 1 0)] none) (.call ⟨.builtin .len, #[(.tmp 27)], #[33]⟩) 3 false t17_5
def t17_2 : Tr := .split (.u 3 0) t17_3 t17_4
def t17_1 : Tr := .need (.prim [(W 2 0), (WK (0))] none) (.binOp .lss 3 (.tmp 21) (.const (I3 (0))) 3) 4 false t17_2
def t17_0 : Tr := .need (.call 119 [(.agg [(U 0 0)]), (.agg [(U 1 0)])] [none]) (.call ⟨.value (.func 119), #[(.tmp 19), (.tmp 20)], #[35, 35]⟩) 3 true t17_1
theorem x_over : execF prog f193 (fun _ => none) [.v (some 1), .v (some 1)] = t17_0 := by kernel_rfl

theorem cmpI_neg {a b : Int} : cmpI a b < 0 ↔ a < b := by unfold cmpI; split <;> (try split) <;> omega
theorem nilT {n : Nat} (h : n = 0) : CTy.Sub (.exact (.slice none 0 0)) (dT n) := by
  subst h
  have : dg 0 = [] := digs_zero _
  rw [dT, this]; exact CTy.Sub.nil
theorem dl_one {n : Nat} (h0 : 0 < n) (h : n < 1000000000) : dg n = [n] := by
  rw [dg, digs_pos (by omega) (by omega), Nat.mod_eq_of_lt h, Nat.div_eq_of_lt h, digs_zero]
theorem dl_le {n k : Nat} (h : n < 1000000000 ^ k) : (dg n).length ≤ k := digs_length_le (by omega) h
theorem lt_dl (n : Nat) : n < 1000000000 ^ (dg n).length := lt_pow_digs (by omega) n
theorem dl_ge {n : Nat} (h : n ≠ 0) : 1000000000 ^ ((dg n).length - 1) ≤ n := pow_le_of_digs_length (by omega) h

theorem dg_get {n i : Nat} (h : i < (dg n).length) : (dg n)[i]? = some (n / 1000000000 ^ i % 1000000000) := by
  have e : (dg n)[i]? = (pd 1000000000 (dg n).length n)[i]? := congrArg (fun l : List Nat => l[i]?) (pd_digs (by omega) n)
  rw [e, pd_get _ h]
theorem pow_pred {n : Nat} (h : 0 < n) : 1000000000 ^ (n - 1) * 1000000000 = 1000000000 ^ n := by
  obtain ⟨k, rfl⟩ : ∃ k, n = k + 1 := ⟨n - 1, by omega⟩
  rw [Nat.add_sub_cancel, Nat.pow_succ]

theorem quo_bd {r1 r2 vt : Nat} (h1 : r1 < 1000000000) (h2 : r2 < 1000000000) : (r1 * 1000000000 + r2) / vt < 1000000000000000000 :=
  Nat.lt_of_le_of_lt (Nat.div_le_self _ _) (by omega)
theorem min_cast (q : Nat) : min (q : Int) 999999999 = ((min q 999999999 : Nat) : Int) := by omega
theorem cast_bd {n : Nat} (h : n < 1000000000) : (n : Int) < 4294967296 := by omega
theorem cast_bdw {n : Nat} (h : n < 1000000000000000000) : (n : Int) < 18446744073709551616 := by omega
theorem cast_nn (n : Nat) : (0 : Int) ≤ (n : Int) := Int.natCast_nonneg _
theorem pred2 (i : Nat) : ((i + 1 : Nat) : Int) - 1 - 1 = (i : Int) - 1 := by omega
theorem p_quoN {P : Program} {T U ty : Nat} {x y : Operand} {a b : Nat} {a' : Int} (ha' : a' = a) (hb : 0 < b) (hc : (a / b : Nat) < 1000000000000000000) : PrimOk P (.binOp .quo T x y U) ty [.one (.int .u64 a'), .one (.int .u64 b)] (.one (.int .u64 ((a / b : Nat) : Int))) := by
  subst ha'
  exact p_quo (by omega) (by rw [Int.tdiv_eq_ediv_of_nonneg (cast_nn _), ← Int.natCast_ediv, wu64 (cast_nn _) (cast_bdw hc)])

theorem d_over1 (a b : Nat) (hb0 : 0 < b) (hb : b < 1000000000) (hs : (dg a).length < 549755813888) : Does prog 193 [(mT a : STy), (mT b : STy)] (.ret [mT (a / b), mT (a % b)]) := by
  refine does_of_vc (args := [.v (some 1), .v (some 1)]) (ins := [.v (mT a), .v (mT b)]) (hints := (fun _ => none)) fo (by kernel_rfl) func193 ⟨rfl, rfl, trivial⟩ ?_
  rw [x_over]
  dsimp only [List.map, In.env, c_a, n_a]
  have e1 := dl_one hb0 hb
  refine vcall (d_against a b (by rw [e1]; simp; omega)) rfl ?_
  dsimp only [c_a, n_a]
  refine vn q_lss rfl ?_
  dsimp only [c_a, n_a]
  rw [show decide (cmpI (a : Int) (b : Int) < 0) = decide (a < b) by rw [decide_eq_decide, cmpI_neg]; omega]
  refine vs _ rfl (fun h2 => ?_) (fun h2 => ?_)
  · refine vrets ⟨⟨nilT (Nat.div_eq_of_lt h2), trivial⟩, ⟨?_, trivial⟩, trivial⟩
    rw [Nat.mod_eq_of_lt h2]; exact CTy.Sub.same
  refine vn (p_len el33 (List.length_map _)) rfl ?_
  dsimp only [c_a, n_a]
  refine vn q_eql rfl ?_
  dsimp only [c_a, n_a]
  refine vs _ rfl (fun h6 => ?_) (fun h6 => ?_)
  -- both
  · refine vn (p_idxm el33 (by omega) (by omega) (show (dg b)[0]? = some b by rw [e1]; rfl)) rfl ?_
    dsimp only [c_a, n_a]
    refine vn (p_load1 ag255) rfl ?_
    dsimp only [c_a, n_a]
    refine vcall (d_simple a b hb0 hb (by omega)) rfl ?_
    dsimp only [c_a, n_a]
    exact vret rfl
  exact absurd (by rw [e1]; simp) h6
  -- stop

/-- the quotient's digits that have been made stand from n on -/
structure OvInv (S V L m n : Nat) (os : List Nat) (R : Nat) : Prop where
  le : n ≤ m
  len : os.length = m
  dg : Dg os
  eq : S = R + V * 1000000000 ^ n * lv (os.drop n)
  lt : R / 1000000000 ^ n < V
  fit : R < 1000000000 ^ L
theorem OvInv.next {S V L m n R g : Nat} {os : List Nat} (h : OvInv S V L m (n + 1) os R) (hV : 0 < V) (hg : g = R / 1000000000 ^ n / V) :
    OvInv S V L m n (os.set n g) (R % 1000000000 ^ n + 1000000000 ^ n * (R / 1000000000 ^ n % V)) := by
  obtain ⟨h1, h2, h3, h4⟩ := longd_step (B := 1000000000) (by omega) hV h.eq h.lt
  have hn := h.le
  have hlen := h.len
  subst hg
  refine ⟨by omega, by rw [List.length_set]; exact hlen, h.dg.set h2, ?_, h4, ?_⟩
  · rw [lv_drop (x := R / 1000000000 ^ n / V) (by rw [List.getElem?_set_self (by omega)]), List.drop_set_of_lt (by omega)]
    exact h3
  · refine Nat.lt_of_le_of_lt ?_ h.fit
    have := Nat.mod_add_div R (1000000000 ^ n)
    have h5 := Nat.mul_le_mul_left (1000000000 ^ n) (Nat.mod_le (R / 1000000000 ^ n) V)
    omega

/-- what stands in the rest while multiples are given back -/
def gbv (W X V : Nat) (p : Bool × Nat) : Nat := if p.1 then X % V else X + W - p.2 * V

theorem two_eq {R i nv : Nat} (hnv : 0 < nv) (h : R / 1000000000 ^ (i + nv) < 1000000000) : R / 1000000000 ^ (i + nv) % 1000000000 * 1000000000 + R / 1000000000 ^ (i + nv - 1) % 1000000000 = R / 1000000000 ^ i / 1000000000 ^ (nv - 1) := by
  rw [Nat.mod_eq_of_lt h, Nat.div_div_eq_div_mul, ← Nat.pow_add, show i + (nv - 1) = i + nv - 1 by omega]
  have e : R / 1000000000 ^ (i + nv) = R / 1000000000 ^ (i + nv - 1) / 1000000000 := by
    rw [Nat.div_div_eq_div_mul, ← Nat.pow_succ]; congr 2; omega
  rw [e]
  have := Nat.div_add_mod (R / 1000000000 ^ (i + nv - 1)) 1000000000
  omega

theorem scale_len {b s top : Nat} (hs0 : 0 < s) (hs : s * (top + 1) ≤ 1000000000) (htop : top = b / 1000000000 ^ ((dg b).length - 1)) (hb : b ≠ 0) : (dg (b * s)).length = (dg b).length := by
  have hp : 0 < 1000000000 ^ ((dg b).length - 1) := Nat.pow_pos (by omega)
  have hl : 0 < (dg b).length := by
    rcases Nat.eq_zero_or_pos (dg b).length with h | h
    · exact (hb (dg_nil.1 (List.eq_nil_of_length_eq_zero h))).elim
    · exact h
  apply Nat.le_antisymm
  · apply dl_le
    have h1 : b < (top + 1) * 1000000000 ^ ((dg b).length - 1) := by
      rw [htop, Nat.mul_comm]; exact Nat.lt_mul_div_succ b hp
    calc b * s < (top + 1) * 1000000000 ^ ((dg b).length - 1) * s := Nat.mul_lt_mul_of_pos_right h1 hs0
      _ = s * (top + 1) * 1000000000 ^ ((dg b).length - 1) := by simp only [Nat.mul_comm, Nat.mul_left_comm, Nat.mul_assoc]
      _ ≤ 1000000000 * 1000000000 ^ ((dg b).length - 1) := Nat.mul_le_mul_right _ hs
      _ = 1000000000 ^ (dg b).length := by rw [Nat.mul_comm, ← Nat.pow_succ]; congr 1; omega
  · exact dl_mono (Nat.le_mul_of_pos_right b hs0)

set_option maxHeartbeats 1000000 in
theorem d_over (a b : Nat) (hb0 : 0 < b) (hs : (dg a).length + (dg b).length < 274877906944) : Does prog 193 [(mT a : STy), (mT b : STy)] (.ret [mT (a / b), mT (a % b)]) := by
  refine does_of_vc (args := [.v (some 1), .v (some 1)]) (ins := [.v (mT a), .v (mT b)]) (hints := (fun _ => none)) fo (by kernel_rfl) func193 ⟨rfl, rfl, trivial⟩ ?_
  rw [x_over]
  dsimp only [List.map, In.env, c_a, n_a]
  refine vcall (d_against a b (by omega)) rfl ?_
  dsimp only [c_a, n_a]
  refine vn q_lss rfl ?_
  dsimp only [c_a, n_a]
  rw [show decide (cmpI (a : Int) (b : Int) < 0) = decide (a < b) by rw [decide_eq_decide, cmpI_neg]; omega]
  refine vs _ rfl (fun h2 => ?_) (fun h2 => ?_)
  · refine vrets ⟨⟨nilT (Nat.div_eq_of_lt h2), trivial⟩, ⟨?_, trivial⟩, trivial⟩
    rw [Nat.mod_eq_of_lt h2]; exact CTy.Sub.same
  have hbl : 0 < (dg b).length := by
    rcases Nat.eq_zero_or_pos (dg b).length with h | h
    · exact (Nat.ne_of_gt hb0 (dg_nil.1 (List.eq_nil_of_length_eq_zero h))).elim
    · exact h
  have hlen := dl_mono (Nat.le_of_not_lt h2)
  refine vn (p_len el33 (List.length_map _)) rfl ?_
  dsimp only [c_a, n_a]
  refine vn q_eql rfl ?_
  dsimp only [c_a, n_a]
  refine vs _ rfl (fun h6 => ?_) (fun h6 => ?_)
  · have hb : b < 1000000000 := by
      have := lt_dl b
      rw [show (dg b).length = 1 by omega] at this; omega
    have e1 := dl_one hb0 hb
    refine vn (p_idxm el33 (by omega) (by omega) (show (dg b)[0]? = some b by rw [e1]; rfl)) rfl ?_
    dsimp only [c_a, n_a]
    refine vn (p_load1 ag255) rfl ?_
    dsimp only [c_a, n_a]
    refine vcall (d_simple a b hb0 hb (by omega)) rfl ?_
    dsimp only [c_a, n_a]
    exact vret rfl
  obtain ⟨top, htop⟩ : ∃ t, (dg b)[(dg b).length - 1]? = some t := ⟨_, List.getElem?_eq_getElem (by omega)⟩
  have htB := (dg_dg b).get htop
  have htv : top = b / 1000000000 ^ ((dg b).length - 1) := by
    have h1 := dg_get (n := b) (i := (dg b).length - 1) (by omega)
    rw [htop] at h1
    simp only [Option.some.injEq] at h1
    rw [h1, Nat.mod_eq_of_lt]
    rw [Nat.div_lt_iff_lt_mul (Nat.pow_pos (by omega)), Nat.mul_comm, pow_pred hbl]
    exact lt_dl b
  have ht0 : 0 < top := by
    rw [htv]; exact Nat.div_pos (dl_ge (by omega)) (Nat.pow_pos (by omega))
  obtain ⟨s, hs'⟩ : ∃ s, 1000000000 / (top + 1) = s := ⟨_, rfl⟩
  have hsle : s * (top + 1) ≤ 1000000000 := by rw [← hs']; exact Nat.div_mul_le_self _ _
  have hs0 : 0 < s := by rw [← hs']; exact Nat.div_pos (by omega) (by omega)
  have hsB : s < 1000000000 := by
    rw [← hs']; exact Nat.div_lt_self (by omega) (by omega)
  have hvl := scale_len hs0 hsle htv (by omega)
  refine vn (p_len el33 (List.length_map _)) rfl ?_
  dsimp only [c_a, n_a]
  refine vn (p_sub_i64 (by omega) (by omega)) rfl ?_
  dsimp only [c_a, n_a]
  refine vn (p_idxm el33 (by omega) (by omega) htop) rfl ?_
  dsimp only [c_a, n_a]
  refine vn (p_load1 ag255) rfl ?_
  dsimp only [c_a, n_a]
  refine vn (p_add_u32 (by omega) (by omega)) rfl ?_
  dsimp only [c_a, n_a]
  refine vn (p_quo (c := (s : Int)) (by omega) (by rw [Int.tdiv_eq_ediv_of_nonneg (by omega), show ((1000000000 : Int) / ((top : Int) + 1)) = ((1000000000 / (top + 1) : Nat) : Int) by simp, hs', wu32] <;> omega)) rfl ?_
  dsimp only [c_a, n_a]
  refine vn (p_cv_u64 ⟨_, un255⟩ un254 (by omega) (by omega)) rfl ?_
  dsimp only [c_a, n_a]
  refine vcall (d_small s (by omega)) rfl ?_
  dsimp only [c_a, n_a]
  refine vcall (d_times b s (by rw [dl_one hs0 hsB]; simp; omega)) rfl ?_
  -- V = b s, S = a s
  obtain ⟨V, hV⟩ : ∃ V, b * s = V := ⟨_, rfl⟩
  obtain ⟨S, hS⟩ : ∃ S, a * s = S := ⟨_, rfl⟩
  rw [hV] at hvl ⊢
  have hV0 : 0 < V := by rw [← hV]; exact Nat.mul_pos hb0 hs0
  dsimp only [c_a, n_a]
  refine vn (p_len el33 (List.length_map _)) rfl ?_
  dsimp only [c_a, n_a]
  refine vn (p_len el33 (List.length_map _)) rfl ?_
  dsimp only [c_a, n_a]
  refine vn (p_add_i64 (by omega) (by omega)) rfl ?_
  dsimp only [c_a, n_a]
  refine vmakem (n := (dg a).length + 1) (f := fun d : Nat => [CTy.int .u32 (d : Int)]) 0 rfl rfl (by omega) rfl (by omega) (by simp only [maxLen]; omega) ?_
  dsimp only [c_a, n_a]
  refine vcall (d_times a s (by rw [dl_one hs0 hsB]; simp; omega)) rfl ?_
  rw [hS]
  have hSlt : S < 1000000000 ^ ((dg a).length + 1) := by
    rw [← hS, Nat.pow_succ]; exact Nat.mul_lt_mul'' (lt_dl a) hsB
  have hSle := dl_le hSlt
  have hSV : S < V * 1000000000 ^ ((dg a).length + 1 - (dg b).length) := by
    rw [← hS, ← hV]
    have h1 := lt_dl a
    have h2 := dl_ge (n := b) (by omega)
    have h3 : 1000000000 ^ (dg a).length ≤ b * 1000000000 ^ ((dg a).length + 1 - (dg b).length) := by
      refine Nat.le_trans (Nat.le_of_eq ?_) (Nat.mul_le_mul_right _ h2)
      rw [← Nat.pow_add]; congr 1; omega
    calc a * s < b * 1000000000 ^ ((dg a).length + 1 - (dg b).length) * s := Nat.mul_lt_mul_of_pos_right (Nat.lt_of_lt_of_le h1 h3) hs0
      _ = _ := by simp only [Nat.mul_comm, Nat.mul_left_comm, Nat.mul_assoc]
  obtain ⟨L, hL⟩ : ∃ L, (dg a).length + 1 = L := ⟨_, rfl⟩
  rw [hL] at hSlt hSle hSV
  dsimp only [c_a, n_a]
  refine vcopym (xs := dg S) (zs := List.replicate ((dg a).length + 1) 0) (ws := pd 1000000000 L S) (fun _ => rfl) rfl rfl el33 (by simp; omega) (by simp) (pd_of (by omega) ((DB.digs (by omega) S).append ((DB.rep (by omega) _).drop _)) (by simp only [List.length_append, List.length_drop, List.length_replicate]; show (dg S).length + _ = _; omega) (by rw [List.drop_replicate, val_append, val_rep]; show lv (dg S) + _ = _; rw [lv_dg, Nat.mul_zero, Nat.add_zero])) ?_
  dsimp only [c_a, n_a]
  refine vlen (n := L) rfl (by simp) ?_
  dsimp only [c_a, n_a]
  refine vn (p_sub_i64 (by omega) (by omega)) rfl ?_
  dsimp only [c_a, n_a]
  refine vmakem (n := L - (dg b).length) (f := fun d : Nat => [CTy.int .u32 (d : Int)]) 0 rfl rfl (by rw [hvl]; omega) rfl (by omega) (by simp only [maxLen]; omega) ?_
  dsimp only [c_a, n_a]
  refine vlen (n := L - (dg b).length) rfl (by simp) ?_
  dsimp only [c_a, n_a]
  refine vn (p_sub_i64 (by omega) (by omega)) rfl ?_
  dsimp only [c_a, n_a]
  obtain ⟨m, hm⟩ : ∃ m, L - (dg b).length = m := ⟨_, rfl⟩
  rw [hm] at hSV ⊢
  rw [hvl]
  obtain ⟨nv, hnv⟩ : ∃ n, (dg b).length = n := ⟨_, rfl⟩
  rw [hnv] at hvl htv htop hbl hlen hm hs ⊢
  refine vloop {g : Nat × List Nat × Nat // OvInv S V L m g.1 g.2.1 g.2.2} (fun g => [.one (.int .i64 ((g.1.1 : Int) - 1)), .rows (rT g.1.2.1), .rows (rT (pd 1000000000 L g.1.2.2))]) (fun g => g.1.1) ⟨(m, List.replicate m 0, S), ⟨Nat.le_refl _, by simp, Dg.rep _, by simp [lv, val], by rw [Nat.div_lt_iff_lt_mul (Nat.pow_pos (by omega))]; exact hSV, hSlt⟩⟩ SubL.rfl (fun _ => rfl) ?_
  rintro ⟨⟨n, os, R⟩, hI⟩
  dsimp only [c_a, n_a] at hI ⊢
  have hnm := hI.le
  have hol := hI.len
  have hfit := hI.fit
  have hLs : L < 549755813888 := by omega
  have hnvL : nv < L := by omega
  refine vn q_geq rfl ?_
  dsimp only [c_a, n_a]
  refine vs _ rfl (fun h33 => ?_) (fun h33 => ?_)
  · clear htop htB htv ht0 hs' hsle hSV hSlt hSle hs hlen hL hnv h2 h6 hS hV hsB hs0
    obtain ⟨i, rfl⟩ : ∃ i, n = i + 1 := ⟨n - 1, by omega⟩
    obtain ⟨hX1, hX2, _, _⟩ := longd_step (B := 1000000000) (by omega) hV0 hI.eq hI.lt
    obtain ⟨X, hX⟩ : ∃ X, R / 1000000000 ^ i = X := ⟨_, rfl⟩
    have hVlt : V < 1000000000 ^ nv := by rw [← hvl]; exact lt_dl V
    have hXlt : X < 1000000000 ^ (nv + 1) := by
      rw [Nat.pow_succ, ← hX]
      exact Nat.lt_trans hX1 (Nat.mul_lt_mul_of_pos_right hVlt (by omega))
    have hRtop : R / 1000000000 ^ (i + (nv + 1)) = 0 := by
      rw [Nat.pow_add, ← Nat.div_div_eq_div_mul, hX]
      exact Nat.div_eq_of_lt hXlt
    have hRnv : R / 1000000000 ^ (i + nv) < 1000000000 := by
      rw [Nat.pow_add, ← Nat.div_div_eq_div_mul, hX, Nat.div_lt_iff_lt_mul (Nat.pow_pos (by omega)), Nat.mul_comm, ← Nat.pow_succ]
      exact hXlt
    have htwo := two_eq hbl hRnv
    rw [hX] at htwo hX1 hX2
    obtain ⟨r1, hr1⟩ : ∃ r, R / 1000000000 ^ (i + nv) % 1000000000 = r := ⟨_, rfl⟩
    obtain ⟨r2, hr2⟩ : ∃ r, R / 1000000000 ^ (i + nv - 1) % 1000000000 = r := ⟨_, rfl⟩
    have hr1B : r1 < 1000000000 := by rw [← hr1]; exact Nat.mod_lt _ (by omega)
    have hr2B : r2 < 1000000000 := by rw [← hr2]; exact Nat.mod_lt _ (by omega)
    have hg1 : (pd 1000000000 L R)[i + nv]? = some r1 := by rw [pd_get _ (by omega), hr1]
    have hg2 : (pd 1000000000 L R)[i + nv - 1]? = some r2 := by rw [pd_get _ (by omega), hr2]
    rw [hr1, hr2] at htwo
    obtain ⟨vt, hvt⟩ : ∃ t, V / 1000000000 ^ (nv - 1) = t := ⟨_, rfl⟩
    have hvtB : vt < 1000000000 := by
      rw [← hvt, Nat.div_lt_iff_lt_mul (Nat.pow_pos (by omega)), Nat.mul_comm, pow_pred hbl]; exact hVlt
    have hvt0 : 0 < vt := by
      have := dl_ge (n := V) (by omega)
      rw [hvl] at this
      rw [← hvt]; exact Nat.div_pos this (Nat.pow_pos (by omega))
    have hgv : (dg V)[nv - 1]? = some vt := by
      rw [dg_get (by omega), hvt, Nat.mod_eq_of_lt hvtB]
    obtain ⟨g, hg⟩ : ∃ g, min ((r1 * 1000000000 + r2) / vt) 999999999 = g := ⟨_, rfl⟩
    have hgB : g < 1000000000 := by rw [← hg]; exact Nat.lt_of_le_of_lt (Nat.min_le_right _ _) (by decide)
    have hgq : X / V ≤ g := by
      rw [← hg]
      have h1 := guess_ge (B := 1000000000) (X := X) (V := V) (n := nv - 1) (by rw [hvt]; exact hvt0)
      rw [hvt, ← htwo] at h1
      exact Nat.le_min.2 ⟨h1, Nat.le_of_lt_succ hX2⟩
    have hpdl : (pd 1000000000 L R).length = L := pd_length _ _
    refine vn (p_add_i64 (by omega) (by omega)) rfl ?_
    dsimp only [c_a, n_a]
    refine vidxm rfl rfl (by omega) (by rw [pd_length]; omega) ?_
    refine vldm1 rfl rfl (by omega) (by omega) hg1 rfl ?_
    dsimp only [c_a, n_a]
    refine vn (p_cv_u64 ⟨_, un255⟩ un254 (by omega) (by omega)) rfl ?_
    dsimp only [c_a, n_a]
    refine vn (p_mul_u64 (by omega) (by omega)) rfl ?_
    dsimp only [c_a, n_a]
    refine vn (p_add_i64 (by omega) (by omega)) rfl ?_
    dsimp only [c_a, n_a]
    refine vn (p_sub_i64 (by omega) (by omega)) rfl ?_
    dsimp only [c_a, n_a]
    refine vidxm rfl rfl (by omega) (by rw [pd_length]; omega) ?_
    refine vldm1 rfl rfl (by omega) (by omega) hg2 rfl ?_
    dsimp only [c_a, n_a]
    refine vn (p_cv_u64 ⟨_, un255⟩ un254 (by omega) (by omega)) rfl ?_
    dsimp only [c_a, n_a]
    refine vn (p_add_u64 (by omega) (by omega)) rfl ?_
    dsimp only [c_a, n_a]
    refine vn (p_sub_i64 (by omega) (by omega)) rfl ?_
    dsimp only [c_a, n_a]
    refine vn (p_idxm el33 (by omega) (by omega) hgv) rfl ?_
    dsimp only [c_a, n_a]
    refine vn (p_load1 ag255) rfl ?_
    dsimp only [c_a, n_a]
    refine vn (p_cv_u64 ⟨_, un255⟩ un254 (by omega) (by omega)) rfl ?_
    dsimp only [c_a, n_a]
    refine vn (p_quoN (a := r1 * 1000000000 + r2) (by rw [Int.natCast_add, Int.natCast_mul]; rfl) hvt0 (quo_bd hr1B hr2B)) rfl ?_
    dsimp only [c_a, n_a]
    refine vn p_min rfl ?_
    dsimp only [c_a, n_a]
    rw [min_cast, hg]
    refine vn (p_add_i64 (by omega) (by omega)) rfl ?_
    dsimp only [c_a, n_a]
    refine vn (p_add_i64 (by omega) (by omega)) rfl ?_
    dsimp only [c_a, n_a]
    refine vn (p_add_i64 (by omega) (by omega)) rfl ?_
    dsimp only [c_a, n_a]
    refine vn (p_add_i64 (by omega) (by omega)) rfl ?_
    dsimp only [c_a, n_a]
    refine vview (n := i) (m := i + nv + 1) rfl (by show CTy.int .i64 _ = CTy.int .i64 _; congr 1; omega) (by show CTy.int .i64 _ = CTy.int .i64 _; congr 1; omega) (by show CTy.int .i64 _ = CTy.int .i64 _; congr 1; omega) (by omega) (by simp; omega) ?_
    have hgV : g * V < 1000000000 ^ (nv + 1) := by
      rw [Nat.pow_succ, Nat.mul_comm (1000000000 ^ nv)]
      exact Nat.lt_of_lt_of_le (Nat.mul_lt_mul_of_pos_right (by omega : g < 1000000000) hV0) (Nat.mul_le_mul_left _ (Nat.le_of_lt hVlt))
    have hview : ∀ Y, Y < 1000000000 ^ (nv + 1) → ((rT (pd 1000000000 L (R % 1000000000 ^ i + 1000000000 ^ i * Y))).take (i + nv + 1)).drop i = rT (pd 1000000000 (nv + 1) Y) := by
      intro Y hY
      rw [rT, rT, ← List.map_take, ← List.map_drop, pd_take _ (by omega), pd_drop, show i + nv + 1 - i = nv + 1 by omega]
      congr 2
      rw [Nat.add_mul_div_left _ _ (Nat.pow_pos (by omega)), Nat.div_eq_of_lt (Nat.mod_lt _ (Nat.pow_pos (by omega))), Nat.zero_add]
    have hfitY : ∀ Y, Y < 1000000000 ^ (nv + 1) → R % 1000000000 ^ i + 1000000000 ^ i * Y < 1000000000 ^ L := by
      intro Y hY
      have h1 : R % 1000000000 ^ i < 1000000000 ^ i := Nat.mod_lt _ (Nat.pow_pos (by omega))
      have h2 : 1000000000 ^ i * (Y + 1) ≤ 1000000000 ^ i * 1000000000 ^ (nv + 1) := Nat.mul_le_mul_left _ hY
      rw [← Nat.pow_add] at h2
      have h3 : 1000000000 ^ (i + (nv + 1)) ≤ 1000000000 ^ L := Nat.pow_le_pow_right (by omega) (by omega)
      rw [Nat.mul_add, Nat.mul_one] at h2
      omega
    have hput : ∀ Y Z, Y < 1000000000 ^ (nv + 1) → Z < 1000000000 ^ (nv + 1) → (rT (pd 1000000000 L (R % 1000000000 ^ i + 1000000000 ^ i * Y))).take i ++ rT (pd 1000000000 (nv + 1) Z) ++ (rT (pd 1000000000 L (R % 1000000000 ^ i + 1000000000 ^ i * Y))).drop (i + (rT (pd 1000000000 (nv + 1) Y)).length) = rT (pd 1000000000 L (R % 1000000000 ^ i + 1000000000 ^ i * Z)) := by
      intro Y Z hY hZ
      have hp : 0 < 1000000000 ^ i := Nat.pow_pos (by omega)
      have hm : R % 1000000000 ^ i < 1000000000 ^ i := Nat.mod_lt _ hp
      rw [rT_len, pd_length, rT, rT, rT, ← List.map_take, ← List.map_drop, ← List.map_append, ← List.map_append, pd_splice (by omega) (by omega) (hfitY Y hY) hZ]
      have e : (R % 1000000000 ^ i + 1000000000 ^ i * Y) / 1000000000 ^ (i + (nv + 1)) = 0 := by
        rw [Nat.pow_add 1000000000 i, ← Nat.div_div_eq_div_mul, Nat.add_mul_div_left _ _ hp, Nat.div_eq_of_lt hm, Nat.zero_add]; exact Nat.div_eq_of_lt hY
      rw [e, Nat.add_mul_mod_self_left, Nat.mod_eq_of_lt hm, Nat.mul_zero, Nat.add_zero]
    have hRX : R = R % 1000000000 ^ i + 1000000000 ^ i * X := by rw [← hX]; exact (Nat.mod_add_div _ _).symm
    have hsub := d_subtract (pd 1000000000 (nv + 1) X) (dg V) g (pd_lt (by omega) _ _) (dg_dg V) hgB (by rw [pd_length]; omega) (by rw [pd_length]; omega)
    have hlvX : ∀ Y, Y < 1000000000 ^ (nv + 1) → lv (pd 1000000000 (nv + 1) Y) = Y := fun Y hY => by rw [lv, val_pd, Nat.mod_eq_of_lt hY]
    rw [hlvX X hXlt, lv_dg, pd_length] at hsub
    have hgive : ∀ Y, Y < 1000000000 ^ (nv + 1) → DoesRow prog 252 255 1 [] [.one (.slice 1 (rT (dg V)))] (rT (pd 1000000000 (nv + 1) Y)) [.one (.bool (decide (1000000000 ^ (nv + 1) ≤ Y + V)))] (rT (pd 1000000000 (nv + 1) (Y + V - 1000000000 ^ (nv + 1) * (if 1000000000 ^ (nv + 1) ≤ Y + V then 1 else 0)))) := by
      intro Y hY
      have h1 := d_giveBack (pd 1000000000 (nv + 1) Y) (dg V) (pd_lt (by omega) _ _) (dg_dg V) (by rw [pd_length]; omega) (by rw [pd_length]; omega)
      rw [hlvX Y hY, lv_dg, pd_length] at h1
      exact h1
    have hok : os[i]? = some (os[i]'(by omega)) := List.getElem?_eq_getElem (by omega)
    have hVB : V < 1000000000 ^ (nv + 1) := Nat.lt_of_lt_of_le hVlt (Nat.pow_le_pow_right (by omega) (by omega))
    have hXV : X % V < 1000000000 ^ (nv + 1) := Nat.lt_trans (Nat.mod_lt _ hV0) hVB
    have hN : OvInv S V L m i (os.set i (X / V)) (R % 1000000000 ^ i + 1000000000 ^ i * (X % V)) := by
      have := hI.next hV0 rfl
      rw [hX] at this; exact this
    clear hI htwo hg hr1 hr2 hg1 hg2 hvt hgv hvt0 hvtB hX hRnv hRtop hr1B hr2B hpdl hlvX hfit
    refine vrop (n := i) (vs := rT (pd 1000000000 L (R % 1000000000 ^ i + 1000000000 ^ i * (X + 1000000000 ^ (nv + 1) * (if X < g * V then 1 else 0) - g * V)))) (ts := rT (pd 1000000000 L R)) (us := rT (pd 1000000000 (nv + 1) X)) rfl ⟨.i64, .i64, i + nv + 1, (by show CTy.int .i64 _ = CTy.int .i64 _; congr 1; omega), (by show CTy.int .i64 _ = CTy.int .i64 _; congr 1; omega), by omega, by simp; omega, by rw [← hview X hXlt, ← hRX]⟩ (by simp [pd]) rfl (row_call rfl hsub) (by
      conv => lhs; rw [hRX]
      exact hput X _ hXlt (by split <;> omega)) ?_
    dsimp only [c_a, n_a]
    refine vs _ rfl (fun h57 => ?_) (fun h57 => ?_)
    · refine vloop {p : Bool × Nat // if p.1 then p.2 = X / V else X < p.2 * V ∧ p.2 < 1000000000} (fun p => [.one (.bool p.1.1), .one (.int .u64 p.1.2), .rows (rT (pd 1000000000 L (R % 1000000000 ^ i + 1000000000 ^ i * gbv (1000000000 ^ (nv + 1)) X V p.1)))]) (fun p => if p.1.1 then 0 else p.1.2 + 1) ⟨(false, g), by simp only [Bool.false_eq_true, if_false]; exact ⟨h57, hgB⟩⟩ ⟨STy.Sub.same, STy.Sub.same, STy.Sub.of_eq (congrArg (fun y => STy.rows (rT (pd 1000000000 L (R % 1000000000 ^ i + 1000000000 ^ i * y)))) (by simp only [gbv, Bool.false_eq_true, if_false]; rw [if_pos h57, Nat.mul_one])), trivial⟩ (fun _ => rfl) ?_
      rintro ⟨⟨made, g'⟩, hp⟩
      dsimp only [c_a, n_a] at hp ⊢
      refine vn p_not rfl ?_
      dsimp only [c_a, n_a]
      refine vsb (!made) rfl (fun h60 => ?_) (fun h60 => ?_)
      -- both
      · have hmd : made = false := by simpa using h60
        subst hmd
        simp only [Bool.false_eq_true, if_false] at hp
        have hgV' : g' * V < 1000000000 ^ (nv + 1) := by
          rw [Nat.pow_succ, Nat.mul_comm (1000000000 ^ nv)]
          exact Nat.lt_of_lt_of_le (Nat.mul_lt_mul_of_pos_right (by omega : g' < 1000000000) hV0) (Nat.mul_le_mul_left _ (Nat.le_of_lt hVlt))
        have hg0 : 0 < g' := by
          rcases Nat.eq_zero_or_pos g' with h | h
          · rw [h] at hp; omega
          · exact h
        have hgm : (g' - 1) * V + V = g' * V := by
          obtain ⟨k, rfl⟩ : ∃ k, g' = k + 1 := ⟨g' - 1, by omega⟩
          rw [Nat.add_sub_cancel, Nat.add_mul, Nat.one_mul]
        obtain ⟨W, hW⟩ : ∃ W, 1000000000 ^ (nv + 1) = W := ⟨_, rfl⟩
        have hYe : gbv W X V (false, g') = X + W - g' * V := by simp [gbv]
        have hnew : X + W - g' * V + V - W * (if W ≤ X + W - g' * V + V then 1 else 0) = gbv W X V (decide (W ≤ X + W - g' * V + V), g' - 1) := by
          rw [hW] at hgV' hXlt
          by_cases hc : W ≤ X + W - g' * V + V
          · rw [if_pos hc, Nat.mul_one]
            simp only [gbv, hc, decide_true, if_true]
            have hq : X / V = g' - 1 := div_of_range hV0 (by omega) (by rw [show g' - 1 + 1 = g' by omega]; exact hp.1)
            have h1 := Nat.mod_add_div X V
            rw [hq, Nat.mul_comm] at h1
            omega
          · rw [if_neg hc, Nat.mul_zero]
            simp only [gbv, hc, decide_false, Bool.false_eq_true, if_false]
            omega
        rw [hW] at hview hput hgive hXlt hgV'
        have hYlt : X + W - g' * V < W := by omega
        have hput1 := hput (X + W - g' * V) (X + W - g' * V + V - W * (if W ≤ X + W - g' * V + V then 1 else 0)) hYlt (by split <;> omega)
        rw [hnew] at hput1
        rw [hW, hYe]
        refine vrop (n := i) (ts := rT (pd 1000000000 L (R % 1000000000 ^ i + 1000000000 ^ i * (X + W - g' * V)))) (us := rT (pd 1000000000 (nv + 1) (X + W - g' * V))) (us' := rT (pd 1000000000 (nv + 1) (gbv W X V (decide (W ≤ X + W - g' * V + V), g' - 1)))) rfl ⟨.i64, .i64, i + nv + 1, (by show CTy.int .i64 _ = CTy.int .i64 _; congr 1; omega), (by show CTy.int .i64 _ = CTy.int .i64 _; congr 1; omega), by omega, by simp; omega, (hview _ hYlt).symm⟩ (by simp [pd]) rfl (row_call rfl (hnew ▸ hgive _ hYlt)) hput1 ?_
        dsimp only [c_a, n_a]
        refine vn (p_sub_u64 (by omega) (by omega)) rfl ?_
        dsimp only [c_a, n_a]
        have hg1' : (g' : Int) - 1 = ((g' - 1 : Nat) : Int) := by clear hN hput hview hgive hfitY; omega
        refine vback rfl ⟨⟨(decide (W ≤ X + W - g' * V + V), g' - 1), ?_⟩, ⟨STy.Sub.same, STy.Sub.of_eq (congrArg (fun q => STy.one (CTy.int .u64 q)) hg1'), STy.Sub.of_eq ?_, trivial⟩, ?_⟩
        · by_cases hc : W ≤ X + W - g' * V + V
          · simp only [hc, decide_true, if_true]
            exact (div_of_range hV0 (by omega) (by rw [show g' - 1 + 1 = g' by omega]; exact hp.1)).symm
          · simp only [hc, decide_false, Bool.false_eq_true, if_false]
            omega
        · dsimp only
          rfl
        · dsimp only
          by_cases hc : W ≤ X + W - g' * V + V
          · simp [hc]
          · simp [hc]; omega
      have hmd : made = true := by simpa using h60
      subst hmd
      simp only [if_true] at hp
      subst hp
      simp only [gbv, if_true]
      refine vn (p_cv_u32 ⟨_, un254⟩ un255 (cast_nn _) (cast_bd hX2)) rfl ?_
      dsimp only [c_a, n_a]
      refine vidxm rfl rfl (by omega) (by omega) ?_
      refine vstm (d' := X / V) rfl rfl (by omega) (by omega) hok rfl ?_
      dsimp only [c_a, n_a]
      refine vn (p_sub_i64 (by omega) (by omega)) rfl ?_
      dsimp only [c_a, n_a]
      exact vback rfl ⟨⟨(i, os.set i (X / V), R % 1000000000 ^ i + 1000000000 ^ i * (X % V)), hN⟩, ⟨STy.Sub.of_eq (congrArg (fun q => STy.one (CTy.int .i64 q)) (pred2 i)), STy.Sub.same, STy.Sub.same, trivial⟩, by show i < i + 1; omega⟩
    have hq : X / V = g := Nat.le_antisymm hgq (by rw [Nat.le_div_iff_mul_le hV0]; omega)
    have hmod : X + 1000000000 ^ (nv + 1) * (if X < g * V then 1 else 0) - g * V = X % V := by
      rw [if_neg h57, Nat.mul_zero, Nat.add_zero]
      have h1 := Nat.mod_add_div X V
      rw [hq, Nat.mul_comm] at h1
      omega
    rw [hmod]
    rw [hq] at hN
    refine vn (p_cv_u32 ⟨_, un254⟩ un255 (cast_nn _) (cast_bd hgB)) rfl ?_
    dsimp only [c_a, n_a]
    refine vidxm rfl rfl (by omega) (by omega) ?_
    refine vstm (d' := g) rfl rfl (by omega) (by omega) hok rfl ?_
    dsimp only [c_a, n_a]
    refine vn (p_sub_i64 (by omega) (by omega)) rfl ?_
    dsimp only [c_a, n_a]
    exact vback rfl ⟨⟨(i, os.set i g, R % 1000000000 ^ i + 1000000000 ^ i * (X % V)), hN⟩, ⟨STy.Sub.of_eq (congrArg (fun q => STy.one (CTy.int .i64 q)) (pred2 i)), STy.Sub.same, STy.Sub.same, trivial⟩, by show i < i + 1; omega⟩
  have hn0 : n = 0 := by omega
  subst hn0
  have heq := hI.eq
  have hlt := hI.lt
  rw [List.drop_zero, Nat.pow_zero, Nat.mul_one] at heq
  rw [Nat.pow_zero, Nat.div_one] at hlt
  obtain ⟨hQ, hR⟩ := longd_end heq hlt
  have hQ2 : lv os = a / b := by rw [hQ, ← hS, ← hV, Nat.mul_div_mul_right _ _ hs0]
  have hR2 : R = a % b * s := by rw [hR, ← hS, ← hV, Nat.mul_mod_mul_right]
  refine vcall (d_trimmed (pd 1000000000 L R) (pd_lt (by omega) _ _) (by rw [pd_length]; omega)) rfl ?_
  rw [show lv (pd 1000000000 L R) = R by rw [lv, val_pd, Nat.mod_eq_of_lt hfit]]
  dsimp only [c_a, n_a]
  refine vcall (d_over1 R s hs0 hsB (by have := dl_le hfit; omega)) rfl ?_
  dsimp only [c_a, n_a]
  refine vcall (d_trimmed os hI.dg (by omega)) rfl ?_
  dsimp only [c_a, n_a]
  refine vret ?_
  rw [hQ2, hR2, Nat.mul_div_cancel _ hs0]
  rfl
end Go.Sy
