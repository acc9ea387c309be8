/- The reference's integers: digits to the base 2^15, the highest first. The reference's integers: the operations.
-/
import Derived.Test.YtdmcadckdnnglaaGreatDoorNc
import Derived.Test.YtdmcadckdnnglaaGreatDoorPa
set_option linter.unusedVariables false
set_option linter.unusedSimpArgs false
namespace Go.Sy
open Go Go.Proofs Tryz Ord
def KU : Tr := .ret [(W 1 0)]
def UE : Tr := .split (.u 3 0) (.need (.prim [(W 1 0), (WK (0))] none) (.indexAddr 45 (.tmp 7) (.const (I3 (0)))) 0 false (.need (.prim [(W 4 0)] none) (.load 3 (.tmp 8)) 3 false (.need (.prim [(W 5 0), (WK (0))] none) (.binOp .eql 3 (.tmp 9) (.const (I3 (0))) 3) 4 false (.split (.u 6 0) (.need (.prim [(W 1 0), (WK (1))] none) (.slice 45 (.tmp 12) (some (.const (I3 (1)))) none none) 45 false (.back 0 [(.w (W 7 0))])) KU)))) KU
def VO : Tr := .loop 0 [(.w (W 0 0))] (.need (.prim [(W 1 0)] none) (.call ⟨.builtin .len, #[(.tmp 3)], #[45]⟩) 3 false (.need (.prim [(W 2 0), (WK (0))] none) (.binOp .gtr 3 (.tmp 4) (.const (I3 (0))) 3) 4 false UE))
theorem IJ : aM prog f260 (fun _ => none) [.v none] = VO := by kernel_rfl
def VF : Tr := .need (.call 260 [(W 1 0)] [none]) (.call ⟨.value (.func 260), #[(.tmp 5)], #[45]⟩) 45 true (.need (.prim [(W 2 0)] none) (.call ⟨.builtin .len, #[(.tmp 7)], #[45]⟩) 3 false (.need (.prim [(W 3 0), (WK (0))] none) (.binOp .eql 3 (.tmp 8) (.const (I3 (0))) 3) 4 false (.split (.u 4 0) (.ret [(.agg [(.c (.k (.int .i64 (0)))), (.c (.k (.slice none 0 0)))])]) (.ret [(.agg [(U 0 0), (U 2 0)])]))))
theorem NQ : aM prog f211 (fun _ => none) [.v none, .v none] = VF := by kernel_rfl
def WH : Tr := .need (.prim [(W 5 0), (WK (0))] none) (.binOp .lss 3 (.tmp 12) (.const (I3 (0))) 3) 4 false (.split (.u 6 0) (.need (.prim [(W 5 0)] none) (.unOp .neg 3 (.tmp 14)) 3 false (.need (.lit 1 [[(.u 7 0)]]) (.buildSlice 45 1 #[(0, (.tmp 16))]) 45 false (.need (.app 1 8 (some 8) none (some 3)) (.call ⟨.builtin .append, #[(.tmp 17), (.tmp 18)], #[45, 45]⟩) 45 false (.need (.prim [(W 2 0), (WK (32768))] none) (.binOp .quo 2 (.tmp 20) (.const (I3 (32768))) 2) 2 false (.back 0 [(.w (W 10 0)), (.row 9)]))))) (.need (.lit 1 [[(.u 5 0)]]) (.buildSlice 45 1 #[(0, (.tmp 16))]) 45 false (.need (.app 1 8 (some 7) none (some 3)) (.call ⟨.builtin .append, #[(.tmp 17), (.tmp 18)], #[45, 45]⟩) 45 false (.need (.prim [(W 2 0), (WK (32768))] none) (.binOp .quo 2 (.tmp 20) (.const (I3 (32768))) 2) 2 false (.back 0 [(.w (W 9 0)), (.row 8)])))))
def PL : Tr := .need (.prim [(W 2 0), (WK (32768))] none) (.binOp .rem 2 (.tmp 10) (.const (I3 (32768))) 2) 2 false WH
def IB : Tr := .ret [(.agg [(U 5 0), (U 5 1)])]
def Wr : Tr := .need (.prim [(W 0 0), (WK (0))] none) (.binOp .lss 2 (.tmp 6) (.const (I3 (0))) 2) 4 false (.split (.u 1 0) (.loop 0 [(.w (W 0 0)), .nilrow] (.need (.prim [(W 2 0), (WK (0))] none) (.binOp .neq 2 (.tmp 8) (.const (I3 (0))) 2) 4 false (.split (.u 4 0) PL (.need (.call 211 [(WK (-1)), (.one (.c (.sr 1 3)))] [(some 2)]) (.call ⟨.value (.func 211), #[(.tmp 22), (.tmp 23)], #[3, 45]⟩) 47 true IB)))) (.loop 0 [(.w (W 0 0)), .nilrow] (.need (.prim [(W 2 0), (WK (0))] none) (.binOp .neq 2 (.tmp 8) (.const (I3 (0))) 2) 4 false (.split (.u 4 0) PL (.need (.call 211 [(WK (1)), (.one (.c (.sr 1 3)))] [(some 2)]) (.call ⟨.value (.func 211), #[(.tmp 22), (.tmp 23)], #[3, 45]⟩) 47 true IB)))))
theorem Oy : aM prog f139 (fun _ => none) [.v none] = Wr := by kernel_rfl
def Pj : Tr := .ret [(WK (-1))]
def Px : Tr := .ret [(WK (1))]
def TT : Tr := .need (.prim [(W 14 0)] none) (.load 3 (.tmp 33)) 3 false (.need (.prim [(W 1 0), (W 6 0)] none) (.indexAddr 45 (.tmp 35) (.tmp 36)) 0 false (.need (.prim [(W 16 0)] none) (.load 3 (.tmp 37)) 3 false (.need (.prim [(W 15 0), (W 17 0)] none) (.binOp .gtr 3 (.tmp 34) (.tmp 38) 3) 4 false (.split (.u 18 0) Px (.need (.prim [(W 6 0), (WK (1))] none) (.binOp .add 3 (.tmp 20) (.const (I3 (1))) 3) 3 false (.back 0 [(.w (W 5 0)), (.w (W 19 0))]))))))
def Ro : Tr := .need (.prim [(W 0 0), (W 6 0)] none) (.indexAddr 45 (.tmp 22) (.tmp 23)) 0 false (.need (.prim [(W 9 0)] none) (.load 3 (.tmp 24)) 3 false (.need (.prim [(W 1 0), (W 6 0)] none) (.indexAddr 45 (.tmp 26) (.tmp 27)) 0 false (.need (.prim [(W 11 0)] none) (.load 3 (.tmp 28)) 3 false (.need (.prim [(W 10 0), (W 12 0)] none) (.binOp .lss 3 (.tmp 25) (.tmp 29) 3) 4 false (.split (.u 13 0) Pj (.need (.prim [(W 0 0), (W 6 0)] none) (.indexAddr 45 (.tmp 31) (.tmp 32)) 0 false TT))))))
def KE : Tr := .ret [(WK (0))]
def UN : Tr := .need (.prim [(W 1 0)] none) (.call ⟨.builtin .len, #[(.tmp 8)], #[45]⟩) 3 false (.need (.prim [(W 2 0), (W 3 0)] none) (.binOp .neq 3 (.tmp 7) (.tmp 9) 3) 4 false (.split (.u 4 0) (.need (.prim [(W 0 0)] none) (.call ⟨.builtin .len, #[(.tmp 11)], #[45]⟩) 3 false (.need (.prim [(W 1 0)] none) (.call ⟨.builtin .len, #[(.tmp 13)], #[45]⟩) 3 false (.need (.prim [(W 5 0), (W 6 0)] none) (.binOp .lss 3 (.tmp 12) (.tmp 14) 3) 4 false (.split (.u 7 0) Pj Px)))) (.loop 0 [(.w (WK (0))), (.w (WK (0)))] (.need (.prim [(W 0 0)] none) (.call ⟨.builtin .len, #[(.tmp 17)], #[45]⟩) 3 false (.need (.prim [(W 6 0), (W 7 0)] none) (.binOp .lss 3 (.tmp 16) (.tmp 18) 3) 4 false (.split (.u 8 0) Ro KE))))))
def WQ : Tr := .need (.prim [(W 0 0)] none) (.call ⟨.builtin .len, #[(.tmp 6)], #[45]⟩) 3 false UN
theorem JF : aM prog f215 (fun _ => none) [.v none, .v none] = WQ := by kernel_rfl
def XF : Tr := .split (.u 3 0) KE (.need (.prim [(W 0 0)] none) (.call ⟨.builtin .len, #[(.tmp 10)], #[45]⟩) 3 false (.need (.prim [(W 4 0), (WK (1))] none) (.binOp .sub 3 (.tmp 11) (.const (I3 (1))) 3) 3 false (.need (.prim [(W 5 0), (W 1 0)] none) (.binOp .sub 3 (.tmp 12) (.tmp 13) 3) 3 false (.need (.prim [(W 0 0), (W 6 0)] none) (.indexAddr 45 (.tmp 9) (.tmp 14)) 0 false (.need (.prim [(W 7 0)] none) (.load 3 (.tmp 15)) 3 false (.ret [(W 8 0)]))))))
def UY : Tr := .need (.prim [(W 0 0)] none) (.call ⟨.builtin .len, #[(.tmp 6)], #[45]⟩) 3 false (.need (.prim [(W 1 0), (W 2 0)] none) (.binOp .geq 3 (.tmp 5) (.tmp 7) 3) 4 false XF)
theorem JZ : aM prog f263 (fun _ => none) [.v none, .v none] = UY := by kernel_rfl
def PB : Tr := .ret [(W 5 0)]
def Wo : Tr := .need (.prim [(W 0 0)] none) (.call ⟨.builtin .len, #[(.tmp 5)], #[45]⟩) 3 false (.need (.prim [(W 1 0)] none) (.call ⟨.builtin .len, #[(.tmp 7)], #[45]⟩) 3 false (.need (.prim [(W 2 0), (W 3 0)] none) (.binOp .gtr 3 (.tmp 6) (.tmp 8) 3) 4 false (.split (.u 4 0) (.need (.prim [(W 0 0)] none) (.call ⟨.builtin .len, #[(.tmp 10)], #[45]⟩) 3 false PB) (.need (.prim [(W 1 0)] none) (.call ⟨.builtin .len, #[(.tmp 12)], #[45]⟩) 3 false PB))))
theorem DX : aM prog f262 (fun _ => none) [.v none, .v none] = Wo := by kernel_rfl
def Rl : Tr := .need (.prim [(W 16 0), (WK (32768))] none) (.binOp .sub 3 (.tmp 40) (.const (I3 (32768))) 3) 3 false (.need (.prim [(W 4 0), (WK (1))] none) (.binOp .sub 3 (.tmp 43) (.const (I3 (1))) 3) 3 false (.need (.prim [(W 19 0), (W 7 0)] none) (.binOp .sub 3 (.tmp 44) (.tmp 45) 3) 3 false (.need (.idx 8 (.u 20 0)) (.indexAddr 45 (.tmp 42) (.tmp 46)) 0 false (.need (.strow 8 1 (.u 20 0) 0 [(.u 18 0)]) (.store 3 (.tmp 48) (.tmp 47)) 0 false (.need (.prim [(W 7 0), (WK (1))] none) (.binOp .add 3 (.tmp 21) (.const (I3 (1))) 3) 3 false (.back 0 [(.w (WK (1))), (.w (W 22 0)), (.row 21)]))))))
def Tn : Tr := .split (.u 17 0) Rl (.need (.prim [(W 4 0), (WK (1))] none) (.binOp .sub 3 (.tmp 43) (.const (I3 (1))) 3) 3 false (.need (.prim [(W 18 0), (W 7 0)] none) (.binOp .sub 3 (.tmp 44) (.tmp 45) 3) 3 false (.need (.idx 8 (.u 19 0)) (.indexAddr 45 (.tmp 42) (.tmp 46)) 0 false (.need (.strow 8 1 (.u 19 0) 0 [(.u 16 0)]) (.store 3 (.tmp 48) (.tmp 47)) 0 false (.need (.prim [(W 7 0), (WK (1))] none) (.binOp .add 3 (.tmp 21) (.const (I3 (1))) 3) 3 false (.back 0 [(.w (WK (-1))), (.w (W 21 0)), (.row 20)]))))))
def RU : Tr := .need (.prim [(W 14 0), (WK (32768))] none) (.binOp .sub 3 (.tmp 40) (.const (I3 (32768))) 3) 3 false (.need (.prim [(W 4 0), (WK (1))] none) (.binOp .sub 3 (.tmp 43) (.const (I3 (1))) 3) 3 false (.need (.prim [(W 18 0), (W 7 0)] none) (.binOp .sub 3 (.tmp 44) (.tmp 45) 3) 3 false (.need (.idx 8 (.u 19 0)) (.indexAddr 45 (.tmp 42) (.tmp 46)) 0 false (.need (.strow 8 1 (.u 19 0) 0 [(.u 17 0)]) (.store 3 (.tmp 48) (.tmp 47)) 0 false (.need (.prim [(W 7 0), (WK (1))] none) (.binOp .add 3 (.tmp 21) (.const (I3 (1))) 3) 3 false (.back 0 [(.w (WK (1))), (.w (W 21 0)), (.row 20)]))))))
def Th : Tr := .split (.u 16 0) RU (.need (.prim [(W 4 0), (WK (1))] none) (.binOp .sub 3 (.tmp 43) (.const (I3 (1))) 3) 3 false (.need (.prim [(W 17 0), (W 7 0)] none) (.binOp .sub 3 (.tmp 44) (.tmp 45) 3) 3 false (.need (.idx 8 (.u 18 0)) (.indexAddr 45 (.tmp 42) (.tmp 46)) 0 false (.need (.strow 8 1 (.u 18 0) 0 [(.u 14 0)]) (.store 3 (.tmp 48) (.tmp 47)) 0 false (.need (.prim [(W 7 0), (WK (1))] none) (.binOp .add 3 (.tmp 21) (.const (I3 (1))) 3) 3 false (.back 0 [(.w (WK (0))), (.w (W 20 0)), (.row 19)]))))))
def Wh : Tr := .need (.prim [(W 2 0), (W 11 0)] none) (.binOp .mul 3 (.tmp 26) (.tmp 29) 3) 3 false (.need (.prim [(W 10 0), (W 12 0)] none) (.binOp .add 3 (.tmp 25) (.tmp 30) 3) 3 false (.need (.prim [(W 13 0), (W 6 0)] none) (.binOp .add 3 (.tmp 31) (.tmp 32) 3) 3 false (.need (.prim [(W 14 0), (WK (0))] none) (.binOp .lss 3 (.tmp 34) (.const (I3 (0))) 3) 4 false (.split (.u 15 0) (.need (.prim [(W 14 0), (WK (32768))] none) (.binOp .add 3 (.tmp 36) (.const (I3 (32768))) 3) 3 false (.need (.prim [(W 16 0), (WK (32768))] none) (.binOp .geq 3 (.tmp 38) (.const (I3 (32768))) 3) 4 false Tn)) (.need (.prim [(W 14 0), (WK (32768))] none) (.binOp .geq 3 (.tmp 38) (.const (I3 (32768))) 3) 4 false Th)))))
def UU : Tr := .need (.prim [(W 3 0), (WK (1))] none) (.binOp .add 3 (.tmp 14) (.const (I3 (1))) 3) 3 false (.need (.make [(.int .i64 (0))] 8 (.u 4 0) (.u 4 0)) (.makeSlice 45 (.tmp 16) (.tmp 16)) 45 false (.loop 0 [(.w (WK (0))), (.w (WK (0))), (.row 5)] (.need (.prim [(W 7 0), (W 4 0)] none) (.binOp .lss 3 (.tmp 18) (.tmp 19) 3) 4 false (.split (.u 9 0) (.need (.call 263 [(W 0 0), (W 7 0)] [none]) (.call ⟨.value (.func 263), #[(.tmp 23), (.tmp 24)], #[45, 3]⟩) 3 false (.need (.call 263 [(W 1 0), (W 7 0)] [none]) (.call ⟨.value (.func 263), #[(.tmp 27), (.tmp 28)], #[45, 3]⟩) 3 false Wh)) (.need (.call 260 [(.one (.c (.sr 1 8)))] [none]) (.call ⟨.value (.func 260), #[(.tmp 49)], #[45]⟩) 45 true (.ret [(W 10 0)]))))))
def Wg : Tr := .need (.call 262 [(W 0 0), (W 1 0)] [none]) (.call ⟨.value (.func 262), #[(.tmp 12), (.tmp 13)], #[45, 45]⟩) 3 true UU
theorem Me : aM prog f214 (fun _ => none) [.v none, .v none, .v none] = Wg := by kernel_rfl
def Uk : Tr := .need (.prim [(W 0 0)] none) (.unOp .neg 3 (.tmp 4)) 3 false (.ret [(.agg [(U 1 0), (U 0 1)])])
theorem Nl : aM prog f183 (fun _ => none) [.v (some 2)] = Uk := by kernel_rfl
def Ja : Tr := .ret [(.agg [(U 8 0), (U 8 1)])]
def Xe : Tr := .need (.prim [(W 0 0), (W 1 0)] none) (.binOp .eql 3 (.tmp 14) (.tmp 16) 3) 4 false (.split (.u 4 0) (.need (.call 214 [(W 0 1), (W 1 1), (WK (1))] [none]) (.call ⟨.value (.func 214), #[(.tmp 21), (.tmp 23), (.const (I3 (1)))], #[45, 45, 3]⟩) 45 true (.need (.call 211 [(W 0 0), (W 5 0)] [(some 2)]) (.call ⟨.value (.func 211), #[(.tmp 19), (.tmp 24)], #[3, 45]⟩) 47 true (.ret [(.agg [(U 6 0), (U 6 1)])]))) (.need (.call 215 [(W 0 1), (W 1 1)] [none]) (.call ⟨.value (.func 215), #[(.tmp 27), (.tmp 29)], #[45, 45]⟩) 3 true (.need (.prim [(W 5 0), (WK (0))] none) (.binOp .geq 3 (.tmp 30) (.const (I3 (0))) 3) 4 false (.split (.u 6 0) (.need (.call 214 [(W 0 1), (W 1 1), (WK (-1))] [none]) (.call ⟨.value (.func 214), #[(.tmp 35), (.tmp 37), (.const (I3 (-1)))], #[45, 45, 3]⟩) 45 true (.need (.call 211 [(W 0 0), (W 7 0)] [(some 2)]) (.call ⟨.value (.func 211), #[(.tmp 33), (.tmp 38)], #[3, 45]⟩) 47 true Ja)) (.need (.call 214 [(W 1 1), (W 0 1), (WK (-1))] [none]) (.call ⟨.value (.func 214), #[(.tmp 43), (.tmp 45), (.const (I3 (-1)))], #[45, 45, 3]⟩) 45 true (.need (.call 211 [(W 1 0), (W 7 0)] [(some 2)]) (.call ⟨.value (.func 211), #[(.tmp 41), (.tmp 46)], #[3, 45]⟩) 47 true Ja))))))
def Vk : Tr := .need (.prim [(W 0 0), (WK (0))] none) (.binOp .eql 3 (.tmp 6) (.const (I3 (0))) 3) 4 false (.split (.u 2 0) (.ret [(.agg [(U 1 0), (U 1 1)])]) (.need (.prim [(W 1 0), (WK (0))] none) (.binOp .eql 3 (.tmp 10) (.const (I3 (0))) 3) 4 false (.split (.u 3 0) (.ret [(.agg [(U 0 0), (U 0 1)])]) Xe)))
theorem Na : aM prog f138 (fun _ => none) [.v (some 2), .v (some 2)] = Vk := by kernel_rfl
def Tt : Tr := .need (.prim [(W 27 0), (WK (1))] none) (.binOp .add 3 (.tmp 58) (.const (I3 (1))) 3) 3 false (.need (.prim [(W 26 0), (WK (32768))] none) (.binOp .rem 3 (.tmp 60) (.const (I3 (32768))) 3) 3 false (.need (.idx 15 (.u 28 0)) (.indexAddr 45 (.tmp 55) (.tmp 59)) 0 false (.need (.strow 15 1 (.u 28 0) 0 [(.u 29 0)]) (.store 3 (.tmp 62) (.tmp 61)) 0 false (.need (.prim [(W 26 0), (WK (32768))] none) (.binOp .quo 3 (.tmp 63) (.const (I3 (32768))) 3) 3 false (.need (.prim [(W 14 0), (WK (1))] none) (.binOp .sub 3 (.tmp 32) (.const (I3 (1))) 3) 3 false (.back 1 [(.w (W 31 0)), (.w (W 32 0)), (.row 30)]))))))
def QE : Tr := .need (.prim [(W 20 0)] none) (.load 3 (.tmp 44)) 3 false (.need (.prim [(W 1 1), (W 14 0)] none) (.indexAddr 45 (.tmp 47) (.tmp 48)) 0 false (.need (.prim [(W 22 0)] none) (.load 3 (.tmp 49)) 3 false (.need (.prim [(W 21 0), (W 23 0)] none) (.binOp .mul 3 (.tmp 45) (.tmp 50) 3) 3 false (.need (.prim [(W 19 0), (W 24 0)] none) (.binOp .add 3 (.tmp 40) (.tmp 51) 3) 3 false (.need (.prim [(W 25 0), (W 13 0)] none) (.binOp .add 3 (.tmp 52) (.tmp 53) 3) 3 false (.need (.prim [(W 8 0), (W 14 0)] none) (.binOp .add 3 (.tmp 56) (.tmp 57) 3) 3 false Tt))))))
def SA : Tr := .need (.prim [(W 14 0), (WK (0))] none) (.binOp .geq 3 (.tmp 30) (.const (I3 (0))) 3) 4 false (.split (.u 16 0) (.need (.prim [(W 8 0), (W 14 0)] none) (.binOp .add 3 (.tmp 35) (.tmp 36) 3) 3 false (.need (.prim [(W 17 0), (WK (1))] none) (.binOp .add 3 (.tmp 37) (.const (I3 (1))) 3) 3 false (.need (.idx 15 (.u 18 0)) (.indexAddr 45 (.tmp 34) (.tmp 38)) 0 false (.need (.ldrow 15 (.u 18 0) 0 1 false) (.load 3 (.tmp 39)) 3 false (.need (.prim [(W 0 1), (W 8 0)] none) (.indexAddr 45 (.tmp 42) (.tmp 43)) 0 false QE))))) (.need (.idx 15 (.u 8 0)) (.indexAddr 45 (.tmp 65) (.tmp 66)) 0 false (.need (.strow 15 1 (.u 8 0) 0 [(.u 13 0)]) (.store 3 (.tmp 68) (.tmp 67)) 0 false (.need (.prim [(W 8 0), (WK (1))] none) (.binOp .sub 3 (.tmp 24) (.const (I3 (1))) 3) 3 false (.back 0 [(.w (W 18 0)), (.row 17)])))))
def VW : Tr := .need (.prim [(W 6 0), (WK (1))] none) (.binOp .sub 3 (.tmp 20) (.const (I3 (1))) 3) 3 false (.loop 0 [(.w (W 7 0)), (.row 5)] (.need (.prim [(W 8 0), (WK (0))] none) (.binOp .geq 3 (.tmp 22) (.const (I3 (0))) 3) 4 false (.split (.u 10 0) (.need (.prim [(W 1 1)] none) (.call ⟨.builtin .len, #[(.tmp 27)], #[45]⟩) 3 false (.need (.prim [(W 11 0), (WK (1))] none) (.binOp .sub 3 (.tmp 28) (.const (I3 (1))) 3) 3 false (.loop 1 [(.w (WK (0))), (.w (W 12 0)), (.row 9)] SA))) (.need (.prim [(W 0 0), (W 1 0)] none) (.binOp .mul 3 (.tmp 70) (.tmp 72) 3) 3 false (.need (.call 211 [(W 11 0), (.one (.c (.sr 1 9)))] [(some 2)]) (.call ⟨.value (.func 211), #[(.tmp 73), (.tmp 74)], #[3, 45]⟩) 47 true (.ret [(.agg [(U 12 0), (U 12 1)])]))))))
def Vd : Tr := .need (.prim [(W 0 1)] none) (.call ⟨.builtin .len, #[(.tmp 11)], #[45]⟩) 3 false (.need (.prim [(W 1 1)] none) (.call ⟨.builtin .len, #[(.tmp 14)], #[45]⟩) 3 false (.need (.prim [(W 2 0), (W 3 0)] none) (.binOp .add 3 (.tmp 12) (.tmp 15) 3) 3 false (.need (.make [(.int .i64 (0))] 8 (.u 4 0) (.u 4 0)) (.makeSlice 45 (.tmp 16) (.tmp 16)) 45 false (.need (.prim [(W 0 1)] none) (.call ⟨.builtin .len, #[(.tmp 19)], #[45]⟩) 3 false VW))))
theorem Nu : aM prog f135 (fun _ => none) [.v (some 2), .v (some 2)] = Vd := by kernel_rfl
abbrev rB (ds : List Nat) : List (List aF) := ds.map fun (d : Nat) => [aF.int .i64 (d : Int)]
abbrev sB (ds : List Nat) : aF := .slice 1 (rB ds)
abbrev bT (n : Nat) : aF := sB (bd n)
abbrev zC (z : Int) : List aF := [.int .i64 z.sign, bT z.natAbs]
abbrev zT (z : Int) : aH := .agg (zC z)
theorem JX : DB 32768 [] := fun d hd => by cases hd
theorem mN {n : Nat} (h : n = 0) : aF.Sub (.exact (.slice none 0 0)) (bT n) := by
 subst h
 rw [bT, vO]; exact aF.Sub.nil
theorem sliceB {ds : List Nat} {x : Operand} {ty : Nat} {y : Operand} {k : IntKind} {n : Int} {m : Nat} (h0 : 0 ≤ n) (hm : n.toNat = m) (hn : m ≤ ds.length) : aQ prog (.slice 45 x (some y) none none) ty [.one (sB ds), .one (.int k n)] (.one (sB (ds.drop m))) := by
 have := zY (P := prog) (T := 45) (x := x) (y := y) (ty := ty) (k := k) (n := n) (ts := rB ds) dG h0 (by rw [List.length_map, hm]; exact hn)
 rw [hm, rB, ← List.map_drop] at this
 exact this
theorem LU {ds : List Nat} {x : Operand} {ty : Nat} {y : Operand} {k : IntKind} {n : Int} {m : Nat} (h0 : 0 ≤ n) (hm : n.toNat = m) (hn : m ≤ ds.length) : aQ prog (.slice 45 x none (some y) none) ty [.one (sB ds), .one (.int k n)] (.one (sB (ds.take m))) := by
 have := Af (P := prog) (T := 45) (x := x) (y := y) (ty := ty) (k := k) (n := n) (ts := rB ds) dG h0 (by rw [List.length_map, hm]; exact hn)
 rw [hm, rB, ← List.map_take] at this
 exact this
theorem pI (ds : List Nat) (hd : DB 32768 ds) (hs : ds.length < 4611686018427387904) : aN prog 260 [(.one (sB ds) : aH)] (.ret [.one (bT (bv ds))]) := by
 refine aD (args := [.v none]) (ins := [.v (.one (sB ds))]) (hints := (fun _ => none)) fo (by kernel_rfl) func260 ⟨rfl, trivial⟩ ?_
 rw [IJ]
 dsimp only [List.map, In.env, aA, aB]
 refine aY {xs : List Nat // DB 32768 xs ∧ bv xs = bv ds ∧ xs.length ≤ ds.length} (fun g => [.one (sB g.1)]) (fun g => g.1.length) ⟨ds, hd, rfl, Nat.le_refl _⟩ aL.rfl (fun _ => rfl) ?_
 rintro ⟨xs, hx, hv, hl⟩
 dsimp only [aA, aB] at hx hv hl ⊢
 refine vn (aK dG (List.length_map _)) rfl ?_
 dsimp only [aA, aB]
 refine vn cT rfl ?_
 dsimp only [aA, aB]
 refine vs _ rfl (fun h3 => ?_) (fun h3 => ?_)
 ·obtain ⟨d, hget⟩ : ∃ d, xs[0]? = some d := ⟨_, List.getElem?_eq_getElem (by omega)⟩
  refine vn (aR dG (by omega) (by omega) hget) rfl ?_
  dsimp only [aA, aB]
  refine vn (bA HV) rfl ?_
  dsimp only [aA, aB]
  refine vn aX rfl ?_
  dsimp only [aA, aB]
  refine vs _ rfl (fun h7 => ?_) (fun h7 => ?_)
  ·refine vn (sliceB (by omega) rfl (by omega)) rfl ?_
   dsimp only [aA, aB]
   exact aO rfl ⟨⟨xs.drop 1, hx.drop 1, by
    have h7 : d = 0 := by omega
    rw [← hv, HF hget, h7, Nat.mul_zero, Nat.add_zero], by show (xs.drop 1).length ≤ _; rw [List.length_drop]; omega⟩, aL.rfl, by show (xs.drop 1).length < xs.length; rw [List.length_drop]; omega⟩
  have e : bd (bv ds) = xs := by
   rw [← hv]
   refine Xb hx fun d' h' => ?_
   rw [List.head?_eq_getElem?, hget] at h'
   simp only [Option.some.injEq] at h'
   subst h'; omega
  rw [bT, e]; exact aJ rfl
 have e : bd (bv ds) = xs := by
  have : xs = [] := List.eq_nil_of_length_eq_zero (by omega)
  rw [← hv, this]; exact vO
 rw [bT, e]; exact aJ rfl
theorem eF (s z : Int) (ds : List Nat) (hd : DB 32768 ds) (hs : ds.length < 4611686018427387904) (h1 : z.natAbs = bv ds) (h2 : bv ds ≠ 0 → z.sign = s) : aN prog 211 [(.one (.int .i64 s) : aH), (.one (sB ds) : aH)] (.ret [zT z]) := by
 refine aD (args := [.v none, .v none]) (ins := [.v (.one (.int .i64 s)), .v (.one (sB ds))]) (hints := (fun _ => none)) fo (by kernel_rfl) func211 ⟨rfl, rfl, trivial⟩ ?_
 rw [NQ]
 dsimp only [List.map, In.env, aA, aB]
 have hlen : (bd (bv ds)).length = 0 ↔ bv ds = 0 := by rw [List.length_eq_zero_iff, xU]
 have hl2 : (bd (bv ds)).length ≤ ds.length := gB (BX hd)
 refine aC (pI ds hd hs) rfl ?_
 dsimp only [aA, aB]
 refine vn (aK dG (List.length_map _)) rfl ?_
 dsimp only [aA, aB]
 refine vn aX rfl ?_
 dsimp only [aA, aB]
 refine vs _ rfl (fun h3 => ?_) (fun h3 => ?_)
 ·have hz : z = 0 := by
   have := hlen.1 (by omega)
   omega
  subst hz
  exact cS ⟨⟨aF.Sub.same, mN rfl, trivial⟩, trivial⟩
 refine aJ ?_
 rw [← h2 (fun h => h3 (by have := hlen.2 h; omega)), ← h1]
 rfl
theorem Du {ds : List Nat} {m n : Nat} (hm : m ≠ 0) (h : bv ds + 32768 ^ ds.length * m = n) (hn : n < 18446744073709551616) : ds.length ≤ 4 := by
 rcases Nat.lt_or_ge ds.length 5 with h1 | h1
 ·omega
 ·have h2 : 32768 ^ 5 ≤ 32768 ^ ds.length := Nat.pow_le_pow_right (by omega) h1
  have h3 : 32768 ^ ds.length ≤ 32768 ^ ds.length * m := Nat.le_mul_of_pos_right _ (by omega)
  omega
theorem tO {ds : List Nat} {m n : Nat} (h : bv ds + 32768 ^ ds.length * m = n) : bv (m % 32768 :: ds) + 32768 ^ (m % 32768 :: ds).length * (m / 32768) = n := by
 rw [vQ, List.length_cons, Nat.pow_succ, Nat.add_assoc, Nat.mul_assoc, ← Nat.mul_add, Nat.mod_add_div]; exact h
theorem neg_tmod {m : Nat} : (-(m : Int)).tmod 32768 = -((m % 32768 : Nat) : Int) := by rw [Int.neg_tmod, Int.tmod_eq_emod_of_nonneg (by omega)]; omega
theorem neg_tdiv {m : Nat} : (-(m : Int)).tdiv 32768 = -((m / 32768 : Nat) : Int) := by rw [Int.neg_tdiv, Int.tdiv_eq_ediv_of_nonneg (by omega)]; omega
theorem lL (n : Int) (h1 : -9223372036854775808 ≤ n) (h2 : n < 9223372036854775808) : aN prog 139 [(.one (.int .i64 n) : aH)] (.ret [zT n]) := by
 refine aD (args := [.v none]) (ins := [.v (.one (.int .i64 n))]) (hints := (fun _ => none)) fo (by kernel_rfl) func139 ⟨rfl, trivial⟩ ?_
 rw [Oy]
 dsimp only [List.map, In.env, aA, aB]
 refine vn aU rfl ?_
 dsimp only [aA, aB]
 refine vs _ rfl (fun h1 => ?_) (fun h1' => ?_)
 ·refine aY {g : Nat × List Nat // bv g.2 + 32768 ^ g.2.length * g.1 = n.natAbs ∧ DB 32768 g.2 ∧ g.1 ≤ 9223372036854775808 ∧ g.2.length ≤ 5} (fun g => [.one (.int .i64 (-(g.1.1 : Int))), .rows (rB g.1.2)]) (fun g => g.1.1) ⟨(n.natAbs, []), by simp [bv, val], JX, by show n.natAbs ≤ _; omega, by simp⟩ ⟨aH.Sub.of_eq (congrArg (fun q => aH.one (aF.int .i64 q)) (by show n = -((n.natAbs : Nat) : Int); omega)), aH.Sub.same, trivial⟩ (fun _ => rfl) ?_
  rintro ⟨⟨m, ds⟩, hv, hd, hm, hl⟩
  dsimp only [aA, aB] at hv hd hm hl ⊢
  refine vn jC rfl ?_
  dsimp only [aA, aB]
  refine vs _ rfl (fun h4 => ?_) (fun h4 => ?_)
  ·have hm0 : m ≠ 0 := by omega
   have hl4 := Du hm0 hv (by omega)
   have hd2 : DB 32768 (m % 32768 :: ds) := fun d hd' => by
    rcases List.mem_cons.1 hd' with rfl | hd'
    ·omega
    ·exact hd d hd'
   refine vn (xV (c := -((m % 32768 : Nat) : Int)) (by decide) neg_tmod) rfl ?_
   dsimp only [aA, aB]
   refine vn aU rfl ?_
   dsimp only [aA, aB]
   refine vs _ rfl (fun h7 => ?_) (fun h7 => ?_)
   ·refine vn (zN (by omega) (by omega)) rfl ?_
    dsimp only [aA, aB]
    refine bC (us := rB [m % 32768]) (by show [[aF.int .i64 _]] = [[aF.int .i64 _]]; congr 3; omega) ?_
    dsimp only [aA, aB]
    refine qY (ts := rB [m % 32768]) (us := rB ds) (vs := rB (m % 32768 :: ds)) rfl rfl rfl (by simp; omega) (by simp [maxLen]; omega) ?_
    dsimp only [aA, aB]
    refine vn (nG (c := -((m / 32768 : Nat) : Int)) (by decide) (by rw [neg_tdiv]; exact cY (by omega) (by omega))) rfl ?_
    dsimp only [aA, aB]
    exact aO rfl ⟨⟨(m / 32768, m % 32768 :: ds), tO hv, hd2, by show m / 32768 ≤ _; omega, by show ds.length + 1 ≤ 5; omega⟩, aL.rfl, by show m / 32768 < m; omega⟩
   refine bC (us := rB [m % 32768]) (by show [[aF.int .i64 _]] = [[aF.int .i64 _]]; congr 3; omega) ?_
   dsimp only [aA, aB]
   refine qY (ts := rB [m % 32768]) (us := rB ds) (vs := rB (m % 32768 :: ds)) rfl rfl rfl (by simp; omega) (by simp [maxLen]; omega) ?_
   dsimp only [aA, aB]
   refine vn (nG (c := -((m / 32768 : Nat) : Int)) (by decide) (by rw [neg_tdiv]; exact cY (by omega) (by omega))) rfl ?_
   dsimp only [aA, aB]
   exact aO rfl ⟨⟨(m / 32768, m % 32768 :: ds), tO hv, hd2, by show m / 32768 ≤ _; omega, by show ds.length + 1 ≤ 5; omega⟩, aL.rfl, by show m / 32768 < m; omega⟩
  have hm0 : m = 0 := by omega
  subst hm0
  rw [Nat.mul_zero, Nat.add_zero] at hv
  refine aC (eF (-1) n ds hd (by omega) hv.symm (fun _ => Int.sign_eq_neg_one_of_neg h1)) rfl ?_
  dsimp only [aA, aB]
  exact aJ rfl
 refine aY {g : Nat × List Nat // bv g.2 + 32768 ^ g.2.length * g.1 = n.natAbs ∧ DB 32768 g.2 ∧ g.1 ≤ 9223372036854775808 ∧ g.2.length ≤ 5 ∧ g.1 < 9223372036854775808} (fun g => [.one (.int .i64 (g.1.1 : Int)), .rows (rB g.1.2)]) (fun g => g.1.1) ⟨(n.natAbs, []), by simp [bv, val], JX, by show n.natAbs ≤ _; omega, by simp, by show n.natAbs < _; omega⟩ ⟨aH.Sub.of_eq (congrArg (fun q => aH.one (aF.int .i64 q)) (by show n = ((n.natAbs : Nat) : Int); omega)), aH.Sub.same, trivial⟩ (fun _ => rfl) ?_
 rintro ⟨⟨m, ds⟩, hv, hd, hm, hl, hmm⟩
 dsimp only [aA, aB] at hv hd hm hl hmm ⊢
 refine vn jC rfl ?_
 dsimp only [aA, aB]
 refine vs _ rfl (fun h21 => ?_) (fun h21 => ?_)
 ·have hm0 : m ≠ 0 := by omega
  have hl4 := Du hm0 hv (by omega)
  have hd2 : DB 32768 (m % 32768 :: ds) := fun d hd' => by
   rcases List.mem_cons.1 hd' with rfl | hd'
   ·omega
   ·exact hd d hd'
  refine vn (dI (by omega) (by omega)) rfl ?_
  dsimp only [aA, aB]
  refine vn aU rfl ?_
  dsimp only [aA, aB]
  refine vs _ rfl (fun h24 => ?_) (fun h24 => ?_)
  ·exfalso; omega
  refine bC (us := rB [m % 32768]) (by show [[aF.int .i64 _]] = [[aF.int .i64 _]]; congr 3) ?_
  dsimp only [aA, aB]
  refine qY (ts := rB [m % 32768]) (us := rB ds) (vs := rB (m % 32768 :: ds)) rfl rfl rfl (by simp; omega) (by simp [maxLen]; omega) ?_
  dsimp only [aA, aB]
  refine vn (fZ (by omega) (by omega) (by omega)) rfl ?_
  dsimp only [aA, aB]
  exact aO rfl ⟨⟨(m / 32768, m % 32768 :: ds), tO hv, hd2, by show m / 32768 ≤ _; omega, by show ds.length + 1 ≤ 5; omega, by show m / 32768 < _; omega⟩, aL.rfl, by show m / 32768 < m; omega⟩
 have hm0 : m = 0 := by omega
 subst hm0
 rw [Nat.mul_zero, Nat.add_zero] at hv
 refine aC (eF 1 n ds hd (by omega) hv.symm (fun h => Int.sign_eq_one_of_pos (by omega))) rfl ?_
 dsimp only [aA, aB]
 exact aJ rfl
theorem Cr {xs ys : List Nat} (hx : DB 32768 xs) {i x y : Nat} (hl : xs.length = ys.length) (hi : xs[i]? = some x) (hj : ys[i]? = some y) (ht : xs.take i = ys.take i) (hxy : x < y) : bv xs < bv ys := by
 have e : ∀ (zs : List Nat) (z : Nat), zs[i]? = some z → bv zs = bv (zs.take i) * 32768 ^ (zs.length - i) + (bv (zs.drop (i + 1)) + 32768 ^ (zs.length - (i + 1)) * z) := fun zs z hz => by
  have hlt : i < zs.length := (List.getElem?_eq_some_iff.1 hz).1
  conv => lhs; rw [← List.take_append_drop i zs]
  rw [HN, List.length_drop]
  congr 1
  rw [List.drop_eq_getElem_cons hlt, (List.getElem?_eq_some_iff.1 hz).2, vQ, List.length_drop]
 rw [e xs x hi, e ys y hj, ht, hl]
 have h1 := BX (hx.drop (i + 1))
 rw [List.length_drop, hl] at h1
 have h2 : 32768 ^ (ys.length - (i + 1)) * (x + 1) ≤ 32768 ^ (ys.length - (i + 1)) * y := Nat.mul_le_mul_left _ hxy
 rw [Nat.mul_add, Nat.mul_one] at h2
 omega
theorem qN {a b : Nat} (h : (bd a).length < (bd b).length) : a < b := by
 rcases Nat.lt_or_ge a b with h1 | h1
 ·exact h1
 ·have := dJ h1; omega
theorem mY (a b : Nat) (hs : (bd a).length + (bd b).length < 1099511627776) : aN prog 215 [(.one (bT a) : aH), (.one (bT b) : aH)] (.ret [.one (.int .i64 (dR a b))]) := by
 refine aD (args := [.v none, .v none]) (ins := [.v (.one (bT a)), .v (.one (bT b))]) (hints := (fun _ => none)) fo (by kernel_rfl) func215 ⟨rfl, rfl, trivial⟩ ?_
 rw [JF]
 dsimp only [List.map, In.env, aA, aB]
 refine vn (aK dG (List.length_map _)) rfl ?_
 dsimp only [aA, aB]
 refine vn (aK dG (List.length_map _)) rfl ?_
 dsimp only [aA, aB]
 refine vn jC rfl ?_
 dsimp only [aA, aB]
 refine vs _ rfl (fun h3 => ?_) (fun h3 => ?_)
 ·refine vn (aK dG (List.length_map _)) rfl ?_
  dsimp only [aA, aB]
  refine vn (aK dG (List.length_map _)) rfl ?_
  dsimp only [aA, aB]
  refine vn aU rfl ?_
  dsimp only [aA, aB]
  refine vs _ rfl (fun h7 => ?_) (fun h7 => ?_)
  ·rw [pR (by have := qN (a := a) (b := b) (by omega); omega)]; exact aJ rfl
  rw [pS (by have := qN (a := b) (b := a) (by omega); omega)]; exact aJ rfl
 have hlen : (bd a).length = (bd b).length := by omega
 refine aY {i : Nat // i ≤ (bd a).length ∧ (bd a).take i = (bd b).take i} (fun g => [.one (.int .i64 0), .one (.int .i64 g.1)]) (fun g => (bd a).length - g.1) ⟨0, Nat.zero_le _, rfl⟩ aL.rfl (fun _ => rfl) ?_
 rintro ⟨i, hi, ht⟩
 dsimp only [aA, aB] at hi ht ⊢
 refine vn (aK dG (List.length_map _)) rfl ?_
 dsimp only [aA, aB]
 refine vn aU rfl ?_
 dsimp only [aA, aB]
 refine vs _ rfl (fun h13 => ?_) (fun h13 => ?_)
 ·obtain ⟨x, hx⟩ : ∃ x, (bd a)[i]? = some x := ⟨_, List.getElem?_eq_getElem (by omega)⟩
  obtain ⟨y, hy⟩ : ∃ y, (bd b)[i]? = some y := ⟨_, List.getElem?_eq_getElem (by omega)⟩
  refine vn (aR dG (by omega) (by omega) hx) rfl ?_
  dsimp only [aA, aB]
  refine vn (bA HV) rfl ?_
  dsimp only [aA, aB]
  refine vn (aR dG (by omega) (by omega) hy) rfl ?_
  dsimp only [aA, aB]
  refine vn (bA HV) rfl ?_
  dsimp only [aA, aB]
  refine vn aU rfl ?_
  dsimp only [aA, aB]
  refine vs _ rfl (fun h19 => ?_) (fun h19 => ?_)
  ·have := Cr (fG a) hlen hx hy ht (by omega)
   rw [eB, eB] at this
   rw [pR (by omega)]; exact aJ rfl
  refine vn (aR dG (by omega) (by omega) hx) rfl ?_
  dsimp only [aA, aB]
  refine vn (bA HV) rfl ?_
  dsimp only [aA, aB]
  refine vn (aR dG (by omega) (by omega) hy) rfl ?_
  dsimp only [aA, aB]
  refine vn (bA HV) rfl ?_
  dsimp only [aA, aB]
  refine vn cT rfl ?_
  dsimp only [aA, aB]
  refine vs _ rfl (fun h26 => ?_) (fun h26 => ?_)
  ·have := Cr (fG b) hlen.symm hy hx ht.symm (by omega)
   rw [eB, eB] at this
   rw [pS (by omega)]; exact aJ rfl
  refine vn (aE (by omega) (by omega)) rfl ?_
  dsimp only [aA, aB]
  exact aO rfl ⟨⟨i + 1, by omega, by rw [take_succ hx, take_succ hy, ht, show x = y by omega]⟩, aL.rfl, by show (bd a).length - (i + 1) < (bd a).length - i; omega⟩
 have hie : i = (bd a).length := by omega
 subst hie
 have e : bd a = bd b := by
  rw [List.take_length, List.take_of_length_le (by omega)] at ht; exact ht
 have : a = b := by rw [← eB a, e, eB]
 rw [this, vH]; exact aJ rfl
theorem wB (n i : Nat) (hi : i < 4611686018427387904) (hs : (bd n).length < 1099511627776) : aN prog 263 [(.one (bT n) : aH), (.one (.int .i64 i) : aH)] (.ret [.one (.int .i64 ((n / 32768 ^ i % 32768 : Nat) : Int))]) := by
 refine aD (args := [.v none, .v none]) (ins := [.v (.one (bT n)), .v (.one (.int .i64 i))]) (hints := (fun _ => none)) fo (by kernel_rfl) func263 ⟨rfl, rfl, trivial⟩ ?_
 rw [JZ]
 dsimp only [List.map, In.env, aA, aB]
 have hdg := Df n i
 refine vn (aK dG (List.length_map _)) rfl ?_
 dsimp only [aA, aB]
 refine vn dU rfl ?_
 dsimp only [aA, aB]
 refine vs _ rfl (fun h2 => ?_) (fun h2 => ?_)
 ·rw [List.getElem?_eq_none_iff.2 (by rw [List.length_reverse]; omega)] at hdg
  rw [← hdg]; exact aJ rfl
 refine vn (aK dG (List.length_map _)) rfl ?_
 dsimp only [aA, aB]
 refine vn (aG (by omega) (by omega)) rfl ?_
 dsimp only [aA, aB]
 refine vn (aG (by omega) (by omega)) rfl ?_
 dsimp only [aA, aB]
 obtain ⟨d, hd⟩ : ∃ d, (bd n).reverse[i]? = some d := ⟨_, List.getElem?_eq_getElem (by rw [List.length_reverse]; omega)⟩
 have hd2 : (bd n)[(bd n).length - 1 - i]? = some d := by rw [vF (by omega)]; exact hd
 rw [hd] at hdg
 refine vn (aR dG (by omega) (by omega) hd2) rfl ?_
 dsimp only [aA, aB]
 refine vn (bA HV) rfl ?_
 dsimp only [aA, aB]
 rw [← hdg]; exact aJ rfl
theorem EG (a b : Nat) : aN prog 262 [(.one (bT a) : aH), (.one (bT b) : aH)] (.ret [.one (.int .i64 ((max (bd a).length (bd b).length : Nat) : Int))]) := by
 refine aD (args := [.v none, .v none]) (ins := [.v (.one (bT a)), .v (.one (bT b))]) (hints := (fun _ => none)) fo (by kernel_rfl) func262 ⟨rfl, rfl, trivial⟩ ?_
 rw [DX]
 dsimp only [List.map, In.env, aA, aB]
 refine vn (aK dG (List.length_map _)) rfl ?_
 dsimp only [aA, aB]
 refine vn (aK dG (List.length_map _)) rfl ?_
 dsimp only [aA, aB]
 refine vn cT rfl ?_
 dsimp only [aA, aB]
 refine vs _ rfl (fun h3 => ?_) (fun h3 => ?_)
 ·refine vn (aK dG (List.length_map _)) rfl ?_
  dsimp only [aA, aB]
  refine aJ ?_
  show [aH.one (aF.int .i64 _)] = [aH.one (aF.int .i64 _)]
  congr 3; omega
 refine vn (aK dG (List.length_map _)) rfl ?_
 dsimp only [aA, aB]
 refine aJ ?_
 show [aH.one (aF.int .i64 _)] = [aH.one (aF.int .i64 _)]
 congr 3; omega
theorem val_rev (n : Nat) : val 32768 (bd n).reverse = n := eB n
theorem DI (n i : Nat) : (bd n).reverse[i]?.getD 0 = n / 32768 ^ i % 32768 := Df n i
set_option maxHeartbeats 1000000 in
theorem gZ (a b r : Nat) (k : Int) (hk : k = 1 ∨ k = -1) (hr : (r : Int) = a + k * b) (hs : (bd a).length < 274877906944) (hs2 : (bd b).length < 274877906944) : aN prog 214 [(.one (bT a) : aH), (.one (bT b) : aH), (.one (.int .i64 k) : aH)] (.ret [.one (bT r)]) := by
 refine aD (args := [.v none, .v none, .v none]) (ins := [.v (.one (bT a)), .v (.one (bT b)), .v (.one (.int .i64 k))]) (hints := (fun _ => none)) fo (by kernel_rfl) func214 ⟨rfl, rfl, rfl, trivial⟩ ?_
 rw [Me]
 dsimp only [List.map, In.env, aA, aB]
 obtain ⟨n, hn⟩ : ∃ n, max (bd a).length (bd b).length + 1 = n := ⟨_, rfl⟩
 have hrl : r < 32768 ^ n := by
  have h1 := xO a
  have h2 := xO b
  have h3 : 32768 ^ (bd a).length ≤ 32768 ^ (n - 1) := Nat.pow_le_pow_right (by omega) (by omega)
  have h4 : 32768 ^ (bd b).length ≤ 32768 ^ (n - 1) := Nat.pow_le_pow_right (by omega) (by omega)
  have h5 : 32768 ^ n = 32768 ^ (n - 1) * 32768 := by rw [← Nat.pow_succ]; congr 1; omega
  rcases hk with rfl | rfl <;> omega
 refine aC (EG a b) rfl ?_
 dsimp only [aA, aB]
 refine vn (aE (by omega) (by omega)) rfl ?_
 dsimp only [aA, aB]
 refine yF (n := n) (f := fun d : Nat => [aF.int .i64 (d : Int)]) 0 rfl rfl (by omega) rfl (by omega) (by simp only [maxLen]; omega) ?_
 dsimp only [aA, aB]
 refine aY {g : Nat × Int × List Nat // zD 32768 (bd a).reverse (bd b).reverse n k g.1 g.2.1 g.2.2} (fun g => [.one (.int .i64 g.1.2.1), .one (.int .i64 g.1.1), .rows (rB g.1.2.2.reverse)]) (fun g => n - g.1.1) ⟨(0, 0, List.replicate n 0), zD.init (by omega) _ _ _ _⟩ ⟨aH.Sub.same, aH.Sub.same, aH.Sub.of_eq (by rw [List.reverse_replicate]; rfl), trivial⟩ (fun _ => rfl) ?_
 rintro ⟨⟨i, c, os⟩, hI⟩
 dsimp only [aA, aB] at hI ⊢
 have hil := hI.le
 have hol := hI.len
 have hc0 := hI.c0
 have hc1 := hI.c1
 refine vn aU rfl ?_
 dsimp only [aA, aB]
 refine vs _ rfl (fun h5 => ?_) (fun h5 => ?_)
 ·obtain ⟨x, hx⟩ : ∃ x, a / 32768 ^ i % 32768 = x := ⟨_, rfl⟩
  obtain ⟨y, hy⟩ : ∃ y, b / 32768 ^ i % 32768 = y := ⟨_, rfl⟩
  have hxB : x < 32768 := by rw [← hx]; exact Nat.mod_lt _ (by omega)
  have hyB : y < 32768 := by rw [← hy]; exact Nat.mod_lt _ (by omega)
  have hcall1 := wB a i (by omega) (by omega)
  have hcall2 := wB b i (by omega) (by omega)
  rw [hx] at hcall1
  rw [hy] at hcall2
  have hnext : ∀ (z : Nat) (c' : Int), z < 32768 → -1 ≤ c' → c' ≤ 1 → (z : Int) + 32768 * c' = x + k * y + c → zD 32768 (bd a).reverse (bd b).reverse n k (i + 1) c' (os.set i z) := fun z c' h1 h2 h3 h4 =>
   hI.next (by omega) (by rw [DI, hx]) (by rw [DI, hy]) h2 h3 h1 h4
  have hst : ∀ z, os.reverse.set (n - 1 - i) z = (os.set i z).reverse := fun z => by rw [← hol]; exact Bn (by omega)
  obtain ⟨o0, hgo⟩ : ∃ o0, os.reverse[n - 1 - i]? = some o0 := ⟨_, List.getElem?_eq_getElem (by rw [List.length_reverse]; omega)⟩
  have hky : k * y = y ∨ k * y = -(y : Int) := by rcases hk with rfl | rfl <;> simp
  generalize hkyv : k * (y : Int) = ky at hnext hky
  refine aC hcall1 rfl ?_
  dsimp only [aA, aB]
  refine aC hcall2 rfl ?_
  dsimp only [aA, aB]
  refine vn (oT (c := ky) (by rw [hkyv]; exact cY (by omega) (by omega))) rfl ?_
  dsimp only [aA, aB]
  refine vn (aE (by omega) (by omega)) rfl ?_
  dsimp only [aA, aB]
  refine vn (aE (by omega) (by omega)) rfl ?_
  dsimp only [aA, aB]
  refine vn aU rfl ?_
  dsimp only [aA, aB]
  refine vs _ rfl (fun h12 => ?_) (fun h12 => ?_)
  ·refine vn (aE (by omega) (by omega)) rfl ?_
   dsimp only [aA, aB]
   refine vn dU rfl ?_
   dsimp only [aA, aB]
   refine vs _ rfl (fun h15 => ?_) (fun h15 => ?_)
   ·exfalso; omega
   refine vn (aG (by omega) (by omega)) rfl ?_
   dsimp only [aA, aB]
   refine vn (aG (by omega) (by omega)) rfl ?_
   dsimp only [aA, aB]
   refine bW rfl rfl (by omega) (by rw [List.length_reverse]; omega) ?_
   refine jM (d' := (x + ky + c + 32768).toNat) rfl rfl (by omega) (by omega) hgo (by show [aF.int .i64 _] = [aF.int .i64 _]; congr 2; omega) ?_
   rw [hst]
   dsimp only [aA, aB]
   refine vn (aE (by omega) (by omega)) rfl ?_
   dsimp only [aA, aB]
   exact aO rfl ⟨⟨(i + 1, -1, os.set i (x + ky + c + 32768).toNat), hnext _ (-1) (by omega) (by omega) (by omega) (by omega)⟩, aL.rfl, by show n - (i + 1) < n - i; omega⟩
  refine vn dU rfl ?_
  dsimp only [aA, aB]
  refine vs _ rfl (fun h30 => ?_) (fun h30 => ?_)
  ·refine vn (aG (by omega) (by omega)) rfl ?_
   dsimp only [aA, aB]
   refine vn (aG (by omega) (by omega)) rfl ?_
   dsimp only [aA, aB]
   refine vn (aG (by omega) (by omega)) rfl ?_
   dsimp only [aA, aB]
   refine bW rfl rfl (by omega) (by rw [List.length_reverse]; omega) ?_
   refine jM (d' := (x + ky + c - 32768).toNat) rfl rfl (by omega) (by omega) hgo (by show [aF.int .i64 _] = [aF.int .i64 _]; congr 2; omega) ?_
   rw [hst]
   dsimp only [aA, aB]
   refine vn (aE (by omega) (by omega)) rfl ?_
   dsimp only [aA, aB]
   exact aO rfl ⟨⟨(i + 1, 1, os.set i (x + ky + c - 32768).toNat), hnext _ 1 (by omega) (by omega) (by omega) (by omega)⟩, aL.rfl, by show n - (i + 1) < n - i; omega⟩
  refine vn (aG (by omega) (by omega)) rfl ?_
  dsimp only [aA, aB]
  refine vn (aG (by omega) (by omega)) rfl ?_
  dsimp only [aA, aB]
  refine bW rfl rfl (by omega) (by rw [List.length_reverse]; omega) ?_
  refine jM (d' := (x + ky + c).toNat) rfl rfl (by omega) (by omega) hgo (by show [aF.int .i64 _] = [aF.int .i64 _]; congr 2; omega) ?_
  rw [hst]
  dsimp only [aA, aB]
  refine vn (aE (by omega) (by omega)) rfl ?_
  dsimp only [aA, aB]
  exact aO rfl ⟨⟨(i + 1, 0, os.set i (x + ky + c).toNat), hnext _ 0 (by omega) (by omega) (by omega) (by omega)⟩, aL.rfl, by show n - (i + 1) < n - i; omega⟩
 have hie : i = n := by omega
 subst hie
 have hf := hI.fin (by omega) (by rw [List.length_reverse]; omega) (by rw [List.length_reverse]; omega) (r := r) (by rw [val_rev, val_rev]; exact hr) hrl
 refine aC (pI os.reverse hI.dg.rev (by rw [List.length_reverse]; omega)) rfl ?_
 dsimp only [aA, aB]
 refine aJ ?_
 rw [← hf, bv, List.reverse_reverse]; rfl
end Go.Sy
namespace Go.Sy
open Go Go.Proofs Tryz Ord
theorem vC (z : Int) : -1 ≤ z.sign ∧ z.sign ≤ 1 := by rcases bP z with ⟨_, e⟩ | ⟨_, e⟩ | ⟨_, e⟩ <;> omega
theorem BC (z : Int) : aN prog 183 [(zT z : aH)] (.ret [zT (-z)]) := by
 refine aD (args := [.v (some 2)]) (ins := [.v (zT z)]) (hints := (fun _ => none)) fo (by kernel_rfl) func183 ⟨rfl, trivial⟩ ?_
 rw [Nl]
 dsimp only [List.map, In.env, aA, aB]
 have := vC z
 refine vn (zN (by omega) (by omega)) rfl ?_
 dsimp only [aA, aB]
 refine aJ ?_
 show [aH.agg [.int .i64 (-z.sign), bT z.natAbs]] = [zT (-z)]
 rw [zT, zC, Int.sign_neg, Int.natAbs_neg]
theorem QJ {a b : Nat} : (bd (a + b)).length ≤ max (bd a).length (bd b).length + 1 := by
 apply gB
 have h1 := xO a
 have h2 := xO b
 have h3 : 32768 ^ (bd a).length ≤ 32768 ^ (max (bd a).length (bd b).length) := Nat.pow_le_pow_right (by omega) (by omega)
 have h4 : 32768 ^ (bd b).length ≤ 32768 ^ (max (bd a).length (bd b).length) := Nat.pow_le_pow_right (by omega) (by omega)
 rw [Nat.pow_succ]; omega
theorem NN (x y : Int) (hx : (bd x.natAbs).length < 137438953472) (hy : (bd y.natAbs).length < 137438953472) : aN prog 138 [(zT x : aH), (zT y : aH)] (.ret [zT (x + y)]) := by
 refine aD (args := [.v (some 2), .v (some 2)]) (ins := [.v (zT x), .v (zT y)]) (hints := (fun _ => none)) fo (by kernel_rfl) func138 ⟨rfl, rfl, trivial⟩ ?_
 rw [Na]
 dsimp only [List.map, In.env, aA, aB]
 have hx0 := bP x
 have hy0 := bP y
 have hl : ∀ n, n ≤ x.natAbs + y.natAbs → (bd n).length < 274877906944 := fun n hn => by
  have h1 := dJ hn
  have h2 := QJ (a := x.natAbs) (b := y.natAbs)
  omega
 refine vn aX rfl ?_
 dsimp only [aA, aB]
 refine vs _ rfl (fun h1 => ?_) (fun h1 => ?_)
 ·rw [show x = 0 by omega, Int.zero_add]; exact aJ rfl
 refine vn aX rfl ?_
 dsimp only [aA, aB]
 refine vs _ rfl (fun h4 => ?_) (fun h4 => ?_)
 ·rw [show y = 0 by omega, Int.add_zero]; exact aJ rfl
 refine vn aX rfl ?_
 dsimp only [aA, aB]
 refine vs _ rfl (fun h7 => ?_) (fun h7 => ?_)
 ·refine aC (gZ x.natAbs y.natAbs (x.natAbs + y.natAbs) 1 (.inl rfl) (by omega) (by omega) (by omega)) rfl ?_
  dsimp only [aA, aB]
  refine aC (eF x.sign (x + y) _ (fG _) (by have := hl _ (Nat.le_refl _); omega) (by rw [eB]; omega) (fun _ => by
   rcases hx0 with ⟨h, e⟩ | ⟨h, e⟩ | ⟨h, e⟩
   ·rw [e]; exact Int.sign_eq_neg_one_of_neg (by omega)
   ·omega
   ·rw [e]; exact Int.sign_eq_one_of_pos (by omega))) rfl ?_
  dsimp only [aA, aB]
  exact aJ rfl
 refine aC (mY x.natAbs y.natAbs (by omega)) rfl ?_
 dsimp only [aA, aB]
 refine vn dU rfl ?_
 dsimp only [aA, aB]
 have hci : (0 ≤ dR (x.natAbs : Int) (y.natAbs : Int)) ↔ y.natAbs ≤ x.natAbs := by
  have := oO (a := (x.natAbs : Int)) (b := (y.natAbs : Int)); omega
 refine vs _ rfl (fun h13 => ?_) (fun h13 => ?_)
 ·refine aC (gZ x.natAbs y.natAbs (x.natAbs - y.natAbs) (-1) (.inr rfl) (by omega) (by omega) (by omega)) rfl ?_
  dsimp only [aA, aB]
  refine aC (eF x.sign (x + y) _ (fG _) (by have := hl (x.natAbs - y.natAbs) (by omega); omega) (by rw [eB]; omega) (fun hne => by
   rw [eB] at hne
   rcases hx0 with ⟨h, e⟩ | ⟨h, e⟩ | ⟨h, e⟩
   ·rw [e]; exact Int.sign_eq_neg_one_of_neg (by omega)
   ·omega
   ·rw [e]; exact Int.sign_eq_one_of_pos (by omega))) rfl ?_
  dsimp only [aA, aB]
  exact aJ rfl
 refine aC (gZ y.natAbs x.natAbs (y.natAbs - x.natAbs) (-1) (.inr rfl) (by omega) (by omega) (by omega)) rfl ?_
 dsimp only [aA, aB]
 refine aC (eF y.sign (x + y) _ (fG _) (by have := hl (y.natAbs - x.natAbs) (by omega); omega) (by rw [eB]; omega) (fun hne => by
  rw [eB] at hne
  rcases hy0 with ⟨h, e⟩ | ⟨h, e⟩ | ⟨h, e⟩
  ·rw [e]; exact Int.sign_eq_neg_one_of_neg (by omega)
  ·omega
  ·rw [e]; exact Int.sign_eq_one_of_pos (by omega))) rfl ?_
 dsimp only [aA, aB]
 exact aJ rfl
theorem FB {n la i : Nat} (h : la = (bd n).length) (hi : i < la) : ∃ d, (bd n)[la - 1 - i]? = some d ∧ (bd n).reverse[i]? = some d ∧ d < 32768 := by
 subst h
 have hd : (bd n).reverse[i]? = some ((bd n).reverse[i]'(by rw [List.length_reverse]; exact hi)) := List.getElem?_eq_getElem _
 exact ⟨_, by rw [vF hi]; exact hd, hd, (fG n).rev.get hd⟩
set_option maxHeartbeats 2000000 in
theorem iM (x y : Int) (hs : (bd x.natAbs).length + (bd y.natAbs).length < 274877906944) : aN prog 135 [(zT x : aH), (zT y : aH)] (.ret [zT (x * y)]) := by
 refine aD (args := [.v (some 2), .v (some 2)]) (ins := [.v (zT x), .v (zT y)]) (hints := (fun _ => none)) fo (by kernel_rfl) func135 ⟨rfl, rfl, trivial⟩ ?_
 rw [Nu]
 dsimp only [List.map, In.env, aA, aB]
 obtain ⟨la, hla⟩ : ∃ n, (bd x.natAbs).length = n := ⟨_, rfl⟩
 obtain ⟨lb, hlb⟩ : ∃ n, (bd y.natAbs).length = n := ⟨_, rfl⟩
 have hra : (bd x.natAbs).reverse.length = la := by rw [List.length_reverse, hla]
 have hrb : (bd y.natAbs).reverse.length = lb := by rw [List.length_reverse, hlb]
 have hsx := vC x
 have hsy := vC y
 refine vn (aK dG (List.length_map _)) rfl ?_
 dsimp only [aA, aB]
 refine vn (aK dG (List.length_map _)) rfl ?_
 dsimp only [aA, aB]
 refine vn (aE (by omega) (by omega)) rfl ?_
 dsimp only [aA, aB]
 rw [hla, hlb]
 refine yF (n := la + lb) (f := fun d : Nat => [aF.int .i64 (d : Int)]) 0 rfl rfl (by omega) rfl (by omega) (by simp only [maxLen]; omega) ?_
 dsimp only [aA, aB]
 refine vn (aK dG (List.length_map _)) rfl ?_
 dsimp only [aA, aB]
 refine vn (aG (by omega) (by omega)) rfl ?_
 dsimp only [aA, aB]
 rw [hla]
 refine aY {g : Nat × List Nat // yZ 32768 (bd x.natAbs).reverse (bd y.natAbs).reverse g.1 g.2} (fun g => [.one (.int .i64 ((la : Int) - 1 - g.1.1)), .rows (rB g.1.2.reverse)]) (fun g => la - g.1.1) ⟨(0, List.replicate (la + lb) 0), by have := yZ.init (B := 32768) (by omega) (bd x.natAbs).reverse (bd y.natAbs).reverse; rw [hra, hrb] at this; exact this⟩ ⟨aH.Sub.of_eq (congrArg (fun q => aH.one (aF.int .i64 q)) (by show (la : Int) - 1 = (la : Int) - 1 - ((0 : Nat) : Int); omega)), aH.Sub.of_eq (by rw [List.reverse_replicate]; rfl), trivial⟩ (fun _ => rfl) ?_
 rintro ⟨⟨i, os⟩, hO⟩
 dsimp only [aA, aB] at hO ⊢
 have hil := hO.le
 rw [hra] at hil
 refine vn dU rfl ?_
 dsimp only [aA, aB]
 refine vs _ rfl (fun h8 => ?_) (fun h8 => ?_)
 ·refine vn (aK dG (List.length_map _)) rfl ?_
  obtain ⟨d, hd1, hd2, hd3⟩ := FB (n := x.natAbs) (la := la) (i := i) hla.symm (by omega)
  dsimp only [aA, aB]
  refine vn (aG (by omega) (by omega)) rfl ?_
  dsimp only [aA, aB]
  rw [hlb]
  refine aY {g : Nat × Nat × List Nat // Tj 32768 (bd x.natAbs).reverse (bd y.natAbs).reverse i d (val 32768 ((bd x.natAbs).reverse.take i) * val 32768 (bd y.natAbs).reverse) g.1 g.2.1 g.2.2} (fun g => [.one (.int .i64 g.1.2.1), .one (.int .i64 ((lb : Int) - 1 - g.1.1)), .rows (rB g.1.2.2.reverse)]) (fun g => lb - g.1.1) ⟨(0, 0, os), hO.Yx (by omega)⟩ ⟨aH.Sub.same, aH.Sub.of_eq (congrArg (fun q => aH.one (aF.int .i64 q)) (by show (lb : Int) - 1 = (lb : Int) - 1 - ((0 : Nat) : Int); omega)), aH.Sub.same, trivial⟩ (fun _ => rfl) ?_
  rintro ⟨⟨k, c, os2⟩, hI⟩
  dsimp only [aA, aB] at hI ⊢
  have hkl := hI.le
  have hol := hI.len
  have hc1 := hI.c1
  rw [hrb] at hkl
  rw [hra, hrb] at hol
  refine vn dU rfl ?_
  dsimp only [aA, aB]
  refine vs _ rfl (fun h13 => ?_) (fun h13 => ?_)
  ·refine vn (aE (by omega) (by omega)) rfl ?_
   dsimp only [aA, aB]
   refine vn (aE (by omega) (by omega)) rfl ?_
   dsimp only [aA, aB]
   obtain ⟨e, he1, he2, he3⟩ := FB (n := y.natAbs) (la := lb) (i := k) hlb.symm (by omega)
   obtain ⟨o, ho2⟩ : ∃ o, os2[i + k]? = some o := ⟨_, List.getElem?_eq_getElem (by omega)⟩
   have ho1 : os2.reverse[la + lb - 1 - (i + k)]? = some o := by
    have := vF (ds := os2.reverse) (i := i + k) (by rw [List.length_reverse]; omega)
    rw [List.reverse_reverse, List.length_reverse, hol] at this
    rw [this]; exact ho2
   have hoB := hI.dg.get ho2
   have hde : d * e ≤ 32767 * 32767 := Nat.mul_le_mul (by omega) (by omega)
   have hst : ∀ z, os2.reverse.set (la + lb - 1 - (i + k)) z = (os2.set (i + k) z).reverse := fun z => by rw [← hol]; exact Bn (by omega)
   obtain ⟨w, hw⟩ : ∃ w, c + (d * e + o) = w := ⟨_, rfl⟩
   have hN := hI.next (z := w % 32768) (c' := w / 32768) (by rw [hrb]; omega) he2 ho2 (by omega) (by omega) (by omega)
   refine bW rfl rfl (by omega) (by rw [List.length_reverse]; omega) ?_
   refine mX rfl rfl (by omega) (by omega) ho1 rfl ?_
   dsimp only [aA, aB]
   refine vn (aR dG (by omega) (by omega) hd1) rfl ?_
   dsimp only [aA, aB]
   refine vn (bA HV) rfl ?_
   dsimp only [aA, aB]
   refine vn (aR dG (by omega) (by omega) he1) rfl ?_
   dsimp only [aA, aB]
   refine vn (bA HV) rfl ?_
   dsimp only [aA, aB]
   refine vn (oT (c := ((d * e : Nat) : Int)) (by rw [← Int.natCast_mul]; exact cY (by omega) (by omega))) rfl ?_
   dsimp only [aA, aB]
   refine vn (aE (by omega) (by omega)) rfl ?_
   dsimp only [aA, aB]
   refine vn (cM (c := (w : Int)) (by rw [show (o : Int) + ((d * e : Nat) : Int) + (c : Int) = (w : Int) by omega]; exact cY (by omega) (by omega))) rfl ?_
   dsimp only [aA, aB]
   refine vn (aE (by omega) (by omega)) rfl ?_
   dsimp only [aA, aB]
   refine vn (aE (by omega) (by omega)) rfl ?_
   dsimp only [aA, aB]
   refine vn (dI (by omega) (by omega)) rfl ?_
   dsimp only [aA, aB]
   refine bW rfl rfl (by omega) (by rw [List.length_reverse]; omega) ?_
   refine jM (d' := w % 32768) rfl rfl (by omega) (by omega) ho1 rfl ?_
   rw [hst]
   dsimp only [aA, aB]
   refine vn (fZ (by omega) (by omega) (by omega)) rfl ?_
   dsimp only [aA, aB]
   refine vn (aG (by omega) (by omega)) rfl ?_
   dsimp only [aA, aB]
   exact aO rfl ⟨⟨(k + 1, w / 32768, os2.set (i + k) (w % 32768)), hN⟩, ⟨aH.Sub.same, aH.Sub.of_eq (congrArg (fun q => aH.one (aF.int .i64 q)) (by show (lb : Int) - 1 - (k : Int) - 1 = (lb : Int) - 1 - ((k + 1 : Nat) : Int); omega)), aH.Sub.same, trivial⟩, by show lb - (k + 1) < lb - k; omega⟩
  have hke : k = lb := by omega
  subst hke
  obtain ⟨o, ho2⟩ : ∃ o, os2[i + k]? = some o := ⟨_, List.getElem?_eq_getElem (by omega)⟩
  have ho1 : os2.reverse[la + k - 1 - (i + k)]? = some o := by
   have := vF (ds := os2.reverse) (i := i + k) (by rw [List.length_reverse]; omega)
   rw [List.reverse_reverse, List.length_reverse, hol] at this
   rw [this]; exact ho2
  have hst : ∀ z, os2.reverse.set (la + k - 1 - (i + k)) z = (os2.set (i + k) z).reverse := fun z => by rw [← hol]; exact Bn (by omega)
  have hN : yZ 32768 (bd x.natAbs).reverse (bd y.natAbs).reverse (i + 1) (os2.set (i + k) c) := by
   have := hI
   rw [← hrb] at this ⊢
   exact this.out hd2
  refine bW rfl rfl (by omega) (by rw [List.length_reverse]; omega) ?_
  refine jM (d' := c) rfl rfl (by omega) (by omega) ho1 rfl ?_
  rw [hst]
  dsimp only [aA, aB]
  refine vn (aG (by omega) (by omega)) rfl ?_
  dsimp only [aA, aB]
  exact aO rfl ⟨⟨(i + 1, os2.set (i + k) c), hN⟩, ⟨aH.Sub.of_eq (congrArg (fun q => aH.one (aF.int .i64 q)) (by show (la : Int) - 1 - (i : Int) - 1 = (la : Int) - 1 - ((i + 1 : Nat) : Int); omega)), aH.Sub.same, trivial⟩, by show la - (i + 1) < la - i; omega⟩
 have hie : i = la := by omega
 subst hie
 have hf : val 32768 os = x.natAbs * y.natAbs := by
  have := hO
  rw [← hra] at this
  have := this.fin
  rw [val_rev, val_rev] at this; exact this
 have hol := hO.len
 rw [hra, hrb] at hol
 have hmul : x.sign * y.sign = (x * y).sign := (Int.sign_mul x y).symm
 have hsb := vC (x * y)
 refine vn (oT (c := (x * y).sign) (by rw [hmul]; exact cY (by omega) (by omega))) rfl ?_
 dsimp only [aA, aB]
 refine aC (eF (x * y).sign (x * y) os.reverse hO.dg.rev (by rw [List.length_reverse]; omega) (by rw [bv, List.reverse_reverse, hf, Int.natAbs_mul]) (fun _ => rfl)) rfl ?_
 dsimp only [aA, aB]
 exact aJ rfl
end Go.Sy
