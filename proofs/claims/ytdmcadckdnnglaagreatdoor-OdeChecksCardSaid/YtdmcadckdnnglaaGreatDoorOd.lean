/- OdeChecks.
-/
import Derived.Test.YtdmcadckdnnglaaGreatDoorOc
import Derived.Test.YtdmcadckdnnglaaGreatDoorQg
set_option linter.unusedVariables false
set_option linter.unusedSimpArgs false
namespace Go.Sy
open Go Go.Proofs Tryz Ord

def t133_4 : Tr := .ret [(W 5 0)]
def t133_3 : Tr := .need (.call 16 [] [none]) (.call ⟨.value (.func 16), #[], #[]⟩) 4 true t133_4
def t133_12 : Tr := .ret [(.one (.c (.k (.bool false))))]
def t133_40 : Tr := .ret [(W 28 0)]
def t133_39 : Tr := .need (.call 16 [] [none]) (.call ⟨.value (.func 16), #[], #[]⟩) 4 true t133_40
def t133_38 : Tr := .split (.u 27 0) t133_39 t133_12
def t133_37 : Tr := .need (.call 23 [(.agg [(U 7 0), (U 7 1), (U 7 2), (U 7 3), (U 7 4)])] [none]) (.call ⟨.value (.func 23), #[(.tmp 72)], #[42]⟩) 4 false t133_38
def t133_36 : Tr := .split (.u 26 0) t133_37 t133_12
def t133_35 : Tr := .need (.prim [(W 8 0), (WK (2))] none) (.binOp .eql 55 (.tmp 69) (.const (I3 (2))) 55) 4 false t133_36
def t133_50 : Tr := .ret [(W 29 0)]
def t133_49 : Tr := .need (.call 16 [] [none]) (.call ⟨.value (.func 16), #[], #[]⟩) 4 true t133_50
def t133_48 : Tr := .split (.u 28 0) t133_49 t133_12
def t133_47 : Tr := .need (.call 23 [(.agg [(U 7 0), (U 7 1), (U 7 2), (U 7 3), (U 7 4)])] [none]) (.call ⟨.value (.func 23), #[(.tmp 72)], #[42]⟩) 4 false t133_48
def t133_46 : Tr := .split (.u 27 0) t133_47 t133_12
def t133_45 : Tr := .need (.prim [(W 8 0), (WK (2))] none) (.binOp .eql 55 (.tmp 69) (.const (I3 (2))) 55) 4 false t133_46
def t133_60 : Tr := .ret [(W 30 0)]
def t133_59 : Tr := .need (.call 16 [] [none]) (.call ⟨.value (.func 16), #[], #[]⟩) 4 true t133_60
def t133_58 : Tr := .split (.u 29 0) t133_59 t133_12
def t133_57 : Tr := .need (.call 23 [(.agg [(U 7 0), (U 7 1), (U 7 2), (U 7 3), (U 7 4)])] [none]) (.call ⟨.value (.func 23), #[(.tmp 87)], #[42]⟩) 4 false t133_58
def t133_56 : Tr := .split (.u 28 0) t133_57 t133_12
def t133_55 : Tr := .need (.prim [(W 8 0), (WK (3))] none) (.binOp .eql 55 (.tmp 84) (.const (I3 (3))) 55) 4 false t133_56
def t133_70 : Tr := .ret [(W 31 0)]
def t133_69 : Tr := .need (.call 16 [] [none]) (.call ⟨.value (.func 16), #[], #[]⟩) 4 true t133_70
def t133_68 : Tr := .split (.u 30 0) t133_69 t133_12
def t133_67 : Tr := .need (.call 23 [(.agg [(U 7 0), (U 7 1), (U 7 2), (U 7 3), (U 7 4)])] [none]) (.call ⟨.value (.func 23), #[(.tmp 87)], #[42]⟩) 4 false t133_68
def t133_66 : Tr := .split (.u 29 0) t133_67 t133_12
def t133_65 : Tr := .need (.prim [(W 8 0), (WK (3))] none) (.binOp .eql 55 (.tmp 84) (.const (I3 (3))) 55) 4 false t133_66
def t133_79 : Tr := .ret [(W 32 0)]
def t133_78 : Tr := .need (.call 16 [] [none]) (.call ⟨.value (.func 16), #[], #[]⟩) 4 true t133_79
def t133_77 : Tr := .split (.u 31 0) t133_78 t133_12
def t133_76 : Tr := .need (.call 24 [(.agg [(U 7 0), (U 7 1), (U 7 2), (U 7 3), (U 7 4)]), (.agg [(U 30 0), (U 30 1), (U 30 2), (U 30 3), (U 30 4), (U 30 5)])] [none]) (.call ⟨.value (.func 24), #[(.tmp 96), (.tmp 99)], #[42, 52]⟩) 4 false t133_77
def t133_75 : Tr := .need (.call 25 [(W 1 0), (W 2 0)] [(some 6)]) (.call ⟨.value (.func 25), #[(.tmp 97), (.tmp 98)], #[5, 3]⟩) 52 false t133_76
def t133_74 : Tr := .split (.u 29 0) t133_75 t133_12
def t133_73 : Tr := .need (.prim [(W 8 0), (WK (0))] none) (.binOp .eql 55 (.tmp 93) (.const (I3 (0))) 55) 4 false t133_74
def t133_64 : Tr := .split (.u 28 0) t133_65 t133_73
def t133_63 : Tr := .need (.prim [(W 2 0), (WK (40))] none) (.binOp .gtr 3 (.tmp 81) (.const (I3 (40))) 3) 4 false t133_64
def t133_54 : Tr := .split (.u 27 0) t133_55 t133_63
def t133_53 : Tr := .need (.prim [(W 2 0), (WK (0))] none) (.binOp .lss 3 (.tmp 78) (.const (I3 (0))) 3) 4 false t133_54
def t133_44 : Tr := .split (.u 26 0) t133_45 t133_53
def t133_43 : Tr := .need (.prim [(W 1 0), (.one (.c (.k (.int .u8 (8)))))] none) (.binOp .gtr 5 (.tmp 66) (.const (.int .u8 (8))) 5) 4 false t133_44
def t133_34 : Tr := .split (.u 25 0) t133_35 t133_43
def t133_33 : Tr := .need (.prim [(W 1 0), (.one (.c (.k (.int .u8 (1)))))] none) (.binOp .lss 5 (.tmp 63) (.const (.int .u8 (1))) 5) 4 false t133_34
def t133_31 : Tr := .split (.u 24 0) t133_12 t133_33
def t133_30 : Tr := .need (.prim [(W 23 0), (WK (2))] none) (.binOp .neq 55 (.tmp 59) (.const (I3 (2))) 55) 4 false t133_31
def t133_29 : Tr := .need (.call 21 [(.agg [(U 5 0), (U 5 1), (U 5 2), (U 5 3), (U 5 4)])] [none]) (.call ⟨.value (.func 21), #[(.tmp 58)], #[42]⟩) 55 false t133_30
def t133_89 : Tr := .ret [(W 26 0)]
def t133_88 : Tr := .need (.call 16 [] [none]) (.call ⟨.value (.func 16), #[], #[]⟩) 4 true t133_89
def t133_87 : Tr := .split (.u 25 0) t133_88 t133_12
def t133_86 : Tr := .need (.call 23 [(.agg [(U 7 0), (U 7 1), (U 7 2), (U 7 3), (U 7 4)])] [none]) (.call ⟨.value (.func 23), #[(.tmp 72)], #[42]⟩) 4 false t133_87
def t133_85 : Tr := .split (.u 24 0) t133_86 t133_12
def t133_84 : Tr := .need (.prim [(W 8 0), (WK (2))] none) (.binOp .eql 55 (.tmp 69) (.const (I3 (2))) 55) 4 false t133_85
def t133_99 : Tr := .ret [(W 27 0)]
def t133_98 : Tr := .need (.call 16 [] [none]) (.call ⟨.value (.func 16), #[], #[]⟩) 4 true t133_99
def t133_97 : Tr := .split (.u 26 0) t133_98 t133_12
def t133_96 : Tr := .need (.call 23 [(.agg [(U 7 0), (U 7 1), (U 7 2), (U 7 3), (U 7 4)])] [none]) (.call ⟨.value (.func 23), #[(.tmp 72)], #[42]⟩) 4 false t133_97
def t133_95 : Tr := .split (.u 25 0) t133_96 t133_12
def t133_94 : Tr := .need (.prim [(W 8 0), (WK (2))] none) (.binOp .eql 55 (.tmp 69) (.const (I3 (2))) 55) 4 false t133_95
def t133_106 : Tr := .need (.call 23 [(.agg [(U 7 0), (U 7 1), (U 7 2), (U 7 3), (U 7 4)])] [none]) (.call ⟨.value (.func 23), #[(.tmp 87)], #[42]⟩) 4 false t133_38
def t133_105 : Tr := .split (.u 26 0) t133_106 t133_12
def t133_104 : Tr := .need (.prim [(W 8 0), (WK (3))] none) (.binOp .eql 55 (.tmp 84) (.const (I3 (3))) 55) 4 false t133_105
def t133_116 : Tr := .need (.call 23 [(.agg [(U 7 0), (U 7 1), (U 7 2), (U 7 3), (U 7 4)])] [none]) (.call ⟨.value (.func 23), #[(.tmp 87)], #[42]⟩) 4 false t133_48
def t133_115 : Tr := .split (.u 27 0) t133_116 t133_12
def t133_114 : Tr := .need (.prim [(W 8 0), (WK (3))] none) (.binOp .eql 55 (.tmp 84) (.const (I3 (3))) 55) 4 false t133_115
def t133_125 : Tr := .need (.call 24 [(.agg [(U 7 0), (U 7 1), (U 7 2), (U 7 3), (U 7 4)]), (.agg [(U 28 0), (U 28 1), (U 28 2), (U 28 3), (U 28 4), (U 28 5)])] [none]) (.call ⟨.value (.func 24), #[(.tmp 96), (.tmp 99)], #[42, 52]⟩) 4 false t133_58
def t133_124 : Tr := .need (.call 25 [(W 1 0), (W 2 0)] [(some 6)]) (.call ⟨.value (.func 25), #[(.tmp 97), (.tmp 98)], #[5, 3]⟩) 52 false t133_125
def t133_123 : Tr := .split (.u 27 0) t133_124 t133_12
def t133_122 : Tr := .need (.prim [(W 8 0), (WK (0))] none) (.binOp .eql 55 (.tmp 93) (.const (I3 (0))) 55) 4 false t133_123
def t133_113 : Tr := .split (.u 26 0) t133_114 t133_122
def t133_112 : Tr := .need (.prim [(W 2 0), (WK (40))] none) (.binOp .gtr 3 (.tmp 81) (.const (I3 (40))) 3) 4 false t133_113
def t133_103 : Tr := .split (.u 25 0) t133_104 t133_112
def t133_102 : Tr := .need (.prim [(W 2 0), (WK (0))] none) (.binOp .lss 3 (.tmp 78) (.const (I3 (0))) 3) 4 false t133_103
def t133_93 : Tr := .split (.u 24 0) t133_94 t133_102
def t133_92 : Tr := .need (.prim [(W 1 0), (.one (.c (.k (.int .u8 (8)))))] none) (.binOp .gtr 5 (.tmp 66) (.const (.int .u8 (8))) 5) 4 false t133_93
def t133_83 : Tr := .split (.u 23 0) t133_84 t133_92
def t133_82 : Tr := .need (.prim [(W 1 0), (.one (.c (.k (.int .u8 (1)))))] none) (.binOp .lss 5 (.tmp 63) (.const (.int .u8 (1))) 5) 4 false t133_83
def t133_28 : Tr := .split (.u 22 0) t133_29 t133_82
def t133_27 : Tr := .need (.prim [(W 21 0)] none) (.unOp .not 4 (.tmp 55)) 4 false t133_28
def t133_26 : Tr := .need (.call 22 [(.agg [(U 6 0), (U 6 1), (U 6 2), (U 6 3), (U 6 4), (U 6 5)])] [none]) (.call ⟨.value (.func 22), #[(.tmp 54)], #[52]⟩) 4 false t133_27
def t133_24 : Tr := .split (.u 20 0) t133_12 t133_26
def t133_23 : Tr := .need (.prim [(W 19 0), (WK (2))] none) (.binOp .neq 55 (.tmp 50) (.const (I3 (2))) 55) 4 false t133_24
def t133_22 : Tr := .need (.call 19 [(W 5 0)] [none]) (.call ⟨.value (.func 19), #[(.tmp 49)], #[32]⟩) 55 false t133_23
def t133_136 : Tr := .split (.u 22 0) t133_12 t133_82
def t133_135 : Tr := .need (.prim [(W 21 0), (WK (2))] none) (.binOp .neq 55 (.tmp 59) (.const (I3 (2))) 55) 4 false t133_136
def t133_134 : Tr := .need (.call 21 [(.agg [(U 5 0), (U 5 1), (U 5 2), (U 5 3), (U 5 4)])] [none]) (.call ⟨.value (.func 21), #[(.tmp 58)], #[42]⟩) 55 false t133_135
def t133_194 : Tr := .ret [(W 24 0)]
def t133_193 : Tr := .need (.call 16 [] [none]) (.call ⟨.value (.func 16), #[], #[]⟩) 4 true t133_194
def t133_192 : Tr := .split (.u 23 0) t133_193 t133_12
def t133_191 : Tr := .need (.call 23 [(.agg [(U 7 0), (U 7 1), (U 7 2), (U 7 3), (U 7 4)])] [none]) (.call ⟨.value (.func 23), #[(.tmp 72)], #[42]⟩) 4 false t133_192
def t133_190 : Tr := .split (.u 22 0) t133_191 t133_12
def t133_189 : Tr := .need (.prim [(W 8 0), (WK (2))] none) (.binOp .eql 55 (.tmp 69) (.const (I3 (2))) 55) 4 false t133_190
def t133_204 : Tr := .ret [(W 25 0)]
def t133_203 : Tr := .need (.call 16 [] [none]) (.call ⟨.value (.func 16), #[], #[]⟩) 4 true t133_204
def t133_202 : Tr := .split (.u 24 0) t133_203 t133_12
def t133_201 : Tr := .need (.call 23 [(.agg [(U 7 0), (U 7 1), (U 7 2), (U 7 3), (U 7 4)])] [none]) (.call ⟨.value (.func 23), #[(.tmp 72)], #[42]⟩) 4 false t133_202
def t133_200 : Tr := .split (.u 23 0) t133_201 t133_12
def t133_199 : Tr := .need (.prim [(W 8 0), (WK (2))] none) (.binOp .eql 55 (.tmp 69) (.const (I3 (2))) 55) 4 false t133_200
def t133_211 : Tr := .need (.call 23 [(.agg [(U 7 0), (U 7 1), (U 7 2), (U 7 3), (U 7 4)])] [none]) (.call ⟨.value (.func 23), #[(.tmp 87)], #[42]⟩) 4 false t133_87
def t133_210 : Tr := .split (.u 24 0) t133_211 t133_12
def t133_209 : Tr := .need (.prim [(W 8 0), (WK (3))] none) (.binOp .eql 55 (.tmp 84) (.const (I3 (3))) 55) 4 false t133_210
def t133_221 : Tr := .need (.call 23 [(.agg [(U 7 0), (U 7 1), (U 7 2), (U 7 3), (U 7 4)])] [none]) (.call ⟨.value (.func 23), #[(.tmp 87)], #[42]⟩) 4 false t133_97
def t133_220 : Tr := .split (.u 25 0) t133_221 t133_12
def t133_219 : Tr := .need (.prim [(W 8 0), (WK (3))] none) (.binOp .eql 55 (.tmp 84) (.const (I3 (3))) 55) 4 false t133_220
def t133_230 : Tr := .need (.call 24 [(.agg [(U 7 0), (U 7 1), (U 7 2), (U 7 3), (U 7 4)]), (.agg [(U 26 0), (U 26 1), (U 26 2), (U 26 3), (U 26 4), (U 26 5)])] [none]) (.call ⟨.value (.func 24), #[(.tmp 96), (.tmp 99)], #[42, 52]⟩) 4 false t133_38
def t133_229 : Tr := .need (.call 25 [(W 1 0), (W 2 0)] [(some 6)]) (.call ⟨.value (.func 25), #[(.tmp 97), (.tmp 98)], #[5, 3]⟩) 52 false t133_230
def t133_228 : Tr := .split (.u 25 0) t133_229 t133_12
def t133_227 : Tr := .need (.prim [(W 8 0), (WK (0))] none) (.binOp .eql 55 (.tmp 93) (.const (I3 (0))) 55) 4 false t133_228
def t133_218 : Tr := .split (.u 24 0) t133_219 t133_227
def t133_217 : Tr := .need (.prim [(W 2 0), (WK (40))] none) (.binOp .gtr 3 (.tmp 81) (.const (I3 (40))) 3) 4 false t133_218
def t133_208 : Tr := .split (.u 23 0) t133_209 t133_217
def t133_207 : Tr := .need (.prim [(W 2 0), (WK (0))] none) (.binOp .lss 3 (.tmp 78) (.const (I3 (0))) 3) 4 false t133_208
def t133_198 : Tr := .split (.u 22 0) t133_199 t133_207
def t133_197 : Tr := .need (.prim [(W 1 0), (.one (.c (.k (.int .u8 (8)))))] none) (.binOp .gtr 5 (.tmp 66) (.const (.int .u8 (8))) 5) 4 false t133_198
def t133_188 : Tr := .split (.u 21 0) t133_189 t133_197
def t133_187 : Tr := .need (.prim [(W 1 0), (.one (.c (.k (.int .u8 (1)))))] none) (.binOp .lss 5 (.tmp 63) (.const (.int .u8 (1))) 5) 4 false t133_188
def t133_133 : Tr := .split (.u 20 0) t133_134 t133_187
def t133_132 : Tr := .need (.prim [(W 19 0)] none) (.unOp .not 4 (.tmp 55)) 4 false t133_133
def t133_131 : Tr := .need (.call 22 [(.agg [(U 6 0), (U 6 1), (U 6 2), (U 6 3), (U 6 4), (U 6 5)])] [none]) (.call ⟨.value (.func 22), #[(.tmp 54)], #[52]⟩) 4 false t133_132
def t133_21 : Tr := .split (.u 18 0) t133_22 t133_131
def t133_20 : Tr := .need (.prim [(W 17 0)] none) (.unOp .not 4 (.tmp 45)) 4 false t133_21
def t133_19 : Tr := .need (.call 20 [(W 6 0)] [none]) (.call ⟨.value (.func 20), #[(.tmp 44)], #[44]⟩) 4 false t133_20
def t133_17 : Tr := .split (.u 16 0) t133_12 t133_19
def t133_16 : Tr := .need (.prim [(W 14 0), (W 15 0)] none) (.binOp .neq 4 (.tmp 38) (.tmp 40) 4) 4 false t133_17
def t133_15 : Tr := .need (.call 22 [(.agg [(U 6 0), (U 6 1), (U 6 2), (U 6 3), (U 6 4), (U 6 5)])] [none]) (.call ⟨.value (.func 22), #[(.tmp 39)], #[52]⟩) 4 false t133_16
def t133_14 : Tr := .need (.prim [(W 13 0), (WK (0))] none) (.binOp .eql 55 (.tmp 37) (.const (I3 (0))) 55) 4 false t133_15
def t133_13 : Tr := .need (.call 21 [(.agg [(U 5 0), (U 5 1), (U 5 2), (U 5 3), (U 5 4)])] [none]) (.call ⟨.value (.func 21), #[(.tmp 36)], #[42]⟩) 55 false t133_14
def t133_11 : Tr := .split (.u 12 0) t133_12 t133_13
def t133_10 : Tr := .need (.prim [(W 10 0), (W 11 0)] none) (.binOp .neq 4 (.tmp 30) (.tmp 33) 4) 4 false t133_11
def t133_9 : Tr := .need (.call 20 [(W 6 0)] [none]) (.call ⟨.value (.func 20), #[(.tmp 32)], #[44]⟩) 4 false t133_10
def t133_8 : Tr := .need (.prim [(W 9 0), (WK (0))] none) (.binOp .eql 55 (.tmp 29) (.const (I3 (0))) 55) 4 false t133_9
def t133_7 : Tr := .need (.call 19 [(W 5 0)] [none]) (.call ⟨.value (.func 19), #[(.tmp 28)], #[32]⟩) 55 false t133_8
def t133_6 : Tr := .need (.call 18 [(W 1 0), (W 2 0)] [(some 5), none]) (.call ⟨.value (.func 18), #[(.tmp 22), (.tmp 23)], #[5, 3]⟩) 56 false t133_7
def t133_5 : Tr := .need (.call 17 [(.agg [(U 0 0), (U 0 1), (U 0 2), (U 0 3), (U 0 4), (U 0 5), (.c (.k (.int .u8 (0)))), (U 0 7)])] [(some 5), (some 6)]) (.call ⟨.value (.func 17), #[(.tmp 17)], #[29]⟩) 53 false t133_6
def t133_2 : Tr := .split (.u 4 0) t133_3 t133_5
def t133_1 : Tr := .need (.prim [(W 3 0)] none) (.unOp .not 4 (.tmp 13)) 4 false t133_2
def t133_0 : Tr := .need (.call 15 [(.agg [(U 0 0), (U 0 1), (U 0 2), (U 0 3), (U 0 4), (U 0 5), (.c (.k (.int .u8 (0)))), (U 0 7)])] [none]) (.call ⟨.value (.func 15), #[(.tmp 12)], #[29]⟩) 4 true t133_1
theorem x_LOdeChecks : execF prog f3 (fun _ => none) [.v (some 8), .v none, .v none] = t133_0 := by kernel_rfl

theorem trim_cons (x : Rat) (xs : List Rat) : trim (x :: xs) = if tlen zr xs = 0 ∧ zr x = true then [] else x :: trim xs := by
  unfold trim
  simp only [tlen]
  split <;> simp
theorem tlen_trim : ∀ ps : List Rat, tlen zr (trim ps) = tlen zr ps
  | [] => rfl
  | x :: xs => by
    have ih := tlen_trim xs
    rw [trim_cons]
    split
    · rename_i h; simp only [tlen]; rw [if_pos h]
    · rename_i h; simp only [tlen]; rw [ih]
theorem trim_trim (ps : List Rat) : trim (trim ps) = trim ps := by
  have := trim_length ps
  show (trim ps).take (tlen zr (trim ps)) = trim ps
  rw [tlen_trim]
  exact List.take_of_length_le (by omega)
theorem tlen_zero {ps : List Rat} (h : tlen zr ps = 0) (c : Rat) : evalQ ps c = 0 := by
  induction ps with
  | nil => rfl
  | cons x xs ih =>
    simp only [tlen] at h
    split at h
    · rename_i h'
      have hx : x = 0 := by simpa [zr] using h'.2
      show evalQ xs c * c + x = 0
      rw [ih h'.1, hx]; grind
    · omega
theorem evalQ_trim (c : Rat) : ∀ ps : List Rat, evalQ (trim ps) c = evalQ ps c
  | [] => rfl
  | x :: xs => by
    have ih := evalQ_trim c xs
    rw [trim_cons]
    split
    · rename_i h
      rw [tlen_zero (ps := x :: xs) (by simp only [tlen]; rw [if_pos h])]; rfl
    · show evalQ (trim xs) c * c + x = evalQ xs c * c + x
      rw [ih]

/-- the same, but for zeros at the ends -/
def Sim (e e' : List (List Rat)) : Prop := e.length = e'.length ∧ ∀ (i : Nat) p p', e[i]? = some p → e'[i]? = some p' → tlen zr p = tlen zr p' ∧ ∀ c, evalQ p c = evalQ p' c
theorem Sim.symm {e e' : List (List Rat)} (h : Sim e e') : Sim e' e := ⟨h.1.symm, fun i p p' h1 h2 => ⟨(h.2 i p' p h2 h1).1.symm, fun c => ((h.2 i p' p h2 h1).2 c).symm⟩⟩
theorem Sim.okE1 {e e' : List (List Rat)} (h : Sim e e') (hk : okE e = true) : okE e' = true := by
  unfold okE at hk ⊢
  rw [decide_eq_true_iff] at hk ⊢
  obtain ⟨h1, h2, h3, h4⟩ := hk
  have hl := h.1
  refine ⟨by omega, by omega, fun p hp => ?_, fun p hp => ?_⟩
  · obtain ⟨i, hi⟩ := List.getElem?_of_mem hp
    have hi2 := (List.getElem?_eq_some_iff.1 hi).1
    obtain ⟨p', hp'⟩ : ∃ p', e[i]? = some p' := ⟨_, List.getElem?_eq_getElem (by omega)⟩
    rw [← (h.2 i p' p hp' hi).1]
    exact h3 p' (List.mem_of_getElem? hp')
  · rw [← hl] at hp
    obtain ⟨p', hp'⟩ : ∃ p', e[e.length - 1]? = some p' := ⟨_, List.getElem?_eq_getElem (by omega)⟩
    rw [← (h.2 _ p' p hp' hp).1]
    exact h4 p' hp'
theorem Sim.okE {e e' : List (List Rat)} (h : Sim e e') : okE e' = okE e := by
  cases he : Go.Sy.okE e with
  | true => exact h.okE1 he
  | false =>
    cases he' : Go.Sy.okE e' with
    | false => rfl
    | true => rw [h.symm.okE1 he'] at he; cases he
theorem Sim.regE1 {e e' : List (List Rat)} (h : Sim e e') (c : Rat) (hk : regE e c = true) : regE e' c = true := by
  unfold regE at hk ⊢
  rw [decide_eq_true_iff] at hk ⊢
  have hl := h.1
  intro p hp
  rw [← hl] at hp
  have hlt := (List.getElem?_eq_some_iff.1 hp).1
  obtain ⟨p', hp'⟩ : ∃ p', e[e.length - 1]? = some p' := ⟨_, List.getElem?_eq_getElem (by omega)⟩
  rw [← (h.2 _ p' p hp' hp).2]
  exact hk p' hp'
theorem Sim.regE {e e' : List (List Rat)} (h : Sim e e') (c : Rat) : regE e' c = regE e c := by
  cases he : Go.Sy.regE e c with
  | true => exact h.regE1 c he
  | false =>
    cases he' : Go.Sy.regE e' c with
    | false => rfl
    | true => rw [h.symm.regE1 c he'] at he; cases he
theorem Sim.okF {e e' : List (List Rat)} (h : Sim e e') (c : Rat) (y : List Rat) : okF e' c y = okF e c y := by
  unfold Go.Sy.okF
  rw [h.okE, h.regE, h.1]

theorem vals_q (l : List NumD) : (valsR l).map RQ.q = vals l := by
  rw [valsR, vals, List.map_map]; rfl
theorem longR_q (n : Nat) : (longR n).map RQ.q = longQ n := by
  rw [longR, longQ, List.map_set, List.map_replicate]; rfl
theorem eRQ_q (p : List (List NumD)) (long : Int) : eqR (eRQ p long) = p.map (fun l => trim (vals l)) ++ if 0 < long then [longQ (long % 50 + 1).toNat] else [] := by
  unfold eqR eRQ
  rw [List.map_append, List.map_map]
  congr 1
  · refine List.map_congr_left fun l _ => ?_
    show (trimR (valsR l)).map RQ.q = _
    rw [trimR_map, vals_q]
  · split
    · rw [List.map_cons, List.map_nil, longR_q]
    · rfl
theorem sim_app {α : Type} (f g : α → List Rat) (hfg : ∀ a, tlen zr (f a) = tlen zr (g a) ∧ ∀ c, evalQ (f a) c = evalQ (g a) c) (l : List α) (r : List (List Rat)) : Sim (l.map f ++ r) (l.map g ++ r) := by
  refine ⟨by simp, fun i p p' h1 h2 => ?_⟩
  rcases Nat.lt_or_ge i l.length with h | h
  · rw [List.getElem?_append_left (by simpa using h), List.getElem?_map, List.getElem?_eq_getElem h] at h1 h2
    simp only [Option.map_some, Option.some.injEq] at h1 h2
    subst h1 h2
    exact hfg _
  · rw [List.getElem?_append_right (by simpa using h)] at h1 h2
    rw [List.length_map] at h1 h2
    rw [h1] at h2; cases h2
    exact ⟨rfl, fun _ => rfl⟩
theorem sim_e (p : List (List NumD)) (long : Int) : Sim (eRat p long) (eqR (eRQ p long)) := by
  rw [eRQ_q]
  exact sim_app _ _ (fun l => ⟨(tlen_trim _).symm, fun c => (evalQ_trim c _).symm⟩) _ _

theorem longQ_ok (n : Nat) (hn : n ≤ 50) : (longQ n).length ≤ 64 ∧ ∀ q ∈ longQ n, Fit 513 q := by
  refine ⟨by simp [longQ]; omega, fun q hq => ?_⟩
  rcases List.mem_or_eq_of_mem_set hq with h | rfl
  · rw [(List.mem_replicate.1 h).2]; exact Fit.zero (by omega)
  · exact (fit_i64 (n := 1) (by omega) (by omega)).mono (by omega)
theorem vals_ok {l : List NumD} (hl : l.length ≤ 4) (h : ∀ x ∈ l, x.In) : (vals l).length ≤ 64 ∧ ∀ q ∈ vals l, Fit 513 q := by
  refine ⟨by rw [vals_length]; omega, fun q hq => ?_⟩
  obtain ⟨x, hx, rfl⟩ := List.mem_map.1 hq
  exact (h x hx).fitv
theorem eqs_e {p : List (List NumD)} {long : Int} (hp : InP p) (hs : smallP p = true) : EqS (eRat p long) ∧ EqS (eqR (eRQ p long)) := by
  unfold smallP at hs
  rw [decide_eq_true_iff] at hs
  obtain ⟨h1, h2⟩ := hs
  have hn : (long % 50 + 1).toNat ≤ 50 := by omega
  rw [eRQ_q]
  have hr : ∀ q ∈ (if 0 < long then [longQ (long % 50 + 1).toNat] else []), q.length ≤ 64 ∧ ∀ x ∈ q, Fit 513 x := by
    intro q hq
    split at hq
    · rw [List.mem_singleton] at hq; subst hq; exact longQ_ok _ hn
    · cases hq
  have hrl : (if 0 < long then [longQ (long % 50 + 1).toNat] else []).length ≤ 1 := by split <;> simp
  constructor
  · refine ⟨by rw [eRat, List.length_append, List.length_map]; omega, fun q hq => ?_⟩
    rcases List.mem_append.1 hq with h | h
    · obtain ⟨l, hl, rfl⟩ := List.mem_map.1 h
      exact vals_ok (h2 l hl).1 (hp.p l hl).2
    · exact hr q h
  · refine ⟨by rw [List.length_append, List.length_map]; omega, fun q hq => ?_⟩
    rcases List.mem_append.1 hq with h | h
    · obtain ⟨l, hl, rfl⟩ := List.mem_map.1 h
      obtain ⟨k1, k2⟩ := vals_ok (h2 l hl).1 (hp.p l hl).2
      exact ⟨by rw [trim_length]; have := tlen_le (z := zr) (vals l); omega, fun x hx => k2 x (List.mem_of_mem_take hx)⟩
    · exact hr q h

theorem ints_ok {l : List Int} (h : i64s l) (hl : l.length < 8) : (ints l).length < 1099511627776 ∧ ∀ q ∈ ints l, Fit 64 q := by
  refine ⟨by rw [ints, trim_length]; have := tlen_le (z := zr) (l.map fun n : Int => (n : Rat)); rw [List.length_map] at this; omega, fun q hq => ?_⟩
  obtain ⟨n, hn, rfl⟩ := List.mem_map.1 (List.mem_of_mem_take hq)
  exact fit_i64 (h n hn).1 (h n hn).2
theorem kE_ok {k : Nat} {n : Int} (h1 : 1 ≤ k) (h2 : k ≤ 8) (h3 : 0 ≤ n) (h4 : n ≤ 40) : (kE k n).map trim = kE k n ∧ (kE k n).length ≤ 3 ∧ ∀ p ∈ kE k n, p.length < 1099511627776 ∧ ∀ q ∈ p, Fit 64 q := by
  have hnn : n * (n + 1) ≤ 40 * 41 := Int.mul_le_mul (a := n) (b := n + 1) (c := 40) (d := 41) (by omega) (by omega) (by omega) (by omega)
  have hn0 : 0 ≤ n * (n + 1) := Int.mul_nonneg (by omega) (by omega)
  generalize hm : n * (n + 1) = m at hnn hn0
  have ht : ∀ l, trim (ints l) = ints l := fun l => trim_trim _
  have ht0 : trim [] = [] := rfl
  have hz : ([] : List Rat).length < 1099511627776 ∧ ∀ q ∈ ([] : List Rat), Fit 64 q := ⟨by simp, by simp⟩
  rcases (by omega : k = 1 ∨ k = 2 ∨ k = 3 ∨ k = 4 ∨ k = 5 ∨ k = 6 ∨ k = 7 ∨ k = 8) with rfl | rfl | rfl | rfl | rfl | rfl | rfl | rfl <;>
    refine ⟨by simp only [kE, List.map_cons, List.map_nil, ht, ht0], by simp [kE], fun p hp => ?_⟩ <;>
    simp only [kE, List.mem_cons, List.not_mem_nil, or_false] at hp <;>
    (try rw [hm] at hp) <;>
    (rcases hp with rfl | rfl | rfl <;> first | exact hz | exact ints_ok (by intro x hx; simp only [List.mem_cons, List.not_mem_nil, or_false] at hx; omega) (by simp))

theorem rq_ok {e : List (List RQ)} {B : Nat} (h : ∀ p ∈ eqR e, p.length < 1099511627776 ∧ ∀ q ∈ p, Fit B q) : ∀ p ∈ e, p.length < 1099511627776 ∧ ∀ q ∈ p, Fit B q.q := by
  intro p hp
  obtain ⟨h1, h2⟩ := h (p.map RQ.q) (List.mem_map_of_mem hp)
  rw [List.length_map] at h1
  exact ⟨h1, fun q hq => h2 _ (List.mem_map_of_mem hq)⟩
/-- the law's answers for known functions -/
theorem known_fits {k : Nat} {n : Int} (h1 : 1 ≤ k) (h2 : k ≤ 8) (h3 : 0 ≤ n) (h4 : n ≤ 40) :
    Does prog 24 [fT (kE k n) 0 (kY k), fR (kER k n) .nil (kYR k)] (.ret [.one (.bool true)]) := by
  obtain ⟨hk1, hk2, hk3⟩ := kE_ok h1 h2 h3 h4
  have hq := kER_q h1 h2 n
  have hy := kYR_q h1 h2
  have hl : (kER k n).length ≤ 3 := by rw [← eqR_len, hq]; exact hk2
  have hky : (kY k).length = (kYR k).length := by rw [← hy, List.length_map]
  have hyf : ∀ q ∈ kY k, Fit 64 q := by
    rcases (by omega : k = 1 ∨ k = 2 ∨ k = 3 ∨ k = 4 ∨ k = 5 ∨ k = 6 ∨ k = 7 ∨ k = 8) with rfl | rfl | rfl | rfl | rfl | rfl | rfl | rfl <;>
      (intro q hq; simp only [kY, List.mem_cons, List.not_mem_nil, or_false] at hq; rcases hq with rfl | rfl <;> first | exact Fit.zero (by omega) | exact fit_i64 (n := 1) (by omega) (by omega))
  have hyl : (kY k).length ≤ 2 := by
    rcases (by omega : k = 1 ∨ k = 2 ∨ k = 3 ∨ k = 4 ∨ k = 5 ∨ k = 6 ∨ k = 7 ∨ k = 8) with rfl | rfl | rfl | rfl | rfl | rfl | rfl | rfl <;> simp [kY]
  have h := d_Lfunction (kE k n) 0 (kY k) (kER k n) .nil (kYR k) 64 (by omega) hk3 (rq_ok (by rw [hq]; exact hk3)) (by omega) (by omega) (Fit.zero (by omega)) (Fit.zero (by omega)) hyf (fun q hq' => hyf _ (by rw [← hy]; exact List.mem_map_of_mem hq')) (by omega) (by omega)
  rw [decide_eq_true ⟨by rw [hk1, hq], rfl, hy.symm⟩] at h
  exact h

set_option maxHeartbeats 4000000 in
theorem d_LOdeChecks (c : CaseD) (h : c.In) (kind : Nat) (n : Int) (hk : kind < 256) (hn1 : -9223372036854775808 ≤ n) (hn2 : n < 9223372036854775808) : Does prog 3 [(caT c : STy), (.one (.int .u8 kind) : STy), (.one (.int .i64 n) : STy)] (.ret [.one (.bool true)]) := by
  refine does_of_vc (args := [.v (some 8), .v none, .v none]) (ins := [.v (caT c), .v (.one (.int .u8 kind)), .v (.one (.int .i64 n))]) (hints := (fun _ => none)) fo (by kernel_rfl) func3 ⟨rfl, rfl, rfl, trivial⟩ ?_
  rw [x_LOdeChecks]
  dsimp only [List.map, In.env, c_a, n_a]
  obtain ⟨c0, hc0⟩ : ∃ c0 : CaseD, c0 = { c with kind := 0 } := ⟨_, rfl⟩
  have hIn0 : c0.In := by rw [hc0]; exact ⟨h.hp, h.hl1, h.hl2, h.hc, h.hyl, h.hy, by show (0 : Nat) < 256; omega, h.hn1, h.hn2⟩
  have hS := d_Lsmall c0 hIn0
  have hB := fun hs => d_LBoth c0 hIn0 hs
  have hcT : caT c0 = .agg [sP c.p, .int .i64 c.long, .int .i64 c.c.n, .int .i64 c.c.d, .int .u8 c.c.pow, sN c.y, .int .u8 0, .int .i64 c.n] := by rw [hc0]; rfl
  rw [hcT] at hS hB
  have hE : c0.E = eRat c.p c.long ∧ c0.ER = eRQ c.p c.long ∧ c0.X = c.c.v ∧ c0.XR = .of c.c.v ∧ c0.Y = vals c.y ∧ c0.YR = valsR c.y := by rw [hc0]; exact ⟨rfl, rfl, rfl, rfl, rfl, rfl⟩
  obtain ⟨e1, e2, e3, e4, e5, e6⟩ := hE
  rw [e1, e2, e3, e4, e5, e6] at hB
  have hsm : c0.small = true → smallP c.p = true ∧ c.y.length ≤ 6 := by
    intro hs
    unfold CaseD.small at hs
    rw [decide_eq_true_iff] at hs
    rw [hc0] at hs
    exact ⟨hs.2.1, hs.2.2.2⟩
  have hKn := d_oKnown kind n hk hn1 hn2
  refine vcall hS rfl ?_
  dsimp only [c_a, n_a]
  refine vn q_not rfl ?_
  dsimp only [c_a, n_a]
  refine vs _ rfl (fun h2 => ?_) (fun h2 => ?_)
  · refine vcall d_Lawake rfl ?_
    dsimp only [c_a, n_a]
    exact vret rfl
  have hs0 : c0.small = true := by unfold CaseD.small; rw [decide_eq_true_iff]; exact Decidable.of_not_not h2
  obtain ⟨hsp, hyl⟩ := hsm hs0
  obtain ⟨hq1, hq2⟩ := eqs_e (long := c.long) h.hp hsp
  have hsim := sim_e c.p c.long
  have hcf := h.hc.fitv
  have hvl : (vals c.y).length < 1099511627776 := by rw [vals_length]; omega
  have hvl' : (valsR c.y).length < 1099511627776 := by rw [valsR_length]; omega
  have hCE := d_oCheckEquation (eRat c.p c.long) (by have := hq1.l; omega) (fun p hp => by have := (hq1.p p hp).1; omega)
  have hEV := d_EValid (eRQ c.p c.long) (by have := hq2.l; rw [eqR_len] at this; omega) (fun p hp => by have := (hq2.p _ (List.mem_map_of_mem hp)).1; rw [List.length_map] at this; omega)
  have hC := d_oCheck (eRat c.p c.long) c.c.v (vals c.y) hq1 hcf hvl
  have hER := d_ERight (eRQ c.p c.long) (.of c.c.v) (valsR c.y) hq2 hcf hvl'
  rw [hsim.okE] at hEV
  rw [vals_q, RQ.of_q, hsim.okF] at hER
  generalize okE (eRat c.p c.long) = b at hCE hEV
  generalize okF (eRat c.p c.long) c.c.v (vals c.y) = f at hC hER
  obtain ⟨pb, ib, rfl⟩ : ∃ (p : Prop) (i : Decidable p), b = decide p := ⟨b = true, inferInstance, by cases b <;> rfl⟩
  obtain ⟨pf, jf, rfl⟩ : ∃ (p : Prop) (i : Decidable p), f = decide p := ⟨f = true, inferInstance, by cases f <;> rfl⟩
  have hN : Does prog 23 [fT [] 0 []] (.ret [.one (.bool true)]) := d_Lnothing [] 0 [] (by simp) (by simp)
  refine vcall (hB hs0) rfl ?_
  dsimp only [c_a, n_a]
  refine vcall hKn rfl ?_
  dsimp only [c_a, n_a]
  refine vcall hCE rfl ?_
  dsimp only [c_a, n_a]
  refine vn q_eql rfl ?_
  dsimp only [c_a, n_a]
  refine vcall hEV rfl ?_
  dsimp only [c_a, n_a]
  refine vn (q_bneq un4) rfl ?_
  dsimp only [c_a, n_a]
  refine vs _ rfl (fun h11 => ?_) (fun h11 => ?_)
  · by_cases hp : pb <;> simp [hp] at h11
  refine vcall hC rfl ?_
  dsimp only [c_a, n_a]
  refine vn q_eql rfl ?_
  dsimp only [c_a, n_a]
  refine vcall hER rfl ?_
  dsimp only [c_a, n_a]
  refine vn (q_bneq un4) rfl ?_
  dsimp only [c_a, n_a]
  refine vs _ rfl (fun h17 => ?_) (fun h17 => ?_)
  · by_cases hp : pf <;> simp [hp] at h17
  refine vcall hEV rfl ?_
  dsimp only [c_a, n_a]
  refine vn q_not rfl ?_
  dsimp only [c_a, n_a]
  refine vs _ rfl (fun h21 => ?_) (fun h21 => ?_)
  · refine vcall hCE rfl ?_
    dsimp only [c_a, n_a]
    refine vn q_neq rfl ?_
    dsimp only [c_a, n_a]
    refine vs _ rfl (fun h24 => ?_) (fun h24 => ?_)
    · simp [h21] at h24
    refine vcall hER rfl ?_
    dsimp only [c_a, n_a]
    refine vn q_not rfl ?_
    dsimp only [c_a, n_a]
    refine vs _ rfl (fun h28 => ?_) (fun h28 => ?_)
    · refine vcall hC rfl ?_
      dsimp only [c_a, n_a]
      refine vn q_neq rfl ?_
      dsimp only [c_a, n_a]
      refine vs _ rfl (fun h31 => ?_) (fun h31 => ?_)
      · simp [h28] at h31
      refine vn q_lss rfl ?_
      dsimp only [c_a, n_a]
      refine vs _ rfl (fun h34 => ?_) (fun h34 => ?_)
      · rw [show knownV kind n = ([], [], 2) by rw [knownV, if_pos (by omega)]]
        dsimp only
        refine vn q_eql rfl ?_
        dsimp only [c_a, n_a]
        refine vs _ rfl (fun h36 => ?_) (fun h36 => ?_)
        · refine vcall hN rfl ?_
          dsimp only [c_a, n_a]
          refine vsb true rfl (fun _ => ?_) (fun h => by cases h)
          -- true
          refine vcall d_Lawake rfl ?_
          dsimp only [c_a, n_a]
          exact vret rfl
        exact absurd rfl h36
      refine vn q_gtr rfl ?_
      dsimp only [c_a, n_a]
      refine vs _ rfl (fun h44 => ?_) (fun h44 => ?_)
      · rw [show knownV kind n = ([], [], 2) by rw [knownV, if_pos (by omega)]]
        dsimp only
        refine vn q_eql rfl ?_
        dsimp only [c_a, n_a]
        refine vs _ rfl (fun h46 => ?_) (fun h46 => ?_)
        · refine vcall hN rfl ?_
          dsimp only [c_a, n_a]
          refine vsb true rfl (fun _ => ?_) (fun h => by cases h)
          -- true
          refine vcall d_Lawake rfl ?_
          dsimp only [c_a, n_a]
          exact vret rfl
        exact absurd rfl h46
      refine vn q_lss rfl ?_
      dsimp only [c_a, n_a]
      refine vs _ rfl (fun h54 => ?_) (fun h54 => ?_)
      · rw [show knownV kind n = ([], [], 3) by rw [knownV, if_neg (by omega), if_pos (by omega)]]
        dsimp only
        refine vn q_eql rfl ?_
        dsimp only [c_a, n_a]
        refine vs _ rfl (fun h56 => ?_) (fun h56 => ?_)
        · refine vcall hN rfl ?_
          dsimp only [c_a, n_a]
          refine vsb true rfl (fun _ => ?_) (fun h => by cases h)
          -- true
          refine vcall d_Lawake rfl ?_
          dsimp only [c_a, n_a]
          exact vret rfl
        exact absurd rfl h56
      refine vn q_gtr rfl ?_
      dsimp only [c_a, n_a]
      refine vs _ rfl (fun h64 => ?_) (fun h64 => ?_)
      · rw [show knownV kind n = ([], [], 3) by rw [knownV, if_neg (by omega), if_pos (by omega)]]
        dsimp only
        refine vn q_eql rfl ?_
        dsimp only [c_a, n_a]
        refine vs _ rfl (fun h66 => ?_) (fun h66 => ?_)
        · refine vcall hN rfl ?_
          dsimp only [c_a, n_a]
          refine vsb true rfl (fun _ => ?_) (fun h => by cases h)
          -- true
          refine vcall d_Lawake rfl ?_
          dsimp only [c_a, n_a]
          exact vret rfl
        exact absurd rfl h66
      rw [show knownV kind n = (kE kind n, kY kind, 0) by rw [knownV, if_neg (by omega), if_neg (by omega)]]
      dsimp only
      refine vn q_eql rfl ?_
      dsimp only [c_a, n_a]
      refine vs _ rfl (fun h74 => ?_) (fun h74 => ?_)
      · refine vcall (d_EKnown kind n (by omega) (by omega) (by omega) (by omega)) rfl ?_
        dsimp only [c_a, n_a]
        refine vcall (known_fits (by omega) (by omega) (by omega) (by omega)) rfl ?_
        dsimp only [c_a, n_a]
        refine vsb true rfl (fun _ => ?_) (fun h => by cases h)
        -- true
        refine vcall d_Lawake rfl ?_
        dsimp only [c_a, n_a]
        exact vret rfl
      exact absurd rfl h74
    refine vn q_lss rfl ?_
    dsimp only [c_a, n_a]
    refine vs _ rfl (fun h83 => ?_) (fun h83 => ?_)
    · rw [show knownV kind n = ([], [], 2) by rw [knownV, if_pos (by omega)]]
      dsimp only
      refine vn q_eql rfl ?_
      dsimp only [c_a, n_a]
      refine vs _ rfl (fun h85 => ?_) (fun h85 => ?_)
      · refine vcall hN rfl ?_
        dsimp only [c_a, n_a]
        refine vsb true rfl (fun _ => ?_) (fun h => by cases h)
        -- true
        refine vcall d_Lawake rfl ?_
        dsimp only [c_a, n_a]
        exact vret rfl
      exact absurd rfl h85
    refine vn q_gtr rfl ?_
    dsimp only [c_a, n_a]
    refine vs _ rfl (fun h93 => ?_) (fun h93 => ?_)
    · rw [show knownV kind n = ([], [], 2) by rw [knownV, if_pos (by omega)]]
      dsimp only
      refine vn q_eql rfl ?_
      dsimp only [c_a, n_a]
      refine vs _ rfl (fun h95 => ?_) (fun h95 => ?_)
      · refine vcall hN rfl ?_
        dsimp only [c_a, n_a]
        refine vsb true rfl (fun _ => ?_) (fun h => by cases h)
        -- true
        refine vcall d_Lawake rfl ?_
        dsimp only [c_a, n_a]
        exact vret rfl
      exact absurd rfl h95
    refine vn q_lss rfl ?_
    dsimp only [c_a, n_a]
    refine vs _ rfl (fun h103 => ?_) (fun h103 => ?_)
    · rw [show knownV kind n = ([], [], 3) by rw [knownV, if_neg (by omega), if_pos (by omega)]]
      dsimp only
      refine vn q_eql rfl ?_
      dsimp only [c_a, n_a]
      refine vs _ rfl (fun h105 => ?_) (fun h105 => ?_)
      · refine vcall hN rfl ?_
        dsimp only [c_a, n_a]
        refine vsb true rfl (fun _ => ?_) (fun h => by cases h)
        -- true
        refine vcall d_Lawake rfl ?_
        dsimp only [c_a, n_a]
        exact vret rfl
      exact absurd rfl h105
    refine vn q_gtr rfl ?_
    dsimp only [c_a, n_a]
    refine vs _ rfl (fun h113 => ?_) (fun h113 => ?_)
    · rw [show knownV kind n = ([], [], 3) by rw [knownV, if_neg (by omega), if_pos (by omega)]]
      dsimp only
      refine vn q_eql rfl ?_
      dsimp only [c_a, n_a]
      refine vs _ rfl (fun h115 => ?_) (fun h115 => ?_)
      · refine vcall hN rfl ?_
        dsimp only [c_a, n_a]
        refine vsb true rfl (fun _ => ?_) (fun h => by cases h)
        -- true
        refine vcall d_Lawake rfl ?_
        dsimp only [c_a, n_a]
        exact vret rfl
      exact absurd rfl h115
    rw [show knownV kind n = (kE kind n, kY kind, 0) by rw [knownV, if_neg (by omega), if_neg (by omega)]]
    dsimp only
    refine vn q_eql rfl ?_
    dsimp only [c_a, n_a]
    refine vs _ rfl (fun h123 => ?_) (fun h123 => ?_)
    · refine vcall (d_EKnown kind n (by omega) (by omega) (by omega) (by omega)) rfl ?_
      dsimp only [c_a, n_a]
      refine vcall (known_fits (by omega) (by omega) (by omega) (by omega)) rfl ?_
      dsimp only [c_a, n_a]
      refine vsb true rfl (fun _ => ?_) (fun h => by cases h)
      -- true
      refine vcall d_Lawake rfl ?_
      dsimp only [c_a, n_a]
      exact vret rfl
    exact absurd rfl h123
  refine vcall hER rfl ?_
  dsimp only [c_a, n_a]
  refine vn q_not rfl ?_
  dsimp only [c_a, n_a]
  refine vs _ rfl (fun h133 => ?_) (fun h133 => ?_)
  · refine vcall hC rfl ?_
    dsimp only [c_a, n_a]
    refine vn q_neq rfl ?_
    dsimp only [c_a, n_a]
    refine vs _ rfl (fun h136 => ?_) (fun h136 => ?_)
    · simp [h133] at h136
    refine vn q_lss rfl ?_
    dsimp only [c_a, n_a]
    refine vs _ rfl (fun h139 => ?_) (fun h139 => ?_)
    · rw [show knownV kind n = ([], [], 2) by rw [knownV, if_pos (by omega)]]
      dsimp only
      refine vn q_eql rfl ?_
      dsimp only [c_a, n_a]
      refine vs _ rfl (fun h141 => ?_) (fun h141 => ?_)
      · refine vcall hN rfl ?_
        dsimp only [c_a, n_a]
        refine vsb true rfl (fun _ => ?_) (fun h => by cases h)
        -- true
        refine vcall d_Lawake rfl ?_
        dsimp only [c_a, n_a]
        exact vret rfl
      exact absurd rfl h141
    refine vn q_gtr rfl ?_
    dsimp only [c_a, n_a]
    refine vs _ rfl (fun h149 => ?_) (fun h149 => ?_)
    · rw [show knownV kind n = ([], [], 2) by rw [knownV, if_pos (by omega)]]
      dsimp only
      refine vn q_eql rfl ?_
      dsimp only [c_a, n_a]
      refine vs _ rfl (fun h151 => ?_) (fun h151 => ?_)
      · refine vcall hN rfl ?_
        dsimp only [c_a, n_a]
        refine vsb true rfl (fun _ => ?_) (fun h => by cases h)
        -- true
        refine vcall d_Lawake rfl ?_
        dsimp only [c_a, n_a]
        exact vret rfl
      exact absurd rfl h151
    refine vn q_lss rfl ?_
    dsimp only [c_a, n_a]
    refine vs _ rfl (fun h159 => ?_) (fun h159 => ?_)
    · rw [show knownV kind n = ([], [], 3) by rw [knownV, if_neg (by omega), if_pos (by omega)]]
      dsimp only
      refine vn q_eql rfl ?_
      dsimp only [c_a, n_a]
      refine vs _ rfl (fun h161 => ?_) (fun h161 => ?_)
      · refine vcall hN rfl ?_
        dsimp only [c_a, n_a]
        refine vsb true rfl (fun _ => ?_) (fun h => by cases h)
        -- true
        refine vcall d_Lawake rfl ?_
        dsimp only [c_a, n_a]
        exact vret rfl
      exact absurd rfl h161
    refine vn q_gtr rfl ?_
    dsimp only [c_a, n_a]
    refine vs _ rfl (fun h169 => ?_) (fun h169 => ?_)
    · rw [show knownV kind n = ([], [], 3) by rw [knownV, if_neg (by omega), if_pos (by omega)]]
      dsimp only
      refine vn q_eql rfl ?_
      dsimp only [c_a, n_a]
      refine vs _ rfl (fun h171 => ?_) (fun h171 => ?_)
      · refine vcall hN rfl ?_
        dsimp only [c_a, n_a]
        refine vsb true rfl (fun _ => ?_) (fun h => by cases h)
        -- true
        refine vcall d_Lawake rfl ?_
        dsimp only [c_a, n_a]
        exact vret rfl
      exact absurd rfl h171
    rw [show knownV kind n = (kE kind n, kY kind, 0) by rw [knownV, if_neg (by omega), if_neg (by omega)]]
    dsimp only
    refine vn q_eql rfl ?_
    dsimp only [c_a, n_a]
    refine vs _ rfl (fun h179 => ?_) (fun h179 => ?_)
    · refine vcall (d_EKnown kind n (by omega) (by omega) (by omega) (by omega)) rfl ?_
      dsimp only [c_a, n_a]
      refine vcall (known_fits (by omega) (by omega) (by omega) (by omega)) rfl ?_
      dsimp only [c_a, n_a]
      refine vsb true rfl (fun _ => ?_) (fun h => by cases h)
      -- true
      refine vcall d_Lawake rfl ?_
      dsimp only [c_a, n_a]
      exact vret rfl
    exact absurd rfl h179
  refine vn q_lss rfl ?_
  dsimp only [c_a, n_a]
  refine vs _ rfl (fun h188 => ?_) (fun h188 => ?_)
  · rw [show knownV kind n = ([], [], 2) by rw [knownV, if_pos (by omega)]]
    dsimp only
    refine vn q_eql rfl ?_
    dsimp only [c_a, n_a]
    refine vs _ rfl (fun h190 => ?_) (fun h190 => ?_)
    · refine vcall hN rfl ?_
      dsimp only [c_a, n_a]
      refine vsb true rfl (fun _ => ?_) (fun h => by cases h)
      -- true
      refine vcall d_Lawake rfl ?_
      dsimp only [c_a, n_a]
      exact vret rfl
    exact absurd rfl h190
  refine vn q_gtr rfl ?_
  dsimp only [c_a, n_a]
  refine vs _ rfl (fun h198 => ?_) (fun h198 => ?_)
  · rw [show knownV kind n = ([], [], 2) by rw [knownV, if_pos (by omega)]]
    dsimp only
    refine vn q_eql rfl ?_
    dsimp only [c_a, n_a]
    refine vs _ rfl (fun h200 => ?_) (fun h200 => ?_)
    · refine vcall hN rfl ?_
      dsimp only [c_a, n_a]
      refine vsb true rfl (fun _ => ?_) (fun h => by cases h)
      -- true
      refine vcall d_Lawake rfl ?_
      dsimp only [c_a, n_a]
      exact vret rfl
    exact absurd rfl h200
  refine vn q_lss rfl ?_
  dsimp only [c_a, n_a]
  refine vs _ rfl (fun h208 => ?_) (fun h208 => ?_)
  · rw [show knownV kind n = ([], [], 3) by rw [knownV, if_neg (by omega), if_pos (by omega)]]
    dsimp only
    refine vn q_eql rfl ?_
    dsimp only [c_a, n_a]
    refine vs _ rfl (fun h210 => ?_) (fun h210 => ?_)
    · refine vcall hN rfl ?_
      dsimp only [c_a, n_a]
      refine vsb true rfl (fun _ => ?_) (fun h => by cases h)
      -- true
      refine vcall d_Lawake rfl ?_
      dsimp only [c_a, n_a]
      exact vret rfl
    exact absurd rfl h210
  refine vn q_gtr rfl ?_
  dsimp only [c_a, n_a]
  refine vs _ rfl (fun h218 => ?_) (fun h218 => ?_)
  · rw [show knownV kind n = ([], [], 3) by rw [knownV, if_neg (by omega), if_pos (by omega)]]
    dsimp only
    refine vn q_eql rfl ?_
    dsimp only [c_a, n_a]
    refine vs _ rfl (fun h220 => ?_) (fun h220 => ?_)
    · refine vcall hN rfl ?_
      dsimp only [c_a, n_a]
      refine vsb true rfl (fun _ => ?_) (fun h => by cases h)
      -- true
      refine vcall d_Lawake rfl ?_
      dsimp only [c_a, n_a]
      exact vret rfl
    exact absurd rfl h220
  rw [show knownV kind n = (kE kind n, kY kind, 0) by rw [knownV, if_neg (by omega), if_neg (by omega)]]
  dsimp only
  refine vn q_eql rfl ?_
  dsimp only [c_a, n_a]
  refine vs _ rfl (fun h228 => ?_) (fun h228 => ?_)
  · refine vcall (d_EKnown kind n (by omega) (by omega) (by omega) (by omega)) rfl ?_
    dsimp only [c_a, n_a]
    refine vcall (known_fits (by omega) (by omega) (by omega) (by omega)) rfl ?_
    dsimp only [c_a, n_a]
    refine vsb true rfl (fun _ => ?_) (fun h => by cases h)
    -- true
    refine vcall d_Lawake rfl ?_
    dsimp only [c_a, n_a]
    exact vret rfl
  exact absurd rfl h228
end Go.Sy
