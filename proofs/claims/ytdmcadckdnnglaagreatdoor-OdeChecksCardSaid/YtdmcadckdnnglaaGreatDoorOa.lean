/- Equations: Check, CheckEquation; Valid, Right. The reference: Eval, Valid, Regular, Right; Alike.
-/
import Derived.Test.YtdmcadckdnnglaaGreatDoorTb
set_option linter.unusedVariables false
set_option linter.unusedSimpArgs false
namespace Go.Sy
open Go Go.Proofs Tryz Ord

def t85_8 : Tr := .ret [(W 4 0)]
def t85_10 : Tr := .back 0 [(.w (W 3 0)), (.w (W 9 0))]
def t85_9 : Tr := .need (.prim [(W 4 0), (WK (1))] none) (.binOp .add 3 (.tmp 8) (.const (I3 (1))) 3) 3 false t85_10
def t85_7 : Tr := .split (.u 8 0) t85_8 t85_9
def t85_6 : Tr := .need (.callv (.u 1 0) [(W 7 0)] [none]) (.call ⟨.value (.tmp 11), #[(.tmp 15)], #[72]⟩) 4 true t85_7
def t85_5 : Tr := .need (.prim [(W 6 0)] none) (.load 72 (.tmp 14)) 72 false t85_6
def t85_4 : Tr := .need (.prim [(W 0 0), (W 4 0)] none) (.indexAddr 32 (.tmp 12) (.tmp 13)) 0 false t85_5
def t85_11 : Tr := .ret [(WK (-1))]
def t85_3 : Tr := .split (.u 5 0) t85_4 t85_11
def t85_2 : Tr := .need (.prim [(W 4 0), (W 2 0)] none) (.binOp .lss 3 (.tmp 8) (.tmp 7) 3) 0 false t85_3
def t85_1 : Tr := .loop 0 [(.w (WK (0))), (.w (WK (0)))] t85_2
def t85_0 : Tr := .need (.prim [(W 0 0)] none) (.call ⟨.builtin .len, #[(.tmp 6)], #[32]⟩) 3 false t85_1
theorem x_sIndex : execF prog f180 (fun _ => none) [.v none, .v none] = t85_0 := by kernel_rfl
def t86_2 : Tr := .ret [(W 3 0)]
def t86_1 : Tr := .need (.prim [(W 2 0), (WK (0))] none) (.binOp .geq 3 (.tmp 7) (.const (I3 (0))) 3) 4 false t86_2
def t86_0 : Tr := .need (.call 180 [(W 0 0), (W 1 0)] [none]) (.call ⟨.value (.func 180), #[(.tmp 5), (.tmp 6)], #[32, 165]⟩) 3 true t86_1
theorem x_sContains : execF prog f93 (fun _ => none) [.v none, .v none] = t86_0 := by kernel_rfl
def t87_2 : Tr := .ret [(W 2 0)]
def t87_1 : Tr := .need (.prim [(W 1 0), (WK (40))] none) (.binOp .gtr 3 (.tmp 4) (.const (I3 (40))) 3) 4 false t87_2
def t87_0 : Tr := .need (.call 95 [(W 0 0)] [none]) (.call ⟨.value (.func 95), #[(.tmp 3)], #[72]⟩) 3 true t87_1
theorem x_oCheckEquation_1 : execF prog f94 (fun _ => none) [.v none] = t87_0 := by kernel_rfl
def t88_3 : Tr := .ret [(WK (2))]
def t88_19 : Tr := .ret [(WK (0))]
def t88_17 : Tr := .split (.u 11 0) t88_3 t88_19
def t88_16 : Tr := .need (.prim [(W 10 0), (WK (0))] none) (.binOp .lss 3 (.tmp 22) (.const (I3 (0))) 3) 4 false t88_17
def t88_15 : Tr := .need (.call 95 [(W 9 0)] [none]) (.call ⟨.value (.func 95), #[(.tmp 21)], #[72]⟩) 3 false t88_16
def t88_14 : Tr := .need (.prim [(W 8 0)] none) (.load 72 (.tmp 20)) 72 false t88_15
def t88_13 : Tr := .need (.prim [(W 0 0), (W 7 0)] none) (.indexAddr 32 (.tmp 16) (.tmp 19)) 0 false t88_14
def t88_12 : Tr := .need (.prim [(W 6 0), (WK (1))] none) (.binOp .sub 3 (.tmp 18) (.const (I3 (1))) 3) 3 false t88_13
def t88_11 : Tr := .need (.prim [(W 0 0)] none) (.call ⟨.builtin .len, #[(.tmp 17)], #[32]⟩) 3 false t88_12
def t88_9 : Tr := .split (.u 5 0) t88_3 t88_11
def t88_8 : Tr := .need (.call 93 [(W 0 0), (.one (.clo 94 []))] [none]) (.call ⟨.value (.func 93), #[(.tmp 12), (.func 94)], #[32, 165]⟩) 4 false t88_9
def t88_6 : Tr := .split (.u 4 0) t88_3 t88_8
def t88_5 : Tr := .need (.prim [(W 3 0), (WK (5))] none) (.binOp .gtr 3 (.tmp 8) (.const (I3 (5))) 3) 4 false t88_6
def t88_4 : Tr := .need (.prim [(W 0 0)] none) (.call ⟨.builtin .len, #[(.tmp 7)], #[32]⟩) 3 false t88_5
def t88_2 : Tr := .split (.u 2 0) t88_3 t88_4
def t88_1 : Tr := .need (.prim [(W 1 0), (WK (2))] none) (.binOp .lss 3 (.tmp 4) (.const (I3 (2))) 3) 4 false t88_2
def t88_0 : Tr := .need (.prim [(W 0 0)] none) (.call ⟨.builtin .len, #[(.tmp 3)], #[32]⟩) 3 false t88_1
theorem x_oCheckEquation : execF prog f19 (fun _ => none) [.v none] = t88_0 := by kernel_rfl
def t89_7 : Tr := .ret [(W 8 0)]
def t89_6 : Tr := .need (.prim [(W 7 0), (WK (0))] none) (.binOp .neq 3 (.tmp 13) (.const (I3 (0))) 3) 4 false t89_7
def t89_5 : Tr := .need (.call 35 [(.agg [(U 6 0), (U 6 1), (U 6 2)])] [none]) (.call ⟨.value (.func 35), #[(.tmp 12)], #[39]⟩) 3 true t89_6
def t89_4 : Tr := .need (.call 181 [(W 5 0), (.agg [(U 1 0), (U 1 1), (U 1 2)])] [(some 3)]) (.call ⟨.value (.func 181), #[(.tmp 10), (.tmp 11)], #[72, 39]⟩) 39 false t89_5
def t89_3 : Tr := .need (.prim [(W 4 0)] none) (.load 72 (.tmp 9)) 72 false t89_4
def t89_2 : Tr := .need (.prim [(W 0 0), (W 3 0)] none) (.indexAddr 32 (.tmp 5) (.tmp 8)) 0 false t89_3
def t89_1 : Tr := .need (.prim [(W 2 0), (WK (1))] none) (.binOp .sub 3 (.tmp 7) (.const (I3 (1))) 3) 3 false t89_2
def t89_0 : Tr := .need (.prim [(W 0 0)] none) (.call ⟨.builtin .len, #[(.tmp 6)], #[32]⟩) 3 false t89_1
theorem x_oregular : execF prog f97 (fun _ => none) [.v none, .v (some 3)] = t89_0 := by kernel_rfl
def t90_12 : Tr := .split (.u 8 0) t88_3 t88_19
def t90_11 : Tr := .need (.prim [(W 7 0)] none) (.unOp .not 4 (.tmp 22)) 4 false t90_12
def t90_10 : Tr := .need (.call 97 [(W 0 0), (.agg [(U 0 1), (U 0 2), (U 0 3)])] [none]) (.call ⟨.value (.func 97), #[(.tmp 19), (.tmp 21)], #[32, 39]⟩) 4 false t90_11
def t90_8 : Tr := .split (.u 6 0) t88_3 t90_10
def t90_7 : Tr := .need (.prim [(W 3 0), (W 5 0)] none) (.binOp .neq 3 (.tmp 10) (.tmp 14) 3) 4 false t90_8
def t90_6 : Tr := .need (.prim [(W 4 0), (WK (1))] none) (.binOp .sub 3 (.tmp 13) (.const (I3 (1))) 3) 3 false t90_7
def t90_5 : Tr := .need (.prim [(W 0 0)] none) (.call ⟨.builtin .len, #[(.tmp 12)], #[32]⟩) 3 false t90_6
def t90_4 : Tr := .need (.prim [(W 0 4)] none) (.call ⟨.builtin .len, #[(.tmp 9)], #[40]⟩) 3 false t90_5
def t90_2 : Tr := .split (.u 2 0) t88_3 t90_4
def t90_1 : Tr := .need (.prim [(W 1 0), (WK (0))] none) (.binOp .neq 55 (.tmp 5) (.const (I3 (0))) 55) 4 false t90_2
def t90_0 : Tr := .need (.call 19 [(W 0 0)] [none]) (.call ⟨.value (.func 19), #[(.tmp 4)], #[32]⟩) 55 false t90_1
theorem x_oCheck : execF prog f21 (fun _ => none) [.v (some 5)] = t90_0 := by kernel_rfl
def t91_12 : Tr := .back 0 [(.w (W 20 0)), (.w (W 18 0)), (.w (W 18 1)), (.w (W 18 2)), (.w (W 18 3)), (.w (W 19 0)), (.w (W 19 1)), (.w (W 19 2)), (.w (W 19 3))]
def t91_11 : Tr := .need (.prim [(W 4 0), (WK (1))] none) (.binOp .add 3 (.tmp 14) (.const (I3 (1))) 3) 3 false t91_12
def t91_10 : Tr := .need (.call 104 [(.agg [(U 9 0), (U 10 0), (U 11 0), (U 12 0)]), (.agg [(U 1 0), (U 1 1), (U 1 2), (U 1 3)])] [(some 4)]) (.call ⟨.value (.func 104), #[(.tmp 24), (.tmp 25)], #[49, 49]⟩) 49 true t91_11
def t91_9 : Tr := .need (.call 48 [(.agg [(U 5 0), (U 6 0), (U 7 0), (U 8 0)]), (.agg [(U 17 0), (U 17 1), (U 17 2), (U 17 3)])] [(some 4)]) (.call ⟨.value (.func 48), #[(.tmp 16), (.tmp 22)], #[49, 49]⟩) 49 true t91_10
def t91_8 : Tr := .need (.call 104 [(.agg [(U 16 0), (U 16 1), (U 16 2), (U 16 3)]), (.agg [(U 9 0), (U 10 0), (U 11 0), (U 12 0)])] [(some 4)]) (.call ⟨.value (.func 104), #[(.tmp 20), (.tmp 21)], #[49, 49]⟩) 49 true t91_9
def t91_7 : Tr := .need (.prim [(W 15 0)] (some 4)) (.load 49 (.tmp 19)) 49 false t91_8
def t91_6 : Tr := .need (.prim [(W 0 0), (W 4 0)] none) (.indexAddr 167 (.tmp 17) (.tmp 18)) 0 false t91_7
def t91_13 : Tr := .ret [(.agg [(U 5 0), (U 6 0), (U 7 0), (U 8 0)])]
def t91_5 : Tr := .split (.u 14 0) t91_6 t91_13
def t91_4 : Tr := .need (.prim [(W 4 0), (W 13 0)] none) (.binOp .lss 3 (.tmp 10) (.tmp 12) 3) 4 false t91_5
def t91_3 : Tr := .need (.prim [(W 0 0)] none) (.call ⟨.builtin .len, #[(.tmp 11)], #[167]⟩) 3 false t91_4
def t91_2 : Tr := .loop 0 [(.w (WK (0))), (.w (W 2 0)), (.w (W 2 1)), (.w (W 2 2)), (.w (W 2 3)), (.w (W 3 0)), (.w (W 3 1)), (.w (W 3 2)), (.w (W 3 3))] t91_3
def t91_1 : Tr := .need (.call 50 [(WK (1))] [(some 4)]) (.call ⟨.value (.func 50), #[(.const (I3 (1)))], #[2]⟩) 49 true t91_2
def t91_0 : Tr := .need (.call 50 [(WK (0))] [(some 4)]) (.call ⟨.value (.func 50), #[(.const (I3 (0)))], #[2]⟩) 49 true t91_1
theorem x_PEval : execF prog f124 (fun _ => none) [.v none, .v (some 4)] = t91_0 := by kernel_rfl
def t92_3 : Tr := .ret [(.one (.c (.k (.bool false))))]
def t92_19 : Tr := .back 0 [(.w (W 5 0)), (.w (W 13 0))]
def t92_18 : Tr := .need (.prim [(W 6 0), (WK (1))] none) (.binOp .add 3 (.tmp 16) (.const (I3 (1))) 3) 3 false t92_19
def t92_16 : Tr := .split (.u 12 0) t92_3 t92_18
def t92_15 : Tr := .need (.prim [(W 11 0), (WK (40))] none) (.binOp .gtr 3 (.tmp 22) (.const (I3 (40))) 3) 4 false t92_16
def t92_14 : Tr := .need (.call 96 [(W 10 0)] [none]) (.call ⟨.value (.func 96), #[(.tmp 21)], #[167]⟩) 3 true t92_15
def t92_13 : Tr := .need (.prim [(W 9 0)] none) (.load 167 (.tmp 20)) 167 false t92_14
def t92_12 : Tr := .need (.prim [(W 0 0), (W 6 0)] none) (.indexAddr 44 (.tmp 18) (.tmp 19)) 0 false t92_13
def t92_26 : Tr := .ret [(W 14 0)]
def t92_25 : Tr := .need (.prim [(W 13 0), (WK (0))] none) (.binOp .geq 3 (.tmp 30) (.const (I3 (0))) 3) 4 false t92_26
def t92_24 : Tr := .need (.call 96 [(W 12 0)] [none]) (.call ⟨.value (.func 96), #[(.tmp 29)], #[167]⟩) 3 true t92_25
def t92_23 : Tr := .need (.prim [(W 11 0)] none) (.load 167 (.tmp 28)) 167 false t92_24
def t92_22 : Tr := .need (.prim [(W 0 0), (W 10 0)] none) (.indexAddr 44 (.tmp 24) (.tmp 27)) 0 false t92_23
def t92_21 : Tr := .need (.prim [(W 9 0), (WK (1))] none) (.binOp .sub 3 (.tmp 26) (.const (I3 (1))) 3) 3 false t92_22
def t92_20 : Tr := .need (.prim [(W 0 0)] none) (.call ⟨.builtin .len, #[(.tmp 25)], #[44]⟩) 3 false t92_21
def t92_11 : Tr := .split (.u 8 0) t92_12 t92_20
def t92_10 : Tr := .need (.prim [(W 6 0), (W 7 0)] none) (.binOp .lss 3 (.tmp 12) (.tmp 14) 3) 4 false t92_11
def t92_9 : Tr := .need (.prim [(W 0 0)] none) (.call ⟨.builtin .len, #[(.tmp 13)], #[44]⟩) 3 false t92_10
def t92_8 : Tr := .loop 0 [(.w (.one (.c (.k (.bool false))))), (.w (WK (0)))] t92_9
def t92_6 : Tr := .split (.u 4 0) t92_3 t92_8
def t92_5 : Tr := .need (.prim [(W 3 0), (WK (5))] none) (.binOp .gtr 3 (.tmp 9) (.const (I3 (5))) 3) 4 false t92_6
def t92_4 : Tr := .need (.prim [(W 0 0)] none) (.call ⟨.builtin .len, #[(.tmp 8)], #[44]⟩) 3 false t92_5
def t92_2 : Tr := .split (.u 2 0) t92_3 t92_4
def t92_1 : Tr := .need (.prim [(W 1 0), (WK (2))] none) (.binOp .lss 3 (.tmp 5) (.const (I3 (2))) 3) 4 false t92_2
def t92_0 : Tr := .need (.prim [(W 0 0)] none) (.call ⟨.builtin .len, #[(.tmp 4)], #[44]⟩) 3 false t92_1
theorem x_EValid : execF prog f20 (fun _ => none) [.v none] = t92_0 := by kernel_rfl
def t93_5 : Tr := .need (.call 46 [(.agg [(U 6 0), (U 6 1), (U 6 2), (U 6 3)])] [none]) (.call ⟨.value (.func 46), #[(.tmp 12)], #[49]⟩) 3 true t89_6
def t93_4 : Tr := .need (.call 124 [(W 5 0), (.agg [(U 1 0), (U 1 1), (U 1 2), (U 1 3)])] [(some 4)]) (.call ⟨.value (.func 124), #[(.tmp 10), (.tmp 11)], #[167, 49]⟩) 49 false t93_5
def t93_3 : Tr := .need (.prim [(W 4 0)] none) (.load 167 (.tmp 9)) 167 false t93_4
def t93_2 : Tr := .need (.prim [(W 0 0), (W 3 0)] none) (.indexAddr 44 (.tmp 5) (.tmp 8)) 0 false t93_3
def t93_1 : Tr := .need (.prim [(W 2 0), (WK (1))] none) (.binOp .sub 3 (.tmp 7) (.const (I3 (1))) 3) 3 false t93_2
def t93_0 : Tr := .need (.prim [(W 0 0)] none) (.call ⟨.builtin .len, #[(.tmp 6)], #[44]⟩) 3 false t93_1
theorem x_ERegular : execF prog f42 (fun _ => none) [.v none, .v (some 4)] = t93_0 := by kernel_rfl
def t94_8 : Tr := .ret [(W 6 0)]
def t94_7 : Tr := .need (.call 42 [(W 0 0), (.agg [(U 0 1), (U 0 2), (U 0 3), (U 0 4)])] [none]) (.call ⟨.value (.func 42), #[(.tmp 18), (.tmp 20)], #[44, 49]⟩) 4 true t94_8
def t94_6 : Tr := .split (.u 5 0) t94_7 t92_3
def t94_5 : Tr := .need (.prim [(W 2 0), (W 4 0)] none) (.binOp .eql 3 (.tmp 9) (.tmp 13) 3) 4 false t94_6
def t94_4 : Tr := .need (.prim [(W 3 0), (WK (1))] none) (.binOp .sub 3 (.tmp 12) (.const (I3 (1))) 3) 3 false t94_5
def t94_3 : Tr := .need (.prim [(W 0 0)] none) (.call ⟨.builtin .len, #[(.tmp 11)], #[44]⟩) 3 false t94_4
def t94_2 : Tr := .need (.prim [(W 0 5)] none) (.call ⟨.builtin .len, #[(.tmp 8)], #[50]⟩) 3 false t94_3
def t94_1 : Tr := .split (.u 1 0) t94_2 t92_3
def t94_0 : Tr := .need (.call 20 [(W 0 0)] [none]) (.call ⟨.value (.func 20), #[(.tmp 4)], #[44]⟩) 4 false t94_1
theorem x_ERight : execF prog f22 (fun _ => none) [.v (some 6)] = t94_0 := by kernel_rfl
def t95_18 : Tr := .back 0 [(.w (W 5 0)), (.w (W 15 0))]
def t95_17 : Tr := .need (.prim [(W 6 0), (WK (1))] none) (.binOp .add 3 (.tmp 15) (.const (I3 (1))) 3) 3 false t95_18
def t95_15 : Tr := .split (.u 14 0) t92_3 t95_17
def t95_14 : Tr := .need (.prim [(W 13 0)] none) (.unOp .not 4 (.tmp 25)) 4 false t95_15
def t95_13 : Tr := .need (.call 44 [(.agg [(U 10 0), (U 10 1), (U 10 2)]), (.agg [(U 12 0), (U 12 1), (U 12 2), (U 12 3)])] [none]) (.call ⟨.value (.func 44), #[(.tmp 20), (.tmp 24)], #[39, 49]⟩) 4 true t95_14
def t95_12 : Tr := .need (.prim [(W 11 0)] (some 4)) (.load 49 (.tmp 23)) 49 false t95_13
def t95_11 : Tr := .need (.prim [(W 1 0), (W 6 0)] none) (.indexAddr 50 (.tmp 21) (.tmp 22)) 0 false t95_12
def t95_10 : Tr := .need (.prim [(W 9 0)] (some 3)) (.load 39 (.tmp 19)) 39 false t95_11
def t95_9 : Tr := .need (.prim [(W 0 0), (W 6 0)] none) (.indexAddr 40 (.tmp 17) (.tmp 18)) 0 false t95_10
def t95_19 : Tr := .ret [(.one (.c (.k (.bool true))))]
def t95_8 : Tr := .split (.u 8 0) t95_9 t95_19
def t95_7 : Tr := .need (.prim [(W 6 0), (W 7 0)] none) (.binOp .lss 3 (.tmp 11) (.tmp 13) 3) 4 false t95_8
def t95_6 : Tr := .need (.prim [(W 0 0)] none) (.call ⟨.builtin .len, #[(.tmp 12)], #[40]⟩) 3 false t95_7
def t95_5 : Tr := .loop 0 [(.w (.one (.c (.k (.bool false))))), (.w (WK (0)))] t95_6
def t95_3 : Tr := .split (.u 4 0) t92_3 t95_5
def t95_2 : Tr := .need (.prim [(W 2 0), (W 3 0)] none) (.binOp .neq 3 (.tmp 7) (.tmp 9) 3) 4 false t95_3
def t95_1 : Tr := .need (.prim [(W 1 0)] none) (.call ⟨.builtin .len, #[(.tmp 8)], #[50]⟩) 3 false t95_2
def t95_0 : Tr := .need (.prim [(W 0 0)] none) (.call ⟨.builtin .len, #[(.tmp 6)], #[40]⟩) 3 false t95_1
theorem x_KAlike : execF prog f27 (fun _ => none) [.v none, .v none] = t95_0 := by kernel_rfl

abbrev cQ (p : List Rat) : List CTy := [sQ p]
abbrev cR (p : List RQ) : List CTy := [sR p]
abbrev eQ (e : List (List Rat)) : CTy := .slice 1 (e.map cQ)
abbrev eR (e : List (List RQ)) : CTy := .slice 1 (e.map cR)

/-- the first place at which something holds -/
def fidx {α : Type} (c : α → Bool) : List α → Nat → Int
  | [], _ => -1
  | x :: xs, i => if c x then (i : Int) else fidx c xs (i + 1)
theorem fidx_any {α : Type} (c : α → Bool) : ∀ (l : List α) (i : Nat), decide (0 ≤ fidx c l i) = l.any c
  | [], i => rfl
  | x :: xs, i => by
    simp only [fidx, List.any_cons]
    split
    · rename_i h; rw [h]; simp
    · rename_i h; rw [fidx_any c xs (i + 1)]; simp [h]

theorem d_sIndex (e : List (List Rat)) (g : Nat) (c : List Rat → Bool) (hc : ∀ p ∈ e, Does prog g [.one (sQ p)] (.ret [.one (.bool (c p))])) (hs : e.length < 1099511627776) : Does prog 180 [(.one (eQ e) : STy), (.one (.clo g []) : STy)] (.ret [.one (.int .i64 (fidx c e 0))]) := by
  refine does_of_vc (args := [.v none, .v none]) (ins := [.v (.one (eQ e)), .v (.one (.clo g []))]) (hints := (fun _ => none)) fo (by kernel_rfl) func180 ⟨rfl, rfl, trivial⟩ ?_
  rw [x_sIndex]
  dsimp only [List.map, In.env, c_a, n_a]
  refine vn (p_len el32 (List.length_map _)) rfl ?_
  dsimp only [c_a, n_a]
  refine vloop {i : Nat // i ≤ e.length ∧ fidx c e 0 = fidx c (e.drop i) i} (fun g => [.one (.int .i64 0), .one (.int .i64 g.1)]) (fun g => e.length - g.1) ⟨0, Nat.zero_le _, rfl⟩ SubL.rfl (fun _ => rfl) ?_
  rintro ⟨i, hi, hf⟩
  dsimp only [c_a, n_a] at hi hf ⊢
  refine vn q_lss rfl ?_
  dsimp only [c_a, n_a]
  refine vs _ rfl (fun h3 => ?_) (fun h3 => ?_)
  · obtain ⟨p, hp⟩ : ∃ p, e[i]? = some p := ⟨_, List.getElem?_eq_getElem (by omega)⟩
    have hdrop : e.drop i = p :: e.drop (i + 1) := by
      rw [List.drop_eq_getElem_cons (by omega), (List.getElem?_eq_some_iff.1 hp).2]
    rw [hdrop, fidx] at hf
    refine vn (p_idxm el32 (by omega) (by omega) hp) rfl ?_
    dsimp only [c_a, n_a]
    refine vn (p_load1 ag72) rfl ?_
    dsimp only [c_a, n_a]
    refine vcallv (f := g) (caps := []) rfl (hc p (List.mem_of_getElem? hp)) rfl ?_
    dsimp only [c_a, n_a]
    refine vsb (c p) rfl (fun h7 => ?_) (fun h7 => ?_)
    · rw [hf, if_pos h7]; exact vret rfl
    refine vn (p_add_i64 (by omega) (by omega)) rfl ?_
    dsimp only [c_a, n_a]
    exact vback rfl ⟨⟨i + 1, by omega, by rw [hf, if_neg (by simp [h7])]⟩, SubL.rfl, by show e.length - (i + 1) < e.length - i; omega⟩
  rw [hf, List.drop_eq_nil_of_le (by omega), fidx]; exact vret rfl

theorem d_sContains (e : List (List Rat)) (g : Nat) (c : List Rat → Bool) (hc : ∀ p ∈ e, Does prog g [.one (sQ p)] (.ret [.one (.bool (c p))])) (hs : e.length < 1099511627776) : Does prog 93 [(.one (eQ e) : STy), (.one (.clo g []) : STy)] (.ret [.one (.bool (e.any c))]) := by
  refine does_of_vc (args := [.v none, .v none]) (ins := [.v (.one (eQ e)), .v (.one (.clo g []))]) (hints := (fun _ => none)) fo (by kernel_rfl) func93 ⟨rfl, rfl, trivial⟩ ?_
  rw [x_sContains]
  dsimp only [List.map, In.env, c_a, n_a]
  refine vcall (d_sIndex e g c hc hs) rfl ?_
  dsimp only [c_a, n_a]
  refine vn q_geq rfl ?_
  dsimp only [c_a, n_a]
  rw [← fidx_any c e 0]; exact vret rfl

def longP (p : List Rat) : Bool := decide (41 < tlen zr p)
theorem d_oCheckEquation_1 (p : List Rat) (hs : p.length < 1099511627776) : Does prog 94 [(.one (sQ p) : STy)] (.ret [.one (.bool (longP p))]) := by
  refine does_of_vc (args := [.v none]) (ins := [.v (.one (sQ p))]) (hints := (fun _ => none)) fo (by kernel_rfl) func94 ⟨rfl, trivial⟩ ?_
  rw [x_oCheckEquation_1]
  dsimp only [List.map, In.env, c_a, n_a]
  refine vcall (d_pDegree p hs) rfl ?_
  dsimp only [c_a, n_a]
  refine vn q_gtr rfl ?_
  dsimp only [c_a, n_a]
  refine vret ?_
  rw [longP, show decide (41 < tlen zr p) = decide ((40 : Int) < (tlen zr p : Int) - 1) by rw [decide_eq_decide]; omega]
  rfl

/-- is an equation valid? -/
def okE (e : List (List Rat)) : Bool := decide (2 ≤ e.length ∧ e.length ≤ 5 ∧ (∀ p ∈ e, tlen zr p ≤ 41) ∧ ∀ p, e[e.length - 1]? = some p → tlen zr p ≠ 0)

theorem d_oCheckEquation (e : List (List Rat)) (hs : e.length < 1099511627776) (hp : ∀ p ∈ e, p.length < 1099511627776) : Does prog 19 [(.one (eQ e) : STy)] (.ret [.one (.int .i64 (if okE e then 0 else 2))]) := by
  refine does_of_vc (args := [.v none]) (ins := [.v (.one (eQ e))]) (hints := (fun _ => none)) fo (by kernel_rfl) func19 ⟨rfl, trivial⟩ ?_
  rw [x_oCheckEquation]
  dsimp only [List.map, In.env, c_a, n_a]
  refine vn (p_len el32 (List.length_map _)) rfl ?_
  dsimp only [c_a, n_a]
  refine vn q_lss rfl ?_
  dsimp only [c_a, n_a]
  refine vs _ rfl (fun h2 => ?_) (fun h2 => ?_)
  · rw [if_neg (by unfold okE; rw [decide_eq_true_iff]; omega)]; exact vret rfl
  refine vn (p_len el32 (List.length_map _)) rfl ?_
  dsimp only [c_a, n_a]
  refine vn q_gtr rfl ?_
  dsimp only [c_a, n_a]
  refine vs _ rfl (fun h6 => ?_) (fun h6 => ?_)
  · rw [if_neg (by unfold okE; rw [decide_eq_true_iff]; omega)]; exact vret rfl
  refine vcall (d_sContains e 94 longP (fun p hp' => d_oCheckEquation_1 p (hp p hp')) hs) rfl ?_
  dsimp only [c_a, n_a]
  refine vsb (e.any longP) rfl (fun h9 => ?_) (fun h9 => ?_)
  · rw [if_neg (by
      unfold okE; rw [decide_eq_true_iff]
      rintro ⟨_, _, h, _⟩
      obtain ⟨p, hp1, hp2⟩ := List.any_eq_true.1 h9
      have := h p hp1
      simp [longP] at hp2; omega)]; exact vret rfl
  refine vn (p_len el32 (List.length_map _)) rfl ?_
  dsimp only [c_a, n_a]
  refine vn (p_sub_i64 (by omega) (by omega)) rfl ?_
  dsimp only [c_a, n_a]
  obtain ⟨p, hpl⟩ : ∃ p, e[e.length - 1]? = some p := ⟨_, List.getElem?_eq_getElem (by omega)⟩
  refine vn (p_idxm el32 (by omega) (by omega) hpl) rfl ?_
  dsimp only [c_a, n_a]
  refine vn (p_load1 ag72) rfl ?_
  dsimp only [c_a, n_a]
  refine vcall (d_pDegree p (hp p (List.mem_of_getElem? hpl))) rfl ?_
  dsimp only [c_a, n_a]
  refine vn q_lss rfl ?_
  dsimp only [c_a, n_a]
  refine vs _ rfl (fun h17 => ?_) (fun h17 => ?_)
  · rw [if_neg (by
      unfold okE; rw [decide_eq_true_iff]
      rintro ⟨_, _, _, h⟩
      have := h p hpl
      omega)]; exact vret rfl
  rw [if_pos (by
    unfold okE; rw [decide_eq_true_iff]
    refine ⟨by omega, by omega, fun p' hp' => ?_, fun p' hp' => ?_⟩
    · have := List.any_eq_false.1 h9 p' hp'
      simp [longP] at this; omega
    · rw [hpl] at hp'; simp only [Option.some.injEq] at hp'; subst hp'; omega)]; exact vret rfl

/-- sizes of equations and numbers -/
structure EqS (e : List (List Rat)) : Prop where
  l : e.length ≤ 64
  p : ∀ p ∈ e, p.length ≤ 64 ∧ ∀ q ∈ p, Fit 513 q
/-- is a number regular? -/
def regE (e : List (List Rat)) (c : Rat) : Bool := decide (∀ p, e[e.length - 1]? = some p → evalQ p c ≠ 0)

theorem d_oregular (e : List (List Rat)) (c : Rat) (he : EqS e) (h0 : 0 < e.length) (hc : Fit 513 c) : Does prog 97 [(.one (eQ e) : STy), (qT c : STy)] (.ret [.one (.bool (regE e c))]) := by
  refine does_of_vc (args := [.v none, .v (some 3)]) (ins := [.v (.one (eQ e)), .v (qT c)]) (hints := (fun _ => none)) fo (by kernel_rfl) func97 ⟨rfl, rfl, trivial⟩ ?_
  rw [x_oregular]
  dsimp only [List.map, In.env, c_a, n_a]
  have hl := he.l
  refine vn (p_len el32 (List.length_map _)) rfl ?_
  dsimp only [c_a, n_a]
  refine vn (p_sub_i64 (by omega) (by omega)) rfl ?_
  dsimp only [c_a, n_a]
  obtain ⟨p, hpl⟩ : ∃ p, e[e.length - 1]? = some p := ⟨_, List.getElem?_eq_getElem (by omega)⟩
  obtain ⟨hp1, hp2⟩ := he.p p (List.mem_of_getElem? hpl)
  refine vn (p_idxm el32 (by omega) (by omega) hpl) rfl ?_
  dsimp only [c_a, n_a]
  refine vn (p_load1 ag72) rfl ?_
  dsimp only [c_a, n_a]
  refine vcall (d_pEval p c 513 (by omega) hp2 hc (by omega)) rfl ?_
  dsimp only [c_a, n_a]
  refine vcall (d_QSign _) rfl ?_
  dsimp only [c_a, n_a]
  refine vn q_neq rfl ?_
  dsimp only [c_a, n_a]
  refine vret ?_
  have : regE e c = decide ((evalQ p c).num.sign ≠ 0) := by
    unfold regE
    rw [decide_eq_decide]
    constructor
    · intro h hh; exact h p hpl (sign_zero.1 hh)
    · intro h p' hp' hh
      rw [hpl] at hp'; simp only [Option.some.injEq] at hp'; subst hp'
      exact h (sign_zero.2 hh)
  rw [this]; rfl

/-- is a function valid? -/
def okF (e : List (List Rat)) (c : Rat) (y : List Rat) : Bool := okE e && decide (y.length = e.length - 1) && regE e c

theorem d_oCheck (e : List (List Rat)) (c : Rat) (y : List Rat) (he : EqS e) (hc : Fit 513 c) (hy : y.length < 1099511627776) : Does prog 21 [(.agg [eQ e, dT c.num.natAbs, .bool (decide (c.num < 0)), dT (c.den - 1), sQ y] : STy)] (.ret [.one (.int .i64 (if okF e c y then 0 else 2))]) := by
  refine does_of_vc (args := [.v (some 5)]) (ins := [.v (.agg [eQ e, dT c.num.natAbs, .bool (decide (c.num < 0)), dT (c.den - 1), sQ y])]) (hints := (fun _ => none)) fo (by kernel_rfl) func21 ⟨rfl, trivial⟩ ?_
  rw [x_oCheck]
  dsimp only [List.map, In.env, c_a, n_a]
  have hl := he.l
  have hp := he.p
  refine vcall (d_oCheckEquation e (by omega) (fun p hp' => by have := (hp p hp').1; omega)) rfl ?_
  dsimp only [c_a, n_a]
  refine vn q_neq rfl ?_
  dsimp only [c_a, n_a]
  have h2' : decide ((if okE e = true then (0 : Int) else 2) ≠ 0) = !okE e := by cases okE e <;> rfl
  rw [h2']
  refine vsb (!okE e) rfl (fun h2 => ?_) (fun h2 => ?_)
  · rw [if_neg (by simp at h2; simp [okF, h2])]; exact vret rfl
  have h2 : okE e = true := by simpa using h2
  have hlen : 2 ≤ e.length := by unfold okE at h2; rw [decide_eq_true_iff] at h2; exact h2.1
  refine vn (p_len el40 (List.length_map _)) rfl ?_
  dsimp only [c_a, n_a]
  refine vn (p_len el32 (List.length_map _)) rfl ?_
  dsimp only [c_a, n_a]
  refine vn (p_sub_i64 (by omega) (by omega)) rfl ?_
  dsimp only [c_a, n_a]
  refine vn q_neq rfl ?_
  dsimp only [c_a, n_a]
  refine vs _ rfl (fun h8 => ?_) (fun h8 => ?_)
  · rw [if_neg (by simp [okF]; intro _ _; omega)]; exact vret rfl
  refine vcall (d_oregular e c he (by omega) hc) rfl ?_
  dsimp only [c_a, n_a]
  refine vn p_not rfl ?_
  dsimp only [c_a, n_a]
  refine vsb (!regE e c) rfl (fun h12 => ?_) (fun h12 => ?_)
  · rw [if_neg (by simp at h12; simp [okF, h12])]; exact vret rfl
  rw [if_pos (by simp at h12; simp [okF, h12, h2]; omega)]; exact vret rfl
end Go.Sy
namespace Go.Sy
open Go Go.Proofs Tryz Ord

theorem evalQ_snoc (ps : List Rat) (a c : Rat) : evalQ (ps ++ [a]) c = evalQ ps c + a * c ^ ps.length := by
  unfold evalQ
  rw [List.foldr_append]
  have key : ∀ (ps : List Rat) (s : Rat), List.foldr (fun a v => v * c + a) s ps = List.foldr (fun a v => v * c + a) 0 ps + s * c ^ ps.length := by
    intro ps
    induction ps with
    | nil => intro s; simp only [List.foldr_nil, List.length_nil, Rat.pow_zero]; grind
    | cons x ps ih => intro s; simp only [List.foldr_cons, List.length_cons, Rat.pow_succ]; rw [ih s]; grind
  rw [key]
  congr 1
  simp only [List.foldr_cons, List.foldr_nil]
  grind
theorem evalQ_fit {B : Nat} (hB : 1 ≤ B) {c : Rat} (hc : Fit B c) : ∀ ps : List Rat, (∀ q ∈ ps, Fit B q) → Fit (ps.length * (2 * B + 1) + 1) (evalQ ps c)
  | [], _ => Fit.zero (by omega)
  | a :: ps, h => by
    have ih := evalQ_fit hB hc ps (fun q hq => h q (List.mem_cons_of_mem _ hq))
    have := (ih.mul hc).add (h a List.mem_cons_self)
    refine this.mono ?_
    rw [List.length_cons, Nat.add_mul]; omega

theorem d_PEval (ps : List RQ) (c : RQ) (B : Nat) (hB : 1 ≤ B) (hp : ∀ q ∈ ps, Fit B q.q) (hc : Fit B c.q) (hl : ps.length * (2 * B + 2) ≤ 1073741824) (hs : ps.length ≤ 1073741824) (hB2 : B ≤ 1048576) : Does prog 124 [(.one (sR ps) : STy), (rT' c : STy)] (.ret [rT' (.of (evalQ (ps.map RQ.q) c.q))]) := by
  refine does_of_vc (args := [.v none, .v (some 4)]) (ins := [.v (.one (sR ps)), .v (rT' c)]) (hints := (fun _ => none)) fo (by kernel_rfl) func124 ⟨rfl, rfl, trivial⟩ ?_
  rw [x_PEval]
  dsimp only [List.map, In.env, c_a, n_a]
  have hmap : ∀ q ∈ ps.map RQ.q, Fit B q := fun q hq => by
    obtain ⟨a, ha, rfl⟩ := List.mem_map.1 hq
    exact hp a ha
  refine vcall (d_RInt 0 (by omega) (by omega)) rfl ?_
  dsimp only [c_a, n_a]
  refine vcall (d_RInt 1 (by omega) (by omega)) rfl ?_
  dsimp only [c_a, n_a]
  refine vloop {i : Nat // i ≤ ps.length} (fun g => [.one (.int .i64 g.1), .one (.int .i64 (evalQ ((ps.map RQ.q).take g.1) c.q).num.sign), .one (bT (evalQ ((ps.map RQ.q).take g.1) c.q).num.natAbs), .one (.int .i64 1), .one (bT (evalQ ((ps.map RQ.q).take g.1) c.q).den), .one (.int .i64 (c.q ^ g.1).num.sign), .one (bT (c.q ^ g.1).num.natAbs), .one (.int .i64 1), .one (bT (c.q ^ g.1).den)]) (fun g => ps.length - g.1) ⟨0, Nat.zero_le _⟩ (by
    simp only [List.take_zero, Rat.pow_zero]; exact SubL.rfl) (fun _ => rfl) ?_
  rintro ⟨i, hi⟩
  dsimp only [c_a, n_a] at hi ⊢
  refine vn (p_len el167 (List.length_map _)) rfl ?_
  dsimp only [c_a, n_a]
  refine vn q_lss rfl ?_
  dsimp only [c_a, n_a]
  refine vs _ rfl (fun h5 => ?_) (fun h5 => ?_)
  · obtain ⟨a, ha⟩ : ∃ a, ps[i]? = some a := ⟨_, List.getElem?_eq_getElem (by omega)⟩
    have hma : (ps.map RQ.q)[i]? = some a.q := by rw [List.getElem?_map, ha]; rfl
    have hfa := hp a (List.mem_of_getElem? ha)
    have hfi := hc.pow hB i
    have hlen : ((ps.map RQ.q).take i).length = i := by simp; omega
    have hfe := evalQ_fit hB hc ((ps.map RQ.q).take i) (fun q hq => hmap q (List.mem_of_mem_take hq))
    rw [hlen] at hfe
    have hib : i * (2 * B + 2) ≤ 1073741824 := Nat.le_trans (Nat.mul_le_mul_right _ hi) hl
    have hib2 : i * (2 * B + 2) = i * (2 * B + 1) + i := by rw [show 2 * B + 2 = (2 * B + 1) + 1 by omega, Nat.mul_add i (2 * B + 1) 1, Nat.mul_one]
    have hib3 : B * i ≤ i * (2 * B + 1) := by rw [Nat.mul_comm]; exact Nat.mul_le_mul_left _ (by omega)
    have hsn : evalQ ((ps.map RQ.q).take (i + 1)) c.q = evalQ ((ps.map RQ.q).take i) c.q + a.q * c.q ^ i := by
      rw [List.take_add_one, hma]
      show evalQ (_ ++ [a.q]) c.q = _
      rw [evalQ_snoc, hlen]
    refine vn (p_idxm el167 (by omega) (by omega) ha) rfl ?_
    dsimp only [c_a, n_a]
    refine vn (p_load ag49 (by decide) (by simp) (.inl rfl)) rfl ?_
    dsimp only [c_a, n_a]
    have hm := d_RMul a (.of (c.q ^ i)) _ _ hfa hfi (by omega)
    refine vcall hm rfl ?_
    dsimp only [c_a, n_a]
    have hs1 := d_RAdd (.of (evalQ ((ps.map RQ.q).take i) c.q)) (.of (a.q * (RQ.of (c.q ^ i)).q)) _ _ hfe (hfa.mul hfi) (by omega)
    rw [RQ.of_q, RQ.of_q, RQ.of_q, ← hsn] at hs1
    refine vcall hs1 rfl ?_
    dsimp only [c_a, n_a]
    have hm2 := d_RMul (.of (c.q ^ i)) c _ _ hfi hc (by omega)
    rw [RQ.of_q, ← Rat.pow_succ] at hm2
    refine vcall hm2 rfl ?_
    dsimp only [c_a, n_a]
    refine vn (p_add_i64 (by omega) (by omega)) rfl ?_
    dsimp only [c_a, n_a]
    exact vback rfl ⟨⟨i + 1, by omega⟩, SubL.rfl, by show ps.length - (i + 1) < ps.length - i; omega⟩
  rw [show i = ps.length by omega]
  have e : (ps.map RQ.q).take ps.length = ps.map RQ.q := List.take_of_length_le (by simp)
  rw [e]; exact vret rfl

/-- an equation of the reference as numbers -/
def eqR (e : List (List RQ)) : List (List Rat) := e.map fun p => p.map RQ.q
theorem eqR_get {e : List (List RQ)} {i : Nat} {p : List RQ} (h : e[i]? = some p) : (eqR e)[i]? = some (p.map RQ.q) := by rw [eqR, List.getElem?_map, h]; rfl
theorem eqR_len (e : List (List RQ)) : (eqR e).length = e.length := List.length_map _
theorem tlenR (p : List RQ) : tlen zrR p = tlen zr (p.map RQ.q) := (tlen_map (z := zr) RQ.q p).symm

theorem d_EValid (e : List (List RQ)) (hs : e.length < 1099511627776) (hp : ∀ p ∈ e, p.length < 1099511627776) : Does prog 20 [(.one (eR e) : STy)] (.ret [.one (.bool (okE (eqR e)))]) := by
  refine does_of_vc (args := [.v none]) (ins := [.v (.one (eR e))]) (hints := (fun _ => none)) fo (by kernel_rfl) func20 ⟨rfl, trivial⟩ ?_
  rw [x_EValid]
  dsimp only [List.map, In.env, c_a, n_a]
  have hlen := eqR_len e
  refine vn (p_len el44 (List.length_map _)) rfl ?_
  dsimp only [c_a, n_a]
  refine vn q_lss rfl ?_
  dsimp only [c_a, n_a]
  refine vs _ rfl (fun h2 => ?_) (fun h2 => ?_)
  · rw [show okE (eqR e) = false by unfold okE; rw [decide_eq_false_iff_not]; omega]; exact vret rfl
  refine vn (p_len el44 (List.length_map _)) rfl ?_
  dsimp only [c_a, n_a]
  refine vn q_gtr rfl ?_
  dsimp only [c_a, n_a]
  refine vs _ rfl (fun h6 => ?_) (fun h6 => ?_)
  · rw [show okE (eqR e) = false by unfold okE; rw [decide_eq_false_iff_not]; omega]; exact vret rfl
  refine vloop {i : Nat // i ≤ e.length ∧ ∀ j p, j < i → e[j]? = some p → tlen zrR p ≤ 41} (fun g => [.one (.bool false), .one (.int .i64 g.1)]) (fun g => e.length - g.1) ⟨0, Nat.zero_le _, fun j p h => by omega⟩ SubL.rfl (fun _ => rfl) ?_
  rintro ⟨i, hi, hb⟩
  dsimp only [c_a, n_a] at hi hb ⊢
  refine vn (p_len el44 (List.length_map _)) rfl ?_
  dsimp only [c_a, n_a]
  refine vn q_lss rfl ?_
  dsimp only [c_a, n_a]
  refine vs _ rfl (fun h11 => ?_) (fun h11 => ?_)
  · obtain ⟨p, hpi⟩ : ∃ p, e[i]? = some p := ⟨_, List.getElem?_eq_getElem (by omega)⟩
    refine vn (p_idxm el44 (by omega) (by omega) hpi) rfl ?_
    dsimp only [c_a, n_a]
    refine vn (p_load1 ag167) rfl ?_
    dsimp only [c_a, n_a]
    refine vcall (d_PDegree p (hp p (List.mem_of_getElem? hpi))) rfl ?_
    dsimp only [c_a, n_a]
    refine vn q_gtr rfl ?_
    dsimp only [c_a, n_a]
    refine vs _ rfl (fun h16 => ?_) (fun h16 => ?_)
    · rw [show okE (eqR e) = false by
        unfold okE; rw [decide_eq_false_iff_not]
        rintro ⟨_, _, h, _⟩
        have := h _ (List.mem_of_getElem? (eqR_get hpi))
        rw [← tlenR] at this; omega]; exact vret rfl
    refine vn (p_add_i64 (by omega) (by omega)) rfl ?_
    dsimp only [c_a, n_a]
    exact vback rfl ⟨⟨i + 1, by omega, fun j p' hj hp' => by
      rcases Nat.lt_or_ge j i with h | h
      · exact hb j p' h hp'
      · rw [show j = i by omega, hpi] at hp'; simp only [Option.some.injEq] at hp'; subst hp'; omega⟩, SubL.rfl, by show e.length - (i + 1) < e.length - i; omega⟩
  refine vn (p_len el44 (List.length_map _)) rfl ?_
  dsimp only [c_a, n_a]
  refine vn (p_sub_i64 (by omega) (by omega)) rfl ?_
  dsimp only [c_a, n_a]
  obtain ⟨p, hpl⟩ : ∃ p, e[e.length - 1]? = some p := ⟨_, List.getElem?_eq_getElem (by omega)⟩
  refine vn (p_idxm el44 (by omega) (by omega) hpl) rfl ?_
  dsimp only [c_a, n_a]
  refine vn (p_load1 ag167) rfl ?_
  dsimp only [c_a, n_a]
  refine vcall (d_PDegree p (hp p (List.mem_of_getElem? hpl))) rfl ?_
  dsimp only [c_a, n_a]
  refine vn q_geq rfl ?_
  dsimp only [c_a, n_a]
  rw [show okE (eqR e) = decide ((0 : Int) ≤ (tlen zrR p : Int) - 1) by
    unfold okE; rw [decide_eq_decide]
    constructor
    · rintro ⟨_, _, _, h⟩
      have := h _ (by rw [hlen]; exact eqR_get hpl)
      rw [← tlenR] at this; omega
    · intro h
      refine ⟨by omega, by omega, fun p' hp' => ?_, fun p' hp' => ?_⟩
      · obtain ⟨p0, hp0, rfl⟩ := List.mem_map.1 hp'
        obtain ⟨j, hj⟩ := List.getElem?_of_mem hp0
        have hje := (List.getElem?_eq_some_iff.1 hj).1
        have := hb j p0 (by omega) hj
        rw [← tlenR]; exact this
      · rw [hlen, eqR_get hpl] at hp'; simp only [Option.some.injEq] at hp'; subst hp'
        rw [← tlenR]; omega]; exact vret rfl

theorem d_ERegular (e : List (List RQ)) (c : RQ) (he : EqS (eqR e)) (h0 : 0 < e.length) (hc : Fit 513 c.q) : Does prog 42 [(.one (eR e) : STy), (rT' c : STy)] (.ret [.one (.bool (regE (eqR e) c.q))]) := by
  refine does_of_vc (args := [.v none, .v (some 4)]) (ins := [.v (.one (eR e)), .v (rT' c)]) (hints := (fun _ => none)) fo (by kernel_rfl) func42 ⟨rfl, rfl, trivial⟩ ?_
  rw [x_ERegular]
  dsimp only [List.map, In.env, c_a, n_a]
  have hl := he.l
  have hlen := eqR_len e
  refine vn (p_len el44 (List.length_map _)) rfl ?_
  dsimp only [c_a, n_a]
  refine vn (p_sub_i64 (by omega) (by omega)) rfl ?_
  dsimp only [c_a, n_a]
  obtain ⟨p, hpl⟩ : ∃ p, e[e.length - 1]? = some p := ⟨_, List.getElem?_eq_getElem (by omega)⟩
  obtain ⟨hp1, hp2⟩ := he.p _ (List.mem_of_getElem? (eqR_get hpl))
  rw [List.length_map] at hp1
  refine vn (p_idxm el44 (by omega) (by omega) hpl) rfl ?_
  dsimp only [c_a, n_a]
  refine vn (p_load1 ag167) rfl ?_
  dsimp only [c_a, n_a]
  refine vcall (d_PEval p c 513 (by omega) (fun q hq => hp2 _ (List.mem_map.2 ⟨q, hq, rfl⟩)) hc (by omega) (by omega) (by omega)) rfl ?_
  dsimp only [c_a, n_a]
  refine vcall (d_RSign _) rfl ?_
  dsimp only [c_a, n_a]
  refine vn q_neq rfl ?_
  dsimp only [c_a, n_a]
  refine vret ?_
  have : regE (eqR e) c.q = decide ((evalQ (p.map RQ.q) c.q).num.sign ≠ 0) := by
    unfold regE
    rw [decide_eq_decide, hlen]
    constructor
    · intro h hh; exact h _ (eqR_get hpl) (sign_zero.1 hh)
    · intro h p' hp' hh
      rw [eqR_get hpl] at hp'; simp only [Option.some.injEq] at hp'; subst hp'
      exact h (sign_zero.2 hh)
  rw [this]; rfl

theorem d_ERight (e : List (List RQ)) (c : RQ) (y : List RQ) (he : EqS (eqR e)) (hc : Fit 513 c.q) (hy : y.length < 1099511627776) : Does prog 22 [(.agg [eR e, .int .i64 c.q.num.sign, bT c.q.num.natAbs, .int .i64 (if c.z then 0 else 1), bT (if c.z then 0 else c.q.den), sR y] : STy)] (.ret [.one (.bool (okF (eqR e) c.q (y.map RQ.q)))]) := by
  refine does_of_vc (args := [.v (some 6)]) (ins := [.v (.agg [eR e, .int .i64 c.q.num.sign, bT c.q.num.natAbs, .int .i64 (if c.z then 0 else 1), bT (if c.z then 0 else c.q.den), sR y])]) (hints := (fun _ => none)) fo (by kernel_rfl) func22 ⟨rfl, trivial⟩ ?_
  rw [x_ERight]
  dsimp only [List.map, In.env, c_a, n_a]
  have hl := he.l
  have hlen := eqR_len e
  have hp := he.p
  refine vcall (d_EValid e (by omega) (fun p hp' => by have := (hp _ (List.mem_map.2 ⟨p, hp', rfl⟩)).1; rw [List.length_map] at this; omega)) rfl ?_
  dsimp only [c_a, n_a]
  refine vsb (okE (eqR e)) rfl (fun h1 => ?_) (fun h1 => ?_)
  · have hle : 2 ≤ e.length := by unfold okE at h1; rw [decide_eq_true_iff] at h1; omega
    refine vn (p_len el50 (List.length_map _)) rfl ?_
    dsimp only [c_a, n_a]
    refine vn (p_len el44 (List.length_map _)) rfl ?_
    dsimp only [c_a, n_a]
    refine vn (p_sub_i64 (by omega) (by omega)) rfl ?_
    dsimp only [c_a, n_a]
    refine vn q_eql rfl ?_
    dsimp only [c_a, n_a]
    refine vs _ rfl (fun h6 => ?_) (fun h6 => ?_)
    · refine vcall (d_ERegular e c he (by omega) hc) rfl ?_
      dsimp only [c_a, n_a]
      rw [show okF (eqR e) c.q (y.map RQ.q) = regE (eqR e) c.q by simp [okF, h1, hlen]; omega]; exact vret rfl
    rw [show okF (eqR e) c.q (y.map RQ.q) = false by simp [okF, hlen]; intro _ _; omega]; exact vret rfl
  rw [show okF (eqR e) c.q (y.map RQ.q) = false by simp [okF, h1]]; exact vret rfl

theorem take_all {α β : Type} {f : β → α} {a : List α} {b : List β} (hl : a.length = b.length) (h : ∀ (i : Nat) (x : α) (y : β), a[i]? = some x → b[i]? = some y → x = f y) : a = b.map f := by
  apply List.ext_getElem?
  intro i
  rw [List.getElem?_map]
  by_cases hi : i < a.length
  · have hx : a[i]? = some a[i] := List.getElem?_eq_getElem hi
    have hy : b[i]? = some (b[i]'(by omega)) := List.getElem?_eq_getElem (by omega)
    rw [hx, hy, h i _ _ hx hy]; rfl
  · rw [List.getElem?_eq_none_iff.2 (by omega), List.getElem?_eq_none_iff.2 (by omega)]; rfl

theorem d_KAlike (a : List Rat) (b : List RQ) (B : Nat) (ha : ∀ q ∈ a, Fit B q) (hb : ∀ q ∈ b, Fit B q.q) (hB : B ≤ 268435456) (hs : a.length < 1099511627776) (hs2 : b.length < 1099511627776) : Does prog 27 [(.one (sQ a) : STy), (.one (sR b) : STy)] (.ret [.one (.bool (decide (a = b.map RQ.q)))]) := by
  refine does_of_vc (args := [.v none, .v none]) (ins := [.v (.one (sQ a)), .v (.one (sR b))]) (hints := (fun _ => none)) fo (by kernel_rfl) func27 ⟨rfl, rfl, trivial⟩ ?_
  rw [x_KAlike]
  dsimp only [List.map, In.env, c_a, n_a]
  refine vn (p_len el40 (List.length_map _)) rfl ?_
  dsimp only [c_a, n_a]
  refine vn (p_len el50 (List.length_map _)) rfl ?_
  dsimp only [c_a, n_a]
  refine vn q_neq rfl ?_
  dsimp only [c_a, n_a]
  refine vs _ rfl (fun h3 => ?_) (fun h3 => ?_)
  · rw [decide_eq_false (fun e => by have := congrArg List.length e; rw [List.length_map] at this; omega)]; exact vret rfl
  have hlen : a.length = b.length := by omega
  refine vloop {i : Nat // i ≤ a.length ∧ ∀ j x y, j < i → a[j]? = some x → b[j]? = some y → x = y.q} (fun g => [.one (.bool false), .one (.int .i64 g.1)]) (fun g => a.length - g.1) ⟨0, Nat.zero_le _, fun j x y h => by omega⟩ SubL.rfl (fun _ => rfl) ?_
  rintro ⟨i, hi, he⟩
  dsimp only [c_a, n_a] at hi he ⊢
  refine vn (p_len el40 (List.length_map _)) rfl ?_
  dsimp only [c_a, n_a]
  refine vn q_lss rfl ?_
  dsimp only [c_a, n_a]
  refine vs _ rfl (fun h8 => ?_) (fun h8 => ?_)
  · obtain ⟨x, hx⟩ : ∃ x, a[i]? = some x := ⟨_, List.getElem?_eq_getElem (by omega)⟩
    obtain ⟨y, hy⟩ : ∃ y, b[i]? = some y := ⟨_, List.getElem?_eq_getElem (by omega)⟩
    refine vn (p_idxm el40 (by omega) (by omega) hx) rfl ?_
    dsimp only [c_a, n_a]
    refine vn (p_load ag39 (by decide) (by simp) (.inl rfl)) rfl ?_
    dsimp only [c_a, n_a]
    refine vn (p_idxm el50 (by omega) (by omega) hy) rfl ?_
    dsimp only [c_a, n_a]
    refine vn (p_load ag49 (by decide) (by simp) (.inl rfl)) rfl ?_
    dsimp only [c_a, n_a]
    refine vcall (d_KSame x y B (ha x (List.mem_of_getElem? hx)) (hb y (List.mem_of_getElem? hy)) hB) rfl ?_
    dsimp only [c_a, n_a]
    refine vn q_not rfl ?_
    dsimp only [c_a, n_a]
    refine vs _ rfl (fun h15 => ?_) (fun h15 => ?_)
    · rw [decide_eq_false (fun e => h15 (by
        rw [e, List.getElem?_map, hy] at hx
        simpa using hx.symm))]; exact vret rfl
    refine vn (p_add_i64 (by omega) (by omega)) rfl ?_
    dsimp only [c_a, n_a]
    exact vback rfl ⟨⟨i + 1, by omega, fun j x' y' hj hx' hy' => by
      rcases Nat.lt_or_ge j i with h | h
      · exact he j x' y' h hx' hy'
      · rw [show j = i by omega] at hx' hy'
        rw [hx] at hx'; rw [hy] at hy'
        simp only [Option.some.injEq] at hx' hy'
        subst hx' hy'
        exact Decidable.of_not_not h15⟩, SubL.rfl, by show a.length - (i + 1) < a.length - i; omega⟩
  rw [decide_eq_true (take_all hlen fun j x y hx hy => he j x y (by have := (List.getElem?_eq_some_iff.1 hx).1; omega) hx hy)]; exact vret rfl
end Go.Sy
