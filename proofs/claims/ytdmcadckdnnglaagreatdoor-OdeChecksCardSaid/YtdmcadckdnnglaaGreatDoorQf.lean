/- The reach: sums of absolute values, halved radii, doubled starts. The reach.
-/
import Derived.Test.YtdmcadckdnnglaaGreatDoorQc
import Derived.Test.YtdmcadckdnnglaaGreatDoorQe
set_option linter.unusedVariables false
set_option linter.unusedSimpArgs false
namespace Ord
/-- the first k of what the tail of the leading polynomial makes at a radius -/
def sumT (r : List Rat) (rho : Rat) : Nat → Rat
  | 0 => 0
  | k + 1 => sumT r rho k + (r.getD k 0).abs * rho ^ (k + 1)
def rhoAt (h : Nat) : Rat := ((4 : Int) : Rat) * mkRat 1 (2 ^ h)
/-- the first k terms of a row -/
def mostIn (p : List Rat) (m i : Nat) (rho N x : Rat) : Nat → Rat
  | 0 => x
  | k + 1 => if i < m ∨ 0 < k then mostIn p m i rho N x k + (p.getD k 0).abs * rho ^ (m + k - i) / N ^ (m - i) else mostIn p m i rho N x k
/-- the first i rows -/
def mostOut (q : List (List Rat)) (m : Nat) (rho N : Rat) : Nat → Rat
  | 0 => 0
  | i + 1 => mostIn (q.getD i []) m i rho N (mostOut q m rho N i) (q.getD i []).length
/-- few bits on the way -/
structure Mild (B : Nat) (q : List (List Rat)) (m : Nat) (rho : Rat) (N : Int) (L : Nat) : Prop where
  fq : ∀ p ∈ q, p.length ≤ L ∧ ∀ x ∈ p, Fit B x
  frho : ∀ j, j ≤ 2 * (m + L) + 1 → Fit B (rho ^ j)
  fN : ∀ j, j ≤ 2 * m + 1 → Fit B ((N : Rat) ^ j)
  fx : ∀ i k, i < q.length → k ≤ (q.getD i []).length → Fit B (mostIn (q.getD i []) m i rho N (mostOut q m rho N i) k)
end Ord
namespace Go.Sy
open Go Go.Proofs Tryz Ord

def t129_27 : Tr := .back 1 [(.w (W 32 0)), (.w (W 31 0)), (.w (W 31 1)), (.w (W 31 2))]
def t129_26 : Tr := .need (.prim [(W 12 0), (WK (1))] none) (.binOp .add 3 (.tmp 25) (.const (I3 (1))) 3) 3 false t129_27
def t129_25 : Tr := .need (.call 64 [(.agg [(U 13 0), (U 14 0), (U 15 0)]), (.agg [(U 30 0), (U 30 1), (U 30 2)])] [(some 3)]) (.call ⟨.value (.func 64), #[(.tmp 37), (.tmp 57)], #[39, 39]⟩) 39 true t129_26
def t129_24 : Tr := .need (.call 207 [(.agg [(U 24 0), (U 24 1), (U 24 2)]), (.agg [(U 29 0), (U 29 1), (U 29 2)])] [(some 3)]) (.call ⟨.value (.func 207), #[(.tmp 47), (.tmp 56)], #[39, 39]⟩) 39 true t129_25
def t129_23 : Tr := .need (.call 203 [(.agg [(U 27 0), (U 27 1), (U 27 2)]), (W 28 0)] [(some 3)]) (.call ⟨.value (.func 203), #[(.tmp 52), (.tmp 55)], #[39, 3]⟩) 39 false t129_24
def t129_22 : Tr := .need (.prim [(W 0 1), (W 4 0)] none) (.binOp .sub 3 (.tmp 53) (.tmp 54) 3) 3 false t129_23
def t129_21 : Tr := .need (.call 68 [(W 26 0)] [(some 3)]) (.call ⟨.value (.func 68), #[(.tmp 51)], #[2]⟩) 39 false t129_22
def t129_20 : Tr := .need (.prim [(W 25 0), (WK (1))] none) (.binOp .add 3 (.tmp 50) (.const (I3 (1))) 3) 3 false t129_21
def t129_19 : Tr := .need (.prim [(W 2 0), (W 0 1)] none) (.binOp .sub 3 (.tmp 48) (.tmp 49) 3) 3 false t129_20
def t129_18 : Tr := .need (.call 36 [(.agg [(U 20 0), (U 20 1), (U 20 2)]), (.agg [(U 23 0), (U 23 1), (U 23 2)])] [(some 3)]) (.call ⟨.value (.func 36), #[(.tmp 39), (.tmp 46)], #[39, 39]⟩) 39 false t129_19
def t129_17 : Tr := .need (.call 203 [(.agg [(U 1 0), (U 1 1), (U 1 2)]), (W 22 0)] [(some 3)]) (.call ⟨.value (.func 203), #[(.tmp 40), (.tmp 45)], #[39, 3]⟩) 39 false t129_18
def t129_16 : Tr := .need (.prim [(W 21 0), (W 4 0)] none) (.binOp .sub 3 (.tmp 43) (.tmp 44) 3) 3 false t129_17
def t129_15 : Tr := .need (.prim [(W 0 1), (W 12 0)] none) (.binOp .add 3 (.tmp 41) (.tmp 42) 3) 3 false t129_16
def t129_14 : Tr := .need (.call 146 [(.agg [(U 18 0), (U 18 1), (U 18 2)])] [(some 3)]) (.call ⟨.value (.func 146), #[(.tmp 38)], #[39]⟩) 39 false t129_15
def t129_43 : Tr := .back 1 [(.w (W 33 0)), (.w (W 32 0)), (.w (W 32 1)), (.w (W 32 2))]
def t129_42 : Tr := .need (.prim [(W 12 0), (WK (1))] none) (.binOp .add 3 (.tmp 25) (.const (I3 (1))) 3) 3 false t129_43
def t129_41 : Tr := .need (.call 64 [(.agg [(U 13 0), (U 14 0), (U 15 0)]), (.agg [(U 31 0), (U 31 1), (U 31 2)])] [(some 3)]) (.call ⟨.value (.func 64), #[(.tmp 37), (.tmp 57)], #[39, 39]⟩) 39 true t129_42
def t129_40 : Tr := .need (.call 207 [(.agg [(U 25 0), (U 25 1), (U 25 2)]), (.agg [(U 30 0), (U 30 1), (U 30 2)])] [(some 3)]) (.call ⟨.value (.func 207), #[(.tmp 47), (.tmp 56)], #[39, 39]⟩) 39 true t129_41
def t129_39 : Tr := .need (.call 203 [(.agg [(U 28 0), (U 28 1), (U 28 2)]), (W 29 0)] [(some 3)]) (.call ⟨.value (.func 203), #[(.tmp 52), (.tmp 55)], #[39, 3]⟩) 39 false t129_40
def t129_38 : Tr := .need (.prim [(W 0 1), (W 4 0)] none) (.binOp .sub 3 (.tmp 53) (.tmp 54) 3) 3 false t129_39
def t129_37 : Tr := .need (.call 68 [(W 27 0)] [(some 3)]) (.call ⟨.value (.func 68), #[(.tmp 51)], #[2]⟩) 39 false t129_38
def t129_36 : Tr := .need (.prim [(W 26 0), (WK (1))] none) (.binOp .add 3 (.tmp 50) (.const (I3 (1))) 3) 3 false t129_37
def t129_35 : Tr := .need (.prim [(W 2 0), (W 0 1)] none) (.binOp .sub 3 (.tmp 48) (.tmp 49) 3) 3 false t129_36
def t129_34 : Tr := .need (.call 36 [(.agg [(U 21 0), (U 21 1), (U 21 2)]), (.agg [(U 24 0), (U 24 1), (U 24 2)])] [(some 3)]) (.call ⟨.value (.func 36), #[(.tmp 39), (.tmp 46)], #[39, 39]⟩) 39 false t129_35
def t129_33 : Tr := .need (.call 203 [(.agg [(U 1 0), (U 1 1), (U 1 2)]), (W 23 0)] [(some 3)]) (.call ⟨.value (.func 203), #[(.tmp 40), (.tmp 45)], #[39, 3]⟩) 39 false t129_34
def t129_32 : Tr := .need (.prim [(W 22 0), (W 4 0)] none) (.binOp .sub 3 (.tmp 43) (.tmp 44) 3) 3 false t129_33
def t129_31 : Tr := .need (.prim [(W 0 1), (W 12 0)] none) (.binOp .add 3 (.tmp 41) (.tmp 42) 3) 3 false t129_32
def t129_30 : Tr := .need (.call 146 [(.agg [(U 18 0), (U 18 1), (U 18 2)])] [(some 3)]) (.call ⟨.value (.func 146), #[(.tmp 38)], #[39]⟩) 39 false t129_31
def t129_45 : Tr := .back 1 [(.w (W 21 0)), (.w (W 13 0)), (.w (W 14 0)), (.w (W 15 0))]
def t129_44 : Tr := .need (.prim [(W 12 0), (WK (1))] none) (.binOp .add 3 (.tmp 25) (.const (I3 (1))) 3) 3 false t129_45
def t129_29 : Tr := .split (.u 20 0) t129_30 t129_44
def t129_28 : Tr := .need (.prim [(W 12 0), (WK (0))] none) (.binOp .gtr 3 (.tmp 34) (.const (I3 (0))) 3) 4 false t129_29
def t129_13 : Tr := .split (.u 19 0) t129_14 t129_28
def t129_12 : Tr := .need (.prim [(W 4 0), (W 0 1)] none) (.binOp .lss 3 (.tmp 30) (.tmp 31) 3) 4 false t129_13
def t129_11 : Tr := .need (.prim [(W 17 0)] (some 3)) (.load 39 (.tmp 28)) 39 false t129_12
def t129_10 : Tr := .need (.prim [(W 10 0), (W 12 0)] none) (.indexAddr 72 (.tmp 23) (.tmp 25)) 0 false t129_11
def t129_47 : Tr := .back 0 [(.w (W 17 0)), (.w (W 13 0)), (.w (W 14 0)), (.w (W 15 0))]
def t129_46 : Tr := .need (.prim [(W 4 0), (WK (1))] none) (.binOp .add 3 (.tmp 18) (.const (I3 (1))) 3) 3 false t129_47
def t129_9 : Tr := .split (.u 16 0) t129_10 t129_46
def t129_8 : Tr := .need (.prim [(W 12 0), (W 11 0)] none) (.binOp .lss 3 (.tmp 25) (.tmp 24) 3) 0 false t129_9
def t129_7 : Tr := .loop 1 [(.w (WK (0))), (.w (W 5 0)), (.w (W 6 0)), (.w (W 7 0))] t129_8
def t129_6 : Tr := .need (.prim [(W 10 0)] none) (.call ⟨.builtin .len, #[(.tmp 23)], #[72]⟩) 3 false t129_7
def t129_5 : Tr := .need (.prim [(W 9 0)] none) (.load 72 (.tmp 21)) 72 false t129_6
def t129_4 : Tr := .need (.prim [(W 0 0), (W 4 0)] none) (.indexAddr 31 (.tmp 16) (.tmp 18)) 0 false t129_5
def t129_48 : Tr := .ret [(.agg [(U 5 0), (U 6 0), (U 7 0)])]
def t129_3 : Tr := .split (.u 8 0) t129_4 t129_48
def t129_2 : Tr := .need (.prim [(W 4 0), (W 3 0)] none) (.binOp .lss 3 (.tmp 18) (.tmp 17) 3) 0 false t129_3
def t129_1 : Tr := .loop 0 [(.w (WK (0))), (.w (.one (.c (.k (.slice none 0 0))))), (.w (.one (.c (.k (.bool false))))), (.w (.one (.c (.k (.slice none 0 0)))))] t129_2
def t129_0 : Tr := .need (.prim [(W 0 0)] none) (.call ⟨.builtin .len, #[(.tmp 16)], #[31]⟩) 3 false t129_1
theorem x_omost : execF prog f205 (fun _ => none) [.v (some 5), .v (some 3), .v none] = t129_0 := by kernel_rfl
def t130_22 : Tr := .need (.prim [(W 21 0), (WK (1))] none) (.binOp .add 3 (.tmp 33) (.const (I3 (1))) 3) 3 false t129_43
def t130_21 : Tr := .need (.call 64 [(.agg [(U 22 0), (U 23 0), (U 24 0)]), (.agg [(U 31 0), (U 31 1), (U 31 2)])] [(some 3)]) (.call ⟨.value (.func 64), #[(.tmp 38), (.tmp 46)], #[39, 39]⟩) 39 true t130_22
def t130_20 : Tr := .need (.call 36 [(.agg [(U 28 0), (U 28 1), (U 28 2)]), (.agg [(U 30 0), (U 30 1), (U 30 2)])] [(some 3)]) (.call ⟨.value (.func 36), #[(.tmp 40), (.tmp 45)], #[39, 39]⟩) 39 true t130_21
def t130_19 : Tr := .need (.call 203 [(.agg [(U 16 0), (U 16 1), (U 16 2)]), (W 29 0)] [(some 3)]) (.call ⟨.value (.func 203), #[(.tmp 42), (.tmp 44)], #[39, 3]⟩) 39 false t130_20
def t130_18 : Tr := .need (.prim [(W 21 0), (WK (1))] none) (.binOp .add 3 (.tmp 43) (.const (I3 (1))) 3) 3 false t130_19
def t130_17 : Tr := .need (.call 146 [(.agg [(U 27 0), (U 27 1), (U 27 2)])] [(some 3)]) (.call ⟨.value (.func 146), #[(.tmp 39)], #[39]⟩) 39 false t130_18
def t130_16 : Tr := .need (.prim [(W 26 0)] (some 3)) (.load 39 (.tmp 36)) 39 false t130_17
def t130_15 : Tr := .need (.prim [(W 19 0), (W 21 0)] none) (.indexAddr 72 (.tmp 31) (.tmp 33)) 0 false t130_16
def t130_37 : Tr := .ret [(.agg [(U 40 0), (U 41 0), (U 42 0), (U 43 0), (U 44 0), (U 45 0), (U 46 0), (U 47 0), (U 48 0)])]
def t130_39 : Tr := .back 0 [(.w (W 31 0)), (.w (W 32 0)), (.w (W 33 0)), (.w (W 34 0)), (.w (W 35 0)), (.w (W 36 0)), (.w (W 37 0)), (.w (W 38 0)), (.w (W 39 0)), (.w (W 40 0)), (.w (W 41 0)), (.w (W 42 0)), (.w (W 43 0)), (.w (W 44 0)), (.w (W 45 0)), (.w (W 46 0)), (.w (W 47 0)), (.w (W 53 0))]
def t130_38 : Tr := .need (.prim [(W 48 0), (WK (2))] none) (.binOp .mul 3 (.tmp 62) (.const (I3 (2))) 3) 3 false t130_39
def t130_36 : Tr := .split (.u 52 0) t130_37 t130_38
def t130_35 : Tr := .need (.prim [(W 51 0), (WK (0))] none) (.binOp .leq 3 (.tmp 76) (.const (I3 (0))) 3) 4 false t130_36
def t130_34 : Tr := .need (.call 38 [(.agg [(U 50 0), (U 50 1), (U 50 2)]), (.agg [(U 1 0), (U 1 1), (U 1 2)])] [none]) (.call ⟨.value (.func 38), #[(.tmp 74), (.tmp 75)], #[39, 39]⟩) 3 true t130_35
def t130_33 : Tr := .need (.call 205 [(.agg [(U 0 0), (U 0 1), (U 0 2), (U 0 3), (U 0 4)]), (.agg [(U 45 0), (U 46 0), (U 47 0)]), (W 48 0)] [(some 3)]) (.call ⟨.value (.func 205), #[(.tmp 69), (.tmp 71), (.tmp 73)], #[171, 39, 3]⟩) 39 false t130_34
def t130_32 : Tr := .need (.call 130 [(W 49 0), (WK (5))] []) (.call ⟨.value (.func 130), #[(.tmp 67), (.const (I3 (5)))], #[4, 55]⟩) 0 true t130_33
def t130_31 : Tr := .need (.prim [(W 48 0), (WK (4096))] none) (.binOp .leq 3 (.tmp 66) (.const (I3 (4096))) 3) 4 false t130_32
def t130_30 : Tr := .loop 0 [(.w (.one (.c (.k (.slice none 0 0))))), (.w (WK (0))), (.w (.one (.c (.k (.slice none 0 0))))), (.w (.one (.c (.k (.bool false))))), (.w (.one (.c (.k (.slice none 0 0))))), (.w (.one (.c (.k (.slice none 0 0))))), (.w (.one (.c (.k (.bool false))))), (.w (.one (.c (.k (.slice none 0 0))))), (.w (WK (0))), (.w (W 3 0)), (.w (W 4 0)), (.w (W 5 0)), (.w (W 6 0)), (.w (W 7 0)), (.w (W 16 0)), (.w (W 16 1)), (.w (W 16 2)), (.w (W 30 0))] t130_31
def t130_29 : Tr := .need (.prim [(W 29 0), (W 0 1)] none) (.binOp .add 3 (.tmp 56) (.tmp 58) 3) 3 false t130_30
def t130_28 : Tr := .need (.call 204 [(.agg [(U 0 0), (U 0 1), (U 0 2), (U 0 3), (U 0 4)])] [none]) (.call ⟨.value (.func 204), #[(.tmp 55)], #[171]⟩) 3 false t130_29
def t130_41 : Tr := .back 0 [(.w (W 29 0)), (.w (W 3 0)), (.w (W 4 0)), (.w (W 5 0)), (.w (W 6 0)), (.w (W 7 0)), (.w (W 16 0)), (.w (W 16 1)), (.w (W 16 2)), (.w (W 11 0))]
def t130_40 : Tr := .need (.prim [(W 2 0), (WK (1))] none) (.binOp .sub 3 (.tmp 14) (.const (I3 (1))) 3) 3 false t130_41
def t130_27 : Tr := .split (.u 28 0) t130_28 t130_40
def t130_26 : Tr := .need (.prim [(W 27 0), (WK (0))] none) (.binOp .leq 3 (.tmp 53) (.const (I3 (0))) 3) 4 false t130_27
def t130_25 : Tr := .need (.call 38 [(.agg [(U 26 0), (U 26 1), (U 26 2)]), (.agg [(U 1 0), (U 1 1), (U 1 2)])] [none]) (.call ⟨.value (.func 38), #[(.tmp 51), (.tmp 52)], #[39, 39]⟩) 3 true t130_26
def t130_24 : Tr := .need (.call 64 [(.agg [(U 22 0), (U 23 0), (U 24 0)]), (.agg [(U 22 0), (U 23 0), (U 24 0)])] [(some 3)]) (.call ⟨.value (.func 64), #[(.tmp 49), (.tmp 50)], #[39, 39]⟩) 39 false t130_25
def t130_14 : Tr := .split (.u 25 0) t130_15 t130_24
def t130_13 : Tr := .need (.prim [(W 21 0), (W 20 0)] none) (.binOp .lss 3 (.tmp 33) (.tmp 32) 3) 0 false t130_14
def t130_12 : Tr := .loop 1 [(.w (WK (0))), (.w (.one (.c (.k (.slice none 0 0))))), (.w (.one (.c (.k (.bool false))))), (.w (.one (.c (.k (.slice none 0 0)))))] t130_13
def t130_11 : Tr := .need (.prim [(W 19 0)] none) (.call ⟨.builtin .len, #[(.tmp 31)], #[72]⟩) 3 false t130_12
def t130_10 : Tr := .need (.prim [(W 18 0), (WK (1))] none) (.slice 72 (.tmp 30) (some (.const (I3 (1)))) none none) 72 false t130_11
def t130_9 : Tr := .need (.prim [(W 17 0)] none) (.load 72 (.tmp 29)) 72 false t130_10
def t130_8 : Tr := .need (.prim [(W 0 0), (W 0 1)] none) (.indexAddr 31 (.tmp 26) (.tmp 28)) 0 false t130_9
def t130_7 : Tr := .need (.call 36 [(.agg [(U 13 0), (U 13 1), (U 13 2)]), (.agg [(U 15 0), (U 15 1), (U 15 2)])] [(some 3)]) (.call ⟨.value (.func 36), #[(.tmp 19), (.tmp 22)], #[39, 39]⟩) 39 true t130_8
def t130_6 : Tr := .need (.call 202 [(W 14 0)] [(some 3)]) (.call ⟨.value (.func 202), #[(.tmp 21)], #[3]⟩) 39 true t130_7
def t130_5 : Tr := .need (.prim [(WK (2)), (W 2 0)] none) (.binOp .sub 3 (.const (I3 (2))) (.tmp 20) 3) 3 false t130_6
def t130_4 : Tr := .need (.call 68 [(WK (4))] [(some 3)]) (.call ⟨.value (.func 68), #[(.const (I3 (4)))], #[2]⟩) 39 false t130_5
def t130_3 : Tr := .need (.call 130 [(W 12 0), (WK (5))] []) (.call ⟨.value (.func 130), #[(.tmp 17), (.const (I3 (5)))], #[4, 55]⟩) 0 true t130_4
def t130_2 : Tr := .need (.prim [(W 2 0), (WK (-60))] none) (.binOp .geq 3 (.tmp 16) (.const (I3 (-60))) 3) 4 false t130_3
def t130_1 : Tr := .loop 0 [(.w (WK (2))), (.w (W 0 0)), (.w (W 0 1)), (.w (W 0 2)), (.w (W 0 3)), (.w (W 0 4)), (.w (.one (.c (.k (.slice none 0 0))))), (.w (.one (.c (.k (.bool false))))), (.w (.one (.c (.k (.slice none 0 0))))), (.w (WK (0)))] t130_2
def t130_0 : Tr := .need (.call 146 [(.agg [(U 0 2), (U 0 3), (U 0 4)])] [(some 3)]) (.call ⟨.value (.func 146), #[(.tmp 12)], #[39]⟩) 39 true t130_1
theorem x_oreach : execF prog f123 (fun _ => none) [.v (some 5)] = t130_0 := by kernel_rfl

theorem fit_abs {B : Nat} {q : Rat} (h : Fit B q) : Fit B q.abs := by
  obtain ⟨h1, h2⟩ := abs_num q
  exact ⟨by rw [h1]; simpa using h.1, by rw [h2]; exact h.2⟩
theorem pow_ne0 {x : Rat} (h : x ≠ 0) : ∀ j : Nat, x ^ j ≠ 0
  | 0 => by rw [Rat.pow_zero]; decide
  | j + 1 => by
    rw [Rat.pow_succ]
    intro e
    rcases Rat.mul_eq_zero.1 e with e | e
    · exact pow_ne0 h j e
    · exact h e
theorem cmp_le {a b : Rat} : cmpR a b ≤ 0 ↔ a ≤ b := by
  unfold cmpR
  by_cases h1 : a < b
  · rw [if_pos h1]; exact ⟨fun _ => by grind, fun _ => by omega⟩
  · rw [if_neg h1]
    by_cases h2 : b < a
    · rw [if_pos h2]; exact ⟨fun h => by omega, fun h => by grind⟩
    · rw [if_neg h2]; exact ⟨fun _ => by grind, fun _ => by omega⟩

set_option maxHeartbeats 1000000 in
theorem d_omost (q : List (List Rat)) (m : Nat) (lead rho : Rat) (n : Int) (B L : Nat) (C : Mild B q m rho (n - m + 1) L) (hql : q.length = m + 1) (hm : m ≤ 64) (hL : L ≤ 1048576) (hn1 : (m : Int) ≤ n) (hn2 : n < 1099511627776) (hB : B ≤ 8589934592) (h64 : 64 ≤ B) : Does prog 205 [(spT q m lead : STy), (qT rho : STy), (.one (.int .i64 n) : STy)] (.ret [qT (mostOut q m rho ((n - m + 1 : Int) : Rat) q.length)]) := by
  refine does_of_vc (args := [.v (some 5), .v (some 3), .v none]) (ins := [.v (spT q m lead), .v (qT rho), .v (.one (.int .i64 n))]) (hints := (fun _ => none)) fo (by kernel_rfl) func205 ⟨rfl, rfl, rfl, trivial⟩ ?_
  rw [x_omost]
  dsimp only [List.map, In.env, c_a, n_a]
  have hN0 : ((n - m + 1 : Int) : Rat) ≠ 0 := zne (by omega)
  refine vn (p_len el31 (List.length_map _)) rfl ?_
  dsimp only [c_a, n_a]
  refine vloop {i : Nat // i ≤ q.length} (fun g => (.one (.int .i64 g.1) : STy) :: (qC (mostOut q m rho ((n - m + 1 : Int) : Rat) g.1)).map .one) (fun g => q.length - g.1) ⟨0, Nat.zero_le _⟩ ⟨STy.Sub.same, subZero3⟩ (fun _ => rfl) ?_
  rintro ⟨i, hi⟩
  dsimp only [c_a, n_a, List.map] at hi ⊢
  refine vn q_lss rfl ?_
  dsimp only [c_a, n_a]
  refine vs _ rfl (fun h3 => ?_) (fun h3 => ?_)
  · obtain ⟨p, hpi⟩ : ∃ p, q[i]? = some p := ⟨_, List.getElem?_eq_getElem (by omega)⟩
    have hgd : q.getD i [] = p := by rw [List.getD_eq_getElem?_getD, hpi]; rfl
    obtain ⟨hpl, hfp⟩ := C.fq p (List.mem_of_getElem? hpi)
    have hfx := fun k => C.fx i k (by omega)
    rw [hgd] at hfx
    refine vn (p_idxm el31 (by omega) (by omega) hpi) rfl ?_
    dsimp only [c_a, n_a]
    refine vn (p_load1 ag72) rfl ?_
    dsimp only [c_a, n_a]
    refine vn (p_len el72 (List.length_map _)) rfl ?_
    dsimp only [c_a, n_a]
    refine vloop {k : Nat // k ≤ p.length} (fun g => (.one (.int .i64 g.1) : STy) :: (qC (mostIn p m i rho ((n - m + 1 : Int) : Rat) (mostOut q m rho ((n - m + 1 : Int) : Rat) i) g.1)).map .one) (fun g => p.length - g.1) ⟨0, Nat.zero_le _⟩ SubL.rfl (fun _ => rfl) ?_
    rintro ⟨k, hk⟩
    dsimp only [c_a, n_a, List.map] at hk ⊢
    refine vn q_lss rfl ?_
    dsimp only [c_a, n_a]
    refine vs _ rfl (fun h9 => ?_) (fun h9 => ?_)
    · have hkt : k < p.length := by omega
      have hc := fit_abs (hfp (p.getD k 0) (List.mem_of_getElem? (getD_of (l := p) hkt)))
      have hr := C.frho (m + k - i) (by omega)
      have hNp := C.fN (m - i) (by omega)
      have e1 : (m : Int) + (k : Int) - (i : Int) = ((m + k - i : Nat) : Int) := by omega
      have e2 : (m : Int) - (i : Int) = ((m - i : Nat) : Int) := by omega
      have hx := hfx k (by omega)
      refine vn (p_idxm el72 (by omega) (Int.toNat_natCast k) (getD_of hkt)) rfl ?_
      dsimp only [c_a, n_a]
      refine vn (p_load ag39 (by decide) (by simp) (.inl rfl)) rfl ?_
      dsimp only [c_a, n_a]
      refine vn q_lss rfl ?_
      dsimp only [c_a, n_a]
      refine vs _ rfl (fun h13 => ?_) (fun h13 => ?_)
      · refine vcall (d_QAbs _) rfl ?_
        dsimp only [c_a, n_a]
        refine vn (p_add_i64 (by omega) (by omega)) rfl ?_
        dsimp only [c_a, n_a]
        refine vn (p_sub_i64 (by omega) (by omega)) rfl ?_
        rw [e1]
        dsimp only [c_a, n_a]
        refine vcall (d_oraised rho (m + k - i) B (by omega) (by omega) (fun j hj => C.frho j (by omega))) rfl ?_
        dsimp only [c_a, n_a]
        refine vcall (d_QMul _ _ B B hc hr (by omega)) rfl ?_
        dsimp only [c_a, n_a]
        refine vn (p_sub_i64 (by omega) (by omega)) rfl ?_
        dsimp only [c_a, n_a]
        refine vn (p_add_i64 (by omega) (by omega)) rfl ?_
        dsimp only [c_a, n_a]
        refine vcall (d_Int (n - m + 1) (by omega) (by omega)) rfl ?_
        dsimp only [c_a, n_a]
        refine vn (p_sub_i64 (by omega) (by omega)) rfl ?_
        rw [e2]
        dsimp only [c_a, n_a]
        refine vcall (d_oraised _ (m - i) B (by omega) (by omega) (fun j hj => C.fN j (by omega))) rfl ?_
        dsimp only [c_a, n_a]
        refine vcall (d_oover _ _ (B + B) B (pow_ne0 hN0 _) (hc.mul hr) hNp (by omega)) rfl ?_
        dsimp only [c_a, n_a]
        refine vcall (d_QAdd _ _ B (B + B + B) hx ((hc.mul hr).div hNp) (by omega)) rfl ?_
        dsimp only [c_a, n_a]
        refine vn (p_add_i64 (by omega) (by omega)) rfl ?_
        dsimp only [c_a, n_a]
        exact vback rfl ⟨⟨k + 1, by omega⟩, (by
          dsimp only
          rw [mostIn, if_pos (.inl (by omega))]
          exact SubL.rfl), by show p.length - (k + 1) < p.length - k; omega⟩
      refine vn q_gtr rfl ?_
      dsimp only [c_a, n_a]
      refine vs _ rfl (fun h29 => ?_) (fun h29 => ?_)
      · refine vcall (d_QAbs _) rfl ?_
        dsimp only [c_a, n_a]
        refine vn (p_add_i64 (by omega) (by omega)) rfl ?_
        dsimp only [c_a, n_a]
        refine vn (p_sub_i64 (by omega) (by omega)) rfl ?_
        rw [e1]
        dsimp only [c_a, n_a]
        refine vcall (d_oraised rho (m + k - i) B (by omega) (by omega) (fun j hj => C.frho j (by omega))) rfl ?_
        dsimp only [c_a, n_a]
        refine vcall (d_QMul _ _ B B hc hr (by omega)) rfl ?_
        dsimp only [c_a, n_a]
        refine vn (p_sub_i64 (by omega) (by omega)) rfl ?_
        dsimp only [c_a, n_a]
        refine vn (p_add_i64 (by omega) (by omega)) rfl ?_
        dsimp only [c_a, n_a]
        refine vcall (d_Int (n - m + 1) (by omega) (by omega)) rfl ?_
        dsimp only [c_a, n_a]
        refine vn (p_sub_i64 (by omega) (by omega)) rfl ?_
        rw [e2]
        dsimp only [c_a, n_a]
        refine vcall (d_oraised _ (m - i) B (by omega) (by omega) (fun j hj => C.fN j (by omega))) rfl ?_
        dsimp only [c_a, n_a]
        refine vcall (d_oover _ _ (B + B) B (pow_ne0 hN0 _) (hc.mul hr) hNp (by omega)) rfl ?_
        dsimp only [c_a, n_a]
        refine vcall (d_QAdd _ _ B (B + B + B) hx ((hc.mul hr).div hNp) (by omega)) rfl ?_
        dsimp only [c_a, n_a]
        refine vn (p_add_i64 (by omega) (by omega)) rfl ?_
        dsimp only [c_a, n_a]
        exact vback rfl ⟨⟨k + 1, by omega⟩, (by
          dsimp only
          rw [mostIn, if_pos (.inr (by omega))]
          exact SubL.rfl), by show p.length - (k + 1) < p.length - k; omega⟩
      refine vn (p_add_i64 (by omega) (by omega)) rfl ?_
      dsimp only [c_a, n_a]
      exact vback rfl ⟨⟨k + 1, by omega⟩, (by
        dsimp only
        rw [mostIn, if_neg (by omega)]
        exact SubL.rfl), by show p.length - (k + 1) < p.length - k; omega⟩
    refine vn (p_add_i64 (by omega) (by omega)) rfl ?_
    dsimp only [c_a, n_a]
    exact vback rfl ⟨⟨i + 1, by omega⟩, (by
      dsimp only
      rw [mostOut, hgd, show p.length = k by omega]
      exact SubL.rfl), by show q.length - (i + 1) < q.length - i; omega⟩
  rw [show q.length = i by omega]; exact vret rfl

theorem slice_l {E sz b T : Nat} {α : Type} {f : α → List CTy} {ds : List α} {x : Operand} {ty : Nat} {y : Operand} {k : IntKind} {n : Int} {m : Nat} (h : elemT prog T = some (E, sz, b)) (h0 : 0 ≤ n) (hm : n.toNat = m) (hn : m ≤ ds.length) : PrimOk prog (.slice T x (some y) none none) ty [.one (.slice sz (ds.map f)), .one (.int k n)] (.one (.slice sz ((ds.drop m).map f))) := by
  have := p_slice_l (P := prog) (T := T) (x := x) (y := y) (ty := ty) (k := k) (n := n) (ts := ds.map f) h h0 (by rw [List.length_map, hm]; exact hn)
  rw [hm, ← List.map_drop] at this
  exact this

theorem d_oneed_ok (e : Int) : Does prog 130 [.one (.bool true), .one (.int .i64 e)] (.ret []) := by
  refine does_of_vc (args := [.v none, .v none]) (ins := [.v (.one (.bool true)), .v (.one (.int .i64 e))]) (hints := (fun _ => none)) fo (by kernel_rfl) func130 ⟨rfl, rfl, trivial⟩ ?_
  rw [x_oneed]
  dsimp only [List.map, In.env, c_a, n_a]
  refine vn p_not rfl ?_
  dsimp only [c_a, n_a]
  refine vsb false rfl (fun h => by cases h) (fun _ => ?_)
  exact vret rfl

/-- is the sum at this radius small? -/
abbrev okRho (q : List (List Rat)) (m : Nat) (lead : Rat) (h : Nat) : Prop := sumT ((q.getD m []).drop 1) (rhoAt h) ((q.getD m []).length - 1) + sumT ((q.getD m []).drop 1) (rhoAt h) ((q.getD m []).length - 1) ≤ lead.abs
abbrev okStart (q : List (List Rat)) (m : Nat) (lead : Rat) (rho : Rat) (s : Nat) : Prop := mostOut q m rho (((s : Int) - m + 1 : Int) : Rat) q.length ≤ lead.abs
/-- few bits on the way, where there is a reach -/
structure MildR (B : Nat) (q : List (List Rat)) (m : Nat) (lead : Rat) (L h0 s i0 : Nat) : Prop where
  flead : Fit B lead
  fq : ∀ p ∈ q, p.length ≤ L ∧ ∀ x ∈ p, Fit B x
  frho : ∀ h, h ≤ h0 → ∀ j, j ≤ 2 * L + 1 → Fit B (rhoAt h ^ j)
  fs : ∀ h, h ≤ h0 → ∀ k, k ≤ L → Fit B (sumT ((q.getD m []).drop 1) (rhoAt h) k)
  fm : ∀ i, i ≤ i0 → Mild B q m (rhoAt h0) (((s * 2 ^ i : Nat) : Int) - m + 1) L
  fo : ∀ i, i ≤ i0 → Fit B (mostOut q m (rhoAt h0) ((((s * 2 ^ i : Nat) : Int) - m + 1 : Int) : Rat) q.length)

theorem fit_mk2 (h : Nat) : Fit (h + 1) (mkRat 1 (2 ^ h)) := by
  refine Fit.mkRat ?_ ?_ (Nat.ne_of_gt (Nat.pow_pos (by omega)))
  · have : 2 ^ 0 ≤ 2 ^ h := Nat.pow_le_pow_right (by omega) (Nat.zero_le _)
    rw [Nat.pow_succ]
    show (1 : Nat) < _
    omega
  · exact Nat.pow_lt_pow_right (by omega) (by omega)

set_option maxHeartbeats 2000000 in
theorem d_oreach (q : List (List Rat)) (m : Nat) (lead : Rat) (B L h0 i0 : Nat) (C : MildR B q m lead L h0 (m + degMax q + m) i0) (hql : q.length = m + 1) (hm : m ≤ 64) (hL : L ≤ 1048576) (hB : B ≤ 8589934592) (h64 : 64 ≤ B) (hh : h0 ≤ 62) (hp1 : 1 ≤ (q.getD m []).length) (hlow : ∀ h, h < h0 → ¬ okRho q m lead h) (hs : okRho q m lead h0) (hst : ∀ i, i < i0 → ¬ okStart q m lead (rhoAt h0) ((m + degMax q + m) * 2 ^ i)) (hsi : okStart q m lead (rhoAt h0) ((m + degMax q + m) * 2 ^ i0)) (hlim : (m + degMax q + m) * 2 ^ i0 ≤ 4096) : Does prog 123 [(spT q m lead : STy)] (.ret [.agg (([eQ q, .int .i64 m] ++ qC lead) ++ qC (rhoAt h0) ++ [.int .i64 (((m + degMax q + m) * 2 ^ i0 : Nat) : Int)])]) := by
  refine does_of_vc (args := [.v (some 5)]) (ins := [.v (spT q m lead)]) (hints := (fun _ => none)) fo (by kernel_rfl) func123 ⟨rfl, trivial⟩ ?_
  rw [x_oreach]
  dsimp only [List.map, In.env, c_a, n_a]
  obtain ⟨p, hpm⟩ : ∃ p, q[m]? = some p := ⟨_, List.getElem?_eq_getElem (by omega)⟩
  have hgd : q.getD m [] = p := by rw [List.getD_eq_getElem?_getD, hpm]; rfl
  obtain ⟨hpl, hfp⟩ := C.fq p (List.mem_of_getElem? hpm)
  have hfs := C.fs
  have hfl := fit_abs C.flead
  rw [hgd] at hfs hp1
  have hokr : ∀ h, okRho q m lead h ↔ sumT (p.drop 1) (rhoAt h) (p.length - 1) + sumT (p.drop 1) (rhoAt h) (p.length - 1) ≤ lead.abs := fun h => by rw [okRho, hgd]
  have hlow : ∀ h, h < h0 → ¬ sumT (p.drop 1) (rhoAt h) (p.length - 1) + sumT (p.drop 1) (rhoAt h) (p.length - 1) ≤ lead.abs := fun h hh => by rw [← hokr]; exact hlow h hh
  have hs := (hokr h0).1 hs
  refine vcall (d_QAbs lead) rfl ?_
  dsimp only [c_a, n_a]
  refine vloop {h : Nat // h ≤ h0} (fun g => ([.one (.int .i64 (2 - (g.1 : Int))), .one (eQ q), .one (.int .i64 m)] : List STy) ++ (qC lead).map STy.one ++ (qC (if g.1 = 0 then 0 else rhoAt (g.1 - 1))).map STy.one ++ [STy.one (.int .i64 0)]) (fun g => h0 - g.1) ⟨0, Nat.zero_le _⟩
    ⟨STy.Sub.same, STy.Sub.same, STy.Sub.same, STy.Sub.same, STy.Sub.same, STy.Sub.same, zeroQ.1, zeroQ.2.1, zeroQ.2.2.1, STy.Sub.same, trivial⟩ (fun _ => rfl) ?_
  rintro ⟨h, hh0⟩
  dsimp only [c_a, n_a, List.map] at hh0 ⊢
  refine vn q_geq rfl ?_
  dsimp only [c_a, n_a]
  rw [show decide ((-60 : Int) ≤ 2 - (h : Int)) = true by rw [decide_eq_true_iff]; omega]
  refine vcall (d_oneed_ok 5) rfl ?_
  refine vcall (d_Int 4 (by omega) (by omega)) rfl ?_
  dsimp only [c_a, n_a]
  refine vn (p_sub_i64 (by omega) (by omega)) rfl ?_
  rw [show (2 : Int) - (2 - (h : Int)) = (h : Int) by omega]
  dsimp only [c_a, n_a]
  refine vcall (d_Fine h (by omega)) rfl ?_
  dsimp only [c_a, n_a]
  refine vcall (d_QMul ((4 : Int) : Rat) (mkRat 1 (2 ^ h)) 64 64 (Fit.int (by omega) (by omega)) ((fit_mk2 h).mono (by omega)) (by omega)) rfl ?_
  rw [show ((4 : Int) : Rat) * mkRat 1 (2 ^ h) = rhoAt h from rfl]
  dsimp only [c_a, n_a]
  refine vn (p_idxm el31 (by omega) (Int.toNat_natCast m) hpm) rfl ?_
  dsimp only [c_a, n_a]
  refine vn (p_load1 ag72) rfl ?_
  dsimp only [c_a, n_a]
  refine vn (slice_l el72 (by omega) (show (1 : Int).toNat = 1 from rfl) hp1) rfl ?_
  dsimp only [c_a, n_a]
  refine vn (p_len el72 (show (rQ (p.drop 1)).length = p.length - 1 by rw [List.length_map, List.length_drop])) rfl ?_
  dsimp only [c_a, n_a]
  refine vloop {k : Nat // k ≤ p.length - 1} (fun g => (.one (.int .i64 g.1) : STy) :: (qC (sumT (p.drop 1) (rhoAt h) g.1)).map .one) (fun g => p.length - 1 - g.1) ⟨0, Nat.zero_le _⟩ ⟨STy.Sub.same, subZero3⟩ (fun _ => rfl) ?_
  rintro ⟨k, hk⟩
  dsimp only [c_a, n_a, List.map] at hk ⊢
  refine vn q_lss rfl ?_
  dsimp only [c_a, n_a]
  refine vs _ rfl (fun h14 => ?_) (fun h14 => ?_)
  · have hkt : k < (p.drop 1).length := by rw [List.length_drop]; omega
    have hc := fit_abs (hfp ((p.drop 1).getD k 0) (List.mem_of_mem_drop (List.mem_of_getElem? (getD_of (l := p.drop 1) hkt))))
    refine vn (p_idxm el72 (by omega) (Int.toNat_natCast k) (getD_of hkt)) rfl ?_
    dsimp only [c_a, n_a]
    refine vn (p_load ag39 (by decide) (by simp) (.inl rfl)) rfl ?_
    dsimp only [c_a, n_a]
    refine vcall (d_QAbs _) rfl ?_
    dsimp only [c_a, n_a]
    refine vn (p_add_i64 (by omega) (by omega)) rfl ?_
    dsimp only [c_a, n_a]
    refine vcall (d_oraised (rhoAt h) (k + 1) B (by omega) (by omega) (fun j hj => C.frho h hh0 j (by omega))) rfl ?_
    dsimp only [c_a, n_a]
    refine vcall (d_QMul _ _ B B hc (C.frho h hh0 (k + 1) (by omega)) (by omega)) rfl ?_
    dsimp only [c_a, n_a]
    refine vcall (d_QAdd _ _ B (B + B) (hfs h hh0 k (by omega)) (hc.mul (C.frho h hh0 (k + 1) (by omega))) (by omega)) rfl ?_
    dsimp only [c_a, n_a]
    refine vn (p_add_i64 (by omega) (by omega)) rfl ?_
    dsimp only [c_a, n_a]
    exact vback rfl ⟨⟨k + 1, by omega⟩, SubL.rfl, by show p.length - 1 - (k + 1) < p.length - 1 - k; omega⟩
  have hkl : p.length - 1 = k := by omega
  rw [hkl] at hlow hs
  refine vcall (d_QAdd _ _ B B (hfs h hh0 k (by omega)) (hfs h hh0 k (by omega)) (by omega)) rfl ?_
  dsimp only [c_a, n_a]
  refine vcall (d_QCmp _ _ (B + B + 1) B ((hfs h hh0 k (by omega)).add (hfs h hh0 k (by omega))) hfl (by omega)) rfl ?_
  dsimp only [c_a, n_a]
  refine vn q_leq rfl ?_
  dsimp only [c_a, n_a]
  refine vs _ rfl (fun h27 => ?_) (fun h27 => ?_)
  · have hle := cmp_le.1 h27
    have hheq : h = h0 := by
      rcases Nat.lt_or_ge h h0 with hl | hl
      · exact (hlow h hl hle).elim
      · omega
    subst hheq
    have hqs : ∀ p ∈ q, p.length < 1099511627776 := fun p hp => by have := (C.fq p hp).1; omega
    have hdm := degMax_le (N := 1048576) q (fun p hp => Nat.le_trans (C.fq p hp).1 hL)
    refine vcall (d_owidth q m lead hqs (by omega) (by omega)) rfl ?_
    dsimp only [c_a, n_a]
    refine vn (p_add_i64 (by omega) (by omega)) rfl ?_
    rw [show ((m + degMax q : Nat) : Int) + (m : Int) = ((m + degMax q + m : Nat) : Int) by omega]
    dsimp only [c_a, n_a]
    generalize hse : m + degMax q + m = s at *
    refine vloop {i : Nat // i ≤ i0} (fun g => ([.one (.exact (.slice none 0 0)), .one (.int .i64 0), .one (.exact (.slice none 0 0)), .one (.bool false), .one (.exact (.slice none 0 0)), .one (.exact (.slice none 0 0)), .one (.bool false), .one (.exact (.slice none 0 0)), .one (.int .i64 0), .one (eQ q), .one (.int .i64 m)] : List STy) ++ (qC lead).map STy.one ++ (qC (rhoAt h)).map STy.one ++ [STy.one (.int .i64 ((s * 2 ^ g.1 : Nat) : Int))]) (fun g => i0 - g.1) ⟨0, Nat.zero_le _⟩ (show SubL _ _ by rw [Nat.pow_zero, Nat.mul_one]; exact SubL.rfl) (fun _ => rfl) ?_
    rintro ⟨i, hi⟩
    dsimp only [c_a, n_a, List.map] at hi ⊢
    have hpw : s * 2 ^ i ≤ s * 2 ^ i0 := Nat.mul_le_mul_left _ (Nat.pow_le_pow_right (by omega) hi)
    have hsm : m ≤ s * 2 ^ i := by
      have h1 : 1 ≤ 2 ^ i := Nat.pow_pos (by omega)
      have h2 : s * 1 ≤ s * 2 ^ i := Nat.mul_le_mul_left _ h1
      omega
    obtain ⟨z, hz⟩ : ∃ z, s * 2 ^ i = z := ⟨_, rfl⟩
    rw [hz] at hpw hsm ⊢
    have hfm := C.fm i hi
    have hfo := C.fo i hi
    rw [hz] at hfm hfo
    refine vn q_leq rfl ?_
    dsimp only [c_a, n_a]
    rw [show decide ((z : Int) ≤ 4096) = true by rw [decide_eq_true_iff]; omega]
    refine vcall (d_oneed_ok 5) rfl ?_
    refine vcall (d_omost q m lead (rhoAt h) (z : Int) B L hfm hql hm hL (by omega) (by omega) hB h64) rfl ?_
    dsimp only [c_a, n_a]
    refine vcall (d_QCmp _ _ B B hfo hfl (by omega)) rfl ?_
    dsimp only [c_a, n_a]
    refine vn q_leq rfl ?_
    dsimp only [c_a, n_a]
    refine vs _ rfl (fun h36 => ?_) (fun h36 => ?_)
    · have hle2 := cmp_le.1 h36
      have hieq : i = i0 := by
        rcases Nat.lt_or_ge i i0 with hl | hl
        · exact (hst i hl (by rw [okStart, hz]; exact hle2)).elim
        · omega
      subst hieq
      rw [hz]
      exact vret rfl
    have hilt : i < i0 := by
      rcases Nat.lt_or_ge i i0 with hl | hl
      · exact hl
      · exfalso
        obtain rfl : i = i0 := by omega
        rw [okStart, hz] at hsi
        exact h36 (cmp_le.2 hsi)
    refine vn (p_mul_i64 (by omega) (by omega)) rfl ?_
    dsimp only [c_a, n_a]
    exact vback rfl ⟨⟨i + 1, by omega⟩, SubL.of_eq (show [STy.one (.exact (.slice none 0 0)), .one (.int .i64 0), .one (.exact (.slice none 0 0)), .one (.bool false), .one (.exact (.slice none 0 0)), .one (.exact (.slice none 0 0)), .one (.bool false), .one (.exact (.slice none 0 0)), .one (.int .i64 0), .one (eQ q), .one (.int .i64 m)] ++ (qC lead).map STy.one ++ (qC (rhoAt h)).map STy.one ++ [STy.one (.int .i64 ((z : Int) * 2))] = _ by
      dsimp only
      rw [Nat.pow_succ, ← Nat.mul_assoc, hz]; rfl), by show i0 - (i + 1) < i0 - i; omega⟩
  have hhlt : h < h0 := by
    rcases Nat.lt_or_ge h h0 with hl | hl
    · exact hl
    · exfalso
      obtain rfl : h = h0 := by omega
      exact h27 (cmp_le.2 hs)
  refine vn (p_sub_i64 (by omega) (by omega)) rfl ?_
  dsimp only [c_a, n_a]
  exact vback rfl ⟨⟨h + 1, by omega⟩, SubL.of_eq (show [STy.one (.int .i64 (2 - (h : Int) - 1)), .one (eQ q), .one (.int .i64 m)] ++ (qC lead).map STy.one ++ (qC (rhoAt h)).map STy.one ++ [STy.one (.int .i64 0)] = _ by
    dsimp only
    rw [if_neg (by omega), Nat.add_sub_cancel, show (2 : Int) - (h : Int) - 1 = 2 - ((h + 1 : Nat) : Int) by omega]
    rfl), by show h0 - (h + 1) < h0 - h; omega⟩
end Go.Sy
