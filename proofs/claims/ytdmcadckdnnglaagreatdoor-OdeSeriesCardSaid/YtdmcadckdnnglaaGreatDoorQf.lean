/- The reach: sums of absolute values, halved radii, doubled starts. The reach.
-/
import Derived.Test.YtdmcadckdnnglaaGreatDoorQc
import Derived.Test.YtdmcadckdnnglaaGreatDoorQe
set_option linter.unusedVariables false
set_option linter.unusedSimpArgs false
namespace Ord
def Be (r : List Rat) (rho : Rat) : Nat → Rat
 | 0 => 0
 | k + 1 => Be r rho k + (r.getD k 0).abs * rho ^ (k + 1)
def eP (h : Nat) : Rat := ((4 : Int) : Rat) * mkRat 1 (2 ^ h)
def nL (p : List Rat) (m i : Nat) (rho N x : Rat) : Nat → Rat
 | 0 => x
 | k + 1 => if i < m ∨ 0 < k then nL p m i rho N x k + (p.getD k 0).abs * rho ^ (m + k - i) / N ^ (m - i) else nL p m i rho N x k
def iR (q : List (List Rat)) (m : Nat) (rho N : Rat) : Nat → Rat
 | 0 => 0
 | i + 1 => nL (q.getD i []) m i rho N (iR q m rho N i) (q.getD i []).length
structure Vq (B : Nat) (q : List (List Rat)) (m : Nat) (rho : Rat) (N : Int) (L : Nat) : Prop where
 fq : ∀ p ∈ q, p.length ≤ L ∧ ∀ x ∈ p, Fit B x
 frho : ∀ j, j ≤ 2 * (m + L) + 1 → Fit B (rho ^ j)
 fN : ∀ j, j ≤ 2 * m + 1 → Fit B ((N : Rat) ^ j)
 fx : ∀ i k, i < q.length → k ≤ (q.getD i []).length → Fit B (nL (q.getD i []) m i rho N (iR q m rho N i) k)
end Ord
namespace Go.Sy
open Go Go.Proofs Tryz Ord
def Ml : Tr := .need (.call 68 [(W 26 0)] [(some 3)]) (.call ⟨.value (.func 68), #[(.tmp 51)], #[2]⟩) 39 false (.need (.prim [(W 0 1), (W 4 0)] none) (.binOp .sub 3 (.tmp 53) (.tmp 54) 3) 3 false (.need (.call 203 [(.agg [(U 27 0), (U 27 1), (U 27 2)]), (W 28 0)] [(some 3)]) (.call ⟨.value (.func 203), #[(.tmp 52), (.tmp 55)], #[39, 3]⟩) 39 false (.need (.call 207 [(.agg [(U 24 0), (U 24 1), (U 24 2)]), (.agg [(U 29 0), (U 29 1), (U 29 2)])] [(some 3)]) (.call ⟨.value (.func 207), #[(.tmp 47), (.tmp 56)], #[39, 39]⟩) 39 true (.need (.call 64 [(.agg [(U 13 0), (U 14 0), (U 15 0)]), (.agg [(U 30 0), (U 30 1), (U 30 2)])] [(some 3)]) (.call ⟨.value (.func 64), #[(.tmp 37), (.tmp 57)], #[39, 39]⟩) 39 true (.need (.prim [(W 12 0), (WK (1))] none) (.binOp .add 3 (.tmp 25) (.const (I3 (1))) 3) 3 false (.back 1 [(.w (W 32 0)), (.w (W 31 0)), (.w (W 31 1)), (.w (W 31 2))]))))))
def NF : Tr := .need (.call 146 [(.agg [(U 18 0), (U 18 1), (U 18 2)])] [(some 3)]) (.call ⟨.value (.func 146), #[(.tmp 38)], #[39]⟩) 39 false (.need (.prim [(W 0 1), (W 12 0)] none) (.binOp .add 3 (.tmp 41) (.tmp 42) 3) 3 false (.need (.prim [(W 21 0), (W 4 0)] none) (.binOp .sub 3 (.tmp 43) (.tmp 44) 3) 3 false (.need (.call 203 [(.agg [(U 1 0), (U 1 1), (U 1 2)]), (W 22 0)] [(some 3)]) (.call ⟨.value (.func 203), #[(.tmp 40), (.tmp 45)], #[39, 3]⟩) 39 false (.need (.call 36 [(.agg [(U 20 0), (U 20 1), (U 20 2)]), (.agg [(U 23 0), (U 23 1), (U 23 2)])] [(some 3)]) (.call ⟨.value (.func 36), #[(.tmp 39), (.tmp 46)], #[39, 39]⟩) 39 false (.need (.prim [(W 2 0), (W 0 1)] none) (.binOp .sub 3 (.tmp 48) (.tmp 49) 3) 3 false (.need (.prim [(W 25 0), (WK (1))] none) (.binOp .add 3 (.tmp 50) (.const (I3 (1))) 3) 3 false Ml))))))
def Fq : Tr := .back 1 [(.w (W 33 0)), (.w (W 32 0)), (.w (W 32 1)), (.w (W 32 2))]
def ME : Tr := .need (.prim [(W 26 0), (WK (1))] none) (.binOp .add 3 (.tmp 50) (.const (I3 (1))) 3) 3 false (.need (.call 68 [(W 27 0)] [(some 3)]) (.call ⟨.value (.func 68), #[(.tmp 51)], #[2]⟩) 39 false (.need (.prim [(W 0 1), (W 4 0)] none) (.binOp .sub 3 (.tmp 53) (.tmp 54) 3) 3 false (.need (.call 203 [(.agg [(U 28 0), (U 28 1), (U 28 2)]), (W 29 0)] [(some 3)]) (.call ⟨.value (.func 203), #[(.tmp 52), (.tmp 55)], #[39, 3]⟩) 39 false (.need (.call 207 [(.agg [(U 25 0), (U 25 1), (U 25 2)]), (.agg [(U 30 0), (U 30 1), (U 30 2)])] [(some 3)]) (.call ⟨.value (.func 207), #[(.tmp 47), (.tmp 56)], #[39, 39]⟩) 39 true (.need (.call 64 [(.agg [(U 13 0), (U 14 0), (U 15 0)]), (.agg [(U 31 0), (U 31 1), (U 31 2)])] [(some 3)]) (.call ⟨.value (.func 64), #[(.tmp 37), (.tmp 57)], #[39, 39]⟩) 39 true (.need (.prim [(W 12 0), (WK (1))] none) (.binOp .add 3 (.tmp 25) (.const (I3 (1))) 3) 3 false Fq))))))
def OP : Tr := .split (.u 20 0) (.need (.call 146 [(.agg [(U 18 0), (U 18 1), (U 18 2)])] [(some 3)]) (.call ⟨.value (.func 146), #[(.tmp 38)], #[39]⟩) 39 false (.need (.prim [(W 0 1), (W 12 0)] none) (.binOp .add 3 (.tmp 41) (.tmp 42) 3) 3 false (.need (.prim [(W 22 0), (W 4 0)] none) (.binOp .sub 3 (.tmp 43) (.tmp 44) 3) 3 false (.need (.call 203 [(.agg [(U 1 0), (U 1 1), (U 1 2)]), (W 23 0)] [(some 3)]) (.call ⟨.value (.func 203), #[(.tmp 40), (.tmp 45)], #[39, 3]⟩) 39 false (.need (.call 36 [(.agg [(U 21 0), (U 21 1), (U 21 2)]), (.agg [(U 24 0), (U 24 1), (U 24 2)])] [(some 3)]) (.call ⟨.value (.func 36), #[(.tmp 39), (.tmp 46)], #[39, 39]⟩) 39 false (.need (.prim [(W 2 0), (W 0 1)] none) (.binOp .sub 3 (.tmp 48) (.tmp 49) 3) 3 false ME)))))) (.need (.prim [(W 12 0), (WK (1))] none) (.binOp .add 3 (.tmp 25) (.const (I3 (1))) 3) 3 false (.back 1 [(.w (W 21 0)), (.w (W 13 0)), (.w (W 14 0)), (.w (W 15 0))]))
def Rs : Tr := .need (.prim [(W 12 0), (W 11 0)] none) (.binOp .lss 3 (.tmp 25) (.tmp 24) 3) 0 false (.split (.u 16 0) (.need (.prim [(W 10 0), (W 12 0)] none) (.indexAddr 72 (.tmp 23) (.tmp 25)) 0 false (.need (.prim [(W 17 0)] (some 3)) (.load 39 (.tmp 28)) 39 false (.need (.prim [(W 4 0), (W 0 1)] none) (.binOp .lss 3 (.tmp 30) (.tmp 31) 3) 4 false (.split (.u 19 0) NF (.need (.prim [(W 12 0), (WK (0))] none) (.binOp .gtr 3 (.tmp 34) (.const (I3 (0))) 3) 4 false OP))))) (.need (.prim [(W 4 0), (WK (1))] none) (.binOp .add 3 (.tmp 18) (.const (I3 (1))) 3) 3 false (.back 0 [(.w (W 17 0)), (.w (W 13 0)), (.w (W 14 0)), (.w (W 15 0))])))
def Qi : Tr := .loop 0 [(.w (WK (0))), (.w (.one (.c (.k (.slice none 0 0))))), (.w (.one (.c (.k (.bool false))))), (.w (.one (.c (.k (.slice none 0 0)))))] (.need (.prim [(W 4 0), (W 3 0)] none) (.binOp .lss 3 (.tmp 18) (.tmp 17) 3) 0 false (.split (.u 8 0) (.need (.prim [(W 0 0), (W 4 0)] none) (.indexAddr 31 (.tmp 16) (.tmp 18)) 0 false (.need (.prim [(W 9 0)] none) (.load 72 (.tmp 21)) 72 false (.need (.prim [(W 10 0)] none) (.call ⟨.builtin .len, #[(.tmp 23)], #[72]⟩) 3 false (.loop 1 [(.w (WK (0))), (.w (W 5 0)), (.w (W 6 0)), (.w (W 7 0))] Rs)))) (.ret [(.agg [(U 5 0), (U 6 0), (U 7 0)])])))
def SU : Tr := .need (.prim [(W 0 0)] none) (.call ⟨.builtin .len, #[(.tmp 16)], #[31]⟩) 3 false Qi
theorem Mc : aM prog f205 (fun _ => none) [.v (some 5), .v (some 3), .v none] = SU := by kernel_rfl
def MX : Tr := .need (.prim [(W 26 0)] (some 3)) (.load 39 (.tmp 36)) 39 false (.need (.call 146 [(.agg [(U 27 0), (U 27 1), (U 27 2)])] [(some 3)]) (.call ⟨.value (.func 146), #[(.tmp 39)], #[39]⟩) 39 false (.need (.prim [(W 21 0), (WK (1))] none) (.binOp .add 3 (.tmp 43) (.const (I3 (1))) 3) 3 false (.need (.call 203 [(.agg [(U 16 0), (U 16 1), (U 16 2)]), (W 29 0)] [(some 3)]) (.call ⟨.value (.func 203), #[(.tmp 42), (.tmp 44)], #[39, 3]⟩) 39 false (.need (.call 36 [(.agg [(U 28 0), (U 28 1), (U 28 2)]), (.agg [(U 30 0), (U 30 1), (U 30 2)])] [(some 3)]) (.call ⟨.value (.func 36), #[(.tmp 40), (.tmp 45)], #[39, 39]⟩) 39 true (.need (.call 64 [(.agg [(U 22 0), (U 23 0), (U 24 0)]), (.agg [(U 31 0), (U 31 1), (U 31 2)])] [(some 3)]) (.call ⟨.value (.func 64), #[(.tmp 38), (.tmp 46)], #[39, 39]⟩) 39 true (.need (.prim [(W 21 0), (WK (1))] none) (.binOp .add 3 (.tmp 33) (.const (I3 (1))) 3) 3 false Fq))))))
def MR : Tr := .need (.call 130 [(W 49 0), (WK (5))] []) (.call ⟨.value (.func 130), #[(.tmp 67), (.const (I3 (5)))], #[4, 55]⟩) 0 true (.need (.call 205 [(.agg [(U 0 0), (U 0 1), (U 0 2), (U 0 3), (U 0 4)]), (.agg [(U 45 0), (U 46 0), (U 47 0)]), (W 48 0)] [(some 3)]) (.call ⟨.value (.func 205), #[(.tmp 69), (.tmp 71), (.tmp 73)], #[171, 39, 3]⟩) 39 false (.need (.call 38 [(.agg [(U 50 0), (U 50 1), (U 50 2)]), (.agg [(U 1 0), (U 1 1), (U 1 2)])] [none]) (.call ⟨.value (.func 38), #[(.tmp 74), (.tmp 75)], #[39, 39]⟩) 3 true (.need (.prim [(W 51 0), (WK (0))] none) (.binOp .leq 3 (.tmp 76) (.const (I3 (0))) 3) 4 false (.split (.u 52 0) (.ret [(.agg [(U 40 0), (U 41 0), (U 42 0), (U 43 0), (U 44 0), (U 45 0), (U 46 0), (U 47 0), (U 48 0)])]) (.need (.prim [(W 48 0), (WK (2))] none) (.binOp .mul 3 (.tmp 62) (.const (I3 (2))) 3) 3 false (.back 0 [(.w (W 31 0)), (.w (W 32 0)), (.w (W 33 0)), (.w (W 34 0)), (.w (W 35 0)), (.w (W 36 0)), (.w (W 37 0)), (.w (W 38 0)), (.w (W 39 0)), (.w (W 40 0)), (.w (W 41 0)), (.w (W 42 0)), (.w (W 43 0)), (.w (W 44 0)), (.w (W 45 0)), (.w (W 46 0)), (.w (W 47 0)), (.w (W 53 0))]))))))
def Nf : Tr := .need (.call 38 [(.agg [(U 26 0), (U 26 1), (U 26 2)]), (.agg [(U 1 0), (U 1 1), (U 1 2)])] [none]) (.call ⟨.value (.func 38), #[(.tmp 51), (.tmp 52)], #[39, 39]⟩) 3 true (.need (.prim [(W 27 0), (WK (0))] none) (.binOp .leq 3 (.tmp 53) (.const (I3 (0))) 3) 4 false (.split (.u 28 0) (.need (.call 204 [(.agg [(U 0 0), (U 0 1), (U 0 2), (U 0 3), (U 0 4)])] [none]) (.call ⟨.value (.func 204), #[(.tmp 55)], #[171]⟩) 3 false (.need (.prim [(W 29 0), (W 0 1)] none) (.binOp .add 3 (.tmp 56) (.tmp 58) 3) 3 false (.loop 0 [(.w (.one (.c (.k (.slice none 0 0))))), (.w (WK (0))), (.w (.one (.c (.k (.slice none 0 0))))), (.w (.one (.c (.k (.bool false))))), (.w (.one (.c (.k (.slice none 0 0))))), (.w (.one (.c (.k (.slice none 0 0))))), (.w (.one (.c (.k (.bool false))))), (.w (.one (.c (.k (.slice none 0 0))))), (.w (WK (0))), (.w (W 3 0)), (.w (W 4 0)), (.w (W 5 0)), (.w (W 6 0)), (.w (W 7 0)), (.w (W 16 0)), (.w (W 16 1)), (.w (W 16 2)), (.w (W 30 0))] (.need (.prim [(W 48 0), (WK (4096))] none) (.binOp .leq 3 (.tmp 66) (.const (I3 (4096))) 3) 4 false MR)))) (.need (.prim [(W 2 0), (WK (1))] none) (.binOp .sub 3 (.tmp 14) (.const (I3 (1))) 3) 3 false (.back 0 [(.w (W 29 0)), (.w (W 3 0)), (.w (W 4 0)), (.w (W 5 0)), (.w (W 6 0)), (.w (W 7 0)), (.w (W 16 0)), (.w (W 16 1)), (.w (W 16 2)), (.w (W 11 0))]))))
def TN : Tr := .need (.prim [(W 17 0)] none) (.load 72 (.tmp 29)) 72 false (.need (.prim [(W 18 0), (WK (1))] none) (.slice 72 (.tmp 30) (some (.const (I3 (1)))) none none) 72 false (.need (.prim [(W 19 0)] none) (.call ⟨.builtin .len, #[(.tmp 31)], #[72]⟩) 3 false (.loop 1 [(.w (WK (0))), (.w (.one (.c (.k (.slice none 0 0))))), (.w (.one (.c (.k (.bool false))))), (.w (.one (.c (.k (.slice none 0 0)))))] (.need (.prim [(W 21 0), (W 20 0)] none) (.binOp .lss 3 (.tmp 33) (.tmp 32) 3) 0 false (.split (.u 25 0) (.need (.prim [(W 19 0), (W 21 0)] none) (.indexAddr 72 (.tmp 31) (.tmp 33)) 0 false MX) (.need (.call 64 [(.agg [(U 22 0), (U 23 0), (U 24 0)]), (.agg [(U 22 0), (U 23 0), (U 24 0)])] [(some 3)]) (.call ⟨.value (.func 64), #[(.tmp 49), (.tmp 50)], #[39, 39]⟩) 39 false Nf))))))
def TD : Tr := .need (.prim [(W 2 0), (WK (-60))] none) (.binOp .geq 3 (.tmp 16) (.const (I3 (-60))) 3) 4 false (.need (.call 130 [(W 12 0), (WK (5))] []) (.call ⟨.value (.func 130), #[(.tmp 17), (.const (I3 (5)))], #[4, 55]⟩) 0 true (.need (.call 68 [(WK (4))] [(some 3)]) (.call ⟨.value (.func 68), #[(.const (I3 (4)))], #[2]⟩) 39 false (.need (.prim [(WK (2)), (W 2 0)] none) (.binOp .sub 3 (.const (I3 (2))) (.tmp 20) 3) 3 false (.need (.call 202 [(W 14 0)] [(some 3)]) (.call ⟨.value (.func 202), #[(.tmp 21)], #[3]⟩) 39 true (.need (.call 36 [(.agg [(U 13 0), (U 13 1), (U 13 2)]), (.agg [(U 15 0), (U 15 1), (U 15 2)])] [(some 3)]) (.call ⟨.value (.func 36), #[(.tmp 19), (.tmp 22)], #[39, 39]⟩) 39 true (.need (.prim [(W 0 0), (W 0 1)] none) (.indexAddr 31 (.tmp 26) (.tmp 28)) 0 false TN))))))
def PQ : Tr := .need (.call 146 [(.agg [(U 0 2), (U 0 3), (U 0 4)])] [(some 3)]) (.call ⟨.value (.func 146), #[(.tmp 12)], #[39]⟩) 39 true (.loop 0 [(.w (WK (2))), (.w (W 0 0)), (.w (W 0 1)), (.w (W 0 2)), (.w (W 0 3)), (.w (W 0 4)), (.w (.one (.c (.k (.slice none 0 0))))), (.w (.one (.c (.k (.bool false))))), (.w (.one (.c (.k (.slice none 0 0))))), (.w (WK (0)))] TD)
theorem Kd : aM prog f123 (fun _ => none) [.v (some 5)] = PQ := by kernel_rfl
theorem AV {B : Nat} {q : Rat} (h : Fit B q) : Fit B q.abs := by
 obtain ⟨h1, h2⟩ := Bt q
 exact ⟨by rw [h1]; simpa using h.1, by rw [h2]; exact h.2⟩
theorem BN {x : Rat} (h : x ≠ 0) : ∀ j : Nat, x ^ j ≠ 0
 | 0 => by rw [Rat.pow_zero]; decide
 | j + 1 => by
   rw [Rat.pow_succ]
   intro e
   rcases Rat.mul_eq_zero.1 e with e | e
   ·exact BN h j e
   ·exact h e
theorem BH {a b : Rat} : En a b ≤ 0 ↔ a ≤ b := by
 unfold En
 by_cases h1 : a < b
 ·rw [if_pos h1]; exact ⟨fun _ => by grind, fun _ => by omega⟩
 ·rw [if_neg h1]
  by_cases h2 : b < a
  ·rw [if_pos h2]; exact ⟨fun h => by omega, fun h => by grind⟩
  ·rw [if_neg h2]; exact ⟨fun _ => by grind, fun _ => by omega⟩
set_option maxHeartbeats 1000000 in
theorem ND (q : List (List Rat)) (m : Nat) (lead rho : Rat) (n : Int) (B L : Nat) (C : Vq B q m rho (n - m + 1) L) (hql : q.length = m + 1) (hm : m ≤ 64) (hL : L ≤ 1048576) (hn1 : (m : Int) ≤ n) (hn2 : n < 1099511627776) (hB : B ≤ 8589934592) (h64 : 64 ≤ B) : aN prog 205 [(BV q m lead : aH), (qT rho : aH), (.one (.int .i64 n) : aH)] (.ret [qT (iR q m rho ((n - m + 1 : Int) : Rat) q.length)]) := by
 refine aD (args := [.v (some 5), .v (some 3), .v none]) (ins := [.v (BV q m lead), .v (qT rho), .v (.one (.int .i64 n))]) (hints := (fun _ => none)) fo (by kernel_rfl) func205 ⟨rfl, rfl, rfl, trivial⟩ ?_
 rw [Mc]
 dsimp only [List.map, In.env, aA, aB]
 have hN0 : ((n - m + 1 : Int) : Rat) ≠ 0 := YO (by omega)
 refine vn (aK EZ (List.length_map _)) rfl ?_
 dsimp only [aA, aB]
 refine aY {i : Nat // i ≤ q.length} (fun g => (.one (.int .i64 g.1) : aH) :: (qC (iR q m rho ((n - m + 1 : Int) : Rat) g.1)).map .one) (fun g => q.length - g.1) ⟨0, Nat.zero_le _⟩ ⟨aH.Sub.same, wV⟩ (fun _ => rfl) ?_
 rintro ⟨i, hi⟩
 dsimp only [aA, aB, List.map] at hi ⊢
 refine vn aU rfl ?_
 dsimp only [aA, aB]
 refine vs _ rfl (fun h3 => ?_) (fun h3 => ?_)
 ·obtain ⟨p, hpi⟩ : ∃ p, q[i]? = some p := ⟨_, List.getElem?_eq_getElem (by omega)⟩
  have hgd : q.getD i [] = p := by rw [List.getD_eq_getElem?_getD, hpi]; rfl
  obtain ⟨hpl, hfp⟩ := C.fq p (List.mem_of_getElem? hpi)
  have hfx := fun k => C.fx i k (by omega)
  rw [hgd] at hfx
  refine vn (aR EZ (by omega) (by omega) hpi) rfl ?_
  dsimp only [aA, aB]
  refine vn (bA DH) rfl ?_
  dsimp only [aA, aB]
  refine vn (aK gL (List.length_map _)) rfl ?_
  dsimp only [aA, aB]
  refine aY {k : Nat // k ≤ p.length} (fun g => (.one (.int .i64 g.1) : aH) :: (qC (nL p m i rho ((n - m + 1 : Int) : Rat) (iR q m rho ((n - m + 1 : Int) : Rat) i) g.1)).map .one) (fun g => p.length - g.1) ⟨0, Nat.zero_le _⟩ aL.rfl (fun _ => rfl) ?_
  rintro ⟨k, hk⟩
  dsimp only [aA, aB, List.map] at hk ⊢
  refine vn aU rfl ?_
  dsimp only [aA, aB]
  refine vs _ rfl (fun h9 => ?_) (fun h9 => ?_)
  ·have hkt : k < p.length := by omega
   have hc := AV (hfp (p.getD k 0) (List.mem_of_getElem? (dL (l := p) hkt)))
   have hr := C.frho (m + k - i) (by omega)
   have hNp := C.fN (m - i) (by omega)
   have e1 : (m : Int) + (k : Int) - (i : Int) = ((m + k - i : Nat) : Int) := by omega
   have e2 : (m : Int) - (i : Int) = ((m - i : Nat) : Int) := by omega
   have hx := hfx k (by omega)
   refine vn (aR gL (by omega) (Int.toNat_natCast k) (dL hkt)) rfl ?_
   dsimp only [aA, aB]
   refine vn (cB tT (by decide) (by simp) (.inl rfl)) rfl ?_
   dsimp only [aA, aB]
   refine vn aU rfl ?_
   dsimp only [aA, aB]
   refine vs _ rfl (fun h13 => ?_) (fun h13 => ?_)
   ·refine aC (BS _) rfl ?_
    dsimp only [aA, aB]
    refine vn (aE (by omega) (by omega)) rfl ?_
    dsimp only [aA, aB]
    refine vn (aG (by omega) (by omega)) rfl ?_
    rw [e1]
    dsimp only [aA, aB]
    refine aC (mR rho (m + k - i) B (by omega) (by omega) (fun j hj => C.frho j (by omega))) rfl ?_
    dsimp only [aA, aB]
    refine aC (gJ _ _ B B hc hr (by omega)) rfl ?_
    dsimp only [aA, aB]
    refine vn (aG (by omega) (by omega)) rfl ?_
    dsimp only [aA, aB]
    refine vn (aE (by omega) (by omega)) rfl ?_
    dsimp only [aA, aB]
    refine aC (mW (n - m + 1) (by omega) (by omega)) rfl ?_
    dsimp only [aA, aB]
    refine vn (aG (by omega) (by omega)) rfl ?_
    rw [e2]
    dsimp only [aA, aB]
    refine aC (mR _ (m - i) B (by omega) (by omega) (fun j hj => C.fN j (by omega))) rfl ?_
    dsimp only [aA, aB]
    refine aC (vU _ _ (B + B) B (BN hN0 _) (hc.mul hr) hNp (by omega)) rfl ?_
    dsimp only [aA, aB]
    refine aC (pF _ _ B (B + B + B) hx ((hc.mul hr).div hNp) (by omega)) rfl ?_
    dsimp only [aA, aB]
    refine vn (aE (by omega) (by omega)) rfl ?_
    dsimp only [aA, aB]
    exact aO rfl ⟨⟨k + 1, by omega⟩, (by
     dsimp only
     rw [nL, if_pos (.inl (by omega))]
     exact aL.rfl), by show p.length - (k + 1) < p.length - k; omega⟩
   refine vn cT rfl ?_
   dsimp only [aA, aB]
   refine vs _ rfl (fun h29 => ?_) (fun h29 => ?_)
   ·refine aC (BS _) rfl ?_
    dsimp only [aA, aB]
    refine vn (aE (by omega) (by omega)) rfl ?_
    dsimp only [aA, aB]
    refine vn (aG (by omega) (by omega)) rfl ?_
    rw [e1]
    dsimp only [aA, aB]
    refine aC (mR rho (m + k - i) B (by omega) (by omega) (fun j hj => C.frho j (by omega))) rfl ?_
    dsimp only [aA, aB]
    refine aC (gJ _ _ B B hc hr (by omega)) rfl ?_
    dsimp only [aA, aB]
    refine vn (aG (by omega) (by omega)) rfl ?_
    dsimp only [aA, aB]
    refine vn (aE (by omega) (by omega)) rfl ?_
    dsimp only [aA, aB]
    refine aC (mW (n - m + 1) (by omega) (by omega)) rfl ?_
    dsimp only [aA, aB]
    refine vn (aG (by omega) (by omega)) rfl ?_
    rw [e2]
    dsimp only [aA, aB]
    refine aC (mR _ (m - i) B (by omega) (by omega) (fun j hj => C.fN j (by omega))) rfl ?_
    dsimp only [aA, aB]
    refine aC (vU _ _ (B + B) B (BN hN0 _) (hc.mul hr) hNp (by omega)) rfl ?_
    dsimp only [aA, aB]
    refine aC (pF _ _ B (B + B + B) hx ((hc.mul hr).div hNp) (by omega)) rfl ?_
    dsimp only [aA, aB]
    refine vn (aE (by omega) (by omega)) rfl ?_
    dsimp only [aA, aB]
    exact aO rfl ⟨⟨k + 1, by omega⟩, (by
     dsimp only
     rw [nL, if_pos (.inr (by omega))]
     exact aL.rfl), by show p.length - (k + 1) < p.length - k; omega⟩
   refine vn (aE (by omega) (by omega)) rfl ?_
   dsimp only [aA, aB]
   exact aO rfl ⟨⟨k + 1, by omega⟩, (by
    dsimp only
    rw [nL, if_neg (by omega)]
    exact aL.rfl), by show p.length - (k + 1) < p.length - k; omega⟩
  refine vn (aE (by omega) (by omega)) rfl ?_
  dsimp only [aA, aB]
  exact aO rfl ⟨⟨i + 1, by omega⟩, (by
   dsimp only
   rw [iR, hgd, show p.length = k by omega]
   exact aL.rfl), by show q.length - (i + 1) < q.length - i; omega⟩
 rw [show q.length = i by omega]; exact aJ rfl
theorem Oi {E sz b T : Nat} {α : Type} {f : α → List aF} {ds : List α} {x : Operand} {ty : Nat} {y : Operand} {k : IntKind} {n : Int} {m : Nat} (h : cK prog T = some (E, sz, b)) (h0 : 0 ≤ n) (hm : n.toNat = m) (hn : m ≤ ds.length) : aQ prog (.slice T x (some y) none none) ty [.one (.slice sz (ds.map f)), .one (.int k n)] (.one (.slice sz ((ds.drop m).map f))) := by
 have := zY (P := prog) (T := T) (x := x) (y := y) (ty := ty) (k := k) (n := n) (ts := ds.map f) h h0 (by rw [List.length_map, hm]; exact hn)
 rw [hm, ← List.map_drop] at this
 exact this
theorem xC (e : Int) : aN prog 130 [.one (.bool true), .one (.int .i64 e)] (.ret []) := by
 refine aD (args := [.v none, .v none]) (ins := [.v (.one (.bool true)), .v (.one (.int .i64 e))]) (hints := (fun _ => none)) fo (by kernel_rfl) func130 ⟨rfl, rfl, trivial⟩ ?_
 rw [NA]
 dsimp only [List.map, In.env, aA, aB]
 refine vn qE rfl ?_
 dsimp only [aA, aB]
 refine uB false rfl (fun h => by cases h) (fun _ => ?_)
 exact aJ rfl
abbrev Gn (q : List (List Rat)) (m : Nat) (lead : Rat) (h : Nat) : Prop := Be ((q.getD m []).drop 1) (eP h) ((q.getD m []).length - 1) + Be ((q.getD m []).drop 1) (eP h) ((q.getD m []).length - 1) ≤ lead.abs
abbrev vK (q : List (List Rat)) (m : Nat) (lead : Rat) (rho : Rat) (s : Nat) : Prop := iR q m rho (((s : Int) - m + 1 : Int) : Rat) q.length ≤ lead.abs
structure Pr (B : Nat) (q : List (List Rat)) (m : Nat) (lead : Rat) (L h0 s i0 : Nat) : Prop where
 flead : Fit B lead
 fq : ∀ p ∈ q, p.length ≤ L ∧ ∀ x ∈ p, Fit B x
 frho : ∀ h, h ≤ h0 → ∀ j, j ≤ 2 * L + 1 → Fit B (eP h ^ j)
 fs : ∀ h, h ≤ h0 → ∀ k, k ≤ L → Fit B (Be ((q.getD m []).drop 1) (eP h) k)
 fm : ∀ i, i ≤ i0 → Vq B q m (eP h0) (((s * 2 ^ i : Nat) : Int) - m + 1) L
 fo : ∀ i, i ≤ i0 → Fit B (iR q m (eP h0) ((((s * 2 ^ i : Nat) : Int) - m + 1 : Int) : Rat) q.length)
theorem OB (h : Nat) : Fit (h + 1) (mkRat 1 (2 ^ h)) := by
 refine Fit.mkRat ?_ ?_ (Nat.ne_of_gt (Nat.pow_pos (by omega)))
 ·have : 2 ^ 0 ≤ 2 ^ h := Nat.pow_le_pow_right (by omega) (Nat.zero_le _)
  rw [Nat.pow_succ]
  show (1 : Nat) < _
  omega
 ·exact Nat.pow_lt_pow_right (by omega) (by omega)
set_option maxHeartbeats 2000000 in
theorem IC (q : List (List Rat)) (m : Nat) (lead : Rat) (B L h0 i0 : Nat) (C : Pr B q m lead L h0 (m + eH q + m) i0) (hql : q.length = m + 1) (hm : m ≤ 64) (hL : L ≤ 1048576) (hB : B ≤ 8589934592) (h64 : 64 ≤ B) (hh : h0 ≤ 62) (hp1 : 1 ≤ (q.getD m []).length) (hlow : ∀ h, h < h0 → ¬ Gn q m lead h) (hs : Gn q m lead h0) (hst : ∀ i, i < i0 → ¬ vK q m lead (eP h0) ((m + eH q + m) * 2 ^ i)) (hsi : vK q m lead (eP h0) ((m + eH q + m) * 2 ^ i0)) (hlim : (m + eH q + m) * 2 ^ i0 ≤ 4096) : aN prog 123 [(BV q m lead : aH)] (.ret [.agg (([eQ q, .int .i64 m] ++ qC lead) ++ qC (eP h0) ++ [.int .i64 (((m + eH q + m) * 2 ^ i0 : Nat) : Int)])]) := by
 refine aD (args := [.v (some 5)]) (ins := [.v (BV q m lead)]) (hints := (fun _ => none)) fo (by kernel_rfl) func123 ⟨rfl, trivial⟩ ?_
 rw [Kd]
 dsimp only [List.map, In.env, aA, aB]
 obtain ⟨p, hpm⟩ : ∃ p, q[m]? = some p := ⟨_, List.getElem?_eq_getElem (by omega)⟩
 have hgd : q.getD m [] = p := by rw [List.getD_eq_getElem?_getD, hpm]; rfl
 obtain ⟨hpl, hfp⟩ := C.fq p (List.mem_of_getElem? hpm)
 have hfs := C.fs
 have hfl := AV C.flead
 rw [hgd] at hfs hp1
 have hokr : ∀ h, Gn q m lead h ↔ Be (p.drop 1) (eP h) (p.length - 1) + Be (p.drop 1) (eP h) (p.length - 1) ≤ lead.abs := fun h => by rw [Gn, hgd]
 have hlow : ∀ h, h < h0 → ¬ Be (p.drop 1) (eP h) (p.length - 1) + Be (p.drop 1) (eP h) (p.length - 1) ≤ lead.abs := fun h hh => by rw [← hokr]; exact hlow h hh
 have hs := (hokr h0).1 hs
 refine aC (BS lead) rfl ?_
 dsimp only [aA, aB]
 refine aY {h : Nat // h ≤ h0} (fun g => ([.one (.int .i64 (2 - (g.1 : Int))), .one (eQ q), .one (.int .i64 m)] : List aH) ++ (qC lead).map aH.one ++ (qC (if g.1 = 0 then 0 else eP (g.1 - 1))).map aH.one ++ [aH.one (.int .i64 0)]) (fun g => h0 - g.1) ⟨0, Nat.zero_le _⟩
  ⟨aH.Sub.same, aH.Sub.same, aH.Sub.same, aH.Sub.same, aH.Sub.same, aH.Sub.same, iI.1, iI.2.1, iI.2.2.1, aH.Sub.same, trivial⟩ (fun _ => rfl) ?_
 rintro ⟨h, hh0⟩
 dsimp only [aA, aB, List.map] at hh0 ⊢
 refine vn dU rfl ?_
 dsimp only [aA, aB]
 rw [show decide ((-60 : Int) ≤ 2 - (h : Int)) = true by rw [decide_eq_true_iff]; omega]
 refine aC (xC 5) rfl ?_
 refine aC (mW 4 (by omega) (by omega)) rfl ?_
 dsimp only [aA, aB]
 refine vn (aG (by omega) (by omega)) rfl ?_
 rw [show (2 : Int) - (2 - (h : Int)) = (h : Int) by omega]
 dsimp only [aA, aB]
 refine aC (PY h (by omega)) rfl ?_
 dsimp only [aA, aB]
 refine aC (gJ ((4 : Int) : Rat) (mkRat 1 (2 ^ h)) 64 64 (Fit.int (by omega) (by omega)) ((OB h).mono (by omega)) (by omega)) rfl ?_
 rw [show ((4 : Int) : Rat) * mkRat 1 (2 ^ h) = eP h from rfl]
 dsimp only [aA, aB]
 refine vn (aR EZ (by omega) (Int.toNat_natCast m) hpm) rfl ?_
 dsimp only [aA, aB]
 refine vn (bA DH) rfl ?_
 dsimp only [aA, aB]
 refine vn (Oi gL (by omega) (show (1 : Int).toNat = 1 from rfl) hp1) rfl ?_
 dsimp only [aA, aB]
 refine vn (aK gL (show (rQ (p.drop 1)).length = p.length - 1 by rw [List.length_map, List.length_drop])) rfl ?_
 dsimp only [aA, aB]
 refine aY {k : Nat // k ≤ p.length - 1} (fun g => (.one (.int .i64 g.1) : aH) :: (qC (Be (p.drop 1) (eP h) g.1)).map .one) (fun g => p.length - 1 - g.1) ⟨0, Nat.zero_le _⟩ ⟨aH.Sub.same, wV⟩ (fun _ => rfl) ?_
 rintro ⟨k, hk⟩
 dsimp only [aA, aB, List.map] at hk ⊢
 refine vn aU rfl ?_
 dsimp only [aA, aB]
 refine vs _ rfl (fun h14 => ?_) (fun h14 => ?_)
 ·have hkt : k < (p.drop 1).length := by rw [List.length_drop]; omega
  have hc := AV (hfp ((p.drop 1).getD k 0) (List.mem_of_mem_drop (List.mem_of_getElem? (dL (l := p.drop 1) hkt))))
  refine vn (aR gL (by omega) (Int.toNat_natCast k) (dL hkt)) rfl ?_
  dsimp only [aA, aB]
  refine vn (cB tT (by decide) (by simp) (.inl rfl)) rfl ?_
  dsimp only [aA, aB]
  refine aC (BS _) rfl ?_
  dsimp only [aA, aB]
  refine vn (aE (by omega) (by omega)) rfl ?_
  dsimp only [aA, aB]
  refine aC (mR (eP h) (k + 1) B (by omega) (by omega) (fun j hj => C.frho h hh0 j (by omega))) rfl ?_
  dsimp only [aA, aB]
  refine aC (gJ _ _ B B hc (C.frho h hh0 (k + 1) (by omega)) (by omega)) rfl ?_
  dsimp only [aA, aB]
  refine aC (pF _ _ B (B + B) (hfs h hh0 k (by omega)) (hc.mul (C.frho h hh0 (k + 1) (by omega))) (by omega)) rfl ?_
  dsimp only [aA, aB]
  refine vn (aE (by omega) (by omega)) rfl ?_
  dsimp only [aA, aB]
  exact aO rfl ⟨⟨k + 1, by omega⟩, aL.rfl, by show p.length - 1 - (k + 1) < p.length - 1 - k; omega⟩
 have hkl : p.length - 1 = k := by omega
 rw [hkl] at hlow hs
 refine aC (pF _ _ B B (hfs h hh0 k (by omega)) (hfs h hh0 k (by omega)) (by omega)) rfl ?_
 dsimp only [aA, aB]
 refine aC (Kj _ _ (B + B + 1) B ((hfs h hh0 k (by omega)).add (hfs h hh0 k (by omega))) hfl (by omega)) rfl ?_
 dsimp only [aA, aB]
 refine vn jA rfl ?_
 dsimp only [aA, aB]
 refine vs _ rfl (fun h27 => ?_) (fun h27 => ?_)
 ·have hle := BH.1 h27
  have hheq : h = h0 := by
   rcases Nat.lt_or_ge h h0 with hl | hl
   ·exact (hlow h hl hle).elim
   ·omega
  subst hheq
  have hqs : ∀ p ∈ q, p.length < 1099511627776 := fun p hp => by have := (C.fq p hp).1; omega
  have hdm := Ai (N := 1048576) q (fun p hp => Nat.le_trans (C.fq p hp).1 hL)
  refine aC (KM q m lead hqs (by omega) (by omega)) rfl ?_
  dsimp only [aA, aB]
  refine vn (aE (by omega) (by omega)) rfl ?_
  rw [show ((m + eH q : Nat) : Int) + (m : Int) = ((m + eH q + m : Nat) : Int) by omega]
  dsimp only [aA, aB]
  generalize hse : m + eH q + m = s at *
  refine aY {i : Nat // i ≤ i0} (fun g => ([.one (.exact (.slice none 0 0)), .one (.int .i64 0), .one (.exact (.slice none 0 0)), .one (.bool false), .one (.exact (.slice none 0 0)), .one (.exact (.slice none 0 0)), .one (.bool false), .one (.exact (.slice none 0 0)), .one (.int .i64 0), .one (eQ q), .one (.int .i64 m)] : List aH) ++ (qC lead).map aH.one ++ (qC (eP h)).map aH.one ++ [aH.one (.int .i64 ((s * 2 ^ g.1 : Nat) : Int))]) (fun g => i0 - g.1) ⟨0, Nat.zero_le _⟩ (show aL _ _ by rw [Nat.pow_zero, Nat.mul_one]; exact aL.rfl) (fun _ => rfl) ?_
  rintro ⟨i, hi⟩
  dsimp only [aA, aB, List.map] at hi ⊢
  have hpw : s * 2 ^ i ≤ s * 2 ^ i0 := Nat.mul_le_mul_left _ (Nat.pow_le_pow_right (by omega) hi)
  have hsm : m ≤ s * 2 ^ i := by
   have h1 : 1 ≤ 2 ^ i := Nat.pow_pos (by omega)
   have h2 : s * 1 ≤ s * 2 ^ i := Nat.mul_le_mul_left _ h1
   omega
  obtain ⟨z, hz⟩ : ∃ z, s * 2 ^ i = z := ⟨_, rfl⟩
  rw [hz] at hpw hsm ⊢
  have hfm := C.fm i hi
  have hfo := C.fo i hi
  rw [hz] at hfm hfo
  refine vn jA rfl ?_
  dsimp only [aA, aB]
  rw [show decide ((z : Int) ≤ 4096) = true by rw [decide_eq_true_iff]; omega]
  refine aC (xC 5) rfl ?_
  refine aC (ND q m lead (eP h) (z : Int) B L hfm hql hm hL (by omega) (by omega) hB h64) rfl ?_
  dsimp only [aA, aB]
  refine aC (Kj _ _ B B hfo hfl (by omega)) rfl ?_
  dsimp only [aA, aB]
  refine vn jA rfl ?_
  dsimp only [aA, aB]
  refine vs _ rfl (fun h36 => ?_) (fun h36 => ?_)
  ·have hle2 := BH.1 h36
   have hieq : i = i0 := by
    rcases Nat.lt_or_ge i i0 with hl | hl
    ·exact (hst i hl (by rw [vK, hz]; exact hle2)).elim
    ·omega
   subst hieq
   rw [hz]
   exact aJ rfl
  have hilt : i < i0 := by
   rcases Nat.lt_or_ge i i0 with hl | hl
   ·exact hl
   ·exfalso
    obtain rfl : i = i0 := by omega
    rw [vK, hz] at hsi
    exact h36 (BH.2 hsi)
  refine vn (nD (by omega) (by omega)) rfl ?_
  dsimp only [aA, aB]
  exact aO rfl ⟨⟨i + 1, by omega⟩, aL.of_eq (show [aH.one (.exact (.slice none 0 0)), .one (.int .i64 0), .one (.exact (.slice none 0 0)), .one (.bool false), .one (.exact (.slice none 0 0)), .one (.exact (.slice none 0 0)), .one (.bool false), .one (.exact (.slice none 0 0)), .one (.int .i64 0), .one (eQ q), .one (.int .i64 m)] ++ (qC lead).map aH.one ++ (qC (eP h)).map aH.one ++ [aH.one (.int .i64 ((z : Int) * 2))] = _ by
   dsimp only
   rw [Nat.pow_succ, ← Nat.mul_assoc, hz]; rfl), by show i0 - (i + 1) < i0 - i; omega⟩
 have hhlt : h < h0 := by
  rcases Nat.lt_or_ge h h0 with hl | hl
  ·exact hl
  ·exfalso
   obtain rfl : h = h0 := by omega
   exact h27 (BH.2 hs)
 refine vn (aG (by omega) (by omega)) rfl ?_
 dsimp only [aA, aB]
 exact aO rfl ⟨⟨h + 1, by omega⟩, aL.of_eq (show [aH.one (.int .i64 (2 - (h : Int) - 1)), .one (eQ q), .one (.int .i64 m)] ++ (qC lead).map aH.one ++ (qC (eP h)).map aH.one ++ [aH.one (.int .i64 0)] = _ by
  dsimp only
  rw [if_neg (by omega), Nat.add_sub_cancel, show (2 : Int) - (h : Int) - 1 = 2 - ((h + 1 : Nat) : Int) by omega]
  rfl), by show h0 - (h + 1) < h0 - h; omega⟩
end Go.Sy
