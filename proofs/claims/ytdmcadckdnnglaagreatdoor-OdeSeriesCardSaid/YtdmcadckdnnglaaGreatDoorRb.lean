/- The reference's integers: division, common divisors. The reference's rational numbers.
-/
import Derived.Test.YtdmcadckdnnglaaGreatDoorRa
set_option linter.unusedVariables false
set_option linter.unusedSimpArgs false
namespace Go.Sy
open Go Go.Proofs Tryz Ord
def Pm : Tr := .back 0 [(.w (W 10 0)), (.w (W 11 0))]
def UH : Tr := .split (.u 5 0) (.need (.prim [(W 3 0), (WK (32768))] none) (.binOp .mul 3 (.tmp 14) (.const (I3 (32768))) 3) 3 false (.need (.prim [(W 1 0), (WK (1))] none) (.binOp .sub 3 (.tmp 17) (.const (I3 (1))) 3) 3 false (.need (.prim [(W 7 0), (W 4 0)] none) (.binOp .sub 3 (.tmp 18) (.tmp 19) 3) 3 false (.need (.call 263 [(W 0 0), (W 8 0)] [none]) (.call ⟨.value (.func 263), #[(.tmp 16), (.tmp 20)], #[45, 3]⟩) 3 true (.need (.prim [(W 6 0), (W 9 0)] none) (.binOp .add 3 (.tmp 15) (.tmp 21) 3) 3 false (.need (.prim [(W 4 0), (WK (1))] none) (.binOp .add 3 (.tmp 12) (.const (I3 (1))) 3) 3 false Pm)))))) (.ret [(W 3 0)])
def Xy : Tr := .loop 0 [(.w (WK (0))), (.w (WK (0)))] (.need (.prim [(W 4 0), (W 2 0)] none) (.binOp .lss 3 (.tmp 9) (.tmp 10) 3) 4 false UH)
theorem Li : aM prog f284 (fun _ => none) [.v none, .v none, .v none] = Xy := by kernel_rfl
def Rp : Tr := .loop 0 [(.w (W 14 0)), (.w (W 10 0))] (.need (.call 215 [(W 15 0), (W 1 0)] [none]) (.call ⟨.value (.func 215), #[(.tmp 46), (.tmp 47)], #[45, 45]⟩) 3 true (.need (.prim [(W 17 0), (WK (0))] none) (.binOp .geq 3 (.tmp 48) (.const (I3 (0))) 3) 4 false (.split (.u 18 0) (.need (.call 214 [(W 15 0), (W 1 0), (WK (-1))] [none]) (.call ⟨.value (.func 214), #[(.tmp 50), (.tmp 51), (.const (I3 (-1)))], #[45, 45, 3]⟩) 45 true (.need (.prim [(W 16 0), (WK (1))] none) (.binOp .add 3 (.tmp 53) (.const (I3 (1))) 3) 3 false (.back 0 [(.w (W 19 0)), (.w (W 20 0))]))) (.ret [(W 16 0), (W 15 0)]))))
def QI : Tr := .loop 0 [(.w (W 0 0)), (.w (W 10 0))] (.need (.call 215 [(W 12 0), (W 1 0)] [none]) (.call ⟨.value (.func 215), #[(.tmp 46), (.tmp 47)], #[45, 45]⟩) 3 true (.need (.prim [(W 14 0), (WK (0))] none) (.binOp .geq 3 (.tmp 48) (.const (I3 (0))) 3) 4 false (.split (.u 15 0) (.need (.call 214 [(W 12 0), (W 1 0), (WK (-1))] [none]) (.call ⟨.value (.func 214), #[(.tmp 50), (.tmp 51), (.const (I3 (-1)))], #[45, 45, 3]⟩) 45 true (.need (.prim [(W 13 0), (WK (1))] none) (.binOp .add 3 (.tmp 53) (.const (I3 (1))) 3) 3 false (.back 0 [(.w (W 16 0)), (.w (W 17 0))]))) (.ret [(W 13 0), (W 12 0)]))))
def JH : Tr := .need (.prim [(W 10 0), (WK (0))] none) (.binOp .gtr 3 (.tmp 36) (.const (I3 (0))) 3) 4 false (.split (.u 11 0) (.need (.call 139 [(W 10 0)] [(some 2)]) (.call ⟨.value (.func 139), #[(.tmp 39)], #[2]⟩) 47 false (.need (.call 135 [(.agg [(U 12 0), (U 12 1)]), (.agg [(.c (.k (.int .i64 (1)))), (U 1 0)])] [(some 2)]) (.call ⟨.value (.func 135), #[(.tmp 40), (.tmp 42)], #[47, 47]⟩) 47 true (.need (.call 214 [(W 0 0), (W 13 1), (WK (-1))] [none]) (.call ⟨.value (.func 214), #[(.tmp 38), (.tmp 44), (.const (I3 (-1)))], #[45, 45, 3]⟩) 45 true Rp))) QI)
def XA : Tr := .need (.prim [(W 2 0), (WK (3))] none) (.binOp .leq 3 (.tmp 14) (.const (I3 (3))) 3) 4 false (.split (.u 5 0) (.need (.prim [(W 2 0), (WK (1))] none) (.binOp .add 3 (.tmp 17) (.const (I3 (1))) 3) 3 false (.need (.prim [(W 2 0), (WK (1))] none) (.binOp .add 3 (.tmp 19) (.const (I3 (1))) 3) 3 false (.need (.call 284 [(W 0 0), (W 6 0), (W 7 0)] [none]) (.call ⟨.value (.func 284), #[(.tmp 16), (.tmp 18), (.tmp 20)], #[45, 3, 3]⟩) 3 false (.need (.call 284 [(W 1 0), (W 2 0), (W 2 0)] [none]) (.call ⟨.value (.func 284), #[(.tmp 22), (.tmp 23), (.tmp 24)], #[45, 3, 3]⟩) 3 true (.need (.prim [(W 8 0), (W 9 0)] none) (.binOp .quo 3 (.tmp 21) (.tmp 25) 3) 3 false JH))))) (.need (.prim [(W 2 0), (WK (1))] none) (.binOp .add 3 (.tmp 28) (.const (I3 (1))) 3) 3 false (.need (.call 284 [(W 0 0), (W 6 0), (WK (4))] [none]) (.call ⟨.value (.func 284), #[(.tmp 27), (.tmp 29), (.const (I3 (4)))], #[45, 3, 3]⟩) 3 false (.need (.call 284 [(W 1 0), (W 2 0), (WK (3))] [none]) (.call ⟨.value (.func 284), #[(.tmp 31), (.tmp 32), (.const (I3 (3)))], #[45, 3, 3]⟩) 3 false (.need (.prim [(W 8 0), (WK (1))] none) (.binOp .add 3 (.tmp 33) (.const (I3 (1))) 3) 3 false (.need (.prim [(W 7 0), (W 9 0)] none) (.binOp .quo 3 (.tmp 30) (.tmp 34) 3) 3 false JH))))))
def TR : Tr := .loop 0 [(.w (W 8 0)), (.w (WK (0)))] (.need (.call 215 [(W 9 0), (W 1 0)] [none]) (.call ⟨.value (.func 215), #[(.tmp 46), (.tmp 47)], #[45, 45]⟩) 3 true (.need (.prim [(W 11 0), (WK (0))] none) (.binOp .geq 3 (.tmp 48) (.const (I3 (0))) 3) 4 false (.split (.u 12 0) (.need (.call 214 [(W 9 0), (W 1 0), (WK (-1))] [none]) (.call ⟨.value (.func 214), #[(.tmp 50), (.tmp 51), (.const (I3 (-1)))], #[45, 45, 3]⟩) 45 true (.need (.prim [(W 10 0), (WK (1))] none) (.binOp .add 3 (.tmp 53) (.const (I3 (1))) 3) 3 false (.back 0 [(.w (W 13 0)), (.w (W 14 0))]))) (.ret [(W 10 0), (W 9 0)]))))
def PR : Tr := .split (.u 5 0) (.need (.call 139 [(WK (0))] [(some 2)]) (.call ⟨.value (.func 139), #[(.tmp 39)], #[2]⟩) 47 false (.need (.call 135 [(.agg [(U 6 0), (U 6 1)]), (.agg [(.c (.k (.int .i64 (1)))), (U 1 0)])] [(some 2)]) (.call ⟨.value (.func 135), #[(.tmp 40), (.tmp 42)], #[47, 47]⟩) 47 true (.need (.call 214 [(W 0 0), (W 7 1), (WK (-1))] [none]) (.call ⟨.value (.func 214), #[(.tmp 38), (.tmp 44), (.const (I3 (-1)))], #[45, 45, 3]⟩) 45 true TR))) (.loop 0 [(.w (W 0 0)), (.w (WK (0)))] (.need (.call 215 [(W 6 0), (W 1 0)] [none]) (.call ⟨.value (.func 215), #[(.tmp 46), (.tmp 47)], #[45, 45]⟩) 3 true (.need (.prim [(W 8 0), (WK (0))] none) (.binOp .geq 3 (.tmp 48) (.const (I3 (0))) 3) 4 false (.split (.u 9 0) (.need (.call 214 [(W 6 0), (W 1 0), (WK (-1))] [none]) (.call ⟨.value (.func 214), #[(.tmp 50), (.tmp 51), (.const (I3 (-1)))], #[45, 45, 3]⟩) 45 true (.need (.prim [(W 7 0), (WK (1))] none) (.binOp .add 3 (.tmp 53) (.const (I3 (1))) 3) 3 false Pm)) (.ret [(W 7 0), (W 6 0)])))))
def VE : Tr := .need (.prim [(W 1 0)] none) (.call ⟨.builtin .len, #[(.tmp 8)], #[45]⟩) 3 false (.need (.prim [(W 0 0)] none) (.call ⟨.builtin .len, #[(.tmp 10)], #[45]⟩) 3 false (.need (.prim [(W 3 0), (W 2 0)] none) (.binOp .geq 3 (.tmp 11) (.tmp 12) 3) 4 false (.split (.u 4 0) XA (.need (.prim [(WK (0)), (WK (0))] none) (.binOp .gtr 3 (.tmp 36) (.const (I3 (0))) 3) 4 false PR))))
theorem IZ : aM prog f261 (fun _ => none) [.v none, .v none] = VE := by kernel_rfl
def TI : Tr := .need (.app 1 8 (some 17) none (some 20)) (.call ⟨.builtin .append, #[(.tmp 33), (.tmp 38)], #[45, 45]⟩) 45 false (.need (.call 260 [(.one (.c (.sr 1 21)))] [none]) (.call ⟨.value (.func 260), #[(.tmp 39)], #[45]⟩) 45 true (.need (.call 261 [(W 22 0), (W 1 0)] [none, none]) (.call ⟨.value (.func 261), #[(.tmp 42), (.tmp 43)], #[45, 45]⟩) 311 false (.need (.lit 1 [[(.u 23 0)]]) (.buildSlice 45 1 #[(0, (.tmp 48))]) 45 false (.need (.app 1 8 (some 14) none (some 25)) (.call ⟨.builtin .append, #[(.tmp 47), (.tmp 49)], #[45, 45]⟩) 45 false (.need (.prim [(W 13 0), (WK (1))] none) (.binOp .add 3 (.tmp 30) (.const (I3 (1))) 3) 3 false (.back 0 [(.w (W 24 0)), (.w (W 27 0)), (.row 26)]))))))
def RS : Tr := .need (.prim [(W 0 0)] none) (.call ⟨.builtin .len, #[(.tmp 27)], #[45]⟩) 3 false (.need (.prim [(W 13 0), (W 15 0)] none) (.binOp .lss 3 (.tmp 26) (.tmp 28) 3) 4 false (.split (.u 16 0) (.need (.app 1 8 none (some (.u 12 0)) none) (.call ⟨.builtin .append, #[(.const (.slice none 0 0)), (.tmp 32)], #[45, 45]⟩) 45 false (.need (.prim [(W 0 0), (W 13 0)] none) (.indexAddr 45 (.tmp 34) (.tmp 35)) 0 false (.need (.prim [(W 18 0)] none) (.load 3 (.tmp 36)) 3 false (.need (.lit 1 [[(.u 19 0)]]) (.buildSlice 45 1 #[(0, (.tmp 37))]) 45 false TI)))) (.need (.call 260 [(.one (.c (.sr 1 14)))] [none]) (.call ⟨.value (.func 260), #[(.tmp 51)], #[45]⟩) 45 false (.ret [(W 17 0), (W 12 0)]))))
def WD : Tr := .need (.prim [(W 5 0), (WK (1))] none) (.binOp .sub 3 (.tmp 18) (.const (I3 (1))) 3) 3 false (.need (.prim [(W 0 0), (W 6 0)] none) (.slice 45 (.tmp 16) none (some (.tmp 19)) none) 45 false (.need (.app 1 8 none (some (.u 7 0)) none) (.call ⟨.builtin .append, #[(.const (.slice none 0 0)), (.tmp 20)], #[45, 45]⟩) 45 false (.need (.call 260 [(.one (.c (.sr 1 8)))] [none]) (.call ⟨.value (.func 260), #[(.tmp 21)], #[45]⟩) 45 true (.need (.prim [(W 1 0)] none) (.call ⟨.builtin .len, #[(.tmp 23)], #[45]⟩) 3 false (.need (.prim [(W 10 0), (WK (1))] none) (.binOp .sub 3 (.tmp 24) (.const (I3 (1))) 3) 3 false (.loop 0 [(.w (W 9 0)), (.w (W 11 0)), .nilrow] RS))))))
def WB : Tr := .need (.prim [(W 0 0)] none) (.call ⟨.builtin .len, #[(.tmp 10)], #[45]⟩) 3 false (.need (.prim [(W 1 0)] none) (.call ⟨.builtin .len, #[(.tmp 12)], #[45]⟩) 3 false (.need (.prim [(W 2 0), (W 3 0)] none) (.binOp .lss 3 (.tmp 11) (.tmp 13) 3) 4 false (.split (.u 4 0) (.ret [(.one (.c (.k (.slice none 0 0)))), (W 0 0)]) (.need (.prim [(W 1 0)] none) (.call ⟨.builtin .len, #[(.tmp 17)], #[45]⟩) 3 false WD))))
theorem Mt : aM prog f213 (fun _ => none) [.v none, .v none] = WB := by kernel_rfl
def Uh : Tr := .split (.u 4 0) (.need (.prim [(W 1 0), (WK (32768))] none) (.binOp .mul 3 (.tmp 11) (.const (I3 (32768))) 3) 3 false (.need (.prim [(W 0 0), (W 2 0)] none) (.indexAddr 45 (.tmp 13) (.tmp 14)) 0 false (.need (.prim [(W 6 0)] none) (.load 3 (.tmp 15)) 3 false (.need (.prim [(W 5 0), (W 7 0)] none) (.binOp .add 3 (.tmp 12) (.tmp 16) 3) 3 false (.need (.prim [(W 2 0), (WK (1))] none) (.binOp .add 3 (.tmp 9) (.const (I3 (1))) 3) 3 false (.back 0 [(.w (W 8 0)), (.w (W 9 0))])))))) (.ret [(W 1 0)])
def Up : Tr := .loop 0 [(.w (WK (0))), (.w (WK (0)))] (.need (.prim [(W 0 0)] none) (.call ⟨.builtin .len, #[(.tmp 6)], #[45]⟩) 3 false (.need (.prim [(W 2 0), (W 3 0)] none) (.binOp .lss 3 (.tmp 5) (.tmp 7) 3) 4 false Uh))
theorem Ji : aM prog f257 (fun _ => none) [.v none] = Up := by kernel_rfl
def PM : Tr := .need (.call 257 [(W 2 0)] [none]) (.call ⟨.value (.func 257), #[(.tmp 26)], #[45]⟩) 3 false (.need (.call 257 [(W 3 0)] [none]) (.call ⟨.value (.func 257), #[(.tmp 28)], #[45]⟩) 3 true (.loop 1 [(.w (W 12 0)), (.w (W 13 0))] (.need (.prim [(W 15 0), (WK (0))] none) (.binOp .neq 3 (.tmp 30) (.const (I3 (0))) 3) 4 false (.split (.u 16 0) (.need (.prim [(W 14 0), (W 15 0)] none) (.binOp .rem 3 (.tmp 33) (.tmp 34) 3) 3 false (.back 1 [(.w (W 15 0)), (.w (W 17 0))])) (.need (.call 139 [(W 14 0)] [(some 2)]) (.call ⟨.value (.func 139), #[(.tmp 36)], #[2]⟩) 47 true (.ret [(.agg [(U 17 0), (U 17 1)])]))))))
def Xv : Tr := .need (.prim [(W 8 0), (WK (4))] none) (.binOp .leq 3 (.tmp 19) (.const (I3 (4))) 3) 4 false (.split (.u 9 0) (.need (.prim [(W 3 0)] none) (.call ⟨.builtin .len, #[(.tmp 22)], #[45]⟩) 3 false (.need (.prim [(W 10 0), (WK (4))] none) (.binOp .leq 3 (.tmp 23) (.const (I3 (4))) 3) 4 false (.split (.u 11 0) PM (.need (.call 213 [(W 2 0), (W 3 0)] [none, none]) (.call ⟨.value (.func 213), #[(.tmp 39), (.tmp 40)], #[45, 45]⟩) 269 false (.back 0 [(.w (W 3 0)), (.w (W 13 0)), (.w (W 4 0)), (.w (W 5 0))]))))) (.need (.call 213 [(W 2 0), (W 3 0)] [none, none]) (.call ⟨.value (.func 213), #[(.tmp 39), (.tmp 40)], #[45, 45]⟩) 269 false (.back 0 [(.w (W 3 0)), (.w (W 11 0)), (.w (W 4 0)), (.w (W 5 0))])))
def WJ : Tr := .loop 0 [(.w (W 0 1)), (.w (W 1 1)), (.w (WK (0))), (.w (.one (.c (.k (.slice none 0 0)))))] (.need (.prim [(W 3 0)] none) (.call ⟨.builtin .len, #[(.tmp 15)], #[45]⟩) 3 false (.need (.prim [(W 6 0), (WK (0))] none) (.binOp .gtr 3 (.tmp 16) (.const (I3 (0))) 3) 4 false (.split (.u 7 0) (.need (.prim [(W 2 0)] none) (.call ⟨.builtin .len, #[(.tmp 18)], #[45]⟩) 3 false Xv) (.need (.call 211 [(WK (1)), (W 2 0)] [(some 2)]) (.call ⟨.value (.func 211), #[(.const (I3 (1))), (.tmp 46)], #[3, 45]⟩) 47 true (.ret [(.agg [(U 8 0), (U 8 1)])])))))
theorem Nh : aM prog f212 (fun _ => none) [.v (some 2), .v (some 2)] = WJ := by kernel_rfl
theorem Fb {m long i : Nat} (h : i < long) : m / 32768 ^ (long - i) * 32768 + m / 32768 ^ (long - 1 - i) % 32768 = m / 32768 ^ (long - (i + 1)) := by
 have e : m / 32768 ^ (long - i) = m / 32768 ^ (long - (i + 1)) / 32768 := by
  rw [Nat.div_div_eq_div_mul, ← Nat.pow_succ]; congr 2; omega
 rw [e, show long - 1 - i = long - (i + 1) by omega]
 have := Nat.div_add_mod (m / 32768 ^ (long - (i + 1))) 32768
 omega
theorem rP {m long i : Nat} (h : i ≤ long) (hm : m < 32768 ^ long) : m / 32768 ^ (long - i) < 32768 ^ i := by
 rw [Nat.div_lt_iff_lt_mul (Nat.pow_pos (by omega)), ← Nat.pow_add, show i + (long - i) = long by omega]; exact hm
theorem EB {i : Nat} (h : i ≤ 4) : 32768 ^ i ≤ 1152921504606846976 := by
 have := Nat.pow_le_pow_right (n := 32768) (by omega) h
 rw [show (32768 : Nat) ^ 4 = 1152921504606846976 by decide] at this; exact this
theorem rM (m long k : Nat) (hm : m < 32768 ^ long) (hk : k ≤ long) (hk4 : k ≤ 4) (hl : long < 1099511627776) (hs : (bd m).length < 1099511627776) : aN prog 284 [(.one (bT m) : aH), (.one (.int .i64 long) : aH), (.one (.int .i64 k) : aH)] (.ret [.one (.int .i64 ((m / 32768 ^ (long - k) : Nat) : Int))]) := by
 refine aD (args := [.v none, .v none, .v none]) (ins := [.v (.one (bT m)), .v (.one (.int .i64 long)), .v (.one (.int .i64 k))]) (hints := (fun _ => none)) fo (by kernel_rfl) func284 ⟨rfl, rfl, rfl, trivial⟩ ?_
 rw [Li]
 dsimp only [List.map, In.env, aA, aB]
 refine aY {i : Nat // i ≤ k} (fun g => [.one (.int .i64 ((m / 32768 ^ (long - g.1) : Nat) : Int)), .one (.int .i64 g.1)]) (fun g => k - g.1) ⟨0, Nat.zero_le _⟩ ⟨aH.Sub.of_eq (congrArg (fun q : Nat => aH.one (aF.int .i64 (q : Int))) (by show 0 = m / 32768 ^ long; rw [Nat.div_eq_of_lt hm])), aH.Sub.same, trivial⟩ (fun _ => rfl) ?_
 rintro ⟨i, hi⟩
 dsimp only [aA, aB] at hi ⊢
 refine vn aU rfl ?_
 dsimp only [aA, aB]
 refine vs _ rfl (fun h2 => ?_) (fun h2 => ?_)
 ·have hx := rP (m := m) (i := i) (long := long) (by omega) hm
  have hp := EB (i := i) (by omega)
  have hstep := Fb (m := m) (long := long) (i := i) (by omega)
  have hlt := rP (m := m) (i := i + 1) (long := long) (by omega) hm
  have hp2 := EB (i := i + 1) (by omega)
  generalize m / 32768 ^ (long - i) = x at *
  generalize hy : m / 32768 ^ (long - (i + 1)) = y at *
  refine vn (nD (by omega) (by omega)) rfl ?_
  dsimp only [aA, aB]
  refine vn (aG (by omega) (by omega)) rfl ?_
  dsimp only [aA, aB]
  refine vn (jN (c := ((long - 1 - i : Nat) : Int)) (by rw [show ((long : Int) - 1 - (i : Int)) = ((long - 1 - i : Nat) : Int) by omega]; exact cY (by omega) (by omega))) rfl ?_
  dsimp only [aA, aB]
  refine aC (wB m (long - 1 - i) (by omega) hs) rfl ?_
  generalize m / 32768 ^ (long - 1 - i) % 32768 = d at *
  dsimp only [aA, aB]
  refine vn (cM (c := (y : Int)) (by rw [show (x : Int) * 32768 + (d : Int) = (y : Int) by omega]; exact cY (by omega) (by omega))) rfl ?_
  dsimp only [aA, aB]
  refine vn (aE (by omega) (by omega)) rfl ?_
  dsimp only [aA, aB]
  exact aO rfl ⟨⟨i + 1, by omega⟩, ⟨aH.Sub.of_eq (congrArg (fun q : Nat => aH.one (aF.int .i64 (q : Int))) hy.symm), aH.Sub.same, trivial⟩, by show k - (i + 1) < k - i; omega⟩
 rw [show k = i by omega]; exact aJ rfl
theorem DU {d : Nat} (h : 0 < d) : zT (d : Int) = .agg [.int .i64 1, bT d] := by
 rw [zT, zC, Int.sign_eq_one_of_pos (by omega)]; rfl
theorem IX {r d m : Nat} : r / 32768 ^ m / (d / 32768 ^ m + 1) * d ≤ r := by
 have hp : 0 < 32768 ^ m := Nat.pow_pos (by omega)
 have h1 : d ≤ (d / 32768 ^ m + 1) * 32768 ^ m := by
  rw [Nat.mul_comm]; exact Nat.le_of_lt (Nat.lt_mul_div_succ d hp)
 calc r / 32768 ^ m / (d / 32768 ^ m + 1) * d ≤ r / 32768 ^ m / (d / 32768 ^ m + 1) * ((d / 32768 ^ m + 1) * 32768 ^ m) := Nat.mul_le_mul_left _ h1
  _ = r / 32768 ^ m / (d / 32768 ^ m + 1) * (d / 32768 ^ m + 1) * 32768 ^ m := (Nat.mul_assoc _ _ _).symm
  _ ≤ r / 32768 ^ m * 32768 ^ m := Nat.mul_le_mul_right _ (Nat.div_mul_le_self _ _)
  _ ≤ r := Nat.div_mul_le_self _ _
set_option maxHeartbeats 2000000 in
theorem IH (r d : Nat) (hd : 0 < d) (hr : r < d * 32768) (hs : (bd d).length < 34359738368) : aN prog 261 [(.one (bT r) : aH), (.one (bT d) : aH)] (.ret [.one (.int .i64 ((r / d : Nat) : Int)), .one (bT (r % d))]) := by
 refine aD (args := [.v none, .v none]) (ins := [.v (.one (bT r)), .v (.one (bT d))]) (hints := (fun _ => none)) fo (by kernel_rfl) func261 ⟨rfl, rfl, trivial⟩ ?_
 rw [IZ]
 dsimp only [List.map, In.env, aA, aB]
 have hdl := xO d
 have hrl : r < 32768 ^ ((bd d).length + 1) := by
  rw [Nat.pow_succ]; exact Nat.lt_trans hr (Nat.mul_lt_mul_of_pos_right hdl (by omega))
 have hrs := gB hrl
 have hle : ∀ q, q ≤ r → (bd q).length ≤ (bd d).length + 1 := fun q hq => Nat.le_trans (dJ hq) hrs
 have hdn : 0 < (bd d).length := by
  rcases Nat.eq_zero_or_pos (bd d).length with h | h
  ·have := xU.1 (List.eq_nil_of_length_eq_zero h); omega
  ·exact h
 have hqB : r / d < 32768 := by rw [Nat.div_lt_iff_lt_mul hd, Nat.mul_comm]; exact hr
 have hkd : ∀ k, k * d ≤ r → k < 32768 := fun k hk => by
  have : k ≤ r / d := by rw [Nat.le_div_iff_mul_le hd]; exact hk
  omega
 have hfin : ∀ r' k, r' + k * d = r → r' < d → k = r / d ∧ r' = r % d := fun r' k h1 h2 => tG (by rw [← h1, Nat.mul_comm]) h2
 have hah : ∀ r' : Nat, (0 ≤ dR (r' : Int) (d : Int)) ↔ d ≤ r' := fun r' => by
  have := oO (a := (r' : Int)) (b := (d : Int)); omega
 refine vn (aK dG (List.length_map _)) rfl ?_
 dsimp only [aA, aB]
 refine vn (aK dG (List.length_map _)) rfl ?_
 dsimp only [aA, aB]
 refine vn dU rfl ?_
 dsimp only [aA, aB]
 refine vs _ rfl (fun h3 => ?_) (fun h3 => ?_)
 ·refine vn jA rfl ?_
  dsimp only [aA, aB]
  refine vs _ rfl (fun h5 => ?_) (fun h5 => ?_)
  ·refine vn (aE (by omega) (by omega)) rfl ?_
   dsimp only [aA, aB]
   refine vn (aE (by omega) (by omega)) rfl ?_
   dsimp only [aA, aB]
   refine aC (rM r ((bd d).length + 1) ((bd d).length + 1) hrl (Nat.le_refl _) (by omega) (by omega) (by omega)) rfl ?_
   rw [Nat.sub_self, Nat.pow_zero, Nat.div_one]
   dsimp only [aA, aB]
   refine aC (rM d (bd d).length (bd d).length hdl (Nat.le_refl _) (by omega) (by omega) (by omega)) rfl ?_
   rw [Nat.sub_self, Nat.pow_zero, Nat.div_one]
   dsimp only [aA, aB]
   obtain ⟨k, hk⟩ : ∃ k, r / d = k := ⟨_, rfl⟩
   have hk1 : k * d ≤ r := by rw [← hk]; exact Nat.div_mul_le_self _ _
   have hk2 := hkd k hk1
   refine vn (nG (c := (k : Int)) (by omega) (by rw [Int.tdiv_eq_ediv_of_nonneg (lH _), ← Int.natCast_ediv, hk]; exact cY (by omega) (by omega))) rfl ?_
   dsimp only [aA, aB]
   refine vn cT rfl ?_
   dsimp only [aA, aB]
   refine vs _ rfl (fun h12 => ?_) (fun h12 => ?_)
   ·have hm := iM (k : Int) (d : Int) (by
     rw [Int.natAbs_natCast, Int.natAbs_natCast]
     have : (bd k).length ≤ 1 := gB (by omega)
     omega)
    rw [DU hd, show (k : Int) * (d : Int) = ((k * d : Nat) : Int) by rw [Int.natCast_mul]] at hm
    refine aC (lL k (by omega) (by omega)) rfl ?_
    dsimp only [aA, aB]
    refine aC hm rfl ?_
    dsimp only [aA, aB]
    refine aC (gZ r (k * d) (r - k * d) (-1) (.inr rfl) (by omega) (by omega) (by have := hle _ hk1; omega)) rfl ?_
    dsimp only [aA, aB]
    refine aY {g : Nat × Nat // g.1 + g.2 * d = r} (fun g => [.one (bT g.1.1), .one (.int .i64 g.1.2)]) (fun g => g.1.1) ⟨(r - k * d, k), by show r - k * d + k * d = r; omega⟩ aL.rfl (fun _ => rfl) ?_
    rintro ⟨⟨r', k'⟩, hg⟩
    dsimp only [aA, aB] at hg ⊢
    have hk3 := hkd k' (by omega)
    have hr3 := hle r' (by omega)
    refine aC (mY r' d (by omega)) rfl ?_
    dsimp only [aA, aB]
    refine vn dU rfl ?_
    dsimp only [aA, aB]
    refine vs _ rfl (fun h19 => ?_) (fun h19 => ?_)
    ·have hdr : d ≤ r' := (hah r').1 (by assumption)
     refine aC (gZ r' d (r' - d) (-1) (.inr rfl) (by omega) (by omega) (by omega)) rfl ?_
     dsimp only [aA, aB]
     refine vn (aE (by omega) (by omega)) rfl ?_
     dsimp only [aA, aB]
     exact aO rfl ⟨⟨(r' - d, k' + 1), by show r' - d + (k' + 1) * d = r; rw [Nat.add_mul]; omega⟩, aL.rfl, by show r' - d < r'; omega⟩
    have hdr : r' < d := by
     rcases Nat.lt_or_ge r' d with h | h
     ·exact h
     ·exact absurd ((hah r').2 h) (by assumption)
    obtain ⟨e1, e2⟩ := hfin r' k' hg hdr
    rw [← e1, ← e2]; exact aJ rfl
   refine aY {g : Nat × Nat // g.1 + g.2 * d = r} (fun g => [.one (bT g.1.1), .one (.int .i64 g.1.2)]) (fun g => g.1.1) ⟨(r, 0), by omega⟩ ⟨aH.Sub.same, aH.Sub.of_eq (congrArg (fun q : Nat => aH.one (aF.int .i64 (q : Int))) (by show k = 0; omega)), trivial⟩ (fun _ => rfl) ?_
   rintro ⟨⟨r', k'⟩, hg⟩
   dsimp only [aA, aB] at hg ⊢
   have hk3 := hkd k' (by omega)
   have hr3 := hle r' (by omega)
   refine aC (mY r' d (by omega)) rfl ?_
   dsimp only [aA, aB]
   refine vn dU rfl ?_
   dsimp only [aA, aB]
   refine vs _ rfl (fun h27 => ?_) (fun h27 => ?_)
   ·have hdr : d ≤ r' := (hah r').1 (by assumption)
    refine aC (gZ r' d (r' - d) (-1) (.inr rfl) (by omega) (by omega) (by omega)) rfl ?_
    dsimp only [aA, aB]
    refine vn (aE (by omega) (by omega)) rfl ?_
    dsimp only [aA, aB]
    exact aO rfl ⟨⟨(r' - d, k' + 1), by show r' - d + (k' + 1) * d = r; rw [Nat.add_mul]; omega⟩, aL.rfl, by show r' - d < r'; omega⟩
   have hdr : r' < d := by
    rcases Nat.lt_or_ge r' d with h | h
    ·exact h
    ·exact absurd ((hah r').2 h) (by assumption)
   obtain ⟨e1, e2⟩ := hfin r' k' hg hdr
   rw [← e1, ← e2]; exact aJ rfl
  refine vn (aE (by omega) (by omega)) rfl ?_
  dsimp only [aA, aB]
  refine aC (rM r ((bd d).length + 1) 4 hrl (by omega) (by omega) (by omega) (by omega)) rfl ?_
  dsimp only [aA, aB]
  refine aC (rM d (bd d).length 3 hdl (by omega) (by omega) (by omega) (by omega)) rfl ?_
  rw [show (bd d).length + 1 - 4 = (bd d).length - 3 by omega]
  have hd3 := rP (m := d) (long := (bd d).length) (i := 3) (by omega) hdl
  have hr4 := rP (m := r) (long := (bd d).length + 1) (i := 4) (by omega) hrl
  rw [show (bd d).length + 1 - 4 = (bd d).length - 3 by omega] at hr4
  have hp3 := EB (i := 3) (by omega)
  have hp4 := EB (i := 4) (by omega)
  have hk1 := IX (r := r) (d := d) (m := (bd d).length - 3)
  generalize r / 32768 ^ ((bd d).length - 3) = rt at *
  generalize d / 32768 ^ ((bd d).length - 3) = dt at *
  obtain ⟨k, hk⟩ : ∃ k, rt / (dt + 1) = k := ⟨_, rfl⟩
  rw [hk] at hk1
  have hk2 := hkd k hk1
  dsimp only [aA, aB]
  refine vn (aE (by omega) (by omega)) rfl ?_
  dsimp only [aA, aB]
  refine vn (nG (c := (k : Int)) (by omega) (by rw [Int.tdiv_eq_ediv_of_nonneg (lH _), show ((dt : Int) + 1) = ((dt + 1 : Nat) : Int) by omega, ← Int.natCast_ediv, hk]; exact cY (by omega) (by omega))) rfl ?_
  dsimp only [aA, aB]
  refine vn cT rfl ?_
  dsimp only [aA, aB]
  refine vs _ rfl (fun h38 => ?_) (fun h38 => ?_)
  ·have hm := iM (k : Int) (d : Int) (by
    rw [Int.natAbs_natCast, Int.natAbs_natCast]
    have : (bd k).length ≤ 1 := gB (by omega)
    omega)
   rw [DU hd, show (k : Int) * (d : Int) = ((k * d : Nat) : Int) by rw [Int.natCast_mul]] at hm
   refine aC (lL k (by omega) (by omega)) rfl ?_
   dsimp only [aA, aB]
   refine aC hm rfl ?_
   dsimp only [aA, aB]
   refine aC (gZ r (k * d) (r - k * d) (-1) (.inr rfl) (by omega) (by omega) (by have := hle _ hk1; omega)) rfl ?_
   dsimp only [aA, aB]
   refine aY {g : Nat × Nat // g.1 + g.2 * d = r} (fun g => [.one (bT g.1.1), .one (.int .i64 g.1.2)]) (fun g => g.1.1) ⟨(r - k * d, k), by show r - k * d + k * d = r; omega⟩ aL.rfl (fun _ => rfl) ?_
   rintro ⟨⟨r', k'⟩, hg⟩
   dsimp only [aA, aB] at hg ⊢
   have hk3 := hkd k' (by omega)
   have hr3 := hle r' (by omega)
   refine aC (mY r' d (by omega)) rfl ?_
   dsimp only [aA, aB]
   refine vn dU rfl ?_
   dsimp only [aA, aB]
   refine vs _ rfl (fun h45 => ?_) (fun h45 => ?_)
   ·have hdr : d ≤ r' := (hah r').1 (by assumption)
    refine aC (gZ r' d (r' - d) (-1) (.inr rfl) (by omega) (by omega) (by omega)) rfl ?_
    dsimp only [aA, aB]
    refine vn (aE (by omega) (by omega)) rfl ?_
    dsimp only [aA, aB]
    exact aO rfl ⟨⟨(r' - d, k' + 1), by show r' - d + (k' + 1) * d = r; rw [Nat.add_mul]; omega⟩, aL.rfl, by show r' - d < r'; omega⟩
   have hdr : r' < d := by
    rcases Nat.lt_or_ge r' d with h | h
    ·exact h
    ·exact absurd ((hah r').2 h) (by assumption)
   obtain ⟨e1, e2⟩ := hfin r' k' hg hdr
   rw [← e1, ← e2]; exact aJ rfl
  refine aY {g : Nat × Nat // g.1 + g.2 * d = r} (fun g => [.one (bT g.1.1), .one (.int .i64 g.1.2)]) (fun g => g.1.1) ⟨(r, 0), by omega⟩ ⟨aH.Sub.same, aH.Sub.of_eq (congrArg (fun q : Nat => aH.one (aF.int .i64 (q : Int))) (by show k = 0; omega)), trivial⟩ (fun _ => rfl) ?_
  rintro ⟨⟨r', k'⟩, hg⟩
  dsimp only [aA, aB] at hg ⊢
  have hk3 := hkd k' (by omega)
  have hr3 := hle r' (by omega)
  refine aC (mY r' d (by omega)) rfl ?_
  dsimp only [aA, aB]
  refine vn dU rfl ?_
  dsimp only [aA, aB]
  refine vs _ rfl (fun h53 => ?_) (fun h53 => ?_)
  ·have hdr : d ≤ r' := (hah r').1 (by assumption)
   refine aC (gZ r' d (r' - d) (-1) (.inr rfl) (by omega) (by omega) (by omega)) rfl ?_
   dsimp only [aA, aB]
   refine vn (aE (by omega) (by omega)) rfl ?_
   dsimp only [aA, aB]
   exact aO rfl ⟨⟨(r' - d, k' + 1), by show r' - d + (k' + 1) * d = r; rw [Nat.add_mul]; omega⟩, aL.rfl, by show r' - d < r'; omega⟩
  have hdr : r' < d := by
   rcases Nat.lt_or_ge r' d with h | h
   ·exact h
   ·exact absurd ((hah r').2 h) (by assumption)
  obtain ⟨e1, e2⟩ := hfin r' k' hg hdr
  rw [← e1, ← e2]; exact aJ rfl
 refine vn cT rfl ?_
 dsimp only [aA, aB]
 refine vs _ rfl (fun h59 => ?_) (fun h59 => ?_)
 ·exfalso; omega
 refine aY {g : Nat × Nat // g.1 + g.2 * d = r} (fun g => [.one (bT g.1.1), .one (.int .i64 g.1.2)]) (fun g => g.1.1) ⟨(r, 0), by omega⟩ aL.rfl (fun _ => rfl) ?_
 rintro ⟨⟨r', k'⟩, hg⟩
 dsimp only [aA, aB] at hg ⊢
 have hk3 := hkd k' (by omega)
 have hr3 := hle r' (by omega)
 refine aC (mY r' d (by omega)) rfl ?_
 dsimp only [aA, aB]
 refine vn dU rfl ?_
 dsimp only [aA, aB]
 refine vs _ rfl (fun h74 => ?_) (fun h74 => ?_)
 ·have hdr : d ≤ r' := (hah r').1 (by assumption)
  refine aC (gZ r' d (r' - d) (-1) (.inr rfl) (by omega) (by omega) (by omega)) rfl ?_
  dsimp only [aA, aB]
  refine vn (aE (by omega) (by omega)) rfl ?_
  dsimp only [aA, aB]
  exact aO rfl ⟨⟨(r' - d, k' + 1), by show r' - d + (k' + 1) * d = r; rw [Nat.add_mul]; omega⟩, aL.rfl, by show r' - d < r'; omega⟩
 have hdr : r' < d := by
  rcases Nat.lt_or_ge r' d with h | h
  ·exact h
  ·exact absurd ((hah r').2 h) (by assumption)
 obtain ⟨e1, e2⟩ := hfin r' k' hg hdr
 rw [← e1, ← e2]; exact aJ rfl
set_option maxHeartbeats 1000000 in
theorem gO (a d : Nat) (hd : 0 < d) (hs : (bd a).length + (bd d).length < 34359738368) : aN prog 213 [(.one (bT a) : aH), (.one (bT d) : aH)] (.ret [.one (bT (a / d)), .one (bT (a % d))]) := by
 refine aD (args := [.v none, .v none]) (ins := [.v (.one (bT a)), .v (.one (bT d))]) (hints := (fun _ => none)) fo (by kernel_rfl) func213 ⟨rfl, rfl, trivial⟩ ?_
 rw [Mt]
 dsimp only [List.map, In.env, aA, aB]
 have hdn : 0 < (bd d).length := by
  rcases Nat.eq_zero_or_pos (bd d).length with h | h
  ·have := xU.1 (List.eq_nil_of_length_eq_zero h); omega
  ·exact h
 refine vn (aK dG (List.length_map _)) rfl ?_
 dsimp only [aA, aB]
 refine vn (aK dG (List.length_map _)) rfl ?_
 dsimp only [aA, aB]
 refine vn aU rfl ?_
 dsimp only [aA, aB]
 refine vs _ rfl (fun h3 => ?_) (fun h3 => ?_)
 ·have had := qN (a := a) (b := d) (by omega)
  refine cS ⟨mN (Nat.div_eq_of_lt had), ?_, trivial⟩
  rw [Nat.mod_eq_of_lt had]; exact aF.Sub.same
 refine vn (aK dG (List.length_map _)) rfl ?_
 dsimp only [aA, aB]
 refine vn (aG (by omega) (by omega)) rfl ?_
 dsimp only [aA, aB]
 refine vn (LU (m := (bd d).length - 1) (by omega) (by omega) (by omega)) rfl ?_
 dsimp only [aA, aB]
 refine qY (ts := []) (us := rB ((bd a).take ((bd d).length - 1))) (vs := rB ((bd a).take ((bd d).length - 1))) rfl (.inr aF.Sub.same) rfl (by simp; omega) (by simp [maxLen]; omega) ?_
 dsimp only [aA, aB]
 refine aC (pI ((bd a).take ((bd d).length - 1)) ((fG a).take _) (by rw [List.length_take]; omega)) rfl ?_
 dsimp only [aA, aB]
 refine vn (aK dG (List.length_map _)) rfl ?_
 dsimp only [aA, aB]
 refine vn (aG (by omega) (by omega)) rfl ?_
 dsimp only [aA, aB]
 refine aY {g : Nat × Nat × List Nat // (bd d).length - 1 ≤ g.1 ∧ g.1 ≤ (bd a).length ∧ bv ((bd a).take g.1) = g.2.1 + d * bv g.2.2 ∧ g.2.1 < d ∧ DB 32768 g.2.2 ∧ g.2.2.length ≤ g.1} (fun g => [.one (bT g.1.2.1), .one (.int .i64 g.1.1), .rows (rB g.1.2.2)]) (fun g => (bd a).length - g.1.1) ⟨((bd d).length - 1, bv ((bd a).take ((bd d).length - 1)), []), Nat.le_refl _, by show (bd d).length - 1 ≤ _; omega, by simp [bv, val], by
  have h1 := BX ((fG a).take ((bd d).length - 1))
  rw [List.length_take, Nat.min_eq_left (by omega)] at h1
  exact Nat.lt_of_lt_of_le h1 (Vg (by omega)), JX, Nat.zero_le _⟩ ⟨aH.Sub.same, aH.Sub.of_eq (congrArg (fun q => aH.one (aF.int .i64 q)) (by show ((bd d).length : Int) - 1 = (((bd d).length - 1 : Nat) : Int); omega)), aH.Sub.same, trivial⟩ (fun _ => rfl) ?_
 rintro ⟨⟨i, R, qs⟩, hi1, hi2, hv, hR, hq, hql⟩
 dsimp only [aA, aB] at hi1 hi2 hv hR hq hql ⊢
 have hRl := dJ (Nat.le_of_lt hR)
 refine vn (aK dG (List.length_map _)) rfl ?_
 dsimp only [aA, aB]
 refine vn aU rfl ?_
 dsimp only [aA, aB]
 refine vs _ rfl (fun h15 => ?_) (fun h15 => ?_)
 ·obtain ⟨x, hx⟩ : ∃ x, (bd a)[i]? = some x := ⟨_, List.getElem?_eq_getElem (by omega)⟩
  have hxB := (fG a).get hx
  refine qY (ts := []) (us := rB (bd R)) (vs := rB (bd R)) rfl (.inr aF.Sub.same) rfl (by simp; omega) (by simp [maxLen]; omega) ?_
  dsimp only [aA, aB]
  refine vn (aR dG (by omega) (by omega) hx) rfl ?_
  dsimp only [aA, aB]
  refine vn (bA HV) rfl ?_
  dsimp only [aA, aB]
  refine bC (us := rB [x]) rfl ?_
  dsimp only [aA, aB]
  refine qY (ts := rB (bd R)) (us := rB [x]) (vs := rB (bd R ++ [x])) rfl rfl (by rw [rB, rB, rB, ← List.map_append]) (by simp; omega) (by simp [maxLen]; omega) ?_
  dsimp only [aA, aB]
  have hdb : DB 32768 (bd R ++ [x]) := (fG R).append (fun y hy => by simp at hy; omega)
  refine aC (pI (bd R ++ [x]) hdb (by simp; omega)) rfl ?_
  rw [vS, eB]
  dsimp only [aA, aB]
  refine aC (IH (R * 32768 + x) d hd (by
   have : (R + 1) * 32768 ≤ d * 32768 := Nat.mul_le_mul_right _ hR
   omega) (by omega)) rfl ?_
  have hmd := Nat.mod_add_div (R * 32768 + x) d
  have hqB : (R * 32768 + x) / d < 32768 := by
   rw [Nat.div_lt_iff_lt_mul hd, Nat.mul_comm]
   have : (R + 1) * 32768 ≤ d * 32768 := Nat.mul_le_mul_right _ hR
   omega
  have hRm := Nat.mod_lt (R * 32768 + x) hd
  generalize (R * 32768 + x) / d = k at *
  generalize (R * 32768 + x) % d = R' at *
  dsimp only [aA, aB]
  refine bC (us := rB [k]) rfl ?_
  dsimp only [aA, aB]
  refine qY (ts := rB qs) (us := rB [k]) (vs := rB (qs ++ [k])) rfl rfl (by rw [rB, rB, rB, ← List.map_append]) (by simp; omega) (by simp [maxLen]; omega) ?_
  dsimp only [aA, aB]
  refine vn (aE (by omega) (by omega)) rfl ?_
  dsimp only [aA, aB]
  exact aO rfl ⟨⟨(i + 1, R', qs ++ [k]), by show _ ≤ i + 1; omega, by show i + 1 ≤ _; omega, by
   show bv ((bd a).take (i + 1)) = R' + d * bv (qs ++ [k])
   rw [take_succ hx, vS, vS, hv, Nat.mul_add, Nat.add_mul, ← Nat.mul_assoc]
   omega, hRm, hq.append (fun y hy => by simp at hy; omega), by show (qs ++ [k]).length ≤ i + 1; simp; omega⟩, aL.rfl, by show (bd a).length - (i + 1) < (bd a).length - i; omega⟩
 have hie : i = (bd a).length := by omega
 subst hie
 rw [List.take_length, eB] at hv
 obtain ⟨e1, e2⟩ := tG hv hR
 refine aC (pI qs hq (by omega)) rfl ?_
 dsimp only [aA, aB]
 rw [← e1, ← e2]; exact aJ rfl
theorem xZ (m : Nat) (hm : (bd m).length ≤ 4) : aN prog 257 [(.one (bT m) : aH)] (.ret [.one (.int .i64 m)]) := by
 refine aD (args := [.v none]) (ins := [.v (.one (bT m))]) (hints := (fun _ => none)) fo (by kernel_rfl) func257 ⟨rfl, trivial⟩ ?_
 rw [Ji]
 dsimp only [List.map, In.env, aA, aB]
 refine aY {i : Nat // i ≤ (bd m).length} (fun g => [.one (.int .i64 (bv ((bd m).take g.1) : Nat)), .one (.int .i64 g.1)]) (fun g => (bd m).length - g.1) ⟨0, Nat.zero_le _⟩ aL.rfl (fun _ => rfl) ?_
 rintro ⟨i, hi⟩
 dsimp only [aA, aB] at hi ⊢
 refine vn (aK dG (List.length_map _)) rfl ?_
 dsimp only [aA, aB]
 refine vn aU rfl ?_
 dsimp only [aA, aB]
 refine vs _ rfl (fun h3 => ?_) (fun h3 => ?_)
 ·obtain ⟨x, hx⟩ : ∃ x, (bd m)[i]? = some x := ⟨_, List.getElem?_eq_getElem (by omega)⟩
  have hxB := (fG m).get hx
  have hb := BX ((fG m).take i)
  rw [List.length_take, Nat.min_eq_left hi] at hb
  have hp := EB (i := i) (by omega)
  have hb2 := BX ((fG m).take (i + 1))
  rw [List.length_take, Nat.min_eq_left (by omega)] at hb2
  have hp2 := EB (i := i + 1) (by omega)
  have hsn : bv ((bd m).take (i + 1)) = bv ((bd m).take i) * 32768 + x := by rw [take_succ hx, vS]
  generalize bv ((bd m).take i) = y at *
  refine vn (nD (by omega) (by omega)) rfl ?_
  dsimp only [aA, aB]
  refine vn (aR dG (by omega) (by omega) hx) rfl ?_
  dsimp only [aA, aB]
  refine vn (bA HV) rfl ?_
  dsimp only [aA, aB]
  refine vn (aE (by omega) (by omega)) rfl ?_
  dsimp only [aA, aB]
  refine vn (aE (by omega) (by omega)) rfl ?_
  dsimp only [aA, aB]
  exact aO rfl ⟨⟨i + 1, by omega⟩, ⟨aH.Sub.of_eq (congrArg (fun q : Int => aH.one (aF.int .i64 q)) (by show (y : Int) * 32768 + x = ((bv ((bd m).take (i + 1)) : Nat) : Int); omega)), aH.Sub.same, trivial⟩, by show (bd m).length - (i + 1) < (bd m).length - i; omega⟩
 rw [show i = (bd m).length by omega, List.take_length, eB]; exact aJ rfl
set_option maxHeartbeats 1000000 in
theorem FZ (x y : Int) (hs : (bd x.natAbs).length < 17179869184) (hs2 : (bd y.natAbs).length < 17179869184) : aN prog 212 [(zT x : aH), (zT y : aH)] (.ret [zT ((Nat.gcd x.natAbs y.natAbs : Nat) : Int)]) := by
 refine aD (args := [.v (some 2), .v (some 2)]) (ins := [.v (zT x), .v (zT y)]) (hints := (fun _ => none)) fo (by kernel_rfl) func212 ⟨rfl, rfl, trivial⟩ ?_
 rw [Nh]
 dsimp only [List.map, In.env, aA, aB]
 refine aY {p : Nat × Nat // Nat.gcd p.1 p.2 = Nat.gcd x.natAbs y.natAbs ∧ (bd p.1).length < 17179869184 ∧ (bd p.2).length < 17179869184} (fun p => [.one (bT p.1.1), .one (bT p.1.2), .one (.int .i64 0), .one (.exact (.slice none 0 0))]) (fun p => p.1.2) ⟨(x.natAbs, y.natAbs), rfl, hs, hs2⟩ aL.rfl (fun _ => rfl) ?_
 rintro ⟨⟨a, b⟩, hg, ha, hb⟩
 dsimp only [aA, aB] at hg ha hb ⊢
 have hbz : (bd b).length = 0 ↔ b = 0 := by rw [List.length_eq_zero_iff, xU]
 have hml := dJ (Nat.mod_le a b)
 refine vn (aK dG (List.length_map _)) rfl ?_
 dsimp only [aA, aB]
 refine vn cT rfl ?_
 dsimp only [aA, aB]
 refine vs _ rfl (fun h3 => ?_) (fun h3 => ?_)
 ·have hb0 : 0 < b := by
   rcases Nat.eq_zero_or_pos b with h | h
   ·have := hbz.2 h; omega
   ·exact h
  refine vn (aK dG (List.length_map _)) rfl ?_
  dsimp only [aA, aB]
  refine vn jA rfl ?_
  dsimp only [aA, aB]
  refine vs _ rfl (fun h6 => ?_) (fun h6 => ?_)
  ·refine vn (aK dG (List.length_map _)) rfl ?_
   dsimp only [aA, aB]
   refine vn jA rfl ?_
   dsimp only [aA, aB]
   refine vs _ rfl (fun h9 => ?_) (fun h9 => ?_)
   ·have h4 : ∀ n, (bd n).length ≤ 4 → n < 1152921504606846976 := fun n hn => Nat.lt_of_lt_of_le (xO n) (EB hn)
    have ha4 := h4 a (by omega)
    have hb4 := h4 b (by omega)
    refine aC (xZ a (by omega)) rfl ?_
    dsimp only [aA, aB]
    refine aC (xZ b (by omega)) rfl ?_
    dsimp only [aA, aB]
    refine aY {p : Nat × Nat // Nat.gcd p.1 p.2 = Nat.gcd x.natAbs y.natAbs ∧ p.1 < 1152921504606846976 ∧ p.2 < 1152921504606846976} (fun p => [.one (.int .i64 p.1.1), .one (.int .i64 p.1.2)]) (fun p => p.1.2) ⟨(a, b), hg, ha4, hb4⟩ aL.rfl (fun _ => rfl) ?_
    rintro ⟨⟨p, q⟩, hpq, hp, hq⟩
    dsimp only [aA, aB] at hpq hp hq ⊢
    refine vn jC rfl ?_
    dsimp only [aA, aB]
    refine vs _ rfl (fun h14 => ?_) (fun h14 => ?_)
    ·refine vn (xV (c := ((p % q : Nat) : Int)) (by omega) (by rw [Int.tmod_eq_emod_of_nonneg (lH _), ← Int.natCast_emod])) rfl ?_
     dsimp only [aA, aB]
     exact aO rfl ⟨⟨(q, p % q), by rw [← hpq, Nat.gcd_comm p q, Nat.gcd_rec q p, Nat.gcd_comm], hq, Nat.lt_of_le_of_lt (Nat.mod_le _ _) hp⟩, aL.rfl, Nat.mod_lt _ (by omega)⟩
    have hq0 : q = 0 := by omega
    subst hq0
    rw [Nat.gcd_zero_right] at hpq
    refine aC (lL p (by omega) (by omega)) rfl ?_
    dsimp only [aA, aB]
    rw [← hpq]; exact aJ rfl
   refine aC (gO a b hb0 (by omega)) rfl ?_
   dsimp only [aA, aB]
   exact aO rfl ⟨⟨(b, a % b), by rw [← hg, Nat.gcd_comm a b, Nat.gcd_rec b a, Nat.gcd_comm], hb, by show (bd (a % b)).length < _; omega⟩, aL.rfl, Nat.mod_lt _ hb0⟩
  refine aC (gO a b hb0 (by omega)) rfl ?_
  dsimp only [aA, aB]
  exact aO rfl ⟨⟨(b, a % b), by rw [← hg, Nat.gcd_comm a b, Nat.gcd_rec b a, Nat.gcd_comm], hb, by show (bd (a % b)).length < _; omega⟩, aL.rfl, Nat.mod_lt _ hb0⟩
 have hb0 : b = 0 := hbz.1 (by omega)
 subst hb0
 rw [Nat.gcd_zero_right] at hg
 refine aC (eF 1 (a : Int) (bd a) (fG _) (by omega) (by rw [eB]; rfl) (fun hne => by rw [eB] at hne; exact Int.sign_eq_one_of_pos (by omega))) rfl ?_
 dsimp only [aA, aB]
 rw [← hg]; exact aJ rfl
end Go.Sy
namespace Go.Sy
open Go Go.Proofs Tryz Ord
def Xg : Tr := .need (.prim [(W 0 2), (WK (0))] none) (.binOp .eql 3 (.tmp 5) (.const (I3 (0))) 3) 4 false (.split (.u 1 0) (.need (.call 139 [(WK (1))] [(some 2)]) (.call ⟨.value (.func 139), #[(.const (I3 (1)))], #[2]⟩) 47 true (.ret [(.agg [(U 2 0), (U 2 1)])])) (.ret [(.agg [(U 0 2), (U 0 3)])]))
theorem RG : aM prog f136 (fun _ => none) [.v (some 4)] = Xg := by kernel_rfl
def QG : Tr := .need (.prim [(W 9 0), (WK (1))] none) (.binOp .eql 3 (.tmp 28) (.const (I3 (1))) 3) 4 false (.split (.u 10 0) (.ret [(.agg [(U 3 0), (U 3 1), (U 4 0), (U 4 1)])]) (.need (.call 213 [(W 3 1), (W 5 1)] [none, none]) (.call ⟨.value (.func 213), #[(.tmp 36), (.tmp 38)], #[45, 45]⟩) 269 false (.need (.call 213 [(W 4 1), (W 5 1)] [none, none]) (.call ⟨.value (.func 213), #[(.tmp 44), (.tmp 46)], #[45, 45]⟩) 269 false (.need (.call 211 [(W 3 0), (W 11 0)] [(some 2)]) (.call ⟨.value (.func 211), #[(.tmp 51), (.tmp 52)], #[3, 45]⟩) 47 false (.need (.call 211 [(WK (1)), (W 13 0)] [(some 2)]) (.call ⟨.value (.func 211), #[(.const (I3 (1))), (.tmp 54)], #[3, 45]⟩) 47 true (.ret [(.agg [(U 15 0), (U 15 1), (U 16 0), (U 16 1)])]))))))
def Ve : Tr := .need (.prim [(W 6 0), (WK (1))] none) (.binOp .eql 3 (.tmp 22) (.const (I3 (1))) 3) 4 false (.split (.u 7 0) (.need (.prim [(W 5 1), (WK (0))] none) (.indexAddr 45 (.tmp 26) (.const (I3 (0)))) 0 false (.need (.prim [(W 8 0)] none) (.load 3 (.tmp 27)) 3 false QG)) (.need (.call 213 [(W 3 1), (W 5 1)] [none, none]) (.call ⟨.value (.func 213), #[(.tmp 36), (.tmp 38)], #[45, 45]⟩) 269 false (.need (.call 213 [(W 4 1), (W 5 1)] [none, none]) (.call ⟨.value (.func 213), #[(.tmp 44), (.tmp 46)], #[45, 45]⟩) 269 false (.need (.call 211 [(W 3 0), (W 8 0)] [(some 2)]) (.call ⟨.value (.func 211), #[(.tmp 51), (.tmp 52)], #[3, 45]⟩) 47 false (.need (.call 211 [(WK (1)), (W 10 0)] [(some 2)]) (.call ⟨.value (.func 211), #[(.const (I3 (1))), (.tmp 54)], #[3, 45]⟩) 47 true (.ret [(.agg [(U 12 0), (U 12 1), (U 13 0), (U 13 1)])]))))))
def Rd : Tr := .need (.prim [(W 7 0), (WK (1))] none) (.binOp .eql 3 (.tmp 28) (.const (I3 (1))) 3) 4 false (.split (.u 8 0) (.ret [(.agg [(U 0 0), (U 0 1), (U 1 0), (U 1 1)])]) (.need (.call 213 [(W 0 1), (W 3 1)] [none, none]) (.call ⟨.value (.func 213), #[(.tmp 36), (.tmp 38)], #[45, 45]⟩) 269 false (.need (.call 213 [(W 1 1), (W 3 1)] [none, none]) (.call ⟨.value (.func 213), #[(.tmp 44), (.tmp 46)], #[45, 45]⟩) 269 false (.need (.call 211 [(W 0 0), (W 9 0)] [(some 2)]) (.call ⟨.value (.func 211), #[(.tmp 51), (.tmp 52)], #[3, 45]⟩) 47 false (.need (.call 211 [(WK (1)), (W 11 0)] [(some 2)]) (.call ⟨.value (.func 211), #[(.const (I3 (1))), (.tmp 54)], #[3, 45]⟩) 47 true (.ret [(.agg [(U 13 0), (U 13 1), (U 14 0), (U 14 1)])]))))))
def RI : Tr := .need (.prim [(W 4 0), (WK (1))] none) (.binOp .eql 3 (.tmp 22) (.const (I3 (1))) 3) 4 false (.split (.u 5 0) (.need (.prim [(W 3 1), (WK (0))] none) (.indexAddr 45 (.tmp 26) (.const (I3 (0)))) 0 false (.need (.prim [(W 6 0)] none) (.load 3 (.tmp 27)) 3 false Rd)) (.need (.call 213 [(W 0 1), (W 3 1)] [none, none]) (.call ⟨.value (.func 213), #[(.tmp 36), (.tmp 38)], #[45, 45]⟩) 269 false (.need (.call 213 [(W 1 1), (W 3 1)] [none, none]) (.call ⟨.value (.func 213), #[(.tmp 44), (.tmp 46)], #[45, 45]⟩) 269 false (.need (.call 211 [(W 0 0), (W 6 0)] [(some 2)]) (.call ⟨.value (.func 211), #[(.tmp 51), (.tmp 52)], #[3, 45]⟩) 47 false (.need (.call 211 [(WK (1)), (W 8 0)] [(some 2)]) (.call ⟨.value (.func 211), #[(.const (I3 (1))), (.tmp 54)], #[3, 45]⟩) 47 true (.ret [(.agg [(U 10 0), (U 10 1), (U 11 0), (U 11 1)])]))))))
def Xh : Tr := .need (.prim [(W 1 0), (WK (0))] none) (.binOp .lss 3 (.tmp 11) (.const (I3 (0))) 3) 4 false (.split (.u 2 0) (.need (.call 183 [(.agg [(U 0 0), (U 0 1)])] [(some 2)]) (.call ⟨.value (.func 183), #[(.tmp 13)], #[47]⟩) 47 false (.need (.call 183 [(.agg [(U 1 0), (U 1 1)])] [(some 2)]) (.call ⟨.value (.func 183), #[(.tmp 15)], #[47]⟩) 47 true (.need (.call 212 [(.agg [(U 3 0), (U 3 1)]), (.agg [(U 4 0), (U 4 1)])] [(some 2)]) (.call ⟨.value (.func 212), #[(.tmp 17), (.tmp 18)], #[47, 47]⟩) 47 true (.need (.prim [(W 5 1)] none) (.call ⟨.builtin .len, #[(.tmp 21)], #[45]⟩) 3 false Ve)))) (.need (.call 212 [(.agg [(U 0 0), (U 0 1)]), (.agg [(U 1 0), (U 1 1)])] [(some 2)]) (.call ⟨.value (.func 212), #[(.tmp 17), (.tmp 18)], #[47, 47]⟩) 47 true (.need (.prim [(W 3 1)] none) (.call ⟨.builtin .len, #[(.tmp 21)], #[45]⟩) 3 false RI)))
theorem KA : aM prog f137 (fun _ => none) [.v (some 2), .v (some 2)] = Xh := by kernel_rfl
def PG : Tr := .ret [(.agg [(U 1 0), (U 1 1), (U 2 0), (U 2 1)])]
def WW : Tr := .need (.call 139 [(W 0 0)] [(some 2)]) (.call ⟨.value (.func 139), #[(.tmp 3)], #[2]⟩) 47 true (.need (.call 139 [(WK (1))] [(some 2)]) (.call ⟨.value (.func 139), #[(.const (I3 (1)))], #[2]⟩) 47 true PG)
theorem Rx : aM prog f50 (fun _ => none) [.v none] = WW := by kernel_rfl
def Xo : Tr := .need (.call 139 [(W 0 0)] [(some 2)]) (.call ⟨.value (.func 139), #[(.tmp 5)], #[2]⟩) 47 false (.need (.call 139 [(W 1 0)] [(some 2)]) (.call ⟨.value (.func 139), #[(.tmp 7)], #[2]⟩) 47 true (.need (.call 137 [(.agg [(U 2 0), (U 2 1)]), (.agg [(U 3 0), (U 3 1)])] [(some 4)]) (.call ⟨.value (.func 137), #[(.tmp 6), (.tmp 8)], #[47, 47]⟩) 49 true (.ret [(.agg [(U 4 0), (U 4 1), (U 4 2), (U 4 3)])])))
theorem Ww : aM prog f79 (fun _ => none) [.v none, .v none] = Xo := by kernel_rfl
def UP : Tr := .need (.call 135 [(.agg [(U 1 0), (U 1 1)]), (.agg [(U 4 0), (U 4 1)])] [(some 2)]) (.call ⟨.value (.func 135), #[(.tmp 11), (.tmp 13)], #[47, 47]⟩) 47 false (.need (.call 138 [(.agg [(U 3 0), (U 3 1)]), (.agg [(U 5 0), (U 5 1)])] [(some 2)]) (.call ⟨.value (.func 138), #[(.tmp 9), (.tmp 14)], #[47, 47]⟩) 47 false (.need (.call 136 [(.agg [(U 0 0), (U 0 1), (U 0 2), (U 0 3)])] [(some 2)]) (.call ⟨.value (.func 136), #[(.tmp 16)], #[49]⟩) 47 false (.need (.call 136 [(.agg [(U 1 0), (U 1 1), (U 1 2), (U 1 3)])] [(some 2)]) (.call ⟨.value (.func 136), #[(.tmp 18)], #[49]⟩) 47 false (.need (.call 135 [(.agg [(U 7 0), (U 7 1)]), (.agg [(U 8 0), (U 8 1)])] [(some 2)]) (.call ⟨.value (.func 135), #[(.tmp 17), (.tmp 19)], #[47, 47]⟩) 47 true (.need (.call 137 [(.agg [(U 6 0), (U 6 1)]), (.agg [(U 9 0), (U 9 1)])] [(some 4)]) (.call ⟨.value (.func 137), #[(.tmp 15), (.tmp 20)], #[47, 47]⟩) 49 true (.ret [(.agg [(U 10 0), (U 10 1), (U 10 2), (U 10 3)])]))))))
def Uv : Tr := .need (.call 136 [(.agg [(U 1 0), (U 1 1), (U 1 2), (U 1 3)])] [(some 2)]) (.call ⟨.value (.func 136), #[(.tmp 7)], #[49]⟩) 47 false (.need (.call 135 [(.agg [(U 0 0), (U 0 1)]), (.agg [(U 2 0), (U 2 1)])] [(some 2)]) (.call ⟨.value (.func 135), #[(.tmp 6), (.tmp 8)], #[47, 47]⟩) 47 false (.need (.call 136 [(.agg [(U 0 0), (U 0 1), (U 0 2), (U 0 3)])] [(some 2)]) (.call ⟨.value (.func 136), #[(.tmp 12)], #[49]⟩) 47 false UP))
theorem SP : aM prog f48 (fun _ => none) [.v (some 4), .v (some 4)] = Uv := by kernel_rfl
def Pn : Tr := .ret [(.agg [(U 6 0), (U 6 1), (U 6 2), (U 6 3)])]
def Ws : Tr := .need (.call 135 [(.agg [(U 0 0), (U 0 1)]), (.agg [(U 1 0), (U 1 1)])] [(some 2)]) (.call ⟨.value (.func 135), #[(.tmp 6), (.tmp 8)], #[47, 47]⟩) 47 false (.need (.call 136 [(.agg [(U 0 0), (U 0 1), (U 0 2), (U 0 3)])] [(some 2)]) (.call ⟨.value (.func 136), #[(.tmp 10)], #[49]⟩) 47 false (.need (.call 136 [(.agg [(U 1 0), (U 1 1), (U 1 2), (U 1 3)])] [(some 2)]) (.call ⟨.value (.func 136), #[(.tmp 12)], #[49]⟩) 47 false (.need (.call 135 [(.agg [(U 3 0), (U 3 1)]), (.agg [(U 4 0), (U 4 1)])] [(some 2)]) (.call ⟨.value (.func 135), #[(.tmp 11), (.tmp 13)], #[47, 47]⟩) 47 true (.need (.call 137 [(.agg [(U 2 0), (U 2 1)]), (.agg [(U 5 0), (U 5 1)])] [(some 4)]) (.call ⟨.value (.func 137), #[(.tmp 9), (.tmp 14)], #[47, 47]⟩) 49 true Pn))))
theorem SN : aM prog f104 (fun _ => none) [.v (some 4), .v (some 4)] = Ws := by kernel_rfl
def Vl : Tr := .need (.call 136 [(.agg [(U 1 0), (U 1 1), (U 1 2), (U 1 3)])] [(some 2)]) (.call ⟨.value (.func 136), #[(.tmp 7)], #[49]⟩) 47 false (.need (.call 135 [(.agg [(U 0 0), (U 0 1)]), (.agg [(U 2 0), (U 2 1)])] [(some 2)]) (.call ⟨.value (.func 135), #[(.tmp 6), (.tmp 8)], #[47, 47]⟩) 47 false (.need (.call 136 [(.agg [(U 0 0), (U 0 1), (U 0 2), (U 0 3)])] [(some 2)]) (.call ⟨.value (.func 136), #[(.tmp 10)], #[49]⟩) 47 false (.need (.call 135 [(.agg [(U 4 0), (U 4 1)]), (.agg [(U 1 0), (U 1 1)])] [(some 2)]) (.call ⟨.value (.func 135), #[(.tmp 11), (.tmp 13)], #[47, 47]⟩) 47 true (.need (.call 137 [(.agg [(U 3 0), (U 3 1)]), (.agg [(U 5 0), (U 5 1)])] [(some 4)]) (.call ⟨.value (.func 137), #[(.tmp 9), (.tmp 14)], #[47, 47]⟩) 49 true Pn))))
theorem QA : aM prog f102 (fun _ => none) [.v (some 4), .v (some 4)] = Vl := by kernel_rfl
def VY : Tr := .need (.call 183 [(.agg [(U 0 0), (U 0 1)])] [(some 2)]) (.call ⟨.value (.func 183), #[(.tmp 4)], #[47]⟩) 47 false (.need (.call 136 [(.agg [(U 0 0), (U 0 1), (U 0 2), (U 0 3)])] [(some 2)]) (.call ⟨.value (.func 136), #[(.tmp 6)], #[49]⟩) 47 true PG)
theorem Qy : aM prog f105 (fun _ => none) [.v (some 4)] = VY := by kernel_rfl
def XL : Tr := .ret [(W 0 0)]
theorem Mm : aM prog f46 (fun _ => none) [.v (some 4)] = XL := by kernel_rfl
structure RQ where
 q : Rat
 z : Bool
 h : z = true → q = 0
def RQ.of (q : Rat) : RQ := ⟨q, false, fun h => by cases h⟩
def RQ.nil : RQ := ⟨0, true, fun _ => rfl⟩
abbrev rC (a : RQ) : List aF := [.int .i64 a.q.num.sign, bT a.q.num.natAbs, .int .i64 (if a.z then 0 else 1), bT (if a.z then 0 else a.q.den)]
abbrev lI (a : RQ) : aH := .agg (rC a)
theorem RQ.Hq (q : Rat) : (RQ.of q).q = q := rfl
theorem SH (q : Rat) : zT (q.den : Int) = .agg [.int .i64 1, bT q.den] := DU q.den_pos
theorem Dd : aP aF.Sub [.int .i64 0, .exact (.slice none 0 0), .int .i64 0, .exact (.slice none 0 0)] (rC RQ.nil) := ⟨aF.Sub.same, mN rfl, aF.Sub.same, mN rfl, trivial⟩
theorem jG (a : RQ) : aN prog 136 [(lI a : aH)] (.ret [zT (a.q.den : Int)]) := by
 refine aD (args := [.v (some 4)]) (ins := [.v (lI a)]) (hints := (fun _ => none)) fo (by kernel_rfl) func136 ⟨rfl, trivial⟩ ?_
 rw [RG]
 dsimp only [List.map, In.env, aA, aB]
 refine vn aX rfl ?_
 dsimp only [aA, aB]
 refine vs _ rfl (fun h1 => ?_) (fun h1 => ?_)
 ·have ha : a.z = true := by cases h : a.z <;> simp_all
  have hq := a.h ha
  refine aC (lL 1 (by omega) (by omega)) rfl ?_
  dsimp only [aA, aB]
  rw [hq]; exact aJ rfl
 have ha : a.z = false := by cases h : a.z <;> simp_all
 refine aJ ?_
 rw [SH]
 show [aH.agg [.int .i64 (if a.z then 0 else 1), bT (if a.z then 0 else a.q.den)]] = _
 rw [ha]; rfl
theorem fC {n B : Nat} (h : n < 2 ^ B) : (bd n).length ≤ B := gB (Nat.lt_of_lt_of_le h (Nat.pow_le_pow_left (by omega) B))
def qB (n d : Int) : Rat := mkRat (if d < 0 then -n else n) d.natAbs
theorem Oc {z : Int} {d : Nat} (hd : d ≠ 0) : (mkRat z d).num = z / ((z.natAbs.gcd d : Nat) : Int) ∧ (mkRat z d).den = d / z.natAbs.gcd d ∧ (mkRat z d).num.natAbs = z.natAbs / z.natAbs.gcd d ∧ (mkRat z d).num.sign = z.sign := by
 obtain ⟨h1, h2⟩ := JA (z := z) hd
 have hg : 0 < z.natAbs.gcd d := Nat.gcd_pos_of_pos_right _ (by omega)
 have hgz : z ≠ 0 → z.natAbs.gcd d ≤ z.natAbs := fun h => Nat.gcd_le_left _ (by omega)
 have h3 : (mkRat z d).num.natAbs = z.natAbs / z.natAbs.gcd d := by
  rw [h1]
  generalize z.natAbs / z.natAbs.gcd d = t
  split <;> omega
 refine ⟨?_, h2, h3, ?_⟩
 ·rw [← Rat.normalize_eq_mkRat hd, Rat.normalize_eq hd]
 ·rcases bP z with ⟨h, e⟩ | ⟨h, e⟩ | ⟨h, e⟩
  ·rw [e, h1, decide_eq_true h, if_pos rfl]
   have := Nat.div_pos (hgz (by omega)) hg
   exact Int.sign_eq_neg_one_of_neg (by omega)
  ·rw [e]; subst h; rw [Rat.zero_mkRat]; rfl
  ·rw [e, h1, decide_eq_false (by omega), if_neg (by simp)]
   have := Nat.div_pos (hgz (by omega)) hg
   exact Int.sign_eq_one_of_pos (by omega)
theorem rG {g : Nat} (h : (bd g).length = 1) {x : Nat} (hx : (bd g)[0]? = some x) : g = x := by
 match hb : bd g, h with
 | [y], _ =>
   rw [hb] at hx
   simp only [List.getElem?_cons_zero, Option.some.injEq] at hx
   subst hx
   rw [← eB g, hb, vQ]; simp [bv, val]
theorem uP {q : Rat} : lI (RQ.of q) = .agg [.int .i64 q.num.sign, bT q.num.natAbs, .int .i64 1, bT q.den] := rfl
set_option maxHeartbeats 1000000 in
theorem rH (n d : Int) (hd : d ≠ 0) (hs : (bd n.natAbs).length < 8589934592) (hs2 : (bd d.natAbs).length < 8589934592) : aN prog 137 [(zT n : aH), (zT d : aH)] (.ret [lI (.of (qB n d))]) := by
 refine aD (args := [.v (some 2), .v (some 2)]) (ins := [.v (zT n), .v (zT d)]) (hints := (fun _ => none)) fo (by kernel_rfl) func137 ⟨rfl, rfl, trivial⟩ ?_
 rw [KA]
 dsimp only [List.map, In.env, aA, aB]
 have hsd := bP d
 have key : ∀ m : Int, m.natAbs = n.natAbs → qB n d = mkRat m d.natAbs → (qB n d).den = d.natAbs / Nat.gcd n.natAbs d.natAbs ∧ (qB n d).num.natAbs = n.natAbs / Nat.gcd n.natAbs d.natAbs ∧ (qB n d).num.sign = m.sign := fun m hm e => by
  have := Oc (z := m) (d := d.natAbs) (by omega)
  rw [hm] at this
  rw [e]; exact ⟨this.2.1, this.2.2.1, this.2.2.2⟩
 have hg : 0 < Nat.gcd n.natAbs d.natAbs := Nat.gcd_pos_of_pos_right _ (by omega)
 have hgd : Nat.gcd n.natAbs d.natAbs ≤ d.natAbs := Nat.gcd_le_right _ (by omega)
 have hgl := dJ hgd
 have hdg := Nat.div_pos hgd hg
 have hnl := dJ (Nat.div_le_self n.natAbs (Nat.gcd n.natAbs d.natAbs))
 have hdl := dJ (Nat.div_le_self d.natAbs (Nat.gcd n.natAbs d.natAbs))
 refine vn aU rfl ?_
 dsimp only [aA, aB]
 refine vs _ rfl (fun h1 => ?_) (fun h1 => ?_)
 ·have hd0 : d < 0 := by rcases hsd with ⟨h, e⟩ | ⟨h, e⟩ | ⟨h, e⟩ <;> omega
  have hR : qB n d = mkRat (-n) d.natAbs := by rw [qB, if_pos hd0]
  obtain ⟨k1, k2, k3⟩ := key (-n) (Int.natAbs_neg n) hR
  generalize qB n d = q at *
  refine aC (BC n) rfl ?_
  dsimp only [aA, aB]
  refine aC (BC d) rfl ?_
  dsimp only [aA, aB]
  have hc := FZ (-n) (-d) (by rw [Int.natAbs_neg]; omega) (by rw [Int.natAbs_neg]; omega)
  rw [Int.natAbs_neg, Int.natAbs_neg] at hc
  refine aC hc rfl ?_
  generalize hG : Nat.gcd n.natAbs d.natAbs = g at *
  dsimp only [aA, aB]
  refine vn (aK dG (List.length_map _)) rfl ?_
  dsimp only [aA, aB]
  refine vn aX rfl ?_
  dsimp only [aA, aB]
  refine vs _ rfl (fun h7 => ?_) (fun h7 => ?_)
  ·obtain ⟨x, hx⟩ : ∃ x, (bd g)[0]? = some x := ⟨_, List.getElem?_eq_getElem (by rw [Int.natAbs_natCast] at h7; omega)⟩
   refine vn (aR dG (by omega) (by omega) (show (bd ((g : Int)).natAbs)[0]? = some x from hx)) rfl ?_
   dsimp only [aA, aB]
   refine vn (bA HV) rfl ?_
   dsimp only [aA, aB]
   refine vn aX rfl ?_
   dsimp only [aA, aB]
   refine vs _ rfl (fun h11 => ?_) (fun h11 => ?_)
   ·have hg1 : g = 1 := by
     have := rG (g := g) (by rw [Int.natAbs_natCast] at h7; omega) hx
     omega
    rw [hg1, Nat.div_one] at k1 k2
    refine aJ ?_
    rw [uP, k3, k2, k1]
    show [aH.agg [.int .i64 (-n).sign, bT (-n).natAbs, .int .i64 (-d).sign, bT (-d).natAbs]] = _
    rw [Int.natAbs_neg, Int.natAbs_neg, Int.sign_eq_one_of_pos (show 0 < -d by omega)]
   have ho1 := gO n.natAbs g hg (by omega)
   have ho2 := gO d.natAbs g hg (by omega)
   rw [← k2] at ho1 hnl
   rw [← k1] at ho2 hdl hdg
   have hn' : (-n).natAbs = n.natAbs := Int.natAbs_neg n
   have hd' : (-d).natAbs = d.natAbs := Int.natAbs_neg d
   rw [← hn'] at ho1
   rw [← hd'] at ho2
   refine aC ho1 rfl ?_
   dsimp only [aA, aB]
   refine aC ho2 rfl ?_
   dsimp only [aA, aB]
   refine aC (eF (-n).sign q.num _ (fG _) (by omega) (by rw [eB]) (fun _ => k3)) rfl ?_
   dsimp only [aA, aB]
   refine aC (eF 1 (q.den : Int) _ (fG _) (by omega) (by rw [eB]; rfl) (fun _ => Int.sign_eq_one_of_pos (by omega))) rfl ?_
   dsimp only [aA, aB]
   refine aJ ?_
   rw [uP]
   show [aH.agg [.int .i64 q.num.sign, bT q.num.natAbs, .int .i64 (q.den : Int).sign, bT (q.den : Int).natAbs]] = _
   rw [Int.sign_eq_one_of_pos (show (0 : Int) < q.den by omega), Int.natAbs_natCast]
  have ho1 := gO n.natAbs g hg (by omega)
  have ho2 := gO d.natAbs g hg (by omega)
  rw [← k2] at ho1 hnl
  rw [← k1] at ho2 hdl hdg
  have hn' : (-n).natAbs = n.natAbs := Int.natAbs_neg n
  have hd' : (-d).natAbs = d.natAbs := Int.natAbs_neg d
  rw [← hn'] at ho1
  rw [← hd'] at ho2
  refine aC ho1 rfl ?_
  dsimp only [aA, aB]
  refine aC ho2 rfl ?_
  dsimp only [aA, aB]
  refine aC (eF (-n).sign q.num _ (fG _) (by omega) (by rw [eB]) (fun _ => k3)) rfl ?_
  dsimp only [aA, aB]
  refine aC (eF 1 (q.den : Int) _ (fG _) (by omega) (by rw [eB]; rfl) (fun _ => Int.sign_eq_one_of_pos (by omega))) rfl ?_
  dsimp only [aA, aB]
  refine aJ ?_
  rw [uP]
  show [aH.agg [.int .i64 q.num.sign, bT q.num.natAbs, .int .i64 (q.den : Int).sign, bT (q.den : Int).natAbs]] = _
  rw [Int.sign_eq_one_of_pos (show (0 : Int) < q.den by omega), Int.natAbs_natCast]
 have hd0 : 0 < d := by rcases hsd with ⟨h, e⟩ | ⟨h, e⟩ | ⟨h, e⟩ <;> omega
 have hR : qB n d = mkRat n d.natAbs := by rw [qB, if_neg (by omega)]
 obtain ⟨k1, k2, k3⟩ := key n rfl hR
 generalize qB n d = q at *
 have hc := FZ n d (by omega) (by omega)
 refine aC hc rfl ?_
 generalize hG : Nat.gcd n.natAbs d.natAbs = g at *
 dsimp only [aA, aB]
 refine vn (aK dG (List.length_map _)) rfl ?_
 dsimp only [aA, aB]
 refine vn aX rfl ?_
 dsimp only [aA, aB]
 refine vs _ rfl (fun h26 => ?_) (fun h26 => ?_)
 ·obtain ⟨x, hx⟩ : ∃ x, (bd g)[0]? = some x := ⟨_, List.getElem?_eq_getElem (by rw [Int.natAbs_natCast] at h26; omega)⟩
  refine vn (aR dG (by omega) (by omega) (show (bd ((g : Int)).natAbs)[0]? = some x from hx)) rfl ?_
  dsimp only [aA, aB]
  refine vn (bA HV) rfl ?_
  dsimp only [aA, aB]
  refine vn aX rfl ?_
  dsimp only [aA, aB]
  refine vs _ rfl (fun h30 => ?_) (fun h30 => ?_)
  ·have hg1 : g = 1 := by
    have := rG (g := g) (by rw [Int.natAbs_natCast] at h26; omega) hx
    omega
   rw [hg1, Nat.div_one] at k1 k2
   refine aJ ?_
   rw [uP, k3, k2, k1]
   show [aH.agg [.int .i64 n.sign, bT n.natAbs, .int .i64 d.sign, bT d.natAbs]] = _
   rw [Int.sign_eq_one_of_pos (show 0 < d by omega)]
  have ho1 := gO n.natAbs g hg (by omega)
  have ho2 := gO d.natAbs g hg (by omega)
  rw [← k2] at ho1 hnl
  rw [← k1] at ho2 hdl hdg
  refine aC ho1 rfl ?_
  dsimp only [aA, aB]
  refine aC ho2 rfl ?_
  dsimp only [aA, aB]
  refine aC (eF n.sign q.num _ (fG _) (by omega) (by rw [eB]) (fun _ => k3)) rfl ?_
  dsimp only [aA, aB]
  refine aC (eF 1 (q.den : Int) _ (fG _) (by omega) (by rw [eB]; rfl) (fun _ => Int.sign_eq_one_of_pos (by omega))) rfl ?_
  dsimp only [aA, aB]
  refine aJ ?_
  rw [uP]
  show [aH.agg [.int .i64 q.num.sign, bT q.num.natAbs, .int .i64 (q.den : Int).sign, bT (q.den : Int).natAbs]] = _
  rw [Int.sign_eq_one_of_pos (show (0 : Int) < q.den by omega), Int.natAbs_natCast]
 have ho1 := gO n.natAbs g hg (by omega)
 have ho2 := gO d.natAbs g hg (by omega)
 rw [← k2] at ho1 hnl
 rw [← k1] at ho2 hdl hdg
 refine aC ho1 rfl ?_
 dsimp only [aA, aB]
 refine aC ho2 rfl ?_
 dsimp only [aA, aB]
 refine aC (eF n.sign q.num _ (fG _) (by omega) (by rw [eB]) (fun _ => k3)) rfl ?_
 dsimp only [aA, aB]
 refine aC (eF 1 (q.den : Int) _ (fG _) (by omega) (by rw [eB]; rfl) (fun _ => Int.sign_eq_one_of_pos (by omega))) rfl ?_
 dsimp only [aA, aB]
 refine aJ ?_
 rw [uP]
 show [aH.agg [.int .i64 q.num.sign, bT q.num.natAbs, .int .i64 (q.den : Int).sign, bT (q.den : Int).natAbs]] = _
 rw [Int.sign_eq_one_of_pos (show (0 : Int) < q.den by omega), Int.natAbs_natCast]
theorem DR {n : Int} {d : Nat} : qB n (d : Int) = mkRat n d := by
 rw [qB, if_neg (by omega), Int.natAbs_natCast]
theorem CM {a b : Rat} (hb : b ≠ 0) : qB (a.num * (b.den : Int)) ((a.den : Int) * b.num) = a / b := by
 have hn : b.num ≠ 0 := fun e => hb (Rat.num_eq_zero.1 e)
 have ha := a.den_pos
 rw [← KD hb, qB, Int.natAbs_mul, Int.natAbs_natCast]
 by_cases h : b.num < 0
 ·rw [if_pos (Int.mul_neg_of_pos_of_neg (by omega) h), decide_eq_true h, if_pos rfl, Int.mul_neg]
 ·rw [if_neg (by have := Int.mul_nonneg (show (0 : Int) ≤ a.den by omega) (show 0 ≤ b.num by omega); omega), decide_eq_false h, if_neg (by simp)]
theorem Og {n d : Int} (hd : d ≠ 0) : qB n d = (n : Rat) / (d : Rat) := by
 have h := CM (a := (n : Rat)) (b := (d : Rat)) (by rw [Ne, ← Rat.num_eq_zero, Rat.num_intCast]; exact hd)
 rw [Rat.num_intCast, Rat.num_intCast, Rat.den_intCast, Rat.den_intCast] at h
 rw [← h]; congr 1 <;> omega
theorem Fit.bd {B : Nat} {q : Rat} (h : Fit B q) : (bd q.num.natAbs).length ≤ B ∧ (bd q.den).length ≤ B := ⟨fC h.1, fC h.2⟩
theorem jH (n : Int) (h1 : -9223372036854775808 ≤ n) (h2 : n < 9223372036854775808) : aN prog 50 [(.one (.int .i64 n) : aH)] (.ret [lI (.of (n : Rat))]) := by
 refine aD (args := [.v none]) (ins := [.v (.one (.int .i64 n))]) (hints := (fun _ => none)) fo (by kernel_rfl) func50 ⟨rfl, trivial⟩ ?_
 rw [Rx]
 dsimp only [List.map, In.env, aA, aB]
 refine aC (lL n h1 h2) rfl ?_
 dsimp only [aA, aB]
 refine aC (lL 1 (by omega) (by omega)) rfl ?_
 dsimp only [aA, aB]
 rw [uP, Rat.num_intCast, Rat.den_intCast]; exact aJ rfl
theorem Pc (n d : Int) (hd : d ≠ 0) (h1 : -9223372036854775808 ≤ n) (h2 : n < 9223372036854775808) (h3 : -9223372036854775808 ≤ d) (h4 : d < 9223372036854775808) : aN prog 79 [(.one (.int .i64 n) : aH), (.one (.int .i64 d) : aH)] (.ret [lI (.of ((n : Rat) / (d : Rat)))]) := by
 refine aD (args := [.v none, .v none]) (ins := [.v (.one (.int .i64 n)), .v (.one (.int .i64 d))]) (hints := (fun _ => none)) fo (by kernel_rfl) func79 ⟨rfl, rfl, trivial⟩ ?_
 rw [Ww]
 dsimp only [List.map, In.env, aA, aB]
 refine aC (lL n h1 h2) rfl ?_
 dsimp only [aA, aB]
 refine aC (lL d h3 h4) rfl ?_
 dsimp only [aA, aB]
 have hn := fC (n := n.natAbs) (B := 64) (by omega)
 have hdd := fC (n := d.natAbs) (B := 64) (by omega)
 refine aC (rH n d hd (by omega) (by omega)) rfl ?_
 rw [Og hd]
 dsimp only [aA, aB]
 exact aJ rfl
theorem QC (a : RQ) : aN prog 105 [(lI a : aH)] (.ret [lI (.of (-a.q))]) := by
 refine aD (args := [.v (some 4)]) (ins := [.v (lI a)]) (hints := (fun _ => none)) fo (by kernel_rfl) func105 ⟨rfl, trivial⟩ ?_
 rw [Qy]
 dsimp only [List.map, In.env, aA, aB]
 refine aC (BC a.q.num) rfl ?_
 dsimp only [aA, aB]
 refine aC (jG a) rfl ?_
 dsimp only [aA, aB]
 refine aJ ?_
 rw [uP, Rat.neg_num, Rat.neg_den]
 show [aH.agg [.int .i64 (-a.q.num).sign, bT (-a.q.num).natAbs, .int .i64 (a.q.den : Int).sign, bT (a.q.den : Int).natAbs]] = _
 have := a.q.den_pos
 rw [Int.sign_eq_one_of_pos (show (0 : Int) < a.q.den by omega), Int.natAbs_natCast]
theorem GD (a : RQ) : aN prog 46 [(lI a : aH)] (.ret [.one (.int .i64 a.q.num.sign)]) := by
 refine aD (args := [.v (some 4)]) (ins := [.v (lI a)]) (hints := (fun _ => none)) fo (by kernel_rfl) func46 ⟨rfl, trivial⟩ ?_
 rw [Mm]
 dsimp only [List.map, In.env, aA, aB]
 exact aJ rfl
theorem oN (a b : RQ) (A B : Nat) (ha : Fit A a.q) (hb : Fit B b.q) (h : A + B ≤ 4294967296) : aN prog 104 [(lI a : aH), (lI b : aH)] (.ret [lI (.of (a.q * b.q))]) := by
 refine aD (args := [.v (some 4), .v (some 4)]) (ins := [.v (lI a), .v (lI b)]) (hints := (fun _ => none)) fo (by kernel_rfl) func104 ⟨rfl, rfl, trivial⟩ ?_
 rw [SN]
 dsimp only [List.map, In.env, aA, aB]
 obtain ⟨ha1, ha2⟩ := Fit.bd ha
 obtain ⟨hb1, hb2⟩ := Fit.bd hb
 have hn := fC (bB ha.1 hb.1)
 have hd := fC (bB ha.2 hb.2)
 have hpa := a.q.den_pos
 have hpb := b.q.den_pos
 refine aC (iM a.q.num b.q.num (by omega)) rfl ?_
 dsimp only [aA, aB]
 refine aC (jG a) rfl ?_
 dsimp only [aA, aB]
 refine aC (jG b) rfl ?_
 dsimp only [aA, aB]
 refine aC (iM (a.q.den : Int) (b.q.den : Int) (by rw [Int.natAbs_natCast, Int.natAbs_natCast]; omega)) rfl ?_
 rw [← Int.natCast_mul]
 dsimp only [aA, aB]
 refine aC (rH _ ((a.q.den * b.q.den : Nat) : Int) (by have := Nat.mul_pos hpa hpb; omega) (by rw [Int.natAbs_mul]; omega) (by rw [Int.natAbs_natCast]; omega)) rfl ?_
 rw [DR, ← Rat.mul_def']
 dsimp only [aA, aB]
 exact aJ rfl
theorem yH (a b : RQ) (A B : Nat) (ha : Fit A a.q) (hb : Fit B b.q) (h : A + B ≤ 4294967296) : aN prog 48 [(lI a : aH), (lI b : aH)] (.ret [lI (.of (a.q + b.q))]) := by
 refine aD (args := [.v (some 4), .v (some 4)]) (ins := [.v (lI a), .v (lI b)]) (hints := (fun _ => none)) fo (by kernel_rfl) func48 ⟨rfl, rfl, trivial⟩ ?_
 rw [SP]
 dsimp only [List.map, In.env, aA, aB]
 obtain ⟨ha1, ha2⟩ := Fit.bd ha
 obtain ⟨hb1, hb2⟩ := Fit.bd hb
 have hn1 := fC (bB ha.1 hb.2)
 have hn2 := fC (bB hb.1 ha.2)
 have hd := fC (bB ha.2 hb.2)
 have hpa := a.q.den_pos
 have hpb := b.q.den_pos
 have hsum : (bd (a.q.num * (b.q.den : Int) + b.q.num * (a.q.den : Int)).natAbs).length ≤ A + B + 1 := by
  apply fC
  have h1 := bB ha.1 hb.2
  have h2 := bB hb.1 ha.2
  rw [Nat.add_comm B A] at h2
  rw [Nat.pow_succ]
  refine Nat.lt_of_le_of_lt (Int.natAbs_add_le _ _) ?_
  rw [Int.natAbs_mul, Int.natAbs_mul, Int.natAbs_natCast, Int.natAbs_natCast]
  omega
 refine aC (jG b) rfl ?_
 dsimp only [aA, aB]
 refine aC (iM a.q.num (b.q.den : Int) (by rw [Int.natAbs_natCast]; omega)) rfl ?_
 dsimp only [aA, aB]
 refine aC (jG a) rfl ?_
 dsimp only [aA, aB]
 refine aC (iM b.q.num (a.q.den : Int) (by rw [Int.natAbs_natCast]; omega)) rfl ?_
 dsimp only [aA, aB]
 refine aC (NN _ _ (by rw [Int.natAbs_mul, Int.natAbs_natCast]; omega) (by rw [Int.natAbs_mul, Int.natAbs_natCast]; omega)) rfl ?_
 dsimp only [aA, aB]
 refine aC (jG a) rfl ?_
 dsimp only [aA, aB]
 refine aC (jG b) rfl ?_
 dsimp only [aA, aB]
 refine aC (iM (a.q.den : Int) (b.q.den : Int) (by rw [Int.natAbs_natCast, Int.natAbs_natCast]; omega)) rfl ?_
 rw [← Int.natCast_mul a.q.den b.q.den]
 dsimp only [aA, aB]
 refine aC (rH _ ((a.q.den * b.q.den : Nat) : Int) (by have := Nat.mul_pos hpa hpb; omega) (by omega) (by rw [Int.natAbs_natCast]; omega)) rfl ?_
 rw [DR, ← Rat.add_def']
 dsimp only [aA, aB]
 exact aJ rfl
theorem KI (a b : RQ) (A B : Nat) (hb0 : b.q ≠ 0) (ha : Fit A a.q) (hb : Fit B b.q) (h : A + B ≤ 4294967296) : aN prog 102 [(lI a : aH), (lI b : aH)] (.ret [lI (.of (a.q / b.q))]) := by
 refine aD (args := [.v (some 4), .v (some 4)]) (ins := [.v (lI a), .v (lI b)]) (hints := (fun _ => none)) fo (by kernel_rfl) func102 ⟨rfl, rfl, trivial⟩ ?_
 rw [QA]
 dsimp only [List.map, In.env, aA, aB]
 obtain ⟨ha1, ha2⟩ := Fit.bd ha
 obtain ⟨hb1, hb2⟩ := Fit.bd hb
 have hn := fC (bB ha.1 hb.2)
 have hd := fC (bB ha.2 hb.1)
 have hpa := a.q.den_pos
 have hnb : b.q.num ≠ 0 := fun e => hb0 (Rat.num_eq_zero.1 e)
 refine aC (jG b) rfl ?_
 dsimp only [aA, aB]
 refine aC (iM a.q.num (b.q.den : Int) (by rw [Int.natAbs_natCast]; omega)) rfl ?_
 dsimp only [aA, aB]
 refine aC (jG a) rfl ?_
 dsimp only [aA, aB]
 refine aC (iM (a.q.den : Int) b.q.num (by rw [Int.natAbs_natCast]; omega)) rfl ?_
 dsimp only [aA, aB]
 refine aC (rH _ _ (Int.mul_ne_zero (by omega) hnb) (by rw [Int.natAbs_mul, Int.natAbs_natCast]; omega) (by rw [Int.natAbs_mul, Int.natAbs_natCast]; omega)) rfl ?_
 rw [CM hb0]
 dsimp only [aA, aB]
 exact aJ rfl
end Go.Sy
