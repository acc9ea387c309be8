/- Powers, falling factors, their sizes; the coefficients of a solution. The pieces of ode: falling factors, powers, quotients, the equation at a number.
-/
import Derived.Test.YtdmcadckdnnglaaGreatDoorQa
import Derived.Test.YtdmcadckdnnglaaGreatDoorQb
import Derived.Test.YtdmcadckdnnglaaGreatDoorOa
set_option linter.unusedVariables false
set_option linter.unusedSimpArgs false
namespace Ord
theorem Bd.pow {D S : Nat} (h0 : D ≠ 0) {x : Rat} (h : Bd D S x) : ∀ n : Nat, Bd (D ^ n) (S ^ n) (x ^ n)
 | 0 => by rw [Nat.pow_zero, Nat.pow_zero, Rat.pow_zero]; exact Bd.one (Nat.le_refl 1)
 | n + 1 => by
   rw [Nat.pow_succ, Nat.pow_succ, Rat.pow_succ]
   exact Bd.mul (fun e => h0 (Nat.pow_eq_zero.1 e).1) h0 (Bd.pow h0 h n) h
def bJ (z : Int) : Nat → Int
 | 0 => 1
 | i + 1 => bJ z i * (z - i)
theorem oJ {z : Int} {N : Nat} : ∀ i : Nat, z.natAbs + i ≤ N → (bJ z i).natAbs ≤ N ^ i
 | 0, _ => by simp [bJ]
 | i + 1, h => by
   rw [bJ, Int.natAbs_mul, Nat.pow_succ]
   exact Nat.mul_le_mul (oJ i (by omega)) (by omega)
def inner (p a : List Rat) (m n i : Nat) (x : Rat) : Nat → Rat
 | 0 => x
 | k + 1 => if i < m + k then inner p a m n i x k - p.getD k 0 * ((bJ ((n : Int) - ((m : Int) + k - i)) i : Int) : Rat) * a.getD (n - (m + k - i)) 0 else inner p a m n i x k
def outer (q : List (List Rat)) (a : List Rat) (m n : Nat) : Nat → Rat
 | 0 => 0
 | i + 1 => inner (q.getD i []) a m n i (outer q a m n i) (min (q.getD i []).length (n - m + 1))
def fE (q : List (List Rat)) (m : Nat) (lead : Rat) (y : List Rat) (n : Nat) (a : List Rat) : Rat :=
 if n < m then y.getD n 0 / ((bJ n n : Int) : Rat) else outer q a m n q.length / (lead * ((bJ n m : Int) : Rat))
def aW (q : List (List Rat)) (m : Nat) (lead : Rat) (y : List Rat) : Nat → List Rat
 | 0 => []
 | n + 1 => aW q m lead y n ++ [fE q m lead y n (aW q m lead y n)]
theorem bU (q : List (List Rat)) (m : Nat) (lead : Rat) (y : List Rat) : ∀ n, (aW q m lead y n).length = n
 | 0 => rfl
 | n + 1 => by rw [aW, List.length_append, bU q m lead y n]; rfl
theorem Dm (q : List (List Rat)) (m : Nat) (lead : Rat) (y : List Rat) {k n : Nat} (h : k ≤ n) : (aW q m lead y n).take k = aW q m lead y k := by
 induction n with
 | zero =>
   obtain rfl : k = 0 := by omega
   rfl
 | succ n ih =>
   rcases Nat.lt_or_ge n k with h1 | h1
   ·obtain rfl : k = n + 1 := by omega
    rw [List.take_of_length_le (by rw [bU]; omega)]
   ·rw [aW, List.take_append_of_le_length (by rw [bU]; exact h1), ih h1]
structure nV (B : Nat) (q : List (List Rat)) (m : Nat) (lead : Rat) (y : List Rat) (N : Nat) : Prop where
 flead : Fit B lead
 fy : ∀ x ∈ y, Fit B x
 fq : ∀ p ∈ q, ∀ x ∈ p, Fit B x
 ffall : ∀ n i : Nat, n < N → i ≤ m → ∀ z : Int, z.natAbs ≤ N → ∀ j ≤ i, Fit B ((bJ z j : Int) : Rat)
 ffac : ∀ n : Nat, n < m → ∀ j ≤ n, Fit B ((bJ n j : Int) : Rat)
 fa : ∀ n, n < N → Fit B (fE q m lead y n (aW q m lead y n))
 fx : ∀ n i k, n < N → m ≤ n → i < q.length → k ≤ min (q.getD i []).length (n - m + 1) → Fit B (inner (q.getD i []) (aW q m lead y n) m n i (outer q (aW q m lead y n) m n i) k)
end Ord
namespace Ord
theorem jE {z : Int} : ∀ {i : Nat}, (i : Int) ≤ z → bJ z i ≠ 0
 | 0, _ => by simp [bJ]
 | i + 1, h => by
   rw [bJ]
   exact Int.mul_ne_zero (jE (i := i) (by omega)) (by omega)
end Ord
namespace Go.Sy
open Go Go.Proofs Tryz Ord
def QH : Tr := .need (.prim [(W 3 0), (W 1 0)] none) (.binOp .lss 3 (.tmp 9) (.tmp 8) 3) 4 false (.split (.u 7 0) (.need (.prim [(W 0 0), (W 3 0)] none) (.binOp .sub 3 (.tmp 13) (.tmp 14) 3) 3 false (.need (.call 68 [(W 8 0)] [(some 3)]) (.call ⟨.value (.func 68), #[(.tmp 15)], #[2]⟩) 39 true (.need (.call 36 [(.agg [(U 4 0), (U 5 0), (U 6 0)]), (.agg [(U 9 0), (U 9 1), (U 9 2)])] [(some 3)]) (.call ⟨.value (.func 36), #[(.tmp 12), (.tmp 16)], #[39, 39]⟩) 39 true (.need (.prim [(W 3 0), (WK (1))] none) (.binOp .add 3 (.tmp 9) (.const (I3 (1))) 3) 3 false (.back 0 [(.w (W 11 0)), (.w (W 10 0)), (.w (W 10 1)), (.w (W 10 2))]))))) (.ret [(.agg [(U 4 0), (U 5 0), (U 6 0)])]))
def PN : Tr := .need (.call 68 [(WK (1))] [(some 3)]) (.call ⟨.value (.func 68), #[(.const (I3 (1)))], #[2]⟩) 39 true (.loop 0 [(.w (WK (0))), (.w (W 2 0)), (.w (W 2 1)), (.w (W 2 2))] QH)
theorem Ek : aM prog f209 (fun _ => none) [.v none, .v none] = PN := by kernel_rfl
def QK : Tr := .need (.prim [(W 3 0), (WK (2))] none) (.binOp .rem 3 (.tmp 11) (.const (I3 (2))) 3) 3 false (.need (.prim [(W 11 0), (WK (1))] none) (.binOp .eql 3 (.tmp 12) (.const (I3 (1))) 3) 4 false (.split (.u 12 0) (.need (.call 36 [(.agg [(U 7 0), (U 8 0), (U 9 0)]), (.agg [(U 4 0), (U 5 0), (U 6 0)])] [(some 3)]) (.call ⟨.value (.func 36), #[(.tmp 14), (.tmp 15)], #[39, 39]⟩) 39 true (.need (.call 36 [(.agg [(U 4 0), (U 5 0), (U 6 0)]), (.agg [(U 4 0), (U 5 0), (U 6 0)])] [(some 3)]) (.call ⟨.value (.func 36), #[(.tmp 17), (.tmp 18)], #[39, 39]⟩) 39 true (.need (.prim [(W 3 0), (WK (2))] none) (.binOp .quo 3 (.tmp 9) (.const (I3 (2))) 3) 3 false (.back 0 [(.w (W 15 0)), (.w (W 14 0)), (.w (W 14 1)), (.w (W 14 2)), (.w (W 13 0)), (.w (W 13 1)), (.w (W 13 2))])))) (.need (.call 36 [(.agg [(U 4 0), (U 5 0), (U 6 0)]), (.agg [(U 4 0), (U 5 0), (U 6 0)])] [(some 3)]) (.call ⟨.value (.func 36), #[(.tmp 17), (.tmp 18)], #[39, 39]⟩) 39 true (.need (.prim [(W 3 0), (WK (2))] none) (.binOp .quo 3 (.tmp 9) (.const (I3 (2))) 3) 3 false (.back 0 [(.w (W 14 0)), (.w (W 13 0)), (.w (W 13 1)), (.w (W 13 2)), (.w (W 7 0)), (.w (W 8 0)), (.w (W 9 0))])))))
def Qk : Tr := .need (.call 68 [(WK (1))] [(some 3)]) (.call ⟨.value (.func 68), #[(.const (I3 (1)))], #[2]⟩) 39 true (.loop 0 [(.w (W 1 0)), (.w (W 0 0)), (.w (W 0 1)), (.w (W 0 2)), (.w (W 2 0)), (.w (W 2 1)), (.w (W 2 2))] (.need (.prim [(W 3 0), (WK (0))] none) (.binOp .gtr 3 (.tmp 7) (.const (I3 (0))) 3) 4 false (.split (.u 10 0) QK (.ret [(.agg [(U 7 0), (U 8 0), (U 9 0)])]))))
theorem HB : aM prog f203 (fun _ => none) [.v (some 3), .v none] = Qk := by kernel_rfl
def Sc : Tr := .need (.call 200 [(.agg [(U 0 0), (U 0 1), (U 0 2)]), (.agg [(U 1 0), (U 1 1), (U 1 2)])] [(some 3), none]) (.call ⟨.value (.func 200), #[(.tmp 8), (.tmp 9)], #[39, 39]⟩) 90 false (.ret [(.agg [(U 2 0), (U 2 1), (U 2 2)])])
theorem Mh : aM prog f207 (fun _ => none) [.v (some 3), .v (some 3)] = Sc := by kernel_rfl
def Qq : Tr := .split (.u 4 0) (.need (.prim [(W 0 0), (W 3 0)] none) (.indexAddr 31 (.tmp 7) (.tmp 9)) 0 false (.need (.prim [(W 5 0)] none) (.load 72 (.tmp 11)) 72 false (.need (.call 95 [(W 6 0)] [none]) (.call ⟨.value (.func 95), #[(.tmp 14)], #[72]⟩) 3 true (.need (.prim [(W 2 0), (W 7 0)] none) (.call ⟨.builtin .max, #[(.tmp 13), (.tmp 15)], #[3, 3]⟩) 3 false (.need (.prim [(W 3 0), (WK (1))] none) (.binOp .add 3 (.tmp 9) (.const (I3 (1))) 3) 3 false (.back 0 [(.w (W 8 0)), (.w (W 9 0))])))))) (.need (.prim [(W 0 1), (W 2 0)] none) (.binOp .add 3 (.tmp 19) (.tmp 20) 3) 3 false (.ret [(W 5 0)]))
def TK : Tr := .need (.prim [(W 0 0)] none) (.call ⟨.builtin .len, #[(.tmp 7)], #[31]⟩) 3 false (.loop 0 [(.w (WK (0))), (.w (WK (0)))] (.need (.prim [(W 3 0), (W 1 0)] none) (.binOp .lss 3 (.tmp 9) (.tmp 8) 3) 0 false Qq))
theorem JL : aM prog f204 (fun _ => none) [.v (some 5)] = TK := by kernel_rfl
def Sn : Tr := .need (.prim [(W 0 0), (W 5 0)] none) (.indexAddr 32 (.tmp 12) (.tmp 14)) 0 false (.need (.prim [(W 12 0)] none) (.load 72 (.tmp 16)) 72 false (.need (.call 31 [(W 13 0), (.agg [(U 1 0), (U 1 1), (U 1 2)])] [none]) (.call ⟨.value (.func 31), #[(.tmp 20), (.tmp 21)], #[72, 39]⟩) 72 true (.need (.lit 1 [[(.u 14 0)]]) (.buildSlice 31 1 #[(0, (.tmp 22))]) 31 false (.need (.app 1 24 (some 6) none (some 15)) (.call ⟨.builtin .append, #[(.tmp 19), (.tmp 23)], #[31, 31]⟩) 31 false (.need (.prim [(W 5 0), (WK (1))] none) (.binOp .add 3 (.tmp 14) (.const (I3 (1))) 3) 3 false (.back 0 [(.w (W 17 0)), (.row 16), (.w (W 7 0)), (.w (W 8 0)), (.w (W 9 0)), (.w (W 10 0))]))))))
def Td : Tr := .need (.prim [(W 5 0), (W 4 0)] none) (.binOp .lss 3 (.tmp 14) (.tmp 13) 3) 0 false (.split (.u 11 0) Sn (.need (.idx 6 (.u 7 0)) (.indexAddr 31 (.tmp 28) (.tmp 30)) 0 false (.need (.ldrow 6 (.u 7 0) 0 1 false) (.load 72 (.tmp 31)) 72 false (.need (.prim [(W 12 0), (WK (0))] none) (.indexAddr 72 (.tmp 32) (.const (I3 (0)))) 0 false (.need (.prim [(W 13 0)] (some 3)) (.load 39 (.tmp 33)) 39 false (.ret [(.agg [(.c (.sr 1 6)), (U 7 0), (U 14 0), (U 14 1), (U 14 2)])]))))))
def RD : Tr := .need (.prim [(W 0 0)] none) (.call ⟨.builtin .len, #[(.tmp 8)], #[32]⟩) 3 false (.need (.prim [(W 2 0), (WK (1))] none) (.binOp .sub 3 (.tmp 9) (.const (I3 (1))) 3) 3 false (.need (.prim [(W 0 0)] none) (.call ⟨.builtin .len, #[(.tmp 12)], #[32]⟩) 3 false (.loop 0 [(.w (WK (0))), .nilrow, (.w (W 3 0)), (.w (.one (.c (.k (.slice none 0 0))))), (.w (.one (.c (.k (.bool false))))), (.w (.one (.c (.k (.slice none 0 0)))))] Td)))
theorem VK : aM prog f100 (fun _ => none) [.v none, .v (some 3)] = RD := by kernel_rfl
def TP : Tr := .need (.call 158 [(WK (1))] [(some 2)]) (.call ⟨.value (.func 158), #[(.const (I3 (1)))], #[2]⟩) 37 false (.need (.call 256 [(W 0 0)] [(some 1)]) (.call ⟨.value (.func 256), #[(.tmp 4)], #[3]⟩) 35 true (.need (.call 115 [(.agg [(U 1 0), (U 1 1)]), (.agg [(U 2 0)])] [(some 3)]) (.call ⟨.value (.func 115), #[(.tmp 3), (.tmp 5)], #[37, 35]⟩) 39 true (.ret [(.agg [(U 3 0), (U 3 1), (U 3 2)])])))
theorem Rk : aM prog f202 (fun _ => none) [.v none] = TP := by kernel_rfl
def RT : Tr := .need (.call 195 [(.one (.c (.k (.int .u64 (2)))))] [(some 1)]) (.call ⟨.value (.func 195), #[(.const (.int .u64 (2)))], #[254]⟩) 35 false (.need (.call 283 [(W 0 0), (WK (256))] [none]) (.call ⟨.value (.func 283), #[(.tmp 4), (.const (I3 (256)))], #[3, 3]⟩) 3 true (.need (.call 282 [(.agg [(U 1 0)]), (W 2 0)] [(some 1)]) (.call ⟨.value (.func 282), #[(.tmp 3), (.tmp 5)], #[35, 3]⟩) 35 true (.ret [(.agg [(U 3 0)])])))
theorem XG : aM prog f256 (fun _ => none) [.v none] = RT := by kernel_rfl
theorem intCast_mul (a b : Int) : ((a : Rat) * (b : Rat)) = ((a * b : Int) : Rat) := (Rat.intCast_mul a b).symm
theorem qW (z : Int) (i B : Nat) (hz1 : -4611686018427387904 ≤ z) (hz2 : z < 4611686018427387904) (hi : i < 4611686018427387904) (hB : B ≤ 17179869184) (h64 : 64 ≤ B) (hf : ∀ j, j ≤ i → Fit B ((bJ z j : Int) : Rat)) : aN prog 209 [(.one (.int .i64 z) : aH), (.one (.int .i64 i) : aH)] (.ret [qT ((bJ z i : Int) : Rat)]) := by
 refine aD (args := [.v none, .v none]) (ins := [.v (.one (.int .i64 z)), .v (.one (.int .i64 i))]) (hints := (fun _ => none)) fo (by kernel_rfl) func209 ⟨rfl, rfl, trivial⟩ ?_
 rw [Ek]
 dsimp only [List.map, In.env, aA, aB]
 refine aC (mW 1 (by omega) (by omega)) rfl ?_
 dsimp only [aA, aB]
 refine aY {j : Nat // j ≤ i} (fun g => (.one (.int .i64 g.1) : aH) :: (qC ((bJ z g.1 : Int) : Rat)).map .one) (fun g => i - g.1) ⟨0, Nat.zero_le _⟩ aL.rfl (fun _ => rfl) ?_
 rintro ⟨j, hj⟩
 dsimp only [aA, aB, List.map] at hj ⊢
 refine vn aU rfl ?_
 dsimp only [aA, aB]
 refine vs _ rfl (fun h3 => ?_) (fun h3 => ?_)
 ·refine vn (aG (by omega) (by omega)) rfl ?_
  dsimp only [aA, aB]
  refine aC (mW (z - j) (by omega) (by omega)) rfl ?_
  dsimp only [aA, aB]
  refine aC (gJ _ _ B 64 (hf j hj) (Fit.int (by omega) (by omega)) (by omega)) rfl ?_
  rw [intCast_mul]
  dsimp only [aA, aB]
  refine vn (aE (by omega) (by omega)) rfl ?_
  dsimp only [aA, aB]
  exact aO rfl ⟨⟨j + 1, by omega⟩, aL.rfl, by show i - (j + 1) < i - j; omega⟩
 rw [show i = j by omega]; exact aJ rfl
theorem Co (x : Rat) (j : Nat) : x ^ j * x ^ j = x ^ (2 * j) := by rw [show 2 * j = j + j by omega, sS]
theorem RN {n i j k : Nat} (h1 : i + j * k = n) (hm : k % 2 = 1) : i + j + 2 * j * (k / 2) = n := by
 have h : k = 2 * (k / 2) + 1 := by omega
 generalize k / 2 = t at *
 subst h; subst h1; grind
theorem MP {n i j k : Nat} (h1 : i + j * k = n) (hm : k % 2 = 0) : i + 2 * j * (k / 2) = n := by
 have h : k = 2 * (k / 2) := by omega
 generalize k / 2 = t at *
 subst h; subst h1; grind
theorem mR (x : Rat) (n B : Nat) (hn : n < 4611686018427387904) (hB : B ≤ 17179869184) (hf : ∀ j, j ≤ 2 * n + 1 → Fit B (x ^ j)) : aN prog 203 [(qT x : aH), (.one (.int .i64 n) : aH)] (.ret [qT (x ^ n)]) := by
 refine aD (args := [.v (some 3), .v none]) (ins := [.v (qT x), .v (.one (.int .i64 n))]) (hints := (fun _ => none)) fo (by kernel_rfl) func203 ⟨rfl, rfl, trivial⟩ ?_
 rw [HB]
 dsimp only [List.map, In.env, aA, aB]
 refine aC (mW 1 (by omega) (by omega)) rfl ?_
 dsimp only [aA, aB]
 refine aY {g : Nat × Nat × Nat // g.2.1 + g.2.2 * g.1 = n ∧ g.2.2 ≤ 2 * n + 1 ∧ g.1 ≤ n} (fun g => (.one (.int .i64 g.1.1) : aH) :: ((qC (x ^ g.1.2.2)).map .one ++ (qC (x ^ g.1.2.1)).map .one)) (fun g => g.1.1) ⟨(n, 0, 1), by show 0 + 1 * n = n; omega, by show 1 ≤ _; omega, Nat.le_refl n⟩ (show aL _ _ by
  dsimp only
  rw [Rat.pow_zero, show x ^ 1 = x by rw [Rat.pow_succ, Rat.pow_zero]; grind]
  exact aL.rfl) (fun _ => rfl) ?_
 rintro ⟨⟨k, i, j⟩, h1, h2, hkn⟩
 dsimp only [aA, aB, List.map] at h1 h2 hkn ⊢
 refine vn cT rfl ?_
 dsimp only [aA, aB]
 refine vs _ rfl (fun h3 => ?_) (fun h3 => ?_)
 ·have hk : 0 < k := by omega
  have hjk : j ≤ j * k := Nat.le_mul_of_pos_right _ hk
  have hj2 : 2 * j ≤ 2 * n + 1 := by
   generalize j * k = u at h1 hjk
   omega
  refine vn (dI (by omega) (by omega)) rfl ?_
  dsimp only [aA, aB]
  refine vn aX rfl ?_
  dsimp only [aA, aB]
  refine vs _ rfl (fun h6 => ?_) (fun h6 => ?_)
  ·refine aC (gJ _ _ B B (hf i (by omega)) (hf j (by omega)) (by omega)) rfl ?_
   rw [← sS]
   dsimp only [aA, aB]
   refine aC (gJ _ _ B B (hf j (by omega)) (hf j (by omega)) (by omega)) rfl ?_
   rw [Co]
   dsimp only [aA, aB]
   refine vn (fZ (by omega) (by omega) (by omega)) rfl ?_
   dsimp only [aA, aB]
   have hm : k % 2 = 1 := by omega
   exact aO rfl ⟨⟨(k / 2, i + j, 2 * j), RN h1 hm, hj2, Nat.le_trans (Nat.div_le_self _ _) hkn⟩, aL.rfl, by show k / 2 < k; omega⟩
  refine aC (gJ _ _ B B (hf j (by omega)) (hf j (by omega)) (by omega)) rfl ?_
  rw [Co]
  dsimp only [aA, aB]
  refine vn (fZ (by omega) (by omega) (by omega)) rfl ?_
  dsimp only [aA, aB]
  have hm : k % 2 = 0 := by omega
  exact aO rfl ⟨⟨(k / 2, i, 2 * j), MP h1 hm, hj2, Nat.le_trans (Nat.div_le_self _ _) hkn⟩, aL.rfl, by show k / 2 < k; omega⟩
 have hk : k = 0 := by omega
 subst hk
 rw [show n = i by omega]; exact aJ rfl
theorem vU (a b : Rat) (A B : Nat) (hb0 : b ≠ 0) (ha : Fit A a) (hb : Fit B b) (h : A + B ≤ 34359738368) : aN prog 207 [(qT a : aH), (qT b : aH)] (.ret [qT (a / b)]) := by
 refine aD (args := [.v (some 3), .v (some 3)]) (ins := [.v (qT a), .v (qT b)]) (hints := (fun _ => none)) fo (by kernel_rfl) func207 ⟨rfl, rfl, trivial⟩ ?_
 rw [Mh]
 dsimp only [List.map, In.env, aA, aB]
 have hd := JE a b A B ha hb h
 rw [if_neg hb0, if_neg hb0] at hd
 refine aC hd rfl ?_
 dsimp only [aA, aB]
 exact aJ rfl
abbrev BV (q : List (List Rat)) (m : Nat) (lead : Rat) : aH := .agg ([eQ q, .int .i64 m] ++ qC lead)
def eH (q : List (List Rat)) : Nat := q.foldl (fun d p => max d (cW zr p - 1)) 0
theorem CV (q : List (List Rat)) (p : List Rat) : eH (q ++ [p]) = max (eH q) (cW zr p - 1) := by simp [eH]
theorem Ai {N : Nat} : ∀ (q : List (List Rat)), (∀ p ∈ q, p.length ≤ N) → eH q ≤ N := by
 have key : ∀ (q : List (List Rat)) (d : Nat), d ≤ N → (∀ p ∈ q, p.length ≤ N) → q.foldl (fun d p => max d (cW zr p - 1)) d ≤ N := by
  intro q
  induction q with
  | nil => intro d h _; exact h
  | cons p q ih =>
    intro d h hp
    have := fD (z := zr) p
    have := hp p List.mem_cons_self
    exact ih _ (show max d (cW zr p - 1) ≤ N by omega) fun r hr => hp r (List.mem_cons_of_mem _ hr)
 exact fun q h => key q 0 (Nat.zero_le _) h
theorem KM (q : List (List Rat)) (m : Nat) (lead : Rat) (hq : ∀ p ∈ q, p.length < 1099511627776) (hql : q.length < 1099511627776) (hm : m < 1099511627776) : aN prog 204 [(BV q m lead : aH)] (.ret [.one (.int .i64 ((m + eH q : Nat) : Int))]) := by
 refine aD (args := [.v (some 5)]) (ins := [.v (BV q m lead)]) (hints := (fun _ => none)) fo (by kernel_rfl) func204 ⟨rfl, trivial⟩ ?_
 rw [JL]
 dsimp only [List.map, In.env, aA, aB]
 refine vn (aK EZ (List.length_map _)) rfl ?_
 dsimp only [aA, aB]
 refine aY {i : Nat // i ≤ q.length} (fun g => [.one (.int .i64 ((eH (q.take g.1) : Nat) : Int)), .one (.int .i64 g.1)]) (fun g => q.length - g.1) ⟨0, Nat.zero_le _⟩ aL.rfl (fun _ => rfl) ?_
 rintro ⟨i, hi⟩
 dsimp only [aA, aB] at hi ⊢
 have hd := Ai (N := 1099511627776) (q.take i) fun p hp => Nat.le_of_lt (hq p (List.mem_of_mem_take hp))
 refine vn aU rfl ?_
 dsimp only [aA, aB]
 refine vs _ rfl (fun h3 => ?_) (fun h3 => ?_)
 ·obtain ⟨p, hp⟩ : ∃ p, q[i]? = some p := ⟨_, List.getElem?_eq_getElem (by omega)⟩
  have hpl := hq p (List.mem_of_getElem? hp)
  refine vn (aR EZ (by omega) (by omega) hp) rfl ?_
  dsimp only [aA, aB]
  refine vn (bA DH) rfl ?_
  dsimp only [aA, aB]
  refine aC (sZ p hpl) rfl ?_
  dsimp only [aA, aB]
  refine vn IE rfl ?_
  dsimp only [aA, aB]
  refine vn (aE (by omega) (by omega)) rfl ?_
  dsimp only [aA, aB]
  have e : max ((eH (q.take i) : Nat) : Int) ((cW zr p : Int) - 1) = ((eH (q.take (i + 1)) : Nat) : Int) := by
   rw [List.take_add_one, hp, Option.toList_some, CV]; omega
  exact aO rfl ⟨⟨i + 1, by omega⟩, aL.of_eq (by rw [List.map_cons, List.map_cons, List.map_nil]; dsimp only; rw [← e]; rfl), by show q.length - (i + 1) < q.length - i; omega⟩
 rw [show i = q.length by omega, List.take_length] at hd ⊢
 refine vn (aE (by omega) (by omega)) rfl ?_
 dsimp only [aA, aB]
 rw [show ((m + eH q : Nat) : Int) = (m : Int) + (eH q : Int) by omega]; exact aJ rfl
theorem Ec {α : Type} {l : List α} {i : Nat} {x : α} (h : l[i]? = some x) : l.take i ++ [x] = l.take (i + 1) := by
 rw [List.take_add_one, h]; rfl
def cH (e : List (List Rat)) (c : Rat) : Rat := (dB (e.getD (e.length - 1) []) c).getD 0 0
theorem XJ (e : List (List Rat)) (c : Rat) (D E S T K B : Nat) (h0 : D ≠ 0) (h1 : E ≠ 0) (hp : ∀ p ∈ e, (∀ a ∈ p, Bd D S a) ∧ p.length ≤ K) (hc : Bd E T c) (hT : 1 ≤ T) (hK : K ≤ 1073741824) (hB : B ≤ 8589934592) (hX : sD D E S T K < 2 ^ B) (he : 0 < e.length) (hel : e.length < 1099511627776) (hne : dB (e.getD (e.length - 1) []) c ≠ []) : aN prog 100 [(.one (eQ e) : aH), (qT c : aH)] (.ret [BV (e.map (dB · c)) (e.length - 1) (cH e c)]) := by
 refine aD (args := [.v none, .v (some 3)]) (ins := [.v (.one (eQ e)), .v (qT c)]) (hints := (fun _ => none)) fo (by kernel_rfl) func100 ⟨rfl, rfl, trivial⟩ ?_
 rw [VK]
 dsimp only [List.map, In.env, aA, aB]
 have e1 : (e.length : Int) - 1 = ((e.length - 1 : Nat) : Int) := by omega
 refine vn (aK uZ (List.length_map _)) rfl ?_
 dsimp only [aA, aB]
 refine vn (aG (by omega) (by omega)) rfl ?_
 rw [e1]
 dsimp only [aA, aB]
 refine vn (aK uZ (List.length_map _)) rfl ?_
 dsimp only [aA, aB]
 refine aY {i : Nat // i ≤ e.length} (fun g => [.one (.int .i64 g.1), .rows ((e.take g.1).map fun p => cQ (dB p c)), .one (.int .i64 ((e.length - 1 : Nat) : Int)), .one (.exact (.slice none 0 0)), .one (.bool false), .one (.exact (.slice none 0 0))]) (fun g => e.length - g.1) ⟨0, Nat.zero_le _⟩ aL.rfl (fun _ => rfl) ?_
 rintro ⟨i, hi⟩
 dsimp only [aA, aB] at hi ⊢
 refine vn aU rfl ?_
 dsimp only [aA, aB]
 refine vs _ rfl (fun h5 => ?_) (fun h5 => ?_)
 ·obtain ⟨p, hpi⟩ : ∃ p, e[i]? = some p := ⟨_, List.getElem?_eq_getElem (by omega)⟩
  obtain ⟨hpb, hpk⟩ := hp p (List.mem_of_getElem? hpi)
  have hti : (e.take i).length ≤ i := by rw [List.length_take]; omega
  refine vn (aR uZ (by omega) (by omega) hpi) rfl ?_
  dsimp only [aA, aB]
  refine vn (bA DH) rfl ?_
  dsimp only [aA, aB]
  refine aC (HY p c D E S T K B h0 h1 hpb hc hT hpk hK hB hX) rfl ?_
  dsimp only [aA, aB]
  refine bC (us := [cQ (dB p c)]) rfl ?_
  dsimp only [aA, aB]
  refine lK (xs := e.take i) (x := p) (f := fun p => cQ (dB p c)) rfl rfl (by omega) (by simp only [maxLen]; omega) ?_
  rw [Ec hpi]
  dsimp only [aA, aB]
  refine vn (aE (by omega) (by omega)) rfl ?_
  dsimp only [aA, aB]
  exact aO rfl ⟨⟨i + 1, by omega⟩, aL.rfl, by show e.length - (i + 1) < e.length - i; omega⟩
 have hie : i = e.length := by omega
 subst hie
 rw [List.take_length]
 obtain ⟨p, hpi⟩ : ∃ p, e[e.length - 1]? = some p := ⟨_, List.getElem?_eq_getElem (by omega)⟩
 have hgd : e.getD (e.length - 1) [] = p := by rw [List.getD_eq_getElem?_getD, hpi]; rfl
 rw [hgd] at hne
 have hlen : 0 < (dB p c).length := List.length_pos_iff.2 hne
 refine bW rfl rfl (by omega) (by first | omega | (rw [List.length_set]; omega)) ?_
 refine mX rfl rfl (by omega) (Int.toNat_natCast _) hpi rfl ?_
 dsimp only [aA, aB]
 refine vn (aR gL (by omega) rfl (dL (l := dB p c) hlen)) rfl ?_
 dsimp only [aA, aB]
 refine vn (cB tT (by decide) (by simp) (.inl rfl)) rfl ?_
 dsimp only [aA, aB]
 rw [show cH e c = (dB p c).getD 0 0 by rw [cH, hgd], show (e.map fun p => cQ (dB p c)) = (e.map (dB · c)).map cQ by rw [List.map_map]; rfl]
 exact aJ rfl
theorem WV (k : Nat) (hk : k ≤ 256) : aN prog 256 [(.one (.int .i64 k) : aH)] (.ret [mT (2 ^ k)]) := by
 refine aD (args := [.v none]) (ins := [.v (.one (.int .i64 k))]) (hints := (fun _ => none)) fo (by kernel_rfl) func256 ⟨rfl, trivial⟩ ?_
 rw [XG]
 dsimp only [List.map, In.env, aA, aB]
 refine aC (iA 2 (by omega)) rfl ?_
 dsimp only [aA, aB]
 refine aC (IP k 256) rfl ?_
 rw [show max (0 : Int) (min (k : Int) 256) = (k : Int) by omega]
 dsimp only [aA, aB]
 refine aC (Oh 2 k 2 (by omega) (by omega) (by omega) (by omega)) rfl ?_
 dsimp only [aA, aB]
 exact aJ rfl
theorem PY (k : Nat) (hk : k ≤ 256) : aN prog 202 [(.one (.int .i64 k) : aH)] (.ret [qT (mkRat 1 (2 ^ k))]) := by
 refine aD (args := [.v none]) (ins := [.v (.one (.int .i64 k))]) (hints := (fun _ => none)) fo (by kernel_rfl) func202 ⟨rfl, trivial⟩ ?_
 rw [Rk]
 dsimp only [List.map, In.env, aA, aB]
 refine aC (FI 1 (by omega) (by omega)) rfl ?_
 dsimp only [aA, aB]
 refine aC (WV k hk) rfl ?_
 dsimp only [aA, aB]
 refine aC (vP 1 (2 ^ k) (Nat.pow_pos (by omega)) (by
  obtain ⟨H, hH⟩ : ∃ H, H = 257 := ⟨_, rfl⟩
  have h1 : (dg (2 ^ k)).length ≤ H := eS (Nat.pow_lt_pow_right (by omega) (by omega))
  have h2 : (dg (1 : Int).natAbs).length = 1 := by rw [show (1 : Int).natAbs = 1 from rfl, pG (by omega) (by omega)]; rfl
  omega)) rfl ?_
 dsimp only [aA, aB]
 exact aJ rfl
end Go.Sy
