/- Powers, falling factors, their sizes; the coefficients of a solution. The pieces of ode: falling factors, powers, quotients, the equation at a number.
-/
import Derived.Test.YtdmcadckdnnglaaGreatDoorQa
import Derived.Test.YtdmcadckdnnglaaGreatDoorQb
import Derived.Test.YtdmcadckdnnglaaGreatDoorOa
set_option linter.unusedVariables false
set_option linter.unusedSimpArgs false
namespace Ord
theorem Bd.pow {D S : Nat} (h0 : D ≠ 0) {x : Rat} (h : Bd D S x) : ∀ n : Nat, Bd (D ^ n) (S ^ n) (x ^ n)
  | 0 => by rw [Nat.pow_zero, Nat.pow_zero, Rat.pow_zero]; exact Bd.one (Nat.le_refl 1)
  | n + 1 => by
    rw [Nat.pow_succ, Nat.pow_succ, Rat.pow_succ]
    exact Bd.mul (fun e => h0 (Nat.pow_eq_zero.1 e).1) h0 (Bd.pow h0 h n) h
/-- z (z - 1) .. with i factors -/
def fallZ (z : Int) : Nat → Int
  | 0 => 1
  | i + 1 => fallZ z i * (z - i)
theorem fallZ_le {z : Int} {N : Nat} : ∀ i : Nat, z.natAbs + i ≤ N → (fallZ z i).natAbs ≤ N ^ i
  | 0, _ => by simp [fallZ]
  | i + 1, h => by
    rw [fallZ, Int.natAbs_mul, Nat.pow_succ]
    exact Nat.mul_le_mul (fallZ_le i (by omega)) (by omega)
/-- the first k terms of a row are taken away -/
def inner (p a : List Rat) (m n i : Nat) (x : Rat) : Nat → Rat
  | 0 => x
  | k + 1 => if i < m + k then inner p a m n i x k - p.getD k 0 * ((fallZ ((n : Int) - ((m : Int) + k - i)) i : Int) : Rat) * a.getD (n - (m + k - i)) 0 else inner p a m n i x k
/-- the first i rows are taken away -/
def outer (q : List (List Rat)) (a : List Rat) (m n : Nat) : Nat → Rat
  | 0 => 0
  | i + 1 => inner (q.getD i []) a m n i (outer q a m n i) (min (q.getD i []).length (n - m + 1))
/-- the next coefficient -/
def nextA (q : List (List Rat)) (m : Nat) (lead : Rat) (y : List Rat) (n : Nat) (a : List Rat) : Rat :=
  if n < m then y.getD n 0 / ((fallZ n n : Int) : Rat) else outer q a m n q.length / (lead * ((fallZ n m : Int) : Rat))
/-- the first n coefficients -/
def coefsL (q : List (List Rat)) (m : Nat) (lead : Rat) (y : List Rat) : Nat → List Rat
  | 0 => []
  | n + 1 => coefsL q m lead y n ++ [nextA q m lead y n (coefsL q m lead y n)]
theorem coefsL_length (q : List (List Rat)) (m : Nat) (lead : Rat) (y : List Rat) : ∀ n, (coefsL q m lead y n).length = n
  | 0 => rfl
  | n + 1 => by rw [coefsL, List.length_append, coefsL_length q m lead y n]; rfl
theorem coefsL_take (q : List (List Rat)) (m : Nat) (lead : Rat) (y : List Rat) {k n : Nat} (h : k ≤ n) : (coefsL q m lead y n).take k = coefsL q m lead y k := by
  induction n with
  | zero =>
    obtain rfl : k = 0 := by omega
    rfl
  | succ n ih =>
    rcases Nat.lt_or_ge n k with h1 | h1
    · obtain rfl : k = n + 1 := by omega
      rw [List.take_of_length_le (by rw [coefsL_length]; omega)]
    · rw [coefsL, List.take_append_of_le_length (by rw [coefsL_length]; exact h1), ih h1]
/-- all that is met while the coefficients are reckoned has few bits -/
structure Steady (B : Nat) (q : List (List Rat)) (m : Nat) (lead : Rat) (y : List Rat) (N : Nat) : Prop where
  flead : Fit B lead
  fy : ∀ x ∈ y, Fit B x
  fq : ∀ p ∈ q, ∀ x ∈ p, Fit B x
  ffall : ∀ n i : Nat, n < N → i ≤ m → ∀ z : Int, z.natAbs ≤ N → ∀ j ≤ i, Fit B ((fallZ z j : Int) : Rat)
  ffac : ∀ n : Nat, n < m → ∀ j ≤ n, Fit B ((fallZ n j : Int) : Rat)
  fa : ∀ n, n < N → Fit B (nextA q m lead y n (coefsL q m lead y n))
  fx : ∀ n i k, n < N → m ≤ n → i < q.length → k ≤ min (q.getD i []).length (n - m + 1) → Fit B (inner (q.getD i []) (coefsL q m lead y n) m n i (outer q (coefsL q m lead y n) m n i) k)
end Ord
namespace Ord
theorem fallZ_ne {z : Int} : ∀ {i : Nat}, (i : Int) ≤ z → fallZ z i ≠ 0
  | 0, _ => by simp [fallZ]
  | i + 1, h => by
    rw [fallZ]
    exact Int.mul_ne_zero (fallZ_ne (i := i) (by omega)) (by omega)
end Ord
namespace Go.Sy
open Go Go.Proofs Tryz Ord

def t119_8 : Tr := .back 0 [(.w (W 11 0)), (.w (W 10 0)), (.w (W 10 1)), (.w (W 10 2))]
def t119_7 : Tr := .need (.prim [(W 3 0), (WK (1))] none) (.binOp .add 3 (.tmp 9) (.const (I3 (1))) 3) 3 false t119_8
def t119_6 : Tr := .need (.call 36 [(.agg [(U 4 0), (U 5 0), (U 6 0)]), (.agg [(U 9 0), (U 9 1), (U 9 2)])] [(some 3)]) (.call ⟨.value (.func 36), #[(.tmp 12), (.tmp 16)], #[39, 39]⟩) 39 true t119_7
def t119_5 : Tr := .need (.call 68 [(W 8 0)] [(some 3)]) (.call ⟨.value (.func 68), #[(.tmp 15)], #[2]⟩) 39 true t119_6
def t119_4 : Tr := .need (.prim [(W 0 0), (W 3 0)] none) (.binOp .sub 3 (.tmp 13) (.tmp 14) 3) 3 false t119_5
def t119_9 : Tr := .ret [(.agg [(U 4 0), (U 5 0), (U 6 0)])]
def t119_3 : Tr := .split (.u 7 0) t119_4 t119_9
def t119_2 : Tr := .need (.prim [(W 3 0), (W 1 0)] none) (.binOp .lss 3 (.tmp 9) (.tmp 8) 3) 4 false t119_3
def t119_1 : Tr := .loop 0 [(.w (WK (0))), (.w (W 2 0)), (.w (W 2 1)), (.w (W 2 2))] t119_2
def t119_0 : Tr := .need (.call 68 [(WK (1))] [(some 3)]) (.call ⟨.value (.func 68), #[(.const (I3 (1)))], #[2]⟩) 39 true t119_1
theorem x_ofalling : execF prog f209 (fun _ => none) [.v none, .v none] = t119_0 := by kernel_rfl
def t120_10 : Tr := .back 0 [(.w (W 15 0)), (.w (W 14 0)), (.w (W 14 1)), (.w (W 14 2)), (.w (W 13 0)), (.w (W 13 1)), (.w (W 13 2))]
def t120_9 : Tr := .need (.prim [(W 3 0), (WK (2))] none) (.binOp .quo 3 (.tmp 9) (.const (I3 (2))) 3) 3 false t120_10
def t120_8 : Tr := .need (.call 36 [(.agg [(U 4 0), (U 5 0), (U 6 0)]), (.agg [(U 4 0), (U 5 0), (U 6 0)])] [(some 3)]) (.call ⟨.value (.func 36), #[(.tmp 17), (.tmp 18)], #[39, 39]⟩) 39 true t120_9
def t120_7 : Tr := .need (.call 36 [(.agg [(U 7 0), (U 8 0), (U 9 0)]), (.agg [(U 4 0), (U 5 0), (U 6 0)])] [(some 3)]) (.call ⟨.value (.func 36), #[(.tmp 14), (.tmp 15)], #[39, 39]⟩) 39 true t120_8
def t120_13 : Tr := .back 0 [(.w (W 14 0)), (.w (W 13 0)), (.w (W 13 1)), (.w (W 13 2)), (.w (W 7 0)), (.w (W 8 0)), (.w (W 9 0))]
def t120_12 : Tr := .need (.prim [(W 3 0), (WK (2))] none) (.binOp .quo 3 (.tmp 9) (.const (I3 (2))) 3) 3 false t120_13
def t120_11 : Tr := .need (.call 36 [(.agg [(U 4 0), (U 5 0), (U 6 0)]), (.agg [(U 4 0), (U 5 0), (U 6 0)])] [(some 3)]) (.call ⟨.value (.func 36), #[(.tmp 17), (.tmp 18)], #[39, 39]⟩) 39 true t120_12
def t120_6 : Tr := .split (.u 12 0) t120_7 t120_11
def t120_5 : Tr := .need (.prim [(W 11 0), (WK (1))] none) (.binOp .eql 3 (.tmp 12) (.const (I3 (1))) 3) 4 false t120_6
def t120_4 : Tr := .need (.prim [(W 3 0), (WK (2))] none) (.binOp .rem 3 (.tmp 11) (.const (I3 (2))) 3) 3 false t120_5
def t120_14 : Tr := .ret [(.agg [(U 7 0), (U 8 0), (U 9 0)])]
def t120_3 : Tr := .split (.u 10 0) t120_4 t120_14
def t120_2 : Tr := .need (.prim [(W 3 0), (WK (0))] none) (.binOp .gtr 3 (.tmp 7) (.const (I3 (0))) 3) 4 false t120_3
def t120_1 : Tr := .loop 0 [(.w (W 1 0)), (.w (W 0 0)), (.w (W 0 1)), (.w (W 0 2)), (.w (W 2 0)), (.w (W 2 1)), (.w (W 2 2))] t120_2
def t120_0 : Tr := .need (.call 68 [(WK (1))] [(some 3)]) (.call ⟨.value (.func 68), #[(.const (I3 (1)))], #[2]⟩) 39 true t120_1
theorem x_oraised : execF prog f203 (fun _ => none) [.v (some 3), .v none] = t120_0 := by kernel_rfl
def t121_1 : Tr := .ret [(.agg [(U 2 0), (U 2 1), (U 2 2)])]
def t121_0 : Tr := .need (.call 200 [(.agg [(U 0 0), (U 0 1), (U 0 2)]), (.agg [(U 1 0), (U 1 1), (U 1 2)])] [(some 3), none]) (.call ⟨.value (.func 200), #[(.tmp 8), (.tmp 9)], #[39, 39]⟩) 90 false t121_1
theorem x_oover : execF prog f207 (fun _ => none) [.v (some 3), .v (some 3)] = t121_0 := by kernel_rfl
def t122_9 : Tr := .back 0 [(.w (W 8 0)), (.w (W 9 0))]
def t122_8 : Tr := .need (.prim [(W 3 0), (WK (1))] none) (.binOp .add 3 (.tmp 9) (.const (I3 (1))) 3) 3 false t122_9
def t122_7 : Tr := .need (.prim [(W 2 0), (W 7 0)] none) (.call ⟨.builtin .max, #[(.tmp 13), (.tmp 15)], #[3, 3]⟩) 3 false t122_8
def t122_6 : Tr := .need (.call 95 [(W 6 0)] [none]) (.call ⟨.value (.func 95), #[(.tmp 14)], #[72]⟩) 3 true t122_7
def t122_5 : Tr := .need (.prim [(W 5 0)] none) (.load 72 (.tmp 11)) 72 false t122_6
def t122_4 : Tr := .need (.prim [(W 0 0), (W 3 0)] none) (.indexAddr 31 (.tmp 7) (.tmp 9)) 0 false t122_5
def t122_11 : Tr := .ret [(W 5 0)]
def t122_10 : Tr := .need (.prim [(W 0 1), (W 2 0)] none) (.binOp .add 3 (.tmp 19) (.tmp 20) 3) 3 false t122_11
def t122_3 : Tr := .split (.u 4 0) t122_4 t122_10
def t122_2 : Tr := .need (.prim [(W 3 0), (W 1 0)] none) (.binOp .lss 3 (.tmp 9) (.tmp 8) 3) 0 false t122_3
def t122_1 : Tr := .loop 0 [(.w (WK (0))), (.w (WK (0)))] t122_2
def t122_0 : Tr := .need (.prim [(W 0 0)] none) (.call ⟨.builtin .len, #[(.tmp 7)], #[31]⟩) 3 false t122_1
theorem x_owidth : execF prog f204 (fun _ => none) [.v (some 5)] = t122_0 := by kernel_rfl
def t123_12 : Tr := .back 0 [(.w (W 17 0)), (.row 16), (.w (W 7 0)), (.w (W 8 0)), (.w (W 9 0)), (.w (W 10 0))]
def t123_11 : Tr := .need (.prim [(W 5 0), (WK (1))] none) (.binOp .add 3 (.tmp 14) (.const (I3 (1))) 3) 3 false t123_12
def t123_10 : Tr := .need (.app 1 24 (some 6) none (some 15)) (.call ⟨.builtin .append, #[(.tmp 19), (.tmp 23)], #[31, 31]⟩) 31 false t123_11
def t123_9 : Tr := .need (.lit 1 [[(.u 14 0)]]) (.buildSlice 31 1 #[(0, (.tmp 22))]) 31 false t123_10
def t123_8 : Tr := .need (.call 31 [(W 13 0), (.agg [(U 1 0), (U 1 1), (U 1 2)])] [none]) (.call ⟨.value (.func 31), #[(.tmp 20), (.tmp 21)], #[72, 39]⟩) 72 true t123_9
def t123_7 : Tr := .need (.prim [(W 12 0)] none) (.load 72 (.tmp 16)) 72 false t123_8
def t123_6 : Tr := .need (.prim [(W 0 0), (W 5 0)] none) (.indexAddr 32 (.tmp 12) (.tmp 14)) 0 false t123_7
def t123_17 : Tr := .ret [(.agg [(.c (.sr 1 6)), (U 7 0), (U 14 0), (U 14 1), (U 14 2)])]
def t123_16 : Tr := .need (.prim [(W 13 0)] (some 3)) (.load 39 (.tmp 33)) 39 false t123_17
def t123_15 : Tr := .need (.prim [(W 12 0), (WK (0))] none) (.indexAddr 72 (.tmp 32) (.const (I3 (0)))) 0 false t123_16
def t123_14 : Tr := .need (.ldrow 6 (.u 7 0) 0 1 false) (.load 72 (.tmp 31)) 72 false t123_15
def t123_13 : Tr := .need (.idx 6 (.u 7 0)) (.indexAddr 31 (.tmp 28) (.tmp 30)) 0 false t123_14
def t123_5 : Tr := .split (.u 11 0) t123_6 t123_13
def t123_4 : Tr := .need (.prim [(W 5 0), (W 4 0)] none) (.binOp .lss 3 (.tmp 14) (.tmp 13) 3) 0 false t123_5
def t123_3 : Tr := .loop 0 [(.w (WK (0))), .nilrow, (.w (W 3 0)), (.w (.one (.c (.k (.slice none 0 0))))), (.w (.one (.c (.k (.bool false))))), (.w (.one (.c (.k (.slice none 0 0)))))] t123_4
def t123_2 : Tr := .need (.prim [(W 0 0)] none) (.call ⟨.builtin .len, #[(.tmp 12)], #[32]⟩) 3 false t123_3
def t123_1 : Tr := .need (.prim [(W 2 0), (WK (1))] none) (.binOp .sub 3 (.tmp 9) (.const (I3 (1))) 3) 3 false t123_2
def t123_0 : Tr := .need (.prim [(W 0 0)] none) (.call ⟨.builtin .len, #[(.tmp 8)], #[32]⟩) 3 false t123_1
theorem x_oat : execF prog f100 (fun _ => none) [.v none, .v (some 3)] = t123_0 := by kernel_rfl
def t124_3 : Tr := .ret [(.agg [(U 3 0), (U 3 1), (U 3 2)])]
def t124_2 : Tr := .need (.call 115 [(.agg [(U 1 0), (U 1 1)]), (.agg [(U 2 0)])] [(some 3)]) (.call ⟨.value (.func 115), #[(.tmp 3), (.tmp 5)], #[37, 35]⟩) 39 true t124_3
def t124_1 : Tr := .need (.call 256 [(W 0 0)] [(some 1)]) (.call ⟨.value (.func 256), #[(.tmp 4)], #[3]⟩) 35 true t124_2
def t124_0 : Tr := .need (.call 158 [(WK (1))] [(some 2)]) (.call ⟨.value (.func 158), #[(.const (I3 (1)))], #[2]⟩) 37 false t124_1
theorem x_Fine : execF prog f202 (fun _ => none) [.v none] = t124_0 := by kernel_rfl
def t125_3 : Tr := .ret [(.agg [(U 3 0)])]
def t125_2 : Tr := .need (.call 282 [(.agg [(U 1 0)]), (W 2 0)] [(some 1)]) (.call ⟨.value (.func 282), #[(.tmp 3), (.tmp 5)], #[35, 3]⟩) 35 true t125_3
def t125_1 : Tr := .need (.call 283 [(W 0 0), (WK (256))] [none]) (.call ⟨.value (.func 283), #[(.tmp 4), (.const (I3 (256)))], #[3, 3]⟩) 3 true t125_2
def t125_0 : Tr := .need (.call 195 [(.one (.c (.k (.int .u64 (2)))))] [(some 1)]) (.call ⟨.value (.func 195), #[(.const (.int .u64 (2)))], #[254]⟩) 35 false t125_1
theorem x_two : execF prog f256 (fun _ => none) [.v none] = t125_0 := by kernel_rfl

theorem intCast_mul (a b : Int) : ((a : Rat) * (b : Rat)) = ((a * b : Int) : Rat) := (Rat.intCast_mul a b).symm

theorem d_ofalling (z : Int) (i B : Nat) (hz1 : -4611686018427387904 ≤ z) (hz2 : z < 4611686018427387904) (hi : i < 4611686018427387904) (hB : B ≤ 17179869184) (h64 : 64 ≤ B) (hf : ∀ j, j ≤ i → Fit B ((fallZ z j : Int) : Rat)) : Does prog 209 [(.one (.int .i64 z) : STy), (.one (.int .i64 i) : STy)] (.ret [qT ((fallZ z i : Int) : Rat)]) := by
  refine does_of_vc (args := [.v none, .v none]) (ins := [.v (.one (.int .i64 z)), .v (.one (.int .i64 i))]) (hints := (fun _ => none)) fo (by kernel_rfl) func209 ⟨rfl, rfl, trivial⟩ ?_
  rw [x_ofalling]
  dsimp only [List.map, In.env, c_a, n_a]
  refine vcall (d_Int 1 (by omega) (by omega)) rfl ?_
  dsimp only [c_a, n_a]
  refine vloop {j : Nat // j ≤ i} (fun g => (.one (.int .i64 g.1) : STy) :: (qC ((fallZ z g.1 : Int) : Rat)).map .one) (fun g => i - g.1) ⟨0, Nat.zero_le _⟩ SubL.rfl (fun _ => rfl) ?_
  rintro ⟨j, hj⟩
  dsimp only [c_a, n_a, List.map] at hj ⊢
  refine vn q_lss rfl ?_
  dsimp only [c_a, n_a]
  refine vs _ rfl (fun h3 => ?_) (fun h3 => ?_)
  · refine vn (p_sub_i64 (by omega) (by omega)) rfl ?_
    dsimp only [c_a, n_a]
    refine vcall (d_Int (z - j) (by omega) (by omega)) rfl ?_
    dsimp only [c_a, n_a]
    refine vcall (d_QMul _ _ B 64 (hf j hj) (Fit.int (by omega) (by omega)) (by omega)) rfl ?_
    rw [intCast_mul]
    dsimp only [c_a, n_a]
    refine vn (p_add_i64 (by omega) (by omega)) rfl ?_
    dsimp only [c_a, n_a]
    exact vback rfl ⟨⟨j + 1, by omega⟩, SubL.rfl, by show i - (j + 1) < i - j; omega⟩
  rw [show i = j by omega]; exact vret rfl

theorem rpow_mul (x : Rat) (j : Nat) : x ^ j * x ^ j = x ^ (2 * j) := by rw [show 2 * j = j + j by omega, rpow_add]

theorem sq_odd {n i j k : Nat} (h1 : i + j * k = n) (hm : k % 2 = 1) : i + j + 2 * j * (k / 2) = n := by
  have h : k = 2 * (k / 2) + 1 := by omega
  generalize k / 2 = t at *
  subst h; subst h1; grind
theorem sq_even {n i j k : Nat} (h1 : i + j * k = n) (hm : k % 2 = 0) : i + 2 * j * (k / 2) = n := by
  have h : k = 2 * (k / 2) := by omega
  generalize k / 2 = t at *
  subst h; subst h1; grind

theorem d_oraised (x : Rat) (n B : Nat) (hn : n < 4611686018427387904) (hB : B ≤ 17179869184) (hf : ∀ j, j ≤ 2 * n + 1 → Fit B (x ^ j)) : Does prog 203 [(qT x : STy), (.one (.int .i64 n) : STy)] (.ret [qT (x ^ n)]) := by
  refine does_of_vc (args := [.v (some 3), .v none]) (ins := [.v (qT x), .v (.one (.int .i64 n))]) (hints := (fun _ => none)) fo (by kernel_rfl) func203 ⟨rfl, rfl, trivial⟩ ?_
  rw [x_oraised]
  dsimp only [List.map, In.env, c_a, n_a]
  refine vcall (d_Int 1 (by omega) (by omega)) rfl ?_
  dsimp only [c_a, n_a]
  refine vloop {g : Nat × Nat × Nat // g.2.1 + g.2.2 * g.1 = n ∧ g.2.2 ≤ 2 * n + 1 ∧ g.1 ≤ n} (fun g => (.one (.int .i64 g.1.1) : STy) :: ((qC (x ^ g.1.2.2)).map .one ++ (qC (x ^ g.1.2.1)).map .one)) (fun g => g.1.1) ⟨(n, 0, 1), by show 0 + 1 * n = n; omega, by show 1 ≤ _; omega, Nat.le_refl n⟩ (show SubL _ _ by
    dsimp only
    rw [Rat.pow_zero, show x ^ 1 = x by rw [Rat.pow_succ, Rat.pow_zero]; grind]
    exact SubL.rfl) (fun _ => rfl) ?_
  rintro ⟨⟨k, i, j⟩, h1, h2, hkn⟩
  dsimp only [c_a, n_a, List.map] at h1 h2 hkn ⊢
  refine vn q_gtr rfl ?_
  dsimp only [c_a, n_a]
  refine vs _ rfl (fun h3 => ?_) (fun h3 => ?_)
  · have hk : 0 < k := by omega
    have hjk : j ≤ j * k := Nat.le_mul_of_pos_right _ hk
    have hj2 : 2 * j ≤ 2 * n + 1 := by
      generalize j * k = u at h1 hjk
      omega
    refine vn (p_rem_n (by omega) (by omega)) rfl ?_
    dsimp only [c_a, n_a]
    refine vn q_eql rfl ?_
    dsimp only [c_a, n_a]
    refine vs _ rfl (fun h6 => ?_) (fun h6 => ?_)
    · refine vcall (d_QMul _ _ B B (hf i (by omega)) (hf j (by omega)) (by omega)) rfl ?_
      rw [← rpow_add]
      dsimp only [c_a, n_a]
      refine vcall (d_QMul _ _ B B (hf j (by omega)) (hf j (by omega)) (by omega)) rfl ?_
      rw [rpow_mul]
      dsimp only [c_a, n_a]
      refine vn (p_quo_i64 (by omega) (by omega) (by omega)) rfl ?_
      dsimp only [c_a, n_a]
      have hm : k % 2 = 1 := by omega
      exact vback rfl ⟨⟨(k / 2, i + j, 2 * j), sq_odd h1 hm, hj2, Nat.le_trans (Nat.div_le_self _ _) hkn⟩, SubL.rfl, by show k / 2 < k; omega⟩
    refine vcall (d_QMul _ _ B B (hf j (by omega)) (hf j (by omega)) (by omega)) rfl ?_
    rw [rpow_mul]
    dsimp only [c_a, n_a]
    refine vn (p_quo_i64 (by omega) (by omega) (by omega)) rfl ?_
    dsimp only [c_a, n_a]
    have hm : k % 2 = 0 := by omega
    exact vback rfl ⟨⟨(k / 2, i, 2 * j), sq_even h1 hm, hj2, Nat.le_trans (Nat.div_le_self _ _) hkn⟩, SubL.rfl, by show k / 2 < k; omega⟩
  have hk : k = 0 := by omega
  subst hk
  rw [show n = i by omega]; exact vret rfl

theorem d_oover (a b : Rat) (A B : Nat) (hb0 : b ≠ 0) (ha : Fit A a) (hb : Fit B b) (h : A + B ≤ 34359738368) : Does prog 207 [(qT a : STy), (qT b : STy)] (.ret [qT (a / b)]) := by
  refine does_of_vc (args := [.v (some 3), .v (some 3)]) (ins := [.v (qT a), .v (qT b)]) (hints := (fun _ => none)) fo (by kernel_rfl) func207 ⟨rfl, rfl, trivial⟩ ?_
  rw [x_oover]
  dsimp only [List.map, In.env, c_a, n_a]
  have hd := d_QDiv a b A B ha hb h
  rw [if_neg hb0, if_neg hb0] at hd
  refine vcall hd rfl ?_
  dsimp only [c_a, n_a]
  exact vret rfl

/-- a place: the moved equation, the order, the leading coefficient -/
abbrev spT (q : List (List Rat)) (m : Nat) (lead : Rat) : STy := .agg ([eQ q, .int .i64 m] ++ qC lead)
def degMax (q : List (List Rat)) : Nat := q.foldl (fun d p => max d (tlen zr p - 1)) 0
theorem degMax_snoc (q : List (List Rat)) (p : List Rat) : degMax (q ++ [p]) = max (degMax q) (tlen zr p - 1) := by simp [degMax]
theorem degMax_le {N : Nat} : ∀ (q : List (List Rat)), (∀ p ∈ q, p.length ≤ N) → degMax q ≤ N := by
  have key : ∀ (q : List (List Rat)) (d : Nat), d ≤ N → (∀ p ∈ q, p.length ≤ N) → q.foldl (fun d p => max d (tlen zr p - 1)) d ≤ N := by
    intro q
    induction q with
    | nil => intro d h _; exact h
    | cons p q ih =>
      intro d h hp
      have := tlen_le (z := zr) p
      have := hp p List.mem_cons_self
      exact ih _ (show max d (tlen zr p - 1) ≤ N by omega) fun r hr => hp r (List.mem_cons_of_mem _ hr)
  exact fun q h => key q 0 (Nat.zero_le _) h

theorem d_owidth (q : List (List Rat)) (m : Nat) (lead : Rat) (hq : ∀ p ∈ q, p.length < 1099511627776) (hql : q.length < 1099511627776) (hm : m < 1099511627776) : Does prog 204 [(spT q m lead : STy)] (.ret [.one (.int .i64 ((m + degMax q : Nat) : Int))]) := by
  refine does_of_vc (args := [.v (some 5)]) (ins := [.v (spT q m lead)]) (hints := (fun _ => none)) fo (by kernel_rfl) func204 ⟨rfl, trivial⟩ ?_
  rw [x_owidth]
  dsimp only [List.map, In.env, c_a, n_a]
  refine vn (p_len el31 (List.length_map _)) rfl ?_
  dsimp only [c_a, n_a]
  refine vloop {i : Nat // i ≤ q.length} (fun g => [.one (.int .i64 ((degMax (q.take g.1) : Nat) : Int)), .one (.int .i64 g.1)]) (fun g => q.length - g.1) ⟨0, Nat.zero_le _⟩ SubL.rfl (fun _ => rfl) ?_
  rintro ⟨i, hi⟩
  dsimp only [c_a, n_a] at hi ⊢
  have hd := degMax_le (N := 1099511627776) (q.take i) fun p hp => Nat.le_of_lt (hq p (List.mem_of_mem_take hp))
  refine vn q_lss rfl ?_
  dsimp only [c_a, n_a]
  refine vs _ rfl (fun h3 => ?_) (fun h3 => ?_)
  · obtain ⟨p, hp⟩ : ∃ p, q[i]? = some p := ⟨_, List.getElem?_eq_getElem (by omega)⟩
    have hpl := hq p (List.mem_of_getElem? hp)
    refine vn (p_idxm el31 (by omega) (by omega) hp) rfl ?_
    dsimp only [c_a, n_a]
    refine vn (p_load1 ag72) rfl ?_
    dsimp only [c_a, n_a]
    refine vcall (d_pDegree p hpl) rfl ?_
    dsimp only [c_a, n_a]
    refine vn p_max rfl ?_
    dsimp only [c_a, n_a]
    refine vn (p_add_i64 (by omega) (by omega)) rfl ?_
    dsimp only [c_a, n_a]
    have e : max ((degMax (q.take i) : Nat) : Int) ((tlen zr p : Int) - 1) = ((degMax (q.take (i + 1)) : Nat) : Int) := by
      rw [List.take_add_one, hp, Option.toList_some, degMax_snoc]; omega
    exact vback rfl ⟨⟨i + 1, by omega⟩, SubL.of_eq (by rw [List.map_cons, List.map_cons, List.map_nil]; dsimp only; rw [← e]; rfl), by show q.length - (i + 1) < q.length - i; omega⟩
  rw [show i = q.length by omega, List.take_length] at hd ⊢
  refine vn (p_add_i64 (by omega) (by omega)) rfl ?_
  dsimp only [c_a, n_a]
  rw [show ((m + degMax q : Nat) : Int) = (m : Int) + (degMax q : Int) by omega]; exact vret rfl

theorem take_snoc2 {α : Type} {l : List α} {i : Nat} {x : α} (h : l[i]? = some x) : l.take i ++ [x] = l.take (i + 1) := by
  rw [List.take_add_one, h]; rfl
/-- the leading coefficient of an equation at a number -/
def leadOf (e : List (List Rat)) (c : Rat) : Rat := (shiftL (e.getD (e.length - 1) []) c).getD 0 0

theorem d_oat (e : List (List Rat)) (c : Rat) (D E S T K B : Nat) (h0 : D ≠ 0) (h1 : E ≠ 0) (hp : ∀ p ∈ e, (∀ a ∈ p, Bd D S a) ∧ p.length ≤ K) (hc : Bd E T c) (hT : 1 ≤ T) (hK : K ≤ 1073741824) (hB : B ≤ 8589934592) (hX : roomC D E S T K < 2 ^ B) (he : 0 < e.length) (hel : e.length < 1099511627776) (hne : shiftL (e.getD (e.length - 1) []) c ≠ []) : Does prog 100 [(.one (eQ e) : STy), (qT c : STy)] (.ret [spT (e.map (shiftL · c)) (e.length - 1) (leadOf e c)]) := by
  refine does_of_vc (args := [.v none, .v (some 3)]) (ins := [.v (.one (eQ e)), .v (qT c)]) (hints := (fun _ => none)) fo (by kernel_rfl) func100 ⟨rfl, rfl, trivial⟩ ?_
  rw [x_oat]
  dsimp only [List.map, In.env, c_a, n_a]
  have e1 : (e.length : Int) - 1 = ((e.length - 1 : Nat) : Int) := by omega
  refine vn (p_len el32 (List.length_map _)) rfl ?_
  dsimp only [c_a, n_a]
  refine vn (p_sub_i64 (by omega) (by omega)) rfl ?_
  rw [e1]
  dsimp only [c_a, n_a]
  refine vn (p_len el32 (List.length_map _)) rfl ?_
  dsimp only [c_a, n_a]
  refine vloop {i : Nat // i ≤ e.length} (fun g => [.one (.int .i64 g.1), .rows ((e.take g.1).map fun p => cQ (shiftL p c)), .one (.int .i64 ((e.length - 1 : Nat) : Int)), .one (.exact (.slice none 0 0)), .one (.bool false), .one (.exact (.slice none 0 0))]) (fun g => e.length - g.1) ⟨0, Nat.zero_le _⟩ SubL.rfl (fun _ => rfl) ?_
  rintro ⟨i, hi⟩
  dsimp only [c_a, n_a] at hi ⊢
  refine vn q_lss rfl ?_
  dsimp only [c_a, n_a]
  refine vs _ rfl (fun h5 => ?_) (fun h5 => ?_)
  · obtain ⟨p, hpi⟩ : ∃ p, e[i]? = some p := ⟨_, List.getElem?_eq_getElem (by omega)⟩
    obtain ⟨hpb, hpk⟩ := hp p (List.mem_of_getElem? hpi)
    have hti : (e.take i).length ≤ i := by rw [List.length_take]; omega
    refine vn (p_idxm el32 (by omega) (by omega) hpi) rfl ?_
    dsimp only [c_a, n_a]
    refine vn (p_load1 ag72) rfl ?_
    dsimp only [c_a, n_a]
    refine vcall (d_pShift p c D E S T K B h0 h1 hpb hc hT hpk hK hB hX) rfl ?_
    dsimp only [c_a, n_a]
    refine vlit (us := [cQ (shiftL p c)]) rfl ?_
    dsimp only [c_a, n_a]
    refine vappm (xs := e.take i) (x := p) (f := fun p => cQ (shiftL p c)) rfl rfl (by omega) (by simp only [maxLen]; omega) ?_
    rw [take_snoc2 hpi]
    dsimp only [c_a, n_a]
    refine vn (p_add_i64 (by omega) (by omega)) rfl ?_
    dsimp only [c_a, n_a]
    exact vback rfl ⟨⟨i + 1, by omega⟩, SubL.rfl, by show e.length - (i + 1) < e.length - i; omega⟩
  have hie : i = e.length := by omega
  subst hie
  rw [List.take_length]
  obtain ⟨p, hpi⟩ : ∃ p, e[e.length - 1]? = some p := ⟨_, List.getElem?_eq_getElem (by omega)⟩
  have hgd : e.getD (e.length - 1) [] = p := by rw [List.getD_eq_getElem?_getD, hpi]; rfl
  rw [hgd] at hne
  have hlen : 0 < (shiftL p c).length := List.length_pos_iff.2 hne
  refine vidxm rfl rfl (by omega) (by first | omega | (rw [List.length_set]; omega)) ?_
  refine vldm1 rfl rfl (by omega) (Int.toNat_natCast _) hpi rfl ?_
  dsimp only [c_a, n_a]
  refine vn (p_idxm el72 (by omega) rfl (getD_of (l := shiftL p c) hlen)) rfl ?_
  dsimp only [c_a, n_a]
  refine vn (p_load ag39 (by decide) (by simp) (.inl rfl)) rfl ?_
  dsimp only [c_a, n_a]
  rw [show leadOf e c = (shiftL p c).getD 0 0 by rw [leadOf, hgd], show (e.map fun p => cQ (shiftL p c)) = (e.map (shiftL · c)).map cQ by rw [List.map_map]; rfl]
  exact vret rfl

theorem d_two (k : Nat) (hk : k ≤ 256) : Does prog 256 [(.one (.int .i64 k) : STy)] (.ret [mT (2 ^ k)]) := by
  refine does_of_vc (args := [.v none]) (ins := [.v (.one (.int .i64 k))]) (hints := (fun _ => none)) fo (by kernel_rfl) func256 ⟨rfl, trivial⟩ ?_
  rw [x_two]
  dsimp only [List.map, In.env, c_a, n_a]
  refine vcall (d_small 2 (by omega)) rfl ?_
  dsimp only [c_a, n_a]
  refine vcall (d_within k 256) rfl ?_
  rw [show max (0 : Int) (min (k : Int) 256) = (k : Int) by omega]
  dsimp only [c_a, n_a]
  refine vcall (d_power 2 k 2 (by omega) (by omega) (by omega) (by omega)) rfl ?_
  dsimp only [c_a, n_a]
  exact vret rfl

theorem d_Fine (k : Nat) (hk : k ≤ 256) : Does prog 202 [(.one (.int .i64 k) : STy)] (.ret [qT (mkRat 1 (2 ^ k))]) := by
  refine does_of_vc (args := [.v none]) (ins := [.v (.one (.int .i64 k))]) (hints := (fun _ => none)) fo (by kernel_rfl) func202 ⟨rfl, trivial⟩ ?_
  rw [x_Fine]
  dsimp only [List.map, In.env, c_a, n_a]
  refine vcall (d_ofInt 1 (by omega) (by omega)) rfl ?_
  dsimp only [c_a, n_a]
  refine vcall (d_two k hk) rfl ?_
  dsimp only [c_a, n_a]
  refine vcall (d_ratio 1 (2 ^ k) (Nat.pow_pos (by omega)) (by
    obtain ⟨H, hH⟩ : ∃ H, H = 257 := ⟨_, rfl⟩
    have h1 : (dg (2 ^ k)).length ≤ H := dl_bits (Nat.pow_lt_pow_right (by omega) (by omega))
    have h2 : (dg (1 : Int).natAbs).length = 1 := by rw [show (1 : Int).natAbs = 1 from rfl, dl_one (by omega) (by omega)]; rfl
    omega)) rfl ?_
  dsimp only [c_a, n_a]
  exact vret rfl
end Go.Sy
