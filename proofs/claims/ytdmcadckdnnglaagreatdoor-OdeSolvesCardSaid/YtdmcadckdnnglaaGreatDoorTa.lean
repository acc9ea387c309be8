/- Decimal digits: so many of them, and those of a number. The texts of numbers.
-/
import Derived.Test.YtdmcadckdnnglaaGreatDoorPa
import Derived.Lib.ItoaNum
import Derived.Lib.Repeat
import Derived.Test.YtdmcadckdnnglaaGreatDoorRb
set_option linter.unusedVariables false
set_option linter.unusedSimpArgs false
namespace Go.Sy
open Go
abbrev VV (d : Nat) : UInt8 := UInt8.ofNat (48 + d)
def jU : Nat → Nat → List UInt8
 | 0, _ => []
 | k + 1, n => jU k (n / 10) ++ [VV (n % 10)]
abbrev dec (n : Nat) : List UInt8 := Lib.decDigits n
theorem sS {n : Nat} (h : n < 10) : dec n = [VV n] := by rw [dec, Lib.decDigits, dif_pos h]
theorem vL {n : Nat} (h : ¬ n < 10) : dec n = dec (n / 10) ++ [VV (n % 10)] := by rw [dec, Lib.decDigits, dif_neg h]
theorem uD : ∀ k n, (jU k n).length = k
 | 0, _ => rfl
 | k + 1, n => by rw [jU, List.length_append, uD k]; rfl
theorem Cf : ∀ k n, jU k (n % 10 ^ k) = jU k n
 | 0, _ => rfl
 | k + 1, n => by
   have h1 : n % 10 ^ (k + 1) / 10 = n / 10 % 10 ^ k := by
    rw [Nat.pow_succ, Nat.mul_comm, Nat.mod_mul_right_div_self]
   have h2 : n % 10 ^ (k + 1) % 10 = n % 10 := Nat.mod_mod_of_dvd n ⟨10 ^ k, by rw [Nat.pow_succ, Nat.mul_comm]⟩
   rw [jU, jU, h1, h2, Cf k]
theorem Ac : ∀ k, jU k 0 = List.replicate k 48
 | 0 => rfl
 | k + 1 => by rw [jU, Nat.zero_div, Ac k, Nat.zero_mod, List.replicate_succ']; rfl
theorem zM : ∀ k n, 0 < n / 10 ^ k → dec n = dec (n / 10 ^ k) ++ jU k n
 | 0, n, _ => by simp [jU]
 | k + 1, n, h => by
   rw [Nat.pow_succ, Nat.mul_comm, ← Nat.div_div_eq_div_mul] at h ⊢
   have h10 : ¬ n < 10 := fun hn => by rw [Nat.div_eq_of_lt hn, Nat.zero_div] at h; omega
   rw [vL h10, zM k (n / 10) h, jU, List.append_assoc]
theorem JB {k m d : Nat} (hm : 0 < m) (hd : d < 10 ^ k) : dec (d + 10 ^ k * m) = dec m ++ jU k d := by
 have hp : 0 < 10 ^ k := Nat.pow_pos (by omega)
 have e : (d + 10 ^ k * m) / 10 ^ k = m := by rw [Nat.add_mul_div_left _ _ hp, Nat.div_eq_of_lt hd, Nat.zero_add]
 rw [zM k _ (by rw [e]; exact hm), e, ← Cf k (d + _), Nat.add_mul_mod_self_left, Nat.mod_eq_of_lt hd]
theorem jD : ∀ {k n : Nat}, 0 < k → n < 10 ^ k → (dec n).length ≤ k
 | k + 1, n, _, h => by
   by_cases h10 : n < 10
   ·rw [sS h10]; simp
   ·rw [vL h10, List.length_append]
    have h1 : n / 10 < 10 ^ k := by rw [Nat.pow_succ] at h; omega
    have hk : 0 < k := by rcases Nat.eq_zero_or_pos k with rfl | h2; · simp at h; omega
                          ·exact h2
    have := jD hk h1
    simp; omega
theorem Db : ∀ {k n : Nat}, 0 < k → n < 10 ^ k → jU k n = List.replicate (k - (dec n).length) 48 ++ dec n
 | k + 1, n, _, h => by
   by_cases h10 : n < 10
   ·rw [sS h10, jU, Nat.div_eq_of_lt h10, Ac, Nat.mod_eq_of_lt h10]; rfl
   ·have h1 : n / 10 < 10 ^ k := by rw [Nat.pow_succ] at h; omega
    have hk : 0 < k := by rcases Nat.eq_zero_or_pos k with rfl | h2; · simp at h; omega
                          ·exact h2
    rw [vL h10, jU, Db hk h1, List.append_assoc, List.length_append]
    congr 2; simp
theorem VW (c : Nat) : Lib.repeatL [48] c = List.replicate c 48 := by
 induction c with
 | zero => rfl
 | succ c ih => rw [Lib.repeatL, ih, List.replicate_succ]; rfl
theorem JZ : dec 0 = [48] := by rw [sS (by omega)]; rfl
def WG (z : Int) : List UInt8 := (if z < 0 then [45] else []) ++ dec z.natAbs
def Jd (q : Rat) : List UInt8 := WG q.num ++ if q.den = 1 then [] else 47 :: dec q.den
end Go.Sy
namespace Go.Sy
open Go Go.Proofs Tryz Ord
abbrev sT (l : List UInt8) : aF := .str ⟨l.toArray⟩
abbrev bS (l : List UInt8) : aI := .one (sT l)
section
variable {P : Program} {T U ty : TypeId} {x y z : Operand}
theorem wD {a b : List UInt8} (h : a.length + b.length ≤ 9223372036854775807) : aQ P (.binOp .add T x y U) ty [bS a, bS b] (bS (a ++ b)) := by
 have e : (⟨(a ++ b).toArray⟩ : ByteArray) = ⟨a.toArray⟩ ++ ⟨b.toArray⟩ := by
  apply ByteArray.ext
  rw [ByteArray.data_append]
  simp
 show aQ P _ ty _ (.one (.str ⟨(a ++ b).toArray⟩))
 rw [e]
 exact Hf (by show ((a.toArray.size + b.toArray.size : Nat) : Int) ≤ _; simp only [List.size_toArray]; omega)
theorem EG {a b : List UInt8} : aQ P (.binOp .eql T x y U) ty [bS a, bS b] (.one (.bool (decide (a = b)))) := by
 have : decide (a = b) = decide ((ByteArray.mk a.toArray).data = (ByteArray.mk b.toArray).data) := by
  rw [decide_eq_decide]
  exact ⟨fun h => by rw [h], fun h => by simpa using congrArg Array.toList h⟩
 rw [this]; exact Pp
end
def Tx : Tr := .need (.prim [(W 3 0)] none) (.unOp .not 4 (tT 15)) 4 false (.split (.u 4 0) (aN 117 [(G3 0)] [(some 1)] [18] [39] 35 false (aN 178 [(G1 5)] [none] [19] [35] 9 false (.need (.prim [(.one (.c (.k (.string ⟨#[47]⟩)))), (W 6 0)] none) (.binOp .add 9 (.const (.string ⟨#[47]⟩)) (tT 20) 9) 9 false (bK .add 9 17 21 2 0 7 0 9 (.ret [(W 8 0)]))))) (.ret [(W 2 0)]))
def Qg : Tr := .need (.prim [(W 2 0)] none) (.unOp .not 4 (tT 15)) 4 false (.split (.u 3 0) (aN 117 [(G3 0)] [(some 1)] [18] [39] 35 false (aN 178 [(G1 4)] [none] [19] [35] 9 false (.need (.prim [(.one (.c (.k (.string ⟨#[47]⟩)))), (W 5 0)] none) (.binOp .add 9 (.const (.string ⟨#[47]⟩)) (tT 20) 9) 9 false (bK .add 9 17 21 1 0 6 0 9 (.ret [(W 7 0)]))))) (.ret [(W 1 0)]))
def Sn : Tr := aN 178 [(G1 0)] [none] [6] [35] 9 true (.split (.u 0 1) (.need (.prim [(.one (.c (.k (.string ⟨#[45]⟩)))), (W 1 0)] none) (.binOp .add 9 (.const (.string ⟨#[45]⟩)) (tT 11) 9) 9 false (aN 179 [(.agg [(U 0 2)])] [none] [14] [35] 4 true Tx)) (aN 179 [(.agg [(U 0 2)])] [none] [14] [35] 4 true Qg))
theorem LO : aL prog f90 (fun _ => none) [.v (some 3)] = Sn := by kernel_rfl
theorem uE {n H : Nat} (h : n < 2 ^ H) : (dec n).length ≤ H + 1 :=
 jD (Nat.succ_pos H) (Nat.lt_of_lt_of_le h (Nat.le_trans (Nat.pow_le_pow_left (by omega) H) (Nat.pow_le_pow_right (by omega) (Nat.le_succ H))))
end Go.Sy
