/- Decimal digits: so many of them, and those of a number. The texts of numbers.
-/
import Derived.Test.YtdmcadckdnnglaaGreatDoorPa
import Derived.Lib.ItoaNum
import Derived.Lib.Repeat
import Derived.Test.YtdmcadckdnnglaaGreatDoorRb
set_option linter.unusedVariables false
set_option linter.unusedSimpArgs false
namespace Go.Sy
open Go
abbrev HW (d : Nat) : UInt8 := UInt8.ofNat (48 + d)
def eK : Nat → Nat → List UInt8
 | 0, _ => []
 | k + 1, n => eK k (n / 10) ++ [HW (n % 10)]
abbrev dec (n : Nat) : List UInt8 := Lib.decDigits n
theorem dZ {n : Nat} (h : n < 10) : dec n = [HW n] := by rw [dec, Lib.decDigits, dif_pos h]
theorem fM {n : Nat} (h : ¬ n < 10) : dec n = dec (n / 10) ++ [HW (n % 10)] := by rw [dec, Lib.decDigits, dif_neg h]
theorem pK : ∀ k n, (eK k n).length = k
 | 0, _ => rfl
 | k + 1, n => by rw [eK, List.length_append, pK k]; rfl
theorem xN : ∀ j k n, eK (j + k) n = eK j (n / 10 ^ k) ++ eK k n
 | j, 0, n => by simp [eK]
 | j, k + 1, n => by
   show eK (j + k) (n / 10) ++ [HW (n % 10)] = _
   rw [xN j k (n / 10), eK, List.append_assoc, Nat.div_div_eq_div_mul, Nat.pow_succ, Nat.mul_comm 10]
theorem xG : ∀ k n, eK k (n % 10 ^ k) = eK k n
 | 0, _ => rfl
 | k + 1, n => by
   have h1 : n % 10 ^ (k + 1) / 10 = n / 10 % 10 ^ k := by
    rw [Nat.pow_succ, Nat.mul_comm, Nat.mod_mul_right_div_self]
   have h2 : n % 10 ^ (k + 1) % 10 = n % 10 := Nat.mod_mod_of_dvd n ⟨10 ^ k, by rw [Nat.pow_succ, Nat.mul_comm]⟩
   rw [eK, eK, h1, h2, xG k]
theorem An : ∀ k, eK k 0 = List.replicate k 48
 | 0 => rfl
 | k + 1 => by rw [eK, Nat.zero_div, An k, Nat.zero_mod, List.replicate_succ']; rfl
theorem zK : ∀ k n, 0 < n / 10 ^ k → dec n = dec (n / 10 ^ k) ++ eK k n
 | 0, n, _ => by simp [eK]
 | k + 1, n, h => by
   rw [Nat.pow_succ, Nat.mul_comm, ← Nat.div_div_eq_div_mul] at h ⊢
   have h10 : ¬ n < 10 := fun hn => by rw [Nat.div_eq_of_lt hn, Nat.zero_div] at h; omega
   rw [fM h10, zK k (n / 10) h, eK, List.append_assoc]
theorem Kt {k m d : Nat} (hm : 0 < m) (hd : d < 10 ^ k) : dec (d + 10 ^ k * m) = dec m ++ eK k d := by
 have hp : 0 < 10 ^ k := Nat.pow_pos (by omega)
 have e : (d + 10 ^ k * m) / 10 ^ k = m := by rw [Nat.add_mul_div_left _ _ hp, Nat.div_eq_of_lt hd, Nat.zero_add]
 rw [zK k _ (by rw [e]; exact hm), e, ← xG k (d + _), Nat.add_mul_mod_self_left, Nat.mod_eq_of_lt hd]
theorem vI (n : Nat) : 0 < (dec n).length := by
 by_cases h : n < 10
 ·rw [dZ h]; simp
 ·rw [fM h, List.length_append]; simp
theorem gV : ∀ {k n : Nat}, 0 < k → n < 10 ^ k → (dec n).length ≤ k
 | k + 1, n, _, h => by
   by_cases h10 : n < 10
   ·rw [dZ h10]; simp
   ·rw [fM h10, List.length_append]
    have h1 : n / 10 < 10 ^ k := by rw [Nat.pow_succ] at h; omega
    have hk : 0 < k := by rcases Nat.eq_zero_or_pos k with rfl | h2; · simp at h; omega
                          ·exact h2
    have := gV hk h1
    simp; omega
theorem xD : ∀ {k n : Nat}, 0 < k → n < 10 ^ k → eK k n = List.replicate (k - (dec n).length) 48 ++ dec n
 | k + 1, n, _, h => by
   by_cases h10 : n < 10
   ·rw [dZ h10, eK, Nat.div_eq_of_lt h10, An, Nat.mod_eq_of_lt h10]; rfl
   ·have h1 : n / 10 < 10 ^ k := by rw [Nat.pow_succ] at h; omega
    have hk : 0 < k := by rcases Nat.eq_zero_or_pos k with rfl | h2; · simp at h; omega
                          ·exact h2
    rw [fM h10, eK, xD hk h1, List.append_assoc, List.length_append]
    congr 2; simp
theorem Yo (c : Nat) : Lib.repeatL [48] c = List.replicate c 48 := by
 induction c with
 | zero => rfl
 | succ c ih => rw [Lib.repeatL, ih, List.replicate_succ]; rfl
theorem Jh {d e : Nat} (hd : d < 10) (he : e < 10) (h : HW d = HW e) : d = e := by
 have := congrArg UInt8.toNat h
 simp only [HW, UInt8.toNat_ofNat'] at this
 omega
theorem tB {d : Nat} (hd : d < 10) : (HW d).toNat = 48 + d := by
 simp only [HW, UInt8.toNat_ofNat']; omega
theorem AD : ∀ (n : Nat), ∀ c ∈ dec n, 48 ≤ c.toNat ∧ c.toNat < 58 := by
 intro n
 induction n using Nat.strongRecOn with
 | ind n ih =>
   intro c hc
   by_cases h : n < 10
   ·rw [dZ h] at hc
    simp only [List.mem_singleton] at hc
    subst hc
    rw [tB h]; omega
   ·rw [fM h] at hc
    rcases List.mem_append.1 hc with hc | hc
    ·exact ih _ (by omega) c hc
    ·simp only [List.mem_singleton] at hc
     subst hc
     rw [tB (by omega)]; omega
theorem vR : ∀ {m n : Nat}, dec m = dec n → m = n := by
 intro m
 induction m using Nat.strongRecOn with
 | ind m ih =>
   intro n h
   by_cases hm : m < 10
   ·by_cases hn : n < 10
    ·rw [dZ hm, dZ hn] at h
     simp only [List.cons.injEq, and_true] at h
     exact Jh hm hn h
    ·rw [dZ hm, fM hn] at h
     have := congrArg List.length h
     have h2 := vI (n / 10)
     simp only [List.length_append, List.length_cons, List.length_nil] at this; omega
   ·by_cases hn : n < 10
    ·rw [fM hm, dZ hn] at h
     have := congrArg List.length h
     have h2 := vI (m / 10)
     simp only [List.length_append, List.length_cons, List.length_nil] at this; omega
    ·rw [fM hm, fM hn] at h
     obtain ⟨h1, h2⟩ := List.append_inj' h rfl
     simp only [List.cons.injEq, and_true] at h2
     have := ih (m / 10) (by omega) h1
     have := Jh (Nat.mod_lt _ (by omega)) (Nat.mod_lt _ (by omega)) h2
     omega
theorem IW : ∀ (n : Nat), n ≠ 0 → ∀ c, (dec n).head? = some c → c ≠ 48 := by
 intro n
 induction n using Nat.strongRecOn with
 | ind n ih =>
   intro h0 c hc
   by_cases h : n < 10
   ·rw [dZ h] at hc
    simp only [List.head?_cons, Option.some.injEq] at hc
    subst hc
    intro e
    have := congrArg UInt8.toNat e
    rw [tB h] at this
    simp at this; omega
   ·rw [fM h] at hc
    have h2 := vI (n / 10)
    rw [List.head?_append] at hc
    cases hd : (dec (n / 10)).head? with
    | none => rw [List.head?_eq_none_iff] at hd; rw [hd] at h2; simp at h2
    | some d =>
      rw [hd] at hc
      simp only [Option.some_or, Option.some.injEq] at hc
      subst hc
      exact ih (n / 10) (by omega) (by omega) d hd
theorem Fx : dec 1 = [49] := by rw [dZ (by omega)]; rfl
theorem Ck : dec 0 = [48] := by rw [dZ (by omega)]; rfl
def mJ (z : Int) : List UInt8 := (if z < 0 then [45] else []) ++ dec z.natAbs
def rV (q : Rat) : List UInt8 := mJ q.num ++ if q.den = 1 then [] else 47 :: dec q.den
theorem Gx {z : Int} : ∀ c ∈ mJ z, c ≠ 47 := by
 intro c hc
 unfold mJ at hc
 rcases List.mem_append.1 hc with hc | hc
 ·split at hc
  ·simp only [List.mem_singleton] at hc; subst hc; decide
  ·cases hc
 ·intro e; subst e
  have := (AD _ _ hc).1
  simp at this
theorem Lh {y z : Int} (h : mJ y = mJ z) : y = z := by
 have hh : ∀ n : Nat, (dec n).head? ≠ some 45 := fun n e => by
  have := (AD n 45 (List.mem_of_head? e)).1
  simp at this
 unfold mJ at h
 split at h <;> split at h
 ·have := vR (List.append_cancel_left h); omega
 ·rename_i h1 h2
  rw [List.nil_append] at h
  exact (hh _ (by rw [← h]; rfl)).elim
 ·rename_i h1 h2
  rw [List.nil_append] at h
  exact (hh _ (by rw [h]; rfl)).elim
 ·have := vR (List.append_cancel_left h); omega
theorem Wk {a b a' b' : List UInt8} (ha : ∀ c ∈ a, c ≠ 47) (ha' : ∀ c ∈ a', c ≠ 47) (hb : b = [] ∨ b.head? = some 47) (hb' : b' = [] ∨ b'.head? = some 47) (h : a ++ b = a' ++ b') : a = a' ∧ b = b' := by
 induction a generalizing a' with
 | nil =>
   cases a' with
   | nil => exact ⟨rfl, h⟩
   | cons x a' =>
     rw [List.nil_append, List.cons_append] at h
     subst h
     rcases hb with hb | hb
     ·cases hb
     ·simp only [List.head?_cons, Option.some.injEq] at hb
      exact (ha' x List.mem_cons_self hb).elim
 | cons y a ih =>
   cases a' with
   | nil =>
     rw [List.nil_append, List.cons_append] at h
     subst h
     rcases hb' with hb | hb
     ·cases hb
     ·simp only [List.head?_cons, Option.some.injEq] at hb
      exact (ha y List.mem_cons_self hb).elim
   | cons x a' =>
     simp only [List.cons_append, List.cons.injEq] at h
     obtain ⟨rfl, h⟩ := h
     obtain ⟨rfl, h2⟩ := ih (fun c hc => ha c (List.mem_cons_of_mem _ hc)) (fun c hc => ha' c (List.mem_cons_of_mem _ hc)) h
     exact ⟨rfl, h2⟩
theorem KO {p q : Rat} (h : rV p = rV q) : p = q := by
 unfold rV at h
 have hh : ∀ r : Rat, (if r.den = 1 then [] else 47 :: dec r.den) = [] ∨ (if r.den = 1 then [] else 47 :: dec r.den : List UInt8).head? = some 47 := fun r => by
  split
  ·exact .inl rfl
  ·exact .inr rfl
 obtain ⟨h1, h2⟩ := Wk (fun c => Gx c) (fun c => Gx c) (hh p) (hh q) h
 refine Rat.ext (Lh h1) ?_
 split at h2 <;> split at h2
 ·omega
 ·cases h2
 ·cases h2
 ·simp only [List.cons.injEq, true_and] at h2; exact vR h2
theorem Mg {p q : Rat} : rV p = rV q ↔ p = q := ⟨KO, fun h => by rw [h]⟩
end Go.Sy
namespace Go.Sy
open Go Go.Proofs Tryz Ord
abbrev sT (l : List UInt8) : aF := .str ⟨l.toArray⟩
abbrev bS (l : List UInt8) : aH := .one (sT l)
section
variable {P : Program} {T U ty : TypeId} {x y z : Operand}
theorem nI {a b : List UInt8} (h : a.length + b.length ≤ 9223372036854775807) : aQ P (.binOp .add T x y U) ty [bS a, bS b] (bS (a ++ b)) := by
 have e : (⟨(a ++ b).toArray⟩ : ByteArray) = ⟨a.toArray⟩ ++ ⟨b.toArray⟩ := by
  apply ByteArray.ext
  rw [ByteArray.data_append]
  simp
 show aQ P _ ty _ (.one (.str ⟨(a ++ b).toArray⟩))
 rw [e]
 exact HJ (by show ((a.toArray.size + b.toArray.size : Nat) : Int) ≤ _; simp only [List.size_toArray]; omega)
theorem Qx {s : List UInt8} {k : IntKind} {n : Int} {c : UInt8} (hu : P.underlying T = some .string) (h0 : 0 ≤ n) (hc : s[n.toNat]? = some c) : aQ P (.index T x y) ty [bS s, .one (.int k n)] (.one (.int .u8 c.toNat)) := by
 refine Ha hu h0 ?_
 obtain ⟨hlt, he⟩ := List.getElem?_eq_some_iff.1 hc
 have h1 : n.toNat < (ByteArray.mk s.toArray).size := by show _ < s.toArray.size; simpa using hlt
 rw [getElem?_pos (ByteArray.mk s.toArray) n.toNat h1, ← he]
 rfl
theorem sL (s : List UInt8) (i j : Nat) : (ByteArray.mk s.toArray).extract i j = ⟨((s.take j).drop i).toArray⟩ := by
 apply ByteArray.ext
 rw [ByteArray.data_extract]
 simp [List.extract_eq_take_drop, List.drop_take]
theorem Ns {s : List UInt8} {k : IntKind} {n : Int} (hu : P.underlying T = some .string) (h0 : 0 ≤ n) (hn : n.toNat ≤ s.length) : aQ P (.slice T x (some y) none none) ty [bS s, .one (.int k n)] (bS (s.drop n.toNat)) := by
 have hs : (ByteArray.mk s.toArray).size = s.length := by show s.toArray.size = _; simp
 have := Nb (P := P) (x := x) (y := y) (ty := ty) (s := ⟨s.toArray⟩) (k := k) hu h0 (by rw [hs]; omega)
 rw [sL, hs, List.take_length] at this
 exact this
theorem Np {s : List UInt8} {k k' : IntKind} {n m : Int} (hu : P.underlying T = some .string) (h0 : 0 ≤ n) (hn : n ≤ m) (hm : m.toNat ≤ s.length) : aQ P (.slice T x (some y) (some z) none) ty [bS s, .one (.int k n), .one (.int k' m)] (bS ((s.take m.toNat).drop n.toNat)) := by
 have hs : (ByteArray.mk s.toArray).size = s.length := by show s.toArray.size = _; simp
 have := KG (P := P) (x := x) (y := y) (z := z) (ty := ty) (s := ⟨s.toArray⟩) (k := k) (k' := k') hu h0 hn (by rw [hs]; omega)
 rw [sL] at this
 exact this
theorem vW {a b : List UInt8} : aQ P (.binOp .eql T x y U) ty [bS a, bS b] (.one (.bool (decide (a = b)))) := by
 have : decide (a = b) = decide ((ByteArray.mk a.toArray).data = (ByteArray.mk b.toArray).data) := by
  rw [decide_eq_decide]
  exact ⟨fun h => by rw [h], fun h => by simpa using congrArg Array.toList h⟩
 rw [this]; exact Tq
end
theorem Di {d : Nat} (h : d < 10) : (([48, 49, 50, 51, 52, 53, 54, 55, 56, 57] : List UInt8).take (d + 1)).drop d = [HW d] := by
 match d, h with
 | 0, _ => rfl
 | 1, _ => rfl
 | 2, _ => rfl
 | 3, _ => rfl
 | 4, _ => rfl
 | 5, _ => rfl
 | 6, _ => rfl
 | 7, _ => rfl
 | 8, _ => rfl
 | 9, _ => rfl
 | d + 10, h => omega
theorem II {k H n : Nat} (h : n < 2 ^ H) (h0 : n / 10 ^ k ≠ 0) : k < H := by
 have h1 : 10 ^ k ≤ n := by
  rcases Nat.lt_or_ge n (10 ^ k) with h2 | h2
  ·rw [Nat.div_eq_of_lt h2] at h0; omega
  ·exact h2
 have h2 : 2 ^ k ≤ 10 ^ k := Nat.pow_le_pow_left (by omega) k
 exact (Nat.pow_lt_pow_iff_right (a := 2) (by omega)).1 (by omega)
theorem Hl (k n : Nat) : eK 4 (n / 10 ^ (4 * k) % 10000) ++ eK (4 * k) n = eK (4 * (k + 1)) n := by
 have := xG 4 (n / 10 ^ (4 * k))
 rw [show (10 : Nat) ^ 4 = 10000 by decide] at this
 rw [this, ← xN, show 4 + 4 * k = 4 * (k + 1) by omega]
theorem Cd (k n : Nat) : n / 10 ^ (4 * k) / 10000 = n / 10 ^ (4 * (k + 1)) := by
 rw [Nat.div_div_eq_div_mul, show 4 * (k + 1) = 4 * k + 4 by omega, Nat.pow_add]
theorem EV (i r : Nat) : [HW (r / 10 ^ i % 10)] ++ eK i r = eK (i + 1) r := by
 rw [show i + 1 = 1 + i by omega, xN]; rfl
theorem Ea (r i : Nat) : r / 10 ^ i / 10 = r / 10 ^ (i + 1) := by rw [Nat.div_div_eq_div_mul, Nat.pow_succ]
def RK : Tr := .need (.prim [(W 11 0), (WK (10))] none) (.binOp .rem 3 (.tmp 31) (.const (I3 (10))) 3) 3 false (.need (.prim [(W 15 0), (WK (1))] none) (.binOp .add 3 (.tmp 32) (.const (I3 (1))) 3) 3 false (.need (.prim [(.one (.c (.k (.string ⟨#[48, 49, 50, 51, 52, 53, 54, 55, 56, 57]⟩)))), (W 14 0), (W 16 0)] none) (.slice 9 (.const (.string ⟨#[48, 49, 50, 51, 52, 53, 54, 55, 56, 57]⟩)) (some (.tmp 30)) (some (.tmp 33)) none) 9 false (.need (.prim [(W 17 0), (W 10 0)] none) (.binOp .add 9 (.tmp 34) (.tmp 35) 9) 9 false (.need (.prim [(W 11 0), (WK (10))] none) (.binOp .quo 3 (.tmp 37) (.const (I3 (10))) 3) 3 false (.need (.prim [(W 12 0), (WK (1))] none) (.binOp .add 3 (.tmp 27) (.const (I3 (1))) 3) 3 false (.back 1 [(.w (W 18 0)), (.w (W 19 0)), (.w (W 20 0))]))))))
def Wy : Tr := .need (.lit 1 [[(.k (.int .i64 (10000)))]]) (.buildSlice 45 1 #[(0, (.const (I3 (10000))))]) 45 false (.need (.call 213 [(W 3 0), (.one (.c (.sr 1 6)))] [none, none]) (.call ⟨.value (.func 213), #[(.tmp 18), (.tmp 19)], #[45, 45]⟩) 269 false (.need (.call 257 [(W 8 0)] [none]) (.call ⟨.value (.func 257), #[(.tmp 23)], #[45]⟩) 3 true (.loop 1 [(.w (W 2 0)), (.w (W 9 0)), (.w (WK (0)))] (.need (.prim [(W 12 0), (WK (4))] none) (.binOp .lss 3 (.tmp 25) (.const (I3 (4))) 3) 4 false (.split (.u 13 0) (.need (.prim [(W 11 0), (WK (10))] none) (.binOp .rem 3 (.tmp 29) (.const (I3 (10))) 3) 3 false RK) (.back 0 [(.w (W 10 0)), (.w (W 7 0))]))))))
def TH : Tr := .need (.prim [(W 6 0), (WK (0))] none) (.index 9 (.tmp 40) (.const (I3 (0)))) 5 false (.need (.prim [(W 7 0), (.one (.c (.k (.int .u8 (48)))))] none) (.binOp .eql 5 (.tmp 41) (.const (.int .u8 (48))) 5) 4 false (.split (.u 8 0) (.need (.prim [(W 6 0), (WK (1))] none) (.slice 9 (.tmp 43) (some (.const (I3 (1)))) none none) 9 false (.back 0 [(.w (W 9 0))])) (.need (.prim [(W 0 0), (WK (0))] none) (.binOp .lss 3 (.tmp 46) (.const (I3 (0))) 3) 4 false (.split (.u 9 0) (.need (.prim [(.one (.c (.k (.string ⟨#[45]⟩)))), (W 6 0)] none) (.binOp .add 9 (.const (.string ⟨#[45]⟩)) (.tmp 48) 9) 9 false (.ret [(W 10 0)])) (.ret [(W 6 0)])))))
def WG : Tr := .need (.prim [(W 0 0), (WK (0))] none) (.binOp .eql 3 (.tmp 10) (.const (I3 (0))) 3) 4 false (.split (.u 1 0) (.ret [(.one (.c (.k (.string ⟨#[48]⟩))))]) (.loop 0 [(.w (.one (.c (.k (.string ⟨#[]⟩))))), (.w (W 0 1))] (.need (.prim [(W 3 0)] none) (.call ⟨.builtin .len, #[(.tmp 14)], #[45]⟩) 3 false (.need (.prim [(W 4 0), (WK (0))] none) (.binOp .gtr 3 (.tmp 15) (.const (I3 (0))) 3) 4 false (.split (.u 5 0) Wy (.loop 0 [(.w (W 2 0))] TH))))))
theorem Ky : aM prog f206 (fun _ => none) [.v (some 2)] = WG := by kernel_rfl
def Pt : Tr := .ret [(W 4 0)]
def Jl : Tr := .ret [(W 8 0)]
def Vf : Tr := .need (.prim [(W 2 0), (.one (.c (.k (.string ⟨#[49]⟩))))] none) (.binOp .eql 9 (.tmp 5) (.const (.string ⟨#[49]⟩)) 9) 4 false (.split (.u 3 0) (.need (.call 206 [(.agg [(U 0 0), (U 0 1)])] [none]) (.call ⟨.value (.func 206), #[(.tmp 8)], #[47]⟩) 9 true Pt) (.need (.call 206 [(.agg [(U 0 0), (U 0 1)])] [none]) (.call ⟨.value (.func 206), #[(.tmp 11)], #[47]⟩) 9 false (.need (.prim [(W 4 0), (.one (.c (.k (.string ⟨#[47]⟩))))] none) (.binOp .add 9 (.tmp 12) (.const (.string ⟨#[47]⟩)) 9) 9 false (.need (.call 136 [(.agg [(U 0 0), (U 0 1), (U 0 2), (U 0 3)])] [(some 2)]) (.call ⟨.value (.func 136), #[(.tmp 14)], #[49]⟩) 47 false (.need (.call 206 [(.agg [(U 6 0), (U 6 1)])] [none]) (.call ⟨.value (.func 206), #[(.tmp 15)], #[47]⟩) 9 true (.need (.prim [(W 5 0), (W 7 0)] none) (.binOp .add 9 (.tmp 13) (.tmp 16) 9) 9 false Jl))))))
def Uy : Tr := .need (.call 136 [(.agg [(U 0 0), (U 0 1), (U 0 2), (U 0 3)])] [(some 2)]) (.call ⟨.value (.func 136), #[(.tmp 3)], #[49]⟩) 47 false (.need (.call 206 [(.agg [(U 1 0), (U 1 1)])] [none]) (.call ⟨.value (.func 206), #[(.tmp 4)], #[47]⟩) 9 true Vf)
theorem MA : aM prog f128 (fun _ => none) [.v (some 4)] = Uy := by kernel_rfl
def WR : Tr := .need (.call 179 [(.agg [(U 0 2)])] [none]) (.call ⟨.value (.func 179), #[(.tmp 14)], #[35]⟩) 4 true (.need (.prim [(W 3 0)] none) (.unOp .not 4 (.tmp 15)) 4 false (.split (.u 4 0) (.need (.call 117 [(.agg [(U 0 0), (U 0 1), (U 0 2)])] [(some 1)]) (.call ⟨.value (.func 117), #[(.tmp 18)], #[39]⟩) 35 false (.need (.call 178 [(.agg [(U 5 0)])] [none]) (.call ⟨.value (.func 178), #[(.tmp 19)], #[35]⟩) 9 false (.need (.prim [(.one (.c (.k (.string ⟨#[47]⟩)))), (W 6 0)] none) (.binOp .add 9 (.const (.string ⟨#[47]⟩)) (.tmp 20) 9) 9 false (.need (.prim [(W 2 0), (W 7 0)] none) (.binOp .add 9 (.tmp 17) (.tmp 21) 9) 9 false Jl)))) (.ret [(W 2 0)])))
def Si : Tr := .need (.prim [(W 2 0)] none) (.unOp .not 4 (.tmp 15)) 4 false (.split (.u 3 0) (.need (.call 117 [(.agg [(U 0 0), (U 0 1), (U 0 2)])] [(some 1)]) (.call ⟨.value (.func 117), #[(.tmp 18)], #[39]⟩) 35 false (.need (.call 178 [(.agg [(U 4 0)])] [none]) (.call ⟨.value (.func 178), #[(.tmp 19)], #[35]⟩) 9 false (.need (.prim [(.one (.c (.k (.string ⟨#[47]⟩)))), (W 5 0)] none) (.binOp .add 9 (.const (.string ⟨#[47]⟩)) (.tmp 20) 9) 9 false (.need (.prim [(W 1 0), (W 6 0)] none) (.binOp .add 9 (.tmp 17) (.tmp 21) 9) 9 false (.ret [(W 7 0)]))))) (.ret [(W 1 0)]))
def XO : Tr := .need (.call 178 [(.agg [(U 0 0)])] [none]) (.call ⟨.value (.func 178), #[(.tmp 6)], #[35]⟩) 9 true (.split (.u 0 1) (.need (.prim [(.one (.c (.k (.string ⟨#[45]⟩)))), (W 1 0)] none) (.binOp .add 9 (.const (.string ⟨#[45]⟩)) (.tmp 11) 9) 9 false WR) (.need (.call 179 [(.agg [(U 0 2)])] [none]) (.call ⟨.value (.func 179), #[(.tmp 14)], #[35]⟩) 4 true Si))
theorem OS : aM prog f90 (fun _ => none) [.v (some 3)] = XO := by kernel_rfl
def Uz : Tr := .need (.call 90 [(.agg [(U 0 0), (U 0 1), (U 0 2)])] [none]) (.call ⟨.value (.func 90), #[(.tmp 5)], #[39]⟩) 9 false (.need (.call 128 [(.agg [(U 1 0), (U 1 1), (U 1 2), (U 1 3)])] [none]) (.call ⟨.value (.func 128), #[(.tmp 7)], #[49]⟩) 9 true (.need (.prim [(W 2 0), (W 3 0)] none) (.binOp .eql 9 (.tmp 6) (.tmp 8) 9) 4 false Pt))
theorem NC : aM prog f44 (fun _ => none) [.v (some 3), .v (some 4)] = Uz := by kernel_rfl
set_option maxHeartbeats 1000000 in
theorem rN (z : Int) (H : Nat) (hz : z.natAbs < 2 ^ H) (hH : H ≤ 34359738360) : aN prog 206 [(zT z : aH)] (.ret [bS (mJ z)]) := by
 refine aD (args := [.v (some 2)]) (ins := [.v (zT z)]) (hints := (fun _ => none)) fo (by kernel_rfl) func206 ⟨rfl, trivial⟩ ?_
 rw [Ky]
 dsimp only [List.map, In.env, aA, aB]
 have hb := fC hz
 have hb1 : (bd 10000).length = 1 := by rw [Dh (by omega) (by omega)]; rfl
 obtain ⟨n, hn⟩ : ∃ n, z.natAbs = n := ⟨_, rfl⟩
 rw [hn] at hz hb
 rw [show zT z = .agg [.int .i64 z.sign, bT n] by rw [← hn]]
 refine vn aX rfl ?_
 dsimp only [aA, aB]
 refine vs _ rfl (fun h1 => ?_) (fun h1 => ?_)
 ·have hz0 : z = 0 := Int.sign_eq_zero_iff_zero.1 h1
  subst hz0
  rw [show mJ 0 = [48] by rw [mJ, if_neg (by omega)]; exact Ck]
  exact aJ rfl
 have hn0 : n ≠ 0 := fun e => h1 (by rw [Int.sign_eq_zero_iff_zero]; omega)
 refine aY {k : Nat // n / 10 ^ (4 * (k - 1)) ≠ 0} (fun g => [bS (eK (4 * g.1) n), .one (bT (n / 10 ^ (4 * g.1)))]) (fun g => n / 10 ^ (4 * g.1)) ⟨0, by simpa using hn0⟩ (show aL _ _ by rw [Nat.mul_zero, Nat.pow_zero, Nat.div_one]; exact aL.rfl) (fun _ => rfl) ?_
 rintro ⟨k, hk⟩
 dsimp only [aA, aB] at hk ⊢
 have hk4 : 4 * (k - 1) < H := II hz hk
 generalize hm : n / 10 ^ (4 * k) = m
 have hmn : m ≤ n := by rw [← hm]; exact Nat.div_le_self _ _
 have hbm := dJ hmn
 refine vn (aK dG (List.length_map _)) rfl ?_
 dsimp only [aA, aB]
 refine vn cT rfl ?_
 dsimp only [aA, aB]
 refine vs _ rfl (fun h6 => ?_) (fun h6 => ?_)
 ·have hm0 : m ≠ 0 := fun e => by subst e; rw [vO] at h6; simp at h6
  refine bC (us := [[.int .i64 10000]]) rfl ?_
  dsimp only [aA, aB]
  have hover := gO m 10000 (by omega) (by omega)
  rw [show bT 10000 = .slice 1 [[.int .i64 10000]] by rw [bT, Dh (by omega) (by omega)]; rfl] at hover
  refine aC hover rfl ?_
  dsimp only [aA, aB]
  refine aC (xZ (m % 10000) (by
   have := gB (n := m % 10000) (k := 1) (by omega)
   omega)) rfl ?_
  dsimp only [aA, aB]
  have hr : m % 10000 < 10000 := Nat.mod_lt _ (by omega)
  generalize hr' : m % 10000 = r at hr ⊢
  refine aY {i : Nat // i ≤ 4} (fun g => [bS (eK g.1 r ++ eK (4 * k) n), .one (.int .i64 ((r / 10 ^ g.1 : Nat) : Int)), .one (.int .i64 g.1)]) (fun g => 4 - g.1) ⟨0, by omega⟩ (show aL _ _ by rw [Nat.pow_zero, Nat.div_one]; exact aL.rfl) (fun _ => rfl) ?_
  rintro ⟨i, hi⟩
  dsimp only [aA, aB] at hi ⊢
  refine vn aU rfl ?_
  dsimp only [aA, aB]
  refine vs _ rfl (fun h12 => ?_) (fun h12 => ?_)
  ·have hri : r / 10 ^ i ≤ r := Nat.div_le_self _ _
   generalize ht : r / 10 ^ i = t at hri ⊢
   have ht10 : t % 10 < 10 := Nat.mod_lt _ (by omega)
   refine vn (dI (by omega) (by omega)) rfl ?_
   dsimp only [aA, aB]
   refine vn (dI (by omega) (by omega)) rfl ?_
   dsimp only [aA, aB]
   refine vn (aE (by omega) (by omega)) rfl ?_
   dsimp only [aA, aB]
   refine vn (Np XZ (by omega) (by omega) (by show _ ≤ 10; omega)) rfl ?_
   dsimp only [aA, aB]
   rw [show ((t : Int) % 10 + 1).toNat = t % 10 + 1 by omega, show ((t : Int) % 10).toNat = t % 10 by omega, Di ht10]
   refine vn (nI (by simp only [List.length_append, pK, List.length_cons, List.length_nil]; omega)) rfl ?_
   dsimp only [aA, aB]
   refine vn (fZ (by omega) (by omega) (by omega)) rfl ?_
   dsimp only [aA, aB]
   refine vn (aE (by omega) (by omega)) rfl ?_
   dsimp only [aA, aB]
   exact aO rfl ⟨⟨i + 1, by omega⟩, aL.of_eq (show [bS ([HW (t % 10)] ++ (eK i r ++ eK (4 * k) n)), (.one (.int .i64 ((t : Int) / 10)) : aH), .one (.int .i64 ((i : Int) + 1))] = _ by
    dsimp only
    rw [← List.append_assoc, ← ht, EV, ← Ea]
    rfl), by show 4 - (i + 1) < 4 - i; omega⟩
  refine aO rfl ⟨⟨k + 1, by rw [Nat.add_sub_cancel, hm]; exact hm0⟩, ?_, ?_⟩
  ·dsimp only
   rw [show i = 4 by omega, ← hr', ← hm, Hl, Cd]
   exact aL.rfl
  ·show n / 10 ^ (4 * (k + 1)) < m
   rw [← Cd, hm]
   exact Nat.div_lt_self (by omega) (by omega)
 have hm0 : m = 0 := by
  have : bd m = [] := List.eq_nil_of_length_eq_zero (by omega)
  exact xU.1 this
 have hlt : n < 10 ^ (4 * k) := by
  rcases Nat.lt_or_ge n (10 ^ (4 * k)) with h | h
  ·exact h
  ·have := Nat.div_pos h (Nat.pow_pos (by omega)); omega
 have hk0 : 0 < 4 * k := by
  rcases Nat.eq_zero_or_pos (4 * k) with h | h
  ·rw [h] at hlt; simp at hlt; omega
  ·exact h
 rw [xD hk0 hlt]
 have hdl := gV hk0 hlt
 have hdp := vI n
 refine aY {c : Nat // c ≤ 4 * k} (fun g => [bS (List.replicate g.1 48 ++ dec n)]) (fun g => g.1) ⟨4 * k - (dec n).length, by omega⟩ aL.rfl (fun _ => rfl) ?_
 rintro ⟨c, hc⟩
 dsimp only [aA, aB] at hc ⊢
 obtain ⟨x, hx⟩ : ∃ x, (List.replicate c (48 : UInt8) ++ dec n)[(0 : Int).toNat]? = some x := ⟨_, List.getElem?_eq_getElem (by simp only [List.length_append]; show 0 < _; omega)⟩
 refine vn (Qx XZ (by omega) hx) rfl ?_
 dsimp only [aA, aB]
 refine vn aX rfl ?_
 dsimp only [aA, aB]
 refine vs _ rfl (fun h25 => ?_) (fun h25 => ?_)
 ·obtain ⟨c', rfl⟩ : ∃ c', c = c' + 1 := by
   cases c with
   | succ c => exact ⟨c, rfl⟩
   | zero =>
     rw [List.replicate_zero, List.nil_append] at hx
     have h1 := IW n hn0 x (by rw [List.head?_eq_getElem?]; exact hx)
     exact (h1 (UInt8.toNat_inj.1 (by show x.toNat = 48; omega))).elim
  refine vn (Ns XZ (by omega) (by simp only [List.length_append, List.length_replicate]; omega)) rfl ?_
  dsimp only [aA, aB]
  exact aO rfl ⟨⟨c', by omega⟩, aL.rfl, by show c' < c' + 1; omega⟩
 obtain rfl : c = 0 := by
  cases c with
  | zero => rfl
  | succ c =>
    rw [List.replicate_succ] at hx
    have : x = 48 := by simpa using hx.symm
    subst this
    exact (h25 rfl).elim
 rw [List.replicate_zero, List.nil_append]
 refine vn aU rfl ?_
 dsimp only [aA, aB]
 refine vs _ rfl (fun h29 => ?_) (fun h29 => ?_)
 ·refine vn (nI (a := [45]) (by simp only [List.length_cons, List.length_nil]; omega)) rfl ?_
  dsimp only [aA, aB]
  have hneg : z < 0 := by rcases bP z with ⟨h, e⟩ | ⟨h, e⟩ | ⟨h, e⟩ <;> omega
  rw [show mJ z = [45] ++ dec n by rw [mJ, if_pos hneg, hn]]
  exact aJ rfl
 have hneg : ¬ z < 0 := by rcases bP z with ⟨h, e⟩ | ⟨h, e⟩ | ⟨h, e⟩ <;> omega
 rw [show mJ z = dec n by rw [mJ, if_neg hneg, hn]; rfl]
 exact aJ rfl
theorem wJ (n : Nat) : mJ (n : Int) = dec n := by rw [mJ, if_neg (by omega), Int.natAbs_natCast]; rfl
theorem oE {n H : Nat} (h : n < 2 ^ H) : (dec n).length ≤ H + 1 :=
 gV (Nat.succ_pos H) (Nat.lt_of_lt_of_le h (Nat.le_trans (Nat.pow_le_pow_left (by omega) H) (Nat.pow_le_pow_right (by omega) (Nat.le_succ H))))
theorem CJ {z : Int} {H : Nat} (h : z.natAbs < 2 ^ H) : (mJ z).length ≤ H + 2 := by
 have := oE h
 unfold mJ
 rw [List.length_append]
 split <;> simp <;> omega
theorem Nv (a : RQ) (H : Nat) (hf : Fit H a.q) (hH : H ≤ 34359738360) : aN prog 128 [(lI a : aH)] (.ret [bS (rV a.q)]) := by
 refine aD (args := [.v (some 4)]) (ins := [.v (lI a)]) (hints := (fun _ => none)) fo (by kernel_rfl) func128 ⟨rfl, trivial⟩ ?_
 rw [MA]
 dsimp only [List.map, In.env, aA, aB]
 have hd := CJ (z := (a.q.den : Int)) hf.2
 have hn := CJ hf.1
 rw [show rV a.q = mJ a.q.num ++ if a.q.den = 1 then [] else [47] ++ dec a.q.den from rfl]
 refine aC (jG a) rfl ?_
 dsimp only [aA, aB]
 refine aC (rN (a.q.den : Int) H hf.2 hH) rfl ?_
 dsimp only [aA, aB]
 refine vn (vW (b := [49])) rfl ?_
 dsimp only [aA, aB]
 refine vs _ rfl (fun h3 => ?_) (fun h3 => ?_)
 ·refine aC (rN a.q.num H hf.1 hH) rfl ?_
  dsimp only [aA, aB]
  have h1 : a.q.den = 1 := vR (by rw [← wJ, h3, Fx])
  rw [if_pos h1, List.append_nil]; exact aJ rfl
 refine aC (rN a.q.num H hf.1 hH) rfl ?_
 dsimp only [aA, aB]
 refine vn (nI (b := [47]) (by simp only [List.length_cons, List.length_nil]; omega)) rfl ?_
 dsimp only [aA, aB]
 refine aC (jG a) rfl ?_
 dsimp only [aA, aB]
 refine aC (rN (a.q.den : Int) H hf.2 hH) rfl ?_
 dsimp only [aA, aB]
 refine vn (nI (by simp only [List.length_append, List.length_cons, List.length_nil]; omega)) rfl ?_
 dsimp only [aA, aB]
 have h1 : a.q.den ≠ 1 := fun h => h3 (by rw [wJ, h, Fx])
 rw [if_neg h1, show mJ a.q.num ++ 47 :: dec a.q.den = (mJ a.q.num ++ [47]) ++ mJ (a.q.den : Int) by rw [wJ, List.append_assoc]; rfl]; exact aJ rfl
end Go.Sy
