/- Decimal digits: so many of them, and those of a number. The texts of numbers.
-/
import Derived.Test.YtdmcadckdnnglaaGreatDoorPa
import Derived.Lib.ItoaNum
import Derived.Lib.Repeat
import Derived.Test.YtdmcadckdnnglaaGreatDoorRb
set_option linter.unusedVariables false
set_option linter.unusedSimpArgs false
namespace Go.Sy
open Go

abbrev chr (d : Nat) : UInt8 := UInt8.ofNat (48 + d)
/-- so many decimal digits of a number -/
def zpad : Nat → Nat → List UInt8
  | 0, _ => []
  | k + 1, n => zpad k (n / 10) ++ [chr (n % 10)]

abbrev dec (n : Nat) : List UInt8 := Lib.decDigits n
theorem dec_small {n : Nat} (h : n < 10) : dec n = [chr n] := by rw [dec, Lib.decDigits, dif_pos h]
theorem dec_step {n : Nat} (h : ¬ n < 10) : dec n = dec (n / 10) ++ [chr (n % 10)] := by rw [dec, Lib.decDigits, dif_neg h]
theorem zpad_length : ∀ k n, (zpad k n).length = k
  | 0, _ => rfl
  | k + 1, n => by rw [zpad, List.length_append, zpad_length k]; rfl
theorem zpad_add : ∀ j k n, zpad (j + k) n = zpad j (n / 10 ^ k) ++ zpad k n
  | j, 0, n => by simp [zpad]
  | j, k + 1, n => by
    show zpad (j + k) (n / 10) ++ [chr (n % 10)] = _
    rw [zpad_add j k (n / 10), zpad, List.append_assoc, Nat.div_div_eq_div_mul, Nat.pow_succ, Nat.mul_comm 10]
theorem zpad_mod : ∀ k n, zpad k (n % 10 ^ k) = zpad k n
  | 0, _ => rfl
  | k + 1, n => by
    have h1 : n % 10 ^ (k + 1) / 10 = n / 10 % 10 ^ k := by
      rw [Nat.pow_succ, Nat.mul_comm, Nat.mod_mul_right_div_self]
    have h2 : n % 10 ^ (k + 1) % 10 = n % 10 := Nat.mod_mod_of_dvd n ⟨10 ^ k, by rw [Nat.pow_succ, Nat.mul_comm]⟩
    rw [zpad, zpad, h1, h2, zpad_mod k]
theorem zpad_zero : ∀ k, zpad k 0 = List.replicate k 48
  | 0 => rfl
  | k + 1 => by rw [zpad, Nat.zero_div, zpad_zero k, Nat.zero_mod, List.replicate_succ']; rfl
theorem dec_split : ∀ k n, 0 < n / 10 ^ k → dec n = dec (n / 10 ^ k) ++ zpad k n
  | 0, n, _ => by simp [zpad]
  | k + 1, n, h => by
    rw [Nat.pow_succ, Nat.mul_comm, ← Nat.div_div_eq_div_mul] at h ⊢
    have h10 : ¬ n < 10 := fun hn => by rw [Nat.div_eq_of_lt hn, Nat.zero_div] at h; omega
    rw [dec_step h10, dec_split k (n / 10) h, zpad, List.append_assoc]
/-- a digit to the base, behind others -/
theorem dec_snoc {k m d : Nat} (hm : 0 < m) (hd : d < 10 ^ k) : dec (d + 10 ^ k * m) = dec m ++ zpad k d := by
  have hp : 0 < 10 ^ k := Nat.pow_pos (by omega)
  have e : (d + 10 ^ k * m) / 10 ^ k = m := by rw [Nat.add_mul_div_left _ _ hp, Nat.div_eq_of_lt hd, Nat.zero_add]
  rw [dec_split k _ (by rw [e]; exact hm), e, ← zpad_mod k (d + _), Nat.add_mul_mod_self_left, Nat.mod_eq_of_lt hd]
theorem dec_pos (n : Nat) : 0 < (dec n).length := by
  by_cases h : n < 10
  · rw [dec_small h]; simp
  · rw [dec_step h, List.length_append]; simp
theorem dec_len_le : ∀ {k n : Nat}, 0 < k → n < 10 ^ k → (dec n).length ≤ k
  | k + 1, n, _, h => by
    by_cases h10 : n < 10
    · rw [dec_small h10]; simp
    · rw [dec_step h10, List.length_append]
      have h1 : n / 10 < 10 ^ k := by rw [Nat.pow_succ] at h; omega
      have hk : 0 < k := by rcases Nat.eq_zero_or_pos k with rfl | h2; · simp at h; omega
                            · exact h2
      have := dec_len_le hk h1
      simp; omega
theorem zpad_dec : ∀ {k n : Nat}, 0 < k → n < 10 ^ k → zpad k n = List.replicate (k - (dec n).length) 48 ++ dec n
  | k + 1, n, _, h => by
    by_cases h10 : n < 10
    · rw [dec_small h10, zpad, Nat.div_eq_of_lt h10, zpad_zero, Nat.mod_eq_of_lt h10]; rfl
    · have h1 : n / 10 < 10 ^ k := by rw [Nat.pow_succ] at h; omega
      have hk : 0 < k := by rcases Nat.eq_zero_or_pos k with rfl | h2; · simp at h; omega
                            · exact h2
      rw [dec_step h10, zpad, zpad_dec hk h1, List.append_assoc, List.length_append]
      congr 2; simp
theorem rep0 (c : Nat) : Lib.repeatL [48] c = List.replicate c 48 := by
  induction c with
  | zero => rfl
  | succ c ih => rw [Lib.repeatL, ih, List.replicate_succ]; rfl
theorem chr_ne {d e : Nat} (hd : d < 10) (he : e < 10) (h : chr d = chr e) : d = e := by
  have := congrArg UInt8.toNat h
  simp only [chr, UInt8.toNat_ofNat'] at this
  omega
theorem chr_toNat {d : Nat} (hd : d < 10) : (chr d).toNat = 48 + d := by
  simp only [chr, UInt8.toNat_ofNat']; omega
theorem dec_digit : ∀ (n : Nat), ∀ c ∈ dec n, 48 ≤ c.toNat ∧ c.toNat < 58 := by
  intro n
  induction n using Nat.strongRecOn with
  | ind n ih =>
    intro c hc
    by_cases h : n < 10
    · rw [dec_small h] at hc
      simp only [List.mem_singleton] at hc
      subst hc
      rw [chr_toNat h]; omega
    · rw [dec_step h] at hc
      rcases List.mem_append.1 hc with hc | hc
      · exact ih _ (by omega) c hc
      · simp only [List.mem_singleton] at hc
        subst hc
        rw [chr_toNat (by omega)]; omega
theorem dec_inj : ∀ {m n : Nat}, dec m = dec n → m = n := by
  intro m
  induction m using Nat.strongRecOn with
  | ind m ih =>
    intro n h
    by_cases hm : m < 10
    · by_cases hn : n < 10
      · rw [dec_small hm, dec_small hn] at h
        simp only [List.cons.injEq, and_true] at h
        exact chr_ne hm hn h
      · rw [dec_small hm, dec_step hn] at h
        have := congrArg List.length h
        have h2 := dec_pos (n / 10)
        simp only [List.length_append, List.length_cons, List.length_nil] at this; omega
    · by_cases hn : n < 10
      · rw [dec_step hm, dec_small hn] at h
        have := congrArg List.length h
        have h2 := dec_pos (m / 10)
        simp only [List.length_append, List.length_cons, List.length_nil] at this; omega
      · rw [dec_step hm, dec_step hn] at h
        obtain ⟨h1, h2⟩ := List.append_inj' h rfl
        simp only [List.cons.injEq, and_true] at h2
        have := ih (m / 10) (by omega) h1
        have := chr_ne (Nat.mod_lt _ (by omega)) (Nat.mod_lt _ (by omega)) h2
        omega
theorem dec_head : ∀ (n : Nat), n ≠ 0 → ∀ c, (dec n).head? = some c → c ≠ 48 := by
  intro n
  induction n using Nat.strongRecOn with
  | ind n ih =>
    intro h0 c hc
    by_cases h : n < 10
    · rw [dec_small h] at hc
      simp only [List.head?_cons, Option.some.injEq] at hc
      subst hc
      intro e
      have := congrArg UInt8.toNat e
      rw [chr_toNat h] at this
      simp at this; omega
    · rw [dec_step h] at hc
      have h2 := dec_pos (n / 10)
      rw [List.head?_append] at hc
      cases hd : (dec (n / 10)).head? with
      | none => rw [List.head?_eq_none_iff] at hd; rw [hd] at h2; simp at h2
      | some d =>
        rw [hd] at hc
        simp only [Option.some_or, Option.some.injEq] at hc
        subst hc
        exact ih (n / 10) (by omega) (by omega) d hd
theorem dec_one : dec 1 = [49] := by rw [dec_small (by omega)]; rfl
theorem dec_zero : dec 0 = [48] := by rw [dec_small (by omega)]; rfl

/-- the text of an integer, of a rational number -/
def zTxt (z : Int) : List UInt8 := (if z < 0 then [45] else []) ++ dec z.natAbs
def qTxt (q : Rat) : List UInt8 := zTxt q.num ++ if q.den = 1 then [] else 47 :: dec q.den

theorem zTxt_no {z : Int} : ∀ c ∈ zTxt z, c ≠ 47 := by
  intro c hc
  unfold zTxt at hc
  rcases List.mem_append.1 hc with hc | hc
  · split at hc
    · simp only [List.mem_singleton] at hc; subst hc; decide
    · cases hc
  · intro e; subst e
    have := (dec_digit _ _ hc).1
    simp at this
theorem zTxt_inj {y z : Int} (h : zTxt y = zTxt z) : y = z := by
  have hh : ∀ n : Nat, (dec n).head? ≠ some 45 := fun n e => by
    have := (dec_digit n 45 (List.mem_of_head? e)).1
    simp at this
  unfold zTxt at h
  split at h <;> split at h
  · have := dec_inj (List.append_cancel_left h); omega
  · rename_i h1 h2
    rw [List.nil_append] at h
    exact (hh _ (by rw [← h]; rfl)).elim
  · rename_i h1 h2
    rw [List.nil_append] at h
    exact (hh _ (by rw [h]; rfl)).elim
  · have := dec_inj (List.append_cancel_left h); omega
/-- what stands ahead of the first slash -/
theorem cut47 {a b a' b' : List UInt8} (ha : ∀ c ∈ a, c ≠ 47) (ha' : ∀ c ∈ a', c ≠ 47) (hb : b = [] ∨ b.head? = some 47) (hb' : b' = [] ∨ b'.head? = some 47) (h : a ++ b = a' ++ b') : a = a' ∧ b = b' := by
  induction a generalizing a' with
  | nil =>
    cases a' with
    | nil => exact ⟨rfl, h⟩
    | cons x a' =>
      rw [List.nil_append, List.cons_append] at h
      subst h
      rcases hb with hb | hb
      · cases hb
      · simp only [List.head?_cons, Option.some.injEq] at hb
        exact (ha' x List.mem_cons_self hb).elim
  | cons y a ih =>
    cases a' with
    | nil =>
      rw [List.nil_append, List.cons_append] at h
      subst h
      rcases hb' with hb | hb
      · cases hb
      · simp only [List.head?_cons, Option.some.injEq] at hb
        exact (ha y List.mem_cons_self hb).elim
    | cons x a' =>
      simp only [List.cons_append, List.cons.injEq] at h
      obtain ⟨rfl, h⟩ := h
      obtain ⟨rfl, h2⟩ := ih (fun c hc => ha c (List.mem_cons_of_mem _ hc)) (fun c hc => ha' c (List.mem_cons_of_mem _ hc)) h
      exact ⟨rfl, h2⟩
theorem qTxt_inj {p q : Rat} (h : qTxt p = qTxt q) : p = q := by
  unfold qTxt at h
  have hh : ∀ r : Rat, (if r.den = 1 then [] else 47 :: dec r.den) = [] ∨ (if r.den = 1 then [] else 47 :: dec r.den : List UInt8).head? = some 47 := fun r => by
    split
    · exact .inl rfl
    · exact .inr rfl
  obtain ⟨h1, h2⟩ := cut47 (fun c => zTxt_no c) (fun c => zTxt_no c) (hh p) (hh q) h
  refine Rat.ext (zTxt_inj h1) ?_
  split at h2 <;> split at h2
  · omega
  · cases h2
  · cases h2
  · simp only [List.cons.injEq, true_and] at h2; exact dec_inj h2
theorem qTxt_eq {p q : Rat} : qTxt p = qTxt q ↔ p = q := ⟨qTxt_inj, fun h => by rw [h]⟩
end Go.Sy
namespace Go.Sy
open Go Go.Proofs Tryz Ord

/-- a string of these bytes -/
abbrev sT (l : List UInt8) : CTy := .str ⟨l.toArray⟩
abbrev bS (l : List UInt8) : STy := .one (sT l)
section
variable {P : Program} {T U ty : TypeId} {x y z : Operand}
theorem p_sadd {a b : List UInt8} (h : a.length + b.length ≤ 9223372036854775807) : PrimOk P (.binOp .add T x y U) ty [bS a, bS b] (bS (a ++ b)) := by
  have e : (⟨(a ++ b).toArray⟩ : ByteArray) = ⟨a.toArray⟩ ++ ⟨b.toArray⟩ := by
    apply ByteArray.ext
    rw [ByteArray.data_append]
    simp
  show PrimOk P _ ty _ (.one (.str ⟨(a ++ b).toArray⟩))
  rw [e]
  exact p_str_add (by show ((a.toArray.size + b.toArray.size : Nat) : Int) ≤ _; simp only [List.size_toArray]; omega)
theorem p_sidx {s : List UInt8} {k : IntKind} {n : Int} {c : UInt8} (hu : P.underlying T = some .string) (h0 : 0 ≤ n) (hc : s[n.toNat]? = some c) : PrimOk P (.index T x y) ty [bS s, .one (.int k n)] (.one (.int .u8 c.toNat)) := by
  refine p_str_idx hu h0 ?_
  obtain ⟨hlt, he⟩ := List.getElem?_eq_some_iff.1 hc
  have h1 : n.toNat < (ByteArray.mk s.toArray).size := by show _ < s.toArray.size; simpa using hlt
  rw [getElem?_pos (ByteArray.mk s.toArray) n.toNat h1, ← he]
  rfl
theorem extract_list (s : List UInt8) (i j : Nat) : (ByteArray.mk s.toArray).extract i j = ⟨((s.take j).drop i).toArray⟩ := by
  apply ByteArray.ext
  rw [ByteArray.data_extract]
  simp [List.extract_eq_take_drop, List.drop_take]
theorem p_sdrop {s : List UInt8} {k : IntKind} {n : Int} (hu : P.underlying T = some .string) (h0 : 0 ≤ n) (hn : n.toNat ≤ s.length) : PrimOk P (.slice T x (some y) none none) ty [bS s, .one (.int k n)] (bS (s.drop n.toNat)) := by
  have hs : (ByteArray.mk s.toArray).size = s.length := by show s.toArray.size = _; simp
  have := p_str_l (P := P) (x := x) (y := y) (ty := ty) (s := ⟨s.toArray⟩) (k := k) hu h0 (by rw [hs]; omega)
  rw [extract_list, hs, List.take_length] at this
  exact this
theorem p_spart {s : List UInt8} {k k' : IntKind} {n m : Int} (hu : P.underlying T = some .string) (h0 : 0 ≤ n) (hn : n ≤ m) (hm : m.toNat ≤ s.length) : PrimOk P (.slice T x (some y) (some z) none) ty [bS s, .one (.int k n), .one (.int k' m)] (bS ((s.take m.toNat).drop n.toNat)) := by
  have hs : (ByteArray.mk s.toArray).size = s.length := by show s.toArray.size = _; simp
  have := p_str_lh (P := P) (x := x) (y := y) (z := z) (ty := ty) (s := ⟨s.toArray⟩) (k := k) (k' := k') hu h0 hn (by rw [hs]; omega)
  rw [extract_list] at this
  exact this
theorem p_seql {a b : List UInt8} : PrimOk P (.binOp .eql T x y U) ty [bS a, bS b] (.one (.bool (decide (a = b)))) := by
  have : decide (a = b) = decide ((ByteArray.mk a.toArray).data = (ByteArray.mk b.toArray).data) := by
    rw [decide_eq_decide]
    exact ⟨fun h => by rw [h], fun h => by simpa using congrArg Array.toList h⟩
  rw [this]; exact q_seql
end
theorem digit_piece {d : Nat} (h : d < 10) : (([48, 49, 50, 51, 52, 53, 54, 55, 56, 57] : List UInt8).take (d + 1)).drop d = [chr d] := by
  match d, h with
  | 0, _ => rfl
  | 1, _ => rfl
  | 2, _ => rfl
  | 3, _ => rfl
  | 4, _ => rfl
  | 5, _ => rfl
  | 6, _ => rfl
  | 7, _ => rfl
  | 8, _ => rfl
  | 9, _ => rfl
  | d + 10, h => omega
theorem pow_bits {k H n : Nat} (h : n < 2 ^ H) (h0 : n / 10 ^ k ≠ 0) : k < H := by
  have h1 : 10 ^ k ≤ n := by
    rcases Nat.lt_or_ge n (10 ^ k) with h2 | h2
    · rw [Nat.div_eq_of_lt h2] at h0; omega
    · exact h2
  have h2 : 2 ^ k ≤ 10 ^ k := Nat.pow_le_pow_left (by omega) k
  exact (Nat.pow_lt_pow_iff_right (a := 2) (by omega)).1 (by omega)
theorem zpad_next (k n : Nat) : zpad 4 (n / 10 ^ (4 * k) % 10000) ++ zpad (4 * k) n = zpad (4 * (k + 1)) n := by
  have := zpad_mod 4 (n / 10 ^ (4 * k))
  rw [show (10 : Nat) ^ 4 = 10000 by decide] at this
  rw [this, ← zpad_add, show 4 + 4 * k = 4 * (k + 1) by omega]
theorem div_next (k n : Nat) : n / 10 ^ (4 * k) / 10000 = n / 10 ^ (4 * (k + 1)) := by
  rw [Nat.div_div_eq_div_mul, show 4 * (k + 1) = 4 * k + 4 by omega, Nat.pow_add]
theorem zpad_front (i r : Nat) : [chr (r / 10 ^ i % 10)] ++ zpad i r = zpad (i + 1) r := by
  rw [show i + 1 = 1 + i by omega, zpad_add]; rfl
theorem pow10_succ (r i : Nat) : r / 10 ^ i / 10 = r / 10 ^ (i + 1) := by rw [Nat.div_div_eq_div_mul, Nat.pow_succ]

def t79_2 : Tr := .ret [(.one (.c (.k (.string ⟨#[48]⟩))))]
def t79_20 : Tr := .back 1 [(.w (W 18 0)), (.w (W 19 0)), (.w (W 20 0))]
def t79_19 : Tr := .need (.prim [(W 12 0), (WK (1))] none) (.binOp .add 3 (.tmp 27) (.const (I3 (1))) 3) 3 false t79_20
def t79_18 : Tr := .need (.prim [(W 11 0), (WK (10))] none) (.binOp .quo 3 (.tmp 37) (.const (I3 (10))) 3) 3 false t79_19
def t79_17 : Tr := .need (.prim [(W 17 0), (W 10 0)] none) (.binOp .add 9 (.tmp 34) (.tmp 35) 9) 9 false t79_18
def t79_16 : Tr := .need (.prim [(.one (.c (.k (.string ⟨#[48, 49, 50, 51, 52, 53, 54, 55, 56, 57]⟩)))), (W 14 0), (W 16 0)] none) (.slice 9 (.const (.string ⟨#[48, 49, 50, 51, 52, 53, 54, 55, 56, 57]⟩)) (some (.tmp 30)) (some (.tmp 33)) none) 9 false t79_17
def t79_15 : Tr := .need (.prim [(W 15 0), (WK (1))] none) (.binOp .add 3 (.tmp 32) (.const (I3 (1))) 3) 3 false t79_16
def t79_14 : Tr := .need (.prim [(W 11 0), (WK (10))] none) (.binOp .rem 3 (.tmp 31) (.const (I3 (10))) 3) 3 false t79_15
def t79_13 : Tr := .need (.prim [(W 11 0), (WK (10))] none) (.binOp .rem 3 (.tmp 29) (.const (I3 (10))) 3) 3 false t79_14
def t79_21 : Tr := .back 0 [(.w (W 10 0)), (.w (W 7 0))]
def t79_12 : Tr := .split (.u 13 0) t79_13 t79_21
def t79_11 : Tr := .need (.prim [(W 12 0), (WK (4))] none) (.binOp .lss 3 (.tmp 25) (.const (I3 (4))) 3) 4 false t79_12
def t79_10 : Tr := .loop 1 [(.w (W 2 0)), (.w (W 9 0)), (.w (WK (0)))] t79_11
def t79_9 : Tr := .need (.call 257 [(W 8 0)] [none]) (.call ⟨.value (.func 257), #[(.tmp 23)], #[45]⟩) 3 true t79_10
def t79_8 : Tr := .need (.call 213 [(W 3 0), (.one (.c (.sr 1 6)))] [none, none]) (.call ⟨.value (.func 213), #[(.tmp 18), (.tmp 19)], #[45, 45]⟩) 269 false t79_9
def t79_7 : Tr := .need (.lit 1 [[(.k (.int .i64 (10000)))]]) (.buildSlice 45 1 #[(0, (.const (I3 (10000))))]) 45 false t79_8
def t79_27 : Tr := .back 0 [(.w (W 9 0))]
def t79_26 : Tr := .need (.prim [(W 6 0), (WK (1))] none) (.slice 9 (.tmp 43) (some (.const (I3 (1)))) none none) 9 false t79_27
def t79_31 : Tr := .ret [(W 10 0)]
def t79_30 : Tr := .need (.prim [(.one (.c (.k (.string ⟨#[45]⟩)))), (W 6 0)] none) (.binOp .add 9 (.const (.string ⟨#[45]⟩)) (.tmp 48) 9) 9 false t79_31
def t79_32 : Tr := .ret [(W 6 0)]
def t79_29 : Tr := .split (.u 9 0) t79_30 t79_32
def t79_28 : Tr := .need (.prim [(W 0 0), (WK (0))] none) (.binOp .lss 3 (.tmp 46) (.const (I3 (0))) 3) 4 false t79_29
def t79_25 : Tr := .split (.u 8 0) t79_26 t79_28
def t79_24 : Tr := .need (.prim [(W 7 0), (.one (.c (.k (.int .u8 (48)))))] none) (.binOp .eql 5 (.tmp 41) (.const (.int .u8 (48))) 5) 4 false t79_25
def t79_23 : Tr := .need (.prim [(W 6 0), (WK (0))] none) (.index 9 (.tmp 40) (.const (I3 (0)))) 5 false t79_24
def t79_22 : Tr := .loop 0 [(.w (W 2 0))] t79_23
def t79_6 : Tr := .split (.u 5 0) t79_7 t79_22
def t79_5 : Tr := .need (.prim [(W 4 0), (WK (0))] none) (.binOp .gtr 3 (.tmp 15) (.const (I3 (0))) 3) 4 false t79_6
def t79_4 : Tr := .need (.prim [(W 3 0)] none) (.call ⟨.builtin .len, #[(.tmp 14)], #[45]⟩) 3 false t79_5
def t79_3 : Tr := .loop 0 [(.w (.one (.c (.k (.string ⟨#[]⟩))))), (.w (W 0 1))] t79_4
def t79_1 : Tr := .split (.u 1 0) t79_2 t79_3
def t79_0 : Tr := .need (.prim [(W 0 0), (WK (0))] none) (.binOp .eql 3 (.tmp 10) (.const (I3 (0))) 3) 4 false t79_1
theorem x_RZText : execF prog f206 (fun _ => none) [.v (some 2)] = t79_0 := by kernel_rfl
def t80_5 : Tr := .ret [(W 4 0)]
def t80_4 : Tr := .need (.call 206 [(.agg [(U 0 0), (U 0 1)])] [none]) (.call ⟨.value (.func 206), #[(.tmp 8)], #[47]⟩) 9 true t80_5
def t80_11 : Tr := .ret [(W 8 0)]
def t80_10 : Tr := .need (.prim [(W 5 0), (W 7 0)] none) (.binOp .add 9 (.tmp 13) (.tmp 16) 9) 9 false t80_11
def t80_9 : Tr := .need (.call 206 [(.agg [(U 6 0), (U 6 1)])] [none]) (.call ⟨.value (.func 206), #[(.tmp 15)], #[47]⟩) 9 true t80_10
def t80_8 : Tr := .need (.call 136 [(.agg [(U 0 0), (U 0 1), (U 0 2), (U 0 3)])] [(some 2)]) (.call ⟨.value (.func 136), #[(.tmp 14)], #[49]⟩) 47 false t80_9
def t80_7 : Tr := .need (.prim [(W 4 0), (.one (.c (.k (.string ⟨#[47]⟩))))] none) (.binOp .add 9 (.tmp 12) (.const (.string ⟨#[47]⟩)) 9) 9 false t80_8
def t80_6 : Tr := .need (.call 206 [(.agg [(U 0 0), (U 0 1)])] [none]) (.call ⟨.value (.func 206), #[(.tmp 11)], #[47]⟩) 9 false t80_7
def t80_3 : Tr := .split (.u 3 0) t80_4 t80_6
def t80_2 : Tr := .need (.prim [(W 2 0), (.one (.c (.k (.string ⟨#[49]⟩))))] none) (.binOp .eql 9 (.tmp 5) (.const (.string ⟨#[49]⟩)) 9) 4 false t80_3
def t80_1 : Tr := .need (.call 206 [(.agg [(U 1 0), (U 1 1)])] [none]) (.call ⟨.value (.func 206), #[(.tmp 4)], #[47]⟩) 9 true t80_2
def t80_0 : Tr := .need (.call 136 [(.agg [(U 0 0), (U 0 1), (U 0 2), (U 0 3)])] [(some 2)]) (.call ⟨.value (.func 136), #[(.tmp 3)], #[49]⟩) 47 false t80_1
theorem x_RText : execF prog f128 (fun _ => none) [.v (some 4)] = t80_0 := by kernel_rfl
def t81_9 : Tr := .need (.prim [(W 2 0), (W 7 0)] none) (.binOp .add 9 (.tmp 17) (.tmp 21) 9) 9 false t80_11
def t81_8 : Tr := .need (.prim [(.one (.c (.k (.string ⟨#[47]⟩)))), (W 6 0)] none) (.binOp .add 9 (.const (.string ⟨#[47]⟩)) (.tmp 20) 9) 9 false t81_9
def t81_7 : Tr := .need (.call 178 [(.agg [(U 5 0)])] [none]) (.call ⟨.value (.func 178), #[(.tmp 19)], #[35]⟩) 9 false t81_8
def t81_6 : Tr := .need (.call 117 [(.agg [(U 0 0), (U 0 1), (U 0 2)])] [(some 1)]) (.call ⟨.value (.func 117), #[(.tmp 18)], #[39]⟩) 35 false t81_7
def t81_11 : Tr := .ret [(W 2 0)]
def t81_5 : Tr := .split (.u 4 0) t81_6 t81_11
def t81_4 : Tr := .need (.prim [(W 3 0)] none) (.unOp .not 4 (.tmp 15)) 4 false t81_5
def t81_3 : Tr := .need (.call 179 [(.agg [(U 0 2)])] [none]) (.call ⟨.value (.func 179), #[(.tmp 14)], #[35]⟩) 4 true t81_4
def t81_2 : Tr := .need (.prim [(.one (.c (.k (.string ⟨#[45]⟩)))), (W 1 0)] none) (.binOp .add 9 (.const (.string ⟨#[45]⟩)) (.tmp 11) 9) 9 false t81_3
def t81_19 : Tr := .ret [(W 7 0)]
def t81_18 : Tr := .need (.prim [(W 1 0), (W 6 0)] none) (.binOp .add 9 (.tmp 17) (.tmp 21) 9) 9 false t81_19
def t81_17 : Tr := .need (.prim [(.one (.c (.k (.string ⟨#[47]⟩)))), (W 5 0)] none) (.binOp .add 9 (.const (.string ⟨#[47]⟩)) (.tmp 20) 9) 9 false t81_18
def t81_16 : Tr := .need (.call 178 [(.agg [(U 4 0)])] [none]) (.call ⟨.value (.func 178), #[(.tmp 19)], #[35]⟩) 9 false t81_17
def t81_15 : Tr := .need (.call 117 [(.agg [(U 0 0), (U 0 1), (U 0 2)])] [(some 1)]) (.call ⟨.value (.func 117), #[(.tmp 18)], #[39]⟩) 35 false t81_16
def t81_20 : Tr := .ret [(W 1 0)]
def t81_14 : Tr := .split (.u 3 0) t81_15 t81_20
def t81_13 : Tr := .need (.prim [(W 2 0)] none) (.unOp .not 4 (.tmp 15)) 4 false t81_14
def t81_12 : Tr := .need (.call 179 [(.agg [(U 0 2)])] [none]) (.call ⟨.value (.func 179), #[(.tmp 14)], #[35]⟩) 4 true t81_13
def t81_1 : Tr := .split (.u 0 1) t81_2 t81_12
def t81_0 : Tr := .need (.call 178 [(.agg [(U 0 0)])] [none]) (.call ⟨.value (.func 178), #[(.tmp 6)], #[35]⟩) 9 true t81_1
theorem x_QText : execF prog f90 (fun _ => none) [.v (some 3)] = t81_0 := by kernel_rfl
def t82_2 : Tr := .need (.prim [(W 2 0), (W 3 0)] none) (.binOp .eql 9 (.tmp 6) (.tmp 8) 9) 4 false t80_5
def t82_1 : Tr := .need (.call 128 [(.agg [(U 1 0), (U 1 1), (U 1 2), (U 1 3)])] [none]) (.call ⟨.value (.func 128), #[(.tmp 7)], #[49]⟩) 9 true t82_2
def t82_0 : Tr := .need (.call 90 [(.agg [(U 0 0), (U 0 1), (U 0 2)])] [none]) (.call ⟨.value (.func 90), #[(.tmp 5)], #[39]⟩) 9 false t82_1
theorem x_KSame : execF prog f44 (fun _ => none) [.v (some 3), .v (some 4)] = t82_0 := by kernel_rfl

set_option maxHeartbeats 1000000 in
theorem d_RZText (z : Int) (H : Nat) (hz : z.natAbs < 2 ^ H) (hH : H ≤ 34359738360) : Does prog 206 [(zT z : STy)] (.ret [bS (zTxt z)]) := by
  refine does_of_vc (args := [.v (some 2)]) (ins := [.v (zT z)]) (hints := (fun _ => none)) fo (by kernel_rfl) func206 ⟨rfl, trivial⟩ ?_
  rw [x_RZText]
  dsimp only [List.map, In.env, c_a, n_a]
  have hb := bd_bits hz
  have hb1 : (bd 10000).length = 1 := by rw [bd_small (by omega) (by omega)]; rfl
  obtain ⟨n, hn⟩ : ∃ n, z.natAbs = n := ⟨_, rfl⟩
  rw [hn] at hz hb
  rw [show zT z = .agg [.int .i64 z.sign, bT n] by rw [← hn]]
  refine vn q_eql rfl ?_
  dsimp only [c_a, n_a]
  refine vs _ rfl (fun h1 => ?_) (fun h1 => ?_)
  · have hz0 : z = 0 := Int.sign_eq_zero_iff_zero.1 h1
    subst hz0
    rw [show zTxt 0 = [48] by rw [zTxt, if_neg (by omega)]; exact dec_zero]
    exact vret rfl
  have hn0 : n ≠ 0 := fun e => h1 (by rw [Int.sign_eq_zero_iff_zero]; omega)
  refine vloop {k : Nat // n / 10 ^ (4 * (k - 1)) ≠ 0} (fun g => [bS (zpad (4 * g.1) n), .one (bT (n / 10 ^ (4 * g.1)))]) (fun g => n / 10 ^ (4 * g.1)) ⟨0, by simpa using hn0⟩ (show SubL _ _ by rw [Nat.mul_zero, Nat.pow_zero, Nat.div_one]; exact SubL.rfl) (fun _ => rfl) ?_
  rintro ⟨k, hk⟩
  dsimp only [c_a, n_a] at hk ⊢
  have hk4 : 4 * (k - 1) < H := pow_bits hz hk
  generalize hm : n / 10 ^ (4 * k) = m
  have hmn : m ≤ n := by rw [← hm]; exact Nat.div_le_self _ _
  have hbm := bd_len_mono hmn
  refine vn (p_len el45 (List.length_map _)) rfl ?_
  dsimp only [c_a, n_a]
  refine vn q_gtr rfl ?_
  dsimp only [c_a, n_a]
  refine vs _ rfl (fun h6 => ?_) (fun h6 => ?_)
  · have hm0 : m ≠ 0 := fun e => by subst e; rw [bd_zero] at h6; simp at h6
    refine vlit (us := [[.int .i64 10000]]) rfl ?_
    dsimp only [c_a, n_a]
    have hover := d_Rover m 10000 (by omega) (by omega)
    rw [show bT 10000 = .slice 1 [[.int .i64 10000]] by rw [bT, bd_small (by omega) (by omega)]; rfl] at hover
    refine vcall hover rfl ?_
    dsimp only [c_a, n_a]
    refine vcall (d_Rshort (m % 10000) (by
      have := bd_len_le (n := m % 10000) (k := 1) (by omega)
      omega)) rfl ?_
    dsimp only [c_a, n_a]
    have hr : m % 10000 < 10000 := Nat.mod_lt _ (by omega)
    generalize hr' : m % 10000 = r at hr ⊢
    refine vloop {i : Nat // i ≤ 4} (fun g => [bS (zpad g.1 r ++ zpad (4 * k) n), .one (.int .i64 ((r / 10 ^ g.1 : Nat) : Int)), .one (.int .i64 g.1)]) (fun g => 4 - g.1) ⟨0, by omega⟩ (show SubL _ _ by rw [Nat.pow_zero, Nat.div_one]; exact SubL.rfl) (fun _ => rfl) ?_
    rintro ⟨i, hi⟩
    dsimp only [c_a, n_a] at hi ⊢
    refine vn q_lss rfl ?_
    dsimp only [c_a, n_a]
    refine vs _ rfl (fun h12 => ?_) (fun h12 => ?_)
    · have hri : r / 10 ^ i ≤ r := Nat.div_le_self _ _
      generalize ht : r / 10 ^ i = t at hri ⊢
      have ht10 : t % 10 < 10 := Nat.mod_lt _ (by omega)
      refine vn (p_rem_n (by omega) (by omega)) rfl ?_
      dsimp only [c_a, n_a]
      refine vn (p_rem_n (by omega) (by omega)) rfl ?_
      dsimp only [c_a, n_a]
      refine vn (p_add_i64 (by omega) (by omega)) rfl ?_
      dsimp only [c_a, n_a]
      refine vn (p_spart un9 (by omega) (by omega) (by show _ ≤ 10; omega)) rfl ?_
      dsimp only [c_a, n_a]
      rw [show ((t : Int) % 10 + 1).toNat = t % 10 + 1 by omega, show ((t : Int) % 10).toNat = t % 10 by omega, digit_piece ht10]
      refine vn (p_sadd (by simp only [List.length_append, zpad_length, List.length_cons, List.length_nil]; omega)) rfl ?_
      dsimp only [c_a, n_a]
      refine vn (p_quo_i64 (by omega) (by omega) (by omega)) rfl ?_
      dsimp only [c_a, n_a]
      refine vn (p_add_i64 (by omega) (by omega)) rfl ?_
      dsimp only [c_a, n_a]
      exact vback rfl ⟨⟨i + 1, by omega⟩, SubL.of_eq (show [bS ([chr (t % 10)] ++ (zpad i r ++ zpad (4 * k) n)), (.one (.int .i64 ((t : Int) / 10)) : STy), .one (.int .i64 ((i : Int) + 1))] = _ by
        dsimp only
        rw [← List.append_assoc, ← ht, zpad_front, ← pow10_succ]
        rfl), by show 4 - (i + 1) < 4 - i; omega⟩
    refine vback rfl ⟨⟨k + 1, by rw [Nat.add_sub_cancel, hm]; exact hm0⟩, ?_, ?_⟩
    · dsimp only
      rw [show i = 4 by omega, ← hr', ← hm, zpad_next, div_next]
      exact SubL.rfl
    · show n / 10 ^ (4 * (k + 1)) < m
      rw [← div_next, hm]
      exact Nat.div_lt_self (by omega) (by omega)
  have hm0 : m = 0 := by
    have : bd m = [] := List.eq_nil_of_length_eq_zero (by omega)
    exact bd_nil.1 this
  have hlt : n < 10 ^ (4 * k) := by
    rcases Nat.lt_or_ge n (10 ^ (4 * k)) with h | h
    · exact h
    · have := Nat.div_pos h (Nat.pow_pos (by omega)); omega
  have hk0 : 0 < 4 * k := by
    rcases Nat.eq_zero_or_pos (4 * k) with h | h
    · rw [h] at hlt; simp at hlt; omega
    · exact h
  rw [zpad_dec hk0 hlt]
  have hdl := dec_len_le hk0 hlt
  have hdp := dec_pos n
  refine vloop {c : Nat // c ≤ 4 * k} (fun g => [bS (List.replicate g.1 48 ++ dec n)]) (fun g => g.1) ⟨4 * k - (dec n).length, by omega⟩ SubL.rfl (fun _ => rfl) ?_
  rintro ⟨c, hc⟩
  dsimp only [c_a, n_a] at hc ⊢
  obtain ⟨x, hx⟩ : ∃ x, (List.replicate c (48 : UInt8) ++ dec n)[(0 : Int).toNat]? = some x := ⟨_, List.getElem?_eq_getElem (by simp only [List.length_append]; show 0 < _; omega)⟩
  refine vn (p_sidx un9 (by omega) hx) rfl ?_
  dsimp only [c_a, n_a]
  refine vn q_eql rfl ?_
  dsimp only [c_a, n_a]
  refine vs _ rfl (fun h25 => ?_) (fun h25 => ?_)
  · obtain ⟨c', rfl⟩ : ∃ c', c = c' + 1 := by
      cases c with
      | succ c => exact ⟨c, rfl⟩
      | zero =>
        rw [List.replicate_zero, List.nil_append] at hx
        have h1 := dec_head n hn0 x (by rw [List.head?_eq_getElem?]; exact hx)
        exact (h1 (UInt8.toNat_inj.1 (by show x.toNat = 48; omega))).elim
    refine vn (p_sdrop un9 (by omega) (by simp only [List.length_append, List.length_replicate]; omega)) rfl ?_
    dsimp only [c_a, n_a]
    exact vback rfl ⟨⟨c', by omega⟩, SubL.rfl, by show c' < c' + 1; omega⟩
  obtain rfl : c = 0 := by
    cases c with
    | zero => rfl
    | succ c =>
      rw [List.replicate_succ] at hx
      have : x = 48 := by simpa using hx.symm
      subst this
      exact (h25 rfl).elim
  rw [List.replicate_zero, List.nil_append]
  refine vn q_lss rfl ?_
  dsimp only [c_a, n_a]
  refine vs _ rfl (fun h29 => ?_) (fun h29 => ?_)
  · refine vn (p_sadd (a := [45]) (by simp only [List.length_cons, List.length_nil]; omega)) rfl ?_
    dsimp only [c_a, n_a]
    have hneg : z < 0 := by rcases sign_cases z with ⟨h, e⟩ | ⟨h, e⟩ | ⟨h, e⟩ <;> omega
    rw [show zTxt z = [45] ++ dec n by rw [zTxt, if_pos hneg, hn]]
    exact vret rfl
  have hneg : ¬ z < 0 := by rcases sign_cases z with ⟨h, e⟩ | ⟨h, e⟩ | ⟨h, e⟩ <;> omega
  rw [show zTxt z = dec n by rw [zTxt, if_neg hneg, hn]; rfl]
  exact vret rfl

theorem zTxt_nat (n : Nat) : zTxt (n : Int) = dec n := by rw [zTxt, if_neg (by omega), Int.natAbs_natCast]; rfl
theorem dec_len_fit {n H : Nat} (h : n < 2 ^ H) : (dec n).length ≤ H + 1 :=
  dec_len_le (Nat.succ_pos H) (Nat.lt_of_lt_of_le h (Nat.le_trans (Nat.pow_le_pow_left (by omega) H) (Nat.pow_le_pow_right (by omega) (Nat.le_succ H))))
theorem zTxt_len {z : Int} {H : Nat} (h : z.natAbs < 2 ^ H) : (zTxt z).length ≤ H + 2 := by
  have := dec_len_fit h
  unfold zTxt
  rw [List.length_append]
  split <;> simp <;> omega

theorem d_RText (a : RQ) (H : Nat) (hf : Fit H a.q) (hH : H ≤ 34359738360) : Does prog 128 [(rT' a : STy)] (.ret [bS (qTxt a.q)]) := by
  refine does_of_vc (args := [.v (some 4)]) (ins := [.v (rT' a)]) (hints := (fun _ => none)) fo (by kernel_rfl) func128 ⟨rfl, trivial⟩ ?_
  rw [x_RText]
  dsimp only [List.map, In.env, c_a, n_a]
  have hd := zTxt_len (z := (a.q.den : Int)) hf.2
  have hn := zTxt_len hf.1
  rw [show qTxt a.q = zTxt a.q.num ++ if a.q.den = 1 then [] else [47] ++ dec a.q.den from rfl]
  refine vcall (d_Rden a) rfl ?_
  dsimp only [c_a, n_a]
  refine vcall (d_RZText (a.q.den : Int) H hf.2 hH) rfl ?_
  dsimp only [c_a, n_a]
  refine vn (p_seql (b := [49])) rfl ?_
  dsimp only [c_a, n_a]
  refine vs _ rfl (fun h3 => ?_) (fun h3 => ?_)
  · refine vcall (d_RZText a.q.num H hf.1 hH) rfl ?_
    dsimp only [c_a, n_a]
    have h1 : a.q.den = 1 := dec_inj (by rw [← zTxt_nat, h3, dec_one])
    rw [if_pos h1, List.append_nil]; exact vret rfl
  refine vcall (d_RZText a.q.num H hf.1 hH) rfl ?_
  dsimp only [c_a, n_a]
  refine vn (p_sadd (b := [47]) (by simp only [List.length_cons, List.length_nil]; omega)) rfl ?_
  dsimp only [c_a, n_a]
  refine vcall (d_Rden a) rfl ?_
  dsimp only [c_a, n_a]
  refine vcall (d_RZText (a.q.den : Int) H hf.2 hH) rfl ?_
  dsimp only [c_a, n_a]
  refine vn (p_sadd (by simp only [List.length_append, List.length_cons, List.length_nil]; omega)) rfl ?_
  dsimp only [c_a, n_a]
  have h1 : a.q.den ≠ 1 := fun h => h3 (by rw [zTxt_nat, h, dec_one])
  rw [if_neg h1, show zTxt a.q.num ++ 47 :: dec a.q.den = (zTxt a.q.num ++ [47]) ++ zTxt (a.q.den : Int) by rw [zTxt_nat, List.append_assoc]; rfl]; exact vret rfl
end Go.Sy
