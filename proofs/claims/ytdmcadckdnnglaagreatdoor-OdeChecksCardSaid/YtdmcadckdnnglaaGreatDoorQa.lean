/- Polynomials as lists of coefficients: their values; two that are trimmed and have the same values are the same. A denominator that is known, and a bound: sums keep the denominator. The product of polynomials as it is made: row by row. Polynomials: the sum, the product, constants.
-/
import Derived.Test.YtdmcadckdnnglaaGreatDoorPa
import Derived.Test.YtdmcadckdnnglaaGreatDoorTb
set_option linter.unusedVariables false
set_option linter.unusedSimpArgs false
namespace Ord
/-- the value at a number -/
def ev (p : List Rat) (x : Rat) : Rat := p.foldr (fun a v => v * x + a) 0
theorem ev_nil (x : Rat) : ev [] x = 0 := rfl
theorem ev_cons (a : Rat) (p : List Rat) (x : Rat) : ev (a :: p) x = ev p x * x + a := rfl
theorem ev_append (p q : List Rat) (x : Rat) : ev (p ++ q) x = ev p x + x ^ p.length * ev q x := by
  induction p with
  | nil => simp only [List.nil_append, ev_nil, List.length_nil]; grind
  | cons a p ih => simp only [List.cons_append, ev_cons, ih, List.length_cons, Rat.pow_succ]; grind
theorem ev_set (p : List Rat) (i : Nat) (a b x : Rat) (h : p[i]? = some a) : ev (p.set i b) x = ev p x + (b - a) * x ^ i := by
  induction p generalizing i with
  | nil => simp at h
  | cons c p ih =>
    cases i with
    | zero =>
      simp only [List.getElem?_cons_zero, Option.some.injEq] at h
      subst h
      simp only [List.set_cons_zero, ev_cons, Rat.pow_zero]; grind
    | succ i =>
      simp only [List.getElem?_cons_succ] at h
      simp only [List.set_cons_succ, ev_cons, ih i h, Rat.pow_succ]; grind
theorem ev_rep (n : Nat) (x : Rat) : ev (List.replicate n 0) x = 0 := by
  induction n with
  | zero => rfl
  | succ n ih => rw [List.replicate_succ, ev_cons, ih]; grind
theorem ev_take_succ {p : List Rat} {i : Nat} {a : Rat} (h : p[i]? = some a) (x : Rat) : ev (p.take (i + 1)) x = ev (p.take i) x + a * x ^ i := by
  have hi : i < p.length := (List.getElem?_eq_some_iff.1 h).1
  rw [List.take_add_one, h, Option.toList_some, ev_append, List.length_take, Nat.min_eq_left (by omega), ev_cons, ev_nil]; grind
/-! ### few zeros -/
/-- without zeros at the end -/
def Trimd (p : List Rat) : Prop := ∀ a, p.getLast? = some a → a ≠ 0
theorem Trimd.tail {a : Rat} {p : List Rat} (h : Trimd (a :: p)) : Trimd p := fun b hb => h b (by
  cases p with
  | nil => cases hb
  | cons c p => rw [List.getLast?_cons_cons]; exact hb)
end Ord
namespace Ord
/-- the denominator divides D; the absolute value is at most S -/
def Bd (D S : Nat) (q : Rat) : Prop := q.den ∣ D ∧ q.num.natAbs ≤ S * q.den

theorem Bd.zero {D S : Nat} : Bd D S 0 := ⟨⟨D, by simp⟩, by simp⟩
theorem Bd.one {D S : Nat} (h : 1 ≤ S) : Bd D S 1 := ⟨⟨D, by simp⟩, by simpa using h⟩
theorem Bd.int {D S : Nat} {n : Int} (h : n.natAbs ≤ S) : Bd D S (n : Rat) := ⟨⟨D, by simp⟩, by simpa using h⟩
theorem Bd.mono {D S E T : Nat} {q : Rat} (h : Bd D S q) (hD : D ∣ E) (hS : S ≤ T) : Bd E T q :=
  ⟨Nat.dvd_trans h.1 hD, Nat.le_trans h.2 (Nat.mul_le_mul_right _ hS)⟩
theorem Bd.le {D S T : Nat} {q : Rat} (h : Bd D S q) (hS : S ≤ T) : Bd D T q := h.mono (Nat.dvd_refl _) hS
theorem Bd.neg {D S : Nat} {q : Rat} (h : Bd D S q) : Bd D S (-q) := ⟨h.1, by show (-q.num).natAbs ≤ S * q.den; rw [Int.natAbs_neg]; exact h.2⟩
/-- a fraction over D -/
theorem Bd.mk {D S : Nat} {n : Int} (h0 : D ≠ 0) (h : n.natAbs ≤ S * D) : Bd D S (mkRat n D) := by
  rw [← Rat.normalize_eq_mkRat h0, Rat.normalize_eq h0]
  show D / n.natAbs.gcd D ∣ D ∧ (n / ((n.natAbs.gcd D : Nat) : Int)).natAbs ≤ S * (D / n.natAbs.gcd D)
  have hg : 0 < n.natAbs.gcd D := Nat.gcd_pos_of_pos_right _ (by omega)
  have hd := Nat.gcd_dvd_right n.natAbs D
  have hn := Nat.gcd_dvd_left n.natAbs D
  generalize n.natAbs.gcd D = g at *
  obtain ⟨d', rfl⟩ := hd
  obtain ⟨k, hk⟩ := Int.ofNat_dvd_left.2 hn
  subst hk
  constructor
  · rw [Nat.mul_div_cancel_left _ hg]; exact Nat.dvd_mul_left _ _
  · rw [Nat.mul_div_cancel_left _ hg, Int.mul_ediv_cancel_left _ (by omega)]
    rw [Int.natAbs_mul, Int.natAbs_natCast, Nat.mul_left_comm] at h
    exact Nat.le_of_mul_le_mul_left h hg
/-- as a fraction over D -/
theorem Bd.ex {D S : Nat} {q : Rat} (h : Bd D S q) (h0 : D ≠ 0) : ∃ n : Int, q = mkRat n D ∧ n.natAbs ≤ S * D := by
  obtain ⟨⟨k, rfl⟩, h2⟩ := h
  have hk : k ≠ 0 := fun e => h0 (by rw [e, Nat.mul_zero])
  refine ⟨q.num * k, ?_, ?_⟩
  · rw [Nat.mul_comm q.den k, Int.mul_comm, Rat.mkRat_mul_left hk, Rat.mkRat_self]
  · rw [Int.natAbs_mul, Int.natAbs_natCast, ← Nat.mul_assoc]; exact Nat.mul_le_mul_right _ h2
theorem Bd.add {D S T : Nat} {a b : Rat} (h0 : D ≠ 0) (ha : Bd D S a) (hb : Bd D T b) : Bd D (S + T) (a + b) := by
  obtain ⟨m, rfl, hm⟩ := ha.ex h0
  obtain ⟨n, rfl, hn⟩ := hb.ex h0
  have e : mkRat m D + mkRat n D = mkRat (m + n) D := by
    rw [Rat.mkRat_add_mkRat m n h0 h0, ← Int.add_mul, Rat.mkRat_mul_right h0]
  rw [e]
  refine Bd.mk h0 (Nat.le_trans (Int.natAbs_add_le _ _) ?_)
  rw [Nat.add_mul]; exact Nat.add_le_add hm hn
theorem Bd.sub {D S T : Nat} {a b : Rat} (h0 : D ≠ 0) (ha : Bd D S a) (hb : Bd D T b) : Bd D (S + T) (a - b) := by
  rw [Rat.sub_eq_add_neg]; exact ha.add h0 hb.neg
theorem Bd.mul {D E S T : Nat} {a b : Rat} (h0 : D ≠ 0) (h1 : E ≠ 0) (ha : Bd D S a) (hb : Bd E T b) : Bd (D * E) (S * T) (a * b) := by
  obtain ⟨m, rfl, hm⟩ := ha.ex h0
  obtain ⟨n, rfl, hn⟩ := hb.ex h1
  rw [Rat.mkRat_mul_mkRat]
  refine Bd.mk (Nat.mul_ne_zero h0 h1) ?_
  rw [Int.natAbs_mul]
  have := Nat.mul_le_mul hm hn
  rw [Nat.mul_mul_mul_comm] at this
  exact this
theorem Bd.fit {D S B : Nat} {q : Rat} (h : Bd D S q) (h0 : D ≠ 0) (h1 : D < 2 ^ B) (h2 : S * D < 2 ^ B) : Fit B q := by
  have hd := Nat.le_of_dvd (by omega) h.1
  exact ⟨Nat.lt_of_le_of_lt (Nat.le_trans h.2 (Nat.mul_le_mul_left _ hd)) h2, Nat.lt_of_le_of_lt hd h1⟩
end Ord
namespace Ord
/-- a row: a times the first k of q is added from the place i on -/
def mulRow (a : Rat) (q : List Rat) (i : Nat) (out : List Rat) : Nat → List Rat
  | 0 => out
  | k + 1 => (mulRow a q i out k).set (i + k) ((mulRow a q i out k).getD (i + k) 0 + a * q.getD k 0)
/-- the rows of the first i of p -/
def mulL (p q : List Rat) : Nat → List Rat
  | 0 => List.replicate (p.length + q.length - 1) 0
  | i + 1 => if p.getD i 0 = 0 then mulL p q i else mulRow (p.getD i 0) q i (mulL p q i) q.length
theorem mulRow_length (a : Rat) (q : List Rat) (i : Nat) (out : List Rat) : ∀ k, (mulRow a q i out k).length = out.length
  | 0 => rfl
  | k + 1 => by rw [mulRow, List.length_set, mulRow_length a q i out k]
theorem mulL_length (p q : List Rat) : ∀ i, (mulL p q i).length = p.length + q.length - 1
  | 0 => by rw [mulL, List.length_replicate]
  | i + 1 => by
    rw [mulL]
    split
    · exact mulL_length p q i
    · rw [mulRow_length, mulL_length p q i]
theorem getD_of {l : List Rat} {i : Nat} (h : i < l.length) : l[i]? = some (l.getD i 0) := by
  rw [List.getD_eq_getElem?_getD, List.getElem?_eq_getElem h]; rfl
theorem rpow_add (x : Rat) (i : Nat) : ∀ k : Nat, x ^ (i + k) = x ^ i * x ^ k
  | 0 => by rw [Nat.add_zero, Rat.pow_zero]; grind
  | k + 1 => by rw [← Nat.add_assoc, Rat.pow_succ, rpow_add x i k, Rat.pow_succ]; grind
theorem mulRow_ev (a : Rat) (q : List Rat) (i : Nat) (out : List Rat) (x : Rat) (hl : i + q.length ≤ out.length) : ∀ k, k ≤ q.length → ev (mulRow a q i out k) x = ev out x + a * x ^ i * ev (q.take k) x
  | 0, _ => by rw [mulRow, List.take_zero, ev_nil]; grind
  | k + 1, hk => by
    have hget := getD_of (l := mulRow a q i out k) (i := i + k) (by rw [mulRow_length]; omega)
    rw [mulRow, ev_set _ _ _ _ x hget, mulRow_ev a q i out x hl k (by omega), ev_take_succ (getD_of (l := q) (by omega)) x, rpow_add]
    grind
theorem mulL_ev (p q : List Rat) (x : Rat) (hq : 0 < q.length) : ∀ i, i ≤ p.length → ev (mulL p q i) x = ev (p.take i) x * ev q x
  | 0, _ => by rw [mulL, ev_rep, List.take_zero, ev_nil]; grind
  | i + 1, hi => by
    have ih := mulL_ev p q x hq i (by omega)
    rw [mulL, ev_take_succ (getD_of (l := p) (by omega)) x]
    split
    · rename_i h0
      rw [ih, h0]; grind
    · rw [mulRow_ev _ _ _ _ x (by rw [mulL_length]; omega) _ (Nat.le_refl _), ih, List.take_length]; grind
theorem getD_bd {D S : Nat} {l : List Rat} (h : ∀ a ∈ l, Bd D S a) (i : Nat) : Bd D S (l.getD i 0) := by
  rw [List.getD_eq_getElem?_getD]
  cases hi : l[i]? with
  | none => exact Bd.zero
  | some a => exact h a (List.mem_of_getElem? hi)
/-- an entry that has been touched once more -/
def RowBd (D S T : Nat) (i k : Nat) (l : List Rat) : Prop := ∀ j a, l[j]? = some a → Bd D (if i ≤ j ∧ j < i + k then S + T else S) a
theorem mulRow_bd {D E S T U : Nat} (h0 : D ≠ 0) (h1 : E ≠ 0) {a : Rat} {q : List Rat} (ha : Bd D S a) (hq : ∀ b ∈ q, Bd E T b) {i : Nat} {out : List Rat} (ho : ∀ x ∈ out, Bd (D * E) U x) : ∀ k, RowBd (D * E) U (S * T) i k (mulRow a q i out k)
  | 0 => fun j x hx => by
    rw [if_neg (by omega)]
    exact ho x (List.mem_of_getElem? hx)
  | k + 1 => fun j x hx => by
    have ih := mulRow_bd h0 h1 ha hq ho k (i := i)
    rw [mulRow, List.getElem?_set] at hx
    split at hx
    · rename_i e
      subst e
      split at hx
      · rename_i hlt
        simp only [Option.some.injEq] at hx
        subst hx
        rw [if_pos (by omega)]
        refine Bd.add (Nat.mul_ne_zero h0 h1) ?_ (ha.mul h0 h1 (getD_bd hq k))
        have := ih (i + k) _ (getD_of hlt)
        rw [if_neg (by omega)] at this
        exact this
      · cases hx
    · have := ih j x hx
      refine this.le ?_
      by_cases h2 : i ≤ j ∧ j < i + k
      · rw [if_pos h2, if_pos (by omega)]; exact Nat.le_refl _
      · rw [if_neg h2]
        split
        · exact Nat.le_add_right _ _
        · exact Nat.le_refl _
theorem mulRow_bd' {D E S T U : Nat} (h0 : D ≠ 0) (h1 : E ≠ 0) {a : Rat} {q : List Rat} (ha : Bd D S a) (hq : ∀ b ∈ q, Bd E T b) {i : Nat} {out : List Rat} (ho : ∀ x ∈ out, Bd (D * E) U x) (k : Nat) : ∀ x ∈ mulRow a q i out k, Bd (D * E) (U + S * T) x := fun x hx => by
  obtain ⟨j, hj⟩ := List.mem_iff_getElem?.1 hx
  refine (mulRow_bd h0 h1 ha hq ho k j x hj).le ?_
  split
  · exact Nat.le_refl _
  · exact Nat.le_add_right _ _
theorem mulL_bd {D E S T : Nat} (h0 : D ≠ 0) (h1 : E ≠ 0) {p q : List Rat} (hp : ∀ a ∈ p, Bd D S a) (hq : ∀ b ∈ q, Bd E T b) : ∀ i, ∀ x ∈ mulL p q i, Bd (D * E) (i * (S * T)) x
  | 0 => fun x hx => by
    rw [mulL] at hx
    obtain ⟨_, rfl⟩ := List.mem_replicate.1 hx
    exact Bd.zero
  | i + 1 => fun x hx => by
    rw [mulL] at hx
    rw [Nat.add_mul, Nat.one_mul]
    split at hx
    · exact (mulL_bd h0 h1 hp hq i x hx).le (Nat.le_add_right _ _)
    · exact mulRow_bd' h0 h1 (getD_bd hp i) hq (mulL_bd h0 h1 hp hq i) _ x hx
/-- all that is met in a product has few bits -/
theorem mul_fits {D E S T B n : Nat} (h0 : D ≠ 0) (h1 : E ≠ 0) (hX : D * E * ((n + 1) * ((S + 1) * (T + 1))) < 2 ^ B) :
    (∀ a, Bd D S a → Fit B a) ∧ (∀ b, Bd E T b → Fit B b) ∧ (∀ c (i : Nat), i < n → Bd (D * E) (i * (S * T) + S * T) c → Fit B c) ∧ (∀ c, Bd (D * E) (S * T) c → Fit B c) := by
  have hD : 0 < D := Nat.pos_of_ne_zero h0
  have hE : 0 < E := Nat.pos_of_ne_zero h1
  have hDE : 0 < D * E := Nat.mul_pos hD hE
  have key : ∀ X, X ≤ (n + 1) * ((S + 1) * (T + 1)) → X * (D * E) < 2 ^ B := fun X h => by
    refine Nat.lt_of_le_of_lt ?_ hX
    rw [Nat.mul_comm]; exact Nat.mul_le_mul_left _ h
  have hST : (S + 1) * (T + 1) = S * T + S + T + 1 := by rw [Nat.add_mul, Nat.mul_add]; omega
  have hge : (S + 1) * (T + 1) ≤ (n + 1) * ((S + 1) * (T + 1)) := Nat.le_mul_of_pos_left _ (by omega)
  have k1 := key 1 (by omega)
  have kS := key S (by omega)
  have kT := key T (by omega)
  have kST := key (S * T) (by omega)
  have hDle : D ≤ D * E := Nat.le_mul_of_pos_right _ hE
  have hEle : E ≤ D * E := Nat.le_mul_of_pos_left _ hD
  refine ⟨fun a ha => ha.fit h0 (by omega) (Nat.lt_of_le_of_lt (Nat.mul_le_mul_left _ hDle) kS), fun b hb => hb.fit h1 (by omega) (Nat.lt_of_le_of_lt (Nat.mul_le_mul_left _ hEle) kT), fun c i hi hc => ?_, fun c hc => hc.fit (by omega) (by omega) kST⟩
  refine hc.fit (by omega) (by omega) (key _ ?_)
  have e : i * (S * T) + S * T = (i + 1) * (S * T) := by rw [Nat.add_mul, Nat.one_mul]
  rw [e]
  exact Nat.mul_le_mul (by omega) (by omega)
end Ord
namespace Go.Sy
open Go Go.Proofs Tryz Ord

def t107_9 : Tr := .back 0 [(.w (W 9 0)), (.row 8)]
def t107_8 : Tr := .need (.prim [(W 4 0), (WK (1))] none) (.binOp .add 3 (.tmp 11) (.const (I3 (1))) 3) 3 false t107_9
def t107_7 : Tr := .need (.strow 5 3 (.u 4 0) 0 [(.u 7 0), (.u 7 1), (.u 7 2)]) (.store 39 (.tmp 19) (.tmp 18)) 0 false t107_8
def t107_6 : Tr := .need (.idx 5 (.u 4 0)) (.indexAddr 72 (.tmp 14) (.tmp 15)) 0 false t107_7
def t107_5 : Tr := .need (.callv (.u 1 0) [(W 4 0)] [(some 3)]) (.call ⟨.value (.tmp 16), #[(.tmp 17)], #[3]⟩) 39 true t107_6
def t107_11 : Tr := .ret [(W 7 0)]
def t107_10 : Tr := .need (.call 34 [(.one (.c (.sr 3 5)))] [none]) (.call ⟨.value (.func 34), #[(.tmp 21)], #[72]⟩) 72 true t107_11
def t107_4 : Tr := .split (.u 6 0) t107_5 t107_10
def t107_3 : Tr := .need (.prim [(W 4 0), (W 3 0)] none) (.binOp .lss 3 (.tmp 11) (.tmp 10) 3) 0 false t107_4
def t107_2 : Tr := .loop 0 [(.w (WK (0))), (.row 2)] t107_3
def t107_1 : Tr := .need (.lenrow 2) (.call ⟨.builtin .len, #[(.tmp 9)], #[72]⟩) 3 false t107_2
def t107_0 : Tr := .need (.make [(.slice none 0 0), (.bool false), (.slice none 0 0)] 56 (.u 0 0) (.u 0 0)) (.makeSlice 72 (.tmp 7) (.tmp 7)) 72 false t107_1
theorem x_peach : execF prog f107 (fun _ => none) [.v none, .v none] = t107_0 := by kernel_rfl
def t108_5 : Tr := .ret [(.agg [(U 5 0), (U 5 1), (U 5 2)])]
def t108_4 : Tr := .need (.prim [(W 4 0)] (some 3)) (.load 39 (.tmp 11)) 39 false t108_5
def t108_3 : Tr := .need (.prim [(W 0 0), (W 1 0)] none) (.indexAddr 72 (.tmp 9) (.tmp 10)) 0 false t108_4
def t108_6 : Tr := .ret [(.agg [(.c (.k (.slice none 0 0))), (.c (.k (.bool false))), (.c (.k (.slice none 0 0)))])]
def t108_2 : Tr := .split (.u 3 0) t108_3 t108_6
def t108_1 : Tr := .need (.prim [(W 1 0), (W 2 0)] none) (.binOp .lss 3 (.tmp 5) (.tmp 7) 3) 4 false t108_2
def t108_0 : Tr := .need (.prim [(W 0 0)] none) (.call ⟨.builtin .len, #[(.tmp 6)], #[72]⟩) 3 false t108_1
theorem x_pat : execF prog f109 (fun _ => none) [.v none, .v none] = t108_0 := by kernel_rfl
def t109_2 : Tr := .need (.call 64 [(.agg [(U 3 0), (U 3 1), (U 3 2)]), (.agg [(U 4 0), (U 4 1), (U 4 2)])] [(some 3)]) (.call ⟨.value (.func 64), #[(.tmp 7), (.tmp 10)], #[39, 39]⟩) 39 true t108_5
def t109_1 : Tr := .need (.call 109 [(W 2 0), (W 0 0)] [(some 3)]) (.call ⟨.value (.func 109), #[(.tmp 8), (.tmp 9)], #[72, 3]⟩) 39 true t109_2
def t109_0 : Tr := .need (.call 109 [(W 1 0), (W 0 0)] [(some 3)]) (.call ⟨.value (.func 109), #[(.tmp 5), (.tmp 6)], #[72, 3]⟩) 39 false t109_1
theorem x_pAdd_1 : execF prog f108 (fun _ => none) [.v none, .ref 1, .ref 1] = t109_0 := by kernel_rfl
def t110_4 : Tr := .ret [(W 5 0)]
def t110_3 : Tr := .need (.call 107 [(W 4 0), (.one (.clo 108 [(.ref 0 [(.u 0 0)]), (.ref 0 [(.u 1 0)])]))] [none]) (.call ⟨.value (.func 107), #[(.tmp 9), (.tmp 10)], #[3, 177]⟩) 72 true t110_4
def t110_2 : Tr := .need (.prim [(W 2 0), (W 3 0)] none) (.call ⟨.builtin .max, #[(.tmp 6), (.tmp 8)], #[3, 3]⟩) 3 false t110_3
def t110_1 : Tr := .need (.prim [(W 1 0)] none) (.call ⟨.builtin .len, #[(.tmp 7)], #[72]⟩) 3 false t110_2
def t110_0 : Tr := .need (.prim [(W 0 0)] none) (.call ⟨.builtin .len, #[(.tmp 5)], #[72]⟩) 3 false t110_1
theorem x_pAdd : execF prog f30 (fun _ => none) [.v none, .v none] = t110_0 := by kernel_rfl
def t113_3 : Tr := .ret [(.one (.c (.k (.slice none 0 0))))]
def t113_23 : Tr := .back 0 [(.w (W 19 0)), (.row 13)]
def t113_22 : Tr := .need (.prim [(W 12 0), (WK (1))] none) (.binOp .add 3 (.tmp 27) (.const (I3 (1))) 3) 3 false t113_23
def t113_39 : Tr := .back 1 [(.w (W 31 0)), (.row 30)]
def t113_38 : Tr := .need (.prim [(W 20 0), (WK (1))] none) (.binOp .add 3 (.tmp 37) (.const (I3 (1))) 3) 3 false t113_39
def t113_37 : Tr := .need (.strow 21 3 (.u 25 0) 0 [(.u 29 0), (.u 29 1), (.u 29 2)]) (.store 39 (.tmp 56) (.tmp 55)) 0 false t113_38
def t113_36 : Tr := .need (.idx 21 (.u 25 0)) (.indexAddr 72 (.tmp 42) (.tmp 45)) 0 false t113_37
def t113_35 : Tr := .need (.call 64 [(.agg [(U 27 0), (U 27 1), (U 27 2)]), (.agg [(U 28 0), (U 28 1), (U 28 2)])] [(some 3)]) (.call ⟨.value (.func 64), #[(.tmp 51), (.tmp 54)], #[39, 39]⟩) 39 true t113_36
def t113_34 : Tr := .need (.call 36 [(.agg [(U 16 0), (U 16 1), (U 16 2)]), (.agg [(U 24 0), (U 24 1), (U 24 2)])] [(some 3)]) (.call ⟨.value (.func 36), #[(.tmp 52), (.tmp 53)], #[39, 39]⟩) 39 true t113_35
def t113_33 : Tr := .need (.ldrow 21 (.u 26 0) 0 3 true) (.load 39 (.tmp 50)) 39 false t113_34
def t113_32 : Tr := .need (.idx 21 (.u 26 0)) (.indexAddr 72 (.tmp 46) (.tmp 49)) 0 false t113_33
def t113_31 : Tr := .need (.prim [(W 12 0), (W 20 0)] none) (.binOp .add 3 (.tmp 47) (.tmp 48) 3) 3 false t113_32
def t113_30 : Tr := .need (.prim [(W 12 0), (W 20 0)] none) (.binOp .add 3 (.tmp 43) (.tmp 44) 3) 3 false t113_31
def t113_29 : Tr := .need (.prim [(W 23 0)] (some 3)) (.load 39 (.tmp 40)) 39 false t113_30
def t113_28 : Tr := .need (.prim [(W 1 0), (W 20 0)] none) (.indexAddr 72 (.tmp 35) (.tmp 37)) 0 false t113_29
def t113_41 : Tr := .back 0 [(.w (W 23 0)), (.row 21)]
def t113_40 : Tr := .need (.prim [(W 12 0), (WK (1))] none) (.binOp .add 3 (.tmp 27) (.const (I3 (1))) 3) 3 false t113_41
def t113_27 : Tr := .split (.u 22 0) t113_28 t113_40
def t113_26 : Tr := .need (.prim [(W 20 0), (W 19 0)] none) (.binOp .lss 3 (.tmp 37) (.tmp 36) 3) 0 false t113_27
def t113_25 : Tr := .loop 1 [(.w (WK (0))), (.row 13)] t113_26
def t113_24 : Tr := .need (.prim [(W 1 0)] none) (.call ⟨.builtin .len, #[(.tmp 35)], #[72]⟩) 3 false t113_25
def t113_21 : Tr := .split (.u 18 0) t113_22 t113_24
def t113_20 : Tr := .need (.prim [(W 17 0), (WK (0))] none) (.binOp .eql 3 (.tmp 33) (.const (I3 (0))) 3) 4 false t113_21
def t113_19 : Tr := .need (.call 35 [(.agg [(U 16 0), (U 16 1), (U 16 2)])] [none]) (.call ⟨.value (.func 35), #[(.tmp 32)], #[39]⟩) 3 true t113_20
def t113_18 : Tr := .need (.prim [(W 15 0)] (some 3)) (.load 39 (.tmp 30)) 39 false t113_19
def t113_17 : Tr := .need (.prim [(W 0 0), (W 12 0)] none) (.indexAddr 72 (.tmp 25) (.tmp 27)) 0 false t113_18
def t113_43 : Tr := .ret [(W 15 0)]
def t113_42 : Tr := .need (.call 34 [(.one (.c (.sr 3 13)))] [none]) (.call ⟨.value (.func 34), #[(.tmp 59)], #[72]⟩) 72 true t113_43
def t113_16 : Tr := .split (.u 14 0) t113_17 t113_42
def t113_15 : Tr := .need (.prim [(W 12 0), (W 11 0)] none) (.binOp .lss 3 (.tmp 27) (.tmp 26) 3) 0 false t113_16
def t113_14 : Tr := .loop 0 [(.w (WK (0))), (.row 10)] t113_15
def t113_13 : Tr := .need (.prim [(W 0 0)] none) (.call ⟨.builtin .len, #[(.tmp 25)], #[72]⟩) 3 false t113_14
def t113_12 : Tr := .need (.make [(.slice none 0 0), (.bool false), (.slice none 0 0)] 56 (.u 9 0) (.u 9 0)) (.makeSlice 72 (.tmp 23) (.tmp 23)) 72 false t113_13
def t113_11 : Tr := .need (.prim [(W 8 0), (WK (1))] none) (.binOp .sub 3 (.tmp 22) (.const (I3 (1))) 3) 3 false t113_12
def t113_10 : Tr := .need (.prim [(W 6 0), (W 7 0)] none) (.binOp .add 3 (.tmp 19) (.tmp 21) 3) 3 false t113_11
def t113_9 : Tr := .need (.prim [(W 1 0)] none) (.call ⟨.builtin .len, #[(.tmp 20)], #[72]⟩) 3 false t113_10
def t113_8 : Tr := .need (.prim [(W 0 0)] none) (.call ⟨.builtin .len, #[(.tmp 18)], #[72]⟩) 3 false t113_9
def t113_6 : Tr := .split (.u 5 0) t113_3 t113_8
def t113_5 : Tr := .need (.prim [(W 4 0), (WK (0))] none) (.binOp .eql 3 (.tmp 15) (.const (I3 (0))) 3) 4 false t113_6
def t113_4 : Tr := .need (.prim [(W 1 0)] none) (.call ⟨.builtin .len, #[(.tmp 14)], #[72]⟩) 3 false t113_5
def t113_2 : Tr := .split (.u 3 0) t113_3 t113_4
def t113_1 : Tr := .need (.prim [(W 2 0), (WK (0))] none) (.binOp .eql 3 (.tmp 11) (.const (I3 (0))) 3) 4 false t113_2
def t113_0 : Tr := .need (.prim [(W 0 0)] none) (.call ⟨.builtin .len, #[(.tmp 10)], #[72]⟩) 3 false t113_1
theorem x_pMul : execF prog f32 (fun _ => none) [.v none, .v none] = t113_0 := by kernel_rfl
def t114_2 : Tr := .ret [(.one (.c (.sr 3 2)))]
def t114_1 : Tr := .need (.lit 3 [[(.u 0 0), (.u 0 1), (.u 0 2)], [(.u 1 0), (.u 1 1), (.u 1 2)]]) (.buildSlice 72 2 #[(0, (.tmp 3)), (1, (.tmp 4))]) 72 false t114_2
def t114_0 : Tr := .need (.call 68 [(WK (1))] [(some 3)]) (.call ⟨.value (.func 68), #[(.const (I3 (1)))], #[2]⟩) 39 true t114_1
theorem x_pline : execF prog f111 (fun _ => none) [.v (some 3)] = t114_0 := by kernel_rfl
def t115_2 : Tr := .ret [(W 2 0)]
def t115_1 : Tr := .need (.call 34 [(.one (.c (.sr 3 1)))] [none]) (.call ⟨.value (.func 34), #[(.tmp 4)], #[72]⟩) 72 true t115_2
def t115_0 : Tr := .need (.lit 3 [[(.u 0 0), (.u 0 1), (.u 0 2)]]) (.buildSlice 72 1 #[(0, (.tmp 3))]) 72 false t115_1
theorem x_pconstant : execF prog f190 (fun _ => none) [.v (some 3)] = t115_0 := by kernel_rfl

theorem all2_repQ (n : Nat) : All2 (All2 CTy.Sub) (List.replicate n [.exact (.slice none 0 0), .bool false, .exact (.slice none 0 0)]) (rQ (List.replicate n 0)) := by
  induction n with
  | zero => trivial
  | succ n ih => rw [List.replicate_succ, List.replicate_succ]; exact ⟨zeroQ, ih⟩
theorem subRep (n : Nat) : STy.Sub (.rows (List.replicate n [.exact (.slice none 0 0), .bool false, .exact (.slice none 0 0)])) (.rows (rQ (List.replicate n 0))) := all2_repQ n

/-- the first i are made -/
def part (f : Nat → Rat) (n i : Nat) : List Rat := (List.range i).map f ++ List.replicate (n - i) 0
theorem part_length {f : Nat → Rat} {n i : Nat} (h : i ≤ n) : (part f n i).length = n := by simp [part]; omega
theorem part_set {f : Nat → Rat} {n i : Nat} (h : i < n) : (part f n i).set i (f i) = part f n (i + 1) := by
  rw [part, part, List.range_succ, List.map_append, List.set_append_right _ _ (by simp)]
  rw [show n - i = (n - (i + 1)) + 1 by omega, List.replicate_succ]
  simp

theorem d_peach (n : Nat) (g : Nat) (caps : List CTy) (f : Nat → Rat) (hf : ∀ i, i < n → Does prog g (.one (.int .i64 (i : Int)) :: caps.map .one) (.ret [qT (f i)])) (hn : n < 1099511627776) : Does prog 107 [(.one (.int .i64 n) : STy), (.one (.clo g caps) : STy)] (.ret [.one (sQ (trim ((List.range n).map f)))]) := by
  refine does_of_vc (args := [.v none, .v none]) (ins := [.v (.one (.int .i64 n)), .v (.one (.clo g caps))]) (hints := (fun _ => none)) fo (by kernel_rfl) func107 ⟨rfl, rfl, trivial⟩ ?_
  rw [x_peach]
  dsimp only [List.map, In.env, c_a, n_a]
  refine vmake (n := n) (m := n) rfl rfl rfl (Nat.le_refl _) (by omega) (by simp only [maxLen]; omega) ?_
  dsimp only [c_a, n_a]
  refine vlen rfl (List.length_replicate) ?_
  dsimp only [c_a, n_a]
  refine vloop {i : Nat // i ≤ n} (fun g => [.one (.int .i64 g.1), .rows (rQ (part f n g.1))]) (fun g => n - g.1) ⟨0, Nat.zero_le _⟩ ⟨STy.Sub.same, subRep n, trivial⟩ (fun _ => rfl) ?_
  rintro ⟨i, hi⟩
  dsimp only [c_a, n_a] at hi ⊢
  have hpl := part_length (f := f) hi
  refine vn q_lss rfl ?_
  dsimp only [c_a, n_a]
  refine vs _ rfl (fun h4 => ?_) (fun h4 => ?_)
  · refine vcallv (f := g) (caps := caps) rfl (hf i (by omega)) rfl ?_
    dsimp only [c_a, n_a]
    refine vidxm rfl rfl (by omega) (by first | omega | (rw [List.length_set]; omega)) ?_
    obtain ⟨q, hq⟩ : ∃ q, (part f n i)[i]? = some q := ⟨_, List.getElem?_eq_getElem (by omega)⟩
    refine vstm (f := qC) (d' := f i) rfl rfl (by omega) (Int.toNat_natCast i) hq rfl ?_
    rw [part_set (by omega)]
    dsimp only [c_a, n_a]
    refine vn (p_add_i64 (by omega) (by omega)) rfl ?_
    dsimp only [c_a, n_a]
    exact vback rfl ⟨⟨i + 1, by omega⟩, SubL.rfl, by show n - (i + 1) < n - i; omega⟩
  have hin : i = n := by omega
  subst hin
  rw [show part f i i = (List.range i).map f by simp [part]]
  refine vcall (d_pTrim ((List.range i).map f) (by rw [List.length_map, List.length_range]; omega)) rfl ?_
  dsimp only [c_a, n_a]
  exact vret rfl

theorem d_pat (p : List Rat) (i : Nat) (hi : i < 4611686018427387904) : Does prog 109 [(.one (sQ p) : STy), (.one (.int .i64 i) : STy)] (.ret [qT (p.getD i 0)]) := by
  refine does_of_vc (args := [.v none, .v none]) (ins := [.v (.one (sQ p)), .v (.one (.int .i64 i))]) (hints := (fun _ => none)) fo (by kernel_rfl) func109 ⟨rfl, rfl, trivial⟩ ?_
  rw [x_pat]
  dsimp only [List.map, In.env, c_a, n_a]
  refine vn (p_len el72 (List.length_map _)) rfl ?_
  dsimp only [c_a, n_a]
  refine vn q_lss rfl ?_
  dsimp only [c_a, n_a]
  refine vs _ rfl (fun h2 => ?_) (fun h2 => ?_)
  · have hlt : i < p.length := by omega
    refine vn (p_idxm el72 (by omega) (Int.toNat_natCast i) (getD_of hlt)) rfl ?_
    dsimp only [c_a, n_a]
    refine vn (p_load ag39 (by decide) (by simp) (.inl rfl)) rfl ?_
    dsimp only [c_a, n_a]
    exact vret rfl
  rw [show p.getD i 0 = 0 by rw [List.getD_eq_getElem?_getD, List.getElem?_eq_none (by omega)]; rfl]
  exact vrets ⟨zeroQ, trivial⟩

theorem getD_fit {A : Nat} {l : List Rat} (hA : 1 ≤ A) (h : ∀ a ∈ l, Fit A a) (i : Nat) : Fit A (l.getD i 0) := by
  rw [List.getD_eq_getElem?_getD]
  cases hi : l[i]? with
  | none => exact Fit.zero hA
  | some a => exact h a (List.mem_of_getElem? hi)

theorem d_pAdd_1 (p q : List Rat) (i A B : Nat) (hi : i < 4611686018427387904) (hA : 1 ≤ A) (hB : 1 ≤ B) (hp : ∀ a ∈ p, Fit A a) (hq : ∀ b ∈ q, Fit B b) (h : A + B ≤ 34359738368) : Does prog 108 [(.one (.int .i64 i) : STy), (.one (.pref ([sQ p])) : STy), (.one (.pref ([sQ q])) : STy)] (.ret [qT (p.getD i 0 + q.getD i 0)]) := by
  refine does_of_vc (args := [.v none, .ref 1, .ref 1]) (ins := [.v (.one (.int .i64 i)), .ref ([sQ p]), .ref ([sQ q])]) (hints := (fun _ => none)) fo (by kernel_rfl) func108 ⟨rfl, rfl, rfl, trivial⟩ ?_
  rw [x_pAdd_1]
  dsimp only [List.map, In.env, c_a, n_a]
  refine vcall (d_pat p i hi) rfl ?_
  dsimp only [c_a, n_a]
  refine vcall (d_pat q i hi) rfl ?_
  dsimp only [c_a, n_a]
  refine vcall (d_QAdd _ _ A B (getD_fit hA hp i) (getD_fit hB hq i) h) rfl ?_
  dsimp only [c_a, n_a]
  exact vret rfl

/-- the sum -/
def addL (p q : List Rat) : List Rat := trim ((List.range (max p.length q.length)).map fun i => p.getD i 0 + q.getD i 0)

theorem d_pAdd (p q : List Rat) (A B : Nat) (hA : 1 ≤ A) (hB : 1 ≤ B) (hp : ∀ a ∈ p, Fit A a) (hq : ∀ b ∈ q, Fit B b) (h : A + B ≤ 34359738368) (hpl : p.length < 1099511627776) (hql : q.length < 1099511627776) : Does prog 30 [(.one (sQ p) : STy), (.one (sQ q) : STy)] (.ret [.one (sQ (addL p q))]) := by
  refine does_of_vc (args := [.v none, .v none]) (ins := [.v (.one (sQ p)), .v (.one (sQ q))]) (hints := (fun _ => none)) fo (by kernel_rfl) func30 ⟨rfl, rfl, trivial⟩ ?_
  rw [x_pAdd]
  dsimp only [List.map, In.env, c_a, n_a]
  refine vn (p_len el72 (List.length_map _)) rfl ?_
  dsimp only [c_a, n_a]
  refine vn (p_len el72 (List.length_map _)) rfl ?_
  dsimp only [c_a, n_a]
  refine vn (p_max (k := .i64) (a := (p.length : Int)) (b := (q.length : Int))) rfl ?_
  rw [show max (p.length : Int) (q.length : Int) = ((max p.length q.length : Nat) : Int) by omega]
  dsimp only [c_a, n_a]
  refine vcall (d_peach (max p.length q.length) 108 [.pref [sQ p], .pref [sQ q]] (fun i => p.getD i 0 + q.getD i 0) (fun i hi => d_pAdd_1 p q i A B (by omega) hA hB hp hq h) (by omega)) rfl ?_
  dsimp only [c_a, n_a]
  exact vret rfl

/-- the product -/
def mulP (p q : List Rat) : List Rat := if p = [] ∨ q = [] then [] else trim (mulL p q p.length)

set_option maxHeartbeats 1000000 in
theorem d_pMul (p q : List Rat) (D E S T B : Nat) (h0 : D ≠ 0) (h1 : E ≠ 0) (hp : ∀ a ∈ p, Bd D S a) (hq : ∀ b ∈ q, Bd E T b) (hB : B ≤ 8589934592) (hX : D * E * ((p.length + 1) * ((S + 1) * (T + 1))) < 2 ^ B) (hpl : p.length ≤ 549755813888) (hql : q.length ≤ 549755813888) : Does prog 32 [(.one (sQ p) : STy), (.one (sQ q) : STy)] (.ret [.one (sQ (mulP p q))]) := by
  refine does_of_vc (args := [.v none, .v none]) (ins := [.v (.one (sQ p)), .v (.one (sQ q))]) (hints := (fun _ => none)) fo (by kernel_rfl) func32 ⟨rfl, rfl, trivial⟩ ?_
  rw [x_pMul]
  dsimp only [List.map, In.env, c_a, n_a]
  obtain ⟨f1, f2, f3, f4⟩ := mul_fits h0 h1 hX
  refine vn (p_len el72 (List.length_map _)) rfl ?_
  dsimp only [c_a, n_a]
  refine vn q_eql rfl ?_
  dsimp only [c_a, n_a]
  refine vs _ rfl (fun h2 => ?_) (fun h2 => ?_)
  · have hp0 : p = [] := List.eq_nil_of_length_eq_zero (by omega)
    rw [mulP, if_pos (.inl hp0)]
    exact vrets ⟨CTy.Sub.nil, trivial⟩
  refine vn (p_len el72 (List.length_map _)) rfl ?_
  dsimp only [c_a, n_a]
  refine vn q_eql rfl ?_
  dsimp only [c_a, n_a]
  refine vs _ rfl (fun h6 => ?_) (fun h6 => ?_)
  · have hq0 : q = [] := List.eq_nil_of_length_eq_zero (by omega)
    rw [mulP, if_pos (.inr hq0)]
    exact vrets ⟨CTy.Sub.nil, trivial⟩
  have hp0 : 0 < p.length := by omega
  have hq0 : 0 < q.length := by omega
  rw [mulP, if_neg (by rintro (h | h)
                       · rw [h] at hp0; simp at hp0
                       · rw [h] at hq0; simp at hq0)]
  obtain ⟨n, hn⟩ : ∃ n : Nat, (p.length : Int) + (q.length : Int) - 1 = (n : Int) := ⟨p.length + q.length - 1, by omega⟩
  have hn' : p.length + q.length - 1 = n := by omega
  refine vn (p_len el72 (List.length_map _)) rfl ?_
  dsimp only [c_a, n_a]
  refine vn (p_len el72 (List.length_map _)) rfl ?_
  dsimp only [c_a, n_a]
  refine vn (p_add_i64 (by omega) (by omega)) rfl ?_
  dsimp only [c_a, n_a]
  refine vn (p_sub_i64 (by omega) (by omega)) rfl ?_
  rw [hn]
  dsimp only [c_a, n_a]
  refine vmake (n := n) (m := n) rfl rfl rfl (Nat.le_refl _) (by omega) (by simp only [maxLen]; omega) ?_
  dsimp only [c_a, n_a]
  refine vn (p_len el72 (List.length_map _)) rfl ?_
  dsimp only [c_a, n_a]
  refine vloop {i : Nat // i ≤ p.length} (fun g => [.one (.int .i64 g.1), .rows (rQ (mulL p q g.1))]) (fun g => p.length - g.1) ⟨0, Nat.zero_le _⟩ ⟨STy.Sub.same, by show STy.Sub _ (.rows (rQ (mulL p q 0))); rw [mulL, hn']; exact subRep n, trivial⟩ (fun _ => rfl) ?_
  rintro ⟨i, hi⟩
  dsimp only [c_a, n_a] at hi ⊢
  refine vn q_lss rfl ?_
  dsimp only [c_a, n_a]
  refine vs _ rfl (fun h16 => ?_) (fun h16 => ?_)
  · refine vn (p_idxm el72 (by omega) (Int.toNat_natCast i) (getD_of (show i < p.length by omega))) rfl ?_
    dsimp only [c_a, n_a]
    refine vn (p_load ag39 (by decide) (by simp) (.inl rfl)) rfl ?_
    dsimp only [c_a, n_a]
    refine vcall (d_QSign _) rfl ?_
    dsimp only [c_a, n_a]
    refine vn q_eql rfl ?_
    dsimp only [c_a, n_a]
    refine vs _ rfl (fun h21 => ?_) (fun h21 => ?_)
    · have hz : p.getD i 0 = 0 := sign_zero.1 h21
      refine vn (p_add_i64 (by omega) (by omega)) rfl ?_
      dsimp only [c_a, n_a]
      exact vback rfl ⟨⟨i + 1, by omega⟩, (by dsimp only; rw [mulL, if_pos hz]; exact SubL.rfl), by show p.length - (i + 1) < p.length - i; omega⟩
    have hz : ¬ p.getD i 0 = 0 := fun h => h21 (sign_zero.2 h)
    have ho := mulL_bd h0 h1 hp hq i
    have hi2 : i < p.length := by omega
    refine vn (p_len el72 (List.length_map _)) rfl ?_
    dsimp only [c_a, n_a]
    refine vloop {k : Nat // k ≤ q.length} (fun g => [.one (.int .i64 g.1), .rows (rQ (mulRow (p.getD i 0) q i (mulL p q i) g.1))]) (fun g => q.length - g.1) ⟨0, Nat.zero_le _⟩ SubL.rfl (fun _ => rfl) ?_
    rintro ⟨k, hk⟩
    dsimp only [c_a, n_a] at hk ⊢
    refine vn q_lss rfl ?_
    dsimp only [c_a, n_a]
    refine vs _ rfl (fun h27 => ?_) (fun h27 => ?_)
    · have hk2 : k < q.length := by omega
      have hrow := mulRow_bd' h0 h1 (getD_bd hp i) hq ho k (i := i)
      have hrl : (mulRow (p.getD i 0) q i (mulL p q i) k).length = n := by rw [mulRow_length, mulL_length, hn']
      have hget := getD_of (l := mulRow (p.getD i 0) q i (mulL p q i) k) (i := i + k) (by omega)
      have hfo : Fit B ((mulRow (p.getD i 0) q i (mulL p q i) k).getD (i + k) 0) := f3 _ i hi2 (hrow _ (List.mem_of_getElem? hget))
      refine vn (p_idxm el72 (by omega) (Int.toNat_natCast k) (getD_of hk2)) rfl ?_
      dsimp only [c_a, n_a]
      refine vn (p_load ag39 (by decide) (by simp) (.inl rfl)) rfl ?_
      dsimp only [c_a, n_a]
      refine vn (p_add_i64 (by omega) (by omega)) rfl ?_
      dsimp only [c_a, n_a]
      refine vn (p_add_i64 (by omega) (by omega)) rfl ?_
      dsimp only [c_a, n_a]
      refine vidxm rfl rfl (by omega) (by omega) ?_
      refine vldm rfl rfl (by omega) (show ((i : Int) + (k : Int)).toNat = i + k by omega) hget (.inl rfl) rfl ?_
      dsimp only [c_a, n_a, mkS, List.drop, List.take]
      refine vcall (d_QMul _ _ B B (f1 _ (getD_bd hp i)) (f2 _ (getD_bd hq k)) (by omega)) rfl ?_
      dsimp only [c_a, n_a]
      refine vcall (d_QAdd _ _ B B hfo (f4 _ ((getD_bd hp i).mul h0 h1 (getD_bd hq k))) (by omega)) rfl ?_
      dsimp only [c_a, n_a]
      refine vidxm rfl rfl (by omega) (by omega) ?_
      refine vstm (f := qC) (d' := (mulRow (p.getD i 0) q i (mulL p q i) k).getD (i + k) 0 + p.getD i 0 * q.getD k 0) rfl rfl (by omega) (show ((i : Int) + (k : Int)).toNat = i + k by omega) hget rfl ?_
      dsimp only [c_a, n_a]
      refine vn (p_add_i64 (by omega) (by omega)) rfl ?_
      dsimp only [c_a, n_a]
      exact vback rfl ⟨⟨k + 1, by omega⟩, SubL.rfl, by show q.length - (k + 1) < q.length - k; omega⟩
    refine vn (p_add_i64 (by omega) (by omega)) rfl ?_
    dsimp only [c_a, n_a]
    exact vback rfl ⟨⟨i + 1, by omega⟩, (by
      dsimp only
      rw [mulL, if_neg hz, show q.length = k by omega]
      exact SubL.rfl), by show p.length - (i + 1) < p.length - i; omega⟩
  rw [show p.length = i by omega]
  refine vcall (d_pTrim _ (by rw [mulL_length]; omega)) rfl ?_
  dsimp only [c_a, n_a]
  exact vret rfl

theorem d_pline (c : Rat) : Does prog 111 [(qT c : STy)] (.ret [.one (sQ [c, 1])]) := by
  refine does_of_vc (args := [.v (some 3)]) (ins := [.v (qT c)]) (hints := (fun _ => none)) fo (by kernel_rfl) func111 ⟨rfl, trivial⟩ ?_
  rw [x_pline]
  dsimp only [List.map, In.env, c_a, n_a]
  refine vcall (d_Int 1 (by omega) (by omega)) rfl ?_
  dsimp only [c_a, n_a]
  refine vlit rfl ?_
  dsimp only [c_a, n_a]
  exact vret rfl

theorem d_pconstant (c : Rat) : Does prog 190 [(qT c : STy)] (.ret [.one (sQ (trim [c]))]) := by
  refine does_of_vc (args := [.v (some 3)]) (ins := [.v (qT c)]) (hints := (fun _ => none)) fo (by kernel_rfl) func190 ⟨rfl, trivial⟩ ?_
  rw [x_pconstant]
  dsimp only [List.map, In.env, c_a, n_a]
  refine vlit rfl ?_
  dsimp only [c_a, n_a]
  refine vcall (d_pTrim [c] (by simp)) rfl ?_
  dsimp only [c_a, n_a]
  exact vret rfl
end Go.Sy
