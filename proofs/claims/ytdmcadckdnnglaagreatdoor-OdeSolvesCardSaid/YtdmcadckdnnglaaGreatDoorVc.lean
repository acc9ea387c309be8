/- The derivative; falling factors of the law; the sums of OdeSolves. OdeSolves.
-/
import Derived.Test.YtdmcadckdnnglaaGreatDoorVb
import Derived.Test.YtdmcadckdnnglaaGreatDoorPc
set_option linter.unusedVariables false
set_option linter.unusedSimpArgs false
namespace Go.Sy
open Go Go.Proofs Tryz Ord
def Kz : Tr := .ret [(W 4 0)]
def Ru : Tr := cM 0 0 3 72 (aV .sub 3 4 1 1 0 3 (.need (.prim [(W 2 0), (WK 0)] none) (.call ⟨.builtin .max, #[(tT 5), (.const (I3 0))], #[3, 3]⟩) 3 false (aN 107 [(W 3 0), (.one (.gI 112 [(.ref 0 [(.u 0 0)])]))] [none] [6, 7] [3, 177] 72 true Kz)))
theorem Hw : aL prog f33 (fun _ => none) [.v none] = Ru := by kernel_rfl
def OU : Tr := aV .add 3 5 1 0 0 3 (gV 1 0 2 0 72 4 6 (fU 3 0 (some 3) 39 7 (aV .add 3 9 1 0 0 3 (aN 68 [(W 5 0)] [(some 3)] [10] [2] 39 true (aN 36 [(G3 4), (G3 6)] [(some 3)] [8, 11] [39, 39] 39 true (.ret [(G3 7)]))))))
theorem Df : aL prog f112 (fun _ => none) [.v none, .ref 1] = OU := by kernel_rfl
def OW : Tr := bK .lss 3 8 9 3 0 1 0 4 (.split (.u 7 0) (bK .sub 3 14 15 0 0 3 0 3 (aN 68 [(W 8 0)] [(some 3)] [16] [2] 39 true (aN 36 [(.agg [(U 4 0), (U 5 0), (U 6 0)]), (G3 9)] [(some 3)] [13, 17] [39, 39] 39 true (aV .add 3 11 1 3 0 3 (.back 0 [lV 11 0, lV 10 0, lV 10 1, lV 10 2]))))) (.ret [(.agg [(U 4 0), (U 5 0), (U 6 0)])]))
def PI : Tr := .need (.call 68 [(WK 1)] [(some 3)]) (.call ⟨.value (.func 68), #[(.const (I3 1))], #[2]⟩) 39 true (.loop 0 [lK 0, lV 2 0, lV 2 1, lV 2 2] OW)
theorem EU : aL prog f37 (fun _ => none) [.v none, .v none] = PI := by kernel_rfl
def GP (p : List Rat) : List Rat := trim ((List.range (p.length - 1)).map fun i => p.getD (i + 1) 0 * (((i + 1 : Nat) : Int) : Rat))
theorem CQ (p : List Rat) (i A : Nat) (hi : i + 1 < p.length) (hp : ∀ a ∈ p, Fit A a) (hA : 1 ≤ A) (hA2 : A ≤ 17179869184) (hl : p.length < 1099511627776) : aO prog 112 [(.one (.int .i64 i) : aI), (.one (.dF ([sQ p])) : aI)] (.ret [qT (p.getD (i + 1) 0 * (((i + 1 : Nat) : Int) : Rat))]) := by
 refine aD (args := [.v none, .ref 1]) (ins := [.v (.one (.int .i64 i)), .ref ([sQ p])]) (hints := (fun _ => none)) fo (by kernel_rfl) func112 ⟨rfl, rfl, trivial⟩ ?_
 rw [Df]
 dsimp only [List.map, In.env, aA, aB]
 refine vn (aE (by omega) (by omega)) rfl ?_
 dsimp only [aA, aB]
 refine vn (aW fB (by omega) (show ((i : Int) + 1).toNat = i + 1 by omega) (cL hi)) rfl ?_
 dsimp only [aA, aB]
 refine vn (cY nW (by decide) (by simp) (.inl rfl)) rfl ?_
 dsimp only [aA, aB]
 refine vn (aE (by omega) (by omega)) rfl ?_
 dsimp only [aA, aB]
 refine aC (iB ((i : Int) + 1) (by omega) (by omega)) rfl ?_
 dsimp only [aA, aB]
 rw [show (i : Int) + 1 = ((i + 1 : Nat) : Int) by omega]
 refine aC (eI _ _ A 64 (mU hA hp (i + 1)) (Fit.int (by omega) (by omega)) (by omega)) rfl ?_
 dsimp only [aA, aB]
 exact aJ rfl
theorem Hp (p : List Rat) (A : Nat) (hp : ∀ a ∈ p, Fit A a) (hA : 1 ≤ A) (hA2 : A ≤ 17179869184) (hl : p.length < 1099511627776) : aO prog 33 [(.one (sQ p) : aI)] (.ret [.one (sQ (GP p))]) := by
 refine aD (args := [.v none]) (ins := [.v (.one (sQ p))]) (hints := (fun _ => none)) fo (by kernel_rfl) func33 ⟨rfl, trivial⟩ ?_
 rw [Hw]
 dsimp only [List.map, In.env, aA, aB]
 refine vn (aM fB (List.length_map _)) rfl ?_
 dsimp only [aA, aB]
 refine vn (aH (by omega) (by omega)) rfl ?_
 dsimp only [aA, aB]
 refine vn (FZ (k := .i64) (a := (p.length : Int) - 1) (b := 0)) rfl ?_
 rw [show max ((p.length : Int) - 1) 0 = ((p.length - 1 : Nat) : Int) by omega]
 dsimp only [aA, aB]
 refine aC (FN (p.length - 1) 112 [.dF [sQ p]] (fun i => p.getD (i + 1) 0 * (((i + 1 : Nat) : Int) : Rat)) (fun i hi => CQ p i A (by omega) hp hA hA2 hl) (by omega)) rfl ?_
 dsimp only [aA, aB]
 exact aJ rfl
theorem wM (z : Int) (i B : Nat) (hz1 : -4611686018427387904 ≤ z) (hz2 : z < 4611686018427387904) (hi : i < 4611686018427387904) (hB : B ≤ 17179869184) (h64 : 64 ≤ B) (hf : ∀ j, j ≤ i → Fit B ((bW z j : Int) : Rat)) : aO prog 37 [(.one (.int .i64 z) : aI), (.one (.int .i64 i) : aI)] (.ret [qT ((bW z i : Int) : Rat)]) := by
 refine aD (args := [.v none, .v none]) (ins := [.v (.one (.int .i64 z)), .v (.one (.int .i64 i))]) (hints := (fun _ => none)) fo (by kernel_rfl) func37 ⟨rfl, rfl, trivial⟩ ?_
 rw [EU]
 dsimp only [List.map, In.env, aA, aB]
 refine aC (iB 1 (by omega) (by omega)) rfl ?_
 dsimp only [aA, aB]
 refine bA {j : Nat // j ≤ i} (fun g => (.one (.int .i64 g.1) : aI) :: (qC ((bW z g.1 : Int) : Rat)).map .one) (fun g => i - g.1) ⟨0, Nat.zero_le _⟩ aK.rfl (fun _ => rfl) ?_
 rintro ⟨j, hj⟩
 dsimp only [aA, aB, List.map] at hj ⊢
 refine vn aZ rfl ?_
 dsimp only [aA, aB]
 refine vs _ rfl (fun h3 => ?_) (fun h3 => ?_)
 ·refine vn (aH (by omega) (by omega)) rfl ?_
  dsimp only [aA, aB]
  refine aC (iB (z - j) (by omega) (by omega)) rfl ?_
  dsimp only [aA, aB]
  refine aC (eI _ _ B 64 (hf j hj) (Fit.int (by omega) (by omega)) (by omega)) rfl ?_
  rw [intCast_mul]
  dsimp only [aA, aB]
  refine vn (aE (by omega) (by omega)) rfl ?_
  dsimp only [aA, aB]
  exact aR rfl ⟨⟨j + 1, by omega⟩, aK.rfl, by show i - (j + 1) < i - j; omega⟩
 rw [show i = j by omega]; exact aJ rfl
theorem mE : ∀ (p : List Rat) (s : Nat), (trim p).getD s 0 = p.getD s 0
 | [], s => rfl
 | x :: xs, s => by
   have ih := mE xs
   rw [sV]
   split
   ·rename_i h
    have hx : x = 0 := by simpa [zr] using h.2
    have ht : trim xs = [] := List.eq_nil_of_length_eq_zero (by rw [dY]; exact h.1)
    cases s with
    | zero => rw [hx]; rfl
    | succ s =>
      have := ih s
      rw [ht] at this
      exact this
   ·cases s with
    | zero => rfl
    | succ s => exact ih s
theorem oD (f : Nat → Rat) (n s : Nat) : ((List.range n).map f).getD s 0 = if s < n then f s else 0 := by
 rw [List.getD_eq_getElem?_getD, List.getElem?_map]
 split
 ·rename_i h; rw [List.getElem?_range h]; rfl
 ·rename_i h; rw [List.getElem?_eq_none (by rw [List.length_range]; omega)]; rfl
theorem GK (p : List Rat) (s : Nat) : (GP p).getD s 0 = p.getD (s + 1) 0 * (((s + 1 : Nat) : Int) : Rat) := by
 rw [GP, mE, oD]
 split
 ·rfl
 ·rw [lI (l := p) (by omega)]; grind
theorem Ho (p q : List Rat) (s : Nat) : (uH p q).getD s 0 = p.getD s 0 + q.getD s 0 := by
 rw [uH, mE, oD]
 split
 ·rfl
 ·rw [lI (l := p) (by omega), lI (l := q) (by omega)]; grind
theorem Hj (p q : List Rat) (s : Nat) : (jW p q).getD s 0 = cv p q s := by
 rw [jW]
 split
 ·rename_i h
  rcases h with h | h
  ·rw [h, CJ]; rfl
  ·rw [h, AP]; rfl
 ·rename_i h
  rw [mE]
  refine Nl p q s (List.length_pos_iff.2 fun e => h (.inr e))
def dK (a : List Rat) : Nat → List Rat
 | 0 => a
 | i + 1 => GP (dK a i)
theorem FR (a : List Rat) : ∀ i s, (dK a i).getD s 0 = HP a i s
 | 0, s => by rw [dK, HP, bW, Nat.add_zero]; show _ = _ * (((1 : Int)) : Rat); grind
 | i + 1, s => by
   rw [dK, GK, FR a i (s + 1), ← Kj]
   rw [show (((s + 1 : Nat) : Int) : Rat) = ((s + 1 : Int) : Rat) by congr 1]
def rW (q : List (List Rat)) (a : List Rat) : Nat → List Rat
 | 0 => []
 | i + 1 => uH (rW q a i) (jW (q.getD i []) (dK a i))
theorem zB (q : List (List Rat)) (a : List Rat) (s : Nat) : ∀ i, (rW q a i).getD s 0 = sm (fun i => sm (fun κ => tW q a s i κ) (s + 1)) i
 | 0 => rfl
 | i + 1 => by
   rw [rW, Ho, zB q a s i, Hj, cv]
   show _ = sm _ i + sm (fun κ => tW q a s i κ) (s + 1)
   congr 1
   exact rS fun k hk => by show _ * _ = _; rw [FR]; rfl
theorem Io (p : List Rat) : (GP p).length ≤ p.length := by
 have := fP ((List.range (p.length - 1)).map fun i => p.getD (i + 1) 0 * (((i + 1 : Nat) : Int) : Rat))
 rw [List.length_map, List.length_range] at this
 exact Nat.le_trans this (Nat.sub_le _ _)
theorem NN {D S n : Nat} {p : List Rat} (h0 : D ≠ 0) (hp : ∀ a ∈ p, Bd D S a) (hn : p.length ≤ n) : ∀ a ∈ GP p, Bd D (S * n) a := fun a ha => by
 obtain ⟨i, hi, rfl⟩ := List.mem_map.1 (oK ha)
 rw [List.mem_range] at hi
 have := (gS hp (i + 1)).mul (E := 1) h0 (by omega) (Bd.int (n := ((i + 1 : Nat) : Int)) (S := n) (by omega))
 rw [Nat.mul_one] at this
 exact this
theorem AI (a : List Rat) : ∀ i, (dK a i).length ≤ a.length
 | 0 => Nat.le_refl _
 | i + 1 => Nat.le_trans (Io _) (AI a i)
theorem Ke {D S n : Nat} {a : List Rat} (h0 : D ≠ 0) (hp : ∀ x ∈ a, Bd D S x) (hn : a.length ≤ n) : ∀ i, ∀ x ∈ dK a i, Bd D (S * n ^ i) x
 | 0 => by rw [Nat.pow_zero, Nat.mul_one]; exact hp
 | i + 1 => by
   rw [Nat.pow_succ, ← Nat.mul_assoc]
   exact NN h0 (Ke h0 hp hn i) (Nat.le_trans (AI a i) hn)
theorem CP {q : List (List Rat)} {a : List Rat} {L : Nat} (hq : ∀ p ∈ q, p.length ≤ L) : ∀ i, (rW q a i).length ≤ L + a.length
 | 0 => Nat.zero_le _
 | i + 1 => by
   have h1 := tI (rW q a i) (jW (q.getD i []) (dK a i))
   have h2 := CP (a := a) hq i
   have h3 := lD (q.getD i []) (dK a i)
   have h4 := AI a i
   have h5 : (q.getD i []).length ≤ L := by
    rw [List.getD_eq_getElem?_getD]
    cases h : q[i]? with
    | none => exact Nat.zero_le _
    | some p => exact hq p (List.mem_of_getElem? h)
   rw [rW]
   split at h3 <;> omega
theorem FD {q : List (List Rat)} {a : List Rat} {D S X A L n M : Nat} (h0 : D ≠ 0) (h1 : X ≠ 0) (hq : ∀ p ∈ q, p.length ≤ L ∧ ∀ b ∈ p, Bd D S b) (ha : ∀ x ∈ a, Bd X A x) (hn : a.length ≤ n) (hn1 : 1 ≤ n) : ∀ i, i ≤ M → ∀ x ∈ rW q a i, Bd (D * X) (i * (L * (S * (A * n ^ M)))) x
 | 0, _ => fun x hx => by cases hx
 | i + 1, hi => by
   rw [rW, Nat.add_mul, Nat.one_mul]
   refine Gk (Nat.mul_ne_zero h0 h1) (FD h0 h1 hq ha hn hn1 i (by omega)) fun x hx => ?_
   have h5 : (q.getD i []).length ≤ L ∧ ∀ b ∈ q.getD i [], Bd D S b := by
    rw [List.getD_eq_getElem?_getD]
    cases h : q[i]? with
    | none => exact ⟨Nat.zero_le _, fun b hb => by cases hb⟩
    | some p => exact hq p (List.mem_of_getElem? h)
   refine (vC h0 h1 h5.2 (Ke h1 ha hn i) x hx).le ?_
   exact Nat.mul_le_mul h5.1 (Nat.mul_le_mul_left _ (Nat.mul_le_mul_left _ (Nat.pow_le_pow_right hn1 (by omega))))
end Go.Sy
namespace Go.Sy
open Go Go.Proofs Tryz Ord
def rJ : Tr := .ret [(tF false)]
def Nc : Tr := aV .neq 55 43 0 14 0 4 (.split (.u 15 0) (aN 16 [] [none] [] [] 4 true (.ret [(W 16 0)])) (bK .add 3 46 47 9 0 7 0 3 (aV .lss 3 48 0 16 0 4 (.split (.u 17 0) (aN 16 [] [none] [] [] 4 true (.ret [(W 18 0)])) rJ))))
def LU : Tr := fU 21 0 none 72 70 (aN 31 [(W 22 0), (.agg [(U 4 1), (U 4 2), (U 4 3)])] [none] [71, 73] [72, 39] 72 false (aN 32 [(W 23 0), (W 18 0)] [none] [74, 75] [72, 72] 72 true (aN 30 [(W 17 0), (W 24 0)] [none] [66, 76] [72, 72] 72 true (aN 33 [(W 18 0)] [none] [78] [72] 72 true (aV .add 3 64 1 19 0 3 (.back 0 [lV 25 0, lV 26 0, lV 27 0]))))))
def MT : Tr := gV 21 0 23 0 72 93 94 (fU 27 0 (some 3) 39 95 (aN 35 [(G3 28)] [none] [96] [39] 3 true (aV .neq 3 97 0 29 0 4 (.split (.u 30 0) rJ (aV .add 3 91 1 23 0 3 (.back 0 [lV 22 0, lV 31 0]))))))
def Lf : Tr := gV 4 4 28 0 40 119 120 (fU 36 0 (some 3) 39 121 (aN 38 [(G3 35), (G3 37)] [none] [117, 122] [39, 39] 3 true (aV .neq 3 123 0 38 0 4 (.split (.u 39 0) rJ (aV .add 3 108 1 28 0 3 (.back 0 [lV 27 0, lV 40 0]))))))
def ML : Tr := cM 11 0 104 40 (bK .lss 3 103 105 28 0 30 0 4 (.split (.u 31 0) (gV 11 0 28 0 40 110 111 (fU 32 0 (some 3) 39 112 (aN 37 [(W 28 0), (W 28 0)] [(some 3)] [114, 115] [3, 3] 39 false (aN 36 [(G3 33), (G3 34)] [(some 3)] [113, 116] [39, 39] 39 false Lf)))) (aN 16 [] [none] [] [] 4 true (.ret [(W 32 0)]))))
def MX : Tr := bK .lss 3 87 88 23 0 9 0 4 (.split (.u 26 0) MT (.loop 0 [lV 22 0, lK 0] (bK .lss 3 99 100 28 0 7 0 4 (.split (.u 29 0) ML (aN 16 [] [none] [] [] 4 true (.ret [(W 30 0)]))))))
def MZ : Tr := gV 4 4 27 0 40 119 120 (fU 35 0 (some 3) 39 121 (aN 38 [(G3 34), (G3 36)] [none] [117, 122] [39, 39] 3 true (aV .neq 3 123 0 37 0 4 (.split (.u 38 0) rJ (aV .add 3 108 1 27 0 3 (.back 0 [lV 26 0, lV 39 0]))))))
def LI : Tr := cM 11 0 104 40 (bK .lss 3 103 105 27 0 29 0 4 (.split (.u 30 0) (gV 11 0 27 0 40 110 111 (fU 31 0 (some 3) 39 112 (aN 37 [(W 27 0), (W 27 0)] [(some 3)] [114, 115] [3, 3] 39 false (aN 36 [(G3 32), (G3 33)] [(some 3)] [113, 116] [39, 39] 39 false MZ)))) (aN 16 [] [none] [] [] 4 true (.ret [(W 31 0)]))))
def Lm : Tr := bK .lss 3 82 84 23 0 24 0 4 (.split (.u 25 0) MX (.loop 0 [lV 22 0, lK 0] (bK .lss 3 99 100 27 0 7 0 4 (.split (.u 28 0) LI (aN 16 [] [none] [] [] 4 true (.ret [(W 29 0)]))))))
def Mu : Tr := .split (.u 16 0) rJ (.loop 0 [lN, lV 11 0, lK 0] (bK .leq 3 61 62 19 0 7 0 4 (.split (.u 20 0) (gV 4 0 19 0 32 68 69 LU) (aN 34 [(W 17 0)] [none] [80] [72] 72 true (.loop 0 [(.w (.one (.c (.k (.bool false))))), lK 0] (cM 21 0 83 72 Lm))))))
def Lh : Tr := bK .add 3 34 35 9 0 7 0 3 (aN 26 [(G5 4), (W 10 0)] [none, none] [33, 36] [42, 3] 66 false (aV .neq 55 40 0 12 0 4 (.split (.u 13 0) (aN 21 [(G5 4)] [none] [42] [42] 55 false Nc) (cM 11 0 54 40 (bK .add 3 56 57 9 0 7 0 3 (bK .neq 3 55 58 14 0 15 0 4 Mu))))))
def Pk : Tr := .need (.prim [(W 2 0)] none) (.unOp .not 4 (tT 17)) 4 false (.split (.u 3 0) (aN 16 [] [none] [] [] 4 true Kz) (aN 17 [(G8 0)] [(some 5), (some 6)] [21] [29] 53 false (cM 4 0 26 32 (aV .sub 3 27 1 6 0 3 (.need (.prim [(W 1 0), (.one (.c (.k (.int .u8 20))))] none) (.binOp .rem 5 (tT 29) (.const (.int .u8 20)) 5) 5 false (.need (.prim [(W 8 0)] none) (.convert 5 3 (tT 30)) 3 false Lh))))))
def PU : Tr := aN 15 [(G8 0)] [none] [16] [29] 4 true Pk
theorem AX : aL prog f5 (fun _ => none) [.v (some 8), .v none] = PU := by kernel_rfl
def Of (m : Nat) : Nat := dM * oG m 30 dM sM (cH 999) ^ 30 * (1024 * ((sM + 1) * (999 * dN m 30 dM sM 101 ^ 30 * 32 ^ 5 + 1)))
theorem Qe : ∃ B, 64 ≤ B ∧ B ≤ 16777216 ∧ ∀ m, m < 5 → 1 ≤ oG m 30 dM sM (cH 999) ∧ 1 ≤ dN m 30 dM sM 101 ∧ Of m < 2 ^ B :=
 ⟨8388608, by decide, by decide, by decide +kernel⟩
theorem DP {c : aY} (h : gQ c) (hok : okF c.E c.X c.Y = true) (N : Nat) (hN : N ≤ 30) : ∃ B X A, 64 ≤ B ∧ B ≤ 16777216 ∧ X ≠ 0 ∧ (∀ b ∈ aX (gE c.E c.X) (c.E.length - 1) (cX c.E c.X) c.Y N, Bd X A b) ∧ dM * X * (1024 * ((sM + 1) * (A * 32 ^ 5 + 1))) < 2 ^ B := by
 obtain ⟨B, h64, hB, hS⟩ := Qe
 obtain ⟨h2, h5, hyl, hld, _⟩ := mQ hok
 obtain ⟨hQ1, hR1, hV⟩ := hS (c.E.length - 1) (by omega)
 have hm := h.Mf
 obtain ⟨p, hp, hp0⟩ := qN hld (by omega)
 obtain ⟨X, hX0, hXQ, hb⟩ := Dw (q := gE c.E c.X) (m := c.E.length - 1) (lead := cX c.E c.X) (y := c.Y) (D := dM) (S := sM) (E := cH 999) (T := 999) (L := 101) (N := 30) ⟨oO, eN _, IX, by omega, by omega, hm, (hm p (List.mem_of_getElem? hp)).2 _ (List.mem_of_getElem? hp0), hld, h.yb, by rw [gE, List.length_map]; omega⟩ (by omega) N hN
 refine ⟨B, X, 999 * dN (c.E.length - 1) 30 dM sM 101 ^ 30, h64, hB, hX0, fun b hbm => (hb b hbm).le (Nat.mul_le_mul_left _ (Nat.pow_le_pow_right hR1 hN)), Nat.lt_of_le_of_lt ?_ hV⟩
 unfold Of
 exact Nat.mul_le_mul_right _ (Nat.mul_le_mul_left _ (Nat.le_trans hXQ (Nat.pow_le_pow_right hQ1 hN)))
theorem roomy {B D X S A u v : Nat} (hX : D * X * (1024 * ((S + 1) * (A * 32 ^ 5 + 1))) < 2 ^ B) (hD : D ≠ 0) (hX0 : X ≠ 0) {x : Rat} (hu0 : u ≠ 0) (hx : Bd u v x) (hu : u ≤ D * X) (hv : v ≤ 1024 * ((S + 1) * (A * 32 ^ 5 + 1))) : Fit B x := by
 have h0 : 0 < D * X := Nat.pos_of_ne_zero (Nat.mul_ne_zero hD hX0)
 refine hx.fit hu0 (Nat.lt_of_le_of_lt (Nat.le_trans hu (Nat.le_mul_of_pos_right _ (Nat.mul_pos (by omega) (Nat.mul_pos (by omega) (by omega))))) hX) (Nat.lt_of_le_of_lt ?_ hX)
 rw [Nat.mul_comm (D * X)]
 exact Nat.mul_le_mul hv hu
theorem zN (a : Rat) : Ar a a = 0 := by
 unfold Ar; rw [if_neg (by grind), if_neg (by grind)]
set_option maxHeartbeats 4000000 in
theorem AY (c : aY) (h : c.In) (z : Nat) (hz : z < 256) : aO prog 5 [(Sf c : aI), (.one (.int .u8 z) : aI)] (.ret [.one (.bool true)]) := by
 refine aD (args := [.v (some 8), .v none]) (ins := [.v (Sf c), .v (.one (.int .u8 z))]) (hints := (fun _ => none)) fo (by kernel_rfl) func5 ⟨rfl, rfl, trivial⟩ ?_
 rw [AX]
 dsimp only [List.map, In.env, aA, aB]
 have hS := JK c h
 have hB := fun hs => NC c h hs
 refine aC hS rfl ?_
 dsimp only [aA, aB]
 refine vn xH rfl ?_
 dsimp only [aA, aB]
 refine Aj (!c.small) rfl (fun h2 => ?_) (fun h2 => ?_)
 ·refine aC mS rfl ?_
  dsimp only [aA, aB]
  exact aJ rfl
 have hs0 : c.small = true := by cases hh : c.small <;> simp_all
 have hC := DS h hs0
 have hel := hC.el
 have hyl6 := hC.yl
 refine aC (hB hs0) rfl ?_
 dsimp only [aA, aB]
 refine vn (aM rI (List.length_map _)) rfl ?_
 dsimp only [aA, aB]
 refine vn (aH (by omega) (by omega)) rfl ?_
 dsimp only [aA, aB]
 refine vn (eB (by omega) (by omega)) rfl ?_
 dsimp only [aA, aB]
 obtain ⟨k, hk⟩ : ∃ k : Nat, (z : Int) % 20 = (k : Int) := ⟨z % 20, by omega⟩
 have hk20 : k < 20 := by omega
 rw [hk]
 refine vn (nY ⟨_, Xt⟩ Xq (by omega) (by omega)) rfl ?_
 dsimp only [aA, aB]
 refine vn (aE (by omega) (by omega)) rfl ?_
 dsimp only [aA, aB]
 refine aC (EN hC ((k : Int) + ((c.E.length : Int) - 1)) (by omega) (by omega) (by omega)) rfl ?_
 dsimp only [aA, aB]
 have hn2 : (mR c.E c.X c.Y ((k : Int) + ((c.E.length : Int) - 1))).2 = if okF c.E c.X c.Y = true then 0 else 2 := by
  rw [mR]
  split
  ·rename_i hok
   have := mQ hok
   rw [if_pos (by omega)]
  ·rfl
 rw [hn2]
 refine vn fX rfl ?_
 dsimp only [aA, aB]
 refine vs (okF c.E c.X c.Y = false) (by
  have : decide ((if okF c.E c.X c.Y = true then (0 : Int) else 2) ≠ 0) = decide (okF c.E c.X c.Y = false) := by cases okF c.E c.X c.Y <;> rfl
  rw [← this]; rfl) (fun h13 => ?_) (fun h13 => ?_)
 ·have hch := Dz c.E c.X c.Y hC.e1 hC.xf (by omega)
  rw [if_neg (by rw [h13]; simp)] at hch
  refine aC hch rfl ?_
  dsimp only [aA, aB]
  refine vn fX rfl ?_
  dsimp only [aA, aB]
  refine vs _ rfl (fun h16 => ?_) (fun h16 => ?_)
  ·refine aC mS rfl ?_
   dsimp only [aA, aB]
   exact aJ rfl
  exact absurd (by decide) h16
 have hok : okF c.E c.X c.Y = true := by cases hh : okF c.E c.X c.Y <;> simp_all
 obtain ⟨hE2, hE5, hyl, hld, _⟩ := mQ hok
 obtain ⟨p, hp, hp0⟩ := qN hld (by omega)
 obtain ⟨m, hm⟩ : ∃ m, c.E.length - 1 = m := ⟨_, rfl⟩
 have hEm : (c.E.length : Int) - 1 = (m : Int) := by omega
 rw [hEm, show mR c.E c.X c.Y ((k : Int) + (m : Int)) = (aX (gE c.E c.X) (c.E.length - 1) (cX c.E c.X) c.Y (k + m), 0) by
  rw [mR, if_pos hok, if_pos (by omega), show ((k : Int) + (m : Int)).toNat = k + m by omega]]
 dsimp only
 obtain ⟨B, X, A, h64, hBB, hX0, hab, hroom⟩ := DP hC hok (k + m) (by omega)
 obtain ⟨B1, h641, hBB1, hR1, _, _⟩ := Ok
 have hal := bF (gE c.E c.X) (c.E.length - 1) (cX c.E c.X) c.Y (k + m)
 have hsol := fun s (hs : s < k) => OT (q := gE c.E c.X) (m := m) (s := s) (N := k + m) (lead := cX c.E c.X) (y := c.Y) hld (by rw [gE, List.length_map]; omega) (by
  rw [hm] at hp
  have hgm : (gE c.E c.X).getD m [] = p := by rw [List.getD_eq_getElem?_getD, hp]; rfl
  rw [hgm, List.getD_eq_getElem?_getD, hp0]; rfl) (by omega)
 have hfst := fun i (hi : i < m) => Ao (q := gE c.E c.X) (m := m) (N := k + m) (i := i) (lead := cX c.E c.X) (y := c.Y) hi (by omega)
 rw [hm] at hab hal ⊢
 have hmB := hC.Mf
 have hsh : ∀ i (hi : i < c.E.length), cV (c.E.getD i []) c.X = (gE c.E c.X).getD i [] := fun i hi => by
  rw [gE, List.getD_eq_getElem?_getD, List.getD_eq_getElem?_getD, List.getElem?_map, List.getElem?_eq_getElem hi]; rfl
 have hroomE := hC.room hBB1 hR1
 have hebd := hC.eb
 clear hroomE
 generalize hq : gE c.E c.X = q at *
 generalize hlead : cX c.E c.X = lead at *
 generalize ha : aX q m lead c.Y (k + m) = a at *
 have hdl := AI a
 have hdb := Ke hX0 hab (n := 32) (by omega)
 have hsl := CP (a := a) (fun p hp => (hmB p hp).1)
 have hsb := FD (M := 5) oO hX0 hmB hab (n := 32) (by omega) (by omega)
 have hA1 : ∀ i, i ≤ 5 → A * 32 ^ i ≤ A * 32 ^ 5 := fun i hi => Nat.mul_le_mul_left _ (Nat.pow_le_pow_right (by omega) hi)
 have hdM : 0 < dM := Nat.pos_of_ne_zero oO
 have fd : ∀ i, i ≤ 5 → ∀ x ∈ dK a i, Fit B x := fun i hi x hx => roomy hroom oO hX0 hX0 (hdb i x hx) (Nat.le_mul_of_pos_left _ hdM) (Nat.le_trans (hA1 i hi) (by
  refine Nat.le_trans ?_ (Nat.le_mul_of_pos_left _ (by omega))
  refine Nat.le_trans ?_ (Nat.le_mul_of_pos_left _ (by omega))
  omega))
 have hbig : ∀ j, j ≤ 5 → j * (101 * (sM * (A * 32 ^ 5))) ≤ 1024 * ((sM + 1) * (A * 32 ^ 5 + 1)) := fun j hj => by
  have : sM * (A * 32 ^ 5) ≤ (sM + 1) * (A * 32 ^ 5 + 1) := Nat.mul_le_mul (by omega) (by omega)
  generalize sM * (A * 32 ^ 5) = u at *
  generalize (sM + 1) * (A * 32 ^ 5 + 1) = v at *
  refine Nat.le_trans (Nat.mul_le_mul_right _ hj) ?_
  omega
 have fs : ∀ i, i ≤ 5 → ∀ x ∈ rW q a i, Fit B x := fun i hi x hx => roomy hroom oO hX0 (Nat.mul_ne_zero oO hX0) (hsb i hi x hx) (Nat.le_refl _) (hbig i hi)
 have hqi : ∀ i, (q.getD i []).length ≤ 101 ∧ ∀ b ∈ q.getD i [], Bd dM sM b := fun i => by
  rw [List.getD_eq_getElem?_getD]
  cases hh : q[i]? with
  | none => exact ⟨Nat.zero_le _, fun b hb => by cases hb⟩
  | some p => exact hmB p (List.mem_of_getElem? hh)
 have fm : ∀ i, i ≤ 5 → ∀ x ∈ jW (q.getD i []) (dK a i), Fit B x := fun i hi x hx => roomy hroom oO hX0 (Nat.mul_ne_zero oO hX0) (vC oO hX0 (hqi i).2 (hdb i) x hx) (Nat.le_refl _) (Nat.le_trans (Nat.mul_le_mul (hqi i).1 (Nat.mul_le_mul_left _ (hA1 i hi))) (by have := hbig 1 (by omega); rwa [Nat.one_mul] at this))
 have hro : ∀ i, i ≤ 5 → dM * X * (((q.getD i []).length + 1) * ((sM + 1) * (A * 32 ^ i + 1))) < 2 ^ B := fun i hi => Nat.lt_of_le_of_lt (Nat.mul_le_mul_left _ (Nat.mul_le_mul (by have := (hqi i).1; omega) (Nat.mul_le_mul_left _ (by have := hA1 i hi; omega)))) hroom
 have hai : ∀ i (hi : i < k + m), a[i]? = some (a.getD i 0) := fun i hi => cL (by omega)
 have hyi : ∀ i (hi : i < m), c.Y[i]? = some (c.Y.getD i 0) := fun i hi => cL (by omega)
 have hfa : ∀ x ∈ a, Fit B x := fd 0 (by omega)
 have hff : ∀ i : Nat, i < m → ∀ j, j ≤ i → Fit 64 ((bW (i : Int) j : Int) : Rat) := fun i hi j hj => by
  have hz := mO (z := (i : Int)) (N := 16) j (by omega)
  have : (16 : Nat) ^ j ≤ 16 ^ 7 := Nat.pow_le_pow_right (by omega) (by omega)
  have h7 : (16 : Nat) ^ 7 = 268435456 := by decide
  rw [h7] at this
  exact gW (by omega) (by omega)
 have hyf := hC.yf
 have hdb' := hdb
 clear hab hdb hsb hroom hbig hA1 hmB
 refine vn (aM qQ (List.length_map _)) rfl ?_
 rw [hal]
 dsimp only [aA, aB]
 refine vn (aE (by omega) (by omega)) rfl ?_
 dsimp only [aA, aB]
 refine vn fX rfl ?_
 dsimp only [aA, aB]
 refine vs _ rfl (fun h28 => ?_) (fun h28 => ?_)
 ·exact absurd (by omega) h28
 refine bA {i : Nat // i ≤ m + 1} (fun g => [.one (sQ (rW q a g.1)), .one (sQ (dK a g.1)), .one (.int .i64 g.1)]) (fun g => m + 1 - g.1) ⟨0, Nat.zero_le _⟩ ⟨aF.Sub.nil, aI.Sub.same, aI.Sub.same, trivial⟩ (fun _ => rfl) ?_
 rintro ⟨i, hi⟩
 dsimp only [aA, aB] at hi ⊢
 refine vn mM rfl ?_
 dsimp only [aA, aB]
 refine vs _ rfl (fun h32 => ?_) (fun h32 => ?_)
 ·obtain ⟨p, hp⟩ : ∃ p, c.E[i]? = some p := ⟨_, List.getElem?_eq_getElem (by omega)⟩
  have hep := hebd p (List.mem_of_getElem? hp)
  have hpd : cV p c.X = q.getD i [] := by rw [← hsh i (by omega), List.getD_eq_getElem?_getD, hp]; rfl
  refine vn (aW rI (by omega) (by omega) hp) rfl ?_
  dsimp only [aA, aB]
  refine vn (bB Ax) rfl ?_
  dsimp only [aA, aB]
  refine aC (BX p c.X _ _ _ _ _ B1 (eN 99) (eN 999) hep.2 hC.xb (by omega) hep.1 (by omega) (by omega) hR1) rfl ?_
  rw [hpd]
  dsimp only [aA, aB]
  refine aC (HW (q.getD i []) (dK a i) dM X sM (A * 32 ^ i) B oO hX0 (hqi i).2 (hdb' i) (by omega) (hro i (by omega)) (by have := (hqi i).1; omega) (by have := hdl i; omega)) rfl ?_
  dsimp only [aA, aB]
  refine aC (JP (rW q a i) (jW (q.getD i []) (dK a i)) B B (by omega) (by omega) (fs i (by omega)) (fm i (by omega)) (by omega) (by have := hsl i; omega) (by
   have h1 := lD (q.getD i []) (dK a i)
   have h2 := (hqi i).1
   have h3 := hdl i
   split at h1 <;> omega)) rfl ?_
  dsimp only [aA, aB]
  refine aC (Hp (dK a i) B (fd i (by omega)) (by omega) (by omega) (by have := hdl i; omega)) rfl ?_
  dsimp only [aA, aB]
  refine vn (aE (by omega) (by omega)) rfl ?_
  dsimp only [aA, aB]
  exact aR rfl ⟨⟨i + 1, by omega⟩, aK.rfl, by show m + 1 - (i + 1) < m + 1 - i; omega⟩
 have hit : i = m + 1 := by omega
 subst hit
 have hz0 : ∀ s, s < k → (trim (rW q a (m + 1))).getD s 0 = 0 := fun s hs => by rw [mE, zB]; exact hsol s hs
 have hsl' := hsl (m + 1)
 have htl := fP (rW q a (m + 1))
 refine aC (pL _ (by omega)) rfl ?_
 generalize htt : trim (rW q a (m + 1)) = t at *
 dsimp only [aA, aB]
 refine bA {j : Nat // j ≤ t.length} (fun g => [.one (.bool false), .one (.int .i64 g.1)]) (fun g => t.length - g.1) ⟨0, Nat.zero_le _⟩ aK.rfl (fun _ => rfl) ?_
 rintro ⟨j, hj⟩
 dsimp only [aA, aB] at hj ⊢
 refine vn (aM fB (List.length_map _)) rfl ?_
 dsimp only [aA, aB]
 refine vn aZ rfl ?_
 dsimp only [aA, aB]
 refine vs _ rfl (fun h45 => ?_) (fun h45 => ?_)
 ·refine vn aZ rfl ?_
  dsimp only [aA, aB]
  refine vs _ rfl (fun h47 => ?_) (fun h47 => ?_)
  ·refine vn (aW fB (by omega) (Int.toNat_natCast j) (cL (show j < t.length by omega))) rfl ?_
   dsimp only [aA, aB]
   refine vn (cY nW (by decide) (by simp) (.inl rfl)) rfl ?_
   dsimp only [aA, aB]
   refine aC (iG _) rfl ?_
   dsimp only [aA, aB]
   refine vn fX rfl ?_
   dsimp only [aA, aB]
   refine vs _ rfl (fun h52 => ?_) (fun h52 => ?_)
   ·exact absurd (sign_zero.2 (hz0 j (by omega))) h52
   refine vn (aE (by omega) (by omega)) rfl ?_
   dsimp only [aA, aB]
   exact aR rfl ⟨⟨j + 1, by omega⟩, aK.rfl, by show t.length - (j + 1) < t.length - j; omega⟩
  refine bA {i : Nat // i ≤ m} (fun g => [.one (.bool false), .one (.int .i64 g.1)]) (fun g => m - g.1) ⟨0, Nat.zero_le _⟩ aK.rfl (fun _ => rfl) ?_
  rintro ⟨i, hi⟩
  dsimp only [aA, aB] at hi ⊢
  refine vn aZ rfl ?_
  dsimp only [aA, aB]
  refine vs _ rfl (fun h58 => ?_) (fun h58 => ?_)
  ·refine vn (aM qQ (List.length_map _)) rfl ?_
   rw [hal]
   dsimp only [aA, aB]
   refine vn aZ rfl ?_
   dsimp only [aA, aB]
   refine vs _ rfl (fun h61 => ?_) (fun h61 => ?_)
   ·refine vn (aW qQ (by omega) (Int.toNat_natCast i) (hai i (by omega))) rfl ?_
    dsimp only [aA, aB]
    refine vn (cY nW (by decide) (by simp) (.inl rfl)) rfl ?_
    dsimp only [aA, aB]
    refine aC (wM (i : Int) i 64 (by omega) (by omega) (by omega) (by omega) (by omega) (hff i (by omega))) rfl ?_
    dsimp only [aA, aB]
    refine aC (eI _ _ B 64 (hfa _ (List.mem_of_getElem? (hai i (by omega)))) (hff i (by omega) i (Nat.le_refl _)) (by omega)) rfl ?_
    rw [hfst i (by omega)]
    dsimp only [aA, aB]
    refine vn (aW qQ (by omega) (Int.toNat_natCast i) (hyi i (by omega))) rfl ?_
    dsimp only [aA, aB]
    refine vn (cY nW (by decide) (by simp) (.inl rfl)) rfl ?_
    dsimp only [aA, aB]
    refine aC (Ap _ _ 513 513 (hyf _ (List.mem_of_getElem? (hyi i (by omega)))) (hyf _ (List.mem_of_getElem? (hyi i (by omega)))) (by omega)) rfl ?_
    rw [zN]
    dsimp only [aA, aB]
    refine vn fX rfl ?_
    dsimp only [aA, aB]
    refine vs _ rfl (fun h70 => ?_) (fun h70 => ?_)
    ·exact absurd rfl h70
    refine vn (aE (by omega) (by omega)) rfl ?_
    dsimp only [aA, aB]
    exact aR rfl ⟨⟨i + 1, by omega⟩, aK.rfl, by show m - (i + 1) < m - i; omega⟩
   refine aC mS rfl ?_
   dsimp only [aA, aB]
   exact aJ rfl
  refine aC mS rfl ?_
  dsimp only [aA, aB]
  exact aJ rfl
 refine bA {i : Nat // i ≤ m} (fun g => [.one (.bool false), .one (.int .i64 g.1)]) (fun g => m - g.1) ⟨0, Nat.zero_le _⟩ aK.rfl (fun _ => rfl) ?_
 rintro ⟨i, hi⟩
 dsimp only [aA, aB] at hi ⊢
 refine vn aZ rfl ?_
 dsimp only [aA, aB]
 refine vs _ rfl (fun h80 => ?_) (fun h80 => ?_)
 ·refine vn (aM qQ (List.length_map _)) rfl ?_
  rw [hal]
  dsimp only [aA, aB]
  refine vn aZ rfl ?_
  dsimp only [aA, aB]
  refine vs _ rfl (fun h83 => ?_) (fun h83 => ?_)
  ·refine vn (aW qQ (by omega) (Int.toNat_natCast i) (hai i (by omega))) rfl ?_
   dsimp only [aA, aB]
   refine vn (cY nW (by decide) (by simp) (.inl rfl)) rfl ?_
   dsimp only [aA, aB]
   refine aC (wM (i : Int) i 64 (by omega) (by omega) (by omega) (by omega) (by omega) (hff i (by omega))) rfl ?_
   dsimp only [aA, aB]
   refine aC (eI _ _ B 64 (hfa _ (List.mem_of_getElem? (hai i (by omega)))) (hff i (by omega) i (Nat.le_refl _)) (by omega)) rfl ?_
   rw [hfst i (by omega)]
   dsimp only [aA, aB]
   refine vn (aW qQ (by omega) (Int.toNat_natCast i) (hyi i (by omega))) rfl ?_
   dsimp only [aA, aB]
   refine vn (cY nW (by decide) (by simp) (.inl rfl)) rfl ?_
   dsimp only [aA, aB]
   refine aC (Ap _ _ 513 513 (hyf _ (List.mem_of_getElem? (hyi i (by omega)))) (hyf _ (List.mem_of_getElem? (hyi i (by omega)))) (by omega)) rfl ?_
   rw [zN]
   dsimp only [aA, aB]
   refine vn fX rfl ?_
   dsimp only [aA, aB]
   refine vs _ rfl (fun h92 => ?_) (fun h92 => ?_)
   ·exact absurd rfl h92
   refine vn (aE (by omega) (by omega)) rfl ?_
   dsimp only [aA, aB]
   exact aR rfl ⟨⟨i + 1, by omega⟩, aK.rfl, by show m - (i + 1) < m - i; omega⟩
  refine aC mS rfl ?_
  dsimp only [aA, aB]
  exact aJ rfl
 refine aC mS rfl ?_
 dsimp only [aA, aB]
 exact aJ rfl
end Go.Sy
