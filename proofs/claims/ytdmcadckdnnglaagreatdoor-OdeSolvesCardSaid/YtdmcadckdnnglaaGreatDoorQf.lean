/- The reach: sums of absolute values, halved radii, doubled starts. The reach.
-/
import Derived.Test.YtdmcadckdnnglaaGreatDoorQc
import Derived.Test.YtdmcadckdnnglaaGreatDoorQe
set_option linter.unusedVariables false
set_option linter.unusedSimpArgs false
namespace Ord
def AA (r : List Rat) (rho : Rat) : Nat → Rat
 | 0 => 0
 | k + 1 => AA r rho k + (r.getD k 0).abs * rho ^ (k + 1)
def eJ (h : Nat) : Rat := ((4 : Int) : Rat) * mkRat 1 (2 ^ h)
def nL (p : List Rat) (m i : Nat) (rho N x : Rat) : Nat → Rat
 | 0 => x
 | k + 1 => if i < m ∨ 0 < k then nL p m i rho N x k + (p.getD k 0).abs * rho ^ (m + k - i) / N ^ (m - i) else nL p m i rho N x k
def iK (q : List (List Rat)) (m : Nat) (rho N : Rat) : Nat → Rat
 | 0 => 0
 | i + 1 => nL (q.getD i []) m i rho N (iK q m rho N i) (q.getD i []).length
structure Um (B : Nat) (q : List (List Rat)) (m : Nat) (rho : Rat) (N : Int) (L : Nat) : Prop where
 fq : ∀ p ∈ q, p.length ≤ L ∧ ∀ x ∈ p, Fit B x
 frho : ∀ j, j ≤ 2 * (m + L) + 1 → Fit B (rho ^ j)
 fN : ∀ j, j ≤ 2 * m + 1 → Fit B ((N : Rat) ^ j)
 fx : ∀ i k, i < q.length → k ≤ (q.getD i []).length → Fit B (nL (q.getD i []) m i rho N (iK q m rho N i) k)
end Ord
namespace Go.Sy
open Go Go.Proofs Tryz Ord
def MS : Tr := aN 68 [(W 26 0)] [(some 3)] [51] [2] 39 false (bK .sub 3 53 54 0 1 4 0 3 (aN 203 [(G3 27), (W 28 0)] [(some 3)] [52, 55] [39, 3] 39 false (aN 207 [(G3 24), (G3 29)] [(some 3)] [47, 56] [39, 39] 39 true (aN 64 [(.agg [(U 13 0), (U 14 0), (U 15 0)]), (G3 30)] [(some 3)] [37, 57] [39, 39] 39 true (aV .add 3 25 1 12 0 3 (.back 1 [lV 32 0, lV 31 0, lV 31 1, lV 31 2]))))))
def Le : Tr := aN 146 [(G3 18)] [(some 3)] [38] [39] 39 false (bK .add 3 41 42 0 1 12 0 3 (bK .sub 3 43 44 21 0 4 0 3 (aN 203 [(G3 1), (W 22 0)] [(some 3)] [40, 45] [39, 3] 39 false (aN 36 [(G3 20), (G3 23)] [(some 3)] [39, 46] [39, 39] 39 false (bK .sub 3 48 49 2 0 0 1 3 (aV .add 3 50 1 25 0 3 MS))))))
def Gf : Tr := .back 1 [lV 33 0, lV 32 0, lV 32 1, lV 32 2]
def Lr : Tr := aV .add 3 50 1 26 0 3 (aN 68 [(W 27 0)] [(some 3)] [51] [2] 39 false (bK .sub 3 53 54 0 1 4 0 3 (aN 203 [(G3 28), (W 29 0)] [(some 3)] [52, 55] [39, 3] 39 false (aN 207 [(G3 25), (G3 30)] [(some 3)] [47, 56] [39, 39] 39 true (aN 64 [(.agg [(U 13 0), (U 14 0), (U 15 0)]), (G3 31)] [(some 3)] [37, 57] [39, 39] 39 true (aV .add 3 25 1 12 0 3 Gf))))))
def MO : Tr := .split (.u 20 0) (aN 146 [(G3 18)] [(some 3)] [38] [39] 39 false (bK .add 3 41 42 0 1 12 0 3 (bK .sub 3 43 44 22 0 4 0 3 (aN 203 [(G3 1), (W 23 0)] [(some 3)] [40, 45] [39, 3] 39 false (aN 36 [(G3 21), (G3 24)] [(some 3)] [39, 46] [39, 39] 39 false (bK .sub 3 48 49 2 0 0 1 3 Lr)))))) (aV .add 3 25 1 12 0 3 (.back 1 [lV 21 0, lV 13 0, lV 14 0, lV 15 0]))
def OG : Tr := bK .lss 3 25 24 12 0 11 0 0 (.split (.u 16 0) (gV 10 0 12 0 72 23 25 (fU 17 0 (some 3) 39 28 (bK .lss 3 30 31 4 0 0 1 4 (.split (.u 19 0) Le (aV .gtr 3 34 0 12 0 4 MO))))) (aV .add 3 18 1 4 0 3 (.back 0 [lV 17 0, lV 13 0, lV 14 0, lV 15 0])))
def Sb : Tr := .loop 0 [lK 0, lN, (.w (.one (.c (.k (.bool false))))), lN] (bK .lss 3 18 17 4 0 3 0 0 (.split (.u 8 0) (gV 0 0 4 0 31 16 18 (fU 9 0 none 72 21 (cM 10 0 23 72 (.loop 1 [lK 0, lV 5 0, lV 6 0, lV 7 0] OG)))) (.ret [(.agg [(U 5 0), (U 6 0), (U 7 0)])])))
def Qb : Tr := cM 0 0 16 31 Sb
theorem Mq : aL prog f205 (fun _ => none) [.v (some 5), .v (some 3), .v none] = Qb := by kernel_rfl
def Mk : Tr := fU 26 0 (some 3) 39 36 (aN 146 [(G3 27)] [(some 3)] [39] [39] 39 false (aV .add 3 43 1 21 0 3 (aN 203 [(G3 16), (W 29 0)] [(some 3)] [42, 44] [39, 3] 39 false (aN 36 [(G3 28), (G3 30)] [(some 3)] [40, 45] [39, 39] 39 true (aN 64 [(.agg [(U 22 0), (U 23 0), (U 24 0)]), (G3 31)] [(some 3)] [38, 46] [39, 39] 39 true (aV .add 3 33 1 21 0 3 Gf))))))
def NM : Tr := .need (.call 130 [(W 49 0), (WK 5)] []) (.call ⟨.value (.func 130), #[(tT 67), (.const (I3 5))], #[4, 55]⟩) 0 true (aN 205 [(G5 0), (.agg [(U 45 0), (U 46 0), (U 47 0)]), (W 48 0)] [(some 3)] [69, 71, 73] [171, 39, 3] 39 false (aN 38 [(G3 50), (G3 1)] [none] [74, 75] [39, 39] 3 true (aV .leq 3 76 0 51 0 4 (.split (.u 52 0) (.ret [(.agg [(U 40 0), (U 41 0), (U 42 0), (U 43 0), (U 44 0), (U 45 0), (U 46 0), (U 47 0), (U 48 0)])]) (aV .mul 3 62 2 48 0 3 (.back 0 [lV 31 0, lV 32 0, lV 33 0, lV 34 0, lV 35 0, lV 36 0, lV 37 0, lV 38 0, lV 39 0, lV 40 0, lV 41 0, lV 42 0, lV 43 0, lV 44 0, lV 45 0, lV 46 0, lV 47 0, lV 53 0]))))))
def Lg : Tr := aN 38 [(G3 26), (G3 1)] [none] [51, 52] [39, 39] 3 true (aV .leq 3 53 0 27 0 4 (.split (.u 28 0) (aN 204 [(G5 0)] [none] [55] [171] 3 false (bK .add 3 56 58 29 0 0 1 3 (.loop 0 [lN, lK 0, lN, (.w (.one (.c (.k (.bool false))))), lN, lN, (.w (.one (.c (.k (.bool false))))), lN, lK 0, lV 3 0, lV 4 0, lV 5 0, lV 6 0, lV 7 0, lV 16 0, lV 16 1, lV 16 2, lV 30 0] (aV .leq 3 66 4096 48 0 4 NM)))) (aV .sub 3 14 1 2 0 3 (.back 0 [lV 29 0, lV 3 0, lV 4 0, lV 5 0, lV 6 0, lV 7 0, lV 16 0, lV 16 1, lV 16 2, lV 11 0]))))
def QH : Tr := fU 17 0 none 72 29 (.need (.prim [(W 18 0), (WK 1)] none) (.slice 72 (tT 30) (some (.const (I3 1))) none none) 72 false (cM 19 0 31 72 (.loop 1 [lK 0, lN, (.w (.one (.c (.k (.bool false))))), lN] (bK .lss 3 33 32 21 0 20 0 0 (.split (.u 25 0) (gV 19 0 21 0 72 31 33 Mk) (aN 64 [(.agg [(U 22 0), (U 23 0), (U 24 0)]), (.agg [(U 22 0), (U 23 0), (U 24 0)])] [(some 3)] [49, 50] [39, 39] 39 false Lg))))))
def QO : Tr := aV .geq 3 16 (-60) 2 0 4 (.need (.call 130 [(W 12 0), (WK 5)] []) (.call ⟨.value (.func 130), #[(tT 17), (.const (I3 5))], #[4, 55]⟩) 0 true (.need (.call 68 [(WK 4)] [(some 3)]) (.call ⟨.value (.func 68), #[(.const (I3 4))], #[2]⟩) 39 false (.need (.prim [(WK 2), (W 2 0)] none) (.binOp .sub 3 (.const (I3 2)) (tT 20) 3) 3 false (aN 202 [(W 14 0)] [(some 3)] [21] [3] 39 true (aN 36 [(G3 13), (G3 15)] [(some 3)] [19, 22] [39, 39] 39 true (gV 0 0 0 1 31 26 28 QH))))))
def QD : Tr := aN 146 [(.agg [(U 0 2), (U 0 3), (U 0 4)])] [(some 3)] [12] [39] 39 true (.loop 0 [lK 2, lV 0 0, lV 0 1, lV 0 2, lV 0 3, lV 0 4, lN, (.w (.one (.c (.k (.bool false))))), lN, lK 0] QO)
theorem Je : aL prog f123 (fun _ => none) [.v (some 5)] = QD := by kernel_rfl
theorem Aq {B : Nat} {q : Rat} (h : Fit B q) : Fit B q.abs := by
 obtain ⟨h1, h2⟩ := Bw q
 exact ⟨by rw [h1]; simpa using h.1, by rw [h2]; exact h.2⟩
theorem Bc {x : Rat} (h : x ≠ 0) : ∀ j : Nat, x ^ j ≠ 0
 | 0 => by rw [Rat.pow_zero]; decide
 | j + 1 => by
   rw [Rat.pow_succ]
   intro e
   rcases Rat.mul_eq_zero.1 e with e | e
   ·exact Bc h j e
   ·exact h e
theorem Bi {a b : Rat} : Ar a b ≤ 0 ↔ a ≤ b := by
 unfold Ar
 by_cases h1 : a < b
 ·rw [if_pos h1]; exact ⟨fun _ => by grind, fun _ => by omega⟩
 ·rw [if_neg h1]
  by_cases h2 : b < a
  ·rw [if_pos h2]; exact ⟨fun h => by omega, fun h => by grind⟩
  ·rw [if_neg h2]; exact ⟨fun _ => by grind, fun _ => by omega⟩
set_option maxHeartbeats 1000000 in
theorem Mo (q : List (List Rat)) (m : Nat) (lead rho : Rat) (n : Int) (B L : Nat) (C : Um B q m rho (n - m + 1) L) (hql : q.length = m + 1) (hm : m ≤ 64) (hL : L ≤ 1048576) (hn1 : (m : Int) ≤ n) (hn2 : n < 1099511627776) (hB : B ≤ 8589934592) (h64 : 64 ≤ B) : aO prog 205 [(BH q m lead : aI), (qT rho : aI), (.one (.int .i64 n) : aI)] (.ret [qT (iK q m rho ((n - m + 1 : Int) : Rat) q.length)]) := by
 refine aD (args := [.v (some 5), .v (some 3), .v none]) (ins := [.v (BH q m lead), .v (qT rho), .v (.one (.int .i64 n))]) (hints := (fun _ => none)) fo (by kernel_rfl) func205 ⟨rfl, rfl, rfl, trivial⟩ ?_
 rw [Mq]
 dsimp only [List.map, In.env, aA, aB]
 have hN0 : ((n - m + 1 : Int) : Rat) ≠ 0 := WE (by omega)
 refine vn (aM Ey (List.length_map _)) rfl ?_
 dsimp only [aA, aB]
 refine bA {i : Nat // i ≤ q.length} (fun g => (.one (.int .i64 g.1) : aI) :: (qC (iK q m rho ((n - m + 1 : Int) : Rat) g.1)).map .one) (fun g => q.length - g.1) ⟨0, Nat.zero_le _⟩ ⟨aI.Sub.same, wU⟩ (fun _ => rfl) ?_
 rintro ⟨i, hi⟩
 dsimp only [aA, aB, List.map] at hi ⊢
 refine vn aZ rfl ?_
 dsimp only [aA, aB]
 refine vs _ rfl (fun h3 => ?_) (fun h3 => ?_)
 ·obtain ⟨p, hpi⟩ : ∃ p, q[i]? = some p := ⟨_, List.getElem?_eq_getElem (by omega)⟩
  have hgd : q.getD i [] = p := by rw [List.getD_eq_getElem?_getD, hpi]; rfl
  obtain ⟨hpl, hfp⟩ := C.fq p (List.mem_of_getElem? hpi)
  have hfx := fun k => C.fx i k (by omega)
  rw [hgd] at hfx
  refine vn (aW Ey (by omega) (by omega) hpi) rfl ?_
  dsimp only [aA, aB]
  refine vn (bB Ax) rfl ?_
  dsimp only [aA, aB]
  refine vn (aM fB (List.length_map _)) rfl ?_
  dsimp only [aA, aB]
  refine bA {k : Nat // k ≤ p.length} (fun g => (.one (.int .i64 g.1) : aI) :: (qC (nL p m i rho ((n - m + 1 : Int) : Rat) (iK q m rho ((n - m + 1 : Int) : Rat) i) g.1)).map .one) (fun g => p.length - g.1) ⟨0, Nat.zero_le _⟩ aK.rfl (fun _ => rfl) ?_
  rintro ⟨k, hk⟩
  dsimp only [aA, aB, List.map] at hk ⊢
  refine vn aZ rfl ?_
  dsimp only [aA, aB]
  refine vs _ rfl (fun h9 => ?_) (fun h9 => ?_)
  ·have hkt : k < p.length := by omega
   have hc := Aq (hfp (p.getD k 0) (List.mem_of_getElem? (cL (l := p) hkt)))
   have hr := C.frho (m + k - i) (by omega)
   have hNp := C.fN (m - i) (by omega)
   have e1 : (m : Int) + (k : Int) - (i : Int) = ((m + k - i : Nat) : Int) := by omega
   have e2 : (m : Int) - (i : Int) = ((m - i : Nat) : Int) := by omega
   have hx := hfx k (by omega)
   refine vn (aW fB (by omega) (Int.toNat_natCast k) (cL hkt)) rfl ?_
   dsimp only [aA, aB]
   refine vn (cY nW (by decide) (by simp) (.inl rfl)) rfl ?_
   dsimp only [aA, aB]
   refine vn aZ rfl ?_
   dsimp only [aA, aB]
   refine vs _ rfl (fun h13 => ?_) (fun h13 => ?_)
   ·refine aC (AQ _) rfl ?_
    dsimp only [aA, aB]
    refine vn (aE (by omega) (by omega)) rfl ?_
    dsimp only [aA, aB]
    refine vn (aH (by omega) (by omega)) rfl ?_
    rw [e1]
    dsimp only [aA, aB]
    refine aC (mD rho (m + k - i) B (by omega) (by omega) (fun j hj => C.frho j (by omega))) rfl ?_
    dsimp only [aA, aB]
    refine aC (eI _ _ B B hc hr (by omega)) rfl ?_
    dsimp only [aA, aB]
    refine vn (aH (by omega) (by omega)) rfl ?_
    dsimp only [aA, aB]
    refine vn (aE (by omega) (by omega)) rfl ?_
    dsimp only [aA, aB]
    refine aC (iB (n - m + 1) (by omega) (by omega)) rfl ?_
    dsimp only [aA, aB]
    refine vn (aH (by omega) (by omega)) rfl ?_
    rw [e2]
    dsimp only [aA, aB]
    refine aC (mD _ (m - i) B (by omega) (by omega) (fun j hj => C.fN j (by omega))) rfl ?_
    dsimp only [aA, aB]
    refine aC (uV _ _ (B + B) B (Bc hN0 _) (hc.mul hr) hNp (by omega)) rfl ?_
    dsimp only [aA, aB]
    refine aC (oV _ _ B (B + B + B) hx ((hc.mul hr).div hNp) (by omega)) rfl ?_
    dsimp only [aA, aB]
    refine vn (aE (by omega) (by omega)) rfl ?_
    dsimp only [aA, aB]
    exact aR rfl ⟨⟨k + 1, by omega⟩, (by
     dsimp only
     rw [nL, if_pos (.inl (by omega))]
     exact aK.rfl), by show p.length - (k + 1) < p.length - k; omega⟩
   refine vn dX rfl ?_
   dsimp only [aA, aB]
   refine vs _ rfl (fun h29 => ?_) (fun h29 => ?_)
   ·refine aC (AQ _) rfl ?_
    dsimp only [aA, aB]
    refine vn (aE (by omega) (by omega)) rfl ?_
    dsimp only [aA, aB]
    refine vn (aH (by omega) (by omega)) rfl ?_
    rw [e1]
    dsimp only [aA, aB]
    refine aC (mD rho (m + k - i) B (by omega) (by omega) (fun j hj => C.frho j (by omega))) rfl ?_
    dsimp only [aA, aB]
    refine aC (eI _ _ B B hc hr (by omega)) rfl ?_
    dsimp only [aA, aB]
    refine vn (aH (by omega) (by omega)) rfl ?_
    dsimp only [aA, aB]
    refine vn (aE (by omega) (by omega)) rfl ?_
    dsimp only [aA, aB]
    refine aC (iB (n - m + 1) (by omega) (by omega)) rfl ?_
    dsimp only [aA, aB]
    refine vn (aH (by omega) (by omega)) rfl ?_
    rw [e2]
    dsimp only [aA, aB]
    refine aC (mD _ (m - i) B (by omega) (by omega) (fun j hj => C.fN j (by omega))) rfl ?_
    dsimp only [aA, aB]
    refine aC (uV _ _ (B + B) B (Bc hN0 _) (hc.mul hr) hNp (by omega)) rfl ?_
    dsimp only [aA, aB]
    refine aC (oV _ _ B (B + B + B) hx ((hc.mul hr).div hNp) (by omega)) rfl ?_
    dsimp only [aA, aB]
    refine vn (aE (by omega) (by omega)) rfl ?_
    dsimp only [aA, aB]
    exact aR rfl ⟨⟨k + 1, by omega⟩, (by
     dsimp only
     rw [nL, if_pos (.inr (by omega))]
     exact aK.rfl), by show p.length - (k + 1) < p.length - k; omega⟩
   refine vn (aE (by omega) (by omega)) rfl ?_
   dsimp only [aA, aB]
   exact aR rfl ⟨⟨k + 1, by omega⟩, (by
    dsimp only
    rw [nL, if_neg (by omega)]
    exact aK.rfl), by show p.length - (k + 1) < p.length - k; omega⟩
  refine vn (aE (by omega) (by omega)) rfl ?_
  dsimp only [aA, aB]
  exact aR rfl ⟨⟨i + 1, by omega⟩, (by
   dsimp only
   rw [iK, hgd, show p.length = k by omega]
   exact aK.rfl), by show q.length - (i + 1) < q.length - i; omega⟩
 rw [show q.length = i by omega]; exact aJ rfl
theorem LF {E sz b T : Nat} {α : Type} {f : α → List aF} {ds : List α} {x : Operand} {ty : Nat} {y : Operand} {k : IntKind} {n : Int} {m : Nat} (h : cS prog T = some (E, sz, b)) (h0 : 0 ≤ n) (hm : n.toNat = m) (hn : m ≤ ds.length) : aQ prog (.slice T x (some y) none none) ty [.one (.slice sz (ds.map f)), .one (.int k n)] (.one (.slice sz ((ds.drop m).map f))) := by
 have := zK (P := prog) (T := T) (x := x) (y := y) (ty := ty) (k := k) (n := n) (ts := ds.map f) h h0 (by rw [List.length_map, hm]; exact hn)
 rw [hm, ← List.map_drop] at this
 exact this
theorem vM (e : Int) : aO prog 130 [.one (.bool true), .one (.int .i64 e)] (.ret []) := by
 refine aD (args := [.v none, .v none]) (ins := [.v (.one (.bool true)), .v (.one (.int .i64 e))]) (hints := (fun _ => none)) fo (by kernel_rfl) func130 ⟨rfl, rfl, trivial⟩ ?_
 rw [Ni]
 dsimp only [List.map, In.env, aA, aB]
 refine vn xH rfl ?_
 dsimp only [aA, aB]
 refine Aj false rfl (fun h => by cases h) (fun _ => ?_)
 exact aJ rfl
abbrev Fc (q : List (List Rat)) (m : Nat) (lead : Rat) (h : Nat) : Prop := AA ((q.getD m []).drop 1) (eJ h) ((q.getD m []).length - 1) + AA ((q.getD m []).drop 1) (eJ h) ((q.getD m []).length - 1) ≤ lead.abs
abbrev uO (q : List (List Rat)) (m : Nat) (lead : Rat) (rho : Rat) (s : Nat) : Prop := iK q m rho (((s : Int) - m + 1 : Int) : Rat) q.length ≤ lead.abs
structure Oo (B : Nat) (q : List (List Rat)) (m : Nat) (lead : Rat) (L h0 s i0 : Nat) : Prop where
 flead : Fit B lead
 fq : ∀ p ∈ q, p.length ≤ L ∧ ∀ x ∈ p, Fit B x
 frho : ∀ h, h ≤ h0 → ∀ j, j ≤ 2 * L + 1 → Fit B (eJ h ^ j)
 fs : ∀ h, h ≤ h0 → ∀ k, k ≤ L → Fit B (AA ((q.getD m []).drop 1) (eJ h) k)
 fm : ∀ i, i ≤ i0 → Um B q m (eJ h0) (((s * 2 ^ i : Nat) : Int) - m + 1) L
 fo : ∀ i, i ≤ i0 → Fit B (iK q m (eJ h0) ((((s * 2 ^ i : Nat) : Int) - m + 1 : Int) : Rat) q.length)
theorem Np (h : Nat) : Fit (h + 1) (mkRat 1 (2 ^ h)) := by
 refine Fit.mkRat ?_ ?_ (Nat.ne_of_gt (Nat.pow_pos (by omega)))
 ·have : 2 ^ 0 ≤ 2 ^ h := Nat.pow_le_pow_right (by omega) (Nat.zero_le _)
  rw [Nat.pow_succ]
  show (1 : Nat) < _
  omega
 ·exact Nat.pow_lt_pow_right (by omega) (by omega)
set_option maxHeartbeats 2000000 in
theorem KV (q : List (List Rat)) (m : Nat) (lead : Rat) (B L h0 i0 : Nat) (C : Oo B q m lead L h0 (m + eA q + m) i0) (hql : q.length = m + 1) (hm : m ≤ 64) (hL : L ≤ 1048576) (hB : B ≤ 8589934592) (h64 : 64 ≤ B) (hh : h0 ≤ 62) (hp1 : 1 ≤ (q.getD m []).length) (hlow : ∀ h, h < h0 → ¬ Fc q m lead h) (hs : Fc q m lead h0) (hst : ∀ i, i < i0 → ¬ uO q m lead (eJ h0) ((m + eA q + m) * 2 ^ i)) (hsi : uO q m lead (eJ h0) ((m + eA q + m) * 2 ^ i0)) (hlim : (m + eA q + m) * 2 ^ i0 ≤ 4096) : aO prog 123 [(BH q m lead : aI)] (.ret [.agg (([eQ q, .int .i64 m] ++ qC lead) ++ qC (eJ h0) ++ [.int .i64 (((m + eA q + m) * 2 ^ i0 : Nat) : Int)])]) := by
 refine aD (args := [.v (some 5)]) (ins := [.v (BH q m lead)]) (hints := (fun _ => none)) fo (by kernel_rfl) func123 ⟨rfl, trivial⟩ ?_
 rw [Je]
 dsimp only [List.map, In.env, aA, aB]
 obtain ⟨p, hpm⟩ : ∃ p, q[m]? = some p := ⟨_, List.getElem?_eq_getElem (by omega)⟩
 have hgd : q.getD m [] = p := by rw [List.getD_eq_getElem?_getD, hpm]; rfl
 obtain ⟨hpl, hfp⟩ := C.fq p (List.mem_of_getElem? hpm)
 have hfs := C.fs
 have hfl := Aq C.flead
 rw [hgd] at hfs hp1
 have hokr : ∀ h, Fc q m lead h ↔ AA (p.drop 1) (eJ h) (p.length - 1) + AA (p.drop 1) (eJ h) (p.length - 1) ≤ lead.abs := fun h => by rw [Fc, hgd]
 have hlow : ∀ h, h < h0 → ¬ AA (p.drop 1) (eJ h) (p.length - 1) + AA (p.drop 1) (eJ h) (p.length - 1) ≤ lead.abs := fun h hh => by rw [← hokr]; exact hlow h hh
 have hs := (hokr h0).1 hs
 refine aC (AQ lead) rfl ?_
 dsimp only [aA, aB]
 refine bA {h : Nat // h ≤ h0} (fun g => ([.one (.int .i64 (2 - (g.1 : Int))), .one (eQ q), .one (.int .i64 m)] : List aI) ++ (qC lead).map aI.one ++ (qC (if g.1 = 0 then 0 else eJ (g.1 - 1))).map aI.one ++ [aI.one (.int .i64 0)]) (fun g => h0 - g.1) ⟨0, Nat.zero_le _⟩
  ⟨aI.Sub.same, aI.Sub.same, aI.Sub.same, aI.Sub.same, aI.Sub.same, aI.Sub.same, iD.1, iD.2.1, iD.2.2.1, aI.Sub.same, trivial⟩ (fun _ => rfl) ?_
 rintro ⟨h, hh0⟩
 dsimp only [aA, aB, List.map] at hh0 ⊢
 refine vn dZ rfl ?_
 dsimp only [aA, aB]
 rw [show decide ((-60 : Int) ≤ 2 - (h : Int)) = true by rw [decide_eq_true_iff]; omega]
 refine aC (vM 5) rfl ?_
 refine aC (iB 4 (by omega) (by omega)) rfl ?_
 dsimp only [aA, aB]
 refine vn (aH (by omega) (by omega)) rfl ?_
 rw [show (2 : Int) - (2 - (h : Int)) = (h : Int) by omega]
 dsimp only [aA, aB]
 refine aC (RU h (by omega)) rfl ?_
 dsimp only [aA, aB]
 refine aC (eI ((4 : Int) : Rat) (mkRat 1 (2 ^ h)) 64 64 (Fit.int (by omega) (by omega)) ((Np h).mono (by omega)) (by omega)) rfl ?_
 rw [show ((4 : Int) : Rat) * mkRat 1 (2 ^ h) = eJ h from rfl]
 dsimp only [aA, aB]
 refine vn (aW Ey (by omega) (Int.toNat_natCast m) hpm) rfl ?_
 dsimp only [aA, aB]
 refine vn (bB Ax) rfl ?_
 dsimp only [aA, aB]
 refine vn (LF fB (by omega) (show (1 : Int).toNat = 1 from rfl) hp1) rfl ?_
 dsimp only [aA, aB]
 refine vn (aM fB (show (rQ (p.drop 1)).length = p.length - 1 by rw [List.length_map, List.length_drop])) rfl ?_
 dsimp only [aA, aB]
 refine bA {k : Nat // k ≤ p.length - 1} (fun g => (.one (.int .i64 g.1) : aI) :: (qC (AA (p.drop 1) (eJ h) g.1)).map .one) (fun g => p.length - 1 - g.1) ⟨0, Nat.zero_le _⟩ ⟨aI.Sub.same, wU⟩ (fun _ => rfl) ?_
 rintro ⟨k, hk⟩
 dsimp only [aA, aB, List.map] at hk ⊢
 refine vn aZ rfl ?_
 dsimp only [aA, aB]
 refine vs _ rfl (fun h14 => ?_) (fun h14 => ?_)
 ·have hkt : k < (p.drop 1).length := by rw [List.length_drop]; omega
  have hc := Aq (hfp ((p.drop 1).getD k 0) (List.mem_of_mem_drop (List.mem_of_getElem? (cL (l := p.drop 1) hkt))))
  refine vn (aW fB (by omega) (Int.toNat_natCast k) (cL hkt)) rfl ?_
  dsimp only [aA, aB]
  refine vn (cY nW (by decide) (by simp) (.inl rfl)) rfl ?_
  dsimp only [aA, aB]
  refine aC (AQ _) rfl ?_
  dsimp only [aA, aB]
  refine vn (aE (by omega) (by omega)) rfl ?_
  dsimp only [aA, aB]
  refine aC (mD (eJ h) (k + 1) B (by omega) (by omega) (fun j hj => C.frho h hh0 j (by omega))) rfl ?_
  dsimp only [aA, aB]
  refine aC (eI _ _ B B hc (C.frho h hh0 (k + 1) (by omega)) (by omega)) rfl ?_
  dsimp only [aA, aB]
  refine aC (oV _ _ B (B + B) (hfs h hh0 k (by omega)) (hc.mul (C.frho h hh0 (k + 1) (by omega))) (by omega)) rfl ?_
  dsimp only [aA, aB]
  refine vn (aE (by omega) (by omega)) rfl ?_
  dsimp only [aA, aB]
  exact aR rfl ⟨⟨k + 1, by omega⟩, aK.rfl, by show p.length - 1 - (k + 1) < p.length - 1 - k; omega⟩
 have hkl : p.length - 1 = k := by omega
 rw [hkl] at hlow hs
 refine aC (oV _ _ B B (hfs h hh0 k (by omega)) (hfs h hh0 k (by omega)) (by omega)) rfl ?_
 dsimp only [aA, aB]
 refine aC (Ap _ _ (B + B + 1) B ((hfs h hh0 k (by omega)).add (hfs h hh0 k (by omega))) hfl (by omega)) rfl ?_
 dsimp only [aA, aB]
 refine vn mM rfl ?_
 dsimp only [aA, aB]
 refine vs _ rfl (fun h27 => ?_) (fun h27 => ?_)
 ·have hle := Bi.1 h27
  have hheq : h = h0 := by
   rcases Nat.lt_or_ge h h0 with hl | hl
   ·exact (hlow h hl hle).elim
   ·omega
  subst hheq
  have hqs : ∀ p ∈ q, p.length < 1099511627776 := fun p hp => by have := (C.fq p hp).1; omega
  have hdm := zU (N := 1048576) q (fun p hp => Nat.le_trans (C.fq p hp).1 hL)
  refine aC (Ki q m lead hqs (by omega) (by omega)) rfl ?_
  dsimp only [aA, aB]
  refine vn (aE (by omega) (by omega)) rfl ?_
  rw [show ((m + eA q : Nat) : Int) + (m : Int) = ((m + eA q + m : Nat) : Int) by omega]
  dsimp only [aA, aB]
  generalize hse : m + eA q + m = s at *
  refine bA {i : Nat // i ≤ i0} (fun g => ([.one (.exact (.slice none 0 0)), .one (.int .i64 0), .one (.exact (.slice none 0 0)), .one (.bool false), .one (.exact (.slice none 0 0)), .one (.exact (.slice none 0 0)), .one (.bool false), .one (.exact (.slice none 0 0)), .one (.int .i64 0), .one (eQ q), .one (.int .i64 m)] : List aI) ++ (qC lead).map aI.one ++ (qC (eJ h)).map aI.one ++ [aI.one (.int .i64 ((s * 2 ^ g.1 : Nat) : Int))]) (fun g => i0 - g.1) ⟨0, Nat.zero_le _⟩ (show aK _ _ by rw [Nat.pow_zero, Nat.mul_one]; exact aK.rfl) (fun _ => rfl) ?_
  rintro ⟨i, hi⟩
  dsimp only [aA, aB, List.map] at hi ⊢
  have hpw : s * 2 ^ i ≤ s * 2 ^ i0 := Nat.mul_le_mul_left _ (Nat.pow_le_pow_right (by omega) hi)
  have hsm : m ≤ s * 2 ^ i := by
   have h1 : 1 ≤ 2 ^ i := Nat.pow_pos (by omega)
   have h2 : s * 1 ≤ s * 2 ^ i := Nat.mul_le_mul_left _ h1
   omega
  obtain ⟨z, hz⟩ : ∃ z, s * 2 ^ i = z := ⟨_, rfl⟩
  rw [hz] at hpw hsm ⊢
  have hfm := C.fm i hi
  have hfo := C.fo i hi
  rw [hz] at hfm hfo
  refine vn mM rfl ?_
  dsimp only [aA, aB]
  rw [show decide ((z : Int) ≤ 4096) = true by rw [decide_eq_true_iff]; omega]
  refine aC (vM 5) rfl ?_
  refine aC (Mo q m lead (eJ h) (z : Int) B L hfm hql hm hL (by omega) (by omega) hB h64) rfl ?_
  dsimp only [aA, aB]
  refine aC (Ap _ _ B B hfo hfl (by omega)) rfl ?_
  dsimp only [aA, aB]
  refine vn mM rfl ?_
  dsimp only [aA, aB]
  refine vs _ rfl (fun h36 => ?_) (fun h36 => ?_)
  ·have hle2 := Bi.1 h36
   have hieq : i = i0 := by
    rcases Nat.lt_or_ge i i0 with hl | hl
    ·exact (hst i hl (by rw [uO, hz]; exact hle2)).elim
    ·omega
   subst hieq
   rw [hz]
   exact aJ rfl
  have hilt : i < i0 := by
   rcases Nat.lt_or_ge i i0 with hl | hl
   ·exact hl
   ·exfalso
    obtain rfl : i = i0 := by omega
    rw [uO, hz] at hsi
    exact h36 (Bi.2 hsi)
  refine vn (mX (by omega) (by omega)) rfl ?_
  dsimp only [aA, aB]
  exact aR rfl ⟨⟨i + 1, by omega⟩, aK.of_eq (show [aI.one (.exact (.slice none 0 0)), .one (.int .i64 0), .one (.exact (.slice none 0 0)), .one (.bool false), .one (.exact (.slice none 0 0)), .one (.exact (.slice none 0 0)), .one (.bool false), .one (.exact (.slice none 0 0)), .one (.int .i64 0), .one (eQ q), .one (.int .i64 m)] ++ (qC lead).map aI.one ++ (qC (eJ h)).map aI.one ++ [aI.one (.int .i64 ((z : Int) * 2))] = _ by
   dsimp only
   rw [Nat.pow_succ, ← Nat.mul_assoc, hz]; rfl), by show i0 - (i + 1) < i0 - i; omega⟩
 have hhlt : h < h0 := by
  rcases Nat.lt_or_ge h h0 with hl | hl
  ·exact hl
  ·exfalso
   obtain rfl : h = h0 := by omega
   exact h27 (Bi.2 hs)
 refine vn (aH (by omega) (by omega)) rfl ?_
 dsimp only [aA, aB]
 exact aR rfl ⟨⟨h + 1, by omega⟩, aK.of_eq (show [aI.one (.int .i64 (2 - (h : Int) - 1)), .one (eQ q), .one (.int .i64 m)] ++ (qC lead).map aI.one ++ (qC (eJ h)).map aI.one ++ [aI.one (.int .i64 0)] = _ by
  dsimp only
  rw [if_neg (by omega), Nat.add_sub_cancel, show (2 : Int) - (h : Int) - 1 = 2 - ((h + 1 : Nat) : Int) by omega]
  rfl), by show h0 - (h + 1) < h0 - h; omega⟩
end Go.Sy
