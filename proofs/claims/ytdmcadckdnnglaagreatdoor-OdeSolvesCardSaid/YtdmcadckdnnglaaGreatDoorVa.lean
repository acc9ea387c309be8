/- The reference's polynomials. The reference's shifted equations, its series. The reference's shifted polynomials are the program's.
-/
import Derived.Test.YtdmcadckdnnglaaGreatDoorOd
import Derived.Test.YtdmcadckdnnglaaGreatDoorPc
set_option linter.unusedVariables false
set_option linter.unusedSimpArgs false
namespace Go.Sy
open Go Go.Proofs Tryz Ord
def pA (p : List RQ) (c : Rat) : List RQ := p.map fun a => .of (a.q * c)
theorem pS (p : List RQ) (c : Rat) : (pA p c).length = p.length := List.length_map _
def atR (p : List RQ) (i : Nat) : Rat := ((p.map RQ.q).getD i 0)
theorem Cd {p : List RQ} {i : Nat} {x : RQ} (h : p[i]? = some x) : atR p i = x.q := by
 rw [atR, List.getD_eq_getElem?_getD, List.getElem?_map, h]; rfl
def Ma (a b : List RQ) (i : Nat) : List RQ := (List.range i).map fun k => .of (atR a k + atR b k)
theorem CY (a b : List RQ) (i : Nat) : (Ma a b i).length = i := by simp [Ma]
def DV (a b : List RQ) : List RQ := eZ (Ma a b (max a.length b.length))
theorem rP (p : List RQ) : (eZ p).length ≤ p.length := by rw [Al]; exact fG p
theorem FY (a b : List RQ) : (DV a b).length ≤ max a.length b.length := Nat.le_trans (rP _) (by rw [CY]; exact Nat.le_refl _)
def mulR (a b : List RQ) : Nat → List RQ
 | 0 => []
 | i + 1 => DV (mulR a b i) (List.replicate i .nil ++ eZ (pA a (atR b i)))
theorem Gl (a b : List RQ) : ∀ i, (mulR a b i).length ≤ a.length + i
 | 0 => Nat.zero_le _
 | i + 1 => by
   rw [mulR]
   refine Nat.le_trans (FY _ _) ?_
   have h1 := Gl a b i
   have h2 := rP (pA a (atR b i))
   rw [pS] at h2
   rw [List.length_append, List.length_replicate]
   omega
def qA (q : List RQ) : Nat → List RQ
 | 0 => eZ [.of ((1 : Int) : Rat)]
 | i + 1 => mulR (qA q i) q q.length
theorem FH (q : List RQ) : ∀ i, (qA q i).length ≤ 1 + i * q.length
 | 0 => by rw [qA, Nat.zero_mul]; exact rP _
 | i + 1 => by
   have h1 := Gl (qA q i) q q.length
   have h2 := FH q i
   rw [qA, Nat.add_mul]
   omega
def mW (p q : List RQ) : Nat → List RQ
 | 0 => []
 | i + 1 => DV (mW p q i) (eZ (pA (qA q i) (atR p i)))
theorem Cx (p q : List RQ) : ∀ i, (mW p q i).length ≤ 1 + i * q.length
 | 0 => Nat.zero_le _
 | i + 1 => by
   have h1 := Cx p q i
   have h2 := FH q i
   have h3 := rP (pA (qA q i) (atR p i))
   rw [pS] at h3
   rw [mW, Nat.add_mul]
   refine Nat.le_trans (FY _ _) ?_
   omega
structure Xb (F : Nat) (p q : List RQ) : Prop where
 fp : ∀ x ∈ p, Fit F x.q
 fq : ∀ x ∈ q, Fit F x.q
 fw : ∀ i, i ≤ p.length → ∀ x ∈ qA q i, Fit F x.q
 fm : ∀ i, i ≤ p.length → ∀ j, j ≤ q.length → ∀ x ∈ mulR (qA q i) q j, Fit F x.q
 fc : ∀ i, i ≤ p.length → ∀ x ∈ mW p q i, Fit F x.q
end Go.Sy
namespace Go.Sy
open Go Go.Proofs Tryz Ord
def WC (e : List (List RQ)) (c : RQ) : List (List RQ) := e.map fun p => mW p [c, .of ((1 : Int) : Rat)] p.length
end Go.Sy
namespace Go.Sy
open Go Go.Proofs Tryz Ord
theorem KJ (a b : List RQ) : (DV a b).map RQ.q = uH (a.map RQ.q) (b.map RQ.q) := by
 rw [DV, mZ, uH, List.length_map, List.length_map, Ma, List.map_map]
 rfl
theorem FU (x : Rat) (a b : List RQ) : ev ((DV a b).map RQ.q) x = ev (a.map RQ.q) x + ev (b.map RQ.q) x := by rw [KJ, Ge]
theorem yU (x : Rat) (p : List RQ) (c : Rat) : ev ((eZ (pA p c)).map RQ.q) x = ev (p.map RQ.q) x * c := by
 rw [mZ, pN, pA, List.map_map, show (RQ.q ∘ fun a : RQ => RQ.of (a.q * c)) = (fun a => a * c) ∘ RQ.q from rfl, ← List.map_map, EK]
theorem FB (x : Rat) (a b : List RQ) : ∀ i, i ≤ b.length → ev ((mulR a b i).map RQ.q) x = ev (a.map RQ.q) x * ev ((b.map RQ.q).take i) x
 | 0, _ => by rw [mulR, List.take_zero]; show (0 : Rat) = _; rw [dG]; grind
 | i + 1, hi => by
   obtain ⟨z, hz⟩ : ∃ z, b[i]? = some z := ⟨_, List.getElem?_eq_getElem (by omega)⟩
   have hz' : (b.map RQ.q)[i]? = some z.q := by rw [List.getElem?_map, hz]; rfl
   rw [mulR, FU, FB x a b i (by omega), List.map_append, Ag, List.map_replicate, show RQ.q .nil = 0 from rfl, EJ, List.length_replicate, yU, Cd hz, iH hz']
   grind
theorem Fu (x : Rat) (q : List RQ) : ∀ i, ev ((qA q i).map RQ.q) x = ev (q.map RQ.q) x ^ i
 | 0 => by
   rw [qA, mZ, pN, Rat.pow_zero]
   show ev [((1 : Int) : Rat)] x = 1
   rw [bE, dG]; grind
 | i + 1 => by
   rw [qA, FB x _ q q.length (Nat.le_refl _), Fu x q i, Rat.pow_succ, List.take_of_length_le (by rw [List.length_map]; exact Nat.le_refl _)]
theorem Dk (x : Rat) (p q : List RQ) : ∀ i, i ≤ p.length → ev ((mW p q i).map RQ.q) x = ev ((p.map RQ.q).take i) (ev (q.map RQ.q) x)
 | 0, _ => by rw [mW, List.take_zero]; rfl
 | i + 1, hi => by
   obtain ⟨z, hz⟩ : ∃ z, p[i]? = some z := ⟨_, List.getElem?_eq_getElem (by omega)⟩
   have hz' : (p.map RQ.q)[i]? = some z.q := by rw [List.getElem?_map, hz]; rfl
   rw [mW, FU, Dk x p q i (by omega), yU, Fu, Cd hz, iH hz']
   grind
theorem Cy (p q : List RQ) : ∀ i, nU ((mW p q i).map RQ.q)
 | 0 => fun a h => by cases h
 | i + 1 => by rw [mW, KJ]; exact vW _ _
theorem Nj (p : List RQ) (c : RQ) : (mW p [c, .of ((1 : Int) : Rat)] p.length).map RQ.q = cV (p.map RQ.q) c.q := by
 refine JO (Cy _ _ _) (jA _ _) fun x => ?_
 rw [Dk x p _ p.length (Nat.le_refl _), List.take_of_length_le (by rw [List.length_map]; exact Nat.le_refl _), pP]
 congr 1
 show ev [c.q, ((1 : Int) : Rat)] x = _
 rw [bE, bE, dG]; grind
theorem SY (e : List (List RQ)) (c : RQ) : DM (WC e c) = (DM e).map (cV · c.q) := by
 rw [DM, WC, DM, List.map_map, List.map_map]
 exact List.map_congr_left fun p _ => Nj p c
end Go.Sy
