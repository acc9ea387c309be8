/- OdeChecks.
-/
import Derived.Test.YtdmcadckdnnglaaGreatDoorOc
import Derived.Test.YtdmcadckdnnglaaGreatDoorQg
set_option linter.unusedVariables false
set_option linter.unusedSimpArgs false
namespace Go.Sy
open Go Go.Proofs Tryz Ord
theorem Av (x : Rat) (xs : List Rat) : trim (x :: xs) = if cW zr xs = 0 ∧ zr x = true then [] else x :: trim xs := by
 unfold trim
 simp only [cW]
 split <;> simp
theorem tM : ∀ ps : List Rat, cW zr (trim ps) = cW zr ps
 | [] => rfl
 | x :: xs => by
   have ih := tM xs
   rw [Av]
   split
   ·rename_i h; simp only [cW]; rw [if_pos h]
   ·rename_i h; simp only [cW]; rw [ih]
theorem HD (ps : List Rat) : trim (trim ps) = trim ps := by
 have := fB ps
 show (trim ps).take (cW zr (trim ps)) = trim ps
 rw [tM]
 exact List.take_of_length_le (by omega)
theorem Hy {ps : List Rat} (h : cW zr ps = 0) (c : Rat) : dK ps c = 0 := by
 induction ps with
 | nil => rfl
 | cons x xs ih =>
   simp only [cW] at h
   split at h
   ·rename_i h'
    have hx : x = 0 := by simpa [zr] using h'.2
    show dK xs c * c + x = 0
    rw [ih h'.1, hx]; grind
   ·omega
theorem yL (c : Rat) : ∀ ps : List Rat, dK (trim ps) c = dK ps c
 | [] => rfl
 | x :: xs => by
   have ih := yL c xs
   rw [Av]
   split
   ·rename_i h
    rw [Hy (ps := x :: xs) (by simp only [cW]; rw [if_pos h])]; rfl
   ·show dK (trim xs) c * c + x = dK xs c * c + x
    rw [ih]
def yY (e e' : List (List Rat)) : Prop := e.length = e'.length ∧ ∀ (i : Nat) p p', e[i]? = some p → e'[i]? = some p' → cW zr p = cW zr p' ∧ ∀ c, dK p c = dK p' c
theorem yY.symm {e e' : List (List Rat)} (h : yY e e') : yY e' e := ⟨h.1.symm, fun i p p' h1 h2 => ⟨(h.2 i p' p h2 h1).1.symm, fun c => ((h.2 i p' p h2 h1).2 c).symm⟩⟩
theorem yY.Wj {e e' : List (List Rat)} (h : yY e e') (hk : pE e = true) : pE e' = true := by
 unfold pE at hk ⊢
 rw [decide_eq_true_iff] at hk ⊢
 obtain ⟨h1, h2, h3, h4⟩ := hk
 have hl := h.1
 refine ⟨by omega, by omega, fun p hp => ?_, fun p hp => ?_⟩
 ·obtain ⟨i, hi⟩ := List.getElem?_of_mem hp
  have hi2 := (List.getElem?_eq_some_iff.1 hi).1
  obtain ⟨p', hp'⟩ : ∃ p', e[i]? = some p' := ⟨_, List.getElem?_eq_getElem (by omega)⟩
  rw [← (h.2 i p' p hp' hi).1]
  exact h3 p' (List.mem_of_getElem? hp')
 ·rw [← hl] at hp
  obtain ⟨p', hp'⟩ : ∃ p', e[e.length - 1]? = some p' := ⟨_, List.getElem?_eq_getElem (by omega)⟩
  rw [← (h.2 _ p' p hp' hp).1]
  exact h4 p' hp'
theorem yY.pE {e e' : List (List Rat)} (h : yY e e') : pE e' = pE e := by
 cases he : Go.Sy.pE e with
 | true => exact h.Wj he
 | false =>
   cases he' : Go.Sy.pE e' with
   | false => rfl
   | true => rw [h.symm.Wj he'] at he; cases he
theorem yY.Ph {e e' : List (List Rat)} (h : yY e e') (c : Rat) (hk : mZ e c = true) : mZ e' c = true := by
 unfold mZ at hk ⊢
 rw [decide_eq_true_iff] at hk ⊢
 have hl := h.1
 intro p hp
 rw [← hl] at hp
 have hlt := (List.getElem?_eq_some_iff.1 hp).1
 obtain ⟨p', hp'⟩ : ∃ p', e[e.length - 1]? = some p' := ⟨_, List.getElem?_eq_getElem (by omega)⟩
 rw [← (h.2 _ p' p hp' hp).2]
 exact hk p' hp'
theorem yY.mZ {e e' : List (List Rat)} (h : yY e e') (c : Rat) : mZ e' c = mZ e c := by
 cases he : Go.Sy.mZ e c with
 | true => exact h.Ph c he
 | false =>
   cases he' : Go.Sy.mZ e' c with
   | false => rfl
   | true => rw [h.symm.Ph c he'] at he; cases he
theorem yY.okF {e e' : List (List Rat)} (h : yY e e') (c : Rat) (y : List Rat) : okF e' c y = okF e c y := by
 unfold Go.Sy.okF
 rw [h.pE, h.mZ, h.1]
theorem JV (l : List bG) : (nE l).map RQ.q = bO l := by
 rw [nE, bO, List.map_map]; rfl
theorem OC (n : Nat) : (Cc n).map RQ.q = iJ n := by
 rw [Cc, iJ, List.map_set, List.map_replicate]; rfl
theorem Ig (p : List (List bG)) (long : Int) : fI (LO p long) = p.map (fun l => trim (bO l)) ++ if 0 < long then [iJ (long % 50 + 1).toNat] else [] := by
 unfold fI LO
 rw [List.map_append, List.map_map]
 congr 1
 ·refine List.map_congr_left fun l _ => ?_
  show (dA (nE l)).map RQ.q = _
  rw [mO, JV]
 ·split
  ·rw [List.map_cons, List.map_nil, OC]
  ·rfl
theorem NH {α : Type} (f g : α → List Rat) (hfg : ∀ a, cW zr (f a) = cW zr (g a) ∧ ∀ c, dK (f a) c = dK (g a) c) (l : List α) (r : List (List Rat)) : yY (l.map f ++ r) (l.map g ++ r) := by
 refine ⟨by simp, fun i p p' h1 h2 => ?_⟩
 rcases Nat.lt_or_ge i l.length with h | h
 ·rw [List.getElem?_append_left (by simpa using h), List.getElem?_map, List.getElem?_eq_getElem h] at h1 h2
  simp only [Option.map_some, Option.some.injEq] at h1 h2
  subst h1 h2
  exact hfg _
 ·rw [List.getElem?_append_right (by simpa using h)] at h1 h2
  rw [List.length_map] at h1 h2
  rw [h1] at h2; cases h2
  exact ⟨rfl, fun _ => rfl⟩
theorem Uf (p : List (List bG)) (long : Int) : yY (yU p long) (fI (LO p long)) := by
 rw [Ig]
 exact NH _ _ (fun l => ⟨(tM _).symm, fun c => (yL c _).symm⟩) _ _
theorem Jz (n : Nat) (hn : n ≤ 50) : (iJ n).length ≤ 64 ∧ ∀ q ∈ iJ n, Fit 513 q := by
 refine ⟨by simp [iJ]; omega, fun q hq => ?_⟩
 rcases List.mem_or_eq_of_mem_set hq with h | rfl
 ·rw [(List.mem_replicate.1 h).2]; exact Fit.zero (by omega)
 ·exact (hJ (n := 1) (by omega) (by omega)).mono (by omega)
theorem Gp {l : List bG} (hl : l.length ≤ 4) (h : ∀ x ∈ l, x.In) : (bO l).length ≤ 64 ∧ ∀ q ∈ bO l, Fit 513 q := by
 refine ⟨by rw [oH]; omega, fun q hq => ?_⟩
 obtain ⟨x, hx, rfl⟩ := List.mem_map.1 hq
 exact (h x hx).TB
theorem UL {p : List (List bG)} {long : Int} (hp : XK p) (hs : gK p = true) : HT (yU p long) ∧ HT (fI (LO p long)) := by
 unfold gK at hs
 rw [decide_eq_true_iff] at hs
 obtain ⟨h1, h2⟩ := hs
 have hn : (long % 50 + 1).toNat ≤ 50 := by omega
 rw [Ig]
 have hr : ∀ q ∈ (if 0 < long then [iJ (long % 50 + 1).toNat] else []), q.length ≤ 64 ∧ ∀ x ∈ q, Fit 513 x := by
  intro q hq
  split at hq
  ·rw [List.mem_singleton] at hq; subst hq; exact Jz _ hn
  ·cases hq
 have hrl : (if 0 < long then [iJ (long % 50 + 1).toNat] else []).length ≤ 1 := by split <;> simp
 constructor
 ·refine ⟨by rw [yU, List.length_append, List.length_map]; omega, fun q hq => ?_⟩
  rcases List.mem_append.1 hq with h | h
  ·obtain ⟨l, hl, rfl⟩ := List.mem_map.1 h
   exact Gp (h2 l hl).1 (hp.p l hl).2
  ·exact hr q h
 ·refine ⟨by rw [List.length_append, List.length_map]; omega, fun q hq => ?_⟩
  rcases List.mem_append.1 hq with h | h
  ·obtain ⟨l, hl, rfl⟩ := List.mem_map.1 h
   obtain ⟨k1, k2⟩ := Gp (h2 l hl).1 (hp.p l hl).2
   exact ⟨by rw [fB]; have := fD (z := zr) (bO l); omega, fun x hx => k2 x (List.mem_of_mem_take hx)⟩
  ·exact hr q h
theorem MK {l : List Int} (h : eG l) (hl : l.length < 8) : (ints l).length < 1099511627776 ∧ ∀ q ∈ ints l, Fit 64 q := by
 refine ⟨by rw [ints, fB]; have := fD (z := zr) (l.map fun n : Int => (n : Rat)); rw [List.length_map] at this; omega, fun q hq => ?_⟩
 obtain ⟨n, hn, rfl⟩ := List.mem_map.1 (List.mem_of_mem_take hq)
 exact hJ (h n hn).1 (h n hn).2
theorem VL {k : Nat} {n : Int} (h1 : 1 ≤ k) (h2 : k ≤ 8) (h3 : 0 ≤ n) (h4 : n ≤ 40) : (kE k n).map trim = kE k n ∧ (kE k n).length ≤ 3 ∧ ∀ p ∈ kE k n, p.length < 1099511627776 ∧ ∀ q ∈ p, Fit 64 q := by
 have hnn : n * (n + 1) ≤ 40 * 41 := Int.mul_le_mul (a := n) (b := n + 1) (c := 40) (d := 41) (by omega) (by omega) (by omega) (by omega)
 have hn0 : 0 ≤ n * (n + 1) := Int.mul_nonneg (by omega) (by omega)
 generalize hm : n * (n + 1) = m at hnn hn0
 have ht : ∀ l, trim (ints l) = ints l := fun l => HD _
 have ht0 : trim [] = [] := rfl
 have hz : ([] : List Rat).length < 1099511627776 ∧ ∀ q ∈ ([] : List Rat), Fit 64 q := ⟨by simp, by simp⟩
 rcases (by omega : k = 1 ∨ k = 2 ∨ k = 3 ∨ k = 4 ∨ k = 5 ∨ k = 6 ∨ k = 7 ∨ k = 8) with rfl | rfl | rfl | rfl | rfl | rfl | rfl | rfl <;>
  refine ⟨by simp only [kE, List.map_cons, List.map_nil, ht, ht0], by simp [kE], fun p hp => ?_⟩ <;>
  simp only [kE, List.mem_cons, List.not_mem_nil, or_false] at hp <;>
  (try rw [hm] at hp) <;>
  (rcases hp with rfl | rfl | rfl <;> first | exact hz | exact MK (by intro x hx; simp only [List.mem_cons, List.not_mem_nil, or_false] at hx; omega) (by simp))
end Go.Sy
