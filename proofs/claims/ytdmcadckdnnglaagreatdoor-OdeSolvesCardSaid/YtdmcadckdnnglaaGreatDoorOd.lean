/- OdeChecks.
-/
import Derived.Test.YtdmcadckdnnglaaGreatDoorOc
import Derived.Test.YtdmcadckdnnglaaGreatDoorQg
set_option linter.unusedVariables false
set_option linter.unusedSimpArgs false
namespace Go.Sy
open Go Go.Proofs Tryz Ord
theorem sV (x : Rat) (xs : List Rat) : trim (x :: xs) = if dL zr xs = 0 ∧ zr x = true then [] else x :: trim xs := by
 unfold trim
 simp only [dL]
 split <;> simp
theorem sF : ∀ ps : List Rat, dL zr (trim ps) = dL zr ps
 | [] => rfl
 | x :: xs => by
   have ih := sF xs
   rw [sV]
   split
   ·rename_i h; simp only [dL]; rw [if_pos h]
   ·rename_i h; simp only [dL]; rw [ih]
theorem Hd (ps : List Rat) : trim (trim ps) = trim ps := by
 have := dY ps
 show (trim ps).take (dL zr (trim ps)) = trim ps
 rw [sF]
 exact List.take_of_length_le (by omega)
theorem Hv {ps : List Rat} (h : dL zr ps = 0) (c : Rat) : iC ps c = 0 := by
 induction ps with
 | nil => rfl
 | cons x xs ih =>
   simp only [dL] at h
   split at h
   ·rename_i h'
    have hx : x = 0 := by simpa [zr] using h'.2
    show iC xs c * c + x = 0
    rw [ih h'.1, hx]; grind
   ·omega
theorem xO (c : Rat) : ∀ ps : List Rat, iC (trim ps) c = iC ps c
 | [] => rfl
 | x :: xs => by
   have ih := xO c xs
   rw [sV]
   split
   ·rename_i h
    rw [Hv (ps := x :: xs) (by simp only [dL]; rw [if_pos h])]; rfl
   ·show iC (trim xs) c * c + x = iC xs c * c + x
    rw [ih]
def yE (e e' : List (List Rat)) : Prop := e.length = e'.length ∧ ∀ (i : Nat) p p', e[i]? = some p → e'[i]? = some p' → dL zr p = dL zr p' ∧ ∀ c, iC p c = iC p' c
theorem yE.symm {e e' : List (List Rat)} (h : yE e e') : yE e' e := ⟨h.1.symm, fun i p p' h1 h2 => ⟨(h.2 i p' p h2 h1).1.symm, fun c => ((h.2 i p' p h2 h1).2 c).symm⟩⟩
theorem yE.Ua {e e' : List (List Rat)} (h : yE e e') (hk : vF e = true) : vF e' = true := by
 unfold vF at hk ⊢
 rw [decide_eq_true_iff] at hk ⊢
 obtain ⟨h1, h2, h3, h4⟩ := hk
 have hl := h.1
 refine ⟨by omega, by omega, fun p hp => ?_, fun p hp => ?_⟩
 ·obtain ⟨i, hi⟩ := List.getElem?_of_mem hp
  have hi2 := (List.getElem?_eq_some_iff.1 hi).1
  obtain ⟨p', hp'⟩ : ∃ p', e[i]? = some p' := ⟨_, List.getElem?_eq_getElem (by omega)⟩
  rw [← (h.2 i p' p hp' hi).1]
  exact h3 p' (List.mem_of_getElem? hp')
 ·rw [← hl] at hp
  obtain ⟨p', hp'⟩ : ∃ p', e[e.length - 1]? = some p' := ⟨_, List.getElem?_eq_getElem (by omega)⟩
  rw [← (h.2 _ p' p hp' hp).1]
  exact h4 p' hp'
theorem yE.vF {e e' : List (List Rat)} (h : yE e e') : vF e' = vF e := by
 cases he : Go.Sy.vF e with
 | true => exact h.Ua he
 | false =>
   cases he' : Go.Sy.vF e' with
   | false => rfl
   | true => rw [h.symm.Ua he'] at he; cases he
theorem yE.Oj {e e' : List (List Rat)} (h : yE e e') (c : Rat) (hk : pQ e c = true) : pQ e' c = true := by
 unfold pQ at hk ⊢
 rw [decide_eq_true_iff] at hk ⊢
 have hl := h.1
 intro p hp
 rw [← hl] at hp
 have hlt := (List.getElem?_eq_some_iff.1 hp).1
 obtain ⟨p', hp'⟩ : ∃ p', e[e.length - 1]? = some p' := ⟨_, List.getElem?_eq_getElem (by omega)⟩
 rw [← (h.2 _ p' p hp' hp).2]
 exact hk p' hp'
theorem yE.pQ {e e' : List (List Rat)} (h : yE e e') (c : Rat) : pQ e' c = pQ e c := by
 cases he : Go.Sy.pQ e c with
 | true => exact h.Oj c he
 | false =>
   cases he' : Go.Sy.pQ e' c with
   | false => rfl
   | true => rw [h.symm.Oj c he'] at he; cases he
theorem yE.okF {e e' : List (List Rat)} (h : yE e e') (c : Rat) (y : List Rat) : okF e' c y = okF e c y := by
 unfold Go.Sy.okF
 rw [h.vF, h.pQ, h.1]
theorem KW (l : List bH) : (mH l).map RQ.q = bR l := by
 rw [mH, bR, List.map_map]; rfl
theorem LN (n : Nat) : (CS n).map RQ.q = iE n := by
 rw [CS, iE, List.map_set, List.map_replicate]; rfl
theorem Jl (p : List (List bH)) (long : Int) : DM (Lb p long) = p.map (fun l => trim (bR l)) ++ if 0 < long then [iE (long % 50 + 1).toNat] else [] := by
 unfold DM Lb
 rw [List.map_append, List.map_map]
 congr 1
 ·refine List.map_congr_left fun l _ => ?_
  show (eZ (mH l)).map RQ.q = _
  rw [mZ, KW]
 ·split
  ·rw [List.map_cons, List.map_nil, LN]
  ·rfl
theorem NK {α : Type} (f g : α → List Rat) (hfg : ∀ a, dL zr (f a) = dL zr (g a) ∧ ∀ c, iC (f a) c = iC (g a) c) (l : List α) (r : List (List Rat)) : yE (l.map f ++ r) (l.map g ++ r) := by
 refine ⟨by simp, fun i p p' h1 h2 => ?_⟩
 rcases Nat.lt_or_ge i l.length with h | h
 ·rw [List.getElem?_append_left (by simpa using h), List.getElem?_map, List.getElem?_eq_getElem h] at h1 h2
  simp only [Option.map_some, Option.some.injEq] at h1 h2
  subst h1 h2
  exact hfg _
 ·rw [List.getElem?_append_right (by simpa using h)] at h1 h2
  rw [List.length_map] at h1 h2
  rw [h1] at h2; cases h2
  exact ⟨rfl, fun _ => rfl⟩
theorem Ur (p : List (List bH)) (long : Int) : yE (yH p long) (DM (Lb p long)) := by
 rw [Jl]
 exact NK _ _ (fun l => ⟨(sF _).symm, fun c => (xO c _).symm⟩) _ _
theorem JV (n : Nat) (hn : n ≤ 50) : (iE n).length ≤ 64 ∧ ∀ q ∈ iE n, Fit 513 q := by
 refine ⟨by simp [iE]; omega, fun q hq => ?_⟩
 rcases List.mem_or_eq_of_mem_set hq with h | rfl
 ·rw [(List.mem_replicate.1 h).2]; exact Fit.zero (by omega)
 ·exact (gW (n := 1) (by omega) (by omega)).mono (by omega)
theorem FM {l : List bH} (hl : l.length ≤ 4) (h : ∀ x ∈ l, x.In) : (bR l).length ≤ 64 ∧ ∀ q ∈ bR l, Fit 513 q := by
 refine ⟨by rw [oY]; omega, fun q hq => ?_⟩
 obtain ⟨x, hx, rfl⟩ := List.mem_map.1 hq
 exact (h x hx).PW
theorem VD {p : List (List bH)} {long : Int} (hp : TU p) (hs : fW p = true) : KZ (yH p long) ∧ KZ (DM (Lb p long)) := by
 unfold fW at hs
 rw [decide_eq_true_iff] at hs
 obtain ⟨h1, h2⟩ := hs
 have hn : (long % 50 + 1).toNat ≤ 50 := by omega
 rw [Jl]
 have hr : ∀ q ∈ (if 0 < long then [iE (long % 50 + 1).toNat] else []), q.length ≤ 64 ∧ ∀ x ∈ q, Fit 513 x := by
  intro q hq
  split at hq
  ·rw [List.mem_singleton] at hq; subst hq; exact JV _ hn
  ·cases hq
 have hrl : (if 0 < long then [iE (long % 50 + 1).toNat] else []).length ≤ 1 := by split <;> simp
 constructor
 ·refine ⟨by rw [yH, List.length_append, List.length_map]; omega, fun q hq => ?_⟩
  rcases List.mem_append.1 hq with h | h
  ·obtain ⟨l, hl, rfl⟩ := List.mem_map.1 h
   exact FM (h2 l hl).1 (hp.p l hl).2
  ·exact hr q h
 ·refine ⟨by rw [List.length_append, List.length_map]; omega, fun q hq => ?_⟩
  rcases List.mem_append.1 hq with h | h
  ·obtain ⟨l, hl, rfl⟩ := List.mem_map.1 h
   obtain ⟨k1, k2⟩ := FM (h2 l hl).1 (hp.p l hl).2
   exact ⟨by rw [dY]; have := fG (z := zr) (bR l); omega, fun x hx => k2 x (List.mem_of_mem_take hx)⟩
  ·exact hr q h
theorem MU {l : List Int} (h : eC l) (hl : l.length < 8) : (ints l).length < 1099511627776 ∧ ∀ q ∈ ints l, Fit 64 q := by
 refine ⟨by rw [ints, dY]; have := fG (z := zr) (l.map fun n : Int => (n : Rat)); rw [List.length_map] at this; omega, fun q hq => ?_⟩
 obtain ⟨n, hn, rfl⟩ := List.mem_map.1 (List.mem_of_mem_take hq)
 exact gW (h n hn).1 (h n hn).2
theorem Vt {k : Nat} {n : Int} (h1 : 1 ≤ k) (h2 : k ≤ 8) (h3 : 0 ≤ n) (h4 : n ≤ 40) : (kE k n).map trim = kE k n ∧ (kE k n).length ≤ 3 ∧ ∀ p ∈ kE k n, p.length < 1099511627776 ∧ ∀ q ∈ p, Fit 64 q := by
 have hnn : n * (n + 1) ≤ 40 * 41 := Int.mul_le_mul (a := n) (b := n + 1) (c := 40) (d := 41) (by omega) (by omega) (by omega) (by omega)
 have hn0 : 0 ≤ n * (n + 1) := Int.mul_nonneg (by omega) (by omega)
 generalize hm : n * (n + 1) = m at hnn hn0
 have ht : ∀ l, trim (ints l) = ints l := fun l => Hd _
 have ht0 : trim [] = [] := rfl
 have hz : ([] : List Rat).length < 1099511627776 ∧ ∀ q ∈ ([] : List Rat), Fit 64 q := ⟨by simp, by simp⟩
 rcases (by omega : k = 1 ∨ k = 2 ∨ k = 3 ∨ k = 4 ∨ k = 5 ∨ k = 6 ∨ k = 7 ∨ k = 8) with rfl | rfl | rfl | rfl | rfl | rfl | rfl | rfl <;>
  refine ⟨by simp only [kE, List.map_cons, List.map_nil, ht, ht0], by simp [kE], fun p hp => ?_⟩ <;>
  simp only [kE, List.mem_cons, List.not_mem_nil, or_false] at hp <;>
  (try rw [hm] at hp) <;>
  (rcases hp with rfl | rfl | rfl <;> first | exact hz | exact MU (by intro x hx; simp only [List.mem_cons, List.not_mem_nil, or_false] at hx; omega) (by simp))
end Go.Sy
