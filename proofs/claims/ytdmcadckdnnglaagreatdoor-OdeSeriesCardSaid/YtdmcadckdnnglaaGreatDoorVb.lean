/- A composition has few bits. The numbers of a small case. OdeSeries.
-/
import Derived.Test.YtdmcadckdnnglaaGreatDoorVa
import Derived.Test.YtdmcadckdnnglaaGreatDoorOd
set_option linter.unusedVariables false
set_option linter.unusedSimpArgs false
namespace Go.Sy
open Go Go.Proofs Tryz Ord
abbrev gE (D S : Nat) (p : List RQ) : Prop := ∀ x ∈ p, Bd D S x.q
theorem gE.at {D S : Nat} {p : List RQ} (h : gE D S p) (i : Nat) : Bd D S (atR p i) := by
 rw [atR, List.getD_eq_getElem?_getD, List.getElem?_map]
 cases hx : p[i]? with
 | none => exact Bd.zero
 | some x => exact h x (List.mem_of_getElem? hx)
theorem gE.trim {D S : Nat} {p : List RQ} (h : gE D S p) : gE D S (dA p) := fun x hx => h x (List.mem_of_mem_take hx)
theorem gE.add {D S T : Nat} {a b : List RQ} (h0 : D ≠ 0) (ha : gE D S a) (hb : gE D T b) : gE D (S + T) (Eb a b) := by
 refine gE.trim fun x hx => ?_
 obtain ⟨k, _, rfl⟩ := List.mem_map.1 hx
 exact (ha.at k).add h0 (hb.at k)
theorem gE.scale {D E S T : Nat} {a : List RQ} {c : Rat} (h0 : D ≠ 0) (h1 : E ≠ 0) (ha : gE D S a) (hc : Bd E T c) : gE (D * E) (S * T) (dA (dH a c)) := by
 refine gE.trim fun x hx => ?_
 obtain ⟨u, hu, rfl⟩ := List.mem_map.1 hx
 exact (ha u hu).mul h0 h1 hc
theorem gE.mono {D S E T : Nat} {p : List RQ} (h : gE D S p) (hD : D ∣ E) (hS : S ≤ T) : gE E T p := fun x hx => (h x hx).mono hD hS
theorem tU {D E S T : Nat} {a b : List RQ} (h0 : D ≠ 0) (h1 : E ≠ 0) (ha : gE D S a) (hb : gE E T b) : ∀ i, gE (D * E) (i * (S * T)) (mulR a b i)
 | 0 => fun x hx => by cases hx
 | i + 1 => by
   rw [mulR, Nat.add_mul, Nat.one_mul]
   refine (tU h0 h1 ha hb i).add (Nat.mul_ne_zero h0 h1) fun x hx => ?_
   rcases List.mem_append.1 hx with h | h
   ·rw [(List.mem_replicate.1 h).2]; exact Bd.zero
   ·exact ha.scale h0 h1 (hb.at i) x h
theorem pV {E T : Nat} {q : List RQ} (h1 : E ≠ 0) (hb : gE E T q) (hq : q.length = 2) : ∀ i, gE (E ^ i) ((2 * T) ^ i) (lV q i)
 | 0 => by
   rw [lV, Nat.pow_zero, Nat.pow_zero]
   refine gE.trim fun x hx => ?_
   rw [List.mem_singleton.1 hx]; exact Bd.int (by simp)
 | i + 1 => by
   have ih := pV h1 hb hq i
   have h := tU (Nat.pos_iff_ne_zero.1 (Nat.pow_pos (Nat.pos_of_ne_zero h1))) h1 ih hb q.length
   rw [lV, Nat.pow_succ, Nat.pow_succ]
   refine h.mono (Nat.dvd_refl _) (Nat.le_of_eq ?_)
   rw [hq]; ac_rfl
theorem qU {D E S T K : Nat} {p q : List RQ} (h0 : D ≠ 0) (h1 : E ≠ 0) (hT : 1 ≤ T) (hp : gE D S p) (hb : gE E T q) (hq : q.length = 2) : ∀ i, i ≤ K → gE (D * E ^ K) (i * (S * (2 * T) ^ K)) (fL p q i)
 | 0, _ => fun x hx => by cases hx
 | i + 1, hi => by
   have hE : 0 < E := Nat.pos_of_ne_zero h1
   rw [fL, Nat.add_mul, Nat.one_mul]
   refine (qU h0 h1 hT hp hb hq i (by omega)).add (Nat.mul_ne_zero h0 (Nat.pos_iff_ne_zero.1 (Nat.pow_pos hE))) ?_
   refine ((pV h1 hb hq i).scale (Nat.pos_iff_ne_zero.1 (Nat.pow_pos hE)) h0 (hp.at i)).mono ?_ ?_
   ·rw [Nat.mul_comm]; exact Nat.mul_dvd_mul (Nat.dvd_refl _) (Nat.pow_dvd_pow _ (by omega))
   ·rw [Nat.mul_comm S]; exact Nat.mul_le_mul_right _ (Nat.pow_le_pow_right (by omega) (by omega))
def Ah (D E S T K : Nat) : Nat := D * E ^ (K + 1) * ((K + 2) * (S * (2 * T) ^ (K + 1)))
theorem Ln {D E S T K F : Nat} {p : List RQ} {c : RQ} (h0 : D ≠ 0) (h1 : E ≠ 0) (hS : 1 ≤ S) (hT : 1 ≤ T) (hp : gE D S p) (hc : Bd E T c.q) (hK : p.length ≤ K) (hF : Ah D E S T K < 2 ^ F) : Fs F p [c, .of ((1 : Int) : Rat)] := by
 have hE : 0 < E := Nat.pos_of_ne_zero h1
 have hD : 0 < D := Nat.pos_of_ne_zero h0
 have hb : gE E T [c, .of ((1 : Int) : Rat)] := fun x hx => by
  rcases List.mem_cons.1 hx with rfl | hx
  ·exact hc
  ·rw [List.mem_singleton.1 hx]; exact Bd.int (by simpa using hT)
 have hEK : ∀ i, i ≤ K + 1 → E ^ i ≤ E ^ (K + 1) := fun i hi => Nat.pow_le_pow_right hE hi
 have hTK : ∀ i, i ≤ K + 1 → (2 * T) ^ i ≤ (2 * T) ^ (K + 1) := fun i hi => Nat.pow_le_pow_right (by omega) hi
 have big : ∀ {X Y : Nat} {x : Rat}, X ≠ 0 → Bd X Y x → X ≤ D * E ^ (K + 1) → Y ≤ (K + 2) * (S * (2 * T) ^ (K + 1)) → Fit F x := fun {X Y x} hX0 h hX hY => by
  have hV : Y * X ≤ Ah D E S T K := by
   unfold Ah
   rw [Nat.mul_comm (D * E ^ (K + 1))]
   exact Nat.mul_le_mul hY hX
  refine h.fit hX0 (Nat.lt_of_le_of_lt ?_ hF) (Nat.lt_of_le_of_lt hV hF)
  unfold Ah
  exact Nat.le_trans hX (Nat.le_mul_of_pos_right _ (Nat.mul_pos (by omega) (Nat.mul_pos hS (Nat.pow_pos (by omega)))))
 have hS1 : S ≤ S * (2 * T) ^ (K + 1) := Nat.le_mul_of_pos_right _ (Nat.pow_pos (by omega))
 have hT1 : ∀ Z, Z ≤ (2 * T) ^ (K + 1) → Z ≤ (K + 2) * (S * (2 * T) ^ (K + 1)) := fun Z hZ => Nat.le_trans hZ (Nat.le_trans (Nat.le_mul_of_pos_left _ hS) (Nat.le_mul_of_pos_left _ (by omega)))
 have hED : ∀ Z, Z ≤ E ^ (K + 1) → Z ≤ D * E ^ (K + 1) := fun Z hZ => Nat.le_trans hZ (Nat.le_mul_of_pos_left _ hD)
 refine ⟨fun x hx => big h0 (hp x hx) (Nat.le_mul_of_pos_right _ (Nat.pow_pos hE)) (Nat.le_trans hS1 (Nat.le_mul_of_pos_left _ (by omega))), fun x hx => big h1 (hb x hx) (hED _ (Nat.le_trans (Nat.le_of_eq (Nat.pow_one E).symm) (hEK 1 (by omega)))) (hT1 _ ?_), fun i hi x hx => big (Nat.pos_iff_ne_zero.1 (Nat.pow_pos hE)) (pV h1 hb rfl i x hx) (hED _ (hEK i (by omega))) (hT1 _ (hTK i (by omega))), fun i hi j hj x hx => ?_, fun i hi x hx => ?_⟩
 ·exact Nat.le_trans (by rw [Nat.pow_one]; omega : T ≤ (2 * T) ^ 1) (hTK 1 (by omega))
 ·have h := tU (Nat.pos_iff_ne_zero.1 (Nat.pow_pos hE)) h1 (pV h1 hb rfl i) hb j x hx
  refine big (Nat.mul_ne_zero (Nat.pos_iff_ne_zero.1 (Nat.pow_pos hE)) h1) h ?_ ?_
  ·rw [← Nat.pow_succ]; exact hED _ (hEK (i + 1) (by omega))
  ·refine hT1 _ (Nat.le_trans ?_ (hTK (i + 1) (by omega)))
   have hj2 : j ≤ 2 := hj
   rw [Nat.pow_succ, Nat.mul_left_comm]
   refine Nat.mul_le_mul_left _ ?_
   exact Nat.mul_le_mul_right _ hj2
 ·have h := qU (K := K) h0 h1 hT hp hb rfl i (by omega) x hx
  refine big (Nat.mul_ne_zero h0 (Nat.pos_iff_ne_zero.1 (Nat.pow_pos hE))) h (Nat.mul_le_mul_left _ (hEK K (by omega))) ?_
  exact Nat.mul_le_mul (by omega) (Nat.mul_le_mul_left _ (hTK K (by omega)))
end Go.Sy
namespace Go.Sy
open Go Go.Proofs Tryz Ord
def cJ : Nat → Nat
 | 0 => 1
 | n + 1 => Nat.lcm (cJ n) (n + 1)
theorem Aw {d : Nat} (h1 : 1 ≤ d) : ∀ {n : Nat}, d ≤ n → d ∣ cJ n
 | 0, h => by omega
 | n + 1, h => by
   rw [cJ]
   rcases Nat.lt_or_ge n d with h2 | h2
   ·rw [show d = n + 1 by omega]; exact Nat.dvd_lcm_right _ _
   ·exact Nat.dvd_trans (Aw h1 h2) (Nat.dvd_lcm_left _ _)
theorem fO : ∀ n : Nat, cJ n ≠ 0
 | 0 => by decide
 | n + 1 => fun h => by
   rw [cJ] at h
   rcases Nat.lcm_eq_zero_iff.1 h with h | h
   ·exact fO n h
   ·omega
theorem Gf {n d : Int} {N M : Nat} (hn : n.natAbs ≤ N) (h0 : d ≠ 0) (hd : d.natAbs ≤ M) : Bd (cJ M) N ((n : Rat) / (d : Rat)) := by
 have h := (Bd.int (D := 1) hn).div (by omega) (by omega) (Bd.int (D := 1) hd) (Lu h0)
 rw [Rat.num_intCast, Nat.one_mul, Nat.mul_one] at h
 exact h.mono (Aw (by omega) hd) (Nat.le_refl _)
theorem bG.bd {x : bG} {N M : Nat} (hp : x.pow % 4 = 0) (hn : x.n.natAbs ≤ N) (hd : x.d.natAbs ≤ M) (hM : 1 ≤ M) : Bd (cJ M) N x.v := by
 rw [bG.v, hp, Nat.zero_add, Rat.pow_succ, Rat.pow_zero, Rat.one_mul, bG.b]
 split
 ·exact Gf hn (by omega) (by omega)
 ·exact Gf hn (by assumption) hd
theorem bG.Mr {x : bG} (h : x.vA = true) : Bd (cJ 99) 99 x.v := by
 unfold bG.vA at h
 rw [decide_eq_true_iff] at h
 exact bG.bd h.1 (by omega) (by omega) (by omega)
theorem bG.Dz {x : bG} (h : x.short = true) : Bd (cJ 999) 999 x.v := by
 unfold bG.short at h
 rw [decide_eq_true_iff] at h
 exact bG.bd h.1 (by omega) (by omega) (by omega)
theorem Mb {l : List Int} (h : ∀ z ∈ l, z.natAbs ≤ 99) : ∀ q ∈ ints l, Bd (cJ 99) 99 q := fun q hq => by
 obtain ⟨n, hn, rfl⟩ := List.mem_map.1 (List.mem_of_mem_take hq)
 exact Bd.int (h n hn)
theorem XM {k : Nat} {n : Int} (h1 : 1 ≤ k) (h2 : k ≤ 8) (h3 : 0 ≤ n) (h4 : n ≤ 8) : ∀ p ∈ kE k n, p.length ≤ 50 ∧ ∀ q ∈ p, Bd (cJ 99) 99 q := by
 have hnn : n * (n + 1) ≤ 8 * 9 := Int.mul_le_mul (a := n) (b := n + 1) (c := 8) (d := 9) (by omega) (by omega) (by omega) (by omega)
 have hn0 : 0 ≤ n * (n + 1) := Int.mul_nonneg (by omega) (by omega)
 generalize hm : n * (n + 1) = m at hnn hn0
 have key : ∀ l : List Int, l.length ≤ 3 → (∀ z ∈ l, z.natAbs ≤ 99) → (ints l).length ≤ 50 ∧ ∀ q ∈ ints l, Bd (cJ 99) 99 q := fun l hl h => ⟨by
  rw [ints, fB]; have := fD (z := zr) (l.map fun n : Int => (n : Rat)); rw [List.length_map] at this; omega, Mb h⟩
 intro p hp
 rcases (by omega : k = 1 ∨ k = 2 ∨ k = 3 ∨ k = 4 ∨ k = 5 ∨ k = 6 ∨ k = 7 ∨ k = 8) with rfl | rfl | rfl | rfl | rfl | rfl | rfl | rfl <;>
  simp only [kE, List.mem_cons, List.not_mem_nil, or_false] at hp <;>
  (try rw [hm] at hp) <;>
  (rcases hp with rfl | rfl | rfl <;> first | exact ⟨by simp, by simp⟩ | exact key _ (by simp) (by intro z hz; simp only [List.mem_cons, List.not_mem_nil, or_false] at hz; omega))
theorem LJ (n : Nat) (hn : n ≤ 50) : (iJ n).length ≤ 50 ∧ ∀ q ∈ iJ n, Bd (cJ 99) 99 q := by
 refine ⟨by simp [iJ]; omega, fun q hq => ?_⟩
 rcases List.mem_or_eq_of_mem_set hq with h | rfl
 ·rw [(List.mem_replicate.1 h).2]; exact Bd.zero
 ·exact Bd.one (by omega)
structure eC (c : aZ) : Prop where
 e1 : HT c.E
 e2 : HT (fI c.ER)
 sim : yY c.E (fI c.ER)
 x : c.XR.q = c.X
 y : c.YR.map RQ.q = c.Y
 el : c.E.length ≤ 7
 yl : c.Y.length ≤ 6
 eb : ∀ p ∈ c.E, p.length ≤ 50 ∧ ∀ q ∈ p, Bd (cJ 99) 99 q
 rb : ∀ p ∈ fI c.ER, p.length ≤ 50 ∧ ∀ q ∈ p, Bd (cJ 99) 99 q
 xb : Bd (cJ 999) 999 c.X
 yb : ∀ q ∈ c.Y, Bd (cJ 999) 999 q
 xf : Fit 513 c.X
 yf : ∀ q ∈ c.Y, Fit 513 q
theorem yY.refl (e : List (List Rat)) : yY e e := ⟨rfl, fun i p p' h1 h2 => by rw [h1] at h2; cases h2; exact ⟨rfl, fun _ => rfl⟩⟩
theorem Tl {k : Nat} (h1 : 1 ≤ k) (h2 : k ≤ 8) : (kY k).length ≤ 6 ∧ ∀ q ∈ kY k, q = 0 ∨ q = 1 := by
 rcases (by omega : k = 1 ∨ k = 2 ∨ k = 3 ∨ k = 4 ∨ k = 5 ∨ k = 6 ∨ k = 7 ∨ k = 8) with rfl | rfl | rfl | rfl | rfl | rfl | rfl | rfl <;>
  exact ⟨by simp [kY], fun q hq => by simp only [kY, List.mem_cons, List.not_mem_nil, or_false] at hq; rcases hq with rfl | rfl <;> simp⟩
theorem Em {c : aZ} (h : c.In) (hs : c.small = true) : eC c := by
 unfold aZ.small at hs
 rw [decide_eq_true_iff] at hs
 obtain ⟨hy, hsp, hx, hyl⟩ := hs
 by_cases hk : 0 < c.kind
 ·have hkk1 : 1 ≤ c.kk := by unfold aZ.kk; omega
  have hkk8 : c.kk ≤ 8 := by unfold aZ.kk; omega
  have hnn : 0 ≤ c.nn ∧ c.nn ≤ 8 := by unfold aZ.nn; split <;> omega
  have hE : c.E = kE c.kk c.nn := by rw [aZ.E, if_pos hk]
  have hER : fI c.ER = kE c.kk c.nn := by rw [aZ.ER, if_pos hk, XC hkk1 hkk8]
  have hX : c.X = 0 := by rw [aZ.X, if_pos hk]
  have hY : c.Y = kY c.kk := by rw [aZ.Y, if_pos hk]
  obtain ⟨_, hl3, hko⟩ := VL hkk1 hkk8 hnn.1 (by omega)
  have hb := XM hkk1 hkk8 hnn.1 hnn.2
  have hes : HT (kE c.kk c.nn) := ⟨by omega, fun p hp => ⟨by have := (hb p hp).1; omega, fun q hq => ((hko p hp).2 q hq).mono (by omega)⟩⟩
  obtain ⟨hy1, hy2⟩ := Tl hkk1 hkk8
  refine ⟨hE ▸ hes, hER ▸ hes, by rw [hE, hER]; exact yY.refl _, by rw [aZ.XR, if_pos hk, hX]; rfl, by rw [aZ.YR, if_pos hk, hY]; exact VZ hkk1 hkk8, by rw [hE]; omega, by rw [hY]; exact hy1, by rw [hE]; exact hb, by rw [hER]; exact hb, by rw [hX]; exact Bd.zero, fun q hq => ?_, by rw [hX]; exact Fit.zero (by omega), fun q hq => ?_⟩
  ·rw [hY] at hq
   rcases hy2 q hq with rfl | rfl
   ·exact Bd.zero
   ·exact Bd.one (by omega)
  ·rw [hY] at hq
   rcases hy2 q hq with rfl | rfl
   ·exact Fit.zero (by omega)
   ·exact (hJ (n := 1) (by omega) (by omega)).mono (by omega)
 ·have hE : c.E = yU c.p c.long := by rw [aZ.E, if_neg hk]
  have hER : c.ER = LO c.p c.long := by rw [aZ.ER, if_neg hk]
  have hX : c.X = c.c.v := by rw [aZ.X, if_neg hk]
  have hY : c.Y = bO c.y := by rw [aZ.Y, if_neg hk]
  obtain ⟨h1, h2⟩ := UL (long := c.long) h.hp hsp
  have hsp' := hsp
  unfold gK at hsp'
  rw [decide_eq_true_iff] at hsp'
  obtain ⟨hp6, hpx⟩ := hsp'
  have hlong : ∀ p ∈ (if 0 < c.long then [iJ (c.long % 50 + 1).toNat] else []), p.length ≤ 50 ∧ ∀ q ∈ p, Bd (cJ 99) 99 q := by
   intro p hp
   split at hp
   ·rw [List.mem_singleton] at hp; subst hp; exact LJ _ (by omega)
   ·cases hp
  have hv : ∀ l ∈ c.p, (bO l).length ≤ 50 ∧ ∀ q ∈ bO l, Bd (cJ 99) 99 q := fun l hl => ⟨by rw [oH]; have := (hpx l hl).1; omega, fun q hq => by
   obtain ⟨x, hx, rfl⟩ := List.mem_map.1 hq
   exact bG.Mr ((hpx l hl).2 x hx)⟩
  refine ⟨hE ▸ h1, hER ▸ h2, by rw [hE, hER]; exact Uf _ _, by rw [aZ.XR, if_neg hk, hX]; rfl, by rw [aZ.YR, if_neg hk, hY]; exact JV _, ?_, by rw [hY, oH]; exact hyl, fun p hp => ?_, fun p hp => ?_, by rw [hX]; exact bG.Dz hx, fun q hq => ?_, by rw [hX]; exact h.hc.TB, fun q hq => ?_⟩
  ·rw [hE, yU, List.length_append, List.length_map]
   have : (if 0 < c.long then [iJ (c.long % 50 + 1).toNat] else []).length ≤ 1 := by split <;> simp
   omega
  ·rw [hE] at hp
   rcases List.mem_append.1 hp with hp | hp
   ·obtain ⟨l, hl, rfl⟩ := List.mem_map.1 hp; exact hv l hl
   ·exact hlong p hp
  ·rw [hER, Ig] at hp
   rcases List.mem_append.1 hp with hp | hp
   ·obtain ⟨l, hl, rfl⟩ := List.mem_map.1 hp
    have hvl := hv l hl
    exact ⟨by rw [fB]; have := fD (z := zr) (bO l); omega, fun q hq => hvl.2 q (List.mem_of_mem_take hq)⟩
   ·exact hlong p hp
  ·rw [hY] at hq
   obtain ⟨x, hx, rfl⟩ := List.mem_map.1 hq
   exact bG.Dz (hy x hx)
  ·rw [hY] at hq
   obtain ⟨x, hx, rfl⟩ := List.mem_map.1 hq
   exact (h.hy x hx).TB
def dM : Nat := cJ 99 * cJ 999 ^ 50
def sM : Nat := 50 * (99 * (2 * 999) ^ 50)
theorem GH : ∃ B, 64 ≤ B ∧ B ≤ 16777216 ∧ sD (cJ 99) (cJ 999) 99 999 50 < 2 ^ B ∧ Ah (cJ 99) (cJ 999) 99 999 50 < 2 ^ B ∧ ∀ m, m < 5 → zW m 30 dM sM (cJ 999) 999 101 < 2 ^ B :=
 ⟨8388608, by decide, by decide, by decide +kernel, by decide +kernel, by decide +kernel⟩
theorem Wl : dM ≠ 0 := Nat.mul_ne_zero (fO _) (Nat.pos_iff_ne_zero.1 (Nat.pow_pos (Nat.pos_of_ne_zero (fO _))))
theorem Rw : 1 ≤ sM := by decide +kernel
theorem yY.Zv {e e' : List (List Rat)} (h : yY e e') (c : Rat) : iB e c = iB e' c := by
 refine List.ext_getElem? fun i => ?_
 rw [iB, iB, List.getElem?_map, List.getElem?_map]
 rcases Nat.lt_or_ge i e.length with hi | hi
 ·obtain ⟨p, hp⟩ : ∃ p, e[i]? = some p := ⟨_, List.getElem?_eq_getElem hi⟩
  obtain ⟨p', hp'⟩ : ∃ p, e'[i]? = some p := ⟨_, List.getElem?_eq_getElem (by rw [← h.1]; exact hi)⟩
  rw [hp, hp', Option.map_some, Option.map_some]
  congr 1
  refine JD (jJ _ _) (jJ _ _) fun x => ?_
  show ev (dB p c) x = ev (dB p' c) x
  rw [pZ, pZ]
  exact (h.2 i p p' hp hp').2 _
 ·rw [List.getElem?_eq_none hi, List.getElem?_eq_none (by rw [← h.1]; exact hi)]
section
variable {c : aZ}
theorem eC.sh (h : eC c) : fI (FD c.ER c.XR) = iB c.E c.X := by rw [WE, h.x, h.sim.Zv]
theorem eC.rq (h : eC c) : ∀ p ∈ c.ER, p.length ≤ 50 ∧ gE (cJ 99) 99 p := fun p hp => by
 obtain ⟨h1, h2⟩ := h.rb _ (List.mem_map_of_mem (f := fun p : List RQ => p.map RQ.q) hp)
 rw [List.length_map] at h1
 exact ⟨h1, fun x hx => h2 _ (List.mem_map_of_mem hx)⟩
theorem eC.VV (h : eC c) : ∀ p ∈ iB c.E c.X, p.length ≤ 101 ∧ ∀ b ∈ p, Bd dM sM b := by
 rw [← h.sh]
 intro q hq
 obtain ⟨q1, hq1, rfl⟩ := List.mem_map.1 hq
 obtain ⟨p, hp, rfl⟩ := List.mem_map.1 hq1
 obtain ⟨hl, hb⟩ := h.rq p hp
 have hq2 : gE (cJ 999) 999 [c.XR, .of ((1 : Int) : Rat)] := fun x hx => by
  rcases List.mem_cons.1 hx with rfl | hx
  ·rw [h.x]; exact h.xb
  ·rw [List.mem_singleton.1 hx]; exact Bd.int (by simp)
 have hk := qU (K := 50) (fO 99) (fO 999) (by omega) hb hq2 rfl p.length hl
 refine ⟨by rw [List.length_map]; have := rK p [c.XR, .of ((1 : Int) : Rat)] p.length; simp only [List.length_cons, List.length_nil] at this; omega, fun b hb => ?_⟩
 obtain ⟨x, hx, rfl⟩ := List.mem_map.1 hb
 exact (hk x hx).le (Nat.mul_le_mul_right _ hl)
theorem eC.room (h : eC c) {B : Nat} (hB : B ≤ 16777216) (hR : sD (cJ 99) (cJ 999) 99 999 50 < 2 ^ B) : IL c.E c.X (cJ 99) (cJ 999) 99 999 50 B :=
 ⟨fO _, fO _, fun p hp => ⟨(h.eb p hp).2, (h.eb p hp).1⟩, h.xb, by omega, by omega, by omega, hR⟩
theorem wK {e : List (List Rat)} {c : Rat} (h : cH e c ≠ 0) (he : 0 < e.length) : ∃ p, (iB e c)[e.length - 1]? = some p ∧ p[0]? = some (cH e c) := by
 refine ⟨dB (e.getD (e.length - 1) []) c, ?_, ?_⟩
 ·rw [iB, List.getElem?_map, List.getD_eq_getElem?_getD, List.getElem?_eq_getElem (by omega)]; rfl
 ·unfold cH at h ⊢
  generalize dB (e.getD (e.length - 1) []) c = l at *
  cases l with
  | nil => exact absurd rfl h
  | cons x l => rfl
theorem eC.steady (h : eC c) (hok : okF c.E c.X c.Y = true) {B : Nat} (hR : ∀ m, m < 5 → zW m 30 dM sM (cJ 999) 999 101 < 2 ^ B) : nV B (iB c.E c.X) (c.E.length - 1) (cH c.E c.X) c.Y 30 := by
 obtain ⟨h2, h5, hyl, hld, _⟩ := sC hok
 have hm := h.VV
 obtain ⟨p, hp, hp0⟩ := wK hld (by omega)
 refine HS (D := dM) (S := sM) (E := cJ 999) (T := 999) (L := 101) ⟨Wl, fO _, Rw, by omega, by omega, hm, (hm p (List.mem_of_getElem? hp)).2 _ (List.mem_of_getElem? hp0), hld, h.yb, by rw [iB, List.length_map]; omega⟩ (by omega) (by omega) (hR _ (by omega))
theorem qO (h : eC c) (n : Int) (hn1 : -9223372036854775808 ≤ n) (hn2 : n < 9223372036854775808) (hn : n ≤ 30 ∨ 1500 < n) :
  aN prog 26 [fT c.E c.X c.Y, .one (.int .i64 n)] (.ret [.one (sQ (cU c.E c.X c.Y n).1), .one (.int .i64 (cU c.E c.X c.Y n).2)]) := by
 obtain ⟨B, h64, hB, hC, _, hS⟩ := GH
 exact nZ c.E c.X c.Y n _ _ _ _ _ B B 30 h.e1 h.xf (by have := h.yl; omega) hn1 hn2 (fun _ => h.room hB hC) (fun _ p hp => by have := (h.VV p hp).1; omega)
  (fun hok _ _ => ⟨h.steady hok hS, by omega, by omega, by have := (sC hok).2.1; omega⟩) (by omega) h64
theorem eC.YI (h : eC c) {B : Nat} (hR : Ah (cJ 99) (cJ 999) 99 999 50 < 2 ^ B) : ∀ p ∈ c.ER, Fs B p [c.XR, .of ((1 : Int) : Rat)] ∧ p.length ≤ 1048576 := fun p hp => by
 obtain ⟨hl, hb⟩ := h.rq p hp
 exact ⟨Ln (fO _) (fO _) (by omega) (by omega) hb (by rw [h.x]; exact h.xb) hl hR, by omega⟩
theorem eC.Zl (h : eC c) : c.ER.length ≤ 64 := by have := h.e2.l; rwa [pY] at this
theorem mK (h : eC c) : aN prog 29 [fR c.ER c.XR c.YR] (.ret [.one (eR (FD c.ER c.XR))]) := by
 obtain ⟨B, h64, hB, _, hM, _⟩ := GH
 exact Fm c.ER c.XR c.YR B (h.YI hM) (by omega) h64 (by have := h.Zl; omega)
theorem nU (h : eC c) (hok : okF c.E c.X c.Y = true) (n : Nat) (hn : n ≤ 30) :
  aN prog 28 [.one (eR (FD c.ER c.XR)), .one (sR c.YR), .one (.int .i64 n)] (.ret [.one (sR ((aW (iB c.E c.X) (c.E.length - 1) (cH c.E c.X) c.Y n).map RQ.of))]) := by
 obtain ⟨B, h64, hB, _, _, hS⟩ := GH
 obtain ⟨h2, h5, hyl, hld, _⟩ := sC hok
 obtain ⟨p, hp, hp0⟩ := wK hld (by omega)
 rw [← h.sh, fI, List.getElem?_map] at hp
 obtain ⟨p0, hp1, rfl⟩ := Option.map_eq_some_iff.1 hp
 rw [List.getElem?_map] at hp0
 obtain ⟨l, hl0, hl⟩ := Option.map_eq_some_iff.1 hp0
 have hst := h.steady hok hS
 rw [← h.sh, ← hl, ← h.y] at hst
 have hd := HC (FD c.ER c.XR) c.YR n 30 B (c.E.length - 1) l p0 hp1 hl0 (by
  rw [FD, List.length_map]; have := h.sim.1; rw [pY] at this; omega) hst hn (by omega) (by omega) (by omega) (by omega) h64 (by have := congrArg List.length h.y; rw [List.length_map] at this; omega) (fun q hq => by
   obtain ⟨p, hp, rfl⟩ := List.mem_map.1 hq
   have hl := (h.rq p hp).1
   have := rK p [c.XR, .of ((1 : Int) : Rat)] p.length
   simp only [List.length_cons, List.length_nil] at this; omega) (by rw [hl]; exact hld)
 rw [h.sh, hl, h.y] at hd
 exact hd
end
end Go.Sy
namespace Go.Sy
open Go Go.Proofs Tryz Ord
def dD : Tr := .ret [(.one (.c (.k (.bool false))))]
def FQ : Tr := .split (.u 15 0) (.need (.call 16 [] [none]) (.call ⟨.value (.func 16), #[], #[]⟩) 4 true (.ret [(W 16 0)])) dD
def FT : Tr := .split (.u 16 0) (.need (.call 16 [] [none]) (.call ⟨.value (.func 16), #[], #[]⟩) 4 true (.ret [(W 17 0)])) dD
def GB : Tr := .need (.prim [(W 15 0), (WK (0))] none) (.binOp .eql 3 (.tmp 55) (.const (I3 (0))) 3) 4 false FT
def Gs : Tr := .split (.u 17 0) (.need (.call 16 [] [none]) (.call ⟨.value (.func 16), #[], #[]⟩) 4 true (.ret [(W 18 0)])) dD
def Oo : Tr := .split (.u 15 0) (.need (.call 29 [(.agg [(U 8 0), (U 8 1), (U 8 2), (U 8 3), (U 8 4), (U 8 5)])] [none]) (.call ⟨.value (.func 29), #[(.tmp 65)], #[52]⟩) 44 false (.need (.call 28 [(W 16 0), (W 8 5), (W 6 0)] [none]) (.call ⟨.value (.func 28), #[(.tmp 66), (.tmp 68), (.tmp 69)], #[44, 50, 3]⟩) 50 false (.need (.call 27 [(W 9 0), (W 17 0)] [none]) (.call ⟨.value (.func 27), #[(.tmp 64), (.tmp 70)], #[40, 50]⟩) 4 false (.split (.u 18 0) (.need (.call 16 [] [none]) (.call ⟨.value (.func 16), #[], #[]⟩) 4 true (.ret [(W 19 0)])) dD)))) dD
def MD : Tr := .split (.u 13 0) (.need (.prim [(W 10 0), (WK (3))] none) (.binOp .eql 55 (.tmp 51) (.const (I3 (3))) 55) 4 false (.split (.u 14 0) (.need (.prim [(W 9 0)] none) (.call ⟨.builtin .len, #[(.tmp 54)], #[40]⟩) 3 false GB) dD)) (.need (.prim [(W 6 0), (WK (1500))] none) (.binOp .gtr 3 (.tmp 48) (.const (I3 (1500))) 3) 4 false (.split (.u 14 0) (.need (.prim [(W 10 0), (WK (3))] none) (.binOp .eql 55 (.tmp 51) (.const (I3 (3))) 55) 4 false (.split (.u 15 0) (.need (.prim [(W 9 0)] none) (.call ⟨.builtin .len, #[(.tmp 54)], #[40]⟩) 3 false (.need (.prim [(W 16 0), (WK (0))] none) (.binOp .eql 3 (.tmp 55) (.const (I3 (0))) 3) 4 false Gs)) dD)) (.need (.prim [(W 10 0), (WK (0))] none) (.binOp .eql 55 (.tmp 61) (.const (I3 (0))) 55) 4 false Oo)))
def OG : Tr := .need (.call 22 [(.agg [(U 8 0), (U 8 1), (U 8 2), (U 8 3), (U 8 4), (U 8 5)])] [none]) (.call ⟨.value (.func 22), #[(.tmp 32)], #[52]⟩) 4 true (.need (.prim [(W 11 0)] none) (.unOp .not 4 (.tmp 33)) 4 false (.split (.u 12 0) (.need (.prim [(W 10 0), (WK (2))] none) (.binOp .eql 55 (.tmp 35) (.const (I3 (2))) 55) 4 false (.split (.u 13 0) (.need (.prim [(W 9 0)] none) (.call ⟨.builtin .len, #[(.tmp 38)], #[40]⟩) 3 false (.need (.prim [(W 14 0), (WK (0))] none) (.binOp .eql 3 (.tmp 39) (.const (I3 (0))) 3) 4 false FQ)) dD)) (.need (.prim [(W 6 0), (WK (0))] none) (.binOp .lss 3 (.tmp 45) (.const (I3 (0))) 3) 4 false MD)))
def FM : Tr := .split (.u 14 0) (.need (.call 16 [] [none]) (.call ⟨.value (.func 16), #[], #[]⟩) 4 true (.ret [(W 15 0)])) dD
def GG : Tr := .need (.prim [(W 14 0), (WK (0))] none) (.binOp .eql 3 (.tmp 55) (.const (I3 (0))) 3) 4 false FQ
def MC : Tr := .need (.prim [(W 1 0), (WK (1500))] none) (.binOp .gtr 3 (.tmp 48) (.const (I3 (1500))) 3) 4 false (.split (.u 13 0) (.need (.prim [(W 9 0), (WK (3))] none) (.binOp .eql 55 (.tmp 51) (.const (I3 (3))) 55) 4 false (.split (.u 14 0) (.need (.prim [(W 8 0)] none) (.call ⟨.builtin .len, #[(.tmp 54)], #[40]⟩) 3 false GB) dD)) (.need (.prim [(W 9 0), (WK (0))] none) (.binOp .eql 55 (.tmp 61) (.const (I3 (0))) 55) 4 false (.split (.u 14 0) (.need (.call 29 [(.agg [(U 7 0), (U 7 1), (U 7 2), (U 7 3), (U 7 4), (U 7 5)])] [none]) (.call ⟨.value (.func 29), #[(.tmp 65)], #[52]⟩) 44 false (.need (.call 28 [(W 15 0), (W 7 5), (W 1 0)] [none]) (.call ⟨.value (.func 28), #[(.tmp 66), (.tmp 68), (.tmp 69)], #[44, 50, 3]⟩) 50 false (.need (.call 27 [(W 8 0), (W 16 0)] [none]) (.call ⟨.value (.func 27), #[(.tmp 64), (.tmp 70)], #[40, 50]⟩) 4 false Gs))) dD)))
def LY : Tr := .need (.prim [(W 10 0)] none) (.unOp .not 4 (.tmp 33)) 4 false (.split (.u 11 0) (.need (.prim [(W 9 0), (WK (2))] none) (.binOp .eql 55 (.tmp 35) (.const (I3 (2))) 55) 4 false (.split (.u 12 0) (.need (.prim [(W 8 0)] none) (.call ⟨.builtin .len, #[(.tmp 38)], #[40]⟩) 3 false (.need (.prim [(W 13 0), (WK (0))] none) (.binOp .eql 3 (.tmp 39) (.const (I3 (0))) 3) 4 false FM)) dD)) (.need (.prim [(W 1 0), (WK (0))] none) (.binOp .lss 3 (.tmp 45) (.const (I3 (0))) 3) 4 false (.split (.u 12 0) (.need (.prim [(W 9 0), (WK (3))] none) (.binOp .eql 55 (.tmp 51) (.const (I3 (3))) 55) 4 false (.split (.u 13 0) (.need (.prim [(W 8 0)] none) (.call ⟨.builtin .len, #[(.tmp 54)], #[40]⟩) 3 false GG) dD)) MC)))
def Ip : Tr := .need (.prim [(W 8 0), (WK (2))] none) (.binOp .eql 55 (.tmp 35) (.const (I3 (2))) 55) 4 false (.split (.u 11 0) (.need (.prim [(W 7 0)] none) (.call ⟨.builtin .len, #[(.tmp 38)], #[40]⟩) 3 false (.need (.prim [(W 12 0), (WK (0))] none) (.binOp .eql 3 (.tmp 39) (.const (I3 (0))) 3) 4 false (.split (.u 13 0) (.need (.call 16 [] [none]) (.call ⟨.value (.func 16), #[], #[]⟩) 4 true (.ret [(W 14 0)])) dD))) dD)
def IT : Tr := .need (.prim [(W 1 0), (WK (1500))] none) (.binOp .gtr 3 (.tmp 48) (.const (I3 (1500))) 3) 4 false (.split (.u 12 0) (.need (.prim [(W 8 0), (WK (3))] none) (.binOp .eql 55 (.tmp 51) (.const (I3 (3))) 55) 4 false (.split (.u 13 0) (.need (.prim [(W 7 0)] none) (.call ⟨.builtin .len, #[(.tmp 54)], #[40]⟩) 3 false GG) dD)) (.need (.prim [(W 8 0), (WK (0))] none) (.binOp .eql 55 (.tmp 61) (.const (I3 (0))) 55) 4 false (.split (.u 13 0) (.need (.call 29 [(.agg [(U 6 0), (U 6 1), (U 6 2), (U 6 3), (U 6 4), (U 6 5)])] [none]) (.call ⟨.value (.func 29), #[(.tmp 65)], #[52]⟩) 44 false (.need (.call 28 [(W 14 0), (W 6 5), (W 1 0)] [none]) (.call ⟨.value (.func 28), #[(.tmp 66), (.tmp 68), (.tmp 69)], #[44, 50, 3]⟩) 50 false (.need (.call 27 [(W 7 0), (W 15 0)] [none]) (.call ⟨.value (.func 27), #[(.tmp 64), (.tmp 70)], #[40, 50]⟩) 4 false FT))) dD)))
def La : Tr := .split (.u 10 0) Ip (.need (.prim [(W 1 0), (WK (0))] none) (.binOp .lss 3 (.tmp 45) (.const (I3 (0))) 3) 4 false (.split (.u 11 0) (.need (.prim [(W 8 0), (WK (3))] none) (.binOp .eql 55 (.tmp 51) (.const (I3 (3))) 55) 4 false (.split (.u 12 0) (.need (.prim [(W 7 0)] none) (.call ⟨.builtin .len, #[(.tmp 54)], #[40]⟩) 3 false (.need (.prim [(W 13 0), (WK (0))] none) (.binOp .eql 3 (.tmp 55) (.const (I3 (0))) 3) 4 false FM)) dD)) IT))
def TV : Tr := .need (.prim [(W 1 0), (WK (30))] none) (.binOp .gtr 3 (.tmp 13) (.const (I3 (30))) 3) 4 false (.split (.u 4 0) (.need (.prim [(W 1 0), (WK (1500))] none) (.binOp .leq 3 (.tmp 16) (.const (I3 (1500))) 3) 4 false (.split (.u 5 0) (.need (.prim [(W 1 0), (WK (30))] none) (.binOp .rem 3 (.tmp 19) (.const (I3 (30))) 3) 3 false (.need (.call 17 [(.agg [(U 0 0), (U 0 1), (U 0 2), (U 0 3), (U 0 4), (U 0 5), (U 0 6), (U 0 7)])] [(some 5), (some 6)]) (.call ⟨.value (.func 17), #[(.tmp 22)], #[29]⟩) 53 false (.need (.call 26 [(.agg [(U 7 0), (U 7 1), (U 7 2), (U 7 3), (U 7 4)]), (W 6 0)] [none, none]) (.call ⟨.value (.func 26), #[(.tmp 27), (.tmp 28)], #[42, 3]⟩) 66 false OG))) (.need (.call 17 [(.agg [(U 0 0), (U 0 1), (U 0 2), (U 0 3), (U 0 4), (U 0 5), (U 0 6), (U 0 7)])] [(some 5), (some 6)]) (.call ⟨.value (.func 17), #[(.tmp 22)], #[29]⟩) 53 false (.need (.call 26 [(.agg [(U 6 0), (U 6 1), (U 6 2), (U 6 3), (U 6 4)]), (W 1 0)] [none, none]) (.call ⟨.value (.func 26), #[(.tmp 27), (.tmp 28)], #[42, 3]⟩) 66 false (.need (.call 22 [(.agg [(U 7 0), (U 7 1), (U 7 2), (U 7 3), (U 7 4), (U 7 5)])] [none]) (.call ⟨.value (.func 22), #[(.tmp 32)], #[52]⟩) 4 true LY))))) (.need (.call 17 [(.agg [(U 0 0), (U 0 1), (U 0 2), (U 0 3), (U 0 4), (U 0 5), (U 0 6), (U 0 7)])] [(some 5), (some 6)]) (.call ⟨.value (.func 17), #[(.tmp 22)], #[29]⟩) 53 false (.need (.call 26 [(.agg [(U 5 0), (U 5 1), (U 5 2), (U 5 3), (U 5 4)]), (W 1 0)] [none, none]) (.call ⟨.value (.func 26), #[(.tmp 27), (.tmp 28)], #[42, 3]⟩) 66 false (.need (.call 22 [(.agg [(U 6 0), (U 6 1), (U 6 2), (U 6 3), (U 6 4), (U 6 5)])] [none]) (.call ⟨.value (.func 22), #[(.tmp 32)], #[52]⟩) 4 true (.need (.prim [(W 9 0)] none) (.unOp .not 4 (.tmp 33)) 4 false La)))))
def QO : Tr := .need (.call 15 [(.agg [(U 0 0), (U 0 1), (U 0 2), (U 0 3), (U 0 4), (U 0 5), (U 0 6), (U 0 7)])] [none]) (.call ⟨.value (.func 15), #[(.tmp 9)], #[29]⟩) 4 true (.need (.prim [(W 2 0)] none) (.unOp .not 4 (.tmp 10)) 4 false (.split (.u 3 0) (.need (.call 16 [] [none]) (.call ⟨.value (.func 16), #[], #[]⟩) 4 true (.ret [(W 4 0)])) TV))
theorem Bi : aM prog f4 (fun _ => none) [.v (some 8), .v none] = QO := by kernel_rfl
theorem Ic (l : List Rat) : (l.map RQ.of).map RQ.q = l := by
 rw [List.map_map]; exact (List.map_congr_left fun x _ => rfl).trans (List.map_id l)
theorem oQ {c : aZ} (h : eC c) (hok : okF c.E c.X c.Y = true) (k : Nat) (hk : k ≤ 30) :
  aN prog 27 [.one (sQ (aW (iB c.E c.X) (c.E.length - 1) (cH c.E c.X) c.Y k)), .one (sR ((aW (iB c.E c.X) (c.E.length - 1) (cH c.E c.X) c.Y k).map RQ.of))] (.ret [.one (.bool true)]) := by
 obtain ⟨B, h64, hB, _, _, hS⟩ := GH
 have hst := h.steady hok hS
 have hl := bU (iB c.E c.X) (c.E.length - 1) (cH c.E c.X) c.Y k
 have hd := Ld (aW (iB c.E c.X) (c.E.length - 1) (cH c.E c.X) c.Y k) ((aW (iB c.E c.X) (c.E.length - 1) (cH c.E c.X) c.Y k).map RQ.of) B (fun q hq => Bu hst hk hq) (fun q hq => by
  obtain ⟨x, hx, rfl⟩ := List.mem_map.1 hq
  exact Bu hst hk hx) (by omega) (by omega) (by rw [List.length_map]; omega)
 rw [decide_eq_true (Ic _).symm] at hd
 exact hd
theorem pD {c : aZ} (h : eC c) : aN prog 22 [fR c.ER c.XR c.YR] (.ret [.one (.bool (okF c.E c.X c.Y))]) := by
 have hd := LN c.ER c.XR c.YR h.e2 (by rw [h.x]; exact h.xf) (by have := congrArg List.length h.y; rw [List.length_map] at this; have := h.yl; omega)
 have e : okF (fI c.ER) c.XR.q (c.YR.map RQ.q) = okF c.E c.X c.Y := by rw [h.y, h.x, h.sim.okF]
 rw [e] at hd
 exact hd
set_option maxHeartbeats 4000000 in
theorem BQ (c : aZ) (h : c.In) (n : Int) (hn1 : -9223372036854775808 ≤ n) (hn2 : n < 9223372036854775808) : aN prog 4 [(Ua c : aH), (.one (.int .i64 n) : aH)] (.ret [.one (.bool true)]) := by
 refine aD (args := [.v (some 8), .v none]) (ins := [.v (Ua c), .v (.one (.int .i64 n))]) (hints := (fun _ => none)) fo (by kernel_rfl) func4 ⟨rfl, rfl, trivial⟩ ?_
 rw [Bi]
 dsimp only [List.map, In.env, aA, aB]
 have hS := Io c h
 have hB := fun hs => Mj c h hs
 refine aC hS rfl ?_
 dsimp only [aA, aB]
 refine vn qE rfl ?_
 dsimp only [aA, aB]
 refine uB (!c.small) rfl (fun h2 => ?_) (fun h2 => ?_)
 ·refine aC dX rfl ?_
  dsimp only [aA, aB]
  exact aJ rfl
 have hs0 : c.small = true := by cases hh : c.small <;> simp_all
 have hC := Em h hs0
 refine vn cT rfl ?_
 dsimp only [aA, aB]
 refine vs _ rfl (fun h6 => ?_) (fun h6 => ?_)
 ·refine vn jA rfl ?_
  dsimp only [aA, aB]
  refine vs _ rfl (fun h8 => ?_) (fun h8 => ?_)
  ·refine vn (dI (by omega) (by omega)) rfl ?_
   dsimp only [aA, aB]
   obtain ⟨r, hr⟩ : ∃ r, r = n % 30 := ⟨_, rfl⟩
   rw [← hr]
   refine aC (hB hs0) rfl ?_
   dsimp only [aA, aB]
   refine aC (qO hC r (by omega) (by omega) (by omega)) rfl ?_
   dsimp only [aA, aB]
   refine aC (pD hC) rfl ?_
   dsimp only [aA, aB]
   refine vn qE rfl ?_
   dsimp only [aA, aB]
   refine uB (!okF c.E c.X c.Y) rfl (fun hq => ?_) (fun hq => ?_)
   ·rw [show cU c.E c.X c.Y r = ([], 2) by rw [cU, if_neg (by simpa using hq)]]
    dsimp only
    refine vn aX rfl ?_
    dsimp only [aA, aB]
    refine vs _ rfl (fun h16 => ?_) (fun h16 => ?_)
    ·refine vn (aK nR (List.length_map _)) rfl ?_
     dsimp only [aA, aB]
     refine vn aX rfl ?_
     dsimp only [aA, aB]
     refine vs _ rfl (fun h19 => ?_) (fun h19 => ?_)
     ·refine aC dX rfl ?_
      dsimp only [aA, aB]
      exact aJ rfl
     exact absurd rfl h19
    exact absurd rfl h16
   have hok : okF c.E c.X c.Y = true := by simpa using hq
   refine vn aU rfl ?_
   dsimp only [aA, aB]
   refine vs _ rfl (fun h25 => ?_) (fun h25 => ?_)
   ·rw [show cU c.E c.X c.Y r = ([], 3) by rw [cU, if_pos hok, if_neg (by omega)]]
    dsimp only
    refine vn aX rfl ?_
    dsimp only [aA, aB]
    refine vs _ rfl (fun h27 => ?_) (fun h27 => ?_)
    ·refine vn (aK nR (List.length_map _)) rfl ?_
     dsimp only [aA, aB]
     refine vn aX rfl ?_
     dsimp only [aA, aB]
     refine vs _ rfl (fun h30 => ?_) (fun h30 => ?_)
     ·refine aC dX rfl ?_
      dsimp only [aA, aB]
      exact aJ rfl
     exact absurd rfl h30
    exact absurd rfl h27
   refine vn cT rfl ?_
   dsimp only [aA, aB]
   refine vs _ rfl (fun h36 => ?_) (fun h36 => ?_)
   ·rw [show cU c.E c.X c.Y r = ([], 3) by rw [cU, if_pos hok, if_neg (by omega)]]
    dsimp only
    refine vn aX rfl ?_
    dsimp only [aA, aB]
    refine vs _ rfl (fun h38 => ?_) (fun h38 => ?_)
    ·refine vn (aK nR (List.length_map _)) rfl ?_
     dsimp only [aA, aB]
     refine vn aX rfl ?_
     dsimp only [aA, aB]
     refine vs _ rfl (fun h41 => ?_) (fun h41 => ?_)
     ·refine aC dX rfl ?_
      dsimp only [aA, aB]
      exact aJ rfl
     exact absurd rfl h41
    exact absurd rfl h38
   obtain ⟨k, hk⟩ : ∃ k : Nat, r = (k : Int) := ⟨r.toNat, by omega⟩
   rw [show cU c.E c.X c.Y r = (aW (iB c.E c.X) (c.E.length - 1) (cH c.E c.X) c.Y k, 0) by rw [cU, if_pos hok, if_pos (by omega), hk, Int.toNat_natCast], hk]
   dsimp only
   refine vn aX rfl ?_
   dsimp only [aA, aB]
   refine vs _ rfl (fun h47 => ?_) (fun h47 => ?_)
   ·refine aC (mK hC) rfl ?_
    dsimp only [aA, aB]
    refine aC (nU hC hok k (by omega)) rfl ?_
    dsimp only [aA, aB]
    refine aC (oQ hC hok k (by omega)) rfl ?_
    dsimp only [aA, aB]
    refine uB true rfl (fun _ => ?_) (fun h => by cases h)
    refine aC dX rfl ?_
    dsimp only [aA, aB]
    exact aJ rfl
   exact absurd rfl h47
  obtain ⟨r, hr⟩ : ∃ r, r = n := ⟨_, rfl⟩
  rw [← hr]
  refine aC (hB hs0) rfl ?_
  dsimp only [aA, aB]
  refine aC (qO hC r (by omega) (by omega) (by omega)) rfl ?_
  dsimp only [aA, aB]
  refine aC (pD hC) rfl ?_
  dsimp only [aA, aB]
  refine vn qE rfl ?_
  dsimp only [aA, aB]
  refine uB (!okF c.E c.X c.Y) rfl (fun hq => ?_) (fun hq => ?_)
  ·rw [show cU c.E c.X c.Y r = ([], 2) by rw [cU, if_neg (by simpa using hq)]]
   dsimp only
   refine vn aX rfl ?_
   dsimp only [aA, aB]
   refine vs _ rfl (fun h62 => ?_) (fun h62 => ?_)
   ·refine vn (aK nR (List.length_map _)) rfl ?_
    dsimp only [aA, aB]
    refine vn aX rfl ?_
    dsimp only [aA, aB]
    refine vs _ rfl (fun h65 => ?_) (fun h65 => ?_)
    ·refine aC dX rfl ?_
     dsimp only [aA, aB]
     exact aJ rfl
    exact absurd rfl h65
   exact absurd rfl h62
  have hok : okF c.E c.X c.Y = true := by simpa using hq
  refine vn aU rfl ?_
  dsimp only [aA, aB]
  refine vs _ rfl (fun h71 => ?_) (fun h71 => ?_)
  ·rw [show cU c.E c.X c.Y r = ([], 3) by rw [cU, if_pos hok, if_neg (by omega)]]
   dsimp only
   refine vn aX rfl ?_
   dsimp only [aA, aB]
   refine vs _ rfl (fun h73 => ?_) (fun h73 => ?_)
   ·refine vn (aK nR (List.length_map _)) rfl ?_
    dsimp only [aA, aB]
    refine vn aX rfl ?_
    dsimp only [aA, aB]
    refine vs _ rfl (fun h76 => ?_) (fun h76 => ?_)
    ·refine aC dX rfl ?_
     dsimp only [aA, aB]
     exact aJ rfl
    exact absurd rfl h76
   exact absurd rfl h73
  refine vn cT rfl ?_
  dsimp only [aA, aB]
  refine vs _ rfl (fun h82 => ?_) (fun h82 => ?_)
  ·rw [show cU c.E c.X c.Y r = ([], 3) by rw [cU, if_pos hok, if_neg (by omega)]]
   dsimp only
   refine vn aX rfl ?_
   dsimp only [aA, aB]
   refine vs _ rfl (fun h84 => ?_) (fun h84 => ?_)
   ·refine vn (aK nR (List.length_map _)) rfl ?_
    dsimp only [aA, aB]
    refine vn aX rfl ?_
    dsimp only [aA, aB]
    refine vs _ rfl (fun h87 => ?_) (fun h87 => ?_)
    ·refine aC dX rfl ?_
     dsimp only [aA, aB]
     exact aJ rfl
    exact absurd rfl h87
   exact absurd rfl h84
  obtain ⟨k, hk⟩ : ∃ k : Nat, r = (k : Int) := ⟨r.toNat, by omega⟩
  rw [show cU c.E c.X c.Y r = (aW (iB c.E c.X) (c.E.length - 1) (cH c.E c.X) c.Y k, 0) by rw [cU, if_pos hok, if_pos (by omega), hk, Int.toNat_natCast], hk]
  dsimp only
  refine vn aX rfl ?_
  dsimp only [aA, aB]
  refine vs _ rfl (fun h93 => ?_) (fun h93 => ?_)
  ·refine aC (mK hC) rfl ?_
   dsimp only [aA, aB]
   refine aC (nU hC hok k (by omega)) rfl ?_
   dsimp only [aA, aB]
   refine aC (oQ hC hok k (by omega)) rfl ?_
   dsimp only [aA, aB]
   refine uB true rfl (fun _ => ?_) (fun h => by cases h)
   refine aC dX rfl ?_
   dsimp only [aA, aB]
   exact aJ rfl
  exact absurd rfl h93
 obtain ⟨r, hr⟩ : ∃ r, r = n := ⟨_, rfl⟩
 rw [← hr]
 refine aC (hB hs0) rfl ?_
 dsimp only [aA, aB]
 refine aC (qO hC r (by omega) (by omega) (by omega)) rfl ?_
 dsimp only [aA, aB]
 refine aC (pD hC) rfl ?_
 dsimp only [aA, aB]
 refine vn qE rfl ?_
 dsimp only [aA, aB]
 refine uB (!okF c.E c.X c.Y) rfl (fun hq => ?_) (fun hq => ?_)
 ·rw [show cU c.E c.X c.Y r = ([], 2) by rw [cU, if_neg (by simpa using hq)]]
  dsimp only
  refine vn aX rfl ?_
  dsimp only [aA, aB]
  refine vs _ rfl (fun h108 => ?_) (fun h108 => ?_)
  ·refine vn (aK nR (List.length_map _)) rfl ?_
   dsimp only [aA, aB]
   refine vn aX rfl ?_
   dsimp only [aA, aB]
   refine vs _ rfl (fun h111 => ?_) (fun h111 => ?_)
   ·refine aC dX rfl ?_
    dsimp only [aA, aB]
    exact aJ rfl
   exact absurd rfl h111
  exact absurd rfl h108
 have hok : okF c.E c.X c.Y = true := by simpa using hq
 refine vn aU rfl ?_
 dsimp only [aA, aB]
 refine vs _ rfl (fun h117 => ?_) (fun h117 => ?_)
 ·rw [show cU c.E c.X c.Y r = ([], 3) by rw [cU, if_pos hok, if_neg (by omega)]]
  dsimp only
  refine vn aX rfl ?_
  dsimp only [aA, aB]
  refine vs _ rfl (fun h119 => ?_) (fun h119 => ?_)
  ·refine vn (aK nR (List.length_map _)) rfl ?_
   dsimp only [aA, aB]
   refine vn aX rfl ?_
   dsimp only [aA, aB]
   refine vs _ rfl (fun h122 => ?_) (fun h122 => ?_)
   ·refine aC dX rfl ?_
    dsimp only [aA, aB]
    exact aJ rfl
   exact absurd rfl h122
  exact absurd rfl h119
 refine vn cT rfl ?_
 dsimp only [aA, aB]
 refine vs _ rfl (fun h128 => ?_) (fun h128 => ?_)
 ·rw [show cU c.E c.X c.Y r = ([], 3) by rw [cU, if_pos hok, if_neg (by omega)]]
  dsimp only
  refine vn aX rfl ?_
  dsimp only [aA, aB]
  refine vs _ rfl (fun h130 => ?_) (fun h130 => ?_)
  ·refine vn (aK nR (List.length_map _)) rfl ?_
   dsimp only [aA, aB]
   refine vn aX rfl ?_
   dsimp only [aA, aB]
   refine vs _ rfl (fun h133 => ?_) (fun h133 => ?_)
   ·refine aC dX rfl ?_
    dsimp only [aA, aB]
    exact aJ rfl
   exact absurd rfl h133
  exact absurd rfl h130
 obtain ⟨k, hk⟩ : ∃ k : Nat, r = (k : Int) := ⟨r.toNat, by omega⟩
 rw [show cU c.E c.X c.Y r = (aW (iB c.E c.X) (c.E.length - 1) (cH c.E c.X) c.Y k, 0) by rw [cU, if_pos hok, if_pos (by omega), hk, Int.toNat_natCast], hk]
 dsimp only
 refine vn aX rfl ?_
 dsimp only [aA, aB]
 refine vs _ rfl (fun h139 => ?_) (fun h139 => ?_)
 ·refine aC (mK hC) rfl ?_
  dsimp only [aA, aB]
  refine aC (nU hC hok k (by omega)) rfl ?_
  dsimp only [aA, aB]
  refine aC (oQ hC hok k (by omega)) rfl ?_
  dsimp only [aA, aB]
  refine uB true rfl (fun _ => ?_) (fun h => by cases h)
  refine aC dX rfl ?_
  dsimp only [aA, aB]
  exact aJ rfl
 exact absurd rfl h139
end Go.Sy
