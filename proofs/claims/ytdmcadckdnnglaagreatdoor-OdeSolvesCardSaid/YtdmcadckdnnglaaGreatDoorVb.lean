/- A composition has few bits. The numbers of a small case.
-/
import Derived.Test.YtdmcadckdnnglaaGreatDoorVa
import Derived.Test.YtdmcadckdnnglaaGreatDoorOd
set_option linter.unusedVariables false
set_option linter.unusedSimpArgs false
namespace Go.Sy
open Go Go.Proofs Tryz Ord
abbrev gJ (D S : Nat) (p : List RQ) : Prop := ∀ x ∈ p, Bd D S x.q
theorem gJ.at {D S : Nat} {p : List RQ} (h : gJ D S p) (i : Nat) : Bd D S (atR p i) := by
 rw [atR, List.getD_eq_getElem?_getD, List.getElem?_map]
 cases hx : p[i]? with
 | none => exact Bd.zero
 | some x => exact h x (List.mem_of_getElem? hx)
theorem gJ.trim {D S : Nat} {p : List RQ} (h : gJ D S p) : gJ D S (eZ p) := fun x hx => h x (List.mem_of_mem_take hx)
theorem gJ.add {D S T : Nat} {a b : List RQ} (h0 : D ≠ 0) (ha : gJ D S a) (hb : gJ D T b) : gJ D (S + T) (DV a b) := by
 refine gJ.trim fun x hx => ?_
 obtain ⟨k, _, rfl⟩ := List.mem_map.1 hx
 exact (ha.at k).add h0 (hb.at k)
theorem gJ.scale {D E S T : Nat} {a : List RQ} {c : Rat} (h0 : D ≠ 0) (h1 : E ≠ 0) (ha : gJ D S a) (hc : Bd E T c) : gJ (D * E) (S * T) (eZ (pA a c)) := by
 refine gJ.trim fun x hx => ?_
 obtain ⟨u, hu, rfl⟩ := List.mem_map.1 hx
 exact (ha u hu).mul h0 h1 hc
theorem gJ.mono {D S E T : Nat} {p : List RQ} (h : gJ D S p) (hD : D ∣ E) (hS : S ≤ T) : gJ E T p := fun x hx => (h x hx).mono hD hS
theorem Ab {D E S T : Nat} {a b : List RQ} (h0 : D ≠ 0) (h1 : E ≠ 0) (ha : gJ D S a) (hb : gJ E T b) : ∀ i, gJ (D * E) (i * (S * T)) (mulR a b i)
 | 0 => fun x hx => by cases hx
 | i + 1 => by
   rw [mulR, Nat.add_mul, Nat.one_mul]
   refine (Ab h0 h1 ha hb i).add (Nat.mul_ne_zero h0 h1) fun x hx => ?_
   rcases List.mem_append.1 hx with h | h
   ·rw [(List.mem_replicate.1 h).2]; exact Bd.zero
   ·exact ha.scale h0 h1 (hb.at i) x h
theorem Ah {E T : Nat} {q : List RQ} (h1 : E ≠ 0) (hb : gJ E T q) (hq : q.length = 2) : ∀ i, gJ (E ^ i) ((2 * T) ^ i) (qA q i)
 | 0 => by
   rw [qA, Nat.pow_zero, Nat.pow_zero]
   refine gJ.trim fun x hx => ?_
   rw [List.mem_singleton.1 hx]; exact Bd.int (by simp)
 | i + 1 => by
   have ih := Ah h1 hb hq i
   have h := Ab (Nat.pos_iff_ne_zero.1 (Nat.pow_pos (Nat.pos_of_ne_zero h1))) h1 ih hb q.length
   rw [qA, Nat.pow_succ, Nat.pow_succ]
   refine h.mono (Nat.dvd_refl _) (Nat.le_of_eq ?_)
   rw [hq]; ac_rfl
theorem xZ {D E S T K : Nat} {p q : List RQ} (h0 : D ≠ 0) (h1 : E ≠ 0) (hT : 1 ≤ T) (hp : gJ D S p) (hb : gJ E T q) (hq : q.length = 2) : ∀ i, i ≤ K → gJ (D * E ^ K) (i * (S * (2 * T) ^ K)) (mW p q i)
 | 0, _ => fun x hx => by cases hx
 | i + 1, hi => by
   have hE : 0 < E := Nat.pos_of_ne_zero h1
   rw [mW, Nat.add_mul, Nat.one_mul]
   refine (xZ h0 h1 hT hp hb hq i (by omega)).add (Nat.mul_ne_zero h0 (Nat.pos_iff_ne_zero.1 (Nat.pow_pos hE))) ?_
   refine ((Ah h1 hb hq i).scale (Nat.pos_iff_ne_zero.1 (Nat.pow_pos hE)) h0 (hp.at i)).mono ?_ ?_
   ·rw [Nat.mul_comm]; exact Nat.mul_dvd_mul (Nat.dvd_refl _) (Nat.pow_dvd_pow _ (by omega))
   ·rw [Nat.mul_comm S]; exact Nat.mul_le_mul_right _ (Nat.pow_le_pow_right (by omega) (by omega))
def Tv (D E S T K : Nat) : Nat := D * E ^ (K + 1) * ((K + 2) * (S * (2 * T) ^ (K + 1)))
end Go.Sy
namespace Go.Sy
open Go Go.Proofs Tryz Ord
def cH : Nat → Nat
 | 0 => 1
 | n + 1 => Nat.lcm (cH n) (n + 1)
theorem zZ {d : Nat} (h1 : 1 ≤ d) : ∀ {n : Nat}, d ≤ n → d ∣ cH n
 | 0, h => by omega
 | n + 1, h => by
   rw [cH]
   rcases Nat.lt_or_ge n d with h2 | h2
   ·rw [show d = n + 1 by omega]; exact Nat.dvd_lcm_right _ _
   ·exact Nat.dvd_trans (zZ h1 h2) (Nat.dvd_lcm_left _ _)
theorem eN : ∀ n : Nat, cH n ≠ 0
 | 0 => by decide
 | n + 1 => fun h => by
   rw [cH] at h
   rcases Nat.lcm_eq_zero_iff.1 h with h | h
   ·exact eN n h
   ·omega
theorem Fl {n d : Int} {N M : Nat} (hn : n.natAbs ≤ N) (h0 : d ≠ 0) (hd : d.natAbs ≤ M) : Bd (cH M) N ((n : Rat) / (d : Rat)) := by
 have h := (Bd.int (D := 1) hn).div (by omega) (by omega) (Bd.int (D := 1) hd) (Rd h0)
 rw [Rat.num_intCast, Nat.one_mul, Nat.mul_one] at h
 exact h.mono (zZ (by omega) hd) (Nat.le_refl _)
theorem bH.bd {x : bH} {N M : Nat} (hp : x.pow % 4 = 0) (hn : x.n.natAbs ≤ N) (hd : x.d.natAbs ≤ M) (hM : 1 ≤ M) : Bd (cH M) N x.v := by
 rw [bH.v, hp, Nat.zero_add, Rat.pow_succ, Rat.pow_zero, Rat.one_mul, bH.b]
 split
 ·exact Fl hn (by omega) (by omega)
 ·exact Fl hn (by assumption) hd
theorem bH.Lk {x : bH} (h : x.uI = true) : Bd (cH 99) 99 x.v := by
 unfold bH.uI at h
 rw [decide_eq_true_iff] at h
 exact bH.bd h.1 (by omega) (by omega) (by omega)
theorem bH.CV {x : bH} (h : x.short = true) : Bd (cH 999) 999 x.v := by
 unfold bH.short at h
 rw [decide_eq_true_iff] at h
 exact bH.bd h.1 (by omega) (by omega) (by omega)
theorem LY {l : List Int} (h : ∀ z ∈ l, z.natAbs ≤ 99) : ∀ q ∈ ints l, Bd (cH 99) 99 q := fun q hq => by
 obtain ⟨n, hn, rfl⟩ := List.mem_map.1 (List.mem_of_mem_take hq)
 exact Bd.int (h n hn)
theorem VA {k : Nat} {n : Int} (h1 : 1 ≤ k) (h2 : k ≤ 8) (h3 : 0 ≤ n) (h4 : n ≤ 8) : ∀ p ∈ kE k n, p.length ≤ 50 ∧ ∀ q ∈ p, Bd (cH 99) 99 q := by
 have hnn : n * (n + 1) ≤ 8 * 9 := Int.mul_le_mul (a := n) (b := n + 1) (c := 8) (d := 9) (by omega) (by omega) (by omega) (by omega)
 have hn0 : 0 ≤ n * (n + 1) := Int.mul_nonneg (by omega) (by omega)
 generalize hm : n * (n + 1) = m at hnn hn0
 have key : ∀ l : List Int, l.length ≤ 3 → (∀ z ∈ l, z.natAbs ≤ 99) → (ints l).length ≤ 50 ∧ ∀ q ∈ ints l, Bd (cH 99) 99 q := fun l hl h => ⟨by
  rw [ints, dY]; have := fG (z := zr) (l.map fun n : Int => (n : Rat)); rw [List.length_map] at this; omega, LY h⟩
 intro p hp
 rcases (by omega : k = 1 ∨ k = 2 ∨ k = 3 ∨ k = 4 ∨ k = 5 ∨ k = 6 ∨ k = 7 ∨ k = 8) with rfl | rfl | rfl | rfl | rfl | rfl | rfl | rfl <;>
  simp only [kE, List.mem_cons, List.not_mem_nil, or_false] at hp <;>
  (try rw [hm] at hp) <;>
  (rcases hp with rfl | rfl | rfl <;> first | exact ⟨by simp, by simp⟩ | exact key _ (by simp) (by intro z hz; simp only [List.mem_cons, List.not_mem_nil, or_false] at hz; omega))
theorem Im (n : Nat) (hn : n ≤ 50) : (iE n).length ≤ 50 ∧ ∀ q ∈ iE n, Bd (cH 99) 99 q := by
 refine ⟨by simp [iE]; omega, fun q hq => ?_⟩
 rcases List.mem_or_eq_of_mem_set hq with h | rfl
 ·rw [(List.mem_replicate.1 h).2]; exact Bd.zero
 ·exact Bd.one (by omega)
structure gQ (c : aY) : Prop where
 e1 : KZ c.E
 e2 : KZ (DM c.ER)
 sim : yE c.E (DM c.ER)
 x : c.XR.q = c.X
 y : c.YR.map RQ.q = c.Y
 el : c.E.length ≤ 7
 yl : c.Y.length ≤ 6
 eb : ∀ p ∈ c.E, p.length ≤ 50 ∧ ∀ q ∈ p, Bd (cH 99) 99 q
 rb : ∀ p ∈ DM c.ER, p.length ≤ 50 ∧ ∀ q ∈ p, Bd (cH 99) 99 q
 xb : Bd (cH 999) 999 c.X
 yb : ∀ q ∈ c.Y, Bd (cH 999) 999 q
 xf : Fit 513 c.X
 yf : ∀ q ∈ c.Y, Fit 513 q
theorem yE.refl (e : List (List Rat)) : yE e e := ⟨rfl, fun i p p' h1 h2 => by rw [h1] at h2; cases h2; exact ⟨rfl, fun _ => rfl⟩⟩
theorem Rz {k : Nat} (h1 : 1 ≤ k) (h2 : k ≤ 8) : (kY k).length ≤ 6 ∧ ∀ q ∈ kY k, q = 0 ∨ q = 1 := by
 rcases (by omega : k = 1 ∨ k = 2 ∨ k = 3 ∨ k = 4 ∨ k = 5 ∨ k = 6 ∨ k = 7 ∨ k = 8) with rfl | rfl | rfl | rfl | rfl | rfl | rfl | rfl <;>
  exact ⟨by simp [kY], fun q hq => by simp only [kY, List.mem_cons, List.not_mem_nil, or_false] at hq; rcases hq with rfl | rfl <;> simp⟩
theorem DS {c : aY} (h : c.In) (hs : c.small = true) : gQ c := by
 unfold aY.small at hs
 rw [decide_eq_true_iff] at hs
 obtain ⟨hy, hsp, hx, hyl⟩ := hs
 by_cases hk : 0 < c.kind
 ·have hkk1 : 1 ≤ c.kk := by unfold aY.kk; omega
  have hkk8 : c.kk ≤ 8 := by unfold aY.kk; omega
  have hnn : 0 ≤ c.nn ∧ c.nn ≤ 8 := by unfold aY.nn; split <;> omega
  have hE : c.E = kE c.kk c.nn := by rw [aY.E, if_pos hk]
  have hER : DM c.ER = kE c.kk c.nn := by rw [aY.ER, if_pos hk, SK hkk1 hkk8]
  have hX : c.X = 0 := by rw [aY.X, if_pos hk]
  have hY : c.Y = kY c.kk := by rw [aY.Y, if_pos hk]
  obtain ⟨_, hl3, hko⟩ := Vt hkk1 hkk8 hnn.1 (by omega)
  have hb := VA hkk1 hkk8 hnn.1 hnn.2
  have hes : KZ (kE c.kk c.nn) := ⟨by omega, fun p hp => ⟨by have := (hb p hp).1; omega, fun q hq => ((hko p hp).2 q hq).mono (by omega)⟩⟩
  obtain ⟨hy1, hy2⟩ := Rz hkk1 hkk8
  refine ⟨hE ▸ hes, hER ▸ hes, by rw [hE, hER]; exact yE.refl _, by rw [aY.XR, if_pos hk, hX]; rfl, by rw [aY.YR, if_pos hk, hY]; exact Ud hkk1 hkk8, by rw [hE]; omega, by rw [hY]; exact hy1, by rw [hE]; exact hb, by rw [hER]; exact hb, by rw [hX]; exact Bd.zero, fun q hq => ?_, by rw [hX]; exact Fit.zero (by omega), fun q hq => ?_⟩
  ·rw [hY] at hq
   rcases hy2 q hq with rfl | rfl
   ·exact Bd.zero
   ·exact Bd.one (by omega)
  ·rw [hY] at hq
   rcases hy2 q hq with rfl | rfl
   ·exact Fit.zero (by omega)
   ·exact (gW (n := 1) (by omega) (by omega)).mono (by omega)
 ·have hE : c.E = yH c.p c.long := by rw [aY.E, if_neg hk]
  have hER : c.ER = Lb c.p c.long := by rw [aY.ER, if_neg hk]
  have hX : c.X = c.c.v := by rw [aY.X, if_neg hk]
  have hY : c.Y = bR c.y := by rw [aY.Y, if_neg hk]
  obtain ⟨h1, h2⟩ := VD (long := c.long) h.hp hsp
  have hsp' := hsp
  unfold fW at hsp'
  rw [decide_eq_true_iff] at hsp'
  obtain ⟨hp6, hpx⟩ := hsp'
  have hlong : ∀ p ∈ (if 0 < c.long then [iE (c.long % 50 + 1).toNat] else []), p.length ≤ 50 ∧ ∀ q ∈ p, Bd (cH 99) 99 q := by
   intro p hp
   split at hp
   ·rw [List.mem_singleton] at hp; subst hp; exact Im _ (by omega)
   ·cases hp
  have hv : ∀ l ∈ c.p, (bR l).length ≤ 50 ∧ ∀ q ∈ bR l, Bd (cH 99) 99 q := fun l hl => ⟨by rw [oY]; have := (hpx l hl).1; omega, fun q hq => by
   obtain ⟨x, hx, rfl⟩ := List.mem_map.1 hq
   exact bH.Lk ((hpx l hl).2 x hx)⟩
  refine ⟨hE ▸ h1, hER ▸ h2, by rw [hE, hER]; exact Ur _ _, by rw [aY.XR, if_neg hk, hX]; rfl, by rw [aY.YR, if_neg hk, hY]; exact KW _, ?_, by rw [hY, oY]; exact hyl, fun p hp => ?_, fun p hp => ?_, by rw [hX]; exact bH.CV hx, fun q hq => ?_, by rw [hX]; exact h.hc.PW, fun q hq => ?_⟩
  ·rw [hE, yH, List.length_append, List.length_map]
   have : (if 0 < c.long then [iE (c.long % 50 + 1).toNat] else []).length ≤ 1 := by split <;> simp
   omega
  ·rw [hE] at hp
   rcases List.mem_append.1 hp with hp | hp
   ·obtain ⟨l, hl, rfl⟩ := List.mem_map.1 hp; exact hv l hl
   ·exact hlong p hp
  ·rw [hER, Jl] at hp
   rcases List.mem_append.1 hp with hp | hp
   ·obtain ⟨l, hl, rfl⟩ := List.mem_map.1 hp
    have hvl := hv l hl
    exact ⟨by rw [dY]; have := fG (z := zr) (bR l); omega, fun q hq => hvl.2 q (List.mem_of_mem_take hq)⟩
   ·exact hlong p hp
  ·rw [hY] at hq
   obtain ⟨x, hx, rfl⟩ := List.mem_map.1 hq
   exact bH.CV (hy x hx)
  ·rw [hY] at hq
   obtain ⟨x, hx, rfl⟩ := List.mem_map.1 hq
   exact (h.hy x hx).PW
def dM : Nat := cH 99 * cH 999 ^ 50
def sM : Nat := 50 * (99 * (2 * 999) ^ 50)
theorem Ok : ∃ B, 64 ≤ B ∧ B ≤ 16777216 ∧ qW (cH 99) (cH 999) 99 999 50 < 2 ^ B ∧ Tv (cH 99) (cH 999) 99 999 50 < 2 ^ B ∧ ∀ m, m < 5 → zP m 30 dM sM (cH 999) 999 101 < 2 ^ B :=
 ⟨8388608, by decide, by decide, by decide +kernel, by decide +kernel, by decide +kernel⟩
theorem oO : dM ≠ 0 := Nat.mul_ne_zero (eN _) (Nat.pos_iff_ne_zero.1 (Nat.pow_pos (Nat.pos_of_ne_zero (eN _))))
theorem IX : 1 ≤ sM := by decide +kernel
theorem yE.Xp {e e' : List (List Rat)} (h : yE e e') (c : Rat) : gE e c = gE e' c := by
 refine List.ext_getElem? fun i => ?_
 rw [gE, gE, List.getElem?_map, List.getElem?_map]
 rcases Nat.lt_or_ge i e.length with hi | hi
 ·obtain ⟨p, hp⟩ : ∃ p, e[i]? = some p := ⟨_, List.getElem?_eq_getElem hi⟩
  obtain ⟨p', hp'⟩ : ∃ p, e'[i]? = some p := ⟨_, List.getElem?_eq_getElem (by rw [← h.1]; exact hi)⟩
  rw [hp, hp', Option.map_some, Option.map_some]
  congr 1
  refine JO (jA _ _) (jA _ _) fun x => ?_
  show ev (cV p c) x = ev (cV p' c) x
  rw [pP, pP]
  exact (h.2 i p p' hp hp').2 _
 ·rw [List.getElem?_eq_none hi, List.getElem?_eq_none (by rw [← h.1]; exact hi)]
section
variable {c : aY}
theorem gQ.sh (h : gQ c) : DM (WC c.ER c.XR) = gE c.E c.X := by rw [SY, h.x, h.sim.Xp]
theorem gQ.rq (h : gQ c) : ∀ p ∈ c.ER, p.length ≤ 50 ∧ gJ (cH 99) 99 p := fun p hp => by
 obtain ⟨h1, h2⟩ := h.rb _ (List.mem_map_of_mem (f := fun p : List RQ => p.map RQ.q) hp)
 rw [List.length_map] at h1
 exact ⟨h1, fun x hx => h2 _ (List.mem_map_of_mem hx)⟩
theorem gQ.Mf (h : gQ c) : ∀ p ∈ gE c.E c.X, p.length ≤ 101 ∧ ∀ b ∈ p, Bd dM sM b := by
 rw [← h.sh]
 intro q hq
 obtain ⟨q1, hq1, rfl⟩ := List.mem_map.1 hq
 obtain ⟨p, hp, rfl⟩ := List.mem_map.1 hq1
 obtain ⟨hl, hb⟩ := h.rq p hp
 have hq2 : gJ (cH 999) 999 [c.XR, .of ((1 : Int) : Rat)] := fun x hx => by
  rcases List.mem_cons.1 hx with rfl | hx
  ·rw [h.x]; exact h.xb
  ·rw [List.mem_singleton.1 hx]; exact Bd.int (by simp)
 have hk := xZ (K := 50) (eN 99) (eN 999) (by omega) hb hq2 rfl p.length hl
 refine ⟨by rw [List.length_map]; have := Cx p [c.XR, .of ((1 : Int) : Rat)] p.length; simp only [List.length_cons, List.length_nil] at this; omega, fun b hb => ?_⟩
 obtain ⟨x, hx, rfl⟩ := List.mem_map.1 hb
 exact (hk x hx).le (Nat.mul_le_mul_right _ hl)
theorem gQ.room (h : gQ c) {B : Nat} (hB : B ≤ 16777216) (hR : qW (cH 99) (cH 999) 99 999 50 < 2 ^ B) : HN c.E c.X (cH 99) (cH 999) 99 999 50 B :=
 ⟨eN _, eN _, fun p hp => ⟨(h.eb p hp).2, (h.eb p hp).1⟩, h.xb, by omega, by omega, by omega, hR⟩
theorem qN {e : List (List Rat)} {c : Rat} (h : cX e c ≠ 0) (he : 0 < e.length) : ∃ p, (gE e c)[e.length - 1]? = some p ∧ p[0]? = some (cX e c) := by
 refine ⟨cV (e.getD (e.length - 1) []) c, ?_, ?_⟩
 ·rw [gE, List.getElem?_map, List.getD_eq_getElem?_getD, List.getElem?_eq_getElem (by omega)]; rfl
 ·unfold cX at h ⊢
  generalize cV (e.getD (e.length - 1) []) c = l at *
  cases l with
  | nil => exact absurd rfl h
  | cons x l => rfl
theorem gQ.steady (h : gQ c) (hok : okF c.E c.X c.Y = true) {B : Nat} (hR : ∀ m, m < 5 → zP m 30 dM sM (cH 999) 999 101 < 2 ^ B) : qB B (gE c.E c.X) (c.E.length - 1) (cX c.E c.X) c.Y 30 := by
 obtain ⟨h2, h5, hyl, hld, _⟩ := mQ hok
 have hm := h.Mf
 obtain ⟨p, hp, hp0⟩ := qN hld (by omega)
 refine Gv (D := dM) (S := sM) (E := cH 999) (T := 999) (L := 101) ⟨oO, eN _, IX, by omega, by omega, hm, (hm p (List.mem_of_getElem? hp)).2 _ (List.mem_of_getElem? hp0), hld, h.yb, by rw [gE, List.length_map]; omega⟩ (by omega) (by omega) (hR _ (by omega))
theorem EN (h : gQ c) (n : Int) (hn1 : -9223372036854775808 ≤ n) (hn2 : n < 9223372036854775808) (hn : n ≤ 30 ∨ 1500 < n) :
  aO prog 26 [fT c.E c.X c.Y, .one (.int .i64 n)] (.ret [.one (sQ (mR c.E c.X c.Y n).1), .one (.int .i64 (mR c.E c.X c.Y n).2)]) := by
 obtain ⟨B, h64, hB, hC, _, hS⟩ := Ok
 exact nR c.E c.X c.Y n _ _ _ _ _ B B 30 h.e1 h.xf (by have := h.yl; omega) hn1 hn2 (fun _ => h.room hB hC) (fun _ p hp => by have := (h.Mf p hp).1; omega)
  (fun hok _ _ => ⟨h.steady hok hS, by omega, by omega, by have := (mQ hok).2.1; omega⟩) (by omega) h64
end
end Go.Sy
