/- The coefficients of a solution have few bits. The polynomial of the first coefficients satisfies the equation up to high terms: plain laws.
-/
import Derived.Test.YtdmcadckdnnglaaGreatDoorQc
import Derived.Test.YtdmcadckdnnglaaGreatDoorQa
set_option linter.unusedVariables false
set_option linter.unusedSimpArgs false
namespace Ord
theorem Bd.inv {E T : Nat} {r : Rat} (h1 : E ≠ 0) (h : Bd E T r) (hr : r ≠ 0) : Bd r.num.natAbs E r⁻¹ := by
 have hn : r.num ≠ 0 := fun e => hr (Rat.num_eq_zero.1 e)
 have hd := Nat.le_of_dvd (by omega) h.1
 unfold Bd
 rw [Rat.num_inv, Rat.den_inv, if_neg hn, Int.natAbs_mul, Int.natAbs_sign_of_ne_zero hn, Int.natAbs_natCast, Nat.one_mul]
 exact ⟨Nat.dvd_refl _, Nat.le_trans hd (Nat.le_mul_of_pos_right _ (by omega))⟩
theorem Bd.div {D E S T : Nat} {a r : Rat} (h0 : D ≠ 0) (h1 : E ≠ 0) (ha : Bd D S a) (h : Bd E T r) (hr : r ≠ 0) : Bd (D * r.num.natAbs) (S * E) (a / r) := by
 rw [Rat.div_def]
 exact ha.mul h0 (fun e => hr (Rat.num_eq_zero.1 (by omega))) (h.inv h1 hr)
theorem Bd.PR {D S : Nat} {q : Rat} (h0 : D ≠ 0) (h : Bd D S q) : q.num.natAbs ≤ S * D := Nat.le_trans h.2 (Nat.mul_le_mul_left _ (Nat.le_of_dvd (by omega) h.1))
theorem Rd {z : Int} (h : z ≠ 0) : (z : Rat) ≠ 0 := fun e => h (by have := congrArg Rat.num e; simpa using this)
section
variable {q : List (List Rat)} {a : List Rat} {m n D S X A F L : Nat}
theorem xL {p : List Rat} {i : Nat} {x : Rat} {Y : Nat} (h0 : D ≠ 0) (h1 : X ≠ 0) (hp : ∀ b ∈ p, Bd D S b) (ha : ∀ b ∈ a, Bd X A b) (hF : ∀ z : Int, z.natAbs ≤ n + m → (bW z i).natAbs ≤ F) (hi : i ≤ m) (hx : Bd (D * X) Y x) :
  ∀ k, k ≤ n - m + 1 → m ≤ n → Bd (D * X) (Y + k * (S * F * A)) (inner p a m n i x k)
 | 0, _, _ => by simpa [inner] using hx
 | k + 1, hk, hmn => by
   have ih := xL h0 h1 hp ha hF hi hx k (by omega) hmn
   have hm : Y + k * (S * F * A) ≤ Y + (k + 1) * (S * F * A) := by rw [Nat.add_mul]; omega
   rw [inner]
   split
   ·have hpk : Bd D S (p.getD k 0) := by
     rw [List.getD_eq_getElem?_getD]
     cases h : p[k]? with
     | none => exact Bd.zero
     | some b => exact hp b (List.mem_of_getElem? h)
    have hak : Bd X A (a.getD (n - (m + k - i)) 0) := by
     rw [List.getD_eq_getElem?_getD]
     cases h : a[n - (m + k - i)]? with
     | none => exact Bd.zero
     | some b => exact ha b (List.mem_of_getElem? h)
    have hf : Bd 1 F ((bW ((n : Int) - ((m : Int) + k - i)) i : Int) : Rat) := Bd.int (hF _ (by omega))
    have h2 := (hpk.mul h0 (by omega) hf).mul (by omega) h1 hak
    rw [Nat.mul_one] at h2
    have h3 := ih.sub (Nat.mul_ne_zero h0 h1) h2
    rw [Nat.add_mul, Nat.one_mul, ← Nat.add_assoc]
    exact h3
   ·exact ih.le hm
theorem wN (h0 : D ≠ 0) (h1 : X ≠ 0) (hq : ∀ p ∈ q, p.length ≤ L ∧ ∀ b ∈ p, Bd D S b) (ha : ∀ b ∈ a, Bd X A b) (hF : ∀ i, i ≤ m → ∀ z : Int, z.natAbs ≤ n + m → (bW z i).natAbs ≤ F) (hmn : m ≤ n) :
  ∀ i, i ≤ m + 1 → Bd (D * X) (i * (L * (S * F * A))) (outer q a m n i)
 | 0, _ => by simpa [outer] using Bd.zero
 | i + 1, hi => by
   have ih := wN h0 h1 hq ha hF hmn i (by omega)
   have hp : (q.getD i []).length ≤ L ∧ ∀ b ∈ q.getD i [], Bd D S b := by
    rw [List.getD_eq_getElem?_getD]
    cases h : q[i]? with
    | none => exact ⟨Nat.zero_le _, fun b hb => by cases hb⟩
    | some p => exact hq p (List.mem_of_getElem? h)
   rw [outer]
   refine (xL h0 h1 hp.2 ha (hF i (by omega)) (by omega) ih _ (Nat.min_le_right _ _) hmn).le ?_
   rw [Nat.add_mul i 1, Nat.one_mul]
   exact Nat.add_le_add_left (Nat.mul_le_mul_right _ (Nat.le_trans (Nat.min_le_left _ _) hp.1)) _
end
structure SN (q : List (List Rat)) (m : Nat) (lead : Rat) (y : List Rat) (D S E T L : Nat) : Prop where
 d0 : D ≠ 0
 e0 : E ≠ 0
 s1 : 1 ≤ S
 t1 : 1 ≤ T
 l1 : 1 ≤ L
 hq : ∀ p ∈ q, p.length ≤ L ∧ ∀ b ∈ p, Bd D S b
 hl : Bd D S lead
 l0 : lead ≠ 0
 hy : ∀ b ∈ y, Bd E T b
 ql : q.length = m + 1
def gL (m N : Nat) : Nat := (N + m + m) ^ m
def oG (m N D S E : Nat) : Nat := E * gL m N + D * (S * gL m N * D)
def dN (m N D S L : Nat) : Nat := (m + 1) * (L * (S * gL m N)) * D
theorem KX {m N n : Nat} (hn : n < N) : ∀ i, i ≤ m → ∀ z : Int, z.natAbs ≤ n + m → (bW z i).natAbs ≤ gL m N := fun i hi z hz =>
 Nat.le_trans (mO (N := N + m + m) i (by omega)) (Nat.pow_le_pow_right (by omega) hi)
theorem Dw {q : List (List Rat)} {m : Nat} {lead : Rat} {y : List Rat} {D S E T L N : Nat} (C : SN q m lead y D S E T L) (hmN : m ≤ N) :
  ∀ n, n ≤ N → ∃ X, X ≠ 0 ∧ X ≤ oG m N D S E ^ n ∧ ∀ b ∈ aX q m lead y n, Bd X (T * dN m N D S L ^ n) b := by
 have hF1 : 1 ≤ N → 1 ≤ gL m N := fun h => Nat.pow_pos (by omega)
 intro n
 induction n with
 | zero => exact fun _ => ⟨1, by omega, by simp, fun b hb => by cases hb⟩
 | succ n ih =>
   intro hn
   obtain ⟨X, hX0, hXQ, hb⟩ := ih (by omega)
   have hF := KX (m := m) (N := N) (n := n) (by omega)
   have hF1 := hF1 (by omega)
   have hD := Nat.pos_of_ne_zero C.d0
   have hE := Nat.pos_of_ne_zero C.e0
   have hR1 : 1 ≤ dN m N D S L := Nat.mul_pos (Nat.mul_pos (by omega) (Nat.mul_pos C.l1 (Nat.mul_pos C.s1 hF1))) hD
   have hTR : T * dN m N D S L ^ n ≤ T * dN m N D S L ^ (n + 1) := Nat.mul_le_mul_left _ (Nat.pow_le_pow_right hR1 (by omega))
   have hT : T ≤ T * dN m N D S L ^ (n + 1) := Nat.le_mul_of_pos_right _ (Nat.pow_pos hR1)
   have key : ∃ u, u ≠ 0 ∧ u ≤ oG m N D S E ∧ Bd (X * u) (T * dN m N D S L ^ (n + 1)) (hJ q m lead y n (aX q m lead y n)) := by
    unfold hJ
    split
    ·rename_i hnm
     have hf0 : ((bW n n : Int) : Rat) ≠ 0 := Rd (iZ (by omega))
     have hfz : (bW n n).natAbs ≤ gL m N := hF n (by omega) n (by omega)
     have hy : Bd E T (y.getD n 0) := by
      rw [List.getD_eq_getElem?_getD]
      cases h : y[n]? with
      | none => exact Bd.zero
      | some b => exact C.hy b (List.mem_of_getElem? h)
     have h := hy.div C.e0 (E := 1) (by omega) (Bd.int hfz) hf0
     rw [Nat.mul_one, Rat.num_intCast] at h
     refine ⟨E * (bW n n).natAbs, Nat.mul_ne_zero C.e0 (fun e => hf0 (by rw [Int.natAbs_eq_zero.1 e]; rfl)), ?_, h.mono (Nat.dvd_mul_left _ _) hT⟩
     exact Nat.le_trans (Nat.mul_le_mul_left _ hfz) (Nat.le_add_right _ _)
    ·rename_i hnm
     have hmn : m ≤ n := by omega
     have hf0 : ((bW n m : Int) : Rat) ≠ 0 := Rd (iZ (by omega))
     have hfz : (bW n m).natAbs ≤ gL m N := hF m (by omega) n (by omega)
     have hr := C.hl.mul C.d0 (E := 1) (by omega) (Bd.int hfz)
     rw [Nat.mul_one] at hr
     have hr0 : lead * ((bW n m : Int) : Rat) ≠ 0 := fun e => by
      rcases Rat.mul_eq_zero.1 e with e | e
      ·exact C.l0 e
      ·exact hf0 e
     have ho := wN C.d0 hX0 C.hq hb hF hmn q.length (by rw [C.ql]; omega)
     have h := ho.div (Nat.mul_ne_zero C.d0 hX0) C.d0 hr hr0
     rw [show D * X * (lead * ((bW n m : Int) : Rat)).num.natAbs = X * (D * (lead * ((bW n m : Int) : Rat)).num.natAbs) by rw [Nat.mul_comm D X, Nat.mul_assoc]] at h
     refine ⟨_, Nat.mul_ne_zero C.d0 (fun e => hr0 (Rat.num_eq_zero.1 (Int.natAbs_eq_zero.1 e))), ?_, h.le ?_⟩
     ·exact Nat.le_trans (Nat.mul_le_mul_left _ (hr.PR C.d0)) (Nat.le_add_left _ _)
     ·rw [C.ql, Nat.pow_succ]
      unfold dN
      generalize ((m + 1) * (L * (S * gL m N)) * D) ^ n = R
      refine Nat.le_of_eq ?_
      ac_rfl
   obtain ⟨u, hu0, huQ, hu⟩ := key
   refine ⟨X * u, Nat.mul_ne_zero hX0 hu0, ?_, fun b hbm => ?_⟩
   ·rw [Nat.pow_succ]; exact Nat.mul_le_mul hXQ huQ
   ·rw [aX] at hbm
    rcases List.mem_append.1 hbm with h | h
    ·exact (hb b h).mono (Nat.dvd_mul_right _ _) hTR
    ·rw [List.mem_singleton.1 h]; exact hu
def zP (m N D S E T L : Nat) : Nat := D * oG m N D S E ^ N * (T * dN m N D S L ^ (N + 1))
theorem Gv {q : List (List Rat)} {m : Nat} {lead : Rat} {y : List Rat} {D S E T L N B : Nat} (C : SN q m lead y D S E T L) (hmN : m ≤ N) (h1N : 1 ≤ N) (hB : zP m N D S E T L < 2 ^ B) : qB B q m lead y N := by
 have hF1 : 1 ≤ gL m N := Nat.pow_pos (by omega)
 have hD := Nat.pos_of_ne_zero C.d0
 have hE := Nat.pos_of_ne_zero C.e0
 have hSF : 1 ≤ S * gL m N := Nat.mul_pos C.s1 hF1
 have hR1 : 1 ≤ dN m N D S L := Nat.mul_pos (Nat.mul_pos (by omega) (Nat.mul_pos C.l1 hSF)) hD
 have hQ1 : 1 ≤ oG m N D S E := Nat.le_trans (Nat.mul_pos hE hF1) (Nat.le_add_right _ _)
 have hQN : 1 ≤ oG m N D S E ^ N := Nat.pow_pos hQ1
 have hRN : 1 ≤ dN m N D S L ^ N := Nat.pow_pos hR1
 have hRS : dN m N D S L ≤ dN m N D S L ^ (N + 1) := by
  rw [Nat.pow_succ]; exact Nat.le_mul_of_pos_left _ hRN
 have hEQ : E ≤ oG m N D S E ^ N := Nat.le_trans (Nat.le_trans (Nat.le_mul_of_pos_right _ hF1) (Nat.le_add_right _ _)) (Nat.le_trans (Nat.le_of_eq (Nat.pow_one _).symm) (Nat.pow_le_pow_right hQ1 h1N))
 have hSR : S * gL m N ≤ dN m N D S L := by
  refine Nat.le_trans ?_ (Nat.le_mul_of_pos_right _ hD)
  refine Nat.le_trans ?_ (Nat.le_mul_of_pos_left _ (by omega))
  exact Nat.le_mul_of_pos_left _ C.l1
 have hS : S ≤ dN m N D S L := Nat.le_trans (Nat.le_mul_of_pos_right _ hF1) hSR
 have hF : gL m N ≤ dN m N D S L := Nat.le_trans (Nat.le_mul_of_pos_left _ C.s1) hSR
 have big : ∀ {X Y : Nat} {x : Rat}, X ≠ 0 → Bd X Y x → X ≤ D * oG m N D S E ^ N → Y ≤ T * dN m N D S L ^ (N + 1) → Fit B x := fun {X Y x} h0 h hX hY => by
  have hV : Y * X ≤ zP m N D S E T L := by
   unfold zP
   rw [Nat.mul_comm (D * oG m N D S E ^ N)]
   exact Nat.mul_le_mul hY hX
  refine h.fit h0 (Nat.lt_of_le_of_lt ?_ hB) (Nat.lt_of_le_of_lt hV hB)
  unfold zP
  exact Nat.le_trans hX (Nat.le_mul_of_pos_right _ (Nat.mul_pos C.t1 (Nat.pow_pos hR1)))
 have hTR : dN m N D S L ^ (N + 1) ≤ T * dN m N D S L ^ (N + 1) := Nat.le_mul_of_pos_left _ C.t1
 have hDQ : D ≤ D * oG m N D S E ^ N := Nat.le_mul_of_pos_right _ hQN
 have hint : ∀ {z : Int}, z.natAbs ≤ gL m N → Fit B (z : Rat) := fun {z} hz => big (X := 1) (by omega) (Bd.int hz) (Nat.mul_pos hD hQN) (Nat.le_trans hF (Nat.le_trans hRS hTR))
 have hco := Dw C hmN
 refine ⟨big C.d0 C.hl hDQ (Nat.le_trans hS (Nat.le_trans hRS hTR)), fun x hx => big C.e0 (C.hy x hx) (Nat.le_trans hEQ (Nat.le_mul_of_pos_left _ hD)) (Nat.le_mul_of_pos_right _ (Nat.pow_pos hR1)), fun p hp x hx => big C.d0 ((C.hq p hp).2 x hx) hDQ (Nat.le_trans hS (Nat.le_trans hRS hTR)),
  fun n i hn hi z hz j hj => hint (Nat.le_trans (mO (N := N + m + m) j (by omega)) (Nat.pow_le_pow_right (by omega) (by omega))), fun n hn j hj => hint (Nat.le_trans (mO (N := N + m + m) j (by omega)) (Nat.pow_le_pow_right (by omega) (by omega))), fun n hn => ?_, fun n i k hn hmn hi hk => ?_⟩
 ·obtain ⟨X, h0, hX, hb⟩ := hco (n + 1) (by omega)
  refine big h0 (hb _ (by rw [aX]; simp)) ?_ ?_
  ·exact Nat.le_trans (Nat.le_trans hX (Nat.pow_le_pow_right hQ1 (by omega))) (Nat.le_mul_of_pos_left _ hD)
  ·exact Nat.mul_le_mul_left _ (Nat.pow_le_pow_right hR1 (by omega))
 ·obtain ⟨X, h0, hX, hb⟩ := hco n (by omega)
  have hFz := KX (m := m) (N := N) (n := n) hn
  have hil : i ≤ m := by have := C.ql; omega
  have ho := wN C.d0 h0 C.hq hb hFz hmn i (by omega)
  have hp : (q.getD i []).length ≤ L ∧ ∀ b ∈ q.getD i [], Bd D S b := by
   rw [List.getD_eq_getElem?_getD]
   cases h : q[i]? with
   | none => exact ⟨Nat.zero_le _, fun b hb => by cases hb⟩
   | some p => exact C.hq p (List.mem_of_getElem? h)
  have hin := xL C.d0 h0 hp.2 hb (hFz i hil) hil ho k (by omega) hmn
  refine big (Nat.mul_ne_zero C.d0 h0) hin (Nat.mul_le_mul_left _ (Nat.le_trans hX (Nat.pow_le_pow_right hQ1 (by omega)))) ?_
  have hkL : k ≤ L := by have := hp.1; omega
  have h1 : i * (L * (S * gL m N * (T * dN m N D S L ^ n))) + k * (S * gL m N * (T * dN m N D S L ^ n)) ≤ (m + 1) * (L * (S * gL m N * (T * dN m N D S L ^ n))) := by
   rw [Nat.add_mul m 1, Nat.one_mul]
   exact Nat.add_le_add (Nat.mul_le_mul_right _ hil) (Nat.mul_le_mul_right _ hkL)
  refine Nat.le_trans h1 ?_
  have h2 : (m + 1) * (L * (S * gL m N * (T * dN m N D S L ^ n))) = T * (dN m N D S L ^ n * ((m + 1) * (L * (S * gL m N)))) := by ac_rfl
  rw [h2]
  refine Nat.mul_le_mul_left _ ?_
  refine Nat.le_trans (Nat.mul_le_mul_left _ (Nat.le_mul_of_pos_right _ hD)) ?_
  show dN m N D S L ^ n * dN m N D S L ≤ _
  rw [← Nat.pow_succ]
  exact Nat.pow_le_pow_right hR1 (by omega)
end Ord
namespace Ord
def sm (f : Nat → Rat) : Nat → Rat
 | 0 => 0
 | n + 1 => sm f n + f n
theorem rS {f g : Nat → Rat} : ∀ {n : Nat}, (∀ i, i < n → f i = g i) → sm f n = sm g n
 | 0, _ => rfl
 | n + 1, h => by rw [sm, sm, rS (n := n) (fun i hi => h i (by omega)), h n (by omega)]
theorem pE {f : Nat → Rat} {n : Nat} : ∀ {m : Nat}, n ≤ m → (∀ i, n ≤ i → i < m → f i = 0) → sm f m = sm f n
 | 0, h, _ => by rw [show n = 0 by omega]
 | m + 1, h, h0 => by
   rcases Nat.lt_or_ge m n with h1 | h1
   ·rw [show n = m + 1 by omega]
   ·rw [sm, pE h1 (fun i h2 h3 => h0 i h2 (by omega)), h0 m h1 (by omega)]; grind
theorem KM (l : List Rat) (i s : Nat) (a : Rat) (h : i < l.length) : (l.set i a).getD s 0 = if s = i then a else l.getD s 0 := by
 rw [List.getD_eq_getElem?_getD, List.getD_eq_getElem?_getD, List.getElem?_set]
 split
 ·rename_i e; subst e; rw [if_pos rfl]; simp [h]
 ·rename_i e; rw [if_neg (fun x => e x.symm)]
theorem lI {l : List Rat} {s : Nat} (h : l.length ≤ s) : l.getD s 0 = 0 := by
 rw [List.getD_eq_getElem?_getD, List.getElem?_eq_none h]; rfl
theorem tH (a : Rat) (q : List Rat) (i : Nat) (out : List Rat) (s : Nat) (hl : i + q.length ≤ out.length) : ∀ k, k ≤ q.length → (dU a q i out k).getD s 0 = out.getD s 0 + if i ≤ s ∧ s < i + k then a * q.getD (s - i) 0 else 0
 | 0, _ => by rw [dU, if_neg (by omega)]; grind
 | k + 1, hk => by
   have ih := fun s => tH a q i out s hl k (by omega)
   rw [dU, KM _ _ _ _ (by rw [fE]; omega), ih, ih]
   by_cases h1 : s = i + k
   ·rw [if_pos h1, if_neg (by omega), if_pos (by omega), h1, show i + k - i = k by omega]; grind
   ·rw [if_neg h1]
    by_cases h2 : i ≤ s ∧ s < i + k
    ·rw [if_pos h2, if_pos (by omega)]
    ·rw [if_neg h2, if_neg (by omega)]
theorem yZ (p q : List Rat) (s : Nat) (hq : 0 < q.length) : ∀ i, i ≤ p.length → (mulL p q i).getD s 0 = sm (fun j => if j ≤ s then p.getD j 0 * q.getD (s - j) 0 else 0) i
 | 0, _ => by
   rw [mulL, sm, List.getD_eq_getElem?_getD, List.getElem?_replicate]
   split <;> rfl
 | i + 1, hi => by
   have ih := yZ p q s hq i (by omega)
   rw [mulL, sm]
   split
   ·rename_i h0
    rw [ih, h0]
    split <;> grind
   ·rw [tH _ _ _ _ _ (by rw [eW]; omega) _ (Nat.le_refl _), ih]
    congr 1
    by_cases h1 : i ≤ s
    ·rw [if_pos h1]
     by_cases h2 : s < i + q.length
     ·rw [if_pos ⟨h1, h2⟩]
     ·rw [if_neg (fun h => h2 h.2), lI (l := q) (by omega)]; grind
    ·rw [if_neg (fun h => h1 h.1), if_neg h1]
def cv (p q : List Rat) (s : Nat) : Rat := sm (fun j => p.getD j 0 * q.getD (s - j) 0) (s + 1)
theorem Nl (p q : List Rat) (s : Nat) (hq : 0 < q.length) : (mulL p q p.length).getD s 0 = cv p q s := by
 rw [yZ p q s hq _ (Nat.le_refl _), cv]
 have e : sm (fun j => p.getD j 0 * q.getD (s - j) 0) (s + 1) = sm (fun j => if j ≤ s then p.getD j 0 * q.getD (s - j) 0 else 0) (s + 1) := rS fun i hi => by
  show _ = if i ≤ s then _ else _
  rw [if_pos (by omega)]
 rw [e]
 rcases Nat.lt_or_ge p.length (s + 1) with h | h
 ·refine (pE (Nat.le_of_lt h) fun i h1 _ => ?_).symm
  show (if i ≤ s then _ else _) = (0 : Rat)
  rw [lI h1]; split <;> grind
 ·refine pE h fun i h1 _ => ?_
  show (if i ≤ s then _ else _) = (0 : Rat)
  rw [if_neg (by omega)]
theorem CJ (q : List Rat) (s : Nat) : cv [] q s = 0 := by
 rw [cv, pE (n := 0) (Nat.zero_le _) (fun i _ _ => ?_)]; · rfl
 show ([] : List Rat).getD i 0 * _ = 0
 rw [lI (Nat.zero_le _)]; grind
theorem AP (p : List Rat) (s : Nat) : cv p [] s = 0 := by
 rw [cv, pE (n := 0) (Nat.zero_le _) (fun i _ _ => ?_)]; · rfl
 show _ * ([] : List Rat).getD (s - i) 0 = 0
 rw [lI (l := []) (Nat.zero_le _)]; grind
def HP (a : List Rat) (i s : Nat) : Rat := a.getD (s + i) 0 * ((bW ((s + i : Nat) : Int) i : Int) : Rat)
theorem GM (a b : Int) : ((a * b : Int) : Rat) = (a : Rat) * (b : Rat) := Rat.intCast_mul a b
theorem Kj (a : List Rat) (i s : Nat) : HP a i (s + 1) * ((s + 1 : Int) : Rat) = HP a (i + 1) s := by
 unfold HP
 rw [show s + 1 + i = s + (i + 1) by omega, bW, GM]
 have : (((s + (i + 1) : Nat) : Int) - (i : Int)) = (s : Int) + 1 := by omega
 rw [this]; grind
def tW (q : List (List Rat)) (a : List Rat) (s i κ : Nat) : Rat := (q.getD i []).getD κ 0 * HP a i (s - κ)
theorem BM {p a A : List Rat} {m s i : Nat} {x : Rat} (hi : i ≤ m) (hA : ∀ j, j < s + m → A.getD j 0 = a.getD j 0) :
  ∀ K, K ≤ s + 1 → inner p A m (s + m) i x K = x - sm (fun κ => if i < m + κ then p.getD κ 0 * HP a i (s - κ) else 0) K
 | 0, _ => by rw [inner, sm]; grind
 | K + 1, hK => by
   have ih := BM (p := p) (x := x) hi hA K (by omega)
   rw [inner, sm]
   by_cases h : i < m + K
   ·rw [if_pos h, if_pos h, ih, hA _ (by omega), HP]
    have e1 : ((s + m : Nat) : Int) - ((m : Int) + (K : Int) - (i : Int)) = ((s - K + i : Nat) : Int) := by omega
    have e2 : s + m - (m + K - i) = s - K + i := by omega
    rw [e1, e2]; grind
   ·rw [if_neg h, if_neg h, ih]; grind
theorem GO {p a A : List Rat} {m s i : Nat} {x : Rat} (hi : i ≤ m) (hA : ∀ j, j < s + m → A.getD j 0 = a.getD j 0) :
  inner p A m (s + m) i x (min p.length (s + m - m + 1)) = x - sm (fun κ => if i < m + κ then p.getD κ 0 * HP a i (s - κ) else 0) (s + 1) := by
 rw [BM hi hA _ (by omega)]
 congr 1
 refine (pE (by omega) fun k h1 h2 => ?_).symm
 show (if i < m + k then _ else _) = (0 : Rat)
 rw [lI (l := p) (by omega)]; split <;> grind
theorem Cv {q : List (List Rat)} {a A : List Rat} {m s : Nat} (hA : ∀ j, j < s + m → A.getD j 0 = a.getD j 0) :
  ∀ i, i ≤ m + 1 → outer q A m (s + m) i = - sm (fun i => sm (fun κ => if i < m + κ then tW q a s i κ else 0) (s + 1)) i
 | 0, _ => by rw [outer, sm]; grind
 | i + 1, hi => by
   rw [outer, GO (by omega) hA, Cv hA i (by omega)]
   show _ = - (sm (fun i => sm (fun κ => if i < m + κ then tW q a s i κ else 0) (s + 1)) i + sm (fun κ => if i < m + κ then tW q a s i κ else 0) (s + 1))
   unfold tW; grind
theorem OT {q : List (List Rat)} {m s N : Nat} {lead : Rat} {y : List Rat} (hl : lead ≠ 0) (hql : q.length = m + 1) (hq0 : (q.getD m []).getD 0 0 = lead) (hs : s + m < N) :
  sm (fun i => sm (fun κ => tW q (aX q m lead y N) s i κ) (s + 1)) (m + 1) = 0 := by
 have hA : ∀ j, j < s + m → (aX q m lead y (s + m)).getD j 0 = (aX q m lead y N).getD j 0 := fun j hj => by
  rw [← kW q m lead y (k := s + m) (n := N) (by omega), List.getD_eq_getElem?_getD, List.getElem?_take, if_pos hj, List.getD_eq_getElem?_getD]
 have hn : (aX q m lead y N).getD (s + m) 0 = hJ q m lead y (s + m) (aX q m lead y (s + m)) := by
  have h1 : (aX q m lead y (s + m + 1)).getD (s + m) 0 = (aX q m lead y N).getD (s + m) 0 := by
   rw [← kW q m lead y (k := s + m + 1) (n := N) (by omega), List.getD_eq_getElem?_getD, List.getElem?_take, if_pos (by omega), List.getD_eq_getElem?_getD]
  rw [← h1, aX, List.getD_eq_getElem?_getD, List.getElem?_append_right (by rw [bF]; exact Nat.le_refl _), bF, Nat.sub_self]; rfl
 generalize hAA : aX q m lead y N = a at *
 rw [hJ, if_neg (by omega), hql, Cv hA (m + 1) (Nat.le_refl _)] at hn
 have hf : ((bW ((s + m : Nat) : Int) m : Int) : Rat) ≠ 0 := fun e => iZ (z := ((s + m : Nat) : Int)) (i := m) (by omega) (by
  have := congrArg Rat.num e; simpa using this)
 have h0 : tW q a s m 0 = lead * HP a m s := by rw [tW, hq0, Nat.sub_zero]
 have key : ∀ i, i ≤ m + 1 → sm (fun i => sm (fun κ => tW q a s i κ) (s + 1)) i = sm (fun i => sm (fun κ => if i < m + κ then tW q a s i κ else 0) (s + 1)) i + if m < i then tW q a s m 0 else 0 := by
  intro i
  induction i with
  | zero => intro _; rw [sm, sm, if_neg (by omega)]; grind
  | succ i ih =>
    intro hi
    show sm (fun i => sm (fun κ => tW q a s i κ) (s + 1)) i + sm (fun κ => tW q a s i κ) (s + 1) = sm (fun i => sm (fun κ => if i < m + κ then tW q a s i κ else 0) (s + 1)) i + sm (fun κ => if i < m + κ then tW q a s i κ else 0) (s + 1) + _
    rw [ih (by omega), if_neg (by omega)]
    rcases Nat.lt_or_ge i m with h | h
    ·rw [if_neg (by omega)]
     have e : sm (fun κ => tW q a s i κ) (s + 1) = sm (fun κ => if i < m + κ then tW q a s i κ else 0) (s + 1) := rS fun k _ => by
      show _ = if i < m + k then _ else _
      rw [if_pos (by omega)]
     rw [e]; grind
    ·obtain rfl : i = m := by omega
     rw [if_pos (by omega)]
     have e : ∀ K, sm (fun κ => tW q a s i κ) (K + 1) = sm (fun κ => if i < i + κ then tW q a s i κ else 0) (K + 1) + tW q a s i 0 := by
      intro K
      induction K with
      | zero =>
        show 0 + tW q a s i 0 = 0 + (if i < i + 0 then _ else 0) + tW q a s i 0
        rw [if_neg (by omega)]; grind
      | succ K ih2 =>
        show sm (fun κ => tW q a s i κ) (K + 1) + tW q a s i (K + 1) = sm (fun κ => if i < i + κ then tW q a s i κ else 0) (K + 1) + (if i < i + (K + 1) then tW q a s i (K + 1) else 0) + _
        rw [ih2, if_pos (by omega)]; grind
     rw [e]; grind
 rw [key (m + 1) (Nat.le_refl _), if_pos (by omega), h0, HP, hn]
 generalize sm (fun i => sm (fun κ => if i < m + κ then tW q a s i κ else 0) (s + 1)) (m + 1) = X
 rw [Rat.div_def]
 have hlf : lead * ((bW ((s + m : Nat) : Int) m : Int) : Rat) ≠ 0 := fun e => by
  rcases Rat.mul_eq_zero.1 e with e | e
  ·exact hl e
  ·exact hf e
 have hi := Rat.mul_inv_cancel _ hlf
 generalize ((bW ((s + m : Nat) : Int) m : Int) : Rat) = f at *
 generalize (lead * f)⁻¹ = g at *
 grind
theorem Ao {q : List (List Rat)} {m N i : Nat} {lead : Rat} {y : List Rat} (hi : i < m) (hN : i < N) : (aX q m lead y N).getD i 0 * ((bW i i : Int) : Rat) = y.getD i 0 := by
 have hf : ((bW (i : Int) i : Int) : Rat) ≠ 0 := fun e => iZ (z := (i : Int)) (i := i) (by omega) (by
  have := congrArg Rat.num e; simpa using this)
 have h1 : (aX q m lead y (i + 1)).getD i 0 = (aX q m lead y N).getD i 0 := by
  rw [← kW q m lead y (k := i + 1) (n := N) (by omega), List.getD_eq_getElem?_getD, List.getElem?_take, if_pos (by omega), List.getD_eq_getElem?_getD]
 rw [← h1, aX, List.getD_eq_getElem?_getD, List.getElem?_append_right (by rw [bF]; exact Nat.le_refl _), bF, Nat.sub_self]
 show hJ q m lead y i _ * _ = _
 rw [hJ, if_pos hi, Rat.div_def]
 have := Rat.mul_inv_cancel _ hf
 generalize ((bW (i : Int) i : Int) : Rat) = f at *
 generalize f⁻¹ = g at *
 grind
end Ord
