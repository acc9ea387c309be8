/- The coefficients: one of them; the iterator; the first of them.
-/
import Derived.Test.YtdmcadckdnnglaaGreatDoorQc
import Derived.Test.YtdmcadckdnnglaaGreatDoorSf
set_option linter.unusedVariables false
set_option linter.unusedSimpArgs false
namespace Go.Sy
open Go Go.Proofs Go.RowKit Go.Shelf Tryz Ord
theorem wV : aP aH.Sub [.one (.exact (.slice none 0 0)), .one (.bool false), .one (.exact (.slice none 0 0))] ((qC 0).map .one) := ⟨iI.1, iI.2.1, iI.2.2.1, trivial⟩
theorem YO {z : Int} (h : z ≠ 0) : (z : Rat) ≠ 0 := fun e => h (by simpa using e)
def mC : Tr := .ret [(.agg [(U 10 0), (U 10 1), (U 10 2)])]
def mD : Tr := .need (.call 207 [(.agg [(U 8 0), (U 8 1), (U 8 2)]), (.agg [(U 9 0), (U 9 1), (U 9 2)])] [(some 3)]) (.call ⟨.value (.func 207), #[(.tmp 23), (.tmp 26)], #[39, 39]⟩) 39 true mC
def lT : Tr := .need (.call 209 [(W 4 0), (W 4 0)] [(some 3)]) (.call ⟨.value (.func 209), #[(.tmp 24), (.tmp 25)], #[3, 3]⟩) 39 true mD
def mF : Tr := .need (.prim [(W 7 0)] (some 3)) (.load 39 (.tmp 22)) 39 false lT
def lZ : Tr := .need (.prim [(W 1 0), (W 4 0)] none) (.indexAddr 40 (.tmp 20) (.tmp 21)) 0 false mF
def jR : Tr := .back 1 [(.w (W 38 0)), (.w (W 37 0)), (.w (W 37 1)), (.w (W 37 2))]
def kJ : Tr := .need (.prim [(W 21 0), (WK (1))] none) (.binOp .add 3 (.tmp 46) (.const (I3 (1))) 3) 3 false jR
def kH : Tr := .need (.call 167 [(.agg [(U 22 0), (U 23 0), (U 24 0)]), (.agg [(U 36 0), (U 36 1), (U 36 2)])] [(some 3)]) (.call ⟨.value (.func 167), #[(.tmp 58), (.tmp 72)], #[39, 39]⟩) 39 true kJ
def kK : Tr := .need (.call 36 [(.agg [(U 33 0), (U 33 1), (U 33 2)]), (.agg [(U 35 0), (U 35 1), (U 35 2)])] [(some 3)]) (.call ⟨.value (.func 36), #[(.tmp 65), (.tmp 71)], #[39, 39]⟩) 39 true kH
def kP : Tr := .need (.ldrow 2 (.u 34 0) 0 3 true) (.load 39 (.tmp 70)) 39 false kK
def kL : Tr := .need (.idx 2 (.u 34 0)) (.indexAddr 40 (.tmp 66) (.tmp 69)) 0 false kP
def kW : Tr := .need (.prim [(W 4 0), (W 29 0)] none) (.binOp .sub 3 (.tmp 67) (.tmp 68) 3) 3 false kL
def kX : Tr := .need (.call 36 [(.agg [(U 27 0), (U 27 1), (U 27 2)]), (.agg [(U 32 0), (U 32 1), (U 32 2)])] [(some 3)]) (.call ⟨.value (.func 36), #[(.tmp 59), (.tmp 64)], #[39, 39]⟩) 39 false kW
def kQ : Tr := .need (.call 209 [(W 31 0), (W 8 0)] [(some 3)]) (.call ⟨.value (.func 209), #[(.tmp 62), (.tmp 63)], #[3, 3]⟩) 39 false kX
def kN : Tr := .need (.prim [(W 4 0), (W 29 0)] none) (.binOp .sub 3 (.tmp 60) (.tmp 61) 3) 3 false kQ
def kC : Tr := .back 1 [(.w (W 31 0)), (.w (W 22 0)), (.w (W 23 0)), (.w (W 24 0))]
def jV : Tr := .need (.prim [(W 21 0), (WK (1))] none) (.binOp .add 3 (.tmp 46) (.const (I3 (1))) 3) 3 false kC
def jW : Tr := .split (.u 30 0) kN jV
def kZ : Tr := .need (.prim [(W 29 0), (WK (0))] none) (.binOp .gtr 3 (.tmp 56) (.const (I3 (0))) 3) 4 false jW
def lD : Tr := .need (.prim [(W 28 0), (W 8 0)] none) (.binOp .sub 3 (.tmp 53) (.tmp 54) 3) 3 false kZ
def kB : Tr := .need (.prim [(W 3 0), (W 21 0)] none) (.binOp .add 3 (.tmp 51) (.tmp 52) 3) 3 false lD
def jS : Tr := .need (.prim [(W 26 0)] (some 3)) (.load 39 (.tmp 49)) 39 false kB
def lG : Tr := .need (.prim [(W 19 0), (W 21 0)] none) (.indexAddr 72 (.tmp 44) (.tmp 46)) 0 false jS
def kU : Tr := .back 0 [(.w (W 26 0)), (.w (W 22 0)), (.w (W 23 0)), (.w (W 24 0))]
def kM : Tr := .need (.prim [(W 8 0), (WK (1))] none) (.binOp .add 3 (.tmp 31) (.const (I3 (1))) 3) 3 false kU
def jY : Tr := .split (.u 25 0) lG kM
def jQ : Tr := .need (.prim [(W 21 0), (W 20 0)] none) (.binOp .lss 3 (.tmp 46) (.tmp 45) 3) 0 false jY
def lF : Tr := .loop 1 [(.w (WK (0))), (.w (W 9 0)), (.w (W 10 0)), (.w (W 11 0))] jQ
def kG : Tr := .need (.prim [(W 19 0)] none) (.call ⟨.builtin .len, #[(.tmp 44)], #[72]⟩) 3 false lF
def kA : Tr := .need (.prim [(W 14 0), (W 18 0)] none) (.slice 72 (.tmp 36) none (some (.tmp 43)) none) 72 false kG
def jU : Tr := .need (.prim [(W 15 0), (W 17 0)] none) (.call ⟨.builtin .min, #[(.tmp 38), (.tmp 42)], #[3, 3]⟩) 3 false kA
def kD : Tr := .need (.prim [(W 16 0), (WK (1))] none) (.binOp .add 3 (.tmp 41) (.const (I3 (1))) 3) 3 false jU
def jX : Tr := .need (.prim [(W 4 0), (W 3 0)] none) (.binOp .sub 3 (.tmp 39) (.tmp 40) 3) 3 false kD
def jZ : Tr := .need (.prim [(W 14 0)] none) (.call ⟨.builtin .len, #[(.tmp 37)], #[72]⟩) 3 false jX
def kO : Tr := .need (.prim [(W 13 0)] none) (.load 72 (.tmp 34)) 72 false jZ
def kR : Tr := .need (.prim [(W 0 0), (W 8 0)] none) (.indexAddr 31 (.tmp 29) (.tmp 31)) 0 false kO
def kV : Tr := .ret [(.agg [(U 15 0), (U 15 1), (U 15 2)])]
def kF : Tr := .need (.call 207 [(.agg [(U 9 0), (U 10 0), (U 11 0)]), (.agg [(U 14 0), (U 14 1), (U 14 2)])] [(some 3)]) (.call ⟨.value (.func 207), #[(.tmp 76), (.tmp 82)], #[39, 39]⟩) 39 true kV
def jP : Tr := .need (.call 36 [(.agg [(U 0 2), (U 0 3), (U 0 4)]), (.agg [(U 13 0), (U 13 1), (U 13 2)])] [(some 3)]) (.call ⟨.value (.func 36), #[(.tmp 78), (.tmp 81)], #[39, 39]⟩) 39 true kF
def kI : Tr := .need (.call 209 [(W 4 0), (W 3 0)] [(some 3)]) (.call ⟨.value (.func 209), #[(.tmp 79), (.tmp 80)], #[3, 3]⟩) 39 false jP
def lE : Tr := .split (.u 12 0) kR kI
def lY : Tr := .need (.prim [(W 8 0), (W 7 0)] none) (.binOp .lss 3 (.tmp 31) (.tmp 30) 3) 0 false lE
def mA : Tr := .loop 0 [(.w (WK (0))), (.w (.one (.c (.k (.slice none 0 0))))), (.w (.one (.c (.k (.bool false))))), (.w (.one (.c (.k (.slice none 0 0)))))] lY
def mG : Tr := .need (.prim [(W 0 0)] none) (.call ⟨.builtin .len, #[(.tmp 29)], #[31]⟩) 3 false mA
def lX : Tr := .split (.u 6 0) lZ mG
def fP : Tr := .need (.prim [(W 4 0), (W 3 0)] none) (.binOp .lss 3 (.tmp 17) (.tmp 18) 3) 4 false lX
theorem nP : Jj prog f247 39 = fP := by kernel_rfl
set_option maxHeartbeats 1000000 in
theorem TS (q : List (List Rat)) (m : Nat) (lead : Rat) (y : List Rat) (n N B : Nat) (f0 : Value) (C : nV B q m lead y N) (hn : n < N) (hN : N ≤ 1073741824) (hm : m ≤ 64) (hmN : m ≤ N) (hB : B ≤ 8589934592) (h64 : 64 ≤ B) (hql : q.length = m + 1) (hyl : y.length = m) (hp : ∀ p ∈ q, p.length < 1099511627776) (hl0 : lead ≠ 0) :
  vc prog (fun o => o = .ret [qT (fE q m lead y n (aW q m lead y n))]) fP [.agg ([eQ q, .int .i64 m] ++ qC lead), .agg [sQ y], .rows (rQ (aW q m lead y n)), .one (.int .i64 m), .one (.int .i64 n), .one (.exact f0)] [] := by
 obtain ⟨a, ha⟩ : ∃ a, aW q m lead y n = a := ⟨_, rfl⟩
 have hal : a.length = n := by rw [← ha, bU]
 have hfa : ∀ x ∈ a, Fit B x := fun x hx => by
  rw [← ha] at hx
  obtain ⟨j, hj⟩ := List.mem_iff_getElem?.1 hx
  have hjn : j < n := by have := (List.getElem?_eq_some_iff.1 hj).1; rw [bU] at this; exact this
  have h1 := Dm q m lead y (k := j + 1) (n := n) (by omega)
  have h2 : (aW q m lead y (j + 1))[j]? = some x := by rw [← h1, List.getElem?_take, if_pos (by omega), hj]
  rw [aW, List.getElem?_append_right (by rw [bU]; exact Nat.le_refl _), bU, Nat.sub_self] at h2
  simp only [List.getElem?_cons_zero, Option.some.injEq] at h2
  rw [← h2]; exact C.fa j (by omega)
 have hfx := C.fx n
 rw [ha] at hfx ⊢
 dsimp only [aA, aB]
 refine vn aU rfl ?_
 dsimp only [aA, aB]
 refine vs _ rfl (fun h1 => ?_) (fun h1 => ?_)
 ·refine vn (aR nR (by omega) (Int.toNat_natCast n) (dL (l := y) (show n < y.length by omega))) rfl ?_
  dsimp only [aA, aB]
  refine vn (cB tT (by decide) (by simp) (.inl rfl)) rfl ?_
  dsimp only [aA, aB]
  refine aC (qW (n : Int) n B (by omega) (by omega) (by omega) (by omega) h64 (fun j hj => C.ffac n (by omega) j hj)) rfl ?_
  dsimp only [aA, aB]
  refine aC (vU (y.getD n 0) ((bJ n n : Int) : Rat) B B (YO (jE (Int.le_refl _))) (pB (by omega) C.fy n) (C.ffac n (by omega) n (Nat.le_refl _)) (by omega)) rfl ?_
  dsimp only [aA, aB]
  show Out.ret _ = Out.ret _
  rw [fE, if_pos (show n < m by omega)]
  rfl
 refine vn (aK EZ (List.length_map _)) rfl ?_
 dsimp only [aA, aB]
 have hmn : m ≤ n := by omega
 refine aY {i : Nat // i ≤ q.length} (fun g => (.one (.int .i64 g.1) : aH) :: (qC (outer q a m n g.1)).map .one) (fun g => q.length - g.1) ⟨0, Nat.zero_le _⟩ ⟨aH.Sub.same, wV⟩ (fun _ => rfl) ?_
 rintro ⟨i, hi⟩
 dsimp only [aA, aB, List.map] at hi ⊢
 refine vn aU rfl ?_
 dsimp only [aA, aB]
 refine vs _ rfl (fun h10 => ?_) (fun h10 => ?_)
 ·obtain ⟨p, hpi⟩ : ∃ p, q[i]? = some p := ⟨_, List.getElem?_eq_getElem (by omega)⟩
  have hgd : q.getD i [] = p := by rw [List.getD_eq_getElem?_getD, hpi]; rfl
  have hpl := hp p (List.mem_of_getElem? hpi)
  have hfp := C.fq p (List.mem_of_getElem? hpi)
  have hfx := fun k => hfx i k hn hmn (by omega)
  rw [hgd] at hfx
  obtain ⟨t, ht⟩ : ∃ t, min p.length (n - m + 1) = t := ⟨_, rfl⟩
  rw [ht] at hfx
  have htl : (p.take t).length = t := by rw [List.length_take]; omega
  refine vn (aR EZ (by omega) (by omega) hpi) rfl ?_
  dsimp only [aA, aB]
  refine vn (bA DH) rfl ?_
  dsimp only [aA, aB]
  refine vn (aK gL (List.length_map _)) rfl ?_
  dsimp only [aA, aB]
  refine vn (aG (by omega) (by omega)) rfl ?_
  dsimp only [aA, aB]
  refine vn (aE (by omega) (by omega)) rfl ?_
  dsimp only [aA, aB]
  refine vn (Ie (k := .i64) (a := (p.length : Int)) (b := (n : Int) - (m : Int) + 1)) rfl ?_
  rw [show min (p.length : Int) ((n : Int) - (m : Int) + 1) = (t : Int) by omega]
  dsimp only [aA, aB]
  refine vn (rJ gL (m := t) (by omega) (by omega) (by omega)) rfl ?_
  dsimp only [aA, aB]
  refine vn (aK gL (show (rQ (p.take t)).length = t by rw [List.length_map, htl])) rfl ?_
  dsimp only [aA, aB]
  refine aY {k : Nat // k ≤ t} (fun g => (.one (.int .i64 g.1) : aH) :: (qC (inner p a m n i (outer q a m n i) g.1)).map .one) (fun g => t - g.1) ⟨0, Nat.zero_le _⟩ aL.rfl (fun _ => rfl) ?_
  rintro ⟨k, hk⟩
  dsimp only [aA, aB, List.map] at hk ⊢
  refine vn aU rfl ?_
  dsimp only [aA, aB]
  refine vs _ rfl (fun h21 => ?_) (fun h21 => ?_)
  ·have hkt : k < t := by omega
   have hget : (p.take t)[k]? = some (p.getD k 0) := by rw [List.getElem?_take, if_pos hkt]; exact dL (by omega)
   refine vn (aR gL (by omega) (by omega) hget) rfl ?_
   dsimp only [aA, aB]
   refine vn (cB tT (by decide) (by simp) (.inl rfl)) rfl ?_
   dsimp only [aA, aB]
   refine vn (aE (by omega) (by omega)) rfl ?_
   dsimp only [aA, aB]
   refine vn (aG (by omega) (by omega)) rfl ?_
   dsimp only [aA, aB]
   refine vn cT rfl ?_
   dsimp only [aA, aB]
   refine vs _ rfl (fun h27 => ?_) (fun h27 => ?_)
   ·have hj : i < m + k := by omega
    have hz1 : ((n : Int) - ((m : Int) + k - i)).natAbs ≤ N := by omega
    have hz3 : (n : Int) - ((m : Int) + k - i) < n := by omega
    obtain ⟨d, hd⟩ : ∃ d : Nat, n - (m + k - i) = d := ⟨_, rfl⟩
    have hdi : (n : Int) - ((m : Int) + k - i) = (d : Int) := by omega
    have hdn : d < n := by omega
    have hcf : ∀ j ≤ i, Fit B ((bJ ((n : Int) - ((m : Int) + k - i)) j : Int) : Rat) := fun j hj => C.ffall n i hn (by omega) _ hz1 j hj
    have hc := hfp (p.getD k 0) (List.mem_of_getElem? (dL (l := p) (by omega)))
    refine vn (aG (by omega) (by omega)) rfl ?_
    dsimp only [aA, aB]
    refine aC (qW _ i B (by omega) (by omega) (by omega) (by omega) h64 hcf) rfl ?_
    dsimp only [aA, aB]
    refine aC (gJ _ _ B B hc (hcf i (Nat.le_refl _)) (by omega)) rfl ?_
    dsimp only [aA, aB]
    refine vn (aG (by omega) (by omega)) rfl ?_
    dsimp only [aA, aB]
    refine bW rfl rfl (by omega) (by omega) ?_
    refine Hx (d := a.getD d 0) rfl rfl (by omega) (show ((n : Int) - ((m : Int) + k - i)).toNat = d by omega) (dL (l := a) (by omega)) (.inl rfl) rfl ?_
    dsimp only [aA, aB, HH, List.drop, List.take]
    refine aC (gJ _ _ (B + B) B (hc.mul (hcf i (Nat.le_refl _))) (pB (by omega) hfa d) (by omega)) rfl ?_
    dsimp only [aA, aB]
    refine aC (QF _ _ B (B + B + B) (hfx k (by omega)) ((hc.mul (hcf i (Nat.le_refl _))).mul (pB (by omega) hfa d)) (by omega)) rfl ?_
    dsimp only [aA, aB]
    refine vn (aE (by omega) (by omega)) rfl ?_
    dsimp only [aA, aB]
    exact aO rfl ⟨⟨k + 1, by omega⟩, (by
     dsimp only
     rw [inner, if_pos hj, hd]
     exact aL.rfl), by show t - (k + 1) < t - k; omega⟩
   refine vn (aE (by omega) (by omega)) rfl ?_
   dsimp only [aA, aB]
   exact aO rfl ⟨⟨k + 1, by omega⟩, (by
    dsimp only
    rw [inner, if_neg (by omega)]
    exact aL.rfl), by show t - (k + 1) < t - k; omega⟩
  refine vn (aE (by omega) (by omega)) rfl ?_
  dsimp only [aA, aB]
  exact aO rfl ⟨⟨i + 1, by omega⟩, (by
   dsimp only
   rw [outer, hgd, ht, show t = k by omega]
   exact aL.rfl), by show q.length - (i + 1) < q.length - i; omega⟩
 have hiq : q.length = i := by omega
 have hfx' : Fit B (outer q a m n i) := by
  have := hfx m (min (q.getD m []).length (n - m + 1)) hn hmn (by omega) (Nat.le_refl _)
  rw [show i = m + 1 by omega]; exact this
 have hfm := fun j hj => C.ffall n m hn (Nat.le_refl _) n (by omega) j hj
 refine aC (qW (n : Int) m B (by omega) (by omega) (by omega) (by omega) h64 hfm) rfl ?_
 dsimp only [aA, aB]
 refine aC (gJ lead _ B B C.flead (hfm m (Nat.le_refl _)) (by omega)) rfl ?_
 dsimp only [aA, aB]
 refine aC (vU _ _ B (B + B) (fun h => by
  rcases Rat.mul_eq_zero.1 h with h | h
  ·exact hl0 h
  ·exact YO (jE (z := (n : Int)) (i := m) (by omega)) h) hfx' (C.flead.mul (hfm m (Nat.le_refl _))) (by omega)) rfl ?_
 dsimp only [aA, aB]
 show Out.ret _ = Out.ret _
 rw [fE, if_neg (by omega), hiq]
 rfl
end Go.Sy
