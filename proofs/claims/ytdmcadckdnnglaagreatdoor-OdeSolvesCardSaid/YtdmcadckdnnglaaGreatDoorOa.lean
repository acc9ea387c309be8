/- Equations: Check, CheckEquation; Valid, Right. The reference: Eval, Valid, Regular, Right; Alike.
-/
import Derived.Test.YtdmcadckdnnglaaGreatDoorTb
set_option linter.unusedVariables false
set_option linter.unusedSimpArgs false
namespace Go.Sy
open Go Go.Proofs Tryz Ord
def Tt : Tr := .split (.u 5 0) (gV 0 0 4 0 32 12 13 (fU 6 0 none 72 14 (.need (.callv (.u 1 0) [(W 7 0)] [none]) (.call ⟨.value (tT 11), #[(tT 15)], #[72]⟩) 4 true (.split (.u 8 0) (.ret [(W 4 0)]) (aV .add 3 8 1 4 0 3 (.back 0 [lV 3 0, lV 9 0])))))) (.ret [(WK (-1))])
def Vh : Tr := cM 0 0 6 32 (.loop 0 [lK 0, lK 0] (bK .lss 3 8 7 4 0 2 0 0 Tt))
theorem Ig : aL prog f180 (fun _ => none) [.v none, .v none] = Vh := by kernel_rfl
def Vn : Tr := aN 180 [(W 0 0), (W 1 0)] [none] [5, 6] [32, 165] 3 true (aV .geq 3 7 0 2 0 4 (.ret [(W 3 0)]))
theorem Dx : aL prog f93 (fun _ => none) [.v none, .v none] = Vn := by kernel_rfl
def UX : Tr := aN 95 [(W 0 0)] [none] [3] [72] 3 true (aV .gtr 3 4 40 1 0 4 (.ret [(W 2 0)]))
theorem pZ : aL prog f94 (fun _ => none) [.v none] = UX := by kernel_rfl
def wA : Tr := .ret [(WK 2)]
def Kv : Tr := .ret [(WK 0)]
def Rx : Tr := cM 0 0 17 32 (aV .sub 3 18 1 6 0 3 (gV 0 0 7 0 32 16 19 (fU 8 0 none 72 20 (aN 95 [(W 9 0)] [none] [21] [72] 3 false (aV .lss 3 22 0 10 0 4 (.split (.u 11 0) wA Kv))))))
def SG : Tr := aV .lss 3 4 2 1 0 4 (.split (.u 2 0) wA (cM 0 0 7 32 (aV .gtr 3 8 5 3 0 4 (.split (.u 4 0) wA (.need (.call 93 [(W 0 0), (.one (.gI 94 []))] [none]) (.call ⟨.value (.func 93), #[(tT 12), (.func 94)], #[32, 165]⟩) 4 false (.split (.u 5 0) wA Rx))))))
def UD : Tr := cM 0 0 3 32 SG
theorem sU : aL prog f19 (fun _ => none) [.v none] = UD := by kernel_rfl
def SO : Tr := aV .sub 3 7 1 2 0 3 (gV 0 0 3 0 32 5 8 (fU 4 0 none 72 9 (aN 181 [(W 5 0), (G3 1)] [(some 3)] [10, 11] [72, 39] 39 false (aN 35 [(G3 6)] [none] [12] [39] 3 true (aV .neq 3 13 0 7 0 4 (.ret [(W 8 0)]))))))
def TW : Tr := cM 0 0 6 32 SO
theorem EI : aL prog f97 (fun _ => none) [.v none, .v (some 3)] = TW := by kernel_rfl
def Ux : Tr := cM 0 0 12 32 (aV .sub 3 13 1 4 0 3 (bK .neq 3 10 14 3 0 5 0 4 (.split (.u 6 0) wA (aN 97 [(W 0 0), (.agg [(U 0 1), (U 0 2), (U 0 3)])] [none] [19, 21] [32, 39] 4 false (.need (.prim [(W 7 0)] none) (.unOp .not 4 (tT 22)) 4 false (.split (.u 8 0) wA Kv))))))
def UI : Tr := aN 19 [(W 0 0)] [none] [4] [32] 55 false (aV .neq 55 5 0 1 0 4 (.split (.u 2 0) wA (cM 0 4 9 40 Ux)))
theorem Kq : aL prog f21 (fun _ => none) [.v (some 5)] = UI := by kernel_rfl
abbrev cQ (p : List Rat) : List aF := [sQ p]
abbrev cR (p : List RQ) : List aF := [sR p]
abbrev eQ (e : List (List Rat)) : aF := .slice 1 (e.map cQ)
abbrev eR (e : List (List RQ)) : aF := .slice 1 (e.map cR)
def BZ {α : Type} (c : α → Bool) : List α → Nat → Int
 | [], _ => -1
 | x :: xs, i => if c x then (i : Int) else BZ c xs (i + 1)
theorem CX {α : Type} (c : α → Bool) : ∀ (l : List α) (i : Nat), decide (0 ≤ BZ c l i) = l.any c
 | [], i => rfl
 | x :: xs, i => by
   simp only [BZ, List.any_cons]
   split
   ·rename_i h; rw [h]; simp
   ·rename_i h; rw [CX c xs (i + 1)]; simp [h]
theorem Kn (e : List (List Rat)) (g : Nat) (c : List Rat → Bool) (hc : ∀ p ∈ e, aO prog g [.one (sQ p)] (.ret [.one (.bool (c p))])) (hs : e.length < 1099511627776) : aO prog 180 [(.one (eQ e) : aI), (.one (.gI g []) : aI)] (.ret [.one (.int .i64 (BZ c e 0))]) := by
 refine aD (args := [.v none, .v none]) (ins := [.v (.one (eQ e)), .v (.one (.gI g []))]) (hints := (fun _ => none)) fo (by kernel_rfl) func180 ⟨rfl, rfl, trivial⟩ ?_
 rw [Ig]
 dsimp only [List.map, In.env, aA, aB]
 refine vn (aM rI (List.length_map _)) rfl ?_
 dsimp only [aA, aB]
 refine bA {i : Nat // i ≤ e.length ∧ BZ c e 0 = BZ c (e.drop i) i} (fun g => [.one (.int .i64 0), .one (.int .i64 g.1)]) (fun g => e.length - g.1) ⟨0, Nat.zero_le _, rfl⟩ aK.rfl (fun _ => rfl) ?_
 rintro ⟨i, hi, hf⟩
 dsimp only [aA, aB] at hi hf ⊢
 refine vn aZ rfl ?_
 dsimp only [aA, aB]
 refine vs _ rfl (fun h3 => ?_) (fun h3 => ?_)
 ·obtain ⟨p, hp⟩ : ∃ p, e[i]? = some p := ⟨_, List.getElem?_eq_getElem (by omega)⟩
  have hdrop : e.drop i = p :: e.drop (i + 1) := by
   rw [List.drop_eq_getElem_cons (by omega), (List.getElem?_eq_some_iff.1 hp).2]
  rw [hdrop, BZ] at hf
  refine vn (aW rI (by omega) (by omega) hp) rfl ?_
  dsimp only [aA, aB]
  refine vn (bB Ax) rfl ?_
  dsimp only [aA, aB]
  refine Kx (f := g) (caps := []) rfl (hc p (List.mem_of_getElem? hp)) rfl ?_
  dsimp only [aA, aB]
  refine Aj (c p) rfl (fun h7 => ?_) (fun h7 => ?_)
  ·rw [hf, if_pos h7]; exact aJ rfl
  refine vn (aE (by omega) (by omega)) rfl ?_
  dsimp only [aA, aB]
  exact aR rfl ⟨⟨i + 1, by omega, by rw [hf, if_neg (by simp [h7])]⟩, aK.rfl, by show e.length - (i + 1) < e.length - i; omega⟩
 rw [hf, List.drop_eq_nil_of_le (by omega), BZ]; exact aJ rfl
theorem BS (e : List (List Rat)) (g : Nat) (c : List Rat → Bool) (hc : ∀ p ∈ e, aO prog g [.one (sQ p)] (.ret [.one (.bool (c p))])) (hs : e.length < 1099511627776) : aO prog 93 [(.one (eQ e) : aI), (.one (.gI g []) : aI)] (.ret [.one (.bool (e.any c))]) := by
 refine aD (args := [.v none, .v none]) (ins := [.v (.one (eQ e)), .v (.one (.gI g []))]) (hints := (fun _ => none)) fo (by kernel_rfl) func93 ⟨rfl, rfl, trivial⟩ ?_
 rw [Dx]
 dsimp only [List.map, In.env, aA, aB]
 refine aC (Kn e g c hc hs) rfl ?_
 dsimp only [aA, aB]
 refine vn dZ rfl ?_
 dsimp only [aA, aB]
 rw [← CX c e 0]; exact aJ rfl
def yY (p : List Rat) : Bool := decide (41 < dL zr p)
theorem qL (p : List Rat) (hs : p.length < 1099511627776) : aO prog 94 [(.one (sQ p) : aI)] (.ret [.one (.bool (yY p))]) := by
 refine aD (args := [.v none]) (ins := [.v (.one (sQ p))]) (hints := (fun _ => none)) fo (by kernel_rfl) func94 ⟨rfl, trivial⟩ ?_
 rw [pZ]
 dsimp only [List.map, In.env, aA, aB]
 refine aC (sG p hs) rfl ?_
 dsimp only [aA, aB]
 refine vn dX rfl ?_
 dsimp only [aA, aB]
 refine aJ ?_
 rw [yY, show decide (41 < dL zr p) = decide ((40 : Int) < (dL zr p : Int) - 1) by rw [decide_eq_decide]; omega]
 rfl
def vF (e : List (List Rat)) : Bool := decide (2 ≤ e.length ∧ e.length ≤ 5 ∧ (∀ p ∈ e, dL zr p ≤ 41) ∧ ∀ p, e[e.length - 1]? = some p → dL zr p ≠ 0)
theorem mV (e : List (List Rat)) (hs : e.length < 1099511627776) (hp : ∀ p ∈ e, p.length < 1099511627776) : aO prog 19 [(.one (eQ e) : aI)] (.ret [.one (.int .i64 (if vF e then 0 else 2))]) := by
 refine aD (args := [.v none]) (ins := [.v (.one (eQ e))]) (hints := (fun _ => none)) fo (by kernel_rfl) func19 ⟨rfl, trivial⟩ ?_
 rw [sU]
 dsimp only [List.map, In.env, aA, aB]
 refine vn (aM rI (List.length_map _)) rfl ?_
 dsimp only [aA, aB]
 refine vn aZ rfl ?_
 dsimp only [aA, aB]
 refine vs _ rfl (fun h2 => ?_) (fun h2 => ?_)
 ·rw [if_neg (by unfold vF; rw [decide_eq_true_iff]; omega)]; exact aJ rfl
 refine vn (aM rI (List.length_map _)) rfl ?_
 dsimp only [aA, aB]
 refine vn dX rfl ?_
 dsimp only [aA, aB]
 refine vs _ rfl (fun h6 => ?_) (fun h6 => ?_)
 ·rw [if_neg (by unfold vF; rw [decide_eq_true_iff]; omega)]; exact aJ rfl
 refine aC (BS e 94 yY (fun p hp' => qL p (hp p hp')) hs) rfl ?_
 dsimp only [aA, aB]
 refine Aj (e.any yY) rfl (fun h9 => ?_) (fun h9 => ?_)
 ·rw [if_neg (by
   unfold vF; rw [decide_eq_true_iff]
   rintro ⟨_, _, h, _⟩
   obtain ⟨p, hp1, hp2⟩ := List.any_eq_true.1 h9
   have := h p hp1
   simp [yY] at hp2; omega)]; exact aJ rfl
 refine vn (aM rI (List.length_map _)) rfl ?_
 dsimp only [aA, aB]
 refine vn (aH (by omega) (by omega)) rfl ?_
 dsimp only [aA, aB]
 obtain ⟨p, hpl⟩ : ∃ p, e[e.length - 1]? = some p := ⟨_, List.getElem?_eq_getElem (by omega)⟩
 refine vn (aW rI (by omega) (by omega) hpl) rfl ?_
 dsimp only [aA, aB]
 refine vn (bB Ax) rfl ?_
 dsimp only [aA, aB]
 refine aC (sG p (hp p (List.mem_of_getElem? hpl))) rfl ?_
 dsimp only [aA, aB]
 refine vn aZ rfl ?_
 dsimp only [aA, aB]
 refine vs _ rfl (fun h17 => ?_) (fun h17 => ?_)
 ·rw [if_neg (by
   unfold vF; rw [decide_eq_true_iff]
   rintro ⟨_, _, _, h⟩
   have := h p hpl
   omega)]; exact aJ rfl
 rw [if_pos (by
  unfold vF; rw [decide_eq_true_iff]
  refine ⟨by omega, by omega, fun p' hp' => ?_, fun p' hp' => ?_⟩
  ·have := List.any_eq_false.1 h9 p' hp'
   simp [yY] at this; omega
  ·rw [hpl] at hp'; simp only [Option.some.injEq] at hp'; subst hp'; omega)]; exact aJ rfl
structure KZ (e : List (List Rat)) : Prop where
 l : e.length ≤ 64
 p : ∀ p ∈ e, p.length ≤ 64 ∧ ∀ q ∈ p, Fit 513 q
def pQ (e : List (List Rat)) (c : Rat) : Bool := decide (∀ p, e[e.length - 1]? = some p → iC p c ≠ 0)
theorem xJ (e : List (List Rat)) (c : Rat) (he : KZ e) (h0 : 0 < e.length) (hc : Fit 513 c) : aO prog 97 [(.one (eQ e) : aI), (qT c : aI)] (.ret [.one (.bool (pQ e c))]) := by
 refine aD (args := [.v none, .v (some 3)]) (ins := [.v (.one (eQ e)), .v (qT c)]) (hints := (fun _ => none)) fo (by kernel_rfl) func97 ⟨rfl, rfl, trivial⟩ ?_
 rw [EI]
 dsimp only [List.map, In.env, aA, aB]
 have hl := he.l
 refine vn (aM rI (List.length_map _)) rfl ?_
 dsimp only [aA, aB]
 refine vn (aH (by omega) (by omega)) rfl ?_
 dsimp only [aA, aB]
 obtain ⟨p, hpl⟩ : ∃ p, e[e.length - 1]? = some p := ⟨_, List.getElem?_eq_getElem (by omega)⟩
 obtain ⟨hp1, hp2⟩ := he.p p (List.mem_of_getElem? hpl)
 refine vn (aW rI (by omega) (by omega) hpl) rfl ?_
 dsimp only [aA, aB]
 refine vn (bB Ax) rfl ?_
 dsimp only [aA, aB]
 refine aC (Mw p c 513 (by omega) hp2 hc (by omega)) rfl ?_
 dsimp only [aA, aB]
 refine aC (iG _) rfl ?_
 dsimp only [aA, aB]
 refine vn fX rfl ?_
 dsimp only [aA, aB]
 refine aJ ?_
 have : pQ e c = decide ((iC p c).num.sign ≠ 0) := by
  unfold pQ
  rw [decide_eq_decide]
  constructor
  ·intro h hh; exact h p hpl (sign_zero.1 hh)
  ·intro h p' hp' hh
   rw [hpl] at hp'; simp only [Option.some.injEq] at hp'; subst hp'
   exact h (sign_zero.2 hh)
 rw [this]; rfl
def okF (e : List (List Rat)) (c : Rat) (y : List Rat) : Bool := vF e && decide (y.length = e.length - 1) && pQ e c
theorem Dz (e : List (List Rat)) (c : Rat) (y : List Rat) (he : KZ e) (hc : Fit 513 c) (hy : y.length < 1099511627776) : aO prog 21 [(.agg [eQ e, dT c.num.natAbs, .bool (decide (c.num < 0)), dT (c.den - 1), sQ y] : aI)] (.ret [.one (.int .i64 (if okF e c y then 0 else 2))]) := by
 refine aD (args := [.v (some 5)]) (ins := [.v (.agg [eQ e, dT c.num.natAbs, .bool (decide (c.num < 0)), dT (c.den - 1), sQ y])]) (hints := (fun _ => none)) fo (by kernel_rfl) func21 ⟨rfl, trivial⟩ ?_
 rw [Kq]
 dsimp only [List.map, In.env, aA, aB]
 have hl := he.l
 have hp := he.p
 refine aC (mV e (by omega) (fun p hp' => by have := (hp p hp').1; omega)) rfl ?_
 dsimp only [aA, aB]
 refine vn fX rfl ?_
 dsimp only [aA, aB]
 have h2' : decide ((if vF e = true then (0 : Int) else 2) ≠ 0) = !vF e := by cases vF e <;> rfl
 rw [h2']
 refine Aj (!vF e) rfl (fun h2 => ?_) (fun h2 => ?_)
 ·rw [if_neg (by simp at h2; simp [okF, h2])]; exact aJ rfl
 have h2 : vF e = true := by simpa using h2
 have hlen : 2 ≤ e.length := by unfold vF at h2; rw [decide_eq_true_iff] at h2; exact h2.1
 refine vn (aM qQ (List.length_map _)) rfl ?_
 dsimp only [aA, aB]
 refine vn (aM rI (List.length_map _)) rfl ?_
 dsimp only [aA, aB]
 refine vn (aH (by omega) (by omega)) rfl ?_
 dsimp only [aA, aB]
 refine vn fX rfl ?_
 dsimp only [aA, aB]
 refine vs _ rfl (fun h8 => ?_) (fun h8 => ?_)
 ·rw [if_neg (by simp [okF]; intro _ _; omega)]; exact aJ rfl
 refine aC (xJ e c he (by omega) hc) rfl ?_
 dsimp only [aA, aB]
 refine vn xH rfl ?_
 dsimp only [aA, aB]
 refine Aj (!pQ e c) rfl (fun h12 => ?_) (fun h12 => ?_)
 ·rw [if_neg (by simp at h12; simp [okF, h12])]; exact aJ rfl
 rw [if_pos (by simp at h12; simp [okF, h12, h2]; omega)]; exact aJ rfl
end Go.Sy
namespace Go.Sy
open Go Go.Proofs Tryz Ord
def DM (e : List (List RQ)) : List (List Rat) := e.map fun p => p.map RQ.q
end Go.Sy
