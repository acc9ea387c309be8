/- Lists of rational numbers: Clone, Trim, Degree. slices.Backward over numbers; Horner's rule. Numbers as they are handed in.
-/
import Derived.Test.YtdmcadckdnnglaaGreatDoorRb
import Derived.Laws.Cover3
import Derived.RangeFuncFrom
import Derived.RangeFuncBox
import Derived.RangeFuncLeaves
import Derived.Shelf.Abstract
import Derived.WalkKit
import Derived.OwnWalkIn
import Derived.TacticsInMore
import Derived.LoopNIn
import Derived.LoopIn
set_option linter.unusedVariables false
set_option linter.unusedSimpArgs false
namespace Go.Sy
open Go Go.Proofs Tryz Ord
def Xl : Tr := .need (.prim [(W 0 0), (.one (.c (.k (.slice none 0 0))))] none) (.binOp .eql 72 (.tmp 3) (.const (.slice none 0 0)) 72) 4 false (.split (.u 1 0) (.ret [(.one (.c (.k (.slice none 0 0))))]) (.need (.lit 3 []) (.buildSlice 72 0 #[]) 72 false (.need (.app 3 56 (some 2) (some (.u 0 0)) none) (.call ⟨.builtin .append, #[(.tmp 5), (.tmp 6)], #[72, 72]⟩) 72 false (.ret [(.one (.c (.sr 3 3)))]))))
theorem Db : aM prog f113 (fun _ => none) [.v none] = Xl := by kernel_rfl
def Ik : Tr := .need (.prim [(W 2 0), (WK (1))] none) (.binOp .sub 3 (.tmp 17) (.const (I3 (1))) 3) 3 false (.back 0 [(.w (W 9 0))])
def Xf : Tr := .need (.prim [(W 5 0)] (some 3)) (.load 39 (.tmp 12)) 39 false (.need (.call 35 [(.agg [(U 6 0), (U 6 1), (U 6 2)])] [none]) (.call ⟨.value (.func 35), #[(.tmp 13)], #[39]⟩) 3 false (.need (.prim [(W 7 0), (WK (0))] none) (.binOp .eql 3 (.tmp 14) (.const (I3 (0))) 3) 4 false (.split (.u 8 0) Ik (.need (.prim [(W 0 0), (W 2 0)] none) (.slice 72 (.tmp 19) none (some (.tmp 20)) none) 72 false (.need (.call 113 [(W 9 0)] [none]) (.call ⟨.value (.func 113), #[(.tmp 21)], #[72]⟩) 72 true (.ret [(W 10 0)]))))))
def WC : Tr := .need (.prim [(W 0 0)] none) (.call ⟨.builtin .len, #[(.tmp 4)], #[72]⟩) 3 false (.loop 0 [(.w (W 1 0))] (.need (.prim [(W 2 0), (WK (0))] none) (.binOp .gtr 3 (.tmp 6) (.const (I3 (0))) 3) 4 false (.split (.u 3 0) (.need (.prim [(W 2 0), (WK (1))] none) (.binOp .sub 3 (.tmp 10) (.const (I3 (1))) 3) 3 false (.need (.prim [(W 0 0), (W 4 0)] none) (.indexAddr 72 (.tmp 9) (.tmp 11)) 0 false Xf)) (.need (.prim [(W 0 0), (W 2 0)] none) (.slice 72 (.tmp 19) none (some (.tmp 20)) none) 72 false (.need (.call 113 [(W 4 0)] [none]) (.call ⟨.value (.func 113), #[(.tmp 21)], #[72]⟩) 72 true (.ret [(W 5 0)]))))))
theorem Ny : aM prog f34 (fun _ => none) [.v none] = WC := by kernel_rfl
def Pu : Tr := .need (.prim [(W 2 0), (WK (1))] none) (.binOp .sub 3 (.tmp 5) (.const (I3 (1))) 3) 3 false (.ret [(W 3 0)])
def Wb : Tr := .need (.call 34 [(W 0 0)] [none]) (.call ⟨.value (.func 34), #[(.tmp 3)], #[72]⟩) 72 false (.need (.prim [(W 1 0)] none) (.call ⟨.builtin .len, #[(.tmp 4)], #[72]⟩) 3 false Pu)
theorem GV : aM prog f95 (fun _ => none) [.v none] = Wb := by kernel_rfl
def VM : Tr := .need (.prim [(W 5 0)] (some 4)) (.load 49 (.tmp 12)) 49 false (.need (.call 46 [(.agg [(U 6 0), (U 6 1), (U 6 2), (U 6 3)])] [none]) (.call ⟨.value (.func 46), #[(.tmp 13)], #[49]⟩) 3 false (.need (.prim [(W 7 0), (WK (0))] none) (.binOp .eql 3 (.tmp 14) (.const (I3 (0))) 3) 4 false (.split (.u 8 0) Ik (.need (.prim [(W 0 0), (W 2 0)] none) (.slice 167 (.tmp 19) none (some (.tmp 20)) none) 167 false (.need (.app 4 64 none (some (.u 9 0)) none) (.call ⟨.builtin .append, #[(.const (.slice none 0 0)), (.tmp 21)], #[167, 167]⟩) 167 false (.ret [(.one (.c (.sr 4 10)))]))))))
def UC : Tr := .need (.prim [(W 0 0)] none) (.call ⟨.builtin .len, #[(.tmp 4)], #[167]⟩) 3 false (.loop 0 [(.w (W 1 0))] (.need (.prim [(W 2 0), (WK (0))] none) (.binOp .gtr 3 (.tmp 6) (.const (I3 (0))) 3) 4 false (.split (.u 3 0) (.need (.prim [(W 2 0), (WK (1))] none) (.binOp .sub 3 (.tmp 10) (.const (I3 (1))) 3) 3 false (.need (.prim [(W 0 0), (W 4 0)] none) (.indexAddr 167 (.tmp 9) (.tmp 11)) 0 false VM)) (.need (.prim [(W 0 0), (W 2 0)] none) (.slice 167 (.tmp 19) none (some (.tmp 20)) none) 167 false (.need (.app 4 64 none (some (.u 4 0)) none) (.call ⟨.builtin .append, #[(.const (.slice none 0 0)), (.tmp 21)], #[167, 167]⟩) 167 false (.ret [(.one (.c (.sr 4 5)))]))))))
theorem MG : aM prog f144 (fun _ => none) [.v none] = UC := by kernel_rfl
def VQ : Tr := .need (.call 144 [(W 0 0)] [none]) (.call ⟨.value (.func 144), #[(.tmp 3)], #[167]⟩) 167 false (.need (.prim [(W 1 0)] none) (.call ⟨.builtin .len, #[(.tmp 4)], #[167]⟩) 3 false Pu)
theorem HR : aM prog f96 (fun _ => none) [.v none] = VQ := by kernel_rfl
def aF.It : aF where
 rep := fun _ _ v => ∃ cap, v = .slice none 0 cap ∧ cap ≤ maxLen
 mono := fun _ h => h
 one := by rintro M w v ⟨cap, rfl, _⟩; rfl
def aF.Ud (sz : Nat) (ts : List (List aF)) : aF where
 rep := fun M w v => (aF.slice sz ts).rep M w v ∧ ∃ a l c, v = .slice (some a) l c
 mono := fun hk h => ⟨aF.mono _ hk h.1, h.2⟩
 one := fun h => aF.one _ h.1
theorem aF.Sub.nn {sz : Nat} {ts : List (List aF)} : (aF.Ud sz ts).Sub (.slice sz ts) :=
 .inr ⟨fun M w v h => by obtain ⟨_, a, l, c, rfl⟩ := h; exact ⟨some a, l, c, rfl⟩, fun M w v h => h.1⟩
theorem Ds {sz : Nat} {ts : List (List aF)} {M : Nat → Prop} {w : World} {v : Value} (h : (aF.slice sz ts).rep M w v) : (ts = [] ∧ aF.It.rep M w v) ∨ (aF.Ud sz ts).rep M w v := by
 have h0 := h
 obtain ⟨a, cap, rfl, hc, hm, hel⟩ := h
 cases a with
 | some a => exact .inr ⟨h0, a, _, _, rfl⟩
 | none =>
   rcases hel with rfl | ⟨b, off, cs, T, fz, e, _⟩
   ·exact .inl ⟨rfl, cap, rfl, hm⟩
   ·cases e
theorem Ep {P : Program} {f : FuncId} {sz : Nat} {ts : List (List aF)} {out : Out} (h1 : ts = [] → aN P f [.one .It] out) (h2 : aN P f [.one (.Ud sz ts)] out) : aN P f [.one (.slice sz ts)] out := by
 refine ⟨h2.1, fun M w vs hM hv => ?_⟩
 match vs, hv with
 | [v], hv =>
   rcases Ds hv.1 with ⟨e, h⟩ | h
   ·exact (h1 e).2 M w [v] hM ⟨h, trivial⟩
   ·exact h2.2 M w [v] hM ⟨h, trivial⟩
 | [], hv => exact hv.elim
 | _ :: _ :: _, hv => exact hv.2.elim
section
variable {P : Program} {T U ty : TypeId} {x y : Operand}
theorem Tx {E sz b : Nat} (h : cK P T = some (E, sz, b)) : aQ P (.binOp .eql T x y U) ty [.one .It, .one (.exact (.slice none 0 0))] (.one (.bool true)) := by
 obtain ⟨ie, hu, _⟩ := bV h
 intro M w ρ o ho ht hr
 obtain ⟨hx, hy⟩ := oW (x := x) (y := y) hr
 obtain ⟨cap, hx, _⟩ := hx
 have hy : ρ y = .slice none 0 0 ∧ _ := hy
 refine ⟨.bool true, ?_, ⟨rfl, rfl⟩⟩
 simp [execOp, ho, hx, hy.1, eqGuard, binOp, run_equal_slice_nil w T E none 0 cap hu]
theorem Sv {E sz b sz' : Nat} {ts : List (List aF)} (h : cK P T = some (E, sz, b)) : aQ P (.binOp .eql T x y U) ty [.one (.Ud sz' ts), .one (.exact (.slice none 0 0))] (.one (.bool false)) := by
 obtain ⟨ie, hu, _⟩ := bV h
 intro M w ρ o ho ht hr
 obtain ⟨hx, hy⟩ := oW (x := x) (y := y) hr
 obtain ⟨_, a, l, c, hx⟩ := hx
 have hy : ρ y = .slice none 0 0 ∧ _ := hy
 refine ⟨.bool false, ?_, ⟨rfl, rfl⟩⟩
 simp [execOp, ho, hx, hy.1, eqGuard, binOp, run_equal_slice_nil w T E (some a) l c hu]
end
theorem HK  : aN prog 113 [(.one .It : aH)] (.ret [.one (.slice 3 [])]) := by
 refine aD (args := [.v none]) (ins := [.v (.one .It)]) (hints := (fun _ => none)) fo (by kernel_rfl) func113 ⟨rfl, trivial⟩ ?_
 rw [Db]
 dsimp only [List.map, In.env, aA, aB]
 refine vn (Tx gL) rfl ?_
 dsimp only [aA, aB]
 refine uB true rfl (fun _ => ?_) (fun h => by cases h)
 exact cS ⟨aF.Sub.nil, trivial⟩
theorem GX (ts : List (List aF)) (hs : ts.length < 1099511627776) : aN prog 113 [(.one (.Ud 3 ts) : aH)] (.ret [.one (.slice 3 ts)]) := by
 refine aD (args := [.v none]) (ins := [.v (.one (.Ud 3 ts))]) (hints := (fun _ => none)) fo (by kernel_rfl) func113 ⟨rfl, trivial⟩ ?_
 rw [Db]
 dsimp only [List.map, In.env, aA, aB]
 refine vn (Sv gL) rfl ?_
 dsimp only [aA, aB]
 refine uB false rfl (fun h => by cases h) (fun _ => ?_)
 refine bC (us := []) rfl ?_
 dsimp only [aA, aB]
 refine qY (ts := []) (us := ts) (vs := ts) rfl (.inr aF.Sub.nn) rfl (by omega) (by simp only [maxLen]; omega) ?_
 dsimp only [aA, aB]
 exact aJ rfl
theorem CU (ts : List (List aF)) (hs : ts.length < 1099511627776) : aN prog 113 [.one (.slice 3 ts)] (.ret [.one (.slice 3 ts)]) :=
 Ep (fun e => by subst e; exact HK) (GX ts hs)
def cW {α : Type} (z : α → Bool) : List α → Nat
 | [] => 0
 | x :: xs => if cW z xs = 0 ∧ z x = true then 0 else cW z xs + 1
theorem fD {α : Type} {z : α → Bool} : ∀ l : List α, cW z l ≤ l.length
 | [] => Nat.le_refl _
 | x :: xs => by
   have := fD (z := z) xs
   simp only [cW, List.length_cons]; split <;> omega
theorem pP {α : Type} {z : α → Bool} : ∀ {l : List α} {n : Nat}, n ≤ l.length → (∀ i x, n ≤ i → l[i]? = some x → z x = true) → (n = 0 ∨ ∃ x, l[n - 1]? = some x ∧ z x = false) → cW z l = n
 | [], n, h, _, _ => by simp at h; subst h; rfl
 | x :: xs, n, h, h1, h2 => by
   cases n with
   | zero =>
     have h3 := pP (z := z) (l := xs) (n := 0) (Nat.zero_le _) (fun i y _ hy => h1 (i + 1) y (Nat.zero_le _) (by simpa using hy)) (.inl rfl)
     have h4 := h1 0 x (Nat.zero_le _) rfl
     simp [cW, h3, h4]
   | succ n =>
     have h3 := pP (z := z) (l := xs) (n := n) (by simpa using h) (fun i y hi hy => h1 (i + 1) y (by omega) (by simpa using hy)) (by
      cases n with
      | zero => exact .inl rfl
      | succ n =>
        rcases h2 with h2 | ⟨y, hy, hz⟩
        ·omega
        ·exact .inr ⟨y, by simpa using hy, hz⟩)
     simp only [cW, h3]
     rw [if_neg]
     rintro ⟨h4, h5⟩
     subst h4
     rcases h2 with h2 | ⟨y, hy, hz⟩
     ·omega
     ·simp at hy; subst hy; rw [h5] at hz; cases hz
theorem xT {α β : Type} {z : β → Bool} (f : α → β) : ∀ l : List α, cW z (l.map f) = cW (fun a => z (f a)) l
 | [] => rfl
 | x :: xs => by simp only [List.map_cons, cW, xT f xs]
abbrev rQ (ps : List Rat) : List (List aF) := ps.map qC
abbrev sQ (ps : List Rat) : aF := .slice 3 (rQ ps)
abbrev rR (ps : List RQ) : List (List aF) := ps.map rC
abbrev sR (ps : List RQ) : aF := .slice 4 (rR ps)
def zr (q : Rat) : Bool := decide (q = 0)
def KJ (a : RQ) : Bool := decide (a.q = 0)
def trim (ps : List Rat) : List Rat := ps.take (cW zr ps)
def dA (ps : List RQ) : List RQ := ps.take (cW KJ ps)
theorem mO (ps : List RQ) : (dA ps).map RQ.q = trim (ps.map RQ.q) := by
 rw [trim, xT, dA, List.map_take]; rfl
theorem vJ {q : Rat} : zr q = decide (q.num.sign = 0) := by rw [zr, decide_eq_decide]; exact sign_zero.symm
theorem fB (ps : List Rat) : (trim ps).length = cW zr ps := by rw [trim, List.length_take]; have := fD (z := zr) ps; omega
theorem sV (ps : List RQ) : (dA ps).length = cW KJ ps := by rw [dA, List.length_take]; have := fD (z := KJ) ps; omega
theorem rJ {E sz b T : Nat} {α : Type} {f : α → List aF} {ds : List α} {x : Operand} {ty : Nat} {y : Operand} {k : IntKind} {n : Int} {m : Nat} (h : cK prog T = some (E, sz, b)) (h0 : 0 ≤ n) (hm : n.toNat = m) (hn : m ≤ ds.length) : aQ prog (.slice T x none (some y) none) ty [.one (.slice sz (ds.map f)), .one (.int k n)] (.one (.slice sz ((ds.take m).map f))) := by
 have := Af (P := prog) (T := T) (x := x) (y := y) (ty := ty) (k := k) (n := n) (ts := ds.map f) h h0 (by rw [List.length_map, hm]; exact hn)
 rw [hm, ← List.map_take] at this
 exact this
theorem sF (ps : List Rat) (hs : ps.length < 1099511627776) : aN prog 34 [(.one (sQ ps) : aH)] (.ret [.one (sQ (trim ps))]) := by
 refine aD (args := [.v none]) (ins := [.v (.one (sQ ps))]) (hints := (fun _ => none)) fo (by kernel_rfl) func34 ⟨rfl, trivial⟩ ?_
 rw [Ny]
 dsimp only [List.map, In.env, aA, aB]
 refine vn (aK gL (List.length_map _)) rfl ?_
 dsimp only [aA, aB]
 refine aY {n : Nat // n ≤ ps.length ∧ ∀ i q, n ≤ i → ps[i]? = some q → zr q = true} (fun g => [.one (.int .i64 g.1)]) (fun g => g.1) ⟨ps.length, Nat.le_refl _, fun i q hi hq => by have := (List.getElem?_eq_some_iff.1 hq).1; omega⟩ aL.rfl (fun _ => rfl) ?_
 rintro ⟨n, hn, hz⟩
 dsimp only [aA, aB] at hn hz ⊢
 refine vn cT rfl ?_
 dsimp only [aA, aB]
 refine vs _ rfl (fun h3 => ?_) (fun h3 => ?_)
 ·refine vn (aG (by omega) (by omega)) rfl ?_
  dsimp only [aA, aB]
  obtain ⟨q, hq⟩ : ∃ q, ps[n - 1]? = some q := ⟨_, List.getElem?_eq_getElem (by omega)⟩
  refine vn (aR gL (by omega) (by omega) hq) rfl ?_
  dsimp only [aA, aB]
  refine vn (cB tT (by decide) (by simp) (.inl rfl)) rfl ?_
  dsimp only [aA, aB]
  refine aC (lS q) rfl ?_
  dsimp only [aA, aB]
  refine vn aX rfl ?_
  dsimp only [aA, aB]
  refine vs _ rfl (fun h9 => ?_) (fun h9 => ?_)
  ·refine vn (aG (by omega) (by omega)) rfl ?_
   dsimp only [aA, aB]
   exact aO rfl ⟨⟨n - 1, by omega, fun i r hi hr => by
    rcases Nat.lt_or_ge i n with h | h
    ·rw [show i = n - 1 by omega, hq] at hr
     simp only [Option.some.injEq] at hr
     subst hr
     rw [vJ]; simpa using h9
    ·exact hz i r h hr⟩, ⟨aH.Sub.of_eq (congrArg (fun q => aH.one (aF.int .i64 q)) (by show (n : Int) - 1 = ((n - 1 : Nat) : Int); omega)), trivial⟩, by show n - 1 < n; omega⟩
  refine vn (rJ gL (by omega) (by omega) hn) rfl ?_
  dsimp only [aA, aB]
  have ht := pP hn hz (.inr ⟨q, hq, by rw [vJ]; simpa using h9⟩)
  refine aC (CU _ (by rw [List.length_map, List.length_take]; omega)) rfl ?_
  dsimp only [aA, aB]
  rw [trim, ht]; exact aJ rfl
 refine vn (rJ gL (by omega) (by omega) hn) rfl ?_
 dsimp only [aA, aB]
 have ht := pP hn hz (.inl (by omega))
 refine aC (CU _ (by rw [List.length_map, List.length_take]; omega)) rfl ?_
 dsimp only [aA, aB]
 rw [trim, ht]; exact aJ rfl
theorem sZ (ps : List Rat) (hs : ps.length < 1099511627776) : aN prog 95 [(.one (sQ ps) : aH)] (.ret [.one (.int .i64 ((cW zr ps : Int) - 1))]) := by
 refine aD (args := [.v none]) (ins := [.v (.one (sQ ps))]) (hints := (fun _ => none)) fo (by kernel_rfl) func95 ⟨rfl, trivial⟩ ?_
 rw [GV]
 dsimp only [List.map, In.env, aA, aB]
 have hle := fD (z := zr) ps
 have htl := fB ps
 refine aC (sF ps hs) rfl ?_
 dsimp only [aA, aB]
 refine vn (aK gL (List.length_map _)) rfl ?_
 dsimp only [aA, aB]
 refine vn (aG (by omega) (by omega)) rfl ?_
 dsimp only [aA, aB]
 rw [← htl]; exact aJ rfl
theorem pU (ps : List RQ) (hs : ps.length < 1099511627776) : aN prog 144 [(.one (sR ps) : aH)] (.ret [.one (sR (dA ps))]) := by
 refine aD (args := [.v none]) (ins := [.v (.one (sR ps))]) (hints := (fun _ => none)) fo (by kernel_rfl) func144 ⟨rfl, trivial⟩ ?_
 rw [MG]
 dsimp only [List.map, In.env, aA, aB]
 refine vn (aK eJ (List.length_map _)) rfl ?_
 dsimp only [aA, aB]
 refine aY {n : Nat // n ≤ ps.length ∧ ∀ i q, n ≤ i → ps[i]? = some q → KJ q = true} (fun g => [.one (.int .i64 g.1)]) (fun g => g.1) ⟨ps.length, Nat.le_refl _, fun i q hi hq => by have := (List.getElem?_eq_some_iff.1 hq).1; omega⟩ aL.rfl (fun _ => rfl) ?_
 rintro ⟨n, hn, hz⟩
 dsimp only [aA, aB] at hn hz ⊢
 refine vn cT rfl ?_
 dsimp only [aA, aB]
 refine vs _ rfl (fun h3 => ?_) (fun h3 => ?_)
 ·refine vn (aG (by omega) (by omega)) rfl ?_
  dsimp only [aA, aB]
  obtain ⟨q, hq⟩ : ∃ q, ps[n - 1]? = some q := ⟨_, List.getElem?_eq_getElem (by omega)⟩
  refine vn (aR eJ (by omega) (by omega) hq) rfl ?_
  dsimp only [aA, aB]
  refine vn (cB uW (by decide) (by simp) (.inl rfl)) rfl ?_
  dsimp only [aA, aB]
  refine aC (GD q) rfl ?_
  dsimp only [aA, aB]
  refine vn aX rfl ?_
  dsimp only [aA, aB]
  refine vs _ rfl (fun h9 => ?_) (fun h9 => ?_)
  ·refine vn (aG (by omega) (by omega)) rfl ?_
   dsimp only [aA, aB]
   exact aO rfl ⟨⟨n - 1, by omega, fun i r hi hr => by
    rcases Nat.lt_or_ge i n with h | h
    ·rw [show i = n - 1 by omega, hq] at hr
     simp only [Option.some.injEq] at hr
     subst hr
     show zr q.q = true
     rw [vJ]; simpa using h9
    ·exact hz i r h hr⟩, ⟨aH.Sub.of_eq (congrArg (fun q => aH.one (aF.int .i64 q)) (by show (n : Int) - 1 = ((n - 1 : Nat) : Int); omega)), trivial⟩, by show n - 1 < n; omega⟩
  refine vn (rJ eJ (by omega) (by omega) hn) rfl ?_
  dsimp only [aA, aB]
  have ht := pP (z := KJ) hn hz (.inr ⟨q, hq, by show zr q.q = false; rw [vJ]; simpa using h9⟩)
  refine qY (ts := []) (us := rR (ps.take n)) (vs := rR (ps.take n)) rfl (.inr aF.Sub.same) rfl (by rw [List.length_map, List.length_take]; omega) (by rw [List.length_map, List.length_take]; simp only [maxLen]; omega) ?_
  dsimp only [aA, aB]
  rw [dA, ht]; exact aJ rfl
 refine vn (rJ eJ (by omega) (by omega) hn) rfl ?_
 dsimp only [aA, aB]
 have ht := pP (z := KJ) hn hz (.inl (by omega))
 refine qY (ts := []) (us := rR (ps.take n)) (vs := rR (ps.take n)) rfl (.inr aF.Sub.same) rfl (by rw [List.length_map, List.length_take]; omega) (by rw [List.length_map, List.length_take]; simp only [maxLen]; omega) ?_
 dsimp only [aA, aB]
 rw [dA, ht]; exact aJ rfl
theorem zI (ps : List RQ) (hs : ps.length < 1099511627776) : aN prog 96 [(.one (sR ps) : aH)] (.ret [.one (.int .i64 ((cW KJ ps : Int) - 1))]) := by
 refine aD (args := [.v none]) (ins := [.v (.one (sR ps))]) (hints := (fun _ => none)) fo (by kernel_rfl) func96 ⟨rfl, trivial⟩ ?_
 rw [HR]
 dsimp only [List.map, In.env, aA, aB]
 have hle := fD (z := KJ) ps
 have htl := sV ps
 refine aC (pU ps hs) rfl ?_
 dsimp only [aA, aB]
 refine vn (aK eJ (List.length_map _)) rfl ?_
 dsimp only [aA, aB]
 refine vn (aG (by omega) (by omega)) rfl ?_
 dsimp only [aA, aB]
 rw [← htl]; exact aJ rfl
end Go.Sy
namespace Go.Sy
open Go Go.Proofs Go.RowKit Go.Shelf Tryz Ord
attribute [local go_sem] Oper.semAt_some
section
variable {α : Type} [Inhabited α] {e0 e1 e2 : α → Value}
set_option maxRecDepth 100000 in
set_option maxHeartbeats 2000000 in
theorem Hd (l Bs n₀ b off cap : Nat) (vs : List α) (hlen : vs.length < 4611686018427387904) (hb : b < n₀) (J Jx : List (Nat × α) → World → Prop)
  (hY : ∀ pre x W, J pre W → pre.length < vs.length → YieldAt Fence.wide (1000 - 1) prog l #[.int .i64 (x.1 : Int), (.agg #[e0 x.2, e1 x.2, e2 x.2])] W fun e W' =>
   (e = .returned (.bool true) ∧ J (pre ++ [x]) W' ∧ OD n₀ Bs W W') ∨ (e = .returned (.bool false) ∧ Jx (pre ++ [x]) W'))
  (W : World) (hBs : W.cell? ⟨Bs, 0, none⟩ = some (.slice (some ⟨b, off, none⟩) vs.length cap)) (hc : ∀ j v, vs[j]? = some v → W.cell? ⟨b, off + j * 3, none⟩ = some (e0 v) ∧ W.cell? ⟨b, off + j * 3 + 1, none⟩ = some (e1 v) ∧ W.cell? ⟨b, off + j * 3 + 2, none⟩ = some (e2 v)) (h0 : J [] W) :
  CallsIn Fence.wide 1000 prog 281 #[.func (.yield l) #[] #[], .pointer (some ⟨Bs, 0, none⟩)] W fun e W' => (∃ v, e = .returned v) ∧
   ((∃ ys, ys = bk vs vs.length ∧ J ys W') ∨ (∃ pre, (∃ k, k ≤ vs.length ∧ pre = bk vs k) ∧ Jx pre W')) := by
 refine callsIn_of_wp func281 rfl trivial ?_ rfl
 simp only [ntmps281, List.size_toArray, List.length_cons, List.length_nil, Nat.reduceAdd, Nat.reduceSub, Array.replicate_succ, Array.replicate_zero, List.push_toArray, List.append_toArray, List.nil_append, List.cons_append]
 obtain ⟨N, hN⟩ : ∃ N, vs.length = N := ⟨_, rfl⟩
 rw [hN] at hBs hY hlen ⊢
 gi_wp2
 gi_loopw [3] (fun i wr => ∃ k : Nat, k ≤ N ∧ i = .int .i64 ((N : Int) - 1 - k) ∧ J (bk vs k) wr ∧ Below n₀ W wr ∧ wr.cell? ⟨Bs, 0, none⟩ = some (.slice (some ⟨b, off, none⟩) N cap))
  (fun i _ => (intOf i + 1).toNat)
 case atStart => exact ⟨0, Nat.zero_le _, by simp, h0, Below.refl _ _, hBs⟩
 case round =>
  obtain ⟨k, hk, rfl, hJs, hnx, hBx⟩ := hrel
  have hmeas : (intOf (.int .i64 ((N : Int) - 1 - k)) + 1).toNat = N - k := by simp [intOf]; omega
  by_cases hlt : k < N
  ·have hv : vs[N - 1 - k]? = some (vs[N - 1 - k]?.getD default) := by rw [List.getElem?_eq_getElem (by omega)]; rfl
   obtain ⟨hx0, hx1, hx2⟩ := hc _ _ hv
   have hcx0 := (hnx.cell (p := ⟨b, off + (N - 1 - k) * 3, none⟩) hb).trans hx0
   have hcx1 := (hnx.cell (p := ⟨b, off + (N - 1 - k) * 3 + 1, none⟩) hb).trans hx1
   have hcx2 := (hnx.cell (p := ⟨b, off + (N - 1 - k) * 3 + 2, none⟩) hb).trans hx2
   clear hx0 hx1 hx2
   obtain ⟨fn, tmps, assign, body, hy, hR⟩ := hY _ (N - 1 - k, vs[N - 1 - k]?.getD default) wr hJs (by rw [Ao]; exact hlt)
   generalize hx : vs[N - 1 - k]?.getD default = x at hy hR hcx0 hcx1 hcx2
   have hsucc : bk vs (k + 1) = bk vs k ++ [(N - 1 - k, x)] := by rw [BA, hN, hx]
   have e1 : (N : Int) - 1 - k = ((N - 1 - k : Nat) : Int) := by omega
   have hn1 : N - 1 - k < N := by omega
   rw [e1]
   gi_wp2
   refine hR.mono ?_
   rintro e W3 (⟨rfl, hJ3, hk3⟩ | ⟨rfl, hJx3⟩)
   ·gi_wp2
    go_roundw
    case rel => exact ⟨k + 1, by omega, by congr 1; omega, by rw [hsucc]; exact hJ3, hnx.trans hk3.1, hk3.2 _ hBx⟩
    case measure => simp [intOf]
   ·gi_wp2
    refine bodyPost_ret (results_none rfl _ _ _) rfl ?_
    exact ⟨⟨_, rfl⟩, .inr ⟨_, ⟨k + 1, by omega, rfl⟩, by rw [hsucc]; exact hJx3⟩⟩
  ·obtain rfl : k = N := by omega
   gi_wp2
   go_end0
   exact ⟨⟨_, rfl⟩, .inl ⟨_, rfl, hJs⟩⟩
set_option maxRecDepth 100000 in
set_option maxHeartbeats 1000000 in
theorem EN {α : Type} (l Bs : Nat) (a : Option Addr) (cap : Nat) (J : List (Nat × α) → World → Prop) (W : World) (hBs : W.cell? ⟨Bs, 0, none⟩ = some (.slice a 0 cap)) (h0 : J [] W) :
  CallsIn Fence.wide 1000 prog 281 #[.func (.yield l) #[] #[], .pointer (some ⟨Bs, 0, none⟩)] W fun e W' => (∃ v, e = .returned v) ∧ J [] W' := by
 refine callsIn_of_wp func281 rfl trivial ?_ rfl
 simp only [ntmps281, List.size_toArray, List.length_cons, List.length_nil, Nat.reduceAdd, Nat.reduceSub, Array.replicate_succ, Array.replicate_zero, List.push_toArray, List.append_toArray, List.nil_append, List.cons_append]
 gi_wp2
 gi_loopw [3] (fun i wr => i = .int .i64 (-1) ∧ J [] wr) (fun _ _ => 0)
 case atStart => exact ⟨rfl, h0⟩
 case round =>
  obtain ⟨rfl, hJs⟩ := hrel
  gi_wp2
  go_end0
  exact ⟨⟨_, rfl⟩, hJs⟩
set_option maxHeartbeats 1000000 in
theorem Cy (n : Nat) (a : Option Addr) (len cap : Nat) (w : World) :
  CallsIn Fence.wide n prog 248 #[.slice a len cap] w fun e w' => e = .returned (.func (.func 281) #[] #[.pointer (some ⟨w.heap.size, 0, none⟩)]) ∧ w' = w.alloc (.cells #[.slice a len cap] 72) := by
 refine callsIn_of_wp func248 rfl trivial ?_ rfl
 simp only [ntmps248, List.size_toArray, List.length_cons, List.length_nil, Nat.reduceAdd, Nat.reduceSub, Array.replicate_succ, Array.replicate_zero, List.push_toArray, List.append_toArray, List.nil_append, List.cons_append]
 gi_wp2
 go_ret
 exact ⟨rfl, rfl⟩
def Pg (e0 e1 e2 : α → Value) (n₀ : Nat) (W : World) (sv : Value) (vs : List α) : Prop :=
 ∃ a cap, sv = .slice a vs.length cap ∧ (vs = [] ∨ ∃ b off, a = some ⟨b, off, none⟩ ∧ b < n₀ ∧ ∀ j v, vs[j]? = some v → W.cell? ⟨b, off + j * 3, none⟩ = some (e0 v) ∧ W.cell? ⟨b, off + j * 3 + 1, none⟩ = some (e1 v) ∧ W.cell? ⟨b, off + j * 3 + 2, none⟩ = some (e2 v))
theorem Pg.below {α : Type} {e0 e1 e2 : α → Value} {n₀ : Nat} {A B : World} (h : Below n₀ A B) {sv : Value} {vs : List α} : Pg e0 e1 e2 n₀ A sv vs → Pg e0 e1 e2 n₀ B sv vs := by
 rintro ⟨a, cap, e, rfl | ⟨b, off, rfl, hb, hc⟩⟩
 ·exact ⟨a, cap, e, .inl rfl⟩
 ·exact ⟨_, cap, e, .inr ⟨b, off, rfl, hb, fun j v hj => ⟨(h.cell (p := ⟨b, off + j * 3, none⟩) hb).trans (hc j v hj).1, (h.cell (p := ⟨b, off + j * 3 + 1, none⟩) hb).trans (hc j v hj).2.1, (h.cell (p := ⟨b, off + j * 3 + 2, none⟩) hb).trans (hc j v hj).2.2⟩⟩⟩
theorem uD (Bs n₀ : Nat) (sv : Value) (vs : List α) (hlen : vs.length < 4611686018427387904) (w : World) (hBs : Bs < w.heap.size) (hn₀ : n₀ ≤ w.heap.size)
  (hc : w.cell? ⟨Bs, 0, none⟩ = some sv) (hI : Pg e0 e1 e2 n₀ w sv vs) :
  SeqStopsK Fence.wide 1000 prog 281 #[.pointer (some ⟨Bs, 0, none⟩)] (fun x : Nat × α => #[Value.int .i64 (x.1 : Int), (Value.agg #[e0 x.2, e1 x.2, e2 x.2])]) (OD n₀ Bs) (fun ys => ys = bk vs vs.length) (fun pre => ∃ k, k ≤ vs.length ∧ pre = bk vs k) vs.length w := fun l J Jx W hW _ _ hY h0 => by
 have hc' := (hW.cell (p := ⟨Bs, 0, none⟩) hBs).trans hc
 obtain ⟨a, cap, rfl, rfl | ⟨b, off, rfl, hb, hcs⟩⟩ := hI.below (hW.mono hn₀)
 ·exact (EN (α := α) l Bs a cap J W hc' h0).mono fun e W' ⟨he, hj⟩ => ⟨he, .inl ⟨_, rfl, hj⟩⟩
 ·exact (Hd (e0 := e0) (e1 := e1) (e2 := e2) l Bs n₀ b off cap vs hlen hb J Jx hY W hc' hcs h0)
end
end Go.Sy
namespace Go.Sy
open Go Go.Proofs Tryz Ord
def WS : Tr := .need (.prim [(W 0 2), (.one (.c (.k (.int .u8 (4)))))] none) (.binOp .rem 5 (.tmp 31) (.const (.int .u8 (4))) 5) 5 false (.need (.prim [(W 5 0), (W 13 0)] none) (.binOp .lss 5 (.tmp 29) (.tmp 32) 5) 4 false (.split (.u 14 0) (.need (.call 36 [(.agg [(U 6 0), (U 7 0), (U 8 0)]), (.agg [(U 2 0), (U 2 1), (U 2 2)])] [(some 3)]) (.call ⟨.value (.func 36), #[(.tmp 36), (.tmp 37)], #[39, 39]⟩) 39 false (.need (.call 104 [(.agg [(U 9 0), (U 10 0), (U 11 0), (U 12 0)]), (.agg [(U 4 0), (U 4 1), (U 4 2), (U 4 3)])] [(some 4)]) (.call ⟨.value (.func 104), #[(.tmp 39), (.tmp 40)], #[49, 49]⟩) 49 true (.need (.prim [(W 5 0), (.one (.c (.k (.int .u8 (1)))))] none) (.binOp .add 5 (.tmp 34) (.const (.int .u8 (1))) 5) 5 false (.back 0 [(.w (W 17 0)), (.w (W 15 0)), (.w (W 15 1)), (.w (W 15 2)), (.w (W 16 0)), (.w (W 16 1)), (.w (W 16 2)), (.w (W 16 3))])))) (.ret [(.agg [(U 6 0), (U 7 0), (U 8 0)]), (.agg [(U 9 0), (U 10 0), (U 11 0), (U 12 0)])])))
def Pf : Tr := .loop 0 [(.w (.one (.c (.k (.int .u8 (0)))))), (.w (W 2 0)), (.w (W 2 1)), (.w (W 2 2)), (.w (W 4 0)), (.w (W 4 1)), (.w (W 4 2)), (.w (W 4 3))] WS
def Ug : Tr := .need (.prim [(W 0 1), (WK (0))] none) (.binOp .eql 2 (.tmp 11) (.const (I3 (0))) 2) 4 false (.split (.u 1 0) (.need (.call 120 [(W 0 0), (WK (1))] [(some 3), none]) (.call ⟨.value (.func 120), #[(.tmp 16), (.tmp 18)], #[2, 2]⟩) 90 false (.need (.call 79 [(W 0 0), (WK (1))] [(some 4)]) (.call ⟨.value (.func 79), #[(.tmp 23), (.tmp 25)], #[2, 2]⟩) 49 true Pf)) (.need (.call 120 [(W 0 0), (W 0 1)] [(some 3), none]) (.call ⟨.value (.func 120), #[(.tmp 16), (.tmp 18)], #[2, 2]⟩) 90 false (.need (.call 79 [(W 0 0), (W 0 1)] [(some 4)]) (.call ⟨.value (.func 79), #[(.tmp 23), (.tmp 25)], #[2, 2]⟩) 49 true Pf)))
theorem MW : aM prog f40 (fun _ => none) [.v (some 3)] = Ug := by kernel_rfl
def Vc : Tr := .need (.call 40 [(.agg [(U 7 0), (U 7 1), (U 7 2)])] [(some 3), (some 4)]) (.call ⟨.value (.func 40), #[(.tmp 19)], #[26]⟩) 82 false (.need (.lit 3 [[(.u 8 0), (.u 8 1), (.u 8 2)]]) (.buildSlice 40 1 #[(0, (.tmp 24))]) 40 false (.need (.app 3 56 (some 2) none (some 10)) (.call ⟨.builtin .append, #[(.tmp 23), (.tmp 25)], #[40, 40]⟩) 40 false (.need (.lit 4 [[(.u 9 0), (.u 9 1), (.u 9 2), (.u 9 3)]]) (.buildSlice 50 1 #[(0, (.tmp 28))]) 50 false (.need (.app 4 64 (some 3) none (some 12)) (.call ⟨.builtin .append, #[(.tmp 27), (.tmp 29)], #[50, 50]⟩) 50 false (.need (.prim [(W 1 0), (WK (1))] none) (.binOp .add 3 (.tmp 13) (.const (I3 (1))) 3) 3 false (.back 0 [(.w (W 14 0)), (.row 11), (.row 13)]))))))
def VI : Tr := .loop 0 [(.w (WK (0))), .nilrow, .nilrow] (.need (.prim [(W 0 0)] none) (.call ⟨.builtin .len, #[(.tmp 10)], #[27]⟩) 3 false (.need (.prim [(W 1 0), (W 4 0)] none) (.binOp .lss 3 (.tmp 9) (.tmp 11) 3) 4 false (.split (.u 5 0) (.need (.prim [(W 0 0), (W 1 0)] none) (.indexAddr 27 (.tmp 16) (.tmp 17)) 0 false (.need (.prim [(W 6 0)] (some 3)) (.load 26 (.tmp 18)) 26 false Vc)) (.ret [(.one (.c (.sr 3 2))), (.one (.c (.sr 4 3)))]))))
theorem Om : aM prog f71 (fun _ => none) [.v none] = VI := by kernel_rfl
def Jp : Tr := .ret [(W 6 0)]
def lU : Tr := .ret [(.one (.c (.k (.bool false))))]
def VJ : Tr := .need (.prim [(W 0 0), (WK (999))] none) (.binOp .leq 2 (.tmp 9) (.const (I3 (999))) 2) 4 false (.split (.u 3 0) (.need (.prim [(W 0 0), (WK (-999))] none) (.binOp .geq 2 (.tmp 14) (.const (I3 (-999))) 2) 4 false (.split (.u 4 0) (.need (.prim [(W 0 1), (WK (999))] none) (.binOp .leq 2 (.tmp 19) (.const (I3 (999))) 2) 4 false (.split (.u 5 0) (.need (.prim [(W 0 1), (WK (-999))] none) (.binOp .geq 2 (.tmp 24) (.const (I3 (-999))) 2) 4 false Jp) lU)) lU)) lU)
def WM : Tr := .need (.prim [(W 0 2), (.one (.c (.k (.int .u8 (4)))))] none) (.binOp .rem 5 (.tmp 4) (.const (.int .u8 (4))) 5) 5 false (.need (.prim [(W 1 0), (.one (.c (.k (.int .u8 (0)))))] none) (.binOp .eql 5 (.tmp 5) (.const (.int .u8 (0))) 5) 4 false (.split (.u 2 0) VJ lU))
theorem KT : aM prog f39 (fun _ => none) [.v (some 3)] = WM := by kernel_rfl
def Qs : Tr := .split (.u 22 0) lU (.need (.prim [(W 18 1), (WK (99))] none) (.binOp .gtr 2 (.tmp 54) (.const (I3 (99))) 2) 4 false (.split (.u 23 0) lU (.need (.prim [(W 18 1), (WK (-99))] none) (.binOp .lss 2 (.tmp 59) (.const (I3 (-99))) 2) 4 false (.split (.u 24 0) lU (.need (.prim [(W 10 0), (WK (1))] none) (.binOp .add 3 (.tmp 28) (.const (I3 (1))) 3) 3 false (.back 1 [(.w (W 9 0)), (.w (W 25 0))]))))))
def Tm : Tr := .need (.prim [(W 17 0)] (some 3)) (.load 26 (.tmp 36)) 26 false (.need (.prim [(W 18 2), (.one (.c (.k (.int .u8 (4)))))] none) (.binOp .rem 5 (.tmp 39) (.const (.int .u8 (4))) 5) 5 false (.need (.prim [(W 19 0), (.one (.c (.k (.int .u8 (0)))))] none) (.binOp .neq 5 (.tmp 40) (.const (.int .u8 (0))) 5) 4 false (.split (.u 20 0) lU (.need (.prim [(W 18 0), (WK (99))] none) (.binOp .gtr 2 (.tmp 44) (.const (I3 (99))) 2) 4 false (.split (.u 21 0) lU (.need (.prim [(W 18 0), (WK (-99))] none) (.binOp .lss 2 (.tmp 49) (.const (I3 (-99))) 2) 4 false Qs))))))
def Ra : Tr := .need (.prim [(W 11 0)] none) (.load 27 (.tmp 24)) 27 false (.need (.prim [(W 12 0)] none) (.call ⟨.builtin .len, #[(.tmp 25)], #[27]⟩) 3 false (.need (.prim [(W 10 0), (W 13 0)] none) (.binOp .lss 3 (.tmp 20) (.tmp 26) 3) 4 false (.split (.u 14 0) (.need (.prim [(W 0 0), (W 2 0)] none) (.indexAddr 22 (.tmp 31) (.tmp 32)) 0 false (.need (.prim [(W 15 0)] none) (.load 27 (.tmp 33)) 27 false (.need (.prim [(W 16 0), (W 10 0)] none) (.indexAddr 27 (.tmp 34) (.tmp 35)) 0 false Tm))) (.need (.prim [(W 2 0), (WK (1))] none) (.binOp .add 3 (.tmp 11) (.const (I3 (1))) 3) 3 false (.back 0 [(.w (W 9 0)), (.w (W 15 0))])))))
def WN : Tr := .need (.prim [(W 0 0), (W 2 0)] none) (.indexAddr 22 (.tmp 14) (.tmp 15)) 0 false (.need (.prim [(W 5 0)] none) (.load 27 (.tmp 16)) 27 false (.need (.prim [(W 6 0)] none) (.call ⟨.builtin .len, #[(.tmp 17)], #[27]⟩) 3 false (.need (.prim [(W 7 0), (WK (4))] none) (.binOp .gtr 3 (.tmp 18) (.const (I3 (4))) 3) 4 false (.split (.u 8 0) lU (.loop 1 [(.w (W 1 0)), (.w (WK (0)))] (.need (.prim [(W 0 0), (W 2 0)] none) (.indexAddr 22 (.tmp 22) (.tmp 23)) 0 false Ra))))))
def VG : Tr := .loop 0 [(.w (.one (.c (.k (.bool false))))), (.w (WK (0)))] (.need (.prim [(W 0 0)] none) (.call ⟨.builtin .len, #[(.tmp 8)], #[22]⟩) 3 false (.need (.prim [(W 2 0), (W 3 0)] none) (.binOp .lss 3 (.tmp 6) (.tmp 9) 3) 4 false (.split (.u 4 0) WN (.need (.prim [(W 0 0)] none) (.call ⟨.builtin .len, #[(.tmp 63)], #[22]⟩) 3 false (.need (.prim [(W 5 0), (WK (6))] none) (.binOp .leq 3 (.tmp 64) (.const (I3 (6))) 3) 4 false Jp)))))
theorem BI : aM prog f55 (fun _ => none) [.v (some 2)] = VG := by kernel_rfl
structure bG where
 n : Int
 d : Int
 pow : Nat
abbrev nC (x : bG) : List aF := [.int .i64 x.n, .int .i64 x.d, .int .u8 x.pow]
abbrev nT (x : bG) : aH := .agg (nC x)
abbrev sN (l : List bG) : aF := .slice 3 (l.map nC)
structure bG.In (x : bG) : Prop where
 n1 : -9223372036854775808 ≤ x.n
 n2 : x.n < 9223372036854775808
 d1 : -9223372036854775808 ≤ x.d
 d2 : x.d < 9223372036854775808
 p : x.pow < 256
def bG.b (x : bG) : Rat := (x.n : Rat) / ((if x.d = 0 then 1 else x.d : Int) : Rat)
def bG.v (x : bG) : Rat := x.b ^ (x.pow % 4 + 1)
theorem _root_.Ord.Fit.pow {B : Nat} {q : Rat} (h : Fit B q) (hB : 1 ≤ B) : ∀ n, Fit (B * n + 1) (q ^ n)
 | 0 => by rw [Rat.pow_zero]; exact (Fit.int (n := 1) (B := 1) (by omega) (by decide)).mono (by omega)
 | n + 1 => by
   rw [Rat.pow_succ]
   exact ((Ord.Fit.pow h hB n).mul h).mono (by rw [Nat.mul_add]; omega)
theorem bG.In.fit {x : bG} (h : x.In) : Fit 128 x.b := by
 unfold bG.b
 split
 ·exact (hJ h.n1 h.n2).div (hJ (n := 1) (by omega) (by omega))
 ·exact (hJ h.n1 h.n2).div (hJ h.d1 h.d2)
theorem bG.In.TB {x : bG} (h : x.In) : Fit 513 x.v := (h.fit.pow (by omega) _).mono (by omega)
theorem GA (x : bG) (h : x.In) : aN prog 40 [(nT x : aH)] (.ret [qT x.v, lI (.of x.v)]) := by
 refine aD (args := [.v (some 3)]) (ins := [.v (nT x)]) (hints := (fun _ => none)) fo (by kernel_rfl) func40 ⟨rfl, trivial⟩ ?_
 rw [MW]
 dsimp only [List.map, In.env, aA, aB]
 have h1 := h.n1
 have h2 := h.n2
 have h3 := h.d1
 have h4 := h.d2
 have h5 := h.p
 have hf := h.fit
 have hp := fun i => hf.pow (by omega) i
 have hm1 : ∀ i, i < 4 → aN prog 36 [qT (x.b ^ (i + 1)), qT x.b] (.ret [qT (x.b ^ (i + 1 + 1))]) := fun i hi => by
  have := gJ (x.b ^ (i + 1)) x.b _ _ (hp (i + 1)) hf (by omega)
  rw [← Rat.pow_succ] at this; exact this
 have hm2 : ∀ i, i < 4 → aN prog 104 [lI (.of (x.b ^ (i + 1))), lI (.of x.b)] (.ret [lI (.of (x.b ^ (i + 1 + 1)))]) := fun i hi => by
  have := oN (.of (x.b ^ (i + 1))) (.of x.b) _ _ (hp (i + 1)) hf (by omega)
  rw [RQ.Hq, RQ.Hq, ← Rat.pow_succ] at this; exact this
 refine vn aX rfl ?_
 dsimp only [aA, aB]
 refine vs _ rfl (fun h1 => ?_) (fun h1 => ?_)
 ·have hb : x.b = (x.n : Rat) / ((1 : Int) : Rat) := by rw [bG.b, if_pos h1]
  have ho := Uq x.n 1 h.n1 h2 (by omega) (by omega)
  rw [if_neg (by omega), if_neg (by omega), ← hb] at ho
  refine aC ho rfl ?_
  dsimp only [aA, aB]
  have ho := Pc x.n 1 (by omega) h.n1 h2 (by omega) (by omega)
  rw [← hb] at ho
  refine aC ho rfl ?_
  dsimp only [aA, aB]
  refine aY {i : Nat // i ≤ x.pow % 4} (fun g => [.one (.int .u8 g.1), .one (dT (x.b ^ (g.1 + 1)).num.natAbs), .one (.bool (decide ((x.b ^ (g.1 + 1)).num < 0))), .one (dT ((x.b ^ (g.1 + 1)).den - 1)), .one (.int .i64 (x.b ^ (g.1 + 1)).num.sign), .one (bT (x.b ^ (g.1 + 1)).num.natAbs), .one (.int .i64 1), .one (bT (x.b ^ (g.1 + 1)).den)]) (fun g => x.pow % 4 - g.1) ⟨0, Nat.zero_le _⟩ (by
   have e : x.b ^ (0 + 1) = x.b := by rw [Rat.pow_succ, Rat.pow_zero, Rat.one_mul]
   simp only [e]; exact aL.rfl) (fun _ => rfl) ?_
  rintro ⟨i, hi⟩
  dsimp only [aA, aB] at hi ⊢
  refine vn (dI (by omega) (by omega)) rfl ?_
  dsimp only [aA, aB]
  refine vn aU rfl ?_
  dsimp only [aA, aB]
  refine vs _ rfl (fun h7 => ?_) (fun h7 => ?_)
  ·refine aC (hm1 i (by omega)) rfl ?_
   dsimp only [aA, aB]
   refine aC (hm2 i (by omega)) rfl ?_
   dsimp only [aA, aB]
   refine vn (CO (by omega) (by omega)) rfl ?_
   dsimp only [aA, aB]
   exact aO rfl ⟨⟨i + 1, by omega⟩, aL.rfl, by show x.pow % 4 - (i + 1) < x.pow % 4 - i; omega⟩
  have hie : i = x.pow % 4 := by omega
  subst hie
  exact aJ rfl
 have hb : x.b = (x.n : Rat) / (x.d : Rat) := by rw [bG.b, if_neg h1]
 have ho := Uq x.n x.d h.n1 h2 h3 h4
 rw [if_neg h1, if_neg h1, ← hb] at ho
 refine aC ho rfl ?_
 dsimp only [aA, aB]
 have ho := Pc x.n x.d h1 h.n1 h2 h3 h4
 rw [← hb] at ho
 refine aC ho rfl ?_
 dsimp only [aA, aB]
 refine aY {i : Nat // i ≤ x.pow % 4} (fun g => [.one (.int .u8 g.1), .one (dT (x.b ^ (g.1 + 1)).num.natAbs), .one (.bool (decide ((x.b ^ (g.1 + 1)).num < 0))), .one (dT ((x.b ^ (g.1 + 1)).den - 1)), .one (.int .i64 (x.b ^ (g.1 + 1)).num.sign), .one (bT (x.b ^ (g.1 + 1)).num.natAbs), .one (.int .i64 1), .one (bT (x.b ^ (g.1 + 1)).den)]) (fun g => x.pow % 4 - g.1) ⟨0, Nat.zero_le _⟩ (by
  have e : x.b ^ (0 + 1) = x.b := by rw [Rat.pow_succ, Rat.pow_zero, Rat.one_mul]
  simp only [e]; exact aL.rfl) (fun _ => rfl) ?_
 rintro ⟨i, hi⟩
 dsimp only [aA, aB] at hi ⊢
 refine vn (dI (by omega) (by omega)) rfl ?_
 dsimp only [aA, aB]
 refine vn aU rfl ?_
 dsimp only [aA, aB]
 refine vs _ rfl (fun h18 => ?_) (fun h18 => ?_)
 ·refine aC (hm1 i (by omega)) rfl ?_
  dsimp only [aA, aB]
  refine aC (hm2 i (by omega)) rfl ?_
  dsimp only [aA, aB]
  refine vn (CO (by omega) (by omega)) rfl ?_
  dsimp only [aA, aB]
  exact aO rfl ⟨⟨i + 1, by omega⟩, aL.rfl, by show x.pow % 4 - (i + 1) < x.pow % 4 - i; omega⟩
 have hie : i = x.pow % 4 := by omega
 subst hie
 exact aJ rfl
def bO (l : List bG) : List Rat := l.map bG.v
def nE (l : List bG) : List RQ := l.map fun x => RQ.of x.v
theorem iZ {α β : Type} {f : α → β} {l : List α} {i : Nat} {x : α} (h : l[i]? = some x) : (l.take i).map f ++ [f x] = (l.take (i + 1)).map f := by
 rw [List.take_add_one, h, List.map_append]; rfl
theorem Gb (l : List bG) (h : ∀ x ∈ l, x.In) (hs : l.length < 1099511627776) : aN prog 71 [(.one (sN l) : aH)] (.ret [.one (sQ (bO l)), .one (sR (nE l))]) := by
 refine aD (args := [.v none]) (ins := [.v (.one (sN l))]) (hints := (fun _ => none)) fo (by kernel_rfl) func71 ⟨rfl, trivial⟩ ?_
 rw [Om]
 dsimp only [List.map, In.env, aA, aB]
 refine aY {i : Nat // i ≤ l.length} (fun g => [.one (.int .i64 g.1), .rows (rQ ((l.take g.1).map bG.v)), .rows (rR ((l.take g.1).map fun x => RQ.of x.v))]) (fun g => l.length - g.1) ⟨0, Nat.zero_le _⟩ aL.rfl (fun _ => rfl) ?_
 rintro ⟨i, hi⟩
 dsimp only [aA, aB] at hi ⊢
 refine vn (aK Dc (List.length_map _)) rfl ?_
 dsimp only [aA, aB]
 refine vn aU rfl ?_
 dsimp only [aA, aB]
 refine vs _ rfl (fun h3 => ?_) (fun h3 => ?_)
 ·obtain ⟨x, hx⟩ : ∃ x, l[i]? = some x := ⟨_, List.getElem?_eq_getElem (by omega)⟩
  have hl1 : ((l.take i).map bG.v).length ≤ i := by simp; omega
  have hl2 : ((l.take i).map fun x => RQ.of x.v).length ≤ i := by simp; omega
  refine vn (aR Dc (by omega) (by omega) hx) rfl ?_
  dsimp only [aA, aB]
  refine vn (cB SD (by decide) (by simp) (.inl rfl)) rfl ?_
  dsimp only [aA, aB]
  refine aC (GA x (h x (List.mem_of_getElem? hx))) rfl ?_
  dsimp only [aA, aB]
  refine bC (us := [qC x.v]) rfl ?_
  dsimp only [aA, aB]
  refine lK (xs := (l.take i).map bG.v) (x := x.v) (f := qC) rfl rfl (by omega) (by simp only [maxLen]; omega) ?_
  rw [iZ hx]
  dsimp only [aA, aB]
  refine bC (us := [rC (RQ.of x.v)]) rfl ?_
  dsimp only [aA, aB]
  refine lK (xs := (l.take i).map fun x : bG => RQ.of x.v) (x := RQ.of x.v) (f := rC) rfl rfl (by omega) (by simp only [maxLen]; omega) ?_
  rw [iZ (f := fun x : bG => RQ.of x.v) hx]
  dsimp only [aA, aB]
  refine vn (aE (by omega) (by omega)) rfl ?_
  dsimp only [aA, aB]
  exact aO rfl ⟨⟨i + 1, by omega⟩, aL.rfl, by show l.length - (i + 1) < l.length - i; omega⟩
 rw [show i = l.length by omega, List.take_length]; exact aJ rfl
def bG.short (x : bG) : Bool := decide (x.pow % 4 = 0 ∧ x.n ≤ 999 ∧ -999 ≤ x.n ∧ x.d ≤ 999 ∧ -999 ≤ x.d)
def bG.vA (x : bG) : Bool := decide (x.pow % 4 = 0 ∧ x.n ≤ 99 ∧ -99 ≤ x.n ∧ x.d ≤ 99 ∧ -99 ≤ x.d)
theorem DA (x : bG) (h : x.In) : aN prog 39 [(nT x : aH)] (.ret [.one (.bool x.short)]) := by
 refine aD (args := [.v (some 3)]) (ins := [.v (nT x)]) (hints := (fun _ => none)) fo (by kernel_rfl) func39 ⟨rfl, trivial⟩ ?_
 rw [KT]
 dsimp only [List.map, In.env, aA, aB]
 refine vn (dI (by omega) (by omega)) rfl ?_
 dsimp only [aA, aB]
 refine vn aX rfl ?_
 dsimp only [aA, aB]
 refine vs _ rfl (fun h2 => ?_) (fun h2 => ?_)
 ·refine vn jA rfl ?_
  dsimp only [aA, aB]
  refine vs _ rfl (fun h4 => ?_) (fun h4 => ?_)
  ·refine vn dU rfl ?_
   dsimp only [aA, aB]
   refine vs _ rfl (fun h6 => ?_) (fun h6 => ?_)
   ·refine vn jA rfl ?_
    dsimp only [aA, aB]
    refine vs _ rfl (fun h8 => ?_) (fun h8 => ?_)
    ·refine vn dU rfl ?_
     dsimp only [aA, aB]
     refine aJ ?_
     have : decide (-999 ≤ x.d) = x.short := by unfold bG.short; rw [decide_eq_decide]; constructor <;> intro hh <;> omega
     rw [← this]; rfl
    refine aJ ?_
    have : x.short = false := by unfold bG.short; rw [decide_eq_false_iff_not]; omega
    rw [this]; rfl
   refine aJ ?_
   have : x.short = false := by unfold bG.short; rw [decide_eq_false_iff_not]; omega
   rw [this]; rfl
  refine aJ ?_
  have : x.short = false := by unfold bG.short; rw [decide_eq_false_iff_not]; omega
  rw [this]; rfl
 refine aJ ?_
 have : x.short = false := by unfold bG.short; rw [decide_eq_false_iff_not]; omega
 rw [this]; rfl
end Go.Sy
