/- Lists of rational numbers: Clone, Trim, Degree. slices.Backward over numbers; Horner's rule. Numbers as they are handed in.
-/
import Derived.Test.YtdmcadckdnnglaaGreatDoorRb
import Derived.Laws.Cover3
import Derived.RangeFuncFrom
import Derived.RangeFuncBox
import Derived.RangeFuncLeaves
import Derived.Shelf.Abstract
import Derived.WalkKit
import Derived.OwnWalkIn
import Derived.TacticsInMore
import Derived.LoopNIn
import Derived.LoopIn
set_option linter.unusedVariables false
set_option linter.unusedSimpArgs false
namespace Go.Sy
open Go Go.Proofs Tryz Ord
def Uz : Tr := .need (.prim [(W 0 0), (.one (.c (.k (.slice none 0 0))))] none) (.binOp .eql 72 (tT 3) (.const (.slice none 0 0)) 72) 4 false (.split (.u 1 0) (.ret [(.one (.c (.k (.slice none 0 0))))]) (.need (.lit 3 []) (.buildSlice 72 0 #[]) 72 false (.need (.app 3 56 (some 2) (some (.u 0 0)) none) (.call ⟨.builtin .append, #[(tT 5), (tT 6)], #[72, 72]⟩) 72 false (.ret [(.one (.c (.sr 3 3)))]))))
theorem CH : aL prog f113 (fun _ => none) [.v none] = Uz := by kernel_rfl
def Ie : Tr := aV .sub 3 17 1 2 0 3 (.back 0 [lV 9 0])
def UJ : Tr := fU 5 0 (some 3) 39 12 (aN 35 [(G3 6)] [none] [13] [39] 3 false (aV .eql 3 14 0 7 0 4 (.split (.u 8 0) Ie (.need (.prim [(W 0 0), (W 2 0)] none) (.slice 72 (tT 19) none (some (tT 20)) none) 72 false (aN 113 [(W 9 0)] [none] [21] [72] 72 true (.ret [(W 10 0)]))))))
def SZ : Tr := cM 0 0 4 72 (.loop 0 [lV 1 0] (aV .gtr 3 6 0 2 0 4 (.split (.u 3 0) (aV .sub 3 10 1 2 0 3 (gV 0 0 4 0 72 9 11 UJ)) (.need (.prim [(W 0 0), (W 2 0)] none) (.slice 72 (tT 19) none (some (tT 20)) none) 72 false (aN 113 [(W 4 0)] [none] [21] [72] 72 true (.ret [(W 5 0)]))))))
theorem Nt : aL prog f34 (fun _ => none) [.v none] = SZ := by kernel_rfl
def TD : Tr := aN 34 [(W 0 0)] [none] [3] [72] 72 false (cM 1 0 4 72 (aV .sub 3 5 1 2 0 3 (.ret [(W 3 0)])))
theorem Gx : aL prog f95 (fun _ => none) [.v none] = TD := by kernel_rfl
def SM : Tr := fU 5 0 (some 4) 49 12 (aN 46 [(G4 6)] [none] [13] [49] 3 false (aV .eql 3 14 0 7 0 4 (.split (.u 8 0) Ie (.need (.prim [(W 0 0), (W 2 0)] none) (.slice 167 (tT 19) none (some (tT 20)) none) 167 false (.need (.app 4 64 none (some (.u 9 0)) none) (.call ⟨.builtin .append, #[(.const (.slice none 0 0)), (tT 21)], #[167, 167]⟩) 167 false (.ret [(.one (.c (.sr 4 10)))]))))))
def Tn : Tr := cM 0 0 4 167 (.loop 0 [lV 1 0] (aV .gtr 3 6 0 2 0 4 (.split (.u 3 0) (aV .sub 3 10 1 2 0 3 (gV 0 0 4 0 167 9 11 SM)) (.need (.prim [(W 0 0), (W 2 0)] none) (.slice 167 (tT 19) none (some (tT 20)) none) 167 false (.need (.app 4 64 none (some (.u 4 0)) none) (.call ⟨.builtin .append, #[(.const (.slice none 0 0)), (tT 21)], #[167, 167]⟩) 167 false (.ret [(.one (.c (.sr 4 5)))]))))))
theorem MD : aL prog f144 (fun _ => none) [.v none] = Tn := by kernel_rfl
def aF.KP : aF where
 rep := fun _ _ v => ∃ cap, v = .slice none 0 cap ∧ cap ≤ maxLen
 mono := fun _ h => h
 one := by rintro M w v ⟨cap, rfl, _⟩; rfl
def aF.Sg (sz : Nat) (ts : List (List aF)) : aF where
 rep := fun M w v => (aF.slice sz ts).rep M w v ∧ ∃ a l c, v = .slice (some a) l c
 mono := fun hk h => ⟨aF.mono _ hk h.1, h.2⟩
 one := fun h => aF.one _ h.1
theorem aF.Sub.nn {sz : Nat} {ts : List (List aF)} : (aF.Sg sz ts).Sub (.slice sz ts) :=
 .inr ⟨fun M w v h => by obtain ⟨_, a, l, c, rfl⟩ := h; exact ⟨some a, l, c, rfl⟩, fun M w v h => h.1⟩
theorem CZ {sz : Nat} {ts : List (List aF)} {M : Nat → Prop} {w : World} {v : Value} (h : (aF.slice sz ts).rep M w v) : (ts = [] ∧ aF.KP.rep M w v) ∨ (aF.Sg sz ts).rep M w v := by
 have h0 := h
 obtain ⟨a, cap, rfl, hc, hm, hel⟩ := h
 cases a with
 | some a => exact .inr ⟨h0, a, _, _, rfl⟩
 | none =>
   rcases hel with rfl | ⟨b, off, cs, T, fz, e, _⟩
   ·exact .inl ⟨rfl, cap, rfl, hm⟩
   ·cases e
theorem ES {P : Program} {f : FuncId} {sz : Nat} {ts : List (List aF)} {out : Out} (h1 : ts = [] → aO P f [.one .KP] out) (h2 : aO P f [.one (.Sg sz ts)] out) : aO P f [.one (.slice sz ts)] out := by
 refine ⟨h2.1, fun M w vs hM hv => ?_⟩
 match vs, hv with
 | [v], hv =>
   rcases CZ hv.1 with ⟨e, h⟩ | h
   ·exact (h1 e).2 M w [v] hM ⟨h, trivial⟩
   ·exact h2.2 M w [v] hM ⟨h, trivial⟩
 | [], hv => exact hv.elim
 | _ :: _ :: _, hv => exact hv.2.elim
section
variable {P : Program} {T U ty : TypeId} {x y : Operand}
theorem Qn {E sz b : Nat} (h : cS P T = some (E, sz, b)) : aQ P (.binOp .eql T x y U) ty [.one .KP, .one (.exact (.slice none 0 0))] (.one (.bool true)) := by
 obtain ⟨ie, hu, _⟩ := bX h
 intro M w ρ o ho ht hr
 obtain ⟨hx, hy⟩ := pV (x := x) (y := y) hr
 obtain ⟨cap, hx, _⟩ := hx
 have hy : ρ y = .slice none 0 0 ∧ _ := hy
 refine ⟨.bool true, ?_, ⟨rfl, rfl⟩⟩
 simp [execOp, ho, hx, hy.1, eqGuard, binOp, run_equal_slice_nil w T E none 0 cap hu]
theorem RG {E sz b sz' : Nat} {ts : List (List aF)} (h : cS P T = some (E, sz, b)) : aQ P (.binOp .eql T x y U) ty [.one (.Sg sz' ts), .one (.exact (.slice none 0 0))] (.one (.bool false)) := by
 obtain ⟨ie, hu, _⟩ := bX h
 intro M w ρ o ho ht hr
 obtain ⟨hx, hy⟩ := pV (x := x) (y := y) hr
 obtain ⟨_, a, l, c, hx⟩ := hx
 have hy : ρ y = .slice none 0 0 ∧ _ := hy
 refine ⟨.bool false, ?_, ⟨rfl, rfl⟩⟩
 simp [execOp, ho, hx, hy.1, eqGuard, binOp, run_equal_slice_nil w T E (some a) l c hu]
end
theorem Hx  : aO prog 113 [(.one .KP : aI)] (.ret [.one (.slice 3 [])]) := by
 refine aD (args := [.v none]) (ins := [.v (.one .KP)]) (hints := (fun _ => none)) fo (by kernel_rfl) func113 ⟨rfl, trivial⟩ ?_
 rw [CH]
 dsimp only [List.map, In.env, aA, aB]
 refine vn (Qn fB) rfl ?_
 dsimp only [aA, aB]
 refine Aj true rfl (fun _ => ?_) (fun h => by cases h)
 exact cT ⟨aF.Sub.nil, trivial⟩
theorem Ht (ts : List (List aF)) (hs : ts.length < 1099511627776) : aO prog 113 [(.one (.Sg 3 ts) : aI)] (.ret [.one (.slice 3 ts)]) := by
 refine aD (args := [.v none]) (ins := [.v (.one (.Sg 3 ts))]) (hints := (fun _ => none)) fo (by kernel_rfl) func113 ⟨rfl, trivial⟩ ?_
 rw [CH]
 dsimp only [List.map, In.env, aA, aB]
 refine vn (RG fB) rfl ?_
 dsimp only [aA, aB]
 refine Aj false rfl (fun h => by cases h) (fun _ => ?_)
 refine bG (us := []) rfl ?_
 dsimp only [aA, aB]
 refine rY (ts := []) (us := ts) (vs := ts) rfl (.inr aF.Sub.nn) rfl (by omega) (by simp only [maxLen]; omega) ?_
 dsimp only [aA, aB]
 exact aJ rfl
theorem BT (ts : List (List aF)) (hs : ts.length < 1099511627776) : aO prog 113 [.one (.slice 3 ts)] (.ret [.one (.slice 3 ts)]) :=
 ES (fun e => by subst e; exact Hx) (Ht ts hs)
def dL {α : Type} (z : α → Bool) : List α → Nat
 | [] => 0
 | x :: xs => if dL z xs = 0 ∧ z x = true then 0 else dL z xs + 1
theorem fG {α : Type} {z : α → Bool} : ∀ l : List α, dL z l ≤ l.length
 | [] => Nat.le_refl _
 | x :: xs => by
   have := fG (z := z) xs
   simp only [dL, List.length_cons]; split <;> omega
theorem pO {α : Type} {z : α → Bool} : ∀ {l : List α} {n : Nat}, n ≤ l.length → (∀ i x, n ≤ i → l[i]? = some x → z x = true) → (n = 0 ∨ ∃ x, l[n - 1]? = some x ∧ z x = false) → dL z l = n
 | [], n, h, _, _ => by simp at h; subst h; rfl
 | x :: xs, n, h, h1, h2 => by
   cases n with
   | zero =>
     have h3 := pO (z := z) (l := xs) (n := 0) (Nat.zero_le _) (fun i y _ hy => h1 (i + 1) y (Nat.zero_le _) (by simpa using hy)) (.inl rfl)
     have h4 := h1 0 x (Nat.zero_le _) rfl
     simp [dL, h3, h4]
   | succ n =>
     have h3 := pO (z := z) (l := xs) (n := n) (by simpa using h) (fun i y hi hy => h1 (i + 1) y (by omega) (by simpa using hy)) (by
      cases n with
      | zero => exact .inl rfl
      | succ n =>
        rcases h2 with h2 | ⟨y, hy, hz⟩
        ·omega
        ·exact .inr ⟨y, by simpa using hy, hz⟩)
     simp only [dL, h3]
     rw [if_neg]
     rintro ⟨h4, h5⟩
     subst h4
     rcases h2 with h2 | ⟨y, hy, hz⟩
     ·omega
     ·simp at hy; subst hy; rw [h5] at hz; cases hz
theorem Cn {α β : Type} {z : β → Bool} (f : α → β) : ∀ l : List α, dL z (l.map f) = dL (fun a => z (f a)) l
 | [] => rfl
 | x :: xs => by simp only [List.map_cons, dL, Cn f xs]
abbrev rQ (ps : List Rat) : List (List aF) := ps.map qC
abbrev sQ (ps : List Rat) : aF := .slice 3 (rQ ps)
abbrev rR (ps : List RQ) : List (List aF) := ps.map rC
abbrev sR (ps : List RQ) : aF := .slice 4 (rR ps)
def zr (q : Rat) : Bool := decide (q = 0)
def Sh (a : RQ) : Bool := decide (a.q = 0)
def trim (ps : List Rat) : List Rat := ps.take (dL zr ps)
def eZ (ps : List RQ) : List RQ := ps.take (dL Sh ps)
theorem mZ (ps : List RQ) : (eZ ps).map RQ.q = trim (ps.map RQ.q) := by
 rw [trim, Cn, eZ, List.map_take]; rfl
theorem uQ {q : Rat} : zr q = decide (q.num.sign = 0) := by rw [zr, decide_eq_decide]; exact sign_zero.symm
theorem dY (ps : List Rat) : (trim ps).length = dL zr ps := by rw [trim, List.length_take]; have := fG (z := zr) ps; omega
theorem Al (ps : List RQ) : (eZ ps).length = dL Sh ps := by rw [eZ, List.length_take]; have := fG (z := Sh) ps; omega
theorem rZ {E sz b T : Nat} {α : Type} {f : α → List aF} {ds : List α} {x : Operand} {ty : Nat} {y : Operand} {k : IntKind} {n : Int} {m : Nat} (h : cS prog T = some (E, sz, b)) (h0 : 0 ≤ n) (hm : n.toNat = m) (hn : m ≤ ds.length) : aQ prog (.slice T x none (some y) none) ty [.one (.slice sz (ds.map f)), .one (.int k n)] (.one (.slice sz ((ds.take m).map f))) := by
 have := zD (P := prog) (T := T) (x := x) (y := y) (ty := ty) (k := k) (n := n) (ts := ds.map f) h h0 (by rw [List.length_map, hm]; exact hn)
 rw [hm, ← List.map_take] at this
 exact this
theorem pL (ps : List Rat) (hs : ps.length < 1099511627776) : aO prog 34 [(.one (sQ ps) : aI)] (.ret [.one (sQ (trim ps))]) := by
 refine aD (args := [.v none]) (ins := [.v (.one (sQ ps))]) (hints := (fun _ => none)) fo (by kernel_rfl) func34 ⟨rfl, trivial⟩ ?_
 rw [Nt]
 dsimp only [List.map, In.env, aA, aB]
 refine vn (aM fB (List.length_map _)) rfl ?_
 dsimp only [aA, aB]
 refine bA {n : Nat // n ≤ ps.length ∧ ∀ i q, n ≤ i → ps[i]? = some q → zr q = true} (fun g => [.one (.int .i64 g.1)]) (fun g => g.1) ⟨ps.length, Nat.le_refl _, fun i q hi hq => by have := (List.getElem?_eq_some_iff.1 hq).1; omega⟩ aK.rfl (fun _ => rfl) ?_
 rintro ⟨n, hn, hz⟩
 dsimp only [aA, aB] at hn hz ⊢
 refine vn dX rfl ?_
 dsimp only [aA, aB]
 refine vs _ rfl (fun h3 => ?_) (fun h3 => ?_)
 ·refine vn (aH (by omega) (by omega)) rfl ?_
  dsimp only [aA, aB]
  obtain ⟨q, hq⟩ : ∃ q, ps[n - 1]? = some q := ⟨_, List.getElem?_eq_getElem (by omega)⟩
  refine vn (aW fB (by omega) (by omega) hq) rfl ?_
  dsimp only [aA, aB]
  refine vn (cY nW (by decide) (by simp) (.inl rfl)) rfl ?_
  dsimp only [aA, aB]
  refine aC (iG q) rfl ?_
  dsimp only [aA, aB]
  refine vn bI rfl ?_
  dsimp only [aA, aB]
  refine vs _ rfl (fun h9 => ?_) (fun h9 => ?_)
  ·refine vn (aH (by omega) (by omega)) rfl ?_
   dsimp only [aA, aB]
   exact aR rfl ⟨⟨n - 1, by omega, fun i r hi hr => by
    rcases Nat.lt_or_ge i n with h | h
    ·rw [show i = n - 1 by omega, hq] at hr
     simp only [Option.some.injEq] at hr
     subst hr
     rw [uQ]; simpa using h9
    ·exact hz i r h hr⟩, ⟨aI.Sub.of_eq (congrArg (fun q => aI.one (aF.int .i64 q)) (by show (n : Int) - 1 = ((n - 1 : Nat) : Int); omega)), trivial⟩, by show n - 1 < n; omega⟩
  refine vn (rZ fB (by omega) (by omega) hn) rfl ?_
  dsimp only [aA, aB]
  have ht := pO hn hz (.inr ⟨q, hq, by rw [uQ]; simpa using h9⟩)
  refine aC (BT _ (by rw [List.length_map, List.length_take]; omega)) rfl ?_
  dsimp only [aA, aB]
  rw [trim, ht]; exact aJ rfl
 refine vn (rZ fB (by omega) (by omega) hn) rfl ?_
 dsimp only [aA, aB]
 have ht := pO hn hz (.inl (by omega))
 refine aC (BT _ (by rw [List.length_map, List.length_take]; omega)) rfl ?_
 dsimp only [aA, aB]
 rw [trim, ht]; exact aJ rfl
theorem sG (ps : List Rat) (hs : ps.length < 1099511627776) : aO prog 95 [(.one (sQ ps) : aI)] (.ret [.one (.int .i64 ((dL zr ps : Int) - 1))]) := by
 refine aD (args := [.v none]) (ins := [.v (.one (sQ ps))]) (hints := (fun _ => none)) fo (by kernel_rfl) func95 ⟨rfl, trivial⟩ ?_
 rw [Gx]
 dsimp only [List.map, In.env, aA, aB]
 have hle := fG (z := zr) ps
 have htl := dY ps
 refine aC (pL ps hs) rfl ?_
 dsimp only [aA, aB]
 refine vn (aM fB (List.length_map _)) rfl ?_
 dsimp only [aA, aB]
 refine vn (aH (by omega) (by omega)) rfl ?_
 dsimp only [aA, aB]
 rw [← htl]; exact aJ rfl
theorem Fm (ps : List RQ) (hs : ps.length < 1099511627776) : aO prog 144 [(.one (sR ps) : aI)] (.ret [.one (sR (eZ ps))]) := by
 refine aD (args := [.v none]) (ins := [.v (.one (sR ps))]) (hints := (fun _ => none)) fo (by kernel_rfl) func144 ⟨rfl, trivial⟩ ?_
 rw [MD]
 dsimp only [List.map, In.env, aA, aB]
 refine vn (aM FT (List.length_map _)) rfl ?_
 dsimp only [aA, aB]
 refine bA {n : Nat // n ≤ ps.length ∧ ∀ i q, n ≤ i → ps[i]? = some q → Sh q = true} (fun g => [.one (.int .i64 g.1)]) (fun g => g.1) ⟨ps.length, Nat.le_refl _, fun i q hi hq => by have := (List.getElem?_eq_some_iff.1 hq).1; omega⟩ aK.rfl (fun _ => rfl) ?_
 rintro ⟨n, hn, hz⟩
 dsimp only [aA, aB] at hn hz ⊢
 refine vn dX rfl ?_
 dsimp only [aA, aB]
 refine vs _ rfl (fun h3 => ?_) (fun h3 => ?_)
 ·refine vn (aH (by omega) (by omega)) rfl ?_
  dsimp only [aA, aB]
  obtain ⟨q, hq⟩ : ∃ q, ps[n - 1]? = some q := ⟨_, List.getElem?_eq_getElem (by omega)⟩
  refine vn (aW FT (by omega) (by omega) hq) rfl ?_
  dsimp only [aA, aB]
  refine vn (cY VT (by decide) (by simp) (.inl rfl)) rfl ?_
  dsimp only [aA, aB]
  refine aC (NG q) rfl ?_
  dsimp only [aA, aB]
  refine vn bI rfl ?_
  dsimp only [aA, aB]
  refine vs _ rfl (fun h9 => ?_) (fun h9 => ?_)
  ·refine vn (aH (by omega) (by omega)) rfl ?_
   dsimp only [aA, aB]
   exact aR rfl ⟨⟨n - 1, by omega, fun i r hi hr => by
    rcases Nat.lt_or_ge i n with h | h
    ·rw [show i = n - 1 by omega, hq] at hr
     simp only [Option.some.injEq] at hr
     subst hr
     show zr q.q = true
     rw [uQ]; simpa using h9
    ·exact hz i r h hr⟩, ⟨aI.Sub.of_eq (congrArg (fun q => aI.one (aF.int .i64 q)) (by show (n : Int) - 1 = ((n - 1 : Nat) : Int); omega)), trivial⟩, by show n - 1 < n; omega⟩
  refine vn (rZ FT (by omega) (by omega) hn) rfl ?_
  dsimp only [aA, aB]
  have ht := pO (z := Sh) hn hz (.inr ⟨q, hq, by show zr q.q = false; rw [uQ]; simpa using h9⟩)
  refine rY (ts := []) (us := rR (ps.take n)) (vs := rR (ps.take n)) rfl (.inr aF.Sub.same) rfl (by rw [List.length_map, List.length_take]; omega) (by rw [List.length_map, List.length_take]; simp only [maxLen]; omega) ?_
  dsimp only [aA, aB]
  rw [eZ, ht]; exact aJ rfl
 refine vn (rZ FT (by omega) (by omega) hn) rfl ?_
 dsimp only [aA, aB]
 have ht := pO (z := Sh) hn hz (.inl (by omega))
 refine rY (ts := []) (us := rR (ps.take n)) (vs := rR (ps.take n)) rfl (.inr aF.Sub.same) rfl (by rw [List.length_map, List.length_take]; omega) (by rw [List.length_map, List.length_take]; simp only [maxLen]; omega) ?_
 dsimp only [aA, aB]
 rw [eZ, ht]; exact aJ rfl
end Go.Sy
namespace Go.Sy
open Go Go.Proofs Go.RowKit Go.Shelf Tryz Ord
attribute [local go_sem] Oper.semAt_some
section
variable {α : Type} [Inhabited α] {e0 e1 e2 : α → Value}
set_option maxRecDepth 100000 in
set_option maxHeartbeats 2000000 in
theorem GN (l Bs n₀ b off cap : Nat) (vs : List α) (hlen : vs.length < 4611686018427387904) (hb : b < n₀) (J Jx : List (Nat × α) → World → Prop)
  (hY : ∀ pre x W, J pre W → pre.length < vs.length → YieldAt Fence.wide (1000 - 1) prog l #[.int .i64 (x.1 : Int), (.agg #[e0 x.2, e1 x.2, e2 x.2])] W fun e W' =>
   (e = .returned (.bool true) ∧ J (pre ++ [x]) W' ∧ Me n₀ Bs W W') ∨ (e = .returned (.bool false) ∧ Jx (pre ++ [x]) W'))
  (W : World) (hBs : W.cell? ⟨Bs, 0, none⟩ = some (.slice (some ⟨b, off, none⟩) vs.length cap)) (hc : ∀ j v, vs[j]? = some v → W.cell? ⟨b, off + j * 3, none⟩ = some (e0 v) ∧ W.cell? ⟨b, off + j * 3 + 1, none⟩ = some (e1 v) ∧ W.cell? ⟨b, off + j * 3 + 2, none⟩ = some (e2 v)) (h0 : J [] W) :
  CallsIn Fence.wide 1000 prog 281 #[.func (.yield l) #[] #[], .pointer (some ⟨Bs, 0, none⟩)] W fun e W' => (∃ v, e = .returned v) ∧
   ((∃ ys, ys = bk vs vs.length ∧ J ys W') ∨ (∃ pre, (∃ k, k ≤ vs.length ∧ pre = bk vs k) ∧ Jx pre W')) := by
 refine callsIn_of_wp func281 rfl trivial ?_ rfl
 simp only [ntmps281, List.size_toArray, List.length_cons, List.length_nil, Nat.reduceAdd, Nat.reduceSub, Array.replicate_succ, Array.replicate_zero, List.push_toArray, List.append_toArray, List.nil_append, List.cons_append]
 obtain ⟨N, hN⟩ : ∃ N, vs.length = N := ⟨_, rfl⟩
 rw [hN] at hBs hY hlen ⊢
 gi_wp2
 gi_loopw [3] (fun i wr => ∃ k : Nat, k ≤ N ∧ i = .int .i64 ((N : Int) - 1 - k) ∧ J (bk vs k) wr ∧ Below n₀ W wr ∧ wr.cell? ⟨Bs, 0, none⟩ = some (.slice (some ⟨b, off, none⟩) N cap))
  (fun i _ => (intOf i + 1).toNat)
 case atStart => exact ⟨0, Nat.zero_le _, by simp, h0, Below.refl _ _, hBs⟩
 case round =>
  obtain ⟨k, hk, rfl, hJs, hnx, hBx⟩ := hrel
  have hmeas : (intOf (.int .i64 ((N : Int) - 1 - k)) + 1).toNat = N - k := by simp [intOf]; omega
  by_cases hlt : k < N
  ·have hv : vs[N - 1 - k]? = some (vs[N - 1 - k]?.getD default) := by rw [List.getElem?_eq_getElem (by omega)]; rfl
   obtain ⟨hx0, hx1, hx2⟩ := hc _ _ hv
   have hcx0 := (hnx.cell (p := ⟨b, off + (N - 1 - k) * 3, none⟩) hb).trans hx0
   have hcx1 := (hnx.cell (p := ⟨b, off + (N - 1 - k) * 3 + 1, none⟩) hb).trans hx1
   have hcx2 := (hnx.cell (p := ⟨b, off + (N - 1 - k) * 3 + 2, none⟩) hb).trans hx2
   clear hx0 hx1 hx2
   obtain ⟨fn, tmps, assign, body, hy, hR⟩ := hY _ (N - 1 - k, vs[N - 1 - k]?.getD default) wr hJs (by rw [zH]; exact hlt)
   generalize hx : vs[N - 1 - k]?.getD default = x at hy hR hcx0 hcx1 hcx2
   have hsucc : bk vs (k + 1) = bk vs k ++ [(N - 1 - k, x)] := by rw [Br, hN, hx]
   have e1 : (N : Int) - 1 - k = ((N - 1 - k : Nat) : Int) := by omega
   have hn1 : N - 1 - k < N := by omega
   rw [e1]
   gi_wp2
   refine hR.mono ?_
   rintro e W3 (⟨rfl, hJ3, hk3⟩ | ⟨rfl, hJx3⟩)
   ·gi_wp2
    go_roundw
    case rel => exact ⟨k + 1, by omega, by congr 1; omega, by rw [hsucc]; exact hJ3, hnx.trans hk3.1, hk3.2 _ hBx⟩
    case measure => simp [intOf]
   ·gi_wp2
    refine bodyPost_ret (results_none rfl _ _ _) rfl ?_
    exact ⟨⟨_, rfl⟩, .inr ⟨_, ⟨k + 1, by omega, rfl⟩, by rw [hsucc]; exact hJx3⟩⟩
  ·obtain rfl : k = N := by omega
   gi_wp2
   go_end0
   exact ⟨⟨_, rfl⟩, .inl ⟨_, rfl, hJs⟩⟩
set_option maxRecDepth 100000 in
set_option maxHeartbeats 1000000 in
theorem En {α : Type} (l Bs : Nat) (a : Option Addr) (cap : Nat) (J : List (Nat × α) → World → Prop) (W : World) (hBs : W.cell? ⟨Bs, 0, none⟩ = some (.slice a 0 cap)) (h0 : J [] W) :
  CallsIn Fence.wide 1000 prog 281 #[.func (.yield l) #[] #[], .pointer (some ⟨Bs, 0, none⟩)] W fun e W' => (∃ v, e = .returned v) ∧ J [] W' := by
 refine callsIn_of_wp func281 rfl trivial ?_ rfl
 simp only [ntmps281, List.size_toArray, List.length_cons, List.length_nil, Nat.reduceAdd, Nat.reduceSub, Array.replicate_succ, Array.replicate_zero, List.push_toArray, List.append_toArray, List.nil_append, List.cons_append]
 gi_wp2
 gi_loopw [3] (fun i wr => i = .int .i64 (-1) ∧ J [] wr) (fun _ _ => 0)
 case atStart => exact ⟨rfl, h0⟩
 case round =>
  obtain ⟨rfl, hJs⟩ := hrel
  gi_wp2
  go_end0
  exact ⟨⟨_, rfl⟩, hJs⟩
set_option maxHeartbeats 1000000 in
theorem Dy (n : Nat) (a : Option Addr) (len cap : Nat) (w : World) :
  CallsIn Fence.wide n prog 248 #[.slice a len cap] w fun e w' => e = .returned (.func (.func 281) #[] #[.pointer (some ⟨w.heap.size, 0, none⟩)]) ∧ w' = w.alloc (.cells #[.slice a len cap] 72) := by
 refine callsIn_of_wp func248 rfl trivial ?_ rfl
 simp only [ntmps248, List.size_toArray, List.length_cons, List.length_nil, Nat.reduceAdd, Nat.reduceSub, Array.replicate_succ, Array.replicate_zero, List.push_toArray, List.append_toArray, List.nil_append, List.cons_append]
 gi_wp2
 go_ret
 exact ⟨rfl, rfl⟩
def Ov (e0 e1 e2 : α → Value) (n₀ : Nat) (W : World) (sv : Value) (vs : List α) : Prop :=
 ∃ a cap, sv = .slice a vs.length cap ∧ (vs = [] ∨ ∃ b off, a = some ⟨b, off, none⟩ ∧ b < n₀ ∧ ∀ j v, vs[j]? = some v → W.cell? ⟨b, off + j * 3, none⟩ = some (e0 v) ∧ W.cell? ⟨b, off + j * 3 + 1, none⟩ = some (e1 v) ∧ W.cell? ⟨b, off + j * 3 + 2, none⟩ = some (e2 v))
theorem Ov.below {α : Type} {e0 e1 e2 : α → Value} {n₀ : Nat} {A B : World} (h : Below n₀ A B) {sv : Value} {vs : List α} : Ov e0 e1 e2 n₀ A sv vs → Ov e0 e1 e2 n₀ B sv vs := by
 rintro ⟨a, cap, e, rfl | ⟨b, off, rfl, hb, hc⟩⟩
 ·exact ⟨a, cap, e, .inl rfl⟩
 ·exact ⟨_, cap, e, .inr ⟨b, off, rfl, hb, fun j v hj => ⟨(h.cell (p := ⟨b, off + j * 3, none⟩) hb).trans (hc j v hj).1, (h.cell (p := ⟨b, off + j * 3 + 1, none⟩) hb).trans (hc j v hj).2.1, (h.cell (p := ⟨b, off + j * 3 + 2, none⟩) hb).trans (hc j v hj).2.2⟩⟩⟩
theorem tU (Bs n₀ : Nat) (sv : Value) (vs : List α) (hlen : vs.length < 4611686018427387904) (w : World) (hBs : Bs < w.heap.size) (hn₀ : n₀ ≤ w.heap.size)
  (hc : w.cell? ⟨Bs, 0, none⟩ = some sv) (hI : Ov e0 e1 e2 n₀ w sv vs) :
  SeqStopsK Fence.wide 1000 prog 281 #[.pointer (some ⟨Bs, 0, none⟩)] (fun x : Nat × α => #[Value.int .i64 (x.1 : Int), (Value.agg #[e0 x.2, e1 x.2, e2 x.2])]) (Me n₀ Bs) (fun ys => ys = bk vs vs.length) (fun pre => ∃ k, k ≤ vs.length ∧ pre = bk vs k) vs.length w := fun l J Jx W hW _ _ hY h0 => by
 have hc' := (hW.cell (p := ⟨Bs, 0, none⟩) hBs).trans hc
 obtain ⟨a, cap, rfl, rfl | ⟨b, off, rfl, hb, hcs⟩⟩ := hI.below (hW.mono hn₀)
 ·exact (En (α := α) l Bs a cap J W hc' h0).mono fun e W' ⟨he, hj⟩ => ⟨he, .inl ⟨_, rfl, hj⟩⟩
 ·exact (GN (e0 := e0) (e1 := e1) (e2 := e2) l Bs n₀ b off cap vs hlen hb J Jx hY W hc' hcs h0)
end
end Go.Sy
namespace Go.Sy
open Go Go.Proofs Tryz Ord
def Sm : Tr := .need (.prim [(W 0 2), (.one (.c (.k (.int .u8 4))))] none) (.binOp .rem 5 (tT 31) (.const (.int .u8 4)) 5) 5 false (bK .lss 5 29 32 5 0 13 0 4 (.split (.u 14 0) (aN 36 [(.agg [(U 6 0), (U 7 0), (U 8 0)]), (G3 2)] [(some 3)] [36, 37] [39, 39] 39 false (aN 104 [(.agg [(U 9 0), (U 10 0), (U 11 0), (U 12 0)]), (G4 4)] [(some 4)] [39, 40] [49, 49] 49 true (.need (.prim [(W 5 0), (.one (.c (.k (.int .u8 1))))] none) (.binOp .add 5 (tT 34) (.const (.int .u8 1)) 5) 5 false (.back 0 [lV 17 0, lV 15 0, lV 15 1, lV 15 2, lV 16 0, lV 16 1, lV 16 2, lV 16 3])))) (.ret [(.agg [(U 6 0), (U 7 0), (U 8 0)]), (.agg [(U 9 0), (U 10 0), (U 11 0), (U 12 0)])])))
def Oa : Tr := .loop 0 [(.w (.one (.c (.k (.int .u8 0))))), lV 2 0, lV 2 1, lV 2 2, lV 4 0, lV 4 1, lV 4 2, lV 4 3] Sm
def Vl : Tr := aV .eql 2 11 0 0 1 4 (.split (.u 1 0) (aN 120 [(W 0 0), (WK 1)] [(some 3), none] [16, 18] [2, 2] 90 false (aN 79 [(W 0 0), (WK 1)] [(some 4)] [23, 25] [2, 2] 49 true Oa)) (aN 120 [(W 0 0), (W 0 1)] [(some 3), none] [16, 18] [2, 2] 90 false (aN 79 [(W 0 0), (W 0 1)] [(some 4)] [23, 25] [2, 2] 49 true Oa)))
theorem NO : aL prog f40 (fun _ => none) [.v (some 3)] = Vl := by kernel_rfl
def TB : Tr := aN 40 [(G3 7)] [(some 3), (some 4)] [19] [26] 82 false (.need (.lit 3 [[(.u 8 0), (.u 8 1), (.u 8 2)]]) (.buildSlice 40 1 #[(0, (tT 24))]) 40 false (.need (.app 3 56 (some 2) none (some 10)) (.call ⟨.builtin .append, #[(tT 23), (tT 25)], #[40, 40]⟩) 40 false (.need (.lit 4 [[(.u 9 0), (.u 9 1), (.u 9 2), (.u 9 3)]]) (.buildSlice 50 1 #[(0, (tT 28))]) 50 false (.need (.app 4 64 (some 3) none (some 12)) (.call ⟨.builtin .append, #[(tT 27), (tT 29)], #[50, 50]⟩) 50 false (aV .add 3 13 1 1 0 3 (.back 0 [lV 14 0, .row 11, .row 13]))))))
def Ut : Tr := .loop 0 [lK 0, .nilrow, .nilrow] (cM 0 0 10 27 (bK .lss 3 9 11 1 0 4 0 4 (.split (.u 5 0) (gV 0 0 1 0 27 16 17 (fU 6 0 (some 3) 26 18 TB)) (.ret [(.one (.c (.sr 3 2))), (.one (.c (.sr 4 3)))]))))
theorem MV : aL prog f71 (fun _ => none) [.v none] = Ut := by kernel_rfl
def HX : Tr := .ret [(W 6 0)]
def lU : Tr := .ret [(tF false)]
def Vr : Tr := aV .leq 2 9 999 0 0 4 (.split (.u 3 0) (aV .geq 2 14 (-999) 0 0 4 (.split (.u 4 0) (aV .leq 2 19 999 0 1 4 (.split (.u 5 0) (aV .geq 2 24 (-999) 0 1 4 HX) lU)) lU)) lU)
def UY : Tr := .need (.prim [(W 0 2), (.one (.c (.k (.int .u8 4))))] none) (.binOp .rem 5 (tT 4) (.const (.int .u8 4)) 5) 5 false (.need (.prim [(W 1 0), (.one (.c (.k (.int .u8 0))))] none) (.binOp .eql 5 (tT 5) (.const (.int .u8 0)) 5) 4 false (.split (.u 2 0) Vr lU))
theorem JI : aL prog f39 (fun _ => none) [.v (some 3)] = UY := by kernel_rfl
def RY : Tr := .split (.u 22 0) lU (aV .gtr 2 54 99 18 1 4 (.split (.u 23 0) lU (aV .lss 2 59 (-99) 18 1 4 (.split (.u 24 0) lU (aV .add 3 28 1 10 0 3 (.back 1 [lV 9 0, lV 25 0]))))))
def Pv : Tr := fU 17 0 (some 3) 26 36 (.need (.prim [(W 18 2), (.one (.c (.k (.int .u8 4))))] none) (.binOp .rem 5 (tT 39) (.const (.int .u8 4)) 5) 5 false (.need (.prim [(W 19 0), (.one (.c (.k (.int .u8 0))))] none) (.binOp .neq 5 (tT 40) (.const (.int .u8 0)) 5) 4 false (.split (.u 20 0) lU (aV .gtr 2 44 99 18 0 4 (.split (.u 21 0) lU (aV .lss 2 49 (-99) 18 0 4 RY))))))
def QY : Tr := fU 11 0 none 27 24 (cM 12 0 25 27 (bK .lss 3 20 26 10 0 13 0 4 (.split (.u 14 0) (gV 0 0 2 0 22 31 32 (fU 15 0 none 27 33 (gV 16 0 10 0 27 34 35 Pv))) (aV .add 3 11 1 2 0 3 (.back 0 [lV 9 0, lV 15 0])))))
def Vm : Tr := gV 0 0 2 0 22 14 15 (fU 5 0 none 27 16 (cM 6 0 17 27 (aV .gtr 3 18 4 7 0 4 (.split (.u 8 0) lU (.loop 1 [lV 1 0, lK 0] (gV 0 0 2 0 22 22 23 QY))))))
def Sx : Tr := .loop 0 [(.w (.one (.c (.k (.bool false))))), lK 0] (cM 0 0 8 22 (bK .lss 3 6 9 2 0 3 0 4 (.split (.u 4 0) Vm (cM 0 0 63 22 (aV .leq 3 64 6 5 0 4 HX)))))
theorem AR : aL prog f55 (fun _ => none) [.v (some 2)] = Sx := by kernel_rfl
structure bH where
 n : Int
 d : Int
 pow : Nat
abbrev nC (x : bH) : List aF := [.int .i64 x.n, .int .i64 x.d, .int .u8 x.pow]
abbrev nT (x : bH) : aI := .agg (nC x)
abbrev sN (l : List bH) : aF := .slice 3 (l.map nC)
structure bH.In (x : bH) : Prop where
 n1 : -9223372036854775808 ≤ x.n
 n2 : x.n < 9223372036854775808
 d1 : -9223372036854775808 ≤ x.d
 d2 : x.d < 9223372036854775808
 p : x.pow < 256
def bH.b (x : bH) : Rat := (x.n : Rat) / ((if x.d = 0 then 1 else x.d : Int) : Rat)
def bH.v (x : bH) : Rat := x.b ^ (x.pow % 4 + 1)
theorem _root_.Ord.Fit.pow {B : Nat} {q : Rat} (h : Fit B q) (hB : 1 ≤ B) : ∀ n, Fit (B * n + 1) (q ^ n)
 | 0 => by rw [Rat.pow_zero]; exact (Fit.int (n := 1) (B := 1) (by omega) (by decide)).mono (by omega)
 | n + 1 => by
   rw [Rat.pow_succ]
   exact ((Ord.Fit.pow h hB n).mul h).mono (by rw [Nat.mul_add]; omega)
theorem bH.In.fit {x : bH} (h : x.In) : Fit 128 x.b := by
 unfold bH.b
 split
 ·exact (gW h.n1 h.n2).div (gW (n := 1) (by omega) (by omega))
 ·exact (gW h.n1 h.n2).div (gW h.d1 h.d2)
theorem bH.In.PW {x : bH} (h : x.In) : Fit 513 x.v := (h.fit.pow (by omega) _).mono (by omega)
theorem FC (x : bH) (h : x.In) : aO prog 40 [(nT x : aI)] (.ret [qT x.v, Dp (.of x.v)]) := by
 refine aD (args := [.v (some 3)]) (ins := [.v (nT x)]) (hints := (fun _ => none)) fo (by kernel_rfl) func40 ⟨rfl, trivial⟩ ?_
 rw [NO]
 dsimp only [List.map, In.env, aA, aB]
 have h1 := h.n1
 have h2 := h.n2
 have h3 := h.d1
 have h4 := h.d2
 have h5 := h.p
 have hf := h.fit
 have hp := fun i => hf.pow (by omega) i
 have hm1 : ∀ i, i < 4 → aO prog 36 [qT (x.b ^ (i + 1)), qT x.b] (.ret [qT (x.b ^ (i + 1 + 1))]) := fun i hi => by
  have := eI (x.b ^ (i + 1)) x.b _ _ (hp (i + 1)) hf (by omega)
  rw [← Rat.pow_succ] at this; exact this
 have hm2 : ∀ i, i < 4 → aO prog 104 [Dp (.of (x.b ^ (i + 1))), Dp (.of x.b)] (.ret [Dp (.of (x.b ^ (i + 1 + 1)))]) := fun i hi => by
  have := QB (.of (x.b ^ (i + 1))) (.of x.b) _ _ (hp (i + 1)) hf (by omega)
  rw [RQ.Su, RQ.Su, ← Rat.pow_succ] at this; exact this
 refine vn bI rfl ?_
 dsimp only [aA, aB]
 refine vs _ rfl (fun h1 => ?_) (fun h1 => ?_)
 ·have hb : x.b = (x.n : Rat) / ((1 : Int) : Rat) := by rw [bH.b, if_pos h1]
  have ho := Vy x.n 1 h.n1 h2 (by omega) (by omega)
  rw [if_neg (by omega), if_neg (by omega), ← hb] at ho
  refine aC ho rfl ?_
  dsimp only [aA, aB]
  have ho := NT x.n 1 (by omega) h.n1 h2 (by omega) (by omega)
  rw [← hb] at ho
  refine aC ho rfl ?_
  dsimp only [aA, aB]
  refine bA {i : Nat // i ≤ x.pow % 4} (fun g => [.one (.int .u8 g.1), .one (dT (x.b ^ (g.1 + 1)).num.natAbs), .one (.bool (decide ((x.b ^ (g.1 + 1)).num < 0))), .one (dT ((x.b ^ (g.1 + 1)).den - 1)), .one (.int .i64 (x.b ^ (g.1 + 1)).num.sign), .one (bT (x.b ^ (g.1 + 1)).num.natAbs), .one (.int .i64 1), .one (bT (x.b ^ (g.1 + 1)).den)]) (fun g => x.pow % 4 - g.1) ⟨0, Nat.zero_le _⟩ (by
   have e : x.b ^ (0 + 1) = x.b := by rw [Rat.pow_succ, Rat.pow_zero, Rat.one_mul]
   simp only [e]; exact aK.rfl) (fun _ => rfl) ?_
  rintro ⟨i, hi⟩
  dsimp only [aA, aB] at hi ⊢
  refine vn (eB (by omega) (by omega)) rfl ?_
  dsimp only [aA, aB]
  refine vn aZ rfl ?_
  dsimp only [aA, aB]
  refine vs _ rfl (fun h7 => ?_) (fun h7 => ?_)
  ·refine aC (hm1 i (by omega)) rfl ?_
   dsimp only [aA, aB]
   refine aC (hm2 i (by omega)) rfl ?_
   dsimp only [aA, aB]
   refine vn (Cs (by omega) (by omega)) rfl ?_
   dsimp only [aA, aB]
   exact aR rfl ⟨⟨i + 1, by omega⟩, aK.rfl, by show x.pow % 4 - (i + 1) < x.pow % 4 - i; omega⟩
  have hie : i = x.pow % 4 := by omega
  subst hie
  exact aJ rfl
 have hb : x.b = (x.n : Rat) / (x.d : Rat) := by rw [bH.b, if_neg h1]
 have ho := Vy x.n x.d h.n1 h2 h3 h4
 rw [if_neg h1, if_neg h1, ← hb] at ho
 refine aC ho rfl ?_
 dsimp only [aA, aB]
 have ho := NT x.n x.d h1 h.n1 h2 h3 h4
 rw [← hb] at ho
 refine aC ho rfl ?_
 dsimp only [aA, aB]
 refine bA {i : Nat // i ≤ x.pow % 4} (fun g => [.one (.int .u8 g.1), .one (dT (x.b ^ (g.1 + 1)).num.natAbs), .one (.bool (decide ((x.b ^ (g.1 + 1)).num < 0))), .one (dT ((x.b ^ (g.1 + 1)).den - 1)), .one (.int .i64 (x.b ^ (g.1 + 1)).num.sign), .one (bT (x.b ^ (g.1 + 1)).num.natAbs), .one (.int .i64 1), .one (bT (x.b ^ (g.1 + 1)).den)]) (fun g => x.pow % 4 - g.1) ⟨0, Nat.zero_le _⟩ (by
  have e : x.b ^ (0 + 1) = x.b := by rw [Rat.pow_succ, Rat.pow_zero, Rat.one_mul]
  simp only [e]; exact aK.rfl) (fun _ => rfl) ?_
 rintro ⟨i, hi⟩
 dsimp only [aA, aB] at hi ⊢
 refine vn (eB (by omega) (by omega)) rfl ?_
 dsimp only [aA, aB]
 refine vn aZ rfl ?_
 dsimp only [aA, aB]
 refine vs _ rfl (fun h18 => ?_) (fun h18 => ?_)
 ·refine aC (hm1 i (by omega)) rfl ?_
  dsimp only [aA, aB]
  refine aC (hm2 i (by omega)) rfl ?_
  dsimp only [aA, aB]
  refine vn (Cs (by omega) (by omega)) rfl ?_
  dsimp only [aA, aB]
  exact aR rfl ⟨⟨i + 1, by omega⟩, aK.rfl, by show x.pow % 4 - (i + 1) < x.pow % 4 - i; omega⟩
 have hie : i = x.pow % 4 := by omega
 subst hie
 exact aJ rfl
def bR (l : List bH) : List Rat := l.map bH.v
def mH (l : List bH) : List RQ := l.map fun x => RQ.of x.v
theorem pI {α β : Type} {f : α → β} {l : List α} {i : Nat} {x : α} (h : l[i]? = some x) : (l.take i).map f ++ [f x] = (l.take (i + 1)).map f := by
 rw [List.take_add_one, h, List.map_append]; rfl
theorem Fx (l : List bH) (h : ∀ x ∈ l, x.In) (hs : l.length < 1099511627776) : aO prog 71 [(.one (sN l) : aI)] (.ret [.one (sQ (bR l)), .one (sR (mH l))]) := by
 refine aD (args := [.v none]) (ins := [.v (.one (sN l))]) (hints := (fun _ => none)) fo (by kernel_rfl) func71 ⟨rfl, trivial⟩ ?_
 rw [MV]
 dsimp only [List.map, In.env, aA, aB]
 refine bA {i : Nat // i ≤ l.length} (fun g => [.one (.int .i64 g.1), .rows (rQ ((l.take g.1).map bH.v)), .rows (rR ((l.take g.1).map fun x => RQ.of x.v))]) (fun g => l.length - g.1) ⟨0, Nat.zero_le _⟩ aK.rfl (fun _ => rfl) ?_
 rintro ⟨i, hi⟩
 dsimp only [aA, aB] at hi ⊢
 refine vn (aM BQ (List.length_map _)) rfl ?_
 dsimp only [aA, aB]
 refine vn aZ rfl ?_
 dsimp only [aA, aB]
 refine vs _ rfl (fun h3 => ?_) (fun h3 => ?_)
 ·obtain ⟨x, hx⟩ : ∃ x, l[i]? = some x := ⟨_, List.getElem?_eq_getElem (by omega)⟩
  have hl1 : ((l.take i).map bH.v).length ≤ i := by simp; omega
  have hl2 : ((l.take i).map fun x => RQ.of x.v).length ≤ i := by simp; omega
  refine vn (aW BQ (by omega) (by omega) hx) rfl ?_
  dsimp only [aA, aB]
  refine vn (cY Pd (by decide) (by simp) (.inl rfl)) rfl ?_
  dsimp only [aA, aB]
  refine aC (FC x (h x (List.mem_of_getElem? hx))) rfl ?_
  dsimp only [aA, aB]
  refine bG (us := [qC x.v]) rfl ?_
  dsimp only [aA, aB]
  refine wQ (xs := (l.take i).map bH.v) (x := x.v) (f := qC) rfl rfl (by omega) (by simp only [maxLen]; omega) ?_
  rw [pI hx]
  dsimp only [aA, aB]
  refine bG (us := [rC (RQ.of x.v)]) rfl ?_
  dsimp only [aA, aB]
  refine wQ (xs := (l.take i).map fun x : bH => RQ.of x.v) (x := RQ.of x.v) (f := rC) rfl rfl (by omega) (by simp only [maxLen]; omega) ?_
  rw [pI (f := fun x : bH => RQ.of x.v) hx]
  dsimp only [aA, aB]
  refine vn (aE (by omega) (by omega)) rfl ?_
  dsimp only [aA, aB]
  exact aR rfl ⟨⟨i + 1, by omega⟩, aK.rfl, by show l.length - (i + 1) < l.length - i; omega⟩
 rw [show i = l.length by omega, List.take_length]; exact aJ rfl
def bH.short (x : bH) : Bool := decide (x.pow % 4 = 0 ∧ x.n ≤ 999 ∧ -999 ≤ x.n ∧ x.d ≤ 999 ∧ -999 ≤ x.d)
def bH.uI (x : bH) : Bool := decide (x.pow % 4 = 0 ∧ x.n ≤ 99 ∧ -99 ≤ x.n ∧ x.d ≤ 99 ∧ -99 ≤ x.d)
theorem DD (x : bH) (h : x.In) : aO prog 39 [(nT x : aI)] (.ret [.one (.bool x.short)]) := by
 refine aD (args := [.v (some 3)]) (ins := [.v (nT x)]) (hints := (fun _ => none)) fo (by kernel_rfl) func39 ⟨rfl, trivial⟩ ?_
 rw [JI]
 dsimp only [List.map, In.env, aA, aB]
 refine vn (eB (by omega) (by omega)) rfl ?_
 dsimp only [aA, aB]
 refine vn bI rfl ?_
 dsimp only [aA, aB]
 refine vs _ rfl (fun h2 => ?_) (fun h2 => ?_)
 ·refine vn mM rfl ?_
  dsimp only [aA, aB]
  refine vs _ rfl (fun h4 => ?_) (fun h4 => ?_)
  ·refine vn dZ rfl ?_
   dsimp only [aA, aB]
   refine vs _ rfl (fun h6 => ?_) (fun h6 => ?_)
   ·refine vn mM rfl ?_
    dsimp only [aA, aB]
    refine vs _ rfl (fun h8 => ?_) (fun h8 => ?_)
    ·refine vn dZ rfl ?_
     dsimp only [aA, aB]
     refine aJ ?_
     have : decide (-999 ≤ x.d) = x.short := by unfold bH.short; rw [decide_eq_decide]; constructor <;> intro hh <;> omega
     rw [← this]; rfl
    refine aJ ?_
    have : x.short = false := by unfold bH.short; rw [decide_eq_false_iff_not]; omega
    rw [this]; rfl
   refine aJ ?_
   have : x.short = false := by unfold bH.short; rw [decide_eq_false_iff_not]; omega
   rw [this]; rfl
  refine aJ ?_
  have : x.short = false := by unfold bH.short; rw [decide_eq_false_iff_not]; omega
  rw [this]; rfl
 refine aJ ?_
 have : x.short = false := by unfold bH.short; rw [decide_eq_false_iff_not]; omega
 rw [this]; rfl
end Go.Sy
