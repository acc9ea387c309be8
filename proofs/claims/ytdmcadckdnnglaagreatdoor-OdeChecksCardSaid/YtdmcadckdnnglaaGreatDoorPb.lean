/- Lists of rational numbers: Clone, Trim, Degree. slices.Backward over numbers; Horner's rule. Numbers as they are handed in.
-/
import Derived.Test.YtdmcadckdnnglaaGreatDoorRb
import Derived.Laws.Cover3
import Derived.RangeFuncFrom
import Derived.RangeFuncBox
import Derived.RangeFuncLeaves
import Derived.Shelf.Abstract
import Derived.WalkKit
import Derived.OwnWalkIn
import Derived.TacticsInMore
import Derived.LoopNIn
import Derived.LoopIn
set_option linter.unusedVariables false
set_option linter.unusedSimpArgs false
namespace Go.Sy
open Go Go.Proofs Tryz Ord

def t70_2 : Tr := .ret [(.one (.c (.k (.slice none 0 0))))]
def t70_5 : Tr := .ret [(.one (.c (.sr 3 3)))]
def t70_4 : Tr := .need (.app 3 56 (some 2) (some (.u 0 0)) none) (.call ⟨.builtin .append, #[(.tmp 5), (.tmp 6)], #[72, 72]⟩) 72 false t70_5
def t70_3 : Tr := .need (.lit 3 []) (.buildSlice 72 0 #[]) 72 false t70_4
def t70_1 : Tr := .split (.u 1 0) t70_2 t70_3
def t70_0 : Tr := .need (.prim [(W 0 0), (.one (.c (.k (.slice none 0 0))))] none) (.binOp .eql 72 (.tmp 3) (.const (.slice none 0 0)) 72) 4 false t70_1
theorem x_sClone : execF prog f113 (fun _ => none) [.v none] = t70_0 := by kernel_rfl
def t71_11 : Tr := .back 0 [(.w (W 9 0))]
def t71_10 : Tr := .need (.prim [(W 2 0), (WK (1))] none) (.binOp .sub 3 (.tmp 17) (.const (I3 (1))) 3) 3 false t71_11
def t71_14 : Tr := .ret [(W 10 0)]
def t71_13 : Tr := .need (.call 113 [(W 9 0)] [none]) (.call ⟨.value (.func 113), #[(.tmp 21)], #[72]⟩) 72 true t71_14
def t71_12 : Tr := .need (.prim [(W 0 0), (W 2 0)] none) (.slice 72 (.tmp 19) none (some (.tmp 20)) none) 72 false t71_13
def t71_9 : Tr := .split (.u 8 0) t71_10 t71_12
def t71_8 : Tr := .need (.prim [(W 7 0), (WK (0))] none) (.binOp .eql 3 (.tmp 14) (.const (I3 (0))) 3) 4 false t71_9
def t71_7 : Tr := .need (.call 35 [(.agg [(U 6 0), (U 6 1), (U 6 2)])] [none]) (.call ⟨.value (.func 35), #[(.tmp 13)], #[39]⟩) 3 false t71_8
def t71_6 : Tr := .need (.prim [(W 5 0)] (some 3)) (.load 39 (.tmp 12)) 39 false t71_7
def t71_5 : Tr := .need (.prim [(W 0 0), (W 4 0)] none) (.indexAddr 72 (.tmp 9) (.tmp 11)) 0 false t71_6
def t71_4 : Tr := .need (.prim [(W 2 0), (WK (1))] none) (.binOp .sub 3 (.tmp 10) (.const (I3 (1))) 3) 3 false t71_5
def t71_17 : Tr := .ret [(W 5 0)]
def t71_16 : Tr := .need (.call 113 [(W 4 0)] [none]) (.call ⟨.value (.func 113), #[(.tmp 21)], #[72]⟩) 72 true t71_17
def t71_15 : Tr := .need (.prim [(W 0 0), (W 2 0)] none) (.slice 72 (.tmp 19) none (some (.tmp 20)) none) 72 false t71_16
def t71_3 : Tr := .split (.u 3 0) t71_4 t71_15
def t71_2 : Tr := .need (.prim [(W 2 0), (WK (0))] none) (.binOp .gtr 3 (.tmp 6) (.const (I3 (0))) 3) 4 false t71_3
def t71_1 : Tr := .loop 0 [(.w (W 1 0))] t71_2
def t71_0 : Tr := .need (.prim [(W 0 0)] none) (.call ⟨.builtin .len, #[(.tmp 4)], #[72]⟩) 3 false t71_1
theorem x_pTrim : execF prog f34 (fun _ => none) [.v none] = t71_0 := by kernel_rfl
def t72_3 : Tr := .ret [(W 3 0)]
def t72_2 : Tr := .need (.prim [(W 2 0), (WK (1))] none) (.binOp .sub 3 (.tmp 5) (.const (I3 (1))) 3) 3 false t72_3
def t72_1 : Tr := .need (.prim [(W 1 0)] none) (.call ⟨.builtin .len, #[(.tmp 4)], #[72]⟩) 3 false t72_2
def t72_0 : Tr := .need (.call 34 [(W 0 0)] [none]) (.call ⟨.value (.func 34), #[(.tmp 3)], #[72]⟩) 72 false t72_1
theorem x_pDegree : execF prog f95 (fun _ => none) [.v none] = t72_0 := by kernel_rfl
def t73_14 : Tr := .ret [(.one (.c (.sr 4 10)))]
def t73_13 : Tr := .need (.app 4 64 none (some (.u 9 0)) none) (.call ⟨.builtin .append, #[(.const (.slice none 0 0)), (.tmp 21)], #[167, 167]⟩) 167 false t73_14
def t73_12 : Tr := .need (.prim [(W 0 0), (W 2 0)] none) (.slice 167 (.tmp 19) none (some (.tmp 20)) none) 167 false t73_13
def t73_9 : Tr := .split (.u 8 0) t71_10 t73_12
def t73_8 : Tr := .need (.prim [(W 7 0), (WK (0))] none) (.binOp .eql 3 (.tmp 14) (.const (I3 (0))) 3) 4 false t73_9
def t73_7 : Tr := .need (.call 46 [(.agg [(U 6 0), (U 6 1), (U 6 2), (U 6 3)])] [none]) (.call ⟨.value (.func 46), #[(.tmp 13)], #[49]⟩) 3 false t73_8
def t73_6 : Tr := .need (.prim [(W 5 0)] (some 4)) (.load 49 (.tmp 12)) 49 false t73_7
def t73_5 : Tr := .need (.prim [(W 0 0), (W 4 0)] none) (.indexAddr 167 (.tmp 9) (.tmp 11)) 0 false t73_6
def t73_4 : Tr := .need (.prim [(W 2 0), (WK (1))] none) (.binOp .sub 3 (.tmp 10) (.const (I3 (1))) 3) 3 false t73_5
def t73_17 : Tr := .ret [(.one (.c (.sr 4 5)))]
def t73_16 : Tr := .need (.app 4 64 none (some (.u 4 0)) none) (.call ⟨.builtin .append, #[(.const (.slice none 0 0)), (.tmp 21)], #[167, 167]⟩) 167 false t73_17
def t73_15 : Tr := .need (.prim [(W 0 0), (W 2 0)] none) (.slice 167 (.tmp 19) none (some (.tmp 20)) none) 167 false t73_16
def t73_3 : Tr := .split (.u 3 0) t73_4 t73_15
def t73_2 : Tr := .need (.prim [(W 2 0), (WK (0))] none) (.binOp .gtr 3 (.tmp 6) (.const (I3 (0))) 3) 4 false t73_3
def t73_1 : Tr := .loop 0 [(.w (W 1 0))] t73_2
def t73_0 : Tr := .need (.prim [(W 0 0)] none) (.call ⟨.builtin .len, #[(.tmp 4)], #[167]⟩) 3 false t73_1
theorem x_PTrim : execF prog f144 (fun _ => none) [.v none] = t73_0 := by kernel_rfl
def t74_1 : Tr := .need (.prim [(W 1 0)] none) (.call ⟨.builtin .len, #[(.tmp 4)], #[167]⟩) 3 false t72_2
def t74_0 : Tr := .need (.call 144 [(W 0 0)] [none]) (.call ⟨.value (.func 144), #[(.tmp 3)], #[167]⟩) 167 false t74_1
theorem x_PDegree : execF prog f96 (fun _ => none) [.v none] = t74_0 := by kernel_rfl

/-- a nil slice -/
def CTy.nilS : CTy where
  rep := fun _ _ v => ∃ cap, v = .slice none 0 cap ∧ cap ≤ maxLen
  mono := fun _ h => h
  one := by rintro M w v ⟨cap, rfl, _⟩; rfl
/-- a slice that is not nil -/
def CTy.nnS (sz : Nat) (ts : List (List CTy)) : CTy where
  rep := fun M w v => (CTy.slice sz ts).rep M w v ∧ ∃ a l c, v = .slice (some a) l c
  mono := fun hk h => ⟨CTy.mono _ hk h.1, h.2⟩
  one := fun h => CTy.one _ h.1
theorem CTy.Sub.nn {sz : Nat} {ts : List (List CTy)} : (CTy.nnS sz ts).Sub (.slice sz ts) :=
  .inr ⟨fun M w v h => by obtain ⟨_, a, l, c, rfl⟩ := h; exact ⟨some a, l, c, rfl⟩, fun M w v h => h.1⟩
theorem slice_cases {sz : Nat} {ts : List (List CTy)} {M : Nat → Prop} {w : World} {v : Value} (h : (CTy.slice sz ts).rep M w v) : (ts = [] ∧ CTy.nilS.rep M w v) ∨ (CTy.nnS sz ts).rep M w v := by
  have h0 := h
  obtain ⟨a, cap, rfl, hc, hm, hel⟩ := h
  cases a with
  | some a => exact .inr ⟨h0, a, _, _, rfl⟩
  | none =>
    rcases hel with rfl | ⟨b, off, cs, T, fz, e, _⟩
    · exact .inl ⟨rfl, cap, rfl, hm⟩
    · cases e
theorem does_cases {P : Program} {f : FuncId} {sz : Nat} {ts : List (List CTy)} {out : Out} (h1 : ts = [] → Does P f [.one .nilS] out) (h2 : Does P f [.one (.nnS sz ts)] out) : Does P f [.one (.slice sz ts)] out := by
  refine ⟨h2.1, fun M w vs hM hv => ?_⟩
  match vs, hv with
  | [v], hv =>
    rcases slice_cases hv.1 with ⟨e, h⟩ | h
    · exact (h1 e).2 M w [v] hM ⟨h, trivial⟩
    · exact h2.2 M w [v] hM ⟨h, trivial⟩
  | [], hv => exact hv.elim
  | _ :: _ :: _, hv => exact hv.2.elim
section
variable {P : Program} {T U ty : TypeId} {x y : Operand}
theorem q_nil1 {E sz b : Nat} (h : elemT P T = some (E, sz, b)) : PrimOk P (.binOp .eql T x y U) ty [.one .nilS, .one (.exact (.slice none 0 0))] (.one (.bool true)) := by
  obtain ⟨ie, hu, _⟩ := elemT_spec h
  intro M w ρ o ho ht hr
  obtain ⟨hx, hy⟩ := reps2 (x := x) (y := y) hr
  obtain ⟨cap, hx, _⟩ := hx
  have hy : ρ y = .slice none 0 0 ∧ _ := hy
  refine ⟨.bool true, ?_, ⟨rfl, rfl⟩⟩
  simp [execOp, ho, hx, hy.1, eqGuard, binOp, run_equal_slice_nil w T E none 0 cap hu]
theorem q_nil2 {E sz b sz' : Nat} {ts : List (List CTy)} (h : elemT P T = some (E, sz, b)) : PrimOk P (.binOp .eql T x y U) ty [.one (.nnS sz' ts), .one (.exact (.slice none 0 0))] (.one (.bool false)) := by
  obtain ⟨ie, hu, _⟩ := elemT_spec h
  intro M w ρ o ho ht hr
  obtain ⟨hx, hy⟩ := reps2 (x := x) (y := y) hr
  obtain ⟨_, a, l, c, hx⟩ := hx
  have hy : ρ y = .slice none 0 0 ∧ _ := hy
  refine ⟨.bool false, ?_, ⟨rfl, rfl⟩⟩
  simp [execOp, ho, hx, hy.1, eqGuard, binOp, run_equal_slice_nil w T E (some a) l c hu]
end

theorem d_sClone1  : Does prog 113 [(.one .nilS : STy)] (.ret [.one (.slice 3 [])]) := by
  refine does_of_vc (args := [.v none]) (ins := [.v (.one .nilS)]) (hints := (fun _ => none)) fo (by kernel_rfl) func113 ⟨rfl, trivial⟩ ?_
  rw [x_sClone]
  dsimp only [List.map, In.env, c_a, n_a]
  refine vn (q_nil1 el72) rfl ?_
  dsimp only [c_a, n_a]
  refine vsb true rfl (fun _ => ?_) (fun h => by cases h)
  -- true
  exact vrets ⟨CTy.Sub.nil, trivial⟩

theorem d_sClone2 (ts : List (List CTy)) (hs : ts.length < 1099511627776) : Does prog 113 [(.one (.nnS 3 ts) : STy)] (.ret [.one (.slice 3 ts)]) := by
  refine does_of_vc (args := [.v none]) (ins := [.v (.one (.nnS 3 ts))]) (hints := (fun _ => none)) fo (by kernel_rfl) func113 ⟨rfl, trivial⟩ ?_
  rw [x_sClone]
  dsimp only [List.map, In.env, c_a, n_a]
  refine vn (q_nil2 el72) rfl ?_
  dsimp only [c_a, n_a]
  refine vsb false rfl (fun h => by cases h) (fun _ => ?_)
  -- false
  refine vlit (us := []) rfl ?_
  dsimp only [c_a, n_a]
  refine vapp (ts := []) (us := ts) (vs := ts) rfl (.inr CTy.Sub.nn) rfl (by omega) (by simp only [maxLen]; omega) ?_
  dsimp only [c_a, n_a]
  exact vret rfl

theorem d_sClone (ts : List (List CTy)) (hs : ts.length < 1099511627776) : Does prog 113 [.one (.slice 3 ts)] (.ret [.one (.slice 3 ts)]) :=
  does_cases (fun e => by subst e; exact d_sClone1) (d_sClone2 ts hs)

/-- how long a list is without what is nothing at its end -/
def tlen {α : Type} (z : α → Bool) : List α → Nat
  | [] => 0
  | x :: xs => if tlen z xs = 0 ∧ z x = true then 0 else tlen z xs + 1
theorem tlen_le {α : Type} {z : α → Bool} : ∀ l : List α, tlen z l ≤ l.length
  | [] => Nat.le_refl _
  | x :: xs => by
    have := tlen_le (z := z) xs
    simp only [tlen, List.length_cons]; split <;> omega
theorem tlen_eq {α : Type} {z : α → Bool} : ∀ {l : List α} {n : Nat}, n ≤ l.length → (∀ i x, n ≤ i → l[i]? = some x → z x = true) → (n = 0 ∨ ∃ x, l[n - 1]? = some x ∧ z x = false) → tlen z l = n
  | [], n, h, _, _ => by simp at h; subst h; rfl
  | x :: xs, n, h, h1, h2 => by
    cases n with
    | zero =>
      have h3 := tlen_eq (z := z) (l := xs) (n := 0) (Nat.zero_le _) (fun i y _ hy => h1 (i + 1) y (Nat.zero_le _) (by simpa using hy)) (.inl rfl)
      have h4 := h1 0 x (Nat.zero_le _) rfl
      simp [tlen, h3, h4]
    | succ n =>
      have h3 := tlen_eq (z := z) (l := xs) (n := n) (by simpa using h) (fun i y hi hy => h1 (i + 1) y (by omega) (by simpa using hy)) (by
        cases n with
        | zero => exact .inl rfl
        | succ n =>
          rcases h2 with h2 | ⟨y, hy, hz⟩
          · omega
          · exact .inr ⟨y, by simpa using hy, hz⟩)
      simp only [tlen, h3]
      rw [if_neg]
      rintro ⟨h4, h5⟩
      subst h4
      rcases h2 with h2 | ⟨y, hy, hz⟩
      · omega
      · simp at hy; subst hy; rw [h5] at hz; cases hz
theorem tlen_map {α β : Type} {z : β → Bool} (f : α → β) : ∀ l : List α, tlen z (l.map f) = tlen (fun a => z (f a)) l
  | [] => rfl
  | x :: xs => by simp only [List.map_cons, tlen, tlen_map f xs]

/-- lists of numbers -/
abbrev rQ (ps : List Rat) : List (List CTy) := ps.map qC
abbrev sQ (ps : List Rat) : CTy := .slice 3 (rQ ps)
abbrev rR (ps : List RQ) : List (List CTy) := ps.map rC
abbrev sR (ps : List RQ) : CTy := .slice 4 (rR ps)
def zr (q : Rat) : Bool := decide (q = 0)
def zrR (a : RQ) : Bool := decide (a.q = 0)
def trim (ps : List Rat) : List Rat := ps.take (tlen zr ps)
def trimR (ps : List RQ) : List RQ := ps.take (tlen zrR ps)
theorem trimR_map (ps : List RQ) : (trimR ps).map RQ.q = trim (ps.map RQ.q) := by
  rw [trim, tlen_map, trimR, List.map_take]; rfl
theorem zr_sign {q : Rat} : zr q = decide (q.num.sign = 0) := by rw [zr, decide_eq_decide]; exact sign_zero.symm
theorem trim_length (ps : List Rat) : (trim ps).length = tlen zr ps := by rw [trim, List.length_take]; have := tlen_le (z := zr) ps; omega
theorem trimR_length (ps : List RQ) : (trimR ps).length = tlen zrR ps := by rw [trimR, List.length_take]; have := tlen_le (z := zrR) ps; omega

theorem slice_h {E sz b T : Nat} {α : Type} {f : α → List CTy} {ds : List α} {x : Operand} {ty : Nat} {y : Operand} {k : IntKind} {n : Int} {m : Nat} (h : elemT prog T = some (E, sz, b)) (h0 : 0 ≤ n) (hm : n.toNat = m) (hn : m ≤ ds.length) : PrimOk prog (.slice T x none (some y) none) ty [.one (.slice sz (ds.map f)), .one (.int k n)] (.one (.slice sz ((ds.take m).map f))) := by
  have := p_slice_h (P := prog) (T := T) (x := x) (y := y) (ty := ty) (k := k) (n := n) (ts := ds.map f) h h0 (by rw [List.length_map, hm]; exact hn)
  rw [hm, ← List.map_take] at this
  exact this

theorem d_pTrim (ps : List Rat) (hs : ps.length < 1099511627776) : Does prog 34 [(.one (sQ ps) : STy)] (.ret [.one (sQ (trim ps))]) := by
  refine does_of_vc (args := [.v none]) (ins := [.v (.one (sQ ps))]) (hints := (fun _ => none)) fo (by kernel_rfl) func34 ⟨rfl, trivial⟩ ?_
  rw [x_pTrim]
  dsimp only [List.map, In.env, c_a, n_a]
  refine vn (p_len el72 (List.length_map _)) rfl ?_
  dsimp only [c_a, n_a]
  refine vloop {n : Nat // n ≤ ps.length ∧ ∀ i q, n ≤ i → ps[i]? = some q → zr q = true} (fun g => [.one (.int .i64 g.1)]) (fun g => g.1) ⟨ps.length, Nat.le_refl _, fun i q hi hq => by have := (List.getElem?_eq_some_iff.1 hq).1; omega⟩ SubL.rfl (fun _ => rfl) ?_
  rintro ⟨n, hn, hz⟩
  dsimp only [c_a, n_a] at hn hz ⊢
  refine vn q_gtr rfl ?_
  dsimp only [c_a, n_a]
  refine vs _ rfl (fun h3 => ?_) (fun h3 => ?_)
  · refine vn (p_sub_i64 (by omega) (by omega)) rfl ?_
    dsimp only [c_a, n_a]
    obtain ⟨q, hq⟩ : ∃ q, ps[n - 1]? = some q := ⟨_, List.getElem?_eq_getElem (by omega)⟩
    refine vn (p_idxm el72 (by omega) (by omega) hq) rfl ?_
    dsimp only [c_a, n_a]
    refine vn (p_load ag39 (by decide) (by simp) (.inl rfl)) rfl ?_
    dsimp only [c_a, n_a]
    refine vcall (d_QSign q) rfl ?_
    dsimp only [c_a, n_a]
    refine vn q_eql rfl ?_
    dsimp only [c_a, n_a]
    refine vs _ rfl (fun h9 => ?_) (fun h9 => ?_)
    · refine vn (p_sub_i64 (by omega) (by omega)) rfl ?_
      dsimp only [c_a, n_a]
      exact vback rfl ⟨⟨n - 1, by omega, fun i r hi hr => by
        rcases Nat.lt_or_ge i n with h | h
        · rw [show i = n - 1 by omega, hq] at hr
          simp only [Option.some.injEq] at hr
          subst hr
          rw [zr_sign]; simpa using h9
        · exact hz i r h hr⟩, ⟨STy.Sub.of_eq (congrArg (fun q => STy.one (CTy.int .i64 q)) (by show (n : Int) - 1 = ((n - 1 : Nat) : Int); omega)), trivial⟩, by show n - 1 < n; omega⟩
    refine vn (slice_h el72 (by omega) (by omega) hn) rfl ?_
    dsimp only [c_a, n_a]
    have ht := tlen_eq hn hz (.inr ⟨q, hq, by rw [zr_sign]; simpa using h9⟩)
    refine vcall (d_sClone _ (by rw [List.length_map, List.length_take]; omega)) rfl ?_
    dsimp only [c_a, n_a]
    rw [trim, ht]; exact vret rfl
  refine vn (slice_h el72 (by omega) (by omega) hn) rfl ?_
  dsimp only [c_a, n_a]
  have ht := tlen_eq hn hz (.inl (by omega))
  refine vcall (d_sClone _ (by rw [List.length_map, List.length_take]; omega)) rfl ?_
  dsimp only [c_a, n_a]
  rw [trim, ht]; exact vret rfl

theorem d_pDegree (ps : List Rat) (hs : ps.length < 1099511627776) : Does prog 95 [(.one (sQ ps) : STy)] (.ret [.one (.int .i64 ((tlen zr ps : Int) - 1))]) := by
  refine does_of_vc (args := [.v none]) (ins := [.v (.one (sQ ps))]) (hints := (fun _ => none)) fo (by kernel_rfl) func95 ⟨rfl, trivial⟩ ?_
  rw [x_pDegree]
  dsimp only [List.map, In.env, c_a, n_a]
  have hle := tlen_le (z := zr) ps
  have htl := trim_length ps
  refine vcall (d_pTrim ps hs) rfl ?_
  dsimp only [c_a, n_a]
  refine vn (p_len el72 (List.length_map _)) rfl ?_
  dsimp only [c_a, n_a]
  refine vn (p_sub_i64 (by omega) (by omega)) rfl ?_
  dsimp only [c_a, n_a]
  rw [← htl]; exact vret rfl

theorem d_PTrim (ps : List RQ) (hs : ps.length < 1099511627776) : Does prog 144 [(.one (sR ps) : STy)] (.ret [.one (sR (trimR ps))]) := by
  refine does_of_vc (args := [.v none]) (ins := [.v (.one (sR ps))]) (hints := (fun _ => none)) fo (by kernel_rfl) func144 ⟨rfl, trivial⟩ ?_
  rw [x_PTrim]
  dsimp only [List.map, In.env, c_a, n_a]
  refine vn (p_len el167 (List.length_map _)) rfl ?_
  dsimp only [c_a, n_a]
  refine vloop {n : Nat // n ≤ ps.length ∧ ∀ i q, n ≤ i → ps[i]? = some q → zrR q = true} (fun g => [.one (.int .i64 g.1)]) (fun g => g.1) ⟨ps.length, Nat.le_refl _, fun i q hi hq => by have := (List.getElem?_eq_some_iff.1 hq).1; omega⟩ SubL.rfl (fun _ => rfl) ?_
  rintro ⟨n, hn, hz⟩
  dsimp only [c_a, n_a] at hn hz ⊢
  refine vn q_gtr rfl ?_
  dsimp only [c_a, n_a]
  refine vs _ rfl (fun h3 => ?_) (fun h3 => ?_)
  · refine vn (p_sub_i64 (by omega) (by omega)) rfl ?_
    dsimp only [c_a, n_a]
    obtain ⟨q, hq⟩ : ∃ q, ps[n - 1]? = some q := ⟨_, List.getElem?_eq_getElem (by omega)⟩
    refine vn (p_idxm el167 (by omega) (by omega) hq) rfl ?_
    dsimp only [c_a, n_a]
    refine vn (p_load ag49 (by decide) (by simp) (.inl rfl)) rfl ?_
    dsimp only [c_a, n_a]
    refine vcall (d_RSign q) rfl ?_
    dsimp only [c_a, n_a]
    refine vn q_eql rfl ?_
    dsimp only [c_a, n_a]
    refine vs _ rfl (fun h9 => ?_) (fun h9 => ?_)
    · refine vn (p_sub_i64 (by omega) (by omega)) rfl ?_
      dsimp only [c_a, n_a]
      exact vback rfl ⟨⟨n - 1, by omega, fun i r hi hr => by
        rcases Nat.lt_or_ge i n with h | h
        · rw [show i = n - 1 by omega, hq] at hr
          simp only [Option.some.injEq] at hr
          subst hr
          show zr q.q = true
          rw [zr_sign]; simpa using h9
        · exact hz i r h hr⟩, ⟨STy.Sub.of_eq (congrArg (fun q => STy.one (CTy.int .i64 q)) (by show (n : Int) - 1 = ((n - 1 : Nat) : Int); omega)), trivial⟩, by show n - 1 < n; omega⟩
    refine vn (slice_h el167 (by omega) (by omega) hn) rfl ?_
    dsimp only [c_a, n_a]
    have ht := tlen_eq (z := zrR) hn hz (.inr ⟨q, hq, by show zr q.q = false; rw [zr_sign]; simpa using h9⟩)
    refine vapp (ts := []) (us := rR (ps.take n)) (vs := rR (ps.take n)) rfl (.inr CTy.Sub.same) rfl (by rw [List.length_map, List.length_take]; omega) (by rw [List.length_map, List.length_take]; simp only [maxLen]; omega) ?_
    dsimp only [c_a, n_a]
    rw [trimR, ht]; exact vret rfl
  refine vn (slice_h el167 (by omega) (by omega) hn) rfl ?_
  dsimp only [c_a, n_a]
  have ht := tlen_eq (z := zrR) hn hz (.inl (by omega))
  refine vapp (ts := []) (us := rR (ps.take n)) (vs := rR (ps.take n)) rfl (.inr CTy.Sub.same) rfl (by rw [List.length_map, List.length_take]; omega) (by rw [List.length_map, List.length_take]; simp only [maxLen]; omega) ?_
  dsimp only [c_a, n_a]
  rw [trimR, ht]; exact vret rfl

theorem d_PDegree (ps : List RQ) (hs : ps.length < 1099511627776) : Does prog 96 [(.one (sR ps) : STy)] (.ret [.one (.int .i64 ((tlen zrR ps : Int) - 1))]) := by
  refine does_of_vc (args := [.v none]) (ins := [.v (.one (sR ps))]) (hints := (fun _ => none)) fo (by kernel_rfl) func96 ⟨rfl, trivial⟩ ?_
  rw [x_PDegree]
  dsimp only [List.map, In.env, c_a, n_a]
  have hle := tlen_le (z := zrR) ps
  have htl := trimR_length ps
  refine vcall (d_PTrim ps hs) rfl ?_
  dsimp only [c_a, n_a]
  refine vn (p_len el167 (List.length_map _)) rfl ?_
  dsimp only [c_a, n_a]
  refine vn (p_sub_i64 (by omega) (by omega)) rfl ?_
  dsimp only [c_a, n_a]
  rw [← htl]; exact vret rfl
end Go.Sy
namespace Go.Sy
open Go Go.Proofs Go.RowKit Go.Shelf Tryz Ord
attribute [local go_sem] Oper.semAt_some

section
variable {α : Type} [Inhabited α] {e0 e1 e2 : α → Value}
set_option maxRecDepth 100000 in
set_option maxHeartbeats 2000000 in
theorem backQ1_in (l Bs n₀ b off cap : Nat) (vs : List α) (hlen : vs.length < 4611686018427387904) (hb : b < n₀) (J Jx : List (Nat × α) → World → Prop)
    (hY : ∀ pre x W, J pre W → pre.length < vs.length → YieldAt Fence.wide (1000 - 1) prog l #[.int .i64 (x.1 : Int), (.agg #[e0 x.2, e1 x.2, e2 x.2])] W fun e W' =>
      (e = .returned (.bool true) ∧ J (pre ++ [x]) W' ∧ KpB n₀ Bs W W') ∨ (e = .returned (.bool false) ∧ Jx (pre ++ [x]) W'))
    (W : World) (hBs : W.cell? ⟨Bs, 0, none⟩ = some (.slice (some ⟨b, off, none⟩) vs.length cap)) (hc : ∀ j v, vs[j]? = some v → W.cell? ⟨b, off + j * 3, none⟩ = some (e0 v) ∧ W.cell? ⟨b, off + j * 3 + 1, none⟩ = some (e1 v) ∧ W.cell? ⟨b, off + j * 3 + 2, none⟩ = some (e2 v)) (h0 : J [] W) :
    CallsIn Fence.wide 1000 prog 281 #[.func (.yield l) #[] #[], .pointer (some ⟨Bs, 0, none⟩)] W fun e W' => (∃ v, e = .returned v) ∧
      ((∃ ys, ys = bk vs vs.length ∧ J ys W') ∨ (∃ pre, (∃ k, k ≤ vs.length ∧ pre = bk vs k) ∧ Jx pre W')) := by
  refine callsIn_of_wp func281 rfl trivial ?_ rfl
  simp only [ntmps281, List.size_toArray, List.length_cons, List.length_nil, Nat.reduceAdd, Nat.reduceSub, Array.replicate_succ, Array.replicate_zero, List.push_toArray, List.append_toArray, List.nil_append, List.cons_append]
  obtain ⟨N, hN⟩ : ∃ N, vs.length = N := ⟨_, rfl⟩
  rw [hN] at hBs hY hlen ⊢
  gi_wp2
  gi_loopw [3] (fun i wr => ∃ k : Nat, k ≤ N ∧ i = .int .i64 ((N : Int) - 1 - k) ∧ J (bk vs k) wr ∧ Below n₀ W wr ∧ wr.cell? ⟨Bs, 0, none⟩ = some (.slice (some ⟨b, off, none⟩) N cap))
    (fun i _ => (intOf i + 1).toNat)
  case atStart => exact ⟨0, Nat.zero_le _, by simp, h0, Below.refl _ _, hBs⟩
  case round =>
    obtain ⟨k, hk, rfl, hJs, hnx, hBx⟩ := hrel
    have hmeas : (intOf (.int .i64 ((N : Int) - 1 - k)) + 1).toNat = N - k := by simp [intOf]; omega
    by_cases hlt : k < N
    · have hv : vs[N - 1 - k]? = some (vs[N - 1 - k]?.getD default) := by rw [List.getElem?_eq_getElem (by omega)]; rfl
      obtain ⟨hx0, hx1, hx2⟩ := hc _ _ hv
      have hcx0 := (hnx.cell (p := ⟨b, off + (N - 1 - k) * 3, none⟩) hb).trans hx0
      have hcx1 := (hnx.cell (p := ⟨b, off + (N - 1 - k) * 3 + 1, none⟩) hb).trans hx1
      have hcx2 := (hnx.cell (p := ⟨b, off + (N - 1 - k) * 3 + 2, none⟩) hb).trans hx2
      clear hx0 hx1 hx2
      obtain ⟨fn, tmps, assign, body, hy, hR⟩ := hY _ (N - 1 - k, vs[N - 1 - k]?.getD default) wr hJs (by rw [bk_length]; exact hlt)
      generalize hx : vs[N - 1 - k]?.getD default = x at hy hR hcx0 hcx1 hcx2
      have hsucc : bk vs (k + 1) = bk vs k ++ [(N - 1 - k, x)] := by rw [bk_succ, hN, hx]
      have e1 : (N : Int) - 1 - k = ((N - 1 - k : Nat) : Int) := by omega
      have hn1 : N - 1 - k < N := by omega
      rw [e1]
      gi_wp2
      refine hR.mono ?_
      rintro e W3 (⟨rfl, hJ3, hk3⟩ | ⟨rfl, hJx3⟩)
      · gi_wp2
        go_roundw
        case rel => exact ⟨k + 1, by omega, by congr 1; omega, by rw [hsucc]; exact hJ3, hnx.trans hk3.1, hk3.2 _ hBx⟩
        case measure => simp [intOf]
      · gi_wp2
        refine bodyPost_ret (results_none rfl _ _ _) rfl ?_
        exact ⟨⟨_, rfl⟩, .inr ⟨_, ⟨k + 1, by omega, rfl⟩, by rw [hsucc]; exact hJx3⟩⟩
    · obtain rfl : k = N := by omega
      gi_wp2
      go_end0
      exact ⟨⟨_, rfl⟩, .inl ⟨_, rfl, hJs⟩⟩

set_option maxRecDepth 100000 in
set_option maxHeartbeats 1000000 in
theorem backQ1_nil {α : Type} (l Bs : Nat) (a : Option Addr) (cap : Nat) (J : List (Nat × α) → World → Prop) (W : World) (hBs : W.cell? ⟨Bs, 0, none⟩ = some (.slice a 0 cap)) (h0 : J [] W) :
    CallsIn Fence.wide 1000 prog 281 #[.func (.yield l) #[] #[], .pointer (some ⟨Bs, 0, none⟩)] W fun e W' => (∃ v, e = .returned v) ∧ J [] W' := by
  refine callsIn_of_wp func281 rfl trivial ?_ rfl
  simp only [ntmps281, List.size_toArray, List.length_cons, List.length_nil, Nat.reduceAdd, Nat.reduceSub, Array.replicate_succ, Array.replicate_zero, List.push_toArray, List.append_toArray, List.nil_append, List.cons_append]
  gi_wp2
  gi_loopw [3] (fun i wr => i = .int .i64 (-1) ∧ J [] wr) (fun _ _ => 0)
  case atStart => exact ⟨rfl, h0⟩
  case round =>
    obtain ⟨rfl, hJs⟩ := hrel
    gi_wp2
    go_end0
    exact ⟨⟨_, rfl⟩, hJs⟩

set_option maxHeartbeats 1000000 in
theorem backQ_in (n : Nat) (a : Option Addr) (len cap : Nat) (w : World) :
    CallsIn Fence.wide n prog 248 #[.slice a len cap] w fun e w' => e = .returned (.func (.func 281) #[] #[.pointer (some ⟨w.heap.size, 0, none⟩)]) ∧ w' = w.alloc (.cells #[.slice a len cap] 72) := by
  refine callsIn_of_wp func248 rfl trivial ?_ rfl
  simp only [ntmps248, List.size_toArray, List.length_cons, List.length_nil, Nat.reduceAdd, Nat.reduceSub, Array.replicate_succ, Array.replicate_zero, List.push_toArray, List.append_toArray, List.nil_append, List.cons_append]
  gi_wp2
  go_ret
  exact ⟨rfl, rfl⟩

/-- a slice's values, in a block that lies below -/
def Sl3 (e0 e1 e2 : α → Value) (n₀ : Nat) (W : World) (sv : Value) (vs : List α) : Prop :=
  ∃ a cap, sv = .slice a vs.length cap ∧ (vs = [] ∨ ∃ b off, a = some ⟨b, off, none⟩ ∧ b < n₀ ∧ ∀ j v, vs[j]? = some v → W.cell? ⟨b, off + j * 3, none⟩ = some (e0 v) ∧ W.cell? ⟨b, off + j * 3 + 1, none⟩ = some (e1 v) ∧ W.cell? ⟨b, off + j * 3 + 2, none⟩ = some (e2 v))
theorem Sl3.below {α : Type} {e0 e1 e2 : α → Value} {n₀ : Nat} {A B : World} (h : Below n₀ A B) {sv : Value} {vs : List α} : Sl3 e0 e1 e2 n₀ A sv vs → Sl3 e0 e1 e2 n₀ B sv vs := by
  rintro ⟨a, cap, e, rfl | ⟨b, off, rfl, hb, hc⟩⟩
  · exact ⟨a, cap, e, .inl rfl⟩
  · exact ⟨_, cap, e, .inr ⟨b, off, rfl, hb, fun j v hj => ⟨(h.cell (p := ⟨b, off + j * 3, none⟩) hb).trans (hc j v hj).1, (h.cell (p := ⟨b, off + j * 3 + 1, none⟩) hb).trans (hc j v hj).2.1, (h.cell (p := ⟨b, off + j * 3 + 2, none⟩) hb).trans (hc j v hj).2.2⟩⟩⟩

theorem backQ_stops (Bs n₀ : Nat) (sv : Value) (vs : List α) (hlen : vs.length < 4611686018427387904) (w : World) (hBs : Bs < w.heap.size) (hn₀ : n₀ ≤ w.heap.size)
    (hc : w.cell? ⟨Bs, 0, none⟩ = some sv) (hI : Sl3 e0 e1 e2 n₀ w sv vs) :
    SeqStopsK Fence.wide 1000 prog 281 #[.pointer (some ⟨Bs, 0, none⟩)] (fun x : Nat × α => #[Value.int .i64 (x.1 : Int), (Value.agg #[e0 x.2, e1 x.2, e2 x.2])]) (KpB n₀ Bs) (fun ys => ys = bk vs vs.length) (fun pre => ∃ k, k ≤ vs.length ∧ pre = bk vs k) vs.length w := fun l J Jx W hW _ _ hY h0 => by
  have hc' := (hW.cell (p := ⟨Bs, 0, none⟩) hBs).trans hc
  obtain ⟨a, cap, rfl, rfl | ⟨b, off, rfl, hb, hcs⟩⟩ := hI.below (hW.mono hn₀)
  · exact (backQ1_nil (α := α) l Bs a cap J W hc' h0).mono fun e W' ⟨he, hj⟩ => ⟨he, .inl ⟨_, rfl, hj⟩⟩
  · exact (backQ1_in (e0 := e0) (e1 := e1) (e2 := e2) l Bs n₀ b off cap vs hlen hb J Jx hY W hc' hcs h0)
end
end Go.Sy
namespace Go.Sy
open Go Go.Proofs Tryz Ord

def t75_11 : Tr := .back 0 [(.w (W 17 0)), (.w (W 15 0)), (.w (W 15 1)), (.w (W 15 2)), (.w (W 16 0)), (.w (W 16 1)), (.w (W 16 2)), (.w (W 16 3))]
def t75_10 : Tr := .need (.prim [(W 5 0), (.one (.c (.k (.int .u8 (1)))))] none) (.binOp .add 5 (.tmp 34) (.const (.int .u8 (1))) 5) 5 false t75_11
def t75_9 : Tr := .need (.call 104 [(.agg [(U 9 0), (U 10 0), (U 11 0), (U 12 0)]), (.agg [(U 4 0), (U 4 1), (U 4 2), (U 4 3)])] [(some 4)]) (.call ⟨.value (.func 104), #[(.tmp 39), (.tmp 40)], #[49, 49]⟩) 49 true t75_10
def t75_8 : Tr := .need (.call 36 [(.agg [(U 6 0), (U 7 0), (U 8 0)]), (.agg [(U 2 0), (U 2 1), (U 2 2)])] [(some 3)]) (.call ⟨.value (.func 36), #[(.tmp 36), (.tmp 37)], #[39, 39]⟩) 39 false t75_9
def t75_12 : Tr := .ret [(.agg [(U 6 0), (U 7 0), (U 8 0)]), (.agg [(U 9 0), (U 10 0), (U 11 0), (U 12 0)])]
def t75_7 : Tr := .split (.u 14 0) t75_8 t75_12
def t75_6 : Tr := .need (.prim [(W 5 0), (W 13 0)] none) (.binOp .lss 5 (.tmp 29) (.tmp 32) 5) 4 false t75_7
def t75_5 : Tr := .need (.prim [(W 0 2), (.one (.c (.k (.int .u8 (4)))))] none) (.binOp .rem 5 (.tmp 31) (.const (.int .u8 (4))) 5) 5 false t75_6
def t75_4 : Tr := .loop 0 [(.w (.one (.c (.k (.int .u8 (0)))))), (.w (W 2 0)), (.w (W 2 1)), (.w (W 2 2)), (.w (W 4 0)), (.w (W 4 1)), (.w (W 4 2)), (.w (W 4 3))] t75_5
def t75_3 : Tr := .need (.call 79 [(W 0 0), (WK (1))] [(some 4)]) (.call ⟨.value (.func 79), #[(.tmp 23), (.tmp 25)], #[2, 2]⟩) 49 true t75_4
def t75_2 : Tr := .need (.call 120 [(W 0 0), (WK (1))] [(some 3), none]) (.call ⟨.value (.func 120), #[(.tmp 16), (.tmp 18)], #[2, 2]⟩) 90 false t75_3
def t75_14 : Tr := .need (.call 79 [(W 0 0), (W 0 1)] [(some 4)]) (.call ⟨.value (.func 79), #[(.tmp 23), (.tmp 25)], #[2, 2]⟩) 49 true t75_4
def t75_13 : Tr := .need (.call 120 [(W 0 0), (W 0 1)] [(some 3), none]) (.call ⟨.value (.func 120), #[(.tmp 16), (.tmp 18)], #[2, 2]⟩) 90 false t75_14
def t75_1 : Tr := .split (.u 1 0) t75_2 t75_13
def t75_0 : Tr := .need (.prim [(W 0 1), (WK (0))] none) (.binOp .eql 2 (.tmp 11) (.const (I3 (0))) 2) 4 false t75_1
theorem x_KBoth : execF prog f40 (fun _ => none) [.v (some 3)] = t75_0 := by kernel_rfl
def t76_12 : Tr := .back 0 [(.w (W 14 0)), (.row 11), (.row 13)]
def t76_11 : Tr := .need (.prim [(W 1 0), (WK (1))] none) (.binOp .add 3 (.tmp 13) (.const (I3 (1))) 3) 3 false t76_12
def t76_10 : Tr := .need (.app 4 64 (some 3) none (some 12)) (.call ⟨.builtin .append, #[(.tmp 27), (.tmp 29)], #[50, 50]⟩) 50 false t76_11
def t76_9 : Tr := .need (.lit 4 [[(.u 9 0), (.u 9 1), (.u 9 2), (.u 9 3)]]) (.buildSlice 50 1 #[(0, (.tmp 28))]) 50 false t76_10
def t76_8 : Tr := .need (.app 3 56 (some 2) none (some 10)) (.call ⟨.builtin .append, #[(.tmp 23), (.tmp 25)], #[40, 40]⟩) 40 false t76_9
def t76_7 : Tr := .need (.lit 3 [[(.u 8 0), (.u 8 1), (.u 8 2)]]) (.buildSlice 40 1 #[(0, (.tmp 24))]) 40 false t76_8
def t76_6 : Tr := .need (.call 40 [(.agg [(U 7 0), (U 7 1), (U 7 2)])] [(some 3), (some 4)]) (.call ⟨.value (.func 40), #[(.tmp 19)], #[26]⟩) 82 false t76_7
def t76_5 : Tr := .need (.prim [(W 6 0)] (some 3)) (.load 26 (.tmp 18)) 26 false t76_6
def t76_4 : Tr := .need (.prim [(W 0 0), (W 1 0)] none) (.indexAddr 27 (.tmp 16) (.tmp 17)) 0 false t76_5
def t76_13 : Tr := .ret [(.one (.c (.sr 3 2))), (.one (.c (.sr 4 3)))]
def t76_3 : Tr := .split (.u 5 0) t76_4 t76_13
def t76_2 : Tr := .need (.prim [(W 1 0), (W 4 0)] none) (.binOp .lss 3 (.tmp 9) (.tmp 11) 3) 4 false t76_3
def t76_1 : Tr := .need (.prim [(W 0 0)] none) (.call ⟨.builtin .len, #[(.tmp 10)], #[27]⟩) 3 false t76_2
def t76_0 : Tr := .loop 0 [(.w (WK (0))), .nilrow, .nilrow] t76_1
theorem x_KList : execF prog f71 (fun _ => none) [.v none] = t76_0 := by kernel_rfl
def t77_10 : Tr := .ret [(W 6 0)]
def t77_9 : Tr := .need (.prim [(W 0 1), (WK (-999))] none) (.binOp .geq 2 (.tmp 24) (.const (I3 (-999))) 2) 4 false t77_10
def t77_11 : Tr := .ret [(.one (.c (.k (.bool false))))]
def t77_8 : Tr := .split (.u 5 0) t77_9 t77_11
def t77_7 : Tr := .need (.prim [(W 0 1), (WK (999))] none) (.binOp .leq 2 (.tmp 19) (.const (I3 (999))) 2) 4 false t77_8
def t77_6 : Tr := .split (.u 4 0) t77_7 t77_11
def t77_5 : Tr := .need (.prim [(W 0 0), (WK (-999))] none) (.binOp .geq 2 (.tmp 14) (.const (I3 (-999))) 2) 4 false t77_6
def t77_4 : Tr := .split (.u 3 0) t77_5 t77_11
def t77_3 : Tr := .need (.prim [(W 0 0), (WK (999))] none) (.binOp .leq 2 (.tmp 9) (.const (I3 (999))) 2) 4 false t77_4
def t77_2 : Tr := .split (.u 2 0) t77_3 t77_11
def t77_1 : Tr := .need (.prim [(W 1 0), (.one (.c (.k (.int .u8 (0)))))] none) (.binOp .eql 5 (.tmp 5) (.const (.int .u8 (0))) 5) 4 false t77_2
def t77_0 : Tr := .need (.prim [(W 0 2), (.one (.c (.k (.int .u8 (4)))))] none) (.binOp .rem 5 (.tmp 4) (.const (.int .u8 (4))) 5) 5 false t77_1
theorem x_Lshort : execF prog f39 (fun _ => none) [.v (some 3)] = t77_0 := by kernel_rfl
def t78_37 : Tr := .back 1 [(.w (W 9 0)), (.w (W 25 0))]
def t78_36 : Tr := .need (.prim [(W 10 0), (WK (1))] none) (.binOp .add 3 (.tmp 28) (.const (I3 (1))) 3) 3 false t78_37
def t78_34 : Tr := .split (.u 24 0) t77_11 t78_36
def t78_33 : Tr := .need (.prim [(W 18 1), (WK (-99))] none) (.binOp .lss 2 (.tmp 59) (.const (I3 (-99))) 2) 4 false t78_34
def t78_31 : Tr := .split (.u 23 0) t77_11 t78_33
def t78_30 : Tr := .need (.prim [(W 18 1), (WK (99))] none) (.binOp .gtr 2 (.tmp 54) (.const (I3 (99))) 2) 4 false t78_31
def t78_28 : Tr := .split (.u 22 0) t77_11 t78_30
def t78_27 : Tr := .need (.prim [(W 18 0), (WK (-99))] none) (.binOp .lss 2 (.tmp 49) (.const (I3 (-99))) 2) 4 false t78_28
def t78_25 : Tr := .split (.u 21 0) t77_11 t78_27
def t78_24 : Tr := .need (.prim [(W 18 0), (WK (99))] none) (.binOp .gtr 2 (.tmp 44) (.const (I3 (99))) 2) 4 false t78_25
def t78_22 : Tr := .split (.u 20 0) t77_11 t78_24
def t78_21 : Tr := .need (.prim [(W 19 0), (.one (.c (.k (.int .u8 (0)))))] none) (.binOp .neq 5 (.tmp 40) (.const (.int .u8 (0))) 5) 4 false t78_22
def t78_20 : Tr := .need (.prim [(W 18 2), (.one (.c (.k (.int .u8 (4)))))] none) (.binOp .rem 5 (.tmp 39) (.const (.int .u8 (4))) 5) 5 false t78_21
def t78_19 : Tr := .need (.prim [(W 17 0)] (some 3)) (.load 26 (.tmp 36)) 26 false t78_20
def t78_18 : Tr := .need (.prim [(W 16 0), (W 10 0)] none) (.indexAddr 27 (.tmp 34) (.tmp 35)) 0 false t78_19
def t78_17 : Tr := .need (.prim [(W 15 0)] none) (.load 27 (.tmp 33)) 27 false t78_18
def t78_16 : Tr := .need (.prim [(W 0 0), (W 2 0)] none) (.indexAddr 22 (.tmp 31) (.tmp 32)) 0 false t78_17
def t78_39 : Tr := .back 0 [(.w (W 9 0)), (.w (W 15 0))]
def t78_38 : Tr := .need (.prim [(W 2 0), (WK (1))] none) (.binOp .add 3 (.tmp 11) (.const (I3 (1))) 3) 3 false t78_39
def t78_15 : Tr := .split (.u 14 0) t78_16 t78_38
def t78_14 : Tr := .need (.prim [(W 10 0), (W 13 0)] none) (.binOp .lss 3 (.tmp 20) (.tmp 26) 3) 4 false t78_15
def t78_13 : Tr := .need (.prim [(W 12 0)] none) (.call ⟨.builtin .len, #[(.tmp 25)], #[27]⟩) 3 false t78_14
def t78_12 : Tr := .need (.prim [(W 11 0)] none) (.load 27 (.tmp 24)) 27 false t78_13
def t78_11 : Tr := .need (.prim [(W 0 0), (W 2 0)] none) (.indexAddr 22 (.tmp 22) (.tmp 23)) 0 false t78_12
def t78_10 : Tr := .loop 1 [(.w (W 1 0)), (.w (WK (0)))] t78_11
def t78_8 : Tr := .split (.u 8 0) t77_11 t78_10
def t78_7 : Tr := .need (.prim [(W 7 0), (WK (4))] none) (.binOp .gtr 3 (.tmp 18) (.const (I3 (4))) 3) 4 false t78_8
def t78_6 : Tr := .need (.prim [(W 6 0)] none) (.call ⟨.builtin .len, #[(.tmp 17)], #[27]⟩) 3 false t78_7
def t78_5 : Tr := .need (.prim [(W 5 0)] none) (.load 27 (.tmp 16)) 27 false t78_6
def t78_4 : Tr := .need (.prim [(W 0 0), (W 2 0)] none) (.indexAddr 22 (.tmp 14) (.tmp 15)) 0 false t78_5
def t78_41 : Tr := .need (.prim [(W 5 0), (WK (6))] none) (.binOp .leq 3 (.tmp 64) (.const (I3 (6))) 3) 4 false t77_10
def t78_40 : Tr := .need (.prim [(W 0 0)] none) (.call ⟨.builtin .len, #[(.tmp 63)], #[22]⟩) 3 false t78_41
def t78_3 : Tr := .split (.u 4 0) t78_4 t78_40
def t78_2 : Tr := .need (.prim [(W 2 0), (W 3 0)] none) (.binOp .lss 3 (.tmp 6) (.tmp 9) 3) 4 false t78_3
def t78_1 : Tr := .need (.prim [(W 0 0)] none) (.call ⟨.builtin .len, #[(.tmp 8)], #[22]⟩) 3 false t78_2
def t78_0 : Tr := .loop 0 [(.w (.one (.c (.k (.bool false))))), (.w (WK (0)))] t78_1
theorem x_LsmallRule : execF prog f55 (fun _ => none) [.v (some 2)] = t78_0 := by kernel_rfl

/-- a number as it is handed in -/
structure NumD where
  n : Int
  d : Int
  pow : Nat
abbrev nC (x : NumD) : List CTy := [.int .i64 x.n, .int .i64 x.d, .int .u8 x.pow]
abbrev nT (x : NumD) : STy := .agg (nC x)
abbrev sN (l : List NumD) : CTy := .slice 3 (l.map nC)
/-- the machine's ranges -/
structure NumD.In (x : NumD) : Prop where
  n1 : -9223372036854775808 ≤ x.n
  n2 : x.n < 9223372036854775808
  d1 : -9223372036854775808 ≤ x.d
  d2 : x.d < 9223372036854775808
  p : x.pow < 256
def NumD.b (x : NumD) : Rat := (x.n : Rat) / ((if x.d = 0 then 1 else x.d : Int) : Rat)
def NumD.v (x : NumD) : Rat := x.b ^ (x.pow % 4 + 1)

theorem _root_.Ord.Fit.pow {B : Nat} {q : Rat} (h : Fit B q) (hB : 1 ≤ B) : ∀ n, Fit (B * n + 1) (q ^ n)
  | 0 => by rw [Rat.pow_zero]; exact (Fit.int (n := 1) (B := 1) (by omega) (by decide)).mono (by omega)
  | n + 1 => by
    rw [Rat.pow_succ]
    exact ((Ord.Fit.pow h hB n).mul h).mono (by rw [Nat.mul_add]; omega)
theorem NumD.In.fit {x : NumD} (h : x.In) : Fit 128 x.b := by
  unfold NumD.b
  split
  · exact (fit_i64 h.n1 h.n2).div (fit_i64 (n := 1) (by omega) (by omega))
  · exact (fit_i64 h.n1 h.n2).div (fit_i64 h.d1 h.d2)
theorem NumD.In.fitv {x : NumD} (h : x.In) : Fit 513 x.v := (h.fit.pow (by omega) _).mono (by omega)
theorem d_KBoth (x : NumD) (h : x.In) : Does prog 40 [(nT x : STy)] (.ret [qT x.v, rT' (.of x.v)]) := by
  refine does_of_vc (args := [.v (some 3)]) (ins := [.v (nT x)]) (hints := (fun _ => none)) fo (by kernel_rfl) func40 ⟨rfl, trivial⟩ ?_
  rw [x_KBoth]
  dsimp only [List.map, In.env, c_a, n_a]
  have h1 := h.n1
  have h2 := h.n2
  have h3 := h.d1
  have h4 := h.d2
  have h5 := h.p
  have hf := h.fit
  have hp := fun i => hf.pow (by omega) i
  have hm1 : ∀ i, i < 4 → Does prog 36 [qT (x.b ^ (i + 1)), qT x.b] (.ret [qT (x.b ^ (i + 1 + 1))]) := fun i hi => by
    have := d_QMul (x.b ^ (i + 1)) x.b _ _ (hp (i + 1)) hf (by omega)
    rw [← Rat.pow_succ] at this; exact this
  have hm2 : ∀ i, i < 4 → Does prog 104 [rT' (.of (x.b ^ (i + 1))), rT' (.of x.b)] (.ret [rT' (.of (x.b ^ (i + 1 + 1)))]) := fun i hi => by
    have := d_RMul (.of (x.b ^ (i + 1))) (.of x.b) _ _ (hp (i + 1)) hf (by omega)
    rw [RQ.of_q, RQ.of_q, ← Rat.pow_succ] at this; exact this
  refine vn q_eql rfl ?_
  dsimp only [c_a, n_a]
  refine vs _ rfl (fun h1 => ?_) (fun h1 => ?_)
  · have hb : x.b = (x.n : Rat) / ((1 : Int) : Rat) := by rw [NumD.b, if_pos h1]
    have ho := d_Of x.n 1 h.n1 h2 (by omega) (by omega)
    rw [if_neg (by omega), if_neg (by omega), ← hb] at ho
    refine vcall ho rfl ?_
    dsimp only [c_a, n_a]
    have ho := d_ROf x.n 1 (by omega) h.n1 h2 (by omega) (by omega)
    rw [← hb] at ho
    refine vcall ho rfl ?_
    dsimp only [c_a, n_a]
    refine vloop {i : Nat // i ≤ x.pow % 4} (fun g => [.one (.int .u8 g.1), .one (dT (x.b ^ (g.1 + 1)).num.natAbs), .one (.bool (decide ((x.b ^ (g.1 + 1)).num < 0))), .one (dT ((x.b ^ (g.1 + 1)).den - 1)), .one (.int .i64 (x.b ^ (g.1 + 1)).num.sign), .one (bT (x.b ^ (g.1 + 1)).num.natAbs), .one (.int .i64 1), .one (bT (x.b ^ (g.1 + 1)).den)]) (fun g => x.pow % 4 - g.1) ⟨0, Nat.zero_le _⟩ (by
      have e : x.b ^ (0 + 1) = x.b := by rw [Rat.pow_succ, Rat.pow_zero, Rat.one_mul]
      simp only [e]; exact SubL.rfl) (fun _ => rfl) ?_
    rintro ⟨i, hi⟩
    dsimp only [c_a, n_a] at hi ⊢
    refine vn (p_rem_n (by omega) (by omega)) rfl ?_
    dsimp only [c_a, n_a]
    refine vn q_lss rfl ?_
    dsimp only [c_a, n_a]
    refine vs _ rfl (fun h7 => ?_) (fun h7 => ?_)
    · refine vcall (hm1 i (by omega)) rfl ?_
      dsimp only [c_a, n_a]
      refine vcall (hm2 i (by omega)) rfl ?_
      dsimp only [c_a, n_a]
      refine vn (p_add_u8 (by omega) (by omega)) rfl ?_
      dsimp only [c_a, n_a]
      exact vback rfl ⟨⟨i + 1, by omega⟩, SubL.rfl, by show x.pow % 4 - (i + 1) < x.pow % 4 - i; omega⟩
    have hie : i = x.pow % 4 := by omega
    subst hie
    exact vret rfl
  have hb : x.b = (x.n : Rat) / (x.d : Rat) := by rw [NumD.b, if_neg h1]
  have ho := d_Of x.n x.d h.n1 h2 h3 h4
  rw [if_neg h1, if_neg h1, ← hb] at ho
  refine vcall ho rfl ?_
  dsimp only [c_a, n_a]
  have ho := d_ROf x.n x.d h1 h.n1 h2 h3 h4
  rw [← hb] at ho
  refine vcall ho rfl ?_
  dsimp only [c_a, n_a]
  refine vloop {i : Nat // i ≤ x.pow % 4} (fun g => [.one (.int .u8 g.1), .one (dT (x.b ^ (g.1 + 1)).num.natAbs), .one (.bool (decide ((x.b ^ (g.1 + 1)).num < 0))), .one (dT ((x.b ^ (g.1 + 1)).den - 1)), .one (.int .i64 (x.b ^ (g.1 + 1)).num.sign), .one (bT (x.b ^ (g.1 + 1)).num.natAbs), .one (.int .i64 1), .one (bT (x.b ^ (g.1 + 1)).den)]) (fun g => x.pow % 4 - g.1) ⟨0, Nat.zero_le _⟩ (by
    have e : x.b ^ (0 + 1) = x.b := by rw [Rat.pow_succ, Rat.pow_zero, Rat.one_mul]
    simp only [e]; exact SubL.rfl) (fun _ => rfl) ?_
  rintro ⟨i, hi⟩
  dsimp only [c_a, n_a] at hi ⊢
  refine vn (p_rem_n (by omega) (by omega)) rfl ?_
  dsimp only [c_a, n_a]
  refine vn q_lss rfl ?_
  dsimp only [c_a, n_a]
  refine vs _ rfl (fun h18 => ?_) (fun h18 => ?_)
  · refine vcall (hm1 i (by omega)) rfl ?_
    dsimp only [c_a, n_a]
    refine vcall (hm2 i (by omega)) rfl ?_
    dsimp only [c_a, n_a]
    refine vn (p_add_u8 (by omega) (by omega)) rfl ?_
    dsimp only [c_a, n_a]
    exact vback rfl ⟨⟨i + 1, by omega⟩, SubL.rfl, by show x.pow % 4 - (i + 1) < x.pow % 4 - i; omega⟩
  have hie : i = x.pow % 4 := by omega
  subst hie
  exact vret rfl

def vals (l : List NumD) : List Rat := l.map NumD.v
def valsR (l : List NumD) : List RQ := l.map fun x => RQ.of x.v

theorem take_snoc {α β : Type} {f : α → β} {l : List α} {i : Nat} {x : α} (h : l[i]? = some x) : (l.take i).map f ++ [f x] = (l.take (i + 1)).map f := by
  rw [List.take_add_one, h, List.map_append]; rfl

theorem d_KList (l : List NumD) (h : ∀ x ∈ l, x.In) (hs : l.length < 1099511627776) : Does prog 71 [(.one (sN l) : STy)] (.ret [.one (sQ (vals l)), .one (sR (valsR l))]) := by
  refine does_of_vc (args := [.v none]) (ins := [.v (.one (sN l))]) (hints := (fun _ => none)) fo (by kernel_rfl) func71 ⟨rfl, trivial⟩ ?_
  rw [x_KList]
  dsimp only [List.map, In.env, c_a, n_a]
  refine vloop {i : Nat // i ≤ l.length} (fun g => [.one (.int .i64 g.1), .rows (rQ ((l.take g.1).map NumD.v)), .rows (rR ((l.take g.1).map fun x => RQ.of x.v))]) (fun g => l.length - g.1) ⟨0, Nat.zero_le _⟩ SubL.rfl (fun _ => rfl) ?_
  rintro ⟨i, hi⟩
  dsimp only [c_a, n_a] at hi ⊢
  refine vn (p_len el27 (List.length_map _)) rfl ?_
  dsimp only [c_a, n_a]
  refine vn q_lss rfl ?_
  dsimp only [c_a, n_a]
  refine vs _ rfl (fun h3 => ?_) (fun h3 => ?_)
  · obtain ⟨x, hx⟩ : ∃ x, l[i]? = some x := ⟨_, List.getElem?_eq_getElem (by omega)⟩
    have hl1 : ((l.take i).map NumD.v).length ≤ i := by simp; omega
    have hl2 : ((l.take i).map fun x => RQ.of x.v).length ≤ i := by simp; omega
    refine vn (p_idxm el27 (by omega) (by omega) hx) rfl ?_
    dsimp only [c_a, n_a]
    refine vn (p_load ag26 (by decide) (by simp) (.inl rfl)) rfl ?_
    dsimp only [c_a, n_a]
    refine vcall (d_KBoth x (h x (List.mem_of_getElem? hx))) rfl ?_
    dsimp only [c_a, n_a]
    refine vlit (us := [qC x.v]) rfl ?_
    dsimp only [c_a, n_a]
    refine vappm (xs := (l.take i).map NumD.v) (x := x.v) (f := qC) rfl rfl (by omega) (by simp only [maxLen]; omega) ?_
    rw [take_snoc hx]
    dsimp only [c_a, n_a]
    refine vlit (us := [rC (RQ.of x.v)]) rfl ?_
    dsimp only [c_a, n_a]
    refine vappm (xs := (l.take i).map fun x : NumD => RQ.of x.v) (x := RQ.of x.v) (f := rC) rfl rfl (by omega) (by simp only [maxLen]; omega) ?_
    rw [take_snoc (f := fun x : NumD => RQ.of x.v) hx]
    dsimp only [c_a, n_a]
    refine vn (p_add_i64 (by omega) (by omega)) rfl ?_
    dsimp only [c_a, n_a]
    exact vback rfl ⟨⟨i + 1, by omega⟩, SubL.rfl, by show l.length - (i + 1) < l.length - i; omega⟩
  rw [show i = l.length by omega, List.take_length]; exact vret rfl

/-- short numbers -/
def NumD.short (x : NumD) : Bool := decide (x.pow % 4 = 0 ∧ x.n ≤ 999 ∧ -999 ≤ x.n ∧ x.d ≤ 999 ∧ -999 ≤ x.d)
def NumD.tiny (x : NumD) : Bool := decide (x.pow % 4 = 0 ∧ x.n ≤ 99 ∧ -99 ≤ x.n ∧ x.d ≤ 99 ∧ -99 ≤ x.d)

theorem d_Lshort (x : NumD) (h : x.In) : Does prog 39 [(nT x : STy)] (.ret [.one (.bool x.short)]) := by
  refine does_of_vc (args := [.v (some 3)]) (ins := [.v (nT x)]) (hints := (fun _ => none)) fo (by kernel_rfl) func39 ⟨rfl, trivial⟩ ?_
  rw [x_Lshort]
  dsimp only [List.map, In.env, c_a, n_a]
  refine vn (p_rem_n (by omega) (by omega)) rfl ?_
  dsimp only [c_a, n_a]
  refine vn q_eql rfl ?_
  dsimp only [c_a, n_a]
  refine vs _ rfl (fun h2 => ?_) (fun h2 => ?_)
  · refine vn q_leq rfl ?_
    dsimp only [c_a, n_a]
    refine vs _ rfl (fun h4 => ?_) (fun h4 => ?_)
    · refine vn q_geq rfl ?_
      dsimp only [c_a, n_a]
      refine vs _ rfl (fun h6 => ?_) (fun h6 => ?_)
      · refine vn q_leq rfl ?_
        dsimp only [c_a, n_a]
        refine vs _ rfl (fun h8 => ?_) (fun h8 => ?_)
        · refine vn q_geq rfl ?_
          dsimp only [c_a, n_a]
          refine vret ?_
          have : decide (-999 ≤ x.d) = x.short := by unfold NumD.short; rw [decide_eq_decide]; constructor <;> intro hh <;> omega
          rw [← this]; rfl
        refine vret ?_
        have : x.short = false := by unfold NumD.short; rw [decide_eq_false_iff_not]; omega
        rw [this]; rfl
      refine vret ?_
      have : x.short = false := by unfold NumD.short; rw [decide_eq_false_iff_not]; omega
      rw [this]; rfl
    refine vret ?_
    have : x.short = false := by unfold NumD.short; rw [decide_eq_false_iff_not]; omega
    rw [this]; rfl
  refine vret ?_
  have : x.short = false := by unfold NumD.short; rw [decide_eq_false_iff_not]; omega
  rw [this]; rfl
end Go.Sy
