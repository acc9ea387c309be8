/- Cases in both ways.
-/
import Derived.Test.YtdmcadckdnnglaaGreatDoorOb
set_option linter.unusedVariables false
set_option linter.unusedSimpArgs false
namespace Go.Sy
open Go Go.Proofs Tryz Ord
def Rb : Tr := .need (.lit 1 [[(.u 8 0)]]) (.buildSlice 32 1 #[(0, (tT 29))]) 32 false (.need (.app 1 24 (some 2) none (some 10)) (.call ⟨.builtin .append, #[(tT 28), (tT 30)], #[32, 32]⟩) 32 false (aN 144 [(W 9 0)] [none] [33] [167] 167 false (.need (.lit 1 [[(.u 12 0)]]) (.buildSlice 44 1 #[(0, (tT 34))]) 44 false (.need (.app 1 24 (some 3) none (some 13)) (.call ⟨.builtin .append, #[(tT 32), (tT 35)], #[44, 44]⟩) 44 false (aV .add 3 17 1 1 0 3 (.back 0 [lV 15 0, .row 11, .row 14]))))))
def Ll : Tr := .need (.idx 10 (.u 12 0)) (.indexAddr 50 (tT 51) (tT 53)) 0 false (.need (.strow 10 4 (.u 12 0) 0 [(.u 14 0), (.u 14 1), (.u 14 2), (.u 14 3)]) (.store 49 (tT 57) (tT 55)) 0 false (.need (.lit 1 [[(.sr 3 15)]]) (.buildSlice 32 1 #[(0, (tT 59))]) 32 false (.need (.app 1 24 (some 2) none (some 17)) (.call ⟨.builtin .append, #[(tT 58), (tT 60)], #[32, 32]⟩) 32 false (.need (.lit 1 [[(.sr 4 16)]]) (.buildSlice 44 1 #[(0, (tT 63))]) 44 false (.need (.app 1 24 (some 3) none (some 19)) (.call ⟨.builtin .append, #[(tT 62), (tT 64)], #[44, 44]⟩) 44 false (.ret [(.one (.c (.sr 1 18))), (.one (.c (.sr 1 20)))]))))))
def LM : Tr := .need (.make [(.int .i64 0), (.slice none 0 0), (.int .i64 0), (.slice none 0 0)] 64 (.u 8 0) (.u 8 0)) (.makeSlice 50 (tT 46) (tT 46)) 50 false (aV .sub 3 49 1 8 0 3 (aV .sub 3 52 1 8 0 3 (.need (.call 68 [(WK 1)] [(some 3)]) (.call ⟨.value (.func 68), #[(.const (I3 1))], #[2]⟩) 39 true (.need (.call 50 [(WK 1)] [(some 4)]) (.call ⟨.value (.func 50), #[(.const (I3 1))], #[2]⟩) 49 true (.need (.idx 9 (.u 11 0)) (.indexAddr 40 (tT 48) (tT 50)) 0 false (.need (.strow 9 3 (.u 11 0) 0 [(.u 13 0), (.u 13 1), (.u 13 2)]) (.store 39 (tT 56) (tT 54)) 0 false Ll))))))
def QS : Tr := bK .lss 3 12 15 1 0 4 0 4 (.split (.u 5 0) (gV 0 0 1 0 22 21 22 (fU 6 0 none 27 23 (aN 71 [(W 7 0)] [none, none] [24] [27] 128 false Rb))) (aV .gtr 3 38 0 0 1 4 (.split (.u 6 0) (aV .rem 3 41 50 0 1 3 (aV .add 3 42 1 7 0 3 (.need (.make [(.slice none 0 0), (.bool false), (.slice none 0 0)] 56 (.u 8 0) (.u 8 0)) (.makeSlice 40 (tT 44) (tT 44)) 40 false LM))) (.ret [(.one (.c (.sr 1 2))), (.one (.c (.sr 1 3)))]))))
def Qj : Tr := .loop 0 [lK 0, .nilrow, .nilrow] (cM 0 0 14 22 QS)
theorem CT : aL prog f57 (fun _ => none) [.v (some 2)] = Qj := by kernel_rfl
def FI : Tr := .ret [(G5 7), (G6 9)]
def Lq : Tr := aV .gtr 3 22 8 0 7 4 (.split (.u 3 0) (.need (.prim [(W 0 6), (.one (.c (.k (.int .u8 1))))] none) (.binOp .sub 5 (tT 26) (.const (.int .u8 1)) 5) 5 false (.need (.prim [(W 4 0), (.one (.c (.k (.int .u8 8))))] none) (.binOp .rem 5 (tT 27) (.const (.int .u8 8)) 5) 5 false (.need (.prim [(W 5 0), (.one (.c (.k (.int .u8 1))))] none) (.binOp .add 5 (tT 28) (.const (.int .u8 1)) 5) 5 false (aN 18 [(W 6 0), (WK 2)] [(some 5), none] [31, 32] [5, 3] 56 false (aN 25 [(W 6 0), (WK 2)] [(some 6)] [37, 38] [5, 3] 52 true FI))))) (.need (.prim [(W 0 6), (.one (.c (.k (.int .u8 1))))] none) (.binOp .sub 5 (tT 26) (.const (.int .u8 1)) 5) 5 false (.need (.prim [(W 4 0), (.one (.c (.k (.int .u8 8))))] none) (.binOp .rem 5 (tT 27) (.const (.int .u8 8)) 5) 5 false (.need (.prim [(W 5 0), (.one (.c (.k (.int .u8 1))))] none) (.binOp .add 5 (tT 28) (.const (.int .u8 1)) 5) 5 false (aN 18 [(W 6 0), (W 0 7)] [(some 5), none] [31, 32] [5, 3] 56 false (aN 25 [(W 6 0), (W 0 7)] [(some 6)] [37, 38] [5, 3] 52 true FI))))))
def Pr : Tr := .split (.u 2 0) (.need (.prim [(W 0 6), (.one (.c (.k (.int .u8 1))))] none) (.binOp .sub 5 (tT 26) (.const (.int .u8 1)) 5) 5 false (.need (.prim [(W 3 0), (.one (.c (.k (.int .u8 8))))] none) (.binOp .rem 5 (tT 27) (.const (.int .u8 8)) 5) 5 false (.need (.prim [(W 4 0), (.one (.c (.k (.int .u8 1))))] none) (.binOp .add 5 (tT 28) (.const (.int .u8 1)) 5) 5 false (aN 18 [(W 5 0), (WK 2)] [(some 5), none] [31, 32] [5, 3] 56 false (aN 25 [(W 5 0), (WK 2)] [(some 6)] [37, 38] [5, 3] 52 true (.ret [(G5 6), (G6 8)])))))) Lq
def Qu : Tr := .need (.prim [(W 0 6), (.one (.c (.k (.int .u8 0))))] none) (.binOp .gtr 5 (tT 15) (.const (.int .u8 0)) 5) 4 false (.split (.u 1 0) (aV .lss 3 19 0 0 7 4 Pr) (aN 57 [(G2 0)] [none, none] [42] [24] 107 false (aN 40 [(.agg [(U 0 2), (U 0 3), (U 0 4)])] [(some 3), (some 4)] [48] [26] 82 false (aN 71 [(W 0 5)] [none, none] [54] [27] 128 false (.ret [(.agg [(U 2 0), (U 4 0), (U 4 1), (U 4 2), (U 6 0)]), (.agg [(U 3 0), (U 5 0), (U 5 1), (U 5 2), (U 5 3), (U 7 0)])])))))
theorem MI : aL prog f17 (fun _ => none) [.v (some 8)] = Qu := by kernel_rfl
def iE (n : Nat) : List Rat := (List.replicate n (0 : Rat)).set (n - 1) 1
def CS (n : Nat) : List RQ := (List.replicate n RQ.nil).set (n - 1) (.of 1)
def yH (p : List (List bH)) (long : Int) : List (List Rat) := p.map bR ++ if 0 < long then [iE (long % 50 + 1).toNat] else []
def Lb (p : List (List bH)) (long : Int) : List (List RQ) := p.map (fun l => eZ (mH l)) ++ if 0 < long then [CS (long % 50 + 1).toNat] else []
theorem wO {α β : Type} {R : α → β → Prop} {a : α} {b : β} (h : R a b) : ∀ n, aP R (List.replicate n a) (List.replicate n b)
 | 0 => trivial
 | n + 1 => ⟨h, wO h n⟩
theorem xU {α β : Type} {R : α → β → Prop} {a : α} {b : β} (h : R a b) : ∀ {xs : List α} {ys : List β} (m : Nat), aP R xs ys → aP R (xs.set m a) (ys.set m b)
 | [], [], _, _ => trivial
 | _ :: _, _ :: _, 0, ⟨_, k⟩ => ⟨h, k⟩
 | _ :: _, _ :: _, m + 1, ⟨j, k⟩ => ⟨j, xU h m k⟩
 | [], _ :: _, _, k => k.elim
 | _ :: _, [], _, k => k.elim
abbrev z3 : List aF := [.exact (.slice none 0 0), .bool false, .exact (.slice none 0 0)]
abbrev z4 : List aF := [.int .i64 0, .exact (.slice none 0 0), .int .i64 0, .exact (.slice none 0 0)]
theorem Nu (n : Nat) : aP (aP aF.Sub) ((List.replicate n z3).set (n - 1) (qC 1)) ((iE n).map qC) := by
 rw [iE, List.map_set, List.map_replicate]
 exact xU ⟨aF.Sub.same, aF.Sub.same, aF.Sub.same, trivial⟩ _ (wO iD n)
theorem It (n : Nat) : aP (aP aF.Sub) ((List.replicate n z4).set (n - 1) (rC (.of 1))) ((CS n).map rC) := by
 rw [CS, List.map_set, List.map_replicate]
 exact xU ⟨aF.Sub.same, aF.Sub.same, aF.Sub.same, aF.Sub.same, trivial⟩ _ (wO Pn n)
theorem vU {α : Type} {l : List α} {i : Nat} {x : α} (h : l[i]? = some x) : l.take i ++ [x] = l.take (i + 1) := by
 rw [List.take_add_one, h]; rfl
theorem oY (l : List bH) : (bR l).length = l.length := List.length_map _
theorem AU (l : List bH) : (mH l).length = l.length := List.length_map _
set_option maxHeartbeats 1000000 in
theorem Cl (p : List (List bH)) (long : Int) (hp : TU p) (hs : fW p = true) (hl1 : -9223372036854775808 ≤ long) (hl2 : long < 9223372036854775808) : aO prog 57 [(.agg [sP p, .int .i64 long] : aI)] (.ret [.one (eQ (yH p long)), .one (eR (Lb p long))]) := by
 refine aD (args := [.v (some 2)]) (ins := [.v (.agg [sP p, .int .i64 long])]) (hints := (fun _ => none)) fo (by kernel_rfl) func57 ⟨rfl, trivial⟩ ?_
 rw [CT]
 dsimp only [List.map, In.env, aA, aB]
 have hs := hs
 unfold fW at hs
 rw [decide_eq_true_iff] at hs
 obtain ⟨hp6, hpx⟩ := hs
 refine bA {i : Nat // i ≤ p.length} (fun g => [.one (.int .i64 g.1), .rows ((p.take g.1).map fun l => cQ (bR l)), .rows ((p.take g.1).map fun l => cR (eZ (mH l)))]) (fun g => p.length - g.1) ⟨0, Nat.zero_le _⟩ aK.rfl (fun _ => rfl) ?_
 rintro ⟨i, hi⟩
 dsimp only [aA, aB] at hi ⊢
 refine vn (aM EF (List.length_map _)) rfl ?_
 dsimp only [aA, aB]
 refine vn aZ rfl ?_
 dsimp only [aA, aB]
 refine vs _ rfl (fun h3 => ?_) (fun h3 => ?_)
 ·obtain ⟨l, hl⟩ : ∃ l, p[i]? = some l := ⟨_, List.getElem?_eq_getElem (by omega)⟩
  have hlm := List.mem_of_getElem? hl
  have hl4 := (hpx l hlm).1
  have hti : (p.take i).length ≤ i := by rw [List.length_take]; omega
  refine vn (aW EF (by omega) (by omega) hl) rfl ?_
  dsimp only [aA, aB]
  refine vn (bB Lo) rfl ?_
  dsimp only [aA, aB]
  refine aC (Fx l (fun x hx => (hp.p l hlm).2 x hx) (by omega)) rfl ?_
  dsimp only [aA, aB]
  refine bG (us := [cQ (bR l)]) rfl ?_
  dsimp only [aA, aB]
  refine wQ (xs := p.take i) (x := l) (f := fun l => cQ (bR l)) rfl rfl (by omega) (by simp only [maxLen]; omega) ?_
  rw [vU hl]
  dsimp only [aA, aB]
  refine aC (Fm (mH l) (by rw [AU]; omega)) rfl ?_
  dsimp only [aA, aB]
  refine bG (us := [cR (eZ (mH l))]) rfl ?_
  dsimp only [aA, aB]
  refine wQ (xs := p.take i) (x := l) (f := fun l => cR (eZ (mH l))) rfl rfl (by omega) (by simp only [maxLen]; omega) ?_
  rw [vU hl]
  dsimp only [aA, aB]
  refine vn (aE (by omega) (by omega)) rfl ?_
  dsimp only [aA, aB]
  exact aR rfl ⟨⟨i + 1, by omega⟩, aK.rfl, by show p.length - (i + 1) < p.length - i; omega⟩
 rw [show i = p.length by omega, List.take_length]
 refine vn dX rfl ?_
 dsimp only [aA, aB]
 refine vs _ rfl (fun h15 => ?_) (fun h15 => ?_)
 ·obtain ⟨n, hn⟩ : ∃ n : Nat, (long % 50 + 1).toNat = n := ⟨_, rfl⟩
  have hn1 : long % 50 + 1 = (n : Int) := by omega
  have hn2 : n ≤ 50 := by omega
  have hn3 : 1 ≤ n := by omega
  refine vn (eB (by omega) (by omega)) rfl ?_
  dsimp only [aA, aB]
  refine vn (cU (c := (n : Int)) (by rw [hn1]; exact dC (by omega) (by omega))) rfl ?_
  dsimp only [aA, aB]
  refine rE (n := n) (m := n) (us := List.replicate n z3) rfl rfl rfl (Nat.le_refl _) (by omega) (by simp only [maxLen]; omega) ?_
  dsimp only [aA, aB]
  refine rE (n := n) (m := n) (us := List.replicate n z4) rfl rfl rfl (Nat.le_refl _) (by omega) (by simp only [maxLen]; omega) ?_
  dsimp only [aA, aB]
  refine vn (aH (by omega) (by omega)) rfl ?_
  dsimp only [aA, aB]
  refine vn (aH (by omega) (by omega)) rfl ?_
  dsimp only [aA, aB]
  refine aC (iB 1 (by omega) (by omega)) rfl ?_
  dsimp only [aA, aB]
  refine aC (Ee 1 (by omega) (by omega)) rfl ?_
  dsimp only [aA, aB]
  refine mA rfl rfl (by omega) (by rw [List.length_replicate]; omega) ?_
  refine BG (ts := List.replicate n z3) (us := (List.replicate n z3).set (n - 1) (qC 1)) rfl rfl (by omega) (cells := z3) (by rw [show ((n : Int) - 1).toNat = n - 1 by omega, List.getElem?_replicate, if_pos (by omega)]) (by rw [show ((n : Int) - 1).toNat = n - 1 by omega]; rfl) ?_
  dsimp only [aA, aB]
  refine mA rfl rfl (by omega) (by rw [List.length_replicate]; omega) ?_
  refine BG (ts := List.replicate n z4) (us := (List.replicate n z4).set (n - 1) (rC (.of 1))) rfl rfl (by omega) (cells := z4) (by rw [show ((n : Int) - 1).toNat = n - 1 by omega, List.getElem?_replicate, if_pos (by omega)]) (by rw [show ((n : Int) - 1).toNat = n - 1 by omega]; rfl) ?_
  dsimp only [aA, aB]
  refine bG (us := [[.slice 3 ((List.replicate n z3).set (n - 1) (qC 1))]]) rfl ?_
  dsimp only [aA, aB]
  refine rY (ts := p.map fun l => cQ (bR l)) (us := [[.slice 3 ((List.replicate n z3).set (n - 1) (qC 1))]]) rfl rfl rfl (by simp; omega) (by simp [maxLen]; omega) ?_
  dsimp only [aA, aB]
  refine bG (us := [[.slice 4 ((List.replicate n z4).set (n - 1) (rC (.of 1)))]]) rfl ?_
  dsimp only [aA, aB]
  refine rY (ts := p.map fun l => cR (eZ (mH l))) (us := [[.slice 4 ((List.replicate n z4).set (n - 1) (rC (.of 1)))]]) rfl rfl rfl (by simp; omega) (by simp [maxLen]; omega) ?_
  dsimp only [aA, aB]
  refine cT ⟨aF.Sub.slice ?_, aF.Sub.slice ?_, trivial⟩
  ·rw [yH, if_pos h15, hn, List.map_append, List.map_map]
   exact aP.append (aP.nM (aP.nM aF.Sub.refl) _) ⟨⟨aF.Sub.slice (Nu n), trivial⟩, trivial⟩
  ·rw [Lb, if_pos h15, hn, List.map_append, List.map_map]
   exact aP.append (aP.nM (aP.nM aF.Sub.refl) _) ⟨⟨aF.Sub.slice (It n), trivial⟩, trivial⟩
 rw [yH, Lb, if_neg h15, if_neg h15, List.append_nil, List.append_nil]
 refine aJ ?_
 rw [eQ, eR, List.map_map, List.map_map]; rfl
def aY.kk (c : aY) : Nat := (c.kind - 1) % 8 + 1
def aY.nn (c : aY) : Int := if c.n < 0 ∨ 8 < c.n then 2 else c.n
def aY.E (c : aY) : List (List Rat) := if 0 < c.kind then kE c.kk c.nn else yH c.p c.long
def aY.X (c : aY) : Rat := if 0 < c.kind then 0 else c.c.v
def aY.Y (c : aY) : List Rat := if 0 < c.kind then kY c.kk else bR c.y
def aY.ER (c : aY) : List (List RQ) := if 0 < c.kind then Vc c.kk c.nn else Lb c.p c.long
def aY.XR (c : aY) : RQ := if 0 < c.kind then .nil else .of c.c.v
def aY.YR (c : aY) : List RQ := if 0 < c.kind then VJ c.kk else mH c.y
theorem Hq {k : Nat} {n : Int} (h1 : 1 ≤ k) (h2 : k ≤ 8) (h3 : 0 ≤ n) (h4 : n ≤ 40) : fZ k n = (kE k n, kY k, 0) := by
 rw [fZ, if_neg (by omega), if_neg (by omega)]
theorem NC (c : aY) (h : c.In) (hs : c.small = true) : aO prog 17 [(Sf c : aI)] (.ret [fT c.E c.X c.Y, fR c.ER c.XR c.YR]) := by
 refine aD (args := [.v (some 8)]) (ins := [.v (Sf c)]) (hints := (fun _ => none)) fo (by kernel_rfl) func17 ⟨rfl, trivial⟩ ?_
 rw [MI]
 dsimp only [List.map, In.env, aA, aB]
 have hs' := hs
 unfold aY.small at hs'
 rw [decide_eq_true_iff] at hs'
 obtain ⟨_, hsp, _, hyl⟩ := hs'
 have hk := h.hk
 have hn1 := h.hn1
 have hn2 := h.hn2
 have hkk1 : 1 ≤ c.kk := by unfold aY.kk; omega
 have hkk8 : c.kk ≤ 8 := by unfold aY.kk; omega
 have hnn : 0 ≤ c.nn ∧ c.nn ≤ 8 := by unfold aY.nn; split <;> omega
 have hK := BU c.kk c.nn (by omega) (by omega) (by omega)
 rw [Hq hkk1 hkk8 (by omega) (by omega)] at hK
 have hR := Jz c.kk c.nn hkk1 hkk8 (by omega) (by omega)
 refine vn dX rfl ?_
 dsimp only [aA, aB]
 refine vs _ rfl (fun h1 => ?_) (fun h1 => ?_)
 ·have hk0 : 0 < c.kind := by omega
  have hkki : ((c.kind : Int) - 1) % 8 + 1 = (c.kk : Int) := by unfold aY.kk; omega
  rw [show c.E = kE c.kk c.nn by rw [aY.E, if_pos hk0], show c.X = 0 by rw [aY.X, if_pos hk0], show c.Y = kY c.kk by rw [aY.Y, if_pos hk0], show c.ER = Vc c.kk c.nn by rw [aY.ER, if_pos hk0], show c.XR = RQ.nil by rw [aY.XR, if_pos hk0], show c.YR = VJ c.kk by rw [aY.YR, if_pos hk0]]
  refine vn aZ rfl ?_
  dsimp only [aA, aB]
  refine vs _ rfl (fun h3 => ?_) (fun h3 => ?_)
  ·have hnnv : c.nn = 2 := by rw [aY.nn, if_pos (by omega)]
   rw [hnnv] at hK hR ⊢
   refine vn (wJ (by omega) (by omega)) rfl ?_
   dsimp only [aA, aB]
   refine vn (eB (by omega) (by omega)) rfl ?_
   dsimp only [aA, aB]
   refine vn (cU (c := (c.kk : Int)) (by rw [hkki]; exact Dr (by omega) (by omega))) rfl ?_
   dsimp only [aA, aB]
   refine aC hK rfl ?_
   dsimp only [aA, aB]
   refine aC hR rfl ?_
   dsimp only [aA, aB]
   exact aJ rfl
  refine vn dX rfl ?_
  dsimp only [aA, aB]
  refine vs _ rfl (fun h11 => ?_) (fun h11 => ?_)
  ·have hnnv : c.nn = 2 := by rw [aY.nn, if_pos (by omega)]
   rw [hnnv] at hK hR ⊢
   refine vn (wJ (by omega) (by omega)) rfl ?_
   dsimp only [aA, aB]
   refine vn (eB (by omega) (by omega)) rfl ?_
   dsimp only [aA, aB]
   refine vn (cU (c := (c.kk : Int)) (by rw [hkki]; exact Dr (by omega) (by omega))) rfl ?_
   dsimp only [aA, aB]
   refine aC hK rfl ?_
   dsimp only [aA, aB]
   refine aC hR rfl ?_
   dsimp only [aA, aB]
   exact aJ rfl
  have hnnv : c.nn = c.n := by rw [aY.nn, if_neg (by omega)]
  rw [hnnv] at hK hR ⊢
  refine vn (wJ (by omega) (by omega)) rfl ?_
  dsimp only [aA, aB]
  refine vn (eB (by omega) (by omega)) rfl ?_
  dsimp only [aA, aB]
  refine vn (cU (c := (c.kk : Int)) (by rw [hkki]; exact Dr (by omega) (by omega))) rfl ?_
  dsimp only [aA, aB]
  refine aC hK rfl ?_
  dsimp only [aA, aB]
  refine aC hR rfl ?_
  dsimp only [aA, aB]
  exact aJ rfl
 have hk0 : ¬ 0 < c.kind := by omega
 rw [show c.E = yH c.p c.long by rw [aY.E, if_neg hk0], show c.X = c.c.v by rw [aY.X, if_neg hk0], show c.Y = bR c.y by rw [aY.Y, if_neg hk0], show c.ER = Lb c.p c.long by rw [aY.ER, if_neg hk0], show c.XR = RQ.of c.c.v by rw [aY.XR, if_neg hk0], show c.YR = mH c.y by rw [aY.YR, if_neg hk0]]
 refine aC (Cl c.p c.long h.hp hsp h.hl1 h.hl2) rfl ?_
 dsimp only [aA, aB]
 refine aC (FC c.c h.hc) rfl ?_
 dsimp only [aA, aB]
 refine aC (Fx c.y h.hy (by omega)) rfl ?_
 dsimp only [aA, aB]
 exact aJ rfl
end Go.Sy
