/- Cases in both ways.
-/
import Derived.Test.YtdmcadckdnnglaaGreatDoorOb
set_option linter.unusedVariables false
set_option linter.unusedSimpArgs false
namespace Go.Sy
open Go Go.Proofs Tryz Ord
def Sp : Tr := .need (.lit 1 [[(.u 8 0)]]) (.buildSlice 32 1 #[(0, (.tmp 29))]) 32 false (.need (.app 1 24 (some 2) none (some 10)) (.call ⟨.builtin .append, #[(.tmp 28), (.tmp 30)], #[32, 32]⟩) 32 false (.need (.call 144 [(W 9 0)] [none]) (.call ⟨.value (.func 144), #[(.tmp 33)], #[167]⟩) 167 false (.need (.lit 1 [[(.u 12 0)]]) (.buildSlice 44 1 #[(0, (.tmp 34))]) 44 false (.need (.app 1 24 (some 3) none (some 13)) (.call ⟨.builtin .append, #[(.tmp 32), (.tmp 35)], #[44, 44]⟩) 44 false (.need (.prim [(W 1 0), (WK (1))] none) (.binOp .add 3 (.tmp 17) (.const (I3 (1))) 3) 3 false (.back 0 [(.w (W 15 0)), (.row 11), (.row 14)]))))))
def NP : Tr := .need (.idx 10 (.u 12 0)) (.indexAddr 50 (.tmp 51) (.tmp 53)) 0 false (.need (.strow 10 4 (.u 12 0) 0 [(.u 14 0), (.u 14 1), (.u 14 2), (.u 14 3)]) (.store 49 (.tmp 57) (.tmp 55)) 0 false (.need (.lit 1 [[(.sr 3 15)]]) (.buildSlice 32 1 #[(0, (.tmp 59))]) 32 false (.need (.app 1 24 (some 2) none (some 17)) (.call ⟨.builtin .append, #[(.tmp 58), (.tmp 60)], #[32, 32]⟩) 32 false (.need (.lit 1 [[(.sr 4 16)]]) (.buildSlice 44 1 #[(0, (.tmp 63))]) 44 false (.need (.app 1 24 (some 3) none (some 19)) (.call ⟨.builtin .append, #[(.tmp 62), (.tmp 64)], #[44, 44]⟩) 44 false (.ret [(.one (.c (.sr 1 18))), (.one (.c (.sr 1 20)))]))))))
def NW : Tr := .need (.make [(.int .i64 (0)), (.slice none 0 0), (.int .i64 (0)), (.slice none 0 0)] 64 (.u 8 0) (.u 8 0)) (.makeSlice 50 (.tmp 46) (.tmp 46)) 50 false (.need (.prim [(W 8 0), (WK (1))] none) (.binOp .sub 3 (.tmp 49) (.const (I3 (1))) 3) 3 false (.need (.prim [(W 8 0), (WK (1))] none) (.binOp .sub 3 (.tmp 52) (.const (I3 (1))) 3) 3 false (.need (.call 68 [(WK (1))] [(some 3)]) (.call ⟨.value (.func 68), #[(.const (I3 (1)))], #[2]⟩) 39 true (.need (.call 50 [(WK (1))] [(some 4)]) (.call ⟨.value (.func 50), #[(.const (I3 (1)))], #[2]⟩) 49 true (.need (.idx 9 (.u 11 0)) (.indexAddr 40 (.tmp 48) (.tmp 50)) 0 false (.need (.strow 9 3 (.u 11 0) 0 [(.u 13 0), (.u 13 1), (.u 13 2)]) (.store 39 (.tmp 56) (.tmp 54)) 0 false NP))))))
def Qj : Tr := .need (.prim [(W 1 0), (W 4 0)] none) (.binOp .lss 3 (.tmp 12) (.tmp 15) 3) 4 false (.split (.u 5 0) (.need (.prim [(W 0 0), (W 1 0)] none) (.indexAddr 22 (.tmp 21) (.tmp 22)) 0 false (.need (.prim [(W 6 0)] none) (.load 27 (.tmp 23)) 27 false (.need (.call 71 [(W 7 0)] [none, none]) (.call ⟨.value (.func 71), #[(.tmp 24)], #[27]⟩) 128 false Sp))) (.need (.prim [(W 0 1), (WK (0))] none) (.binOp .gtr 3 (.tmp 38) (.const (I3 (0))) 3) 4 false (.split (.u 6 0) (.need (.prim [(W 0 1), (WK (50))] none) (.binOp .rem 3 (.tmp 41) (.const (I3 (50))) 3) 3 false (.need (.prim [(W 7 0), (WK (1))] none) (.binOp .add 3 (.tmp 42) (.const (I3 (1))) 3) 3 false (.need (.make [(.slice none 0 0), (.bool false), (.slice none 0 0)] 56 (.u 8 0) (.u 8 0)) (.makeSlice 40 (.tmp 44) (.tmp 44)) 40 false NW))) (.ret [(.one (.c (.sr 1 2))), (.one (.c (.sr 1 3)))]))))
def RP : Tr := .loop 0 [(.w (WK (0))), .nilrow, .nilrow] (.need (.prim [(W 0 0)] none) (.call ⟨.builtin .len, #[(.tmp 14)], #[22]⟩) 3 false Qj)
theorem DP : aM prog f57 (fun _ => none) [.v (some 2)] = RP := by kernel_rfl
def Gt : Tr := .ret [(.agg [(U 7 0), (U 7 1), (U 7 2), (U 7 3), (U 7 4)]), (.agg [(U 9 0), (U 9 1), (U 9 2), (U 9 3), (U 9 4), (U 9 5)])]
def Mw : Tr := .need (.prim [(W 0 7), (WK (8))] none) (.binOp .gtr 3 (.tmp 22) (.const (I3 (8))) 3) 4 false (.split (.u 3 0) (.need (.prim [(W 0 6), (.one (.c (.k (.int .u8 (1)))))] none) (.binOp .sub 5 (.tmp 26) (.const (.int .u8 (1))) 5) 5 false (.need (.prim [(W 4 0), (.one (.c (.k (.int .u8 (8)))))] none) (.binOp .rem 5 (.tmp 27) (.const (.int .u8 (8))) 5) 5 false (.need (.prim [(W 5 0), (.one (.c (.k (.int .u8 (1)))))] none) (.binOp .add 5 (.tmp 28) (.const (.int .u8 (1))) 5) 5 false (.need (.call 18 [(W 6 0), (WK (2))] [(some 5), none]) (.call ⟨.value (.func 18), #[(.tmp 31), (.tmp 32)], #[5, 3]⟩) 56 false (.need (.call 25 [(W 6 0), (WK (2))] [(some 6)]) (.call ⟨.value (.func 25), #[(.tmp 37), (.tmp 38)], #[5, 3]⟩) 52 true Gt))))) (.need (.prim [(W 0 6), (.one (.c (.k (.int .u8 (1)))))] none) (.binOp .sub 5 (.tmp 26) (.const (.int .u8 (1))) 5) 5 false (.need (.prim [(W 4 0), (.one (.c (.k (.int .u8 (8)))))] none) (.binOp .rem 5 (.tmp 27) (.const (.int .u8 (8))) 5) 5 false (.need (.prim [(W 5 0), (.one (.c (.k (.int .u8 (1)))))] none) (.binOp .add 5 (.tmp 28) (.const (.int .u8 (1))) 5) 5 false (.need (.call 18 [(W 6 0), (W 0 7)] [(some 5), none]) (.call ⟨.value (.func 18), #[(.tmp 31), (.tmp 32)], #[5, 3]⟩) 56 false (.need (.call 25 [(W 6 0), (W 0 7)] [(some 6)]) (.call ⟨.value (.func 25), #[(.tmp 37), (.tmp 38)], #[5, 3]⟩) 52 true Gt))))))
def RJ : Tr := .split (.u 2 0) (.need (.prim [(W 0 6), (.one (.c (.k (.int .u8 (1)))))] none) (.binOp .sub 5 (.tmp 26) (.const (.int .u8 (1))) 5) 5 false (.need (.prim [(W 3 0), (.one (.c (.k (.int .u8 (8)))))] none) (.binOp .rem 5 (.tmp 27) (.const (.int .u8 (8))) 5) 5 false (.need (.prim [(W 4 0), (.one (.c (.k (.int .u8 (1)))))] none) (.binOp .add 5 (.tmp 28) (.const (.int .u8 (1))) 5) 5 false (.need (.call 18 [(W 5 0), (WK (2))] [(some 5), none]) (.call ⟨.value (.func 18), #[(.tmp 31), (.tmp 32)], #[5, 3]⟩) 56 false (.need (.call 25 [(W 5 0), (WK (2))] [(some 6)]) (.call ⟨.value (.func 25), #[(.tmp 37), (.tmp 38)], #[5, 3]⟩) 52 true (.ret [(.agg [(U 6 0), (U 6 1), (U 6 2), (U 6 3), (U 6 4)]), (.agg [(U 8 0), (U 8 1), (U 8 2), (U 8 3), (U 8 4), (U 8 5)])])))))) Mw
def Rt : Tr := .need (.prim [(W 0 6), (.one (.c (.k (.int .u8 (0)))))] none) (.binOp .gtr 5 (.tmp 15) (.const (.int .u8 (0))) 5) 4 false (.split (.u 1 0) (.need (.prim [(W 0 7), (WK (0))] none) (.binOp .lss 3 (.tmp 19) (.const (I3 (0))) 3) 4 false RJ) (.need (.call 57 [(.agg [(U 0 0), (U 0 1)])] [none, none]) (.call ⟨.value (.func 57), #[(.tmp 42)], #[24]⟩) 107 false (.need (.call 40 [(.agg [(U 0 2), (U 0 3), (U 0 4)])] [(some 3), (some 4)]) (.call ⟨.value (.func 40), #[(.tmp 48)], #[26]⟩) 82 false (.need (.call 71 [(W 0 5)] [none, none]) (.call ⟨.value (.func 71), #[(.tmp 54)], #[27]⟩) 128 false (.ret [(.agg [(U 2 0), (U 4 0), (U 4 1), (U 4 2), (U 6 0)]), (.agg [(U 3 0), (U 5 0), (U 5 1), (U 5 2), (U 5 3), (U 7 0)])])))))
theorem My : aM prog f17 (fun _ => none) [.v (some 8)] = Rt := by kernel_rfl
def iJ (n : Nat) : List Rat := (List.replicate n (0 : Rat)).set (n - 1) 1
def Cc (n : Nat) : List RQ := (List.replicate n RQ.nil).set (n - 1) (.of 1)
def yU (p : List (List bG)) (long : Int) : List (List Rat) := p.map bO ++ if 0 < long then [iJ (long % 50 + 1).toNat] else []
def LO (p : List (List bG)) (long : Int) : List (List RQ) := p.map (fun l => dA (nE l)) ++ if 0 < long then [Cc (long % 50 + 1).toNat] else []
theorem sA {α β : Type} {R : α → β → Prop} {a : α} {b : β} (h : R a b) : ∀ n, aP R (List.replicate n a) (List.replicate n b)
 | 0 => trivial
 | n + 1 => ⟨h, sA h n⟩
theorem wU {α β : Type} {R : α → β → Prop} {a : α} {b : β} (h : R a b) : ∀ {xs : List α} {ys : List β} (m : Nat), aP R xs ys → aP R (xs.set m a) (ys.set m b)
 | [], [], _, _ => trivial
 | _ :: _, _ :: _, 0, ⟨_, k⟩ => ⟨h, k⟩
 | _ :: _, _ :: _, m + 1, ⟨j, k⟩ => ⟨j, wU h m k⟩
 | [], _ :: _, _, k => k.elim
 | _ :: _, [], _, k => k.elim
abbrev z3 : List aF := [.exact (.slice none 0 0), .bool false, .exact (.slice none 0 0)]
abbrev z4 : List aF := [.int .i64 0, .exact (.slice none 0 0), .int .i64 0, .exact (.slice none 0 0)]
theorem Mx (n : Nat) : aP (aP aF.Sub) ((List.replicate n z3).set (n - 1) (qC 1)) ((iJ n).map qC) := by
 rw [iJ, List.map_set, List.map_replicate]
 exact wU ⟨aF.Sub.same, aF.Sub.same, aF.Sub.same, trivial⟩ _ (sA iI n)
theorem Lt (n : Nat) : aP (aP aF.Sub) ((List.replicate n z4).set (n - 1) (rC (.of 1))) ((Cc n).map rC) := by
 rw [Cc, List.map_set, List.map_replicate]
 exact wU ⟨aF.Sub.same, aF.Sub.same, aF.Sub.same, aF.Sub.same, trivial⟩ _ (sA Dd n)
theorem yC {α : Type} {l : List α} {i : Nat} {x : α} (h : l[i]? = some x) : l.take i ++ [x] = l.take (i + 1) := by
 rw [List.take_add_one, h]; rfl
theorem oH (l : List bG) : (bO l).length = l.length := List.length_map _
theorem Bk (l : List bG) : (nE l).length = l.length := List.length_map _
set_option maxHeartbeats 1000000 in
theorem CG (p : List (List bG)) (long : Int) (hp : XK p) (hs : gK p = true) (hl1 : -9223372036854775808 ≤ long) (hl2 : long < 9223372036854775808) : aN prog 57 [(.agg [sP p, .int .i64 long] : aH)] (.ret [.one (eQ (yU p long)), .one (eR (LO p long))]) := by
 refine aD (args := [.v (some 2)]) (ins := [.v (.agg [sP p, .int .i64 long])]) (hints := (fun _ => none)) fo (by kernel_rfl) func57 ⟨rfl, trivial⟩ ?_
 rw [DP]
 dsimp only [List.map, In.env, aA, aB]
 have hs := hs
 unfold gK at hs
 rw [decide_eq_true_iff] at hs
 obtain ⟨hp6, hpx⟩ := hs
 refine aY {i : Nat // i ≤ p.length} (fun g => [.one (.int .i64 g.1), .rows ((p.take g.1).map fun l => cQ (bO l)), .rows ((p.take g.1).map fun l => cR (dA (nE l)))]) (fun g => p.length - g.1) ⟨0, Nat.zero_le _⟩ aL.rfl (fun _ => rfl) ?_
 rintro ⟨i, hi⟩
 dsimp only [aA, aB] at hi ⊢
 refine vn (aK DT (List.length_map _)) rfl ?_
 dsimp only [aA, aB]
 refine vn aU rfl ?_
 dsimp only [aA, aB]
 refine vs _ rfl (fun h3 => ?_) (fun h3 => ?_)
 ·obtain ⟨l, hl⟩ : ∃ l, p[i]? = some l := ⟨_, List.getElem?_eq_getElem (by omega)⟩
  have hlm := List.mem_of_getElem? hl
  have hl4 := (hpx l hlm).1
  have hti : (p.take i).length ≤ i := by rw [List.length_take]; omega
  refine vn (aR DT (by omega) (by omega) hl) rfl ?_
  dsimp only [aA, aB]
  refine vn (bA OW) rfl ?_
  dsimp only [aA, aB]
  refine aC (Gb l (fun x hx => (hp.p l hlm).2 x hx) (by omega)) rfl ?_
  dsimp only [aA, aB]
  refine bC (us := [cQ (bO l)]) rfl ?_
  dsimp only [aA, aB]
  refine lK (xs := p.take i) (x := l) (f := fun l => cQ (bO l)) rfl rfl (by omega) (by simp only [maxLen]; omega) ?_
  rw [yC hl]
  dsimp only [aA, aB]
  refine aC (pU (nE l) (by rw [Bk]; omega)) rfl ?_
  dsimp only [aA, aB]
  refine bC (us := [cR (dA (nE l))]) rfl ?_
  dsimp only [aA, aB]
  refine lK (xs := p.take i) (x := l) (f := fun l => cR (dA (nE l))) rfl rfl (by omega) (by simp only [maxLen]; omega) ?_
  rw [yC hl]
  dsimp only [aA, aB]
  refine vn (aE (by omega) (by omega)) rfl ?_
  dsimp only [aA, aB]
  exact aO rfl ⟨⟨i + 1, by omega⟩, aL.rfl, by show p.length - (i + 1) < p.length - i; omega⟩
 rw [show i = p.length by omega, List.take_length]
 refine vn cT rfl ?_
 dsimp only [aA, aB]
 refine vs _ rfl (fun h15 => ?_) (fun h15 => ?_)
 ·obtain ⟨n, hn⟩ : ∃ n : Nat, (long % 50 + 1).toNat = n := ⟨_, rfl⟩
  have hn1 : long % 50 + 1 = (n : Int) := by omega
  have hn2 : n ≤ 50 := by omega
  have hn3 : 1 ≤ n := by omega
  refine vn (dI (by omega) (by omega)) rfl ?_
  dsimp only [aA, aB]
  refine vn (cM (c := (n : Int)) (by rw [hn1]; exact cY (by omega) (by omega))) rfl ?_
  dsimp only [aA, aB]
  refine qH (n := n) (m := n) (us := List.replicate n z3) rfl rfl rfl (Nat.le_refl _) (by omega) (by simp only [maxLen]; omega) ?_
  dsimp only [aA, aB]
  refine qH (n := n) (m := n) (us := List.replicate n z4) rfl rfl rfl (Nat.le_refl _) (by omega) (by simp only [maxLen]; omega) ?_
  dsimp only [aA, aB]
  refine vn (aG (by omega) (by omega)) rfl ?_
  dsimp only [aA, aB]
  refine vn (aG (by omega) (by omega)) rfl ?_
  dsimp only [aA, aB]
  refine aC (mW 1 (by omega) (by omega)) rfl ?_
  dsimp only [aA, aB]
  refine aC (jH 1 (by omega) (by omega)) rfl ?_
  dsimp only [aA, aB]
  refine lW rfl rfl (by omega) (by rw [List.length_replicate]; omega) ?_
  refine BW (ts := List.replicate n z3) (us := (List.replicate n z3).set (n - 1) (qC 1)) rfl rfl (by omega) (cells := z3) (by rw [show ((n : Int) - 1).toNat = n - 1 by omega, List.getElem?_replicate, if_pos (by omega)]) (by rw [show ((n : Int) - 1).toNat = n - 1 by omega]; rfl) ?_
  dsimp only [aA, aB]
  refine lW rfl rfl (by omega) (by rw [List.length_replicate]; omega) ?_
  refine BW (ts := List.replicate n z4) (us := (List.replicate n z4).set (n - 1) (rC (.of 1))) rfl rfl (by omega) (cells := z4) (by rw [show ((n : Int) - 1).toNat = n - 1 by omega, List.getElem?_replicate, if_pos (by omega)]) (by rw [show ((n : Int) - 1).toNat = n - 1 by omega]; rfl) ?_
  dsimp only [aA, aB]
  refine bC (us := [[.slice 3 ((List.replicate n z3).set (n - 1) (qC 1))]]) rfl ?_
  dsimp only [aA, aB]
  refine qY (ts := p.map fun l => cQ (bO l)) (us := [[.slice 3 ((List.replicate n z3).set (n - 1) (qC 1))]]) rfl rfl rfl (by simp; omega) (by simp [maxLen]; omega) ?_
  dsimp only [aA, aB]
  refine bC (us := [[.slice 4 ((List.replicate n z4).set (n - 1) (rC (.of 1)))]]) rfl ?_
  dsimp only [aA, aB]
  refine qY (ts := p.map fun l => cR (dA (nE l))) (us := [[.slice 4 ((List.replicate n z4).set (n - 1) (rC (.of 1)))]]) rfl rfl rfl (by simp; omega) (by simp [maxLen]; omega) ?_
  dsimp only [aA, aB]
  refine cS ⟨aF.Sub.slice ?_, aF.Sub.slice ?_, trivial⟩
  ·rw [yU, if_pos h15, hn, List.map_append, List.map_map]
   exact aP.append (aP.jL (aP.jL aF.Sub.refl) _) ⟨⟨aF.Sub.slice (Mx n), trivial⟩, trivial⟩
  ·rw [LO, if_pos h15, hn, List.map_append, List.map_map]
   exact aP.append (aP.jL (aP.jL aF.Sub.refl) _) ⟨⟨aF.Sub.slice (Lt n), trivial⟩, trivial⟩
 rw [yU, LO, if_neg h15, if_neg h15, List.append_nil, List.append_nil]
 refine aJ ?_
 rw [eQ, eR, List.map_map, List.map_map]; rfl
def aZ.kk (c : aZ) : Nat := (c.kind - 1) % 8 + 1
def aZ.nn (c : aZ) : Int := if c.n < 0 ∨ 8 < c.n then 2 else c.n
def aZ.E (c : aZ) : List (List Rat) := if 0 < c.kind then kE c.kk c.nn else yU c.p c.long
def aZ.X (c : aZ) : Rat := if 0 < c.kind then 0 else c.c.v
def aZ.Y (c : aZ) : List Rat := if 0 < c.kind then kY c.kk else bO c.y
def aZ.ER (c : aZ) : List (List RQ) := if 0 < c.kind then Xa c.kk c.nn else LO c.p c.long
def aZ.XR (c : aZ) : RQ := if 0 < c.kind then .nil else .of c.c.v
def aZ.YR (c : aZ) : List RQ := if 0 < c.kind then XT c.kk else nE c.y
theorem GU {k : Nat} {n : Int} (h1 : 1 ≤ k) (h2 : k ≤ 8) (h3 : 0 ≤ n) (h4 : n ≤ 40) : gI k n = (kE k n, kY k, 0) := by
 rw [gI, if_neg (by omega), if_neg (by omega)]
theorem Mj (c : aZ) (h : c.In) (hs : c.small = true) : aN prog 17 [(Ua c : aH)] (.ret [fT c.E c.X c.Y, fR c.ER c.XR c.YR]) := by
 refine aD (args := [.v (some 8)]) (ins := [.v (Ua c)]) (hints := (fun _ => none)) fo (by kernel_rfl) func17 ⟨rfl, trivial⟩ ?_
 rw [My]
 dsimp only [List.map, In.env, aA, aB]
 have hs' := hs
 unfold aZ.small at hs'
 rw [decide_eq_true_iff] at hs'
 obtain ⟨_, hsp, _, hyl⟩ := hs'
 have hk := h.hk
 have hn1 := h.hn1
 have hn2 := h.hn2
 have hkk1 : 1 ≤ c.kk := by unfold aZ.kk; omega
 have hkk8 : c.kk ≤ 8 := by unfold aZ.kk; omega
 have hnn : 0 ≤ c.nn ∧ c.nn ≤ 8 := by unfold aZ.nn; split <;> omega
 have hK := DF c.kk c.nn (by omega) (by omega) (by omega)
 rw [GU hkk1 hkk8 (by omega) (by omega)] at hK
 have hR := Lj c.kk c.nn hkk1 hkk8 (by omega) (by omega)
 refine vn cT rfl ?_
 dsimp only [aA, aB]
 refine vs _ rfl (fun h1 => ?_) (fun h1 => ?_)
 ·have hk0 : 0 < c.kind := by omega
  have hkki : ((c.kind : Int) - 1) % 8 + 1 = (c.kk : Int) := by unfold aZ.kk; omega
  rw [show c.E = kE c.kk c.nn by rw [aZ.E, if_pos hk0], show c.X = 0 by rw [aZ.X, if_pos hk0], show c.Y = kY c.kk by rw [aZ.Y, if_pos hk0], show c.ER = Xa c.kk c.nn by rw [aZ.ER, if_pos hk0], show c.XR = RQ.nil by rw [aZ.XR, if_pos hk0], show c.YR = XT c.kk by rw [aZ.YR, if_pos hk0]]
  refine vn aU rfl ?_
  dsimp only [aA, aB]
  refine vs _ rfl (fun h3 => ?_) (fun h3 => ?_)
  ·have hnnv : c.nn = 2 := by rw [aZ.nn, if_pos (by omega)]
   rw [hnnv] at hK hR ⊢
   refine vn (wR (by omega) (by omega)) rfl ?_
   dsimp only [aA, aB]
   refine vn (dI (by omega) (by omega)) rfl ?_
   dsimp only [aA, aB]
   refine vn (cM (c := (c.kk : Int)) (by rw [hkki]; exact Dk (by omega) (by omega))) rfl ?_
   dsimp only [aA, aB]
   refine aC hK rfl ?_
   dsimp only [aA, aB]
   refine aC hR rfl ?_
   dsimp only [aA, aB]
   exact aJ rfl
  refine vn cT rfl ?_
  dsimp only [aA, aB]
  refine vs _ rfl (fun h11 => ?_) (fun h11 => ?_)
  ·have hnnv : c.nn = 2 := by rw [aZ.nn, if_pos (by omega)]
   rw [hnnv] at hK hR ⊢
   refine vn (wR (by omega) (by omega)) rfl ?_
   dsimp only [aA, aB]
   refine vn (dI (by omega) (by omega)) rfl ?_
   dsimp only [aA, aB]
   refine vn (cM (c := (c.kk : Int)) (by rw [hkki]; exact Dk (by omega) (by omega))) rfl ?_
   dsimp only [aA, aB]
   refine aC hK rfl ?_
   dsimp only [aA, aB]
   refine aC hR rfl ?_
   dsimp only [aA, aB]
   exact aJ rfl
  have hnnv : c.nn = c.n := by rw [aZ.nn, if_neg (by omega)]
  rw [hnnv] at hK hR ⊢
  refine vn (wR (by omega) (by omega)) rfl ?_
  dsimp only [aA, aB]
  refine vn (dI (by omega) (by omega)) rfl ?_
  dsimp only [aA, aB]
  refine vn (cM (c := (c.kk : Int)) (by rw [hkki]; exact Dk (by omega) (by omega))) rfl ?_
  dsimp only [aA, aB]
  refine aC hK rfl ?_
  dsimp only [aA, aB]
  refine aC hR rfl ?_
  dsimp only [aA, aB]
  exact aJ rfl
 have hk0 : ¬ 0 < c.kind := by omega
 rw [show c.E = yU c.p c.long by rw [aZ.E, if_neg hk0], show c.X = c.c.v by rw [aZ.X, if_neg hk0], show c.Y = bO c.y by rw [aZ.Y, if_neg hk0], show c.ER = LO c.p c.long by rw [aZ.ER, if_neg hk0], show c.XR = RQ.of c.c.v by rw [aZ.XR, if_neg hk0], show c.YR = nE c.y by rw [aZ.YR, if_neg hk0]]
 refine aC (CG c.p c.long h.hp hsp h.hl1 h.hl2) rfl ?_
 dsimp only [aA, aB]
 refine aC (GA c.c h.hc) rfl ?_
 dsimp only [aA, aB]
 refine aC (Gb c.y h.hy (by omega)) rfl ?_
 dsimp only [aA, aB]
 exact aJ rfl
end Go.Sy
