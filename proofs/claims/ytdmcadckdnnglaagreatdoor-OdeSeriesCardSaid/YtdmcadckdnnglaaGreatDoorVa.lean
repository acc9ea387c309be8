/- The reference's polynomials. The reference's shifted equations, its series. The reference's shifted polynomials are the program's.
-/
import Derived.Test.YtdmcadckdnnglaaGreatDoorOd
import Derived.Test.YtdmcadckdnnglaaGreatDoorPc
set_option linter.unusedVariables false
set_option linter.unusedSimpArgs false
namespace Go.Sy
open Go Go.Proofs Tryz Ord
def JY : Tr := .ret [(W 2 0)]
def Rq : Tr := .need (.lit 4 [[(.u 0 0), (.u 0 1), (.u 0 2), (.u 0 3)]]) (.buildSlice 167 1 #[(0, (.tmp 3))]) 167 false (.need (.call 144 [(.one (.c (.sr 4 1)))] [none]) (.call ⟨.value (.func 144), #[(.tmp 4)], #[167]⟩) 167 true JY)
theorem CB : aM prog f184 (fun _ => none) [.v (some 4)] = Rq := by kernel_rfl
def RC : Tr := .need (.prim [(W 0 0), (W 2 0)] none) (.indexAddr 167 (.tmp 14) (.tmp 15)) 0 false (.need (.prim [(W 6 0)] (some 4)) (.load 49 (.tmp 16)) 49 false (.need (.call 104 [(.agg [(U 7 0), (U 7 1), (U 7 2), (U 7 3)]), (.agg [(U 1 0), (U 1 1), (U 1 2), (U 1 3)])] [(some 4)]) (.call ⟨.value (.func 104), #[(.tmp 17), (.tmp 18)], #[49, 49]⟩) 49 true (.need (.lit 4 [[(.u 8 0), (.u 8 1), (.u 8 2), (.u 8 3)]]) (.buildSlice 167 1 #[(0, (.tmp 19))]) 167 false (.need (.app 4 64 (some 3) none (some 9)) (.call ⟨.builtin .append, #[(.tmp 13), (.tmp 20)], #[167, 167]⟩) 167 false (.need (.prim [(W 2 0), (WK (1))] none) (.binOp .add 3 (.tmp 11) (.const (I3 (1))) 3) 3 false (.back 0 [(.w (W 11 0)), (.row 10)]))))))
def Ti : Tr := .loop 0 [(.w (WK (0))), .nilrow] (.need (.prim [(W 0 0)] none) (.call ⟨.builtin .len, #[(.tmp 8)], #[167]⟩) 3 false (.need (.prim [(W 2 0), (W 4 0)] none) (.binOp .lss 3 (.tmp 7) (.tmp 9) 3) 4 false (.split (.u 5 0) RC (.need (.call 144 [(.one (.c (.sr 4 3)))] [none]) (.call ⟨.value (.func 144), #[(.tmp 22)], #[167]⟩) 167 true (.ret [(W 6 0)])))))
theorem Kh : aM prog f186 (fun _ => none) [.v none, .v (some 4)] = Ti := by kernel_rfl
def MI : Tr := .need (.prim [(W 1 0), (W 2 0)] none) (.indexAddr 167 (.tmp 36) (.tmp 37)) 0 false (.need (.prim [(W 14 0)] (some 4)) (.load 49 (.tmp 38)) 49 false (.need (.call 48 [(.agg [(U 11 0), (U 11 1), (U 11 2), (U 11 3)]), (.agg [(U 15 0), (U 15 1), (U 15 2), (U 15 3)])] [(some 4)]) (.call ⟨.value (.func 48), #[(.tmp 35), (.tmp 39)], #[49, 49]⟩) 49 true (.need (.lit 4 [[(.u 16 0), (.u 16 1), (.u 16 2), (.u 16 3)]]) (.buildSlice 167 1 #[(0, (.tmp 42))]) 167 false (.need (.app 4 64 (some 3) none (some 17)) (.call ⟨.builtin .append, #[(.tmp 41), (.tmp 43)], #[167, 167]⟩) 167 false (.need (.prim [(W 2 0), (WK (1))] none) (.binOp .add 3 (.tmp 18) (.const (I3 (1))) 3) 3 false (.back 0 [(.w (W 19 0)), (.row 18)]))))))
def Gl : Tr := .need (.app 4 64 (some 3) none (some 14)) (.call ⟨.builtin .append, #[(.tmp 41), (.tmp 43)], #[167, 167]⟩) 167 false (.need (.prim [(W 2 0), (WK (1))] none) (.binOp .add 3 (.tmp 18) (.const (I3 (1))) 3) 3 false (.back 0 [(.w (W 16 0)), (.row 15)]))
def QM : Tr := .need (.prim [(W 0 0), (W 2 0)] none) (.indexAddr 167 (.tmp 26) (.tmp 27)) 0 false (.need (.prim [(W 9 0)] (some 4)) (.load 49 (.tmp 28)) 49 false (.need (.call 48 [(.agg [(U 6 0), (U 6 1), (U 6 2), (U 6 3)]), (.agg [(U 10 0), (U 10 1), (U 10 2), (U 10 3)])] [(some 4)]) (.call ⟨.value (.func 48), #[(.tmp 25), (.tmp 29)], #[49, 49]⟩) 49 true (.need (.prim [(W 1 0)] none) (.call ⟨.builtin .len, #[(.tmp 32)], #[167]⟩) 3 false (.need (.prim [(W 2 0), (W 12 0)] none) (.binOp .lss 3 (.tmp 31) (.tmp 33) 3) 4 false (.split (.u 13 0) MI (.need (.lit 4 [[(.u 11 0), (.u 11 1), (.u 11 2), (.u 11 3)]]) (.buildSlice 167 1 #[(0, (.tmp 42))]) 167 false Gl))))))
def Oj : Tr := .need (.prim [(W 1 0)] none) (.call ⟨.builtin .len, #[(.tmp 32)], #[167]⟩) 3 false (.need (.prim [(W 2 0), (W 9 0)] none) (.binOp .lss 3 (.tmp 31) (.tmp 33) 3) 4 false (.split (.u 10 0) (.need (.prim [(W 1 0), (W 2 0)] none) (.indexAddr 167 (.tmp 36) (.tmp 37)) 0 false (.need (.prim [(W 11 0)] (some 4)) (.load 49 (.tmp 38)) 49 false (.need (.call 48 [(.agg [(U 6 0), (U 6 1), (U 6 2), (U 6 3)]), (.agg [(U 12 0), (U 12 1), (U 12 2), (U 12 3)])] [(some 4)]) (.call ⟨.value (.func 48), #[(.tmp 35), (.tmp 39)], #[49, 49]⟩) 49 true (.need (.lit 4 [[(.u 13 0), (.u 13 1), (.u 13 2), (.u 13 3)]]) (.buildSlice 167 1 #[(0, (.tmp 42))]) 167 false Gl)))) (.need (.lit 4 [[(.u 6 0), (.u 6 1), (.u 6 2), (.u 6 3)]]) (.buildSlice 167 1 #[(0, (.tmp 42))]) 167 false (.need (.app 4 64 (some 3) none (some 11)) (.call ⟨.builtin .append, #[(.tmp 41), (.tmp 43)], #[167, 167]⟩) 167 false (.need (.prim [(W 2 0), (WK (1))] none) (.binOp .add 3 (.tmp 18) (.const (I3 (1))) 3) 3 false (.back 0 [(.w (W 13 0)), (.row 12)]))))))
def OI : Tr := .need (.prim [(W 1 0), (W 2 0)] none) (.indexAddr 167 (.tmp 36) (.tmp 37)) 0 false (.need (.prim [(W 16 0)] (some 4)) (.load 49 (.tmp 38)) 49 false (.need (.call 48 [(.agg [(U 13 0), (U 13 1), (U 13 2), (U 13 3)]), (.agg [(U 17 0), (U 17 1), (U 17 2), (U 17 3)])] [(some 4)]) (.call ⟨.value (.func 48), #[(.tmp 35), (.tmp 39)], #[49, 49]⟩) 49 true (.need (.lit 4 [[(.u 18 0), (.u 18 1), (.u 18 2), (.u 18 3)]]) (.buildSlice 167 1 #[(0, (.tmp 42))]) 167 false (.need (.app 4 64 (some 3) none (some 19)) (.call ⟨.builtin .append, #[(.tmp 41), (.tmp 43)], #[167, 167]⟩) 167 false (.need (.prim [(W 2 0), (WK (1))] none) (.binOp .add 3 (.tmp 18) (.const (I3 (1))) 3) 3 false (.back 0 [(.w (W 21 0)), (.row 20)]))))))
def GC : Tr := .need (.app 4 64 (some 3) none (some 16)) (.call ⟨.builtin .append, #[(.tmp 41), (.tmp 43)], #[167, 167]⟩) 167 false (.need (.prim [(W 2 0), (WK (1))] none) (.binOp .add 3 (.tmp 18) (.const (I3 (1))) 3) 3 false (.back 0 [(.w (W 18 0)), (.row 17)]))
def ON : Tr := .need (.prim [(W 0 0), (W 2 0)] none) (.indexAddr 167 (.tmp 26) (.tmp 27)) 0 false (.need (.prim [(W 11 0)] (some 4)) (.load 49 (.tmp 28)) 49 false (.need (.call 48 [(.agg [(U 8 0), (U 8 1), (U 8 2), (U 8 3)]), (.agg [(U 12 0), (U 12 1), (U 12 2), (U 12 3)])] [(some 4)]) (.call ⟨.value (.func 48), #[(.tmp 25), (.tmp 29)], #[49, 49]⟩) 49 true (.need (.prim [(W 1 0)] none) (.call ⟨.builtin .len, #[(.tmp 32)], #[167]⟩) 3 false (.need (.prim [(W 2 0), (W 14 0)] none) (.binOp .lss 3 (.tmp 31) (.tmp 33) 3) 4 false (.split (.u 15 0) OI (.need (.lit 4 [[(.u 13 0), (.u 13 1), (.u 13 2), (.u 13 3)]]) (.buildSlice 167 1 #[(0, (.tmp 42))]) 167 false GC))))))
def FX : Tr := .back 0 [(.w (W 15 0)), (.row 14)]
def Ou : Tr := .need (.prim [(W 1 0)] none) (.call ⟨.builtin .len, #[(.tmp 32)], #[167]⟩) 3 false (.need (.prim [(W 2 0), (W 11 0)] none) (.binOp .lss 3 (.tmp 31) (.tmp 33) 3) 4 false (.split (.u 12 0) (.need (.prim [(W 1 0), (W 2 0)] none) (.indexAddr 167 (.tmp 36) (.tmp 37)) 0 false (.need (.prim [(W 13 0)] (some 4)) (.load 49 (.tmp 38)) 49 false (.need (.call 48 [(.agg [(U 8 0), (U 8 1), (U 8 2), (U 8 3)]), (.agg [(U 14 0), (U 14 1), (U 14 2), (U 14 3)])] [(some 4)]) (.call ⟨.value (.func 48), #[(.tmp 35), (.tmp 39)], #[49, 49]⟩) 49 true (.need (.lit 4 [[(.u 15 0), (.u 15 1), (.u 15 2), (.u 15 3)]]) (.buildSlice 167 1 #[(0, (.tmp 42))]) 167 false GC)))) (.need (.lit 4 [[(.u 8 0), (.u 8 1), (.u 8 2), (.u 8 3)]]) (.buildSlice 167 1 #[(0, (.tmp 42))]) 167 false (.need (.app 4 64 (some 3) none (some 13)) (.call ⟨.builtin .append, #[(.tmp 41), (.tmp 43)], #[167, 167]⟩) 167 false (.need (.prim [(W 2 0), (WK (1))] none) (.binOp .add 3 (.tmp 18) (.const (I3 (1))) 3) 3 false FX)))))
def NV : Tr := .need (.prim [(W 1 0)] none) (.call ⟨.builtin .len, #[(.tmp 14)], #[167]⟩) 3 false (.need (.prim [(W 2 0), (W 6 0)] none) (.binOp .lss 3 (.tmp 13) (.tmp 15) 3) 4 false (.split (.u 7 0) (.need (.call 50 [(WK (0))] [(some 4)]) (.call ⟨.value (.func 50), #[(.const (I3 (0)))], #[2]⟩) 49 true (.need (.prim [(W 0 0)] none) (.call ⟨.builtin .len, #[(.tmp 22)], #[167]⟩) 3 false (.need (.prim [(W 2 0), (W 9 0)] none) (.binOp .lss 3 (.tmp 21) (.tmp 23) 3) 4 false (.split (.u 10 0) ON Ou)))) (.need (.call 144 [(.one (.c (.sr 4 3)))] [none]) (.call ⟨.value (.func 144), #[(.tmp 45)], #[167]⟩) 167 true (.ret [(W 8 0)]))))
def SM : Tr := .need (.prim [(W 0 0)] none) (.call ⟨.builtin .len, #[(.tmp 9)], #[167]⟩) 3 false (.need (.prim [(W 2 0), (W 4 0)] none) (.binOp .lss 3 (.tmp 8) (.tmp 10) 3) 4 false (.split (.u 5 0) (.need (.call 50 [(WK (0))] [(some 4)]) (.call ⟨.value (.func 50), #[(.const (I3 (0)))], #[2]⟩) 49 true (.need (.prim [(W 0 0)] none) (.call ⟨.builtin .len, #[(.tmp 22)], #[167]⟩) 3 false (.need (.prim [(W 2 0), (W 7 0)] none) (.binOp .lss 3 (.tmp 21) (.tmp 23) 3) 4 false (.split (.u 8 0) QM Oj)))) NV))
def Tc : Tr := .loop 0 [(.w (WK (0))), .nilrow] SM
theorem QY : aM prog f185 (fun _ => none) [.v none, .v none] = Tc := by kernel_rfl
def RB : Tr := .need (.prim [(W 1 0), (W 3 0)] none) (.indexAddr 167 (.tmp 17) (.tmp 18)) 0 false (.need (.prim [(W 7 0)] (some 4)) (.load 49 (.tmp 19)) 49 false (.need (.call 186 [(W 0 0), (.agg [(U 8 0), (U 8 1), (U 8 2), (U 8 3)])] [none]) (.call ⟨.value (.func 186), #[(.tmp 16), (.tmp 20)], #[167, 49]⟩) 167 false (.need (.app 4 64 (some 6) (some (.u 9 0)) none) (.call ⟨.builtin .append, #[(.tmp 15), (.tmp 21)], #[167, 167]⟩) 167 false (.need (.call 185 [(W 2 0), (.one (.c (.sr 4 10)))] [none]) (.call ⟨.value (.func 185), #[(.tmp 13), (.tmp 22)], #[167, 167]⟩) 167 true (.need (.prim [(W 3 0), (WK (1))] none) (.binOp .add 3 (.tmp 11) (.const (I3 (1))) 3) 3 false (.back 0 [(.w (W 11 0)), (.w (W 12 0))]))))))
def SF : Tr := .loop 0 [(.w (.one (.c (.k (.slice none 0 0))))), (.w (WK (0)))] (.need (.prim [(W 1 0)] none) (.call ⟨.builtin .len, #[(.tmp 8)], #[167]⟩) 3 false (.need (.prim [(W 3 0), (W 4 0)] none) (.binOp .lss 3 (.tmp 7) (.tmp 9) 3) 4 false (.split (.u 5 0) (.need (.make [(.int .i64 (0)), (.slice none 0 0), (.int .i64 (0)), (.slice none 0 0)] 64 (.u 3 0) (.u 3 0)) (.makeSlice 167 (.tmp 14) (.tmp 14)) 167 false RB) JY)))
theorem SS : aM prog f187 (fun _ => none) [.v none, .v none] = SF := by kernel_rfl
def Tv : Tr := .need (.prim [(W 0 0), (W 6 0)] none) (.indexAddr 167 (.tmp 18) (.tmp 19)) 0 false (.need (.prim [(W 9 0)] (some 4)) (.load 49 (.tmp 20)) 49 false (.need (.call 186 [(W 5 0), (.agg [(U 10 0), (U 10 1), (U 10 2), (U 10 3)])] [none]) (.call ⟨.value (.func 186), #[(.tmp 17), (.tmp 21)], #[167, 49]⟩) 167 true (.need (.call 185 [(W 4 0), (W 11 0)] [none]) (.call ⟨.value (.func 185), #[(.tmp 16), (.tmp 22)], #[167, 167]⟩) 167 true (.need (.call 187 [(W 5 0), (W 1 0)] [none]) (.call ⟨.value (.func 187), #[(.tmp 24), (.tmp 25)], #[167, 167]⟩) 167 true (.need (.prim [(W 6 0), (WK (1))] none) (.binOp .add 3 (.tmp 14) (.const (I3 (1))) 3) 3 false (.back 0 [(.w (W 12 0)), (.w (W 13 0)), (.w (W 14 0))]))))))
def TA : Tr := .need (.call 50 [(WK (1))] [(some 4)]) (.call ⟨.value (.func 50), #[(.const (I3 (1)))], #[2]⟩) 49 true (.need (.call 184 [(.agg [(U 2 0), (U 2 1), (U 2 2), (U 2 3)])] [none]) (.call ⟨.value (.func 184), #[(.tmp 8)], #[49]⟩) 167 true (.loop 0 [(.w (.one (.c (.k (.slice none 0 0))))), (.w (W 3 0)), (.w (WK (0)))] (.need (.prim [(W 0 0)] none) (.call ⟨.builtin .len, #[(.tmp 11)], #[167]⟩) 3 false (.need (.prim [(W 6 0), (W 7 0)] none) (.binOp .lss 3 (.tmp 10) (.tmp 12) 3) 4 false (.split (.u 8 0) Tv (.ret [(W 4 0)]))))))
theorem Fp : aM prog f106 (fun _ => none) [.v none, .v none] = TA := by kernel_rfl
def PO : Tr := .need (.prim [(W 3 0), (W 1 0)] none) (.binOp .lss 3 (.tmp 8) (.tmp 9) 3) 4 false (.split (.u 8 0) (.need (.prim [(W 0 0), (W 3 0)] none) (.binOp .sub 3 (.tmp 14) (.tmp 15) 3) 3 false (.need (.call 50 [(W 9 0)] [(some 4)]) (.call ⟨.value (.func 50), #[(.tmp 16)], #[2]⟩) 49 true (.need (.call 104 [(.agg [(U 4 0), (U 5 0), (U 6 0), (U 7 0)]), (.agg [(U 10 0), (U 10 1), (U 10 2), (U 10 3)])] [(some 4)]) (.call ⟨.value (.func 104), #[(.tmp 13), (.tmp 17)], #[49, 49]⟩) 49 true (.need (.prim [(W 3 0), (WK (1))] none) (.binOp .add 3 (.tmp 11) (.const (I3 (1))) 3) 3 false (.back 0 [(.w (W 12 0)), (.w (W 11 0)), (.w (W 11 1)), (.w (W 11 2)), (.w (W 11 3))]))))) (.ret [(.agg [(U 4 0), (U 5 0), (U 6 0), (U 7 0)])]))
def Tu : Tr := .need (.call 50 [(WK (1))] [(some 4)]) (.call ⟨.value (.func 50), #[(.const (I3 (1)))], #[2]⟩) 49 true (.loop 0 [(.w (WK (0))), (.w (W 2 0)), (.w (W 2 1)), (.w (W 2 2)), (.w (W 2 3))] PO)
theorem Fh : aM prog f103 (fun _ => none) [.v none, .v none] = Tu := by kernel_rfl
def dH (p : List RQ) (c : Rat) : List RQ := p.map fun a => .of (a.q * c)
theorem dS (p : List RQ) (c : Rat) : (dH p c).length = p.length := List.length_map _
theorem Dr (a : RQ) : aN prog 184 [(lI a : aH)] (.ret [.one (sR (dA [a]))]) := by
 refine aD (args := [.v (some 4)]) (ins := [.v (lI a)]) (hints := (fun _ => none)) fo (by kernel_rfl) func184 ⟨rfl, trivial⟩ ?_
 rw [CB]
 dsimp only [List.map, In.env, aA, aB]
 refine bC (us := rR [a]) rfl ?_
 dsimp only [aA, aB]
 refine aC (pU [a] (by simp)) rfl ?_
 dsimp only [aA, aB]
 exact aJ rfl
theorem DC (p : List RQ) (c : RQ) (A B : Nat) (hp : ∀ x ∈ p, Fit A x.q) (hc : Fit B c.q) (hB : A + B ≤ 4294967296) (hs : p.length < 1099511627776) : aN prog 186 [(.one (sR p) : aH), (lI c : aH)] (.ret [.one (sR (dA (dH p c.q)))]) := by
 refine aD (args := [.v none, .v (some 4)]) (ins := [.v (.one (sR p)), .v (lI c)]) (hints := (fun _ => none)) fo (by kernel_rfl) func186 ⟨rfl, rfl, trivial⟩ ?_
 rw [Kh]
 dsimp only [List.map, In.env, aA, aB]
 refine aY {i : Nat // i ≤ p.length} (fun g => [.one (.int .i64 g.1), .rows (rR (dH (p.take g.1) c.q))]) (fun g => p.length - g.1) ⟨0, Nat.zero_le _⟩ aL.rfl (fun _ => rfl) ?_
 rintro ⟨i, hi⟩
 dsimp only [aA, aB] at hi ⊢
 refine vn (aK eJ (List.length_map _)) rfl ?_
 dsimp only [aA, aB]
 refine vn aU rfl ?_
 dsimp only [aA, aB]
 refine vs _ rfl (fun h3 => ?_) (fun h3 => ?_)
 ·obtain ⟨x, hx⟩ : ∃ x, p[i]? = some x := ⟨_, List.getElem?_eq_getElem (by omega)⟩
  refine vn (aR eJ (by omega) (by omega) hx) rfl ?_
  dsimp only [aA, aB]
  refine vn (cB uW (by decide) (by simp) (.inl rfl)) rfl ?_
  dsimp only [aA, aB]
  refine aC (oN x c A B (hp x (List.mem_of_getElem? hx)) hc hB) rfl ?_
  dsimp only [aA, aB]
  refine bC (us := rR [.of (x.q * c.q)]) rfl ?_
  dsimp only [aA, aB]
  refine lK (xs := dH (p.take i) c.q) (x := .of (x.q * c.q)) (f := rC) rfl rfl (by rw [dS, List.length_take]; omega) (by rw [dS, List.length_take]; simp only [maxLen]; omega) ?_
  rw [show dH (p.take i) c.q ++ [.of (x.q * c.q)] = dH (p.take (i + 1)) c.q from iZ (f := fun a : RQ => RQ.of (a.q * c.q)) hx]
  dsimp only [aA, aB]
  refine vn (aE (by omega) (by omega)) rfl ?_
  dsimp only [aA, aB]
  exact aO rfl ⟨⟨i + 1, by omega⟩, aL.rfl, by show p.length - (i + 1) < p.length - i; omega⟩
 rw [show i = p.length by omega, List.take_length]
 refine aC (pU (dH p c.q) (by rw [dS]; exact hs)) rfl ?_
 dsimp only [aA, aB]
 exact aJ rfl
def atR (p : List RQ) (i : Nat) : Rat := ((p.map RQ.q).getD i 0)
theorem iG {p : List RQ} {i : Nat} {x : RQ} (h : p[i]? = some x) : atR p i = x.q := by
 rw [atR, List.getD_eq_getElem?_getD, List.getElem?_map, h]; rfl
theorem CK {p : List RQ} {i : Nat} (h : p.length ≤ i) : atR p i = 0 := by
 rw [atR, List.getD_eq_getElem?_getD, List.getElem?_eq_none (by simpa using h)]; rfl
def tF (a b : List RQ) (i : Nat) : List RQ := (List.range i).map fun k => .of (atR a k + atR b k)
theorem oP (a b : List RQ) (i : Nat) : (tF a b i).length = i := by simp [tF]
theorem tC (a b : List RQ) (i : Nat) : tF a b i ++ [.of (atR a i + atR b i)] = tF a b (i + 1) := by simp [tF, List.range_succ]
theorem Kn (a b : List RQ) (A B : Nat) (ha : ∀ x ∈ a, Fit A x.q) (hb : ∀ x ∈ b, Fit B x.q) (hB : 2 * A + 2 * B ≤ 1073741824) (h64 : 64 ≤ A) (h64' : 64 ≤ B) (hs : a.length < 1099511627776) (hs2 : b.length < 1099511627776) : aN prog 185 [(.one (sR a) : aH), (.one (sR b) : aH)] (.ret [.one (sR (dA (tF a b (max a.length b.length))))]) := by
 refine aD (args := [.v none, .v none]) (ins := [.v (.one (sR a)), .v (.one (sR b))]) (hints := (fun _ => none)) fo (by kernel_rfl) func185 ⟨rfl, rfl, trivial⟩ ?_
 rw [QY]
 dsimp only [List.map, In.env, aA, aB]
 have h0 : Fit 64 (RQ.of ((0 : Int) : Rat)).q := Fit.zero (by omega)
 refine aY {i : Nat // i ≤ max a.length b.length} (fun g => [.one (.int .i64 g.1), .rows (rR (tF a b g.1))]) (fun g => max a.length b.length - g.1) ⟨0, Nat.zero_le _⟩ aL.rfl (fun _ => rfl) ?_
 rintro ⟨i, hi⟩
 dsimp only [aA, aB] at hi ⊢
 have hsl := oP a b i
 refine vn (aK eJ (List.length_map _)) rfl ?_
 dsimp only [aA, aB]
 refine vn aU rfl ?_
 dsimp only [aA, aB]
 refine vs _ rfl (fun h3 => ?_) (fun h3 => ?_)
 ·refine aC (jH 0 (by omega) (by omega)) rfl ?_
  dsimp only [aA, aB]
  refine vn (aK eJ (List.length_map _)) rfl ?_
  dsimp only [aA, aB]
  refine vn aU rfl ?_
  dsimp only [aA, aB]
  refine vs _ rfl (fun h7 => ?_) (fun h7 => ?_)
  ·obtain ⟨x, hx⟩ : ∃ x, a[i]? = some x := ⟨_, List.getElem?_eq_getElem (by omega)⟩
   have hxA := ha x (List.mem_of_getElem? hx)
   refine vn (aR eJ (by omega) (by omega) hx) rfl ?_
   dsimp only [aA, aB]
   refine vn (cB uW (by decide) (by simp) (.inl rfl)) rfl ?_
   dsimp only [aA, aB]
   refine aC (yH (.of ((0 : Int) : Rat)) x 64 A h0 hxA (by omega)) rfl ?_
   dsimp only [aA, aB]
   refine vn (aK eJ (List.length_map _)) rfl ?_
   dsimp only [aA, aB]
   refine vn aU rfl ?_
   dsimp only [aA, aB]
   refine vs _ rfl (fun h13 => ?_) (fun h13 => ?_)
   ·obtain ⟨y, hy⟩ : ∃ y, b[i]? = some y := ⟨_, List.getElem?_eq_getElem (by omega)⟩
    refine vn (aR eJ (by omega) (by omega) hy) rfl ?_
    dsimp only [aA, aB]
    refine vn (cB uW (by decide) (by simp) (.inl rfl)) rfl ?_
    dsimp only [aA, aB]
    refine aC (yH (.of ((RQ.of ((0 : Int) : Rat)).q + x.q)) y (64 + A + 1) B (h0.add hxA) (hb y (List.mem_of_getElem? hy)) (by omega)) rfl ?_
    rw [show (RQ.of ((RQ.of ((0 : Int) : Rat)).q + x.q)).q + y.q = atR a i + atR b i by rw [iG hx, iG hy]; show ((0 : Int) : Rat) + x.q + y.q = _; grind]
    dsimp only [aA, aB]
    refine bC (us := rR [.of (atR a i + atR b i)]) rfl ?_
    dsimp only [aA, aB]
    refine lK (xs := tF a b i) (x := .of (atR a i + atR b i)) (f := rC) rfl rfl (by omega) (by simp only [maxLen]; omega) ?_
    rw [tC]
    dsimp only [aA, aB]
    refine vn (aE (by omega) (by omega)) rfl ?_
    dsimp only [aA, aB]
    exact aO rfl ⟨⟨i + 1, by omega⟩, aL.rfl, by show max a.length b.length - (i + 1) < max a.length b.length - i; omega⟩
   rw [show (RQ.of ((0 : Int) : Rat)).q + x.q = atR a i + atR b i by rw [iG hx, CK (p := b) (by omega)]; show ((0 : Int) : Rat) + x.q = _; grind]
   refine bC (us := rR [.of (atR a i + atR b i)]) rfl ?_
   dsimp only [aA, aB]
   refine lK (xs := tF a b i) (x := .of (atR a i + atR b i)) (f := rC) rfl rfl (by omega) (by simp only [maxLen]; omega) ?_
   rw [tC]
   dsimp only [aA, aB]
   refine vn (aE (by omega) (by omega)) rfl ?_
   dsimp only [aA, aB]
   exact aO rfl ⟨⟨i + 1, by omega⟩, aL.rfl, by show max a.length b.length - (i + 1) < max a.length b.length - i; omega⟩
  exfalso; omega
 refine vn (aK eJ (List.length_map _)) rfl ?_
 dsimp only [aA, aB]
 refine vn aU rfl ?_
 dsimp only [aA, aB]
 refine vs _ rfl (fun h41 => ?_) (fun h41 => ?_)
 ·refine aC (jH 0 (by omega) (by omega)) rfl ?_
  dsimp only [aA, aB]
  refine vn (aK eJ (List.length_map _)) rfl ?_
  dsimp only [aA, aB]
  refine vn aU rfl ?_
  dsimp only [aA, aB]
  refine vs _ rfl (fun h45 => ?_) (fun h45 => ?_)
  ·exfalso; omega
  refine vn (aK eJ (List.length_map _)) rfl ?_
  dsimp only [aA, aB]
  refine vn aU rfl ?_
  dsimp only [aA, aB]
  refine vs _ rfl (fun h65 => ?_) (fun h65 => ?_)
  ·obtain ⟨y, hy⟩ : ∃ y, b[i]? = some y := ⟨_, List.getElem?_eq_getElem (by omega)⟩
   refine vn (aR eJ (by omega) (by omega) hy) rfl ?_
   dsimp only [aA, aB]
   refine vn (cB uW (by decide) (by simp) (.inl rfl)) rfl ?_
   dsimp only [aA, aB]
   refine aC (yH (.of ((0 : Int) : Rat)) y 64 B h0 (hb y (List.mem_of_getElem? hy)) (by omega)) rfl ?_
   rw [show (RQ.of ((0 : Int) : Rat)).q + y.q = atR a i + atR b i by rw [iG hy, CK (p := a) (by omega)]; show ((0 : Int) : Rat) + y.q = _; grind]
   dsimp only [aA, aB]
   refine bC (us := rR [.of (atR a i + atR b i)]) rfl ?_
   dsimp only [aA, aB]
   refine lK (xs := tF a b i) (x := .of (atR a i + atR b i)) (f := rC) rfl rfl (by omega) (by simp only [maxLen]; omega) ?_
   rw [tC]
   dsimp only [aA, aB]
   refine vn (aE (by omega) (by omega)) rfl ?_
   dsimp only [aA, aB]
   exact aO rfl ⟨⟨i + 1, by omega⟩, aL.rfl, by show max a.length b.length - (i + 1) < max a.length b.length - i; omega⟩
  exfalso; omega
 rw [show i = max a.length b.length by omega]
 refine aC (pU (tF a b (max a.length b.length)) (by rw [oP]; omega)) rfl ?_
 dsimp only [aA, aB]
 exact aJ rfl
def Eb (a b : List RQ) : List RQ := dA (tF a b (max a.length b.length))
theorem mS (p : List RQ) : (dA p).length ≤ p.length := by rw [sV]; exact fD p
theorem Gk (a b : List RQ) : (Eb a b).length ≤ max a.length b.length := Nat.le_trans (mS _) (by rw [oP]; exact Nat.le_refl _)
def mulR (a b : List RQ) : Nat → List RQ
 | 0 => []
 | i + 1 => Eb (mulR a b i) (List.replicate i .nil ++ dA (dH a (atR b i)))
theorem BT (a b : List RQ) : ∀ i, (mulR a b i).length ≤ a.length + i
 | 0 => Nat.zero_le _
 | i + 1 => by
   rw [mulR]
   refine Nat.le_trans (Gk _ _) ?_
   have h1 := BT a b i
   have h2 := mS (dH a (atR b i))
   rw [dS] at h2
   rw [List.length_append, List.length_replicate]
   omega
theorem Tz (n : Nat) (us : List RQ) : aP (aP aF.Sub) (List.replicate n z4 ++ rR us) (rR (List.replicate n .nil ++ us)) := by
 rw [show rR (List.replicate n RQ.nil ++ us) = List.replicate n (rC .nil) ++ rR us by rw [rR, List.map_append, List.map_replicate]]
 exact aP.append (sA Dd n) (aP.jL (aP.jL aF.Sub.refl) _)
set_option maxHeartbeats 1000000 in
theorem Sr (a b : List RQ) (A B F : Nat) (ha : ∀ x ∈ a, Fit A x.q) (hb : ∀ x ∈ b, Fit B x.q) (hF : ∀ i, i ≤ b.length → ∀ x ∈ mulR a b i, Fit F x.q) (hB : 2 * F + 2 * (A + B) ≤ 1073741824) (h64 : 64 ≤ A) (h64' : 64 ≤ F) (hs : a.length ≤ 1073741824) (hs2 : b.length ≤ 1073741824) : aN prog 187 [(.one (sR a) : aH), (.one (sR b) : aH)] (.ret [.one (sR (mulR a b b.length))]) := by
 refine aD (args := [.v none, .v none]) (ins := [.v (.one (sR a)), .v (.one (sR b))]) (hints := (fun _ => none)) fo (by kernel_rfl) func187 ⟨rfl, rfl, trivial⟩ ?_
 rw [SS]
 dsimp only [List.map, In.env, aA, aB]
 refine aY {i : Nat // i ≤ b.length} (fun g => [.one (sR (mulR a b g.1)), .one (.int .i64 g.1)]) (fun g => b.length - g.1) ⟨0, Nat.zero_le _⟩ ⟨aF.Sub.nil, aH.Sub.same, trivial⟩ (fun _ => rfl) ?_
 rintro ⟨i, hi⟩
 dsimp only [aA, aB] at hi ⊢
 refine vn (aK eJ (List.length_map _)) rfl ?_
 dsimp only [aA, aB]
 refine vn aU rfl ?_
 dsimp only [aA, aB]
 refine vs _ rfl (fun h3 => ?_) (fun h3 => ?_)
 ·obtain ⟨x, hx⟩ : ∃ x, b[i]? = some x := ⟨_, List.getElem?_eq_getElem (by omega)⟩
  have hat := iG hx
  have hml := BT a b i
  have htl := mS (dH a x.q)
  rw [dS] at htl
  have hlen : (List.replicate i z4 ++ rR (dA (dH a x.q))).length = i + (dA (dH a x.q)).length := by rw [List.length_append, List.length_replicate, List.length_map]
  refine qH (n := i) (m := i) (us := List.replicate i z4) rfl rfl rfl (Nat.le_refl _) (by omega) (by simp only [maxLen]; omega) ?_
  dsimp only [aA, aB]
  refine vn (aR eJ (by omega) (by omega) hx) rfl ?_
  dsimp only [aA, aB]
  refine vn (cB uW (by decide) (by simp) (.inl rfl)) rfl ?_
  dsimp only [aA, aB]
  refine aC (DC a x A B ha (hb x (List.mem_of_getElem? hx)) (by omega) (by omega)) rfl ?_
  dsimp only [aA, aB]
  refine qY (ts := List.replicate i z4) (us := rR (dA (dH a x.q))) (vs := List.replicate i z4 ++ rR (dA (dH a x.q))) rfl (.inr aF.Sub.same) rfl (by rw [hlen]; omega) (by rw [hlen]; simp only [maxLen]; omega) ?_
  dsimp only [aA, aB]
  refine BM (show aL _ [.one (sR (mulR a b i)), .one (sR (List.replicate i .nil ++ dA (dH a x.q)))] from ⟨aH.Sub.same, aF.Sub.slice (Tz i _), trivial⟩) (Kn _ _ F (A + B) (hF i hi) (fun y hy => ?_) (by omega) (by omega) (by omega) (by omega) (by rw [List.length_append, List.length_replicate]; omega)) rfl ?_
  ·rcases List.mem_append.1 hy with h | h
   ·rw [(List.mem_replicate.1 h).2]; exact Fit.zero (by omega)
   ·obtain ⟨u, hu, rfl⟩ := List.mem_map.1 (List.mem_of_mem_take h)
    exact (ha u hu).mul (hb x (List.mem_of_getElem? hx))
  dsimp only [aA, aB]
  refine vn (aE (by omega) (by omega)) rfl ?_
  dsimp only [aA, aB]
  exact aO rfl ⟨⟨i + 1, by omega⟩, aL.of_eq (by dsimp only; rw [mulR, hat]; rfl), by show b.length - (i + 1) < b.length - i; omega⟩
 rw [show b.length = i by omega]; exact aJ rfl
def lV (q : List RQ) : Nat → List RQ
 | 0 => dA [.of ((1 : Int) : Rat)]
 | i + 1 => mulR (lV q i) q q.length
theorem Bh (q : List RQ) : ∀ i, (lV q i).length ≤ 1 + i * q.length
 | 0 => by rw [lV, Nat.zero_mul]; exact mS _
 | i + 1 => by
   have h1 := BT (lV q i) q q.length
   have h2 := Bh q i
   rw [lV, Nat.add_mul]
   omega
def fL (p q : List RQ) : Nat → List RQ
 | 0 => []
 | i + 1 => Eb (fL p q i) (dA (dH (lV q i) (atR p i)))
theorem rK (p q : List RQ) : ∀ i, (fL p q i).length ≤ 1 + i * q.length
 | 0 => Nat.zero_le _
 | i + 1 => by
   have h1 := rK p q i
   have h2 := Bh q i
   have h3 := mS (dH (lV q i) (atR p i))
   rw [dS] at h3
   rw [fL, Nat.add_mul]
   refine Nat.le_trans (Gk _ _) ?_
   omega
structure Fs (F : Nat) (p q : List RQ) : Prop where
 fp : ∀ x ∈ p, Fit F x.q
 fq : ∀ x ∈ q, Fit F x.q
 fw : ∀ i, i ≤ p.length → ∀ x ∈ lV q i, Fit F x.q
 fm : ∀ i, i ≤ p.length → ∀ j, j ≤ q.length → ∀ x ∈ mulR (lV q i) q j, Fit F x.q
 fc : ∀ i, i ≤ p.length → ∀ x ∈ fL p q i, Fit F x.q
set_option maxHeartbeats 1000000 in
theorem Fo (p q : List RQ) (F : Nat) (C : Fs F p q) (hF : F ≤ 100000000) (h64 : 64 ≤ F) (hl : 1 + (p.length + 1) * q.length ≤ 1073741824) (hs : p.length ≤ 1073741824) : aN prog 106 [(.one (sR p) : aH), (.one (sR q) : aH)] (.ret [.one (sR (fL p q p.length))]) := by
 refine aD (args := [.v none, .v none]) (ins := [.v (.one (sR p)), .v (.one (sR q))]) (hints := (fun _ => none)) fo (by kernel_rfl) func106 ⟨rfl, rfl, trivial⟩ ?_
 rw [Fp]
 dsimp only [List.map, In.env, aA, aB]
 have hql : q.length ≤ 1073741824 := by rw [Nat.add_mul] at hl; omega
 refine aC (jH 1 (by omega) (by omega)) rfl ?_
 dsimp only [aA, aB]
 refine aC (Dr (.of ((1 : Int) : Rat))) rfl ?_
 dsimp only [aA, aB]
 refine aY {i : Nat // i ≤ p.length} (fun g => [.one (sR (fL p q g.1)), .one (sR (lV q g.1)), .one (.int .i64 g.1)]) (fun g => p.length - g.1) ⟨0, Nat.zero_le _⟩ ⟨aF.Sub.nil, aH.Sub.same, aH.Sub.same, trivial⟩ (fun _ => rfl) ?_
 rintro ⟨i, hi⟩
 dsimp only [aA, aB] at hi ⊢
 refine vn (aK eJ (List.length_map _)) rfl ?_
 dsimp only [aA, aB]
 refine vn aU rfl ?_
 dsimp only [aA, aB]
 refine vs _ rfl (fun h5 => ?_) (fun h5 => ?_)
 ·obtain ⟨x, hx⟩ : ∃ x, p[i]? = some x := ⟨_, List.getElem?_eq_getElem (by omega)⟩
  have hat := iG hx
  have hxF := C.fp x (List.mem_of_getElem? hx)
  have hw := Bh q i
  have hcl := rK p q i
  have hil : i * q.length ≤ (p.length + 1) * q.length := Nat.mul_le_mul_right _ (by omega)
  have htl := mS (dH (lV q i) x.q)
  rw [dS] at htl
  refine vn (aR eJ (by omega) (by omega) hx) rfl ?_
  dsimp only [aA, aB]
  refine vn (cB uW (by decide) (by simp) (.inl rfl)) rfl ?_
  dsimp only [aA, aB]
  refine aC (DC (lV q i) x F F (C.fw i hi) hxF (by omega) (by omega)) rfl ?_
  dsimp only [aA, aB]
  refine aC (Kn (fL p q i) (dA (dH (lV q i) x.q)) F (F + F) (C.fc i hi) (fun y hy => by
   obtain ⟨u, hu, rfl⟩ := List.mem_map.1 (List.mem_of_mem_take hy)
   exact (C.fw i hi u hu).mul hxF) (by omega) (by omega) (by omega) (by omega) (by omega)) rfl ?_
  dsimp only [aA, aB]
  refine aC (Sr (lV q i) q F F F (C.fw i hi) C.fq (C.fm i hi) (by omega) (by omega) (by omega) (by omega) hql) rfl ?_
  dsimp only [aA, aB]
  refine vn (aE (by omega) (by omega)) rfl ?_
  dsimp only [aA, aB]
  exact aO rfl ⟨⟨i + 1, by omega⟩, aL.of_eq (by dsimp only; rw [fL, lV, hat]; rfl), by show p.length - (i + 1) < p.length - i; omega⟩
 rw [show p.length = i by omega]; exact aJ rfl
theorem qK (z : Int) (i B : Nat) (hz1 : -4611686018427387904 ≤ z) (hz2 : z < 4611686018427387904) (hi : i < 4611686018427387904) (hB : B ≤ 1073741824) (h64 : 64 ≤ B) (hf : ∀ j, j ≤ i → Fit B ((bJ z j : Int) : Rat)) : aN prog 103 [(.one (.int .i64 z) : aH), (.one (.int .i64 i) : aH)] (.ret [lI (.of ((bJ z i : Int) : Rat))]) := by
 refine aD (args := [.v none, .v none]) (ins := [.v (.one (.int .i64 z)), .v (.one (.int .i64 i))]) (hints := (fun _ => none)) fo (by kernel_rfl) func103 ⟨rfl, rfl, trivial⟩ ?_
 rw [Fh]
 dsimp only [List.map, In.env, aA, aB]
 refine aC (jH 1 (by omega) (by omega)) rfl ?_
 dsimp only [aA, aB]
 refine aY {j : Nat // j ≤ i} (fun g => (.one (.int .i64 g.1) : aH) :: (rC (.of ((bJ z g.1 : Int) : Rat))).map aH.one) (fun g => i - g.1) ⟨0, Nat.zero_le _⟩ aL.rfl (fun _ => rfl) ?_
 rintro ⟨j, hj⟩
 dsimp only [aA, aB, List.map] at hj ⊢
 refine vn aU rfl ?_
 dsimp only [aA, aB]
 refine vs _ rfl (fun h3 => ?_) (fun h3 => ?_)
 ·refine vn (aG (by omega) (by omega)) rfl ?_
  dsimp only [aA, aB]
  refine aC (jH (z - j) (by omega) (by omega)) rfl ?_
  dsimp only [aA, aB]
  refine aC (oN (.of ((bJ z j : Int) : Rat)) (.of ((z - j : Int) : Rat)) B 64 (hf j hj) (hJ (by omega) (by omega)) (by omega)) rfl ?_
  rw [show (RQ.of ((bJ z j : Int) : Rat)).q * (RQ.of ((z - (j : Int) : Int) : Rat)).q = ((bJ z (j + 1) : Int) : Rat) by rw [bJ, Rat.intCast_mul]; rfl]
  dsimp only [aA, aB]
  refine vn (aE (by omega) (by omega)) rfl ?_
  dsimp only [aA, aB]
  exact aO rfl ⟨⟨j + 1, by omega⟩, aL.rfl, by show i - (j + 1) < i - j; omega⟩
 rw [show i = j by omega]; exact aJ rfl
end Go.Sy
namespace Go.Sy
open Go Go.Proofs Tryz Ord
def RF : Tr := .need (.call 50 [(WK (1))] [(some 4)]) (.call ⟨.value (.func 50), #[(.const (I3 (1)))], #[2]⟩) 49 false (.need (.lit 4 [[(.u 0 1), (.u 0 2), (.u 0 3), (.u 0 4)], [(.u 7 0), (.u 7 1), (.u 7 2), (.u 7 3)]]) (.buildSlice 167 2 #[(0, (.tmp 19)), (1, (.tmp 20))]) 167 false (.need (.call 106 [(W 6 0), (.one (.c (.sr 4 8)))] [none]) (.call ⟨.value (.func 106), #[(.tmp 17), (.tmp 21)], #[167, 167]⟩) 167 true (.need (.lit 1 [[(.u 9 0)]]) (.buildSlice 44 1 #[(0, (.tmp 22))]) 44 false (.need (.app 1 24 (some 2) none (some 10)) (.call ⟨.builtin .append, #[(.tmp 12), (.tmp 23)], #[44, 44]⟩) 44 false (.need (.prim [(W 1 0), (WK (1))] none) (.binOp .add 3 (.tmp 10) (.const (I3 (1))) 3) 3 false (.back 0 [(.w (W 12 0)), (.row 11)]))))))
def QT : Tr := .loop 0 [(.w (WK (0))), .nilrow] (.need (.prim [(W 0 0)] none) (.call ⟨.builtin .len, #[(.tmp 7)], #[44]⟩) 3 false (.need (.prim [(W 1 0), (W 3 0)] none) (.binOp .lss 3 (.tmp 5) (.tmp 8) 3) 4 false (.split (.u 4 0) (.need (.prim [(W 0 0), (W 1 0)] none) (.indexAddr 44 (.tmp 14) (.tmp 15)) 0 false (.need (.prim [(W 5 0)] none) (.load 167 (.tmp 16)) 167 false RF)) (.ret [(.one (.c (.sr 1 2)))]))))
theorem EH : aM prog f29 (fun _ => none) [.v (some 6)] = QT := by kernel_rfl
def Rj : Tr := .need (.prim [(W 1 0), (W 5 0)] none) (.indexAddr 50 (.tmp 29) (.tmp 30)) 0 false (.need (.prim [(W 9 0)] (some 4)) (.load 49 (.tmp 31)) 49 false (.need (.call 103 [(W 5 0), (W 5 0)] [(some 4)]) (.call ⟨.value (.func 103), #[(.tmp 33), (.tmp 34)], #[3, 3]⟩) 49 false (.need (.call 102 [(.agg [(U 10 0), (U 10 1), (U 10 2), (U 10 3)]), (.agg [(U 11 0), (U 11 1), (U 11 2), (U 11 3)])] [(some 4)]) (.call ⟨.value (.func 102), #[(.tmp 32), (.tmp 35)], #[49, 49]⟩) 49 true (.need (.lit 4 [[(.u 12 0), (.u 12 1), (.u 12 2), (.u 12 3)]]) (.buildSlice 50 1 #[(0, (.tmp 36))]) 50 false (.need (.app 4 64 (some 6) none (some 13)) (.call ⟨.builtin .append, #[(.tmp 28), (.tmp 37)], #[50, 50]⟩) 50 false (.need (.prim [(W 5 0), (WK (1))] none) (.binOp .add 3 (.tmp 26) (.const (I3 (1))) 3) 3 false FX))))))
def MY : Tr := .need (.idx 10 (.u 38 0)) (.indexAddr 50 (.tmp 86) (.tmp 89)) 0 false (.need (.ldrow 10 (.u 38 0) 0 4 true) (.load 49 (.tmp 90)) 49 false (.need (.call 104 [(.agg [(U 37 0), (U 37 1), (U 37 2), (U 37 3)]), (.agg [(U 39 0), (U 39 1), (U 39 2), (U 39 3)])] [(some 4)]) (.call ⟨.value (.func 104), #[(.tmp 85), (.tmp 91)], #[49, 49]⟩) 49 false (.need (.call 104 [(.agg [(U 35 0), (U 35 1), (U 35 2), (U 35 3)]), (.agg [(U 40 0), (U 40 1), (U 40 2), (U 40 3)])] [(some 4)]) (.call ⟨.value (.func 104), #[(.tmp 80), (.tmp 92)], #[49, 49]⟩) 49 true (.need (.call 48 [(.agg [(U 19 0), (U 20 0), (U 21 0), (U 22 0)]), (.agg [(U 41 0), (U 41 1), (U 41 2), (U 41 3)])] [(some 4)]) (.call ⟨.value (.func 48), #[(.tmp 73), (.tmp 93)], #[49, 49]⟩) 49 true (.need (.prim [(W 18 0), (WK (1))] none) (.binOp .add 3 (.tmp 64) (.const (I3 (1))) 3) 3 false (.back 2 [(.w (W 43 0)), (.w (W 42 0)), (.w (W 42 1)), (.w (W 42 2)), (.w (W 42 3))]))))))
def OF : Tr := .need (.prim [(W 0 0), (W 12 0)] none) (.indexAddr 44 (.tmp 74) (.tmp 75)) 0 false (.need (.prim [(W 32 0)] none) (.load 167 (.tmp 76)) 167 false (.need (.prim [(W 33 0), (W 18 0)] none) (.indexAddr 167 (.tmp 77) (.tmp 78)) 0 false (.need (.prim [(W 34 0)] (some 4)) (.load 49 (.tmp 79)) 49 false (.need (.prim [(W 9 0), (W 30 0)] none) (.binOp .sub 3 (.tmp 81) (.tmp 82) 3) 3 false (.need (.call 103 [(W 36 0), (W 12 0)] [(some 4)]) (.call ⟨.value (.func 103), #[(.tmp 83), (.tmp 84)], #[3, 3]⟩) 49 false (.need (.prim [(W 9 0), (W 30 0)] none) (.binOp .sub 3 (.tmp 87) (.tmp 88) 3) 3 false MY))))))
def OQ : Tr := .split (.u 28 0) (.need (.prim [(W 4 0), (W 18 0)] none) (.binOp .add 3 (.tmp 66) (.tmp 67) 3) 3 false (.need (.prim [(W 29 0), (W 12 0)] none) (.binOp .sub 3 (.tmp 68) (.tmp 69) 3) 3 false (.need (.prim [(W 30 0), (WK (0))] none) (.binOp .gtr 3 (.tmp 71) (.const (I3 (0))) 3) 4 false (.split (.u 31 0) OF (.need (.prim [(W 18 0), (WK (1))] none) (.binOp .add 3 (.tmp 64) (.const (I3 (1))) 3) 3 false (.back 2 [(.w (W 32 0)), (.w (W 19 0)), (.w (W 20 0)), (.w (W 21 0)), (.w (W 22 0))])))))) (.need (.prim [(W 12 0), (WK (1))] none) (.binOp .add 3 (.tmp 48) (.const (I3 (1))) 3) 3 false (.back 1 [(.w (W 29 0)), (.w (W 19 0)), (.w (W 20 0)), (.w (W 21 0)), (.w (W 22 0))]))
def Nr : Tr := .need (.prim [(W 9 0), (W 4 0)] none) (.binOp .sub 3 (.tmp 51) (.tmp 52) 3) 3 false (.need (.prim [(W 18 0), (W 23 0)] none) (.binOp .leq 3 (.tmp 50) (.tmp 53) 3) 4 false (.split (.u 24 0) (.need (.prim [(W 0 0), (W 12 0)] none) (.indexAddr 44 (.tmp 57) (.tmp 58)) 0 false (.need (.prim [(W 25 0)] none) (.load 167 (.tmp 59)) 167 false (.need (.prim [(W 26 0)] none) (.call ⟨.builtin .len, #[(.tmp 60)], #[167]⟩) 3 false (.need (.prim [(W 18 0), (W 27 0)] none) (.binOp .lss 3 (.tmp 56) (.tmp 61) 3) 4 false OQ)))) (.need (.prim [(W 12 0), (WK (1))] none) (.binOp .add 3 (.tmp 48) (.const (I3 (1))) 3) 3 false (.back 1 [(.w (W 25 0)), (.w (W 19 0)), (.w (W 20 0)), (.w (W 21 0)), (.w (W 22 0))]))))
def Mn : Tr := .need (.call 104 [(.agg [(U 21 0), (U 21 1), (U 21 2), (U 21 3)]), (.agg [(U 22 0), (U 22 1), (U 22 2), (U 22 3)])] [(some 4)]) (.call ⟨.value (.func 104), #[(.tmp 102), (.tmp 105)], #[49, 49]⟩) 49 false (.need (.call 102 [(.agg [(U 13 0), (U 14 0), (U 15 0), (U 16 0)]), (.agg [(U 23 0), (U 23 1), (U 23 2), (U 23 3)])] [(some 4)]) (.call ⟨.value (.func 102), #[(.tmp 96), (.tmp 106)], #[49, 49]⟩) 49 false (.need (.call 105 [(.agg [(U 24 0), (U 24 1), (U 24 2), (U 24 3)])] [(some 4)]) (.call ⟨.value (.func 105), #[(.tmp 107)], #[49]⟩) 49 true (.need (.lit 4 [[(.u 25 0), (.u 25 1), (.u 25 2), (.u 25 3)]]) (.buildSlice 50 1 #[(0, (.tmp 108))]) 50 false (.need (.app 4 64 (some 10) none (some 26)) (.call ⟨.builtin .append, #[(.tmp 95), (.tmp 109)], #[50, 50]⟩) 50 false (.need (.prim [(W 9 0), (WK (1))] none) (.binOp .add 3 (.tmp 43) (.const (I3 (1))) 3) 3 false (.back 0 [(.w (W 28 0)), (.row 27)]))))))
def MJ : Tr := .need (.prim [(W 12 0), (W 4 0)] none) (.binOp .leq 3 (.tmp 45) (.tmp 46) 3) 4 false (.split (.u 17 0) (.loop 2 [(.w (WK (0))), (.w (W 13 0)), (.w (W 14 0)), (.w (W 15 0)), (.w (W 16 0))] Nr) (.need (.prim [(W 0 0), (W 4 0)] none) (.indexAddr 44 (.tmp 97) (.tmp 98)) 0 false (.need (.prim [(W 18 0)] none) (.load 167 (.tmp 99)) 167 false (.need (.prim [(W 19 0), (WK (0))] none) (.indexAddr 167 (.tmp 100) (.const (I3 (0)))) 0 false (.need (.prim [(W 20 0)] (some 4)) (.load 49 (.tmp 101)) 49 false (.need (.call 103 [(W 9 0), (W 4 0)] [(some 4)]) (.call ⟨.value (.func 103), #[(.tmp 103), (.tmp 104)], #[3, 3]⟩) 49 false Mn))))))
def OY : Tr := .need (.idx 9 (.u 37 0)) (.indexAddr 50 (.tmp 86) (.tmp 89)) 0 false (.need (.ldrow 9 (.u 37 0) 0 4 true) (.load 49 (.tmp 90)) 49 false (.need (.call 104 [(.agg [(U 36 0), (U 36 1), (U 36 2), (U 36 3)]), (.agg [(U 38 0), (U 38 1), (U 38 2), (U 38 3)])] [(some 4)]) (.call ⟨.value (.func 104), #[(.tmp 85), (.tmp 91)], #[49, 49]⟩) 49 false (.need (.call 104 [(.agg [(U 34 0), (U 34 1), (U 34 2), (U 34 3)]), (.agg [(U 39 0), (U 39 1), (U 39 2), (U 39 3)])] [(some 4)]) (.call ⟨.value (.func 104), #[(.tmp 80), (.tmp 92)], #[49, 49]⟩) 49 true (.need (.call 48 [(.agg [(U 18 0), (U 19 0), (U 20 0), (U 21 0)]), (.agg [(U 40 0), (U 40 1), (U 40 2), (U 40 3)])] [(some 4)]) (.call ⟨.value (.func 48), #[(.tmp 73), (.tmp 93)], #[49, 49]⟩) 49 true (.need (.prim [(W 17 0), (WK (1))] none) (.binOp .add 3 (.tmp 64) (.const (I3 (1))) 3) 3 false (.back 2 [(.w (W 42 0)), (.w (W 41 0)), (.w (W 41 1)), (.w (W 41 2)), (.w (W 41 3))]))))))
def Mk : Tr := .need (.prim [(W 0 0), (W 11 0)] none) (.indexAddr 44 (.tmp 74) (.tmp 75)) 0 false (.need (.prim [(W 31 0)] none) (.load 167 (.tmp 76)) 167 false (.need (.prim [(W 32 0), (W 17 0)] none) (.indexAddr 167 (.tmp 77) (.tmp 78)) 0 false (.need (.prim [(W 33 0)] (some 4)) (.load 49 (.tmp 79)) 49 false (.need (.prim [(W 8 0), (W 29 0)] none) (.binOp .sub 3 (.tmp 81) (.tmp 82) 3) 3 false (.need (.call 103 [(W 35 0), (W 11 0)] [(some 4)]) (.call ⟨.value (.func 103), #[(.tmp 83), (.tmp 84)], #[3, 3]⟩) 49 false (.need (.prim [(W 8 0), (W 29 0)] none) (.binOp .sub 3 (.tmp 87) (.tmp 88) 3) 3 false OY))))))
def OL : Tr := .split (.u 27 0) (.need (.prim [(W 4 0), (W 17 0)] none) (.binOp .add 3 (.tmp 66) (.tmp 67) 3) 3 false (.need (.prim [(W 28 0), (W 11 0)] none) (.binOp .sub 3 (.tmp 68) (.tmp 69) 3) 3 false (.need (.prim [(W 29 0), (WK (0))] none) (.binOp .gtr 3 (.tmp 71) (.const (I3 (0))) 3) 4 false (.split (.u 30 0) Mk (.need (.prim [(W 17 0), (WK (1))] none) (.binOp .add 3 (.tmp 64) (.const (I3 (1))) 3) 3 false (.back 2 [(.w (W 31 0)), (.w (W 18 0)), (.w (W 19 0)), (.w (W 20 0)), (.w (W 21 0))])))))) (.need (.prim [(W 11 0), (WK (1))] none) (.binOp .add 3 (.tmp 48) (.const (I3 (1))) 3) 3 false (.back 1 [(.w (W 28 0)), (.w (W 18 0)), (.w (W 19 0)), (.w (W 20 0)), (.w (W 21 0))]))
def MO : Tr := .need (.prim [(W 8 0), (W 4 0)] none) (.binOp .sub 3 (.tmp 51) (.tmp 52) 3) 3 false (.need (.prim [(W 17 0), (W 22 0)] none) (.binOp .leq 3 (.tmp 50) (.tmp 53) 3) 4 false (.split (.u 23 0) (.need (.prim [(W 0 0), (W 11 0)] none) (.indexAddr 44 (.tmp 57) (.tmp 58)) 0 false (.need (.prim [(W 24 0)] none) (.load 167 (.tmp 59)) 167 false (.need (.prim [(W 25 0)] none) (.call ⟨.builtin .len, #[(.tmp 60)], #[167]⟩) 3 false (.need (.prim [(W 17 0), (W 26 0)] none) (.binOp .lss 3 (.tmp 56) (.tmp 61) 3) 4 false OL)))) (.need (.prim [(W 11 0), (WK (1))] none) (.binOp .add 3 (.tmp 48) (.const (I3 (1))) 3) 3 false (.back 1 [(.w (W 24 0)), (.w (W 18 0)), (.w (W 19 0)), (.w (W 20 0)), (.w (W 21 0))]))))
def Lv : Tr := .need (.call 104 [(.agg [(U 20 0), (U 20 1), (U 20 2), (U 20 3)]), (.agg [(U 21 0), (U 21 1), (U 21 2), (U 21 3)])] [(some 4)]) (.call ⟨.value (.func 104), #[(.tmp 102), (.tmp 105)], #[49, 49]⟩) 49 false (.need (.call 102 [(.agg [(U 12 0), (U 13 0), (U 14 0), (U 15 0)]), (.agg [(U 22 0), (U 22 1), (U 22 2), (U 22 3)])] [(some 4)]) (.call ⟨.value (.func 102), #[(.tmp 96), (.tmp 106)], #[49, 49]⟩) 49 false (.need (.call 105 [(.agg [(U 23 0), (U 23 1), (U 23 2), (U 23 3)])] [(some 4)]) (.call ⟨.value (.func 105), #[(.tmp 107)], #[49]⟩) 49 true (.need (.lit 4 [[(.u 24 0), (.u 24 1), (.u 24 2), (.u 24 3)]]) (.buildSlice 50 1 #[(0, (.tmp 108))]) 50 false (.need (.app 4 64 (some 9) none (some 25)) (.call ⟨.builtin .append, #[(.tmp 95), (.tmp 109)], #[50, 50]⟩) 50 false (.need (.prim [(W 8 0), (WK (1))] none) (.binOp .add 3 (.tmp 43) (.const (I3 (1))) 3) 3 false (.back 0 [(.w (W 27 0)), (.row 26)]))))))
def NK : Tr := .need (.prim [(W 11 0), (W 4 0)] none) (.binOp .leq 3 (.tmp 45) (.tmp 46) 3) 4 false (.split (.u 16 0) (.loop 2 [(.w (WK (0))), (.w (W 12 0)), (.w (W 13 0)), (.w (W 14 0)), (.w (W 15 0))] MO) (.need (.prim [(W 0 0), (W 4 0)] none) (.indexAddr 44 (.tmp 97) (.tmp 98)) 0 false (.need (.prim [(W 17 0)] none) (.load 167 (.tmp 99)) 167 false (.need (.prim [(W 18 0), (WK (0))] none) (.indexAddr 167 (.tmp 100) (.const (I3 (0)))) 0 false (.need (.prim [(W 19 0)] (some 4)) (.load 49 (.tmp 101)) 49 false (.need (.call 103 [(W 8 0), (W 4 0)] [(some 4)]) (.call ⟨.value (.func 103), #[(.tmp 103), (.tmp 104)], #[3, 3]⟩) 49 false Lv))))))
def Qh : Tr := .split (.u 7 0) (.need (.prim [(W 5 0), (W 2 0)] none) (.binOp .lss 3 (.tmp 22) (.tmp 23) 3) 4 false (.split (.u 8 0) Rj (.loop 0 [(.w (W 4 0)), (.row 6)] (.need (.prim [(W 9 0), (W 2 0)] none) (.binOp .lss 3 (.tmp 40) (.tmp 41) 3) 4 false (.split (.u 11 0) (.loop 1 [(.w (WK (0))), (.w (WK (0))), (.w (.one (.c (.k (.slice none 0 0))))), (.w (WK (0))), (.w (.one (.c (.k (.slice none 0 0)))))] MJ) (.ret [(.one (.c (.sr 4 10)))])))))) (.loop 0 [(.w (W 4 0)), (.row 6)] (.need (.prim [(W 8 0), (W 2 0)] none) (.binOp .lss 3 (.tmp 40) (.tmp 41) 3) 4 false (.split (.u 10 0) (.loop 1 [(.w (WK (0))), (.w (WK (0))), (.w (.one (.c (.k (.slice none 0 0))))), (.w (WK (0))), (.w (.one (.c (.k (.slice none 0 0)))))] NK) (.ret [(.one (.c (.sr 4 9)))]))))
def Rh : Tr := .need (.prim [(W 0 0)] none) (.call ⟨.builtin .len, #[(.tmp 15)], #[44]⟩) 3 false (.need (.prim [(W 3 0), (WK (1))] none) (.binOp .sub 3 (.tmp 16) (.const (I3 (1))) 3) 3 false (.loop 0 [(.w (WK (0))), .nilrow] (.need (.prim [(W 5 0), (W 4 0)] none) (.binOp .lss 3 (.tmp 18) (.tmp 19) 3) 4 false Qh)))
theorem GN : aM prog f28 (fun _ => none) [.v none, .v none, .v none] = Rh := by kernel_rfl
def FD (e : List (List RQ)) (c : RQ) : List (List RQ) := e.map fun p => fL p [c, .of ((1 : Int) : Rat)] p.length
theorem Fm (e : List (List RQ)) (c : RQ) (y : List RQ) (F : Nat) (C : ∀ p ∈ e, Fs F p [c, .of ((1 : Int) : Rat)] ∧ p.length ≤ 1048576) (hF : F ≤ 100000000) (h64 : 64 ≤ F) (hs : e.length < 1048576) : aN prog 29 [(fR e c y : aH)] (.ret [.one (eR (FD e c))]) := by
 refine aD (args := [.v (some 6)]) (ins := [.v (fR e c y)]) (hints := (fun _ => none)) fo (by kernel_rfl) func29 ⟨rfl, trivial⟩ ?_
 rw [EH]
 dsimp only [List.map, In.env, aA, aB]
 refine aY {i : Nat // i ≤ e.length} (fun g => [.one (.int .i64 g.1), .rows ((FD (e.take g.1) c).map cR)]) (fun g => e.length - g.1) ⟨0, Nat.zero_le _⟩ aL.rfl (fun _ => rfl) ?_
 rintro ⟨i, hi⟩
 dsimp only [aA, aB] at hi ⊢
 have hsl : (FD (e.take i) c).length = i := by rw [FD, List.length_map, List.length_take]; omega
 refine vn (aK qI (List.length_map _)) rfl ?_
 dsimp only [aA, aB]
 refine vn aU rfl ?_
 dsimp only [aA, aB]
 refine vs _ rfl (fun h3 => ?_) (fun h3 => ?_)
 ·obtain ⟨p, hp⟩ : ∃ p, e[i]? = some p := ⟨_, List.getElem?_eq_getElem (by omega)⟩
  obtain ⟨hC, hl⟩ := C p (List.mem_of_getElem? hp)
  refine vn (aR qI (by omega) (by omega) hp) rfl ?_
  dsimp only [aA, aB]
  refine vn (bA wZ) rfl ?_
  dsimp only [aA, aB]
  refine aC (jH 1 (by omega) (by omega)) rfl ?_
  dsimp only [aA, aB]
  refine bC (us := rR [c, .of ((1 : Int) : Rat)]) rfl ?_
  dsimp only [aA, aB]
  refine aC (Fo p [c, .of ((1 : Int) : Rat)] F hC hF h64 (by simp only [List.length_cons, List.length_nil]; omega) (by omega)) rfl ?_
  dsimp only [aA, aB]
  refine bC (us := [cR (fL p [c, .of ((1 : Int) : Rat)] p.length)]) rfl ?_
  dsimp only [aA, aB]
  refine lK (xs := FD (e.take i) c) (x := fL p [c, .of ((1 : Int) : Rat)] p.length) (f := cR) rfl rfl (by omega) (by simp only [maxLen]; omega) ?_
  rw [show FD (e.take i) c ++ [fL p [c, .of ((1 : Int) : Rat)] p.length] = FD (e.take (i + 1)) c from iZ (f := fun p : List RQ => fL p [c, .of ((1 : Int) : Rat)] p.length) hp]
  dsimp only [aA, aB]
  refine vn (aE (by omega) (by omega)) rfl ?_
  dsimp only [aA, aB]
  exact aO rfl ⟨⟨i + 1, by omega⟩, aL.rfl, by show e.length - (i + 1) < e.length - i; omega⟩
 rw [show i = e.length by omega, List.take_length]; exact aJ rfl
theorem Fit.VR {B : Nat} {q : Rat} (h : Fit B q) : Fit B (-q) := ⟨by show (-q.num).natAbs < _; rw [Int.natAbs_neg]; exact h.1, h.2⟩
theorem Bu {B : Nat} {q : List (List Rat)} {m : Nat} {lead : Rat} {y : List Rat} {N : Nat} (C : nV B q m lead y N) : ∀ {n : Nat}, n ≤ N → ∀ {b : Rat}, b ∈ aW q m lead y n → Fit B b
 | 0, _, b, hb => by cases hb
 | n + 1, hn, b, hb => by
   rw [aW] at hb
   rcases List.mem_append.1 hb with h | h
   ·exact Bu C (by omega) h
   ·rw [List.mem_singleton.1 h]; exact C.fa n (by omega)
set_option maxHeartbeats 4000000 in
theorem HC (e : List (List RQ)) (y : List RQ) (n N B m : Nat) (lead : RQ) (p0 : List RQ) (hem : e[m]? = some p0) (hp0 : p0[0]? = some lead) (hel : e.length = m + 1) (C : nV B (fI e) m lead.q (y.map RQ.q) N) (hnN : n ≤ N) (hN : N ≤ 1048576) (hm : m ≤ 64) (hmN : m ≤ N) (hB : B ≤ 100000000) (h64 : 64 ≤ B) (hyl : y.length = m) (hpl : ∀ p ∈ e, p.length ≤ 1048576) (hl0 : lead.q ≠ 0) : aN prog 28 [(.one (eR e) : aH), (.one (sR y) : aH), (.one (.int .i64 n) : aH)] (.ret [.one (sR ((aW (fI e) m lead.q (y.map RQ.q) n).map RQ.of))]) := by
 refine aD (args := [.v none, .v none, .v none]) (ins := [.v (.one (eR e)), .v (.one (sR y)), .v (.one (.int .i64 n))]) (hints := (fun _ => none)) fo (by kernel_rfl) func28 ⟨rfl, rfl, rfl, trivial⟩ ?_
 rw [GN]
 dsimp only [List.map, In.env, aA, aB]
 have hlen := fun k => bU (fI e) m lead.q (y.map RQ.q) k
 have hfl := fun k (hk : k < m) => C.ffac k hk
 have hsn : ∀ k, (aW (fI e) m lead.q (y.map RQ.q) k).map RQ.of ++ [.of (fE (fI e) m lead.q (y.map RQ.q) k (aW (fI e) m lead.q (y.map RQ.q) k))] = (aW (fI e) m lead.q (y.map RQ.q) (k + 1)).map RQ.of := fun k => by rw [aW, List.map_append]; rfl
 refine vn (aK qI (List.length_map _)) rfl ?_
 dsimp only [aA, aB]
 refine vn (aG (by omega) (by omega)) rfl ?_
 rw [show (e.length : Int) - 1 = (m : Int) by omega]
 dsimp only [aA, aB]
 refine aY {i : Nat // i ≤ m ∧ i ≤ n} (fun g => [.one (.int .i64 g.1), .rows (rR ((aW (fI e) m lead.q (y.map RQ.q) g.1).map RQ.of))]) (fun g => m - g.1) ⟨0, Nat.zero_le _, Nat.zero_le _⟩ aL.rfl (fun _ => rfl) ?_
 rintro ⟨i, hi, hin⟩
 dsimp only [aA, aB] at hi hin ⊢
 have hli := hlen i
 refine vn aU rfl ?_
 dsimp only [aA, aB]
 refine vs _ rfl (fun h4 => ?_) (fun h4 => ?_)
 ·refine vn aU rfl ?_
  dsimp only [aA, aB]
  refine vs _ rfl (fun h6 => ?_) (fun h6 => ?_)
  ·obtain ⟨yi, hyi⟩ : ∃ yi, y[i]? = some yi := ⟨_, List.getElem?_eq_getElem (by omega)⟩
   have him : i < m := by omega
   have hyg : (y.map RQ.q).getD i 0 = yi.q := by rw [List.getD_eq_getElem?_getD, List.getElem?_map, hyi]; rfl
   have hyf : Fit B yi.q := C.fy _ (List.mem_map_of_mem (List.mem_of_getElem? hyi))
   have hff := hfl i him
   refine vn (aR Pa (by omega) (by omega) hyi) rfl ?_
   dsimp only [aA, aB]
   refine vn (cB uW (by decide) (by simp) (.inl rfl)) rfl ?_
   dsimp only [aA, aB]
   refine aC (qK (i : Int) i B (by omega) (by omega) (by omega) (by omega) h64 hff) rfl ?_
   dsimp only [aA, aB]
   refine aC (KI yi (.of ((bJ i i : Int) : Rat)) B B (Lu (jE (Int.le_refl _))) hyf (hff i (Nat.le_refl _)) (by omega)) rfl ?_
   rw [show yi.q / (RQ.of ((bJ i i : Int) : Rat)).q = fE (fI e) m lead.q (y.map RQ.q) i (aW (fI e) m lead.q (y.map RQ.q) i) by rw [fE, if_pos him, hyg]; rfl]
   dsimp only [aA, aB]
   refine bC (us := rR [.of (fE (fI e) m lead.q (y.map RQ.q) i (aW (fI e) m lead.q (y.map RQ.q) i))]) rfl ?_
   dsimp only [aA, aB]
   refine lK (xs := (aW (fI e) m lead.q (y.map RQ.q) i).map RQ.of) (x := .of (fE (fI e) m lead.q (y.map RQ.q) i (aW (fI e) m lead.q (y.map RQ.q) i))) (f := rC) rfl rfl (by rw [List.length_map]; omega) (by rw [List.length_map]; simp only [maxLen]; omega) ?_
   rw [hsn]
   dsimp only [aA, aB]
   refine vn (aE (by omega) (by omega)) rfl ?_
   dsimp only [aA, aB]
   exact aO rfl ⟨⟨i + 1, by omega, by omega⟩, aL.rfl, by show m - (i + 1) < m - i; omega⟩
  refine aY Unit (fun _ => [.one (.int .i64 m), .rows (rR ((aW (fI e) m lead.q (y.map RQ.q) i).map RQ.of))]) (fun _ => 0) () aL.rfl (fun _ => rfl) ?_
  rintro ⟨⟩
  dsimp only [aA, aB]
  refine vn aU rfl ?_
  dsimp only [aA, aB]
  refine vs _ rfl (fun h17 => ?_) (fun h17 => ?_)
  ·exfalso; omega
  rw [show n = i by omega]; exact aJ rfl
 have him : i = m := by omega
 subst him
 refine aY {j : Nat // i ≤ j ∧ j ≤ n} (fun g => [.one (.int .i64 g.1), .rows (rR ((aW (fI e) i lead.q (y.map RQ.q) g.1).map RQ.of))]) (fun g => n - g.1) ⟨i, Nat.le_refl _, hin⟩ aL.rfl (fun _ => rfl) ?_
 rintro ⟨j, hij, hjn⟩
 dsimp only [aA, aB] at hij hjn ⊢
 have hlj := hlen j
 refine vn aU rfl ?_
 dsimp only [aA, aB]
 refine vs _ rfl (fun h69 => ?_) (fun h69 => ?_)
 ·have hjn' : j < n := by omega
  have hfx := fun a k h1 h2 => C.fx j a k (by omega) hij h1 h2
  have hel2 : (fI e).length = i + 1 := by rw [pY, hel]
  generalize hA : aW (fI e) i lead.q (y.map RQ.q) j = A at *
  refine aY {g : Nat × RQ // g.1 ≤ i + 1 ∧ g.2.q = -(outer (fI e) A i j g.1)} (fun g => (.one (.int .i64 g.1.1) : aH) :: (rC g.1.2).map aH.one) (fun g => i + 1 - g.1.1) ⟨(0, .nil), Nat.zero_le _, by show (0 : Rat) = -(0 : Rat); grind⟩ ⟨aH.Sub.same, Dd.1, Dd.2.1, Dd.2.2.1, Dd.2.2.2.1, trivial⟩ (fun _ => rfl) ?_
  rintro ⟨⟨a, r⟩, ha, hr⟩
  dsimp only [aA, aB, List.map] at ha hr ⊢
  refine vn jA rfl ?_
  dsimp only [aA, aB]
  refine vs _ rfl (fun h72 => ?_) (fun h72 => ?_)
  ·obtain ⟨p, hp⟩ : ∃ p, e[a]? = some p := ⟨_, List.getElem?_eq_getElem (by omega)⟩
   have hpl' := hpl p (List.mem_of_getElem? hp)
   have hqa : (fI e).getD a [] = p.map RQ.q := by rw [List.getD_eq_getElem?_getD, fI, List.getElem?_map, hp]; rfl
   have hfxa := fun k h2 => hfx a k (by omega) h2
   rw [hqa, List.length_map] at hfxa
   refine aY {g : Nat × RQ // g.1 ≤ min p.length (j - i + 1) ∧ g.2.q = -(inner (p.map RQ.q) A i j a (outer (fI e) A i j a) g.1)} (fun g => (.one (.int .i64 g.1.1) : aH) :: (rC g.1.2).map aH.one) (fun g => min p.length (j - i + 1) - g.1.1) ⟨(0, r), Nat.zero_le _, hr⟩ aL.rfl (fun _ => rfl) ?_
   rintro ⟨⟨k, s⟩, hk, hs⟩
   dsimp only [aA, aB, List.map] at hk hs ⊢
   refine vn (aG (by omega) (by omega)) rfl ?_
   dsimp only [aA, aB]
   refine vn jA rfl ?_
   dsimp only [aA, aB]
   refine vs _ rfl (fun h76 => ?_) (fun h76 => ?_)
   ·refine vn (aR qI (by omega) (by omega) hp) rfl ?_
    dsimp only [aA, aB]
    refine vn (bA wZ) rfl ?_
    dsimp only [aA, aB]
    refine vn (aK eJ (List.length_map _)) rfl ?_
    dsimp only [aA, aB]
    refine vn aU rfl ?_
    dsimp only [aA, aB]
    refine vs _ rfl (fun h81 => ?_) (fun h81 => ?_)
    ·have hkp : k < p.length := by omega
     have hkj : k ≤ j - i := by omega
     obtain ⟨x, hx⟩ : ∃ x, p[k]? = some x := ⟨_, List.getElem?_eq_getElem hkp⟩
     have hxg : (p.map RQ.q).getD k 0 = x.q := by rw [List.getD_eq_getElem?_getD, List.getElem?_map, hx]; rfl
     have hxf : Fit B x.q := C.fq _ (by rw [fI]; exact List.mem_map_of_mem (List.mem_of_getElem? hp)) _ (List.mem_map_of_mem (List.mem_of_getElem? hx))
     refine vn (aE (by omega) (by omega)) rfl ?_
     dsimp only [aA, aB]
     refine vn (aG (by omega) (by omega)) rfl ?_
     dsimp only [aA, aB]
     refine vn cT rfl ?_
     dsimp only [aA, aB]
     refine vs _ rfl (fun h85 => ?_) (fun h85 => ?_)
     ·have hpos : a < i + k := by omega
      obtain ⟨t, ht⟩ : ∃ t, j - (i + k - a) = t := ⟨_, rfl⟩
      have htj : (j : Int) - ((i : Int) + (k : Int) - (a : Int)) = (t : Int) := by omega
      have hAl : A.length = j := hlj
      obtain ⟨at', hat⟩ : ∃ z, A[t]? = some z := ⟨_, List.getElem?_eq_getElem (by omega)⟩
      have hmapl : (A.map RQ.of).length = j := by rw [List.length_map]; exact hAl
      have hag : A.getD (j - (i + k - a)) 0 = at' := by rw [ht, List.getD_eq_getElem?_getD, hat]; rfl
      refine vn (aR qI (by omega) (by omega) hp) rfl ?_
      dsimp only [aA, aB]
      refine vn (bA wZ) rfl ?_
      dsimp only [aA, aB]
      refine vn (aR eJ (by omega) (by omega) hx) rfl ?_
      dsimp only [aA, aB]
      refine vn (cB uW (by decide) (by simp) (.inl rfl)) rfl ?_
      dsimp only [aA, aB]
      refine vn (aG (by omega) (by omega)) rfl ?_
      rw [htj]
      dsimp only [aA, aB]
      have hfz : ∀ w, w ≤ a → Fit B ((bJ (t : Int) w : Int) : Rat) := fun w hw => C.ffall j a (by omega) (by omega) (t : Int) (by omega) w hw
      refine aC (qK (t : Int) a B (by omega) (by omega) (by omega) (by omega) h64 hfz) rfl ?_
      dsimp only [aA, aB]
      refine vn (aG (by omega) (by omega)) rfl ?_
      rw [htj]
      dsimp only [aA, aB]
      refine bW rfl rfl (by omega) (by first | omega | (rw [List.length_set]; omega)) ?_
      have hrow : (A.map RQ.of)[((t : Nat) : Int).toNat]? = some (RQ.of at') := by rw [Int.toNat_natCast, List.getElem?_map, hat]; rfl
      refine Hx rfl rfl (by omega) (by omega) hrow (.inl rfl) rfl ?_
      dsimp only [aA, aB, HH, List.drop, List.take]
      have haf : Fit B at' := by
       have hmem := List.mem_of_getElem? hat
       rw [← hA] at hmem
       exact Bu C (by omega) hmem
      refine aC (oN (.of ((bJ (t : Int) a : Int) : Rat)) (.of at') B B (hfz a (Nat.le_refl _)) haf (by omega)) rfl ?_
      dsimp only [aA, aB]
      refine aC (oN x (.of ((RQ.of ((bJ (t : Int) a : Int) : Rat)).q * (RQ.of at').q)) B (B + B) hxf ((hfz a (Nat.le_refl _)).mul haf) (by omega)) rfl ?_
      dsimp only [aA, aB]
      have hsf : Fit B s.q := by rw [hs]; exact Fit.VR (hfxa k hk)
      refine aC (yH s _ B (B + (B + B)) hsf (hxf.mul ((hfz a (Nat.le_refl _)).mul haf)) (by omega)) rfl ?_
      dsimp only [aA, aB]
      refine vn (aE (by omega) (by omega)) rfl ?_
      dsimp only [aA, aB]
      exact aO rfl ⟨⟨(k + 1, _), by dsimp only; omega, by
       show s.q + x.q * (((bJ (t : Int) a : Int) : Rat) * at') = _
       dsimp only
       rw [hs, inner, if_pos hpos, hxg, htj, hag]
       grind⟩, aL.rfl, by show min p.length (j - i + 1) - (k + 1) < min p.length (j - i + 1) - k; omega⟩
     refine vn (aE (by omega) (by omega)) rfl ?_
     dsimp only [aA, aB]
     exact aO rfl ⟨⟨(k + 1, s), by dsimp only; omega, by
      dsimp only
      rw [hs, inner, if_neg (by omega)]⟩, aL.rfl, by show min p.length (j - i + 1) - (k + 1) < min p.length (j - i + 1) - k; omega⟩
    refine vn (aE (by omega) (by omega)) rfl ?_
    dsimp only [aA, aB]
    exact aO rfl ⟨⟨(a + 1, s), by dsimp only; omega, by
     dsimp only
     rw [hs, outer, hqa, List.length_map, show min p.length (j - i + 1) = k by omega]⟩, aL.rfl, by show i + 1 - (a + 1) < i + 1 - a; omega⟩
   refine vn (aE (by omega) (by omega)) rfl ?_
   dsimp only [aA, aB]
   exact aO rfl ⟨⟨(a + 1, s), by dsimp only; omega, by
    dsimp only
    rw [hs, outer, hqa, List.length_map, show min p.length (j - i + 1) = k by omega]⟩, aL.rfl, by show i + 1 - (a + 1) < i + 1 - a; omega⟩
  have hai : a = i + 1 := by omega
  subst hai
  have hqi : (fI e).getD i [] = p0.map RQ.q := by rw [List.getD_eq_getElem?_getD, fI, List.getElem?_map, hem]; rfl
  have hro : Fit B r.q := by
   rw [hr]
   refine Fit.VR ?_
   have := hfx i (min ((fI e).getD i []).length (j - i + 1)) (by omega) (Nat.le_refl _)
   exact this
  have hfz : ∀ w, w ≤ i → Fit B ((bJ (j : Int) w : Int) : Rat) := fun w hw => C.ffall j i (by omega) (by omega) (j : Int) (by omega) w hw
  have hfn : ((bJ (j : Int) i : Int) : Rat) ≠ 0 := Lu (jE (by omega))
  refine vn (aR qI (by omega) (by omega) hem) rfl ?_
  dsimp only [aA, aB]
  refine vn (bA wZ) rfl ?_
  dsimp only [aA, aB]
  refine vn (aR eJ (by omega) (by omega) hp0) rfl ?_
  dsimp only [aA, aB]
  refine vn (cB uW (by decide) (by simp) (.inl rfl)) rfl ?_
  dsimp only [aA, aB]
  refine aC (qK (j : Int) i B (by omega) (by omega) (by omega) (by omega) h64 hfz) rfl ?_
  dsimp only [aA, aB]
  refine aC (oN lead (.of ((bJ (j : Int) i : Int) : Rat)) B B C.flead (hfz i (Nat.le_refl _)) (by omega)) rfl ?_
  dsimp only [aA, aB]
  refine aC (KI r (.of (lead.q * (RQ.of ((bJ (j : Int) i : Int) : Rat)).q)) B (B + B) (fun e0 => by
   rcases Rat.mul_eq_zero.1 e0 with e0 | e0
   ·exact hl0 e0
   ·exact hfn e0) hro (C.flead.mul (hfz i (Nat.le_refl _))) (by omega)) rfl ?_
  dsimp only [aA, aB]
  refine aC (QC _) rfl ?_
  rw [show -(RQ.of (r.q / (RQ.of (lead.q * (RQ.of ((bJ (j : Int) i : Int) : Rat)).q)).q)).q = fE (fI e) i lead.q (y.map RQ.q) j A by
   show -(r.q / (lead.q * ((bJ (j : Int) i : Int) : Rat))) = _
   rw [fE, if_neg (by omega), hel2, hr]
   rw [Rat.div_def, Rat.div_def]
   grind]
  dsimp only [aA, aB]
  refine bC (us := rR [.of (fE (fI e) i lead.q (y.map RQ.q) j A)]) rfl ?_
  dsimp only [aA, aB]
  refine lK (xs := A.map RQ.of) (x := .of (fE (fI e) i lead.q (y.map RQ.q) j A)) (f := rC) rfl rfl (by rw [List.length_map]; omega) (by rw [List.length_map]; simp only [maxLen]; omega) ?_
  have hsnj := hsn j
  rw [hA] at hsnj
  rw [hsnj]
  dsimp only [aA, aB]
  refine vn (aE (by omega) (by omega)) rfl ?_
  dsimp only [aA, aB]
  exact aO rfl ⟨⟨j + 1, by omega, by omega⟩, aL.rfl, by show n - (j + 1) < n - j; omega⟩
 rw [show n = j by omega]; exact aJ rfl
end Go.Sy
namespace Go.Sy
open Go Go.Proofs Tryz Ord
theorem JU (a b : List RQ) : (Eb a b).map RQ.q = Bo (a.map RQ.q) (b.map RQ.q) := by
 rw [Eb, mO, Bo, List.length_map, List.length_map, tF, List.map_map]
 rfl
theorem GF (x : Rat) (a b : List RQ) : ev ((Eb a b).map RQ.q) x = ev (a.map RQ.q) x + ev (b.map RQ.q) x := by rw [JU, Fw]
theorem Ay (x : Rat) (p : List RQ) (c : Rat) : ev ((dA (dH p c)).map RQ.q) x = ev (p.map RQ.q) x * c := by
 rw [mO, pQ, dH, List.map_map, show (RQ.q ∘ fun a : RQ => RQ.of (a.q * c)) = (fun a => a * c) ∘ RQ.q from rfl, ← List.map_map, EP]
theorem FC (x : Rat) (a b : List RQ) : ∀ i, i ≤ b.length → ev ((mulR a b i).map RQ.q) x = ev (a.map RQ.q) x * ev ((b.map RQ.q).take i) x
 | 0, _ => by rw [mulR, List.take_zero]; show (0 : Rat) = _; rw [dF]; grind
 | i + 1, hi => by
   obtain ⟨z, hz⟩ : ∃ z, b[i]? = some z := ⟨_, List.getElem?_eq_getElem (by omega)⟩
   have hz' : (b.map RQ.q)[i]? = some z.q := by rw [List.getElem?_map, hz]; rfl
   rw [mulR, GF, FC x a b i (by omega), List.map_append, Ag, List.map_replicate, show RQ.q .nil = 0 from rfl, EJ, List.length_replicate, Ay, iG hz, iP hz']
   grind
theorem FU (x : Rat) (q : List RQ) : ∀ i, ev ((lV q i).map RQ.q) x = ev (q.map RQ.q) x ^ i
 | 0 => by
   rw [lV, mO, pQ, Rat.pow_zero]
   show ev [((1 : Int) : Rat)] x = 1
   rw [bF, dF]; grind
 | i + 1 => by
   rw [lV, FC x _ q q.length (Nat.le_refl _), FU x q i, Rat.pow_succ, List.take_of_length_le (by rw [List.length_map]; exact Nat.le_refl _)]
theorem Dv (x : Rat) (p q : List RQ) : ∀ i, i ≤ p.length → ev ((fL p q i).map RQ.q) x = ev ((p.map RQ.q).take i) (ev (q.map RQ.q) x)
 | 0, _ => by rw [fL, List.take_zero]; rfl
 | i + 1, hi => by
   obtain ⟨z, hz⟩ : ∃ z, p[i]? = some z := ⟨_, List.getElem?_eq_getElem (by omega)⟩
   have hz' : (p.map RQ.q)[i]? = some z.q := by rw [List.getElem?_map, hz]; rfl
   rw [fL, GF, Dv x p q i (by omega), Ay, FU, iG hz, iP hz']
   grind
theorem DE (p q : List RQ) : ∀ i, oB ((fL p q i).map RQ.q)
 | 0 => fun a h => by cases h
 | i + 1 => by rw [fL, JU]; exact wH _ _
theorem NS (p : List RQ) (c : RQ) : (fL p [c, .of ((1 : Int) : Rat)] p.length).map RQ.q = dB (p.map RQ.q) c.q := by
 refine JD (DE _ _ _) (jJ _ _) fun x => ?_
 rw [Dv x p _ p.length (Nat.le_refl _), List.take_of_length_le (by rw [List.length_map]; exact Nat.le_refl _), pZ]
 congr 1
 show ev [c.q, ((1 : Int) : Rat)] x = _
 rw [bF, bF, dF]; grind
theorem WE (e : List (List RQ)) (c : RQ) : fI (FD e c) = (fI e).map (dB · c.q) := by
 rw [fI, FD, fI, List.map_map, List.map_map]
 exact List.map_congr_left fun p _ => NS p c
end Go.Sy
