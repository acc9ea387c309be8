/- Equations: Check, CheckEquation; Valid, Right. The reference: Eval, Valid, Regular, Right; Alike.
-/
import Derived.Test.YtdmcadckdnnglaaGreatDoorTb
set_option linter.unusedVariables false
set_option linter.unusedSimpArgs false
namespace Go.Sy
open Go Go.Proofs Tryz Ord
def UD : Tr := .split (.u 5 0) (.need (.prim [(W 0 0), (W 4 0)] none) (.indexAddr 32 (.tmp 12) (.tmp 13)) 0 false (.need (.prim [(W 6 0)] none) (.load 72 (.tmp 14)) 72 false (.need (.callv (.u 1 0) [(W 7 0)] [none]) (.call ⟨.value (.tmp 11), #[(.tmp 15)], #[72]⟩) 4 true (.split (.u 8 0) (.ret [(W 4 0)]) (.need (.prim [(W 4 0), (WK (1))] none) (.binOp .add 3 (.tmp 8) (.const (I3 (1))) 3) 3 false (.back 0 [(.w (W 3 0)), (.w (W 9 0))])))))) (.ret [(WK (-1))])
def Xs : Tr := .need (.prim [(W 0 0)] none) (.call ⟨.builtin .len, #[(.tmp 6)], #[32]⟩) 3 false (.loop 0 [(.w (WK (0))), (.w (WK (0)))] (.need (.prim [(W 4 0), (W 2 0)] none) (.binOp .lss 3 (.tmp 8) (.tmp 7) 3) 0 false UD))
theorem Kz : aM prog f180 (fun _ => none) [.v none, .v none] = Xs := by kernel_rfl
def Vi : Tr := .need (.call 180 [(W 0 0), (W 1 0)] [none]) (.call ⟨.value (.func 180), #[(.tmp 5), (.tmp 6)], #[32, 165]⟩) 3 true (.need (.prim [(W 2 0), (WK (0))] none) (.binOp .geq 3 (.tmp 7) (.const (I3 (0))) 3) 4 false (.ret [(W 3 0)]))
theorem Ch : aM prog f93 (fun _ => none) [.v none, .v none] = Vi := by kernel_rfl
def Wz : Tr := .need (.call 95 [(W 0 0)] [none]) (.call ⟨.value (.func 95), #[(.tmp 3)], #[72]⟩) 3 true (.need (.prim [(W 1 0), (WK (40))] none) (.binOp .gtr 3 (.tmp 4) (.const (I3 (40))) 3) 4 false (.ret [(W 2 0)]))
theorem qZ : aM prog f94 (fun _ => none) [.v none] = Wz := by kernel_rfl
def xF : Tr := .ret [(WK (2))]
def Jf : Tr := .ret [(WK (0))]
def Tg : Tr := .need (.prim [(W 0 0)] none) (.call ⟨.builtin .len, #[(.tmp 17)], #[32]⟩) 3 false (.need (.prim [(W 6 0), (WK (1))] none) (.binOp .sub 3 (.tmp 18) (.const (I3 (1))) 3) 3 false (.need (.prim [(W 0 0), (W 7 0)] none) (.indexAddr 32 (.tmp 16) (.tmp 19)) 0 false (.need (.prim [(W 8 0)] none) (.load 72 (.tmp 20)) 72 false (.need (.call 95 [(W 9 0)] [none]) (.call ⟨.value (.func 95), #[(.tmp 21)], #[72]⟩) 3 false (.need (.prim [(W 10 0), (WK (0))] none) (.binOp .lss 3 (.tmp 22) (.const (I3 (0))) 3) 4 false (.split (.u 11 0) xF Jf))))))
def Vv : Tr := .need (.prim [(W 1 0), (WK (2))] none) (.binOp .lss 3 (.tmp 4) (.const (I3 (2))) 3) 4 false (.split (.u 2 0) xF (.need (.prim [(W 0 0)] none) (.call ⟨.builtin .len, #[(.tmp 7)], #[32]⟩) 3 false (.need (.prim [(W 3 0), (WK (5))] none) (.binOp .gtr 3 (.tmp 8) (.const (I3 (5))) 3) 4 false (.split (.u 4 0) xF (.need (.call 93 [(W 0 0), (.one (.gR 94 []))] [none]) (.call ⟨.value (.func 93), #[(.tmp 12), (.func 94)], #[32, 165]⟩) 4 false (.split (.u 5 0) xF Tg))))))
def Xn : Tr := .need (.prim [(W 0 0)] none) (.call ⟨.builtin .len, #[(.tmp 3)], #[32]⟩) 3 false Vv
theorem tD : aM prog f19 (fun _ => none) [.v none] = Xn := by kernel_rfl
def PD : Tr := .need (.prim [(W 7 0), (WK (0))] none) (.binOp .neq 3 (.tmp 13) (.const (I3 (0))) 3) 4 false (.ret [(W 8 0)])
def Wi : Tr := .need (.prim [(W 0 0)] none) (.call ⟨.builtin .len, #[(.tmp 6)], #[32]⟩) 3 false (.need (.prim [(W 2 0), (WK (1))] none) (.binOp .sub 3 (.tmp 7) (.const (I3 (1))) 3) 3 false (.need (.prim [(W 0 0), (W 3 0)] none) (.indexAddr 32 (.tmp 5) (.tmp 8)) 0 false (.need (.prim [(W 4 0)] none) (.load 72 (.tmp 9)) 72 false (.need (.call 181 [(W 5 0), (.agg [(U 1 0), (U 1 1), (U 1 2)])] [(some 3)]) (.call ⟨.value (.func 181), #[(.tmp 10), (.tmp 11)], #[72, 39]⟩) 39 false (.need (.call 35 [(.agg [(U 6 0), (U 6 1), (U 6 2)])] [none]) (.call ⟨.value (.func 35), #[(.tmp 12)], #[39]⟩) 3 true PD)))))
theorem DY : aM prog f97 (fun _ => none) [.v none, .v (some 3)] = Wi := by kernel_rfl
def Ui : Tr := .need (.prim [(W 0 0)] none) (.call ⟨.builtin .len, #[(.tmp 12)], #[32]⟩) 3 false (.need (.prim [(W 4 0), (WK (1))] none) (.binOp .sub 3 (.tmp 13) (.const (I3 (1))) 3) 3 false (.need (.prim [(W 3 0), (W 5 0)] none) (.binOp .neq 3 (.tmp 10) (.tmp 14) 3) 4 false (.split (.u 6 0) xF (.need (.call 97 [(W 0 0), (.agg [(U 0 1), (U 0 2), (U 0 3)])] [none]) (.call ⟨.value (.func 97), #[(.tmp 19), (.tmp 21)], #[32, 39]⟩) 4 false (.need (.prim [(W 7 0)] none) (.unOp .not 4 (.tmp 22)) 4 false (.split (.u 8 0) xF Jf))))))
def Ul : Tr := .need (.call 19 [(W 0 0)] [none]) (.call ⟨.value (.func 19), #[(.tmp 4)], #[32]⟩) 55 false (.need (.prim [(W 1 0), (WK (0))] none) (.binOp .neq 55 (.tmp 5) (.const (I3 (0))) 55) 4 false (.split (.u 2 0) xF (.need (.prim [(W 0 4)] none) (.call ⟨.builtin .len, #[(.tmp 9)], #[40]⟩) 3 false Ui)))
theorem Lc : aM prog f21 (fun _ => none) [.v (some 5)] = Ul := by kernel_rfl
def Vs : Tr := .need (.prim [(W 0 0), (W 4 0)] none) (.indexAddr 167 (.tmp 17) (.tmp 18)) 0 false (.need (.prim [(W 15 0)] (some 4)) (.load 49 (.tmp 19)) 49 false (.need (.call 104 [(.agg [(U 16 0), (U 16 1), (U 16 2), (U 16 3)]), (.agg [(U 9 0), (U 10 0), (U 11 0), (U 12 0)])] [(some 4)]) (.call ⟨.value (.func 104), #[(.tmp 20), (.tmp 21)], #[49, 49]⟩) 49 true (.need (.call 48 [(.agg [(U 5 0), (U 6 0), (U 7 0), (U 8 0)]), (.agg [(U 17 0), (U 17 1), (U 17 2), (U 17 3)])] [(some 4)]) (.call ⟨.value (.func 48), #[(.tmp 16), (.tmp 22)], #[49, 49]⟩) 49 true (.need (.call 104 [(.agg [(U 9 0), (U 10 0), (U 11 0), (U 12 0)]), (.agg [(U 1 0), (U 1 1), (U 1 2), (U 1 3)])] [(some 4)]) (.call ⟨.value (.func 104), #[(.tmp 24), (.tmp 25)], #[49, 49]⟩) 49 true (.need (.prim [(W 4 0), (WK (1))] none) (.binOp .add 3 (.tmp 14) (.const (I3 (1))) 3) 3 false (.back 0 [(.w (W 20 0)), (.w (W 18 0)), (.w (W 18 1)), (.w (W 18 2)), (.w (W 18 3)), (.w (W 19 0)), (.w (W 19 1)), (.w (W 19 2)), (.w (W 19 3))]))))))
def Wt : Tr := .need (.call 50 [(WK (0))] [(some 4)]) (.call ⟨.value (.func 50), #[(.const (I3 (0)))], #[2]⟩) 49 true (.need (.call 50 [(WK (1))] [(some 4)]) (.call ⟨.value (.func 50), #[(.const (I3 (1)))], #[2]⟩) 49 true (.loop 0 [(.w (WK (0))), (.w (W 2 0)), (.w (W 2 1)), (.w (W 2 2)), (.w (W 2 3)), (.w (W 3 0)), (.w (W 3 1)), (.w (W 3 2)), (.w (W 3 3))] (.need (.prim [(W 0 0)] none) (.call ⟨.builtin .len, #[(.tmp 11)], #[167]⟩) 3 false (.need (.prim [(W 4 0), (W 13 0)] none) (.binOp .lss 3 (.tmp 10) (.tmp 12) 3) 4 false (.split (.u 14 0) Vs (.ret [(.agg [(U 5 0), (U 6 0), (U 7 0), (U 8 0)])]))))))
theorem OU : aM prog f124 (fun _ => none) [.v none, .v (some 4)] = Wt := by kernel_rfl
def wO : Tr := .ret [(.one (.c (.k (.bool false))))]
def RE : Tr := .need (.prim [(W 0 0), (W 6 0)] none) (.indexAddr 44 (.tmp 18) (.tmp 19)) 0 false (.need (.prim [(W 9 0)] none) (.load 167 (.tmp 20)) 167 false (.need (.call 96 [(W 10 0)] [none]) (.call ⟨.value (.func 96), #[(.tmp 21)], #[167]⟩) 3 true (.need (.prim [(W 11 0), (WK (40))] none) (.binOp .gtr 3 (.tmp 22) (.const (I3 (40))) 3) 4 false (.split (.u 12 0) wO (.need (.prim [(W 6 0), (WK (1))] none) (.binOp .add 3 (.tmp 16) (.const (I3 (1))) 3) 3 false (.back 0 [(.w (W 5 0)), (.w (W 13 0))]))))))
def QN : Tr := .need (.prim [(W 0 0)] none) (.call ⟨.builtin .len, #[(.tmp 25)], #[44]⟩) 3 false (.need (.prim [(W 9 0), (WK (1))] none) (.binOp .sub 3 (.tmp 26) (.const (I3 (1))) 3) 3 false (.need (.prim [(W 0 0), (W 10 0)] none) (.indexAddr 44 (.tmp 24) (.tmp 27)) 0 false (.need (.prim [(W 11 0)] none) (.load 167 (.tmp 28)) 167 false (.need (.call 96 [(W 12 0)] [none]) (.call ⟨.value (.func 96), #[(.tmp 29)], #[167]⟩) 3 true (.need (.prim [(W 13 0), (WK (0))] none) (.binOp .geq 3 (.tmp 30) (.const (I3 (0))) 3) 4 false (.ret [(W 14 0)]))))))
def Xu : Tr := .need (.prim [(W 0 0)] none) (.call ⟨.builtin .len, #[(.tmp 8)], #[44]⟩) 3 false (.need (.prim [(W 3 0), (WK (5))] none) (.binOp .gtr 3 (.tmp 9) (.const (I3 (5))) 3) 4 false (.split (.u 4 0) wO (.loop 0 [(.w (.one (.c (.k (.bool false))))), (.w (WK (0)))] (.need (.prim [(W 0 0)] none) (.call ⟨.builtin .len, #[(.tmp 13)], #[44]⟩) 3 false (.need (.prim [(W 6 0), (W 7 0)] none) (.binOp .lss 3 (.tmp 12) (.tmp 14) 3) 4 false (.split (.u 8 0) RE QN))))))
def UM : Tr := .need (.prim [(W 0 0)] none) (.call ⟨.builtin .len, #[(.tmp 4)], #[44]⟩) 3 false (.need (.prim [(W 1 0), (WK (2))] none) (.binOp .lss 3 (.tmp 5) (.const (I3 (2))) 3) 4 false (.split (.u 2 0) wO Xu))
theorem Iq : aM prog f20 (fun _ => none) [.v none] = UM := by kernel_rfl
def UF : Tr := .need (.prim [(W 0 0)] none) (.call ⟨.builtin .len, #[(.tmp 6)], #[44]⟩) 3 false (.need (.prim [(W 2 0), (WK (1))] none) (.binOp .sub 3 (.tmp 7) (.const (I3 (1))) 3) 3 false (.need (.prim [(W 0 0), (W 3 0)] none) (.indexAddr 44 (.tmp 5) (.tmp 8)) 0 false (.need (.prim [(W 4 0)] none) (.load 167 (.tmp 9)) 167 false (.need (.call 124 [(W 5 0), (.agg [(U 1 0), (U 1 1), (U 1 2), (U 1 3)])] [(some 4)]) (.call ⟨.value (.func 124), #[(.tmp 10), (.tmp 11)], #[167, 49]⟩) 49 false (.need (.call 46 [(.agg [(U 6 0), (U 6 1), (U 6 2), (U 6 3)])] [none]) (.call ⟨.value (.func 46), #[(.tmp 12)], #[49]⟩) 3 true PD)))))
theorem Fk : aM prog f42 (fun _ => none) [.v none, .v (some 4)] = UF := by kernel_rfl
def Xz : Tr := .need (.prim [(W 0 5)] none) (.call ⟨.builtin .len, #[(.tmp 8)], #[50]⟩) 3 false (.need (.prim [(W 0 0)] none) (.call ⟨.builtin .len, #[(.tmp 11)], #[44]⟩) 3 false (.need (.prim [(W 3 0), (WK (1))] none) (.binOp .sub 3 (.tmp 12) (.const (I3 (1))) 3) 3 false (.need (.prim [(W 2 0), (W 4 0)] none) (.binOp .eql 3 (.tmp 9) (.tmp 13) 3) 4 false (.split (.u 5 0) (.need (.call 42 [(W 0 0), (.agg [(U 0 1), (U 0 2), (U 0 3), (U 0 4)])] [none]) (.call ⟨.value (.func 42), #[(.tmp 18), (.tmp 20)], #[44, 49]⟩) 4 true (.ret [(W 6 0)])) wO))))
def Xw : Tr := .need (.call 20 [(W 0 0)] [none]) (.call ⟨.value (.func 20), #[(.tmp 4)], #[44]⟩) 4 false (.split (.u 1 0) Xz wO)
theorem LA : aM prog f22 (fun _ => none) [.v (some 6)] = Xw := by kernel_rfl
def QR : Tr := .need (.prim [(W 1 0), (W 6 0)] none) (.indexAddr 50 (.tmp 21) (.tmp 22)) 0 false (.need (.prim [(W 11 0)] (some 4)) (.load 49 (.tmp 23)) 49 false (.need (.call 44 [(.agg [(U 10 0), (U 10 1), (U 10 2)]), (.agg [(U 12 0), (U 12 1), (U 12 2), (U 12 3)])] [none]) (.call ⟨.value (.func 44), #[(.tmp 20), (.tmp 24)], #[39, 49]⟩) 4 true (.need (.prim [(W 13 0)] none) (.unOp .not 4 (.tmp 25)) 4 false (.split (.u 14 0) wO (.need (.prim [(W 6 0), (WK (1))] none) (.binOp .add 3 (.tmp 15) (.const (I3 (1))) 3) 3 false (.back 0 [(.w (W 5 0)), (.w (W 15 0))]))))))
def WI : Tr := .split (.u 4 0) wO (.loop 0 [(.w (.one (.c (.k (.bool false))))), (.w (WK (0)))] (.need (.prim [(W 0 0)] none) (.call ⟨.builtin .len, #[(.tmp 12)], #[40]⟩) 3 false (.need (.prim [(W 6 0), (W 7 0)] none) (.binOp .lss 3 (.tmp 11) (.tmp 13) 3) 4 false (.split (.u 8 0) (.need (.prim [(W 0 0), (W 6 0)] none) (.indexAddr 40 (.tmp 17) (.tmp 18)) 0 false (.need (.prim [(W 9 0)] (some 3)) (.load 39 (.tmp 19)) 39 false QR)) (.ret [(.one (.c (.k (.bool true))))])))))
def WL : Tr := .need (.prim [(W 0 0)] none) (.call ⟨.builtin .len, #[(.tmp 6)], #[40]⟩) 3 false (.need (.prim [(W 1 0)] none) (.call ⟨.builtin .len, #[(.tmp 8)], #[50]⟩) 3 false (.need (.prim [(W 2 0), (W 3 0)] none) (.binOp .neq 3 (.tmp 7) (.tmp 9) 3) 4 false WI))
theorem LL : aM prog f27 (fun _ => none) [.v none, .v none] = WL := by kernel_rfl
abbrev cQ (p : List Rat) : List aF := [sQ p]
abbrev cR (p : List RQ) : List aF := [sR p]
abbrev eQ (e : List (List Rat)) : aF := .slice 1 (e.map cQ)
abbrev eR (e : List (List RQ)) : aF := .slice 1 (e.map cR)
def Cq {α : Type} (c : α → Bool) : List α → Nat → Int
 | [], _ => -1
 | x :: xs, i => if c x then (i : Int) else Cq c xs (i + 1)
theorem CS {α : Type} (c : α → Bool) : ∀ (l : List α) (i : Nat), decide (0 ≤ Cq c l i) = l.any c
 | [], i => rfl
 | x :: xs, i => by
   simp only [Cq, List.any_cons]
   split
   ·rename_i h; rw [h]; simp
   ·rename_i h; rw [CS c xs (i + 1)]; simp [h]
theorem Iy (e : List (List Rat)) (g : Nat) (c : List Rat → Bool) (hc : ∀ p ∈ e, aN prog g [.one (sQ p)] (.ret [.one (.bool (c p))])) (hs : e.length < 1099511627776) : aN prog 180 [(.one (eQ e) : aH), (.one (.gR g []) : aH)] (.ret [.one (.int .i64 (Cq c e 0))]) := by
 refine aD (args := [.v none, .v none]) (ins := [.v (.one (eQ e)), .v (.one (.gR g []))]) (hints := (fun _ => none)) fo (by kernel_rfl) func180 ⟨rfl, rfl, trivial⟩ ?_
 rw [Kz]
 dsimp only [List.map, In.env, aA, aB]
 refine vn (aK uZ (List.length_map _)) rfl ?_
 dsimp only [aA, aB]
 refine aY {i : Nat // i ≤ e.length ∧ Cq c e 0 = Cq c (e.drop i) i} (fun g => [.one (.int .i64 0), .one (.int .i64 g.1)]) (fun g => e.length - g.1) ⟨0, Nat.zero_le _, rfl⟩ aL.rfl (fun _ => rfl) ?_
 rintro ⟨i, hi, hf⟩
 dsimp only [aA, aB] at hi hf ⊢
 refine vn aU rfl ?_
 dsimp only [aA, aB]
 refine vs _ rfl (fun h3 => ?_) (fun h3 => ?_)
 ·obtain ⟨p, hp⟩ : ∃ p, e[i]? = some p := ⟨_, List.getElem?_eq_getElem (by omega)⟩
  have hdrop : e.drop i = p :: e.drop (i + 1) := by
   rw [List.drop_eq_getElem_cons (by omega), (List.getElem?_eq_some_iff.1 hp).2]
  rw [hdrop, Cq] at hf
  refine vn (aR uZ (by omega) (by omega) hp) rfl ?_
  dsimp only [aA, aB]
  refine vn (bA DH) rfl ?_
  dsimp only [aA, aB]
  refine Kr (f := g) (caps := []) rfl (hc p (List.mem_of_getElem? hp)) rfl ?_
  dsimp only [aA, aB]
  refine uB (c p) rfl (fun h7 => ?_) (fun h7 => ?_)
  ·rw [hf, if_pos h7]; exact aJ rfl
  refine vn (aE (by omega) (by omega)) rfl ?_
  dsimp only [aA, aB]
  exact aO rfl ⟨⟨i + 1, by omega, by rw [hf, if_neg (by simp [h7])]⟩, aL.rfl, by show e.length - (i + 1) < e.length - i; omega⟩
 rw [hf, List.drop_eq_nil_of_le (by omega), Cq]; exact aJ rfl
theorem Dx (e : List (List Rat)) (g : Nat) (c : List Rat → Bool) (hc : ∀ p ∈ e, aN prog g [.one (sQ p)] (.ret [.one (.bool (c p))])) (hs : e.length < 1099511627776) : aN prog 93 [(.one (eQ e) : aH), (.one (.gR g []) : aH)] (.ret [.one (.bool (e.any c))]) := by
 refine aD (args := [.v none, .v none]) (ins := [.v (.one (eQ e)), .v (.one (.gR g []))]) (hints := (fun _ => none)) fo (by kernel_rfl) func93 ⟨rfl, rfl, trivial⟩ ?_
 rw [Ch]
 dsimp only [List.map, In.env, aA, aB]
 refine aC (Iy e g c hc hs) rfl ?_
 dsimp only [aA, aB]
 refine vn dU rfl ?_
 dsimp only [aA, aB]
 rw [← CS c e 0]; exact aJ rfl
def Aj (p : List Rat) : Bool := decide (41 < cW zr p)
theorem qM (p : List Rat) (hs : p.length < 1099511627776) : aN prog 94 [(.one (sQ p) : aH)] (.ret [.one (.bool (Aj p))]) := by
 refine aD (args := [.v none]) (ins := [.v (.one (sQ p))]) (hints := (fun _ => none)) fo (by kernel_rfl) func94 ⟨rfl, trivial⟩ ?_
 rw [qZ]
 dsimp only [List.map, In.env, aA, aB]
 refine aC (sZ p hs) rfl ?_
 dsimp only [aA, aB]
 refine vn cT rfl ?_
 dsimp only [aA, aB]
 refine aJ ?_
 rw [Aj, show decide (41 < cW zr p) = decide ((40 : Int) < (cW zr p : Int) - 1) by rw [decide_eq_decide]; omega]
 rfl
def pE (e : List (List Rat)) : Bool := decide (2 ≤ e.length ∧ e.length ≤ 5 ∧ (∀ p ∈ e, cW zr p ≤ 41) ∧ ∀ p, e[e.length - 1]? = some p → cW zr p ≠ 0)
theorem mU (e : List (List Rat)) (hs : e.length < 1099511627776) (hp : ∀ p ∈ e, p.length < 1099511627776) : aN prog 19 [(.one (eQ e) : aH)] (.ret [.one (.int .i64 (if pE e then 0 else 2))]) := by
 refine aD (args := [.v none]) (ins := [.v (.one (eQ e))]) (hints := (fun _ => none)) fo (by kernel_rfl) func19 ⟨rfl, trivial⟩ ?_
 rw [tD]
 dsimp only [List.map, In.env, aA, aB]
 refine vn (aK uZ (List.length_map _)) rfl ?_
 dsimp only [aA, aB]
 refine vn aU rfl ?_
 dsimp only [aA, aB]
 refine vs _ rfl (fun h2 => ?_) (fun h2 => ?_)
 ·rw [if_neg (by unfold pE; rw [decide_eq_true_iff]; omega)]; exact aJ rfl
 refine vn (aK uZ (List.length_map _)) rfl ?_
 dsimp only [aA, aB]
 refine vn cT rfl ?_
 dsimp only [aA, aB]
 refine vs _ rfl (fun h6 => ?_) (fun h6 => ?_)
 ·rw [if_neg (by unfold pE; rw [decide_eq_true_iff]; omega)]; exact aJ rfl
 refine aC (Dx e 94 Aj (fun p hp' => qM p (hp p hp')) hs) rfl ?_
 dsimp only [aA, aB]
 refine uB (e.any Aj) rfl (fun h9 => ?_) (fun h9 => ?_)
 ·rw [if_neg (by
   unfold pE; rw [decide_eq_true_iff]
   rintro ⟨_, _, h, _⟩
   obtain ⟨p, hp1, hp2⟩ := List.any_eq_true.1 h9
   have := h p hp1
   simp [Aj] at hp2; omega)]; exact aJ rfl
 refine vn (aK uZ (List.length_map _)) rfl ?_
 dsimp only [aA, aB]
 refine vn (aG (by omega) (by omega)) rfl ?_
 dsimp only [aA, aB]
 obtain ⟨p, hpl⟩ : ∃ p, e[e.length - 1]? = some p := ⟨_, List.getElem?_eq_getElem (by omega)⟩
 refine vn (aR uZ (by omega) (by omega) hpl) rfl ?_
 dsimp only [aA, aB]
 refine vn (bA DH) rfl ?_
 dsimp only [aA, aB]
 refine aC (sZ p (hp p (List.mem_of_getElem? hpl))) rfl ?_
 dsimp only [aA, aB]
 refine vn aU rfl ?_
 dsimp only [aA, aB]
 refine vs _ rfl (fun h17 => ?_) (fun h17 => ?_)
 ·rw [if_neg (by
   unfold pE; rw [decide_eq_true_iff]
   rintro ⟨_, _, _, h⟩
   have := h p hpl
   omega)]; exact aJ rfl
 rw [if_pos (by
  unfold pE; rw [decide_eq_true_iff]
  refine ⟨by omega, by omega, fun p' hp' => ?_, fun p' hp' => ?_⟩
  ·have := List.any_eq_false.1 h9 p' hp'
   simp [Aj] at this; omega
  ·rw [hpl] at hp'; simp only [Option.some.injEq] at hp'; subst hp'; omega)]; exact aJ rfl
structure HT (e : List (List Rat)) : Prop where
 l : e.length ≤ 64
 p : ∀ p ∈ e, p.length ≤ 64 ∧ ∀ q ∈ p, Fit 513 q
def mZ (e : List (List Rat)) (c : Rat) : Bool := decide (∀ p, e[e.length - 1]? = some p → dK p c ≠ 0)
theorem xR (e : List (List Rat)) (c : Rat) (he : HT e) (h0 : 0 < e.length) (hc : Fit 513 c) : aN prog 97 [(.one (eQ e) : aH), (qT c : aH)] (.ret [.one (.bool (mZ e c))]) := by
 refine aD (args := [.v none, .v (some 3)]) (ins := [.v (.one (eQ e)), .v (qT c)]) (hints := (fun _ => none)) fo (by kernel_rfl) func97 ⟨rfl, rfl, trivial⟩ ?_
 rw [DY]
 dsimp only [List.map, In.env, aA, aB]
 have hl := he.l
 refine vn (aK uZ (List.length_map _)) rfl ?_
 dsimp only [aA, aB]
 refine vn (aG (by omega) (by omega)) rfl ?_
 dsimp only [aA, aB]
 obtain ⟨p, hpl⟩ : ∃ p, e[e.length - 1]? = some p := ⟨_, List.getElem?_eq_getElem (by omega)⟩
 obtain ⟨hp1, hp2⟩ := he.p p (List.mem_of_getElem? hpl)
 refine vn (aR uZ (by omega) (by omega) hpl) rfl ?_
 dsimp only [aA, aB]
 refine vn (bA DH) rfl ?_
 dsimp only [aA, aB]
 refine aC (MF p c 513 (by omega) hp2 hc (by omega)) rfl ?_
 dsimp only [aA, aB]
 refine aC (lS _) rfl ?_
 dsimp only [aA, aB]
 refine vn jC rfl ?_
 dsimp only [aA, aB]
 refine aJ ?_
 have : mZ e c = decide ((dK p c).num.sign ≠ 0) := by
  unfold mZ
  rw [decide_eq_decide]
  constructor
  ·intro h hh; exact h p hpl (sign_zero.1 hh)
  ·intro h p' hp' hh
   rw [hpl] at hp'; simp only [Option.some.injEq] at hp'; subst hp'
   exact h (sign_zero.2 hh)
 rw [this]; rfl
def okF (e : List (List Rat)) (c : Rat) (y : List Rat) : Bool := pE e && decide (y.length = e.length - 1) && mZ e c
theorem KP (e : List (List Rat)) (c : Rat) (y : List Rat) (he : HT e) (hc : Fit 513 c) (hy : y.length < 1099511627776) : aN prog 21 [(.agg [eQ e, dT c.num.natAbs, .bool (decide (c.num < 0)), dT (c.den - 1), sQ y] : aH)] (.ret [.one (.int .i64 (if okF e c y then 0 else 2))]) := by
 refine aD (args := [.v (some 5)]) (ins := [.v (.agg [eQ e, dT c.num.natAbs, .bool (decide (c.num < 0)), dT (c.den - 1), sQ y])]) (hints := (fun _ => none)) fo (by kernel_rfl) func21 ⟨rfl, trivial⟩ ?_
 rw [Lc]
 dsimp only [List.map, In.env, aA, aB]
 have hl := he.l
 have hp := he.p
 refine aC (mU e (by omega) (fun p hp' => by have := (hp p hp').1; omega)) rfl ?_
 dsimp only [aA, aB]
 refine vn jC rfl ?_
 dsimp only [aA, aB]
 have h2' : decide ((if pE e = true then (0 : Int) else 2) ≠ 0) = !pE e := by cases pE e <;> rfl
 rw [h2']
 refine uB (!pE e) rfl (fun h2 => ?_) (fun h2 => ?_)
 ·rw [if_neg (by simp at h2; simp [okF, h2])]; exact aJ rfl
 have h2 : pE e = true := by simpa using h2
 have hlen : 2 ≤ e.length := by unfold pE at h2; rw [decide_eq_true_iff] at h2; exact h2.1
 refine vn (aK nR (List.length_map _)) rfl ?_
 dsimp only [aA, aB]
 refine vn (aK uZ (List.length_map _)) rfl ?_
 dsimp only [aA, aB]
 refine vn (aG (by omega) (by omega)) rfl ?_
 dsimp only [aA, aB]
 refine vn jC rfl ?_
 dsimp only [aA, aB]
 refine vs _ rfl (fun h8 => ?_) (fun h8 => ?_)
 ·rw [if_neg (by simp [okF]; intro _ _; omega)]; exact aJ rfl
 refine aC (xR e c he (by omega) hc) rfl ?_
 dsimp only [aA, aB]
 refine vn qE rfl ?_
 dsimp only [aA, aB]
 refine uB (!mZ e c) rfl (fun h12 => ?_) (fun h12 => ?_)
 ·rw [if_neg (by simp at h12; simp [okF, h12])]; exact aJ rfl
 rw [if_pos (by simp at h12; simp [okF, h12, h2]; omega)]; exact aJ rfl
end Go.Sy
namespace Go.Sy
open Go Go.Proofs Tryz Ord
theorem Fa (ps : List Rat) (a c : Rat) : dK (ps ++ [a]) c = dK ps c + a * c ^ ps.length := by
 unfold dK
 rw [List.foldr_append]
 have key : ∀ (ps : List Rat) (s : Rat), List.foldr (fun a v => v * c + a) s ps = List.foldr (fun a v => v * c + a) 0 ps + s * c ^ ps.length := by
  intro ps
  induction ps with
  | nil => intro s; simp only [List.foldr_nil, List.length_nil, Rat.pow_zero]; grind
  | cons x ps ih => intro s; simp only [List.foldr_cons, List.length_cons, Rat.pow_succ]; rw [ih s]; grind
 rw [key]
 congr 1
 simp only [List.foldr_cons, List.foldr_nil]
 grind
theorem zQ {B : Nat} (hB : 1 ≤ B) {c : Rat} (hc : Fit B c) : ∀ ps : List Rat, (∀ q ∈ ps, Fit B q) → Fit (ps.length * (2 * B + 1) + 1) (dK ps c)
 | [], _ => Fit.zero (by omega)
 | a :: ps, h => by
   have ih := zQ hB hc ps (fun q hq => h q (List.mem_cons_of_mem _ hq))
   have := (ih.mul hc).add (h a List.mem_cons_self)
   refine this.mono ?_
   rw [List.length_cons, Nat.add_mul]; omega
theorem OM (ps : List RQ) (c : RQ) (B : Nat) (hB : 1 ≤ B) (hp : ∀ q ∈ ps, Fit B q.q) (hc : Fit B c.q) (hl : ps.length * (2 * B + 2) ≤ 1073741824) (hs : ps.length ≤ 1073741824) (hB2 : B ≤ 1048576) : aN prog 124 [(.one (sR ps) : aH), (lI c : aH)] (.ret [lI (.of (dK (ps.map RQ.q) c.q))]) := by
 refine aD (args := [.v none, .v (some 4)]) (ins := [.v (.one (sR ps)), .v (lI c)]) (hints := (fun _ => none)) fo (by kernel_rfl) func124 ⟨rfl, rfl, trivial⟩ ?_
 rw [OU]
 dsimp only [List.map, In.env, aA, aB]
 have hmap : ∀ q ∈ ps.map RQ.q, Fit B q := fun q hq => by
  obtain ⟨a, ha, rfl⟩ := List.mem_map.1 hq
  exact hp a ha
 refine aC (jH 0 (by omega) (by omega)) rfl ?_
 dsimp only [aA, aB]
 refine aC (jH 1 (by omega) (by omega)) rfl ?_
 dsimp only [aA, aB]
 refine aY {i : Nat // i ≤ ps.length} (fun g => [.one (.int .i64 g.1), .one (.int .i64 (dK ((ps.map RQ.q).take g.1) c.q).num.sign), .one (bT (dK ((ps.map RQ.q).take g.1) c.q).num.natAbs), .one (.int .i64 1), .one (bT (dK ((ps.map RQ.q).take g.1) c.q).den), .one (.int .i64 (c.q ^ g.1).num.sign), .one (bT (c.q ^ g.1).num.natAbs), .one (.int .i64 1), .one (bT (c.q ^ g.1).den)]) (fun g => ps.length - g.1) ⟨0, Nat.zero_le _⟩ (by
  simp only [List.take_zero, Rat.pow_zero]; exact aL.rfl) (fun _ => rfl) ?_
 rintro ⟨i, hi⟩
 dsimp only [aA, aB] at hi ⊢
 refine vn (aK eJ (List.length_map _)) rfl ?_
 dsimp only [aA, aB]
 refine vn aU rfl ?_
 dsimp only [aA, aB]
 refine vs _ rfl (fun h5 => ?_) (fun h5 => ?_)
 ·obtain ⟨a, ha⟩ : ∃ a, ps[i]? = some a := ⟨_, List.getElem?_eq_getElem (by omega)⟩
  have hma : (ps.map RQ.q)[i]? = some a.q := by rw [List.getElem?_map, ha]; rfl
  have hfa := hp a (List.mem_of_getElem? ha)
  have hfi := hc.pow hB i
  have hlen : ((ps.map RQ.q).take i).length = i := by simp; omega
  have hfe := zQ hB hc ((ps.map RQ.q).take i) (fun q hq => hmap q (List.mem_of_mem_take hq))
  rw [hlen] at hfe
  have hib : i * (2 * B + 2) ≤ 1073741824 := Nat.le_trans (Nat.mul_le_mul_right _ hi) hl
  have hib2 : i * (2 * B + 2) = i * (2 * B + 1) + i := by rw [show 2 * B + 2 = (2 * B + 1) + 1 by omega, Nat.mul_add i (2 * B + 1) 1, Nat.mul_one]
  have hib3 : B * i ≤ i * (2 * B + 1) := by rw [Nat.mul_comm]; exact Nat.mul_le_mul_left _ (by omega)
  have hsn : dK ((ps.map RQ.q).take (i + 1)) c.q = dK ((ps.map RQ.q).take i) c.q + a.q * c.q ^ i := by
   rw [List.take_add_one, hma]
   show dK (_ ++ [a.q]) c.q = _
   rw [Fa, hlen]
  refine vn (aR eJ (by omega) (by omega) ha) rfl ?_
  dsimp only [aA, aB]
  refine vn (cB uW (by decide) (by simp) (.inl rfl)) rfl ?_
  dsimp only [aA, aB]
  have hm := oN a (.of (c.q ^ i)) _ _ hfa hfi (by omega)
  refine aC hm rfl ?_
  dsimp only [aA, aB]
  have hs1 := yH (.of (dK ((ps.map RQ.q).take i) c.q)) (.of (a.q * (RQ.of (c.q ^ i)).q)) _ _ hfe (hfa.mul hfi) (by omega)
  rw [RQ.Hq, RQ.Hq, RQ.Hq, ← hsn] at hs1
  refine aC hs1 rfl ?_
  dsimp only [aA, aB]
  have hm2 := oN (.of (c.q ^ i)) c _ _ hfi hc (by omega)
  rw [RQ.Hq, ← Rat.pow_succ] at hm2
  refine aC hm2 rfl ?_
  dsimp only [aA, aB]
  refine vn (aE (by omega) (by omega)) rfl ?_
  dsimp only [aA, aB]
  exact aO rfl ⟨⟨i + 1, by omega⟩, aL.rfl, by show ps.length - (i + 1) < ps.length - i; omega⟩
 rw [show i = ps.length by omega]
 have e : (ps.map RQ.q).take ps.length = ps.map RQ.q := List.take_of_length_le (by simp)
 rw [e]; exact aJ rfl
def fI (e : List (List RQ)) : List (List Rat) := e.map fun p => p.map RQ.q
theorem pT {e : List (List RQ)} {i : Nat} {p : List RQ} (h : e[i]? = some p) : (fI e)[i]? = some (p.map RQ.q) := by rw [fI, List.getElem?_map, h]; rfl
theorem pY (e : List (List RQ)) : (fI e).length = e.length := List.length_map _
theorem FR (p : List RQ) : cW KJ p = cW zr (p.map RQ.q) := (xT (z := zr) RQ.q p).symm
theorem JP (e : List (List RQ)) (hs : e.length < 1099511627776) (hp : ∀ p ∈ e, p.length < 1099511627776) : aN prog 20 [(.one (eR e) : aH)] (.ret [.one (.bool (pE (fI e)))]) := by
 refine aD (args := [.v none]) (ins := [.v (.one (eR e))]) (hints := (fun _ => none)) fo (by kernel_rfl) func20 ⟨rfl, trivial⟩ ?_
 rw [Iq]
 dsimp only [List.map, In.env, aA, aB]
 have hlen := pY e
 refine vn (aK qI (List.length_map _)) rfl ?_
 dsimp only [aA, aB]
 refine vn aU rfl ?_
 dsimp only [aA, aB]
 refine vs _ rfl (fun h2 => ?_) (fun h2 => ?_)
 ·rw [show pE (fI e) = false by unfold pE; rw [decide_eq_false_iff_not]; omega]; exact aJ rfl
 refine vn (aK qI (List.length_map _)) rfl ?_
 dsimp only [aA, aB]
 refine vn cT rfl ?_
 dsimp only [aA, aB]
 refine vs _ rfl (fun h6 => ?_) (fun h6 => ?_)
 ·rw [show pE (fI e) = false by unfold pE; rw [decide_eq_false_iff_not]; omega]; exact aJ rfl
 refine aY {i : Nat // i ≤ e.length ∧ ∀ j p, j < i → e[j]? = some p → cW KJ p ≤ 41} (fun g => [.one (.bool false), .one (.int .i64 g.1)]) (fun g => e.length - g.1) ⟨0, Nat.zero_le _, fun j p h => by omega⟩ aL.rfl (fun _ => rfl) ?_
 rintro ⟨i, hi, hb⟩
 dsimp only [aA, aB] at hi hb ⊢
 refine vn (aK qI (List.length_map _)) rfl ?_
 dsimp only [aA, aB]
 refine vn aU rfl ?_
 dsimp only [aA, aB]
 refine vs _ rfl (fun h11 => ?_) (fun h11 => ?_)
 ·obtain ⟨p, hpi⟩ : ∃ p, e[i]? = some p := ⟨_, List.getElem?_eq_getElem (by omega)⟩
  refine vn (aR qI (by omega) (by omega) hpi) rfl ?_
  dsimp only [aA, aB]
  refine vn (bA wZ) rfl ?_
  dsimp only [aA, aB]
  refine aC (zI p (hp p (List.mem_of_getElem? hpi))) rfl ?_
  dsimp only [aA, aB]
  refine vn cT rfl ?_
  dsimp only [aA, aB]
  refine vs _ rfl (fun h16 => ?_) (fun h16 => ?_)
  ·rw [show pE (fI e) = false by
    unfold pE; rw [decide_eq_false_iff_not]
    rintro ⟨_, _, h, _⟩
    have := h _ (List.mem_of_getElem? (pT hpi))
    rw [← FR] at this; omega]; exact aJ rfl
  refine vn (aE (by omega) (by omega)) rfl ?_
  dsimp only [aA, aB]
  exact aO rfl ⟨⟨i + 1, by omega, fun j p' hj hp' => by
   rcases Nat.lt_or_ge j i with h | h
   ·exact hb j p' h hp'
   ·rw [show j = i by omega, hpi] at hp'; simp only [Option.some.injEq] at hp'; subst hp'; omega⟩, aL.rfl, by show e.length - (i + 1) < e.length - i; omega⟩
 refine vn (aK qI (List.length_map _)) rfl ?_
 dsimp only [aA, aB]
 refine vn (aG (by omega) (by omega)) rfl ?_
 dsimp only [aA, aB]
 obtain ⟨p, hpl⟩ : ∃ p, e[e.length - 1]? = some p := ⟨_, List.getElem?_eq_getElem (by omega)⟩
 refine vn (aR qI (by omega) (by omega) hpl) rfl ?_
 dsimp only [aA, aB]
 refine vn (bA wZ) rfl ?_
 dsimp only [aA, aB]
 refine aC (zI p (hp p (List.mem_of_getElem? hpl))) rfl ?_
 dsimp only [aA, aB]
 refine vn dU rfl ?_
 dsimp only [aA, aB]
 rw [show pE (fI e) = decide ((0 : Int) ≤ (cW KJ p : Int) - 1) by
  unfold pE; rw [decide_eq_decide]
  constructor
  ·rintro ⟨_, _, _, h⟩
   have := h _ (by rw [hlen]; exact pT hpl)
   rw [← FR] at this; omega
  ·intro h
   refine ⟨by omega, by omega, fun p' hp' => ?_, fun p' hp' => ?_⟩
   ·obtain ⟨p0, hp0, rfl⟩ := List.mem_map.1 hp'
    obtain ⟨j, hj⟩ := List.getElem?_of_mem hp0
    have hje := (List.getElem?_eq_some_iff.1 hj).1
    have := hb j p0 (by omega) hj
    rw [← FR]; exact this
   ·rw [hlen, pT hpl] at hp'; simp only [Option.some.injEq] at hp'; subst hp'
    rw [← FR]; omega]; exact aJ rfl
theorem EX (e : List (List RQ)) (c : RQ) (he : HT (fI e)) (h0 : 0 < e.length) (hc : Fit 513 c.q) : aN prog 42 [(.one (eR e) : aH), (lI c : aH)] (.ret [.one (.bool (mZ (fI e) c.q))]) := by
 refine aD (args := [.v none, .v (some 4)]) (ins := [.v (.one (eR e)), .v (lI c)]) (hints := (fun _ => none)) fo (by kernel_rfl) func42 ⟨rfl, rfl, trivial⟩ ?_
 rw [Fk]
 dsimp only [List.map, In.env, aA, aB]
 have hl := he.l
 have hlen := pY e
 refine vn (aK qI (List.length_map _)) rfl ?_
 dsimp only [aA, aB]
 refine vn (aG (by omega) (by omega)) rfl ?_
 dsimp only [aA, aB]
 obtain ⟨p, hpl⟩ : ∃ p, e[e.length - 1]? = some p := ⟨_, List.getElem?_eq_getElem (by omega)⟩
 obtain ⟨hp1, hp2⟩ := he.p _ (List.mem_of_getElem? (pT hpl))
 rw [List.length_map] at hp1
 refine vn (aR qI (by omega) (by omega) hpl) rfl ?_
 dsimp only [aA, aB]
 refine vn (bA wZ) rfl ?_
 dsimp only [aA, aB]
 refine aC (OM p c 513 (by omega) (fun q hq => hp2 _ (List.mem_map.2 ⟨q, hq, rfl⟩)) hc (by omega) (by omega) (by omega)) rfl ?_
 dsimp only [aA, aB]
 refine aC (GD _) rfl ?_
 dsimp only [aA, aB]
 refine vn jC rfl ?_
 dsimp only [aA, aB]
 refine aJ ?_
 have : mZ (fI e) c.q = decide ((dK (p.map RQ.q) c.q).num.sign ≠ 0) := by
  unfold mZ
  rw [decide_eq_decide, hlen]
  constructor
  ·intro h hh; exact h _ (pT hpl) (sign_zero.1 hh)
  ·intro h p' hp' hh
   rw [pT hpl] at hp'; simp only [Option.some.injEq] at hp'; subst hp'
   exact h (sign_zero.2 hh)
 rw [this]; rfl
theorem LN (e : List (List RQ)) (c : RQ) (y : List RQ) (he : HT (fI e)) (hc : Fit 513 c.q) (hy : y.length < 1099511627776) : aN prog 22 [(.agg [eR e, .int .i64 c.q.num.sign, bT c.q.num.natAbs, .int .i64 (if c.z then 0 else 1), bT (if c.z then 0 else c.q.den), sR y] : aH)] (.ret [.one (.bool (okF (fI e) c.q (y.map RQ.q)))]) := by
 refine aD (args := [.v (some 6)]) (ins := [.v (.agg [eR e, .int .i64 c.q.num.sign, bT c.q.num.natAbs, .int .i64 (if c.z then 0 else 1), bT (if c.z then 0 else c.q.den), sR y])]) (hints := (fun _ => none)) fo (by kernel_rfl) func22 ⟨rfl, trivial⟩ ?_
 rw [LA]
 dsimp only [List.map, In.env, aA, aB]
 have hl := he.l
 have hlen := pY e
 have hp := he.p
 refine aC (JP e (by omega) (fun p hp' => by have := (hp _ (List.mem_map.2 ⟨p, hp', rfl⟩)).1; rw [List.length_map] at this; omega)) rfl ?_
 dsimp only [aA, aB]
 refine uB (pE (fI e)) rfl (fun h1 => ?_) (fun h1 => ?_)
 ·have hle : 2 ≤ e.length := by unfold pE at h1; rw [decide_eq_true_iff] at h1; omega
  refine vn (aK Pa (List.length_map _)) rfl ?_
  dsimp only [aA, aB]
  refine vn (aK qI (List.length_map _)) rfl ?_
  dsimp only [aA, aB]
  refine vn (aG (by omega) (by omega)) rfl ?_
  dsimp only [aA, aB]
  refine vn aX rfl ?_
  dsimp only [aA, aB]
  refine vs _ rfl (fun h6 => ?_) (fun h6 => ?_)
  ·refine aC (EX e c he (by omega) hc) rfl ?_
   dsimp only [aA, aB]
   rw [show okF (fI e) c.q (y.map RQ.q) = mZ (fI e) c.q by simp [okF, h1, hlen]; omega]; exact aJ rfl
  rw [show okF (fI e) c.q (y.map RQ.q) = false by simp [okF, hlen]; intro _ _; omega]; exact aJ rfl
 rw [show okF (fI e) c.q (y.map RQ.q) = false by simp [okF, h1]]; exact aJ rfl
theorem Kp {α β : Type} {f : β → α} {a : List α} {b : List β} (hl : a.length = b.length) (h : ∀ (i : Nat) (x : α) (y : β), a[i]? = some x → b[i]? = some y → x = f y) : a = b.map f := by
 apply List.ext_getElem?
 intro i
 rw [List.getElem?_map]
 by_cases hi : i < a.length
 ·have hx : a[i]? = some a[i] := List.getElem?_eq_getElem hi
  have hy : b[i]? = some (b[i]'(by omega)) := List.getElem?_eq_getElem (by omega)
  rw [hx, hy, h i _ _ hx hy]; rfl
 ·rw [List.getElem?_eq_none_iff.2 (by omega), List.getElem?_eq_none_iff.2 (by omega)]; rfl
theorem Ld (a : List Rat) (b : List RQ) (B : Nat) (ha : ∀ q ∈ a, Fit B q) (hb : ∀ q ∈ b, Fit B q.q) (hB : B ≤ 268435456) (hs : a.length < 1099511627776) (hs2 : b.length < 1099511627776) : aN prog 27 [(.one (sQ a) : aH), (.one (sR b) : aH)] (.ret [.one (.bool (decide (a = b.map RQ.q)))]) := by
 refine aD (args := [.v none, .v none]) (ins := [.v (.one (sQ a)), .v (.one (sR b))]) (hints := (fun _ => none)) fo (by kernel_rfl) func27 ⟨rfl, rfl, trivial⟩ ?_
 rw [LL]
 dsimp only [List.map, In.env, aA, aB]
 refine vn (aK nR (List.length_map _)) rfl ?_
 dsimp only [aA, aB]
 refine vn (aK Pa (List.length_map _)) rfl ?_
 dsimp only [aA, aB]
 refine vn jC rfl ?_
 dsimp only [aA, aB]
 refine vs _ rfl (fun h3 => ?_) (fun h3 => ?_)
 ·rw [decide_eq_false (fun e => by have := congrArg List.length e; rw [List.length_map] at this; omega)]; exact aJ rfl
 have hlen : a.length = b.length := by omega
 refine aY {i : Nat // i ≤ a.length ∧ ∀ j x y, j < i → a[j]? = some x → b[j]? = some y → x = y.q} (fun g => [.one (.bool false), .one (.int .i64 g.1)]) (fun g => a.length - g.1) ⟨0, Nat.zero_le _, fun j x y h => by omega⟩ aL.rfl (fun _ => rfl) ?_
 rintro ⟨i, hi, he⟩
 dsimp only [aA, aB] at hi he ⊢
 refine vn (aK nR (List.length_map _)) rfl ?_
 dsimp only [aA, aB]
 refine vn aU rfl ?_
 dsimp only [aA, aB]
 refine vs _ rfl (fun h8 => ?_) (fun h8 => ?_)
 ·obtain ⟨x, hx⟩ : ∃ x, a[i]? = some x := ⟨_, List.getElem?_eq_getElem (by omega)⟩
  obtain ⟨y, hy⟩ : ∃ y, b[i]? = some y := ⟨_, List.getElem?_eq_getElem (by omega)⟩
  refine vn (aR nR (by omega) (by omega) hx) rfl ?_
  dsimp only [aA, aB]
  refine vn (cB tT (by decide) (by simp) (.inl rfl)) rfl ?_
  dsimp only [aA, aB]
  refine vn (aR Pa (by omega) (by omega) hy) rfl ?_
  dsimp only [aA, aB]
  refine vn (cB uW (by decide) (by simp) (.inl rfl)) rfl ?_
  dsimp only [aA, aB]
  refine aC (MV x y B (ha x (List.mem_of_getElem? hx)) (hb y (List.mem_of_getElem? hy)) hB) rfl ?_
  dsimp only [aA, aB]
  refine vn Ae rfl ?_
  dsimp only [aA, aB]
  refine vs _ rfl (fun h15 => ?_) (fun h15 => ?_)
  ·rw [decide_eq_false (fun e => h15 (by
    rw [e, List.getElem?_map, hy] at hx
    simpa using hx.symm))]; exact aJ rfl
  refine vn (aE (by omega) (by omega)) rfl ?_
  dsimp only [aA, aB]
  exact aO rfl ⟨⟨i + 1, by omega, fun j x' y' hj hx' hy' => by
   rcases Nat.lt_or_ge j i with h | h
   ·exact he j x' y' h hx' hy'
   ·rw [show j = i by omega] at hx' hy'
    rw [hx] at hx'; rw [hy] at hy'
    simp only [Option.some.injEq] at hx' hy'
    subst hx' hy'
    exact Decidable.of_not_not h15⟩, aL.rfl, by show a.length - (i + 1) < a.length - i; omega⟩
 rw [decide_eq_true (Kp hlen fun j x y hx hy => he j x y (by have := (List.getElem?_eq_some_iff.1 hx).1; omega) hx hy)]; exact aJ rfl
end Go.Sy
