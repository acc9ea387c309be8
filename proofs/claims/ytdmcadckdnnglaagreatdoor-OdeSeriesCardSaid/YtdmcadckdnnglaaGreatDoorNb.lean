/- Taking away: less, subtract, giveBack. Division.
-/
import Derived.Test.YtdmcadckdnnglaaGreatDoorNa
import Derived.Test.YtdmcadckdnnglaaGreatDoorPa
set_option linter.unusedVariables false
set_option linter.unusedSimpArgs false
namespace Go.Sy
open Go Go.Proofs Tryz Ord
def PW : Tr := .need (.idx 20 (.u 8 0)) (.indexAddr 33 (.tmp 51) (.tmp 52)) 0 false (.need (.ldrow 20 (.u 8 0) 0 1 false) (.load 255 (.tmp 53)) 255 false (.need (.prim [(W 21 0), (W 15 0)] none) (.binOp .sub 255 (.tmp 54) (.tmp 55) 255) 255 false (.need (.idx 20 (.u 8 0)) (.indexAddr 33 (.tmp 51) (.tmp 52)) 0 false (.need (.strow 20 1 (.u 8 0) 0 [(.u 22 0)]) (.store 255 (.tmp 57) (.tmp 56)) 0 false (.need (.prim [(W 8 0), (WK (1))] none) (.binOp .add 3 (.tmp 19) (.const (I3 (1))) 3) 3 false (.back 0 [(.w (.one (.c (.k (.int .u32 (1)))))), (.w (W 24 0)), (.row 23)]))))))
def QZ : Tr := .need (.idx 9 (.u 8 0)) (.indexAddr 33 (.tmp 51) (.tmp 52)) 0 false (.need (.ldrow 9 (.u 8 0) 0 1 false) (.load 255 (.tmp 53)) 255 false (.need (.prim [(W 18 0), (W 15 0)] none) (.binOp .sub 255 (.tmp 54) (.tmp 55) 255) 255 false (.need (.idx 9 (.u 8 0)) (.indexAddr 33 (.tmp 51) (.tmp 52)) 0 false (.need (.strow 9 1 (.u 8 0) 0 [(.u 19 0)]) (.store 255 (.tmp 57) (.tmp 56)) 0 false (.need (.prim [(W 8 0), (WK (1))] none) (.binOp .add 3 (.tmp 19) (.const (I3 (1))) 3) 3 false (.back 0 [(.w (.one (.c (.k (.int .u32 (0)))))), (.w (W 21 0)), (.row 20)]))))))
def Rr : Tr := .need (.prim [(W 16 0), (W 15 0)] none) (.binOp .lss 255 (.tmp 40) (.tmp 41) 255) 4 false (.split (.u 17 0) (.need (.idx 9 (.u 8 0)) (.indexAddr 33 (.tmp 45) (.tmp 46)) 0 false (.need (.ldrow 9 (.u 8 0) 0 1 false) (.load 255 (.tmp 47)) 255 false (.need (.prim [(W 18 0), (.one (.c (.k (.int .u32 (1000000000)))))] none) (.binOp .add 255 (.tmp 48) (.const (.int .u32 (1000000000))) 255) 255 false (.need (.idx 9 (.u 8 0)) (.indexAddr 33 (.tmp 43) (.tmp 44)) 0 false (.need (.strow 9 1 (.u 8 0) 0 [(.u 19 0)]) (.store 255 (.tmp 50) (.tmp 49)) 0 false PW))))) QZ)
def SK : Tr := .need (.idx 18 (.u 8 0)) (.indexAddr 33 (.tmp 51) (.tmp 52)) 0 false (.need (.ldrow 18 (.u 8 0) 0 1 false) (.load 255 (.tmp 53)) 255 false (.need (.prim [(W 19 0), (W 7 0)] none) (.binOp .sub 255 (.tmp 54) (.tmp 55) 255) 255 false (.need (.idx 18 (.u 8 0)) (.indexAddr 33 (.tmp 51) (.tmp 52)) 0 false (.need (.strow 18 1 (.u 8 0) 0 [(.u 20 0)]) (.store 255 (.tmp 57) (.tmp 56)) 0 false (.need (.prim [(W 8 0), (WK (1))] none) (.binOp .add 3 (.tmp 19) (.const (I3 (1))) 3) 3 false (.back 0 [(.w (.one (.c (.k (.int .u32 (1)))))), (.w (W 22 0)), (.row 21)]))))))
def Sa : Tr := .need (.idx 9 (.u 8 0)) (.indexAddr 33 (.tmp 51) (.tmp 52)) 0 false (.need (.ldrow 9 (.u 8 0) 0 1 false) (.load 255 (.tmp 53)) 255 false (.need (.prim [(W 16 0), (W 7 0)] none) (.binOp .sub 255 (.tmp 54) (.tmp 55) 255) 255 false (.need (.idx 9 (.u 8 0)) (.indexAddr 33 (.tmp 51) (.tmp 52)) 0 false (.need (.strow 9 1 (.u 8 0) 0 [(.u 17 0)]) (.store 255 (.tmp 57) (.tmp 56)) 0 false (.need (.prim [(W 8 0), (WK (1))] none) (.binOp .add 3 (.tmp 19) (.const (I3 (1))) 3) 3 false (.back 0 [(.w (.one (.c (.k (.int .u32 (0)))))), (.w (W 19 0)), (.row 18)]))))))
def TY : Tr := .need (.prim [(W 14 0), (W 7 0)] none) (.binOp .lss 255 (.tmp 40) (.tmp 41) 255) 4 false (.split (.u 15 0) (.need (.idx 9 (.u 8 0)) (.indexAddr 33 (.tmp 45) (.tmp 46)) 0 false (.need (.ldrow 9 (.u 8 0) 0 1 false) (.load 255 (.tmp 47)) 255 false (.need (.prim [(W 16 0), (.one (.c (.k (.int .u32 (1000000000)))))] none) (.binOp .add 255 (.tmp 48) (.const (.int .u32 (1000000000))) 255) 255 false (.need (.idx 9 (.u 8 0)) (.indexAddr 33 (.tmp 43) (.tmp 44)) 0 false (.need (.strow 9 1 (.u 8 0) 0 [(.u 17 0)]) (.store 255 (.tmp 50) (.tmp 49)) 0 false SK))))) Sa)
def Vy : Tr := .need (.prim [(W 8 0), (W 11 0)] none) (.binOp .lss 3 (.tmp 23) (.tmp 26) 3) 4 false (.split (.u 12 0) (.need (.prim [(W 1 0), (W 8 0)] none) (.indexAddr 33 (.tmp 30) (.tmp 31)) 0 false (.need (.prim [(W 13 0)] none) (.load 255 (.tmp 32)) 255 false (.need (.prim [(W 7 0), (W 14 0)] none) (.binOp .add 255 (.tmp 28) (.tmp 33) 255) 255 false (.need (.idx 9 (.u 8 0)) (.indexAddr 33 (.tmp 37) (.tmp 38)) 0 false (.need (.ldrow 9 (.u 8 0) 0 1 false) (.load 255 (.tmp 39)) 255 false Rr))))) (.need (.prim [(W 7 0), (.one (.c (.k (.int .u32 (0)))))] none) (.binOp .eql 255 (.tmp 35) (.const (.int .u32 (0))) 255) 4 false (.split (.u 13 0) (.need (.call 197 [(.one (.c (.sr 1 9)))] [(some 1)]) (.call ⟨.value (.func 197), #[(.tmp 59)], #[33]⟩) 35 true (.ret [(.agg [(U 14 0)])])) (.need (.idx 9 (.u 8 0)) (.indexAddr 33 (.tmp 37) (.tmp 38)) 0 false (.need (.ldrow 9 (.u 8 0) 0 1 false) (.load 255 (.tmp 39)) 255 false TY)))))
def Ur : Tr := .need (.rop 3 255 1 none [] [(W 0 0)] [none]) (.call ⟨.builtin .copy, #[(.tmp 13), (.tmp 15)], #[33, 33]⟩) 3 false (.need (.lenrow 5) (.call ⟨.builtin .len, #[(.tmp 17)], #[33]⟩) 3 false (.loop 0 [(.w (.one (.c (.k (.int .u32 (0)))))), (.w (WK (0))), (.row 5)] (.need (.prim [(W 8 0), (W 6 0)] none) (.binOp .lss 3 (.tmp 19) (.tmp 18) 3) 0 false (.split (.u 10 0) (.need (.prim [(W 1 0)] none) (.call ⟨.builtin .len, #[(.tmp 25)], #[33]⟩) 3 false Vy) (.need (.call 197 [(.one (.c (.sr 1 9)))] [(some 1)]) (.call ⟨.value (.func 197), #[(.tmp 59)], #[33]⟩) 35 true (.ret [(.agg [(U 11 0)])]))))))
def Xx : Tr := .need (.prim [(W 0 0)] none) (.call ⟨.builtin .len, #[(.tmp 10)], #[33]⟩) 3 false (.need (.make [(.int .u32 (0))] 4 (.u 2 0) (.u 2 0)) (.makeSlice 33 (.tmp 11) (.tmp 11)) 33 false Ur)
theorem PS : aM prog f194 (fun _ => none) [.v (some 1), .v (some 1)] = Xx := by kernel_rfl
def Sw : Tr := .split (.u 23 0) (.need (.prim [(W 21 0), (WK (1000000000))] none) (.binOp .add 2 (.tmp 44) (.const (I3 (1000000000))) 2) 2 false (.need (.prim [(W 24 0)] none) (.convert 2 255 (.tmp 48)) 255 false (.need (.idx 7 (.u 6 0)) (.indexAddr 33 (.tmp 46) (.tmp 47)) 0 false (.need (.strow 7 1 (.u 6 0) 0 [(.u 25 0)]) (.store 255 (.tmp 50) (.tmp 49)) 0 false (.need (.prim [(W 6 0), (WK (1))] none) (.binOp .add 3 (.tmp 13) (.const (I3 (1))) 3) 3 false (.back 0 [(.w (W 22 0)), (.w (WK (1))), (.w (W 27 0)), (.row 26)])))))) (.need (.prim [(W 21 0)] none) (.convert 2 255 (.tmp 48)) 255 false (.need (.idx 7 (.u 6 0)) (.indexAddr 33 (.tmp 46) (.tmp 47)) 0 false (.need (.strow 7 1 (.u 6 0) 0 [(.u 24 0)]) (.store 255 (.tmp 50) (.tmp 49)) 0 false (.need (.prim [(W 6 0), (WK (1))] none) (.binOp .add 3 (.tmp 13) (.const (I3 (1))) 3) 3 false (.back 0 [(.w (W 22 0)), (.w (WK (0))), (.w (W 26 0)), (.row 25)])))))
def Ri : Tr := .need (.prim [(W 16 0)] none) (.convert 255 2 (.tmp 32)) 2 false (.need (.prim [(W 15 0), (.one (.c (.k (.int .u64 (1000000000)))))] none) (.binOp .rem 254 (.tmp 34) (.const (.int .u64 (1000000000))) 254) 254 false (.need (.prim [(W 18 0)] none) (.convert 254 2 (.tmp 35)) 2 false (.need (.prim [(W 17 0), (W 19 0)] none) (.binOp .sub 2 (.tmp 33) (.tmp 36) 2) 2 false (.need (.prim [(W 20 0), (W 5 0)] none) (.binOp .sub 2 (.tmp 37) (.tmp 38) 2) 2 false (.need (.prim [(W 15 0), (.one (.c (.k (.int .u64 (1000000000)))))] none) (.binOp .quo 254 (.tmp 40) (.const (.int .u64 (1000000000))) 254) 254 false (.need (.prim [(W 21 0), (WK (0))] none) (.binOp .lss 2 (.tmp 42) (.const (I3 (0))) 2) 4 false Sw))))))
def UW : Tr := .need (.prim [(W 1 0), (W 6 0)] none) (.indexAddr 33 (.tmp 22) (.tmp 23)) 0 false (.need (.prim [(W 11 0)] none) (.load 255 (.tmp 24)) 255 false (.need (.prim [(W 12 0)] none) (.convert 255 254 (.tmp 25)) 254 false (.need (.prim [(W 2 0), (W 13 0)] none) (.binOp .mul 254 (.tmp 21) (.tmp 26) 254) 254 false (.need (.prim [(W 4 0), (W 14 0)] none) (.binOp .add 254 (.tmp 20) (.tmp 27) 254) 254 false (.need (.idx 7 (.u 6 0)) (.indexAddr 33 (.tmp 29) (.tmp 30)) 0 false (.need (.ldrow 7 (.u 6 0) 0 1 false) (.load 255 (.tmp 31)) 255 false Ri))))))
def PU : Tr := .split (.u 18 0) (.need (.prim [(W 16 0), (WK (1000000000))] none) (.binOp .add 2 (.tmp 44) (.const (I3 (1000000000))) 2) 2 false (.need (.prim [(W 19 0)] none) (.convert 2 255 (.tmp 48)) 255 false (.need (.idx 7 (.u 6 0)) (.indexAddr 33 (.tmp 46) (.tmp 47)) 0 false (.need (.strow 7 1 (.u 6 0) 0 [(.u 20 0)]) (.store 255 (.tmp 50) (.tmp 49)) 0 false (.need (.prim [(W 6 0), (WK (1))] none) (.binOp .add 3 (.tmp 13) (.const (I3 (1))) 3) 3 false (.back 0 [(.w (W 17 0)), (.w (WK (1))), (.w (W 22 0)), (.row 21)])))))) (.need (.prim [(W 16 0)] none) (.convert 2 255 (.tmp 48)) 255 false (.need (.idx 7 (.u 6 0)) (.indexAddr 33 (.tmp 46) (.tmp 47)) 0 false (.need (.strow 7 1 (.u 6 0) 0 [(.u 19 0)]) (.store 255 (.tmp 50) (.tmp 49)) 0 false (.need (.prim [(W 6 0), (WK (1))] none) (.binOp .add 3 (.tmp 13) (.const (I3 (1))) 3) 3 false (.back 0 [(.w (W 17 0)), (.w (WK (0))), (.w (W 21 0)), (.row 20)])))))
def SR : Tr := .need (.prim [(W 11 0)] none) (.convert 255 2 (.tmp 32)) 2 false (.need (.prim [(W 4 0), (.one (.c (.k (.int .u64 (1000000000)))))] none) (.binOp .rem 254 (.tmp 34) (.const (.int .u64 (1000000000))) 254) 254 false (.need (.prim [(W 13 0)] none) (.convert 254 2 (.tmp 35)) 2 false (.need (.prim [(W 12 0), (W 14 0)] none) (.binOp .sub 2 (.tmp 33) (.tmp 36) 2) 2 false (.need (.prim [(W 15 0), (W 5 0)] none) (.binOp .sub 2 (.tmp 37) (.tmp 38) 2) 2 false (.need (.prim [(W 4 0), (.one (.c (.k (.int .u64 (1000000000)))))] none) (.binOp .quo 254 (.tmp 40) (.const (.int .u64 (1000000000))) 254) 254 false (.need (.prim [(W 16 0), (WK (0))] none) (.binOp .lss 2 (.tmp 42) (.const (I3 (0))) 2) 4 false PU))))))
def WT : Tr := .need (.prim [(W 6 0), (W 3 0)] none) (.binOp .lss 3 (.tmp 13) (.tmp 12) 3) 0 false (.split (.u 8 0) (.need (.prim [(W 1 0)] none) (.call ⟨.builtin .len, #[(.tmp 17)], #[33]⟩) 3 false (.need (.prim [(W 6 0), (W 9 0)] none) (.binOp .lss 3 (.tmp 16) (.tmp 18) 3) 4 false (.split (.u 10 0) UW (.need (.idx 7 (.u 6 0)) (.indexAddr 33 (.tmp 29) (.tmp 30)) 0 false (.need (.ldrow 7 (.u 6 0) 0 1 false) (.load 255 (.tmp 31)) 255 false SR))))) (.need (.prim [(W 5 0), (WK (0))] none) (.binOp .neq 2 (.tmp 52) (.const (I3 (0))) 2) 4 false (.retr [(W 9 0)] 7)))
def UB : Tr := .need (.lenrow 0) (.call ⟨.builtin .len, #[(.tmp 11)], #[33]⟩) 3 false (.loop 0 [(.w (.one (.c (.k (.int .u64 (0)))))), (.w (WK (0))), (.w (WK (0))), (.row 0)] WT)
theorem Eh : Dy prog f251 (fun _ => none) [.lent 255 1, .v none, .v none] = UB := by kernel_rfl
def QQ : Tr := .need (.prim [(W 13 0), (.one (.c (.k (.int .u32 (1000000000)))))] none) (.binOp .geq 255 (.tmp 29) (.const (.int .u32 (1000000000))) 255) 4 false (.split (.u 14 0) (.need (.prim [(W 13 0), (.one (.c (.k (.int .u32 (1000000000)))))] none) (.binOp .sub 255 (.tmp 31) (.const (.int .u32 (1000000000))) 255) 255 false (.need (.idx 5 (.u 4 0)) (.indexAddr 33 (.tmp 33) (.tmp 34)) 0 false (.need (.strow 5 1 (.u 4 0) 0 [(.u 15 0)]) (.store 255 (.tmp 36) (.tmp 35)) 0 false (.need (.prim [(W 4 0), (WK (1))] none) (.binOp .add 3 (.tmp 10) (.const (I3 (1))) 3) 3 false (.back 0 [(.w (.one (.c (.k (.int .u32 (1)))))), (.w (W 17 0)), (.row 16)]))))) (.need (.idx 5 (.u 4 0)) (.indexAddr 33 (.tmp 33) (.tmp 34)) 0 false (.need (.strow 5 1 (.u 4 0) 0 [(.u 13 0)]) (.store 255 (.tmp 36) (.tmp 35)) 0 false (.need (.prim [(W 4 0), (WK (1))] none) (.binOp .add 3 (.tmp 10) (.const (I3 (1))) 3) 3 false (.back 0 [(.w (.one (.c (.k (.int .u32 (0)))))), (.w (W 16 0)), (.row 15)])))))
def QL : Tr := .need (.prim [(W 8 0), (.one (.c (.k (.int .u32 (1000000000)))))] none) (.binOp .geq 255 (.tmp 29) (.const (.int .u32 (1000000000))) 255) 4 false (.split (.u 11 0) (.need (.prim [(W 8 0), (.one (.c (.k (.int .u32 (1000000000)))))] none) (.binOp .sub 255 (.tmp 31) (.const (.int .u32 (1000000000))) 255) 255 false (.need (.idx 5 (.u 4 0)) (.indexAddr 33 (.tmp 33) (.tmp 34)) 0 false (.need (.strow 5 1 (.u 4 0) 0 [(.u 12 0)]) (.store 255 (.tmp 36) (.tmp 35)) 0 false (.need (.prim [(W 4 0), (WK (1))] none) (.binOp .add 3 (.tmp 10) (.const (I3 (1))) 3) 3 false (.back 0 [(.w (.one (.c (.k (.int .u32 (1)))))), (.w (W 14 0)), (.row 13)]))))) (.need (.idx 5 (.u 4 0)) (.indexAddr 33 (.tmp 33) (.tmp 34)) 0 false (.need (.strow 5 1 (.u 4 0) 0 [(.u 8 0)]) (.store 255 (.tmp 36) (.tmp 35)) 0 false (.need (.prim [(W 4 0), (WK (1))] none) (.binOp .add 3 (.tmp 10) (.const (I3 (1))) 3) 3 false (.back 0 [(.w (.one (.c (.k (.int .u32 (0)))))), (.w (W 13 0)), (.row 12)])))))
def Un : Tr := .need (.prim [(W 7 0), (W 3 0)] none) (.binOp .add 255 (.tmp 16) (.tmp 17) 255) 255 false (.need (.prim [(W 1 0)] none) (.call ⟨.builtin .len, #[(.tmp 20)], #[33]⟩) 3 false (.need (.prim [(W 4 0), (W 9 0)] none) (.binOp .lss 3 (.tmp 19) (.tmp 21) 3) 4 false (.split (.u 10 0) (.need (.prim [(W 1 0), (W 4 0)] none) (.indexAddr 33 (.tmp 24) (.tmp 25)) 0 false (.need (.prim [(W 11 0)] none) (.load 255 (.tmp 26)) 255 false (.need (.prim [(W 8 0), (W 12 0)] none) (.binOp .add 255 (.tmp 23) (.tmp 27) 255) 255 false QQ))) QL)))
def Vo : Tr := .need (.lenrow 0) (.call ⟨.builtin .len, #[(.tmp 8)], #[33]⟩) 3 false (.loop 0 [(.w (.one (.c (.k (.int .u32 (0)))))), (.w (WK (0))), (.row 0)] (.need (.prim [(W 4 0), (W 2 0)] none) (.binOp .lss 3 (.tmp 10) (.tmp 9) 3) 0 false (.split (.u 6 0) (.need (.idx 5 (.u 4 0)) (.indexAddr 33 (.tmp 13) (.tmp 14)) 0 false (.need (.ldrow 5 (.u 4 0) 0 1 false) (.load 255 (.tmp 15)) 255 false Un)) (.need (.prim [(W 3 0), (.one (.c (.k (.int .u32 (0)))))] none) (.binOp .neq 255 (.tmp 38) (.const (.int .u32 (0))) 255) 4 false (.retr [(W 7 0)] 5)))))
theorem Fe : Dy prog f252 (fun _ => none) [.lent 255 1, .v none] = Vo := by kernel_rfl
structure AI (xs ys : List Nat) (i b : Nat) (os : List Nat) : Prop where
 h : fS 1000000000 xs ys 1 i 0 b os
theorem AI.init {xs : List Nat} (hx : Dg xs) (ys : List Nat) : AI xs ys 0 0 xs := ⟨fS.init hx ys 1⟩
theorem AI.next {xs ys os : List Nat} {i b x y z b' : Nat} (h : AI xs ys i b os) (hx : xs[i]? = some x) (hy : ys[i]?.getD 0 = y) (hyB : y < 1000000000) (hz : z < 1000000000) (hb : b' ≤ 1) (he : z + y + b = x + 1000000000 * b') :
  AI xs ys (i + 1) b' (os.set i z) := by
 have := h.h.next (by omega) (by omega) hx hy hyB hz hb (by rw [Nat.zero_add, Nat.one_mul, Nat.mod_eq_of_lt hyB]; exact he)
 rw [Nat.zero_add, Nat.one_mul, Nat.div_eq_of_lt hyB] at this
 exact ⟨this⟩
theorem AI.fin {xs ys os : List Nat} {i b : Nat} (h : AI xs ys i b os) (hle : lv ys ≤ lv xs) (he : b = 0 ∧ ys.length ≤ i ∨ i = xs.length ∧ ys.length ≤ xs.length) : lv os + lv ys = lv xs := by
 have h1 := h.h.eq
 rw [Nat.one_mul, Nat.zero_add] at h1
 rcases he with ⟨rfl, hl⟩ | ⟨rfl, hl⟩
 ·rw [Nat.mul_zero, Nat.add_zero, List.take_of_length_le hl] at h1
  have e : ∀ l : List Nat, i ≤ l.length → lv l = lv (l.take i) + 1000000000 ^ i * lv (l.drop i) := fun l hl => by
   conv => lhs; rw [← List.take_append_drop i l]
   rw [pN, List.length_take, Nat.min_eq_left hl]
  rw [e os (by rw [h.h.len]; exact h.h.le), e xs h.h.le, h.h.rest]
  simp only [lv] at h1 ⊢
  omega
 ·rw [List.take_of_length_le (by rw [h.h.len]; omega), List.take_length, List.take_of_length_le hl] at h1
  have h2 := DB.lt (by omega) h.h.dg
  rw [h.h.len] at h2
  have hb := h.h.b1
  rcases (by omega : b = 0 ∨ b = 1) with rfl | rfl
  ·show val _ os + val _ ys = val _ xs
   omega
  ·have hle : val 1000000000 ys ≤ val 1000000000 xs := hle
   omega
theorem lM {a b : Nat} (h : a ≤ b) : (dg a).length ≤ (dg b).length := gH (by omega) (Nat.lt_of_le_of_lt h (iE (by omega) b))
theorem Br (a b : Nat) (hab : b ≤ a) (ha : 0 < a) (hs : (dg a).length < 1099511627776) : aN prog 194 [(mT a : aH), (mT b : aH)] (.ret [mT (a - b)]) := by
 refine aD (args := [.v (some 1), .v (some 1)]) (ins := [.v (mT a), .v (mT b)]) (hints := (fun _ => none)) fo (by kernel_rfl) func194 ⟨rfl, rfl, trivial⟩ ?_
 rw [PS]
 dsimp only [List.map, In.env, aA, aB]
 have hlen := lM hab
 have hane : dg a ≠ [] := fun e => by have := tI.1 e; omega
 refine vn (aK cG (List.length_map _)) rfl ?_
 dsimp only [aA, aB]
 refine yF (f := fun d : Nat => [aF.int .u32 (d : Int)]) 0 rfl rfl rfl rfl (by omega) (by simp only [maxLen]; omega) ?_
 dsimp only [aA, aB]
 refine JN (xs := dg a) (ws := dg a) (fun _ => rfl) rfl rfl cG (by simp) (by simpa using hane) (by simp) ?_
 dsimp only [aA, aB]
 refine DV rfl (List.length_map _) ?_
 dsimp only [aA, aB]
 refine aY {g : Nat × Nat × List Nat // AI (dg a) (dg b) g.1 g.2.1 g.2.2} (fun g => [.one (.int .u32 g.1.2.1), .one (.int .i64 g.1.1), .rows (rT g.1.2.2)]) (fun g => (dg a).length - g.1.1) ⟨(0, 0, dg a), AI.init (iD a) _⟩ aL.rfl (fun _ => rfl) ?_
 rintro ⟨⟨i, c, os⟩, hI⟩
 dsimp only [aA, aB] at hI ⊢
 have hol := hI.h.len
 have hil := hI.h.le
 have hc := hI.h.b1
 have hle : lv (dg b) ≤ lv (dg a) := by rw [fA, fA]; exact hab
 have fin : (c = 0 ∧ (dg b).length ≤ i ∨ i = (dg a).length ∧ (dg b).length ≤ (dg a).length) → lv os = a - b := fun h => by
  have := hI.fin hle h
  rw [fA, fA] at this
  omega
 refine vn aU rfl ?_
 dsimp only [aA, aB]
 refine vs _ rfl (fun h6 => ?_) (fun h6 => ?_)
 ·have hx : (dg a)[i]? = some ((dg a)[i]'(by omega)) := List.getElem?_eq_getElem (by omega)
  generalize (dg a)[i]'(by omega) = x at hx
  have hxB := (iD a).get hx
  have ho := hI.h.get hx
  refine vn (aK cG (List.length_map _)) rfl ?_
  dsimp only [aA, aB]
  refine vn aU rfl ?_
  dsimp only [aA, aB]
  refine vs _ rfl (fun h9 => ?_) (fun h9 => ?_)
  ·have hy : (dg b)[i]? = some ((dg b)[i]'(by omega)) := List.getElem?_eq_getElem (by omega)
   generalize (dg b)[i]'(by omega) = y at hy
   have hyB := (iD b).get hy
   refine vn (aR cG (by omega) (by omega) hy) rfl ?_
   dsimp only [aA, aB]
   refine vn (bA rE) rfl ?_
   dsimp only [aA, aB]
   refine vn (iX (by omega) (by omega)) rfl ?_
   dsimp only [aA, aB]
   refine bW rfl rfl (by omega) (by first | omega | (rw [List.length_set]; omega)) ?_
   refine mX rfl rfl (by omega) (by omega) ho rfl ?_
   dsimp only [aA, aB]
   refine vn aU rfl ?_
   dsimp only [aA, aB]
   refine vs _ rfl (fun h16 => ?_) (fun h16 => ?_)
   ·refine bW rfl rfl (by omega) (by first | omega | (rw [List.length_set]; omega)) ?_
    refine mX rfl rfl (by omega) (by omega) ho rfl ?_
    dsimp only [aA, aB]
    refine vn (iX (by omega) (by omega)) rfl ?_
    dsimp only [aA, aB]
    refine bW rfl rfl (by omega) (by first | omega | (rw [List.length_set]; omega)) ?_
    refine jM (d' := x + 1000000000) rfl rfl (by omega) (by omega) ho rfl ?_
    dsimp only [aA, aB]
    refine bW rfl rfl (by omega) (by first | omega | (rw [List.length_set]; omega)) ?_
    refine Hx (d := x + 1000000000) rfl rfl (by omega) (by omega) (List.getElem?_set_self (by omega)) (.inr rfl) rfl ?_
    dsimp only [aA, aB]
    refine vn (iW (by omega) (by omega)) rfl ?_
    dsimp only [aA, aB]
    refine bW rfl rfl (by omega) (by first | omega | (rw [List.length_set]; omega)) ?_
    refine jM (d := x + 1000000000) (d' := x + 1000000000 - (y + c)) rfl rfl (by omega) (by omega) (List.getElem?_set_self (by omega)) ?_ ?_
    ·show [aF.int .u32 _] = [aF.int .u32 _]
     congr 2; omega
    rw [List.set_set]
    dsimp only [aA, aB]
    refine vn (aE (by omega) (by omega)) rfl ?_
    dsimp only [aA, aB]
    exact aO rfl ⟨⟨(i + 1, 1, os.set i (x + 1000000000 - (y + c))), hI.next (b' := 1) (z := x + 1000000000 - (y + c)) hx (by rw [hy]; rfl) hyB (by omega) (by omega) (by omega)⟩, aL.rfl, by show (dg a).length - (i + 1) < (dg a).length - i; omega⟩
   refine bW rfl rfl (by omega) (by first | omega | (rw [List.length_set]; omega)) ?_
   refine mX rfl rfl (by omega) (by omega) ho rfl ?_
   dsimp only [aA, aB]
   refine vn (iW (by omega) (by omega)) rfl ?_
   dsimp only [aA, aB]
   refine bW rfl rfl (by omega) (by first | omega | (rw [List.length_set]; omega)) ?_
   refine jM (d' := x - (y + c)) rfl rfl (by omega) (by omega) ho ?_ ?_
   ·show [aF.int .u32 _] = [aF.int .u32 _]
    congr 2; omega
   dsimp only [aA, aB]
   refine vn (aE (by omega) (by omega)) rfl ?_
   dsimp only [aA, aB]
   exact aO rfl ⟨⟨(i + 1, 0, os.set i (x - (y + c))), hI.next (b' := 0) (z := x - (y + c)) hx (by rw [hy]; rfl) hyB (by omega) (by omega) (by omega)⟩, aL.rfl, by show (dg a).length - (i + 1) < (dg a).length - i; omega⟩
  refine vn aX rfl ?_
  dsimp only [aA, aB]
  refine vs _ rfl (fun h37 => ?_) (fun h37 => ?_)
  ·refine aC (gD os hI.h.dg (by omega)) rfl ?_
   dsimp only [aA, aB]
   refine aJ ?_
   rw [fin (.inl (by omega))]
   rfl
  have hnone : (dg b)[i]? = none := List.getElem?_eq_none_iff.2 (by omega)
  refine bW rfl rfl (by omega) (by first | omega | (rw [List.length_set]; omega)) ?_
  refine mX rfl rfl (by omega) (by omega) ho rfl ?_
  dsimp only [aA, aB]
  refine vn aU rfl ?_
  dsimp only [aA, aB]
  refine vs _ rfl (fun h43 => ?_) (fun h43 => ?_)
  ·refine bW rfl rfl (by omega) (by first | omega | (rw [List.length_set]; omega)) ?_
   refine mX rfl rfl (by omega) (by omega) ho rfl ?_
   dsimp only [aA, aB]
   refine vn (iX (by omega) (by omega)) rfl ?_
   dsimp only [aA, aB]
   refine bW rfl rfl (by omega) (by first | omega | (rw [List.length_set]; omega)) ?_
   refine jM (d' := x + 1000000000) rfl rfl (by omega) (by omega) ho rfl ?_
   dsimp only [aA, aB]
   refine bW rfl rfl (by omega) (by first | omega | (rw [List.length_set]; omega)) ?_
   refine Hx (d := x + 1000000000) rfl rfl (by omega) (by omega) (List.getElem?_set_self (by omega)) (.inr rfl) rfl ?_
   dsimp only [aA, aB]
   refine vn (iW (by omega) (by omega)) rfl ?_
   dsimp only [aA, aB]
   refine bW rfl rfl (by omega) (by first | omega | (rw [List.length_set]; omega)) ?_
   refine jM (d := x + 1000000000) (d' := x + 1000000000 - c) rfl rfl (by omega) (by omega) (List.getElem?_set_self (by omega)) ?_ ?_
   ·show [aF.int .u32 _] = [aF.int .u32 _]
    congr 2; omega
   rw [List.set_set]
   dsimp only [aA, aB]
   refine vn (aE (by omega) (by omega)) rfl ?_
   dsimp only [aA, aB]
   exact aO rfl ⟨⟨(i + 1, 1, os.set i (x + 1000000000 - c)), hI.next (b' := 1) (z := x + 1000000000 - c) (y := 0) hx (by rw [hnone]; rfl) (by omega) (by omega) (by omega) (by omega)⟩, aL.rfl, by show (dg a).length - (i + 1) < (dg a).length - i; omega⟩
  refine bW rfl rfl (by omega) (by first | omega | (rw [List.length_set]; omega)) ?_
  refine mX rfl rfl (by omega) (by omega) ho rfl ?_
  dsimp only [aA, aB]
  refine vn (iW (by omega) (by omega)) rfl ?_
  dsimp only [aA, aB]
  refine bW rfl rfl (by omega) (by first | omega | (rw [List.length_set]; omega)) ?_
  refine jM (d' := x - c) rfl rfl (by omega) (by omega) ho ?_ ?_
  ·show [aF.int .u32 _] = [aF.int .u32 _]
   congr 2; omega
  dsimp only [aA, aB]
  refine vn (aE (by omega) (by omega)) rfl ?_
  dsimp only [aA, aB]
  exact aO rfl ⟨⟨(i + 1, 0, os.set i (x - c)), hI.next (b' := 0) (z := x - c) (y := 0) hx (by rw [hnone]; rfl) (by omega) (by omega) (by omega) (by omega)⟩, aL.rfl, by show (dg a).length - (i + 1) < (dg a).length - i; omega⟩
 refine aC (gD os hI.h.dg (by omega)) rfl ?_
 dsimp only [aA, aB]
 refine aJ ?_
 rw [fin (.inr ⟨by omega, hlen⟩)]
 rfl
theorem Gg {b : Nat} {p : Prop} [Decidable p] (h : b = if p then 1 else 0) : decide ((b : Int) ≠ 0) = decide p := by
 subst h
 by_cases hp : p <;> simp [hp]
set_option maxHeartbeats 1000000 in
theorem EU (xs ys : List Nat) (t : Nat) (hx : Dg xs) (hy : Dg ys) (ht : t < 1000000000) (hl : ys.length < xs.length) (hs : xs.length < 1099511627776) : pO prog 251 255 1 [] [(.one (.slice 1 (rT ys)) : aH), (.one (.int .u64 t) : aH)] (rT xs) [.one (.bool (decide (lv xs < t * lv ys)))] (rT (pd 1000000000 xs.length (lv xs + 1000000000 ^ xs.length * (if lv xs < t * lv ys then 1 else 0) - t * lv ys))) := by
 refine wI (a1 := []) (a2 := [.v none, .v none]) (i1 := []) (i2 := [.v (.one (.slice 1 (rT ys))), .v (.one (.int .u64 t))]) (hints := (fun _ => none)) fo (by kernel_rfl) func251 trivial ⟨rfl, rfl, trivial⟩ (by kernel_rfl) ?_ ?_ ?_ ?_
 ·simp [rT]
 ·simp [rT]
 ·simp [rT]
 dsimp only [aA, aB]
 rw [Eh]
 dsimp only [List.map, In.env, aA, aB]
 refine DV rfl (List.length_map _) ?_
 dsimp only [aA, aB]
 refine aY {g : Nat × Nat × Nat × List Nat // fS 1000000000 xs ys t g.1 g.2.1 g.2.2.1 g.2.2.2} (fun g => [.one (.int .u64 g.1.2.1), .one (.int .i64 g.1.2.2.1), .one (.int .i64 g.1.1), .rows (rT g.1.2.2.2)]) (fun g => xs.length - g.1.1) ⟨(0, 0, 0, xs), fS.init hx _ _⟩ aL.rfl (fun _ => rfl) ?_
 rintro ⟨⟨i, c, b, os⟩, hI⟩
 dsimp only [aA, aB] at hI ⊢
 have hol := hI.len
 have hil := hI.le
 have hc := hI.c1
 have hb := hI.b1
 refine vn aU rfl ?_
 dsimp only [aA, aB]
 refine vs _ rfl (fun h3 => ?_) (fun h3 => ?_)
 ·have hgx : xs[i]? = some (xs[i]'(by omega)) := List.getElem?_eq_getElem (by omega)
  generalize xs[i]'(by omega) = x at hgx
  have hxB := hx.get hgx
  have ho := hI.get hgx
  refine vn (aK cG (List.length_map _)) rfl ?_
  dsimp only [aA, aB]
  refine vn aU rfl ?_
  dsimp only [aA, aB]
  refine vs _ rfl (fun h6 => ?_) (fun h6 => ?_)
  ·have hgy : ys[i]? = some (ys[i]'(by omega)) := List.getElem?_eq_getElem (by omega)
   generalize ys[i]'(by omega) = y at hgy
   have hyB := hy.get hgy
   have hty : t * y ≤ 999999999 * 999999999 := Nat.mul_le_mul (by omega) (by omega)
   obtain ⟨w, hw⟩ : ∃ w, c + t * y = w := ⟨_, rfl⟩
   have hwB : w < 1000000000 * 1000000000 := by omega
   have hm : ∀ z b' : Nat, z < 1000000000 → b' ≤ 1 → z + w % 1000000000 + b = x + 1000000000 * b' → fS 1000000000 xs ys t (i + 1) (w / 1000000000) b' (os.set i z) := fun z b' h1 h2 h3 => by
    have := hI.next (by omega) ht hgx (by rw [hgy]; rfl) hyB h1 h2 (by rw [hw]; exact h3)
    rw [hw] at this; exact this
   refine vn (aR cG (by omega) (by omega) hgy) rfl ?_
   dsimp only [aA, aB]
   refine vn (bA rE) rfl ?_
   dsimp only [aA, aB]
   refine vn (pL ⟨_, eU⟩ fJ (by omega) (by omega)) rfl ?_
   dsimp only [aA, aB]
   refine vn (oT (c := ((t * y : Nat) : Int)) (by rw [← Int.natCast_mul, oV] <;> omega)) rfl ?_
   dsimp only [aA, aB]
   refine vn (cM (c := (w : Int)) (by rw [oV] <;> omega)) rfl ?_
   dsimp only [aA, aB]
   refine bW rfl rfl (by omega) (by first | omega | (rw [List.length_set]; omega)) ?_
   refine mX rfl rfl (by omega) (by omega) ho rfl ?_
   dsimp only [aA, aB]
   refine vn (sW ⟨_, eU⟩ LP (by omega) (by omega)) rfl ?_
   dsimp only [aA, aB]
   refine vn (dI (by omega) (by omega)) rfl ?_
   dsimp only [aA, aB]
   refine vn (sW ⟨_, fJ⟩ LP (by omega) (by omega)) rfl ?_
   dsimp only [aA, aB]
   refine vn (aG (by omega) (by omega)) rfl ?_
   dsimp only [aA, aB]
   refine vn (aG (by omega) (by omega)) rfl ?_
   dsimp only [aA, aB]
   refine vn (Ar (by omega) (by omega) (by omega)) rfl ?_
   dsimp only [aA, aB]
   refine vn aU rfl ?_
   dsimp only [aA, aB]
   refine vs _ rfl (fun h21 => ?_) (fun h21 => ?_)
   ·refine vn (aE (by omega) (by omega)) rfl ?_
    dsimp only [aA, aB]
    refine vn (nB ⟨_, LP⟩ eU (by omega) (by omega)) rfl ?_
    dsimp only [aA, aB]
    refine bW rfl rfl (by omega) (by first | omega | (rw [List.length_set]; omega)) ?_
    refine jM (d' := x + 1000000000 - w % 1000000000 - b) rfl rfl (by omega) (by omega) ho ?_ ?_
    ·show [aF.int .u32 _] = [aF.int .u32 _]
     congr 2; omega
    dsimp only [aA, aB]
    refine vn (aE (by omega) (by omega)) rfl ?_
    dsimp only [aA, aB]
    exact aO rfl ⟨⟨(i + 1, w / 1000000000, 1, os.set i (x + 1000000000 - w % 1000000000 - b)), hm _ 1 (by omega) (by omega) (by omega)⟩, aL.rfl, by show xs.length - (i + 1) < xs.length - i; omega⟩
   refine vn (nB ⟨_, LP⟩ eU (by omega) (by omega)) rfl ?_
   dsimp only [aA, aB]
   refine bW rfl rfl (by omega) (by first | omega | (rw [List.length_set]; omega)) ?_
   refine jM (d' := x - w % 1000000000 - b) rfl rfl (by omega) (by omega) ho ?_ ?_
   ·show [aF.int .u32 _] = [aF.int .u32 _]
    congr 2; omega
   dsimp only [aA, aB]
   refine vn (aE (by omega) (by omega)) rfl ?_
   dsimp only [aA, aB]
   exact aO rfl ⟨⟨(i + 1, w / 1000000000, 0, os.set i (x - w % 1000000000 - b)), hm _ 0 (by omega) (by omega) (by omega)⟩, aL.rfl, by show xs.length - (i + 1) < xs.length - i; omega⟩
  have hnone : ys[i]? = none := List.getElem?_eq_none_iff.2 (by omega)
  have hm : ∀ z b' : Nat, z < 1000000000 → b' ≤ 1 → z + c % 1000000000 + b = x + 1000000000 * b' → fS 1000000000 xs ys t (i + 1) (c / 1000000000) b' (os.set i z) := fun z b' h1 h2 h3 => by
   have := hI.next (y := 0) (by omega) ht hgx (by rw [hnone]; rfl) (by omega) h1 h2 (by rw [Nat.mul_zero, Nat.add_zero]; exact h3)
   rw [Nat.mul_zero, Nat.add_zero] at this; exact this
  refine bW rfl rfl (by omega) (by first | omega | (rw [List.length_set]; omega)) ?_
  refine mX rfl rfl (by omega) (by omega) ho rfl ?_
  dsimp only [aA, aB]
  refine vn (sW ⟨_, eU⟩ LP (by omega) (by omega)) rfl ?_
  dsimp only [aA, aB]
  refine vn (dI (by omega) (by omega)) rfl ?_
  dsimp only [aA, aB]
  refine vn (sW ⟨_, fJ⟩ LP (by omega) (by omega)) rfl ?_
  dsimp only [aA, aB]
  refine vn (aG (by omega) (by omega)) rfl ?_
  dsimp only [aA, aB]
  refine vn (aG (by omega) (by omega)) rfl ?_
  dsimp only [aA, aB]
  refine vn (Ar (by omega) (by omega) (by omega)) rfl ?_
  dsimp only [aA, aB]
  refine vn aU rfl ?_
  dsimp only [aA, aB]
  refine vs _ rfl (fun h42 => ?_) (fun h42 => ?_)
  ·refine vn (aE (by omega) (by omega)) rfl ?_
   dsimp only [aA, aB]
   refine vn (nB ⟨_, LP⟩ eU (by omega) (by omega)) rfl ?_
   dsimp only [aA, aB]
   refine bW rfl rfl (by omega) (by first | omega | (rw [List.length_set]; omega)) ?_
   refine jM (d' := x + 1000000000 - c % 1000000000 - b) rfl rfl (by omega) (by omega) ho ?_ ?_
   ·show [aF.int .u32 _] = [aF.int .u32 _]
    congr 2; omega
   dsimp only [aA, aB]
   refine vn (aE (by omega) (by omega)) rfl ?_
   dsimp only [aA, aB]
   exact aO rfl ⟨⟨(i + 1, c / 1000000000, 1, os.set i (x + 1000000000 - c % 1000000000 - b)), hm _ 1 (by omega) (by omega) (by omega)⟩, aL.rfl, by show xs.length - (i + 1) < xs.length - i; omega⟩
  refine vn (nB ⟨_, LP⟩ eU (by omega) (by omega)) rfl ?_
  dsimp only [aA, aB]
  refine bW rfl rfl (by omega) (by first | omega | (rw [List.length_set]; omega)) ?_
  refine jM (d' := x - c % 1000000000 - b) rfl rfl (by omega) (by omega) ho ?_ ?_
  ·show [aF.int .u32 _] = [aF.int .u32 _]
   congr 2; omega
  dsimp only [aA, aB]
  refine vn (aE (by omega) (by omega)) rfl ?_
  dsimp only [aA, aB]
  exact aO rfl ⟨⟨(i + 1, c / 1000000000, 0, os.set i (x - c % 1000000000 - b)), hm _ 0 (by omega) (by omega) (by omega)⟩, aL.rfl, by show xs.length - (i + 1) < xs.length - i; omega⟩
 refine vn jC rfl ?_
 dsimp only [aA, aB]
 have hie : i = xs.length := by omega
 subst hie
 obtain ⟨hb1, ho1⟩ := hI.fin (by omega) hx hl
 rw [hb1] at ho1
 exact LB (by rw [← show rT os = rT _ from congrArg rT ho1]; rfl) (congrArg (fun q => [aH.one (.bool q)]) (Gg hb1))
structure xA (xs ys : List Nat) (i c : Nat) (os : List Nat) : Prop where
 le : i ≤ xs.length
 c1 : c ≤ 1
 len : os.length = xs.length
 dg : DB 1000000000 os
 rest : os.drop i = xs.drop i
 eq : lv (os.take i) + 1000000000 ^ i * c = lv (xs.take i) + lv (ys.take i)
theorem xA.init {xs : List Nat} (hx : Dg xs) (ys : List Nat) : xA xs ys 0 0 xs := ⟨Nat.zero_le _, by omega, rfl, hx, rfl, by simp [lv, val]⟩
theorem xA.get {xs ys os : List Nat} {i c x : Nat} (h : xA xs ys i c os) (hx : xs[i]? = some x) : os[i]? = some x := by
 have := congrArg (fun l => l[0]?) h.rest
 simp only [List.getElem?_drop, Nat.add_zero] at this
 rw [this, hx]
theorem xA.next {xs ys os : List Nat} {i c x y c' z : Nat} (h : xA xs ys i c os) (hx : xs[i]? = some x) (hy : ys[i]?.getD 0 = y) (hz : z < 1000000000) (hc : c' ≤ 1) (he : z + 1000000000 * c' = x + c + y) : xA xs ys (i + 1) c' (os.set i z) := by
 have hi : i < xs.length := (List.getElem?_eq_some_iff.1 hx).1
 refine ⟨hi, hc, by rw [List.length_set]; exact h.len, h.dg.set hz, ?_, ?_⟩
 ·rw [List.drop_set_of_lt (by omega)]
  have := congrArg (List.drop 1) h.rest
  simpa [List.drop_drop] using this
 ·have h1 := h.eq
  have h2 := congrArg (fun q => 1000000000 ^ i * q) he
  have e1 : lv ((os.set i z).take (i + 1)) = lv (os.take i) + 1000000000 ^ i * z := iQ (by rw [h.len]; exact hi)
  have e2 : lv (xs.take (i + 1)) = lv (xs.take i) + 1000000000 ^ i * x := eM hx
  have e3 : lv (ys.take (i + 1)) = lv (ys.take i) + 1000000000 ^ i * y := gN hy
  rw [e1, e2, e3, Nat.pow_succ, Nat.mul_assoc]
  simp only [Nat.mul_add] at h2
  omega
theorem xA.fin {xs ys os : List Nat} {c : Nat} (h : xA xs ys xs.length c os) (hl : ys.length < xs.length) :
  c = (if 1000000000 ^ xs.length ≤ lv xs + lv ys then 1 else 0) ∧ os = pd 1000000000 xs.length (lv xs + lv ys - 1000000000 ^ xs.length * c) := by
 have h1 := h.eq
 rw [List.take_of_length_le (by rw [h.len]; omega), List.take_length, List.take_of_length_le (by omega)] at h1
 have h2 : lv os < _ := DB.lt (by omega) h.dg
 rw [h.len] at h2
 have hc := h.c1
 constructor
 ·split <;> rcases (by omega : c = 0 ∨ c = 1) with rfl | rfl <;> omega
 ·refine Dl (by omega) h.dg h.len ?_
  show lv os = _
  omega
theorem ET (xs ys : List Nat) (hx : Dg xs) (hy : Dg ys) (hl : ys.length < xs.length) (hs : xs.length < 1099511627776) : pO prog 252 255 1 [] [(.one (.slice 1 (rT ys)) : aH)] (rT xs) [.one (.bool (decide (1000000000 ^ xs.length ≤ lv xs + lv ys)))] (rT (pd 1000000000 xs.length (lv xs + lv ys - 1000000000 ^ xs.length * (if 1000000000 ^ xs.length ≤ lv xs + lv ys then 1 else 0)))) := by
 refine wI (a1 := []) (a2 := [.v none]) (i1 := []) (i2 := [.v (.one (.slice 1 (rT ys)))]) (hints := (fun _ => none)) fo (by kernel_rfl) func252 trivial ⟨rfl, trivial⟩ (by kernel_rfl) ?_ ?_ ?_ ?_
 ·simp [rT]
 ·simp [rT]
 ·simp [rT]
 dsimp only [aA, aB]
 rw [Fe]
 dsimp only [List.map, In.env, aA, aB]
 refine DV rfl (List.length_map _) ?_
 dsimp only [aA, aB]
 refine aY {g : Nat × Nat × List Nat // xA xs ys g.1 g.2.1 g.2.2} (fun g => [.one (.int .u32 g.1.2.1), .one (.int .i64 g.1.1), .rows (rT g.1.2.2)]) (fun g => xs.length - g.1.1) ⟨(0, 0, xs), xA.init hx _⟩ aL.rfl (fun _ => rfl) ?_
 rintro ⟨⟨i, c, os⟩, hI⟩
 dsimp only [aA, aB] at hI ⊢
 have hol := hI.len
 have hil := hI.le
 have hc := hI.c1
 refine vn aU rfl ?_
 dsimp only [aA, aB]
 refine vs _ rfl (fun h3 => ?_) (fun h3 => ?_)
 ·have hgx : xs[i]? = some (xs[i]'(by omega)) := List.getElem?_eq_getElem (by omega)
  generalize xs[i]'(by omega) = x at hgx
  have hxB := hx.get hgx
  have ho := hI.get hgx
  refine bW rfl rfl (by omega) (by first | omega | (rw [List.length_set]; omega)) ?_
  refine mX rfl rfl (by omega) (by omega) ho rfl ?_
  dsimp only [aA, aB]
  refine vn (iX (by omega) (by omega)) rfl ?_
  dsimp only [aA, aB]
  refine vn (aK cG (List.length_map _)) rfl ?_
  dsimp only [aA, aB]
  refine vn aU rfl ?_
  dsimp only [aA, aB]
  refine vs _ rfl (fun h9 => ?_) (fun h9 => ?_)
  ·have hgy : ys[i]? = some (ys[i]'(by omega)) := List.getElem?_eq_getElem (by omega)
   generalize ys[i]'(by omega) = y at hgy
   have hyB := hy.get hgy
   refine vn (aR cG (by omega) (by omega) hgy) rfl ?_
   dsimp only [aA, aB]
   refine vn (bA rE) rfl ?_
   dsimp only [aA, aB]
   refine vn (iX (by omega) (by omega)) rfl ?_
   dsimp only [aA, aB]
   refine vn dU rfl ?_
   dsimp only [aA, aB]
   refine vs _ rfl (fun h14 => ?_) (fun h14 => ?_)
   ·refine vn (iW (by omega) (by omega)) rfl ?_
    dsimp only [aA, aB]
    refine bW rfl rfl (by omega) (by first | omega | (rw [List.length_set]; omega)) ?_
    refine jM (d' := x + c + y - 1000000000) rfl rfl (by omega) (by omega) ho ?_ ?_
    ·show [aF.int .u32 _] = [aF.int .u32 _]
     congr 2; omega
    dsimp only [aA, aB]
    refine vn (aE (by omega) (by omega)) rfl ?_
    dsimp only [aA, aB]
    exact aO rfl ⟨⟨(i + 1, 1, os.set i (x + c + y - 1000000000)), hI.next (z := x + c + y - 1000000000) (c' := 1) (y := y) hgx (by rw [hgy]; rfl) (by omega) (by omega) (by omega)⟩, aL.rfl, by show xs.length - (i + 1) < xs.length - i; omega⟩
   refine bW rfl rfl (by omega) (by first | omega | (rw [List.length_set]; omega)) ?_
   refine jM (d' := x + c + y) rfl rfl (by omega) (by omega) ho ?_ ?_
   ·show [aF.int .u32 _] = [aF.int .u32 _]
    congr 2
   dsimp only [aA, aB]
   refine vn (aE (by omega) (by omega)) rfl ?_
   dsimp only [aA, aB]
   exact aO rfl ⟨⟨(i + 1, 0, os.set i (x + c + y)), hI.next (z := x + c + y) (c' := 0) (y := y) hgx (by rw [hgy]; rfl) (by omega) (by omega) (by omega)⟩, aL.rfl, by show xs.length - (i + 1) < xs.length - i; omega⟩
  have hnone : ys[i]? = none := List.getElem?_eq_none_iff.2 (by omega)
  refine vn dU rfl ?_
  dsimp only [aA, aB]
  refine vs _ rfl (fun h25 => ?_) (fun h25 => ?_)
  ·refine vn (iW (by omega) (by omega)) rfl ?_
   dsimp only [aA, aB]
   refine bW rfl rfl (by omega) (by first | omega | (rw [List.length_set]; omega)) ?_
   refine jM (d' := x + c - 1000000000) rfl rfl (by omega) (by omega) ho ?_ ?_
   ·show [aF.int .u32 _] = [aF.int .u32 _]
    congr 2; omega
   dsimp only [aA, aB]
   refine vn (aE (by omega) (by omega)) rfl ?_
   dsimp only [aA, aB]
   exact aO rfl ⟨⟨(i + 1, 1, os.set i (x + c - 1000000000)), hI.next (z := x + c - 1000000000) (c' := 1) (y := 0) hgx (by rw [hnone]; rfl) (by omega) (by omega) (by omega)⟩, aL.rfl, by show xs.length - (i + 1) < xs.length - i; omega⟩
  refine bW rfl rfl (by omega) (by first | omega | (rw [List.length_set]; omega)) ?_
  refine jM (d' := x + c) rfl rfl (by omega) (by omega) ho ?_ ?_
  ·show [aF.int .u32 _] = [aF.int .u32 _]
   congr 2
  dsimp only [aA, aB]
  refine vn (aE (by omega) (by omega)) rfl ?_
  dsimp only [aA, aB]
  exact aO rfl ⟨⟨(i + 1, 0, os.set i (x + c)), hI.next (z := x + c) (c' := 0) (y := 0) hgx (by rw [hnone]; rfl) (by omega) (by omega) (by omega)⟩, aL.rfl, by show xs.length - (i + 1) < xs.length - i; omega⟩
 refine vn jC rfl ?_
 dsimp only [aA, aB]
 have hie : i = xs.length := by omega
 subst hie
 obtain ⟨hb1, ho1⟩ := hI.fin hl
 rw [hb1] at ho1
 exact LB (by rw [← show rT os = rT _ from congrArg rT ho1]; rfl) (congrArg (fun q => [aH.one (.bool q)]) (Gg hb1))
end Go.Sy
namespace Go.Sy
open Go Go.Proofs Tryz Ord
def Tk : Tr := .need (.prim [(W 52 0)] none) (.unOp .not 4 (.tmp 120)) 4 false (.split (.u 55 0) (.need (.rop 54 255 1 (some ((.u 27 0), (.u 47 0))) [] [(W 14 0)] [none]) (.call ⟨.value (.func 252), #[(.tmp 124), (.tmp 125)], #[33, 33]⟩) 4 true (.need (.prim [(W 53 0), (.one (.c (.k (.int .u64 (1)))))] none) (.binOp .sub 254 (.tmp 122) (.const (.int .u64 (1))) 254) 254 false (.back 1 [(.w (W 56 0)), (.w (W 58 0)), (.row 57)]))) (.need (.prim [(W 53 0)] none) (.convert 254 255 (.tmp 129)) 255 false (.need (.idx 28 (.u 27 0)) (.indexAddr 33 (.tmp 127) (.tmp 128)) 0 false (.need (.strow 28 1 (.u 27 0) 0 [(.u 56 0)]) (.store 255 (.tmp 131) (.tmp 130)) 0 false (.need (.prim [(W 27 0), (WK (1))] none) (.binOp .sub 3 (.tmp 77) (.const (I3 (1))) 3) 3 false (.back 0 [(.w (W 58 0)), (.row 57), (.row 54)]))))))
def TE : Tr := .need (.rop 29 255 1 (some ((.u 27 0), (.u 47 0))) [] [(W 14 0), (W 45 0)] [none]) (.call ⟨.value (.func 251), #[(.tmp 116), (.tmp 117), (.tmp 118)], #[33, 33, 254]⟩) 4 true (.split (.u 50 0) (.loop 1 [(.w (.one (.c (.k (.bool false))))), (.w (W 45 0)), (.row 51)] Tk) (.need (.prim [(W 45 0)] none) (.convert 254 255 (.tmp 129)) 255 false (.need (.idx 28 (.u 27 0)) (.indexAddr 33 (.tmp 127) (.tmp 128)) 0 false (.need (.strow 28 1 (.u 27 0) 0 [(.u 52 0)]) (.store 255 (.tmp 131) (.tmp 130)) 0 false (.need (.prim [(W 27 0), (WK (1))] none) (.binOp .sub 3 (.tmp 77) (.const (I3 (1))) 3) 3 false (.back 0 [(.w (W 54 0)), (.row 53), (.row 51)]))))))
def Qd : Tr := .need (.prim [(W 39 0), (W 43 0)] none) (.binOp .quo 254 (.tmp 96) (.tmp 102) 254) 254 false (.need (.prim [(W 44 0), (.one (.c (.k (.int .u64 (999999999)))))] none) (.call ⟨.builtin .min, #[(.tmp 103), (.const (.int .u64 (999999999)))], #[254, 254]⟩) 254 false (.need (.prim [(W 27 0), (W 15 0)] none) (.binOp .add 3 (.tmp 107) (.tmp 108) 3) 3 false (.need (.prim [(W 46 0), (WK (1))] none) (.binOp .add 3 (.tmp 109) (.const (I3 (1))) 3) 3 false (.need (.prim [(W 27 0), (W 15 0)] none) (.binOp .add 3 (.tmp 111) (.tmp 112) 3) 3 false (.need (.prim [(W 48 0), (WK (1))] none) (.binOp .add 3 (.tmp 113) (.const (I3 (1))) 3) 3 false (.need (.view 29 (.u 27 0) (.u 47 0) (.u 49 0)) (.slice 33 (.tmp 105) (some (.tmp 106)) (some (.tmp 110)) (some (.tmp 114))) 33 false TE))))))
def TJ : Tr := .need (.ldrow 29 (.u 36 0) 0 1 false) (.load 255 (.tmp 92)) 255 false (.need (.prim [(W 37 0)] none) (.convert 255 254 (.tmp 93)) 254 false (.need (.prim [(W 34 0), (W 38 0)] none) (.binOp .add 254 (.tmp 86) (.tmp 94) 254) 254 false (.need (.prim [(W 15 0), (WK (1))] none) (.binOp .sub 3 (.tmp 98) (.const (I3 (1))) 3) 3 false (.need (.prim [(W 14 0), (W 40 0)] none) (.indexAddr 33 (.tmp 97) (.tmp 99)) 0 false (.need (.prim [(W 41 0)] none) (.load 255 (.tmp 100)) 255 false (.need (.prim [(W 42 0)] none) (.convert 255 254 (.tmp 101)) 254 false Qd))))))
def Rv : Tr := .need (.idx 29 (.u 31 0)) (.indexAddr 33 (.tmp 79) (.tmp 82)) 0 false (.need (.ldrow 29 (.u 31 0) 0 1 false) (.load 255 (.tmp 83)) 255 false (.need (.prim [(W 32 0)] none) (.convert 255 254 (.tmp 84)) 254 false (.need (.prim [(W 33 0), (.one (.c (.k (.int .u64 (1000000000)))))] none) (.binOp .mul 254 (.tmp 85) (.const (.int .u64 (1000000000))) 254) 254 false (.need (.prim [(W 27 0), (W 15 0)] none) (.binOp .add 3 (.tmp 88) (.tmp 89) 3) 3 false (.need (.prim [(W 35 0), (WK (1))] none) (.binOp .sub 3 (.tmp 90) (.const (I3 (1))) 3) 3 false (.need (.idx 29 (.u 36 0)) (.indexAddr 33 (.tmp 87) (.tmp 91)) 0 false TJ))))))
def Qu : Tr := .loop 0 [(.w (W 26 0)), (.row 24), (.row 21)] (.need (.prim [(W 27 0), (WK (0))] none) (.binOp .geq 3 (.tmp 75) (.const (I3 (0))) 3) 4 false (.split (.u 30 0) (.need (.prim [(W 27 0), (W 15 0)] none) (.binOp .add 3 (.tmp 80) (.tmp 81) 3) 3 false Rv) (.need (.call 197 [(.one (.c (.sr 1 29)))] [(some 1)]) (.call ⟨.value (.func 197), #[(.tmp 133)], #[33]⟩) 35 false (.need (.call 193 [(.agg [(U 31 0)]), (.agg [(U 13 0)])] [(some 1), (some 1)]) (.call ⟨.value (.func 193), #[(.tmp 134), (.tmp 135)], #[35, 35]⟩) 251 false (.need (.call 197 [(.one (.c (.sr 1 28)))] [(some 1)]) (.call ⟨.value (.func 197), #[(.tmp 139)], #[33]⟩) 35 false (.ret [(.agg [(U 34 0)]), (.agg [(U 32 0)])]))))))
def SX : Tr := .need (.call 118 [(.agg [(U 0 0)]), (.agg [(U 13 0)])] [(some 1)]) (.call ⟨.value (.func 118), #[(.tmp 62), (.tmp 63)], #[35, 35]⟩) 35 true (.need (.rop 18 255 1 none [] [(W 19 0)] [none]) (.call ⟨.builtin .copy, #[(.tmp 61), (.tmp 65)], #[33, 33]⟩) 3 false (.need (.lenrow 21) (.call ⟨.builtin .len, #[(.tmp 67)], #[33]⟩) 3 false (.need (.prim [(W 22 0), (W 15 0)] none) (.binOp .sub 3 (.tmp 68) (.tmp 69) 3) 3 false (.need (.make [(.int .u32 (0))] 4 (.u 23 0) (.u 23 0)) (.makeSlice 33 (.tmp 70) (.tmp 70)) 33 false (.need (.lenrow 24) (.call ⟨.builtin .len, #[(.tmp 72)], #[33]⟩) 3 false (.need (.prim [(W 25 0), (WK (1))] none) (.binOp .sub 3 (.tmp 73) (.const (I3 (1))) 3) 3 false Qu))))))
def RW : Tr := .need (.prim [(W 11 0)] none) (.convert 255 254 (.tmp 47)) 254 false (.need (.call 195 [(W 12 0)] [(some 1)]) (.call ⟨.value (.func 195), #[(.tmp 48)], #[254]⟩) 35 true (.need (.call 118 [(.agg [(U 1 0)]), (.agg [(U 13 0)])] [(some 1)]) (.call ⟨.value (.func 118), #[(.tmp 50), (.tmp 51)], #[35, 35]⟩) 35 true (.need (.prim [(W 14 0)] none) (.call ⟨.builtin .len, #[(.tmp 54)], #[33]⟩) 3 false (.need (.prim [(W 0 0)] none) (.call ⟨.builtin .len, #[(.tmp 57)], #[33]⟩) 3 false (.need (.prim [(W 16 0), (WK (1))] none) (.binOp .add 3 (.tmp 58) (.const (I3 (1))) 3) 3 false (.need (.make [(.int .u32 (0))] 4 (.u 17 0) (.u 17 0)) (.makeSlice 33 (.tmp 59) (.tmp 59)) 33 false SX))))))
def UJ : Tr := .split (.u 5 0) (.need (.prim [(W 1 0), (WK (0))] none) (.indexAddr 33 (.tmp 32) (.const (I3 (0)))) 0 false (.need (.prim [(W 6 0)] none) (.load 255 (.tmp 33)) 255 false (.need (.call 250 [(.agg [(U 0 0)]), (W 7 0)] [(some 1), (some 1)]) (.call ⟨.value (.func 250), #[(.tmp 30), (.tmp 34)], #[35, 255]⟩) 251 true (.ret [(.agg [(U 8 0)]), (.agg [(U 9 0)])])))) (.need (.prim [(W 1 0)] none) (.call ⟨.builtin .len, #[(.tmp 41)], #[33]⟩) 3 false (.need (.prim [(W 6 0), (WK (1))] none) (.binOp .sub 3 (.tmp 42) (.const (I3 (1))) 3) 3 false (.need (.prim [(W 1 0), (W 7 0)] none) (.indexAddr 33 (.tmp 39) (.tmp 43)) 0 false (.need (.prim [(W 8 0)] none) (.load 255 (.tmp 44)) 255 false (.need (.prim [(W 9 0), (.one (.c (.k (.int .u32 (1)))))] none) (.binOp .add 255 (.tmp 45) (.const (.int .u32 (1))) 255) 255 false (.need (.prim [(.one (.c (.k (.int .u32 (1000000000))))), (W 10 0)] none) (.binOp .quo 255 (.const (.int .u32 (1000000000))) (.tmp 46) 255) 255 false RW))))))
def Xd : Tr := .need (.call 119 [(.agg [(U 0 0)]), (.agg [(U 1 0)])] [none]) (.call ⟨.value (.func 119), #[(.tmp 19), (.tmp 20)], #[35, 35]⟩) 3 true (.need (.prim [(W 2 0), (WK (0))] none) (.binOp .lss 3 (.tmp 21) (.const (I3 (0))) 3) 4 false (.split (.u 3 0) (.ret [(.agg [(.c (.k (.slice none 0 0)))]), (.agg [(U 0 0)])]) (.need (.prim [(W 1 0)] none) (.call ⟨.builtin .len, #[(.tmp 27)], #[33]⟩) 3 false (.need (.prim [(W 4 0), (WK (1))] none) (.binOp .eql 3 (.tmp 28) (.const (I3 (1))) 3) 4 false UJ))))
theorem Km : aM prog f193 (fun _ => none) [.v (some 1), .v (some 1)] = Xd := by kernel_rfl
theorem oO {a b : Int} : dR a b < 0 ↔ a < b := by unfold dR; split <;> (try split) <;> omega
theorem gQ {n : Nat} (h : n = 0) : aF.Sub (.exact (.slice none 0 0)) (dT n) := by
 subst h
 have : dg 0 = [] := bZ _
 rw [dT, this]; exact aF.Sub.nil
theorem pG {n : Nat} (h0 : 0 < n) (h : n < 1000000000) : dg n = [n] := by
 rw [dg, dY (by omega) (by omega), Nat.mod_eq_of_lt h, Nat.div_eq_of_lt h, bZ]
theorem xB {n k : Nat} (h : n < 1000000000 ^ k) : (dg n).length ≤ k := gH (by omega) h
theorem AB (n : Nat) : n < 1000000000 ^ (dg n).length := iE (by omega) n
theorem Jn {n : Nat} (h : n ≠ 0) : 1000000000 ^ ((dg n).length - 1) ≤ n := eO (by omega) h
theorem Kv {n i : Nat} (h : i < (dg n).length) : (dg n)[i]? = some (n / 1000000000 ^ i % 1000000000) := by
 have e : (dg n)[i]? = (pd 1000000000 (dg n).length n)[i]? := congrArg (fun l : List Nat => l[i]?) (FY (by omega) n)
 rw [e, wT _ h]
theorem Cl {n : Nat} (h : 0 < n) : 1000000000 ^ (n - 1) * 1000000000 = 1000000000 ^ n := by
 obtain ⟨k, rfl⟩ : ∃ k, n = k + 1 := ⟨n - 1, by omega⟩
 rw [Nat.add_sub_cancel, Nat.pow_succ]
theorem Sf {r1 r2 vt : Nat} (h1 : r1 < 1000000000) (h2 : r2 < 1000000000) : (r1 * 1000000000 + r2) / vt < 1000000000000000000 :=
 Nat.lt_of_le_of_lt (Nat.div_le_self _ _) (by omega)
theorem Kc (q : Nat) : min (q : Int) 999999999 = ((min q 999999999 : Nat) : Int) := by omega
theorem GI {n : Nat} (h : n < 1000000000) : (n : Int) < 4294967296 := by omega
theorem Ju {n : Nat} (h : n < 1000000000000000000) : (n : Int) < 18446744073709551616 := by omega
theorem lH (n : Nat) : (0 : Int) ≤ (n : Int) := Int.natCast_nonneg _
theorem PI (i : Nat) : ((i + 1 : Nat) : Int) - 1 - 1 = (i : Int) - 1 := by omega
theorem SE {P : Program} {T U ty : Nat} {x y : Operand} {a b : Nat} {a' : Int} (ha' : a' = a) (hb : 0 < b) (hc : (a / b : Nat) < 1000000000000000000) : aQ P (.binOp .quo T x y U) ty [.one (.int .u64 a'), .one (.int .u64 b)] (.one (.int .u64 ((a / b : Nat) : Int))) := by
 subst ha'
 exact nG (by omega) (by rw [Int.tdiv_eq_ediv_of_nonneg (lH _), ← Int.natCast_ediv, oV (lH _) (Ju hc)])
theorem NG (a b : Nat) (hb0 : 0 < b) (hb : b < 1000000000) (hs : (dg a).length < 549755813888) : aN prog 193 [(mT a : aH), (mT b : aH)] (.ret [mT (a / b), mT (a % b)]) := by
 refine aD (args := [.v (some 1), .v (some 1)]) (ins := [.v (mT a), .v (mT b)]) (hints := (fun _ => none)) fo (by kernel_rfl) func193 ⟨rfl, rfl, trivial⟩ ?_
 rw [Km]
 dsimp only [List.map, In.env, aA, aB]
 have e1 := pG hb0 hb
 refine aC (pW a b (by rw [e1]; simp; omega)) rfl ?_
 dsimp only [aA, aB]
 refine vn aU rfl ?_
 dsimp only [aA, aB]
 rw [show decide (dR (a : Int) (b : Int) < 0) = decide (a < b) by rw [decide_eq_decide, oO]; omega]
 refine vs _ rfl (fun h2 => ?_) (fun h2 => ?_)
 ·refine cS ⟨⟨gQ (Nat.div_eq_of_lt h2), trivial⟩, ⟨?_, trivial⟩, trivial⟩
  rw [Nat.mod_eq_of_lt h2]; exact aF.Sub.same
 refine vn (aK cG (List.length_map _)) rfl ?_
 dsimp only [aA, aB]
 refine vn aX rfl ?_
 dsimp only [aA, aB]
 refine vs _ rfl (fun h6 => ?_) (fun h6 => ?_)
 ·refine vn (aR cG (by omega) (by omega) (show (dg b)[0]? = some b by rw [e1]; rfl)) rfl ?_
  dsimp only [aA, aB]
  refine vn (bA rE) rfl ?_
  dsimp only [aA, aB]
  refine aC (Cv a b hb0 hb (by omega)) rfl ?_
  dsimp only [aA, aB]
  exact aJ rfl
 exact absurd (by rw [e1]; simp) h6
structure CL (S V L m n : Nat) (os : List Nat) (R : Nat) : Prop where
 le : n ≤ m
 len : os.length = m
 dg : Dg os
 eq : S = R + V * 1000000000 ^ n * lv (os.drop n)
 lt : R / 1000000000 ^ n < V
 fit : R < 1000000000 ^ L
theorem CL.next {S V L m n R g : Nat} {os : List Nat} (h : CL S V L m (n + 1) os R) (hV : 0 < V) (hg : g = R / 1000000000 ^ n / V) :
  CL S V L m n (os.set n g) (R % 1000000000 ^ n + 1000000000 ^ n * (R / 1000000000 ^ n % V)) := by
 obtain ⟨h1, h2, h3, h4⟩ := xY (B := 1000000000) (by omega) hV h.eq h.lt
 have hn := h.le
 have hlen := h.len
 subst hg
 refine ⟨by omega, by rw [List.length_set]; exact hlen, h.dg.set h2, ?_, h4, ?_⟩
 ·rw [Bq (x := R / 1000000000 ^ n / V) (by rw [List.getElem?_set_self (by omega)]), List.drop_set_of_lt (by omega)]
  exact h3
 ·refine Nat.lt_of_le_of_lt ?_ h.fit
  have := Nat.mod_add_div R (1000000000 ^ n)
  have h5 := Nat.mul_le_mul_left (1000000000 ^ n) (Nat.mod_le (R / 1000000000 ^ n) V)
  omega
def Nk (W X V : Nat) (p : Bool × Nat) : Nat := if p.1 then X % V else X + W - p.2 * V
theorem Tb {R i nv : Nat} (hnv : 0 < nv) (h : R / 1000000000 ^ (i + nv) < 1000000000) : R / 1000000000 ^ (i + nv) % 1000000000 * 1000000000 + R / 1000000000 ^ (i + nv - 1) % 1000000000 = R / 1000000000 ^ i / 1000000000 ^ (nv - 1) := by
 rw [Nat.mod_eq_of_lt h, Nat.div_div_eq_div_mul, ← Nat.pow_add, show i + (nv - 1) = i + nv - 1 by omega]
 have e : R / 1000000000 ^ (i + nv) = R / 1000000000 ^ (i + nv - 1) / 1000000000 := by
  rw [Nat.div_div_eq_div_mul, ← Nat.pow_succ]; congr 2; omega
 rw [e]
 have := Nat.div_add_mod (R / 1000000000 ^ (i + nv - 1)) 1000000000
 omega
theorem Hu {b s top : Nat} (hs0 : 0 < s) (hs : s * (top + 1) ≤ 1000000000) (htop : top = b / 1000000000 ^ ((dg b).length - 1)) (hb : b ≠ 0) : (dg (b * s)).length = (dg b).length := by
 have hp : 0 < 1000000000 ^ ((dg b).length - 1) := Nat.pow_pos (by omega)
 have hl : 0 < (dg b).length := by
  rcases Nat.eq_zero_or_pos (dg b).length with h | h
  ·exact (hb (tI.1 (List.eq_nil_of_length_eq_zero h))).elim
  ·exact h
 apply Nat.le_antisymm
 ·apply xB
  have h1 : b < (top + 1) * 1000000000 ^ ((dg b).length - 1) := by
   rw [htop, Nat.mul_comm]; exact Nat.lt_mul_div_succ b hp
  calc b * s < (top + 1) * 1000000000 ^ ((dg b).length - 1) * s := Nat.mul_lt_mul_of_pos_right h1 hs0
   _ = s * (top + 1) * 1000000000 ^ ((dg b).length - 1) := by simp only [Nat.mul_comm, Nat.mul_left_comm, Nat.mul_assoc]
   _ ≤ 1000000000 * 1000000000 ^ ((dg b).length - 1) := Nat.mul_le_mul_right _ hs
   _ = 1000000000 ^ (dg b).length := by rw [Nat.mul_comm, ← Nat.pow_succ]; congr 1; omega
 ·exact lM (Nat.le_mul_of_pos_right b hs0)
set_option maxHeartbeats 1000000 in
theorem Bw (a b : Nat) (hb0 : 0 < b) (hs : (dg a).length + (dg b).length < 274877906944) : aN prog 193 [(mT a : aH), (mT b : aH)] (.ret [mT (a / b), mT (a % b)]) := by
 refine aD (args := [.v (some 1), .v (some 1)]) (ins := [.v (mT a), .v (mT b)]) (hints := (fun _ => none)) fo (by kernel_rfl) func193 ⟨rfl, rfl, trivial⟩ ?_
 rw [Km]
 dsimp only [List.map, In.env, aA, aB]
 refine aC (pW a b (by omega)) rfl ?_
 dsimp only [aA, aB]
 refine vn aU rfl ?_
 dsimp only [aA, aB]
 rw [show decide (dR (a : Int) (b : Int) < 0) = decide (a < b) by rw [decide_eq_decide, oO]; omega]
 refine vs _ rfl (fun h2 => ?_) (fun h2 => ?_)
 ·refine cS ⟨⟨gQ (Nat.div_eq_of_lt h2), trivial⟩, ⟨?_, trivial⟩, trivial⟩
  rw [Nat.mod_eq_of_lt h2]; exact aF.Sub.same
 have hbl : 0 < (dg b).length := by
  rcases Nat.eq_zero_or_pos (dg b).length with h | h
  ·exact (Nat.ne_of_gt hb0 (tI.1 (List.eq_nil_of_length_eq_zero h))).elim
  ·exact h
 have hlen := lM (Nat.le_of_not_lt h2)
 refine vn (aK cG (List.length_map _)) rfl ?_
 dsimp only [aA, aB]
 refine vn aX rfl ?_
 dsimp only [aA, aB]
 refine vs _ rfl (fun h6 => ?_) (fun h6 => ?_)
 ·have hb : b < 1000000000 := by
   have := AB b
   rw [show (dg b).length = 1 by omega] at this; omega
  have e1 := pG hb0 hb
  refine vn (aR cG (by omega) (by omega) (show (dg b)[0]? = some b by rw [e1]; rfl)) rfl ?_
  dsimp only [aA, aB]
  refine vn (bA rE) rfl ?_
  dsimp only [aA, aB]
  refine aC (Cv a b hb0 hb (by omega)) rfl ?_
  dsimp only [aA, aB]
  exact aJ rfl
 obtain ⟨top, htop⟩ : ∃ t, (dg b)[(dg b).length - 1]? = some t := ⟨_, List.getElem?_eq_getElem (by omega)⟩
 have htB := (iD b).get htop
 have htv : top = b / 1000000000 ^ ((dg b).length - 1) := by
  have h1 := Kv (n := b) (i := (dg b).length - 1) (by omega)
  rw [htop] at h1
  simp only [Option.some.injEq] at h1
  rw [h1, Nat.mod_eq_of_lt]
  rw [Nat.div_lt_iff_lt_mul (Nat.pow_pos (by omega)), Nat.mul_comm, Cl hbl]
  exact AB b
 have ht0 : 0 < top := by
  rw [htv]; exact Nat.div_pos (Jn (by omega)) (Nat.pow_pos (by omega))
 obtain ⟨s, hs'⟩ : ∃ s, 1000000000 / (top + 1) = s := ⟨_, rfl⟩
 have hsle : s * (top + 1) ≤ 1000000000 := by rw [← hs']; exact Nat.div_mul_le_self _ _
 have hs0 : 0 < s := by rw [← hs']; exact Nat.div_pos (by omega) (by omega)
 have hsB : s < 1000000000 := by
  rw [← hs']; exact Nat.div_lt_self (by omega) (by omega)
 have hvl := Hu hs0 hsle htv (by omega)
 refine vn (aK cG (List.length_map _)) rfl ?_
 dsimp only [aA, aB]
 refine vn (aG (by omega) (by omega)) rfl ?_
 dsimp only [aA, aB]
 refine vn (aR cG (by omega) (by omega) htop) rfl ?_
 dsimp only [aA, aB]
 refine vn (bA rE) rfl ?_
 dsimp only [aA, aB]
 refine vn (iX (by omega) (by omega)) rfl ?_
 dsimp only [aA, aB]
 refine vn (nG (c := (s : Int)) (by omega) (by rw [Int.tdiv_eq_ediv_of_nonneg (by omega), show ((1000000000 : Int) / ((top : Int) + 1)) = ((1000000000 / (top + 1) : Nat) : Int) by simp, hs', tL] <;> omega)) rfl ?_
 dsimp only [aA, aB]
 refine vn (pL ⟨_, eU⟩ fJ (by omega) (by omega)) rfl ?_
 dsimp only [aA, aB]
 refine aC (iA s (by omega)) rfl ?_
 dsimp only [aA, aB]
 refine aC (gF b s (by rw [pG hs0 hsB]; simp; omega)) rfl ?_
 obtain ⟨V, hV⟩ : ∃ V, b * s = V := ⟨_, rfl⟩
 obtain ⟨S, hS⟩ : ∃ S, a * s = S := ⟨_, rfl⟩
 rw [hV] at hvl ⊢
 have hV0 : 0 < V := by rw [← hV]; exact Nat.mul_pos hb0 hs0
 dsimp only [aA, aB]
 refine vn (aK cG (List.length_map _)) rfl ?_
 dsimp only [aA, aB]
 refine vn (aK cG (List.length_map _)) rfl ?_
 dsimp only [aA, aB]
 refine vn (aE (by omega) (by omega)) rfl ?_
 dsimp only [aA, aB]
 refine yF (n := (dg a).length + 1) (f := fun d : Nat => [aF.int .u32 (d : Int)]) 0 rfl rfl (by omega) rfl (by omega) (by simp only [maxLen]; omega) ?_
 dsimp only [aA, aB]
 refine aC (gF a s (by rw [pG hs0 hsB]; simp; omega)) rfl ?_
 rw [hS]
 have hSlt : S < 1000000000 ^ ((dg a).length + 1) := by
  rw [← hS, Nat.pow_succ]; exact Nat.mul_lt_mul'' (AB a) hsB
 have hSle := xB hSlt
 have hSV : S < V * 1000000000 ^ ((dg a).length + 1 - (dg b).length) := by
  rw [← hS, ← hV]
  have h1 := AB a
  have h2 := Jn (n := b) (by omega)
  have h3 : 1000000000 ^ (dg a).length ≤ b * 1000000000 ^ ((dg a).length + 1 - (dg b).length) := by
   refine Nat.le_trans (Nat.le_of_eq ?_) (Nat.mul_le_mul_right _ h2)
   rw [← Nat.pow_add]; congr 1; omega
  calc a * s < b * 1000000000 ^ ((dg a).length + 1 - (dg b).length) * s := Nat.mul_lt_mul_of_pos_right (Nat.lt_of_lt_of_le h1 h3) hs0
   _ = _ := by simp only [Nat.mul_comm, Nat.mul_left_comm, Nat.mul_assoc]
 obtain ⟨L, hL⟩ : ∃ L, (dg a).length + 1 = L := ⟨_, rfl⟩
 rw [hL] at hSlt hSle hSV
 dsimp only [aA, aB]
 refine JN (xs := dg S) (zs := List.replicate ((dg a).length + 1) 0) (ws := pd 1000000000 L S) (fun _ => rfl) rfl rfl cG (by simp; omega) (by simp) (Dl (by omega) ((DB.gY (by omega) S).append ((DB.rep (by omega) _).drop _)) (by simp only [List.length_append, List.length_drop, List.length_replicate]; show (dg S).length + _ = _; omega) (by rw [List.drop_replicate, fV, FJ]; show lv (dg S) + _ = _; rw [fA, Nat.mul_zero, Nat.add_zero])) ?_
 dsimp only [aA, aB]
 refine DV (n := L) rfl (by simp) ?_
 dsimp only [aA, aB]
 refine vn (aG (by omega) (by omega)) rfl ?_
 dsimp only [aA, aB]
 refine yF (n := L - (dg b).length) (f := fun d : Nat => [aF.int .u32 (d : Int)]) 0 rfl rfl (by rw [hvl]; omega) rfl (by omega) (by simp only [maxLen]; omega) ?_
 dsimp only [aA, aB]
 refine DV (n := L - (dg b).length) rfl (by simp) ?_
 dsimp only [aA, aB]
 refine vn (aG (by omega) (by omega)) rfl ?_
 dsimp only [aA, aB]
 obtain ⟨m, hm⟩ : ∃ m, L - (dg b).length = m := ⟨_, rfl⟩
 rw [hm] at hSV ⊢
 rw [hvl]
 obtain ⟨nv, hnv⟩ : ∃ n, (dg b).length = n := ⟨_, rfl⟩
 rw [hnv] at hvl htv htop hbl hlen hm hs ⊢
 refine aY {g : Nat × List Nat × Nat // CL S V L m g.1 g.2.1 g.2.2} (fun g => [.one (.int .i64 ((g.1.1 : Int) - 1)), .rows (rT g.1.2.1), .rows (rT (pd 1000000000 L g.1.2.2))]) (fun g => g.1.1) ⟨(m, List.replicate m 0, S), ⟨Nat.le_refl _, by simp, Dg.rep _, by simp [lv, val], by rw [Nat.div_lt_iff_lt_mul (Nat.pow_pos (by omega))]; exact hSV, hSlt⟩⟩ aL.rfl (fun _ => rfl) ?_
 rintro ⟨⟨n, os, R⟩, hI⟩
 dsimp only [aA, aB] at hI ⊢
 have hnm := hI.le
 have hol := hI.len
 have hfit := hI.fit
 have hLs : L < 549755813888 := by omega
 have hnvL : nv < L := by omega
 refine vn dU rfl ?_
 dsimp only [aA, aB]
 refine vs _ rfl (fun h33 => ?_) (fun h33 => ?_)
 ·clear htop htB htv ht0 hs' hsle hSV hSlt hSle hs hlen hL hnv h2 h6 hS hV hsB hs0
  obtain ⟨i, rfl⟩ : ∃ i, n = i + 1 := ⟨n - 1, by omega⟩
  obtain ⟨hX1, hX2, _, _⟩ := xY (B := 1000000000) (by omega) hV0 hI.eq hI.lt
  obtain ⟨X, hX⟩ : ∃ X, R / 1000000000 ^ i = X := ⟨_, rfl⟩
  have hVlt : V < 1000000000 ^ nv := by rw [← hvl]; exact AB V
  have hXlt : X < 1000000000 ^ (nv + 1) := by
   rw [Nat.pow_succ, ← hX]
   exact Nat.lt_trans hX1 (Nat.mul_lt_mul_of_pos_right hVlt (by omega))
  have hRtop : R / 1000000000 ^ (i + (nv + 1)) = 0 := by
   rw [Nat.pow_add, ← Nat.div_div_eq_div_mul, hX]
   exact Nat.div_eq_of_lt hXlt
  have hRnv : R / 1000000000 ^ (i + nv) < 1000000000 := by
   rw [Nat.pow_add, ← Nat.div_div_eq_div_mul, hX, Nat.div_lt_iff_lt_mul (Nat.pow_pos (by omega)), Nat.mul_comm, ← Nat.pow_succ]
   exact hXlt
  have htwo := Tb hbl hRnv
  rw [hX] at htwo hX1 hX2
  obtain ⟨r1, hr1⟩ : ∃ r, R / 1000000000 ^ (i + nv) % 1000000000 = r := ⟨_, rfl⟩
  obtain ⟨r2, hr2⟩ : ∃ r, R / 1000000000 ^ (i + nv - 1) % 1000000000 = r := ⟨_, rfl⟩
  have hr1B : r1 < 1000000000 := by rw [← hr1]; exact Nat.mod_lt _ (by omega)
  have hr2B : r2 < 1000000000 := by rw [← hr2]; exact Nat.mod_lt _ (by omega)
  have hg1 : (pd 1000000000 L R)[i + nv]? = some r1 := by rw [wT _ (by omega), hr1]
  have hg2 : (pd 1000000000 L R)[i + nv - 1]? = some r2 := by rw [wT _ (by omega), hr2]
  rw [hr1, hr2] at htwo
  obtain ⟨vt, hvt⟩ : ∃ t, V / 1000000000 ^ (nv - 1) = t := ⟨_, rfl⟩
  have hvtB : vt < 1000000000 := by
   rw [← hvt, Nat.div_lt_iff_lt_mul (Nat.pow_pos (by omega)), Nat.mul_comm, Cl hbl]; exact hVlt
  have hvt0 : 0 < vt := by
   have := Jn (n := V) (by omega)
   rw [hvl] at this
   rw [← hvt]; exact Nat.div_pos this (Nat.pow_pos (by omega))
  have hgv : (dg V)[nv - 1]? = some vt := by
   rw [Kv (by omega), hvt, Nat.mod_eq_of_lt hvtB]
  obtain ⟨g, hg⟩ : ∃ g, min ((r1 * 1000000000 + r2) / vt) 999999999 = g := ⟨_, rfl⟩
  have hgB : g < 1000000000 := by rw [← hg]; exact Nat.lt_of_le_of_lt (Nat.min_le_right _ _) (by decide)
  have hgq : X / V ≤ g := by
   rw [← hg]
   have h1 := IM (B := 1000000000) (X := X) (V := V) (n := nv - 1) (by rw [hvt]; exact hvt0)
   rw [hvt, ← htwo] at h1
   exact Nat.le_min.2 ⟨h1, Nat.le_of_lt_succ hX2⟩
  have hpdl : (pd 1000000000 L R).length = L := cX _ _
  refine vn (aE (by omega) (by omega)) rfl ?_
  dsimp only [aA, aB]
  refine bW rfl rfl (by omega) (by rw [cX]; omega) ?_
  refine mX rfl rfl (by omega) (by omega) hg1 rfl ?_
  dsimp only [aA, aB]
  refine vn (pL ⟨_, eU⟩ fJ (by omega) (by omega)) rfl ?_
  dsimp only [aA, aB]
  refine vn (HG (by omega) (by omega)) rfl ?_
  dsimp only [aA, aB]
  refine vn (aE (by omega) (by omega)) rfl ?_
  dsimp only [aA, aB]
  refine vn (aG (by omega) (by omega)) rfl ?_
  dsimp only [aA, aB]
  refine bW rfl rfl (by omega) (by rw [cX]; omega) ?_
  refine mX rfl rfl (by omega) (by omega) hg2 rfl ?_
  dsimp only [aA, aB]
  refine vn (pL ⟨_, eU⟩ fJ (by omega) (by omega)) rfl ?_
  dsimp only [aA, aB]
  refine vn (HL (by omega) (by omega)) rfl ?_
  dsimp only [aA, aB]
  refine vn (aG (by omega) (by omega)) rfl ?_
  dsimp only [aA, aB]
  refine vn (aR cG (by omega) (by omega) hgv) rfl ?_
  dsimp only [aA, aB]
  refine vn (bA rE) rfl ?_
  dsimp only [aA, aB]
  refine vn (pL ⟨_, eU⟩ fJ (by omega) (by omega)) rfl ?_
  dsimp only [aA, aB]
  refine vn (SE (a := r1 * 1000000000 + r2) (by rw [Int.natCast_add, Int.natCast_mul]; rfl) hvt0 (Sf hr1B hr2B)) rfl ?_
  dsimp only [aA, aB]
  refine vn Ie rfl ?_
  dsimp only [aA, aB]
  rw [Kc, hg]
  refine vn (aE (by omega) (by omega)) rfl ?_
  dsimp only [aA, aB]
  refine vn (aE (by omega) (by omega)) rfl ?_
  dsimp only [aA, aB]
  refine vn (aE (by omega) (by omega)) rfl ?_
  dsimp only [aA, aB]
  refine vn (aE (by omega) (by omega)) rfl ?_
  dsimp only [aA, aB]
  refine VC (n := i) (m := i + nv + 1) rfl (by show aF.int .i64 _ = aF.int .i64 _; congr 1; omega) (by show aF.int .i64 _ = aF.int .i64 _; congr 1; omega) (by show aF.int .i64 _ = aF.int .i64 _; congr 1; omega) (by omega) (by simp; omega) ?_
  have hgV : g * V < 1000000000 ^ (nv + 1) := by
   rw [Nat.pow_succ, Nat.mul_comm (1000000000 ^ nv)]
   exact Nat.lt_of_lt_of_le (Nat.mul_lt_mul_of_pos_right (by omega : g < 1000000000) hV0) (Nat.mul_le_mul_left _ (Nat.le_of_lt hVlt))
  have hview : ∀ Y, Y < 1000000000 ^ (nv + 1) → ((rT (pd 1000000000 L (R % 1000000000 ^ i + 1000000000 ^ i * Y))).take (i + nv + 1)).drop i = rT (pd 1000000000 (nv + 1) Y) := by
   intro Y hY
   rw [rT, rT, ← List.map_take, ← List.map_drop, AJ _ (by omega), BB, show i + nv + 1 - i = nv + 1 by omega]
   congr 2
   rw [Nat.add_mul_div_left _ _ (Nat.pow_pos (by omega)), Nat.div_eq_of_lt (Nat.mod_lt _ (Nat.pow_pos (by omega))), Nat.zero_add]
  have hfitY : ∀ Y, Y < 1000000000 ^ (nv + 1) → R % 1000000000 ^ i + 1000000000 ^ i * Y < 1000000000 ^ L := by
   intro Y hY
   have h1 : R % 1000000000 ^ i < 1000000000 ^ i := Nat.mod_lt _ (Nat.pow_pos (by omega))
   have h2 : 1000000000 ^ i * (Y + 1) ≤ 1000000000 ^ i * 1000000000 ^ (nv + 1) := Nat.mul_le_mul_left _ hY
   rw [← Nat.pow_add] at h2
   have h3 : 1000000000 ^ (i + (nv + 1)) ≤ 1000000000 ^ L := Nat.pow_le_pow_right (by omega) (by omega)
   rw [Nat.mul_add, Nat.mul_one] at h2
   omega
  have hput : ∀ Y Z, Y < 1000000000 ^ (nv + 1) → Z < 1000000000 ^ (nv + 1) → (rT (pd 1000000000 L (R % 1000000000 ^ i + 1000000000 ^ i * Y))).take i ++ rT (pd 1000000000 (nv + 1) Z) ++ (rT (pd 1000000000 L (R % 1000000000 ^ i + 1000000000 ^ i * Y))).drop (i + (rT (pd 1000000000 (nv + 1) Y)).length) = rT (pd 1000000000 L (R % 1000000000 ^ i + 1000000000 ^ i * Z)) := by
   intro Y Z hY hZ
   have hp : 0 < 1000000000 ^ i := Nat.pow_pos (by omega)
   have hm : R % 1000000000 ^ i < 1000000000 ^ i := Nat.mod_lt _ hp
   rw [bI, cX, rT, rT, rT, ← List.map_take, ← List.map_drop, ← List.map_append, ← List.map_append, Hf (by omega) (by omega) (hfitY Y hY) hZ]
   have e : (R % 1000000000 ^ i + 1000000000 ^ i * Y) / 1000000000 ^ (i + (nv + 1)) = 0 := by
    rw [Nat.pow_add 1000000000 i, ← Nat.div_div_eq_div_mul, Nat.add_mul_div_left _ _ hp, Nat.div_eq_of_lt hm, Nat.zero_add]; exact Nat.div_eq_of_lt hY
   rw [e, Nat.add_mul_mod_self_left, Nat.mod_eq_of_lt hm, Nat.mul_zero, Nat.add_zero]
  have hRX : R = R % 1000000000 ^ i + 1000000000 ^ i * X := by rw [← hX]; exact (Nat.mod_add_div _ _).symm
  have hsub := EU (pd 1000000000 (nv + 1) X) (dg V) g (yI (by omega) _ _) (iD V) hgB (by rw [cX]; omega) (by rw [cX]; omega)
  have hlvX : ∀ Y, Y < 1000000000 ^ (nv + 1) → lv (pd 1000000000 (nv + 1) Y) = Y := fun Y hY => by rw [lv, tQ, Nat.mod_eq_of_lt hY]
  rw [hlvX X hXlt, fA, cX] at hsub
  have hgive : ∀ Y, Y < 1000000000 ^ (nv + 1) → pO prog 252 255 1 [] [.one (.slice 1 (rT (dg V)))] (rT (pd 1000000000 (nv + 1) Y)) [.one (.bool (decide (1000000000 ^ (nv + 1) ≤ Y + V)))] (rT (pd 1000000000 (nv + 1) (Y + V - 1000000000 ^ (nv + 1) * (if 1000000000 ^ (nv + 1) ≤ Y + V then 1 else 0)))) := by
   intro Y hY
   have h1 := ET (pd 1000000000 (nv + 1) Y) (dg V) (yI (by omega) _ _) (iD V) (by rw [cX]; omega) (by rw [cX]; omega)
   rw [hlvX Y hY, fA, cX] at h1
   exact h1
  have hok : os[i]? = some (os[i]'(by omega)) := List.getElem?_eq_getElem (by omega)
  have hVB : V < 1000000000 ^ (nv + 1) := Nat.lt_of_lt_of_le hVlt (Nat.pow_le_pow_right (by omega) (by omega))
  have hXV : X % V < 1000000000 ^ (nv + 1) := Nat.lt_trans (Nat.mod_lt _ hV0) hVB
  have hN : CL S V L m i (os.set i (X / V)) (R % 1000000000 ^ i + 1000000000 ^ i * (X % V)) := by
   have := hI.next hV0 rfl
   rw [hX] at this; exact this
  clear hI htwo hg hr1 hr2 hg1 hg2 hvt hgv hvt0 hvtB hX hRnv hRtop hr1B hr2B hpdl hlvX hfit
  refine GL (n := i) (vs := rT (pd 1000000000 L (R % 1000000000 ^ i + 1000000000 ^ i * (X + 1000000000 ^ (nv + 1) * (if X < g * V then 1 else 0) - g * V)))) (ts := rT (pd 1000000000 L R)) (us := rT (pd 1000000000 (nv + 1) X)) rfl ⟨.i64, .i64, i + nv + 1, (by show aF.int .i64 _ = aF.int .i64 _; congr 1; omega), (by show aF.int .i64 _ = aF.int .i64 _; congr 1; omega), by omega, by simp; omega, by rw [← hview X hXlt, ← hRX]⟩ (by simp [pd]) rfl (pH rfl hsub) (by
   conv => lhs; rw [hRX]
   exact hput X _ hXlt (by split <;> omega)) ?_
  dsimp only [aA, aB]
  refine vs _ rfl (fun h57 => ?_) (fun h57 => ?_)
  ·refine aY {p : Bool × Nat // if p.1 then p.2 = X / V else X < p.2 * V ∧ p.2 < 1000000000} (fun p => [.one (.bool p.1.1), .one (.int .u64 p.1.2), .rows (rT (pd 1000000000 L (R % 1000000000 ^ i + 1000000000 ^ i * Nk (1000000000 ^ (nv + 1)) X V p.1)))]) (fun p => if p.1.1 then 0 else p.1.2 + 1) ⟨(false, g), by simp only [Bool.false_eq_true, if_false]; exact ⟨h57, hgB⟩⟩ ⟨aH.Sub.same, aH.Sub.same, aH.Sub.of_eq (congrArg (fun y => aH.rows (rT (pd 1000000000 L (R % 1000000000 ^ i + 1000000000 ^ i * y)))) (by simp only [Nk, Bool.false_eq_true, if_false]; rw [if_pos h57, Nat.mul_one])), trivial⟩ (fun _ => rfl) ?_
   rintro ⟨⟨made, g'⟩, hp⟩
   dsimp only [aA, aB] at hp ⊢
   refine vn qE rfl ?_
   dsimp only [aA, aB]
   refine uB (!made) rfl (fun h60 => ?_) (fun h60 => ?_)
   ·have hmd : made = false := by simpa using h60
    subst hmd
    simp only [Bool.false_eq_true, if_false] at hp
    have hgV' : g' * V < 1000000000 ^ (nv + 1) := by
     rw [Nat.pow_succ, Nat.mul_comm (1000000000 ^ nv)]
     exact Nat.lt_of_lt_of_le (Nat.mul_lt_mul_of_pos_right (by omega : g' < 1000000000) hV0) (Nat.mul_le_mul_left _ (Nat.le_of_lt hVlt))
    have hg0 : 0 < g' := by
     rcases Nat.eq_zero_or_pos g' with h | h
     ·rw [h] at hp; omega
     ·exact h
    have hgm : (g' - 1) * V + V = g' * V := by
     obtain ⟨k, rfl⟩ : ∃ k, g' = k + 1 := ⟨g' - 1, by omega⟩
     rw [Nat.add_sub_cancel, Nat.add_mul, Nat.one_mul]
    obtain ⟨W, hW⟩ : ∃ W, 1000000000 ^ (nv + 1) = W := ⟨_, rfl⟩
    have hYe : Nk W X V (false, g') = X + W - g' * V := by simp [Nk]
    have hnew : X + W - g' * V + V - W * (if W ≤ X + W - g' * V + V then 1 else 0) = Nk W X V (decide (W ≤ X + W - g' * V + V), g' - 1) := by
     rw [hW] at hgV' hXlt
     by_cases hc : W ≤ X + W - g' * V + V
     ·rw [if_pos hc, Nat.mul_one]
      simp only [Nk, hc, decide_true, if_true]
      have hq : X / V = g' - 1 := rZ hV0 (by omega) (by rw [show g' - 1 + 1 = g' by omega]; exact hp.1)
      have h1 := Nat.mod_add_div X V
      rw [hq, Nat.mul_comm] at h1
      omega
     ·rw [if_neg hc, Nat.mul_zero]
      simp only [Nk, hc, decide_false, Bool.false_eq_true, if_false]
      omega
    rw [hW] at hview hput hgive hXlt hgV'
    have hYlt : X + W - g' * V < W := by omega
    have hput1 := hput (X + W - g' * V) (X + W - g' * V + V - W * (if W ≤ X + W - g' * V + V then 1 else 0)) hYlt (by split <;> omega)
    rw [hnew] at hput1
    rw [hW, hYe]
    refine GL (n := i) (ts := rT (pd 1000000000 L (R % 1000000000 ^ i + 1000000000 ^ i * (X + W - g' * V)))) (us := rT (pd 1000000000 (nv + 1) (X + W - g' * V))) (us' := rT (pd 1000000000 (nv + 1) (Nk W X V (decide (W ≤ X + W - g' * V + V), g' - 1)))) rfl ⟨.i64, .i64, i + nv + 1, (by show aF.int .i64 _ = aF.int .i64 _; congr 1; omega), (by show aF.int .i64 _ = aF.int .i64 _; congr 1; omega), by omega, by simp; omega, (hview _ hYlt).symm⟩ (by simp [pd]) rfl (pH rfl (hnew ▸ hgive _ hYlt)) hput1 ?_
    dsimp only [aA, aB]
    refine vn (Hh (by omega) (by omega)) rfl ?_
    dsimp only [aA, aB]
    have hg1' : (g' : Int) - 1 = ((g' - 1 : Nat) : Int) := by clear hN hput hview hgive hfitY; omega
    refine aO rfl ⟨⟨(decide (W ≤ X + W - g' * V + V), g' - 1), ?_⟩, ⟨aH.Sub.same, aH.Sub.of_eq (congrArg (fun q => aH.one (aF.int .u64 q)) hg1'), aH.Sub.of_eq ?_, trivial⟩, ?_⟩
    ·by_cases hc : W ≤ X + W - g' * V + V
     ·simp only [hc, decide_true, if_true]
      exact (rZ hV0 (by omega) (by rw [show g' - 1 + 1 = g' by omega]; exact hp.1)).symm
     ·simp only [hc, decide_false, Bool.false_eq_true, if_false]
      omega
    ·dsimp only
     rfl
    ·dsimp only
     by_cases hc : W ≤ X + W - g' * V + V
     ·simp [hc]
     ·simp [hc]; omega
   have hmd : made = true := by simpa using h60
   subst hmd
   simp only [if_true] at hp
   subst hp
   simp only [Nk, if_true]
   refine vn (nB ⟨_, fJ⟩ eU (lH _) (GI hX2)) rfl ?_
   dsimp only [aA, aB]
   refine bW rfl rfl (by omega) (by omega) ?_
   refine jM (d' := X / V) rfl rfl (by omega) (by omega) hok rfl ?_
   dsimp only [aA, aB]
   refine vn (aG (by omega) (by omega)) rfl ?_
   dsimp only [aA, aB]
   exact aO rfl ⟨⟨(i, os.set i (X / V), R % 1000000000 ^ i + 1000000000 ^ i * (X % V)), hN⟩, ⟨aH.Sub.of_eq (congrArg (fun q => aH.one (aF.int .i64 q)) (PI i)), aH.Sub.same, aH.Sub.same, trivial⟩, by show i < i + 1; omega⟩
  have hq : X / V = g := Nat.le_antisymm hgq (by rw [Nat.le_div_iff_mul_le hV0]; omega)
  have hmod : X + 1000000000 ^ (nv + 1) * (if X < g * V then 1 else 0) - g * V = X % V := by
   rw [if_neg h57, Nat.mul_zero, Nat.add_zero]
   have h1 := Nat.mod_add_div X V
   rw [hq, Nat.mul_comm] at h1
   omega
  rw [hmod]
  rw [hq] at hN
  refine vn (nB ⟨_, fJ⟩ eU (lH _) (GI hgB)) rfl ?_
  dsimp only [aA, aB]
  refine bW rfl rfl (by omega) (by omega) ?_
  refine jM (d' := g) rfl rfl (by omega) (by omega) hok rfl ?_
  dsimp only [aA, aB]
  refine vn (aG (by omega) (by omega)) rfl ?_
  dsimp only [aA, aB]
  exact aO rfl ⟨⟨(i, os.set i g, R % 1000000000 ^ i + 1000000000 ^ i * (X % V)), hN⟩, ⟨aH.Sub.of_eq (congrArg (fun q => aH.one (aF.int .i64 q)) (PI i)), aH.Sub.same, aH.Sub.same, trivial⟩, by show i < i + 1; omega⟩
 have hn0 : n = 0 := by omega
 subst hn0
 have heq := hI.eq
 have hlt := hI.lt
 rw [List.drop_zero, Nat.pow_zero, Nat.mul_one] at heq
 rw [Nat.pow_zero, Nat.div_one] at hlt
 obtain ⟨hQ, hR⟩ := tG heq hlt
 have hQ2 : lv os = a / b := by rw [hQ, ← hS, ← hV, Nat.mul_div_mul_right _ _ hs0]
 have hR2 : R = a % b * s := by rw [hR, ← hS, ← hV, Nat.mul_mod_mul_right]
 refine aC (gD (pd 1000000000 L R) (yI (by omega) _ _) (by rw [cX]; omega)) rfl ?_
 rw [show lv (pd 1000000000 L R) = R by rw [lv, tQ, Nat.mod_eq_of_lt hfit]]
 dsimp only [aA, aB]
 refine aC (NG R s hs0 hsB (by have := xB hfit; omega)) rfl ?_
 dsimp only [aA, aB]
 refine aC (gD os hI.dg (by omega)) rfl ?_
 dsimp only [aA, aB]
 refine aJ ?_
 rw [hQ2, hR2, Nat.mul_div_cancel _ hs0]
 rfl
end Go.Sy
