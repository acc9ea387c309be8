/- Numbers: their types, and the first facts. Zeros at the end are taken away. The sum of magnitudes. Small magnitudes, zero, signs. The product of magnitudes. Comparing; division by one digit. Division by one digit.
-/
import Derived.Test.YtdmcadckdnnglaaGreatDoorFa
import Derived.Test.YtdmcadckdnnglaaGreatDoorPa
import Derived.Laws.BitsLemmas
import Derived.Laws.Bits64
set_option linter.unusedVariables false
set_option linter.unusedSimpArgs false
namespace Go.Sy
open Go Go.Proofs Tryz Ord
abbrev rT (ds : List Nat) : List (List aF) := ds.map fun (d : Nat) => [aF.int .u32 (d : Int)]
abbrev dg (n : Nat) : List Nat := gY 1000000000 n
abbrev lv (ds : List Nat) : Nat := val 1000000000 ds
abbrev dT (n : Nat) : aF := .slice 1 (rT (dg n))
abbrev mT (n : Nat) : aH := .agg [dT n]
def Dg (ds : List Nat) : Prop := ∀ d ∈ ds, d < 1000000000
theorem tL {n : Int} (h0 : 0 ≤ n) (h : n < 4294967296) : IntKind.u32.wrap n = n := by rw [IntKind.wrap_u32]; omega
theorem oV {n : Int} (h0 : 0 ≤ n) (h : n < 18446744073709551616) : IntKind.u64.wrap n = n := by rw [IntKind.wrap_u64]; omega
theorem jT {n : Int} (h0 : -9223372036854775808 ≤ n) (h : n < 9223372036854775808) : IntKind.i64.wrap n = n := by rw [IntKind.wrap_i64]; omega
theorem mH {ds : List Nat} {i d : Nat} (h : ds[i]? = some d) : (rT ds)[i]? = some [aF.int .u32 (d : Int)] := by
 rw [List.getElem?_map, h]; rfl
theorem gU {ds : List Nat} {i x : Nat} : (rT ds).set i [aF.int .u32 (x : Int)] = rT (ds.set i x) := by
 rw [rT, rT, List.map_set]
theorem bI {ds : List Nat} : (rT ds).length = ds.length := List.length_map _
theorem tI {n : Nat} : dg n = [] ↔ n = 0 := by
 constructor
 ·intro h
  by_cases hn : n = 0
  ·exact hn
  ·rw [dg, dY (by omega) hn] at h; cases h
 ·rintro rfl; exact bZ _
theorem iD (n : Nat) : Dg (dg n) := vG (by omega) n
theorem fA (n : Nat) : lv (dg n) = n := rY (by omega) n
theorem Dg.take {ds : List Nat} (h : Dg ds) (n : Nat) : Dg (ds.take n) := fun d hd => h d (List.mem_of_mem_take hd)
theorem Dg.set {ds : List Nat} (h : Dg ds) {i x : Nat} (hx : x < 1000000000) : Dg (ds.set i x) := fun d hd => by
 rcases List.mem_or_eq_of_mem_set hd with hd | rfl
 ·exact h d hd
 ·exact hx
theorem Dg.get {ds : List Nat} (h : Dg ds) {i d : Nat} (hd : ds[i]? = some d) : d < 1000000000 := h d (List.mem_of_getElem? hd)
theorem AK {ds : List Nat} {i d : Nat} (h : ds[i]? = some d) : ds.take (i + 1) = ds.take i ++ [d] := by
 rw [List.take_add_one, h]; rfl
theorem pN (xs ys : List Nat) : lv (xs ++ ys) = lv xs + 1000000000 ^ xs.length * lv ys := fV _ _ _
theorem Sd (d : Nat) : lv [d] = d := by simp [lv, val]
theorem dN {ds : List Nat} {i d : Nat} (h : ds[i]? = some d) : lv (ds.take (i + 1)) = lv (ds.take i) + 1000000000 ^ i * d := by
 have hi : i < ds.length := (List.getElem?_eq_some_iff.1 h).1
 rw [AK h, pN, Sd, List.length_take, Nat.min_eq_left (by omega)]
theorem pJ {os : List Nat} {i x : Nat} (h : i < os.length) : lv ((os.set i x).take (i + 1)) = lv (os.take i) + 1000000000 ^ i * x := by
 rw [dN (d := x) (by simp [h])]
 rw [List.take_set_of_le (Nat.le_refl i)]
theorem AN {n : Nat} : List.replicate n ([Value.int .u32 0].map aF.exact) = rT (List.replicate n 0) := by
 rw [rT, List.map_replicate]; rfl
theorem Dg.rep (n : Nat) : Dg (List.replicate n 0) := fun d hd => by
 obtain ⟨_, rfl⟩ := List.mem_replicate.1 hd
 decide
abbrev dl (n : Nat) : Nat := (dg n).length
theorem yX {ds : List Nat} {T ty : TypeId} {x y : Operand} {k : IntKind} {n : Int} {d : Nat} (h : cK prog T = some (255, 1, 4)) (h0 : 0 ≤ n) (hd : ds[n.toNat]? = some d) :
  aQ prog (.indexAddr T x y) ty [.one (.slice 1 (rT ds)), .one (.int k n)] (.one (.dP [aF.int .u32 (d : Int)])) := PK h h0 (mH hd)
theorem zG {ty : TypeId} {x : Operand} {d : Int} : aQ prog (.load 255 x) ty [.one (.dP [aF.int .u32 d])] (.one (.int .u32 d)) := cB (n := 1) rE (by decide) (by simp) (.inr rfl)
end Go.Sy
namespace Go.Sy
open Go Go.Proofs Tryz Ord
def YG : Tr := .need (.prim [(W 2 0), (WK (1))] none) (.binOp .sub 3 (.tmp 10) (.const (I3 (1))) 3) 3 false (.need (.prim [(W 0 0), (W 4 0)] none) (.indexAddr 33 (.tmp 9) (.tmp 11)) 0 false (.need (.prim [(W 5 0)] none) (.load 255 (.tmp 12)) 255 false (.need (.prim [(W 6 0), (.one (.c (.k (.int .u32 (0)))))] none) (.binOp .eql 255 (.tmp 13) (.const (.int .u32 (0))) 255) 4 false (.split (.u 7 0) (.need (.prim [(W 2 0), (WK (1))] none) (.binOp .sub 3 (.tmp 16) (.const (I3 (1))) 3) 3 false (.back 0 [(.w (W 8 0))])) (.need (.prim [(W 0 0), (W 2 0), (W 2 0)] none) (.slice 33 (.tmp 18) none (some (.tmp 19)) (some (.tmp 20))) 33 false (.ret [(.agg [(U 8 0)])]))))))
def Yu : Tr := .need (.prim [(W 0 0)] none) (.call ⟨.builtin .len, #[(.tmp 4)], #[33]⟩) 3 false (.loop 0 [(.w (W 1 0))] (.need (.prim [(W 2 0), (WK (0))] none) (.binOp .gtr 3 (.tmp 6) (.const (I3 (0))) 3) 4 false (.split (.u 3 0) YG (.need (.prim [(W 0 0), (W 2 0), (W 2 0)] none) (.slice 33 (.tmp 18) none (some (.tmp 19)) (some (.tmp 20))) 33 false (.ret [(.agg [(U 4 0)])])))))
theorem He : aM prog f197 (fun _ => none) [.v none] = Yu := by kernel_rfl
theorem gD (ds : List Nat) (hd : Dg ds) (hl : ds.length < 4611686018427387904) : aN prog 197 [.one (.slice 1 (rT ds))] (.ret [mT (lv ds)]) := by
 refine aD (args := [.v none]) (ins := [.v (.one (.slice 1 (rT ds)))]) (hints := fun _ => none) fo (by kernel_rfl) func197 ⟨rfl, trivial⟩ ?_
 rw [He]
 refine vn (aK cG bI) rfl ?_
 refine aY {n : Nat // n ≤ ds.length ∧ lv (ds.take n) = lv ds} (fun g => [.one (.int .i64 g.1)]) (fun g => g.1) ⟨ds.length, Nat.le_refl _, by rw [List.take_length]⟩ aL.rfl (fun _ => rfl) ?_
 rintro ⟨n, hn, hv⟩
 dsimp only
 have fin : ∀ τ : Env, (n = 0 ∨ ∃ d, ds[n - 1]? = some d ∧ d ≠ 0) → (rT ds).take n = rT (dg (lv ds)) := by
  intro τ h
  rw [rT, rT, ← List.map_take]
  congr 1
  rw [← hv, dg, lv, Dt (by omega) _ (hd.take n)]
  intro d hlast
  rcases h with rfl | ⟨d', hd', hne⟩
  ·simp at hlast
  ·rw [List.getLast?_eq_getElem?, List.length_take, Nat.min_eq_left hn, List.getElem?_take] at hlast
   split at hlast
   ·rw [hd'] at hlast; simp at hlast; omega
   ·cases hlast
 refine vn Cb rfl ?_
 refine vs _ rfl (fun h => ?_) (fun h => ?_)
 ·have hlt : n - 1 < ds.length := by omega
  have hget : ds[n - 1]? = some (ds[n - 1]'hlt) := List.getElem?_eq_getElem hlt
  generalize ds[n - 1]'hlt = d at hget
  refine vn (jN (c := ((n - 1 : Nat) : Int)) (by rw [jT] <;> omega)) rfl ?_
  refine vn (yX cG (by omega) (by simpa using hget)) rfl ?_
  refine vn zG rfl ?_
  refine vn LF rfl ?_
  refine vs _ rfl (fun h2 => ?_) (fun h2 => ?_)
  ·refine vn (jN (c := ((n - 1 : Nat) : Int)) (by rw [jT] <;> omega)) rfl ?_
   refine aO rfl ⟨⟨n - 1, by omega, ?_⟩, aL.rfl, ?_⟩
   ·have hd0 : d = 0 := by omega
    subst hd0
    have := dN hget
    rw [Nat.mul_zero, show n - 1 + 1 = n by omega] at this
    exact (this.symm.trans hv)
   ·show n - 1 < n
    omega
  ·refine vn (xP cG (by omega) (by simpa using hn)) rfl ?_
   refine aJ ?_
   exact congrArg (fun x => [aH.agg [aF.slice 1 x]]) (fin [] (.inr ⟨d, hget, by omega⟩))
 ·refine vn (xP cG (by omega) (by simpa using hn)) rfl ?_
  refine aJ ?_
  exact congrArg (fun x => [aH.agg [aF.slice 1 x]]) (fin [] (.inl (by omega)))
end Go.Sy
namespace Go.Sy
open Go Go.Proofs Tryz Ord
def Wp : Tr := .need (.prim [(W 20 0), (.one (.c (.k (.int .u32 (1000000000)))))] none) (.binOp .geq 255 (.tmp 46) (.const (.int .u32 (1000000000))) 255) 4 false (.split (.u 21 0) (.need (.prim [(W 20 0), (.one (.c (.k (.int .u32 (1000000000)))))] none) (.binOp .sub 255 (.tmp 48) (.const (.int .u32 (1000000000))) 255) 255 false (.need (.idx 11 (.u 10 0)) (.indexAddr 33 (.tmp 50) (.tmp 51)) 0 false (.need (.strow 11 1 (.u 10 0) 0 [(.u 22 0)]) (.store 255 (.tmp 53) (.tmp 52)) 0 false (.need (.prim [(W 10 0), (WK (1))] none) (.binOp .add 3 (.tmp 26) (.const (I3 (1))) 3) 3 false (.back 0 [(.w (.one (.c (.k (.int .u32 (1)))))), (.w (W 24 0)), (.row 23)]))))) (.need (.idx 11 (.u 10 0)) (.indexAddr 33 (.tmp 50) (.tmp 51)) 0 false (.need (.strow 11 1 (.u 10 0) 0 [(.u 20 0)]) (.store 255 (.tmp 53) (.tmp 52)) 0 false (.need (.prim [(W 10 0), (WK (1))] none) (.binOp .add 3 (.tmp 26) (.const (I3 (1))) 3) 3 false (.back 0 [(.w (.one (.c (.k (.int .u32 (0)))))), (.w (W 23 0)), (.row 22)])))))
def Pz : Tr := .need (.prim [(W 18 0)] none) (.load 255 (.tmp 43)) 255 false (.need (.prim [(W 15 0), (W 19 0)] none) (.binOp .add 255 (.tmp 39) (.tmp 44) 255) 255 false Wp)
def Pb : Tr := .need (.prim [(W 15 0), (.one (.c (.k (.int .u32 (1000000000)))))] none) (.binOp .geq 255 (.tmp 46) (.const (.int .u32 (1000000000))) 255) 4 false (.split (.u 18 0) (.need (.prim [(W 15 0), (.one (.c (.k (.int .u32 (1000000000)))))] none) (.binOp .sub 255 (.tmp 48) (.const (.int .u32 (1000000000))) 255) 255 false (.need (.idx 11 (.u 10 0)) (.indexAddr 33 (.tmp 50) (.tmp 51)) 0 false (.need (.strow 11 1 (.u 10 0) 0 [(.u 19 0)]) (.store 255 (.tmp 53) (.tmp 52)) 0 false (.need (.prim [(W 10 0), (WK (1))] none) (.binOp .add 3 (.tmp 26) (.const (I3 (1))) 3) 3 false (.back 0 [(.w (.one (.c (.k (.int .u32 (1)))))), (.w (W 21 0)), (.row 20)]))))) (.need (.idx 11 (.u 10 0)) (.indexAddr 33 (.tmp 50) (.tmp 51)) 0 false (.need (.strow 11 1 (.u 10 0) 0 [(.u 15 0)]) (.store 255 (.tmp 53) (.tmp 52)) 0 false (.need (.prim [(W 10 0), (WK (1))] none) (.binOp .add 3 (.tmp 26) (.const (I3 (1))) 3) 3 false (.back 0 [(.w (.one (.c (.k (.int .u32 (0)))))), (.w (W 20 0)), (.row 19)])))))
def Wx : Tr := .need (.prim [(W 1 0), (W 10 0)] none) (.indexAddr 33 (.tmp 24) (.tmp 26)) 0 false (.need (.prim [(W 13 0)] none) (.load 255 (.tmp 29)) 255 false (.need (.prim [(W 14 0), (W 9 0)] none) (.binOp .add 255 (.tmp 31) (.tmp 32) 255) 255 false (.need (.prim [(W 0 0)] none) (.call ⟨.builtin .len, #[(.tmp 36)], #[33]⟩) 3 false (.need (.prim [(W 10 0), (W 16 0)] none) (.binOp .lss 3 (.tmp 34) (.tmp 37) 3) 4 false (.split (.u 17 0) (.need (.prim [(W 0 0), (W 10 0)] none) (.indexAddr 33 (.tmp 41) (.tmp 42)) 0 false Pz) Pb)))))
def PF : Tr := .need (.idx 11 (.u 13 0)) (.indexAddr 33 (.tmp 55) (.tmp 58)) 0 false (.need (.strow 11 1 (.u 13 0) 0 [(.u 9 0)]) (.store 255 (.tmp 60) (.tmp 59)) 0 false (.need (.call 197 [(.one (.c (.sr 1 14)))] [(some 1)]) (.call ⟨.value (.func 197), #[(.tmp 61)], #[33]⟩) 35 true (.ret [(.agg [(U 15 0)])])))
def Yb : Tr := .need (.prim [(W 5 0), (WK (1))] none) (.binOp .add 3 (.tmp 20) (.const (I3 (1))) 3) 3 false (.need (.make [(.int .u32 (0))] 4 (.u 6 0) (.u 6 0)) (.makeSlice 33 (.tmp 21) (.tmp 21)) 33 false (.need (.prim [(W 1 0)] none) (.call ⟨.builtin .len, #[(.tmp 24)], #[33]⟩) 3 false (.loop 0 [(.w (.one (.c (.k (.int .u32 (0)))))), (.w (WK (0))), (.row 7)] (.need (.prim [(W 10 0), (W 8 0)] none) (.binOp .lss 3 (.tmp 26) (.tmp 25) 3) 0 false (.split (.u 12 0) Wx (.need (.prim [(W 1 0)] none) (.call ⟨.builtin .len, #[(.tmp 57)], #[33]⟩) 3 false PF))))))
def Xr : Tr := .need (.prim [(W 0 0), (W 10 0)] none) (.indexAddr 33 (.tmp 24) (.tmp 26)) 0 false (.need (.prim [(W 13 0)] none) (.load 255 (.tmp 29)) 255 false (.need (.prim [(W 14 0), (W 9 0)] none) (.binOp .add 255 (.tmp 31) (.tmp 32) 255) 255 false (.need (.prim [(W 1 0)] none) (.call ⟨.builtin .len, #[(.tmp 36)], #[33]⟩) 3 false (.need (.prim [(W 10 0), (W 16 0)] none) (.binOp .lss 3 (.tmp 34) (.tmp 37) 3) 4 false (.split (.u 17 0) (.need (.prim [(W 1 0), (W 10 0)] none) (.indexAddr 33 (.tmp 41) (.tmp 42)) 0 false Pz) Pb)))))
def Vj : Tr := .need (.prim [(W 5 0), (WK (1))] none) (.binOp .add 3 (.tmp 20) (.const (I3 (1))) 3) 3 false (.need (.make [(.int .u32 (0))] 4 (.u 6 0) (.u 6 0)) (.makeSlice 33 (.tmp 21) (.tmp 21)) 33 false (.need (.prim [(W 0 0)] none) (.call ⟨.builtin .len, #[(.tmp 24)], #[33]⟩) 3 false (.loop 0 [(.w (.one (.c (.k (.int .u32 (0)))))), (.w (WK (0))), (.row 7)] (.need (.prim [(W 10 0), (W 8 0)] none) (.binOp .lss 3 (.tmp 26) (.tmp 25) 3) 0 false (.split (.u 12 0) Xr (.need (.prim [(W 0 0)] none) (.call ⟨.builtin .len, #[(.tmp 57)], #[33]⟩) 3 false PF))))))
def Yh : Tr := .need (.prim [(W 0 0)] none) (.call ⟨.builtin .len, #[(.tmp 10)], #[33]⟩) 3 false (.need (.prim [(W 1 0)] none) (.call ⟨.builtin .len, #[(.tmp 13)], #[33]⟩) 3 false (.need (.prim [(W 2 0), (W 3 0)] none) (.binOp .lss 3 (.tmp 11) (.tmp 14) 3) 4 false (.split (.u 4 0) (.need (.prim [(W 1 0)] none) (.call ⟨.builtin .len, #[(.tmp 19)], #[33]⟩) 3 false Yb) (.need (.prim [(W 0 0)] none) (.call ⟨.builtin .len, #[(.tmp 19)], #[33]⟩) 3 false Vj))))
theorem Sk : aM prog f196 (fun _ => none) [.v (some 1), .v (some 1)] = Yh := by kernel_rfl
structure nN (xs ys : List Nat) (i c : Nat) (os : List Nat) : Prop where
 le : i ≤ xs.length
 c1 : c ≤ 1
 len : os.length = xs.length + 1
 dg : Dg os
 eq : lv (os.take i) + 1000000000 ^ i * c = lv (xs.take i) + lv (ys.take i)
theorem nN.init (xs ys : List Nat) : nN xs ys 0 0 (List.replicate (xs.length + 1) 0) := ⟨Nat.zero_le _, by omega, by simp, Dg.rep _, by simp [lv, val]⟩
theorem nN.next {xs ys os : List Nat} {i c x y c' z : Nat} (h : nN xs ys i c os) (hi : i < xs.length) (hx : xs[i]? = some x) (hy : ys[i]?.getD 0 = y) (hc : c' ≤ 1) (hz : z < 1000000000) (he : z + 1000000000 * c' = x + c + y) : nN xs ys (i + 1) c' (os.set i z) := by
 refine ⟨hi, hc, by rw [List.length_set]; exact h.len, h.dg.set hz, ?_⟩
 rw [pJ (by rw [h.len]; omega), dN hx, Nat.pow_succ]
 have hb : lv (ys.take (i + 1)) = lv (ys.take i) + 1000000000 ^ i * y := by
  cases hbi : ys[i]? with
  | some d => rw [hbi] at hy; simp only [Option.getD_some] at hy; subst hy; exact dN hbi
  | none =>
    rw [hbi] at hy; simp only [Option.getD_none] at hy; subst hy
    have := List.getElem?_eq_none_iff.1 hbi
    rw [List.take_of_length_le (by omega), List.take_of_length_le (by omega)]; omega
 rw [hb]
 have h1 := h.eq
 have h2 := congrArg (fun t => 1000000000 ^ i * t) he
 simp only [Nat.mul_add] at h2
 rw [Nat.mul_assoc]
 omega
theorem nN.fin {xs ys os : List Nat} {c : Nat} {n : Nat} (h : nN xs ys xs.length c os) (hle : ys.length ≤ xs.length) (he : lv xs + lv ys = n) : lv (os.set xs.length c) = n := by
 have h1 := pJ (os := os) (i := xs.length) (x := c) (by rw [h.len]; omega)
 rw [List.take_of_length_le (by rw [List.length_set, h.len]; omega)] at h1
 have h2 := h.eq
 rw [List.take_length, List.take_of_length_le hle] at h2
 omega
set_option maxHeartbeats 1000000 in
theorem Lb (a b : Nat) (hs : (dg a).length + (dg b).length < 1099511627776) : aN prog 196 [mT a, mT b] (.ret [mT (a + b)]) := by
 refine aD (args := [.v (some 1), .v (some 1)]) (ins := [.v (mT a), .v (mT b)]) (hints := fun _ => none) fo (by kernel_rfl) func196 ⟨rfl, rfl, trivial⟩ ?_
 rw [Sk]
 dsimp only [List.map, In.env]
 refine vn (aK cG bI) rfl ?_
 dsimp only [aA, aB]
 refine vn (aK cG bI) rfl ?_
 dsimp only [aA, aB]
 refine vn qF rfl ?_
 dsimp only [aA, aB]
 refine vs _ rfl (fun hab => ?_) (fun hab => ?_)
 ·skip
  refine vn (aK cG bI) rfl ?_
  dsimp only [aA, aB]
  refine vn (cM (c := (((dg b).length + 1 : Nat) : Int)) (by rw [jT] <;> omega)) rfl ?_
  dsimp only [aA, aB]
  refine qH (n := (dg b).length + 1) (m := (dg b).length + 1) rfl rfl AN (Nat.le_refl _) (by omega) (by simp [maxLen]; omega) ?_
  dsimp only [aA, aB]
  refine vn (aK cG bI) rfl ?_
  dsimp only [aA, aB]
  refine aY {g : Nat × Nat × List Nat // nN (dg b) (dg a) g.1 g.2.1 g.2.2} (fun g => [.one (.int .u32 g.1.2.1), .one (.int .i64 g.1.1), .rows (rT g.1.2.2)]) (fun g => (dg b).length - g.1.1) ⟨(0, 0, List.replicate ((dg b).length + 1) 0), nN.init _ _⟩ aL.rfl (fun _ => rfl) ?_
  rintro ⟨⟨i, c, os⟩, hI⟩
  dsimp only [aA, aB] at hI ⊢
  refine vn qF rfl ?_
  dsimp only [aA, aB]
  refine vs _ rfl (fun h => ?_) (fun h => ?_)
  ·have hlt : i < (dg b).length := by omega
   have hget : (dg b)[i]? = some ((dg b)[i]'hlt) := List.getElem?_eq_getElem hlt
   generalize (dg b)[i]'hlt = x at hget
   have hx := (iD b).get hget
   have hc := hI.c1
   have hol : i < os.length := by rw [hI.len]; omega
   have hog : (rT os)[((i : Int)).toNat]? = some [aF.int .u32 ((os[i]'hol : Nat) : Int)] := mH (by simp)
   refine vn (yX cG (by omega) (by simpa using hget)) rfl ?_
   dsimp only [aA, aB]
   refine vn zG rfl ?_
   dsimp only [aA, aB]
   refine vn (cM (c := ((x + c : Nat) : Int)) (by rw [tL] <;> omega)) rfl ?_
   dsimp only [aA, aB]
   refine vn (aK cG bI) rfl ?_
   dsimp only [aA, aB]
   refine vn qF rfl ?_
   dsimp only [aA, aB]
   refine vs _ rfl (fun h1 => ?_) (fun h1 => ?_)
   ·have hlt1 : i < (dg a).length := by omega
    have hget1 : (dg a)[i]? = some ((dg a)[i]'hlt1) := List.getElem?_eq_getElem hlt1
    generalize (dg a)[i]'hlt1 = y at hget1
    have hy := (iD a).get hget1
    refine vn (yX cG (by omega) (by simpa using hget1)) rfl ?_
    dsimp only [aA, aB]
    refine vn zG rfl ?_
    dsimp only [aA, aB]
    refine vn (cM (c := ((x + c + y : Nat) : Int)) (by rw [tL] <;> omega)) rfl ?_
    dsimp only [aA, aB]
    refine vn xQ rfl ?_
    dsimp only [aA, aB]
    refine vs _ rfl (fun h2 => ?_) (fun h2 => ?_)
    ·refine vn (jN (c := ((x + c + y - 1000000000 : Nat) : Int)) (by rw [tL] <;> omega)) rfl ?_
     dsimp only [aA, aB]
     refine lW (ts := rT os) rfl rfl (by omega) (by rw [bI]; omega) ?_
     refine BW (ts := rT os) (us := rT (os.set i (x + c + y - 1000000000))) rfl rfl (by omega) hog gU ?_
     dsimp only [aA, aB]
     refine vn (cM (c := ((i + 1 : Nat) : Int)) (by rw [jT] <;> omega)) rfl ?_
     dsimp only [aA, aB]
     have hN : nN _ _ (i + 1) 1 (os.set i (x + c + y - 1000000000)) := hI.next (y := y) hlt hget (by rw [hget1]; rfl) (by omega) (by omega) (by omega)
     exact aO rfl ⟨⟨(i + 1, 1, os.set i (x + c + y - 1000000000)), hN⟩, aL.rfl, by show (dg b).length - (i + 1) < (dg b).length - i; omega⟩
    ·refine lW (ts := rT os) rfl rfl (by omega) (by rw [bI]; omega) ?_
     refine BW (ts := rT os) (us := rT (os.set i (x + c + y))) rfl rfl (by omega) hog gU ?_
     dsimp only [aA, aB]
     refine vn (cM (c := ((i + 1 : Nat) : Int)) (by rw [jT] <;> omega)) rfl ?_
     dsimp only [aA, aB]
     have hN : nN _ _ (i + 1) 0 (os.set i (x + c + y)) := hI.next (y := y) hlt hget (by rw [hget1]; rfl) (by omega) (by omega) (by omega)
     exact aO rfl ⟨⟨(i + 1, 0, os.set i (x + c + y)), hN⟩, aL.rfl, by show (dg b).length - (i + 1) < (dg b).length - i; omega⟩
   ·have hget1 : (dg a)[i]? = none := List.getElem?_eq_none (by omega)
    refine vn xQ rfl ?_
    dsimp only [aA, aB]
    refine vs _ rfl (fun h2 => ?_) (fun h2 => ?_)
    ·refine vn (jN (c := ((x + c - 1000000000 : Nat) : Int)) (by rw [tL] <;> omega)) rfl ?_
     dsimp only [aA, aB]
     refine lW (ts := rT os) rfl rfl (by omega) (by rw [bI]; omega) ?_
     refine BW (ts := rT os) (us := rT (os.set i (x + c - 1000000000))) rfl rfl (by omega) hog gU ?_
     dsimp only [aA, aB]
     refine vn (cM (c := ((i + 1 : Nat) : Int)) (by rw [jT] <;> omega)) rfl ?_
     dsimp only [aA, aB]
     have hN : nN _ _ (i + 1) 1 (os.set i (x + c - 1000000000)) := hI.next (y := 0) hlt hget (by rw [hget1]; rfl) (by omega) (by omega) (by omega)
     exact aO rfl ⟨⟨(i + 1, 1, os.set i (x + c - 1000000000)), hN⟩, aL.rfl, by show (dg b).length - (i + 1) < (dg b).length - i; omega⟩
    ·refine lW (ts := rT os) rfl rfl (by omega) (by rw [bI]; omega) ?_
     refine BW (ts := rT os) (us := rT (os.set i (x + c))) rfl rfl (by omega) hog gU ?_
     dsimp only [aA, aB]
     refine vn (cM (c := ((i + 1 : Nat) : Int)) (by rw [jT] <;> omega)) rfl ?_
     dsimp only [aA, aB]
     have hN : nN _ _ (i + 1) 0 (os.set i (x + c)) := hI.next (y := 0) hlt hget (by rw [hget1]; rfl) (by omega) (by omega) (by omega)
     exact aO rfl ⟨⟨(i + 1, 0, os.set i (x + c)), hN⟩, aL.rfl, by show (dg b).length - (i + 1) < (dg b).length - i; omega⟩
  ·have hie : i = (dg b).length := by have := hI.le; omega
   subst hie
   have hol : (dg b).length < os.length := by rw [hI.len]; omega
   have hog : (rT os)[(((dg b).length : Int)).toNat]? = some [aF.int .u32 ((os[(dg b).length]'hol : Nat) : Int)] := mH (by simp)
   refine vn (aK cG bI) rfl ?_
   dsimp only [aA, aB]
   refine lW (ts := rT os) rfl rfl (by omega) (by rw [bI]; omega) ?_
   refine BW (ts := rT os) (us := rT (os.set ((dg b).length) c)) rfl rfl (by omega) hog gU ?_
   dsimp only [aA, aB]
   refine aC (gD (os.set ((dg b).length) c) (hI.dg.set (by have := hI.c1; omega)) (by rw [List.length_set, hI.len]; omega)) rfl ?_
   dsimp only [aA, aB]
   refine aJ ?_
   rw [hI.fin (n := a + b) (by omega) (by rw [fA, fA] <;> omega)]
   rfl
 ·skip
  refine vn (aK cG bI) rfl ?_
  dsimp only [aA, aB]
  refine vn (cM (c := (((dg a).length + 1 : Nat) : Int)) (by rw [jT] <;> omega)) rfl ?_
  dsimp only [aA, aB]
  refine qH (n := (dg a).length + 1) (m := (dg a).length + 1) rfl rfl AN (Nat.le_refl _) (by omega) (by simp [maxLen]; omega) ?_
  dsimp only [aA, aB]
  refine vn (aK cG bI) rfl ?_
  dsimp only [aA, aB]
  refine aY {g : Nat × Nat × List Nat // nN (dg a) (dg b) g.1 g.2.1 g.2.2} (fun g => [.one (.int .u32 g.1.2.1), .one (.int .i64 g.1.1), .rows (rT g.1.2.2)]) (fun g => (dg a).length - g.1.1) ⟨(0, 0, List.replicate ((dg a).length + 1) 0), nN.init _ _⟩ aL.rfl (fun _ => rfl) ?_
  rintro ⟨⟨i, c, os⟩, hI⟩
  dsimp only [aA, aB] at hI ⊢
  refine vn qF rfl ?_
  dsimp only [aA, aB]
  refine vs _ rfl (fun h => ?_) (fun h => ?_)
  ·have hlt : i < (dg a).length := by omega
   have hget : (dg a)[i]? = some ((dg a)[i]'hlt) := List.getElem?_eq_getElem hlt
   generalize (dg a)[i]'hlt = x at hget
   have hx := (iD a).get hget
   have hc := hI.c1
   have hol : i < os.length := by rw [hI.len]; omega
   have hog : (rT os)[((i : Int)).toNat]? = some [aF.int .u32 ((os[i]'hol : Nat) : Int)] := mH (by simp)
   refine vn (yX cG (by omega) (by simpa using hget)) rfl ?_
   dsimp only [aA, aB]
   refine vn zG rfl ?_
   dsimp only [aA, aB]
   refine vn (cM (c := ((x + c : Nat) : Int)) (by rw [tL] <;> omega)) rfl ?_
   dsimp only [aA, aB]
   refine vn (aK cG bI) rfl ?_
   dsimp only [aA, aB]
   refine vn qF rfl ?_
   dsimp only [aA, aB]
   refine vs _ rfl (fun h1 => ?_) (fun h1 => ?_)
   ·have hlt1 : i < (dg b).length := by omega
    have hget1 : (dg b)[i]? = some ((dg b)[i]'hlt1) := List.getElem?_eq_getElem hlt1
    generalize (dg b)[i]'hlt1 = y at hget1
    have hy := (iD b).get hget1
    refine vn (yX cG (by omega) (by simpa using hget1)) rfl ?_
    dsimp only [aA, aB]
    refine vn zG rfl ?_
    dsimp only [aA, aB]
    refine vn (cM (c := ((x + c + y : Nat) : Int)) (by rw [tL] <;> omega)) rfl ?_
    dsimp only [aA, aB]
    refine vn xQ rfl ?_
    dsimp only [aA, aB]
    refine vs _ rfl (fun h2 => ?_) (fun h2 => ?_)
    ·refine vn (jN (c := ((x + c + y - 1000000000 : Nat) : Int)) (by rw [tL] <;> omega)) rfl ?_
     dsimp only [aA, aB]
     refine lW (ts := rT os) rfl rfl (by omega) (by rw [bI]; omega) ?_
     refine BW (ts := rT os) (us := rT (os.set i (x + c + y - 1000000000))) rfl rfl (by omega) hog gU ?_
     dsimp only [aA, aB]
     refine vn (cM (c := ((i + 1 : Nat) : Int)) (by rw [jT] <;> omega)) rfl ?_
     dsimp only [aA, aB]
     have hN : nN _ _ (i + 1) 1 (os.set i (x + c + y - 1000000000)) := hI.next (y := y) hlt hget (by rw [hget1]; rfl) (by omega) (by omega) (by omega)
     exact aO rfl ⟨⟨(i + 1, 1, os.set i (x + c + y - 1000000000)), hN⟩, aL.rfl, by show (dg a).length - (i + 1) < (dg a).length - i; omega⟩
    ·refine lW (ts := rT os) rfl rfl (by omega) (by rw [bI]; omega) ?_
     refine BW (ts := rT os) (us := rT (os.set i (x + c + y))) rfl rfl (by omega) hog gU ?_
     dsimp only [aA, aB]
     refine vn (cM (c := ((i + 1 : Nat) : Int)) (by rw [jT] <;> omega)) rfl ?_
     dsimp only [aA, aB]
     have hN : nN _ _ (i + 1) 0 (os.set i (x + c + y)) := hI.next (y := y) hlt hget (by rw [hget1]; rfl) (by omega) (by omega) (by omega)
     exact aO rfl ⟨⟨(i + 1, 0, os.set i (x + c + y)), hN⟩, aL.rfl, by show (dg a).length - (i + 1) < (dg a).length - i; omega⟩
   ·have hget1 : (dg b)[i]? = none := List.getElem?_eq_none (by omega)
    refine vn xQ rfl ?_
    dsimp only [aA, aB]
    refine vs _ rfl (fun h2 => ?_) (fun h2 => ?_)
    ·refine vn (jN (c := ((x + c - 1000000000 : Nat) : Int)) (by rw [tL] <;> omega)) rfl ?_
     dsimp only [aA, aB]
     refine lW (ts := rT os) rfl rfl (by omega) (by rw [bI]; omega) ?_
     refine BW (ts := rT os) (us := rT (os.set i (x + c - 1000000000))) rfl rfl (by omega) hog gU ?_
     dsimp only [aA, aB]
     refine vn (cM (c := ((i + 1 : Nat) : Int)) (by rw [jT] <;> omega)) rfl ?_
     dsimp only [aA, aB]
     have hN : nN _ _ (i + 1) 1 (os.set i (x + c - 1000000000)) := hI.next (y := 0) hlt hget (by rw [hget1]; rfl) (by omega) (by omega) (by omega)
     exact aO rfl ⟨⟨(i + 1, 1, os.set i (x + c - 1000000000)), hN⟩, aL.rfl, by show (dg a).length - (i + 1) < (dg a).length - i; omega⟩
    ·refine lW (ts := rT os) rfl rfl (by omega) (by rw [bI]; omega) ?_
     refine BW (ts := rT os) (us := rT (os.set i (x + c))) rfl rfl (by omega) hog gU ?_
     dsimp only [aA, aB]
     refine vn (cM (c := ((i + 1 : Nat) : Int)) (by rw [jT] <;> omega)) rfl ?_
     dsimp only [aA, aB]
     have hN : nN _ _ (i + 1) 0 (os.set i (x + c)) := hI.next (y := 0) hlt hget (by rw [hget1]; rfl) (by omega) (by omega) (by omega)
     exact aO rfl ⟨⟨(i + 1, 0, os.set i (x + c)), hN⟩, aL.rfl, by show (dg a).length - (i + 1) < (dg a).length - i; omega⟩
  ·have hie : i = (dg a).length := by have := hI.le; omega
   subst hie
   have hol : (dg a).length < os.length := by rw [hI.len]; omega
   have hog : (rT os)[(((dg a).length : Int)).toNat]? = some [aF.int .u32 ((os[(dg a).length]'hol : Nat) : Int)] := mH (by simp)
   refine vn (aK cG bI) rfl ?_
   dsimp only [aA, aB]
   refine lW (ts := rT os) rfl rfl (by omega) (by rw [bI]; omega) ?_
   refine BW (ts := rT os) (us := rT (os.set ((dg a).length) c)) rfl rfl (by omega) hog gU ?_
   dsimp only [aA, aB]
   refine aC (gD (os.set ((dg a).length) c) (hI.dg.set (by have := hI.c1; omega)) (by rw [List.length_set, hI.len]; omega)) rfl ?_
   dsimp only [aA, aB]
   refine aJ ?_
   rw [hI.fin (n := a + b) (by omega) (by rw [fA, fA] <;> omega)]
   rfl
end Go.Sy
namespace Go.Sy
open Go Go.Proofs Tryz Ord
def Yf : Tr := .need (.prim [(W 0 0)] none) (.call ⟨.builtin .len, #[(.tmp 4)], #[33]⟩) 3 false (.need (.prim [(W 1 0), (WK (0))] none) (.binOp .eql 3 (.tmp 5) (.const (I3 (0))) 3) 4 false (.ret [(W 2 0)]))
theorem RA : aM prog f179 (fun _ => none) [.v (some 1)] = Yf := by kernel_rfl
def Ya : Tr := .split (.u 3 0) (.need (.prim [(W 1 0), (.one (.c (.k (.int .u64 (1000000000)))))] none) (.binOp .rem 254 (.tmp 9) (.const (.int .u64 (1000000000))) 254) 254 false (.need (.prim [(W 4 0)] none) (.convert 254 255 (.tmp 10)) 255 false (.need (.lit 1 [[(.u 5 0)]]) (.buildSlice 33 1 #[(0, (.tmp 11))]) 33 false (.need (.app 1 4 (some 2) none (some 6)) (.call ⟨.builtin .append, #[(.tmp 8), (.tmp 12)], #[33, 33]⟩) 33 false (.need (.prim [(W 1 0), (.one (.c (.k (.int .u64 (1000000000)))))] none) (.binOp .quo 254 (.tmp 6) (.const (.int .u64 (1000000000))) 254) 254 false (.back 0 [(.w (W 8 0)), (.row 7)])))))) (.ret [(.agg [(.c (.sr 1 2))])])
def YX : Tr := .loop 0 [(.w (W 0 0)), .nilrow] (.need (.prim [(W 1 0), (.one (.c (.k (.int .u64 (0)))))] none) (.binOp .gtr 254 (.tmp 4) (.const (.int .u64 (0))) 254) 4 false Ya)
theorem Ow : aM prog f195 (fun _ => none) [.v none] = YX := by kernel_rfl
def YU : Tr := .split (.u 0 0) (.need (.call 179 [(.agg [(U 1 0)])] [none]) (.call ⟨.value (.func 179), #[(.tmp 8)], #[35]⟩) 4 false (.need (.prim [(W 2 0)] none) (.unOp .not 4 (.tmp 9)) 4 false (.ret [(.agg [(U 1 0), (U 3 0)])]))) (.ret [(.agg [(U 1 0), (.c (.k (.bool false)))])])
theorem JO : aM prog f155 (fun _ => none) [.v none, .v (some 1)] = YU := by kernel_rfl
def NT : Tr := .ret [(WK (0))]
def Od : Tr := .ret [(WK (-1))]
def Nc : Tr := .ret [(WK (1))]
def YL : Tr := .need (.call 179 [(.agg [(U 0 0)])] [none]) (.call ⟨.value (.func 179), #[(.tmp 5)], #[35]⟩) 4 true (.split (.u 1 0) NT (.split (.u 0 1) Od Nc))
theorem OE : aM prog f114 (fun _ => none) [.v (some 2)] = YL := by kernel_rfl
theorem yG (n : Nat) : aN prog 179 [mT n] (.ret [.one (.bool (decide (n = 0)))]) := by
 refine aD (args := [.v (some 1)]) (ins := [.v (mT n)]) (hints := fun _ => none) fo (by kernel_rfl) func179 ⟨rfl, trivial⟩ ?_
 rw [RA]
 refine vn (aK cG rfl) rfl ?_
 refine vn LF rfl ?_
 refine aJ ?_
 show [aH.one (.bool (decide (_ = (0 : Int))))] = _
 have h : ((rT (dg n)).length : Int) = 0 ↔ n = 0 := by
  rw [bI, ← tI]; cases dg n <;> simp; omega
 simp only [h]
theorem iA (n : Nat) (h : n < 18446744073709551616) : aN prog 195 [.one (.int .u64 n)] (.ret [mT n]) := by
 refine aD (args := [.v none]) (ins := [.v (.one (.int .u64 n))]) (hints := fun _ => none) fo (by kernel_rfl) func195 ⟨rfl, trivial⟩ ?_
 rw [Ow]
 have hlen : (dg n).length ≤ 3 := gH (by omega) (by omega)
 refine aY {p : Nat × List Nat // p.2 ++ dg p.1 = dg n ∧ p.1 ≤ n} (fun g => [.one (.int .u64 g.1.1), .rows (rT g.1.2)]) (fun g => g.1.1) ⟨(n, []), by simp⟩ aL.rfl (fun _ => rfl) ?_
 rintro ⟨⟨k, ds⟩, hinv, hle⟩
 dsimp only [List.map, In.env, aA, aB] at hinv hle ⊢
 have hds : ds.length ≤ 3 := by have := congrArg List.length hinv; simp at this; omega
 refine vn Cb rfl ?_
 refine vs _ rfl (fun hk => ?_) (fun hk => ?_)
 ·refine vn (xV (c := ((k % 1000000000 : Nat) : Int)) (by decide) (by rw [Int.tmod_eq_emod_of_nonneg (by omega)]; omega)) rfl ?_
  refine vn (fU ⟨_, fJ⟩ eU (c := ((k % 1000000000 : Nat) : Int)) (tL (by omega) (by omega))) rfl ?_
  refine bC (us := rT [k % 1000000000]) rfl ?_
  refine qY (ts := rT ds) (us := rT [k % 1000000000]) (vs := rT (ds ++ [k % 1000000000])) rfl rfl List.map_append.symm (by simp; omega) (by simp [maxLen]; omega) ?_
  refine vn (nG (c := ((k / 1000000000 : Nat) : Int)) (by decide) (by rw [Int.tdiv_eq_ediv_of_nonneg (by omega), oV (by omega) (by omega)]; omega)) rfl ?_
  refine aO rfl ⟨⟨(k / 1000000000, ds ++ [k % 1000000000]), ?_, ?_⟩, ?_, ?_⟩
  ·have : k ≠ 0 := by omega
   rw [← hinv, dg, dg, dY (n := k) (by omega) this]; simp
  ·show k / 1000000000 ≤ n
   omega
  ·exact aL.rfl
  ·show k / 1000000000 < k
   omega
 ·have : k = 0 := by omega
  subst this
  refine aJ ?_
  have e : dg 0 = [] := bZ _
  rw [e, List.append_nil] at hinv
  subst hinv
  rfl
abbrev iT (z : Int) : aH := .agg [dT z.natAbs, .bool (decide (z < 0))]
theorem eW (m : Bool) (n : Nat) (z : Int) (hz : z = if m then -(n : Int) else n) : aN prog 155 [.one (.bool m), mT n] (.ret [iT z]) := by
 refine aD (args := [.v none, .v (some 1)]) (ins := [.v (.one (.bool m)), .v (mT n)]) (hints := fun _ => none) fo (by kernel_rfl) func155 ⟨rfl, rfl, trivial⟩ ?_
 rw [JO]
 have ha : z.natAbs = n := by subst hz; cases m <;> simp
 refine uB m rfl (fun hm => ?_) (fun hm => ?_)
 ·subst hm
  refine aC (yG n) rfl ?_
  refine vn qE rfl ?_
  refine aJ ?_
  have : (!decide (n = 0)) = decide (z < 0) := by subst hz; simp; by_cases h : n = 0 <;> simp [h] <;> omega
  show [aH.agg [dT n, .bool (!decide (n = 0))]] = _
  rw [this, iT, ha]
 ·subst hm
  refine aJ ?_
  have : false = decide (z < 0) := by subst hz; simp
  show [aH.agg [dT n, .bool false]] = _
  rw [this, iT, ha]
end Go.Sy
namespace Go.Sy
open Go Go.Proofs Tryz Ord
def Xj : Tr := .need (.prim [(W 26 0), (.one (.c (.k (.int .u64 (1000000000)))))] none) (.binOp .rem 254 (.tmp 54) (.const (.int .u64 (1000000000))) 254) 254 false (.need (.prim [(W 28 0)] none) (.convert 254 255 (.tmp 55)) 255 false (.need (.prim [(W 26 0), (.one (.c (.k (.int .u64 (1000000000)))))] none) (.binOp .quo 254 (.tmp 57) (.const (.int .u64 (1000000000))) 254) 254 false (.need (.idx 15 (.u 27 0)) (.indexAddr 33 (.tmp 50) (.tmp 53)) 0 false (.need (.strow 15 1 (.u 27 0) 0 [(.u 29 0)]) (.store 255 (.tmp 59) (.tmp 56)) 0 false (.need (.prim [(W 14 0), (WK (1))] none) (.binOp .add 3 (.tmp 30) (.const (I3 (1))) 3) 3 false (.back 1 [(.w (W 30 0)), (.w (W 32 0)), (.row 31)]))))))
def UX : Tr := .need (.prim [(W 7 0), (W 14 0)] none) (.binOp .add 3 (.tmp 42) (.tmp 43) 3) 3 false (.need (.idx 15 (.u 22 0)) (.indexAddr 33 (.tmp 41) (.tmp 44)) 0 false (.need (.ldrow 15 (.u 22 0) 0 1 false) (.load 255 (.tmp 45)) 255 false (.need (.prim [(W 23 0)] none) (.convert 255 254 (.tmp 46)) 254 false (.need (.prim [(W 21 0), (W 24 0)] none) (.binOp .add 254 (.tmp 40) (.tmp 47) 254) 254 false (.need (.prim [(W 13 0), (W 25 0)] none) (.binOp .add 254 (.tmp 35) (.tmp 48) 254) 254 false (.need (.prim [(W 7 0), (W 14 0)] none) (.binOp .add 3 (.tmp 51) (.tmp 52) 3) 3 false Xj))))))
def Uu : Tr := .need (.prim [(W 1 0)] none) (.call ⟨.builtin .len, #[(.tmp 64)], #[33]⟩) 3 false (.need (.prim [(W 7 0), (W 17 0)] none) (.binOp .add 3 (.tmp 62) (.tmp 65) 3) 3 false (.need (.prim [(W 13 0)] none) (.convert 254 255 (.tmp 67)) 255 false (.need (.idx 15 (.u 18 0)) (.indexAddr 33 (.tmp 61) (.tmp 66)) 0 false (.need (.strow 15 1 (.u 18 0) 0 [(.u 19 0)]) (.store 255 (.tmp 69) (.tmp 68)) 0 false (.need (.prim [(W 7 0), (WK (1))] none) (.binOp .add 3 (.tmp 22) (.const (I3 (1))) 3) 3 false (.back 0 [(.w (W 21 0)), (.row 20)]))))))
def Uj : Tr := .need (.prim [(W 14 0), (W 12 0)] none) (.binOp .lss 3 (.tmp 30) (.tmp 29) 3) 0 false (.split (.u 16 0) (.need (.prim [(W 1 0), (W 14 0)] none) (.indexAddr 33 (.tmp 28) (.tmp 30)) 0 false (.need (.prim [(W 17 0)] none) (.load 255 (.tmp 33)) 255 false (.need (.prim [(W 11 0)] none) (.convert 255 254 (.tmp 36)) 254 false (.need (.prim [(W 18 0)] none) (.convert 255 254 (.tmp 38)) 254 false (.need (.prim [(W 19 0), (W 20 0)] none) (.binOp .mul 254 (.tmp 37) (.tmp 39) 254) 254 false UX))))) Uu)
def YE : Tr := .loop 0 [(.w (WK (0))), (.row 5)] (.need (.prim [(W 7 0), (W 6 0)] none) (.binOp .lss 3 (.tmp 22) (.tmp 21) 3) 0 false (.split (.u 9 0) (.need (.prim [(W 0 0), (W 7 0)] none) (.indexAddr 33 (.tmp 20) (.tmp 22)) 0 false (.need (.prim [(W 10 0)] none) (.load 255 (.tmp 25)) 255 false (.need (.prim [(W 1 0)] none) (.call ⟨.builtin .len, #[(.tmp 28)], #[33]⟩) 3 false (.loop 1 [(.w (.one (.c (.k (.int .u64 (0)))))), (.w (WK (0))), (.row 8)] Uj)))) (.need (.call 197 [(.one (.c (.sr 1 8)))] [(some 1)]) (.call ⟨.value (.func 197), #[(.tmp 71)], #[33]⟩) 35 true (.ret [(.agg [(U 10 0)])]))))
def Yg : Tr := .need (.prim [(W 0 0)] none) (.call ⟨.builtin .len, #[(.tmp 12)], #[33]⟩) 3 false (.need (.prim [(W 1 0)] none) (.call ⟨.builtin .len, #[(.tmp 15)], #[33]⟩) 3 false (.need (.prim [(W 2 0), (W 3 0)] none) (.binOp .add 3 (.tmp 13) (.tmp 16) 3) 3 false (.need (.make [(.int .u32 (0))] 4 (.u 4 0) (.u 4 0)) (.makeSlice 33 (.tmp 17) (.tmp 17)) 33 false (.need (.prim [(W 0 0)] none) (.call ⟨.builtin .len, #[(.tmp 20)], #[33]⟩) 3 false YE))))
theorem MZ : aM prog f118 (fun _ => none) [.v (some 1), .v (some 1)] = Yg := by kernel_rfl
theorem Qe {os : List Nat} {j z old n : Nat} (hj : os[j]? = some old) (hjn : j < n) : lv ((os.set j z).take n) + 1000000000 ^ j * old = lv (os.take n) + 1000000000 ^ j * z := by
 have hlt : j < os.length := (List.getElem?_eq_some_iff.1 hj).1
 have key : ∀ (os : List Nat) (j n : Nat), os[j]? = some old → j < n → lv ((os.set j z).take n) + 1000000000 ^ j * old = lv (os.take n) + 1000000000 ^ j * z := by
  intro os
  induction os with
  | nil => intro j n h; simp at h
  | cons d os ih =>
    intro j n h hn
    obtain ⟨m, rfl⟩ : ∃ m, n = m + 1 := ⟨n - 1, by omega⟩
    cases j with
    | zero =>
      simp only [List.getElem?_cons_zero, Option.some.injEq] at h
      subst h
      simp only [List.set_cons_zero, List.take_succ_cons, lv, val]
      omega
    | succ j =>
      have := ih j m (by simpa using h) (by omega)
      simp only [List.set_cons_succ, List.take_succ_cons, lv, val, Nat.pow_succ] at this ⊢
      have h1 : 1000000000 ^ j * 1000000000 * old = 1000000000 * (1000000000 ^ j * old) := by rw [Nat.mul_right_comm, Nat.mul_comm]
      have h2 : 1000000000 ^ j * 1000000000 * z = 1000000000 * (1000000000 ^ j * z) := by rw [Nat.mul_right_comm, Nat.mul_comm]
      rw [h1, h2]
      omega
 exact key os j n hj hjn
theorem OZ (n : Nat) : lv (List.replicate n 0) = 0 := by
 induction n with
 | zero => rfl
 | succ n ih => rw [List.replicate_succ, lv, val]; simp only [lv] at ih; rw [ih]
structure BL (xs ys : List Nat) (i : Nat) (os : List Nat) : Prop where
 le : i ≤ xs.length
 len : os.length = xs.length + ys.length
 dg : Dg os
 eq : lv (os.take (i + ys.length)) = lv (xs.take i) * lv ys
structure PH (xs ys : List Nat) (i x T k c : Nat) (os : List Nat) : Prop where
 le : k ≤ ys.length
 len : os.length = xs.length + ys.length
 dg : Dg os
 c1 : c < 1000000000
 eq : lv (os.take (i + ys.length)) + 1000000000 ^ (i + k) * c = T + x * (1000000000 ^ i * lv (ys.take k))
theorem BL.init (xs ys : List Nat) : BL xs ys 0 (List.replicate (xs.length + ys.length) 0) := ⟨Nat.zero_le _, by simp, Dg.rep _, by
 rw [List.take_replicate, OZ]; simp [lv, val]⟩
theorem BL.Yx {xs ys os : List Nat} {i x : Nat} (h : BL xs ys i os) : PH xs ys i x (lv (xs.take i) * lv ys) 0 0 os := ⟨Nat.zero_le _, h.len, h.dg, by omega, by rw [h.eq]; simp [lv, val]⟩
theorem PH.next {xs ys os : List Nat} {i x T k c y old z c' : Nat} (h : PH xs ys i x T k c os) (hi : i < xs.length) (hk : k < ys.length) (hx : x < 1000000000) (hy : ys[k]? = some y) (ho : os[i + k]? = some old) (hz : z < 1000000000) (hc : c' < 1000000000) (he : z + 1000000000 * c' = c + (x * y + old)) :
  PH xs ys i x T (k + 1) c' (os.set (i + k) z) := by
 refine ⟨hk, by rw [List.length_set]; exact h.len, h.dg.set hz, hc, ?_⟩
 have h1 := Qe (z := z) (n := i + ys.length) ho (by omega)
 have h2 := congrArg (fun t => 1000000000 ^ (i + k) * t) he
 have h3 := h.eq
 rw [dN hy]
 simp only [Nat.mul_add] at h2 ⊢
 have e1 : 1000000000 ^ (i + (k + 1)) * c' = 1000000000 ^ (i + k) * (1000000000 * c') := by rw [← Nat.add_assoc, Nat.pow_succ, Nat.mul_assoc]
 have e2 : x * (1000000000 ^ i * (1000000000 ^ k * y)) = 1000000000 ^ (i + k) * (x * y) := by rw [Nat.pow_add]; simp only [Nat.mul_left_comm, Nat.mul_assoc]
 rw [e1, e2]
 omega
theorem PH.out {xs ys os : List Nat} {i x c : Nat} (h : PH xs ys i x (lv (xs.take i) * lv ys) ys.length c os) (hx : xs[i]? = some x) : BL xs ys (i + 1) (os.set (i + ys.length) c) := by
 have hi : i < xs.length := (List.getElem?_eq_some_iff.1 hx).1
 refine ⟨hi, by rw [List.length_set]; exact h.len, h.dg.set h.c1, ?_⟩
 have h3 := h.eq
 rw [List.take_length] at h3
 rw [show i + 1 + ys.length = i + ys.length + 1 by omega, pJ (by rw [h.len]; omega), dN hx, h3, Nat.add_mul]
 congr 1
 rw [Nat.mul_left_comm, ← Nat.mul_assoc]
theorem BL.fin {xs ys os : List Nat} (h : BL xs ys xs.length os) : lv os = lv xs * lv ys := by
 have := h.eq
 rw [List.take_of_length_le (by rw [h.len]; omega), List.take_length] at this
 exact this
set_option maxHeartbeats 1000000 in
theorem gF (a b : Nat) (hs : (dg a).length + (dg b).length < 1099511627776) : aN prog 118 [mT a, mT b] (.ret [mT (a * b)]) := by
 refine aD (args := [.v (some 1), .v (some 1)]) (ins := [.v (mT a), .v (mT b)]) (hints := fun _ => none) fo (by kernel_rfl) func118 ⟨rfl, rfl, trivial⟩ ?_
 rw [MZ]
 dsimp only [List.map, In.env]
 refine vn (aK cG bI) rfl ?_
 dsimp only [aA, aB]
 refine vn (aK cG bI) rfl ?_
 dsimp only [aA, aB]
 refine vn (cM (c := (((dg a).length + (dg b).length : Nat) : Int)) (by rw [jT] <;> omega)) rfl ?_
 dsimp only [aA, aB]
 refine qH (n := (dg a).length + (dg b).length) (m := (dg a).length + (dg b).length) rfl rfl AN (Nat.le_refl _) (by omega) (by simp [maxLen]; omega) ?_
 dsimp only [aA, aB]
 refine vn (aK cG bI) rfl ?_
 dsimp only [aA, aB]
 refine aY {g : Nat × List Nat // BL (dg a) (dg b) g.1 g.2} (fun g => [.one (.int .i64 g.1.1), .rows (rT g.1.2)]) (fun g => (dg a).length - g.1.1) ⟨(0, List.replicate ((dg a).length + (dg b).length) 0), BL.init _ _⟩ aL.rfl (fun _ => rfl) ?_
 rintro ⟨⟨i, os⟩, hO⟩
 dsimp only [aA, aB] at hO ⊢
 refine vn qF rfl ?_
 dsimp only [aA, aB]
 refine vs _ rfl (fun h => ?_) (fun h => ?_)
 ·have hlt : i < (dg a).length := by omega
  have hget : (dg a)[i]? = some ((dg a)[i]'hlt) := List.getElem?_eq_getElem hlt
  generalize (dg a)[i]'hlt = x at hget
  have hx := (iD a).get hget
  refine vn (yX cG (by omega) (by simpa using hget)) rfl ?_
  dsimp only [aA, aB]
  refine vn zG rfl ?_
  dsimp only [aA, aB]
  refine vn (aK cG bI) rfl ?_
  dsimp only [aA, aB]
  refine aY {g : Nat × Nat × List Nat // PH (dg a) (dg b) i x (lv ((dg a).take i) * lv (dg b)) g.1 g.2.1 g.2.2} (fun g => [.one (.int .u64 g.1.2.1), .one (.int .i64 g.1.1), .rows (rT g.1.2.2)]) (fun g => (dg b).length - g.1.1) ⟨(0, 0, os), hO.Yx⟩ aL.rfl (fun _ => rfl) ?_
  rintro ⟨⟨k, c, os2⟩, hI⟩
  dsimp only [aA, aB] at hI ⊢
  have hc := hI.c1
  refine vn qF rfl ?_
  dsimp only [aA, aB]
  refine vs _ rfl (fun h1 => ?_) (fun h1 => ?_)
  ·have hlk : k < (dg b).length := by omega
   have hgk : (dg b)[k]? = some ((dg b)[k]'hlk) := List.getElem?_eq_getElem hlk
   generalize (dg b)[k]'hlk = y at hgk
   have hy := (iD b).get hgk
   have hol : i + k < os2.length := by rw [hI.len]; omega
   have hok : os2[i + k]? = some (os2[i + k]'hol) := List.getElem?_eq_getElem hol
   generalize os2[i + k]'hol = old at hok
   have hold := hI.dg.get hok
   have hxy : x * y ≤ 999999999 * 999999999 := Nat.mul_le_mul (by omega) (by omega)
   refine vn (yX cG (by omega) (by simpa using hgk)) rfl ?_
   dsimp only [aA, aB]
   refine vn zG rfl ?_
   dsimp only [aA, aB]
   refine vn (fU ⟨_, eU⟩ fJ (c := (x : Int)) (by rw [oV] <;> omega)) rfl ?_
   dsimp only [aA, aB]
   refine vn (fU ⟨_, eU⟩ fJ (c := (y : Int)) (by rw [oV] <;> omega)) rfl ?_
   dsimp only [aA, aB]
   refine vn (oT (c := ((x * y : Nat) : Int)) (by rw [← Int.natCast_mul, oV] <;> omega)) rfl ?_
   dsimp only [aA, aB]
   refine vn (cM (c := ((i + k : Nat) : Int)) (by rw [jT] <;> omega)) rfl ?_
   dsimp only [aA, aB]
   refine lW (ts := rT os2) rfl rfl (by omega) (by rw [bI]; omega) ?_
   refine XU (ts := rT os2) (cells := [aF.int .u32 (old : Int)]) (t := .one (.int .u32 (old : Int))) rfl rfl (by omega) (mH (by rw [Int.toNat_natCast]; exact hok)) (.inr rfl) rfl ?_
   dsimp only [aA, aB]
   refine vn (fU ⟨_, eU⟩ fJ (c := (old : Int)) (by rw [oV] <;> omega)) rfl ?_
   dsimp only [aA, aB]
   refine vn (cM (c := ((x * y + old : Nat) : Int)) (by rw [oV] <;> omega)) rfl ?_
   dsimp only [aA, aB]
   refine vn (cM (c := ((c + (x * y + old) : Nat) : Int)) (by rw [oV] <;> omega)) rfl ?_
   dsimp only [aA, aB]
   generalize hs2 : c + (x * y + old) = w
   have hw : w < 1000000000 * 1000000000 := by omega
   refine vn (cM (c := ((i + k : Nat) : Int)) (by rw [jT] <;> omega)) rfl ?_
   dsimp only [aA, aB]
   refine vn (xV (c := ((w % 1000000000 : Nat) : Int)) (by decide) (by rw [Int.tmod_eq_emod_of_nonneg (by omega)]; omega)) rfl ?_
   dsimp only [aA, aB]
   refine vn (fU ⟨_, fJ⟩ eU (c := ((w % 1000000000 : Nat) : Int)) (by rw [tL] <;> omega)) rfl ?_
   dsimp only [aA, aB]
   refine vn (nG (c := ((w / 1000000000 : Nat) : Int)) (by decide) (by rw [Int.tdiv_eq_ediv_of_nonneg (by omega), oV] <;> omega)) rfl ?_
   dsimp only [aA, aB]
   refine lW (ts := rT os2) rfl rfl (by omega) (by rw [bI]; omega) ?_
   refine BW (ts := rT os2) (us := rT (os2.set (i + k) (w % 1000000000))) rfl rfl (by omega) (mH (by rw [Int.toNat_natCast]; exact hok)) gU ?_
   dsimp only [aA, aB]
   refine vn (cM (c := ((k + 1 : Nat) : Int)) (by rw [jT] <;> omega)) rfl ?_
   dsimp only [aA, aB]
   have hN : PH (dg a) (dg b) i x (lv ((dg a).take i) * lv (dg b)) (k + 1) (w / 1000000000) (os2.set (i + k) (w % 1000000000)) := hI.next hlt hlk hx hgk hok (by omega) (by omega) (by omega)
   exact aO rfl ⟨⟨(k + 1, w / 1000000000, os2.set (i + k) (w % 1000000000)), hN⟩, aL.rfl, by show (dg b).length - (k + 1) < (dg b).length - k; omega⟩
  ·have hke : k = (dg b).length := by have := hI.le; omega
   subst hke
   have hol : i + (dg b).length < os2.length := by rw [hI.len]; omega
   have hok : os2[i + (dg b).length]? = some (os2[i + (dg b).length]'hol) := List.getElem?_eq_getElem hol
   refine vn (aK cG bI) rfl ?_
   dsimp only [aA, aB]
   refine vn (cM (c := ((i + (dg b).length : Nat) : Int)) (by rw [jT] <;> omega)) rfl ?_
   dsimp only [aA, aB]
   refine vn (fU ⟨_, fJ⟩ eU (c := (c : Int)) (by rw [tL] <;> omega)) rfl ?_
   dsimp only [aA, aB]
   refine lW (ts := rT os2) rfl rfl (by omega) (by rw [bI]; omega) ?_
   refine BW (ts := rT os2) (us := rT (os2.set (i + (dg b).length) c)) rfl rfl (by omega) (mH (by rw [Int.toNat_natCast]; exact hok)) gU ?_
   dsimp only [aA, aB]
   refine vn (cM (c := ((i + 1 : Nat) : Int)) (by rw [jT] <;> omega)) rfl ?_
   dsimp only [aA, aB]
   exact aO rfl ⟨⟨(i + 1, os2.set (i + (dg b).length) c), hI.out hget⟩, aL.rfl, by show (dg a).length - (i + 1) < (dg a).length - i; omega⟩
 ·have hie : i = (dg a).length := by have := hO.le; omega
  subst hie
  refine aC (gD os hO.dg (by rw [hO.len]; omega)) rfl ?_
  dsimp only [aA, aB]
  refine aJ ?_
  have hf := hO.fin
  rw [fA, fA] at hf
  rw [hf]
  rfl
end Go.Sy
namespace Go.Sy
open Go Go.Proofs Tryz Ord
def UA : Tr := .ret [(W 1 0)]
def Yz : Tr := .need (.prim [(W 0 0), (W 0 0)] none) (.binOp .neq 3 (.tmp 3) (.tmp 4) 3) 4 false UA
theorem Fc : aM prog f253 (fun _ => none) [.v none] = Yz := by kernel_rfl
def YF : Tr := .need (.prim [(W 0 0), (W 0 0)] none) (.binOp .neq 255 (.tmp 3) (.tmp 4) 255) 4 false UA
theorem Es : aM prog f254 (fun _ => none) [.v none] = YF := by kernel_rfl
def UG : Tr := .split (.u 3 0) NT Od
def PA : Tr := .split (.u 5 0) Nc NT
def Yt : Tr := .need (.call 253 [(W 0 0)] [none]) (.call ⟨.value (.func 253), #[(.tmp 7)], #[3]⟩) 4 true (.need (.call 253 [(W 1 0)] [none]) (.call ⟨.value (.func 253), #[(.tmp 9)], #[3]⟩) 4 true (.split (.u 2 0) UG (.split (.u 3 0) Nc (.need (.prim [(W 0 0), (W 1 0)] none) (.binOp .lss 3 (.tmp 14) (.tmp 15) 3) 4 false (.split (.u 4 0) Od (.need (.prim [(W 0 0), (W 1 0)] none) (.binOp .gtr 3 (.tmp 17) (.tmp 18) 3) 4 false PA))))))
theorem Jq : aM prog f198 (fun _ => none) [.v none, .v none] = Yt := by kernel_rfl
def XN : Tr := .need (.call 254 [(W 0 0)] [none]) (.call ⟨.value (.func 254), #[(.tmp 7)], #[255]⟩) 4 true (.need (.call 254 [(W 1 0)] [none]) (.call ⟨.value (.func 254), #[(.tmp 9)], #[255]⟩) 4 true (.split (.u 2 0) UG (.split (.u 3 0) Nc (.need (.prim [(W 0 0), (W 1 0)] none) (.binOp .lss 255 (.tmp 14) (.tmp 15) 255) 4 false (.split (.u 4 0) Od (.need (.prim [(W 0 0), (W 1 0)] none) (.binOp .gtr 255 (.tmp 17) (.tmp 18) 255) 4 false PA))))))
theorem Lx : aM prog f199 (fun _ => none) [.v none, .v none] = XN := by kernel_rfl
def RL : Tr := .need (.prim [(W 1 0), (W 9 0)] none) (.indexAddr 33 (.tmp 32) (.tmp 33)) 0 false (.need (.prim [(W 13 0)] none) (.load 255 (.tmp 34)) 255 false (.need (.call 199 [(W 12 0), (W 14 0)] [none]) (.call ⟨.value (.func 199), #[(.tmp 30), (.tmp 35)], #[255, 255]⟩) 3 true (.need (.prim [(W 15 0), (WK (0))] none) (.binOp .neq 3 (.tmp 37) (.const (I3 (0))) 3) 4 false (.split (.u 16 0) (.ret [(W 15 0)]) (.need (.prim [(W 9 0), (WK (1))] none) (.binOp .sub 3 (.tmp 24) (.const (I3 (1))) 3) 3 false (.back 0 [(.w (W 8 0)), (.w (W 17 0))]))))))
def WU : Tr := .need (.prim [(W 0 0)] none) (.call ⟨.builtin .len, #[(.tmp 19)], #[33]⟩) 3 false (.need (.prim [(W 6 0), (WK (1))] none) (.binOp .sub 3 (.tmp 20) (.const (I3 (1))) 3) 3 false (.loop 0 [(.w (WK (0))), (.w (W 7 0))] (.need (.prim [(W 9 0), (WK (0))] none) (.binOp .geq 3 (.tmp 22) (.const (I3 (0))) 3) 4 false (.split (.u 10 0) (.need (.prim [(W 0 0), (W 9 0)] none) (.indexAddr 33 (.tmp 27) (.tmp 28)) 0 false (.need (.prim [(W 11 0)] none) (.load 255 (.tmp 29)) 255 false RL)) NT))))
def Wm : Tr := .need (.prim [(W 0 0)] none) (.call ⟨.builtin .len, #[(.tmp 9)], #[33]⟩) 3 false (.need (.prim [(W 1 0)] none) (.call ⟨.builtin .len, #[(.tmp 12)], #[33]⟩) 3 false (.need (.call 198 [(W 2 0), (W 3 0)] [none]) (.call ⟨.value (.func 198), #[(.tmp 10), (.tmp 13)], #[3, 3]⟩) 3 true (.need (.prim [(W 4 0), (WK (0))] none) (.binOp .neq 3 (.tmp 15) (.const (I3 (0))) 3) 4 false (.split (.u 5 0) (.ret [(W 4 0)]) WU))))
theorem HO : aM prog f119 (fun _ => none) [.v (some 1), .v (some 1)] = Wm := by kernel_rfl
def Sq : Tr := .need (.prim [(W 16 0)] none) (.convert 254 255 (.tmp 35)) 255 false (.need (.prim [(W 1 0)] none) (.convert 255 254 (.tmp 38)) 254 false (.need (.prim [(W 14 0), (W 18 0)] none) (.binOp .rem 254 (.tmp 37) (.tmp 39) 254) 254 false (.need (.idx 8 (.u 7 0)) (.indexAddr 33 (.tmp 30) (.tmp 31)) 0 false (.need (.strow 8 1 (.u 7 0) 0 [(.u 17 0)]) (.store 255 (.tmp 41) (.tmp 36)) 0 false (.need (.prim [(W 7 0), (WK (1))] none) (.binOp .sub 3 (.tmp 19) (.const (I3 (1))) 3) 3 false (.back 0 [(.w (W 19 0)), (.w (W 21 0)), (.row 20)]))))))
def Vx : Tr := .need (.prim [(W 6 0), (.one (.c (.k (.int .u64 (1000000000)))))] none) (.binOp .mul 254 (.tmp 21) (.const (.int .u64 (1000000000))) 254) 254 false (.need (.prim [(W 0 0), (W 7 0)] none) (.indexAddr 33 (.tmp 24) (.tmp 25)) 0 false (.need (.prim [(W 11 0)] none) (.load 255 (.tmp 26)) 255 false (.need (.prim [(W 12 0)] none) (.convert 255 254 (.tmp 27)) 254 false (.need (.prim [(W 10 0), (W 13 0)] none) (.binOp .add 254 (.tmp 22) (.tmp 28) 254) 254 false (.need (.prim [(W 1 0)] none) (.convert 255 254 (.tmp 33)) 254 false (.need (.prim [(W 14 0), (W 15 0)] none) (.binOp .quo 254 (.tmp 32) (.tmp 34) 254) 254 false Sq))))))
def VN : Tr := .need (.prim [(W 4 0), (WK (1))] none) (.binOp .sub 3 (.tmp 15) (.const (I3 (1))) 3) 3 false (.loop 0 [(.w (.one (.c (.k (.int .u64 (0)))))), (.w (W 5 0)), (.row 3)] (.need (.prim [(W 7 0), (WK (0))] none) (.binOp .geq 3 (.tmp 17) (.const (I3 (0))) 3) 4 false (.split (.u 9 0) Vx (.need (.call 197 [(.one (.c (.sr 1 8)))] [(some 1)]) (.call ⟨.value (.func 197), #[(.tmp 42)], #[33]⟩) 35 false (.need (.call 195 [(W 6 0)] [(some 1)]) (.call ⟨.value (.func 195), #[(.tmp 44)], #[254]⟩) 35 true (.ret [(.agg [(U 10 0)]), (.agg [(U 11 0)])]))))))
def Vt : Tr := .need (.prim [(W 0 0)] none) (.call ⟨.builtin .len, #[(.tmp 10)], #[33]⟩) 3 false (.need (.make [(.int .u32 (0))] 4 (.u 2 0) (.u 2 0)) (.makeSlice 33 (.tmp 11) (.tmp 11)) 33 false (.need (.prim [(W 0 0)] none) (.call ⟨.builtin .len, #[(.tmp 14)], #[33]⟩) 3 false VN))
theorem Kb : aM prog f250 (fun _ => none) [.v (some 1), .v none] = Vt := by kernel_rfl
def UI : Tr := .need (.prim [(W 0 0)] none) (.call ⟨.builtin .len, #[(.tmp 4)], #[33]⟩) 3 false (.need (.prim [(W 1 0), (WK (1))] none) (.binOp .eql 3 (.tmp 5) (.const (I3 (1))) 3) 4 false (.split (.u 2 0) (.need (.prim [(W 0 0), (WK (0))] none) (.indexAddr 33 (.tmp 9) (.const (I3 (0)))) 0 false (.need (.prim [(W 3 0)] none) (.load 255 (.tmp 10)) 255 false (.need (.prim [(W 4 0), (.one (.c (.k (.int .u32 (1)))))] none) (.binOp .eql 255 (.tmp 11) (.const (.int .u32 (1))) 255) 4 false (.ret [(W 5 0)])))) (.ret [(.one (.c (.k (.bool false))))])))
theorem Rf : aM prog f192 (fun _ => none) [.v (some 1)] = UI := by kernel_rfl
def dR (x y : Int) : Int := if x < y then -1 else if y < x then 1 else 0
theorem yB (x : Int) : aN prog 253 [.one (.int .i64 x)] (.ret [.one (.bool false)]) := by
 refine aD (args := [.v none]) (ins := [.v (.one (.int .i64 x))]) (hints := fun _ => none) fo (by kernel_rfl) func253 ⟨rfl, trivial⟩ ?_
 rw [Fc]
 refine vn DG rfl ?_
 refine aJ ?_
 show [aH.one (.bool (!decide (x = x)))] = _
 simp
theorem JI (x y : Int) : aN prog 198 [.one (.int .i64 x), .one (.int .i64 y)] (.ret [.one (.int .i64 (dR x y))]) := by
 refine aD (args := [.v none, .v none]) (ins := [.v (.one (.int .i64 x)), .v (.one (.int .i64 y))]) (hints := fun _ => none) fo (by kernel_rfl) func198 ⟨rfl, rfl, trivial⟩ ?_
 rw [Jq]
 refine aC (yB x) rfl ?_
 refine aC (yB y) rfl ?_
 refine uB false rfl (fun h => by cases h) (fun _ => ?_)
 refine uB false rfl (fun h => by cases h) (fun _ => ?_)
 refine vn qF rfl ?_
 refine vs _ rfl (fun h => ?_) (fun h => ?_)
 ·refine aJ ?_
  rw [dR, if_pos h]; rfl
 ·refine vn Cb rfl ?_
  refine vs _ rfl (fun h2 => ?_) (fun h2 => ?_)
  ·refine aJ ?_
   rw [dR, if_neg h, if_pos h2]; rfl
  ·refine aJ ?_
   rw [dR, if_neg h, if_neg h2]; rfl
theorem wG (x : Int) : aN prog 254 [.one (.int .u32 x)] (.ret [.one (.bool false)]) := by
 refine aD (args := [.v none]) (ins := [.v (.one (.int .u32 x))]) (hints := fun _ => none) fo (by kernel_rfl) func254 ⟨rfl, trivial⟩ ?_
 rw [Es]
 refine vn DG rfl ?_
 refine aJ ?_
 show [aH.one (.bool (!decide (x = x)))] = _
 simp
theorem Ks (x y : Int) : aN prog 199 [.one (.int .u32 x), .one (.int .u32 y)] (.ret [.one (.int .i64 (dR x y))]) := by
 refine aD (args := [.v none, .v none]) (ins := [.v (.one (.int .u32 x)), .v (.one (.int .u32 y))]) (hints := fun _ => none) fo (by kernel_rfl) func199 ⟨rfl, rfl, trivial⟩ ?_
 rw [Lx]
 refine aC (wG x) rfl ?_
 refine aC (wG y) rfl ?_
 refine uB false rfl (fun h => by cases h) (fun _ => ?_)
 refine uB false rfl (fun h => by cases h) (fun _ => ?_)
 refine vn qF rfl ?_
 refine vs _ rfl (fun h => ?_) (fun h => ?_)
 ·refine aJ ?_
  rw [dR, if_pos h]; rfl
 ·refine vn Cb rfl ?_
  refine vs _ rfl (fun h2 => ?_) (fun h2 => ?_)
  ·refine aJ ?_
   rw [dR, if_neg h, if_pos h2]; rfl
  ·refine aJ ?_
   rw [dR, if_neg h, if_neg h2]; rfl
theorem OH (z : Int) : aN prog 114 [iT z] (.ret [.one (.int .i64 z.sign)]) := by
 refine aD (args := [.v (some 2)]) (ins := [.v (iT z)]) (hints := fun _ => none) fo (by kernel_rfl) func114 ⟨rfl, trivial⟩ ?_
 rw [OE]
 refine aC (yG z.natAbs) rfl ?_
 refine vs _ rfl (fun h => ?_) (fun h => ?_)
 ·refine aJ ?_
  have : z.sign = 0 := by rw [Int.sign_eq_zero_iff_zero]; omega
  rw [this]; rfl
 ·refine vs _ rfl (fun h2 => ?_) (fun h2 => ?_)
  ·refine aJ ?_
   rw [Int.sign_eq_neg_one_of_neg h2]; rfl
  ·refine aJ ?_
   rw [Int.sign_eq_one_of_pos (by omega)]; rfl
theorem sU {xs ys : List Nat} (hx : Dg xs) (hlen : xs.length = ys.length) {i x y : Nat} (hi : xs[i]? = some x) (hj : ys[i]? = some y) (hd : xs.drop (i + 1) = ys.drop (i + 1)) (hxy : x < y) : lv xs < lv ys := by
 have hil : i < xs.length := (List.getElem?_eq_some_iff.1 hi).1
 have e1 : lv xs = lv (xs.take (i + 1)) + 1000000000 ^ (i + 1) * lv (xs.drop (i + 1)) := by
  conv => lhs; rw [← List.take_append_drop (i + 1) xs]
  rw [pN, List.length_take, Nat.min_eq_left (by omega)]
 have e2 : lv ys = lv (ys.take (i + 1)) + 1000000000 ^ (i + 1) * lv (ys.drop (i + 1)) := by
  conv => lhs; rw [← List.take_append_drop (i + 1) ys]
  rw [pN, List.length_take, Nat.min_eq_left (by omega)]
 rw [e1, e2, hd, dN hi, dN hj]
 have h1 : lv (xs.take i) < 1000000000 ^ i := by
  have := Ey (B := 1000000000) (by omega) (xs.take i) (hx.take i)
  rw [List.length_take, Nat.min_eq_left (by omega)] at this
  exact this
 have h2 : 1000000000 ^ i * (x + 1) ≤ 1000000000 ^ i * y := Nat.mul_le_mul_left _ hxy
 rw [Nat.mul_add, Nat.mul_one] at h2
 omega
theorem rU {a b : Nat} (h : (dg a).length < (dg b).length) : a < b := by
 have hb : b ≠ 0 := by rintro rfl; rw [show dg 0 = [] from bZ _] at h; simp at h
 have h1 := iE (B := 1000000000) (by omega) a
 have h2 := eO (B := 1000000000) (by omega) hb
 have h3 : 1000000000 ^ (dg a).length ≤ 1000000000 ^ ((dg b).length - 1) := Nat.pow_le_pow_right (by omega) (by omega)
 exact Nat.lt_of_lt_of_le h1 (Nat.le_trans h3 h2)
theorem pR {a b : Int} (h : a < b) : dR a b = -1 := if_pos h
theorem pS {a b : Int} (h : b < a) : dR a b = 1 := by rw [dR, if_neg (by omega), if_pos h]
theorem vH (a : Int) : dR a a = 0 := by rw [dR, if_neg (by omega), if_neg (by omega)]
theorem Au {a b : Int} : dR a b = 0 ↔ a = b := by
 unfold dR; constructor
 ·intro h; split at h
  ·cases h
  ·split at h
   ·cases h
   ·omega
 ·rintro rfl; simp
theorem pW (a b : Nat) (hs : (dg a).length + (dg b).length < 1099511627776) : aN prog 119 [mT a, mT b] (.ret [.one (.int .i64 (dR a b))]) := by
 refine aD (args := [.v (some 1), .v (some 1)]) (ins := [.v (mT a), .v (mT b)]) (hints := fun _ => none) fo (by kernel_rfl) func119 ⟨rfl, rfl, trivial⟩ ?_
 rw [HO]
 dsimp only [List.map, In.env]
 refine vn (aK cG bI) rfl ?_
 dsimp only [aA, aB]
 refine vn (aK cG bI) rfl ?_
 dsimp only [aA, aB]
 refine aC (JI _ _) rfl ?_
 dsimp only [aA, aB]
 refine vn DG rfl ?_
 dsimp only [aA, aB]
 refine uB (!decide (dR ((dg a).length : Int) ((dg b).length : Int) = 0)) rfl (fun h => ?_) (fun h => ?_)
 ·refine aJ ?_
  have hne : ¬ dR ((dg a).length : Int) ((dg b).length : Int) = 0 := by simpa using h
  have : dR ((dg a).length : Int) ((dg b).length : Int) = dR a b := by
   rcases Nat.lt_trichotomy (dg a).length (dg b).length with hl | hl | hl
   ·rw [pR (by omega), pR (by have := rU hl; omega)]
   ·rw [hl] at hne; exact absurd (vH _) hne
   ·rw [pS (by omega), pS (by have := rU hl; omega)]
  rw [← this]; rfl
 ·have he : (dg a).length = (dg b).length := by
   have : dR ((dg a).length : Int) ((dg b).length : Int) = 0 := by simpa using h
   have := Au.1 this
   omega
  refine vn (aK cG bI) rfl ?_
  dsimp only [aA, aB]
  refine vn (jN (c := ((dg a).length : Int) - 1) (by rw [jT] <;> omega)) rfl ?_
  dsimp only [aA, aB]
  refine aY {n : Nat // n ≤ (dg a).length ∧ (dg a).drop n = (dg b).drop n} (fun g => [.one (.int .i64 0), .one (.int .i64 ((g.1 : Int) - 1))]) (fun g => g.1) ⟨(dg a).length, Nat.le_refl _, by rw [List.drop_length, he, List.drop_length]⟩ aL.rfl (fun _ => rfl) ?_
  rintro ⟨n, hn, hdr⟩
  dsimp only [aA, aB]
  refine vn xQ rfl ?_
  dsimp only [aA, aB]
  refine vs _ rfl (fun h1 => ?_) (fun h1 => ?_)
  ·have hla : n - 1 < (dg a).length := by omega
   have hlb : n - 1 < (dg b).length := by omega
   have hga : (dg a)[n - 1]? = some ((dg a)[n - 1]'hla) := List.getElem?_eq_getElem hla
   have hgb : (dg b)[n - 1]? = some ((dg b)[n - 1]'hlb) := List.getElem?_eq_getElem hlb
   generalize hxe : (dg a)[n - 1]'hla = x at hga
   generalize hye : (dg b)[n - 1]'hlb = y at hgb
   have htn : ((n : Int) - 1).toNat = n - 1 := by omega
   have hdr' : (dg a).drop (n - 1 + 1) = (dg b).drop (n - 1 + 1) := by rw [show n - 1 + 1 = n by omega]; exact hdr
   refine vn (yX cG (by omega) (by rw [htn]; exact hga)) rfl ?_
   dsimp only [aA, aB]
   refine vn zG rfl ?_
   dsimp only [aA, aB]
   refine vn (yX cG (by omega) (by rw [htn]; exact hgb)) rfl ?_
   dsimp only [aA, aB]
   refine vn zG rfl ?_
   dsimp only [aA, aB]
   refine aC (Ks _ _) rfl ?_
   dsimp only [aA, aB]
   refine vn DG rfl ?_
   dsimp only [aA, aB]
   refine uB (!decide (dR (x : Int) (y : Int) = 0)) rfl (fun h2 => ?_) (fun h2 => ?_)
   ·refine aJ ?_
    have hne : ¬ dR (x : Int) (y : Int) = 0 := by simpa using h2
    have : dR (x : Int) (y : Int) = dR a b := by
     rcases Nat.lt_trichotomy x y with hl | hl | hl
     ·have := sU (iD a) he hga hgb hdr' hl
      rw [fA, fA] at this
      rw [pR (by omega), pR (by omega)]
     ·subst hl; exact absurd (vH _) hne
     ·have := sU (iD b) he.symm hgb hga hdr'.symm hl
      rw [fA, fA] at this
      rw [pS (by omega), pS (by omega)]
    rw [← this]; rfl
   ·have hxy : x = y := by
     have : dR (x : Int) (y : Int) = 0 := by simpa using h2
     have := Au.1 this
     omega
    refine vn (jN (c := ((n - 1 : Nat) : Int) - 1) (by rw [jT] <;> omega)) rfl ?_
    dsimp only [aA, aB]
    refine aO rfl ⟨⟨n - 1, by omega, ?_⟩, aL.rfl, by show n - 1 < n; omega⟩
    rw [List.drop_eq_getElem_cons hla, List.drop_eq_getElem_cons hlb, hxe, hye, hxy, hdr']
  ·have hn0 : n = 0 := by omega
   subst hn0
   refine aJ ?_
   rw [List.drop_zero, List.drop_zero] at hdr
   have : a = b := by have := congrArg lv hdr; rwa [fA, fA] at this
   subst this
   exact congrArg (fun x => [aH.one (aF.int .i64 x)]) (vH (a : Int)).symm
end Go.Sy
namespace Go.Sy
open Go Go.Proofs Tryz Ord
theorem Bq {xs : List Nat} {i x : Nat} (h : xs[i]? = some x) : lv (xs.drop i) = x + 1000000000 * lv (xs.drop (i + 1)) := by
 have hi : i < xs.length := (List.getElem?_eq_some_iff.1 h).1
 rw [List.drop_eq_getElem_cons hi, (List.getElem?_eq_some_iff.1 h).2]; rfl
structure BU (xs : List Nat) (d n r : Nat) (os : List Nat) : Prop where
 le : n ≤ xs.length
 len : os.length = xs.length
 dg : Dg os
 r1 : r < d
 eq : lv (os.drop n) * d + r = lv (xs.drop n)
theorem BU.init (xs : List Nat) {d : Nat} (hd : 0 < d) : BU xs d xs.length 0 (List.replicate xs.length 0) := ⟨Nat.le_refl _, by simp, Dg.rep _, hd, by simp [lv, val]⟩
theorem BU.next {xs os : List Nat} {d n r x : Nat} (h : BU xs d (n + 1) r os) (hd : d < 1000000000) (hx : xs[n]? = some x) (hx1 : x < 1000000000) : BU xs d n ((r * 1000000000 + x) % d) (os.set n ((r * 1000000000 + x) / d)) := by
 have hd0 : 0 < d := by have := h.r1; omega
 have hq : (r * 1000000000 + x) / d < 1000000000 := by
  rw [Nat.div_lt_iff_lt_mul hd0]
  have h1 := h.r1
  have : (r + 1) * 1000000000 ≤ d * 1000000000 := Nat.mul_le_mul_right _ h1
  rw [Nat.add_mul] at this
  rw [Nat.mul_comm 1000000000 d]
  omega
 have hl := h.le
 have hlen := h.len
 refine ⟨by omega, by rw [List.length_set]; exact hlen, h.dg.set hq, Nat.mod_lt _ hd0, ?_⟩
 have hs : (os.set n ((r * 1000000000 + x) / d))[n]? = some ((r * 1000000000 + x) / d) := by
  rw [List.getElem?_set_self (by omega)]
 rw [Bq hs, Bq hx, List.drop_set_of_lt (by omega), ← h.eq]
 have h1 := Nat.div_add_mod (r * 1000000000 + x) d
 rw [Nat.mul_comm d] at h1
 simp only [Nat.add_mul, Nat.mul_add, Nat.mul_assoc]
 omega
theorem BU.fin {xs os : List Nat} {d r : Nat} (h : BU xs d 0 r os) : lv os = lv xs / d ∧ r = lv xs % d := by
 have h1 := h.eq
 rw [List.drop_zero, List.drop_zero] at h1
 have h2 := h.r1
 have e : lv xs = r + d * lv os := by rw [← h1, Nat.mul_comm]; omega
 constructor
 ·rw [e, Nat.add_mul_div_left _ _ (by omega), Nat.div_eq_of_lt h2, Nat.zero_add]
 ·rw [e, Nat.add_mul_mod_self_left, Nat.mod_eq_of_lt h2]
theorem Cv (a d : Nat) (hd0 : 0 < d) (hd : d < 1000000000) (hs : (dg a).length < 1099511627776) : aN prog 250 [mT a, .one (.int .u32 d)] (.ret [mT (a / d), mT (a % d)]) := by
 refine aD (args := [.v (some 1), .v none]) (ins := [.v (mT a), .v (.one (.int .u32 d))]) (hints := fun _ => none) fo (by kernel_rfl) func250 ⟨rfl, rfl, trivial⟩ ?_
 rw [Kb]
 dsimp only [List.map, In.env]
 refine vn (aK cG bI) rfl ?_
 dsimp only [aA, aB]
 refine qH (n := (dg a).length) (m := (dg a).length) rfl rfl AN (Nat.le_refl _) (by omega) (by simp [maxLen]; omega) ?_
 dsimp only [aA, aB]
 refine vn (aK cG bI) rfl ?_
 dsimp only [aA, aB]
 refine vn (jN (c := ((dg a).length : Int) - 1) (by rw [jT] <;> omega)) rfl ?_
 dsimp only [aA, aB]
 refine aY {g : Nat × Nat × List Nat // BU (dg a) d g.1 g.2.1 g.2.2} (fun g => [.one (.int .u64 g.1.2.1), .one (.int .i64 ((g.1.1 : Int) - 1)), .rows (rT g.1.2.2)]) (fun g => g.1.1) ⟨((dg a).length, 0, List.replicate (dg a).length 0), BU.init _ hd0⟩ aL.rfl (fun _ => rfl) ?_
 rintro ⟨⟨n, r, os⟩, hI⟩
 dsimp only [aA, aB] at hI ⊢
 have hr1 := hI.r1
 have hln := hI.le
 refine vn xQ rfl ?_
 dsimp only [aA, aB]
 refine vs _ rfl (fun h1 => ?_) (fun h1 => ?_)
 ·obtain ⟨m, rfl⟩ : ∃ m, n = m + 1 := ⟨n - 1, by omega⟩
  have hlt : m < (dg a).length := by omega
  have hget : (dg a)[m]? = some ((dg a)[m]'hlt) := List.getElem?_eq_getElem hlt
  generalize (dg a)[m]'hlt = x at hget
  have hx := (iD a).get hget
  have hol : m < os.length := by rw [hI.len]; omega
  have hok : os[m]? = some (os[m]'hol) := List.getElem?_eq_getElem hol
  have htn : (((m + 1 : Nat) : Int) - 1).toNat = m := by omega
  refine vn (oT (c := ((r * 1000000000 : Nat) : Int)) (by rw [oV] <;> omega)) rfl ?_
  dsimp only [aA, aB]
  refine vn (yX cG (by omega) (by rw [htn]; exact hget)) rfl ?_
  dsimp only [aA, aB]
  refine vn zG rfl ?_
  dsimp only [aA, aB]
  refine vn (fU ⟨_, eU⟩ fJ (c := (x : Int)) (by rw [oV] <;> omega)) rfl ?_
  dsimp only [aA, aB]
  refine vn (cM (c := ((r * 1000000000 + x : Nat) : Int)) (by rw [oV] <;> omega)) rfl ?_
  dsimp only [aA, aB]
  have hN := hI.next hd hget hx
  have hqd := hN.dg.get (i := m) (d := (r * 1000000000 + x) / d) (List.getElem?_set_self (by omega))
  have hrd := hN.r1
  generalize hw : r * 1000000000 + x = w at hN hqd hrd ⊢
  generalize hq : w / d = q at hN hqd
  generalize hm : w % d = rr at hN hrd
  refine vn (fU ⟨_, eU⟩ fJ (c := (d : Int)) (by rw [oV] <;> omega)) rfl ?_
  dsimp only [aA, aB]
  refine vn (nG (c := (q : Int)) (by omega) (by rw [Int.tdiv_eq_ediv_of_nonneg (by omega), ← Int.natCast_ediv, hq, oV] <;> omega)) rfl ?_
  dsimp only [aA, aB]
  refine vn (fU ⟨_, fJ⟩ eU (c := (q : Int)) (by rw [tL] <;> omega)) rfl ?_
  dsimp only [aA, aB]
  refine vn (fU ⟨_, eU⟩ fJ (c := (d : Int)) (by rw [oV] <;> omega)) rfl ?_
  dsimp only [aA, aB]
  refine vn (xV (c := (rr : Int)) (by omega) (by rw [Int.tmod_eq_emod_of_nonneg (by omega), ← Int.natCast_emod, hm])) rfl ?_
  dsimp only [aA, aB]
  refine lW (ts := rT os) rfl rfl (by omega) (by rw [bI]; omega) ?_
  refine BW (ts := rT os) (us := rT (os.set m q)) rfl rfl (by omega) (mH (by rw [htn]; exact hok)) (by rw [htn]; exact gU) ?_
  dsimp only [aA, aB]
  refine vn (jN (c := (m : Int) - 1) (by rw [jT] <;> omega)) rfl ?_
  dsimp only [aA, aB]
  exact aO rfl ⟨⟨(m, rr, os.set m q), hN⟩, aL.rfl, by show m < m + 1; omega⟩
 ·have hn0 : n = 0 := by omega
  subst hn0
  obtain ⟨hf1, hf2⟩ := hI.fin
  rw [fA] at hf1 hf2
  refine aC (gD os hI.dg (by rw [hI.len]; omega)) rfl ?_
  dsimp only [aA, aB]
  refine aC (iA r (by omega)) rfl ?_
  dsimp only [aA, aB]
  refine aJ ?_
  rw [hf1, ← hf2]
  rfl
end Go.Sy
