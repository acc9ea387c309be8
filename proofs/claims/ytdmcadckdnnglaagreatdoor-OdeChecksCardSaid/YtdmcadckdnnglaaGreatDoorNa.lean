/- Numbers: their types, and the first facts. Zeros at the end are taken away. The sum of magnitudes. Small magnitudes, zero, signs. The product of magnitudes. Comparing; division by one digit. Division by one digit.
-/
import Derived.Test.YtdmcadckdnnglaaGreatDoorFa
import Derived.Test.YtdmcadckdnnglaaGreatDoorPa
import Derived.Laws.BitsLemmas
import Derived.Laws.Bits64
set_option linter.unusedVariables false
set_option linter.unusedSimpArgs false
namespace Go.Sy
open Go Go.Proofs Tryz Ord

abbrev rT (ds : List Nat) : List (List CTy) := ds.map fun (d : Nat) => [CTy.int .u32 (d : Int)]
abbrev dg (n : Nat) : List Nat := digs 1000000000 n
abbrev lv (ds : List Nat) : Nat := val 1000000000 ds
/-- a magnitude's cell; a magnitude -/
abbrev dT (n : Nat) : CTy := .slice 1 (rT (dg n))
abbrev mT (n : Nat) : STy := .agg [dT n]
/-- all are digits -/
def Dg (ds : List Nat) : Prop := ∀ d ∈ ds, d < 1000000000

theorem wu32 {n : Int} (h0 : 0 ≤ n) (h : n < 4294967296) : IntKind.u32.wrap n = n := by rw [IntKind.wrap_u32]; omega
theorem wu64 {n : Int} (h0 : 0 ≤ n) (h : n < 18446744073709551616) : IntKind.u64.wrap n = n := by rw [IntKind.wrap_u64]; omega
theorem wi64 {n : Int} (h0 : -9223372036854775808 ≤ n) (h : n < 9223372036854775808) : IntKind.i64.wrap n = n := by rw [IntKind.wrap_i64]; omega

theorem rT_get {ds : List Nat} {i d : Nat} (h : ds[i]? = some d) : (rT ds)[i]? = some [CTy.int .u32 (d : Int)] := by
  rw [List.getElem?_map, h]; rfl
theorem rT_set {ds : List Nat} {i x : Nat} : (rT ds).set i [CTy.int .u32 (x : Int)] = rT (ds.set i x) := by
  rw [rT, rT, List.map_set]
theorem rT_len {ds : List Nat} : (rT ds).length = ds.length := List.length_map _

theorem dg_nil {n : Nat} : dg n = [] ↔ n = 0 := by
  constructor
  · intro h
    by_cases hn : n = 0
    · exact hn
    · rw [dg, digs_pos (by omega) hn] at h; cases h
  · rintro rfl; exact digs_zero _
theorem dg_dg (n : Nat) : Dg (dg n) := digs_lt (by omega) n
theorem lv_dg (n : Nat) : lv (dg n) = n := val_digs (by omega) n
theorem Dg.take {ds : List Nat} (h : Dg ds) (n : Nat) : Dg (ds.take n) := fun d hd => h d (List.mem_of_mem_take hd)
theorem Dg.set {ds : List Nat} (h : Dg ds) {i x : Nat} (hx : x < 1000000000) : Dg (ds.set i x) := fun d hd => by
  rcases List.mem_or_eq_of_mem_set hd with hd | rfl
  · exact h d hd
  · exact hx
theorem Dg.get {ds : List Nat} (h : Dg ds) {i d : Nat} (hd : ds[i]? = some d) : d < 1000000000 := h d (List.mem_of_getElem? hd)
theorem take_succ_of {ds : List Nat} {i d : Nat} (h : ds[i]? = some d) : ds.take (i + 1) = ds.take i ++ [d] := by
  rw [List.take_add_one, h]; rfl
theorem lv_append (xs ys : List Nat) : lv (xs ++ ys) = lv xs + 1000000000 ^ xs.length * lv ys := val_append _ _ _
theorem lv_one (d : Nat) : lv [d] = d := by simp [lv, val]
theorem lv_take_succ {ds : List Nat} {i d : Nat} (h : ds[i]? = some d) : lv (ds.take (i + 1)) = lv (ds.take i) + 1000000000 ^ i * d := by
  have hi : i < ds.length := (List.getElem?_eq_some_iff.1 h).1
  rw [take_succ_of h, lv_append, lv_one, List.length_take, Nat.min_eq_left (by omega)]
theorem lv_set_take {os : List Nat} {i x : Nat} (h : i < os.length) : lv ((os.set i x).take (i + 1)) = lv (os.take i) + 1000000000 ^ i * x := by
  rw [lv_take_succ (d := x) (by simp [h])]
  rw [List.take_set_of_le (Nat.le_refl i)]
theorem rT_rep {n : Nat} : List.replicate n ([Value.int .u32 0].map CTy.exact) = rT (List.replicate n 0) := by
  rw [rT, List.map_replicate]; rfl
theorem Dg.rep (n : Nat) : Dg (List.replicate n 0) := fun d hd => by
  obtain ⟨_, rfl⟩ := List.mem_replicate.1 hd
  decide
/-- how many digits -/
abbrev dl (n : Nat) : Nat := (dg n).length
theorem p_at {ds : List Nat} {T ty : TypeId} {x y : Operand} {k : IntKind} {n : Int} {d : Nat} (h : elemT prog T = some (255, 1, 4)) (h0 : 0 ≤ n) (hd : ds[n.toNat]? = some d) :
    PrimOk prog (.indexAddr T x y) ty [.one (.slice 1 (rT ds)), .one (.int k n)] (.one (.pref [CTy.int .u32 (d : Int)])) := p_idx h h0 (rT_get hd)
theorem p_ld {ty : TypeId} {x : Operand} {d : Int} : PrimOk prog (.load 255 x) ty [.one (.pref [CTy.int .u32 d])] (.one (.int .u32 d)) := p_load (n := 1) ag255 (by decide) (by simp) (.inr rfl)
end Go.Sy
namespace Go.Sy
open Go Go.Proofs Tryz Ord

def t0_10 : Tr := .back 0 [(.w (W 8 0))]
def t0_9 : Tr := .need (.prim [(W 2 0), (WK (1))] none) (.binOp .sub 3 (.tmp 16) (.const (I3 (1))) 3) 3 false t0_10
def t0_12 : Tr := .ret [(.agg [(U 8 0)])]
def t0_11 : Tr := .need (.prim [(W 0 0), (W 2 0), (W 2 0)] none) (.slice 33 (.tmp 18) none (some (.tmp 19)) (some (.tmp 20))) 33 false t0_12
def t0_8 : Tr := .split (.u 7 0) t0_9 t0_11
def t0_7 : Tr := .need (.prim [(W 6 0), (.one (.c (.k (.int .u32 (0)))))] none) (.binOp .eql 255 (.tmp 13) (.const (.int .u32 (0))) 255) 4 false t0_8
def t0_6 : Tr := .need (.prim [(W 5 0)] none) (.load 255 (.tmp 12)) 255 false t0_7
def t0_5 : Tr := .need (.prim [(W 0 0), (W 4 0)] none) (.indexAddr 33 (.tmp 9) (.tmp 11)) 0 false t0_6
def t0_4 : Tr := .need (.prim [(W 2 0), (WK (1))] none) (.binOp .sub 3 (.tmp 10) (.const (I3 (1))) 3) 3 false t0_5
def t0_14 : Tr := .ret [(.agg [(U 4 0)])]
def t0_13 : Tr := .need (.prim [(W 0 0), (W 2 0), (W 2 0)] none) (.slice 33 (.tmp 18) none (some (.tmp 19)) (some (.tmp 20))) 33 false t0_14
def t0_3 : Tr := .split (.u 3 0) t0_4 t0_13
def t0_2 : Tr := .need (.prim [(W 2 0), (WK (0))] none) (.binOp .gtr 3 (.tmp 6) (.const (I3 (0))) 3) 4 false t0_3
def t0_1 : Tr := .loop 0 [(.w (W 1 0))] t0_2
def t0_0 : Tr := .need (.prim [(W 0 0)] none) (.call ⟨.builtin .len, #[(.tmp 4)], #[33]⟩) 3 false t0_1
theorem x_trimmed : execF prog f197 (fun _ => none) [.v none] = t0_0 := by kernel_rfl

theorem d_trimmed (ds : List Nat) (hd : Dg ds) (hl : ds.length < 4611686018427387904) : Does prog 197 [.one (.slice 1 (rT ds))] (.ret [mT (lv ds)]) := by
  refine does_of_vc (args := [.v none]) (ins := [.v (.one (.slice 1 (rT ds)))]) (hints := fun _ => none) fo (by kernel_rfl) func197 ⟨rfl, trivial⟩ ?_
  rw [x_trimmed]
  refine vn (p_len el33 rT_len) rfl ?_
  refine vloop {n : Nat // n ≤ ds.length ∧ lv (ds.take n) = lv ds} (fun g => [.one (.int .i64 g.1)]) (fun g => g.1) ⟨ds.length, Nat.le_refl _, by rw [List.take_length]⟩ SubL.rfl (fun _ => rfl) ?_
  rintro ⟨n, hn, hv⟩
  dsimp only
  have fin : ∀ τ : Env, (n = 0 ∨ ∃ d, ds[n - 1]? = some d ∧ d ≠ 0) → (rT ds).take n = rT (dg (lv ds)) := by
    intro τ h
    rw [rT, rT, ← List.map_take]
    congr 1
    rw [← hv, dg, lv, digs_val (by omega) _ (hd.take n)]
    intro d hlast
    rcases h with rfl | ⟨d', hd', hne⟩
    · simp at hlast
    · rw [List.getLast?_eq_getElem?, List.length_take, Nat.min_eq_left hn, List.getElem?_take] at hlast
      split at hlast
      · rw [hd'] at hlast; simp at hlast; omega
      · cases hlast
  refine vn p_gtr rfl ?_
  refine vs _ rfl (fun h => ?_) (fun h => ?_)
  · have hlt : n - 1 < ds.length := by omega
    have hget : ds[n - 1]? = some (ds[n - 1]'hlt) := List.getElem?_eq_getElem hlt
    generalize ds[n - 1]'hlt = d at hget
    refine vn (p_sub (c := ((n - 1 : Nat) : Int)) (by rw [wi64] <;> omega)) rfl ?_
    refine vn (p_at el33 (by omega) (by simpa using hget)) rfl ?_
    refine vn p_ld rfl ?_
    refine vn p_eql rfl ?_
    refine vs _ rfl (fun h2 => ?_) (fun h2 => ?_)
    · refine vn (p_sub (c := ((n - 1 : Nat) : Int)) (by rw [wi64] <;> omega)) rfl ?_
      refine vback rfl ⟨⟨n - 1, by omega, ?_⟩, SubL.rfl, ?_⟩
      · have hd0 : d = 0 := by omega
        subst hd0
        have := lv_take_succ hget
        rw [Nat.mul_zero, show n - 1 + 1 = n by omega] at this
        exact (this.symm.trans hv)
      · show n - 1 < n
        omega
    · refine vn (p_slice_hm el33 (by omega) (by simpa using hn)) rfl ?_
      refine vret ?_
      exact congrArg (fun x => [STy.agg [CTy.slice 1 x]]) (fin [] (.inr ⟨d, hget, by omega⟩))
  · refine vn (p_slice_hm el33 (by omega) (by simpa using hn)) rfl ?_
    refine vret ?_
    exact congrArg (fun x => [STy.agg [CTy.slice 1 x]]) (fin [] (.inl (by omega)))
end Go.Sy
namespace Go.Sy
open Go Go.Proofs Tryz Ord

def t1_26 : Tr := .back 0 [(.w (.one (.c (.k (.int .u32 (1)))))), (.w (W 24 0)), (.row 23)]
def t1_25 : Tr := .need (.prim [(W 10 0), (WK (1))] none) (.binOp .add 3 (.tmp 26) (.const (I3 (1))) 3) 3 false t1_26
def t1_24 : Tr := .need (.strow 11 1 (.u 10 0) 0 [(.u 22 0)]) (.store 255 (.tmp 53) (.tmp 52)) 0 false t1_25
def t1_23 : Tr := .need (.idx 11 (.u 10 0)) (.indexAddr 33 (.tmp 50) (.tmp 51)) 0 false t1_24
def t1_22 : Tr := .need (.prim [(W 20 0), (.one (.c (.k (.int .u32 (1000000000)))))] none) (.binOp .sub 255 (.tmp 48) (.const (.int .u32 (1000000000))) 255) 255 false t1_23
def t1_30 : Tr := .back 0 [(.w (.one (.c (.k (.int .u32 (0)))))), (.w (W 23 0)), (.row 22)]
def t1_29 : Tr := .need (.prim [(W 10 0), (WK (1))] none) (.binOp .add 3 (.tmp 26) (.const (I3 (1))) 3) 3 false t1_30
def t1_28 : Tr := .need (.strow 11 1 (.u 10 0) 0 [(.u 20 0)]) (.store 255 (.tmp 53) (.tmp 52)) 0 false t1_29
def t1_27 : Tr := .need (.idx 11 (.u 10 0)) (.indexAddr 33 (.tmp 50) (.tmp 51)) 0 false t1_28
def t1_21 : Tr := .split (.u 21 0) t1_22 t1_27
def t1_20 : Tr := .need (.prim [(W 20 0), (.one (.c (.k (.int .u32 (1000000000)))))] none) (.binOp .geq 255 (.tmp 46) (.const (.int .u32 (1000000000))) 255) 4 false t1_21
def t1_19 : Tr := .need (.prim [(W 15 0), (W 19 0)] none) (.binOp .add 255 (.tmp 39) (.tmp 44) 255) 255 false t1_20
def t1_18 : Tr := .need (.prim [(W 18 0)] none) (.load 255 (.tmp 43)) 255 false t1_19
def t1_17 : Tr := .need (.prim [(W 0 0), (W 10 0)] none) (.indexAddr 33 (.tmp 41) (.tmp 42)) 0 false t1_18
def t1_37 : Tr := .back 0 [(.w (.one (.c (.k (.int .u32 (1)))))), (.w (W 21 0)), (.row 20)]
def t1_36 : Tr := .need (.prim [(W 10 0), (WK (1))] none) (.binOp .add 3 (.tmp 26) (.const (I3 (1))) 3) 3 false t1_37
def t1_35 : Tr := .need (.strow 11 1 (.u 10 0) 0 [(.u 19 0)]) (.store 255 (.tmp 53) (.tmp 52)) 0 false t1_36
def t1_34 : Tr := .need (.idx 11 (.u 10 0)) (.indexAddr 33 (.tmp 50) (.tmp 51)) 0 false t1_35
def t1_33 : Tr := .need (.prim [(W 15 0), (.one (.c (.k (.int .u32 (1000000000)))))] none) (.binOp .sub 255 (.tmp 48) (.const (.int .u32 (1000000000))) 255) 255 false t1_34
def t1_41 : Tr := .back 0 [(.w (.one (.c (.k (.int .u32 (0)))))), (.w (W 20 0)), (.row 19)]
def t1_40 : Tr := .need (.prim [(W 10 0), (WK (1))] none) (.binOp .add 3 (.tmp 26) (.const (I3 (1))) 3) 3 false t1_41
def t1_39 : Tr := .need (.strow 11 1 (.u 10 0) 0 [(.u 15 0)]) (.store 255 (.tmp 53) (.tmp 52)) 0 false t1_40
def t1_38 : Tr := .need (.idx 11 (.u 10 0)) (.indexAddr 33 (.tmp 50) (.tmp 51)) 0 false t1_39
def t1_32 : Tr := .split (.u 18 0) t1_33 t1_38
def t1_31 : Tr := .need (.prim [(W 15 0), (.one (.c (.k (.int .u32 (1000000000)))))] none) (.binOp .geq 255 (.tmp 46) (.const (.int .u32 (1000000000))) 255) 4 false t1_32
def t1_16 : Tr := .split (.u 17 0) t1_17 t1_31
def t1_15 : Tr := .need (.prim [(W 10 0), (W 16 0)] none) (.binOp .lss 3 (.tmp 34) (.tmp 37) 3) 4 false t1_16
def t1_14 : Tr := .need (.prim [(W 0 0)] none) (.call ⟨.builtin .len, #[(.tmp 36)], #[33]⟩) 3 false t1_15
def t1_13 : Tr := .need (.prim [(W 14 0), (W 9 0)] none) (.binOp .add 255 (.tmp 31) (.tmp 32) 255) 255 false t1_14
def t1_12 : Tr := .need (.prim [(W 13 0)] none) (.load 255 (.tmp 29)) 255 false t1_13
def t1_11 : Tr := .need (.prim [(W 1 0), (W 10 0)] none) (.indexAddr 33 (.tmp 24) (.tmp 26)) 0 false t1_12
def t1_46 : Tr := .ret [(.agg [(U 15 0)])]
def t1_45 : Tr := .need (.call 197 [(.one (.c (.sr 1 14)))] [(some 1)]) (.call ⟨.value (.func 197), #[(.tmp 61)], #[33]⟩) 35 true t1_46
def t1_44 : Tr := .need (.strow 11 1 (.u 13 0) 0 [(.u 9 0)]) (.store 255 (.tmp 60) (.tmp 59)) 0 false t1_45
def t1_43 : Tr := .need (.idx 11 (.u 13 0)) (.indexAddr 33 (.tmp 55) (.tmp 58)) 0 false t1_44
def t1_42 : Tr := .need (.prim [(W 1 0)] none) (.call ⟨.builtin .len, #[(.tmp 57)], #[33]⟩) 3 false t1_43
def t1_10 : Tr := .split (.u 12 0) t1_11 t1_42
def t1_9 : Tr := .need (.prim [(W 10 0), (W 8 0)] none) (.binOp .lss 3 (.tmp 26) (.tmp 25) 3) 0 false t1_10
def t1_8 : Tr := .loop 0 [(.w (.one (.c (.k (.int .u32 (0)))))), (.w (WK (0))), (.row 7)] t1_9
def t1_7 : Tr := .need (.prim [(W 1 0)] none) (.call ⟨.builtin .len, #[(.tmp 24)], #[33]⟩) 3 false t1_8
def t1_6 : Tr := .need (.make [(.int .u32 (0))] 4 (.u 6 0) (.u 6 0)) (.makeSlice 33 (.tmp 21) (.tmp 21)) 33 false t1_7
def t1_5 : Tr := .need (.prim [(W 5 0), (WK (1))] none) (.binOp .add 3 (.tmp 20) (.const (I3 (1))) 3) 3 false t1_6
def t1_4 : Tr := .need (.prim [(W 1 0)] none) (.call ⟨.builtin .len, #[(.tmp 19)], #[33]⟩) 3 false t1_5
def t1_60 : Tr := .need (.prim [(W 1 0), (W 10 0)] none) (.indexAddr 33 (.tmp 41) (.tmp 42)) 0 false t1_18
def t1_59 : Tr := .split (.u 17 0) t1_60 t1_31
def t1_58 : Tr := .need (.prim [(W 10 0), (W 16 0)] none) (.binOp .lss 3 (.tmp 34) (.tmp 37) 3) 4 false t1_59
def t1_57 : Tr := .need (.prim [(W 1 0)] none) (.call ⟨.builtin .len, #[(.tmp 36)], #[33]⟩) 3 false t1_58
def t1_56 : Tr := .need (.prim [(W 14 0), (W 9 0)] none) (.binOp .add 255 (.tmp 31) (.tmp 32) 255) 255 false t1_57
def t1_55 : Tr := .need (.prim [(W 13 0)] none) (.load 255 (.tmp 29)) 255 false t1_56
def t1_54 : Tr := .need (.prim [(W 0 0), (W 10 0)] none) (.indexAddr 33 (.tmp 24) (.tmp 26)) 0 false t1_55
def t1_85 : Tr := .need (.prim [(W 0 0)] none) (.call ⟨.builtin .len, #[(.tmp 57)], #[33]⟩) 3 false t1_43
def t1_53 : Tr := .split (.u 12 0) t1_54 t1_85
def t1_52 : Tr := .need (.prim [(W 10 0), (W 8 0)] none) (.binOp .lss 3 (.tmp 26) (.tmp 25) 3) 0 false t1_53
def t1_51 : Tr := .loop 0 [(.w (.one (.c (.k (.int .u32 (0)))))), (.w (WK (0))), (.row 7)] t1_52
def t1_50 : Tr := .need (.prim [(W 0 0)] none) (.call ⟨.builtin .len, #[(.tmp 24)], #[33]⟩) 3 false t1_51
def t1_49 : Tr := .need (.make [(.int .u32 (0))] 4 (.u 6 0) (.u 6 0)) (.makeSlice 33 (.tmp 21) (.tmp 21)) 33 false t1_50
def t1_48 : Tr := .need (.prim [(W 5 0), (WK (1))] none) (.binOp .add 3 (.tmp 20) (.const (I3 (1))) 3) 3 false t1_49
def t1_47 : Tr := .need (.prim [(W 0 0)] none) (.call ⟨.builtin .len, #[(.tmp 19)], #[33]⟩) 3 false t1_48
def t1_3 : Tr := .split (.u 4 0) t1_4 t1_47
def t1_2 : Tr := .need (.prim [(W 2 0), (W 3 0)] none) (.binOp .lss 3 (.tmp 11) (.tmp 14) 3) 4 false t1_3
def t1_1 : Tr := .need (.prim [(W 1 0)] none) (.call ⟨.builtin .len, #[(.tmp 13)], #[33]⟩) 3 false t1_2
def t1_0 : Tr := .need (.prim [(W 0 0)] none) (.call ⟨.builtin .len, #[(.tmp 10)], #[33]⟩) 3 false t1_1
theorem x_plus : execF prog f196 (fun _ => none) [.v (some 1), .v (some 1)] = t1_0 := by kernel_rfl

/-- what holds in the round -/
structure PInv (xs ys : List Nat) (i c : Nat) (os : List Nat) : Prop where
  le : i ≤ xs.length
  c1 : c ≤ 1
  len : os.length = xs.length + 1
  dg : Dg os
  eq : lv (os.take i) + 1000000000 ^ i * c = lv (xs.take i) + lv (ys.take i)
theorem PInv.init (xs ys : List Nat) : PInv xs ys 0 0 (List.replicate (xs.length + 1) 0) := ⟨Nat.zero_le _, by omega, by simp, Dg.rep _, by simp [lv, val]⟩
theorem PInv.next {xs ys os : List Nat} {i c x y c' z : Nat} (h : PInv xs ys i c os) (hi : i < xs.length) (hx : xs[i]? = some x) (hy : ys[i]?.getD 0 = y) (hc : c' ≤ 1) (hz : z < 1000000000) (he : z + 1000000000 * c' = x + c + y) : PInv xs ys (i + 1) c' (os.set i z) := by
  refine ⟨hi, hc, by rw [List.length_set]; exact h.len, h.dg.set hz, ?_⟩
  rw [lv_set_take (by rw [h.len]; omega), lv_take_succ hx, Nat.pow_succ]
  have hb : lv (ys.take (i + 1)) = lv (ys.take i) + 1000000000 ^ i * y := by
    cases hbi : ys[i]? with
    | some d => rw [hbi] at hy; simp only [Option.getD_some] at hy; subst hy; exact lv_take_succ hbi
    | none =>
      rw [hbi] at hy; simp only [Option.getD_none] at hy; subst hy
      have := List.getElem?_eq_none_iff.1 hbi
      rw [List.take_of_length_le (by omega), List.take_of_length_le (by omega)]; omega
  rw [hb]
  have h1 := h.eq
  have h2 := congrArg (fun t => 1000000000 ^ i * t) he
  simp only [Nat.mul_add] at h2
  rw [Nat.mul_assoc]
  omega
theorem PInv.fin {xs ys os : List Nat} {c : Nat} {n : Nat} (h : PInv xs ys xs.length c os) (hle : ys.length ≤ xs.length) (he : lv xs + lv ys = n) : lv (os.set xs.length c) = n := by
  have h1 := lv_set_take (os := os) (i := xs.length) (x := c) (by rw [h.len]; omega)
  rw [List.take_of_length_le (by rw [List.length_set, h.len]; omega)] at h1
  have h2 := h.eq
  rw [List.take_length, List.take_of_length_le hle] at h2
  omega

set_option maxHeartbeats 1000000 in
theorem d_plus (a b : Nat) (hs : (dg a).length + (dg b).length < 1099511627776) : Does prog 196 [mT a, mT b] (.ret [mT (a + b)]) := by
  refine does_of_vc (args := [.v (some 1), .v (some 1)]) (ins := [.v (mT a), .v (mT b)]) (hints := fun _ => none) fo (by kernel_rfl) func196 ⟨rfl, rfl, trivial⟩ ?_
  rw [x_plus]
  dsimp only [List.map, In.env]
  refine vn (p_len el33 rT_len) rfl ?_
  dsimp only [c_a, n_a]
  refine vn (p_len el33 rT_len) rfl ?_
  dsimp only [c_a, n_a]
  refine vn p_lss rfl ?_
  dsimp only [c_a, n_a]
  refine vs _ rfl (fun hab => ?_) (fun hab => ?_)
  · skip
    refine vn (p_len el33 rT_len) rfl ?_
    dsimp only [c_a, n_a]
    refine vn (p_add (c := (((dg b).length + 1 : Nat) : Int)) (by rw [wi64] <;> omega)) rfl ?_
    dsimp only [c_a, n_a]
    refine vmake (n := (dg b).length + 1) (m := (dg b).length + 1) rfl rfl rT_rep (Nat.le_refl _) (by omega) (by simp [maxLen]; omega) ?_
    dsimp only [c_a, n_a]
    refine vn (p_len el33 rT_len) rfl ?_
    dsimp only [c_a, n_a]
    refine vloop {g : Nat × Nat × List Nat // PInv (dg b) (dg a) g.1 g.2.1 g.2.2} (fun g => [.one (.int .u32 g.1.2.1), .one (.int .i64 g.1.1), .rows (rT g.1.2.2)]) (fun g => (dg b).length - g.1.1) ⟨(0, 0, List.replicate ((dg b).length + 1) 0), PInv.init _ _⟩ SubL.rfl (fun _ => rfl) ?_
    rintro ⟨⟨i, c, os⟩, hI⟩
    dsimp only [c_a, n_a] at hI ⊢
    refine vn p_lss rfl ?_
    dsimp only [c_a, n_a]
    refine vs _ rfl (fun h => ?_) (fun h => ?_)
    · have hlt : i < (dg b).length := by omega
      have hget : (dg b)[i]? = some ((dg b)[i]'hlt) := List.getElem?_eq_getElem hlt
      generalize (dg b)[i]'hlt = x at hget
      have hx := (dg_dg b).get hget
      have hc := hI.c1
      have hol : i < os.length := by rw [hI.len]; omega
      have hog : (rT os)[((i : Int)).toNat]? = some [CTy.int .u32 ((os[i]'hol : Nat) : Int)] := rT_get (by simp)
      refine vn (p_at el33 (by omega) (by simpa using hget)) rfl ?_
      dsimp only [c_a, n_a]
      refine vn p_ld rfl ?_
      dsimp only [c_a, n_a]
      refine vn (p_add (c := ((x + c : Nat) : Int)) (by rw [wu32] <;> omega)) rfl ?_
      dsimp only [c_a, n_a]
      refine vn (p_len el33 rT_len) rfl ?_
      dsimp only [c_a, n_a]
      refine vn p_lss rfl ?_
      dsimp only [c_a, n_a]
      refine vs _ rfl (fun h1 => ?_) (fun h1 => ?_)
      · have hlt1 : i < (dg a).length := by omega
        have hget1 : (dg a)[i]? = some ((dg a)[i]'hlt1) := List.getElem?_eq_getElem hlt1
        generalize (dg a)[i]'hlt1 = y at hget1
        have hy := (dg_dg a).get hget1
        refine vn (p_at el33 (by omega) (by simpa using hget1)) rfl ?_
        dsimp only [c_a, n_a]
        refine vn p_ld rfl ?_
        dsimp only [c_a, n_a]
        refine vn (p_add (c := ((x + c + y : Nat) : Int)) (by rw [wu32] <;> omega)) rfl ?_
        dsimp only [c_a, n_a]
        refine vn p_geq rfl ?_
        dsimp only [c_a, n_a]
        refine vs _ rfl (fun h2 => ?_) (fun h2 => ?_)
        · refine vn (p_sub (c := ((x + c + y - 1000000000 : Nat) : Int)) (by rw [wu32] <;> omega)) rfl ?_
          dsimp only [c_a, n_a]
          refine vidx (ts := rT os) rfl rfl (by omega) (by rw [rT_len]; omega) ?_
          refine vst (ts := rT os) (us := rT (os.set i (x + c + y - 1000000000))) rfl rfl (by omega) hog rT_set ?_
          dsimp only [c_a, n_a]
          refine vn (p_add (c := ((i + 1 : Nat) : Int)) (by rw [wi64] <;> omega)) rfl ?_
          dsimp only [c_a, n_a]
          have hN : PInv _ _ (i + 1) 1 (os.set i (x + c + y - 1000000000)) := hI.next (y := y) hlt hget (by rw [hget1]; rfl) (by omega) (by omega) (by omega)
          exact vback rfl ⟨⟨(i + 1, 1, os.set i (x + c + y - 1000000000)), hN⟩, SubL.rfl, by show (dg b).length - (i + 1) < (dg b).length - i; omega⟩
        · refine vidx (ts := rT os) rfl rfl (by omega) (by rw [rT_len]; omega) ?_
          refine vst (ts := rT os) (us := rT (os.set i (x + c + y))) rfl rfl (by omega) hog rT_set ?_
          dsimp only [c_a, n_a]
          refine vn (p_add (c := ((i + 1 : Nat) : Int)) (by rw [wi64] <;> omega)) rfl ?_
          dsimp only [c_a, n_a]
          have hN : PInv _ _ (i + 1) 0 (os.set i (x + c + y)) := hI.next (y := y) hlt hget (by rw [hget1]; rfl) (by omega) (by omega) (by omega)
          exact vback rfl ⟨⟨(i + 1, 0, os.set i (x + c + y)), hN⟩, SubL.rfl, by show (dg b).length - (i + 1) < (dg b).length - i; omega⟩
      · have hget1 : (dg a)[i]? = none := List.getElem?_eq_none (by omega)
        refine vn p_geq rfl ?_
        dsimp only [c_a, n_a]
        refine vs _ rfl (fun h2 => ?_) (fun h2 => ?_)
        · refine vn (p_sub (c := ((x + c - 1000000000 : Nat) : Int)) (by rw [wu32] <;> omega)) rfl ?_
          dsimp only [c_a, n_a]
          refine vidx (ts := rT os) rfl rfl (by omega) (by rw [rT_len]; omega) ?_
          refine vst (ts := rT os) (us := rT (os.set i (x + c - 1000000000))) rfl rfl (by omega) hog rT_set ?_
          dsimp only [c_a, n_a]
          refine vn (p_add (c := ((i + 1 : Nat) : Int)) (by rw [wi64] <;> omega)) rfl ?_
          dsimp only [c_a, n_a]
          have hN : PInv _ _ (i + 1) 1 (os.set i (x + c - 1000000000)) := hI.next (y := 0) hlt hget (by rw [hget1]; rfl) (by omega) (by omega) (by omega)
          exact vback rfl ⟨⟨(i + 1, 1, os.set i (x + c - 1000000000)), hN⟩, SubL.rfl, by show (dg b).length - (i + 1) < (dg b).length - i; omega⟩
        · refine vidx (ts := rT os) rfl rfl (by omega) (by rw [rT_len]; omega) ?_
          refine vst (ts := rT os) (us := rT (os.set i (x + c))) rfl rfl (by omega) hog rT_set ?_
          dsimp only [c_a, n_a]
          refine vn (p_add (c := ((i + 1 : Nat) : Int)) (by rw [wi64] <;> omega)) rfl ?_
          dsimp only [c_a, n_a]
          have hN : PInv _ _ (i + 1) 0 (os.set i (x + c)) := hI.next (y := 0) hlt hget (by rw [hget1]; rfl) (by omega) (by omega) (by omega)
          exact vback rfl ⟨⟨(i + 1, 0, os.set i (x + c)), hN⟩, SubL.rfl, by show (dg b).length - (i + 1) < (dg b).length - i; omega⟩
    · have hie : i = (dg b).length := by have := hI.le; omega
      subst hie
      have hol : (dg b).length < os.length := by rw [hI.len]; omega
      have hog : (rT os)[(((dg b).length : Int)).toNat]? = some [CTy.int .u32 ((os[(dg b).length]'hol : Nat) : Int)] := rT_get (by simp)
      refine vn (p_len el33 rT_len) rfl ?_
      dsimp only [c_a, n_a]
      refine vidx (ts := rT os) rfl rfl (by omega) (by rw [rT_len]; omega) ?_
      refine vst (ts := rT os) (us := rT (os.set ((dg b).length) c)) rfl rfl (by omega) hog rT_set ?_
      dsimp only [c_a, n_a]
      refine vcall (d_trimmed (os.set ((dg b).length) c) (hI.dg.set (by have := hI.c1; omega)) (by rw [List.length_set, hI.len]; omega)) rfl ?_
      dsimp only [c_a, n_a]
      refine vret ?_
      rw [hI.fin (n := a + b) (by omega) (by rw [lv_dg, lv_dg] <;> omega)]
      rfl
  · skip
    refine vn (p_len el33 rT_len) rfl ?_
    dsimp only [c_a, n_a]
    refine vn (p_add (c := (((dg a).length + 1 : Nat) : Int)) (by rw [wi64] <;> omega)) rfl ?_
    dsimp only [c_a, n_a]
    refine vmake (n := (dg a).length + 1) (m := (dg a).length + 1) rfl rfl rT_rep (Nat.le_refl _) (by omega) (by simp [maxLen]; omega) ?_
    dsimp only [c_a, n_a]
    refine vn (p_len el33 rT_len) rfl ?_
    dsimp only [c_a, n_a]
    refine vloop {g : Nat × Nat × List Nat // PInv (dg a) (dg b) g.1 g.2.1 g.2.2} (fun g => [.one (.int .u32 g.1.2.1), .one (.int .i64 g.1.1), .rows (rT g.1.2.2)]) (fun g => (dg a).length - g.1.1) ⟨(0, 0, List.replicate ((dg a).length + 1) 0), PInv.init _ _⟩ SubL.rfl (fun _ => rfl) ?_
    rintro ⟨⟨i, c, os⟩, hI⟩
    dsimp only [c_a, n_a] at hI ⊢
    refine vn p_lss rfl ?_
    dsimp only [c_a, n_a]
    refine vs _ rfl (fun h => ?_) (fun h => ?_)
    · have hlt : i < (dg a).length := by omega
      have hget : (dg a)[i]? = some ((dg a)[i]'hlt) := List.getElem?_eq_getElem hlt
      generalize (dg a)[i]'hlt = x at hget
      have hx := (dg_dg a).get hget
      have hc := hI.c1
      have hol : i < os.length := by rw [hI.len]; omega
      have hog : (rT os)[((i : Int)).toNat]? = some [CTy.int .u32 ((os[i]'hol : Nat) : Int)] := rT_get (by simp)
      refine vn (p_at el33 (by omega) (by simpa using hget)) rfl ?_
      dsimp only [c_a, n_a]
      refine vn p_ld rfl ?_
      dsimp only [c_a, n_a]
      refine vn (p_add (c := ((x + c : Nat) : Int)) (by rw [wu32] <;> omega)) rfl ?_
      dsimp only [c_a, n_a]
      refine vn (p_len el33 rT_len) rfl ?_
      dsimp only [c_a, n_a]
      refine vn p_lss rfl ?_
      dsimp only [c_a, n_a]
      refine vs _ rfl (fun h1 => ?_) (fun h1 => ?_)
      · have hlt1 : i < (dg b).length := by omega
        have hget1 : (dg b)[i]? = some ((dg b)[i]'hlt1) := List.getElem?_eq_getElem hlt1
        generalize (dg b)[i]'hlt1 = y at hget1
        have hy := (dg_dg b).get hget1
        refine vn (p_at el33 (by omega) (by simpa using hget1)) rfl ?_
        dsimp only [c_a, n_a]
        refine vn p_ld rfl ?_
        dsimp only [c_a, n_a]
        refine vn (p_add (c := ((x + c + y : Nat) : Int)) (by rw [wu32] <;> omega)) rfl ?_
        dsimp only [c_a, n_a]
        refine vn p_geq rfl ?_
        dsimp only [c_a, n_a]
        refine vs _ rfl (fun h2 => ?_) (fun h2 => ?_)
        · refine vn (p_sub (c := ((x + c + y - 1000000000 : Nat) : Int)) (by rw [wu32] <;> omega)) rfl ?_
          dsimp only [c_a, n_a]
          refine vidx (ts := rT os) rfl rfl (by omega) (by rw [rT_len]; omega) ?_
          refine vst (ts := rT os) (us := rT (os.set i (x + c + y - 1000000000))) rfl rfl (by omega) hog rT_set ?_
          dsimp only [c_a, n_a]
          refine vn (p_add (c := ((i + 1 : Nat) : Int)) (by rw [wi64] <;> omega)) rfl ?_
          dsimp only [c_a, n_a]
          have hN : PInv _ _ (i + 1) 1 (os.set i (x + c + y - 1000000000)) := hI.next (y := y) hlt hget (by rw [hget1]; rfl) (by omega) (by omega) (by omega)
          exact vback rfl ⟨⟨(i + 1, 1, os.set i (x + c + y - 1000000000)), hN⟩, SubL.rfl, by show (dg a).length - (i + 1) < (dg a).length - i; omega⟩
        · refine vidx (ts := rT os) rfl rfl (by omega) (by rw [rT_len]; omega) ?_
          refine vst (ts := rT os) (us := rT (os.set i (x + c + y))) rfl rfl (by omega) hog rT_set ?_
          dsimp only [c_a, n_a]
          refine vn (p_add (c := ((i + 1 : Nat) : Int)) (by rw [wi64] <;> omega)) rfl ?_
          dsimp only [c_a, n_a]
          have hN : PInv _ _ (i + 1) 0 (os.set i (x + c + y)) := hI.next (y := y) hlt hget (by rw [hget1]; rfl) (by omega) (by omega) (by omega)
          exact vback rfl ⟨⟨(i + 1, 0, os.set i (x + c + y)), hN⟩, SubL.rfl, by show (dg a).length - (i + 1) < (dg a).length - i; omega⟩
      · have hget1 : (dg b)[i]? = none := List.getElem?_eq_none (by omega)
        refine vn p_geq rfl ?_
        dsimp only [c_a, n_a]
        refine vs _ rfl (fun h2 => ?_) (fun h2 => ?_)
        · refine vn (p_sub (c := ((x + c - 1000000000 : Nat) : Int)) (by rw [wu32] <;> omega)) rfl ?_
          dsimp only [c_a, n_a]
          refine vidx (ts := rT os) rfl rfl (by omega) (by rw [rT_len]; omega) ?_
          refine vst (ts := rT os) (us := rT (os.set i (x + c - 1000000000))) rfl rfl (by omega) hog rT_set ?_
          dsimp only [c_a, n_a]
          refine vn (p_add (c := ((i + 1 : Nat) : Int)) (by rw [wi64] <;> omega)) rfl ?_
          dsimp only [c_a, n_a]
          have hN : PInv _ _ (i + 1) 1 (os.set i (x + c - 1000000000)) := hI.next (y := 0) hlt hget (by rw [hget1]; rfl) (by omega) (by omega) (by omega)
          exact vback rfl ⟨⟨(i + 1, 1, os.set i (x + c - 1000000000)), hN⟩, SubL.rfl, by show (dg a).length - (i + 1) < (dg a).length - i; omega⟩
        · refine vidx (ts := rT os) rfl rfl (by omega) (by rw [rT_len]; omega) ?_
          refine vst (ts := rT os) (us := rT (os.set i (x + c))) rfl rfl (by omega) hog rT_set ?_
          dsimp only [c_a, n_a]
          refine vn (p_add (c := ((i + 1 : Nat) : Int)) (by rw [wi64] <;> omega)) rfl ?_
          dsimp only [c_a, n_a]
          have hN : PInv _ _ (i + 1) 0 (os.set i (x + c)) := hI.next (y := 0) hlt hget (by rw [hget1]; rfl) (by omega) (by omega) (by omega)
          exact vback rfl ⟨⟨(i + 1, 0, os.set i (x + c)), hN⟩, SubL.rfl, by show (dg a).length - (i + 1) < (dg a).length - i; omega⟩
    · have hie : i = (dg a).length := by have := hI.le; omega
      subst hie
      have hol : (dg a).length < os.length := by rw [hI.len]; omega
      have hog : (rT os)[(((dg a).length : Int)).toNat]? = some [CTy.int .u32 ((os[(dg a).length]'hol : Nat) : Int)] := rT_get (by simp)
      refine vn (p_len el33 rT_len) rfl ?_
      dsimp only [c_a, n_a]
      refine vidx (ts := rT os) rfl rfl (by omega) (by rw [rT_len]; omega) ?_
      refine vst (ts := rT os) (us := rT (os.set ((dg a).length) c)) rfl rfl (by omega) hog rT_set ?_
      dsimp only [c_a, n_a]
      refine vcall (d_trimmed (os.set ((dg a).length) c) (hI.dg.set (by have := hI.c1; omega)) (by rw [List.length_set, hI.len]; omega)) rfl ?_
      dsimp only [c_a, n_a]
      refine vret ?_
      rw [hI.fin (n := a + b) (by omega) (by rw [lv_dg, lv_dg] <;> omega)]
      rfl
end Go.Sy
namespace Go.Sy
open Go Go.Proofs Tryz Ord

def t2_2 : Tr := .ret [(W 2 0)]
def t2_1 : Tr := .need (.prim [(W 1 0), (WK (0))] none) (.binOp .eql 3 (.tmp 5) (.const (I3 (0))) 3) 4 false t2_2
def t2_0 : Tr := .need (.prim [(W 0 0)] none) (.call ⟨.builtin .len, #[(.tmp 4)], #[33]⟩) 3 false t2_1
theorem x_zero : execF prog f179 (fun _ => none) [.v (some 1)] = t2_0 := by kernel_rfl

def t3_8 : Tr := .back 0 [(.w (W 8 0)), (.row 7)]
def t3_7 : Tr := .need (.prim [(W 1 0), (.one (.c (.k (.int .u64 (1000000000)))))] none) (.binOp .quo 254 (.tmp 6) (.const (.int .u64 (1000000000))) 254) 254 false t3_8
def t3_6 : Tr := .need (.app 1 4 (some 2) none (some 6)) (.call ⟨.builtin .append, #[(.tmp 8), (.tmp 12)], #[33, 33]⟩) 33 false t3_7
def t3_5 : Tr := .need (.lit 1 [[(.u 5 0)]]) (.buildSlice 33 1 #[(0, (.tmp 11))]) 33 false t3_6
def t3_4 : Tr := .need (.prim [(W 4 0)] none) (.convert 254 255 (.tmp 10)) 255 false t3_5
def t3_3 : Tr := .need (.prim [(W 1 0), (.one (.c (.k (.int .u64 (1000000000)))))] none) (.binOp .rem 254 (.tmp 9) (.const (.int .u64 (1000000000))) 254) 254 false t3_4
def t3_9 : Tr := .ret [(.agg [(.c (.sr 1 2))])]
def t3_2 : Tr := .split (.u 3 0) t3_3 t3_9
def t3_1 : Tr := .need (.prim [(W 1 0), (.one (.c (.k (.int .u64 (0)))))] none) (.binOp .gtr 254 (.tmp 4) (.const (.int .u64 (0))) 254) 4 false t3_2
def t3_0 : Tr := .loop 0 [(.w (W 0 0)), .nilrow] t3_1
theorem x_small : execF prog f195 (fun _ => none) [.v none] = t3_0 := by kernel_rfl

def t4_3 : Tr := .ret [(.agg [(U 1 0), (U 3 0)])]
def t4_2 : Tr := .need (.prim [(W 2 0)] none) (.unOp .not 4 (.tmp 9)) 4 false t4_3
def t4_1 : Tr := .need (.call 179 [(.agg [(U 1 0)])] [none]) (.call ⟨.value (.func 179), #[(.tmp 8)], #[35]⟩) 4 false t4_2
def t4_4 : Tr := .ret [(.agg [(U 1 0), (.c (.k (.bool false)))])]
def t4_0 : Tr := .split (.u 0 0) t4_1 t4_4
theorem x_signed : execF prog f155 (fun _ => none) [.v none, .v (some 1)] = t4_0 := by kernel_rfl

def t5_2 : Tr := .ret [(WK (0))]
def t5_4 : Tr := .ret [(WK (-1))]
def t5_5 : Tr := .ret [(WK (1))]
def t5_3 : Tr := .split (.u 0 1) t5_4 t5_5
def t5_1 : Tr := .split (.u 1 0) t5_2 t5_3
def t5_0 : Tr := .need (.call 179 [(.agg [(U 0 0)])] [none]) (.call ⟨.value (.func 179), #[(.tmp 5)], #[35]⟩) 4 true t5_1
theorem x_isign : execF prog f114 (fun _ => none) [.v (some 2)] = t5_0 := by kernel_rfl

theorem d_zero (n : Nat) : Does prog 179 [mT n] (.ret [.one (.bool (decide (n = 0)))]) := by
  refine does_of_vc (args := [.v (some 1)]) (ins := [.v (mT n)]) (hints := fun _ => none) fo (by kernel_rfl) func179 ⟨rfl, trivial⟩ ?_
  rw [x_zero]
  refine vn (p_len el33 rfl) rfl ?_
  refine vn p_eql rfl ?_
  refine vret ?_
  show [STy.one (.bool (decide (_ = (0 : Int))))] = _
  have h : ((rT (dg n)).length : Int) = 0 ↔ n = 0 := by
    rw [rT_len, ← dg_nil]; cases dg n <;> simp; omega
  simp only [h]

theorem d_small (n : Nat) (h : n < 18446744073709551616) : Does prog 195 [.one (.int .u64 n)] (.ret [mT n]) := by
  refine does_of_vc (args := [.v none]) (ins := [.v (.one (.int .u64 n))]) (hints := fun _ => none) fo (by kernel_rfl) func195 ⟨rfl, trivial⟩ ?_
  rw [x_small]
  have hlen : (dg n).length ≤ 3 := digs_length_le (by omega) (by omega)
  refine vloop {p : Nat × List Nat // p.2 ++ dg p.1 = dg n ∧ p.1 ≤ n} (fun g => [.one (.int .u64 g.1.1), .rows (rT g.1.2)]) (fun g => g.1.1) ⟨(n, []), by simp⟩ SubL.rfl (fun _ => rfl) ?_
  rintro ⟨⟨k, ds⟩, hinv, hle⟩
  dsimp only [List.map, In.env, c_a, n_a] at hinv hle ⊢
  have hds : ds.length ≤ 3 := by have := congrArg List.length hinv; simp at this; omega
  refine vn p_gtr rfl ?_
  refine vs _ rfl (fun hk => ?_) (fun hk => ?_)
  · refine vn (p_rem (c := ((k % 1000000000 : Nat) : Int)) (by decide) (by rw [Int.tmod_eq_emod_of_nonneg (by omega)]; omega)) rfl ?_
    refine vn (p_conv ⟨_, un254⟩ un255 (c := ((k % 1000000000 : Nat) : Int)) (wu32 (by omega) (by omega))) rfl ?_
    refine vlit (us := rT [k % 1000000000]) rfl ?_
    refine vapp (ts := rT ds) (us := rT [k % 1000000000]) (vs := rT (ds ++ [k % 1000000000])) rfl rfl List.map_append.symm (by simp; omega) (by simp [maxLen]; omega) ?_
    refine vn (p_quo (c := ((k / 1000000000 : Nat) : Int)) (by decide) (by rw [Int.tdiv_eq_ediv_of_nonneg (by omega), wu64 (by omega) (by omega)]; omega)) rfl ?_
    refine vback rfl ⟨⟨(k / 1000000000, ds ++ [k % 1000000000]), ?_, ?_⟩, ?_, ?_⟩
    · have : k ≠ 0 := by omega
      rw [← hinv, dg, dg, digs_pos (n := k) (by omega) this]; simp
    · show k / 1000000000 ≤ n
      omega
    · exact SubL.rfl
    · show k / 1000000000 < k
      omega
  · have : k = 0 := by omega
    subst this
    refine vret ?_
    have e : dg 0 = [] := digs_zero _
    rw [e, List.append_nil] at hinv
    subst hinv
    rfl

/-- an integer -/
abbrev iT (z : Int) : STy := .agg [dT z.natAbs, .bool (decide (z < 0))]

theorem d_signed (m : Bool) (n : Nat) (z : Int) (hz : z = if m then -(n : Int) else n) : Does prog 155 [.one (.bool m), mT n] (.ret [iT z]) := by
  refine does_of_vc (args := [.v none, .v (some 1)]) (ins := [.v (.one (.bool m)), .v (mT n)]) (hints := fun _ => none) fo (by kernel_rfl) func155 ⟨rfl, rfl, trivial⟩ ?_
  rw [x_signed]
  have ha : z.natAbs = n := by subst hz; cases m <;> simp
  refine vsb m rfl (fun hm => ?_) (fun hm => ?_)
  · subst hm
    refine vcall (d_zero n) rfl ?_
    refine vn p_not rfl ?_
    refine vret ?_
    have : (!decide (n = 0)) = decide (z < 0) := by subst hz; simp; by_cases h : n = 0 <;> simp [h] <;> omega
    show [STy.agg [dT n, .bool (!decide (n = 0))]] = _
    rw [this, iT, ha]
  · subst hm
    refine vret ?_
    have : false = decide (z < 0) := by subst hz; simp
    show [STy.agg [dT n, .bool false]] = _
    rw [this, iT, ha]
end Go.Sy
namespace Go.Sy
open Go Go.Proofs Tryz Ord

def t6_32 : Tr := .back 1 [(.w (W 30 0)), (.w (W 32 0)), (.row 31)]
def t6_31 : Tr := .need (.prim [(W 14 0), (WK (1))] none) (.binOp .add 3 (.tmp 30) (.const (I3 (1))) 3) 3 false t6_32
def t6_30 : Tr := .need (.strow 15 1 (.u 27 0) 0 [(.u 29 0)]) (.store 255 (.tmp 59) (.tmp 56)) 0 false t6_31
def t6_29 : Tr := .need (.idx 15 (.u 27 0)) (.indexAddr 33 (.tmp 50) (.tmp 53)) 0 false t6_30
def t6_28 : Tr := .need (.prim [(W 26 0), (.one (.c (.k (.int .u64 (1000000000)))))] none) (.binOp .quo 254 (.tmp 57) (.const (.int .u64 (1000000000))) 254) 254 false t6_29
def t6_27 : Tr := .need (.prim [(W 28 0)] none) (.convert 254 255 (.tmp 55)) 255 false t6_28
def t6_26 : Tr := .need (.prim [(W 26 0), (.one (.c (.k (.int .u64 (1000000000)))))] none) (.binOp .rem 254 (.tmp 54) (.const (.int .u64 (1000000000))) 254) 254 false t6_27
def t6_25 : Tr := .need (.prim [(W 7 0), (W 14 0)] none) (.binOp .add 3 (.tmp 51) (.tmp 52) 3) 3 false t6_26
def t6_24 : Tr := .need (.prim [(W 13 0), (W 25 0)] none) (.binOp .add 254 (.tmp 35) (.tmp 48) 254) 254 false t6_25
def t6_23 : Tr := .need (.prim [(W 21 0), (W 24 0)] none) (.binOp .add 254 (.tmp 40) (.tmp 47) 254) 254 false t6_24
def t6_22 : Tr := .need (.prim [(W 23 0)] none) (.convert 255 254 (.tmp 46)) 254 false t6_23
def t6_21 : Tr := .need (.ldrow 15 (.u 22 0) 0 1 false) (.load 255 (.tmp 45)) 255 false t6_22
def t6_20 : Tr := .need (.idx 15 (.u 22 0)) (.indexAddr 33 (.tmp 41) (.tmp 44)) 0 false t6_21
def t6_19 : Tr := .need (.prim [(W 7 0), (W 14 0)] none) (.binOp .add 3 (.tmp 42) (.tmp 43) 3) 3 false t6_20
def t6_18 : Tr := .need (.prim [(W 19 0), (W 20 0)] none) (.binOp .mul 254 (.tmp 37) (.tmp 39) 254) 254 false t6_19
def t6_17 : Tr := .need (.prim [(W 18 0)] none) (.convert 255 254 (.tmp 38)) 254 false t6_18
def t6_16 : Tr := .need (.prim [(W 11 0)] none) (.convert 255 254 (.tmp 36)) 254 false t6_17
def t6_15 : Tr := .need (.prim [(W 17 0)] none) (.load 255 (.tmp 33)) 255 false t6_16
def t6_14 : Tr := .need (.prim [(W 1 0), (W 14 0)] none) (.indexAddr 33 (.tmp 28) (.tmp 30)) 0 false t6_15
def t6_39 : Tr := .back 0 [(.w (W 21 0)), (.row 20)]
def t6_38 : Tr := .need (.prim [(W 7 0), (WK (1))] none) (.binOp .add 3 (.tmp 22) (.const (I3 (1))) 3) 3 false t6_39
def t6_37 : Tr := .need (.strow 15 1 (.u 18 0) 0 [(.u 19 0)]) (.store 255 (.tmp 69) (.tmp 68)) 0 false t6_38
def t6_36 : Tr := .need (.idx 15 (.u 18 0)) (.indexAddr 33 (.tmp 61) (.tmp 66)) 0 false t6_37
def t6_35 : Tr := .need (.prim [(W 13 0)] none) (.convert 254 255 (.tmp 67)) 255 false t6_36
def t6_34 : Tr := .need (.prim [(W 7 0), (W 17 0)] none) (.binOp .add 3 (.tmp 62) (.tmp 65) 3) 3 false t6_35
def t6_33 : Tr := .need (.prim [(W 1 0)] none) (.call ⟨.builtin .len, #[(.tmp 64)], #[33]⟩) 3 false t6_34
def t6_13 : Tr := .split (.u 16 0) t6_14 t6_33
def t6_12 : Tr := .need (.prim [(W 14 0), (W 12 0)] none) (.binOp .lss 3 (.tmp 30) (.tmp 29) 3) 0 false t6_13
def t6_11 : Tr := .loop 1 [(.w (.one (.c (.k (.int .u64 (0)))))), (.w (WK (0))), (.row 8)] t6_12
def t6_10 : Tr := .need (.prim [(W 1 0)] none) (.call ⟨.builtin .len, #[(.tmp 28)], #[33]⟩) 3 false t6_11
def t6_9 : Tr := .need (.prim [(W 10 0)] none) (.load 255 (.tmp 25)) 255 false t6_10
def t6_8 : Tr := .need (.prim [(W 0 0), (W 7 0)] none) (.indexAddr 33 (.tmp 20) (.tmp 22)) 0 false t6_9
def t6_41 : Tr := .ret [(.agg [(U 10 0)])]
def t6_40 : Tr := .need (.call 197 [(.one (.c (.sr 1 8)))] [(some 1)]) (.call ⟨.value (.func 197), #[(.tmp 71)], #[33]⟩) 35 true t6_41
def t6_7 : Tr := .split (.u 9 0) t6_8 t6_40
def t6_6 : Tr := .need (.prim [(W 7 0), (W 6 0)] none) (.binOp .lss 3 (.tmp 22) (.tmp 21) 3) 0 false t6_7
def t6_5 : Tr := .loop 0 [(.w (WK (0))), (.row 5)] t6_6
def t6_4 : Tr := .need (.prim [(W 0 0)] none) (.call ⟨.builtin .len, #[(.tmp 20)], #[33]⟩) 3 false t6_5
def t6_3 : Tr := .need (.make [(.int .u32 (0))] 4 (.u 4 0) (.u 4 0)) (.makeSlice 33 (.tmp 17) (.tmp 17)) 33 false t6_4
def t6_2 : Tr := .need (.prim [(W 2 0), (W 3 0)] none) (.binOp .add 3 (.tmp 13) (.tmp 16) 3) 3 false t6_3
def t6_1 : Tr := .need (.prim [(W 1 0)] none) (.call ⟨.builtin .len, #[(.tmp 15)], #[33]⟩) 3 false t6_2
def t6_0 : Tr := .need (.prim [(W 0 0)] none) (.call ⟨.builtin .len, #[(.tmp 12)], #[33]⟩) 3 false t6_1
theorem x_times : execF prog f118 (fun _ => none) [.v (some 1), .v (some 1)] = t6_0 := by kernel_rfl

theorem lv_set {os : List Nat} {j z old n : Nat} (hj : os[j]? = some old) (hjn : j < n) : lv ((os.set j z).take n) + 1000000000 ^ j * old = lv (os.take n) + 1000000000 ^ j * z := by
  have hlt : j < os.length := (List.getElem?_eq_some_iff.1 hj).1
  have key : ∀ (os : List Nat) (j n : Nat), os[j]? = some old → j < n → lv ((os.set j z).take n) + 1000000000 ^ j * old = lv (os.take n) + 1000000000 ^ j * z := by
    intro os
    induction os with
    | nil => intro j n h; simp at h
    | cons d os ih =>
      intro j n h hn
      obtain ⟨m, rfl⟩ : ∃ m, n = m + 1 := ⟨n - 1, by omega⟩
      cases j with
      | zero =>
        simp only [List.getElem?_cons_zero, Option.some.injEq] at h
        subst h
        simp only [List.set_cons_zero, List.take_succ_cons, lv, val]
        omega
      | succ j =>
        have := ih j m (by simpa using h) (by omega)
        simp only [List.set_cons_succ, List.take_succ_cons, lv, val, Nat.pow_succ] at this ⊢
        have h1 : 1000000000 ^ j * 1000000000 * old = 1000000000 * (1000000000 ^ j * old) := by rw [Nat.mul_right_comm, Nat.mul_comm]
        have h2 : 1000000000 ^ j * 1000000000 * z = 1000000000 * (1000000000 ^ j * z) := by rw [Nat.mul_right_comm, Nat.mul_comm]
        rw [h1, h2]
        omega
  exact key os j n hj hjn
theorem lv_zero (n : Nat) : lv (List.replicate n 0) = 0 := by
  induction n with
  | zero => rfl
  | succ n ih => rw [List.replicate_succ, lv, val]; simp only [lv] at ih; rw [ih]

structure TOut (xs ys : List Nat) (i : Nat) (os : List Nat) : Prop where
  le : i ≤ xs.length
  len : os.length = xs.length + ys.length
  dg : Dg os
  eq : lv (os.take (i + ys.length)) = lv (xs.take i) * lv ys
structure TIn (xs ys : List Nat) (i x T k c : Nat) (os : List Nat) : Prop where
  le : k ≤ ys.length
  len : os.length = xs.length + ys.length
  dg : Dg os
  c1 : c < 1000000000
  eq : lv (os.take (i + ys.length)) + 1000000000 ^ (i + k) * c = T + x * (1000000000 ^ i * lv (ys.take k))
theorem TOut.init (xs ys : List Nat) : TOut xs ys 0 (List.replicate (xs.length + ys.length) 0) := ⟨Nat.zero_le _, by simp, Dg.rep _, by
  rw [List.take_replicate, lv_zero]; simp [lv, val]⟩
theorem TOut.inn {xs ys os : List Nat} {i x : Nat} (h : TOut xs ys i os) : TIn xs ys i x (lv (xs.take i) * lv ys) 0 0 os := ⟨Nat.zero_le _, h.len, h.dg, by omega, by rw [h.eq]; simp [lv, val]⟩
theorem TIn.next {xs ys os : List Nat} {i x T k c y old z c' : Nat} (h : TIn xs ys i x T k c os) (hi : i < xs.length) (hk : k < ys.length) (hx : x < 1000000000) (hy : ys[k]? = some y) (ho : os[i + k]? = some old) (hz : z < 1000000000) (hc : c' < 1000000000) (he : z + 1000000000 * c' = c + (x * y + old)) :
    TIn xs ys i x T (k + 1) c' (os.set (i + k) z) := by
  refine ⟨hk, by rw [List.length_set]; exact h.len, h.dg.set hz, hc, ?_⟩
  have h1 := lv_set (z := z) (n := i + ys.length) ho (by omega)
  have h2 := congrArg (fun t => 1000000000 ^ (i + k) * t) he
  have h3 := h.eq
  rw [lv_take_succ hy]
  simp only [Nat.mul_add] at h2 ⊢
  have e1 : 1000000000 ^ (i + (k + 1)) * c' = 1000000000 ^ (i + k) * (1000000000 * c') := by rw [← Nat.add_assoc, Nat.pow_succ, Nat.mul_assoc]
  have e2 : x * (1000000000 ^ i * (1000000000 ^ k * y)) = 1000000000 ^ (i + k) * (x * y) := by rw [Nat.pow_add]; simp only [Nat.mul_left_comm, Nat.mul_assoc]
  rw [e1, e2]
  omega
theorem TIn.out {xs ys os : List Nat} {i x c : Nat} (h : TIn xs ys i x (lv (xs.take i) * lv ys) ys.length c os) (hx : xs[i]? = some x) : TOut xs ys (i + 1) (os.set (i + ys.length) c) := by
  have hi : i < xs.length := (List.getElem?_eq_some_iff.1 hx).1
  refine ⟨hi, by rw [List.length_set]; exact h.len, h.dg.set h.c1, ?_⟩
  have h3 := h.eq
  rw [List.take_length] at h3
  rw [show i + 1 + ys.length = i + ys.length + 1 by omega, lv_set_take (by rw [h.len]; omega), lv_take_succ hx, h3, Nat.add_mul]
  congr 1
  rw [Nat.mul_left_comm, ← Nat.mul_assoc]
theorem TOut.fin {xs ys os : List Nat} (h : TOut xs ys xs.length os) : lv os = lv xs * lv ys := by
  have := h.eq
  rw [List.take_of_length_le (by rw [h.len]; omega), List.take_length] at this
  exact this

set_option maxHeartbeats 1000000 in
theorem d_times (a b : Nat) (hs : (dg a).length + (dg b).length < 1099511627776) : Does prog 118 [mT a, mT b] (.ret [mT (a * b)]) := by
  refine does_of_vc (args := [.v (some 1), .v (some 1)]) (ins := [.v (mT a), .v (mT b)]) (hints := fun _ => none) fo (by kernel_rfl) func118 ⟨rfl, rfl, trivial⟩ ?_
  rw [x_times]
  dsimp only [List.map, In.env]
  refine vn (p_len el33 rT_len) rfl ?_
  dsimp only [c_a, n_a]
  refine vn (p_len el33 rT_len) rfl ?_
  dsimp only [c_a, n_a]
  refine vn (p_add (c := (((dg a).length + (dg b).length : Nat) : Int)) (by rw [wi64] <;> omega)) rfl ?_
  dsimp only [c_a, n_a]
  refine vmake (n := (dg a).length + (dg b).length) (m := (dg a).length + (dg b).length) rfl rfl rT_rep (Nat.le_refl _) (by omega) (by simp [maxLen]; omega) ?_
  dsimp only [c_a, n_a]
  refine vn (p_len el33 rT_len) rfl ?_
  dsimp only [c_a, n_a]
  refine vloop {g : Nat × List Nat // TOut (dg a) (dg b) g.1 g.2} (fun g => [.one (.int .i64 g.1.1), .rows (rT g.1.2)]) (fun g => (dg a).length - g.1.1) ⟨(0, List.replicate ((dg a).length + (dg b).length) 0), TOut.init _ _⟩ SubL.rfl (fun _ => rfl) ?_
  rintro ⟨⟨i, os⟩, hO⟩
  dsimp only [c_a, n_a] at hO ⊢
  refine vn p_lss rfl ?_
  dsimp only [c_a, n_a]
  refine vs _ rfl (fun h => ?_) (fun h => ?_)
  · have hlt : i < (dg a).length := by omega
    have hget : (dg a)[i]? = some ((dg a)[i]'hlt) := List.getElem?_eq_getElem hlt
    generalize (dg a)[i]'hlt = x at hget
    have hx := (dg_dg a).get hget
    refine vn (p_at el33 (by omega) (by simpa using hget)) rfl ?_
    dsimp only [c_a, n_a]
    refine vn p_ld rfl ?_
    dsimp only [c_a, n_a]
    refine vn (p_len el33 rT_len) rfl ?_
    dsimp only [c_a, n_a]
    refine vloop {g : Nat × Nat × List Nat // TIn (dg a) (dg b) i x (lv ((dg a).take i) * lv (dg b)) g.1 g.2.1 g.2.2} (fun g => [.one (.int .u64 g.1.2.1), .one (.int .i64 g.1.1), .rows (rT g.1.2.2)]) (fun g => (dg b).length - g.1.1) ⟨(0, 0, os), hO.inn⟩ SubL.rfl (fun _ => rfl) ?_
    rintro ⟨⟨k, c, os2⟩, hI⟩
    dsimp only [c_a, n_a] at hI ⊢
    have hc := hI.c1
    refine vn p_lss rfl ?_
    dsimp only [c_a, n_a]
    refine vs _ rfl (fun h1 => ?_) (fun h1 => ?_)
    · have hlk : k < (dg b).length := by omega
      have hgk : (dg b)[k]? = some ((dg b)[k]'hlk) := List.getElem?_eq_getElem hlk
      generalize (dg b)[k]'hlk = y at hgk
      have hy := (dg_dg b).get hgk
      have hol : i + k < os2.length := by rw [hI.len]; omega
      have hok : os2[i + k]? = some (os2[i + k]'hol) := List.getElem?_eq_getElem hol
      generalize os2[i + k]'hol = old at hok
      have hold := hI.dg.get hok
      have hxy : x * y ≤ 999999999 * 999999999 := Nat.mul_le_mul (by omega) (by omega)
      refine vn (p_at el33 (by omega) (by simpa using hgk)) rfl ?_
      dsimp only [c_a, n_a]
      refine vn p_ld rfl ?_
      dsimp only [c_a, n_a]
      refine vn (p_conv ⟨_, un255⟩ un254 (c := (x : Int)) (by rw [wu64] <;> omega)) rfl ?_
      dsimp only [c_a, n_a]
      refine vn (p_conv ⟨_, un255⟩ un254 (c := (y : Int)) (by rw [wu64] <;> omega)) rfl ?_
      dsimp only [c_a, n_a]
      refine vn (p_mul (c := ((x * y : Nat) : Int)) (by rw [← Int.natCast_mul, wu64] <;> omega)) rfl ?_
      dsimp only [c_a, n_a]
      refine vn (p_add (c := ((i + k : Nat) : Int)) (by rw [wi64] <;> omega)) rfl ?_
      dsimp only [c_a, n_a]
      refine vidx (ts := rT os2) rfl rfl (by omega) (by rw [rT_len]; omega) ?_
      refine vld (ts := rT os2) (cells := [CTy.int .u32 (old : Int)]) (t := .one (.int .u32 (old : Int))) rfl rfl (by omega) (rT_get (by rw [Int.toNat_natCast]; exact hok)) (.inr rfl) rfl ?_
      dsimp only [c_a, n_a]
      refine vn (p_conv ⟨_, un255⟩ un254 (c := (old : Int)) (by rw [wu64] <;> omega)) rfl ?_
      dsimp only [c_a, n_a]
      refine vn (p_add (c := ((x * y + old : Nat) : Int)) (by rw [wu64] <;> omega)) rfl ?_
      dsimp only [c_a, n_a]
      refine vn (p_add (c := ((c + (x * y + old) : Nat) : Int)) (by rw [wu64] <;> omega)) rfl ?_
      dsimp only [c_a, n_a]
      generalize hs2 : c + (x * y + old) = w
      have hw : w < 1000000000 * 1000000000 := by omega
      refine vn (p_add (c := ((i + k : Nat) : Int)) (by rw [wi64] <;> omega)) rfl ?_
      dsimp only [c_a, n_a]
      refine vn (p_rem (c := ((w % 1000000000 : Nat) : Int)) (by decide) (by rw [Int.tmod_eq_emod_of_nonneg (by omega)]; omega)) rfl ?_
      dsimp only [c_a, n_a]
      refine vn (p_conv ⟨_, un254⟩ un255 (c := ((w % 1000000000 : Nat) : Int)) (by rw [wu32] <;> omega)) rfl ?_
      dsimp only [c_a, n_a]
      refine vn (p_quo (c := ((w / 1000000000 : Nat) : Int)) (by decide) (by rw [Int.tdiv_eq_ediv_of_nonneg (by omega), wu64] <;> omega)) rfl ?_
      dsimp only [c_a, n_a]
      refine vidx (ts := rT os2) rfl rfl (by omega) (by rw [rT_len]; omega) ?_
      refine vst (ts := rT os2) (us := rT (os2.set (i + k) (w % 1000000000))) rfl rfl (by omega) (rT_get (by rw [Int.toNat_natCast]; exact hok)) rT_set ?_
      dsimp only [c_a, n_a]
      refine vn (p_add (c := ((k + 1 : Nat) : Int)) (by rw [wi64] <;> omega)) rfl ?_
      dsimp only [c_a, n_a]
      have hN : TIn (dg a) (dg b) i x (lv ((dg a).take i) * lv (dg b)) (k + 1) (w / 1000000000) (os2.set (i + k) (w % 1000000000)) := hI.next hlt hlk hx hgk hok (by omega) (by omega) (by omega)
      exact vback rfl ⟨⟨(k + 1, w / 1000000000, os2.set (i + k) (w % 1000000000)), hN⟩, SubL.rfl, by show (dg b).length - (k + 1) < (dg b).length - k; omega⟩
    · have hke : k = (dg b).length := by have := hI.le; omega
      subst hke
      have hol : i + (dg b).length < os2.length := by rw [hI.len]; omega
      have hok : os2[i + (dg b).length]? = some (os2[i + (dg b).length]'hol) := List.getElem?_eq_getElem hol
      refine vn (p_len el33 rT_len) rfl ?_
      dsimp only [c_a, n_a]
      refine vn (p_add (c := ((i + (dg b).length : Nat) : Int)) (by rw [wi64] <;> omega)) rfl ?_
      dsimp only [c_a, n_a]
      refine vn (p_conv ⟨_, un254⟩ un255 (c := (c : Int)) (by rw [wu32] <;> omega)) rfl ?_
      dsimp only [c_a, n_a]
      refine vidx (ts := rT os2) rfl rfl (by omega) (by rw [rT_len]; omega) ?_
      refine vst (ts := rT os2) (us := rT (os2.set (i + (dg b).length) c)) rfl rfl (by omega) (rT_get (by rw [Int.toNat_natCast]; exact hok)) rT_set ?_
      dsimp only [c_a, n_a]
      refine vn (p_add (c := ((i + 1 : Nat) : Int)) (by rw [wi64] <;> omega)) rfl ?_
      dsimp only [c_a, n_a]
      exact vback rfl ⟨⟨(i + 1, os2.set (i + (dg b).length) c), hI.out hget⟩, SubL.rfl, by show (dg a).length - (i + 1) < (dg a).length - i; omega⟩
  · have hie : i = (dg a).length := by have := hO.le; omega
    subst hie
    refine vcall (d_trimmed os hO.dg (by rw [hO.len]; omega)) rfl ?_
    dsimp only [c_a, n_a]
    refine vret ?_
    have hf := hO.fin
    rw [lv_dg, lv_dg] at hf
    rw [hf]
    rfl
end Go.Sy
namespace Go.Sy
open Go Go.Proofs Tryz Ord

def t7_1 : Tr := .ret [(W 1 0)]
def t7_0 : Tr := .need (.prim [(W 0 0), (W 0 0)] none) (.binOp .neq 3 (.tmp 3) (.tmp 4) 3) 4 false t7_1
theorem x_isNaNInt : execF prog f253 (fun _ => none) [.v none] = t7_0 := by kernel_rfl

def t8_0 : Tr := .need (.prim [(W 0 0), (W 0 0)] none) (.binOp .neq 255 (.tmp 3) (.tmp 4) 255) 4 false t7_1
theorem x_isNaNU32 : execF prog f254 (fun _ => none) [.v none] = t8_0 := by kernel_rfl

def t9_3 : Tr := .split (.u 3 0) t5_2 t5_4
def t9_12 : Tr := .split (.u 5 0) t5_5 t5_2
def t9_11 : Tr := .need (.prim [(W 0 0), (W 1 0)] none) (.binOp .gtr 3 (.tmp 17) (.tmp 18) 3) 4 false t9_12
def t9_9 : Tr := .split (.u 4 0) t5_4 t9_11
def t9_8 : Tr := .need (.prim [(W 0 0), (W 1 0)] none) (.binOp .lss 3 (.tmp 14) (.tmp 15) 3) 4 false t9_9
def t9_6 : Tr := .split (.u 3 0) t5_5 t9_8
def t9_2 : Tr := .split (.u 2 0) t9_3 t9_6
def t9_1 : Tr := .need (.call 253 [(W 1 0)] [none]) (.call ⟨.value (.func 253), #[(.tmp 9)], #[3]⟩) 4 true t9_2
def t9_0 : Tr := .need (.call 253 [(W 0 0)] [none]) (.call ⟨.value (.func 253), #[(.tmp 7)], #[3]⟩) 4 true t9_1
theorem x_cmpInt : execF prog f198 (fun _ => none) [.v none, .v none] = t9_0 := by kernel_rfl

def t10_11 : Tr := .need (.prim [(W 0 0), (W 1 0)] none) (.binOp .gtr 255 (.tmp 17) (.tmp 18) 255) 4 false t9_12
def t10_9 : Tr := .split (.u 4 0) t5_4 t10_11
def t10_8 : Tr := .need (.prim [(W 0 0), (W 1 0)] none) (.binOp .lss 255 (.tmp 14) (.tmp 15) 255) 4 false t10_9
def t10_6 : Tr := .split (.u 3 0) t5_5 t10_8
def t10_2 : Tr := .split (.u 2 0) t9_3 t10_6
def t10_1 : Tr := .need (.call 254 [(W 1 0)] [none]) (.call ⟨.value (.func 254), #[(.tmp 9)], #[255]⟩) 4 true t10_2
def t10_0 : Tr := .need (.call 254 [(W 0 0)] [none]) (.call ⟨.value (.func 254), #[(.tmp 7)], #[255]⟩) 4 true t10_1
theorem x_cmpU32 : execF prog f199 (fun _ => none) [.v none, .v none] = t10_0 := by kernel_rfl

def t11_5 : Tr := .ret [(W 4 0)]
def t11_18 : Tr := .ret [(W 15 0)]
def t11_20 : Tr := .back 0 [(.w (W 8 0)), (.w (W 17 0))]
def t11_19 : Tr := .need (.prim [(W 9 0), (WK (1))] none) (.binOp .sub 3 (.tmp 24) (.const (I3 (1))) 3) 3 false t11_20
def t11_17 : Tr := .split (.u 16 0) t11_18 t11_19
def t11_16 : Tr := .need (.prim [(W 15 0), (WK (0))] none) (.binOp .neq 3 (.tmp 37) (.const (I3 (0))) 3) 4 false t11_17
def t11_15 : Tr := .need (.call 199 [(W 12 0), (W 14 0)] [none]) (.call ⟨.value (.func 199), #[(.tmp 30), (.tmp 35)], #[255, 255]⟩) 3 true t11_16
def t11_14 : Tr := .need (.prim [(W 13 0)] none) (.load 255 (.tmp 34)) 255 false t11_15
def t11_13 : Tr := .need (.prim [(W 1 0), (W 9 0)] none) (.indexAddr 33 (.tmp 32) (.tmp 33)) 0 false t11_14
def t11_12 : Tr := .need (.prim [(W 11 0)] none) (.load 255 (.tmp 29)) 255 false t11_13
def t11_11 : Tr := .need (.prim [(W 0 0), (W 9 0)] none) (.indexAddr 33 (.tmp 27) (.tmp 28)) 0 false t11_12
def t11_10 : Tr := .split (.u 10 0) t11_11 t5_2
def t11_9 : Tr := .need (.prim [(W 9 0), (WK (0))] none) (.binOp .geq 3 (.tmp 22) (.const (I3 (0))) 3) 4 false t11_10
def t11_8 : Tr := .loop 0 [(.w (WK (0))), (.w (W 7 0))] t11_9
def t11_7 : Tr := .need (.prim [(W 6 0), (WK (1))] none) (.binOp .sub 3 (.tmp 20) (.const (I3 (1))) 3) 3 false t11_8
def t11_6 : Tr := .need (.prim [(W 0 0)] none) (.call ⟨.builtin .len, #[(.tmp 19)], #[33]⟩) 3 false t11_7
def t11_4 : Tr := .split (.u 5 0) t11_5 t11_6
def t11_3 : Tr := .need (.prim [(W 4 0), (WK (0))] none) (.binOp .neq 3 (.tmp 15) (.const (I3 (0))) 3) 4 false t11_4
def t11_2 : Tr := .need (.call 198 [(W 2 0), (W 3 0)] [none]) (.call ⟨.value (.func 198), #[(.tmp 10), (.tmp 13)], #[3, 3]⟩) 3 true t11_3
def t11_1 : Tr := .need (.prim [(W 1 0)] none) (.call ⟨.builtin .len, #[(.tmp 12)], #[33]⟩) 3 false t11_2
def t11_0 : Tr := .need (.prim [(W 0 0)] none) (.call ⟨.builtin .len, #[(.tmp 9)], #[33]⟩) 3 false t11_1
theorem x_against : execF prog f119 (fun _ => none) [.v (some 1), .v (some 1)] = t11_0 := by kernel_rfl

def t12_20 : Tr := .back 0 [(.w (W 19 0)), (.w (W 21 0)), (.row 20)]
def t12_19 : Tr := .need (.prim [(W 7 0), (WK (1))] none) (.binOp .sub 3 (.tmp 19) (.const (I3 (1))) 3) 3 false t12_20
def t12_18 : Tr := .need (.strow 8 1 (.u 7 0) 0 [(.u 17 0)]) (.store 255 (.tmp 41) (.tmp 36)) 0 false t12_19
def t12_17 : Tr := .need (.idx 8 (.u 7 0)) (.indexAddr 33 (.tmp 30) (.tmp 31)) 0 false t12_18
def t12_16 : Tr := .need (.prim [(W 14 0), (W 18 0)] none) (.binOp .rem 254 (.tmp 37) (.tmp 39) 254) 254 false t12_17
def t12_15 : Tr := .need (.prim [(W 1 0)] none) (.convert 255 254 (.tmp 38)) 254 false t12_16
def t12_14 : Tr := .need (.prim [(W 16 0)] none) (.convert 254 255 (.tmp 35)) 255 false t12_15
def t12_13 : Tr := .need (.prim [(W 14 0), (W 15 0)] none) (.binOp .quo 254 (.tmp 32) (.tmp 34) 254) 254 false t12_14
def t12_12 : Tr := .need (.prim [(W 1 0)] none) (.convert 255 254 (.tmp 33)) 254 false t12_13
def t12_11 : Tr := .need (.prim [(W 10 0), (W 13 0)] none) (.binOp .add 254 (.tmp 22) (.tmp 28) 254) 254 false t12_12
def t12_10 : Tr := .need (.prim [(W 12 0)] none) (.convert 255 254 (.tmp 27)) 254 false t12_11
def t12_9 : Tr := .need (.prim [(W 11 0)] none) (.load 255 (.tmp 26)) 255 false t12_10
def t12_8 : Tr := .need (.prim [(W 0 0), (W 7 0)] none) (.indexAddr 33 (.tmp 24) (.tmp 25)) 0 false t12_9
def t12_7 : Tr := .need (.prim [(W 6 0), (.one (.c (.k (.int .u64 (1000000000)))))] none) (.binOp .mul 254 (.tmp 21) (.const (.int .u64 (1000000000))) 254) 254 false t12_8
def t12_23 : Tr := .ret [(.agg [(U 10 0)]), (.agg [(U 11 0)])]
def t12_22 : Tr := .need (.call 195 [(W 6 0)] [(some 1)]) (.call ⟨.value (.func 195), #[(.tmp 44)], #[254]⟩) 35 true t12_23
def t12_21 : Tr := .need (.call 197 [(.one (.c (.sr 1 8)))] [(some 1)]) (.call ⟨.value (.func 197), #[(.tmp 42)], #[33]⟩) 35 false t12_22
def t12_6 : Tr := .split (.u 9 0) t12_7 t12_21
def t12_5 : Tr := .need (.prim [(W 7 0), (WK (0))] none) (.binOp .geq 3 (.tmp 17) (.const (I3 (0))) 3) 4 false t12_6
def t12_4 : Tr := .loop 0 [(.w (.one (.c (.k (.int .u64 (0)))))), (.w (W 5 0)), (.row 3)] t12_5
def t12_3 : Tr := .need (.prim [(W 4 0), (WK (1))] none) (.binOp .sub 3 (.tmp 15) (.const (I3 (1))) 3) 3 false t12_4
def t12_2 : Tr := .need (.prim [(W 0 0)] none) (.call ⟨.builtin .len, #[(.tmp 14)], #[33]⟩) 3 false t12_3
def t12_1 : Tr := .need (.make [(.int .u32 (0))] 4 (.u 2 0) (.u 2 0)) (.makeSlice 33 (.tmp 11) (.tmp 11)) 33 false t12_2
def t12_0 : Tr := .need (.prim [(W 0 0)] none) (.call ⟨.builtin .len, #[(.tmp 10)], #[33]⟩) 3 false t12_1
theorem x_simple : execF prog f250 (fun _ => none) [.v (some 1), .v none] = t12_0 := by kernel_rfl

def t13_6 : Tr := .ret [(W 5 0)]
def t13_5 : Tr := .need (.prim [(W 4 0), (.one (.c (.k (.int .u32 (1)))))] none) (.binOp .eql 255 (.tmp 11) (.const (.int .u32 (1))) 255) 4 false t13_6
def t13_4 : Tr := .need (.prim [(W 3 0)] none) (.load 255 (.tmp 10)) 255 false t13_5
def t13_3 : Tr := .need (.prim [(W 0 0), (WK (0))] none) (.indexAddr 33 (.tmp 9) (.const (I3 (0)))) 0 false t13_4
def t13_7 : Tr := .ret [(.one (.c (.k (.bool false))))]
def t13_2 : Tr := .split (.u 2 0) t13_3 t13_7
def t13_1 : Tr := .need (.prim [(W 1 0), (WK (1))] none) (.binOp .eql 3 (.tmp 5) (.const (I3 (1))) 3) 4 false t13_2
def t13_0 : Tr := .need (.prim [(W 0 0)] none) (.call ⟨.builtin .len, #[(.tmp 4)], #[33]⟩) 3 false t13_1
theorem x_mone : execF prog f192 (fun _ => none) [.v (some 1)] = t13_0 := by kernel_rfl

/-- -1, 0, 1 -/
def cmpI (x y : Int) : Int := if x < y then -1 else if y < x then 1 else 0

theorem d_isNaNInt (x : Int) : Does prog 253 [.one (.int .i64 x)] (.ret [.one (.bool false)]) := by
  refine does_of_vc (args := [.v none]) (ins := [.v (.one (.int .i64 x))]) (hints := fun _ => none) fo (by kernel_rfl) func253 ⟨rfl, trivial⟩ ?_
  rw [x_isNaNInt]
  refine vn p_neq rfl ?_
  refine vret ?_
  show [STy.one (.bool (!decide (x = x)))] = _
  simp
theorem d_cmpInt (x y : Int) : Does prog 198 [.one (.int .i64 x), .one (.int .i64 y)] (.ret [.one (.int .i64 (cmpI x y))]) := by
  refine does_of_vc (args := [.v none, .v none]) (ins := [.v (.one (.int .i64 x)), .v (.one (.int .i64 y))]) (hints := fun _ => none) fo (by kernel_rfl) func198 ⟨rfl, rfl, trivial⟩ ?_
  rw [x_cmpInt]
  refine vcall (d_isNaNInt x) rfl ?_
  refine vcall (d_isNaNInt y) rfl ?_
  refine vsb false rfl (fun h => by cases h) (fun _ => ?_)
  refine vsb false rfl (fun h => by cases h) (fun _ => ?_)
  refine vn p_lss rfl ?_
  refine vs _ rfl (fun h => ?_) (fun h => ?_)
  · refine vret ?_
    rw [cmpI, if_pos h]; rfl
  · refine vn p_gtr rfl ?_
    refine vs _ rfl (fun h2 => ?_) (fun h2 => ?_)
    · refine vret ?_
      rw [cmpI, if_neg h, if_pos h2]; rfl
    · refine vret ?_
      rw [cmpI, if_neg h, if_neg h2]; rfl

theorem d_isNaNU32 (x : Int) : Does prog 254 [.one (.int .u32 x)] (.ret [.one (.bool false)]) := by
  refine does_of_vc (args := [.v none]) (ins := [.v (.one (.int .u32 x))]) (hints := fun _ => none) fo (by kernel_rfl) func254 ⟨rfl, trivial⟩ ?_
  rw [x_isNaNU32]
  refine vn p_neq rfl ?_
  refine vret ?_
  show [STy.one (.bool (!decide (x = x)))] = _
  simp
theorem d_cmpU32 (x y : Int) : Does prog 199 [.one (.int .u32 x), .one (.int .u32 y)] (.ret [.one (.int .i64 (cmpI x y))]) := by
  refine does_of_vc (args := [.v none, .v none]) (ins := [.v (.one (.int .u32 x)), .v (.one (.int .u32 y))]) (hints := fun _ => none) fo (by kernel_rfl) func199 ⟨rfl, rfl, trivial⟩ ?_
  rw [x_cmpU32]
  refine vcall (d_isNaNU32 x) rfl ?_
  refine vcall (d_isNaNU32 y) rfl ?_
  refine vsb false rfl (fun h => by cases h) (fun _ => ?_)
  refine vsb false rfl (fun h => by cases h) (fun _ => ?_)
  refine vn p_lss rfl ?_
  refine vs _ rfl (fun h => ?_) (fun h => ?_)
  · refine vret ?_
    rw [cmpI, if_pos h]; rfl
  · refine vn p_gtr rfl ?_
    refine vs _ rfl (fun h2 => ?_) (fun h2 => ?_)
    · refine vret ?_
      rw [cmpI, if_neg h, if_pos h2]; rfl
    · refine vret ?_
      rw [cmpI, if_neg h, if_neg h2]; rfl

theorem d_isign (z : Int) : Does prog 114 [iT z] (.ret [.one (.int .i64 z.sign)]) := by
  refine does_of_vc (args := [.v (some 2)]) (ins := [.v (iT z)]) (hints := fun _ => none) fo (by kernel_rfl) func114 ⟨rfl, trivial⟩ ?_
  rw [x_isign]
  refine vcall (d_zero z.natAbs) rfl ?_
  refine vs _ rfl (fun h => ?_) (fun h => ?_)
  · refine vret ?_
    have : z.sign = 0 := by rw [Int.sign_eq_zero_iff_zero]; omega
    rw [this]; rfl
  · refine vs _ rfl (fun h2 => ?_) (fun h2 => ?_)
    · refine vret ?_
      rw [Int.sign_eq_neg_one_of_neg h2]; rfl
    · refine vret ?_
      rw [Int.sign_eq_one_of_pos (by omega)]; rfl

/-- lists of digits compare as their values do -/
theorem lv_lt_of_top {xs ys : List Nat} (hx : Dg xs) (hlen : xs.length = ys.length) {i x y : Nat} (hi : xs[i]? = some x) (hj : ys[i]? = some y) (hd : xs.drop (i + 1) = ys.drop (i + 1)) (hxy : x < y) : lv xs < lv ys := by
  have hil : i < xs.length := (List.getElem?_eq_some_iff.1 hi).1
  have e1 : lv xs = lv (xs.take (i + 1)) + 1000000000 ^ (i + 1) * lv (xs.drop (i + 1)) := by
    conv => lhs; rw [← List.take_append_drop (i + 1) xs]
    rw [lv_append, List.length_take, Nat.min_eq_left (by omega)]
  have e2 : lv ys = lv (ys.take (i + 1)) + 1000000000 ^ (i + 1) * lv (ys.drop (i + 1)) := by
    conv => lhs; rw [← List.take_append_drop (i + 1) ys]
    rw [lv_append, List.length_take, Nat.min_eq_left (by omega)]
  rw [e1, e2, hd, lv_take_succ hi, lv_take_succ hj]
  have h1 : lv (xs.take i) < 1000000000 ^ i := by
    have := val_lt (B := 1000000000) (by omega) (xs.take i) (hx.take i)
    rw [List.length_take, Nat.min_eq_left (by omega)] at this
    exact this
  have h2 : 1000000000 ^ i * (x + 1) ≤ 1000000000 ^ i * y := Nat.mul_le_mul_left _ hxy
  rw [Nat.mul_add, Nat.mul_one] at h2
  omega
theorem lv_lt_of_len {a b : Nat} (h : (dg a).length < (dg b).length) : a < b := by
  have hb : b ≠ 0 := by rintro rfl; rw [show dg 0 = [] from digs_zero _] at h; simp at h
  have h1 := lt_pow_digs (B := 1000000000) (by omega) a
  have h2 := pow_le_of_digs_length (B := 1000000000) (by omega) hb
  have h3 : 1000000000 ^ (dg a).length ≤ 1000000000 ^ ((dg b).length - 1) := Nat.pow_le_pow_right (by omega) (by omega)
  exact Nat.lt_of_lt_of_le h1 (Nat.le_trans h3 h2)

theorem cmpI_lt {a b : Int} (h : a < b) : cmpI a b = -1 := if_pos h
theorem cmpI_gt {a b : Int} (h : b < a) : cmpI a b = 1 := by rw [cmpI, if_neg (by omega), if_pos h]
theorem cmpI_eq (a : Int) : cmpI a a = 0 := by rw [cmpI, if_neg (by omega), if_neg (by omega)]
theorem cmpI_zero {a b : Int} : cmpI a b = 0 ↔ a = b := by
  unfold cmpI; constructor
  · intro h; split at h
    · cases h
    · split at h
      · cases h
      · omega
  · rintro rfl; simp

theorem d_against (a b : Nat) (hs : (dg a).length + (dg b).length < 1099511627776) : Does prog 119 [mT a, mT b] (.ret [.one (.int .i64 (cmpI a b))]) := by
  refine does_of_vc (args := [.v (some 1), .v (some 1)]) (ins := [.v (mT a), .v (mT b)]) (hints := fun _ => none) fo (by kernel_rfl) func119 ⟨rfl, rfl, trivial⟩ ?_
  rw [x_against]
  dsimp only [List.map, In.env]
  refine vn (p_len el33 rT_len) rfl ?_
  dsimp only [c_a, n_a]
  refine vn (p_len el33 rT_len) rfl ?_
  dsimp only [c_a, n_a]
  refine vcall (d_cmpInt _ _) rfl ?_
  dsimp only [c_a, n_a]
  refine vn p_neq rfl ?_
  dsimp only [c_a, n_a]
  refine vsb (!decide (cmpI ((dg a).length : Int) ((dg b).length : Int) = 0)) rfl (fun h => ?_) (fun h => ?_)
  · refine vret ?_
    have hne : ¬ cmpI ((dg a).length : Int) ((dg b).length : Int) = 0 := by simpa using h
    have : cmpI ((dg a).length : Int) ((dg b).length : Int) = cmpI a b := by
      rcases Nat.lt_trichotomy (dg a).length (dg b).length with hl | hl | hl
      · rw [cmpI_lt (by omega), cmpI_lt (by have := lv_lt_of_len hl; omega)]
      · rw [hl] at hne; exact absurd (cmpI_eq _) hne
      · rw [cmpI_gt (by omega), cmpI_gt (by have := lv_lt_of_len hl; omega)]
    rw [← this]; rfl
  · have he : (dg a).length = (dg b).length := by
      have : cmpI ((dg a).length : Int) ((dg b).length : Int) = 0 := by simpa using h
      have := cmpI_zero.1 this
      omega
    refine vn (p_len el33 rT_len) rfl ?_
    dsimp only [c_a, n_a]
    refine vn (p_sub (c := ((dg a).length : Int) - 1) (by rw [wi64] <;> omega)) rfl ?_
    dsimp only [c_a, n_a]
    refine vloop {n : Nat // n ≤ (dg a).length ∧ (dg a).drop n = (dg b).drop n} (fun g => [.one (.int .i64 0), .one (.int .i64 ((g.1 : Int) - 1))]) (fun g => g.1) ⟨(dg a).length, Nat.le_refl _, by rw [List.drop_length, he, List.drop_length]⟩ SubL.rfl (fun _ => rfl) ?_
    rintro ⟨n, hn, hdr⟩
    dsimp only [c_a, n_a]
    refine vn p_geq rfl ?_
    dsimp only [c_a, n_a]
    refine vs _ rfl (fun h1 => ?_) (fun h1 => ?_)
    · have hla : n - 1 < (dg a).length := by omega
      have hlb : n - 1 < (dg b).length := by omega
      have hga : (dg a)[n - 1]? = some ((dg a)[n - 1]'hla) := List.getElem?_eq_getElem hla
      have hgb : (dg b)[n - 1]? = some ((dg b)[n - 1]'hlb) := List.getElem?_eq_getElem hlb
      generalize hxe : (dg a)[n - 1]'hla = x at hga
      generalize hye : (dg b)[n - 1]'hlb = y at hgb
      have htn : ((n : Int) - 1).toNat = n - 1 := by omega
      have hdr' : (dg a).drop (n - 1 + 1) = (dg b).drop (n - 1 + 1) := by rw [show n - 1 + 1 = n by omega]; exact hdr
      refine vn (p_at el33 (by omega) (by rw [htn]; exact hga)) rfl ?_
      dsimp only [c_a, n_a]
      refine vn p_ld rfl ?_
      dsimp only [c_a, n_a]
      refine vn (p_at el33 (by omega) (by rw [htn]; exact hgb)) rfl ?_
      dsimp only [c_a, n_a]
      refine vn p_ld rfl ?_
      dsimp only [c_a, n_a]
      refine vcall (d_cmpU32 _ _) rfl ?_
      dsimp only [c_a, n_a]
      refine vn p_neq rfl ?_
      dsimp only [c_a, n_a]
      refine vsb (!decide (cmpI (x : Int) (y : Int) = 0)) rfl (fun h2 => ?_) (fun h2 => ?_)
      · refine vret ?_
        have hne : ¬ cmpI (x : Int) (y : Int) = 0 := by simpa using h2
        have : cmpI (x : Int) (y : Int) = cmpI a b := by
          rcases Nat.lt_trichotomy x y with hl | hl | hl
          · have := lv_lt_of_top (dg_dg a) he hga hgb hdr' hl
            rw [lv_dg, lv_dg] at this
            rw [cmpI_lt (by omega), cmpI_lt (by omega)]
          · subst hl; exact absurd (cmpI_eq _) hne
          · have := lv_lt_of_top (dg_dg b) he.symm hgb hga hdr'.symm hl
            rw [lv_dg, lv_dg] at this
            rw [cmpI_gt (by omega), cmpI_gt (by omega)]
        rw [← this]; rfl
      · have hxy : x = y := by
          have : cmpI (x : Int) (y : Int) = 0 := by simpa using h2
          have := cmpI_zero.1 this
          omega
        refine vn (p_sub (c := ((n - 1 : Nat) : Int) - 1) (by rw [wi64] <;> omega)) rfl ?_
        dsimp only [c_a, n_a]
        refine vback rfl ⟨⟨n - 1, by omega, ?_⟩, SubL.rfl, by show n - 1 < n; omega⟩
        rw [List.drop_eq_getElem_cons hla, List.drop_eq_getElem_cons hlb, hxe, hye, hxy, hdr']
    · have hn0 : n = 0 := by omega
      subst hn0
      refine vret ?_
      rw [List.drop_zero, List.drop_zero] at hdr
      have : a = b := by have := congrArg lv hdr; rwa [lv_dg, lv_dg] at this
      subst this
      exact congrArg (fun x => [STy.one (CTy.int .i64 x)]) (cmpI_eq (a : Int)).symm
end Go.Sy
namespace Go.Sy
open Go Go.Proofs Tryz Ord

theorem lv_drop {xs : List Nat} {i x : Nat} (h : xs[i]? = some x) : lv (xs.drop i) = x + 1000000000 * lv (xs.drop (i + 1)) := by
  have hi : i < xs.length := (List.getElem?_eq_some_iff.1 h).1
  rw [List.drop_eq_getElem_cons hi, (List.getElem?_eq_some_iff.1 h).2]; rfl

structure SInv (xs : List Nat) (d n r : Nat) (os : List Nat) : Prop where
  le : n ≤ xs.length
  len : os.length = xs.length
  dg : Dg os
  r1 : r < d
  eq : lv (os.drop n) * d + r = lv (xs.drop n)
theorem SInv.init (xs : List Nat) {d : Nat} (hd : 0 < d) : SInv xs d xs.length 0 (List.replicate xs.length 0) := ⟨Nat.le_refl _, by simp, Dg.rep _, hd, by simp [lv, val]⟩
theorem SInv.next {xs os : List Nat} {d n r x : Nat} (h : SInv xs d (n + 1) r os) (hd : d < 1000000000) (hx : xs[n]? = some x) (hx1 : x < 1000000000) : SInv xs d n ((r * 1000000000 + x) % d) (os.set n ((r * 1000000000 + x) / d)) := by
  have hd0 : 0 < d := by have := h.r1; omega
  have hq : (r * 1000000000 + x) / d < 1000000000 := by
    rw [Nat.div_lt_iff_lt_mul hd0]
    have h1 := h.r1
    have : (r + 1) * 1000000000 ≤ d * 1000000000 := Nat.mul_le_mul_right _ h1
    rw [Nat.add_mul] at this
    rw [Nat.mul_comm 1000000000 d]
    omega
  have hl := h.le
  have hlen := h.len
  refine ⟨by omega, by rw [List.length_set]; exact hlen, h.dg.set hq, Nat.mod_lt _ hd0, ?_⟩
  have hs : (os.set n ((r * 1000000000 + x) / d))[n]? = some ((r * 1000000000 + x) / d) := by
    rw [List.getElem?_set_self (by omega)]
  rw [lv_drop hs, lv_drop hx, List.drop_set_of_lt (by omega), ← h.eq]
  have h1 := Nat.div_add_mod (r * 1000000000 + x) d
  rw [Nat.mul_comm d] at h1
  simp only [Nat.add_mul, Nat.mul_add, Nat.mul_assoc]
  omega

theorem SInv.fin {xs os : List Nat} {d r : Nat} (h : SInv xs d 0 r os) : lv os = lv xs / d ∧ r = lv xs % d := by
  have h1 := h.eq
  rw [List.drop_zero, List.drop_zero] at h1
  have h2 := h.r1
  have e : lv xs = r + d * lv os := by rw [← h1, Nat.mul_comm]; omega
  constructor
  · rw [e, Nat.add_mul_div_left _ _ (by omega), Nat.div_eq_of_lt h2, Nat.zero_add]
  · rw [e, Nat.add_mul_mod_self_left, Nat.mod_eq_of_lt h2]

theorem d_simple (a d : Nat) (hd0 : 0 < d) (hd : d < 1000000000) (hs : (dg a).length < 1099511627776) : Does prog 250 [mT a, .one (.int .u32 d)] (.ret [mT (a / d), mT (a % d)]) := by
  refine does_of_vc (args := [.v (some 1), .v none]) (ins := [.v (mT a), .v (.one (.int .u32 d))]) (hints := fun _ => none) fo (by kernel_rfl) func250 ⟨rfl, rfl, trivial⟩ ?_
  rw [x_simple]
  dsimp only [List.map, In.env]
  refine vn (p_len el33 rT_len) rfl ?_
  dsimp only [c_a, n_a]
  refine vmake (n := (dg a).length) (m := (dg a).length) rfl rfl rT_rep (Nat.le_refl _) (by omega) (by simp [maxLen]; omega) ?_
  dsimp only [c_a, n_a]
  refine vn (p_len el33 rT_len) rfl ?_
  dsimp only [c_a, n_a]
  refine vn (p_sub (c := ((dg a).length : Int) - 1) (by rw [wi64] <;> omega)) rfl ?_
  dsimp only [c_a, n_a]
  refine vloop {g : Nat × Nat × List Nat // SInv (dg a) d g.1 g.2.1 g.2.2} (fun g => [.one (.int .u64 g.1.2.1), .one (.int .i64 ((g.1.1 : Int) - 1)), .rows (rT g.1.2.2)]) (fun g => g.1.1) ⟨((dg a).length, 0, List.replicate (dg a).length 0), SInv.init _ hd0⟩ SubL.rfl (fun _ => rfl) ?_
  rintro ⟨⟨n, r, os⟩, hI⟩
  dsimp only [c_a, n_a] at hI ⊢
  have hr1 := hI.r1
  have hln := hI.le
  refine vn p_geq rfl ?_
  dsimp only [c_a, n_a]
  refine vs _ rfl (fun h1 => ?_) (fun h1 => ?_)
  · obtain ⟨m, rfl⟩ : ∃ m, n = m + 1 := ⟨n - 1, by omega⟩
    have hlt : m < (dg a).length := by omega
    have hget : (dg a)[m]? = some ((dg a)[m]'hlt) := List.getElem?_eq_getElem hlt
    generalize (dg a)[m]'hlt = x at hget
    have hx := (dg_dg a).get hget
    have hol : m < os.length := by rw [hI.len]; omega
    have hok : os[m]? = some (os[m]'hol) := List.getElem?_eq_getElem hol
    have htn : (((m + 1 : Nat) : Int) - 1).toNat = m := by omega
    refine vn (p_mul (c := ((r * 1000000000 : Nat) : Int)) (by rw [wu64] <;> omega)) rfl ?_
    dsimp only [c_a, n_a]
    refine vn (p_at el33 (by omega) (by rw [htn]; exact hget)) rfl ?_
    dsimp only [c_a, n_a]
    refine vn p_ld rfl ?_
    dsimp only [c_a, n_a]
    refine vn (p_conv ⟨_, un255⟩ un254 (c := (x : Int)) (by rw [wu64] <;> omega)) rfl ?_
    dsimp only [c_a, n_a]
    refine vn (p_add (c := ((r * 1000000000 + x : Nat) : Int)) (by rw [wu64] <;> omega)) rfl ?_
    dsimp only [c_a, n_a]
    have hN := hI.next hd hget hx
    have hqd := hN.dg.get (i := m) (d := (r * 1000000000 + x) / d) (List.getElem?_set_self (by omega))
    have hrd := hN.r1
    generalize hw : r * 1000000000 + x = w at hN hqd hrd ⊢
    generalize hq : w / d = q at hN hqd
    generalize hm : w % d = rr at hN hrd
    refine vn (p_conv ⟨_, un255⟩ un254 (c := (d : Int)) (by rw [wu64] <;> omega)) rfl ?_
    dsimp only [c_a, n_a]
    refine vn (p_quo (c := (q : Int)) (by omega) (by rw [Int.tdiv_eq_ediv_of_nonneg (by omega), ← Int.natCast_ediv, hq, wu64] <;> omega)) rfl ?_
    dsimp only [c_a, n_a]
    refine vn (p_conv ⟨_, un254⟩ un255 (c := (q : Int)) (by rw [wu32] <;> omega)) rfl ?_
    dsimp only [c_a, n_a]
    refine vn (p_conv ⟨_, un255⟩ un254 (c := (d : Int)) (by rw [wu64] <;> omega)) rfl ?_
    dsimp only [c_a, n_a]
    refine vn (p_rem (c := (rr : Int)) (by omega) (by rw [Int.tmod_eq_emod_of_nonneg (by omega), ← Int.natCast_emod, hm])) rfl ?_
    dsimp only [c_a, n_a]
    refine vidx (ts := rT os) rfl rfl (by omega) (by rw [rT_len]; omega) ?_
    refine vst (ts := rT os) (us := rT (os.set m q)) rfl rfl (by omega) (rT_get (by rw [htn]; exact hok)) (by rw [htn]; exact rT_set) ?_
    dsimp only [c_a, n_a]
    refine vn (p_sub (c := (m : Int) - 1) (by rw [wi64] <;> omega)) rfl ?_
    dsimp only [c_a, n_a]
    exact vback rfl ⟨⟨(m, rr, os.set m q), hN⟩, SubL.rfl, by show m < m + 1; omega⟩
  · have hn0 : n = 0 := by omega
    subst hn0
    obtain ⟨hf1, hf2⟩ := hI.fin
    rw [lv_dg] at hf1 hf2
    refine vcall (d_trimmed os hI.dg (by rw [hI.len]; omega)) rfl ?_
    dsimp only [c_a, n_a]
    refine vcall (d_small r (by omega)) rfl ?_
    dsimp only [c_a, n_a]
    refine vret ?_
    rw [hf1, ← hf2]
    rfl
end Go.Sy
