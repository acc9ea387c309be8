/- Cases in both ways.
-/
import Derived.Test.YtdmcadckdnnglaaGreatDoorOb
set_option linter.unusedVariables false
set_option linter.unusedSimpArgs false
namespace Go.Sy
open Go Go.Proofs Tryz Ord

def t102_13 : Tr := .back 0 [(.w (W 15 0)), (.row 11), (.row 14)]
def t102_12 : Tr := .need (.prim [(W 1 0), (WK (1))] none) (.binOp .add 3 (.tmp 17) (.const (I3 (1))) 3) 3 false t102_13
def t102_11 : Tr := .need (.app 1 24 (some 3) none (some 13)) (.call ⟨.builtin .append, #[(.tmp 32), (.tmp 35)], #[44, 44]⟩) 44 false t102_12
def t102_10 : Tr := .need (.lit 1 [[(.u 12 0)]]) (.buildSlice 44 1 #[(0, (.tmp 34))]) 44 false t102_11
def t102_9 : Tr := .need (.call 144 [(W 9 0)] [none]) (.call ⟨.value (.func 144), #[(.tmp 33)], #[167]⟩) 167 false t102_10
def t102_8 : Tr := .need (.app 1 24 (some 2) none (some 10)) (.call ⟨.builtin .append, #[(.tmp 28), (.tmp 30)], #[32, 32]⟩) 32 false t102_9
def t102_7 : Tr := .need (.lit 1 [[(.u 8 0)]]) (.buildSlice 32 1 #[(0, (.tmp 29))]) 32 false t102_8
def t102_6 : Tr := .need (.call 71 [(W 7 0)] [none, none]) (.call ⟨.value (.func 71), #[(.tmp 24)], #[27]⟩) 128 false t102_7
def t102_5 : Tr := .need (.prim [(W 6 0)] none) (.load 27 (.tmp 23)) 27 false t102_6
def t102_4 : Tr := .need (.prim [(W 0 0), (W 1 0)] none) (.indexAddr 22 (.tmp 21) (.tmp 22)) 0 false t102_5
def t102_32 : Tr := .ret [(.one (.c (.sr 1 18))), (.one (.c (.sr 1 20)))]
def t102_31 : Tr := .need (.app 1 24 (some 3) none (some 19)) (.call ⟨.builtin .append, #[(.tmp 62), (.tmp 64)], #[44, 44]⟩) 44 false t102_32
def t102_30 : Tr := .need (.lit 1 [[(.sr 4 16)]]) (.buildSlice 44 1 #[(0, (.tmp 63))]) 44 false t102_31
def t102_29 : Tr := .need (.app 1 24 (some 2) none (some 17)) (.call ⟨.builtin .append, #[(.tmp 58), (.tmp 60)], #[32, 32]⟩) 32 false t102_30
def t102_28 : Tr := .need (.lit 1 [[(.sr 3 15)]]) (.buildSlice 32 1 #[(0, (.tmp 59))]) 32 false t102_29
def t102_27 : Tr := .need (.strow 10 4 (.u 12 0) 0 [(.u 14 0), (.u 14 1), (.u 14 2), (.u 14 3)]) (.store 49 (.tmp 57) (.tmp 55)) 0 false t102_28
def t102_26 : Tr := .need (.idx 10 (.u 12 0)) (.indexAddr 50 (.tmp 51) (.tmp 53)) 0 false t102_27
def t102_25 : Tr := .need (.strow 9 3 (.u 11 0) 0 [(.u 13 0), (.u 13 1), (.u 13 2)]) (.store 39 (.tmp 56) (.tmp 54)) 0 false t102_26
def t102_24 : Tr := .need (.idx 9 (.u 11 0)) (.indexAddr 40 (.tmp 48) (.tmp 50)) 0 false t102_25
def t102_23 : Tr := .need (.call 50 [(WK (1))] [(some 4)]) (.call ⟨.value (.func 50), #[(.const (I3 (1)))], #[2]⟩) 49 true t102_24
def t102_22 : Tr := .need (.call 68 [(WK (1))] [(some 3)]) (.call ⟨.value (.func 68), #[(.const (I3 (1)))], #[2]⟩) 39 true t102_23
def t102_21 : Tr := .need (.prim [(W 8 0), (WK (1))] none) (.binOp .sub 3 (.tmp 52) (.const (I3 (1))) 3) 3 false t102_22
def t102_20 : Tr := .need (.prim [(W 8 0), (WK (1))] none) (.binOp .sub 3 (.tmp 49) (.const (I3 (1))) 3) 3 false t102_21
def t102_19 : Tr := .need (.make [(.int .i64 (0)), (.slice none 0 0), (.int .i64 (0)), (.slice none 0 0)] 64 (.u 8 0) (.u 8 0)) (.makeSlice 50 (.tmp 46) (.tmp 46)) 50 false t102_20
def t102_18 : Tr := .need (.make [(.slice none 0 0), (.bool false), (.slice none 0 0)] 56 (.u 8 0) (.u 8 0)) (.makeSlice 40 (.tmp 44) (.tmp 44)) 40 false t102_19
def t102_17 : Tr := .need (.prim [(W 7 0), (WK (1))] none) (.binOp .add 3 (.tmp 42) (.const (I3 (1))) 3) 3 false t102_18
def t102_16 : Tr := .need (.prim [(W 0 1), (WK (50))] none) (.binOp .rem 3 (.tmp 41) (.const (I3 (50))) 3) 3 false t102_17
def t102_33 : Tr := .ret [(.one (.c (.sr 1 2))), (.one (.c (.sr 1 3)))]
def t102_15 : Tr := .split (.u 6 0) t102_16 t102_33
def t102_14 : Tr := .need (.prim [(W 0 1), (WK (0))] none) (.binOp .gtr 3 (.tmp 38) (.const (I3 (0))) 3) 4 false t102_15
def t102_3 : Tr := .split (.u 5 0) t102_4 t102_14
def t102_2 : Tr := .need (.prim [(W 1 0), (W 4 0)] none) (.binOp .lss 3 (.tmp 12) (.tmp 15) 3) 4 false t102_3
def t102_1 : Tr := .need (.prim [(W 0 0)] none) (.call ⟨.builtin .len, #[(.tmp 14)], #[22]⟩) 3 false t102_2
def t102_0 : Tr := .loop 0 [(.w (WK (0))), .nilrow, .nilrow] t102_1
theorem x_LBothRule : execF prog f57 (fun _ => none) [.v (some 2)] = t102_0 := by kernel_rfl
def t103_9 : Tr := .ret [(.agg [(U 6 0), (U 6 1), (U 6 2), (U 6 3), (U 6 4)]), (.agg [(U 8 0), (U 8 1), (U 8 2), (U 8 3), (U 8 4), (U 8 5)])]
def t103_8 : Tr := .need (.call 25 [(W 5 0), (WK (2))] [(some 6)]) (.call ⟨.value (.func 25), #[(.tmp 37), (.tmp 38)], #[5, 3]⟩) 52 true t103_9
def t103_7 : Tr := .need (.call 18 [(W 5 0), (WK (2))] [(some 5), none]) (.call ⟨.value (.func 18), #[(.tmp 31), (.tmp 32)], #[5, 3]⟩) 56 false t103_8
def t103_6 : Tr := .need (.prim [(W 4 0), (.one (.c (.k (.int .u8 (1)))))] none) (.binOp .add 5 (.tmp 28) (.const (.int .u8 (1))) 5) 5 false t103_7
def t103_5 : Tr := .need (.prim [(W 3 0), (.one (.c (.k (.int .u8 (8)))))] none) (.binOp .rem 5 (.tmp 27) (.const (.int .u8 (8))) 5) 5 false t103_6
def t103_4 : Tr := .need (.prim [(W 0 6), (.one (.c (.k (.int .u8 (1)))))] none) (.binOp .sub 5 (.tmp 26) (.const (.int .u8 (1))) 5) 5 false t103_5
def t103_17 : Tr := .ret [(.agg [(U 7 0), (U 7 1), (U 7 2), (U 7 3), (U 7 4)]), (.agg [(U 9 0), (U 9 1), (U 9 2), (U 9 3), (U 9 4), (U 9 5)])]
def t103_16 : Tr := .need (.call 25 [(W 6 0), (WK (2))] [(some 6)]) (.call ⟨.value (.func 25), #[(.tmp 37), (.tmp 38)], #[5, 3]⟩) 52 true t103_17
def t103_15 : Tr := .need (.call 18 [(W 6 0), (WK (2))] [(some 5), none]) (.call ⟨.value (.func 18), #[(.tmp 31), (.tmp 32)], #[5, 3]⟩) 56 false t103_16
def t103_14 : Tr := .need (.prim [(W 5 0), (.one (.c (.k (.int .u8 (1)))))] none) (.binOp .add 5 (.tmp 28) (.const (.int .u8 (1))) 5) 5 false t103_15
def t103_13 : Tr := .need (.prim [(W 4 0), (.one (.c (.k (.int .u8 (8)))))] none) (.binOp .rem 5 (.tmp 27) (.const (.int .u8 (8))) 5) 5 false t103_14
def t103_12 : Tr := .need (.prim [(W 0 6), (.one (.c (.k (.int .u8 (1)))))] none) (.binOp .sub 5 (.tmp 26) (.const (.int .u8 (1))) 5) 5 false t103_13
def t103_22 : Tr := .need (.call 25 [(W 6 0), (W 0 7)] [(some 6)]) (.call ⟨.value (.func 25), #[(.tmp 37), (.tmp 38)], #[5, 3]⟩) 52 true t103_17
def t103_21 : Tr := .need (.call 18 [(W 6 0), (W 0 7)] [(some 5), none]) (.call ⟨.value (.func 18), #[(.tmp 31), (.tmp 32)], #[5, 3]⟩) 56 false t103_22
def t103_20 : Tr := .need (.prim [(W 5 0), (.one (.c (.k (.int .u8 (1)))))] none) (.binOp .add 5 (.tmp 28) (.const (.int .u8 (1))) 5) 5 false t103_21
def t103_19 : Tr := .need (.prim [(W 4 0), (.one (.c (.k (.int .u8 (8)))))] none) (.binOp .rem 5 (.tmp 27) (.const (.int .u8 (8))) 5) 5 false t103_20
def t103_18 : Tr := .need (.prim [(W 0 6), (.one (.c (.k (.int .u8 (1)))))] none) (.binOp .sub 5 (.tmp 26) (.const (.int .u8 (1))) 5) 5 false t103_19
def t103_11 : Tr := .split (.u 3 0) t103_12 t103_18
def t103_10 : Tr := .need (.prim [(W 0 7), (WK (8))] none) (.binOp .gtr 3 (.tmp 22) (.const (I3 (8))) 3) 4 false t103_11
def t103_3 : Tr := .split (.u 2 0) t103_4 t103_10
def t103_2 : Tr := .need (.prim [(W 0 7), (WK (0))] none) (.binOp .lss 3 (.tmp 19) (.const (I3 (0))) 3) 4 false t103_3
def t103_27 : Tr := .ret [(.agg [(U 2 0), (U 4 0), (U 4 1), (U 4 2), (U 6 0)]), (.agg [(U 3 0), (U 5 0), (U 5 1), (U 5 2), (U 5 3), (U 7 0)])]
def t103_26 : Tr := .need (.call 71 [(W 0 5)] [none, none]) (.call ⟨.value (.func 71), #[(.tmp 54)], #[27]⟩) 128 false t103_27
def t103_25 : Tr := .need (.call 40 [(.agg [(U 0 2), (U 0 3), (U 0 4)])] [(some 3), (some 4)]) (.call ⟨.value (.func 40), #[(.tmp 48)], #[26]⟩) 82 false t103_26
def t103_24 : Tr := .need (.call 57 [(.agg [(U 0 0), (U 0 1)])] [none, none]) (.call ⟨.value (.func 57), #[(.tmp 42)], #[24]⟩) 107 false t103_25
def t103_1 : Tr := .split (.u 1 0) t103_2 t103_24
def t103_0 : Tr := .need (.prim [(W 0 6), (.one (.c (.k (.int .u8 (0)))))] none) (.binOp .gtr 5 (.tmp 15) (.const (.int .u8 (0))) 5) 4 false t103_1
theorem x_LBoth : execF prog f17 (fun _ => none) [.v (some 8)] = t103_0 := by kernel_rfl
def t104_7 : Tr := .ret [(W 6 0)]
def t104_6 : Tr := .need (.prim [(W 5 0), (WK (0))] none) (.binOp .eql 3 (.tmp 14) (.const (I3 (0))) 3) 4 false t104_7
def t104_5 : Tr := .need (.call 35 [(.agg [(U 0 1), (U 0 2), (U 0 3)])] [none]) (.call ⟨.value (.func 35), #[(.tmp 13)], #[39]⟩) 3 false t104_6
def t104_8 : Tr := .ret [(.one (.c (.k (.bool false))))]
def t104_4 : Tr := .split (.u 4 0) t104_5 t104_8
def t104_3 : Tr := .need (.prim [(W 3 0), (WK (0))] none) (.binOp .eql 3 (.tmp 9) (.const (I3 (0))) 3) 4 false t104_4
def t104_2 : Tr := .need (.prim [(W 1 0), (W 2 0)] none) (.binOp .add 3 (.tmp 5) (.tmp 8) 3) 3 false t104_3
def t104_1 : Tr := .need (.prim [(W 0 4)] none) (.call ⟨.builtin .len, #[(.tmp 7)], #[40]⟩) 3 false t104_2
def t104_0 : Tr := .need (.prim [(W 0 0)] none) (.call ⟨.builtin .len, #[(.tmp 4)], #[32]⟩) 3 false t104_1
theorem x_Lnothing : execF prog f23 (fun _ => none) [.v (some 5)] = t104_0 := by kernel_rfl
def t105_19 : Tr := .back 0 [(.w (W 5 0)), (.w (W 16 0))]
def t105_18 : Tr := .need (.prim [(W 6 0), (WK (1))] none) (.binOp .add 3 (.tmp 15) (.const (I3 (1))) 3) 3 false t105_19
def t105_16 : Tr := .split (.u 15 0) t104_8 t105_18
def t105_15 : Tr := .need (.prim [(W 14 0)] none) (.unOp .not 4 (.tmp 26)) 4 false t105_16
def t105_14 : Tr := .need (.call 27 [(W 11 0), (W 13 0)] [none]) (.call ⟨.value (.func 27), #[(.tmp 21), (.tmp 25)], #[40, 50]⟩) 4 true t105_15
def t105_13 : Tr := .need (.prim [(W 12 0)] none) (.load 167 (.tmp 24)) 167 false t105_14
def t105_12 : Tr := .need (.prim [(W 1 0), (W 6 0)] none) (.indexAddr 44 (.tmp 22) (.tmp 23)) 0 false t105_13
def t105_11 : Tr := .need (.call 34 [(W 10 0)] [none]) (.call ⟨.value (.func 34), #[(.tmp 20)], #[72]⟩) 72 false t105_12
def t105_10 : Tr := .need (.prim [(W 9 0)] none) (.load 72 (.tmp 19)) 72 false t105_11
def t105_9 : Tr := .need (.prim [(W 0 0), (W 6 0)] none) (.indexAddr 32 (.tmp 17) (.tmp 18)) 0 false t105_10
def t105_20 : Tr := .ret [(.one (.c (.k (.bool true))))]
def t105_8 : Tr := .split (.u 8 0) t105_9 t105_20
def t105_7 : Tr := .need (.prim [(W 6 0), (W 7 0)] none) (.binOp .lss 3 (.tmp 11) (.tmp 13) 3) 4 false t105_8
def t105_6 : Tr := .need (.prim [(W 0 0)] none) (.call ⟨.builtin .len, #[(.tmp 12)], #[32]⟩) 3 false t105_7
def t105_5 : Tr := .loop 0 [(.w (.one (.c (.k (.bool false))))), (.w (WK (0)))] t105_6
def t105_3 : Tr := .split (.u 4 0) t104_8 t105_5
def t105_2 : Tr := .need (.prim [(W 2 0), (W 3 0)] none) (.binOp .neq 3 (.tmp 7) (.tmp 9) 3) 4 false t105_3
def t105_1 : Tr := .need (.prim [(W 1 0)] none) (.call ⟨.builtin .len, #[(.tmp 8)], #[44]⟩) 3 false t105_2
def t105_0 : Tr := .need (.prim [(W 0 0)] none) (.call ⟨.builtin .len, #[(.tmp 6)], #[32]⟩) 3 false t105_1
theorem x_Lequation : execF prog f98 (fun _ => none) [.v none, .v none] = t105_0 := by kernel_rfl
def t106_5 : Tr := .ret [(W 4 0)]
def t106_4 : Tr := .need (.call 27 [(W 0 4), (W 1 5)] [none]) (.call ⟨.value (.func 27), #[(.tmp 19), (.tmp 21)], #[40, 50]⟩) 4 true t106_5
def t106_3 : Tr := .split (.u 3 0) t106_4 t104_8
def t106_2 : Tr := .need (.call 44 [(.agg [(U 0 1), (U 0 2), (U 0 3)]), (.agg [(U 1 1), (U 1 2), (U 1 3), (U 1 4)])] [none]) (.call ⟨.value (.func 44), #[(.tmp 12), (.tmp 14)], #[39, 49]⟩) 4 false t106_3
def t106_1 : Tr := .split (.u 2 0) t106_2 t104_8
def t106_0 : Tr := .need (.call 98 [(W 0 0), (W 1 0)] [none]) (.call ⟨.value (.func 98), #[(.tmp 6), (.tmp 8)], #[32, 44]⟩) 4 false t106_1
theorem x_Lfunction : execF prog f24 (fun _ => none) [.v (some 5), .v (some 6)] = t106_0 := by kernel_rfl

def longQ (n : Nat) : List Rat := (List.replicate n (0 : Rat)).set (n - 1) 1
def longR (n : Nat) : List RQ := (List.replicate n RQ.nil).set (n - 1) (.of 1)
def eRat (p : List (List NumD)) (long : Int) : List (List Rat) := p.map vals ++ if 0 < long then [longQ (long % 50 + 1).toNat] else []
def eRQ (p : List (List NumD)) (long : Int) : List (List RQ) := p.map (fun l => trimR (valsR l)) ++ if 0 < long then [longR (long % 50 + 1).toNat] else []

theorem all2_rep {α β : Type} {R : α → β → Prop} {a : α} {b : β} (h : R a b) : ∀ n, All2 R (List.replicate n a) (List.replicate n b)
  | 0 => trivial
  | n + 1 => ⟨h, all2_rep h n⟩
theorem all2_set {α β : Type} {R : α → β → Prop} {a : α} {b : β} (h : R a b) : ∀ {xs : List α} {ys : List β} (m : Nat), All2 R xs ys → All2 R (xs.set m a) (ys.set m b)
  | [], [], _, _ => trivial
  | _ :: _, _ :: _, 0, ⟨_, k⟩ => ⟨h, k⟩
  | _ :: _, _ :: _, m + 1, ⟨j, k⟩ => ⟨j, all2_set h m k⟩
  | [], _ :: _, _, k => k.elim
  | _ :: _, [], _, k => k.elim
abbrev z3 : List CTy := [.exact (.slice none 0 0), .bool false, .exact (.slice none 0 0)]
abbrev z4 : List CTy := [.int .i64 0, .exact (.slice none 0 0), .int .i64 0, .exact (.slice none 0 0)]
theorem subLong (n : Nat) : All2 (All2 CTy.Sub) ((List.replicate n z3).set (n - 1) (qC 1)) ((longQ n).map qC) := by
  rw [longQ, List.map_set, List.map_replicate]
  exact all2_set ⟨CTy.Sub.same, CTy.Sub.same, CTy.Sub.same, trivial⟩ _ (all2_rep zeroQ n)
theorem subLongR (n : Nat) : All2 (All2 CTy.Sub) ((List.replicate n z4).set (n - 1) (rC (.of 1))) ((longR n).map rC) := by
  rw [longR, List.map_set, List.map_replicate]
  exact all2_set ⟨CTy.Sub.same, CTy.Sub.same, CTy.Sub.same, CTy.Sub.same, trivial⟩ _ (all2_rep nilR n)
theorem take_snoc' {α : Type} {l : List α} {i : Nat} {x : α} (h : l[i]? = some x) : l.take i ++ [x] = l.take (i + 1) := by
  rw [List.take_add_one, h]; rfl
theorem vals_length (l : List NumD) : (vals l).length = l.length := List.length_map _
theorem valsR_length (l : List NumD) : (valsR l).length = l.length := List.length_map _

set_option maxHeartbeats 1000000 in
theorem d_LBothRule (p : List (List NumD)) (long : Int) (hp : InP p) (hs : smallP p = true) (hl1 : -9223372036854775808 ≤ long) (hl2 : long < 9223372036854775808) : Does prog 57 [(.agg [sP p, .int .i64 long] : STy)] (.ret [.one (eQ (eRat p long)), .one (eR (eRQ p long))]) := by
  refine does_of_vc (args := [.v (some 2)]) (ins := [.v (.agg [sP p, .int .i64 long])]) (hints := (fun _ => none)) fo (by kernel_rfl) func57 ⟨rfl, trivial⟩ ?_
  rw [x_LBothRule]
  dsimp only [List.map, In.env, c_a, n_a]
  have hs := hs
  unfold smallP at hs
  rw [decide_eq_true_iff] at hs
  obtain ⟨hp6, hpx⟩ := hs
  refine vloop {i : Nat // i ≤ p.length} (fun g => [.one (.int .i64 g.1), .rows ((p.take g.1).map fun l => cQ (vals l)), .rows ((p.take g.1).map fun l => cR (trimR (valsR l)))]) (fun g => p.length - g.1) ⟨0, Nat.zero_le _⟩ SubL.rfl (fun _ => rfl) ?_
  rintro ⟨i, hi⟩
  dsimp only [c_a, n_a] at hi ⊢
  refine vn (p_len el22 (List.length_map _)) rfl ?_
  dsimp only [c_a, n_a]
  refine vn q_lss rfl ?_
  dsimp only [c_a, n_a]
  refine vs _ rfl (fun h3 => ?_) (fun h3 => ?_)
  · obtain ⟨l, hl⟩ : ∃ l, p[i]? = some l := ⟨_, List.getElem?_eq_getElem (by omega)⟩
    have hlm := List.mem_of_getElem? hl
    have hl4 := (hpx l hlm).1
    have hti : (p.take i).length ≤ i := by rw [List.length_take]; omega
    refine vn (p_idxm el22 (by omega) (by omega) hl) rfl ?_
    dsimp only [c_a, n_a]
    refine vn (p_load1 ag27) rfl ?_
    dsimp only [c_a, n_a]
    refine vcall (d_KList l (fun x hx => (hp.p l hlm).2 x hx) (by omega)) rfl ?_
    dsimp only [c_a, n_a]
    refine vlit (us := [cQ (vals l)]) rfl ?_
    dsimp only [c_a, n_a]
    refine vappm (xs := p.take i) (x := l) (f := fun l => cQ (vals l)) rfl rfl (by omega) (by simp only [maxLen]; omega) ?_
    rw [take_snoc' hl]
    dsimp only [c_a, n_a]
    refine vcall (d_PTrim (valsR l) (by rw [valsR_length]; omega)) rfl ?_
    dsimp only [c_a, n_a]
    refine vlit (us := [cR (trimR (valsR l))]) rfl ?_
    dsimp only [c_a, n_a]
    refine vappm (xs := p.take i) (x := l) (f := fun l => cR (trimR (valsR l))) rfl rfl (by omega) (by simp only [maxLen]; omega) ?_
    rw [take_snoc' hl]
    dsimp only [c_a, n_a]
    refine vn (p_add_i64 (by omega) (by omega)) rfl ?_
    dsimp only [c_a, n_a]
    exact vback rfl ⟨⟨i + 1, by omega⟩, SubL.rfl, by show p.length - (i + 1) < p.length - i; omega⟩
  rw [show i = p.length by omega, List.take_length]
  refine vn q_gtr rfl ?_
  dsimp only [c_a, n_a]
  refine vs _ rfl (fun h15 => ?_) (fun h15 => ?_)
  · obtain ⟨n, hn⟩ : ∃ n : Nat, (long % 50 + 1).toNat = n := ⟨_, rfl⟩
    have hn1 : long % 50 + 1 = (n : Int) := by omega
    have hn2 : n ≤ 50 := by omega
    have hn3 : 1 ≤ n := by omega
    refine vn (p_rem_n (by omega) (by omega)) rfl ?_
    dsimp only [c_a, n_a]
    refine vn (p_add (c := (n : Int)) (by rw [hn1]; exact wr_i64 (by omega) (by omega))) rfl ?_
    dsimp only [c_a, n_a]
    refine vmake (n := n) (m := n) (us := List.replicate n z3) rfl rfl rfl (Nat.le_refl _) (by omega) (by simp only [maxLen]; omega) ?_
    dsimp only [c_a, n_a]
    refine vmake (n := n) (m := n) (us := List.replicate n z4) rfl rfl rfl (Nat.le_refl _) (by omega) (by simp only [maxLen]; omega) ?_
    dsimp only [c_a, n_a]
    refine vn (p_sub_i64 (by omega) (by omega)) rfl ?_
    dsimp only [c_a, n_a]
    refine vn (p_sub_i64 (by omega) (by omega)) rfl ?_
    dsimp only [c_a, n_a]
    refine vcall (d_Int 1 (by omega) (by omega)) rfl ?_
    dsimp only [c_a, n_a]
    refine vcall (d_RInt 1 (by omega) (by omega)) rfl ?_
    dsimp only [c_a, n_a]
    refine vidx rfl rfl (by omega) (by rw [List.length_replicate]; omega) ?_
    refine vst (ts := List.replicate n z3) (us := (List.replicate n z3).set (n - 1) (qC 1)) rfl rfl (by omega) (cells := z3) (by rw [show ((n : Int) - 1).toNat = n - 1 by omega, List.getElem?_replicate, if_pos (by omega)]) (by rw [show ((n : Int) - 1).toNat = n - 1 by omega]; rfl) ?_
    dsimp only [c_a, n_a]
    refine vidx rfl rfl (by omega) (by rw [List.length_replicate]; omega) ?_
    refine vst (ts := List.replicate n z4) (us := (List.replicate n z4).set (n - 1) (rC (.of 1))) rfl rfl (by omega) (cells := z4) (by rw [show ((n : Int) - 1).toNat = n - 1 by omega, List.getElem?_replicate, if_pos (by omega)]) (by rw [show ((n : Int) - 1).toNat = n - 1 by omega]; rfl) ?_
    dsimp only [c_a, n_a]
    refine vlit (us := [[.slice 3 ((List.replicate n z3).set (n - 1) (qC 1))]]) rfl ?_
    dsimp only [c_a, n_a]
    refine vapp (ts := p.map fun l => cQ (vals l)) (us := [[.slice 3 ((List.replicate n z3).set (n - 1) (qC 1))]]) rfl rfl rfl (by simp; omega) (by simp [maxLen]; omega) ?_
    dsimp only [c_a, n_a]
    refine vlit (us := [[.slice 4 ((List.replicate n z4).set (n - 1) (rC (.of 1)))]]) rfl ?_
    dsimp only [c_a, n_a]
    refine vapp (ts := p.map fun l => cR (trimR (valsR l))) (us := [[.slice 4 ((List.replicate n z4).set (n - 1) (rC (.of 1)))]]) rfl rfl rfl (by simp; omega) (by simp [maxLen]; omega) ?_
    dsimp only [c_a, n_a]
    refine vrets ⟨CTy.Sub.slice ?_, CTy.Sub.slice ?_, trivial⟩
    · rw [eRat, if_pos h15, hn, List.map_append, List.map_map]
      exact All2.append (All2.reflOf (All2.reflOf CTy.Sub.refl) _) ⟨⟨CTy.Sub.slice (subLong n), trivial⟩, trivial⟩
    · rw [eRQ, if_pos h15, hn, List.map_append, List.map_map]
      exact All2.append (All2.reflOf (All2.reflOf CTy.Sub.refl) _) ⟨⟨CTy.Sub.slice (subLongR n), trivial⟩, trivial⟩
  rw [eRat, eRQ, if_neg h15, if_neg h15, List.append_nil, List.append_nil]
  refine vret ?_
  rw [eQ, eR, List.map_map, List.map_map]; rfl

def CaseD.kk (c : CaseD) : Nat := (c.kind - 1) % 8 + 1
def CaseD.nn (c : CaseD) : Int := if c.n < 0 ∨ 8 < c.n then 2 else c.n
def CaseD.E (c : CaseD) : List (List Rat) := if 0 < c.kind then kE c.kk c.nn else eRat c.p c.long
def CaseD.X (c : CaseD) : Rat := if 0 < c.kind then 0 else c.c.v
def CaseD.Y (c : CaseD) : List Rat := if 0 < c.kind then kY c.kk else vals c.y
def CaseD.ER (c : CaseD) : List (List RQ) := if 0 < c.kind then kER c.kk c.nn else eRQ c.p c.long
def CaseD.XR (c : CaseD) : RQ := if 0 < c.kind then .nil else .of c.c.v
def CaseD.YR (c : CaseD) : List RQ := if 0 < c.kind then kYR c.kk else valsR c.y

theorem knownV_ok {k : Nat} {n : Int} (h1 : 1 ≤ k) (h2 : k ≤ 8) (h3 : 0 ≤ n) (h4 : n ≤ 40) : knownV k n = (kE k n, kY k, 0) := by
  rw [knownV, if_neg (by omega), if_neg (by omega)]

theorem d_LBoth (c : CaseD) (h : c.In) (hs : c.small = true) : Does prog 17 [(caT c : STy)] (.ret [fT c.E c.X c.Y, fR c.ER c.XR c.YR]) := by
  refine does_of_vc (args := [.v (some 8)]) (ins := [.v (caT c)]) (hints := (fun _ => none)) fo (by kernel_rfl) func17 ⟨rfl, trivial⟩ ?_
  rw [x_LBoth]
  dsimp only [List.map, In.env, c_a, n_a]
  have hs' := hs
  unfold CaseD.small at hs'
  rw [decide_eq_true_iff] at hs'
  obtain ⟨_, hsp, _, hyl⟩ := hs'
  have hk := h.hk
  have hn1 := h.hn1
  have hn2 := h.hn2
  have hkk1 : 1 ≤ c.kk := by unfold CaseD.kk; omega
  have hkk8 : c.kk ≤ 8 := by unfold CaseD.kk; omega
  have hnn : 0 ≤ c.nn ∧ c.nn ≤ 8 := by unfold CaseD.nn; split <;> omega
  have hK := d_oKnown c.kk c.nn (by omega) (by omega) (by omega)
  rw [knownV_ok hkk1 hkk8 (by omega) (by omega)] at hK
  have hR := d_EKnown c.kk c.nn hkk1 hkk8 (by omega) (by omega)
  refine vn q_gtr rfl ?_
  dsimp only [c_a, n_a]
  refine vs _ rfl (fun h1 => ?_) (fun h1 => ?_)
  · have hk0 : 0 < c.kind := by omega
    have hkki : ((c.kind : Int) - 1) % 8 + 1 = (c.kk : Int) := by unfold CaseD.kk; omega
    rw [show c.E = kE c.kk c.nn by rw [CaseD.E, if_pos hk0], show c.X = 0 by rw [CaseD.X, if_pos hk0], show c.Y = kY c.kk by rw [CaseD.Y, if_pos hk0], show c.ER = kER c.kk c.nn by rw [CaseD.ER, if_pos hk0], show c.XR = RQ.nil by rw [CaseD.XR, if_pos hk0], show c.YR = kYR c.kk by rw [CaseD.YR, if_pos hk0]]
    refine vn q_lss rfl ?_
    dsimp only [c_a, n_a]
    refine vs _ rfl (fun h3 => ?_) (fun h3 => ?_)
    · have hnnv : c.nn = 2 := by rw [CaseD.nn, if_pos (by omega)]
      rw [hnnv] at hK hR ⊢
      refine vn (p_sub_u8 (by omega) (by omega)) rfl ?_
      dsimp only [c_a, n_a]
      refine vn (p_rem_n (by omega) (by omega)) rfl ?_
      dsimp only [c_a, n_a]
      refine vn (p_add (c := (c.kk : Int)) (by rw [hkki]; exact wr_u8 (by omega) (by omega))) rfl ?_
      dsimp only [c_a, n_a]
      refine vcall hK rfl ?_
      dsimp only [c_a, n_a]
      refine vcall hR rfl ?_
      dsimp only [c_a, n_a]
      exact vret rfl
    refine vn q_gtr rfl ?_
    dsimp only [c_a, n_a]
    refine vs _ rfl (fun h11 => ?_) (fun h11 => ?_)
    · have hnnv : c.nn = 2 := by rw [CaseD.nn, if_pos (by omega)]
      rw [hnnv] at hK hR ⊢
      refine vn (p_sub_u8 (by omega) (by omega)) rfl ?_
      dsimp only [c_a, n_a]
      refine vn (p_rem_n (by omega) (by omega)) rfl ?_
      dsimp only [c_a, n_a]
      refine vn (p_add (c := (c.kk : Int)) (by rw [hkki]; exact wr_u8 (by omega) (by omega))) rfl ?_
      dsimp only [c_a, n_a]
      refine vcall hK rfl ?_
      dsimp only [c_a, n_a]
      refine vcall hR rfl ?_
      dsimp only [c_a, n_a]
      exact vret rfl
    have hnnv : c.nn = c.n := by rw [CaseD.nn, if_neg (by omega)]
    rw [hnnv] at hK hR ⊢
    refine vn (p_sub_u8 (by omega) (by omega)) rfl ?_
    dsimp only [c_a, n_a]
    refine vn (p_rem_n (by omega) (by omega)) rfl ?_
    dsimp only [c_a, n_a]
    refine vn (p_add (c := (c.kk : Int)) (by rw [hkki]; exact wr_u8 (by omega) (by omega))) rfl ?_
    dsimp only [c_a, n_a]
    refine vcall hK rfl ?_
    dsimp only [c_a, n_a]
    refine vcall hR rfl ?_
    dsimp only [c_a, n_a]
    exact vret rfl
  have hk0 : ¬ 0 < c.kind := by omega
  rw [show c.E = eRat c.p c.long by rw [CaseD.E, if_neg hk0], show c.X = c.c.v by rw [CaseD.X, if_neg hk0], show c.Y = vals c.y by rw [CaseD.Y, if_neg hk0], show c.ER = eRQ c.p c.long by rw [CaseD.ER, if_neg hk0], show c.XR = RQ.of c.c.v by rw [CaseD.XR, if_neg hk0], show c.YR = valsR c.y by rw [CaseD.YR, if_neg hk0]]
  refine vcall (d_LBothRule c.p c.long h.hp hsp h.hl1 h.hl2) rfl ?_
  dsimp only [c_a, n_a]
  refine vcall (d_KBoth c.c h.hc) rfl ?_
  dsimp only [c_a, n_a]
  refine vcall (d_KList c.y h.hy (by omega)) rfl ?_
  dsimp only [c_a, n_a]
  exact vret rfl

theorem d_Lnothing (e : List (List Rat)) (c : Rat) (y : List Rat) (he : e.length < 1099511627776) (hy : y.length < 1099511627776) : Does prog 23 [(fT e c y : STy)] (.ret [.one (.bool (decide (e.length + y.length = 0 ∧ c = 0)))]) := by
  refine does_of_vc (args := [.v (some 5)]) (ins := [.v (fT e c y)]) (hints := (fun _ => none)) fo (by kernel_rfl) func23 ⟨rfl, trivial⟩ ?_
  rw [x_Lnothing]
  dsimp only [List.map, In.env, c_a, n_a]
  refine vn (p_len el32 (List.length_map _)) rfl ?_
  dsimp only [c_a, n_a]
  refine vn (p_len el40 (List.length_map _)) rfl ?_
  dsimp only [c_a, n_a]
  refine vn (p_add_i64 (by omega) (by omega)) rfl ?_
  dsimp only [c_a, n_a]
  refine vn q_eql rfl ?_
  dsimp only [c_a, n_a]
  refine vs _ rfl (fun h4 => ?_) (fun h4 => ?_)
  · refine vcall (d_QSign c) rfl ?_
    dsimp only [c_a, n_a]
    refine vn q_eql rfl ?_
    dsimp only [c_a, n_a]
    rw [show decide (e.length + y.length = 0 ∧ c = 0) = decide (c.num.sign = 0) by
      rw [decide_eq_decide]
      exact ⟨fun h => sign_zero.2 h.2, fun h => ⟨by omega, sign_zero.1 h⟩⟩]; exact vret rfl
  rw [show decide (e.length + y.length = 0 ∧ c = 0) = false by rw [decide_eq_false_iff_not]; omega]; exact vret rfl

theorem d_Lequation (e : List (List Rat)) (e' : List (List RQ)) (B : Nat) (hB : B ≤ 268435456) (he : ∀ p ∈ e, p.length < 1099511627776 ∧ ∀ q ∈ p, Fit B q) (he' : ∀ p ∈ e', p.length < 1099511627776 ∧ ∀ q ∈ p, Fit B q.q) (hs : e.length < 1099511627776) (hs2 : e'.length < 1099511627776) : Does prog 98 [(.one (eQ e) : STy), (.one (eR e') : STy)] (.ret [.one (.bool (decide (e.map trim = eqR e')))]) := by
  refine does_of_vc (args := [.v none, .v none]) (ins := [.v (.one (eQ e)), .v (.one (eR e'))]) (hints := (fun _ => none)) fo (by kernel_rfl) func98 ⟨rfl, rfl, trivial⟩ ?_
  rw [x_Lequation]
  dsimp only [List.map, In.env, c_a, n_a]
  refine vn (p_len el32 (List.length_map _)) rfl ?_
  dsimp only [c_a, n_a]
  refine vn (p_len el44 (List.length_map _)) rfl ?_
  dsimp only [c_a, n_a]
  refine vn q_neq rfl ?_
  dsimp only [c_a, n_a]
  refine vs _ rfl (fun h3 => ?_) (fun h3 => ?_)
  · rw [decide_eq_false (fun h => by have := congrArg List.length h; rw [List.length_map, eqR_len] at this; omega)]; exact vret rfl
  have hlen : e.length = e'.length := by omega
  refine vloop {i : Nat // i ≤ e.length ∧ ∀ j p p', j < i → e[j]? = some p → e'[j]? = some p' → trim p = p'.map RQ.q} (fun g => [.one (.bool false), .one (.int .i64 g.1)]) (fun g => e.length - g.1) ⟨0, Nat.zero_le _, fun j p p' h => by omega⟩ SubL.rfl (fun _ => rfl) ?_
  rintro ⟨i, hi, hok⟩
  dsimp only [c_a, n_a] at hi hok ⊢
  refine vn (p_len el32 (List.length_map _)) rfl ?_
  dsimp only [c_a, n_a]
  refine vn q_lss rfl ?_
  dsimp only [c_a, n_a]
  refine vs _ rfl (fun h8 => ?_) (fun h8 => ?_)
  · obtain ⟨p, hp⟩ : ∃ p, e[i]? = some p := ⟨_, List.getElem?_eq_getElem (by omega)⟩
    obtain ⟨p', hp'⟩ : ∃ p', e'[i]? = some p' := ⟨_, List.getElem?_eq_getElem (by omega)⟩
    obtain ⟨hpl, hpf⟩ := he p (List.mem_of_getElem? hp)
    obtain ⟨hpl', hpf'⟩ := he' p' (List.mem_of_getElem? hp')
    have htl := trim_length p
    have htle := tlen_le (z := zr) p
    refine vn (p_idxm el32 (by omega) (by omega) hp) rfl ?_
    dsimp only [c_a, n_a]
    refine vn (p_load1 ag72) rfl ?_
    dsimp only [c_a, n_a]
    refine vcall (d_pTrim p hpl) rfl ?_
    dsimp only [c_a, n_a]
    refine vn (p_idxm el44 (by omega) (by omega) hp') rfl ?_
    dsimp only [c_a, n_a]
    refine vn (p_load1 ag167) rfl ?_
    dsimp only [c_a, n_a]
    refine vcall (d_KAlike (trim p) p' B (fun q hq => hpf q (List.mem_of_mem_take hq)) hpf' hB (by omega) hpl') rfl ?_
    dsimp only [c_a, n_a]
    refine vn q_not rfl ?_
    dsimp only [c_a, n_a]
    refine vs _ rfl (fun h16 => ?_) (fun h16 => ?_)
    · rw [decide_eq_false (fun h => h16 (by
        have := congrArg (fun l => l[i]?) h
        simp only [List.getElem?_map, hp, eqR_get hp', Option.map_some, Option.some.injEq] at this
        exact this))]; exact vret rfl
    refine vn (p_add_i64 (by omega) (by omega)) rfl ?_
    dsimp only [c_a, n_a]
    exact vback rfl ⟨⟨i + 1, by omega, fun j q q' hj hq hq' => by
      rcases Nat.lt_or_ge j i with h | h
      · exact hok j q q' h hq hq'
      · rw [show j = i by omega] at hq hq'
        rw [hp] at hq; rw [hp'] at hq'
        simp only [Option.some.injEq] at hq hq'
        subst hq hq'
        exact Decidable.of_not_not h16⟩, SubL.rfl, by show e.length - (i + 1) < e.length - i; omega⟩
  rw [decide_eq_true (by
    rw [eqR]
    refine take_all (by rw [List.length_map]; exact hlen) fun j x y hx hy => ?_
    rw [List.getElem?_map] at hx
    cases hej : e[j]? with
    | none => rw [hej] at hx; cases hx
    | some p =>
      rw [hej] at hx
      simp only [Option.map_some, Option.some.injEq] at hx
      subst hx
      exact hok j p y (by have := (List.getElem?_eq_some_iff.1 hej).1; omega) hej hy)]; exact vret rfl

theorem d_Lfunction (e : List (List Rat)) (c : Rat) (y : List Rat) (e' : List (List RQ)) (c' : RQ) (y' : List RQ) (B : Nat) (hB : B ≤ 268435456) (he : ∀ p ∈ e, p.length < 1099511627776 ∧ ∀ q ∈ p, Fit B q) (he' : ∀ p ∈ e', p.length < 1099511627776 ∧ ∀ q ∈ p, Fit B q.q) (hs : e.length < 1099511627776) (hs2 : e'.length < 1099511627776) (hc : Fit B c) (hc' : Fit B c'.q) (hy : ∀ q ∈ y, Fit B q) (hy' : ∀ q ∈ y', Fit B q.q) (hyl : y.length < 1099511627776) (hyl' : y'.length < 1099511627776) : Does prog 24 [(fT e c y : STy), (fR e' c' y' : STy)] (.ret [.one (.bool (decide (e.map trim = eqR e' ∧ c = c'.q ∧ y = y'.map RQ.q)))]) := by
  refine does_of_vc (args := [.v (some 5), .v (some 6)]) (ins := [.v (fT e c y), .v (fR e' c' y')]) (hints := (fun _ => none)) fo (by kernel_rfl) func24 ⟨rfl, rfl, trivial⟩ ?_
  rw [x_Lfunction]
  dsimp only [List.map, In.env, c_a, n_a]
  refine vcall (d_Lequation e e' B hB he he' hs hs2) rfl ?_
  dsimp only [c_a, n_a]
  refine vs _ rfl (fun h1 => ?_) (fun h1 => ?_)
  · refine vcall (d_KSame c c' B hc hc' hB) rfl ?_
    dsimp only [c_a, n_a]
    refine vs _ rfl (fun h3 => ?_) (fun h3 => ?_)
    · refine vcall (d_KAlike y y' B hy hy' hB hyl hyl') rfl ?_
      dsimp only [c_a, n_a]
      rw [show decide (e.map trim = eqR e' ∧ c = c'.q ∧ y = y'.map RQ.q) = decide (y = y'.map RQ.q) by rw [decide_eq_decide]; exact ⟨fun h => h.2.2, fun h => ⟨h1, h3, h⟩⟩]; exact vret rfl
    rw [decide_eq_false (fun h => h3 h.2.1)]; exact vret rfl
  rw [decide_eq_false (fun h => h1 h.1)]; exact vret rfl
end Go.Sy
