/- slices.Backward over digits; word. Common divisors, powers; integers. Integers, ratios, rational numbers.
-/
import Derived.Test.YtdmcadckdnnglaaGreatDoorNb
import Derived.RangeFuncFrom
import Derived.RangeFuncBox
import Derived.RangeFuncLeaves
import Derived.Shelf.Abstract
import Derived.WalkKit
import Derived.OwnWalkIn
import Derived.TacticsInMore
import Derived.LoopNIn
import Derived.LoopIn
import Derived.Test.YtdmcadckdnnglaaGreatDoorPa
set_option linter.unusedVariables false
set_option linter.unusedSimpArgs false
namespace Go.Sy
open Go Go.Proofs Go.RowKit Go.Shelf Tryz Ord
attribute [local go_sem] Oper.semAt_some

section
variable {α : Type} [Inhabited α] {enc : α → Value}
def bk (vs : List α) (k : Nat) : List (Nat × α) := (List.range k).map fun j => (vs.length - 1 - j, vs[vs.length - 1 - j]?.getD default)
theorem bk_succ (vs : List α) (k : Nat) : bk vs (k + 1) = bk vs k ++ [(vs.length - 1 - k, vs[vs.length - 1 - k]?.getD default)] := by simp [bk, List.range_succ]
theorem bk_length (vs : List α) (k : Nat) : (bk vs k).length = k := by simp [bk]

/-- the box is kept, and what lay below -/
def KpB (n₀ Bs : Nat) (A B : World) : Prop := Below n₀ A B ∧ ∀ v, A.cell? ⟨Bs, 0, none⟩ = some v → B.cell? ⟨Bs, 0, none⟩ = some v

set_option maxRecDepth 100000 in
set_option maxHeartbeats 2000000 in
theorem backU1_in (l Bs n₀ b off cap : Nat) (vs : List α) (hlen : vs.length < 4611686018427387904) (hb : b < n₀) (J Jx : List (Nat × α) → World → Prop)
    (hY : ∀ pre x W, J pre W → pre.length < vs.length → YieldAt Fence.wide (1000 - 1) prog l #[.int .i64 (x.1 : Int), enc x.2] W fun e W' =>
      (e = .returned (.bool true) ∧ J (pre ++ [x]) W' ∧ KpB n₀ Bs W W') ∨ (e = .returned (.bool false) ∧ Jx (pre ++ [x]) W'))
    (W : World) (hBs : W.cell? ⟨Bs, 0, none⟩ = some (.slice (some ⟨b, off, none⟩) vs.length cap)) (hc : ∀ j v, vs[j]? = some v → W.cell? ⟨b, off + j, none⟩ = some (enc v)) (h0 : J [] W) :
    CallsIn Fence.wide 1000 prog 274 #[.func (.yield l) #[] #[], .pointer (some ⟨Bs, 0, none⟩)] W fun e W' => (∃ v, e = .returned v) ∧
      ((∃ ys, ys = bk vs vs.length ∧ J ys W') ∨ (∃ pre, (∃ k, k ≤ vs.length ∧ pre = bk vs k) ∧ Jx pre W')) := by
  refine callsIn_of_wp func274 rfl trivial ?_ rfl
  simp only [ntmps274, List.size_toArray, List.length_cons, List.length_nil, Nat.reduceAdd, Nat.reduceSub, Array.replicate_succ, Array.replicate_zero, List.push_toArray, List.append_toArray, List.nil_append, List.cons_append]
  obtain ⟨N, hN⟩ : ∃ N, vs.length = N := ⟨_, rfl⟩
  rw [hN] at hBs hY hlen ⊢
  gi_wp2
  gi_loopw [3] (fun i wr => ∃ k : Nat, k ≤ N ∧ i = .int .i64 ((N : Int) - 1 - k) ∧ J (bk vs k) wr ∧ Below n₀ W wr ∧ wr.cell? ⟨Bs, 0, none⟩ = some (.slice (some ⟨b, off, none⟩) N cap))
    (fun i _ => (intOf i + 1).toNat)
  case atStart => exact ⟨0, Nat.zero_le _, by simp, h0, Below.refl _ _, hBs⟩
  case round =>
    obtain ⟨k, hk, rfl, hJs, hnx, hBx⟩ := hrel
    have hmeas : (intOf (.int .i64 ((N : Int) - 1 - k)) + 1).toNat = N - k := by simp [intOf]; omega
    by_cases hlt : k < N
    · have hv : vs[N - 1 - k]? = some (vs[N - 1 - k]?.getD default) := by rw [List.getElem?_eq_getElem (by omega)]; rfl
      have hcx : wr.cell? ⟨b, off + (N - 1 - k), none⟩ = some (enc (vs[N - 1 - k]?.getD default)) := (hnx.cell (p := ⟨b, off + (N - 1 - k), none⟩) hb).trans (hc _ _ hv)
      obtain ⟨fn, tmps, assign, body, hy, hR⟩ := hY _ (N - 1 - k, vs[N - 1 - k]?.getD default) wr hJs (by rw [bk_length]; exact hlt)
      generalize hx : vs[N - 1 - k]?.getD default = x at hy hR hcx
      have hsucc : bk vs (k + 1) = bk vs k ++ [(N - 1 - k, x)] := by rw [bk_succ, hN, hx]
      have e1 : (N : Int) - 1 - k = ((N - 1 - k : Nat) : Int) := by omega
      have hn1 : N - 1 - k < N := by omega
      have e2 : (wr.cell? ⟨b, off + (N - 1 - k), none⟩) = some (enc x) := hcx
      rw [e1]
      gi_wp2
      refine hR.mono ?_
      rintro e W3 (⟨rfl, hJ3, hk3⟩ | ⟨rfl, hJx3⟩)
      · gi_wp2
        go_roundw
        case rel => exact ⟨k + 1, by omega, by congr 1; omega, by rw [hsucc]; exact hJ3, hnx.trans hk3.1, hk3.2 _ hBx⟩
        case measure => simp [intOf]
      · gi_wp2
        refine bodyPost_ret (results_none rfl _ _ _) rfl ?_
        exact ⟨⟨_, rfl⟩, .inr ⟨_, ⟨k + 1, by omega, rfl⟩, by rw [hsucc]; exact hJx3⟩⟩
    · obtain rfl : k = N := by omega
      gi_wp2
      go_end0
      exact ⟨⟨_, rfl⟩, .inl ⟨_, rfl, hJs⟩⟩

set_option maxRecDepth 100000 in
set_option maxHeartbeats 1000000 in
theorem backU1_nil {α : Type} (l Bs : Nat) (a : Option Addr) (cap : Nat) (J : List (Nat × α) → World → Prop) (W : World) (hBs : W.cell? ⟨Bs, 0, none⟩ = some (.slice a 0 cap)) (h0 : J [] W) :
    CallsIn Fence.wide 1000 prog 274 #[.func (.yield l) #[] #[], .pointer (some ⟨Bs, 0, none⟩)] W fun e W' => (∃ v, e = .returned v) ∧ J [] W' := by
  refine callsIn_of_wp func274 rfl trivial ?_ rfl
  simp only [ntmps274, List.size_toArray, List.length_cons, List.length_nil, Nat.reduceAdd, Nat.reduceSub, Array.replicate_succ, Array.replicate_zero, List.push_toArray, List.append_toArray, List.nil_append, List.cons_append]
  gi_wp2
  gi_loopw [3] (fun i wr => i = .int .i64 (-1) ∧ J [] wr) (fun _ _ => 0)
  case atStart => exact ⟨rfl, h0⟩
  case round =>
    obtain ⟨rfl, hJs⟩ := hrel
    gi_wp2
    go_end0
    exact ⟨⟨_, rfl⟩, hJs⟩

set_option maxHeartbeats 1000000 in
theorem backU_in (n : Nat) (a : Option Addr) (len cap : Nat) (w : World) :
    CallsIn Fence.wide n prog 240 #[.slice a len cap] w fun e w' => e = .returned (.func (.func 274) #[] #[.pointer (some ⟨w.heap.size, 0, none⟩)]) ∧ w' = w.alloc (.cells #[.slice a len cap] 33) := by
  refine callsIn_of_wp func240 rfl trivial ?_ rfl
  simp only [ntmps240, List.size_toArray, List.length_cons, List.length_nil, Nat.reduceAdd, Nat.reduceSub, Array.replicate_succ, Array.replicate_zero, List.push_toArray, List.append_toArray, List.nil_append, List.cons_append]
  gi_wp2
  go_ret
  exact ⟨rfl, rfl⟩

/-- a slice's values, in a block that lies below -/
def Sl1 (enc : α → Value) (n₀ : Nat) (W : World) (sv : Value) (vs : List α) : Prop :=
  ∃ a cap, sv = .slice a vs.length cap ∧ (vs = [] ∨ ∃ b off, a = some ⟨b, off, none⟩ ∧ b < n₀ ∧ ∀ j v, vs[j]? = some v → W.cell? ⟨b, off + j, none⟩ = some (enc v))
theorem Sl1.below {α : Type} {enc : α → Value} {n₀ : Nat} {A B : World} (h : Below n₀ A B) {sv : Value} {vs : List α} : Sl1 enc n₀ A sv vs → Sl1 enc n₀ B sv vs := by
  rintro ⟨a, cap, e, rfl | ⟨b, off, rfl, hb, hc⟩⟩
  · exact ⟨a, cap, e, .inl rfl⟩
  · exact ⟨_, cap, e, .inr ⟨b, off, rfl, hb, fun j v hj => (h.cell (p := ⟨b, off + j, none⟩) hb).trans (hc j v hj)⟩⟩

theorem backU_stops (Bs n₀ : Nat) (sv : Value) (vs : List α) (hlen : vs.length < 4611686018427387904) (w : World) (hBs : Bs < w.heap.size) (hn₀ : n₀ ≤ w.heap.size)
    (hc : w.cell? ⟨Bs, 0, none⟩ = some sv) (hI : Sl1 enc n₀ w sv vs) :
    SeqStopsK Fence.wide 1000 prog 274 #[.pointer (some ⟨Bs, 0, none⟩)] (fun x : Nat × α => #[Value.int .i64 (x.1 : Int), enc x.2]) (KpB n₀ Bs) (fun ys => ys = bk vs vs.length) (fun pre => ∃ k, k ≤ vs.length ∧ pre = bk vs k) vs.length w := fun l J Jx W hW _ _ hY h0 => by
  have hc' := (hW.cell (p := ⟨Bs, 0, none⟩) hBs).trans hc
  obtain ⟨a, cap, rfl, rfl | ⟨b, off, rfl, hb, hcs⟩⟩ := hI.below (hW.mono hn₀)
  · exact (backU1_nil (α := α) l Bs a cap J W hc' h0).mono fun e W' ⟨he, hj⟩ => ⟨he, .inl ⟨_, rfl, hj⟩⟩
  · exact (backU1_in (enc := enc) l Bs n₀ b off cap vs hlen hb J Jx hY W hc' hcs h0)
theorem kpB_t {n₀ Bs : Nat} {A B C : World} (h : KpB n₀ Bs A B) (k : KpB n₀ Bs B C) : KpB n₀ Bs A C := ⟨h.1.trans k.1, fun v hv => k.2 v (h.2 v hv)⟩
theorem kpB_b {n₀ Bs : Nat} {w : World} (hn : n₀ ≤ w.heap.size) (hB : Bs < w.heap.size) (W : World) (l : Nat) (o o' : Obj) (hl : w.heap.size ≤ l) (h : W.heap[l]? = some o) (h1 : o.isCells = false) (h2 : o.isWalk = false) : KpB n₀ Bs W (W.putObj l o') :=
  ⟨belowK_b hn W l o o' hl h h1 h2, fun v hv => by
    have e : (W.putObj l o').heap[Bs]? = W.heap[Bs]? := World.putObj_heap_other (by omega)
    simp only [World.cell?, e] at hv ⊢
    exact hv⟩
end

/-- the machine's word of digits that have come, the highest first -/
def wv (pre : List (Nat × Int)) : Int := pre.foldl (fun n x => IntKind.u64.wrap (IntKind.u64.wrap (n * 1000000000) + IntKind.u64.wrap x.2)) 0
theorem wv_snoc (pre : List (Nat × Int)) (x : Nat × Int) : wv (pre ++ [x]) = IntKind.u64.wrap (IntKind.u64.wrap (wv pre * 1000000000) + IntKind.u64.wrap x.2) := by simp [wv]

theorem word_fin {n : Nat} (hn : n < 1000000000000000000) : wv (bk ((dg n).map (fun d : Nat => (d : Int))) (dg n).length) = (n : Int) := by
  have hl : (dg n).length ≤ 2 := dl_le (by omega)
  have hv := lv_dg n
  have hd := dg_dg n
  generalize dg n = ds at hl hv hd
  match ds, hl with
  | [], _ => simp [lv, val] at hv; subst hv; simp [bk, wv]
  | [a], _ =>
    have ha := hd a (by simp)
    simp [lv, val] at hv
    simp [bk, wv, List.range_succ]
    simp only [IntKind.wrap_u64]; omega
  | [a, b], _ =>
    have ha := hd a (by simp)
    have hb := hd b (by simp)
    simp [lv, val] at hv
    simp [bk, wv, List.range_succ]
    simp only [IntKind.wrap_u64]; omega

/-- what the types say of a slice of digits -/
theorem sl_of {M : Nat → Prop} {w : World} {v : Value} {ds : List Nat} (h : (CTy.slice 1 (rT ds)).rep M w v) : Sl1 (fun d : Int => Value.int .u32 d) w.heap.size w v (ds.map (fun d : Nat => (d : Int))) := by
  obtain ⟨a, cap, rfl, hc, hm, hel⟩ := h
  refine ⟨a, cap, by simp, ?_⟩
  rcases hel with h | ⟨b, off, cs, T, fz, rfl, hb, hh, hr⟩
  · left
    have : ds = [] := by cases ds <;> simp_all
    subst this; rfl
  · refine .inr ⟨b, off, rfl, (Array.getElem?_eq_some_iff.1 hh).1, fun j v hj => ?_⟩
    rw [List.getElem?_map] at hj
    cases hd : ds[j]? with
    | none => rw [hd] at hj; simp at hj
    | some d =>
      rw [hd] at hj
      simp only [Option.map_some, Option.some.injEq] at hj
      subst hj
      obtain ⟨_, hrep⟩ := hr j _ (rT_get hd)
      rw [Nat.mul_one] at hrep
      have hl := hrep.length
      have hlt : off + j < cs.toList.length := by
        simp only [List.length_cons, List.length_nil, List.length_take, List.length_drop] at hl; omega
      rw [List.drop_eq_getElem_cons hlt, List.take_succ_cons, List.take_zero] at hrep
      have h1 : cs.toList[off + j] = .int .u32 d := hrep.1.1
      simp only [World.cell?, hh]
      rw [Array.getElem_toList] at h1
      simp [h1, Array.getElem?_eq_getElem (show off + j < cs.size by simpa using hlt)]

set_option maxRecDepth 100000 in
set_option maxHeartbeats 2000000 in
theorem word_in (a : Option Addr) (cap : Nat) (vs : List Int) (hlen : vs.length < 4611686018427387904) (w : World) (hI : Sl1 (fun d : Int => Value.int .u32 d) w.heap.size w (.slice a vs.length cap) vs) :
    CallsIn Fence.wide 1001 prog 249 #[.agg #[.slice a vs.length cap]] w fun e W' => e = .returned (.int .u64 (wv (bk vs vs.length))) ∧ Below w.heap.size w W' := by
  refine callsIn_of_wp_marks func249 rfl trivial ?_ rfl
  simp only [ntmps249, List.size_toArray, List.length_cons, List.length_nil, Nat.reduceAdd, Nat.reduceSub, Array.replicate_succ, Array.replicate_zero, List.push_toArray, List.append_toArray, List.nil_append, List.cons_append]
  generalize hL : vs.length = L at hI hlen ⊢
  gi_wp2_with (refine ⟨trivial, ?_⟩; gi_at_call 240; refine (backU_in _ _ _ _ _).mono ?_; rintro e w' ⟨rfl, rfl⟩)
  have bN := Boxed.new (w.alloc (.cells #[.slice a L cap] 35)) 254 (.int .u64 0)
  have bS := Boxed.new ((w.alloc (.cells #[.slice a L cap] 35)).alloc (.cells #[.int .u64 0] 254)) 33 (.slice a L cap)
  simp only [World.size_alloc] at bN bS
  have hB0 : Below w.heap.size w (((w.alloc (.cells #[.slice a L cap] 35)).alloc (.cells #[.int .u64 0] 254)).alloc (.cells #[.slice a L cap] 33)) := (((Below.refl _ w).alloc (Nat.le_refl _) _).alloc (by simp) _).alloc (by simp; omega) _
  obtain ⟨W0, hW0⟩ : ∃ W0, (((w.alloc (.cells #[.slice a L cap] 35)).alloc (.cells #[.int .u64 0] 254)).alloc (.cells #[.slice a L cap] 33)) = W0 := ⟨_, rfl⟩
  have hs0 : W0.heap.size = w.heap.size + 3 := by rw [← hW0]; simp
  have bN' := bN.alloc (.cells #[.slice a L cap] 33)
  rw [hW0] at hB0 bS bN' ⊢
  refine wpIn_rangeFunc_ownF (w0 := W0) rfl (by omega) (gf := 274) (lb := #[.pointer (some ⟨w.heap.size + 1 + 1, 0, none⟩)]) rfl trivial (enters_of func274 (by kernel_rfl) rfl)
    (backU_stops (enc := fun d : Int => Value.int .u32 d) (w.heap.size + 1 + 1) w.heap.size (.slice a L cap) vs (by omega) W0 (by omega) (by omega) bS.cell (hI.below hB0)) kpB_t (kpB_b (by omega) (by omega)) (Below.refl _ _) (fun _ => rfl)
    (fun pre W => (W.cell? ⟨w.heap.size + 1, 0, none⟩ = some (.int .u64 (wv pre)) ∧ W.frozen? ⟨w.heap.size + 1, 0, none⟩ = false) ∧ Below w.heap.size w W)
    (fun _ _ _ => False)
    (OwnFrom.and (Own.from (fun s A B row hs hg hr => ⟨cell_kept hs.1 hg hr, (frozen_kept hs.1 hg hr).trans hs.2⟩) _) (ownFrom_below (Nat.le_refl _) (by omega)))
    (fun _ => by intro s A B row hs; exact hs.elim)
    ⟨⟨bN'.cell, bN'.frozen⟩, hB0⟩
    (fun x => { tmps := #[.agg #[.slice a L cap], .pointer (some ⟨w.heap.size, 0, none⟩), .int .u64 0, .pointer (some ⟨w.heap.size + 1, 0, none⟩), undef, .int .u32 x.2, .pointer (some ⟨w.heap.size, 0, none⟩), .slice a L cap, .func (.func 274) #[] #[.pointer (some ⟨w.heap.size + 1 + 1, 0, none⟩)], .int .i64 (x.1 : Int), .int .u32 x.2, undef, undef, undef, undef, undef, undef], defers := [] }) ?assign ?body ?done ?stop
  case assign =>
    intro l x W K hK
    gi_wp2
    exact hK
  case body =>
    rintro l pre x W ⟨⟨hcr, hfr⟩, hB⟩ _
    gi_wp2
    refine ⟨KeepsOthers.setCell _ _ _, ⟨(Below.refl w.heap.size W).setCell (p := ⟨w.heap.size + 1, 0, none⟩) (by simp) _, fun v hv => ?_⟩, ⟨?_, by rw [World.frozen?_setCell]; exact hfr⟩, hB.setCell (p := ⟨w.heap.size + 1, 0, none⟩) (by simp) _⟩
    · refine Eq.trans (World.cell?_setCell_other _ _ _ _ ?_) hv
      simp
    · rw [wv_snoc]; exact World.cell?_setCell_same' _ _ _ (by rw [hcr]; rfl)
  case done =>
    rintro D ys W hD rfl ⟨⟨hcr, hfr⟩, hB⟩ hK
    gi_wp2
    refine ⟨by simp, .inl ⟨_, _, rfl, run_takeDeferred hK, ?_⟩⟩
    exact ⟨_, results_tmp rfl _ _ _, rfl, hB.trans (belowK_b (w := w) (Nat.le_refl _) W D _ _ (by omega) hK rfl rfl)⟩
  case stop =>
    rintro D c pre W hD _ h hK
    exact h.elim

set_option maxRecDepth 100000 in
theorem d_word (n : Nat) (hn : n < 1000000000000000000) : Does prog 249 [mT n] (.ret [.one (.int .u64 n)]) := by
  refine ⟨funcOk_enters (by kernel_rfl), fun M w vs hM hv => ?_⟩
  match vs, hv with
  | [v], hv =>
    obtain ⟨⟨us, rfl, hus⟩, _⟩ := hv
    match us, hus with
    | [u], hus =>
      have hsl := sl_of hus.1
      obtain ⟨a, cap, rfl, hel⟩ := hsl
      have hl : ((dg n).map (fun d : Nat => (d : Int))).length = (dg n).length := List.length_map _
      have hlen : (dg n).length < 4611686018427387904 := by
        have h2 : (dg n).length ≤ 2 := dl_le (by rw [show (1000000000 : Nat) ^ 2 = 1000000000000000000 by decide]; exact hn)
        omega
      have h1 := word_in a cap ((dg n).map (fun d : Nat => (d : Int))) (by rw [hl]; exact hlen) w ⟨a, cap, rfl, hel⟩
      rw [hl, word_fin hn] at h1
      have h2 : Calls prog 249 #[.agg #[.slice a (dg n).length cap]] w _ := (callsIn_wide (n := 1001)).1 h1
      rw [hl]
      show Calls prog 249 #[.agg #[.slice a (dg n).length cap]] w _
      refine h2.mono ?_
      rintro e w' ⟨rfl, hb⟩
      exact ⟨hb, [.int .u64 n], rfl, ⟨rfl, rfl⟩, trivial⟩
    | [], hus => exact hus.elim
    | _ :: _ :: _, hus => exact hus.2.elim
  | [], hv => exact hv.elim
  | _ :: _ :: _, hv => exact hv.2.elim
end Go.Sy
namespace Go.Sy
open Go Go.Proofs Tryz Ord

def t18_16 : Tr := .back 1 [(.w (W 14 0)), (.w (W 16 0))]
def t18_15 : Tr := .need (.prim [(W 13 0), (W 14 0)] none) (.binOp .rem 254 (.tmp 29) (.tmp 30) 254) 254 false t18_16
def t18_18 : Tr := .ret [(.agg [(U 16 0)])]
def t18_17 : Tr := .need (.call 195 [(W 13 0)] [(some 1)]) (.call ⟨.value (.func 195), #[(.tmp 32)], #[254]⟩) 35 true t18_18
def t18_14 : Tr := .split (.u 15 0) t18_15 t18_17
def t18_13 : Tr := .need (.prim [(W 14 0), (.one (.c (.k (.int .u64 (0)))))] none) (.binOp .neq 254 (.tmp 26) (.const (.int .u64 (0))) 254) 4 false t18_14
def t18_12 : Tr := .loop 1 [(.w (W 11 0)), (.w (W 12 0))] t18_13
def t18_11 : Tr := .need (.call 249 [(.agg [(U 3 0)])] [none]) (.call ⟨.value (.func 249), #[(.tmp 24)], #[35]⟩) 254 true t18_12
def t18_10 : Tr := .need (.call 249 [(.agg [(U 2 0)])] [none]) (.call ⟨.value (.func 249), #[(.tmp 22)], #[35]⟩) 254 false t18_11
def t18_20 : Tr := .back 0 [(.w (W 3 0)), (.w (W 12 0)), (.w (W 4 0))]
def t18_19 : Tr := .need (.call 193 [(.agg [(U 2 0)]), (.agg [(U 3 0)])] [(some 1), (some 1)]) (.call ⟨.value (.func 193), #[(.tmp 35), (.tmp 36)], #[35, 35]⟩) 251 false t18_20
def t18_9 : Tr := .split (.u 10 0) t18_10 t18_19
def t18_8 : Tr := .need (.prim [(W 9 0), (WK (2))] none) (.binOp .leq 3 (.tmp 19) (.const (I3 (2))) 3) 4 false t18_9
def t18_7 : Tr := .need (.prim [(W 3 0)] none) (.call ⟨.builtin .len, #[(.tmp 18)], #[33]⟩) 3 false t18_8
def t18_22 : Tr := .back 0 [(.w (W 3 0)), (.w (W 10 0)), (.w (W 4 0))]
def t18_21 : Tr := .need (.call 193 [(.agg [(U 2 0)]), (.agg [(U 3 0)])] [(some 1), (some 1)]) (.call ⟨.value (.func 193), #[(.tmp 35), (.tmp 36)], #[35, 35]⟩) 251 false t18_22
def t18_6 : Tr := .split (.u 8 0) t18_7 t18_21
def t18_5 : Tr := .need (.prim [(W 7 0), (WK (2))] none) (.binOp .leq 3 (.tmp 14) (.const (I3 (2))) 3) 4 false t18_6
def t18_4 : Tr := .need (.prim [(W 2 0)] none) (.call ⟨.builtin .len, #[(.tmp 13)], #[33]⟩) 3 false t18_5
def t18_23 : Tr := .ret [(.agg [(U 2 0)])]
def t18_3 : Tr := .split (.u 6 0) t18_4 t18_23
def t18_2 : Tr := .need (.prim [(W 5 0)] none) (.unOp .not 4 (.tmp 10)) 4 false t18_3
def t18_1 : Tr := .need (.call 179 [(.agg [(U 3 0)])] [none]) (.call ⟨.value (.func 179), #[(.tmp 9)], #[35]⟩) 4 true t18_2
def t18_0 : Tr := .loop 0 [(.w (W 0 0)), (.w (W 1 0)), (.w (.one (.c (.k (.slice none 0 0)))))] t18_1
theorem x_common : execF prog f191 (fun _ => none) [.v (some 1), .v (some 1)] = t18_0 := by kernel_rfl
def t19_12 : Tr := .back 0 [(.w (W 12 0)), (.w (W 11 0)), (.w (W 9 0))]
def t19_11 : Tr := .need (.prim [(W 3 0), (WK (2))] none) (.binOp .quo 3 (.tmp 9) (.const (I3 (2))) 3) 3 false t19_12
def t19_10 : Tr := .need (.call 118 [(.agg [(U 4 0)]), (.agg [(U 4 0)])] [(some 1)]) (.call ⟨.value (.func 118), #[(.tmp 19), (.tmp 20)], #[35, 35]⟩) 35 true t19_11
def t19_14 : Tr := .back 0 [(.w (W 11 0)), (.w (W 4 0)), (.w (W 9 0))]
def t19_13 : Tr := .need (.prim [(W 3 0), (WK (2))] none) (.binOp .quo 3 (.tmp 9) (.const (I3 (2))) 3) 3 false t19_14
def t19_9 : Tr := .split (.u 10 0) t19_10 t19_13
def t19_8 : Tr := .need (.prim [(W 3 0), (WK (1))] none) (.binOp .gtr 3 (.tmp 17) (.const (I3 (1))) 3) 4 false t19_9
def t19_7 : Tr := .need (.call 118 [(.agg [(U 5 0)]), (.agg [(U 4 0)])] [(some 1)]) (.call ⟨.value (.func 118), #[(.tmp 14), (.tmp 15)], #[35, 35]⟩) 35 true t19_8
def t19_19 : Tr := .back 0 [(.w (W 11 0)), (.w (W 10 0)), (.w (W 5 0))]
def t19_18 : Tr := .need (.prim [(W 3 0), (WK (2))] none) (.binOp .quo 3 (.tmp 9) (.const (I3 (2))) 3) 3 false t19_19
def t19_17 : Tr := .need (.call 118 [(.agg [(U 4 0)]), (.agg [(U 4 0)])] [(some 1)]) (.call ⟨.value (.func 118), #[(.tmp 19), (.tmp 20)], #[35, 35]⟩) 35 true t19_18
def t19_21 : Tr := .back 0 [(.w (W 10 0)), (.w (W 4 0)), (.w (W 5 0))]
def t19_20 : Tr := .need (.prim [(W 3 0), (WK (2))] none) (.binOp .quo 3 (.tmp 9) (.const (I3 (2))) 3) 3 false t19_21
def t19_16 : Tr := .split (.u 9 0) t19_17 t19_20
def t19_15 : Tr := .need (.prim [(W 3 0), (WK (1))] none) (.binOp .gtr 3 (.tmp 17) (.const (I3 (1))) 3) 4 false t19_16
def t19_6 : Tr := .split (.u 8 0) t19_7 t19_15
def t19_5 : Tr := .need (.prim [(W 7 0), (WK (1))] none) (.binOp .eql 3 (.tmp 12) (.const (I3 (1))) 3) 4 false t19_6
def t19_4 : Tr := .need (.prim [(W 3 0), (WK (2))] none) (.binOp .rem 3 (.tmp 11) (.const (I3 (2))) 3) 3 false t19_5
def t19_22 : Tr := .ret [(.agg [(U 5 0)])]
def t19_3 : Tr := .split (.u 6 0) t19_4 t19_22
def t19_2 : Tr := .need (.prim [(W 3 0), (WK (0))] none) (.binOp .gtr 3 (.tmp 7) (.const (I3 (0))) 3) 4 false t19_3
def t19_1 : Tr := .loop 0 [(.w (W 1 0)), (.w (W 0 0)), (.w (W 2 0))] t19_2
def t19_0 : Tr := .need (.call 195 [(.one (.c (.k (.int .u64 (1)))))] [(some 1)]) (.call ⟨.value (.func 195), #[(.const (.int .u64 (1)))], #[254]⟩) 35 true t19_1
theorem x_power : execF prog f282 (fun _ => none) [.v (some 1), .v none] = t19_0 := by kernel_rfl
def t20_3 : Tr := .ret [(.agg [(U 4 0), (U 4 1)])]
def t20_2 : Tr := .need (.call 155 [(W 2 0), (.agg [(U 3 0)])] [(some 2)]) (.call ⟨.value (.func 155), #[(.tmp 9), (.tmp 14)], #[4, 35]⟩) 37 true t20_3
def t20_1 : Tr := .need (.call 118 [(.agg [(U 0 0)]), (.agg [(U 1 0)])] [(some 1)]) (.call ⟨.value (.func 118), #[(.tmp 11), (.tmp 13)], #[35, 35]⟩) 35 true t20_2
def t20_0 : Tr := .need (.prim [(W 0 1), (W 1 1)] none) (.binOp .neq 4 (.tmp 6) (.tmp 8) 4) 4 false t20_1
theorem x_imul : execF prog f116 (fun _ => none) [.v (some 2), .v (some 2)] = t20_0 := by kernel_rfl
def t21_3 : Tr := .need (.call 155 [(W 0 1), (.agg [(U 3 0)])] [(some 2)]) (.call ⟨.value (.func 155), #[(.tmp 12), (.tmp 17)], #[4, 35]⟩) 37 true t20_3
def t21_2 : Tr := .need (.call 196 [(.agg [(U 0 0)]), (.agg [(U 1 0)])] [(some 1)]) (.call ⟨.value (.func 196), #[(.tmp 14), (.tmp 16)], #[35, 35]⟩) 35 true t21_3
def t21_10 : Tr := .ret [(.agg [(U 6 0), (U 6 1)])]
def t21_9 : Tr := .need (.call 155 [(W 1 1), (.agg [(U 5 0)])] [(some 2)]) (.call ⟨.value (.func 155), #[(.tmp 27), (.tmp 32)], #[4, 35]⟩) 37 true t21_10
def t21_8 : Tr := .need (.call 194 [(.agg [(U 1 0)]), (.agg [(U 0 0)])] [(some 1)]) (.call ⟨.value (.func 194), #[(.tmp 29), (.tmp 31)], #[35, 35]⟩) 35 true t21_9
def t21_12 : Tr := .need (.call 155 [(W 0 1), (.agg [(U 5 0)])] [(some 2)]) (.call ⟨.value (.func 155), #[(.tmp 35), (.tmp 40)], #[4, 35]⟩) 37 true t21_10
def t21_11 : Tr := .need (.call 194 [(.agg [(U 0 0)]), (.agg [(U 1 0)])] [(some 1)]) (.call ⟨.value (.func 194), #[(.tmp 37), (.tmp 39)], #[35, 35]⟩) 35 true t21_12
def t21_7 : Tr := .split (.u 4 0) t21_8 t21_11
def t21_6 : Tr := .need (.prim [(W 3 0), (WK (0))] none) (.binOp .lss 3 (.tmp 24) (.const (I3 (0))) 3) 4 false t21_7
def t21_5 : Tr := .need (.call 119 [(.agg [(U 0 0)]), (.agg [(U 1 0)])] [none]) (.call ⟨.value (.func 119), #[(.tmp 21), (.tmp 23)], #[35, 35]⟩) 3 true t21_6
def t21_1 : Tr := .split (.u 2 0) t21_2 t21_5
def t21_0 : Tr := .need (.prim [(W 0 1), (W 1 1)] none) (.binOp .eql 4 (.tmp 7) (.tmp 9) 4) 4 false t21_1
theorem x_iadd : execF prog f154 (fun _ => none) [.v (some 2), .v (some 2)] = t21_0 := by kernel_rfl
def t23_6 : Tr := .ret [(.agg [(U 5 0), (U 5 1)])]
def t23_5 : Tr := .need (.call 155 [(.one (.c (.k (.bool true)))), (.agg [(U 4 0)])] [(some 2)]) (.call ⟨.value (.func 155), #[(.const (.bool true)), (.tmp 8)], #[4, 35]⟩) 37 true t23_6
def t23_4 : Tr := .need (.call 195 [(W 3 0)] [(some 1)]) (.call ⟨.value (.func 195), #[(.tmp 7)], #[254]⟩) 35 true t23_5
def t23_3 : Tr := .need (.prim [(W 2 0)] none) (.unOp .neg 254 (.tmp 6)) 254 false t23_4
def t23_2 : Tr := .need (.prim [(W 0 0)] none) (.convert 2 254 (.tmp 5)) 254 false t23_3
def t23_9 : Tr := .need (.call 155 [(.one (.c (.k (.bool false)))), (.agg [(U 3 0)])] [(some 2)]) (.call ⟨.value (.func 155), #[(.const (.bool false)), (.tmp 12)], #[4, 35]⟩) 37 true t20_3
def t23_8 : Tr := .need (.call 195 [(W 2 0)] [(some 1)]) (.call ⟨.value (.func 195), #[(.tmp 11)], #[254]⟩) 35 true t23_9
def t23_7 : Tr := .need (.prim [(W 0 0)] none) (.convert 2 254 (.tmp 10)) 254 false t23_8
def t23_1 : Tr := .split (.u 1 0) t23_2 t23_7
def t23_0 : Tr := .need (.prim [(W 0 0), (WK (0))] none) (.binOp .lss 2 (.tmp 3) (.const (I3 (0))) 2) 4 false t23_1
theorem x_ofInt : execF prog f158 (fun _ => none) [.v none] = t23_0 := by kernel_rfl

theorem dl_bits {n B : Nat} (h : n < 2 ^ B) : (dg n).length ≤ B :=
  dl_le (Nat.lt_of_lt_of_le h (Nat.pow_le_pow_left (by omega) B))
theorem lt_18 {n : Nat} (h : (dg n).length ≤ 2) : n < 1000000000000000000 := by
  have h1 := lt_dl n
  have h2 : 1000000000 ^ (dg n).length ≤ 1000000000 ^ 2 := Nat.pow_le_pow_right (by omega) h
  rw [show (1000000000 : Nat) ^ 2 = 1000000000000000000 by decide] at h2
  omega

theorem d_mone (n : Nat) : Does prog 192 [(mT n : STy)] (.ret [.one (.bool (decide (n = 1)))]) := by
  refine does_of_vc (args := [.v (some 1)]) (ins := [.v (mT n)]) (hints := (fun _ => none)) fo (by kernel_rfl) func192 ⟨rfl, trivial⟩ ?_
  rw [x_mone]
  dsimp only [List.map, In.env, c_a, n_a]
  refine vn (p_len el33 (List.length_map _)) rfl ?_
  dsimp only [c_a, n_a]
  refine vn q_eql rfl ?_
  dsimp only [c_a, n_a]
  refine vs _ rfl (fun h2 => ?_) (fun h2 => ?_)
  · obtain ⟨d, hd⟩ : ∃ d, dg n = [d] := by
      match h : dg n with
      | [d] => exact ⟨d, rfl⟩
      | [] => rw [h] at h2; simp at h2
      | _ :: _ :: _ => rw [h] at h2; simp at h2; omega
    have hv := lv_dg n
    rw [hd] at hv
    refine vn (p_idxm el33 (by omega) (by omega) (show (dg n)[0]? = some d by rw [hd]; rfl)) rfl ?_
    dsimp only [c_a, n_a]
    refine vn (p_load1 ag255) rfl ?_
    dsimp only [c_a, n_a]
    refine vn q_eql rfl ?_
    dsimp only [c_a, n_a]
    refine vret ?_
    have hv : d = n := by simpa [lv, val] using hv
    subst hv
    show [STy.one (.bool (decide ((d : Int) = 1)))] = _
    have e : ((d : Int) = 1) ↔ d = 1 := by omega
    simp only [e]
  · refine vret ?_
    have : ¬ n = 1 := fun e => by
      subst e
      rw [dl_one (by omega) (by omega)] at h2
      exact h2 rfl
    simp [this]; rfl

set_option maxHeartbeats 1000000 in
theorem d_common (a b : Nat) (hs : (dg (max a b)).length < 137438953472) : Does prog 191 [(mT a : STy), (mT b : STy)] (.ret [mT (Nat.gcd a b)]) := by
  refine does_of_vc (args := [.v (some 1), .v (some 1)]) (ins := [.v (mT a), .v (mT b)]) (hints := (fun _ => none)) fo (by kernel_rfl) func191 ⟨rfl, rfl, trivial⟩ ?_
  rw [x_common]
  dsimp only [List.map, In.env, c_a, n_a]
  refine vloop {p : Nat × Nat // Nat.gcd p.1 p.2 = Nat.gcd a b ∧ p.1 ≤ max a b ∧ p.2 ≤ max a b} (fun p => [.one (dT p.1.1), .one (dT p.1.2), .one (.exact (.slice none 0 0))]) (fun p => p.1.2) ⟨(a, b), rfl, by omega, by omega⟩ SubL.rfl (fun _ => rfl) ?_
  rintro ⟨⟨x, y⟩, hg, hx, hy⟩
  dsimp only [c_a, n_a] at hg hx hy ⊢
  have hxl := dl_mono hx
  have hyl := dl_mono hy
  refine vcall (d_zero y) rfl ?_
  dsimp only [c_a, n_a]
  refine vn q_not rfl ?_
  dsimp only [c_a, n_a]
  refine vs _ rfl (fun h3 => ?_) (fun h3 => ?_)
  · have hy0 : 0 < y := by omega
    refine vn (p_len el33 (List.length_map _)) rfl ?_
    dsimp only [c_a, n_a]
    refine vn q_leq rfl ?_
    dsimp only [c_a, n_a]
    refine vs _ rfl (fun h6 => ?_) (fun h6 => ?_)
    · refine vn (p_len el33 (List.length_map _)) rfl ?_
      dsimp only [c_a, n_a]
      refine vn q_leq rfl ?_
      dsimp only [c_a, n_a]
      refine vs _ rfl (fun h9 => ?_) (fun h9 => ?_)
      · refine vcall (d_word x (lt_18 (by omega))) rfl ?_
        dsimp only [c_a, n_a]
        refine vcall (d_word y (lt_18 (by omega))) rfl ?_
        dsimp only [c_a, n_a]
        have hx18 := lt_18 (n := x) (by omega)
        have hy18 := lt_18 (n := y) (by omega)
        clear hxl hyl
        refine vloop {p : Nat × Nat // Nat.gcd p.1 p.2 = Nat.gcd a b ∧ p.1 < 1000000000000000000 ∧ p.2 < 1000000000000000000} (fun p => [.one (.int .u64 p.1.1), .one (.int .u64 p.1.2)]) (fun p => p.1.2) ⟨(x, y), hg, hx18, hy18⟩ SubL.rfl (fun _ => rfl) ?_
        rintro ⟨⟨p, q⟩, hpq, hp, hq⟩
        dsimp only [c_a, n_a] at hpq hp hq ⊢
        refine vn q_neq rfl ?_
        dsimp only [c_a, n_a]
        refine vs _ rfl (fun h14 => ?_) (fun h14 => ?_)
        · refine vn (p_rem (c := ((p % q : Nat) : Int)) (by omega) (by rw [Int.tmod_eq_emod_of_nonneg (cast_nn _), ← Int.natCast_emod])) rfl ?_
          dsimp only [c_a, n_a]
          exact vback rfl ⟨⟨(q, p % q), by rw [← hpq, Nat.gcd_comm p q, Nat.gcd_rec q p, Nat.gcd_comm], hq, Nat.lt_of_le_of_lt (Nat.mod_le _ _) hp⟩, SubL.rfl, Nat.mod_lt _ (by omega)⟩
        · have hq0 : q = 0 := by omega
          subst hq0
          rw [Nat.gcd_zero_right] at hpq
          refine vcall (d_small p (by omega)) rfl ?_
          dsimp only [c_a, n_a]
          rw [hpq]; exact vret rfl
      · refine vcall (d_over x y hy0 (by omega)) rfl ?_
        dsimp only [c_a, n_a]
        exact vback rfl ⟨⟨(y, x % y), by rw [← hg, Nat.gcd_comm x y, Nat.gcd_rec y x, Nat.gcd_comm], hy, Nat.le_trans (Nat.mod_le _ _) hx⟩, SubL.rfl, Nat.mod_lt _ hy0⟩
    · refine vcall (d_over x y hy0 (by omega)) rfl ?_
      dsimp only [c_a, n_a]
      exact vback rfl ⟨⟨(y, x % y), by rw [← hg, Nat.gcd_comm x y, Nat.gcd_rec y x, Nat.gcd_comm], hy, Nat.le_trans (Nat.mod_le _ _) hx⟩, SubL.rfl, Nat.mod_lt _ hy0⟩
  · have hy0 : y = 0 := by omega
    subst hy0
    rw [Nat.gcd_zero_right] at hg
    rw [hg]; exact vret rfl

theorem pow_lt_pow2 {a B n : Nat} (h : a < 2 ^ B) (hB : 1 ≤ B) : a ^ n < 2 ^ (B * n + 1) := by
  rw [Nat.pow_succ, Nat.pow_mul]
  have h1 : a ^ n ≤ (2 ^ B) ^ n := Nat.pow_le_pow_left (Nat.le_of_lt h) n
  have h2 : 0 < (2 ^ B) ^ n := Nat.pow_pos (Nat.pow_pos (by omega))
  omega

/-- squares and halves -/
structure PwInv (a n : Nat) (k x y : Nat) : Prop where
  eq : y * x ^ k = a ^ n
  z : a = 0 → x = 0
  x1 : k ≠ 0 → x ≤ max 1 (a ^ n)
  y1 : y ≤ max 1 (a ^ n)
theorem PwInv.mk' {a n k x y : Nat} (hn : n ≠ 0) (eq : y * x ^ k = a ^ n) (z : a = 0 → x = 0) (hy : x = 0 → y ≤ 1) : PwInv a n k x y := by
  have hk : ∀ t, 0 < t → t ≤ x → 0 < x ^ k := fun t h1 h2 => Nat.pow_pos (by omega)
  refine ⟨eq, z, fun h0 => ?_, ?_⟩
  · rcases Nat.eq_zero_or_pos x with hx | hx
    · omega
    · rcases Nat.eq_zero_or_pos y with hy0 | hy0
      · rw [hy0, Nat.zero_mul] at eq
        have := z (Nat.eq_zero_of_not_pos fun ha => by have := Nat.pow_pos (n := n) ha; omega)
        omega
      · have h1 : x ≤ x ^ k := Nat.le_self_pow h0 x
        have h2 : x ^ k ≤ y * x ^ k := Nat.le_mul_of_pos_left _ hy0
        omega
  · rcases Nat.eq_zero_or_pos x with hx | hx
    · have := hy hx; omega
    · have h2 : y ≤ y * x ^ k := Nat.le_mul_of_pos_right _ (Nat.pow_pos hx)
      omega

set_option maxHeartbeats 1000000 in
theorem d_power (a n : Nat) (B : Nat) (hB : 1 ≤ B) (ha : a < 2 ^ B) (hn : n < 1099511627776) (hs : B * n < 137438953472) : Does prog 282 [(mT a : STy), (.one (.int .i64 n) : STy)] (.ret [mT (a ^ n)]) := by
  refine does_of_vc (args := [.v (some 1), .v none]) (ins := [.v (mT a), .v (.one (.int .i64 n))]) (hints := (fun _ => none)) fo (by kernel_rfl) func282 ⟨rfl, rfl, trivial⟩ ?_
  rw [x_power]
  dsimp only [List.map, In.env, c_a, n_a]
  have hbd : ∀ j, j ≤ max 1 (a ^ n) → (dg j).length ≤ B * n + 1 := fun j hj => dl_bits (by
    have h1 := pow_lt_pow2 (n := n) ha hB
    have h2 : 2 ^ 1 ≤ 2 ^ (B * n + 1) := Nat.pow_le_pow_right (by omega) (by omega)
    omega)
  refine vcall (d_small 1 (by omega)) rfl ?_
  dsimp only [c_a, n_a]
  refine vloop {p : Nat × Nat × Nat // PwInv a n p.1 p.2.1 p.2.2 ∧ (p.1 ≠ 0 → n ≠ 0) ∧ (p.2.1 = 0 → p.2.2 ≤ 1) ∧ p.1 ≤ n} (fun p => [.one (.int .i64 p.1.1), .one (dT p.1.2.1), .one (dT p.1.2.2)]) (fun p => p.1.1) ⟨(n, a, 1), ⟨by simp, fun h => h, fun h => by have := Nat.le_self_pow h a; show a ≤ max 1 (a ^ n); exact Nat.le_trans this (Nat.le_max_right _ _), Nat.le_max_left _ _⟩, fun h => h, fun _ => Nat.le_refl _, Nat.le_refl _⟩ SubL.rfl (fun _ => rfl) ?_
  rintro ⟨⟨k, x, y⟩, hI, hn0, hy1, hkn⟩
  dsimp only [c_a, n_a] at hI hn0 hy1 hkn ⊢
  have hyl := hbd y hI.y1
  refine vn q_gtr rfl ?_
  dsimp only [c_a, n_a]
  refine vs _ rfl (fun h3 => ?_) (fun h3 => ?_)
  · have hk0 : k ≠ 0 := by omega
    have hnn := hn0 hk0
    have hxl := hbd x (hI.x1 hk0)
    have hev : k % 2 = 0 → y * (x * x) ^ (k / 2) = a ^ n := fun h => by
      rw [← hI.eq, ← Nat.pow_two, ← Nat.pow_mul]; congr 2; omega
    have hod : k % 2 = 1 → y * x * (x * x) ^ (k / 2) = a ^ n := fun h => by
      rw [← hI.eq, ← Nat.pow_two, ← Nat.pow_mul, Nat.mul_assoc, ← Nat.pow_succ']; congr 2; omega
    have hz2 : a = 0 → x * x = 0 := fun h => by rw [hI.z h]
    have hx2 : x * x = 0 → x = 0 := fun h => by rcases Nat.mul_eq_zero.1 h with h | h <;> exact h
    have hyx2 : x = 0 → y * x ≤ 1 := fun h => by rw [h]; omega
    refine vn (p_rem_n (by omega) (by omega)) rfl ?_
    dsimp only [c_a, n_a]
    refine vn q_eql rfl ?_
    dsimp only [c_a, n_a]
    refine vs _ rfl (fun h6 => ?_) (fun h6 => ?_)
    · refine vcall (d_times y x (by omega)) rfl ?_
      dsimp only [c_a, n_a]
      refine vn q_gtr rfl ?_
      dsimp only [c_a, n_a]
      refine vs _ rfl (fun h9 => ?_) (fun h9 => ?_)
      · refine vcall (d_times x x (by omega)) rfl ?_
        dsimp only [c_a, n_a]
        refine vn (p_quo_i64 (by omega) (by omega) (by omega)) rfl ?_
        dsimp only [c_a, n_a]
        exact vback rfl ⟨⟨(k / 2, x * x, y * x), PwInv.mk' hnn (hod (by omega)) hz2 (hyx2 ∘ hx2), fun _ => hnn, hyx2 ∘ hx2, by show k / 2 ≤ n; omega⟩, SubL.rfl, by show k / 2 < k; omega⟩
      · refine vn (p_quo_i64 (by omega) (by omega) (by omega)) rfl ?_
        dsimp only [c_a, n_a]
        have hk1 : k = 1 := by omega
        subst hk1
        exact vback rfl ⟨⟨(1 / 2, x, y * x), PwInv.mk' hnn (by have := hI.eq; rw [Nat.pow_one] at this; simpa using this) hI.z hyx2, fun _ => hnn, hyx2, by show 1 / 2 ≤ n; omega⟩, SubL.rfl, by show 1 / 2 < 1; omega⟩
    · refine vn q_gtr rfl ?_
      dsimp only [c_a, n_a]
      refine vs _ rfl (fun h16 => ?_) (fun h16 => ?_)
      · refine vcall (d_times x x (by omega)) rfl ?_
        dsimp only [c_a, n_a]
        refine vn (p_quo_i64 (by omega) (by omega) (by omega)) rfl ?_
        dsimp only [c_a, n_a]
        exact vback rfl ⟨⟨(k / 2, x * x, y), PwInv.mk' hnn (hev (by omega)) hz2 (fun h => hy1 (hx2 h)), fun _ => hnn, fun h => hy1 (hx2 h), by show k / 2 ≤ n; omega⟩, SubL.rfl, by show k / 2 < k; omega⟩
      · exfalso; omega
        -- stop
  · have hk0 : k = 0 := by omega
    subst hk0
    have := hI.eq
    rw [Nat.pow_zero, Nat.mul_one] at this
    rw [this]; exact vret rfl
end Go.Sy
namespace Go.Sy
open Go Go.Proofs Tryz Ord

def t24_9 : Tr := .ret [(.agg [(U 9 0), (U 9 1), (U 11 0)])]
def t24_8 : Tr := .need (.call 194 [(.agg [(U 7 0)]), (.agg [(U 10 0)])] [(some 1)]) (.call ⟨.value (.func 194), #[(.tmp 32), (.tmp 33)], #[35, 35]⟩) 35 true t24_9
def t24_7 : Tr := .need (.call 195 [(.one (.c (.k (.int .u64 (1)))))] [(some 1)]) (.call ⟨.value (.func 195), #[(.const (.int .u64 (1)))], #[254]⟩) 35 false t24_8
def t24_6 : Tr := .need (.call 155 [(W 0 1), (.agg [(U 5 0)])] [(some 2)]) (.call ⟨.value (.func 155), #[(.tmp 28), (.tmp 30)], #[4, 35]⟩) 37 false t24_7
def t24_5 : Tr := .need (.call 193 [(.agg [(U 1 0)]), (.agg [(U 2 0)])] [(some 1), (some 1)]) (.call ⟨.value (.func 193), #[(.tmp 22), (.tmp 23)], #[35, 35]⟩) 251 false t24_6
def t24_4 : Tr := .need (.call 193 [(.agg [(U 0 0)]), (.agg [(U 2 0)])] [(some 1), (some 1)]) (.call ⟨.value (.func 193), #[(.tmp 15), (.tmp 16)], #[35, 35]⟩) 251 false t24_5
def t24_13 : Tr := .ret [(.agg [(U 5 0), (U 5 1), (U 7 0)])]
def t24_12 : Tr := .need (.call 194 [(.agg [(U 1 0)]), (.agg [(U 6 0)])] [(some 1)]) (.call ⟨.value (.func 194), #[(.tmp 32), (.tmp 33)], #[35, 35]⟩) 35 true t24_13
def t24_11 : Tr := .need (.call 195 [(.one (.c (.k (.int .u64 (1)))))] [(some 1)]) (.call ⟨.value (.func 195), #[(.const (.int .u64 (1)))], #[254]⟩) 35 false t24_12
def t24_10 : Tr := .need (.call 155 [(W 0 1), (.agg [(U 0 0)])] [(some 2)]) (.call ⟨.value (.func 155), #[(.tmp 28), (.tmp 30)], #[4, 35]⟩) 37 false t24_11
def t24_3 : Tr := .split (.u 4 0) t24_4 t24_10
def t24_2 : Tr := .need (.prim [(W 3 0)] none) (.unOp .not 4 (.tmp 11)) 4 false t24_3
def t24_1 : Tr := .need (.call 192 [(.agg [(U 2 0)])] [none]) (.call ⟨.value (.func 192), #[(.tmp 10)], #[35]⟩) 4 true t24_2
def t24_0 : Tr := .need (.call 191 [(.agg [(U 0 0)]), (.agg [(U 1 0)])] [(some 1)]) (.call ⟨.value (.func 191), #[(.tmp 7), (.tmp 8)], #[35, 35]⟩) 35 true t24_1
theorem x_ratio : execF prog f115 (fun _ => none) [.v (some 2), .v (some 1)] = t24_0 := by kernel_rfl
def t25_1 : Tr := .need (.call 196 [(.agg [(U 0 2)]), (.agg [(U 1 0)])] [(some 1)]) (.call ⟨.value (.func 196), #[(.tmp 4), (.tmp 5)], #[35, 35]⟩) 35 true t18_23
def t25_0 : Tr := .need (.call 195 [(.one (.c (.k (.int .u64 (1)))))] [(some 1)]) (.call ⟨.value (.func 195), #[(.const (.int .u64 (1)))], #[254]⟩) 35 true t25_1
theorem x_Qbottom : execF prog f117 (fun _ => none) [.v (some 3)] = t25_0 := by kernel_rfl
def t26_0 : Tr := .ret [(.agg [(U 0 0), (U 0 1), (.c (.k (.slice none 0 0)))])]
theorem x_whole : execF prog f157 (fun _ => none) [.v (some 2)] = t26_0 := by kernel_rfl
def t27_2 : Tr := .ret [(.agg [(U 2 0), (U 2 1), (U 2 2)])]
def t27_1 : Tr := .need (.call 157 [(.agg [(U 1 0), (U 1 1)])] [(some 3)]) (.call ⟨.value (.func 157), #[(.tmp 4)], #[37]⟩) 39 true t27_2
def t27_0 : Tr := .need (.call 158 [(W 0 0)] [(some 2)]) (.call ⟨.value (.func 158), #[(.tmp 3)], #[2]⟩) 37 true t27_1
theorem x_Int : execF prog f68 (fun _ => none) [.v none] = t27_0 := by kernel_rfl
def t28_2 : Tr := .ret [(W 3 0)]
def t28_1 : Tr := .need (.prim [(WK (0)), (W 2 0)] none) (.call ⟨.builtin .max, #[(.const (I3 (0))), (.tmp 7)], #[3, 3]⟩) 3 false t28_2
def t28_0 : Tr := .need (.prim [(W 0 0), (W 1 0)] none) (.call ⟨.builtin .min, #[(.tmp 5), (.tmp 6)], #[3, 3]⟩) 3 false t28_1
theorem x_within : execF prog f283 (fun _ => none) [.v none, .v none] = t28_0 := by kernel_rfl
def t29_1 : Tr := .ret [(W 1 0)]
def t29_0 : Tr := .need (.call 114 [(.agg [(U 0 0), (U 0 1)])] [none]) (.call ⟨.value (.func 114), #[(.tmp 4)], #[37]⟩) 3 true t29_1
theorem x_QSign : execF prog f35 (fun _ => none) [.v (some 3)] = t29_0 := by kernel_rfl
def t30_2 : Tr := .ret [(.agg [(U 2 0), (U 2 1), (U 0 2)])]
def t30_1 : Tr := .need (.call 155 [(W 1 0), (.agg [(U 0 0)])] [(some 2)]) (.call ⟨.value (.func 155), #[(.tmp 6), (.tmp 9)], #[4, 35]⟩) 37 false t30_2
def t30_0 : Tr := .need (.prim [(W 0 1)] none) (.unOp .not 4 (.tmp 5)) 4 false t30_1
theorem x_QNeg : execF prog f65 (fun _ => none) [.v (some 3)] = t30_0 := by kernel_rfl
def t31_1 : Tr := .ret [(.agg [(U 1 0), (U 1 1), (U 0 2)])]
def t31_0 : Tr := .need (.call 155 [(.one (.c (.k (.bool false)))), (.agg [(U 0 0)])] [(some 2)]) (.call ⟨.value (.func 155), #[(.const (.bool false)), (.tmp 5)], #[4, 35]⟩) 37 false t31_1
theorem x_QAbs : execF prog f146 (fun _ => none) [.v (some 3)] = t31_0 := by kernel_rfl
def t32_7 : Tr := .ret [(.agg [(U 8 0), (U 8 1), (U 8 2)])]
def t32_6 : Tr := .need (.call 115 [(.agg [(U 6 0), (U 6 1)]), (.agg [(U 7 0)])] [(some 3)]) (.call ⟨.value (.func 115), #[(.tmp 21), (.tmp 24)], #[37, 35]⟩) 39 true t32_7
def t32_5 : Tr := .need (.call 118 [(.agg [(U 2 0)]), (.agg [(U 3 0)])] [(some 1)]) (.call ⟨.value (.func 118), #[(.tmp 22), (.tmp 23)], #[35, 35]⟩) 35 true t32_6
def t32_4 : Tr := .need (.call 154 [(.agg [(U 4 0), (U 4 1)]), (.agg [(U 5 0), (U 5 1)])] [(some 2)]) (.call ⟨.value (.func 154), #[(.tmp 15), (.tmp 20)], #[37, 37]⟩) 37 false t32_5
def t32_3 : Tr := .need (.call 116 [(.agg [(U 1 0), (U 1 1)]), (.agg [(U 2 0), (.c (.k (.bool false)))])] [(some 2)]) (.call ⟨.value (.func 116), #[(.tmp 17), (.tmp 19)], #[37, 37]⟩) 37 false t32_4
def t32_2 : Tr := .need (.call 116 [(.agg [(U 0 0), (U 0 1)]), (.agg [(U 3 0), (.c (.k (.bool false)))])] [(some 2)]) (.call ⟨.value (.func 116), #[(.tmp 12), (.tmp 14)], #[37, 37]⟩) 37 false t32_3
def t32_1 : Tr := .need (.call 117 [(.agg [(U 1 0), (U 1 1), (U 1 2)])] [(some 1)]) (.call ⟨.value (.func 117), #[(.tmp 9)], #[39]⟩) 35 true t32_2
def t32_0 : Tr := .need (.call 117 [(.agg [(U 0 0), (U 0 1), (U 0 2)])] [(some 1)]) (.call ⟨.value (.func 117), #[(.tmp 7)], #[39]⟩) 35 false t32_1
theorem x_QAdd : execF prog f64 (fun _ => none) [.v (some 3), .v (some 3)] = t32_0 := by kernel_rfl
def t33_2 : Tr := .ret [(.agg [(U 3 0), (U 3 1), (U 3 2)])]
def t33_1 : Tr := .need (.call 64 [(.agg [(U 0 0), (U 0 1), (U 0 2)]), (.agg [(U 2 0), (U 2 1), (U 2 2)])] [(some 3)]) (.call ⟨.value (.func 64), #[(.tmp 5), (.tmp 7)], #[39, 39]⟩) 39 true t33_2
def t33_0 : Tr := .need (.call 65 [(.agg [(U 1 0), (U 1 1), (U 1 2)])] [(some 3)]) (.call ⟨.value (.func 65), #[(.tmp 6)], #[39]⟩) 39 true t33_1
theorem x_QSub : execF prog f167 (fun _ => none) [.v (some 3), .v (some 3)] = t33_0 := by kernel_rfl
def t34_5 : Tr := .ret [(.agg [(U 6 0), (U 6 1), (U 6 2)])]
def t34_4 : Tr := .need (.call 115 [(.agg [(U 2 0), (U 2 1)]), (.agg [(U 5 0)])] [(some 3)]) (.call ⟨.value (.func 115), #[(.tmp 9), (.tmp 14)], #[37, 35]⟩) 39 true t34_5
def t34_3 : Tr := .need (.call 118 [(.agg [(U 3 0)]), (.agg [(U 4 0)])] [(some 1)]) (.call ⟨.value (.func 118), #[(.tmp 11), (.tmp 13)], #[35, 35]⟩) 35 true t34_4
def t34_2 : Tr := .need (.call 117 [(.agg [(U 1 0), (U 1 1), (U 1 2)])] [(some 1)]) (.call ⟨.value (.func 117), #[(.tmp 12)], #[39]⟩) 35 false t34_3
def t34_1 : Tr := .need (.call 117 [(.agg [(U 0 0), (U 0 1), (U 0 2)])] [(some 1)]) (.call ⟨.value (.func 117), #[(.tmp 10)], #[39]⟩) 35 false t34_2
def t34_0 : Tr := .need (.call 116 [(.agg [(U 0 0), (U 0 1)]), (.agg [(U 1 0), (U 1 1)])] [(some 2)]) (.call ⟨.value (.func 116), #[(.tmp 6), (.tmp 8)], #[37, 37]⟩) 37 false t34_1
theorem x_QMul : execF prog f36 (fun _ => none) [.v (some 3), .v (some 3)] = t34_0 := by kernel_rfl
def t35_6 : Tr := .ret [(.agg [(U 7 0), (U 7 1), (U 7 2)])]
def t35_5 : Tr := .need (.call 115 [(.agg [(U 4 0), (U 4 1)]), (.agg [(U 6 0)])] [(some 3)]) (.call ⟨.value (.func 115), #[(.tmp 13), (.tmp 19)], #[37, 35]⟩) 39 true t35_6
def t35_4 : Tr := .need (.call 118 [(.agg [(U 5 0)]), (.agg [(U 1 0)])] [(some 1)]) (.call ⟨.value (.func 118), #[(.tmp 15), (.tmp 18)], #[35, 35]⟩) 35 true t35_5
def t35_3 : Tr := .need (.call 117 [(.agg [(U 0 0), (U 0 1), (U 0 2)])] [(some 1)]) (.call ⟨.value (.func 117), #[(.tmp 14)], #[39]⟩) 35 false t35_4
def t35_2 : Tr := .need (.call 116 [(.agg [(U 0 0), (U 0 1)]), (.agg [(U 3 0), (U 3 1)])] [(some 2)]) (.call ⟨.value (.func 116), #[(.tmp 6), (.tmp 12)], #[37, 37]⟩) 37 false t35_3
def t35_1 : Tr := .need (.call 155 [(W 1 1), (.agg [(U 2 0)])] [(some 2)]) (.call ⟨.value (.func 155), #[(.tmp 9), (.tmp 11)], #[4, 35]⟩) 37 false t35_2
def t35_0 : Tr := .need (.call 117 [(.agg [(U 1 0), (U 1 1), (U 1 2)])] [(some 1)]) (.call ⟨.value (.func 117), #[(.tmp 10)], #[39]⟩) 35 false t35_1
theorem x_Qover : execF prog f255 (fun _ => none) [.v (some 3), .v (some 3)] = t35_0 := by kernel_rfl
def t36_3 : Tr := .ret [(.agg [(.c (.k (.slice none 0 0))), (.c (.k (.bool false))), (.c (.k (.slice none 0 0)))]), (WK (9))]
def t36_5 : Tr := .ret [(.agg [(U 4 0), (U 4 1), (U 4 2)]), (WK (0))]
def t36_4 : Tr := .need (.call 255 [(.agg [(U 0 0), (U 0 1), (U 0 2)]), (.agg [(U 1 0), (U 1 1), (U 1 2)])] [(some 3)]) (.call ⟨.value (.func 255), #[(.tmp 10), (.tmp 11)], #[39, 39]⟩) 39 true t36_5
def t36_2 : Tr := .split (.u 3 0) t36_3 t36_4
def t36_1 : Tr := .need (.prim [(W 2 0), (WK (0))] none) (.binOp .eql 3 (.tmp 7) (.const (I3 (0))) 3) 4 false t36_2
def t36_0 : Tr := .need (.call 35 [(.agg [(U 1 0), (U 1 1), (U 1 2)])] [none]) (.call ⟨.value (.func 35), #[(.tmp 6)], #[39]⟩) 3 true t36_1
theorem x_QDiv : execF prog f200 (fun _ => none) [.v (some 3), .v (some 3)] = t36_0 := by kernel_rfl
def t37_3 : Tr := .ret [(.agg [(U 4 0), (U 4 1), (U 4 2)]), (W 5 0)]
def t37_2 : Tr := .need (.call 200 [(.agg [(U 2 0), (U 2 1), (U 2 2)]), (.agg [(U 3 0), (U 3 1), (U 3 2)])] [(some 3), none]) (.call ⟨.value (.func 200), #[(.tmp 7), (.tmp 9)], #[39, 39]⟩) 90 true t37_3
def t37_1 : Tr := .need (.call 68 [(W 1 0)] [(some 3)]) (.call ⟨.value (.func 68), #[(.tmp 8)], #[2]⟩) 39 false t37_2
def t37_0 : Tr := .need (.call 68 [(W 0 0)] [(some 3)]) (.call ⟨.value (.func 68), #[(.tmp 6)], #[2]⟩) 39 false t37_1
theorem x_Of : execF prog f120 (fun _ => none) [.v none, .v none] = t37_0 := by kernel_rfl
def t38_8 : Tr := .ret [(W 8 0)]
def t38_7 : Tr := .need (.prim [(W 5 0), (W 7 0)] none) (.binOp .sub 3 (.tmp 20) (.tmp 24) 3) 3 false t38_8
def t38_6 : Tr := .need (.prim [(W 6 0), (WK (2))] none) (.binOp .quo 3 (.tmp 23) (.const (I3 (2))) 3) 3 false t38_7
def t38_5 : Tr := .need (.prim [(W 2 0), (W 3 0)] none) (.binOp .sub 3 (.tmp 21) (.tmp 22) 3) 3 false t38_6
def t38_4 : Tr := .need (.prim [(W 2 0), (W 3 0)] none) (.binOp .sub 3 (.tmp 18) (.tmp 19) 3) 3 false t38_5
def t38_15 : Tr := .ret [(W 9 0)]
def t38_14 : Tr := .need (.prim [(W 6 0), (W 8 0)] none) (.binOp .sub 3 (.tmp 20) (.tmp 24) 3) 3 false t38_15
def t38_13 : Tr := .need (.prim [(W 7 0), (WK (2))] none) (.binOp .quo 3 (.tmp 23) (.const (I3 (2))) 3) 3 false t38_14
def t38_12 : Tr := .need (.prim [(W 2 0), (W 3 0)] none) (.binOp .sub 3 (.tmp 21) (.tmp 22) 3) 3 false t38_13
def t38_11 : Tr := .need (.prim [(W 2 0), (W 3 0)] none) (.binOp .sub 3 (.tmp 18) (.tmp 19) 3) 3 false t38_12
def t38_23 : Tr := .ret [(W 12 0)]
def t38_22 : Tr := .need (.prim [(W 6 0), (W 11 0)] none) (.binOp .mul 3 (.tmp 27) (.tmp 40) 3) 3 false t38_23
def t38_21 : Tr := .need (.call 119 [(.agg [(U 8 0)]), (.agg [(U 10 0)])] [none]) (.call ⟨.value (.func 119), #[(.tmp 33), (.tmp 39)], #[35, 35]⟩) 3 true t38_22
def t38_20 : Tr := .need (.call 118 [(.agg [(U 1 0)]), (.agg [(U 9 0)])] [(some 1)]) (.call ⟨.value (.func 118), #[(.tmp 36), (.tmp 38)], #[35, 35]⟩) 35 false t38_21
def t38_19 : Tr := .need (.call 117 [(.agg [(U 0 0), (U 0 1), (U 0 2)])] [(some 1)]) (.call ⟨.value (.func 117), #[(.tmp 37)], #[39]⟩) 35 false t38_20
def t38_18 : Tr := .need (.call 118 [(.agg [(U 0 0)]), (.agg [(U 7 0)])] [(some 1)]) (.call ⟨.value (.func 118), #[(.tmp 30), (.tmp 32)], #[35, 35]⟩) 35 false t38_19
def t38_17 : Tr := .need (.call 117 [(.agg [(U 1 0), (U 1 1), (U 1 2)])] [(some 1)]) (.call ⟨.value (.func 117), #[(.tmp 31)], #[39]⟩) 35 false t38_18
def t38_16 : Tr := .need (.call 35 [(.agg [(U 0 0), (U 0 1), (U 0 2)])] [none]) (.call ⟨.value (.func 35), #[(.tmp 26)], #[39]⟩) 3 false t38_17
def t38_10 : Tr := .split (.u 5 0) t38_11 t38_16
def t38_9 : Tr := .need (.prim [(W 2 0), (WK (0))] none) (.binOp .eql 3 (.tmp 15) (.const (I3 (0))) 3) 4 false t38_10
def t38_3 : Tr := .split (.u 4 0) t38_4 t38_9
def t38_2 : Tr := .need (.prim [(W 2 0), (W 3 0)] none) (.binOp .neq 3 (.tmp 11) (.tmp 12) 3) 4 false t38_3
def t38_1 : Tr := .need (.call 35 [(.agg [(U 1 0), (U 1 1), (U 1 2)])] [none]) (.call ⟨.value (.func 35), #[(.tmp 9)], #[39]⟩) 3 true t38_2
def t38_0 : Tr := .need (.call 35 [(.agg [(U 0 0), (U 0 1), (U 0 2)])] [none]) (.call ⟨.value (.func 35), #[(.tmp 7)], #[39]⟩) 3 false t38_1
theorem x_QCmp : execF prog f38 (fun _ => none) [.v (some 3), .v (some 3)] = t38_0 := by kernel_rfl

theorem d_imul (x y : Int) (hs : (dg x.natAbs).length + (dg y.natAbs).length < 1099511627776) : Does prog 116 [(iT x : STy), (iT y : STy)] (.ret [iT (x * y)]) := by
  refine does_of_vc (args := [.v (some 2), .v (some 2)]) (ins := [.v (iT x), .v (iT y)]) (hints := (fun _ => none)) fo (by kernel_rfl) func116 ⟨rfl, rfl, trivial⟩ ?_
  rw [x_imul]
  dsimp only [List.map, In.env, c_a, n_a]
  refine vn (q_bneq un4) rfl ?_
  dsimp only [c_a, n_a]
  refine vcall (d_times _ _ hs) rfl ?_
  dsimp only [c_a, n_a]
  refine vcall (d_signed _ _ (x * y) (by
    rw [← Int.natAbs_mul]
    have hsg : (x * y).natAbs = x.natAbs * y.natAbs := Int.natAbs_mul _ _
    by_cases h1 : x < 0 <;> by_cases h2 : y < 0 <;> simp only [h1, h2, decide_true, decide_false, ne_eq, not_true_eq_false, not_false_eq_true, Bool.true_eq_false, Bool.false_eq_true, if_true, if_false]
    · have := Int.mul_pos_of_neg_of_neg h1 h2; omega
    · have := Int.mul_nonpos_of_nonpos_of_nonneg (Int.le_of_lt h1) (Int.not_lt.1 h2); omega
    · have := Int.mul_nonpos_of_nonneg_of_nonpos (Int.not_lt.1 h1) (Int.le_of_lt h2); omega
    · have := Int.mul_nonneg (Int.not_lt.1 h1) (Int.not_lt.1 h2); omega)) rfl ?_
  dsimp only [c_a, n_a]
  exact vret rfl

theorem d_iadd (x y : Int) (hs : (dg x.natAbs).length + (dg y.natAbs).length < 1099511627776) : Does prog 154 [(iT x : STy), (iT y : STy)] (.ret [iT (x + y)]) := by
  refine does_of_vc (args := [.v (some 2), .v (some 2)]) (ins := [.v (iT x), .v (iT y)]) (hints := (fun _ => none)) fo (by kernel_rfl) func154 ⟨rfl, rfl, trivial⟩ ?_
  rw [x_iadd]
  dsimp only [List.map, In.env, c_a, n_a]
  refine vn (q_beql un4) rfl ?_
  dsimp only [c_a, n_a]
  refine vs _ rfl (fun h1 => ?_) (fun h1 => ?_)
  · have h1 : x < 0 ↔ y < 0 := by simpa using h1
    refine vcall (d_plus _ _ hs) rfl ?_
    dsimp only [c_a, n_a]
    refine vcall (d_signed _ _ (x + y) (by by_cases h2 : x < 0 <;> simp only [h2, decide_true, decide_false, Bool.false_eq_true, if_true, if_false] <;> omega)) rfl ?_
    dsimp only [c_a, n_a]
    exact vret rfl
  · have h1 : ¬ (x < 0 ↔ y < 0) := by simpa using h1
    refine vcall (d_against _ _ hs) rfl ?_
    dsimp only [c_a, n_a]
    refine vn q_lss rfl ?_
    dsimp only [c_a, n_a]
    rw [show decide (cmpI (x.natAbs : Int) (y.natAbs : Int) < 0) = decide (x.natAbs < y.natAbs) by rw [decide_eq_decide, cmpI_neg]; omega]
    refine vs _ rfl (fun h7 => ?_) (fun h7 => ?_)
    · refine vcall (d_less _ _ (by omega) (by omega) (by omega)) rfl ?_
      dsimp only [c_a, n_a]
      refine vcall (d_signed _ _ (x + y) (by by_cases h2 : y < 0 <;> simp only [h2, decide_true, decide_false, Bool.false_eq_true, if_true, if_false] <;> omega)) rfl ?_
      dsimp only [c_a, n_a]
      exact vret rfl
    · refine vcall (d_less _ _ (by omega) (by omega) (by omega)) rfl ?_
      dsimp only [c_a, n_a]
      refine vcall (d_signed _ _ (x + y) (by by_cases h2 : x < 0 <;> simp only [h2, decide_true, decide_false, Bool.false_eq_true, if_true, if_false] <;> omega)) rfl ?_
      dsimp only [c_a, n_a]
      exact vret rfl

theorem d_ofInt (n : Int) (h1 : -9223372036854775808 ≤ n) (h2 : n < 9223372036854775808) : Does prog 158 [(.one (.int .i64 n) : STy)] (.ret [iT n]) := by
  refine does_of_vc (args := [.v none]) (ins := [.v (.one (.int .i64 n))]) (hints := (fun _ => none)) fo (by kernel_rfl) func158 ⟨rfl, trivial⟩ ?_
  rw [x_ofInt]
  dsimp only [List.map, In.env, c_a, n_a]
  refine vn q_lss rfl ?_
  dsimp only [c_a, n_a]
  refine vs _ rfl (fun h1 => ?_) (fun h1 => ?_)
  · refine vn (p_conv ⟨_, un2⟩ un254 (c := n + 18446744073709551616) (by rw [IntKind.wrap_u64]; omega)) rfl ?_
    dsimp only [c_a, n_a]
    refine vn (p_neg (c := ((n.natAbs : Nat) : Int)) (by rw [IntKind.wrap_u64]; omega)) rfl ?_
    dsimp only [c_a, n_a]
    refine vcall (d_small _ (by omega)) rfl ?_
    dsimp only [c_a, n_a]
    refine vcall (d_signed true _ n (by rw [if_pos rfl]; omega)) rfl ?_
    dsimp only [c_a, n_a]
    exact vret rfl
  · refine vn (p_conv ⟨_, un2⟩ un254 (c := ((n.natAbs : Nat) : Int)) (by rw [IntKind.wrap_u64]; omega)) rfl ?_
    dsimp only [c_a, n_a]
    refine vcall (d_small _ (by omega)) rfl ?_
    dsimp only [c_a, n_a]
    refine vcall (d_signed false _ n (by rw [if_neg (by simp)]; omega)) rfl ?_
    dsimp only [c_a, n_a]
    exact vret rfl

/-- a rational number's cells; a rational number -/
abbrev qC (q : Rat) : List CTy := [dT q.num.natAbs, .bool (decide (q.num < 0)), dT (q.den - 1)]
abbrev qT (q : Rat) : STy := .agg (qC q)
theorem zeroQ : All2 CTy.Sub [.exact (.slice none 0 0), .bool false, .exact (.slice none 0 0)] (qC 0) := ⟨nilT rfl, CTy.Sub.same, nilT rfl, trivial⟩

theorem mk_num {z : Int} {d : Nat} (hd : d ≠ 0) : (mkRat z d).num = (if decide (z < 0) = true then -((z.natAbs / z.natAbs.gcd d : Nat) : Int) else ((z.natAbs / z.natAbs.gcd d : Nat) : Int)) ∧ (mkRat z d).den = d / z.natAbs.gcd d := by
  rw [← Rat.normalize_eq_mkRat hd, Rat.normalize_eq hd]
  refine ⟨?_, rfl⟩
  show z / _ = _
  have hg : 0 < z.natAbs.gcd d := Nat.gcd_pos_of_pos_right _ (by omega)
  have hdv : (((z.natAbs.gcd d : Nat)) : Int) ∣ z := Int.ofNat_dvd_left.2 (Nat.gcd_dvd_left _ _)
  have h1 := Int.natAbs_ediv_of_dvd hdv
  rw [Int.natAbs_natCast] at h1
  by_cases h : z < 0
  · rw [decide_eq_true h, if_pos rfl, ← h1]
    have := Int.ediv_neg_of_neg_of_pos h (b := ((z.natAbs.gcd d : Nat) : Int)) (by omega)
    omega
  · rw [decide_eq_false h, if_neg (by simp), ← h1]
    have := Int.ediv_nonneg (Int.not_lt.1 h) (b := ((z.natAbs.gcd d : Nat) : Int)) (by omega)
    omega

theorem d_ratio (z : Int) (d : Nat) (hd : 0 < d) (hs : (dg z.natAbs).length + (dg d).length < 137438953472) : Does prog 115 [(iT z : STy), (mT d : STy)] (.ret [qT (mkRat z d)]) := by
  refine does_of_vc (args := [.v (some 2), .v (some 1)]) (ins := [.v (iT z), .v (mT d)]) (hints := (fun _ => none)) fo (by kernel_rfl) func115 ⟨rfl, rfl, trivial⟩ ?_
  rw [x_ratio]
  dsimp only [List.map, In.env, c_a, n_a]
  have hg : 0 < z.natAbs.gcd d := Nat.gcd_pos_of_pos_right _ hd
  have hgd : z.natAbs.gcd d ≤ d := Nat.gcd_le_right _ hd
  have hgl := dl_mono hgd
  obtain ⟨hm1, hm2⟩ := mk_num (z := z) (d := d) (by omega)
  have hq : 0 < d / z.natAbs.gcd d := Nat.div_pos hgd hg
  have hql := dl_mono (Nat.div_le_self d (z.natAbs.gcd d))
  have hone : (dg 1).length = 1 := by rw [dl_one (by omega) (by omega)]; rfl
  generalize hG : z.natAbs.gcd d = g at *
  refine vcall (d_common _ _ (by
    rcases Nat.le_total z.natAbs d with h | h
    · rw [Nat.max_eq_right h]; omega
    · rw [Nat.max_eq_left h]; omega)) rfl ?_
  rw [hG]
  dsimp only [c_a, n_a]
  refine vcall (d_mone _) rfl ?_
  dsimp only [c_a, n_a]
  refine vn q_not rfl ?_
  dsimp only [c_a, n_a]
  refine vs _ rfl (fun h3 => ?_) (fun h3 => ?_)
  · refine vcall (d_over _ _ hg (by omega)) rfl ?_
    dsimp only [c_a, n_a]
    refine vcall (d_over _ _ hg (by omega)) rfl ?_
    dsimp only [c_a, n_a]
    refine vcall (d_signed _ _ (mkRat z d).num hm1) rfl ?_
    dsimp only [c_a, n_a]
    refine vcall (d_small 1 (by omega)) rfl ?_
    dsimp only [c_a, n_a]
    refine vcall (d_less _ _ hq hq (by omega)) rfl ?_
    rw [← hm2]
    dsimp only [c_a, n_a]
    exact vret rfl
  · have hg1 : g = 1 := by simpa using h3
    subst hg1
    rw [Nat.div_one] at hm1 hm2
    refine vcall (d_signed _ _ (mkRat z d).num hm1) rfl ?_
    dsimp only [c_a, n_a]
    refine vcall (d_small 1 (by omega)) rfl ?_
    dsimp only [c_a, n_a]
    refine vcall (d_less _ _ hd hd (by omega)) rfl ?_
    dsimp only [c_a, n_a]
    refine vret ?_
    show [STy.agg [dT _, .bool _, dT (d - 1)]] = [STy.agg [_, _, dT ((mkRat z d).den - 1)]]
    rw [hm2]

theorem d_Qbottom (q : Rat) (h : (dg q.den).length < 1099511627775) : Does prog 117 [(qT q : STy)] (.ret [mT q.den]) := by
  refine does_of_vc (args := [.v (some 3)]) (ins := [.v (qT q)]) (hints := (fun _ => none)) fo (by kernel_rfl) func117 ⟨rfl, trivial⟩ ?_
  rw [x_Qbottom]
  dsimp only [List.map, In.env, c_a, n_a]
  have hp := q.den_pos
  have hl := dl_mono (Nat.sub_le q.den 1)
  have hone : (dg 1).length = 1 := by rw [dl_one (by omega) (by omega)]; rfl
  refine vcall (d_small 1 (by omega)) rfl ?_
  dsimp only [c_a, n_a]
  refine vcall (d_plus _ _ (by omega)) rfl ?_
  rw [show q.den - 1 + 1 = q.den by omega]
  dsimp only [c_a, n_a]
  exact vret rfl

theorem d_whole (z : Int) : Does prog 157 [(iT z : STy)] (.ret [qT (z : Rat)]) := by
  refine does_of_vc (args := [.v (some 2)]) (ins := [.v (iT z)]) (hints := (fun _ => none)) fo (by kernel_rfl) func157 ⟨rfl, trivial⟩ ?_
  rw [x_whole]
  dsimp only [List.map, In.env, c_a, n_a]
  exact vrets ⟨⟨CTy.Sub.same, CTy.Sub.same, nilT rfl, trivial⟩, trivial⟩

theorem d_Int (n : Int) (h1 : -9223372036854775808 ≤ n) (h2 : n < 9223372036854775808) : Does prog 68 [(.one (.int .i64 n) : STy)] (.ret [qT (n : Rat)]) := by
  refine does_of_vc (args := [.v none]) (ins := [.v (.one (.int .i64 n))]) (hints := (fun _ => none)) fo (by kernel_rfl) func68 ⟨rfl, trivial⟩ ?_
  rw [x_Int]
  dsimp only [List.map, In.env, c_a, n_a]
  refine vcall (d_ofInt _ h1 h2) rfl ?_
  dsimp only [c_a, n_a]
  refine vcall (d_whole _) rfl ?_
  dsimp only [c_a, n_a]
  exact vret rfl

theorem d_within (n m : Int) : Does prog 283 [(.one (.int .i64 n) : STy), (.one (.int .i64 m) : STy)] (.ret [.one (.int .i64 (max 0 (min n m)))]) := by
  refine does_of_vc (args := [.v none, .v none]) (ins := [.v (.one (.int .i64 n)), .v (.one (.int .i64 m))]) (hints := (fun _ => none)) fo (by kernel_rfl) func283 ⟨rfl, rfl, trivial⟩ ?_
  rw [x_within]
  dsimp only [List.map, In.env, c_a, n_a]
  refine vn p_min rfl ?_
  dsimp only [c_a, n_a]
  refine vn p_max rfl ?_
  dsimp only [c_a, n_a]
  exact vret rfl

theorem d_QSign (q : Rat) : Does prog 35 [(qT q : STy)] (.ret [.one (.int .i64 q.num.sign)]) := by
  refine does_of_vc (args := [.v (some 3)]) (ins := [.v (qT q)]) (hints := (fun _ => none)) fo (by kernel_rfl) func35 ⟨rfl, trivial⟩ ?_
  rw [x_QSign]
  dsimp only [List.map, In.env, c_a, n_a]
  refine vcall (d_isign _) rfl ?_
  dsimp only [c_a, n_a]
  exact vret rfl

theorem Fit.dl {B : Nat} {q : Rat} (h : Fit B q) : (dg q.num.natAbs).length ≤ B ∧ (dg q.den).length ≤ B := ⟨dl_bits h.1, dl_bits h.2⟩

theorem d_QNeg (q : Rat) : Does prog 65 [(qT q : STy)] (.ret [qT (-q)]) := by
  refine does_of_vc (args := [.v (some 3)]) (ins := [.v (qT q)]) (hints := (fun _ => none)) fo (by kernel_rfl) func65 ⟨rfl, trivial⟩ ?_
  rw [x_QNeg]
  dsimp only [List.map, In.env, c_a, n_a]
  refine vn q_not rfl ?_
  dsimp only [c_a, n_a]
  refine vcall (d_signed _ _ (-q).num (by
    rw [Rat.neg_num]
    by_cases h : q.num < 0 <;> simp only [h, not_true_eq_false, not_false_eq_true, decide_true, decide_false, Bool.false_eq_true, if_true, if_false] <;> omega)) rfl ?_
  dsimp only [c_a, n_a]
  refine vret ?_
  show [qT _] = _
  simp only [qT, qC, Rat.neg_den]

theorem abs_num (q : Rat) : q.abs.num = (q.num.natAbs : Int) ∧ q.abs.den = q.den := by
  unfold Rat.abs
  have h := Rat.num_nonneg (q := q)
  split
  · rename_i h0
    have := h.2 h0
    exact ⟨by omega, rfl⟩
  · rename_i h0
    have : ¬ 0 ≤ q.num := fun e => h0 (h.1 e)
    exact ⟨by rw [Rat.neg_num]; omega, Rat.neg_den _⟩

theorem d_QAbs (q : Rat) : Does prog 146 [(qT q : STy)] (.ret [qT q.abs]) := by
  refine does_of_vc (args := [.v (some 3)]) (ins := [.v (qT q)]) (hints := (fun _ => none)) fo (by kernel_rfl) func146 ⟨rfl, trivial⟩ ?_
  rw [x_QAbs]
  dsimp only [List.map, In.env, c_a, n_a]
  refine vcall (d_signed false _ (q.abs).num (by rw [if_neg (by simp)]; exact (abs_num q).1)) rfl ?_
  dsimp only [c_a, n_a]
  refine vret ?_
  show [STy.agg [dT q.abs.num.natAbs, .bool (decide (q.abs.num < 0)), dT (q.den - 1)]] = [qT q.abs]
  simp only [qT, qC, (abs_num q).2]

theorem d_QMul (a b : Rat) (A B : Nat) (ha : Fit A a) (hb : Fit B b) (h : A + B ≤ 34359738368) : Does prog 36 [(qT a : STy), (qT b : STy)] (.ret [qT (a * b)]) := by
  refine does_of_vc (args := [.v (some 3), .v (some 3)]) (ins := [.v (qT a), .v (qT b)]) (hints := (fun _ => none)) fo (by kernel_rfl) func36 ⟨rfl, rfl, trivial⟩ ?_
  rw [x_QMul]
  dsimp only [List.map, In.env, c_a, n_a]
  obtain ⟨ha1, ha2⟩ := Fit.dl ha
  obtain ⟨hb1, hb2⟩ := Fit.dl hb
  have hn := dl_bits (mul_lt_pow ha.1 hb.1)
  have hd := dl_bits (mul_lt_pow ha.2 hb.2)
  refine vcall (d_imul _ _ (by omega)) rfl ?_
  dsimp only [c_a, n_a]
  refine vcall (d_Qbottom a (by omega)) rfl ?_
  dsimp only [c_a, n_a]
  refine vcall (d_Qbottom b (by omega)) rfl ?_
  dsimp only [c_a, n_a]
  refine vcall (d_times _ _ (by omega)) rfl ?_
  dsimp only [c_a, n_a]
  refine vcall (d_ratio _ _ (Nat.mul_pos a.den_pos b.den_pos) (by rw [Int.natAbs_mul]; omega)) rfl ?_
  rw [← Rat.mul_def']
  dsimp only [c_a, n_a]
  exact vret rfl

theorem d_QAdd (a b : Rat) (A B : Nat) (ha : Fit A a) (hb : Fit B b) (h : A + B ≤ 34359738368) : Does prog 64 [(qT a : STy), (qT b : STy)] (.ret [qT (a + b)]) := by
  refine does_of_vc (args := [.v (some 3), .v (some 3)]) (ins := [.v (qT a), .v (qT b)]) (hints := (fun _ => none)) fo (by kernel_rfl) func64 ⟨rfl, rfl, trivial⟩ ?_
  rw [x_QAdd]
  dsimp only [List.map, In.env, c_a, n_a]
  obtain ⟨ha1, ha2⟩ := Fit.dl ha
  obtain ⟨hb1, hb2⟩ := Fit.dl hb
  have hn1 := dl_bits (mul_lt_pow ha.1 hb.2)
  have hn2 := dl_bits (mul_lt_pow hb.1 ha.2)
  have hd := dl_bits (mul_lt_pow ha.2 hb.2)
  have hsum : (dg (a.num * (b.den : Int) + b.num * (a.den : Int)).natAbs).length ≤ A + B + 1 := by
    apply dl_bits
    have h1 := mul_lt_pow ha.1 hb.2
    have h2 := mul_lt_pow hb.1 ha.2
    rw [Nat.add_comm B A] at h2
    rw [Nat.pow_succ]
    refine Nat.lt_of_le_of_lt (Int.natAbs_add_le _ _) ?_
    rw [Int.natAbs_mul, Int.natAbs_mul, Int.natAbs_natCast, Int.natAbs_natCast]
    omega
  refine vcall (d_Qbottom a (by omega)) rfl ?_
  dsimp only [c_a, n_a]
  refine vcall (d_Qbottom b (by omega)) rfl ?_
  dsimp only [c_a, n_a]
  refine vcall (d_imul a.num (b.den : Int) (by rw [Int.natAbs_natCast]; omega)) rfl ?_
  dsimp only [c_a, n_a]
  refine vcall (d_imul b.num (a.den : Int) (by rw [Int.natAbs_natCast]; omega)) rfl ?_
  dsimp only [c_a, n_a]
  refine vcall (d_iadd _ _ (by rw [Int.natAbs_mul, Int.natAbs_mul, Int.natAbs_natCast, Int.natAbs_natCast]; omega)) rfl ?_
  dsimp only [c_a, n_a]
  refine vcall (d_times _ _ (by omega)) rfl ?_
  dsimp only [c_a, n_a]
  refine vcall (d_ratio _ _ (Nat.mul_pos a.den_pos b.den_pos) (by omega)) rfl ?_
  rw [← Rat.add_def']
  dsimp only [c_a, n_a]
  exact vret rfl

theorem d_QSub (a b : Rat) (A B : Nat) (ha : Fit A a) (hb : Fit B b) (h : A + B ≤ 34359738368) : Does prog 167 [(qT a : STy), (qT b : STy)] (.ret [qT (a - b)]) := by
  refine does_of_vc (args := [.v (some 3), .v (some 3)]) (ins := [.v (qT a), .v (qT b)]) (hints := (fun _ => none)) fo (by kernel_rfl) func167 ⟨rfl, rfl, trivial⟩ ?_
  rw [x_QSub]
  dsimp only [List.map, In.env, c_a, n_a]
  refine vcall (d_QNeg b) rfl ?_
  dsimp only [c_a, n_a]
  refine vcall (d_QAdd a (-b) A B ha hb.neg h) rfl ?_
  rw [← Rat.sub_eq_add_neg]
  dsimp only [c_a, n_a]
  exact vret rfl

theorem div_mk {a b : Rat} (hb : b ≠ 0) : mkRat (a.num * (if decide (b.num < 0) = true then -(b.den : Int) else b.den)) (a.den * b.num.natAbs) = a / b := by
  have hn : b.num ≠ 0 := fun e => hb (Rat.num_eq_zero.1 e)
  have e : b⁻¹ = mkRat (if decide (b.num < 0) = true then -(b.den : Int) else b.den) b.num.natAbs := by
    rw [Rat.inv_def]
    by_cases h : b.num < 0
    · rw [decide_eq_true h, if_pos rfl]
      conv => lhs; rw [show b.num = -((b.num.natAbs : Nat) : Int) by omega]
      rw [Rat.divInt_neg', Rat.divInt_ofNat]
    · rw [decide_eq_false h, if_neg (by simp)]
      conv => lhs; rw [show b.num = ((b.num.natAbs : Nat) : Int) by omega]
      rw [Rat.divInt_ofNat]
  rw [Rat.div_def, e]
  conv => rhs; rw [← Rat.mkRat_self a]
  rw [Rat.mkRat_mul_mkRat]

theorem d_Qover (a b : Rat) (A B : Nat) (hb0 : b ≠ 0) (ha : Fit A a) (hb : Fit B b) (h : A + B ≤ 34359738368) : Does prog 255 [(qT a : STy), (qT b : STy)] (.ret [qT (a / b)]) := by
  refine does_of_vc (args := [.v (some 3), .v (some 3)]) (ins := [.v (qT a), .v (qT b)]) (hints := (fun _ => none)) fo (by kernel_rfl) func255 ⟨rfl, rfl, trivial⟩ ?_
  rw [x_Qover]
  dsimp only [List.map, In.env, c_a, n_a]
  obtain ⟨ha1, ha2⟩ := Fit.dl ha
  obtain ⟨hb1, hb2⟩ := Fit.dl hb
  have hn : b.num ≠ 0 := fun e => hb0 (Rat.num_eq_zero.1 e)
  have hn1 := dl_bits (mul_lt_pow ha.1 hb.2)
  have hd := dl_bits (mul_lt_pow ha.2 hb.1)
  obtain ⟨z, hz⟩ : ∃ z : Int, (if decide (b.num < 0) = true then -(b.den : Int) else b.den) = z := ⟨_, rfl⟩
  have hza : z.natAbs = b.den := by rw [← hz]; split <;> simp
  refine vcall (d_Qbottom b (by omega)) rfl ?_
  dsimp only [c_a, n_a]
  refine vcall (d_signed _ _ z hz.symm) rfl ?_
  dsimp only [c_a, n_a]
  refine vcall (d_imul a.num z (by rw [hza]; omega)) rfl ?_
  dsimp only [c_a, n_a]
  refine vcall (d_Qbottom a (by omega)) rfl ?_
  dsimp only [c_a, n_a]
  refine vcall (d_times _ _ (by omega)) rfl ?_
  dsimp only [c_a, n_a]
  refine vcall (d_ratio _ _ (Nat.mul_pos a.den_pos (by omega)) (by rw [Int.natAbs_mul, hza]; omega)) rfl ?_
  rw [← hz, div_mk hb0]
  dsimp only [c_a, n_a]
  exact vret rfl

theorem sign_zero {q : Rat} : q.num.sign = 0 ↔ q = 0 := by rw [Int.sign_eq_zero_iff_zero, Rat.num_eq_zero]

theorem d_QDiv (a b : Rat) (A B : Nat) (ha : Fit A a) (hb : Fit B b) (h : A + B ≤ 34359738368) : Does prog 200 [(qT a : STy), (qT b : STy)] (.ret [qT (if b = 0 then 0 else a / b), .one (.int .i64 (if b = 0 then 9 else 0))]) := by
  refine does_of_vc (args := [.v (some 3), .v (some 3)]) (ins := [.v (qT a), .v (qT b)]) (hints := (fun _ => none)) fo (by kernel_rfl) func200 ⟨rfl, rfl, trivial⟩ ?_
  rw [x_QDiv]
  dsimp only [List.map, In.env, c_a, n_a]
  refine vcall (d_QSign b) rfl ?_
  dsimp only [c_a, n_a]
  refine vn q_eql rfl ?_
  dsimp only [c_a, n_a]
  refine vs _ rfl (fun h2 => ?_) (fun h2 => ?_)
  · have h2 : b = 0 := sign_zero.1 h2
    rw [if_pos h2, if_pos h2]
    exact vrets ⟨zeroQ, STy.Sub.same, trivial⟩
  · have h2 : ¬ b = 0 := fun e => h2 (sign_zero.2 e)
    rw [if_neg h2, if_neg h2]
    refine vcall (d_Qover a b A B h2 ha hb h) rfl ?_
    dsimp only [c_a, n_a]
    exact vret rfl

theorem fit_i64 {n : Int} (h1 : -9223372036854775808 ≤ n) (h2 : n < 9223372036854775808) : Fit 64 (n : Rat) := Fit.int (by omega) (by omega)

theorem d_Of (n d : Int) (h1 : -9223372036854775808 ≤ n) (h2 : n < 9223372036854775808) (h3 : -9223372036854775808 ≤ d) (h4 : d < 9223372036854775808) : Does prog 120 [(.one (.int .i64 n) : STy), (.one (.int .i64 d) : STy)] (.ret [qT (if d = 0 then 0 else (n : Rat) / (d : Rat)), .one (.int .i64 (if d = 0 then 9 else 0))]) := by
  refine does_of_vc (args := [.v none, .v none]) (ins := [.v (.one (.int .i64 n)), .v (.one (.int .i64 d))]) (hints := (fun _ => none)) fo (by kernel_rfl) func120 ⟨rfl, rfl, trivial⟩ ?_
  rw [x_Of]
  dsimp only [List.map, In.env, c_a, n_a]
  have e : ((d : Rat) = 0) ↔ d = 0 := by
    rw [← Rat.num_eq_zero, Rat.num_intCast]
  have hd := d_QDiv (n : Rat) (d : Rat) 64 64 (fit_i64 h1 h2) (fit_i64 h3 h4) (by omega)
  simp only [e] at hd
  refine vcall (d_Int n h1 h2) rfl ?_
  dsimp only [c_a, n_a]
  refine vcall (d_Int d h3 h4) rfl ?_
  dsimp only [c_a, n_a]
  refine vcall hd rfl ?_
  dsimp only [c_a, n_a]
  exact vret rfl

/-- how two numbers compare -/
def cmpR (a b : Rat) : Int := if a < b then -1 else if b < a then 1 else 0
theorem cmpR_cmpI (a b : Rat) : cmpR a b = cmpI (a.num * b.den) (b.num * a.den) := by
  unfold cmpR cmpI
  simp only [Rat.lt_iff]
theorem sign_cases (z : Int) : (z < 0 ∧ z.sign = -1) ∨ (z = 0 ∧ z.sign = 0) ∨ (0 < z ∧ z.sign = 1) := by
  rcases Int.lt_trichotomy z 0 with h | h | h
  · exact .inl ⟨h, Int.sign_eq_neg_one_of_neg h⟩
  · exact .inr (.inl ⟨h, by rw [h]; rfl⟩)
  · exact .inr (.inr ⟨h, Int.sign_eq_one_of_pos h⟩)
theorem cmpR_ne {a b : Rat} (h : a.num.sign ≠ b.num.sign ∨ a.num.sign = 0) : cmpR a b = a.num.sign - b.num.sign - (a.num.sign - b.num.sign).tdiv 2 := by
  rw [cmpR_cmpI]
  have ha := a.den_pos
  have hb := b.den_pos
  have key : ∀ (x : Int) (d : Nat), 0 < d → (x < 0 → x * (d : Int) < 0) ∧ (x = 0 → x * (d : Int) = 0) ∧ (0 < x → 0 < x * (d : Int)) := fun x d hd =>
    ⟨fun h => Int.mul_neg_of_neg_of_pos h (by omega), fun h => by rw [h, Int.zero_mul], fun h => Int.mul_pos h (by omega)⟩
  obtain ⟨k1, k2, k3⟩ := key a.num b.den hb
  obtain ⟨l1, l2, l3⟩ := key b.num a.den ha
  rcases sign_cases a.num with ⟨h1, e1⟩ | ⟨h1, e1⟩ | ⟨h1, e1⟩ <;> rcases sign_cases b.num with ⟨h2, e2⟩ | ⟨h2, e2⟩ | ⟨h2, e2⟩ <;> rw [e1, e2] at h ⊢ <;> simp only [cmpI] <;> (try (exfalso; revert h; decide)) <;>
    (first
      | have i1 := k1 h1
      | have i1 := k2 h1
      | have i1 := k3 h1) <;>
    (first
      | have i2 := l1 h2
      | have i2 := l2 h2
      | have i2 := l3 h2) <;>
    (first
      | (rw [if_pos (by omega)]; rfl)
      | (rw [if_neg (by omega), if_pos (by omega)]; rfl)
      | (rw [if_neg (by omega), if_neg (by omega)]; rfl))
theorem cmpR_eq {a b : Rat} (h : a.num.sign = b.num.sign) (h0 : a.num.sign ≠ 0) : cmpR a b = a.num.sign * cmpI ((a.num.natAbs * b.den : Nat) : Int) ((b.num.natAbs * a.den : Nat) : Int) := by
  rw [cmpR_cmpI]
  rcases sign_cases a.num with ⟨h1, e1⟩ | ⟨h1, e1⟩ | ⟨h1, e1⟩
  · have h2 : b.num < 0 := by
      rcases sign_cases b.num with ⟨h2, e2⟩ | ⟨h2, e2⟩ | ⟨h2, e2⟩
      · exact h2
      · omega
      · omega
    have ea : a.num * (b.den : Int) = -((a.num.natAbs * b.den : Nat) : Int) := by
      rw [Int.natCast_mul, ← Int.neg_mul]; congr 1; omega
    have eb : b.num * (a.den : Int) = -((b.num.natAbs * a.den : Nat) : Int) := by
      rw [Int.natCast_mul, ← Int.neg_mul]; congr 1; omega
    rw [e1, ea, eb]
    generalize ((a.num.natAbs * b.den : Nat) : Int) = p
    generalize ((b.num.natAbs * a.den : Nat) : Int) = q
    unfold cmpI
    split <;> (try split) <;> (try split) <;> (try split) <;> omega
  · omega
  · have h2 : 0 < b.num := by
      rcases sign_cases b.num with ⟨h2, e2⟩ | ⟨h2, e2⟩ | ⟨h2, e2⟩
      · omega
      · omega
      · exact h2
    have ea : a.num * (b.den : Int) = ((a.num.natAbs * b.den : Nat) : Int) := by
      rw [Int.natCast_mul]; congr 1; omega
    have eb : b.num * (a.den : Int) = ((b.num.natAbs * a.den : Nat) : Int) := by
      rw [Int.natCast_mul]; congr 1; omega
    rw [e1, ea, eb, Int.one_mul]

theorem d_QCmp (a b : Rat) (A B : Nat) (ha : Fit A a) (hb : Fit B b) (h : A + B ≤ 34359738368) : Does prog 38 [(qT a : STy), (qT b : STy)] (.ret [.one (.int .i64 (cmpR a b))]) := by
  refine does_of_vc (args := [.v (some 3), .v (some 3)]) (ins := [.v (qT a), .v (qT b)]) (hints := (fun _ => none)) fo (by kernel_rfl) func38 ⟨rfl, rfl, trivial⟩ ?_
  rw [x_QCmp]
  dsimp only [List.map, In.env, c_a, n_a]
  obtain ⟨ha1, ha2⟩ := Fit.dl ha
  obtain ⟨hb1, hb2⟩ := Fit.dl hb
  have hn1 := dl_bits (mul_lt_pow ha.1 hb.2)
  have hn2 := dl_bits (mul_lt_pow hb.1 ha.2)
  have hsa : -1 ≤ a.num.sign ∧ a.num.sign ≤ 1 := by rcases sign_cases a.num with ⟨_, e⟩ | ⟨_, e⟩ | ⟨_, e⟩ <;> omega
  have hsb : -1 ≤ b.num.sign ∧ b.num.sign ≤ 1 := by rcases sign_cases b.num with ⟨_, e⟩ | ⟨_, e⟩ | ⟨_, e⟩ <;> omega
  have htd : -1 ≤ (a.num.sign - b.num.sign).tdiv 2 ∧ (a.num.sign - b.num.sign).tdiv 2 ≤ 1 := by
    rcases sign_cases a.num with ⟨_, e⟩ | ⟨_, e⟩ | ⟨_, e⟩ <;> rcases sign_cases b.num with ⟨_, e2⟩ | ⟨_, e2⟩ | ⟨_, e2⟩ <;> rw [e, e2] <;> decide
  refine vcall (d_QSign a) rfl ?_
  dsimp only [c_a, n_a]
  refine vcall (d_QSign b) rfl ?_
  dsimp only [c_a, n_a]
  refine vn q_neq rfl ?_
  dsimp only [c_a, n_a]
  refine vs _ rfl (fun h3 => ?_) (fun h3 => ?_)
  · refine vn (p_sub_i64 (by omega) (by omega)) rfl ?_
    dsimp only [c_a, n_a]
    refine vn (p_sub_i64 (by omega) (by omega)) rfl ?_
    dsimp only [c_a, n_a]
    refine vn (p_quo (c := (a.num.sign - b.num.sign).tdiv 2) (by decide) (wr_i64 (by omega) (by omega))) rfl ?_
    dsimp only [c_a, n_a]
    refine vn (p_sub_i64 (by omega) (by omega)) rfl ?_
    dsimp only [c_a, n_a]
    rw [cmpR_ne (.inl h3)]; exact vret rfl
  · refine vn q_eql rfl ?_
    dsimp only [c_a, n_a]
    refine vs _ rfl (fun h10 => ?_) (fun h10 => ?_)
    · refine vn (p_sub_i64 (by omega) (by omega)) rfl ?_
      dsimp only [c_a, n_a]
      refine vn (p_sub_i64 (by omega) (by omega)) rfl ?_
      dsimp only [c_a, n_a]
      refine vn (p_quo (c := (a.num.sign - b.num.sign).tdiv 2) (by decide) (wr_i64 (by omega) (by omega))) rfl ?_
      dsimp only [c_a, n_a]
      refine vn (p_sub_i64 (by omega) (by omega)) rfl ?_
      dsimp only [c_a, n_a]
      rw [cmpR_ne (.inr h10)]; exact vret rfl
    · refine vcall (d_QSign a) rfl ?_
      dsimp only [c_a, n_a]
      refine vcall (d_Qbottom b (by omega)) rfl ?_
      dsimp only [c_a, n_a]
      refine vcall (d_times _ _ (by omega)) rfl ?_
      dsimp only [c_a, n_a]
      refine vcall (d_Qbottom a (by omega)) rfl ?_
      dsimp only [c_a, n_a]
      refine vcall (d_times _ _ (by omega)) rfl ?_
      dsimp only [c_a, n_a]
      refine vcall (d_against _ _ (by omega)) rfl ?_
      dsimp only [c_a, n_a]
      have hci : -1 ≤ cmpI ((a.num.natAbs * b.den : Nat) : Int) ((b.num.natAbs * a.den : Nat) : Int) ∧ cmpI ((a.num.natAbs * b.den : Nat) : Int) ((b.num.natAbs * a.den : Nat) : Int) ≤ 1 := by
        unfold cmpI; split <;> (try split) <;> omega
      rw [cmpR_eq (by omega) h10]
      generalize cmpI ((a.num.natAbs * b.den : Nat) : Int) ((b.num.natAbs * a.den : Nat) : Int) = c at hci ⊢
      generalize a.num.sign = s at hsa h10 ⊢
      refine vn (p_mul (c := s * c) (by
        rcases (by omega : s = -1 ∨ s = 1) with rfl | rfl
        · exact wr_i64 (by omega) (by omega)
        · exact wr_i64 (by omega) (by omega))) rfl ?_
      dsimp only [c_a, n_a]
      exact vret rfl
end Go.Sy
