/- slices.Backward over digits; word. Common divisors, powers; integers. Integers, ratios, rational numbers.
-/
import Derived.Test.YtdmcadckdnnglaaGreatDoorNb
import Derived.RangeFuncFrom
import Derived.RangeFuncBox
import Derived.RangeFuncLeaves
import Derived.Shelf.Abstract
import Derived.WalkKit
import Derived.OwnWalkIn
import Derived.TacticsInMore
import Derived.LoopNIn
import Derived.LoopIn
import Derived.Test.YtdmcadckdnnglaaGreatDoorPa
set_option linter.unusedVariables false
set_option linter.unusedSimpArgs false
namespace Go.Sy
open Go Go.Proofs Go.RowKit Go.Shelf Tryz Ord
attribute [local go_sem] Oper.semAt_some
section
variable {α : Type} [Inhabited α] {enc : α → Value}
def bk (vs : List α) (k : Nat) : List (Nat × α) := (List.range k).map fun j => (vs.length - 1 - j, vs[vs.length - 1 - j]?.getD default)
theorem BA (vs : List α) (k : Nat) : bk vs (k + 1) = bk vs k ++ [(vs.length - 1 - k, vs[vs.length - 1 - k]?.getD default)] := by simp [bk, List.range_succ]
theorem Ao (vs : List α) (k : Nat) : (bk vs k).length = k := by simp [bk]
def OD (n₀ Bs : Nat) (A B : World) : Prop := Below n₀ A B ∧ ∀ v, A.cell? ⟨Bs, 0, none⟩ = some v → B.cell? ⟨Bs, 0, none⟩ = some v
set_option maxRecDepth 100000 in
set_option maxHeartbeats 2000000 in
theorem Hg (l Bs n₀ b off cap : Nat) (vs : List α) (hlen : vs.length < 4611686018427387904) (hb : b < n₀) (J Jx : List (Nat × α) → World → Prop)
  (hY : ∀ pre x W, J pre W → pre.length < vs.length → YieldAt Fence.wide (1000 - 1) prog l #[.int .i64 (x.1 : Int), enc x.2] W fun e W' =>
   (e = .returned (.bool true) ∧ J (pre ++ [x]) W' ∧ OD n₀ Bs W W') ∨ (e = .returned (.bool false) ∧ Jx (pre ++ [x]) W'))
  (W : World) (hBs : W.cell? ⟨Bs, 0, none⟩ = some (.slice (some ⟨b, off, none⟩) vs.length cap)) (hc : ∀ j v, vs[j]? = some v → W.cell? ⟨b, off + j, none⟩ = some (enc v)) (h0 : J [] W) :
  CallsIn Fence.wide 1000 prog 274 #[.func (.yield l) #[] #[], .pointer (some ⟨Bs, 0, none⟩)] W fun e W' => (∃ v, e = .returned v) ∧
   ((∃ ys, ys = bk vs vs.length ∧ J ys W') ∨ (∃ pre, (∃ k, k ≤ vs.length ∧ pre = bk vs k) ∧ Jx pre W')) := by
 refine callsIn_of_wp func274 rfl trivial ?_ rfl
 simp only [ntmps274, List.size_toArray, List.length_cons, List.length_nil, Nat.reduceAdd, Nat.reduceSub, Array.replicate_succ, Array.replicate_zero, List.push_toArray, List.append_toArray, List.nil_append, List.cons_append]
 obtain ⟨N, hN⟩ : ∃ N, vs.length = N := ⟨_, rfl⟩
 rw [hN] at hBs hY hlen ⊢
 gi_wp2
 gi_loopw [3] (fun i wr => ∃ k : Nat, k ≤ N ∧ i = .int .i64 ((N : Int) - 1 - k) ∧ J (bk vs k) wr ∧ Below n₀ W wr ∧ wr.cell? ⟨Bs, 0, none⟩ = some (.slice (some ⟨b, off, none⟩) N cap))
  (fun i _ => (intOf i + 1).toNat)
 case atStart => exact ⟨0, Nat.zero_le _, by simp, h0, Below.refl _ _, hBs⟩
 case round =>
  obtain ⟨k, hk, rfl, hJs, hnx, hBx⟩ := hrel
  have hmeas : (intOf (.int .i64 ((N : Int) - 1 - k)) + 1).toNat = N - k := by simp [intOf]; omega
  by_cases hlt : k < N
  ·have hv : vs[N - 1 - k]? = some (vs[N - 1 - k]?.getD default) := by rw [List.getElem?_eq_getElem (by omega)]; rfl
   have hcx : wr.cell? ⟨b, off + (N - 1 - k), none⟩ = some (enc (vs[N - 1 - k]?.getD default)) := (hnx.cell (p := ⟨b, off + (N - 1 - k), none⟩) hb).trans (hc _ _ hv)
   obtain ⟨fn, tmps, assign, body, hy, hR⟩ := hY _ (N - 1 - k, vs[N - 1 - k]?.getD default) wr hJs (by rw [Ao]; exact hlt)
   generalize hx : vs[N - 1 - k]?.getD default = x at hy hR hcx
   have hsucc : bk vs (k + 1) = bk vs k ++ [(N - 1 - k, x)] := by rw [BA, hN, hx]
   have e1 : (N : Int) - 1 - k = ((N - 1 - k : Nat) : Int) := by omega
   have hn1 : N - 1 - k < N := by omega
   have e2 : (wr.cell? ⟨b, off + (N - 1 - k), none⟩) = some (enc x) := hcx
   rw [e1]
   gi_wp2
   refine hR.mono ?_
   rintro e W3 (⟨rfl, hJ3, hk3⟩ | ⟨rfl, hJx3⟩)
   ·gi_wp2
    go_roundw
    case rel => exact ⟨k + 1, by omega, by congr 1; omega, by rw [hsucc]; exact hJ3, hnx.trans hk3.1, hk3.2 _ hBx⟩
    case measure => simp [intOf]
   ·gi_wp2
    refine bodyPost_ret (results_none rfl _ _ _) rfl ?_
    exact ⟨⟨_, rfl⟩, .inr ⟨_, ⟨k + 1, by omega, rfl⟩, by rw [hsucc]; exact hJx3⟩⟩
  ·obtain rfl : k = N := by omega
   gi_wp2
   go_end0
   exact ⟨⟨_, rfl⟩, .inl ⟨_, rfl, hJs⟩⟩
set_option maxRecDepth 100000 in
set_option maxHeartbeats 1000000 in
theorem EM {α : Type} (l Bs : Nat) (a : Option Addr) (cap : Nat) (J : List (Nat × α) → World → Prop) (W : World) (hBs : W.cell? ⟨Bs, 0, none⟩ = some (.slice a 0 cap)) (h0 : J [] W) :
  CallsIn Fence.wide 1000 prog 274 #[.func (.yield l) #[] #[], .pointer (some ⟨Bs, 0, none⟩)] W fun e W' => (∃ v, e = .returned v) ∧ J [] W' := by
 refine callsIn_of_wp func274 rfl trivial ?_ rfl
 simp only [ntmps274, List.size_toArray, List.length_cons, List.length_nil, Nat.reduceAdd, Nat.reduceSub, Array.replicate_succ, Array.replicate_zero, List.push_toArray, List.append_toArray, List.nil_append, List.cons_append]
 gi_wp2
 gi_loopw [3] (fun i wr => i = .int .i64 (-1) ∧ J [] wr) (fun _ _ => 0)
 case atStart => exact ⟨rfl, h0⟩
 case round =>
  obtain ⟨rfl, hJs⟩ := hrel
  gi_wp2
  go_end0
  exact ⟨⟨_, rfl⟩, hJs⟩
set_option maxHeartbeats 1000000 in
theorem Dn (n : Nat) (a : Option Addr) (len cap : Nat) (w : World) :
  CallsIn Fence.wide n prog 240 #[.slice a len cap] w fun e w' => e = .returned (.func (.func 274) #[] #[.pointer (some ⟨w.heap.size, 0, none⟩)]) ∧ w' = w.alloc (.cells #[.slice a len cap] 33) := by
 refine callsIn_of_wp func240 rfl trivial ?_ rfl
 simp only [ntmps240, List.size_toArray, List.length_cons, List.length_nil, Nat.reduceAdd, Nat.reduceSub, Array.replicate_succ, Array.replicate_zero, List.push_toArray, List.append_toArray, List.nil_append, List.cons_append]
 gi_wp2
 go_ret
 exact ⟨rfl, rfl⟩
def Pd (enc : α → Value) (n₀ : Nat) (W : World) (sv : Value) (vs : List α) : Prop :=
 ∃ a cap, sv = .slice a vs.length cap ∧ (vs = [] ∨ ∃ b off, a = some ⟨b, off, none⟩ ∧ b < n₀ ∧ ∀ j v, vs[j]? = some v → W.cell? ⟨b, off + j, none⟩ = some (enc v))
theorem Pd.below {α : Type} {enc : α → Value} {n₀ : Nat} {A B : World} (h : Below n₀ A B) {sv : Value} {vs : List α} : Pd enc n₀ A sv vs → Pd enc n₀ B sv vs := by
 rintro ⟨a, cap, e, rfl | ⟨b, off, rfl, hb, hc⟩⟩
 ·exact ⟨a, cap, e, .inl rfl⟩
 ·exact ⟨_, cap, e, .inr ⟨b, off, rfl, hb, fun j v hj => (h.cell (p := ⟨b, off + j, none⟩) hb).trans (hc j v hj)⟩⟩
theorem uE (Bs n₀ : Nat) (sv : Value) (vs : List α) (hlen : vs.length < 4611686018427387904) (w : World) (hBs : Bs < w.heap.size) (hn₀ : n₀ ≤ w.heap.size)
  (hc : w.cell? ⟨Bs, 0, none⟩ = some sv) (hI : Pd enc n₀ w sv vs) :
  SeqStopsK Fence.wide 1000 prog 274 #[.pointer (some ⟨Bs, 0, none⟩)] (fun x : Nat × α => #[Value.int .i64 (x.1 : Int), enc x.2]) (OD n₀ Bs) (fun ys => ys = bk vs vs.length) (fun pre => ∃ k, k ≤ vs.length ∧ pre = bk vs k) vs.length w := fun l J Jx W hW _ _ hY h0 => by
 have hc' := (hW.cell (p := ⟨Bs, 0, none⟩) hBs).trans hc
 obtain ⟨a, cap, rfl, rfl | ⟨b, off, rfl, hb, hcs⟩⟩ := hI.below (hW.mono hn₀)
 ·exact (EM (α := α) l Bs a cap J W hc' h0).mono fun e W' ⟨he, hj⟩ => ⟨he, .inl ⟨_, rfl, hj⟩⟩
 ·exact (Hg (enc := enc) l Bs n₀ b off cap vs hlen hb J Jx hY W hc' hcs h0)
theorem Gi {n₀ Bs : Nat} {A B C : World} (h : OD n₀ Bs A B) (k : OD n₀ Bs B C) : OD n₀ Bs A C := ⟨h.1.trans k.1, fun v hv => k.2 v (h.2 v hv)⟩
theorem FN {n₀ Bs : Nat} {w : World} (hn : n₀ ≤ w.heap.size) (hB : Bs < w.heap.size) (W : World) (l : Nat) (o o' : Obj) (hl : w.heap.size ≤ l) (h : W.heap[l]? = some o) (h1 : o.isCells = false) (h2 : o.isWalk = false) : OD n₀ Bs W (W.putObj l o') :=
 ⟨belowK_b hn W l o o' hl h h1 h2, fun v hv => by
  have e : (W.putObj l o').heap[Bs]? = W.heap[Bs]? := World.putObj_heap_other (by omega)
  simp only [World.cell?, e] at hv ⊢
  exact hv⟩
end
def wv (pre : List (Nat × Int)) : Int := pre.foldl (fun n x => IntKind.u64.wrap (IntKind.u64.wrap (n * 1000000000) + IntKind.u64.wrap x.2)) 0
theorem OT (pre : List (Nat × Int)) (x : Nat × Int) : wv (pre ++ [x]) = IntKind.u64.wrap (IntKind.u64.wrap (wv pre * 1000000000) + IntKind.u64.wrap x.2) := by simp [wv]
theorem KQ {n : Nat} (hn : n < 1000000000000000000) : wv (bk ((dg n).map (fun d : Nat => (d : Int))) (dg n).length) = (n : Int) := by
 have hl : (dg n).length ≤ 2 := xB (by omega)
 have hv := fA n
 have hd := iD n
 generalize dg n = ds at hl hv hd
 match ds, hl with
 | [], _ => simp [lv, val] at hv; subst hv; simp [bk, wv]
 | [a], _ =>
   have ha := hd a (by simp)
   simp [lv, val] at hv
   simp [bk, wv, List.range_succ]
   simp only [IntKind.wrap_u64]; omega
 | [a, b], _ =>
   have ha := hd a (by simp)
   have hb := hd b (by simp)
   simp [lv, val] at hv
   simp [bk, wv, List.range_succ]
   simp only [IntKind.wrap_u64]; omega
theorem Le {M : Nat → Prop} {w : World} {v : Value} {ds : List Nat} (h : (aF.slice 1 (rT ds)).rep M w v) : Pd (fun d : Int => Value.int .u32 d) w.heap.size w v (ds.map (fun d : Nat => (d : Int))) := by
 obtain ⟨a, cap, rfl, hc, hm, hel⟩ := h
 refine ⟨a, cap, by simp, ?_⟩
 rcases hel with h | ⟨b, off, cs, T, fz, rfl, hb, hh, hr⟩
 ·left
  have : ds = [] := by cases ds <;> simp_all
  subst this; rfl
 ·refine .inr ⟨b, off, rfl, (Array.getElem?_eq_some_iff.1 hh).1, fun j v hj => ?_⟩
  rw [List.getElem?_map] at hj
  cases hd : ds[j]? with
  | none => rw [hd] at hj; simp at hj
  | some d =>
    rw [hd] at hj
    simp only [Option.map_some, Option.some.injEq] at hj
    subst hj
    obtain ⟨_, hrep⟩ := hr j _ (mH hd)
    rw [Nat.mul_one] at hrep
    have hl := hrep.length
    have hlt : off + j < cs.toList.length := by
     simp only [List.length_cons, List.length_nil, List.length_take, List.length_drop] at hl; omega
    rw [List.drop_eq_getElem_cons hlt, List.take_succ_cons, List.take_zero] at hrep
    have h1 : cs.toList[off + j] = .int .u32 d := hrep.1.1
    simp only [World.cell?, hh]
    rw [Array.getElem_toList] at h1
    simp [h1, Array.getElem?_eq_getElem (show off + j < cs.size by simpa using hlt)]
set_option maxRecDepth 100000 in
set_option maxHeartbeats 2000000 in
theorem Of (a : Option Addr) (cap : Nat) (vs : List Int) (hlen : vs.length < 4611686018427387904) (w : World) (hI : Pd (fun d : Int => Value.int .u32 d) w.heap.size w (.slice a vs.length cap) vs) :
  CallsIn Fence.wide 1001 prog 249 #[.agg #[.slice a vs.length cap]] w fun e W' => e = .returned (.int .u64 (wv (bk vs vs.length))) ∧ Below w.heap.size w W' := by
 refine callsIn_of_wp_marks func249 rfl trivial ?_ rfl
 simp only [ntmps249, List.size_toArray, List.length_cons, List.length_nil, Nat.reduceAdd, Nat.reduceSub, Array.replicate_succ, Array.replicate_zero, List.push_toArray, List.append_toArray, List.nil_append, List.cons_append]
 generalize hL : vs.length = L at hI hlen ⊢
 gi_wp2_with (refine ⟨trivial, ?_⟩; gi_at_call 240; refine (Dn _ _ _ _ _).mono ?_; rintro e w' ⟨rfl, rfl⟩)
 have bN := Boxed.new (w.alloc (.cells #[.slice a L cap] 35)) 254 (.int .u64 0)
 have bS := Boxed.new ((w.alloc (.cells #[.slice a L cap] 35)).alloc (.cells #[.int .u64 0] 254)) 33 (.slice a L cap)
 simp only [World.size_alloc] at bN bS
 have hB0 : Below w.heap.size w (((w.alloc (.cells #[.slice a L cap] 35)).alloc (.cells #[.int .u64 0] 254)).alloc (.cells #[.slice a L cap] 33)) := (((Below.refl _ w).alloc (Nat.le_refl _) _).alloc (by simp) _).alloc (by simp; omega) _
 obtain ⟨W0, hW0⟩ : ∃ W0, (((w.alloc (.cells #[.slice a L cap] 35)).alloc (.cells #[.int .u64 0] 254)).alloc (.cells #[.slice a L cap] 33)) = W0 := ⟨_, rfl⟩
 have hs0 : W0.heap.size = w.heap.size + 3 := by rw [← hW0]; simp
 have bN' := bN.alloc (.cells #[.slice a L cap] 33)
 rw [hW0] at hB0 bS bN' ⊢
 refine wpIn_rangeFunc_ownF (w0 := W0) rfl (by omega) (gf := 274) (lb := #[.pointer (some ⟨w.heap.size + 1 + 1, 0, none⟩)]) rfl trivial (enters_of func274 (by kernel_rfl) rfl)
  (uE (enc := fun d : Int => Value.int .u32 d) (w.heap.size + 1 + 1) w.heap.size (.slice a L cap) vs (by omega) W0 (by omega) (by omega) bS.cell (hI.below hB0)) Gi (FN (by omega) (by omega)) (Below.refl _ _) (fun _ => rfl)
  (fun pre W => (W.cell? ⟨w.heap.size + 1, 0, none⟩ = some (.int .u64 (wv pre)) ∧ W.frozen? ⟨w.heap.size + 1, 0, none⟩ = false) ∧ Below w.heap.size w W)
  (fun _ _ _ => False)
  (OwnFrom.and (Own.from (fun s A B row hs hg hr => ⟨cell_kept hs.1 hg hr, (frozen_kept hs.1 hg hr).trans hs.2⟩) _) (ownFrom_below (Nat.le_refl _) (by omega)))
  (fun _ => by intro s A B row hs; exact hs.elim)
  ⟨⟨bN'.cell, bN'.frozen⟩, hB0⟩
  (fun x => { tmps := #[.agg #[.slice a L cap], .pointer (some ⟨w.heap.size, 0, none⟩), .int .u64 0, .pointer (some ⟨w.heap.size + 1, 0, none⟩), undef, .int .u32 x.2, .pointer (some ⟨w.heap.size, 0, none⟩), .slice a L cap, .func (.func 274) #[] #[.pointer (some ⟨w.heap.size + 1 + 1, 0, none⟩)], .int .i64 (x.1 : Int), .int .u32 x.2, undef, undef, undef, undef, undef, undef], defers := [] }) ?assign ?body ?done ?stop
 case assign =>
  intro l x W K hK
  gi_wp2
  exact hK
 case body =>
  rintro l pre x W ⟨⟨hcr, hfr⟩, hB⟩ _
  gi_wp2
  refine ⟨KeepsOthers.setCell _ _ _, ⟨(Below.refl w.heap.size W).setCell (p := ⟨w.heap.size + 1, 0, none⟩) (by simp) _, fun v hv => ?_⟩, ⟨?_, by rw [World.frozen?_setCell]; exact hfr⟩, hB.setCell (p := ⟨w.heap.size + 1, 0, none⟩) (by simp) _⟩
  ·refine Eq.trans (World.cell?_setCell_other _ _ _ _ ?_) hv
   simp
  ·rw [OT]; exact World.cell?_setCell_same' _ _ _ (by rw [hcr]; rfl)
 case done =>
  rintro D ys W hD rfl ⟨⟨hcr, hfr⟩, hB⟩ hK
  gi_wp2
  refine ⟨by simp, .inl ⟨_, _, rfl, run_takeDeferred hK, ?_⟩⟩
  exact ⟨_, results_tmp rfl _ _ _, rfl, hB.trans (belowK_b (w := w) (Nat.le_refl _) W D _ _ (by omega) hK rfl rfl)⟩
 case stop =>
  rintro D c pre W hD _ h hK
  exact h.elim
set_option maxRecDepth 100000 in
theorem IK (n : Nat) (hn : n < 1000000000000000000) : aN prog 249 [mT n] (.ret [.one (.int .u64 n)]) := by
 refine ⟨cC (by kernel_rfl), fun M w vs hM hv => ?_⟩
 match vs, hv with
 | [v], hv =>
   obtain ⟨⟨us, rfl, hus⟩, _⟩ := hv
   match us, hus with
   | [u], hus =>
     have hsl := Le hus.1
     obtain ⟨a, cap, rfl, hel⟩ := hsl
     have hl : ((dg n).map (fun d : Nat => (d : Int))).length = (dg n).length := List.length_map _
     have hlen : (dg n).length < 4611686018427387904 := by
      have h2 : (dg n).length ≤ 2 := xB (by rw [show (1000000000 : Nat) ^ 2 = 1000000000000000000 by decide]; exact hn)
      omega
     have h1 := Of a cap ((dg n).map (fun d : Nat => (d : Int))) (by rw [hl]; exact hlen) w ⟨a, cap, rfl, hel⟩
     rw [hl, KQ hn] at h1
     have h2 : Calls prog 249 #[.agg #[.slice a (dg n).length cap]] w _ := (callsIn_wide (n := 1001)).1 h1
     rw [hl]
     show Calls prog 249 #[.agg #[.slice a (dg n).length cap]] w _
     refine h2.mono ?_
     rintro e w' ⟨rfl, hb⟩
     exact ⟨hb, [.int .u64 n], rfl, ⟨rfl, rfl⟩, trivial⟩
   | [], hus => exact hus.elim
   | _ :: _ :: _, hus => exact hus.2.elim
 | [], hv => exact hv.elim
 | _ :: _ :: _, hv => exact hv.2.elim
end Go.Sy
namespace Go.Sy
open Go Go.Proofs Tryz Ord
def RX : Tr := .need (.call 249 [(.agg [(U 2 0)])] [none]) (.call ⟨.value (.func 249), #[(.tmp 22)], #[35]⟩) 254 false (.need (.call 249 [(.agg [(U 3 0)])] [none]) (.call ⟨.value (.func 249), #[(.tmp 24)], #[35]⟩) 254 true (.loop 1 [(.w (W 11 0)), (.w (W 12 0))] (.need (.prim [(W 14 0), (.one (.c (.k (.int .u64 (0)))))] none) (.binOp .neq 254 (.tmp 26) (.const (.int .u64 (0))) 254) 4 false (.split (.u 15 0) (.need (.prim [(W 13 0), (W 14 0)] none) (.binOp .rem 254 (.tmp 29) (.tmp 30) 254) 254 false (.back 1 [(.w (W 14 0)), (.w (W 16 0))])) (.need (.call 195 [(W 13 0)] [(some 1)]) (.call ⟨.value (.func 195), #[(.tmp 32)], #[254]⟩) 35 true (.ret [(.agg [(U 16 0)])]))))))
def VU : Tr := .need (.prim [(W 7 0), (WK (2))] none) (.binOp .leq 3 (.tmp 14) (.const (I3 (2))) 3) 4 false (.split (.u 8 0) (.need (.prim [(W 3 0)] none) (.call ⟨.builtin .len, #[(.tmp 18)], #[33]⟩) 3 false (.need (.prim [(W 9 0), (WK (2))] none) (.binOp .leq 3 (.tmp 19) (.const (I3 (2))) 3) 4 false (.split (.u 10 0) RX (.need (.call 193 [(.agg [(U 2 0)]), (.agg [(U 3 0)])] [(some 1), (some 1)]) (.call ⟨.value (.func 193), #[(.tmp 35), (.tmp 36)], #[35, 35]⟩) 251 false (.back 0 [(.w (W 3 0)), (.w (W 12 0)), (.w (W 4 0))]))))) (.need (.call 193 [(.agg [(U 2 0)]), (.agg [(U 3 0)])] [(some 1), (some 1)]) (.call ⟨.value (.func 193), #[(.tmp 35), (.tmp 36)], #[35, 35]⟩) 251 false (.back 0 [(.w (W 3 0)), (.w (W 10 0)), (.w (W 4 0))])))
def KN : Tr := .ret [(.agg [(U 2 0)])]
def Xc : Tr := .loop 0 [(.w (W 0 0)), (.w (W 1 0)), (.w (.one (.c (.k (.slice none 0 0)))))] (.need (.call 179 [(.agg [(U 3 0)])] [none]) (.call ⟨.value (.func 179), #[(.tmp 9)], #[35]⟩) 4 true (.need (.prim [(W 5 0)] none) (.unOp .not 4 (.tmp 10)) 4 false (.split (.u 6 0) (.need (.prim [(W 2 0)] none) (.call ⟨.builtin .len, #[(.tmp 13)], #[33]⟩) 3 false VU) KN)))
theorem Jg : aM prog f191 (fun _ => none) [.v (some 1), .v (some 1)] = Xc := by kernel_rfl
def Wq : Tr := .split (.u 8 0) (.need (.call 118 [(.agg [(U 5 0)]), (.agg [(U 4 0)])] [(some 1)]) (.call ⟨.value (.func 118), #[(.tmp 14), (.tmp 15)], #[35, 35]⟩) 35 true (.need (.prim [(W 3 0), (WK (1))] none) (.binOp .gtr 3 (.tmp 17) (.const (I3 (1))) 3) 4 false (.split (.u 10 0) (.need (.call 118 [(.agg [(U 4 0)]), (.agg [(U 4 0)])] [(some 1)]) (.call ⟨.value (.func 118), #[(.tmp 19), (.tmp 20)], #[35, 35]⟩) 35 true (.need (.prim [(W 3 0), (WK (2))] none) (.binOp .quo 3 (.tmp 9) (.const (I3 (2))) 3) 3 false (.back 0 [(.w (W 12 0)), (.w (W 11 0)), (.w (W 9 0))]))) (.need (.prim [(W 3 0), (WK (2))] none) (.binOp .quo 3 (.tmp 9) (.const (I3 (2))) 3) 3 false (.back 0 [(.w (W 11 0)), (.w (W 4 0)), (.w (W 9 0))]))))) (.need (.prim [(W 3 0), (WK (1))] none) (.binOp .gtr 3 (.tmp 17) (.const (I3 (1))) 3) 4 false (.split (.u 9 0) (.need (.call 118 [(.agg [(U 4 0)]), (.agg [(U 4 0)])] [(some 1)]) (.call ⟨.value (.func 118), #[(.tmp 19), (.tmp 20)], #[35, 35]⟩) 35 true (.need (.prim [(W 3 0), (WK (2))] none) (.binOp .quo 3 (.tmp 9) (.const (I3 (2))) 3) 3 false (.back 0 [(.w (W 11 0)), (.w (W 10 0)), (.w (W 5 0))]))) (.need (.prim [(W 3 0), (WK (2))] none) (.binOp .quo 3 (.tmp 9) (.const (I3 (2))) 3) 3 false (.back 0 [(.w (W 10 0)), (.w (W 4 0)), (.w (W 5 0))]))))
def VB : Tr := .need (.call 195 [(.one (.c (.k (.int .u64 (1)))))] [(some 1)]) (.call ⟨.value (.func 195), #[(.const (.int .u64 (1)))], #[254]⟩) 35 true (.loop 0 [(.w (W 1 0)), (.w (W 0 0)), (.w (W 2 0))] (.need (.prim [(W 3 0), (WK (0))] none) (.binOp .gtr 3 (.tmp 7) (.const (I3 (0))) 3) 4 false (.split (.u 6 0) (.need (.prim [(W 3 0), (WK (2))] none) (.binOp .rem 3 (.tmp 11) (.const (I3 (2))) 3) 3 false (.need (.prim [(W 7 0), (WK (1))] none) (.binOp .eql 3 (.tmp 12) (.const (I3 (1))) 3) 4 false Wq)) (.ret [(.agg [(U 5 0)])]))))
theorem Oq : aM prog f282 (fun _ => none) [.v (some 1), .v none] = VB := by kernel_rfl
def KX : Tr := .ret [(.agg [(U 4 0), (U 4 1)])]
def Wc : Tr := .need (.prim [(W 0 1), (W 1 1)] none) (.binOp .neq 4 (.tmp 6) (.tmp 8) 4) 4 false (.need (.call 118 [(.agg [(U 0 0)]), (.agg [(U 1 0)])] [(some 1)]) (.call ⟨.value (.func 118), #[(.tmp 11), (.tmp 13)], #[35, 35]⟩) 35 true (.need (.call 155 [(W 2 0), (.agg [(U 3 0)])] [(some 2)]) (.call ⟨.value (.func 155), #[(.tmp 9), (.tmp 14)], #[4, 35]⟩) 37 true KX))
theorem Qa : aM prog f116 (fun _ => none) [.v (some 2), .v (some 2)] = Wc := by kernel_rfl
def JW : Tr := .ret [(.agg [(U 6 0), (U 6 1)])]
def Va : Tr := .need (.prim [(W 0 1), (W 1 1)] none) (.binOp .eql 4 (.tmp 7) (.tmp 9) 4) 4 false (.split (.u 2 0) (.need (.call 196 [(.agg [(U 0 0)]), (.agg [(U 1 0)])] [(some 1)]) (.call ⟨.value (.func 196), #[(.tmp 14), (.tmp 16)], #[35, 35]⟩) 35 true (.need (.call 155 [(W 0 1), (.agg [(U 3 0)])] [(some 2)]) (.call ⟨.value (.func 155), #[(.tmp 12), (.tmp 17)], #[4, 35]⟩) 37 true KX)) (.need (.call 119 [(.agg [(U 0 0)]), (.agg [(U 1 0)])] [none]) (.call ⟨.value (.func 119), #[(.tmp 21), (.tmp 23)], #[35, 35]⟩) 3 true (.need (.prim [(W 3 0), (WK (0))] none) (.binOp .lss 3 (.tmp 24) (.const (I3 (0))) 3) 4 false (.split (.u 4 0) (.need (.call 194 [(.agg [(U 1 0)]), (.agg [(U 0 0)])] [(some 1)]) (.call ⟨.value (.func 194), #[(.tmp 29), (.tmp 31)], #[35, 35]⟩) 35 true (.need (.call 155 [(W 1 1), (.agg [(U 5 0)])] [(some 2)]) (.call ⟨.value (.func 155), #[(.tmp 27), (.tmp 32)], #[4, 35]⟩) 37 true JW)) (.need (.call 194 [(.agg [(U 0 0)]), (.agg [(U 1 0)])] [(some 1)]) (.call ⟨.value (.func 194), #[(.tmp 37), (.tmp 39)], #[35, 35]⟩) 35 true (.need (.call 155 [(W 0 1), (.agg [(U 5 0)])] [(some 2)]) (.call ⟨.value (.func 155), #[(.tmp 35), (.tmp 40)], #[4, 35]⟩) 37 true JW))))))
theorem Rn : aM prog f154 (fun _ => none) [.v (some 2), .v (some 2)] = Va := by kernel_rfl
def XP : Tr := .need (.prim [(W 0 0), (WK (0))] none) (.binOp .lss 2 (.tmp 3) (.const (I3 (0))) 2) 4 false (.split (.u 1 0) (.need (.prim [(W 0 0)] none) (.convert 2 254 (.tmp 5)) 254 false (.need (.prim [(W 2 0)] none) (.unOp .neg 254 (.tmp 6)) 254 false (.need (.call 195 [(W 3 0)] [(some 1)]) (.call ⟨.value (.func 195), #[(.tmp 7)], #[254]⟩) 35 true (.need (.call 155 [(.one (.c (.k (.bool true)))), (.agg [(U 4 0)])] [(some 2)]) (.call ⟨.value (.func 155), #[(.const (.bool true)), (.tmp 8)], #[4, 35]⟩) 37 true (.ret [(.agg [(U 5 0), (U 5 1)])]))))) (.need (.prim [(W 0 0)] none) (.convert 2 254 (.tmp 10)) 254 false (.need (.call 195 [(W 2 0)] [(some 1)]) (.call ⟨.value (.func 195), #[(.tmp 11)], #[254]⟩) 35 true (.need (.call 155 [(.one (.c (.k (.bool false)))), (.agg [(U 3 0)])] [(some 2)]) (.call ⟨.value (.func 155), #[(.const (.bool false)), (.tmp 12)], #[4, 35]⟩) 37 true KX))))
theorem Md : aM prog f158 (fun _ => none) [.v none] = XP := by kernel_rfl
theorem eS {n B : Nat} (h : n < 2 ^ B) : (dg n).length ≤ B :=
 xB (Nat.lt_of_lt_of_le h (Nat.pow_le_pow_left (by omega) B))
theorem Ft {n : Nat} (h : (dg n).length ≤ 2) : n < 1000000000000000000 := by
 have h1 := AB n
 have h2 : 1000000000 ^ (dg n).length ≤ 1000000000 ^ 2 := Nat.pow_le_pow_right (by omega) h
 rw [show (1000000000 : Nat) ^ 2 = 1000000000000000000 by decide] at h2
 omega
theorem Sm (n : Nat) : aN prog 192 [(mT n : aH)] (.ret [.one (.bool (decide (n = 1)))]) := by
 refine aD (args := [.v (some 1)]) (ins := [.v (mT n)]) (hints := (fun _ => none)) fo (by kernel_rfl) func192 ⟨rfl, trivial⟩ ?_
 rw [Rf]
 dsimp only [List.map, In.env, aA, aB]
 refine vn (aK cG (List.length_map _)) rfl ?_
 dsimp only [aA, aB]
 refine vn aX rfl ?_
 dsimp only [aA, aB]
 refine vs _ rfl (fun h2 => ?_) (fun h2 => ?_)
 ·obtain ⟨d, hd⟩ : ∃ d, dg n = [d] := by
   match h : dg n with
   | [d] => exact ⟨d, rfl⟩
   | [] => rw [h] at h2; simp at h2
   | _ :: _ :: _ => rw [h] at h2; simp at h2; omega
  have hv := fA n
  rw [hd] at hv
  refine vn (aR cG (by omega) (by omega) (show (dg n)[0]? = some d by rw [hd]; rfl)) rfl ?_
  dsimp only [aA, aB]
  refine vn (bA rE) rfl ?_
  dsimp only [aA, aB]
  refine vn aX rfl ?_
  dsimp only [aA, aB]
  refine aJ ?_
  have hv : d = n := by simpa [lv, val] using hv
  subst hv
  show [aH.one (.bool (decide ((d : Int) = 1)))] = _
  have e : ((d : Int) = 1) ↔ d = 1 := by omega
  simp only [e]
 refine aJ ?_
 have : ¬ n = 1 := fun e => by
  subst e
  rw [pG (by omega) (by omega)] at h2
  exact h2 rfl
 simp [this]; rfl
set_option maxHeartbeats 1000000 in
theorem Je (a b : Nat) (hs : (dg (max a b)).length < 137438953472) : aN prog 191 [(mT a : aH), (mT b : aH)] (.ret [mT (Nat.gcd a b)]) := by
 refine aD (args := [.v (some 1), .v (some 1)]) (ins := [.v (mT a), .v (mT b)]) (hints := (fun _ => none)) fo (by kernel_rfl) func191 ⟨rfl, rfl, trivial⟩ ?_
 rw [Jg]
 dsimp only [List.map, In.env, aA, aB]
 refine aY {p : Nat × Nat // Nat.gcd p.1 p.2 = Nat.gcd a b ∧ p.1 ≤ max a b ∧ p.2 ≤ max a b} (fun p => [.one (dT p.1.1), .one (dT p.1.2), .one (.exact (.slice none 0 0))]) (fun p => p.1.2) ⟨(a, b), rfl, by omega, by omega⟩ aL.rfl (fun _ => rfl) ?_
 rintro ⟨⟨x, y⟩, hg, hx, hy⟩
 dsimp only [aA, aB] at hg hx hy ⊢
 have hxl := lM hx
 have hyl := lM hy
 refine aC (yG y) rfl ?_
 dsimp only [aA, aB]
 refine vn Ae rfl ?_
 dsimp only [aA, aB]
 refine vs _ rfl (fun h3 => ?_) (fun h3 => ?_)
 ·have hy0 : 0 < y := by omega
  refine vn (aK cG (List.length_map _)) rfl ?_
  dsimp only [aA, aB]
  refine vn jA rfl ?_
  dsimp only [aA, aB]
  refine vs _ rfl (fun h6 => ?_) (fun h6 => ?_)
  ·refine vn (aK cG (List.length_map _)) rfl ?_
   dsimp only [aA, aB]
   refine vn jA rfl ?_
   dsimp only [aA, aB]
   refine vs _ rfl (fun h9 => ?_) (fun h9 => ?_)
   ·refine aC (IK x (Ft (by omega))) rfl ?_
    dsimp only [aA, aB]
    refine aC (IK y (Ft (by omega))) rfl ?_
    dsimp only [aA, aB]
    have hx18 := Ft (n := x) (by omega)
    have hy18 := Ft (n := y) (by omega)
    clear hxl hyl
    refine aY {p : Nat × Nat // Nat.gcd p.1 p.2 = Nat.gcd a b ∧ p.1 < 1000000000000000000 ∧ p.2 < 1000000000000000000} (fun p => [.one (.int .u64 p.1.1), .one (.int .u64 p.1.2)]) (fun p => p.1.2) ⟨(x, y), hg, hx18, hy18⟩ aL.rfl (fun _ => rfl) ?_
    rintro ⟨⟨p, q⟩, hpq, hp, hq⟩
    dsimp only [aA, aB] at hpq hp hq ⊢
    refine vn jC rfl ?_
    dsimp only [aA, aB]
    refine vs _ rfl (fun h14 => ?_) (fun h14 => ?_)
    ·refine vn (xV (c := ((p % q : Nat) : Int)) (by omega) (by rw [Int.tmod_eq_emod_of_nonneg (lH _), ← Int.natCast_emod])) rfl ?_
     dsimp only [aA, aB]
     exact aO rfl ⟨⟨(q, p % q), by rw [← hpq, Nat.gcd_comm p q, Nat.gcd_rec q p, Nat.gcd_comm], hq, Nat.lt_of_le_of_lt (Nat.mod_le _ _) hp⟩, aL.rfl, Nat.mod_lt _ (by omega)⟩
    have hq0 : q = 0 := by omega
    subst hq0
    rw [Nat.gcd_zero_right] at hpq
    refine aC (iA p (by omega)) rfl ?_
    dsimp only [aA, aB]
    rw [hpq]; exact aJ rfl
   refine aC (Bw x y hy0 (by omega)) rfl ?_
   dsimp only [aA, aB]
   exact aO rfl ⟨⟨(y, x % y), by rw [← hg, Nat.gcd_comm x y, Nat.gcd_rec y x, Nat.gcd_comm], hy, Nat.le_trans (Nat.mod_le _ _) hx⟩, aL.rfl, Nat.mod_lt _ hy0⟩
  refine aC (Bw x y hy0 (by omega)) rfl ?_
  dsimp only [aA, aB]
  exact aO rfl ⟨⟨(y, x % y), by rw [← hg, Nat.gcd_comm x y, Nat.gcd_rec y x, Nat.gcd_comm], hy, Nat.le_trans (Nat.mod_le _ _) hx⟩, aL.rfl, Nat.mod_lt _ hy0⟩
 have hy0 : y = 0 := by omega
 subst hy0
 rw [Nat.gcd_zero_right] at hg
 rw [hg]; exact aJ rfl
theorem CF {a B n : Nat} (h : a < 2 ^ B) (hB : 1 ≤ B) : a ^ n < 2 ^ (B * n + 1) := by
 rw [Nat.pow_succ, Nat.pow_mul]
 have h1 : a ^ n ≤ (2 ^ B) ^ n := Nat.pow_le_pow_left (Nat.le_of_lt h) n
 have h2 : 0 < (2 ^ B) ^ n := Nat.pow_pos (Nat.pow_pos (by omega))
 omega
structure Am (a n : Nat) (k x y : Nat) : Prop where
 eq : y * x ^ k = a ^ n
 z : a = 0 → x = 0
 x1 : k ≠ 0 → x ≤ max 1 (a ^ n)
 y1 : y ≤ max 1 (a ^ n)
theorem Am.mk' {a n k x y : Nat} (hn : n ≠ 0) (eq : y * x ^ k = a ^ n) (z : a = 0 → x = 0) (hy : x = 0 → y ≤ 1) : Am a n k x y := by
 have hk : ∀ t, 0 < t → t ≤ x → 0 < x ^ k := fun t h1 h2 => Nat.pow_pos (by omega)
 refine ⟨eq, z, fun h0 => ?_, ?_⟩
 ·rcases Nat.eq_zero_or_pos x with hx | hx
  ·omega
  ·rcases Nat.eq_zero_or_pos y with hy0 | hy0
   ·rw [hy0, Nat.zero_mul] at eq
    have := z (Nat.eq_zero_of_not_pos fun ha => by have := Nat.pow_pos (n := n) ha; omega)
    omega
   ·have h1 : x ≤ x ^ k := Nat.le_self_pow h0 x
    have h2 : x ^ k ≤ y * x ^ k := Nat.le_mul_of_pos_left _ hy0
    omega
 ·rcases Nat.eq_zero_or_pos x with hx | hx
  ·have := hy hx; omega
  ·have h2 : y ≤ y * x ^ k := Nat.le_mul_of_pos_right _ (Nat.pow_pos hx)
   omega
set_option maxHeartbeats 1000000 in
theorem Oh (a n : Nat) (B : Nat) (hB : 1 ≤ B) (ha : a < 2 ^ B) (hn : n < 1099511627776) (hs : B * n < 137438953472) : aN prog 282 [(mT a : aH), (.one (.int .i64 n) : aH)] (.ret [mT (a ^ n)]) := by
 refine aD (args := [.v (some 1), .v none]) (ins := [.v (mT a), .v (.one (.int .i64 n))]) (hints := (fun _ => none)) fo (by kernel_rfl) func282 ⟨rfl, rfl, trivial⟩ ?_
 rw [Oq]
 dsimp only [List.map, In.env, aA, aB]
 have hbd : ∀ j, j ≤ max 1 (a ^ n) → (dg j).length ≤ B * n + 1 := fun j hj => eS (by
  have h1 := CF (n := n) ha hB
  have h2 : 2 ^ 1 ≤ 2 ^ (B * n + 1) := Nat.pow_le_pow_right (by omega) (by omega)
  omega)
 refine aC (iA 1 (by omega)) rfl ?_
 dsimp only [aA, aB]
 refine aY {p : Nat × Nat × Nat // Am a n p.1 p.2.1 p.2.2 ∧ (p.1 ≠ 0 → n ≠ 0) ∧ (p.2.1 = 0 → p.2.2 ≤ 1) ∧ p.1 ≤ n} (fun p => [.one (.int .i64 p.1.1), .one (dT p.1.2.1), .one (dT p.1.2.2)]) (fun p => p.1.1) ⟨(n, a, 1), ⟨by simp, fun h => h, fun h => by have := Nat.le_self_pow h a; show a ≤ max 1 (a ^ n); exact Nat.le_trans this (Nat.le_max_right _ _), Nat.le_max_left _ _⟩, fun h => h, fun _ => Nat.le_refl _, Nat.le_refl _⟩ aL.rfl (fun _ => rfl) ?_
 rintro ⟨⟨k, x, y⟩, hI, hn0, hy1, hkn⟩
 dsimp only [aA, aB] at hI hn0 hy1 hkn ⊢
 have hyl := hbd y hI.y1
 refine vn cT rfl ?_
 dsimp only [aA, aB]
 refine vs _ rfl (fun h3 => ?_) (fun h3 => ?_)
 ·have hk0 : k ≠ 0 := by omega
  have hnn := hn0 hk0
  have hxl := hbd x (hI.x1 hk0)
  have hev : k % 2 = 0 → y * (x * x) ^ (k / 2) = a ^ n := fun h => by
   rw [← hI.eq, ← Nat.pow_two, ← Nat.pow_mul]; congr 2; omega
  have hod : k % 2 = 1 → y * x * (x * x) ^ (k / 2) = a ^ n := fun h => by
   rw [← hI.eq, ← Nat.pow_two, ← Nat.pow_mul, Nat.mul_assoc, ← Nat.pow_succ']; congr 2; omega
  have hz2 : a = 0 → x * x = 0 := fun h => by rw [hI.z h]
  have hx2 : x * x = 0 → x = 0 := fun h => by rcases Nat.mul_eq_zero.1 h with h | h <;> exact h
  have hyx2 : x = 0 → y * x ≤ 1 := fun h => by rw [h]; omega
  refine vn (dI (by omega) (by omega)) rfl ?_
  dsimp only [aA, aB]
  refine vn aX rfl ?_
  dsimp only [aA, aB]
  refine vs _ rfl (fun h6 => ?_) (fun h6 => ?_)
  ·refine aC (gF y x (by omega)) rfl ?_
   dsimp only [aA, aB]
   refine vn cT rfl ?_
   dsimp only [aA, aB]
   refine vs _ rfl (fun h9 => ?_) (fun h9 => ?_)
   ·refine aC (gF x x (by omega)) rfl ?_
    dsimp only [aA, aB]
    refine vn (fZ (by omega) (by omega) (by omega)) rfl ?_
    dsimp only [aA, aB]
    exact aO rfl ⟨⟨(k / 2, x * x, y * x), Am.mk' hnn (hod (by omega)) hz2 (hyx2 ∘ hx2), fun _ => hnn, hyx2 ∘ hx2, by show k / 2 ≤ n; omega⟩, aL.rfl, by show k / 2 < k; omega⟩
   refine vn (fZ (by omega) (by omega) (by omega)) rfl ?_
   dsimp only [aA, aB]
   have hk1 : k = 1 := by omega
   subst hk1
   exact aO rfl ⟨⟨(1 / 2, x, y * x), Am.mk' hnn (by have := hI.eq; rw [Nat.pow_one] at this; simpa using this) hI.z hyx2, fun _ => hnn, hyx2, by show 1 / 2 ≤ n; omega⟩, aL.rfl, by show 1 / 2 < 1; omega⟩
  refine vn cT rfl ?_
  dsimp only [aA, aB]
  refine vs _ rfl (fun h16 => ?_) (fun h16 => ?_)
  ·refine aC (gF x x (by omega)) rfl ?_
   dsimp only [aA, aB]
   refine vn (fZ (by omega) (by omega) (by omega)) rfl ?_
   dsimp only [aA, aB]
   exact aO rfl ⟨⟨(k / 2, x * x, y), Am.mk' hnn (hev (by omega)) hz2 (fun h => hy1 (hx2 h)), fun _ => hnn, fun h => hy1 (hx2 h), by show k / 2 ≤ n; omega⟩, aL.rfl, by show k / 2 < k; omega⟩
  exfalso; omega
 have hk0 : k = 0 := by omega
 subst hk0
 have := hI.eq
 rw [Nat.pow_zero, Nat.mul_one] at this
 rw [this]; exact aJ rfl
end Go.Sy
namespace Go.Sy
open Go Go.Proofs Tryz Ord
def VA : Tr := .split (.u 4 0) (.need (.call 193 [(.agg [(U 0 0)]), (.agg [(U 2 0)])] [(some 1), (some 1)]) (.call ⟨.value (.func 193), #[(.tmp 15), (.tmp 16)], #[35, 35]⟩) 251 false (.need (.call 193 [(.agg [(U 1 0)]), (.agg [(U 2 0)])] [(some 1), (some 1)]) (.call ⟨.value (.func 193), #[(.tmp 22), (.tmp 23)], #[35, 35]⟩) 251 false (.need (.call 155 [(W 0 1), (.agg [(U 5 0)])] [(some 2)]) (.call ⟨.value (.func 155), #[(.tmp 28), (.tmp 30)], #[4, 35]⟩) 37 false (.need (.call 195 [(.one (.c (.k (.int .u64 (1)))))] [(some 1)]) (.call ⟨.value (.func 195), #[(.const (.int .u64 (1)))], #[254]⟩) 35 false (.need (.call 194 [(.agg [(U 7 0)]), (.agg [(U 10 0)])] [(some 1)]) (.call ⟨.value (.func 194), #[(.tmp 32), (.tmp 33)], #[35, 35]⟩) 35 true (.ret [(.agg [(U 9 0), (U 9 1), (U 11 0)])])))))) (.need (.call 155 [(W 0 1), (.agg [(U 0 0)])] [(some 2)]) (.call ⟨.value (.func 155), #[(.tmp 28), (.tmp 30)], #[4, 35]⟩) 37 false (.need (.call 195 [(.one (.c (.k (.int .u64 (1)))))] [(some 1)]) (.call ⟨.value (.func 195), #[(.const (.int .u64 (1)))], #[254]⟩) 35 false (.need (.call 194 [(.agg [(U 1 0)]), (.agg [(U 6 0)])] [(some 1)]) (.call ⟨.value (.func 194), #[(.tmp 32), (.tmp 33)], #[35, 35]⟩) 35 true (.ret [(.agg [(U 5 0), (U 5 1), (U 7 0)])]))))
def Uw : Tr := .need (.call 191 [(.agg [(U 0 0)]), (.agg [(U 1 0)])] [(some 1)]) (.call ⟨.value (.func 191), #[(.tmp 7), (.tmp 8)], #[35, 35]⟩) 35 true (.need (.call 192 [(.agg [(U 2 0)])] [none]) (.call ⟨.value (.func 192), #[(.tmp 10)], #[35]⟩) 4 true (.need (.prim [(W 3 0)] none) (.unOp .not 4 (.tmp 11)) 4 false VA))
theorem NU : aM prog f115 (fun _ => none) [.v (some 2), .v (some 1)] = Uw := by kernel_rfl
def Vr : Tr := .need (.call 195 [(.one (.c (.k (.int .u64 (1)))))] [(some 1)]) (.call ⟨.value (.func 195), #[(.const (.int .u64 (1)))], #[254]⟩) 35 true (.need (.call 196 [(.agg [(U 0 2)]), (.agg [(U 1 0)])] [(some 1)]) (.call ⟨.value (.func 196), #[(.tmp 4), (.tmp 5)], #[35, 35]⟩) 35 true KN)
theorem GZ : aM prog f117 (fun _ => none) [.v (some 3)] = Vr := by kernel_rfl
def Vm : Tr := .ret [(.agg [(U 0 0), (U 0 1), (.c (.k (.slice none 0 0)))])]
theorem MT : aM prog f157 (fun _ => none) [.v (some 2)] = Vm := by kernel_rfl
def XH : Tr := .need (.call 158 [(W 0 0)] [(some 2)]) (.call ⟨.value (.func 158), #[(.tmp 3)], #[2]⟩) 37 true (.need (.call 157 [(.agg [(U 1 0), (U 1 1)])] [(some 3)]) (.call ⟨.value (.func 157), #[(.tmp 4)], #[37]⟩) 39 true (.ret [(.agg [(U 2 0), (U 2 1), (U 2 2)])]))
theorem WZ : aM prog f68 (fun _ => none) [.v none] = XH := by kernel_rfl
def Wn : Tr := .need (.prim [(W 0 0), (W 1 0)] none) (.call ⟨.builtin .min, #[(.tmp 5), (.tmp 6)], #[3, 3]⟩) 3 false (.need (.prim [(WK (0)), (W 2 0)] none) (.call ⟨.builtin .max, #[(.const (I3 (0))), (.tmp 7)], #[3, 3]⟩) 3 false (.ret [(W 3 0)]))
theorem KB : aM prog f283 (fun _ => none) [.v none, .v none] = Wn := by kernel_rfl
def WX : Tr := .need (.call 114 [(.agg [(U 0 0), (U 0 1)])] [none]) (.call ⟨.value (.func 114), #[(.tmp 4)], #[37]⟩) 3 true (.ret [(W 1 0)])
theorem NM : aM prog f35 (fun _ => none) [.v (some 3)] = WX := by kernel_rfl
def VH : Tr := .need (.prim [(W 0 1)] none) (.unOp .not 4 (.tmp 5)) 4 false (.need (.call 155 [(W 1 0), (.agg [(U 0 0)])] [(some 2)]) (.call ⟨.value (.func 155), #[(.tmp 6), (.tmp 9)], #[4, 35]⟩) 37 false (.ret [(.agg [(U 2 0), (U 2 1), (U 0 2)])]))
theorem Qt : aM prog f65 (fun _ => none) [.v (some 3)] = VH := by kernel_rfl
def Xp : Tr := .need (.call 155 [(.one (.c (.k (.bool false)))), (.agg [(U 0 0)])] [(some 2)]) (.call ⟨.value (.func 155), #[(.const (.bool false)), (.tmp 5)], #[4, 35]⟩) 37 false (.ret [(.agg [(U 1 0), (U 1 1), (U 0 2)])])
theorem Ql : aM prog f146 (fun _ => none) [.v (some 3)] = Xp := by kernel_rfl
def Wf : Tr := .need (.call 117 [(.agg [(U 1 0), (U 1 1), (U 1 2)])] [(some 1)]) (.call ⟨.value (.func 117), #[(.tmp 9)], #[39]⟩) 35 true (.need (.call 116 [(.agg [(U 0 0), (U 0 1)]), (.agg [(U 3 0), (.c (.k (.bool false)))])] [(some 2)]) (.call ⟨.value (.func 116), #[(.tmp 12), (.tmp 14)], #[37, 37]⟩) 37 false (.need (.call 116 [(.agg [(U 1 0), (U 1 1)]), (.agg [(U 2 0), (.c (.k (.bool false)))])] [(some 2)]) (.call ⟨.value (.func 116), #[(.tmp 17), (.tmp 19)], #[37, 37]⟩) 37 false (.need (.call 154 [(.agg [(U 4 0), (U 4 1)]), (.agg [(U 5 0), (U 5 1)])] [(some 2)]) (.call ⟨.value (.func 154), #[(.tmp 15), (.tmp 20)], #[37, 37]⟩) 37 false (.need (.call 118 [(.agg [(U 2 0)]), (.agg [(U 3 0)])] [(some 1)]) (.call ⟨.value (.func 118), #[(.tmp 22), (.tmp 23)], #[35, 35]⟩) 35 true (.need (.call 115 [(.agg [(U 6 0), (U 6 1)]), (.agg [(U 7 0)])] [(some 3)]) (.call ⟨.value (.func 115), #[(.tmp 21), (.tmp 24)], #[37, 35]⟩) 39 true (.ret [(.agg [(U 8 0), (U 8 1), (U 8 2)])]))))))
def Ut : Tr := .need (.call 117 [(.agg [(U 0 0), (U 0 1), (U 0 2)])] [(some 1)]) (.call ⟨.value (.func 117), #[(.tmp 7)], #[39]⟩) 35 false Wf
theorem Tp : aM prog f64 (fun _ => none) [.v (some 3), .v (some 3)] = Ut := by kernel_rfl
def VT : Tr := .need (.call 65 [(.agg [(U 1 0), (U 1 1), (U 1 2)])] [(some 3)]) (.call ⟨.value (.func 65), #[(.tmp 6)], #[39]⟩) 39 true (.need (.call 64 [(.agg [(U 0 0), (U 0 1), (U 0 2)]), (.agg [(U 2 0), (U 2 1), (U 2 2)])] [(some 3)]) (.call ⟨.value (.func 64), #[(.tmp 5), (.tmp 7)], #[39, 39]⟩) 39 true (.ret [(.agg [(U 3 0), (U 3 1), (U 3 2)])]))
theorem TF : aM prog f167 (fun _ => none) [.v (some 3), .v (some 3)] = VT := by kernel_rfl
def Xq : Tr := .need (.call 116 [(.agg [(U 0 0), (U 0 1)]), (.agg [(U 1 0), (U 1 1)])] [(some 2)]) (.call ⟨.value (.func 116), #[(.tmp 6), (.tmp 8)], #[37, 37]⟩) 37 false (.need (.call 117 [(.agg [(U 0 0), (U 0 1), (U 0 2)])] [(some 1)]) (.call ⟨.value (.func 117), #[(.tmp 10)], #[39]⟩) 35 false (.need (.call 117 [(.agg [(U 1 0), (U 1 1), (U 1 2)])] [(some 1)]) (.call ⟨.value (.func 117), #[(.tmp 12)], #[39]⟩) 35 false (.need (.call 118 [(.agg [(U 3 0)]), (.agg [(U 4 0)])] [(some 1)]) (.call ⟨.value (.func 118), #[(.tmp 11), (.tmp 13)], #[35, 35]⟩) 35 true (.need (.call 115 [(.agg [(U 2 0), (U 2 1)]), (.agg [(U 5 0)])] [(some 3)]) (.call ⟨.value (.func 115), #[(.tmp 9), (.tmp 14)], #[37, 35]⟩) 39 true (.ret [(.agg [(U 6 0), (U 6 1), (U 6 2)])])))))
theorem SJ : aM prog f36 (fun _ => none) [.v (some 3), .v (some 3)] = Xq := by kernel_rfl
def Ux : Tr := .need (.call 117 [(.agg [(U 1 0), (U 1 1), (U 1 2)])] [(some 1)]) (.call ⟨.value (.func 117), #[(.tmp 10)], #[39]⟩) 35 false (.need (.call 155 [(W 1 1), (.agg [(U 2 0)])] [(some 2)]) (.call ⟨.value (.func 155), #[(.tmp 9), (.tmp 11)], #[4, 35]⟩) 37 false (.need (.call 116 [(.agg [(U 0 0), (U 0 1)]), (.agg [(U 3 0), (U 3 1)])] [(some 2)]) (.call ⟨.value (.func 116), #[(.tmp 6), (.tmp 12)], #[37, 37]⟩) 37 false (.need (.call 117 [(.agg [(U 0 0), (U 0 1), (U 0 2)])] [(some 1)]) (.call ⟨.value (.func 117), #[(.tmp 14)], #[39]⟩) 35 false (.need (.call 118 [(.agg [(U 5 0)]), (.agg [(U 1 0)])] [(some 1)]) (.call ⟨.value (.func 118), #[(.tmp 15), (.tmp 18)], #[35, 35]⟩) 35 true (.need (.call 115 [(.agg [(U 4 0), (U 4 1)]), (.agg [(U 6 0)])] [(some 3)]) (.call ⟨.value (.func 115), #[(.tmp 13), (.tmp 19)], #[37, 35]⟩) 39 true (.ret [(.agg [(U 7 0), (U 7 1), (U 7 2)])]))))))
theorem Mi : aM prog f255 (fun _ => none) [.v (some 3), .v (some 3)] = Ux := by kernel_rfl
def WA : Tr := .need (.call 35 [(.agg [(U 1 0), (U 1 1), (U 1 2)])] [none]) (.call ⟨.value (.func 35), #[(.tmp 6)], #[39]⟩) 3 true (.need (.prim [(W 2 0), (WK (0))] none) (.binOp .eql 3 (.tmp 7) (.const (I3 (0))) 3) 4 false (.split (.u 3 0) (.ret [(.agg [(.c (.k (.slice none 0 0))), (.c (.k (.bool false))), (.c (.k (.slice none 0 0)))]), (WK (9))]) (.need (.call 255 [(.agg [(U 0 0), (U 0 1), (U 0 2)]), (.agg [(U 1 0), (U 1 1), (U 1 2)])] [(some 3)]) (.call ⟨.value (.func 255), #[(.tmp 10), (.tmp 11)], #[39, 39]⟩) 39 true (.ret [(.agg [(U 4 0), (U 4 1), (U 4 2)]), (WK (0))]))))
theorem QW : aM prog f200 (fun _ => none) [.v (some 3), .v (some 3)] = WA := by kernel_rfl
def UT : Tr := .need (.call 68 [(W 0 0)] [(some 3)]) (.call ⟨.value (.func 68), #[(.tmp 6)], #[2]⟩) 39 false (.need (.call 68 [(W 1 0)] [(some 3)]) (.call ⟨.value (.func 68), #[(.tmp 8)], #[2]⟩) 39 false (.need (.call 200 [(.agg [(U 2 0), (U 2 1), (U 2 2)]), (.agg [(U 3 0), (U 3 1), (U 3 2)])] [(some 3), none]) (.call ⟨.value (.func 200), #[(.tmp 7), (.tmp 9)], #[39, 39]⟩) 90 true (.ret [(.agg [(U 4 0), (U 4 1), (U 4 2)]), (W 5 0)])))
theorem Yy : aM prog f120 (fun _ => none) [.v none, .v none] = UT := by kernel_rfl
def Ty : Tr := .need (.call 117 [(.agg [(U 1 0), (U 1 1), (U 1 2)])] [(some 1)]) (.call ⟨.value (.func 117), #[(.tmp 31)], #[39]⟩) 35 false (.need (.call 118 [(.agg [(U 0 0)]), (.agg [(U 7 0)])] [(some 1)]) (.call ⟨.value (.func 118), #[(.tmp 30), (.tmp 32)], #[35, 35]⟩) 35 false (.need (.call 117 [(.agg [(U 0 0), (U 0 1), (U 0 2)])] [(some 1)]) (.call ⟨.value (.func 117), #[(.tmp 37)], #[39]⟩) 35 false (.need (.call 118 [(.agg [(U 1 0)]), (.agg [(U 9 0)])] [(some 1)]) (.call ⟨.value (.func 118), #[(.tmp 36), (.tmp 38)], #[35, 35]⟩) 35 false (.need (.call 119 [(.agg [(U 8 0)]), (.agg [(U 10 0)])] [none]) (.call ⟨.value (.func 119), #[(.tmp 33), (.tmp 39)], #[35, 35]⟩) 3 true (.need (.prim [(W 6 0), (W 11 0)] none) (.binOp .mul 3 (.tmp 27) (.tmp 40) 3) 3 false (.ret [(W 12 0)]))))))
def Vw : Tr := .need (.prim [(W 2 0), (WK (0))] none) (.binOp .eql 3 (.tmp 15) (.const (I3 (0))) 3) 4 false (.split (.u 5 0) (.need (.prim [(W 2 0), (W 3 0)] none) (.binOp .sub 3 (.tmp 18) (.tmp 19) 3) 3 false (.need (.prim [(W 2 0), (W 3 0)] none) (.binOp .sub 3 (.tmp 21) (.tmp 22) 3) 3 false (.need (.prim [(W 7 0), (WK (2))] none) (.binOp .quo 3 (.tmp 23) (.const (I3 (2))) 3) 3 false (.need (.prim [(W 6 0), (W 8 0)] none) (.binOp .sub 3 (.tmp 20) (.tmp 24) 3) 3 false (.ret [(W 9 0)]))))) (.need (.call 35 [(.agg [(U 0 0), (U 0 1), (U 0 2)])] [none]) (.call ⟨.value (.func 35), #[(.tmp 26)], #[39]⟩) 3 false Ty))
def Xt : Tr := .need (.prim [(W 2 0), (W 3 0)] none) (.binOp .neq 3 (.tmp 11) (.tmp 12) 3) 4 false (.split (.u 4 0) (.need (.prim [(W 2 0), (W 3 0)] none) (.binOp .sub 3 (.tmp 18) (.tmp 19) 3) 3 false (.need (.prim [(W 2 0), (W 3 0)] none) (.binOp .sub 3 (.tmp 21) (.tmp 22) 3) 3 false (.need (.prim [(W 6 0), (WK (2))] none) (.binOp .quo 3 (.tmp 23) (.const (I3 (2))) 3) 3 false (.need (.prim [(W 5 0), (W 7 0)] none) (.binOp .sub 3 (.tmp 20) (.tmp 24) 3) 3 false (.ret [(W 8 0)]))))) Vw)
def Ue : Tr := .need (.call 35 [(.agg [(U 0 0), (U 0 1), (U 0 2)])] [none]) (.call ⟨.value (.func 35), #[(.tmp 7)], #[39]⟩) 3 false (.need (.call 35 [(.agg [(U 1 0), (U 1 1), (U 1 2)])] [none]) (.call ⟨.value (.func 35), #[(.tmp 9)], #[39]⟩) 3 true Xt)
theorem QU : aM prog f38 (fun _ => none) [.v (some 3), .v (some 3)] = Ue := by kernel_rfl
theorem AH (x y : Int) (hs : (dg x.natAbs).length + (dg y.natAbs).length < 1099511627776) : aN prog 116 [(iT x : aH), (iT y : aH)] (.ret [iT (x * y)]) := by
 refine aD (args := [.v (some 2), .v (some 2)]) (ins := [.v (iT x), .v (iT y)]) (hints := (fun _ => none)) fo (by kernel_rfl) func116 ⟨rfl, rfl, trivial⟩ ?_
 rw [Qa]
 dsimp only [List.map, In.env, aA, aB]
 refine vn (TQ Za) rfl ?_
 dsimp only [aA, aB]
 refine aC (gF _ _ hs) rfl ?_
 dsimp only [aA, aB]
 refine aC (eW _ _ (x * y) (by
  rw [← Int.natAbs_mul]
  have hsg : (x * y).natAbs = x.natAbs * y.natAbs := Int.natAbs_mul _ _
  by_cases h1 : x < 0 <;> by_cases h2 : y < 0 <;> simp only [h1, h2, decide_true, decide_false, ne_eq, not_true_eq_false, not_false_eq_true, Bool.true_eq_false, Bool.false_eq_true, if_true, if_false]
  ·have := Int.mul_pos_of_neg_of_neg h1 h2; omega
  ·have := Int.mul_nonpos_of_nonpos_of_nonneg (Int.le_of_lt h1) (Int.not_lt.1 h2); omega
  ·have := Int.mul_nonpos_of_nonneg_of_nonpos (Int.not_lt.1 h1) (Int.le_of_lt h2); omega
  ·have := Int.mul_nonneg (Int.not_lt.1 h1) (Int.not_lt.1 h2); omega)) rfl ?_
 dsimp only [aA, aB]
 exact aJ rfl
theorem PZ (x y : Int) (hs : (dg x.natAbs).length + (dg y.natAbs).length < 1099511627776) : aN prog 154 [(iT x : aH), (iT y : aH)] (.ret [iT (x + y)]) := by
 refine aD (args := [.v (some 2), .v (some 2)]) (ins := [.v (iT x), .v (iT y)]) (hints := (fun _ => none)) fo (by kernel_rfl) func154 ⟨rfl, rfl, trivial⟩ ?_
 rw [Rn]
 dsimp only [List.map, In.env, aA, aB]
 refine vn (Qc Za) rfl ?_
 dsimp only [aA, aB]
 refine vs _ rfl (fun h1 => ?_) (fun h1 => ?_)
 ·have h1 : x < 0 ↔ y < 0 := by simpa using h1
  refine aC (Lb _ _ hs) rfl ?_
  dsimp only [aA, aB]
  refine aC (eW _ _ (x + y) (by by_cases h2 : x < 0 <;> simp only [h2, decide_true, decide_false, Bool.false_eq_true, if_true, if_false] <;> omega)) rfl ?_
  dsimp only [aA, aB]
  exact aJ rfl
 have h1 : ¬ (x < 0 ↔ y < 0) := by simpa using h1
 refine aC (pW _ _ hs) rfl ?_
 dsimp only [aA, aB]
 refine vn aU rfl ?_
 dsimp only [aA, aB]
 rw [show decide (dR (x.natAbs : Int) (y.natAbs : Int) < 0) = decide (x.natAbs < y.natAbs) by rw [decide_eq_decide, oO]; omega]
 refine vs _ rfl (fun h7 => ?_) (fun h7 => ?_)
 ·refine aC (Br _ _ (by omega) (by omega) (by omega)) rfl ?_
  dsimp only [aA, aB]
  refine aC (eW _ _ (x + y) (by by_cases h2 : y < 0 <;> simp only [h2, decide_true, decide_false, Bool.false_eq_true, if_true, if_false] <;> omega)) rfl ?_
  dsimp only [aA, aB]
  exact aJ rfl
 refine aC (Br _ _ (by omega) (by omega) (by omega)) rfl ?_
 dsimp only [aA, aB]
 refine aC (eW _ _ (x + y) (by by_cases h2 : x < 0 <;> simp only [h2, decide_true, decide_false, Bool.false_eq_true, if_true, if_false] <;> omega)) rfl ?_
 dsimp only [aA, aB]
 exact aJ rfl
theorem FI (n : Int) (h1 : -9223372036854775808 ≤ n) (h2 : n < 9223372036854775808) : aN prog 158 [(.one (.int .i64 n) : aH)] (.ret [iT n]) := by
 refine aD (args := [.v none]) (ins := [.v (.one (.int .i64 n))]) (hints := (fun _ => none)) fo (by kernel_rfl) func158 ⟨rfl, trivial⟩ ?_
 rw [Md]
 dsimp only [List.map, In.env, aA, aB]
 refine vn aU rfl ?_
 dsimp only [aA, aB]
 refine vs _ rfl (fun h1 => ?_) (fun h1 => ?_)
 ·refine vn (fU ⟨_, LP⟩ fJ (c := n + 18446744073709551616) (by rw [IntKind.wrap_u64]; omega)) rfl ?_
  dsimp only [aA, aB]
  refine vn (PJ (c := ((n.natAbs : Nat) : Int)) (by rw [IntKind.wrap_u64]; omega)) rfl ?_
  dsimp only [aA, aB]
  refine aC (iA _ (by omega)) rfl ?_
  dsimp only [aA, aB]
  refine aC (eW true _ n (by rw [if_pos rfl]; omega)) rfl ?_
  dsimp only [aA, aB]
  exact aJ rfl
 refine vn (fU ⟨_, LP⟩ fJ (c := ((n.natAbs : Nat) : Int)) (by rw [IntKind.wrap_u64]; omega)) rfl ?_
 dsimp only [aA, aB]
 refine aC (iA _ (by omega)) rfl ?_
 dsimp only [aA, aB]
 refine aC (eW false _ n (by rw [if_neg (by simp)]; omega)) rfl ?_
 dsimp only [aA, aB]
 exact aJ rfl
abbrev qC (q : Rat) : List aF := [dT q.num.natAbs, .bool (decide (q.num < 0)), dT (q.den - 1)]
abbrev qT (q : Rat) : aH := .agg (qC q)
theorem iI : aP aF.Sub [.exact (.slice none 0 0), .bool false, .exact (.slice none 0 0)] (qC 0) := ⟨gQ rfl, aF.Sub.same, gQ rfl, trivial⟩
theorem JA {z : Int} {d : Nat} (hd : d ≠ 0) : (mkRat z d).num = (if decide (z < 0) = true then -((z.natAbs / z.natAbs.gcd d : Nat) : Int) else ((z.natAbs / z.natAbs.gcd d : Nat) : Int)) ∧ (mkRat z d).den = d / z.natAbs.gcd d := by
 rw [← Rat.normalize_eq_mkRat hd, Rat.normalize_eq hd]
 refine ⟨?_, rfl⟩
 show z / _ = _
 have hg : 0 < z.natAbs.gcd d := Nat.gcd_pos_of_pos_right _ (by omega)
 have hdv : (((z.natAbs.gcd d : Nat)) : Int) ∣ z := Int.ofNat_dvd_left.2 (Nat.gcd_dvd_left _ _)
 have h1 := Int.natAbs_ediv_of_dvd hdv
 rw [Int.natAbs_natCast] at h1
 by_cases h : z < 0
 ·rw [decide_eq_true h, if_pos rfl, ← h1]
  have := Int.ediv_neg_of_neg_of_pos h (b := ((z.natAbs.gcd d : Nat) : Int)) (by omega)
  omega
 ·rw [decide_eq_false h, if_neg (by simp), ← h1]
  have := Int.ediv_nonneg (Int.not_lt.1 h) (b := ((z.natAbs.gcd d : Nat) : Int)) (by omega)
  omega
theorem vP (z : Int) (d : Nat) (hd : 0 < d) (hs : (dg z.natAbs).length + (dg d).length < 137438953472) : aN prog 115 [(iT z : aH), (mT d : aH)] (.ret [qT (mkRat z d)]) := by
 refine aD (args := [.v (some 2), .v (some 1)]) (ins := [.v (iT z), .v (mT d)]) (hints := (fun _ => none)) fo (by kernel_rfl) func115 ⟨rfl, rfl, trivial⟩ ?_
 rw [NU]
 dsimp only [List.map, In.env, aA, aB]
 have hg : 0 < z.natAbs.gcd d := Nat.gcd_pos_of_pos_right _ hd
 have hgd : z.natAbs.gcd d ≤ d := Nat.gcd_le_right _ hd
 have hgl := lM hgd
 obtain ⟨hm1, hm2⟩ := JA (z := z) (d := d) (by omega)
 have hq : 0 < d / z.natAbs.gcd d := Nat.div_pos hgd hg
 have hql := lM (Nat.div_le_self d (z.natAbs.gcd d))
 have hone : (dg 1).length = 1 := by rw [pG (by omega) (by omega)]; rfl
 generalize hG : z.natAbs.gcd d = g at *
 refine aC (Je _ _ (by
  rcases Nat.le_total z.natAbs d with h | h
  ·rw [Nat.max_eq_right h]; omega
  ·rw [Nat.max_eq_left h]; omega)) rfl ?_
 rw [hG]
 dsimp only [aA, aB]
 refine aC (Sm _) rfl ?_
 dsimp only [aA, aB]
 refine vn Ae rfl ?_
 dsimp only [aA, aB]
 refine vs _ rfl (fun h3 => ?_) (fun h3 => ?_)
 ·refine aC (Bw _ _ hg (by omega)) rfl ?_
  dsimp only [aA, aB]
  refine aC (Bw _ _ hg (by omega)) rfl ?_
  dsimp only [aA, aB]
  refine aC (eW _ _ (mkRat z d).num hm1) rfl ?_
  dsimp only [aA, aB]
  refine aC (iA 1 (by omega)) rfl ?_
  dsimp only [aA, aB]
  refine aC (Br _ _ hq hq (by omega)) rfl ?_
  rw [← hm2]
  dsimp only [aA, aB]
  exact aJ rfl
 have hg1 : g = 1 := by simpa using h3
 subst hg1
 rw [Nat.div_one] at hm1 hm2
 refine aC (eW _ _ (mkRat z d).num hm1) rfl ?_
 dsimp only [aA, aB]
 refine aC (iA 1 (by omega)) rfl ?_
 dsimp only [aA, aB]
 refine aC (Br _ _ hd hd (by omega)) rfl ?_
 dsimp only [aA, aB]
 refine aJ ?_
 show [aH.agg [dT _, .bool _, dT (d - 1)]] = [aH.agg [_, _, dT ((mkRat z d).den - 1)]]
 rw [hm2]
theorem eN (q : Rat) (h : (dg q.den).length < 1099511627775) : aN prog 117 [(qT q : aH)] (.ret [mT q.den]) := by
 refine aD (args := [.v (some 3)]) (ins := [.v (qT q)]) (hints := (fun _ => none)) fo (by kernel_rfl) func117 ⟨rfl, trivial⟩ ?_
 rw [GZ]
 dsimp only [List.map, In.env, aA, aB]
 have hp := q.den_pos
 have hl := lM (Nat.sub_le q.den 1)
 have hone : (dg 1).length = 1 := by rw [pG (by omega) (by omega)]; rfl
 refine aC (iA 1 (by omega)) rfl ?_
 dsimp only [aA, aB]
 refine aC (Lb _ _ (by omega)) rfl ?_
 rw [show q.den - 1 + 1 = q.den by omega]
 dsimp only [aA, aB]
 exact aJ rfl
theorem LS (z : Int) : aN prog 157 [(iT z : aH)] (.ret [qT (z : Rat)]) := by
 refine aD (args := [.v (some 2)]) (ins := [.v (iT z)]) (hints := (fun _ => none)) fo (by kernel_rfl) func157 ⟨rfl, trivial⟩ ?_
 rw [MT]
 dsimp only [List.map, In.env, aA, aB]
 exact cS ⟨⟨aF.Sub.same, aF.Sub.same, gQ rfl, trivial⟩, trivial⟩
theorem mW (n : Int) (h1 : -9223372036854775808 ≤ n) (h2 : n < 9223372036854775808) : aN prog 68 [(.one (.int .i64 n) : aH)] (.ret [qT (n : Rat)]) := by
 refine aD (args := [.v none]) (ins := [.v (.one (.int .i64 n))]) (hints := (fun _ => none)) fo (by kernel_rfl) func68 ⟨rfl, trivial⟩ ?_
 rw [WZ]
 dsimp only [List.map, In.env, aA, aB]
 refine aC (FI _ h1 h2) rfl ?_
 dsimp only [aA, aB]
 refine aC (LS _) rfl ?_
 dsimp only [aA, aB]
 exact aJ rfl
theorem IP (n m : Int) : aN prog 283 [(.one (.int .i64 n) : aH), (.one (.int .i64 m) : aH)] (.ret [.one (.int .i64 (max 0 (min n m)))]) := by
 refine aD (args := [.v none, .v none]) (ins := [.v (.one (.int .i64 n)), .v (.one (.int .i64 m))]) (hints := (fun _ => none)) fo (by kernel_rfl) func283 ⟨rfl, rfl, trivial⟩ ?_
 rw [KB]
 dsimp only [List.map, In.env, aA, aB]
 refine vn Ie rfl ?_
 dsimp only [aA, aB]
 refine vn IE rfl ?_
 dsimp only [aA, aB]
 exact aJ rfl
theorem lS (q : Rat) : aN prog 35 [(qT q : aH)] (.ret [.one (.int .i64 q.num.sign)]) := by
 refine aD (args := [.v (some 3)]) (ins := [.v (qT q)]) (hints := (fun _ => none)) fo (by kernel_rfl) func35 ⟨rfl, trivial⟩ ?_
 rw [NM]
 dsimp only [List.map, In.env, aA, aB]
 refine aC (OH _) rfl ?_
 dsimp only [aA, aB]
 exact aJ rfl
theorem Fit.dl {B : Nat} {q : Rat} (h : Fit B q) : (dg q.num.natAbs).length ≤ B ∧ (dg q.den).length ≤ B := ⟨eS h.1, eS h.2⟩
theorem TL (q : Rat) : aN prog 65 [(qT q : aH)] (.ret [qT (-q)]) := by
 refine aD (args := [.v (some 3)]) (ins := [.v (qT q)]) (hints := (fun _ => none)) fo (by kernel_rfl) func65 ⟨rfl, trivial⟩ ?_
 rw [Qt]
 dsimp only [List.map, In.env, aA, aB]
 refine vn Ae rfl ?_
 dsimp only [aA, aB]
 refine aC (eW _ _ (-q).num (by
  rw [Rat.neg_num]
  by_cases h : q.num < 0 <;> simp only [h, not_true_eq_false, not_false_eq_true, decide_true, decide_false, Bool.false_eq_true, if_true, if_false] <;> omega)) rfl ?_
 dsimp only [aA, aB]
 refine aJ ?_
 show [qT _] = _
 simp only [qT, qC, Rat.neg_den]
theorem Bt (q : Rat) : q.abs.num = (q.num.natAbs : Int) ∧ q.abs.den = q.den := by
 unfold Rat.abs
 have h := Rat.num_nonneg (q := q)
 split
 ·rename_i h0
  have := h.2 h0
  exact ⟨by omega, rfl⟩
 ·rename_i h0
  have : ¬ 0 ≤ q.num := fun e => h0 (h.1 e)
  exact ⟨by rw [Rat.neg_num]; omega, Rat.neg_den _⟩
theorem BS (q : Rat) : aN prog 146 [(qT q : aH)] (.ret [qT q.abs]) := by
 refine aD (args := [.v (some 3)]) (ins := [.v (qT q)]) (hints := (fun _ => none)) fo (by kernel_rfl) func146 ⟨rfl, trivial⟩ ?_
 rw [Ql]
 dsimp only [List.map, In.env, aA, aB]
 refine aC (eW false _ (q.abs).num (by rw [if_neg (by simp)]; exact (Bt q).1)) rfl ?_
 dsimp only [aA, aB]
 refine aJ ?_
 show [aH.agg [dT q.abs.num.natAbs, .bool (decide (q.abs.num < 0)), dT (q.den - 1)]] = [qT q.abs]
 simp only [qT, qC, (Bt q).2]
theorem gJ (a b : Rat) (A B : Nat) (ha : Fit A a) (hb : Fit B b) (h : A + B ≤ 34359738368) : aN prog 36 [(qT a : aH), (qT b : aH)] (.ret [qT (a * b)]) := by
 refine aD (args := [.v (some 3), .v (some 3)]) (ins := [.v (qT a), .v (qT b)]) (hints := (fun _ => none)) fo (by kernel_rfl) func36 ⟨rfl, rfl, trivial⟩ ?_
 rw [SJ]
 dsimp only [List.map, In.env, aA, aB]
 obtain ⟨ha1, ha2⟩ := Fit.dl ha
 obtain ⟨hb1, hb2⟩ := Fit.dl hb
 have hn := eS (bB ha.1 hb.1)
 have hd := eS (bB ha.2 hb.2)
 refine aC (AH _ _ (by omega)) rfl ?_
 dsimp only [aA, aB]
 refine aC (eN a (by omega)) rfl ?_
 dsimp only [aA, aB]
 refine aC (eN b (by omega)) rfl ?_
 dsimp only [aA, aB]
 refine aC (gF _ _ (by omega)) rfl ?_
 dsimp only [aA, aB]
 refine aC (vP _ _ (Nat.mul_pos a.den_pos b.den_pos) (by rw [Int.natAbs_mul]; omega)) rfl ?_
 rw [← Rat.mul_def']
 dsimp only [aA, aB]
 exact aJ rfl
theorem pF (a b : Rat) (A B : Nat) (ha : Fit A a) (hb : Fit B b) (h : A + B ≤ 34359738368) : aN prog 64 [(qT a : aH), (qT b : aH)] (.ret [qT (a + b)]) := by
 refine aD (args := [.v (some 3), .v (some 3)]) (ins := [.v (qT a), .v (qT b)]) (hints := (fun _ => none)) fo (by kernel_rfl) func64 ⟨rfl, rfl, trivial⟩ ?_
 rw [Tp]
 dsimp only [List.map, In.env, aA, aB]
 obtain ⟨ha1, ha2⟩ := Fit.dl ha
 obtain ⟨hb1, hb2⟩ := Fit.dl hb
 have hn1 := eS (bB ha.1 hb.2)
 have hn2 := eS (bB hb.1 ha.2)
 have hd := eS (bB ha.2 hb.2)
 have hsum : (dg (a.num * (b.den : Int) + b.num * (a.den : Int)).natAbs).length ≤ A + B + 1 := by
  apply eS
  have h1 := bB ha.1 hb.2
  have h2 := bB hb.1 ha.2
  rw [Nat.add_comm B A] at h2
  rw [Nat.pow_succ]
  refine Nat.lt_of_le_of_lt (Int.natAbs_add_le _ _) ?_
  rw [Int.natAbs_mul, Int.natAbs_mul, Int.natAbs_natCast, Int.natAbs_natCast]
  omega
 refine aC (eN a (by omega)) rfl ?_
 dsimp only [aA, aB]
 refine aC (eN b (by omega)) rfl ?_
 dsimp only [aA, aB]
 refine aC (AH a.num (b.den : Int) (by rw [Int.natAbs_natCast]; omega)) rfl ?_
 dsimp only [aA, aB]
 refine aC (AH b.num (a.den : Int) (by rw [Int.natAbs_natCast]; omega)) rfl ?_
 dsimp only [aA, aB]
 refine aC (PZ _ _ (by rw [Int.natAbs_mul, Int.natAbs_mul, Int.natAbs_natCast, Int.natAbs_natCast]; omega)) rfl ?_
 dsimp only [aA, aB]
 refine aC (gF _ _ (by omega)) rfl ?_
 dsimp only [aA, aB]
 refine aC (vP _ _ (Nat.mul_pos a.den_pos b.den_pos) (by omega)) rfl ?_
 rw [← Rat.add_def']
 dsimp only [aA, aB]
 exact aJ rfl
theorem QF (a b : Rat) (A B : Nat) (ha : Fit A a) (hb : Fit B b) (h : A + B ≤ 34359738368) : aN prog 167 [(qT a : aH), (qT b : aH)] (.ret [qT (a - b)]) := by
 refine aD (args := [.v (some 3), .v (some 3)]) (ins := [.v (qT a), .v (qT b)]) (hints := (fun _ => none)) fo (by kernel_rfl) func167 ⟨rfl, rfl, trivial⟩ ?_
 rw [TF]
 dsimp only [List.map, In.env, aA, aB]
 refine aC (TL b) rfl ?_
 dsimp only [aA, aB]
 refine aC (pF a (-b) A B ha hb.neg h) rfl ?_
 rw [← Rat.sub_eq_add_neg]
 dsimp only [aA, aB]
 exact aJ rfl
theorem KD {a b : Rat} (hb : b ≠ 0) : mkRat (a.num * (if decide (b.num < 0) = true then -(b.den : Int) else b.den)) (a.den * b.num.natAbs) = a / b := by
 have hn : b.num ≠ 0 := fun e => hb (Rat.num_eq_zero.1 e)
 have e : b⁻¹ = mkRat (if decide (b.num < 0) = true then -(b.den : Int) else b.den) b.num.natAbs := by
  rw [Rat.inv_def]
  by_cases h : b.num < 0
  ·rw [decide_eq_true h, if_pos rfl]
   conv => lhs; rw [show b.num = -((b.num.natAbs : Nat) : Int) by omega]
   rw [Rat.divInt_neg', Rat.divInt_ofNat]
  ·rw [decide_eq_false h, if_neg (by simp)]
   conv => lhs; rw [show b.num = ((b.num.natAbs : Nat) : Int) by omega]
   rw [Rat.divInt_ofNat]
 rw [Rat.div_def, e]
 conv => rhs; rw [← Rat.mkRat_self a]
 rw [Rat.mkRat_mul_mkRat]
theorem Mv (a b : Rat) (A B : Nat) (hb0 : b ≠ 0) (ha : Fit A a) (hb : Fit B b) (h : A + B ≤ 34359738368) : aN prog 255 [(qT a : aH), (qT b : aH)] (.ret [qT (a / b)]) := by
 refine aD (args := [.v (some 3), .v (some 3)]) (ins := [.v (qT a), .v (qT b)]) (hints := (fun _ => none)) fo (by kernel_rfl) func255 ⟨rfl, rfl, trivial⟩ ?_
 rw [Mi]
 dsimp only [List.map, In.env, aA, aB]
 obtain ⟨ha1, ha2⟩ := Fit.dl ha
 obtain ⟨hb1, hb2⟩ := Fit.dl hb
 have hn : b.num ≠ 0 := fun e => hb0 (Rat.num_eq_zero.1 e)
 have hn1 := eS (bB ha.1 hb.2)
 have hd := eS (bB ha.2 hb.1)
 obtain ⟨z, hz⟩ : ∃ z : Int, (if decide (b.num < 0) = true then -(b.den : Int) else b.den) = z := ⟨_, rfl⟩
 have hza : z.natAbs = b.den := by rw [← hz]; split <;> simp
 refine aC (eN b (by omega)) rfl ?_
 dsimp only [aA, aB]
 refine aC (eW _ _ z hz.symm) rfl ?_
 dsimp only [aA, aB]
 refine aC (AH a.num z (by rw [hza]; omega)) rfl ?_
 dsimp only [aA, aB]
 refine aC (eN a (by omega)) rfl ?_
 dsimp only [aA, aB]
 refine aC (gF _ _ (by omega)) rfl ?_
 dsimp only [aA, aB]
 refine aC (vP _ _ (Nat.mul_pos a.den_pos (by omega)) (by rw [Int.natAbs_mul, hza]; omega)) rfl ?_
 rw [← hz, KD hb0]
 dsimp only [aA, aB]
 exact aJ rfl
theorem sign_zero {q : Rat} : q.num.sign = 0 ↔ q = 0 := by rw [Int.sign_eq_zero_iff_zero, Rat.num_eq_zero]
theorem JE (a b : Rat) (A B : Nat) (ha : Fit A a) (hb : Fit B b) (h : A + B ≤ 34359738368) : aN prog 200 [(qT a : aH), (qT b : aH)] (.ret [qT (if b = 0 then 0 else a / b), .one (.int .i64 (if b = 0 then 9 else 0))]) := by
 refine aD (args := [.v (some 3), .v (some 3)]) (ins := [.v (qT a), .v (qT b)]) (hints := (fun _ => none)) fo (by kernel_rfl) func200 ⟨rfl, rfl, trivial⟩ ?_
 rw [QW]
 dsimp only [List.map, In.env, aA, aB]
 refine aC (lS b) rfl ?_
 dsimp only [aA, aB]
 refine vn aX rfl ?_
 dsimp only [aA, aB]
 refine vs _ rfl (fun h2 => ?_) (fun h2 => ?_)
 ·have h2 : b = 0 := sign_zero.1 h2
  rw [if_pos h2, if_pos h2]
  exact cS ⟨iI, aH.Sub.same, trivial⟩
 have h2 : ¬ b = 0 := fun e => h2 (sign_zero.2 e)
 rw [if_neg h2, if_neg h2]
 refine aC (Mv a b A B h2 ha hb h) rfl ?_
 dsimp only [aA, aB]
 exact aJ rfl
theorem hJ {n : Int} (h1 : -9223372036854775808 ≤ n) (h2 : n < 9223372036854775808) : Fit 64 (n : Rat) := Fit.int (by omega) (by omega)
theorem Uq (n d : Int) (h1 : -9223372036854775808 ≤ n) (h2 : n < 9223372036854775808) (h3 : -9223372036854775808 ≤ d) (h4 : d < 9223372036854775808) : aN prog 120 [(.one (.int .i64 n) : aH), (.one (.int .i64 d) : aH)] (.ret [qT (if d = 0 then 0 else (n : Rat) / (d : Rat)), .one (.int .i64 (if d = 0 then 9 else 0))]) := by
 refine aD (args := [.v none, .v none]) (ins := [.v (.one (.int .i64 n)), .v (.one (.int .i64 d))]) (hints := (fun _ => none)) fo (by kernel_rfl) func120 ⟨rfl, rfl, trivial⟩ ?_
 rw [Yy]
 dsimp only [List.map, In.env, aA, aB]
 have e : ((d : Rat) = 0) ↔ d = 0 := by
  rw [← Rat.num_eq_zero, Rat.num_intCast]
 have hd := JE (n : Rat) (d : Rat) 64 64 (hJ h1 h2) (hJ h3 h4) (by omega)
 simp only [e] at hd
 refine aC (mW n h1 h2) rfl ?_
 dsimp only [aA, aB]
 refine aC (mW d h3 h4) rfl ?_
 dsimp only [aA, aB]
 refine aC hd rfl ?_
 dsimp only [aA, aB]
 exact aJ rfl
def En (a b : Rat) : Int := if a < b then -1 else if b < a then 1 else 0
theorem zX (a b : Rat) : En a b = dR (a.num * b.den) (b.num * a.den) := by
 unfold En dR
 simp only [Rat.lt_iff]
theorem bP (z : Int) : (z < 0 ∧ z.sign = -1) ∨ (z = 0 ∧ z.sign = 0) ∨ (0 < z ∧ z.sign = 1) := by
 rcases Int.lt_trichotomy z 0 with h | h | h
 ·exact .inl ⟨h, Int.sign_eq_neg_one_of_neg h⟩
 ·exact .inr (.inl ⟨h, by rw [h]; rfl⟩)
 ·exact .inr (.inr ⟨h, Int.sign_eq_one_of_pos h⟩)
theorem FF {a b : Rat} (h : a.num.sign ≠ b.num.sign ∨ a.num.sign = 0) : En a b = a.num.sign - b.num.sign - (a.num.sign - b.num.sign).tdiv 2 := by
 rw [zX]
 have ha := a.den_pos
 have hb := b.den_pos
 have key : ∀ (x : Int) (d : Nat), 0 < d → (x < 0 → x * (d : Int) < 0) ∧ (x = 0 → x * (d : Int) = 0) ∧ (0 < x → 0 < x * (d : Int)) := fun x d hd =>
  ⟨fun h => Int.mul_neg_of_neg_of_pos h (by omega), fun h => by rw [h, Int.zero_mul], fun h => Int.mul_pos h (by omega)⟩
 obtain ⟨k1, k2, k3⟩ := key a.num b.den hb
 obtain ⟨l1, l2, l3⟩ := key b.num a.den ha
 rcases bP a.num with ⟨h1, e1⟩ | ⟨h1, e1⟩ | ⟨h1, e1⟩ <;> rcases bP b.num with ⟨h2, e2⟩ | ⟨h2, e2⟩ | ⟨h2, e2⟩ <;> rw [e1, e2] at h ⊢ <;> simp only [dR] <;> (try (exfalso; revert h; decide)) <;>
  (first
   | have i1 := k1 h1
   | have i1 := k2 h1
   | have i1 := k3 h1) <;>
  (first
   | have i2 := l1 h2
   | have i2 := l2 h2
   | have i2 := l3 h2) <;>
  (first
   | (rw [if_pos (by omega)]; rfl)
   | (rw [if_neg (by omega), if_pos (by omega)]; rfl)
   | (rw [if_neg (by omega), if_neg (by omega)]; rfl))
theorem LX {a b : Rat} (h : a.num.sign = b.num.sign) (h0 : a.num.sign ≠ 0) : En a b = a.num.sign * dR ((a.num.natAbs * b.den : Nat) : Int) ((b.num.natAbs * a.den : Nat) : Int) := by
 rw [zX]
 rcases bP a.num with ⟨h1, e1⟩ | ⟨h1, e1⟩ | ⟨h1, e1⟩
 ·have h2 : b.num < 0 := by
   rcases bP b.num with ⟨h2, e2⟩ | ⟨h2, e2⟩ | ⟨h2, e2⟩
   ·exact h2
   ·omega
   ·omega
  have ea : a.num * (b.den : Int) = -((a.num.natAbs * b.den : Nat) : Int) := by
   rw [Int.natCast_mul, ← Int.neg_mul]; congr 1; omega
  have eb : b.num * (a.den : Int) = -((b.num.natAbs * a.den : Nat) : Int) := by
   rw [Int.natCast_mul, ← Int.neg_mul]; congr 1; omega
  rw [e1, ea, eb]
  generalize ((a.num.natAbs * b.den : Nat) : Int) = p
  generalize ((b.num.natAbs * a.den : Nat) : Int) = q
  unfold dR
  split <;> (try split) <;> (try split) <;> (try split) <;> omega
 ·omega
 ·have h2 : 0 < b.num := by
   rcases bP b.num with ⟨h2, e2⟩ | ⟨h2, e2⟩ | ⟨h2, e2⟩
   ·omega
   ·omega
   ·exact h2
  have ea : a.num * (b.den : Int) = ((a.num.natAbs * b.den : Nat) : Int) := by
   rw [Int.natCast_mul]; congr 1; omega
  have eb : b.num * (a.den : Int) = ((b.num.natAbs * a.den : Nat) : Int) := by
   rw [Int.natCast_mul]; congr 1; omega
  rw [e1, ea, eb, Int.one_mul]
theorem Kj (a b : Rat) (A B : Nat) (ha : Fit A a) (hb : Fit B b) (h : A + B ≤ 34359738368) : aN prog 38 [(qT a : aH), (qT b : aH)] (.ret [.one (.int .i64 (En a b))]) := by
 refine aD (args := [.v (some 3), .v (some 3)]) (ins := [.v (qT a), .v (qT b)]) (hints := (fun _ => none)) fo (by kernel_rfl) func38 ⟨rfl, rfl, trivial⟩ ?_
 rw [QU]
 dsimp only [List.map, In.env, aA, aB]
 obtain ⟨ha1, ha2⟩ := Fit.dl ha
 obtain ⟨hb1, hb2⟩ := Fit.dl hb
 have hn1 := eS (bB ha.1 hb.2)
 have hn2 := eS (bB hb.1 ha.2)
 have hsa : -1 ≤ a.num.sign ∧ a.num.sign ≤ 1 := by rcases bP a.num with ⟨_, e⟩ | ⟨_, e⟩ | ⟨_, e⟩ <;> omega
 have hsb : -1 ≤ b.num.sign ∧ b.num.sign ≤ 1 := by rcases bP b.num with ⟨_, e⟩ | ⟨_, e⟩ | ⟨_, e⟩ <;> omega
 have htd : -1 ≤ (a.num.sign - b.num.sign).tdiv 2 ∧ (a.num.sign - b.num.sign).tdiv 2 ≤ 1 := by
  rcases bP a.num with ⟨_, e⟩ | ⟨_, e⟩ | ⟨_, e⟩ <;> rcases bP b.num with ⟨_, e2⟩ | ⟨_, e2⟩ | ⟨_, e2⟩ <;> rw [e, e2] <;> decide
 refine aC (lS a) rfl ?_
 dsimp only [aA, aB]
 refine aC (lS b) rfl ?_
 dsimp only [aA, aB]
 refine vn jC rfl ?_
 dsimp only [aA, aB]
 refine vs _ rfl (fun h3 => ?_) (fun h3 => ?_)
 ·refine vn (aG (by omega) (by omega)) rfl ?_
  dsimp only [aA, aB]
  refine vn (aG (by omega) (by omega)) rfl ?_
  dsimp only [aA, aB]
  refine vn (nG (c := (a.num.sign - b.num.sign).tdiv 2) (by decide) (cY (by omega) (by omega))) rfl ?_
  dsimp only [aA, aB]
  refine vn (aG (by omega) (by omega)) rfl ?_
  dsimp only [aA, aB]
  rw [FF (.inl h3)]; exact aJ rfl
 refine vn aX rfl ?_
 dsimp only [aA, aB]
 refine vs _ rfl (fun h10 => ?_) (fun h10 => ?_)
 ·refine vn (aG (by omega) (by omega)) rfl ?_
  dsimp only [aA, aB]
  refine vn (aG (by omega) (by omega)) rfl ?_
  dsimp only [aA, aB]
  refine vn (nG (c := (a.num.sign - b.num.sign).tdiv 2) (by decide) (cY (by omega) (by omega))) rfl ?_
  dsimp only [aA, aB]
  refine vn (aG (by omega) (by omega)) rfl ?_
  dsimp only [aA, aB]
  rw [FF (.inr h10)]; exact aJ rfl
 refine aC (lS a) rfl ?_
 dsimp only [aA, aB]
 refine aC (eN b (by omega)) rfl ?_
 dsimp only [aA, aB]
 refine aC (gF _ _ (by omega)) rfl ?_
 dsimp only [aA, aB]
 refine aC (eN a (by omega)) rfl ?_
 dsimp only [aA, aB]
 refine aC (gF _ _ (by omega)) rfl ?_
 dsimp only [aA, aB]
 refine aC (pW _ _ (by omega)) rfl ?_
 dsimp only [aA, aB]
 have hci : -1 ≤ dR ((a.num.natAbs * b.den : Nat) : Int) ((b.num.natAbs * a.den : Nat) : Int) ∧ dR ((a.num.natAbs * b.den : Nat) : Int) ((b.num.natAbs * a.den : Nat) : Int) ≤ 1 := by
  unfold dR; split <;> (try split) <;> omega
 rw [LX (by omega) h10]
 generalize dR ((a.num.natAbs * b.den : Nat) : Int) ((b.num.natAbs * a.den : Nat) : Int) = c at hci ⊢
 generalize a.num.sign = s at hsa h10 ⊢
 refine vn (oT (c := s * c) (by
  rcases (by omega : s = -1 ∨ s = 1) with rfl | rfl
  ·exact cY (by omega) (by omega)
  ·exact cY (by omega) (by omega))) rfl ?_
 dsimp only [aA, aB]
 exact aJ rfl
end Go.Sy
