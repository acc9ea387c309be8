/- OdeChecks: the card.
-/
import Derived.Test.YtdmcadckdnnglaaGreatDoorOp
import Derived.Test.YtdmcadckdnnglaaGreatDoorKf
set_option linter.unusedVariables false
set_option linter.unusedSimpArgs false
namespace Go.Sy
open Go Go.Proofs Go.RowKit Go.ChangeShapes Go.WideShapes Tryz

theorem ownK : ownKnob prog.godebug = none := by kernel_rfl
theorem laidOutK : laidOutB prog = true := by kernel_rfl
/-- the tables as they are laid -/
def tab32 : Array Value := (([0, 1, 28, 2, 29, 14, 24, 3, 30, 22, 20, 15, 25, 17, 4, 8, 31, 27, 13, 23, 21, 19, 16, 7, 26, 12, 18, 6, 11, 5, 10, 9] : List Int).map fun z => Value.int .u8 z).toArray
def tab64 : Array Value := (([0, 1, 56, 2, 57, 49, 28, 3, 61, 58, 42, 50, 38, 29, 17, 4, 62, 47, 59, 36, 45, 43, 51, 22, 53, 39, 33, 30, 24, 18, 12, 5, 63, 55, 48, 27, 60, 41, 37, 16, 46, 35, 44, 21, 52, 32, 23, 11, 54, 26, 40, 15, 34, 20, 31, 10, 25, 14, 19, 9, 13, 8, 7, 6] : List Int).map fun z => Value.int .u8 z).toArray
/-- the same block with other cells -/
def withCells (v : Array Value) : Obj → Obj
  | .cells _ t frozen => .cells v t frozen
  | o => o
/-- a world for the witness -/
noncomputable def laidWorld (os : Os) : World :=
  { World.holding prog os ⟨#[], #[], []⟩ with heap := (((World.holding prog os ⟨#[], #[], []⟩).heap.modify 0 (withCells pow10V)).modify 2 (withCells tab32)).modify 3 (withCells tab64) }
theorem laid_met (os : Os) (args : Array Value) : laidMet prog YtdmcadckdnnglaaGreatDoor.Rows.odeChecksRow.laid ((laidWorld os).forCall (fun _ _ => 0) ⟨#[], args, []⟩).memory :=
  laidMet_of_run' 8 (by kernel_rfl) (by kernel_rfl)

section
open YtdmcadckdnnglaaGreatDoor
theorem laid_one : Rows.odeChecksRow.laid.filter (fun x => x.1 == "internal/strconv.uint64pow10") = [("internal/strconv.uint64pow10", Lib.tabData .u64 Lib.pow10Tab)] := by kernel_rfl

set_option maxRecDepth 100000 in
theorem checks_contract (H : Type) (enc : TypeId × Value → H) (W : World) (base : Nat) (args : Array Value) (ds gs : List (DataW H)) (before : List MemPlace)
    (hval : ∀ (j : Nat) t v, f3.params[j]? = some t → args[j]? = some v → Value.okWide prog W .any base t v)
    (hW : DataW.Whole enc prog f3.params.toList Rows.odeChecksSpec.vars false W args.toList ds gs before)
    (hwt : (DataW.weightsEach prog (f3.params.toList ++ []) (ds ++ gs)).all (· ≤ reachBytes) = true) (hL : laidMetH prog Rows.odeChecksRow.laid W) :
    Calls prog 3 args W fun e W' => ∃ v, e = .returned v ∧ Rows.odeChecksSpec.post enc prog f3 false true false false W args v W' := by
  have hW' := hW
  obtain ⟨p, q, hA0, hV, rfl, hfz, hnd⟩ := hW
  have hA : DataW.TrodAll enc prog W 0 (fun _ => true) true f3.params.toList args.toList ds p := hA0
  rw [params3] at hA hval hwt
  obtain ⟨v0, vs0, d0, ds0, p0, q0, hargs, rfl, rfl, h0, r0⟩ := trodAll_cons hA
  obtain ⟨v1, vs1, d1, ds1, p1, q1, rfl, rfl, rfl, h1, r1⟩ := trodAll_cons r0
  obtain ⟨v2, vs2, d2, ds2, p2, q2, rfl, rfl, rfl, h2, r2⟩ := trodAll_cons r1
  obtain ⟨rfl, rfl, rfl⟩ := trodAll_nil r2
  obtain rfl : args = #[v0, v1, v2] := by cases args; simp_all
  obtain ⟨rfl, rfl⟩ := trodVars_none hV
  have hwd : Wd prog 29 d0 := fun n hn => by
    have := List.all_eq_true.1 hwt n (weights_each (j := 0) (t := 29) (d := d0) rfl rfl n hn)
    simpa using this
  obtain ⟨cs, rfl, hcs⟩ : ∃ cs, v0 = .agg cs ∧ True := by
    have : Value.okWide prog W .any base 29 v0 := hval 0 _ v0 rfl rfl
    unfold Value.okWide at this
    rw [underlying29] at this
    obtain ⟨cs, rfl, _⟩ := this
    exact ⟨cs, rfl, trivial⟩
  obtain ⟨n0, h0⟩ := h0
  obtain ⟨c, hc, hr⟩ := open_case h0 hwd
  obtain ⟨zk, rfl, rfl, rfl, fk⟩ := open_int underlying5 (hval 1 _ v1 rfl rfl) h1
  obtain ⟨zn, rfl, rfl, rfl, fn⟩ := open_int underlying3 (hval 2 _ v2 rfl rfl) h2
  have bk := bounds_u8 fk
  have bn := bounds_i64 fn
  have hd := d_LOdeChecks c hc zk.toNat zn (by omega) bn.1 (by omega)
  have hk : ((zk.toNat : Nat) : Int) = zk := by omega
  rw [hk] at hd
  refine (hd.2 noM W [.agg cs, .int .u8 zk, .int .i64 zn] ⟨fun _ h => h.elim, good_of_laid laid_one hL⟩ ⟨⟨cs.toList, rfl, hr⟩, ⟨rfl, rfl⟩, ⟨rfl, rfl⟩, trivial⟩).mono fun e W' hh => ?_
  obtain ⟨hb, vs, rfl, hvs⟩ := hh
  obtain ⟨v, e1, hv⟩ := one1 hvs
  rw [e1, hv.1]
  exact ⟨_, rfl, post_below laidOutK (by rw [params3]; decide +kernel) rfl hW' rfl rfl rfl hb (by rfl) underlying4⟩

noncomputable def zeroArgs : Array Value := #[.agg #[.slice none 0 0, .int .i64 0, .int .i64 0, .int .i64 0, .int .u8 0, .slice none 0 0, .int .u8 0, .int .i64 0], .int .u8 0, .int .i64 0]
def zeroData {H : Type} : List (DataW H) := [.agg [.agg [.nil, .lit (.int .i64 0)], .agg [.lit (.int .i64 0), .lit (.int .i64 0), .lit (.int .u8 0)], .nil, .lit (.int .u8 0), .lit (.int .i64 0)], .lit (.int .u8 0), .lit (.int .i64 0)]
theorem checks_reads (os : Os) {H : Type} (enc : TypeId × Value → H) : ∃ places, DataW.whole enc prog ((laidWorld os).forCall (fun _ _ => 0) ⟨#[], zeroArgs, []⟩).memory f3.params.toList Rows.odeChecksSpec.vars false zeroArgs.toList 8 = some (zeroData, [], places) :=
  ⟨[], by kernel_rfl⟩
set_option maxRecDepth 100000 in
theorem checks_lifted (os : Os) (started : os.Started) (H : Type) (enc : TypeId × Value → H) (F : Stop.Interp) :
    ReturnsInHanded {} Tryz.checked os 3 .any ((OpenSpec.ofChange Rows.odeChecksSpec).preRow enc prog f3 Rows.odeChecksRow.domain false Rows.odeChecksRow.laid) (((OpenSpec.ofChange Rows.odeChecksSpec).at F).post enc prog f3 false true false false) := by
  obtain ⟨places, hx⟩ := checks_reads os enc
  refine returnsInHanded_of_row (C := Tryz.checked) (s := OpenSpec.ofChange Rows.odeChecksSpec) ownK started (by kernel_rfl) func3
    (witness_row_at (enc := enc) (C := Tryz.checked) false (laidWorld os) zeroArgs rfl (by kernel_rfl) (by kernel_rfl) (by kernel_rfl)
      (OpenSpec.preRow_of_cond 8 hx (by kernel_rfl) (fun k hk => by cases hk) (by kernel_rfl) (laid_met os zeroArgs))) ?_
  intro W base args ds gs before hval hW _ _ hwt hL _ _
  exact checks_contract H enc W base args ds gs before hval hW hwt hL
theorem checks_said : Rows.OdeChecksSaid :=
  OpenClaim.holds_of_cond 3 f3 rfl rfl rfl rfl rfl rfl rfl ⟨rfl, rfl, rfl, rfl, rfl⟩ rfl rfl rfl rfl rfl (by kernel_rfl) func3 kf
    (of_decide_eq_true (by kernel_rfl)) (by unfold Func.isWrapper; first | (rw [if_pos (by decide +kernel)]; kernel_rfl) | (rw [if_neg (by decide +kernel)]; exact ⟨rfl, rfl⟩))
    (fun os started H enc _ F => by rw [OpenClaim.pre_eq_preRow]; exact checks_lifted os started H enc F)
theorem checks_plain (f : FuncId) (fn : Func) (hf : Tryz.pinned.checked.prog.funcNamed "ordinate/ordinatelaw10.OdeChecks" = some f) (hfn : Tryz.pinned.checked.prog.funcs[f]? = some fn) :
    true = Tryz.pinned.checked.prog.looks [] ∧ ∀ (j : Nat) t, fn.params[j]? = some t → Tryz.pinned.checked.prog.wantsStandIn t = false := by
  obtain rfl : f = 3 := Option.some.inj ((show prog.funcNamed "ordinate/ordinatelaw10.OdeChecks" = some 3 by kernel_rfl).symm.trans hf) |>.symm
  obtain rfl : fn = f3 := (Option.some.inj (func3.symm.trans hfn)).symm
  refine ⟨by kernel_rfl, fun j t ht => ?_⟩
  rw [params3] at ht
  have hm : ∀ t ∈ (#[29, 5, 3] : Array TypeId), prog.wantsStandIn t = false := by decide +kernel
  exact hm t (Array.mem_of_getElem? ht)
end
end Go.Sy

namespace Go.Proofs.YtdmcadckdnnglaaGreatDoor
open Go
/-- CheckEquation, Check and Known, of anything, are the reference's, or the error. -/
theorem odeChecks_card : Rows.OdeChecksCardSaid :=
  Claim7.holds_tied_plain_at .later [] _ _ _ _ Go.Sy.checks_said (fun _ h => by cases h) (by kernel_rfl) (fun _ h => by cases h) odeChecks_row_tie rfl ⟨rfl, rfl⟩ (by kernel_rfl) rfl Go.Sy.checks_plain (by kernel_rfl)
end Go.Proofs.YtdmcadckdnnglaaGreatDoor
