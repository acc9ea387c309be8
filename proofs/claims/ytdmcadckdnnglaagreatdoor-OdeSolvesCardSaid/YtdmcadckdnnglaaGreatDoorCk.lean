/- OdeSolves: the card.
-/
import Derived.Test.YtdmcadckdnnglaaGreatDoorOp
import Derived.Test.YtdmcadckdnnglaaGreatDoorVc
import Derived.Test.YtdmcadckdnnglaaGreatDoorKf
set_option linter.unusedVariables false
set_option linter.unusedSimpArgs false
namespace Go.Sy
open Go Go.Proofs Go.RowKit Go.ChangeShapes Go.WideShapes Tryz
theorem WD : ownKnob prog.godebug = none := by kernel_rfl
theorem JJ : laidOutB prog = true := by kernel_rfl
def TL : Array Value := (([0, 1, 28, 2, 29, 14, 24, 3, 30, 22, 20, 15, 25, 17, 4, 8, 31, 27, 13, 23, 21, 19, 16, 7, 26, 12, 18, 6, 11, 5, 10, 9] : List Int).map fun z => Value.int .u8 z).toArray
def Ui : Array Value := (([0, 1, 56, 2, 57, 49, 28, 3, 61, 58, 42, 50, 38, 29, 17, 4, 62, 47, 59, 36, 45, 43, 51, 22, 53, 39, 33, 30, 24, 18, 12, 5, 63, 55, 48, 27, 60, 41, 37, 16, 46, 35, 44, 21, 52, 32, 23, 11, 54, 26, 40, 15, 34, 20, 31, 10, 25, 14, 19, 9, 13, 8, 7, 6] : List Int).map fun z => Value.int .u8 z).toArray
def sD (v : Array Value) : Obj → Obj
 | .cells _ t frozen => .cells v t frozen
 | o => o
noncomputable def sE (os : Os) : World :=
 { World.holding prog os ⟨#[], #[], []⟩ with heap := (((World.holding prog os ⟨#[], #[], []⟩).heap.modify 0 (sD xQ)).modify 2 (sD TL)).modify 3 (sD Ui) }
theorem KO (os : Os) (args : Array Value) : laidMet prog YtdmcadckdnnglaaGreatDoor.Rows.odeSolvesRow.laid ((sE os).forCall (fun _ _ => 0) ⟨#[], args, []⟩).memory :=
 laidMet_of_run' 8 (by kernel_rfl) (by kernel_rfl)
section
open YtdmcadckdnnglaaGreatDoor
theorem KA : Rows.odeSolvesRow.laid.filter (fun x => x.1 == "internal/strconv.uint64pow10") = [("internal/strconv.uint64pow10", Lib.tabData .u64 Lib.pow10Tab)] := by kernel_rfl
set_option maxRecDepth 100000 in
theorem uG (H : Type) (enc : TypeId × Value → H) (W : World) (base : Nat) (args : Array Value) (ds gs : List (DataW H)) (before : List MemPlace)
  (hval : ∀ (j : Nat) t v, f5.params[j]? = some t → args[j]? = some v → Value.okWide prog W .any base t v)
  (hW : DataW.Whole enc prog f5.params.toList Rows.odeSolvesSpec.vars false W args.toList ds gs before)
  (hwt : (DataW.weightsEach prog (f5.params.toList ++ []) (ds ++ gs)).all (· ≤ reachBytes) = true) (hL : laidMetH prog Rows.odeSolvesRow.laid W) :
  Calls prog 5 args W fun e W' => ∃ v, e = .returned v ∧ Rows.odeSolvesSpec.post enc prog f5 false true false false W args v W' := by
 have hW' := hW
 obtain ⟨p, q, hA0, hV, rfl, hfz, hnd⟩ := hW
 have hA : DataW.TrodAll enc prog W 0 (fun _ => true) true f5.params.toList args.toList ds p := hA0
 rw [params5] at hA hval hwt
 obtain ⟨v0, vs0, d0, ds0, p0, q0, hargs, rfl, rfl, h0, r0⟩ := trodAll_cons hA
 obtain ⟨v1, vs1, d1, ds1, p1, q1, rfl, rfl, rfl, h1, r1⟩ := trodAll_cons r0
 obtain ⟨rfl, rfl, rfl⟩ := trodAll_nil r1
 obtain rfl : args = #[v0, v1] := by cases args; simp_all
 obtain ⟨rfl, rfl⟩ := trodVars_none hV
 have hwd0 : Wd prog 29 d0 := fun n hn => by
  have := List.all_eq_true.1 hwt n (rK (j := 0) (t := 29) (d := d0) rfl rfl n hn)
  simpa using this
 obtain ⟨cs0, rfl, hcs0⟩ : ∃ cs, v0 = .agg cs ∧ True := by
  have : Value.okWide prog W .any base 29 v0 := hval 0 _ v0 rfl rfl
  unfold Value.okWide at this
  rw [underlying29] at this
  obtain ⟨cs, rfl, _⟩ := this
  exact ⟨cs, rfl, trivial⟩
 obtain ⟨n0, h0⟩ := h0
 obtain ⟨c0, hc0, hr0⟩ := GI h0 hwd0
 obtain ⟨z1, rfl, rfl, rfl, f1⟩ := open_int underlying5 (hval 1 _ v1 rfl rfl) h1
 have b1 := bounds_u8 f1
 have hd := AY c0 hc0 z1.toNat (by omega)
 have hk1 : ((z1.toNat : Nat) : Int) = z1 := by omega
 rw [hk1] at hd
 refine (hd.2 Oh W [.agg cs0, .int .u8 z1] ⟨fun _ h => h.elim, Aw KA hL⟩ ⟨⟨cs0.toList, rfl, hr0⟩, ⟨rfl, rfl⟩, trivial⟩).mono fun e W' hh => ?_
 obtain ⟨hb, vs, rfl, hvs⟩ := hh
 obtain ⟨v, e1, hv⟩ := LP hvs
 rw [e1, hv.1]
 exact ⟨_, rfl, Ed JJ (by rw [params5]; decide +kernel) rfl hW' rfl rfl rfl hb (by rfl) underlying4⟩
noncomputable def qU : Array Value := #[.agg #[.slice none 0 0, .int .i64 0, .int .i64 0, .int .i64 0, .int .u8 0, .slice none 0 0, .int .u8 0, .int .i64 0], .int .u8 0]
def HR {H : Type} : List (DataW H) := [.agg [.agg [.nil, .lit (.int .i64 0)], .agg [.lit (.int .i64 0), .lit (.int .i64 0), .lit (.int .u8 0)], .nil, .lit (.int .u8 0), .lit (.int .i64 0)], .lit (.int .u8 0)]
theorem Bn (os : Os) {H : Type} (enc : TypeId × Value → H) : ∃ places, DataW.whole enc prog ((sE os).forCall (fun _ _ => 0) ⟨#[], qU, []⟩).memory f5.params.toList Rows.odeSolvesSpec.vars false qU.toList 8 = some (HR, [], places) :=
 ⟨[], by kernel_rfl⟩
set_option maxRecDepth 100000 in
theorem yB (os : Os) (started : os.Started) (H : Type) (enc : TypeId × Value → H) (F : Stop.Interp) :
  ReturnsInHanded {} Tryz.checked os 5 .any ((OpenSpec.ofChange Rows.odeSolvesSpec).preRow enc prog f5 Rows.odeSolvesRow.domain false Rows.odeSolvesRow.laid) (((OpenSpec.ofChange Rows.odeSolvesSpec).at F).post enc prog f5 false true false false) := by
 obtain ⟨places, hx⟩ := Bn os enc
 refine returnsInHanded_of_row (C := Tryz.checked) (s := OpenSpec.ofChange Rows.odeSolvesSpec) WD started (by kernel_rfl) func5
  (witness_row_at (enc := enc) (C := Tryz.checked) false (sE os) qU rfl (by kernel_rfl) (by kernel_rfl) (by kernel_rfl)
   (OpenSpec.preRow_of_cond 8 hx (by kernel_rfl) (fun k hk => by cases hk) (by kernel_rfl) (KO os qU))) ?_
 intro W base args ds gs before hval hW _ _ hwt hL _ _
 exact uG H enc W base args ds gs before hval hW hwt hL
theorem BI : Rows.OdeSolvesSaid :=
 OpenClaim.holds_of_cond 5 f5 rfl rfl rfl rfl rfl rfl rfl ⟨rfl, rfl, rfl, rfl, rfl⟩ rfl rfl rfl rfl rfl (by kernel_rfl) func5 kf
  (of_decide_eq_true (by kernel_rfl)) (by unfold Func.isWrapper; first | (rw [if_pos (by decide +kernel)]; kernel_rfl) | (rw [if_neg (by decide +kernel)]; exact ⟨rfl, rfl⟩))
  (fun os started H enc _ F => by rw [OpenClaim.pre_eq_preRow]; exact yB os started H enc F)
theorem Bp (f : FuncId) (fn : Func) (hf : Tryz.pinned.checked.prog.funcNamed "ordinate/ordinatelaw10.OdeSolves" = some f) (hfn : Tryz.pinned.checked.prog.funcs[f]? = some fn) :
  true = Tryz.pinned.checked.prog.looks [] ∧ ∀ (j : Nat) t, fn.params[j]? = some t → Tryz.pinned.checked.prog.wantsStandIn t = false := by
 obtain rfl : f = 5 := Option.some.inj ((show prog.funcNamed "ordinate/ordinatelaw10.OdeSolves" = some 5 by kernel_rfl).symm.trans hf) |>.symm
 obtain rfl : fn = f5 := (Option.some.inj (func5.symm.trans hfn)).symm
 refine ⟨by kernel_rfl, fun j t ht => ?_⟩
 rw [params5] at ht
 have hm : ∀ t ∈ (#[29, 5] : Array TypeId), prog.wantsStandIn t = false := by decide +kernel
 exact hm t (Array.mem_of_getElem? ht)
end
end Go.Sy
namespace Go.Proofs.YtdmcadckdnnglaaGreatDoor
open Go
theorem odeSolves_card : Rows.OdeSolvesCardSaid :=
 Claim7.holds_tied_plain_at .later [] _ _ _ _ Go.Sy.BI (fun _ h => by cases h) (by kernel_rfl) (fun _ h => by cases h) odeSolves_row_tie rfl ⟨rfl, rfl⟩ (by kernel_rfl) rfl Go.Sy.Bp (by kernel_rfl)
end Go.Proofs.YtdmcadckdnnglaaGreatDoor
