/- Part. -/
import Derived.Test.YtacgmapjhpghkaaGreatDoorCj
set_option linter.all false
namespace Go.Sy
open Go Go.Proofs Go.RowKit Go.ChangeShapes Go.WideShapes Tryz
section
open YtacgmapjhpghkaaGreatDoor
noncomputable def vT:Array Value:=#[.agg #[.slice none 0 0, .slice none 0 0], .agg #[.int .i64 0, .int .i64 0, .int .u8 0]]
def WE {H:Type}:List (DataW H):=[.agg [.nil, .nil], .agg [.lit (.int .i64 0), .lit (.int .i64 0), .lit (.int .u8 0)]]
theorem KY (os:Os) {H:Type} (enc:TypeId×Value→H):∃ places,DataW.whole enc prog ((xC os).forCall (fun _ _=>0) ⟨#[],vT,[]⟩).memory f3.params.toList Rows.splineValuesSpec.vars false vT.toList 8=some (WE,[],places):=
 ⟨[],by kernel_rfl⟩
set_option maxRecDepth 100000 in
theorem Gd (os:Os) (started:os.Started) (H:Type) (enc:TypeId×Value→H) (F:Stop.Interp) :
  ReturnsInHanded {} Tryz.checked os 3 .any ((OpenSpec.ofChange Rows.splineValuesSpec).preRow enc prog f3 Rows.splineValuesRow.domain false Rows.splineValuesRow.laid) (((OpenSpec.ofChange Rows.splineValuesSpec).at F).post enc prog f3 false true false false):=by
 obtain ⟨places,hx⟩:=KY os enc
 refine returnsInHanded_of_row (C:=Tryz.checked) (s:=OpenSpec.ofChange Rows.splineValuesSpec) bw8 started (by kernel_rfl) func3
  (witness_row_at (enc:=enc) (C:=Tryz.checked) false (xC os) vT rfl (by kernel_rfl) (by kernel_rfl) (by kernel_rfl)
   (OpenSpec.preRow_of_cond 8 hx (by kernel_rfl) (fun k hk=>by cases hk) (by kernel_rfl) (YI os vT))) ?_
 intro W base args ds gs before hval hW _ _ hwt hL _ _;exact Ad H enc W base args ds gs before hval hW hwt hL
theorem NV:Rows.SplineValuesSaid:=
 OpenClaim.holds_of_cond 3 f3 rfl rfl rfl rfl rfl rfl rfl ⟨rfl,rfl,rfl,rfl,rfl⟩ rfl rfl rfl rfl rfl (by kernel_rfl) func3 kf
  (of_decide_eq_true (by kernel_rfl)) (by unfold Func.isWrapper;first | (rw [if_pos (by decide +kernel)];kernel_rfl) | (rw [if_neg (by decide +kernel)];exact ⟨rfl,rfl⟩))
  (fun os started H enc _ F=>by rw [OpenClaim.pre_eq_preRow];exact Gd os started H enc F)
theorem Lg (f:FuncId) (fn:Func) (hf:Tryz.pinned.checked.prog.funcNamed "ordinate/ordinatelaw09.SplineValues" = some f) (hfn:Tryz.pinned.checked.prog.funcs[f]? = some fn) :
  false=Tryz.pinned.checked.prog.looks []∧∀ (j:Nat) t,fn.params[j]? = some t→Tryz.pinned.checked.prog.wantsStandIn t=false:=by
 obtain rfl:f=3:=Option.some.inj ((show prog.funcNamed "ordinate/ordinatelaw09.SplineValues" = some 3 by kernel_rfl).symm.trans hf) |>.symm;obtain rfl:fn=f3:=(Option.some.inj (func3.symm.trans hfn)).symm;refine ⟨by kernel_rfl,fun j t ht=>?_⟩;rw [params3] at ht;have hm:∀ t∈(#[25,27]:Array TypeId),prog.wantsStandIn t=false:=by decide +kernel
 exact hm t (Array.mem_of_getElem? ht)
end
end Go.Sy
