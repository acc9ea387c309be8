/- Part. -/
import Derived.Test.YtacgmapjhpghkaaGreatDoorCj
set_option linter.all false
namespace Go.Sy
open Go Go.Proofs Go.RowKit Go.ChangeShapes Go.WideShapes Tryz
section
open YtacgmapjhpghkaaGreatDoor
noncomputable def vi:Array Value:=#[.slice none 0 0]
def at5{H:Type}:List (DataW H):=[.nil]
theorem OB(os:Os){H:Type}(enc:TypeId×Value->H):∃places,DataW.whole enc prog ((wy os).forCall (fun _ _=>0) ⟨#[],vi,[]⟩).memory f5.params.toList Rows.splineHermitesSpec.vars false vi.toList 8=some (at5,[],places):=
 ⟨[],by kernel_rfl⟩
set_option maxRecDepth 100000 in
theorem HD(os:Os)(started:os.Started)(H:Type)(enc:TypeId×Value->H)(F:Stop.Interp) :
  ReturnsInHanded {} Tryz.checked os 5 .any ((OpenSpec.ofChange Rows.splineHermitesSpec).preRow enc prog f5 Rows.splineHermitesRow.domain false Rows.splineHermitesRow.laid) (((OpenSpec.ofChange Rows.splineHermitesSpec).at F).post enc prog f5 false true false false):=by
 obtain⟨places,hx⟩:=OB os enc
 refine returnsInHanded_of_row (C:=Tryz.checked) (s:=OpenSpec.ofChange Rows.splineHermitesSpec) ch8 started (by kernel_rfl) func5
  (witness_row_at (enc:=enc) (C:=Tryz.checked) false (wy os) vi rfl (by kernel_rfl) (by kernel_rfl) (by kernel_rfl)
   (OpenSpec.preRow_of_cond 8 hx (by kernel_rfl) (fun k hk=>by cases hk) (by kernel_rfl) (aE2 os vi))) ?_
 intro W base args ds gs before hval hW _ _ hwt hL _ _;exact zE H enc W base args ds gs before hval hW hwt hL
theorem Tj:Rows.SplineHermitesSaid:=
 OpenClaim.holds_of_cond 5 f5 rfl rfl rfl rfl rfl rfl rfl ⟨rfl,rfl,rfl,rfl,rfl⟩ rfl rfl rfl rfl rfl (by kernel_rfl) func5 kf
  (wa (by kernel_rfl)) (by unfold Func.isWrapper;first | (rw[aD (by decide +kernel)];kernel_rfl) | (rw[aH (by decide +kernel)];exact⟨rfl,rfl⟩))
  (fun os started H enc _ F=>by rw[OpenClaim.pre_eq_preRow];exact HD os started H enc F)
theorem OQ(f:FuncId)(fn:Func)(hf:Tryz.pinned.checked.prog.funcNamed "ordinate/ordinatelaw09.SplineHermites" = some f)(hfn:Tryz.pinned.checked.prog.funcs[f]?=some fn) :
  false=Tryz.pinned.checked.prog.looks []/\∀(j:Nat)t,fn.params[j]?=some t->Tryz.pinned.checked.prog.wantsStandIn t=false:=by
 obtain rfl:f=5:=bh ((show prog.funcNamed "ordinate/ordinatelaw09.SplineHermites" = some 5 by kernel_rfl).symm.trans hf) |>.symm;obtain rfl:fn=f5:=(bh (func5.symm.trans hfn)).symm;refine⟨by kernel_rfl,fun j t ht=>?_⟩;rw[params5]at ht;have hm:∀t∈(#[89]:Array TypeId),prog.wantsStandIn t=false:=by decide +kernel
 exact hm t (Array.mem_of_getElem? ht)
end
end Go.Sy
