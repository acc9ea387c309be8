/- Part. -/
import Derived.Test.YtacgmapjhpghkaaGreatDoorCj
set_option linter.all false
namespace Go.Sy
open Go Go.Proofs Go.RowKit Go.ChangeShapes Go.WideShapes Tryz
section
open YtacgmapjhpghkaaGreatDoor
noncomputable def vV:Array Value:=#[.slice none 0 0,.int .i64 0,.int .i64 0,.slice none 0 0,.agg #[.int .i64 0,.int .i64 0,.int .u8 0]]
def aw8{H:Type}:List (DataW H):=[.nil,.lit (.int .i64 0),.lit (.int .i64 0),.nil,.agg [.lit (.int .i64 0),.lit (.int .i64 0),.lit (.int .u8 0)]]
theorem Oy(os:Os){H:Type}(enc:TypeId×Value->H):∃places,DataW.whole enc prog ((wm os).forCall (fun _ _=>0) ⟨#[],vV,[]⟩).memory f4.params.toList Rows.splineBasesSpec.vars false vV.toList 8=some (aw8,[],places):=
 ⟨[],by kernel_rfl⟩
set_option maxRecDepth 100000 in
theorem Gb(os:Os)(started:os.Started)(H:Type)(enc:TypeId×Value->H)(F:Stop.Interp) :
  ReturnsInHanded {} Tryz.checked os 4 .any ((OpenSpec.ofChange Rows.splineBasesSpec).preRow enc prog f4 Rows.splineBasesRow.domain false Rows.splineBasesRow.laid) (((OpenSpec.ofChange Rows.splineBasesSpec).at F).post enc prog f4 false true false false):=by
 obtain⟨places,hx⟩:=Oy os enc
 refine returnsInHanded_of_row (C:=Tryz.checked) (s:=OpenSpec.ofChange Rows.splineBasesSpec) co7 started (by kernel_rfl) func4
  (witness_row_at (enc:=enc) (C:=Tryz.checked) false (wm os) vV rfl (by kernel_rfl) (by kernel_rfl) (by kernel_rfl)
   (OpenSpec.preRow_of_cond 8 hx (by kernel_rfl) (fun k hk=>by cases hk) (by kernel_rfl) (aI1 os vV))) ?_
 intro W base args ds gs before hval hW _ _ hwt hL _ _;exact yZ H enc W base args ds gs before hval hW hwt hL
theorem TM:Rows.SplineBasesSaid:=
 OpenClaim.holds_of_cond 4 f4 rfl rfl rfl rfl rfl rfl rfl ⟨rfl,rfl,rfl,rfl,rfl⟩ rfl rfl rfl rfl rfl (by kernel_rfl) func4 kf
  (qG (by kernel_rfl)) (by unfold Func.isWrapper;first | (rw[aK (by decide +kernel)];kernel_rfl) | (rw[aG (by decide +kernel)];exact⟨rfl,rfl⟩))
  (fun os started H enc _ F=>by rw[OpenClaim.pre_eq_preRow];exact Gb os started H enc F)
theorem OT(f:FuncId)(fn:Func)(hf:Tryz.pinned.checked.prog.funcNamed "ordinate/ordinatelaw09.SplineBases" = some f)(hfn:Tryz.pinned.checked.prog.funcs[f]?=some fn) :
  false=Tryz.pinned.checked.prog.looks []/\∀(j:Nat)t,fn.params[j]?=some t->Tryz.pinned.checked.prog.wantsStandIn t=false:=by
 obtain rfl:f=4:=dA ((show prog.funcNamed "ordinate/ordinatelaw09.SplineBases" = some 4 by kernel_rfl).symm.trans hf) |>.symm;obtain rfl:fn=f4:=(dA (func4.symm.trans hfn)).symm;refine⟨by kernel_rfl,fun j t ht=>?_⟩;rw[params4]at ht;have hm:∀t∈(#[22,3,3,22,27]:Array TypeId),prog.wantsStandIn t=false:=by decide +kernel
 exact hm t (Array.mem_of_getElem? ht)
end
end Go.Sy
