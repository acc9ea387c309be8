/- Part. -/
import Derived.Test.YtacgmapjhpghkaaGreatDoorCj
set_option linter.all false
namespace Go.Sy
open Go Go.Proofs Go.RowKit Go.ChangeShapes Go.WideShapes Tryz
section
open YtacgmapjhpghkaaGreatDoor
noncomputable def xO:Array Value:=#[.slice none 0 0,.slice none 0 0,.agg #[.int .i64 0,.int .i64 0,.int .u8 0],.agg #[.int .i64 0,.int .i64 0,.int .u8 0]]
def aK9{H:Type}:List (DataW H):=[.nil,.nil,.agg [.lit (.int .i64 0),.lit (.int .i64 0),.lit (.int .u8 0)],.agg [.lit (.int .i64 0),.lit (.int .i64 0),.lit (.int .u8 0)]]
def Rn(os:Os){H:Type}(enc:TypeId×Value->H):∃places,DataW.whole enc prog ((yS os).forCall (fun _ _=>0) ⟨#[],xO,[]⟩).memory f6.params.toList Rows.splineNaturalsSpec.vars false xO.toList 8=some (aK9,[],places):=
 ⟨[],aS⟩
set_option maxRecDepth 100000 in
def It(os:Os)(started:os.Started)(H:Type)(enc:TypeId×Value->H)(F:Stop.Interp) :
  ReturnsInHanded {} Tryz.checked os 6 .any ((OpenSpec.ofChange Rows.splineNaturalsSpec).preRow enc prog f6 Rows.splineNaturalsRow.domain false Rows.splineNaturalsRow.laid) (((OpenSpec.ofChange Rows.splineNaturalsSpec).at F).post enc prog f6 false true false false):=by
 obtain⟨places,hx⟩:=Rn os enc
 refine returnsInHanded_of_row (C:=Tryz.checked) (s:=OpenSpec.ofChange Rows.splineNaturalsSpec) cF0 started aS func6
  (witness_row_at (enc:=enc) (C:=Tryz.checked) false (yS os) xO rfl aS aS aS
   (OpenSpec.preRow_of_cond 8 hx aS (fun k hk=>by cases hk) aS (aW1 os xO))) ?_
 intro W base args ds gs before hval hW _ _ hwt hL _ _;exact AF H enc W base args ds gs before hval hW hwt hL
def Wx:Rows.SplineNaturalsSaid:=
 OpenClaim.holds_of_cond 6 f6 rfl rfl rfl rfl rfl rfl rfl ⟨rfl,rfl,rfl,rfl,rfl⟩ rfl rfl rfl rfl rfl aS func6 kf
  (wU aS) (by unfold Func.isWrapper;first | (rw[aF b7];kernel_rfl) | (rw[aG b7];exact⟨rfl,rfl⟩))
  (fun os started H enc _ F=>by rw[OpenClaim.pre_eq_preRow];exact It os started H enc F)
def RJ(f:FuncId)(fn:Func)(hf:Tryz.pinned.checked.prog.funcNamed "ordinate/ordinatelaw09.SplineNaturals" = some f)(hfn:Tryz.pinned.checked.prog.funcs[f]?=some fn) :
  false=Tryz.pinned.checked.prog.looks []/\∀(j:Nat)t,fn.params[j]?=some t->Tryz.pinned.checked.prog.wantsStandIn t=false:=by
 obtain rfl:f=6:=cI ((show prog.funcNamed "ordinate/ordinatelaw09.SplineNaturals" = some 6 by kernel_rfl).symm.trans hf) |>.symm;obtain rfl:fn=f6:=(cI (func6.symm.trans hfn)).symm;refine⟨aS,fun j t ht=>?_⟩;rw[params6]at ht;have hm:∀t∈(#[22,22,27,27]:Array TypeId),prog.wantsStandIn t=false:=b7
 exact hm t (Array.mem_of_getElem? ht)
end
end Go.Sy
