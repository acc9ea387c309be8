/- Part. -/
import Derived.Test.YtdmcadckdnnglaaGreatDoorCj
set_option linter.all false
namespace Go.Sy
open Go Go.Proofs Go.RowKit Go.ChangeShapes Go.WideShapes Tryz
section
open YtdmcadckdnnglaaGreatDoor
noncomputable def wj:Array Value:=#[.agg #[.slice none 0 0,.int .i64 0,.int .i64 0,.int .i64 0,.int .u8 0,.slice none 0 0,.int .u8 0,.int .i64 0],.agg #[.int .i64 0,.int .i64 0,.int .u8 0,.int .i64 0,.int .i64 0,.int .u8 0],.int .u8 0,.int .i64 0]
def Yn{H:Type}:List (DataW H):=[.agg [.agg [.nil,.lit (.int .i64 0)],.agg [.lit (.int .i64 0),.lit (.int .i64 0),.lit (.int .u8 0)],.nil,.lit (.int .u8 0),.lit (.int .i64 0)],.agg [.agg [.lit (.int .i64 0),.lit (.int .i64 0),.lit (.int .u8 0)],.agg [.lit (.int .i64 0),.lit (.int .i64 0),.lit (.int .u8 0)]],.lit (.int .u8 0),.lit (.int .i64 0)]
def Km(os:Os){H:Type}(enc:TypeId×Value->H):∃places,DataW.whole enc prog ((xu os).forCall (fun _ _=>0) ⟨#[],wj,[]⟩).memory f12.params.toList Rows.odeCoversSpec.vars false wj.toList 8=some (Yn,[],places):=
 ⟨[],by kernel_rfl⟩
set_option maxRecDepth 100000 in
def Gt(os:Os)(started:os.Started)(H:Type)(enc:TypeId×Value->H)(F:Stop.Interp) :
  ReturnsInHanded {} Tryz.checked os 12 .any ((OpenSpec.ofChange Rows.odeCoversSpec).preRow enc prog f12 Rows.odeCoversRow.domain false Rows.odeCoversRow.laid) (((OpenSpec.ofChange Rows.odeCoversSpec).at F).post enc prog f12 false true false false):=by
 obtain⟨places,hx⟩:=Km os enc
 refine returnsInHanded_of_row (C:=Tryz.checked) (s:=OpenSpec.ofChange Rows.odeCoversSpec) bU7 started (by kernel_rfl) func12
  (witness_row_at (enc:=enc) (C:=Tryz.checked) false (xu os) wj rfl (by kernel_rfl) (by kernel_rfl) (by kernel_rfl)
   (OpenSpec.preRow_of_cond 8 hx (by kernel_rfl) (fun k hk=>by cases hk) (by kernel_rfl) (ad4 os wj))) ?_
 intro W base args ds gs before hval hW _ _ hwt hL _ _;exact zu H enc W base args ds gs before hval hW hwt hL
def Nv:Rows.OdeCoversSaid:=
 OpenClaim.holds_of_cond 12 f12 rfl rfl rfl rfl rfl rfl rfl ⟨rfl,rfl,rfl,rfl,rfl⟩ rfl rfl rfl rfl rfl (by kernel_rfl) func12 kf
  (oP (by kernel_rfl)) (by unfold Func.isWrapper;first | (rw[if_pos (by decide +kernel)];kernel_rfl) | (rw[if_neg (by decide +kernel)];exact⟨rfl,rfl⟩))
  (fun os started H enc _ F=>by rw[OpenClaim.pre_eq_preRow];exact Gt os started H enc F)
def Ky(f:FuncId)(fn:Func)(hf:Tryz.pinned.checked.prog.funcNamed "ordinate/ordinatelaw10.OdeCovers" = some f)(hfn:Tryz.pinned.checked.prog.funcs[f]?=some fn) :
  true=Tryz.pinned.checked.prog.looks []/\∀(j:Nat)t,fn.params[j]?=some t->Tryz.pinned.checked.prog.wantsStandIn t=false:=by
 obtain rfl:f=12:=lL ((show prog.funcNamed "ordinate/ordinatelaw10.OdeCovers" = some 12 by kernel_rfl).symm.trans hf) |>.symm;obtain rfl:fn=f12:=(lL (func12.symm.trans hfn)).symm;refine⟨by kernel_rfl,fun j t ht=>?_⟩;rw[params12]at ht;have hm:∀t∈(#[29,147,5,3]:Array TypeId),prog.wantsStandIn t=false:=by decide +kernel
 exact hm t (Array.mem_of_getElem? ht)
end
end Go.Sy
