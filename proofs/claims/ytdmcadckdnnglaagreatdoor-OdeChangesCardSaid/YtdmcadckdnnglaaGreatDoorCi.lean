/- Part. -/
import Derived.Test.YtdmcadckdnnglaaGreatDoorCj
set_option linter.all false
namespace Go.Sy
open Go Go.Proofs Go.RowKit Go.ChangeShapes Go.WideShapes Tryz
section
open YtdmcadckdnnglaaGreatDoor
noncomputable def Ax:Array Value:=#[.agg #[.slice none 0 0,.int .i64 0,.int .i64 0,.int .i64 0,.int .u8 0,.slice none 0 0,.int .u8 0,.int .i64 0],.agg #[.int .i64 0,.int .i64 0,.int .u8 0,.int .i64 0,.int .i64 0,.int .u8 0]]
def aC2{H:Type}:List (DataW H):=[.agg [.agg [.nil,.lit (.int .i64 0)],.agg [.lit (.int .i64 0),.lit (.int .i64 0),.lit (.int .u8 0)],.nil,.lit (.int .u8 0),.lit (.int .i64 0)],.agg [.agg [.lit (.int .i64 0),.lit (.int .i64 0),.lit (.int .u8 0)],.agg [.lit (.int .i64 0),.lit (.int .i64 0),.lit (.int .u8 0)]]]
def Rb(os:Os){H:Type}(enc:TypeId×Value->H):∃places,DataW.whole enc prog ((BH os).forCall (fun _ _=>0) ⟨#[],Ax,[]⟩).memory f14.params.toList Rows.odeChangesSpec.vars false Ax.toList 8=some (aC2,[],places):=
 ⟨[],aT⟩
set_option maxRecDepth 100000 in
def Mj(os:Os)(started:os.Started)(H:Type)(enc:TypeId×Value->H)(F:Stop.Interp) :
  ReturnsInHanded {} Tryz.checked os 14 .any ((OpenSpec.ofChange Rows.odeChangesSpec).preRow enc prog f14 Rows.odeChangesRow.domain false Rows.odeChangesRow.laid) (((OpenSpec.ofChange Rows.odeChangesSpec).at F).post enc prog f14 false true false false):=by
 obtain⟨places,hx⟩:=Rb os enc
 refine returnsInHanded_of_row (C:=Tryz.checked) (s:=OpenSpec.ofChange Rows.odeChangesSpec) cI6 started aT func14
  (witness_row_at (enc:=enc) (C:=Tryz.checked) false (BH os) Ax rfl aT aT aT
   (OpenSpec.preRow_of_cond 8 hx aT (fun k hk=>by cases hk) aT (aP7 os Ax))) ?_
 intro W base args ds gs before hval hW _ _ hwt hL _ _;exact DF H enc W base args ds gs before hval hW hwt hL
def Ug:Rows.OdeChangesSaid:=
 OpenClaim.holds_of_cond 14 f14 rfl rfl rfl rfl rfl rfl rfl ⟨rfl,rfl,rfl,rfl,rfl⟩ rfl rfl rfl rfl rfl aT func14 kf
  (gi aT) (by unfold Func.isWrapper;first | (rw[aI iN];kernel_rfl) | (rw[aD iN];exact⟨rfl,rfl⟩))
  (fun os started H enc _ F=>by rw[OpenClaim.pre_eq_preRow];exact Mj os started H enc F)
def Ri(f:FuncId)(fn:Func)(hf:Tryz.pinned.checked.prog.funcNamed "ordinate/ordinatelaw10.OdeChanges" = some f)(hfn:Tryz.pinned.checked.prog.funcs[f]?=some fn) :
  true=Tryz.pinned.checked.prog.looks []/\∀(j:Nat)t,fn.params[j]?=some t->Tryz.pinned.checked.prog.wantsStandIn t=false:=by
 obtain rfl:f=14:=ke ((show prog.funcNamed "ordinate/ordinatelaw10.OdeChanges" = some 14 by kernel_rfl).symm.trans hf) |>.symm;obtain rfl:fn=f14:=(ke (func14.symm.trans hfn)).symm;refine⟨aT,fun j t ht=>?_⟩;rw[params14]at ht;have hm:∀t∈(#[29,147]:Array TypeId),prog.wantsStandIn t=false:=iN
 exact hm t (Array.mem_of_getElem? ht)
end
end Go.Sy
