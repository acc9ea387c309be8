/- Steps. -/
import Derived.Test.YtdmcadckdnnglaaGreatDoorCj
set_option linter.unusedVariables false
set_option linter.unusedSimpArgs false
namespace Go.Sy
open Go Go.Proofs Go.RowKit Go.ChangeShapes Go.WideShapes Tryz
section
open YtdmcadckdnnglaaGreatDoor
noncomputable def wF:Array Value:=#[.agg #[.slice none 0 0, .int .i64 0], .agg #[.int .i64 0, .int .i64 0, .int .u8 0], .agg #[.int .i64 0, .int .i64 0, .int .u8 0], .int .i64 0]
def Ph {H:Type}:List (DataW H):=[.agg [.nil, .lit (.int .i64 0)], .agg [.lit (.int .i64 0), .lit (.int .i64 0), .lit (.int .u8 0)], .agg [.lit (.int .i64 0), .lit (.int .i64 0), .lit (.int .u8 0)], .lit (.int .i64 0)]
theorem Gx (os:Os) {H:Type} (enc:TypeId×Value→H):∃ places,DataW.whole enc prog ((zG os).forCall (fun _ _=>0) ⟨#[],wF,[]⟩).memory f8.params.toList Rows.odeStepsSpec.vars false wF.toList 8=some (Ph,[],places):=
 ⟨[],by kernel_rfl⟩
set_option maxRecDepth 100000 in
theorem DA (os:Os) (started:os.Started) (H:Type) (enc:TypeId×Value→H) (F:Stop.Interp) :
  ReturnsInHanded {} Tryz.checked os 8 .any ((OpenSpec.ofChange Rows.odeStepsSpec).preRow enc prog f8 Rows.odeStepsRow.domain false Rows.odeStepsRow.laid) (((OpenSpec.ofChange Rows.odeStepsSpec).at F).post enc prog f8 false true false false):=by
 obtain ⟨places,hx⟩:=Gx os enc
 refine returnsInHanded_of_row (C:=Tryz.checked) (s:=OpenSpec.ofChange Rows.odeStepsSpec) ba5 started (by kernel_rfl) func8
  (witness_row_at (enc:=enc) (C:=Tryz.checked) false (zG os) wF rfl (by kernel_rfl) (by kernel_rfl) (by kernel_rfl)
   (OpenSpec.preRow_of_cond 8 hx (by kernel_rfl) (fun k hk=>by cases hk) (by kernel_rfl) (Rj os wF))) ?_
 intro W base args ds gs before hval hW _ _ hwt hL _ _;exact AB H enc W base args ds gs before hval hW hwt hL
theorem HE:Rows.OdeStepsSaid:=
 OpenClaim.holds_of_cond 8 f8 rfl rfl rfl rfl rfl rfl rfl ⟨rfl,rfl,rfl,rfl,rfl⟩ rfl rfl rfl rfl rfl (by kernel_rfl) func8 kf
  (of_decide_eq_true (by kernel_rfl)) (by unfold Func.isWrapper;first | (rw [if_pos (by decide +kernel)];kernel_rfl) | (rw [if_neg (by decide +kernel)];exact ⟨rfl,rfl⟩))
  (fun os started H enc _ F=>by rw [OpenClaim.pre_eq_preRow];exact DA os started H enc F)
theorem Gp (f:FuncId) (fn:Func) (hf:Tryz.pinned.checked.prog.funcNamed "ordinate/ordinatelaw10.OdeSteps" = some f) (hfn:Tryz.pinned.checked.prog.funcs[f]? = some fn) :
  true=Tryz.pinned.checked.prog.looks []∧∀ (j:Nat) t,fn.params[j]? = some t→Tryz.pinned.checked.prog.wantsStandIn t=false:=by
 obtain rfl:f=8:=Option.some.inj ((show prog.funcNamed "ordinate/ordinatelaw10.OdeSteps" = some 8 by kernel_rfl).symm.trans hf) |>.symm;obtain rfl:fn=f8:=(Option.some.inj (func8.symm.trans hfn)).symm;refine ⟨by kernel_rfl,fun j t ht=>?_⟩;rw [params8] at ht;have hm:∀ t∈(#[24,26,26,3]:Array TypeId),prog.wantsStandIn t=false:=by decide +kernel
 exact hm t (Array.mem_of_getElem? ht)
end
end Go.Sy
