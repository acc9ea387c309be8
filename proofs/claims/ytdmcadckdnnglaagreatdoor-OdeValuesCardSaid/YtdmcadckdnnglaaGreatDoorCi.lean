/- Part. -/
import Derived.Test.YtdmcadckdnnglaaGreatDoorCj
set_option linter.all false
namespace Go.Sy
open Go Go.Proofs Go.RowKit Go.ChangeShapes Go.WideShapes Tryz
section
open YtdmcadckdnnglaaGreatDoor
noncomputable def Ah:Array Value:=#[.agg #[.slice none 0 0, .int .i64 0, .int .i64 0, .int .i64 0, .int .u8 0, .slice none 0 0, .int .u8 0, .int .i64 0], .agg #[.int .i64 0, .int .i64 0, .int .u8 0], .agg #[.int .i64 0, .int .i64 0, .int .u8 0], .int .i64 0]
def VK {H:Type}:List (DataW H):=[.agg [.agg [.nil, .lit (.int .i64 0)], .agg [.lit (.int .i64 0), .lit (.int .i64 0), .lit (.int .u8 0)], .nil, .lit (.int .u8 0), .lit (.int .i64 0)], .agg [.lit (.int .i64 0), .lit (.int .i64 0), .lit (.int .u8 0)], .agg [.lit (.int .i64 0), .lit (.int .i64 0), .lit (.int .u8 0)], .lit (.int .i64 0)]
theorem Hr (os:Os) {H:Type} (enc:TypeId×Value→H):∃ places,DataW.whole enc prog ((AU os).forCall (fun _ _=>0) ⟨#[],Ah,[]⟩).memory f11.params.toList Rows.odeValuesSpec.vars false Ah.toList 8=some (VK,[],places):=
 ⟨[],by kernel_rfl⟩
set_option maxRecDepth 100000 in
theorem FM (os:Os) (started:os.Started) (H:Type) (enc:TypeId×Value→H) (F:Stop.Interp) :
  ReturnsInHanded {} Tryz.checked os 11 .any ((OpenSpec.ofChange Rows.odeValuesSpec).preRow enc prog f11 Rows.odeValuesRow.domain false Rows.odeValuesRow.laid) (((OpenSpec.ofChange Rows.odeValuesSpec).at F).post enc prog f11 false true false false):=by
 obtain ⟨places,hx⟩:=Hr os enc
 refine returnsInHanded_of_row (C:=Tryz.checked) (s:=OpenSpec.ofChange Rows.odeValuesSpec) bH3 started (by kernel_rfl) func11
  (witness_row_at (enc:=enc) (C:=Tryz.checked) false (AU os) Ah rfl (by kernel_rfl) (by kernel_rfl) (by kernel_rfl)
   (OpenSpec.preRow_of_cond 8 hx (by kernel_rfl) (fun k hk=>by cases hk) (by kernel_rfl) (TZ os Ah))) ?_
 intro W base args ds gs before hval hW _ _ hwt hL _ _;exact BW H enc W base args ds gs before hval hW hwt hL
theorem Lf:Rows.OdeValuesSaid:=
 OpenClaim.holds_of_cond 11 f11 rfl rfl rfl rfl rfl rfl rfl ⟨rfl,rfl,rfl,rfl,rfl⟩ rfl rfl rfl rfl rfl (by kernel_rfl) func11 kf
  (of_decide_eq_true (by kernel_rfl)) (by unfold Func.isWrapper;first | (rw [if_pos (by decide +kernel)];kernel_rfl) | (rw [if_neg (by decide +kernel)];exact ⟨rfl,rfl⟩))
  (fun os started H enc _ F=>by rw [OpenClaim.pre_eq_preRow];exact FM os started H enc F)
theorem Ih (f:FuncId) (fn:Func) (hf:Tryz.pinned.checked.prog.funcNamed "ordinate/ordinatelaw10.OdeValues" = some f) (hfn:Tryz.pinned.checked.prog.funcs[f]? = some fn) :
  true=Tryz.pinned.checked.prog.looks []∧∀ (j:Nat) t,fn.params[j]? = some t→Tryz.pinned.checked.prog.wantsStandIn t=false:=by
 obtain rfl:f=11:=Option.some.inj ((show prog.funcNamed "ordinate/ordinatelaw10.OdeValues" = some 11 by kernel_rfl).symm.trans hf) |>.symm;obtain rfl:fn=f11:=(Option.some.inj (func11.symm.trans hfn)).symm;refine ⟨by kernel_rfl,fun j t ht=>?_⟩;rw [params11] at ht;have hm:∀ t∈(#[29,26,26,3]:Array TypeId),prog.wantsStandIn t=false:=by decide +kernel
 exact hm t (Array.mem_of_getElem? ht)
end
end Go.Sy
