/- Part. -/
import Derived.Test.YtacgmapjhpghkaaGreatDoorCj
set_option linter.all false
namespace Go.Sy
open Go Go.Proofs Go.RowKit Go.ChangeShapes Go.WideShapes Tryz
section
open YtacgmapjhpghkaaGreatDoor
noncomputable def xI:Array Value:=#[.slice none 0 0, .slice none 0 0, .agg #[.int .i64 0, .int .i64 0, .int .u8 0], .agg #[.int .i64 0, .int .i64 0, .int .u8 0], .slice none 0 0]
def ad0 {H:Type}:List (DataW H):=[.nil, .nil, .agg [.lit (.int .i64 0), .lit (.int .i64 0), .lit (.int .u8 0)], .agg [.lit (.int .i64 0), .lit (.int .i64 0), .lit (.int .u8 0)], .nil]
theorem Ph (os:Os) {H:Type} (enc:TypeId×Value->H):∃ places,DataW.whole enc prog ((yS os).forCall (fun _ _=>0) ⟨#[],xI,[]⟩).memory f9.params.toList Rows.splineLeastSpec.vars false xI.toList 8=some (ad0,[],places):=
 ⟨[],by kernel_rfl⟩
set_option maxRecDepth 100000 in
theorem Io (os:Os) (started:os.Started) (H:Type) (enc:TypeId×Value->H) (F:Stop.Interp) :
  ReturnsInHanded {} Tryz.checked os 9 .any ((OpenSpec.ofChange Rows.splineLeastSpec).preRow enc prog f9 Rows.splineLeastRow.domain false Rows.splineLeastRow.laid) (((OpenSpec.ofChange Rows.splineLeastSpec).at F).post enc prog f9 false true false false):=by
 obtain ⟨places,hx⟩:=Ph os enc
 refine returnsInHanded_of_row (C:=Tryz.checked) (s:=OpenSpec.ofChange Rows.splineLeastSpec) bH0 started (by kernel_rfl) func9
  (witness_row_at (enc:=enc) (C:=Tryz.checked) false (yS os) xI rfl (by kernel_rfl) (by kernel_rfl) (by kernel_rfl)
   (OpenSpec.preRow_of_cond 8 hx (by kernel_rfl) (fun k hk=>by cases hk) (by kernel_rfl) (am0 os xI))) ?_
 intro W base args ds gs before hval hW _ _ hwt hL _ _;exact Bh H enc W base args ds gs before hval hW hwt hL
theorem Sv:Rows.SplineLeastSaid:=
 OpenClaim.holds_of_cond 9 f9 rfl rfl rfl rfl rfl rfl rfl ⟨rfl,rfl,rfl,rfl,rfl⟩ rfl rfl rfl rfl rfl (by kernel_rfl) func9 kf
  (of_decide_eq_true (by kernel_rfl)) (by unfold Func.isWrapper;first | (rw [if_pos (by decide +kernel)];kernel_rfl) | (rw [if_neg (by decide +kernel)];exact ⟨rfl,rfl⟩))
  (fun os started H enc _ F=>by rw [OpenClaim.pre_eq_preRow];exact Io os started H enc F)
theorem Pt (f:FuncId) (fn:Func) (hf:Tryz.pinned.checked.prog.funcNamed "ordinate/ordinatelaw09.SplineLeast" = some f) (hfn:Tryz.pinned.checked.prog.funcs[f]? = some fn) :
  false=Tryz.pinned.checked.prog.looks []/\∀ (j:Nat) t,fn.params[j]? = some t->Tryz.pinned.checked.prog.wantsStandIn t=false:=by
 obtain rfl:f=9:=Option.some.inj ((show prog.funcNamed "ordinate/ordinatelaw09.SplineLeast" = some 9 by kernel_rfl).symm.trans hf) |>.symm;obtain rfl:fn=f9:=(Option.some.inj (func9.symm.trans hfn)).symm;refine ⟨by kernel_rfl,fun j t ht=>?_⟩;rw [params9] at ht;have hm:∀ t∈(#[22,22,27,27,22]:Array TypeId),prog.wantsStandIn t=false:=by decide +kernel
 exact hm t (Array.mem_of_getElem? ht)
end
end Go.Sy
