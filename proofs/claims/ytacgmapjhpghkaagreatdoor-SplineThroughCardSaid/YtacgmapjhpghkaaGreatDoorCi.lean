/- Part. -/
import Derived.Test.YtacgmapjhpghkaaGreatDoorCj
set_option linter.all false
namespace Go.Sy
open Go Go.Proofs Go.RowKit Go.ChangeShapes Go.WideShapes Tryz
section
open YtacgmapjhpghkaaGreatDoor
noncomputable def xG:Array Value:=#[.slice none 0 0, .slice none 0 0, .agg #[.int .i64 0, .int .i64 0, .int .u8 0], .agg #[.int .i64 0, .int .i64 0, .int .u8 0]]
def ZZ {H:Type}:List (DataW H):=[.nil, .nil, .agg [.lit (.int .i64 0), .lit (.int .i64 0), .lit (.int .u8 0)], .agg [.lit (.int .i64 0), .lit (.int .i64 0), .lit (.int .u8 0)]]
theorem OG (os:Os) {H:Type} (enc:TypeId×Value->H):∃ places,DataW.whole enc prog ((yI os).forCall (fun _ _=>0) ⟨#[],xG,[]⟩).memory f10.params.toList Rows.splineThroughSpec.vars false xG.toList 8=some (ZZ,[],places):=
 ⟨[],by kernel_rfl⟩
set_option maxRecDepth 100000 in
theorem IC (os:Os) (started:os.Started) (H:Type) (enc:TypeId×Value->H) (F:Stop.Interp) :
  ReturnsInHanded {} Tryz.checked os 10 .any ((OpenSpec.ofChange Rows.splineThroughSpec).preRow enc prog f10 Rows.splineThroughRow.domain false Rows.splineThroughRow.laid) (((OpenSpec.ofChange Rows.splineThroughSpec).at F).post enc prog f10 false true false false):=by
 obtain ⟨places,hx⟩:=OG os enc
 refine returnsInHanded_of_row (C:=Tryz.checked) (s:=OpenSpec.ofChange Rows.splineThroughSpec) bI8 started (by kernel_rfl) func10
  (witness_row_at (enc:=enc) (C:=Tryz.checked) false (yI os) xG rfl (by kernel_rfl) (by kernel_rfl) (by kernel_rfl)
   (OpenSpec.preRow_of_cond 8 hx (by kernel_rfl) (fun k hk=>by cases hk) (by kernel_rfl) (aj3 os xG))) ?_
 intro W base args ds gs before hval hW _ _ hwt hL _ _;exact AV H enc W base args ds gs before hval hW hwt hL
theorem RD:Rows.SplineThroughSaid:=
 OpenClaim.holds_of_cond 10 f10 rfl rfl rfl rfl rfl rfl rfl ⟨rfl,rfl,rfl,rfl,rfl⟩ rfl rfl rfl rfl rfl (by kernel_rfl) func10 kf
  (of_decide_eq_true (by kernel_rfl)) (by unfold Func.isWrapper;first | (rw [if_pos (by decide +kernel)];kernel_rfl) | (rw [if_neg (by decide +kernel)];exact ⟨rfl,rfl⟩))
  (fun os started H enc _ F=>by rw [OpenClaim.pre_eq_preRow];exact IC os started H enc F)
theorem OQ (f:FuncId) (fn:Func) (hf:Tryz.pinned.checked.prog.funcNamed "ordinate/ordinatelaw09.SplineThrough" = some f) (hfn:Tryz.pinned.checked.prog.funcs[f]? = some fn) :
  false=Tryz.pinned.checked.prog.looks []/\∀ (j:Nat) t,fn.params[j]? = some t->Tryz.pinned.checked.prog.wantsStandIn t=false:=by
 obtain rfl:f=10:=Option.some.inj ((show prog.funcNamed "ordinate/ordinatelaw09.SplineThrough" = some 10 by kernel_rfl).symm.trans hf) |>.symm;obtain rfl:fn=f10:=(Option.some.inj (func10.symm.trans hfn)).symm;refine ⟨by kernel_rfl,fun j t ht=>?_⟩;rw [params10] at ht;have hm:∀ t∈(#[22,22,27,27]:Array TypeId),prog.wantsStandIn t=false:=by decide +kernel
 exact hm t (Array.mem_of_getElem? ht)
end
end Go.Sy
