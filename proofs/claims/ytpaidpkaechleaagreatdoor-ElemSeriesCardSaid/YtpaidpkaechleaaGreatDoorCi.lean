/- Part. -/
import Derived.Test.YtpaidpkaechleaaGreatDoorCj
set_option linter.all false
namespace Go.Sy
open Go Go.Proofs Go.RowKit Go.ChangeShapes Go.WideShapes Tryz
section
open YtpaidpkaechleaaGreatDoor
noncomputable def qS:Array Value:=#[.int .u8 0, .int .i64 0, .agg #[.int .i64 0, .int .i64 0, .int .u8 0]]
def Ss {H:Type}:List (DataW H):=[.lit (.int .u8 0), .lit (.int .i64 0), .agg [.lit (.int .i64 0), .lit (.int .i64 0), .lit (.int .u8 0)]]
theorem Jb (os:Os) {H:Type} (enc:TypeId×Value→H):∃ places,DataW.whole enc prog ((rR os).forCall (fun _ _=>0) ⟨#[],qS,[]⟩).memory f4.params.toList Rows.elemSeriesSpec.vars false qS.toList 8=some (Ss,[],places):=
 ⟨[],by kernel_rfl⟩
set_option maxRecDepth 100000 in
theorem Fs (os:Os) (started:os.Started) (H:Type) (enc:TypeId×Value→H) (F:Stop.Interp) :
  ReturnsInHanded {} Tryz.checked os 4 .any ((OpenSpec.ofChange Rows.elemSeriesSpec).preRow enc prog f4 Rows.elemSeriesRow.domain false Rows.elemSeriesRow.laid) (((OpenSpec.ofChange Rows.elemSeriesSpec).at F).post enc prog f4 false true false false):=by
 obtain ⟨places,hx⟩:=Jb os enc
 refine returnsInHanded_of_row (C:=Tryz.checked) (s:=OpenSpec.ofChange Rows.elemSeriesSpec) aQ1 started (by kernel_rfl) func4
  (witness_row_at (enc:=enc) (C:=Tryz.checked) false (rR os) qS rfl (by kernel_rfl) (by kernel_rfl) (by kernel_rfl)
   (OpenSpec.preRow_of_cond 8 hx (by kernel_rfl) (fun k hk=>by cases hk) (by kernel_rfl) (Uz os qS))) ?_
 intro W base args ds gs before hval hW _ _ hwt hL _ _;exact tZ H enc W base args ds gs before hval hW hwt hL
theorem LP:Rows.ElemSeriesSaid:=
 OpenClaim.holds_of_cond 4 f4 rfl rfl rfl rfl rfl rfl rfl ⟨rfl,rfl,rfl,rfl,rfl⟩ rfl rfl rfl rfl rfl (by kernel_rfl) func4 kf
  (of_decide_eq_true (by kernel_rfl)) (by unfold Func.isWrapper;first | (rw [if_pos (by decide +kernel)];kernel_rfl) | (rw [if_neg (by decide +kernel)];exact ⟨rfl,rfl⟩))
  (fun os started H enc _ F=>by rw [OpenClaim.pre_eq_preRow];exact Fs os started H enc F)
theorem Jm (f:FuncId) (fn:Func) (hf:Tryz.pinned.checked.prog.funcNamed "ordinate/ordinatelaw03.ElemSeries" = some f) (hfn:Tryz.pinned.checked.prog.funcs[f]? = some fn) :
  false=Tryz.pinned.checked.prog.looks []∧∀ (j:Nat) t,fn.params[j]? = some t→Tryz.pinned.checked.prog.wantsStandIn t=false:=by
 obtain rfl:f=4:=Option.some.inj ((show prog.funcNamed "ordinate/ordinatelaw03.ElemSeries" = some 4 by kernel_rfl).symm.trans hf) |>.symm;obtain rfl:fn=f4:=(Option.some.inj (func4.symm.trans hfn)).symm;refine ⟨by kernel_rfl,fun j t ht=>?_⟩;rw [params4] at ht;have hm:∀ t∈(#[5,3,23]:Array TypeId),prog.wantsStandIn t=false:=by decide +kernel
 exact hm t (Array.mem_of_getElem? ht)
end
end Go.Sy
