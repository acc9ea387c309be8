/- Part. -/
import Derived.Test.YtpaidpkaechleaaGreatDoorCj
set_option linter.all false
namespace Go.Sy
open Go Go.Proofs Go.RowKit Go.ChangeShapes Go.WideShapes Tryz
section
open YtpaidpkaechleaaGreatDoor
noncomputable def pR:Array Value:=#[]
def QY {H:Type}:List (DataW H):=[]
theorem HQ (os:Os) {H:Type} (enc:TypeId×Value→H):∃ places,DataW.whole enc prog ((qJ os).forCall (fun _ _=>0) ⟨#[],pR,[]⟩).memory f5.params.toList Rows.elemNamesSpec.vars false pR.toList 8=some (QY,[],places):=
 ⟨[],by kernel_rfl⟩
set_option maxRecDepth 100000 in
theorem Eh (os:Os) (started:os.Started) (H:Type) (enc:TypeId×Value→H) (F:Stop.Interp) :
  ReturnsInHanded {} Tryz.checked os 5 .any ((OpenSpec.ofChange Rows.elemNamesSpec).preRow enc prog f5 Rows.elemNamesRow.domain false Rows.elemNamesRow.laid) (((OpenSpec.ofChange Rows.elemNamesSpec).at F).post enc prog f5 false true false false):=by
 obtain ⟨places,hx⟩:=HQ os enc
 refine returnsInHanded_of_row (C:=Tryz.checked) (s:=OpenSpec.ofChange Rows.elemNamesSpec) aw7 started (by kernel_rfl) func5
  (witness_row_at (enc:=enc) (C:=Tryz.checked) false (qJ os) pR rfl (by kernel_rfl) (by kernel_rfl) (by kernel_rfl)
   (OpenSpec.preRow_of_cond 8 hx (by kernel_rfl) (fun k hk=>by cases hk) (by kernel_rfl) (SE os pR))) ?_
 intro W base args ds gs before hval hW _ _ hwt hL _ _;exact sK H enc W base args ds gs before hval hW hwt hL
theorem KB:Rows.ElemNamesSaid:=
 OpenClaim.holds_of_cond 5 f5 rfl rfl rfl rfl rfl rfl rfl ⟨rfl,rfl,rfl,rfl,rfl⟩ rfl rfl rfl rfl rfl (by kernel_rfl) func5 kf
  (of_decide_eq_true (by kernel_rfl)) (by unfold Func.isWrapper;first | (rw [if_pos (by decide +kernel)];kernel_rfl) | (rw [if_neg (by decide +kernel)];exact ⟨rfl,rfl⟩))
  (fun os started H enc _ F=>by rw [OpenClaim.pre_eq_preRow];exact Eh os started H enc F)
theorem Ic (f:FuncId) (fn:Func) (hf:Tryz.pinned.checked.prog.funcNamed "ordinate/ordinatelaw03.ElemNames" = some f) (hfn:Tryz.pinned.checked.prog.funcs[f]? = some fn) :
  false=Tryz.pinned.checked.prog.looks []∧∀ (j:Nat) t,fn.params[j]? = some t→Tryz.pinned.checked.prog.wantsStandIn t=false:=by
 obtain rfl:f=5:=Option.some.inj ((show prog.funcNamed "ordinate/ordinatelaw03.ElemNames" = some 5 by kernel_rfl).symm.trans hf) |>.symm;obtain rfl:fn=f5:=(Option.some.inj (func5.symm.trans hfn)).symm;refine ⟨by kernel_rfl,fun j t ht=>?_⟩;rw [params5] at ht;have hm:∀ t∈(#[]:Array TypeId),prog.wantsStandIn t=false:=by decide +kernel
 exact hm t (Array.mem_of_getElem? ht)
end
end Go.Sy
