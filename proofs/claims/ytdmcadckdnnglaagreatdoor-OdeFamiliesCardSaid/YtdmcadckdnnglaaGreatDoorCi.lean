/- OdeFamilies: the card, said.
-/
import Derived.Test.YtdmcadckdnnglaaGreatDoorCj
set_option linter.unusedVariables false
set_option linter.unusedSimpArgs false
namespace Go.Sy
open Go Go.Proofs Go.RowKit Go.ChangeShapes Go.WideShapes Tryz
section
open YtdmcadckdnnglaaGreatDoor
noncomputable def qX:Array Value:=#[.int .u8 0]
def JB {H:Type}:List (DataW H):=[.lit (.int .u8 0)]
theorem Cd (os:Os) {H:Type} (enc:TypeId×Value→H):∃ places,DataW.whole enc prog ((rS os).forCall (fun _ _=>0) ⟨#[],qX,[]⟩).memory f7.params.toList Rows.odeFamiliesSpec.vars false qX.toList 8=some (JB,[],places):=
 ⟨[],by kernel_rfl⟩
set_option maxRecDepth 100000 in
theorem Ab (os:Os) (started:os.Started) (H:Type) (enc:TypeId×Value→H) (F:Stop.Interp) :
  ReturnsInHanded {} Tryz.checked os 7 .any ((OpenSpec.ofChange Rows.odeFamiliesSpec).preRow enc prog f7 Rows.odeFamiliesRow.domain false Rows.odeFamiliesRow.laid) (((OpenSpec.ofChange Rows.odeFamiliesSpec).at F).post enc prog f7 false true false false):=by
 obtain ⟨places,hx⟩:=Cd os enc
 refine returnsInHanded_of_row (C:=Tryz.checked) (s:=OpenSpec.ofChange Rows.odeFamiliesSpec) Vb started (by kernel_rfl) func7
  (witness_row_at (enc:=enc) (C:=Tryz.checked) false (rS os) qX rfl (by kernel_rfl) (by kernel_rfl) (by kernel_rfl)
   (OpenSpec.preRow_of_cond 8 hx (by kernel_rfl) (fun k hk=>by cases hk) (by kernel_rfl) (KX os qX))) ?_
 intro W base args ds gs before hval hW _ _ hwt hL _ _;exact tZ H enc W base args ds gs before hval hW hwt hL
theorem Dz:Rows.OdeFamiliesSaid:=
 OpenClaim.holds_of_cond 7 f7 rfl rfl rfl rfl rfl rfl rfl ⟨rfl,rfl,rfl,rfl,rfl⟩ rfl rfl rfl rfl rfl (by kernel_rfl) func7 kf
  (of_decide_eq_true (by kernel_rfl)) (by unfold Func.isWrapper;first | (rw [if_pos (by decide +kernel)];kernel_rfl) | (rw [if_neg (by decide +kernel)];exact ⟨rfl,rfl⟩))
  (fun os started H enc _ F=>by rw [OpenClaim.pre_eq_preRow];exact Ab os started H enc F)
theorem Ci (f:FuncId) (fn:Func) (hf:Tryz.pinned.checked.prog.funcNamed "ordinate/ordinatelaw10.OdeFamilies" = some f) (hfn:Tryz.pinned.checked.prog.funcs[f]? = some fn) :
  true=Tryz.pinned.checked.prog.looks []∧∀ (j:Nat) t,fn.params[j]? = some t→Tryz.pinned.checked.prog.wantsStandIn t=false:=by
 obtain rfl:f=7:=Option.some.inj ((show prog.funcNamed "ordinate/ordinatelaw10.OdeFamilies" = some 7 by kernel_rfl).symm.trans hf) |>.symm;obtain rfl:fn=f7:=(Option.some.inj (func7.symm.trans hfn)).symm;refine ⟨by kernel_rfl,fun j t ht=>?_⟩;rw [params7] at ht;have hm:∀ t∈(#[5]:Array TypeId),prog.wantsStandIn t=false:=by decide +kernel
 exact hm t (Array.mem_of_getElem? ht)
end
end Go.Sy
