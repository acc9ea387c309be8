/- Part. -/
import Derived.Test.YtpaidpkaechleaaGreatDoorCj
set_option linter.all false
namespace Go.Sy
open Go Go.Proofs Go.RowKit Go.ChangeShapes Go.WideShapes Tryz
section
open YtpaidpkaechleaaGreatDoor
noncomputable def qH:Array Value:=#[.agg #[.int .i64 0, .int .i64 0, .int .u8 0], .int .i64 0, .int .i64 0]
def JJ {H:Type}:List (DataW H):=[.agg [.lit (.int .i64 0), .lit (.int .i64 0), .lit (.int .u8 0)], .lit (.int .i64 0), .lit (.int .i64 0)]
theorem AI (os:Os) {H:Type} (enc:TypeId×Value→H):∃ places,DataW.whole enc prog ((rA os).forCall (fun _ _=>0) ⟨#[],qH,[]⟩).memory f3.params.toList Rows.elemRootsSpec.vars false qH.toList 8=some (JJ,[],places):=
 ⟨[],by kernel_rfl⟩
set_option maxRecDepth 100000 in
theorem yC (os:Os) (started:os.Started) (H:Type) (enc:TypeId×Value→H) (F:Stop.Interp) :
  ReturnsInHanded {} Tryz.checked os 3 .any ((OpenSpec.ofChange Rows.elemRootsSpec).preRow enc prog f3 Rows.elemRootsRow.domain false Rows.elemRootsRow.laid) (((OpenSpec.ofChange Rows.elemRootsSpec).at F).post enc prog f3 false true false false):=by
 obtain ⟨places,hx⟩:=AI os enc
 refine returnsInHanded_of_row (C:=Tryz.checked) (s:=OpenSpec.ofChange Rows.elemRootsSpec) Zz started (by kernel_rfl) func3
  (witness_row_at (enc:=enc) (C:=Tryz.checked) false (rA os) qH rfl (by kernel_rfl) (by kernel_rfl) (by kernel_rfl)
   (OpenSpec.preRow_of_cond 8 hx (by kernel_rfl) (fun k hk=>by cases hk) (by kernel_rfl) (LD os qH))) ?_
 intro W base args ds gs before hval hW _ _ hwt hL _ _;exact tO H enc W base args ds gs before hval hW hwt hL
theorem Dk:Rows.ElemRootsSaid:=
 OpenClaim.holds_of_cond 3 f3 rfl rfl rfl rfl rfl rfl rfl ⟨rfl,rfl,rfl,rfl,rfl⟩ rfl rfl rfl rfl rfl (by kernel_rfl) func3 kf
  (of_decide_eq_true (by kernel_rfl)) (by unfold Func.isWrapper;first | (rw [if_pos (by decide +kernel)];kernel_rfl) | (rw [if_neg (by decide +kernel)];exact ⟨rfl,rfl⟩))
  (fun os started H enc _ F=>by rw [OpenClaim.pre_eq_preRow];exact yC os started H enc F)
theorem AP (f:FuncId) (fn:Func) (hf:Tryz.pinned.checked.prog.funcNamed "ordinate/ordinatelaw03.ElemRoots" = some f) (hfn:Tryz.pinned.checked.prog.funcs[f]? = some fn) :
  false=Tryz.pinned.checked.prog.looks []∧∀ (j:Nat) t,fn.params[j]? = some t→Tryz.pinned.checked.prog.wantsStandIn t=false:=by
 obtain rfl:f=3:=Option.some.inj ((show prog.funcNamed "ordinate/ordinatelaw03.ElemRoots" = some 3 by kernel_rfl).symm.trans hf) |>.symm;obtain rfl:fn=f3:=(Option.some.inj (func3.symm.trans hfn)).symm;refine ⟨by kernel_rfl,fun j t ht=>?_⟩;rw [params3] at ht;have hm:∀ t∈(#[23,3,3]:Array TypeId),prog.wantsStandIn t=false:=by decide +kernel
 exact hm t (Array.mem_of_getElem? ht)
end
end Go.Sy
