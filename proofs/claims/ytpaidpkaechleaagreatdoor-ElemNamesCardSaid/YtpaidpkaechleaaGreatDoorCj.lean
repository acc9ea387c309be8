/- Part. -/
import Derived.Test.YtpaidpkaechleaaGreatDoorEj
import Derived.Test.YtpaidpkaechleaaGreatDoorKf
set_option linter.all false
namespace Go.Sy
open Go Go.Proofs Go.RowKit Go.ChangeShapes Go.WideShapes Tryz
theorem aw7:ownKnob prog.godebug=none:=by kernel_rfl
theorem Se:laidOutB prog=true:=by kernel_rfl
def ac5:Array Value:=(([0,1,28,2,29,14,24,3,30,22,20,15,25,17,4,8,31,27,13,23,21,19,16,7,26,12,18,6,11,5,10,9]:List Int).map fun z=>Value.int .u8 z).toArray
def am8:Array Value:=(([0,1,56,2,57,49,28,3,61,58,42,50,38,29,17,4,62,47,59,36,45,43,51,22,53,39,33,30,24,18,12,5,63,55,48,27,60,41,37,16,46,35,44,21,52,32,23,11,54,26,40,15,34,20,31,10,25,14,19,9,13,8,7,6]:List Int).map fun z=>Value.int .u8 z).toArray
def qM (v:Array Value):Obj→Obj
 | .cells _ t frozen=>.cells v t frozen
 | o=>o
noncomputable def qJ (os:Os):World:=
 { World.holding prog os ⟨#[],#[],[]⟩ with heap:=(((World.holding prog os ⟨#[],#[],[]⟩).heap.modify 0 (qM AL)).modify 2 (qM ac5)).modify 3 (qM am8) }
theorem SE (os:Os) (args:Array Value):laidMet prog YtpaidpkaechleaaGreatDoor.Rows.elemNamesRow.laid ((qJ os).forCall (fun _ _=>0) ⟨#[],args,[]⟩).memory:=
 laidMet_of_run' 8 (by kernel_rfl) (by kernel_rfl)
section
open YtpaidpkaechleaaGreatDoor
theorem Ry:Rows.elemNamesRow.laid.filter (fun x=>x.1 == "internal/strconv.uint64pow10") = [("internal/strconv.uint64pow10",Lib.tabData .u64 Lib.pow10Tab)]:=by kernel_rfl
set_option maxRecDepth 100000 in
theorem sK (H:Type) (enc:TypeId×Value→H) (W:World) (base:Nat) (args:Array Value) (ds gs:List (DataW H)) (before:List MemPlace)
  (hval:∀ (j:Nat) t v,f5.params[j]? = some t→args[j]? = some v→Value.okWide prog W .any base t v)
  (hW:DataW.Whole enc prog f5.params.toList Rows.elemNamesSpec.vars false W args.toList ds gs before)
  (hwt:(DataW.weightsEach prog (f5.params.toList ++ []) (ds++gs)).all (· ≤ reachBytes)=true) (hL:laidMetH prog Rows.elemNamesRow.laid W) :
  Calls prog 5 args W fun e W'=>∃ v,e = .returned v∧Rows.elemNamesSpec.post enc prog f5 false true false false W args v W':=by
 have hW':=hW;obtain ⟨p,q,hA0,hV,rfl,hfz,hnd⟩:=hW;have hA:DataW.TrodAll enc prog W 0 (fun _=>true) true f5.params.toList args.toList ds p:=hA0;rw [params5] at hA hval hwt;obtain ⟨hargs,rfl,rfl⟩:=trodAll_nil hA;obtain rfl:args = #[]:=by cases args;simp_all
 obtain ⟨rfl,rfl⟩:=trodVars_none hV;have hd:=HF;refine (hd.2 noM W [] ⟨fun _ h=>h.elim,IK Ry hL⟩ trivial).mono fun e W' hh=>?_;obtain ⟨hb,vs,rfl,hvs⟩:=hh;obtain ⟨v,e1,hv⟩:=ax5 hvs;rw [e1,hv.1];exact ⟨_,rfl,Mm Se (by rw [params5];decide +kernel) rfl hW' rfl rfl rfl hb (by rfl) underlying4⟩
end
end Go.Sy
