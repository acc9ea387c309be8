/- Part. -/
import Derived.Test.YtacgmapjhpghkaaGreatDoorOp
import Derived.Test.YtacgmapjhpghkaaGreatDoorWh
import Derived.Test.YtacgmapjhpghkaaGreatDoorKf
set_option linter.all false
namespace Go.Sy
open Go Go.Proofs Go.RowKit Go.ChangeShapes Go.WideShapes Tryz
theorem bw8:ownKnob prog.godebug=none:=by kernel_rfl
theorem Yf:laidOutB prog=true:=by kernel_rfl
def ba8:Array Value:=(([0,1,28,2,29,14,24,3,30,22,20,15,25,17,4,8,31,27,13,23,21,19,16,7,26,12,18,6,11,5,10,9]:List Int).map fun z=>Value.int .u8 z).toArray
def bo5:Array Value:=(([0,1,56,2,57,49,28,3,61,58,42,50,38,29,17,4,62,47,59,36,45,43,51,22,53,39,33,30,24,18,12,5,63,55,48,27,60,41,37,16,46,35,44,21,52,32,23,11,54,26,40,15,34,20,31,10,25,14,19,9,13,8,7,6]:List Int).map fun z=>Value.int .u8 z).toArray
def xI (v:Array Value):Obj→Obj
 | .cells _ t frozen=>.cells v t frozen
 | o=>o
noncomputable def xC (os:Os):World:=
 { World.holding prog os ⟨#[],#[],[]⟩ with heap:=(((World.holding prog os ⟨#[],#[],[]⟩).heap.modify 0 (xI DZ)).modify 2 (xI ba8)).modify 3 (xI bo5) }
theorem YI (os:Os) (args:Array Value):laidMet prog YtacgmapjhpghkaaGreatDoor.Rows.splineValuesRow.laid ((xC os).forCall (fun _ _=>0) ⟨#[],args,[]⟩).memory:=
 laidMet_of_run' 8 (by kernel_rfl) (by kernel_rfl)
section
open YtacgmapjhpghkaaGreatDoor
theorem Xl:Rows.splineValuesRow.laid.filter (fun x=>x.1 == "internal/strconv.uint64pow10") = [("internal/strconv.uint64pow10",Lib.tabData .u64 Lib.pow10Tab)]:=by kernel_rfl
set_option maxRecDepth 100000 in
theorem Ad (H:Type) (enc:TypeId×Value→H) (W:World) (base:Nat) (args:Array Value) (ds gs:List (DataW H)) (before:List MemPlace)
  (hval:∀ (j:Nat) t v,f3.params[j]? = some t→args[j]? = some v→Value.okWide prog W .any base t v)
  (hW:DataW.Whole enc prog f3.params.toList Rows.splineValuesSpec.vars false W args.toList ds gs before)
  (hwt:(DataW.weightsEach prog (f3.params.toList ++ []) (ds++gs)).all (· ≤ reachBytes)=true) (hL:laidMetH prog Rows.splineValuesRow.laid W) :
  Calls prog 3 args W fun e W'=>∃ v,e = .returned v∧Rows.splineValuesSpec.post enc prog f3 false true false false W args v W':=by
 have hW':=hW;obtain ⟨p,q,hA0,hV,rfl,hfz,hnd⟩:=hW;have hA:DataW.TrodAll enc prog W 0 (fun _=>true) true f3.params.toList args.toList ds p:=hA0;rw [params3] at hA hval hwt;obtain ⟨v0,vs0,d0,ds0,p0,q0,hargs,rfl,rfl,h0,r0⟩:=trodAll_cons hA;obtain ⟨v1,vs1,d1,ds1,p1,q1,rfl,rfl,rfl,h1,r1⟩:=trodAll_cons r0;obtain ⟨rfl,rfl,rfl⟩:=trodAll_nil r1;obtain rfl:args = #[v0,v1]:=by cases args;simp_all
 obtain ⟨rfl,rfl⟩:=trodVars_none hV
 have hwd0:Wd prog 25 d0:=fun n hn=>by
  have:=List.all_eq_true.1 hwt n (wE (j:=0) (t:=25) (d:=d0) rfl rfl n hn)
  simpa using this
 obtain ⟨cs0,rfl,hcs0⟩:∃ cs,v0 = .agg cs∧True:=by
  have:Value.okWide prog W .any base 25 v0:=hval 0 _ v0 rfl rfl;unfold Value.okWide at this;rw [underlying25] at this;obtain ⟨cs,rfl,_⟩:=this;exact ⟨cs,rfl,trivial⟩
 obtain ⟨n0,h0⟩:=h0;obtain ⟨c0,hc0,hr0⟩:=RB h0 hwd0
 obtain ⟨cs1,rfl,hcs1⟩:∃ cs,v1 = .agg cs∧True:=by
  have:Value.okWide prog W .any base 27 v1:=hval 1 _ v1 rfl rfl;unfold Value.okWide at this;rw [underlying27] at this;obtain ⟨cs,rfl,_⟩:=this;exact ⟨cs,rfl,trivial⟩
 obtain ⟨n1,h1⟩:=h1;obtain ⟨u1,hu1,hr1⟩:=UX h1;have hd:=Aq c0.1 c0.2 u1 hc0.1.all (fun p h=>(hc0.2.all p h).2) hu1 hc0.1.len hc0.2.len (fun p h=>(hc0.2.all p h).1);refine (hd.2 noM W [.agg cs0, .agg cs1] ⟨fun _ h=>h.elim,LF Xl hL⟩ ⟨⟨cs0.toList,rfl,hr0⟩,⟨cs1.toList,rfl,hr1⟩,trivial⟩).mono fun e W' hh=>?_;obtain ⟨hb,vs,rfl,hvs⟩:=hh;obtain ⟨v,e1,hv⟩:=Rn hvs;rw [e1,hv.1];exact ⟨_,rfl,QY Yf (by rw [params3];decide +kernel) rfl hW' rfl rfl rfl hb (by rfl) underlying4⟩
end
end Go.Sy
