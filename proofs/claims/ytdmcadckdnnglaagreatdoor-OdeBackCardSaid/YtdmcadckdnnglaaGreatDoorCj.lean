/- OdeBack: the card.
-/
import Derived.Test.YtdmcadckdnnglaaGreatDoorQf
import Derived.Test.YtdmcadckdnnglaaGreatDoorLc
import Derived.Test.YtdmcadckdnnglaaGreatDoorKf
set_option linter.unusedVariables false
set_option linter.unusedSimpArgs false
namespace Go.Sy
open Go Go.Proofs Go.RowKit Go.ChangeShapes Go.WideShapes Tryz
theorem bb3:ownKnob prog.godebug=none:=by kernel_rfl
theorem To:laidOutB prog=true:=by kernel_rfl
def aE7:Array Value:=(([0,1,28,2,29,14,24,3,30,22,20,15,25,17,4,8,31,27,13,23,21,19,16,7,26,12,18,6,11,5,10,9]:List Int).map fun z=>Value.int .u8 z).toArray
def aS9:Array Value:=(([0,1,56,2,57,49,28,3,61,58,42,50,38,29,17,4,62,47,59,36,45,43,51,22,53,39,33,30,24,18,12,5,63,55,48,27,60,41,37,16,46,35,44,21,52,32,23,11,54,26,40,15,34,20,31,10,25,14,19,9,13,8,7,6]:List Int).map fun z=>Value.int .u8 z).toArray
def zS (v:Array Value):Obj→Obj
 | .cells _ t frozen=>.cells v t frozen
 | o=>o
noncomputable def zI (os:Os):World:=
 { World.holding prog os ⟨#[],#[],[]⟩ with heap:=(((World.holding prog os ⟨#[],#[],[]⟩).heap.modify 0 (zS Dr)).modify 2 (zS aE7)).modify 3 (zS aS9) }
theorem TS (os:Os) (args:Array Value):laidMet prog YtdmcadckdnnglaaGreatDoor.Rows.odeBackRow.laid ((zI os).forCall (fun _ _=>0) ⟨#[],args,[]⟩).memory:=
 laidMet_of_run' 8 (by kernel_rfl) (by kernel_rfl)
section
open YtdmcadckdnnglaaGreatDoor
theorem Su:Rows.odeBackRow.laid.filter (fun x=>x.1 == "internal/strconv.uint64pow10") = [("internal/strconv.uint64pow10",Lib.tabData .u64 Lib.pow10Tab)]:=by kernel_rfl
set_option maxRecDepth 100000 in
theorem Bk (H:Type) (enc:TypeId×Value→H) (W:World) (base:Nat) (args:Array Value) (ds gs:List (DataW H)) (before:List MemPlace)
  (hval:∀ (j:Nat) t v,f9.params[j]? = some t→args[j]? = some v→Value.okWide prog W .any base t v)
  (hW:DataW.Whole enc prog f9.params.toList Rows.odeBackSpec.vars false W args.toList ds gs before)
  (hwt:(DataW.weightsEach prog (f9.params.toList ++ []) (ds++gs)).all (· ≤ reachBytes)=true) (hL:laidMetH prog Rows.odeBackRow.laid W) :
  Calls prog 9 args W fun e W'=>∃ v,e = .returned v∧Rows.odeBackSpec.post enc prog f9 false true false false W args v W':=by
 have hW':=hW;obtain ⟨p,q,hA0,hV,rfl,hfz,hnd⟩:=hW;have hA:DataW.TrodAll enc prog W 0 (fun _=>true) true f9.params.toList args.toList ds p:=hA0;rw [params9] at hA hval hwt;obtain ⟨v0,vs0,d0,ds0,p0,q0,hargs,rfl,rfl,h0,r0⟩:=trodAll_cons hA;obtain ⟨v1,vs1,d1,ds1,p1,q1,rfl,rfl,rfl,h1,r1⟩:=trodAll_cons r0;obtain ⟨v2,vs2,d2,ds2,p2,q2,rfl,rfl,rfl,h2,r2⟩:=trodAll_cons r1;obtain ⟨v3,vs3,d3,ds3,p3,q3,rfl,rfl,rfl,h3,r3⟩:=trodAll_cons r2;obtain ⟨rfl,rfl,rfl⟩:=trodAll_nil r3;obtain rfl:args = #[v0,v1,v2,v3]:=by cases args;simp_all
 obtain ⟨rfl,rfl⟩:=trodVars_none hV
 have hwd0:Wd prog 24 d0:=fun n hn=>by
  have:=List.all_eq_true.1 hwt n (yG (j:=0) (t:=24) (d:=d0) rfl rfl n hn)
  simpa using this
 obtain ⟨cs0,rfl,hcs0⟩:∃ cs,v0 = .agg cs∧True:=by
  have:Value.okWide prog W .any base 24 v0:=hval 0 _ v0 rfl rfl;unfold Value.okWide at this;rw [underlying24] at this;obtain ⟨cs,rfl,_⟩:=this;exact ⟨cs,rfl,trivial⟩
 obtain ⟨n0,h0⟩:=h0;obtain ⟨c0,hc0,hr0⟩:=Pz h0 hwd0
 obtain ⟨cs1,rfl,hcs1⟩:∃ cs,v1 = .agg cs∧True:=by
  have:Value.okWide prog W .any base 26 v1:=hval 1 _ v1 rfl rfl;unfold Value.okWide at this;rw [underlying26] at this;obtain ⟨cs,rfl,_⟩:=this;exact ⟨cs,rfl,trivial⟩
 obtain ⟨n1,h1⟩:=h1;obtain ⟨u1,hu1,hr1⟩:=Gw h1
 obtain ⟨cs2,rfl,hcs2⟩:∃ cs,v2 = .agg cs∧True:=by
  have:Value.okWide prog W .any base 26 v2:=hval 2 _ v2 rfl rfl;unfold Value.okWide at this;rw [underlying26] at this;obtain ⟨cs,rfl,_⟩:=this;exact ⟨cs,rfl,trivial⟩
 obtain ⟨n2,h2⟩:=h2;obtain ⟨u2,hu2,hr2⟩:=Gw h2;obtain ⟨z3,rfl,rfl,rfl,f3⟩:=open_int underlying3 (hval 3 _ v3 rfl rfl) h3;have b3:=bounds_i64 f3;have hd:=Mi c0.1 c0.2 hc0.1 hc0.2.1 hc0.2.2 u1 hu1 u2 hu2 z3;refine (hd.2 XX W [.agg cs0, .agg cs1, .agg cs2, .int .i64 z3] ⟨fun _ h=>h.elim,Hq Su hL⟩ ⟨⟨cs0.toList,rfl,hr0⟩,⟨cs1.toList,rfl,hr1⟩,⟨cs2.toList,rfl,hr2⟩,⟨rfl,rfl⟩,trivial⟩).mono fun e W' hh=>?_;obtain ⟨hb,vs,rfl,hvs⟩:=hh;obtain ⟨v,e1,hv⟩:=PQ hvs;rw [e1,hv.1];exact ⟨_,rfl,LP To (by rw [params9];decide +kernel) rfl hW' rfl rfl rfl hb (by rfl) underlying4⟩
end
end Go.Sy
