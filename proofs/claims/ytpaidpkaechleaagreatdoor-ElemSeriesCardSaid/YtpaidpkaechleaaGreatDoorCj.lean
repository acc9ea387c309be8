/- Part. -/
import Derived.Test.YtpaidpkaechleaaGreatDoorEr
import Derived.Test.YtpaidpkaechleaaGreatDoorKf
set_option linter.all false
namespace Go.Sy
open Go Go.Proofs Go.RowKit Go.ChangeShapes Go.WideShapes Tryz
theorem aQ1:ownKnob prog.godebug=none:=by kernel_rfl
theorem TX:laidOutB prog=true:=by kernel_rfl
def at7:Array Value:=(([0,1,28,2,29,14,24,3,30,22,20,15,25,17,4,8,31,27,13,23,21,19,16,7,26,12,18,6,11,5,10,9]:List Int).map fun z=>Value.int .u8 z).toArray
def aH9:Array Value:=(([0,1,56,2,57,49,28,3,61,58,42,50,38,29,17,4,62,47,59,36,45,43,51,22,53,39,33,30,24,18,12,5,63,55,48,27,60,41,37,16,46,35,44,21,52,32,23,11,54,26,40,15,34,20,31,10,25,14,19,9,13,8,7,6]:List Int).map fun z=>Value.int .u8 z).toArray
def rY (v:Array Value):Obj→Obj
 | .cells _ t frozen=>.cells v t frozen
 | o=>o
noncomputable def rR (os:Os):World:=
 { World.holding prog os ⟨#[],#[],[]⟩ with heap:=(((World.holding prog os ⟨#[],#[],[]⟩).heap.modify 0 (rY BW)).modify 2 (rY at7)).modify 3 (rY aH9) }
theorem Uz (os:Os) (args:Array Value):laidMet prog YtpaidpkaechleaaGreatDoor.Rows.elemSeriesRow.laid ((rR os).forCall (fun _ _=>0) ⟨#[],args,[]⟩).memory:=
 laidMet_of_run' 8 (by kernel_rfl) (by kernel_rfl)
section
open YtpaidpkaechleaaGreatDoor
theorem Th:Rows.elemSeriesRow.laid.filter (fun x=>x.1 == "internal/strconv.uint64pow10") = [("internal/strconv.uint64pow10",Lib.tabData .u64 Lib.pow10Tab)]:=by kernel_rfl
set_option maxRecDepth 100000 in
theorem tZ (H:Type) (enc:TypeId×Value→H) (W:World) (base:Nat) (args:Array Value) (ds gs:List (DataW H)) (before:List MemPlace)
  (hval:∀ (j:Nat) t v,f4.params[j]? = some t→args[j]? = some v→Value.okWide prog W .any base t v)
  (hW:DataW.Whole enc prog f4.params.toList Rows.elemSeriesSpec.vars false W args.toList ds gs before)
  (hwt:(DataW.weightsEach prog (f4.params.toList ++ []) (ds++gs)).all (· ≤ reachBytes)=true) (hL:laidMetH prog Rows.elemSeriesRow.laid W) :
  Calls prog 4 args W fun e W'=>∃ v,e = .returned v∧Rows.elemSeriesSpec.post enc prog f4 false true false false W args v W':=by
 have hW':=hW;obtain ⟨p,q,hA0,hV,rfl,hfz,hnd⟩:=hW;have hA:DataW.TrodAll enc prog W 0 (fun _=>true) true f4.params.toList args.toList ds p:=hA0;rw [params4] at hA hval hwt;obtain ⟨v0,vs0,d0,ds0,p0,q0,hargs,rfl,rfl,h0,r0⟩:=trodAll_cons hA;obtain ⟨v1,vs1,d1,ds1,p1,q1,rfl,rfl,rfl,h1,r1⟩:=trodAll_cons r0;obtain ⟨v2,vs2,d2,ds2,p2,q2,rfl,rfl,rfl,h2,r2⟩:=trodAll_cons r1;obtain ⟨rfl,rfl,rfl⟩:=trodAll_nil r2;obtain rfl:args = #[v0,v1,v2]:=by cases args;simp_all
 obtain ⟨rfl,rfl⟩:=trodVars_none hV;obtain ⟨z0,rfl,rfl,rfl,f0⟩:=open_int underlying5 (hval 0 _ v0 rfl rfl) h0;have b0:=bounds_u8 f0;obtain ⟨z1,rfl,rfl,rfl,f1⟩:=open_int underlying3 (hval 1 _ v1 rfl rfl) h1;have b1:=bounds_i64 f1
 obtain ⟨cs2,rfl,hcs2⟩:∃ cs,v2 = .agg cs∧True:=by
  have:Value.okWide prog W .any base 23 v2:=hval 2 _ v2 rfl rfl;unfold Value.okWide at this;rw [underlying23] at this;obtain ⟨cs,rfl,_⟩:=this;exact ⟨cs,rfl,trivial⟩
 obtain ⟨n2,h2⟩:=h2;obtain ⟨u2,hu2,hr2⟩:=QZ h2;have hd:=FK ((z0.toNat:Nat):Int) z1 u2 hu2;have hk0:((z0.toNat:Nat):Int)=z0:=by omega
 rw [hk0] at hd;refine (hd.2 noM W [.int .u8 z0, .int .i64 z1, .agg cs2] ⟨fun _ h=>h.elim,JR Th hL⟩ ⟨⟨rfl,rfl⟩,⟨rfl,rfl⟩,⟨cs2.toList,rfl,hr2⟩,trivial⟩).mono fun e W' hh=>?_;obtain ⟨hb,vs,rfl,hvs⟩:=hh;obtain ⟨v,e1,hv⟩:=aQ9 hvs;rw [e1,hv.1];exact ⟨_,rfl,NR TX (by rw [params4];decide +kernel) rfl hW' rfl rfl rfl hb (by rfl) underlying4⟩
end
end Go.Sy
