/- Part. -/
import Derived.Test.YtpaidpkaechleaaGreatDoorEr
import Derived.Test.YtpaidpkaechleaaGreatDoorKf
set_option linter.all false
namespace Go.Sy
open Go Go.Proofs Go.RowKit Go.ChangeShapes Go.WideShapes Tryz
theorem Zz:ownKnob prog.godebug=none:=by kernel_rfl
theorem Ld:laidOutB prog=true:=by kernel_rfl
def Vf:Array Value:=(([0,1,28,2,29,14,24,3,30,22,20,15,25,17,4,8,31,27,13,23,21,19,16,7,26,12,18,6,11,5,10,9]:List Int).map fun z=>Value.int .u8 z).toArray
def XY:Array Value:=(([0,1,56,2,57,49,28,3,61,58,42,50,38,29,17,4,62,47,59,36,45,43,51,22,53,39,33,30,24,18,12,5,63,55,48,27,60,41,37,16,46,35,44,21,52,32,23,11,54,26,40,15,34,20,31,10,25,14,19,9,13,8,7,6]:List Int).map fun z=>Value.int .u8 z).toArray
def rI (v:Array Value):Obj→Obj
 | .cells _ t frozen=>.cells v t frozen
 | o=>o
noncomputable def rA (os:Os):World:=
 { World.holding prog os ⟨#[],#[],[]⟩ with heap:=(((World.holding prog os ⟨#[],#[],[]⟩).heap.modify 0 (rI xC)).modify 2 (rI Vf)).modify 3 (rI XY) }
theorem LD (os:Os) (args:Array Value):laidMet prog YtpaidpkaechleaaGreatDoor.Rows.elemRootsRow.laid ((rA os).forCall (fun _ _=>0) ⟨#[],args,[]⟩).memory:=
 laidMet_of_run' 8 (by kernel_rfl) (by kernel_rfl)
section
open YtpaidpkaechleaaGreatDoor
theorem Kw:Rows.elemRootsRow.laid.filter (fun x=>x.1 == "internal/strconv.uint64pow10") = [("internal/strconv.uint64pow10",Lib.tabData .u64 Lib.pow10Tab)]:=by kernel_rfl
set_option maxRecDepth 100000 in
theorem tO (H:Type) (enc:TypeId×Value→H) (W:World) (base:Nat) (args:Array Value) (ds gs:List (DataW H)) (before:List MemPlace)
  (hval:∀ (j:Nat) t v,f3.params[j]? = some t→args[j]? = some v→Value.okWide prog W .any base t v)
  (hW:DataW.Whole enc prog f3.params.toList Rows.elemRootsSpec.vars false W args.toList ds gs before)
  (hwt:(DataW.weightsEach prog (f3.params.toList ++ []) (ds++gs)).all (· ≤ reachBytes)=true) (hL:laidMetH prog Rows.elemRootsRow.laid W) :
  Calls prog 3 args W fun e W'=>∃ v,e = .returned v∧Rows.elemRootsSpec.post enc prog f3 false true false false W args v W':=by
 have hW':=hW;obtain ⟨p,q,hA0,hV,rfl,hfz,hnd⟩:=hW;have hA:DataW.TrodAll enc prog W 0 (fun _=>true) true f3.params.toList args.toList ds p:=hA0;rw [params3] at hA hval hwt;obtain ⟨v0,vs0,d0,ds0,p0,q0,hargs,rfl,rfl,h0,r0⟩:=trodAll_cons hA;obtain ⟨v1,vs1,d1,ds1,p1,q1,rfl,rfl,rfl,h1,r1⟩:=trodAll_cons r0;obtain ⟨v2,vs2,d2,ds2,p2,q2,rfl,rfl,rfl,h2,r2⟩:=trodAll_cons r1;obtain ⟨rfl,rfl,rfl⟩:=trodAll_nil r2;obtain rfl:args = #[v0,v1,v2]:=by cases args;simp_all
 obtain ⟨rfl,rfl⟩:=trodVars_none hV
 obtain ⟨cs0,rfl,hcs0⟩:∃ cs,v0 = .agg cs∧True:=by
  have:Value.okWide prog W .any base 23 v0:=hval 0 _ v0 rfl rfl;unfold Value.okWide at this;rw [underlying23] at this;obtain ⟨cs,rfl,_⟩:=this;exact ⟨cs,rfl,trivial⟩
 obtain ⟨n0,h0⟩:=h0;obtain ⟨u0,hu0,hr0⟩:=Io h0;obtain ⟨z1,rfl,rfl,rfl,f1⟩:=open_int underlying3 (hval 1 _ v1 rfl rfl) h1;have b1:=bounds_i64 f1;obtain ⟨z2,rfl,rfl,rfl,f2⟩:=open_int underlying3 (hval 2 _ v2 rfl rfl) h2;have b2:=bounds_i64 f2;have hd:=AQ u0 hu0 z1 z2;refine (hd.2 ZF W [.agg cs0, .int .i64 z1, .int .i64 z2] ⟨fun _ h=>h.elim,Bo Kw hL⟩ ⟨⟨cs0.toList,rfl,hr0⟩,⟨rfl,rfl⟩,⟨rfl,rfl⟩,trivial⟩).mono fun e W' hh=>?_;obtain ⟨hb,vs,rfl,hvs⟩:=hh;obtain ⟨v,e1,hv⟩:=ZH hvs;rw [e1,hv.1];exact ⟨_,rfl,Ff Ld (by rw [params3];decide +kernel) rfl hW' rfl rfl rfl hb (by rfl) underlying4⟩
end
end Go.Sy
