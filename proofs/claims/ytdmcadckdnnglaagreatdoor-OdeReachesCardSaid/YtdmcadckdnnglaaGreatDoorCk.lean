/- OdeReaches: the card.
-/
import Derived.Test.YtdmcadckdnnglaaGreatDoorOp
import Derived.Test.YtdmcadckdnnglaaGreatDoorYe
import Derived.Test.YtdmcadckdnnglaaGreatDoorKf
set_option linter.unusedVariables false
set_option linter.unusedSimpArgs false
namespace Go.Sy
open Go Go.Proofs Go.RowKit Go.ChangeShapes Go.WideShapes Tryz
theorem aO7:ownKnob prog.godebug = none:=by kernel_rfl
theorem NK:laidOutB prog = true:=by kernel_rfl
def aG6:Array Value:=(([0,1,28,2,29,14,24,3,30,22,20,15,25,17,4,8,31,27,13,23,21,19,16,7,26,12,18,6,11,5,10,9]:List Int).map fun z=>Value.int .u8 z).toArray
def as4:Array Value:=(([0,1,56,2,57,49,28,3,61,58,42,50,38,29,17,4,62,47,59,36,45,43,51,22,53,39,33,30,24,18,12,5,63,55,48,27,60,41,37,16,46,35,44,21,52,32,23,11,54,26,40,15,34,20,31,10,25,14,19,9,13,8,7,6]:List Int).map fun z=>Value.int .u8 z).toArray
def Ad (v:Array Value):Obj → Obj
 | .cells _ t frozen=>.cells v t frozen
 | o=>o
noncomputable def wL (os:Os):World:=
 { World.holding prog os ⟨#[],#[],[]⟩ with heap:=(((World.holding prog os ⟨#[],#[],[]⟩).heap.modify 0 (Ad BW)).modify 2 (Ad aG6)).modify 3 (Ad as4) }
theorem Sn (os:Os) (args:Array Value):laidMet prog YtdmcadckdnnglaaGreatDoor.Rows.odeReachesRow.laid ((wL os).forCall (fun _ _=>0) ⟨#[],args,[]⟩).memory:=
 laidMet_of_run' 8 (by kernel_rfl) (by kernel_rfl)
section
open YtdmcadckdnnglaaGreatDoor
theorem Px:Rows.odeReachesRow.laid.filter (fun x=>x.1 == "internal/strconv.uint64pow10") = [("internal/strconv.uint64pow10",Lib.tabData .u64 Lib.pow10Tab)]:=by kernel_rfl
set_option maxRecDepth 100000 in
theorem Ba (H:Type) (enc:TypeId × Value → H) (W:World) (base:Nat) (args:Array Value) (ds gs:List (DataW H)) (before:List MemPlace)
  (hval:∀ (j:Nat) t v,f6.params[j]? = some t → args[j]? = some v → Value.okWide prog W .any base t v)
  (hW:DataW.Whole enc prog f6.params.toList Rows.odeReachesSpec.vars false W args.toList ds gs before)
  (hwt:(DataW.weightsEach prog (f6.params.toList ++ []) (ds ++ gs)).all (· ≤ reachBytes) = true) (hL:laidMetH prog Rows.odeReachesRow.laid W) :
  Calls prog 6 args W fun e W'=>∃ v,e = .returned v ∧ Rows.odeReachesSpec.post enc prog f6 false true false false W args v W':=by
 have hW':=hW
 obtain ⟨p,q,hA0,hV,rfl,hfz,hnd⟩:=hW
 have hA:DataW.TrodAll enc prog W 0 (fun _=>true) true f6.params.toList args.toList ds p:=hA0
 rw [params6] at hA hval hwt
 obtain ⟨v0,vs0,d0,ds0,p0,q0,hargs,rfl,rfl,h0,r0⟩:=trodAll_cons hA
 obtain ⟨v1,vs1,d1,ds1,p1,q1,rfl,rfl,rfl,h1,r1⟩:=trodAll_cons r0
 obtain ⟨v2,vs2,d2,ds2,p2,q2,rfl,rfl,rfl,h2,r2⟩:=trodAll_cons r1
 obtain ⟨v3,vs3,d3,ds3,p3,q3,rfl,rfl,rfl,h3,r3⟩:=trodAll_cons r2
 obtain ⟨v4,vs4,d4,ds4,p4,q4,rfl,rfl,rfl,h4,r4⟩:=trodAll_cons r3
 obtain ⟨rfl,rfl,rfl⟩:=trodAll_nil r4
 obtain rfl:args = #[v0,v1,v2,v3,v4]:=by cases args; simp_all
 obtain ⟨rfl,rfl⟩:=trodVars_none hV
 have hwd0:Wd prog 29 d0:=fun n hn=>by
  have:=List.all_eq_true.1 hwt n (uX (j:=0) (t:=29) (d:=d0) rfl rfl n hn)
  simpa using this
 obtain ⟨cs0,rfl,hcs0⟩:∃ cs,v0 = .agg cs ∧ True:=by
  have:Value.okWide prog W .any base 29 v0:=hval 0 _ v0 rfl rfl
  unfold Value.okWide at this
  rw [underlying29] at this
  obtain ⟨cs,rfl,_⟩:=this
  exact ⟨cs,rfl,trivial⟩
 obtain ⟨n0,h0⟩:=h0
 obtain ⟨c0,hc0,hr0⟩:=Nl h0 hwd0
 obtain ⟨cs1,rfl,hcs1⟩:∃ cs,v1 = .agg cs ∧ True:=by
  have:Value.okWide prog W .any base 26 v1:=hval 1 _ v1 rfl rfl
  unfold Value.okWide at this
  rw [underlying26] at this
  obtain ⟨cs,rfl,_⟩:=this
  exact ⟨cs,rfl,trivial⟩
 obtain ⟨n1,h1⟩:=h1
 obtain ⟨u1,hu1,hr1⟩:=DZ h1
 obtain ⟨z2,rfl,rfl,rfl,f2⟩:=open_int underlying3 (hval 2 _ v2 rfl rfl) h2
 have b2:=bounds_i64 f2
 obtain ⟨z3,rfl,rfl,rfl,f3⟩:=open_int underlying3 (hval 3 _ v3 rfl rfl) h3
 have b3:=bounds_i64 f3
 obtain ⟨cs4,rfl,hcs4⟩:∃ cs,v4 = .agg cs ∧ True:=by
  have:Value.okWide prog W .any base 26 v4:=hval 4 _ v4 rfl rfl
  unfold Value.okWide at this
  rw [underlying26] at this
  obtain ⟨cs,rfl,_⟩:=this
  exact ⟨cs,rfl,trivial⟩
 obtain ⟨n4,h4⟩:=h4
 obtain ⟨u4,hu4,hr4⟩:=DZ h4
 have hd:=DD c0 hc0 u1 hu1 z2 b2.1 (by omega) z3 b3.1 (by omega) u4 hu4
 refine (hd.2 WT W [.agg cs0, .agg cs1, .int .i64 z2, .int .i64 z3, .agg cs4] ⟨fun _ h=>h.elim,EX Px hL⟩ ⟨⟨cs0.toList,rfl,hr0⟩,⟨cs1.toList,rfl,hr1⟩,⟨rfl,rfl⟩,⟨rfl,rfl⟩,⟨cs4.toList,rfl,hr4⟩,trivial⟩).mono fun e W' hh=>?_
 obtain ⟨hb,vs,rfl,hvs⟩:=hh
 obtain ⟨v,e1,hv⟩:=Jg hvs
 rw [e1,hv.1]
 exact ⟨_,rfl,IZ NK (by rw [params6]; decide +kernel) rfl hW' rfl rfl rfl hb (by rfl) underlying4⟩
noncomputable def uV:Array Value:=#[.agg #[.slice none 0 0, .int .i64 0, .int .i64 0, .int .i64 0, .int .u8 0, .slice none 0 0, .int .u8 0, .int .i64 0], .agg #[.int .i64 0, .int .i64 0, .int .u8 0], .int .i64 0, .int .i64 0, .agg #[.int .i64 0, .int .i64 0, .int .u8 0]]
def PK {H:Type}:List (DataW H):=[.agg [.agg [.nil, .lit (.int .i64 0)], .agg [.lit (.int .i64 0), .lit (.int .i64 0), .lit (.int .u8 0)], .nil, .lit (.int .u8 0), .lit (.int .i64 0)], .agg [.lit (.int .i64 0), .lit (.int .i64 0), .lit (.int .u8 0)], .lit (.int .i64 0), .lit (.int .i64 0), .agg [.lit (.int .i64 0), .lit (.int .i64 0), .lit (.int .u8 0)]]
theorem Gi (os:Os) {H:Type} (enc:TypeId × Value → H):∃ places,DataW.whole enc prog ((wL os).forCall (fun _ _=>0) ⟨#[],uV,[]⟩).memory f6.params.toList Rows.odeReachesSpec.vars false uV.toList 8 = some (PK,[],places):=
 ⟨[],by kernel_rfl⟩
set_option maxRecDepth 100000 in
theorem Dz (os:Os) (started:os.Started) (H:Type) (enc:TypeId × Value → H) (F:Stop.Interp) :
  ReturnsInHanded {} Tryz.checked os 6 .any ((OpenSpec.ofChange Rows.odeReachesSpec).preRow enc prog f6 Rows.odeReachesRow.domain false Rows.odeReachesRow.laid) (((OpenSpec.ofChange Rows.odeReachesSpec).at F).post enc prog f6 false true false false):=by
 obtain ⟨places,hx⟩:=Gi os enc
 refine returnsInHanded_of_row (C:=Tryz.checked) (s:=OpenSpec.ofChange Rows.odeReachesSpec) aO7 started (by kernel_rfl) func6
  (witness_row_at (enc:=enc) (C:=Tryz.checked) false (wL os) uV rfl (by kernel_rfl) (by kernel_rfl) (by kernel_rfl)
   (OpenSpec.preRow_of_cond 8 hx (by kernel_rfl) (fun k hk=>by cases hk) (by kernel_rfl) (Sn os uV))) ?_
 intro W base args ds gs before hval hW _ _ hwt hL _ _
 exact Ba H enc W base args ds gs before hval hW hwt hL
theorem Hf:Rows.OdeReachesSaid:=
 OpenClaim.holds_of_cond 6 f6 rfl rfl rfl rfl rfl rfl rfl ⟨rfl,rfl,rfl,rfl,rfl⟩ rfl rfl rfl rfl rfl (by kernel_rfl) func6 kf
  (of_decide_eq_true (by kernel_rfl)) (by unfold Func.isWrapper; first | (rw [if_pos (by decide +kernel)]; kernel_rfl) | (rw [if_neg (by decide +kernel)]; exact ⟨rfl,rfl⟩))
  (fun os started H enc _ F=>by rw [OpenClaim.pre_eq_preRow]; exact Dz os started H enc F)
theorem EV (f:FuncId) (fn:Func) (hf:Tryz.pinned.checked.prog.funcNamed "ordinate/ordinatelaw10.OdeReaches" = some f) (hfn:Tryz.pinned.checked.prog.funcs[f]? = some fn) :
  true = Tryz.pinned.checked.prog.looks [] ∧ ∀ (j:Nat) t,fn.params[j]? = some t → Tryz.pinned.checked.prog.wantsStandIn t = false:=by
 obtain rfl:f = 6:=Option.some.inj ((show prog.funcNamed "ordinate/ordinatelaw10.OdeReaches" = some 6 by kernel_rfl).symm.trans hf) |>.symm
 obtain rfl:fn = f6:=(Option.some.inj (func6.symm.trans hfn)).symm
 refine ⟨by kernel_rfl,fun j t ht=>?_⟩
 rw [params6] at ht
 have hm:∀ t ∈ (#[29,26,3,3,26]:Array TypeId),prog.wantsStandIn t = false:=by decide +kernel
 exact hm t (Array.mem_of_getElem? ht)
end
end Go.Sy
namespace Go.Proofs.YtdmcadckdnnglaaGreatDoor
open Go
theorem odeReaches_card:Rows.OdeReachesCardSaid:=
 Claim7.holds_tied_plain_at .later [] _ _ _ _ Go.Sy.Hf (fun _ h=>by cases h) (by kernel_rfl) (fun _ h=>by cases h) odeReaches_row_tie rfl ⟨rfl,rfl⟩ (by kernel_rfl) rfl Go.Sy.EV (by kernel_rfl)
end Go.Proofs.YtdmcadckdnnglaaGreatDoor
