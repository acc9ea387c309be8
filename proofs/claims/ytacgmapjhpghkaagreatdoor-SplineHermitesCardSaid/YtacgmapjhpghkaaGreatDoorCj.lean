/- Part. -/
import Derived.Test.YtacgmapjhpghkaaGreatDoorOp
import Derived.Test.YtacgmapjhpghkaaGreatDoorXi
import Derived.Test.YtacgmapjhpghkaaGreatDoorKf
set_option linter.all false
namespace Go.Sy
open Go Go.Proofs Go.RowKit Go.ChangeShapes Go.WideShapes Tryz
theorem ch8:ownKnob prog.godebug=none:=by kernel_rfl
theorem aB1:laidOutB prog=true:=by kernel_rfl
def bK5:Array Value:=(([0,1,28,2,29,14,24,3,30,22,20,15,25,17,4,8,31,27,13,23,21,19,16,7,26,12,18,6,11,5,10,9]:List Int).map fun z=>Value.int .u8 z).toArray
def bZ1:Array Value:=(([0,1,56,2,57,49,28,3,61,58,42,50,38,29,17,4,62,47,59,36,45,43,51,22,53,39,33,30,24,18,12,5,63,55,48,27,60,41,37,16,46,35,44,21,52,32,23,11,54,26,40,15,34,20,31,10,25,14,19,9,13,8,7,6]:List Int).map fun z=>Value.int .u8 z).toArray
def xH(v:Array Value):Obj->Obj
 | .cells _ t frozen=>.cells v t frozen
 | o=>o
noncomputable def wy(os:Os):World:=
 { World.holding prog os ⟨#[],#[],[]⟩with heap:=(((World.holding prog os ⟨#[],#[],[]⟩).heap.modify 0 (xH EL)).modify 2 (xH bK5)).modify 3 (xH bZ1) }
theorem aE2(os:Os)(args:Array Value):laidMet prog YtacgmapjhpghkaaGreatDoor.Rows.splineHermitesRow.laid ((wy os).forCall (fun _ _=>0) ⟨#[],args,[]⟩).memory:=
 laidMet_of_run' 8 (by kernel_rfl) (by kernel_rfl)
section
open YtacgmapjhpghkaaGreatDoor
theorem aw7:Rows.splineHermitesRow.laid.filter (fun x=>x.1 == "internal/strconv.uint64pow10")=[("internal/strconv.uint64pow10",Lib.tabData .u64 Lib.pow10Tab)]:=by kernel_rfl
set_option maxRecDepth 100000 in
theorem zE(H:Type)(enc:TypeId×Value->H)(W:World)(base:Nat)(args:Array Value)(ds gs:List (DataW H))(before:List MemPlace)
  (hval:∀(j:Nat)t v,f5.params[j]?=some t->args[j]?=some v->Value.okWide prog W .any base t v)
  (hW:DataW.Whole enc prog f5.params.toList Rows.splineHermitesSpec.vars false W args.toList ds gs before)
  (hwt:(DataW.weightsEach prog (f5.params.toList++[]) (ds++gs)).all (· <= reachBytes)=true) (hL:laidMetH prog Rows.splineHermitesRow.laid W) :
  Calls prog 5 args W fun e W'=>∃v,e=.returned v/\Rows.splineHermitesSpec.post enc prog f5 false true false false W args v W':=by
 have hW':=hW;obtain⟨p,q,hA0,hV,rfl,hfz,hnd⟩:=hW;have hA:DataW.TrodAll enc prog W 0 (fun _=>true) true f5.params.toList args.toList ds p:=hA0;rw[params5]at hA hval hwt;obtain⟨v0,vs0,d0,ds0,p0,q0,hargs,rfl,rfl,h0,r0⟩:=trodAll_cons hA;obtain⟨rfl,rfl,rfl⟩:=trodAll_nil r0;obtain rfl:args=#[v0]:=by cases args;simp_all
 obtain⟨rfl,rfl⟩:=trodVars_none hV
 have hwd0:Wd prog 89 d0:=fun n hn=>by
  have:=eu.1 hwt n (wM (j:=0) (t:=89) (d:=d0) rfl rfl n hn)
  simpa using this
 obtain⟨n0,h0⟩:=h0;obtain⟨l0,w0,e0,hl0,hm0,hr0⟩:=WQ h0 hwd0
 obtain rfl:v0=w0:=by
  have hv:Value.okWide prog W .any base 89 v0:=hval 0 _ v0 rfl rfl;unfold Value.okWide at hv;rw[underlying89]at hv;unfold Cell.okWide Cell.ok at hv;rw[underlying89]at hv;cases v0<;>simp_all[Value.cells]
 have hd:=vF VQ l0 (fun s h=>⟨(hl0 s h).1,(hl0 s h).2.1,dV (hl0 s h).2.2 (by decide)⟩) (dV hm0 (by decide));refine(hd.2 noM W [v0] ⟨fun _ h=>h.elim,PL aw7 hL⟩ ⟨hr0,trivial⟩).mono fun e W' hh=>?_;obtain⟨hb,vs,rfl,hvs⟩:=hh;obtain⟨v,e1,hv⟩:=XC hvs;rw[e1,hv.1];exact⟨_,rfl,Xc aB1 (by rw[params5];decide +kernel) rfl hW' rfl rfl rfl hb (by rfl) underlying4⟩
end
end Go.Sy
