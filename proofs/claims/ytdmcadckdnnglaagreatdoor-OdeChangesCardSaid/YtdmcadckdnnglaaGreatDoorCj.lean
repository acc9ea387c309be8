/- Part. -/
import Derived.Test.YtdmcadckdnnglaaGreatDoorKm
import Derived.Test.YtdmcadckdnnglaaGreatDoorKf
set_option linter.all false
namespace Go.Sy
open Go Go.Proofs Go.RowKit Go.ChangeShapes Go.WideShapes Tryz
def cI6:ownKnob prog.godebug=none:=aT
def aL8:laidOutB prog=true:=aT
def cj2:Array Value:=(([0,1,28,2,29,14,24,3,30,22,20,15,25,17,4,8,31,27,13,23,21,19,16,7,26,12,18,6,11,5,10,9]:List Int).map fun z=>Value.int .u8 z).toArray
def cy5:Array Value:=(([0,1,56,2,57,49,28,3,61,58,42,50,38,29,17,4,62,47,59,36,45,43,51,22,53,39,33,30,24,18,12,5,63,55,48,27,60,41,37,16,46,35,44,21,52,32,23,11,54,26,40,15,34,20,31,10,25,14,19,9,13,8,7,6]:List Int).map fun z=>Value.int .u8 z).toArray
def BR(v:l7):Obj->Obj
 | .cells _ t frozen=>.cells v t frozen
 | o=>o
noncomputable def BH(os:Os):World:=
 { World.holding prog os ⟨#[],#[],[]⟩with heap:=(((World.holding prog os ⟨#[],#[],[]⟩).heap.modify 0 (BR JL)).modify 2 (BR cj2)).modify 3 (BR cy5) }
def aP7(os:Os)(args:l7):laidMet prog YtdmcadckdnnglaaGreatDoor.Rows.odeChangesRow.laid ((BH os).forCall (fun _ _=>0) ⟨#[],args,[]⟩).memory:=
 laidMet_of_run' 8 aT aT
section
open YtdmcadckdnnglaaGreatDoor
def aH2:Rows.odeChangesRow.laid.filter (fun x=>x.1 == "internal/strconv.uint64pow10")=[("internal/strconv.uint64pow10",Lib.tabData .u64 Lib.pow10Tab)]:=aT
set_option maxRecDepth 100000 in
def DF(H:Type)(enc:TypeId×Value->H)(W:World)(base:Nat)(args:l7)(ds gs:List (DataW H))(before:List MemPlace)
  (hval:∀(j:Nat)t v,f14.params[j]?=some t->args[j]?=some v->Value.okWide prog W .any base t v)
  (hW:DataW.Whole enc prog f14.params.toList Rows.odeChangesSpec.vars false W args.toList ds gs before)
  (hwt:(DataW.weightsEach prog (f14.params.toList++[]) (ds++gs)).all (· <= reachBytes)=true) (hL:laidMetH prog Rows.odeChangesRow.laid W) :
  Calls prog 14 args W fun e W'=>∃v,e=.returned v/\Rows.odeChangesSpec.post enc prog f14 false true false false W args v W':=by
 have hW':=hW;obtain⟨p,q,hA0,hV,rfl,hfz,hnd⟩:=hW;have hA:DataW.TrodAll enc prog W 0 (fun _=>true) true f14.params.toList args.toList ds p:=hA0;rw[params14]at hA hval hwt;obtain⟨v0,vs0,d0,ds0,p0,q0,hargs,rfl,rfl,h0,r0⟩:=trodAll_cons hA;obtain⟨v1,vs1,d1,ds1,p1,q1,rfl,rfl,rfl,h1,r1⟩:=trodAll_cons r0;obtain⟨rfl,rfl,rfl⟩:=trodAll_nil r1;obtain rfl:args=#[v0,v1]:=by cases args;simp_all
 obtain⟨rfl,rfl⟩:=trodVars_none hV
 have hwd0:Wd prog 29 d0:=fun n hn=>by
  have:=gM.1 hwt n (uY (j:=0) (t:=29) (d:=d0) rfl rfl n hn)
  simpa using this
 obtain⟨cs0,rfl,hcs0⟩:∃cs,v0=.agg cs/\True:=by
  have:Value.okWide prog W .any base 29 v0:=hval 0 _ v0 rfl rfl;unfold Value.okWide at this;rw[underlying29]at this;obtain⟨cs,rfl,_⟩:=this;exact⟨cs,rfl,trivial⟩
 obtain⟨n0,h0⟩:=h0;obtain⟨c0,hc0,hr0⟩:=ak4 h0 hwd0
 have hwd1:Wd prog 147 d1:=fun n hn=>by
  have:=gM.1 hwt n (uY (j:=1) (t:=147) (d:=d1) rfl rfl n hn)
  simpa using this
 obtain⟨cs1,rfl,hcs1⟩:∃cs,v1=.agg cs/\True:=by
  have:Value.okWide prog W .any base 147 v1:=hval 1 _ v1 rfl rfl;unfold Value.okWide at this;rw[underlying147]at this;obtain⟨cs,rfl,_⟩:=this;exact⟨cs,rfl,trivial⟩
 obtain⟨n1,h1⟩:=h1;obtain⟨c1,hc1,hr1⟩:=az2 h1;have hd:=Mb c0 hc0 c1.1 c1.2 hc1.1 hc1.2;refine(hd.2 noM W [.agg cs0,.agg cs1] ⟨fun _ h=>h.elim,RE aH2 hL⟩ ⟨⟨cs0.toList,rfl,hr0⟩,⟨cs1.toList,rfl,hr1⟩,trivial⟩).mono fun e W' hh=>?_;obtain⟨hb,vs,rfl,hvs⟩:=hh;obtain⟨v,e1,hv⟩:=ap7 hvs;rw[e1,hv.1];exact⟨_,rfl,XK aL8 (by rw[params14];decide +kernel) rfl hW' rfl rfl rfl hb (by rfl) underlying4⟩
end
end Go.Sy
