/- Part. -/
import Derived.Test.YtdmcadckdnnglaaGreatDoorKc
import Derived.Test.YtdmcadckdnnglaaGreatDoorKf
set_option linter.all false
namespace Go.Sy
open Go Go.Proofs Go.RowKit Go.ChangeShapes Go.WideShapes Tryz
def bU7:ownKnob prog.godebug=none:=by kernel_rfl
def aa0:laidOutB prog=true:=by kernel_rfl
def bw1:Array Value:=(([0,1,28,2,29,14,24,3,30,22,20,15,25,17,4,8,31,27,13,23,21,19,16,7,26,12,18,6,11,5,10,9]:List Int).map fun z=>Value.int .u8 z).toArray
def bK9:Array Value:=(([0,1,56,2,57,49,28,3,61,58,42,50,38,29,17,4,62,47,59,36,45,43,51,22,53,39,33,30,24,18,12,5,63,55,48,27,60,41,37,16,46,35,44,21,52,32,23,11,54,26,40,15,34,20,31,10,25,14,19,9,13,8,7,6]:List Int).map fun z=>Value.int .u8 z).toArray
def yG(v:Array Value):Obj->Obj
 | .cells _ t frozen=>.cells v t frozen
 | o=>o
noncomputable def xu(os:Os):World:=
 { World.holding prog os ⟨#[],#[],[]⟩with heap:=(((World.holding prog os ⟨#[],#[],[]⟩).heap.modify 0 (yG EH)).modify 2 (yG bw1)).modify 3 (yG bK9) }
def ad4(os:Os)(args:Array Value):laidMet prog YtdmcadckdnnglaaGreatDoor.Rows.odeCoversRow.laid ((xu os).forCall (fun _ _=>0) ⟨#[],args,[]⟩).memory:=
 laidMet_of_run' 8 (by kernel_rfl) (by kernel_rfl)
section
open YtdmcadckdnnglaaGreatDoor
def Zl:Rows.odeCoversRow.laid.filter (fun x=>x.1 == "internal/strconv.uint64pow10")=[("internal/strconv.uint64pow10",Lib.tabData .u64 Lib.pow10Tab)]:=by kernel_rfl
set_option maxRecDepth 100000 in
def zu(H:Type)(enc:TypeId×Value->H)(W:World)(base:Nat)(args:Array Value)(ds gs:List (DataW H))(before:List MemPlace)
  (hval:∀(j:Nat)t v,f12.params[j]?=some t->args[j]?=some v->Value.okWide prog W .any base t v)
  (hW:DataW.Whole enc prog f12.params.toList Rows.odeCoversSpec.vars false W args.toList ds gs before)
  (hwt:(DataW.weightsEach prog (f12.params.toList++[]) (ds++gs)).all (· <= reachBytes)=true) (hL:laidMetH prog Rows.odeCoversRow.laid W) :
  Calls prog 12 args W fun e W'=>∃v,e=.returned v/\Rows.odeCoversSpec.post enc prog f12 false true false false W args v W':=by
 have hW':=hW;obtain⟨p,q,hA0,hV,rfl,hfz,hnd⟩:=hW;have hA:DataW.TrodAll enc prog W 0 (fun _=>true) true f12.params.toList args.toList ds p:=hA0;rw[params12]at hA hval hwt;obtain⟨v0,vs0,d0,ds0,p0,q0,hargs,rfl,rfl,h0,r0⟩:=trodAll_cons hA;obtain⟨v1,vs1,d1,ds1,p1,q1,rfl,rfl,rfl,h1,r1⟩:=trodAll_cons r0;obtain⟨v2,vs2,d2,ds2,p2,q2,rfl,rfl,rfl,h2,r2⟩:=trodAll_cons r1;obtain⟨v3,vs3,d3,ds3,p3,q3,rfl,rfl,rfl,h3,r3⟩:=trodAll_cons r2;obtain⟨rfl,rfl,rfl⟩:=trodAll_nil r3;obtain rfl:args=#[v0,v1,v2,v3]:=by cases args;simp_all
 obtain⟨rfl,rfl⟩:=trodVars_none hV
 have hwd0:Wd prog 29 d0:=fun n hn=>by
  have:=fS.1 hwt n (qg (j:=0) (t:=29) (d:=d0) rfl rfl n hn)
  simpa using this
 obtain⟨cs0,rfl,hcs0⟩:∃cs,v0=.agg cs/\True:=by
  have:Value.okWide prog W .any base 29 v0:=hval 0 _ v0 rfl rfl;unfold Value.okWide at this;rw[underlying29]at this;obtain⟨cs,rfl,_⟩:=this;exact⟨cs,rfl,trivial⟩
 obtain⟨n0,h0⟩:=h0;obtain⟨c0,hc0,hr0⟩:=UX h0 hwd0
 have hwd1:Wd prog 147 d1:=fun n hn=>by
  have:=fS.1 hwt n (qg (j:=1) (t:=147) (d:=d1) rfl rfl n hn)
  simpa using this
 obtain⟨cs1,rfl,hcs1⟩:∃cs,v1=.agg cs/\True:=by
  have:Value.okWide prog W .any base 147 v1:=hval 1 _ v1 rfl rfl;unfold Value.okWide at this;rw[underlying147]at this;obtain⟨cs,rfl,_⟩:=this;exact⟨cs,rfl,trivial⟩
 obtain⟨n1,h1⟩:=h1;obtain⟨c1,hc1,hr1⟩:=XN h1;obtain⟨z2,rfl,rfl,rfl,f2⟩:=open_int underlying5 (hval 2 _ v2 rfl rfl) h2;have b2:=bounds_u8 f2;obtain⟨z3,rfl,rfl,rfl,f3⟩:=open_int underlying3 (hval 3 _ v3 rfl rfl) h3;have b3:=xI f3;have hd:=LN c0 hc0 c1.1 c1.2 hc1.1 hc1.2 z2.toNat z3;have hk2:((z2.toNat:Nat):Int)=z2:=O
 rw[hk2]at hd;refine(hd.2 noM W [.agg cs0,.agg cs1,.int .u8 z2,.int .i64 z3] ⟨fun _ h=>h.elim,Lc Zl hL⟩ ⟨⟨cs0.toList,rfl,hr0⟩,⟨cs1.toList,rfl,hr1⟩,⟨rfl,rfl⟩,⟨rfl,rfl⟩,trivial⟩).mono fun e W' hh=>?_;obtain⟨hb,vs,rfl,hvs⟩:=hh;obtain⟨v,e1,hv⟩:=VR hvs;rw[e1,hv.1];exact⟨_,rfl,QU aa0 (by rw[params12];decide +kernel) rfl hW' rfl rfl rfl hb (by rfl) underlying4⟩
end
end Go.Sy
