/- Part. -/
import Derived.Test.YtacgmapjhpghkaaGreatDoorOp
import Derived.Test.YtacgmapjhpghkaaGreatDoorXk
import Derived.Test.YtacgmapjhpghkaaGreatDoorKf
set_option linter.all false
namespace Go.Sy
open Go Go.Proofs Go.RowKit Go.ChangeShapes Go.WideShapes Tryz
def cF0:ownKnob prog.godebug=none:=aS
def aS3:laidOutB prog=true:=aS
def cg0:Array Value:=(([0,1,28,2,29,14,24,3,30,22,20,15,25,17,4,8,31,27,13,23,21,19,16,7,26,12,18,6,11,5,10,9]:List Int).map fun z=>Value.int .u8 z).toArray
def cw0:Array Value:=(([0,1,56,2,57,49,28,3,61,58,42,50,38,29,17,4,62,47,59,36,45,43,51,22,53,39,33,30,24,18,12,5,63,55,48,27,60,41,37,16,46,35,44,21,52,32,23,11,54,26,40,15,34,20,31,10,25,14,19,9,13,8,7,6]:List Int).map fun z=>Value.int .u8 z).toArray
def yb(v:iS):Obj->Obj
 | .cells _ t frozen=>.cells v t frozen
 | o=>o
noncomputable def yS(os:Os):World:=
 { World.holding prog os ⟨#[],#[],[]⟩with heap:=(((World.holding prog os ⟨#[],#[],[]⟩).heap.modify 0 (yb Gc)).modify 2 (yb cg0)).modify 3 (yb cw0) }
def aW1(os:Os)(args:iS):laidMet prog YtacgmapjhpghkaaGreatDoor.Rows.splineNaturalsRow.laid ((yS os).forCall (fun _ _=>0) ⟨#[],args,[]⟩).memory:=
 laidMet_of_run' 8 aS aS
section
open YtacgmapjhpghkaaGreatDoor
def aO2:Rows.splineNaturalsRow.laid.filter (fun x=>x.1 == "internal/strconv.uint64pow10")=[("internal/strconv.uint64pow10",Lib.tabData .u64 Lib.pow10Tab)]:=aS
set_option maxRecDepth 100000 in
def AF(H:Type)(enc:TypeId×Value->H)(W:World)(base:Nat)(args:iS)(ds gs:List (DataW H))(before:List MemPlace)
  (hval:∀(j:Nat)t v,f6.params[j]?=some t->args[j]?=some v->Value.okWide prog W .any base t v)
  (hW:DataW.Whole enc prog f6.params.toList Rows.splineNaturalsSpec.vars false W args.toList ds gs before)
  (hwt:(DataW.weightsEach prog (f6.params.toList++[]) (ds++gs)).all (· <= reachBytes)=true) (hL:laidMetH prog Rows.splineNaturalsRow.laid W) :
  Calls prog 6 args W fun e W'=>∃v,e=.returned v/\Rows.splineNaturalsSpec.post enc prog f6 false true false false W args v W':=by
 have hW':=hW;obtain⟨p,q,hA0,hV,rfl,hfz,hnd⟩:=hW;have hA:DataW.TrodAll enc prog W 0 (fun _=>true) true f6.params.toList args.toList ds p:=hA0;rw[params6]at hA hval hwt;obtain⟨v0,vs0,d0,ds0,p0,q0,hargs,rfl,rfl,h0,r0⟩:=trodAll_cons hA;obtain⟨v1,vs1,d1,ds1,p1,q1,rfl,rfl,rfl,h1,r1⟩:=trodAll_cons r0;obtain⟨v2,vs2,d2,ds2,p2,q2,rfl,rfl,rfl,h2,r2⟩:=trodAll_cons r1;obtain⟨v3,vs3,d3,ds3,p3,q3,rfl,rfl,rfl,h3,r3⟩:=trodAll_cons r2;obtain⟨rfl,rfl,rfl⟩:=trodAll_nil r3;obtain rfl:args=#[v0,v1,v2,v3]:=by cases args;simp_all
 obtain⟨rfl,rfl⟩:=trodVars_none hV
 have hwd0:Wd prog 22 d0:=fun n hn=>by
  have:=fS.1 hwt n (sK (j:=0) (t:=22) (d:=d0) rfl rfl n hn)
  simpa using this
 obtain⟨n0,h0⟩:=h0;obtain⟨l0,w0,e0,hl0,hm0,hr0⟩:=Ou h0 hwd0
 obtain rfl:v0=w0:=by
  have hv:Value.okWide prog W .any base 22 v0:=hval 0 _ v0 rfl rfl;unfold Value.okWide at hv;rw[underlying22]at hv;unfold Cell.okWide Cell.ok at hv;rw[underlying22]at hv;cases v0<;>simp_all[Value.cells]
 have hwd1:Wd prog 22 d1:=fun n hn=>by
  have:=fS.1 hwt n (sK (j:=1) (t:=22) (d:=d1) rfl rfl n hn)
  simpa using this
 obtain⟨n1,h1⟩:=h1;obtain⟨l1,w1,e1,hl1,hm1,hr1⟩:=Ou h1 hwd1
 obtain rfl:v1=w1:=by
  have hv:Value.okWide prog W .any base 22 v1:=hval 1 _ v1 rfl rfl;unfold Value.okWide at hv;rw[underlying22]at hv;unfold Cell.okWide Cell.ok at hv;rw[underlying22]at hv;cases v1<;>simp_all[Value.cells]
 obtain⟨cs2,rfl,hcs2⟩:∃cs,v2=.agg cs/\True:=by
  have:Value.okWide prog W .any base 27 v2:=hval 2 _ v2 rfl rfl;unfold Value.okWide at this;rw[underlying27]at this;obtain⟨cs,rfl,_⟩:=this;exact⟨cs,rfl,trivial⟩
 obtain⟨n2,h2⟩:=h2;obtain⟨u2,hu2,hr2⟩:=Pp h2
 obtain⟨cs3,rfl,hcs3⟩:∃cs,v3=.agg cs/\True:=by
  have:Value.okWide prog W .any base 27 v3:=hval 3 _ v3 rfl rfl;unfold Value.okWide at this;rw[underlying27]at this;obtain⟨cs,rfl,_⟩:=this;exact⟨cs,rfl,trivial⟩
 obtain⟨n3,h3⟩:=h3;obtain⟨u3,hu3,hr3⟩:=Pp h3;have hd:=wW l0 l1 u2 u3 hl0 hl1 hu2 hu3 (fM hm0 bY) (fM hm1 bY);refine(hd.2 noM W [v0,v1,.agg cs2,.agg cs3] ⟨fun _ h=>h.elim,SP aO2 hL⟩ ⟨hr0,hr1,⟨cs2.toList,rfl,hr2⟩,⟨cs3.toList,rfl,hr3⟩,trivial⟩).mono fun e W' hh=>?_;obtain⟨hb,vs,rfl,hvs⟩:=hh;obtain⟨v,e1,hv⟩:=Bf hvs;rw[e1,hv.1];exact⟨_,rfl,aa5 aS3 (by rw[params6];decide +kernel) rfl hW' rfl rfl rfl hb (by rfl) underlying4⟩
end
end Go.Sy
