/- Part. -/
import Derived.Test.YtacgmapjhpghkaaGreatDoorOp
import Derived.Test.YtacgmapjhpghkaaGreatDoorYe
import Derived.Test.YtacgmapjhpghkaaGreatDoorKf
set_option linter.all false
namespace Go.Sy
open Go Go.Proofs Go.RowKit Go.ChangeShapes Go.WideShapes Tryz
theorem co7:ownKnob prog.godebug=none:=by kernel_rfl
theorem aE9:laidOutB prog=true:=by kernel_rfl
def bR4:Array Value:=(([0,1,28,2,29,14,24,3,30,22,20,15,25,17,4,8,31,27,13,23,21,19,16,7,26,12,18,6,11,5,10,9]:List Int).map fun z=>Value.int .u8 z).toArray
def cg8:Array Value:=(([0,1,56,2,57,49,28,3,61,58,42,50,38,29,17,4,62,47,59,36,45,43,51,22,53,39,33,30,24,18,12,5,63,55,48,27,60,41,37,16,46,35,44,21,52,32,23,11,54,26,40,15,34,20,31,10,25,14,19,9,13,8,7,6]:List Int).map fun z=>Value.int .u8 z).toArray
def xB(v:Array Value):Obj->Obj
 | .cells _ t frozen=>.cells v t frozen
 | o=>o
noncomputable def wm(os:Os):World:=
 { World.holding prog os ⟨#[],#[],[]⟩with heap:=(((World.holding prog os ⟨#[],#[],[]⟩).heap.modify 0 (xB DI)).modify 2 (xB bR4)).modify 3 (xB cg8) }
theorem aI1(os:Os)(args:Array Value):laidMet prog YtacgmapjhpghkaaGreatDoor.Rows.splineBasesRow.laid ((wm os).forCall (fun _ _=>0) ⟨#[],args,[]⟩).memory:=
 laidMet_of_run' 8 (by kernel_rfl) (by kernel_rfl)
section
open YtacgmapjhpghkaaGreatDoor
theorem aA5:Rows.splineBasesRow.laid.filter (fun x=>x.1 == "internal/strconv.uint64pow10")=[("internal/strconv.uint64pow10",Lib.tabData .u64 Lib.pow10Tab)]:=by kernel_rfl
set_option maxRecDepth 100000 in
theorem yZ(H:Type)(enc:TypeId×Value->H)(W:World)(base:Nat)(args:Array Value)(ds gs:List (DataW H))(before:List MemPlace)
  (hval:∀(j:Nat)t v,f4.params[j]?=some t->args[j]?=some v->Value.okWide prog W .any base t v)
  (hW:DataW.Whole enc prog f4.params.toList Rows.splineBasesSpec.vars false W args.toList ds gs before)
  (hwt:(DataW.weightsEach prog (f4.params.toList++[]) (ds++gs)).all (· <= reachBytes)=true) (hL:laidMetH prog Rows.splineBasesRow.laid W) :
  Calls prog 4 args W fun e W'=>∃v,e=.returned v/\Rows.splineBasesSpec.post enc prog f4 false true false false W args v W':=by
 have hW':=hW;obtain⟨p,q,hA0,hV,rfl,hfz,hnd⟩:=hW;have hA:DataW.TrodAll enc prog W 0 (fun _=>true) true f4.params.toList args.toList ds p:=hA0;rw[params4]at hA hval hwt;obtain⟨v0,vs0,d0,ds0,p0,q0,hargs,rfl,rfl,h0,r0⟩:=trodAll_cons hA;obtain⟨v1,vs1,d1,ds1,p1,q1,rfl,rfl,rfl,h1,r1⟩:=trodAll_cons r0;obtain⟨v2,vs2,d2,ds2,p2,q2,rfl,rfl,rfl,h2,r2⟩:=trodAll_cons r1;obtain⟨v3,vs3,d3,ds3,p3,q3,rfl,rfl,rfl,h3,r3⟩:=trodAll_cons r2;obtain⟨v4,vs4,d4,ds4,p4,q4,rfl,rfl,rfl,h4,r4⟩:=trodAll_cons r3;obtain⟨rfl,rfl,rfl⟩:=trodAll_nil r4;obtain rfl:args=#[v0,v1,v2,v3,v4]:=by cases args;simp_all
 obtain⟨rfl,rfl⟩:=trodVars_none hV
 have hwd0:Wd prog 22 d0:=fun n hn=>by
  have:=er.1 hwt n (qP (j:=0) (t:=22) (d:=d0) rfl rfl n hn)
  simpa using this
 obtain⟨n0,h0⟩:=h0;obtain⟨l0,w0,e0,hl0,hm0,hr0⟩:=Ld h0 hwd0
 obtain rfl:v0=w0:=by
  have hv:Value.okWide prog W .any base 22 v0:=hval 0 _ v0 rfl rfl;unfold Value.okWide at hv;rw[underlying22]at hv;unfold Cell.okWide Cell.ok at hv;rw[underlying22]at hv;cases v0<;>simp_all[Value.cells]
 obtain⟨z1,rfl,rfl,rfl,f1⟩:=open_int underlying3 (hval 1 _ v1 rfl rfl) h1;have b1:=bounds_i64 f1;obtain⟨z2,rfl,rfl,rfl,f2⟩:=open_int underlying3 (hval 2 _ v2 rfl rfl) h2;have b2:=bounds_i64 f2
 have hwd3:Wd prog 22 d3:=fun n hn=>by
  have:=er.1 hwt n (qP (j:=3) (t:=22) (d:=d3) rfl rfl n hn)
  simpa using this
 obtain⟨n3,h3⟩:=h3;obtain⟨l3,w3,e3,hl3,hm3,hr3⟩:=Ld h3 hwd3
 obtain rfl:v3=w3:=by
  have hv:Value.okWide prog W .any base 22 v3:=hval 3 _ v3 rfl rfl;unfold Value.okWide at hv;rw[underlying22]at hv;unfold Cell.okWide Cell.ok at hv;rw[underlying22]at hv;cases v3<;>simp_all[Value.cells]
 obtain⟨cs4,rfl,hcs4⟩:∃cs,v4=.agg cs/\True:=by
  have:Value.okWide prog W .any base 27 v4:=hval 4 _ v4 rfl rfl;unfold Value.okWide at this;rw[underlying27]at this;obtain⟨cs,rfl,_⟩:=this;exact⟨cs,rfl,trivial⟩
 obtain⟨n4,h4⟩:=h4;obtain⟨u4,hu4,hr4⟩:=an8 h4;have hd:=Eg l0 z1 z2 l3 u4 hl0 hl3 hu4 (eh hm0 (by decide)) (eh hm3 (by decide)) ⟨b1.1,by omega⟩ ⟨b2.1,by omega⟩;refine(hd.2 noM W [v0,.int .i64 z1,.int .i64 z2,v3,.agg cs4] ⟨fun _ h=>h.elim,PX aA5 hL⟩ ⟨hr0,⟨rfl,rfl⟩,⟨rfl,rfl⟩,hr3,⟨cs4.toList,rfl,hr4⟩,trivial⟩).mono fun e W' hh=>?_;obtain⟨hb,vs,rfl,hvs⟩:=hh;obtain⟨v,e1,hv⟩:=XX hvs;rw[e1,hv.1];exact⟨_,rfl,XE aE9 (by rw[params4];decide +kernel) rfl hW' rfl rfl rfl hb (by rfl) underlying4⟩
end
end Go.Sy
