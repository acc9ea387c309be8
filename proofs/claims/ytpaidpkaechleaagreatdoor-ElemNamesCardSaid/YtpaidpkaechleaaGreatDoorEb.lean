/- Part. -/
import Derived.Test.YtpaidpkaechleaaGreatDoorEa
import Derived.Test.YtpaidpkaechleaaGreatDoorSe
set_option linter.all false
namespace Go.Sy
open Go Go.RowKit
variable {F:Fence} {n m:Nat} {P:Program}
abbrev dY (fn:FuncId) (tmps:Array Value) (ps:Array Tmp) (assign body:Code) (D:Nat) (st:LoopState) (pe:Option Code):Loop:={ state:=st,pending:=pe,fn,tmps,params:=ps,assign,body,defers:=D }
def ak5 (P:Program) (l:Nat) (r:LoopState→Option Code→Loop) (R:Bool→Option Code→World→Prop):Exit→Act→World→Prop
 | .normal,_,W=>W.heap[l]? = some (.loop (r .busy none))∧R true none (W.putObj l (.loop (r .ready none)))
 | .ret,_,W=>W.heap[l]? = some (.loop (r .busy none))∧R false (some .ret) (W.putObj l (.loop (r .done (some .ret))))
 | .exit id,_,W=>W.heap[l]? = some (.loop (r .busy none))∧R false (some (.exit id)) (W.putObj l (.loop (r .done (some (.exit id)))))
 | _,_,_=>False
theorem yM {fn:FuncId} {tmps:Array Value} {ps:Array Tmp} {assign body:Code} {D l:Nat} {args:Array Value} {W:World} {R:Bool→Option Code→World→Prop}
  (hl:W.heap[l]? = some (.loop (dY fn tmps ps assign body D .ready none))) (hps:args.size=ps.size) (hF:F.fn fn)
  (h:assign.wpIn (F.inRound l) m P (Exit.then (fun a1 W1=>W1.heap[l]? = some (.loop (dY fn tmps ps assign body D .ready none)) ∧
    body.wpIn (F.inRound l) m P (ak5 P l (dY fn tmps ps assign body D) R) a1 (W1.putObj l (.loop (dY fn tmps ps assign body D .busy none)))) (fun _ _ _=>False))
   { tmps:=(ps.zip args).foldl (fun t (p,v)=>t.setIfInBounds p v) tmps,defers:=[] } W) :
  YieldAt F m P l args W fun e W'=>∃ b c,e = .returned (.bool b)∧R b c W':=by
 have hy:=run_yield (P:=P) (args:=args) hl hps;refine ⟨fn,_,assign,body,hy,roundIn_of_wpIn hF (wpIn_mono h ?_)⟩;rintro e a1 W1 hp;cases e with
 | normal=>
   obtain ⟨hl1,hb⟩:=hp;refine ⟨_,run_beginRound hl1 rfl,wpIn_mono hb ?_⟩;rintro e a3 W3 hp;cases e with
   | normal=>
     obtain ⟨hl3,hR⟩:=hp;exact ⟨_,_,run_endRound (P:=P) none hl3,true,none,rfl,hR⟩
   | ret=>
     obtain ⟨hl3,hR⟩:=hp;exact ⟨_,_,run_endRound (P:=P) (some .ret) hl3,false,_,rfl,hR⟩
   | exit id=>
     obtain ⟨hl3,hR⟩:=hp;exact ⟨_,_,run_endRound (P:=P) (some (.exit id)) hl3,false,_,rfl,hR⟩
   | goto t=>exact hp.elim
   | panic ch=>exact hp.elim
   | outgrown=>exact hp.elim
 | ret=>exact hp.elim
 | exit id=>exact hp.elim
 | goto t=>exact hp.elim
 | panic ch=>exact hp.elim
 | outgrown=>exact hp.elim
theorem Bw {g:Operand} {ps:Array Tmp} {assign body:Code} {Q:Exit→Act→World→Prop} {a:Act} {w:World}
  (hro:F.round=none) (h1:1≤n) {gf:Nat} {lb:Array Value} (hg:a.eval g = .func (.func gf) #[] lb) (hFg:F.fn gf) (eg:∀ args w,(callFunc gf args).run P w = .ok (.enter gf args) w)
  (h:∀ (fn:FuncId) (D l:Nat) (W1:World),F.fn fn→D=w.heap.size→l=w.heap.size+1→W1.heap.size=w.heap.size+2→Below w.heap.size w W1→W1.heap[D]? = some (.deferred (some [])) →
   W1.heap[l]? = some (.loop (dY fn a.tmps ps assign body D .ready none)) →
   CallsIn F (n-1) P gf (#[.func (.yield l) #[] #[]]++lb) W1 fun e W2=>(∃ v,e = .returned v) ∧
    ((W2.heap[l]? = some (.loop (dY fn a.tmps ps assign body D .ready none))∧Q .normal { a with defers:={ target:=.collected D,args:=#[] } :: a.defers } (W2.putObj l (.loop (dY fn a.tmps ps assign body D .exhausted none)))) ∨
    (∃ c,W2.heap[l]? = some (.loop (dY fn a.tmps ps assign body D .done (some c)))∧c.wpIn F n P Q { a with defers:={ target:=.collected D,args:=#[] } :: a.defers } (W2.putObj l (.loop (dY fn a.tmps ps assign body D .exhausted (some c))))))) :
  (Code.rangeFunc g ps assign body).wpIn F n P Q a w:=by
 refine wpIn_rangeFunc ?_;intro fn hfn;rw [hro];obtain ⟨W1,hW1⟩:∃ W1,(w.alloc (.deferred (some []))).alloc (.loop (dY fn a.tmps ps assign body w.heap.size .ready none))=W1:=⟨_,rfl⟩
 have hL1:W1.heap[w.heap.size+1]? = some (.loop (dY fn a.tmps ps assign body w.heap.size .ready none)):=by
  rw [←hW1];have:=World.alloc_heap_new (w.alloc (.deferred (some []))) (.loop (dY fn a.tmps ps assign body w.heap.size .ready none));rwa [World.size_alloc] at this
 have hK1:W1.heap[w.heap.size]? = some (.deferred (some [])):=by
  rw [←hW1];exact (Below.heap_alloc _ _ _ (by simp)).trans (World.alloc_heap_new w _)
 have hb1:Below w.heap.size w W1:=by
  rw [←hW1];exact ((Below.refl _ w).alloc (cD _) _).alloc (by simp) _
 have hs1:W1.heap.size=w.heap.size+2:=by rw [←hW1];simp
 refine ⟨w.heap.size+1,[{ target:=.collected w.heap.size,args:=#[] }],W1,{ target:=.fn (.func gf) lb,args:=#[.func (.yield (w.heap.size+1)) #[] #[]] },W1,gf,
  #[.func (.yield (w.heap.size+1)) #[] #[]]++lb,W1,?_,?_,?_,?_,fun _=>h1,?_⟩
 ·rw [←hW1];exact run_enterLoop_outer _ _ _ _ _
 ·simp only [resolve,hg];simp [go_sem]
 ·intro f' hf';simp [Target.leads] at hf';subst hf';exact hFg
 ·simp [invoke,go_sem,eg]
 ·refine (h fn _ _ W1 hfn rfl rfl hs1 hb1 hK1 hL1).mono ?_;rintro e W2 ⟨⟨v,rfl⟩,(⟨hl,hq⟩ | ⟨c,hl,hq⟩)⟩
  ·exact ⟨none,_,by have:=run_endLoop (P:=P) hl (by simp);exact this,hq⟩
  ·exact ⟨some c,_,by have:=run_endLoop (P:=P) hl (by simp);exact this,hq⟩
open Go Go.Proofs Go.RowKit Tryz Ord
structure RJ (w:World) (o D l:Nat) (lo:Obj) (W:World):Prop where
 os:W.os=w.os
 tape:W.tape=w.tape
 output:W.output=w.output
 size:D<W.heap.size∧l<W.heap.size
 block:∀ j,j<w.heap.size→j≠o→W.heap[j]? = w.heap[j]?
 hD:W.heap[D]? = some (.deferred (some []))
 hl:W.heap[l]? = some lo
theorem RJ.below {w W W':World} {o D l:Nat} {lo:Obj} (I:RJ w o D l lo W) (hw:w.heap.size≤W.heap.size) (hb:Below W.heap.size W W'):RJ w o D l lo W':=
 ⟨hb.os.trans I.os,hb.tape.trans I.tape,hb.output.trans I.output,⟨Nat.lt_of_lt_of_le I.size.1 hb.size,Nat.lt_of_lt_of_le I.size.2 hb.size⟩,fun j hj hne=>(hb.block _ (by omega)).trans (I.block j hj hne),(hb.block _ I.size.1).trans I.hD,(hb.block _ I.size.2).trans I.hl⟩
theorem RJ.cE {M:Nat→Prop} {w W:World} {o D l:Nat} {lo:Obj} (I:RJ w o D l lo W) (ho:M o):aR M w M W:=fun b x hb hx _=>⟨hb,(I.block b (dS.1 hx).1 fun e=>hb (e▸ho)).trans hx⟩
theorem RJ.gG {M:Nat→Prop} {w W:World} {o D l:Nat} {lo:Obj} (I:RJ w o D l lo W) (ho:M o) (hM:Fine M w) (hw:w.heap.size≤W.heap.size):Fine M W:=⟨fun b hb=>Nat.lt_of_lt_of_le (hM.1 b hb) hw,hM.2.cE (I.cE ho)⟩
def nY (W:World) (u0 u1 u2 u3 u4 u5:Value):World:=(W.alloc (.cells #[.slice none 0 0, .bool false, .slice none 0 0, .slice none 0 0, .bool false, .slice none 0 0] 39)).setRow W.heap.size #[u0,u1,u2,u3,u4,u5]
section
variable (M:Nat→Prop) (g:FuncId) (caps:List aL) (V:Nat→Rat×Rat) (R:Nat) (hR:R≤4) (hV:∀ i,i≤R→aD prog g ([gF (aP (32*2^i)) (bZ (32*2^i))]++caps.map .one) (.ret [dK (V i)]))
include hR hV
theorem iJ {tm:Array Value} {df:List Deferred} {w:World} {vp:Value} {o T p d id:Nat} {gop:Operand} {assign body:Code} {cur0:Array Value} {cs:Nat→List aL} {Q:Exit→Act→World→Prop}
  (hM:Fine M w) (hvp:(aL.bI [.dZ g caps]).rep M w vp) (hg:({ tmps:=tm,defers:=df }:Act).eval gop = .func (.func 105) #[] #[vp]) (hMo:M o) (ho:w.heap[o]? = some (.cells cur0 T (0,0))) (hc0:aM M w (cs 0) cur0.toList)
  (hass:∀ (l:Nat) (u0 u1 u2 u3 u4 u5:Value) (W:World) (K:Act→World→Prop),(∀ u ∈ [u0,u1,u2,u3,u4,u5],u.oneCell'=true)→K ⟨(tm.setIfInBounds p (.agg #[u0,u1,u2,u3,u4,u5])).setIfInBounds d (.pointer (some ⟨W.heap.size,0,none⟩)),[]⟩ (nY W u0 u1 u2 u3 u4 u5) →
   assign.wpIn (Fence.wide.inRound l) 999 prog (Exit.then K (fun _ _ _=>False)) ⟨tm.setIfInBounds p (.agg #[u0,u1,u2,u3,u4,u5]),[]⟩ W)
  (hbody:∀ i,i≤R→∀ (l:Nat) (W:World) (cur:Array Value) (b:Nat) (x:Value) (Q:Exit→Act→World→Prop),¬ LetsOut Q→Fine M W→aR M w M W→W.heap[o]? = some (.cells cur T (0,0))→aM M W (cs i) cur.toList→(aL.bI (eB (V i).1 (V i).2)).rep M W (.pointer (some ⟨b,0,none⟩)) →
   (∀ a' W' cur',W.grownBy W' (some o)→W'.heap[o]? = some (.cells cur' T (0,0))→aM M W' (cs (i+1)) cur'.toList→Q (if i<R then .normal else .exit id) a' W') →
   body.wpIn (Fence.wide.inRound l) 999 prog Q ⟨(tm.setIfInBounds p x).setIfInBounds d (.pointer (some ⟨b,0,none⟩)),[]⟩ W)
  (hQ:∀ W cur,W.os=w.os→W.tape=w.tape→W.output=w.output→w.heap.size+2≤W.heap.size→(∀ j,j<w.heap.size→j≠o→W.heap[j]? = w.heap[j]?)→W.heap[w.heap.size]? = some (.deferred (some []))→W.heap[o]? = some (.cells cur T (0,0))→aM M W (cs (R+1)) cur.toList →
   Q (.exit id) { tmps:=tm,defers:={ target:=.collected w.heap.size,args:=#[] } :: df } W) :
  (Code.rangeFunc gop #[p] assign body).wpIn Fence.wide 1001 prog Q { tmps:=tm,defers:=df } w:=by
 have holt:o<w.heap.size:=(dS.1 ho).1;refine Bw rfl (by omega) (gf:=105) (lb:=#[vp]) hg trivial (enters_of func105 (by kernel_rfl) rfl) ?_;intro fn D l W1 hfn hD hl hsz1 hb1 hK1 hL1;subst hD hl;have e0:∀ lo,W1.heap[w.heap.size+1]? = some lo→RJ w o w.heap.size (w.heap.size+1) lo W1:=fun lo h=>⟨hb1.os,hb1.tape,hb1.output,by omega,fun j hj _=>hb1.block j hj,hK1,h⟩
 refine (Mn M g caps V R hR hV (w.heap.size+1) vp
  (fun i W=>w.heap.size≤W.heap.size∧RJ w o w.heap.size (w.heap.size+1) (.loop (dY fn tm #[p] assign body w.heap.size .ready none)) W∧∃ cur,W.heap[o]? = some (.cells cur T (0,0))∧aM M W (cs i) cur.toList)
  (fun W=>RJ w o w.heap.size (w.heap.size+1) (.loop (dY fn tm #[p] assign body w.heap.size .done (some (.exit id)))) W∧∃ cur,W.heap[o]? = some (.cells cur T (0,0))∧aM M W (cs (R+1)) cur.toList)
  ?hJb ?hJf ?hY W1 ⟨by omega,e0 _ hL1,cur0,(hb1.block o holt).trans ho,hc0.mono (aR.below hb1)⟩).mono ?_
 case hJb=>
  rintro i W W' ⟨hw,I,cur,hcu,hcr⟩ hb;exact ⟨Nat.le_trans hw hb.size,I.below hw hb,cur,(hb.block o (by omega)).trans hcu,hcr.mono (aR.below hb)⟩
 case hJf=>
  rintro i W ⟨hw,I,_⟩;exact ⟨I.gG hMo hM hw,aL.mono _ (I.cE hMo) hvp⟩
 case hY=>
  rintro i W u0 u1 u2 u3 u4 u5 hi ⟨hw,I,cur,hcu,hcr⟩ hu;have hone:=hu.one
  obtain ⟨fnr,tmr,asr,bdr,hy,hRd⟩:=yM (F:=Fence.wide) (m:=999) (P:=prog) (args:=#[.agg #[u0,u1,u2,u3,u4,u5]]) (R:=fun b c W'=>(i<R∧b=true∧RJ w o w.heap.size (w.heap.size+1) (.loop (dY fn tm #[p] assign body w.heap.size .ready none)) W'∧w.heap.size≤W'.heap.size∧∃ cur,W'.heap[o]? = some (.cells cur T (0,0))∧aM M W' (cs (i+1)) cur.toList) ∨
   (i=R∧b=false∧RJ w o w.heap.size (w.heap.size+1) (.loop (dY fn tm #[p] assign body w.heap.size .done (some (.exit id)))) W'∧∃ cur,W'.heap[o]? = some (.cells cur T (0,0))∧aM M W' (cs (R+1)) cur.toList)) I.hl rfl trivial (by
    rw [show (#[p].zip #[Value.agg #[u0,u1,u2,u3,u4,u5]]).foldl (fun t (p,v)=>t.setIfInBounds p v) tm=tm.setIfInBounds p (.agg #[u0,u1,u2,u3,u4,u5]) by simp];refine hass _ u0 u1 u2 u3 u4 u5 W _ hone ?_;have hnew:=heap_alloc_new W (.cells #[.slice none 0 0, .bool false, .slice none 0 0, .slice none 0 0, .bool false, .slice none 0 0] 39);have hself:(nY W u0 u1 u2 u3 u4 u5).heap[W.heap.size]? = some (.cells #[u0,u1,u2,u3,u4,u5] 39 (0,0)):=setRow_heap _ _ _ _ _ _ hnew;have hbel:Below W.heap.size W (nY W u0 u1 u2 u3 u4 u5):=below_setRow ((Below.refl _ W).alloc (cD _) _) _ (cD _);have hs2:(nY W u0 u1 u2 u3 u4 u5).heap.size=W.heap.size+1:=by simp [nY,World.setRow]
    generalize nY W u0 u1 u2 u3 u4 u5=W2 at *;have I2:=I.below hw hbel;refine ⟨I2.hl,?_⟩;generalize hW3:W2.putObj (w.heap.size+1) _=W3;have hl2:w.heap.size+1<W2.heap.size:=I2.size.2;have hl3:W3.heap[w.heap.size+1]? = some (.loop (dY fn tm #[p] assign body w.heap.size .busy none)):=by rw [←hW3];exact World.putObj_heap_same hl2
    have hput:∀ j,j≠w.heap.size+1→W3.heap[j]? = W2.heap[j]?:=fun j hj=>by rw [←hW3];exact World.putObj_heap_other hj
    have hs3:W3.heap.size=W.heap.size+1:=by rw [←hW3,←hs2];simp [World.putObj]
    have hos3:W3.os=W2.os∧W3.tape=W2.tape∧W3.output=W2.output:=by rw [←hW3];exact ⟨rfl,rfl,rfl⟩
    clear hW3;have I3:RJ w o w.heap.size (w.heap.size+1) (.loop (dY fn tm #[p] assign body w.heap.size .busy none)) W3:=⟨hos3.1.trans I2.os,hos3.2.1.trans I2.tape,hos3.2.2.trans I2.output,by have h:=I2.size;omega,fun j hj hne=>(hput j (by omega)).trans (I2.block j hj hne),(hput _ (by omega)).trans I2.hD,hl3⟩
    have hk23:aR M W2 M W3:=fun b x hb hx hxc=>⟨hb,(hput b fun e=>by rw [e,I2.hl] at hx;cases hx;cases hxc).trans hx⟩
    have hk03:aR M W M W3:=(aR.below hbel).trans hk23;refine hbody i hi _ W3 cur W.heap.size _ _ (fun h=>by obtain ⟨_,_,h⟩:=h;exact h) (I3.gG hMo hM (by omega)) (I3.cE hMo) ((hput o (by omega)).trans ((hbel.block o (by omega)).trans hcu)) (hcr.mono hk03) ?_ ?_
    ·exact ⟨W.heap.size,0,#[u0,u1,u2,u3,u4,u5],39,(0,0),rfl,fun hm=>Nat.lt_irrefl _ (Nat.lt_of_lt_of_le (hM.1 _ hm) hw),(hput W.heap.size (by have h:=I.size;omega)).trans hself,by simpa using hu.mono hk03⟩
    ·intro a' W4 cur' hg4 hc4 hr4;have h4:∀ j,j<W3.heap.size→j≠o→W4.heap[j]? = W3.heap[j]?:=fun j hj hne=>hg4.block j hj fun e=>hne (Option.some.inj e);have hl4:W4.heap[w.heap.size+1]? = some (.loop (dY fn tm #[p] assign body w.heap.size .busy none)):=(h4 _ (by omega) (by omega)).trans hl3;have hs4:W3.heap.size≤W4.heap.size:=hg4.size
     have fin:∀ lo,RJ w o w.heap.size (w.heap.size+1) lo (W4.putObj (w.heap.size+1) lo)∧(W4.putObj (w.heap.size+1) lo).heap[o]? = some (.cells cur' T (0,0))∧aM M (W4.putObj (w.heap.size+1) lo) (cs (i+1)) cur'.toList:=fun lo=>by
      have hp:∀ j,j≠w.heap.size+1→(W4.putObj (w.heap.size+1) lo).heap[j]? = W4.heap[j]?:=fun j hj=>World.putObj_heap_other hj;refine ⟨⟨hg4.os.trans I3.os,hg4.tape.trans I3.tape,hg4.output.trans I3.output,by simp only [World.putObj_size];have h:=I3.size;omega,fun j hj hne=>(hp j (by omega)).trans ((h4 j (by omega) hne).trans (I3.block j hj hne)),(hp _ (by omega)).trans ((h4 _ (by omega) (by omega)).trans I3.hD),World.putObj_heap_same (by omega)⟩,(hp o (by omega)).trans hc4,hr4.mono fun b x hb hx hxc=>⟨hb,(hp b fun e=>by rw [e,hl4] at hx;cases hx;cases hxc).trans hx⟩⟩
     by_cases hlt:i<R
     ·rw [if_pos hlt];exact ⟨hl4, .inl ⟨hlt,rfl,(fin _).1,by simp only [World.putObj_size];omega,cur',(fin _).2⟩⟩
     ·rw [if_neg hlt];obtain rfl:i=R:=by omega
      exact ⟨hl4, .inr ⟨rfl,rfl,(fin _).1,cur',(fin _).2⟩⟩)
  refine ⟨fnr,tmr,asr,bdr,hy,hRd.mono ?_⟩;rintro e W' ⟨b,c,rfl,(⟨h1,rfl,h2,h3,h4⟩ | ⟨h1,rfl,h2⟩)⟩
  ·exact .inl ⟨h1,rfl,h3,h2,h4⟩
  ·exact .inr ⟨h1,rfl,h2⟩
 ·rintro e W2 ⟨hv,I,cur,hcu,hcr⟩;refine ⟨hv, .inr ⟨.exit id,I.hl,wpIn_exit ?_⟩⟩;have hp:∀ j lo,j≠w.heap.size+1→(W2.putObj (w.heap.size+1) lo).heap[j]? = W2.heap[j]?:=fun j lo hj=>World.putObj_heap_other hj;refine hQ _ cur I.os I.tape I.output (by simp only [World.putObj_size];have:=I.size.2;omega) (fun j hj hne=>(hp j _ (by omega)).trans (I.block j hj hne)) ((hp _ _ (by omega)).trans I.hD) ((hp o _ (by omega)).trans hcu) (hcr.mono fun b x hb hx hxc=>⟨hb,(hp b _ fun e=>by rw [e,I.hl] at hx;cases hx;cases hxc).trans hx⟩)
end
open Go Go.Proofs Tryz Ord
def NX:Nat→Rat
 | 0=>((1:Int):Rat)
 | 1=>((1:Int):Rat)
 | n+2=>NX (n+1)*(((((n+1:Nat):Int)+1:Int)):Rat)
def af3:Nat→Rat
 | 0=>((1:Int):Rat)
 | j+1=>af3 j*(((1-2*(j:Int):Int):Rat)/((2*((j:Int)+1):Int):Rat))
def sgZ (i:Nat):Int:=1-2*((i:Int)/2%2)
def QB (kind i:Nat):RQ:=
 if kind=1 then .of (((1:Int):Rat)/NX i)
 else if kind=2 then (if i=0 then .nil else .of (((2*((i:Int)%2)-1:Int):Rat)/((i:Int):Rat)))
 else if kind=3 then (if i%2=1 then .of ((sgZ i:Rat)/NX i) else .nil)
 else if kind=4 then (if i%2=1 then .nil else .of ((sgZ i:Rat)/NX i))
 else if kind=5 then (if i%2=1 then .of ((sgZ i:Rat)/((i:Int):Rat)) else .nil)
 else .of (af3 i)
open Go Go.Proofs Tryz Ord
theorem mH {q:Rat} {H k:Nat} (h:Fit H q) (h1:1≤H:=by omega) (hk:k≤256:=by omega):Fit (H+257+257) (fK q k):=(gS (h.mul (kL hk))).mul (pF hk)
open Go Go.Proofs Go.RowKit Tryz Ord
attribute [local go_sem] Oper.semAt_some
theorem Io {q:Rat} {H k:Nat} (h:Fit H q) (h1:1≤H:=by omega) (hk:k≤256:=by omega):Fit (H+257+257) (EA q k):=by
 rw [←ab8];exact (mH h.neg h1 hk).neg
def rC (V:Nat→Rat×Rat) (k:Int) (i:Nat):Rat×Rat:=(fK (V i).1 k.toNat,EA (V i).2 k.toNat)
theorem VQ {α:Type} {c:List α} (h:c.length=6):∃ a0 a1 a2 a3 a4 a5,c = [a0,a1,a2,a3,a4,a5]:=by
 match c,h with
 | [a0,a1,a2,a3,a4,a5],_=>exact ⟨a0,a1,a2,a3,a4,a5,rfl⟩
def Js:Tr:=.fail 1033
def IV:Tr:=.retr [] 4
def IG:Tr:=.split (.u 9 0) Js IV
def IH:Tr:=.need (.prim [(W 8 0),(WK (0))] none) (.binOp .leq 3 (.tmp 16) (.const (I3 (0))) 3) 4 false IG
def JG:Tr:=.need (.call 68 [(.agg [(U 6 0),(U 6 1),(U 6 2)]),(.agg [(U 7 0),(U 7 1),(U 7 2)])] [none]) (.call ⟨.value (.func 68),#[(.tmp 13),(.tmp 15)],#[30,30]⟩) 3 true IH
def IA:Tr:=.need (.call 101 [(W 0 0)] [(some 3)]) (.call ⟨.value (.func 101),#[(.tmp 14)],#[3]⟩) 30 false JG
def JD:Tr:=.need (.call 104 [(.agg [(U 5 0),(U 5 1),(U 5 2),(U 5 3),(U 5 4),(U 5 5)])] [(some 3)]) (.call ⟨.value (.func 104),#[(.tmp 12)],#[39]⟩) 30 false IA
def JK:Tr:=.need (.ldrow 4 (.k (.int .i64 (0))) 0 6 true) (.load 39 (.tmp 5)) 39 false JD
def Hl:Tr:=.need (.strow 2 6 (.k (.int .i64 (0))) 0 [(.u 3 0),(.u 3 1),(.u 3 2),(.u 3 3),(.u 3 4),(.u 3 5)]) (.store 39 (.tmp 5) (.tmp 11)) 0 false JK
def HU:Tr:=.need (.call 103 [(.agg [(U 1 0),(U 1 1),(U 1 2),(U 1 3),(U 1 4),(U 1 5)]),(W 0 0)] [(some 6)]) (.call ⟨.value (.func 103),#[(.tmp 9),(.tmp 10)],#[39,3]⟩) 39 true Hl
theorem Me:cC prog 19 (fun _=>none) (bC [1,1,0,1,0,1] (bH f38)) [(3, .ref 1),(6, .ref 6)] 5 39 6 0 ([].map ResultVar.tmp)=HU:=by kernel_rfl
def Jt:Tr:=.retr [] 4
def HW:Tr:=.fail 1034
def Iw:Tr:=.split (.u 9 0) Jt HW
def Ij:Tr:=.need (.prim [(W 8 0),(WK (0))] none) (.binOp .leq 3 (.tmp 16) (.const (I3 (0))) 3) 4 false Iw
def Ht:Tr:=.need (.call 68 [(.agg [(U 6 0),(U 6 1),(U 6 2)]),(.agg [(U 7 0),(U 7 1),(U 7 2)])] [none]) (.call ⟨.value (.func 68),#[(.tmp 13),(.tmp 15)],#[30,30]⟩) 3 true Ij
def IE:Tr:=.need (.call 101 [(W 0 0)] [(some 3)]) (.call ⟨.value (.func 101),#[(.tmp 14)],#[3]⟩) 30 false Ht
def Hy:Tr:=.need (.call 104 [(.agg [(U 5 0),(U 5 1),(U 5 2),(U 5 3),(U 5 4),(U 5 5)])] [(some 3)]) (.call ⟨.value (.func 104),#[(.tmp 12)],#[39]⟩) 30 false IE
def Iy:Tr:=.need (.ldrow 4 (.k (.int .i64 (0))) 0 6 true) (.load 39 (.tmp 5)) 39 false Hy
def Ix:Tr:=.need (.strow 2 6 (.k (.int .i64 (0))) 0 [(.u 3 0),(.u 3 1),(.u 3 2),(.u 3 3),(.u 3 4),(.u 3 5)]) (.store 39 (.tmp 5) (.tmp 11)) 0 false Iy
def HG:Tr:=.need (.call 103 [(.agg [(U 1 0),(U 1 1),(U 1 2),(U 1 3),(U 1 4),(U 1 5)]),(W 0 0)] [(some 6)]) (.call ⟨.value (.func 103),#[(.tmp 9),(.tmp 10)],#[39,3]⟩) 39 true Ix
theorem LC:cC prog 19 (fun _=>none) (bC [1,1,0,1,0,1] (bH f38)) [(3, .ref 1),(6, .ref 6)] 5 39 6 1 ([].map ResultVar.tmp)=HG:=by kernel_rfl
theorem ad3 (k:Int) (p:Rat×Rat) (c:List aL) (hc:c.length=6) (hk:k≤256) (h1:Fit 4000 p.1) (h2:Fit 4000 p.2) (hgt:mkRat 1 (2^k.toNat)<EA p.2 k.toNat-fK p.1 k.toNat):vc prog (fun o=>o = .retr [] ([eB (fK p.1 k.toNat) (EA p.2 k.toNat)])) (cC prog 19 (fun _=>none) (bC [1,1,0,1,0,1] (bH f38)) [(3, .ref 1),(6, .ref 6)] 5 39 6 0 ([].map ResultVar.tmp)) ([.ref ([.int .i64 k]), .ref (eB p.1 p.2)].map In.env ++ [.rows ([c])]) []:=by
 rw [Me];dsimp only [List.map,In.env,aF,aG];obtain ⟨a0,a1,a2,a3,a4,a5,rfl⟩:=VQ hc;apply aA (Qk _ _ k 4000 hk h1 h2) rfl;refine kD (ts:=[[a0,a1,a2,a3,a4,a5]]) (us:=[eB (fK p.1 k.toNat) (EA p.2 k.toNat)]) rfl rfl (by omega) (cells:=[a0,a1,a2,a3,a4,a5]) rfl rfl ?_;refine Wg (ts:=[eB (fK p.1 k.toNat) (EA p.2 k.toNat)]) (ik:=.i64) (n:=0) (t:=gF (fK p.1 k.toNat) (EA p.2 k.toNat)) rfl rfl (by omega) rfl (.inl rfl) rfl ?_;dsimp only [aF,aG,Lp,List.drop,List.take];apply aA (nC _ _ 4514 4514 (mH h1) (Io h2)) rfl;apply aA (eS k hk) rfl;apply aA (bE _ _ 9100 257 (((Io h2).sub (mH h1)).mono (by omega)) (pF (by omega))) rfl;apply vn jF rfl;dsimp only [aF,aG];refine aQ false (by have:=oQ (a:=EA p.2 k.toNat-fK p.1 k.toNat) (b:=mkRat 1 (2^k.toNat));exact congrArg aL.bool (decide_eq_false fun h=>absurd (oQ.1 h) (by grind))) (fun h=>by cases h) (fun _=>?_);exact dB rfl rfl
theorem ac2 (k:Int) (p:Rat×Rat) (c:List aL) (hc:c.length=6) (hk:k≤256) (h1:Fit 4000 p.1) (h2:Fit 4000 p.2) (hle:EA p.2 k.toNat-fK p.1 k.toNat≤mkRat 1 (2^k.toNat)):vc prog (fun o=>o = .retr [] ([eB (fK p.1 k.toNat) (EA p.2 k.toNat)])) (cC prog 19 (fun _=>none) (bC [1,1,0,1,0,1] (bH f38)) [(3, .ref 1),(6, .ref 6)] 5 39 6 1 ([].map ResultVar.tmp)) ([.ref ([.int .i64 k]), .ref (eB p.1 p.2)].map In.env ++ [.rows ([c])]) []:=by
 rw [LC];dsimp only [List.map,In.env,aF,aG];obtain ⟨a0,a1,a2,a3,a4,a5,rfl⟩:=VQ hc;apply aA (Qk _ _ k 4000 hk h1 h2) rfl;refine kD (ts:=[[a0,a1,a2,a3,a4,a5]]) (us:=[eB (fK p.1 k.toNat) (EA p.2 k.toNat)]) rfl rfl (by omega) (cells:=[a0,a1,a2,a3,a4,a5]) rfl rfl ?_;refine Wg (ts:=[eB (fK p.1 k.toNat) (EA p.2 k.toNat)]) (ik:=.i64) (n:=0) (t:=gF (fK p.1 k.toNat) (EA p.2 k.toNat)) rfl rfl (by omega) rfl (.inl rfl) rfl ?_;dsimp only [aF,aG,Lp,List.drop,List.take];apply aA (nC _ _ 4514 4514 (mH h1) (Io h2)) rfl;apply aA (eS k hk) rfl;apply aA (bE _ _ 9100 257 (((Io h2).sub (mH h1)).mono (by omega)) (pF (by omega))) rfl;apply vn jF rfl;dsimp only [aF,aG];refine aQ true (congrArg aL.bool (decide_eq_true (oQ.2 hle))) (fun _=>?_) (fun h=>by cases h);exact dB rfl rfl
set_option maxRecDepth 100000 in
set_option maxHeartbeats 1000000 in
theorem kO (g:FuncId) (caps:List aL) (V:Nat→Rat×Rat) (R:Nat) (hR:R≤4) (hV:∀ i,i≤R→aD prog g ([gF (aP (32*2^i)) (bZ (32*2^i))]++caps.map .one) (.ret [dK (V i)]))
  (k:Int) (hk:k≤256) (hf:∀ i,i≤R→Fit 4000 (V i).1∧Fit 4000 (V i).2) (hgt:∀ i,i<R→mkRat 1 (2^k.toNat)<(rC V k i).2-(rC V k i).1) (hle:(rC V k R).2-(rC V k R).1≤mkRat 1 (2^k.toNat)) :
  aD prog 38 [.one (.dZ 105 [.bI [.dZ g caps]]), .one (.int .i64 k)] (.ret [dK (rC V k R)]):=by
 refine ⟨enters_of func38 (by kernel_rfl) rfl,fun M w vs hM hv=>?_⟩
 match vs,hv with
 | [],hv=>exact hv.elim
 | [_],hv=>exact hv.2.elim
 | _::_::_::_,hv=>exact hv.2.2.elim
 | [a0,a1],hv=>
 obtain ⟨⟨cv,rfl,hcv⟩,⟨rfl,_⟩,_⟩:=hv
 match cv,hcv with
 | [],hcv=>exact hcv.elim
 | _::_::_,hcv=>exact hcv.2.elim
 | [vp],hcv=>
 have hvp:(aL.bI [.dZ g caps]).rep M w vp:=hcv.1;refine (callsIn_wide (n:=1001)).1 ?_;refine callsIn_of_wp_marks func38 rfl trivial ?_ rfl;simp only [ntmps38,List.size_toArray,List.length_cons,List.length_nil,Nat.reduceAdd,Nat.reduceSub,Array.replicate_succ,Array.replicate_zero,List.push_toArray,List.append_toArray,List.nil_append,List.cons_append]
 gi_wp2
 obtain ⟨n0,hn0⟩:∃ n0,w.heap.size=n0:=⟨_,rfl⟩
 obtain ⟨W0,hW0⟩:∃ W0,(((w.alloc (.cells #[.int .i64 k] 3)).alloc (.cells #[.slice none 0 0, .bool false, .slice none 0 0, .slice none 0 0, .bool false, .slice none 0 0] 39)).alloc (.cells #[.slice none 0 0, .bool false, .slice none 0 0, .slice none 0 0, .bool false, .slice none 0 0] 39))=W0:=⟨_,rfl⟩
 have hs0:W0.heap.size=n0+3:=by rw [←hW0];simp [hn0]
 have hb0:Below n0 w W0:=by
  rw [←hW0];exact (((Below.refl _ w).alloc (by omega) _).alloc (by simp;omega) _).alloc (by simp;omega) _
 have hk0:W0.heap[n0]? = some (.cells #[.int .i64 k] 3 (0,0)):=by rw [←hW0,heap_alloc_old _ _ _ (by simp;omega),heap_alloc_old _ _ _ (by simp;omega),←hn0];exact heap_alloc_new w _
 have hr0:W0.heap[n0+1]? = some (.cells #[.slice none 0 0, .bool false, .slice none 0 0, .slice none 0 0, .bool false, .slice none 0 0] 39 (0,0)):=by
  rw [←hW0,heap_alloc_old _ _ _ (by simp;omega)];have:=heap_alloc_new (w.alloc (.cells #[.int .i64 k] 3)) (.cells #[.slice none 0 0, .bool false, .slice none 0 0, .slice none 0 0, .bool false, .slice none 0 0] 39);rw [World.size_alloc,hn0] at this;exact this
 have ho0:W0.heap[n0+2]? = some (.cells #[.slice none 0 0, .bool false, .slice none 0 0, .slice none 0 0, .bool false, .slice none 0 0] 39 (0,0)):=by
  rw [←hW0];have:=heap_alloc_new ((w.alloc (.cells #[.int .i64 k] 3)).alloc (.cells #[.slice none 0 0, .bool false, .slice none 0 0, .slice none 0 0, .bool false, .slice none 0 0] 39)) (.cells #[.slice none 0 0, .bool false, .slice none 0 0, .slice none 0 0, .bool false, .slice none 0 0] 39);rw [World.size_alloc,World.size_alloc,hn0] at this;exact this
 rw [hW0];have hlow:∀ b,M b→b<n0:=fun b hb=>by have:=hM.1 b hb;omega
 have hk1:aR M w (fun b=>M b∨b=n0+1∨b=n0+2) W0:=fun b o hb ho _=>by
  have hlt:=(dS.1 ho).1;exact ⟨fun h=>h.elim hb (by omega),(hb0.block b (by omega)).trans ho⟩
 have hM0:Fine (fun b=>M b∨b=n0+1∨b=n0+2) W0:=⟨fun b hb=>hb.elim (fun h=>by have:=hlow b h;omega) (by omega),hM.2.cE hk1⟩
 simp only [hn0];refine iJ (fun b=>M b∨b=n0+1∨b=n0+2) g caps V R hR hV (o:=n0+2) (T:=39) (p:=8) (d:=6) (id:=0) (cs:=fun i=>if i=0 then [.exact (.slice none 0 0), .exact (.bool false), .exact (.slice none 0 0), .exact (.slice none 0 0), .exact (.bool false), .exact (.slice none 0 0)] else eB (rC V k (i-1)).1 (rC V k (i-1)).2) hM0 (aL.mono _ hk1 hvp) rfl (.inr (.inr rfl)) ho0 ?_ ?_ ?_ ?_
 ·exact ⟨⟨rfl,rfl⟩,⟨rfl,rfl⟩,⟨rfl,rfl⟩,⟨rfl,rfl⟩,⟨rfl,rfl⟩,⟨rfl,rfl⟩,trivial⟩
 ·intro l u0 u1 u2 u3 u4 u5 W K hone hK
  gi_wp2
  rw [gK (heap_alloc_new W _) (hone _ (by simp)) (hone _ (by simp)) (hone _ (by simp)) (hone _ (by simp)) (hone _ (by simp)) (hone _ (by simp))]
  gi_wp2
  exact hK
 ·intro i hi l W cur b x Q hq hMW hkp hcu hcr hp hQ;have hkv:(aL.bI [.int .i64 k]).rep (fun b=>M b∨b=n0+1∨b=n0+2) W (.pointer (some ⟨n0,0,none⟩)):=⟨n0,0,#[.int .i64 k],3,(0,0),rfl,fun h=>h.elim (fun h=>absurd (hlow _ h) (by omega)) (by omega),(hkp _ _ (fun h=>h.elim (fun h=>absurd (hlow _ h) (by omega)) (by omega)) hk0 rfl).2,⟨rfl,rfl⟩,trivial⟩
  have hlen:cur.size=6:=by have:=hcr.length;simp only [Array.length_toList] at this;rw [←this];split<;>rfl
  by_cases hlt:i<R
  ·refine fJ (N:=19) (t0:=5) (T:=39) (n:=6) (want:=0) (g:=n0+2) (cur:=cur) (ins:=[(3, .ref 1),(6, .ref 6)]) (xs:=[.ref [.int .i64 k], .ref (eB (V i).1 (V i).2)]) fo ⟨rfl,rfl,trivial⟩
    (ad3 k (V i) _ (by split<;>rfl) hk (hf i hi).1 (hf i hi).2 (hgt i hlt)) (by kernel_rfl) (by kernel_rfl) hq hMW (.inr (.inr rfl)) rfl rfl (by split<;>rfl) (by omega) ⟨hkv,hp,trivial⟩ rfl hcu hcr ?_
   intro a' W' us cur' hg _ _ _ hc' _ hr';rw [if_pos hlt] at hQ;exact hQ a' W' cur' hg hc' hr'
  ·obtain rfl:i=R:=by omega
   refine fJ (N:=19) (t0:=5) (T:=39) (n:=6) (want:=1) (g:=n0+2) (cur:=cur) (ins:=[(3, .ref 1),(6, .ref 6)]) (xs:=[.ref [.int .i64 k], .ref (eB (V i).1 (V i).2)]) fo ⟨rfl,rfl,trivial⟩
    (ac2 k (V i) _ (by split<;>rfl) hk (hf i hi).1 (hf i hi).2 hle) (by kernel_rfl) (by kernel_rfl) hq hMW (.inr (.inr rfl)) rfl rfl (by split<;>rfl) (by omega) ⟨hkv,hp,trivial⟩ rfl hcu hcr ?_
   intro a' W' us cur' hg _ _ _ hc' _ hr';rw [if_neg hlt] at hQ;exact hQ a' W' cur' hg hc' hr'
 ·intro W cur hos htape hout hsz hblk hD hcu hcr;rw [if_neg (by omega)] at hcr;simp only [Nat.add_sub_cancel] at hcr;obtain ⟨u0,u1,u2,u3,u4,u5,hcc⟩:=HC hcr;have hone:=hcr.one;rw [hcc] at hcr hone;obtain rfl:cur = #[u0,u1,u2,u3,u4,u5]:=by rw [←Array.toArray_toList (xs:=cur),hcc]
  have hr1:W.heap[n0+1]? = some (.cells #[.slice none 0 0, .bool false, .slice none 0 0, .slice none 0 0, .bool false, .slice none 0 0] 39 (0,0)):=(hblk _ (by omega) (by omega)).trans hr0;have c0:W.cell? ⟨n0+2,0,none⟩=some u0:=aB hcu rfl;have c1:W.cell? ⟨n0+2,1,none⟩=some u1:=aB hcu rfl;have c2:W.cell? ⟨n0+2,2,none⟩=some u2:=aB hcu rfl;have c3:W.cell? ⟨n0+2,3,none⟩=some u3:=aB hcu rfl;have c4:W.cell? ⟨n0+2,4,none⟩=some u4:=aB hcu rfl;have c5:W.cell? ⟨n0+2,5,none⟩=some u5:=aB hcu rfl
  gi_wp2
  rw [gK hr1 (hone _ (by simp)) (hone _ (by simp)) (hone _ (by simp)) (hone _ (by simp)) (hone _ (by simp)) (hone _ (by simp))];have hr4:=setRow_heap W (n0+1) _ #[u0,u1,u2,u3,u4,u5] 39 (0,0) hr1;have hot:∀ j,j≠n0+1→(W.setRow (n0+1) #[u0,u1,u2,u3,u4,u5]).heap[j]? = W.heap[j]?:=fun j hj=>setRow_other W (n0+1) j _ hj;have hs4:(W.setRow (n0+1) #[u0,u1,u2,u3,u4,u5]).heap.size=W.heap.size:=by simp [World.setRow]
  have ho4:(W.setRow (n0+1) #[u0,u1,u2,u3,u4,u5]).os=W.os∧(W.setRow (n0+1) #[u0,u1,u2,u3,u4,u5]).tape=W.tape∧(W.setRow (n0+1) #[u0,u1,u2,u3,u4,u5]).output=W.output:=⟨rfl,rfl,rfl⟩
  generalize W.setRow (n0+1) #[u0,u1,u2,u3,u4,u5]=W4 at *;have d0:W4.cell? ⟨n0+1,0,none⟩=some u0:=aB hr4 rfl;have d1:W4.cell? ⟨n0+1,1,none⟩=some u1:=aB hr4 rfl;have d2:W4.cell? ⟨n0+1,2,none⟩=some u2:=aB hr4 rfl;have d3:W4.cell? ⟨n0+1,3,none⟩=some u3:=aB hr4 rfl;have d4:W4.cell? ⟨n0+1,4,none⟩=some u4:=aB hr4 rfl;have d5:W4.cell? ⟨n0+1,5,none⟩=some u5:=aB hr4 rfl
  gi_wp2
  have hD4:W4.heap[n0+3]? = some (.deferred (some [])):=(hot _ (by omega)).trans (hs0▸hD);refine ⟨by simp, .inl ⟨_,_,rfl,run_takeDeferred hD4,?_⟩⟩;have hot5:∀ j,j≠n0+3→(W4.putObj (n0+3) (.deferred none)).heap[j]? = W4.heap[j]?:=fun j hj=>World.putObj_heap_other hj;have hs5:(W4.putObj (n0+3) (.deferred none)).heap.size=W4.heap.size:=World.putObj_size;have ho5:(W4.putObj (n0+3) (.deferred none)).os=W4.os∧(W4.putObj (n0+3) (.deferred none)).tape=W4.tape∧(W4.putObj (n0+3) (.deferred none)).output=W4.output:=⟨rfl,rfl,rfl⟩
  generalize W4.putObj (n0+3) (.deferred none)=W5 at *;have hr5:=(hot5 (n0+1) (by omega)).trans hr4;have e0:W5.cell? ⟨n0+1,0,none⟩=some u0:=aB hr5 rfl;have e1:W5.cell? ⟨n0+1,1,none⟩=some u1:=aB hr5 rfl;have e2:W5.cell? ⟨n0+1,2,none⟩=some u2:=aB hr5 rfl;have e3:W5.cell? ⟨n0+1,3,none⟩=some u3:=aB hr5 rfl;have e4:W5.cell? ⟨n0+1,4,none⟩=some u4:=aB hr5 rfl;have e5:W5.cell? ⟨n0+1,5,none⟩=some u5:=aB hr5 rfl;refine ⟨.agg #[u0,u1,u2,u3,u4,u5],?_,?_,[.agg #[u0,u1,u2,u3,u4,u5]],rfl,⟨_,rfl,hcr.mono fun b x hb hx hxc=>⟨fun h=>hb (.inl h),?_⟩⟩,trivial⟩
  ·simp [results,show f38.results = #[.cell 4 39] from rfl,go_sem,e0,e1,e2,e3,e4,e5]
  ·have hW:∀ j,j<n0→W5.heap[j]? = w.heap[j]?:=fun j hj=>(hot5 j (by omega)).trans ((hot j (by omega)).trans ((hblk j (by omega) (by omega)).trans (hb0.block j (by omega))));exact ⟨ho5.1.trans (ho4.1.trans (hos.trans hb0.os)),ho5.2.1.trans (ho4.2.1.trans (htape.trans hb0.tape)),ho5.2.2.trans (ho4.2.2.trans (hout.trans hb0.output)),by omega,fun j hj=>hW j (by omega)⟩
  ·have h1:b≠n0+1:=fun e=>hb (.inr (.inl e));have h3:b≠n0+3:=fun e=>by rw [e,←hs0,hD] at hx;cases hx;cases hxc
   exact (hot5 b h3).trans ((hot b h1).trans hx)
end Go.Sy
