/- Part. -/
import Derived.Test.YtpaidpkaechleaaGreatDoorEa
import Derived.Test.YtpaidpkaechleaaGreatDoorSe
set_option linter.all false
namespace Go.Sy
open Go Go.RowKit
variable {F:Fence} {n m:Nat} {P:Program}
abbrev lG (fn:FuncId) (tmps:Array Value) (ps:Array Tmp) (assign body:Code) (D:Nat) (st:LoopState) (pe:Option Code):Loop:={ state:=st,pending:=pe,fn,tmps,params:=ps,assign,body,defers:=D }
def Xq (P:Program) (l:Nat) (r:LoopState→Option Code→Loop) (R:Bool→Option Code→World→Prop):Exit→Act→World→Prop
 | .normal,_,W=>W.heap[l]? = some (.loop (r .busy none))∧R true none (W.putObj l (.loop (r .ready none)))
 | .ret,_,W=>W.heap[l]? = some (.loop (r .busy none))∧R false (some .ret) (W.putObj l (.loop (r .done (some .ret))))
 | .exit id,_,W=>W.heap[l]? = some (.loop (r .busy none))∧R false (some (.exit id)) (W.putObj l (.loop (r .done (some (.exit id)))))
 | _,_,_=>False
theorem Kg {fn:FuncId} {tmps:Array Value} {ps:Array Tmp} {assign body:Code} {D l:Nat} {args:Array Value} {W:World} {R:Bool→Option Code→World→Prop}
  (hl:W.heap[l]? = some (.loop (lG fn tmps ps assign body D .ready none))) (hps:args.size=ps.size) (hF:F.fn fn)
  (h:assign.wpIn (F.inRound l) m P (Exit.then (fun a1 W1=>W1.heap[l]? = some (.loop (lG fn tmps ps assign body D .ready none)) ∧
    body.wpIn (F.inRound l) m P (Xq P l (lG fn tmps ps assign body D) R) a1 (W1.putObj l (.loop (lG fn tmps ps assign body D .busy none)))) (fun _ _ _=>False))
   { tmps:=(ps.zip args).foldl (fun t (p,v)=>t.setIfInBounds p v) tmps,defers:=[] } W) :
  YieldAt F m P l args W fun e W'=>∃ b c,e = .returned (.bool b)∧R b c W':=by
 have hy:=run_yield (P:=P) (args:=args) hl hps;refine ⟨fn,_,assign,body,hy,roundIn_of_wpIn hF (wpIn_mono h ?_)⟩;rintro e a1 W1 hp;cases e with
 | normal=>
   obtain ⟨hl1,hb⟩:=hp;refine ⟨_,run_beginRound hl1 rfl,wpIn_mono hb ?_⟩;rintro e a3 W3 hp;cases e with
   | normal=>
     obtain ⟨hl3,hR⟩:=hp;exact ⟨_,_,run_endRound (P:=P) none hl3,true,none,rfl,hR⟩
   | ret=>
     obtain ⟨hl3,hR⟩:=hp;exact ⟨_,_,run_endRound (P:=P) (some .ret) hl3,false,_,rfl,hR⟩
   | exit id=>
     obtain ⟨hl3,hR⟩:=hp;exact ⟨_,_,run_endRound (P:=P) (some (.exit id)) hl3,false,_,rfl,hR⟩
   | goto t=>exact hp.elim
   | panic ch=>exact hp.elim
   | outgrown=>exact hp.elim
 | ret=>exact hp.elim
 | exit id=>exact hp.elim
 | goto t=>exact hp.elim
 | panic ch=>exact hp.elim
 | outgrown=>exact hp.elim
theorem Lu {g:Operand} {ps:Array Tmp} {assign body:Code} {Q:Exit→Act→World→Prop} {a:Act} {w:World}
  (hro:F.round=none) (h1:1≤n) {gf:Nat} {lb:Array Value} (hg:a.eval g = .func (.func gf) #[] lb) (hFg:F.fn gf) (eg:∀ args w,(callFunc gf args).run P w = .ok (.enter gf args) w)
  (h:∀ (fn:FuncId) (D l:Nat) (W1:World),F.fn fn→D=w.heap.size→l=w.heap.size+1→W1.heap.size=w.heap.size+2→Below w.heap.size w W1→W1.heap[D]? = some (.deferred (some [])) →
   W1.heap[l]? = some (.loop (lG fn a.tmps ps assign body D .ready none)) →
   CallsIn F (n-1) P gf (#[.func (.yield l) #[] #[]]++lb) W1 fun e W2=>(∃ v,e = .returned v) ∧
    ((W2.heap[l]? = some (.loop (lG fn a.tmps ps assign body D .ready none))∧Q .normal { a with defers:={ target:=.collected D,args:=#[] } :: a.defers } (W2.putObj l (.loop (lG fn a.tmps ps assign body D .exhausted none)))) ∨
    (∃ c,W2.heap[l]? = some (.loop (lG fn a.tmps ps assign body D .done (some c)))∧c.wpIn F n P Q { a with defers:={ target:=.collected D,args:=#[] } :: a.defers } (W2.putObj l (.loop (lG fn a.tmps ps assign body D .exhausted (some c))))))) :
  (Code.rangeFunc g ps assign body).wpIn F n P Q a w:=by
 refine wpIn_rangeFunc ?_;intro fn hfn;rw [hro];obtain ⟨W1,hW1⟩:∃ W1,(w.alloc (.deferred (some []))).alloc (.loop (lG fn a.tmps ps assign body w.heap.size .ready none))=W1:=⟨_,rfl⟩
 have hL1:W1.heap[w.heap.size+1]? = some (.loop (lG fn a.tmps ps assign body w.heap.size .ready none)):=by
  rw [←hW1];have:=World.alloc_heap_new (w.alloc (.deferred (some []))) (.loop (lG fn a.tmps ps assign body w.heap.size .ready none));rwa [World.size_alloc] at this
 have hK1:W1.heap[w.heap.size]? = some (.deferred (some [])):=by
  rw [←hW1];exact (Below.heap_alloc _ _ _ (by simp)).trans (World.alloc_heap_new w _)
 have hb1:Below w.heap.size w W1:=by
  rw [←hW1];exact ((Below.refl _ w).alloc (bQ _) _).alloc (by simp) _
 have hs1:W1.heap.size=w.heap.size+2:=by rw [←hW1];simp
 refine ⟨w.heap.size+1,[{ target:=.collected w.heap.size,args:=#[] }],W1,{ target:=.fn (.func gf) lb,args:=#[.func (.yield (w.heap.size+1)) #[] #[]] },W1,gf,
  #[.func (.yield (w.heap.size+1)) #[] #[]]++lb,W1,?_,?_,?_,?_,fun _=>h1,?_⟩
 ·rw [←hW1];exact run_enterLoop_outer _ _ _ _ _
 ·simp only [resolve,hg];simp [go_sem]
 ·intro f' hf';simp [Target.leads] at hf';subst hf';exact hFg
 ·simp [invoke,go_sem,eg]
 ·refine (h fn _ _ W1 hfn rfl rfl hs1 hb1 hK1 hL1).mono ?_;rintro e W2 ⟨⟨v,rfl⟩,(⟨hl,hq⟩ | ⟨c,hl,hq⟩)⟩
  ·exact ⟨none,_,by have:=run_endLoop (P:=P) hl (by simp);exact this,hq⟩
  ·exact ⟨some c,_,by have:=run_endLoop (P:=P) hl (by simp);exact this,hq⟩
open Go Go.Proofs Go.RowKit Tryz Ord
structure RJ (w:World) (o D l:Nat) (lo:Obj) (W:World):Prop where
 os:W.os=w.os
 tape:W.tape=w.tape
 output:W.output=w.output
 size:D<W.heap.size∧l<W.heap.size
 block:∀ j,j<w.heap.size→j≠o→W.heap[j]? = w.heap[j]?
 hD:W.heap[D]? = some (.deferred (some []))
 hl:W.heap[l]? = some lo
theorem RJ.below {w W W':World} {o D l:Nat} {lo:Obj} (I:RJ w o D l lo W) (hw:w.heap.size≤W.heap.size) (hb:Below W.heap.size W W'):RJ w o D l lo W':=
 ⟨hb.os.trans I.os,hb.tape.trans I.tape,hb.output.trans I.output,⟨Nat.lt_of_lt_of_le I.size.1 hb.size,Nat.lt_of_lt_of_le I.size.2 hb.size⟩,fun j hj hne=>(hb.block _ (by omega)).trans (I.block j hj hne),(hb.block _ I.size.1).trans I.hD,(hb.block _ I.size.2).trans I.hl⟩
theorem RJ.dU {M:Nat→Prop} {w W:World} {o D l:Nat} {lo:Obj} (I:RJ w o D l lo W) (ho:M o):bJ M w M W:=fun b x hb hx _=>⟨hb,(I.block b (gE.1 hx).1 fun e=>hb (e▸ho)).trans hx⟩
theorem RJ.mQ {M:Nat→Prop} {w W:World} {o D l:Nat} {lo:Obj} (I:RJ w o D l lo W) (ho:M o) (hM:dP M w) (hw:w.heap.size≤W.heap.size):dP M W:=⟨fun b hb=>Nat.lt_of_lt_of_le (hM.1 b hb) hw,hM.2.dU (I.dU ho)⟩
def oG (W:World) (u0 u1 u2 u3 u4 u5:Value):World:=(W.alloc (.cells #[.slice none 0 0, .bool false, .slice none 0 0, .slice none 0 0, .bool false, .slice none 0 0] 39)).setRow W.heap.size #[u0,u1,u2,u3,u4,u5]
section
variable (M:Nat→Prop) (g:FuncId) (caps:List aL) (V:Nat→Rat×Rat) (R:Nat) (hR:R≤4) (hV:∀ i,i≤R→aJ prog g ([kK (bR (32*2^i)) (gX (32*2^i))]++caps.map .one) (.ret [cP (V i)]))
include hR hV
theorem lE {tm:Array Value} {df:List Deferred} {w:World} {vp:Value} {o T p d id:Nat} {gop:Operand} {assign body:Code} {cur0:Array Value} {cs:Nat→List aL} {Q:Exit→Act→World→Prop}
  (hM:dP M w) (hvp:(aL.dK [.eZ g caps]).rep M w vp) (hg:({ tmps:=tm,defers:=df }:Act).eval gop = .func (.func 105) #[] #[vp]) (hMo:M o) (ho:w.heap[o]? = some (.cells cur0 T (0,0))) (hc0:aU M w (cs 0) cur0.toList)
  (hass:∀ (l:Nat) (u0 u1 u2 u3 u4 u5:Value) (W:World) (K:Act→World→Prop),(∀ u ∈ [u0,u1,u2,u3,u4,u5],u.oneCell'=true)→K ⟨(tm.setIfInBounds p (.agg #[u0,u1,u2,u3,u4,u5])).setIfInBounds d (.pointer (some ⟨W.heap.size,0,none⟩)),[]⟩ (oG W u0 u1 u2 u3 u4 u5) →
   assign.wpIn (Fence.wide.inRound l) 999 prog (Exit.then K (fun _ _ _=>False)) ⟨tm.setIfInBounds p (.agg #[u0,u1,u2,u3,u4,u5]),[]⟩ W)
  (hbody:∀ i,i≤R→∀ (l:Nat) (W:World) (cur:Array Value) (b:Nat) (x:Value) (Q:Exit→Act→World→Prop),¬ LetsOut Q→dP M W→bJ M w M W→W.heap[o]? = some (.cells cur T (0,0))→aU M W (cs i) cur.toList→(aL.dK (eV (V i).1 (V i).2)).rep M W (.pointer (some ⟨b,0,none⟩)) →
   (∀ a' W' cur',W.grownBy W' (some o)→W'.heap[o]? = some (.cells cur' T (0,0))→aU M W' (cs (i+1)) cur'.toList→Q (if i<R then .normal else .exit id) a' W') →
   body.wpIn (Fence.wide.inRound l) 999 prog Q ⟨(tm.setIfInBounds p x).setIfInBounds d (.pointer (some ⟨b,0,none⟩)),[]⟩ W)
  (hQ:∀ W cur,W.os=w.os→W.tape=w.tape→W.output=w.output→w.heap.size+2≤W.heap.size→(∀ j,j<w.heap.size→j≠o→W.heap[j]? = w.heap[j]?)→W.heap[w.heap.size]? = some (.deferred (some []))→W.heap[o]? = some (.cells cur T (0,0))→aU M W (cs (R+1)) cur.toList →
   Q (.exit id) { tmps:=tm,defers:={ target:=.collected w.heap.size,args:=#[] } :: df } W) :
  (Code.rangeFunc gop #[p] assign body).wpIn Fence.wide 1001 prog Q { tmps:=tm,defers:=df } w:=by
 have holt:o<w.heap.size:=(gE.1 ho).1;refine Lu rfl (by omega) (gf:=105) (lb:=#[vp]) hg trivial (enters_of func105 (by kernel_rfl) rfl) ?_;intro fn D l W1 hfn hD hl hsz1 hb1 hK1 hL1;subst hD hl;have e0:∀ lo,W1.heap[w.heap.size+1]? = some lo→RJ w o w.heap.size (w.heap.size+1) lo W1:=fun lo h=>⟨hb1.os,hb1.tape,hb1.output,by omega,fun j hj _=>hb1.block j hj,hK1,h⟩
 refine (Fh M g caps V R hR hV (w.heap.size+1) vp
  (fun i W=>w.heap.size≤W.heap.size∧RJ w o w.heap.size (w.heap.size+1) (.loop (lG fn tm #[p] assign body w.heap.size .ready none)) W∧∃ cur,W.heap[o]? = some (.cells cur T (0,0))∧aU M W (cs i) cur.toList)
  (fun W=>RJ w o w.heap.size (w.heap.size+1) (.loop (lG fn tm #[p] assign body w.heap.size .done (some (.exit id)))) W∧∃ cur,W.heap[o]? = some (.cells cur T (0,0))∧aU M W (cs (R+1)) cur.toList)
  ?hJb ?hJf ?hY W1 ⟨by omega,e0 _ hL1,cur0,(hb1.block o holt).trans ho,hc0.mono (bJ.below hb1)⟩).mono ?_
 case hJb=>
  rintro i W W' ⟨hw,I,cur,hcu,hcr⟩ hb;exact ⟨Nat.le_trans hw hb.size,I.below hw hb,cur,(hb.block o (by omega)).trans hcu,hcr.mono (bJ.below hb)⟩
 case hJf=>
  rintro i W ⟨hw,I,_⟩;exact ⟨I.mQ hMo hM hw,aL.mono _ (I.dU hMo) hvp⟩
 case hY=>
  rintro i W u0 u1 u2 u3 u4 u5 hi ⟨hw,I,cur,hcu,hcr⟩ hu;have hone:=hu.one
  obtain ⟨fnr,tmr,asr,bdr,hy,hRd⟩:=Kg (F:=Fence.wide) (m:=999) (P:=prog) (args:=#[.agg #[u0,u1,u2,u3,u4,u5]]) (R:=fun b c W'=>(i<R∧b=true∧RJ w o w.heap.size (w.heap.size+1) (.loop (lG fn tm #[p] assign body w.heap.size .ready none)) W'∧w.heap.size≤W'.heap.size∧∃ cur,W'.heap[o]? = some (.cells cur T (0,0))∧aU M W' (cs (i+1)) cur.toList) ∨
   (i=R∧b=false∧RJ w o w.heap.size (w.heap.size+1) (.loop (lG fn tm #[p] assign body w.heap.size .done (some (.exit id)))) W'∧∃ cur,W'.heap[o]? = some (.cells cur T (0,0))∧aU M W' (cs (R+1)) cur.toList)) I.hl rfl trivial (by
    rw [show (#[p].zip #[Value.agg #[u0,u1,u2,u3,u4,u5]]).foldl (fun t (p,v)=>t.setIfInBounds p v) tm=tm.setIfInBounds p (.agg #[u0,u1,u2,u3,u4,u5]) by simp];refine hass _ u0 u1 u2 u3 u4 u5 W _ hone ?_;have hnew:=heap_alloc_new W (.cells #[.slice none 0 0, .bool false, .slice none 0 0, .slice none 0 0, .bool false, .slice none 0 0] 39);have hself:(oG W u0 u1 u2 u3 u4 u5).heap[W.heap.size]? = some (.cells #[u0,u1,u2,u3,u4,u5] 39 (0,0)):=setRow_heap _ _ _ _ _ _ hnew;have hbel:Below W.heap.size W (oG W u0 u1 u2 u3 u4 u5):=below_setRow ((Below.refl _ W).alloc (bQ _) _) _ (bQ _);have hs2:(oG W u0 u1 u2 u3 u4 u5).heap.size=W.heap.size+1:=by simp [oG,World.setRow]
    generalize oG W u0 u1 u2 u3 u4 u5=W2 at *;have I2:=I.below hw hbel;refine ⟨I2.hl,?_⟩;generalize hW3:W2.putObj (w.heap.size+1) _=W3;have hl2:w.heap.size+1<W2.heap.size:=I2.size.2;have hl3:W3.heap[w.heap.size+1]? = some (.loop (lG fn tm #[p] assign body w.heap.size .busy none)):=by rw [←hW3];exact World.putObj_heap_same hl2
    have hput:∀ j,j≠w.heap.size+1→W3.heap[j]? = W2.heap[j]?:=fun j hj=>by rw [←hW3];exact World.putObj_heap_other hj
    have hs3:W3.heap.size=W.heap.size+1:=by rw [←hW3,←hs2];simp [World.putObj]
    have hos3:W3.os=W2.os∧W3.tape=W2.tape∧W3.output=W2.output:=by rw [←hW3];exact ⟨rfl,rfl,rfl⟩
    clear hW3;have I3:RJ w o w.heap.size (w.heap.size+1) (.loop (lG fn tm #[p] assign body w.heap.size .busy none)) W3:=⟨hos3.1.trans I2.os,hos3.2.1.trans I2.tape,hos3.2.2.trans I2.output,by have h:=I2.size;omega,fun j hj hne=>(hput j (by omega)).trans (I2.block j hj hne),(hput _ (by omega)).trans I2.hD,hl3⟩
    have hk23:bJ M W2 M W3:=fun b x hb hx hxc=>⟨hb,(hput b fun e=>by rw [e,I2.hl] at hx;cases hx;cases hxc).trans hx⟩
    have hk03:bJ M W M W3:=(bJ.below hbel).trans hk23;refine hbody i hi _ W3 cur W.heap.size _ _ (fun h=>by obtain ⟨_,_,h⟩:=h;exact h) (I3.mQ hMo hM (by omega)) (I3.dU hMo) ((hput o (by omega)).trans ((hbel.block o (by omega)).trans hcu)) (hcr.mono hk03) ?_ ?_
    ·exact ⟨W.heap.size,0,#[u0,u1,u2,u3,u4,u5],39,(0,0),rfl,fun hm=>Nat.lt_irrefl _ (Nat.lt_of_lt_of_le (hM.1 _ hm) hw),(hput W.heap.size (by have h:=I.size;omega)).trans hself,by simpa using hu.mono hk03⟩
    ·intro a' W4 cur' hg4 hc4 hr4;have h4:∀ j,j<W3.heap.size→j≠o→W4.heap[j]? = W3.heap[j]?:=fun j hj hne=>hg4.block j hj fun e=>hne (Option.some.inj e);have hl4:W4.heap[w.heap.size+1]? = some (.loop (lG fn tm #[p] assign body w.heap.size .busy none)):=(h4 _ (by omega) (by omega)).trans hl3;have hs4:W3.heap.size≤W4.heap.size:=hg4.size
     have fin:∀ lo,RJ w o w.heap.size (w.heap.size+1) lo (W4.putObj (w.heap.size+1) lo)∧(W4.putObj (w.heap.size+1) lo).heap[o]? = some (.cells cur' T (0,0))∧aU M (W4.putObj (w.heap.size+1) lo) (cs (i+1)) cur'.toList:=fun lo=>by
      have hp:∀ j,j≠w.heap.size+1→(W4.putObj (w.heap.size+1) lo).heap[j]? = W4.heap[j]?:=fun j hj=>World.putObj_heap_other hj;refine ⟨⟨hg4.os.trans I3.os,hg4.tape.trans I3.tape,hg4.output.trans I3.output,by simp only [World.putObj_size];have h:=I3.size;omega,fun j hj hne=>(hp j (by omega)).trans ((h4 j (by omega) hne).trans (I3.block j hj hne)),(hp _ (by omega)).trans ((h4 _ (by omega) (by omega)).trans I3.hD),World.putObj_heap_same (by omega)⟩,(hp o (by omega)).trans hc4,hr4.mono fun b x hb hx hxc=>⟨hb,(hp b fun e=>by rw [e,hl4] at hx;cases hx;cases hxc).trans hx⟩⟩
     by_cases hlt:i<R
     ·rw [if_pos hlt];exact ⟨hl4, .inl ⟨hlt,rfl,(fin _).1,by simp only [World.putObj_size];omega,cur',(fin _).2⟩⟩
     ·rw [if_neg hlt];obtain rfl:i=R:=by omega
      exact ⟨hl4, .inr ⟨rfl,rfl,(fin _).1,cur',(fin _).2⟩⟩)
  refine ⟨fnr,tmr,asr,bdr,hy,hRd.mono ?_⟩;rintro e W' ⟨b,c,rfl,(⟨h1,rfl,h2,h3,h4⟩ | ⟨h1,rfl,h2⟩)⟩
  ·exact .inl ⟨h1,rfl,h3,h2,h4⟩
  ·exact .inr ⟨h1,rfl,h2⟩
 ·rintro e W2 ⟨hv,I,cur,hcu,hcr⟩;refine ⟨hv, .inr ⟨.exit id,I.hl,wpIn_exit ?_⟩⟩;have hp:∀ j lo,j≠w.heap.size+1→(W2.putObj (w.heap.size+1) lo).heap[j]? = W2.heap[j]?:=fun j lo hj=>World.putObj_heap_other hj;refine hQ _ cur I.os I.tape I.output (by simp only [World.putObj_size];have:=I.size.2;omega) (fun j hj hne=>(hp j _ (by omega)).trans (I.block j hj hne)) ((hp _ _ (by omega)).trans I.hD) ((hp o _ (by omega)).trans hcu) (hcr.mono fun b x hb hx hxc=>⟨hb,(hp b _ fun e=>by rw [e,I.hl] at hx;cases hx;cases hxc).trans hx⟩)
end
open Go Go.Proofs Tryz Ord
open Go Go.Proofs Tryz Ord
def Nj:Tr:=.need (.prim [(WK 2),(W 11 0)] none) (.binOp .mul 3 (.const (I3 2)) (tT 38) 3) 3 false (aN .add 3 39 3 24 0 3 (aC 31 [(W 23 0),(W 25 0)] [(some 4)] [37,40] [2,2] 35 false (aC 33 [(G4 6),(G4 26)] [(some 4)] [34,41] [35,35] 35 true (aC 33 [(.agg [(U 12 0),(U 13 0),(U 14 0),(U 15 0)]),(G4 27)] [(some 4)] [33,42] [35,35] 35 true (aN .add 3 28 1 11 0 3 (.back 0 [lV 29 0,lV 28 0,lV 28 1,lV 28 2,lV 28 3,lV 21 0,lV 21 1,lV 21 2,lV 21 3]))))))
def So:Tr:=.loop 0 [lK 0,lV 10 0,lV 10 1,lV 10 2,lV 10 3,lK 0,lN,lK 0,lN] (cC .lss 3 25 26 11 0 1 0 4 (.split (.u 20 0) (aC 44 [(.agg [(U 16 0),(U 17 0),(U 18 0),(U 19 0)]),(.agg [(U 12 0),(U 13 0),(U 14 0),(U 15 0)])] [(some 4)] [30,31] [35,35] 35 true (.need (.prim [(WK 2),(W 11 0)] none) (.binOp .mul 3 (.const (I3 2)) (tT 35) 3) 3 false (aN .add 3 36 2 22 0 3 Nj))) (aC 78 [(.agg [(U 12 0),(U 13 0),(U 14 0),(U 15 0)])] [(some 4)] [45] [35] 35 false (.need (.call 42 [(WK 2)] [(some 4)]) (.call ⟨.value (.func 42),#[(.const (I3 2))],#[2]⟩) 35 false (aC 33 [(G4 21),(G4 22)] [(some 4)] [46,47] [35,35] 35 true (.ret [(.agg [(U 16 0),(U 17 0),(U 18 0),(U 19 0),(U 23 0),(U 23 1),(U 23 2),(U 23 3)])]))))))
def Sr:Tr:=aC 33 [(G4 0),(G4 0)] [(some 4)] [13,14] [35,35] 35 false (aC 44 [(G4 3),(G4 4)] [(some 4)] [12,15] [35,35] 35 true (aC 75 [(G4 2),(G4 5)] [(some 4)] [11,16] [35,35] 35 true (.need (.call 42 [(WK 1)] [(some 4)]) (.call ⟨.value (.func 42),#[(.const (I3 1))],#[2]⟩) 35 false (aC 33 [(G4 0),(G4 0)] [(some 4)] [20,21] [35,35] 35 false (aC 44 [(G4 7),(G4 8)] [(some 4)] [19,22] [35,35] 35 true (aC 75 [(G4 0),(G4 9)] [(some 4)] [18,23] [35,35] 35 true So))))))
def Sa:Tr:=aC 33 [(G4 0),(G4 0)] [(some 4)] [9,10] [35,35] 35 false (.need (.call 42 [(WK 1)] [(some 4)]) (.call ⟨.value (.func 42),#[(.const (I3 1))],#[2]⟩) 35 false Sr)
theorem SA:aI prog f41 (fun _=>none) [.v (some 4), .v none]=Sa:=by kernel_rfl
def OH:Tr:=aC 46 [(G4 17),(W 0 0)] [(some 4)] [29,30] [35,3] 35 false (aC 45 [(G4 18),(G4 19)] [none] [28,31] [35,35] 3 true (aN .eql 3 32 0 20 0 4 (.split (.u 21 0) (aC 46 [(G4 14),(W 0 0)] [(some 4)] [34,35] [35,3] 35 false (aC 47 [(G4 17),(W 0 0)] [(some 4)] [37,38] [35,3] 35 true (.ret [(.agg [(U 22 0),(U 22 1),(U 22 2),(U 22 3),(U 23 0),(U 23 1),(U 23 2),(U 23 3)])]))) (aN .add 3 7 8 1 0 3 (.back 0 [lV 22 0,lV 2 0,lV 3 0,lV 4 0,lV 5 0,lV 6 0,lV 7 0,lV 8 0,lV 9 0])))))
def Uh:Tr:=.need (.call 42 [(WK 4)] [(some 4)]) (.call ⟨.value (.func 42),#[(.const (I3 4))],#[2]⟩) 35 false (aC 43 [(G4 11),(.agg [(U 11 4),(U 11 5),(U 11 6),(U 11 7)])] [(some 4)] [14,16] [35,35] 35 false (aC 33 [(G4 12),(G4 13)] [(some 4)] [12,17] [35,35] 35 false (.need (.call 42 [(WK 4)] [(some 4)]) (.call ⟨.value (.func 42),#[(.const (I3 4))],#[2]⟩) 35 false (aC 44 [(G4 11),(.agg [(U 11 4),(U 11 5),(U 11 6),(U 11 7)])] [(some 4)] [21,23] [35,35] 35 false (aC 33 [(G4 15),(G4 16)] [(some 4)] [19,24] [35,35] 35 true (aC 46 [(G4 14),(W 0 0)] [(some 4)] [26,27] [35,3] 35 false OH))))))
def QJ:Tr:=.loop 0 [lK 8,lK 0,lN,lK 0,lN,lK 0,lN,lK 0,lN] (.need (.call 42 [(WK 1)] [(some 4)]) (.call ⟨.value (.func 42),#[(.const (I3 1))],#[2]⟩) 35 false (aC 41 [(G4 10),(W 1 0)] [(some 8)] [9,10] [35,3] 92 true Uh))
theorem WJ:aI prog f10 (fun _=>none) [.v none]=QJ:=by kernel_rfl
abbrev eA:Rat:=((1:Int):Rat)
def aY:Rat:=eA*eA/(eA+eA*eA)
def wH:Nat→Rat
 | 0=>eA/(eA+eA*eA)
 | i+1=>wH i*(aY*(((2*(i:Int)+2:Int):Rat)/((2*(i:Int)+3:Int):Rat)))
def jW:Nat→RQ
 | 0=>.nil
 | i+1=>.of ((jW i).q+wH i)
def wW (n:Nat):Rat:=(wH n).abs*((2:Int):Rat)
theorem Gg:∀ i,i≤100→Fit 500 (wH i)∧Fit 700 (jW i).q:=by decide +kernel
theorem Ri (n:Nat) (hn:n≤100:=by omega):aJ prog 41 [(jO (.of eA):aD),(.one (.int .i64 n):aD)] (.ret [fI (jW n) (.of (wW n))]):=by
 refine bO func41 SA ?_;have h1:Fit 2 eA:=Fit.int (by omega) (by omega);have h11:Fit 4 (eA*eA):=h1.mul h1;have h2:Fit 8 (eA+eA*eA):=(h1.add h11).mono (by omega);have hne:eA+eA*eA≠0:=by decide +kernel
 have hy:Fit 12 aY:=(Fit.div h11 h2).mono (by omega);apply aA (kJ (.of eA) (.of eA) 2 2 h1 h1) rfl;apply aA (sI 1) rfl;apply aA (kJ (.of eA) (.of eA) 2 2 h1 h1) rfl;apply aA (sA (.of eA) (.of (eA*eA)) 2 4 h1 h11) rfl;dsimp only [aG,aH];apply aA (IX (.of (eA*eA)) (.of (eA+eA*eA)) 4 8 hne h11 h2) rfl;apply aA (sI 1) rfl;apply aA (kJ (.of eA) (.of eA) 2 2 h1 h1) rfl;apply aA (sA (.of eA) (.of (eA*eA)) 2 4 h1 h11) rfl;dsimp only [aG,aH];apply aA (IX (.of eA) (.of (eA+eA*eA)) 2 8 hne h1 h2) rfl;refine bE {i:Nat // i≤n} (fun g=>(.one (.int .i64 (g.1:Int)):aD)::((rC (.of (wH g.1))).map aD.one++(rC (jW g.1)).map aD.one)) (fun g=>n-g.1) ⟨0,fK _⟩ ⟨aD.Sub.same,aD.Sub.same,aD.Sub.same,aD.Sub.same,aD.Sub.same,tV.1,tV.2.1,tV.2.2.1,tV.2.2.2.1,trivial⟩ (fun _=>rfl) ?_;rintro ⟨i,hi⟩;dsimp only [aG,aH,List.map] at hi ⊢;have hf:=Gg i (by omega);apply vn bA rfl;refine vs _ rfl ?_ ?_<;>intro h11
 ·apply aA (sA (jW i) (.of (wH i)) 700 500 hf.2 hf.1) rfl;apply vn (gS) rfl;apply vn (aF) rfl;dsimp only [aG,aH];apply vn (gS) rfl;apply vn (aF) rfl;apply aA (Kl (2*(i:Int)+2) (2*(i:Int)+3)) rfl;dsimp only [aG,aH];have hq:Fit 128 (((2*(i:Int)+2:Int):Rat)/((2*(i:Int)+3:Int):Rat)):=Fit.div (B:=64) (C:=64) (Fit.int (by omega) (by omega)) (Fit.int (by omega) (by omega));apply aA (kJ (.of aY) (.of _) 12 128 hy hq) rfl;apply aA (kJ (.of (wH i)) (.of _) 500 (12+128) hf.1 (hy.mul hq)) rfl;apply vn (aF) rfl;dsimp only [aG,aH];exact aZ rfl ⟨⟨i+1,by omega⟩,aM.rfl,by show n-(i+1)<n-i;omega⟩
 have hin:i=n:=by omega
 subst hin;apply aA (Qm (.of (wH i))) rfl;apply aA (sI 2) rfl;dsimp only [aG,aH]
 have hfa:Fit 500 (wH i).abs:=by
  unfold Rat.abs;split
  ·exact hf.1
  ·exact hf.1.neg
 apply aA (kJ (.of (wH i).abs) (.of ((2:Int):Rat)) 500 4 hfa (Fit.int (by omega) (by omega))) rfl;exact aE rfl
theorem gZ {q:Rat} {H k:Nat} (h:Fit H q) (h1:1≤H:=by omega) (hk:k≤256:=by omega):Fit (H+257+257) (cE q k):=(fS (h.mul (jC hk))).mul (nP hk)
def rD (n:Nat):Rat:=((4:Int):Rat)*((jW n).q-wW n)
def rH (n:Nat):Rat:=((4:Int):Rat)*((jW n).q+wW n)
theorem Re {n:Nat} (h:n≤100):Fit 2000 ((jW n).q-wW n)∧Fit 2000 ((jW n).q+wW n)∧Fit 700 (jW n).q∧Fit 504 (wW n):=by
 have hf:=Gg n h
 have hfa:Fit 500 (wH n).abs:=by
  unfold Rat.abs;split
  ·exact hf.1
  ·exact hf.1.neg
 have ho:Fit 504 (wW n):=(hfa.mul (Fit.int (B:=4) (by omega) (by omega))).mono (by omega);exact ⟨(hf.2.sub ho).mono (by omega),(hf.2.add ho).mono (by omega),hf.2,ho⟩
abbrev piC:List aD:=[.one (.int .i64 0), .one (.exact (.slice none 0 0)), .one (.int .i64 0), .one (.exact (.slice none 0 0)), .one (.int .i64 0), .one (.exact (.slice none 0 0)), .one (.int .i64 0), .one (.exact (.slice none 0 0))]
set_option maxHeartbeats 1000000 in
theorem VQ (k:Int) (N:Nat) (hN:N≤11) (hne:∀ m,m<N→cE (rD (8*(m+1))) k.toNat≠cE (rH (8*(m+1))) k.toNat) (heq:cE (rD (8*(N+1))) k.toNat=cE (rH (8*(N+1))) k.toNat) (hk:k≤256:=by omega):aJ prog 10 [(.one (.int .i64 k):aD)] (.ret [fI (.of (cE (rD (8*(N+1))) k.toNat)) (.of (tP (rH (8*(N+1))) k.toNat))]):=by
 refine bO func10 WJ ?_;refine bE {m:Nat // m≤N} (fun g=>(.one (.int .i64 (8*((g.1:Int)+1))):aD)::piC) (fun g=>N-g.1) ⟨0,fK _⟩ aM.rfl (fun _=>rfl) ?_;rintro ⟨m,hm⟩;dsimp only [aG,aH,List.map] at hm ⊢;rw [show (8*((m:Int)+1))=((8*(m+1):Nat):Int) by omega];have hp:=Re (show 8*(m+1)≤100 by omega);have h4:Fit 4 ((4:Int):Rat):=Fit.int (by omega) (by omega);have hlo:Fit 2004 (rD (8*(m+1))):=(h4.mul hp.1).mono (by omega);have hhi:Fit 2004 (rH (8*(m+1))):=(h4.mul hp.2.1).mono (by omega);obtain ⟨n,hn⟩:∃ n,n=8*(m+1):=⟨_,rfl⟩
 rw [←hn] at hp hlo hhi ⊢;apply aA (sI 1) rfl;apply aA (Ri n) rfl;apply aA (sI 4) rfl;apply aA (Sf (jW n) (.of (wW n)) 700 504 hp.2.2.1 hp.2.2.2) rfl;dsimp only [aG,aH];apply aA (kJ (.of ((4:Int):Rat)) (.of ((jW n).q-wW n)) 4 2000 h4 hp.1) rfl;apply aA (sI 4) rfl;apply aA (sA (jW n) (.of (wW n)) 700 504 hp.2.2.1 hp.2.2.2) rfl;apply aA (kJ (.of ((4:Int):Rat)) (.of ((jW n).q+wW n)) 4 2000 h4 hp.2.1) rfl;dsimp only [aG,aH];apply aA (uQ (.of (rD n)) k 2004 hk hlo) rfl;apply aA (uQ (.of (rH n)) k 2004 hk hhi) rfl;apply aA (Ql (.of (cE (rD n) k.toNat)) (.of (cE (rH n) k.toNat)) 4000 4000 ((gZ hlo).mono (by omega)) ((gZ hhi).mono (by omega))) rfl;apply vn aO rfl;dsimp only [aG,aH];refine vs _ rfl ?_ ?_<;>intro h13
 ·have hmN:m=N:=by
   have e:=jL.1 h13;rw [RQ.rX,RQ.rX,hn] at e;rcases Nat.lt_or_ge m N with h | h
   ·exact absurd e (hne m h)
   ·omega
  subst hmN;apply aA (uQ (.of (rD n)) k 2004 hk hlo) rfl;apply aA (Wn (.of (rH n)) k 2004 hk hhi) rfl;rw [RQ.rX,Px];dsimp only [aG,aH];rw [←hn];exact aE rfl
 apply vn (aF) rfl;dsimp only [aG,aH]
 have hmN:m<N:=by
  rcases Nat.lt_or_ge m N with h | h
  ·exact h
  ·have:m=N:=by omega
   subst this;exact absurd (jL.2 (by rw [RQ.rX,RQ.rX,hn];exact heq)) h13
 exact aZ rfl ⟨⟨m+1,by omega⟩,(by
  rw [show (8*(((⟨m+1,by omega⟩:{m:Nat // m≤N}).1:Int)+1))=(n:Int)+8 by show 8*(((m+1:Nat):Int)+1)=_;omega];exact aM.rfl),by show N-(m+1)<N-m;omega⟩
open Go Go.Proofs Go.RowKit Tryz Ord
attribute [local go_sem] Oper.semAt_some
theorem wP {q:Rat} {H k:Nat} (h:Fit H q) (h1:1≤H:=by omega) (hk:k≤256:=by omega):Fit (H+257+257) (tP q k):=by
 rw [←Px];exact (gZ h.neg h1 hk).neg
def lZ (V:Nat→Rat×Rat) (k:Int) (i:Nat):Rat×Rat:=(cE (V i).1 k.toNat,tP (V i).2 k.toNat)
theorem PA {α:Type} {c:List α} (h:c.length=6):∃ a0 a1 a2 a3 a4 a5,c = [a0,a1,a2,a3,a4,a5]:=by
 match c,h with
 | [a0,a1,a2,a3,a4,a5],_=>exact ⟨a0,a1,a2,a3,a4,a5,rfl⟩
def BQ:Tr:=.fail 1033
def Bz:Tr:=.retr [] 4
def Bk:Tr:=.split (.u 9 0) BQ Bz
def Bl:Tr:=.need (.prim [(W 8 0),(WK (0))] none) (.binOp .leq 3 (.tmp 16) (.const (I3 (0))) 3) 4 false Bk
def Cf:Tr:=.need (.call 68 [(.agg [(U 6 0),(U 6 1),(U 6 2)]),(.agg [(U 7 0),(U 7 1),(U 7 2)])] [none]) (.call ⟨.value (.func 68),#[(.tmp 13),(.tmp 15)],#[30,30]⟩) 3 true Bl
def Bg:Tr:=.need (.call 101 [(W 0 0)] [(some 3)]) (.call ⟨.value (.func 101),#[(.tmp 14)],#[3]⟩) 30 false Cf
def Cd:Tr:=.need (.call 104 [(.agg [(U 5 0),(U 5 1),(U 5 2),(U 5 3),(U 5 4),(U 5 5)])] [(some 3)]) (.call ⟨.value (.func 104),#[(.tmp 12)],#[39]⟩) 30 false Bg
def Ck:Tr:=.need (.ldrow 4 (.k (.int .i64 (0))) 0 6 true) (.load 39 (.tmp 5)) 39 false Cd
def Al:Tr:=.need (.strow 2 6 (.k (.int .i64 (0))) 0 [(.u 3 0),(.u 3 1),(.u 3 2),(.u 3 3),(.u 3 4),(.u 3 5)]) (.store 39 (.tmp 5) (.tmp 11)) 0 false Ck
def AK:Tr:=.need (.call 103 [(.agg [(U 1 0),(U 1 1),(U 1 2),(U 1 3),(U 1 4),(U 1 5)]),(W 0 0)] [(some 6)]) (.call ⟨.value (.func 103),#[(.tmp 9),(.tmp 10)],#[39,3]⟩) 39 true Al
theorem EW:jP prog 19 (fun _=>none) (dY [1,1,0,1,0,1] (iH f38)) [(3, .ref 1),(6, .ref 6)] 5 39 6 0 ([].map ResultVar.tmp)=AK:=by kernel_rfl
def BR:Tr:=.retr [] 4
def AL:Tr:=.fail 1034
def Bc:Tr:=.split (.u 9 0) BR AL
def AW:Tr:=.need (.prim [(W 8 0),(WK (0))] none) (.binOp .leq 3 (.tmp 16) (.const (I3 (0))) 3) 4 false Bc
def Ar:Tr:=.need (.call 68 [(.agg [(U 6 0),(U 6 1),(U 6 2)]),(.agg [(U 7 0),(U 7 1),(U 7 2)])] [none]) (.call ⟨.value (.func 68),#[(.tmp 13),(.tmp 15)],#[30,30]⟩) 3 true AW
def Bj:Tr:=.need (.call 101 [(W 0 0)] [(some 3)]) (.call ⟨.value (.func 101),#[(.tmp 14)],#[3]⟩) 30 false Ar
def Av:Tr:=.need (.call 104 [(.agg [(U 5 0),(U 5 1),(U 5 2),(U 5 3),(U 5 4),(U 5 5)])] [(some 3)]) (.call ⟨.value (.func 104),#[(.tmp 12)],#[39]⟩) 30 false Bj
def Bf:Tr:=.need (.ldrow 4 (.k (.int .i64 (0))) 0 6 true) (.load 39 (.tmp 5)) 39 false Av
def Be:Tr:=.need (.strow 2 6 (.k (.int .i64 (0))) 0 [(.u 3 0),(.u 3 1),(.u 3 2),(.u 3 3),(.u 3 4),(.u 3 5)]) (.store 39 (.tmp 5) (.tmp 11)) 0 false Bf
def AB:Tr:=.need (.call 103 [(.agg [(U 1 0),(U 1 1),(U 1 2),(U 1 3),(U 1 4),(U 1 5)]),(W 0 0)] [(some 6)]) (.call ⟨.value (.func 103),#[(.tmp 9),(.tmp 10)],#[39,3]⟩) 39 true Be
theorem EC:jP prog 19 (fun _=>none) (dY [1,1,0,1,0,1] (iH f38)) [(3, .ref 1),(6, .ref 6)] 5 39 6 1 ([].map ResultVar.tmp)=AB:=by kernel_rfl
theorem Vq (k:Int) (p:Rat×Rat) (c:List aL) (hc:c.length=6) (hk:k≤256) (h1:Fit 4000 p.1) (h2:Fit 4000 p.2) (hgt:mkRat 1 (2^k.toNat)<tP p.2 k.toNat-cE p.1 k.toNat):vc prog (fun o=>o = .retr [] ([eV (cE p.1 k.toNat) (tP p.2 k.toNat)])) (jP prog 19 (fun _=>none) (dY [1,1,0,1,0,1] (iH f38)) [(3, .ref 1),(6, .ref 6)] 5 39 6 0 ([].map ResultVar.tmp)) ([.ref ([.int .i64 k]), .ref (eV p.1 p.2)].map In.env ++ [.rows ([c])]) []:=by
 rw [EW];dsimp only [List.map,In.env,aG,aH];obtain ⟨a0,a1,a2,a3,a4,a5,rfl⟩:=PA hc;apply aA (IP _ _ k 4000 hk h1 h2) rfl;refine Ca (ts:=[[a0,a1,a2,a3,a4,a5]]) (us:=[eV (cE p.1 k.toNat) (tP p.2 k.toNat)]) rfl rfl (by omega) (cells:=[a0,a1,a2,a3,a4,a5]) rfl rfl ?_;refine UM (ts:=[eV (cE p.1 k.toNat) (tP p.2 k.toNat)]) (ik:=.i64) (n:=0) (t:=kK (cE p.1 k.toNat) (tP p.2 k.toNat)) rfl rfl (by omega) rfl (.inl rfl) rfl ?_;dsimp only [aG,aH,Iw,List.drop,List.take];apply aA (qR _ _ 4514 4514 (gZ h1) (wP h2)) rfl;apply aA (gJ k hk) rfl;apply aA (eH _ _ 9100 257 (((wP h2).sub (gZ h1)).mono (by omega)) (nP (by omega))) rfl;apply vn jK rfl;dsimp only [aG,aH];refine cB false (by have:=sG (a:=tP p.2 k.toNat-cE p.1 k.toNat) (b:=mkRat 1 (2^k.toNat));exact congrArg aL.bool (decide_eq_false fun h=>absurd (sG.1 h) (by grind))) (fun h=>by cases h) (fun _=>?_);exact tA rfl rfl
theorem UY (k:Int) (p:Rat×Rat) (c:List aL) (hc:c.length=6) (hk:k≤256) (h1:Fit 4000 p.1) (h2:Fit 4000 p.2) (hle:tP p.2 k.toNat-cE p.1 k.toNat≤mkRat 1 (2^k.toNat)):vc prog (fun o=>o = .retr [] ([eV (cE p.1 k.toNat) (tP p.2 k.toNat)])) (jP prog 19 (fun _=>none) (dY [1,1,0,1,0,1] (iH f38)) [(3, .ref 1),(6, .ref 6)] 5 39 6 1 ([].map ResultVar.tmp)) ([.ref ([.int .i64 k]), .ref (eV p.1 p.2)].map In.env ++ [.rows ([c])]) []:=by
 rw [EC];dsimp only [List.map,In.env,aG,aH];obtain ⟨a0,a1,a2,a3,a4,a5,rfl⟩:=PA hc;apply aA (IP _ _ k 4000 hk h1 h2) rfl;refine Ca (ts:=[[a0,a1,a2,a3,a4,a5]]) (us:=[eV (cE p.1 k.toNat) (tP p.2 k.toNat)]) rfl rfl (by omega) (cells:=[a0,a1,a2,a3,a4,a5]) rfl rfl ?_;refine UM (ts:=[eV (cE p.1 k.toNat) (tP p.2 k.toNat)]) (ik:=.i64) (n:=0) (t:=kK (cE p.1 k.toNat) (tP p.2 k.toNat)) rfl rfl (by omega) rfl (.inl rfl) rfl ?_;dsimp only [aG,aH,Iw,List.drop,List.take];apply aA (qR _ _ 4514 4514 (gZ h1) (wP h2)) rfl;apply aA (gJ k hk) rfl;apply aA (eH _ _ 9100 257 (((wP h2).sub (gZ h1)).mono (by omega)) (nP (by omega))) rfl;apply vn jK rfl;dsimp only [aG,aH];refine cB true (congrArg aL.bool (decide_eq_true (sG.2 hle))) (fun _=>?_) (fun h=>by cases h);exact tA rfl rfl
set_option maxRecDepth 100000 in
set_option maxHeartbeats 1000000 in
theorem Aa (g:FuncId) (caps:List aL) (V:Nat→Rat×Rat) (R:Nat) (hR:R≤4) (hV:∀ i,i≤R→aJ prog g ([kK (bR (32*2^i)) (gX (32*2^i))]++caps.map .one) (.ret [cP (V i)]))
  (k:Int) (hk:k≤256) (hf:∀ i,i≤R→Fit 4000 (V i).1∧Fit 4000 (V i).2) (hgt:∀ i,i<R→mkRat 1 (2^k.toNat)<(lZ V k i).2-(lZ V k i).1) (hle:(lZ V k R).2-(lZ V k R).1≤mkRat 1 (2^k.toNat)) :
  aJ prog 38 [.one (.eZ 105 [.dK [.eZ g caps]]), .one (.int .i64 k)] (.ret [cP (lZ V k R)]):=by
 refine ⟨enters_of func38 (by kernel_rfl) rfl,fun M w vs hM hv=>?_⟩
 match vs,hv with
 | [],hv=>exact hv.elim
 | [_],hv=>exact hv.2.elim
 | _::_::_::_,hv=>exact hv.2.2.elim
 | [a0,a1],hv=>
 obtain ⟨⟨cv,rfl,hcv⟩,⟨rfl,_⟩,_⟩:=hv
 match cv,hcv with
 | [],hcv=>exact hcv.elim
 | _::_::_,hcv=>exact hcv.2.elim
 | [vp],hcv=>
 have hvp:(aL.dK [.eZ g caps]).rep M w vp:=hcv.1;refine (callsIn_wide (n:=1001)).1 ?_;refine callsIn_of_wp_marks func38 rfl trivial ?_ rfl;simp only [ntmps38,List.size_toArray,List.length_cons,List.length_nil,Nat.reduceAdd,Nat.reduceSub,Array.replicate_succ,Array.replicate_zero,List.push_toArray,List.append_toArray,List.nil_append,List.cons_append]
 gi_wp2
 obtain ⟨n0,hn0⟩:∃ n0,w.heap.size=n0:=⟨_,rfl⟩
 obtain ⟨W0,hW0⟩:∃ W0,(((w.alloc (.cells #[.int .i64 k] 3)).alloc (.cells #[.slice none 0 0, .bool false, .slice none 0 0, .slice none 0 0, .bool false, .slice none 0 0] 39)).alloc (.cells #[.slice none 0 0, .bool false, .slice none 0 0, .slice none 0 0, .bool false, .slice none 0 0] 39))=W0:=⟨_,rfl⟩
 have hs0:W0.heap.size=n0+3:=by rw [←hW0];simp [hn0]
 have hb0:Below n0 w W0:=by
  rw [←hW0];exact (((Below.refl _ w).alloc (by omega) _).alloc (by simp;omega) _).alloc (by simp;omega) _
 have hk0:W0.heap[n0]? = some (.cells #[.int .i64 k] 3 (0,0)):=by rw [←hW0,heap_alloc_old _ _ _ (by simp;omega),heap_alloc_old _ _ _ (by simp;omega),←hn0];exact heap_alloc_new w _
 have hr0:W0.heap[n0+1]? = some (.cells #[.slice none 0 0, .bool false, .slice none 0 0, .slice none 0 0, .bool false, .slice none 0 0] 39 (0,0)):=by
  rw [←hW0,heap_alloc_old _ _ _ (by simp;omega)];have:=heap_alloc_new (w.alloc (.cells #[.int .i64 k] 3)) (.cells #[.slice none 0 0, .bool false, .slice none 0 0, .slice none 0 0, .bool false, .slice none 0 0] 39);rw [World.size_alloc,hn0] at this;exact this
 have ho0:W0.heap[n0+2]? = some (.cells #[.slice none 0 0, .bool false, .slice none 0 0, .slice none 0 0, .bool false, .slice none 0 0] 39 (0,0)):=by
  rw [←hW0];have:=heap_alloc_new ((w.alloc (.cells #[.int .i64 k] 3)).alloc (.cells #[.slice none 0 0, .bool false, .slice none 0 0, .slice none 0 0, .bool false, .slice none 0 0] 39)) (.cells #[.slice none 0 0, .bool false, .slice none 0 0, .slice none 0 0, .bool false, .slice none 0 0] 39);rw [World.size_alloc,World.size_alloc,hn0] at this;exact this
 rw [hW0];have hlow:∀ b,M b→b<n0:=fun b hb=>by have:=hM.1 b hb;omega
 have hk1:bJ M w (fun b=>M b∨b=n0+1∨b=n0+2) W0:=fun b o hb ho _=>by
  have hlt:=(gE.1 ho).1;exact ⟨fun h=>h.elim hb (by omega),(hb0.block b (by omega)).trans ho⟩
 have hM0:dP (fun b=>M b∨b=n0+1∨b=n0+2) W0:=⟨fun b hb=>hb.elim (fun h=>by have:=hlow b h;omega) (by omega),hM.2.dU hk1⟩
 simp only [hn0];refine lE (fun b=>M b∨b=n0+1∨b=n0+2) g caps V R hR hV (o:=n0+2) (T:=39) (p:=8) (d:=6) (id:=0) (cs:=fun i=>if i=0 then [.exact (.slice none 0 0), .exact (.bool false), .exact (.slice none 0 0), .exact (.slice none 0 0), .exact (.bool false), .exact (.slice none 0 0)] else eV (lZ V k (i-1)).1 (lZ V k (i-1)).2) hM0 (aL.mono _ hk1 hvp) rfl (.inr (.inr rfl)) ho0 ?_ ?_ ?_ ?_
 ·exact ⟨⟨rfl,rfl⟩,⟨rfl,rfl⟩,⟨rfl,rfl⟩,⟨rfl,rfl⟩,⟨rfl,rfl⟩,⟨rfl,rfl⟩,trivial⟩
 ·intro l u0 u1 u2 u3 u4 u5 W K hone hK
  gi_wp2
  rw [iG (heap_alloc_new W _) (hone _ (by simp)) (hone _ (by simp)) (hone _ (by simp)) (hone _ (by simp)) (hone _ (by simp)) (hone _ (by simp))]
  gi_wp2
  exact hK
 ·intro i hi l W cur b x Q hq hMW hkp hcu hcr hp hQ;have hkv:(aL.dK [.int .i64 k]).rep (fun b=>M b∨b=n0+1∨b=n0+2) W (.pointer (some ⟨n0,0,none⟩)):=⟨n0,0,#[.int .i64 k],3,(0,0),rfl,fun h=>h.elim (fun h=>absurd (hlow _ h) (by omega)) (by omega),(hkp _ _ (fun h=>h.elim (fun h=>absurd (hlow _ h) (by omega)) (by omega)) hk0 rfl).2,⟨rfl,rfl⟩,trivial⟩
  have hlen:cur.size=6:=by have:=hcr.length;simp only [Array.length_toList] at this;rw [←this];split<;>rfl
  by_cases hlt:i<R
  ·refine mN (N:=19) (t0:=5) (T:=39) (n:=6) (want:=0) (g:=n0+2) (cur:=cur) (ins:=[(3, .ref 1),(6, .ref 6)]) (xs:=[.ref [.int .i64 k], .ref (eV (V i).1 (V i).2)]) fo ⟨rfl,rfl,trivial⟩
    (Vq k (V i) _ (by split<;>rfl) hk (hf i hi).1 (hf i hi).2 (hgt i hlt)) (by kernel_rfl) (by kernel_rfl) hq hMW (.inr (.inr rfl)) rfl rfl (by split<;>rfl) (by omega) ⟨hkv,hp,trivial⟩ rfl hcu hcr ?_
   intro a' W' us cur' hg _ _ _ hc' _ hr';rw [if_pos hlt] at hQ;exact hQ a' W' cur' hg hc' hr'
  ·obtain rfl:i=R:=by omega
   refine mN (N:=19) (t0:=5) (T:=39) (n:=6) (want:=1) (g:=n0+2) (cur:=cur) (ins:=[(3, .ref 1),(6, .ref 6)]) (xs:=[.ref [.int .i64 k], .ref (eV (V i).1 (V i).2)]) fo ⟨rfl,rfl,trivial⟩
    (UY k (V i) _ (by split<;>rfl) hk (hf i hi).1 (hf i hi).2 hle) (by kernel_rfl) (by kernel_rfl) hq hMW (.inr (.inr rfl)) rfl rfl (by split<;>rfl) (by omega) ⟨hkv,hp,trivial⟩ rfl hcu hcr ?_
   intro a' W' us cur' hg _ _ _ hc' _ hr';rw [if_neg hlt] at hQ;exact hQ a' W' cur' hg hc' hr'
 ·intro W cur hos htape hout hsz hblk hD hcu hcr;rw [if_neg (by omega)] at hcr;simp only [Nat.add_sub_cancel] at hcr;obtain ⟨u0,u1,u2,u3,u4,u5,hcc⟩:=Ay hcr;have hone:=hcr.one;rw [hcc] at hcr hone;obtain rfl:cur = #[u0,u1,u2,u3,u4,u5]:=by rw [←Array.toArray_toList (xs:=cur),hcc]
  have hr1:W.heap[n0+1]? = some (.cells #[.slice none 0 0, .bool false, .slice none 0 0, .slice none 0 0, .bool false, .slice none 0 0] 39 (0,0)):=(hblk _ (by omega) (by omega)).trans hr0;have c0:W.cell? ⟨n0+2,0,none⟩=some u0:=aB hcu rfl;have c1:W.cell? ⟨n0+2,1,none⟩=some u1:=aB hcu rfl;have c2:W.cell? ⟨n0+2,2,none⟩=some u2:=aB hcu rfl;have c3:W.cell? ⟨n0+2,3,none⟩=some u3:=aB hcu rfl;have c4:W.cell? ⟨n0+2,4,none⟩=some u4:=aB hcu rfl;have c5:W.cell? ⟨n0+2,5,none⟩=some u5:=aB hcu rfl
  gi_wp2
  rw [iG hr1 (hone _ (by simp)) (hone _ (by simp)) (hone _ (by simp)) (hone _ (by simp)) (hone _ (by simp)) (hone _ (by simp))];have hr4:=setRow_heap W (n0+1) _ #[u0,u1,u2,u3,u4,u5] 39 (0,0) hr1;have hot:∀ j,j≠n0+1→(W.setRow (n0+1) #[u0,u1,u2,u3,u4,u5]).heap[j]? = W.heap[j]?:=fun j hj=>setRow_other W (n0+1) j _ hj;have hs4:(W.setRow (n0+1) #[u0,u1,u2,u3,u4,u5]).heap.size=W.heap.size:=by simp [World.setRow]
  have ho4:(W.setRow (n0+1) #[u0,u1,u2,u3,u4,u5]).os=W.os∧(W.setRow (n0+1) #[u0,u1,u2,u3,u4,u5]).tape=W.tape∧(W.setRow (n0+1) #[u0,u1,u2,u3,u4,u5]).output=W.output:=⟨rfl,rfl,rfl⟩
  generalize W.setRow (n0+1) #[u0,u1,u2,u3,u4,u5]=W4 at *;have d0:W4.cell? ⟨n0+1,0,none⟩=some u0:=aB hr4 rfl;have d1:W4.cell? ⟨n0+1,1,none⟩=some u1:=aB hr4 rfl;have d2:W4.cell? ⟨n0+1,2,none⟩=some u2:=aB hr4 rfl;have d3:W4.cell? ⟨n0+1,3,none⟩=some u3:=aB hr4 rfl;have d4:W4.cell? ⟨n0+1,4,none⟩=some u4:=aB hr4 rfl;have d5:W4.cell? ⟨n0+1,5,none⟩=some u5:=aB hr4 rfl
  gi_wp2
  have hD4:W4.heap[n0+3]? = some (.deferred (some [])):=(hot _ (by omega)).trans (hs0▸hD);refine ⟨by simp, .inl ⟨_,_,rfl,run_takeDeferred hD4,?_⟩⟩;have hot5:∀ j,j≠n0+3→(W4.putObj (n0+3) (.deferred none)).heap[j]? = W4.heap[j]?:=fun j hj=>World.putObj_heap_other hj;have hs5:(W4.putObj (n0+3) (.deferred none)).heap.size=W4.heap.size:=World.putObj_size;have ho5:(W4.putObj (n0+3) (.deferred none)).os=W4.os∧(W4.putObj (n0+3) (.deferred none)).tape=W4.tape∧(W4.putObj (n0+3) (.deferred none)).output=W4.output:=⟨rfl,rfl,rfl⟩
  generalize W4.putObj (n0+3) (.deferred none)=W5 at *;have hr5:=(hot5 (n0+1) (by omega)).trans hr4;have e0:W5.cell? ⟨n0+1,0,none⟩=some u0:=aB hr5 rfl;have e1:W5.cell? ⟨n0+1,1,none⟩=some u1:=aB hr5 rfl;have e2:W5.cell? ⟨n0+1,2,none⟩=some u2:=aB hr5 rfl;have e3:W5.cell? ⟨n0+1,3,none⟩=some u3:=aB hr5 rfl;have e4:W5.cell? ⟨n0+1,4,none⟩=some u4:=aB hr5 rfl;have e5:W5.cell? ⟨n0+1,5,none⟩=some u5:=aB hr5 rfl;refine ⟨.agg #[u0,u1,u2,u3,u4,u5],?_,?_,[.agg #[u0,u1,u2,u3,u4,u5]],rfl,⟨_,rfl,hcr.mono fun b x hb hx hxc=>⟨fun h=>hb (.inl h),?_⟩⟩,trivial⟩
  ·simp [results,show f38.results = #[.cell 4 39] from rfl,go_sem,e0,e1,e2,e3,e4,e5]
  ·have hW:∀ j,j<n0→W5.heap[j]? = w.heap[j]?:=fun j hj=>(hot5 j (by omega)).trans ((hot j (by omega)).trans ((hblk j (by omega) (by omega)).trans (hb0.block j (by omega))));exact ⟨ho5.1.trans (ho4.1.trans (hos.trans hb0.os)),ho5.2.1.trans (ho4.2.1.trans (htape.trans hb0.tape)),ho5.2.2.trans (ho4.2.2.trans (hout.trans hb0.output)),by omega,fun j hj=>hW j (by omega)⟩
  ·have h1:b≠n0+1:=fun e=>hb (.inr (.inl e));have h3:b≠n0+3:=fun e=>by rw [e,←hs0,hD] at hx;cases hx;cases hxc
   exact (hot5 b h3).trans ((hot b h1).trans hx)
end Go.Sy
