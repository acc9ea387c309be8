/- Part. -/
import Derived.Test.YtacgmapjhpghkaaGreatDoorSe
import Derived.Test.YtacgmapjhpghkaaGreatDoorQc
set_option linter.all false
namespace Go.Sy
open Go Go.RowKit
variable {F:Fence} {n m:Nat} {P:Program}
abbrev gE (fn:FuncId) (tmps:Array Value) (ps:Array Tmp) (assign body:Code) (D:Nat) (st:LoopState) (pe:Option Code):Loop:={ state:=st,pending:=pe,fn,tmps,params:=ps,assign,body,defers:=D }
def bw4 (P:Program) (l:Nat) (r:LoopState->Option Code->Loop) (R:Bool->Option Code->World->Prop):Exit->Act->World->Prop
 | .normal,_,W=>W.heap[l]? = some (.loop (r .busy none))/\R true none (W.putObj l (.loop (r .ready none)))
 | .ret,_,W=>W.heap[l]? = some (.loop (r .busy none))/\R false (some .ret) (W.putObj l (.loop (r .done (some .ret))))
 | .exit id,_,W=>W.heap[l]? = some (.loop (r .busy none))/\R false (some (.exit id)) (W.putObj l (.loop (r .done (some (.exit id)))))
 | _,_,_=>False
theorem SF {fn:FuncId} {tmps:Array Value} {ps:Array Tmp} {assign body:Code} {D l:Nat} {args:Array Value} {W:World} {R:Bool->Option Code->World->Prop}
  (hl:W.heap[l]? = some (.loop (gE fn tmps ps assign body D .ready none))) (hps:args.size=ps.size) (hF:F.fn fn)
  (h:assign.wpIn (F.inRound l) m P (Exit.then (fun a1 W1=>W1.heap[l]? = some (.loop (gE fn tmps ps assign body D .ready none)) /\
    body.wpIn (F.inRound l) m P (bw4 P l (gE fn tmps ps assign body D) R) a1 (W1.putObj l (.loop (gE fn tmps ps assign body D .busy none)))) (fun _ _ _=>False))
   { tmps:=(ps.zip args).foldl (fun t (p,v)=>t.setIfInBounds p v) tmps,defers:=[] } W) :
  YieldAt F m P l args W fun e W'=>∃ b c,e = .returned (.bool b)/\R b c W':=by
 have hy:=run_yield (P:=P) (args:=args) hl hps;refine ⟨fn,_,assign,body,hy,roundIn_of_wpIn hF (wpIn_mono h ?_)⟩;rintro e a1 W1 hp;cases e with
 | normal=>
   obtain ⟨hl1,hb⟩:=hp;refine ⟨_,run_beginRound hl1 rfl,wpIn_mono hb ?_⟩;rintro e a3 W3 hp;cases e with
   | normal=>
     obtain ⟨hl3,hR⟩:=hp;exact ⟨_,_,run_endRound (P:=P) none hl3,true,none,rfl,hR⟩
   | ret=>
     obtain ⟨hl3,hR⟩:=hp;exact ⟨_,_,run_endRound (P:=P) (some .ret) hl3,false,_,rfl,hR⟩
   | exit id=>
     obtain ⟨hl3,hR⟩:=hp;exact ⟨_,_,run_endRound (P:=P) (some (.exit id)) hl3,false,_,rfl,hR⟩
   | goto t=>exact hp.elim
   | panic ch=>exact hp.elim
   | outgrown=>exact hp.elim
 | ret=>exact hp.elim
 | exit id=>exact hp.elim
 | goto t=>exact hp.elim
 | panic ch=>exact hp.elim
 | outgrown=>exact hp.elim
theorem Tz {g:Operand} {ps:Array Tmp} {assign body:Code} {Q:Exit->Act->World->Prop} {a:Act} {w:World}
  (hro:F.round=none) (h1:1<=n) {gf:Nat} {lb:Array Value} (hg:a.eval g = .func (.func gf) #[] lb) (hFg:F.fn gf) (eg:∀ args w,(callFunc gf args).run P w = .ok (.enter gf args) w)
  (h:∀ (fn:FuncId) (D l:Nat) (W1:World),F.fn fn->D=w.heap.size->l=w.heap.size+1->W1.heap.size=w.heap.size+2->Below w.heap.size w W1->W1.heap[D]? = some (.deferred (some [])) ->
   W1.heap[l]? = some (.loop (gE fn a.tmps ps assign body D .ready none)) ->
   CallsIn F (n-1) P gf (#[.func (.yield l) #[] #[]]++lb) W1 fun e W2=>(∃ v,e = .returned v) /\
    ((W2.heap[l]? = some (.loop (gE fn a.tmps ps assign body D .ready none))/\Q .normal { a with defers:={ target:=.collected D,args:=#[] } :: a.defers } (W2.putObj l (.loop (gE fn a.tmps ps assign body D .exhausted none)))) \/
    (∃ c,W2.heap[l]? = some (.loop (gE fn a.tmps ps assign body D .done (some c)))/\c.wpIn F n P Q { a with defers:={ target:=.collected D,args:=#[] } :: a.defers } (W2.putObj l (.loop (gE fn a.tmps ps assign body D .exhausted (some c))))))) :
  (Code.rangeFunc g ps assign body).wpIn F n P Q a w:=by
 refine wpIn_rangeFunc ?_;intro fn hfn;rw [hro];obtain ⟨W1,hW1⟩:∃ W1,(w.alloc (.deferred (some []))).alloc (.loop (gE fn a.tmps ps assign body w.heap.size .ready none))=W1:=⟨_,rfl⟩
 have hL1:W1.heap[w.heap.size+1]? = some (.loop (gE fn a.tmps ps assign body w.heap.size .ready none)):=by
  rw [<-hW1];have:=World.alloc_heap_new (w.alloc (.deferred (some []))) (.loop (gE fn a.tmps ps assign body w.heap.size .ready none));rwa [World.size_alloc] at this
 have hK1:W1.heap[w.heap.size]? = some (.deferred (some [])):=by
  rw [<-hW1];exact (Below.heap_alloc _ _ _ (by simp)).trans (World.alloc_heap_new w _)
 have hb1:Below w.heap.size w W1:=by
  rw [<-hW1];exact ((Below.refl _ w).alloc (aY _) _).alloc (by simp) _
 have vY:W1.heap.size=w.heap.size+2:=by rw [<-hW1];simp
 refine ⟨w.heap.size+1,[{ target:=.collected w.heap.size,args:=#[] }],W1,{ target:=.fn (.func gf) lb,args:=#[.func (.yield (w.heap.size+1)) #[] #[]] },W1,gf,
  #[.func (.yield (w.heap.size+1)) #[] #[]]++lb,W1,?_,?_,?_,?_,fun _=>h1,?_⟩
 .rw [<-hW1];exact run_enterLoop_outer _ _ _ _ _
 .simp only [resolve,hg];simp [go_sem]
 .intro f' hf';simp [Target.leads] at hf';subst hf';exact hFg
 .simp [invoke,go_sem,eg]
 .refine (h fn _ _ W1 hfn rfl rfl vY hb1 hK1 hL1).mono ?_;rintro e W2 ⟨⟨v,rfl⟩,(⟨hl,hq⟩ | ⟨c,hl,hq⟩)⟩
  .exact ⟨none,_,by have:=run_endLoop (P:=P) hl (by simp);exact this,hq⟩
  .exact ⟨some c,_,by have:=run_endLoop (P:=P) hl (by simp);exact this,hq⟩
open Go Go.RowKit
abbrev Mb (M:Nat->Prop) (g:Nat) (k:Nat):Prop:=M k\/k=g
structure Kp (M:Nat->Prop) (W:World) (M':Nat->Prop) (W':World):Prop where
 os:W'.os=W.os
 tape:W'.tape=W.tape
 output:W'.output=W.output
 size:W.heap.size<=W'.heap.size
 same:∀ k,k<W.heap.size->¬ M k->¬ M' k/\W'.heap[k]? = W.heap[k]?
theorem Kp.refl (M:Nat->Prop) (W:World):Kp M W M W:=⟨rfl,rfl,rfl,aY _,fun _ _ h=>⟨h,rfl⟩⟩
theorem Kp.trans {M M' M'':Nat->Prop} {W W' W'':World} (h:Kp M W M' W') (k:Kp M' W' M'' W''):Kp M W M'' W'':=
 ⟨k.os.trans h.os,k.tape.trans h.tape,k.output.trans h.output,Nat.le_trans h.size k.size,fun j hj hm=>by
  obtain ⟨h1,h2⟩:=h.same j hj hm;obtain ⟨k1,k2⟩:=k.same j (Nat.lt_of_lt_of_le hj h.size) h1;exact ⟨k1,k2.trans h2⟩⟩
theorem Kp.eE {M M':Nat->Prop} {W W':World} (h:Kp M W M' W'):bO M W M' W':=fun b o hb ho _=>by
 obtain ⟨h1,h2⟩:=h.same b (cS.1 ho).1 hb;exact ⟨h1,h2.trans ho⟩
theorem Kp.aF1 {M N M':Nat->Prop} {W W':World} (h:Kp M W M' W') (hN:∀ k,M k->N k):Kp N W M' W':=
 ⟨h.os,h.tape,h.output,h.size,fun k hk hn=>h.same k hk fun hm=>hn (hN k hm)⟩
theorem Kp.below {M:Nat->Prop} {W W':World} (h:Below W.heap.size W W'):Kp M W M W':=⟨h.os,h.tape,h.output,h.size,fun k hk hm=>⟨hm,h.block k hk⟩⟩
theorem Kp.grown {M:Nat->Prop} {W W':World} {g:Nat} (hg:M g) (h:W.grownBy W' (some g)):Kp M W M W':=⟨h.os,h.tape,h.output,h.size,fun k hk hm=>⟨hm,h.block k hk fun e=>hm (Option.some.inj e▸hg)⟩⟩
theorem Kp.step {N M M':Nat->Prop} {W0 W W':World} {b:Nat} (h:Kp N W0 M W) (hb:W0.heap.size<=b\/N b) (k:Kp (Mb M b) W M' W'):Kp N W0 M' W':=
 ⟨k.os.trans h.os,k.tape.trans h.tape,k.output.trans h.output,Nat.le_trans h.size k.size,fun j hj hn=>by
  obtain ⟨h1,h2⟩:=h.same j hj hn;obtain ⟨k1,k2⟩:=k.same j (Nat.lt_of_lt_of_le hj h.size) fun e=>e.elim h1 fun e=>by subst e;exact hb.elim (fun h=>by omega) hn
  exact ⟨k1,k2.trans h2⟩⟩
theorem wG {id:Nat} {Q:Exit->Act->World->Prop} {a:Act} {w:World} (h:Q .normal a w):Exit.inBlock id Q (.exit id) a w:=by
 show (if id=id then Q .normal a w else Q (.exit id) a w);rw [if_pos rfl];exact h
theorem vX {K1 K2:Act->World->Prop} {id:Nat} {Q:Exit->Act->World->Prop} {a:Act} {w:World} (h:Q .normal a w):Exit.then K1 (Exit.then K2 (Exit.inBlock id Q)) (.exit id) a w:=wG h
def TI (p:Prop):Prop:=p
theorem Fu {W W':World} (hb:Below W.heap.size W W') (g:Option Nat):W.grownBy W' g:=⟨hb.os,hb.tape,hb.output,hb.size,fun j hj _=>hb.block j hj⟩
structure qK (E sz:Nat) (ts:List (List aD)) (M:Nat->Prop) (W:World) (v:Value) (b:Nat):Prop where
 off:¬ M b
 own:v.ownBlock=some b
 full:∃ cur:Array Value,W.heap[b]? = some (.cells cur E (0,0))/\cur.size=ts.length*sz
 row:∃ xs,W.ownsRow 0 E sz v ts.length xs/\(∀ t∈ts,t.length=sz)/\bA (Mb M b) W ts.flatten xs
theorem qK.one {E sz:Nat} {ts:List (List aD)} {M:Nat->Prop} {W:World} {v:Value} {b:Nat} (h:qK E sz ts M W v b):v.oneCell'=true:=by
 obtain ⟨xs,⟨_,h1⟩,_⟩:=h.row;rcases h1 with ⟨rfl,_⟩ | ⟨g,cap,cur,rfl,_⟩<;>rfl
theorem qK.lt {E sz:Nat} {ts:List (List aD)} {M:Nat->Prop} {W:World} {v:Value} {b:Nat} (h:qK E sz ts M W v b):b<W.heap.size:=by
 obtain ⟨xs,ho,_⟩:=h.row;exact (ho.lt b h.own).2
structure cV (E sz:Nat) (ts:List (List aD)) (N:Nat->Prop) (W:World) (v:Value) (b:Nat):Prop where
 own:v.ownBlock=some b
 full:∃ cur:Array Value,W.heap[b]? = some (.cells cur E (0,0))/\cur.size=ts.length*sz
 row:∃ xs,W.ownsRow 0 E sz v ts.length xs/\(∀ t∈ts,t.length=sz)/\bA N W ts.flatten xs
theorem lY {W W':World} {base E sz n b:Nat} {v:Value} {xs:List Value} (h:W.ownsRow base E sz v n xs) (ho:v.ownBlock=some b) (hb:W'.heap[b]? = W.heap[b]?):W'.ownsRow base E sz v n xs:=by
 refine ⟨h.1,?_⟩;rcases h.2 with hn | ⟨g,cap,cur,rfl,hbg,hg,rest⟩
 .exact .inl hn
 .have:g=b:=Option.some.inj ho;subst this;exact .inr ⟨g,cap,cur,rfl,hbg,hb.trans hg,rest⟩
theorem cV.mono {E sz:Nat} {ts:List (List aD)} {N N':Nat->Prop} {W W':World} {v:Value} {b:Nat} (h:cV E sz ts N W v b) (hk:bO N W N' W') (hb:W'.heap[b]? = W.heap[b]?):cV E sz ts N' W' v b:=by
 obtain ⟨xs,h1,h2,h3⟩:=h.row;obtain ⟨cur,hc,hcs⟩:=h.full;exact ⟨h.own,⟨cur,hb.trans hc,hcs⟩,xs,lY h1 h.own hb,h2,h3.mono hk⟩
theorem cV.lt {E sz:Nat} {ts:List (List aD)} {N:Nat->Prop} {W:World} {v:Value} {b:Nat} (h:cV E sz ts N W v b):b<W.heap.size:=by
 obtain ⟨xs,ho,_⟩:=h.row;exact (ho.lt b h.own).2
theorem cV.at {E sz:Nat} {ts:List (List aD)} {N M:Nat->Prop} {W:World} {v:Value} {b:Nat} (h:cV E sz ts N W v b) (hN:∀ k,Mb M b k->N k) (hb:¬ M b):qK E sz ts M W v b:=by
 obtain ⟨xs,h1,h2,h3⟩:=h.row;exact ⟨hb,h.own,h.full,xs,h1,h2,h3.mono fun k o hk ho _=>⟨fun h=>hk (hN k h),ho⟩⟩
structure Host (n1:Nat) {σ:Type} (Ms:σ->Nat->Prop) (nx:σ->Nat) (J:Nat->σ->World->Prop):Prop where
 zJ:∀ {i s W},J i s W->cK (Ms s) W
 near:∀ {i s W},J i s W->nx s<=W.heap.size
 grow:∀ {i s W W'} {g:Nat},J i s W->n1<=g->¬ Ms s g->(∀ o:Obj,W.heap[g]? = some o->o.isCells=false)->W.grownBy W' (some g)->J i s W'
theorem Host.below {n1:Nat} {σ:Type} {Ms:σ->Nat->Prop} {nx:σ->Nat} {J:Nat->σ->World->Prop} (h:Host n1 Ms nx J) {i:Nat} {s:σ} {W W':World} (hj:J i s W) (hn:n1<=W.heap.size) (hb:Below W.heap.size W W'):J i s W':=
 h.grow (g:=W.heap.size) hj hn (fun hm=>Nat.lt_irrefl _ ((h.zJ hj).1 _ hm)) (fun o ho=>by have:=(cS.1 ho).1;omega) (Fu hb _)
def aT4 (P:Program) (E sz:Nat) (rows:List (List (List aD))) (S X:Nat->Prop) (l n1:Nat) {σ:Type} (Ms:σ->Nat->Prop) (nx:σ->Nat) (J:Nat->σ->World->Prop):Prop:=
 ∀ i s W v b ts,rows[i]? = some ts->J i s W->cV E sz ts (fun k=>Ms s k\/X k\/k=b) W v b->¬ Ms s b->((n1<=b/\nx s<=b)\/S b)->YieldAt Fence.wide 0 P l #[v] W fun e W'=>e = .returned (.bool true)/\∃ s',J (i+1) s' W'/\Kp (Mb (Ms s) b) W (Ms s') W'
def Gen (P:Program) (E sz:Nat) (gf:Nat) (lb:Array Value) (rows:List (List (List aD))) (S X:Nat->Prop) (M:Nat->Prop) (w:World):Prop:=
 ∀ (W:World) {σ:Type} (Ms:σ->Nat->Prop) (nx:σ->Nat) (s0:σ) (l:Nat) (J:Nat->σ->World->Prop),Below w.heap.size w W->(∀ k,k<w.heap.size->Ms s0 k->M k)->Host W.heap.size Ms nx J->aT4 P E sz rows S X l W.heap.size Ms nx J->J 0 s0 W ->
   Calls P gf (#[.func (.yield l) #[] #[]]++lb) W fun e W'=>(∃ v,e = .returned v)/\∃ s',J rows.length s' W'/\Kp (fun k=>Ms s0 k\/S k) W (Ms s') W'
theorem cV.one {E sz:Nat} {ts:List (List aD)} {N:Nat->Prop} {W:World} {v:Value} {b:Nat} (h:cV E sz ts N W v b):v.oneCell'=true:=by
 obtain ⟨xs,⟨_,h1⟩,_⟩:=h.row;rcases h1 with ⟨rfl,_⟩ | ⟨g,cap,cur,rfl,_⟩<;>rfl
theorem qK.in {E sz:Nat} {ts:List (List aD)} {M N:Nat->Prop} {W:World} {v:Value} {b:Nat} (h:qK E sz ts M W v b) (hN:∀ k,N k->Mb M b k):cV E sz ts N W v b:=by
 obtain ⟨xs,h1,h2,h3⟩:=h.row;exact ⟨h.own,h.full,xs,h1,h2,h3.mono fun k o hk ho _=>⟨fun h=>hk (hN k h),ho⟩⟩
theorem cV.less {E sz:Nat} {ts:List (List aD)} {N N':Nat->Prop} {W:World} {v:Value} {b:Nat} (h:cV E sz ts N W v b) (hN:∀ k,N' k->N k):cV E sz ts N' W v b:=h.mono (fun k o hk ho _=>⟨fun h=>hk (hN k h),ho⟩) rfl
theorem cV.other {E sz:Nat} {ts:List (List aD)} {N:Nat->Prop} {W W':World} {v:Value} {b:Nat} (h:cV E sz ts N W v b) (hk:∀ (j:Nat) (o:Obj),W.heap[j]? = some o->o.isCells=true->W'.heap[j]? = W.heap[j]?):cV E sz ts N W' v b:=by
 obtain ⟨xs,h1,h2,h3⟩:=h.row;obtain ⟨cur0,hc0,hcs0⟩:=h.full;refine ⟨h.own,⟨cur0,(hk b _ hc0 rfl).trans hc0,hcs0⟩,xs,⟨h1.1,?_⟩,h2,h3.mono fun k o hm ho hc=>⟨hm,(hk k o ho hc).trans ho⟩⟩;rcases h1.2 with hn | ⟨g,cap,cur,e,hbg,hg,rest⟩
 .exact .inl hn
 .exact .inr ⟨g,cap,cur,e,hbg,(hk g _ hg rfl).trans hg,rest⟩
theorem YieldAt.any {P:Program} {m m' l:Nat} {args:Array Value} {W:World} {R:Ending->World->Prop} (l':Nat) (h:YieldAt Fence.wide m P l args W R):YieldAt (Fence.wide.inRound l') m' P l args W R:=by
 obtain ⟨fn,tmps,assign,body,hy,hr⟩:=h;exact ⟨fn,tmps,assign,body,hy,trivial,fun c cs _=>hr.2 c cs (room_wide _)⟩
theorem YieldAt.plain {P:Program} {m m' l:Nat} {args:Array Value} {W:World} {R:Ending->World->Prop} (h:YieldAt Fence.wide m P l args W R):YieldAt Fence.wide m' P l args W R:=by
 obtain ⟨fn,tmps,assign,body,hy,hr⟩:=h;exact ⟨fn,tmps,assign,body,hy,trivial,fun c cs _=>hr.2 c cs (room_wide _)⟩
theorem YieldAt.imp {P:Program} {m m' l:Nat} {args:Array Value} {W:World} {R R':Ending->World->Prop} (h:YieldAt Fence.wide m P l args W R) (hR:∀ e w,R e w->R' e w):YieldAt Fence.wide m' P l args W R':=by
 obtain ⟨fn,tmps,assign,body,hy,hr⟩:=h;refine ⟨fn,tmps,assign,body,hy,trivial,fun c cs _=>?_⟩;obtain ⟨e,w',fr,hx⟩:=hr.2 c cs (room_wide _);exact ⟨e,w',hR e w' fr,hx⟩
theorem qK.other {E sz:Nat} {ts:List (List aD)} {M:Nat->Prop} {W W':World} {v:Value} {b:Nat} (h:qK E sz ts M W v b) (hk:∀ (j:Nat) (o:Obj),W.heap[j]? = some o->o.isCells=true->W'.heap[j]? = W.heap[j]?):qK E sz ts M W' v b:=by
 obtain ⟨xs,h1,h2,h3⟩:=h.row;obtain ⟨cur0,hc0,hcs0⟩:=h.full;refine ⟨h.off,h.own,⟨cur0,(hk b _ hc0 rfl).trans hc0,hcs0⟩,xs,?_,h2,h3.mono fun k o hm ho hc=>⟨hm,(hk k o ho hc).trans ho⟩⟩;refine ⟨h1.1,?_⟩;rcases h1.2 with hn | ⟨g,cap,cur,e,hbg,hg,rest⟩
 .exact .inl hn
 .exact .inr ⟨g,cap,cur,e,hbg,(hk g _ hg rfl).trans hg,rest⟩
abbrev Mx (M:Nat->Prop) (bs:List Nat) (n2:Nat) (k:Nat):Prop:=M k\/n2<=k\/k∈bs
structure WJ (n2:Nat) (lo:Obj) (N:Nat->Prop) (W0:World) (yl mv p2 p3:Value) (aU:List Value) (bs:List Nat) (E sz:Nat) (rows:List (List (List aD))) (fr:Nat) (M:Nat->Prop) (W:World):Prop where
 big:n2+2<=W.heap.size
 hD:W.heap[n2]? = some (.deferred (some []))
 hl:W.heap[n2+1]? = some lo
 nD:¬ M n2
 nl:¬ M (n2+1)
 q3:(aD.bH [.exact yl]).rep (Mx M bs n2) W p3
 q2:(aD.bH [.exact mv]).rep (Mx M bs n2) W p2
 qm:(aD.slice 1 (aU.map fun v=>[.exact v])).rep (Mx M bs n2) W mv
 qr:∀ (j:Nat) (v:Value) (b:Nat) (ts:List (List aD)),fr<=j->aU[j]? = some v->bs[j]? = some b->rows[j]? = some ts->b<n2/\¬ M b/\cV E sz ts (Mx M bs n2) W v b
 kp:Kp N W0 M W
section
variable {n2:Nat} {lo lo':Obj} {N:Nat->Prop} {W0:World} {yl mv p2 p3:Value} {aU:List Value} {bs:List Nat} {E sz:Nat} {rows:List (List (List aD))} {fr fr':Nat} {M M':Nat->Prop} {W W':World}
theorem WJ.to (h:WJ n2 lo N W0 yl mv p2 p3 aU bs E sz rows fr M W) (hs:W.heap.size<=W'.heap.size) (hD:W'.heap[n2]? = some (.deferred (some []))) (hl:W'.heap[n2+1]? = some lo') (nD:¬ M' n2) (nl:¬ M' (n2+1)) (hf:fr<=fr')
  (hk:∀ k,k<n2->¬ M k->k ∉ bs->¬ M' k/\W'.heap[k]? = W.heap[k]?) (hr:∀ j b,fr'<=j->bs[j]? = some b->b<n2->¬ M b->¬ M' b/\W'.heap[b]? = W.heap[b]?) (kp:Kp N W0 M' W'):WJ n2 lo' N W0 yl mv p2 p3 aU bs E sz rows fr' M' W':=by
 have hke:bO (Mx M bs n2) W (Mx M' bs n2) W':=fun k o hm ho _=>by
  have h1:¬ M k:=fun h=>hm (.inl h);have h2:k<n2:=Nat.lt_of_not_le fun h=>hm (.inr (.inl h));have h3:k ∉ bs:=fun h=>hm (.inr (.inr h));obtain ⟨h4,h5⟩:=hk k h2 h1 h3;exact ⟨fun h=>h.elim h4 fun h=>h.elim (fun h=>by omega) h3,h5.trans ho⟩
 refine ⟨by have:=h.big;omega,hD,hl,nD,nl,aD.mono _ hke h.q3,aD.mono _ hke h.q2,aD.mono _ hke h.qm,fun j v b ts hj hv hb ht=>?_,kp⟩;obtain ⟨h1,h2,h3⟩:=h.qr j v b ts (by omega) hv hb ht;obtain ⟨h4,h5⟩:=hr j b hj hb h1 h2;exact ⟨h1,h4,h3.mono hke h5⟩
theorem WJ.grow (h:WJ n2 lo N W0 yl mv p2 p3 aU bs E sz rows fr M W) (hW:W0.heap.size<=n2) {g:Nat} (hg:n2+2<=g) (hb:W.grownBy W' (some g)):WJ n2 lo N W0 yl mv p2 p3 aU bs E sz rows fr M W':=by
 have hbig:=h.big;have hsame:∀ k,k<W.heap.size->k≠g->W'.heap[k]? = W.heap[k]?:=fun k hk hne=>hb.block k hk fun e=>hne (Option.some.inj e);refine h.to hb.size ((hsame _ (by omega) (by omega)).trans h.hD) ((hsame _ (by omega) (by omega)).trans h.hl) h.nD h.nl (aY _) (fun k hk hm _=>⟨hm,hsame _ (by omega) (by omega)⟩) (fun j b hj hbj hbn hm=>⟨hm,hsame b (by omega) (by omega)⟩) ?_;have kp:=h.kp
 exact ⟨hb.os.trans kp.os,hb.tape.trans kp.tape,hb.output.trans kp.output,Nat.le_trans kp.size hb.size,fun k hk hn=>by
  obtain ⟨h1,h2⟩:=kp.same k hk hn;exact ⟨h1,(hsame k (by omega) (by omega)).trans h2⟩⟩
theorem WJ.Vp (h:WJ n2 lo N W0 yl mv p2 p3 aU bs E sz rows fr M W) (hW:W0.heap.size<=n2) (lo':Obj):WJ n2 lo' N W0 yl mv p2 p3 aU bs E sz rows fr M (W.putObj (n2+1) lo'):=by
 have hbig:=h.big;have hp:∀ j,j≠n2+1->(W.putObj (n2+1) lo').heap[j]? = W.heap[j]?:=fun j hj=>World.putObj_heap_other hj;refine h.to (by simp [World.putObj]) ((hp _ (by omega)).trans h.hD) (World.putObj_heap_same (by omega)) h.nD h.nl (aY _) (fun k hk hm _=>⟨hm,hp _ (by omega)⟩) (fun j b hj hbj hbn hm=>⟨hm,hp b (by omega)⟩) ?_;have kp:=h.kp
 exact ⟨kp.os,kp.tape,kp.output,by simp only [World.putObj_size];exact kp.size,fun k hk hn=>by
  obtain ⟨h1,h2⟩:=kp.same k hk hn;exact ⟨h1,(hp k (by omega)).trans h2⟩⟩
theorem WJ.step (h:WJ n2 lo N W0 yl mv p2 p3 aU bs E sz rows fr M W) {b:Nat} (hb1:b≠n2) (hb2:b≠n2+1) (hbx:n2<=b\/b∈bs) (hbk:W0.heap.size<=b\/N b) (hf:fr<=fr') (hne:∀ (j b':Nat),fr'<=j->bs[j]? = some b'->b'<n2->b'≠b) (k:Kp (Mb M b) W M' W'):WJ n2 lo N W0 yl mv p2 p3 aU bs E sz rows fr' M' W':=by
 have hbig:=h.big;obtain ⟨d1,d2⟩:=k.same n2 (by omega) fun e=>e.elim h.nD (fun e=>hb1 e.symm);obtain ⟨l1,l2⟩:=k.same (n2+1) (by omega) fun e=>e.elim h.nl (fun e=>hb2 e.symm);refine h.to k.size (d2.trans h.hD) (l2.trans h.hl) d1 l1 hf (fun j hj hm hn=>k.same j (by omega) fun e=>e.elim hm fun e=>by subst e;exact hbx.elim (fun h=>by omega) hn) (fun j b' hj hbj hbn hm=>k.same b' (by omega) fun e=>e.elim hm (hne j b' hj hbj hbn)) (h.kp.step hbk k)
end
open Go Go.RowKit
theorem Pb {M:Nat->Prop} {w:World} {sz:Nat}:∀ {ts:List (List aD)} {xs:List Value},(∀ t∈ts,t.length=sz)->bA M w ts.flatten xs->∀ (i:Nat) (t:List aD),ts[i]? = some t->t.length=sz/\bA M w t ((xs.drop (i*sz)).take sz)
 | t0::ts,xs,hl,h,0,t,ht=>by
   simp only [List.getElem?_cons_zero,aN] at ht;subst ht;have h0:=hl t0 List.mem_cons_self;have h1:=h.take sz;rw [List.flatten_cons,List.take_append_of_le_length (by omega),List.take_of_length_le (by omega)] at h1;exact ⟨h0,by simpa using h1⟩
 | t0::ts,xs,hl,h,i+1,t,ht=>by
   have h0:=hl t0 List.mem_cons_self;have h1:=h.drop sz;rw [List.flatten_cons,List.drop_append_of_le_length (by omega),List.drop_of_length_le (by omega),List.nil_append] at h1;have:=Pb (fun t ht=>hl t (List.mem_cons_of_mem _ ht)) h1 i t (by simpa using ht);rw [List.drop_drop] at this
   rwa [show (i+1)*sz=sz+i*sz by rw [Nat.add_mul];omega]
 | [],_,_,_,i,t,ht=>by simp at ht
def aD.own (n0 E sz:Nat) (ts:List (List aD)):aD where
 rep:=fun M w v=>∃ (b cap:Nat) (cur:Array Value),v = .slice (some ⟨b,0,none⟩) ts.length cap/\n0<=b/\¬ M b/\w.heap[b]? = some (.cells cur E (0,0))/\ts.length<=cap/\cap<=maxLen/\cur.size=cap*sz/\(∀ t∈ts,t.length=sz)/\bA (Mb M b) w ts.flatten (cur.toList.take (ts.length*sz))
 mono:=by
  rintro M w M' w' v hk ⟨b,cap,cur,rfl,h1,h2,h3,h4,h5,h6,h7,h8⟩;obtain ⟨k1,k2⟩:=hk b _ h2 h3 rfl;refine ⟨b,cap,cur,rfl,h1,k1,k2,h4,h5,h6,h7,h8.mono fun k o hkm ho hc=>?_⟩;obtain ⟨k3,k4⟩:=hk k o (fun h=>hkm (.inl h)) ho hc;exact ⟨fun h=>h.elim k3 (fun e=>hkm (.inr e)),k4⟩
 one:=by
  rintro M w v ⟨b,cap,cur,rfl,_⟩;rfl
theorem aD.own.slice {n0 E sz:Nat} {ts:List (List aD)} {M:Nat->Prop} {w:World} {v:Value} (h:(aD.own n0 E sz ts).rep M w v):(aD.slice sz ts).rep M w v:=by
 obtain ⟨b,cap,cur,rfl,h1,h2,h3,h4,h5,h6,h7,h8⟩:=h;refine ⟨_,cap,rfl,h4,h5, .inr ⟨b,0,cur,E,(0,0),rfl,h2,h3,fun i t ht=>?_⟩⟩;obtain ⟨g1,g2⟩:=Pb h7 (h8.mono fun k o hk ho _=>⟨fun h=>hk (.inl h),ho⟩) i t ht;refine ⟨g1,?_⟩;have hi:=(dR.1 ht).1;have hle:(i+1)*sz<=ts.length*sz:=Nat.mul_le_mul_right _ hi;rw [Nat.add_mul,Nat.one_mul] at hle;rw [List.drop_take,List.take_take,Nat.min_eq_left (by omega)] at g2
 rwa [Nat.zero_add]
theorem aD.own.sub {n0 E sz:Nat} {ts:List (List aD)}:(aD.own n0 E sz ts).Sub (.slice sz ts):=
 .inr ⟨fun M w v h=>by obtain ⟨b,cap,cur,rfl,_⟩:=h;exact ⟨_,_,_,rfl⟩,fun M w v h=>aD.own.slice h⟩
theorem aD.own.less {n0 n1 E sz:Nat} {ts:List (List aD)} (hn:n1<=n0) {M:Nat->Prop} {w:World} {v:Value} (h:(aD.own n0 E sz ts).rep M w v):(aD.own n1 E sz ts).rep M w v:=by
 obtain ⟨b,cap,cur,rfl,h1,rest⟩:=h;exact ⟨b,cap,cur,rfl,Nat.le_trans hn h1,rest⟩
theorem aD.own.row {n0 E sz:Nat} {ts:List (List aD)} {M:Nat->Prop} {w:World} {v:Value} (h:(aD.own n0 E sz ts).rep M w v):∃ b,n0<=b/\¬ M b/\v.ownBlock=some b/\∃ xs,w.ownsRow 0 E sz v ts.length xs/\(∀ t∈ts,t.length=sz)/\bA (Mb M b) w ts.flatten xs:=by
 obtain ⟨b,cap,cur,rfl,h1,h2,h3,h4,h5,h6,h7,h8⟩:=h;have hm:=Nat.mul_le_mul_right sz h4;exact ⟨b,h1,h2,rfl,_,⟨by rw [List.length_take,Array.length_toList (xs:=cur),h6];omega, .inr ⟨b,cap,cur,rfl,dD _,h3,h4,h5,h6,rfl⟩⟩,h7,h8⟩
def aD.jP (n0 E sz:Nat) (ts:List (List aD)):aD where
 rep:=fun M w v=>∃ (b:Nat) (cur:Array Value),v = .slice (some ⟨b,0,none⟩) ts.length ts.length/\n0<=b/\¬ M b/\w.heap[b]? = some (.cells cur E (0,0))/\ts.length<=maxLen/\cur.size=ts.length*sz/\(∀ t∈ts,t.length=sz)/\bA (Mb M b) w ts.flatten cur.toList
 mono:=by
  rintro M w M' w' v hk ⟨b,cur,rfl,h1,h2,h3,h5,h6,h7,h8⟩;obtain ⟨k1,k2⟩:=hk b _ h2 h3 rfl;refine ⟨b,cur,rfl,h1,k1,k2,h5,h6,h7,h8.mono fun k o hkm ho hc=>?_⟩;obtain ⟨k3,k4⟩:=hk k o (fun h=>hkm (.inl h)) ho hc;exact ⟨fun h=>h.elim k3 (fun e=>hkm (.inr e)),k4⟩
 one:=by
  rintro M w v ⟨b,cur,rfl,_⟩;rfl
theorem aD.jP.own {n0 E sz:Nat} {ts:List (List aD)} {M:Nat->Prop} {w:World} {v:Value} (h:(aD.jP n0 E sz ts).rep M w v):(aD.own n0 E sz ts).rep M w v:=by
 obtain ⟨b,cur,rfl,h1,h2,h3,h5,h6,h7,h8⟩:=h;exact ⟨b,_,cur,rfl,h1,h2,h3,aY _,h5,h6,h7,by rwa [List.take_of_length_le (by rw [Array.length_toList (xs:=cur),h6];omega)]⟩
theorem aD.jP.slice {n0 E sz:Nat} {ts:List (List aD)} {M:Nat->Prop} {w:World} {v:Value} (h:(aD.jP n0 E sz ts).rep M w v):(aD.slice sz ts).rep M w v:=aD.own.slice (aD.jP.own h)
theorem aD.jP.sub {n0 E sz:Nat} {ts:List (List aD)}:(aD.jP n0 E sz ts).Sub (.slice sz ts):=
 .inr ⟨fun M w v h=>by obtain ⟨b,cur,rfl,_⟩:=h;exact ⟨_,_,_,rfl⟩,fun M w v h=>aD.jP.slice h⟩
theorem aD.jP.less {n0 n1 E sz:Nat} {ts:List (List aD)} (hn:n1<=n0) {M:Nat->Prop} {w:World} {v:Value} (h:(aD.jP n0 E sz ts).rep M w v):(aD.jP n1 E sz ts).rep M w v:=by
 obtain ⟨b,cur,rfl,h1,rest⟩:=h;exact ⟨b,cur,rfl,Nat.le_trans hn h1,rest⟩
theorem aD.jP.rowAt {n0 E sz:Nat} {ts:List (List aD)} {M:Nat->Prop} {w:World} {v:Value} (h:(aD.jP n0 E sz ts).rep M w v):∃ b,n0<=b/\qK E sz ts M w v b:=by
 obtain ⟨b,cur,rfl,h1,h2,h3,h5,h6,h7,h8⟩:=h;have hl:cur.toList.length=ts.length*sz:=by rw [Array.length_toList (xs:=cur),h6]
 exact ⟨b,h1,h2,rfl,⟨cur,h3,h6⟩,_,⟨hl, .inr ⟨b,ts.length,cur,rfl,dD _,h3,aY _,h5,h6,List.take_of_length_le (Nat.le_of_eq hl)⟩⟩,h7,h8⟩
def pA (P:Program) (f:FuncId) (args:List aJ) (out:Nat->List aJ):Prop:=
 (∀ ar w,(callFunc f ar).run P w = .ok (.enter f ar) w)/\∀ (M:Nat->Prop) (w:World) (vs:List Value),cK M w->cD M w args vs->Calls P f vs.toArray w fun e w'=>Below w.heap.size w w'/\rA M w' (.ret (out w.heap.size)) e
theorem YC {P:Program} {post:Out->Prop} {bk:List (List aJ->Prop)} {τ:Env} {ty:Nat} {last:Bool} {k:Tr} {f:Nat} {args:List SW} {sh:List (Option Nat)} {x:Operand} {xs:Array Operand} {xL:Array TypeId} {ts:List aJ}
  (hp:post (.IT f (args.map (nU τ)) ts)) (hs:ts.map aJ.shape=sh.map some) (hk:vc P post k (τ++ts) bk):vc P post (.need (.call f args sh) (.call ⟨.value x,xs,xL⟩) ty last k) τ bk:=
 .inr (.inr ⟨f,args,sh,ts,rfl,⟨_,_,rfl,rfl⟩,hs,hp,hk⟩)
def gV (P:Program) (n0:Nat) (out:Out) (o:Out):Prop:=cG o out\/∃ f args ts,o = .IT f args ts/\(∀ ar w,(callFunc f ar).run P w = .ok (.enter f ar) w)/\∀ (M:Nat->Prop) (w:World) (vs:List Value),n0<=w.heap.size->cK M w->cD M w args vs->Calls P f vs.toArray w fun e w'=>Below w.heap.size w w'/\rA M w' (.ret ts) e
theorem gV.IT {P:Program} {n0:Nat} {out:Out} {f:FuncId} {args:List aJ} {o:Nat->List aJ} {ts:List aJ} (h:pA P f args o) (hl:∀ n1,n0<=n1->∀ (M:Nat->Prop) (w:World) (vs:List Value),cD M w (o n1) vs->cD M w ts vs):gV P n0 out (.IT f args ts):=
 .inr ⟨f,args,ts,rfl,h.1,fun M w vs hn hM hv=>(h.2 M w vs hM hv).mono fun e w' ⟨h1,us,h2,h3⟩=>⟨h1,us,h2,hl _ hn M w' us h3⟩⟩
theorem TB {n0 E sz:Nat} {ts:List (List aD)}:∀ n1,n0<=n1->∀ (M:Nat->Prop) (w:World) (vs:List Value),cD M w [.one (.own n1 E sz ts)] vs->cD M w [.one (.own n0 E sz ts)] vs
 | n1,hn,M,w,[v],h=>⟨aD.own.less hn h.1,trivial⟩
 | _,_,_,_,[],h=>h.elim
 | _,_,_,_,_::_::_,h=>h.2.elim
theorem sS {n0 E sz:Nat} {ts:List (List aD)}:∀ n1,n0<=n1->∀ (M:Nat->Prop) (w:World) (vs:List Value),cD M w [.one (.jP n1 E sz ts)] vs->cD M w [.one (.jP n0 E sz ts)] vs
 | n1,hn,M,w,[v],h=>⟨aD.jP.less hn h.1,trivial⟩
 | _,_,_,_,[],h=>h.elim
 | _,_,_,_,_::_::_,h=>h.2.elim
theorem gV.bx5 {P:Program} {n0:Nat} {out:Out} {M0:eG} {w0:World} (hn:n0<=w0.heap.size):yD P (gV P n0 out) M0 w0:=by
 rintro f args news (h | ⟨f',args',ts',e,h1,h2⟩)
 .cases out<;>exact (h:False).elim
 .cases e;exact ⟨h1,fun M w vs hk hM hr=>h2 M w vs (Nat.le_trans hn hk.size) hM hr⟩
section
variable {P:Program}
theorem AN {f:FuncId} {fn:Func} {hints:Nat->Option Hint} {args:List Arg} {ins:List In} {out:Nat->List aJ} (hm:P.follows .mixedOrders=true) (hok:pJ P f=true)
  (hf:P.funcs[f]? = some fn) (hin:bB In.Is args ins) (h:∀ n0,vc P (gV P n0 (.ret (out n0))) (aV P fn hints args) (ins.map In.env) []):pA P f (ins.map In.ty) out:=by
 refine ⟨bJ hok,fun M w vs hM hvs=>?_⟩;replace h:=h w.heap.size;unfold aV at h;split at h
 .exact h.elim
 .rename_i c hb;split at h
  .rename_i hlen;refine calls_of_wp hf hb ?_;have hil:ins.length=args.length:=hin.length.symm;have hvl:vs.length=args.length:=by rw [<-hvs.length];simpa using hil
   refine xQ (M0:=⟨M,⟨0,Go.undef,#[]⟩⟩) (w0:=w) hm c 0 0 0 args.length _ [] _ (ins.map In.env) [] h (by simpa using hil) (by intro x hx;cases hx) (aY _) (fun _=>⟨0,Go.undef,#[]⟩) _ w _ ?_ ?_ (gV.bx5 (aY _)) ?_
   .exact Rq hin hM hlen hvs
   .intro c v a w' hp;rcases hp with hp | ⟨_,_,_,e,_⟩
    .exact hp.elim
    .cases e
   .intro ex nb s dec m bk' ρ a w' _ _ hv _ hs
    have key:vc P (gV P w.heap.size (.ret (out w.heap.size))) (match (BD P s fn.results.toList).run s with
      | some (vs,_)=>.ret vs
      | none=>.fail 1008) (ins.map In.env++m) bk'->a.defers = []/\∃ v,(results fn a.tmps).run P w' = .ok v w'/\(Below w.heap.size w w'/\rA M w' (.ret (out w.heap.size)) (.returned v)):=by
     intro hv;split at hv
     .rename_i vs' l hq;obtain ⟨us,hr,hrep⟩:=nS hs hq (pH hs _);refine ⟨hs.df,_,fA fn a.tmps us hr,hs.below.below,?_⟩;rcases hv with hv | ⟨_,_,_,e,_⟩
      .exact ⟨us,rfl,cD.sub hv hrep⟩
      .cases e
     .exact hv.elim
    cases ex with
    | normal=>exact key hv
    | ret=>exact key hv
    | exit id=>exact hv.elim
  .exact h.elim
theorem xO {W:Code->(Exit->Act->World->Prop)->Act->World->Prop} (R:jB P W) {c c':Code} {ins:List (Nat×Arg)} {xs:List In} {N:Nat} {hints:Nat->Option Hint} {res:List ResultVar} {tail:Bool} {rs:List aJ} (hm:P.follows .mixedOrders=true) (hin:bB In.Is (ins.map (·.2)) xs) {n0:Nat}
  (h:vc P (gV P n0 (.ret rs)) (bP P N hints c' ins res none tail) (xs.map In.env) []) (hc:c'=c) {M:Nat->Prop} {w:World} {a:Act} {Q:Exit->Act->World->Prop} (hn:n0<=w.heap.size) (hM:cK M w) (hsz:a.tmps.size=N) (hdf:a.defers = [])
  (hv:cD M w (xs.map In.ty) (ins.map fun p=>a.tmps.getD p.1 Go.undef))
  (hR:∀ e a' w' us,ax2 tail e=true->Below w.heap.size w w'->a'.tmps.size=N->a'.defers = []->(res.mapM (gI a'.tmps)).run P w' = .ok us w'->cD M w' rs us->Q (pI e) a' w'):W c Q a w:=by
 subst hc;have hil:xs.length=ins.length:=by have:=hin.length;simpa using this.symm
 refine rZ R (M0:=⟨M,⟨0,Go.undef,#[]⟩⟩) (w0:=w) hm c' 0 0 0 ins.length _ [] _ (xs.map In.env) [] h (by simpa using hil) (by intro x hx;cases hx) (aY _) (fun _=>⟨0,Go.undef,#[]⟩) a w _ (XM hin hM hsz hdf hv) ?_ (gV.bx5 hn) ?_
 .intro c v a w' hp;rcases hp with hp | ⟨_,_,_,e,_⟩
  .exact hp.elim
  .cases e
 .intro ex nb s dec m bk' ρ a' w' _ _ hv2 _ hs;replace hv2:vc P (gV P n0 (.ret rs)) (XP P res tail ex s) (xs.map In.env++m) bk':=hv2;unfold XP at hv2;split at hv2
  .rename_i hex;split at hv2
   .rename_i vs' l hq;obtain ⟨us,hr,hrep⟩:=nS hs hq (pH hs _);rcases hv2 with hv2 | ⟨_,_,_,e,_⟩
    .exact hR ex a' w' us hex hs.below.below hs.sz hs.df hr (cD.sub hv2 hrep)
    .cases e
   .exact hv2.elim
  .exact hv2.elim
theorem cB {W:Code->(Exit->Act->World->Prop)->Act->World->Prop} (R:jB P W) {c c':Code} {ins:List (Nat×Arg)} {xs:List In} {N:Nat} {hints:Nat->Option Hint} {res:List ResultVar} {rs:List aJ} (hm:P.follows .mixedOrders=true) (hin:bB In.Is (ins.map (·.2)) xs) {n0:Nat}
  (h:vc P (gV P n0 (.ret rs)) (bP P N hints c' ins res none false) (xs.map In.env) []) (hc:c'=c) {M:Nat->Prop} {w:World} {a:Act} {Q:Exit->Act->World->Prop} (hn:n0<=w.heap.size) (hM:cK M w) (hsz:a.tmps.size=N) (hdf:a.defers = [])
  (hv:cD M w (xs.map In.ty) (ins.map fun p=>a.tmps.getD p.1 Go.undef))
  (hR:∀ a' w' us,Ag (wr c) a a'->Below w.heap.size w w'->a'.tmps.size=N->a'.defers = []->(res.mapM (gI a'.tmps)).run P w' = .ok us w'->cD M w' rs us->Q .normal a' w'):W c Q a w:=by
 refine xO (W:=Wf W) R.zG (Q:=fun e a' w'=>e = .normal/\∃ us,Below w.heap.size w w'/\a'.tmps.size=N/\a'.defers = []/\(res.mapM (gI a'.tmps)).run P w' = .ok us w'/\cD M w' rs us) hm hin h hc hn hM hsz hdf hv ?_ Q ?_ ?_
 .intro e a' w' us he h1 h2 h3 h4 h5;refine ⟨?_,us,h1,h2,h3,h4,h5⟩;cases e with
  | normal=>rfl
  | exit id=>cases he
  | ret=>cases he
 .rintro ⟨_,_,he,_⟩;cases he
 .rintro e a' w' hag ⟨rfl,us,h1,h2,h3,h4,h5⟩;exact hR a' w' us hag h1 h2 h3 h4 h5
end
open Go Go.RowKit
section
variable {P:Program}
theorem aI6 {p q:Out->Prop} (h:∀ o,p o->q o):∀ (t:Tr) (τ:Env) (bk:List (List aJ->Prop)),vc P p t τ bk->vc P q t τ bk:=by
 intro t
 induction t with
 | fail=>intro τ bk h;exact h.elim
 | need nd op ty last k ih=>
   rintro τ bk (⟨news,h1,h2,h3⟩ | ⟨h1,c,h2,h3⟩ | ⟨f,args,sh,news,h1,h2,h3,h4,h5⟩)
   .exact .inl ⟨news,h1,h2,ih _ _ h3⟩
   .exact .inr (.inl ⟨h1,c,h2,h _ h3⟩)
   .exact .inr (.inr ⟨f,args,sh,news,h1,h2,h3,h _ h4,ih _ _ h5⟩)
 | split c kt kf iht ihf=>
   rintro τ bk ⟨β,h1,h2,h3⟩;exact ⟨β,h1,fun e=>iht _ _ (h2 e),fun e=>ihf _ _ (h3 e)⟩
 | ret vs=>intro τ bk hv;exact h _ hv
 | retr vs cid=>rintro τ bk ⟨ts,h1,h2⟩;exact ⟨ts,h1,h _ h2⟩
 | pan x=>rintro τ bk ⟨h1,h2⟩;exact ⟨h _ h1,h2⟩
 | loop d inits k ih=>
   rintro τ bk ⟨G,xL,μ,g0,h1,h2,h3⟩;exact ⟨G,xL,μ,g0,h1,h2,fun g=>ih _ _ (h3 g)⟩
 | back d aU=>intro τ bk h;exact h
theorem vD {n0:Nat} {out:Out} {t:Tr} {τ:Env} {bk:List (List aJ->Prop)} (h:vc P (fun o=>cG o out) t τ bk):vc P (gV P n0 out) t τ bk:=aI6 (fun o h=>.inl h) t τ bk h
theorem NQ {n0:Nat} {vs:List SW} {rs:List aJ} {τ:Env} {bk:List (List aJ->Prop)} (h:vs.map (nU τ)=rs):vc P (gV P n0 (.ret rs)) (.ret vs) τ bk:=.inl (by rw [<-h];exact aX.refl _)
theorem pA.OY {f:FuncId} {args:List aJ} {E sz:Nat} {ts:List (List aD)} (h:pA P f args fun n0=>[.one (.own n0 E sz ts)]):aQ P f args (.ret [.one (.slice sz ts)]):=
 ⟨h.1,fun M w vs hM hv=>(h.2 M w vs hM hv).mono fun e w' ⟨h1,us,h2,h3⟩=>by
  match us,h3 with
  | [u],h3=>exact ⟨h1,[u],h2,aD.own.slice h3.1,trivial⟩
  | [],h3=>exact h3.elim
  | _::_::_,h3=>exact h3.2.elim⟩
theorem ax8 {W:Code->(Exit->Act->World->Prop)->Act->World->Prop} (R:jB P W) {c c':Code} {ins:List (Nat×Arg)} {xs:List In} {N t0 E sz tr:Nat} {hints:Nat->Option Hint} {res:List ResultVar} {ts ts':List (List aD)} {rs:List aJ} (hm:P.follows .mixedOrders=true) (hin:bB In.Is (ins.map (·.2)) xs)
  (h:vc P (fun o=>o = .retr rs ts') (nE P N hints c' ins t0 E sz tr res) (xs.map In.env ++ [.rows ts]) []) (hc:c'=c) {M:Nat->Prop} {w:World} {a:Act} {Q:Exit->Act->World->Prop} {v:Value} {vs:List Value} {base:Nat}
  (hM:cK (fun k=>M k\/v.ownBlock=some k) w) (hMd:∀ k,M k->v.ownBlock≠some k) (hsz:a.tmps.size=N) (hdf:a.defers = [])
  (hv:cD (fun k=>M k\/v.ownBlock=some k) w (xs.map In.ty) (ins.map fun p=>a.tmps.getD p.1 Go.undef)) (ht0:a.tmps.getD t0 Go.undef=v) (hrow:w.ownsRow base E sz v ts.length vs) (hts:∀ t∈ts,t.length=sz) (hrep:bA (fun k=>M k\/v.ownBlock=some k) w ts.flatten vs)
  (hR:∀ a' w' us v' vs',w.grownBy w' v.ownBlock->a'.tmps.size=N->a'.defers = []->(res.mapM (gI a'.tmps)).run P w' = .ok us w'->a'.tmps.getD tr Go.undef=v'->w'.ownsRow 0 E sz v' ts'.length vs'->(∀ k,v'.ownBlock=some k->w.heap.size<=k\/v.ownBlock=some k) ->
   cD (fun k=>M k\/v'.ownBlock=some k) w' rs us->bA (fun k=>M k\/v'.ownBlock=some k) w' ts'.flatten vs'->Q .normal a' w'):W c Q a w:=by
 subst hc;have hil:xs.length=ins.length:=by have:=hin.length;simpa using this.symm
 have hv1:v.oneCell'=true:=by
  rcases hrow.2 with ⟨hv,_⟩ | ⟨g,cap,cur,hv,_⟩<;>rw [hv]<;>rfl
 have holt:∀ k,v.ownBlock=some k->k<w.heap.size:=fun k hk=>(hrow.lt k hk).2
 have hrow0:w.ownsRow 0 E sz v ts.length vs:=by
  refine ⟨hrow.1,?_⟩;rcases hrow.2 with hn | ⟨g,cap,cur,hv,hbg,rest⟩
  .exact .inl hn
  .exact .inr ⟨g,cap,cur,hv,dD _,rest⟩
 refine rZ R (M0:=⟨M,⟨0,v,#[]⟩⟩) (w0:=w) hm c' 0 0 1 (ins.length+1) _ [] _ (xs.map In.env ++ [.rows ts]) [] h (by simp [hil]) (by intro x hx;cases hx) (aY _) (fun _=>⟨0,v,#[]⟩) a w _
  (VM (gh:=⟨0,v,#[]⟩) (t0:=t0) (sv:=.w (.one (.r 0))) (bx:=.row E sz ins.length) (y:=.rows ts) hin hM hMd hsz hdf hv rfl ⟨by simp [Ur,St.b,look],ht0,by rw [ht0];exact hv1⟩ ⟨ts,vs,by rw [List.getElem?_append_right (by simp [hil]),aK,hil,Nat.sub_self];rfl,hrow0,hts,hrep⟩ holt) ?_ yD.noR ?_
 .intro c v a w' hp;cases hp
 .intro ex nb s dec m bk' ρ a' w' _ _ hv2 _ hs;replace hv2:vc P (fun o=>o = .retr rs ts') (VI P tr E sz res ex s) (xs.map In.env ++ [.rows ts]++m) bk':=hv2;cases ex with
  | exit id=>exact hv2.elim
  | ret=>exact hv2.elim
  | normal=>
    unfold VI at hv2;simp only at hv2;split at hv2
    .rename_i b0 hbt;split at hv2
     .rename_i E' sz' cid hbx;split at hv2
      .rename_i vs2 l hq;split at hv2
       .rename_i hc;obtain ⟨rfl,rfl,hsb,hl⟩:=hc;obtain ⟨ts2,hcid,hpo⟩:=hv2;replace hpo:Out.retr (vs2.map (nU _)) ts2=Out.retr rs ts':=hpo;simp only [Out.retr.injEq] at hpo;obtain ⟨hrs,rfl⟩:=hpo;obtain ⟨ts3,xs3,hcid3,hown3,hlen3,hrep3⟩:=hs.bx b0 _ hbx;rw [hcid] at hcid3;simp only [aN,aJ.rows.injEq] at hcid3;subst hcid3;have htv:=hs.tm tr;rw [hbt] at htv;have hval:a'.tmps.getD tr Go.undef=(ρ b0).val:=htv.2.1;have hown:own ρ b0 (.row E' sz' cid)=(ρ b0).val.ownBlock:=rfl
        have hS:cP ⟨M,⟨0,v,#[]⟩⟩ ρ s l (fun k=>M k\/(ρ b0).val.ownBlock=some k):=by
         refine ⟨fun k hk=>?_,fun b x k h1 h2 h3 hk=>?_⟩
         .rcases hk with hk | hk
          .exact .inl hk
          .exact .inr ⟨b0,_,hbx,hsb,hk⟩
         .rcases hk with hk | hk
          .exact hs.old k hk (hs.lo b x k h1 h2).1
          .have:=hs.inj b b0 x _ _ h1 hbx h2 hk;subst this;rcases h3 with h3 | h3
           .rw [hsb] at h3;cases h3
           .have:l.contains b=true:=by simpa using h3
            rw [hl] at this;cases this
        obtain ⟨us,hr,hrepr⟩:=nS hs hq hS;have hbel:=hs.below;refine hR a' w' us (ρ b0).val xs3 ⟨hbel.os,hbel.tape,hbel.output,hbel.size,fun k hk hne=>hbel.block k hk fun ho=>hne ?_⟩ hs.sz hs.df hr hval hown3 (fun k hk=>?_) (by rw [<-hrs];exact hrepr) (hrep3.mono hS.eE)
        .exact (show v.ownBlock=some k from ho).symm
        .exact (hs.lo b0 _ k hbx hk).1
       .exact hv2.elim
      .exact hv2.elim
     .exact hv2.elim
    .exact hv2.elim
theorem sV {W:Code->(Exit->Act->World->Prop)->Act->World->Prop} (R:jB P W) {c c':Code} {ins:List (Nat×Arg)} {xs:List In} {N t0 E sz tr:Nat} {hints:Nat->Option Hint} {res:List ResultVar} {ts ts':List (List aD)} {rs:List aJ} (hm:P.follows .mixedOrders=true) (hin:bB In.Is (ins.map (·.2)) xs)
  (h:vc P (fun o=>o = .retr rs ts') (nE P N hints c' ins t0 E sz tr res) (xs.map In.env ++ [.rows ts]) []) (hc:c'=c) {M:Nat->Prop} {w:World} {a:Act} {Q:Exit->Act->World->Prop} {v:Value} {vs:List Value} {base:Nat}
  (hM:cK (fun k=>M k\/v.ownBlock=some k) w) (hMd:∀ k,M k->v.ownBlock≠some k) (hsz:a.tmps.size=N) (hdf:a.defers = [])
  (hv:cD (fun k=>M k\/v.ownBlock=some k) w (xs.map In.ty) (ins.map fun p=>a.tmps.getD p.1 Go.undef)) (ht0:a.tmps.getD t0 Go.undef=v) (hrow:w.ownsRow base E sz v ts.length vs) (hts:∀ t∈ts,t.length=sz) (hrep:bA (fun k=>M k\/v.ownBlock=some k) w ts.flatten vs)
  (hR:∀ a' w' us v' vs',Ag (wr c) a a'->w.grownBy w' v.ownBlock->a'.tmps.size=N->a'.defers = []->(res.mapM (gI a'.tmps)).run P w' = .ok us w'->a'.tmps.getD tr Go.undef=v'->w'.ownsRow 0 E sz v' ts'.length vs'->(∀ k,v'.ownBlock=some k->w.heap.size<=k\/v.ownBlock=some k) ->
   cD (fun k=>M k\/v'.ownBlock=some k) w' rs us->bA (fun k=>M k\/v'.ownBlock=some k) w' ts'.flatten vs'->Q .normal a' w'):W c Q a w:=by
 refine ax8 (W:=Wf W) R.zG (Q:=fun e a' w'=>e = .normal/\∃ us v' vs',w.grownBy w' v.ownBlock/\a'.tmps.size=N/\a'.defers = []/\(res.mapM (gI a'.tmps)).run P w' = .ok us w'/\a'.tmps.getD tr Go.undef=v'/\w'.ownsRow 0 E sz v' ts'.length vs'/\(∀ k,v'.ownBlock=some k->w.heap.size<=k\/v.ownBlock=some k) /\
   cD (fun k=>M k\/v'.ownBlock=some k) w' rs us/\bA (fun k=>M k\/v'.ownBlock=some k) w' ts'.flatten vs') hm hin h hc hM hMd hsz hdf hv ht0 hrow hts hrep ?_ Q ?_ ?_
 .intro a' w' us v' vs' h1 h2 h3 h4 h5 h6 h7 h8 h9;exact ⟨rfl,us,v',vs',h1,h2,h3,h4,h5,h6,h7,h8,h9⟩
 .rintro ⟨_,_,he,_⟩;cases he
 .rintro e a' w' hag ⟨rfl,us,v',vs',h1,h2,h3,h4,h5,h6,h7,h8,h9⟩;exact hR a' w' us v' vs' hag h1 h2 h3 h4 h5 h6 h7 h8 h9
end
open Ord
def qZ (k:Nat) (p:List Rat) (f:Rat) (r:List Rat) (j:Nat):List Rat:=r.mapIdx fun i a=>if k<=i/\i<j then a-f*p.getD i 0 else a
theorem kB (k:Nat) (p:List Rat) (f:Rat) (r:List Rat) (j:Nat):(qZ k p f r j).length=r.length:=List.length_mapIdx
theorem pB (k:Nat) (p:List Rat) (f:Rat) (r:List Rat) (j i:Nat):(qZ k p f r j)[i]? = r[i]?.map fun a=>if k<=i/\i<j then a-f*p.getD i 0 else a:=List.getElem?_mapIdx
theorem Vj (k:Nat) (p:List Rat) (f:Rat) (r:List Rat):qZ k p f r k=r:=by
 apply List.ext_getElem?;intro i;rw [pB];cases r[i]? with
 | none=>rfl
 | some a=>rw [Option.map_some,if_neg (by omega)]
theorem af8 (k:Nat) (p:List Rat) (f:Rat) (r:List Rat) {j i:Nat} (h:j<=i):(qZ k p f r j).getD i 0=r.getD i 0:=by
 rw [iP,iP,pB];cases r[i]? with
 | none=>rfl
 | some a=>rw [Option.map_some,if_neg (by omega)]
theorem Yv (k:Nat) (p:List Rat) (f:Rat) (r:List Rat) {j:Nat} (hk:k<=j):(qZ k p f r j).set j (r.getD j 0-f*p.getD j 0)=qZ k p f r (j+1):=by
 apply List.ext_getElem?;intro i;rw [List.getElem?_set,pB,pB,kB];by_cases h:j=i
 .subst h;rw [if_pos rfl];by_cases hl:j<r.length
  .rw [if_pos hl,iP,cC hl,Option.map_some,if_pos ⟨hk,by omega⟩];rfl
  .rw [if_neg hl,List.getElem?_eq_none_iff.2 (by omega)];rfl
 .rw [if_neg h];cases r[i]? with
  | none=>rfl
  | some a=>
    rw [Option.map_some,Option.map_some];by_cases h1:k<=i/\i<j
    .rw [if_pos h1,if_pos ⟨h1.1,by omega⟩]
    .rw [if_neg h1,if_neg (by omega)]
theorem YL {A B:Nat} {k:Nat} {p:List Rat} {f:Rat} {r:List Rat} {j:Nat} (hA:1<=A) (hr:∀ a∈r,Fit A a) (hp:∀ a∈p,Fit A a) (hf:Fit B f):∀ a∈qZ k p f r j,Fit (A+(B+A)+1) a:=by
 intro a ha;obtain ⟨i,hi,rfl⟩:=List.mem_iff_getElem.1 ha;have h:=pB k p f r j i;rw [cC hi] at h;rw [kB] at hi;rw [cC hi,Option.map_some] at h;have h:=Option.some.inj h;rw [h];have h1:=hr _ (List.getElem_mem hi)
 have h2:Fit A (p.getD i 0):=by
  rw [iP];cases hq:p[i]? with
  | none=>exact Fit.zero hA
  | some x=>exact hp x (gD hq)
 split
 .exact h1.sub (hf.mul h2)
 .exact h1.mono (by omega)
def iB (k:Nat) (p r:List Rat):List Rat:=if r.getD k 0=0 then r else qZ k p (r.getD k 0/p.getD k 0) r r.length
theorem mU (k:Nat) (p r:List Rat):(iB k p r).length=r.length:=by
 unfold iB;split
 .rfl
 .exact kB _ _ _ _ _
def dQ (k:Nat) (rows:List (List Rat)) (n:Nat):List (List Rat):=rows.mapIdx fun i r=>if i<n/\i≠k then iB k (rows.getD k []) r else r
theorem gY (k:Nat) (rows:List (List Rat)) (n:Nat):(dQ k rows n).length=rows.length:=List.length_mapIdx
theorem gW (k:Nat) (rows:List (List Rat)) (n i:Nat):(dQ k rows n)[i]? = rows[i]?.map fun r=>if i<n/\i≠k then iB k (rows.getD k []) r else r:=List.getElem?_mapIdx
theorem Pv (k:Nat) (rows:List (List Rat)):dQ k rows 0=rows:=by
 apply List.ext_getElem?;intro i;rw [gW];cases rows[i]? with
 | none=>rfl
 | some a=>rw [Option.map_some,if_neg (by omega)]
theorem pU {k:Nat} {rows:List (List Rat)} {n i:Nat} {r:List Rat} (h:n<=i\/i=k) (hr:rows[i]? = some r):(dQ k rows n)[i]? = some r:=by rw [gW,hr,Option.map_some,if_neg (by omega)]
theorem AH {k:Nat} {rows:List (List Rat)} {n:Nat} {r:List Rat} (hn:n≠k) (hr:rows[n]? = some r):(dQ k rows n).set n (iB k (rows.getD k []) r)=dQ k rows (n+1):=by
 apply List.ext_getElem?;intro i;rw [List.getElem?_set,gW,gW,gY];have hl:=(dR.1 hr).1;by_cases h:n=i
 .subst h;rw [if_pos rfl,if_pos hl,hr,Option.map_some,if_pos ⟨by omega,hn⟩]
 .rw [if_neg h];cases rows[i]? with
  | none=>rfl
  | some a=>
    rw [Option.map_some,Option.map_some];by_cases h1:i<n/\i≠k
    .rw [if_pos h1,if_pos ⟨by omega,h1.2⟩]
    .rw [if_neg h1,if_neg (by omega)]
theorem PK (k:Nat) (rows:List (List Rat)) {n:Nat} (hn:n=k):dQ k rows (n+1)=dQ k rows n:=by
 apply List.ext_getElem?;intro i;rw [gW,gW];cases rows[i]? with
 | none=>rfl
 | some a=>
   rw [Option.map_some,Option.map_some];by_cases h1:i<n/\i≠k
   .rw [if_pos h1,if_pos ⟨by omega,h1.2⟩]
   .rw [if_neg h1,if_neg (by omega)]
structure Oe (m L A:Nat) (rows:List (List Rat)):Prop where
 len:rows.length=m
 row:∀ r∈rows,r.length=L/\∀ a∈r,Fit A a
theorem Oe.mono {m L A B:Nat} {rows:List (List Rat)} (h:Oe m L A rows) (hAB:A<=B):Oe m L B rows:=⟨h.len,fun r hr=>⟨(h.row r hr).1,fun a ha=>((h.row r hr).2 a ha).mono hAB⟩⟩
theorem Oe.get {m L A:Nat} {rows:List (List Rat)} (h:Oe m L A rows) {i:Nat} (hi:i<m):∃ r,rows[i]? = some r/\rows.getD i []=r/\r.length=L/\∀ a∈r,Fit A a:=by
 have hl:=h.len;have hi':i<rows.length:=by omega
 refine ⟨rows[i],cC hi',?_,(h.row _ (List.getElem_mem hi')).1,(h.row _ (List.getElem_mem hi')).2⟩;rw [iP,cC hi'];rfl
theorem Nr {A:Nat} {p:List Rat} (hA:1<=A) (hp:∀ a∈p,Fit A a) (i:Nat):Fit A (p.getD i 0):=by
 rw [iP];cases hq:p[i]? with
 | none=>exact Fit.zero hA
 | some x=>exact hp x (gD hq)
theorem Tq {A:Nat} {k:Nat} {p r:List Rat} (hA:1<=A) (hr:∀ a∈r,Fit A a) (hp:∀ a∈p,Fit A a):∀ a∈iB k p r,Fit (4*A+1) a:=by
 intro a ha;unfold iB at ha;split at ha
 .exact (hr a ha).mono (by omega)
 .exact (YL hA hr hp ((Nr hA hr k).div (Nr hA hp k)) a ha).mono (by omega)
theorem Oe.elim {m L A:Nat} {rows:List (List Rat)} (h:Oe m L A rows) (hA:1<=A) {k:Nat} (hk:k<m) (n:Nat):Oe m L (4*A+1) (dQ k rows n):=by
 obtain ⟨p,_,hp,hpl,hpf⟩:=h.get hk;refine ⟨(gY k rows n).trans h.len,fun r hr=>?_⟩;obtain ⟨i,hi,rfl⟩:=List.mem_iff_getElem.1 hr;have he:=gW k rows n i;rw [cC hi] at he;rw [gY] at hi;rw [cC hi,Option.map_some] at he;rw [Option.some.inj he,hp];have h1:=h.row _ (List.getElem_mem hi);split
 .exact ⟨(mU _ _ _).trans h1.1,Tq hA h1.2 hpf⟩
 .exact ⟨h1.1,fun a ha=>(h1.2 a ha).mono (by omega)⟩
def kF (rows:List (List Rat)) (k i:Nat):List (List Rat):=(rows.set k (rows.getD i [])).set i (rows.getD k [])
theorem lJ (rows:List (List Rat)) (k i:Nat):(kF rows k i).length=rows.length:=by rw [kF,List.length_set,List.length_set]
theorem Oe.swap {m L A:Nat} {rows:List (List Rat)} (h:Oe m L A rows) {k i:Nat} (hk:k<m) (hi:i<m):Oe m L A (kF rows k i):=by
 obtain ⟨p,hp1,hp,hpl,hpf⟩:=h.get hk;obtain ⟨q,hq1,hq,hql,hqf⟩:=h.get hi;refine ⟨(lJ rows k i).trans h.len,fun r hr=>?_⟩;rw [kF,hp,hq] at hr;rcases List.mem_or_eq_of_mem_set hr with hr | rfl
 .rcases List.mem_or_eq_of_mem_set hr with hr | rfl
  .exact h.row r hr
  .exact ⟨hql,hqf⟩
 .exact ⟨hpl,hpf⟩
def Um (k:Nat) (rows:List (List Rat)):Option Nat:=(rows.drop k).findIdx? fun r=>decide (r.getD k 0≠0)
def jT:Nat->Nat->List (List Rat)->Option (List (List Rat))
 | 0,_,rows=>some rows
 | f+1,k,rows=>match Um k rows with
   | none=>none
   | some i=>jT f (k+1) (dQ k (kF rows k (k+i)) rows.length)
def lF (rows:List (List Rat)) (k:Nat):Rat:=((rows.getD k []).getD ((rows.getD k []).length-1) 0)/((rows.getD k []).getD k 0)
def gF (rows:List (List Rat)):Option (List Rat):=(jT rows.length 0 rows).map fun rs=>(List.range rs.length).map (lF rs)
open Go Go.Proofs Tryz Ord
def aR2:Tr:=aZ 86 [(G3 1),(G3 0)] [(some 3)] [5,6] [46,46] 46 true (.ret [(G3 2)])
theorem SE:aV prog f198 (fun _=>none) [.v (some 3), .v (some 3)]=aR2:=by kernel_rfl
def BA:Tr:=.retr [] 20
def Bc:Tr:=.need (.strow 19 3 (.u 4 0) 0 [(.u 17 0),(.u 17 1),(.u 17 2)]) (.store 46 (.tmp 35) (.tmp 32)) 0 false BA
def Bg:Tr:=.need (.idx 19 (.u 4 0)) (.indexAddr 28 (.tmp 9) (.tmp 11)) 0 false Bc
def Bw:Tr:=.need (.strow 18 3 (.u 2 0) 0 [(.u 15 0),(.u 15 1),(.u 15 2)]) (.store 46 (.tmp 34) (.tmp 28)) 0 false Bg
def BG:Tr:=.need (.idx 18 (.u 2 0)) (.indexAddr 28 (.tmp 7) (.tmp 8)) 0 false Bw
def Bu:Tr:=.need (.strow 0 3 (.u 3 0) 0 [(.u 7 0),(.u 7 1),(.u 7 2)]) (.store 46 (.tmp 33) (.tmp 16)) 0 false BG
def Be:Tr:=.need (.idx 0 (.u 3 0)) (.indexAddr 28 (.tmp 4) (.tmp 6)) 0 false Bu
def Bi:Tr:=.need (.prim [(W 16 0)] (some 3)) (.load 46 (.tmp 31)) 46 false Be
def Bj:Tr:=.need (.prim [(W 1 0),(W 2 0)] none) (.indexAddr 28 (.tmp 29) (.tmp 30)) 0 false Bi
def BE:Tr:=.need (.call 76 [(.agg [(U 13 0),(U 13 1),(U 13 2)]),(.agg [(U 14 0),(U 14 1),(U 14 2)])] [(some 3)]) (.call ⟨.value (.func 76),#[(.tmp 26),(.tmp 27)],#[46,46]⟩) 46 false Bj
def Bo:Tr:=.need (.call 113 [(WK (2))] [(some 3)]) (.call ⟨.value (.func 113),#[(.const (I3 (2)))],#[3]⟩) 46 false BE
def Bk:Tr:=.need (.call 88 [(.agg [(U 10 0),(U 10 1),(U 10 2)]),(.agg [(U 12 0),(U 12 1),(U 12 2)])] [(some 3)]) (.call ⟨.value (.func 88),#[(.tmp 21),(.tmp 25)],#[46,46]⟩) 46 false Bo
def FJ:Tr:=.need (.prim [(W 11 0)] (some 3)) (.load 46 (.tmp 24)) 46 false Bk
def Gz:Tr:=.need (.prim [(W 1 0),(W 2 0)] none) (.indexAddr 28 (.tmp 22) (.tmp 23)) 0 false FJ
def Eo:Tr:=.need (.prim [(W 9 0)] (some 3)) (.load 46 (.tmp 20)) 46 false Gz
def Hb:Tr:=.need (.prim [(W 1 0),(W 8 0)] none) (.indexAddr 28 (.tmp 17) (.tmp 19)) 0 false Eo
def EH:Tr:=.need (.prim [(W 2 0),(WK (1))] none) (.binOp .sub 3 (.tmp 18) (.const (I3 (1))) 3) 3 false Hb
def De:Tr:=.need (.prim [(W 6 0)] (some 3)) (.load 46 (.tmp 15)) 46 false EH
def Hx:Tr:=.need (.prim [(W 1 0),(W 5 0)] none) (.indexAddr 28 (.tmp 12) (.tmp 14)) 0 false De
def Fh:Tr:=.need (.prim [(W 2 0),(WK (1))] none) (.binOp .sub 3 (.tmp 13) (.const (I3 (1))) 3) 3 false Hx
def FT:Tr:=.need (.prim [(W 2 0),(WK (1))] none) (.binOp .add 3 (.tmp 10) (.const (I3 (1))) 3) 3 false Fh
def Gd:Tr:=.need (.prim [(W 2 0),(WK (1))] none) (.binOp .sub 3 (.tmp 5) (.const (I3 (1))) 3) 3 false FT
theorem Ol:Au prog f204 (fun _=>none) [.lent 46 3, .ref 1, .ref 1]=Gd:=by kernel_rfl
def An:Tr:=.retr [] 3
def zA:Tr:=.need (.strow 0 3 (.u 1 0) 0 [(.u 2 0),(.u 2 1),(.u 2 2)]) (.store 46 (.tmp 6) (.tmp 5)) 0 false An
def Ad:Tr:=.need (.idx 0 (.u 1 0)) (.indexAddr 28 (.tmp 3) (.tmp 4)) 0 false zA
def yT:Tr:=.need (.call 113 [(WK (1))] [(some 3)]) (.call ⟨.value (.func 113),#[(.const (I3 (1)))],#[3]⟩) 46 true Ad
theorem Dy:Au prog f196 (fun _=>none) [.lent 46 3, .ref 1]=yT:=by kernel_rfl
def aU2:Tr:=.need (.prim [(W 1 0),(WK 0)] none) (.indexAddr 28 (tT 10) (.const (I3 0))) 0 false (eI 6 0 (some 3) 46 11 (.need (.idx 0 (.k (.int .i64 0))) (.indexAddr 28 (tT 3) (.const (I3 0))) 0 false (.need (.strow 0 3 (.k (.int .i64 0)) 0 [(.u 5 0),(.u 5 1),(.u 5 2)]) (.store 46 (tT 13) (tT 9)) 0 false (.need (.idx 8 (.k (.int .i64 1))) (.indexAddr 28 (tT 4) (.const (I3 1))) 0 false (.need (.strow 8 3 (.k (.int .i64 1)) 0 [(.u 7 0),(.u 7 1),(.u 7 2)]) (.store 46 (tT 14) (tT 12)) 0 false (.retr [] 9))))))
def aZ0:Tr:=.need (.prim [(W 1 0),(WK 0)] none) (.indexAddr 28 (tT 5) (.const (I3 0))) 0 false (eI 2 0 (some 3) 46 6 (.need (.call 113 [(WK 2)] [(some 3)]) (.call ⟨.value (.func 113),#[(.const (I3 2))],#[3]⟩) 46 false (aZ 76 [(G3 3),(G3 4)] [(some 3)] [7,8] [46,46] 46 false aU2)))
theorem OX:Au prog f134 (fun _=>none) [.lent 46 3, .ref 1]=aZ0:=by kernel_rfl
def BB:Tr:=.retr [] 14
def Bl:Tr:=.need (.strow 13 3 (.u 4 0) 0 [(.u 12 0),(.u 12 1),(.u 12 2)]) (.store 46 (.tmp 23) (.tmp 21)) 0 false BB
def Bq:Tr:=.need (.idx 13 (.u 4 0)) (.indexAddr 28 (.tmp 7) (.tmp 9)) 0 false Bl
def Bp:Tr:=.need (.strow 0 3 (.u 3 0) 0 [(.u 7 0),(.u 7 1),(.u 7 2)]) (.store 46 (.tmp 22) (.tmp 14)) 0 false Bq
def Bz:Tr:=.need (.idx 0 (.u 3 0)) (.indexAddr 28 (.tmp 4) (.tmp 6)) 0 false Bp
def Fa:Tr:=.need (.call 76 [(.agg [(U 10 0),(U 10 1),(U 10 2)]),(.agg [(U 11 0),(U 11 1),(U 11 2)])] [(some 3)]) (.call ⟨.value (.func 76),#[(.tmp 19),(.tmp 20)],#[46,46]⟩) 46 true Bz
def CW:Tr:=.need (.call 113 [(WK (2))] [(some 3)]) (.call ⟨.value (.func 113),#[(.const (I3 (2)))],#[3]⟩) 46 true Fa
def CB:Tr:=.need (.prim [(W 9 0)] (some 3)) (.load 46 (.tmp 18)) 46 false CW
def Es:Tr:=.need (.prim [(W 1 0),(W 8 0)] none) (.indexAddr 28 (.tmp 15) (.tmp 17)) 0 false CB
def FZ:Tr:=.need (.prim [(W 2 0),(WK (2))] none) (.binOp .sub 3 (.tmp 16) (.const (I3 (2))) 3) 3 false Es
def Hk:Tr:=.need (.prim [(W 6 0)] (some 3)) (.load 46 (.tmp 13)) 46 false FZ
def CK:Tr:=.need (.prim [(W 1 0),(W 5 0)] none) (.indexAddr 28 (.tmp 10) (.tmp 12)) 0 false Hk
def Eb:Tr:=.need (.prim [(W 2 0),(WK (2))] none) (.binOp .sub 3 (.tmp 11) (.const (I3 (2))) 3) 3 false CK
def Eh:Tr:=.need (.prim [(W 2 0),(WK (1))] none) (.binOp .sub 3 (.tmp 8) (.const (I3 (1))) 3) 3 false Eb
def Cm:Tr:=.need (.prim [(W 2 0),(WK (2))] none) (.binOp .sub 3 (.tmp 5) (.const (I3 (2))) 3) 3 false Eh
theorem OG:Au prog f135 (fun _=>none) [.lent 46 3, .ref 1, .ref 1]=Cm:=by kernel_rfl
def bg9:Tr:=eW 0 0 1 0 28 4 5 (eI 2 0 (some 3) 46 6 (aZ 23 [(G3 3)] [none] [7] [46] 3 true (bI .neq 3 8 0 4 0 4 (.ret [(W 5 0)]))))
theorem Vf:aV prog f201 (fun _=>none) [.v none, .ref 1]=bg9:=by kernel_rfl
def vO:Tr:=.ret [(W 4 0)]
def tO:Tr:=.back 0 [(.w (W 3 0)),(.w (W 9 0))]
def vF:Tr:=.need (.prim [(W 4 0),(WK (1))] none) (.binOp .add 3 (.tmp 8) (.const (I3 (1))) 3) 3 false tO
def uE:Tr:=.split (.u 8 0) vO vF
def uY:Tr:=.need (.callv (.u 1 0) [(W 7 0)] [none]) (.call ⟨.value (.tmp 11),#[(.tmp 15)],#[28]⟩) 4 true uE
def uO:Tr:=.need (.prim [(W 6 0)] none) (.load 28 (.tmp 14)) 28 false uY
def uX:Tr:=.need (.prim [(W 0 0),(W 4 0)] none) (.indexAddr 197 (.tmp 12) (.tmp 13)) 0 false uO
def tS:Tr:=.ret [(WK (-1))]
def uH:Tr:=.split (.u 5 0) uX tS
def vT:Tr:=.need (.prim [(W 4 0),(W 2 0)] none) (.binOp .lss 3 (.tmp 8) (.tmp 7) 3) 0 false uH
def uK:Tr:=.loop 0 [(.w (WK (0))),(.w (WK (0)))] vT
def vR:Tr:=.need (.prim [(W 0 0)] none) (.call ⟨.builtin .len,#[(.tmp 6)],#[197]⟩) 3 false uK
theorem zP:aV prog f200 (fun _=>none) [.v none, .v none]=vR:=by kernel_rfl
def Pr:Tr:=.ret [(tF false)]
def bm1:Tr:=.split (.u 5 0) (dS 1 0 14 28 (dS 0 0 16 28 (cU .eql 3 15 17 6 0 7 0 4 (.split (.u 8 0) (.need (.call 90 [(W 0 0),(tF true)] [none]) (.call ⟨.value (.func 90),#[(tT 21),(.const (.bool true))],#[28,4]⟩) 4 true (.ret [(W 9 0)])) Pr)))) Pr
def bf2:Tr:=dS 0 0 5 28 (bI .geq 3 6 2 2 0 4 (.split (.u 3 0) (dS 0 0 9 28 (bI .leq 3 10 40 4 0 4 bm1)) Pr))
theorem ZW:aV prog f129 (fun _=>none) [.v none, .v none]=bf2:=by kernel_rfl
theorem TY (a b:Rat) (A B:Nat) (ha:Fit A a) (hb:Fit B b) (h:A+B<=34359738000:=by omega):aQ prog 198 [(qT a:aJ),(qT b:aJ)] (.ret [qT (b-a)]):=by
 refine eH func198 SE ?_;apply aA (jF b a B A hb ha) rfl;exact aL rfl
def We (h:List Rat) (i:Nat) (r:List Rat):List Rat:=((r.set (i-1) (h.getD (i-1) 0)).set i ((h.getD (i-1) 0+h.getD i 0)*((2:Int):Rat))).set (i+1) (h.getD i 0)
theorem sG {α:Type} {l:List α} {i:Nat} (hi:i<l.length:=by omega):∃ x,l[i]? = some x:=⟨_,cC hi⟩
theorem OV (h:List Rat) (i A:Nat) (r:List Rat) (hA1:1<=A) (hh:∀ a∈h,Fit A a) (hi:1<=i) (hil:i<h.length) (hir:i+1<r.length) (hA:A<=1000000000:=by omega) (hs:h.length<1099511627776:=by omega):kP prog 204 46 3 [] [(.one (.bH ([sQ h])):aJ),(.one (.bH ([.int .i64 (i:Int)])):aJ)] (rQ r) [] (rQ (We h i r)):=by
 refine oL (a1:=[]) (a2:=[.ref 1, .ref 1]) (i1:=[]) (i2:=[.ref ([sQ h]), .ref ([.int .i64 (i:Int)])]) (hints:=(fun _=>none)) fo (by kernel_rfl) func204 trivial ⟨rfl,rfl,trivial⟩ (by kernel_rfl) ?_ ?_ ?_ ?_
 .first | (simp [We];done) | (intro t ht;obtain ⟨a,_,rfl⟩:=eM.1 ht;rfl)
 .first | (simp [We];done) | (intro t ht;obtain ⟨a,_,rfl⟩:=eM.1 ht;rfl)
 .first | (simp [We];done) | (intro t ht;obtain ⟨a,_,rfl⟩:=eM.1 ht;rfl)
 dsimp only [aE,aF];rw [Ol];dsimp only [List.map,In.env,aE,aF];obtain ⟨x1,hx1⟩:=sG (l:=r) (i:=i-1);obtain ⟨x2,hx2⟩:=sG (l:=r.set (i-1) (h.getD (i-1) 0)) (i:=i) (by rw [List.length_set];omega);obtain ⟨x3,hx3⟩:=sG (l:=(r.set (i-1) (h.getD (i-1) 0)).set i ((h.getD (i-1) 0+h.getD i 0)*((2:Int):Rat))) (i:=i+1) (by rw [List.length_set,List.length_set];omega);apply vn (aG (by omega) (by omega)) rfl;apply vn (aB (by omega) (by omega)) rfl;apply vn (aG (by omega) (by omega)) rfl;dsimp only [aE,aF];apply vn (aH bG (m:=i-1) (by omega) (by omega) (aI (show i-1<h.length by omega))) rfl;apply vn (aR cF (by decide) (by simp) (.inl rfl)) rfl;apply vn (aG (by omega) (by omega)) rfl;dsimp only [aE,aF];apply vn (aH bG (m:=i-1) (by omega) (by omega) (aI (show i-1<h.length by omega))) rfl;apply vn (aR cF (by decide) (by simp) (.inl rfl)) rfl;dsimp only [aE,aF];apply vn (aH bG (m:=i) (by omega) (Int.toNat_natCast i) (aI (show i<h.length by omega))) rfl;apply vn (aR cF (by decide) (by simp) (.inl rfl)) rfl;apply aA (jU _ _ A A (aC hh _ hA1) (aC hh _ hA1)) rfl;apply aA (dE 2) rfl;dsimp only [aE,aF];apply aA (fK _ _ (A+A+1) 62 ((aC hh _ hA1).add (aC hh _ hA1)) (Fit.int (by omega) (by omega))) rfl;dsimp only [aE,aF];apply vn (aH bG (m:=i) (by omega) (Int.toNat_natCast i) (aI (show i<h.length by omega))) rfl;apply vn (aR cF (by decide) (by simp) (.inl rfl)) rfl;refine cJ rfl rfl (by omega) (by omega) ?_;refine gP (f:=qC) (d':=h.getD (i-1) 0) rfl rfl (by omega) (show ((i:Int)-1).toNat=i-1 by omega) hx1 rfl ?_;refine cJ rfl rfl (by omega) (by rw [List.length_set];omega) ?_;refine gP (f:=qC) (d':=(h.getD (i-1) 0+h.getD i 0)*((2:Int):Rat)) rfl rfl (by omega) (Int.toNat_natCast i) hx2 rfl ?_;dsimp only [aE,aF];refine cJ rfl rfl (by omega) (by rw [List.length_set,List.length_set];omega) ?_;refine gP (f:=qC) (d':=h.getD i 0) rfl rfl (by omega) (show ((i:Int)+1).toNat=i+1 by omega) hx3 rfl ?_;dsimp only [aE,aF];exact lG rfl rfl
theorem Ct (i:Nat) (r:List Rat) (hir:i<r.length) (hr:r.length<1099511627776):kP prog 196 46 3 [] [(.one (.bH ([.int .i64 (i:Int)])):aJ)] (rQ r) [] (rQ (r.set i ((1:Int):Rat))):=by
 refine oL (a1:=[]) (a2:=[.ref 1]) (i1:=[]) (i2:=[.ref ([.int .i64 (i:Int)])]) (hints:=(fun _=>none)) fo (by kernel_rfl) func196 trivial ⟨rfl,trivial⟩ (by kernel_rfl) ?_ ?_ ?_ ?_
 .first | (simp;done) | (intro t ht;obtain ⟨a,_,rfl⟩:=eM.1 ht;rfl)
 .first | (simp;done) | (intro t ht;obtain ⟨a,_,rfl⟩:=eM.1 ht;rfl)
 .first | (simp;done) | (intro t ht;obtain ⟨a,_,rfl⟩:=eM.1 ht;rfl)
 dsimp only [aE,aF];rw [Dy];dsimp only [List.map,In.env,aE,aF];obtain ⟨x1,hx1⟩:=sG (l:=r) (i:=i) hir;apply aA (dE 1) rfl;refine cJ rfl rfl (by omega) (by omega) ?_;refine gP (f:=qC) (d':=((1:Int):Rat)) rfl rfl (by omega) (Int.toNat_natCast i) hx1 rfl ?_;dsimp only [aE,aF];exact lG rfl rfl
def leR (h:List Rat) (r:List Rat):List Rat:=(r.set 0 (h.getD 0 0*((2:Int):Rat))).set 1 (h.getD 0 0)
theorem Qi (h:List Rat) (A:Nat) (r:List Rat) (hA1:1<=A) (hA:A<=1000000000) (hh:∀ a∈h,Fit A a) (hir:1<r.length) (hs:h.length<1099511627776:=by omega) (hil:0<h.length:=by omega):kP prog 134 46 3 [] [(.one (.bH ([sQ h])):aJ)] (rQ r) [] (rQ (leR h r)):=by
 refine oL (a1:=[]) (a2:=[.ref 1]) (i1:=[]) (i2:=[.ref ([sQ h])]) (hints:=(fun _=>none)) fo (by kernel_rfl) func134 trivial ⟨rfl,trivial⟩ (by kernel_rfl) ?_ ?_ ?_ ?_
 .first | (simp [leR];done) | (intro t ht;obtain ⟨a,_,rfl⟩:=eM.1 ht;rfl)
 .first | (simp [leR];done) | (intro t ht;obtain ⟨a,_,rfl⟩:=eM.1 ht;rfl)
 .first | (simp [leR];done) | (intro t ht;obtain ⟨a,_,rfl⟩:=eM.1 ht;rfl)
 dsimp only [aE,aF];rw [OX];dsimp only [List.map,In.env,aE,aF];obtain ⟨x1,hx1⟩:=sG (l:=r) (i:=0);obtain ⟨x2,hx2⟩:=sG (l:=r.set 0 (h.getD 0 0*((2:Int):Rat))) (i:=1) (by rw [List.length_set];omega);apply vn (aH bG (m:=0) (by omega) rfl (aI (show 0<h.length by omega))) rfl;apply vn (aR cF (by decide) (by simp) (.inl rfl)) rfl;apply aA (dE 2) rfl;apply aA (fK _ _ A 62 (aC hh _ hA1) (Fit.int (by omega) (by omega))) rfl;dsimp only [aE,aF];apply vn (aH bG (m:=0) (by omega) rfl (aI (show 0<h.length by omega))) rfl;apply vn (aR cF (by decide) (by simp) (.inl rfl)) rfl;refine cJ rfl rfl (by omega) (by omega) ?_;refine gP (f:=qC) (d':=h.getD 0 0*((2:Int):Rat)) rfl rfl (by omega) rfl hx1 rfl ?_;refine cJ rfl rfl (by omega) (by rw [List.length_set];omega) ?_;refine gP (f:=qC) (d':=h.getD 0 0) rfl rfl (by omega) rfl hx2 rfl ?_;dsimp only [aE,aF];exact lG rfl rfl
def riR (h:List Rat) (n:Nat) (r:List Rat):List Rat:=(r.set (n-2) (h.getD (n-2) 0)).set (n-1) (h.getD (n-2) 0*((2:Int):Rat))
theorem Qc (h:List Rat) (n A:Nat) (r:List Rat) (hA1:1<=A) (hA:A<=1000000000) (hh:∀ a∈h,Fit A a) (hn:2<=n) (hir:n<=r.length) (hs:h.length<1099511627776:=by omega) (hil:n-2<h.length:=by omega):kP prog 135 46 3 [] [(.one (.bH ([sQ h])):aJ),(.one (.bH ([.int .i64 (n:Int)])):aJ)] (rQ r) [] (rQ (riR h n r)):=by
 refine oL (a1:=[]) (a2:=[.ref 1, .ref 1]) (i1:=[]) (i2:=[.ref ([sQ h]), .ref ([.int .i64 (n:Int)])]) (hints:=(fun _=>none)) fo (by kernel_rfl) func135 trivial ⟨rfl,rfl,trivial⟩ (by kernel_rfl) ?_ ?_ ?_ ?_
 .first | (simp [riR];done) | (intro t ht;obtain ⟨a,_,rfl⟩:=eM.1 ht;rfl)
 .first | (simp [riR];done) | (intro t ht;obtain ⟨a,_,rfl⟩:=eM.1 ht;rfl)
 .first | (simp [riR];done) | (intro t ht;obtain ⟨a,_,rfl⟩:=eM.1 ht;rfl)
 dsimp only [aE,aF];rw [OG];dsimp only [List.map,In.env,aE,aF];obtain ⟨x1,hx1⟩:=sG (l:=r) (i:=n-2);obtain ⟨x2,hx2⟩:=sG (l:=r.set (n-2) (h.getD (n-2) 0)) (i:=n-1) (by rw [List.length_set];omega);apply vn (aG (by omega) (by omega)) rfl;apply vn (aG (by omega) (by omega)) rfl;apply vn (aG (by omega) (by omega)) rfl;dsimp only [aE,aF];apply vn (aH bG (m:=n-2) (by omega) (by omega) (aI (show n-2<h.length by omega))) rfl;apply vn (aR cF (by decide) (by simp) (.inl rfl)) rfl;apply vn (aG (by omega) (by omega)) rfl;dsimp only [aE,aF];apply vn (aH bG (m:=n-2) (by omega) (by omega) (aI (show n-2<h.length by omega))) rfl;apply vn (aR cF (by decide) (by simp) (.inl rfl)) rfl;apply aA (dE 2) rfl;apply aA (fK _ _ A 62 (aC hh _ hA1) (Fit.int (by omega) (by omega))) rfl;dsimp only [aE,aF];refine cJ rfl rfl (by omega) (by omega) ?_;refine gP (f:=qC) (d':=h.getD (n-2) 0) rfl rfl (by omega) (show ((n:Int)-2).toNat=n-2 by omega) hx1 rfl ?_;refine cJ rfl rfl (by omega) (by rw [List.length_set];omega) ?_;refine gP (f:=qC) (d':=h.getD (n-2) 0*((2:Int):Rat)) rfl rfl (by omega) (show ((n:Int)-1).toNat=n-1 by omega) hx2 rfl ?_;dsimp only [aE,aF];exact lG rfl rfl
theorem Uy (r:List Rat) (k:Nat) (hk:k<r.length) (hs:r.length<1099511627776):aQ prog 201 [(.one (sQ r):aJ),(.one (.bH ([.int .i64 (k:Int)])):aJ)] (.ret [.one (.bool (decide (r.getD k 0≠0)))]):=by
 refine dvr (ins:=[.v (.one (sQ r)), .ref ([.int .i64 (k:Int)])]) func201 Vf ?_;apply vn (aH bG (m:=k) (by omega) (Int.toNat_natCast k) (aI hk)) rfl;apply vn (aR cF (by decide) (by simp) (.inl rfl)) rfl;apply aA (jW _) rfl;apply vn fG rfl;rw [show decide ((r.getD k 0).num.sign≠0)=decide (r.getD k 0≠0) by rw [decide_eq_decide];exact not_congr sign_zero];exact aL rfl
theorem zH (e:List (List Rat)) (g:Nat) (caps:List aD) (c:List Rat->Bool) (hc:∀ p∈e,aQ prog g (.one (sQ p)::caps.map .one) (.ret [.one (.bool (c p))])) (hs:e.length<1099511627776):aQ prog 200 [(.one (eQ e):aJ),(.one (.fP g caps):aJ)] (.ret [.one (.int .i64 (jN c e 0))]):=by
 refine eH func200 zP ?_;apply vn (aM sC (aK _)) rfl;refine bZ {i:Nat // i<=e.length/\jN c e 0=jN c (e.drop i) i} (fun g=>[.one (.int .i64 0), .one (.int .i64 g.1)]) (fun g=>e.length-g.1) ⟨0,dD _,rfl⟩ aX.rfl (fun _=>rfl) ?_;rintro ⟨i,hi,hf⟩;dsimp only [aE,aF] at hi hf ⊢;apply vn bQ rfl;refine vs _ rfl ?_ ?_<;>intro h3
 .obtain ⟨p,hp⟩:∃ p,e[i]? = some p:=⟨_,cC (by omega)⟩
  have hdrop:e.drop i=p::e.drop (i+1):=by
   rw [List.drop_eq_getElem_cons (by omega),(dR.1 hp).2]
  rw [hdrop,jN] at hf;apply vn (aH sC (by omega) (by omega) hp) rfl;apply vn (cH am6) rfl;apply zU (f:=g) (caps:=caps) rfl (hc p (gD hp)) rfl;dsimp only [aE,aF];refine pY (c p) rfl (fun h7=>?_) (fun h7=>?_)
  .rw [hf,if_pos h7];exact aL rfl
  apply vn (aB (by omega) (by omega)) rfl;dsimp only [aE,aF];exact bD rfl ⟨⟨i+1,by omega,by rw [hf,if_neg (by simp [h7])]⟩,aX.rfl,by show e.length-(i+1)<e.length-i;omega⟩
 rw [hf,List.drop_eq_nil_of_le (by omega),jN];exact aL rfl
def mR (x y:List Rat):Bool:=decide (2<=x.length)&&(decide (x.length<=40)&&(decide (y.length=x.length)&&kE true x))
theorem Dn (x y:List Rat) (A:Nat) (hp:∀ a∈x,Fit A a) (hA1:1<=A:=by omega) (hl:x.length<1099511627776:=by omega) (hl2:y.length<1099511627776:=by omega) (hA:A<=1073741824:=by omega):aQ prog 129 [(.one (sQ x):aJ),(.one (sQ y):aJ)] (.ret [.one (.bool (mR x y))]):=by
 refine eH func129 ZW ?_;apply vn (aM bG (aK _)) rfl;apply vn gJ rfl;refine vs _ rfl ?_ ?_<;>intro h2
 .apply vn (aM bG (aK _)) rfl;apply vn nX rfl;dsimp only [aE,aF];refine vs _ rfl ?_ ?_<;>intro h5
  .apply vn (aM bG (aK _)) rfl;apply vn (aM bG (aK _)) rfl;apply vn dP rfl;refine vs _ rfl ?_ ?_<;>intro h9
   .apply aA (vQ x true A hp hA1 hA hl) rfl;dsimp only [aE,aF];rw [mR,decide_eq_true (show 2<=x.length by omega),decide_eq_true (show x.length<=40 by omega),decide_eq_true (show y.length=x.length by omega)];exact aL rfl
   rw [mR,decide_eq_true (show 2<=x.length by omega),decide_eq_true (show x.length<=40 by omega),decide_eq_false (show ¬ y.length=x.length by omega)];exact aL rfl
  rw [mR,decide_eq_true (show 2<=x.length by omega),decide_eq_false (show ¬ x.length<=40 by omega)];exact aL rfl
 rw [mR,decide_eq_false (show ¬ 2<=x.length by omega)];exact aL rfl
open Go Go.Proofs Go.RowKit Tryz Ord
attribute [local go_sem] Oper.semAt_some
def It:Tr:=.ret [(.one (.ref 0 [(.u 0 0),(.u 0 1),(.u 0 2)])),(.one (.c (.k (.slice none 0 0))))]
theorem Uc:bP prog 19 (fun _=>none) (aO [0] (aW f133)) [(1, .v (some 3))] ([4,6].map ResultVar.tmp) none false=It:=by kernel_rfl
def LY:Tr:=.retr [] 3
def Le:Tr:=.need (.strow 2 3 (.u 0 0) 0 [(.u 1 0),(.u 1 1),(.u 1 2)]) (.store 46 (.tmp 14) (.tmp 13)) 0 false LY
def Jr:Tr:=.need (.idx 2 (.u 0 0)) (.indexAddr 28 (.tmp 11) (.tmp 12)) 0 false Le
theorem Sk:nE prog 19 (fun _=>none) (aO [1,1,0] (aW f133)) [(0, .v none),(4, .ref 3)] 7 46 3 7 ([].map ResultVar.tmp)=Jr:=by kernel_rfl
theorem rD (t:Array Value) (n:Nat) (h:t.size=n):t=(List.ofFn fun i:Fin n=>t.getD i.1 Go.undef).toArray:=by
 apply Array.ext
 .simp [h]
 .intro i h1 h2;simp [Array.getD,h1]
theorem aL3 (t:Array Value) (h:t.size=19):t = #[t.getD 0 Go.undef,t.getD 1 Go.undef,t.getD 2 Go.undef,t.getD 3 Go.undef,t.getD 4 Go.undef,t.getD 5 Go.undef,t.getD 6 Go.undef,t.getD 7 Go.undef,t.getD 8 Go.undef,t.getD 9 Go.undef,t.getD 10 Go.undef,t.getD 11 Go.undef,t.getD 12 Go.undef,t.getD 13 Go.undef,t.getD 14 Go.undef,t.getD 15 Go.undef,t.getD 16 Go.undef,t.getD 17 Go.undef,t.getD 18 Go.undef]:=(rD t 19 h).trans rfl
abbrev z3:List aD:=[.exact (.slice none 0 0), .bool false, .exact (.slice none 0 0)]
theorem bd0 {c:Code} {Q:Exit->Act->World->Prop} {a:Act} {w:World} (h:c.wpIn Fence.wide 999 prog Q a w):c.wp prog Q a w:=wpIn_wide.1 h
theorem aS2 (right:Rat):vc prog (fun o=>cG o (.ret [.one (.bH (qC right)), .one (.exact (.slice none 0 0))])) (bP prog 19 (fun _=>none) (aO [0] (aW f133)) [(1, .v (some 3))] ([4,6].map ResultVar.tmp) none false) ([.v (qT right)].map In.env) []:=by
 rw [Uc];dsimp only [List.map,In.env,aE,aF];exact aL rfl
theorem bi8 (n:Nat) (right:Rat) (hn:n<1099511627776):vc prog (fun o=>o = .retr [] ((List.replicate (n+1) z3).set n (qC right))) (nE prog 19 (fun _=>none) (aO [1,1,0] (aW f133)) [(0, .v none),(4, .ref 3)] 7 46 3 7 ([].map ResultVar.tmp)) ([.v (.one (.int .i64 (n:Int))), .ref (qC right)].map In.env ++ [.rows (List.replicate (n+1) z3)]) []:=by
 rw [Sk];dsimp only [List.map,In.env,aE,aF];refine qP rfl rfl (by omega) (by rw [List.length_replicate];omega) ?_;refine QK (ts:=List.replicate (n+1) z3) (us:=(List.replicate (n+1) z3).set n (qC right)) rfl rfl (by omega) (cells:=z3) (by rw [Int.toNat_natCast,List.getElem?_replicate,if_pos (by omega)]) (by rw [Int.toNat_natCast];rfl) ?_;dsimp only [aE,aF];exact lG rfl rfl
theorem Dj {α β:Type} {R:α->β->Prop} {a:α} {b:β} (h:R a b):∀ {xs:List α} {ys:List β} (m:Nat),bB R xs ys->bB R (xs.set m a) (ys.set m b)
 | [],[],_,_=>trivial
 | _::_,_::_,0,⟨_,k⟩=>⟨h,k⟩
 | _::_,_::_,m+1,⟨j,k⟩=>⟨j,Dj h m k⟩
theorem bj8 (n:Nat) (right:Rat):bB (bB aD.Sub) ((List.replicate (n+1) z3).set n (qC right)) (rQ ((List.replicate (n+1) 0).set n right)):=by
 rw [rQ,List.map_set,List.map_replicate];exact Dj ⟨aD.Sub.same,aD.Sub.same,aD.Sub.same,trivial⟩ n (Ed jV (n+1))
theorem mk1 {F:Fence} {nF:Nat} {ops:Array Oper} {rest:List Oper} {o:Oper} {a:Act} {Q:Exit->Act->World->Prop} {w:World} (hgd:o.guard=none) (l c:Operand) (ho:o.op = .makeSlice 28 l c) (m:Nat) (hl:a.eval l = .int .i64 (m:Int)) (hc:a.eval c = .int .i64 (m:Int))
  (h:∀ cur,cur.size=m*3->(∀ M' w',bA M' w' (List.replicate m z3).flatten cur.toList)->wpListIn F nF prog ops Q rest (a.put o.dst (.slice (some ⟨w.heap.size,0,none⟩) m m)) (w.alloc (.cells cur 46))) (hm:m<=1099511627777:=by omega) :
  wpListIn F nF prog ops Q (o::rest) a w:=by
 obtain ⟨ie,hu,hie,hies,hieb⟩:=cE bG;obtain ⟨ie',zv,hi,hz,hzc,_,hzs⟩:=fE (show nR prog 46=some [.slice none 0 0, .bool false, .slice none 0 0] by kernel_rfl);rw [hie] at hi;simp only [aN] at hi;subst hi;have hr:=run_make (P:=prog) w 28 46 ie zv hu hie hz .i64 .i64 (m:Int) (m:Int) (by omega) (Int.le_refl _) (by rw [hieb];omega) (by omega);simp only [Int.toNat_natCast] at hr;refine wpListIn_plain hgd fun K hK'=>?_;unfold Oper.wpIn;refine ⟨?_,?_⟩
 .simp [Oper.about,ho]
 .rw [Oper.semAt_plain F _ _ (by rw [ho];intro c hc';cases hc')];simp [execOp,ho,hl,hc,hr,Result.andThen];refine hK' _ _ (h _ (by rw [size_madeCells,hies]) fun M' w'=>?_);have hz3:zv.cells.toList = [.slice none 0 0, .bool false, .slice none 0 0]:=by rw [hzc]
  have ht:=NR (z:=zv.cells) (sz:=3) (c:=m) (l:=m) (by rw [hzs,hies]) (aY _);rw [List.take_of_length_le (by rw [Array.length_toList,size_madeCells];exact aY _)] at ht;rw [hies,ht,hz3];exact bA.replicate (vs:=[.slice none 0 0, .bool false, .slice none 0 0]) (show bA _ _ z3 [.slice none 0 0, .bool false, .slice none 0 0] from ⟨⟨rfl,rfl⟩,⟨rfl,rfl⟩,⟨rfl,rfl⟩,trivial⟩) m
theorem oY {r:List Rat}:∀ t∈rQ r,t.length=3:=fun t ht=>by obtain ⟨a,_,rfl⟩:=eM.1 ht;rfl
theorem aP {c:Code} {a a':Act} (h:Ag (wr c) a a') (t:Nat) (ht:wr c t=false):a'.tmps.getD t Go.undef=a.tmps.getD t Go.undef:=h t ht
theorem Sj {M:Nat->Prop} {w:World}:∀ (cs:List aD) (vs:List Value),cD M w (cs.map .one) vs↔bA M w cs vs
 | [],[]=>Iff.rfl
 | c::cs,v::vs=>and_congr Iff.rfl (Sj cs vs)
 | [],_::_=>Iff.rfl
 | _::_,[]=>Iff.rfl
set_option maxRecDepth 100000 in
theorem Xj (n:Nat) (right:Rat) (g:FuncId) (caps:List aD) (r':List Rat) (hn:n<1099511627776) (hl:r'.length=n+1) (hset:kP prog g 46 3 [] (caps.map .one) (rQ ((List.replicate (n+1) 0).set n right)) [] (rQ r')) :
  pA prog 133 [.one (.int .i64 (n:Int)),qT right, .one (.fP g caps)] fun n0=>[.one (.jP n0 46 3 (rQ r'))]:=by
 refine ⟨bJ (by kernel_rfl),fun M w vs hM hv=>?_⟩
 match vs,hv with
 | [nv,rv,cv],⟨hnv,hrv,hcv,_⟩=>
   obtain ⟨lb,rfl,hlb⟩:=hcv;obtain rfl:nv = .int .i64 (n:Int):=hnv.1;refine calls_of_wp func133 rfl ?_;simp only [ntmps133,List.size_toArray,List.length_cons,List.length_nil,Nat.reduceAdd,Nat.reduceSub,Array.replicate_succ,Array.replicate_zero,List.push_toArray,List.append_toArray,List.nil_append,List.cons_append];refine wp_seq (cB jB.wp (n0:=w.heap.size) (N:=19) (ins:=[(1, .v (some 3))]) (xs:=[.v (qT right)]) fo ⟨rfl,trivial⟩ (vD (aS2 right)) (by kernel_rfl) (aY _) hM rfl rfl ⟨hrv,trivial⟩ ?_);intro a1 w1 us1 hag1 hb1 hsz1 hdf1 hr1 hrep1;have hus:=bU hr1;have k0:=aP hag1 0 (by kernel_rfl);have k2:=aP hag1 2 (by kernel_rfl);change a1.tmps.getD 0 Go.undef = .int .i64 (n:Int) at k0;change a1.tmps.getD 2 Go.undef = .func (.func g) #[] lb.toArray at k2;subst hus;obtain ⟨h4,h6,_⟩:=hrep1;have h6':a1.tmps.getD 6 Go.undef = .slice none 0 0:=h6.1;clear h6;have hM1:cK M w1:=⟨fun b hb=>Nat.lt_of_lt_of_le (hM.1 b hb) hb1.size,hM.2.eE (bO.below hb1)⟩
   have hor1:(fun k=>M k\/(Value.slice none 0 0).ownBlock=some k)=M:=funext fun k=>propext ⟨fun h=>h.elim id (fun e=>by cases e), .inl⟩;obtain ⟨t1,d1⟩:=a1;dsimp only at hsz1 hdf1 h6' k0 k2 h4;subst hdf1;rw [aL3 t1 hsz1,k0,k2,h6'];clear hr1 hag1;have h4:(aD.bH (qC right)).rep M w1 (t1.getD 4 Go.undef):=h4;obtain ⟨p4,hp4⟩:∃ p,t1.getD 4 Go.undef=p:=⟨_,rfl⟩
   rw [hp4] at h4 ⊢;generalize t1.getD 1 Go.undef=y1;generalize t1.getD 3 Go.undef=y3;generalize t1.getD 5 Go.undef=y5;generalize t1.getD 7 Go.undef=y7;generalize t1.getD 8 Go.undef=y8;generalize t1.getD 9 Go.undef=y9;generalize t1.getD 10 Go.undef=y10;generalize t1.getD 11 Go.undef=y11;generalize t1.getD 12 Go.undef=y12;generalize t1.getD 13 Go.undef=y13;generalize t1.getD 14 Go.undef=y14;generalize t1.getD 15 Go.undef=y15;generalize t1.getD 16 Go.undef=y16;generalize t1.getD 17 Go.undef=y17;generalize t1.getD 18 Go.undef=y18;clear hsz1 k0 k2 h6' hp4;show Code.wp _ _ _ _ _;refine bd0 (wpIn_seq ?_);generalize hK:Exit.then _ _=K
   gi_wp2_with (gi_at_make;refine mk1 rfl _ _ rfl (n+1) rfl rfl ?_;intro cur hcz hrepz)
   rw [<-hK];clear hK K;obtain ⟨w2,hw2⟩:∃ w2,w1.alloc (.cells cur 46)=w2:=⟨_,rfl⟩
   have hb2:Below w1.heap.size w1 w2:=by rw [<-hw2];exact (Below.refl _ w1).alloc (aY _) _
   have hg2:w2.heap[w1.heap.size]? = some (.cells cur 46 (0,0)):=by rw [<-hw2];exact heap_alloc_new w1 _
   obtain ⟨v2,hv2⟩:∃ v2,Value.slice (some ⟨w1.heap.size,0,none⟩) (n+1) (n+1)=v2:=⟨_,rfl⟩
   have hob2:∀ k,v2.ownBlock=some k↔k=w1.heap.size:=fun k=>by rw [<-hv2];simp [Value.ownBlock,eq_comm]
   have hfr2':∀ k,v2.ownBlock=some k->w1.heap.size<=k:=fun k hk=>by rw [(hob2 k).1 hk];exact aY _
   have hown2:w2.ownsRow 0 46 3 v2 (List.replicate (n+1) z3).length cur.toList:=by
    rw [List.length_replicate];exact ⟨by rw [Array.length_toList,hcz], .inr ⟨w1.heap.size,n+1,cur,hv2.symm,dD _,hg2,aY _,by simp only [maxLen];omega,hcz,List.take_of_length_le (by rw [Array.length_toList,hcz];exact aY _)⟩⟩
   rw [hw2,hv2];show Code.wpIn _ _ _ _ _ _ _;refine wpIn_wide.2 ?_
   have h4':(aD.bH (qC right)).rep (fun k=>M k\/v2.ownBlock=some k) w2 p4:=by
    refine aD.mono _ (fun b o hb ho _=>?_) h4;have hlt:=(cS.1 ho).1;exact ⟨fun h=>h.elim hb (fun e=>by have:=hfr2' b e;omega),(hb2.block b hlt).trans ho⟩
   have hMd2:∀ k,M k->v2.ownBlock≠some k:=fun k hk e=>by have:=hfr2' k e;have:=hM1.1 k hk;omega
   have hM2:cK (fun k=>M k\/v2.ownBlock=some k) w2:=by
    refine ⟨fun b hb=>hb.elim (fun h=>Nat.lt_of_lt_of_le (hM1.1 b h) hb2.size) (fun e=>(hown2.lt b e).2),hM1.2.eE fun b o hb ho _=>?_⟩;have hlt:=(cS.1 ho).1;exact ⟨fun h=>h.elim hb (fun e=>by have:=hfr2' b e;omega),(hb2.block b hlt).trans ho⟩
   show Code.wp _ _ _ _ _;refine wp_seq (sV jB.wp (N:=19) (t0:=7) (E:=46) (sz:=3) (tr:=7) (ts:=List.replicate (n+1) z3) (ins:=[(0, .v none),(4, .ref 3)]) (xs:=[.v (.one (.int .i64 (n:Int))), .ref (qC right)]) fo ⟨rfl,rfl,trivial⟩ (bi8 n right hn) (by kernel_rfl) hM2 hMd2 rfl rfl ⟨⟨rfl,rfl⟩,h4',trivial⟩ rfl hown2 (fun t ht=>by rw [(List.mem_replicate.1 ht).2];rfl) (hrepz _ _) ?_);intro a3 w3 us3 v3 xs3 hag3 hg3 hsz3 hdf3 hr3 ht3 hown3 hfr3 _ hrep3;have k2'':=aP hag3 2 (by kernel_rfl);change a3.tmps.getD 2 Go.undef = .func (.func g) #[] lb.toArray at k2'';have hrep3':=bA.sub (bB.flat (bj8 n right)) hrep3;rw [List.length_set,List.length_replicate] at hown3;have k7:a3.tmps.getD 7 Go.undef=v2:=aP hag3 7 (by kernel_rfl);rcases hown3.2 with ⟨_,h0⟩ | ⟨b,cap,cur,rfl,_,hgb,hnc,hcm,hcs,htake⟩
   .omega
   rw [ht3,<-hv2] at k7;simp only [Value.slice.injEq,aN,Addr.mk.injEq,and_true,true_and] at k7;obtain ⟨hbw,hcap⟩:=k7;subst hcap;have hbw2:w1.heap.size<=b:=by omega
   clear hbw
   have hbn:w1.heap.size<=b:=by
    rcases hfr3 b rfl with h | h
    .have:=hb2.size;omega
    .exact hfr2' b h
   have hk13:∀ j,j<w1.heap.size->w3.heap[j]? = w1.heap[j]?:=fun j hj=>by
    have hj2:j<w2.heap.size:=Nat.lt_of_lt_of_le hj hb2.size;rw [hg3.block j hj2 (fun e=>by have:=hfr2' j e.symm;omega),hb2.block j hj]
   have hMb:(fun k=>M k\/(Value.slice (some ⟨b,0,none⟩) (n+1) (n+1)).ownBlock=some k)=Mb M b:=funext fun k=>propext ⟨fun h=>h.imp id (fun e=>by simpa [Value.ownBlock,eq_comm] using e),fun h=>h.imp id (fun e=>by simpa [Value.ownBlock,eq_comm] using e)⟩;rw [hMb] at hrep3';have hs13:w1.heap.size<=w3.heap.size:=Nat.le_trans hb2.size hg3.size
   have hkw:bO M w (Mb M b) w3:=fun k o hk ho _=>by
    have hlt:=(cS.1 ho).1;have hlt1:k<w1.heap.size:=Nat.lt_of_lt_of_le hlt hb1.size;exact ⟨fun h=>h.elim hk (by omega),(hk13 k hlt1).trans ((hb1.block k hlt).trans ho)⟩
   have hM3:cK (Mb M b) w3:=⟨fun k hk=>hk.elim (fun h=>by have:=hM1.1 k h;omega) (fun e=>by rw [e];exact (cS.1 hgb).1),hM.2.eE hkw⟩
   have hlen3:(rQ ((List.replicate (n+1) 0).set n right)).length=n+1:=by rw [aK,List.length_set,List.length_replicate]
   have hlbS:cD (Mb M b) w3 (caps.map .one) lb:=(Sj caps lb).2 (hlb.mono hkw);have hcall:=hset.2.2.2 (Mb M b) w3 b 0 (n+1) cur [] lb hM3 (.inr rfl) hgb (by rw [hlen3,Nat.zero_add,hcs];exact Nat.mul_le_mul_right _ hnc) (by rw [hlen3];exact hnc) hcm (by rw [hlen3,List.drop_zero,htake];exact hrep3') trivial hlbS;rw [hlen3] at hcall;obtain ⟨t3,d3⟩:=a3;dsimp only at hsz3 hdf3 ht3 k2'';subst hdf3;rw [aL3 t3 hsz3,k2'',ht3];clear hrep3 hrep3' hown3 hr3 hag3 k2'' ht3;generalize t3.getD 0 Go.undef=y0;generalize t3.getD 1 Go.undef=y1;generalize t3.getD 3 Go.undef=y3;generalize t3.getD 4 Go.undef=y4;generalize t3.getD 5 Go.undef=y5;generalize t3.getD 6 Go.undef=y6;generalize t3.getD 8 Go.undef=y8;generalize t3.getD 9 Go.undef=y9;generalize t3.getD 10 Go.undef=y10;generalize t3.getD 11 Go.undef=y11;generalize t3.getD 12 Go.undef=y12;generalize t3.getD 13 Go.undef=y13;generalize t3.getD 14 Go.undef=y14;generalize t3.getD 15 Go.undef=y15;generalize t3.getD 16 Go.undef=y16;generalize t3.getD 17 Go.undef=y17;generalize t3.getD 18 Go.undef=y18;clear hsz3;clear hv2 hob2 hw2;show Code.wp _ _ _ _ _;refine bd0 ?_
   gi_wp2
   refine ⟨trivial,?_⟩;rw [hset.1];refine ⟨(fun h=>by cases h),?_⟩;refine (callsIn_wide.2 hcall).mono ?_;rintro e w4 ⟨cur',us,hg4,hgb4,hcs4,_,rfl,_,hrep4⟩
   gi_wp2
   have hlr:(rQ r').length=n+1:=by rw [aK];exact hl
   have hs4:=hg4.size;refine bodyPost_ret (results_tmp rfl _ _ _) rfl ⟨⟨?_,?_,?_,by have:=hb1.size;omega,fun j hj=>?_⟩,[_],rfl,⟨b,cur',?_,by have:=hb1.size;omega,fun h=>?_,hgb4,by rw [hlr];exact hcm,by rw [hcs4,hcs,hlr],oY,?_⟩,trivial⟩
   .exact hg4.os.trans (hg3.os.trans (hb2.os.trans hb1.os))
   .exact hg4.tape.trans (hg3.tape.trans (hb2.tape.trans hb1.tape))
   .exact hg4.output.trans (hg3.output.trans (hb2.output.trans hb1.output))
   .have hlt1:j<w1.heap.size:=Nat.lt_of_lt_of_le hj hb1.size;exact (hg4.block j (by omega) (fun e=>by have:=Option.some.inj e;omega)).trans ((hk13 j hlt1).trans (hb1.block j hj))
   .rw [hlr];rfl
   .have:=hM1.1 b h;omega
   .rwa [List.drop_zero,List.take_of_length_le (by rw [Array.length_toList,hcs4,hcs];exact aY _)] at hrep4
 | [],hv=>exact hv.elim
 | [_],hv=>exact hv.2.elim
 | [_,_],hv=>exact hv.2.2.elim
 | _::_::_::_::_,hv=>exact hv.2.2.2.elim
end Go.Sy
namespace Go.Sy
open Go Go.Proofs Go.RowKit Tryz Ord
def Jn:Tr:=.ret []
theorem SY:bP prog 28 (fun _=>none) (aO [0] (aW f197)) [] ([].map ResultVar.tmp) none false=Jn:=by kernel_rfl
def IL:Tr:=.ret [(.one (.c (.k (.slice none 0 0))))]
theorem Tu:bP prog 28 (fun _=>none) (aO [1,0] (aW f197)) [] ([5].map ResultVar.tmp) none false=IL:=by kernel_rfl
def Fp:Tr:=.back 0 [(.w (W 15 0)),(.row 14)]
def Gj:Tr:=.need (.prim [(W 3 0),(WK (1))] none) (.binOp .add 3 (.tmp 11) (.const (I3 (1))) 3) 3 false Fp
def FY:Tr:=.need (.app 3 56 (some 4) none (some 13)) (.call ⟨.builtin .append,#[(.tmp 13),(.tmp 25)],#[28,28]⟩) 28 false Gj
def HH:Tr:=.need (.lit 3 [[(.u 12 0),(.u 12 1),(.u 12 2)]]) (.buildSlice 28 1 #[(0,(.tmp 24))]) 28 false FY
def Lb:Tr:=.need (.callv (.u 1 0) [(.agg [(U 9 0),(U 9 1),(U 9 2)]),(.agg [(U 11 0),(U 11 1),(U 11 2)])] [(some 3)]) (.call ⟨.value (.tmp 14),#[(.tmp 19),(.tmp 23)],#[46,46]⟩) 46 true HH
def JF:Tr:=.need (.prim [(W 10 0)] (some 3)) (.load 46 (.tmp 22)) 46 false Lb
def JD:Tr:=.need (.prim [(W 0 0),(W 3 0)] none) (.indexAddr 28 (.tmp 20) (.tmp 21)) 0 false JF
def Mw:Tr:=.need (.prim [(W 8 0)] (some 3)) (.load 46 (.tmp 18)) 46 false JD
def KM:Tr:=.need (.prim [(W 0 0),(W 7 0)] none) (.indexAddr 28 (.tmp 15) (.tmp 17)) 0 false Mw
def Kj:Tr:=.need (.prim [(W 3 0),(WK (1))] none) (.binOp .sub 3 (.tmp 16) (.const (I3 (1))) 3) 3 false KM
def DV:Tr:=.retr [] 4
def KQ:Tr:=.split (.u 6 0) Kj DV
def LR:Tr:=.need (.prim [(W 3 0),(W 5 0)] none) (.binOp .lss 3 (.tmp 7) (.tmp 9) 3) 4 false KQ
def JM:Tr:=.need (.prim [(W 0 0)] none) (.call ⟨.builtin .len,#[(.tmp 8)],#[28]⟩) 3 false LR
def Js:Tr:=.loop 0 [(.w (WK (1))),(.row 2)] JM
theorem Ty:nE prog 28 (fun _=>none) (aO [1,1,0] (aW f197)) [(0, .v none),(1, .v none)] 5 46 3 5 ([].map ResultVar.tmp)=Js:=by kernel_rfl
def LS:Tr:=.ret [(W 0 0)]
theorem SX:bP prog 28 (fun _=>none) (aO [1,1,1,0] (aW f197)) [(5, .v none)] ([4].map ResultVar.tmp) none false=LS:=by kernel_rfl
def bi7:Tr:=.need (.call 197 [(W 0 0),(.one (.fP 198 []))] [none]) (.call ⟨.value (.func 197),#[(tT 3),(.func 198)],#[28,164]⟩) 28 true (.ret [(W 1 0)])
theorem Zn:aV prog f131 (fun _=>none) [.v none]=bi7:=by kernel_rfl
def JU:Tr:=.ret []
theorem Uk:bP prog 31 (fun _=>none) (aO [0] (aW f132)) [] ([].map ResultVar.tmp) none false=JU:=by kernel_rfl
def Kc:Tr:=.ret [(W 1 0)]
def KC:Tr:=.need (.call 131 [(W 0 0)] [none]) (.call ⟨.value (.func 131),#[(.tmp 8)],#[28]⟩) 28 true Kc
theorem TF:bP prog 31 (fun _=>none) (aO [1,0] (aW f132)) [(0, .v none)] ([5].map ResultVar.tmp) none false=KC:=by kernel_rfl
def Kv:Tr:=.ret [(W 1 0)]
def Lw:Tr:=.need (.call 131 [(W 0 0)] [none]) (.call ⟨.value (.func 131),#[(.tmp 10)],#[28]⟩) 28 true Kv
theorem Ue:bP prog 31 (fun _=>none) (aO [1,1,0] (aW f132)) [(1, .v none)] ([6].map ResultVar.tmp) none false=Lw:=by kernel_rfl
def Hc:Tr:=.back 0 [(.w (W 11 0)),(.row 10)]
def DF:Tr:=.need (.prim [(W 3 0),(WK (1))] none) (.binOp .add 3 (.tmp 14) (.const (I3 (1))) 3) 3 false Hc
def Ei:Tr:=.need (.strow 4 3 (.u 3 0) 0 [(.u 9 0),(.u 9 1),(.u 9 2)]) (.store 46 (.tmp 28) (.tmp 27)) 0 false DF
def Iu:Tr:=.need (.idx 4 (.u 3 0)) (.indexAddr 28 (.tmp 17) (.tmp 18)) 0 false Ei
def JE:Tr:=.need (.call 112 [(.agg [(U 6 0),(U 6 1),(U 6 2)]),(.agg [(U 8 0),(U 8 1),(U 8 2)])] [(some 3)]) (.call ⟨.value (.func 112),#[(.tmp 22),(.tmp 26)],#[46,46]⟩) 46 true Iu
def Mi:Tr:=.need (.prim [(W 7 0)] (some 3)) (.load 46 (.tmp 25)) 46 false JE
def Ki:Tr:=.need (.prim [(W 0 0),(W 3 0)] none) (.indexAddr 28 (.tmp 23) (.tmp 24)) 0 false Mi
def LI:Tr:=.need (.ldrow 4 (.u 3 0) 0 3 true) (.load 46 (.tmp 21)) 46 false Ki
def Lt:Tr:=.need (.idx 4 (.u 3 0)) (.indexAddr 28 (.tmp 19) (.tmp 20)) 0 false LI
def ET:Tr:=.retr [] 4
def IB:Tr:=.split (.u 5 0) Lt ET
def JT:Tr:=.need (.prim [(W 3 0),(W 2 0)] none) (.binOp .lss 3 (.tmp 14) (.tmp 13) 3) 0 false IB
def Ke:Tr:=.loop 0 [(.w (WK (0))),(.row 1)] JT
def KI:Tr:=.need (.lenrow 1) (.call ⟨.builtin .len,#[(.tmp 12)],#[28]⟩) 3 false Ke
theorem RX:nE prog 31 (fun _=>none) (aO [1,1,1,0] (aW f132)) [(5, .v none)] 6 46 3 6 ([].map ResultVar.tmp)=KI:=by kernel_rfl
def JN:Tr:=.ret [(W 0 0)]
theorem TC:bP prog 31 (fun _=>none) (aO [1,1,1,1,0] (aW f132)) [(6, .v none)] ([4].map ResultVar.tmp) none false=JN:=by kernel_rfl
def stL (f:Rat->Rat->Rat) (l:List Rat) (i:Nat):Rat:=f (l.getD i 0) (l.getD (i+1) 0)
def pF (f:Rat->Rat->Rat) (l:List Rat):List Rat:=(List.range (l.length-1)).map (stL f l)
theorem ZZ (f:Rat->Rat->Rat) (l:List Rat) (i:Nat):(List.range i).map (stL f l) ++ [stL f l i]=(List.range (i+1)).map (stL f l):=by rw [List.range_succ,List.map_append];rfl
theorem bf4  :vc prog (fun o=>cG o (.ret [])) (bP prog 28 (fun _=>none) (aO [0] (aW f197)) [] ([].map ResultVar.tmp) none false) ([].map In.env) []:=by
 rw [SY];dsimp only [List.map,In.env,aE,aF];exact aL rfl
theorem aX1  :vc prog (fun o=>cG o (.ret [.one (.exact (.slice none 0 0))])) (bP prog 28 (fun _=>none) (aO [1,0] (aW f197)) [] ([5].map ResultVar.tmp) none false) ([].map In.env) []:=by
 rw [Tu];dsimp only [List.map,In.env,aE,aF];exact aL rfl
theorem aQ8 (l:List Rat) (g:FuncId) (f:Rat->Rat->Rat) (hf:∀ i,i+1<l.length->aQ prog g [qT (l.getD i 0),qT (l.getD (i+1) 0)] (.ret [qT (stL f l i)])) (hs:l.length<1099511627776):vc prog (fun o=>o = .retr [] (rQ (pF f l))) (nE prog 28 (fun _=>none) (aO [1,1,0] (aW f197)) [(0, .v none),(1, .v none)] 5 46 3 5 ([].map ResultVar.tmp)) ([.v (.one (sQ l)), .v (.one (.fP g []))].map In.env ++ [.rows ([])]) []:=by
 rw [Ty];dsimp only [List.map,In.env,aE,aF];refine bZ {i:Nat // i<=l.length-1} (fun g=>[.one (.int .i64 ((g.1:Int)+1)), .rows (rQ ((List.range g.1).map (stL f l)))]) (fun g=>l.length-1-g.1) ⟨0,dD _⟩ aX.rfl (fun _=>rfl) ?_;rintro ⟨i,hi⟩;dsimp only [aE,aF] at hi ⊢;have hll:((List.range i).map (stL f l)).length=i:=by simp
 apply vn (aM bG (aK _)) rfl;apply vn bQ rfl;refine vs _ rfl ?_ ?_<;>intro h3
 .apply vn (aG (by omega) (by omega)) rfl;dsimp only [aE,aF];apply vn (aH bG (m:=i) (by omega) (by omega) (aI (show i<l.length by omega))) rfl;apply vn (aR cF (by decide) (by simp) (.inl rfl)) rfl;dsimp only [aE,aF];apply vn (aH bG (m:=i+1) (by omega) (by omega) (aI (show i+1<l.length by omega))) rfl;apply vn (aR cF (by decide) (by simp) (.inl rfl)) rfl;apply zU (f:=g) (caps:=[]) rfl (hf i (by omega)) rfl;apply eK (us:=[qC (stL f l i)]) rfl;dsimp only [aE,aF];refine kX (xs:=(List.range i).map (stL f l)) (x:=stL f l i) (f:=qC) rfl rfl (by omega) (by simp only [maxLen];omega) ?_;rw [ZZ];apply vn (aB (by omega) (by omega)) rfl;dsimp only [aE,aF];exact bD rfl ⟨⟨i+1,by omega⟩,aX.rfl,by show l.length-1-(i+1)<l.length-1-i;omega⟩
 rw [pF,show l.length-1=i by omega];exact lG rfl rfl
theorem bf0 (t:aD):vc prog (fun o=>cG o (.ret [.one t])) (bP prog 28 (fun _=>none) (aO [1,1,1,0] (aW f197)) [(5, .v none)] ([4].map ResultVar.tmp) none false) ([.v (.one t)].map In.env) []:=by
 rw [SX];dsimp only [List.map,In.env,aE,aF];exact aL rfl
theorem FX {M:Nat->Prop} {w:World} {n0 E sz base:Nat} {ts:List (List aD)} {v:Value} {xs:List Value} (hne:ts ≠ []) (ho:w.ownsRow base E sz v ts.length xs) (hl:∀ t∈ts,t.length=sz) (hr:bA (fun k=>M k\/v.ownBlock=some k) w ts.flatten xs) (hn:∀ k,v.ownBlock=some k->n0<=k) (hM:∀ k,M k->v.ownBlock≠some k):(aD.own n0 E sz ts).rep M w v:=by
 rcases ho.2 with ⟨_,h0⟩ | ⟨b,cap,cur,rfl,_,hgb,hnc,hcm,hcs,htake⟩
 .exact absurd (List.eq_nil_of_length_eq_zero h0) hne
 .refine ⟨b,cap,cur,rfl,hn b rfl,fun h=>hM b h rfl,hgb,hnc,hcm,hcs,hl,?_⟩;rw [htake];refine hr.mono fun k o hk ho _=>⟨fun h=>hk (h.imp id fun e=>by rw [e];rfl),ho⟩
theorem XG {M:Nat->Prop}:(fun k=>M k\/(Value.slice none 0 0).ownBlock=some k)=M:=funext fun k=>propext ⟨fun h=>h.elim id (fun e=>by cases e), .inl⟩
theorem gZ {M:Nat->Prop} {w w1:World} (hM:cK M w) (hb:Below w.heap.size w w1):cK M w1:=⟨fun b h=>Nat.lt_of_lt_of_le (hM.1 b h) hb.size,hM.2.eE (bO.below hb)⟩
theorem Zt {w w1:World} (hg:w.grownBy w1 (Value.slice none 0 0).ownBlock):Below w.heap.size w w1:=⟨hg.os,hg.tape,hg.output,hg.size,fun j hj=>hg.block j hj (by intro e;cases e)⟩
set_option maxRecDepth 100000 in
theorem ae1 (l:List Rat) (g:FuncId) (f:Rat->Rat->Rat) (hf:∀ i,i+1<l.length->aQ prog g [qT (l.getD i 0),qT (l.getD (i+1) 0)] (.ret [qT (stL f l i)])) (hs:l.length<1099511627776) (h2:2<=l.length) :
  pA prog 197 [.one (sQ l), .one (.fP g [])] fun n0=>[.one (.own n0 46 3 (rQ (pF f l)))]:=by
 refine ⟨bJ (by kernel_rfl),fun M w vs hM hv=>?_⟩
 match vs,hv with
 | [lv,cv],⟨hlv,hcv,_⟩=>
   refine calls_of_wp func197 rfl ?_;simp only [ntmps197,List.size_toArray,List.length_cons,List.length_nil,Nat.reduceAdd,Nat.reduceSub,Array.replicate_succ,Array.replicate_zero,List.push_toArray,List.append_toArray,List.nil_append,List.cons_append];refine wp_seq (cB jB.wp (n0:=w.heap.size) (N:=28) (ins:=[]) (xs:=[]) fo trivial (vD bf4) (by kernel_rfl) (aY _) hM rfl rfl trivial ?_);intro a1 w1 us1 hag1 hb1 hsz1 hdf1 _ _;have hM1:=gZ hM hb1;have hl1:=aD.mono _ (bO.below hb1) hlv;have hc1:=aD.mono _ (bO.below hb1) hcv;have k0:=aP hag1 0 (by kernel_rfl);have k1:=aP hag1 1 (by kernel_rfl);change a1.tmps.getD 0 Go.undef=lv at k0;change a1.tmps.getD 1 Go.undef=cv at k1;show Code.wp _ _ _ _ _;refine wp_seq (cB jB.wp (n0:=w1.heap.size) (N:=28) (ins:=[]) (xs:=[]) fo trivial (vD aX1) (by kernel_rfl) (aY _) hM1 hsz1 hdf1 trivial ?_);intro a2 w2 us2 hag2 hb2 hsz2 hdf2 hr2 hrep2;have hus:=bU hr2;subst hus;have h5:a2.tmps.getD 5 Go.undef = .slice none 0 0:=hrep2.1.1;have hM2:=gZ hM1 hb2;have k0':=(aP hag2 0 (by kernel_rfl)).trans k0;have k1':=(aP hag2 1 (by kernel_rfl)).trans k1;have hl2:=aD.mono _ (bO.below hb2) hl1;have hc2:=aD.mono _ (bO.below hb2) hc1;rw [<-k0'] at hl2;rw [<-k1'] at hc2;show Code.wp _ _ _ _ _;refine wp_seq (sV jB.wp (N:=28) (t0:=5) (E:=46) (sz:=3) (tr:=5) (ts:=[]) (base:=0) (v:=.slice none 0 0) (vs:=[]) (ins:=[(0, .v none),(1, .v none)]) (xs:=[.v (.one (sQ l)), .v (.one (.fP g []))]) fo ⟨rfl,rfl,trivial⟩ (aQ8 l g f hf hs) (by kernel_rfl) (by rw [XG];exact hM2) (fun k _ e=>by cases e) hsz2 hdf2 (by rw [XG];exact ⟨hl2,hc2,trivial⟩) h5 (World.ownsRow_nil _ _ _ _) (fun t ht=>by cases ht) trivial ?_);intro a3 w3 us3 v3 xs3 hag3 hg3 hsz3 hdf3 hr3 ht3 hown3 hfr3 _ hrep3;have hb3:=Zt hg3;have hfr3':∀ k,v3.ownBlock=some k->w2.heap.size<=k:=fun k hk=>(hfr3 k hk).elim id (fun e=>by cases e);have hM3:=gZ hM2 hb3;have hs12:=hb1.size;have hs23:=hb2.size
   have hor:(aD.own w.heap.size 46 3 (rQ (pF f l))).rep M w3 v3:=FX (fun e=>by
    have:=congrArg List.length e;rw [aK,pF,aK,mV] at this;simp at this;omega) hown3 oY hrep3 (fun k hk=>by have:=hfr3' k hk;omega) (fun k hk e=>by have:=hfr3' k e;have:=hM2.1 k hk;omega)
   rw [<-ht3] at hor;show Code.wp _ _ _ _ _;refine wp_seq (cB jB.wp (n0:=w3.heap.size) (N:=28) (ins:=[(5, .v none)]) (xs:=[.v (.one (.own w.heap.size 46 3 (rQ (pF f l))))]) fo ⟨rfl,trivial⟩ (vD (bf0 _)) (by kernel_rfl) (aY _) hM3 hsz3 hdf3 ⟨hor,trivial⟩ ?_);intro a4 w4 us4 hag4 hb4 hsz4 hdf4 hr4 hrep4;have hus:=bU hr4;subst hus;refine wp_ret ?_;refine bodyPost_ret (results_tmp rfl _ _ _) hdf4 ⟨?_,[_],rfl,hrep4.1,trivial⟩;exact (hb1.trans (hb2.mono hs12)).trans ((hb3.mono (by omega)).trans (hb4.mono (by have:=hb3.size;omega)))
 | [],hv=>exact hv.elim
 | [_],hv=>exact hv.2.elim
 | _::_::_::_,hv=>exact hv.2.2.elim
def cX (l:List Rat):List Rat:=pF (fun a b=>b-a) l
theorem mA (l:List Rat) (A:Nat) (hp:∀ a∈l,Fit A a) (h2:2<=l.length) (hA1:1<=A:=by omega) (hs:l.length<1099511627776:=by omega) (hA:A<=1000000000:=by omega):pA prog 131 [(.one (sQ l):aJ)] (fun n0=>[.one (.own n0 46 3 (rQ (cX l)))]):=by
 refine AN (args:=[.v none]) (ins:=[.v (.one (sQ l))]) (hints:=(fun _=>none)) fo (by kernel_rfl) func131 ⟨rfl,trivial⟩ (fun n0=>?_);rw [Zn];dsimp only [List.map,In.env,aE,aF];refine YC (ts:=[.one (.own n0 46 3 (rQ (cX l)))]) (gV.IT (ae1 l 198 (fun a b=>b-a) (fun i hi=>TY _ _ A A (aC hp _ hA1) (aC hp _ hA1)) hs h2) TB) rfl ?_;dsimp only [aE,aF];exact NQ rfl
theorem iD (l:List Rat):(cX l).length=l.length-1:=by rw [cX,pF,aK,mV]
theorem oB {A:Nat} {l:List Rat} (hA:1<=A) (hp:∀ a∈l,Fit A a):∀ a∈cX l,Fit (A+A+1) a:=fun a ha=>by
 obtain ⟨i,_,rfl⟩:=eM.1 ha;exact (aC hp _ hA).sub (aC hp _ hA)
def Wr (h d:List Rat) (i:Nat):Rat:=yQ (d.getD i 0) (h.getD i 0)
def Fe (h d:List Rat) (i:Nat):List Rat:=(List.range i).map (Wr h d)++d.drop i
def bR (x y:List Rat):List Rat:=(List.range (cX y).length).map (Wr (cX x) (cX y))
theorem aa9 (h d:List Rat) {i:Nat} (hi:i<=d.length):(Fe h d i).length=d.length:=by simp [Fe];omega
theorem av6 (h d:List Rat) {i:Nat} (hi:i<d.length):(Fe h d i)[i]? = some (d.getD i 0):=by
 rw [Fe,List.getElem?_append_right (by simp),aK,mV,Nat.sub_self,List.getElem?_drop,Nat.add_zero,aI hi]
theorem ag4 (h d:List Rat) {i:Nat} (hi:i<d.length):(Fe h d i).set i (Wr h d i)=Fe h d (i+1):=by
 rw [Fe,Fe,List.set_append_right _ _ (by simp),aK,mV,Nat.sub_self,List.drop_eq_getElem_cons hi,List.set_cons_zero,List.range_succ,List.map_append,List.append_assoc];rfl
theorem ba1  :vc prog (fun o=>cG o (.ret [])) (bP prog 31 (fun _=>none) (aO [0] (aW f132)) [] ([].map ResultVar.tmp) none false) ([].map In.env) []:=by
 rw [Uk];dsimp only [List.map,In.env,aE,aF];exact aL rfl
theorem aQ7 (l:List Rat) (A:Nat) (hA1:1<=A) (hp:∀ a∈l,Fit A a) (hs:l.length<1099511627776) (h2:2<=l.length) (hA:A<=1000000000:=by omega):vc prog (fun o=>cG o (.ret [.one (sQ (cX l))])) (bP prog 31 (fun _=>none) (aO [1,0] (aW f132)) [(0, .v none)] ([5].map ResultVar.tmp) none false) ([.v (.one (sQ l))].map In.env) []:=by
 rw [TF];dsimp only [List.map,In.env,aE,aF];apply aA (mA l A hp h2 hA1 hs hA).OY rfl;exact aL rfl
theorem aT8 (n0:Nat) (l:List Rat) (A:Nat) (hA1:1<=A) (hp:∀ a∈l,Fit A a) (hA:A<=1000000000:=by omega) (hs:l.length<1099511627776:=by omega) (h2:2<=l.length:=by omega):vc prog (gV prog n0 (.ret [.one (.own n0 46 3 (rQ (cX l)))])) (bP prog 31 (fun _=>none) (aO [1,1,0] (aW f132)) [(1, .v none)] ([6].map ResultVar.tmp) none false) ([.v (.one (sQ l))].map In.env) []:=by
 rw [Ue];dsimp only [List.map,In.env,aE,aF];refine YC (ts:=[.one (.own n0 46 3 (rQ (cX l)))]) (gV.IT (mA l A hp h2 hA1 hs hA) TB) rfl ?_;dsimp only [aE,aF];exact NQ rfl
theorem aX8 (h d:List Rat) (A:Nat) (hh:∀ a∈h,Fit A a) (hd:∀ a∈d,Fit A a) (hA1:1<=A:=by omega) (hA:A<=1000000000:=by omega) (hl:h.length=d.length:=by omega) (hs:d.length<1099511627776:=by omega):vc prog (fun o=>o = .retr [] (rQ ((List.range d.length).map (Wr h d)))) (nE prog 31 (fun _=>none) (aO [1,1,1,0] (aW f132)) [(5, .v none)] 6 46 3 6 ([].map ResultVar.tmp)) ([.v (.one (sQ h))].map In.env ++ [.rows (rQ d)]) []:=by
 rw [RX];dsimp only [List.map,In.env,aE,aF];refine Sq rfl (aK _) ?_;refine bZ {i:Nat // i<=d.length} (fun g=>[.one (.int .i64 (g.1:Int)), .rows (rQ (Fe h d g.1))]) (fun g=>d.length-g.1) ⟨0,dD _⟩ aX.rfl (fun _=>rfl) ?_;rintro ⟨i,hi⟩;dsimp only [aE,aF] at hi ⊢;apply vn bQ rfl;refine vs _ rfl ?_ ?_<;>intro h3
 .have hi':i<d.length:=by omega
  have hpl:=aa9 h d hi;have hpa:=av6 h d hi';refine cJ rfl rfl (by omega) (by omega) ?_;refine Wi rfl rfl (by omega) (Int.toNat_natCast i) hpa (.inl rfl) rfl ?_;dsimp only [aE,aF,XF,List.drop,List.take];apply vn (aH bG (m:=i) (by omega) (Int.toNat_natCast i) (aI (show i<h.length by omega))) rfl;apply vn (aR cF (by decide) (by simp) (.inl rfl)) rfl;apply aA (iZ _ _ A A (aC hd _ hA1) (aC hh _ hA1)) rfl;refine cJ rfl rfl (by omega) (by omega) ?_;refine gP (f:=qC) (d':=Wr h d i) rfl rfl (by omega) (Int.toNat_natCast i) hpa rfl ?_;rw [ag4 h d hi'];dsimp only [aE,aF];apply vn (aB (by omega) (by omega)) rfl;dsimp only [aE,aF];exact bD rfl ⟨⟨i+1,by omega⟩,aX.rfl,by show d.length-(i+1)<d.length-i;omega⟩
 rw [show Fe h d i=(List.range d.length).map (Wr h d) by rw [show i=d.length by omega,Fe,List.drop_length,List.append_nil]];exact lG rfl rfl
theorem bi1 (t:aD):vc prog (fun o=>cG o (.ret [.one t])) (bP prog 31 (fun _=>none) (aO [1,1,1,1,0] (aW f132)) [(6, .v none)] ([4].map ResultVar.tmp) none false) ([.v (.one t)].map In.env) []:=by
 rw [TC];dsimp only [List.map,In.env,aE,aF];exact aL rfl
set_option maxRecDepth 100000 in
theorem pR (x y:List Rat) (A:Nat) (hx:∀ a∈x,Fit A a) (hy:∀ a∈y,Fit A a) (h2:2<=x.length) (hxy:y.length=x.length) (hA1:1<=A:=by omega) (hs:x.length<1099511627776:=by omega) (hA:A<=100000000:=by omega) :
  pA prog 132 [.one (sQ x), .one (sQ y)] fun n0=>[.one (.own n0 46 3 (rQ (bR x y)))]:=by
 refine ⟨bJ (by kernel_rfl),fun M w vs hM hv=>?_⟩
 match vs,hv with
 | [xv,yv],⟨hxv,hyv,_⟩=>
   refine calls_of_wp func132 rfl ?_;simp only [ntmps132,List.size_toArray,List.length_cons,List.length_nil,Nat.reduceAdd,Nat.reduceSub,Array.replicate_succ,Array.replicate_zero,List.push_toArray,List.append_toArray,List.nil_append,List.cons_append];refine wp_seq (cB jB.wp (n0:=w.heap.size) (N:=31) (ins:=[]) (xs:=[]) fo trivial (vD ba1) (by kernel_rfl) (aY _) hM rfl rfl trivial ?_);intro a1 w1 us1 hag1 hb1 hsz1 hdf1 _ _;have hM1:=gZ hM hb1;have hx1:=aD.mono _ (bO.below hb1) hxv;have hy1:=aD.mono _ (bO.below hb1) hyv;have k0:=aP hag1 0 (by kernel_rfl);have k1:=aP hag1 1 (by kernel_rfl);change a1.tmps.getD 0 Go.undef=xv at k0;change a1.tmps.getD 1 Go.undef=yv at k1;rw [<-k0] at hx1;show Code.wp _ _ _ _ _;refine wp_seq (cB jB.wp (n0:=w1.heap.size) (N:=31) (ins:=[(0, .v none)]) (xs:=[.v (.one (sQ x))]) fo ⟨rfl,trivial⟩ (vD (aQ7 x A hA1 hx hs h2)) (by kernel_rfl) (aY _) hM1 hsz1 hdf1 ⟨hx1,trivial⟩ ?_);intro a2 w2 us2 hag2 hb2 hsz2 hdf2 hr2 hrep2;have hus:=bU hr2;subst hus;have hM2:=gZ hM1 hb2;have k1':=(aP hag2 1 (by kernel_rfl)).trans k1;have hy2:=aD.mono _ (bO.below hb2) hy1;rw [<-k1'] at hy2;have h5:=hrep2.1;show Code.wp _ _ _ _ _;refine wp_seq (cB jB.wp (n0:=w2.heap.size) (N:=31) (ins:=[(1, .v none)]) (xs:=[.v (.one (sQ y))]) fo ⟨rfl,trivial⟩ (aT8 w2.heap.size y A hA1 hy) (by kernel_rfl) (aY _) hM2 hsz2 hdf2 ⟨hy2,trivial⟩ ?_);intro a3 w3 us3 hag3 hb3 hsz3 hdf3 hr3 hrep3;have hus:=bU hr3;subst hus;have hM3:=gZ hM2 hb3;have h5':=aD.mono _ (bO.below hb3) h5;have k5:=aP hag3 5 (by kernel_rfl);obtain ⟨b,hbn,hrowoff,hrowown,xs3,hown3,hl3,hrp3⟩:=aD.own.row hrep3.1
   have hMb:(fun k=>M k\/(a3.tmps.getD 6 Go.undef).ownBlock=some k)=Mb M b:=by
    rw [hrowown];exact funext fun k=>propext ⟨fun h=>h.imp id (fun e=>(Option.some.inj e).symm),fun h=>h.imp id (fun e=>by rw [e])⟩
   have hkb:bO M w2 (Mb M b) w3:=fun k o hk ho _=>by
    have hlt:=(cS.1 ho).1;exact ⟨fun h=>h.elim hk (by omega),(hb3.block k hlt).trans ho⟩
   have hMb3:cK (Mb M b) w3:=⟨fun k hk=>hk.elim (fun h=>hM3.1 k h) (fun e=>by rw [e];exact (hown3.lt b hrowown).2),hM2.2.eE hkb⟩
   have h5b:=aD.mono _ hkb h5;have h5r:(sQ (cX x)).rep (Mb M b) w3 (a3.tmps.getD 5 Go.undef):=by rw [k5];exact h5b
   have hwx:=iD x;have hwy:=iD y;show Code.wp _ _ _ _ _;refine wp_seq (sV jB.wp (N:=31) (t0:=6) (E:=46) (sz:=3) (tr:=6) (ts:=rQ (cX y)) (ins:=[(5, .v none)]) (xs:=[.v (.one (sQ (cX x)))]) fo ⟨rfl,trivial⟩ (aX8 (cX x) (cX y) (A+A+1) (oB hA1 hx) (oB hA1 hy)) (by kernel_rfl) (by rw [hMb];exact hMb3) (fun k hk e=>by rw [hrowown] at e;exact hrowoff (Option.some.inj e▸hk)) hsz3 hdf3 (by rw [hMb];exact ⟨h5r,trivial⟩) rfl hown3 hl3 (by rw [hMb];exact hrp3) ?_);intro a4 w4 us4 v4 xs4 hag4 hg4 hsz4 hdf4 hr4 ht4 hown4 hfr4 _ hrep4;rw [hrowown] at hg4;have hs12:=hb1.size;have hs23:=hb2.size;have hs34:=hb3.size;have hs45:=hg4.size;have hfr4':∀ k,v4.ownBlock=some k->w2.heap.size<=k:=fun k hk=>(hfr4 k hk).elim (fun h=>by omega) (fun e=>by rw [hrowown] at e;have:=Option.some.inj e;omega);have hb4:Below w2.heap.size w3 w4:=⟨hg4.os,hg4.tape,hg4.output,hg4.size,fun j hj=>hg4.block j (by omega) fun e=>by have:=Option.some.inj e;omega⟩
   have hb24:Below w2.heap.size w2 w4:=hb3.trans hb4;have hM4:=gZ hM2 hb24
   have hor:(aD.own w.heap.size 46 3 (rQ (bR x y))).rep M w4 v4:=FX (fun e=>by
    have:=congrArg List.length e;rw [aK,bR,aK,mV,List.length_nil] at this;omega) hown4 oY hrep4 (fun k hk=>by have:=hfr4' k hk;omega) (fun k hk e=>by have:=hfr4' k e;have:=hM2.1 k hk;omega)
   rw [<-ht4] at hor;show Code.wp _ _ _ _ _;refine wp_seq (cB jB.wp (n0:=w4.heap.size) (N:=31) (ins:=[(6, .v none)]) (xs:=[.v (.one (.own w.heap.size 46 3 (rQ (bR x y))))]) fo ⟨rfl,trivial⟩ (vD (bi1 _)) (by kernel_rfl) (aY _) hM4 hsz4 hdf4 ⟨hor,trivial⟩ ?_);intro a5 w5 us5 hag5 hb5 hsz5 hdf5 hr5 hrep5;have hus:=bU hr5;subst hus;refine wp_ret ?_;refine bodyPost_ret (results_tmp rfl _ _ _) hdf5 ⟨?_,[_],rfl,hrep5.1,trivial⟩;exact (hb1.trans (hb2.mono hs12)).trans ((hb24.mono (by omega)).trans (hb5.mono (by omega)))
 | [],hv=>exact hv.elim
 | [_],hv=>exact hv.2.elim
 | _::_::_::_,hv=>exact hv.2.2.elim
theorem xK (x y:List Rat):(bR x y).length=y.length-1:=by rw [bR,aK,mV,iD]
theorem wH {A:Nat} {x y:List Rat} (hx:∀ a∈x,Fit A a) (hy:∀ a∈y,Fit A a) (hA:1<=A:=by omega):∀ a∈bR x y,Fit (4*A+2) a:=fun a ha=>by
 obtain ⟨i,_,rfl⟩:=eM.1 ha;exact (kO (aC (oB hA hy) i) (aC (oB hA hx) i)).mono (by omega)
open Go Go.Proofs Go.RowKit Tryz Ord
attribute [local go_sem] Oper.semAt_some
def Ln:Tr:=.ret [(.one (.ref 0 [(.k (.int .i64 (1)))]))]
theorem TJ:bP prog 34 (fun _=>none) (aO [0] (aW f203)) [] ([5].map ResultVar.tmp) none false=Ln:=by kernel_rfl
def Lu:Tr:=.ret [(W 3 0)]
def MJ:Tr:=.need (.prim [(W 1 0),(W 2 0)] none) (.binOp .lss 3 (.tmp 7) (.tmp 9) 3) 4 false Lu
def IV:Tr:=.need (.prim [(W 0 0)] none) (.call ⟨.builtin .len,#[(.tmp 8)],#[28]⟩) 3 false MJ
theorem TG:bP prog 34 (fun _=>none) (aO [1,0,0,0,0] (aW f203)) [(1, .ref 1),(5, .ref 1)] ([10].map ResultVar.tmp) none false=IV:=by kernel_rfl
def Gu:Tr:=.ret [(W 13 0)]
def Mg:Tr:=.need (.call 133 [(W 4 0),(.agg [(U 12 0),(U 12 1),(U 12 2)]),(.one (.fP 204 [(.ref 0 [(.u 0 0)]),(.ref 0 [(.u 3 0)])]))] [none]) (.call ⟨.value (.func 133),#[(.tmp 14),(.tmp 26),(.tmp 27)],#[3,46,184]⟩) 28 true Gu
def MR:Tr:=.need (.call 76 [(.agg [(U 10 0),(U 10 1),(U 10 2)]),(.agg [(U 11 0),(U 11 1),(U 11 2)])] [(some 3)]) (.call ⟨.value (.func 76),#[(.tmp 24),(.tmp 25)],#[46,46]⟩) 46 false Mg
def Ka:Tr:=.need (.call 113 [(WK (6))] [(some 3)]) (.call ⟨.value (.func 113),#[(.const (I3 (6)))],#[3]⟩) 46 false MR
def LW:Tr:=.need (.call 86 [(.agg [(U 6 0),(U 6 1),(U 6 2)]),(.agg [(U 9 0),(U 9 1),(U 9 2)])] [(some 3)]) (.call ⟨.value (.func 86),#[(.tmp 18),(.tmp 23)],#[46,46]⟩) 46 false Ka
def Mm:Tr:=.need (.prim [(W 8 0)] (some 3)) (.load 46 (.tmp 22)) 46 false LW
def HZ:Tr:=.need (.prim [(W 2 0),(W 7 0)] none) (.indexAddr 28 (.tmp 19) (.tmp 21)) 0 false Mm
def HY:Tr:=.need (.prim [(W 3 0),(WK (1))] none) (.binOp .sub 3 (.tmp 20) (.const (I3 (1))) 3) 3 false HZ
def Ir:Tr:=.need (.prim [(W 5 0)] (some 3)) (.load 46 (.tmp 17)) 46 false HY
def LB:Tr:=.need (.prim [(W 2 0),(W 3 0)] none) (.indexAddr 28 (.tmp 15) (.tmp 16)) 0 false Ir
def Mo:Tr:=.need (.prim [(W 1 0)] none) (.call ⟨.builtin .len,#[(.tmp 13)],#[28]⟩) 3 false LB
theorem Te:bP prog 34 (fun _=>none) (aO [1,0,0,1,0,0,0] (aW f203)) [(1, .ref 1),(2, .ref 1),(3, .ref 1),(5, .ref 1)] ([6].map ResultVar.tmp) none false=Mo:=by kernel_rfl
def HP:Tr:=.ret [(.one (.ref 0 [(.u 1 0)]))]
def MX:Tr:=.need (.prim [(W 0 0),(WK (1))] none) (.binOp .add 3 (.tmp 11) (.const (I3 (1))) 3) 3 false HP
theorem SN:bP prog 34 (fun _=>none) (aO [1,0,0,1,1] (aW f203)) [(5, .ref 1)] ([5].map ResultVar.tmp) none false=MX:=by kernel_rfl
theorem bo2 (t:Array Value) (h:t.size=34):t = #[t.getD 0 Go.undef,t.getD 1 Go.undef,t.getD 2 Go.undef,t.getD 3 Go.undef,t.getD 4 Go.undef,t.getD 5 Go.undef,t.getD 6 Go.undef,t.getD 7 Go.undef,t.getD 8 Go.undef,t.getD 9 Go.undef,t.getD 10 Go.undef,t.getD 11 Go.undef,t.getD 12 Go.undef,t.getD 13 Go.undef,t.getD 14 Go.undef,t.getD 15 Go.undef,t.getD 16 Go.undef,t.getD 17 Go.undef,t.getD 18 Go.undef,t.getD 19 Go.undef,t.getD 20 Go.undef,t.getD 21 Go.undef,t.getD 22 Go.undef,t.getD 23 Go.undef,t.getD 24 Go.undef,t.getD 25 Go.undef,t.getD 26 Go.undef,t.getD 27 Go.undef,t.getD 28 Go.undef,t.getD 29 Go.undef,t.getD 30 Go.undef,t.getD 31 Go.undef,t.getD 32 Go.undef,t.getD 33 Go.undef]:=(rD t 34 h).trans rfl
theorem aU8  :vc prog (fun o=>cG o (.ret [.one (.bH [.int .i64 1])])) (bP prog 34 (fun _=>none) (aO [0] (aW f203)) [] ([5].map ResultVar.tmp) none false) ([].map In.env) []:=by
 rw [TJ];dsimp only [List.map,In.env,aE,aF];exact aL rfl
theorem bf9 (h:List Rat) (i:Nat) (hs:h.length<1099511627776:=by omega):vc prog (fun o=>cG o (.ret [.one (.bool (decide ((i:Int)<(h.length:Int))))])) (bP prog 34 (fun _=>none) (aO [1,0,0,0,0] (aW f203)) [(1, .ref 1),(5, .ref 1)] ([10].map ResultVar.tmp) none false) ([.ref ([sQ h]), .ref ([.int .i64 (i:Int)])].map In.env) []:=by
 rw [TG];dsimp only [List.map,In.env,aE,aF];apply vn (aM bG (aK _)) rfl;apply vn bQ rfl;exact aL rfl
def jD (h d:List Rat) (n i:Nat):List Rat:=We h i ((List.replicate (n+1) 0).set n ((d.getD i 0-d.getD (i-1) 0)*((6:Int):Rat)))
theorem uM (h d:List Rat) (n i:Nat):(jD h d n i).length=n+1:=by simp [jD,We]
theorem bm2 (n0:Nat) (h x d:List Rat) (i A:Nat) (hA1:1<=A) (hA:A<=100000000) (hh:∀ a∈h,Fit A a) (hd:∀ a∈d,Fit A a) (hs:x.length<1099511627776) (hhl:h.length+1=x.length) (hdl:d.length+1=x.length) (hi:1<=i) (hil:i<h.length):vc prog (gV prog n0 (.ret [.one (.jP n0 46 3 (rQ (jD h d x.length i)))])) (bP prog 34 (fun _=>none) (aO [1,0,0,1,0,0,0] (aW f203)) [(1, .ref 1),(2, .ref 1),(3, .ref 1),(5, .ref 1)] ([6].map ResultVar.tmp) none false) ([.ref ([sQ h]), .ref ([sQ x]), .ref ([sQ d]), .ref ([.int .i64 (i:Int)])].map In.env) []:=by
 rw [Te];dsimp only [List.map,In.env,aE,aF];apply vn (aM bG (aK _)) rfl;dsimp only [aE,aF];apply vn (aH bG (m:=i) (by omega) (Int.toNat_natCast i) (aI (show i<d.length by omega))) rfl;apply vn (aR cF (by decide) (by simp) (.inl rfl)) rfl;apply vn (aG (by omega) (by omega)) rfl;dsimp only [aE,aF];apply vn (aH bG (m:=i-1) (by omega) (by omega) (aI (show i-1<d.length by omega))) rfl;apply vn (aR cF (by decide) (by simp) (.inl rfl)) rfl;apply aA (jF _ _ A A (aC hd _ hA1) (aC hd _ hA1)) rfl;apply aA (dE 6) rfl;dsimp only [aE,aF];apply aA (fK _ _ (A+A+1) 62 ((aC hd _ hA1).sub (aC hd _ hA1)) (Fit.int (by omega) (by omega))) rfl;dsimp only [aE,aF];refine YC (ts:=[.one (.jP n0 46 3 (rQ (jD h d x.length i)))]) (gV.IT (Xj x.length _ 204 [.bH [sQ h], .bH [.int .i64 (i:Int)]] (jD h d x.length i) hs (uM _ _ _ _) (OV h i A _ hA1 hh hi hil (by rw [List.length_set,List.length_replicate];omega))) sS) rfl ?_;dsimp only [aE,aF];exact NQ rfl
theorem aW4 (i:Nat) (hi:i<1099511627776:=by omega):vc prog (fun o=>cG o (.ret [.one (.bH [.int .i64 ((i:Int)+1)])])) (bP prog 34 (fun _=>none) (aO [1,0,0,1,1] (aW f203)) [(5, .ref 1)] ([5].map ResultVar.tmp) none false) ([.ref ([.int .i64 (i:Int)])].map In.env) []:=by
 rw [SN];dsimp only [List.map,In.env,aE,aF];apply vn (aB (by omega) (by omega)) rfl;exact aL rfl
def lI (h d:List Rat) (n:Nat):List (List (List aD)):=(List.range (h.length-1)).map fun j=>rQ (jD h d n (j+1))
theorem UE (h d:List Rat) (n:Nat) {i:Nat} (hi:1<=i) (hil:i<h.length):(lI h d n)[i-1]? = some (rQ (jD h d n i)):=by
 rw [lI,dL,List.getElem?_range (by omega)];show some (rQ (jD h d n (i-1+1)))=_;rw [show i-1+1=i by omega]
set_option maxRecDepth 100000 in
set_option maxHeartbeats 1000000 in
theorem NJ (h x d:List Rat) (A:Nat) (hh:∀ a∈h,Fit A a) (hd:∀ a∈d,Fit A a)
  (M X:Nat->Prop) (w:World) (hF:cK (fun k=>M k\/X k) w) (v1 v2 v3:Value) (r1:(aD.bH [sQ h]).rep (fun k=>M k\/X k) w v1) (r2:(aD.bH [sQ x]).rep (fun k=>M k\/X k) w v2) (r3:(aD.bH [sQ d]).rep (fun k=>M k\/X k) w v3) (hA1:1<=A:=by omega) (hA:A<=100000000:=by omega) (hs:x.length<1099511627776:=by omega) (hhl:h.length+1=x.length:=by omega) (hdl:d.length+1=x.length:=by omega) (h0:1<=h.length:=by omega):Gen prog 46 3 203 #[v1,v2,v3] (lI h d x.length) (fun _=>False) X M w:=by
 intro W σ Ms nx s0 l J hbW hMs hH hR hJ0;have hlen:(lI h d x.length).length=h.length-1:=by rw [lI,aK,mV]
 rw [hlen]
 have hk0:bO (fun k=>M k\/X k) w (fun k=>Ms s0 k\/X k) W:=fun b o hb ho _=>by
  have hlt:=(cS.1 ho).1;exact ⟨fun hm=>hm.elim (fun hm=>hb (.inl (hMs b hlt hm))) (fun hm=>hb (.inr hm)),(hbW.block b hlt).trans ho⟩
 have hWw:=hbW.size;have hX:∀ k,X k->k<W.heap.size:=fun k hk=>by have:=hF.1 k (.inr hk);omega
 have hG0:Good (fun k=>Ms s0 k\/X k) W:=hF.2.eE hk0;have hfin:∀ {i s W'},J i s W'->W.heap.size<=W'.heap.size->Good (fun k=>Ms s k\/X k) W'->cK (fun k=>Ms s k\/X k) W':=fun hj hle hg=>⟨fun k hk=>hk.elim (fun h=>(hH.zJ hj).1 k h) (fun h=>by have:=hX k h;omega),hg⟩
 replace r1:=aD.mono _ hk0 r1;replace r2:=aD.mono _ hk0 r2;replace r3:=aD.mono _ hk0 r3;clear hk0 hMs hbW hF;refine (callsIn_wide (n:=1000)).1 ?_;refine callsIn_of_wp func203 rfl trivial ?_ rfl;simp only [ntmps203,List.size_toArray,List.length_cons,List.length_nil,Nat.reduceAdd,Nat.reduceSub,Array.replicate_succ,Array.replicate_zero,List.push_toArray,List.append_toArray,List.nil_append,List.cons_append];refine wpIn_seq (wpIn_wide.2 (cB jB.wp (n0:=W.heap.size) (N:=34) (ins:=[]) (xs:=[]) fo trivial (vD aU8) (by kernel_rfl) (aY _) (hfin hJ0 (aY _) hG0) rfl rfl trivial ?_));intro a1 w1 us1 hag1 hb1 hsz1 hdf1 hr1 hrep1;have hus:=bU hr1;subst hus;have k0:=aP hag1 0 (by kernel_rfl);have k1:=aP hag1 1 (by kernel_rfl);have k2:=aP hag1 2 (by kernel_rfl);have k3:=aP hag1 3 (by kernel_rfl);change a1.tmps.getD 0 Go.undef = .func (.yield l) #[] #[] at k0;change a1.tmps.getD 1 Go.undef=v1 at k1;change a1.tmps.getD 2 Go.undef=v2 at k2;change a1.tmps.getD 3 Go.undef=v3 at k3;have h5:=hrep1.1;have hJ1:=hH.below hJ0 (aY _) hb1;have kp1:Kp (fun k=>Ms s0 k\/False) W (Ms s0) w1:=(Kp.below hb1).aF1 fun k hk=>.inl hk;have hk1:=bO.below (M:=fun k=>Ms s0 k\/X k) hb1;show Code.wpIn _ _ _ _ _ _ _
 refine wpIn_block (wpIn_loop_ghost (fun j a' W'=>∃ i s,j=h.length-i/\1<=i/\i<=h.length/\a'.tmps.size=34/\a'.defers = []/\a'.tmps.getD 0 Go.undef = .func (.yield l) #[] #[]/\(aD.bH [sQ h]).rep (fun k=>Ms s k\/X k) W' (a'.tmps.getD 1 Go.undef)/\(aD.bH [sQ x]).rep (fun k=>Ms s k\/X k) W' (a'.tmps.getD 2 Go.undef)/\(aD.bH [sQ d]).rep (fun k=>Ms s k\/X k) W' (a'.tmps.getD 3 Go.undef)/\(aD.bH [.int .i64 (i:Int)]).rep (fun k=>Ms s k\/X k) W' (a'.tmps.getD 5 Go.undef)/\J (i-1) s W'/\Kp (fun k=>Ms s0 k\/False) W (Ms s) W'/\Good (fun k=>Ms s k\/X k) W') (h.length-1)
  ⟨1,s0,rfl,aY _,h0,hsz1,hdf1,k0,by rw [k1];exact aD.mono _ hk1 r1,by rw [k2];exact aD.mono _ hk1 r2,by rw [k3];exact aD.mono _ hk1 r3,h5,hJ1,kp1,hG0.eE hk1⟩ ?round)
 case round=>
  clear hJ0 hJ1 k0 k1 k2 k3 h5 kp1 hk1 r1 r2 r3 hb1 hag1 hr1 hrep1 hG0;rintro j a2 w2 ⟨i,s,rfl,hi1,hil,hsz2,hdf2,t0,t1,t2,t3,t5,hJ,kp,hG⟩;have hWs:=kp.size;show Code.wpIn _ _ _ _ _ _ _;refine wpIn_seq (wpIn_seq (wpIn_wide.2 (cB jB.wp (n0:=w2.heap.size) (N:=34) (ins:=[(1, .ref 1),(5, .ref 1)]) (xs:=[.ref [sQ h], .ref [.int .i64 (i:Int)]]) fo ⟨rfl,rfl,trivial⟩ (vD (bf9 h i)) (by kernel_rfl) (aY _) (hfin hJ hWs hG) hsz2 hdf2 ⟨t1,t5,trivial⟩ ?_)));intro a3 w3 us3 hag3 hb3 hsz3 hdf3 hr3 hrep3;have hus:=bU hr3;subst hus;have h10:a3.tmps.getD 10 Go.undef = .bool (decide ((i:Int)<(h.length:Int))):=hrep3.1.1;have hk3:=bO.below (M:=fun k=>Ms s k\/X k) hb3;have hG3:=hG.eE hk3;have hJ3:=hH.below hJ (by omega) hb3;have kp3:=kp.trans (Kp.below (M:=Ms s) hb3);have q0:=(aP hag3 0 (by kernel_rfl)).trans t0;have q1:(aD.bH [sQ h]).rep (fun k=>Ms s k\/X k) w3 (a3.tmps.getD 1 Go.undef):=by rw [aP hag3 1 (by kernel_rfl)];exact aD.mono _ hk3 t1
  have q2:(aD.bH [sQ x]).rep (fun k=>Ms s k\/X k) w3 (a3.tmps.getD 2 Go.undef):=by rw [aP hag3 2 (by kernel_rfl)];exact aD.mono _ hk3 t2
  have q3:(aD.bH [sQ d]).rep (fun k=>Ms s k\/X k) w3 (a3.tmps.getD 3 Go.undef):=by rw [aP hag3 3 (by kernel_rfl)];exact aD.mono _ hk3 t3
  have q5:(aD.bH [.int .i64 (i:Int)]).rep (fun k=>Ms s k\/X k) w3 (a3.tmps.getD 5 Go.undef):=by rw [aP hag3 5 (by kernel_rfl)];exact aD.mono _ hk3 t5
  have hWs3:=kp3.size;clear hJ kp t0 t1 t2 t3 t5 hb3 hag3 hr3 hrep3 hk3 hG;show Code.wpIn _ _ _ _ _ _ _;refine wpIn_cond (t:=decide ((i:Int)<(h.length:Int))) h10 ?_;by_cases hlt:(i:Int)<(h.length:Int)
  rotate_left
  .rw [decide_eq_false hlt];obtain rfl:i=h.length:=by omega
   refine wpIn_exit ?_;refine vX ?_;refine bodyPost_end (results_none rfl _ _ _) hdf3 ?_;exact ⟨⟨_,rfl⟩,s,hJ3,kp3⟩
  rw [decide_eq_true hlt];refine wpIn_skip ?_;have hlt':i<h.length:=by omega
  show Code.wpIn _ _ _ _ _ _ _;refine wpIn_seq_k fun K9 hK9=>wpIn_block (wpIn_seq (wpIn_wide.2 (cB jB.wp (n0:=w3.heap.size) (N:=34) (ins:=[(1, .ref 1),(2, .ref 1),(3, .ref 1),(5, .ref 1)]) (xs:=[.ref [sQ h], .ref [sQ x], .ref [sQ d], .ref [.int .i64 (i:Int)]]) fo ⟨rfl,rfl,rfl,rfl,trivial⟩ (bm2 w3.heap.size h x d i A hA1 hA hh hd hs hhl hdl hi1 hlt') (by kernel_rfl) (aY _) (hfin hJ3 hWs3 hG3) hsz3 hdf3 ⟨q1,q2,q3,q5,trivial⟩ ?_)));intro a4 w4 us4 hag4 hb4 hsz4 hdf4 hr4 hrep4;have hus:=bU hr4;subst hus;obtain ⟨b,hbn,hrow⟩:=aD.jP.rowAt hrep4.1;have hJ4:=hH.below hJ3 (by omega) hb4;have kp4:=kp3.trans (Kp.below (M:=Ms s) hb4);have hnr:=hH.near hJ3
  have hkb:bO (fun k=>Ms s k\/X k) w3 (Mb (fun k=>Ms s k\/X k) b) w4:=fun k o hk ho _=>by
   have hlt:=(cS.1 ho).1;exact ⟨fun h=>h.elim hk (by omega),(hb4.block k hlt).trans ho⟩
  have e0:=(aP hag4 0 (by kernel_rfl)).trans q0;have e1:(aD.bH [sQ h]).rep (Mb (fun k=>Ms s k\/X k) b) w4 (a4.tmps.getD 1 Go.undef):=by rw [aP hag4 1 (by kernel_rfl)];exact aD.mono _ hkb q1
  have e2:(aD.bH [sQ x]).rep (Mb (fun k=>Ms s k\/X k) b) w4 (a4.tmps.getD 2 Go.undef):=by rw [aP hag4 2 (by kernel_rfl)];exact aD.mono _ hkb q2
  have e3:(aD.bH [sQ d]).rep (Mb (fun k=>Ms s k\/X k) b) w4 (a4.tmps.getD 3 Go.undef):=by rw [aP hag4 3 (by kernel_rfl)];exact aD.mono _ hkb q3
  have e5:(aD.bH [.int .i64 (i:Int)]).rep (Mb (fun k=>Ms s k\/X k) b) w4 (a4.tmps.getD 5 Go.undef):=by rw [aP hag4 5 (by kernel_rfl)];exact aD.mono _ hkb q5
  have hY:=YieldAt.plain (m':=999) (hR (i-1) s w4 (a4.tmps.getD 6 Go.undef) b _ (UE h d x.length hi1 hlt') hJ4 (hrow.in fun k hk=>hk.elim (fun h=>.inl (.inl h)) fun h=>h.elim (fun h=>.inl (.inr h)) .inr) (fun h=>hrow.off (.inl h)) (.inl ⟨by omega,by omega⟩));have hone:=hrow.one;have hG4:=hG3.eE hkb;clear hJ3 hJ4 hG3 kp3 q0 q1 q2 q3 q5 hag4 hr4 hrep4 h10 hrow hkb;obtain ⟨t4,d4⟩:=a4;dsimp only at hsz4 hdf4 e0 e1 e2 e3 e5 hY hone;subst hdf4;show Code.wpIn _ _ _ _ _ _ _;rw [bo2 t4 hsz4,e0];generalize t4.getD 1 Go.undef=y1 at e1 ⊢;generalize t4.getD 2 Go.undef=y2 at e2 ⊢;generalize t4.getD 3 Go.undef=y3 at e3 ⊢;generalize t4.getD 5 Go.undef=y5 at e5 ⊢;generalize t4.getD 6 Go.undef=y6 at hY hone ⊢;generalize t4.getD 4 Go.undef=y4;generalize t4.getD 7 Go.undef=y7;generalize t4.getD 8 Go.undef=y8;generalize t4.getD 9 Go.undef=y9;generalize t4.getD 10 Go.undef=y10;generalize t4.getD 11 Go.undef=y11;generalize t4.getD 12 Go.undef=y12;generalize t4.getD 13 Go.undef=y13;generalize t4.getD 14 Go.undef=y14;generalize t4.getD 15 Go.undef=y15;generalize t4.getD 16 Go.undef=y16;generalize t4.getD 17 Go.undef=y17;generalize t4.getD 18 Go.undef=y18;generalize t4.getD 19 Go.undef=y19;generalize t4.getD 20 Go.undef=y20;generalize t4.getD 21 Go.undef=y21;generalize t4.getD 22 Go.undef=y22;generalize t4.getD 23 Go.undef=y23;generalize t4.getD 24 Go.undef=y24;generalize t4.getD 25 Go.undef=y25;generalize t4.getD 26 Go.undef=y26;generalize t4.getD 27 Go.undef=y27;generalize t4.getD 28 Go.undef=y28;generalize t4.getD 29 Go.undef=y29;generalize t4.getD 30 Go.undef=y30;generalize t4.getD 31 Go.undef=y31;generalize t4.getD 32 Go.undef=y32;generalize t4.getD 33 Go.undef=y33;clear e0 hsz4 t4;replace hK9:TI _:=hK9
  gi_wp2
  obtain ⟨fnr,tmr,asr,bdr,hy,hRd⟩:=hY;rw [hy];refine ⟨(fun h=>by cases h),?_⟩;refine hRd.mono ?_;rintro e w5 ⟨rfl,s',hJ5,kp5⟩;rw [show i-1+1=i by omega] at hJ5
  have hk5:bO (Mb (fun k=>Ms s k\/X k) b) w4 (fun k=>Ms s' k\/X k) w5:=fun k o hk ho _=>by
   have hlt:=(cS.1 ho).1;obtain ⟨h1,h2⟩:=kp5.same k hlt fun h=>hk (h.imp .inl id);exact ⟨fun h=>h.elim h1 fun h=>hk (.inl (.inr h)),h2.trans ho⟩
  have hG5:=hG4.eE hk5;have f1:=aD.mono _ hk5 e1;have f2:=aD.mono _ hk5 e2;have f3:=aD.mono _ hk5 e3;have f5:=aD.mono _ hk5 e5;have kp6:=kp4.step (.inl (by omega)) kp5;have hs6:=kp6.size;clear e1 e2 e3 e5 hRd hy kp4 kp5
  gi_wp2
  unfold TI at hK9;refine hK9 _ _ ?_;clear hK9 K9;refine wpIn_wide.2 (cB jB.wp (n0:=w5.heap.size) (N:=34) (ins:=[(5, .ref 1)]) (xs:=[.ref [.int .i64 (i:Int)]]) fo ⟨rfl,trivial⟩ (vD (aW4 i)) (by kernel_rfl) (aY _) (hfin hJ5 hs6 hG5) rfl rfl ⟨f5,trivial⟩ ?_);intro a6 w6 us6 hag6 hb6 hsz6 hdf6 hr6 hrep6;have hus:=bU hr6;subst hus;have hk6:=bO.below (M:=fun k=>Ms s' k\/X k) hb6;refine ⟨h.length-(i+1),by omega,i+1,s',rfl,by omega,by omega,hsz6,hdf6,aP hag6 0 (by kernel_rfl),?_,?_,?_,?_,?_,?_,hG5.eE hk6⟩
  .rw [aP hag6 1 (by kernel_rfl)];exact aD.mono _ hk6 f1
  .rw [aP hag6 2 (by kernel_rfl)];exact aD.mono _ hk6 f2
  .rw [aP hag6 3 (by kernel_rfl)];exact aD.mono _ hk6 f3
  .have:=hrep6.1;rw [show (((i+1:Nat):Int))=(i:Int)+1 by omega];exact this
  .rw [show i+1-1=i by omega];exact hH.below hJ5 (by omega) hb6
  .exact kp6.trans (Kp.below (M:=Ms s') hb6)
end Go.Sy
