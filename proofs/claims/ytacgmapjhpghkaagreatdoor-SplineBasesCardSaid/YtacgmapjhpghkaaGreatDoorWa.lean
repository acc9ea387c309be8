/- Part. -/
import Derived.Test.YtacgmapjhpghkaaGreatDoorSe
import Derived.Test.YtacgmapjhpghkaaGreatDoorQc
set_option linter.all false
set_option maxRecDepth 100000
namespace Go.Sy
open Go Go.RowKit
variable{F:Fence}{n m:Nat}{P:Program}
abbrev gz(fn:FuncId)(tmps:Array Value)(ps:Array Tmp)(assign body:Code)(D:Nat)(st:LoopState)(pe:Option Code):Loop:={ state:=st,pending:=pe,fn,tmps,params:=ps,assign,body,defers:=D }
def cc6(P:Program)(l:Nat)(r:LoopState->Option Code->Loop)(R:Bool->Option Code->World->Prop):Exit->Act->World->Prop
 | .normal,_,W=>W.heap[l]?=some (.loop (r .busy none))/\R true none (W.putObj l (.loop (r .ready none)))
 | .ret,_,W=>W.heap[l]?=some (.loop (r .busy none))/\R false (some .ret) (W.putObj l (.loop (r .done (some .ret))))
 | .exit id,_,W=>W.heap[l]?=some (.loop (r .busy none))/\R false (some (.exit id)) (W.putObj l (.loop (r .done (some (.exit id)))))
 | _,_,_=>False
theorem TU{fn:FuncId}{tmps:Array Value}{ps:Array Tmp}{assign body:Code}{D l:Nat}{args:Array Value}{W:World}{R:Bool->Option Code->World->Prop}
  (hl:W.heap[l]?=some (.loop (gz fn tmps ps assign body D .ready none))) (hps:args.size=ps.size) (hF:F.fn fn)
  (h:assign.wpIn (F.inRound l) m P (Exit.then (fun a1 W1=>W1.heap[l]?=some (.loop (gz fn tmps ps assign body D .ready none)) /\
    body.wpIn (F.inRound l) m P (cc6 P l (gz fn tmps ps assign body D) R) a1 (W1.putObj l (.loop (gz fn tmps ps assign body D .busy none)))) (fun _ _ _=>False))
   { tmps:=(ps.zip args).foldl (fun t (p,v)=>t.setIfInBounds p v) tmps,defers:=[] } W) :
  YieldAt F m P l args W fun e W'=>∃b c,e=.returned (.bool b)/\R b c W':=by
 have hy:=run_yield (P:=P) (args:=args) hl hps;refine⟨fn,_,assign,body,hy,roundIn_of_wpIn hF (wpIn_mono h ?_)⟩;rintro e a1 W1 hp;cases e with
 | normal=>
   obtain⟨hl1,hb⟩:=hp;refine⟨_,run_beginRound hl1 rfl,wpIn_mono hb ?_⟩;rintro e a3 W3 hp;cases e with
   | normal=>
     obtain⟨hl3,hR⟩:=hp;exact⟨_,_,Nx (P:=P) none hl3,true,none,rfl,hR⟩
   | ret=>
     obtain⟨hl3,hR⟩:=hp;exact⟨_,_,Nx (P:=P) (some .ret) hl3,false,_,rfl,hR⟩
   | exit id=>
     obtain⟨hl3,hR⟩:=hp;exact⟨_,_,Nx (P:=P) (some (.exit id)) hl3,false,_,rfl,hR⟩
   | goto t=>exact hp.elim
   | panic ch=>exact hp.elim
   | outgrown=>exact hp.elim
 | ret=>exact hp.elim
 | exit id=>exact hp.elim
 | goto t=>exact hp.elim
 | panic ch=>exact hp.elim
 | outgrown=>exact hp.elim
theorem Va{g:Operand}{ps:Array Tmp}{assign body:Code}{Q:Exit->Act->World->Prop}{a:Act}{w:World}
  (hro:F.round=none) (h1:1<=n) {gf:Nat} {lb:Array Value} (hg:a.eval g=.func (.func gf) #[] lb) (hFg:F.fn gf) (eg:∀args w,(callFunc gf args).run P w=.ok (.enter gf args) w)
  (h:∀(fn:FuncId)(D l:Nat)(W1:World),F.fn fn->D=w.heap.size->l=w.heap.size+1->W1.heap.size=w.heap.size+2->Below w.heap.size w W1->W1.heap[D]?=some (.deferred (some [])) ->
   W1.heap[l]?=some (.loop (gz fn a.tmps ps assign body D .ready none)) ->
   CallsIn F (n-1) P gf (#[.func (.yield l) #[] #[]]++lb) W1 fun e W2=>(∃v,e=.returned v) /\
    ((W2.heap[l]?=some (.loop (gz fn a.tmps ps assign body D .ready none))/\Q .normal { a with defers:={ target:=.collected D,args:=#[] } :: a.defers } (W2.putObj l (.loop (gz fn a.tmps ps assign body D .exhausted none)))) \/
    (∃c,W2.heap[l]?=some (.loop (gz fn a.tmps ps assign body D .done (some c)))/\c.wpIn F n P Q { a with defers:={ target:=.collected D,args:=#[] } :: a.defers } (W2.putObj l (.loop (gz fn a.tmps ps assign body D .exhausted (some c))))))) :
  (Code.rangeFunc g ps assign body).wpIn F n P Q a w:=by
 refine wpIn_rangeFunc ?_;intro fn hfn;rw[hro];obtain⟨W1,hW1⟩:∃W1,(w.alloc (.deferred (some []))).alloc (.loop (gz fn a.tmps ps assign body w.heap.size .ready none))=W1:=⟨_,rfl⟩
 have hL1:W1.heap[w.heap.size+1]?=some (.loop (gz fn a.tmps ps assign body w.heap.size .ready none)):=by
  rw[<-hW1];have:=World.alloc_heap_new (w.alloc (.deferred (some []))) (.loop (gz fn a.tmps ps assign body w.heap.size .ready none));rwa[cy]at this
 have hK1:W1.heap[w.heap.size]?=some (.deferred (some [])):=by
  rw[<-hW1];exact(Below.heap_alloc _ _ _ (by simp)).trans (World.alloc_heap_new w _)
 have hb1:Below w.heap.size w W1:=by
  rw[<-hW1];exact((cu _ w).alloc (aa _) _).alloc (by simp) _
 have uY:W1.heap.size=w.heap.size+2:=by rw[<-hW1];simp
 refine⟨w.heap.size+1,[{ target:=.collected w.heap.size,args:=#[] }],W1,{ target:=.fn (.func gf) lb,args:=#[.func (.yield (w.heap.size+1)) #[] #[]] },W1,gf,
  #[.func (.yield (w.heap.size+1)) #[] #[]]++lb,W1,?_,?_,?_,?_,fun _=>h1,?_⟩
 ·rw[<-hW1];exact run_enterLoop_outer _ _ _ _ _
 ·simp only[resolve,hg];simp[go_sem]
 ·intro f' hf';simp[Target.leads]at hf';subst hf';exact hFg
 ·simp[invoke,go_sem,eg]
 ·refine(h fn _ _ W1 hfn rfl rfl uY hb1 hK1 hL1).mono ?_;rintro e W2 ⟨⟨v,rfl⟩,(⟨hl,hq⟩ | ⟨c,hl,hq⟩)⟩
  ·exact⟨none,_,by have:=run_endLoop (P:=P) hl (by simp);exact this,hq⟩
  ·exact⟨some c,_,by have:=run_endLoop (P:=P) hl (by simp);exact this,hq⟩
abbrev Mb(M:Nat->Prop)(g:Nat)(k:Nat):Prop:=M k\/k=g
structure Kp(M:Nat->Prop)(W:World)(M':Nat->Prop)(W':World):Prop where
 os:W'.os=W.os
 tape:W'.tape=W.tape
 output:W'.output=W.output
 size:W.heap.size<=W'.heap.size
 same:∀k,k<W.heap.size->¬M k->¬M' k/\W'.heap[k]?=W.heap[k]?
theorem Kp.refl(M:Nat->Prop)(W:World):Kp M W M W:=⟨rfl,rfl,rfl,aa _,fun _ _ h=>⟨h,rfl⟩⟩
theorem Kp.trans{M M' M'':Nat->Prop}{W W' W'':World}(h:Kp M W M' W')(k:Kp M' W' M'' W''):Kp M W M'' W'':=
 ⟨k.os.trans h.os,k.tape.trans h.tape,k.output.trans h.output,aq h.size k.size,fun j hj hm=>by
  obtain⟨h1,h2⟩:=h.same j hj hm;obtain⟨k1,k2⟩:=k.same j (cj hj h.size) h1;exact⟨k1,k2.trans h2⟩⟩
theorem Kp.eJ{M M':Nat->Prop}{W W':World}(h:Kp M W M' W'):bF M W M' W':=fun b o hb ho _=>by
 obtain⟨h1,h2⟩:=h.same b (cZ.1 ho).1 hb;exact⟨h1,h2.trans ho⟩
theorem Kp.bc9{M N M':Nat->Prop}{W W':World}(h:Kp M W M' W')(hN:∀k,M k->N k):Kp N W M' W':=
 ⟨h.os,h.tape,h.output,h.size,fun k hk hn=>h.same k hk fun hm=>hn (hN k hm)⟩
theorem Kp.below{M:Nat->Prop}{W W':World}(h:Below W.heap.size W W'):Kp M W M W':=⟨h.os,h.tape,h.output,h.size,fun k hk hm=>⟨hm,h.block k hk⟩⟩
theorem Kp.grown{M:Nat->Prop}{W W':World}{g:Nat}(hg:M g)(h:W.grownBy W' (some g)):Kp M W M W':=⟨h.os,h.tape,h.output,h.size,fun k hk hm=>⟨hm,h.block k hk fun e=>hm (dA e▸hg)⟩⟩
theorem Kp.step{N M M':Nat->Prop}{W0 W W':World}{b:Nat}(h:Kp N W0 M W)(hb:W0.heap.size<=b\/N b)(k:Kp (Mb M b) W M' W'):Kp N W0 M' W':=
 ⟨k.os.trans h.os,k.tape.trans h.tape,k.output.trans h.output,aq h.size k.size,fun j hj hn=>by
  obtain⟨h1,h2⟩:=h.same j hj hn;obtain⟨k1,k2⟩:=k.same j (cj hj h.size) fun e=>e.elim h1 fun e=>by subst e;exact hb.elim (fun h=>by omega) hn
  exact⟨k1,k2.trans h2⟩⟩
theorem uf{id:Nat}{Q:Exit->Act->World->Prop}{a:Act}{w:World}(h:Q .normal a w):Exit.inBlock id Q (.exit id) a w:=by
 show(if id=id then Q .normal a w else Q (.exit id) a w);rw[aK rfl];exact h
theorem uU{K1 K2:Act->World->Prop}{id:Nat}{Q:Exit->Act->World->Prop}{a:Act}{w:World}(h:Q .normal a w):Exit.then K1 (Exit.then K2 (Exit.inBlock id Q)) (.exit id) a w:=uf h
def Vl(p:Prop):Prop:=p
theorem Dz{W W':World}(hb:Below W.heap.size W W')(g:Option Nat):W.grownBy W' g:=⟨hb.os,hb.tape,hb.output,hb.size,fun j hj _=>hb.block j hj⟩
structure qo(E sz:Nat)(ts:List (List aC))(M:Nat->Prop)(W:World)(v:Value)(b:Nat):Prop where
 off:¬M b
 own:v.ownBlock=some b
 full:∃cur:Array Value,W.heap[b]?=some (.cells cur E (0,0))/\cur.size=ts.length*sz
 row:∃xs,W.ownsRow 0 E sz v ts.length xs/\(∀t∈ts,t.length=sz)/\ai (Mb M b) W ts.flatten xs
theorem qo.one{E sz:Nat}{ts:List (List aC)}{M:Nat->Prop}{W:World}{v:Value}{b:Nat}(h:qo E sz ts M W v b):v.oneCell'=true:=by
 obtain⟨xs,⟨_,h1⟩,_⟩:=h.row;rcases h1 with⟨rfl,_⟩ | ⟨g,cap,cur,rfl,_⟩<;>rfl
theorem qo.lt{E sz:Nat}{ts:List (List aC)}{M:Nat->Prop}{W:World}{v:Value}{b:Nat}(h:qo E sz ts M W v b):b<W.heap.size:=by
 obtain⟨xs,ho,_⟩:=h.row;exact(ho.lt b h.own).2
structure cq(E sz:Nat)(ts:List (List aC))(N:Nat->Prop)(W:World)(v:Value)(b:Nat):Prop where
 own:v.ownBlock=some b
 full:∃cur:Array Value,W.heap[b]?=some (.cells cur E (0,0))/\cur.size=ts.length*sz
 row:∃xs,W.ownsRow 0 E sz v ts.length xs/\(∀t∈ts,t.length=sz)/\ai N W ts.flatten xs
theorem me{W W':World}{base E sz n b:Nat}{v:Value}{xs:List Value}(h:W.ownsRow base E sz v n xs)(ho:v.ownBlock=some b)(hb:W'.heap[b]?=W.heap[b]?):W'.ownsRow base E sz v n xs:=by
 refine⟨h.1,?_⟩;rcases h.2 with hn | ⟨g,cap,cur,rfl,hbg,hg,rest⟩
 ·exact .inl hn
 ·have:g=b:=dA ho;subst this;exact .inr ⟨g,cap,cur,rfl,hbg,hb.trans hg,rest⟩
theorem cq.mono{E sz:Nat}{ts:List (List aC)}{N N':Nat->Prop}{W W':World}{v:Value}{b:Nat}(h:cq E sz ts N W v b)(hk:bF N W N' W')(hb:W'.heap[b]?=W.heap[b]?):cq E sz ts N' W' v b:=by
 obtain⟨xs,h1,h2,h3⟩:=h.row;obtain⟨cur,hc,hcs⟩:=h.full;exact⟨h.own,⟨cur,hb.trans hc,hcs⟩,xs,me h1 h.own hb,h2,h3.mono hk⟩
theorem cq.lt{E sz:Nat}{ts:List (List aC)}{N:Nat->Prop}{W:World}{v:Value}{b:Nat}(h:cq E sz ts N W v b):b<W.heap.size:=by
 obtain⟨xs,ho,_⟩:=h.row;exact(ho.lt b h.own).2
theorem cq.at{E sz:Nat}{ts:List (List aC)}{N M:Nat->Prop}{W:World}{v:Value}{b:Nat}(h:cq E sz ts N W v b)(hN:∀k,Mb M b k->N k)(hb:¬M b):qo E sz ts M W v b:=by
 obtain⟨xs,h1,h2,h3⟩:=h.row;exact⟨hb,h.own,h.full,xs,h1,h2,h3.mono fun k o hk ho _=>⟨fun h=>hk (hN k h),ho⟩⟩
structure Host(n1:Nat){σ:Type}(Ms:σ->Nat->Prop)(nx:σ->Nat)(J:Nat->σ->World->Prop):Prop where
 nS:∀{i s W},J i s W->cC (Ms s) W
 near:∀{i s W},J i s W->nx s<=W.heap.size
 grow:∀{i s W W'}{g:Nat},J i s W->n1<=g->¬Ms s g->(∀o:Obj,W.heap[g]?=some o->o.isCells=false)->W.grownBy W' (some g)->J i s W'
theorem Host.below{n1:Nat}{σ:Type}{Ms:σ->Nat->Prop}{nx:σ->Nat}{J:Nat->σ->World->Prop}(h:Host n1 Ms nx J){i:Nat}{s:σ}{W W':World}(hj:J i s W)(hn:n1<=W.heap.size)(hb:Below W.heap.size W W'):J i s W':=
 h.grow (g:=W.heap.size) hj hn (fun hm=>Nat.lt_irrefl _ ((h.nS hj).1 _ hm)) (fun o ho=>by have:=(cZ.1 ho).1;omega) (Dz hb _)
def bt7(P:Program)(E sz:Nat)(rows:List (List (List aC)))(S X:Nat->Prop)(l n1:Nat){σ:Type}(Ms:σ->Nat->Prop)(nx:σ->Nat)(J:Nat->σ->World->Prop):Prop:=
 ∀i s W v b ts,rows[i]?=some ts->J i s W->cq E sz ts (fun k=>Ms s k\/X k\/k=b) W v b->¬Ms s b->((n1<=b/\nx s<=b)\/S b)->YieldAt Fence.wide 0 P l #[v] W fun e W'=>e=.returned (.bool true)/\∃s',J (i+1) s' W'/\Kp (Mb (Ms s) b) W (Ms s') W'
def Gen(P:Program)(E sz:Nat)(gf:Nat)(lb:Array Value)(rows:List (List (List aC)))(S X:Nat->Prop)(M:Nat->Prop)(w:World):Prop:=
 ∀(W:World){σ:Type}(Ms:σ->Nat->Prop)(nx:σ->Nat)(s0:σ)(l:Nat)(J:Nat->σ->World->Prop),Below w.heap.size w W->(∀k,k<w.heap.size->Ms s0 k->M k)->Host W.heap.size Ms nx J->bt7 P E sz rows S X l W.heap.size Ms nx J->J 0 s0 W ->
  Calls P gf (#[.func (.yield l) #[] #[]]++lb) W fun e W'=>(∃v,e=.returned v)/\∃s',J rows.length s' W'/\Kp (fun k=>Ms s0 k\/S k) W (Ms s') W'
theorem cq.one{E sz:Nat}{ts:List (List aC)}{N:Nat->Prop}{W:World}{v:Value}{b:Nat}(h:cq E sz ts N W v b):v.oneCell'=true:=by
 obtain⟨xs,⟨_,h1⟩,_⟩:=h.row;rcases h1 with⟨rfl,_⟩ | ⟨g,cap,cur,rfl,_⟩<;>rfl
theorem qo.in{E sz:Nat}{ts:List (List aC)}{M N:Nat->Prop}{W:World}{v:Value}{b:Nat}(h:qo E sz ts M W v b)(hN:∀k,N k->Mb M b k):cq E sz ts N W v b:=by
 obtain⟨xs,h1,h2,h3⟩:=h.row;exact⟨h.own,h.full,xs,h1,h2,h3.mono fun k o hk ho _=>⟨fun h=>hk (hN k h),ho⟩⟩
theorem cq.less{E sz:Nat}{ts:List (List aC)}{N N':Nat->Prop}{W:World}{v:Value}{b:Nat}(h:cq E sz ts N W v b)(hN:∀k,N' k->N k):cq E sz ts N' W v b:=h.mono (fun k o hk ho _=>⟨fun h=>hk (hN k h),ho⟩) rfl
theorem cq.other{E sz:Nat}{ts:List (List aC)}{N:Nat->Prop}{W W':World}{v:Value}{b:Nat}(h:cq E sz ts N W v b)(hk:∀(j:Nat)(o:Obj),W.heap[j]?=some o->o.isCells=true->W'.heap[j]?=W.heap[j]?):cq E sz ts N W' v b:=by
 obtain⟨xs,h1,h2,h3⟩:=h.row;obtain⟨cur0,hc0,hcs0⟩:=h.full;refine⟨h.own,⟨cur0,(hk b _ hc0 rfl).trans hc0,hcs0⟩,xs,⟨h1.1,?_⟩,h2,h3.mono fun k o hm ho hc=>⟨hm,(hk k o ho hc).trans ho⟩⟩;rcases h1.2 with hn | ⟨g,cap,cur,e,hbg,hg,rest⟩
 ·exact .inl hn
 ·exact .inr ⟨g,cap,cur,e,hbg,(hk g _ hg rfl).trans hg,rest⟩
theorem YieldAt.any{P:Program}{m m' l:Nat}{args:Array Value}{W:World}{R:Ending->World->Prop}(l':Nat)(h:YieldAt Fence.wide m P l args W R):YieldAt (Fence.wide.inRound l') m' P l args W R:=by
 obtain⟨fn,tmps,assign,body,hy,hr⟩:=h;exact⟨fn,tmps,assign,body,hy,trivial,fun c cs _=>hr.2 c cs (room_wide _)⟩
theorem YieldAt.plain{P:Program}{m m' l:Nat}{args:Array Value}{W:World}{R:Ending->World->Prop}(h:YieldAt Fence.wide m P l args W R):YieldAt Fence.wide m' P l args W R:=by
 obtain⟨fn,tmps,assign,body,hy,hr⟩:=h;exact⟨fn,tmps,assign,body,hy,trivial,fun c cs _=>hr.2 c cs (room_wide _)⟩
theorem YieldAt.imp{P:Program}{m m' l:Nat}{args:Array Value}{W:World}{R R':Ending->World->Prop}(h:YieldAt Fence.wide m P l args W R)(hR:∀e w,R e w->R' e w):YieldAt Fence.wide m' P l args W R':=by
 obtain⟨fn,tmps,assign,body,hy,hr⟩:=h;refine⟨fn,tmps,assign,body,hy,trivial,fun c cs _=>?_⟩;obtain⟨e,w',fr,hx⟩:=hr.2 c cs (room_wide _);exact⟨e,w',hR e w' fr,hx⟩
theorem qo.other{E sz:Nat}{ts:List (List aC)}{M:Nat->Prop}{W W':World}{v:Value}{b:Nat}(h:qo E sz ts M W v b)(hk:∀(j:Nat)(o:Obj),W.heap[j]?=some o->o.isCells=true->W'.heap[j]?=W.heap[j]?):qo E sz ts M W' v b:=by
 obtain⟨xs,h1,h2,h3⟩:=h.row;obtain⟨cur0,hc0,hcs0⟩:=h.full;refine⟨h.off,h.own,⟨cur0,(hk b _ hc0 rfl).trans hc0,hcs0⟩,xs,?_,h2,h3.mono fun k o hm ho hc=>⟨hm,(hk k o ho hc).trans ho⟩⟩;refine⟨h1.1,?_⟩;rcases h1.2 with hn | ⟨g,cap,cur,e,hbg,hg,rest⟩
 ·exact .inl hn
 ·exact .inr ⟨g,cap,cur,e,hbg,(hk g _ hg rfl).trans hg,rest⟩
abbrev Mx(M:Nat->Prop)(bs:List Nat)(n2:Nat)(k:Nat):Prop:=M k\/n2<=k\/k∈bs
structure WJ(n2:Nat)(lo:Obj)(N:Nat->Prop)(W0:World)(yl mv p2 p3:Value)(cP:List Value)(bs:List Nat)(E sz:Nat)(rows:List (List (List aC)))(fr:Nat)(M:Nat->Prop)(W:World):Prop where
 big:n2+2<=W.heap.size
 hD:W.heap[n2]?=some (.deferred (some []))
 hl:W.heap[n2+1]?=some lo
 nD:¬M n2
 nl:¬M (n2+1)
 q3:(aC.aw [.exact yl]).rep (Mx M bs n2) W p3
 q2:(aC.aw [.exact mv]).rep (Mx M bs n2) W p2
 qm:(aC.slice 1 (cP.map fun v=>[.exact v])).rep (Mx M bs n2) W mv
 qr:∀(j:Nat)(v:Value)(b:Nat)(ts:List (List aC)),fr<=j->cP[j]?=some v->bs[j]?=some b->rows[j]?=some ts->b<n2/\¬M b/\cq E sz ts (Mx M bs n2) W v b
 kp:Kp N W0 M W
section
variable{n2:Nat}{lo lo':Obj}{N:Nat->Prop}{W0:World}{yl mv p2 p3:Value}{cP:List Value}{bs:List Nat}{E sz:Nat}{rows:List (List (List aC))}{fr fr':Nat}{M M':Nat->Prop}{W W':World}
theorem WJ.to(h:WJ n2 lo N W0 yl mv p2 p3 cP bs E sz rows fr M W)(hs:W.heap.size<=W'.heap.size)(hD:W'.heap[n2]?=some (.deferred (some [])))(hl:W'.heap[n2+1]?=some lo')(nD:¬M' n2)(nl:¬M' (n2+1))(hf:fr<=fr')
  (hk:∀k,k<n2->¬M k->k ∉ bs->¬M' k/\W'.heap[k]?=W.heap[k]?) (hr:∀j b,fr'<=j->bs[j]?=some b->b<n2->¬M b->¬M' b/\W'.heap[b]?=W.heap[b]?) (kp:Kp N W0 M' W'):WJ n2 lo' N W0 yl mv p2 p3 cP bs E sz rows fr' M' W':=by
 have hke:bF (Mx M bs n2) W (Mx M' bs n2) W':=fun k o hm ho _=>by
  have h1:¬M k:=fun h=>hm (.inl h);have h2:k<n2:=Nat.lt_of_not_le fun h=>hm (.inr (.inl h));have h3:k ∉ bs:=fun h=>hm (.inr (.inr h));obtain⟨h4,h5⟩:=hk k h2 h1 h3;exact⟨fun h=>h.elim h4 fun h=>h.elim (fun h=>by omega) h3,h5.trans ho⟩
 refine⟨by have:=h.big;omega,hD,hl,nD,nl,aC.mono _ hke h.q3,aC.mono _ hke h.q2,aC.mono _ hke h.qm,fun j v b ts hj hv hb ht=>?_,kp⟩;obtain⟨h1,h2,h3⟩:=h.qr j v b ts (by omega) hv hb ht;obtain⟨h4,h5⟩:=hr j b hj hb h1 h2;exact⟨h1,h4,h3.mono hke h5⟩
theorem WJ.grow(h:WJ n2 lo N W0 yl mv p2 p3 cP bs E sz rows fr M W)(hW:W0.heap.size<=n2){g:Nat}(hg:n2+2<=g)(hb:W.grownBy W' (some g)):WJ n2 lo N W0 yl mv p2 p3 cP bs E sz rows fr M W':=by
 have hbig:=h.big;have hsame:∀k,k<W.heap.size->k≠g->W'.heap[k]?=W.heap[k]?:=fun k hk hne=>hb.block k hk fun e=>hne (dA e);refine h.to hb.size ((hsame _ (by omega) (by omega)).trans h.hD) ((hsame _ (by omega) (by omega)).trans h.hl) h.nD h.nl (aa _) (fun k hk hm _=>⟨hm,hsame _ (by omega) (by omega)⟩) (fun j b hj hbj hbn hm=>⟨hm,hsame b (by omega) (by omega)⟩) ?_;have kp:=h.kp
 exact⟨hb.os.trans kp.os,hb.tape.trans kp.tape,hb.output.trans kp.output,aq kp.size hb.size,fun k hk hn=>by
  obtain⟨h1,h2⟩:=kp.same k hk hn;exact⟨h1,(hsame k (by omega) (by omega)).trans h2⟩⟩
theorem WJ.Xs(h:WJ n2 lo N W0 yl mv p2 p3 cP bs E sz rows fr M W)(hW:W0.heap.size<=n2)(lo':Obj):WJ n2 lo' N W0 yl mv p2 p3 cP bs E sz rows fr M (W.putObj (n2+1) lo'):=by
 have hbig:=h.big;have hp:∀j,j≠n2+1->(W.putObj (n2+1) lo').heap[j]?=W.heap[j]?:=fun j hj=>kz hj;refine h.to (by simp[World.putObj]) ((hp _ (by omega)).trans h.hD) (zt (by omega)) h.nD h.nl (aa _) (fun k hk hm _=>⟨hm,hp _ (by omega)⟩) (fun j b hj hbj hbn hm=>⟨hm,hp b (by omega)⟩) ?_;have kp:=h.kp
 exact⟨kp.os,kp.tape,kp.output,by simp only[oT];exact kp.size,fun k hk hn=>by
  obtain⟨h1,h2⟩:=kp.same k hk hn;exact⟨h1,(hp k (by omega)).trans h2⟩⟩
theorem WJ.step(h:WJ n2 lo N W0 yl mv p2 p3 cP bs E sz rows fr M W){b:Nat}(hb1:b≠n2)(hb2:b≠n2+1)(hbx:n2<=b\/b∈bs)(hbk:W0.heap.size<=b\/N b)(hf:fr<=fr')(hne:∀(j b':Nat),fr'<=j->bs[j]?=some b'->b'<n2->b'≠b)(k:Kp (Mb M b) W M' W'):WJ n2 lo N W0 yl mv p2 p3 cP bs E sz rows fr' M' W':=by
 have hbig:=h.big;obtain⟨d1,d2⟩:=k.same n2 (by omega) fun e=>e.elim h.nD (fun e=>hb1 e.symm);obtain⟨l1,l2⟩:=k.same (n2+1) (by omega) fun e=>e.elim h.nl (fun e=>hb2 e.symm);refine h.to k.size (d2.trans h.hD) (l2.trans h.hl) d1 l1 hf (fun j hj hm hn=>k.same j (by omega) fun e=>e.elim hm fun e=>by subst e;exact hbx.elim (fun h=>by omega) hn) (fun j b' hj hbj hbn hm=>k.same b' (by omega) fun e=>e.elim hm (hne j b' hj hbj hbn)) (h.kp.step hbk k)
end
theorem Oo{M:Nat->Prop}{w:World}{sz:Nat}:∀{ts:List (List aC)}{xs:List Value},(∀t∈ts,t.length=sz)->ai M w ts.flatten xs->∀(i:Nat)(t:List aC),ts[i]?=some t->t.length=sz/\ai M w t ((xs.drop (i*sz)).take sz)
 | t0::ts,xs,hl,h,0,t,ht=>by
   simp only[lp,aW]at ht;subst ht;have h0:=hl t0 dV;have h1:=h.take sz;rw[iU,vC (by omega),dP (by omega)]at h1;exact⟨h0,by simpa using h1⟩
 | t0::ts,xs,hl,h,i+1,t,ht=>by
   have h0:=hl t0 dV;have h1:=h.drop sz;rw[iU,qg (by omega),List.drop_of_length_le (by omega),List.nil_append]at h1;have:=Oo (fun t ht=>hl t (dc _ ht)) h1 i t (by simpa using ht);rw[gF]at this
   rwa[show(i+1)*sz=sz+i*sz by rw[bX];omega]
 | [],_,_,_,i,t,ht=>by simp at ht
def aC.own(n0 E sz:Nat)(ts:List (List aC)):aC where
 rep:=fun M w v=>∃(b cap:Nat)(cur:Array Value),v=.slice (some ⟨b,0,none⟩) ts.length cap/\n0<=b/\¬M b/\w.heap[b]?=some (.cells cur E (0,0))/\ts.length<=cap/\cap<=maxLen/\cur.size=cap*sz/\(∀t∈ts,t.length=sz)/\ai (Mb M b) w ts.flatten (cur.toList.take (ts.length*sz))
 mono:=by
  rintro M w M' w' v hk ⟨b,cap,cur,rfl,h1,h2,h3,h4,h5,h6,h7,h8⟩;obtain⟨k1,k2⟩:=hk b _ h2 h3 rfl;refine⟨b,cap,cur,rfl,h1,k1,k2,h4,h5,h6,h7,h8.mono fun k o hkm ho hc=>?_⟩;obtain⟨k3,k4⟩:=hk k o (fun h=>hkm (.inl h)) ho hc;exact⟨fun h=>h.elim k3 (fun e=>hkm (.inr e)),k4⟩
 one:=by
  rintro M w v ⟨b,cap,cur,rfl,_⟩;rfl
theorem aC.own.slice{n0 E sz:Nat}{ts:List (List aC)}{M:Nat->Prop}{w:World}{v:Value}(h:(aC.own n0 E sz ts).rep M w v):(aC.slice sz ts).rep M w v:=by
 obtain⟨b,cap,cur,rfl,h1,h2,h3,h4,h5,h6,h7,h8⟩:=h;refine⟨_,cap,rfl,h4,h5,.inr ⟨b,0,cur,E,(0,0),rfl,h2,h3,fun i t ht=>?_⟩⟩;obtain⟨g1,g2⟩:=Oo h7 (h8.mono fun k o hk ho _=>⟨fun h=>hk (.inl h),ho⟩) i t ht;refine⟨g1,?_⟩;have hi:=(dM.1 ht).1;have hle:(i+1)*sz<=ts.length*sz:=cN _ hi;rw[bX,eN]at hle;rw[nm,kK,dQ (by omega)]at g2
 rwa[bM]
theorem aC.own.sub{n0 E sz:Nat}{ts:List (List aC)}:(aC.own n0 E sz ts).Sub (.slice sz ts):=
 .inr ⟨fun M w v h=>by obtain⟨b,cap,cur,rfl,_⟩:=h;exact⟨_,_,_,rfl⟩,fun M w v h=>aC.own.slice h⟩
theorem aC.own.less{n0 n1 E sz:Nat}{ts:List (List aC)}(hn:n1<=n0){M:Nat->Prop}{w:World}{v:Value}(h:(aC.own n0 E sz ts).rep M w v):(aC.own n1 E sz ts).rep M w v:=by
 obtain⟨b,cap,cur,rfl,h1,rest⟩:=h;exact⟨b,cap,cur,rfl,aq hn h1,rest⟩
theorem aC.own.row{n0 E sz:Nat}{ts:List (List aC)}{M:Nat->Prop}{w:World}{v:Value}(h:(aC.own n0 E sz ts).rep M w v):∃b,n0<=b/\¬M b/\v.ownBlock=some b/\∃xs,w.ownsRow 0 E sz v ts.length xs/\(∀t∈ts,t.length=sz)/\ai (Mb M b) w ts.flatten xs:=by
 obtain⟨b,cap,cur,rfl,h1,h2,h3,h4,h5,h6,h7,h8⟩:=h;have hm:=cN sz h4;exact⟨b,h1,h2,rfl,_,⟨by rw[bK,cT (xs:=cur),h6];omega,.inr ⟨b,cap,cur,rfl,cz _,h3,h4,h5,h6,rfl⟩⟩,h7,h8⟩
def aC.jt(n0 E sz:Nat)(ts:List (List aC)):aC where
 rep:=fun M w v=>∃(b:Nat)(cur:Array Value),v=.slice (some ⟨b,0,none⟩) ts.length ts.length/\n0<=b/\¬M b/\w.heap[b]?=some (.cells cur E (0,0))/\ts.length<=maxLen/\cur.size=ts.length*sz/\(∀t∈ts,t.length=sz)/\ai (Mb M b) w ts.flatten cur.toList
 mono:=by
  rintro M w M' w' v hk ⟨b,cur,rfl,h1,h2,h3,h5,h6,h7,h8⟩;obtain⟨k1,k2⟩:=hk b _ h2 h3 rfl;refine⟨b,cur,rfl,h1,k1,k2,h5,h6,h7,h8.mono fun k o hkm ho hc=>?_⟩;obtain⟨k3,k4⟩:=hk k o (fun h=>hkm (.inl h)) ho hc;exact⟨fun h=>h.elim k3 (fun e=>hkm (.inr e)),k4⟩
 one:=by
  rintro M w v ⟨b,cur,rfl,_⟩;rfl
theorem aC.jt.own{n0 E sz:Nat}{ts:List (List aC)}{M:Nat->Prop}{w:World}{v:Value}(h:(aC.jt n0 E sz ts).rep M w v):(aC.own n0 E sz ts).rep M w v:=by
 obtain⟨b,cur,rfl,h1,h2,h3,h5,h6,h7,h8⟩:=h;exact⟨b,_,cur,rfl,h1,h2,h3,aa _,h5,h6,h7,by rwa[dP (by rw[cT (xs:=cur),h6];omega)]⟩
theorem aC.jt.slice{n0 E sz:Nat}{ts:List (List aC)}{M:Nat->Prop}{w:World}{v:Value}(h:(aC.jt n0 E sz ts).rep M w v):(aC.slice sz ts).rep M w v:=aC.own.slice (aC.jt.own h)
theorem aC.jt.sub{n0 E sz:Nat}{ts:List (List aC)}:(aC.jt n0 E sz ts).Sub (.slice sz ts):=
 .inr ⟨fun M w v h=>by obtain⟨b,cur,rfl,_⟩:=h;exact⟨_,_,_,rfl⟩,fun M w v h=>aC.jt.slice h⟩
theorem aC.jt.less{n0 n1 E sz:Nat}{ts:List (List aC)}(hn:n1<=n0){M:Nat->Prop}{w:World}{v:Value}(h:(aC.jt n0 E sz ts).rep M w v):(aC.jt n1 E sz ts).rep M w v:=by
 obtain⟨b,cur,rfl,h1,rest⟩:=h;exact⟨b,cur,rfl,aq hn h1,rest⟩
theorem aC.jt.rowAt{n0 E sz:Nat}{ts:List (List aC)}{M:Nat->Prop}{w:World}{v:Value}(h:(aC.jt n0 E sz ts).rep M w v):∃b,n0<=b/\qo E sz ts M w v b:=by
 obtain⟨b,cur,rfl,h1,h2,h3,h5,h6,h7,h8⟩:=h;have hl:cur.toList.length=ts.length*sz:=by rw[cT (xs:=cur),h6]
 exact⟨b,h1,h2,rfl,⟨cur,h3,h6⟩,_,⟨hl,.inr ⟨b,ts.length,cur,rfl,cz _,h3,aa _,h5,h6,dP (su hl)⟩⟩,h7,h8⟩
def pO(P:Program)(f:FuncId)(args:List aN)(out:Nat->List aN):Prop:=
 (∀ar w,(callFunc f ar).run P w=.ok (.enter f ar) w)/\∀(M:Nat->Prop)(w:World)(vs:List Value),cC M w->ba M w args vs->Calls P f vs.toArray w fun e w'=>Below w.heap.size w w'/\oZ M w' (.ret (out w.heap.size)) e
theorem aj8{P:Program}{post:Out->Prop}{bk:List (List aN->Prop)}{τ:Env}{ty:Nat}{last:Bool}{k:Tr}{f:Nat}{args:List SW}{sh:List (Option Nat)}{x:Operand}{xs:Array Operand}{vf:Array TypeId}{ts:List aN}
  (hp:post (.GD f (args.map (oG τ)) ts)) (hs:ts.map aN.shape=sh.map some) (hk:vc P post k (τ++ts) bk):vc P post (.need (.call f args sh) (.call ⟨.value x,xs,vf⟩) ty last k) τ bk:=
 .inr (.inr ⟨f,args,sh,ts,rfl,⟨_,_,rfl,rfl⟩,hs,hp,hk⟩)
def ic(P:Program)(n0:Nat)(out:Out)(o:Out):Prop:=az o out\/∃f args ts,o=.GD f args ts/\(∀ar w,(callFunc f ar).run P w=.ok (.enter f ar) w)/\∀(M:Nat->Prop)(w:World)(vs:List Value),n0<=w.heap.size->cC M w->ba M w args vs->Calls P f vs.toArray w fun e w'=>Below w.heap.size w w'/\oZ M w' (.ret ts) e
theorem ic.GD{P:Program}{n0:Nat}{out:Out}{f:FuncId}{args:List aN}{o:Nat->List aN}{ts:List aN}(h:pO P f args o)(hl:∀n1,n0<=n1->∀(M:Nat->Prop)(w:World)(vs:List Value),ba M w (o n1) vs->ba M w ts vs):ic P n0 out (.GD f args ts):=
 .inr ⟨f,args,ts,rfl,h.1,fun M w vs hn hM hv=>(h.2 M w vs hM hv).mono fun e w' ⟨h1,us,h2,h3⟩=>⟨h1,us,h2,hl _ hn M w' us h3⟩⟩
theorem Vb{n0 E sz:Nat}{ts:List (List aC)}:∀n1,n0<=n1->∀(M:Nat->Prop)(w:World)(vs:List Value),ba M w [.one (.own n1 E sz ts)] vs->ba M w [.one (.own n0 E sz ts)] vs
 | n1,hn,M,w,[v],h=>⟨aC.own.less hn h.1,trivial⟩
 | _,_,_,_,[],h=>h.elim
 | _,_,_,_,_::_::_,h=>h.2.elim
theorem sW{n0 E sz:Nat}{ts:List (List aC)}:∀n1,n0<=n1->∀(M:Nat->Prop)(w:World)(vs:List Value),ba M w [.one (.jt n1 E sz ts)] vs->ba M w [.one (.jt n0 E sz ts)] vs
 | n1,hn,M,w,[v],h=>⟨aC.jt.less hn h.1,trivial⟩
 | _,_,_,_,[],h=>h.elim
 | _,_,_,_,_::_::_,h=>h.2.elim
theorem ic.ce2{P:Program}{n0:Nat}{out:Out}{M0:eS}{w0:World}(hn:n0<=w0.heap.size):wO P (ic P n0 out) M0 w0:=by
 rintro f args news (h | ⟨f',args',ts',e,h1,h2⟩)
 ·cases out<;>exact(h:False).elim
 ·cases e;exact⟨h1,fun M w vs hk hM hr=>h2 M w vs (aq hn hk.size) hM hr⟩
section
variable{P:Program}
theorem yL{f:FuncId}{fn:Func}{hints:Nat->Option Hint}{args:List Arg}{ins:List In}{out:Nat->List aN}(hm:P.follows .mixedOrders=true)(hok:pb P f=true)
  (hf:P.funcs[f]?=some fn) (hin:ak In.Is args ins) (h:∀n0,vc P (ic P n0 (.ret (out n0))) (aV P fn hints args) (ins.map In.env) []):pO P f (ins.map In.ty) out:=by
 refine⟨bC hok,fun M w vs hM hvs=>?_⟩;replace h:=h w.heap.size;unfold aV at h;split at h
 ·exact h.elim
 ·rename_i c hb;split at h
  ·rename_i hlen;refine lU hf hb ?_;have hil:ins.length=args.length:=hin.length.symm;have hvl:vs.length=args.length:=by rw[<-hvs.length];simpa using hil
   refine vi (M0:=⟨M,⟨0,undef,#[]⟩⟩) (w0:=w) hm c 0 0 0 args.length _ [] _ (ins.map In.env) [] h (by simpa using hil) (by intro x hx;cases hx) (aa _) (fun _=>⟨0,undef,#[]⟩) _ w _ ?_ ?_ (ic.ce2 (aa _)) ?_
   ·exact SA hin hM hlen hvs
   ·intro c v a w' hp;rcases hp with hp | ⟨_,_,_,e,_⟩
    ·exact hp.elim
    ·cases e
   ·intro ex nb s dec m bk' ρ a w' _ _ hv _ hs
    have key:vc P (ic P w.heap.size (.ret (out w.heap.size))) (match(yp P s fn.results.toList).run s with
      | some (vs,_)=>.ret vs
      | none=>.fail 1008) (ins.map In.env++m) bk'->a.defers=[]/\∃v,(results fn a.tmps).run P w'=.ok v w'/\(Below w.heap.size w w'/\oZ M w' (.ret (out w.heap.size)) (.returned v)):=by
     intro hv;split at hv
     ·rename_i vs' l hq;obtain⟨us,hr,hrep⟩:=oF hs hq (pX hs _);refine⟨hs.df,_,gW fn a.tmps us hr,hs.below.below,?_⟩;rcases hv with hv | ⟨_,_,_,e,_⟩
      ·exact⟨us,rfl,ba.sub hv hrep⟩
      ·cases e
     ·exact hv.elim
    cases ex with
    | normal=>exact key hv
    | ret=>exact key hv
    | exit id=>exact hv.elim
  ·exact h.elim
theorem Uy{W:Code->(Exit->Act->World->Prop)->Act->World->Prop}(R:ji P W){c c':Code}{ins:List (Nat×Arg)}{xs:List In}{N:Nat}{hints:Nat->Option Hint}{res:List ResultVar}{tail:Bool}{rs:List aN}(hm:P.follows .mixedOrders=true)(hin:ak In.Is (ins.map (·.2)) xs){n0:Nat}
  (h:vc P (ic P n0 (.ret rs)) (ae P N hints c' ins res none tail) (xs.map In.env) []) (hc:c'=c) {M:Nat->Prop} {w:World} {a:Act} {Q:Exit->Act->World->Prop} (hn:n0<=w.heap.size) (hM:cC M w) (hsz:a.tmps.size=N) (hdf:a.defers=[])
  (hv:ba M w (xs.map In.ty) (ins.map fun p=>a.tmps.getD p.1 undef))
  (hR:∀e a' w' us,aU1 tail e=true->Below w.heap.size w w'->a'.tmps.size=N->a'.defers=[]->(res.mapM (gM a'.tmps)).run P w'=.ok us w'->ba M w' rs us->Q (pY e) a' w'):W c Q a w:=by
 subst hc;have hil:xs.length=ins.length:=by have:=hin.length;simpa using this.symm
 refine sA R (M0:=⟨M,⟨0,undef,#[]⟩⟩) (w0:=w) hm c' 0 0 0 ins.length _ [] _ (xs.map In.env) [] h (by simpa using hil) (by intro x hx;cases hx) (aa _) (fun _=>⟨0,undef,#[]⟩) a w _ (af0 hin hM hsz hdf hv) ?_ (ic.ce2 hn) ?_
 ·intro c v a w' hp;rcases hp with hp | ⟨_,_,_,e,_⟩
  ·exact hp.elim
  ·cases e
 ·intro ex nb s dec m bk' ρ a' w' _ _ hv2 _ hs;replace hv2:vc P (ic P n0 (.ret rs)) (af6 P res tail ex s) (xs.map In.env++m) bk':=hv2;unfold af6 at hv2;split at hv2
  ·rename_i hex;split at hv2
   ·rename_i vs' l hq;obtain⟨us,hr,hrep⟩:=oF hs hq (pX hs _);rcases hv2 with hv2 | ⟨_,_,_,e,_⟩
    ·exact hR ex a' w' us hex hs.below.below hs.sz hs.df hr (ba.sub hv2 hrep)
    ·cases e
   ·exact hv2.elim
  ·exact hv2.elim
theorem bU{W:Code->(Exit->Act->World->Prop)->Act->World->Prop}(R:ji P W){c c':Code}{ins:List (Nat×Arg)}{xs:List In}{N:Nat}{hints:Nat->Option Hint}{res:List ResultVar}{rs:List aN}(hm:P.follows .mixedOrders=true)(hin:ak In.Is (ins.map (·.2)) xs){n0:Nat}
  (h:vc P (ic P n0 (.ret rs)) (ae P N hints c' ins res none false) (xs.map In.env) []) (hc:c'=c) {M:Nat->Prop} {w:World} {a:Act} {Q:Exit->Act->World->Prop} (hn:n0<=w.heap.size) (hM:cC M w) (hsz:a.tmps.size=N) (hdf:a.defers=[])
  (hv:ba M w (xs.map In.ty) (ins.map fun p=>a.tmps.getD p.1 undef))
  (hR:∀a' w' us,Ag (wr c) a a'->Below w.heap.size w w'->a'.tmps.size=N->a'.defers=[]->(res.mapM (gM a'.tmps)).run P w'=.ok us w'->ba M w' rs us->Q .normal a' w'):W c Q a w:=by
 refine Uy (W:=Wf W) R.xG (Q:=fun e a' w'=>e=.normal/\∃us,Below w.heap.size w w'/\a'.tmps.size=N/\a'.defers=[]/\(res.mapM (gM a'.tmps)).run P w'=.ok us w'/\ba M w' rs us) hm hin h hc hn hM hsz hdf hv ?_ Q ?_ ?_
 ·intro e a' w' us he h1 h2 h3 h4 h5;refine⟨?_,us,h1,h2,h3,h4,h5⟩;cases e with
  | normal=>rfl
  | exit id=>cases he
  | ret=>cases he
 ·rintro⟨_,_,he,_⟩;cases he
 ·rintro e a' w' hag ⟨rfl,us,h1,h2,h3,h4,h5⟩;exact hR a' w' us hag h1 h2 h3 h4 h5
end
section
variable{P:Program}
theorem bh6{p q:Out->Prop}(h:∀o,p o->q o):∀(t:Tr)(τ:Env)(bk:List (List aN->Prop)),vc P p t τ bk->vc P q t τ bk:=by
 intro t
 induction t with
 | fail=>intro τ bk h;exact h.elim
 | need nd op ty last k ih=>
   rintro τ bk (⟨news,h1,h2,h3⟩ | ⟨h1,c,h2,h3⟩ | ⟨f,args,sh,news,h1,h2,h3,h4,h5⟩)
   ·exact .inl ⟨news,h1,h2,ih _ _ h3⟩
   ·exact .inr (.inl ⟨h1,c,h2,h _ h3⟩)
   ·exact .inr (.inr ⟨f,args,sh,news,h1,h2,h3,h _ h4,ih _ _ h5⟩)
 | split c kt kf iht ihf=>
   rintro τ bk ⟨β,h1,h2,h3⟩;exact⟨β,h1,fun e=>iht _ _ (h2 e),fun e=>ihf _ _ (h3 e)⟩
 | ret vs=>intro τ bk hv;exact h _ hv
 | retr vs cid=>rintro τ bk ⟨ts,h1,h2⟩;exact⟨ts,h1,h _ h2⟩
 | pan x=>rintro τ bk ⟨h1,h2⟩;exact⟨h _ h1,h2⟩
 | loop d inits k ih=>
   rintro τ bk ⟨G,vf,μ,g0,h1,h2,h3⟩;exact⟨G,vf,μ,g0,h1,h2,fun g=>ih _ _ (h3 g)⟩
 | back d cP=>intro τ bk h;exact h
theorem uV{n0:Nat}{out:Out}{t:Tr}{τ:Env}{bk:List (List aN->Prop)}(h:vc P (fun o=>az o out) t τ bk):vc P (ic P n0 out) t τ bk:=bh6 (fun o h=>.inl h) t τ bk h
theorem LG{n0:Nat}{vs:List SW}{rs:List aN}{τ:Env}{bk:List (List aN->Prop)}(h:vs.map (oG τ)=rs):vc P (ic P n0 (.ret rs)) (.ret vs) τ bk:=.inl (by rw[<-h];exact aZ.refl _)
theorem pO.WR{f:FuncId}{args:List aN}{E sz:Nat}{ts:List (List aC)}(h:pO P f args fun n0=>[.one (.own n0 E sz ts)]):aU P f args (.ret [.one (.slice sz ts)]):=
 ⟨h.1,fun M w vs hM hv=>(h.2 M w vs hM hv).mono fun e w' ⟨h1,us,h2,h3⟩=>by
  match us,h3 with
  | [u],h3=>exact⟨h1,[u],h2,aC.own.slice h3.1,trivial⟩
  | [],h3=>exact h3.elim
  | _::_::_,h3=>exact h3.2.elim⟩
theorem aU9{W:Code->(Exit->Act->World->Prop)->Act->World->Prop}(R:ji P W){c c':Code}{ins:List (Nat×Arg)}{xs:List In}{N t0 E sz tr:Nat}{hints:Nat->Option Hint}{res:List ResultVar}{ts ts':List (List aC)}{rs:List aN}(hm:P.follows .mixedOrders=true)(hin:ak In.Is (ins.map (·.2)) xs)
  (h:vc P (fun o=>o=.retr rs ts') (nf P N hints c' ins t0 E sz tr res) (xs.map In.env++[.rows ts]) []) (hc:c'=c) {M:Nat->Prop} {w:World} {a:Act} {Q:Exit->Act->World->Prop} {v:Value} {vs:List Value} {base:Nat}
  (hM:cC (fun k=>M k\/v.ownBlock=some k) w) (hMd:∀k,M k->v.ownBlock≠some k) (hsz:a.tmps.size=N) (hdf:a.defers=[])
  (hv:ba (fun k=>M k\/v.ownBlock=some k) w (xs.map In.ty) (ins.map fun p=>a.tmps.getD p.1 undef)) (ht0:a.tmps.getD t0 undef=v) (hrow:w.ownsRow base E sz v ts.length vs) (hts:∀t∈ts,t.length=sz) (hrep:ai (fun k=>M k\/v.ownBlock=some k) w ts.flatten vs)
  (hR:∀a' w' us v' vs',w.grownBy w' v.ownBlock->a'.tmps.size=N->a'.defers=[]->(res.mapM (gM a'.tmps)).run P w'=.ok us w'->a'.tmps.getD tr undef=v'->w'.ownsRow 0 E sz v' ts'.length vs'->(∀k,v'.ownBlock=some k->w.heap.size<=k\/v.ownBlock=some k) ->
   ba (fun k=>M k\/v'.ownBlock=some k) w' rs us->ai (fun k=>M k\/v'.ownBlock=some k) w' ts'.flatten vs'->Q .normal a' w'):W c Q a w:=by
 subst hc;have hil:xs.length=ins.length:=by have:=hin.length;simpa using this.symm
 have hv1:v.oneCell'=true:=by
  rcases hrow.2 with⟨hv,_⟩ | ⟨g,cap,cur,hv,_⟩<;>rw[hv]<;>rfl
 have holt:∀k,v.ownBlock=some k->k<w.heap.size:=fun k hk=>(hrow.lt k hk).2
 have hrow0:w.ownsRow 0 E sz v ts.length vs:=by
  refine⟨hrow.1,?_⟩;rcases hrow.2 with hn | ⟨g,cap,cur,hv,hbg,rest⟩
  ·exact .inl hn
  ·exact .inr ⟨g,cap,cur,hv,cz _,rest⟩
 refine sA R (M0:=⟨M,⟨0,v,#[]⟩⟩) (w0:=w) hm c' 0 0 1 (ins.length+1) _ [] _ (xs.map In.env++[.rows ts]) [] h (by simp[hil]) (by intro x hx;cases hx) (aa _) (fun _=>⟨0,v,#[]⟩) a w _
  (XU (gh:=⟨0,v,#[]⟩) (t0:=t0) (sv:=.w (.one (.r 0))) (bx:=.row E sz ins.length) (y:=.rows ts) hin hM hMd hsz hdf hv rfl ⟨by simp[VX,St.b,look],ht0,by rw[ht0];exact hv1⟩ ⟨ts,vs,by rw[iB (by simp[hil]),aI,hil,fU];rfl,hrow0,hts,hrep⟩ holt) ?_ wO.noR ?_
 ·intro c v a w' hp;cases hp
 ·intro ex nb s dec m bk' ρ a' w' _ _ hv2 _ hs;replace hv2:vc P (fun o=>o=.retr rs ts') (XR P tr E sz res ex s) (xs.map In.env++[.rows ts]++m) bk':=hv2;cases ex with
  | exit id=>exact hv2.elim
  | ret=>exact hv2.elim
  | normal=>
    unfold XR at hv2;simp only at hv2;split at hv2
    ·rename_i b0 hbt;split at hv2
     ·rename_i E' sz' cid hbx;split at hv2
      ·rename_i vs2 l hq;split at hv2
       ·rename_i hc;obtain⟨rfl,rfl,hsb,hl⟩:=hc;obtain⟨ts2,hcid,hpo⟩:=hv2;replace hpo:Out.retr (vs2.map (oG _)) ts2=Out.retr rs ts':=hpo;simp only[Out.retr.injEq]at hpo;obtain⟨hrs,rfl⟩:=hpo;obtain⟨ts3,xs3,hcid3,hown3,hlen3,hrep3⟩:=hs.bx b0 _ hbx;rw[hcid]at hcid3;simp only[aW,aN.rows.injEq]at hcid3;subst hcid3;have htv:=hs.tm tr;rw[hbt]at htv;have hval:a'.tmps.getD tr undef=(ρ b0).val:=htv.2.1;have hown:own ρ b0 (.row E' sz' cid)=(ρ b0).val.ownBlock:=rfl
        have hS:cX ⟨M,⟨0,v,#[]⟩⟩ ρ s l (fun k=>M k\/(ρ b0).val.ownBlock=some k):=by
         refine⟨fun k hk=>?_,fun b x k h1 h2 h3 hk=>?_⟩
         ·rcases hk with hk | hk
          ·exact .inl hk
          ·exact .inr ⟨b0,_,hbx,hsb,hk⟩
         ·rcases hk with hk | hk
          ·exact hs.old k hk (hs.lo b x k h1 h2).1
          ·have:=hs.inj b b0 x _ _ h1 hbx h2 hk;subst this;rcases h3 with h3 | h3
           ·rw[hsb]at h3;cases h3
           ·have:l.contains b=true:=by simpa using h3
            rw[hl]at this;cases this
        obtain⟨us,hr,hrepr⟩:=oF hs hq hS;have hbel:=hs.below;refine hR a' w' us (ρ b0).val xs3 ⟨hbel.os,hbel.tape,hbel.output,hbel.size,fun k hk hne=>hbel.block k hk fun ho=>hne ?_⟩ hs.sz hs.df hr hval hown3 (fun k hk=>?_) (by rw[<-hrs];exact hrepr) (hrep3.mono hS.eJ)
        ·exact(show v.ownBlock=some k from ho).symm
        ·exact(hs.lo b0 _ k hbx hk).1
       ·exact hv2.elim
      ·exact hv2.elim
     ·exact hv2.elim
    ·exact hv2.elim
theorem sY{W:Code->(Exit->Act->World->Prop)->Act->World->Prop}(R:ji P W){c c':Code}{ins:List (Nat×Arg)}{xs:List In}{N t0 E sz tr:Nat}{hints:Nat->Option Hint}{res:List ResultVar}{ts ts':List (List aC)}{rs:List aN}(hm:P.follows .mixedOrders=true)(hin:ak In.Is (ins.map (·.2)) xs)
  (h:vc P (fun o=>o=.retr rs ts') (nf P N hints c' ins t0 E sz tr res) (xs.map In.env++[.rows ts]) []) (hc:c'=c) {M:Nat->Prop} {w:World} {a:Act} {Q:Exit->Act->World->Prop} {v:Value} {vs:List Value} {base:Nat}
  (hM:cC (fun k=>M k\/v.ownBlock=some k) w) (hMd:∀k,M k->v.ownBlock≠some k) (hsz:a.tmps.size=N) (hdf:a.defers=[])
  (hv:ba (fun k=>M k\/v.ownBlock=some k) w (xs.map In.ty) (ins.map fun p=>a.tmps.getD p.1 undef)) (ht0:a.tmps.getD t0 undef=v) (hrow:w.ownsRow base E sz v ts.length vs) (hts:∀t∈ts,t.length=sz) (hrep:ai (fun k=>M k\/v.ownBlock=some k) w ts.flatten vs)
  (hR:∀a' w' us v' vs',Ag (wr c) a a'->w.grownBy w' v.ownBlock->a'.tmps.size=N->a'.defers=[]->(res.mapM (gM a'.tmps)).run P w'=.ok us w'->a'.tmps.getD tr undef=v'->w'.ownsRow 0 E sz v' ts'.length vs'->(∀k,v'.ownBlock=some k->w.heap.size<=k\/v.ownBlock=some k) ->
   ba (fun k=>M k\/v'.ownBlock=some k) w' rs us->ai (fun k=>M k\/v'.ownBlock=some k) w' ts'.flatten vs'->Q .normal a' w'):W c Q a w:=by
 refine aU9 (W:=Wf W) R.xG (Q:=fun e a' w'=>e=.normal/\∃us v' vs',w.grownBy w' v.ownBlock/\a'.tmps.size=N/\a'.defers=[]/\(res.mapM (gM a'.tmps)).run P w'=.ok us w'/\a'.tmps.getD tr undef=v'/\w'.ownsRow 0 E sz v' ts'.length vs'/\(∀k,v'.ownBlock=some k->w.heap.size<=k\/v.ownBlock=some k) /\
   ba (fun k=>M k\/v'.ownBlock=some k) w' rs us/\ai (fun k=>M k\/v'.ownBlock=some k) w' ts'.flatten vs') hm hin h hc hM hMd hsz hdf hv ht0 hrow hts hrep ?_ Q ?_ ?_
 ·intro a' w' us v' vs' h1 h2 h3 h4 h5 h6 h7 h8 h9;exact⟨rfl,us,v',vs',h1,h2,h3,h4,h5,h6,h7,h8,h9⟩
 ·rintro⟨_,_,he,_⟩;cases he
 ·rintro e a' w' hag ⟨rfl,us,v',vs',h1,h2,h3,h4,h5,h6,h7,h8,h9⟩;exact hR a' w' us v' vs' hag h1 h2 h3 h4 h5 h6 h7 h8 h9
end
open Ord
def rO(k:Nat)(p:List Rat)(f:Rat)(r:List Rat)(j:Nat):List Rat:=r.mapIdx fun i a=>if k<=i/\i<j then a-f*p.getD i 0 else a
theorem kP(k:Nat)(p:List Rat)(f:Rat)(r:List Rat)(j:Nat):(rO k p f r j).length=r.length:=List.length_mapIdx
theorem pP(k:Nat)(p:List Rat)(f:Rat)(r:List Rat)(j i:Nat):(rO k p f r j)[i]?=r[i]?.map fun a=>if k<=i/\i<j then a-f*p.getD i 0 else a:=Re
theorem Xi(k:Nat)(p:List Rat)(f:Rat)(r:List Rat):rO k p f r k=r:=by
 apply fJ;intro i;rw[pP];cases r[i]? with
 | none=>rfl
 | some a=>rw[cK,aG (by omega)]
theorem aA9(k:Nat)(p:List Rat)(f:Rat)(r:List Rat){j i:Nat}(h:j<=i):(rO k p f r j).getD i 0=r.getD i 0:=by
 rw[fQ,fQ,pP];cases r[i]? with
 | none=>rfl
 | some a=>rw[cK,aG (by omega)]
theorem aj0(k:Nat)(p:List Rat)(f:Rat)(r:List Rat){j:Nat}(hk:k<=j):(rO k p f r j).set j (r.getD j 0-f*p.getD j 0)=rO k p f r (j+1):=by
 apply fJ;intro i;rw[mR,pP,pP,kP];by_cases h:j=i
 ·subst h;rw[aK rfl];by_cases hl:j<r.length
  ·rw[aK hl,fQ,bQ hl,cK,aK ⟨hk,by omega⟩];rfl
  ·rw[aG hl,eZ.2 (by omega)];rfl
 ·rw[aG h];cases r[i]? with
  | none=>rfl
  | some a=>
    rw[cK,cK];by_cases h1:k<=i/\i<j
    ·rw[aK h1,aK ⟨h1.1,by omega⟩]
    ·rw[aG h1,aG (by omega)]
theorem ak9{A B:Nat}{k:Nat}{p:List Rat}{f:Rat}{r:List Rat}{j:Nat}(hA:1<=A)(hr:∀a∈r,Fit A a)(hp:∀a∈p,Fit A a)(hf:Fit B f):∀a∈rO k p f r j,Fit (A+(B+A)+1) a:=by
 intro a ha;obtain⟨i,hi,rfl⟩:=QH.1 ha;have h:=pP k p f r j i;rw[bQ hi]at h;rw[kP]at hi;rw[bQ hi,cK]at h;have h:=dA h;rw[h];have h1:=hr _ (vg hi)
 have h2:Fit A (p.getD i 0):=by
  rw[fQ];cases hq:p[i]? with
  | none=>exact Fit.zero hA
  | some x=>exact hp x (ei hq)
 split
 ·exact h1.sub (hf.mul h2)
 ·exact h1.mono (by omega)
def ir(k:Nat)(p r:List Rat):List Rat:=if r.getD k 0=0 then r else rO k p (r.getD k 0/p.getD k 0) r r.length
theorem nR(k:Nat)(p r:List Rat):(ir k p r).length=r.length:=by
 unfold ir;split
 ·rfl
 ·exact kP _ _ _ _ _
def eK(k:Nat)(rows:List (List Rat))(n:Nat):List (List Rat):=rows.mapIdx fun i r=>if i<n/\i≠k then ir k (rows.getD k []) r else r
theorem ij(k:Nat)(rows:List (List Rat))(n:Nat):(eK k rows n).length=rows.length:=List.length_mapIdx
theorem ig(k:Nat)(rows:List (List Rat))(n i:Nat):(eK k rows n)[i]?=rows[i]?.map fun r=>if i<n/\i≠k then ir k (rows.getD k []) r else r:=Re
theorem OX(k:Nat)(rows:List (List Rat)):eK k rows 0=rows:=by
 apply fJ;intro i;rw[ig];cases rows[i]? with
 | none=>rfl
 | some a=>rw[cK,aG (by omega)]
theorem qH{k:Nat}{rows:List (List Rat)}{n i:Nat}{r:List Rat}(h:n<=i\/i=k)(hr:rows[i]?=some r):(eK k rows n)[i]?=some r:=by rw[ig,hr,cK,aG (by omega)]
theorem yF{k:Nat}{rows:List (List Rat)}{n:Nat}{r:List Rat}(hn:n≠k)(hr:rows[n]?=some r):(eK k rows n).set n (ir k (rows.getD k []) r)=eK k rows (n+1):=by
 apply fJ;intro i;rw[mR,ig,ig,ij];have hl:=(dM.1 hr).1;by_cases h:n=i
 ·subst h;rw[aK rfl,aK hl,hr,cK,aK ⟨by omega,hn⟩]
 ·rw[aG h];cases rows[i]? with
  | none=>rfl
  | some a=>
    rw[cK,cK];by_cases h1:i<n/\i≠k
    ·rw[aK h1,aK ⟨by omega,h1.2⟩]
    ·rw[aG h1,aG (by omega)]
theorem Py(k:Nat)(rows:List (List Rat)){n:Nat}(hn:n=k):eK k rows (n+1)=eK k rows n:=by
 apply fJ;intro i;rw[ig,ig];cases rows[i]? with
 | none=>rfl
 | some a=>
   rw[cK,cK];by_cases h1:i<n/\i≠k
   ·rw[aK h1,aK ⟨by omega,h1.2⟩]
   ·rw[aG h1,aG (by omega)]
structure Mh(m L A:Nat)(rows:List (List Rat)):Prop where
 len:rows.length=m
 row:∀r∈rows,r.length=L/\∀a∈r,Fit A a
theorem Mh.mono{m L A B:Nat}{rows:List (List Rat)}(h:Mh m L A rows)(hAB:A<=B):Mh m L B rows:=⟨h.len,fun r hr=>⟨(h.row r hr).1,fun a ha=>((h.row r hr).2 a ha).mono hAB⟩⟩
theorem Mh.get{m L A:Nat}{rows:List (List Rat)}(h:Mh m L A rows){i:Nat}(hi:i<m):∃r,rows[i]?=some r/\rows.getD i []=r/\r.length=L/\∀a∈r,Fit A a:=by
 have hl:=h.len;have hi':i<rows.length:=by omega
 refine⟨rows[i],bQ hi',?_,(h.row _ (vg hi')).1,(h.row _ (vg hi')).2⟩;rw[fQ,bQ hi'];rfl
theorem Lc{A:Nat}{p:List Rat}(hA:1<=A)(hp:∀a∈p,Fit A a)(i:Nat):Fit A (p.getD i 0):=by
 rw[fQ];cases hq:p[i]? with
 | none=>exact Fit.zero hA
 | some x=>exact hp x (ei hq)
theorem UO{A:Nat}{k:Nat}{p r:List Rat}(hA:1<=A)(hr:∀a∈r,Fit A a)(hp:∀a∈p,Fit A a):∀a∈ir k p r,Fit (4*A+1) a:=by
 intro a ha;unfold ir at ha;split at ha
 ·exact(hr a ha).mono (by omega)
 ·exact(ak9 hA hr hp ((Lc hA hr k).div (Lc hA hp k)) a ha).mono (by omega)
theorem Mh.elim{m L A:Nat}{rows:List (List Rat)}(h:Mh m L A rows)(hA:1<=A){k:Nat}(hk:k<m)(n:Nat):Mh m L (4*A+1) (eK k rows n):=by
 obtain⟨p,_,hp,hpl,hpf⟩:=h.get hk;refine⟨(ij k rows n).trans h.len,fun r hr=>?_⟩;obtain⟨i,hi,rfl⟩:=QH.1 hr;have he:=ig k rows n i;rw[bQ hi]at he;rw[ij]at hi;rw[bQ hi,cK]at he;rw[dA he,hp];have h1:=h.row _ (vg hi);split
 ·exact⟨(nR _ _ _).trans h1.1,UO hA h1.2 hpf⟩
 ·exact⟨h1.1,fun a ha=>(h1.2 a ha).mono (by omega)⟩
def mo(rows:List (List Rat))(k i:Nat):List (List Rat):=(rows.set k (rows.getD i [])).set i (rows.getD k [])
theorem mD(rows:List (List Rat))(k i:Nat):(mo rows k i).length=rows.length:=by rw[mo,bJ,bJ]
theorem Mh.swap{m L A:Nat}{rows:List (List Rat)}(h:Mh m L A rows){k i:Nat}(hk:k<m)(hi:i<m):Mh m L A (mo rows k i):=by
 obtain⟨p,hp1,hp,hpl,hpf⟩:=h.get hk;obtain⟨q,hq1,hq,hql,hqf⟩:=h.get hi;refine⟨(mD rows k i).trans h.len,fun r hr=>?_⟩;rw[mo,hp,hq]at hr;rcases oB hr with hr | rfl
 ·rcases oB hr with hr | rfl
  ·exact h.row r hr
  ·exact⟨hql,hqf⟩
 ·exact⟨hpl,hpf⟩
def bO5(k:Nat)(rows:List (List Rat)):Option Nat:=(rows.drop k).findIdx? fun r=>decide (r.getD k 0≠0)
def oY:Nat->Nat->List (List Rat)->Option (List (List Rat))
 | 0,_,rows=>some rows
 | f+1,k,rows=>match bO5 k rows with
   | none=>none
   | some i=>oY f (k+1) (eK k (mo rows k (k+i)) rows.length)
def pG(rows:List (List Rat))(k:Nat):Rat:=((rows.getD k []).getD ((rows.getD k []).length-1) 0)/((rows.getD k []).getD k 0)
def lu(rows:List (List Rat)):Option (List Rat):=(oY rows.length 0 rows).map fun rs=>(List.range rs.length).map (pG rs)
open Go Go.Proofs Tryz Ord
def bq8:Tr:=jN 86 1 1 1 1 2 0 5 6 (kZ 2 2 2)
theorem TT:aV prog f198 ck [.v (some 3),.v (some 3)]=bq8:=by kernel_rfl
def ym:Tr:=.retr [] 20
def yU:Tr:=.need (.strow 19 3 (.u 4 0) 0 [(.u 17 0),(.u 17 1),(.u 17 2)]) (.store 46 (.tmp 35) (.tmp 32)) 0 false ym
def yX:Tr:=.need (.idx 19 (.u 4 0)) (.indexAddr 28 (.tmp 9) (.tmp 11)) 0 false yU
def yj:Tr:=.need (.strow 18 3 (.u 2 0) 0 [(.u 15 0),(.u 15 1),(.u 15 2)]) (.store 46 (.tmp 34) (.tmp 28)) 0 false yX
def yt:Tr:=.need (.idx 18 (.u 2 0)) (.indexAddr 28 (.tmp 7) (.tmp 8)) 0 false yj
def yi:Tr:=.need (.strow 0 3 (.u 3 0) 0 [(.u 7 0),(.u 7 1),(.u 7 2)]) (.store 46 (.tmp 33) (.tmp 16)) 0 false yt
def yV:Tr:=.need (.idx 0 (.u 3 0)) (.indexAddr 28 (.tmp 4) (.tmp 6)) 0 false yi
def ya:Tr:=.need (.prim [(W 16 0)] (some 3)) (.load 46 (.tmp 31)) 46 false yV
def yb:Tr:=.need (.prim [(W 1 0),(W 2 0)] none) (.indexAddr 28 (.tmp 29) (.tmp 30)) 0 false ya
def yq:Tr:=.need (.call 76 [(.agg [(U 13 0),(U 13 1),(U 13 2)]),(.agg [(U 14 0),(U 14 1),(U 14 2)])] [(some 3)]) (.call ⟨.value (.func 76),#[(.tmp 26),(.tmp 27)],#[46,46]⟩) 46 false yb
def yf:Tr:=.need (.call 113 [(WK (2))] [(some 3)]) (.call ⟨.value (.func 113),#[(.const (I3 (2)))],#[3]⟩) 46 false yq
def yc:Tr:=.need (.call 88 [(.agg [(U 10 0),(U 10 1),(U 10 2)]),(.agg [(U 12 0),(U 12 1),(U 12 2)])] [(some 3)]) (.call ⟨.value (.func 88),#[(.tmp 21),(.tmp 25)],#[46,46]⟩) 46 false yf
def DK:Tr:=.need (.prim [(W 11 0)] (some 3)) (.load 46 (.tmp 24)) 46 false yc
def Er:Tr:=.need (.prim [(W 1 0),(W 2 0)] none) (.indexAddr 28 (.tmp 22) (.tmp 23)) 0 false DK
def CC:Tr:=.need (.prim [(W 9 0)] (some 3)) (.load 46 (.tmp 20)) 46 false Er
def EN:Tr:=.need (.prim [(W 1 0),(W 8 0)] none) (.indexAddr 28 (.tmp 17) (.tmp 19)) 0 false CC
def CO:Tr:=.need (.prim [(W 2 0),(WK (1))] none) (.binOp .sub 3 (.tmp 18) (.const (I3 (1))) 3) 3 false EN
def BH:Tr:=.need (.prim [(W 6 0)] (some 3)) (.load 46 (.tmp 15)) 46 false CO
def Fi:Tr:=.need (.prim [(W 1 0),(W 5 0)] none) (.indexAddr 28 (.tmp 12) (.tmp 14)) 0 false BH
def Dq:Tr:=.need (.prim [(W 2 0),(WK (1))] none) (.binOp .sub 3 (.tmp 13) (.const (I3 (1))) 3) 3 false Fi
def DS:Tr:=.need (.prim [(W 2 0),(WK (1))] none) (.binOp .add 3 (.tmp 10) (.const (I3 (1))) 3) 3 false Dq
def Eb:Tr:=.need (.prim [(W 2 0),(WK (1))] none) (.binOp .sub 3 (.tmp 5) (.const (I3 (1))) 3) 3 false DS
theorem Mw:xt prog f204 (fun _=>none) [.lent 46 3,.ref 1,.ref 1]=Eb:=by kernel_rfl
def xm:Tr:=.retr [] 3
def xA:Tr:=.need (.strow 0 3 (.u 1 0) 0 [(.u 2 0),(.u 2 1),(.u 2 2)]) (.store 46 (.tmp 6) (.tmp 5)) 0 false xm
def xY:Tr:=.need (.idx 0 (.u 1 0)) (.indexAddr 28 (.tmp 3) (.tmp 4)) 0 false xA
def wo:Tr:=.need (.call 113 [(WK (1))] [(some 3)]) (.call ⟨.value (.func 113),#[(.const (I3 (1)))],#[3]⟩) 46 true xY
theorem BT:xt prog f196 (fun _=>none) [.lent 46 3,.ref 1]=wo:=by kernel_rfl
def bu8:Tr:=re 1 0 0 28 10 (bW 6 3 46 11 (ax2 0 0 3 (aJ4 0 0 5 13 9 (ax2 8 1 4 (aJ4 8 1 7 14 12 (.retr [] 9))))))
def bA6:Tr:=re 1 0 0 28 5 (bW 2 3 46 6 (ta 113 2 3 3 46 (pE 76 3 3 1 3 2 4 7 8 bu8)))
theorem Od:xt prog f134 (fun _=>none) [.lent 46 3,.ref 1]=bA6:=by kernel_rfl
def yn:Tr:=.retr [] 14
def yd:Tr:=.need (.strow 13 3 (.u 4 0) 0 [(.u 12 0),(.u 12 1),(.u 12 2)]) (.store 46 (.tmp 23) (.tmp 21)) 0 false yn
def yh:Tr:=.need (.idx 13 (.u 4 0)) (.indexAddr 28 (.tmp 7) (.tmp 9)) 0 false yd
def yg:Tr:=.need (.strow 0 3 (.u 3 0) 0 [(.u 7 0),(.u 7 1),(.u 7 2)]) (.store 46 (.tmp 22) (.tmp 14)) 0 false yh
def yk:Tr:=.need (.idx 0 (.u 3 0)) (.indexAddr 28 (.tmp 4) (.tmp 6)) 0 false yg
def Dj:Tr:=.need (.call 76 [(.agg [(U 10 0),(U 10 1),(U 10 2)]),(.agg [(U 11 0),(U 11 1),(U 11 2)])] [(some 3)]) (.call ⟨.value (.func 76),#[(.tmp 19),(.tmp 20)],#[46,46]⟩) 46 true yk
def Bu:Tr:=.need (.call 113 [(WK (2))] [(some 3)]) (.call ⟨.value (.func 113),#[(.const (I3 (2)))],#[3]⟩) 46 true Dj
def AZ:Tr:=.need (.prim [(W 9 0)] (some 3)) (.load 46 (.tmp 18)) 46 false Bu
def CE:Tr:=.need (.prim [(W 1 0),(W 8 0)] none) (.indexAddr 28 (.tmp 15) (.tmp 17)) 0 false AZ
def DX:Tr:=.need (.prim [(W 2 0),(WK (2))] none) (.binOp .sub 3 (.tmp 16) (.const (I3 (2))) 3) 3 false CE
def EX:Tr:=.need (.prim [(W 6 0)] (some 3)) (.load 46 (.tmp 13)) 46 false DX
def Bi:Tr:=.need (.prim [(W 1 0),(W 5 0)] none) (.indexAddr 28 (.tmp 10) (.tmp 12)) 0 false EX
def Cs:Tr:=.need (.prim [(W 2 0),(WK (2))] none) (.binOp .sub 3 (.tmp 11) (.const (I3 (2))) 3) 3 false Bi
def Cw:Tr:=.need (.prim [(W 2 0),(WK (1))] none) (.binOp .sub 3 (.tmp 8) (.const (I3 (1))) 3) 3 false Cs
def AK:Tr:=.need (.prim [(W 2 0),(WK (2))] none) (.binOp .sub 3 (.tmp 5) (.const (I3 (2))) 3) 3 false Cw
theorem Nh:xt prog f135 (fun _=>none) [.lent 46 3,.ref 1,.ref 1]=AK:=by kernel_rfl
def bI8:Tr:=bA 0 0 1 0 28 4 5 (bW 2 3 46 6 (EK 23 3 7 3 (my 4 0 3 8 (cH 5))))
theorem Xd:aV prog f201 ck [.v none,.ref 1]=bI8:=by kernel_rfl
def uN:Tr:=.ret [(W 4 0)]
def tQ:Tr:=.back 0 [(.w (W 3 0)),(.w (W 9 0))]
def uF:Tr:=.need (.prim [(W 4 0),(WK (1))] none) (.binOp .add 3 (.tmp 8) (.const (I3 (1))) 3) 3 false tQ
def tc:Tr:=.split (.u 8 0) uN uF
def uC:Tr:=.need (.callv (.u 1 0) [(W 7 0)] [none]) (.call ⟨.value (.tmp 11),#[(.tmp 15)],#[28]⟩) 4 true tc
def tp:Tr:=.need (.prim [(W 6 0)] none) (.load 28 (.tmp 14)) 28 false uC
def uB:Tr:=.need (.prim [(W 0 0),(W 4 0)] none) (.indexAddr 197 (.tmp 12) (.tmp 13)) 0 false tp
def tU:Tr:=.ret [(WK (-1))]
def tg:Tr:=.split (.u 5 0) uB tU
def uT:Tr:=.need (.prim [(W 4 0),(W 2 0)] none) (.binOp .lss 3 (.tmp 8) (.tmp 7) 3) 0 false tg
def tj:Tr:=.loop 0 [(.w (WK (0))),(.w (WK (0)))] uT
def uQ:Tr:=.need (.prim [(W 0 0)] none) (.call ⟨.builtin .len,#[(.tmp 6)],#[197]⟩) 3 false tj
theorem xP:aV prog f200 ck [.v none,.v none]=uQ:=by kernel_rfl
def OP:Tr:=hx154Q 
def bP0:Tr:=aR 5 0 (al 1 0 14 28 (al 0 0 16 28 (oe .eql 3 15 17 6 0 7 0 4 (aR 8 0 (.need (.call 90 [(W 0 0),(tF true)] [none]) (.call ⟨.value (.func 90),#[(tT 21),(.const (.bool true))],#[28,4]⟩) 4 true (cH 9)) OP)))) OP
def bG9:Tr:=al 0 0 5 28 (nG 2 2 6 (aR 3 0 (al 0 0 9 28 (qS .leq 3 10 40 4 0 4 bP0)) OP))
theorem as4:aV prog f129 ck [.v none,.v none]=bG9:=by kernel_rfl
theorem Vx(a b:Rat)(A B:Nat)(ha:Fit A a)(hb:Fit B b)(h:A+B<=34359738000:=by omega):aU prog 198 [(qT a:aN),(qT b:aN)] (.ret [qT (b-a)]):=by
 refine dL func198 TT ?_;apply aA (kq b a B A hb ha);exact aL
def an6(h:List Rat)(i:Nat)(r:List Rat):List Rat:=((r.set (i-1) (h.getD (i-1) 0)).set i ((h.getD (i-1) 0+h.getD i 0)*((2:Int):Rat))).set (i+1) (h.getD i 0)
theorem sI{α:Type}{l:List α}{i:Nat}(hi:i<l.length:=by omega):∃x,l[i]?=some x:=⟨_,bQ hi⟩
theorem Ob(h:List Rat)(i A:Nat)(r:List Rat)(hA1:1<=A)(hh:∀a∈h,Fit A a)(hi:1<=i)(hil:i<h.length)(hir:i+1<r.length)(hA:A<=1000000000:=by omega)(hs:h.length<1099511627776:=by omega):lO prog 204 46 3 [] [(.one (.aw ([sQ h])):aN),(.one (.aw ([.int .i64 (i:Int)])):aN)] (rQ r) [] (rQ (an6 h i r)):=by
 refine ou (a1:=[]) (a2:=[.ref 1,.ref 1]) (i1:=[]) (i2:=[.ref ([sQ h]),.ref ([.int .i64 (i:Int)])]) (hints:=(fun _=>none)) fo (by kernel_rfl) func204 trivial ⟨rfl,rfl,trivial⟩ (by kernel_rfl) ?_ ?_ ?_ ?_
 ·first | (simp[an6];done) | (intro t ht;obtain⟨a,_,rfl⟩:=dH.1 ht;rfl)
 ·first | (simp[an6];done) | (intro t ht;obtain⟨a,_,rfl⟩:=dH.1 ht;rfl)
 ·first | (simp[an6];done) | (intro t ht;obtain⟨a,_,rfl⟩:=dH.1 ht;rfl)
 dsimp only[aE,aF];rw[Mw];dsimp only[List.map,In.env,aE,aF];obtain⟨x1,hx1⟩:=sI (l:=r) (i:=i-1);obtain⟨x2,hx2⟩:=sI (l:=r.set (i-1) (h.getD (i-1) 0)) (i:=i) (by rw[bJ];omega);obtain⟨x3,hx3⟩:=sI (l:=(r.set (i-1) (h.getD (i-1) 0)).set i ((h.getD (i-1) 0+h.getD i 0)*((2:Int):Rat))) (i:=i+1) (by rw[bJ,bJ];omega);apply vn (aH (by omega) (by omega));apply vn (aB (by omega) (by omega));apply vn (aH (by omega) (by omega));dsimp only[aE,aF];apply vn (aJ ay (m:=i-1) (by omega) (by omega) (aX (show i-1<h.length by omega)));apply vn (aQ cM (by decide) (by simp) (.inl rfl));apply vn (aH (by omega) (by omega));dsimp only[aE,aF];apply vn (aJ ay (m:=i-1) (by omega) (by omega) (aX (show i-1<h.length by omega)));apply vn (aQ cM (by decide) (by simp) (.inl rfl));dsimp only[aE,aF];apply vn (aJ ay (m:=i) (by omega) (av i) (aX (show i<h.length by omega)));apply vn (aQ cM (by decide) (by simp) (.inl rfl));apply aA (ph _ _ A A (aD hh _ hA1) (aD hh _ hA1));apply aA (ee 2);dsimp only[aE,aF];apply aA (jJ _ _ (A+A+1) 62 ((aD hh _ hA1).add (aD hh _ hA1)) (Fit.int (by omega) (by omega)));dsimp only[aE,aF];apply vn (aJ ay (m:=i) (by omega) (av i) (aX (show i<h.length by omega)));apply vn (aQ cM (by decide) (by simp) (.inl rfl));refine br rfl rfl (by omega) (by omega) ?_;refine iJ (f:=qC) (d':=h.getD (i-1) 0) rfl rfl (by omega) (show((i:Int)-1).toNat=i-1 by omega) hx1 rfl ?_;refine br rfl rfl (by omega) (by rw[bJ];omega) ?_;refine iJ (f:=qC) (d':=(h.getD (i-1) 0+h.getD i 0)*((2:Int):Rat)) rfl rfl (by omega) (av i) hx2 rfl ?_;dsimp only[aE,aF];refine br rfl rfl (by omega) (by rw[bJ,bJ];omega) ?_;refine iJ (f:=qC) (d':=h.getD i 0) rfl rfl (by omega) (show((i:Int)+1).toNat=i+1 by omega) hx3 rfl ?_;dsimp only[aE,aF];exact mA rfl rfl
theorem AQ(i:Nat)(r:List Rat)(hir:i<r.length)(hr:r.length<1099511627776):lO prog 196 46 3 [] [(.one (.aw ([.int .i64 (i:Int)])):aN)] (rQ r) [] (rQ (r.set i ((1:Int):Rat))):=by
 refine ou (a1:=[]) (a2:=[.ref 1]) (i1:=[]) (i2:=[.ref ([.int .i64 (i:Int)])]) (hints:=(fun _=>none)) fo (by kernel_rfl) func196 trivial ⟨rfl,trivial⟩ (by kernel_rfl) ?_ ?_ ?_ ?_
 ·first | (simp;done) | (intro t ht;obtain⟨a,_,rfl⟩:=dH.1 ht;rfl)
 ·first | (simp;done) | (intro t ht;obtain⟨a,_,rfl⟩:=dH.1 ht;rfl)
 ·first | (simp;done) | (intro t ht;obtain⟨a,_,rfl⟩:=dH.1 ht;rfl)
 dsimp only[aE,aF];rw[BT];dsimp only[List.map,In.env,aE,aF];obtain⟨x1,hx1⟩:=sI (l:=r) (i:=i) hir;apply aA (ee 1);refine br rfl rfl (by omega) (by omega) ?_;refine iJ (f:=qC) (d':=((1:Int):Rat)) rfl rfl (by omega) (av i) hx1 rfl ?_;dsimp only[aE,aF];exact mA rfl rfl
def leR(h:List Rat)(r:List Rat):List Rat:=(r.set 0 (h.getD 0 0*((2:Int):Rat))).set 1 (h.getD 0 0)
theorem Qs(h:List Rat)(A:Nat)(r:List Rat)(hA1:1<=A)(hA:A<=1000000000)(hh:∀a∈h,Fit A a)(hir:1<r.length)(hs:h.length<1099511627776:=by omega)(hil:0<h.length:=by omega):lO prog 134 46 3 [] [(.one (.aw ([sQ h])):aN)] (rQ r) [] (rQ (leR h r)):=by
 refine ou (a1:=[]) (a2:=[.ref 1]) (i1:=[]) (i2:=[.ref ([sQ h])]) (hints:=(fun _=>none)) fo (by kernel_rfl) func134 trivial ⟨rfl,trivial⟩ (by kernel_rfl) ?_ ?_ ?_ ?_
 ·first | (simp[leR];done) | (intro t ht;obtain⟨a,_,rfl⟩:=dH.1 ht;rfl)
 ·first | (simp[leR];done) | (intro t ht;obtain⟨a,_,rfl⟩:=dH.1 ht;rfl)
 ·first | (simp[leR];done) | (intro t ht;obtain⟨a,_,rfl⟩:=dH.1 ht;rfl)
 dsimp only[aE,aF];rw[Od];dsimp only[List.map,In.env,aE,aF];obtain⟨x1,hx1⟩:=sI (l:=r) (i:=0);obtain⟨x2,hx2⟩:=sI (l:=r.set 0 (h.getD 0 0*((2:Int):Rat))) (i:=1) (by rw[bJ];omega);apply vn (aJ ay (m:=0) (by omega) rfl (aX (show 0<h.length by omega)));apply vn (aQ cM (by decide) (by simp) (.inl rfl));apply aA (ee 2);apply aA (jJ _ _ A 62 (aD hh _ hA1) (Fit.int (by omega) (by omega)));dsimp only[aE,aF];apply vn (aJ ay (m:=0) (by omega) rfl (aX (show 0<h.length by omega)));apply vn (aQ cM (by decide) (by simp) (.inl rfl));refine br rfl rfl (by omega) (by omega) ?_;refine iJ (f:=qC) (d':=h.getD 0 0*((2:Int):Rat)) rfl rfl (by omega) rfl hx1 rfl ?_;refine br rfl rfl (by omega) (by rw[bJ];omega) ?_;refine iJ (f:=qC) (d':=h.getD 0 0) rfl rfl (by omega) rfl hx2 rfl ?_;dsimp only[aE,aF];exact mA rfl rfl
def riR(h:List Rat)(n:Nat)(r:List Rat):List Rat:=(r.set (n-2) (h.getD (n-2) 0)).set (n-1) (h.getD (n-2) 0*((2:Int):Rat))
theorem Qc(h:List Rat)(n A:Nat)(r:List Rat)(hA1:1<=A)(hA:A<=1000000000)(hh:∀a∈h,Fit A a)(hn:2<=n)(hir:n<=r.length)(hs:h.length<1099511627776:=by omega)(hil:n-2<h.length:=by omega):lO prog 135 46 3 [] [(.one (.aw ([sQ h])):aN),(.one (.aw ([.int .i64 (n:Int)])):aN)] (rQ r) [] (rQ (riR h n r)):=by
 refine ou (a1:=[]) (a2:=[.ref 1,.ref 1]) (i1:=[]) (i2:=[.ref ([sQ h]),.ref ([.int .i64 (n:Int)])]) (hints:=(fun _=>none)) fo (by kernel_rfl) func135 trivial ⟨rfl,rfl,trivial⟩ (by kernel_rfl) ?_ ?_ ?_ ?_
 ·first | (simp[riR];done) | (intro t ht;obtain⟨a,_,rfl⟩:=dH.1 ht;rfl)
 ·first | (simp[riR];done) | (intro t ht;obtain⟨a,_,rfl⟩:=dH.1 ht;rfl)
 ·first | (simp[riR];done) | (intro t ht;obtain⟨a,_,rfl⟩:=dH.1 ht;rfl)
 dsimp only[aE,aF];rw[Nh];dsimp only[List.map,In.env,aE,aF];obtain⟨x1,hx1⟩:=sI (l:=r) (i:=n-2);obtain⟨x2,hx2⟩:=sI (l:=r.set (n-2) (h.getD (n-2) 0)) (i:=n-1) (by rw[bJ];omega);apply vn (aH (by omega) (by omega));apply vn (aH (by omega) (by omega));apply vn (aH (by omega) (by omega));dsimp only[aE,aF];apply vn (aJ ay (m:=n-2) (by omega) (by omega) (aX (show n-2<h.length by omega)));apply vn (aQ cM (by decide) (by simp) (.inl rfl));apply vn (aH (by omega) (by omega));dsimp only[aE,aF];apply vn (aJ ay (m:=n-2) (by omega) (by omega) (aX (show n-2<h.length by omega)));apply vn (aQ cM (by decide) (by simp) (.inl rfl));apply aA (ee 2);apply aA (jJ _ _ A 62 (aD hh _ hA1) (Fit.int (by omega) (by omega)));dsimp only[aE,aF];refine br rfl rfl (by omega) (by omega) ?_;refine iJ (f:=qC) (d':=h.getD (n-2) 0) rfl rfl (by omega) (show((n:Int)-2).toNat=n-2 by omega) hx1 rfl ?_;refine br rfl rfl (by omega) (by rw[bJ];omega) ?_;refine iJ (f:=qC) (d':=h.getD (n-2) 0*((2:Int):Rat)) rfl rfl (by omega) (show((n:Int)-1).toNat=n-1 by omega) hx2 rfl ?_;dsimp only[aE,aF];exact mA rfl rfl
theorem We(r:List Rat)(k:Nat)(hk:k<r.length)(hs:r.length<1099511627776):aU prog 201 [(.one (sQ r):aN),(.one (.aw ([.int .i64 (k:Int)])):aN)] (.ret [.one (.bool (decide (r.getD k 0≠0)))]):=by
 refine dvr (ins:=[.v (.one (sQ r)),.ref ([.int .i64 (k:Int)])]) func201 Xd ?_;apply vn (aJ ay (m:=k) (by omega) (av k) (aX hk));apply vn (aQ cM (by decide) (by simp) (.inl rfl));apply aA (lM _);apply vn fC;rw[show decide ((r.getD k 0).num.sign≠0)=decide (r.getD k 0≠0) by rw[kF];exact not_congr sign_zero];exact aL
theorem xH(e:List (List Rat))(g:Nat)(caps:List aC)(c:List Rat->Bool)(hc:∀p∈e,aU prog g (.one (sQ p)::caps.map .one) (.ret [.one (.bool (c p))]))(hs:e.length<1099511627776):aU prog 200 [(.one (eQ e):aN),(.one (.gp g caps):aN)] (.ret [.one (.int .i64 (kh c e 0))]):=by
 refine dL func200 xP ?_;apply vn (aP sC (aI _));refine bE {i:Nat // i<=e.length/\kh c e 0=kh c (e.drop i) i} (fun g=>[.one (.int .i64 0),.one (.int .i64 g.1)]) (fun g=>e.length-g.1) ⟨0,cz _,rfl⟩ aZ.rfl (fun _=>rfl) ?_;rintro⟨i,hi,hf⟩;dsimp only[aE,aF]at hi hf|-;apply vn aj;refine vs _ rfl ?_ ?_<;>intro h3
 ·obtain⟨p,hp⟩:∃p,e[i]?=some p:=⟨_,bQ (by omega)⟩
  have hdrop:e.drop i=p::e.drop (i+1):=by
   rw[jE (by omega),(dM.1 hp).2]
  rw[hdrop,kh]at hf;apply vn (aJ sC (by omega) (by omega) hp);apply vn (bg aI4);apply Dt (f:=g) (caps:=caps) rfl (hc p (ei hp)) rfl;dsimp only[aE,aF];refine jm (c p) rfl (fun h7=>?_) (fun h7=>?_)
  ·rw[hf,aK h7];exact aL
  apply vn (aB (by omega) (by omega));dsimp only[aE,aF];exact ab rfl ⟨⟨i+1,by omega,by rw[hf,aG (by simp[h7])]⟩,aZ.rfl,by show e.length-(i+1)<e.length-i;omega⟩
 rw[hf,lI (by omega),kh];exact aL
def QT(x y:List Rat):Bool:=decide (2<=x.length)&&(decide (x.length<=40)&&(decide (y.length=x.length)&&gT true x))
theorem Tv(x y:List Rat)(A:Nat)(hp:∀a∈x,Fit A a)(hA1:1<=A)(hl:x.length<1099511627776:=by omega)(hl2:y.length<1099511627776:=by omega)(hA:A<=1073741824:=by omega):aU prog 129 [(.one (sQ x):aN),(.one (sQ y):aN)] (.ret [.one (.bool (QT x y))]):=by
 refine dL func129 as4 ?_;apply vn (aP ay (aI _));apply vn iI;refine vs _ rfl ?_ ?_<;>intro h2
 ·apply vn (aP ay (aI _));apply vn jO;dsimp only[aE,aF];refine vs _ rfl ?_ ?_<;>intro h5
  ·apply vn (aP ay (aI _));apply vn (aP ay (aI _));apply vn bj;refine vs _ rfl ?_ ?_<;>intro h9
   ·apply aA (qU x true A hp hA1 hA hl);dsimp only[aE,aF];rw[QT,bV (show 2<=x.length by omega),bV (show x.length<=40 by omega),bV (show y.length=x.length by omega)];exact aL
   rw[QT,bV (show 2<=x.length by omega),bV (show x.length<=40 by omega),cE (show ¬y.length=x.length by omega)];exact aL
  rw[QT,bV (show 2<=x.length by omega),cE (show ¬x.length<=40 by omega)];exact aL
 rw[QT,cE (show ¬2<=x.length by omega)];exact aL
open Go Go.Proofs Go.RowKit Tryz Ord
attribute [local go_sem] Oper.semAt_some
def Gg:Tr:=.ret [(.one (.ref 0 [(.u 0 0),(.u 0 1),(.u 0 2)])),(.one (.c (.k (.slice none 0 0))))]
theorem VF:ae prog 19 (fun _=>none) (aM [0] (aO f133)) [(1,.v (some 3))] ([4,6].map ResultVar.tmp) none false=Gg:=by kernel_rfl
def JK:Tr:=.retr [] 3
def IW:Tr:=.need (.strow 2 3 (.u 0 0) 0 [(.u 1 0),(.u 1 1),(.u 1 2)]) (.store 46 (.tmp 14) (.tmp 13)) 0 false JK
def Hc:Tr:=.need (.idx 2 (.u 0 0)) (.indexAddr 28 (.tmp 11) (.tmp 12)) 0 false IW
theorem TB:nf prog 19 (fun _=>none) (aM [1,1,0] (aO f133)) [(0,.v none),(4,.ref 3)] 7 46 3 7 ([].map ResultVar.tmp)=Hc:=by kernel_rfl
theorem rS(t:Array Value)(n:Nat)(h:t.size=n):t=(List.ofFn fun i:Fin n=>t.getD i.1 undef).toArray:=by
 apply Array.ext
 ·simp[h]
 ·intro i h1 h2;simp[Array.getD,h1]
theorem bk5(t:Array Value)(h:t.size=19):t=#[t.getD 0 undef,t.getD 1 undef,t.getD 2 undef,t.getD 3 undef,t.getD 4 undef,t.getD 5 undef,t.getD 6 undef,t.getD 7 undef,t.getD 8 undef,t.getD 9 undef,t.getD 10 undef,t.getD 11 undef,t.getD 12 undef,t.getD 13 undef,t.getD 14 undef,t.getD 15 undef,t.getD 16 undef,t.getD 17 undef,t.getD 18 undef]:=(rS t 19 h).trans rfl
abbrev z3:List aC:=[.exact (.slice none 0 0),.bool false,.exact (.slice none 0 0)]
theorem bE6{c:Code}{Q:Exit->Act->World->Prop}{a:Act}{w:World}(h:c.wpIn Fence.wide 999 prog Q a w):c.wp prog Q a w:=cb.1 h
theorem bs4(right:Rat):vc prog (fun o=>az o (.ret [.one (.aw (qC right)),.one (.exact (.slice none 0 0))])) (ae prog 19 (fun _=>none) (aM [0] (aO f133)) [(1,.v (some 3))] ([4,6].map ResultVar.tmp) none false) ([.v (qT right)].map In.env) []:=by
 rw[VF];dsimp only[List.map,In.env,aE,aF];exact aL
theorem bL0(n:Nat)(right:Rat)(hn:n<1099511627776):vc prog (fun o=>o=.retr [] ((List.replicate (n+1) z3).set n (qC right))) (nf prog 19 (fun _=>none) (aM [1,1,0] (aO f133)) [(0,.v none),(4,.ref 3)] 7 46 3 7 ([].map ResultVar.tmp)) ([.v (.one (.int .i64 (n:Int))),.ref (qC right)].map In.env++[.rows (List.replicate (n+1) z3)]) []:=by
 rw[TB];dsimp only[List.map,In.env,aE,aF];refine qV rfl rfl (by omega) (by rw[eX];omega) ?_;refine Mf (ts:=List.replicate (n+1) z3) (us:=(List.replicate (n+1) z3).set n (qC right)) rfl rfl (by omega) (cells:=z3) (by rw[av,vQ,aK (by omega)]) (by rw[av];rfl) ?_;dsimp only[aE,aF];exact mA rfl rfl
theorem uu{α β:Type}{R:α->β->Prop}{a:α}{b:β}(h:R a b):∀{xs:List α}{ys:List β}(m:Nat),ak R xs ys->ak R (xs.set m a) (ys.set m b)
 | [],[],_,_=>trivial
 | _::_,_::_,0,⟨_,k⟩=>⟨h,k⟩
 | _::_,_::_,m+1,⟨j,k⟩=>⟨j,uu h m k⟩
theorem bM2(n:Nat)(right:Rat):ak (ak aC.Sub) ((List.replicate (n+1) z3).set n (qC right)) (rQ ((List.replicate (n+1) 0).set n right)):=by
 rw[rQ,sf,nq];exact uu ⟨aC.Sub.same,aC.Sub.same,aC.Sub.same,trivial⟩ n (rb nA (n+1))
theorem mk1{F:Fence}{nF:Nat}{ops:Array Oper}{rest:List Oper}{o:Oper}{a:Act}{Q:Exit->Act->World->Prop}{w:World}(hgd:o.guard=none)(l c:Operand)(ho:o.op=.makeSlice 28 l c)(m:Nat)(hl:a.eval l=.int .i64 (m:Int))(hc:a.eval c=.int .i64 (m:Int))
  (h:∀cur,cur.size=m*3->(∀M' w',ai M' w' (List.replicate m z3).flatten cur.toList)->wpListIn F nF prog ops Q rest (a.put o.dst (.slice (some ⟨w.heap.size,0,none⟩) m m)) (w.alloc (.cells cur 46))) (hm:m<=1099511627777:=by omega) :
  wpListIn F nF prog ops Q (o::rest) a w:=by
 obtain⟨ie,hu,hie,hies,hieb⟩:=bZ ay;obtain⟨ie',zv,hi,hz,hzc,_,hzs⟩:=fw (show oE prog 46=some [.slice none 0 0,.bool false,.slice none 0 0] by kernel_rfl);rw[hie]at hi;simp only[aW]at hi;subst hi;have hr:=run_make (P:=prog) w 28 46 ie zv hu hie hz .i64 .i64 (m:Int) (m:Int) (by omega) (Int.le_refl _) (by rw[hieb];omega) (by omega);simp only[av]at hr;refine wpListIn_plain hgd fun K hK'=>?_;unfold Oper.wpIn;refine⟨?_,?_⟩
 ·simp[Oper.about,ho]
 ·rw[Oper.semAt_plain F _ _ (by rw[ho];intro c hc';cases hc')];simp[execOp,ho,hl,hc,hr,Result.andThen];refine hK' _ _ (h _ (by rw[MQ,hies]) fun M' w'=>?_);have hz3:zv.cells.toList=[.slice none 0 0,.bool false,.slice none 0 0]:=by rw[hzc]
  have ht:=LI (z:=zv.cells) (sz:=3) (c:=m) (l:=m) (by rw[hzs,hies]) (aa _);rw[dP (by rw[cT,MQ];exact aa _)]at ht;rw[hies,ht,hz3];exact ai.replicate (vs:=[.slice none 0 0,.bool false,.slice none 0 0]) (show ai _ _ z3 [.slice none 0 0,.bool false,.slice none 0 0]from⟨⟨rfl,rfl⟩,⟨rfl,rfl⟩,⟨rfl,rfl⟩,trivial⟩) m
theorem pM{r:List Rat}:∀t∈rQ r,t.length=3:=fun t ht=>by obtain⟨a,_,rfl⟩:=dH.1 ht;rfl
theorem aY{c:Code}{a a':Act}(h:Ag (wr c) a a')(t:Nat)(ht:wr c t=false):a'.tmps.getD t undef=a.tmps.getD t undef:=h t ht
theorem TA{M:Nat->Prop}{w:World}:∀(cs:List aC)(vs:List Value),ba M w (cs.map .one) vs↔ai M w cs vs
 | [],[]=>qe
 | c::cs,v::vs=>and_congr qe (TA cs vs)
 | [],_::_=>qe
 | _::_,[]=>qe
theorem ZV(n:Nat)(right:Rat)(g:FuncId)(caps:List aC)(r':List Rat)(hn:n<1099511627776)(hl:r'.length=n+1)(hset:lO prog g 46 3 [] (caps.map .one) (rQ ((List.replicate (n+1) 0).set n right)) [] (rQ r')) :
  pO prog 133 [.one (.int .i64 (n:Int)),qT right,.one (.gp g caps)] fun n0=>[.one (.jt n0 46 3 (rQ r'))]:=by
 refine⟨bC (by kernel_rfl),fun M w vs hM hv=>?_⟩
 match vs,hv with
 | [nv,rv,cv],⟨hnv,hrv,hcv,_⟩=>
   obtain⟨lb,rfl,hlb⟩:=hcv;obtain rfl:nv=.int .i64 (n:Int):=hnv.1;refine lU func133 rfl ?_;simp only[ntmps133,cw,an,bo,Nat.reduceAdd,Nat.reduceSub,dx,dk,du,di,List.nil_append,List.cons_append];refine bB (bU ji.wp (n0:=w.heap.size) (N:=19) (ins:=[(1,.v (some 3))]) (xs:=[.v (qT right)]) fo ⟨rfl,trivial⟩ (uV (bs4 right)) (by kernel_rfl) (aa _) hM rfl rfl ⟨hrv,trivial⟩ ?_);intro a1 w1 us1 hag1 hb1 hsz1 hdf1 hr1 hrep1;have hus:=bG hr1;have k0:=aY hag1 0 (by kernel_rfl);have k2:=aY hag1 2 (by kernel_rfl);change a1.tmps.getD 0 undef=.int .i64 (n:Int)at k0;change a1.tmps.getD 2 undef=.func (.func g) #[] lb.toArray at k2;subst hus;obtain⟨h4,h6,_⟩:=hrep1;have h6':a1.tmps.getD 6 undef=.slice none 0 0:=h6.1;clear h6;have hM1:cC M w1:=⟨fun b hb=>cj (hM.1 b hb) hb1.size,hM.2.eJ (bF.below hb1)⟩
   have hor1:(fun k=>M k\/(Value.slice none 0 0).ownBlock=some k)=M:=funext fun k=>propext ⟨fun h=>h.elim id (fun e=>by cases e),.inl⟩;obtain⟨t1,d1⟩:=a1;dsimp only at hsz1 hdf1 h6' k0 k2 h4;subst hdf1;rw[bk5 t1 hsz1,k0,k2,h6'];clear hr1 hag1;have h4:(aC.aw (qC right)).rep M w1 (t1.getD 4 undef):=h4;obtain⟨p4,hp4⟩:∃p,t1.getD 4 undef=p:=⟨_,rfl⟩
   rw[hp4]at h4|-;generalize t1.getD 1 undef=y1;generalize t1.getD 3 undef=y3;generalize t1.getD 5 undef=y5;generalize t1.getD 7 undef=y7;generalize t1.getD 8 undef=y8;generalize t1.getD 9 undef=y9;generalize t1.getD 10 undef=y10;generalize t1.getD 11 undef=y11;generalize t1.getD 12 undef=y12;generalize t1.getD 13 undef=y13;generalize t1.getD 14 undef=y14;generalize t1.getD 15 undef=y15;generalize t1.getD 16 undef=y16;generalize t1.getD 17 undef=y17;generalize t1.getD 18 undef=y18;clear hsz1 k0 k2 h6' hp4;show Code.wp _ _ _ _ _;refine bE6 (cG ?_);generalize hK:Exit.then _ _=K
   gi_wp2_with (gi_at_make;refine mk1 rfl _ _ rfl (n+1) rfl rfl ?_;intro cur hcz hrepz)
   rw[<-hK];clear hK K;obtain⟨w2,hw2⟩:∃w2,w1.alloc (.cells cur 46)=w2:=⟨_,rfl⟩
   have hb2:Below w1.heap.size w1 w2:=by rw[<-hw2];exact(cu _ w1).alloc (aa _) _
   have hg2:w2.heap[w1.heap.size]?=some (.cells cur 46 (0,0)):=by rw[<-hw2];exact dX w1 _
   obtain⟨v2,hv2⟩:∃v2,Value.slice (some ⟨w1.heap.size,0,none⟩) (n+1) (n+1)=v2:=⟨_,rfl⟩
   have hob2:∀k,v2.ownBlock=some k↔k=w1.heap.size:=fun k=>by rw[<-hv2];simp[Value.ownBlock,oK]
   have hfr2':∀k,v2.ownBlock=some k->w1.heap.size<=k:=fun k hk=>by rw[(hob2 k).1 hk];exact aa _
   have hown2:w2.ownsRow 0 46 3 v2 (List.replicate (n+1) z3).length cur.toList:=by
    rw[eX];exact⟨by rw[cT,hcz],.inr ⟨w1.heap.size,n+1,cur,hv2.symm,cz _,hg2,aa _,by simp only[maxLen];omega,hcz,dP (by rw[cT,hcz];exact aa _)⟩⟩
   rw[hw2,hv2];show Code.wpIn _ _ _ _ _ _ _;refine cb.2 ?_
   have h4':(aC.aw (qC right)).rep (fun k=>M k\/v2.ownBlock=some k) w2 p4:=by
    refine aC.mono _ (fun b o hb ho _=>?_) h4;have hlt:=(cZ.1 ho).1;exact⟨fun h=>h.elim hb (fun e=>by have:=hfr2' b e;omega),(hb2.block b hlt).trans ho⟩
   have hMd2:∀k,M k->v2.ownBlock≠some k:=fun k hk e=>by have:=hfr2' k e;have:=hM1.1 k hk;omega
   have hM2:cC (fun k=>M k\/v2.ownBlock=some k) w2:=by
    refine⟨fun b hb=>hb.elim (fun h=>cj (hM1.1 b h) hb2.size) (fun e=>(hown2.lt b e).2),hM1.2.eJ fun b o hb ho _=>?_⟩;have hlt:=(cZ.1 ho).1;exact⟨fun h=>h.elim hb (fun e=>by have:=hfr2' b e;omega),(hb2.block b hlt).trans ho⟩
   show Code.wp _ _ _ _ _;refine bB (sY ji.wp (N:=19) (t0:=7) (E:=46) (sz:=3) (tr:=7) (ts:=List.replicate (n+1) z3) (ins:=[(0,.v none),(4,.ref 3)]) (xs:=[.v (.one (.int .i64 (n:Int))),.ref (qC right)]) fo ⟨rfl,rfl,trivial⟩ (bL0 n right hn) (by kernel_rfl) hM2 hMd2 rfl rfl ⟨⟨rfl,rfl⟩,h4',trivial⟩ rfl hown2 (fun t ht=>by rw[(jW.1 ht).2];rfl) (hrepz _ _) ?_);intro a3 w3 us3 v3 xs3 hag3 hg3 hsz3 hdf3 hr3 ht3 hown3 hfr3 _ hrep3;have k2'':=aY hag3 2 (by kernel_rfl);change a3.tmps.getD 2 undef=.func (.func g) #[] lb.toArray at k2'';have hrep3':=ai.sub (ak.flat (bM2 n right)) hrep3;rw[bJ,eX]at hown3;have k7:a3.tmps.getD 7 undef=v2:=aY hag3 7 (by kernel_rfl);rcases hown3.2 with⟨_,h0⟩ | ⟨b,cap,cur,rfl,_,hgb,hnc,hcm,hcs,htake⟩
   ·omega
   rw[ht3,<-hv2]at k7;simp only[jR,aW,lH,eI,yz]at k7;obtain⟨hbw,hcap⟩:=k7;subst hcap;have hbw2:w1.heap.size<=b:=by omega
   clear hbw
   have hbn:w1.heap.size<=b:=by
    rcases hfr3 b rfl with h | h
    ·have:=hb2.size;omega
    ·exact hfr2' b h
   have hk13:∀j,j<w1.heap.size->w3.heap[j]?=w1.heap[j]?:=fun j hj=>by
    have hj2:j<w2.heap.size:=cj hj hb2.size;rw[hg3.block j hj2 (fun e=>by have:=hfr2' j e.symm;omega),hb2.block j hj]
   have hMb:(fun k=>M k\/(Value.slice (some ⟨b,0,none⟩) (n+1) (n+1)).ownBlock=some k)=Mb M b:=funext fun k=>propext ⟨fun h=>h.imp id (fun e=>by simpa[Value.ownBlock,oK]using e),fun h=>h.imp id (fun e=>by simpa[Value.ownBlock,oK]using e)⟩;rw[hMb]at hrep3';have hs13:w1.heap.size<=w3.heap.size:=aq hb2.size hg3.size
   have hkw:bF M w (Mb M b) w3:=fun k o hk ho _=>by
    have hlt:=(cZ.1 ho).1;have hlt1:k<w1.heap.size:=cj hlt hb1.size;exact⟨fun h=>h.elim hk (by omega),(hk13 k hlt1).trans ((hb1.block k hlt).trans ho)⟩
   have hM3:cC (Mb M b) w3:=⟨fun k hk=>hk.elim (fun h=>by have:=hM1.1 k h;omega) (fun e=>by rw[e];exact(cZ.1 hgb).1),hM.2.eJ hkw⟩
   have hlen3:(rQ ((List.replicate (n+1) 0).set n right)).length=n+1:=by rw[aI,bJ,eX]
   have hlbS:ba (Mb M b) w3 (caps.map .one) lb:=(TA caps lb).2 (hlb.mono hkw);have hcall:=hset.2.2.2 (Mb M b) w3 b 0 (n+1) cur [] lb hM3 (.inr rfl) hgb (by rw[hlen3,bM,hcs];exact cN _ hnc) (by rw[hlen3];exact hnc) hcm (by rw[hlen3,ga,htake];exact hrep3') trivial hlbS;rw[hlen3]at hcall;obtain⟨t3,d3⟩:=a3;dsimp only at hsz3 hdf3 ht3 k2'';subst hdf3;rw[bk5 t3 hsz3,k2'',ht3];clear hrep3 hrep3' hown3 hr3 hag3 k2'' ht3;generalize t3.getD 0 undef=y0;generalize t3.getD 1 undef=y1;generalize t3.getD 3 undef=y3;generalize t3.getD 4 undef=y4;generalize t3.getD 5 undef=y5;generalize t3.getD 6 undef=y6;generalize t3.getD 8 undef=y8;generalize t3.getD 9 undef=y9;generalize t3.getD 10 undef=y10;generalize t3.getD 11 undef=y11;generalize t3.getD 12 undef=y12;generalize t3.getD 13 undef=y13;generalize t3.getD 14 undef=y14;generalize t3.getD 15 undef=y15;generalize t3.getD 16 undef=y16;generalize t3.getD 17 undef=y17;generalize t3.getD 18 undef=y18;clear hsz3;clear hv2 hob2 hw2;show Code.wp _ _ _ _ _;refine bE6 ?_
   gi_wp2
   refine⟨trivial,?_⟩;rw[hset.1];refine⟨(fun h=>by cases h),?_⟩;refine(au.2 hcall).mono ?_;rintro e w4 ⟨cur',us,hg4,hgb4,hcs4,_,rfl,_,hrep4⟩
   gi_wp2
   have hlr:(rQ r').length=n+1:=by rw[aI];exact hl
   have hs4:=hg4.size;refine gZ (jP rfl _ _ _) rfl ⟨⟨?_,?_,?_,by have:=hb1.size;omega,fun j hj=>?_⟩,[_],rfl,⟨b,cur',?_,by have:=hb1.size;omega,fun h=>?_,hgb4,by rw[hlr];exact hcm,by rw[hcs4,hcs,hlr],pM,?_⟩,trivial⟩
   ·exact hg4.os.trans (hg3.os.trans (hb2.os.trans hb1.os))
   ·exact hg4.tape.trans (hg3.tape.trans (hb2.tape.trans hb1.tape))
   ·exact hg4.output.trans (hg3.output.trans (hb2.output.trans hb1.output))
   ·have hlt1:j<w1.heap.size:=cj hj hb1.size;exact(hg4.block j (by omega) (fun e=>by have:=dA e;omega)).trans ((hk13 j hlt1).trans (hb1.block j hj))
   ·rw[hlr];rfl
   ·have:=hM1.1 b h;omega
   ·rwa[ga,dP (by rw[cT,hcs4,hcs];exact aa _)]at hrep4
 | [],hv=>exact hv.elim
 | [_],hv=>exact hv.2.elim
 | [_,_],hv=>exact hv.2.2.elim
 | _::_::_::_::_,hv=>exact hv.2.2.2.elim
end Go.Sy
namespace Go.Sy
open Go Go.Proofs Go.RowKit Tryz Ord
def Ha:Tr:=.ret []
theorem Ul:ae prog 28 (fun _=>none) (aM [0] (aO f197)) [] ([].map ResultVar.tmp) none false=Ha:=by kernel_rfl
def Gx:Tr:=.ret [(.one (.c (.k (.slice none 0 0))))]
theorem UU:ae prog 28 (fun _=>none) (aM [1,0] (aO f197)) [] ([5].map ResultVar.tmp) none false=Gx:=by kernel_rfl
def Dv:Tr:=.back 0 [(.w (W 15 0)),(.row 14)]
def Eh:Tr:=.need (.prim [(W 3 0),(WK (1))] none) (.binOp .add 3 (.tmp 11) (.const (I3 (1))) 3) 3 false Dv
def DW:Tr:=.need (.app 3 56 (some 4) none (some 13)) (.call ⟨.builtin .append,#[(.tmp 13),(.tmp 25)],#[28,28]⟩) 28 false Eh
def Ft:Tr:=.need (.lit 3 [[(.u 12 0),(.u 12 1),(.u 12 2)]]) (.buildSlice 28 1 #[(0,(.tmp 24))]) 28 false DW
def IT:Tr:=.need (.callv (.u 1 0) [(.agg [(U 9 0),(U 9 1),(U 9 2)]),(.agg [(U 11 0),(U 11 1),(U 11 2)])] [(some 3)]) (.call ⟨.value (.tmp 14),#[(.tmp 19),(.tmp 23)],#[46,46]⟩) 46 true Ft
def Hq:Tr:=.need (.prim [(W 10 0)] (some 3)) (.load 46 (.tmp 22)) 46 false IT
def Ho:Tr:=.need (.prim [(W 0 0),(W 3 0)] none) (.indexAddr 28 (.tmp 20) (.tmp 21)) 0 false Hq
def Kd:Tr:=.need (.prim [(W 8 0)] (some 3)) (.load 46 (.tmp 18)) 46 false Ho
def IB:Tr:=.need (.prim [(W 0 0),(W 7 0)] none) (.indexAddr 28 (.tmp 15) (.tmp 17)) 0 false Kd
def HR:Tr:=.need (.prim [(W 3 0),(WK (1))] none) (.binOp .sub 3 (.tmp 16) (.const (I3 (1))) 3) 3 false IB
def Cn:Tr:=.retr [] 4
def IC:Tr:=.split (.u 6 0) HR Cn
def JF:Tr:=.need (.prim [(W 3 0),(W 5 0)] none) (.binOp .lss 3 (.tmp 7) (.tmp 9) 3) 4 false IC
def Ht:Tr:=.need (.prim [(W 0 0)] none) (.call ⟨.builtin .len,#[(.tmp 8)],#[28]⟩) 3 false JF
def Hd:Tr:=.loop 0 [(.w (WK (1))),(.row 2)] Ht
theorem UY:nf prog 28 (fun _=>none) (aM [1,1,0] (aO f197)) [(0,.v none),(1,.v none)] 5 46 3 5 ([].map ResultVar.tmp)=Hd:=by kernel_rfl
def JG:Tr:=.ret [(W 0 0)]
theorem Ui:ae prog 28 (fun _=>none) (aM [1,1,1,0] (aO f197)) [(5,.v none)] ([4].map ResultVar.tmp) none false=JG:=by kernel_rfl
def bK9:Tr:=.need (.call 197 [(W 0 0),(.one (.gp 198 []))] [none]) (.call ⟨.value (.func 197),#[(tT 3),(.func 198)],#[28,164]⟩) 28 true (cH 1)
theorem an3:aV prog f131 ck [.v none]=bK9:=by kernel_rfl
def HC:Tr:=.ret []
theorem VQ:ae prog 31 (fun _=>none) (aM [0] (aO f132)) [] ([].map ResultVar.tmp) none false=HC:=by kernel_rfl
def HK:Tr:=.ret [(W 1 0)]
def Ir:Tr:=.need (.call 131 [(W 0 0)] [none]) (.call ⟨.value (.func 131),#[(.tmp 8)],#[28]⟩) 28 true HK
theorem Vg:ae prog 31 (fun _=>none) (aM [1,0] (aO f132)) [(0,.v none)] ([5].map ResultVar.tmp) none false=Ir:=by kernel_rfl
def Ie:Tr:=.ret [(W 1 0)]
def Jl:Tr:=.need (.call 131 [(W 0 0)] [none]) (.call ⟨.value (.func 131),#[(.tmp 10)],#[28]⟩) 28 true Ie
theorem VI:ae prog 31 (fun _=>none) (aM [1,1,0] (aO f132)) [(1,.v none)] ([6].map ResultVar.tmp) none false=Jl:=by kernel_rfl
def EO:Tr:=.back 0 [(.w (W 11 0)),(.row 10)]
def BZ:Tr:=.need (.prim [(W 3 0),(WK (1))] none) (.binOp .add 3 (.tmp 14) (.const (I3 (1))) 3) 3 false EO
def Cx:Tr:=.need (.strow 4 3 (.u 3 0) 0 [(.u 9 0),(.u 9 1),(.u 9 2)]) (.store 46 (.tmp 28) (.tmp 27)) 0 false BZ
def Gj:Tr:=.need (.idx 4 (.u 3 0)) (.indexAddr 28 (.tmp 17) (.tmp 18)) 0 false Cx
def Hp:Tr:=.need (.call 112 [(.agg [(U 6 0),(U 6 1),(U 6 2)]),(.agg [(U 8 0),(U 8 1),(U 8 2)])] [(some 3)]) (.call ⟨.value (.func 112),#[(.tmp 22),(.tmp 26)],#[46,46]⟩) 46 true Gj
def JS:Tr:=.need (.prim [(W 7 0)] (some 3)) (.load 46 (.tmp 25)) 46 false Hp
def HP:Tr:=.need (.prim [(W 0 0),(W 3 0)] none) (.indexAddr 28 (.tmp 23) (.tmp 24)) 0 false JS
def Js:Tr:=.need (.ldrow 4 (.u 3 0) 0 3 true) (.load 46 (.tmp 21)) 46 false HP
def Jh:Tr:=.need (.idx 4 (.u 3 0)) (.indexAddr 28 (.tmp 19) (.tmp 20)) 0 false Js
def Db:Tr:=.retr [] 4
def Gq:Tr:=.split (.u 5 0) Jh Db
def Hz:Tr:=.need (.prim [(W 3 0),(W 2 0)] none) (.binOp .lss 3 (.tmp 14) (.tmp 13) 3) 0 false Gq
def HL:Tr:=.loop 0 [(.w (WK (0))),(.row 1)] Hz
def Iz:Tr:=.need (.lenrow 1) (.call ⟨.builtin .len,#[(.tmp 12)],#[28]⟩) 3 false HL
theorem Tm:nf prog 31 (fun _=>none) (aM [1,1,1,0] (aO f132)) [(5,.v none)] 6 46 3 6 ([].map ResultVar.tmp)=Iz:=by kernel_rfl
def Hu:Tr:=.ret [(W 0 0)]
theorem Vc:ae prog 31 (fun _=>none) (aM [1,1,1,1,0] (aO f132)) [(6,.v none)] ([4].map ResultVar.tmp) none false=Hu:=by kernel_rfl
def stL(f:Rat->Rat->Rat)(l:List Rat)(i:Nat):Rat:=f (l.getD i 0) (l.getD (i+1) 0)
def pV(f:Rat->Rat->Rat)(l:List Rat):List Rat:=(List.range (l.length-1)).map (stL f l)
theorem as7(f:Rat->Rat->Rat)(l:List Rat)(i:Nat):(List.range i).map (stL f l)++[stL f l i]=(List.range (i+1)).map (stL f l):=by rw[gx,bt];rfl
theorem bH0  :vc prog (fun o=>az o (.ret [])) (ae prog 28 (fun _=>none) (aM [0] (aO f197)) [] ([].map ResultVar.tmp) none false) ([].map In.env) []:=by
 rw[Ul];dsimp only[List.map,In.env,aE,aF];exact aL
theorem by3  :vc prog (fun o=>az o (.ret [.one (.exact (.slice none 0 0))])) (ae prog 28 (fun _=>none) (aM [1,0] (aO f197)) [] ([5].map ResultVar.tmp) none false) ([].map In.env) []:=by
 rw[UU];dsimp only[List.map,In.env,aE,aF];exact aL
theorem bq3(l:List Rat)(g:FuncId)(f:Rat->Rat->Rat)(hf:∀i,i+1<l.length->aU prog g [qT (l.getD i 0),qT (l.getD (i+1) 0)] (.ret [qT (stL f l i)]))(hs:l.length<1099511627776):vc prog (fun o=>o=.retr [] (rQ (pV f l))) (nf prog 28 (fun _=>none) (aM [1,1,0] (aO f197)) [(0,.v none),(1,.v none)] 5 46 3 5 ([].map ResultVar.tmp)) ([.v (.one (sQ l)),.v (.one (.gp g []))].map In.env++[.rows ([])]) []:=by
 rw[UY];dsimp only[List.map,In.env,aE,aF];refine bE {i:Nat // i<=l.length-1} (fun g=>[.one (.int .i64 ((g.1:Int)+1)),.rows (rQ ((List.range g.1).map (stL f l)))]) (fun g=>l.length-1-g.1) ⟨0,cz _⟩ aZ.rfl (fun _=>rfl) ?_;rintro⟨i,hi⟩;dsimp only[aE,aF]at hi|-;have hll:((List.range i).map (stL f l)).length=i:=by simp
 apply vn (aP ay (aI _));apply vn aj;refine vs _ rfl ?_ ?_<;>intro h3
 ·apply vn (aH (by omega) (by omega));dsimp only[aE,aF];apply vn (aJ ay (m:=i) (by omega) (by omega) (aX (show i<l.length by omega)));apply vn (aQ cM (by decide) (by simp) (.inl rfl));dsimp only[aE,aF];apply vn (aJ ay (m:=i+1) (by omega) (by omega) (aX (show i+1<l.length by omega)));apply vn (aQ cM (by decide) (by simp) (.inl rfl));apply Dt (f:=g) (caps:=[]) rfl (hf i (by omega)) rfl;apply eL (us:=[qC (stL f l i)]);dsimp only[aE,aF];refine iE (xs:=(List.range i).map (stL f l)) (x:=stL f l i) (f:=qC) rfl rfl (by omega) (by simp only[maxLen];omega) ?_;rw[as7];apply vn (aB (by omega) (by omega));dsimp only[aE,aF];exact ab rfl ⟨⟨i+1,by omega⟩,aZ.rfl,by show l.length-1-(i+1)<l.length-1-i;omega⟩
 rw[pV,show l.length-1=i by omega];exact mA rfl rfl
theorem bG7(t:aC):vc prog (fun o=>az o (.ret [.one t])) (ae prog 28 (fun _=>none) (aM [1,1,1,0] (aO f197)) [(5,.v none)] ([4].map ResultVar.tmp) none false) ([.v (.one t)].map In.env) []:=by
 rw[Ui];dsimp only[List.map,In.env,aE,aF];exact aL
theorem DV{M:Nat->Prop}{w:World}{n0 E sz base:Nat}{ts:List (List aC)}{v:Value}{xs:List Value}(hne:ts≠[])(ho:w.ownsRow base E sz v ts.length xs)(hl:∀t∈ts,t.length=sz)(hr:ai (fun k=>M k\/v.ownBlock=some k) w ts.flatten xs)(hn:∀k,v.ownBlock=some k->n0<=k)(hM:∀k,M k->v.ownBlock≠some k):(aC.own n0 E sz ts).rep M w v:=by
 rcases ho.2 with⟨_,h0⟩ | ⟨b,cap,cur,rfl,_,hgb,hnc,hcm,hcs,htake⟩
 ·exact absurd (eV h0) hne
 ·refine⟨b,cap,cur,rfl,hn b rfl,fun h=>hM b h rfl,hgb,hnc,hcm,hcs,hl,?_⟩;rw[htake];refine hr.mono fun k o hk ho _=>⟨fun h=>hk (h.imp id fun e=>by rw[e];rfl),ho⟩
theorem ad7{M:Nat->Prop}:(fun k=>M k\/(Value.slice none 0 0).ownBlock=some k)=M:=funext fun k=>propext ⟨fun h=>h.elim id (fun e=>by cases e),.inl⟩
theorem il{M:Nat->Prop}{w w1:World}(hM:cC M w)(hb:Below w.heap.size w w1):cC M w1:=⟨fun b h=>cj (hM.1 b h) hb.size,hM.2.eJ (bF.below hb)⟩
theorem ao2{w w1:World}(hg:w.grownBy w1 (Value.slice none 0 0).ownBlock):Below w.heap.size w w1:=⟨hg.os,hg.tape,hg.output,hg.size,fun j hj=>hg.block j hj (by intro e;cases e)⟩
theorem ay6(l:List Rat)(g:FuncId)(f:Rat->Rat->Rat)(hf:∀i,i+1<l.length->aU prog g [qT (l.getD i 0),qT (l.getD (i+1) 0)] (.ret [qT (stL f l i)]))(hs:l.length<1099511627776)(h2:2<=l.length) :
  pO prog 197 [.one (sQ l),.one (.gp g [])] fun n0=>[.one (.own n0 46 3 (rQ (pV f l)))]:=by
 refine⟨bC (by kernel_rfl),fun M w vs hM hv=>?_⟩
 match vs,hv with
 | [lv,cv],⟨hlv,hcv,_⟩=>
   refine lU func197 rfl ?_;simp only[ntmps197,cw,an,bo,Nat.reduceAdd,Nat.reduceSub,dx,dk,du,di,List.nil_append,List.cons_append];refine bB (bU ji.wp (n0:=w.heap.size) (N:=28) (ins:=[]) (xs:=[]) fo trivial (uV bH0) (by kernel_rfl) (aa _) hM rfl rfl trivial ?_);intro a1 w1 us1 hag1 hb1 hsz1 hdf1 _ _;have hM1:=il hM hb1;have hl1:=aC.mono _ (bF.below hb1) hlv;have hc1:=aC.mono _ (bF.below hb1) hcv;have k0:=aY hag1 0 (by kernel_rfl);have k1:=aY hag1 1 (by kernel_rfl);change a1.tmps.getD 0 undef=lv at k0;change a1.tmps.getD 1 undef=cv at k1;show Code.wp _ _ _ _ _;refine bB (bU ji.wp (n0:=w1.heap.size) (N:=28) (ins:=[]) (xs:=[]) fo trivial (uV by3) (by kernel_rfl) (aa _) hM1 hsz1 hdf1 trivial ?_);intro a2 w2 us2 hag2 hb2 hsz2 hdf2 hr2 hrep2;have hus:=bG hr2;subst hus;have h5:a2.tmps.getD 5 undef=.slice none 0 0:=hrep2.1.1;have hM2:=il hM1 hb2;have k0':=(aY hag2 0 (by kernel_rfl)).trans k0;have k1':=(aY hag2 1 (by kernel_rfl)).trans k1;have hl2:=aC.mono _ (bF.below hb2) hl1;have hc2:=aC.mono _ (bF.below hb2) hc1;rw[<-k0']at hl2;rw[<-k1']at hc2;show Code.wp _ _ _ _ _;refine bB (sY ji.wp (N:=28) (t0:=5) (E:=46) (sz:=3) (tr:=5) (ts:=[]) (base:=0) (v:=.slice none 0 0) (vs:=[]) (ins:=[(0,.v none),(1,.v none)]) (xs:=[.v (.one (sQ l)),.v (.one (.gp g []))]) fo ⟨rfl,rfl,trivial⟩ (bq3 l g f hf hs) (by kernel_rfl) (by rw[ad7];exact hM2) (fun k _ e=>by cases e) hsz2 hdf2 (by rw[ad7];exact⟨hl2,hc2,trivial⟩) h5 (uw _ _ _ _) (fun t ht=>by cases ht) trivial ?_);intro a3 w3 us3 v3 xs3 hag3 hg3 hsz3 hdf3 hr3 ht3 hown3 hfr3 _ hrep3;have hb3:=ao2 hg3;have hfr3':∀k,v3.ownBlock=some k->w2.heap.size<=k:=fun k hk=>(hfr3 k hk).elim id (fun e=>by cases e);have hM3:=il hM2 hb3;have hs12:=hb1.size;have hs23:=hb2.size
   have hor:(aC.own w.heap.size 46 3 (rQ (pV f l))).rep M w3 v3:=DV (fun e=>by
    have:=congrArg List.length e;rw[aI,pV,aI,oh]at this;simp at this;omega) hown3 pM hrep3 (fun k hk=>by have:=hfr3' k hk;omega) (fun k hk e=>by have:=hfr3' k e;have:=hM2.1 k hk;omega)
   rw[<-ht3]at hor;show Code.wp _ _ _ _ _;refine bB (bU ji.wp (n0:=w3.heap.size) (N:=28) (ins:=[(5,.v none)]) (xs:=[.v (.one (.own w.heap.size 46 3 (rQ (pV f l))))]) fo ⟨rfl,trivial⟩ (uV (bG7 _)) (by kernel_rfl) (aa _) hM3 hsz3 hdf3 ⟨hor,trivial⟩ ?_);intro a4 w4 us4 hag4 hb4 hsz4 hdf4 hr4 hrep4;have hus:=bG hr4;subst hus;refine lJ ?_;refine gZ (jP rfl _ _ _) hdf4 ⟨?_,[_],rfl,hrep4.1,trivial⟩;exact(hb1.trans (hb2.mono hs12)).trans ((hb3.mono (by omega)).trans (hb4.mono (by have:=hb3.size;omega)))
 | [],hv=>exact hv.elim
 | [_],hv=>exact hv.2.elim
 | _::_::_::_,hv=>exact hv.2.2.elim
def kU(l:List Rat):List Rat:=pV (fun a b=>b-a) l
theorem oo(l:List Rat)(A:Nat)(hA1:1<=A)(hp:∀a∈l,Fit A a)(hs:l.length<1099511627776)(h2:2<=l.length)(hA:A<=1000000000:=by omega):pO prog 131 [(.one (sQ l):aN)] (fun n0=>[.one (.own n0 46 3 (rQ (kU l)))]):=by
 refine yL (args:=[.v none]) (ins:=[.v (.one (sQ l))]) (hints:=(fun _=>none)) fo (by kernel_rfl) func131 ⟨rfl,trivial⟩ (fun n0=>?_);rw[an3];dsimp only[List.map,In.env,aE,aF];refine aj8 (ts:=[.one (.own n0 46 3 (rQ (kU l)))]) (ic.GD (ay6 l 198 (fun a b=>b-a) (fun i hi=>Vx _ _ A A (aD hp _ hA1) (aD hp _ hA1)) hs h2) Vb) rfl ?_;dsimp only[aE,aF];exact LG rfl
theorem nY(l:List Rat):(kU l).length=l.length-1:=by rw[kU,pV,aI,oh]
theorem oV{A:Nat}{l:List Rat}(hA:1<=A)(hp:∀a∈l,Fit A a):∀a∈kU l,Fit (A+A+1) a:=fun a ha=>by
 obtain⟨i,_,rfl⟩:=dH.1 ha;exact(aD hp _ hA).sub (aD hp _ hA)
def ao6(h d:List Rat)(i:Nat):Rat:=VU (d.getD i 0) (h.getD i 0)
def Dm(h d:List Rat)(i:Nat):List Rat:=(List.range i).map (ao6 h d)++d.drop i
def gS(x y:List Rat):List Rat:=(List.range (kU y).length).map (ao6 (kU x) (kU y))
theorem au2(h d:List Rat){i:Nat}(hi:i<=d.length):(Dm h d i).length=d.length:=by simp[Dm];omega
theorem aR9(h d:List Rat){i:Nat}(hi:i<d.length):(Dm h d i)[i]?=some (d.getD i 0):=by
 rw[Dm,iB (by simp),aI,oh,fU,eo,bq,aX hi]
theorem aB5(h d:List Rat){i:Nat}(hi:i<d.length):(Dm h d i).set i (ao6 h d i)=Dm h d (i+1):=by
 rw[Dm,Dm,RJ _ _ (by simp),aI,oh,fU,jE hi,so,gx,bt,dq];rfl
theorem bB6  :vc prog (fun o=>az o (.ret [])) (ae prog 31 (fun _=>none) (aM [0] (aO f132)) [] ([].map ResultVar.tmp) none false) ([].map In.env) []:=by
 rw[VQ];dsimp only[List.map,In.env,aE,aF];exact aL
theorem bq2(l:List Rat)(A:Nat)(hA1:1<=A)(hp:∀a∈l,Fit A a)(hs:l.length<1099511627776)(h2:2<=l.length)(hA:A<=1000000000:=by omega):vc prog (fun o=>az o (.ret [.one (sQ (kU l))])) (ae prog 31 (fun _=>none) (aM [1,0] (aO f132)) [(0,.v none)] ([5].map ResultVar.tmp) none false) ([.v (.one (sQ l))].map In.env) []:=by
 rw[Vg];dsimp only[List.map,In.env,aE,aF];apply aA (oo l A hA1 hp hs h2 hA).WR;exact aL
theorem bu2(n0:Nat)(l:List Rat)(A:Nat)(hA1:1<=A)(hp:∀a∈l,Fit A a)(hA:A<=1000000000:=by omega)(hs:l.length<1099511627776:=by omega)(h2:2<=l.length:=by omega):vc prog (ic prog n0 (.ret [.one (.own n0 46 3 (rQ (kU l)))])) (ae prog 31 (fun _=>none) (aM [1,1,0] (aO f132)) [(1,.v none)] ([6].map ResultVar.tmp) none false) ([.v (.one (sQ l))].map In.env) []:=by
 rw[VI];dsimp only[List.map,In.env,aE,aF];refine aj8 (ts:=[.one (.own n0 46 3 (rQ (kU l)))]) (ic.GD (oo l A hA1 hp hs h2 hA) Vb) rfl ?_;dsimp only[aE,aF];exact LG rfl
theorem bz3(h d:List Rat)(A:Nat)(hh:∀a∈h,Fit A a)(hd:∀a∈d,Fit A a)(hA1:1<=A:=by omega)(hA:A<=1000000000:=by omega)(hl:h.length=d.length:=by omega)(hs:d.length<1099511627776:=by omega):vc prog (fun o=>o=.retr [] (rQ ((List.range d.length).map (ao6 h d)))) (nf prog 31 (fun _=>none) (aM [1,1,1,0] (aO f132)) [(5,.v none)] 6 46 3 6 ([].map ResultVar.tmp)) ([.v (.one (sQ h))].map In.env++[.rows (rQ d)]) []:=by
 rw[Tm];dsimp only[List.map,In.env,aE,aF];refine Hl rfl (aI _) ?_;refine bE {i:Nat // i<=d.length} (fun g=>[.one (.int .i64 (g.1:Int)),.rows (rQ (Dm h d g.1))]) (fun g=>d.length-g.1) ⟨0,cz _⟩ aZ.rfl (fun _=>rfl) ?_;rintro⟨i,hi⟩;dsimp only[aE,aF]at hi|-;apply vn aj;refine vs _ rfl ?_ ?_<;>intro h3
 ·have hi':i<d.length:=by omega
  have hpl:=au2 h d hi;have hpa:=aR9 h d hi';refine br rfl rfl (by omega) (by omega) ?_;refine Kj rfl rfl (by omega) (av i) hpa (.inl rfl) rfl ?_;dsimp only[aE,aF,Yi,List.drop,List.take];apply vn (aJ ay (m:=i) (by omega) (av i) (aX (show i<h.length by omega)));apply vn (aQ cM (by decide) (by simp) (.inl rfl));apply aA (oS _ _ A A (aD hd _ hA1) (aD hh _ hA1));refine br rfl rfl (by omega) (by omega) ?_;refine iJ (f:=qC) (d':=ao6 h d i) rfl rfl (by omega) (av i) hpa rfl ?_;rw[aB5 h d hi'];dsimp only[aE,aF];apply vn (aB (by omega) (by omega));dsimp only[aE,aF];exact ab rfl ⟨⟨i+1,by omega⟩,aZ.rfl,by show d.length-(i+1)<d.length-i;omega⟩
 rw[show Dm h d i=(List.range d.length).map (ao6 h d) by rw[show i=d.length by omega,Dm,Ar,bw]];exact mA rfl rfl
theorem bK4(t:aC):vc prog (fun o=>az o (.ret [.one t])) (ae prog 31 (fun _=>none) (aM [1,1,1,1,0] (aO f132)) [(6,.v none)] ([4].map ResultVar.tmp) none false) ([.v (.one t)].map In.env) []:=by
 rw[Vc];dsimp only[List.map,In.env,aE,aF];exact aL
theorem tw(x y:List Rat)(A:Nat)(hA1:1<=A)(hx:∀a∈x,Fit A a)(hy:∀a∈y,Fit A a)(hs:x.length<1099511627776)(h2:2<=x.length)(hxy:y.length=x.length)(hA:A<=100000000:=by omega) :
  pO prog 132 [.one (sQ x),.one (sQ y)] fun n0=>[.one (.own n0 46 3 (rQ (gS x y)))]:=by
 refine⟨bC (by kernel_rfl),fun M w vs hM hv=>?_⟩
 match vs,hv with
 | [xv,yv],⟨hxv,hyv,_⟩=>
   refine lU func132 rfl ?_;simp only[ntmps132,cw,an,bo,Nat.reduceAdd,Nat.reduceSub,dx,dk,du,di,List.nil_append,List.cons_append];refine bB (bU ji.wp (n0:=w.heap.size) (N:=31) (ins:=[]) (xs:=[]) fo trivial (uV bB6) (by kernel_rfl) (aa _) hM rfl rfl trivial ?_);intro a1 w1 us1 hag1 hb1 hsz1 hdf1 _ _;have hM1:=il hM hb1;have hx1:=aC.mono _ (bF.below hb1) hxv;have hy1:=aC.mono _ (bF.below hb1) hyv;have k0:=aY hag1 0 (by kernel_rfl);have k1:=aY hag1 1 (by kernel_rfl);change a1.tmps.getD 0 undef=xv at k0;change a1.tmps.getD 1 undef=yv at k1;rw[<-k0]at hx1;show Code.wp _ _ _ _ _;refine bB (bU ji.wp (n0:=w1.heap.size) (N:=31) (ins:=[(0,.v none)]) (xs:=[.v (.one (sQ x))]) fo ⟨rfl,trivial⟩ (uV (bq2 x A hA1 hx hs h2)) (by kernel_rfl) (aa _) hM1 hsz1 hdf1 ⟨hx1,trivial⟩ ?_);intro a2 w2 us2 hag2 hb2 hsz2 hdf2 hr2 hrep2;have hus:=bG hr2;subst hus;have hM2:=il hM1 hb2;have k1':=(aY hag2 1 (by kernel_rfl)).trans k1;have hy2:=aC.mono _ (bF.below hb2) hy1;rw[<-k1']at hy2;have h5:=hrep2.1;show Code.wp _ _ _ _ _;refine bB (bU ji.wp (n0:=w2.heap.size) (N:=31) (ins:=[(1,.v none)]) (xs:=[.v (.one (sQ y))]) fo ⟨rfl,trivial⟩ (bu2 w2.heap.size y A hA1 hy) (by kernel_rfl) (aa _) hM2 hsz2 hdf2 ⟨hy2,trivial⟩ ?_);intro a3 w3 us3 hag3 hb3 hsz3 hdf3 hr3 hrep3;have hus:=bG hr3;subst hus;have hM3:=il hM2 hb3;have h5':=aC.mono _ (bF.below hb3) h5;have k5:=aY hag3 5 (by kernel_rfl);obtain⟨b,hbn,hrowoff,hrowown,xs3,hown3,hl3,hrp3⟩:=aC.own.row hrep3.1
   have hMb:(fun k=>M k\/(a3.tmps.getD 6 undef).ownBlock=some k)=Mb M b:=by
    rw[hrowown];exact funext fun k=>propext ⟨fun h=>h.imp id (fun e=>(dA e).symm),fun h=>h.imp id (fun e=>by rw[e])⟩
   have hkb:bF M w2 (Mb M b) w3:=fun k o hk ho _=>by
    have hlt:=(cZ.1 ho).1;exact⟨fun h=>h.elim hk (by omega),(hb3.block k hlt).trans ho⟩
   have hMb3:cC (Mb M b) w3:=⟨fun k hk=>hk.elim (fun h=>hM3.1 k h) (fun e=>by rw[e];exact(hown3.lt b hrowown).2),hM2.2.eJ hkb⟩
   have h5b:=aC.mono _ hkb h5;have h5r:(sQ (kU x)).rep (Mb M b) w3 (a3.tmps.getD 5 undef):=by rw[k5];exact h5b
   have hwx:=nY x;have hwy:=nY y;show Code.wp _ _ _ _ _;refine bB (sY ji.wp (N:=31) (t0:=6) (E:=46) (sz:=3) (tr:=6) (ts:=rQ (kU y)) (ins:=[(5,.v none)]) (xs:=[.v (.one (sQ (kU x)))]) fo ⟨rfl,trivial⟩ (bz3 (kU x) (kU y) (A+A+1) (oV hA1 hx) (oV hA1 hy)) (by kernel_rfl) (by rw[hMb];exact hMb3) (fun k hk e=>by rw[hrowown]at e;exact hrowoff (dA e▸hk)) hsz3 hdf3 (by rw[hMb];exact⟨h5r,trivial⟩) rfl hown3 hl3 (by rw[hMb];exact hrp3) ?_);intro a4 w4 us4 v4 xs4 hag4 hg4 hsz4 hdf4 hr4 ht4 hown4 hfr4 _ hrep4;rw[hrowown]at hg4;have hs12:=hb1.size;have hs23:=hb2.size;have hs34:=hb3.size;have hs45:=hg4.size;have hfr4':∀k,v4.ownBlock=some k->w2.heap.size<=k:=fun k hk=>(hfr4 k hk).elim (fun h=>by omega) (fun e=>by rw[hrowown]at e;have:=dA e;omega);have hb4:Below w2.heap.size w3 w4:=⟨hg4.os,hg4.tape,hg4.output,hg4.size,fun j hj=>hg4.block j (by omega) fun e=>by have:=dA e;omega⟩
   have hb24:Below w2.heap.size w2 w4:=hb3.trans hb4;have hM4:=il hM2 hb24
   have hor:(aC.own w.heap.size 46 3 (rQ (gS x y))).rep M w4 v4:=DV (fun e=>by
    have:=congrArg List.length e;rw[aI,gS,aI,oh,bo]at this;omega) hown4 pM hrep4 (fun k hk=>by have:=hfr4' k hk;omega) (fun k hk e=>by have:=hfr4' k e;have:=hM2.1 k hk;omega)
   rw[<-ht4]at hor;show Code.wp _ _ _ _ _;refine bB (bU ji.wp (n0:=w4.heap.size) (N:=31) (ins:=[(6,.v none)]) (xs:=[.v (.one (.own w.heap.size 46 3 (rQ (gS x y))))]) fo ⟨rfl,trivial⟩ (uV (bK4 _)) (by kernel_rfl) (aa _) hM4 hsz4 hdf4 ⟨hor,trivial⟩ ?_);intro a5 w5 us5 hag5 hb5 hsz5 hdf5 hr5 hrep5;have hus:=bG hr5;subst hus;refine lJ ?_;refine gZ (jP rfl _ _ _) hdf5 ⟨?_,[_],rfl,hrep5.1,trivial⟩;exact(hb1.trans (hb2.mono hs12)).trans ((hb24.mono (by omega)).trans (hb5.mono (by omega)))
 | [],hv=>exact hv.elim
 | [_],hv=>exact hv.2.elim
 | _::_::_::_,hv=>exact hv.2.2.elim
theorem CZ(x y:List Rat):(gS x y).length=y.length-1:=by rw[gS,aI,oh,nY]
theorem ug{A:Nat}{x y:List Rat}(hx:∀a∈x,Fit A a)(hy:∀a∈y,Fit A a)(hA:1<=A:=by omega):∀a∈gS x y,Fit (4*A+2) a:=fun a ha=>by
 obtain⟨i,_,rfl⟩:=dH.1 ha;exact(ZJ (aD (oV hA hy) i) (aD (oV hA hx) i)).mono (by omega)
attribute [local go_sem] Oper.semAt_some
def Jc:Tr:=.ret [(.one (.ref 0 [(.k (.int .i64 (1)))]))]
theorem Vm:ae prog 34 (fun _=>none) (aM [0] (aO f203)) [] ([5].map ResultVar.tmp) none false=Jc:=by kernel_rfl
def Jk:Tr:=.ret [(W 3 0)]
def Ks:Tr:=.need (.prim [(W 1 0),(W 2 0)] none) (.binOp .lss 3 (.tmp 7) (.tmp 9) 3) 4 false Jk
def GH:Tr:=.need (.prim [(W 0 0)] none) (.call ⟨.builtin .len,#[(.tmp 8)],#[28]⟩) 3 false Ks
theorem Vi:ae prog 34 (fun _=>none) (aM [1,0,0,0,0] (aO f203)) [(1,.ref 1),(5,.ref 1)] ([10].map ResultVar.tmp) none false=GH:=by kernel_rfl
def Eo:Tr:=.ret [(W 13 0)]
def JR:Tr:=.need (.call 133 [(W 4 0),(.agg [(U 12 0),(U 12 1),(U 12 2)]),(.one (.gp 204 [(.ref 0 [(.u 0 0)]),(.ref 0 [(.u 3 0)])]))] [none]) (.call ⟨.value (.func 133),#[(.tmp 14),(.tmp 26),(.tmp 27)],#[3,46,184]⟩) 28 true Eo
def KA:Tr:=.need (.call 76 [(.agg [(U 10 0),(U 10 1),(U 10 2)]),(.agg [(U 11 0),(U 11 1),(U 11 2)])] [(some 3)]) (.call ⟨.value (.func 76),#[(.tmp 24),(.tmp 25)],#[46,46]⟩) 46 false JR
def HH:Tr:=.need (.call 113 [(WK (6))] [(some 3)]) (.call ⟨.value (.func 113),#[(.const (I3 (6)))],#[3]⟩) 46 false KA
def JI:Tr:=.need (.call 86 [(.agg [(U 6 0),(U 6 1),(U 6 2)]),(.agg [(U 9 0),(U 9 1),(U 9 2)])] [(some 3)]) (.call ⟨.value (.func 86),#[(.tmp 18),(.tmp 23)],#[46,46]⟩) 46 false HH
def JU:Tr:=.need (.prim [(W 8 0)] (some 3)) (.load 46 (.tmp 22)) 46 false JI
def FP:Tr:=.need (.prim [(W 2 0),(W 7 0)] none) (.indexAddr 28 (.tmp 19) (.tmp 21)) 0 false JU
def FN:Tr:=.need (.prim [(W 3 0),(WK (1))] none) (.binOp .sub 3 (.tmp 20) (.const (I3 (1))) 3) 3 false FP
def Gf:Tr:=.need (.prim [(W 5 0)] (some 3)) (.load 46 (.tmp 17)) 46 false FN
def Jp:Tr:=.need (.prim [(W 2 0),(W 3 0)] none) (.indexAddr 28 (.tmp 15) (.tmp 16)) 0 false Gf
def JX:Tr:=.need (.prim [(W 1 0)] none) (.call ⟨.builtin .len,#[(.tmp 13)],#[28]⟩) 3 false Jp
theorem Ux:ae prog 34 (fun _=>none) (aM [1,0,0,1,0,0,0] (aO f203)) [(1,.ref 1),(2,.ref 1),(3,.ref 1),(5,.ref 1)] ([6].map ResultVar.tmp) none false=JX:=by kernel_rfl
def FF:Tr:=.ret [(.one (.ref 0 [(.u 1 0)]))]
def KJ:Tr:=.need (.prim [(W 0 0),(WK (1))] none) (.binOp .add 3 (.tmp 11) (.const (I3 (1))) 3) 3 false FF
theorem Ub:ae prog 34 (fun _=>none) (aM [1,0,0,1,1] (aO f203)) [(5,.ref 1)] ([5].map ResultVar.tmp) none false=KJ:=by kernel_rfl
theorem bS0(t:Array Value)(h:t.size=34):t=#[t.getD 0 undef,t.getD 1 undef,t.getD 2 undef,t.getD 3 undef,t.getD 4 undef,t.getD 5 undef,t.getD 6 undef,t.getD 7 undef,t.getD 8 undef,t.getD 9 undef,t.getD 10 undef,t.getD 11 undef,t.getD 12 undef,t.getD 13 undef,t.getD 14 undef,t.getD 15 undef,t.getD 16 undef,t.getD 17 undef,t.getD 18 undef,t.getD 19 undef,t.getD 20 undef,t.getD 21 undef,t.getD 22 undef,t.getD 23 undef,t.getD 24 undef,t.getD 25 undef,t.getD 26 undef,t.getD 27 undef,t.getD 28 undef,t.getD 29 undef,t.getD 30 undef,t.getD 31 undef,t.getD 32 undef,t.getD 33 undef]:=(rS t 34 h).trans rfl
theorem bv4  :vc prog (fun o=>az o (.ret [.one (.aw [.int .i64 1])])) (ae prog 34 (fun _=>none) (aM [0] (aO f203)) [] ([5].map ResultVar.tmp) none false) ([].map In.env) []:=by
 rw[Vm];dsimp only[List.map,In.env,aE,aF];exact aL
theorem bH6(h:List Rat)(i:Nat)(hs:h.length<1099511627776:=by omega):vc prog (fun o=>az o (.ret [.one (.bool (decide ((i:Int)<(h.length:Int))))])) (ae prog 34 (fun _=>none) (aM [1,0,0,0,0] (aO f203)) [(1,.ref 1),(5,.ref 1)] ([10].map ResultVar.tmp) none false) ([.ref ([sQ h]),.ref ([.int .i64 (i:Int)])].map In.env) []:=by
 rw[Vi];dsimp only[List.map,In.env,aE,aF];apply vn (aP ay (aI _));apply vn aj;exact aL
def ll(h d:List Rat)(n i:Nat):List Rat:=an6 h i ((List.replicate (n+1) 0).set n ((d.getD i 0-d.getD (i-1) 0)*((6:Int):Rat)))
theorem Bc(h d:List Rat)(n i:Nat):(ll h d n i).length=n+1:=by simp[ll,an6]
theorem bP1(n0:Nat)(h x d:List Rat)(i A:Nat)(hA1:1<=A)(hA:A<=100000000)(hh:∀a∈h,Fit A a)(hd:∀a∈d,Fit A a)(hs:x.length<1099511627776)(hhl:h.length+1=x.length)(hdl:d.length+1=x.length)(hi:1<=i)(hil:i<h.length):vc prog (ic prog n0 (.ret [.one (.jt n0 46 3 (rQ (ll h d x.length i)))])) (ae prog 34 (fun _=>none) (aM [1,0,0,1,0,0,0] (aO f203)) [(1,.ref 1),(2,.ref 1),(3,.ref 1),(5,.ref 1)] ([6].map ResultVar.tmp) none false) ([.ref ([sQ h]),.ref ([sQ x]),.ref ([sQ d]),.ref ([.int .i64 (i:Int)])].map In.env) []:=by
 rw[Ux];dsimp only[List.map,In.env,aE,aF];apply vn (aP ay (aI _));dsimp only[aE,aF];apply vn (aJ ay (m:=i) (by omega) (av i) (aX (show i<d.length by omega)));apply vn (aQ cM (by decide) (by simp) (.inl rfl));apply vn (aH (by omega) (by omega));dsimp only[aE,aF];apply vn (aJ ay (m:=i-1) (by omega) (by omega) (aX (show i-1<d.length by omega)));apply vn (aQ cM (by decide) (by simp) (.inl rfl));apply aA (kq _ _ A A (aD hd _ hA1) (aD hd _ hA1));apply aA (ee 6);dsimp only[aE,aF];apply aA (jJ _ _ (A+A+1) 62 ((aD hd _ hA1).sub (aD hd _ hA1)) (Fit.int (by omega) (by omega)));dsimp only[aE,aF];refine aj8 (ts:=[.one (.jt n0 46 3 (rQ (ll h d x.length i)))]) (ic.GD (ZV x.length _ 204 [.aw [sQ h],.aw [.int .i64 (i:Int)]] (ll h d x.length i) hs (Bc _ _ _ _) (Ob h i A _ hA1 hh hi hil (by rw[bJ,eX];omega))) sW) rfl ?_;dsimp only[aE,aF];exact LG rfl
theorem bx5(i:Nat)(hi:i<1099511627776:=by omega):vc prog (fun o=>az o (.ret [.one (.aw [.int .i64 ((i:Int)+1)])])) (ae prog 34 (fun _=>none) (aM [1,0,0,1,1] (aO f203)) [(5,.ref 1)] ([5].map ResultVar.tmp) none false) ([.ref ([.int .i64 (i:Int)])].map In.env) []:=by
 rw[Ub];dsimp only[List.map,In.env,aE,aF];apply vn (aB (by omega) (by omega));exact aL
def mB(h d:List Rat)(n:Nat):List (List (List aC)):=(List.range (h.length-1)).map fun j=>rQ (ll h d n (j+1))
theorem Wp(h d:List Rat)(n:Nat){i:Nat}(hi:1<=i)(hil:i<h.length):(mB h d n)[i-1]?=some (rQ (ll h d n i)):=by
 rw[mB,cn,kv (by omega)];show some (rQ (ll h d n (i-1+1)))=_;rw[show i-1+1=i by omega]
set_option maxHeartbeats 1000000 in
theorem LA(h x d:List Rat)(A:Nat)(hh:∀a∈h,Fit A a)(hd:∀a∈d,Fit A a)
  (M X:Nat->Prop) (w:World) (hF:cC (fun k=>M k\/X k) w) (v1 v2 v3:Value) (r1:(aC.aw [sQ h]).rep (fun k=>M k\/X k) w v1) (r2:(aC.aw [sQ x]).rep (fun k=>M k\/X k) w v2) (r3:(aC.aw [sQ d]).rep (fun k=>M k\/X k) w v3) (hA1:1<=A:=by omega) (hA:A<=100000000:=by omega) (hs:x.length<1099511627776:=by omega) (hhl:h.length+1=x.length:=by omega) (hdl:d.length+1=x.length:=by omega) (h0:1<=h.length:=by omega):Gen prog 46 3 203 #[v1,v2,v3] (mB h d x.length) (fun _=>False) X M w:=by
 intro W σ Ms nx s0 l J hbW hMs hH hR hJ0;have hlen:(mB h d x.length).length=h.length-1:=by rw[mB,aI,oh]
 rw[hlen]
 have hk0:bF (fun k=>M k\/X k) w (fun k=>Ms s0 k\/X k) W:=fun b o hb ho _=>by
  have hlt:=(cZ.1 ho).1;exact⟨fun hm=>hm.elim (fun hm=>hb (.inl (hMs b hlt hm))) (fun hm=>hb (.inr hm)),(hbW.block b hlt).trans ho⟩
 have hWw:=hbW.size;have hX:∀k,X k->k<W.heap.size:=fun k hk=>by have:=hF.1 k (.inr hk);omega
 have hG0:Good (fun k=>Ms s0 k\/X k) W:=hF.2.eJ hk0;have hfin:∀{i s W'},J i s W'->W.heap.size<=W'.heap.size->Good (fun k=>Ms s k\/X k) W'->cC (fun k=>Ms s k\/X k) W':=fun hj hle hg=>⟨fun k hk=>hk.elim (fun h=>(hH.nS hj).1 k h) (fun h=>by have:=hX k h;omega),hg⟩
 replace r1:=aC.mono _ hk0 r1;replace r2:=aC.mono _ hk0 r2;replace r3:=aC.mono _ hk0 r3;clear hk0 hMs hbW hF;refine(au (n:=1000)).1 ?_;refine iH func203 rfl trivial ?_ rfl;simp only[ntmps203,cw,an,bo,Nat.reduceAdd,Nat.reduceSub,dx,dk,du,di,List.nil_append,List.cons_append];refine cG (cb.2 (bU ji.wp (n0:=W.heap.size) (N:=34) (ins:=[]) (xs:=[]) fo trivial (uV bv4) (by kernel_rfl) (aa _) (hfin hJ0 (aa _) hG0) rfl rfl trivial ?_));intro a1 w1 us1 hag1 hb1 hsz1 hdf1 hr1 hrep1;have hus:=bG hr1;subst hus;have k0:=aY hag1 0 (by kernel_rfl);have k1:=aY hag1 1 (by kernel_rfl);have k2:=aY hag1 2 (by kernel_rfl);have k3:=aY hag1 3 (by kernel_rfl);change a1.tmps.getD 0 undef=.func (.yield l) #[] #[]at k0;change a1.tmps.getD 1 undef=v1 at k1;change a1.tmps.getD 2 undef=v2 at k2;change a1.tmps.getD 3 undef=v3 at k3;have h5:=hrep1.1;have hJ1:=hH.below hJ0 (aa _) hb1;have kp1:Kp (fun k=>Ms s0 k\/False) W (Ms s0) w1:=(Kp.below hb1).bc9 fun k hk=>.inl hk;have hk1:=bF.below (M:=fun k=>Ms s0 k\/X k) hb1;show Code.wpIn _ _ _ _ _ _ _
 refine ng (pU (fun j a' W'=>∃i s,j=h.length-i/\1<=i/\i<=h.length/\a'.tmps.size=34/\a'.defers=[]/\a'.tmps.getD 0 undef=.func (.yield l) #[] #[]/\(aC.aw [sQ h]).rep (fun k=>Ms s k\/X k) W' (a'.tmps.getD 1 undef)/\(aC.aw [sQ x]).rep (fun k=>Ms s k\/X k) W' (a'.tmps.getD 2 undef)/\(aC.aw [sQ d]).rep (fun k=>Ms s k\/X k) W' (a'.tmps.getD 3 undef)/\(aC.aw [.int .i64 (i:Int)]).rep (fun k=>Ms s k\/X k) W' (a'.tmps.getD 5 undef)/\J (i-1) s W'/\Kp (fun k=>Ms s0 k\/False) W (Ms s) W'/\Good (fun k=>Ms s k\/X k) W') (h.length-1)
  ⟨1,s0,rfl,aa _,h0,hsz1,hdf1,k0,by rw[k1];exact aC.mono _ hk1 r1,by rw[k2];exact aC.mono _ hk1 r2,by rw[k3];exact aC.mono _ hk1 r3,h5,hJ1,kp1,hG0.eJ hk1⟩ ?round)
 case round=>
  clear hJ0 hJ1 k0 k1 k2 k3 h5 kp1 hk1 r1 r2 r3 hb1 hag1 hr1 hrep1 hG0;rintro j a2 w2 ⟨i,s,rfl,hi1,hil,hsz2,hdf2,t0,t1,t2,t3,t5,hJ,kp,hG⟩;have hWs:=kp.size;show Code.wpIn _ _ _ _ _ _ _;refine cG (cG (cb.2 (bU ji.wp (n0:=w2.heap.size) (N:=34) (ins:=[(1,.ref 1),(5,.ref 1)]) (xs:=[.ref [sQ h],.ref [.int .i64 (i:Int)]]) fo ⟨rfl,rfl,trivial⟩ (uV (bH6 h i)) (by kernel_rfl) (aa _) (hfin hJ hWs hG) hsz2 hdf2 ⟨t1,t5,trivial⟩ ?_)));intro a3 w3 us3 hag3 hb3 hsz3 hdf3 hr3 hrep3;have hus:=bG hr3;subst hus;have h10:a3.tmps.getD 10 undef=.bool (decide ((i:Int)<(h.length:Int))):=hrep3.1.1;have hk3:=bF.below (M:=fun k=>Ms s k\/X k) hb3;have hG3:=hG.eJ hk3;have hJ3:=hH.below hJ (by omega) hb3;have kp3:=kp.trans (Kp.below (M:=Ms s) hb3);have q0:=(aY hag3 0 (by kernel_rfl)).trans t0;have q1:(aC.aw [sQ h]).rep (fun k=>Ms s k\/X k) w3 (a3.tmps.getD 1 undef):=by rw[aY hag3 1 (by kernel_rfl)];exact aC.mono _ hk3 t1
  have q2:(aC.aw [sQ x]).rep (fun k=>Ms s k\/X k) w3 (a3.tmps.getD 2 undef):=by rw[aY hag3 2 (by kernel_rfl)];exact aC.mono _ hk3 t2
  have q3:(aC.aw [sQ d]).rep (fun k=>Ms s k\/X k) w3 (a3.tmps.getD 3 undef):=by rw[aY hag3 3 (by kernel_rfl)];exact aC.mono _ hk3 t3
  have q5:(aC.aw [.int .i64 (i:Int)]).rep (fun k=>Ms s k\/X k) w3 (a3.tmps.getD 5 undef):=by rw[aY hag3 5 (by kernel_rfl)];exact aC.mono _ hk3 t5
  have hWs3:=kp3.size;clear hJ kp t0 t1 t2 t3 t5 hb3 hag3 hr3 hrep3 hk3 hG;show Code.wpIn _ _ _ _ _ _ _;refine qX (t:=decide ((i:Int)<(h.length:Int))) h10 ?_;by_cases hlt:(i:Int)<(h.length:Int)
  rotate_left
  ·rw[cE hlt];obtain rfl:i=h.length:=by omega
   refine wE ?_;refine uU ?_;refine bodyPost_end (Aw rfl _ _ _) hdf3 ?_;exact⟨⟨_,rfl⟩,s,hJ3,kp3⟩
  rw[bV hlt];refine qh ?_;have hlt':i<h.length:=by omega
  show Code.wpIn _ _ _ _ _ _ _;refine tJ fun K9 hK9=>ng (cG (cb.2 (bU ji.wp (n0:=w3.heap.size) (N:=34) (ins:=[(1,.ref 1),(2,.ref 1),(3,.ref 1),(5,.ref 1)]) (xs:=[.ref [sQ h],.ref [sQ x],.ref [sQ d],.ref [.int .i64 (i:Int)]]) fo ⟨rfl,rfl,rfl,rfl,trivial⟩ (bP1 w3.heap.size h x d i A hA1 hA hh hd hs hhl hdl hi1 hlt') (by kernel_rfl) (aa _) (hfin hJ3 hWs3 hG3) hsz3 hdf3 ⟨q1,q2,q3,q5,trivial⟩ ?_)));intro a4 w4 us4 hag4 hb4 hsz4 hdf4 hr4 hrep4;have hus:=bG hr4;subst hus;obtain⟨b,hbn,hrow⟩:=aC.jt.rowAt hrep4.1;have hJ4:=hH.below hJ3 (by omega) hb4;have kp4:=kp3.trans (Kp.below (M:=Ms s) hb4);have hnr:=hH.near hJ3
  have hkb:bF (fun k=>Ms s k\/X k) w3 (Mb (fun k=>Ms s k\/X k) b) w4:=fun k o hk ho _=>by
   have hlt:=(cZ.1 ho).1;exact⟨fun h=>h.elim hk (by omega),(hb4.block k hlt).trans ho⟩
  have e0:=(aY hag4 0 (by kernel_rfl)).trans q0;have e1:(aC.aw [sQ h]).rep (Mb (fun k=>Ms s k\/X k) b) w4 (a4.tmps.getD 1 undef):=by rw[aY hag4 1 (by kernel_rfl)];exact aC.mono _ hkb q1
  have e2:(aC.aw [sQ x]).rep (Mb (fun k=>Ms s k\/X k) b) w4 (a4.tmps.getD 2 undef):=by rw[aY hag4 2 (by kernel_rfl)];exact aC.mono _ hkb q2
  have e3:(aC.aw [sQ d]).rep (Mb (fun k=>Ms s k\/X k) b) w4 (a4.tmps.getD 3 undef):=by rw[aY hag4 3 (by kernel_rfl)];exact aC.mono _ hkb q3
  have e5:(aC.aw [.int .i64 (i:Int)]).rep (Mb (fun k=>Ms s k\/X k) b) w4 (a4.tmps.getD 5 undef):=by rw[aY hag4 5 (by kernel_rfl)];exact aC.mono _ hkb q5
  have hY:=YieldAt.plain (m':=999) (hR (i-1) s w4 (a4.tmps.getD 6 undef) b _ (Wp h d x.length hi1 hlt') hJ4 (hrow.in fun k hk=>hk.elim (fun h=>.inl (.inl h)) fun h=>h.elim (fun h=>.inl (.inr h)) .inr) (fun h=>hrow.off (.inl h)) (.inl ⟨by omega,by omega⟩));have hone:=hrow.one;have hG4:=hG3.eJ hkb;clear hJ3 hJ4 hG3 kp3 q0 q1 q2 q3 q5 hag4 hr4 hrep4 h10 hrow hkb;obtain⟨t4,d4⟩:=a4;dsimp only at hsz4 hdf4 e0 e1 e2 e3 e5 hY hone;subst hdf4;show Code.wpIn _ _ _ _ _ _ _;rw[bS0 t4 hsz4,e0];generalize t4.getD 1 undef=y1 at e1|-;generalize t4.getD 2 undef=y2 at e2|-;generalize t4.getD 3 undef=y3 at e3|-;generalize t4.getD 5 undef=y5 at e5|-;generalize t4.getD 6 undef=y6 at hY hone|-;generalize t4.getD 4 undef=y4;generalize t4.getD 7 undef=y7;generalize t4.getD 8 undef=y8;generalize t4.getD 9 undef=y9;generalize t4.getD 10 undef=y10;generalize t4.getD 11 undef=y11;generalize t4.getD 12 undef=y12;generalize t4.getD 13 undef=y13;generalize t4.getD 14 undef=y14;generalize t4.getD 15 undef=y15;generalize t4.getD 16 undef=y16;generalize t4.getD 17 undef=y17;generalize t4.getD 18 undef=y18;generalize t4.getD 19 undef=y19;generalize t4.getD 20 undef=y20;generalize t4.getD 21 undef=y21;generalize t4.getD 22 undef=y22;generalize t4.getD 23 undef=y23;generalize t4.getD 24 undef=y24;generalize t4.getD 25 undef=y25;generalize t4.getD 26 undef=y26;generalize t4.getD 27 undef=y27;generalize t4.getD 28 undef=y28;generalize t4.getD 29 undef=y29;generalize t4.getD 30 undef=y30;generalize t4.getD 31 undef=y31;generalize t4.getD 32 undef=y32;generalize t4.getD 33 undef=y33;clear e0 hsz4 t4;replace hK9:Vl _:=hK9
  gi_wp2
  obtain⟨fnr,tmr,asr,bdr,hy,hRd⟩:=hY;rw[hy];refine⟨(fun h=>by cases h),?_⟩;refine hRd.mono ?_;rintro e w5 ⟨rfl,s',hJ5,kp5⟩;rw[show i-1+1=i by omega]at hJ5
  have hk5:bF (Mb (fun k=>Ms s k\/X k) b) w4 (fun k=>Ms s' k\/X k) w5:=fun k o hk ho _=>by
   have hlt:=(cZ.1 ho).1;obtain⟨h1,h2⟩:=kp5.same k hlt fun h=>hk (h.imp .inl id);exact⟨fun h=>h.elim h1 fun h=>hk (.inl (.inr h)),h2.trans ho⟩
  have hG5:=hG4.eJ hk5;have f1:=aC.mono _ hk5 e1;have f2:=aC.mono _ hk5 e2;have f3:=aC.mono _ hk5 e3;have f5:=aC.mono _ hk5 e5;have kp6:=kp4.step (.inl (by omega)) kp5;have hs6:=kp6.size;clear e1 e2 e3 e5 hRd hy kp4 kp5
  gi_wp2
  unfold Vl at hK9;refine hK9 _ _ ?_;clear hK9 K9;refine cb.2 (bU ji.wp (n0:=w5.heap.size) (N:=34) (ins:=[(5,.ref 1)]) (xs:=[.ref [.int .i64 (i:Int)]]) fo ⟨rfl,trivial⟩ (uV (bx5 i)) (by kernel_rfl) (aa _) (hfin hJ5 hs6 hG5) rfl rfl ⟨f5,trivial⟩ ?_);intro a6 w6 us6 hag6 hb6 hsz6 hdf6 hr6 hrep6;have hus:=bG hr6;subst hus;have hk6:=bF.below (M:=fun k=>Ms s' k\/X k) hb6;refine⟨h.length-(i+1),by omega,i+1,s',rfl,by omega,by omega,hsz6,hdf6,aY hag6 0 (by kernel_rfl),?_,?_,?_,?_,?_,?_,hG5.eJ hk6⟩
  ·rw[aY hag6 1 (by kernel_rfl)];exact aC.mono _ hk6 f1
  ·rw[aY hag6 2 (by kernel_rfl)];exact aC.mono _ hk6 f2
  ·rw[aY hag6 3 (by kernel_rfl)];exact aC.mono _ hk6 f3
  ·have:=hrep6.1;rw[show(((i+1:Nat):Int))=(i:Int)+1 by omega];exact this
  ·rw[show i+1-1=i by omega];exact hH.below hJ5 (by omega) hb6
  ·exact kp6.trans (Kp.below (M:=Ms s') hb6)
end Go.Sy
