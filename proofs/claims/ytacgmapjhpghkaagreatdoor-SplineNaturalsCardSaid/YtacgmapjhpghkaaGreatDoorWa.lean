/- Part. -/
import Derived.Test.YtacgmapjhpghkaaGreatDoorSe
import Derived.Test.YtacgmapjhpghkaaGreatDoorQc
set_option linter.all false
set_option maxRecDepth 100000
namespace Go.Sy
open Go Go.RowKit
variable{F:Fence}{n m:Nat}{P:j5}
abbrev iz(fn:FuncId)(tmps:iS)(ps:Array Tmp)(assign body:Code)(D:Nat)(st:LoopState)(pe:Option Code):Loop:={ state:=st,pending:=pe,fn,tmps,params:=ps,assign,body,defers:=D }
def cr4(P:j5)(l:Nat)(r:LoopState->Option Code->Loop)(R:Bool->Option Code->World->Prop):Exit->Act->World->Prop
 | .normal,_,W=>W.heap[l]?=some (.loop (r .busy none))/\R true none (W.putObj l (.loop (r .ready none)))
 | .ret,_,W=>W.heap[l]?=some (.loop (r .busy none))/\R false (some .ret) (W.putObj l (.loop (r .done (some .ret))))
 | .exit id,_,W=>W.heap[l]?=some (.loop (r .busy none))/\R false (some (.exit id)) (W.putObj l (.loop (r .done (some (.exit id)))))
 | _,_,_=>False
def WH{fn:FuncId}{tmps:iS}{ps:Array Tmp}{assign body:Code}{D l:Nat}{args:iS}{W:World}{R:Bool->Option Code->World->Prop}
  (hl:W.heap[l]?=some (.loop (iz fn tmps ps assign body D .ready none))) (hps:args.size=ps.size) (hF:F.fn fn)
  (h:assign.wpIn (F.inRound l) m P (Exit.then (fun a1 W1=>W1.heap[l]?=some (.loop (iz fn tmps ps assign body D .ready none)) /\
    body.wpIn (F.inRound l) m P (cr4 P l (iz fn tmps ps assign body D) R) a1 (W1.putObj l (.loop (iz fn tmps ps assign body D .busy none)))) (fun _ _ _=>False))
   { tmps:=(ps.zip args).foldl (fun t (p,v)=>t.setIfInBounds p v) tmps,defers:=[] } W) :
  YieldAt F m P l args W fun e W'=>∃b c,e=.returned (.bool b)/\R b c W':=by
 have hy:=run_yield (P:=P) (args:=args) hl hps;refine⟨fn,_,assign,body,hy,roundIn_of_wpIn hF (wpIn_mono h ?_)⟩;rintro e a1 W1 hp;cases e with
 | normal=>
   obtain⟨hl1,hb⟩:=hp;refine⟨_,run_beginRound hl1 rfl,wpIn_mono hb ?_⟩;rintro e a3 W3 hp;cases e with
   | normal=>
     obtain⟨hl3,hR⟩:=hp;exact⟨_,_,PW (P:=P) none hl3,true,none,rfl,hR⟩
   | ret=>
     obtain⟨hl3,hR⟩:=hp;exact⟨_,_,PW (P:=P) (some .ret) hl3,false,_,rfl,hR⟩
   | exit id=>
     obtain⟨hl3,hR⟩:=hp;exact⟨_,_,PW (P:=P) (some (.exit id)) hl3,false,_,rfl,hR⟩
   | goto t=>exact hp.elim
   | panic ch=>exact hp.elim
   | outgrown=>exact hp.elim
 | ret=>exact hp.elim
 | exit id=>exact hp.elim
 | goto t=>exact hp.elim
 | panic ch=>exact hp.elim
 | outgrown=>exact hp.elim
def XS{g:j6}{ps:Array Tmp}{assign body:Code}{Q:iN}{a:Act}{w:World}
  (hro:F.round=none) (h1:1<=n) {gf:Nat} {lb:iS} (hg:a.eval g=.func (.func gf) #[] lb) (hFg:F.fn gf) (eg:∀args w,(callFunc gf args).run P w=.ok (.enter gf args) w)
  (h:∀(fn:FuncId)(D l:Nat)(W1:World),F.fn fn->D=w.heap.size->l=w.heap.size+1->W1.heap.size=w.heap.size+2->Below w.heap.size w W1->W1.heap[D]?=some (.deferred (some [])) ->
   W1.heap[l]?=some (.loop (iz fn a.tmps ps assign body D .ready none)) ->
   CallsIn F (n-1) P gf (#[.func (.yield l) #[] #[]]++lb) W1 fun e W2=>(∃v,e=.returned v) /\
    ((W2.heap[l]?=some (.loop (iz fn a.tmps ps assign body D .ready none))/\Q .normal { a with defers:={ target:=.collected D,args:=#[] } :: a.defers } (W2.putObj l (.loop (iz fn a.tmps ps assign body D .exhausted none)))) \/
    (∃c,W2.heap[l]?=some (.loop (iz fn a.tmps ps assign body D .done (some c)))/\c.wpIn F n P Q { a with defers:={ target:=.collected D,args:=#[] } :: a.defers } (W2.putObj l (.loop (iz fn a.tmps ps assign body D .exhausted (some c))))))) :
  (Code.rangeFunc g ps assign body).wpIn F n P Q a w:=by
 refine wpIn_rangeFunc ?_;intro fn hfn;rw[hro];obtain⟨W1,hW1⟩:∃W1,(w.alloc (.deferred (some []))).alloc (.loop (iz fn a.tmps ps assign body w.heap.size .ready none))=W1:=⟨_,rfl⟩
 have hL1:W1.heap[w.heap.size+1]?=some (.loop (iz fn a.tmps ps assign body w.heap.size .ready none)):=by
  rw[<-hW1];have:=World.alloc_heap_new (w.alloc (.deferred (some []))) (.loop (iz fn a.tmps ps assign body w.heap.size .ready none));rwa[cz]at this
 have hK1:W1.heap[w.heap.size]?=some (.deferred (some [])):=by
  rw[<-hW1];exact(Below.heap_alloc _ _ _ aT).trans (World.alloc_heap_new w _)
 have hb1:Below w.heap.size w W1:=by
  rw[<-hW1];exact((cS _ w).alloc (ah _) _).alloc aT _
 have tI:W1.heap.size=w.heap.size+2:=by rw[<-hW1];simp
 refine⟨w.heap.size+1,[{ target:=.collected w.heap.size,args:=#[] }],W1,{ target:=.fn (.func gf) lb,args:=#[.func (.yield (w.heap.size+1)) #[] #[]] },W1,gf,
  #[.func (.yield (w.heap.size+1)) #[] #[]]++lb,W1,?_,?_,?_,?_,fun _=>h1,?_⟩
 .rw[<-hW1];exact run_enterLoop_outer _ _ _ _ _
 .simp only[resolve,hg];simp[go_sem]
 .intro f' hf';simp[Target.leads]at hf';subst hf';exact hFg
 .simp[invoke,go_sem,eg]
 .refine(h fn _ _ W1 hfn rfl rfl tI hb1 hK1 hL1).mono ?_;rintro e W2 ⟨⟨v,rfl⟩,(⟨hl,hq⟩ | ⟨c,hl,hq⟩)⟩
  .exact⟨none,_,by have:=run_endLoop (P:=P) hl aT;exact this,hq⟩
  .exact⟨some c,_,by have:=run_endLoop (P:=P) hl aT;exact this,hq⟩
abbrev Mb(M:c6)(g:Nat)(k:Nat):Prop:=M k\/k=g
structure Kp(M:c6)(W:World)(M':c6)(W':World):Prop where
 os:W'.os=W.os
 tape:W'.tape=W.tape
 output:W'.output=W.output
 size:W.heap.size<=W'.heap.size
 same:∀k,k<W.heap.size->¬M k->¬M' k/\W'.heap[k]?=W.heap[k]?
def Kp.refl(M:c6)(W:World):Kp M W M W:=⟨rfl,rfl,rfl,ah _,fun _ _ h=>⟨h,rfl⟩⟩
def Kp.trans{M M' M'':c6}{W W' W'':World}(h:Kp M W M' W')(k:Kp M' W' M'' W''):Kp M W M'' W'':=
 ⟨k.os.trans h.os,k.tape.trans h.tape,k.output.trans h.output,bG h.size k.size,fun j hj hm=>by
  obtain⟨h1,h2⟩:=h.same j hj hm;obtain⟨k1,k2⟩:=k.same j (cM hj h.size) h1;exact⟨k1,k2.trans h2⟩⟩
def Kp.dJ{M M':c6}{W W':World}(h:Kp M W M' W'):av M W M' W':=fun b o hb ho _=>by
 obtain⟨h1,h2⟩:=h.same b (cJ.1 ho).1 hb;exact⟨h1,h2.trans ho⟩
def Kp.br5{M N M':c6}{W W':World}(h:Kp M W M' W')(hN:∀k,M k->N k):Kp N W M' W':=
 ⟨h.os,h.tape,h.output,h.size,fun k hk hn=>h.same k hk fun hm=>hn (hN k hm)⟩
def Kp.below{M:c6}{W W':World}(h:Below W.heap.size W W'):Kp M W M W':=⟨h.os,h.tape,h.output,h.size,fun k hk hm=>⟨hm,h.block k hk⟩⟩
def Kp.grown{M:c6}{W W':World}{g:Nat}(hg:M g)(h:W.grownBy W' (some g)):Kp M W M W':=⟨h.os,h.tape,h.output,h.size,fun k hk hm=>⟨hm,h.block k hk fun e=>hm (cI e▸hg)⟩⟩
def Kp.step{N M M':c6}{W0 W W':World}{b:Nat}(h:Kp N W0 M W)(hb:W0.heap.size<=b\/N b)(k:Kp (Mb M b) W M' W'):Kp N W0 M' W':=
 ⟨k.os.trans h.os,k.tape.trans h.tape,k.output.trans h.output,bG h.size k.size,fun j hj hn=>by
  obtain⟨h1,h2⟩:=h.same j hj hn;obtain⟨k1,k2⟩:=k.same j (cM hj h.size) fun e=>e.elim h1 fun e=>by subst e;exact hb.elim (fun h=>O) hn
  exact⟨k1,k2.trans h2⟩⟩
def wR{id:Nat}{Q:iN}{a:Act}{w:World}(h:Q .normal a w):Exit.inBlock id Q (.exit id) a w:=by
 show(if id=id then Q .normal a w else Q (.exit id) a w);rw[aF rfl];exact h
def km{K1 K2:j4}{id:Nat}{Q:iN}{a:Act}{w:World}(h:Q .normal a w):Exit.then K1 (Exit.then K2 (Exit.inBlock id Q)) (.exit id) a w:=wR h
def Mt(p:Prop):Prop:=p
def FU{W W':World}(hb:Below W.heap.size W W')(g:Option Nat):W.grownBy W' g:=⟨hb.os,hb.tape,hb.output,hb.size,fun j hj _=>hb.block j hj⟩
structure sq(E sz:Nat)(ts:List (List aC))(M:c6)(W:World)(v:Value)(b:Nat):Prop where
 off:¬M b
 own:v.ownBlock=some b
 full:∃cur:Array Value,W.heap[b]?=some (.cells cur E (0,0))/\cur.size=ts.length*sz
 row:∃xs,W.ownsRow 0 E sz v ts.length xs/\(∀t∈ts,t.length=sz)/\an (Mb M b) W ts.flatten xs
def sq.one{E sz:Nat}{ts:List (List aC)}{M:c6}{W:World}{v:Value}{b:Nat}(h:sq E sz ts M W v b):v.oneCell'=true:=by
 obtain⟨xs,⟨_,h1⟩,_⟩:=h.row;rcases h1 with⟨rfl,_⟩ | ⟨g,cap,cur,rfl,_⟩<;>rfl
def sq.lt{E sz:Nat}{ts:List (List aC)}{M:c6}{W:World}{v:Value}{b:Nat}(h:sq E sz ts M W v b):b<W.heap.size:=by
 obtain⟨xs,ho,_⟩:=h.row;exact(ho.lt b h.own).2
structure dH(E sz:Nat)(ts:List (List aC))(N:c6)(W:World)(v:Value)(b:Nat):Prop where
 own:v.ownBlock=some b
 full:∃cur:Array Value,W.heap[b]?=some (.cells cur E (0,0))/\cur.size=ts.length*sz
 row:∃xs,W.ownsRow 0 E sz v ts.length xs/\(∀t∈ts,t.length=sz)/\an N W ts.flatten xs
def oD{W W':World}{base E sz n b:Nat}{v:Value}{xs:j0}(h:W.ownsRow base E sz v n xs)(ho:v.ownBlock=some b)(hb:W'.heap[b]?=W.heap[b]?):W'.ownsRow base E sz v n xs:=by
 refine⟨h.1,?_⟩;rcases h.2 with hn | ⟨g,cap,cur,rfl,hbg,hg,rest⟩
 .exact .inl hn
 .have:g=b:=cI ho;subst this;exact .inr ⟨g,cap,cur,rfl,hbg,hb.trans hg,rest⟩
def dH.mono{E sz:Nat}{ts:List (List aC)}{N N':c6}{W W':World}{v:Value}{b:Nat}(h:dH E sz ts N W v b)(hk:av N W N' W')(hb:W'.heap[b]?=W.heap[b]?):dH E sz ts N' W' v b:=by
 obtain⟨xs,h1,h2,h3⟩:=h.row;obtain⟨cur,hc,hcs⟩:=h.full;exact⟨h.own,⟨cur,hb.trans hc,hcs⟩,xs,oD h1 h.own hb,h2,h3.mono hk⟩
def dH.lt{E sz:Nat}{ts:List (List aC)}{N:c6}{W:World}{v:Value}{b:Nat}(h:dH E sz ts N W v b):b<W.heap.size:=by
 obtain⟨xs,ho,_⟩:=h.row;exact(ho.lt b h.own).2
def dH.at{E sz:Nat}{ts:List (List aC)}{N M:c6}{W:World}{v:Value}{b:Nat}(h:dH E sz ts N W v b)(hN:∀k,Mb M b k->N k)(hb:¬M b):sq E sz ts M W v b:=by
 obtain⟨xs,h1,h2,h3⟩:=h.row;exact⟨hb,h.own,h.full,xs,h1,h2,h3.mono fun k o hk ho _=>⟨fun h=>hk (hN k h),ho⟩⟩
structure Host(n1:Nat){σ:Type}(Ms:σ->Nat->Prop)(nx:σ->Nat)(J:Nat->σ->World->Prop):Prop where
 yi:∀{i s W},J i s W->bf (Ms s) W
 near:∀{i s W},J i s W->nx s<=W.heap.size
 grow:∀{i s W W'}{g:Nat},J i s W->n1<=g->¬Ms s g->(∀o:Obj,W.heap[g]?=some o->o.isCells=false)->W.grownBy W' (some g)->J i s W'
def Host.below{n1:Nat}{σ:Type}{Ms:σ->Nat->Prop}{nx:σ->Nat}{J:Nat->σ->World->Prop}(h:Host n1 Ms nx J){i:Nat}{s:σ}{W W':World}(hj:J i s W)(hn:n1<=W.heap.size)(hb:Below W.heap.size W W'):J i s W':=
 h.grow (g:=W.heap.size) hj hn (fun hm=>Nat.lt_irrefl _ ((h.yi hj).1 _ hm)) (fun o ho=>by have:=(cJ.1 ho).1;omega) (FU hb _)
def bI6(P:j5)(E sz:Nat)(rows:List (List (List aC)))(S X:c6)(l n1:Nat){σ:Type}(Ms:σ->Nat->Prop)(nx:σ->Nat)(J:Nat->σ->World->Prop):Prop:=
 ∀i s W v b ts,rows[i]?=some ts->J i s W->dH E sz ts (fun k=>Ms s k\/X k\/k=b) W v b->¬Ms s b->((n1<=b/\nx s<=b)\/S b)->YieldAt Fence.wide 0 P l #[v] W fun e W'=>e=.returned (.bool true)/\∃s',J (i+1) s' W'/\Kp (Mb (Ms s) b) W (Ms s') W'
def Gen(P:j5)(E sz:Nat)(gf:Nat)(lb:iS)(rows:List (List (List aC)))(S X:c6)(M:c6)(w:World):Prop:=
 ∀(W:World){σ:Type}(Ms:σ->Nat->Prop)(nx:σ->Nat)(s0:σ)(l:Nat)(J:Nat->σ->World->Prop),Below w.heap.size w W->(∀k,k<w.heap.size->Ms s0 k->M k)->Host W.heap.size Ms nx J->bI6 P E sz rows S X l W.heap.size Ms nx J->J 0 s0 W ->
  Calls P gf (#[.func (.yield l) #[] #[]]++lb) W fun e W'=>(∃v,e=.returned v)/\∃s',J rows.length s' W'/\Kp (fun k=>Ms s0 k\/S k) W (Ms s') W'
def dH.one{E sz:Nat}{ts:List (List aC)}{N:c6}{W:World}{v:Value}{b:Nat}(h:dH E sz ts N W v b):v.oneCell'=true:=by
 obtain⟨xs,⟨_,h1⟩,_⟩:=h.row;rcases h1 with⟨rfl,_⟩ | ⟨g,cap,cur,rfl,_⟩<;>rfl
def sq.in{E sz:Nat}{ts:List (List aC)}{M N:c6}{W:World}{v:Value}{b:Nat}(h:sq E sz ts M W v b)(hN:∀k,N k->Mb M b k):dH E sz ts N W v b:=by
 obtain⟨xs,h1,h2,h3⟩:=h.row;exact⟨h.own,h.full,xs,h1,h2,h3.mono fun k o hk ho _=>⟨fun h=>hk (hN k h),ho⟩⟩
def dH.less{E sz:Nat}{ts:List (List aC)}{N N':c6}{W:World}{v:Value}{b:Nat}(h:dH E sz ts N W v b)(hN:∀k,N' k->N k):dH E sz ts N' W v b:=h.mono (fun k o hk ho _=>⟨fun h=>hk (hN k h),ho⟩) rfl
def dH.other{E sz:Nat}{ts:List (List aC)}{N:c6}{W W':World}{v:Value}{b:Nat}(h:dH E sz ts N W v b)(hk:∀(j:Nat)(o:Obj),W.heap[j]?=some o->o.isCells=true->W'.heap[j]?=W.heap[j]?):dH E sz ts N W' v b:=by
 obtain⟨xs,h1,h2,h3⟩:=h.row;obtain⟨cur0,hc0,hcs0⟩:=h.full;refine⟨h.own,⟨cur0,(hk b _ hc0 rfl).trans hc0,hcs0⟩,xs,⟨h1.1,?_⟩,h2,h3.mono fun k o hm ho hc=>⟨hm,(hk k o ho hc).trans ho⟩⟩;rcases h1.2 with hn | ⟨g,cap,cur,e,hbg,hg,rest⟩
 .exact .inl hn
 .exact .inr ⟨g,cap,cur,e,hbg,(hk g _ hg rfl).trans hg,rest⟩
def YieldAt.any{P:j5}{m m' l:Nat}{args:iS}{W:World}{R:Ending->World->Prop}(l':Nat)(h:YieldAt Fence.wide m P l args W R):YieldAt (Fence.wide.inRound l') m' P l args W R:=by
 obtain⟨fn,tmps,assign,body,hy,hr⟩:=h;exact⟨fn,tmps,assign,body,hy,trivial,fun c cs _=>hr.2 c cs (room_wide _)⟩
def YieldAt.plain{P:j5}{m m' l:Nat}{args:iS}{W:World}{R:Ending->World->Prop}(h:YieldAt Fence.wide m P l args W R):YieldAt Fence.wide m' P l args W R:=by
 obtain⟨fn,tmps,assign,body,hy,hr⟩:=h;exact⟨fn,tmps,assign,body,hy,trivial,fun c cs _=>hr.2 c cs (room_wide _)⟩
def YieldAt.imp{P:j5}{m m' l:Nat}{args:iS}{W:World}{R R':Ending->World->Prop}(h:YieldAt Fence.wide m P l args W R)(hR:∀e w,R e w->R' e w):YieldAt Fence.wide m' P l args W R':=by
 obtain⟨fn,tmps,assign,body,hy,hr⟩:=h;refine⟨fn,tmps,assign,body,hy,trivial,fun c cs _=>?_⟩;obtain⟨e,w',fr,hx⟩:=hr.2 c cs (room_wide _);exact⟨e,w',hR e w' fr,hx⟩
def sq.other{E sz:Nat}{ts:List (List aC)}{M:c6}{W W':World}{v:Value}{b:Nat}(h:sq E sz ts M W v b)(hk:∀(j:Nat)(o:Obj),W.heap[j]?=some o->o.isCells=true->W'.heap[j]?=W.heap[j]?):sq E sz ts M W' v b:=by
 obtain⟨xs,h1,h2,h3⟩:=h.row;obtain⟨cur0,hc0,hcs0⟩:=h.full;refine⟨h.off,h.own,⟨cur0,(hk b _ hc0 rfl).trans hc0,hcs0⟩,xs,?_,h2,h3.mono fun k o hm ho hc=>⟨hm,(hk k o ho hc).trans ho⟩⟩;refine⟨h1.1,?_⟩;rcases h1.2 with hn | ⟨g,cap,cur,e,hbg,hg,rest⟩
 .exact .inl hn
 .exact .inr ⟨g,cap,cur,e,hbg,(hk g _ hg rfl).trans hg,rest⟩
abbrev Mx(M:c6)(bs:c7)(n2:Nat)(k:Nat):Prop:=M k\/n2<=k\/k∈bs
structure WJ(n2:Nat)(lo:Obj)(N:c6)(W0:World)(yl mv p2 p3:Value)(au:j0)(bs:c7)(E sz:Nat)(rows:List (List (List aC)))(fr:Nat)(M:c6)(W:World):Prop where
 big:n2+2<=W.heap.size
 hD:W.heap[n2]?=some (.deferred (some []))
 hl:W.heap[n2+1]?=some lo
 nD:¬M n2
 nl:¬M (n2+1)
 q3:(aC.aw [.exact yl]).rep (Mx M bs n2) W p3
 q2:(aC.aw [.exact mv]).rep (Mx M bs n2) W p2
 qm:(aC.slice 1 (au.map fun v=>[.exact v])).rep (Mx M bs n2) W mv
 qr:∀(j:Nat)(v:Value)(b:Nat)(ts:List (List aC)),fr<=j->au[j]?=some v->bs[j]?=some b->rows[j]?=some ts->b<n2/\¬M b/\dH E sz ts (Mx M bs n2) W v b
 kp:Kp N W0 M W
section
variable{n2:Nat}{lo lo':Obj}{N:c6}{W0:World}{yl mv p2 p3:Value}{au:j0}{bs:c7}{E sz:Nat}{rows:List (List (List aC))}{fr fr':Nat}{M M':c6}{W W':World}
def WJ.to(h:WJ n2 lo N W0 yl mv p2 p3 au bs E sz rows fr M W)(hs:W.heap.size<=W'.heap.size)(hD:W'.heap[n2]?=some (.deferred (some [])))(hl:W'.heap[n2+1]?=some lo')(nD:¬M' n2)(nl:¬M' (n2+1))(hf:fr<=fr')
  (hk:∀k,k<n2->¬M k->k ∉ bs->¬M' k/\W'.heap[k]?=W.heap[k]?) (hr:∀j b,fr'<=j->bs[j]?=some b->b<n2->¬M b->¬M' b/\W'.heap[b]?=W.heap[b]?) (kp:Kp N W0 M' W'):WJ n2 lo' N W0 yl mv p2 p3 au bs E sz rows fr' M' W':=by
 have hke:av (Mx M bs n2) W (Mx M' bs n2) W':=fun k o hm ho _=>by
  have h1:¬M k:=fun h=>hm (.inl h);have h2:k<n2:=Rs fun h=>hm (.inr (.inl h));have h3:k ∉ bs:=fun h=>hm (.inr (.inr h));obtain⟨h4,h5⟩:=hk k h2 h1 h3;exact⟨fun h=>h.elim h4 fun h=>h.elim (fun h=>O) h3,h5.trans ho⟩
 refine⟨by have:=h.big;omega,hD,hl,nD,nl,aC.mono _ hke h.q3,aC.mono _ hke h.q2,aC.mono _ hke h.qm,fun j v b ts hj hv hb ht=>?_,kp⟩;obtain⟨h1,h2,h3⟩:=h.qr j v b ts O hv hb ht;obtain⟨h4,h5⟩:=hr j b hj hb h1 h2;exact⟨h1,h4,h3.mono hke h5⟩
def WJ.grow(h:WJ n2 lo N W0 yl mv p2 p3 au bs E sz rows fr M W)(hW:W0.heap.size<=n2){g:Nat}(hg:n2+2<=g)(hb:W.grownBy W' (some g)):WJ n2 lo N W0 yl mv p2 p3 au bs E sz rows fr M W':=by
 have hbig:=h.big;have hsame:∀k,k<W.heap.size->k≠g->W'.heap[k]?=W.heap[k]?:=fun k hk hne=>hb.block k hk fun e=>hne (cI e);refine h.to hb.size ((hsame _ O O).trans h.hD) ((hsame _ O O).trans h.hl) h.nD h.nl (ah _) (fun k hk hm _=>⟨hm,hsame _ O O⟩) (fun j b hj hbj hbn hm=>⟨hm,hsame b O O⟩) ?_;have kp:=h.kp
 exact⟨hb.os.trans kp.os,hb.tape.trans kp.tape,hb.output.trans kp.output,bG kp.size hb.size,fun k hk hn=>by
  obtain⟨h1,h2⟩:=kp.same k hk hn;exact⟨h1,(hsame k O O).trans h2⟩⟩
def WJ.ZP(h:WJ n2 lo N W0 yl mv p2 p3 au bs E sz rows fr M W)(hW:W0.heap.size<=n2)(lo':Obj):WJ n2 lo' N W0 yl mv p2 p3 au bs E sz rows fr M (W.putObj (n2+1) lo'):=by
 have hbig:=h.big;have hp:∀j,j≠n2+1->(W.putObj (n2+1) lo').heap[j]?=W.heap[j]?:=fun j hj=>mE hj;refine h.to (by simp[World.putObj]) ((hp _ O).trans h.hD) (BV O) h.nD h.nl (ah _) (fun k hk hm _=>⟨hm,hp _ O⟩) (fun j b hj hbj hbn hm=>⟨hm,hp b O⟩) ?_;have kp:=h.kp
 exact⟨kp.os,kp.tape,kp.output,by simp only[qU];exact kp.size,fun k hk hn=>by
  obtain⟨h1,h2⟩:=kp.same k hk hn;exact⟨h1,(hp k O).trans h2⟩⟩
def WJ.step(h:WJ n2 lo N W0 yl mv p2 p3 au bs E sz rows fr M W){b:Nat}(hb1:b≠n2)(hb2:b≠n2+1)(hbx:n2<=b\/b∈bs)(hbk:W0.heap.size<=b\/N b)(hf:fr<=fr')(hne:∀(j b':Nat),fr'<=j->bs[j]?=some b'->b'<n2->b'≠b)(k:Kp (Mb M b) W M' W'):WJ n2 lo N W0 yl mv p2 p3 au bs E sz rows fr' M' W':=by
 have hbig:=h.big;obtain⟨d1,d2⟩:=k.same n2 O fun e=>e.elim h.nD (fun e=>hb1 e.symm);obtain⟨l1,l2⟩:=k.same (n2+1) O fun e=>e.elim h.nl (fun e=>hb2 e.symm);refine h.to k.size (d2.trans h.hD) (l2.trans h.hl) d1 l1 hf (fun j hj hm hn=>k.same j O fun e=>e.elim hm fun e=>by subst e;exact hbx.elim (fun h=>O) hn) (fun j b' hj hbj hbn hm=>k.same b' O fun e=>e.elim hm (hne j b' hj hbj hbn)) (h.kp.step hbk k)
end
theorem BG{M:c6}{w:World}{sz:Nat}:∀{ts:List (List aC)}{xs:j0},(∀t∈ts,t.length=sz)->an M w ts.flatten xs->∀(i:Nat)(t:List aC),ts[i]?=some t->t.length=sz/\an M w t ((xs.drop (i*sz)).take sz)
 | t0::ts,xs,hl,h,0,t,ht=>by
   simp only[nJ,aZ]at ht;subst ht;have h0:=hl t0 cE;have h1:=h.take sz;rw[gX,xg O,dL O]at h1;exact⟨h0,by simpa using h1⟩
 | t0::ts,xs,hl,h,i+1,t,ht=>by
   have h0:=hl t0 cE;have h1:=h.drop sz;rw[gX,sE O,RP O,List.nil_append]at h1;have:=BG (fun t ht=>hl t (cg _ ht)) h1 i t (by simpa using ht);rw[gu]at this
   rwa[show(i+1)*sz=sz+i*sz by rw[bt];omega]
 | [],_,_,_,i,t,ht=>by simp at ht
def aC.own(n0 E sz:Nat)(ts:List (List aC)):aC where
 rep:=fun M w v=>∃(b cap:Nat)(cur:iS),v=.slice (some ⟨b,0,none⟩) ts.length cap/\n0<=b/\¬M b/\w.heap[b]?=some (.cells cur E (0,0))/\ts.length<=cap/\cap<=maxLen/\cur.size=cap*sz/\(∀t∈ts,t.length=sz)/\an (Mb M b) w ts.flatten (cur.toList.take (ts.length*sz))
 mono:=by
  rintro M w M' w' v hk ⟨b,cap,cur,rfl,h1,h2,h3,h4,h5,h6,h7,h8⟩;obtain⟨k1,k2⟩:=hk b _ h2 h3 rfl;refine⟨b,cap,cur,rfl,h1,k1,k2,h4,h5,h6,h7,h8.mono fun k o hkm ho hc=>?_⟩;obtain⟨k3,k4⟩:=hk k o (fun h=>hkm (.inl h)) ho hc;exact⟨fun h=>h.elim k3 (fun e=>hkm (.inr e)),k4⟩
 one:=by
  rintro M w v ⟨b,cap,cur,rfl,_⟩;rfl
def aC.own.slice{n0 E sz:Nat}{ts:List (List aC)}{M:c6}{w:World}{v:Value}(h:(aC.own n0 E sz ts).rep M w v):(aC.slice sz ts).rep M w v:=by
 obtain⟨b,cap,cur,rfl,h1,h2,h3,h4,h5,h6,h7,h8⟩:=h;refine⟨_,cap,rfl,h4,h5,.inr ⟨b,0,cur,E,(0,0),rfl,h2,h3,fun i t ht=>?_⟩⟩;obtain⟨g1,g2⟩:=BG h7 (h8.mono fun k o hk ho _=>⟨fun h=>hk (.inl h),ho⟩) i t ht;refine⟨g1,?_⟩;have hi:=(cL.1 ht).1;have hle:(i+1)*sz<=ts.length*sz:=cY _ hi;rw[bt,ee]at hle;rw[mg,jh,de O]at g2
 rwa[bW]
def aC.own.sub{n0 E sz:Nat}{ts:List (List aC)}:(aC.own n0 E sz ts).Sub (.slice sz ts):=
 .inr ⟨fun M w v h=>by obtain⟨b,cap,cur,rfl,_⟩:=h;exact⟨_,_,_,rfl⟩,fun M w v h=>aC.own.slice h⟩
def aC.own.less{n0 n1 E sz:Nat}{ts:List (List aC)}(hn:n1<=n0){M:c6}{w:World}{v:Value}(h:(aC.own n0 E sz ts).rep M w v):(aC.own n1 E sz ts).rep M w v:=by
 obtain⟨b,cap,cur,rfl,h1,rest⟩:=h;exact⟨b,cap,cur,rfl,bG hn h1,rest⟩
def aC.own.row{n0 E sz:Nat}{ts:List (List aC)}{M:c6}{w:World}{v:Value}(h:(aC.own n0 E sz ts).rep M w v):∃b,n0<=b/\¬M b/\v.ownBlock=some b/\∃xs,w.ownsRow 0 E sz v ts.length xs/\(∀t∈ts,t.length=sz)/\an (Mb M b) w ts.flatten xs:=by
 obtain⟨b,cap,cur,rfl,h1,h2,h3,h4,h5,h6,h7,h8⟩:=h;have hm:=cY sz h4;exact⟨b,h1,h2,rfl,_,⟨by rw[bh,cK (xs:=cur),h6];omega,.inr ⟨b,cap,cur,rfl,dM _,h3,h4,h5,h6,rfl⟩⟩,h7,h8⟩
def aC.jL(n0 E sz:Nat)(ts:List (List aC)):aC where
 rep:=fun M w v=>∃(b:Nat)(cur:iS),v=.slice (some ⟨b,0,none⟩) ts.length ts.length/\n0<=b/\¬M b/\w.heap[b]?=some (.cells cur E (0,0))/\ts.length<=maxLen/\cur.size=ts.length*sz/\(∀t∈ts,t.length=sz)/\an (Mb M b) w ts.flatten cur.toList
 mono:=by
  rintro M w M' w' v hk ⟨b,cur,rfl,h1,h2,h3,h5,h6,h7,h8⟩;obtain⟨k1,k2⟩:=hk b _ h2 h3 rfl;refine⟨b,cur,rfl,h1,k1,k2,h5,h6,h7,h8.mono fun k o hkm ho hc=>?_⟩;obtain⟨k3,k4⟩:=hk k o (fun h=>hkm (.inl h)) ho hc;exact⟨fun h=>h.elim k3 (fun e=>hkm (.inr e)),k4⟩
 one:=by
  rintro M w v ⟨b,cur,rfl,_⟩;rfl
def aC.jL.own{n0 E sz:Nat}{ts:List (List aC)}{M:c6}{w:World}{v:Value}(h:(aC.jL n0 E sz ts).rep M w v):(aC.own n0 E sz ts).rep M w v:=by
 obtain⟨b,cur,rfl,h1,h2,h3,h5,h6,h7,h8⟩:=h;exact⟨b,_,cur,rfl,h1,h2,h3,ah _,h5,h6,h7,by rwa[dL (by rw[cK (xs:=cur),h6];omega)]⟩
def aC.jL.slice{n0 E sz:Nat}{ts:List (List aC)}{M:c6}{w:World}{v:Value}(h:(aC.jL n0 E sz ts).rep M w v):(aC.slice sz ts).rep M w v:=aC.own.slice (aC.jL.own h)
def aC.jL.sub{n0 E sz:Nat}{ts:List (List aC)}:(aC.jL n0 E sz ts).Sub (.slice sz ts):=
 .inr ⟨fun M w v h=>by obtain⟨b,cur,rfl,_⟩:=h;exact⟨_,_,_,rfl⟩,fun M w v h=>aC.jL.slice h⟩
def aC.jL.less{n0 n1 E sz:Nat}{ts:List (List aC)}(hn:n1<=n0){M:c6}{w:World}{v:Value}(h:(aC.jL n0 E sz ts).rep M w v):(aC.jL n1 E sz ts).rep M w v:=by
 obtain⟨b,cur,rfl,h1,rest⟩:=h;exact⟨b,cur,rfl,bG hn h1,rest⟩
def aC.jL.rowAt{n0 E sz:Nat}{ts:List (List aC)}{M:c6}{w:World}{v:Value}(h:(aC.jL n0 E sz ts).rep M w v):∃b,n0<=b/\sq E sz ts M w v b:=by
 obtain⟨b,cur,rfl,h1,h2,h3,h5,h6,h7,h8⟩:=h;have hl:cur.toList.length=ts.length*sz:=by rw[cK (xs:=cur),h6]
 exact⟨b,h1,h2,rfl,⟨cur,h3,h6⟩,_,⟨hl,.inr ⟨b,ts.length,cur,rfl,dM _,h3,ah _,h5,h6,dL (ud hl)⟩⟩,h7,h8⟩
def qM(P:j5)(f:FuncId)(args:List aQ)(out:Nat->List aQ):Prop:=
 (∀ar w,(callFunc f ar).run P w=.ok (.enter f ar) w)/\∀(M:c6)(w:World)(vs:j0),bf M w->cC M w args vs->Calls P f vs.toArray w fun e w'=>Below w.heap.size w w'/\oU M w' (.ret (out w.heap.size)) e
def Xc{P:j5}{post:Out->Prop}{bk:List (List aQ->Prop)}{τ:Env}{ty:Nat}{last:Bool}{k:Tr}{f:Nat}{args:List SW}{sh:List (Option Nat)}{x:j6}{xs:Array Operand}{xY:Array TypeId}{ts:List aQ}
  (hp:post (.DH f (args.map (pw τ)) ts)) (hs:ts.map aQ.shape=sh.map some) (hk:vc P post k (τ++ts) bk):vc P post (.need (.call f args sh) (.call ⟨.value x,xs,xY⟩) ty last k) τ bk:=
 .inr (.inr ⟨f,args,sh,ts,rfl,⟨_,_,rfl,rfl⟩,hs,hp,hk⟩)
def iE(P:j5)(n0:Nat)(out:Out)(o:Out):Prop:=bD o out\/∃f args ts,o=.DH f args ts/\(∀ar w,(callFunc f ar).run P w=.ok (.enter f ar) w)/\∀(M:c6)(w:World)(vs:j0),n0<=w.heap.size->bf M w->cC M w args vs->Calls P f vs.toArray w fun e w'=>Below w.heap.size w w'/\oU M w' (.ret ts) e
def iE.DH{P:j5}{n0:Nat}{out:Out}{f:FuncId}{args:List aQ}{o:Nat->List aQ}{ts:List aQ}(h:qM P f args o)(hl:∀n1,n0<=n1->∀(M:c6)(w:World)(vs:j0),cC M w (o n1) vs->cC M w ts vs):iE P n0 out (.DH f args ts):=
 .inr ⟨f,args,ts,rfl,h.1,fun M w vs hn hM hv=>(h.2 M w vs hM hv).mono fun e w' ⟨h1,us,h2,h3⟩=>⟨h1,us,h2,hl _ hn M w' us h3⟩⟩
theorem XT{n0 E sz:Nat}{ts:List (List aC)}:∀n1,n0<=n1->∀(M:c6)(w:World)(vs:j0),cC M w [.one (.own n1 E sz ts)] vs->cC M w [.one (.own n0 E sz ts)] vs
 | n1,hn,M,w,[v],h=>⟨aC.own.less hn h.1,trivial⟩
 | _,_,_,_,[],h=>h.elim
 | _,_,_,_,_::_::_,h=>h.2.elim
theorem oI{n0 E sz:Nat}{ts:List (List aC)}:∀n1,n0<=n1->∀(M:c6)(w:World)(vs:j0),cC M w [.one (.jL n1 E sz ts)] vs->cC M w [.one (.jL n0 E sz ts)] vs
 | n1,hn,M,w,[v],h=>⟨aC.jL.less hn h.1,trivial⟩
 | _,_,_,_,[],h=>h.elim
 | _,_,_,_,_::_::_,h=>h.2.elim
def iE.ct3{P:j5}{n0:Nat}{out:Out}{M0:eu}{w0:World}(hn:n0<=w0.heap.size):yA P (iE P n0 out) M0 w0:=by
 rintro f args news (h | ⟨f',args',ts',e,h1,h2⟩)
 .cases out<;>exact(h:False).elim
 .cases e;exact⟨h1,fun M w vs hk hM hr=>h2 M w vs (bG hn hk.size) hM hr⟩
section
variable{P:j5}
def Ae{f:FuncId}{fn:Func}{hints:Nat->Option Hint}{args:List Arg}{ins:List In}{out:Nat->List aQ}(hm:P.follows .mixedOrders=true)(hok:rZ P f=true)
  (hf:P.funcs[f]?=some fn) (hin:az In.Is args ins) (h:∀n0,vc P (iE P n0 (.ret (out n0))) (af P fn hints args) (ins.map In.env) []):qM P f (ins.map In.ty) out:=by
 refine⟨ay hok,fun M w vs hM hvs=>?_⟩;replace h:=h w.heap.size;unfold af at h;split at h
 .exact h.elim
 .rename_i c hb;split at h
  .rename_i hlen;refine kH hf hb ?_;have hil:ins.length=args.length:=hin.length.symm;have hvl:vs.length=args.length:=by rw[<-hvs.length];simpa using hil
   refine xe (M0:=⟨M,⟨0,undef,#[]⟩⟩) (w0:=w) hm c 0 0 0 args.length _ [] _ (ins.map In.env) [] h (by simpa using hil) (by intro x hx;cases hx) (ah _) (fun _=>⟨0,undef,#[]⟩) _ w _ ?_ ?_ (iE.ct3 (ah _)) ?_
   .exact Vk hin hM hlen hvs
   .intro c v a w' hp;rcases hp with hp | ⟨_,_,_,e,_⟩
    .exact hp.elim
    .cases e
   .intro ex nb s dec m bk' ρ a w' _ _ hv _ hs
    have key:vc P (iE P w.heap.size (.ret (out w.heap.size))) (match(Bc P s fn.results.toList).run s with
      | some (vs,_)=>.ret vs
      | none=>.fail 1008) (ins.map In.env++m) bk'->a.defers=[]/\∃v,(results fn a.tmps).run P w'=.ok v w'/\(Below w.heap.size w w'/\oU M w' (.ret (out w.heap.size)) (.returned v)):=by
     intro hv;split at hv
     .rename_i vs' l hq;obtain⟨us,hr,hrep⟩:=pv hs hq (rX hs _);refine⟨hs.df,_,gN fn a.tmps us hr,hs.below.below,?_⟩;rcases hv with hv | ⟨_,_,_,e,_⟩
      .exact⟨us,rfl,cC.sub hv hrep⟩
      .cases e
     .exact hv.elim
    cases ex with
    | normal=>exact key hv
    | ret=>exact key hv
    | exit id=>exact hv.elim
  .exact h.elim
def FI{W:Code->(Exit->Act->World->Prop)->Act->World->Prop}(R:jN P W){c c':Code}{ins:List (Nat×Arg)}{xs:List In}{N:Nat}{hints:Nat->Option Hint}{res:List ResultVar}{tail:Bool}{rs:List aQ}(hm:P.follows .mixedOrders=true)(hin:az In.Is (ins.map (·.2)) xs){n0:Nat}
  (h:vc P (iE P n0 (.ret rs)) (aj P N hints c' ins res none tail) (xs.map In.env) []) (hc:c'=c) {M:c6} {w:World} {a:Act} {Q:iN} (hn:n0<=w.heap.size) (hM:bf M w) (hsz:a.tmps.size=N) (hdf:a.defers=[])
  (hv:cC M w (xs.map In.ty) (ins.map fun p=>a.tmps.getD p.1 undef))
  (hR:∀e a' w' us,bi6 tail e=true->Below w.heap.size w w'->a'.tmps.size=N->a'.defers=[]->(res.mapM (iA a'.tmps)).run P w'=.ok us w'->cC M w' rs us->Q (rY e) a' w'):W c Q a w:=by
 subst hc;have hil:xs.length=ins.length:=by have:=hin.length;simpa using this.symm
 refine tv R (M0:=⟨M,⟨0,undef,#[]⟩⟩) (w0:=w) hm c' 0 0 0 ins.length _ [] _ (xs.map In.env) [] h (by simpa using hil) (by intro x hx;cases hx) (ah _) (fun _=>⟨0,undef,#[]⟩) a w _ (at4 hin hM hsz hdf hv) ?_ (iE.ct3 hn) ?_
 .intro c v a w' hp;rcases hp with hp | ⟨_,_,_,e,_⟩
  .exact hp.elim
  .cases e
 .intro ex nb s dec m bk' ρ a' w' _ _ hv2 _ hs;replace hv2:vc P (iE P n0 (.ret rs)) (au2 P res tail ex s) (xs.map In.env++m) bk':=hv2;unfold au2 at hv2;split at hv2
  .rename_i hex;split at hv2
   .rename_i vs' l hq;obtain⟨us,hr,hrep⟩:=pv hs hq (rX hs _);rcases hv2 with hv2 | ⟨_,_,_,e,_⟩
    .exact hR ex a' w' us hex hs.below.below hs.sz hs.df hr (cC.sub hv2 hrep)
    .cases e
   .exact hv2.elim
  .exact hv2.elim
def bV{W:Code->(Exit->Act->World->Prop)->Act->World->Prop}(R:jN P W){c c':Code}{ins:List (Nat×Arg)}{xs:List In}{N:Nat}{hints:Nat->Option Hint}{res:List ResultVar}{rs:List aQ}(hm:P.follows .mixedOrders=true)(hin:az In.Is (ins.map (·.2)) xs){n0:Nat}
  (h:vc P (iE P n0 (.ret rs)) (aj P N hints c' ins res none false) (xs.map In.env) []) (hc:c'=c) {M:c6} {w:World} {a:Act} {Q:iN} (hn:n0<=w.heap.size) (hM:bf M w) (hsz:a.tmps.size=N) (hdf:a.defers=[])
  (hv:cC M w (xs.map In.ty) (ins.map fun p=>a.tmps.getD p.1 undef))
  (hR:∀a' w' us,Ag (wr c) a a'->Below w.heap.size w w'->a'.tmps.size=N->a'.defers=[]->(res.mapM (iA a'.tmps)).run P w'=.ok us w'->cC M w' rs us->Q .normal a' w'):W c Q a w:=by
 refine FI (W:=Wf W) R.yg (Q:=fun e a' w'=>e=.normal/\∃us,Below w.heap.size w w'/\a'.tmps.size=N/\a'.defers=[]/\(res.mapM (iA a'.tmps)).run P w'=.ok us w'/\cC M w' rs us) hm hin h hc hn hM hsz hdf hv ?_ Q ?_ ?_
 .intro e a' w' us he h1 h2 h3 h4 h5;refine⟨?_,us,h1,h2,h3,h4,h5⟩;cases e with
  | normal=>rfl
  | exit id=>cases he
  | ret=>cases he
 .rintro⟨_,_,he,_⟩;cases he
 .rintro e a' w' hag ⟨rfl,us,h1,h2,h3,h4,h5⟩;exact hR a' w' us hag h1 h2 h3 h4 h5
end
section
variable{P:j5}
def bw0{p q:Out->Prop}(h:∀o,p o->q o):∀(t:Tr)(τ:Env)(bk:List (List aQ->Prop)),vc P p t τ bk->vc P q t τ bk:=by
 intro t
 induction t with
 | fail=>intro τ bk h;exact h.elim
 | need nd op ty last k ih=>
   rintro τ bk (⟨news,h1,h2,h3⟩ | ⟨h1,c,h2,h3⟩ | ⟨f,args,sh,news,h1,h2,h3,h4,h5⟩)
   .exact .inl ⟨news,h1,h2,ih _ _ h3⟩
   .exact .inr (.inl ⟨h1,c,h2,h _ h3⟩)
   .exact .inr (.inr ⟨f,args,sh,news,h1,h2,h3,h _ h4,ih _ _ h5⟩)
 | split c kt kf iht ihf=>
   rintro τ bk ⟨β,h1,h2,h3⟩;exact⟨β,h1,fun e=>iht _ _ (h2 e),fun e=>ihf _ _ (h3 e)⟩
 | ret vs=>intro τ bk hv;exact h _ hv
 | retr vs cid=>rintro τ bk ⟨ts,h1,h2⟩;exact⟨ts,h1,h _ h2⟩
 | pan x=>rintro τ bk ⟨h1,h2⟩;exact⟨h _ h1,h2⟩
 | loop d inits k ih=>
   rintro τ bk ⟨G,xY,μ,g0,h1,h2,h3⟩;exact⟨G,xY,μ,g0,h1,h2,fun g=>ih _ _ (h3 g)⟩
 | back d au=>intro τ bk h;exact h
def tg{n0:Nat}{out:Out}{t:Tr}{τ:Env}{bk:List (List aQ->Prop)}(h:vc P (fun o=>bD o out) t τ bk):vc P (iE P n0 out) t τ bk:=bw0 (fun o h=>.inl h) t τ bk h
def Af{n0:Nat}{vs:List SW}{rs:List aQ}{τ:Env}{bk:List (List aQ->Prop)}(h:vs.map (pw τ)=rs):vc P (iE P n0 (.ret rs)) (.ret vs) τ bk:=.inl (by rw[<-h];exact ai.refl _)
def qM.QT{f:FuncId}{args:List aQ}{E sz:Nat}{ts:List (List aC)}(h:qM P f args fun n0=>[.one (.own n0 E sz ts)]):aX P f args (.ret [.one (.slice sz ts)]):=
 ⟨h.1,fun M w vs hM hv=>(h.2 M w vs hM hv).mono fun e w' ⟨h1,us,h2,h3⟩=>by
  match us,h3 with
  | [u],h3=>exact⟨h1,[u],h2,aC.own.slice h3.1,trivial⟩
  | [],h3=>exact h3.elim
  | _::_::_,h3=>exact h3.2.elim⟩
def bj6{W:Code->(Exit->Act->World->Prop)->Act->World->Prop}(R:jN P W){c c':Code}{ins:List (Nat×Arg)}{xs:List In}{N t0 E sz tr:Nat}{hints:Nat->Option Hint}{res:List ResultVar}{ts ts':List (List aC)}{rs:List aQ}(hm:P.follows .mixedOrders=true)(hin:az In.Is (ins.map (·.2)) xs)
  (h:vc P (fun o=>o=.retr rs ts') (pJ P N hints c' ins t0 E sz tr res) (xs.map In.env++[.rows ts]) []) (hc:c'=c) {M:c6} {w:World} {a:Act} {Q:iN} {v:Value} {vs:j0} {base:Nat}
  (hM:bf (fun k=>M k\/v.ownBlock=some k) w) (hMd:∀k,M k->v.ownBlock≠some k) (hsz:a.tmps.size=N) (hdf:a.defers=[])
  (hv:cC (fun k=>M k\/v.ownBlock=some k) w (xs.map In.ty) (ins.map fun p=>a.tmps.getD p.1 undef)) (ht0:a.tmps.getD t0 undef=v) (hrow:w.ownsRow base E sz v ts.length vs) (hts:∀t∈ts,t.length=sz) (hrep:an (fun k=>M k\/v.ownBlock=some k) w ts.flatten vs)
  (hR:∀a' w' us v' vs',w.grownBy w' v.ownBlock->a'.tmps.size=N->a'.defers=[]->(res.mapM (iA a'.tmps)).run P w'=.ok us w'->a'.tmps.getD tr undef=v'->w'.ownsRow 0 E sz v' ts'.length vs'->(∀k,v'.ownBlock=some k->w.heap.size<=k\/v.ownBlock=some k) ->
   cC (fun k=>M k\/v'.ownBlock=some k) w' rs us->an (fun k=>M k\/v'.ownBlock=some k) w' ts'.flatten vs'->Q .normal a' w'):W c Q a w:=by
 subst hc;have hil:xs.length=ins.length:=by have:=hin.length;simpa using this.symm
 have hv1:v.oneCell'=true:=by
  rcases hrow.2 with⟨hv,_⟩ | ⟨g,cap,cur,hv,_⟩<;>rw[hv]<;>rfl
 have holt:∀k,v.ownBlock=some k->k<w.heap.size:=fun k hk=>(hrow.lt k hk).2
 have hrow0:w.ownsRow 0 E sz v ts.length vs:=by
  refine⟨hrow.1,?_⟩;rcases hrow.2 with hn | ⟨g,cap,cur,hv,hbg,rest⟩
  .exact .inl hn
  .exact .inr ⟨g,cap,cur,hv,dM _,rest⟩
 refine tv R (M0:=⟨M,⟨0,v,#[]⟩⟩) (w0:=w) hm c' 0 0 1 (ins.length+1) _ [] _ (xs.map In.env++[.rows ts]) [] h (by simp[hil]) (by intro x hx;cases hx) (ah _) (fun _=>⟨0,v,#[]⟩) a w _
  (ac6 (gh:=⟨0,v,#[]⟩) (t0:=t0) (sv:=.w (.one (.r 0))) (bx:=.row E sz ins.length) (y:=.rows ts) hin hM hMd hsz hdf hv rfl ⟨by simp[YM,St.b,look],ht0,by rw[ht0];exact hv1⟩ ⟨ts,vs,by rw[fi (by simp[hil]),aL,hil,fE];rfl,hrow0,hts,hrep⟩ holt) ?_ yA.noR ?_
 .intro c v a w' hp;cases hp
 .intro ex nb s dec m bk' ρ a' w' _ _ hv2 _ hs;replace hv2:vc P (fun o=>o=.retr rs ts') (ac4 P tr E sz res ex s) (xs.map In.env++[.rows ts]++m) bk':=hv2;cases ex with
  | exit id=>exact hv2.elim
  | ret=>exact hv2.elim
  | normal=>
    unfold ac4 at hv2;simp only at hv2;split at hv2
    .rename_i b0 hbt;split at hv2
     .rename_i E' sz' cid hbx;split at hv2
      .rename_i vs2 l hq;split at hv2
       .rename_i hc;obtain⟨rfl,rfl,hsb,hl⟩:=hc;obtain⟨ts2,hcid,hpo⟩:=hv2;replace hpo:Out.retr (vs2.map (pw _)) ts2=Out.retr rs ts':=hpo;simp only[Out.retr.injEq]at hpo;obtain⟨hrs,rfl⟩:=hpo;obtain⟨ts3,xs3,hcid3,hown3,hlen3,hrep3⟩:=hs.bx b0 _ hbx;rw[hcid]at hcid3;simp only[aZ,aQ.rows.injEq]at hcid3;subst hcid3;have htv:=hs.tm tr;rw[hbt]at htv;have hval:a'.tmps.getD tr undef=(ρ b0).val:=htv.2.1;have hown:own ρ b0 (.row E' sz' cid)=(ρ b0).val.ownBlock:=rfl
        have hS:cy ⟨M,⟨0,v,#[]⟩⟩ ρ s l (fun k=>M k\/(ρ b0).val.ownBlock=some k):=by
         refine⟨fun k hk=>?_,fun b x k h1 h2 h3 hk=>?_⟩
         .rcases hk with hk | hk
          .exact .inl hk
          .exact .inr ⟨b0,_,hbx,hsb,hk⟩
         .rcases hk with hk | hk
          .exact hs.old k hk (hs.lo b x k h1 h2).1
          .have:=hs.inj b b0 x _ _ h1 hbx h2 hk;subst this;rcases h3 with h3 | h3
           .rw[hsb]at h3;cases h3
           .have:l.contains b=true:=by simpa using h3
            rw[hl]at this;cases this
        obtain⟨us,hr,hrepr⟩:=pv hs hq hS;have hbel:=hs.below;refine hR a' w' us (ρ b0).val xs3 ⟨hbel.os,hbel.tape,hbel.output,hbel.size,fun k hk hne=>hbel.block k hk fun ho=>hne ?_⟩ hs.sz hs.df hr hval hown3 (fun k hk=>?_) (by rw[<-hrs];exact hrepr) (hrep3.mono hS.dJ)
        .exact(show v.ownBlock=some k from ho).symm
        .exact(hs.lo b0 _ k hbx hk).1
       .exact hv2.elim
      .exact hv2.elim
     .exact hv2.elim
    .exact hv2.elim
def uK{W:Code->(Exit->Act->World->Prop)->Act->World->Prop}(R:jN P W){c c':Code}{ins:List (Nat×Arg)}{xs:List In}{N t0 E sz tr:Nat}{hints:Nat->Option Hint}{res:List ResultVar}{ts ts':List (List aC)}{rs:List aQ}(hm:P.follows .mixedOrders=true)(hin:az In.Is (ins.map (·.2)) xs)
  (h:vc P (fun o=>o=.retr rs ts') (pJ P N hints c' ins t0 E sz tr res) (xs.map In.env++[.rows ts]) []) (hc:c'=c) {M:c6} {w:World} {a:Act} {Q:iN} {v:Value} {vs:j0} {base:Nat}
  (hM:bf (fun k=>M k\/v.ownBlock=some k) w) (hMd:∀k,M k->v.ownBlock≠some k) (hsz:a.tmps.size=N) (hdf:a.defers=[])
  (hv:cC (fun k=>M k\/v.ownBlock=some k) w (xs.map In.ty) (ins.map fun p=>a.tmps.getD p.1 undef)) (ht0:a.tmps.getD t0 undef=v) (hrow:w.ownsRow base E sz v ts.length vs) (hts:∀t∈ts,t.length=sz) (hrep:an (fun k=>M k\/v.ownBlock=some k) w ts.flatten vs)
  (hR:∀a' w' us v' vs',Ag (wr c) a a'->w.grownBy w' v.ownBlock->a'.tmps.size=N->a'.defers=[]->(res.mapM (iA a'.tmps)).run P w'=.ok us w'->a'.tmps.getD tr undef=v'->w'.ownsRow 0 E sz v' ts'.length vs'->(∀k,v'.ownBlock=some k->w.heap.size<=k\/v.ownBlock=some k) ->
   cC (fun k=>M k\/v'.ownBlock=some k) w' rs us->an (fun k=>M k\/v'.ownBlock=some k) w' ts'.flatten vs'->Q .normal a' w'):W c Q a w:=by
 refine bj6 (W:=Wf W) R.yg (Q:=fun e a' w'=>e=.normal/\∃us v' vs',w.grownBy w' v.ownBlock/\a'.tmps.size=N/\a'.defers=[]/\(res.mapM (iA a'.tmps)).run P w'=.ok us w'/\a'.tmps.getD tr undef=v'/\w'.ownsRow 0 E sz v' ts'.length vs'/\(∀k,v'.ownBlock=some k->w.heap.size<=k\/v.ownBlock=some k) /\
   cC (fun k=>M k\/v'.ownBlock=some k) w' rs us/\an (fun k=>M k\/v'.ownBlock=some k) w' ts'.flatten vs') hm hin h hc hM hMd hsz hdf hv ht0 hrow hts hrep ?_ Q ?_ ?_
 .intro a' w' us v' vs' h1 h2 h3 h4 h5 h6 h7 h8 h9;exact⟨rfl,us,v',vs',h1,h2,h3,h4,h5,h6,h7,h8,h9⟩
 .rintro⟨_,_,he,_⟩;cases he
 .rintro e a' w' hag ⟨rfl,us,v',vs',h1,h2,h3,h4,h5,h6,h7,h8,h9⟩;exact hR a' w' us v' vs' hag h1 h2 h3 h4 h5 h6 h7 h8 h9
end
open Ord
def pI(k:Nat)(p:c4)(f:Rat)(r:c4)(j:Nat):List Rat:=r.mapIdx fun i a=>if k<=i/\i<j then a-f*p.getD i 0 else a
def lz(k:Nat)(p:c4)(f:Rat)(r:c4)(j:Nat):(pI k p f r j).length=r.length:=List.length_mapIdx
def oy(k:Nat)(p:c4)(f:Rat)(r:c4)(j i:Nat):(pI k p f r j)[i]?=r[i]?.map fun a=>if k<=i/\i<j then a-f*p.getD i 0 else a:=PM
def Fi(k:Nat)(p:c4)(f:Rat)(r:c4):pI k p f r k=r:=by
 apply gU;intro i;rw[oy];cases r[i]? with
 | none=>rfl
 | some a=>rw[cZ,aG O]
def Xf(k:Nat)(p:c4)(f:Rat)(r:c4){j i:Nat}(h:j<=i):(pI k p f r j).getD i 0=r.getD i 0:=by
 rw[fI,fI,oy];cases r[i]? with
 | none=>rfl
 | some a=>rw[cZ,aG O]
def OI(k:Nat)(p:c4)(f:Rat)(r:c4){j:Nat}(hk:k<=j):(pI k p f r j).set j (r.getD j 0-f*p.getD j 0)=pI k p f r (j+1):=by
 apply gU;intro i;rw[nk,oy,oy,lz];by_cases h:j=i
 .subst h;rw[aF rfl];by_cases hl:j<r.length
  .rw[aF hl,fI,bM hl,cZ,aF ⟨hk,O⟩];rfl
  .rw[aG hl,fA.2 O];rfl
 .rw[aG h];cases r[i]? with
  | none=>rfl
  | some a=>
    rw[cZ,cZ];by_cases h1:k<=i/\i<j
    .rw[aF h1,aF ⟨h1.1,O⟩]
    .rw[aG h1,aG O]
def ay7{A B:Nat}{k:Nat}{p:c4}{f:Rat}{r:c4}{j:Nat}(hA:1<=A)(hr:∀a∈r,Fit A a)(hp:∀a∈p,Fit A a)(hf:Fit B f):∀a∈pI k p f r j,Fit (A+(B+A)+1) a:=by
 intro a ha;obtain⟨i,hi,rfl⟩:=lu.1 ha;have h:=oy k p f r j i;rw[bM hi]at h;rw[lz]at hi;rw[bM hi,cZ]at h;have h:=cI h;rw[h];have h1:=hr _ (rj hi)
 have h2:Fit A (p.getD i 0):=by
  rw[fI];cases hq:p[i]? with
  | none=>exact Fit.zero hA
  | some x=>exact hp x (dc hq)
 split
 .exact h1.sub (hf.mul h2)
 .exact h1.mono O
def eW(k:Nat)(p r:c4):List Rat:=if r.getD k 0=0 then r else pI k p (r.getD k 0/p.getD k 0) r r.length
def jb(k:Nat)(p r:c4):(eW k p r).length=r.length:=by
 unfold eW;split
 .rfl
 .exact lz _ _ _ _ _
def cj(k:Nat)(rows:b9)(n:Nat):List (List Rat):=rows.mapIdx fun i r=>if i<n/\i≠k then eW k (rows.getD k []) r else r
def fw(k:Nat)(rows:b9)(n:Nat):(cj k rows n).length=rows.length:=List.length_mapIdx
def gb(k:Nat)(rows:b9)(n i:Nat):(cj k rows n)[i]?=rows[i]?.map fun r=>if i<n/\i≠k then eW k (rows.getD k []) r else r:=PM
def xN(k:Nat)(rows:b9):cj k rows 0=rows:=by
 apply gU;intro i;rw[gb];cases rows[i]? with
 | none=>rfl
 | some a=>rw[cZ,aG O]
def mK{k:Nat}{rows:b9}{n i:Nat}{r:c4}(h:n<=i\/i=k)(hr:rows[i]?=some r):(cj k rows n)[i]?=some r:=by rw[gb,hr,cZ,aG O]
def pQ{k:Nat}{rows:b9}{n:Nat}{r:c4}(hn:n≠k)(hr:rows[n]?=some r):(cj k rows n).set n (eW k (rows.getD k []) r)=cj k rows (n+1):=by
 apply gU;intro i;rw[nk,gb,gb,fw];have hl:=(cL.1 hr).1;by_cases h:n=i
 .subst h;rw[aF rfl,aF hl,hr,cZ,aF ⟨O,hn⟩]
 .rw[aG h];cases rows[i]? with
  | none=>rfl
  | some a=>
    rw[cZ,cZ];by_cases h1:i<n/\i≠k
    .rw[aF h1,aF ⟨O,h1.2⟩]
    .rw[aG h1,aG O]
def xa(k:Nat)(rows:b9){n:Nat}(hn:n=k):cj k rows (n+1)=cj k rows n:=by
 apply gU;intro i;rw[gb,gb];cases rows[i]? with
 | none=>rfl
 | some a=>
   rw[cZ,cZ];by_cases h1:i<n/\i≠k
   .rw[aF h1,aF ⟨O,h1.2⟩]
   .rw[aG h1,aG O]
structure vL(m L A:Nat)(rows:b9):Prop where
 len:rows.length=m
 row:∀r∈rows,r.length=L/\∀a∈r,Fit A a
def vL.mono{m L A B:Nat}{rows:b9}(h:vL m L A rows)(hAB:A<=B):vL m L B rows:=⟨h.len,fun r hr=>⟨(h.row r hr).1,fun a ha=>((h.row r hr).2 a ha).mono hAB⟩⟩
def vL.get{m L A:Nat}{rows:b9}(h:vL m L A rows){i:Nat}(hi:i<m):∃r,rows[i]?=some r/\rows.getD i []=r/\r.length=L/\∀a∈r,Fit A a:=by
 have hl:=h.len;have hi':i<rows.length:=O
 refine⟨rows[i],bM hi',?_,(h.row _ (rj hi')).1,(h.row _ (rj hi')).2⟩;rw[fI,bM hi'];rfl
def ko{A:Nat}{p:c4}(hA:1<=A)(hp:∀a∈p,Fit A a)(i:Nat):Fit A (p.getD i 0):=by
 rw[fI];cases hq:p[i]? with
 | none=>exact Fit.zero hA
 | some x=>exact hp x (dc hq)
def XJ{A:Nat}{k:Nat}{p r:c4}(hA:1<=A)(hr:∀a∈r,Fit A a)(hp:∀a∈p,Fit A a):∀a∈eW k p r,Fit (4*A+1) a:=by
 intro a ha;unfold eW at ha;split at ha
 .exact(hr a ha).mono O
 .exact(ay7 hA hr hp ((ko hA hr k).div (ko hA hp k)) a ha).mono O
def vL.elim{m L A:Nat}{rows:b9}(h:vL m L A rows)(hA:1<=A){k:Nat}(hk:k<m)(n:Nat):vL m L (4*A+1) (cj k rows n):=by
 obtain⟨p,_,hp,hpl,hpf⟩:=h.get hk;refine⟨(fw k rows n).trans h.len,fun r hr=>?_⟩;obtain⟨i,hi,rfl⟩:=lu.1 hr;have he:=gb k rows n i;rw[bM hi]at he;rw[fw]at hi;rw[bM hi,cZ]at he;rw[cI he,hp];have h1:=h.row _ (rj hi);split
 .exact⟨(jb _ _ _).trans h1.1,XJ hA h1.2 hpf⟩
 .exact⟨h1.1,fun a ha=>(h1.2 a ha).mono O⟩
def fT(rows:b9)(k i:Nat):List (List Rat):=(rows.set k (rows.getD i [])).set i (rows.getD k [])
def nW(rows:b9)(k i:Nat):(fT rows k i).length=rows.length:=by rw[fT,al,al]
def vL.swap{m L A:Nat}{rows:b9}(h:vL m L A rows){k i:Nat}(hk:k<m)(hi:i<m):vL m L A (fT rows k i):=by
 obtain⟨p,hp1,hp,hpl,hpf⟩:=h.get hk;obtain⟨q,hq1,hq,hql,hqf⟩:=h.get hi;refine⟨(nW rows k i).trans h.len,fun r hr=>?_⟩;rw[fT,hp,hq]at hr;rcases pU hr with hr | rfl
 .rcases pU hr with hr | rfl
  .exact h.row r hr
  .exact⟨hql,hqf⟩
 .exact⟨hpl,hpf⟩
def HI(k:Nat)(rows:b9):Option Nat:=(rows.drop k).findIdx? fun r=>decide (r.getD k 0≠0)
def iy:Nat->Nat->List (List Rat)->Option (List (List Rat))
 | 0,_,rows=>some rows
 | f+1,k,rows=>match HI k rows with
   | none=>none
   | some i=>iy f (k+1) (cj k (fT rows k (k+i)) rows.length)
def lY(rows:b9)(k:Nat):Rat:=((rows.getD k []).getD ((rows.getD k []).length-1) 0)/((rows.getD k []).getD k 0)
def fQ(rows:b9):Option (List Rat):=(iy rows.length 0 rows).map fun rs=>(List.range rs.length).map (lY rs)
open Go Go.Proofs Tryz Ord
def bF6:Tr:=kv 86 1 1 1 1 2 0 5 6 (mD 2 2 2)
def WG:af prog f198 dV [.v (some 3),.v (some 3)]=bF6:=aS
def AY:Tr:=.retr [] 20
def Ay:Tr:=.need (.strow 19 3 (.u 4 0) 0 [(.u 17 0),(.u 17 1),(.u 17 2)]) (.store 46 (.tmp 35) (.tmp 32)) 0 false AY
def AB:Tr:=.need (.idx 19 (.u 4 0)) (.indexAddr 28 (.tmp 9) (.tmp 11)) 0 false Ay
def AW:Tr:=.need (.strow 18 3 (.u 2 0) 0 [(.u 15 0),(.u 15 1),(.u 15 2)]) (.store 46 (.tmp 34) (.tmp 28)) 0 false AB
def Bi:Tr:=.need (.idx 18 (.u 2 0)) (.indexAddr 28 (.tmp 7) (.tmp 8)) 0 false AW
def AV:Tr:=.need (.strow 0 3 (.u 3 0) 0 [(.u 7 0),(.u 7 1),(.u 7 2)]) (.store 46 (.tmp 33) (.tmp 16)) 0 false Bi
def Az:Tr:=.need (.idx 0 (.u 3 0)) (.indexAddr 28 (.tmp 4) (.tmp 6)) 0 false AV
def AG:Tr:=.need (.prim [(W 16 0)] (some 3)) (.load 46 (.tmp 31)) 46 false Az
def AH:Tr:=.need (.prim [(W 1 0),(W 2 0)] none) (.indexAddr 28 (.tmp 29) (.tmp 30)) 0 false AG
def Be:Tr:=.need (.call 76 [(.agg [(U 13 0),(U 13 1),(U 13 2)]),(.agg [(U 14 0),(U 14 1),(U 14 2)])] [(some 3)]) (.call ⟨.value (.func 76),#[(.tmp 26),(.tmp 27)],#[46,46]⟩) 46 false AH
def AO:Tr:=.need (.call 113 [(WK (2))] [(some 3)]) (.call ⟨.value (.func 113),#[(.const (I3 (2)))],#[3]⟩) 46 false Be
def AI:Tr:=.need (.call 88 [(.agg [(U 10 0),(U 10 1),(U 10 2)]),(.agg [(U 12 0),(U 12 1),(U 12 2)])] [(some 3)]) (.call ⟨.value (.func 88),#[(.tmp 21),(.tmp 25)],#[46,46]⟩) 46 false AO
def Ge:Tr:=.need (.prim [(W 11 0)] (some 3)) (.load 46 (.tmp 24)) 46 false AI
def GL:Tr:=.need (.prim [(W 1 0),(W 2 0)] none) (.indexAddr 28 (.tmp 22) (.tmp 23)) 0 false Ge
def EV:Tr:=.need (.prim [(W 9 0)] (some 3)) (.load 46 (.tmp 20)) 46 false GL
def Hf:Tr:=.need (.prim [(W 1 0),(W 8 0)] none) (.indexAddr 28 (.tmp 17) (.tmp 19)) 0 false EV
def Fj:Tr:=.need (.prim [(W 2 0),(WK (1))] none) (.binOp .sub 3 (.tmp 18) (.const (I3 (1))) 3) 3 false Hf
def DK:Tr:=.need (.prim [(W 6 0)] (some 3)) (.load 46 (.tmp 15)) 46 false Fj
def Hx:Tr:=.need (.prim [(W 1 0),(W 5 0)] none) (.indexAddr 28 (.tmp 12) (.tmp 14)) 0 false DK
def FH:Tr:=.need (.prim [(W 2 0),(WK (1))] none) (.binOp .sub 3 (.tmp 13) (.const (I3 (1))) 3) 3 false Hx
def Gl:Tr:=.need (.prim [(W 2 0),(WK (1))] none) (.binOp .add 3 (.tmp 10) (.const (I3 (1))) 3) 3 false FH
def Gv:Tr:=.need (.prim [(W 2 0),(WK (1))] none) (.binOp .sub 3 (.tmp 5) (.const (I3 (1))) 3) 3 false Gl
def PC:vA prog f204 (fun _=>none) [.lent 46 3,.ref 1,.ref 1]=Gv:=aS
def zf:Tr:=.retr [] 3
def yZ:Tr:=.need (.strow 0 3 (.u 1 0) 0 [(.u 2 0),(.u 2 1),(.u 2 2)]) (.store 46 (.tmp 6) (.tmp 5)) 0 false zf
def zQ:Tr:=.need (.idx 0 (.u 1 0)) (.indexAddr 28 (.tmp 3) (.tmp 4)) 0 false yZ
def yT:Tr:=.need (.call 113 [(WK (1))] [(some 3)]) (.call ⟨.value (.func 113),#[(.const (I3 (1)))],#[3]⟩) 46 true zQ
def Ef:vA prog f196 (fun _=>none) [.lent 46 3,.ref 1]=yT:=aS
def bJ6:Tr:=nE 1 0 0 28 10 (di 6 3 46 11 (TQ 0 0 3 (ap5 0 0 5 13 9 (TQ 8 1 4 (ap5 8 1 7 14 12 (.retr [] 9))))))
def bP1:Tr:=nE 1 0 0 28 5 (di 2 3 46 6 (tq 2 (mh 76 3 3 1 3 2 4 7 8 bJ6)))
def QQ:vA prog f134 (fun _=>none) [.lent 46 3,.ref 1]=bP1:=aS
def AZ:Tr:=.retr [] 14
def AK:Tr:=.need (.strow 13 3 (.u 4 0) 0 [(.u 12 0),(.u 12 1),(.u 12 2)]) (.store 46 (.tmp 23) (.tmp 21)) 0 false AZ
def AQ:Tr:=.need (.idx 13 (.u 4 0)) (.indexAddr 28 (.tmp 7) (.tmp 9)) 0 false AK
def AP:Tr:=.need (.strow 0 3 (.u 3 0) 0 [(.u 7 0),(.u 7 1),(.u 7 2)]) (.store 46 (.tmp 22) (.tmp 14)) 0 false AQ
def AX:Tr:=.need (.idx 0 (.u 3 0)) (.indexAddr 28 (.tmp 4) (.tmp 6)) 0 false AP
def FC:Tr:=.need (.call 76 [(.agg [(U 10 0),(U 10 1),(U 10 2)]),(.agg [(U 11 0),(U 11 1),(U 11 2)])] [(some 3)]) (.call ⟨.value (.func 76),#[(.tmp 19),(.tmp 20)],#[46,46]⟩) 46 true AX
def Dv:Tr:=.need (.call 113 [(WK (2))] [(some 3)]) (.call ⟨.value (.func 113),#[(.const (I3 (2)))],#[3]⟩) 46 true FC
def CZ:Tr:=.need (.prim [(W 9 0)] (some 3)) (.load 46 (.tmp 18)) 46 false Dv
def EY:Tr:=.need (.prim [(W 1 0),(W 8 0)] none) (.indexAddr 28 (.tmp 15) (.tmp 17)) 0 false CZ
def Gr:Tr:=.need (.prim [(W 2 0),(WK (2))] none) (.binOp .sub 3 (.tmp 16) (.const (I3 (2))) 3) 3 false EY
def Ho:Tr:=.need (.prim [(W 6 0)] (some 3)) (.load 46 (.tmp 13)) 46 false Gr
def Di:Tr:=.need (.prim [(W 1 0),(W 5 0)] none) (.indexAddr 28 (.tmp 10) (.tmp 12)) 0 false Ho
def EF:Tr:=.need (.prim [(W 2 0),(WK (2))] none) (.binOp .sub 3 (.tmp 11) (.const (I3 (2))) 3) 3 false Di
def EN:Tr:=.need (.prim [(W 2 0),(WK (1))] none) (.binOp .sub 3 (.tmp 8) (.const (I3 (1))) 3) 3 false EF
def CJ:Tr:=.need (.prim [(W 2 0),(WK (2))] none) (.binOp .sub 3 (.tmp 5) (.const (I3 (2))) 3) 3 false EN
def Qe:vA prog f135 (fun _=>none) [.lent 46 3,.ref 1,.ref 1]=CJ:=aS
def bX7:Tr:=gW 0 0 1 0 28 4 5 (di 2 3 46 6 (CO 23 3 7 3 (lS 4 0 3 8 (cd 5))))
def ZI:af prog f201 dV [.v none,.ref 1]=bX7:=aS
def vz:Tr:=.ret [(W 4 0)]
def uu:Tr:=.back 0 [(.w (W 3 0)),(.w (W 9 0))]
def vr:Tr:=.need (.prim [(W 4 0),(WK (1))] none) (.binOp .add 3 (.tmp 8) (.const (I3 (1))) 3) 3 false uu
def vO:Tr:=.split (.u 8 0) vz vr
def vi:Tr:=.need (.callv (.u 1 0) [(W 7 0)] [none]) (.call ⟨.value (.tmp 11),#[(.tmp 15)],#[28]⟩) 4 true vO
def vZ:Tr:=.need (.prim [(W 6 0)] none) (.load 28 (.tmp 14)) 28 false vi
def vh:Tr:=.need (.prim [(W 0 0),(W 4 0)] none) (.indexAddr 197 (.tmp 12) (.tmp 13)) 0 false vZ
def uz:Tr:=.ret [(WK (-1))]
def vS:Tr:=.split (.u 5 0) vh uz
def wG:Tr:=.need (.prim [(W 4 0),(W 2 0)] none) (.binOp .lss 3 (.tmp 8) (.tmp 7) 3) 0 false vS
def vU:Tr:=.loop 0 [(.w (WK (0))),(.w (WK (0)))] wG
def wF:Tr:=.need (.prim [(W 0 0)] none) (.call ⟨.builtin .len,#[(.tmp 6)],#[197]⟩) 3 false vU
def yu:af prog f200 dV [.v none,.v none]=wF:=aS
def RG:Tr:=hx128Q 
def cd8:Tr:=aY 5 0 (bL 1 0 14 28 (bL 0 0 16 28 (ss .eql 3 15 17 6 0 7 0 4 (aY 8 0 (aE6 90 28 (cd 9)) RG)))) RG
def bV7:Tr:=bL 0 0 5 28 (oh 2 2 6 (aY 3 0 (bL 0 0 9 28 (uj .leq 3 10 40 4 0 4 cd8)) RG))
def aH0:af prog f129 dV [.v none,.v none]=bV7:=aS
def Yq(a b:Rat)(A B:Nat)(ha:Fit A a)(hb:Fit B b)(h:A+B<=34359738000:=by omega):aX prog 198 [(qT a:aQ),(qT b:aQ)] (.ret [qT (b-a)]):=by
 refine eD func198 WG ?_;apply aA (lZ b a B A hb ha);exact aR
def af7(h:c4)(i:Nat)(r:c4):List Rat:=((r.set (i-1) (h.getD (i-1) 0)).set i ((h.getD (i-1) 0+h.getD i 0)*((2:Int):Rat))).set (i+1) (h.getD i 0)
def mN{α:Type}{l:List α}{i:Nat}(hi:i<l.length:=by omega):∃x,l[i]?=some x:=⟨_,bM hi⟩
def QN(h:c4)(i A:Nat)(r:c4)(hA1:1<=A)(hh:∀a∈h,Fit A a)(hi:1<=i)(hil:i<h.length)(hir:i+1<r.length)(hA:A<=1000000000:=by omega)(hs:h.length<1099511627776:=by omega):kI prog 204 46 3 [] [(.one (.aw ([sQ h])):aQ),(.one (.aw ([.int .i64 (i:Int)])):aQ)] (rQ r) [] (rQ (af7 h i r)):=by
 refine mi (a1:=[]) (a2:=[.ref 1,.ref 1]) (i1:=[]) (i2:=[.ref ([sQ h]),.ref ([.int .i64 (i:Int)])]) (hints:=(fun _=>none)) fo aS func204 trivial ⟨rfl,rfl,trivial⟩ aS ?_ ?_ ?_ ?_
 .first | (simp[af7];done) | (intro t ht;obtain⟨a,_,rfl⟩:=dm.1 ht;rfl)
 .first | (simp[af7];done) | (intro t ht;obtain⟨a,_,rfl⟩:=dm.1 ht;rfl)
 .first | (simp[af7];done) | (intro t ht;obtain⟨a,_,rfl⟩:=dm.1 ht;rfl)
 dsimp only[aU,aV];rw[PC];dsimp only[List.map,In.env,aU,aV];obtain⟨x1,hx1⟩:=mN (l:=r) (i:=i-1);obtain⟨x2,hx2⟩:=mN (l:=r.set (i-1) (h.getD (i-1) 0)) (i:=i) (by rw[al];omega);obtain⟨x3,hx3⟩:=mN (l:=(r.set (i-1) (h.getD (i-1) 0)).set i ((h.getD (i-1) 0+h.getD i 0)*((2:Int):Rat))) (i:=i+1) (by rw[al,al];omega);apply vn (aI O O);apply vn (aB O O);apply vn (aI O O);dsimp only[aU,aV];apply vn (aN bX (m:=i-1) O O (aa (show i-1<h.length by omega)));apply vn (ab cb bY aT (.inl rfl));apply vn (aI O O);dsimp only[aU,aV];apply vn (aN bX (m:=i-1) O O (aa (show i-1<h.length by omega)));apply vn (ab cb bY aT (.inl rfl));dsimp only[aU,aV];apply vn (aN bX (m:=i) O (bI i) (aa (show i<h.length by omega)));apply vn (ab cb bY aT (.inl rfl));apply aA (oV _ _ A A (aD hh _ hA1) (aD hh _ hA1));apply aA (dp 2);apply aA (ig _ _ (A+A+1) 62 ((aD hh _ hA1).add (aD hh _ hA1)) (Fit.int O O));dsimp only[aU,aV];apply vn (aN bX (m:=i) O (bI i) (aa (show i<h.length by omega)));apply vn (ab cb bY aT (.inl rfl));refine bo rfl rfl O O ?_;refine gL (f:=qC) (d':=h.getD (i-1) 0) rfl rfl O (show((i:Int)-1).toNat=i-1 by omega) hx1 rfl ?_;refine bo rfl rfl O (by rw[al];omega) ?_;refine gL (f:=qC) (d':=(h.getD (i-1) 0+h.getD i 0)*((2:Int):Rat)) rfl rfl O (bI i) hx2 rfl ?_;refine bo rfl rfl O (by rw[al,al];omega) ?_;refine gL (f:=qC) (d':=h.getD i 0) rfl rfl O (show((i:Int)+1).toNat=i+1 by omega) hx3 rfl ?_;dsimp only[aU,aV];exact kA rfl rfl
def CQ(i:Nat)(r:c4)(hir:i<r.length)(hr:r.length<1099511627776):kI prog 196 46 3 [] [(.one (.aw ([.int .i64 (i:Int)])):aQ)] (rQ r) [] (rQ (r.set i ((1:Int):Rat))):=by
 refine mi (a1:=[]) (a2:=[.ref 1]) (i1:=[]) (i2:=[.ref ([.int .i64 (i:Int)])]) (hints:=(fun _=>none)) fo aS func196 trivial ⟨rfl,trivial⟩ aS ?_ ?_ ?_ ?_
 .first | (simp;done) | (intro t ht;obtain⟨a,_,rfl⟩:=dm.1 ht;rfl)
 .first | (simp;done) | (intro t ht;obtain⟨a,_,rfl⟩:=dm.1 ht;rfl)
 .first | (simp;done) | (intro t ht;obtain⟨a,_,rfl⟩:=dm.1 ht;rfl)
 dsimp only[aU,aV];rw[Ef];dsimp only[List.map,In.env,aU,aV];obtain⟨x1,hx1⟩:=mN (l:=r) (i:=i) hir;apply aA (dp 1);refine bo rfl rfl O O ?_;refine gL (f:=qC) (d':=((1:Int):Rat)) rfl rfl O (bI i) hx1 rfl ?_;dsimp only[aU,aV];exact kA rfl rfl
def leR(h:c4)(r:c4):List Rat:=(r.set 0 (h.getD 0 0*((2:Int):Rat))).set 1 (h.getD 0 0)
def Tm(h:c4)(A:Nat)(r:c4)(hA1:1<=A)(hA:A<=1000000000)(hh:∀a∈h,Fit A a)(hir:1<r.length)(hs:h.length<1099511627776:=by omega)(hil:0<h.length:=by omega):kI prog 134 46 3 [] [(.one (.aw ([sQ h])):aQ)] (rQ r) [] (rQ (leR h r)):=by
 refine mi (a1:=[]) (a2:=[.ref 1]) (i1:=[]) (i2:=[.ref ([sQ h])]) (hints:=(fun _=>none)) fo aS func134 trivial ⟨rfl,trivial⟩ aS ?_ ?_ ?_ ?_
 .first | (simp[leR];done) | (intro t ht;obtain⟨a,_,rfl⟩:=dm.1 ht;rfl)
 .first | (simp[leR];done) | (intro t ht;obtain⟨a,_,rfl⟩:=dm.1 ht;rfl)
 .first | (simp[leR];done) | (intro t ht;obtain⟨a,_,rfl⟩:=dm.1 ht;rfl)
 dsimp only[aU,aV];rw[QQ];dsimp only[List.map,In.env,aU,aV];obtain⟨x1,hx1⟩:=mN (l:=r) (i:=0);obtain⟨x2,hx2⟩:=mN (l:=r.set 0 (h.getD 0 0*((2:Int):Rat))) (i:=1) (by rw[al];omega);apply vn (aN bX (m:=0) O rfl (aa (show 0<h.length by omega)));apply vn (ab cb bY aT (.inl rfl));apply aA (dp 2);apply aA (ig _ _ A 62 (aD hh _ hA1) (Fit.int O O));dsimp only[aU,aV];apply vn (aN bX (m:=0) O rfl (aa (show 0<h.length by omega)));apply vn (ab cb bY aT (.inl rfl));refine bo rfl rfl O O ?_;refine gL (f:=qC) (d':=h.getD 0 0*((2:Int):Rat)) rfl rfl O rfl hx1 rfl ?_;refine bo rfl rfl O (by rw[al];omega) ?_;refine gL (f:=qC) (d':=h.getD 0 0) rfl rfl O rfl hx2 rfl ?_;dsimp only[aU,aV];exact kA rfl rfl
def riR(h:c4)(n:Nat)(r:c4):List Rat:=(r.set (n-2) (h.getD (n-2) 0)).set (n-1) (h.getD (n-2) 0*((2:Int):Rat))
def SU(h:c4)(n A:Nat)(r:c4)(hA1:1<=A)(hA:A<=1000000000)(hh:∀a∈h,Fit A a)(hn:2<=n)(hir:n<=r.length)(hs:h.length<1099511627776:=by omega)(hil:n-2<h.length:=by omega):kI prog 135 46 3 [] [(.one (.aw ([sQ h])):aQ),(.one (.aw ([.int .i64 (n:Int)])):aQ)] (rQ r) [] (rQ (riR h n r)):=by
 refine mi (a1:=[]) (a2:=[.ref 1,.ref 1]) (i1:=[]) (i2:=[.ref ([sQ h]),.ref ([.int .i64 (n:Int)])]) (hints:=(fun _=>none)) fo aS func135 trivial ⟨rfl,rfl,trivial⟩ aS ?_ ?_ ?_ ?_
 .first | (simp[riR];done) | (intro t ht;obtain⟨a,_,rfl⟩:=dm.1 ht;rfl)
 .first | (simp[riR];done) | (intro t ht;obtain⟨a,_,rfl⟩:=dm.1 ht;rfl)
 .first | (simp[riR];done) | (intro t ht;obtain⟨a,_,rfl⟩:=dm.1 ht;rfl)
 dsimp only[aU,aV];rw[Qe];dsimp only[List.map,In.env,aU,aV];obtain⟨x1,hx1⟩:=mN (l:=r) (i:=n-2);obtain⟨x2,hx2⟩:=mN (l:=r.set (n-2) (h.getD (n-2) 0)) (i:=n-1) (by rw[al];omega);apply vn (aI O O);apply vn (aI O O);apply vn (aI O O);dsimp only[aU,aV];apply vn (aN bX (m:=n-2) O O (aa (show n-2<h.length by omega)));apply vn (ab cb bY aT (.inl rfl));apply vn (aI O O);dsimp only[aU,aV];apply vn (aN bX (m:=n-2) O O (aa (show n-2<h.length by omega)));apply vn (ab cb bY aT (.inl rfl));apply aA (dp 2);apply aA (ig _ _ A 62 (aD hh _ hA1) (Fit.int O O));refine bo rfl rfl O O ?_;refine gL (f:=qC) (d':=h.getD (n-2) 0) rfl rfl O (show((n:Int)-2).toNat=n-2 by omega) hx1 rfl ?_;refine bo rfl rfl O (by rw[al];omega) ?_;refine gL (f:=qC) (d':=h.getD (n-2) 0*((2:Int):Rat)) rfl rfl O (show((n:Int)-1).toNat=n-1 by omega) hx2 rfl ?_;dsimp only[aU,aV];exact kA rfl rfl
def YT(r:c4)(k:Nat)(hk:k<r.length)(hs:r.length<1099511627776):aX prog 201 [(.one (sQ r):aQ),(.one (.aw ([.int .i64 (k:Int)])):aQ)] (.ret [.one (.bool (decide (r.getD k 0≠0)))]):=by
 refine dvr (ins:=[.v (.one (sQ r)),.ref ([.int .i64 (k:Int)])]) func201 ZI ?_;apply vn (aN bX (m:=k) O (bI k) (aa hk));apply vn (ab cb bY aT (.inl rfl));apply aA (mV _);apply vn iC;rw[show decide ((r.getD k 0).num.sign≠0)=decide (r.getD k 0≠0) by rw[nh];exact not_congr sign_zero];exact aR
def yh(e:b9)(g:Nat)(caps:List aC)(c:List Rat->Bool)(hc:∀p∈e,aX prog g (.one (sQ p)::caps.map .one) (.ret [.one (.bool (c p))]))(hs:e.length<1099511627776):aX prog 200 [(.one (eQ e):aQ),(.one (.gv g caps):aQ)] (.ret [.one (.int .i64 (nG c e 0))]):=by
 refine eD func200 yu ?_;apply vn (ae tw (aL _));refine bZ {i:Nat // i<=e.length/\nG c e 0=nG c (e.drop i) i} (fun g=>[.one (.int .i64 0),.one (.int .i64 g.1)]) (fun g=>e.length-g.1) ⟨0,dM _,rfl⟩ ai.rfl (fun _=>rfl) ?_;rintro⟨i,hi,hf⟩;dsimp only[aU,aV]at hi hf|-;apply vn bO;refine l4 ?_ ?_<;>intro h3
 .obtain⟨p,hp⟩:∃p,e[i]?=some p:=⟨_,bM O⟩
  have hdrop:e.drop i=p::e.drop (i+1):=by
   rw[jW O,(cL.1 hp).2]
  rw[hdrop,nG]at hf;apply vn (aN tw O O hp);apply vn (bq aW5);apply FL (f:=g) (caps:=caps) rfl (hc p (dc hp)) rfl;refine nI (c p) rfl (fun h7=>?_) (fun h7=>?_)
  .rw[hf,aF h7];exact aR
  apply vn (aB O O);dsimp only[aU,aV];exact aq rfl ⟨⟨i+1,O,by rw[hf,aG (by simp[h7])]⟩,ai.rfl,by show e.length-(i+1)<e.length-i;omega⟩
 rw[hf,mY O,nG];exact aR
def mM(x y:c4):Bool:=decide (2<=x.length)&&(decide (x.length<=40)&&(decide (y.length=x.length)&&kj true x))
def oX(x y:c4)(A:Nat)(hp:∀a∈x,Fit A a)(hA1:1<=A:=by omega)(hl:x.length<1099511627776:=by omega)(hA:A<=1073741824:=by omega)(hl2:y.length<1099511627776:=by omega):aX prog 129 [(.one (sQ x):aQ),(.one (sQ y):aQ)] (.ret [.one (.bool (mM x y))]):=by
 refine eD func129 aH0 ?_;apply vn (ae bX (aL _));apply vn kz;refine l4 ?_ ?_<;>intro h2
 .apply vn (ae bX (aL _));apply vn nR;refine l4 ?_ ?_<;>intro h5
  .apply vn (ae bX (aL _));apply vn (ae bX (aL _));apply vn cW;refine l4 ?_ ?_<;>intro h9
   .apply aA (wD x true A hp hA1 hA hl);dsimp only[aU,aV];rw[mM,bz (show 2<=x.length by omega),bz (show x.length<=40 by omega),bz (show y.length=x.length by omega)];exact aR
   rw[mM,bz (show 2<=x.length by omega),bz (show x.length<=40 by omega),dn (show ¬y.length=x.length by omega)];exact aR
  rw[mM,bz (show 2<=x.length by omega),dn (show ¬x.length<=40 by omega)];exact aR
 rw[mM,dn (show ¬2<=x.length by omega)];exact aR
open Go Go.Proofs Go.RowKit Tryz Ord
attribute [local go_sem] Oper.semAt_some
def IC:Tr:=.ret [(.one (.ref 0 [(.u 0 0),(.u 0 1),(.u 0 2)])),(.one (.c (.k (.slice none 0 0))))]
def Yw:aj prog 19 (fun _=>none) (aH [0] (aM f133)) [(1,.v (some 3))] ([4,6].map ResultVar.tmp) none false=IC:=aS
def MG:Tr:=.retr [] 3
def LB:Tr:=.need (.strow 2 3 (.u 0 0) 0 [(.u 1 0),(.u 1 1),(.u 1 2)]) (.store 46 (.tmp 14) (.tmp 13)) 0 false MG
def JJ:Tr:=.need (.idx 2 (.u 0 0)) (.indexAddr 28 (.tmp 11) (.tmp 12)) 0 false LB
def Wl:pJ prog 19 (fun _=>none) (aH [1,1,0] (aM f133)) [(0,.v none),(4,.ref 3)] 7 46 3 7 ([].map ResultVar.tmp)=JJ:=aS
def qo(t:iS)(n:Nat)(h:t.size=n):t=(List.ofFn fun i:Fin n=>t.getD i.1 undef).toArray:=by
 apply Array.ext
 .simp[h]
 .intro i h1 h2;simp[Array.getD,h1]
def by7(t:iS)(h:t.size=19):t=#[t.getD 0 undef,t.getD 1 undef,t.getD 2 undef,t.getD 3 undef,t.getD 4 undef,t.getD 5 undef,t.getD 6 undef,t.getD 7 undef,t.getD 8 undef,t.getD 9 undef,t.getD 10 undef,t.getD 11 undef,t.getD 12 undef,t.getD 13 undef,t.getD 14 undef,t.getD 15 undef,t.getD 16 undef,t.getD 17 undef,t.getD 18 undef]:=(qo t 19 h).trans rfl
abbrev z3:List aC:=[.exact (.slice none 0 0),.bool false,.exact (.slice none 0 0)]
def bp9{c:Code}{Q:iN}{a:Act}{w:World}(h:c.wpIn Fence.wide 999 prog Q a w):c.wp prog Q a w:=dK.1 h
def bH4(right:Rat):vc prog (fun o=>bD o (.ret [.one (.aw (qC right)),.one (.exact (.slice none 0 0))])) (aj prog 19 (fun _=>none) (aH [0] (aM f133)) [(1,.v (some 3))] ([4,6].map ResultVar.tmp) none false) ([.v (qT right)].map In.env) []:=by
 rw[Yw];dsimp only[List.map,In.env,aU,aV];exact aR
def bZ8(n:Nat)(right:Rat)(hn:n<1099511627776):vc prog (fun o=>o=.retr [] ((List.replicate (n+1) z3).set n (qC right))) (pJ prog 19 (fun _=>none) (aH [1,1,0] (aM f133)) [(0,.v none),(4,.ref 3)] 7 46 3 7 ([].map ResultVar.tmp)) ([.v (.one (.int .i64 (n:Int))),.ref (qC right)].map In.env++[.rows (List.replicate (n+1) z3)]) []:=by
 rw[Wl];dsimp only[List.map,In.env,aU,aV];refine tC rfl rfl O (by rw[dU];omega) ?_;refine NM (ts:=List.replicate (n+1) z3) (us:=(List.replicate (n+1) z3).set n (qC right)) rfl rfl O (cells:=z3) (by rw[bI,wy,aF O]) (by rw[bI];rfl) ?_;dsimp only[aU,aV];exact kA rfl rfl
theorem DR{α β:Type}{R:α->β->Prop}{a:α}{b:β}(h:R a b):∀{xs:List α}{ys:List β}(m:Nat),az R xs ys->az R (xs.set m a) (ys.set m b)
 | [],[],_,_=>trivial
 | _::_,_::_,0,⟨_,k⟩=>⟨h,k⟩
 | _::_,_::_,m+1,⟨j,k⟩=>⟨j,DR h m k⟩
def ca8(n:Nat)(right:Rat):az (az aC.Sub) ((List.replicate (n+1) z3).set n (qC right)) (rQ ((List.replicate (n+1) 0).set n right)):=by
 rw[rQ,pR,qQ];exact DR ⟨aC.Sub.same,aC.Sub.same,aC.Sub.same,trivial⟩ n (tZ nO (n+1))
def mk1{F:Fence}{nF:Nat}{ops:j7}{rest:j8}{o:Oper}{a:Act}{Q:iN}{w:World}(hgd:o.guard=none)(l c:j6)(ho:o.op=.makeSlice 28 l c)(m:Nat)(hl:a.eval l=.int .i64 (m:Int))(hc:a.eval c=.int .i64 (m:Int))
  (h:∀cur,cur.size=m*3->(∀M' w',an M' w' (List.replicate m z3).flatten cur.toList)->wpListIn F nF prog ops Q rest (a.put o.dst (.slice (some ⟨w.heap.size,0,none⟩) m m)) (w.alloc (.cells cur 46))) (hm:m<=1099511627777:=by omega) :
  wpListIn F nF prog ops Q (o::rest) a w:=by
 obtain⟨ie,hu,hie,hies,hieb⟩:=br bX;obtain⟨ie',zv,hi,hz,hzc,_,hzs⟩:=ed (show jm prog 46=some [.slice none 0 0,.bool false,.slice none 0 0] by kernel_rfl);rw[hie]at hi;simp only[aZ]at hi;subst hi;have hr:=run_make (P:=prog) w 28 46 ie zv hu hie hz .i64 .i64 (m:Int) (m:Int) O (Int.le_refl _) (by rw[hieb];omega) O;simp only[bI]at hr;refine wpListIn_plain hgd fun K hK'=>?_;unfold Oper.wpIn;refine⟨?_,?_⟩
 .simp[Oper.about,ho]
 .rw[Oper.semAt_plain F _ _ (by rw[ho];intro c hc';cases hc')];simp[execOp,ho,hl,hc,hr,Result.andThen];refine hK' _ _ (h _ (by rw[UI,hies]) fun M' w'=>?_);have hz3:zv.cells.toList=[.slice none 0 0,.bool false,.slice none 0 0]:=by rw[hzc]
  have ht:=OZ (z:=zv.cells) (sz:=3) (c:=m) (l:=m) (by rw[hzs,hies]) (ah _);rw[dL (by rw[cK,UI];exact ah _)]at ht;rw[hies,ht,hz3];exact an.replicate (vs:=[.slice none 0 0,.bool false,.slice none 0 0]) (show an _ _ z3 [.slice none 0 0,.bool false,.slice none 0 0]from⟨⟨rfl,rfl⟩,⟨rfl,rfl⟩,⟨rfl,rfl⟩,trivial⟩) m
def rI{r:c4}:∀t∈rQ r,t.length=3:=fun t ht=>by obtain⟨a,_,rfl⟩:=dm.1 ht;rfl
def aO{c:Code}{a a':Act}(h:Ag (wr c) a a')(t:Nat)(ht:wr c t=false):a'.tmps.getD t undef=a.tmps.getD t undef:=h t ht
theorem Wk{M:c6}{w:World}:∀(cs:List aC)(vs:j0),cC M w (cs.map .one) vs↔an M w cs vs
 | [],[]=>mZ
 | c::cs,v::vs=>and_congr mZ (Wk cs vs)
 | [],_::_=>mZ
 | _::_,[]=>mZ
def OX(n:Nat)(right:Rat)(g:FuncId)(caps:List aC)(r':c4)(hn:n<1099511627776)(hl:r'.length=n+1)(hset:kI prog g 46 3 [] (caps.map .one) (rQ ((List.replicate (n+1) 0).set n right)) [] (rQ r')) :
  qM prog 133 [.one (.int .i64 (n:Int)),qT right,.one (.gv g caps)] fun n0=>[.one (.jL n0 46 3 (rQ r'))]:=by
 refine⟨ay aS,fun M w vs hM hv=>?_⟩
 match vs,hv with
 | [nv,rv,cv],⟨hnv,hrv,hcv,_⟩=>
   obtain⟨lb,rfl,hlb⟩:=hcv;obtain rfl:nv=.int .i64 (n:Int):=hnv.1;refine kH func133 rfl ?_;simp only[ntmps133,cq,bB,bu,Nat.reduceAdd,Nat.reduceSub,eE,eF,eJ,eI,List.nil_append,List.cons_append];refine bU (bV jN.wp (n0:=w.heap.size) (N:=19) (ins:=[(1,.v (some 3))]) (xs:=[.v (qT right)]) fo ⟨rfl,trivial⟩ (tg (bH4 right)) aS (ah _) hM rfl rfl ⟨hrv,trivial⟩ ?_);intro a1 w1 us1 hag1 hb1 hsz1 hdf1 hr1 hrep1;have hus:=bA hr1;have k0:=aO hag1 0 aS;have k2:=aO hag1 2 aS;change a1.tmps.getD 0 undef=.int .i64 (n:Int)at k0;change a1.tmps.getD 2 undef=.func (.func g) #[] lb.toArray at k2;subst hus;obtain⟨h4,h6,_⟩:=hrep1;have h6':a1.tmps.getD 6 undef=.slice none 0 0:=h6.1;clear h6;have hM1:bf M w1:=⟨fun b hb=>cM (hM.1 b hb) hb1.size,hM.2.dJ (av.below hb1)⟩
   have hor1:(fun k=>M k\/(Value.slice none 0 0).ownBlock=some k)=M:=funext fun k=>propext ⟨fun h=>h.elim id (fun e=>by cases e),.inl⟩;obtain⟨t1,d1⟩:=a1;dsimp only at hsz1 hdf1 h6' k0 k2 h4;subst hdf1;rw[by7 t1 hsz1,k0,k2,h6'];clear hr1 hag1;have h4:(aC.aw (qC right)).rep M w1 (t1.getD 4 undef):=h4;obtain⟨p4,hp4⟩:∃p,t1.getD 4 undef=p:=⟨_,rfl⟩
   rw[hp4]at h4|-;generalize t1.getD 1 undef=y1;generalize t1.getD 3 undef=y3;generalize t1.getD 5 undef=y5;generalize t1.getD 7 undef=y7;generalize t1.getD 8 undef=y8;generalize t1.getD 9 undef=y9;generalize t1.getD 10 undef=y10;generalize t1.getD 11 undef=y11;generalize t1.getD 12 undef=y12;generalize t1.getD 13 undef=y13;generalize t1.getD 14 undef=y14;generalize t1.getD 15 undef=y15;generalize t1.getD 16 undef=y16;generalize t1.getD 17 undef=y17;generalize t1.getD 18 undef=y18;clear hsz1 k0 k2 h6' hp4;show Code.wp _ _ _ _ _;refine bp9 (cn ?_);generalize hK:Exit.then _ _=K
   gi_wp2_with (gi_at_make;refine mk1 rfl _ _ rfl (n+1) rfl rfl ?_;intro cur hcz hrepz)
   rw[<-hK];clear hK K;obtain⟨w2,hw2⟩:∃w2,w1.alloc (.cells cur 46)=w2:=⟨_,rfl⟩
   have hb2:Below w1.heap.size w1 w2:=by rw[<-hw2];exact(cS _ w1).alloc (ah _) _
   have hg2:w2.heap[w1.heap.size]?=some (.cells cur 46 (0,0)):=by rw[<-hw2];exact cr w1 _
   obtain⟨v2,hv2⟩:∃v2,Value.slice (some ⟨w1.heap.size,0,none⟩) (n+1) (n+1)=v2:=⟨_,rfl⟩
   have hob2:∀k,v2.ownBlock=some k↔k=w1.heap.size:=fun k=>by rw[<-hv2];simp[Value.ownBlock,pH]
   have hfr2':∀k,v2.ownBlock=some k->w1.heap.size<=k:=fun k hk=>by rw[(hob2 k).1 hk];exact ah _
   have hown2:w2.ownsRow 0 46 3 v2 (List.replicate (n+1) z3).length cur.toList:=by
    rw[dU];exact⟨by rw[cK,hcz],.inr ⟨w1.heap.size,n+1,cur,hv2.symm,dM _,hg2,ah _,by simp only[maxLen];omega,hcz,dL (by rw[cK,hcz];exact ah _)⟩⟩
   rw[hw2,hv2];show Code.wpIn _ _ _ _ _ _ _;refine dK.2 ?_
   have h4':(aC.aw (qC right)).rep (fun k=>M k\/v2.ownBlock=some k) w2 p4:=by
    refine aC.mono _ (fun b o hb ho _=>?_) h4;have hlt:=(cJ.1 ho).1;exact⟨fun h=>h.elim hb (fun e=>by have:=hfr2' b e;omega),(hb2.block b hlt).trans ho⟩
   have hMd2:∀k,M k->v2.ownBlock≠some k:=fun k hk e=>by have:=hfr2' k e;have:=hM1.1 k hk;omega
   have hM2:bf (fun k=>M k\/v2.ownBlock=some k) w2:=by
    refine⟨fun b hb=>hb.elim (fun h=>cM (hM1.1 b h) hb2.size) (fun e=>(hown2.lt b e).2),hM1.2.dJ fun b o hb ho _=>?_⟩;have hlt:=(cJ.1 ho).1;exact⟨fun h=>h.elim hb (fun e=>by have:=hfr2' b e;omega),(hb2.block b hlt).trans ho⟩
   show Code.wp _ _ _ _ _;refine bU (uK jN.wp (N:=19) (t0:=7) (E:=46) (sz:=3) (tr:=7) (ts:=List.replicate (n+1) z3) (ins:=[(0,.v none),(4,.ref 3)]) (xs:=[.v (.one (.int .i64 (n:Int))),.ref (qC right)]) fo ⟨rfl,rfl,trivial⟩ (bZ8 n right hn) aS hM2 hMd2 rfl rfl ⟨⟨rfl,rfl⟩,h4',trivial⟩ rfl hown2 (fun t ht=>by rw[(kL.1 ht).2];rfl) (hrepz _ _) ?_);intro a3 w3 us3 v3 xs3 hag3 hg3 hsz3 hdf3 hr3 ht3 hown3 hfr3 _ hrep3;have k2'':=aO hag3 2 aS;change a3.tmps.getD 2 undef=.func (.func g) #[] lb.toArray at k2'';have hrep3':=an.sub (az.flat (ca8 n right)) hrep3;rw[al,dU]at hown3;have k7:a3.tmps.getD 7 undef=v2:=aO hag3 7 aS;rcases hown3.2 with⟨_,h0⟩ | ⟨b,cap,cur,rfl,_,hgb,hnc,hcm,hcs,htake⟩
   .omega
   rw[ht3,<-hv2]at k7;simp only[jB,aZ,gm,cu,mQ]at k7;obtain⟨hbw,hcap⟩:=k7;subst hcap;have hbw2:w1.heap.size<=b:=O
   clear hbw
   have hbn:w1.heap.size<=b:=by
    rcases hfr3 b rfl with h | h
    .have:=hb2.size;omega
    .exact hfr2' b h
   have hk13:∀j,j<w1.heap.size->w3.heap[j]?=w1.heap[j]?:=fun j hj=>by
    have hj2:j<w2.heap.size:=cM hj hb2.size;rw[hg3.block j hj2 (fun e=>by have:=hfr2' j e.symm;omega),hb2.block j hj]
   have hMb:(fun k=>M k\/(Value.slice (some ⟨b,0,none⟩) (n+1) (n+1)).ownBlock=some k)=Mb M b:=funext fun k=>propext ⟨fun h=>h.imp id (fun e=>by simpa[Value.ownBlock,pH]using e),fun h=>h.imp id (fun e=>by simpa[Value.ownBlock,pH]using e)⟩;rw[hMb]at hrep3';have hs13:w1.heap.size<=w3.heap.size:=bG hb2.size hg3.size
   have hkw:av M w (Mb M b) w3:=fun k o hk ho _=>by
    have hlt:=(cJ.1 ho).1;have hlt1:k<w1.heap.size:=cM hlt hb1.size;exact⟨fun h=>h.elim hk O,(hk13 k hlt1).trans ((hb1.block k hlt).trans ho)⟩
   have hM3:bf (Mb M b) w3:=⟨fun k hk=>hk.elim (fun h=>by have:=hM1.1 k h;omega) (fun e=>by rw[e];exact(cJ.1 hgb).1),hM.2.dJ hkw⟩
   have hlen3:(rQ ((List.replicate (n+1) 0).set n right)).length=n+1:=by rw[aL,al,dU]
   have hlbS:cC (Mb M b) w3 (caps.map .one) lb:=(Wk caps lb).2 (hlb.mono hkw);have hcall:=hset.2.2.2 (Mb M b) w3 b 0 (n+1) cur [] lb hM3 (.inr rfl) hgb (by rw[hlen3,bW,hcs];exact cY _ hnc) (by rw[hlen3];exact hnc) hcm (by rw[hlen3,gd,htake];exact hrep3') trivial hlbS;rw[hlen3]at hcall;obtain⟨t3,d3⟩:=a3;dsimp only at hsz3 hdf3 ht3 k2'';subst hdf3;rw[by7 t3 hsz3,k2'',ht3];clear hrep3 hrep3' hown3 hr3 hag3 k2'' ht3;generalize t3.getD 0 undef=y0;generalize t3.getD 1 undef=y1;generalize t3.getD 3 undef=y3;generalize t3.getD 4 undef=y4;generalize t3.getD 5 undef=y5;generalize t3.getD 6 undef=y6;generalize t3.getD 8 undef=y8;generalize t3.getD 9 undef=y9;generalize t3.getD 10 undef=y10;generalize t3.getD 11 undef=y11;generalize t3.getD 12 undef=y12;generalize t3.getD 13 undef=y13;generalize t3.getD 14 undef=y14;generalize t3.getD 15 undef=y15;generalize t3.getD 16 undef=y16;generalize t3.getD 17 undef=y17;generalize t3.getD 18 undef=y18;clear hsz3;clear hv2 hob2 hw2;show Code.wp _ _ _ _ _;refine bp9 ?_
   gi_wp2
   refine⟨trivial,?_⟩;rw[hset.1];refine⟨(fun h=>by cases h),?_⟩;refine(bC.2 hcall).mono ?_;rintro e w4 ⟨cur',us,hg4,hgb4,hcs4,_,rfl,_,hrep4⟩
   gi_wp2
   have hlr:(rQ r').length=n+1:=by rw[aL];exact hl
   have hs4:=hg4.size;refine gB (kN rfl _ _ _) rfl ⟨⟨?_,?_,?_,by have:=hb1.size;omega,fun j hj=>?_⟩,[_],rfl,⟨b,cur',?_,by have:=hb1.size;omega,fun h=>?_,hgb4,by rw[hlr];exact hcm,by rw[hcs4,hcs,hlr],rI,?_⟩,trivial⟩
   .exact hg4.os.trans (hg3.os.trans (hb2.os.trans hb1.os))
   .exact hg4.tape.trans (hg3.tape.trans (hb2.tape.trans hb1.tape))
   .exact hg4.output.trans (hg3.output.trans (hb2.output.trans hb1.output))
   .have hlt1:j<w1.heap.size:=cM hj hb1.size;exact(hg4.block j O (fun e=>by have:=cI e;omega)).trans ((hk13 j hlt1).trans (hb1.block j hj))
   .rw[hlr];rfl
   .have:=hM1.1 b h;omega
   .rwa[gd,dL (by rw[cK,hcs4,hcs];exact ah _)]at hrep4
 | [],hv=>exact hv.elim
 | [_],hv=>exact hv.2.elim
 | [_,_],hv=>exact hv.2.2.elim
 | _::_::_::_::_,hv=>exact hv.2.2.2.elim
end Go.Sy
namespace Go.Sy
open Go Go.Proofs Go.RowKit Tryz Ord
def JF:Tr:=.ret []
def Xg:aj prog 28 (fun _=>none) (aH [0] (aM f197)) [] ([].map ResultVar.tmp) none false=JF:=aS
def Jd:Tr:=.ret [(.one (.c (.k (.slice none 0 0))))]
def XM:aj prog 28 (fun _=>none) (aH [1,0] (aM f197)) [] ([5].map ResultVar.tmp) none false=Jd:=aS
def FO:Tr:=.back 0 [(.w (W 15 0)),(.row 14)]
def Gz:Tr:=.need (.prim [(W 3 0),(WK (1))] none) (.binOp .add 3 (.tmp 11) (.const (I3 (1))) 3) 3 false FO
def Gq:Tr:=.need (.app 3 56 (some 4) none (some 13)) (.call ⟨.builtin .append,#[(.tmp 13),(.tmp 25)],#[28,28]⟩) 28 false Gz
def HH:Tr:=.need (.lit 3 [[(.u 12 0),(.u 12 1),(.u 12 2)]]) (.buildSlice 28 1 #[(0,(.tmp 24))]) 28 false Gq
def Lw:Tr:=.need (.callv (.u 1 0) [(.agg [(U 9 0),(U 9 1),(U 9 2)]),(.agg [(U 11 0),(U 11 1),(U 11 2)])] [(some 3)]) (.call ⟨.value (.tmp 14),#[(.tmp 19),(.tmp 23)],#[46,46]⟩) 46 true HH
def JV:Tr:=.need (.prim [(W 10 0)] (some 3)) (.load 46 (.tmp 22)) 46 false Lw
def JT:Tr:=.need (.prim [(W 0 0),(W 3 0)] none) (.indexAddr 28 (.tmp 20) (.tmp 21)) 0 false JV
def Nn:Tr:=.need (.prim [(W 8 0)] (some 3)) (.load 46 (.tmp 18)) 46 false JT
def Ll:Tr:=.need (.prim [(W 0 0),(W 7 0)] none) (.indexAddr 28 (.tmp 15) (.tmp 17)) 0 false Nn
def KI:Tr:=.need (.prim [(W 3 0),(WK (1))] none) (.binOp .sub 3 (.tmp 16) (.const (I3 (1))) 3) 3 false Ll
def Ez:Tr:=.retr [] 4
def Ln:Tr:=.split (.u 6 0) KI Ez
def My:Tr:=.need (.prim [(W 3 0),(W 5 0)] none) (.binOp .lss 3 (.tmp 7) (.tmp 9) 3) 4 false Ln
def Ka:Tr:=.need (.prim [(W 0 0)] none) (.call ⟨.builtin .len,#[(.tmp 8)],#[28]⟩) 3 false My
def JK:Tr:=.loop 0 [(.w (WK (1))),(.row 2)] Ka
def XP:pJ prog 28 (fun _=>none) (aH [1,1,0] (aM f197)) [(0,.v none),(1,.v none)] 5 46 3 5 ([].map ResultVar.tmp)=JK:=aS
def MB:Tr:=.ret [(W 0 0)]
def Xb:aj prog 28 (fun _=>none) (aH [1,1,1,0] (aM f197)) [(5,.v none)] ([4].map ResultVar.tmp) none false=MB:=aS
def bZ7:Tr:=.need (.call 197 [(W 0 0),(.one (.gv 198 []))] [none]) (.call ⟨.value (.func 197),#[(tT 3),(.func 198)],#[28,164]⟩) 28 true (cd 1)
def aB5:af prog f131 dV [.v none]=bZ7:=aS
def Km:Tr:=.ret []
def YG:aj prog 31 (fun _=>none) (aH [0] (aM f132)) [] ([].map ResultVar.tmp) none false=Km:=aS
def KB:Tr:=.ret [(W 1 0)]
def Lc:Tr:=.need (.call 131 [(W 0 0)] [none]) (.call ⟨.value (.func 131),#[(.tmp 8)],#[28]⟩) 28 true KB
def XY:aj prog 31 (fun _=>none) (aH [1,0] (aM f132)) [(0,.v none)] ([5].map ResultVar.tmp) none false=Lc:=aS
def KU:Tr:=.ret [(W 1 0)]
def LW:Tr:=.need (.call 131 [(W 0 0)] [none]) (.call ⟨.value (.func 131),#[(.tmp 10)],#[28]⟩) 28 true KU
def Yy:aj prog 31 (fun _=>none) (aH [1,1,0] (aM f132)) [(1,.v none)] ([6].map ResultVar.tmp) none false=LW:=aS
def Hg:Tr:=.back 0 [(.w (W 11 0)),(.row 10)]
def El:Tr:=.need (.prim [(W 3 0),(WK (1))] none) (.binOp .add 3 (.tmp 14) (.const (I3 (1))) 3) 3 false Hg
def EO:Tr:=.need (.strow 4 3 (.u 3 0) 0 [(.u 9 0),(.u 9 1),(.u 9 2)]) (.store 46 (.tmp 28) (.tmp 27)) 0 false El
def ID:Tr:=.need (.idx 4 (.u 3 0)) (.indexAddr 28 (.tmp 17) (.tmp 18)) 0 false EO
def JU:Tr:=.need (.call 112 [(.agg [(U 6 0),(U 6 1),(U 6 2)]),(.agg [(U 8 0),(U 8 1),(U 8 2)])] [(some 3)]) (.call ⟨.value (.func 112),#[(.tmp 22),(.tmp 26)],#[46,46]⟩) 46 true ID
def MW:Tr:=.need (.prim [(W 7 0)] (some 3)) (.load 46 (.tmp 25)) 46 false JU
def KH:Tr:=.need (.prim [(W 0 0),(W 3 0)] none) (.indexAddr 28 (.tmp 23) (.tmp 24)) 0 false MW
def Mf:Tr:=.need (.ldrow 4 (.u 3 0) 0 3 true) (.load 46 (.tmp 21)) 46 false KH
def LS:Tr:=.need (.idx 4 (.u 3 0)) (.indexAddr 28 (.tmp 19) (.tmp 20)) 0 false Mf
def Fw:Tr:=.retr [] 4
def IT:Tr:=.split (.u 5 0) LS Fw
def Ki:Tr:=.need (.prim [(W 3 0),(W 2 0)] none) (.binOp .lss 3 (.tmp 14) (.tmp 13) 3) 0 false IT
def KC:Tr:=.loop 0 [(.w (WK (0))),(.row 1)] Ki
def Li:Tr:=.need (.lenrow 1) (.call ⟨.builtin .len,#[(.tmp 12)],#[28]⟩) 3 false KC
def VW:pJ prog 31 (fun _=>none) (aH [1,1,1,0] (aM f132)) [(5,.v none)] 6 46 3 6 ([].map ResultVar.tmp)=Li:=aS
def Kc:Tr:=.ret [(W 0 0)]
def XU:aj prog 31 (fun _=>none) (aH [1,1,1,1,0] (aM f132)) [(6,.v none)] ([4].map ResultVar.tmp) none false=Kc:=aS
def stL(f:Rat->Rat->Rat)(l:c4)(i:Nat):Rat:=f (l.getD i 0) (l.getD (i+1) 0)
def rP(f:Rat->Rat->Rat)(l:c4):List Rat:=(List.range (l.length-1)).map (stL f l)
def aH3(f:Rat->Rat->Rat)(l:c4)(i:Nat):(List.range i).map (stL f l)++[stL f l i]=(List.range (i+1)).map (stL f l):=by rw[gy,cG];rfl
def bV8  :vc prog (fun o=>bD o (.ret [])) (aj prog 28 (fun _=>none) (aH [0] (aM f197)) [] ([].map ResultVar.tmp) none false) ([].map In.env) []:=by
 rw[Xg];dsimp only[List.map,In.env,aU,aV];exact aR
def bM9  :vc prog (fun o=>bD o (.ret [.one (.exact (.slice none 0 0))])) (aj prog 28 (fun _=>none) (aH [1,0] (aM f197)) [] ([5].map ResultVar.tmp) none false) ([].map In.env) []:=by
 rw[XM];dsimp only[List.map,In.env,aU,aV];exact aR
def bF2(l:c4)(g:FuncId)(f:Rat->Rat->Rat)(hf:∀i,i+1<l.length->aX prog g [qT (l.getD i 0),qT (l.getD (i+1) 0)] (.ret [qT (stL f l i)]))(hs:l.length<1099511627776):vc prog (fun o=>o=.retr [] (rQ (rP f l))) (pJ prog 28 (fun _=>none) (aH [1,1,0] (aM f197)) [(0,.v none),(1,.v none)] 5 46 3 5 ([].map ResultVar.tmp)) ([.v (.one (sQ l)),.v (.one (.gv g []))].map In.env++[.rows ([])]) []:=by
 rw[XP];dsimp only[List.map,In.env,aU,aV];refine bZ {i:Nat // i<=l.length-1} (fun g=>[.one (.int .i64 ((g.1:Int)+1)),.rows (rQ ((List.range g.1).map (stL f l)))]) (fun g=>l.length-1-g.1) ⟨0,dM _⟩ ai.rfl (fun _=>rfl) ?_;rintro⟨i,hi⟩;dsimp only[aU,aV]at hi|-;have hll:((List.range i).map (stL f l)).length=i:=aT
 apply vn (ae bX (aL _));apply vn bO;refine l4 ?_ ?_<;>intro h3
 .apply vn (aI O O);dsimp only[aU,aV];apply vn (aN bX (m:=i) O O (aa (show i<l.length by omega)));apply vn (ab cb bY aT (.inl rfl));dsimp only[aU,aV];apply vn (aN bX (m:=i+1) O O (aa (show i+1<l.length by omega)));apply vn (ab cb bY aT (.inl rfl));apply FL (f:=g) (caps:=[]) rfl (hf i O) rfl;apply et (us:=[qC (stL f l i)]);refine kq (xs:=(List.range i).map (stL f l)) (x:=stL f l i) (f:=qC) rfl rfl O (by simp only[maxLen];omega) ?_;rw[aH3];apply vn (aB O O);dsimp only[aU,aV];exact aq rfl ⟨⟨i+1,O⟩,ai.rfl,by show l.length-1-(i+1)<l.length-1-i;omega⟩
 rw[rP,show l.length-1=i by omega];exact kA rfl rfl
def bV5(t:aC):vc prog (fun o=>bD o (.ret [.one t])) (aj prog 28 (fun _=>none) (aH [1,1,1,0] (aM f197)) [(5,.v none)] ([4].map ResultVar.tmp) none false) ([.v (.one t)].map In.env) []:=by
 rw[Xb];dsimp only[List.map,In.env,aU,aV];exact aR
def Gp{M:c6}{w:World}{n0 E sz base:Nat}{ts:List (List aC)}{v:Value}{xs:j0}(hne:ts≠[])(ho:w.ownsRow base E sz v ts.length xs)(hl:∀t∈ts,t.length=sz)(hr:an (fun k=>M k\/v.ownBlock=some k) w ts.flatten xs)(hn:∀k,v.ownBlock=some k->n0<=k)(hM:∀k,M k->v.ownBlock≠some k):(aC.own n0 E sz ts).rep M w v:=by
 rcases ho.2 with⟨_,h0⟩ | ⟨b,cap,cur,rfl,_,hgb,hnc,hcm,hcs,htake⟩
 .exact absurd (ep h0) hne
 .refine⟨b,cap,cur,rfl,hn b rfl,fun h=>hM b h rfl,hgb,hnc,hcm,hcs,hl,?_⟩;rw[htake];refine hr.mono fun k o hk ho _=>⟨fun h=>hk (h.imp id fun e=>by rw[e];rfl),ho⟩
def as3{M:c6}:(fun k=>M k\/(Value.slice none 0 0).ownBlock=some k)=M:=funext fun k=>propext ⟨fun h=>h.elim id (fun e=>by cases e),.inl⟩
def ja{M:c6}{w w1:World}(hM:bf M w)(hb:Below w.heap.size w w1):bf M w1:=⟨fun b h=>cM (hM.1 b h) hb.size,hM.2.dJ (av.below hb)⟩
def aC2{w w1:World}(hg:w.grownBy w1 (Value.slice none 0 0).ownBlock):Below w.heap.size w w1:=⟨hg.os,hg.tape,hg.output,hg.size,fun j hj=>hg.block j hj (by intro e;cases e)⟩
def aM6(l:c4)(g:FuncId)(f:Rat->Rat->Rat)(hf:∀i,i+1<l.length->aX prog g [qT (l.getD i 0),qT (l.getD (i+1) 0)] (.ret [qT (stL f l i)]))(hs:l.length<1099511627776)(h2:2<=l.length) :
  qM prog 197 [.one (sQ l),.one (.gv g [])] fun n0=>[.one (.own n0 46 3 (rQ (rP f l)))]:=by
 refine⟨ay aS,fun M w vs hM hv=>?_⟩
 match vs,hv with
 | [lv,cv],⟨hlv,hcv,_⟩=>
   refine kH func197 rfl ?_;simp only[ntmps197,cq,bB,bu,Nat.reduceAdd,Nat.reduceSub,eE,eF,eJ,eI,List.nil_append,List.cons_append];refine bU (bV jN.wp (n0:=w.heap.size) (N:=28) (ins:=[]) (xs:=[]) fo trivial (tg bV8) aS (ah _) hM rfl rfl trivial ?_);intro a1 w1 us1 hag1 hb1 hsz1 hdf1 _ _;have hM1:=ja hM hb1;have hl1:=aC.mono _ (av.below hb1) hlv;have hc1:=aC.mono _ (av.below hb1) hcv;have k0:=aO hag1 0 aS;have k1:=aO hag1 1 aS;change a1.tmps.getD 0 undef=lv at k0;change a1.tmps.getD 1 undef=cv at k1;show Code.wp _ _ _ _ _;refine bU (bV jN.wp (n0:=w1.heap.size) (N:=28) (ins:=[]) (xs:=[]) fo trivial (tg bM9) aS (ah _) hM1 hsz1 hdf1 trivial ?_);intro a2 w2 us2 hag2 hb2 hsz2 hdf2 hr2 hrep2;have hus:=bA hr2;subst hus;have h5:a2.tmps.getD 5 undef=.slice none 0 0:=hrep2.1.1;have hM2:=ja hM1 hb2;have k0':=(aO hag2 0 aS).trans k0;have k1':=(aO hag2 1 aS).trans k1;have hl2:=aC.mono _ (av.below hb2) hl1;have hc2:=aC.mono _ (av.below hb2) hc1;rw[<-k0']at hl2;rw[<-k1']at hc2;show Code.wp _ _ _ _ _;refine bU (uK jN.wp (N:=28) (t0:=5) (E:=46) (sz:=3) (tr:=5) (ts:=[]) (base:=0) (v:=.slice none 0 0) (vs:=[]) (ins:=[(0,.v none),(1,.v none)]) (xs:=[.v (.one (sQ l)),.v (.one (.gv g []))]) fo ⟨rfl,rfl,trivial⟩ (bF2 l g f hf hs) aS (by rw[as3];exact hM2) (fun k _ e=>by cases e) hsz2 hdf2 (by rw[as3];exact⟨hl2,hc2,trivial⟩) h5 (pY _ _ _ _) (fun t ht=>by cases ht) trivial ?_);intro a3 w3 us3 v3 xs3 hag3 hg3 hsz3 hdf3 hr3 ht3 hown3 hfr3 _ hrep3;have hb3:=aC2 hg3;have hfr3':∀k,v3.ownBlock=some k->w2.heap.size<=k:=fun k hk=>(hfr3 k hk).elim id (fun e=>by cases e);have hM3:=ja hM2 hb3;have hs12:=hb1.size;have hs23:=hb2.size
   have hor:(aC.own w.heap.size 46 3 (rQ (rP f l))).rep M w3 v3:=Gp (fun e=>by
    have:=congrArg List.length e;rw[aL,rP,aL,nL]at this;simp at this;omega) hown3 rI hrep3 (fun k hk=>by have:=hfr3' k hk;omega) (fun k hk e=>by have:=hfr3' k e;have:=hM2.1 k hk;omega)
   rw[<-ht3]at hor;show Code.wp _ _ _ _ _;refine bU (bV jN.wp (n0:=w3.heap.size) (N:=28) (ins:=[(5,.v none)]) (xs:=[.v (.one (.own w.heap.size 46 3 (rQ (rP f l))))]) fo ⟨rfl,trivial⟩ (tg (bV5 _)) aS (ah _) hM3 hsz3 hdf3 ⟨hor,trivial⟩ ?_);intro a4 w4 us4 hag4 hb4 hsz4 hdf4 hr4 hrep4;have hus:=bA hr4;subst hus;refine rW ?_;refine gB (kN rfl _ _ _) hdf4 ⟨?_,[_],rfl,hrep4.1,trivial⟩;exact(hb1.trans (hb2.mono hs12)).trans ((hb3.mono O).trans (hb4.mono (by have:=hb3.size;omega)))
 | [],hv=>exact hv.elim
 | [_],hv=>exact hv.2.elim
 | _::_::_::_,hv=>exact hv.2.2.elim
def dX(l:c4):List Rat:=rP (fun a b=>b-a) l
def oH(l:c4)(A:Nat)(hA1:1<=A)(hp:∀a∈l,Fit A a)(hs:l.length<1099511627776)(h2:2<=l.length)(hA:A<=1000000000:=by omega):qM prog 131 [(.one (sQ l):aQ)] (fun n0=>[.one (.own n0 46 3 (rQ (dX l)))]):=by
 refine Ae (args:=[.v none]) (ins:=[.v (.one (sQ l))]) (hints:=(fun _=>none)) fo aS func131 ⟨rfl,trivial⟩ (fun n0=>?_);rw[aB5];dsimp only[List.map,In.env,aU,aV];refine Xc (ts:=[.one (.own n0 46 3 (rQ (dX l)))]) (iE.DH (aM6 l 198 (fun a b=>b-a) (fun i hi=>Yq _ _ A A (aD hp _ hA1) (aD hp _ hA1)) hs h2) XT) rfl ?_;dsimp only[aU,aV];exact Af rfl
def jd(l:c4):(dX l).length=l.length-1:=by rw[dX,rP,aL,nL]
def oG{A:Nat}{l:c4}(hA:1<=A)(hp:∀a∈l,Fit A a):∀a∈dX l,Fit (A+A+1) a:=fun a ha=>by
 obtain⟨i,_,rfl⟩:=dm.1 ha;exact(aD hp _ hA).sub (aD hp _ hA)
def ah4(h d:c4)(i:Nat):Rat:=Va (d.getD i 0) (h.getD i 0)
def FE(h d:c4)(i:Nat):List Rat:=(List.range i).map (ah4 h d)++d.drop i
def cD(x y:c4):List Rat:=(List.range (dX y).length).map (ah4 (dX x) (dX y))
def aI6(h d:c4){i:Nat}(hi:i<=d.length):(FE h d i).length=d.length:=by simp[FE];omega
def bg9(h d:c4){i:Nat}(hi:i<d.length):(FE h d i)[i]?=some (d.getD i 0):=by
 rw[FE,fi aT,aL,nL,fE,fG,cV,aa hi]
def aO6(h d:c4){i:Nat}(hi:i<d.length):(FE h d i).set i (ah4 h d i)=FE h d (i+1):=by
 rw[FE,FE,Sc _ _ aT,aL,nL,fE,jW hi,ub,gy,cG,dy];rfl
def bQ2  :vc prog (fun o=>bD o (.ret [])) (aj prog 31 (fun _=>none) (aH [0] (aM f132)) [] ([].map ResultVar.tmp) none false) ([].map In.env) []:=by
 rw[YG];dsimp only[List.map,In.env,aU,aV];exact aR
def bF1(l:c4)(A:Nat)(hA1:1<=A)(hp:∀a∈l,Fit A a)(hs:l.length<1099511627776)(h2:2<=l.length)(hA:A<=1000000000:=by omega):vc prog (fun o=>bD o (.ret [.one (sQ (dX l))])) (aj prog 31 (fun _=>none) (aH [1,0] (aM f132)) [(0,.v none)] ([5].map ResultVar.tmp) none false) ([.v (.one (sQ l))].map In.env) []:=by
 rw[XY];dsimp only[List.map,In.env,aU,aV];apply aA (oH l A hA1 hp hs h2 hA).QT;exact aR
def bJ0(n0:Nat)(l:c4)(A:Nat)(hA1:1<=A)(hp:∀a∈l,Fit A a)(hA:A<=1000000000:=by omega)(hs:l.length<1099511627776:=by omega)(h2:2<=l.length:=by omega):vc prog (iE prog n0 (.ret [.one (.own n0 46 3 (rQ (dX l)))])) (aj prog 31 (fun _=>none) (aH [1,1,0] (aM f132)) [(1,.v none)] ([6].map ResultVar.tmp) none false) ([.v (.one (sQ l))].map In.env) []:=by
 rw[Yy];dsimp only[List.map,In.env,aU,aV];refine Xc (ts:=[.one (.own n0 46 3 (rQ (dX l)))]) (iE.DH (oH l A hA1 hp hs h2 hA) XT) rfl ?_;dsimp only[aU,aV];exact Af rfl
def bN8(h d:c4)(A:Nat)(hh:∀a∈h,Fit A a)(hd:∀a∈d,Fit A a)(hA1:1<=A:=by omega)(hA:A<=1000000000:=by omega)(hl:h.length=d.length:=by omega)(hs:d.length<1099511627776:=by omega):vc prog (fun o=>o=.retr [] (rQ ((List.range d.length).map (ah4 h d)))) (pJ prog 31 (fun _=>none) (aH [1,1,1,0] (aM f132)) [(5,.v none)] 6 46 3 6 ([].map ResultVar.tmp)) ([.v (.one (sQ h))].map In.env++[.rows (rQ d)]) []:=by
 rw[VW];dsimp only[List.map,In.env,aU,aV];refine Wt rfl (aL _) ?_;refine bZ {i:Nat // i<=d.length} (fun g=>[.one (.int .i64 (g.1:Int)),.rows (rQ (FE h d g.1))]) (fun g=>d.length-g.1) ⟨0,dM _⟩ ai.rfl (fun _=>rfl) ?_;rintro⟨i,hi⟩;dsimp only[aU,aV]at hi|-;apply vn bO;refine l4 ?_ ?_<;>intro h3
 .have hi':i<d.length:=O
  have hpl:=aI6 h d hi;have hpa:=bg9 h d hi';refine bo rfl rfl O O ?_;refine Nv rfl rfl O (bI i) hpa (.inl rfl) rfl ?_;dsimp only[aU,aV,mkS,List.drop,List.take];apply vn (aN bX (m:=i) O (bI i) (aa (show i<h.length by omega)));apply vn (ab cb bY aT (.inl rfl));apply aA (qP _ _ A A (aD hd _ hA1) (aD hh _ hA1));refine bo rfl rfl O O ?_;refine gL (f:=qC) (d':=ah4 h d i) rfl rfl O (bI i) hpa rfl ?_;rw[aO6 h d hi'];apply vn (aB O O);dsimp only[aU,aV];exact aq rfl ⟨⟨i+1,O⟩,ai.rfl,by show d.length-(i+1)<d.length-i;omega⟩
 rw[show FE h d i=(List.range d.length).map (ah4 h d) by rw[show i=d.length by omega,FE,BQ,cB]];exact kA rfl rfl
def bZ2(t:aC):vc prog (fun o=>bD o (.ret [.one t])) (aj prog 31 (fun _=>none) (aH [1,1,1,1,0] (aM f132)) [(6,.v none)] ([4].map ResultVar.tmp) none false) ([.v (.one t)].map In.env) []:=by
 rw[XU];dsimp only[List.map,In.env,aU,aV];exact aR
def rl(x y:c4)(A:Nat)(hA1:1<=A)(hx:∀a∈x,Fit A a)(hy:∀a∈y,Fit A a)(hs:x.length<1099511627776)(h2:2<=x.length)(hxy:y.length=x.length)(hA:A<=100000000:=by omega) :
  qM prog 132 [.one (sQ x),.one (sQ y)] fun n0=>[.one (.own n0 46 3 (rQ (cD x y)))]:=by
 refine⟨ay aS,fun M w vs hM hv=>?_⟩
 match vs,hv with
 | [xv,yv],⟨hxv,hyv,_⟩=>
   refine kH func132 rfl ?_;simp only[ntmps132,cq,bB,bu,Nat.reduceAdd,Nat.reduceSub,eE,eF,eJ,eI,List.nil_append,List.cons_append];refine bU (bV jN.wp (n0:=w.heap.size) (N:=31) (ins:=[]) (xs:=[]) fo trivial (tg bQ2) aS (ah _) hM rfl rfl trivial ?_);intro a1 w1 us1 hag1 hb1 hsz1 hdf1 _ _;have hM1:=ja hM hb1;have hx1:=aC.mono _ (av.below hb1) hxv;have hy1:=aC.mono _ (av.below hb1) hyv;have k0:=aO hag1 0 aS;have k1:=aO hag1 1 aS;change a1.tmps.getD 0 undef=xv at k0;change a1.tmps.getD 1 undef=yv at k1;rw[<-k0]at hx1;show Code.wp _ _ _ _ _;refine bU (bV jN.wp (n0:=w1.heap.size) (N:=31) (ins:=[(0,.v none)]) (xs:=[.v (.one (sQ x))]) fo ⟨rfl,trivial⟩ (tg (bF1 x A hA1 hx hs h2)) aS (ah _) hM1 hsz1 hdf1 ⟨hx1,trivial⟩ ?_);intro a2 w2 us2 hag2 hb2 hsz2 hdf2 hr2 hrep2;have hus:=bA hr2;subst hus;have hM2:=ja hM1 hb2;have k1':=(aO hag2 1 aS).trans k1;have hy2:=aC.mono _ (av.below hb2) hy1;rw[<-k1']at hy2;have h5:=hrep2.1;show Code.wp _ _ _ _ _;refine bU (bV jN.wp (n0:=w2.heap.size) (N:=31) (ins:=[(1,.v none)]) (xs:=[.v (.one (sQ y))]) fo ⟨rfl,trivial⟩ (bJ0 w2.heap.size y A hA1 hy) aS (ah _) hM2 hsz2 hdf2 ⟨hy2,trivial⟩ ?_);intro a3 w3 us3 hag3 hb3 hsz3 hdf3 hr3 hrep3;have hus:=bA hr3;subst hus;have hM3:=ja hM2 hb3;have h5':=aC.mono _ (av.below hb3) h5;have k5:=aO hag3 5 aS;obtain⟨b,hbn,hrowoff,hrowown,xs3,hown3,hl3,hrp3⟩:=aC.own.row hrep3.1
   have hMb:(fun k=>M k\/(a3.tmps.getD 6 undef).ownBlock=some k)=Mb M b:=by
    rw[hrowown];exact funext fun k=>propext ⟨fun h=>h.imp id (fun e=>(cI e).symm),fun h=>h.imp id (fun e=>by rw[e])⟩
   have hkb:av M w2 (Mb M b) w3:=fun k o hk ho _=>by
    have hlt:=(cJ.1 ho).1;exact⟨fun h=>h.elim hk O,(hb3.block k hlt).trans ho⟩
   have hMb3:bf (Mb M b) w3:=⟨fun k hk=>hk.elim (fun h=>hM3.1 k h) (fun e=>by rw[e];exact(hown3.lt b hrowown).2),hM2.2.dJ hkb⟩
   have h5b:=aC.mono _ hkb h5;have h5r:(sQ (dX x)).rep (Mb M b) w3 (a3.tmps.getD 5 undef):=by rw[k5];exact h5b
   have hwx:=jd x;have hwy:=jd y;show Code.wp _ _ _ _ _;refine bU (uK jN.wp (N:=31) (t0:=6) (E:=46) (sz:=3) (tr:=6) (ts:=rQ (dX y)) (ins:=[(5,.v none)]) (xs:=[.v (.one (sQ (dX x)))]) fo ⟨rfl,trivial⟩ (bN8 (dX x) (dX y) (A+A+1) (oG hA1 hx) (oG hA1 hy)) aS (by rw[hMb];exact hMb3) (fun k hk e=>by rw[hrowown]at e;exact hrowoff (cI e▸hk)) hsz3 hdf3 (by rw[hMb];exact⟨h5r,trivial⟩) rfl hown3 hl3 (by rw[hMb];exact hrp3) ?_);intro a4 w4 us4 v4 xs4 hag4 hg4 hsz4 hdf4 hr4 ht4 hown4 hfr4 _ hrep4;rw[hrowown]at hg4;have hs12:=hb1.size;have hs23:=hb2.size;have hs34:=hb3.size;have hs45:=hg4.size;have hfr4':∀k,v4.ownBlock=some k->w2.heap.size<=k:=fun k hk=>(hfr4 k hk).elim (fun h=>O) (fun e=>by rw[hrowown]at e;have:=cI e;omega);have hb4:Below w2.heap.size w3 w4:=⟨hg4.os,hg4.tape,hg4.output,hg4.size,fun j hj=>hg4.block j O fun e=>by have:=cI e;omega⟩
   have hb24:Below w2.heap.size w2 w4:=hb3.trans hb4;have hM4:=ja hM2 hb24
   have hor:(aC.own w.heap.size 46 3 (rQ (cD x y))).rep M w4 v4:=Gp (fun e=>by
    have:=congrArg List.length e;rw[aL,cD,aL,nL,bu]at this;omega) hown4 rI hrep4 (fun k hk=>by have:=hfr4' k hk;omega) (fun k hk e=>by have:=hfr4' k e;have:=hM2.1 k hk;omega)
   rw[<-ht4]at hor;show Code.wp _ _ _ _ _;refine bU (bV jN.wp (n0:=w4.heap.size) (N:=31) (ins:=[(6,.v none)]) (xs:=[.v (.one (.own w.heap.size 46 3 (rQ (cD x y))))]) fo ⟨rfl,trivial⟩ (tg (bZ2 _)) aS (ah _) hM4 hsz4 hdf4 ⟨hor,trivial⟩ ?_);intro a5 w5 us5 hag5 hb5 hsz5 hdf5 hr5 hrep5;have hus:=bA hr5;subst hus;refine rW ?_;refine gB (kN rfl _ _ _) hdf5 ⟨?_,[_],rfl,hrep5.1,trivial⟩;exact(hb1.trans (hb2.mono hs12)).trans ((hb24.mono O).trans (hb5.mono O))
 | [],hv=>exact hv.elim
 | [_],hv=>exact hv.2.elim
 | _::_::_::_,hv=>exact hv.2.2.elim
def xS(x y:c4):(cD x y).length=y.length-1:=by rw[cD,aL,nL,jd]
def tP{A:Nat}{x y:c4}(hx:∀a∈x,Fit A a)(hy:∀a∈y,Fit A a)(hA:1<=A:=by omega):∀a∈cD x y,Fit (4*A+2) a:=fun a ha=>by
 obtain⟨i,_,rfl⟩:=dm.1 ha;exact(an2 (aD (oG hA hy) i) (aD (oG hA hx) i)).mono O
attribute [local go_sem] Oper.semAt_some
def LJ:Tr:=.ret [(.one (.ref 0 [(.k (.int .i64 (1)))]))]
def Yd:aj prog 34 (fun _=>none) (aH [0] (aM f203)) [] ([5].map ResultVar.tmp) none false=LJ:=aS
def LU:Tr:=.ret [(W 3 0)]
def NJ:Tr:=.need (.prim [(W 1 0),(W 2 0)] none) (.binOp .lss 3 (.tmp 7) (.tmp 9) 3) 4 false LU
def Jp:Tr:=.need (.prim [(W 0 0)] none) (.call ⟨.builtin .len,#[(.tmp 8)],#[28]⟩) 3 false NJ
def Yb:aj prog 34 (fun _=>none) (aH [1,0,0,0,0] (aM f203)) [(1,.ref 1),(5,.ref 1)] ([10].map ResultVar.tmp) none false=Jp:=aS
def GH:Tr:=.ret [(W 13 0)]
def MV:Tr:=.need (.call 133 [(W 4 0),(.agg [(U 12 0),(U 12 1),(U 12 2)]),(.one (.gv 204 [(.ref 0 [(.u 0 0)]),(.ref 0 [(.u 3 0)])]))] [none]) (.call ⟨.value (.func 133),#[(.tmp 14),(.tmp 26),(.tmp 27)],#[3,46,184]⟩) 28 true GH
def NP:Tr:=.need (.call 76 [(.agg [(U 10 0),(U 10 1),(U 10 2)]),(.agg [(U 11 0),(U 11 1),(U 11 2)])] [(some 3)]) (.call ⟨.value (.func 76),#[(.tmp 24),(.tmp 25)],#[46,46]⟩) 46 false MV
def KA:Tr:=.need (.call 113 [(WK (6))] [(some 3)]) (.call ⟨.value (.func 113),#[(.const (I3 (6)))],#[3]⟩) 46 false NP
def MD:Tr:=.need (.call 86 [(.agg [(U 6 0),(U 6 1),(U 6 2)]),(.agg [(U 9 0),(U 9 1),(U 9 2)])] [(some 3)]) (.call ⟨.value (.func 86),#[(.tmp 18),(.tmp 23)],#[46,46]⟩) 46 false KA
def MZ:Tr:=.need (.prim [(W 8 0)] (some 3)) (.load 46 (.tmp 22)) 46 false MD
def Ic:Tr:=.need (.prim [(W 2 0),(W 7 0)] none) (.indexAddr 28 (.tmp 19) (.tmp 21)) 0 false MZ
def Ia:Tr:=.need (.prim [(W 3 0),(WK (1))] none) (.binOp .sub 3 (.tmp 20) (.const (I3 (1))) 3) 3 false Ic
def Iz:Tr:=.need (.prim [(W 5 0)] (some 3)) (.load 46 (.tmp 17)) 46 false Ia
def Ma:Tr:=.need (.prim [(W 2 0),(W 3 0)] none) (.indexAddr 28 (.tmp 15) (.tmp 16)) 0 false Iz
def Nd:Tr:=.need (.prim [(W 1 0)] none) (.call ⟨.builtin .len,#[(.tmp 13)],#[28]⟩) 3 false Ma
def Xt:aj prog 34 (fun _=>none) (aH [1,0,0,1,0,0,0] (aM f203)) [(1,.ref 1),(2,.ref 1),(3,.ref 1),(5,.ref 1)] ([6].map ResultVar.tmp) none false=Nd:=aS
def HR:Tr:=.ret [(.one (.ref 0 [(.u 1 0)]))]
def NW:Tr:=.need (.prim [(W 0 0),(WK (1))] none) (.binOp .add 3 (.tmp 11) (.const (I3 (1))) 3) 3 false HR
def WT:aj prog 34 (fun _=>none) (aH [1,0,0,1,1] (aM f203)) [(5,.ref 1)] ([5].map ResultVar.tmp) none false=NW:=aS
def cg7(t:iS)(h:t.size=34):t=#[t.getD 0 undef,t.getD 1 undef,t.getD 2 undef,t.getD 3 undef,t.getD 4 undef,t.getD 5 undef,t.getD 6 undef,t.getD 7 undef,t.getD 8 undef,t.getD 9 undef,t.getD 10 undef,t.getD 11 undef,t.getD 12 undef,t.getD 13 undef,t.getD 14 undef,t.getD 15 undef,t.getD 16 undef,t.getD 17 undef,t.getD 18 undef,t.getD 19 undef,t.getD 20 undef,t.getD 21 undef,t.getD 22 undef,t.getD 23 undef,t.getD 24 undef,t.getD 25 undef,t.getD 26 undef,t.getD 27 undef,t.getD 28 undef,t.getD 29 undef,t.getD 30 undef,t.getD 31 undef,t.getD 32 undef,t.getD 33 undef]:=(qo t 34 h).trans rfl
def bK2  :vc prog (fun o=>bD o (.ret [.one (.aw [.int .i64 1])])) (aj prog 34 (fun _=>none) (aH [0] (aM f203)) [] ([5].map ResultVar.tmp) none false) ([].map In.env) []:=by
 rw[Yd];dsimp only[List.map,In.env,aU,aV];exact aR
def bW4(h:c4)(i:Nat)(hs:h.length<1099511627776:=by omega):vc prog (fun o=>bD o (.ret [.one (.bool (decide ((i:Int)<(h.length:Int))))])) (aj prog 34 (fun _=>none) (aH [1,0,0,0,0] (aM f203)) [(1,.ref 1),(5,.ref 1)] ([10].map ResultVar.tmp) none false) ([.ref ([sQ h]),.ref ([.int .i64 (i:Int)])].map In.env) []:=by
 rw[Yb];dsimp only[List.map,In.env,aU,aV];apply vn (ae bX (aL _));apply vn bO;exact aR
def kW(h d:c4)(n i:Nat):List Rat:=af7 h i ((List.replicate (n+1) 0).set n ((d.getD i 0-d.getD (i-1) 0)*((6:Int):Rat)))
def rV(h d:c4)(n i:Nat):(kW h d n i).length=n+1:=by simp[kW,af7]
def cd9(n0:Nat)(h x d:c4)(i A:Nat)(hA1:1<=A)(hA:A<=100000000)(hh:∀a∈h,Fit A a)(hd:∀a∈d,Fit A a)(hs:x.length<1099511627776)(hhl:h.length+1=x.length)(hdl:d.length+1=x.length)(hi:1<=i)(hil:i<h.length):vc prog (iE prog n0 (.ret [.one (.jL n0 46 3 (rQ (kW h d x.length i)))])) (aj prog 34 (fun _=>none) (aH [1,0,0,1,0,0,0] (aM f203)) [(1,.ref 1),(2,.ref 1),(3,.ref 1),(5,.ref 1)] ([6].map ResultVar.tmp) none false) ([.ref ([sQ h]),.ref ([sQ x]),.ref ([sQ d]),.ref ([.int .i64 (i:Int)])].map In.env) []:=by
 rw[Xt];dsimp only[List.map,In.env,aU,aV];apply vn (ae bX (aL _));dsimp only[aU,aV];apply vn (aN bX (m:=i) O (bI i) (aa (show i<d.length by omega)));apply vn (ab cb bY aT (.inl rfl));apply vn (aI O O);dsimp only[aU,aV];apply vn (aN bX (m:=i-1) O O (aa (show i-1<d.length by omega)));apply vn (ab cb bY aT (.inl rfl));apply aA (lZ _ _ A A (aD hd _ hA1) (aD hd _ hA1));apply aA (dp 6);apply aA (ig _ _ (A+A+1) 62 ((aD hd _ hA1).sub (aD hd _ hA1)) (Fit.int O O));dsimp only[aU,aV];refine Xc (ts:=[.one (.jL n0 46 3 (rQ (kW h d x.length i)))]) (iE.DH (OX x.length _ 204 [.aw [sQ h],.aw [.int .i64 (i:Int)]] (kW h d x.length i) hs (rV _ _ _ _) (QN h i A _ hA1 hh hi hil (by rw[al,dU];omega))) oI) rfl ?_;dsimp only[aU,aV];exact Af rfl
def bM1(i:Nat)(hi:i<1099511627776:=by omega):vc prog (fun o=>bD o (.ret [.one (.aw [.int .i64 ((i:Int)+1)])])) (aj prog 34 (fun _=>none) (aH [1,0,0,1,1] (aM f203)) [(5,.ref 1)] ([5].map ResultVar.tmp) none false) ([.ref ([.int .i64 (i:Int)])].map In.env) []:=by
 rw[WT];dsimp only[List.map,In.env,aU,aV];apply vn (aB O O);exact aR
def lI(h d:c4)(n:Nat):List (List (List aC)):=(List.range (h.length-1)).map fun j=>rQ (kW h d n (j+1))
def Zc(h d:c4)(n:Nat){i:Nat}(hi:1<=i)(hil:i<h.length):(lI h d n)[i-1]?=some (rQ (kW h d n i)):=by
 rw[lI,dR,kC O];show some (rQ (kW h d n (i-1+1)))=_;rw[show i-1+1=i by omega]
set_option maxHeartbeats 1000000 in
def yr(h x d:c4)(A:Nat)(hh:∀a∈h,Fit A a)(hd:∀a∈d,Fit A a)
  (M X:c6) (w:World) (hF:bf (fun k=>M k\/X k) w) (v1 v2 v3:Value) (r1:(aC.aw [sQ h]).rep (fun k=>M k\/X k) w v1) (r2:(aC.aw [sQ x]).rep (fun k=>M k\/X k) w v2) (r3:(aC.aw [sQ d]).rep (fun k=>M k\/X k) w v3) (hA1:1<=A:=by omega) (hA:A<=100000000:=by omega) (hs:x.length<1099511627776:=by omega) (hhl:h.length+1=x.length:=by omega) (hdl:d.length+1=x.length:=by omega) (h0:1<=h.length:=by omega):Gen prog 46 3 203 #[v1,v2,v3] (lI h d x.length) (fun _=>False) X M w:=by
 intro W σ Ms nx s0 l J hbW hMs hH hR hJ0;have hlen:(lI h d x.length).length=h.length-1:=by rw[lI,aL,nL]
 rw[hlen]
 have hk0:av (fun k=>M k\/X k) w (fun k=>Ms s0 k\/X k) W:=fun b o hb ho _=>by
  have hlt:=(cJ.1 ho).1;exact⟨fun hm=>hm.elim (fun hm=>hb (.inl (hMs b hlt hm))) (fun hm=>hb (.inr hm)),(hbW.block b hlt).trans ho⟩
 have hWw:=hbW.size;have hX:∀k,X k->k<W.heap.size:=fun k hk=>by have:=hF.1 k (.inr hk);omega
 have hG0:Good (fun k=>Ms s0 k\/X k) W:=hF.2.dJ hk0;have hfin:∀{i s W'},J i s W'->W.heap.size<=W'.heap.size->Good (fun k=>Ms s k\/X k) W'->bf (fun k=>Ms s k\/X k) W':=fun hj hle hg=>⟨fun k hk=>hk.elim (fun h=>(hH.yi hj).1 k h) (fun h=>by have:=hX k h;omega),hg⟩
 replace r1:=aC.mono _ hk0 r1;replace r2:=aC.mono _ hk0 r2;replace r3:=aC.mono _ hk0 r3;clear hk0 hMs hbW hF;refine(bC (n:=1000)).1 ?_;refine jF func203 rfl trivial ?_ rfl;simp only[ntmps203,cq,bB,bu,Nat.reduceAdd,Nat.reduceSub,eE,eF,eJ,eI,List.nil_append,List.cons_append];refine cn (dK.2 (bV jN.wp (n0:=W.heap.size) (N:=34) (ins:=[]) (xs:=[]) fo trivial (tg bK2) aS (ah _) (hfin hJ0 (ah _) hG0) rfl rfl trivial ?_));intro a1 w1 us1 hag1 hb1 hsz1 hdf1 hr1 hrep1;have hus:=bA hr1;subst hus;have k0:=aO hag1 0 aS;have k1:=aO hag1 1 aS;have k2:=aO hag1 2 aS;have k3:=aO hag1 3 aS;change a1.tmps.getD 0 undef=.func (.yield l) #[] #[]at k0;change a1.tmps.getD 1 undef=v1 at k1;change a1.tmps.getD 2 undef=v2 at k2;change a1.tmps.getD 3 undef=v3 at k3;have h5:=hrep1.1;have hJ1:=hH.below hJ0 (ah _) hb1;have kp1:Kp (fun k=>Ms s0 k\/False) W (Ms s0) w1:=(Kp.below hb1).br5 fun k hk=>.inl hk;have hk1:=av.below (M:=fun k=>Ms s0 k\/X k) hb1;show Code.wpIn _ _ _ _ _ _ _
 refine pT (rh (fun j a' W'=>∃i s,j=h.length-i/\1<=i/\i<=h.length/\a'.tmps.size=34/\a'.defers=[]/\a'.tmps.getD 0 undef=.func (.yield l) #[] #[]/\(aC.aw [sQ h]).rep (fun k=>Ms s k\/X k) W' (a'.tmps.getD 1 undef)/\(aC.aw [sQ x]).rep (fun k=>Ms s k\/X k) W' (a'.tmps.getD 2 undef)/\(aC.aw [sQ d]).rep (fun k=>Ms s k\/X k) W' (a'.tmps.getD 3 undef)/\(aC.aw [.int .i64 (i:Int)]).rep (fun k=>Ms s k\/X k) W' (a'.tmps.getD 5 undef)/\J (i-1) s W'/\Kp (fun k=>Ms s0 k\/False) W (Ms s) W'/\Good (fun k=>Ms s k\/X k) W') (h.length-1)
  ⟨1,s0,rfl,ah _,h0,hsz1,hdf1,k0,by rw[k1];exact aC.mono _ hk1 r1,by rw[k2];exact aC.mono _ hk1 r2,by rw[k3];exact aC.mono _ hk1 r3,h5,hJ1,kp1,hG0.dJ hk1⟩ ?round)
 case round=>
  clear hJ0 hJ1 k0 k1 k2 k3 h5 kp1 hk1 r1 r2 r3 hb1 hag1 hr1 hrep1 hG0;rintro j a2 w2 ⟨i,s,rfl,hi1,hil,hsz2,hdf2,t0,t1,t2,t3,t5,hJ,kp,hG⟩;have hWs:=kp.size;show Code.wpIn _ _ _ _ _ _ _;refine cn (cn (dK.2 (bV jN.wp (n0:=w2.heap.size) (N:=34) (ins:=[(1,.ref 1),(5,.ref 1)]) (xs:=[.ref [sQ h],.ref [.int .i64 (i:Int)]]) fo ⟨rfl,rfl,trivial⟩ (tg (bW4 h i)) aS (ah _) (hfin hJ hWs hG) hsz2 hdf2 ⟨t1,t5,trivial⟩ ?_)));intro a3 w3 us3 hag3 hb3 hsz3 hdf3 hr3 hrep3;have hus:=bA hr3;subst hus;have h10:a3.tmps.getD 10 undef=.bool (decide ((i:Int)<(h.length:Int))):=hrep3.1.1;have hk3:=av.below (M:=fun k=>Ms s k\/X k) hb3;have hG3:=hG.dJ hk3;have hJ3:=hH.below hJ O hb3;have kp3:=kp.trans (Kp.below (M:=Ms s) hb3);have q0:=(aO hag3 0 aS).trans t0;have q1:(aC.aw [sQ h]).rep (fun k=>Ms s k\/X k) w3 (a3.tmps.getD 1 undef):=by rw[aO hag3 1 aS];exact aC.mono _ hk3 t1
  have q2:(aC.aw [sQ x]).rep (fun k=>Ms s k\/X k) w3 (a3.tmps.getD 2 undef):=by rw[aO hag3 2 aS];exact aC.mono _ hk3 t2
  have q3:(aC.aw [sQ d]).rep (fun k=>Ms s k\/X k) w3 (a3.tmps.getD 3 undef):=by rw[aO hag3 3 aS];exact aC.mono _ hk3 t3
  have q5:(aC.aw [.int .i64 (i:Int)]).rep (fun k=>Ms s k\/X k) w3 (a3.tmps.getD 5 undef):=by rw[aO hag3 5 aS];exact aC.mono _ hk3 t5
  have hWs3:=kp3.size;clear hJ kp t0 t1 t2 t3 t5 hb3 hag3 hr3 hrep3 hk3 hG;show Code.wpIn _ _ _ _ _ _ _;refine qK (t:=decide ((i:Int)<(h.length:Int))) h10 ?_;by_cases hlt:(i:Int)<(h.length:Int)
  rotate_left
  .rw[dn hlt];obtain rfl:i=h.length:=O
   refine yQ ?_;refine km ?_;refine Qy (BZ rfl _ _ _) hdf3 ?_;exact⟨⟨_,rfl⟩,s,hJ3,kp3⟩
  rw[bz hlt];refine qR ?_;have hlt':i<h.length:=O
  show Code.wpIn _ _ _ _ _ _ _;refine sU fun K9 hK9=>pT (cn (dK.2 (bV jN.wp (n0:=w3.heap.size) (N:=34) (ins:=[(1,.ref 1),(2,.ref 1),(3,.ref 1),(5,.ref 1)]) (xs:=[.ref [sQ h],.ref [sQ x],.ref [sQ d],.ref [.int .i64 (i:Int)]]) fo ⟨rfl,rfl,rfl,rfl,trivial⟩ (cd9 w3.heap.size h x d i A hA1 hA hh hd hs hhl hdl hi1 hlt') aS (ah _) (hfin hJ3 hWs3 hG3) hsz3 hdf3 ⟨q1,q2,q3,q5,trivial⟩ ?_)));intro a4 w4 us4 hag4 hb4 hsz4 hdf4 hr4 hrep4;have hus:=bA hr4;subst hus;obtain⟨b,hbn,hrow⟩:=aC.jL.rowAt hrep4.1;have hJ4:=hH.below hJ3 O hb4;have kp4:=kp3.trans (Kp.below (M:=Ms s) hb4);have hnr:=hH.near hJ3
  have hkb:av (fun k=>Ms s k\/X k) w3 (Mb (fun k=>Ms s k\/X k) b) w4:=fun k o hk ho _=>by
   have hlt:=(cJ.1 ho).1;exact⟨fun h=>h.elim hk O,(hb4.block k hlt).trans ho⟩
  have e0:=(aO hag4 0 aS).trans q0;have e1:(aC.aw [sQ h]).rep (Mb (fun k=>Ms s k\/X k) b) w4 (a4.tmps.getD 1 undef):=by rw[aO hag4 1 aS];exact aC.mono _ hkb q1
  have e2:(aC.aw [sQ x]).rep (Mb (fun k=>Ms s k\/X k) b) w4 (a4.tmps.getD 2 undef):=by rw[aO hag4 2 aS];exact aC.mono _ hkb q2
  have e3:(aC.aw [sQ d]).rep (Mb (fun k=>Ms s k\/X k) b) w4 (a4.tmps.getD 3 undef):=by rw[aO hag4 3 aS];exact aC.mono _ hkb q3
  have e5:(aC.aw [.int .i64 (i:Int)]).rep (Mb (fun k=>Ms s k\/X k) b) w4 (a4.tmps.getD 5 undef):=by rw[aO hag4 5 aS];exact aC.mono _ hkb q5
  have hY:=YieldAt.plain (m':=999) (hR (i-1) s w4 (a4.tmps.getD 6 undef) b _ (Zc h d x.length hi1 hlt') hJ4 (hrow.in fun k hk=>hk.elim (fun h=>.inl (.inl h)) fun h=>h.elim (fun h=>.inl (.inr h)) .inr) (fun h=>hrow.off (.inl h)) (.inl ⟨O,O⟩));have hone:=hrow.one;have hG4:=hG3.dJ hkb;clear hJ3 hJ4 hG3 kp3 q0 q1 q2 q3 q5 hag4 hr4 hrep4 h10 hrow hkb;obtain⟨t4,d4⟩:=a4;dsimp only at hsz4 hdf4 e0 e1 e2 e3 e5 hY hone;subst hdf4;show Code.wpIn _ _ _ _ _ _ _;rw[cg7 t4 hsz4,e0];generalize t4.getD 1 undef=y1 at e1|-;generalize t4.getD 2 undef=y2 at e2|-;generalize t4.getD 3 undef=y3 at e3|-;generalize t4.getD 5 undef=y5 at e5|-;generalize t4.getD 6 undef=y6 at hY hone|-;generalize t4.getD 4 undef=y4;generalize t4.getD 7 undef=y7;generalize t4.getD 8 undef=y8;generalize t4.getD 9 undef=y9;generalize t4.getD 10 undef=y10;generalize t4.getD 11 undef=y11;generalize t4.getD 12 undef=y12;generalize t4.getD 13 undef=y13;generalize t4.getD 14 undef=y14;generalize t4.getD 15 undef=y15;generalize t4.getD 16 undef=y16;generalize t4.getD 17 undef=y17;generalize t4.getD 18 undef=y18;generalize t4.getD 19 undef=y19;generalize t4.getD 20 undef=y20;generalize t4.getD 21 undef=y21;generalize t4.getD 22 undef=y22;generalize t4.getD 23 undef=y23;generalize t4.getD 24 undef=y24;generalize t4.getD 25 undef=y25;generalize t4.getD 26 undef=y26;generalize t4.getD 27 undef=y27;generalize t4.getD 28 undef=y28;generalize t4.getD 29 undef=y29;generalize t4.getD 30 undef=y30;generalize t4.getD 31 undef=y31;generalize t4.getD 32 undef=y32;generalize t4.getD 33 undef=y33;clear e0 hsz4 t4;replace hK9:Mt _:=hK9
  gi_wp2
  obtain⟨fnr,tmr,asr,bdr,hy,hRd⟩:=hY;rw[hy];refine⟨(fun h=>by cases h),?_⟩;refine hRd.mono ?_;rintro e w5 ⟨rfl,s',hJ5,kp5⟩;rw[show i-1+1=i by omega]at hJ5
  have hk5:av (Mb (fun k=>Ms s k\/X k) b) w4 (fun k=>Ms s' k\/X k) w5:=fun k o hk ho _=>by
   have hlt:=(cJ.1 ho).1;obtain⟨h1,h2⟩:=kp5.same k hlt fun h=>hk (h.imp .inl id);exact⟨fun h=>h.elim h1 fun h=>hk (.inl (.inr h)),h2.trans ho⟩
  have hG5:=hG4.dJ hk5;have f1:=aC.mono _ hk5 e1;have f2:=aC.mono _ hk5 e2;have f3:=aC.mono _ hk5 e3;have f5:=aC.mono _ hk5 e5;have kp6:=kp4.step (.inl O) kp5;have hs6:=kp6.size;clear e1 e2 e3 e5 hRd hy kp4 kp5
  gi_wp2
  unfold Mt at hK9;refine hK9 _ _ ?_;clear hK9 K9;refine dK.2 (bV jN.wp (n0:=w5.heap.size) (N:=34) (ins:=[(5,.ref 1)]) (xs:=[.ref [.int .i64 (i:Int)]]) fo ⟨rfl,trivial⟩ (tg (bM1 i)) aS (ah _) (hfin hJ5 hs6 hG5) rfl rfl ⟨f5,trivial⟩ ?_);intro a6 w6 us6 hag6 hb6 hsz6 hdf6 hr6 hrep6;have hus:=bA hr6;subst hus;have hk6:=av.below (M:=fun k=>Ms s' k\/X k) hb6;refine⟨h.length-(i+1),O,i+1,s',rfl,O,O,hsz6,hdf6,aO hag6 0 aS,?_,?_,?_,?_,?_,?_,hG5.dJ hk6⟩
  .rw[aO hag6 1 aS];exact aC.mono _ hk6 f1
  .rw[aO hag6 2 aS];exact aC.mono _ hk6 f2
  .rw[aO hag6 3 aS];exact aC.mono _ hk6 f3
  .have:=hrep6.1;rw[show(((i+1:Nat):Int))=(i:Int)+1 by omega];exact this
  .rw[show i+1-1=i by omega];exact hH.below hJ5 O hb6
  .exact kp6.trans (Kp.below (M:=Ms s') hb6)
end Go.Sy
