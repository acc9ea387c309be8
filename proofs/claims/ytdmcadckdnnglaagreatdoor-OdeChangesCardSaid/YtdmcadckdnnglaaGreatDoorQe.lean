/- Part. -/
import Derived.Test.YtdmcadckdnnglaaGreatDoorQa
import Derived.Maps.OwnIn
import Derived.Sort.LoopGhostIn
set_option linter.all false
set_option maxHeartbeats 1000000
set_option maxRecDepth 100000
namespace Go.Sy
def YO:Code->Code
 | .seq _ (.seq _ (.seq _ (.block _ (.loop (.seq (.block _ (.seq _ (.seq x _))) _)))))=>x
 | _=>.skip
def stX(T:Nat):St:=
 ⟨[(0,.w (.one (.c (.u 5 0)))),(1,.w (.one (.ref 0 [.u 0 0,.u 0 1,.u 0 2,.u 0 3,.u 0 4]))),(2,.w (.one (.ref 0 [.u 1 0]))),(4,.w (.one (.r 1))),(5,.w (.one (.c (.u 3 0)))),(6,.w (.one (.c (.u 4 0)))),(7,.w (.one (.p 0 0)))],
   [(0,.var T [.c (.k (.slice none 0 0)),.c (.k (.bool false)),.c (.k (.slice none 0 0))]),(1,.part T 3 2)],[]⟩
def aj6(T:Nat):Ex->Nat->Nat->St->Gn->Tr
 | .normal,_,_,s,_=>
   match s.t 0,s.t 1,s.t 2,s.t 4,s.t 5,s.t 6,s.t 7,s.s 0,s.b 0,s.s 1,s.b 1 with
   | .w (.one (.c (.u 5 0))),.w (.one (.ref 0 [.u 0 0,.u 0 1,.u 0 2,.u 0 3,.u 0 4])),.w (.one (.ref 0 [.u 1 0])),.w (.one (.r 1)),.w (.one (.c (.u 3 0))),.w (.one (.c (.u 4 0))),.w (.one (.p 0 0)),false,some (.var T' [.c a,.c b,.c c]),false,some (.part T2 3 2)=>
     if T'=T/\T2=T then .ret [.agg [.c a,.c b,.c c]]else .fail 3000
   | _,_,_,_,_,_,_,_,_,_,_=>.fail 3001
 | _,_,_,_,_=>.fail 3003
def ax4(P:n7)(fn:Func)(T:Nat):Tr:=
 match fn.body with
 | some c=>exec P fn.ntmps (fun _=>none) (YO c) 0 0 2 6 (stX T) [] (aj6 T)
 | none=>.fail 3004
open Go.RowKit (Below)
section
variable{P:n7}
def aA6{fn:Func}{c:Code}{T N:Nat}(hm:P.follows .mixedOrders=true)(hb:fn.body=some c)(hN:fn.ntmps=N){s0 s1 s2 s3 s4 y0 m0 n0 f0:aE}{asx:List (List aE)}{cs:List aE}
  (h:vc P (fun o=>o=.ret [.agg cs]) (ax4 P fn T) [.agg [s0,s1,s2,s3,s4],.agg [y0],.rows asx,.one m0,.one n0,.one f0] [])
  {M:j2} {W:World} {a:Act} {Q:lg} {va:Value} {base:Nat} {xs:n5} (hM:cX (fun b=>M b\/va.ownBlock=some b) W) (hMa:∀b,M b->va.ownBlock≠some b) (hsz:a.tmps.size=N) (hdf:a.defers=[])
  (hown:W.ownsRow base T 3 va asx.length xs) (hlen:∀t∈asx,t.length=3) (hrow:ai (fun b=>M b\/va.ownBlock=some b) W asx.flatten xs)
  (h0:f0.rep (fun b=>M b\/va.ownBlock=some b) W (a.tmps.getD 0 undef)) (h1:(aE.aW [s0,s1,s2,s3,s4]).rep (fun b=>M b\/va.ownBlock=some b) W (a.tmps.getD 1 undef)) (h2:(aE.aW [y0]).rep (fun b=>M b\/va.ownBlock=some b) W (a.tmps.getD 2 undef))
  (h4:a.tmps.getD 4 undef=va) (h5:m0.rep (fun b=>M b\/va.ownBlock=some b) W (a.tmps.getD 5 undef)) (h6:n0.rep (fun b=>M b\/va.ownBlock=some b) W (a.tmps.getD 6 undef)) (h7:a.tmps.getD 7 undef=.pointer (some ⟨W.heap.size,0,none⟩))
  (hQ:∀a' w' u0 u1 u2 xs',W.heap.size<=w'.heap.size->w'.os=W.os->w'.tape=W.tape->w'.output=W.output->(∀k,k<W.heap.size->va.ownBlock≠some k->w'.heap[k]?=W.heap[k]?)->a'.tmps.size=N->a'.defers=[] ->
   f0.rep (fun b=>M b\/va.ownBlock=some b) w' (a'.tmps.getD 0 undef)->(aE.aW [s0,s1,s2,s3,s4]).rep (fun b=>M b\/va.ownBlock=some b) w' (a'.tmps.getD 1 undef)->(aE.aW [y0]).rep (fun b=>M b\/va.ownBlock=some b) w' (a'.tmps.getD 2 undef) ->
   a'.tmps.getD 4 undef=va->m0.rep (fun b=>M b\/va.ownBlock=some b) w' (a'.tmps.getD 5 undef)->n0.rep (fun b=>M b\/va.ownBlock=some b) w' (a'.tmps.getD 6 undef) ->
   (∃k,W.heap.size<=k/\a'.tmps.getD 7 undef=.pointer (some ⟨k,0,none⟩)/\w'.heap[k]?=some (.cells #[u0,u1,u2] T (0,0)))->ai (fun b=>M b\/va.ownBlock=some b) w' cs [u0,u1,u2] ->
   w'.ownsRow base T 3 va asx.length xs'->ai (fun b=>M b\/va.ownBlock=some b) w' asx.flatten xs'->Q .normal a' w') :
  (YO c).wp P Q a (W.alloc (.cells #[.slice none 0 0,.bool false,.slice none 0 0] T)):=by
 unfold ax4 at h;rw[hb,hN]at h
 obtain⟨cur0,hcur0⟩:∃cur0:Array Value,∀g,va.ownBlock=some g->W.heap[g]?=some (.cells cur0 T (0,0)):=by
  rcases hown.2 with⟨rfl,_⟩ | ⟨g,cap,cur,rfl,_,hg,_⟩
  .exact⟨#[],fun g hg=>by simp[Value.ownBlock]at hg⟩
  .refine⟨cur,fun g' hg'=>?_⟩;simp only[Value.ownBlock,aM]at hg';rw[<-hg'];exact hg
 have hva1:va.oneCell'=true:=by
  rcases hown.2 with⟨rfl,_⟩ | ⟨g,cap,cur,rfl,_⟩<;>rfl
 obtain⟨gh,hgh⟩:∃gh:Gh,gh=⟨0,va,cur0⟩:=⟨_,rfl⟩
 obtain⟨M0,hM0⟩:∃M0:fD,M0=⟨M,gh⟩:=⟨_,rfl⟩
 obtain⟨ρ0,hρ0⟩:∃ρ0:Nat->Gh,ρ0=fun b=>if b=0 then⟨W.heap.size,undef,#[]⟩else gh:=⟨_,rfl⟩
 have hO:∀k,M0.O k↔va.ownBlock=some k:=fun k=>by rw[hM0,fD.O,hgh]
 have hbox:∀b x,(stX T).b b=some x->(b=0/\x=.var T [.c (.k (.slice none 0 0)),.c (.k (.bool false)),.c (.k (.slice none 0 0))])\/(b=1/\x=.part T 3 2):=by
  intro b x hb1;simp only[stX,St.b,look]at hb1;split at hb1
  .rename_i e;simp only[aM]at hb1;exact .inl ⟨e.symm,hb1.symm⟩
  .split at hb1
   .rename_i e;simp only[aM]at hb1;exact .inr ⟨e.symm,hb1.symm⟩
   .cases hb1
 have hown0:own ρ0 0 (.var T [.c (.k (.slice none 0 0)),.c (.k (.bool false)),.c (.k (.slice none 0 0))])=some W.heap.size:=by rw[hρ0];rfl
 have hown1:own ρ0 1 (.part T 3 2)=va.ownBlock:=by rw[hρ0,hgh];rfl
 have hglt:∀g,va.ownBlock=some g->g<W.heap.size:=fun g hg=>(cf.1 (hcur0 g hg)).1
 have hMs:∀k,Ms M0 ρ0 (stX T) k↔(M k\/va.ownBlock=some k)\/k=W.heap.size:=by
  intro k
  constructor
  .rintro(hk | ⟨b,x,hb1,_,ho⟩)
   .rw[hM0]at hk;exact .inl (.inl hk)
   .rcases hbox b x hb1 with⟨rfl,rfl⟩ | ⟨rfl,rfl⟩
    .rw[hown0]at ho;exact .inr (ke ho).symm
    .rw[hown1]at ho;exact .inl (.inr ho)
  .rintro((hk | hk) | hk)
   .exact .inl (by rw[hM0];exact hk)
   .exact .inr ⟨1,_,rfl,rfl,by rw[hown1];exact hk⟩
   .exact .inr ⟨0,_,rfl,rfl,by rw[hown0,hk]⟩
 have hkeep:bq (fun b=>M b\/va.ownBlock=some b) W (Ms M0 ρ0 (stX T)) (W.alloc (.cells #[.slice none 0 0,.bool false,.slice none 0 0] T)):=by
  intro b o hbm ho _;have hlt:=(cf.1 ho).1;refine⟨fun hk=>?_,(bJ _ _ _ hlt).trans ho⟩;rcases(hMs b).1 hk with hk | hk
  .exact hbm hk
  .omega
 have halloc:∀g,va.ownBlock=some g->(W.alloc (.cells #[.slice none 0 0,.bool false,.slice none 0 0] T)).heap[g]?=some (.cells cur0 T (0,0)):=fun g hg=>(bJ _ _ _ (hglt g hg)).trans (hcur0 g hg);refine pI (M0:=M0) (w0:=W) hm (YO c) 0 0 2 6 (stX T) [] (aj6 T) _ [] h rfl (by intro x hx;cases hx) (ah _) ρ0 a _ Q ?_ ?_ yz.noE ?_
 .refine⟨Kept.alloc ⟨rfl,rfl,rfl,ah _,fun _ _ _=>rfl,fun x hx=>⟨fun hk=>(hM.2 x hx).1 (.inl (by rw[hM0]at hk;exact hk)),fun ho=>(hM.2 x hx).1 (.inr ((hO _).1 ho)),(hM.2 x hx).2⟩⟩ _,hsz,hdf,fun t=>?_,fun b x hx=>?_,?_,?_,?_,?_⟩
  .match t with
   | 0=>exact aE.mono _ hkeep h0
   | 1=>exact aE.mono _ hkeep h1
   | 2=>exact aE.mono _ hkeep h2
   | 3=>exact trivial
   | 4=>exact⟨rfl,by rw[h4,hρ0,hgh];rfl,by rw[h4];exact hva1⟩
   | 5=>exact aE.mono _ hkeep h5
   | 6=>exact aE.mono _ hkeep h6
   | 7=>exact⟨rfl,by rw[h7,hρ0];rfl⟩
   | t+8=>exact trivial
  .rcases hbox b x hx with⟨rfl,rfl⟩ | ⟨rfl,rfl⟩
   .exact⟨[.slice none 0 0,.bool false,.slice none 0 0],by rw[hρ0];exact bc W _,⟨rfl,rfl⟩,⟨rfl,rfl⟩,⟨rfl,rfl⟩,trivial⟩
   .have hv:(ρ0 1).val=va:=by rw[hρ0,hgh];rfl
    refine⟨asx,xs,rfl,?_,hlen,hrow.mono hkeep,by rw[hv];exact hva1,?_⟩
    .rw[hv];refine wM.az3 (base:=base) ⟨hown.1,?_⟩;rcases hown.2 with h | ⟨g,cap,cur,e,hbg,hg,rest⟩
     .exact .inl h
     .exact .inr ⟨g,cap,cur,e,hbg,(bJ _ _ _ (cf.1 hg).1).trans hg,rest⟩
    .intro g off len cap hval cur hg;have hvg:va.ownBlock=some g:=by rw[<-hv,hval];rfl
     have:=halloc g hvg;rw[hg]at this;simp only[aM,Bq,iV]at this;have hcc:(ρ0 1).cur=cur0:=by rw[hρ0,hgh];rfl
     rw[hcc,this];exact⟨rfl,fun _ _=>rfl⟩
  .intro b b' x x' k hb1 hb2 ho1 ho2;rcases hbox b x hb1 with⟨rfl,rfl⟩ | ⟨rfl,rfl⟩<;>rcases hbox b' x' hb2 with⟨rfl,rfl⟩ | ⟨rfl,rfl⟩
   .rfl
   .rw[hown0]at ho1;rw[hown1]at ho2;have:=hglt k ho2;have:=ke ho1;omega
   .rw[hown1]at ho1;rw[hown0]at ho2;have:=hglt k ho1;have:=ke ho2;omega
   .rfl
  .intro b x k hb1 ho;rcases hbox b x hb1 with⟨rfl,rfl⟩ | ⟨rfl,rfl⟩
   .rw[hown0]at ho;have:=ke ho;subst this;exact⟨.inl (ah _),bY⟩
   .rw[hown1]at ho;have:=hglt k ho;exact⟨.inr ((hO k).2 ho),iF⟩
  .intro k hk ho;rw[hM0]at hk;have hk:M k:=hk;rcases ho with ho | ho
   .exact nt.2 ho (hM.1 k (.inl hk))
   .exact hMa k hk ((hO k).1 ho)
  .intro b E sz cid hb1;rcases hbox b _ hb1 with⟨_,e⟩ | ⟨rfl,e⟩
   .cases e
   .rw[hρ0,hM0];rfl
 .intro cc v a w hp;cases hp
 .intro ex nb s dec m bk' ρ a' w' _ _ hv _ hs;cases ex with
  | exit id=>exact hv.elim
  | ret=>exact hv.elim
  | normal=>
    simp only[aj6]at hv;split at hv
    .rename_i e0 e1 e2 e4 e5 e6 e7 es eb es1 eb1;split at hv
     .rename_i eT;obtain⟨eT1,eT2⟩:=eT;subst eT1;subst eT2;have hρ1:ρ 1=gh:=by have:=hs.pt 1 _ _ _ eb1;rw[this,hM0]
      have hdn:bq (Ms M0 ρ s) w' (fun b=>M b\/va.ownBlock=some b) w':=fun b o hbm ho _=>⟨fun hk=>hbm (by
       rcases hk with hk | hk
       .exact .inl (by rw[hM0];exact hk)
       .exact .inr ⟨1,_,eb1,es1,by simp only[own,hρ1,hgh];exact hk⟩),ho⟩
      have t0:=hs.tm 0;have t1:=hs.tm 1;have t2:=hs.tm 2;have t4:=hs.tm 4;have t5:=hs.tm 5;have t6:=hs.tm 6;have t7:=hs.tm 7;rw[e0]at t0;rw[e1]at t1;rw[e2]at t2;rw[e4]at t4;rw[e5]at t5;rw[e6]at t6;rw[e7]at t7;obtain⟨vs,hh,hall⟩:=hs.bx 0 _ eb;obtain⟨ts,xs',hts,hpart,_,hrep,_,hfr⟩:=hs.bx 1 _ eb1
      have hts':ts=asx:=by
       rw[et bY]at hts
       simpa using hts.symm
      subst hts';rw[hρ1]at hpart hfr;have hval:gh.val=va:=by rw[hgh]
      rw[hval]at hpart
      match vs,hall with
      | [u0,u1,u2],⟨r0,r1,r2,_⟩=>
        have hv:Out.ret [.agg [c0 _ _,c0 _ _,c0 _ _]]=Out.ret [.agg cs]:=hv;simp only[Out.ret.injEq,List.cons.injEq,aF.agg.injEq,iV]at hv;refine hQ a' w' u0 u1 u2 xs' hs.below.size hs.below.os hs.below.tape hs.below.output (fun k hk hne=>hs.below.block k hk fun ho=>hne ((hO k).1 ho)) hs.sz hs.df (aE.mono _ hdn t0) (aE.mono _ hdn t1) (aE.mono _ hdn t2) (by rw[t4.2.1,hρ1,hval]) (aE.mono _ hdn t5) (aE.mono _ hdn t6) ⟨(ρ 0).blk,?_,t7.2,hh⟩ ?_ ?_ (hrep.mono hdn)
        .rcases(hs.lo 0 _ _ eb rfl).1 with hh2 | hh2
         .exact hh2
         .have:=hs.inj 0 1 _ _ _ eb eb1 rfl (by simp only[own,hρ1,hval];exact(hO _).1 hh2);cases this
        .rw[<-hv];exact⟨aE.mono _ hdn r0,aE.mono _ hdn r1,aE.mono _ hdn r2,trivial⟩
        .refine⟨hpart.1,?_⟩;rcases hown.2 with⟨hz,hz2⟩ | ⟨g,cap,cur,e,hbg,hg,hnc,hcm,hcs,_⟩
         .exact .inl ⟨hz,hz2⟩
         .rcases hpart.2 with⟨_,c',e'⟩ | ⟨g',off',cap',cur',e',hg',hnc',hcm',hfit',htake'⟩
          .rw[e]at e';cases e'
          .rw[e]at e';simp only[nf,aM,rS,iV,true_and]at e';obtain⟨⟨rfl,rfl⟩,rfl⟩:=e';have hf:=hfr g 0 _ cap (by rw[hval];exact e) cur' hg'
           have hcc:cur0=cur:=by
            have:=hcur0 g (by rw[e];rfl);rw[hg]at this;simp only[aM,Bq,iV]at this;exact this.symm
           rw[hgh]at hf;refine .inr ⟨g,cap,cur',e,hbg,hg',hnc,hcm,?_,by simpa using htake'⟩;rw[hf.1];show cur0.size=_;rw[hcc];exact hcs
      | [],hall=>exact hall.elim
      | [_],hall=>exact hall.2.elim
      | [_,_],hall=>exact hall.2.2.elim
      | _::_::_::_::_,hall=>exact hall.2.2.2.elim
     .exact hv.elim
    .exact hv.elim
end
open Go Go.RowKit
variable{F:Fence}{n m:Nat}{P:n7}
abbrev sf(fn:FuncId)(tmps:l7)(ps:Array Tmp)(assign body:Code)(D:Nat)(st:LoopState)(pe:Option Code):Loop:={ state:=st,pending:=pe,fn,tmps,params:=ps,assign,body,defers:=D }
def cu2(P:n7)(l:Nat)(r:LoopState->Option Code->Loop)(R:Bool->Option Code->World->Prop):Exit->Act->World->Prop
 | .normal,_,W=>W.heap[l]?=some (.loop (r .busy none))/\R true none (W.putObj l (.loop (r .ready none)))
 | .ret,_,W=>W.heap[l]?=some (.loop (r .busy none))/\R false (some .ret) (W.putObj l (.loop (r .done (some .ret))))
 | .exit id,_,W=>W.heap[l]?=some (.loop (r .busy none))/\R false (some (.exit id)) (W.putObj l (.loop (r .done (some (.exit id)))))
 | _,_,_=>False
def aE9{fn:FuncId}{tmps:l7}{ps:Array Tmp}{assign body:Code}{D l:Nat}{args:l7}{W:World}{R:Bool->Option Code->World->Prop}
  (hl:W.heap[l]?=some (.loop (sf fn tmps ps assign body D .ready none))) (hps:args.size=ps.size) (hF:F.fn fn)
  (h:assign.wpIn (F.inRound l) m P (Exit.then (fun a1 W1=>W1.heap[l]?=some (.loop (sf fn tmps ps assign body D .ready none)) /\
    body.wpIn (F.inRound l) m P (cu2 P l (sf fn tmps ps assign body D) R) a1 (W1.putObj l (.loop (sf fn tmps ps assign body D .busy none)))) (fun _ _ _=>False))
   { tmps:=(ps.zip args).foldl (fun t (p,v)=>t.setIfInBounds p v) tmps,defers:=[] } W) :
  YieldAt F m P l args W fun e W'=>∃b c,e=.returned (.bool b)/\R b c W':=by
 have hy:=run_yield (P:=P) (args:=args) hl hps;refine⟨fn,_,assign,body,hy,roundIn_of_wpIn hF (wpIn_mono h ?_)⟩;rintro e a1 W1 hp;cases e with
 | normal=>
   obtain⟨hl1,hb⟩:=hp;refine⟨_,run_beginRound hl1 rfl,wpIn_mono hb ?_⟩;rintro e a3 W3 hp;cases e with
   | normal=>
     obtain⟨hl3,hR⟩:=hp;exact⟨_,_,Rt (P:=P) none hl3,true,none,rfl,hR⟩
   | ret=>
     obtain⟨hl3,hR⟩:=hp;exact⟨_,_,Rt (P:=P) (some .ret) hl3,false,_,rfl,hR⟩
   | exit id=>
     obtain⟨hl3,hR⟩:=hp;exact⟨_,_,Rt (P:=P) (some (.exit id)) hl3,false,_,rfl,hR⟩
   | goto t=>exact hp.elim
   | panic ch=>exact hp.elim
   | outgrown=>exact hp.elim
 | ret=>exact hp.elim
 | exit id=>exact hp.elim
 | goto t=>exact hp.elim
 | panic ch=>exact hp.elim
 | outgrown=>exact hp.elim
def aO4{g:n8}{ps:Array Tmp}{assign body:Code}{Q:lg}{a:Act}{w:World}
  (hro:F.round=none) (h1:1<=n) {gf:Nat} {lb:l7} (hg:a.eval g=.func (.func gf) #[] lb) (hFg:F.fn gf) (eg:∀args w,(callFunc gf args).run P w=.ok (.enter gf args) w)
  (h:∀(fn:FuncId)(D l:Nat)(W1:World),F.fn fn->D=w.heap.size->l=w.heap.size+1->W1.heap.size=w.heap.size+2->Below w.heap.size w W1->W1.heap[D]?=some (.deferred (some [])) ->
   W1.heap[l]?=some (.loop (sf fn a.tmps ps assign body D .ready none)) ->
   CallsIn F (n-1) P gf (#[.func (.yield l) #[] #[]]++lb) W1 fun e W2=>(∃v,e=.returned v) /\
    ((W2.heap[l]?=some (.loop (sf fn a.tmps ps assign body D .ready none))/\Q .normal { a with defers:={ target:=.collected D,args:=#[] } :: a.defers } (W2.putObj l (.loop (sf fn a.tmps ps assign body D .exhausted none)))) \/
    (∃c,W2.heap[l]?=some (.loop (sf fn a.tmps ps assign body D .done (some c)))/\c.wpIn F n P Q { a with defers:={ target:=.collected D,args:=#[] } :: a.defers } (W2.putObj l (.loop (sf fn a.tmps ps assign body D .exhausted (some c))))))) :
  (Code.rangeFunc g ps assign body).wpIn F n P Q a w:=by
 refine wpIn_rangeFunc ?_;intro fn hfn;rw[hro];obtain⟨W1,hW1⟩:∃W1,(w.alloc (.deferred (some []))).alloc (.loop (sf fn a.tmps ps assign body w.heap.size .ready none))=W1:=⟨_,rfl⟩
 have hL1:W1.heap[w.heap.size+1]?=some (.loop (sf fn a.tmps ps assign body w.heap.size .ready none)):=by
  rw[<-hW1];have:=World.alloc_heap_new (w.alloc (.deferred (some []))) (.loop (sf fn a.tmps ps assign body w.heap.size .ready none));rwa[br]at this
 have hK1:W1.heap[w.heap.size]?=some (.deferred (some [])):=by
  rw[<-hW1];exact(Below.heap_alloc _ _ _ bY).trans (World.alloc_heap_new w _)
 have hb1:Below w.heap.size w W1:=by
  rw[<-hW1];exact((cz _ w).alloc (ah _) _).alloc bY _
 have hs1:W1.heap.size=w.heap.size+2:=by rw[<-hW1];simp
 refine⟨w.heap.size+1,[{ target:=.collected w.heap.size,args:=#[] }],W1,{ target:=.fn (.func gf) lb,args:=#[.func (.yield (w.heap.size+1)) #[] #[]] },W1,gf,
  #[.func (.yield (w.heap.size+1)) #[] #[]]++lb,W1,?_,?_,?_,?_,fun _=>h1,?_⟩
 .rw[<-hW1];exact run_enterLoop_outer _ _ _ _ _
 .simp only[resolve,hg];simp[go_sem]
 .intro f' hf';simp[Target.leads]at hf';subst hf';exact hFg
 .simp[invoke,go_sem,eg]
 .refine(h fn _ _ W1 hfn rfl rfl hs1 hb1 hK1 hL1).mono ?_;rintro e W2 ⟨⟨v,rfl⟩,(⟨hl,hq⟩ | ⟨c,hl,hq⟩)⟩
  .exact⟨none,_,by have:=run_endLoop (P:=P) hl bY;exact this,hq⟩
  .exact⟨some c,_,by have:=run_endLoop (P:=P) hl bY;exact this,hq⟩
open Go Go.Proofs Go.RowKit Go.Shelf Tryz Ord
def tX:au aF.Sub [.one (.exact (.slice none 0 0)),.one (.bool false),.one (.exact (.slice none 0 0))] ((qC 0).map .one):=⟨fg.1,fg.2.1,fg.2.2.1,trivial⟩
def zne{z:Int}(h:z≠0):(z:Rat)≠0:=fun e=>h (by simpa using e)
def sg:Tr:=.ret [.agg [U 10 0,U 10 1,U 10 2]]
def sn:Tr:=.need (.call 207 [.agg [U 8 0,U 8 1,U 8 2],.agg [U 9 0,U 9 1,U 9 2]] [some 3]) (D5 207 #[.tmp 23,.tmp 26] #[39,39]) 39 true sg
def sX:Tr:=.need (.call 209 [W 4 0,W 4 0] [some 3]) (D5 209 #[.tmp 24,.tmp 25] #[3,3]) 39 true sn
def sZ:Tr:=.need (.prim [W 7 0] (some 3)) (.load 39 (.tmp 22)) 39 false sX
def sq:Tr:=.need (.prim [W 1 0,W 4 0] none) (.indexAddr 40 (.tmp 20) (.tmp 21)) 0 false sZ
def qo:Tr:=.back 1 [.w (W 38 0),.w (W 37 0),.w (W 37 1),.w (W 37 2)]
def qS:Tr:=.need (.prim [W 21 0,WK (1)] none) (.binOp .add 3 (.tmp 46) (.const (I3 (1))) 3) 3 false qo
def qU:Tr:=.need (.call 167 [.agg [U 22 0,U 23 0,U 24 0],.agg [U 36 0,U 36 1,U 36 2]] [some 3]) (D5 167 #[.tmp 58,.tmp 72] #[39,39]) 39 true qS
def rH:Tr:=.need (.call 36 [.agg [U 33 0,U 33 1,U 33 2],.agg [U 35 0,U 35 1,U 35 2]] [some 3]) (D5 36 #[.tmp 65,.tmp 71] #[39,39]) 39 true qU
def qa:Tr:=.need (.ldrow 2 (.u 34 0) 0 3 true) (.load 39 (.tmp 70)) 39 false rH
def qe:Tr:=.need (.idx 2 (.u 34 0)) (.indexAddr 40 (.tmp 66) (.tmp 69)) 0 false qa
def qt:Tr:=.need (.prim [W 4 0,W 29 0] none) (.binOp .sub 3 (.tmp 67) (.tmp 68) 3) 3 false qe
def qv:Tr:=.need (.call 36 [.agg [U 27 0,U 27 1,U 27 2],.agg [U 32 0,U 32 1,U 32 2]] [some 3]) (D5 36 #[.tmp 59,.tmp 64] #[39,39]) 39 false qt
def qV:Tr:=.need (.call 209 [W 31 0,W 8 0] [some 3]) (D5 209 #[.tmp 62,.tmp 63] #[3,3]) 39 false qv
def qY:Tr:=.need (.prim [W 4 0,W 29 0] none) (.binOp .sub 3 (.tmp 60) (.tmp 61) 3) 3 false qV
def qu:Tr:=.back 1 [.w (W 31 0),.w (W 22 0),.w (W 23 0),.w (W 24 0)]
def qb:Tr:=.need (.prim [W 21 0,WK (1)] none) (.binOp .add 3 (.tmp 46) (.const (I3 (1))) 3) 3 false qu
def qz:Tr:=.split (.u 30 0) qY qb
def qq:Tr:=.need (.prim [W 29 0,WK (0)] none) (.binOp .gtr 3 (.tmp 56) (.const (I3 (0))) 3) 4 false qz
def rA:Tr:=.need (.prim [W 28 0,W 8 0] none) (.binOp .sub 3 (.tmp 53) (.tmp 54) 3) 3 false qq
def qn:Tr:=.need (.prim [W 3 0,W 21 0] none) (.binOp .add 3 (.tmp 51) (.tmp 52) 3) 3 false rA
def rK:Tr:=.need (.prim [W 26 0] (some 3)) (.load 39 (.tmp 49)) 39 false qn
def qf:Tr:=.need (.prim [W 19 0,W 21 0] none) (.indexAddr 72 (.tmp 44) (.tmp 46)) 0 false rK
def qX:Tr:=.back 0 [.w (W 26 0),.w (W 22 0),.w (W 23 0),.w (W 24 0)]
def qw:Tr:=.need (.prim [W 8 0,WK (1)] none) (.binOp .add 3 (.tmp 31) (.const (I3 (1))) 3) 3 false qX
def rJ:Tr:=.split (.u 25 0) qf qw
def qm:Tr:=.need (.prim [W 21 0,W 20 0] none) (.binOp .lss 3 (.tmp 46) (.tmp 45) 3) 0 false rJ
def qp:Tr:=.loop 1 [.w (WK (0)),.w (W 9 0),.w (W 10 0),.w (W 11 0)] qm
def qW:Tr:=.need (.prim [W 19 0] none) (.call ⟨.builtin .len,#[.tmp 44],#[72]⟩) 3 false qp
def qx:Tr:=.need (.prim [W 14 0,W 18 0] none) (.slice 72 (.tmp 36) none (some (.tmp 43)) none) 72 false qW
def qh:Tr:=.need (.prim [W 15 0,W 17 0] none) (.call ⟨.builtin .min,#[.tmp 38,.tmp 42],#[3,3]⟩) 3 false qx
def rI:Tr:=.need (.prim [W 16 0,WK (1)] none) (.binOp .add 3 (.tmp 41) (.const (I3 (1))) 3) 3 false qh
def qk:Tr:=.need (.prim [W 4 0,W 3 0] none) (.binOp .sub 3 (.tmp 39) (.tmp 40) 3) 3 false rI
def qj:Tr:=.need (.prim [W 14 0] none) (.call ⟨.builtin .len,#[.tmp 37],#[72]⟩) 3 false qk
def qc:Tr:=.need (.prim [W 13 0] none) (.load 72 (.tmp 34)) 72 false qj
def rE:Tr:=.need (.prim [W 0 0,W 8 0] none) (.indexAddr 31 (.tmp 29) (.tmp 31)) 0 false qc
def rG:Tr:=.ret [.agg [U 15 0,U 15 1,U 15 2]]
def rD:Tr:=.need (.call 207 [.agg [U 9 0,U 10 0,U 11 0],.agg [U 14 0,U 14 1,U 14 2]] [some 3]) (D5 207 #[.tmp 76,.tmp 82] #[39,39]) 39 true rG
def qd:Tr:=.need (.call 36 [.agg [U 0 2,U 0 3,U 0 4],.agg [U 13 0,U 13 1,U 13 2]] [some 3]) (D5 36 #[.tmp 78,.tmp 81] #[39,39]) 39 true rD
def rF:Tr:=.need (.call 209 [W 4 0,W 3 0] [some 3]) (D5 209 #[.tmp 79,.tmp 80] #[3,3]) 39 false qd
def qZ:Tr:=.split (.u 12 0) rE rF
def sa:Tr:=.need (.prim [W 8 0,W 7 0] none) (.binOp .lss 3 (.tmp 31) (.tmp 30) 3) 0 false qZ
def sY:Tr:=.loop 0 [.w (WK (0)),.w (.one (.c (.k (.slice none 0 0)))),.w (.one (.c (.k (.bool false)))),.w (.one (.c (.k (.slice none 0 0))))] sa
def si:Tr:=.need (.prim [W 0 0] none) (.call ⟨.builtin .len,#[.tmp 29],#[31]⟩) 3 false sY
def se:Tr:=.split (.u 6 0) sq si
def lF:Tr:=.need (.prim [W 4 0,W 3 0] none) (.binOp .lss 3 (.tmp 17) (.tmp 18) 3) 4 false se
def ug:ax4 prog f247 39=lF:=aT
def cc4(q:j0)(m:Nat)(lead:Rat)(y:j1)(n N B:Nat)(f0:Value)(C:jy B q m lead y N)(hn:n<N)(hN:N<=1073741824)(hm:m<=64)(hmN:m<=N)(hB:B<=8589934592)(h64:64<=B)(hql:q.length=m+1)(hyl:y.length=m)(hp:∀p∈q,p.length<1099511627776)(hl0:lead≠0) :
  vc prog (fun o=>o=.ret [qT (oP q m lead y n (aU q m lead y n))]) lF [.agg ([eQ q,.int .i64 m]++qC lead),.agg [sQ y],.rows (rQ (aU q m lead y n)),.one (.int .i64 m),.one (.int .i64 n),.one (.exact f0)] []:=by
 obtain⟨a,ha⟩:∃a,aU q m lead y n=a:=⟨_,rfl⟩
 have hal:a.length=n:=by rw[<-ha,bg]
 have hfa:∀x∈a,Fit B x:=fun x hx=>by
  rw[<-ha]at hx;obtain⟨j,hj⟩:=EY.1 hx;have hjn:j<n:=by have:=(fK.1 hj).1;rw[bg]at this;exact this
  have h1:=sD q m lead y (k:=j+1) (n:=n);have h2:(aU q m lead y (j+1))[j]?=some x:=by rw[<-h1,fi,aI O,hj]
  rw[aU,jP (by rw[bg];exact ah _),bg,jj]at h2;simp only[nL,aM]at h2;rw[<-h2];exact C.fa j O
 have hfx:=C.fx n;rw[ha]at hfx|-;refine uS az ?_ ?_<;>intro h1
 .apply vn (aY vv (cS (l:=y) (show n<y.length by omega)) (bV n));apply vn (ay mq dO bY (.inl rfl));apply aA (lT (n:Int) n B h64 (fun j hj=>C.ffac n O j hj));apply aA (uO (y.getD n 0) ((bB n n:Int):Rat) B B (zne (tj (uB _))) (qJ C.fy n) (C.ffac n O n (ah _)));dsimp only[aP,aQ];show Out.ret _=Out.ret _;rw[oP,aI (show n<m by omega)];rfl
 apply vn (aZ We (aX _));dsimp only[aP,aQ];have hmn:m<=n:=O
 refine bC {i:Nat // i<=q.length} (fun g=>(.one (.int .i64 g.1):aF)::(qC (outer q a m n g.1)).map .one) (fun g=>q.length-g.1) ⟨0,cG _⟩ ⟨aF.Sub.same,tX⟩ (fun _=>rfl) ?_;rintro⟨i,hi⟩;dsimp only[aP,aQ,List.map]at hi|-;refine uS az ?_ ?_<;>intro h10
 .obtain⟨p,hpi⟩:∃p,q[i]?=some p:=⟨_,bU O⟩
  have hgd:q.getD i []=p:=by rw[dp,hpi];rfl
  have hpl:=hp p (cj hpi);have hfp:=C.fq p (cj hpi);have hfx:=fun k=>hfx i k hn hmn O;rw[hgd]at hfx;obtain⟨t,ht⟩:∃t,min p.length (n-m+1)=t:=⟨_,rfl⟩
  rw[ht]at hfx;have htl:(p.take t).length=t:=by rw[bP];omega
  apply vn (aY We hpi);apply vn (bI Vf);apply vn (aZ mh (aX _));apply vn aL;apply vn aC;apply vn (aP6 (k:=.i64) (a:=(p.length:Int)) (b:=(n:Int)-(m:Int)+1));rw[show min (p.length:Int) ((n:Int)-(m:Int)+1)=(t:Int) by omega];apply vn (AL mh (m:=t));dsimp only[aP,aQ];apply vn (aZ mh (show(rQ (p.take t)).length=t by rw[aX,htl]));refine bC {k:Nat // k<=t} (fun g=>(.one (.int .i64 g.1):aF)::(qC (inner p a m n i (outer q a m n i) g.1)).map .one) (fun g=>t-g.1) ⟨0,cG _⟩ aR.rfl (fun _=>rfl) ?_;rintro⟨k,hk⟩;dsimp only[aP,aQ,List.map]at hk|-;refine uS az ?_ ?_<;>intro h21
  .have hkt:k<t:=O
   have hget:(p.take t)[k]?=some (p.getD k 0):=by rw[fi,aI hkt];exact cS
   apply vn (aY mh hget);apply vn (ay mq dO bY (.inl rfl));apply vn aC;apply vn aL;refine uS fL ?_ ?_<;>intro h27
   .have hj:i<m+k:=O
    have hz1:((n:Int)-((m:Int)+k-i)).natAbs<=N:=O
    have hz3:(n:Int)-((m:Int)+k-i)<n:=O
    obtain⟨d,hd⟩:∃d:Nat,n-(m+k-i)=d:=⟨_,rfl⟩
    have hdi:(n:Int)-((m:Int)+k-i)=(d:Int):=O
    have hdn:d<n:=O
    have hcf:∀j≤i,Fit B ((bB ((n:Int)-((m:Int)+k-i)) j:Int):Rat):=fun j hj=>C.ffall n i hn O _ hz1 j hj;have hc:=hfp (p.getD k 0) (cj (cS (l:=p)));apply vn aL;apply aA (lT _ i B h64 hcf);dsimp only[aP,aQ];apply aA (cr _ _ B B hc (hcf i (ah _)));apply vn aL;refine dz rfl rfl O O ?_;refine ar6 (d:=a.getD d 0) rfl rfl O (show((n:Int)-((m:Int)+k-i)).toNat=d by omega) (cS (l:=a)) (.inl rfl) rfl ?_;dsimp only[aP,aQ,SG,List.drop,List.take];apply aA (cr _ _ (B+B) B (hc.mul (hcf i (ah _))) (qJ hfa d));apply aA (Rp _ _ B (B+B+B) (hfx k O) ((hc.mul (hcf i (ah _))).mul (qJ hfa d)));apply vn aC
    exact aa rfl ⟨⟨k+1,O⟩,(by
     dsimp only;rw[inner,aI hj,hd];exact aR.rfl),by show t-(k+1)<t-k;omega⟩
   apply vn aC
   exact aa rfl ⟨⟨k+1,O⟩,(by
    dsimp only;rw[inner,aD O];exact aR.rfl),by show t-(k+1)<t-k;omega⟩
  apply vn aC
  exact aa rfl ⟨⟨i+1,O⟩,(by
   dsimp only;rw[outer,hgd,ht,show t=k by omega];exact aR.rfl),by show q.length-(i+1)<q.length-i;omega⟩
 have hiq:q.length=i:=O
 have hfx':Fit B (outer q a m n i):=by
  have:=hfx m (min (q.getD m []).length (n-m+1)) hn hmn O (ah _);rw[show i=m+1 by omega];exact this
 have hfm:=fun j hj=>C.ffall n m hn (ah _) n O j hj;apply aA (lT (n:Int) m B h64 hfm);apply aA (cr lead _ B B C.flead (hfm m (ah _)))
 apply aA (uO _ _ B (B+B) (fun h=>by
  rcases nk.1 h with h | h
  .exact hl0 h
  .exact zne (tj (z:=(n:Int)) (i:=m) O) h) hfx' (C.flead.mul (hfm m (ah _)))) rfl
 dsimp only[aP,aQ];show Out.ret _=Out.ret _;rw[oP,aD O,hiq];rfl
attribute [local go_sem] Oper.semAt_some
def bD1:Tr:=.ret [.one (.lp 247 [.ref 0 [.u 0 0,.u 0 1,.u 0 2,.u 0 3,.u 0 4],.ref 0 [.u 1 0]])]
def EE:aO prog f182 cT [.v (some 5),.v none]=bD1:=aT
def DM(q:j0)(m:Nat)(lead:Rat)(y:j1):aK prog 182 [(Cl q m lead:aF),(.one (sQ y):aF)] (.ret [.one (.lp 247 [.aW ([eQ q,.int .i64 m]++qC lead),.aW [sQ y]])]):=by
 refine dB func182 EE ?_;exact aN
def bv4(M:j2)(w:World)(hM:cX M w)(q:j0)(m:Nat)(lead:Rat)(y:j1)(c0 c1 c2 c3 c4 yv:Value)(hs:ai M w ([eQ q,.int .i64 m]++qC lead) [c0,c1,c2,c3,c4])(hy:(sQ y).rep M w yv) :
  Calls prog 182 #[.agg #[c0,c1,c2,c3,c4],yv] w fun e w'=>Below w.heap.size w w'/\∃sp yp,e=.returned (.func (.func 247) #[] #[sp,yp])/\(aE.aW ([eQ q,.int .i64 m]++qC lead)).rep M w' sp/\(aE.aW [sQ y]).rep M w' yp:=by
 refine((DM q m lead y).2 M w [.agg #[c0,c1,c2,c3,c4],yv] hM ⟨⟨_,rfl,hs⟩,hy,trivial⟩).mono ?_;rintro e w' ⟨hb,vs,rfl,hvs⟩
 match vs,hvs with
 | [v],hvs=>
   obtain⟨us,e1,hus⟩:=hvs.1;subst e1
   match us,hus with
   | [sp,yp],hus=>exact⟨hb,sp,yp,rfl,hus.1,hus.2.1⟩
   | [],hus=>exact hus.elim
   | [_],hus=>exact hus.2.elim
   | _::_::_::_,hus=>exact hus.2.2.elim
 | [],hvs=>exact hvs.elim
 | _::_::_,hvs=>exact hvs.2.elim
def XD{cells:List aE}{M:j2}{w:World}{v x:Value}{j:Nat}(h:(aE.aW cells).rep M w v)(hj:cells[j]?=some (.exact x)):∃b off,v=.pointer (some ⟨b,off,none⟩)/\w.cell? ⟨b,off+j,none⟩=some x:=by
 obtain⟨b,off,cs,T,fz,rfl,hb,hh,hr⟩:=h;refine⟨b,off,rfl,?_⟩;obtain⟨u,hu,hx⟩:=hr.get j _ hj;have hux:u=x:=hx.1;subst hux;rw[fi]at hu;split at hu
 .rw[kH]at hu;exact aH hh (by simpa using hu)
 .cases hu
noncomputable def aa7:Code:=match f247.body with | some c=>c | none=>.skip
def cB2:f247.body=some aa7:=rfl
def kw{t:l7}{n:Nat}{L:List Value}(h:t.size=n)(e:(List.range' 0 n).map (t.getD · undef)=L:=by simp only[List.range',List.map];rfl):t=L.toArray:=by
 subst e
 apply Array.ext
 .simp[h]
 .intro i h1 h2;simp[Array.getD,h1]
def getD_set_ne{t:l7}{i j:Nat}{v:Value}(h:i≠j):(t.setIfInBounds i v).getD j undef=t.getD j undef:=by
 rw[iG,iG,af6 h]
def CT{t:l7}{i:Nat}{v:Value}(h:i<t.size):(t.setIfInBounds i v).getD i undef=v:=by
 rw[iG,ab0 h];rfl
def br9{P:n7}{c c':Code}{Q:lg}{a:Act}{w:World}(e:c=c')(h:c.wp P Q a w):c'.wp P Q a w:=e▸h
def an2{F:Fence}{n id:Nat}{Q:lg}{t:l7}{W:World}{pos:String}
  (h:Q .normal ⟨t.setIfInBounds 7 (.pointer (some ⟨W.heap.size,0,none⟩)),[]⟩ (W.alloc (.cells #[.slice none 0 0,.bool false,.slice none 0 0] 39))) :
  (Code.region id #[{ dst:=some 7,op:=.alloc 39,type:=0,pos:=pos,after:=#[],guard:=none }] false).wpIn F n prog Q ⟨t,[]⟩ W:=by
 obtain⟨ie,zv,hi,hz,hzc,_,_⟩:=iE (show ry prog 39=some [.slice none 0 0,.bool false,.slice none 0 0] by kernel_rfl);refine wpIn_region_list ?_;refine wpListIn_plain rfl fun K hK=>?_;unfold Oper.wpIn;refine⟨by simp[Oper.about],?_⟩;rw[Oper.semAt_plain F _ _ (by intro c hc;cases hc)]
 have hr:(execOp ({ tmps:=t,defers:=[] }:Act).eval { dst:=some 7,op:=.alloc 39,type:=0,pos:=pos,after:=#[],guard:=none }).run prog W=.ok (.value (.pointer (some ⟨W.heap.size,0,none⟩))) (W.alloc (.cells #[.slice none 0 0,.bool false,.slice none 0 0] 39)):=by
  simp[execOp,Instr.alloc,zeroValue,typeInfo,hi,hz,newVar,newRow,hzc]
 rw[hr];exact hK _ _ h
section
variable{F:Fence}{nF:Nat}
def ap3{ops:n9}{rest:oR}{o:Oper}{a:Act}{Q:lg}{w:World}(hgd:o.guard=none)(s x:n8)
  (ho:o.op=.call { callee:=.builtin .append,args:=#[s,x],argTypes:=#[40,40] }) (base:Nat) (v:Value) (k:Nat) (xs:n5) (hs:a.eval s=v) (hown:w.ownsRow base 39 3 v k xs) (b c:Nat) (u0 u1 u2:Value) {fz:Nat×Nat}
  (hb:w.heap[b]?=some (.cells #[u0,u1,u2] 39 fz)) (hx:a.eval x=.slice (some ⟨b,0,none⟩) 1 c) (h1:∀u∈[u0,u1,u2],u.oneCell'=true) (hk:k<1099511627776) (hbase:base<=w.heap.size)
  (h:∀v' w',w'.ownsRow base 39 3 v' (k+1) (xs++[u0,u1,u2])->w.grownBy w' v.ownBlock->(v'.ownBlock=v.ownBlock\/v'.ownBlock=some w.heap.size)->wpListIn F nF prog ops Q rest (a.put o.dst v') w') :
  wpListIn F nF prog ops Q (o::rest) a w:=by
 obtain⟨ie,hu,hie,hies,hieb⟩:=dZ vv;obtain⟨ie',zv,hi,hz,hzc,_,hzs⟩:=iE (show ry prog 39=some [.slice none 0 0,.bool false,.slice none 0 0] by kernel_rfl);rw[hie]at hi;simp only[aM]at hi;subst hi;refine wpListIn_append_own_at w hgd s x 40 ho base 39 ie zv 3 56 hu hie hz hies hieb (by rw[hzs,hies]) dO v k xs hs hown ⟨b,0,none⟩ 1 c [u0,u1,u2] hx rfl ?_ h1 (by simp only[maxLen];omega) O hbase (fun v' w' h2 h3 _ h5=>h v' w' h2 h3 h5);intro j u hj
 match j,hj with
 | 0,hj=>simp at hj;subst hj;exact aH hb rfl
 | 1,hj=>simp at hj;subst hj;exact aH hb rfl
 | 2,hj=>simp at hj;subst hj;exact aH hb rfl
end
abbrev Ly(M:j2)(n0:Nat)(va vo:Value)(b:Nat):Prop:=(M b\/vo.ownBlock=some b\/b=n0+2)\/va.ownBlock=some b
structure CW(M:j2)(w:World)(n0 D l:Nat)(lo:Obj)(q:j0)(m:Nat)(lead:Rat)(y:j1)(n ka ko:Nat)(va vo sp yp:Value)(W:World):Prop where
 wb:Below n0 w W
 big:n0+3<=D/\D<l/\l<W.heap.size
 hD:W.heap[D]?=some (.deferred (some []))
 hl:W.heap[l]?=some lo
 hN:W.heap[n0+1]?=some (.cells #[.int .i64 (n:Int)] 3 (0,0))
 hO:W.heap[n0+2]?=some (.cells #[vo] 40 (0,0))
 ra:∃xs,W.ownsRow (n0+3) 39 3 va ka xs/\ai (Ly M n0 va vo) W (rQ (aU q m lead y ka)).flatten xs
 ro:∃xs,W.ownsRow (n0+3) 39 3 vo ko xs/\ai (Ly M n0 va vo) W (rQ (aU q m lead y ko)).flatten xs
 dis:∀g,va.ownBlock=some g->vo.ownBlock≠some g
 p1:(aE.aW ([eQ q,.int .i64 m]++qC lead)).rep (Ly M n0 va vo) W sp
 p2:(aE.aW [sQ y]).rep (Ly M n0 va vo) W yp
noncomputable def ir:Code×Code:=match f101.body with
 | some (.seq _ (.seq _ (.seq _ (.seq (.seq _ (.block _ (.rangeFunc _ _ a b))) _))))=>(a,b)
 | _=>(.skip,.skip)
def vZ{W W':World}{base E sz n:Nat}{v:Value}{xs:n5}(h:W.ownsRow base E sz v n xs)(k:∀g,v.ownBlock=some g->W'.heap[g]?=W.heap[g]?):W'.ownsRow base E sz v n xs:=by
 refine⟨h.1,?_⟩;rcases h.2 with h | ⟨g,cap,cur,rfl,hb,hg,rest⟩
 .exact .inl h
 .exact .inr ⟨g,cap,cur,rfl,hb,(k g rfl).trans hg,rest⟩
def Vi{M:j2}{w:World}{n0 D l:Nat}{rb rr:Loop}{lo:Obj}{q:j0}{m:Nat}{lead:Rat}{y:j1}{n k:Nat}{va vo sp yp u0 u1 u2 v4:Value}{W W3 W4:World}{xo:n5}(hw:w.heap.size=n0)(hMw:∀b,M b->b<n0)
  (I:CW M w n0 D l (.loop rr) q m lead y n (k+1) k va vo sp yp W) (hu:ai (Ly M n0 va vo) W (qC (oP q m lead y k (aU q m lead y k))) [u0,u1,u2])
  (hro:W.ownsRow (n0+3) 39 3 vo k xo) (hrro:ai (Ly M n0 va vo) W (rQ (aU q m lead y k)).flatten xo)
  (hcells:∀{j:Nat}{cs:l7}{T:TypeId}{fz:Nat×Nat},W.heap[j]?=some (.cells cs T fz)->W3.heap[j]?=some (.cells cs T fz)) (hl3:W3.heap[l]?=some (.loop rb)) (hs3:W3.heap.size=W.heap.size+1) (hos:W3.os=W.os/\W3.tape=W.tape/\W3.output=W.output)
  (hold:∀j,j<W.heap.size->j≠l->W3.heap[j]?=W.heap[j]?)
  (hv4:W4.ownsRow (n0+3) 39 3 v4 (k+1) (xo++[u0,u1,u2])) (hg4:(W3.alloc (.cells #[u0,u1,u2] 39)).grownBy W4 vo.ownBlock) (hat4:v4.ownBlock=vo.ownBlock\/v4.ownBlock=some (W3.alloc (.cells #[u0,u1,u2] 39)).heap.size) (hO4:W4.heap[n0+2]?=some (.cells #[vo] 40 (0,0))) :
  (W4.setCell ⟨n0+2,0,none⟩ v4).heap[l]?=some (.loop rb)/\CW M w n0 D l lo q m lead y n (k+1) (k+1) va v4 sp yp ((W4.setCell ⟨n0+2,0,none⟩ v4).putObj l lo):=by
 have hbig:=I.big;have hvob:∀g,vo.ownBlock=some g->n0+3<=g/\g<W.heap.size:=fun g hg=>hro.lt g hg
 have hvoc:∀g,vo.ownBlock=some g->∃cs T fz,W.heap[g]?=some (.cells cs T fz):=fun g hg=>by
  rcases hro.2 with⟨e,_⟩ | ⟨g',cap,cur,e,_,hh,_⟩
  .rw[e]at hg;cases hg
  .rw[e]at hg;simp only[Value.ownBlock,aM]at hg;subst hg;exact⟨_,_,_,hh⟩
 have hvol:vo.ownBlock≠some l:=fun e=>by
  obtain⟨cs,T,fz,h⟩:=hvoc l e;rw[I.hl]at h;cases h
 have h4:∀j,j<W.heap.size+1->vo.ownBlock≠some j->W4.heap[j]?=W3.heap[j]?:=fun j hj hne=>by
  rw[hg4.block j (by rw[br];omega) (fun e=>hne e.symm),bJ _ _ _ O]
 have hl4:W4.heap[l]?=some (.loop rb):=(h4 l O hvol).trans hl3;rw[xM W4 (n0+2) 0 #[vo] 40 (0,0) v4 hO4];obtain⟨W5,hW5⟩:∃W5,W4.setRow (n0+2) (#[vo].setIfInBounds 0 v4)=W5:=⟨_,rfl⟩
 have hO5:W5.heap[n0+2]?=some (.cells #[v4] 40 (0,0)):=by rw[<-hW5];exact dP _ _ _ _ _ _ hO4
 have h5:∀j,j≠n0+2->W5.heap[j]?=W4.heap[j]?:=fun j hj=>by rw[<-hW5,du _ _ _ _ hj]
 have hs5:W5.heap.size=W4.heap.size:=by rw[<-hW5];simp[World.setRow]
 have ho5:W5.os=W4.os/\W5.tape=W4.tape/\W5.output=W4.output:=by rw[<-hW5];exact⟨rfl,rfl,rfl⟩
 rw[hW5];have hl5:W5.heap[l]?=some (.loop rb):=(h5 l O).trans hl4;refine⟨hl5,?_⟩;have hs4:W.heap.size+2<=W4.heap.size:=by have:=hg4.size;rw[br]at this;omega
 obtain⟨W6,hW6⟩:∃W6,W5.putObj l lo=W6:=⟨_,rfl⟩
 have hl6:W6.heap[l]?=some lo:=by rw[<-hW6];exact ah1 O
 have h6:∀j,j≠l->W6.heap[j]?=W5.heap[j]?:=fun j hj=>by rw[<-hW6];exact sE hj
 have hs6:W6.heap.size=W4.heap.size:=by rw[<-hW6,<-hs5];simp[World.putObj]
 have ho6:W6.os=W5.os/\W6.tape=W5.tape/\W6.output=W5.output:=by rw[<-hW6];exact⟨rfl,rfl,rfl⟩
 rw[hW6]
 have hall:∀j,j<W.heap.size->j≠l->j≠n0+2->vo.ownBlock≠some j->W6.heap[j]?=W.heap[j]?:=fun j hj h1 h2 h3=>by
  rw[h6 j h1,h5 j h2,h4 j O h3,hold j hj h1]
 have hb6:Below n0 W W6:=⟨by rw[ho6.1,ho5.1,hg4.os];exact hos.1,by rw[ho6.2.1,ho5.2.1,hg4.tape];exact hos.2.1,by rw[ho6.2.2,ho5.2.2,hg4.output];exact hos.2.2,O,fun j hj=>hall j O O O (fun e=>by have:=hvob j e;omega)⟩
 have hlc:∀{j:Nat}{o:Obj},W.heap[j]?=some o->o.isCells=true->j≠l:=fun h hc e=>by subst e;rw[I.hl]at h;cases h;cases hc
 have hkeep:bq (Ly M n0 va vo) W (Ly M n0 va v4) W6:=fun b o hb ho hc=>by
  have hlt:=(cf.1 ho).1;refine⟨?_,(hall b hlt (hlc ho hc) (fun e=>hb (.inl (.inr (.inr e)))) (fun e=>hb (.inl (.inr (.inl e))))).trans ho⟩;rintro((h | h | h) | h)
  .exact hb (.inl (.inl h))
  .rcases hat4 with e | e
   .rw[e]at h;exact hb (.inl (.inr (.inl h)))
   .rw[e]at h;simp only[br,aM]at h;omega
  .exact hb (.inl (.inr (.inr h)))
  .exact hb (.inr h)
 obtain⟨xa,hra,hrra⟩:=I.ra;have hvab:∀g,va.ownBlock=some g->n0+3<=g/\g<W.heap.size:=fun g hg=>hra.lt g hg
 have hvac:∀g,va.ownBlock=some g->g≠l:=fun g hg=>by
  rcases hra.2 with⟨e,_⟩ | ⟨g',cap,cur,e,_,hh,_⟩
  .rw[e]at hg;cases hg
  .rw[e]at hg;simp only[Value.ownBlock,aM]at hg;subst hg;exact hlc hh rfl
 have hDl:vo.ownBlock≠some D:=fun e=>by
  obtain⟨cs,T,fz,h⟩:=hvoc D e;rw[I.hD]at h;cases h
 refine⟨I.wb.trans hb6,⟨hbig.1,hbig.2.1,O⟩,(hall D O O O hDl).trans I.hD,hl6,(hall (n0+1) O O O (fun e=>by have:=hvob _ e;omega)).trans I.hN,(h6 _ O).trans hO5,⟨xa,?_,hrra.mono hkeep⟩,⟨xo++[u0,u1,u2],?_,?_⟩,?_,aE.mono _ hkeep I.p1,aE.mono _ hkeep I.p2⟩
 .refine vZ hra fun g hg=>hall g (hvab g hg).2 (hvac g hg) (by have:=hvab g hg;omega) (I.dis g hg)
 .refine vZ hv4 fun g hg=>?_;have hgb:=hv4.lt g hg
  have hgl:g≠l:=by
   rcases hv4.2 with⟨e,_⟩ | ⟨g',cap,cur,e,_,hh,_⟩
   .rw[e]at hg;cases hg
   .rw[e]at hg;simp only[Value.ownBlock,aM]at hg;subst hg;rintro rfl;rw[hl4]at hh;cases hh
  rw[h6 g hgl,h5 g O]
 .have e:(rQ (aU q m lead y (k+1))).flatten=(rQ (aU q m lead y k)).flatten++qC (oP q m lead y k (aU q m lead y k)):=by
   rw[aU,rQ,ep,oB];simp
  rw[e];exact(hrro.mono hkeep).append (hu.mono hkeep)
 .intro g hg;rcases hat4 with e | e
  .rw[e];exact I.dis g hg
  .rw[e];intro h;simp only[br,aM]at h;have:=hvab g hg;omega
def Yb(M:j2)(w:World)(n0 D l fn:Nat)(tm:l7)(htm:tm.size=25)(t5:tm.getD 5 undef=.pointer (some ⟨n0+1,0,none⟩))(t7:tm.getD 7 undef=.pointer (some ⟨n0+2,0,none⟩))
  (q:j0) (m:Nat) (lead:Rat) (y:j1) (n k:Nat) (hkn:k<n) (va vo sp yp u0 u1 u2:Value) (W:World) (hw:w.heap.size=n0) (hMw:∀b,M b->b<n0)
  (I:CW M w n0 D l (.loop (sf fn tm #[15] ir.1 ir.2 D .ready none)) q m lead y n (k+1) k va vo sp yp W)
  (hu:ai (Ly M n0 va vo) W (qC (oP q m lead y k (aU q m lead y k))) [u0,u1,u2]) (mm:Nat) (hn:n<1099511627776:=by omega) :
  YieldAt Fence.wide mm prog l #[.agg #[u0,u1,u2]] W fun e W'=>∃(b:Bool)(_c:Option Code),e=.returned (.bool b) /\
   ((b=true/\k+1<n/\∃vo',CW M w n0 D l (.loop (sf fn tm #[15] ir.1 ir.2 D .ready none)) q m lead y n (k+1) (k+1) va vo' sp yp W') \/
    (b=false/\k+1=n/\∃vo',CW M w n0 D l (.loop (sf fn tm #[15] ir.1 ir.2 D .done (some (.exit 0)))) q m lead y n (k+1) (k+1) va vo' sp yp W')):=by
 obtain⟨ca,cb,hcab⟩:∃ca cb,ir=(ca,cb):=⟨_,_,rfl⟩
 refine aE9 (F:=Fence.wide) (R:=fun b c W'=>((b=true/\k+1<n/\∃vo',CW M w n0 D l (.loop (sf fn tm #[15] ir.1 ir.2 D .ready none)) q m lead y n (k+1) (k+1) va vo' sp yp W') \/
    (b=false/\k+1=n/\∃vo',CW M w n0 D l (.loop (sf fn tm #[15] ir.1 ir.2 D .done (some (.exit 0)))) q m lead y n (k+1) (k+1) va vo' sp yp W'))) I.hl rfl trivial ?_
 rw[show(#[15].zip #[Value.agg #[u0,u1,u2]]).foldl (fun t (p,v)=>t.setIfInBounds p v) tm=tm.setIfInBounds 15 (.agg #[u0,u1,u2]) by simp];rw[kw (t:=tm.setIfInBounds 15 (.agg #[u0,u1,u2])) (n:=25) (by simp[htm])];rw[CT (show 15<tm.size by omega),getD_set_ne (t:=tm) (i:=15) (j:=5) O,getD_set_ne (t:=tm) (i:=15) (j:=7) O,t5,t7];have hone:=hu.one;obtain⟨o0,o1,o2⟩:u0.oneCell'=true/\u1.oneCell'=true/\u2.oneCell'=true:=⟨hone _ bY,hone _ bY,hone _ bY⟩
 dsimp only[ir,f101]
 gi_wp2
 have hbig:=I.big;have hnew:=bc W (.cells #[.slice none 0 0,.bool false,.slice none 0 0] 39);rw[yW hnew o0 o1 o2];obtain⟨W2,hW2⟩:∃W2,(W.alloc (.cells #[.slice none 0 0,.bool false,.slice none 0 0] 39)).setRow W.heap.size #[u0,u1,u2]=W2:=⟨_,rfl⟩
 have hold:∀j,j<W.heap.size->W2.heap[j]?=W.heap[j]?:=fun j hj=>by rw[<-hW2,du _ _ _ _ O,bJ _ _ _ hj]
 have hself:W2.heap[W.heap.size]?=some (.cells #[u0,u1,u2] 39 (0,0)):=by rw[<-hW2];exact dP _ _ _ _ _ _ hnew
 have hbel:Below W.heap.size W W2:=by rw[<-hW2];exact below_setRow ((cz _ W).alloc (ah _) _) _ (ah _)
 have hs2:W2.heap.size=W.heap.size+1:=by rw[<-hW2];simp[World.setRow]
 rw[hW2]
 gi_wp2
 refine⟨(hold l hbig.2.2).trans I.hl,?_⟩;generalize hW3:W2.putObj l _=W3;have hl2:l<W2.heap.size:=O
 have hl3:W3.heap[l]?=some (.loop (sf fn tm #[15] ir.1 ir.2 D .busy none)):=by rw[<-hW3];exact ah1 hl2
 have hput:∀j,j≠l->W3.heap[j]?=W2.heap[j]?:=fun j hj=>by rw[<-hW3];exact sE hj
 have hs3:W3.heap.size=W.heap.size+1:=by rw[<-hW3,<-hs2];simp[World.putObj]
 have hos3:W3.os=W2.os/\W3.tape=W2.tape/\W3.output=W2.output:=by rw[<-hW3];exact⟨rfl,rfl,rfl⟩
 clear hW3
 have hcells:∀{j:Nat}{cs:l7}{T:TypeId}{fz:Nat×Nat},W.heap[j]?=some (.cells cs T fz)->W3.heap[j]?=some (.cells cs T fz):=fun {j}{cs}{T}{fz} h=>by
  have hlt:=(cf.1 h).1;have hne:j≠l:=by rintro rfl;rw[I.hl]at h;cases h
  exact(hput j hne).trans ((hold j hlt).trans h)
 have hx3:W3.heap[W.heap.size]?=some (.cells #[u0,u1,u2] 39 (0,0)):=(hput _ O).trans hself;have hO3:=hcells I.hO;have hN3:=hcells I.hN;have cO:W3.cell? ⟨n0+2,0,none⟩=some vo:=aH hO3 rfl;have cx0:W3.cell? ⟨W.heap.size,0,none⟩=some u0:=aH hx3 rfl;have cx1:W3.cell? ⟨W.heap.size,1,none⟩=some u1:=aH hx3 rfl;have cx2:W3.cell? ⟨W.heap.size,2,none⟩=some u2:=aH hx3 rfl;obtain⟨xo,hro,hrro⟩:=I.ro
 have hro3:W3.ownsRow (n0+3) 39 3 vo k xo:=vZ hro fun g hg=>by
  rcases hro.2 with⟨e,_⟩ | ⟨g',cap,cur,e,_,hh,_⟩
  .rw[e]at hg;cases hg
  .rw[e]at hg;simp only[Value.ownBlock,aM]at hg;subst hg;rw[hcells hh,hh]
 have hvob:∀g,vo.ownBlock=some g->n0+3<=g/\g<W.heap.size:=fun g hg=>hro.lt g hg;have hvo1:vo.oneCell'=true:=by rcases hro.2 with⟨e,_⟩ | ⟨g,cap,cur,e,_⟩<;>rw[e]<;>rfl
 have hkk:k<1099511627776:=O
 have hbase:n0+3<=(W3.alloc (.cells #[u0,u1,u2] 39)).heap.size:=by rw[br];omega
 have hfacts:∀(v':Value)(W4:World),(W3.alloc (.cells #[u0,u1,u2] 39)).grownBy W4 vo.ownBlock->W4.ownsRow (n0+3) 39 3 v' (k+1) (xo++[u0,u1,u2])->W4.heap[n0+2]?=some (.cells #[vo] 40 (0,0))/\W4.heap[n0+1]?=some (.cells #[.int .i64 (n:Int)] 3 (0,0))/\∃g cap,v'=.slice (some ⟨g,0,none⟩) (k+1) cap:=fun v' W4 hg hv=>by
  have hne:∀j,j<n0+3->some j≠vo.ownBlock:=fun j hj e=>by have:=hvob j e.symm;omega
  refine⟨(hg.block _ (by rw[br];omega) (hne _ O)).trans ((bJ _ _ _ O).trans hO3),(hg.block _ (by rw[br];omega) (hne _ O)).trans ((bJ _ _ _ O).trans hN3),ownsRow_succ hv⟩
 have hnb:(W3.alloc (.cells #[u0,u1,u2] 39)).heap[W.heap.size+1]?=some (.cells #[u0,u1,u2] 39 (0,0)):=by rw[<-hs3];exact bc W3 _
 by_cases hlast:((k:Int)+1=(n:Int))
 all_goals gi_wp2_with (gi_at_builtin;refine ap3 rfl _ _ rfl (n0+3) vo k xo rfl (hro3.alloc _) (W.heap.size+1) 1 u0 u1 u2 hnb rfl hone hkk hbase ?_;intro v' W4 hv4 hg4 hat4;obtain⟨hO4,hN4,g4,cap4,rfl⟩:=hfacts v' W4 hg4 hv4;have cO4:W4.cell? ⟨n0+2,0,none⟩=some vo:=aH hO4 rfl;have cN4:W4.cell? ⟨n0+1,0,none⟩=some (.int .i64 (n:Int)):=aH hN4 rfl;have fO4:W4.frozen? ⟨n0+2,0,none⟩=false:=by simp[World.frozen?,hO4])
 all_goals
  generalize hv4e:Value.slice (some ⟨g4,0,none⟩) (k+1) cap4=v4 at *;have h6:=fun lo=>Vi (lo:=lo) hw hMw I hu hro hrro hcells hl3 hs3 ⟨hos3.1.trans hbel.os,hos3.2.1.trans hbel.tape,hos3.2.2.trans hbel.output⟩ (fun j hj hjl=>(hput j hjl).trans (hold j hj)) hv4 hg4 hat4 hO4;have hl5:(W4.setCell ⟨n0+2,0,none⟩ v4).heap[l]?=some (.loop (sf fn tm #[15] ir.1 ir.2 D .busy none)):=(h6 default).1
 .exact⟨hl5,.inr ⟨rfl,O,v4,(h6 _).2⟩⟩
 .exact⟨hl5,.inl ⟨rfl,O,v4,(h6 _).2⟩⟩
def ap9{M:j2}{w:World}{n0 D l:Nat}{lo:Obj}{q:j0}{m:Nat}{lead:Rat}{y:j1}{n k kx:Nat}{va vo sp yp sp1 yp1 u0 u1 u2 v4:Value}{W W3 W4:World}{xa:n5}
  (hlo:lo.isCells=false) (I:CW M w n0 D l lo q m lead y n k k va vo sp yp W) (hsz:W.heap.size<=W3.heap.size) (hos:W3.os=W.os) (htape:W3.tape=W.tape) (hout:W3.output=W.output)
  (hblk:∀j,j<W.heap.size->va.ownBlock≠some j->W3.heap[j]?=W.heap[j]?) (hra:W3.ownsRow (n0+3) 39 3 va k xa) (hrra:ai (Ly M n0 va vo) W3 (rQ (aU q m lead y k)).flatten xa)
  (r1:(aE.aW ([eQ q,.int .i64 m]++qC lead)).rep (Ly M n0 va vo) W3 sp1) (r2:(aE.aW [sQ y]).rep (Ly M n0 va vo) W3 yp1) (hu:ai (Ly M n0 va vo) W3 (qC (oP q m lead y k (aU q m lead y k))) [u0,u1,u2])
  (hkx:W.heap.size<=kx) (hbx:W3.heap[kx]?=some (.cells #[u0,u1,u2] 39 (0,0))) (hvlt:∀g,va.ownBlock=some g->g<W.heap.size)
  (hv4:W4.ownsRow (n0+3) 39 3 v4 (k+1) (xa++[u0,u1,u2])) (hg4:(W3.alloc (.cells #[u0,u1,u2] 39)).grownBy W4 va.ownBlock) (hat4:v4.ownBlock=va.ownBlock\/v4.ownBlock=some (W3.alloc (.cells #[u0,u1,u2] 39)).heap.size) :
  CW M w n0 D l lo q m lead y n (k+1) k v4 vo sp1 yp1 W4/\ai (Ly M n0 v4 vo) W4 (qC (oP q m lead y k (aU q m lead y k))) [u0,u1,u2]/\W4.heap[kx]?=some (.cells #[u0,u1,u2] 39 (0,0)):=by
 have hbig:=I.big;have hvab:∀g,va.ownBlock=some g->n0+3<=g/\g<W.heap.size:=fun g hg=>⟨(hra.lt g hg).1,hvlt g hg⟩
 have hvac:∀g,va.ownBlock=some g->∃cs T fz,W3.heap[g]?=some (.cells cs T fz):=fun g hg=>by
  rcases hra.2 with⟨e,_⟩ | ⟨g',cap,cur,e,_,hh,_⟩
  .rw[e]at hg;cases hg
  .rw[e]at hg;simp only[Value.ownBlock,aM]at hg;subst hg;exact⟨_,_,_,hh⟩
 have h4:∀j,j<W3.heap.size->va.ownBlock≠some j->W4.heap[j]?=W3.heap[j]?:=fun j hj hne=>by
  rw[hg4.block j (by rw[br];omega) (fun e=>hne e.symm),bJ _ _ _ hj]
 have hs4:W3.heap.size+1<=W4.heap.size:=by have:=hg4.size;rw[br]at this;omega
 obtain⟨xo,hro,hrro⟩:=I.ro;have hvob:∀g,vo.ownBlock=some g->n0+3<=g/\g<W.heap.size:=fun g hg=>hro.lt g hg;have hk3:bq (Ly M n0 va vo) W (Ly M n0 va vo) W3:=fun b o hb ho _=>⟨hb,(hblk b (cf.1 ho).1 fun e=>hb (.inr e)).trans ho⟩
 have hk4:bq (Ly M n0 va vo) W3 (Ly M n0 v4 vo) W4:=fun b o hb ho _=>by
  have hlt:=(cf.1 ho).1;refine⟨?_,(h4 b hlt fun e=>hb (.inr e)).trans ho⟩;rintro(h | h)
  .exact hb (.inl h)
  .rcases hat4 with e | e
   .rw[e]at h;exact hb (.inr h)
   .rw[e]at h;simp only[br,aM]at h;omega
 have hnc:∀j o,W.heap[j]?=some o->o.isCells=false->va.ownBlock≠some j:=fun j o ho hc e=>by
  obtain⟨xa0,hra0,_⟩:=I.ra;rcases hra0.2 with⟨e0,_⟩ | ⟨g',cap,cur,e0,_,hh,_⟩
  .rw[e0]at e;cases e
  .rw[e0]at e;simp only[Value.ownBlock,aM]at e;subst e;rw[ho]at hh;cases hh;cases hc
 have hall:∀j,j<W.heap.size->va.ownBlock≠some j->W4.heap[j]?=W.heap[j]?:=fun j hj hne=>(h4 j O hne).trans (hblk j hj hne);have hlow:∀j,j<n0+3->va.ownBlock≠some j:=fun j hj e=>by have:=hvab j e;omega
 refine⟨⟨I.wb.trans ⟨hg4.os.trans hos,hg4.tape.trans htape,hg4.output.trans hout,O,fun j hj=>hall j O (hlow j O)⟩,⟨hbig.1,hbig.2.1,O⟩,(hall D O (hnc D _ I.hD rfl)).trans I.hD,(hall l hbig.2.2 (hnc l _ I.hl hlo)).trans I.hl,(hall _ O (hlow _ O)).trans I.hN,(hall _ O (hlow _ O)).trans I.hO,
  ⟨xa++[u0,u1,u2],hv4,?_⟩,⟨xo,vZ hro fun g hg=>hall g (hvob g hg).2 fun e=>I.dis g e hg,(hrro.mono hk3).mono hk4⟩,?_,aE.mono _ hk4 r1,aE.mono _ hk4 r2⟩,hu.mono hk4,(h4 kx (cf.1 hbx).1 fun e=>by have:=hvlt kx e;omega).trans hbx⟩
 .have e:(rQ (aU q m lead y (k+1))).flatten=(rQ (aU q m lead y k)).flatten++qC (oP q m lead y k (aU q m lead y k)):=by
   rw[aU,rQ,ep,oB];simp
  rw[e];exact(hrra.mono hk4).append (hu.mono hk4)
 .intro g hg h;have hgo:=hvob g h;rcases hat4 with e | e
  .rw[e]at hg;exact I.dis g hg h
  .rw[e]at hg;simp only[br,aM]at hg;omega
def bd6{M:j2}{w:World}{base E sz:Nat}{v:Value}{ts:List (List aE)}{xs:n5}(h:w.ownsRow base E sz v ts.length xs)(hM:∀g,v.ownBlock=some g->¬M g)(hl:∀t∈ts,t.length=sz)(hr:ai M w ts.flatten xs):(aE.slice sz ts).rep M w v:=by
 rcases h.2 with⟨rfl,h0⟩ | ⟨g,cap,cur,rfl,hb,hg,hnc,hcm,hcs,htake⟩
 .exact⟨none,0,by rw[h0],O,by simp[maxLen],.inl (ij h0)⟩
 .refine⟨some ⟨g,0,none⟩,cap,rfl,hnc,hcm,.inr ⟨g,0,cur,E,(0,0),rfl,hM g rfl,hg,?_⟩⟩;refine py hl ?_;rw[gF,htake];exact hr
def Wr(w:World)(c0 c1 c2 c3 c4 yv:Value)(hone:∀u∈[c0,c1,c2,c3,c4],u.oneCell'=true) :
  CallsIn Fence.wide 1001 prog 101 #[.agg #[c0,c1,c2,c3,c4],yv,.int .i64 ((0:Nat):Int)] w fun e W'=>e=.returned (.slice none 0 0)/\Below w.heap.size w W':=by
 refine pA func101 rfl trivial ?_ rfl;simp only[ntmps101,ed,bm,ck,Nat.reduceAdd,Nat.reduceSub,fX,fW,fS,fU,List.nil_append,List.cons_append]
 gi_wp2
 go_ret
 exact⟨rfl,(((cz _ w).alloc (ah _) _).alloc bY _).alloc iF _⟩
structure SL(l m k:Nat)(sp yp va:Value)(t:l7):Prop where
 sz:t.size=92
 t0:t.getD 0 undef=.func (.yield l) #[] #[]
 t1:t.getD 1 undef=sp
 t2:t.getD 2 undef=yp
 t4:t.getD 4 undef=va
 t5:t.getD 5 undef=.int .i64 m
 t6:t.getD 6 undef=.int .i64 k
def ay2(M:j2)(w:World)(hM:cX M w)(q:j0)(m:Nat)(lead:Rat)(y:j1)(n N B:Nat)(C:jy B q m lead y N)(hn0':0<n)(hn:n<=N)(hN:N<=1073741824)(hm:m<=64)(hmN:m<=N)(hB:B<=8589934592)(h64:64<=B)(hql:q.length=m+1)(hyl:y.length=m)(hp:∀p∈q,p.length<1099511627776)(hl0:lead≠0)
  (c0 c1 c2 c3 c4 yv:Value) (hs:ai M w ([eQ q,.int .i64 m]++qC lead) [c0,c1,c2,c3,c4]) (hy:(sQ y).rep M w yv) :
  CallsIn Fence.wide 1001 prog 101 #[.agg #[c0,c1,c2,c3,c4],yv,.int .i64 (n:Int)] w fun e W'=>Below w.heap.size w W'/\∃u,e=.returned u/\(sQ (aU q m lead y n)).rep M W' u:=by
 refine Ae func101 rfl trivial ?_ rfl;simp only[ntmps101,ed,bm,ck,Nat.reduceAdd,Nat.reduceSub,fX,fW,fS,fU,List.nil_append,List.cons_append];have hni:¬((n:Int)=0):=O
 obtain⟨n0,hn0⟩:∃n0,w.heap.size=n0:=⟨_,rfl⟩
 obtain⟨Wa,hWa⟩:∃Wa,(((w.alloc (.cells #[c0,c1,c2,c3,c4] 171)).alloc (.cells #[.int .i64 (n:Int)] 3)).alloc (.cells #[.slice none 0 0] 40))=Wa:=⟨_,rfl⟩
 have hsa:Wa.heap.size=n0+3:=by rw[<-hWa];simp[hn0]
 have hNa:Wa.heap[n0+1]?=some (.cells #[.int .i64 (n:Int)] 3 (0,0)):=by
  rw[<-hWa,bJ _ _ _ iF];have:=bc (w.alloc (.cells #[c0,c1,c2,c3,c4] 171)) (.cells #[.int .i64 (n:Int)] 3);rw[br,hn0]at this;exact this
 have hOa:Wa.heap[n0+2]?=some (.cells #[.slice none 0 0] 40 (0,0)):=by
  rw[<-hWa];have:=bc ((w.alloc (.cells #[c0,c1,c2,c3,c4] 171)).alloc (.cells #[.int .i64 (n:Int)] 3)) (.cells #[.slice none 0 0] 40);rw[br,br,hn0]at this;exact this
 have hSa:Wa.heap[n0]?=some (.cells #[c0,c1,c2,c3,c4] 171 (0,0)):=by rw[<-hWa,bJ _ _ _ iF,bJ _ _ _ iF,<-hn0];exact bc w _
 have cN:Wa.cell? ⟨n0+1,0,none⟩=some (.int .i64 (n:Int)):=aH hNa rfl;have cS0:Wa.cell? ⟨n0,0,none⟩=some c0:=aH hSa rfl;have cS1:Wa.cell? ⟨n0,1,none⟩=some c1:=aH hSa rfl;have cS2:Wa.cell? ⟨n0,2,none⟩=some c2:=aH hSa rfl;have cS3:Wa.cell? ⟨n0,3,none⟩=some c3:=aH hSa rfl;have cS4:Wa.cell? ⟨n0,4,none⟩=some c4:=aH hSa rfl
 have hBa:Below w.heap.size w Wa:=by
  rw[<-hWa];exact(((cz _ w).alloc O _).alloc bY _).alloc iF _
 have hka:bq M w (fun b=>M b\/b=n0+2) Wa:=fun b o hb ho _=>by
  have hlt:=(cf.1 ho).1;exact⟨fun h=>h.elim hb O,(hBa.block b hlt).trans ho⟩
 have hMa:cX (fun b=>M b\/b=n0+2) Wa:=⟨fun b hb=>hb.elim (fun h=>bt (hM.1 b h) hBa.size) (fun h=>O),hM.2.jc hka⟩
 gi_wp2
 refine⟨trivial,?_⟩;refine(lO.2 (bv4 (fun b=>M b\/b=n0+2) Wa hMa q m lead y c0 c1 c2 c3 c4 yv (hs.mono hka) (aE.mono _ hka hy))).mono ?_;rintro e W0 ⟨hb0,sp,yp,rfl,hsp,hyp⟩
 gi_wp2
 refine aO4 rfl O (gf:=247) (lb:=#[sp,yp]) rfl trivial (AN func247 aT rfl) ?_;intro fn D l W1 hfn hD hl hsz1 hb1 hK1 hL1;have hk1:bq (fun b=>M b\/b=n0+2) W0 (fun b=>M b\/b=n0+2) W1:=bq.below hb1;replace hsp:=aE.mono _ hk1 hsp;replace hyp:=aE.mono _ hk1 hyp;obtain⟨bs,os,rfl,cm⟩:=XD (j:=1) hsp rfl;refine pA func247 rfl trivial ?_ rfl;simp only[ntmps247,ed,bm,ck,Nat.reduceAdd,Nat.reduceSub,fX,fW,fS,fU,List.nil_append,List.cons_append]
 gi_wp2
 obtain⟨tm,htm,t5,t7,hLr⟩:∃tm:Array Value,tm.size=25/\tm.getD 5 undef=.pointer (some ⟨n0+1,0,none⟩)/\tm.getD 7 undef=.pointer (some ⟨n0+2,0,none⟩)/\W1.heap[l]?=some (.loop (sf fn tm #[15] ir.1 ir.2 D .ready none)):=⟨_,rfl,rfl,rfl,hL1⟩
 have htl:=congrArg Loop.tmps (Obj.loop.inj (ke (hL1.symm.trans hLr)));dsimp only at htl;have hW1s:W1.heap.size=W0.heap.size+2:=hsz1;have hs0:n0+3<=W0.heap.size:=by have:=hb0.size;omega
 refine wpIn_loop_ghost (fun j a' W=>∃k va vo sp' yp' t,j=n-k/\a'=⟨t,[]⟩/\k<n/\SL l m k sp' yp' va t/\CW M w n0 D l (.loop (sf fn tm #[15] ir.1 ir.2 D .ready none)) q m lead y n k k va vo sp' yp' W) (n-0)
  ⟨0,.slice none 0 0,.slice none 0 0,_,_,_,rfl,rfl,hn0',⟨rfl,by rw[hl];rfl,rfl,rfl,rfl,rfl,rfl⟩,?cw⟩ ?round
 case cw=>
  have hks:bq (fun b=>M b\/b=n0+2) W1 (Ly M n0 (.slice none 0 0) (.slice none 0 0)) W1:=fun b o hb ho _=>by
   refine⟨fun h=>?_,ho⟩;rcases h with(h | h | h) | h
   .exact hb (.inl h)
   .cases h
   .exact hb (.inr h)
   .cases h
  refine⟨?_,⟨O,O,O⟩,hK1,hLr,?_,?_,⟨[],Au _ _ _ _,trivial⟩,⟨[],Au _ _ _ _,trivial⟩,(by intro g h;cases h),aE.mono _ hks hsp,aE.mono _ hks hyp⟩
  .rw[<-hn0];exact(hBa.trans (hb0.mono O)).trans (hb1.mono O)
  .rw[hb1.block _ O,hb0.block _ O];exact hNa
  .rw[hb1.block _ O,hb0.block _ O];exact hOa
 case round=>
  rintro j a' W ⟨k,va,vo,sp',yp',t,rfl,rfl,hkn,S,I⟩;refine wpIn_seq_k fun K hK=>wpIn_block (wpIn_seq (an2 (wpIn_seq (wpIn_wide.2 ?_))));obtain⟨xa,hra,hrra⟩:=I.ra;have hcl:=bg q m lead y k;refine br9 (c:=YO aa7) aT ?_;have hvc:=cc4 q m lead y k N B (.func (.yield l) #[] #[]) C (bt hkn hn) hN hm hmN hB h64 hql hyl hp hl0;rw[<-ug]at hvc;have hlow:∀b,M b->b<n0:=fun b hb=>by have:=hM.1 b hb;omega
  have hvlt:∀g,va.ownBlock=some g->g<W.heap.size:=fun g hg=>(hra.lt g hg).2
  have hfine:cX (Ly M n0 va vo) W:=by
   obtain⟨xo,hro,_⟩:=I.ro;have hbig:=I.big;refine⟨fun b hb=>?_,hM.2.jc fun b o hb ho _=>?_⟩
   .rcases hb with(h | h | h) | h
    .have:=hlow b h;omega
    .exact(hro.lt b h).2
    .omega
    .exact hvlt b h
   .have hlt:=(cf.1 ho).1;refine⟨?_,(I.wb.block b O).trans ho⟩;rintro((h | h | h) | h)
    .exact hb h
    .have:=(hro.lt b h).1;omega
    .omega
    .have:=(hra.lt b h).1;omega
  have hdis:∀b,(M b\/vo.ownBlock=some b\/b=n0+2)->va.ownBlock≠some b:=by
   rintro b (h | h | h) e
   .have:=hlow b h;have:=(hra.lt b e).1;omega
   .exact I.dis b e h
   .have:=(hra.lt b e).1;omega
  refine aA6 fo cB2 rfl hvc (M:=fun b=>M b\/vo.ownBlock=some b\/b=n0+2) (va:=va) (base:=n0+3) (xs:=xa) hfine hdis (by simp[S.sz]) rfl (by rw[aX,hcl];exact hra) (by intro u hu;obtain⟨_,_,rfl⟩:=jf.1 hu;rfl) hrra
   ⟨by rw[getD_set_ne O];exact S.t0,rfl⟩ (by rw[getD_set_ne O,S.t1];exact I.p1) (by rw[getD_set_ne O,S.t2];exact I.p2) (by rw[getD_set_ne O];exact S.t4) ⟨by rw[getD_set_ne O];exact S.t5,rfl⟩ ⟨by rw[getD_set_ne O];exact S.t6,rfl⟩ (CT (by rw[S.sz];omega)) ?go
  intro a' w' u0 u1 u2 xa' hsz' hos htape hout hblk hsz2 hdf2 r0 r1 r2 r4 r5 r6 hbox hru hra' hrra';show Code.wpIn _ _ _ _ _ a' w';rw[aX,hcl]at hra';obtain⟨t',ds⟩:=a';have hdf2:ds=[]:=hdf2;subst hdf2;obtain⟨kx,hkx,hp7,hbx⟩:=hbox;have hsz2:t'.size=92:=hsz2;have r0:t'.getD 0 undef=.func (.yield l) #[] #[]:=r0.1;have r4:t'.getD 4 undef=va:=r4;have r5:t'.getD 5 undef=.int .i64 m:=r5.1;have r6:t'.getD 6 undef=.int .i64 k:=r6.1;have hp7:t'.getD 7 undef=.pointer (some ⟨kx,0,none⟩):=hp7;have r1:(aE.aW ([eQ q,.int .i64 m]++qC lead)).rep (Ly M n0 va vo) w' (t'.getD 1 undef):=r1;have r2:(aE.aW [sQ y]).rep (Ly M n0 va vo) w' (t'.getD 2 undef):=r2;have hone:=hru.one;have hkk:k<1099511627776:=O
  have hbase:n0+3<=(w'.alloc (.cells #[u0,u1,u2] 39)).heap.size:=by rw[br];have:=I.big;omega
  rw[kw hsz2,r0,r4,r5,r6,hp7];generalize hs1:t'.getD 1 undef=sp1 at r1|-;generalize hs2:t'.getD 2 undef=yp1 at r2|-;have cb0:w'.cell? ⟨kx,0,none⟩=some u0:=aH hbx rfl;have cb1:w'.cell? ⟨kx,1,none⟩=some u1:=aH hbx rfl;have cb2:w'.cell? ⟨kx,2,none⟩=some u2:=aH hbx rfl;have happ:=fun v' w3 hv3 hg3 hat3=>ap9 (v4:=v') (W4:=w3) rfl I hsz' hos htape hout hblk hra' hrra' r1 r2 hru hkx hbx hvlt hv3 hg3 hat3;have hround:=fun v' w3 hv3 hg3 hat3=>Yb M w n0 D l fn tm htm t5 t7 q m lead y n k hkn v' vo sp1 yp1 u0 u1 u2 w3 hn0 hlow (happ v' w3 hv3 hg3 hat3).1 (happ v' w3 hv3 hg3 hat3).2.1 999;subst hl;clear hK1 hLr hL1;refine wpIn_seq_k fun K2 hK2=>?_
  gi_wp2_with (gi_at_builtin;refine ap3 rfl _ _ rfl (n0+3) va k xa' rfl (hra'.alloc _) w'.heap.size 1 u0 u1 u2 (bc w' _) rfl hone hkk hbase ?_;intro v' w3 hv3 hg3 hat3;obtain⟨fnr,tmr,asr,bdr,hy,hR⟩:=hround v' w3 hv3 hg3 hat3;have hbx3:=(happ v' w3 hv3 hg3 hat3).2.2;have d0:w3.cell? ⟨kx,0,none⟩=some u0:=aH hbx3 rfl;have d1:w3.cell? ⟨kx,1,none⟩=some u1:=aH hbx3 rfl;have d2:w3.cell? ⟨kx,2,none⟩=some u2:=aH hbx3 rfl)
  refine hR.mono ?_;rintro e W5 ⟨b,_,rfl,(⟨rfl,hk1,vo',I5⟩ | ⟨rfl,hk1,vo',I5⟩)⟩
  .gi_wp2
   exact⟨n-(k+1),O,k+1,v',vo',sp1,yp1,_,rfl,rfl,hk1,⟨rfl,rfl,rfl,rfl,rfl,rfl,rfl⟩,I5⟩
  .gi_wp2
   have hl5:=I5.hl;rw[<-htl]at hl5;refine Sj (Fz rfl _ _ _) rfl ⟨⟨_,rfl⟩,.inr ⟨.exit 0,hl5,wpIn_exit ?_⟩⟩;generalize hW6:W5.putObj (W0.heap.size+1) _=W6;have hbig:=I5.big;have h6:∀j,j≠W0.heap.size+1->W6.heap[j]?=W5.heap[j]?:=fun j hj=>by rw[<-hW6];exact sE hj
   have hD6:W6.heap[D]?=some (.deferred (some [])):=(h6 D O).trans I5.hD;have hO6:W6.heap[n0+2]?=some (.cells #[vo'] 40 (0,0)):=(h6 _ O).trans I5.hO;have hb6:Below n0 w W6:=I5.wb.trans ⟨by rw[<-hW6];rfl,by rw[<-hW6];rfl,by rw[<-hW6];rfl,by rw[<-hW6];simp[World.putObj],fun j hj=>h6 j O⟩;have hs6:W6.heap.size=W5.heap.size:=by rw[<-hW6];simp[World.putObj]
   clear hW6;have cO6:W6.cell? ⟨n0+2,0,none⟩=some vo':=aH hO6 rfl
   gi_wp2
   refine⟨bY,.inl ⟨_,_,rfl,AA (hD▸hD6),?_⟩⟩;have hDc:=hD▸hD6;refine⟨_,Gk rfl _ _ _,?_,_,rfl,?_⟩
   .exact hb6.trans (xU (w:=w) O W6 W0.heap.size _ _ O hDc rfl rfl)
   .obtain⟨xs,hro,hrr⟩:=I5.ro;rw[hk1]at hro hrr
    have hk6:bq (Ly M n0 v' vo') W5 M (W6.putObj W0.heap.size (.deferred none)):=fun b o hb ho hc=>by
     have hne:b≠W0.heap.size+1:=by rintro rfl;rw[I5.hl]at ho;cases ho;cases hc
     have hne2:b≠W0.heap.size:=by
      intro e;rw[e,<-hD,I5.hD]at ho;cases ho;cases hc
     exact⟨fun h=>hb (.inl (.inl h)),(sE hne2).trans ((h6 b hne).trans ho)⟩
    refine bd6 (v:=vo') (base:=n0+3) (E:=39) (vZ (W:=W5) (by rw[aX,bg];exact hro) fun g hg=>?_) (fun g hg h=>by have:=(hro.lt g hg).1;have:=hlow g h;omega) (by intro u hu;obtain⟨_,_,rfl⟩:=jf.1 hu;rfl) (hrr.mono hk6);rcases hro.2 with⟨e,_⟩ | ⟨g',cap,cur,e,_,hh,_⟩
    .rw[e]at hg;cases hg
    .rw[e]at hg;simp only[Value.ownBlock,aM]at hg;subst hg;have hne:g'≠W0.heap.size+1:=by rintro rfl;rw[I5.hl]at hh;cases hh
     have hne2:g'≠W0.heap.size:=by
      intro e;rw[e,<-hD,I5.hD]at hh;cases hh
     exact(sE hne2).trans (h6 g' hne)
def GM(q:j0)(m:Nat)(lead:Rat)(y:j1)(n N B:Nat)(C:jy B q m lead y N)(hn:n<=N)(hN:N<=1073741824)(hm:m<=64)(hmN:m<=N)(h64:64<=B)(hql:q.length=m+1)(hyl:y.length=m)(hp:∀p∈q,p.length<1099511627776)(hl0:lead≠0)(hB:B<=8589934592:=by omega) :
  aK prog 101 [Cl q m lead,.one (sQ y),.one (.int .i64 n)] (.ret [.one (sQ (aU q m lead y n))]):=by
 refine⟨bM aT,fun M w vs hM hv=>?_⟩
 match vs,hv with
 | [sv,yv,nv],⟨⟨us,e1,hus⟩,hy,hn1,_⟩=>
   have hnv:nv=.int .i64 n:=hn1.1;subst e1 hnv
   match us,hus with
   | [c0,c1,c2,c3,c4],hus=>
     rcases iI n with rfl | hpos
     .refine((lO (n:=1001)).1 (Wr w c0 c1 c2 c3 c4 yv hus.one)).mono ?_;rintro e w' ⟨rfl,hb⟩;exact⟨hb,[.slice none 0 0],rfl,⟨none,0,rfl,ah _,by simp[maxLen],.inl rfl⟩,trivial⟩
     .refine((lO (n:=1001)).1 (ay2 M w hM q m lead y n N B C hpos hn hN hm hmN hB h64 hql hyl hp hl0 c0 c1 c2 c3 c4 yv hus hy)).mono ?_;rintro e w' ⟨hb,u,rfl,hr⟩;exact⟨hb,[u],rfl,hr,trivial⟩
   | [],hus=>exact hus.elim
   | [_],hus=>exact hus.2.elim
   | [_,_],hus=>exact hus.2.2.elim
   | [_,_,_],hus=>exact hus.2.2.2.elim
   | [_,_,_,_],hus=>exact hus.2.2.2.2.elim
   | _::_::_::_::_::_::_,hus=>exact hus.2.2.2.2.2.elim
 | [],hv=>exact hv.elim
 | [_],hv=>exact hv.2.elim
 | [_,_],hv=>exact hv.2.2.elim
 | _::_::_::_::_,hv=>exact hv.2.2.2.elim
end Go.Sy
namespace Go.Sy
open Go Go.Proofs Tryz Ord
def bw0(p:j1):ev p 0=p.getD 0 0:=by
 cases p with
 | nil=>rfl
 | cons a p=>rw[av,RV];grind
def ak5(e:j0)(c:Rat):aG e c=ev (e.getD (e.length-1) []) c:=by
 rw[aG,<-bw0,pX];congr 1;grind
structure aA7(e:j0)(c:Rat)(D E S T K B:Nat):Prop where
 h0:D≠0
 h1:E≠0
 hp:∀p∈e,(∀a∈p,Bd D S a)/\p.length<=K
 hc:Bd E T c
 hT:1<=T
 hK:K<=1073741824
 hB:B<=8589934592
 hX:tV D E S T K<2^B
abbrev aV(e:j0)(c:Rat):List (List Rat):=e.map (fE · c)
def pv{e:j0}{c:Rat}{y:j1}(h:okF e c y=true):2<=e.length/\e.length<=5/\y.length=e.length-1/\aG e c≠0/\fE (e.getD (e.length-1) []) c≠[]:=by
 unfold okF at h;simp only[bf,pM]at h;obtain⟨⟨h1,h2⟩,h3⟩:=h;unfold DU at h1;rw[fH]at h1;unfold vH at h3;rw[fH]at h3;obtain⟨p,hp⟩:∃p,e[e.length-1]?=some p:=⟨_,bU O⟩
 have hg:e.getD (e.length-1) []=p:=by rw[dp,hp];rfl
 have hl:aG e c≠0:=by rw[ak5,hg];exact h3 p hp
 refine⟨h1.1,h1.2.1,h2,hl,fun e0=>hl ?_⟩;rw[aG,e0];rfl
def WM{e:j0}{c:Rat}{D E S T K B:Nat}(R:aA7 e c D E S T K B)(he:0<e.length)(hel:e.length<1099511627776)(hne:fE (e.getD (e.length-1) []) c≠[]) :
  aK prog 100 [.one (eQ e),qT c] (.ret [Cl (aV e c) (e.length-1) (aG e c)]):=cq1 e c D E S T K B R.h0 R.h1 R.hp R.hc R.hT R.hK R.hB R.hX he hel hne
def at5:Tr:=Hs 3
def bH4:Tr:=kp 1 0 0 3 11 (aJ 4 0 at5 (ia 1 0 1500 3 14 (aJ 5 0 at5 (eO 100 [W 0 0,.agg [U 0 1,U 0 2,U 0 3]] [some 5] [18,20] [32,39] 171 false (eO 101 [G5 6,W 0 4,W 1 0] [none] [21,23,24] [171,40,3] 40 true (.ret [W 7 0,WK 0]))))))
def ca4:Tr:=eO 21 [G5 0] [none] [7] [42] 55 true (oK 2 55 8 (aJ 3 0 (Hs 2) bH4))
def El:aO prog f26 cT [.v (some 5),.v none]=ca4:=aT
def bQ4:Tr:=kq 0 0 4 (aJ 2 0 (.need (.prim [G1 1] none) (.makeInterface 261 (tT 7)) 20 false (.pan (.u 3 0))) (.ret []))
def ZO:aO prog f130 cT [.v none,.v none]=bQ4:=aT
def Ir(e:j0)(c:Rat)(y:j1)(n:Int):List Rat×Int:=
 if okF e c y then(if 0<=n/\n<=1500 then(aU (aV e c) (e.length-1) (aG e c) y n.toNat,0)else([],3))else([],2)
def DD(e:j0)(c:Rat)(y:j1)(n:Int)(D E S T K B B' N:Nat)(he:EqS e)(hc:Fit 513 c)(hy:y.length<1099511627776)(hn1:-9223372036854775808<=n)(hn2:n<9223372036854775808)(R:okF e c y=true->aA7 e c D E S T K B)(hml:okF e c y=true->∀p∈aV e c,p.length<1099511627776)(C:okF e c y=true->0<=n->n<=1500->jy B' (aV e c) (e.length-1) (aG e c) y N/\n.toNat<=N/\N<=1073741824/\e.length-1<=N)(hB':B'<=8589934592)(h64:64<=B'):aK prog 26 [(fT e c y:aF),(.one (.int .i64 n):aF)] (.ret [.one (sQ (Ir e c y n).1),.one (.int .i64 (Ir e c y n).2)]):=by
 refine dB func26 El ?_;have hl:=he.l;apply aA (zR e c y he hc hy);apply vn jA
 refine vs (okF e c y=false) (by
  have:decide ((if okF e c y=true then(0:Int)else 2)≠0)=decide (okF e c y=false):=by cases okF e c y<;>rfl
  rw[<-this];rfl) (fun h2=>?_) (fun h2=>?_)
 .rw[Ir,aD (by rw[h2];simp)];exact eD ⟨aE.Sub.nil,aF.Sub.same,trivial⟩
 have hok:okF e c y=true:=by cases h:okF e c y<;>simp_all
 obtain⟨hl2,hl5,hyl,hld,hne⟩:=pv hok;refine uS az ?_ ?_<;>intro h5
 .rw[Ir,aI hok,aD O];exact eD ⟨aE.Sub.nil,aF.Sub.same,trivial⟩
 refine uS fL ?_ ?_<;>intro h8
 .rw[Ir,aI hok,aD O];exact eD ⟨aE.Sub.nil,aF.Sub.same,trivial⟩
 obtain⟨CC,hnN,hN,hmN⟩:=C hok O O;obtain⟨k,hk⟩:∃k:Nat,n.toNat=k:=⟨_,rfl⟩
 have hnk:n=(k:Int):=O
 rw[Ir,aI hok,aI O,hk];rw[hk]at hnN;subst hnk;apply aA (WM (R hok) O O hne);apply aA (GM (aV e c) (e.length-1) (aG e c) y k N B' CC hnN hN O hmN h64 (by rw[aX];omega) hyl (hml hok) hld hB') rfl;exact aN
end Go.Sy
