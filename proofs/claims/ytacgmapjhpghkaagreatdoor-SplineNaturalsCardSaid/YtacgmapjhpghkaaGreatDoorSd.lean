/- Part. -/
import Derived.Test.YtacgmapjhpghkaaGreatDoorSc
import Derived.Deep.LoopGhost
import Derived.Laws.Bits64
set_option linter.all false
namespace Go.Sy
def sd:=@Go.IntKind.wrap_u64
def xz:=@Go.wp_loop_ghost
open Go.RowKit (Below)
def rY:Ex->Exit
 | .normal=>.normal
 | .exit id=>.exit id
 | .ret=>.ret
section
variable{P:j5}{N:Nat}{M0:eu}{w0:World}{post:Out->Prop}{hints:Nat->Option Hint}
def bM7(post:Out->Prop)(M0:eu)(w0:World)(Q:iN):Prop:=
 ∀c v a w,post (.pan c)->c.rep M0.M w v->Kept M0 w0 w->a.defers=[]->Q (.panic [{ v,recovered:=false }]) a w
def yA(P:j5)(post:Out->Prop)(M0:eu)(w0:World):Prop:=
 ∀f args news,post (.DH f args news)->(∀as w,(callFunc f as).run P w=.ok (.enter f as) w)/\∀(M:c6)(w:World)(vs:j0),Kept M0 w0 w->bf M w->cC M w args vs->Calls P f vs.toArray w fun e w'=>Below w.heap.size w w'/\oU M w' (.ret news) e
def yA.no{P:j5}{out:Out}{M0:eu}{w0:World}:yA P (fun o=>bD o out) M0 w0:=fun f args news h=>by cases out<;>exact(h:False).elim
def yA.noR{P:j5}{rs:List aQ}{ts:List (List aC)}{M0:eu}{w0:World}:yA P (fun o=>o=.retr rs ts) M0 w0:=fun f args news h=>by cases h
def ZR(P:j5)(N:Nat)(M0:eu)(w0:World)(post:Out->Prop)(d:Nat)(τ:Env)(bk:List (List aQ->Prop))(k:Ex->Nat->Nat->St->Bj->Tr)(Q:iN):Prop:=
 ∀ex nb s dec m bk' ρ a w,bk'.take d=bk.take d->d<=bk'.length->vc P post (k ex nb (τ++m).length s dec) (τ++m) bk'->jn (τ++m) dec->Sat M0 w0 N s (τ++m) ρ a w->Q (rY ex) a w
structure jN(P:j5)(W:Code->(Exit->Act->World->Prop)->Act->World->Prop):Prop where
 skip:∀{Q a w},Q .normal a w->W .skip Q a w
 exit:∀{id Q a w},Q (.exit id) a w->W (.exit id) Q a w
 ret:∀{Q a w},Q .ret a w->W .ret Q a w
 any:P.follows .mixedOrders=true->∀{id ops Q a w},wpAny P .any ops Q ops.size (Array.replicate ops.size false) a { w with drawn:=w.drawn+1 } -> W (.region id ops true) Q a w
 ops:∀{id ops Q a w},wpOps P ops Q (List.range ops.size) a w->W (.region id ops false) Q a w
 seq:∀{x y Q a w},W x (Exit.then (W y Q) Q) a w->W (.seq x y) Q a w
 cond:∀{c x y t Q}{a:Act}{w},a.eval c=.bool t->W (if t then x else y) Q a w->W (.cond c x y) Q a w
 block:∀{id x Q a w},W x (Exit.inBlock id Q) a w->W (.block id x) Q a w
 loop:∀{c Q a w}(I:Nat->Act->World->Prop)(n:Nat),I n a w->(∀n a w,I n a w->W c (Exit.then (fun a' w'=>∃n',n'<n/\I n' a' w') Q) a w)->W (.loop c) Q a w
def jN.wp:jN P (Code.wp P):=⟨sA,uO,rW,fun h=>BD h,wp_region,bU,qL,nt,xz⟩
def tv{W:Code->(Exit->Act->World->Prop)->Act->World->Prop}(R:jN P W)(hm:P.follows .mixedOrders=true):∀(c:Code)(l d nb ni:Nat)(s:St)(dec:Bj)(k:Ex->Nat->Nat->St->Bj->Tr)(τ:Env)(bk:List (List aQ->Prop)),
  vc P post (exec P N hints c l d nb ni s dec k) τ bk->τ.length=ni->jn τ dec->d<=bk.length ->
  ∀ρ a w(Q:iN),Sat M0 w0 N s τ ρ a w->bM7 post M0 w0 Q->yA P post M0 w0->ZR P N M0 w0 post d τ bk k Q->W c Q a w:=by
 intro c
 induction c with
 | skip=>
   intro l d nb ni s dec k τ bk h hn hd hb ρ a w Q hs hp ho hk;refine R.skip (hk .normal nb s dec [] bk ρ a w rfl hb ?_ (by rw[cB];exact hd) (by rw[cB];exact hs));rw[cB,hn];exact h
 | exit id=>
   intro l d nb ni s dec k τ bk h hn hd hb ρ a w Q hs hp ho hk;refine R.exit (hk (.exit id) nb s dec [] bk ρ a w rfl hb ?_ (by rw[cB];exact hd) (by rw[cB];exact hs));rw[cB,hn];exact h
 | ret=>
   intro l d nb ni s dec k τ bk h hn hd hb ρ a w Q hs hp ho hk;refine R.ret (hk .ret nb s dec [] bk ρ a w rfl hb ?_ (by rw[cB];exact hd) (by rw[cB];exact hs));rw[cB,hn];exact h
 | region id ops draw=>
   intro l d nb ni s dec k τ bk h hn hd hb ρ a w Q hs hp ho hk;have h:vc P post (lk P N ops ops.toList 0 nb ni s dec [] fun nb ni s dec eS=>if ordered eS then k .normal nb ni s dec else .fail 1000) τ bk:=h
   have main:∃(m:Env)(fs:List EX)(z:Option Nat),jw P N ops Q M0 w0 (τ++m) z 0 s fs ops.toList/\ordered (fs.map (·.r)).reverse=true /\
     ((∃j,z=some j/\j<ops.size)\/(z=none/\∀ρ a w,Sat M0 w0 N (s.apps (fs.map (·.e))) (τ++m) ρ a w->Q .normal a w)):=by
    rcases Dz hp ho ops.toList 0 nb ni s dec [] τ h hn hd (fun j=>aT)with⟨m,fs,nb',dec',h1,h2,h3⟩ | ⟨m,fs,z,h1,h2,h3,h4⟩
    .rw[cB]at h3;split at h3
     .rename_i ho;exact⟨m,fs,none,h1,ho,.inr ⟨rfl,fun ρ a w hs=>hk .normal nb' _ dec' m bk ρ a w rfl hb h3 h2 hs⟩⟩
     .exact h3.elim
    .rw[cB]at h4;exact⟨m,fs,some z,h1,h4,.inl ⟨z,rfl,by simpa using h3⟩⟩
   obtain⟨m,fs,z,h1,h2,h3⟩:=main
   have hrepl:∀j,(Array.replicate ops.size false).getD j false=false:=by
    intro j;rw[jq];cases h:(Array.replicate ops.size false)[j]? with
    | none=>rfl
    | some b=>have:=(cJ.1 h).2;simp at this;subst this;rfl
   cases draw with
   | true=>
     refine R.any hm (af0 h1 h2 h3 ops.size _ ρ a _ aT ?_ ?_ ?_ ?_)
     .intro j f _ hl;rw[hrepl]at hl;cases hl
     .intro j _;exact hrepl j
     .exact bG (uT _ _) aT
     .have e:done s fs (fun j=>(Array.replicate ops.size false).getD j false)=s:=by
       show s.apps _=s;rw[VA _ 0 _ fun j=>?_]
       .rfl
       .exact hrepl j
      rw[e];exact(hs.ext m).drew _
   | false=>
     refine R.ops ?_;rw[List.range_eq_range'];refine ac7 h1 h2 h3 ops.size 0 ρ a w (bW _) (fun j _=>dM j) ?_;rw[jI];exact hs.ext m
 | seq x y ihx ihy=>
   intro l d nb ni s dec k τ bk h hn hd hb ρ a w Q hs hp ho hk;refine R.seq (ihx l d nb ni s dec _ τ bk h hn hd hb ρ a w _ hs ?_ ho ?_)
   .intro c v a w h1 h2 h3 h4;exact hp c v a w h1 h2 h3 h4
   .intro ex nb' s' dec' m bk' ρ' a' w' hbk hb' hv hd' hs';cases ex with
    | normal=>
      refine ihy _ d nb' _ s' dec' k (τ++m) bk' hv rfl hd' hb' ρ' a' w' Q hs' hp ho ?_;intro ex2 nb2 s2 dec2 m2 bk2 ρ2 a2 w2 hbk2 hb2 hv2 hd2 oz;rw[dy]at hv2 hd2 oz;exact hk ex2 nb2 s2 dec2 (m++m2) bk2 ρ2 a2 w2 (hbk2.trans hbk) hb2 hv2 hd2 oz
    | exit id=>exact hk (.exit id) nb' s' dec' m bk' ρ' a' w' hbk hb' hv hd' hs'
    | ret=>exact hk .ret nb' s' dec' m bk' ρ' a' w' hbk hb' hv hd' hs'
 | cond c x y ihx ihy=>
   intro l d nb ni s dec k τ bk h hn hd hb ρ a w Q hs hp ho hk
   have h:vc P post (match(Nx c).run s with
    | some (.w (.one (.c x')))=>parts dec x' fun β dec=>if β then exec P N hints x l d nb ni s dec k else exec P N hints y (l+oS x) d nb ni s dec k
    | _=>.fail 1001) τ bk:=h
   split at h
   .rename_i x' hx;obtain⟨β,dec2,hc,hd2,hv⟩:=Hu hd h;have hval:(c0 τ x').rep (Ms M0 ρ s) w (a.eval c):=zF hs hx;rw[hc]at hval;refine R.cond (t:=β) hval.1 ?_;cases β with
    | true=>exact ihx l d nb ni s dec2 k τ bk hv hn hd2 hb ρ a w Q hs hp ho hk
    | false=>exact ihy _ d nb ni s dec2 k τ bk hv hn hd2 hb ρ a w Q hs hp ho hk
   .exact h.elim
 | block id x ih=>
   intro l d nb ni s dec k τ bk h hn hd hb ρ a w Q hs hp ho hk;refine R.block (ih l d nb ni s dec _ τ bk h hn hd hb ρ a w _ hs ?_ ho ?_)
   .intro c v a w h1 h2 h3 h4;exact hp c v a w h1 h2 h3 h4
   .intro ex nb' s' dec' m bk' ρ' a' w' hbk hb' hv hd' hs';cases ex with
    | normal=>exact hk .normal nb' s' dec' m bk' ρ' a' w' hbk hb' hv hd' hs'
    | exit id'=>
      show if id'=id then Q .normal a' w' else Q (.exit id') a' w'
      simp only at hv;split at hv
      .rename_i e;rw[aF e];exact hk .normal nb' s' dec' m bk' ρ' a' w' hbk hb' hv hd' hs'
      .rename_i e;rw[aG e];exact hk (.exit id') nb' s' dec' m bk' ρ' a' w' hbk hb' hv hd' hs'
    | ret=>exact hk .ret nb' s' dec' m bk' ρ' a' w' hbk hb' hv hd' hs'
 | loop x ih=>
   intro l d nb ni s dec k τ bk h hn hd hb ρ a w Q hs hp ho hk
   have h:vc P post (match head P ((hints l).getD (auto P N x s)) (Kq x) s nb ni with
    | none=>.fail 1002
    | some h=>.loop d h.inits (exec P N hints x (l+1) (d+1) h.nb h.ni h.s dec (bA1 P ((hints l).getD (auto P N x s)) ni h d k))) τ bk:=h
   generalize (hints l).getD (auto P N x s)=hint at h;split at h
   .exact h.elim
   .rename_i hd0 hh;obtain⟨G,xY,μ,g0,hg0,hlen,hbody⟩:=h
    have hfit:fits ni hd0.inits hd0.F hd0.s s=true/\hd0.ni=ni+hd0.inits.length:=by
     unfold head at hh;split at hh
     .simp only at hh;split at hh
      .rename_i hc;simp only[aZ]at hh;subst hh;simp only[bR,jr]at hc;exact hc
      .cases hh
     .cases hh
    refine R.loop (fun n a' w'=>∃g ρ',μ g=n/\Sat M0 w0 N hd0.s (τ++xY g) ρ' a' w') (μ g0) ?_ ?_
    .have hs0:Sat M0 w0 N s (τ++[]) ρ a w:=by rw[cB];exact hs
     obtain⟨ρ',h1⟩:=at2 hs0 hn hfit.1;rw[cB]at h1;exact⟨g0,ρ',rfl,h1.sub (ai.app (ai.refl τ) hg0)⟩
    .rintro n a' w' ⟨g,ρ',rfl,hs'⟩;have htl:(bk.take d).length=d:=by rw[bh];omega
     refine ih (l+1) (d+1) hd0.nb hd0.ni hd0.s dec _ (τ++xY g) _ (hbody g) (by rw[cF,hlen,hn,hfit.2]) (hd.ext _) (by simp[htl]) ρ' a' w' _ hs' ?_ ho ?_
     .intro c v a w h1 h2 h3 h4;exact hp c v a w h1 h2 h3 h4
     .intro ex nb2 s2 dec2 m bk2 ρ2 a2 w2 hbk2 hb2 hv2 hd2 oz
      have htake:bk2.take d=bk.take d:=by
       have:=congrArg (List.take d) hbk2;rw[jh,jh,de (Nat.le_succ d)]at this;rw[this,xg O,jh,Nat.min_self]
      have hother:∀e:Ex,vc P post (k e nb2 (τ++xY g++m).length s2 dec2) (τ++xY g++m) bk2->Q (rY e) a2 w2:=by
       intro e hv;rw[dy]at hv hd2 oz;exact hk e nb2 s2 dec2 (xY g++m) bk2 ρ2 a2 w2 htake O hv hd2 oz
      cases ex with
      | normal=>
        have hv2:vc P post (match aR1 P hint ni hd0 s2 with | some vs=>.back d vs | none=>.fail 1003) (τ++xY g++m) bk2:=hv2;split at hv2
        .rename_i vs hvs;obtain⟨f,hf,hfv⟩:=hv2
         have hget:bk2[d]?=some (fun ts=>∃g',ai ts (xY g')/\μ g'<μ g):=by
          have h1:(bk2.take (d+1))[d]?=bk2[d]?:=by rw[eh,aF (yD d)]
          rw[<-h1,hbk2,eh,aF (yD d),fi O,htl,fE];rfl
         rw[hget]at hf;simp only[aZ]at hf;subst hf;obtain⟨g',hg',hlt⟩:=hfv
         have hfb:∃F,fits ni vs F hd0.s s2=true:=by
          unfold aR1 at hvs;split at hvs
          .simp only at hvs;split at hvs
           .rename_i hc;simp only[aZ]at hvs;subst hvs;exact⟨_,hc⟩
           .cases hvs
          .cases hvs
         obtain⟨F,hF⟩:=hfb;rw[dy]at oz hg';obtain⟨ρ3,h3⟩:=at2 oz hn hF;exact⟨μ g',hlt,g',ρ3,rfl,h3.sub (ai.app (ai.refl τ) hg')⟩
        .exact hv2.elim
      | exit id=>exact hother (.exit id) hv2
      | ret=>exact hother .ret hv2
 | _=>intro l d nb ni s dec k τ bk h;exact h.elim
def xe(hm:P.follows .mixedOrders=true)(c:Code)(l d nb ni:Nat)(s:St)(dec:Bj)(k:Ex->Nat->Nat->St->Bj->Tr)(τ:Env)(bk:List (List aQ->Prop))
  (h:vc P post (exec P N hints c l d nb ni s dec k) τ bk) (hn:τ.length=ni) (hd:jn τ dec) (hb:d<=bk.length) (ρ:Nat->Gh) (a:Act) (w:World) (Q:iN) (hs:Sat M0 w0 N s τ ρ a w) (hp:bM7 post M0 w0 Q) (ho:yA P post M0 w0) (hg:ZR P N M0 w0 post d τ bk k Q):c.wp P Q a w:=
 tv jN.wp hm c l d nb ni s dec k τ bk h hn hd hb ρ a w Q hs hp ho hg
inductive In where
 | v (t:aQ)
 | ref (cells:List aC)
 | lent (E sz:Nat) (ts:List (List aC))
def In.ty:In->aQ
 | .v t=>t
 | .ref cells=>.one (.aw cells)
 | .lent _ _ _=>.rows []
def In.env:In->aQ
 | .v t=>t
 | .ref cells=>.agg cells
 | .lent _ _ ts=>.rows ts
def In.Is:Arg->In->Prop
 | .v sh,.v t=>t.shape=some sh
 | .ref n,.ref cells=>cells.length=n
 | .lent E sz,.lent E' sz' ts=>E'=E/\sz'=sz
 | .k u,.v t=>t=.one (.exact u)
 | _,_=>False
end
section
variable{P:j5}{N:Nat}{M0:eu}{w0 w:World}{s:St}{τ:Env}{ρ:Nat->Gh}{a:Act}
def iA(tmps:iS)(r:ResultVar):Sem Value:=
 match r with
 | .tmp t=>pure (tmps.getD t undef)
 | .cell b t=>do loadVar t (<-asAddr (tmps.getD b undef))
def gN(fn:Func)(tmps:iS)(vs:j0)(h:(fn.results.toList.mapM (iA tmps)).run P w=.ok vs w) :
  (results fn tmps).run P w=.ok (pack vs) w:=by
 have e:results fn tmps=(do
   let vs <-fn.results.mapM (iA tmps)
   pure (if h:vs.size=1 then vs[0]else .tuple vs)):=rfl
 rw[e,Array.mapM_eq_mapM_toList];simp only[gC,Sem.run_map,h,js,gq]
 congr 1
 match vs with
 | []=>rfl
 | [v]=>rfl
 | _::_::_=>rfl
def rX(h:Sat M0 w0 N s τ ρ a w)(l:c7):cy M0 ρ s l M0.M:=
 ⟨fun k hk=>.inl hk,fun b x k h1 h2 _ hk=>by
  exact h.old k hk (h.lo b x k h1 h2).1⟩
def pv(h:Sat M0 w0 N s τ ρ a w){M':c6}:∀{rs:List ResultVar}{vs:List SW}{l:c7},(Bc P s rs).run s=some (vs,l)->cy M0 ρ s l M' ->
  ∃us,(rs.mapM (iA a.tmps)).run P w=.ok us w/\cC M' w (vs.map (pw τ)) us
 | [],vs,l,hq,hS=>by
   simp only[Bc,Q.gK,aZ,cX]at hq;obtain⟨rfl,rfl⟩:=hq;exact⟨[],rfl,trivial⟩
 | .tmp t::rs,vs,l,hq,hS=>by
   obtain⟨v,h1,h2⟩:=Q.bind_some hq;obtain⟨⟨y,l1⟩,h3,h4⟩:=Q.bind_some h2;obtain⟨⟨ys,l2⟩,h5,h6⟩:=Q.bind_some h4;simp only[Q.run_pure,aZ,cX]at h6;obtain⟨rfl,rfl⟩:=h6;obtain⟨us,hr,hrep⟩:=pv h h5 (hS.mono fun x hx=>ke _ hx);refine⟨a.tmps.getD t undef::us,?_,Vb h h3 (hS.mono fun x hx=>gV _ hx) (rf h h1),hrep⟩;simp only[BR,iA,gC,gq,js,hr]
 | .cell t T::rs,vs,l,hq,hS=>by
   obtain⟨c,h1,h2⟩:=Q.bind_some hq;have hx:=eX h h1;cases c with
   | p b off=>
     obtain⟨bx,h3,h4⟩:=Q.bind_some h2;simp only[jS,aZ]at h3;cases bx with
     | none=>cases h4
     | some bx=>cases bx with
       | row=>cases h4
       | part=>cases h4
       | dead=>cases h4
       | var T' cells=>
         obtain⟨⟨ag,n⟩,h5,h6⟩:=Q.bind_some h4;rw[eU]at h5;obtain⟨cs,h7,h8⟩:=Q.bind_some h6;rw[eU]at h7;obtain⟨⟨cs',l1⟩,h9,h10⟩:=Q.bind_some h8;obtain⟨⟨ys,l2⟩,h11,h12⟩:=Q.bind_some h10;obtain⟨v,h13,h14⟩:=Q.bind_some h12;simp only[Q.run_pure,aZ,cX]at h14;obtain⟨rfl,rfl⟩:=h14;obtain⟨us,hr,hrep⟩:=pv h h11 (hS.mono fun x hx=>ke _ hx);obtain⟨hlen,rfl⟩:=uF h7;obtain⟨vs',hh,hall⟩:=h.bx b _ h3;have hl:=hall.length;have hcs:=yt h h9 (hS.mono fun x hx=>gV _ hx) ((hall.drop off).take n);have hcl:=hcs.length
         have hn1:ag=true\/n=1:=by
          cases ag with
          | true=>exact .inl rfl
          | false=>
            right
            simp only[eN,ck]at h13;split at h13
            .simp only[aL,Cw,bh,dF]at hcl;omega
            .cases h13
         obtain⟨u,hru,hu⟩:=ff (P:=P) (w:=w) h5 hh (off:=off) b6 hn1;have hxe:a.tmps.getD t undef=.pointer (some ⟨(ρ b).blk,off,none⟩):=hx.2;refine⟨u::us,?_,?_,hrep⟩
         .simp only[BR,iA,gC,hxe,asAddr,gq,js,hru,hr]
         .cases ag with
          | true=>
            simp only[bg,Q.gK,aZ]at h13 hu;subst h13;exact⟨_,hu,by simpa using hcs⟩
          | false=>
            simp only[eN,ck]at h13 hu;split at h13
            .rename_i c';simp only[Q.gK,aZ]at h13;subst h13;have hu':(vs'.drop off).take n=[u]:=by simpa using hu
             rw[hu']at hcs;exact hcs.1
            .cases h13
   | _=>cases h2
def xq{M:c6}{k:Nat}:¬(eu.mk M ⟨0,undef,#[]⟩).O k:=fun h=>by cases h
def Kept.below{M:c6}{w0 w:World}(h:Kept ⟨M,⟨0,undef,#[]⟩⟩ w0 w):Below w0.heap.size w0 w:=
 ⟨h.os,h.tape,h.output,h.size,fun k hk=>h.block k hk xq⟩
def uA{M:c6}{ex:c6}{i:Nat}{g:Arg}{x:In}{v:Value}(hτ:τ[i]?=some x.env)(hi:In.Is g x)(hv:x.ty.rep M w v):iu ex τ ρ M w (lF i g) v:=by
 cases g with
 | v sh=>cases x with
   | v t=>exact tM hτ hi hv
   | ref cells=>exact hi.elim
   | lent _ _ _=>exact hi.elim
 | lent _ _=>cases x with
   | v t=>exact hi.elim
   | ref cells=>exact hi.elim
   | lent _ _ _=>exact(hv:False).elim
 | k u=>cases x with
   | v t=>
     have ht:t=.one (.exact u):=hi;subst ht;exact hv
   | ref cells=>exact hi.elim
   | lent _ _ _=>exact hi.elim
 | ref n=>cases x with
   | v t=>exact hi.elim
   | lent _ _ _=>exact hi.elim
   | ref cells=>
     have hc:((List.range n).map fun j=>C0.u i j).map (c0 τ)=cells:=by
      apply gU;intro j;rw[ey,dR];have hl:cells.length=n:=hi;by_cases hj:j<n
      .rw[kC hj,bM O];simp only[cZ,Function.comp,c0,fI,hτ,gH,In.env,aQ.cell,aQ.cells,bM (show j<cells.length by omega)]
      .rw[jQ (by simpa using hj),jQ O];rfl
     show(aC.aw _).rep M w v;rw[hc,gd];exact hv
def aT0(args:List Arg)(bx:List (Nat×Bx))(t:Nat):(⟨args.mapIdx fun i a=>(i,lF i a),bx,[]⟩:St).t t=((args[t]?).map (lF t)).getD .junk:=by
 have hlook:∀(l:List Arg)(d:Nat),(look (l.mapIdx fun i a=>(d+i,lF (d+i) a)) t)=if d<=t then(l[t-d]?).map (lF t)else none:=by
  intro l
  induction l with
  | nil=>intro d;simp[look]
  | cons x l ih=>
    intro d;rw[List.mapIdx_cons];simp only[look,cV]
    have e:(l.mapIdx fun i a=>(d+(i+1),lF (d+(i+1)) a))=l.mapIdx fun i a=>(d+1+i,lF (d+1+i) a):=by
     congr 1;funext i a;rw[show d+(i+1)=d+1+i by omega]
    rw[e,ih (d+1)];by_cases h1:d=t
    .subst h1;simp
    .rw[aG h1];by_cases h2:d+1<=t
     .rw[aF h2,aF O,show t-d=(t-(d+1))+1 by omega,uZ]
     .rw[aG h2,aG O]
 have:=hlook args 0;simp only[bW,dM,bg,Uu]at this;simp only[St.t,this]
def Vk{N:Nat}{args:List Arg}{ins:List In}{M:c6}{w:World}{vs:j0}(hin:az In.Is args ins)(hM:bf M w)(hlen:args.length<=N)(hvs:cC M w (ins.map In.ty) vs) :
  Sat ⟨M,⟨0,undef,#[]⟩⟩ w N ⟨args.mapIdx fun i a=>(i,lF i a),[],[]⟩ (ins.map In.env) (fun _=>⟨0,undef,#[]⟩) ⟨vs.toArray++Array.replicate (N-vs.toArray.size) undef,[]⟩ w:=by
 have hil:ins.length=args.length:=hin.length.symm;have hvl:vs.length=args.length:=by rw[<-hvs.length];simpa using hil
 refine⟨⟨rfl,rfl,rfl,ah _,fun _ _ _=>rfl,fun x hx=>⟨(hM.2 x hx).1,xq,(hM.2 x hx).2⟩⟩,b6,rfl,fun t=>?_,(by intro b x hb;cases hb),(by intro b b' x x' k hb;cases hb),(by intro b x k hb;cases hb),fun k hk ho=>ho.elim (fun h=>nX.2 h (hM.1 k hk)) xq,(by intro b E sz cid hb;cases hb)⟩;rw[aT0];cases hat:args[t]? with
 | none=>trivial
 | some g=>
   have htl:t<args.length:=(cL.1 hat).1;obtain⟨x,hx,hix⟩:=hin.get t g hat;have hvt:vs[t]?=some (vs[t]' O):=bM O;obtain⟨ty,hty,hrep⟩:=hvs.get t _ hvt;rw[dR,hx]at hty;simp only[cZ,aZ]at hty;subst hty
   have hval:(vs.toArray++Array.replicate (N-vs.toArray.size) undef).getD t undef=vs[t]' O:=by
    rw[jq,RU b6];simp[hvt]
   rw[hval];refine uA (by rw[dR,hx];rfl) hix (aQ.hU ?_ hrep);intro k o hk ho _;refine⟨fun hm=>?_,ho⟩;rcases hm with hm | ⟨b,x,hb,_⟩
   .exact hk hm
   .cases hb
def dh{f:FuncId}{fn:Func}{hints:Nat->Option Hint}{args:List Arg}{ins:List In}{out:Out}(hm:P.follows .mixedOrders=true)(hok:rZ P f=true)
  (hf:P.funcs[f]?=some fn) (hin:az In.Is args ins) (h:vc P (fun o=>bD o out) (af P fn hints args) (ins.map In.env) []):aX P f (ins.map In.ty) out:=by
 refine⟨ay hok,fun M w vs hM hvs=>?_⟩;unfold af at h;split at h
 .exact h.elim
 .rename_i c hb;split at h
  .rename_i hlen;refine kH hf hb ?_;have hil:ins.length=args.length:=hin.length.symm;have hvl:vs.length=args.length:=by rw[<-hvs.length];simpa using hil
   refine xe (M0:=⟨M,⟨0,undef,#[]⟩⟩) (w0:=w) hm c 0 0 0 args.length _ [] _ (ins.map In.env) [] h (by simpa using hil) (by intro x hx;cases hx) (ah _) (fun _=>⟨0,undef,#[]⟩) _ w _ ?_ ?_ yA.no ?_
   .exact Vk hin hM hlen hvs
   .intro c v a w' hp hr hb hd;refine⟨hd,hb.below,?_⟩;cases out with
    | pan d=>have hp:c=d:=hp;subst hp;exact⟨v,rfl,hr⟩
    | ret _=>exact hp.elim
    | DH _ _ _=>exact hp.elim
    | retr _ _=>exact hp.elim
   .intro ex nb s dec m bk' ρ a w' _ _ hv _ hs
    have key:vc P (fun o=>bD o out) (match(Bc P s fn.results.toList).run s with
      | some (vs,_)=>.ret vs
      | none=>.fail 1008) (ins.map In.env++m) bk'->a.defers=[]/\∃v,(results fn a.tmps).run P w'=.ok v w'/\(Below w.heap.size w w'/\oU M w' out (.returned v)):=by
     intro hv;split at hv
     .rename_i vs' l hq;obtain⟨us,hr,hrep⟩:=pv hs hq (rX hs _);refine⟨hs.df,_,gN fn a.tmps us hr,hs.below.below,?_⟩;cases out with
      | ret rs=>exact⟨us,rfl,cC.sub hv hrep⟩
      | retr _ _=>exact hv.elim
      | DH _ _ _=>exact hv.elim
      | pan _=>exact hv.elim
     .exact hv.elim
    cases ex with
    | normal=>exact key hv
    | ret=>exact key hv
    | exit id=>exact hv.elim
  .exact h.elim
end
open Go.RowKit (Below)
section
variable{P:j5}{T U ty:TypeId}{x y:j6}
def WU{M:c6}{w:World}{ρ:Operand->Value}{t:aQ}(h:cC M w [t] ((#[x]:Array Operand).toList.map ρ)):t.rep M w (ρ x):=h.1
def tJ{M:c6}{w:World}{ρ:Operand->Value}{t u:aQ}(h:cC M w [t,u] ((#[x,y]:Array Operand).toList.map ρ)):t.rep M w (ρ x)/\u.rep M w (ρ y):=⟨h.1,h.2.1⟩
def oj{op:BinOp}{k:IntKind}{a b:Int}{r:Value}(h1:r.oneCell'=true)(h:∀w,(binOp op T (.int k a) (.int k b)).run P w=.ok r w) :
  ao P (.binOp op T x y U) ty [.one (.int k a),.one (.int k b)] (.one (.exact r)):=by
 intro M w ρ o ho _ hr;obtain⟨hx,hy⟩:=tJ hr;have hx:ρ x=.int k a/\_:=hx;have hy:ρ y=.int k b/\_:=hy;refine⟨r,?_,⟨rfl,h1⟩⟩
 have hg:(eqGuard op T x y (.int k a) (.int k b)).run P w=.ok () w:=by
  unfold eqGuard;cases op<;>simp
 simp only[execOp,ho,hx.1,hy.1,gC,hg,js,h w,gq]
def gF{k:IntKind}{a b c:Int}(h:k.wrap (a+b)=c):ao P (.binOp .add T x y U) ty [.one (.int k a),.one (.int k b)] (.one (.int k c)):=
 oj rfl fun w=>by simp[binOp,Op.intArith,h]
def qJ{k:IntKind}{a b c:Int}(h:k.wrap (a-b)=c):ao P (.binOp .sub T x y U) ty [.one (.int k a),.one (.int k b)] (.one (.int k c)):=
 oj rfl fun w=>by simp[binOp,Op.intArith,h]
def wi{k:IntKind}{a b c:Int}(h:k.wrap (a*b)=c):ao P (.binOp .mul T x y U) ty [.one (.int k a),.one (.int k b)] (.one (.int k c)):=
 oj rfl fun w=>by simp[binOp,Op.intArith,h]
def rG{k:IntKind}{a b c:Int}(hb:b≠0)(h:k.wrap (a.tdiv b)=c):ao P (.binOp .quo T x y U) ty [.one (.int k a),.one (.int k b)] (.one (.int k c)):=
 oj rfl fun w=>by simp[binOp,Op.intDiv,hb,h]
def Ff{k:IntKind}{a b c:Int}(hb:b≠0)(h:a.tmod b=c):ao P (.binOp .rem T x y U) ty [.one (.int k a),.one (.int k b)] (.one (.int k c)):=
 oj rfl fun w=>by simp[binOp,Op.intDiv,hb,h]
def aW2{k:IntKind}{a b:Int}:ao P (.binOp .eql T x y U) ty [.one (.int k a),.one (.int k b)] (.one (.bool (decide (a=b)))):=
 oj rfl fun w=>by simp[binOp,Op.intCmp,BEq.beq]
def WR{k:IntKind}{a b:Int}:ao P (.binOp .neq T x y U) ty [.one (.int k a),.one (.int k b)] (.one (.bool (!decide (a=b)))):=
 oj rfl fun w=>by simp[binOp,Op.intCmp,bne,BEq.beq]
def vD{k:IntKind}{a b:Int}:ao P (.binOp .lss T x y U) ty [.one (.int k a),.one (.int k b)] (.one (.bool (decide (a<b)))):=
 oj rfl fun w=>by simp[binOp,Op.intCmp]
def ch0{k:IntKind}{a b:Int}:ao P (.binOp .leq T x y U) ty [.one (.int k a),.one (.int k b)] (.one (.bool (decide (a<=b)))):=
 oj rfl fun w=>by simp[binOp,Op.intCmp]
def Wa{k:IntKind}{a b:Int}:ao P (.binOp .gtr T x y U) ty [.one (.int k a),.one (.int k b)] (.one (.bool (decide (b<a)))):=
 oj rfl fun w=>by simp[binOp,Op.intCmp]
def HE{k:IntKind}{a b:Int}:ao P (.binOp .geq T x y U) ty [.one (.int k a),.one (.int k b)] (.one (.bool (decide (b<=a)))):=
 oj rfl fun w=>by simp[binOp,Op.intCmp]
def fk{b:Bool}:ao P (.unOp .not T x) ty [.one (.bool b)] (.one (.bool (!b))):=by
 intro M w ρ o ho _ hr;have hx:ρ x=.bool b/\_:=WU hr;exact⟨.bool (!b),by simp[execOp,ho,hx.1,Op.unary],⟨rfl,rfl⟩⟩
def bx6{k:IntKind}{a c:Int}(h:k.wrap (0-a)=c):ao P (.unOp .neg T x) ty [.one (.int k a)] (.one (.int k c)):=by
 intro M w ρ o ho _ hr;have hx:ρ x=.int k a/\_:=WU hr;exact⟨.int k c,by simp[execOp,ho,hx.1,Op.unary,Op.intArith,<-h],⟨rfl,rfl⟩⟩
def kh{k k':IntKind}{a c:Int}(hu:∃d,P.underlying T=some d)(hd:P.underlying U=some (.int k'))(h:k'.wrap a=c):ao P (.convert T U x) ty [.one (.int k a)] (.one (.int k' c)):=by
 obtain⟨d,hu⟩:=hu;intro M w ρ o ho _ hr;have hx:ρ x=.int k a/\_:=WU hr;refine⟨.int k' c,?_,⟨rfl,rfl⟩⟩
 have:(convert T U (.int k a)).run P w=.ok (.int k' c) w:=by
  simp[convert,er hu,er hd,Conv.intToInt,h]
 simp only[execOp,ho,hx.1,gC,this,js,gq]
def ae{E sz n:Nat}{ts:List (List aC)}{b:Nat}{s2:Nat}(h:dZ P T=some (E,s2,b))(hn:ts.length=n):ao P (.call ⟨.builtin .len,#[x],#[T]⟩) ty [.one (.slice sz ts)] (.one (.int .i64 n)):=by
 intro M w ρ o ho _ hr;have hx:(aC.slice sz ts).rep M w (ρ x):=WU (x:=x) hr;obtain⟨ad,cap,hv,_⟩:=hx;obtain⟨ie,hu,_⟩:=br h;exact⟨.int .i64 n,by simp[execOp,ho,resolve,invoke,builtin,Builtin.len_,hv,er hu,goInt,hn],⟨rfl,rfl⟩⟩
def ak1{E sz b:Nat}{k:IntKind}{n:Int}{ts:List (List aC)}{t:List aC}(h:dZ P T=some (E,sz,b))(ht:ts[n.toNat]?=some t)(h0:0<=n:=by omega) :
  ao P (.indexAddr T x y) ty [.one (.slice sz ts),.one (.int k n)] (.one (.aw t)):=by
 intro M w ρ o ho _ hr;obtain⟨hx,hy⟩:=tJ (x:=x) (y:=y) hr;have hx:(aC.slice sz ts).rep M w (ρ x):=hx;have hy:ρ y=.int k n/\_:=hy;obtain⟨ad,cap,hv,hc,hm,hel⟩:=hx;obtain⟨ie,hu,hie,hies,_⟩:=br h;have hlt:n.toNat<ts.length:=(cL.1 ht).1;rcases hel with rfl | ⟨bl,off,cs,T',fz,rfl,hb,hh,hel⟩
 .simp at hlt
 .have hin:0<=n/\n<(ts.length:Int):=⟨h0,O⟩
  refine⟨.pointer (some ⟨bl,off+n.toNat*sz,none⟩),?_,?_⟩
  .simp[execOp,ho,hv,hy.1,Instr.indexAt,asIntOf,er hu,sizeOf,typeInfo,hie,hies,hin,lO]
  .have:=hel n.toNat t ht;refine⟨bl,off+n.toNat*sz,cs,T',fz,rfl,hb,hh,?_⟩;rw[this.1];exact this.2
def ab{ag:Bool}{n:Nat}{cells:List aC}(h:mF P T=some (ag,n))(hpos:0<n)(hn:n<=cells.length)(h1:ag=true\/n=1) :
  ao P (.load T x) ty [.one (.aw cells)] (mkS ag (cells.take n)):=by
 intro M w ρ o ho _ hr;have hx:(aC.aw cells).rep M w (ρ x):=WU (x:=x) hr;obtain⟨b,off,cs,T',fz,hv,hb,hh,hrep⟩:=hx;have hl:=hrep.length;simp only[bh,dF,cK]at hl;obtain⟨v,hrun,hval⟩:=ff (P:=P) (w:=w) h hh (off:=off) (n:=n) O h1;refine⟨v,by simp[execOp,ho,hv,Instr.loadAt,Instr.sureAddr,hrun],?_⟩;have h2:=hrep.take n;rw[jh,de hn]at h2;cases ag with
 | true=>
   simp only[bg]at hval;exact⟨_,hval,h2⟩
 | false=>
   simp only[eN,ck]at hval;rw[hval]at h2;have hl2:=h2.length;simp only[mkS,eN,ck]
   match hc:cells.take n,h2 with
   | [c],h2=>exact h2.1
   | [],h2=>simp[hc]at hl2
   | _::_::_,h2=>simp[hc]at hl2
def ru{M:c6}{w:World}{sz:Nat}{ts:List (List aC)}{ad:j9}{cap l h m:Nat}(hs:(aC.slice sz ts).rep M w (.slice ad ts.length cap))(hlh:l<=h)(hh:h<=ts.length)(hm:h<=m)(hmc:m<=cap:=by omega) :
  (aC.slice sz ((ts.take h).drop l)).rep M w (.slice (if m=l then ad else ad.map (·.add (l*sz))) (h-l) (m-l)):=by
 obtain⟨ad',cap',he,hc,hcm,hel⟩:=hs;simp only[jB,mQ]at he;obtain⟨rfl,rfl⟩:=he;have hlen:((ts.take h).drop l).length=h-l:=b6
 refine⟨_,m-l,by rw[hlen],by rw[hlen];omega,O,?_⟩;by_cases hz:h=l
 .left;exact ep O
 .rcases hel with rfl | ⟨b,off,cs,T,fz,rfl,hb,hh2,hel⟩
  .simp at hh;omega
  .refine .inr ⟨b,off+l*sz,cs,T,fz,?_,hb,hh2,fun i t ht=>?_⟩
   .rw[aG O];simp[lO]
   .rw[fG,eh]at ht;split at ht
    .have:=hel (l+i) t ht;rw[bt]at this;rw[lf];exact this
    .cases ht
def zE{E sz b:Nat}{k:IntKind}{n:Int}{ts:List (List aC)}(h:dZ P T=some (E,sz,b))(h0:0<=n)(hn:n.toNat<=ts.length) :
  ao P (.slice T x none (some y) none) ty [.one (.slice sz ts),.one (.int k n)] (.one (.slice sz (ts.take n.toNat))):=by
 intro M w ρ o ho _ hr;have hx:(aC.slice sz ts).rep M w (ρ x):=hr.1;have hy:ρ y=.int k n/\_:=hr.2.1;have hx':=hx;obtain⟨ad,cap,hv,hc,hm,_⟩:=hx;rw[hv]at hx';obtain⟨ie,hu,hie,hies,_⟩:=br h;have:=ru (l:=0) (h:=n.toNat) (m:=cap) hx' (dM _) hn O (ah _);rw[gd]at this;refine⟨_,?_,this⟩;have hin:0<=n/\n<=(cap:Int):=⟨h0,O⟩
 simp[execOp,ho,hv,hy.1,Instr.sliceAt,Instr.slice,Instr.sliceBounds,Instr.sliceBound,asIntOf,er hu,sizeOf,typeInfo,hie,hies,hin]
def Po{E sz b:Nat}{k:IntKind}{n:Int}{ts:List (List aC)}(h:dZ P T=some (E,sz,b))(h0:0<=n)(hn:n.toNat<=ts.length) :
  ao P (.slice T x (some y) none none) ty [.one (.slice sz ts),.one (.int k n)] (.one (.slice sz (ts.drop n.toNat))):=by
 intro M w ρ o ho _ hr;have hx:(aC.slice sz ts).rep M w (ρ x):=hr.1;have hy:ρ y=.int k n/\_:=hr.2.1;have hx':=hx;obtain⟨ad,cap,hv,hc,hm,_⟩:=hx;rw[hv]at hx';obtain⟨ie,hu,hie,hies,_⟩:=br h;have:=ru (l:=n.toNat) (h:=ts.length) (m:=cap) hx' hn (ah _) hc (ah _);rw[jC]at this;refine⟨_,?_,this⟩;have hin:0<=n/\n<=(ts.length:Int):=⟨h0,O⟩
 simp[execOp,ho,hv,hy.1,Instr.sliceAt,Instr.slice,Instr.sliceBounds,Instr.sliceBound,asIntOf,er hu,sizeOf,typeInfo,hie,hies,hin]
def FB{E sz b:Nat}{k k':IntKind}{n:Int}{z:j6}{ts:List (List aC)}(h:dZ P T=some (E,sz,b))(hn:n.toNat<=ts.length)(h0:0<=n:=by omega) :
  ao P (.slice T x none (some y) (some z)) ty [.one (.slice sz ts),.one (.int k n),.one (.int k' n)] (.one (.slice sz (ts.take n.toNat))):=by
 intro M w ρ o ho _ hr;have hx:(aC.slice sz ts).rep M w (ρ x):=hr.1;have hy:ρ y=.int k n/\_:=hr.2.1;have hz:ρ z=.int k' n/\_:=hr.2.2.1;have hx':=hx;obtain⟨ad,cap,hv,hc,hm,_⟩:=hx;rw[hv]at hx';obtain⟨ie,hu,hie,hies,_⟩:=br h;have:=ru (l:=0) (h:=n.toNat) (m:=n.toNat) hx' (dM _) hn (ah _);rw[gd]at this;refine⟨_,?_,this⟩;have hin:0<=n/\n<=(cap:Int):=⟨h0,O⟩
 have hin2:max n 0=n:=O
 simp[execOp,ho,hv,hy.1,hz.1,Instr.sliceAt,Instr.slice,Instr.sliceBounds,Instr.sliceBound,asIntOf,er hu,sizeOf,typeInfo,hie,hies,hin,hin2]
def aC5{s t:ByteArray}(h:((s.size+t.size:Nat):Int)<=9223372036854775807):ao P (.binOp .add T x y U) ty [.one (.str s),.one (.str t)] (.one (.str (s++t))):=by
 intro M w ρ o ho _ hr;obtain⟨hx,hy⟩:=tJ hr;have hx:ρ x=.string s/\_:=hx;have hy:ρ y=.string t/\_:=hy;refine⟨.string (s++t),?_,⟨rfl,rfl⟩⟩;have hmax:IntKind.i64.max=9223372036854775807:=by simp[IntKind.max,IntKind.signed,IntKind.bits]
 have hno:¬(9223372036854775807<((s.size:Int)+(t.size:Int))):=by
  have:((s.size+t.size:Nat):Int)=(s.size:Int)+(t.size:Int):=aT
  omega
 simp[execOp,ho,hx.1,hy.1,eqGuard,binOp,Op.stringOp,hmax,hno]
def au7{s t:ByteArray}:ao P (.binOp .eql T x y U) ty [.one (.str s),.one (.str t)] (.one (.bool (s.toList==t.toList))):=by
 intro M w ρ o ho _ hr;obtain⟨hx,hy⟩:=tJ hr;have hx:ρ x=.string s/\_:=hx;have hy:ρ y=.string t/\_:=hy;exact⟨.bool (s.toList==t.toList),by simp[execOp,ho,hx.1,hy.1,eqGuard,binOp,Op.stringOp],⟨rfl,rfl⟩⟩
def au5{s:ByteArray}{k:IntKind}{n:Int}{b:UInt8}(hu:P.underlying T=some .string)(h0:0<=n)(hb:s[n.toNat]?=some b):ao P (.index T x y) ty [.one (.str s),.one (.int k n)] (.one (.int .u8 b.toNat)):=by
 intro M w ρ o ho _ hr;obtain⟨hx,hy⟩:=tJ hr;have hx:ρ x=.string s/\_:=hx;have hy:ρ y=.int k n/\_:=hy;exact⟨.int .u8 b.toNat,by simp[execOp,ho,hx.1,hy.1,Instr.index,asIntOf,er hu,h0,hb],⟨rfl,rfl⟩⟩
def bf4{s:ByteArray}{k:IntKind}{n:Int}(hu:P.underlying T=some .string)(h0:0<=n)(hn:n<=s.size):ao P (.slice T x (some y) none none) ty [.one (.str s),.one (.int k n)] (.one (.str (s.extract n.toNat s.size))):=by
 intro M w ρ o ho _ hr;have hx:ρ x=.string s/\_:=hr.1;have hy:ρ y=.int k n/\_:=hr.2.1;exact⟨_,by simp[execOp,ho,hx.1,hy.1,Instr.sliceAt,Instr.slice,Instr.sliceBounds,Instr.sliceBound,asIntOf,er hu,h0,hn],⟨rfl,rfl⟩⟩
def aG6{s:ByteArray}{k k':IntKind}{n m:Int}{z:j6}(hu:P.underlying T=some .string)(h0:0<=n)(hn:n<=m)(hm:m<=s.size):ao P (.slice T x (some y) (some z) none) ty [.one (.str s),.one (.int k n),.one (.int k' m)] (.one (.str (s.extract n.toNat m.toNat))):=by
 intro M w ρ o ho _ hr;have hx:ρ x=.string s/\_:=hr.1;have hy:ρ y=.int k n/\_:=hr.2.1;have hz:ρ z=.int k' m/\_:=hr.2.2.1;have h1:0<=m:=O
 have h2:max m 0=m:=O
 have h3:¬m<n:=O
 exact⟨_,by simp[execOp,ho,hx.1,hy.1,hz.1,Instr.sliceAt,Instr.slice,Instr.sliceBounds,Instr.sliceBound,asIntOf,er hu,h0,h1,h2,h3,hm],⟨rfl,rfl⟩⟩
end
section
variable{P:j5}{post:Out->Prop}{bk:List (List aQ->Prop)}{τ:Env}{op:Op}{ty:Nat}{last:Bool}{k:Tr}
def vn{args:List SW}{sh:Option Nat}{t:aQ}(hp:ao P op ty (args.map (pw τ)) t)(hs:t.shape=some sh:=by rfl)(hk:vc P post k (τ++[t]) bk):vc P post (.need (.prim args sh) op ty last k) τ bk:=
 .inl ⟨[t],⟨t,rfl,hs,hp⟩,rfl,hk⟩
def aA{f:Nat}{args:List SW}{sh:List (Option Nat)}{ts:List aQ}(hd:aX P f (args.map (pw τ)) (.ret ts))(hs:ts.map aQ.shape=sh.map some:=by rfl)(hk:vc P post k (τ++ts) bk):vc P post (.need (.call f args sh) op ty last k) τ bk:=
 .inl ⟨ts,⟨hs,hd⟩,by have:=congrArg List.length hs;simpa[eV.ids]using this,hk⟩
def FL{c:C0}{f:FuncId}{caps:List aC}{args:List SW}{sh:List (Option Nat)}{ts:List aQ}(hc:c0 τ c=.gv f caps)(hd:aX P f (args.map (pw τ)++caps.map .one) (.ret ts))(hs:ts.map aQ.shape=sh.map some)(hk:vc P post k (τ++ts) bk):vc P post (.need (.callv c args sh) op ty last k) τ bk:=
 .inl ⟨ts,⟨f,caps,hc,hs,hd⟩,by have:=congrArg List.length hs;simpa[eV.ids]using this,hk⟩
def et{sz:Nat}{tss:List (List C0)}{us:List (List aC)}(hu:tss.map (fun t=>t.map (c0 τ))=us:=by rfl)(hk:vc P post k (τ++[.rows us]) bk):vc P post (.need (.lit sz tss) op ty last k) τ bk:=
 .inl ⟨_,by rw[<-hu];rfl,rfl,hk⟩
def tf{z:j0}{b:Nat}{l c:C0}{n m:Nat}{kl kc:IntKind}{us:List (List aC)}(h1:c0 τ l=.int kl n)(h2:c0 τ c=.int kc m)(hu:List.replicate n (z.map .exact)=us)(hnm:n<=m)(hb:b*m<=140737488355328)(hm:m<=maxLen)(hk:vc P post k (τ++[.rows us]) bk):vc P post (.need (.make z b l c) op ty last k) τ bk:=
 .inl ⟨_,⟨n,m,kl,kc,h1,h2,hnm,hb,hm,by rw[hu]⟩,rfl,hk⟩
def qc{sz b:Nat}{cid:Option Nat}{src:Option C0}{row:Option Nat}{ts us vs:List (List aC)}(h1:aT5 τ cid ts)(h2:aO3 τ sz src row us)(hv:ts++us=vs)(hb:vs.length*b<=140737488355328)(hm:vs.length<=maxLen)(hk:vc P post k (τ++[.rows vs]) bk):vc P post (.need (.app sz b cid src row) op ty last k) τ bk:=
 .inl ⟨[.rows vs],⟨ts,us,h1,h2,by rw[<-cF,hv];exact hb,by rw[<-cF,hv];exact hm,by rw[hv]⟩,rfl,hk⟩
def tC{cid:Nat}{i:C0}{ts:List (List aC)}{ik:IntKind}{n:Int}(h1:τ[cid]?=some (.rows ts))(h2:c0 τ i=.int ik n)(h0:0<=n)(hn:n<ts.length)(hk:vc P post k τ bk):vc P post (.need (.idx cid i) op ty last k) τ bk:=
 .inl ⟨[],⟨ts,ik,n,h1,h2,h0,hn,rfl⟩,rfl,by rw[cB];exact hk⟩
def vld{cid off sz:Nat}{ag:Bool}{i:C0}{ts:List (List aC)}{ik:IntKind}{n:Int}{cells:List aC}{t:aQ}(h1:τ[cid]?=some (.rows ts))(h2:c0 τ i=.int ik n)(h0:0<=n)(hn:ts[n.toNat]?=some cells)(hag:ag=true\/sz=1)(ht:mkS ag ((cells.drop off).take sz)=t)(hk:vc P post k (τ++[t]) bk):vc P post (.need (.ldrow cid i off sz ag) op ty last k) τ bk:=
 .inl ⟨_,⟨ts,ik,n,cells,h1,h2,h0,hn,hag,by rw[ht]⟩,rfl,hk⟩
def NM{cid sz off:Nat}{i:C0}{xs:List C0}{ts us:List (List aC)}{ik:IntKind}{n:Int}{cells:List aC}(h1:τ[cid]?=some (.rows ts))(h2:c0 τ i=.int ik n)(h0:0<=n)(hn:ts[n.toNat]?=some cells)
  (hu:ts.set n.toNat (cells.take off++xs.map (c0 τ)++cells.drop (off+xs.length))=us) (hk:vc P post k (τ++[.rows us]) bk):vc P post (.need (.strow cid sz i off xs) op ty last k) τ bk:=
 .inl ⟨_,⟨ts,ik,n,cells,h1,h2,h0,hn,by rw[hu]⟩,rfl,hk⟩
def Wt{cid n:Nat}{ts:List (List aC)}(h1:τ[cid]?=some (.rows ts))(hn:ts.length=n)(hk:vc P post k (τ++[.one (.int .i64 n)]) bk):vc P post (.need (.lenrow cid) op ty last k) τ bk:=
 .inl ⟨_,⟨ts,h1,by rw[hn]⟩,rfl,hk⟩
def vs{c:C0}{kt kf:Tr}(p:Prop)[Decidable p](hc:c0 τ c=.bool (decide p))(ht:p->vc P post kt τ bk)(hf:¬p->vc P post kf τ bk):vc P post (.split c kt kf) τ bk:=
 ⟨decide p,hc,fun h=>ht (wU h),fun h=>hf (of_decide_eq_false h)⟩
def l4{c:C0}{kt kf:Tr}{p:Prop}[Decidable p](ht:p->vc P post kt τ bk)(hf:¬p->vc P post kf τ bk)(hc:c0 τ c=.bool (decide p):=by rfl):vc P post (.split c kt kf) τ bk:=vs p hc ht hf
def nI{c:C0}{kt kf:Tr}(β:Bool)(hc:c0 τ c=.bool β)(ht:β=true->vc P post kt τ bk)(hf:β=false->vc P post kf τ bk):vc P post (.split c kt kf) τ bk:=
 ⟨β,hc,ht,hf⟩
def aR{vs:List SW}{rs:List aQ}(h:vs.map (pw τ)=rs:=by rfl):vc P (fun o=>bD o (.ret rs)) (.ret vs) τ bk:=by
 show ai _ _;rw[h];exact ai.refl _
def gj{vs:List SW}{rs:List aQ}(h:ai (vs.map (pw τ)) rs):vc P (fun o=>bD o (.ret rs)) (.ret vs) τ bk:=h
def aE2{f:Nat}{args:List SW}{sh:List (Option Nat)}{as ts:List aQ}(ha:ai (args.map (pw τ)) as)(hd:aX P f as (.ret ts))(hs:ts.map aQ.shape=sh.map some)(hk:vc P post k (τ++ts) bk):vc P post (.need (.call f args sh) op ty last k) τ bk:=
 .inl ⟨ts,⟨hs,hd.sub ha⟩,by have:=congrArg List.length hs;simpa[eV.ids]using this,hk⟩
def bZ{d:Nat}{inits:List LV}(G:Type)(xY:G->List aQ)(μ:G->Nat)(g0:G)(h0:ai (inits.map (OC τ)) (xY g0))(hl:∀g,(xY g).length=inits.length)
  (h:∀g,vc P post k (τ++xY g) (bk.take d++[fun ts=>∃g',ai ts (xY g')/\μ g'<μ g])):vc P post (.loop d inits k) τ bk:=⟨G,xY,μ,g0,h0,hl,h⟩
def aq{d:Nat}{au:List LV}{f:List aQ->Prop}(hb:bk[d]?=some f)(h:f (au.map (OC τ))):vc P post (.back d au) τ bk:=⟨f,hb,h⟩
end
open Go.RowKit (Below)
def kI(P:j5)(f:FuncId)(E sz:Nat)(pre post:List aQ)(ts:List (List aC))(rs:List aQ)(ts':List (List aC)):Prop:=
 (∀as w,(callFunc f as).run P w=.ok (.enter f as) w)/\ts'.length=ts.length/\(∀t∈ts',t.length=sz) /\
 ∀(M:c6)(w:World)(g off cap:Nat)(cur:iS)(vs1 vs2:j0),bf M w->M g->w.heap[g]?=some (.cells cur E (0,0)) ->
  off+ts.length*sz<=cur.size->ts.length<=cap->cap<=maxLen->an M w ts.flatten ((cur.toList.drop off).take (ts.length*sz))->cC M w pre vs1->cC M w post vs2 ->
  Calls P f (vs1++.slice (some ⟨g,off,none⟩) ts.length cap::vs2).toArray w fun e w'=>∃cur' us,w.grownBy w' (some g)/\w'.heap[g]?=some (.cells cur' E (0,0))/\cur'.size=cur.size /\
   (∀j,(j<off\/off+ts.length*sz<=j)->cur'[j]?=cur[j]?)/\e=.returned (pack us)/\cC M w' rs us/\an M w' ts'.flatten ((cur'.toList.drop off).take (ts.length*sz))
section
variable{P:j5}{N:Nat}{M0:eu}{w0 w:World}{s:St}{τ:Env}{ρ:Nat->Gh}{a:Act}
def Fs{N:Nat}{M:c6}{gh:Gh}{g off len cap E sz:Nat}{cur:iS}{w w':World}{s:St}{τ:Env}{bk:List (List aQ->Prop)}{ρ:Nat->Gh}{a:Act}{res:List ResultVar}{rs:List aQ}{ts':List (List aC)}(hval:gh.val=.slice (some ⟨g,off,none⟩) len cap)(hcur:gh.cur=cur)
  (hv:vc P (fun o=>o=.retr rs ts') (match(Bc P s res).run s with
   | some (vs,l)=>br4 s E sz vs l
   | none=>.fail 1008) τ bk) (hs:Sat (eu.mk (fun k=>M k/\k≠g) gh) w N s τ ρ a w') :
  ∃us cur',(res.mapM (iA a.tmps)).run P w'=.ok us w'/\cC M w' rs us/\w.grownBy w' (some g)/\w'.heap[g]?=some (.cells cur' E (0,0))/\cur'.size=cur.size/\(∀j,(j<off\/off+len*sz<=j)->cur'[j]?=cur[j]?)/\an M w' ts'.flatten ((cur'.toList.drop off).take (len*sz))/\ρ 0=gh:=by
 have hO:∀k,(eu.mk (fun k=>M k/\k≠g) gh).O k↔k=g:=by
  intro k;simp[eu.O,hval,Value.ownBlock,pH]
 split at hv
 .rename_i vs' l hq;unfold br4 at hv;split at hv
  .rename_i E' sz' cid hb0;split at hv
   .rename_i hc;obtain⟨rfl,rfl,hs0,hl0⟩:=hc;obtain⟨ts2,hcid,hpo⟩:=hv;have hpo:Out.retr _ ts2=Out.retr rs ts':=hpo;simp only[Out.retr.injEq]at hpo;obtain⟨hrs,rfl⟩:=hpo;have hgh0:=hs.pt 0 E' sz' cid hb0;have hown0:own ρ 0 (.part E' sz' cid)=some g:=by simp only[own,hgh0,hval];rfl
    have hS:cy (eu.mk (fun k=>M k/\k≠g) gh) ρ s l M:=by
     refine⟨fun k hk=>?_,fun b x k h1 h2 h3 hk=>?_⟩
     .by_cases hkg:k=g
      .subst hkg;exact .inr ⟨0,_,hb0,hs0,hown0⟩
      .exact .inl ⟨hk,hkg⟩
     .by_cases hkg:k=g
      .subst hkg;have:=hs.inj b 0 x _ k h1 hb0 h2 hown0;subst this;rcases h3 with h3 | h3
       .rw[hs0]at h3;cases h3
       .have:l.contains 0=true:=by simpa using h3
        rw[hl0]at this;cases this
      .exact hs.old k ⟨hk,hkg⟩ (hs.lo b x k h1 h2).1
    obtain⟨us,hr,hrepr⟩:=pv hs hq hS;obtain⟨ts3,xs,hcid3,⟨hxl,hown⟩,hlen3,hrep3,_,hfr⟩:=hs.bx 0 _ hb0;rw[hcid]at hcid3;simp only[aZ,aQ.rows.injEq]at hcid3;subst hcid3;rw[hgh0]at hown hfr;rcases hown with⟨_,c,hv⟩ | ⟨g2,off2,cap2,cur2,hv,hg2,hnc,hcm,hfit2,htake⟩
    .rw[hval]at hv;simp at hv
    .rw[hval]at hv;simp only[jB,aZ,gm,cu]at hv;obtain⟨⟨rfl,rfl⟩,hll,rfl⟩:=hv;obtain⟨hf1,hf2⟩:=hfr g off len cap hval cur2 hg2;rw[hcur]at hf1 hf2;have hb:=hs.below;refine⟨us,cur2,hr,by rw[<-hrs];exact hrepr,⟨hb.os,hb.tape,hb.output,hb.size,fun k hk hne=>hb.block k hk fun ho=>hne (by rw[(hO k).1 ho])⟩,hg2,hf1,hf2,?_,hgh0⟩;rw[hll,htake];exact hrep3.mono hS.dJ
   .exact hv.elim
  .exact hv.elim
 .exact hv.elim
def mi{f:FuncId}{fn:Func}{hints:Nat->Option Hint}{a1 a2:List Arg}{i1 i2:List In}{E sz:Nat}{ts ts':List (List aC)}{rs:List aQ}(hm:P.follows .mixedOrders=true)(hok:rZ P f=true)
  (hf:P.funcs[f]?=some fn) (hin1:az In.Is a1 i1) (hin2:az In.Is a2 i2) (hlo:ZL 0 (a1++.lent E sz::a2)=some (a1.length,E,sz)) (hl:ts'.length=ts.length) (hts:∀t∈ts,t.length=sz) (hts':∀t∈ts',t.length=sz)
  (h:vc P (fun o=>o=.retr rs ts') (vA P fn hints (a1++.lent E sz::a2)) (i1.map In.env++.rows ts::i2.map In.env) []):kI P f E sz (i1.map In.ty) (i2.map In.ty) ts rs ts':=by
 refine⟨ay hok,hl,hts',fun M w g off cap cur vs1 vs2 hM hMg hg hfit hcap hmax hrep hv1 hv2=>?_⟩;unfold vA at h;rw[hlo]at h;split at h
 .rename_i c i E0 sz0 hb heq;simp only[aZ,cX]at heq;obtain⟨rfl,rfl,rfl⟩:=heq;split at h
  .rename_i hlen;refine kH hf hb ?_;have hl1:a1.length=i1.length:=hin1.length;have hl2:a2.length=i2.length:=hin2.length;have hv1l:vs1.length=i1.length:=by rw[<-hv1.length];simp
   have hv2l:vs2.length=i2.length:=by rw[<-hv2.length];simp
   generalize hgh:(⟨0,.slice (some ⟨g,off,none⟩) ts.length cap,cur⟩:Gh)=gh
   have hO:∀k,(eu.mk (fun k=>M k/\k≠g) gh).O k↔k=g:=by
    intro k;subst hgh;simp[eu.O,Value.ownBlock,pH]
   have hMs0:∀k,Ms (eu.mk (fun k=>M k/\k≠g) gh) (fun _=>gh) ⟨(a1++.lent E sz::a2).mapIdx fun i a=>(i,lF i a),[(0,.part E sz a1.length)],[]⟩ k↔M k:=by
    intro k
    constructor
    .rintro(hk | ⟨b,x,h1,_,h3⟩)
     .exact hk.1
     .simp only[St.b,look]at h1;split at h1
      .simp only[aZ]at h1;subst h1 hgh;simp only[own,Value.ownBlock,aZ]at h3;subst h3;exact hMg
      .cases h1
    .intro hk;by_cases hkg:k=g
     .subst hkg;exact .inr ⟨0,.part E sz a1.length,by simp[St.b,look],by simp[St.s],by subst hgh;simp[own,Value.ownBlock]⟩
     .exact .inl ⟨hk,hkg⟩
   have hMs:Ms (eu.mk (fun k=>M k/\k≠g) gh) (fun _=>gh) ⟨(a1++.lent E sz::a2).mapIdx fun i a=>(i,lF i a),[(0,.part E sz a1.length)],[]⟩=M:=funext fun k=>propext (hMs0 k);have hglt:g<w.heap.size:=(cJ.1 hg).1;refine xe (M0:=eu.mk (fun k=>M k/\k≠g) gh) (w0:=w) hm c 0 0 1 (a1++.lent E sz::a2).length _ [] _ _ [] h b6 (by intro x hx;cases hx) (ah _) (fun _=>gh) _ w _ ?_ ?_ yA.noR ?_
   .refine⟨⟨rfl,rfl,rfl,ah _,fun _ _ _=>rfl,fun x hx=>⟨fun hm=>(hM.2 x hx).1 hm.1,fun ho=>(hM.2 x hx).1 (by rw[(hO _).1 ho];exact hMg),(hM.2 x hx).2⟩⟩,?_,rfl,fun t=>?_,?_,?_,?_,?_,?_⟩
    .simp at hlen|-;omega
    .rw[hMs,aT0];cases hat:(a1++.lent E sz::a2)[t]? with
     | none=>trivial
     | some x=>
       have htl:t<(a1++.lent E sz::a2).length:=(cL.1 hat).1;simp only[cF,bB]at htl
       have hval:((vs1++.slice (some ⟨g,off,none⟩) ts.length cap::vs2).toArray++Array.replicate (fn.ntmps-(vs1++.slice (some ⟨g,off,none⟩) ts.length cap::vs2).toArray.size) undef).getD t undef=(vs1++.slice (some ⟨g,off,none⟩) ts.length cap::vs2).getD t undef:=by
        rw[jq,RU b6,fI];simp
       rw[hval,fI];simp only[cZ,gH];by_cases h1:t<a1.length
       .rw[ek h1]at hat;rw[ek O];obtain⟨y,hy,hix⟩:=hin1.get t x hat;have hvt:vs1[t]?=some (vs1[t]' O):=bM O;obtain⟨ty,hty,hrep1⟩:=hv1.get t _ hvt;rw[dR,hy]at hty;simp only[cZ,aZ]at hty;subst hty;rw[hvt];exact uA (by rw[ek b6,dR,hy];rfl) hix hrep1
       .rw[fi O]at hat|-;by_cases h2:t=a1.length
        .subst h2;rw[fE]at hat;simp only[nJ,aZ]at hat;subst hat;rw[hv1l,<-hl1,fE];simp only[nJ,gH];refine⟨by simp[St.b,look],by subst hgh;rfl,rfl⟩
        .have e1:t-a1.length=(t-a1.length-1)+1:=O
         have e2:t-vs1.length=(t-a1.length-1)+1:=O
         rw[e1,uZ]at hat;rw[e2,uZ];obtain⟨y,hy,hix⟩:=hin2.get _ x hat;have hvt:vs2[t-a1.length-1]?=some (vs2[t-a1.length-1]' O):=bM O;obtain⟨ty,hty,hrep1⟩:=hv2.get _ _ hvt;rw[dR,hy]at hty;simp only[cZ,aZ]at hty;subst hty;rw[hvt];exact uA (by rw[fi b6,aL,<-hl1,e1,uZ,dR,hy];rfl) hix hrep1
    .intro b x hbx;rw[hMs];simp only[St.b,look]at hbx;split at hbx
     .simp only[aZ]at hbx;subst hbx;refine⟨ts,_,?_,⟨?_,.inr ⟨g,off,cap,cur,?_,hg,hcap,hmax,hfit,rfl⟩⟩,hts,hrep,?_,?_⟩
      .rw[fi b6,aL,hl1,fE];rfl
      .rw[bh,dF,cK (xs:=cur)];exact de O
      .subst hgh;rfl
      .subst hgh;rfl
      .intro g2 off2 len2 cap2 hv cur2 hg2;subst hgh;simp only[jB,aZ,gm,cu]at hv;obtain⟨⟨rfl,rfl⟩,rfl,rfl⟩:=hv;rw[hg]at hg2;simp only[aZ,jj,cu]at hg2;subst hg2;exact⟨rfl,fun _ _=>rfl⟩
     .cases hbx
    .intro b b' x x' k h1 h2 _ _;simp only[St.b,look]at h1 h2;split at h1
     .split at h2
      .rename_i e1 e2;rw[<-e1,<-e2]
      .cases h2
     .cases h1
    .intro b x k h1 h2;simp only[St.b,look]at h1;split at h1
     .simp only[aZ]at h1;subst h1;have:k=g:=by subst hgh;simp only[own,Value.ownBlock,aZ]at h2;exact h2.symm
      subst this;exact⟨.inr ((hO k).2 rfl),hglt⟩
     .cases h1
    .rintro k ⟨hk,hne⟩ (ho | ho)
     .exact nX.2 ho (hM.1 k hk)
     .exact hne ((hO k).1 ho)
    .intro b E' sz' cid hbx;rfl
   .intro c v a w' hp;cases hp
   .intro ex nb s dec m bk' ρ a w' _ _ hv _ hs;cases ex with
    | exit id=>exact hv.elim
    | normal | ret=>
      obtain⟨us,cur',hr,h1,h2,h3,h4,h5,h6,_⟩:=Fs (gh:=gh) (g:=g) (off:=off) (len:=ts.length) (cap:=cap) (E:=E) (sz:=sz) (res:=fn.results.toList) (by subst hgh;rfl) (by subst hgh;rfl) hv hs;exact⟨hs.df,_,gN fn a.tmps us hr,cur',us,h2,h3,h4,h5,rfl,h1,h6⟩
  .exact h.elim
 .exact h.elim
end
section
variable{P:j5}{post:Out->Prop}{bk:List (List aQ->Prop)}{τ:Env}{op:Op}{ty:Nat}{last:Bool}{k:Tr}
def WE{c:Call}{f:FuncId}{E sz:Nat}{pre po:List aQ}{ts ts':List (List aC)}{rs:List aQ}(hc:c.callee=.value (.func f))(h:kI P f E sz pre po ts rs ts'):VS P (.call c) ty E sz pre po ts rs ts':=by
 refine⟨h.2.1,h.2.2.1,?_⟩;intro M w a o c' K Q g off cap cur vs1 vs2 ho ht hc' hargs hM hMg hg hfit hcap hmax hrep h1 h2 hk;cases hc';unfold Oper.wp;rw[tl (cvs:=[]) ho hc rfl h.1,wN,cB,hargs];refine(h.2.2.2 M w g off cap cur vs1 vs2 hM hMg hg hfit hcap hmax hrep h1 h2).mono ?_;rintro e w' ⟨cur',us,hgr,hg',hs,hout,rfl,hr,hr'⟩;exact hk w' cur' us hgr hg' hs hout hr hr'
def aE3{x y:j6}{T U E sz2 b2:Nat}{src ts:List (List aC)}(hT:dZ P T=some (E,1,b2))(hle:src.length<=ts.length)(hsrc:∀t∈src,t.length=1)(hts:∀t∈ts,t.length=1) :
  VS P (.call ⟨.builtin .copy,#[x,y],#[T,U]⟩) ty E 1 [] [.one (.slice 1 src)] ts [.one (.int .i64 src.length)] (src++ts.drop src.length):=by
 obtain⟨ie,hu,hie,hies,_⟩:=br hT;have hsz:(P.info? E).map (·.size)=some 1:=by rw[hie];simp[hies]
 refine⟨b6,fun t ht=>?_,?_⟩
 .rcases dx.1 ht with ht | ht
  .exact hsrc t ht
  .exact hts t (pF ht)
 .intro M w a o c' K Q g off cap cur vs1 vs2 ho ht hc' hargs hM hMg hg hfit hcap hmax hrep h1 h2 hk;cases hc';cases vs1 with
  | cons v vs=>exact h1.elim
  | nil=>
    have hx:a.eval x=.slice (some ⟨g,off,none⟩) ts.length cap:=by simpa using congrArg List.head? hargs
    have hy:vs2=[a.eval y]:=by
     have:=congrArg List.tail hargs
     simpa using this.symm
    subst hy;have hS:=rE h2.1;rw[eG]at hfit hrep hk;cases hS with
    | nil c hv hus=>
      subst hus;have hrun:=run_copy_none (P:=P) w T U o.type E (some ⟨g,off,none⟩) none ts.length cap 0 c hu hsz aT
      have hwp:o.wp P a w K Q=K (a.put o.dst (goInt 0)) w:=by
       unfold Oper.wp;simp[execOp,ho,resolve,invoke,builtin,hx,hv,hrun,Result.andThen,Oper.upon]
      rw[hwp];exact hk w cur [.int .i64 0] ⟨rfl,rfl,rfl,ah _,fun _ _ _=>rfl⟩ hg rfl (fun _ _=>rfl) ⟨⟨rfl,rfl⟩,trivial⟩ (by simpa using hrep)
    | some ad c news hv hl hn hr hs=>
      rw[eG]at hl;have hrun:=run_copy_row (P:=P) w T U o.type E g off ts.length cap ad src.length c cur E news hu hsz hg (by rw[hl];exact(de hle).symm) hn O hr.one
      have hwp:o.wp P a w K Q=K (a.put o.dst (goInt news.length)) (w.setRow g (cur.toList.take off++(news++cur.toList.drop (off+news.length))).toArray):=by
       unfold Oper.wp;simp[execOp,ho,resolve,invoke,builtin,hx,hv,hrun,Result.andThen,Oper.upon]
      rw[hwp];have hcl:cur.toList.length=cur.size:=cK;have hus:(ts.take src.length).length=src.length:=by rw[bh];omega
      have hsp:=vd (w:=w) (M:=M) (sz:=1) (ts:=ts) (us:=ts.take src.length) (us':=src) (n:=0) hts (by rw[hus,gd]) (by rw[hus];omega) (by rw[hus]) hs (by simpa using hrep) hr;rw[hus]at hsp;refine hk _ _ [.int .i64 news.length] ⟨rfl,rfl,rfl,aT,fun k _ hk=>ew w g k _ (by rintro rfl;exact hk rfl)⟩ (iV w _ _ _ _ _ hg) b6 ?_ ⟨⟨by rw[hl],rfl⟩,trivial⟩ ?_
      .intro j hj;rw[wQ,<-kU];simp only[pZ,eh,fG,bh]
       grind
      .have e1:(cur.toList.take off++(news++cur.toList.drop (off+news.length))).toArray.toList.drop off=news++cur.toList.drop (off+news.length):=by
        show List.drop off (cur.toList.take off++(news++cur.toList.drop (off+news.length)))=_;rw[sE (by rw[bh];omega),mY (by rw[bh];omega),List.nil_append]
       rw[e1]
       have e2:(news++cur.toList.drop (off+news.length)).take ts.length=List.take (0*1) ((cur.toList.drop off).take ts.length)++news++List.drop (0*1+src.length*1) ((cur.toList.drop off).take ts.length):=by
        apply gU;intro j;simp only[pZ,eh,fG,cF,bh,dF,hl]
        grind
       rw[e2];simp only[jI,List.nil_append,bW,eG,ns]at hsp|-;refine an.mono ?_ hsp;intro k ob hnk hob _;exact⟨hnk,by rw[ew w g k _ (by rintro rfl;exact hnk hMg)];exact hob⟩
def bw1{cid E sz n:Nat}{view:Option (C0×C0)}{as bs:List SW}{sh:List (Option Nat)}{ts us us' vs:List (List aC)}{rs:List aQ}(h1:τ[cid]?=some (.rows ts))(h2:aS1 τ view ts n us)(hne:us≠[])(hs:rs.map aQ.shape=sh.map some)
  (hr:VS P op ty E sz (as.map (pw τ)) (bs.map (pw τ)) us rs us') (hv:ts.take n++us'++ts.drop (n+us.length)=vs) (hk:vc P post k (τ++(rs++[.rows vs])) bk):vc P post (.need (.rop cid E sz view as bs sh) op ty last k) τ bk:=
 .inl ⟨rs++[.rows vs],⟨ts,us,us',rs,n,h1,h2,hne,hs,hr,by rw[hv]⟩,by have:=congrArg List.length hs;simpa[eV.ids]using this,hk⟩
def cu3{cid n m:Nat}{lo hi mx:C0}{ts:List (List aC)}{k1 k2 k3:IntKind}(h1:τ[cid]?=some (.rows ts))(h2:c0 τ lo=.int k1 n)(h3:c0 τ hi=.int k2 m)(h4:c0 τ mx=.int k3 m)(hnm:n<m)(hm:m<=ts.length)(hk:vc P post k τ bk):vc P post (.need (.view cid lo hi mx) op ty last k) τ bk:=
 .inl ⟨[],⟨ts,k1,k2,k3,n,m,h1,h2,h3,h4,hnm,hm,rfl⟩,rfl,by rw[cB];exact hk⟩
def kA{vs:List SW}{cid:Nat}{rs:List aQ}{ts:List (List aC)}(h1:τ[cid]?=some (.rows ts))(h:vs.map (pw τ)=rs):vc P (fun o=>o=.retr rs ts) (.retr vs cid) τ bk:=by
 refine⟨ts,h1,?_⟩;show Out.retr _ _=_;rw[h]
end
section
variable{P:j5}{T U ty:TypeId}{x y:j6}{a b:Int}
def gz{n:Int}(h1:-9223372036854775808<=n:=by omega)(h2:n<9223372036854775808:=by omega):IntKind.i64.wrap n=n:=by rw[IntKind.wrap_i64];omega
def Hl{n:Int}(h1:0<=n:=by omega)(h2:n<18446744073709551616:=by omega):IntKind.u64.wrap n=n:=by rw[sd];omega
def ac1{n:Int}(h1:0<=n)(h2:n<4294967296):IntKind.u32.wrap n=n:=by rw[IntKind.wrap_u32];omega
def co7{n:Int}(h1:0<=n)(h2:n<256):IntKind.u8.wrap n=n:=by rw[IntKind.wrap_u8];omega
def aB(h1:-9223372036854775808<=a+b)(h2:a+b<9223372036854775808):ao P (.binOp .add T x y U) ty [.one (.int .i64 a),.one (.int .i64 b)] (.one (.int .i64 (a+b))):=gF (gz h1 h2)
def aI(h1:-9223372036854775808<=a-b)(h2:a-b<9223372036854775808):ao P (.binOp .sub T x y U) ty [.one (.int .i64 a),.one (.int .i64 b)] (.one (.int .i64 (a-b))):=qJ (gz h1 h2)
def lD(h1:-9223372036854775808<=a*b:=by omega)(h2:a*b<9223372036854775808:=by omega):ao P (.binOp .mul T x y U) ty [.one (.int .i64 a),.one (.int .i64 b)] (.one (.int .i64 (a*b))):=wi (gz h1 h2)
def yp(h0:0<=a:=by omega)(h1:0<b:=by omega)(h2:a<9223372036854775808:=by omega):ao P (.binOp .quo T x y U) ty [.one (.int .i64 a),.one (.int .i64 b)] (.one (.int .i64 (a/b))):=rG O (by
 have h3:a/b<=a:=Int.ediv_le_self b h0;have h4:0<=a/b:=Rz h0 O;rw[qa h0,gz])
def wm{k:IntKind}(hu:∃d,P.underlying T=some d)(hd:P.underlying U=some (.int .i64))(h1:-9223372036854775808<=a:=by omega)(h2:a<9223372036854775808:=by omega):ao P (.convert T U x) ty [.one (.int k a)] (.one (.int .i64 a)):=kh hu hd (gz h1 h2)
def OM(h1:-9223372036854775808<=-a:=by omega)(h2:-a<9223372036854775808:=by omega):ao P (.unOp .neg T x) ty [.one (.int .i64 a)] (.one (.int .i64 (-a))):=bx6 (by rw[Int.zero_sub];exact gz h1 h2)
def aw3(h1:0<=a+b:=by omega)(h2:a+b<18446744073709551616:=by omega):ao P (.binOp .add T x y U) ty [.one (.int .u64 a),.one (.int .u64 b)] (.one (.int .u64 (a+b))):=gF (Hl h1 h2)
def aB6(h1:0<=a-b:=by omega)(h2:a-b<18446744073709551616:=by omega):ao P (.binOp .sub T x y U) ty [.one (.int .u64 a),.one (.int .u64 b)] (.one (.int .u64 (a-b))):=qJ (Hl h1 h2)
def aA1(h1:0<=a*b:=by omega)(h2:a*b<18446744073709551616:=by omega):ao P (.binOp .mul T x y U) ty [.one (.int .u64 a),.one (.int .u64 b)] (.one (.int .u64 (a*b))):=wi (Hl h1 h2)
def OE(h0:0<=a:=by omega)(h1:0<b:=by omega)(h2:a<18446744073709551616:=by omega):ao P (.binOp .quo T x y U) ty [.one (.int .u64 a),.one (.int .u64 b)] (.one (.int .u64 (a/b))):=rG O (by
 have h3:a/b<=a:=Int.ediv_le_self b h0;have h4:0<=a/b:=Rz h0 O;rw[qa h0,Hl])
def tU{k:IntKind}(hu:∃d,P.underlying T=some d)(hd:P.underlying U=some (.int .u64))(h1:0<=a:=by omega)(h2:a<18446744073709551616:=by omega):ao P (.convert T U x) ty [.one (.int k a)] (.one (.int .u64 a)):=kh hu hd (Hl h1 h2)
def oK(h1:0<=a+b:=by omega)(h2:a+b<4294967296:=by omega):ao P (.binOp .add T x y U) ty [.one (.int .u32 a),.one (.int .u32 b)] (.one (.int .u32 (a+b))):=gF (ac1 h1 h2)
def oO(h1:0<=a-b:=by omega)(h2:a-b<4294967296:=by omega):ao P (.binOp .sub T x y U) ty [.one (.int .u32 a),.one (.int .u32 b)] (.one (.int .u32 (a-b))):=qJ (ac1 h1 h2)
def qh{k:IntKind}(hu:∃d,P.underlying T=some d)(hd:P.underlying U=some (.int .u32))(h1:0<=a:=by omega)(h2:a<4294967296:=by omega):ao P (.convert T U x) ty [.one (.int k a)] (.one (.int .u32 a)):=kh hu hd (ac1 h1 h2)
def WN(h1:0<=a+b:=by omega)(h2:a+b<256:=by omega):ao P (.binOp .add T x y U) ty [.one (.int .u8 a),.one (.int .u8 b)] (.one (.int .u8 (a+b))):=gF (co7 h1 h2)
variable{k:IntKind}
def nz(h0:0<=a:=by omega)(h1:0<b:=by omega):ao P (.binOp .rem T x y U) ty [.one (.int k a),.one (.int k b)] (.one (.int k (a%b))):=Ff O (sa h0)
def cW:ao P (.binOp .eql T x y U) ty [.one (.int k a),.one (.int k b)] (.one (.bool (decide (a=b)))):=aW2
def iC:ao P (.binOp .neq T x y U) ty [.one (.int k a),.one (.int k b)] (.one (.bool (decide (a≠b)))):=by
 have:decide (a≠b) = !decide (a=b):=by by_cases h:a=b<;>simp[h]
 rw[this];exact WR
def bO:ao P (.binOp .lss T x y U) ty [.one (.int k a),.one (.int k b)] (.one (.bool (decide (a<b)))):=vD
def nR:ao P (.binOp .leq T x y U) ty [.one (.int k a),.one (.int k b)] (.one (.bool (decide (a<=b)))):=ch0
def jD:ao P (.binOp .gtr T x y U) ty [.one (.int k a),.one (.int k b)] (.one (.bool (decide (b<a)))):=Wa
def kz:ao P (.binOp .geq T x y U) ty [.one (.int k a),.one (.int k b)] (.one (.bool (decide (b<=a)))):=HE
def zo{p:Prop}[Decidable p]:ao P (.unOp .not T x) ty [.one (.bool (decide p))] (.one (.bool (decide (¬p)))):=by
 have:decide (¬p) = !decide p:=by by_cases h:p<;>simp[h]
 rw[this];exact fk
def cF7{s t:ByteArray}:(s.toList==t.toList)=decide (s.data=t.data):=by
 rw[ByteArray.toList_eq,ByteArray.toList_eq];by_cases h:s.data=t.data
 .simp[h]
 .have:¬s.data.toList=t.data.toList:=fun e=>h (Array.toList_inj.1 e);simp[h]
def zV{s t:ByteArray}:ao P (.binOp .eql T x y U) ty [.one (.str s),.one (.str t)] (.one (.bool (decide (s.data=t.data)))):=by
 rw[<-cF7];exact au7
def bO1{p q:Bool}(hu:P.underlying T=some .bool):ao P (.binOp .eql T x y U) ty [.one (.bool p),.one (.bool q)] (.one (.bool (decide (p=q)))):=by
 intro M w ρ o ho _ hr;obtain⟨hx,hy⟩:=tJ hr;have hx:ρ x=.bool p/\_:=hx;have hy:ρ y=.bool q/\_:=hy;exact⟨.bool (decide (p=q)),by cases p<;>cases q<;>simp[execOp,ho,hx.1,hy.1,eqGuard,binOp,Op.equal,Op.maxDepth,run_equalIn_bool _ _ _ _ _ hu],⟨rfl,rfl⟩⟩
def bL4{p q:Bool}(hu:P.underlying T=some .bool):ao P (.binOp .neq T x y U) ty [.one (.bool p),.one (.bool q)] (.one (.bool (decide (p≠q)))):=by
 intro M w ρ o ho _ hr;obtain⟨hx,hy⟩:=tJ hr;have hx:ρ x=.bool p/\_:=hx;have hy:ρ y=.bool q/\_:=hy;exact⟨.bool (decide (p≠q)),by cases p<;>cases q<;>simp[execOp,ho,hx.1,hy.1,eqGuard,binOp,Op.equal,Op.maxDepth,run_equalIn_bool _ _ _ _ _ hu],⟨rfl,rfl⟩⟩
def aN{E sz b m:Nat}{n:Int}{α:Type}{f:α->List aC}{xs:List α}{d:α}(h:dZ P T=some (E,sz,b))(h0:0<=n)(hm:n.toNat=m)(hd:xs[m]?=some d) :
  ao P (.indexAddr T x y) ty [.one (.slice sz (xs.map f)),.one (.int k n)] (.one (.aw (f d))):=ak1 h (by rw[hm,dR,hd];rfl) h0
def bB1{ts:Array TypeId}:ao P (.call ⟨.builtin .min,#[x,y],ts⟩) ty [.one (.int k a),.one (.int k b)] (.one (.int k (min a b))):=by
 intro M w ρ o ho ht hr;obtain⟨hx,hy⟩:=tJ (x:=x) (y:=y) hr;have hx:ρ x=.int k a/\_:=hx;have hy:ρ y=.int k b/\_:=hy;have e:(if b<a then b else a)=min a b:=O
 exact⟨.int k (min a b),by simp[execOp,ho,resolve,invoke,builtin,hx.1,hy.1,run_min_int2,e],⟨rfl,rfl⟩⟩
def ba8{ts:Array TypeId}:ao P (.call ⟨.builtin .max,#[x,y],ts⟩) ty [.one (.int k a),.one (.int k b)] (.one (.int k (max a b))):=by
 intro M w ρ o ho ht hr;obtain⟨hx,hy⟩:=tJ (x:=x) (y:=y) hr;have hx:ρ x=.int k a/\_:=hx;have hy:ρ y=.int k b/\_:=hy;have e:(if a<b then b else a)=max a b:=O
 exact⟨.int k (max a b),by simp[execOp,ho,resolve,invoke,builtin,hx.1,hy.1,run_max_int2,e],⟨rfl,rfl⟩⟩
def bq{c:aC}(h:mF P T=some (false,1)):ao P (.load T x) ty [.one (.aw [c])] (.one c):=ab (n:=1) h bY aT (.inr rfl)
end
section
variable{P:j5}{post:Out->Prop}{bk:List (List aQ->Prop)}{τ:Env}{op:Op}{ty:Nat}{last:Bool}{k:Tr}{α:Type}{f:α->List aC}
def bo{cid:Nat}{i:C0}{xs:List α}{ik:IntKind}{n:Int}(h1:τ[cid]?=some (.rows (xs.map f)))(h2:c0 τ i=.int ik n)(h0:0<=n)(hn:n<xs.length)(hk:vc P post k τ bk):vc P post (.need (.idx cid i) op ty last k) τ bk:=
 tC h1 h2 h0 (by rw[aL];exact hn) hk
def Nv{cid off sz m:Nat}{ag:Bool}{i:C0}{xs:List α}{d:α}{ik:IntKind}{n:Int}{t:aQ}(h1:τ[cid]?=some (.rows (xs.map f)))(h2:c0 τ i=.int ik n)(h0:0<=n)(hm:n.toNat=m)(hd:xs[m]?=some d)(hag:ag=true\/sz=1)(ht:mkS ag (((f d).drop off).take sz)=t)(hk:vc P post k (τ++[t]) bk):vc P post (.need (.ldrow cid i off sz ag) op ty last k) τ bk:=
 vld h1 h2 h0 (by rw[hm,dR,hd];rfl) hag ht hk
def nQ{cid off m:Nat}{i:C0}{xs:List α}{d:α}{c:aC}{ik:IntKind}{n:Int}(h1:τ[cid]?=some (.rows (xs.map f)))(h2:c0 τ i=.int ik n)(h0:0<=n)(hm:n.toNat=m)(hd:xs[m]?=some d)(hc:(f d)[off]?=some c)(hk:vc P post k (τ++[.one c]) bk):vc P post (.need (.ldrow cid i off 1 false) op ty last k) τ bk:=by
 refine Nv h1 h2 h0 hm hd (.inr rfl) ?_ hk;obtain⟨hlt,he⟩:=cL.1 hc;rw[jW hlt,he];rfl
def gL{cid sz off m:Nat}{i:C0}{cs:List C0}{xs:List α}{d d':α}{ik:IntKind}{n:Int}(h1:τ[cid]?=some (.rows (xs.map f)))(h2:c0 τ i=.int ik n)(h0:0<=n)(hm:n.toNat=m)(hd:xs[m]?=some d)
  (hu:(f d).take off++cs.map (c0 τ)++(f d).drop (off+cs.length)=f d') (hk:vc P post k (τ++[.rows ((xs.set m d').map f)]) bk):vc P post (.need (.strow cid sz i off cs) op ty last k) τ bk:=
 NM h1 h2 h0 (by rw[hm,dR,hd];rfl) (by rw[hm,hu,pR]) hk
def CN{z:j0}{b:Nat}{l c:C0}{n:Nat}{m:Int}{kl kc:IntKind}(a:α)(h1:c0 τ l=.int kl m)(h2:c0 τ c=.int kc m)(hmn:m=n)(hu:z.map .exact=f a)(hb:b*n<=140737488355328)(hm:n<=maxLen)(hk:vc P post k (τ++[.rows ((List.replicate n a).map f)]) bk):vc P post (.need (.make z b l c) op ty last k) τ bk:=
 tf (n:=n) (m:=n) (by rw[<-hmn];exact h1) (by rw[<-hmn];exact h2) (by rw[hu,qQ]) (ah _) hb hm hk
def kq{sz b:Nat}{cid:Option Nat}{src:Option C0}{row:Option Nat}{xs:List α}{x:α}(h1:aT5 τ cid (xs.map f))(h2:aO3 τ sz src row [f x])(hb:(xs.length+1)*b<=140737488355328)(hm:xs.length+1<=maxLen)(hk:vc P post k (τ++[.rows ((xs++[x]).map f)]) bk):vc P post (.need (.app sz b cid src row) op ty last k) τ bk:=
 qc (ts:=xs.map f) (us:=[f x]) h1 h2 (by rw[cG];rfl) (by rw[aL,cF];exact hb) (by rw[aL,cF];exact hm) hk
def aG4{cid E b2:Nat}{s:SW}{x y:j6}{T U:Nat}{xs zs ws:List α}(hf:∀a,(f a).length=1)(h1:τ[cid]?=some (.rows (zs.map f)))(h2:pw τ s=.one (.slice 1 (xs.map f)))(hT:dZ P T=some (E,1,b2))(hle:xs.length<=zs.length)(hne:zs≠[])(hw:xs++zs.drop xs.length=ws)
  (hk:vc P post k (τ++[.one (.int .i64 xs.length),.rows (ws.map f)]) bk):vc P post (.need (.rop cid E 1 none [] [s] [none]) (.call ⟨.builtin .copy,#[x,y],#[T,U]⟩) ty last k) τ bk:=by
 have hall:∀l:List α,∀t∈l.map f,t.length=1:=fun l t ht=>by
  obtain⟨a,_,rfl⟩:=dm.1 ht;exact hf a
 refine bw1 (n:=0) (us:=zs.map f) h1 ⟨rfl,rfl⟩ (by simpa using hne) rfl (by rw[List.map_singleton,h2];exact aE3 (sz2:=0) hT (by simpa using hle) (hall xs) (hall zs)) rfl ?_
 have e1:List.take 0 (zs.map f)++(xs.map f++(zs.map f).drop (xs.map f).length)++(zs.map f).drop (0+(zs.map f).length)=ws.map f:=by
  rw[jI,List.nil_append,bW,BQ,cB,aL,<-mX,<-cG,hw]
 rw[e1,aL];exact hk
end
abbrev W(i j:Nat):SW:=.one (.c (.u i j))
abbrev U(i j:Nat):SC:=.c (.u i j)
abbrev dV:Nat->Option Hint:=fun _=>none
abbrev WK(n:Int):SW:=.one (.c (.k (.int .i64 n)))
abbrev I3(n:Int):Value:=.int .i64 n
abbrev G1(i:Nat):SW:=.agg [U i 0]
abbrev G2(i:Nat):SW:=.agg [U i 0,U i 1]
abbrev G3(i:Nat):SW:=.agg [U i 0,U i 1,U i 2]
abbrev G4(i:Nat):SW:=.agg [U i 0,U i 1,U i 2,U i 3]
abbrev tE(v:Value):SC:=.c (.k v)
abbrev tN:SC:=.c (.k (.slice none 0 0))
abbrev tF(b:Bool):SW:=.one (.c (.k (.bool b)))
abbrev lV(i j:Nat):LV:=.w (W i j)
abbrev lK(z:Int):LV:=.w (WK z)
abbrev lN:LV:=.w (.one tN)
abbrev tT(n:Nat):Operand:=.tmp n
def uj(o:BinOp)(T t:Nat)(z:Int)(i j ty:Nat)(k:Tr):Tr:=.need (.prim [W i j,WK z] none) (.binOp o T (.tmp t) (.const (I3 z)) T) ty false k
def ss(o:BinOp)(T t u i j m n ty:Nat)(k:Tr):Tr:=.need (.prim [W i j,W m n] none) (.binOp o T (.tmp t) (.tmp u) T) ty false k
def gO(f:Nat)(as:List SW)(sh:List (Option Nat))(ts xY:c7)(ty:Nat)(l:Bool)(k:Tr):Tr:=.need (.call f as sh) (.call ⟨.value (.func f),(ts.map Operand.tmp).toArray,xY.toArray⟩) ty l k
def gW(i j m n T t u:Nat)(k:Tr):Tr:=.need (.prim [W i j,W m n] none) (.indexAddr T (.tmp t) (.tmp u)) 0 false k
def en(a:Nat)(b:Int)(c:Nat)(d:Tr):Tr:=.need (.prim [(W a 0),(WK b)] none) (.binOp .sub 3 (.tmp c) (.const (I3 b)) 3) 3 false d
def tW(a:Nat):Tr:=.ret [(.agg [(U a 0)])]
def bb7(a:Tr):Tr:=.need (.prim [(W 0 0),(W 2 0),(W 2 0)] none) (.slice 40 (tT 18) none (some (tT 19)) (some (tT 20))) 40 false a
def aY(a b:Nat)(c d:Tr):Tr:=.split (.u a b) c d
def aG1(a:Nat)(b:Int)(c:Nat)(d:Tr):Tr:=.need (.prim [(W a 0),(.one (.c (.k (.int .u32 b))))] none) (.binOp .eql 237 (.tmp c) (.const (.int .u32 b)) 237) 4 false d
def eZ(a b c:Nat)(d:Tr):Tr:=.need (.prim [(W a 0)] none) (.load b (.tmp c)) b false d
def Ed(a:Nat)(b:Tr):Tr:=.loop 0 [(.w (W a 0))] b
def bL(a b c d:Nat)(e:Tr):Tr:=.need (.prim [(W a b)] none) (.call ⟨.builtin .len,#[(.tmp c)],#[d]⟩) 3 false e
def sn(a:Int)(b c:Nat):Tr:=.back 0 [(.w (.one (.c (.k (.int .u32 a))))),(.w (W b 0)),.row c]
def cT(a:Nat)(b:Int)(c d:Nat)(e:Tr):Tr:=.need (.prim [(W a 0),(WK b)] none) (.binOp .add c (.tmp d) (.const (I3 b)) c) c false e
def gE(a b c d e g:Nat)(h:Tr):Tr:=.need (.strow a 1 (.u b 0) 0 [(.u c 0)]) (.store d (.tmp e) (.tmp g)) 0 false h
def ei(a b c d e:Nat)(g:Tr):Tr:=.need (.idx a (.u b 0)) (.indexAddr c (.tmp d) (.tmp e)) 0 false g
def ai7(a b:Nat)(c:Tr):Tr:=.need (.prim [(W a 0),(.one (.c (.k (.int .u32 1000000000))))] none) (.binOp .sub 237 (.tmp b) (.const (.int .u32 1000000000)) 237) 237 false c
def am0(a b:Nat)(c:Tr):Tr:=.need (.prim [(W a 0),(.one (.c (.k (.int .u32 1000000000))))] none) (.binOp .geq 237 (.tmp b) (.const (.int .u32 1000000000)) 237) 4 false c
def dw(a b c d e:Nat)(g:Tr):Tr:=.need (.prim [(W a 0),(W b 0)] none) (.binOp .add c (.tmp d) (.tmp e) c) c false g
def fN(a b c d e g h:Nat)(i:Tr):Tr:=.need (.prim [(W a b),(W c 0)] none) (.binOp .lss d (.tmp e) (.tmp g) d) h false i
def al2(a b:Nat)(c:Tr):Tr:=.need (.call 208 [(.one (.c (.sr 1 a)))] [(some 1)]) (.call ⟨.value (.func 208),#[(.tmp b)],#[40]⟩) 42 true c
def TN(a:Nat)(b:Tr):Tr:=.loop 0 [(.w (.one (.c (.k (.int .u32 0))))),(.w (WK 0)),.row a] b
def DP(a b:Nat)(c:Tr):Tr:=.need (.make [(.int .u32 0)] 4 (.u a 0) (.u a 0)) (.makeSlice 40 (.tmp b) (.tmp b)) 40 false c
def cd(a:Nat):Tr:=.ret [(W a 0)]
def ir(a b:Nat)(c:Int)(d e:Nat)(g:Tr):Tr:=.need (.prim [(W a b),(WK c)] none) (.binOp .eql d (.tmp e) (.const (I3 c)) d) 4 false g
def sk(a b c:Nat):Tr:=.back a [(.w (W b 0)),.row c]
def ap7(a b:Nat)(c:Tr):Tr:=.need (.prim [(W a 0),(.one (.c (.k (.int .u64 1000000000))))] none) (.binOp .quo 236 (.tmp b) (.const (.int .u64 1000000000)) 236) 236 false c
def oa(a b c d e g h:Nat)(i:Tr):Tr:=.need (.app a b (some c) none (some d)) (.call ⟨.builtin .append,#[(.tmp e),(.tmp g)],#[h,h]⟩) h false i
def Ak(a b c:Nat)(d:Tr):Tr:=.need (.lit 1 [[(.u a 0)]]) (.buildSlice b 1 #[(0,(.tmp c))]) b false d
def iI(a b c d:Nat)(e:Tr):Tr:=.need (.prim [(W a 0)] none) (.convert b c (.tmp d)) c false e
def at6(a b:Nat)(c:Tr):Tr:=.need (.prim [(W a 0),(.one (.c (.k (.int .u64 1000000000))))] none) (.binOp .rem 236 (.tmp b) (.const (.int .u64 1000000000)) 236) 236 false c
def ae3(a:Tr):Tr:=.loop 0 [lV 0 0,.nilrow] a
def nS(a b c d:Nat):Tr:=.ret [(.agg [(U a b),(U c d)])]
def jU(a b c:Nat)(d:Tr):Tr:=.need (.prim [(W a b)] none) (.unOp .not 4 (.tmp c)) 4 false d
def qe(a:Int):Tr:=.ret [(WK a)]
def EG(a b c d e:Nat)(g:Tr):Tr:=.need (.call a [(.agg [(U b c)])] [none]) (.call ⟨.value (.func a),#[(.tmp d)],#[42]⟩) e true g
def vY(a b c d:Nat):Tr:=.back a [(.w (W b 0)),(.w (W c 0)),.row d]
def ot(a b c d:Nat)(e:Tr):Tr:=.need (.ldrow a (.u b 0) 0 1 false) (.load c (.tmp d)) c false e
def Es(a b:Nat)(c:Tr):Tr:=.loop a [(.w (WK 0)),.row b] c
def mw(a b c d e:Nat)(g:Tr):Tr:=.need (.call a [(W b 0)] [none]) (.call ⟨.value (.func a),#[(.tmp c)],#[d]⟩) e true g
def lh(a b c:Nat):Tr:=.back a [(.w (W b 0)),(.w (W c 0))]
def lS(a:Nat)(b:Int)(c d:Nat)(e:Tr):Tr:=.need (.prim [(W a 0),(WK b)] none) (.binOp .neq c (.tmp d) (.const (I3 b)) c) 4 false e
def iK(a b c d e g h i j:Nat)(k:Tr):Tr:=.need (.call a [(W b c),(W d c)] [none]) (.call ⟨.value (.func a),#[(.tmp e),(.tmp g)],#[h,i]⟩) j true k
def oh(a:Nat)(b:Int)(c:Nat)(d:Tr):Tr:=.need (.prim [(W a 0),(WK b)] none) (.binOp .geq 3 (.tmp c) (.const (I3 b)) 3) 4 false d
def aN8(a b:Nat)(c:Tr):Tr:=.need (.prim [(W a 0),(.one (.c (.k (.int .u64 1000000000))))] none) (.binOp .mul 236 (.tmp b) (.const (.int .u64 1000000000)) 236) 236 false c
def qy(a b c d e g:Nat)(h:Tr):Tr:=.need (.call a [(W b 0)] [(some c)]) (.call ⟨.value (.func a),#[(.tmp d)],#[e]⟩) g true h
def ZC(a b:Nat)(c:Tr):Tr:=.need (.call 208 [(.one (.c (.sr 1 a)))] [(some 1)]) (.call ⟨.value (.func 208),#[(.tmp b)],#[40]⟩) 42 false c
def nE(a b:Nat)(c:Int)(d e:Nat)(g:Tr):Tr:=.need (.prim [(W a b),(WK c)] none) (.indexAddr d (.tmp e) (.const (I3 c))) 0 false g
def hx128Q:Tr:=.ret [(tF false)]
def iG(a b c d e g:Nat)(h:Tr):Tr:=.need (.prim [(W a 0),(W b c)] none) (.binOp .sub d (.tmp e) (.tmp g) d) d false h
def YV(a:Nat)(b:Int)(c:Nat)(d:Tr):Tr:=.need (.prim [(W a 0),(.one (.c (.k (.int .u32 b))))] none) (.binOp .add 237 (.tmp c) (.const (.int .u32 b)) 237) 237 false d
def OG(a b c:Nat)(d:Tr):Tr:=.need (.lenrow a) (.call ⟨.builtin .len,#[(.tmp b)],#[c]⟩) 3 false d
def aX1(a b c d:Nat)(e:Tr):Tr:=.need (.rop a 237 1 none [] [(W b 0)] [none]) (.call ⟨.builtin .copy,#[(.tmp c),(.tmp d)],#[40,40]⟩) 3 false e
def Ru(a:Nat)(b:Int)(c d:Nat):Tr:=.back 0 [(.w (W a 0)),(.w (WK b)),(.w (W c 0)),.row d]
def jy(a b:Nat)(c:Int)(d e:Nat)(g:Tr):Tr:=.need (.prim [(W a b),(WK c)] none) (.binOp .lss d (.tmp e) (.const (I3 c)) d) 4 false g
def EI(a b c:Nat):Tr:=.back 0 [(.w (W a 0)),.row b,.row c]
def Yk(a b c d:Nat)(e:Tr):Tr:=.need (.call 222 [(.agg [(U a 0)]),(.agg [(U b 0)])] [(some 1),(some 1)]) (.call ⟨.value (.func 222),#[(.tmp c),(.tmp d)],#[42,42]⟩) 249 false e
def qg(a b c d e g:Nat)(h:Tr):Tr:=.need (.call a [(.agg [(U b c)]),(.agg [(U d 0)])] [(some 1)]) (.call ⟨.value (.func a),#[(.tmp e),(.tmp g)],#[42,42]⟩) 42 true h
def al1(a b c d e:Nat)(g:Tr):Tr:=.need (.call 158 [(W a b),(.agg [(U c 0)])] [(some 2)]) (.call ⟨.value (.func 158),#[(.tmp d),(.tmp e)],#[4,42]⟩) 44 true g
def Zt(a b c:Nat)(d:Tr):Tr:=.need (.prim [(W a 0)] none) (.unOp .neg b (.tmp c)) b false d
def mD(a b c:Nat):Tr:=.ret [(.agg [(U a 0),(U a 1),(U b c)])]
def aX7(a:Tr):Tr:=.need (.call 206 [(.one (.c (.k (.int .u64 1))))] [(some 1)]) (.call ⟨.value (.func 206),#[(.const (.int .u64 1))],#[236]⟩) 42 false a
def aq1(a b c d e:Nat)(g:Tr):Tr:=.need (.call 158 [(W a b),(.agg [(U c 0)])] [(some 2)]) (.call ⟨.value (.func 158),#[(.tmp d),(.tmp e)],#[4,42]⟩) 44 false g
def OH(a b c d e:Nat)(g:Tr):Tr:=.need (.call a [(.agg [(U b 0),(U b 1)])] [none]) (.call ⟨.value (.func a),#[(.tmp c)],#[d]⟩) e true g
def xt(a b c d e g:Nat)(h:Tr):Tr:=.need (.call a [(.agg [(U b 0),(U b 1)]),(.agg [(U c 0),(U c 1)])] [(some 2)]) (.call ⟨.value (.func a),#[(.tmp d),(.tmp e)],#[g,g]⟩) g false h
def tc(a b c d e:Nat)(g:Tr):Tr:=.need (.call a [(.agg [(U b 0),(U b 1),(U b 2)])] [(some c)]) (.call ⟨.value (.func a),#[(.tmp d)],#[46]⟩) e false g
def kv(a b c d e g h i j:Nat)(k:Tr):Tr:=.need (.call a [(.agg [(U b 0),(U c d),(U e g)]),(.agg [(U h 0),(U h 1),(U h 2)])] [(some 3)]) (.call ⟨.value (.func a),#[(.tmp i),(.tmp j)],#[46,46]⟩) 46 true k
def CO(a b c d:Nat)(e:Tr):Tr:=.need (.call a [(.agg [(U b 0),(U b 1),(U b 2)])] [none]) (.call ⟨.value (.func a),#[(.tmp c)],#[46]⟩) d true e
def OF(a b c d e:Nat)(g:Tr):Tr:=.need (.call a [(W b 0)] [(some c)]) (.call ⟨.value (.func a),#[(.tmp d)],#[2]⟩) e false g
def OU(a b c d:Nat)(e:Tr):Tr:=.need (.call a [(.agg [(U b 0),(U b 1),(U b 2)])] [none]) (.call ⟨.value (.func a),#[(.tmp c)],#[46]⟩) d false e
def hx221Q:Tr:=.ret [(.one (.c (.k (.slice none 0 0))))]
def qV(a b:Nat):Tr:=.ret [(.one (.c (.sr a b)))]
def aR3(a:Nat)(b:Tr):Tr:=.need (.app 3 56 (some 2) (some (.u 0 0)) none) (.call ⟨.builtin .append,#[(tT 5),(tT 6)],#[a,a]⟩) a false b
def aZ9(a:Nat)(b:Tr):Tr:=.need (.lit 3 []) (.buildSlice a 0 #[]) a false b
def aH4(a:Nat)(b:Tr):Tr:=.need (.prim [(W 0 0),(.one (.c (.k (.slice none 0 0))))] none) (.binOp .eql a (tT 3) (.const (.slice none 0 0)) a) 4 false b
def Ye(a b c d:Nat)(e:Tr):Tr:=.need (.prim [(W 0 0),(W a 0)] none) (.slice b (.tmp c) none (some (.tmp d)) none) b false e
def di(a b c d:Nat)(e:Tr):Tr:=.need (.prim [(W a 0)] (some b)) (.load c (.tmp d)) c false e
def xQ(a b c d e:Nat)(g:Tr):Tr:=.need (.call a [(W b 0)] [none]) (.call ⟨.value (.func a),#[(.tmp c)],#[d]⟩) e false g
def XR(a b c d e:Nat)(g:Tr):Tr:=.need (.app a b none (some (.u c 0)) none) (.call ⟨.builtin .append,#[(.const (.slice none 0 0)),(.tmp d)],#[e,e]⟩) e false g
def Aq(a b c d e g h i j k l m n o p q r:Nat)(s:Tr):Tr:=.need (.call a [(.agg [(U b 0),(U c d),(U e g),(U h i)]),(.agg [(U j 0),(U k l),(U m n),(U o p)])] [(some 4)]) (.call ⟨.value (.func a),#[(.tmp q),(.tmp r)],#[51,51]⟩) 51 true s
def mh(a b c d e g h i j:Nat)(k:Tr):Tr:=.need (.call a [(.agg [(U b 0),(U c d),(U e g)]),(.agg [(U h 0),(U h 1),(U h 2)])] [(some 3)]) (.call ⟨.value (.func a),#[(.tmp i),(.tmp j)],#[46,46]⟩) 46 false k
def aU1(a b:Nat)(c:Tr):Tr:=.need (.prim [(W a 2),(.one (.c (.k (.int .u8 4))))] none) (.binOp .rem 5 (.tmp b) (.const (.int .u8 4)) 5) 5 false c
def Pk(a b c d e g h i j k:Nat)(l:Tr):Tr:=.need (.call a [(W b 0),(W c d)] [(some e)]) (.call ⟨.value (.func a),#[(.tmp g),(.tmp h)],#[i,j]⟩) k true l
def Ww(a b c d e g h i j k:Nat)(l:Tr):Tr:=.need (.call a [(W b 0),(W c d)] [(some e),none]) (.call ⟨.value (.func a),#[(.tmp g),(.tmp h)],#[i,j]⟩) k false l
def ah2(a b c:Nat)(d:Tr):Tr:=.need (.lit 4 [[(.u a 0),(.u a 1),(.u a 2),(.u a 3)]]) (.buildSlice b 1 #[(0,(.tmp c))]) b false d
def Pm(a b c:Nat)(d:Tr):Tr:=.need (.lit 3 [[(.u a 0),(.u a 1),(.u a 2)]]) (.buildSlice b 1 #[(0,(.tmp c))]) b false d
def aK2(a b c:Nat)(d:Tr):Tr:=.need (.prim [(W a 0),(WK 1)] none) (.slice b (.tmp c) (some (.const (I3 1))) none none) b false d
def aL9(a b:Nat)(c:Tr):Tr:=.need (.prim [(.one (.c (.k (.string ⟨#[45]⟩)))),(W a 0)] none) (.binOp .add 9 (.const (.string ⟨#[45]⟩)) (.tmp b) 9) 9 false c
def sf(a b:Nat)(c:Tr):Tr:=.need (.call 120 [(.agg [(U a 0),(U a 1),(U a 2),(U a 3)])] [(some 2)]) (.call ⟨.value (.func 120),#[(.tmp b)],#[51]⟩) 49 false c
def Ai(a b c d e:Nat)(g:Tr):Tr:=.need (.call a [(.agg [(U b 0),(U b 1)])] [none]) (.call ⟨.value (.func a),#[(.tmp c)],#[d]⟩) e false g
def aQ4(a:Nat)(b:Tr):Tr:=.need (.prim [(.one (.c (.k (.string ⟨#[47]⟩)))),(W a 0)] none) (.binOp .add 9 (.const (.string ⟨#[47]⟩)) (tT 20) 9) 9 false b
def We(a b c d e:Nat)(g:Tr):Tr:=.need (.strow a 3 (.u b 0) 0 [(.u c 0),(.u c 1),(.u c 2)]) (.store 46 (.tmp d) (.tmp e)) 0 false g
def Dj(a b c d e:Nat)(g:Tr):Tr:=.need (.call a [(.one (.c (.sr b c)))] [none]) (.call ⟨.value (.func a),#[(.tmp d)],#[e]⟩) e true g
def aY6(a b c:Nat)(d:Tr):Tr:=.need (.make [(.slice none 0 0),(.bool false),(.slice none 0 0)] 56 (.u a 0) (.u a 0)) (.makeSlice b (.tmp c) (.tmp c)) b false d
def WC(a b c d e g h i j:Nat)(k:Tr):Tr:=.need (.call a [(W b 0),(W c 0)] [(some d)]) (.call ⟨.value (.func a),#[(.tmp e),(.tmp g)],#[h,i]⟩) j false k
def Qd(a b c d e:Nat)(g:Tr):Tr:=.need (.ldrow a (.u b 0) 0 c true) (.load d (.tmp e)) d false g
def al7(a b c d e:Nat)(g:Tr):Tr:=.need (.lit 3 [[(.u a 0),(.u a 1),(.u a 2)],[(.u b 0),(.u b 1),(.u b 2)]]) (.buildSlice c 2 #[(0,(.tmp d)),(1,(.tmp e))]) c false g
def yF(a:Nat)(b:Int)(c d e:Nat)(g:Tr):Tr:=.need (.call a [(WK b)] [(some c)]) (.call ⟨.value (.func a),#[(.const (I3 b))],#[d]⟩) e true g
def Eg(a:Tr):Tr:=.loop 0 [(.w (WK 0)),(.w (WK 0))] a
def si(a b c d e g h:Nat):Tr:=.ret [(.agg [(U a 0),(U b c),(U d e),(U g h)])]
def FF(a:Int)(b:Tr):Tr:=.loop 0 [(.w (.one (.c (.k (.bool false))))),(.w (WK a))] b
def aV9(a b:Nat)(c:Tr):Tr:=.need (.prim [(W a 0),(WK 0)] none) (.call ⟨.builtin .max,#[(.tmp b),(.const (I3 0))],#[3,3]⟩) 3 false c
def bb6(a b:Nat):Tr:=.ret [(.agg [(U a 0),(.c (.sr 1 b))])]
def FZ(a b c d e g h i:Nat)(j:Tr):Tr:=.need (.call a [(W b 0),(W c 0)] [none]) (.call ⟨.value (.func a),#[(.tmp d),(.tmp e)],#[g,h]⟩) i false j
def TV(a b c d e g:Nat):Tr:=.back 0 [(.w (W a 0)),(.w (W b 0)),(.w (W c d)),(.w (W e g))]
def aQ7(a:Int)(b:Tr):Tr:=gO 189 [(WK a),(.one (.c (.sr 1 3)))] [(some 2)] [22,23] [3,47] 49 true b
def Rj(a:Int)(b c:Nat):Tr:=.back 0 [(.w (WK a)),(.w (W b 0)),.row c]
def aM7(a:Tr):Tr:=.need (.make [(.int .i64 0)] 8 (.u 4 0) (.u 4 0)) (.makeSlice 47 (tT 16) (tT 16)) 47 false a
def xG(a b c d:Nat)(e:Int)(g h:Nat)(i:Tr):Tr:=.need (.call 226 [(W a b),(W c d),(WK e)] [none]) (.call ⟨.value (.func 226),#[(.tmp g),(.tmp h),(.const (I3 e))],#[47,47,3]⟩) 47 true i
def sj(a b c d e g h:Nat)(i:Tr):Tr:=.need (.call a [(.agg [(U b 0),(U b 1)]),(.agg [(U c 0),(U c 1)])] [(some d)]) (.call ⟨.value (.func a),#[(.tmp e),(.tmp g)],#[49,49]⟩) h true i
def ER(a b:Nat):Tr:=.ret [(W a 0),(W b 0)]
def aV2(a:Nat)(b:Tr):Tr:=gO 119 [(.agg [(U a 0),(U a 1)]),(.agg [(tE (.int .i64 1)),(U 1 0)])] [(some 2)] [40,42] [49,49] 49 true b
def aS5(a b:Nat)(c:Int)(d e:Nat)(g:Tr):Tr:=.need (.call 260 [(W a 0),(W b 0),(WK c)] [none]) (.call ⟨.value (.func 260),#[(.tmp d),(.tmp e),(.const (I3 c))],#[47,3,3]⟩) 3 false g
def tG(a b c d e g h:Nat)(i:Tr):Tr:=.need (.call a [(W b c),(W d c)] [none,none]) (.call ⟨.value (.func a),#[(.tmp e),(.tmp g)],#[47,47]⟩) h false i
def Av(a b c d e:Nat)(g:Tr):Tr:=.need (.call a [(.one (.c (.sr 1 b)))] [none]) (.call ⟨.value (.func a),#[(.tmp c)],#[d]⟩) e false g
def VZ(a b:Nat)(c:Tr):Tr:=.need (.call 189 [(WK 1),(W a 0)] [(some 2)]) (.call ⟨.value (.func 189),#[(.const (I3 1)),(.tmp b)],#[3,47]⟩) 49 true c
def ap5(a:Nat)(b:Int)(c d e:Nat)(g:Tr):Tr:=.need (.strow a 3 (.k (.int .i64 b)) 0 [(.u c 0),(.u c 1),(.u c 2)]) (.store 46 (.tmp d) (.tmp e)) 0 false g
def TQ(a:Nat)(b:Int)(c:Nat)(d:Tr):Tr:=.need (.idx a (.k (.int .i64 b))) (.indexAddr 28 (.tmp c) (.const (I3 b))) 0 false d
def tq(a:Int)(b:Tr):Tr:=.need (.call 113 [(WK a)] [(some 3)]) (.call ⟨.value (.func 113),#[(.const (I3 a))],#[3]⟩) 46 false b
def aE6(a b:Nat)(c:Tr):Tr:=.need (.call a [(W 0 0),(.one (.c (.k (.bool true))))] [none]) (.call ⟨.value (.func a),#[(tT 21),(.const (.bool true))],#[b,4]⟩) 4 true c
def Zu(a:Int)(b:Nat)(c:Tr):Tr:=.need (.prim [(WK a),(W 1 0)] none) (.binOp .mul 3 (.const (I3 a)) (.tmp b) 3) 3 false c
def RI(a:Int):Tr:=.ret [(.agg [tN,tN]),(WK a)]
def RN(a:Nat):Tr:=.ret [(.agg [(U a 0),(U a 1)]),(WK 0)]
def aI3(a b:Int)(c:Tr):Tr:=.need (.lit 1 [[(.k (.int .i64 a))],[(.k (.int .i64 b))]]) (.buildSlice 205 2 #[(0,(.const (I3 a))),(1,(.const (I3 b)))]) 205 false c
def bB6(a:Int)(b:Tr):Tr:=.need (.lit 1 [[(.k (.int .i64 0))],[(.k (.int .i64 1))],[(.k (.int .i64 a))]]) (.buildSlice 205 3 #[(0,(.const (I3 0))),(1,(.const (I3 1))),(2,(.const (I3 a)))]) 205 false b
def aK7(a b c d:Nat):Tr:=.ret [(W a 0),(W b 0),(W c 0),(W d 0),(tF true)]
def Oy(a b c d e:Nat)(g:Tr):Tr:=.need (.call a [(W b 0)] [none,none]) (.call ⟨.value (.func a),#[(.tmp c)],#[d]⟩) e false g
def aG7(a b:Nat)(c:Tr):Tr:=.need (.call 13 [(W a 0),(WK 50)] [none]) (.call ⟨.value (.func 13),#[(.tmp b),(.const (I3 50))],#[22,3]⟩) 4 false c
def bc0(a b c d:Nat)(e:Tr):Tr:=.need (.lit 1 [[(.u a 0)],[(.u b 0)]]) (.buildSlice 197 2 #[(0,(.tmp c)),(1,(.tmp d))]) 197 false e
def Ot(a:Tr):Tr:=gO 14 [] [none] [] [] 4 true a
def aW3(a:Int)(b c d e:Nat)(g:Tr):Tr:=.need (.call 53 [(W 6 0),(W 7 0),(WK a),(G4 14),(G4 16)] [(some 2)]) (.call ⟨.value (.func 53),#[(.tmp b),(.tmp c),(.const (I3 a)),(.tmp d),(.tmp e)],#[32,32,3,51,51]⟩) 35 false g
end Go.Sy
