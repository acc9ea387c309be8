/- Part. -/
import Derived.Test.YtacgmapjhpghkaaGreatDoorSc
import Derived.Deep.LoopGhost
import Derived.Laws.Bits64
set_option linter.all false
namespace Go.Sy
def qJ:=@Go.IntKind.wrap_u64
open Go.RowKit (Below)
def pY:Ex->Exit
 | .normal=>.normal
 | .exit id=>.exit id
 | .ret=>.ret
section
variable{P:Program}{N:Nat}{M0:eS}{w0:World}{post:Out->Prop}{hints:Nat->Option Hint}
def by1(post:Out->Prop)(M0:eS)(w0:World)(Q:Exit->Act->World->Prop):Prop:=
 ∀c v a w,post (.pan c)->c.rep M0.M w v->Kept M0 w0 w->a.defers=[]->Q (.panic [{ v,recovered:=false }]) a w
def wO(P:Program)(post:Out->Prop)(M0:eS)(w0:World):Prop:=
 ∀f args news,post (.GD f args news)->(∀as w,(callFunc f as).run P w=.ok (.enter f as) w)/\∀(M:Nat->Prop)(w:World)(vs:List Value),Kept M0 w0 w->cC M w->ba M w args vs->Calls P f vs.toArray w fun e w'=>Below w.heap.size w w'/\oZ M w' (.ret news) e
theorem wO.no{P:Program}{out:Out}{M0:eS}{w0:World}:wO P (fun o=>az o out) M0 w0:=fun f args news h=>by cases out<;>exact(h:False).elim
theorem wO.noR{P:Program}{rs:List aN}{ts:List (List aC)}{M0:eS}{w0:World}:wO P (fun o=>o=.retr rs ts) M0 w0:=fun f args news h=>by cases h
def Xv(P:Program)(N:Nat)(M0:eS)(w0:World)(post:Out->Prop)(d:Nat)(τ:Env)(bk:List (List aN->Prop))(k:Ex->Nat->Nat->St->yu->Tr)(Q:Exit->Act->World->Prop):Prop:=
 ∀ex nb s dec m bk' ρ a w,bk'.take d=bk.take d->d<=bk'.length->vc P post (k ex nb (τ++m).length s dec) (τ++m) bk'->jC (τ++m) dec->Sat M0 w0 N s (τ++m) ρ a w->Q (pY ex) a w
structure ji(P:Program)(W:Code->(Exit->Act->World->Prop)->Act->World->Prop):Prop where
 skip:∀{Q a w},Q .normal a w->W .skip Q a w
 exit:∀{id Q a w},Q (.exit id) a w->W (.exit id) Q a w
 ret:∀{Q a w},Q .ret a w->W .ret Q a w
 any:P.follows .mixedOrders=true->∀{id ops Q a w},wpAny P .any ops Q ops.size (Array.replicate ops.size false) a { w with drawn:=w.drawn+1 } -> W (.region id ops true) Q a w
 ops:∀{id ops Q a w},wpOps P ops Q (List.range ops.size) a w->W (.region id ops false) Q a w
 seq:∀{x y Q a w},W x (Exit.then (W y Q) Q) a w->W (.seq x y) Q a w
 cond:∀{c x y t Q}{a:Act}{w},a.eval c=.bool t->W (if t then x else y) Q a w->W (.cond c x y) Q a w
 block:∀{id x Q a w},W x (Exit.inBlock id Q) a w->W (.block id x) Q a w
 loop:∀{c Q a w}(I:Nat->Act->World->Prop)(n:Nat),I n a w->(∀n a w,I n a w->W c (Exit.then (fun a' w'=>∃n',n'<n/\I n' a' w') Q) a w)->W (.loop c) Q a w
theorem ji.wp:ji P (Code.wp P):=⟨wh,wp_exit,lJ,fun h=>Po h,wp_region,bB,qK,wp_block,wp_loop_ghost⟩
theorem sA{W:Code->(Exit->Act->World->Prop)->Act->World->Prop}(R:ji P W)(hm:P.follows .mixedOrders=true):∀(c:Code)(l d nb ni:Nat)(s:St)(dec:yu)(k:Ex->Nat->Nat->St->yu->Tr)(τ:Env)(bk:List (List aN->Prop)),
  vc P post (exec P N hints c l d nb ni s dec k) τ bk->τ.length=ni->jC τ dec->d<=bk.length ->
  ∀ρ a w(Q:Exit->Act->World->Prop),Sat M0 w0 N s τ ρ a w->by1 post M0 w0 Q->wO P post M0 w0->Xv P N M0 w0 post d τ bk k Q->W c Q a w:=by
 intro c
 induction c with
 | skip=>
   intro l d nb ni s dec k τ bk h hn hd hb ρ a w Q hs hp ho hk;refine R.skip (hk .normal nb s dec [] bk ρ a w rfl hb ?_ (by rw[bw];exact hd) (by rw[bw];exact hs));rw[bw,hn];exact h
 | exit id=>
   intro l d nb ni s dec k τ bk h hn hd hb ρ a w Q hs hp ho hk;refine R.exit (hk (.exit id) nb s dec [] bk ρ a w rfl hb ?_ (by rw[bw];exact hd) (by rw[bw];exact hs));rw[bw,hn];exact h
 | ret=>
   intro l d nb ni s dec k τ bk h hn hd hb ρ a w Q hs hp ho hk;refine R.ret (hk .ret nb s dec [] bk ρ a w rfl hb ?_ (by rw[bw];exact hd) (by rw[bw];exact hs));rw[bw,hn];exact h
 | region id ops draw=>
   intro l d nb ni s dec k τ bk h hn hd hb ρ a w Q hs hp ho hk;have h:vc P post (kM P N ops ops.toList 0 nb ni s dec [] fun nb ni s dec eE=>if ordered eE then k .normal nb ni s dec else .fail 1000) τ bk:=h
   have main:∃(m:Env)(fs:List CD)(z:Option Nat),jK P N ops Q M0 w0 (τ++m) z 0 s fs ops.toList/\ordered (fs.map (·.r)).reverse=true /\
     ((∃j,z=some j/\j<ops.size)\/(z=none/\∀ρ a w,Sat M0 w0 N (s.apps (fs.map (·.e))) (τ++m) ρ a w->Q .normal a w)):=by
    rcases Bz hp ho ops.toList 0 nb ni s dec [] τ h hn hd (fun j=>by simp)with⟨m,fs,nb',dec',h1,h2,h3⟩ | ⟨m,fs,z,h1,h2,h3,h4⟩
    ·rw[bw]at h3;split at h3
     ·rename_i ho;exact⟨m,fs,none,h1,ho,.inr ⟨rfl,fun ρ a w hs=>hk .normal nb' _ dec' m bk ρ a w rfl hb h3 h2 hs⟩⟩
     ·exact h3.elim
    ·rw[bw]at h4;exact⟨m,fs,some z,h1,h4,.inl ⟨z,rfl,by simpa using h3⟩⟩
   obtain⟨m,fs,z,h1,h2,h3⟩:=main
   have hrepl:∀j,(Array.replicate ops.size false).getD j false=false:=by
    intro j;rw[jF];cases h:(Array.replicate ops.size false)[j]? with
    | none=>rfl
    | some b=>have:=(cZ.1 h).2;simp at this;subst this;rfl
   cases draw with
   | true=>
     refine R.any hm (Yj h1 h2 h3 ops.size _ ρ a _ (by simp) ?_ ?_ ?_ ?_)
     ·intro j f _ hl;rw[hrepl]at hl;cases hl
     ·intro j _;exact hrepl j
     ·exact aq (sV _ _) (by simp)
     ·have e:done s fs (fun j=>(Array.replicate ops.size false).getD j false)=s:=by
       show s.apps _=s;rw[SR _ 0 _ fun j=>?_]
       ·rfl
       ·exact hrepl j
      rw[e];exact(hs.ext m).drew _
   | false=>
     refine R.ops ?_;rw[List.range_eq_range'];refine XV h1 h2 h3 ops.size 0 ρ a w (bM _) (fun j _=>cz j) ?_;rw[iy];exact hs.ext m
 | seq x y ihx ihy=>
   intro l d nb ni s dec k τ bk h hn hd hb ρ a w Q hs hp ho hk;refine R.seq (ihx l d nb ni s dec _ τ bk h hn hd hb ρ a w _ hs ?_ ho ?_)
   ·intro c v a w h1 h2 h3 h4;exact hp c v a w h1 h2 h3 h4
   ·intro ex nb' s' dec' m bk' ρ' a' w' hbk hb' hv hd' hs';cases ex with
    | normal=>
      refine ihy _ d nb' _ s' dec' k (τ++m) bk' hv rfl hd' hb' ρ' a' w' Q hs' hp ho ?_;intro ex2 nb2 s2 dec2 m2 bk2 ρ2 a2 w2 hbk2 hb2 hv2 hd2 qj;rw[dq]at hv2 hd2 qj;exact hk ex2 nb2 s2 dec2 (m++m2) bk2 ρ2 a2 w2 (hbk2.trans hbk) hb2 hv2 hd2 qj
    | exit id=>exact hk (.exit id) nb' s' dec' m bk' ρ' a' w' hbk hb' hv hd' hs'
    | ret=>exact hk .ret nb' s' dec' m bk' ρ' a' w' hbk hb' hv hd' hs'
 | cond c x y ihx ihy=>
   intro l d nb ni s dec k τ bk h hn hd hb ρ a w Q hs hp ho hk
   have h:vc P post (match(Kl c).run s with
    | some (.w (.one (.c x')))=>parts dec x' fun β dec=>if β then exec P N hints x l d nb ni s dec k else exec P N hints y (l+mq x) d nb ni s dec k
    | _=>.fail 1001) τ bk:=h
   split at h
   ·rename_i x' hx;obtain⟨β,dec2,hc,hd2,hv⟩:=Ff hd h;have hval:(c0 τ x').rep (Ms M0 ρ s) w (a.eval c):=xT hs hx;rw[hc]at hval;refine R.cond (t:=β) hval.1 ?_;cases β with
    | true=>exact ihx l d nb ni s dec2 k τ bk hv hn hd2 hb ρ a w Q hs hp ho hk
    | false=>exact ihy _ d nb ni s dec2 k τ bk hv hn hd2 hb ρ a w Q hs hp ho hk
   ·exact h.elim
 | block id x ih=>
   intro l d nb ni s dec k τ bk h hn hd hb ρ a w Q hs hp ho hk;refine R.block (ih l d nb ni s dec _ τ bk h hn hd hb ρ a w _ hs ?_ ho ?_)
   ·intro c v a w h1 h2 h3 h4;exact hp c v a w h1 h2 h3 h4
   ·intro ex nb' s' dec' m bk' ρ' a' w' hbk hb' hv hd' hs';cases ex with
    | normal=>exact hk .normal nb' s' dec' m bk' ρ' a' w' hbk hb' hv hd' hs'
    | exit id'=>
      show if id'=id then Q .normal a' w' else Q (.exit id') a' w'
      simp only at hv;split at hv
      ·rename_i e;rw[aK e];exact hk .normal nb' s' dec' m bk' ρ' a' w' hbk hb' hv hd' hs'
      ·rename_i e;rw[aG e];exact hk (.exit id') nb' s' dec' m bk' ρ' a' w' hbk hb' hv hd' hs'
    | ret=>exact hk .ret nb' s' dec' m bk' ρ' a' w' hbk hb' hv hd' hs'
 | loop x ih=>
   intro l d nb ni s dec k τ bk h hn hd hb ρ a w Q hs hp ho hk
   have h:vc P post (match head P ((hints l).getD (auto P N x s)) (HE x) s nb ni with
    | none=>.fail 1002
    | some h=>.loop d h.inits (exec P N hints x (l+1) (d+1) h.nb h.ni h.s dec (bl8 P ((hints l).getD (auto P N x s)) ni h d k))) τ bk:=h
   generalize (hints l).getD (auto P N x s)=hint at h;split at h
   ·exact h.elim
   ·rename_i hd0 hh;obtain⟨G,vf,μ,g0,hg0,hlen,hbody⟩:=h
    have hfit:fits ni hd0.inits hd0.F hd0.s s=true/\hd0.ni=ni+hd0.inits.length:=by
     unfold head at hh;split at hh
     ·simp only at hh;split at hh
      ·rename_i hc;simp only[aW]at hh;subst hh;simp only[bR,mH]at hc;exact hc
      ·cases hh
     ·cases hh
    refine R.loop (fun n a' w'=>∃g ρ',μ g=n/\Sat M0 w0 N hd0.s (τ++vf g) ρ' a' w') (μ g0) ?_ ?_
    ·have hs0:Sat M0 w0 N s (τ++[]) ρ a w:=by rw[bw];exact hs
     obtain⟨ρ',h1⟩:=ae8 hs0 hn hfit.1;rw[bw]at h1;exact⟨g0,ρ',rfl,h1.sub (aZ.app (aZ.refl τ) hg0)⟩
    ·rintro n a' w' ⟨g,ρ',rfl,hs'⟩;have htl:(bk.take d).length=d:=by rw[bK];omega
     refine ih (l+1) (d+1) hd0.nb hd0.ni hd0.s dec _ (τ++vf g) _ (hbody g) (by rw[cJ,hlen,hn,hfit.2]) (hd.ext _) (by simp[htl]) ρ' a' w' _ hs' ?_ ho ?_
     ·intro c v a w h1 h2 h3 h4;exact hp c v a w h1 h2 h3 h4
     ·intro ex nb2 s2 dec2 m bk2 ρ2 a2 w2 hbk2 hb2 hv2 hd2 qj
      have htake:bk2.take d=bk.take d:=by
       have:=congrArg (List.take d) hbk2;rw[kK,kK,dQ (Nat.le_succ d)]at this;rw[this,vC (by omega),kK,Nat.min_self]
      have hother:∀e:Ex,vc P post (k e nb2 (τ++vf g++m).length s2 dec2) (τ++vf g++m) bk2->Q (pY e) a2 w2:=by
       intro e hv;rw[dq]at hv hd2 qj;exact hk e nb2 s2 dec2 (vf g++m) bk2 ρ2 a2 w2 htake (by omega) hv hd2 qj
      cases ex with
      | normal=>
        have hv2:vc P post (match aD7 P hint ni hd0 s2 with | some vs=>.back d vs | none=>.fail 1003) (τ++vf g++m) bk2:=hv2;split at hv2
        ·rename_i vs hvs;obtain⟨f,hf,hfv⟩:=hv2
         have hget:bk2[d]?=some (fun ts=>∃g',aZ ts (vf g')/\μ g'<μ g):=by
          have h1:(bk2.take (d+1))[d]?=bk2[d]?:=by rw[dm,aK (vx d)]
          rw[<-h1,hbk2,dm,aK (vx d),iB (by omega),htl,fU];rfl
         rw[hget]at hf;simp only[aW]at hf;subst hf;obtain⟨g',hg',hlt⟩:=hfv
         have hfb:∃F,fits ni vs F hd0.s s2=true:=by
          unfold aD7 at hvs;split at hvs
          ·simp only at hvs;split at hvs
           ·rename_i hc;simp only[aW]at hvs;subst hvs;exact⟨_,hc⟩
           ·cases hvs
          ·cases hvs
         obtain⟨F,hF⟩:=hfb;rw[dq]at qj hg';obtain⟨ρ3,h3⟩:=ae8 qj hn hF;exact⟨μ g',hlt,g',ρ3,rfl,h3.sub (aZ.app (aZ.refl τ) hg')⟩
        ·exact hv2.elim
      | exit id=>exact hother (.exit id) hv2
      | ret=>exact hother .ret hv2
 | _=>intro l d nb ni s dec k τ bk h;exact h.elim
theorem vi(hm:P.follows .mixedOrders=true)(c:Code)(l d nb ni:Nat)(s:St)(dec:yu)(k:Ex->Nat->Nat->St->yu->Tr)(τ:Env)(bk:List (List aN->Prop))
  (h:vc P post (exec P N hints c l d nb ni s dec k) τ bk) (hn:τ.length=ni) (hd:jC τ dec) (hb:d<=bk.length) (ρ:Nat->Gh) (a:Act) (w:World) (Q:Exit->Act->World->Prop) (hs:Sat M0 w0 N s τ ρ a w) (hp:by1 post M0 w0 Q) (ho:wO P post M0 w0) (hg:Xv P N M0 w0 post d τ bk k Q):c.wp P Q a w:=
 sA ji.wp hm c l d nb ni s dec k τ bk h hn hd hb ρ a w Q hs hp ho hg
inductive In where
 | v (t:aN)
 | ref (cells:List aC)
 | lent (E sz:Nat) (ts:List (List aC))
def In.ty:In->aN
 | .v t=>t
 | .ref cells=>.one (.aw cells)
 | .lent _ _ _=>.rows []
def In.env:In->aN
 | .v t=>t
 | .ref cells=>.agg cells
 | .lent _ _ ts=>.rows ts
def In.Is:Arg->In->Prop
 | .v sh,.v t=>t.shape=some sh
 | .ref n,.ref cells=>cells.length=n
 | .lent E sz,.lent E' sz' ts=>E'=E/\sz'=sz
 | .k u,.v t=>t=.one (.exact u)
 | _,_=>False
end
section
variable{P:Program}{N:Nat}{M0:eS}{w0 w:World}{s:St}{τ:Env}{ρ:Nat->Gh}{a:Act}
def gM(tmps:Array Value)(r:ResultVar):Sem Value:=
 match r with
 | .tmp t=>pure (tmps.getD t undef)
 | .cell b t=>do loadVar t (<-asAddr (tmps.getD b undef))
theorem gW(fn:Func)(tmps:Array Value)(vs:List Value)(h:(fn.results.toList.mapM (gM tmps)).run P w=.ok vs w) :
  (results fn tmps).run P w=.ok (pack vs) w:=by
 have e:results fn tmps=(do
   let vs <-fn.results.mapM (gM tmps)
   pure (if h:vs.size=1 then vs[0]else .tuple vs)):=rfl
 rw[e,Array.mapM_eq_mapM_toList];simp only[fi,Sem.run_map,h,jG,gI]
 congr 1
 match vs with
 | []=>rfl
 | [v]=>rfl
 | _::_::_=>rfl
theorem pX(h:Sat M0 w0 N s τ ρ a w)(l:List Nat):cX M0 ρ s l M0.M:=
 ⟨fun k hk=>.inl hk,fun b x k h1 h2 _ hk=>by
  exact h.old k hk (h.lo b x k h1 h2).1⟩
theorem oF(h:Sat M0 w0 N s τ ρ a w){M':Nat->Prop}:∀{rs:List ResultVar}{vs:List SW}{l:List Nat},(yp P s rs).run s=some (vs,l)->cX M0 ρ s l M' ->
  ∃us,(rs.mapM (gM a.tmps)).run P w=.ok us w/\ba M' w (vs.map (oG τ)) us
 | [],vs,l,hq,hS=>by
   simp only[yp,Q.fZ,aW,cI]at hq;obtain⟨rfl,rfl⟩:=hq;exact⟨[],rfl,trivial⟩
 | .tmp t::rs,vs,l,hq,hS=>by
   obtain⟨v,h1,h2⟩:=Q.bind_some hq;obtain⟨⟨y,l1⟩,h3,h4⟩:=Q.bind_some h2;obtain⟨⟨ys,l2⟩,h5,h6⟩:=Q.bind_some h4;simp only[Q.run_pure,aW,cI]at h6;obtain⟨rfl,rfl⟩:=h6;obtain⟨us,hr,hrep⟩:=oF h h5 (hS.mono fun x hx=>ku _ hx);refine⟨a.tmps.getD t undef::us,?_,So h h3 (hS.mono fun x hx=>fV _ hx) (pn h h1),hrep⟩;simp only[zU,gM,fi,gI,jG,hr]
 | .cell t T::rs,vs,l,hq,hS=>by
   obtain⟨c,h1,h2⟩:=Q.bind_some hq;have hx:=eA h h1;cases c with
   | p b off=>
     obtain⟨bx,h3,h4⟩:=Q.bind_some h2;simp only[iP,aW]at h3;cases bx with
     | none=>cases h4
     | some bx=>cases bx with
       | row=>cases h4
       | part=>cases h4
       | dead=>cases h4
       | var T' cells=>
         obtain⟨⟨ag,n⟩,h5,h6⟩:=Q.bind_some h4;rw[dw]at h5;obtain⟨cs,h7,h8⟩:=Q.bind_some h6;rw[dw]at h7;obtain⟨⟨cs',l1⟩,h9,h10⟩:=Q.bind_some h8;obtain⟨⟨ys,l2⟩,h11,h12⟩:=Q.bind_some h10;obtain⟨v,h13,h14⟩:=Q.bind_some h12;simp only[Q.run_pure,aW,cI]at h14;obtain⟨rfl,rfl⟩:=h14;obtain⟨us,hr,hrep⟩:=oF h h11 (hS.mono fun x hx=>ku _ hx);obtain⟨hlen,rfl⟩:=sP h7;obtain⟨vs',hh,hall⟩:=h.bx b _ h3;have hl:=hall.length;have hcs:=xO h h9 (hS.mono fun x hx=>fV _ hx) ((hall.drop off).take n);have hcl:=hcs.length
         have hn1:ag=true\/n=1:=by
          cases ag with
          | true=>exact .inl rfl
          | false=>
            right
            simp only[dy,cS]at h13;split at h13
            ·simp only[aI,lF,bK,cW]at hcl;omega
            ·cases h13
         obtain⟨u,hru,hu⟩:=iW (P:=P) (w:=w) h5 hh (off:=off) (by simp;omega) hn1;have hxe:a.tmps.getD t undef=.pointer (some ⟨(ρ b).blk,off,none⟩):=hx.2;refine⟨u::us,?_,?_,hrep⟩
         ·simp only[zU,gM,fi,hxe,asAddr,gI,jG,hru,hr]
         ·cases ag with
          | true=>
            simp only[bz,Q.fZ,aW]at h13 hu;subst h13;exact⟨_,hu,by simpa using hcs⟩
          | false=>
            simp only[dy,cS]at h13 hu;split at h13
            ·rename_i c';simp only[Q.fZ,aW]at h13;subst h13;have hu':(vs'.drop off).take n=[u]:=by simpa using hu
             rw[hu']at hcs;exact hcs.1
            ·cases h13
   | _=>cases h2
theorem wD{M:Nat->Prop}{k:Nat}:¬(eS.mk M ⟨0,undef,#[]⟩).O k:=fun h=>by cases h
theorem Kept.below{M:Nat->Prop}{w0 w:World}(h:Kept ⟨M,⟨0,undef,#[]⟩⟩ w0 w):Below w0.heap.size w0 w:=
 ⟨h.os,h.tape,h.output,h.size,fun k hk=>h.block k hk wD⟩
theorem sH{M:Nat->Prop}{ex:Nat->Prop}{i:Nat}{g:Arg}{x:In}{v:Value}(hτ:τ[i]?=some x.env)(hi:In.Is g x)(hv:x.ty.rep M w v):gr ex τ ρ M w (jr i g) v:=by
 cases g with
 | v sh=>cases x with
   | v t=>exact rI hτ hi hv
   | ref cells=>exact hi.elim
   | lent _ _ _=>exact hi.elim
 | lent _ _=>cases x with
   | v t=>exact hi.elim
   | ref cells=>exact hi.elim
   | lent _ _ _=>exact(hv:False).elim
 | k u=>cases x with
   | v t=>
     have ht:t=.one (.exact u):=hi;subst ht;exact hv
   | ref cells=>exact hi.elim
   | lent _ _ _=>exact hi.elim
 | ref n=>cases x with
   | v t=>exact hi.elim
   | lent _ _ _=>exact hi.elim
   | ref cells=>
     have hc:((List.range n).map fun j=>C0.u i j).map (c0 τ)=cells:=by
      apply fJ;intro j;rw[et,cn];have hl:cells.length=n:=hi;by_cases hj:j<n
      ·rw[kv hj,bQ (by omega)];simp only[cK,Function.comp,c0,fQ,hτ,gO,In.env,aN.cell,aN.cells,bQ (show j<cells.length by omega)]
      ·rw[iR (by simpa using hj),iR (by omega)];rfl
     show(aC.aw _).rep M w v;rw[hc,ga];exact hv
theorem aF3(args:List Arg)(bx:List (Nat×Bx))(t:Nat):(⟨args.mapIdx fun i a=>(i,jr i a),bx,[]⟩:St).t t=((args[t]?).map (jr t)).getD .junk:=by
 have hlook:∀(l:List Arg)(d:Nat),(look (l.mapIdx fun i a=>(d+i,jr (d+i) a)) t)=if d<=t then(l[t-d]?).map (jr t)else none:=by
  intro l
  induction l with
  | nil=>intro d;simp[look]
  | cons x l ih=>
    intro d;rw[List.mapIdx_cons];simp only[look,bq]
    have e:(l.mapIdx fun i a=>(d+(i+1),jr (d+(i+1)) a))=l.mapIdx fun i a=>(d+1+i,jr (d+1+i) a):=by
     congr 1;funext i a;rw[show d+(i+1)=d+1+i by omega]
    rw[e,ih (d+1)];by_cases h1:d=t
    ·subst h1;simp
    ·rw[aG h1];by_cases h2:d+1<=t
     ·rw[aK h2,aK (by omega),show t-d=(t-(d+1))+1 by omega,qB]
     ·rw[aG h2,aG (by omega)]
 have:=hlook args 0;simp only[bM,cz,bz,Nat.sub_zero]at this;simp only[St.t,this]
theorem SA{N:Nat}{args:List Arg}{ins:List In}{M:Nat->Prop}{w:World}{vs:List Value}(hin:ak In.Is args ins)(hM:cC M w)(hlen:args.length<=N)(hvs:ba M w (ins.map In.ty) vs) :
  Sat ⟨M,⟨0,undef,#[]⟩⟩ w N ⟨args.mapIdx fun i a=>(i,jr i a),[],[]⟩ (ins.map In.env) (fun _=>⟨0,undef,#[]⟩) ⟨vs.toArray++Array.replicate (N-vs.toArray.size) undef,[]⟩ w:=by
 have hil:ins.length=args.length:=hin.length.symm;have hvl:vs.length=args.length:=by rw[<-hvs.length];simpa using hil
 refine⟨⟨rfl,rfl,rfl,aa _,fun _ _ _=>rfl,fun x hx=>⟨(hM.2 x hx).1,wD,(hM.2 x hx).2⟩⟩,by simp;omega,rfl,fun t=>?_,(by intro b x hb;cases hb),(by intro b b' x x' k hb;cases hb),(by intro b x k hb;cases hb),fun k hk ho=>ho.elim (fun h=>kD.2 h (hM.1 k hk)) wD,(by intro b E sz cid hb;cases hb)⟩;rw[aF3];cases hat:args[t]? with
 | none=>trivial
 | some g=>
   have htl:t<args.length:=(dM.1 hat).1;obtain⟨x,hx,hix⟩:=hin.get t g hat;have hvt:vs[t]?=some (vs[t]'(by omega)):=bQ (by omega);obtain⟨ty,hty,hrep⟩:=hvs.get t _ hvt;rw[cn,hx]at hty;simp only[cK,aW]at hty;subst hty
   have hval:(vs.toArray++Array.replicate (N-vs.toArray.size) undef).getD t undef=vs[t]'(by omega):=by
    rw[jF,Nr (by simp;omega)];simp[hvt]
   rw[hval];refine sH (by rw[cn,hx];rfl) hix (aN.vj ?_ hrep);intro k o hk ho _;refine⟨fun hm=>?_,ho⟩;rcases hm with hm | ⟨b,x,hb,_⟩
   ·exact hk hm
   ·cases hb
theorem dF{f:FuncId}{fn:Func}{hints:Nat->Option Hint}{args:List Arg}{ins:List In}{out:Out}(hm:P.follows .mixedOrders=true)(hok:pb P f=true)
  (hf:P.funcs[f]?=some fn) (hin:ak In.Is args ins) (h:vc P (fun o=>az o out) (aV P fn hints args) (ins.map In.env) []):aU P f (ins.map In.ty) out:=by
 refine⟨bC hok,fun M w vs hM hvs=>?_⟩;unfold aV at h;split at h
 ·exact h.elim
 ·rename_i c hb;split at h
  ·rename_i hlen;refine lU hf hb ?_;have hil:ins.length=args.length:=hin.length.symm;have hvl:vs.length=args.length:=by rw[<-hvs.length];simpa using hil
   refine vi (M0:=⟨M,⟨0,undef,#[]⟩⟩) (w0:=w) hm c 0 0 0 args.length _ [] _ (ins.map In.env) [] h (by simpa using hil) (by intro x hx;cases hx) (aa _) (fun _=>⟨0,undef,#[]⟩) _ w _ ?_ ?_ wO.no ?_
   ·exact SA hin hM hlen hvs
   ·intro c v a w' hp hr hb hd;refine⟨hd,hb.below,?_⟩;cases out with
    | pan d=>have hp:c=d:=hp;subst hp;exact⟨v,rfl,hr⟩
    | ret _=>exact hp.elim
    | GD _ _ _=>exact hp.elim
    | retr _ _=>exact hp.elim
   ·intro ex nb s dec m bk' ρ a w' _ _ hv _ hs
    have key:vc P (fun o=>az o out) (match(yp P s fn.results.toList).run s with
      | some (vs,_)=>.ret vs
      | none=>.fail 1008) (ins.map In.env++m) bk'->a.defers=[]/\∃v,(results fn a.tmps).run P w'=.ok v w'/\(Below w.heap.size w w'/\oZ M w' out (.returned v)):=by
     intro hv;split at hv
     ·rename_i vs' l hq;obtain⟨us,hr,hrep⟩:=oF hs hq (pX hs _);refine⟨hs.df,_,gW fn a.tmps us hr,hs.below.below,?_⟩;cases out with
      | ret rs=>exact⟨us,rfl,ba.sub hv hrep⟩
      | retr _ _=>exact hv.elim
      | GD _ _ _=>exact hv.elim
      | pan _=>exact hv.elim
     ·exact hv.elim
    cases ex with
    | normal=>exact key hv
    | ret=>exact key hv
    | exit id=>exact hv.elim
  ·exact h.elim
end
open Go.RowKit (Below)
section
variable{P:Program}{T U ty:TypeId}{x y:Operand}
theorem Uc{M:Nat->Prop}{w:World}{ρ:Operand->Value}{t:aN}(h:ba M w [t] ((#[x]:Array Operand).toList.map ρ)):t.rep M w (ρ x):=h.1
theorem rF{M:Nat->Prop}{w:World}{ρ:Operand->Value}{t u:aN}(h:ba M w [t,u] ((#[x,y]:Array Operand).toList.map ρ)):t.rep M w (ρ x)/\u.rep M w (ρ y):=⟨h.1,h.2.1⟩
theorem nJ{op:BinOp}{k:IntKind}{a b:Int}{r:Value}(h1:r.oneCell'=true)(h:∀w,(binOp op T (.int k a) (.int k b)).run P w=.ok r w) :
  ah P (.binOp op T x y U) ty [.one (.int k a),.one (.int k b)] (.one (.exact r)):=by
 intro M w ρ o ho _ hr;obtain⟨hx,hy⟩:=rF hr;have hx:ρ x=.int k a/\_:=hx;have hy:ρ y=.int k b/\_:=hy;refine⟨r,?_,⟨rfl,h1⟩⟩
 have hg:(eqGuard op T x y (.int k a) (.int k b)).run P w=.ok () w:=by
  unfold eqGuard;cases op<;>simp
 simp only[execOp,ho,hx.1,hy.1,fi,hg,jG,h w,gI]
theorem fS{k:IntKind}{a b c:Int}(h:k.wrap (a+b)=c):ah P (.binOp .add T x y U) ty [.one (.int k a),.one (.int k b)] (.one (.int k c)):=
 nJ rfl fun w=>by simp[binOp,Op.intArith,h]
theorem oN{k:IntKind}{a b c:Int}(h:k.wrap (a-b)=c):ah P (.binOp .sub T x y U) ty [.one (.int k a),.one (.int k b)] (.one (.int k c)):=
 nJ rfl fun w=>by simp[binOp,Op.intArith,h]
theorem ur{k:IntKind}{a b c:Int}(h:k.wrap (a*b)=c):ah P (.binOp .mul T x y U) ty [.one (.int k a),.one (.int k b)] (.one (.int k c)):=
 nJ rfl fun w=>by simp[binOp,Op.intArith,h]
theorem pK{k:IntKind}{a b c:Int}(hb:b≠0)(h:k.wrap (a.tdiv b)=c):ah P (.binOp .quo T x y U) ty [.one (.int k a),.one (.int k b)] (.one (.int k c)):=
 nJ rfl fun w=>by simp[binOp,Op.intDiv,hb,h]
theorem CK{k:IntKind}{a b c:Int}(hb:b≠0)(h:a.tmod b=c):ah P (.binOp .rem T x y U) ty [.one (.int k a),.one (.int k b)] (.one (.int k c)):=
 nJ rfl fun w=>by simp[binOp,Op.intDiv,hb,h]
theorem aI2{k:IntKind}{a b:Int}:ah P (.binOp .eql T x y U) ty [.one (.int k a),.one (.int k b)] (.one (.bool (decide (a=b)))):=
 nJ rfl fun w=>by simp[binOp,Op.intCmp,BEq.beq]
theorem TZ{k:IntKind}{a b:Int}:ah P (.binOp .neq T x y U) ty [.one (.int k a),.one (.int k b)] (.one (.bool (!decide (a=b)))):=
 nJ rfl fun w=>by simp[binOp,Op.intCmp,bne,BEq.beq]
theorem tW{k:IntKind}{a b:Int}:ah P (.binOp .lss T x y U) ty [.one (.int k a),.one (.int k b)] (.one (.bool (decide (a<b)))):=
 nJ rfl fun w=>by simp[binOp,Op.intCmp]
theorem bS3{k:IntKind}{a b:Int}:ah P (.binOp .leq T x y U) ty [.one (.int k a),.one (.int k b)] (.one (.bool (decide (a<=b)))):=
 nJ rfl fun w=>by simp[binOp,Op.intCmp]
theorem Tt{k:IntKind}{a b:Int}:ah P (.binOp .gtr T x y U) ty [.one (.int k a),.one (.int k b)] (.one (.bool (decide (b<a)))):=
 nJ rfl fun w=>by simp[binOp,Op.intCmp]
theorem Fq{k:IntKind}{a b:Int}:ah P (.binOp .geq T x y U) ty [.one (.int k a),.one (.int k b)] (.one (.bool (decide (b<=a)))):=
 nJ rfl fun w=>by simp[binOp,Op.intCmp]
theorem gQ{b:Bool}:ah P (.unOp .not T x) ty [.one (.bool b)] (.one (.bool (!b))):=by
 intro M w ρ o ho _ hr;have hx:ρ x=.bool b/\_:=Uc hr;exact⟨.bool (!b),by simp[execOp,ho,hx.1,Op.unary],⟨rfl,rfl⟩⟩
theorem bj1{k:IntKind}{a c:Int}(h:k.wrap (0-a)=c):ah P (.unOp .neg T x) ty [.one (.int k a)] (.one (.int k c)):=by
 intro M w ρ o ho _ hr;have hx:ρ x=.int k a/\_:=Uc hr;exact⟨.int k c,by simp[execOp,ho,hx.1,Op.unary,Op.intArith,<-h],⟨rfl,rfl⟩⟩
theorem jg{k k':IntKind}{a c:Int}(hu:∃d,P.underlying T=some d)(hd:P.underlying U=some (.int k'))(h:k'.wrap a=c):ah P (.convert T U x) ty [.one (.int k a)] (.one (.int k' c)):=by
 obtain⟨d,hu⟩:=hu;intro M w ρ o ho _ hr;have hx:ρ x=.int k a/\_:=Uc hr;refine⟨.int k' c,?_,⟨rfl,rfl⟩⟩
 have:(convert T U (.int k a)).run P w=.ok (.int k' c) w:=by
  simp[convert,eY hu,eY hd,Conv.intToInt,h]
 simp only[execOp,ho,hx.1,fi,this,jG,gI]
theorem aP{E sz n:Nat}{ts:List (List aC)}{b:Nat}{s2:Nat}(h:dY P T=some (E,s2,b))(hn:ts.length=n):ah P (.call ⟨.builtin .len,#[x],#[T]⟩) ty [.one (.slice sz ts)] (.one (.int .i64 n)):=by
 intro M w ρ o ho _ hr;have hx:(aC.slice sz ts).rep M w (ρ x):=Uc (x:=x) hr;obtain⟨ad,cap,hv,_⟩:=hx;obtain⟨ie,hu,_⟩:=bZ h;exact⟨.int .i64 n,by simp[execOp,ho,resolve,invoke,builtin,Builtin.len_,hv,eY hu,goInt,hn],⟨rfl,rfl⟩⟩
theorem Zh{E sz b:Nat}{k:IntKind}{n:Int}{ts:List (List aC)}{t:List aC}(h:dY P T=some (E,sz,b))(ht:ts[n.toNat]?=some t)(h0:0<=n:=by omega) :
  ah P (.indexAddr T x y) ty [.one (.slice sz ts),.one (.int k n)] (.one (.aw t)):=by
 intro M w ρ o ho _ hr;obtain⟨hx,hy⟩:=rF (x:=x) (y:=y) hr;have hx:(aC.slice sz ts).rep M w (ρ x):=hx;have hy:ρ y=.int k n/\_:=hy;obtain⟨ad,cap,hv,hc,hm,hel⟩:=hx;obtain⟨ie,hu,hie,hies,_⟩:=bZ h;have hlt:n.toNat<ts.length:=(dM.1 ht).1;rcases hel with rfl | ⟨bl,off,cs,T',fz,rfl,hb,hh,hel⟩
 ·simp at hlt
 ·have hin:0<=n/\n<(ts.length:Int):=⟨h0,by omega⟩
  refine⟨.pointer (some ⟨bl,off+n.toNat*sz,none⟩),?_,?_⟩
  ·simp[execOp,ho,hv,hy.1,Instr.indexAt,asIntOf,eY hu,sizeOf,typeInfo,hie,hies,hin,na]
  ·have:=hel n.toNat t ht;refine⟨bl,off+n.toNat*sz,cs,T',fz,rfl,hb,hh,?_⟩;rw[this.1];exact this.2
theorem aQ{ag:Bool}{n:Nat}{cells:List aC}(h:oX P T=some (ag,n))(hpos:0<n)(hn:n<=cells.length)(h1:ag=true\/n=1) :
  ah P (.load T x) ty [.one (.aw cells)] (Yi ag (cells.take n)):=by
 intro M w ρ o ho _ hr;have hx:(aC.aw cells).rep M w (ρ x):=Uc (x:=x) hr;obtain⟨b,off,cs,T',fz,hv,hb,hh,hrep⟩:=hx;have hl:=hrep.length;simp only[bK,cW,cT]at hl;obtain⟨v,hrun,hval⟩:=iW (P:=P) (w:=w) h hh (off:=off) (n:=n) (by omega) h1;refine⟨v,by simp[execOp,ho,hv,Instr.loadAt,Instr.sureAddr,hrun],?_⟩;have h2:=hrep.take n;rw[kK,dQ hn]at h2;cases ag with
 | true=>
   simp only[bz]at hval;exact⟨_,hval,h2⟩
 | false=>
   simp only[dy,cS]at hval;rw[hval]at h2;have hl2:=h2.length;simp only[Yi,dy,cS]
   match hc:cells.take n,h2 with
   | [c],h2=>exact h2.1
   | [],h2=>simp[hc]at hl2
   | _::_::_,h2=>simp[hc]at hl2
theorem qD{M:Nat->Prop}{w:World}{sz:Nat}{ts:List (List aC)}{ad:Option Addr}{cap l h m:Nat}(hs:(aC.slice sz ts).rep M w (.slice ad ts.length cap))(hlh:l<=h)(hh:h<=ts.length)(hm:h<=m)(hmc:m<=cap:=by omega) :
  (aC.slice sz ((ts.take h).drop l)).rep M w (.slice (if m=l then ad else ad.map (·.add (l*sz))) (h-l) (m-l)):=by
 obtain⟨ad',cap',he,hc,hcm,hel⟩:=hs;simp only[jR,yz]at he;obtain⟨rfl,rfl⟩:=he;have hlen:((ts.take h).drop l).length=h-l:=by simp;omega
 refine⟨_,m-l,by rw[hlen],by rw[hlen];omega,by omega,?_⟩;by_cases hz:h=l
 ·left;exact eV (by omega)
 ·rcases hel with rfl | ⟨b,off,cs,T,fz,rfl,hb,hh2,hel⟩
  ·simp at hh;omega
  ·refine .inr ⟨b,off+l*sz,cs,T,fz,?_,hb,hh2,fun i t ht=>?_⟩
   ·rw[aG (by omega)];simp[na]
   ·rw[eo,dm]at ht;split at ht
    ·have:=hel (l+i) t ht;rw[bX]at this;rw[jA];exact this
    ·cases ht
theorem xS{E sz b:Nat}{k:IntKind}{n:Int}{ts:List (List aC)}(h:dY P T=some (E,sz,b))(h0:0<=n)(hn:n.toNat<=ts.length) :
  ah P (.slice T x none (some y) none) ty [.one (.slice sz ts),.one (.int k n)] (.one (.slice sz (ts.take n.toNat))):=by
 intro M w ρ o ho _ hr;have hx:(aC.slice sz ts).rep M w (ρ x):=hr.1;have hy:ρ y=.int k n/\_:=hr.2.1;have hx':=hx;obtain⟨ad,cap,hv,hc,hm,_⟩:=hx;rw[hv]at hx';obtain⟨ie,hu,hie,hies,_⟩:=bZ h;have:=qD (l:=0) (h:=n.toNat) (m:=cap) hx' (cz _) hn (by omega) (aa _);rw[ga]at this;refine⟨_,?_,this⟩;have hin:0<=n/\n<=(cap:Int):=⟨h0,by omega⟩
 simp[execOp,ho,hv,hy.1,Instr.sliceAt,Instr.slice,Instr.sliceBounds,Instr.sliceBound,asIntOf,eY hu,sizeOf,typeInfo,hie,hies,hin]
theorem Me{E sz b:Nat}{k:IntKind}{n:Int}{ts:List (List aC)}(h:dY P T=some (E,sz,b))(h0:0<=n)(hn:n.toNat<=ts.length) :
  ah P (.slice T x (some y) none none) ty [.one (.slice sz ts),.one (.int k n)] (.one (.slice sz (ts.drop n.toNat))):=by
 intro M w ρ o ho _ hr;have hx:(aC.slice sz ts).rep M w (ρ x):=hr.1;have hy:ρ y=.int k n/\_:=hr.2.1;have hx':=hx;obtain⟨ad,cap,hv,hc,hm,_⟩:=hx;rw[hv]at hx';obtain⟨ie,hu,hie,hies,_⟩:=bZ h;have:=qD (l:=n.toNat) (h:=ts.length) (m:=cap) hx' hn (aa _) hc (aa _);rw[gw]at this;refine⟨_,?_,this⟩;have hin:0<=n/\n<=(ts.length:Int):=⟨h0,by omega⟩
 simp[execOp,ho,hv,hy.1,Instr.sliceAt,Instr.slice,Instr.sliceBounds,Instr.sliceBound,asIntOf,eY hu,sizeOf,typeInfo,hie,hies,hin]
theorem Di{E sz b:Nat}{k k':IntKind}{n:Int}{z:Operand}{ts:List (List aC)}(h:dY P T=some (E,sz,b))(hn:n.toNat<=ts.length)(h0:0<=n:=by omega) :
  ah P (.slice T x none (some y) (some z)) ty [.one (.slice sz ts),.one (.int k n),.one (.int k' n)] (.one (.slice sz (ts.take n.toNat))):=by
 intro M w ρ o ho _ hr;have hx:(aC.slice sz ts).rep M w (ρ x):=hr.1;have hy:ρ y=.int k n/\_:=hr.2.1;have hz:ρ z=.int k' n/\_:=hr.2.2.1;have hx':=hx;obtain⟨ad,cap,hv,hc,hm,_⟩:=hx;rw[hv]at hx';obtain⟨ie,hu,hie,hies,_⟩:=bZ h;have:=qD (l:=0) (h:=n.toNat) (m:=n.toNat) hx' (cz _) hn (aa _);rw[ga]at this;refine⟨_,?_,this⟩;have hin:0<=n/\n<=(cap:Int):=⟨h0,by omega⟩
 have hin2:max n 0=n:=by omega
 simp[execOp,ho,hv,hy.1,hz.1,Instr.sliceAt,Instr.slice,Instr.sliceBounds,Instr.sliceBound,asIntOf,eY hu,sizeOf,typeInfo,hie,hies,hin,hin2]
theorem ao5{s t:ByteArray}(h:((s.size+t.size:Nat):Int)<=9223372036854775807):ah P (.binOp .add T x y U) ty [.one (.str s),.one (.str t)] (.one (.str (s++t))):=by
 intro M w ρ o ho _ hr;obtain⟨hx,hy⟩:=rF hr;have hx:ρ x=.string s/\_:=hx;have hy:ρ y=.string t/\_:=hy;refine⟨.string (s++t),?_,⟨rfl,rfl⟩⟩;have hmax:IntKind.i64.max=9223372036854775807:=by simp[IntKind.max,IntKind.signed,IntKind.bits]
 have hno:¬(9223372036854775807<((s.size:Int)+(t.size:Int))):=by
  have:((s.size+t.size:Nat):Int)=(s.size:Int)+(t.size:Int):=by simp
  omega
 simp[execOp,ho,hx.1,hy.1,eqGuard,binOp,Op.stringOp,hmax,hno]
theorem ag0{s t:ByteArray}:ah P (.binOp .eql T x y U) ty [.one (.str s),.one (.str t)] (.one (.bool (s.toList==t.toList))):=by
 intro M w ρ o ho _ hr;obtain⟨hx,hy⟩:=rF hr;have hx:ρ x=.string s/\_:=hx;have hy:ρ y=.string t/\_:=hy;exact⟨.bool (s.toList==t.toList),by simp[execOp,ho,hx.1,hy.1,eqGuard,binOp,Op.stringOp],⟨rfl,rfl⟩⟩
theorem af8{s:ByteArray}{k:IntKind}{n:Int}{b:UInt8}(hu:P.underlying T=some .string)(h0:0<=n)(hb:s[n.toNat]?=some b):ah P (.index T x y) ty [.one (.str s),.one (.int k n)] (.one (.int .u8 b.toNat)):=by
 intro M w ρ o ho _ hr;obtain⟨hx,hy⟩:=rF hr;have hx:ρ x=.string s/\_:=hx;have hy:ρ y=.int k n/\_:=hy;exact⟨.int .u8 b.toNat,by simp[execOp,ho,hx.1,hy.1,Instr.index,asIntOf,eY hu,h0,hb],⟨rfl,rfl⟩⟩
theorem aQ5{s:ByteArray}{k:IntKind}{n:Int}(hu:P.underlying T=some .string)(h0:0<=n)(hn:n<=s.size):ah P (.slice T x (some y) none none) ty [.one (.str s),.one (.int k n)] (.one (.str (s.extract n.toNat s.size))):=by
 intro M w ρ o ho _ hr;have hx:ρ x=.string s/\_:=hr.1;have hy:ρ y=.int k n/\_:=hr.2.1;exact⟨_,by simp[execOp,ho,hx.1,hy.1,Instr.sliceAt,Instr.slice,Instr.sliceBounds,Instr.sliceBound,asIntOf,eY hu,h0,hn],⟨rfl,rfl⟩⟩
theorem as0{s:ByteArray}{k k':IntKind}{n m:Int}{z:Operand}(hu:P.underlying T=some .string)(h0:0<=n)(hn:n<=m)(hm:m<=s.size):ah P (.slice T x (some y) (some z) none) ty [.one (.str s),.one (.int k n),.one (.int k' m)] (.one (.str (s.extract n.toNat m.toNat))):=by
 intro M w ρ o ho _ hr;have hx:ρ x=.string s/\_:=hr.1;have hy:ρ y=.int k n/\_:=hr.2.1;have hz:ρ z=.int k' m/\_:=hr.2.2.1;have h1:0<=m:=by omega
 have h2:max m 0=m:=by omega
 have h3:¬m<n:=by omega
 exact⟨_,by simp[execOp,ho,hx.1,hy.1,hz.1,Instr.sliceAt,Instr.slice,Instr.sliceBounds,Instr.sliceBound,asIntOf,eY hu,h0,h1,h2,h3,hm],⟨rfl,rfl⟩⟩
end
section
variable{P:Program}{post:Out->Prop}{bk:List (List aN->Prop)}{τ:Env}{op:Op}{ty:Nat}{last:Bool}{k:Tr}
theorem vn{args:List SW}{sh:Option Nat}{t:aN}(hp:ah P op ty (args.map (oG τ)) t)(hs:t.shape=some sh:=by rfl)(hk:vc P post k (τ++[t]) bk):vc P post (.need (.prim args sh) op ty last k) τ bk:=
 .inl ⟨[t],⟨t,rfl,hs,hp⟩,rfl,hk⟩
theorem aA{f:Nat}{args:List SW}{sh:List (Option Nat)}{ts:List aN}(hd:aU P f (args.map (oG τ)) (.ret ts))(hs:ts.map aN.shape=sh.map some:=by rfl)(hk:vc P post k (τ++ts) bk):vc P post (.need (.call f args sh) op ty last k) τ bk:=
 .inl ⟨ts,⟨hs,hd⟩,by have:=congrArg List.length hs;simpa[dz.ids]using this,hk⟩
theorem Dt{c:C0}{f:FuncId}{caps:List aC}{args:List SW}{sh:List (Option Nat)}{ts:List aN}(hc:c0 τ c=.gp f caps)(hd:aU P f (args.map (oG τ)++caps.map .one) (.ret ts))(hs:ts.map aN.shape=sh.map some)(hk:vc P post k (τ++ts) bk):vc P post (.need (.callv c args sh) op ty last k) τ bk:=
 .inl ⟨ts,⟨f,caps,hc,hs,hd⟩,by have:=congrArg List.length hs;simpa[dz.ids]using this,hk⟩
theorem eL{sz:Nat}{tss:List (List C0)}{us:List (List aC)}(hu:tss.map (fun t=>t.map (c0 τ))=us:=by rfl)(hk:vc P post k (τ++[.rows us]) bk):vc P post (.need (.lit sz tss) op ty last k) τ bk:=
 .inl ⟨_,by rw[<-hu];rfl,rfl,hk⟩
theorem ri{z:List Value}{b:Nat}{l c:C0}{n m:Nat}{kl kc:IntKind}{us:List (List aC)}(h1:c0 τ l=.int kl n)(h2:c0 τ c=.int kc m)(hu:List.replicate n (z.map .exact)=us)(hnm:n<=m)(hb:b*m<=140737488355328)(hm:m<=maxLen)(hk:vc P post k (τ++[.rows us]) bk):vc P post (.need (.make z b l c) op ty last k) τ bk:=
 .inl ⟨_,⟨n,m,kl,kc,h1,h2,hnm,hb,hm,by rw[hu]⟩,rfl,hk⟩
theorem uH{sz b:Nat}{cid:Option Nat}{src:Option C0}{row:Option Nat}{ts us vs:List (List aC)}(h1:aF7 τ cid ts)(h2:aA7 τ sz src row us)(hv:ts++us=vs)(hb:vs.length*b<=140737488355328)(hm:vs.length<=maxLen)(hk:vc P post k (τ++[.rows vs]) bk):vc P post (.need (.app sz b cid src row) op ty last k) τ bk:=
 .inl ⟨[.rows vs],⟨ts,us,h1,h2,by rw[<-cJ,hv];exact hb,by rw[<-cJ,hv];exact hm,by rw[hv]⟩,rfl,hk⟩
theorem qV{cid:Nat}{i:C0}{ts:List (List aC)}{ik:IntKind}{n:Int}(h1:τ[cid]?=some (.rows ts))(h2:c0 τ i=.int ik n)(h0:0<=n)(hn:n<ts.length)(hk:vc P post k τ bk):vc P post (.need (.idx cid i) op ty last k) τ bk:=
 .inl ⟨[],⟨ts,ik,n,h1,h2,h0,hn,rfl⟩,rfl,by rw[bw];exact hk⟩
theorem vld{cid off sz:Nat}{ag:Bool}{i:C0}{ts:List (List aC)}{ik:IntKind}{n:Int}{cells:List aC}{t:aN}(h1:τ[cid]?=some (.rows ts))(h2:c0 τ i=.int ik n)(h0:0<=n)(hn:ts[n.toNat]?=some cells)(hag:ag=true\/sz=1)(ht:Yi ag ((cells.drop off).take sz)=t)(hk:vc P post k (τ++[t]) bk):vc P post (.need (.ldrow cid i off sz ag) op ty last k) τ bk:=
 .inl ⟨_,⟨ts,ik,n,cells,h1,h2,h0,hn,hag,by rw[ht]⟩,rfl,hk⟩
theorem Mf{cid sz off:Nat}{i:C0}{xs:List C0}{ts us:List (List aC)}{ik:IntKind}{n:Int}{cells:List aC}(h1:τ[cid]?=some (.rows ts))(h2:c0 τ i=.int ik n)(h0:0<=n)(hn:ts[n.toNat]?=some cells)
  (hu:ts.set n.toNat (cells.take off++xs.map (c0 τ)++cells.drop (off+xs.length))=us) (hk:vc P post k (τ++[.rows us]) bk):vc P post (.need (.strow cid sz i off xs) op ty last k) τ bk:=
 .inl ⟨_,⟨ts,ik,n,cells,h1,h2,h0,hn,by rw[hu]⟩,rfl,hk⟩
theorem Hl{cid n:Nat}{ts:List (List aC)}(h1:τ[cid]?=some (.rows ts))(hn:ts.length=n)(hk:vc P post k (τ++[.one (.int .i64 n)]) bk):vc P post (.need (.lenrow cid) op ty last k) τ bk:=
 .inl ⟨_,⟨ts,h1,by rw[hn]⟩,rfl,hk⟩
theorem vs{c:C0}{kt kf:Tr}(p:Prop)[Decidable p](hc:c0 τ c=.bool (decide p))(ht:p->vc P post kt τ bk)(hf:¬p->vc P post kf τ bk):vc P post (.split c kt kf) τ bk:=
 ⟨decide p,hc,fun h=>ht (qG h),fun h=>hf (of_decide_eq_false h)⟩
theorem jm{c:C0}{kt kf:Tr}(β:Bool)(hc:c0 τ c=.bool β)(ht:β=true->vc P post kt τ bk)(hf:β=false->vc P post kf τ bk):vc P post (.split c kt kf) τ bk:=
 ⟨β,hc,ht,hf⟩
theorem aL{vs:List SW}{rs:List aN}(h:vs.map (oG τ)=rs:=by rfl):vc P (fun o=>az o (.ret rs)) (.ret vs) τ bk:=by
 show aZ _ _;rw[h];exact aZ.refl _
theorem fK{vs:List SW}{rs:List aN}(h:aZ (vs.map (oG τ)) rs):vc P (fun o=>az o (.ret rs)) (.ret vs) τ bk:=h
theorem Mv{f:Nat}{args:List SW}{sh:List (Option Nat)}{as ts:List aN}(ha:aZ (args.map (oG τ)) as)(hd:aU P f as (.ret ts))(hs:ts.map aN.shape=sh.map some)(hk:vc P post k (τ++ts) bk):vc P post (.need (.call f args sh) op ty last k) τ bk:=
 .inl ⟨ts,⟨hs,hd.sub ha⟩,by have:=congrArg List.length hs;simpa[dz.ids]using this,hk⟩
theorem bE{d:Nat}{inits:List LV}(G:Type)(vf:G->List aN)(μ:G->Nat)(g0:G)(h0:aZ (inits.map (Ll τ)) (vf g0))(hl:∀g,(vf g).length=inits.length)
  (h:∀g,vc P post k (τ++vf g) (bk.take d++[fun ts=>∃g',aZ ts (vf g')/\μ g'<μ g])):vc P post (.loop d inits k) τ bk:=⟨G,vf,μ,g0,h0,hl,h⟩
theorem ab{d:Nat}{cP:List LV}{f:List aN->Prop}(hb:bk[d]?=some f)(h:f (cP.map (Ll τ))):vc P post (.back d cP) τ bk:=⟨f,hb,h⟩
end
open Go.RowKit (Below)
def lO(P:Program)(f:FuncId)(E sz:Nat)(pre post:List aN)(ts:List (List aC))(rs:List aN)(ts':List (List aC)):Prop:=
 (∀as w,(callFunc f as).run P w=.ok (.enter f as) w)/\ts'.length=ts.length/\(∀t∈ts',t.length=sz) /\
 ∀(M:Nat->Prop)(w:World)(g off cap:Nat)(cur:Array Value)(vs1 vs2:List Value),cC M w->M g->w.heap[g]?=some (.cells cur E (0,0)) ->
  off+ts.length*sz<=cur.size->ts.length<=cap->cap<=maxLen->ai M w ts.flatten ((cur.toList.drop off).take (ts.length*sz))->ba M w pre vs1->ba M w post vs2 ->
  Calls P f (vs1++.slice (some ⟨g,off,none⟩) ts.length cap::vs2).toArray w fun e w'=>∃cur' us,w.grownBy w' (some g)/\w'.heap[g]?=some (.cells cur' E (0,0))/\cur'.size=cur.size /\
   (∀j,(j<off\/off+ts.length*sz<=j)->cur'[j]?=cur[j]?)/\e=.returned (pack us)/\ba M w' rs us/\ai M w' ts'.flatten ((cur'.toList.drop off).take (ts.length*sz))
section
variable{P:Program}{N:Nat}{M0:eS}{w0 w:World}{s:St}{τ:Env}{ρ:Nat->Gh}{a:Act}
theorem CX{N:Nat}{M:Nat->Prop}{gh:Gh}{g off len cap E sz:Nat}{cur:Array Value}{w w':World}{s:St}{τ:Env}{bk:List (List aN->Prop)}{ρ:Nat->Gh}{a:Act}{res:List ResultVar}{rs:List aN}{ts':List (List aC)}(hval:gh.val=.slice (some ⟨g,off,none⟩) len cap)(hcur:gh.cur=cur)
  (hv:vc P (fun o=>o=.retr rs ts') (match(yp P s res).run s with
   | some (vs,l)=>bc8 s E sz vs l
   | none=>.fail 1008) τ bk) (hs:Sat (eS.mk (fun k=>M k/\k≠g) gh) w N s τ ρ a w') :
  ∃us cur',(res.mapM (gM a.tmps)).run P w'=.ok us w'/\ba M w' rs us/\w.grownBy w' (some g)/\w'.heap[g]?=some (.cells cur' E (0,0))/\cur'.size=cur.size/\(∀j,(j<off\/off+len*sz<=j)->cur'[j]?=cur[j]?)/\ai M w' ts'.flatten ((cur'.toList.drop off).take (len*sz))/\ρ 0=gh:=by
 have hO:∀k,(eS.mk (fun k=>M k/\k≠g) gh).O k↔k=g:=by
  intro k;simp[eS.O,hval,Value.ownBlock,oK]
 split at hv
 ·rename_i vs' l hq;unfold bc8 at hv;split at hv
  ·rename_i E' sz' cid hb0;split at hv
   ·rename_i hc;obtain⟨rfl,rfl,hs0,hl0⟩:=hc;obtain⟨ts2,hcid,hpo⟩:=hv;have hpo:Out.retr _ ts2=Out.retr rs ts':=hpo;simp only[Out.retr.injEq]at hpo;obtain⟨hrs,rfl⟩:=hpo;have hgh0:=hs.pt 0 E' sz' cid hb0;have hown0:own ρ 0 (.part E' sz' cid)=some g:=by simp only[own,hgh0,hval];rfl
    have hS:cX (eS.mk (fun k=>M k/\k≠g) gh) ρ s l M:=by
     refine⟨fun k hk=>?_,fun b x k h1 h2 h3 hk=>?_⟩
     ·by_cases hkg:k=g
      ·subst hkg;exact .inr ⟨0,_,hb0,hs0,hown0⟩
      ·exact .inl ⟨hk,hkg⟩
     ·by_cases hkg:k=g
      ·subst hkg;have:=hs.inj b 0 x _ k h1 hb0 h2 hown0;subst this;rcases h3 with h3 | h3
       ·rw[hs0]at h3;cases h3
       ·have:l.contains 0=true:=by simpa using h3
        rw[hl0]at this;cases this
      ·exact hs.old k ⟨hk,hkg⟩ (hs.lo b x k h1 h2).1
    obtain⟨us,hr,hrepr⟩:=oF hs hq hS;obtain⟨ts3,xs,hcid3,⟨hxl,hown⟩,hlen3,hrep3,_,hfr⟩:=hs.bx 0 _ hb0;rw[hcid]at hcid3;simp only[aW,aN.rows.injEq]at hcid3;subst hcid3;rw[hgh0]at hown hfr;rcases hown with⟨_,c,hv⟩ | ⟨g2,off2,cap2,cur2,hv,hg2,hnc,hcm,hfit2,htake⟩
    ·rw[hval]at hv;simp at hv
    ·rw[hval]at hv;simp only[jR,aW,lH,eI]at hv;obtain⟨⟨rfl,rfl⟩,hll,rfl⟩:=hv;obtain⟨hf1,hf2⟩:=hfr g off len cap hval cur2 hg2;rw[hcur]at hf1 hf2;have hb:=hs.below;refine⟨us,cur2,hr,by rw[<-hrs];exact hrepr,⟨hb.os,hb.tape,hb.output,hb.size,fun k hk hne=>hb.block k hk fun ho=>hne (by rw[(hO k).1 ho])⟩,hg2,hf1,hf2,?_,hgh0⟩;rw[hll,htake];exact hrep3.mono hS.eJ
   ·exact hv.elim
  ·exact hv.elim
 ·exact hv.elim
theorem ou{f:FuncId}{fn:Func}{hints:Nat->Option Hint}{a1 a2:List Arg}{i1 i2:List In}{E sz:Nat}{ts ts':List (List aC)}{rs:List aN}(hm:P.follows .mixedOrders=true)(hok:pb P f=true)
  (hf:P.funcs[f]?=some fn) (hin1:ak In.Is a1 i1) (hin2:ak In.Is a2 i2) (hlo:Xj 0 (a1++.lent E sz::a2)=some (a1.length,E,sz)) (hl:ts'.length=ts.length) (hts:∀t∈ts,t.length=sz) (hts':∀t∈ts',t.length=sz)
  (h:vc P (fun o=>o=.retr rs ts') (xt P fn hints (a1++.lent E sz::a2)) (i1.map In.env++.rows ts::i2.map In.env) []):lO P f E sz (i1.map In.ty) (i2.map In.ty) ts rs ts':=by
 refine⟨bC hok,hl,hts',fun M w g off cap cur vs1 vs2 hM hMg hg hfit hcap hmax hrep hv1 hv2=>?_⟩;unfold xt at h;rw[hlo]at h;split at h
 ·rename_i c i E0 sz0 hb heq;simp only[aW,cI]at heq;obtain⟨rfl,rfl,rfl⟩:=heq;split at h
  ·rename_i hlen;refine lU hf hb ?_;have hl1:a1.length=i1.length:=hin1.length;have hl2:a2.length=i2.length:=hin2.length;have hv1l:vs1.length=i1.length:=by rw[<-hv1.length];simp
   have hv2l:vs2.length=i2.length:=by rw[<-hv2.length];simp
   generalize hgh:(⟨0,.slice (some ⟨g,off,none⟩) ts.length cap,cur⟩:Gh)=gh
   have hO:∀k,(eS.mk (fun k=>M k/\k≠g) gh).O k↔k=g:=by
    intro k;subst hgh;simp[eS.O,Value.ownBlock,oK]
   have hMs0:∀k,Ms (eS.mk (fun k=>M k/\k≠g) gh) (fun _=>gh) ⟨(a1++.lent E sz::a2).mapIdx fun i a=>(i,jr i a),[(0,.part E sz a1.length)],[]⟩ k↔M k:=by
    intro k
    constructor
    ·rintro(hk | ⟨b,x,h1,_,h3⟩)
     ·exact hk.1
     ·simp only[St.b,look]at h1;split at h1
      ·simp only[aW]at h1;subst h1 hgh;simp only[own,Value.ownBlock,aW]at h3;subst h3;exact hMg
      ·cases h1
    ·intro hk;by_cases hkg:k=g
     ·subst hkg;exact .inr ⟨0,.part E sz a1.length,by simp[St.b,look],by simp[St.s],by subst hgh;simp[own,Value.ownBlock]⟩
     ·exact .inl ⟨hk,hkg⟩
   have hMs:Ms (eS.mk (fun k=>M k/\k≠g) gh) (fun _=>gh) ⟨(a1++.lent E sz::a2).mapIdx fun i a=>(i,jr i a),[(0,.part E sz a1.length)],[]⟩=M:=funext fun k=>propext (hMs0 k);have hglt:g<w.heap.size:=(cZ.1 hg).1;refine vi (M0:=eS.mk (fun k=>M k/\k≠g) gh) (w0:=w) hm c 0 0 1 (a1++.lent E sz::a2).length _ [] _ _ [] h (by simp;omega) (by intro x hx;cases hx) (aa _) (fun _=>gh) _ w _ ?_ ?_ wO.noR ?_
   ·refine⟨⟨rfl,rfl,rfl,aa _,fun _ _ _=>rfl,fun x hx=>⟨fun hm=>(hM.2 x hx).1 hm.1,fun ho=>(hM.2 x hx).1 (by rw[(hO _).1 ho];exact hMg),(hM.2 x hx).2⟩⟩,?_,rfl,fun t=>?_,?_,?_,?_,?_,?_⟩
    ·simp at hlen|-;omega
    ·rw[hMs,aF3];cases hat:(a1++.lent E sz::a2)[t]? with
     | none=>trivial
     | some x=>
       have htl:t<(a1++.lent E sz::a2).length:=(dM.1 hat).1;simp only[cJ,an]at htl
       have hval:((vs1++.slice (some ⟨g,off,none⟩) ts.length cap::vs2).toArray++Array.replicate (fn.ntmps-(vs1++.slice (some ⟨g,off,none⟩) ts.length cap::vs2).toArray.size) undef).getD t undef=(vs1++.slice (some ⟨g,off,none⟩) ts.length cap::vs2).getD t undef:=by
        rw[jF,Nr (by simp;omega),fQ];simp
       rw[hval,fQ];simp only[cK,gO];by_cases h1:t<a1.length
       ·rw[eU h1]at hat;rw[eU (by omega)];obtain⟨y,hy,hix⟩:=hin1.get t x hat;have hvt:vs1[t]?=some (vs1[t]'(by omega)):=bQ (by omega);obtain⟨ty,hty,hrep1⟩:=hv1.get t _ hvt;rw[cn,hy]at hty;simp only[cK,aW]at hty;subst hty;rw[hvt];exact sH (by rw[eU (by simp;omega),cn,hy];rfl) hix hrep1
       ·rw[iB (by omega)]at hat|-;by_cases h2:t=a1.length
        ·subst h2;rw[fU]at hat;simp only[lp,aW]at hat;subst hat;rw[hv1l,<-hl1,fU];simp only[lp,gO];refine⟨by simp[St.b,look],by subst hgh;rfl,rfl⟩
        ·have e1:t-a1.length=(t-a1.length-1)+1:=by omega
         have e2:t-vs1.length=(t-a1.length-1)+1:=by omega
         rw[e1,qB]at hat;rw[e2,qB];obtain⟨y,hy,hix⟩:=hin2.get _ x hat;have hvt:vs2[t-a1.length-1]?=some (vs2[t-a1.length-1]'(by omega)):=bQ (by omega);obtain⟨ty,hty,hrep1⟩:=hv2.get _ _ hvt;rw[cn,hy]at hty;simp only[cK,aW]at hty;subst hty;rw[hvt];exact sH (by rw[iB (by simp;omega),aI,<-hl1,e1,qB,cn,hy];rfl) hix hrep1
    ·intro b x hbx;rw[hMs];simp only[St.b,look]at hbx;split at hbx
     ·simp only[aW]at hbx;subst hbx;refine⟨ts,_,?_,⟨?_,.inr ⟨g,off,cap,cur,?_,hg,hcap,hmax,hfit,rfl⟩⟩,hts,hrep,?_,?_⟩
      ·rw[iB (by simp;omega),aI,hl1,fU];rfl
      ·rw[bK,cW,cT (xs:=cur)];exact dQ (by omega)
      ·subst hgh;rfl
      ·subst hgh;rfl
      ·intro g2 off2 len2 cap2 hv cur2 hg2;subst hgh;simp only[jR,aW,lH,eI]at hv;obtain⟨⟨rfl,rfl⟩,rfl,rfl⟩:=hv;rw[hg]at hg2;simp only[aW,lQ,eI]at hg2;subst hg2;exact⟨rfl,fun _ _=>rfl⟩
     ·cases hbx
    ·intro b b' x x' k h1 h2 _ _;simp only[St.b,look]at h1 h2;split at h1
     ·split at h2
      ·rename_i e1 e2;rw[<-e1,<-e2]
      ·cases h2
     ·cases h1
    ·intro b x k h1 h2;simp only[St.b,look]at h1;split at h1
     ·simp only[aW]at h1;subst h1;have:k=g:=by subst hgh;simp only[own,Value.ownBlock,aW]at h2;exact h2.symm
      subst this;exact⟨.inr ((hO k).2 rfl),hglt⟩
     ·cases h1
    ·rintro k ⟨hk,hne⟩ (ho | ho)
     ·exact kD.2 ho (hM.1 k hk)
     ·exact hne ((hO k).1 ho)
    ·intro b E' sz' cid hbx;rfl
   ·intro c v a w' hp;cases hp
   ·intro ex nb s dec m bk' ρ a w' _ _ hv _ hs;cases ex with
    | exit id=>exact hv.elim
    | normal | ret=>
      obtain⟨us,cur',hr,h1,h2,h3,h4,h5,h6,_⟩:=CX (gh:=gh) (g:=g) (off:=off) (len:=ts.length) (cap:=cap) (E:=E) (sz:=sz) (res:=fn.results.toList) (by subst hgh;rfl) (by subst hgh;rfl) hv hs;exact⟨hs.df,_,gW fn a.tmps us hr,cur',us,h2,h3,h4,h5,rfl,h1,h6⟩
  ·exact h.elim
 ·exact h.elim
end
section
variable{P:Program}{post:Out->Prop}{bk:List (List aN->Prop)}{τ:Env}{op:Op}{ty:Nat}{last:Bool}{k:Tr}
theorem TS{c:Call}{f:FuncId}{E sz:Nat}{pre po:List aN}{ts ts':List (List aC)}{rs:List aN}(hc:c.callee=.value (.func f))(h:lO P f E sz pre po ts rs ts'):Tj P (.call c) ty E sz pre po ts rs ts':=by
 refine⟨h.2.1,h.2.2.1,?_⟩;intro M w a o c' K Q g off cap cur vs1 vs2 ho ht hc' hargs hM hMg hg hfit hcap hmax hrep h1 h2 hk;cases hc';unfold Oper.wp;rw[rq (cvs:=[]) ho hc rfl h.1,wW,bw,hargs];refine(h.2.2.2 M w g off cap cur vs1 vs2 hM hMg hg hfit hcap hmax hrep h1 h2).mono ?_;rintro e w' ⟨cur',us,hgr,hg',hs,hout,rfl,hr,hr'⟩;exact hk w' cur' us hgr hg' hs hout hr hr'
theorem ap9{x y:Operand}{T U E sz2 b2:Nat}{src ts:List (List aC)}(hT:dY P T=some (E,1,b2))(hle:src.length<=ts.length)(hsrc:∀t∈src,t.length=1)(hts:∀t∈ts,t.length=1) :
  Tj P (.call ⟨.builtin .copy,#[x,y],#[T,U]⟩) ty E 1 [] [.one (.slice 1 src)] ts [.one (.int .i64 src.length)] (src++ts.drop src.length):=by
 obtain⟨ie,hu,hie,hies,_⟩:=bZ hT;have hsz:(P.info? E).map (·.size)=some 1:=by rw[hie];simp[hies]
 refine⟨by simp;omega,fun t ht=>?_,?_⟩
 ·rcases fI.1 ht with ht | ht
  ·exact hsrc t ht
  ·exact hts t (lP ht)
 ·intro M w a o c' K Q g off cap cur vs1 vs2 ho ht hc' hargs hM hMg hg hfit hcap hmax hrep h1 h2 hk;cases hc';cases vs1 with
  | cons v vs=>exact h1.elim
  | nil=>
    have hx:a.eval x=.slice (some ⟨g,off,none⟩) ts.length cap:=by simpa using congrArg List.head? hargs
    have hy:vs2=[a.eval y]:=by
     have:=congrArg List.tail hargs
     simpa using this.symm
    subst hy;have hS:=tA h2.1;rw[dZ]at hfit hrep hk;cases hS with
    | nil c hv hus=>
      subst hus;have hrun:=run_copy_none (P:=P) w T U o.type E (some ⟨g,off,none⟩) none ts.length cap 0 c hu hsz (by simp)
      have hwp:o.wp P a w K Q=K (a.put o.dst (goInt 0)) w:=by
       unfold Oper.wp;simp[execOp,ho,resolve,invoke,builtin,hx,hv,hrun,Result.andThen,Oper.upon]
      rw[hwp];exact hk w cur [.int .i64 0] ⟨rfl,rfl,rfl,aa _,fun _ _ _=>rfl⟩ hg rfl (fun _ _=>rfl) ⟨⟨rfl,rfl⟩,trivial⟩ (by simpa using hrep)
    | some ad c news hv hl hn hr hs=>
      rw[dZ]at hl;have hrun:=run_copy_row (P:=P) w T U o.type E g off ts.length cap ad src.length c cur E news hu hsz hg (by rw[hl];exact(dQ hle).symm) hn (by omega) hr.one
      have hwp:o.wp P a w K Q=K (a.put o.dst (goInt news.length)) (w.setRow g (cur.toList.take off++(news++cur.toList.drop (off+news.length))).toArray):=by
       unfold Oper.wp;simp[execOp,ho,resolve,invoke,builtin,hx,hv,hrun,Result.andThen,Oper.upon]
      rw[hwp];have hcl:cur.toList.length=cur.size:=cT;have hus:(ts.take src.length).length=src.length:=by rw[bK];omega
      have hsp:=tu (w:=w) (M:=M) (sz:=1) (ts:=ts) (us:=ts.take src.length) (us':=src) (n:=0) hts (by rw[hus,ga]) (by rw[hus];omega) (by rw[hus]) hs (by simpa using hrep) hr;rw[hus]at hsp;refine hk _ _ [.int .i64 news.length] ⟨rfl,rfl,rfl,by simp,fun k _ hk=>gH w g k _ (by rintro rfl;exact hk rfl)⟩ (iz w _ _ _ _ _ hg) (by simp;omega) ?_ ⟨⟨by rw[hl],rfl⟩,trivial⟩ ?_
      ·intro j hj;rw[vK,<-kA];simp only[mC,dm,eo,bK]
       grind
      ·have e1:(cur.toList.take off++(news++cur.toList.drop (off+news.length))).toArray.toList.drop off=news++cur.toList.drop (off+news.length):=by
        show List.drop off (cur.toList.take off++(news++cur.toList.drop (off+news.length)))=_;rw[qg (by rw[bK];omega),lI (by rw[bK];omega),List.nil_append]
       rw[e1]
       have e2:(news++cur.toList.drop (off+news.length)).take ts.length=List.take (0*1) ((cur.toList.drop off).take ts.length)++news++List.drop (0*1+src.length*1) ((cur.toList.drop off).take ts.length):=by
        apply fJ;intro j;simp only[mC,dm,eo,cJ,bK,cW,hl]
        grind
       rw[e2];simp only[iy,List.nil_append,bM,dZ,lX]at hsp|-;refine ai.mono ?_ hsp;intro k ob hnk hob _;exact⟨hnk,by rw[gH w g k _ (by rintro rfl;exact hnk hMg)];exact hob⟩
theorem bh8{cid E sz n:Nat}{view:Option (C0×C0)}{as bs:List SW}{sh:List (Option Nat)}{ts us us' vs:List (List aC)}{rs:List aN}(h1:τ[cid]?=some (.rows ts))(h2:aE8 τ view ts n us)(hne:us≠[])(hs:rs.map aN.shape=sh.map some)
  (hr:Tj P op ty E sz (as.map (oG τ)) (bs.map (oG τ)) us rs us') (hv:ts.take n++us'++ts.drop (n+us.length)=vs) (hk:vc P post k (τ++(rs++[.rows vs])) bk):vc P post (.need (.rop cid E sz view as bs sh) op ty last k) τ bk:=
 .inl ⟨rs++[.rows vs],⟨ts,us,us',rs,n,h1,h2,hne,hs,hr,by rw[hv]⟩,by have:=congrArg List.length hs;simpa[dz.ids]using this,hk⟩
theorem cf1{cid n m:Nat}{lo hi mx:C0}{ts:List (List aC)}{k1 k2 k3:IntKind}(h1:τ[cid]?=some (.rows ts))(h2:c0 τ lo=.int k1 n)(h3:c0 τ hi=.int k2 m)(h4:c0 τ mx=.int k3 m)(hnm:n<m)(hm:m<=ts.length)(hk:vc P post k τ bk):vc P post (.need (.view cid lo hi mx) op ty last k) τ bk:=
 .inl ⟨[],⟨ts,k1,k2,k3,n,m,h1,h2,h3,h4,hnm,hm,rfl⟩,rfl,by rw[bw];exact hk⟩
theorem mA{vs:List SW}{cid:Nat}{rs:List aN}{ts:List (List aC)}(h1:τ[cid]?=some (.rows ts))(h:vs.map (oG τ)=rs):vc P (fun o=>o=.retr rs ts) (.retr vs cid) τ bk:=by
 refine⟨ts,h1,?_⟩;show Out.retr _ _=_;rw[h]
end
section
variable{P:Program}{T U ty:TypeId}{x y:Operand}{a b:Int}
theorem gK{n:Int}(h1:-9223372036854775808<=n:=by omega)(h2:n<9223372036854775808:=by omega):IntKind.i64.wrap n=n:=by rw[IntKind.wrap_i64];omega
theorem EU{n:Int}(h1:0<=n:=by omega)(h2:n<18446744073709551616:=by omega):IntKind.u64.wrap n=n:=by rw[qJ];omega
theorem XM{n:Int}(h1:0<=n)(h2:n<4294967296):IntKind.u32.wrap n=n:=by rw[IntKind.wrap_u32];omega
theorem ca1{n:Int}(h1:0<=n)(h2:n<256):IntKind.u8.wrap n=n:=by rw[IntKind.wrap_u8];omega
theorem aB(h1:-9223372036854775808<=a+b)(h2:a+b<9223372036854775808):ah P (.binOp .add T x y U) ty [.one (.int .i64 a),.one (.int .i64 b)] (.one (.int .i64 (a+b))):=fS (gK h1 h2)
theorem aH(h1:-9223372036854775808<=a-b)(h2:a-b<9223372036854775808):ah P (.binOp .sub T x y U) ty [.one (.int .i64 a),.one (.int .i64 b)] (.one (.int .i64 (a-b))):=oN (gK h1 h2)
theorem pN(h1:-9223372036854775808<=a*b:=by omega)(h2:a*b<9223372036854775808:=by omega):ah P (.binOp .mul T x y U) ty [.one (.int .i64 a),.one (.int .i64 b)] (.one (.int .i64 (a*b))):=ur (gK h1 h2)
theorem xL(h0:0<=a:=by omega)(h1:0<b:=by omega)(h2:a<9223372036854775808:=by omega):ah P (.binOp .quo T x y U) ty [.one (.int .i64 a),.one (.int .i64 b)] (.one (.int .i64 (a/b))):=pK (by omega) (by
 have h3:a/b<=a:=Int.ediv_le_self b h0;have h4:0<=a/b:=RX h0 (by omega);rw[oa h0,gK])
theorem uv{k:IntKind}(hu:∃d,P.underlying T=some d)(hd:P.underlying U=some (.int .i64))(h1:-9223372036854775808<=a:=by omega)(h2:a<9223372036854775808:=by omega):ah P (.convert T U x) ty [.one (.int k a)] (.one (.int .i64 a)):=jg hu hd (gK h1 h2)
theorem Ls(h1:-9223372036854775808<=-a:=by omega)(h2:-a<9223372036854775808:=by omega):ah P (.unOp .neg T x) ty [.one (.int .i64 a)] (.one (.int .i64 (-a))):=bj1 (by rw[Int.zero_sub];exact gK h1 h2)
theorem ai2(h1:0<=a+b:=by omega)(h2:a+b<18446744073709551616:=by omega):ah P (.binOp .add T x y U) ty [.one (.int .u64 a),.one (.int .u64 b)] (.one (.int .u64 (a+b))):=fS (EU h1 h2)
theorem an4(h1:0<=a-b:=by omega)(h2:a-b<18446744073709551616:=by omega):ah P (.binOp .sub T x y U) ty [.one (.int .u64 a),.one (.int .u64 b)] (.one (.int .u64 (a-b))):=oN (EU h1 h2)
theorem al9(h1:0<=a*b:=by omega)(h2:a*b<18446744073709551616:=by omega):ah P (.binOp .mul T x y U) ty [.one (.int .u64 a),.one (.int .u64 b)] (.one (.int .u64 (a*b))):=ur (EU h1 h2)
theorem Ln(h0:0<=a:=by omega)(h1:0<b:=by omega)(h2:a<18446744073709551616:=by omega):ah P (.binOp .quo T x y U) ty [.one (.int .u64 a),.one (.int .u64 b)] (.one (.int .u64 (a/b))):=pK (by omega) (by
 have h3:a/b<=a:=Int.ediv_le_self b h0;have h4:0<=a/b:=RX h0 (by omega);rw[oa h0,EU])
theorem rV{k:IntKind}(hu:∃d,P.underlying T=some d)(hd:P.underlying U=some (.int .u64))(h1:0<=a:=by omega)(h2:a<18446744073709551616:=by omega):ah P (.convert T U x) ty [.one (.int k a)] (.one (.int .u64 a)):=jg hu hd (EU h1 h2)
theorem mf(h1:0<=a+b:=by omega)(h2:a+b<4294967296:=by omega):ah P (.binOp .add T x y U) ty [.one (.int .u32 a),.one (.int .u32 b)] (.one (.int .u32 (a+b))):=fS (XM h1 h2)
theorem ml(h1:0<=a-b:=by omega)(h2:a-b<4294967296:=by omega):ah P (.binOp .sub T x y U) ty [.one (.int .u32 a),.one (.int .u32 b)] (.one (.int .u32 (a-b))):=oN (XM h1 h2)
theorem oj{k:IntKind}(hu:∃d,P.underlying T=some d)(hd:P.underlying U=some (.int .u32))(h1:0<=a:=by omega)(h2:a<4294967296:=by omega):ah P (.convert T U x) ty [.one (.int k a)] (.one (.int .u32 a)):=jg hu hd (XM h1 h2)
theorem TW(h1:0<=a+b:=by omega)(h2:a+b<256:=by omega):ah P (.binOp .add T x y U) ty [.one (.int .u8 a),.one (.int .u8 b)] (.one (.int .u8 (a+b))):=fS (ca1 h1 h2)
variable{k:IntKind}
theorem mX(h0:0<=a:=by omega)(h1:0<b:=by omega):ah P (.binOp .rem T x y U) ty [.one (.int k a),.one (.int k b)] (.one (.int k (a%b))):=CK (by omega) (qM h0)
theorem bj:ah P (.binOp .eql T x y U) ty [.one (.int k a),.one (.int k b)] (.one (.bool (decide (a=b)))):=aI2
theorem fC:ah P (.binOp .neq T x y U) ty [.one (.int k a),.one (.int k b)] (.one (.bool (decide (a≠b)))):=by
 have:decide (a≠b) = !decide (a=b):=by by_cases h:a=b<;>simp[h]
 rw[this];exact TZ
theorem aj:ah P (.binOp .lss T x y U) ty [.one (.int k a),.one (.int k b)] (.one (.bool (decide (a<b)))):=tW
theorem jO:ah P (.binOp .leq T x y U) ty [.one (.int k a),.one (.int k b)] (.one (.bool (decide (a<=b)))):=bS3
theorem fB:ah P (.binOp .gtr T x y U) ty [.one (.int k a),.one (.int k b)] (.one (.bool (decide (b<a)))):=Tt
theorem iI:ah P (.binOp .geq T x y U) ty [.one (.int k a),.one (.int k b)] (.one (.bool (decide (b<=a)))):=Fq
theorem mn{p:Prop}[Decidable p]:ah P (.unOp .not T x) ty [.one (.bool (decide p))] (.one (.bool (decide (¬p)))):=by
 have:decide (¬p) = !decide p:=by by_cases h:p<;>simp[h]
 rw[this];exact gQ
theorem cp4{s t:ByteArray}:(s.toList==t.toList)=decide (s.data=t.data):=by
 rw[ByteArray.toList_eq,ByteArray.toList_eq];by_cases h:s.data=t.data
 ·simp[h]
 ·have:¬s.data.toList=t.data.toList:=fun e=>h (Array.toList_inj.1 e);simp[h]
theorem xd{s t:ByteArray}:ah P (.binOp .eql T x y U) ty [.one (.str s),.one (.str t)] (.one (.bool (decide (s.data=t.data)))):=by
 rw[<-cp4];exact ag0
theorem bz7{p q:Bool}(hu:P.underlying T=some .bool):ah P (.binOp .eql T x y U) ty [.one (.bool p),.one (.bool q)] (.one (.bool (decide (p=q)))):=by
 intro M w ρ o ho _ hr;obtain⟨hx,hy⟩:=rF hr;have hx:ρ x=.bool p/\_:=hx;have hy:ρ y=.bool q/\_:=hy;exact⟨.bool (decide (p=q)),by cases p<;>cases q<;>simp[execOp,ho,hx.1,hy.1,eqGuard,binOp,Op.equal,Op.maxDepth,run_equalIn_bool _ _ _ _ _ hu],⟨rfl,rfl⟩⟩
theorem bw9{p q:Bool}(hu:P.underlying T=some .bool):ah P (.binOp .neq T x y U) ty [.one (.bool p),.one (.bool q)] (.one (.bool (decide (p≠q)))):=by
 intro M w ρ o ho _ hr;obtain⟨hx,hy⟩:=rF hr;have hx:ρ x=.bool p/\_:=hx;have hy:ρ y=.bool q/\_:=hy;exact⟨.bool (decide (p≠q)),by cases p<;>cases q<;>simp[execOp,ho,hx.1,hy.1,eqGuard,binOp,Op.equal,Op.maxDepth,run_equalIn_bool _ _ _ _ _ hu],⟨rfl,rfl⟩⟩
theorem aJ{E sz b m:Nat}{n:Int}{α:Type}{f:α->List aC}{xs:List α}{d:α}(h:dY P T=some (E,sz,b))(h0:0<=n)(hm:n.toNat=m)(hd:xs[m]?=some d) :
  ah P (.indexAddr T x y) ty [.one (.slice sz (xs.map f)),.one (.int k n)] (.one (.aw (f d))):=Zh h (by rw[hm,cn,hd];rfl) h0
theorem bm9{ts:Array TypeId}:ah P (.call ⟨.builtin .min,#[x,y],ts⟩) ty [.one (.int k a),.one (.int k b)] (.one (.int k (min a b))):=by
 intro M w ρ o ho ht hr;obtain⟨hx,hy⟩:=rF (x:=x) (y:=y) hr;have hx:ρ x=.int k a/\_:=hx;have hy:ρ y=.int k b/\_:=hy;have e:(if b<a then b else a)=min a b:=by omega
 exact⟨.int k (min a b),by simp[execOp,ho,resolve,invoke,builtin,hx.1,hy.1,run_min_int2,e],⟨rfl,rfl⟩⟩
theorem aM3{ts:Array TypeId}:ah P (.call ⟨.builtin .max,#[x,y],ts⟩) ty [.one (.int k a),.one (.int k b)] (.one (.int k (max a b))):=by
 intro M w ρ o ho ht hr;obtain⟨hx,hy⟩:=rF (x:=x) (y:=y) hr;have hx:ρ x=.int k a/\_:=hx;have hy:ρ y=.int k b/\_:=hy;have e:(if a<b then b else a)=max a b:=by omega
 exact⟨.int k (max a b),by simp[execOp,ho,resolve,invoke,builtin,hx.1,hy.1,run_max_int2,e],⟨rfl,rfl⟩⟩
theorem bg{c:aC}(h:oX P T=some (false,1)):ah P (.load T x) ty [.one (.aw [c])] (.one c):=aQ (n:=1) h (by decide) (by simp) (.inr rfl)
end
section
variable{P:Program}{post:Out->Prop}{bk:List (List aN->Prop)}{τ:Env}{op:Op}{ty:Nat}{last:Bool}{k:Tr}{α:Type}{f:α->List aC}
theorem br{cid:Nat}{i:C0}{xs:List α}{ik:IntKind}{n:Int}(h1:τ[cid]?=some (.rows (xs.map f)))(h2:c0 τ i=.int ik n)(h0:0<=n)(hn:n<xs.length)(hk:vc P post k τ bk):vc P post (.need (.idx cid i) op ty last k) τ bk:=
 qV h1 h2 h0 (by rw[aI];exact hn) hk
theorem Kj{cid off sz m:Nat}{ag:Bool}{i:C0}{xs:List α}{d:α}{ik:IntKind}{n:Int}{t:aN}(h1:τ[cid]?=some (.rows (xs.map f)))(h2:c0 τ i=.int ik n)(h0:0<=n)(hm:n.toNat=m)(hd:xs[m]?=some d)(hag:ag=true\/sz=1)(ht:Yi ag (((f d).drop off).take sz)=t)(hk:vc P post k (τ++[t]) bk):vc P post (.need (.ldrow cid i off sz ag) op ty last k) τ bk:=
 vld h1 h2 h0 (by rw[hm,cn,hd];rfl) hag ht hk
theorem oD{cid off m:Nat}{i:C0}{xs:List α}{d:α}{c:aC}{ik:IntKind}{n:Int}(h1:τ[cid]?=some (.rows (xs.map f)))(h2:c0 τ i=.int ik n)(h0:0<=n)(hm:n.toNat=m)(hd:xs[m]?=some d)(hc:(f d)[off]?=some c)(hk:vc P post k (τ++[.one c]) bk):vc P post (.need (.ldrow cid i off 1 false) op ty last k) τ bk:=by
 refine Kj h1 h2 h0 hm hd (.inr rfl) ?_ hk;obtain⟨hlt,he⟩:=dM.1 hc;rw[jE hlt,he];rfl
theorem iJ{cid sz off m:Nat}{i:C0}{cs:List C0}{xs:List α}{d d':α}{ik:IntKind}{n:Int}(h1:τ[cid]?=some (.rows (xs.map f)))(h2:c0 τ i=.int ik n)(h0:0<=n)(hm:n.toNat=m)(hd:xs[m]?=some d)
  (hu:(f d).take off++cs.map (c0 τ)++(f d).drop (off+cs.length)=f d') (hk:vc P post k (τ++[.rows ((xs.set m d').map f)]) bk):vc P post (.need (.strow cid sz i off cs) op ty last k) τ bk:=
 Mf h1 h2 h0 (by rw[hm,cn,hd];rfl) (by rw[hm,hu,sf]) hk
theorem AO{z:List Value}{b:Nat}{l c:C0}{n:Nat}{m:Int}{kl kc:IntKind}(a:α)(h1:c0 τ l=.int kl m)(h2:c0 τ c=.int kc m)(hmn:m=n)(hu:z.map .exact=f a)(hb:b*n<=140737488355328)(hm:n<=maxLen)(hk:vc P post k (τ++[.rows ((List.replicate n a).map f)]) bk):vc P post (.need (.make z b l c) op ty last k) τ bk:=
 ri (n:=n) (m:=n) (by rw[<-hmn];exact h1) (by rw[<-hmn];exact h2) (by rw[hu,nq]) (aa _) hb hm hk
theorem iE{sz b:Nat}{cid:Option Nat}{src:Option C0}{row:Option Nat}{xs:List α}{x:α}(h1:aF7 τ cid (xs.map f))(h2:aA7 τ sz src row [f x])(hb:(xs.length+1)*b<=140737488355328)(hm:xs.length+1<=maxLen)(hk:vc P post k (τ++[.rows ((xs++[x]).map f)]) bk):vc P post (.need (.app sz b cid src row) op ty last k) τ bk:=
 uH (ts:=xs.map f) (us:=[f x]) h1 h2 (by rw[bt];rfl) (by rw[aI,cJ];exact hb) (by rw[aI,cJ];exact hm) hk
theorem ar9{cid E b2:Nat}{s:SW}{x y:Operand}{T U:Nat}{xs zs ws:List α}(hf:∀a,(f a).length=1)(h1:τ[cid]?=some (.rows (zs.map f)))(h2:oG τ s=.one (.slice 1 (xs.map f)))(hT:dY P T=some (E,1,b2))(hle:xs.length<=zs.length)(hne:zs≠[])(hw:xs++zs.drop xs.length=ws)
  (hk:vc P post k (τ++[.one (.int .i64 xs.length),.rows (ws.map f)]) bk):vc P post (.need (.rop cid E 1 none [] [s] [none]) (.call ⟨.builtin .copy,#[x,y],#[T,U]⟩) ty last k) τ bk:=by
 have hall:∀l:List α,∀t∈l.map f,t.length=1:=fun l t ht=>by
  obtain⟨a,_,rfl⟩:=dH.1 ht;exact hf a
 refine bh8 (n:=0) (us:=zs.map f) h1 ⟨rfl,rfl⟩ (by simpa using hne) rfl (by rw[List.map_singleton,h2];exact ap9 (sz2:=0) hT (by simpa using hle) (hall xs) (hall zs)) rfl ?_
 have e1:List.take 0 (zs.map f)++(xs.map f++(zs.map f).drop (xs.map f).length)++(zs.map f).drop (0+(zs.map f).length)=ws.map f:=by
  rw[iy,List.nil_append,bM,Ar,bw,aI,<-kC,<-bt,hw]
 rw[e1,aI];exact hk
end
abbrev W(i j:Nat):SW:=.one (.c (.u i j))
abbrev U(i j:Nat):SC:=.c (.u i j)
abbrev ck:Nat->Option Hint:=fun _=>none
abbrev WK(n:Int):SW:=.one (.c (.k (.int .i64 n)))
abbrev I3(n:Int):Value:=.int .i64 n
abbrev G1(i:Nat):SW:=.agg [U i 0]
abbrev G2(i:Nat):SW:=.agg [U i 0,U i 1]
abbrev G3(i:Nat):SW:=.agg [U i 0,U i 1,U i 2]
abbrev G4(i:Nat):SW:=.agg [U i 0,U i 1,U i 2,U i 3]
abbrev tE(v:Value):SC:=.c (.k v)
abbrev tN:SC:=.c (.k (.slice none 0 0))
abbrev tF(b:Bool):SW:=.one (.c (.k (.bool b)))
abbrev lV(i j:Nat):LV:=.w (W i j)
abbrev lK(z:Int):LV:=.w (WK z)
abbrev lN:LV:=.w (.one tN)
abbrev tT(n:Nat):Operand:=.tmp n
def qS(o:BinOp)(T t:Nat)(z:Int)(i j ty:Nat)(k:Tr):Tr:=.need (.prim [W i j,WK z] none) (.binOp o T (.tmp t) (.const (I3 z)) T) ty false k
def oe(o:BinOp)(T t u i j m n ty:Nat)(k:Tr):Tr:=.need (.prim [W i j,W m n] none) (.binOp o T (.tmp t) (.tmp u) T) ty false k
def fO(f:Nat)(as:List SW)(sh:List (Option Nat))(ts vf:List Nat)(ty:Nat)(l:Bool)(k:Tr):Tr:=.need (.call f as sh) (.call ⟨.value (.func f),(ts.map Operand.tmp).toArray,vf.toArray⟩) ty l k
def dp(a:Nat)(b:Int)(c:Nat)(d:Tr):Tr:=.need (.prim [(W a 0),(WK b)] none) (.binOp .sub 3 (.tmp c) (.const (I3 b)) 3) 3 false d
def rY(a:Nat):Tr:=.ret [(.agg [(U a 0)])]
def aF4(a:Tr):Tr:=.need (.prim [(W 0 0),(W 2 0),(W 2 0)] none) (.slice 40 (tT 18) none (some (tT 19)) (some (tT 20))) 40 false a
def aR(a b:Nat)(c d:Tr):Tr:=.split (.u a b) c d
def ar6(a:Nat)(b:Int)(c:Nat)(d:Tr):Tr:=.need (.prim [(W a 0),(.one (.c (.k (.int .u32 b))))] none) (.binOp .eql 237 (.tmp c) (.const (.int .u32 b)) 237) 4 false d
def dh(a b c:Nat)(d:Tr):Tr:=.need (.prim [(W a 0)] none) (.load b (.tmp c)) b false d
def bA(a b c d e g h:Nat)(i:Tr):Tr:=.need (.prim [(W a b),(W c d)] none) (.indexAddr e (.tmp g) (.tmp h)) 0 false i
def BR(a:Nat)(b:Tr):Tr:=.loop 0 [(.w (W a 0))] b
def al(a b c d:Nat)(e:Tr):Tr:=.need (.prim [(W a b)] none) (.call ⟨.builtin .len,#[(.tmp c)],#[d]⟩) 3 false e
def qn(a:Int)(b c:Nat):Tr:=.back 0 [(.w (.one (.c (.k (.int .u32 a))))),(.w (W b 0)),.row c]
def ao(a:Nat)(b:Int)(c d:Nat)(e:Tr):Tr:=.need (.prim [(W a 0),(WK b)] none) (.binOp .add c (.tmp d) (.const (I3 b)) c) c false e
def fR(a b c d e g:Nat)(h:Tr):Tr:=.need (.strow a 1 (.u b 0) 0 [(.u c 0)]) (.store d (.tmp e) (.tmp g)) 0 false h
def cF(a b c d e:Nat)(g:Tr):Tr:=.need (.idx a (.u b 0)) (.indexAddr c (.tmp d) (.tmp e)) 0 false g
def ac8(a b:Nat)(c:Tr):Tr:=.need (.prim [(W a 0),(.one (.c (.k (.int .u32 1000000000))))] none) (.binOp .sub 237 (.tmp b) (.const (.int .u32 1000000000)) 237) 237 false c
def aa5(a b:Nat)(c:Tr):Tr:=.need (.prim [(W a 0),(.one (.c (.k (.int .u32 1000000000))))] none) (.binOp .geq 237 (.tmp b) (.const (.int .u32 1000000000)) 237) 4 false c
def fF(a b c d e:Nat)(g:Tr):Tr:=.need (.prim [(W a 0),(W b 0)] none) (.binOp .add c (.tmp d) (.tmp e) c) c false g
def dD(a b c d e g h:Nat)(i:Tr):Tr:=.need (.prim [(W a b),(W c 0)] none) (.binOp .lss d (.tmp e) (.tmp g) d) h false i
def Zr(a b:Nat)(c:Tr):Tr:=.need (.call 208 [(.one (.c (.sr 1 a)))] [(some 1)]) (.call ⟨.value (.func 208),#[(.tmp b)],#[40]⟩) 42 true c
def My(a:Nat)(b:Tr):Tr:=.loop 0 [(.w (.one (.c (.k (.int .u32 0))))),(.w (WK 0)),.row a] b
def BN(a b:Nat)(c:Tr):Tr:=.need (.make [(.int .u32 0)] 4 (.u a 0) (.u a 0)) (.makeSlice 40 (.tmp b) (.tmp b)) 40 false c
def cH(a:Nat):Tr:=.ret [(W a 0)]
def eB(a b:Nat)(c:Int)(d e:Nat)(g:Tr):Tr:=.need (.prim [(W a b),(WK c)] none) (.binOp .eql d (.tmp e) (.const (I3 c)) d) 4 false g
def gq(a b c:Nat):Tr:=.back a [(.w (W b 0)),.row c]
def YR(a b:Nat)(c:Tr):Tr:=.need (.prim [(W a 0),(.one (.c (.k (.int .u64 1000000000))))] none) (.binOp .quo 236 (.tmp b) (.const (.int .u64 1000000000)) 236) 236 false c
def fH(a b c d e g h:Nat)(i:Tr):Tr:=.need (.app a b (some c) none (some d)) (.call ⟨.builtin .append,#[(.tmp e),(.tmp g)],#[h,h]⟩) h false i
def vH(a b c:Nat)(d:Tr):Tr:=.need (.lit 1 [[(.u a 0)]]) (.buildSlice b 1 #[(0,(.tmp c))]) b false d
def gJ(a b c d:Nat)(e:Tr):Tr:=.need (.prim [(W a 0)] none) (.convert b c (.tmp d)) c false e
def ad4(a b:Nat)(c:Tr):Tr:=.need (.prim [(W a 0),(.one (.c (.k (.int .u64 1000000000))))] none) (.binOp .rem 236 (.tmp b) (.const (.int .u64 1000000000)) 236) 236 false c
def Yt(a:Tr):Tr:=.loop 0 [lV 0 0,.nilrow] a
def lx(a b c d:Nat):Tr:=.ret [(.agg [(U a b),(U c d)])]
def kL(a b c:Nat)(d:Tr):Tr:=.need (.prim [(W a b)] none) (.unOp .not 4 (.tmp c)) 4 false d
def og(a:Int):Tr:=.ret [(WK a)]
def Cc(a b c d e:Nat)(g:Tr):Tr:=.need (.call a [(.agg [(U b c)])] [none]) (.call ⟨.value (.func a),#[(.tmp d)],#[42]⟩) e true g
def qi(a b c d:Nat):Tr:=.back a [(.w (W b 0)),(.w (W c 0)),.row d]
def nN(a b c d:Nat)(e:Tr):Tr:=.need (.ldrow a (.u b 0) 0 1 false) (.load c (.tmp d)) c false e
def Ed(a b:Nat)(c:Tr):Tr:=.loop a [(.w (WK 0)),.row b] c
def mz(a b c d e:Nat)(g:Tr):Tr:=.need (.call a [(W b 0)] [none]) (.call ⟨.value (.func a),#[(.tmp c)],#[d]⟩) e true g
def iY(a b c:Nat):Tr:=.back a [(.w (W b 0)),(.w (W c 0))]
def my(a:Nat)(b:Int)(c d:Nat)(e:Tr):Tr:=.need (.prim [(W a 0),(WK b)] none) (.binOp .neq c (.tmp d) (.const (I3 b)) c) 4 false e
def gR(a b c d e g h i j:Nat)(k:Tr):Tr:=.need (.call a [(W b c),(W d c)] [none]) (.call ⟨.value (.func a),#[(.tmp e),(.tmp g)],#[h,i]⟩) j true k
def nG(a:Nat)(b:Int)(c:Nat)(d:Tr):Tr:=.need (.prim [(W a 0),(WK b)] none) (.binOp .geq 3 (.tmp c) (.const (I3 b)) 3) 4 false d
def aG2(a b:Nat)(c:Tr):Tr:=.need (.prim [(W a 0),(.one (.c (.k (.int .u64 1000000000))))] none) (.binOp .mul 236 (.tmp b) (.const (.int .u64 1000000000)) 236) 236 false c
def nL(a b c d e g:Nat)(h:Tr):Tr:=.need (.call a [(W b 0)] [(some c)]) (.call ⟨.value (.func a),#[(.tmp d)],#[e]⟩) g true h
def WT(a b:Nat)(c:Tr):Tr:=.need (.call 208 [(.one (.c (.sr 1 a)))] [(some 1)]) (.call ⟨.value (.func 208),#[(.tmp b)],#[40]⟩) 42 false c
def re(a b:Nat)(c:Int)(d e:Nat)(g:Tr):Tr:=.need (.prim [(W a b),(WK c)] none) (.indexAddr d (.tmp e) (.const (I3 c))) 0 false g
def hx154Q:Tr:=.ret [(tF false)]
def eH(a b c d e g:Nat)(h:Tr):Tr:=.need (.prim [(W a 0),(W b c)] none) (.binOp .sub d (.tmp e) (.tmp g) d) d false h
def Wi(a:Nat)(b:Int)(c:Nat)(d:Tr):Tr:=.need (.prim [(W a 0),(.one (.c (.k (.int .u32 b))))] none) (.binOp .add 237 (.tmp c) (.const (.int .u32 b)) 237) 237 false d
def uz(a b c:Nat)(d:Tr):Tr:=.need (.lenrow a) (.call ⟨.builtin .len,#[(.tmp b)],#[c]⟩) 3 false d
def Xg(a b c d e g h:Nat)(i:Tr):Tr:=.need (.rop a b c none [] [(W d 0)] [none]) (.call ⟨.builtin .copy,#[(.tmp e),(.tmp g)],#[h,h]⟩) 3 false i
def Pz(a:Nat)(b:Int)(c d:Nat):Tr:=.back 0 [(.w (W a 0)),(.w (WK b)),(.w (W c 0)),.row d]
def iC(a b:Nat)(c:Int)(d e:Nat)(g:Tr):Tr:=.need (.prim [(W a b),(WK c)] none) (.binOp .lss d (.tmp e) (.const (I3 c)) d) 4 false g
def uM(a b c:Nat):Tr:=.back 0 [(.w (W a 0)),.row b,.row c]
def aw4(a b:Nat)(c:Tr):Tr:=.loop 1 [(.w (.one (.c (.k (.bool false))))),(.w (W a 0)),.row b] c
def Vz(a b c d:Nat)(e:Tr):Tr:=.need (.call 222 [(.agg [(U a 0)]),(.agg [(U b 0)])] [(some 1),(some 1)]) (.call ⟨.value (.func 222),#[(.tmp c),(.tmp d)],#[42,42]⟩) 249 false e
def pC(a b c d e g:Nat)(h:Tr):Tr:=.need (.call a [(.agg [(U b c)]),(.agg [(U d 0)])] [(some 1)]) (.call ⟨.value (.func a),#[(.tmp e),(.tmp g)],#[42,42]⟩) 42 true h
def YT(a b c d e:Nat)(g:Tr):Tr:=.need (.call 158 [(W a b),(.agg [(U c 0)])] [(some 2)]) (.call ⟨.value (.func 158),#[(.tmp d),(.tmp e)],#[4,42]⟩) 44 true g
def WD(a b c:Nat)(d:Tr):Tr:=.need (.prim [(W a 0)] none) (.unOp .neg b (.tmp c)) b false d
def kZ(a b c:Nat):Tr:=.ret [(.agg [(U a 0),(U a 1),(U b c)])]
def aJ5(a:Tr):Tr:=.need (.call 206 [(.one (.c (.k (.int .u64 1))))] [(some 1)]) (.call ⟨.value (.func 206),#[(.const (.int .u64 1))],#[236]⟩) 42 false a
def ae3(a b c d e:Nat)(g:Tr):Tr:=.need (.call 158 [(W a b),(.agg [(U c 0)])] [(some 2)]) (.call ⟨.value (.func 158),#[(.tmp d),(.tmp e)],#[4,42]⟩) 44 false g
def LO(a b c d e:Nat)(g:Tr):Tr:=.need (.call a [(.agg [(U b 0),(U b 1)])] [none]) (.call ⟨.value (.func a),#[(.tmp c)],#[d]⟩) e true g
def vP(a b c d e g:Nat)(h:Tr):Tr:=.need (.call a [(.agg [(U b 0),(U b 1)]),(.agg [(U c 0),(U c 1)])] [(some 2)]) (.call ⟨.value (.func a),#[(.tmp d),(.tmp e)],#[g,g]⟩) g false h
def rD(a b c d e:Nat)(g:Tr):Tr:=.need (.call a [(.agg [(U b 0),(U b 1),(U b 2)])] [(some c)]) (.call ⟨.value (.func a),#[(.tmp d)],#[46]⟩) e false g
def jN(a b c d e g h i j:Nat)(k:Tr):Tr:=.need (.call a [(.agg [(U b 0),(U c d),(U e g)]),(.agg [(U h 0),(U h 1),(U h 2)])] [(some 3)]) (.call ⟨.value (.func a),#[(.tmp i),(.tmp j)],#[46,46]⟩) 46 true k
def EK(a b c d:Nat)(e:Tr):Tr:=.need (.call a [(.agg [(U b 0),(U b 1),(U b 2)])] [none]) (.call ⟨.value (.func a),#[(.tmp c)],#[46]⟩) d true e
def Lt(a b c d e:Nat)(g:Tr):Tr:=.need (.call a [(W b 0)] [(some c)]) (.call ⟨.value (.func a),#[(.tmp d)],#[2]⟩) e false g
def Lq(a b c d:Nat)(e:Tr):Tr:=.need (.call a [(.agg [(U b 0),(U b 1),(U b 2)])] [none]) (.call ⟨.value (.func a),#[(.tmp c)],#[46]⟩) d false e
def hx173Q:Tr:=.ret [(.one (.c (.k (.slice none 0 0))))]
def nP(a b:Nat):Tr:=.ret [(.one (.c (.sr a b)))]
def TI(a b c d e g h:Nat)(i:Tr):Tr:=.need (.app a b (some c) (some (.u d 0)) none) (.call ⟨.builtin .append,#[(.tmp e),(.tmp g)],#[h,h]⟩) h false i
def aq3(a:Nat)(b:Tr):Tr:=.need (.lit 3 []) (.buildSlice a 0 #[]) a false b
def aJ8(a:Nat)(b:Tr):Tr:=.need (.prim [(W 0 0),(.one (.c (.k (.slice none 0 0))))] none) (.binOp .eql a (tT 3) (.const (.slice none 0 0)) a) 4 false b
def Ly(a b c d:Nat)(e:Tr):Tr:=.need (.prim [(W 0 0),(W a 0)] none) (.slice b (.tmp c) none (some (.tmp d)) none) b false e
def bW(a b c d:Nat)(e:Tr):Tr:=.need (.prim [(W a 0)] (some b)) (.load c (.tmp d)) c false e
def Cv(a b c d e:Nat)(g:Tr):Tr:=.need (.call a [(W b 0)] [none]) (.call ⟨.value (.func a),#[(.tmp c)],#[d]⟩) e false g
def YI(a b c d e:Nat)(g:Tr):Tr:=.need (.app a b none (some (.u c 0)) none) (.call ⟨.builtin .append,#[(.const (.slice none 0 0)),(.tmp d)],#[e,e]⟩) e false g
def pD(a b c d e g h i j k l m n o p q r s:Nat)(u:Tr):Tr:=.need (.call a [(.agg [(U b 0),(U c d),(U e g),(U h i)]),(.agg [(U j k),(U l m),(U n o),(U p q)])] [(some 4)]) (.call ⟨.value (.func a),#[(.tmp r),(.tmp s)],#[51,51]⟩) 51 true u
def pE(a b c d e g h i j:Nat)(k:Tr):Tr:=.need (.call a [(.agg [(U b 0),(U c d),(U e g)]),(.agg [(U h 0),(U h 1),(U h 2)])] [(some 3)]) (.call ⟨.value (.func a),#[(.tmp i),(.tmp j)],#[46,46]⟩) 46 false k
def aw5(a b:Nat)(c:Tr):Tr:=.need (.prim [(W a 2),(.one (.c (.k (.int .u8 4))))] none) (.binOp .rem 5 (.tmp b) (.const (.int .u8 4)) 5) 5 false c
def Bj(a b c d e g h i j k:Nat)(l:Tr):Tr:=.need (.call a [(W b 0),(W c d)] [(some e)]) (.call ⟨.value (.func a),#[(.tmp g),(.tmp h)],#[i,j]⟩) k true l
def UC(a b c d e g h i j k:Nat)(l:Tr):Tr:=.need (.call a [(W b 0),(W c d)] [(some e),none]) (.call ⟨.value (.func a),#[(.tmp g),(.tmp h)],#[i,j]⟩) k false l
def ju(a b c:Nat)(d:Tr):Tr:=.need (.lit 4 [[(.u a 0),(.u a 1),(.u a 2),(.u a 3)]]) (.buildSlice b 1 #[(0,(.tmp c))]) b false d
def wM(a b c:Nat)(d:Tr):Tr:=.need (.lit 3 [[(.u a 0),(.u a 1),(.u a 2)]]) (.buildSlice b 1 #[(0,(.tmp c))]) b false d
def aI0(a b c:Nat)(d:Tr):Tr:=.need (.prim [(W a 0),(WK 1)] none) (.slice b (.tmp c) (some (.const (I3 1))) none none) b false d
def aD4(a b:Nat)(c:Tr):Tr:=.need (.prim [(.one (.c (.k (.string ⟨#[45]⟩)))),(W a 0)] none) (.binOp .add 9 (.const (.string ⟨#[45]⟩)) (.tmp b) 9) 9 false c
def pT(a b c d e:Nat)(g:Tr):Tr:=.need (.call a [(.agg [(U b 0),(U b 1),(U b 2),(U b 3)])] [(some c)]) (.call ⟨.value (.func a),#[(.tmp d)],#[51]⟩) e false g
def aM6(a:Nat)(b:Tr):Tr:=.need (.prim [(.one (.c (.k (.string ⟨#[47]⟩)))),(W a 0)] none) (.binOp .add 9 (.const (.string ⟨#[47]⟩)) (tT 20) 9) 9 false b
def Zi(a b c d e:Nat)(g:Tr):Tr:=.need (.strow a 3 (.u b 0) 0 [(.u c 0),(.u c 1),(.u c 2)]) (.store 46 (.tmp d) (.tmp e)) 0 false g
def uW(a b c d e:Nat)(g:Tr):Tr:=.need (.call a [(.one (.c (.sr b c)))] [none]) (.call ⟨.value (.func a),#[(.tmp d)],#[e]⟩) e true g
def ab2(a b c:Nat)(d:Tr):Tr:=.need (.make [(.slice none 0 0),(.bool false),(.slice none 0 0)] 56 (.u a 0) (.u a 0)) (.makeSlice b (.tmp c) (.tmp c)) b false d
def VD(a b c d e g h i j:Nat)(k:Tr):Tr:=.need (.call a [(W b 0),(W c 0)] [(some d)]) (.call ⟨.value (.func a),#[(.tmp e),(.tmp g)],#[h,i]⟩) j false k
def OM(a b c d e:Nat)(g:Tr):Tr:=.need (.ldrow a (.u b 0) 0 c true) (.load d (.tmp e)) d false g
def az1(a b c d:Nat)(e:Tr):Tr:=.need (.lit 3 [[(.u a 0),(.u a 1),(.u a 2)],[(.u b 0),(.u b 1),(.u b 2)]]) (.buildSlice 98 2 #[(0,(.tmp c)),(1,(.tmp d))]) 98 false e
def pI(a:Nat)(b:Int)(c d e:Nat)(g:Tr):Tr:=.need (.call a [(WK b)] [(some c)]) (.call ⟨.value (.func a),#[(.const (I3 b))],#[d]⟩) e true g
def xf(a:Tr):Tr:=.loop 0 [(.w (WK 0)),(.w (WK 0))] a
def xj(a:Int)(b:Tr):Tr:=.loop 0 [(.w (.one (.c (.k (.bool false))))),(.w (WK a))] b
def ay1(a b:Nat)(c:Tr):Tr:=.need (.prim [(W a 0),(WK 0)] none) (.call ⟨.builtin .max,#[(.tmp b),(.const (I3 0))],#[3,3]⟩) 3 false c
def xr(a:Tr):Tr:=.loop 0 [(.w (WK 0)),.nilrow] a
def aJ3(a b:Nat):Tr:=.ret [(.agg [(U a 0),(.c (.sr 1 b))])]
def UJ(a b c d e g h i:Nat)(j:Tr):Tr:=.need (.call a [(W b 0),(W c 0)] [none]) (.call ⟨.value (.func a),#[(.tmp d),(.tmp e)],#[g,h]⟩) i false j
def Ng(a b c d e g:Nat):Tr:=.back 0 [(.w (W a 0)),(.w (W b 0)),(.w (W c d)),(.w (W e g))]
def Lg(a b c d e g:Nat)(h:Tr):Tr:=.need (.call a [(.agg [(U b 0),(U b 1)])] [(some c)]) (.call ⟨.value (.func a),#[(.tmp d)],#[e]⟩) g false h
def aA8(a:Int)(b:Tr):Tr:=fO 189 [(WK a),(.one (.c (.sr 1 3)))] [(some 2)] [22,23] [3,47] 49 true b
def OB(a:Int)(b c:Nat):Tr:=.back 0 [(.w (WK a)),(.w (W b 0)),.row c]
def aN6(a:Tr):Tr:=.need (.make [(.int .i64 0)] 8 (.u 4 0) (.u 4 0)) (.makeSlice 47 (tT 16) (tT 16)) 47 false a
def vz(a b c d:Nat)(e:Int)(g h:Nat)(i:Tr):Tr:=.need (.call 226 [(W a b),(W c d),(WK e)] [none]) (.call ⟨.value (.func 226),#[(.tmp g),(.tmp h),(.const (I3 e))],#[47,47,3]⟩) 47 true i
def qv(a b c d e g h:Nat)(i:Tr):Tr:=.need (.call a [(.agg [(U b 0),(U b 1)]),(.agg [(U c 0),(U c 1)])] [(some d)]) (.call ⟨.value (.func a),#[(.tmp e),(.tmp g)],#[49,49]⟩) h true i
def Cf(a b:Nat):Tr:=.ret [(W a 0),(W b 0)]
def at1(a:Nat)(b:Tr):Tr:=fO 119 [(.agg [(U a 0),(U a 1)]),(.agg [(tE (.int .i64 1)),(U 1 0)])] [(some 2)] [40,42] [49,49] 49 true b
def au7(a b:Nat)(c:Int)(d e:Nat)(g:Tr):Tr:=.need (.call 260 [(W a 0),(W b 0),(WK c)] [none]) (.call ⟨.value (.func 260),#[(.tmp d),(.tmp e),(.const (I3 c))],#[47,3,3]⟩) 3 false g
def rj(a b c d e g h:Nat)(i:Tr):Tr:=.need (.call a [(W b c),(W d c)] [none,none]) (.call ⟨.value (.func a),#[(.tmp e),(.tmp g)],#[47,47]⟩) h false i
def yC(a b c d e:Nat)(g:Tr):Tr:=.need (.call a [(.one (.c (.sr 1 b)))] [none]) (.call ⟨.value (.func a),#[(.tmp c)],#[d]⟩) e false g
def Tx(a b:Nat)(c:Tr):Tr:=.need (.call 189 [(WK 1),(W a 0)] [(some 2)]) (.call ⟨.value (.func 189),#[(.const (I3 1)),(.tmp b)],#[3,47]⟩) 49 true c
def pA(a b c d e g h:Nat):Tr:=.ret [(.agg [(U a 0),(U b c),(U d e),(U g h)])]
def aJ4(a:Nat)(b:Int)(c d e:Nat)(g:Tr):Tr:=.need (.strow a 3 (.k (.int .i64 b)) 0 [(.u c 0),(.u c 1),(.u c 2)]) (.store 46 (.tmp d) (.tmp e)) 0 false g
def ax2(a:Nat)(b:Int)(c:Nat)(d:Tr):Tr:=.need (.idx a (.k (.int .i64 b))) (.indexAddr 28 (.tmp c) (.const (I3 b))) 0 false d
def ta(a:Nat)(b:Int)(c d e:Nat)(g:Tr):Tr:=.need (.call a [(WK b)] [(some c)]) (.call ⟨.value (.func a),#[(.const (I3 b))],#[d]⟩) e false g
def aF1(a b c:Nat)(d:Tr):Tr:=.need (.call a [(W 0 0),(.one (.c (.k (.bool false))))] [none]) (.call ⟨.value (.func a),#[(.tmp b),(.const (.bool false))],#[c,4]⟩) 4 false d
def ax4(a:Nat)(b:Tr):Tr:=.need (.prim [(WK 2),(W 1 0)] none) (.binOp .mul 3 (.const (I3 2)) (.tmp a) 3) 3 false b
def aE0(a b c:Nat):Tr:=.ret [(.agg [(.c (.sr a b)),(.c (.sr 1 c))])]
def Wt(a:Int):Tr:=.ret [(.agg [tN,tN]),(WK a)]
def ax3(a b:Int)(c:Tr):Tr:=.need (.lit 1 [[(.k (.int .i64 a))],[(.k (.int .i64 b))]]) (.buildSlice 205 2 #[(0,(.const (I3 a))),(1,(.const (I3 b)))]) 205 false c
def bn3(a:Int)(b:Tr):Tr:=.need (.lit 1 [[(.k (.int .i64 0))],[(.k (.int .i64 1))],[(.k (.int .i64 a))]]) (.buildSlice 205 3 #[(0,(.const (I3 0))),(1,(.const (I3 1))),(2,(.const (I3 a)))]) 205 false b
def yJ(a b c d:Nat)(e:Tr):Tr:=.need (.call 41 [(.agg [(U a 0),(U a 1),(U a 2),(U a 3)]),(.agg [(U b 0),(U b 1),(U b 2),(U b 3)])] [none]) (.call ⟨.value (.func 41),#[(.tmp c),(.tmp d)],#[51,51]⟩) 3 false e
def aD0(a b c d:Nat)(e:Tr):Tr:=.need (.lit 4 [[(.u a 0),(.u a 1),(.u a 2),(.u a 3)],[(.u b 0),(.u b 1),(.u b 2),(.u b 3)]]) (.buildSlice 102 2 #[(0,(.tmp c)),(1,(.tmp d))]) 102 false e
def Xl(a b c d:Nat)(e:Tr):Tr:=.need (.prim [(W 0 0),(W a 0)] none) (.slice b (.tmp c) (some (.tmp d)) none none) b false e
def Xx(a:Int):Tr:=.ret [(.one (.c (.k (.slice none 0 0)))),(.one (.c (.k (.slice none 0 0)))),(WK a)]
end Go.Sy
