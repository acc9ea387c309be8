/- Part. -/
import Derived.Test.YtdmcadckdnnglaaGreatDoorSc
import Derived.Deep.LoopGhost
import Derived.Laws.Bits64
set_option linter.all false
namespace Go.Sy
def uQ:=@Go.IntKind.wrap_u64
def xJ:=@Go.wp_loop_ghost
open Go.RowKit (Below)
def pn:Ex->Exit
 | .normal=>.normal
 | .exit id=>.exit id
 | .ret=>.ret
section
variable{P:n7}{N:Nat}{M0:fD}{w0:World}{post:Out->Prop}{hints:Nat->Option Hint}
def co7(post:Out->Prop)(M0:fD)(w0:World)(Q:lg):Prop:=
 ∀c v a w,post (.pan c)->c.rep M0.M w v->Kept M0 w0 w->a.defers=[]->Q (.panic [{ v,recovered:=false }]) a w
def yz(P:n7)(post:Out->Prop)(M0:fD)(w0:World):Prop:=
 ∀f args news,post (.orc f args news)->(∀as w,(callFunc f as).run P w=.ok (.enter f as) w)/\∀(M:j2)(w:World)(vs:n5),Kept M0 w0 w->cX M w->cW M w args vs->Calls P f vs.toArray w fun e w'=>Below w.heap.size w w'/\uF M w' (.ret news) e
def yz.no{P:n7}{out:Out}{M0:fD}{w0:World}:yz P (fun o=>ey o out) M0 w0:=fun f args news h=>by cases out<;>exact(h:False).elim
def yz.noR{P:n7}{rs:List aF}{ts:List (List aE)}{M0:fD}{w0:World}:yz P (fun o=>o=.retr rs ts) M0 w0:=fun f args news h=>by cases h
def yz.noE{P:n7}{rs:List aF}{M0:fD}{w0:World}:yz P (fun o=>o=.ret rs) M0 w0:=fun f args news h=>by cases h
def aI7(P:n7)(N:Nat)(M0:fD)(w0:World)(post:Out->Prop)(d:Nat)(τ:Env)(bk:List (List aF->Prop))(k:Ex->Nat->Nat->St->Gn->Tr)(Q:lg):Prop:=
 ∀ex nb s dec m bk' ρ a w,bk'.take d=bk.take d->d<=bk'.length->vc P post (k ex nb (τ++m).length s dec) (τ++m) bk'->lD (τ++m) dec->Sat M0 w0 N s (τ++m) ρ a w->Q (pn ex) a w
def pI(hm:P.follows .mixedOrders=true):∀(c:Code)(l d nb ni:Nat)(s:St)(dec:Gn)(k:Ex->Nat->Nat->St->Gn->Tr)(τ:Env)(bk:List (List aF->Prop)),
  vc P post (exec P N hints c l d nb ni s dec k) τ bk->τ.length=ni->lD τ dec->d<=bk.length ->
  ∀ρ a w(Q:lg),Sat M0 w0 N s τ ρ a w->co7 post M0 w0 Q->yz P post M0 w0->aI7 P N M0 w0 post d τ bk k Q->c.wp P Q a w:=by
 intro c
 induction c with
 | skip=>
   intro l d nb ni s dec k τ bk h hn hd hb ρ a w Q hs hp ho hk;refine wp_skip (hk .normal nb s dec [] bk ρ a w rfl hb ?_ (by rw[dD];exact hd) (by rw[dD];exact hs));rw[dD,hn];exact h
 | exit id=>
   intro l d nb ni s dec k τ bk h hn hd hb ρ a w Q hs hp ho hk;refine wp_exit (hk (.exit id) nb s dec [] bk ρ a w rfl hb ?_ (by rw[dD];exact hd) (by rw[dD];exact hs));rw[dD,hn];exact h
 | ret=>
   intro l d nb ni s dec k τ bk h hn hd hb ρ a w Q hs hp ho hk;refine wp_ret (hk .ret nb s dec [] bk ρ a w rfl hb ?_ (by rw[dD];exact hd) (by rw[dD];exact hs));rw[dD,hn];exact h
 | region id ops draw=>
   intro l d nb ni s dec k τ bk h hn hd hb ρ a w Q hs hp ho hk;have h:vc P post (mc P N ops ops.toList 0 nb ni s dec [] fun nb ni s dec recs=>if ordered recs then k .normal nb ni s dec else .fail 1000) τ bk:=h
   have main:∃(m:Env)(fs:List IC)(z:Option Nat),kz P N ops Q M0 w0 (τ++m) z 0 s fs ops.toList/\ordered (fs.map (·.r)).reverse=true /\
     ((∃j,z=some j/\j<ops.size)\/(z=none/\∀ρ a w,Sat M0 w0 N (s.apps (fs.map (·.e))) (τ++m) ρ a w->Q .normal a w)):=by
    rcases Hx hp ho ops.toList 0 nb ni s dec [] τ h hn hd (fun j=>bY)with⟨m,fs,nb',dec',h1,h2,h3⟩ | ⟨m,fs,z,h1,h2,h3,h4⟩
    .rw[dD]at h3;split at h3
     .rename_i ho;exact⟨m,fs,none,h1,ho,.inr ⟨rfl,fun ρ a w hs=>hk .normal nb' _ dec' m bk ρ a w rfl hb h3 h2 hs⟩⟩
     .exact h3.elim
    .rw[dD]at h4;exact⟨m,fs,some z,h1,h4,.inl ⟨z,rfl,by simpa using h3⟩⟩
   obtain⟨m,fs,z,h1,h2,h3⟩:=main
   have hrepl:∀j,(Array.replicate ops.size false).getD j false=false:=by
    intro j;rw[iG];cases h:(Array.replicate ops.size false)[j]? with
    | none=>rfl
    | some b=>have:=(cf.1 h).2;simp at this;subst this;rfl
   cases draw with
   | true=>
     refine wp_region_any hm (Yp h1 h2 h3 ops.size _ ρ a _ bY ?_ ?_ ?_ ?_)
     .intro j f _ hl;rw[hrepl]at hl;cases hl
     .intro j _;exact hrepl j
     .exact an (ac8 _ _) bY
     .have e:done s fs (fun j=>(Array.replicate ops.size false).getD j false)=s:=by
       show s.apps _=s;rw[Tq _ 0 _ fun j=>?_]
       .rfl
       .exact hrepl j
      rw[e];exact(hs.ext m).drew _
   | false=>
     refine wp_region ?_;rw[List.range_eq_range'];refine XZ h1 h2 h3 ops.size 0 ρ a w (bw _) (fun j _=>cG j) ?_;rw[kR];exact hs.ext m
 | seq x y ihx ihy=>
   intro l d nb ni s dec k τ bk h hn hd hb ρ a w Q hs hp ho hk;refine fA (ihx l d nb ni s dec _ τ bk h hn hd hb ρ a w _ hs ?_ ho ?_)
   .intro c v a w h1 h2 h3 h4;exact hp c v a w h1 h2 h3 h4
   .intro ex nb' s' dec' m bk' ρ' a' w' hbk hb' hv hd' hs';cases ex with
    | normal=>
      refine ihy _ d nb' _ s' dec' k (τ++m) bk' hv rfl hd' hb' ρ' a' w' Q hs' hp ho ?_;intro ex2 nb2 s2 dec2 m2 bk2 ρ2 a2 w2 hbk2 hb2 hv2 hd2 hs2;rw[gX]at hv2 hd2 hs2;exact hk ex2 nb2 s2 dec2 (m++m2) bk2 ρ2 a2 w2 (hbk2.trans hbk) hb2 hv2 hd2 hs2
    | exit id=>exact hk (.exit id) nb' s' dec' m bk' ρ' a' w' hbk hb' hv hd' hs'
    | ret=>exact hk .ret nb' s' dec' m bk' ρ' a' w' hbk hb' hv hd' hs'
 | cond c x y ihx ihy=>
   intro l d nb ni s dec k τ bk h hn hd hb ρ a w Q hs hp ho hk
   have h:vc P post (match(NY c).run s with
    | some (.w (.one (.c x')))=>parts dec x' fun β dec=>if β then exec P N hints x l d nb ni s dec k else exec P N hints y (l+pj x) d nb ni s dec k
    | _=>.fail 1001) τ bk:=h
   split at h
   .rename_i x' hx;obtain⟨β,dec2,hc,hd2,hv⟩:=Lv hd h;have hval:(c0 τ x').rep (Ms M0 ρ s) w (a.eval c):=Cs hs hx;rw[hc]at hval;refine wp_cond (t:=β) hval.1 ?_;cases β with
    | true=>exact ihx l d nb ni s dec2 k τ bk hv hn hd2 hb ρ a w Q hs hp ho hk
    | false=>exact ihy _ d nb ni s dec2 k τ bk hv hn hd2 hb ρ a w Q hs hp ho hk
   .exact h.elim
 | block id x ih=>
   intro l d nb ni s dec k τ bk h hn hd hb ρ a w Q hs hp ho hk;refine wp_block (ih l d nb ni s dec _ τ bk h hn hd hb ρ a w _ hs ?_ ho ?_)
   .intro c v a w h1 h2 h3 h4;exact hp c v a w h1 h2 h3 h4
   .intro ex nb' s' dec' m bk' ρ' a' w' hbk hb' hv hd' hs';cases ex with
    | normal=>exact hk .normal nb' s' dec' m bk' ρ' a' w' hbk hb' hv hd' hs'
    | exit id'=>
      show if id'=id then Q .normal a' w' else Q (.exit id') a' w'
      simp only at hv;split at hv
      .rename_i e;rw[aI e];exact hk .normal nb' s' dec' m bk' ρ' a' w' hbk hb' hv hd' hs'
      .rename_i e;rw[aD e];exact hk (.exit id') nb' s' dec' m bk' ρ' a' w' hbk hb' hv hd' hs'
    | ret=>exact hk .ret nb' s' dec' m bk' ρ' a' w' hbk hb' hv hd' hs'
 | loop x ih=>
   intro l d nb ni s dec k τ bk h hn hd hb ρ a w Q hs hp ho hk
   have h:vc P post (match head P ((hints l).getD (auto P N x s)) (MW x) s nb ni with
    | none=>.fail 1002
    | some h=>.loop d h.inits (exec P N hints x (l+1) (d+1) h.nb h.ni h.s dec (bA3 P ((hints l).getD (auto P N x s)) ni h d k))) τ bk:=h
   generalize (hints l).getD (auto P N x s)=hint at h;split at h
   .exact h.elim
   .rename_i hd0 hh;obtain⟨G,tys,μ,g0,hg0,hlen,hbody⟩:=h
    have hfit:fits ni hd0.inits hd0.F hd0.s s=true/\hd0.ni=ni+hd0.inits.length:=by
     unfold head at hh;split at hh
     .simp only at hh;split at hh
      .rename_i hc;simp only[aM]at hh;subst hh;simp only[bf,pM]at hc;exact hc
      .cases hh
     .cases hh
    refine xJ (fun n a' w'=>∃g ρ',μ g=n/\Sat M0 w0 N hd0.s (τ++tys g) ρ' a' w') (μ g0) ?_ ?_
    .have hs0:Sat M0 w0 N s (τ++[]) ρ a w:=by rw[dD];exact hs
     obtain⟨ρ',h1⟩:=ah3 hs0 hn hfit.1;rw[dD]at h1;exact⟨g0,ρ',rfl,h1.sub (aR.app (aR.refl τ) hg0)⟩
    .rintro n a' w' ⟨g,ρ',rfl,hs'⟩;have htl:(bk.take d).length=d:=by rw[bP];omega
     refine ih (l+1) (d+1) hd0.nb hd0.ni hd0.s dec _ (τ++tys g) _ (hbody g) (by rw[gK,hlen,hn,hfit.2]) (hd.ext _) (by simp[htl]) ρ' a' w' _ hs' ?_ ho ?_
     .intro c v a w h1 h2 h3 h4;exact hp c v a w h1 h2 h3 h4
     .intro ex nb2 s2 dec2 m bk2 ρ2 a2 w2 hbk2 hb2 hv2 hd2 hs2
      have htake:bk2.take d=bk.take d:=by
       have:=congrArg (List.take d) hbk2;rw[pR,pR,ek (Qm d)]at this;rw[this,xD O,pR,Nat.min_self]
      have hother:∀e:Ex,vc P post (k e nb2 (τ++tys g++m).length s2 dec2) (τ++tys g++m) bk2->Q (pn e) a2 w2:=by
       intro e hv;rw[gX]at hv hd2 hs2;exact hk e nb2 s2 dec2 (tys g++m) bk2 ρ2 a2 w2 htake O hv hd2 hs2
      cases ex with
      | normal=>
        have hv2:vc P post (match aK4 P hint ni hd0 s2 with | some vs=>.back d vs | none=>.fail 1003) (τ++tys g++m) bk2:=hv2;split at hv2
        .rename_i vs hvs;obtain⟨f,hf,hfv⟩:=hv2
         have hget:bk2[d]?=some (fun ts=>∃g',aR ts (tys g')/\μ g'<μ g):=by
          have h1:(bk2.take (d+1))[d]?=bk2[d]?:=by rw[fi,aI (FP d)]
          rw[<-h1,hbk2,fi,aI (FP d),jP O,htl,jj];rfl
         rw[hget]at hf;simp only[aM]at hf;subst hf;obtain⟨g',hg',hlt⟩:=hfv
         have hfb:∃F,fits ni vs F hd0.s s2=true:=by
          unfold aK4 at hvs;split at hvs
          .simp only at hvs;split at hvs
           .rename_i hc;simp only[aM]at hvs;subst hvs;exact⟨_,hc⟩
           .cases hvs
          .cases hvs
         obtain⟨F,hF⟩:=hfb;rw[gX]at hs2 hg';obtain⟨ρ3,h3⟩:=ah3 hs2 hn hF;exact⟨μ g',hlt,g',ρ3,rfl,h3.sub (aR.app (aR.refl τ) hg')⟩
        .exact hv2.elim
      | exit id=>exact hother (.exit id) hv2
      | ret=>exact hother .ret hv2
 | _=>intro l d nb ni s dec k τ bk h;exact h.elim
inductive In where
 | v (t:aF)
 | ref (cells:List aE)
 | lent (E sz:Nat) (ts:List (List aE))
def In.ty:In->aF
 | .v t=>t
 | .ref cells=>.one (.aW cells)
 | .lent _ _ _=>.rows []
def In.env:In->aF
 | .v t=>t
 | .ref cells=>.agg cells
 | .lent _ _ ts=>.rows ts
def In.Is:Arg->In->Prop
 | .v sh,.v t=>t.shape=some sh
 | .ref n,.ref cells=>cells.length=n
 | .lent E sz,.lent E' sz' ts=>E'=E/\sz'=sz
 | .k u,.v t=>t=.one (.exact u)
 | _,_=>False
end
section
variable{P:n7}{N:Nat}{M0:fD}{w0 w:World}{s:St}{τ:Env}{ρ:Nat->Gh}{a:Act}
def nD(tmps:l7)(r:ResultVar):Sem Value:=
 match r with
 | .tmp t=>pure (tmps.getD t undef)
 | .cell b t=>do loadVar t (<-asAddr (tmps.getD b undef))
def ly(fn:Func)(tmps:l7)(vs:n5)(h:(fn.results.toList.mapM (nD tmps)).run P w=.ok vs w) :
  (results fn tmps).run P w=.ok (pack vs) w:=by
 have e:results fn tmps=(do
   let vs <-fn.results.mapM (nD tmps)
   pure (if h:vs.size=1 then vs[0]else .tuple vs)):=rfl
 rw[e,Array.mapM_eq_mapM_toList];simp only[gv,Sem.run_map,h,gA,iW]
 congr 1
 match vs with
 | []=>rfl
 | [v]=>rfl
 | _::_::_=>rfl
def yP(h:Sat M0 w0 N s τ ρ a w)(l:j3):cp M0 ρ s l M0.M:=
 ⟨fun k hk=>.inl hk,fun b x k h1 h2 _ hk=>by
  exact h.old k hk (h.lo b x k h1 h2).1⟩
def uh(h:Sat M0 w0 N s τ ρ a w){M':j2}:∀{rs:List ResultVar}{vs:List SW}{l:j3},(Cx P s rs).run s=some (vs,l)->cp M0 ρ s l M' ->
  ∃us,(rs.mapM (nD a.tmps)).run P w=.ok us w/\cW M' w (vs.map (qI τ)) us
 | [],vs,l,hq,hS=>by
   simp only[Cx,Q.gx,aM,cF]at hq;obtain⟨rfl,rfl⟩:=hq;exact⟨[],rfl,trivial⟩
 | .tmp t::rs,vs,l,hq,hS=>by
   obtain⟨v,h1,h2⟩:=Q.bind_some hq;obtain⟨⟨y,l1⟩,h3,h4⟩:=Q.bind_some h2;obtain⟨⟨ys,l2⟩,h5,h6⟩:=Q.bind_some h4;simp only[Q.run_pure,aM,cF]at h6;obtain⟨rfl,rfl⟩:=h6;obtain⟨us,hr,hrep⟩:=uh h h5 (hS.mono fun x hx=>kO _ hx);refine⟨a.tmps.getD t undef::us,?_,SN h h3 (hS.mono fun x hx=>ji _ hx) (uG h h1),hrep⟩;simp only[Fl,nD,gv,iW,gA,hr]
 | .cell t T::rs,vs,l,hq,hS=>by
   obtain⟨c,h1,h2⟩:=Q.bind_some hq;have hx:=eZ h h1;cases c with
   | p b off=>
     obtain⟨bx,h3,h4⟩:=Q.bind_some h2;simp only[jx,aM]at h3;cases bx with
     | none=>cases h4
     | some bx=>cases bx with
       | row=>cases h4
       | part=>cases h4
       | dead=>cases h4
       | var T' cells=>
         obtain⟨⟨ag,n⟩,h5,h6⟩:=Q.bind_some h4;rw[eX]at h5;obtain⟨cs,h7,h8⟩:=Q.bind_some h6;rw[eX]at h7;obtain⟨⟨cs',l1⟩,h9,h10⟩:=Q.bind_some h8;obtain⟨⟨ys,l2⟩,h11,h12⟩:=Q.bind_some h10;obtain⟨v,h13,h14⟩:=Q.bind_some h12;simp only[Q.run_pure,aM,cF]at h14;obtain⟨rfl,rfl⟩:=h14;obtain⟨us,hr,hrep⟩:=uh h h11 (hS.mono fun x hx=>kO _ hx);obtain⟨hlen,rfl⟩:=we h7;obtain⟨vs',hh,hall⟩:=h.bx b _ h3;have hl:=hall.length;have hcs:=Ci h h9 (hS.mono fun x hx=>ji _ hx) ((hall.drop off).take n);have hcl:=hcs.length
         have hn1:ag=true\/n=1:=by
          cases ag with
          | true=>exact .inl rfl
          | false=>
            right
            simp only[eF,bu]at h13;split at h13
            .simp only[aX,Sv,bP,dw]at hcl;omega
            .cases h13
         obtain⟨u,hru,hu⟩:=kC (P:=P) (w:=w) h5 hh (off:=off) iF hn1;have hxe:a.tmps.getD t undef=.pointer (some ⟨(ρ b).blk,off,none⟩):=hx.2;refine⟨u::us,?_,?_,hrep⟩
         .simp only[Fl,nD,gv,hxe,asAddr,iW,gA,hru,hr]
         .cases ag with
          | true=>
            simp only[bZ,Q.gx,aM]at h13 hu;subst h13;exact⟨_,hu,by simpa using hcs⟩
          | false=>
            simp only[eF,bu]at h13 hu;split at h13
            .rename_i c';simp only[Q.gx,aM]at h13;subst h13;have hu':(vs'.drop off).take n=[u]:=by simpa using hu
             rw[hu']at hcs;exact hcs.1
            .cases h13
   | _=>cases h2
def xN{M:j2}{k:Nat}:¬(fD.mk M ⟨0,undef,#[]⟩).O k:=fun h=>by cases h
def Kept.below{M:j2}{w0 w:World}(h:Kept ⟨M,⟨0,undef,#[]⟩⟩ w0 w):Below w0.heap.size w0 w:=
 ⟨h.os,h.tape,h.output,h.size,fun k hk=>h.block k hk xN⟩
def wV{M:j2}{ex:j2}{i:Nat}{g:Arg}{x:In}{v:Value}(hτ:τ[i]?=some x.env)(hi:In.Is g x)(hv:x.ty.rep M w v):jX ex τ ρ M w (kM i g) v:=by
 cases g with
 | v sh=>cases x with
   | v t=>exact vU hτ hi hv
   | ref cells=>exact hi.elim
   | lent _ _ _=>exact hi.elim
 | lent _ _=>cases x with
   | v t=>exact hi.elim
   | ref cells=>exact hi.elim
   | lent _ _ _=>exact(hv:False).elim
 | k u=>cases x with
   | v t=>
     have ht:t=.one (.exact u):=hi;subst ht;exact hv
   | ref cells=>exact hi.elim
   | lent _ _ _=>exact hi.elim
 | ref n=>cases x with
   | v t=>exact hi.elim
   | lent _ _ _=>exact hi.elim
   | ref cells=>
     have hc:((List.range n).map fun j=>C0.u i j).map (c0 τ)=cells:=by
      apply kd;intro j;rw[eG,dS];have hl:cells.length=n:=hi;by_cases hj:j<n
      .rw[jd hj,bU O];simp only[eS,Function.comp,c0,dp,hτ,ib,In.env,aF.cell,aF.cells,bU (show j<cells.length by omega)]
      .rw[gE (by simpa using hj),gE O];rfl
     show(aE.aW _).rep M w v;rw[hc,gF];exact hv
def aM3(args:List Arg)(bx:List (Nat×Bx))(t:Nat):(⟨args.mapIdx fun i a=>(i,kM i a),bx,[]⟩:St).t t=((args[t]?).map (kM t)).getD .junk:=by
 have hlook:∀(l:List Arg)(d:Nat),(look (l.mapIdx fun i a=>(d+i,kM (d+i) a)) t)=if d<=t then(l[t-d]?).map (kM t)else none:=by
  intro l
  induction l with
  | nil=>intro d;simp[look]
  | cons x l ih=>
    intro d;rw[List.mapIdx_cons];simp only[look,cu]
    have e:(l.mapIdx fun i a=>(d+(i+1),kM (d+(i+1)) a))=l.mapIdx fun i a=>(d+1+i,kM (d+1+i) a):=by
     congr 1;funext i a;rw[show d+(i+1)=d+1+i by omega]
    rw[e,ih (d+1)];by_cases h1:d=t
    .subst h1;simp
    .rw[aD h1];by_cases h2:d+1<=t
     .rw[aI h2,aI O,show t-d=(t-(d+1))+1 by omega,wz]
     .rw[aD h2,aD O]
 have:=hlook args 0;simp only[bw,cG,bZ,QR]at this;simp only[St.t,this]
def Tf{N:Nat}{args:List Arg}{ins:List In}{M:j2}{w:World}{vs:n5}(hin:au In.Is args ins)(hM:cX M w)(hlen:args.length<=N)(hvs:cW M w (ins.map In.ty) vs) :
  Sat ⟨M,⟨0,undef,#[]⟩⟩ w N ⟨args.mapIdx fun i a=>(i,kM i a),[],[]⟩ (ins.map In.env) (fun _=>⟨0,undef,#[]⟩) ⟨vs.toArray++Array.replicate (N-vs.toArray.size) undef,[]⟩ w:=by
 have hil:ins.length=args.length:=hin.length.symm;have hvl:vs.length=args.length:=by rw[<-hvs.length];simpa using hil
 refine⟨⟨rfl,rfl,rfl,ah _,fun _ _ _=>rfl,fun x hx=>⟨(hM.2 x hx).1,xN,(hM.2 x hx).2⟩⟩,iF,rfl,fun t=>?_,(by intro b x hb;cases hb),(by intro b b' x x' k hb;cases hb),(by intro b x k hb;cases hb),fun k hk ho=>ho.elim (fun h=>nt.2 h (hM.1 k hk)) xN,(by intro b E sz cid hb;cases hb)⟩;rw[aM3];cases hat:args[t]? with
 | none=>trivial
 | some g=>
   have htl:t<args.length:=(fK.1 hat).1;obtain⟨x,hx,hix⟩:=hin.get t g hat;have hvt:vs[t]?=some (vs[t]' O):=bU O;obtain⟨ty,hty,hrep⟩:=hvs.get t _ hvt;rw[dS,hx]at hty;simp only[eS,aM]at hty;subst hty
   have hval:(vs.toArray++Array.replicate (N-vs.toArray.size) undef).getD t undef=vs[t]' O:=by
    rw[iG,FH iF];simp[hvt]
   rw[hval];refine wV (by rw[dS,hx];rfl) hix (aF.iA ?_ hrep);intro k o hk ho _;refine⟨fun hm=>?_,ho⟩;rcases hm with hm | ⟨b,x,hb,_⟩
   .exact hk hm
   .cases hb
def dQ{f:FuncId}{fn:Func}{hints:Nat->Option Hint}{args:List Arg}{ins:List In}{out:Out}(hm:P.follows .mixedOrders=true)(hok:vX P f=true)
  (hf:P.funcs[f]?=some fn) (hin:au In.Is args ins) (h:vc P (fun o=>ey o out) (aO P fn hints args) (ins.map In.env) []):aK P f (ins.map In.ty) out:=by
 refine⟨bM hok,fun M w vs hM hvs=>?_⟩;unfold aO at h;split at h
 .exact h.elim
 .rename_i c hb;split at h
  .rename_i hlen;refine jn hf hb ?_;have hil:ins.length=args.length:=hin.length.symm;have hvl:vs.length=args.length:=by rw[<-hvs.length];simpa using hil
   refine pI (M0:=⟨M,⟨0,undef,#[]⟩⟩) (w0:=w) hm c 0 0 0 args.length _ [] _ (ins.map In.env) [] h (by simpa using hil) (by intro x hx;cases hx) (ah _) (fun _=>⟨0,undef,#[]⟩) _ w _ ?_ ?_ yz.no ?_
   .exact Tf hin hM hlen hvs
   .intro c v a w' hp hr hb hd;refine⟨hd,hb.below,?_⟩;cases out with
    | pan d=>have hp:c=d:=hp;subst hp;exact⟨v,rfl,hr⟩
    | ret _=>exact hp.elim
    | orc _ _ _=>exact hp.elim
    | retr _ _=>exact hp.elim
   .intro ex nb s dec m bk' ρ a w' _ _ hv _ hs
    have key:vc P (fun o=>ey o out) (match(Cx P s fn.results.toList).run s with
      | some (vs,_)=>.ret vs
      | none=>.fail 1008) (ins.map In.env++m) bk'->a.defers=[]/\∃v,(results fn a.tmps).run P w'=.ok v w'/\(Below w.heap.size w w'/\uF M w' out (.returned v)):=by
     intro hv;split at hv
     .rename_i vs' l hq;obtain⟨us,hr,hrep⟩:=uh hs hq (yP hs _);refine⟨hs.df,_,ly fn a.tmps us hr,hs.below.below,?_⟩;cases out with
      | ret rs=>exact⟨us,rfl,cW.sub hv hrep⟩
      | retr _ _=>exact hv.elim
      | orc _ _ _=>exact hv.elim
      | pan _=>exact hv.elim
     .exact hv.elim
    cases ex with
    | normal=>exact key hv
    | ret=>exact key hv
    | exit id=>exact hv.elim
  .exact h.elim
end
open Go.RowKit (Below)
section
variable{P:n7}{T U ty:TypeId}{x y:n8}
def Ar{M:j2}{w:World}{ρ:Operand->Value}{t:aF}(h:cW M w [t] ((#[x]:Array Operand).toList.map ρ)):t.rep M w (ρ x):=h.1
def vO{M:j2}{w:World}{ρ:Operand->Value}{t u:aF}(h:cW M w [t,u] ((#[x,y]:Array Operand).toList.map ρ)):t.rep M w (ρ x)/\u.rep M w (ρ y):=⟨h.1,h.2.1⟩
def qG{op:BinOp}{k:IntKind}{a b:Int}{r:Value}(h1:r.oneCell'=true)(h:∀w,(binOp op T (.int k a) (.int k b)).run P w=.ok r w) :
  aq P (.binOp op T x y U) ty [.one (.int k a),.one (.int k b)] (.one (.exact r)):=by
 intro M w ρ o ho _ hr;obtain⟨hx,hy⟩:=vO hr;have hx:ρ x=.int k a/\_:=hx;have hy:ρ y=.int k b/\_:=hy;refine⟨r,?_,⟨rfl,h1⟩⟩
 have hg:(eqGuard op T x y (.int k a) (.int k b)).run P w=.ok () w:=by
  unfold eqGuard;cases op<;>simp
 simp only[execOp,ho,hx.1,hy.1,gv,hg,gA,h w,iW]
def fP{k:IntKind}{a b c:Int}(h:k.wrap (a+b)=c):aq P (.binOp .add T x y U) ty [.one (.int k a),.one (.int k b)] (.one (.int k c)):=
 qG rfl fun w=>by simp[binOp,Op.intArith,h]
def qQ{k:IntKind}{a b c:Int}(h:k.wrap (a-b)=c):aq P (.binOp .sub T x y U) ty [.one (.int k a),.one (.int k b)] (.one (.int k c)):=
 qG rfl fun w=>by simp[binOp,Op.intArith,h]
def uv{k:IntKind}{a b c:Int}(h:k.wrap (a*b)=c):aq P (.binOp .mul T x y U) ty [.one (.int k a),.one (.int k b)] (.one (.int k c)):=
 qG rfl fun w=>by simp[binOp,Op.intArith,h]
def te{k:IntKind}{a b c:Int}(hb:b≠0)(h:k.wrap (a.tdiv b)=c):aq P (.binOp .quo T x y U) ty [.one (.int k a),.one (.int k b)] (.one (.int k c)):=
 qG rfl fun w=>by simp[binOp,Op.intDiv,hb,h]
def IM{k:IntKind}{a b c:Int}(hb:b≠0)(h:a.tmod b=c):aq P (.binOp .rem T x y U) ty [.one (.int k a),.one (.int k b)] (.one (.int k c)):=
 qG rfl fun w=>by simp[binOp,Op.intDiv,hb,h]
def aQ0{k:IntKind}{a b:Int}:aq P (.binOp .eql T x y U) ty [.one (.int k a),.one (.int k b)] (.one (.bool (decide (a=b)))):=
 qG rfl fun w=>by simp[binOp,Op.intCmp,BEq.beq]
def Uo{k:IntKind}{a b:Int}:aq P (.binOp .neq T x y U) ty [.one (.int k a),.one (.int k b)] (.one (.bool (!decide (a=b)))):=
 qG rfl fun w=>by simp[binOp,Op.intCmp,bne,BEq.beq]
def xy{k:IntKind}{a b:Int}:aq P (.binOp .lss T x y U) ty [.one (.int k a),.one (.int k b)] (.one (.bool (decide (a<b)))):=
 qG rfl fun w=>by simp[binOp,Op.intCmp]
def cj9{k:IntKind}{a b:Int}:aq P (.binOp .leq T x y U) ty [.one (.int k a),.one (.int k b)] (.one (.bool (decide (a<=b)))):=
 qG rfl fun w=>by simp[binOp,Op.intCmp]
def TL{k:IntKind}{a b:Int}:aq P (.binOp .gtr T x y U) ty [.one (.int k a),.one (.int k b)] (.one (.bool (decide (b<a)))):=
 qG rfl fun w=>by simp[binOp,Op.intCmp]
def LH{k:IntKind}{a b:Int}:aq P (.binOp .geq T x y U) ty [.one (.int k a),.one (.int k b)] (.one (.bool (decide (b<=a)))):=
 qG rfl fun w=>by simp[binOp,Op.intCmp]
def jW{b:Bool}:aq P (.unOp .not T x) ty [.one (.bool b)] (.one (.bool (!b))):=by
 intro M w ρ o ho _ hr;have hx:ρ x=.bool b/\_:=Ar hr;exact⟨.bool (!b),by simp[execOp,ho,hx.1,Op.unary],⟨rfl,rfl⟩⟩
def bw9{k:IntKind}{a c:Int}(h:k.wrap (0-a)=c):aq P (.unOp .neg T x) ty [.one (.int k a)] (.one (.int k c)):=by
 intro M w ρ o ho _ hr;have hx:ρ x=.int k a/\_:=Ar hr;exact⟨.int k c,by simp[execOp,ho,hx.1,Op.unary,Op.intArith,<-h],⟨rfl,rfl⟩⟩
def lj{k k':IntKind}{a c:Int}(hu:∃d,P.underlying T=some d)(hd:P.underlying U=some (.int k'))(h:k'.wrap a=c):aq P (.convert T U x) ty [.one (.int k a)] (.one (.int k' c)):=by
 obtain⟨d,hu⟩:=hu;intro M w ρ o ho _ hr;have hx:ρ x=.int k a/\_:=Ar hr;refine⟨.int k' c,?_,⟨rfl,rfl⟩⟩
 have:(convert T U (.int k a)).run P w=.ok (.int k' c) w:=by
  simp[convert,fB hu,fB hd,Conv.intToInt,h]
 simp only[execOp,ho,hx.1,gv,this,gA,iW]
def aZ{E sz n:Nat}{ts:List (List aE)}{b:Nat}{s2:Nat}(h:eP P T=some (E,s2,b))(hn:ts.length=n):aq P (.call ⟨.builtin .len,#[x],#[T]⟩) ty [.one (.slice sz ts)] (.one (.int .i64 n)):=by
 intro M w ρ o ho _ hr;have hx:(aE.slice sz ts).rep M w (ρ x):=Ar (x:=x) hr;obtain⟨ad,cap,hv,_⟩:=hx;obtain⟨ie,hu,_⟩:=dZ h;exact⟨.int .i64 n,by simp[execOp,ho,resolve,invoke,builtin,Builtin.len_,hv,fB hu,goInt,hn],⟨rfl,rfl⟩⟩
def bx6{E sz b:Nat}{k:IntKind}{n:Int}{ts:List (List aE)}{t:List aE}(h:eP P T=some (E,sz,b))(h0:0<=n)(ht:ts[n.toNat]?=some t) :
  aq P (.indexAddr T x y) ty [.one (.slice sz ts),.one (.int k n)] (.one (.aW t)):=by
 intro M w ρ o ho _ hr;obtain⟨hx,hy⟩:=vO (x:=x) (y:=y) hr;have hx:(aE.slice sz ts).rep M w (ρ x):=hx;have hy:ρ y=.int k n/\_:=hy;obtain⟨ad,cap,hv,hc,hm,hel⟩:=hx;obtain⟨ie,hu,hie,hies,_⟩:=dZ h;have hlt:n.toNat<ts.length:=(fK.1 ht).1;rcases hel with rfl | ⟨bl,off,cs,T',fz,rfl,hb,hh,hel⟩
 .simp at hlt
 .have hin:0<=n/\n<(ts.length:Int):=⟨h0,O⟩
  refine⟨.pointer (some ⟨bl,off+n.toNat*sz,none⟩),?_,?_⟩
  .simp[execOp,ho,hv,hy.1,Instr.indexAt,asIntOf,fB hu,sizeOf,typeInfo,hie,hies,hin,nU]
  .have:=hel n.toNat t ht;refine⟨bl,off+n.toNat*sz,cs,T',fz,rfl,hb,hh,?_⟩;rw[this.1];exact this.2
def ay{ag:Bool}{n:Nat}{cells:List aE}(h:oC P T=some (ag,n))(hpos:0<n)(hn:n<=cells.length)(h1:ag=true\/n=1) :
  aq P (.load T x) ty [.one (.aW cells)] (SG ag (cells.take n)):=by
 intro M w ρ o ho _ hr;have hx:(aE.aW cells).rep M w (ρ x):=Ar (x:=x) hr;obtain⟨b,off,cs,T',fz,hv,hb,hh,hrep⟩:=hx;have hl:=hrep.length;simp only[bP,dw,iL]at hl;obtain⟨v,hrun,hval⟩:=kC (P:=P) (w:=w) h hh (off:=off) (n:=n) O h1;refine⟨v,by simp[execOp,ho,hv,Instr.loadAt,Instr.sureAddr,hrun],?_⟩;have h2:=hrep.take n;rw[pR,ek hn]at h2;cases ag with
 | true=>
   simp only[bZ]at hval;exact⟨_,hval,h2⟩
 | false=>
   simp only[eF,bu]at hval;rw[hval]at h2;have hl2:=h2.length;simp only[SG,eF,bu]
   match hc:cells.take n,h2 with
   | [c],h2=>exact h2.1
   | [],h2=>simp[hc]at hl2
   | _::_::_,h2=>simp[hc]at hl2
def PM{cells:List aE}:aq P (.nilCheck x) ty [.one (.aW cells)] (.one (.aW cells)):=by
 intro M w ρ o ho _ hr;have hx:(aE.aW cells).rep M w (ρ x):=Ar (x:=x) hr;have hx':=hx;obtain⟨b,off,cs,T',fz,hv,_⟩:=hx;exact⟨ρ x,by simp[execOp,ho,hv],hx'⟩
def jE{f ft fo fs:Nat}{cells:List aE}(h:kF P T f=some (ft,fo,fs))(hpos:0<fs):aq P (.fieldAddr T x f) ty [.one (.aW cells)] (.one (.aW (cells.drop fo))):=by
 intro M w ρ o ho _ hr;have hx:(aE.aW cells).rep M w (ρ x):=Ar (x:=x) hr;obtain⟨b,off,cs,T',fz,hv,hb,hh,hrep⟩:=hx;obtain⟨fls,fl,i,hu,hfl,rfl,rfl,hi,rfl⟩:=wI h;have hne:¬i.size=0:=O
 refine⟨.pointer (some ⟨b,off+fl.offset,none⟩),?_,⟨b,off+fl.offset,cs,T',fz,rfl,hb,hh,?_⟩⟩
 .simp[execOp,ho,hv,Instr.fieldAt,fB hu,hfl,Instr.sureAddr,fieldPlace,sizeOf,typeInfo,hi,hne,nU]
 .have:=hrep.drop fl.offset;rw[ox,iX]at this;rw[dw];exact this
def yd{M:j2}{w:World}{sz:Nat}{ts:List (List aE)}{ad:o9}{cap l h m:Nat}(hs:(aE.slice sz ts).rep M w (.slice ad ts.length cap))(hlh:l<=h)(hh:h<=ts.length)(hm:h<=m)(hmc:m<=cap:=by omega) :
  (aE.slice sz ((ts.take h).drop l)).rep M w (.slice (if m=l then ad else ad.map (·.add (l*sz))) (h-l) (m-l)):=by
 obtain⟨ad',cap',he,hc,hcm,hel⟩:=hs;simp only[nf,true_and]at he;obtain⟨rfl,rfl⟩:=he;have hlen:((ts.take h).drop l).length=h-l:=iF
 refine⟨_,m-l,by rw[hlen],by rw[hlen];omega,O,?_⟩;by_cases hz:h=l
 .left;exact ij O
 .rcases hel with rfl | ⟨b,off,cs,T,fz,rfl,hb,hh2,hel⟩
  .simp at hh;omega
  .refine .inr ⟨b,off+l*sz,cs,T,fz,?_,hb,hh2,fun i t ht=>?_⟩
   .rw[aD O];simp[nU]
   .rw[kH,fi]at ht;split at ht
    .have:=hel (l+i) t ht;rw[ba]at this;rw[jF];exact this
    .cases ht
def Pg{E sz b:Nat}{k:IntKind}{n:Int}{ts:List (List aE)}(h:eP P T=some (E,sz,b))(h0:0<=n)(hn:n.toNat<=ts.length) :
  aq P (.slice T x none (some y) none) ty [.one (.slice sz ts),.one (.int k n)] (.one (.slice sz (ts.take n.toNat))):=by
 intro M w ρ o ho _ hr;have hx:(aE.slice sz ts).rep M w (ρ x):=hr.1;have hy:ρ y=.int k n/\_:=hr.2.1;have hx':=hx;obtain⟨ad,cap,hv,hc,hm,_⟩:=hx;rw[hv]at hx';obtain⟨ie,hu,hie,hies,_⟩:=dZ h;have:=yd (l:=0) (h:=n.toNat) (m:=cap) hx' (cG _) hn O (ah _);rw[gF]at this;refine⟨_,?_,this⟩;have hin:0<=n/\n<=(cap:Int):=⟨h0,O⟩
 simp[execOp,ho,hv,hy.1,Instr.sliceAt,Instr.slice,Instr.sliceBounds,Instr.sliceBound,asIntOf,fB hu,sizeOf,typeInfo,hie,hies,hin]
def PJ{E sz b:Nat}{k:IntKind}{n:Int}{ts:List (List aE)}(h:eP P T=some (E,sz,b))(h0:0<=n)(hn:n.toNat<=ts.length) :
  aq P (.slice T x (some y) none none) ty [.one (.slice sz ts),.one (.int k n)] (.one (.slice sz (ts.drop n.toNat))):=by
 intro M w ρ o ho _ hr;have hx:(aE.slice sz ts).rep M w (ρ x):=hr.1;have hy:ρ y=.int k n/\_:=hr.2.1;have hx':=hx;obtain⟨ad,cap,hv,hc,hm,_⟩:=hx;rw[hv]at hx';obtain⟨ie,hu,hie,hies,_⟩:=dZ h;have:=yd (l:=n.toNat) (h:=ts.length) (m:=cap) hx' hn (ah _) hc (ah _);rw[eW]at this;refine⟨_,?_,this⟩;have hin:0<=n/\n<=(ts.length:Int):=⟨h0,O⟩
 simp[execOp,ho,hv,hy.1,Instr.sliceAt,Instr.slice,Instr.sliceBounds,Instr.sliceBound,asIntOf,fB hu,sizeOf,typeInfo,hie,hies,hin]
def Jh{E sz b:Nat}{k k':IntKind}{n:Int}{z:n8}{ts:List (List aE)}(h:eP P T=some (E,sz,b))(hn:n.toNat<=ts.length)(h0:0<=n:=by omega) :
  aq P (.slice T x none (some y) (some z)) ty [.one (.slice sz ts),.one (.int k n),.one (.int k' n)] (.one (.slice sz (ts.take n.toNat))):=by
 intro M w ρ o ho _ hr;have hx:(aE.slice sz ts).rep M w (ρ x):=hr.1;have hy:ρ y=.int k n/\_:=hr.2.1;have hz:ρ z=.int k' n/\_:=hr.2.2.1;have hx':=hx;obtain⟨ad,cap,hv,hc,hm,_⟩:=hx;rw[hv]at hx';obtain⟨ie,hu,hie,hies,_⟩:=dZ h;have:=yd (l:=0) (h:=n.toNat) (m:=n.toNat) hx' (cG _) hn (ah _);rw[gF]at this;refine⟨_,?_,this⟩;have hin:0<=n/\n<=(cap:Int):=⟨h0,O⟩
 have hin2:max n 0=n:=O
 simp[execOp,ho,hv,hy.1,hz.1,Instr.sliceAt,Instr.slice,Instr.sliceBounds,Instr.sliceBound,asIntOf,fB hu,sizeOf,typeInfo,hie,hies,hin,hin2]
def as2{s:ByteArray}{n:Nat}(hu:P.underlying T=some .string)(hn:s.size=n):aq P (.call ⟨.builtin .len,#[x],#[T]⟩) ty [.one (.str s)] (.one (.int .i64 n)):=by
 intro M w ρ o ho _ hr;have hx:ρ x=.string s/\_:=Ar (x:=x) hr;exact⟨.int .i64 n,by simp[execOp,ho,resolve,invoke,builtin,Builtin.len_,hx.1,fB hu,goInt,hn],⟨rfl,rfl⟩⟩
def as3{s t:ByteArray}(h:((s.size+t.size:Nat):Int)<=9223372036854775807):aq P (.binOp .add T x y U) ty [.one (.str s),.one (.str t)] (.one (.str (s++t))):=by
 intro M w ρ o ho _ hr;obtain⟨hx,hy⟩:=vO hr;have hx:ρ x=.string s/\_:=hx;have hy:ρ y=.string t/\_:=hy;refine⟨.string (s++t),?_,⟨rfl,rfl⟩⟩;have hmax:IntKind.i64.max=9223372036854775807:=by simp[IntKind.max,IntKind.signed,IntKind.bits]
 have hno:¬(9223372036854775807<((s.size:Int)+(t.size:Int))):=by
  have:((s.size+t.size:Nat):Int)=(s.size:Int)+(t.size:Int):=bY
  omega
 simp[execOp,ho,hx.1,hy.1,eqGuard,binOp,Op.stringOp,hmax,hno]
def ai8{s t:ByteArray}:aq P (.binOp .eql T x y U) ty [.one (.str s),.one (.str t)] (.one (.bool (s.toList==t.toList))):=by
 intro M w ρ o ho _ hr;obtain⟨hx,hy⟩:=vO hr;have hx:ρ x=.string s/\_:=hx;have hy:ρ y=.string t/\_:=hy;exact⟨.bool (s.toList==t.toList),by simp[execOp,ho,hx.1,hy.1,eqGuard,binOp,Op.stringOp],⟨rfl,rfl⟩⟩
def ai5{s:ByteArray}{k:IntKind}{n:Int}{b:UInt8}(hu:P.underlying T=some .string)(h0:0<=n)(hb:s[n.toNat]?=some b):aq P (.index T x y) ty [.one (.str s),.one (.int k n)] (.one (.int .u8 b.toNat)):=by
 intro M w ρ o ho _ hr;obtain⟨hx,hy⟩:=vO hr;have hx:ρ x=.string s/\_:=hx;have hy:ρ y=.int k n/\_:=hy;exact⟨.int .u8 b.toNat,by simp[execOp,ho,hx.1,hy.1,Instr.index,asIntOf,fB hu,h0,hb],⟨rfl,rfl⟩⟩
def aZ4{s:ByteArray}{k:IntKind}{n:Int}(hu:P.underlying T=some .string)(h0:0<=n)(hn:n<=s.size):aq P (.slice T x (some y) none none) ty [.one (.str s),.one (.int k n)] (.one (.str (s.extract n.toNat s.size))):=by
 intro M w ρ o ho _ hr;have hx:ρ x=.string s/\_:=hr.1;have hy:ρ y=.int k n/\_:=hr.2.1;exact⟨_,by simp[execOp,ho,hx.1,hy.1,Instr.sliceAt,Instr.slice,Instr.sliceBounds,Instr.sliceBound,asIntOf,fB hu,h0,hn],⟨rfl,rfl⟩⟩
def aw9{s:ByteArray}{k k':IntKind}{n m:Int}{z:n8}(hu:P.underlying T=some .string)(h0:0<=n)(hn:n<=m)(hm:m<=s.size):aq P (.slice T x (some y) (some z) none) ty [.one (.str s),.one (.int k n),.one (.int k' m)] (.one (.str (s.extract n.toNat m.toNat))):=by
 intro M w ρ o ho _ hr;have hx:ρ x=.string s/\_:=hr.1;have hy:ρ y=.int k n/\_:=hr.2.1;have hz:ρ z=.int k' m/\_:=hr.2.2.1;have h1:0<=m:=O
 have h2:max m 0=m:=O
 have h3:¬m<n:=O
 exact⟨_,by simp[execOp,ho,hx.1,hy.1,hz.1,Instr.sliceAt,Instr.slice,Instr.sliceBounds,Instr.sliceBound,asIntOf,fB hu,h0,h1,h2,h3,hm],⟨rfl,rfl⟩⟩
end
section
variable{P:n7}{post:Out->Prop}{bk:List (List aF->Prop)}{τ:Env}{op:Op}{ty:Nat}{last:Bool}{k:Tr}
def vn{args:List SW}{sh:Option Nat}{t:aF}(hp:aq P op ty (args.map (qI τ)) t)(hs:t.shape=some sh:=by rfl)(hk:vc P post k (τ++[t]) bk):vc P post (.need (.prim args sh) op ty last k) τ bk:=
 .inl ⟨[t],⟨t,rfl,hs,hp⟩,rfl,hk⟩
def aA{f:Nat}{args:List SW}{sh:List (Option Nat)}{ts:List aF}(hd:aK P f (args.map (qI τ)) (.ret ts))(hs:ts.map aF.shape=sh.map some:=by rfl)(hk:vc P post k (τ++ts) bk):vc P post (.need (.call f args sh) op ty last k) τ bk:=
 .inl ⟨ts,⟨hs,hd⟩,by have:=congrArg List.length hs;simpa[eY.ids]using this,hk⟩
def wD{c:C0}{f:FuncId}{caps:List aE}{args:List SW}{sh:List (Option Nat)}{ts:List aF}(hc:c0 τ c=.lp f caps)(hd:aK P f (args.map (qI τ)++caps.map .one) (.ret ts))(hs:ts.map aF.shape=sh.map some)(hk:vc P post k (τ++ts) bk):vc P post (.need (.callv c args sh) op ty last k) τ bk:=
 .inl ⟨ts,⟨f,caps,hc,hs,hd⟩,by have:=congrArg List.length hs;simpa[eY.ids]using this,hk⟩
def bh{sz:Nat}{tss:List (List C0)}{us:List (List aE)}(hu:tss.map (fun t=>t.map (c0 τ))=us:=by rfl)(hk:vc P post k (τ++[.rows us]) bk):vc P post (.need (.lit sz tss) op ty last k) τ bk:=
 .inl ⟨_,by rw[<-hu];rfl,rfl,hk⟩
def vz{z:n5}{b:Nat}{l c:C0}{n m:Nat}{kl kc:IntKind}{us:List (List aE)}(h1:c0 τ l=.int kl n)(h2:c0 τ c=.int kc m)(hu:List.replicate n (z.map .exact)=us)(hnm:n<=m)(hb:b*m<=140737488355328)(hm:m<=maxLen)(hk:vc P post k (τ++[.rows us]) bk):vc P post (.need (.make z b l c) op ty last k) τ bk:=
 .inl ⟨_,⟨n,m,kl,kc,h1,h2,hnm,hb,hm,by rw[hu]⟩,rfl,hk⟩
def su{sz b:Nat}{cid:Option Nat}{src:Option C0}{row:Option Nat}{ts us vs:List (List aE)}(h1:aM7 τ cid ts)(h2:aH3 τ sz src row us)(hv:ts++us=vs)(hb:vs.length*b<=140737488355328)(hm:vs.length<=maxLen)(hk:vc P post k (τ++[.rows vs]) bk):vc P post (.need (.app sz b cid src row) op ty last k) τ bk:=
 .inl ⟨[.rows vs],⟨ts,us,h1,h2,by rw[<-gK,hv];exact hb,by rw[<-gK,hv];exact hm,by rw[hv]⟩,rfl,hk⟩
def qP{cid:Nat}{i:C0}{ts:List (List aE)}{ik:IntKind}{n:Int}(h1:τ[cid]?=some (.rows ts))(h2:c0 τ i=.int ik n)(h0:0<=n)(hn:n<ts.length)(hk:vc P post k τ bk):vc P post (.need (.idx cid i) op ty last k) τ bk:=
 .inl ⟨[],⟨ts,ik,n,h1,h2,h0,hn,rfl⟩,rfl,by rw[dD];exact hk⟩
def vld{cid off sz:Nat}{ag:Bool}{i:C0}{ts:List (List aE)}{ik:IntKind}{n:Int}{cells:List aE}{t:aF}(h1:τ[cid]?=some (.rows ts))(h2:c0 τ i=.int ik n)(h0:0<=n)(hn:ts[n.toNat]?=some cells)(hag:ag=true\/sz=1)(ht:SG ag ((cells.drop off).take sz)=t)(hk:vc P post k (τ++[t]) bk):vc P post (.need (.ldrow cid i off sz ag) op ty last k) τ bk:=
 .inl ⟨_,⟨ts,ik,n,cells,h1,h2,h0,hn,hag,by rw[ht]⟩,rfl,hk⟩
def BE{cid sz off:Nat}{i:C0}{xs:List C0}{ts us:List (List aE)}{ik:IntKind}{n:Int}{cells:List aE}(h1:τ[cid]?=some (.rows ts))(h2:c0 τ i=.int ik n)(h0:0<=n)(hn:ts[n.toNat]?=some cells)
  (hu:ts.set n.toNat (cells.take off++xs.map (c0 τ)++cells.drop (off+xs.length))=us) (hk:vc P post k (τ++[.rows us]) bk):vc P post (.need (.strow cid sz i off xs) op ty last k) τ bk:=
 .inl ⟨_,⟨ts,ik,n,cells,h1,h2,h0,hn,by rw[hu]⟩,rfl,hk⟩
def WT{cid n:Nat}{ts:List (List aE)}(h1:τ[cid]?=some (.rows ts))(hn:ts.length=n)(hk:vc P post k (τ++[.one (.int .i64 n)]) bk):vc P post (.need (.lenrow cid) op ty last k) τ bk:=
 .inl ⟨_,⟨ts,h1,by rw[hn]⟩,rfl,hk⟩
def vs{c:C0}{kt kf:Tr}(p:Prop)[Decidable p](hc:c0 τ c=.bool (decide p))(ht:p->vc P post kt τ bk)(hf:¬p->vc P post kf τ bk):vc P post (.split c kt kf) τ bk:=
 ⟨decide p,hc,fun h=>ht (gi h),fun h=>hf (kh h)⟩
def p8{c:C0}{kt kf:Tr}{p:Prop}[Decidable p](ht:p->vc P post kt τ bk)(hf:¬p->vc P post kf τ bk)(hc:c0 τ c=.bool (decide p):=by rfl):vc P post (.split c kt kf) τ bk:=vs p hc ht hf
def uS{args:List SW}{sh:Option Nat}{t:aF}{c:C0}{kt kf:Tr}{p:Prop}[Decidable p](hp:aq P op ty (args.map (qI τ)) t)(ht:p->vc P post kt (τ++[t]) bk)(hf:¬p->vc P post kf (τ++[t]) bk)(hs:t.shape=some sh:=by rfl)(hc:c0 (τ++[t]) c=.bool (decide p):=by rfl):vc P post (.need (.prim args sh) op ty last (.split c kt kf)) τ bk:=vn hp hs (vs p hc ht hf)
def gn{c:C0}{kt kf:Tr}(β:Bool)(hc:c0 τ c=.bool β)(ht:β=true->vc P post kt τ bk)(hf:β=false->vc P post kf τ bk):vc P post (.split c kt kf) τ bk:=
 ⟨β,hc,ht,hf⟩
def lw{c:C0}{kt kf:Tr}(h:vc P post kf τ bk)(hc:c0 τ c=.bool false:=by rfl):vc P post (.split c kt kf) τ bk:=gn false hc (fun h=>by cases h) fun _=>h
def ut{c:C0}{kt kf:Tr}(h:vc P post kt τ bk)(hc:c0 τ c=.bool true:=by rfl):vc P post (.split c kt kf) τ bk:=gn true hc (fun _=>h) fun h=>by cases h
def aN{vs:List SW}{rs:List aF}(h:vs.map (qI τ)=rs:=by rfl):vc P (fun o=>ey o (.ret rs)) (.ret vs) τ bk:=by
 show aR _ _;rw[h];exact aR.refl _
def eD{vs:List SW}{rs:List aF}(h:aR (vs.map (qI τ)) rs):vc P (fun o=>ey o (.ret rs)) (.ret vs) τ bk:=h
def pg{f:Nat}{args:List SW}{sh:List (Option Nat)}{as ts:List aF}(ha:aR (args.map (qI τ)) as)(hd:aK P f as (.ret ts))(hs:ts.map aF.shape=sh.map some)(hk:vc P post k (τ++ts) bk):vc P post (.need (.call f args sh) op ty last k) τ bk:=
 .inl ⟨ts,⟨hs,hd.sub ha⟩,by have:=congrArg List.length hs;simpa[eY.ids]using this,hk⟩
def bC{d:Nat}{inits:List LV}(G:Type)(tys:G->List aF)(μ:G->Nat)(g0:G)(h0:aR (inits.map (OJ τ)) (tys g0))(hl:∀g,(tys g).length=inits.length)
  (h:∀g,vc P post k (τ++tys g) (bk.take d++[fun ts=>∃g',aR ts (tys g')/\μ g'<μ g])):vc P post (.loop d inits k) τ bk:=⟨G,tys,μ,g0,h0,hl,h⟩
def aa{d:Nat}{dY:List LV}{f:List aF->Prop}(hb:bk[d]?=some f)(h:f (dY.map (OJ τ))):vc P post (.back d dY) τ bk:=⟨f,hb,h⟩
end
open Go.RowKit (Below)
def xE(P:n7)(f:FuncId)(E sz:Nat)(pre post:List aF)(ts:List (List aE))(rs:List aF)(ts':List (List aE)):Prop:=
 (∀as w,(callFunc f as).run P w=.ok (.enter f as) w)/\ts'.length=ts.length/\(∀t∈ts',t.length=sz) /\
 ∀(M:j2)(w:World)(g off cap:Nat)(cur:l7)(vs1 vs2:n5),cX M w->M g->w.heap[g]?=some (.cells cur E (0,0)) ->
  off+ts.length*sz<=cur.size->ts.length<=cap->cap<=maxLen->ai M w ts.flatten ((cur.toList.drop off).take (ts.length*sz))->cW M w pre vs1->cW M w post vs2 ->
  Calls P f (vs1++.slice (some ⟨g,off,none⟩) ts.length cap::vs2).toArray w fun e w'=>∃cur' us,w.grownBy w' (some g)/\w'.heap[g]?=some (.cells cur' E (0,0))/\cur'.size=cur.size /\
   (∀j,(j<off\/off+ts.length*sz<=j)->cur'[j]?=cur[j]?)/\e=.returned (pack us)/\cW M w' rs us/\ai M w' ts'.flatten ((cur'.toList.drop off).take (ts.length*sz))
section
variable{P:n7}{N:Nat}{M0:fD}{w0 w:World}{s:St}{τ:Env}{ρ:Nat->Gh}{a:Act}
def Jc{N:Nat}{M:j2}{gh:Gh}{g off len cap E sz:Nat}{cur:l7}{w w':World}{s:St}{τ:Env}{bk:List (List aF->Prop)}{ρ:Nat->Gh}{a:Act}{res:List ResultVar}{rs:List aF}{ts':List (List aE)}(hval:gh.val=.slice (some ⟨g,off,none⟩) len cap)(hcur:gh.cur=cur)
  (hv:vc P (fun o=>o=.retr rs ts') (match(Cx P s res).run s with
   | some (vs,l)=>aP5 s E sz vs l
   | none=>.fail 1008) τ bk) (hs:Sat (fD.mk (fun k=>M k/\k≠g) gh) w N s τ ρ a w') :
  ∃us cur',(res.mapM (nD a.tmps)).run P w'=.ok us w'/\cW M w' rs us/\w.grownBy w' (some g)/\w'.heap[g]?=some (.cells cur' E (0,0))/\cur'.size=cur.size/\(∀j,(j<off\/off+len*sz<=j)->cur'[j]?=cur[j]?)/\ai M w' ts'.flatten ((cur'.toList.drop off).take (len*sz))/\ρ 0=gh:=by
 have hO:∀k,(fD.mk (fun k=>M k/\k≠g) gh).O k↔k=g:=by
  intro k;simp[fD.O,hval,Value.ownBlock,eq_comm]
 split at hv
 .rename_i vs' l hq;unfold aP5 at hv;split at hv
  .rename_i E' sz' cid hb0;split at hv
   .rename_i hc;obtain⟨rfl,rfl,hs0,hl0⟩:=hc;obtain⟨ts2,hcid,hpo⟩:=hv;have hpo:Out.retr _ ts2=Out.retr rs ts':=hpo;simp only[Out.retr.injEq]at hpo;obtain⟨hrs,rfl⟩:=hpo;have hgh0:=hs.pt 0 E' sz' cid hb0;have hown0:own ρ 0 (.part E' sz' cid)=some g:=by simp only[own,hgh0,hval];rfl
    have hS:cp (fD.mk (fun k=>M k/\k≠g) gh) ρ s l M:=by
     refine⟨fun k hk=>?_,fun b x k h1 h2 h3 hk=>?_⟩
     .by_cases hkg:k=g
      .subst hkg;exact .inr ⟨0,_,hb0,hs0,hown0⟩
      .exact .inl ⟨hk,hkg⟩
     .by_cases hkg:k=g
      .subst hkg;have:=hs.inj b 0 x _ k h1 hb0 h2 hown0;subst this;rcases h3 with h3 | h3
       .rw[hs0]at h3;cases h3
       .have:l.contains 0=true:=by simpa using h3
        rw[hl0]at this;cases this
      .exact hs.old k ⟨hk,hkg⟩ (hs.lo b x k h1 h2).1
    obtain⟨us,hr,hrepr⟩:=uh hs hq hS;obtain⟨ts3,xs,hcid3,⟨hxl,hown⟩,hlen3,hrep3,_,hfr⟩:=hs.bx 0 _ hb0;rw[hcid]at hcid3;simp only[aM,aF.rows.injEq]at hcid3;subst hcid3;rw[hgh0]at hown hfr;rcases hown with⟨_,c,hv⟩ | ⟨g2,off2,cap2,cur2,hv,hg2,hnc,hcm,hfit2,htake⟩
    .rw[hval]at hv;simp at hv
    .rw[hval]at hv;simp only[nf,aM,rS,iV]at hv;obtain⟨⟨rfl,rfl⟩,hll,rfl⟩:=hv;obtain⟨hf1,hf2⟩:=hfr g off len cap hval cur2 hg2;rw[hcur]at hf1 hf2;have hb:=hs.below;refine⟨us,cur2,hr,by rw[<-hrs];exact hrepr,⟨hb.os,hb.tape,hb.output,hb.size,fun k hk hne=>hb.block k hk fun ho=>hne (by rw[(hO k).1 ho])⟩,hg2,hf1,hf2,?_,hgh0⟩;rw[hll,htake];exact hrep3.mono hS.jc
   .exact hv.elim
  .exact hv.elim
 .exact hv.elim
def GQ{f:FuncId}{fn:Func}{hints:Nat->Option Hint}{a1 a2:List Arg}{i1 i2:List In}{E sz:Nat}{ts ts':List (List aE)}{rs:List aF}(hm:P.follows .mixedOrders=true)(hok:vX P f=true)
  (hf:P.funcs[f]?=some fn) (hin1:au In.Is a1 i1) (hin2:au In.Is a2 i2) (hlo:Xq 0 (a1++.lent E sz::a2)=some (a1.length,E,sz)) (hl:ts'.length=ts.length) (hts:∀t∈ts,t.length=sz) (hts':∀t∈ts',t.length=sz)
  (h:vc P (fun o=>o=.retr rs ts') (SP P fn hints (a1++.lent E sz::a2)) (i1.map In.env++.rows ts::i2.map In.env) []):xE P f E sz (i1.map In.ty) (i2.map In.ty) ts rs ts':=by
 refine⟨bM hok,hl,hts',fun M w g off cap cur vs1 vs2 hM hMg hg hfit hcap hmax hrep hv1 hv2=>?_⟩;unfold SP at h;rw[hlo]at h;split at h
 .rename_i c i E0 sz0 hb heq;simp only[aM,cF]at heq;obtain⟨rfl,rfl,rfl⟩:=heq;split at h
  .rename_i hlen;refine jn hf hb ?_;have hl1:a1.length=i1.length:=hin1.length;have hl2:a2.length=i2.length:=hin2.length;have hv1l:vs1.length=i1.length:=by rw[<-hv1.length];simp
   have hv2l:vs2.length=i2.length:=by rw[<-hv2.length];simp
   generalize hgh:(⟨0,.slice (some ⟨g,off,none⟩) ts.length cap,cur⟩:Gh)=gh
   have hO:∀k,(fD.mk (fun k=>M k/\k≠g) gh).O k↔k=g:=by
    intro k;subst hgh;simp[fD.O,Value.ownBlock,eq_comm]
   have hMs0:∀k,Ms (fD.mk (fun k=>M k/\k≠g) gh) (fun _=>gh) ⟨(a1++.lent E sz::a2).mapIdx fun i a=>(i,kM i a),[(0,.part E sz a1.length)],[]⟩ k↔M k:=by
    intro k
    constructor
    .rintro(hk | ⟨b,x,h1,_,h3⟩)
     .exact hk.1
     .simp only[St.b,look]at h1;split at h1
      .simp only[aM]at h1;subst h1 hgh;simp only[own,Value.ownBlock,aM]at h3;subst h3;exact hMg
      .cases h1
    .intro hk;by_cases hkg:k=g
     .subst hkg;exact .inr ⟨0,.part E sz a1.length,by simp[St.b,look],by simp[St.s],by subst hgh;simp[own,Value.ownBlock]⟩
     .exact .inl ⟨hk,hkg⟩
   have hMs:Ms (fD.mk (fun k=>M k/\k≠g) gh) (fun _=>gh) ⟨(a1++.lent E sz::a2).mapIdx fun i a=>(i,kM i a),[(0,.part E sz a1.length)],[]⟩=M:=funext fun k=>propext (hMs0 k);have hglt:g<w.heap.size:=(cf.1 hg).1;refine pI (M0:=fD.mk (fun k=>M k/\k≠g) gh) (w0:=w) hm c 0 0 1 (a1++.lent E sz::a2).length _ [] _ _ [] h iF (by intro x hx;cases hx) (ah _) (fun _=>gh) _ w _ ?_ ?_ yz.noR ?_
   .refine⟨⟨rfl,rfl,rfl,ah _,fun _ _ _=>rfl,fun x hx=>⟨fun hm=>(hM.2 x hx).1 hm.1,fun ho=>(hM.2 x hx).1 (by rw[(hO _).1 ho];exact hMg),(hM.2 x hx).2⟩⟩,?_,rfl,fun t=>?_,?_,?_,?_,?_,?_⟩
    .simp at hlen|-;omega
    .rw[hMs,aM3];cases hat:(a1++.lent E sz::a2)[t]? with
     | none=>trivial
     | some x=>
       have htl:t<(a1++.lent E sz::a2).length:=(fK.1 hat).1;simp only[gK,bm]at htl
       have hval:((vs1++.slice (some ⟨g,off,none⟩) ts.length cap::vs2).toArray++Array.replicate (fn.ntmps-(vs1++.slice (some ⟨g,off,none⟩) ts.length cap::vs2).toArray.size) undef).getD t undef=(vs1++.slice (some ⟨g,off,none⟩) ts.length cap::vs2).getD t undef:=by
        rw[iG,FH iF,dp];simp
       rw[hval,dp];simp only[eS,ib];by_cases h1:t<a1.length
       .rw[et h1]at hat;rw[et O];obtain⟨y,hy,hix⟩:=hin1.get t x hat;have hvt:vs1[t]?=some (vs1[t]' O):=bU O;obtain⟨ty,hty,hrep1⟩:=hv1.get t _ hvt;rw[dS,hy]at hty;simp only[eS,aM]at hty;subst hty;rw[hvt];exact wV (by rw[et iF,dS,hy];rfl) hix hrep1
       .rw[jP O]at hat|-;by_cases h2:t=a1.length
        .subst h2;rw[jj]at hat;simp only[nL,aM]at hat;subst hat;rw[hv1l,<-hl1,jj];simp only[nL,ib];refine⟨by simp[St.b,look],by subst hgh;rfl,rfl⟩
        .have e1:t-a1.length=(t-a1.length-1)+1:=O
         have e2:t-vs1.length=(t-a1.length-1)+1:=O
         rw[e1,wz]at hat;rw[e2,wz];obtain⟨y,hy,hix⟩:=hin2.get _ x hat;have hvt:vs2[t-a1.length-1]?=some (vs2[t-a1.length-1]' O):=bU O;obtain⟨ty,hty,hrep1⟩:=hv2.get _ _ hvt;rw[dS,hy]at hty;simp only[eS,aM]at hty;subst hty;rw[hvt];exact wV (by rw[jP iF,aX,<-hl1,e1,wz,dS,hy];rfl) hix hrep1
    .intro b x hbx;rw[hMs];simp only[St.b,look]at hbx;split at hbx
     .simp only[aM]at hbx;subst hbx;refine⟨ts,_,?_,⟨?_,.inr ⟨g,off,cap,cur,?_,hg,hcap,hmax,hfit,rfl⟩⟩,hts,hrep,?_,?_⟩
      .rw[jP iF,aX,hl1,jj];rfl
      .rw[bP,dw,iL (xs:=cur)];exact ek O
      .subst hgh;rfl
      .subst hgh;rfl
      .intro g2 off2 len2 cap2 hv cur2 hg2;subst hgh;simp only[nf,aM,rS,iV]at hv;obtain⟨⟨rfl,rfl⟩,rfl,rfl⟩:=hv;rw[hg]at hg2;simp only[aM,Bq,iV]at hg2;subst hg2;exact⟨rfl,fun _ _=>rfl⟩
     .cases hbx
    .intro b b' x x' k h1 h2 _ _;simp only[St.b,look]at h1 h2;split at h1
     .split at h2
      .rename_i e1 e2;rw[<-e1,<-e2]
      .cases h2
     .cases h1
    .intro b x k h1 h2;simp only[St.b,look]at h1;split at h1
     .simp only[aM]at h1;subst h1;have:k=g:=by subst hgh;simp only[own,Value.ownBlock,aM]at h2;exact h2.symm
      subst this;exact⟨.inr ((hO k).2 rfl),hglt⟩
     .cases h1
    .rintro k ⟨hk,hne⟩ (ho | ho)
     .exact nt.2 ho (hM.1 k hk)
     .exact hne ((hO k).1 ho)
    .intro b E' sz' cid hbx;rfl
   .intro c v a w' hp;cases hp
   .intro ex nb s dec m bk' ρ a w' _ _ hv _ hs;cases ex with
    | exit id=>exact hv.elim
    | normal | ret=>
      obtain⟨us,cur',hr,h1,h2,h3,h4,h5,h6,_⟩:=Jc (gh:=gh) (g:=g) (off:=off) (len:=ts.length) (cap:=cap) (E:=E) (sz:=sz) (res:=fn.results.toList) (by subst hgh;rfl) (by subst hgh;rfl) hv hs;exact⟨hs.df,_,ly fn a.tmps us hr,cur',us,h2,h3,h4,h5,rfl,h1,h6⟩
  .exact h.elim
 .exact h.elim
end
section
variable{P:n7}{post:Out->Prop}{bk:List (List aF->Prop)}{τ:Env}{op:Op}{ty:Nat}{last:Bool}{k:Tr}
def vu{c:Call}{f:FuncId}{E sz:Nat}{pre po:List aF}{ts ts':List (List aE)}{rs:List aF}(hc:c.callee=.value (.func f))(h:xE P f E sz pre po ts rs ts'):Zq P (.call c) ty E sz pre po ts rs ts':=by
 refine⟨h.2.1,h.2.2.1,?_⟩;intro M w a o c' K Q g off cap cur vs1 vs2 ho ht hc' hargs hM hMg hg hfit hcap hmax hrep h1 h2 hk;cases hc';unfold Oper.wp;rw[wH (cvs:=[]) ho hc rfl h.1,zM,dD,hargs];refine(h.2.2.2 M w g off cap cur vs1 vs2 hM hMg hg hfit hcap hmax hrep h1 h2).mono ?_;rintro e w' ⟨cur',us,hgr,hg',hs,hout,rfl,hr,hr'⟩;exact hk w' cur' us hgr hg' hs hout hr hr'
def at7{x y:n8}{T U E sz2 b2:Nat}{src ts:List (List aE)}(hT:eP P T=some (E,1,b2))(hle:src.length<=ts.length)(hsrc:∀t∈src,t.length=1)(hts:∀t∈ts,t.length=1) :
  Zq P (.call ⟨.builtin .copy,#[x,y],#[T,U]⟩) ty E 1 [] [.one (.slice 1 src)] ts [.one (.int .i64 src.length)] (src++ts.drop src.length):=by
 obtain⟨ie,hu,hie,hies,_⟩:=dZ hT;have hsz:(P.info? E).map (·.size)=some 1:=by rw[hie];simp[hies]
 refine⟨iF,fun t ht=>?_,?_⟩
 .rcases iM.1 ht with ht | ht
  .exact hsrc t ht
  .exact hts t (uA ht)
 .intro M w a o c' K Q g off cap cur vs1 vs2 ho ht hc' hargs hM hMg hg hfit hcap hmax hrep h1 h2 hk;cases hc';cases vs1 with
  | cons v vs=>exact h1.elim
  | nil=>
    have hx:a.eval x=.slice (some ⟨g,off,none⟩) ts.length cap:=by simpa using congrArg List.head? hargs
    have hy:vs2=[a.eval y]:=by
     have:=congrArg List.tail hargs
     simpa using this.symm
    subst hy;have hS:=Cv h2.1;rw[dc]at hfit hrep hk;cases hS with
    | nil c hv hus=>
      subst hus;have hrun:=run_copy_none (P:=P) w T U o.type E (some ⟨g,off,none⟩) none ts.length cap 0 c hu hsz bY
      have hwp:o.wp P a w K Q=K (a.put o.dst (goInt 0)) w:=by
       unfold Oper.wp;simp[execOp,ho,resolve,invoke,builtin,hx,hv,hrun,Result.andThen,Oper.upon]
      rw[hwp];exact hk w cur [.int .i64 0] ⟨rfl,rfl,rfl,ah _,fun _ _ _=>rfl⟩ hg rfl (fun _ _=>rfl) ⟨⟨rfl,rfl⟩,trivial⟩ (by simpa using hrep)
    | some ad c news hv hl hn hr hs=>
      rw[dc]at hl;have hrun:=run_copy_row (P:=P) w T U o.type E g off ts.length cap ad src.length c cur E news hu hsz hg (by rw[hl];exact(ek hle).symm) hn O hr.one
      have hwp:o.wp P a w K Q=K (a.put o.dst (goInt news.length)) (w.setRow g (cur.toList.take off++(news++cur.toList.drop (off+news.length))).toArray):=by
       unfold Oper.wp;simp[execOp,ho,resolve,invoke,builtin,hx,hv,hrun,Result.andThen,Oper.upon]
      rw[hwp];have hcl:cur.toList.length=cur.size:=iL;have hus:(ts.take src.length).length=src.length:=by rw[bP];omega
      have hsp:=HC (w:=w) (M:=M) (sz:=1) (ts:=ts) (us:=ts.take src.length) (us':=src) (n:=0) hts (by rw[hus,gF]) (by rw[hus];omega) (by rw[hus]) hs (by simpa using hrep) hr;rw[hus]at hsp;refine hk _ _ [.int .i64 news.length] ⟨rfl,rfl,rfl,bY,fun k _ hk=>du w g k _ (by rintro rfl;exact hk rfl)⟩ (dP w _ _ _ _ _ hg) iF ?_ ⟨⟨by rw[hl],rfl⟩,trivial⟩ ?_
      .intro j hj;rw[FK,<-tz];simp only[wh,fi,kH,bP]
       grind
      .have e1:(cur.toList.take off++(news++cur.toList.drop (off+news.length))).toArray.toList.drop off=news++cur.toList.drop (off+news.length):=by
        show List.drop off (cur.toList.take off++(news++cur.toList.drop (off+news.length)))=_;rw[wo (by rw[bP];omega),xV (by rw[bP];omega),List.nil_append]
       rw[e1]
       have e2:(news++cur.toList.drop (off+news.length)).take ts.length=List.take (0*1) ((cur.toList.drop off).take ts.length)++news++List.drop (0*1+src.length*1) ((cur.toList.drop off).take ts.length):=by
        apply kd;intro j;simp only[wh,fi,kH,gK,bP,dw,hl]
        grind
       rw[e2];simp only[kR,List.nil_append,bw,dc,nV]at hsp|-;refine ai.mono ?_ hsp;intro k ob hnk hob _;exact⟨hnk,by rw[du w g k _ (by rintro rfl;exact hnk hMg)];exact hob⟩
def as1{cid E sz n:Nat}{view:Option (C0×C0)}{as bs:List SW}{sh:List (Option Nat)}{ts us us' vs:List (List aE)}{rs:List aF}(h1:τ[cid]?=some (.rows ts))(h2:aL7 τ view ts n us)(hne:us≠[])(hs:rs.map aF.shape=sh.map some)
  (hr:Zq P op ty E sz (as.map (qI τ)) (bs.map (qI τ)) us rs us') (hv:ts.take n++us'++ts.drop (n+us.length)=vs) (hk:vc P post k (τ++(rs++[.rows vs])) bk):vc P post (.need (.rop cid E sz view as bs sh) op ty last k) τ bk:=
 .inl ⟨rs++[.rows vs],⟨ts,us,us',rs,n,h1,h2,hne,hs,hr,by rw[hv]⟩,by have:=congrArg List.length hs;simpa[eY.ids]using this,hk⟩
def cw6{cid n m:Nat}{lo hi mx:C0}{ts:List (List aE)}{k1 k2 k3:IntKind}(h1:τ[cid]?=some (.rows ts))(h2:c0 τ lo=.int k1 n)(h3:c0 τ hi=.int k2 m)(h4:c0 τ mx=.int k3 m)(hnm:n<m)(hm:m<=ts.length)(hk:vc P post k τ bk):vc P post (.need (.view cid lo hi mx) op ty last k) τ bk:=
 .inl ⟨[],⟨ts,k1,k2,k3,n,m,h1,h2,h3,h4,hnm,hm,rfl⟩,rfl,by rw[dD];exact hk⟩
def yC{vs:List SW}{cid:Nat}{rs:List aF}{ts:List (List aE)}(h1:τ[cid]?=some (.rows ts))(h:vs.map (qI τ)=rs):vc P (fun o=>o=.retr rs ts) (.retr vs cid) τ bk:=by
 refine⟨ts,h1,?_⟩;show Out.retr _ _=_;rw[h]
end
open Go.RowKit (Below)
def TC(P:n7)(fn:Func)(hints:Nat->Option Hint)(args:List Arg)(T n:Nat):Tr:=
 match fn.body with
 | some c=>
   if args.length+1<=fn.ntmps then
   exec P fn.ntmps hints c 0 0 1 (args.length+1) ⟨(args.mapIdx fun i a=>(i,kM i a))++[(args.length,.w (.one (.rp 0 n (.k (.int .i64 0)) 0)))],[(0,.part T n args.length)],[]⟩ [] fun e nb ni s _=>match e with
    | .exit _=>.fail 1007
    | _=>match(Cx P s fn.results.toList).run s with
      | some (vs,l)=>aP5 s T n vs l
      | none=>.fail 1008
   else .fail 1009
 | _=>.fail 1006
def rj(P:n7)(f:FuncId)(T:Nat)(pre:List aF)(cs:List aE)(rs:List aF)(cs':List aE):Prop:=
 ∀(M:j2)(w:World)(g:Nat)(cur:l7)(vs1:n5),cX M w->M g->w.heap[g]?=some (.cells cur T (0,0))->ai M w cs cur.toList->cW M w pre vs1 ->
  Calls P f (vs1++[Value.pointer (some ⟨g,0,none⟩)]).toArray w fun e w'=>∃cur' us,w.grownBy w' (some g)/\w'.heap[g]?=some (.cells cur' T (0,0))/\e=.returned (pack us)/\cW M w' rs us/\ai M w' cs' cur'.toList
def aR8{α:Type}(l m:List (Nat×α))(t:Nat):look (l++m) t=(look l t).or (look m t):=by
 induction l with
 | nil=>rfl
 | cons x l ih=>
   obtain⟨k,y⟩:=x;rw[List.cons_append];simp only[look];split
   .rfl
   .exact ih
open Go
def aB(l:j3)(N:Nat)(i:Nat):Nat:=l.getD i (N+(i-l.length))
structure Rn(ρ:Nat->Nat)(τ0 τ:Env):Prop where
 g:∀i,τ[ρ i]?=τ0[i]?
 n:∀j,ρ (τ0.length+j)=τ.length+j
def Rn.app{ρ:Nat->Nat}{τ0 τ a:Env}(h:Rn ρ τ0 τ):Rn ρ (τ0++a) (τ++a):=by
 refine⟨fun i=>?_,fun j=>by rw[gK,gK,jF,jF];exact h.n _⟩;rcases bG i τ0.length with hi | hi
 .have hg:=h.g i;rw[bU hi]at hg;rw[et (fK.1 hg).1,hg,et hi,bU hi]
 .obtain⟨j,rfl⟩:∃j,i=τ0.length+j:=⟨i-τ0.length,O⟩
  rw[h.n,jP O,jP O,Aw,Aw]
def Rn.of{l:j3}{N:Nat}{τ0 τ:Env}(hl:l.length=τ0.length)(hN:τ.length=N)(h:l.map (τ[·]?)=τ0.map some):Rn (aB l N) τ0 τ:=by
 subst hN;refine⟨fun i=>?_,fun j=>by rw[aB,dp,gE O,<-hl,Aw];rfl⟩;rw[aB,dp];rcases bG i l.length with hi | hi
 .have:=congrArg (·[i]?) h;simp only[dS,bU hi,bU (show i<τ0.length by omega),eS,aM]at this;rw[bU hi,ib,this,bU (show i<τ0.length by omega)]
 .rw[gE hi,Gm,gE O,gE O]
section
variable{ρ:Nat->Nat}{τ0 τ:Env}
end
def Tr.part:Tr->List Bool->Tr
 | .need nd op ty last k,b::l=>k.part (b::l)
 | .loop d is k,b::l=>k.part (b::l)
 | .split _ kt kf,b::l=>if b then kt.part l else kf.part l
 | t,_=>t
section
variable{P:n7}{T U ty:TypeId}{x y:n8}{a b:Int}
def fG{n:Int}(h1:-9223372036854775808<=n:=by omega)(h2:n<9223372036854775808:=by omega):IntKind.i64.wrap n=n:=by rw[IntKind.wrap_i64];omega
def Ll{n:Int}(h1:0<=n:=by omega)(h2:n<18446744073709551616:=by omega):IntKind.u64.wrap n=n:=by rw[uQ];omega
def XS{n:Int}(h1:0<=n)(h2:n<4294967296):IntKind.u32.wrap n=n:=by rw[IntKind.wrap_u32];omega
def UF{n:Int}(h1:0<=n:=by omega)(h2:n<256:=by omega):IntKind.u8.wrap n=n:=by rw[IntKind.wrap_u8];omega
def aC(h1:-9223372036854775808<=a+b:=by omega)(h2:a+b<9223372036854775808:=by omega):aq P (.binOp .add T x y U) ty [.one (.int .i64 a),.one (.int .i64 b)] (.one (.int .i64 (a+b))):=fP (fG h1 h2)
def aL(h1:-9223372036854775808<=a-b:=by omega)(h2:a-b<9223372036854775808:=by omega):aq P (.binOp .sub T x y U) ty [.one (.int .i64 a),.one (.int .i64 b)] (.one (.int .i64 (a-b))):=qQ (fG h1 h2)
def pb(h1:-9223372036854775808<=a*b:=by omega)(h2:a*b<9223372036854775808:=by omega):aq P (.binOp .mul T x y U) ty [.one (.int .i64 a),.one (.int .i64 b)] (.one (.int .i64 (a*b))):=uv (fG h1 h2)
def kW(h0:0<=a:=by omega)(h1:0<b:=by omega)(h2:a<9223372036854775808:=by omega):aq P (.binOp .quo T x y U) ty [.one (.int .i64 a),.one (.int .i64 b)] (.one (.int .i64 (a/b))):=te O (by
 have h3:a/b<=a:=Int.ediv_le_self b h0;have h4:0<=a/b:=QZ h0 O;rw[nY h0,fG])
def zw{k:IntKind}(hu:∃d,P.underlying T=some d)(hd:P.underlying U=some (.int .i64))(h1:-9223372036854775808<=a:=by omega)(h2:a<9223372036854775808:=by omega):aq P (.convert T U x) ty [.one (.int k a)] (.one (.int .i64 a)):=lj hu hd (fG h1 h2)
def OT(h1:-9223372036854775808<=-a:=by omega)(h2:-a<9223372036854775808:=by omega):aq P (.unOp .neg T x) ty [.one (.int .i64 a)] (.one (.int .i64 (-a))):=bw9 (by rw[Int.zero_sub];exact fG h1 h2)
def al4(h1:0<=a+b:=by omega)(h2:a+b<18446744073709551616:=by omega):aq P (.binOp .add T x y U) ty [.one (.int .u64 a),.one (.int .u64 b)] (.one (.int .u64 (a+b))):=fP (Ll h1 h2)
def ar3(h1:0<=a-b:=by omega)(h2:a-b<18446744073709551616:=by omega):aq P (.binOp .sub T x y U) ty [.one (.int .u64 a),.one (.int .u64 b)] (.one (.int .u64 (a-b))):=qQ (Ll h1 h2)
def ap5(h1:0<=a*b:=by omega)(h2:a*b<18446744073709551616:=by omega):aq P (.binOp .mul T x y U) ty [.one (.int .u64 a),.one (.int .u64 b)] (.one (.int .u64 (a*b))):=uv (Ll h1 h2)
def ON(h0:0<=a:=by omega)(h1:0<b:=by omega)(h2:a<18446744073709551616:=by omega):aq P (.binOp .quo T x y U) ty [.one (.int .u64 a),.one (.int .u64 b)] (.one (.int .u64 (a/b))):=te O (by
 have h3:a/b<=a:=Int.ediv_le_self b h0;have h4:0<=a/b:=QZ h0 O;rw[nY h0,Ll])
def vj{k:IntKind}(hu:∃d,P.underlying T=some d)(hd:P.underlying U=some (.int .u64))(h1:0<=a:=by omega)(h2:a<18446744073709551616:=by omega):aq P (.convert T U x) ty [.one (.int k a)] (.one (.int .u64 a)):=lj hu hd (Ll h1 h2)
def pW(h1:0<=a+b:=by omega)(h2:a+b<4294967296:=by omega):aq P (.binOp .add T x y U) ty [.one (.int .u32 a),.one (.int .u32 b)] (.one (.int .u32 (a+b))):=fP (XS h1 h2)
def pf(h1:0<=a-b:=by omega)(h2:a-b<4294967296:=by omega):aq P (.binOp .sub T x y U) ty [.one (.int .u32 a),.one (.int .u32 b)] (.one (.int .u32 (a-b))):=qQ (XS h1 h2)
def tD{k:IntKind}(hu:∃d,P.underlying T=some d)(hd:P.underlying U=some (.int .u32))(h1:0<=a:=by omega)(h2:a<4294967296:=by omega):aq P (.convert T U x) ty [.one (.int k a)] (.one (.int .u32 a)):=lj hu hd (XS h1 h2)
def Uj(h1:0<=a+b:=by omega)(h2:a+b<256:=by omega):aq P (.binOp .add T x y U) ty [.one (.int .u8 a),.one (.int .u8 b)] (.one (.int .u8 (a+b))):=fP (UF h1 h2)
def Lz(h1:0<=a-b:=by omega)(h2:a-b<256:=by omega):aq P (.binOp .sub T x y U) ty [.one (.int .u8 a),.one (.int .u8 b)] (.one (.int .u8 (a-b))):=qQ (UF h1 h2)
variable{k:IntKind}
def gR(h0:0<=a:=by omega)(h1:0<b:=by omega):aq P (.binOp .rem T x y U) ty [.one (.int k a),.one (.int k b)] (.one (.int k (a%b))):=IM O (uP h0)
def bA:aq P (.binOp .eql T x y U) ty [.one (.int k a),.one (.int k b)] (.one (.bool (decide (a=b)))):=aQ0
def jA:aq P (.binOp .neq T x y U) ty [.one (.int k a),.one (.int k b)] (.one (.bool (decide (a≠b)))):=by
 have:decide (a≠b) = !decide (a=b):=by by_cases h:a=b<;>simp[h]
 rw[this];exact Uo
def az:aq P (.binOp .lss T x y U) ty [.one (.int k a),.one (.int k b)] (.one (.bool (decide (a<b)))):=xy
def iQ:aq P (.binOp .leq T x y U) ty [.one (.int k a),.one (.int k b)] (.one (.bool (decide (a<=b)))):=cj9
def fL:aq P (.binOp .gtr T x y U) ty [.one (.int k a),.one (.int k b)] (.one (.bool (decide (b<a)))):=TL
def gW:aq P (.binOp .geq T x y U) ty [.one (.int k a),.one (.int k b)] (.one (.bool (decide (b<=a)))):=LH
def Oo{p:Prop}[Decidable p]:aq P (.unOp .not T x) ty [.one (.bool (decide p))] (.one (.bool (decide (¬p)))):=by
 have:decide (¬p) = !decide p:=by by_cases h:p<;>simp[h]
 rw[this];exact jW
def cJ5{s t:ByteArray}:(s.toList==t.toList)=decide (s.data=t.data):=by
 rw[ByteArray.toList_eq,ByteArray.toList_eq];by_cases h:s.data=t.data
 .simp[h]
 .have:¬s.data.toList=t.data.toList:=fun e=>h (Array.toList_inj.1 e);simp[h]
def ca3{s t:ByteArray}:aq P (.binOp .eql T x y U) ty [.one (.str s),.one (.str t)] (.one (.bool (decide (s.data=t.data)))):=by
 rw[<-cJ5];exact ai8
def bP7{p q:Bool}(hu:P.underlying T=some .bool):aq P (.binOp .eql T x y U) ty [.one (.bool p),.one (.bool q)] (.one (.bool (decide (p=q)))):=by
 intro M w ρ o ho _ hr;obtain⟨hx,hy⟩:=vO hr;have hx:ρ x=.bool p/\_:=hx;have hy:ρ y=.bool q/\_:=hy;exact⟨.bool (decide (p=q)),by cases p<;>cases q<;>simp[execOp,ho,hx.1,hy.1,eqGuard,binOp,Op.equal,Op.maxDepth,run_equalIn_bool _ _ _ _ _ hu],⟨rfl,rfl⟩⟩
def bM1{p q:Bool}(hu:P.underlying T=some .bool):aq P (.binOp .neq T x y U) ty [.one (.bool p),.one (.bool q)] (.one (.bool (decide (p≠q)))):=by
 intro M w ρ o ho _ hr;obtain⟨hx,hy⟩:=vO hr;have hx:ρ x=.bool p/\_:=hx;have hy:ρ y=.bool q/\_:=hy;exact⟨.bool (decide (p≠q)),by cases p<;>cases q<;>simp[execOp,ho,hx.1,hy.1,eqGuard,binOp,Op.equal,Op.maxDepth,run_equalIn_bool _ _ _ _ _ hu],⟨rfl,rfl⟩⟩
def aY{E sz b m:Nat}{n:Int}{α:Type}{f:α->List aE}{xs:List α}{d:α}(h:eP P T=some (E,sz,b))(hd:xs[m]?=some d)(hm:n.toNat=m:=by omega)(h0:0<=n:=by omega) :
  aq P (.indexAddr T x y) ty [.one (.slice sz (xs.map f)),.one (.int k n)] (.one (.aW (f d))):=bx6 h h0 (by rw[hm,dS,hd];rfl)
def aP6{ts:Array TypeId}:aq P (.call ⟨.builtin .min,#[x,y],ts⟩) ty [.one (.int k a),.one (.int k b)] (.one (.int k (min a b))):=by
 intro M w ρ o ho ht hr;obtain⟨hx,hy⟩:=vO (x:=x) (y:=y) hr;have hx:ρ x=.int k a/\_:=hx;have hy:ρ y=.int k b/\_:=hy;have e:(if b<a then b else a)=min a b:=O
 exact⟨.int k (min a b),by simp[execOp,ho,resolve,invoke,builtin,hx.1,hy.1,run_min_int2,e],⟨rfl,rfl⟩⟩
def aU3{ts:Array TypeId}:aq P (.call ⟨.builtin .max,#[x,y],ts⟩) ty [.one (.int k a),.one (.int k b)] (.one (.int k (max a b))):=by
 intro M w ρ o ho ht hr;obtain⟨hx,hy⟩:=vO (x:=x) (y:=y) hr;have hx:ρ x=.int k a/\_:=hx;have hy:ρ y=.int k b/\_:=hy;have e:(if a<b then b else a)=max a b:=O
 exact⟨.int k (max a b),by simp[execOp,ho,resolve,invoke,builtin,hx.1,hy.1,run_max_int2,e],⟨rfl,rfl⟩⟩
def bI{c:aE}(h:oC P T=some (false,1)):aq P (.load T x) ty [.one (.aW [c])] (.one c):=ay (n:=1) h dO bY (.inr rfl)
end
section
variable{P:n7}{post:Out->Prop}{bk:List (List aF->Prop)}{τ:Env}{op:Op}{ty:Nat}{last:Bool}{k:Tr}{α:Type}{f:α->List aE}
def dz{cid:Nat}{i:C0}{xs:List α}{ik:IntKind}{n:Int}(h1:τ[cid]?=some (.rows (xs.map f)))(h2:c0 τ i=.int ik n)(h0:0<=n)(hn:n<xs.length)(hk:vc P post k τ bk):vc P post (.need (.idx cid i) op ty last k) τ bk:=
 qP h1 h2 h0 (by rw[aX];exact hn) hk
def ar6{cid off sz m:Nat}{ag:Bool}{i:C0}{xs:List α}{d:α}{ik:IntKind}{n:Int}{t:aF}(h1:τ[cid]?=some (.rows (xs.map f)))(h2:c0 τ i=.int ik n)(h0:0<=n)(hm:n.toNat=m)(hd:xs[m]?=some d)(hag:ag=true\/sz=1)(ht:SG ag (((f d).drop off).take sz)=t)(hk:vc P post k (τ++[t]) bk):vc P post (.need (.ldrow cid i off sz ag) op ty last k) τ bk:=
 vld h1 h2 h0 (by rw[hm,dS,hd];rfl) hag ht hk
def tZ{cid off m:Nat}{i:C0}{xs:List α}{d:α}{c:aE}{ik:IntKind}{n:Int}(h1:τ[cid]?=some (.rows (xs.map f)))(h2:c0 τ i=.int ik n)(h0:0<=n)(hm:n.toNat=m)(hd:xs[m]?=some d)(hc:(f d)[off]?=some c)(hk:vc P post k (τ++[.one c]) bk):vc P post (.need (.ldrow cid i off 1 false) op ty last k) τ bk:=by
 refine ar6 h1 h2 h0 hm hd (.inr rfl) ?_ hk;obtain⟨hlt,he⟩:=fK.1 hc;rw[ow hlt,he];rfl
def qA{cid sz off m:Nat}{i:C0}{cs:List C0}{xs:List α}{d d':α}{ik:IntKind}{n:Int}(h1:τ[cid]?=some (.rows (xs.map f)))(h2:c0 τ i=.int ik n)(h0:0<=n)(hm:n.toNat=m)(hd:xs[m]?=some d)
  (hu:(f d).take off++cs.map (c0 τ)++(f d).drop (off+cs.length)=f d') (hk:vc P post k (τ++[.rows ((xs.set m d').map f)]) bk):vc P post (.need (.strow cid sz i off cs) op ty last k) τ bk:=
 BE h1 h2 h0 (by rw[hm,dS,hd];rfl) (by rw[hm,hu,xj]) hk
def GD{z:n5}{b:Nat}{l c:C0}{n:Nat}{m:Int}{kl kc:IntKind}(a:α)(h1:c0 τ l=.int kl m)(h2:c0 τ c=.int kc m)(hmn:m=n)(hu:z.map .exact=f a)(hb:b*n<=140737488355328)(hm:n<=maxLen)(hk:vc P post k (τ++[.rows ((List.replicate n a).map f)]) bk):vc P post (.need (.make z b l c) op ty last k) τ bk:=
 vz (n:=n) (m:=n) (by rw[<-hmn];exact h1) (by rw[<-hmn];exact h2) (by rw[hu,rn]) (ah _) hb hm hk
def rW{sz b:Nat}{cid:Option Nat}{src:Option C0}{row:Option Nat}{xs:List α}{x:α}(h1:aM7 τ cid (xs.map f))(h2:aH3 τ sz src row [f x])(hb:(xs.length+1)*b<=140737488355328)(hm:xs.length+1<=maxLen)(hk:vc P post k (τ++[.rows ((xs++[x]).map f)]) bk):vc P post (.need (.app sz b cid src row) op ty last k) τ bk:=
 su (ts:=xs.map f) (us:=[f x]) h1 h2 (by rw[ep];rfl) (by rw[aX,gK];exact hb) (by rw[aX,gK];exact hm) hk
def aw8{cid E b2:Nat}{s:SW}{x y:n8}{T U:Nat}{xs zs ws:List α}(hf:∀a,(f a).length=1)(h1:τ[cid]?=some (.rows (zs.map f)))(h2:qI τ s=.one (.slice 1 (xs.map f)))(hT:eP P T=some (E,1,b2))(hle:xs.length<=zs.length)(hne:zs≠[])(hw:xs++zs.drop xs.length=ws)
  (hk:vc P post k (τ++[.one (.int .i64 xs.length),.rows (ws.map f)]) bk):vc P post (.need (.rop cid E 1 none [] [s] [none]) (.call ⟨.builtin .copy,#[x,y],#[T,U]⟩) ty last k) τ bk:=by
 have hall:∀l:List α,∀t∈l.map f,t.length=1:=fun l t ht=>by
  obtain⟨a,_,rfl⟩:=jf.1 ht;exact hf a
 refine as1 (n:=0) (us:=zs.map f) h1 ⟨rfl,rfl⟩ (by simpa using hne) rfl (by rw[List.map_singleton,h2];exact at7 (sz2:=0) hT (by simpa using hle) (hall xs) (hall zs)) rfl ?_
 have e1:List.take 0 (zs.map f)++(xs.map f++(zs.map f).drop (xs.map f).length)++(zs.map f).drop (0+(zs.map f).length)=ws.map f:=by
  rw[kR,List.nil_append,bw,Rx,dD,aX,<-rL,<-ep,hw]
 rw[e1,aX];exact hk
end
abbrev W(i j:Nat):SW:=.one (.c (.u i j))
abbrev U(i j:Nat):SC:=.c (.u i j)
abbrev cT:Nat->Option Hint:=fun _=>none
abbrev WK(n:Int):SW:=.one (.c (.k (.int .i64 n)))
abbrev I3(n:Int):Value:=.int .i64 n
abbrev G1(i:Nat):SW:=.agg [U i 0]
abbrev G2(i:Nat):SW:=.agg [U i 0,U i 1]
abbrev G3(i:Nat):SW:=.agg [U i 0,U i 1,U i 2]
abbrev G4(i:Nat):SW:=.agg [U i 0,U i 1,U i 2,U i 3]
abbrev G5(i:Nat):SW:=.agg [U i 0,U i 1,U i 2,U i 3,U i 4]
abbrev G6(i:Nat):SW:=.agg [U i 0,U i 1,U i 2,U i 3,U i 4,U i 5]
abbrev G8(i:Nat):SW:=.agg [U i 0,U i 1,U i 2,U i 3,U i 4,U i 5,U i 6,U i 7]
abbrev tE(v:Value):SC:=.c (.k v)
abbrev tN:SC:=.c (.k (.slice none 0 0))
abbrev tF(b:Bool):SW:=.one (.c (.k (.bool b)))
abbrev lV(i j:Nat):LV:=.w (W i j)
abbrev lK(z:Int):LV:=.w (WK z)
abbrev lN:LV:=.w (.one tN)
abbrev tT(n:Nat):Operand:=.tmp n
def FX(o:BinOp)(T t:Nat)(z:Int)(i j ty:Nat)(k:Tr):Tr:=.need (.prim [W i j,WK z] none) (.binOp o T (.tmp t) (.const (I3 z)) T) ty false k
def yH(o:BinOp)(T t u i j m n ty:Nat)(k:Tr):Tr:=.need (.prim [W i j,W m n] none) (.binOp o T (.tmp t) (.tmp u) T) ty false k
def eO(f:Nat)(as:List SW)(sh:List (Option Nat))(ts tys:j3)(ty:Nat)(l:Bool)(k:Tr):Tr:=.need (.call f as sh) (.call ⟨.value (.func f),(ts.map Operand.tmp).toArray,tys.toArray⟩) ty l k
def jL(i j m n T t u:Nat)(k:Tr):Tr:=.need (.prim [W i j,W m n] none) (.indexAddr T (.tmp t) (.tmp u)) 0 false k
def yU(a b:Nat):Tr:=.ret [.one (.c (.sr a b))]
def OO(a b c d e:Nat)(g:Tr):Tr:=.need (.strow a 3 (.u b 0) 0 [.u c 0,.u c 1,.u c 2]) (.store 39 (.tmp d) (.tmp e)) 0 false g
def eV(a b c d e:Nat)(g:Tr):Tr:=.need (.idx a (.u b 0)) (.indexAddr c (.tmp d) (.tmp e)) 0 false g
def og(a:Nat)(b:Int)(c d e:Nat)(g:Tr):Tr:=.need (.call a [WK b] [some c]) (.call ⟨.value (.func a),#[.const (I3 b)],#[d]⟩) e true g
def ag5(a b c:Nat)(d:Tr):Tr:=.need (.make [.slice none 0 0,.bool false,.slice none 0 0] 56 (.u a 0) (.u a 0)) (.makeSlice b (.tmp c) (.tmp c)) b false d
def hx137Q:Tr:=.ret [tF false]
def kA(a b c:Nat):Tr:=.back a [.w (W b 0),.w (W c 0)]
def bX(a:Nat)(b:Int)(c d:Nat)(e:Tr):Tr:=.need (.prim [W a 0,WK b] none) (.binOp .add c (.tmp d) (.const (I3 b)) c) c false e
def aJ(a b:Nat)(c d:Tr):Tr:=.split (.u a b) c d
def ia(a b:Nat)(c:Int)(d e:Nat)(g:Tr):Tr:=.need (.prim [W a b,WK c] none) (.binOp .gtr d (.tmp e) (.const (I3 c)) d) 4 false g
def dW(a b c d e g h:Nat)(i:Tr):Tr:=.need (.prim [W a 0,W b c] none) (.binOp .lss d (.tmp e) (.tmp g) d) h false i
def Rm(a:Tr):Tr:=.loop 0 [.w (.one (.c (.k (.bool false)))),.w (WK 0)] a
def yQ(a b c d e:Nat):Tr:=.ret [.agg [U a 0,U a 1,U a 2,U b c,U b d,U b e]]
def cC(a:Nat):Tr:=.ret [W a 0]
def kp(a b:Nat)(c:Int)(d e:Nat)(g:Tr):Tr:=.need (.prim [W a b,WK c] none) (.binOp .lss d (.tmp e) (.const (I3 c)) d) 4 false g
def iz(a b c d e:Nat):Tr:=.ret [.agg [U a 0,U b c,U d e]]
def aM0(a:Nat)(b:Tr):Tr:=.need (.call 258 [.one (.lp a []),W 0 0] [some 3]) (.call ⟨.value (.func 258),#[.func a,tT 3],#[305,40]⟩) 39 true b
def oh(a b c d e g:Nat)(h:Tr):Tr:=.need (.call a [W b 0] [some c]) (.call ⟨.value (.func a),#[.tmp d],#[e]⟩) g true h
def yF(a b c d e g:Nat)(h:Tr):Tr:=.need (.call a [W b 0] [some c]) (.call ⟨.value (.func a),#[.tmp d],#[e]⟩) g false h
def Dh(a b c d e g h:Nat)(i:Tr):Tr:=.need (.call a [.one (.c (.sr b c))] [some d]) (.call ⟨.value (.func a),#[.tmp e],#[g]⟩) h true i
def aF6(a b c d e g h i j:Nat)(k:Tr):Tr:=.need (.callv (.u 0 0) [.agg [U 1 a,U 1 b,U 1 c],.agg [U 2 d,U 2 e,U 2 g]] [some 3]) (.call ⟨.value (.tmp h),#[.tmp i,.tmp j],#[39,39]⟩) 39 false k
def lZ(a b c d e g h i j k l m n o p:Nat)(q:Tr):Tr:=.need (.call a [.agg [U b c,U d e,U g h],.agg [U i j,U k l,U m n]] [some 3]) (.call ⟨.value (.func a),#[.tmp o,.tmp p],#[39,39]⟩) 39 true q
def dh(a b c d e g h:Nat)(i:Tr):Tr:=.need (.prim [W a b,W c d] none) (.binOp .add e (.tmp g) (.tmp h) e) e false i
def bD(a b c d:Nat)(e:Tr):Tr:=.need (.prim [W a b] none) (.call ⟨.builtin .len,#[.tmp c],#[d]⟩) 3 false e
def ot(a b c d e:Nat)(g:Tr):Tr:=.need (.call a [.agg [U b 0,U b 1,U b 2,U b 3]] [some c]) (.call ⟨.value (.func a),#[.tmp d],#[49]⟩) e false g
def RW(a b:Nat)(c:Tr):Tr:=.need (.call a [.agg [U 0 0,U 0 1]] [some 2]) (.call ⟨.value (.func a),#[.tmp b],#[47]⟩) 47 false c
def ju(a b:Nat)(c:Int)(d e:Nat)(g:Tr):Tr:=.need (.prim [W a b,WK c] none) (.binOp .leq d (.tmp e) (.const (I3 c)) d) 4 false g
def Dc(a:Nat)(b:Int)(c d:Nat)(e:Tr):Tr:=.need (.call a [WK b] [some c]) (.call ⟨.value (.func a),#[.const (I3 b)],#[2]⟩) d false e
def mL(a b c:Nat):Tr:=.back a [.w (W b 0),.row c]
def jk(a b c d e g h:Nat)(i:Tr):Tr:=.need (.app a b (some c) none (some d)) (.call ⟨.builtin .append,#[.tmp e,.tmp g],#[h,h]⟩) h false i
def aP3(a b:Nat)(c:Tr):Tr:=.need (.lit 6 [[.u a 0,.u a 1,.u a 2,.u a 3,.u a 4,.u a 5]]) (.buildSlice 118 1 #[(0,.tmp b)]) 118 false c
def Pk(a b c d e g h i:Nat)(j:Tr):Tr:=.need (.call a [.agg [U b c,U b d,U b e]] [some g]) (.call ⟨.value (.func a),#[.tmp h],#[39]⟩) i true j
def dK(a b c d:Nat)(e:Tr):Tr:=.need (.prim [W a 0] (some b)) (.load c (.tmp d)) c false e
def RB(a b c d e:Nat)(g:Tr):Tr:=.need (.ldrow a (.u b 0) 0 c true) (.load d (.tmp e)) d false g
def cq(a b c:Nat)(d:Tr):Tr:=.need (.prim [W a 0] none) (.load b (.tmp c)) b false d
def zB(a:Nat)(b:Tr):Tr:=.loop a [.w (WK 0),.nilrow] b
def ZN(a b c d e:Nat)(g:Tr):Tr:=.need (.lit 3 [[.u a 0,.u a 1,.u a 2],[.u b 0,.u b 1,.u b 2]]) (.buildSlice c 2 #[(0,.tmp d),(1,.tmp e)]) c false g
def yD(a b c d e g h i j k l m n:Nat)(o:Tr):Tr:=.need (.call a [.agg [U b 0,U c d,U e g],.agg [U h 0,U i j,U k l]] [some 3]) (.call ⟨.value (.func a),#[.tmp m,.tmp n],#[39,39]⟩) 39 false o
def mv(a b c d e:Nat)(g:Tr):Tr:=.need (.call a [.agg [U b 0,U b 1,U b 2]] [some c]) (.call ⟨.value (.func a),#[.tmp d],#[39]⟩) e false g
def YD(a b:Nat)(c:Tr):Tr:=.need (.call 130 [W a 0,WK 5] []) (.call ⟨.value (.func 130),#[.tmp b,.const (I3 5)],#[4,55]⟩) 0 true c
def oK(a b c:Nat)(d:Tr):Tr:=.need (.prim [W a 0,WK 0] none) (.binOp .neq b (.tmp c) (.const (I3 0)) b) 4 false d
def Hs(a:Int):Tr:=.ret [.one (.c (.k (.slice none 0 0))),WK a]
def CH(a b:Nat):Tr:=.ret [W a 0,W b 0]
def gd(a b:Nat)(c:Int)(d e:Nat)(g:Tr):Tr:=.need (.prim [W a b,WK c] none) (.binOp .eql d (.tmp e) (.const (I3 c)) d) 4 false g
def ZM(a b c d e:Nat)(g:Tr):Tr:=.need (.call 40 [.agg [U a b,U a c,U a d]] [some 3,some 4]) (.call ⟨.value (.func 40),#[.tmp e],#[26]⟩) 82 false g
def OS(a b c d e g h i j k l m:Nat)(n:Tr):Tr:=.need (.call 38 [.agg [U a b,U a c,U a d],.agg [U e g,U h i,U j k]] [none]) (.call ⟨.value (.func 38),#[.tmp l,.tmp m],#[39,39]⟩) 3 false n
def vD(a b c d e g h i:Nat)(j:Tr):Tr:=.need (.call a [.agg [U b c,U b d,U b e]] [none]) (.call ⟨.value (.func a),#[.tmp g],#[h]⟩) i true j
def tk(a b c d e g h i:Nat)(j:Tr):Tr:=.need (.call a [.agg [U b c,U b d,U b e]] [none]) (.call ⟨.value (.func a),#[.tmp g],#[h]⟩) i false j
def aH0(a:Nat):Tr:=.ret [.one (.c (.k (.slice none 0 0))),W a 0]
def kq(a b c:Nat)(d:Tr):Tr:=.need (.prim [W a b] none) (.unOp .not 4 (.tmp c)) 4 false d
def tO(a:Tr):Tr:=eO 16 [] [none] [] [] 4 true a
def mr(a b:Nat)(c:Int)(d e:Nat)(g:Tr):Tr:=.need (.prim [W a b,WK c] none) (.indexAddr d (.tmp e) (.const (I3 c))) 0 false g
def my(a b:Nat)(c:Int)(d e:Nat)(g:Tr):Tr:=.need (.prim [W a b,WK c] none) (.binOp .geq d (.tmp e) (.const (I3 c)) d) 4 false g
def De(a b c d:Nat)(e:Tr):Tr:=.need (.prim [W a 0] none) (.fieldAddr b (.tmp c) d) 0 false e
def iJ(a:Nat)(b:Int)(c:Nat)(d:Tr):Tr:=.need (.prim [W a 0,WK b] none) (.binOp .sub 3 (.tmp c) (.const (I3 b)) 3) 3 false d
def Zv(a b c d e g:Nat)(h:Tr):Tr:=.need (.call 72 [G5 8,.agg [U a b,U a c,U a d],WK 10] [none,none]) (.call ⟨.value (.func 72),#[.tmp e,.tmp g,.const (I3 10)],#[42,39,3]⟩) 130 false h
def sV(a:Nat):Tr:=.ret [.agg [U a 0]]
def aG8(a:Tr):Tr:=.need (.prim [W 0 0,W 2 0,W 2 0] none) (.slice 33 (tT 18) none (some (tT 19)) (some (tT 20))) 33 false a
def Xo(a:Nat)(b:Int)(c:Nat)(d:Tr):Tr:=.need (.prim [W a 0,.one (.c (.k (.int .u32 b)))] none) (.binOp .eql 255 (.tmp c) (.const (.int .u32 b)) 255) 4 false d
def ID(a:Nat)(b:Tr):Tr:=.loop 0 [.w (W a 0)] b
def vE(a:Int)(b c:Nat):Tr:=.back 0 [.w (.one (.c (.k (.int .u32 a)))),.w (W b 0),.row c]
def gT(a b c d e g:Nat)(h:Tr):Tr:=.need (.strow a 1 (.u b 0) 0 [.u c 0]) (.store d (.tmp e) (.tmp g)) 0 false h
def Za(a b:Nat)(c:Tr):Tr:=.need (.prim [W a 0,.one (.c (.k (.int .u32 1000000000)))] none) (.binOp .sub 255 (.tmp b) (.const (.int .u32 1000000000)) 255) 255 false c
def PT(a b:Nat)(c:Tr):Tr:=.need (.prim [W a 0,.one (.c (.k (.int .u32 1000000000)))] none) (.binOp .geq 255 (.tmp b) (.const (.int .u32 1000000000)) 255) 4 false c
def Qz(a:Nat)(b:Tr):Tr:=.loop 0 [.w (.one (.c (.k (.int .u32 0)))),.w (WK 0),.row a] b
def JB(a b:Nat)(c:Tr):Tr:=.need (.make [.int .u32 0] 4 (.u a 0) (.u a 0)) (.makeSlice 33 (.tmp b) (.tmp b)) 33 false c
def Qh(a b:Nat)(c:Tr):Tr:=.need (.prim [W a 0,.one (.c (.k (.int .u64 1000000000)))] none) (.binOp .quo 254 (.tmp b) (.const (.int .u64 1000000000)) 254) 254 false c
def tM(a b c:Nat)(d:Tr):Tr:=.need (.lit 1 [[.u a 0]]) (.buildSlice b 1 #[(0,.tmp c)]) b false d
def ig(a b c d:Nat)(e:Tr):Tr:=.need (.prim [W a 0] none) (.convert b c (.tmp d)) c false e
def Sd(a b:Nat)(c:Tr):Tr:=.need (.prim [W a 0,.one (.c (.k (.int .u64 1000000000)))] none) (.binOp .rem 254 (.tmp b) (.const (.int .u64 1000000000)) 254) 254 false c
def WZ(a:Tr):Tr:=.loop 0 [lV 0 0,.nilrow] a
def oD(a b c d:Nat):Tr:=.ret [.agg [U a b,U c d]]
def Ih(a b c d:Nat)(e:Tr):Tr:=.need (.call a [.agg [U b 0]] [none]) (.call ⟨.value (.func a),#[.tmp c],#[35]⟩) d false e
def ur(a:Int):Tr:=.ret [WK a]
def Im(a b c d e:Nat)(g:Tr):Tr:=.need (.call a [.agg [U b c]] [none]) (.call ⟨.value (.func a),#[.tmp d],#[35]⟩) e true g
def BV(a b c d:Nat):Tr:=.back a [.w (W b 0),.w (W c 0),.row d]
def oq(a b c d:Nat)(e:Tr):Tr:=.need (.ldrow a (.u b 0) 0 1 false) (.load c (.tmp d)) c false e
def Sb(a b:Nat)(c:Tr):Tr:=.loop a [.w (WK 0),.row b] c
def vC(a b c d e:Nat)(g:Tr):Tr:=.need (.call a [W b 0] [none]) (.call ⟨.value (.func a),#[.tmp c],#[d]⟩) e true g
def rz(a b c d e g h i j:Nat)(k:Tr):Tr:=.need (.call a [W b c,W d c] [none]) (.call ⟨.value (.func a),#[.tmp e,.tmp g],#[h,i]⟩) j true k
def ax2(a b:Nat)(c:Tr):Tr:=.need (.prim [W a 0,.one (.c (.k (.int .u64 1000000000)))] none) (.binOp .mul 254 (.tmp b) (.const (.int .u64 1000000000)) 254) 254 false c
def Wt(a b:Nat)(c:Tr):Tr:=.need (.call 197 [.one (.c (.sr 1 a))] [some 1]) (.call ⟨.value (.func 197),#[.tmp b],#[33]⟩) 35 false c
def ez(a b c d e g h:Nat)(i:Tr):Tr:=.need (.prim [W a b,W c d] none) (.binOp .sub e (.tmp g) (.tmp h) e) e false i
def Yo(a:Nat)(b:Int)(c:Nat)(d:Tr):Tr:=.need (.prim [W a 0,.one (.c (.k (.int .u32 b)))] none) (.binOp .add 255 (.tmp c) (.const (.int .u32 b)) 255) 255 false d
def yS(a b c:Nat)(d:Tr):Tr:=.need (.lenrow a) (.call ⟨.builtin .len,#[.tmp b],#[c]⟩) 3 false d
def aD7(a b c d:Nat)(e:Tr):Tr:=.need (.rop a 255 1 none [] [W b 0] [none]) (.call ⟨.builtin .copy,#[.tmp c,.tmp d],#[33,33]⟩) 3 false e
def Qs(a:Nat)(b:Int)(c d:Nat):Tr:=.back 0 [.w (W a 0),.w (WK b),.w (W c 0),.row d]
def SA(a b c:Nat):Tr:=.back 0 [.w (W a 0),.row b,.row c]
def OU(a b c d:Nat)(e:Tr):Tr:=.need (.call 193 [.agg [U a 0],.agg [U b 0]] [some 1,some 1]) (.call ⟨.value (.func 193),#[.tmp c,.tmp d],#[35,35]⟩) 251 false e
def oF(a b c d e g:Nat)(h:Tr):Tr:=.need (.call a [.agg [U b c],.agg [U d 0]] [some 1]) (.call ⟨.value (.func a),#[.tmp e,.tmp g],#[35,35]⟩) 35 true h
def vM(a b c d:Nat):Tr:=.back a [.w (W b 0),.w (W c 0),.w (W d 0)]
def Xs(a:Tr):Tr:=.need (.call 195 [.one (.c (.k (.int .u64 1)))] [some 1]) (.call ⟨.value (.func 195),#[.const (.int .u64 1)],#[254]⟩) 35 true a
def Il(a b c d e:Nat)(g:Tr):Tr:=.need (.call 155 [W a b,.agg [U c 0]] [some 2]) (.call ⟨.value (.func 155),#[.tmp d,.tmp e],#[4,35]⟩) 37 true g
def Xg(a b c:Nat)(d:Tr):Tr:=.need (.prim [W a 0] none) (.unOp .neg b (.tmp c)) b false d
def Yf(a:Int)(b:Tr):Tr:=.need (.call 195 [.one (.c (.k (.int .u64 a)))] [some 1]) (.call ⟨.value (.func 195),#[.const (.int .u64 a)],#[254]⟩) 35 false b
def RS(a b c d e:Nat)(g:Tr):Tr:=.need (.call 155 [W a b,.agg [U c 0]] [some 2]) (.call ⟨.value (.func 155),#[.tmp d,.tmp e],#[4,35]⟩) 37 false g
def TP(a b c d e g h:Nat)(i:Tr):Tr:=.need (.call a [.agg [U b 0,U b 1],.agg [U c 0]] [some d]) (.call ⟨.value (.func a),#[.tmp e,.tmp g],#[37,35]⟩) h true i
def zP(a b c d e g:Nat)(h:Tr):Tr:=.need (.call a [.agg [U b 0,U b 1],.agg [U c 0,U c 1]] [some 2]) (.call ⟨.value (.func a),#[.tmp d,.tmp e],#[g,g]⟩) g false h
def aL0(a b c d e:Nat)(g:Tr):Tr:=.need (.callv (.u a 0) [W b 0] [none]) (.call ⟨.value (.tmp c),#[.tmp d],#[e]⟩) 4 true g
def Cw(a:Tr):Tr:=.loop 0 [.w (WK 0),.w (WK 0)] a
def Dt(a b c d e:Nat)(g:Tr):Tr:=.need (.call a [W b 0] [none]) (.call ⟨.value (.func a),#[.tmp c],#[d]⟩) e false g
def Qr(a b c:Nat)(d:Tr):Tr:=.need (.lit 3 [[.u a 0,.u a 1,.u a 2]]) (.buildSlice b 1 #[(0,.tmp c)]) b false d
def mz(a b c d e g:Nat)(h:Tr):Tr:=.need (.call a [.one (.c (.sr b c))] [none]) (.call ⟨.value (.func a),#[.tmp d],#[e]⟩) g true h
def tU(a b c:Nat)(d:Tr):Tr:=.need (.lit 4 [[.u a 0,.u a 1,.u a 2,.u a 3]]) (.buildSlice b 1 #[(0,.tmp c)]) b false d
def aE8(a:Int):Tr:=.ret [.agg [tN,tN,tE (.bool false),tN,tN],WK a]
def mP(a b:Nat):Tr:=.ret [.agg [.c (.sr 1 a),tN,tE (.bool false),tN,.c (.sr 3 b)],WK 0]
def aC1(a b c d e:Nat)(g:Tr):Tr:=.need (.lit 1 [[.u a 0],[.u b 0]]) (.buildSlice c 2 #[(0,.tmp d),(1,.tmp e)]) c false g
def gU(a b c d e:Nat)(g:Tr):Tr:=.need (.call a [.one (.c (.sr 1 b))] [none]) (.call ⟨.value (.func a),#[.tmp c],#[d]⟩) e false g
def oO(a:Int)(b:Nat)(c:Tr):Tr:=.need (.lit 1 [[.k (.int .i64 a)]]) (.buildSlice b 1 #[(0,.const (I3 a))]) b false c
def rY(a:Tr):Tr:=.need (.rop 7 39 3 none [] [] []) (.call ⟨.value (.func 92),#[tT 111],#[40]⟩) 0 true a
def HN(a:Tr):Tr:=.need (.prim [W 0 0,.one (.c (.k (.int .u8 7)))] none) (.binOp .geq 5 (tT 107) (.const (.int .u8 7)) 5) 4 false a
def js(a:Nat)(b:Int)(c:Nat)(d:Tr):Tr:=.need (.prim [W a 0,.one (.c (.k (.int .u8 b)))] none) (.binOp .eql 5 (.tmp c) (.const (.int .u8 b)) 5) 4 false d
def ag8(a b c d e:Nat)(g:Tr):Tr:=.need (.lit 1 [[.u a 0],[.k (.slice none 0 0)],[.u b 0]]) (.buildSlice c 3 #[(0,.tmp d),(1,.const (.slice none 0 0)),(2,.tmp e)]) c false g
def vA(a b:Int)(c:Tr):Tr:=.need (.lit 1 [[.k (.int .i64 a)],[.k (.int .i64 b)]]) (.buildSlice 242 2 #[(0,.const (I3 a)),(1,.const (I3 b))]) 242 false c
def OK(a b c d e:Nat)(g:Tr):Tr:=.need (.lit 1 [[.k (.slice none 0 0)],[.u a 0],[.u b 0]]) (.buildSlice c 3 #[(0,.const (.slice none 0 0)),(1,.tmp d),(2,.tmp e)]) c false g
def ah8(a:Int)(b:Tr):Tr:=.need (.lit 1 [[.k (.int .i64 1)],[.k (.int .i64 0)],[.k (.int .i64 a)]]) (.buildSlice 242 3 #[(0,.const (I3 1)),(1,.const (I3 0)),(2,.const (I3 a))]) 242 false b
def YN(a b c d e g h:Nat)(i:Tr):Tr:=.need (.lit 1 [[.u a 0],[.u b 0],[.u c 0]]) (.buildSlice d 3 #[(0,.tmp e),(1,.tmp g),(2,.tmp h)]) d false i
def Yl(a b c:Nat)(d:Tr):Tr:=.need (.prim [WK 2,W a 0] none) (.binOp .mul b (.const (I3 2)) (.tmp c) b) b false d
def Yx(a:Nat):Tr:=.ret [.agg [tN,tN,tE (.bool false),tN,.c (.sr 3 a)],WK 0]
def aE3(a:Nat)(b:Int)(c:Nat)(d:Tr):Tr:=.need (.prim [W 0 a,.one (.c (.k (.int .u8 b)))] none) (.binOp .gtr 5 (.tmp c) (.const (.int .u8 b)) 5) 4 false d
def CY(a b:Nat):Tr:=.ret [.agg [.c (.sr 1 a),tE (.int .i64 0),tN,tE (.int .i64 0),tN,.c (.sr 4 b)]]
def ZC(a b:Nat)(c:Tr):Tr:=.need (.lit 4 [[.k (.int .i64 0),.k (.slice none 0 0),.k (.int .i64 0),.k (.slice none 0 0)],[.u 2 0,.u 2 1,.u 2 2,.u 2 3]]) (.buildSlice 50 2 #[(0,.tmp a),(1,.tmp b)]) 50 false c
def aS2(a b:Nat)(c:Tr):Tr:=.need (.lit 4 [[.u 2 0,.u 2 1,.u 2 2,.u 2 3],[.k (.int .i64 0),.k (.slice none 0 0),.k (.int .i64 0),.k (.slice none 0 0)]]) (.buildSlice 50 2 #[(0,.tmp a),(1,.tmp b)]) 50 false c
def XY(a b c d:Nat):Tr:=.ret [.one (.c (.sr a b)),.one (.c (.sr c d))]
def aF5(a b c d:Nat)(e:Tr):Tr:=.need (.lit 1 [[.sr a b]]) (.buildSlice c 1 #[(0,.tmp d)]) c false e
def aK5(a b c:Nat)(d:Tr):Tr:=.need (.make [.int .i64 0,.slice none 0 0,.int .i64 0,.slice none 0 0] 64 (.u a 0) (.u a 0)) (.makeSlice b (.tmp c) (.tmp c)) b false d
def Rs(a b:Nat)(c:Tr):Tr:=.need (.prim [W a 0,.one (.c (.k (.int .u8 1)))] none) (.binOp .add 5 (.tmp b) (.const (.int .u8 1)) 5) 5 false c
def Ox(a b:Nat)(c:Int)(d:Nat)(e:Tr):Tr:=.need (.prim [W a b,.one (.c (.k (.int .u8 c)))] none) (.binOp .rem 5 (.tmp d) (.const (.int .u8 c)) 5) 5 false e
def XC(a:Tr):Tr:=.need (.prim [W 0 6,.one (.c (.k (.int .u8 1)))] none) (.binOp .sub 5 (tT 26) (.const (.int .u8 1)) 5) 5 false a
def OM(a b c d e g h i j k:Nat)(l:Tr):Tr:=.need (.call a [W b 0,W c d] [some e]) (.call ⟨.value (.func a),#[.tmp g,.tmp h],#[i,j]⟩) k true l
def hx305Q:Tr:=.ret [.one (.c (.k (.slice none 0 0)))]
def aw2(a b c d e g h:Nat)(i:Tr):Tr:=.need (.app a b (some c) (some (.u d 0)) none) (.call ⟨.builtin .append,#[.tmp e,.tmp g],#[h,h]⟩) h false i
def Ij(a b c d:Nat)(e:Tr):Tr:=.need (.prim [W 0 0,W a 0] none) (.slice b (.tmp c) none (some (.tmp d)) none) b false e
def Zx(a b c d e:Nat)(g:Tr):Tr:=.need (.app a b none (some (.u c 0)) none) (.call ⟨.builtin .append,#[.const (.slice none 0 0),.tmp d],#[e,e]⟩) e false g
def nE(a b c d e g h i j k l:Nat)(m:Tr):Tr:=.need (.call a [.agg [U b 0,U c d,U e g,U h i],.agg [U j 0,U j 1,U j 2,U j 3]] [some 4]) (.call ⟨.value (.func a),#[.tmp k,.tmp l],#[49,49]⟩) 49 true m
def Yi(a b c:Nat)(d:Tr):Tr:=.need (.prim [W a 0,WK 1] none) (.slice b (.tmp c) (some (.const (I3 1))) none none) b false d
def aT2(a b:Nat)(c:Tr):Tr:=.need (.prim [.one (.c (.k (.string ⟨#[45]⟩))),W a 0] none) (.binOp .add 9 (.const (.string ⟨#[45]⟩)) (.tmp b) 9) 9 false c
def aO2(a:Nat)(b:Tr):Tr:=.need (.prim [.one (.c (.k (.string ⟨#[47]⟩))),W a 0] none) (.binOp .add 9 (.const (.string ⟨#[47]⟩)) (tT 20) 9) 9 false b
def Om(a b c d e g h i j:Nat)(k:Tr):Tr:=.need (.call a [W b 0,W c 0] [some d]) (.call ⟨.value (.func a),#[.tmp e,.tmp g],#[h,i]⟩) j false k
def aC6(a b c:Nat)(d:Tr):Tr:=.need (.prim [W 2 0,W a 0] none) (.call ⟨.builtin .max,#[.tmp b,.tmp c],#[3,3]⟩) 3 false d
def xx(a b c d e g h:Nat):Tr:=.back a [.w (W b 0),.w (W c 0),.w (W d e),.w (W g h)]
def AM(a b c d e:Nat)(g:Tr):Tr:=.need (.call a [.agg [U b 0,U b 1,U b 2],W c 0] [some 3]) (.call ⟨.value (.func a),#[.tmp d,.tmp e],#[39,3]⟩) 39 false g
def XT(a:Nat)(b:Tr):Tr:=.loop a [.w (WK 0),lN,.w (.one (.c (.k (.bool false)))),lN] b
def ax5(a:Int)(b:Tr):Tr:=.need (.call 53 [.one (.c (.k (.int .u8 a))),WK 0] [some 5]) (.call ⟨.value (.func 53),#[.const (.int .u8 a),.const (I3 0)],#[5,3]⟩) 42 false b
def az1(a:Int)(b:Tr):Tr:=eO 211 [WK a,.one (.c (.sr 1 3))] [some 2] [22,23] [3,45] 47 true b
def QN(a:Int)(b c:Nat):Tr:=.back 0 [.w (WK a),.w (W b 0),.row c]
def az9(a:Tr):Tr:=.need (.make [.int .i64 0] 8 (.u 4 0) (.u 4 0)) (.makeSlice 45 (tT 16) (tT 16)) 45 false a
def Bb(a b c d:Nat)(e:Int)(g h:Nat)(i:Tr):Tr:=.need (.call 214 [W a b,W c d,WK e] [none]) (.call ⟨.value (.func 214),#[.tmp g,.tmp h,.const (I3 e)],#[45,45,3]⟩) 45 true i
def uw(a b c d e g h:Nat)(i:Tr):Tr:=.need (.call a [.agg [U b 0,U b 1],.agg [U c 0,U c 1]] [some d]) (.call ⟨.value (.func a),#[.tmp e,.tmp g],#[47,47]⟩) h true i
def aH5(a:Nat)(b:Tr):Tr:=eO 135 [.agg [U a 0,U a 1],.agg [tE (.int .i64 1),U 1 0]] [some 2] [40,42] [47,47] 47 true b
def aM4(a b:Nat)(c:Int)(d e:Nat)(g:Tr):Tr:=.need (.call 284 [W a 0,W b 0,WK c] [none]) (.call ⟨.value (.func 284),#[.tmp d,.tmp e,.const (I3 c)],#[45,3,3]⟩) 3 false g
def wO(a b c d e g h:Nat)(i:Tr):Tr:=.need (.call a [W b c,W d c] [none,none]) (.call ⟨.value (.func a),#[.tmp e,.tmp g],#[45,45]⟩) h false i
def Tt(a b:Nat)(c:Tr):Tr:=.need (.call 211 [WK 1,W a 0] [some 2]) (.call ⟨.value (.func 211),#[.const (I3 1),.tmp b],#[3,45]⟩) 47 true c
def ru(a b c d:Nat):Tr:=.ret [.agg [U a 0,U a 1,U b c,U b d]]
def Ka(a b c d e g h i j:Nat):Tr:=.back a [.w (W b 0),.w (W c 0),.w (W d e),.w (W g h),.w (W i j)]
def UE(a b c d e g h i j k:Nat)(l:Tr):Tr:=.need (.call 126 [.agg [U a 0,U b c,U d e,U g h],W i 0] [some 4]) (.call ⟨.value (.func 126),#[.tmp j,.tmp k],#[49,3]⟩) 49 false l
def WV(a:Nat)(b:Tr):Tr:=.need (.prim [W 0 0] none) (.nilCheck (.tmp a)) 0 false b
open Go.RowKit (Below)
def cJ:List Nat->Code->Code
 | [],c=>c
 | 0::p,.seq a _=>cJ p a
 | 1::p,.seq _ b=>cJ p b
 | 0::p,.block _ a=>cJ p a
 | 0::p,.loop a=>cJ p a
 | 0::p,.cond _ a _=>cJ p a
 | 1::p,.cond _ _ b=>cJ p b
 | _,_=>.skip
def dJ(fn:Func):Code:=fn.body.getD .skip
def stA(ins:List (Nat×Arg)):St:=⟨ins.mapIdx fun i p=>(p.1,kM i p.2),[],[]⟩
def oe:Nat->Code->Code
 | 0,.seq _ b=>b
 | n+1,.seq _ b=>oe n b
 | _,_=>.skip
def ah4(P:n7)(N:Nat)(hints:Nat->Option Hint):Nat->Code->Nat->Nat->Nat->Nat->St->Gn->(Ex->Nat->Nat->St->Gn->Tr)->Tr
 | 0,.seq a _,l,d,nb,ni,s,dec,k=>exec P N hints a l d nb ni s dec k
 | n+1,.seq a b,l,d,nb,ni,s,dec,k=>exec P N hints a l d nb ni s dec fun e nb ni s dec=>match e with
   | .normal=>ah4 P N hints n b (l+pj a) d nb ni s dec k
   | e=>k e nb ni s dec
 | _,_,_,_,_,_,_,_,_=>.fail 1018
def WR(tail:Bool):Ex->Bool
 | .normal=>true
 | .ret=>tail
 | .exit _=>false
def aX4(P:n7)(res:List ResultVar)(tail:Bool)(e:Ex)(s:St):Tr:=if WR tail e then match(Cx P s res).run s with
    | some (vs,_)=>.ret vs
    | none=>.fail 1008 else .fail 1011
def lG(P:n7)(N:Nat)(hints:Nat->Option Hint)(c:Code)(ins:List (Nat×Arg))(res:List ResultVar)(cut:Option Nat)(tail:Bool):Tr:=
 match cut with
 | none=>exec P N hints c 0 0 0 ins.length (stA ins) [] fun e nb ni s _=>aX4 P res tail e s
 | some n=>ah4 P N hints n c 0 0 0 ins.length (stA ins) [] fun e nb ni s _=>aX4 P res tail e s
section
variable{P:n7}{N:Nat}{M0:fD}{w0:World}{post:Out->Prop}{hints:Nat->Option Hint}
def Hg(hm:P.follows .mixedOrders=true):∀(n:Nat)(c:Code)(l d nb ni:Nat)(s:St)(dec:Gn)(k:Ex->Nat->Nat->St->Gn->Tr)(τ:Env)(bk:List (List aF->Prop)),
  vc P post (ah4 P N hints n c l d nb ni s dec k) τ bk->τ.length=ni->lD τ dec->d<=bk.length ->
  ∀ρ a w(Q:lg),Sat M0 w0 N s τ ρ a w->co7 post M0 w0 Q->yz P post M0 w0->aI7 P N M0 w0 post d τ bk k (Exit.then ((oe n c).wp P Q) Q)->c.wp P Q a w
 | 0,.seq x y,l,d,nb,ni,s,dec,k,τ,bk,h,hn,hd,hb,ρ,a,w,Q,hs,hp,ho,hk=>by
   refine fA (pI hm x l d nb ni s dec k τ bk h hn hd hb ρ a w _ hs ?_ ho hk);intro c v a w h1 h2 h3 h4;exact hp c v a w h1 h2 h3 h4
 | n+1,.seq x y,l,d,nb,ni,s,dec,k,τ,bk,h,hn,hd,hb,ρ,a,w,Q,hs,hp,ho,hk=>by
   refine fA (pI hm x l d nb ni s dec _ τ bk h hn hd hb ρ a w _ hs ?_ ho ?_)
   .intro c v a w h1 h2 h3 h4;exact hp c v a w h1 h2 h3 h4
   .intro ex nb' s' dec' m bk' ρ' a' w' hbk hb' hv hd' hs';cases ex with
    | normal=>
      refine Hg hm n y _ d nb' _ s' dec' k (τ++m) bk' hv rfl hd' hb' ρ' a' w' Q hs' hp ho ?_;intro ex2 nb2 s2 dec2 m2 bk2 ρ2 a2 w2 hbk2 hb2 hv2 hd2 hs2;rw[gX]at hv2 hd2 hs2;exact hk ex2 nb2 s2 dec2 (m++m2) bk2 ρ2 a2 w2 (hbk2.trans hbk) hb2 hv2 hd2 hs2
    | exit id=>exact hk (.exit id) nb' s' dec' m bk' ρ' a' w' hbk hb' hv hd' hs'
    | ret=>exact hk .ret nb' s' dec' m bk' ρ' a' w' hbk hb' hv hd' hs'
 | n,.skip,l,d,nb,ni,s,dec,k,τ,bk,h,_,_,_,_,_,_,_,_,_,_,_=>by cases n<;>exact(h:False).elim
 | n,.region ..,l,d,nb,ni,s,dec,k,τ,bk,h,_,_,_,_,_,_,_,_,_,_,_=>by cases n<;>exact(h:False).elim
 | n,.cond ..,l,d,nb,ni,s,dec,k,τ,bk,h,_,_,_,_,_,_,_,_,_,_,_=>by cases n<;>exact(h:False).elim
 | n,.block ..,l,d,nb,ni,s,dec,k,τ,bk,h,_,_,_,_,_,_,_,_,_,_,_=>by cases n<;>exact(h:False).elim
 | n,.loop ..,l,d,nb,ni,s,dec,k,τ,bk,h,_,_,_,_,_,_,_,_,_,_,_=>by cases n<;>exact(h:False).elim
 | n,.exit ..,l,d,nb,ni,s,dec,k,τ,bk,h,_,_,_,_,_,_,_,_,_,_,_=>by cases n<;>exact(h:False).elim
 | n,.ret,l,d,nb,ni,s,dec,k,τ,bk,h,_,_,_,_,_,_,_,_,_,_,_=>by cases n<;>exact(h:False).elim
 | n,.scope ..,l,d,nb,ni,s,dec,k,τ,bk,h,_,_,_,_,_,_,_,_,_,_,_=>by cases n<;>exact(h:False).elim
 | n,.goto ..,l,d,nb,ni,s,dec,k,τ,bk,h,_,_,_,_,_,_,_,_,_,_,_=>by cases n<;>exact(h:False).elim
 | n,.rangeFunc ..,l,d,nb,ni,s,dec,k,τ,bk,h,_,_,_,_,_,_,_,_,_,_,_=>by cases n<;>exact(h:False).elim
end
section
variable{P:n7}
theorem IE(f:Nat->Arg->SV)(t:Nat):∀(l:List (Nat×Arg))(d:Nat)(x:SV),look (l.mapIdx fun i p=>(p.1,f (d+i) p.2)) t=some x->∃i p,l[i]?=some p/\p.1=t/\x=f (d+i) p.2
 | [],d,x,h=>by simp[look]at h
 | p::l,d,x,h=>by
   rw[List.mapIdx_cons]at h;simp only[look,cu]at h;split at h
   .rename_i e;simp only[aM]at h;exact⟨0,p,rfl,e,by simpa using h.symm⟩
   .have e:(l.mapIdx fun i p=>(p.1,f (d+(i+1)) p.2))=l.mapIdx fun i p=>(p.1,f (d+1+i) p.2):=by
     congr 1;funext i p;rw[show d+(i+1)=d+1+i by omega]
    rw[e]at h;obtain⟨i,q,h1,h2,h3⟩:=IE f t l (d+1) x h;exact⟨i+1,q,by simpa using h1,h2,by rw[h3,show d+1+i=d+(i+1) by omega]⟩
def Sx{N:Nat}{ins:List (Nat×Arg)}{xs:List In}(hin:au In.Is (ins.map (·.2)) xs){M:j2}{w:World}{a:Act}(hM:cX M w)(hsz:a.tmps.size=N)(hdf:a.defers=[])
  (hv:cW M w (xs.map In.ty) (ins.map fun p=>a.tmps.getD p.1 undef)):Sat ⟨M,⟨0,undef,#[]⟩⟩ w N (stA ins) (xs.map In.env) (fun _=>⟨0,undef,#[]⟩) a w:=by
 refine⟨⟨rfl,rfl,rfl,ah _,fun _ _ _=>rfl,fun x hx=>⟨(hM.2 x hx).1,xN,(hM.2 x hx).2⟩⟩,hsz,hdf,fun t=>?_,(by intro b x hb;cases hb),(by intro b b' x x' k hb;cases hb),(by intro b x k hb;cases hb),fun k hk ho=>ho.elim (fun h=>nt.2 h (hM.1 k hk)) xN,(by intro b E sz cid hb;cases hb)⟩;show jX _ _ _ _ _ ((look (ins.mapIdx fun i p=>(p.1,kM i p.2)) t).getD .junk) _;cases hl:look (ins.mapIdx fun i p=>(p.1,kM i p.2)) t with
 | none=>exact trivial
 | some x=>
   obtain⟨i,p,h1,rfl,rfl⟩:=IE kM t ins 0 x (by simpa only[bw]using hl);rw[bw];obtain⟨y,hy,hix⟩:=hin.get i p.2 (by rw[dS,h1];rfl);obtain⟨ty,hty,hrep⟩:=hv.get i _ (by rw[dS,h1];rfl);rw[dS,hy]at hty;simp only[eS,aM]at hty;subst hty;refine wV (by rw[dS,hy];rfl) hix (aF.iA ?_ hrep);intro k o hk ho _;refine⟨fun hm=>?_,ho⟩;rcases hm with hm | ⟨b,x,hb,_⟩
   .exact hk hm
   .cases hb
def Zu{N:Nat}{M:j2}{w w':World}{s:St}{τ:Env}{ρ:Nat->Gh}{a:Act}{res:List ResultVar}{tail:Bool}{out:Out}{e:Ex}{bk:List (List aF->Prop)}{Q:lg}
  (h:vc P (fun o=>ey o out) (aX4 P res tail e s) τ bk) (hs:Sat ⟨M,⟨0,undef,#[]⟩⟩ w N s τ ρ a w')
  (hR:∀rs us,out=.ret rs->WR tail e=true->Below w.heap.size w w'->a.tmps.size=N->a.defers=[]->(res.mapM (nD a.tmps)).run P w'=.ok us w'->cW M w' rs us->Q (pn e) a w'):Q (pn e) a w':=by
 unfold aX4 at h;split at h
 .rename_i hex;split at h
  .rename_i vs' l hq;obtain⟨us,hr,hrep⟩:=uh hs hq (yP hs _);cases out with
   | ret rs=>exact hR rs us rfl hex hs.below.below hs.sz hs.df hr (cW.sub h hrep)
   | retr _ _=>exact h.elim
   | orc _ _ _=>exact h.elim
   | pan _=>exact h.elim
  .exact h.elim
 .exact h.elim
def bo7{c c':Code}{ins:List (Nat×Arg)}{xs:List In}{N:Nat}{hints:Nat->Option Hint}{res:List ResultVar}{tail:Bool}{out:Out}(hm:P.follows .mixedOrders=true)(hin:au In.Is (ins.map (·.2)) xs)
  (h:vc P (fun o=>ey o out) (lG P N hints c' ins res none tail) (xs.map In.env) []) (hc:c'=c) {M:j2} {w:World} {a:Act} {Q:lg} (hM:cX M w) (hsz:a.tmps.size=N) (hdf:a.defers=[])
  (hv:cW M w (xs.map In.ty) (ins.map fun p=>a.tmps.getD p.1 undef))
  (hR:∀e a' w' rs us,out=.ret rs->WR tail e=true->Below w.heap.size w w'->a'.tmps.size=N->a'.defers=[]->(res.mapM (nD a'.tmps)).run P w'=.ok us w'->cW M w' rs us->Q (pn e) a' w')
  (hP:∀c v a' w',out=.pan c->a'.defers=[]->Below w.heap.size w w'->c.rep M w' v->Q (.panic [{ v,recovered:=false }]) a' w'):c.wp P Q a w:=by
 subst hc;have hil:xs.length=ins.length:=by have:=hin.length;simpa using this.symm
 refine pI (M0:=⟨M,⟨0,undef,#[]⟩⟩) (w0:=w) hm c' 0 0 0 ins.length _ [] _ (xs.map In.env) [] h (by simpa using hil) (by intro x hx;cases hx) (ah _) (fun _=>⟨0,undef,#[]⟩) a w _ (Sx hin hM hsz hdf hv) ?_ yz.no ?_
 .intro c v a w' hp hr hb hd;cases out with
  | pan d=>have hp:c=d:=hp;subst hp;exact hP c v a w' rfl hd hb.below hr
  | ret _=>exact hp.elim
  | retr _ _=>exact hp.elim
  | orc _ _ _=>exact hp.elim
 .intro ex nb s dec m bk' ρ a' w' _ _ hv2 _ hs;exact Zu hv2 hs fun rs us h1 h2 h3 h4 h5 h6 h7=>hR ex a' w' rs us h1 h2 h3 h4 h5 h6 h7
def wY{c c':Code}{n:Nat}{ins:List (Nat×Arg)}{xs:List In}{N:Nat}{hints:Nat->Option Hint}{res:List ResultVar}{tail:Bool}{out:Out}(hm:P.follows .mixedOrders=true)(hin:au In.Is (ins.map (·.2)) xs)
  (h:vc P (fun o=>ey o out) (lG P N hints c' ins res (some n) tail) (xs.map In.env) []) (hc:c'=c) {M:j2} {w:World} {a:Act} {Q:lg} (hM:cX M w) (hsz:a.tmps.size=N) (hdf:a.defers=[])
  (hv:cW M w (xs.map In.ty) (ins.map fun p=>a.tmps.getD p.1 undef))
  (hR:∀e a' w' rs us,out=.ret rs->WR tail e=true->Below w.heap.size w w'->a'.tmps.size=N->a'.defers=[]->(res.mapM (nD a'.tmps)).run P w'=.ok us w'->cW M w' rs us->Exit.then ((oe n c).wp P Q) Q (pn e) a' w')
  (hP:∀c v a' w',out=.pan c->a'.defers=[]->Below w.heap.size w w'->c.rep M w' v->Q (.panic [{ v,recovered:=false }]) a' w'):c.wp P Q a w:=by
 subst hc;have hil:xs.length=ins.length:=by have:=hin.length;simpa using this.symm
 refine Hg (M0:=⟨M,⟨0,undef,#[]⟩⟩) (w0:=w) hm n c' 0 0 0 ins.length _ [] _ (xs.map In.env) [] h (by simpa using hil) (by intro x hx;cases hx) (ah _) (fun _=>⟨0,undef,#[]⟩) a w _ (Sx hin hM hsz hdf hv) ?_ yz.no ?_
 .intro c v a w' hp hr hb hd;cases out with
  | pan d=>have hp:c=d:=hp;subst hp;exact hP c v a w' rfl hd hb.below hr
  | ret _=>exact hp.elim
  | retr _ _=>exact hp.elim
  | orc _ _ _=>exact hp.elim
 .intro ex nb s dec m bk' ρ a' w' _ _ hv2 _ hs;exact Zu hv2 hs fun rs us h1 h2 h3 h4 h5 h6 h7=>hR ex a' w' rs us h1 h2 h3 h4 h5 h6 h7
theorem ja{w:World}{tmps:l7}:∀{outs:j3}{us:n5},((outs.map ResultVar.tmp).mapM (nD tmps)).run P w=.ok us w->us=outs.map fun t=>tmps.getD t undef
 | [],us,h=>by
   simp only[jD,PY,iW,Result.ok.injEq]at h;exact h.1.symm
 | t::ts,us,h=>by
   have key:∀ts:List Nat,((ts.map ResultVar.tmp).mapM (nD tmps)).run P w=.ok (ts.map fun t=>tmps.getD t undef) w:=by
    intro ts
    induction ts with
    | nil=>simp only[jD,PY,iW]
    | cons t ts ih=>simp only[dy,Fl,nD,gv,iW,gA,ih]
   rw[key]at h;simp only[Result.ok.injEq,iV]at h;exact h.symm
def bY2(s:St)(T:Nat)(rs:List ResultVar):Tr:=
 match rs with
 | [.tmp t]=>match s.t t with
   | .w (.one (.p b 0))=>match s.b b with
     | some (.var T' cells)=>if T'=T/\s.s b=false then match(tA cells).run s with
       | some (xs,l)=>if l.contains b=false then .ret [.agg (xs.map .c)]else .fail 1012
       | none=>.fail 1013 else .fail 1014
     | _=>.fail 1015
   | _=>.fail 1016
 | _=>.fail 1017
def aK0(P:n7)(fn:Func)(hints:Nat->Option Hint)(args:List Arg)(T:Nat):Tr:=
 match fn.body with
 | none=>.fail 1006
 | some c=>
   if args.length<=fn.ntmps then
   exec P fn.ntmps hints c 0 0 0 args.length ⟨args.mapIdx fun i a=>(i,kM i a),[],[]⟩ [] fun e nb ni s _=>match e with
    | .exit _=>.fail 1007
    | _=>bY2 s T fn.results.toList
   else .fail 1009
def Ze(P:n7)(f:FuncId)(T:Nat)(args:List aF)(cs:List aE):Prop:=
 ∀(M:j2)(w:World)(vs:n5),cX M w->cW M w args vs ->
  Calls P f vs.toArray w fun e w'=>Below w.heap.size w w'/\∃b us,e=.returned (.pointer (some ⟨b,0,none⟩))/\w.heap.size<=b/\w'.heap[b]?=some (.cells (List.toArray us) T (0,0))/\ai (fun k=>M k\/k=b) w' cs us
def aT9{f:FuncId}{fn:Func}{hints:Nat->Option Hint}{args:List Arg}{ins:List In}{T:Nat}{cs:List aE}(hm:P.follows .mixedOrders=true)
  (hf:P.funcs[f]?=some fn) (hin:au In.Is args ins) (h:vc P (fun o=>ey o (.ret [.agg cs])) (aK0 P fn hints args T) (ins.map In.env) []):Ze P f T (ins.map In.ty) cs:=by
 intro M w vs hM hvs;unfold aK0 at h;split at h
 .exact h.elim
 .rename_i c hb;split at h
  .rename_i hlen;refine jn hf hb ?_;have hil:ins.length=args.length:=hin.length.symm;have hvl:vs.length=args.length:=by rw[<-hvs.length];simpa using hil
   refine pI (M0:=⟨M,⟨0,undef,#[]⟩⟩) (w0:=w) hm c 0 0 0 args.length _ [] _ (ins.map In.env) [] h (by simpa using hil) (by intro x hx;cases hx) (ah _) (fun _=>⟨0,undef,#[]⟩) _ w _ ?_ ?_ yz.no ?_
   .exact Tf hin hM hlen hvs
   .intro c v a w' hp;exact hp.elim
   .intro ex nb s dec m bk' ρ a w' _ _ hv _ hs
    have key:vc P (fun o=>ey o (.ret [.agg cs])) (bY2 s T fn.results.toList) (ins.map In.env++m) bk'->a.defers=[]/\∃v,(results fn a.tmps).run P w'=.ok v w'/\(Below w.heap.size w w'/\∃b us,Ending.returned v=.returned (.pointer (some ⟨b,0,none⟩))/\w.heap.size<=b/\w'.heap[b]?=some (.cells (List.toArray us) T (0,0))/\ai (fun k=>M k\/k=b) w' cs us):=by
     clear hv;intro hv;unfold bY2 at hv;split at hv
     .rename_i t hres;split at hv
      .rename_i b0 hbt;split at hv
       .rename_i T' cells hbx;split at hv
        .rename_i hc;obtain⟨rfl,hsb⟩:=hc;split at hv
         .rename_i xs l hq;split at hv
          .rename_i hl;obtain⟨us,hh,hall⟩:=hs.bx b0 _ hbx;have htv:=hs.tm t;rw[hbt]at htv;have hptr:a.tmps.getD t undef=.pointer (some ⟨(ρ b0).blk,0,none⟩):=htv.2;have hown:own ρ b0 (.var T' cells)=some (ρ b0).blk:=rfl;have hlo:=hs.lo b0 _ _ hbx hown
           have hS:cp ⟨M,⟨0,undef,#[]⟩⟩ ρ s l (fun k=>M k\/k=(ρ b0).blk):=by
            refine⟨fun k hk=>?_,fun b x k h1 h2 h3 hk=>?_⟩
            .rcases hk with hk | rfl
             .exact .inl hk
             .exact .inr ⟨b0,_,hbx,hsb,hown⟩
            .rcases hk with hk | rfl
             .exact hs.old k hk (hs.lo b x k h1 h2).1
             .have:=hs.inj b b0 x _ _ h1 hbx h2 hown;subst this;rcases h3 with h3 | h3
              .rw[hsb]at h3;cases h3
              .have:l.contains b=true:=by simpa using h3
               rw[hl]at this;cases this
           have hrep:=pU hs hq hS hall;refine⟨hs.df,_,ly fn a.tmps [.pointer (some ⟨(ρ b0).blk,0,none⟩)] ?_,hs.below.below,(ρ b0).blk,us,rfl,?_,hh,?_⟩
           .rw[hres];simp only[Fl,PY,nD,gv,iW,gA,hptr]
           .rcases hlo.1 with h1 | h1
            .exact h1
            .exact(xN h1).elim
           .have hsub:aR [.agg ((xs.map SC.c).map (cty (ins.map In.env++m)))] [.agg cs]:=hv;have h2:=hsub.1;rw[eG]at h2;exact ai.sub h2 hrep
          .exact hv.elim
         .exact hv.elim
        .exact hv.elim
       .exact hv.elim
      .exact hv.elim
     .exact hv.elim
    cases ex with
    | normal=>exact key hv
    | ret=>exact key hv
    | exit id=>exact hv.elim
  .exact h.elim
end
open Go.RowKit (Below)
def Wc(ins:List (Nat×Arg))(t0:Nat)(sv:SV)(bx:Bx):St:=⟨(ins.mapIdx fun i p=>(p.1,kM i p.2))++[(t0,sv)],[(0,bx)],[]⟩
section
variable{P:n7}
def aO5{N:Nat}{ins:List (Nat×Arg)}{xs:List In}{t0:Nat}{sv:SV}{bx:Bx}{gh:Gh}{y:aF}(hin:au In.Is (ins.map (·.2)) xs){M:j2}{w:World}{a:Act}
  (hM:cX (fun k=>M k\/gh.val.ownBlock=some k) w) (hMd:∀k,M k->gh.val.ownBlock≠some k) (hsz:a.tmps.size=N) (hdf:a.defers=[])
  (hv:cW (fun k=>M k\/gh.val.ownBlock=some k) w (xs.map In.ty) (ins.map fun p=>a.tmps.getD p.1 undef))
  (hown:own (fun _=>gh) 0 bx=gh.val.ownBlock)
  (hsv:jX (fun b=>((Wc ins t0 sv bx).b b).isSome) (xs.map In.env++[y]) (fun _=>gh) (fun k=>M k\/gh.val.ownBlock=some k) w sv (a.tmps.getD t0 undef))
  (hbx:qO 0 (fun b=>((Wc ins t0 sv bx).b b).isSome) (xs.map In.env++[y]) (fun _=>gh) (fun k=>M k\/gh.val.ownBlock=some k) w 0 bx)
  (holt:∀k,gh.val.ownBlock=some k->k<w.heap.size):Sat ⟨M,gh⟩ w N (Wc ins t0 sv bx) (xs.map In.env++[y]) (fun _=>gh) a w:=by
 have hil:xs.length=ins.length:=by have:=hin.length;simpa using this.symm
 have hb0:∀b x,(Wc ins t0 sv bx).b b=some x->b=0/\x=bx:=by
  intro b x h;simp only[Wc,St.b,look]at h;split at h
  .rename_i e;simp only[aM]at h;exact⟨e.symm,h.symm⟩
  .cases h
 have hb00:(Wc ins t0 sv bx).b 0=some bx:=by simp[Wc,St.b,look]
 have hMs:Ms ⟨M,gh⟩ (fun _=>gh) (Wc ins t0 sv bx)=fun k=>M k\/gh.val.ownBlock=some k:=by
  funext k
  apply propext
  constructor
  .rintro(hk | ⟨b,x,h1,_,h3⟩)
   .exact .inl hk
   .obtain⟨rfl,rfl⟩:=hb0 b x h1;rw[hown]at h3;exact .inr h3
  .rintro(hk | hk)
   .exact .inl hk
   .exact .inr ⟨0,bx,hb00,by simp[Wc,St.s],by rw[hown];exact hk⟩
 refine⟨⟨rfl,rfl,rfl,ah _,fun _ _ _=>rfl,fun x hx=>⟨fun h=>(hM.2 x hx).1 (.inl h),fun h=>(hM.2 x hx).1 (.inr h),(hM.2 x hx).2⟩⟩,hsz,hdf,fun t=>?_,fun b x h=>?_,fun b b' x x' k h1 h2 _ _=>?_,fun b x k h1 h2=>?_,fun k hk ho=>?_,fun b E sz cid h=>?_⟩
 .rw[hMs];show jX _ _ _ _ _ ((look ((ins.mapIdx fun i p=>(p.1,kM i p.2))++[(t0,sv)]) t).getD .junk) _;rw[aR8];cases hl:look (ins.mapIdx fun i p=>(p.1,kM i p.2)) t with
  | none=>
    simp only[Option.none_or,look];split
    .rename_i e;subst e;exact hsv
    .exact trivial
  | some x=>
    simp only[Option.some_or,ib];obtain⟨i,p,h1,rfl,rfl⟩:=IE kM t ins 0 x (by simpa only[bw]using hl);rw[bw];obtain⟨z,hy,hix⟩:=hin.get i p.2 (by rw[dS,h1];rfl);obtain⟨ty,hty,hrep⟩:=hv.get i _ (by rw[dS,h1];rfl);rw[dS,hy]at hty;simp only[eS,aM]at hty;subst hty;have hi:i<xs.length:=(fK.1 hy).1;exact wV (by rw[et (by simpa using hi),dS,hy];rfl) hix hrep
 .rw[hMs];obtain⟨rfl,rfl⟩:=hb0 b x h;exact hbx
 .rw[(hb0 b x h1).1,(hb0 b' x' h2).1]
 .obtain⟨rfl,rfl⟩:=hb0 b x h1;rw[hown]at h2;exact⟨.inr h2,holt k h2⟩
 .rcases ho with ho | ho
  .exact nt.2 ho (hM.1 k (.inl hk))
  .exact hMd k hk ho
 .rfl
def XW(P:n7)(tr E sz:Nat)(res:List ResultVar)(e:Ex)(s:St):Tr:=match e with
 | .normal=>match s.t tr with
   | .w (.one (.r b))=>match s.b b with
     | some (.row E' sz' cid)=>match(Cx P s res).run s with
       | some (vs,l)=>if E'=E/\sz'=sz/\s.s b=false/\l.contains b=false then .retr vs cid else .fail 1020
       | none=>.fail 1008
     | _=>.fail 1021
   | _=>.fail 1022
 | _=>.fail 1023
def az6(P:n7)(N:Nat)(hints:Nat->Option Hint)(c:Code)(ins:List (Nat×Arg))(t0 E sz tr:Nat)(res:List ResultVar):Tr:=
 exec P N hints c 0 0 1 (ins.length+1) (Wc ins t0 (.w (.one (.r 0))) (.row E sz ins.length)) [] fun e nb ni s _=>XW P tr E sz res e s
def bU3{c c':Code}{ins:List (Nat×Arg)}{xs:List In}{N t0 E sz tr:Nat}{hints:Nat->Option Hint}{res:List ResultVar}{ts ts':List (List aE)}{rs:List aF}(hm:P.follows .mixedOrders=true)(hin:au In.Is (ins.map (·.2)) xs)
  {of:Nat} {oa on:List aF} (h:vc P (fun o=>o=.retr rs ts'\/o=.orc of oa on) (az6 P N hints c' ins t0 E sz tr res) (xs.map In.env++[.rows ts]) []) (hc:c'=c) {M:j2} {w:World} {a:Act} {Q:lg} {v:Value} {vs:n5} {base:Nat}
  (hor:(∀as w,(callFunc of as).run P w=.ok (.enter of as) w)/\∀(M:j2)(w':World)(vs:n5),w.heap.size<=w'.heap.size->cX M w'->cW M w' oa vs->Calls P of vs.toArray w' fun e w2=>Below w'.heap.size w' w2/\uF M w2 (.ret on) e) (hM:cX (fun k=>M k\/v.ownBlock=some k) w) (hMd:∀k,M k->v.ownBlock≠some k) (hsz:a.tmps.size=N) (hdf:a.defers=[])
  (hv:cW (fun k=>M k\/v.ownBlock=some k) w (xs.map In.ty) (ins.map fun p=>a.tmps.getD p.1 undef)) (ht0:a.tmps.getD t0 undef=v) (hrow:w.ownsRow base E sz v ts.length vs) (hts:∀t∈ts,t.length=sz) (hrep:ai (fun k=>M k\/v.ownBlock=some k) w ts.flatten vs)
  (hR:∀a' w' us v' vs',w.grownBy w' v.ownBlock->a'.tmps.size=N->a'.defers=[]->(res.mapM (nD a'.tmps)).run P w'=.ok us w'->a'.tmps.getD tr undef=v'->w'.ownsRow 0 E sz v' ts'.length vs'->(∀k,v'.ownBlock=some k->w.heap.size<=k\/v.ownBlock=some k) ->
   cW (fun k=>M k\/v'.ownBlock=some k) w' rs us->ai (fun k=>M k\/v'.ownBlock=some k) w' ts'.flatten vs'->Q .normal a' w'):c.wp P Q a w:=by
 subst hc;have hil:xs.length=ins.length:=by have:=hin.length;simpa using this.symm
 have hv1:v.oneCell'=true:=by
  rcases hrow.2 with⟨hv,_⟩ | ⟨g,cap,cur,hv,_⟩<;>rw[hv]<;>rfl
 have holt:∀k,v.ownBlock=some k->k<w.heap.size:=fun k hk=>(hrow.lt k hk).2
 have hrow0:w.ownsRow 0 E sz v ts.length vs:=by
  refine⟨hrow.1,?_⟩;rcases hrow.2 with hn | ⟨g,cap,cur,hv,hbg,rest⟩
  .exact .inl hn
  .exact .inr ⟨g,cap,cur,hv,cG _,rest⟩
 refine pI (M0:=⟨M,⟨0,v,#[]⟩⟩) (w0:=w) hm c' 0 0 1 (ins.length+1) _ [] _ (xs.map In.env++[.rows ts]) [] h (by simp[hil]) (by intro x hx;cases hx) (ah _) (fun _=>⟨0,v,#[]⟩) a w _
  (aO5 (gh:=⟨0,v,#[]⟩) (t0:=t0) (sv:=.w (.one (.r 0))) (bx:=.row E sz ins.length) (y:=.rows ts) hin hM hMd hsz hdf hv rfl ⟨by simp[Wc,St.b,look],ht0,by rw[ht0];exact hv1⟩ ⟨ts,vs,by rw[jP (by simp[hil]),aX,hil,jj];rfl,hrow0,hts,hrep⟩ holt) ?_ ?_ ?_
 .intro c v a w' hp;rcases hp with hp | hp<;>cases hp
 .intro f args news hp;rcases hp with hp | hp
  .cases hp
  .cases hp;exact⟨hor.1,fun M w' vs hk hM hr=>hor.2 M w' vs hk.size hM hr⟩
 .intro ex nb s dec m bk' ρ a' w' _ _ hv2 _ hs;replace hv2:vc P (fun o=>o=.retr rs ts'\/o=.orc of oa on) (XW P tr E sz res ex s) (xs.map In.env++[.rows ts]++m) bk':=hv2;cases ex with
  | exit id=>exact hv2.elim
  | ret=>exact hv2.elim
  | normal=>
    unfold XW at hv2;simp only at hv2;split at hv2
    .rename_i b0 hbt;split at hv2
     .rename_i E' sz' cid hbx;split at hv2
      .rename_i vs2 l hq;split at hv2
       .rename_i hc;obtain⟨rfl,rfl,hsb,hl⟩:=hc;obtain⟨ts2,hcid,hpo⟩:=hv2;replace hpo:Out.retr (vs2.map (qI _)) ts2=Out.retr rs ts':=hpo.resolve_right (fun e=>by cases e);simp only[Out.retr.injEq]at hpo;obtain⟨hrs,rfl⟩:=hpo;obtain⟨ts3,xs3,hcid3,hown3,hlen3,hrep3⟩:=hs.bx b0 _ hbx;rw[hcid]at hcid3;simp only[aM,aF.rows.injEq]at hcid3;subst hcid3;have htv:=hs.tm tr;rw[hbt]at htv;have hval:a'.tmps.getD tr undef=(ρ b0).val:=htv.2.1;have hown:own ρ b0 (.row E' sz' cid)=(ρ b0).val.ownBlock:=rfl
        have hS:cp ⟨M,⟨0,v,#[]⟩⟩ ρ s l (fun k=>M k\/(ρ b0).val.ownBlock=some k):=by
         refine⟨fun k hk=>?_,fun b x k h1 h2 h3 hk=>?_⟩
         .rcases hk with hk | hk
          .exact .inl hk
          .exact .inr ⟨b0,_,hbx,hsb,hk⟩
         .rcases hk with hk | hk
          .exact hs.old k hk (hs.lo b x k h1 h2).1
          .have:=hs.inj b b0 x _ _ h1 hbx h2 hk;subst this;rcases h3 with h3 | h3
           .rw[hsb]at h3;cases h3
           .have:l.contains b=true:=by simpa using h3
            rw[hl]at this;cases this
        obtain⟨us,hr,hrepr⟩:=uh hs hq hS;have hbel:=hs.below;refine hR a' w' us (ρ b0).val xs3 ⟨hbel.os,hbel.tape,hbel.output,hbel.size,fun k hk hne=>hbel.block k hk fun ho=>hne ?_⟩ hs.sz hs.df hr hval hown3 (fun k hk=>?_) (by rw[<-hrs];exact hrepr) (hrep3.mono hS.jc)
        .exact(show v.ownBlock=some k from ho).symm
        .exact(hs.lo b0 _ k hbx hk).1
       .exact hv2.elim
      .exact hv2.elim
     .exact hv2.elim
    .exact hv2.elim
def aA2(P:n7)(T n:Nat)(res:List ResultVar)(e:Ex)(s:St):Tr:=match e with
 | .normal=>match(Cx P s res).run s with
   | some (vs,l)=>aP5 s T n vs l
   | none=>.fail 1008
 | _=>.fail 1023
def Vw{c:Code}{ins:List (Nat×Arg)}{xs:List In}{N t0 T n:Nat}{hints:Nat->Option Hint}{cs cs':List aE}{rs:List aF}{K:Ex->Nat->Nat->St->Gn->Tr}(hm:P.follows .mixedOrders=true)(hin:au In.Is (ins.map (·.2)) xs)
  (h:vc P (fun o=>o=.retr rs [cs']) (exec P N hints c 0 0 1 (ins.length+1) (Wc ins t0 (.w (.one (.rp 0 n (.k (.int .i64 0)) 0))) (.part T n ins.length)) [] K) (xs.map In.env++[.rows [cs]]) []) {M:j2} {w:World} {a:Act} {Q:lg} {g:Nat} {cur:l7}
  (hM:cX M w) (hMg:M g) (hsz:a.tmps.size=N) (hdf:a.defers=[]) (hcn:cs.length=n)
  (hv:cW M w (xs.map In.ty) (ins.map fun p=>a.tmps.getD p.1 undef)) (ht0:a.tmps.getD t0 undef=.pointer (some ⟨g,0,none⟩)) (hg:w.heap[g]?=some (.cells cur T (0,0))) (hrep:ai M w cs cur.toList)
  (hend:∀ex nb ni s dec τ bk ρ a' w',vc P (fun o=>o=.retr rs [cs']) (K ex nb ni s dec) τ bk->Sat (fD.mk (fun k=>M k/\k≠g) ⟨0,.slice (some ⟨g,0,none⟩) 1 1,cur⟩) w N s τ ρ a' w'->Q (pn ex) a' w'):c.wp P Q a w:=by
 have hil:xs.length=ins.length:=by have:=hin.length;simpa using this.symm
 have hcl:cur.size=n:=by have:=hrep.length;simp at this;omega
 obtain⟨gh,hgh⟩:∃gh:Gh,(⟨0,.slice (some ⟨g,0,none⟩) 1 1,cur⟩:Gh)=gh:=⟨_,rfl⟩
 rw[hgh]at hend;have hval:gh.val=.slice (some ⟨g,0,none⟩) 1 1:=by rw[<-hgh]
 have hcur:gh.cur=cur:=by rw[<-hgh]
 have hob:∀k,gh.val.ownBlock=some k↔k=g:=fun k=>by rw[hval];simp[Value.ownBlock,eq_comm]
 have hMM:(fun k=>(M k/\k≠g)\/gh.val.ownBlock=some k)=M:=by
  funext k
  apply propext;rw[hob]
  constructor
  .rintro(h | rfl)
   .exact h.1
   .exact hMg
  .intro h;by_cases e:k=g
   .exact .inr e
   .exact .inl ⟨h,e⟩
 have hglt:g<w.heap.size:=(cf.1 hg).1
 refine pI (M0:=fD.mk (fun k=>M k/\k≠g) gh) (w0:=w) hm c 0 0 1 (ins.length+1) _ [] _ (xs.map In.env++[.rows [cs]]) [] h (by simp[hil]) (by intro x hx;cases hx) (ah _) (fun _=>gh) a w _
  (aO5 (gh:=gh) (t0:=t0) (sv:=.w (.one (.rp 0 n (.k (.int .i64 0)) 0))) (bx:=.part T n ins.length) (y:=.rows [cs]) hin (by rw[hMM];exact hM) (fun k hk e=>hk.2 ((hob k).1 e)) hsz hdf (by rw[hMM];exact hv) rfl ?_ ?_ (fun k hk=>by rw[(hob k).1 hk];exact hglt)) ?_ yz.noR fun ex nb s dec m bk' ρ a' w' _ _ hv2 _ hs=>hend ex nb _ s dec _ bk' ρ a' w' hv2 hs
 .exact⟨by simp[Wc,St.b,look],g,0,1,1,.i64,0,hval,rfl,O,by rw[ht0];simp⟩
 .rw[hMM];refine⟨[cs],cur.toList,?_,⟨by simp[hcl],.inr ⟨g,0,1,cur,hval,hg,ah _,by simp[maxLen],by simp[hcl],?_⟩⟩,by intro t ht;rw[eo.1 ht];exact hcn,by simpa using hrep,by rw[hval];rfl,?_⟩
  .rw[jP (by simp[hil]),aX,hil,jj];rfl
  .rw[show([cs]:List (List aE)).length*n=cur.toList.length by simp[hcl],gF]
   first | exact(cU bY).symm | exact cU bY
  .intro g2 off2 len2 cap2 hv cur2 hg2;rw[hval]at hv;simp only[nf,aM,rS,iV]at hv;obtain⟨⟨rfl,rfl⟩,rfl,rfl⟩:=hv;rw[hg]at hg2;simp only[aM,Bq,iV]at hg2;subst hg2;rw[hcur];exact⟨rfl,fun _ _=>rfl⟩
 .intro c v a w' hp;cases hp
def JV{f:FuncId}{fn:Func}{hints:Nat->Option Hint}{a1:List Arg}{i1:List In}{T n:Nat}{cs cs':List aE}{rs:List aF}(hm:P.follows .mixedOrders=true)
  (hf:P.funcs[f]?=some fn) (hin1:au In.Is a1 i1) (hn:cs.length=n)
  (hn':cs'.length=n) (h:vc P (fun o=>o=.retr rs [cs']) (TC P fn hints a1 T n) (i1.map In.env++[.rows [cs]]) []):rj P f T (i1.map In.ty) cs rs cs':=by
 intro M w g cur vs1 hM hMg hg hrep hv1;unfold TC at h;split at h
 .rename_i c hb;split at h
  .rename_i hlen;refine jn hf hb ?_;have hl1:a1.length=i1.length:=hin1.length;have hv1l:vs1.length=i1.length:=by rw[<-hv1.length];simp
   have hcl:cur.size=n:=by have:=hrep.length;simp at this;omega
   obtain⟨ins,hins⟩:∃ins:List (Nat×Arg),ins=a1.mapIdx fun i x=>(i,x):=⟨_,rfl⟩
   have hil:ins.length=a1.length:=by rw[hins];simp
   have hin:ins.map (·.2)=a1:=by rw[hins];apply List.ext_getElem<;>simp
   have hst:(⟨(a1.mapIdx fun i a=>(i,kM i a))++[(a1.length,.w (.one (.rp 0 n (.k (.int .i64 0)) 0)))],[(0,.part T n a1.length)],[]⟩:St)=Wc ins a1.length (.w (.one (.rp 0 n (.k (.int .i64 0)) 0))) (.part T n ins.length):=by
    unfold Wc;rw[hil,hins]
    congr 2
    apply List.ext_getElem<;>simp
   rw[hst,<-hil]at h
   have hval:∀t,t<ins.length+1->((vs1++[Value.pointer (some ⟨g,0,none⟩)]).toArray++Array.replicate (fn.ntmps-(vs1++[Value.pointer (some ⟨g,0,none⟩)]).toArray.size) undef).getD t undef=(vs1++[Value.pointer (some ⟨g,0,none⟩)]).getD t undef:=by
    intro t ht;rw[iG,FH iF,dp];simp
   refine Vw (ins:=ins) hm (by rw[hin];exact hin1) h hM hMg (by simp at hlen|-;omega) rfl hn ?_ ?_ hg hrep ?_
   .have e:(ins.map fun p=>((vs1++[Value.pointer (some ⟨g,0,none⟩)]).toArray++Array.replicate (fn.ntmps-(vs1++[Value.pointer (some ⟨g,0,none⟩)]).toArray.size) undef).getD p.1 undef)=vs1:=by
     apply List.ext_getElem
     .rw[aX];omega
     .intro i h1 h2;rw[List.getElem_map];have e1:(ins[i]' O).1=i:=by simp[hins]
      rw[e1,hval i O,dp,et h2,bU h2];rfl
    rw[<-e]at hv1;exact hv1
   .show Array.getD _ _ _=_;rw[hval _ O,dp,jP O,show ins.length-vs1.length=0 by omega];rfl
   .intro ex nb ni s dec τ bk ρ a' w' hv hs;cases ex with
    | exit id=>exact hv.elim
    | normal | ret=>
      obtain⟨us,cur',hr,h1,h2,h3,h4,_,h6,_⟩:=Jc (g:=g) (off:=0) (len:=1) (cap:=1) (E:=T) (sz:=n) (res:=fn.results.toList) rfl rfl hv hs;refine⟨hs.df,_,ly fn a'.tmps us hr,cur',us,h2,h3,rfl,h1,?_⟩
      simpa[cU,h4,hcl]using h6
  .exact h.elim
 .exact h.elim
end
open Go.RowKit (Below)
def wK:Ex->Bool
 | .ret=>true
 | _=>false
def Lp(P:n7)(res:List ResultVar)(e:Ex)(s:St):Tr:=if WR true e then match(Cx P s res).run s with
    | some (vs,_)=>.ret (vs++[.one (.c (.k (.bool (wK e))))])
    | none=>.fail 1008 else .fail 1011
def ba0(s:St)(E sz:Nat):SV->Bool
 | .w (.one (.r b))=>match s.b b with
   | some (.row E' sz' _)=>E'==E&&sz'==sz && !s.s b
   | _=>false
 | .w (.one (.c (.k (.slice none 0 0))))=>true
 | _=>false
def UR(s:St):SV->Option Nat
 | .w (.one (.r b))=>match s.b b with
   | some (.row _ _ cid)=>some cid
   | _=>none
 | _=>none
def toR:Option Nat->Tr->Tr
 | some cid,.ret vs=>.retr vs cid
 | _,t=>t
def Nb(rs:List aF)(zs:List (List aE)):Out->Prop
 | .ret us=>aR us rs/\zs=[]
 | .retr us ts=>aR us rs/\ts=zs
 | _=>False
def cG9(P:n7)(res:List ResultVar)(fr E sz:Nat)(e:Ex)(s:St):Tr:=if wK e then(if ba0 s E sz (s.t fr)then toR (UR s (s.t fr)) (Lp P res e s)else .fail 1031)else Lp P res e s
def GL(P:n7)(N:Nat)(hints:Nat->Option Hint)(c:Code)(ins:List (Nat×Arg))(res:List ResultVar)(n fr E sz:Nat):Tr:=
 ah4 P N hints n c 0 0 0 ins.length (stA ins) [] fun e nb ni s _=>cG9 P res fr E sz e s
section
variable{P:n7}{N:Nat}{M0:fD}{w0:World}{post:Out->Prop}{hints:Nat->Option Hint}
def ac3{N:Nat}{M:j2}{w w':World}{s:St}{τ:Env}{ρ:Nat->Gh}{a:Act}{res:List ResultVar}{out:Out}{e:Ex}{bk:List (List aF->Prop)}{Q:lg}
  (h:vc P (fun o=>ey o out) (Lp P res e s) τ bk) (hs:Sat ⟨M,⟨0,undef,#[]⟩⟩ w N s τ ρ a w')
  (hR:∀rs us,out=.ret rs->WR true e=true->Below w.heap.size w w'->a.tmps.size=N->a.defers=[]->(res.mapM (nD a.tmps)).run P w'=.ok us w'->cW M w' rs (us++[.bool (wK e)])->Q (pn e) a w'):Q (pn e) a w':=by
 unfold Lp at h;split at h
 .rename_i hex;split at h
  .rename_i vs' l hq;obtain⟨us,hr,hrep⟩:=uh hs hq (yP hs _)
   have hrep2:cW M w' ((vs'++[SW.one (.c (.k (.bool (wK e))))]).map (qI τ)) (us++[.bool (wK e)]):=by
    rw[ep];exact cW.append hrep ⟨⟨rfl,rfl⟩,trivial⟩
   cases out with
   | ret rs=>exact hR rs us rfl hex hs.below.below hs.sz hs.df hr (cW.sub h hrep2)
   | retr _ _=>exact h.elim
   | orc _ _ _=>exact h.elim
   | pan _=>exact h.elim
  .exact h.elim
 .exact h.elim
def VC{res:List ResultVar}{e:Ex}{s:St}{τ:Env}{bk:List (List aF->Prop)}{rs:List aF}{zs:List (List aE)}{o:Option Nat}(h:vc P (Nb rs zs) (toR o (Lp P res e s)) τ bk) :
  vc P (fun o=>ey o (.ret rs)) (Lp P res e s) τ bk/\∀cid,o=some cid->τ[cid]?=some (.rows zs):=by
 unfold Lp at h|-;cases o with
 | none=>
   refine⟨?_,fun cid h=>by cases h⟩;split at h
   .rename_i hex;rw[aI hex];split at h
    .exact h.1
    .exact h.elim
   .exact h.elim
 | some cid=>
   split at h
   .rename_i hex;rw[aI hex];split at h
    .obtain⟨ts,h1,h2,rfl⟩:=h;exact⟨h2,fun c hc=>by cases hc;exact h1⟩
    .exact h.elim
   .exact h.elim
def aF4{res:List ResultVar}{e:Ex}{s:St}{τ:Env}{bk:List (List aF->Prop)}{rs:List aF}{zs:List (List aE)}(h:vc P (Nb rs zs) (Lp P res e s) τ bk):zs=[]:=by
 unfold Lp at h;split at h
 .split at h
  .exact h.2
  .exact h.elim
 .exact h.elim
def Ah(M:j2)(w w':World)(E sz:Nat)(zs:List (List aE))(v:Value):Prop:=
 ∃xs,w'.ownsRow w.heap.size E sz v zs.length xs/\(∀t∈zs,t.length=sz)/\ai (fun b=>M b\/v.ownBlock=some b) w' zs.flatten xs
def ao0{M:j2}{w w':World}{s:St}{τ:Env}{ρ:Nat->Gh}{a:Act}{fr E sz:Nat}{zs:List (List aE)}(h:ba0 s E sz (s.t fr)=true)(hs:Sat ⟨M,⟨0,undef,#[]⟩⟩ w N s τ ρ a w')
  (hz:∀cid,UR s (s.t fr)=some cid->τ[cid]?=some (.rows zs)) (hn:UR s (s.t fr)=none->zs=[]):Ah M w w' E sz zs (a.tmps.getD fr undef):=by
 have ht:=hs.tm fr;generalize s.t fr=v at h ht hz hn;unfold ba0 at h;unfold UR at hz hn;split at h
 .rename_i b;split at h
  .rename_i E' sz' cid hb;rw[bf,bf,dU,dU,zV]at h;obtain⟨⟨rfl,rfl⟩,hsb⟩:=h;obtain⟨_,e,_⟩:=ht;obtain⟨ts,xs,hc,ho,hl,hr⟩:=hs.bx b _ hb;have hz:=hz cid (by show(match s.b b with | some (.row _ _ cid)=>some cid | _=>none)=some cid;rw[hb]);rw[hz]at hc;simp only[aM,aF.rows.injEq]at hc;subst hc;rw[e];refine⟨xs,⟨ho.1,?_⟩,hl,hr.mono fun k o hk ho _=>⟨fun h=>hk (h.elim .inl fun h=>.inr ⟨b,_,hb,hsb,h⟩),ho⟩⟩;rcases ho.2 with h | ⟨g,cap,cur,hv,_,rest⟩
   .exact .inl h
   .have hl:=(hs.lo b _ g hb (by show(ρ b).val.ownBlock=some g;rw[hv];rfl)).1;refine .inr ⟨g,cap,cur,hv,?_,rest⟩;rcases hl with h | h
    .exact h
    .cases h
  .cases h
 .obtain rfl:=hn rfl;refine⟨[],⟨(nV sz).symm,.inl ⟨?_,rfl⟩⟩,bY,trivial⟩;exact ht.1
 .cases h
def ax6{c c':Code}{n fr E sz:Nat}{ins:List (Nat×Arg)}{xs:List In}{N:Nat}{hints:Nat->Option Hint}{res:List ResultVar}{rs:List aF}{zs:List (List aE)}(hm:P.follows .mixedOrders=true)(hin:au In.Is (ins.map (·.2)) xs)
  (h:vc P (Nb rs zs) (GL P N hints c' ins res n fr E sz) (xs.map In.env) []) (hc:c'=c) {M:j2} {w:World} {a:Act} {Q:lg} (hM:cX M w) (hsz:a.tmps.size=N) (hdf:a.defers=[])
  (hv:cW M w (xs.map In.ty) (ins.map fun p=>a.tmps.getD p.1 undef))
  (hR:∀e a' w' us,WR true e=true->Below w.heap.size w w'->a'.tmps.size=N->a'.defers=[]->(res.mapM (nD a'.tmps)).run P w'=.ok us w'->cW M w' rs (us++[.bool (wK e)])->(wK e=true->Ah M w w' E sz zs (a'.tmps.getD fr undef))->Exit.then ((oe n c).wp P Q) Q (pn e) a' w'):c.wp P Q a w:=by
 subst hc;have hil:xs.length=ins.length:=by have:=hin.length;simpa using this.symm
 refine Hg (M0:=⟨M,⟨0,undef,#[]⟩⟩) (w0:=w) hm n c' 0 0 0 ins.length _ [] _ (xs.map In.env) [] h (by simpa using hil) (by intro x hx;cases hx) (ah _) (fun _=>⟨0,undef,#[]⟩) a w _ (Sx hin hM hsz hdf hv) ?_ (fun f args news h=>h.elim) ?_
 .intro c v a w' hp;exact hp.elim
 .intro ex nb s dec m bk' ρ a' w' _ _ hv2 _ hs;change vc _ _ (if wK ex=true then(if ba0 s E sz (s.t fr)=true then toR (UR s (s.t fr)) (Lp P res ex s)else Tr.fail 1031)else Lp P res ex s) _ _ at hv2;split at hv2
  .split at hv2
   .rename_i hr hz;obtain⟨h1,h2⟩:=VC hv2;refine ac3 (out:=.ret rs) h1 hs fun rs' us h1 h3 h4 h5 h6 h7 h8=>?_;cases h1;exact hR ex a' w' us h3 h4 h5 h6 h7 h8 fun _=>ao0 hz hs h2 fun hn=>by rw[hn]at hv2;exact aF4 hv2
   .exact hv2.elim
  .rename_i hr;have h1:=(VC (o:=none) hv2).1;refine ac3 (out:=.ret rs) h1 hs fun rs' us h1 h3 h4 h5 h6 h7 h8=>?_;cases h1;exact hR ex a' w' us h3 h4 h5 h6 h7 h8 fun h=>absurd h hr
def vrz{vs:List SW}{rs:List aF}{zs:List (List aE)}{τ:Env}{bk:List (List aF->Prop)}(hz:zs=[])(h:aR (vs.map (qI τ)) rs):vc P (Nb rs zs) (.ret vs) τ bk:=⟨h,hz⟩
def vrr{vs:List SW}{rs:List aF}{zs:List (List aE)}{cid:Nat}{τ:Env}{bk:List (List aF->Prop)}(hz:τ[cid]?=some (.rows zs))(h:aR (vs.map (qI τ)) rs):vc P (Nb rs zs) (.retr vs cid) τ bk:=⟨zs,hz,h,rfl⟩
end
def Lj:SV->Bool
 | .w (.one (.rp b _ i off))=>b==0&&(match i with | .k (.int .i64 z)=>z==0&&off==0 | _=>false)
 | _=>false
def zO(P:n7)(N:Nat)(hints:Nat->Option Hint)(c:Code)(ins:List (Nat×Arg))(t0 T n:Nat)(res:List ResultVar):Tr:=
 exec P N hints c 0 0 1 (ins.length+1) (Wc ins t0 (.w (.one (.rp 0 n (.k (.int .i64 0)) 0))) (.part T n ins.length)) [] fun e nb ni s _=>if Lj (s.t t0)=true then aA2 P T n res e s else .fail 1032
section
variable{P:n7}
def xA{c c':Code}{ins:List (Nat×Arg)}{xs:List In}{N t0 T n:Nat}{hints:Nat->Option Hint}{res:List ResultVar}{cs cs':List aE}{rs:List aF}(hm:P.follows .mixedOrders=true)(hin:au In.Is (ins.map (·.2)) xs)
  (h:vc P (fun o=>o=.retr rs [cs']) (zO P N hints c' ins t0 T n res) (xs.map In.env++[.rows [cs]]) []) (hc:c'=c) {M:j2} {w:World} {a:Act} {Q:lg} {g:Nat} {cur:l7}
  (hM:cX M w) (hMg:M g) (hsz:a.tmps.size=N) (hdf:a.defers=[]) (hcn:cs.length=n)
  (hv:cW M w (xs.map In.ty) (ins.map fun p=>a.tmps.getD p.1 undef)) (ht0:a.tmps.getD t0 undef=.pointer (some ⟨g,0,none⟩)) (hg:w.heap[g]?=some (.cells cur T (0,0))) (hrep:ai M w cs cur.toList)
  (hR:∀a' w' us cur',w.grownBy w' (some g)->a'.tmps.size=N->a'.defers=[]->(res.mapM (nD a'.tmps)).run P w'=.ok us w'->w'.heap[g]?=some (.cells cur' T (0,0))->cW M w' rs us->ai M w' cs' cur'.toList->a'.tmps.getD t0 undef=.pointer (some ⟨g,0,none⟩)->Q .normal a' w'):c.wp P Q a w:=by
 subst hc;have hcl:cur.size=n:=by have:=hrep.length;simp at this;omega
 refine Vw hm hin h hM hMg hsz hdf hcn hv ht0 hg hrep fun ex nb ni s dec τ bk ρ a' w' hv2 hs=>?_;replace hv2:vc P (fun o=>o=.retr rs [cs']) (if Lj (s.t t0)=true then aA2 P T n res ex s else .fail 1032) τ bk:=hv2;split at hv2
 rotate_left
 .exact hv2.elim
 rename_i hkp;cases ex with
 | exit id=>exact hv2.elim
 | ret=>exact hv2.elim
 | normal=>
   obtain⟨us,cur',hr,h1,h2,h3,h4,_,h6,hgh0⟩:=Jc (g:=g) (off:=0) (len:=1) (cap:=1) (E:=T) (sz:=n) (res:=res) rfl rfl hv2 hs;refine hR a' w' us cur' h2 hs.sz hs.df hr h3 h1 (by simpa[cU,h4,hcl]using h6) ?_;have ht:=hs.tm t0
   revert ht
   unfold Lj at hkp;split at hkp
   .rename_i b sz0 i off e0;rw[bf,dU]at hkp;obtain⟨rfl,hz⟩:=hkp;rw[e0];rintro⟨_,g3,o0,len,cap,kk,nn,hv3,hc3,_,hp3⟩;rw[hgh0]at hv3;simp only[nf,aM,rS,iV]at hv3;obtain⟨⟨rfl,rfl⟩,_,_⟩:=hv3
    obtain⟨hz2,hof⟩:nn.toNat=0/\off=0:=by
     split at hz
     .rename_i z;rw[bf,dU,dU]at hz;obtain⟨rfl,hof⟩:=hz;refine⟨?_,hof⟩;have e1:(aE.exact (Value.int IntKind.i64 0))=aE.exact (.int kk nn):=hc3;have e2:(aE.exact (Value.int IntKind.i64 0)).rep M w (.int .i64 0):=⟨rfl,rfl⟩
      rw[e1]at e2;have e3:=e2.1;simp only[Value.int.injEq]at e3;rw[<-e3.2];rfl
     .cases hz
    rw[hp3,hz2,hof];simp
   .cases hkp
end
abbrev A8:SW:=.one (.ref 0 [.u 2 0,.u 2 1,.u 2 2,.u 2 3,.u 2 4,.u 2 5])
abbrev C9:SW:=.one (.ref 0 [.u 1 0,.u 1 1,.u 1 2,.u 1 3,.u 1 4])
abbrev D5(n:Nat)(a:Array Operand)(t:Array Nat):Op:=.call ⟨.value (.func n),a,t⟩
end Go.Sy
