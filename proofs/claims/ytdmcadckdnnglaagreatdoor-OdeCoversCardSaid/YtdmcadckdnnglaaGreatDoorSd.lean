/- Part. -/
import Derived.Test.YtdmcadckdnnglaaGreatDoorSc
import Derived.Deep.LoopGhost
import Derived.Laws.Bits64
set_option linter.all false
namespace Go.Sy
def qY:=@Go.IntKind.wrap_u64
def tV:=@Go.wp_loop_ghost
open Go.RowKit (Below)
def yC:Ex->Exit
 | .normal=>.normal
 | .exit id=>.exit id
 | .ret=>.ret
section
variable{P:Program}{N:Nat}{M0:dh}{w0:World}{post:Out->Prop}{hints:Nat->Option Hint}
def bB5(post:Out->Prop)(M0:dh)(w0:World)(Q:Exit->Act->World->Prop):Prop:=
 ∀c v a w,post (.pan c)->c.rep M0.M w v->Kept M0 w0 w->a.defers=[]->Q (.panic [{ v,recovered:=false }]) a w
def si(P:Program)(post:Out->Prop)(M0:dh)(w0:World):Prop:=
 ∀f args news,post (.orc f args news)->(∀as w,(callFunc f as).run P w=.ok (.enter f as) w)/\∀(M:Nat->Prop)(w:World)(vs:List Value),Kept M0 w0 w->cX M w->cG M w args vs->Calls P f vs.toArray w fun e w'=>Below w.heap.size w w'/\qM M w' (.ret news) e
def si.no{P:Program}{out:Out}{M0:dh}{w0:World}:si P (fun o=>ep o out) M0 w0:=fun f args news h=>by cases out<;>exact(h:False).elim
def si.noR{P:Program}{rs:List aG}{ts:List (List aE)}{M0:dh}{w0:World}:si P (fun o=>o=.retr rs ts) M0 w0:=fun f args news h=>by cases h
def si.noE{P:Program}{rs:List aG}{M0:dh}{w0:World}:si P (fun o=>o=.ret rs) M0 w0:=fun f args news h=>by cases h
def Zy(P:Program)(N:Nat)(M0:dh)(w0:World)(post:Out->Prop)(d:Nat)(τ:Env)(bk:List (List aG->Prop))(k:Ex->Nat->Nat->St->FY->Tr)(Q:Exit->Act->World->Prop):Prop:=
 ∀ex nb s dec m bk' ρ a w,bk'.take d=bk.take d->d<=bk'.length->vc P post (k ex nb (τ++m).length s dec) (τ++m) bk'->ib (τ++m) dec->Sat M0 w0 N s (τ++m) ρ a w->Q (yC ex) a w
def ji(hm:P.follows .mixedOrders=true):∀(c:Code)(l d nb ni:Nat)(s:St)(dec:FY)(k:Ex->Nat->Nat->St->FY->Tr)(τ:Env)(bk:List (List aG->Prop)),
  vc P post (exec P N hints c l d nb ni s dec k) τ bk->τ.length=ni->ib τ dec->d<=bk.length ->
  ∀ρ a w(Q:Exit->Act->World->Prop),Sat M0 w0 N s τ ρ a w->bB5 post M0 w0 Q->si P post M0 w0->Zy P N M0 w0 post d τ bk k Q->c.wp P Q a w:=by
 intro c
 induction c with
 | skip=>
   intro l d nb ni s dec k τ bk h hn hd hb ρ a w Q hs hp ho hk;refine wp_skip (hk .normal nb s dec [] bk ρ a w rfl hb ?_ (by rw[cM];exact hd) (by rw[cM];exact hs));rw[cM,hn];exact h
 | exit id=>
   intro l d nb ni s dec k τ bk h hn hd hb ρ a w Q hs hp ho hk;refine wp_exit (hk (.exit id) nb s dec [] bk ρ a w rfl hb ?_ (by rw[cM];exact hd) (by rw[cM];exact hs));rw[cM,hn];exact h
 | ret=>
   intro l d nb ni s dec k τ bk h hn hd hb ρ a w Q hs hp ho hk;refine wp_ret (hk .ret nb s dec [] bk ρ a w rfl hb ?_ (by rw[cM];exact hd) (by rw[cM];exact hs));rw[cM,hn];exact h
 | region id ops draw=>
   intro l d nb ni s dec k τ bk h hn hd hb ρ a w Q hs hp ho hk;have h:vc P post (jm P N ops ops.toList 0 nb ni s dec [] fun nb ni s dec recs=>if ordered recs then k .normal nb ni s dec else .fail 1000) τ bk:=h
   have main:∃(m:Env)(fs:List DX)(z:Option Nat),iZ P N ops Q M0 w0 (τ++m) z 0 s fs ops.toList/\ordered (fs.map (·.r)).reverse=true /\
     ((∃j,z=some j/\j<ops.size)\/(z=none/\∀ρ a w,Sat M0 w0 N (s.apps (fs.map (·.e))) (τ++m) ρ a w->Q .normal a w)):=by
    rcases Dj hp ho ops.toList 0 nb ni s dec [] τ h hn hd (fun j=>by simp)with⟨m,fs,nb',dec',h1,h2,h3⟩ | ⟨m,fs,z,h1,h2,h3,h4⟩
    ·rw[cM]at h3;split at h3
     ·rename_i ho;exact⟨m,fs,none,h1,ho,.inr ⟨rfl,fun ρ a w hs=>hk .normal nb' _ dec' m bk ρ a w rfl hb h3 h2 hs⟩⟩
     ·exact h3.elim
    ·rw[cM]at h4;exact⟨m,fs,some z,h1,h4,.inl ⟨z,rfl,by simpa using h3⟩⟩
   obtain⟨m,fs,z,h1,h2,h3⟩:=main
   have hrepl:∀j,(Array.replicate ops.size false).getD j false=false:=by
    intro j;rw[jr];cases h:(Array.replicate ops.size false)[j]? with
    | none=>rfl
    | some b=>have:=(cK.1 h).2;simp at this;subst this;rfl
   cases draw with
   | true=>
     refine wp_region_any hm (RB h1 h2 h3 ops.size _ ρ a _ (by simp) ?_ ?_ ?_ ?_)
     ·intro j f _ hl;rw[hrepl]at hl;cases hl
     ·intro j _;exact hrepl j
     ·exact Nat.le_trans (List.length_filter_le _ _) (by simp)
     ·have e:done s fs (fun j=>(Array.replicate ops.size false).getD j false)=s:=by
       show s.apps _=s;rw[ML _ 0 _ fun j=>?_]
       ·rfl
       ·exact hrepl j
      rw[e];exact(hs.ext m).drew _
   | false=>
     refine wp_region ?_;rw[List.range_eq_range'];refine Rm h1 h2 h3 ops.size 0 ρ a w (Nat.zero_add _) (fun j _=>bO j) ?_;rw[ma];exact hs.ext m
 | seq x y ihx ihy=>
   intro l d nb ni s dec k τ bk h hn hd hb ρ a w Q hs hp ho hk;refine wp_seq (ihx l d nb ni s dec _ τ bk h hn hd hb ρ a w _ hs ?_ ho ?_)
   ·intro c v a w h1 h2 h3 h4;exact hp c v a w h1 h2 h3 h4
   ·intro ex nb' s' dec' m bk' ρ' a' w' hbk hb' hv hd' hs';cases ex with
    | normal=>
      refine ihy _ d nb' _ s' dec' k (τ++m) bk' hv rfl hd' hb' ρ' a' w' Q hs' hp ho ?_;intro ex2 nb2 s2 dec2 m2 bk2 ρ2 a2 w2 hbk2 hb2 hv2 hd2 hs2;rw[eE]at hv2 hd2 hs2;exact hk ex2 nb2 s2 dec2 (m++m2) bk2 ρ2 a2 w2 (hbk2.trans hbk) hb2 hv2 hd2 hs2
    | exit id=>exact hk (.exit id) nb' s' dec' m bk' ρ' a' w' hbk hb' hv hd' hs'
    | ret=>exact hk .ret nb' s' dec' m bk' ρ' a' w' hbk hb' hv hd' hs'
 | cond c x y ihx ihy=>
   intro l d nb ni s dec k τ bk h hn hd hb ρ a w Q hs hp ho hk
   have h:vc P post (match(HA c).run s with
    | some (.w (.one (.c x')))=>parts dec x' fun β dec=>if β then exec P N hints x l d nb ni s dec k else exec P N hints y (l+mQ x) d nb ni s dec k
    | _=>.fail 1001) τ bk:=h
   split at h
   ·rename_i x' hx;obtain⟨β,dec2,hc,hd2,hv⟩:=FQ hd h;have hval:(c0 τ x').rep (Ms M0 ρ s) w (a.eval c):=yh hs hx;rw[hc]at hval;refine wp_cond (t:=β) hval.1 ?_;cases β with
    | true=>exact ihx l d nb ni s dec2 k τ bk hv hn hd2 hb ρ a w Q hs hp ho hk
    | false=>exact ihy _ d nb ni s dec2 k τ bk hv hn hd2 hb ρ a w Q hs hp ho hk
   ·exact h.elim
 | block id x ih=>
   intro l d nb ni s dec k τ bk h hn hd hb ρ a w Q hs hp ho hk;refine wp_block (ih l d nb ni s dec _ τ bk h hn hd hb ρ a w _ hs ?_ ho ?_)
   ·intro c v a w h1 h2 h3 h4;exact hp c v a w h1 h2 h3 h4
   ·intro ex nb' s' dec' m bk' ρ' a' w' hbk hb' hv hd' hs';cases ex with
    | normal=>exact hk .normal nb' s' dec' m bk' ρ' a' w' hbk hb' hv hd' hs'
    | exit id'=>
      show if id'=id then Q .normal a' w' else Q (.exit id') a' w'
      simp only at hv;split at hv
      ·rename_i e;rw[if_pos e];exact hk .normal nb' s' dec' m bk' ρ' a' w' hbk hb' hv hd' hs'
      ·rename_i e;rw[if_neg e];exact hk (.exit id') nb' s' dec' m bk' ρ' a' w' hbk hb' hv hd' hs'
    | ret=>exact hk .ret nb' s' dec' m bk' ρ' a' w' hbk hb' hv hd' hs'
 | loop x ih=>
   intro l d nb ni s dec k τ bk h hn hd hb ρ a w Q hs hp ho hk
   have h:vc P post (match head P ((hints l).getD (auto P N x s)) (GR x) s nb ni with
    | none=>.fail 1002
    | some h=>.loop d h.inits (exec P N hints x (l+1) (d+1) h.nb h.ni h.s dec (aN6 P ((hints l).getD (auto P N x s)) ni h d k))) τ bk:=h
   generalize (hints l).getD (auto P N x s)=hint at h;split at h
   ·exact h.elim
   ·rename_i hd0 hh;obtain⟨G,tys,μ,g0,hg0,hlen,hbody⟩:=h
    have hfit:fits ni hd0.inits hd0.F hd0.s s=true/\hd0.ni=ni+hd0.inits.length:=by
     unfold head at hh;split at hh
     ·simp only at hh;split at hh
      ·rename_i hc;simp only[aI]at hh;subst hh;simp only[bz,oO]at hc;exact hc
      ·cases hh
     ·cases hh
    refine tV (fun n a' w'=>∃g ρ',μ g=n/\Sat M0 w0 N hd0.s (τ++tys g) ρ' a' w') (μ g0) ?_ ?_
    ·have hs0:Sat M0 w0 N s (τ++[]) ρ a w:=by rw[cM];exact hs
     obtain⟨ρ',h1⟩:=Ur hs0 hn hfit.1;rw[cM]at h1;exact⟨g0,ρ',rfl,h1.sub (aQ.app (aQ.refl τ) hg0)⟩
    ·rintro n a' w' ⟨g,ρ',rfl,hs'⟩;have htl:(bk.take d).length=d:=by rw[List.length_take];omega
     refine ih (l+1) (d+1) hd0.nb hd0.ni hd0.s dec _ (τ++tys g) _ (hbody g) (by rw[eZ,hlen,hn,hfit.2]) (hd.ext _) (by simp[htl]) ρ' a' w' _ hs' ?_ ho ?_
     ·intro c v a w h1 h2 h3 h4;exact hp c v a w h1 h2 h3 h4
     ·intro ex nb2 s2 dec2 m bk2 ρ2 a2 w2 hbk2 hb2 hv2 hd2 hs2
      have htake:bk2.take d=bk.take d:=by
       have:=congrArg (List.take d) hbk2;rw[oB,oB,Nat.min_eq_left (Nat.le_succ d)]at this;rw[this,Bv O,oB,Nat.min_self]
      have hother:∀e:Ex,vc P post (k e nb2 (τ++tys g++m).length s2 dec2) (τ++tys g++m) bk2->Q (yC e) a2 w2:=by
       intro e hv;rw[eE]at hv hd2 hs2;exact hk e nb2 s2 dec2 (tys g++m) bk2 ρ2 a2 w2 htake O hv hd2 hs2
      cases ex with
      | normal=>
        have hv2:vc P post (match ZN P hint ni hd0 s2 with | some vs=>.back d vs | none=>.fail 1003) (τ++tys g++m) bk2:=hv2;split at hv2
        ·rename_i vs hvs;obtain⟨f,hf,hfv⟩:=hv2
         have hget:bk2[d]?=some (fun ts=>∃g',aQ ts (tys g')/\μ g'<μ g):=by
          have h1:(bk2.take (d+1))[d]?=bk2[d]?:=by rw[eo,if_pos (Cr d)]
          rw[<-h1,hbk2,eo,if_pos (Cr d),fX O,htl,iY];rfl
         rw[hget]at hf;simp only[aI]at hf;subst hf;obtain⟨g',hg',hlt⟩:=hfv
         have hfb:∃F,fits ni vs F hd0.s s2=true:=by
          unfold ZN at hvs;split at hvs
          ·simp only at hvs;split at hvs
           ·rename_i hc;simp only[aI]at hvs;subst hvs;exact⟨_,hc⟩
           ·cases hvs
          ·cases hvs
         obtain⟨F,hF⟩:=hfb;rw[eE]at hs2 hg';obtain⟨ρ3,h3⟩:=Ur hs2 hn hF;exact⟨μ g',hlt,g',ρ3,rfl,h3.sub (aQ.app (aQ.refl τ) hg')⟩
        ·exact hv2.elim
      | exit id=>exact hother (.exit id) hv2
      | ret=>exact hother .ret hv2
 | _=>intro l d nb ni s dec k τ bk h;exact h.elim
inductive In where
 | v (t:aG)
 | ref (cells:List aE)
 | lent (E sz:Nat) (ts:List (List aE))
def In.ty:In->aG
 | .v t=>t
 | .ref cells=>.one (.aj cells)
 | .lent _ _ _=>.rows []
def In.env:In->aG
 | .v t=>t
 | .ref cells=>.agg cells
 | .lent _ _ ts=>.rows ts
def In.Is:Arg->In->Prop
 | .v sh,.v t=>t.shape=some sh
 | .ref n,.ref cells=>cells.length=n
 | .lent E sz,.lent E' sz' ts=>E'=E/\sz'=sz
 | .k u,.v t=>t=.one (.exact u)
 | _,_=>False
end
section
variable{P:Program}{N:Nat}{M0:dh}{w0 w:World}{s:St}{τ:Env}{ρ:Nat->Gh}{a:Act}
def lW(tmps:Array Value)(r:ResultVar):Sem Value:=
 match r with
 | .tmp t=>pure (tmps.getD t undef)
 | .cell b t=>do loadVar t (<-asAddr (tmps.getD b undef))
def jH(fn:Func)(tmps:Array Value)(vs:List Value)(h:(fn.results.toList.mapM (lW tmps)).run P w=.ok vs w) :
  (results fn tmps).run P w=.ok (pack vs) w:=by
 have e:results fn tmps=(do
   let vs <-fn.results.mapM (lW tmps)
   pure (if h:vs.size=1 then vs[0]else .tuple vs)):=rfl
 rw[e,Array.mapM_eq_mapM_toList];simp only[iW,Sem.run_map,h,dK,ix]
 congr 1
 match vs with
 | []=>rfl
 | [v]=>rfl
 | _::_::_=>rfl
def CS(h:Sat M0 w0 N s τ ρ a w)(l:List Nat):bW M0 ρ s l M0.M:=
 ⟨fun k hk=>.inl hk,fun b x k h1 h2 _ hk=>by
  exact h.old k hk (h.lo b x k h1 h2).1⟩
def lu(h:Sat M0 w0 N s τ ρ a w){M':Nat->Prop}:∀{rs:List ResultVar}{vs:List SW}{l:List Nat},(yk P s rs).run s=some (vs,l)->bW M0 ρ s l M' ->
  ∃us,(rs.mapM (lW a.tmps)).run P w=.ok us w/\cG M' w (vs.map (oW τ)) us
 | [],vs,l,hq,hS=>by
   simp only[yk,Q.ez,aI,bQ]at hq;obtain⟨rfl,rfl⟩:=hq;exact⟨[],rfl,trivial⟩
 | .tmp t::rs,vs,l,hq,hS=>by
   obtain⟨v,h1,h2⟩:=Q.bind_some hq;obtain⟨⟨y,l1⟩,h3,h4⟩:=Q.bind_some h2;obtain⟨⟨ys,l2⟩,h5,h6⟩:=Q.bind_some h4;simp only[Q.run_pure,aI,bQ]at h6;obtain⟨rfl,rfl⟩:=h6;obtain⟨us,hr,hrep⟩:=lu h h5 (hS.mono fun x hx=>kD _ hx);refine⟨a.tmps.getD t undef::us,?_,Mk h h3 (hS.mono fun x hx=>gS _ hx) (qO h h1),hrep⟩;simp only[BJ,lW,iW,ix,dK,hr]
 | .cell t T::rs,vs,l,hq,hS=>by
   obtain⟨c,h1,h2⟩:=Q.bind_some hq;have hx:=dQ h h1;cases c with
   | p b off=>
     obtain⟨bx,h3,h4⟩:=Q.bind_some h2;simp only[gk,aI]at h3;cases bx with
     | none=>cases h4
     | some bx=>cases bx with
       | row=>cases h4
       | part=>cases h4
       | dead=>cases h4
       | var T' cells=>
         obtain⟨⟨ag,n⟩,h5,h6⟩:=Q.bind_some h4;rw[dN]at h5;obtain⟨cs,h7,h8⟩:=Q.bind_some h6;rw[dN]at h7;obtain⟨⟨cs',l1⟩,h9,h10⟩:=Q.bind_some h8;obtain⟨⟨ys,l2⟩,h11,h12⟩:=Q.bind_some h10;obtain⟨v,h13,h14⟩:=Q.bind_some h12;simp only[Q.run_pure,aI,bQ]at h14;obtain⟨rfl,rfl⟩:=h14;obtain⟨us,hr,hrep⟩:=lu h h11 (hS.mono fun x hx=>kD _ hx);obtain⟨hlen,rfl⟩:=tD h7;obtain⟨vs',hh,hall⟩:=h.bx b _ h3;have hl:=hall.length;have hcs:=yW h h9 (hS.mono fun x hx=>gS _ hx) ((hall.drop off).take n);have hcl:=hcs.length
         have hn1:ag=true\/n=1:=by
          cases ag with
          | true=>exact .inl rfl
          | false=>
            right
            simp only[dH,bf]at h13;split at h13
            ·simp only[aR,Kz,List.length_take,dA]at hcl;omega
            ·cases h13
         obtain⟨u,hru,hu⟩:=gp (P:=P) (w:=w) h5 hh (off:=off) (by simp;omega) hn1;have hxe:a.tmps.getD t undef=.pointer (some ⟨(ρ b).blk,off,none⟩):=hx.2;refine⟨u::us,?_,?_,hrep⟩
         ·simp only[BJ,lW,iW,hxe,asAddr,ix,dK,hru,hr]
         ·cases ag with
          | true=>
            simp only[bR,Q.ez,aI]at h13 hu;subst h13;exact⟨_,hu,by simpa using hcs⟩
          | false=>
            simp only[dH,bf]at h13 hu;split at h13
            ·rename_i c';simp only[Q.ez,aI]at h13;subst h13;have hu':(vs'.drop off).take n=[u]:=by simpa using hu
             rw[hu']at hcs;exact hcs.1
            ·cases h13
   | _=>cases h2
def oX{M:Nat->Prop}{k:Nat}:¬(dh.mk M ⟨0,undef,#[]⟩).O k:=fun h=>by cases h
def Kept.below{M:Nat->Prop}{w0 w:World}(h:Kept ⟨M,⟨0,undef,#[]⟩⟩ w0 w):Below w0.heap.size w0 w:=
 ⟨h.os,h.tape,h.output,h.size,fun k hk=>h.block k hk oX⟩
def mr{M:Nat->Prop}{ex:Nat->Prop}{i:Nat}{g:Arg}{x:In}{v:Value}(hτ:τ[i]?=some x.env)(hi:In.Is g x)(hv:x.ty.rep M w v):gO ex τ ρ M w (dU i g) v:=by
 cases g with
 | v sh=>cases x with
   | v t=>exact rS hτ hi hv
   | ref cells=>exact hi.elim
   | lent _ _ _=>exact hi.elim
 | lent _ _=>cases x with
   | v t=>exact hi.elim
   | ref cells=>exact hi.elim
   | lent _ _ _=>exact(hv:False).elim
 | k u=>cases x with
   | v t=>
     have ht:t=.one (.exact u):=hi;subst ht;exact hv
   | ref cells=>exact hi.elim
   | lent _ _ _=>exact hi.elim
 | ref n=>cases x with
   | v t=>exact hi.elim
   | lent _ _ _=>exact hi.elim
   | ref cells=>
     have hc:((List.range n).map fun j=>C0.u i j).map (c0 τ)=cells:=by
      apply List.ext_getElem?;intro j;rw[eU,cC];have hl:cells.length=n:=hi;by_cases hj:j<n
      ·rw[gv hj,ay O];simp only[cf,Function.comp,c0,cu,hτ,ei,In.env,aG.cell,aG.cells,ay (show j<cells.length by omega)]
      ·rw[fD (by simpa using hj),fD O];rfl
     show(aE.aj _).rep M w v;rw[hc,eF];exact hv
def cI{f:FuncId}{fn:Func}{hints:Nat->Option Hint}{args:List Arg}{ins:List In}{out:Out}(hm:P.follows .mixedOrders=true)(hok:rX P f=true)
  (hf:P.funcs[f]?=some fn) (hin:ae In.Is args ins) (h:vc P (fun o=>ep o out) (aM P fn hints args) (ins.map In.env) []):aL P f (ins.map In.ty) out:=by
 refine⟨bJ hok,fun M w vs hM hvs=>?_⟩;unfold aM at h;split at h
 ·exact h.elim
 ·rename_i c hb;split at h
  ·rename_i hlen;refine iE hf hb ?_;have hil:ins.length=args.length:=hin.length.symm;have hvl:vs.length=args.length:=by rw[<-hvs.length];simpa using hil
   refine ji (M0:=⟨M,⟨0,undef,#[]⟩⟩) (w0:=w) hm c 0 0 0 args.length _ [] _ (ins.map In.env) [] h (by simpa using hil) (by intro x hx;cases hx) (aY _) (fun _=>⟨0,undef,#[]⟩) _ w _ ?_ ?_ si.no ?_
   ·refine⟨⟨rfl,rfl,rfl,aY _,fun _ _ _=>rfl,fun x hx=>⟨(hM.2 x hx).1,oX,(hM.2 x hx).2⟩⟩,?_,rfl,fun t=>?_,(by intro b x hb;cases hb),(by intro b b' x x' k hb;cases hb),(by intro b x k hb;cases hb),fun k hk ho=>ho.elim (fun h=>ir.2 h (hM.1 k hk)) oX,(by intro b E sz cid hb;cases hb)⟩
    ·simp;omega
    ·have hlook:∀(l:List Arg)(d:Nat),(look (l.mapIdx fun i a=>(d+i,dU (d+i) a)) t)=if d<=t then(l[t-d]?).map (dU t)else none:=by
      intro l
      induction l with
      | nil=>intro d;simp[look]
      | cons x l ih=>
        intro d;rw[xg];simp only[look,Nat.add_zero]
        have e:(l.mapIdx fun i a=>(d+(i+1),dU (d+(i+1)) a))=l.mapIdx fun i a=>(d+1+i,dU (d+1+i) a):=by
         congr 1;funext i a;rw[show d+(i+1)=d+1+i by omega]
        rw[e,ih (d+1)];by_cases h1:d=t
        ·subst h1;simp
        ·rw[if_neg h1];by_cases h2:d+1<=t
         ·rw[if_pos h2,if_pos O,show t-d=(t-(d+1))+1 by omega,List.getElem?_cons_succ]
         ·rw[if_neg h2,if_neg O]
     have hst:(⟨args.mapIdx fun i a=>(i,dU i a),[],[]⟩:St).t t=((args[t]?).map (dU t)).getD .junk:=by
      have:=hlook args 0;simp only[Nat.zero_add,bO,bR,Ta]at this;simp only[St.t,this]
     rw[hst];cases hat:args[t]? with
     | none=>trivial
     | some g=>
       have htl:t<args.length:=(dn.1 hat).1;have hiv:∃x,ins[t]?=some x/\In.Is g x:=hin.get t g hat;obtain⟨x,hx,hix⟩:=hiv;have hvt:vs[t]?=some (vs[t]' O):=ay O;obtain⟨ty,hty,hrep⟩:=hvs.get t _ hvt;rw[cC,hx]at hty;simp only[cf,aI]at hty;subst hty
       have hval:(vs.toArray++Array.replicate (fn.ntmps-vs.toArray.size) undef).getD t undef=vs[t]' O:=by
        rw[jr,vz (by simp;omega)];simp[hvt]
       rw[hval];refine mr (by rw[cC,hx];rfl) hix (aG.xA ?_ hrep);intro k o hk ho _;refine⟨fun hm=>?_,ho⟩;rcases hm with hm | ⟨b,x,hb,_⟩
       ·exact hk hm
       ·cases hb
   ·intro c v a w' hp hr hb hd;refine⟨hd,hb.below,?_⟩;cases out with
    | pan d=>have hp:c=d:=hp;subst hp;exact⟨v,rfl,hr⟩
    | ret _=>exact hp.elim
    | orc _ _ _=>exact hp.elim
    | retr _ _=>exact hp.elim
   ·intro ex nb s dec m bk' ρ a w' _ _ hv _ hs
    have key:vc P (fun o=>ep o out) (match(yk P s fn.results.toList).run s with
      | some (vs,_)=>.ret vs
      | none=>.fail 1008) (ins.map In.env++m) bk'->a.defers=[]/\∃v,(results fn a.tmps).run P w'=.ok v w'/\(Below w.heap.size w w'/\qM M w' out (.returned v)):=by
     intro hv;split at hv
     ·rename_i vs' l hq;obtain⟨us,hr,hrep⟩:=lu hs hq (CS hs _);refine⟨hs.df,_,jH fn a.tmps us hr,hs.below.below,?_⟩;cases out with
      | ret rs=>exact⟨us,rfl,cG.sub hv hrep⟩
      | retr _ _=>exact hv.elim
      | orc _ _ _=>exact hv.elim
      | pan _=>exact hv.elim
     ·exact hv.elim
    cases ex with
    | normal=>exact key hv
    | ret=>exact key hv
    | exit id=>exact hv.elim
  ·exact h.elim
end
open Go.RowKit (Below)
section
variable{P:Program}{T U ty:TypeId}{x y:Operand}
def wh{M:Nat->Prop}{w:World}{ρ:Operand->Value}{t:aG}(h:cG M w [t] ((#[x]:Array Operand).toList.map ρ)):t.rep M w (ρ x):=h.1
def rN{M:Nat->Prop}{w:World}{ρ:Operand->Value}{t u:aG}(h:cG M w [t,u] ((#[x,y]:Array Operand).toList.map ρ)):t.rep M w (ρ x)/\u.rep M w (ρ y):=⟨h.1,h.2.1⟩
def me{op:BinOp}{k:IntKind}{a b:Int}{r:Value}(h1:r.oneCell'=true)(h:∀w,(binOp op T (.int k a) (.int k b)).run P w=.ok r w) :
  af P (.binOp op T x y U) ty [.one (.int k a),.one (.int k b)] (.one (.exact r)):=by
 intro M w ρ o ho _ hr;obtain⟨hx,hy⟩:=rN hr;have hx:ρ x=.int k a/\_:=hx;have hy:ρ y=.int k b/\_:=hy;refine⟨r,?_,⟨rfl,h1⟩⟩
 have hg:(eqGuard op T x y (.int k a) (.int k b)).run P w=.ok () w:=by
  unfold eqGuard;cases op<;>simp
 simp only[execOp,ho,hx.1,hy.1,iW,hg,dK,h w,ix]
def dp{k:IntKind}{a b c:Int}(h:k.wrap (a+b)=c):af P (.binOp .add T x y U) ty [.one (.int k a),.one (.int k b)] (.one (.int k c)):=
 me rfl fun w=>by simp[binOp,Op.intArith,h]
def mv{k:IntKind}{a b c:Int}(h:k.wrap (a-b)=c):af P (.binOp .sub T x y U) ty [.one (.int k a),.one (.int k b)] (.one (.int k c)):=
 me rfl fun w=>by simp[binOp,Op.intArith,h]
def qu{k:IntKind}{a b c:Int}(h:k.wrap (a*b)=c):af P (.binOp .mul T x y U) ty [.one (.int k a),.one (.int k b)] (.one (.int k c)):=
 me rfl fun w=>by simp[binOp,Op.intArith,h]
def py{k:IntKind}{a b c:Int}(hb:b≠0)(h:k.wrap (a.tdiv b)=c):af P (.binOp .quo T x y U) ty [.one (.int k a),.one (.int k b)] (.one (.int k c)):=
 me rfl fun w=>by simp[binOp,Op.intDiv,hb,h]
def Ea{k:IntKind}{a b c:Int}(hb:b≠0)(h:a.tmod b=c):af P (.binOp .rem T x y U) ty [.one (.int k a),.one (.int k b)] (.one (.int k c)):=
 me rfl fun w=>by simp[binOp,Op.intDiv,hb,h]
def ad7{k:IntKind}{a b:Int}:af P (.binOp .eql T x y U) ty [.one (.int k a),.one (.int k b)] (.one (.bool (decide (a=b)))):=
 me rfl fun w=>by simp[binOp,Op.intCmp,BEq.beq]
def NC{k:IntKind}{a b:Int}:af P (.binOp .neq T x y U) ty [.one (.int k a),.one (.int k b)] (.one (.bool (!decide (a=b)))):=
 me rfl fun w=>by simp[binOp,Op.intCmp,bne,BEq.beq]
def uN{k:IntKind}{a b:Int}:af P (.binOp .lss T x y U) ty [.one (.int k a),.one (.int k b)] (.one (.bool (decide (a<b)))):=
 me rfl fun w=>by simp[binOp,Op.intCmp]
def bw9{k:IntKind}{a b:Int}:af P (.binOp .leq T x y U) ty [.one (.int k a),.one (.int k b)] (.one (.bool (decide (a<=b)))):=
 me rfl fun w=>by simp[binOp,Op.intCmp]
def Nd{k:IntKind}{a b:Int}:af P (.binOp .gtr T x y U) ty [.one (.int k a),.one (.int k b)] (.one (.bool (decide (b<a)))):=
 me rfl fun w=>by simp[binOp,Op.intCmp]
def Gd{k:IntKind}{a b:Int}:af P (.binOp .geq T x y U) ty [.one (.int k a),.one (.int k b)] (.one (.bool (decide (b<=a)))):=
 me rfl fun w=>by simp[binOp,Op.intCmp]
def lf{b:Bool}:af P (.unOp .not T x) ty [.one (.bool b)] (.one (.bool (!b))):=by
 intro M w ρ o ho _ hr;have hx:ρ x=.bool b/\_:=wh hr;exact⟨.bool (!b),by simp[execOp,ho,hx.1,Op.unary],⟨rfl,rfl⟩⟩
def aK4{k:IntKind}{a c:Int}(h:k.wrap (0-a)=c):af P (.unOp .neg T x) ty [.one (.int k a)] (.one (.int k c)):=by
 intro M w ρ o ho _ hr;have hx:ρ x=.int k a/\_:=wh hr;exact⟨.int k c,by simp[execOp,ho,hx.1,Op.unary,Op.intArith,<-h],⟨rfl,rfl⟩⟩
def jD{k k':IntKind}{a c:Int}(hu:∃d,P.underlying T=some d)(hd:P.underlying U=some (.int k'))(h:k'.wrap a=c):af P (.convert T U x) ty [.one (.int k a)] (.one (.int k' c)):=by
 obtain⟨d,hu⟩:=hu;intro M w ρ o ho _ hr;have hx:ρ x=.int k a/\_:=wh hr;refine⟨.int k' c,?_,⟨rfl,rfl⟩⟩
 have:(convert T U (.int k a)).run P w=.ok (.int k' c) w:=by
  simp[convert,dy hu,dy hd,Conv.intToInt,h]
 simp only[execOp,ho,hx.1,iW,this,dK,ix]
def aU{E sz n:Nat}{ts:List (List aE)}{b:Nat}{s2:Nat}(h:dI P T=some (E,s2,b))(hn:ts.length=n):af P (.call ⟨.builtin .len,#[x],#[T]⟩) ty [.one (.slice sz ts)] (.one (.int .i64 n)):=by
 intro M w ρ o ho _ hr;have hx:(aE.slice sz ts).rep M w (ρ x):=wh (x:=x) hr;obtain⟨ad,cap,hv,_⟩:=hx;obtain⟨ie,hu,_⟩:=cg h;exact⟨.int .i64 n,by simp[execOp,ho,resolve,invoke,builtin,Builtin.len_,hv,dy hu,goInt,hn],⟨rfl,rfl⟩⟩
def aL1{E sz b:Nat}{k:IntKind}{n:Int}{ts:List (List aE)}{t:List aE}(h:dI P T=some (E,sz,b))(h0:0<=n)(ht:ts[n.toNat]?=some t) :
  af P (.indexAddr T x y) ty [.one (.slice sz ts),.one (.int k n)] (.one (.aj t)):=by
 intro M w ρ o ho _ hr;obtain⟨hx,hy⟩:=rN (x:=x) (y:=y) hr;have hx:(aE.slice sz ts).rep M w (ρ x):=hx;have hy:ρ y=.int k n/\_:=hy;obtain⟨ad,cap,hv,hc,hm,hel⟩:=hx;obtain⟨ie,hu,hie,hies,_⟩:=cg h;have hlt:n.toNat<ts.length:=(dn.1 ht).1;rcases hel with rfl | ⟨bl,off,cs,T',fz,rfl,hb,hh,hel⟩
 ·simp at hlt
 ·have hin:0<=n/\n<(ts.length:Int):=⟨h0,O⟩
  refine⟨.pointer (some ⟨bl,off+n.toNat*sz,none⟩),?_,?_⟩
  ·simp[execOp,ho,hv,hy.1,Instr.indexAt,asIntOf,dy hu,sizeOf,typeInfo,hie,hies,hin,lh]
  ·have:=hel n.toNat t ht;refine⟨bl,off+n.toNat*sz,cs,T',fz,rfl,hb,hh,?_⟩;rw[this.1];exact this.2
def bB{ag:Bool}{n:Nat}{cells:List aE}(h:lD P T=some (ag,n))(hpos:0<n)(hn:n<=cells.length)(h1:ag=true\/n=1) :
  af P (.load T x) ty [.one (.aj cells)] (Mf ag (cells.take n)):=by
 intro M w ρ o ho _ hr;have hx:(aE.aj cells).rep M w (ρ x):=wh (x:=x) hr;obtain⟨b,off,cs,T',fz,hv,hb,hh,hrep⟩:=hx;have hl:=hrep.length;simp only[List.length_take,dA,fI]at hl;obtain⟨v,hrun,hval⟩:=gp (P:=P) (w:=w) h hh (off:=off) (n:=n) O h1;refine⟨v,by simp[execOp,ho,hv,Instr.loadAt,Instr.sureAddr,hrun],?_⟩;have h2:=hrep.take n;rw[oB,Nat.min_eq_left hn]at h2;cases ag with
 | true=>
   simp only[bR]at hval;exact⟨_,hval,h2⟩
 | false=>
   simp only[dH,bf]at hval;rw[hval]at h2;have hl2:=h2.length;simp only[Mf,dH,bf]
   match hc:cells.take n,h2 with
   | [c],h2=>exact h2.1
   | [],h2=>simp[hc]at hl2
   | _::_::_,h2=>simp[hc]at hl2
def Jm{cells:List aE}:af P (.nilCheck x) ty [.one (.aj cells)] (.one (.aj cells)):=by
 intro M w ρ o ho _ hr;have hx:(aE.aj cells).rep M w (ρ x):=wh (x:=x) hr;have hx':=hx;obtain⟨b,off,cs,T',fz,hv,_⟩:=hx;exact⟨ρ x,by simp[execOp,ho,hv],hx'⟩
def lk{f ft fo fs:Nat}{cells:List aE}(h:jA P T f=some (ft,fo,fs))(hpos:0<fs):af P (.fieldAddr T x f) ty [.one (.aj cells)] (.one (.aj (cells.drop fo))):=by
 intro M w ρ o ho _ hr;have hx:(aE.aj cells).rep M w (ρ x):=wh (x:=x) hr;obtain⟨b,off,cs,T',fz,hv,hb,hh,hrep⟩:=hx;obtain⟨fls,fl,i,hu,hfl,rfl,rfl,hi,rfl⟩:=sY h;have hne:¬i.size=0:=O
 refine⟨.pointer (some ⟨b,off+fl.offset,none⟩),?_,⟨b,off+fl.offset,cs,T',fz,rfl,hb,hh,?_⟩⟩
 ·simp[execOp,ho,hv,Instr.fieldAt,dy hu,hfl,Instr.sureAddr,fieldPlace,sizeOf,typeInfo,hi,hne,lh]
 ·have:=hrep.drop fl.offset;rw[qb,List.drop_drop]at this;rw[dA];exact this
def vC{M:Nat->Prop}{w:World}{sz:Nat}{ts:List (List aE)}{ad:Option Addr}{cap l h m:Nat}(hs:(aE.slice sz ts).rep M w (.slice ad ts.length cap))(hlh:l<=h)(hh:h<=ts.length)(hm:h<=m)(hmc:m<=cap:=by omega) :
  (aE.slice sz ((ts.take h).drop l)).rep M w (.slice (if m=l then ad else ad.map (·.add (l*sz))) (h-l) (m-l)):=by
 obtain⟨ad',cap',he,hc,hcm,hel⟩:=hs;simp only[iz,true_and]at he;obtain⟨rfl,rfl⟩:=he;have hlen:((ts.take h).drop l).length=h-l:=by simp;omega
 refine⟨_,m-l,by rw[hlen],by rw[hlen];omega,O,?_⟩;by_cases hz:h=l
 ·left;exact fu O
 ·rcases hel with rfl | ⟨b,off,cs,T,fz,rfl,hb,hh2,hel⟩
  ·simp at hh;omega
  ·refine .inr ⟨b,off+l*sz,cs,T,fz,?_,hb,hh2,fun i t ht=>?_⟩
   ·rw[if_neg O];simp[lh]
   ·rw[List.getElem?_drop,eo]at ht;split at ht
    ·have:=hel (l+i) t ht;rw[Nat.add_mul]at this;rw[Nat.add_assoc];exact this
    ·cases ht
def IE{E sz b:Nat}{k:IntKind}{n:Int}{ts:List (List aE)}(h:dI P T=some (E,sz,b))(h0:0<=n)(hn:n.toNat<=ts.length) :
  af P (.slice T x none (some y) none) ty [.one (.slice sz ts),.one (.int k n)] (.one (.slice sz (ts.take n.toNat))):=by
 intro M w ρ o ho _ hr;have hx:(aE.slice sz ts).rep M w (ρ x):=hr.1;have hy:ρ y=.int k n/\_:=hr.2.1;have hx':=hx;obtain⟨ad,cap,hv,hc,hm,_⟩:=hx;rw[hv]at hx';obtain⟨ie,hu,hie,hies,_⟩:=cg h;have:=vC (l:=0) (h:=n.toNat) (m:=cap) hx' (bO _) hn O (aY _);rw[eF]at this;refine⟨_,?_,this⟩;have hin:0<=n/\n<=(cap:Int):=⟨h0,O⟩
 simp[execOp,ho,hv,hy.1,Instr.sliceAt,Instr.slice,Instr.sliceBounds,Instr.sliceBound,asIntOf,dy hu,sizeOf,typeInfo,hie,hies,hin]
def Ji{E sz b:Nat}{k:IntKind}{n:Int}{ts:List (List aE)}(h:dI P T=some (E,sz,b))(h0:0<=n)(hn:n.toNat<=ts.length) :
  af P (.slice T x (some y) none none) ty [.one (.slice sz ts),.one (.int k n)] (.one (.slice sz (ts.drop n.toNat))):=by
 intro M w ρ o ho _ hr;have hx:(aE.slice sz ts).rep M w (ρ x):=hr.1;have hy:ρ y=.int k n/\_:=hr.2.1;have hx':=hx;obtain⟨ad,cap,hv,hc,hm,_⟩:=hx;rw[hv]at hx';obtain⟨ie,hu,hie,hies,_⟩:=cg h;have:=vC (l:=n.toNat) (h:=ts.length) (m:=cap) hx' hn (aY _) hc (aY _);rw[List.take_length]at this;refine⟨_,?_,this⟩;have hin:0<=n/\n<=(ts.length:Int):=⟨h0,O⟩
 simp[execOp,ho,hv,hy.1,Instr.sliceAt,Instr.slice,Instr.sliceBounds,Instr.sliceBound,asIntOf,dy hu,sizeOf,typeInfo,hie,hies,hin]
def El{E sz b:Nat}{k k':IntKind}{n:Int}{z:Operand}{ts:List (List aE)}(h:dI P T=some (E,sz,b))(hn:n.toNat<=ts.length)(h0:0<=n:=by omega) :
  af P (.slice T x none (some y) (some z)) ty [.one (.slice sz ts),.one (.int k n),.one (.int k' n)] (.one (.slice sz (ts.take n.toNat))):=by
 intro M w ρ o ho _ hr;have hx:(aE.slice sz ts).rep M w (ρ x):=hr.1;have hy:ρ y=.int k n/\_:=hr.2.1;have hz:ρ z=.int k' n/\_:=hr.2.2.1;have hx':=hx;obtain⟨ad,cap,hv,hc,hm,_⟩:=hx;rw[hv]at hx';obtain⟨ie,hu,hie,hies,_⟩:=cg h;have:=vC (l:=0) (h:=n.toNat) (m:=n.toNat) hx' (bO _) hn (aY _);rw[eF]at this;refine⟨_,?_,this⟩;have hin:0<=n/\n<=(cap:Int):=⟨h0,O⟩
 have hin2:max n 0=n:=O
 simp[execOp,ho,hv,hy.1,hz.1,Instr.sliceAt,Instr.slice,Instr.sliceBounds,Instr.sliceBound,asIntOf,dy hu,sizeOf,typeInfo,hie,hies,hin,hin2]
def Wq{s:ByteArray}{n:Nat}(hu:P.underlying T=some .string)(hn:s.size=n):af P (.call ⟨.builtin .len,#[x],#[T]⟩) ty [.one (.str s)] (.one (.int .i64 n)):=by
 intro M w ρ o ho _ hr;have hx:ρ x=.string s/\_:=wh (x:=x) hr;exact⟨.int .i64 n,by simp[execOp,ho,resolve,invoke,builtin,Builtin.len_,hx.1,dy hu,goInt,hn],⟨rfl,rfl⟩⟩
def Ws{s t:ByteArray}(h:((s.size+t.size:Nat):Int)<=9223372036854775807):af P (.binOp .add T x y U) ty [.one (.str s),.one (.str t)] (.one (.str (s++t))):=by
 intro M w ρ o ho _ hr;obtain⟨hx,hy⟩:=rN hr;have hx:ρ x=.string s/\_:=hx;have hy:ρ y=.string t/\_:=hy;refine⟨.string (s++t),?_,⟨rfl,rfl⟩⟩;have hmax:IntKind.i64.max=9223372036854775807:=by simp[IntKind.max,IntKind.signed,IntKind.bits]
 have hno:¬(9223372036854775807<((s.size:Int)+(t.size:Int))):=by
  have:((s.size+t.size:Nat):Int)=(s.size:Int)+(t.size:Int):=by simp
  omega
 simp[execOp,ho,hx.1,hy.1,eqGuard,binOp,Op.stringOp,hmax,hno]
def UF{s t:ByteArray}:af P (.binOp .eql T x y U) ty [.one (.str s),.one (.str t)] (.one (.bool (s.toList==t.toList))):=by
 intro M w ρ o ho _ hr;obtain⟨hx,hy⟩:=rN hr;have hx:ρ x=.string s/\_:=hx;have hy:ρ y=.string t/\_:=hy;exact⟨.bool (s.toList==t.toList),by simp[execOp,ho,hx.1,hy.1,eqGuard,binOp,Op.stringOp],⟨rfl,rfl⟩⟩
def UC{s:ByteArray}{k:IntKind}{n:Int}{b:UInt8}(hu:P.underlying T=some .string)(h0:0<=n)(hb:s[n.toNat]?=some b):af P (.index T x y) ty [.one (.str s),.one (.int k n)] (.one (.int .u8 b.toNat)):=by
 intro M w ρ o ho _ hr;obtain⟨hx,hy⟩:=rN hr;have hx:ρ x=.string s/\_:=hx;have hy:ρ y=.int k n/\_:=hy;exact⟨.int .u8 b.toNat,by simp[execOp,ho,hx.1,hy.1,Instr.index,asIntOf,dy hu,h0,hb],⟨rfl,rfl⟩⟩
def an9{s:ByteArray}{k:IntKind}{n:Int}(hu:P.underlying T=some .string)(h0:0<=n)(hn:n<=s.size):af P (.slice T x (some y) none none) ty [.one (.str s),.one (.int k n)] (.one (.str (s.extract n.toNat s.size))):=by
 intro M w ρ o ho _ hr;have hx:ρ x=.string s/\_:=hr.1;have hy:ρ y=.int k n/\_:=hr.2.1;exact⟨_,by simp[execOp,ho,hx.1,hy.1,Instr.sliceAt,Instr.slice,Instr.sliceBounds,Instr.sliceBound,asIntOf,dy hu,h0,hn],⟨rfl,rfl⟩⟩
def Xr{s:ByteArray}{k k':IntKind}{n m:Int}{z:Operand}(hu:P.underlying T=some .string)(h0:0<=n)(hn:n<=m)(hm:m<=s.size):af P (.slice T x (some y) (some z) none) ty [.one (.str s),.one (.int k n),.one (.int k' m)] (.one (.str (s.extract n.toNat m.toNat))):=by
 intro M w ρ o ho _ hr;have hx:ρ x=.string s/\_:=hr.1;have hy:ρ y=.int k n/\_:=hr.2.1;have hz:ρ z=.int k' m/\_:=hr.2.2.1;have h1:0<=m:=O
 have h2:max m 0=m:=O
 have h3:¬m<n:=O
 exact⟨_,by simp[execOp,ho,hx.1,hy.1,hz.1,Instr.sliceAt,Instr.slice,Instr.sliceBounds,Instr.sliceBound,asIntOf,dy hu,h0,h1,h2,h3,hm],⟨rfl,rfl⟩⟩
end
section
variable{P:Program}{post:Out->Prop}{bk:List (List aG->Prop)}{τ:Env}{op:Op}{ty:Nat}{last:Bool}{k:Tr}
def vn{args:List SW}{sh:Option Nat}{t:aG}(hp:af P op ty (args.map (oW τ)) t)(hs:t.shape=some sh:=by rfl)(hk:vc P post k (τ++[t]) bk):vc P post (.need (.prim args sh) op ty last k) τ bk:=
 .inl ⟨[t],⟨t,rfl,hs,hp⟩,rfl,hk⟩
def aA{f:Nat}{args:List SW}{sh:List (Option Nat)}{ts:List aG}(hd:aL P f (args.map (oW τ)) (.ret ts))(hs:ts.map aG.shape=sh.map some:=by rfl)(hk:vc P post k (τ++ts) bk):vc P post (.need (.call f args sh) op ty last k) τ bk:=
 .inl ⟨ts,⟨hs,hd⟩,by have:=congrArg List.length hs;simpa[dP.ids]using this,hk⟩
def sO{c:C0}{f:FuncId}{caps:List aE}{args:List SW}{sh:List (Option Nat)}{ts:List aG}(hc:c0 τ c=.jO f caps)(hd:aL P f (args.map (oW τ)++caps.map .one) (.ret ts))(hs:ts.map aG.shape=sh.map some)(hk:vc P post k (τ++ts) bk):vc P post (.need (.callv c args sh) op ty last k) τ bk:=
 .inl ⟨ts,⟨f,caps,hc,hs,hd⟩,by have:=congrArg List.length hs;simpa[dP.ids]using this,hk⟩
def bF{sz:Nat}{tss:List (List C0)}{us:List (List aE)}(hu:tss.map (fun t=>t.map (c0 τ))=us:=by rfl)(hk:vc P post k (τ++[.rows us]) bk):vc P post (.need (.lit sz tss) op ty last k) τ bk:=
 .inl ⟨_,by rw[<-hu];rfl,rfl,hk⟩
def sJ{z:List Value}{b:Nat}{l c:C0}{n m:Nat}{kl kc:IntKind}{us:List (List aE)}(h1:c0 τ l=.int kl n)(h2:c0 τ c=.int kc m)(hu:List.replicate n (z.map .exact)=us)(hnm:n<=m)(hb:b*m<=140737488355328)(hm:m<=maxLen)(hk:vc P post k (τ++[.rows us]) bk):vc P post (.need (.make z b l c) op ty last k) τ bk:=
 .inl ⟨_,⟨n,m,kl,kc,h1,h2,hnm,hb,hm,by rw[hu]⟩,rfl,hk⟩
def pK{sz b:Nat}{cid:Option Nat}{src:Option C0}{row:Option Nat}{ts us vs:List (List aE)}(h1:aa5 τ cid ts)(h2:Zm τ sz src row us)(hv:ts++us=vs)(hb:vs.length*b<=140737488355328)(hm:vs.length<=maxLen)(hk:vc P post k (τ++[.rows vs]) bk):vc P post (.need (.app sz b cid src row) op ty last k) τ bk:=
 .inl ⟨[.rows vs],⟨ts,us,h1,h2,by rw[<-eZ,hv];exact hb,by rw[<-eZ,hv];exact hm,by rw[hv]⟩,rfl,hk⟩
def mq{cid:Nat}{i:C0}{ts:List (List aE)}{ik:IntKind}{n:Int}(h1:τ[cid]?=some (.rows ts))(h2:c0 τ i=.int ik n)(h0:0<=n)(hn:n<ts.length)(hk:vc P post k τ bk):vc P post (.need (.idx cid i) op ty last k) τ bk:=
 .inl ⟨[],⟨ts,ik,n,h1,h2,h0,hn,rfl⟩,rfl,by rw[cM];exact hk⟩
def vld{cid off sz:Nat}{ag:Bool}{i:C0}{ts:List (List aE)}{ik:IntKind}{n:Int}{cells:List aE}{t:aG}(h1:τ[cid]?=some (.rows ts))(h2:c0 τ i=.int ik n)(h0:0<=n)(hn:ts[n.toNat]?=some cells)(hag:ag=true\/sz=1)(ht:Mf ag ((cells.drop off).take sz)=t)(hk:vc P post k (τ++[t]) bk):vc P post (.need (.ldrow cid i off sz ag) op ty last k) τ bk:=
 .inl ⟨_,⟨ts,ik,n,cells,h1,h2,h0,hn,hag,by rw[ht]⟩,rfl,hk⟩
def yx{cid sz off:Nat}{i:C0}{xs:List C0}{ts us:List (List aE)}{ik:IntKind}{n:Int}{cells:List aE}(h1:τ[cid]?=some (.rows ts))(h2:c0 τ i=.int ik n)(h0:0<=n)(hn:ts[n.toNat]?=some cells)
  (hu:ts.set n.toNat (cells.take off++xs.map (c0 τ)++cells.drop (off+xs.length))=us) (hk:vc P post k (τ++[.rows us]) bk):vc P post (.need (.strow cid sz i off xs) op ty last k) τ bk:=
 .inl ⟨_,⟨ts,ik,n,cells,h1,h2,h0,hn,by rw[hu]⟩,rfl,hk⟩
def Qk{cid n:Nat}{ts:List (List aE)}(h1:τ[cid]?=some (.rows ts))(hn:ts.length=n)(hk:vc P post k (τ++[.one (.int .i64 n)]) bk):vc P post (.need (.lenrow cid) op ty last k) τ bk:=
 .inl ⟨_,⟨ts,h1,by rw[hn]⟩,rfl,hk⟩
def vs{c:C0}{kt kf:Tr}(p:Prop)[Decidable p](hc:c0 τ c=.bool (decide p))(ht:p->vc P post kt τ bk)(hf:¬p->vc P post kf τ bk):vc P post (.split c kt kf) τ bk:=
 ⟨decide p,hc,fun h=>ht (oP h),fun h=>hf (LX h)⟩
def lR{c:C0}{kt kf:Tr}(β:Bool)(hc:c0 τ c=.bool β)(ht:β=true->vc P post kt τ bk)(hf:β=false->vc P post kf τ bk):vc P post (.split c kt kf) τ bk:=
 ⟨β,hc,ht,hf⟩
def aK{vs:List SW}{rs:List aG}(h:vs.map (oW τ)=rs:=by rfl):vc P (fun o=>ep o (.ret rs)) (.ret vs) τ bk:=by
 show aQ _ _;rw[h];exact aQ.refl _
def dJ{vs:List SW}{rs:List aG}(h:aQ (vs.map (oW τ)) rs):vc P (fun o=>ep o (.ret rs)) (.ret vs) τ bk:=h
def Jq{f:Nat}{args:List SW}{sh:List (Option Nat)}{as ts:List aG}(ha:aQ (args.map (oW τ)) as)(hd:aL P f as (.ret ts))(hs:ts.map aG.shape=sh.map some)(hk:vc P post k (τ++ts) bk):vc P post (.need (.call f args sh) op ty last k) τ bk:=
 .inl ⟨ts,⟨hs,hd.sub ha⟩,by have:=congrArg List.length hs;simpa[dP.ids]using this,hk⟩
def ao{d:Nat}{inits:List LV}(G:Type)(tys:G->List aG)(μ:G->Nat)(g0:G)(h0:aQ (inits.map (Ii τ)) (tys g0))(hl:∀g,(tys g).length=inits.length)
  (h:∀g,vc P post k (τ++tys g) (bk.take d++[fun ts=>∃g',aQ ts (tys g')/\μ g'<μ g])):vc P post (.loop d inits k) τ bk:=⟨G,tys,μ,g0,h0,hl,h⟩
def aW{d:Nat}{cT:List LV}{f:List aG->Prop}(hb:bk[d]?=some f)(h:f (cT.map (Ii τ))):vc P post (.back d cT) τ bk:=⟨f,hb,h⟩
end
open Go.RowKit (Below)
def tU(P:Program)(f:FuncId)(E sz:Nat)(pre post:List aG)(ts:List (List aE))(rs:List aG)(ts':List (List aE)):Prop:=
 (∀as w,(callFunc f as).run P w=.ok (.enter f as) w)/\ts'.length=ts.length/\(∀t∈ts',t.length=sz) /\
 ∀(M:Nat->Prop)(w:World)(g off cap:Nat)(cur:Array Value)(vs1 vs2:List Value),cX M w->M g->w.heap[g]?=some (.cells cur E (0,0)) ->
  off+ts.length*sz<=cur.size->ts.length<=cap->cap<=maxLen->ab M w ts.flatten ((cur.toList.drop off).take (ts.length*sz))->cG M w pre vs1->cG M w post vs2 ->
  Calls P f (vs1++.slice (some ⟨g,off,none⟩) ts.length cap::vs2).toArray w fun e w'=>∃cur' us,w.grownBy w' (some g)/\w'.heap[g]?=some (.cells cur' E (0,0))/\cur'.size=cur.size /\
   (∀j,(j<off\/off+ts.length*sz<=j)->cur'[j]?=cur[j]?)/\e=.returned (pack us)/\cG M w' rs us/\ab M w' ts'.flatten ((cur'.toList.drop off).take (ts.length*sz))
section
variable{P:Program}{N:Nat}{M0:dh}{w0 w:World}{s:St}{τ:Env}{ρ:Nat->Gh}{a:Act}
def Ra(args:List Arg)(bx:List (Nat×Bx))(t:Nat):(⟨args.mapIdx fun i a=>(i,dU i a),bx,[]⟩:St).t t=((args[t]?).map (dU t)).getD .junk:=by
 have hlook:∀(l:List Arg)(d:Nat),(look (l.mapIdx fun i a=>(d+i,dU (d+i) a)) t)=if d<=t then(l[t-d]?).map (dU t)else none:=by
  intro l
  induction l with
  | nil=>intro d;simp[look]
  | cons x l ih=>
    intro d;rw[xg];simp only[look,Nat.add_zero]
    have e:(l.mapIdx fun i a=>(d+(i+1),dU (d+(i+1)) a))=l.mapIdx fun i a=>(d+1+i,dU (d+1+i) a):=by
     congr 1;funext i a;rw[show d+(i+1)=d+1+i by omega]
    rw[e,ih (d+1)];by_cases h1:d=t
    ·subst h1;simp
    ·rw[if_neg h1];by_cases h2:d+1<=t
     ·rw[if_pos h2,if_pos O,show t-d=(t-(d+1))+1 by omega,List.getElem?_cons_succ]
     ·rw[if_neg h2,if_neg O]
 have:=hlook args 0;simp only[Nat.zero_add,bO,bR,Ta]at this;simp only[St.t,this]
def CK{f:FuncId}{fn:Func}{hints:Nat->Option Hint}{a1 a2:List Arg}{i1 i2:List In}{E sz:Nat}{ts ts':List (List aE)}{rs:List aG}(hm:P.follows .mixedOrders=true)(hok:rX P f=true)
  (hf:P.funcs[f]?=some fn) (hin1:ae In.Is a1 i1) (hin2:ae In.Is a2 i2) (hlo:QA 0 (a1++.lent E sz::a2)=some (a1.length,E,sz)) (hl:ts'.length=ts.length) (hts:∀t∈ts,t.length=sz) (hts':∀t∈ts',t.length=sz)
  (h:vc P (fun o=>o=.retr rs ts') (Mm P fn hints (a1++.lent E sz::a2)) (i1.map In.env++.rows ts::i2.map In.env) []):tU P f E sz (i1.map In.ty) (i2.map In.ty) ts rs ts':=by
 refine⟨bJ hok,hl,hts',fun M w g off cap cur vs1 vs2 hM hMg hg hfit hcap hmax hrep hv1 hv2=>?_⟩;unfold Mm at h;rw[hlo]at h;split at h
 ·rename_i c i E0 sz0 hb heq;simp only[aI,bQ]at heq;obtain⟨rfl,rfl,rfl⟩:=heq;split at h
  ·rename_i hlen;refine iE hf hb ?_;have hl1:a1.length=i1.length:=hin1.length;have hl2:a2.length=i2.length:=hin2.length;have hv1l:vs1.length=i1.length:=by rw[<-hv1.length];simp
   have hv2l:vs2.length=i2.length:=by rw[<-hv2.length];simp
   generalize hgh:(⟨0,.slice (some ⟨g,off,none⟩) ts.length cap,cur⟩:Gh)=gh
   have hO:∀k,(dh.mk (fun k=>M k/\k≠g) gh).O k↔k=g:=by
    intro k;subst hgh;simp[dh.O,Value.ownBlock,eq_comm]
   have hMs0:∀k,Ms (dh.mk (fun k=>M k/\k≠g) gh) (fun _=>gh) ⟨(a1++.lent E sz::a2).mapIdx fun i a=>(i,dU i a),[(0,.part E sz a1.length)],[]⟩ k↔M k:=by
    intro k
    constructor
    ·rintro(hk | ⟨b,x,h1,_,h3⟩)
     ·exact hk.1
     ·simp only[St.b,look]at h1;split at h1
      ·simp only[aI]at h1;subst h1 hgh;simp only[own,Value.ownBlock,aI]at h3;subst h3;exact hMg
      ·cases h1
    ·intro hk;by_cases hkg:k=g
     ·subst hkg;exact .inr ⟨0,.part E sz a1.length,by simp[St.b,look],by simp[St.s],by subst hgh;simp[own,Value.ownBlock]⟩
     ·exact .inl ⟨hk,hkg⟩
   have hMs:Ms (dh.mk (fun k=>M k/\k≠g) gh) (fun _=>gh) ⟨(a1++.lent E sz::a2).mapIdx fun i a=>(i,dU i a),[(0,.part E sz a1.length)],[]⟩=M:=funext fun k=>propext (hMs0 k);have hglt:g<w.heap.size:=(cK.1 hg).1;refine ji (M0:=dh.mk (fun k=>M k/\k≠g) gh) (w0:=w) hm c 0 0 1 (a1++.lent E sz::a2).length _ [] _ _ [] h (by simp;omega) (by intro x hx;cases hx) (aY _) (fun _=>gh) _ w _ ?_ ?_ si.noR ?_
   ·refine⟨⟨rfl,rfl,rfl,aY _,fun _ _ _=>rfl,fun x hx=>⟨fun hm=>(hM.2 x hx).1 hm.1,fun ho=>(hM.2 x hx).1 (by rw[(hO _).1 ho];exact hMg),(hM.2 x hx).2⟩⟩,?_,rfl,fun t=>?_,?_,?_,?_,?_,?_⟩
    ·simp at hlen|-;omega
    ·rw[hMs,Ra];cases hat:(a1++.lent E sz::a2)[t]? with
     | none=>trivial
     | some x=>
       have htl:t<(a1++.lent E sz::a2).length:=(dn.1 hat).1;simp only[eZ,List.length_cons]at htl
       have hval:((vs1++.slice (some ⟨g,off,none⟩) ts.length cap::vs2).toArray++Array.replicate (fn.ntmps-(vs1++.slice (some ⟨g,off,none⟩) ts.length cap::vs2).toArray.size) undef).getD t undef=(vs1++.slice (some ⟨g,off,none⟩) ts.length cap::vs2).getD t undef:=by
        rw[jr,vz (by simp;omega),cu];simp
       rw[hval,cu];simp only[cf,ei];by_cases h1:t<a1.length
       ·rw[fJ h1]at hat;rw[fJ O];obtain⟨y,hy,hix⟩:=hin1.get t x hat;have hvt:vs1[t]?=some (vs1[t]' O):=ay O;obtain⟨ty,hty,hrep1⟩:=hv1.get t _ hvt;rw[cC,hy]at hty;simp only[cf,aI]at hty;subst hty;rw[hvt];exact mr (by rw[fJ (by simp;omega),cC,hy];rfl) hix hrep1
       ·rw[fX O]at hat|-;by_cases h2:t=a1.length
        ·subst h2;rw[iY]at hat;simp only[List.getElem?_cons_zero,aI]at hat;subst hat;rw[hv1l,<-hl1,iY];simp only[List.getElem?_cons_zero,ei];refine⟨by simp[St.b,look],by subst hgh;rfl,rfl⟩
        ·have e1:t-a1.length=(t-a1.length-1)+1:=O
         have e2:t-vs1.length=(t-a1.length-1)+1:=O
         rw[e1,List.getElem?_cons_succ]at hat;rw[e2,List.getElem?_cons_succ];obtain⟨y,hy,hix⟩:=hin2.get _ x hat;have hvt:vs2[t-a1.length-1]?=some (vs2[t-a1.length-1]' O):=ay O;obtain⟨ty,hty,hrep1⟩:=hv2.get _ _ hvt;rw[cC,hy]at hty;simp only[cf,aI]at hty;subst hty;rw[hvt];exact mr (by rw[fX (by simp;omega),aR,<-hl1,e1,List.getElem?_cons_succ,cC,hy];rfl) hix hrep1
    ·intro b x hbx;rw[hMs];simp only[St.b,look]at hbx;split at hbx
     ·simp only[aI]at hbx;subst hbx;refine⟨ts,_,?_,⟨?_,.inr ⟨g,off,cap,cur,?_,hg,hcap,hmax,hfit,rfl⟩⟩,hts,hrep,?_,?_⟩
      ·rw[fX (by simp;omega),aR,hl1,iY];rfl
      ·rw[List.length_take,dA,fI (xs:=cur)];exact Nat.min_eq_left O
      ·subst hgh;rfl
      ·subst hgh;rfl
      ·intro g2 off2 len2 cap2 hv cur2 hg2;subst hgh;simp only[iz,aI,kH,ek]at hv;obtain⟨⟨rfl,rfl⟩,rfl,rfl⟩:=hv;rw[hg]at hg2;simp only[aI,qn,ek]at hg2;subst hg2;exact⟨rfl,fun _ _=>rfl⟩
     ·cases hbx
    ·intro b b' x x' k h1 h2 _ _;simp only[St.b,look]at h1 h2;split at h1
     ·split at h2
      ·rename_i e1 e2;rw[<-e1,<-e2]
      ·cases h2
     ·cases h1
    ·intro b x k h1 h2;simp only[St.b,look]at h1;split at h1
     ·simp only[aI]at h1;subst h1;have:k=g:=by subst hgh;simp only[own,Value.ownBlock,aI]at h2;exact h2.symm
      subst this;exact⟨.inr ((hO k).2 rfl),hglt⟩
     ·cases h1
    ·rintro k ⟨hk,hne⟩ (ho | ho)
     ·exact ir.2 ho (hM.1 k hk)
     ·exact hne ((hO k).1 ho)
    ·intro b E' sz' cid hbx;rfl
   ·intro c v a w' hp;cases hp
   ·intro ex nb s dec m bk' ρ a w' _ _ hv _ hs
    have key:vc P (fun o=>o=.retr rs ts') (match(yk P s fn.results.toList).run s with
      | some (vs,l)=>Lu s E sz vs l
      | none=>.fail 1008) (i1.map In.env++.rows ts::i2.map In.env++m) bk'->a.defers=[]/\∃v,(results fn a.tmps).run P w'=.ok v w'/\∃cur' us,w.grownBy w' (some g)/\w'.heap[g]?=some (.cells cur' E (0,0))/\cur'.size=cur.size /\
        (∀j,(j<off\/off+ts.length*sz<=j)->cur'[j]?=cur[j]?)/\Ending.returned v=.returned (pack us)/\cG M w' rs us/\ab M w' ts'.flatten ((cur'.toList.drop off).take (ts.length*sz)):=by
     clear hv;intro hv;split at hv
     ·rename_i vs' l hq;unfold Lu at hv;split at hv
      ·rename_i E' sz' cid hb0;split at hv
       ·rename_i hc;obtain⟨rfl,rfl,hs0,hl0⟩:=hc;obtain⟨ts2,hcid,hpo⟩:=hv;have hpo:Out.retr _ ts2=Out.retr rs ts':=hpo;simp only[Out.retr.injEq]at hpo;obtain⟨hrs,rfl⟩:=hpo;have hgh0:=hs.pt 0 E' sz' cid hb0;have hown0:own ρ 0 (.part E' sz' cid)=some g:=by simp only[own,hgh0];subst hgh;rfl
        have hS:bW (dh.mk (fun k=>M k/\k≠g) gh) ρ s l M:=by
         refine⟨fun k hk=>?_,fun b x k h1 h2 h3 hk=>?_⟩
         ·by_cases hkg:k=g
          ·subst hkg;exact .inr ⟨0,_,hb0,hs0,hown0⟩
          ·exact .inl ⟨hk,hkg⟩
         ·by_cases hkg:k=g
          ·subst hkg;have:=hs.inj b 0 x _ k h1 hb0 h2 hown0;subst this;rcases h3 with h3 | h3
           ·rw[hs0]at h3;cases h3
           ·have:l.contains 0=true:=by simpa using h3
            rw[hl0]at this;cases this
          ·exact hs.old k ⟨hk,hkg⟩ (hs.lo b x k h1 h2).1
        obtain⟨us,hr,hrepr⟩:=lu hs hq hS;obtain⟨ts3,xs,hcid3,⟨hxl,hown⟩,hlen3,hrep3,_,hfr⟩:=hs.bx 0 _ hb0;rw[hcid]at hcid3;simp only[aI,aG.rows.injEq]at hcid3;subst hcid3;rw[hgh0]at hown hfr;have hval:gh.val=.slice (some ⟨g,off,none⟩) ts.length cap:=by subst hgh;rfl
        have hcur:gh.cur=cur:=by subst hgh;rfl
        rcases hown with⟨_,c,hv⟩ | ⟨g2,off2,cap2,cur2,hv,hg2,hnc,hcm,hfit2,htake⟩
        ·rw[hval]at hv;simp at hv
        ·rw[hval]at hv;simp only[iz,aI,kH,ek]at hv;obtain⟨⟨rfl,rfl⟩,hll,rfl⟩:=hv;obtain⟨hf1,hf2⟩:=hfr g off ts.length cap hval cur2 hg2;rw[hcur]at hf1 hf2;refine⟨hs.df,_,jH fn a.tmps us hr,cur2,us,?_,hg2,hf1,hf2,rfl,by rw[<-hrs];exact hrepr,?_⟩
         ·have hb:=hs.below;exact⟨hb.os,hb.tape,hb.output,hb.size,fun k hk hne=>hb.block k hk fun ho=>hne (by rw[(hO k).1 ho])⟩
         ·rw[hll,htake];exact hrep3.mono hS.gj
       ·exact hv.elim
      ·exact hv.elim
     ·exact hv.elim
    cases ex with
    | normal=>exact key hv
    | ret=>exact key hv
    | exit id=>exact hv.elim
  ·exact h.elim
 ·exact h.elim
end
section
variable{P:Program}{post:Out->Prop}{bk:List (List aG->Prop)}{τ:Env}{op:Op}{ty:Nat}{last:Bool}{k:Tr}
def sC{c:Call}{f:FuncId}{E sz:Nat}{pre po:List aG}{ts ts':List (List aE)}{rs:List aG}(hc:c.callee=.value (.func f))(h:tU P f E sz pre po ts rs ts'):Sz P (.call c) ty E sz pre po ts rs ts':=by
 refine⟨h.2.1,h.2.2.1,?_⟩;intro M w a o c' K Q g off cap cur vs1 vs2 ho ht hc' hargs hM hMg hg hfit hcap hmax hrep h1 h2 hk;cases hc';unfold Oper.wp;rw[xF (cvs:=[]) ho hc rfl h.1,BQ,cM,hargs];refine(h.2.2.2 M w g off cap cur vs1 vs2 hM hMg hg hfit hcap hmax hrep h1 h2).mono ?_;rintro e w' ⟨cur',us,hgr,hg',hs,hout,rfl,hr,hr'⟩;exact hk w' cur' us hgr hg' hs hout hr hr'
def WL{x y:Operand}{T U E sz2 b2:Nat}{src ts:List (List aE)}(hT:dI P T=some (E,1,b2))(hle:src.length<=ts.length)(hsrc:∀t∈src,t.length=1)(hts:∀t∈ts,t.length=1) :
  Sz P (.call ⟨.builtin .copy,#[x,y],#[T,U]⟩) ty E 1 [] [.one (.slice 1 src)] ts [.one (.int .i64 src.length)] (src++ts.drop src.length):=by
 obtain⟨ie,hu,hie,hies,_⟩:=cg hT;have hsz:(P.info? E).map (·.size)=some 1:=by rw[hie];simp[hies]
 refine⟨by simp;omega,fun t ht=>?_,?_⟩
 ·rcases List.mem_append.1 ht with ht | ht
  ·exact hsrc t ht
  ·exact hts t (List.mem_of_mem_drop ht)
 ·intro M w a o c' K Q g off cap cur vs1 vs2 ho ht hc' hargs hM hMg hg hfit hcap hmax hrep h1 h2 hk;cases hc';cases vs1 with
  | cons v vs=>exact h1.elim
  | nil=>
    have hx:a.eval x=.slice (some ⟨g,off,none⟩) ts.length cap:=by simpa using congrArg List.head? hargs
    have hy:vs2=[a.eval y]:=by
     have:=congrArg List.tail hargs
     simpa using this.symm
    subst hy;have hS:=IH h2.1;rw[Nat.mul_one]at hfit hrep hk;cases hS with
    | nil c hv hus=>
      subst hus;have hrun:=run_copy_none (P:=P) w T U o.type E (some ⟨g,off,none⟩) none ts.length cap 0 c hu hsz (by simp)
      have hwp:o.wp P a w K Q=K (a.put o.dst (goInt 0)) w:=by
       unfold Oper.wp;simp[execOp,ho,resolve,invoke,builtin,hx,hv,hrun,Result.andThen,Oper.upon]
      rw[hwp];exact hk w cur [.int .i64 0] ⟨rfl,rfl,rfl,aY _,fun _ _ _=>rfl⟩ hg rfl (fun _ _=>rfl) ⟨⟨rfl,rfl⟩,trivial⟩ (by simpa using hrep)
    | some ad c news hv hl hn hr hs=>
      rw[Nat.mul_one]at hl;have hrun:=run_copy_row (P:=P) w T U o.type E g off ts.length cap ad src.length c cur E news hu hsz hg (by rw[hl];exact(Nat.min_eq_left hle).symm) hn O hr.one
      have hwp:o.wp P a w K Q=K (a.put o.dst (goInt news.length)) (w.setRow g (cur.toList.take off++(news++cur.toList.drop (off+news.length))).toArray):=by
       unfold Oper.wp;simp[execOp,ho,resolve,invoke,builtin,hx,hv,hrun,Result.andThen,Oper.upon]
      rw[hwp];have hcl:cur.toList.length=cur.size:=fI;have hus:(ts.take src.length).length=src.length:=by rw[List.length_take];omega
      have hsp:=Dr (w:=w) (M:=M) (sz:=1) (ts:=ts) (us:=ts.take src.length) (us':=src) (n:=0) hts (by rw[hus,eF]) (by rw[hus];omega) (by rw[hus]) hs (by simpa using hrep) hr;rw[hus]at hsp;refine hk _ _ [.int .i64 news.length] ⟨rfl,rfl,rfl,by simp,fun k _ hk=>dC w g k _ (by rintro rfl;exact hk rfl)⟩ (cJ w _ _ _ _ _ hg) (by simp;omega) ?_ ⟨⟨by rw[hl],rfl⟩,trivial⟩ ?_
      ·intro j hj;rw[BG,<-vK];simp only[tX,eo,List.getElem?_drop,List.length_take]
       grind
      ·have e1:(cur.toList.take off++(news++cur.toList.drop (off+news.length))).toArray.toList.drop off=news++cur.toList.drop (off+news.length):=by
        show List.drop off (cur.toList.take off++(news++cur.toList.drop (off+news.length)))=_;rw[xY (by rw[List.length_take];omega),tk (by rw[List.length_take];omega),List.nil_append]
       rw[e1]
       have e2:(news++cur.toList.drop (off+news.length)).take ts.length=List.take (0*1) ((cur.toList.drop off).take ts.length)++news++List.drop (0*1+src.length*1) ((cur.toList.drop off).take ts.length):=by
        apply List.ext_getElem?;intro j;simp only[tX,eo,List.getElem?_drop,eZ,List.length_take,dA,hl]
        grind
       rw[e2];simp only[ma,List.nil_append,Nat.zero_add,Nat.mul_one,oV]at hsp|-;refine ab.mono ?_ hsp;intro k ob hnk hob _;exact⟨hnk,by rw[dC w g k _ (by rintro rfl;exact hnk hMg)];exact hob⟩
def Wo{cid E sz n:Nat}{view:Option (C0×C0)}{as bs:List SW}{sh:List (Option Nat)}{ts us us' vs:List (List aE)}{rs:List aG}(h1:τ[cid]?=some (.rows ts))(h2:ZZ τ view ts n us)(hne:us≠[])(hs:rs.map aG.shape=sh.map some)
  (hr:Sz P op ty E sz (as.map (oW τ)) (bs.map (oW τ)) us rs us') (hv:ts.take n++us'++ts.drop (n+us.length)=vs) (hk:vc P post k (τ++(rs++[.rows vs])) bk):vc P post (.need (.rop cid E sz view as bs sh) op ty last k) τ bk:=
 .inl ⟨rs++[.rows vs],⟨ts,us,us',rs,n,h1,h2,hne,hs,hr,by rw[hv]⟩,by have:=congrArg List.length hs;simpa[dP.ids]using this,hk⟩
def bJ3{cid n m:Nat}{lo hi mx:C0}{ts:List (List aE)}{k1 k2 k3:IntKind}(h1:τ[cid]?=some (.rows ts))(h2:c0 τ lo=.int k1 n)(h3:c0 τ hi=.int k2 m)(h4:c0 τ mx=.int k3 m)(hnm:n<m)(hm:m<=ts.length)(hk:vc P post k τ bk):vc P post (.need (.view cid lo hi mx) op ty last k) τ bk:=
 .inl ⟨[],⟨ts,k1,k2,k3,n,m,h1,h2,h3,h4,hnm,hm,rfl⟩,rfl,by rw[cM];exact hk⟩
def xH{vs:List SW}{cid:Nat}{rs:List aG}{ts:List (List aE)}(h1:τ[cid]?=some (.rows ts))(h:vs.map (oW τ)=rs):vc P (fun o=>o=.retr rs ts) (.retr vs cid) τ bk:=by
 refine⟨ts,h1,?_⟩;show Out.retr _ _=_;rw[h]
end
open Go.RowKit (Below)
def Sv(P:Program)(fn:Func)(hints:Nat->Option Hint)(args:List Arg)(T n:Nat):Tr:=
 match fn.body with
 | some c=>
   if args.length+1<=fn.ntmps then
   exec P fn.ntmps hints c 0 0 1 (args.length+1) ⟨(args.mapIdx fun i a=>(i,dU i a))++[(args.length,.w (.one (.rp 0 n (.k (.int .i64 0)) 0)))],[(0,.part T n args.length)],[]⟩ [] fun e nb ni s _=>match e with
    | .exit _=>.fail 1007
    | _=>match(yk P s fn.results.toList).run s with
      | some (vs,l)=>Lu s T n vs l
      | none=>.fail 1008
   else .fail 1009
 | _=>.fail 1006
def tS(P:Program)(f:FuncId)(T:Nat)(pre:List aG)(cs:List aE)(rs:List aG)(cs':List aE):Prop:=
 ∀(M:Nat->Prop)(w:World)(g:Nat)(cur:Array Value)(vs1:List Value),cX M w->M g->w.heap[g]?=some (.cells cur T (0,0))->ab M w cs cur.toList->cG M w pre vs1 ->
  Calls P f (vs1++[Value.pointer (some ⟨g,0,none⟩)]).toArray w fun e w'=>∃cur' us,w.grownBy w' (some g)/\w'.heap[g]?=some (.cells cur' T (0,0))/\e=.returned (pack us)/\cG M w' rs us/\ab M w' cs' cur'.toList
def OL{α:Type}(l m:List (Nat×α))(t:Nat):look (l++m) t=(look l t).or (look m t):=by
 induction l with
 | nil=>rfl
 | cons x l ih=>
   obtain⟨k,y⟩:=x;rw[List.cons_append];simp only[look];split
   ·rfl
   ·exact ih
section
variable{P:Program}
def Oj{f:FuncId}{fn:Func}{hints:Nat->Option Hint}{a1:List Arg}{i1:List In}{T n:Nat}{cs cs':List aE}{rs:List aG}(hm:P.follows .mixedOrders=true)
  (hf:P.funcs[f]?=some fn) (hin1:ae In.Is a1 i1) (hn:cs.length=n)
  (hn':cs'.length=n) (h:vc P (fun o=>o=.retr rs [cs']) (Sv P fn hints a1 T n) (i1.map In.env++[.rows [cs]]) []):tS P f T (i1.map In.ty) cs rs cs':=by
 intro M w g cur vs1 hM hMg hg hrep hv1;unfold Sv at h;split at h
 ·rename_i c hb;split at h
  ·rename_i hlen;refine iE hf hb ?_;have hl1:a1.length=i1.length:=hin1.length;have hv1l:vs1.length=i1.length:=by rw[<-hv1.length];simp
   have hcl:cur.size=n:=by have:=hrep.length;simp at this;omega
   generalize hgh:(⟨0,.slice (some ⟨g,0,none⟩) 1 1,cur⟩:Gh)=gh;generalize hs0:(⟨(a1.mapIdx fun i a=>(i,dU i a))++[(a1.length,.w (.one (.rp 0 n (.k (.int .i64 0)) 0)))],[(0,.part T n a1.length)],[]⟩:St)=s0 at h|-
   have hbz:∀b x,s0.b b=some x->b=0/\x=.part T n a1.length:=by
    intro b x hbx;subst hs0;simp only[St.b,look]at hbx;split at hbx
    ·rename_i e;simp only[aI]at hbx;exact⟨e.symm,hbx.symm⟩
    ·cases hbx
   have hb00:s0.b 0=some (.part T n a1.length):=by subst hs0;simp[St.b,look]
   have hss:s0.s 0=false:=by subst hs0;simp[St.s]
   have hO:∀k,(dh.mk (fun k=>M k/\k≠g) gh).O k↔k=g:=by
    intro k;subst hgh;simp[dh.O,Value.ownBlock,eq_comm]
   have hown:∀E z c,own (fun _=>gh) 0 (.part E z c)=some g:=by intro E z c;subst hgh;rfl
   have hMs:Ms (dh.mk (fun k=>M k/\k≠g) gh) (fun _=>gh) s0=M:=by
    funext k
    apply propext
    constructor
    ·rintro(hk | ⟨b,x,h1,_,h3⟩)
     ·exact hk.1
     ·obtain⟨rfl,rfl⟩:=hbz b x h1;rw[hown]at h3;simp only[aI]at h3;subst h3;exact hMg
    ·intro hk;by_cases hkg:k=g
     ·subst hkg;exact .inr ⟨0,_,hb00,hss,hown _ _ _⟩
     ·exact .inl ⟨hk,hkg⟩
   have hglt:g<w.heap.size:=(cK.1 hg).1
   have hst:∀t,s0.t t=if t<a1.length then((a1[t]?).map (dU t)).getD .junk else if t=a1.length then .w (.one (.rp 0 n (.k (.int .i64 0)) 0))else .junk:=by
    intro t;have h1:=Ra a1 [] t;subst hs0;simp only[St.t]at h1|-;rw[OL];split
    ·rename_i hlt;rw[ay hlt]at h1|-;simp only[cf,ei]at h1|-;cases hk:look (a1.mapIdx fun i a=>(i,dU i a)) t with
     | none=>
       exfalso
       have:∀(l:List Arg)(d:Nat),d<=t->t<d+l.length->look (l.mapIdx fun i a=>(d+i,dU (d+i) a)) t≠none:=by
        intro l
        induction l with
        | nil=>intro d h1 h2;simp at h2;omega
        | cons x l ih=>
          intro d h1 h2;rw[xg];simp only[look,Nat.add_zero];split
          ·simp
          ·rename_i hne
           have e:(l.mapIdx fun i a=>(d+(i+1),dU (d+(i+1)) a))=l.mapIdx fun i a=>(d+1+i,dU (d+1+i) a):=by
            congr 1;funext i a;rw[show d+(i+1)=d+1+i by omega]
           rw[e];exact ih (d+1) O (by simp only[List.length_cons]at h2;omega)
       have h3:=this a1 0 (bO _) O;simp only[Nat.zero_add]at h3;exact h3 hk
     | some y=>rw[hk]at h1;simpa using h1
    ·rename_i hge
     have hnone:look (a1.mapIdx fun i a=>(i,dU i a)) t=none:=by
      have:∀(l:List Arg)(d:Nat),d+l.length<=t->look (l.mapIdx fun i a=>(d+i,dU (d+i) a)) t=none:=by
       intro l
       induction l with
       | nil=>intro d h;rfl
       | cons x l ih=>
         intro d h2;rw[xg];simp only[List.length_cons]at h2;simp only[look,Nat.add_zero];rw[if_neg O]
         have e:(l.mapIdx fun i a=>(d+(i+1),dU (d+(i+1)) a))=l.mapIdx fun i a=>(d+1+i,dU (d+1+i) a):=by
          congr 1;funext i a;rw[show d+(i+1)=d+1+i by omega]
         rw[e];exact ih (d+1) O
      have h3:=this a1 0 O
      simpa only[Nat.zero_add]using h3
     rw[hnone];simp only[Option.none_or,look];by_cases e:a1.length=t
     ·rw[if_pos e,if_pos e.symm];rfl
     ·rw[if_neg e,if_neg (fun x=>e x.symm)];rfl
   refine ji (M0:=dh.mk (fun k=>M k/\k≠g) gh) (w0:=w) hm c 0 0 1 (a1.length+1) _ [] _ _ [] h (by simp[hl1]) (by intro x hx;cases hx) (aY _) (fun _=>gh) _ w _ ?_ ?_ si.noR ?_
   ·refine⟨⟨rfl,rfl,rfl,aY _,fun _ _ _=>rfl,fun x hx=>⟨fun hm=>(hM.2 x hx).1 hm.1,fun ho=>(hM.2 x hx).1 (by rw[(hO _).1 ho];exact hMg),(hM.2 x hx).2⟩⟩,?_,rfl,fun t=>?_,?_,?_,?_,?_,?_⟩
    ·simp at hlen|-;omega
    ·rw[hMs,hst]
     have hval:t<a1.length+1->((vs1++[Value.pointer (some ⟨g,0,none⟩)]).toArray++Array.replicate (fn.ntmps-(vs1++[Value.pointer (some ⟨g,0,none⟩)]).toArray.size) undef).getD t undef=(vs1++[Value.pointer (some ⟨g,0,none⟩)]).getD t undef:=by
      intro ht;rw[jr,vz (by simp;omega),cu];simp
     split
     ·rename_i h1;rw[hval O,cu,fJ O];have hat:a1[t]?=some a1[t]:=ay h1;rw[hat];simp only[cf,ei];obtain⟨y,hy,hix⟩:=hin1.get t _ hat;have hvt:vs1[t]?=some (vs1[t]' O):=ay O;obtain⟨ty,hty,hrep1⟩:=hv1.get t _ hvt;rw[cC,hy]at hty;simp only[cf,aI]at hty;subst hty;rw[hvt];exact mr (by rw[fJ (by simp;omega),cC,hy];rfl) hix hrep1
     ·split
      ·rename_i h1 h2;subst h2;rw[hval O,cu,fX O,hv1l,<-hl1,iY];simp only[List.getElem?_cons_zero,ei];exact⟨by show(s0.b 0).isSome=true;rw[hb00];rfl,g,0,1,1,.i64,0,by subst hgh;rfl,rfl,by simp⟩
      ·trivial
    ·intro b x hbx;obtain⟨rfl,rfl⟩:=hbz b x hbx;rw[hMs];refine⟨[cs],cur.toList,?_,⟨by simp[hcl],.inr ⟨g,0,1,cur,?_,hg,aY _,by simp[maxLen],by simp[hcl],?_⟩⟩,by intro t ht;rw[fH.1 ht];exact hn,by simpa using hrep,?_,?_⟩
     ·rw[fX (by simp;omega),aR,hl1,iY];rfl
     ·subst hgh;rfl
     ·rw[show([cs]:List (List aE)).length*n=cur.toList.length by simp[hcl],eF]
      first | exact(List.take_of_length_le (by simp)).symm | exact List.take_of_length_le (by simp)
     ·subst hgh;rfl
     ·intro g2 off2 len2 cap2 hv cur2 hg2;subst hgh;simp only[iz,aI,kH,ek]at hv;obtain⟨⟨rfl,rfl⟩,rfl,rfl⟩:=hv;rw[hg]at hg2;simp only[aI,qn,ek]at hg2;subst hg2;exact⟨rfl,fun _ _=>rfl⟩
    ·intro b b' x x' k h1 h2 _ _;rw[(hbz b x h1).1,(hbz b' x' h2).1]
    ·intro b x k h1 h2;obtain⟨rfl,rfl⟩:=hbz b x h1;rw[hown]at h2;simp only[aI]at h2;subst h2;exact⟨.inr ((hO g).2 rfl),hglt⟩
    ·rintro k ⟨hk,hne⟩ (ho | ho)
     ·exact ir.2 ho (hM.1 k hk)
     ·exact hne ((hO k).1 ho)
    ·intro b E' sz' cid hbx;rfl
   ·intro c v a w' hp;cases hp
   ·intro ex nb s dec m bk' ρ a w' _ _ hv _ hs
    have key:vc P (fun o=>o=.retr rs [cs']) (match(yk P s fn.results.toList).run s with
      | some (vs,l)=>Lu s T n vs l
      | none=>.fail 1008) (i1.map In.env++[.rows [cs]]++m) bk'->a.defers=[]/\∃v,(results fn a.tmps).run P w'=.ok v w'/\∃cur' us,w.grownBy w' (some g)/\w'.heap[g]?=some (.cells cur' T (0,0))/\Ending.returned v=.returned (pack us)/\cG M w' rs us/\ab M w' cs' cur'.toList:=by
     clear hv;intro hv;split at hv
     ·rename_i vs' l hq;unfold Lu at hv;split at hv
      ·rename_i E' sz' cid hb0;split at hv
       ·rename_i hc;obtain⟨rfl,rfl,hs0,hl0⟩:=hc;obtain⟨ts2,hcid,hpo⟩:=hv;have hpo:Out.retr _ ts2=Out.retr rs [cs']:=hpo;simp only[Out.retr.injEq]at hpo;obtain⟨hrs,rfl⟩:=hpo;have hgh0:=hs.pt 0 E' sz' cid hb0;have hown0:own ρ 0 (.part E' sz' cid)=some g:=by simp only[own,hgh0];subst hgh;rfl
        have hS:bW (dh.mk (fun k=>M k/\k≠g) gh) ρ s l M:=by
         refine⟨fun k hk=>?_,fun b x k h1 h2 h3 hk=>?_⟩
         ·by_cases hkg:k=g
          ·subst hkg;exact .inr ⟨0,_,hb0,hs0,hown0⟩
          ·exact .inl ⟨hk,hkg⟩
         ·by_cases hkg:k=g
          ·subst hkg;have:=hs.inj b 0 x _ k h1 hb0 h2 hown0;subst this;rcases h3 with h3 | h3
           ·rw[hs0]at h3;cases h3
           ·have:l.contains 0=true:=by simpa using h3
            rw[hl0]at this;cases this
          ·exact hs.old k ⟨hk,hkg⟩ (hs.lo b x k h1 h2).1
        obtain⟨us,hr,hrepr⟩:=lu hs hq hS;obtain⟨ts3,xs,hcid3,⟨hxl,hown⟩,hlen3,hrep3,_,hfr⟩:=hs.bx 0 _ hb0;rw[hcid]at hcid3;simp only[aI,aG.rows.injEq]at hcid3;subst hcid3;rw[hgh0]at hown hfr;have hval:gh.val=.slice (some ⟨g,0,none⟩) 1 1:=by subst hgh;rfl
        have hcur:gh.cur=cur:=by subst hgh;rfl
        rcases hown with⟨_,c,hv⟩ | ⟨g2,off2,cap2,cur2,hv,hg2,hnc,hcm,hfit2,htake⟩
        ·rw[hval]at hv;simp at hv
        ·rw[hval]at hv;simp only[iz,aI,kH,ek]at hv;obtain⟨⟨rfl,rfl⟩,hll,rfl⟩:=hv;obtain⟨hf1,hf2⟩:=hfr g 0 1 1 hval cur2 hg2;rw[hcur]at hf1 hf2;refine⟨hs.df,_,jH fn a.tmps us hr,cur2,us,?_,hg2,rfl,by rw[<-hrs];exact hrepr,?_⟩
         ·have hb:=hs.below;exact⟨hb.os,hb.tape,hb.output,hb.size,fun k hk hne=>hb.block k hk fun ho=>hne (by rw[(hO k).1 ho])⟩
         ·have h3:=hrep3.mono hS.gj;rw[<-htake]at h3;have hc2:cur2.toList.length=sz':=by simp[hf1,hcl]
          simpa[List.take_of_length_le,hc2]using h3
       ·exact hv.elim
      ·exact hv.elim
     ·exact hv.elim
    cases ex with
    | normal=>exact key hv
    | ret=>exact key hv
    | exit id=>exact hv.elim
  ·exact h.elim
 ·exact h.elim
end
open Go
def aB(l:List Nat)(N:Nat)(i:Nat):Nat:=l.getD i (N+(i-l.length))
structure Rn(ρ:Nat->Nat)(τ0 τ:Env):Prop where
 g:∀i,τ[ρ i]?=τ0[i]?
 n:∀j,ρ (τ0.length+j)=τ.length+j
def Rn.app{ρ:Nat->Nat}{τ0 τ a:Env}(h:Rn ρ τ0 τ):Rn ρ (τ0++a) (τ++a):=by
 refine⟨fun i=>?_,fun j=>by rw[eZ,eZ,Nat.add_assoc,Nat.add_assoc];exact h.n _⟩;rcases Nat.lt_or_ge i τ0.length with hi | hi
 ·have hg:=h.g i;rw[ay hi]at hg;rw[fJ (dn.1 hg).1,hg,fJ hi,ay hi]
 ·obtain⟨j,rfl⟩:∃j,i=τ0.length+j:=⟨i-τ0.length,O⟩
  rw[h.n,fX O,fX O,wm,wm]
def Rn.of{l:List Nat}{N:Nat}{τ0 τ:Env}(hl:l.length=τ0.length)(hN:τ.length=N)(h:l.map (τ[·]?)=τ0.map some):Rn (aB l N) τ0 τ:=by
 subst hN;refine⟨fun i=>?_,fun j=>by rw[aB,cu,fD O,<-hl,wm];rfl⟩;rw[aB,cu];rcases Nat.lt_or_ge i l.length with hi | hi
 ·have:=congrArg (·[i]?) h;simp only[cC,ay hi,ay (show i<τ0.length by omega),cf,aI]at this;rw[ay hi,ei,this,ay (show i<τ0.length by omega)]
 ·rw[fD hi,Option.getD_none,fD O,fD O]
section
variable{ρ:Nat->Nat}{τ0 τ:Env}
end
def Tr.part:Tr->List Bool->Tr
 | .need nd op ty last k,b::l=>k.part (b::l)
 | .loop d is k,b::l=>k.part (b::l)
 | .split _ kt kf,b::l=>if b then kt.part l else kf.part l
 | t,_=>t
section
variable{P:Program}{T U ty:TypeId}{x y:Operand}{a b:Int}
def dj{n:Int}(h1:-9223372036854775808<=n:=by omega)(h2:n<9223372036854775808:=by omega):IntKind.i64.wrap n=n:=by rw[IntKind.wrap_i64];omega
def FL{n:Int}(h1:0<=n:=by omega)(h2:n<18446744073709551616:=by omega):IntKind.u64.wrap n=n:=by rw[qY];omega
def Re{n:Int}(h1:0<=n)(h2:n<4294967296):IntKind.u32.wrap n=n:=by rw[IntKind.wrap_u32];omega
def NT{n:Int}(h1:0<=n:=by omega)(h2:n<256:=by omega):IntKind.u8.wrap n=n:=by rw[IntKind.wrap_u8];omega
def aC(h1:-9223372036854775808<=a+b:=by omega)(h2:a+b<9223372036854775808:=by omega):af P (.binOp .add T x y U) ty [.one (.int .i64 a),.one (.int .i64 b)] (.one (.int .i64 (a+b))):=dp (dj h1 h2)
def aJ(h1:-9223372036854775808<=a-b:=by omega)(h2:a-b<9223372036854775808:=by omega):af P (.binOp .sub T x y U) ty [.one (.int .i64 a),.one (.int .i64 b)] (.one (.int .i64 (a-b))):=mv (dj h1 h2)
def mK(h1:-9223372036854775808<=a*b:=by omega)(h2:a*b<9223372036854775808:=by omega):af P (.binOp .mul T x y U) ty [.one (.int .i64 a),.one (.int .i64 b)] (.one (.int .i64 (a*b))):=qu (dj h1 h2)
def iD(h0:0<=a:=by omega)(h1:0<b:=by omega)(h2:a<9223372036854775808:=by omega):af P (.binOp .quo T x y U) ty [.one (.int .i64 a),.one (.int .i64 b)] (.one (.int .i64 (a/b))):=py O (by
 have h3:a/b<=a:=Int.ediv_le_self b h0;have h4:0<=a/b:=KQ h0 O;rw[pI h0,dj])
def ri{k:IntKind}(hu:∃d,P.underlying T=some d)(hd:P.underlying U=some (.int .i64))(h1:-9223372036854775808<=a:=by omega)(h2:a<9223372036854775808:=by omega):af P (.convert T U x) ty [.one (.int k a)] (.one (.int .i64 a)):=jD hu hd (dj h1 h2)
def It(h1:-9223372036854775808<=-a:=by omega)(h2:-a<9223372036854775808:=by omega):af P (.unOp .neg T x) ty [.one (.int .i64 a)] (.one (.int .i64 (-a))):=aK4 (by rw[Int.zero_sub];exact dj h1 h2)
def Ve(h1:0<=a+b:=by omega)(h2:a+b<18446744073709551616:=by omega):af P (.binOp .add T x y U) ty [.one (.int .u64 a),.one (.int .u64 b)] (.one (.int .u64 (a+b))):=dp (FL h1 h2)
def Wf(h1:0<=a-b:=by omega)(h2:a-b<18446744073709551616:=by omega):af P (.binOp .sub T x y U) ty [.one (.int .u64 a),.one (.int .u64 b)] (.one (.int .u64 (a-b))):=mv (FL h1 h2)
def VP(h1:0<=a*b:=by omega)(h2:a*b<18446744073709551616:=by omega):af P (.binOp .mul T x y U) ty [.one (.int .u64 a),.one (.int .u64 b)] (.one (.int .u64 (a*b))):=qu (FL h1 h2)
def Im(h0:0<=a:=by omega)(h1:0<b:=by omega)(h2:a<18446744073709551616:=by omega):af P (.binOp .quo T x y U) ty [.one (.int .u64 a),.one (.int .u64 b)] (.one (.int .u64 (a/b))):=py O (by
 have h3:a/b<=a:=Int.ediv_le_self b h0;have h4:0<=a/b:=KQ h0 O;rw[pI h0,FL])
def rk{k:IntKind}(hu:∃d,P.underlying T=some d)(hd:P.underlying U=some (.int .u64))(h1:0<=a:=by omega)(h2:a<18446744073709551616:=by omega):af P (.convert T U x) ty [.one (.int k a)] (.one (.int .u64 a)):=jD hu hd (FL h1 h2)
def mD(h1:0<=a+b:=by omega)(h2:a+b<4294967296:=by omega):af P (.binOp .add T x y U) ty [.one (.int .u32 a),.one (.int .u32 b)] (.one (.int .u32 (a+b))):=dp (Re h1 h2)
def mL(h1:0<=a-b:=by omega)(h2:a-b<4294967296:=by omega):af P (.binOp .sub T x y U) ty [.one (.int .u32 a),.one (.int .u32 b)] (.one (.int .u32 (a-b))):=mv (Re h1 h2)
def pU{k:IntKind}(hu:∃d,P.underlying T=some d)(hd:P.underlying U=some (.int .u32))(h1:0<=a:=by omega)(h2:a<4294967296:=by omega):af P (.convert T U x) ty [.one (.int k a)] (.one (.int .u32 a)):=jD hu hd (Re h1 h2)
def Nx(h1:0<=a+b:=by omega)(h2:a+b<256:=by omega):af P (.binOp .add T x y U) ty [.one (.int .u8 a),.one (.int .u8 b)] (.one (.int .u8 (a+b))):=dp (NT h1 h2)
def FU(h1:0<=a-b:=by omega)(h2:a-b<256:=by omega):af P (.binOp .sub T x y U) ty [.one (.int .u8 a),.one (.int .u8 b)] (.one (.int .u8 (a-b))):=mv (NT h1 h2)
variable{k:IntKind}
def dd(h0:0<=a:=by omega)(h1:0<b:=by omega):af P (.binOp .rem T x y U) ty [.one (.int k a),.one (.int k b)] (.one (.int k (a%b))):=Ea O (uZ h0)
def bK:af P (.binOp .eql T x y U) ty [.one (.int k a),.one (.int k b)] (.one (.bool (decide (a=b)))):=ad7
def gN:af P (.binOp .neq T x y U) ty [.one (.int k a),.one (.int k b)] (.one (.bool (decide (a≠b)))):=by
 have:decide (a≠b) = !decide (a=b):=by by_cases h:a=b<;>simp[h]
 rw[this];exact NC
def ak:af P (.binOp .lss T x y U) ty [.one (.int k a),.one (.int k b)] (.one (.bool (decide (a<b)))):=uN
def iO:af P (.binOp .leq T x y U) ty [.one (.int k a),.one (.int k b)] (.one (.bool (decide (a<=b)))):=bw9
def dZ:af P (.binOp .gtr T x y U) ty [.one (.int k a),.one (.int k b)] (.one (.bool (decide (b<a)))):=Nd
def fO:af P (.binOp .geq T x y U) ty [.one (.int k a),.one (.int k b)] (.one (.bool (decide (b<=a)))):=Gd
def HQ{p:Prop}[Decidable p]:af P (.unOp .not T x) ty [.one (.bool (decide p))] (.one (.bool (decide (¬p)))):=by
 have:decide (¬p) = !decide p:=by by_cases h:p<;>simp[h]
 rw[this];exact lf
def bV6{s t:ByteArray}:(s.toList==t.toList)=decide (s.data=t.data):=by
 rw[ByteArray.toList_eq,ByteArray.toList_eq];by_cases h:s.data=t.data
 ·simp[h]
 ·have:¬s.data.toList=t.data.toList:=fun e=>h (Array.toList_inj.1 e);simp[h]
def bn0{s t:ByteArray}:af P (.binOp .eql T x y U) ty [.one (.str s),.one (.str t)] (.one (.bool (decide (s.data=t.data)))):=by
 rw[<-bV6];exact UF
def bc5{p q:Bool}(hu:P.underlying T=some .bool):af P (.binOp .eql T x y U) ty [.one (.bool p),.one (.bool q)] (.one (.bool (decide (p=q)))):=by
 intro M w ρ o ho _ hr;obtain⟨hx,hy⟩:=rN hr;have hx:ρ x=.bool p/\_:=hx;have hy:ρ y=.bool q/\_:=hy;exact⟨.bool (decide (p=q)),by cases p<;>cases q<;>simp[execOp,ho,hx.1,hy.1,eqGuard,binOp,Op.equal,Op.maxDepth,run_equalIn_bool _ _ _ _ _ hu],⟨rfl,rfl⟩⟩
def aZ0{p q:Bool}(hu:P.underlying T=some .bool):af P (.binOp .neq T x y U) ty [.one (.bool p),.one (.bool q)] (.one (.bool (decide (p≠q)))):=by
 intro M w ρ o ho _ hr;obtain⟨hx,hy⟩:=rN hr;have hx:ρ x=.bool p/\_:=hx;have hy:ρ y=.bool q/\_:=hy;exact⟨.bool (decide (p≠q)),by cases p<;>cases q<;>simp[execOp,ho,hx.1,hy.1,eqGuard,binOp,Op.equal,Op.maxDepth,run_equalIn_bool _ _ _ _ _ hu],⟨rfl,rfl⟩⟩
def aZ{E sz b m:Nat}{n:Int}{α:Type}{f:α->List aE}{xs:List α}{d:α}(h:dI P T=some (E,sz,b))(hd:xs[m]?=some d)(hm:n.toNat=m:=by omega)(h0:0<=n:=by omega) :
  af P (.indexAddr T x y) ty [.one (.slice sz (xs.map f)),.one (.int k n)] (.one (.aj (f d))):=aL1 h h0 (by rw[hm,cC,hd];rfl)
def ad3{ts:Array TypeId}:af P (.call ⟨.builtin .min,#[x,y],ts⟩) ty [.one (.int k a),.one (.int k b)] (.one (.int k (min a b))):=by
 intro M w ρ o ho ht hr;obtain⟨hx,hy⟩:=rN (x:=x) (y:=y) hr;have hx:ρ x=.int k a/\_:=hx;have hy:ρ y=.int k b/\_:=hy;have e:(if b<a then b else a)=min a b:=O
 exact⟨.int k (min a b),by simp[execOp,ho,resolve,invoke,builtin,hx.1,hy.1,run_min_int2,e],⟨rfl,rfl⟩⟩
def ai2{ts:Array TypeId}:af P (.call ⟨.builtin .max,#[x,y],ts⟩) ty [.one (.int k a),.one (.int k b)] (.one (.int k (max a b))):=by
 intro M w ρ o ho ht hr;obtain⟨hx,hy⟩:=rN (x:=x) (y:=y) hr;have hx:ρ x=.int k a/\_:=hx;have hy:ρ y=.int k b/\_:=hy;have e:(if a<b then b else a)=max a b:=O
 exact⟨.int k (max a b),by simp[execOp,ho,resolve,invoke,builtin,hx.1,hy.1,run_max_int2,e],⟨rfl,rfl⟩⟩
def av{c:aE}(h:lD P T=some (false,1)):af P (.load T x) ty [.one (.aj [c])] (.one c):=bB (n:=1) h (by decide) (by simp) (.inr rfl)
end
section
variable{P:Program}{post:Out->Prop}{bk:List (List aG->Prop)}{τ:Env}{op:Op}{ty:Nat}{last:Bool}{k:Tr}{α:Type}{f:α->List aE}
def cy{cid:Nat}{i:C0}{xs:List α}{ik:IntKind}{n:Int}(h1:τ[cid]?=some (.rows (xs.map f)))(h2:c0 τ i=.int ik n)(h0:0<=n)(hn:n<xs.length)(hk:vc P post k τ bk):vc P post (.need (.idx cid i) op ty last k) τ bk:=
 mq h1 h2 h0 (by rw[aR];exact hn) hk
def Wj{cid off sz m:Nat}{ag:Bool}{i:C0}{xs:List α}{d:α}{ik:IntKind}{n:Int}{t:aG}(h1:τ[cid]?=some (.rows (xs.map f)))(h2:c0 τ i=.int ik n)(h0:0<=n)(hm:n.toNat=m)(hd:xs[m]?=some d)(hag:ag=true\/sz=1)(ht:Mf ag (((f d).drop off).take sz)=t)(hk:vc P post k (τ++[t]) bk):vc P post (.need (.ldrow cid i off sz ag) op ty last k) τ bk:=
 vld h1 h2 h0 (by rw[hm,cC,hd];rfl) hag ht hk
def pr{cid off m:Nat}{i:C0}{xs:List α}{d:α}{c:aE}{ik:IntKind}{n:Int}(h1:τ[cid]?=some (.rows (xs.map f)))(h2:c0 τ i=.int ik n)(h0:0<=n)(hm:n.toNat=m)(hd:xs[m]?=some d)(hc:(f d)[off]?=some c)(hk:vc P post k (τ++[.one c]) bk):vc P post (.need (.ldrow cid i off 1 false) op ty last k) τ bk:=by
 refine Wj h1 h2 h0 hm hd (.inr rfl) ?_ hk;obtain⟨hlt,he⟩:=dn.1 hc;rw[pC hlt,he];rfl
def mY{cid sz off m:Nat}{i:C0}{cs:List C0}{xs:List α}{d d':α}{ik:IntKind}{n:Int}(h1:τ[cid]?=some (.rows (xs.map f)))(h2:c0 τ i=.int ik n)(h0:0<=n)(hm:n.toNat=m)(hd:xs[m]?=some d)
  (hu:(f d).take off++cs.map (c0 τ)++(f d).drop (off+cs.length)=f d') (hk:vc P post k (τ++[.rows ((xs.set m d').map f)]) bk):vc P post (.need (.strow cid sz i off cs) op ty last k) τ bk:=
 yx h1 h2 h0 (by rw[hm,cC,hd];rfl) (by rw[hm,hu,tZ]) hk
def CA{z:List Value}{b:Nat}{l c:C0}{n:Nat}{m:Int}{kl kc:IntKind}(a:α)(h1:c0 τ l=.int kl m)(h2:c0 τ c=.int kc m)(hmn:m=n)(hu:z.map .exact=f a)(hb:b*n<=140737488355328)(hm:n<=maxLen)(hk:vc P post k (τ++[.rows ((List.replicate n a).map f)]) bk):vc P post (.need (.make z b l c) op ty last k) τ bk:=
 sJ (n:=n) (m:=n) (by rw[<-hmn];exact h1) (by rw[<-hmn];exact h2) (by rw[hu,sK]) (aY _) hb hm hk
def oH{sz b:Nat}{cid:Option Nat}{src:Option C0}{row:Option Nat}{xs:List α}{x:α}(h1:aa5 τ cid (xs.map f))(h2:Zm τ sz src row [f x])(hb:(xs.length+1)*b<=140737488355328)(hm:xs.length+1<=maxLen)(hk:vc P post k (τ++[.rows ((xs++[x]).map f)]) bk):vc P post (.need (.app sz b cid src row) op ty last k) τ bk:=
 pK (ts:=xs.map f) (us:=[f x]) h1 h2 (by rw[eG];rfl) (by rw[aR,eZ];exact hb) (by rw[aR,eZ];exact hm) hk
def Xq{cid E b2:Nat}{s:SW}{x y:Operand}{T U:Nat}{xs zs ws:List α}(hf:∀a,(f a).length=1)(h1:τ[cid]?=some (.rows (zs.map f)))(h2:oW τ s=.one (.slice 1 (xs.map f)))(hT:dI P T=some (E,1,b2))(hle:xs.length<=zs.length)(hne:zs≠[])(hw:xs++zs.drop xs.length=ws)
  (hk:vc P post k (τ++[.one (.int .i64 xs.length),.rows (ws.map f)]) bk):vc P post (.need (.rop cid E 1 none [] [s] [none]) (.call ⟨.builtin .copy,#[x,y],#[T,U]⟩) ty last k) τ bk:=by
 have hall:∀l:List α,∀t∈l.map f,t.length=1:=fun l t ht=>by
  obtain⟨a,_,rfl⟩:=gn.1 ht;exact hf a
 refine Wo (n:=0) (us:=zs.map f) h1 ⟨rfl,rfl⟩ (by simpa using hne) rfl (by rw[List.map_singleton,h2];exact WL (sz2:=0) hT (by simpa using hle) (hall xs) (hall zs)) rfl ?_
 have e1:List.take 0 (zs.map f)++(xs.map f++(zs.map f).drop (xs.map f).length)++(zs.map f).drop (0+(zs.map f).length)=ws.map f:=by
  rw[ma,List.nil_append,Nat.zero_add,KL,cM,aR,<-oG,<-eG,hw]
 rw[e1,aR];exact hk
end
abbrev W(i j:Nat):SW:=.one (.c (.u i j))
abbrev U(i j:Nat):SC:=.c (.u i j)
abbrev bZ:Nat->Option Hint:=fun _=>none
abbrev WK(n:Int):SW:=.one (.c (.k (.int .i64 n)))
abbrev I3(n:Int):Value:=.int .i64 n
abbrev G1(i:Nat):SW:=.agg [U i 0]
abbrev G2(i:Nat):SW:=.agg [U i 0,U i 1]
abbrev G3(i:Nat):SW:=.agg [U i 0,U i 1,U i 2]
abbrev G4(i:Nat):SW:=.agg [U i 0,U i 1,U i 2,U i 3]
abbrev G5(i:Nat):SW:=.agg [U i 0,U i 1,U i 2,U i 3,U i 4]
abbrev G6(i:Nat):SW:=.agg [U i 0,U i 1,U i 2,U i 3,U i 4,U i 5]
abbrev G8(i:Nat):SW:=.agg [U i 0,U i 1,U i 2,U i 3,U i 4,U i 5,U i 6,U i 7]
abbrev tE(v:Value):SC:=.c (.k v)
abbrev tN:SC:=.c (.k (.slice none 0 0))
abbrev tF(b:Bool):SW:=.one (.c (.k (.bool b)))
abbrev lV(i j:Nat):LV:=.w (W i j)
abbrev lK(z:Int):LV:=.w (WK z)
abbrev lN:LV:=.w (.one tN)
abbrev tT(n:Nat):Operand:=.tmp n
def qA(o:BinOp)(T t:Nat)(z:Int)(i j ty:Nat)(k:Tr):Tr:=.need (.prim [W i j,WK z] none) (.binOp o T (.tmp t) (.const (I3 z)) T) ty false k
def uW(o:BinOp)(T t u i j m n ty:Nat)(k:Tr):Tr:=.need (.prim [W i j,W m n] none) (.binOp o T (.tmp t) (.tmp u) T) ty false k
def dV(f:Nat)(as:List SW)(sh:List (Option Nat))(ts tys:List Nat)(ty:Nat)(l:Bool)(k:Tr):Tr:=.need (.call f as sh) (.call ⟨.value (.func f),(ts.map Operand.tmp).toArray,tys.toArray⟩) ty l k
def tKl(i j t T:Nat)(k:Tr):Tr:=.need (.prim [W i j] none) (.call ⟨.builtin .len,#[(.tmp t)],#[T]⟩) 3 false k
def gb(i j m n T t u:Nat)(k:Tr):Tr:=.need (.prim [W i j,W m n] none) (.indexAddr T (.tmp t) (.tmp u)) 0 false k
def tKd(i j:Nat)(sh:Option Nat)(T t:Nat)(k:Tr):Tr:=.need (.prim [W i j] sh) (.load T (.tmp t)) T false k
def uw(a b:Nat):Tr:=.ret [(.one (.c (.sr a b)))]
def Io(a b c d e:Nat)(g:Tr):Tr:=.need (.strow a 3 (.u b 0) 0 [(.u c 0),(.u c 1),(.u c 2)]) (.store 39 (.tmp d) (.tmp e)) 0 false g
def dL(a b c d e:Nat)(g:Tr):Tr:=.need (.idx a (.u b 0)) (.indexAddr c (.tmp d) (.tmp e)) 0 false g
def lX(a:Nat)(b:Int)(c d e:Nat)(g:Tr):Tr:=.need (.call a [(WK b)] [(some c)]) (.call ⟨.value (.func a),#[(.const (I3 b))],#[d]⟩) e true g
def SH(a b c:Nat)(d:Tr):Tr:=.need (.make [(.slice none 0 0),(.bool false),(.slice none 0 0)] 56 (.u a 0) (.u a 0)) (.makeSlice b (.tmp c) (.tmp c)) b false d
def bI(a:Nat):Tr:=.ret [(W a 0)]
def jb(a b:Nat)(c:Int)(d e:Nat)(g:Tr):Tr:=.need (.prim [(W a b),(WK c)] none) (.binOp .leq d (.tmp e) (.const (I3 c)) d) 4 false g
def hx163Q:Tr:=.ret [(tF false)]
def jj(a b c:Nat):Tr:=.back a [(.w (W b 0)),(.w (W c 0))]
def bD(a:Nat)(b:Int)(c d:Nat)(e:Tr):Tr:=.need (.prim [(W a 0),(WK b)] none) (.binOp .add c (.tmp d) (.const (I3 b)) c) c false e
def aH(a b:Nat)(c d:Tr):Tr:=.split (.u a b) c d
def fL(a b:Nat)(c:Int)(d e:Nat)(g:Tr):Tr:=.need (.prim [(W a b),(WK c)] none) (.binOp .gtr d (.tmp e) (.const (I3 c)) d) 4 false g
def cU(a b c d e g h:Nat)(i:Tr):Tr:=.need (.prim [(W a 0),(W b c)] none) (.binOp .lss d (.tmp e) (.tmp g) d) h false i
def Qj(a:Tr):Tr:=.loop 0 [(.w (.one (.c (.k (.bool false))))),(.w (WK 0))] a
def vD(a b c d e:Nat):Tr:=.ret [(.agg [(U a 0),(U a 1),(U a 2),(U b c),(U b d),(U b e)])]
def iJ(a b:Nat)(c:Int)(d e:Nat)(g:Tr):Tr:=.need (.prim [(W a b),(WK c)] none) (.binOp .lss d (.tmp e) (.const (I3 c)) d) 4 false g
def fW(a b c d e:Nat):Tr:=.ret [(.agg [(U a 0),(U b c),(U d e)])]
def ZS(a:Nat)(b:Tr):Tr:=.need (.call 258 [(.one (.jO a [])),(W 0 0)] [(some 3)]) (.call ⟨.value (.func 258),#[(.func a),(tT 3)],#[305,40]⟩) 39 true b
def lZ(a b c d e g:Nat)(h:Tr):Tr:=.need (.call a [(W b 0)] [(some c)]) (.call ⟨.value (.func a),#[(.tmp d)],#[e]⟩) g true h
def uM(a b c d e g:Nat)(h:Tr):Tr:=.need (.call a [(W b 0)] [(some c)]) (.call ⟨.value (.func a),#[(.tmp d)],#[e]⟩) g false h
def wO(a b c d e g h:Nat)(i:Tr):Tr:=.need (.call a [(.one (.c (.sr b c)))] [(some d)]) (.call ⟨.value (.func a),#[(.tmp e)],#[g]⟩) h true i
def Yx(a b c d e g h i j:Nat)(k:Tr):Tr:=.need (.callv (.u 0 0) [(.agg [(U 1 a),(U 1 b),(U 1 c)]),(.agg [(U 2 d),(U 2 e),(U 2 g)])] [(some 3)]) (.call ⟨.value (.tmp h),#[(.tmp i),(.tmp j)],#[39,39]⟩) 39 false k
def iQ(a b c d e g h i j k l m n o p:Nat)(q:Tr):Tr:=.need (.call a [(.agg [(U b c),(U d e),(U g h)]),(.agg [(U i j),(U k l),(U m n)])] [(some 3)]) (.call ⟨.value (.func a),#[(.tmp o),(.tmp p)],#[39,39]⟩) 39 true q
def fG(a b c d e g h:Nat)(i:Tr):Tr:=.need (.prim [(W a b),(W c d)] none) (.binOp .add e (.tmp g) (.tmp h) e) e false i
def au(a b c d:Nat)(e:Tr):Tr:=.need (.prim [(W a b)] none) (.call ⟨.builtin .len,#[(.tmp c)],#[d]⟩) 3 false e
def nA(a b c d e:Nat)(g:Tr):Tr:=.need (.call a [(.agg [(U b 0),(U b 1),(U b 2),(U b 3)])] [(some c)]) (.call ⟨.value (.func a),#[(.tmp d)],#[49]⟩) e false g
def Mb(a b:Nat)(c:Tr):Tr:=.need (.call a [(.agg [(U 0 0),(U 0 1)])] [(some 2)]) (.call ⟨.value (.func a),#[(.tmp b)],#[47]⟩) 47 false c
def DR(a:Nat)(b:Int)(c d:Nat)(e:Tr):Tr:=.need (.call a [(WK b)] [(some c)]) (.call ⟨.value (.func a),#[(.const (I3 b))],#[2]⟩) d false e
def jV(a b c:Nat):Tr:=.back a [(.w (W b 0)),.row c]
def gU(a b c d e g h:Nat)(i:Tr):Tr:=.need (.app a b (some c) none (some d)) (.call ⟨.builtin .append,#[(.tmp e),(.tmp g)],#[h,h]⟩) h false i
def Xt(a b:Nat)(c:Tr):Tr:=.need (.lit 6 [[(.u a 0),(.u a 1),(.u a 2),(.u a 3),(.u a 4),(.u a 5)]]) (.buildSlice 118 1 #[(0,(.tmp b))]) 118 false c
def IJ(a b c d e g h i:Nat)(j:Tr):Tr:=.need (.call a [(.agg [(U b c),(U b d),(U b e)])] [(some g)]) (.call ⟨.value (.func a),#[(.tmp h)],#[39]⟩) i true j
def dB(a b c d:Nat)(e:Tr):Tr:=.need (.prim [(W a 0)] (some b)) (.load c (.tmp d)) c false e
def Kd(a b c d e:Nat)(g:Tr):Tr:=.need (.ldrow a (.u b 0) 0 c true) (.load d (.tmp e)) d false g
def bm(a b c:Nat)(d:Tr):Tr:=.need (.prim [(W a 0)] none) (.load b (.tmp c)) b false d
def vA(a:Nat)(b:Tr):Tr:=.loop a [(.w (WK 0)),.nilrow] b
def ID(a b c d e g h i:Nat)(j:Tr):Tr:=.need (.lit 3 [[(.u a b),(.u a c),(.u a d)],[(.u e b),(.u e c),(.u e d)]]) (.buildSlice g 2 #[(0,(.tmp h)),(1,(.tmp i))]) g false j
def uQ(a b c d e g h i j k l m n:Nat)(o:Tr):Tr:=.need (.call a [(.agg [(U b 0),(U c d),(U e g)]),(.agg [(U h 0),(U i j),(U k l)])] [(some 3)]) (.call ⟨.value (.func a),#[(.tmp m),(.tmp n)],#[39,39]⟩) 39 false o
def jw(a b c d e:Nat)(g:Tr):Tr:=.need (.call a [(.agg [(U b 0),(U b 1),(U b 2)])] [(some c)]) (.call ⟨.value (.func a),#[(.tmp d)],#[39]⟩) e false g
def QN(a b:Nat)(c:Tr):Tr:=.need (.call 130 [(W a 0),(WK 5)] []) (.call ⟨.value (.func 130),#[(.tmp b),(.const (I3 5))],#[4,55]⟩) 0 true c
def lP(a b c:Nat)(d:Tr):Tr:=.need (.prim [(W a 0),(WK 0)] none) (.binOp .neq b (.tmp c) (.const (I3 0)) b) 4 false d
def Rp(a:Int):Tr:=.ret [(.one (.c (.k (.slice none 0 0)))),(WK a)]
def xr(a b:Nat):Tr:=.ret [(W a 0),(W b 0)]
def jX(a b c:Nat)(d:Tr):Tr:=.need (.prim [(W a b)] none) (.unOp .not 4 (.tmp c)) 4 false d
def Js(a b c d e g:Nat)(h:Tr):Tr:=.need (.call a [(.one (.c (.sr b c)))] [(some b)]) (.call ⟨.value (.func a),#[(.tmp d)],#[e]⟩) g false h
def aK5(a:Int)(b:Tr):Tr:=.need (.prim [(.one (.ref 0 [(.k (.slice none 0 0)),(.k (.bool false)),(.k (.slice none 0 0)),(.k (.slice none 0 0)),(.k (.bool false)),(.k (.slice none 0 0)),(.k (.slice none 0 0)),(.k (.bool false)),(.k (.slice none 0 0)),(.k (.slice none 0 0)),(.k (.bool false)),(.k (.slice none 0 0))])),(WK a)] none) (.indexAddr 233 (tT 9) (.const (I3 a))) 0 false b
def Td(a b c d e:Nat)(g:Tr):Tr:=.need (.call 40 [(.agg [(U a b),(U a c),(U a d)])] [(some 3),(some 4)]) (.call ⟨.value (.func 40),#[(.tmp e)],#[26]⟩) 82 false g
def No(a b c d e g h i j k:Nat)(l:Tr):Tr:=.need (.call a [(W b 0),(W c d)] [(some e),none]) (.call ⟨.value (.func a),#[(.tmp g),(.tmp h)],#[i,j]⟩) k false l
def oY(a:Tr):Tr:=dV 16 [] [none] [] [] 4 true a
def oZ(a b:Nat)(c:Int)(d e:Nat)(g:Tr):Tr:=.need (.prim [(W a b),(WK c)] none) (.indexAddr d (.tmp e) (.const (I3 c))) 0 false g
def ae2(a:Nat)(b:Tr):Tr:=.need (.call 72 [(G5 10),(.agg [(U a 0),(U a 1),(U a 2)]),(WK 20)] [none,none]) (.call ⟨.value (.func 72),#[(tT 108),(tT 109),(.const (I3 20))],#[42,39,3]⟩) 130 false b
def gI(a:Nat)(b:Int)(c:Nat)(d:Tr):Tr:=.need (.prim [(W a 0),(.one (.c (.k (.int .u8 b))))] none) (.binOp .eql 5 (.tmp c) (.const (.int .u8 b)) 5) 4 false d
def zd(a b:Nat)(c:Int)(d:Nat)(e:Tr):Tr:=.need (.prim [(W a b),(.one (.c (.k (.int .u8 c))))] none) (.binOp .rem 5 (.tmp d) (.const (.int .u8 c)) 5) 5 false e
def fM(a b c d:Nat)(e:Tr):Tr:=.need (.prim [(W a 0)] none) (.convert b c (.tmp d)) c false e
def xX(a b c d e:Nat)(g:Tr):Tr:=.need (.call a [(W b 0)] [none]) (.call ⟨.value (.func a),#[(.tmp c)],#[d]⟩) e false g
def uP(a b c d e g h i:Nat)(j:Tr):Tr:=.need (.call a [(.agg [(U b c),(U b d),(U b e)])] [none]) (.call ⟨.value (.func a),#[(.tmp g)],#[h]⟩) i false j
def fP(a:Nat)(b:Int)(c:Nat)(d:Tr):Tr:=.need (.prim [(W a 0),(WK b)] none) (.binOp .sub 3 (.tmp c) (.const (I3 b)) 3) 3 false d
def pR(a:Nat):Tr:=.ret [(.agg [(U a 0)])]
def ah5(a:Tr):Tr:=.need (.prim [(W 0 0),(W 2 0),(W 2 0)] none) (.slice 33 (tT 18) none (some (tT 19)) (some (tT 20))) 33 false a
def RM(a:Nat)(b:Int)(c:Nat)(d:Tr):Tr:=.need (.prim [(W a 0),(.one (.c (.k (.int .u32 b))))] none) (.binOp .eql 255 (.tmp c) (.const (.int .u32 b)) 255) 4 false d
def Fc(a:Nat)(b:Tr):Tr:=.loop 0 [(.w (W a 0))] b
def qv(a:Int)(b c:Nat):Tr:=.back 0 [(.w (.one (.c (.k (.int .u32 a))))),(.w (W b 0)),.row c]
def ec(a b c d e g:Nat)(h:Tr):Tr:=.need (.strow a 1 (.u b 0) 0 [(.u c 0)]) (.store d (.tmp e) (.tmp g)) 0 false h
def Jt(a b:Nat)(c:Tr):Tr:=.need (.prim [(W a 0),(.one (.c (.k (.int .u32 1000000000))))] none) (.binOp .sub 255 (.tmp b) (.const (.int .u32 1000000000)) 255) 255 false c
def JE(a b:Nat)(c:Tr):Tr:=.need (.prim [(W a 0),(.one (.c (.k (.int .u32 1000000000))))] none) (.binOp .geq 255 (.tmp b) (.const (.int .u32 1000000000)) 255) 4 false c
def LB(a:Nat)(b:Tr):Tr:=.loop 0 [(.w (.one (.c (.k (.int .u32 0))))),(.w (WK 0)),.row a] b
def EB(a b:Nat)(c:Tr):Tr:=.need (.make [(.int .u32 0)] 4 (.u a 0) (.u a 0)) (.makeSlice 33 (.tmp b) (.tmp b)) 33 false c
def eH(a b:Nat)(c:Int)(d e:Nat)(g:Tr):Tr:=.need (.prim [(W a b),(WK c)] none) (.binOp .eql d (.tmp e) (.const (I3 c)) d) 4 false g
def LC(a b:Nat)(c:Tr):Tr:=.need (.prim [(W a 0),(.one (.c (.k (.int .u64 1000000000))))] none) (.binOp .quo 254 (.tmp b) (.const (.int .u64 1000000000)) 254) 254 false c
def pa(a b c:Nat)(d:Tr):Tr:=.need (.lit 1 [[(.u a 0)]]) (.buildSlice b 1 #[(0,(.tmp c))]) b false d
def JH(a b:Nat)(c:Tr):Tr:=.need (.prim [(W a 0),(.one (.c (.k (.int .u64 1000000000))))] none) (.binOp .rem 254 (.tmp b) (.const (.int .u64 1000000000)) 254) 254 false c
def RP(a:Tr):Tr:=.loop 0 [lV 0 0,.nilrow] a
def kh(a b c d:Nat):Tr:=.ret [(.agg [(U a b),(U c d)])]
def DJ(a b c d:Nat)(e:Tr):Tr:=.need (.call a [(.agg [(U b 0)])] [none]) (.call ⟨.value (.func a),#[(.tmp c)],#[35]⟩) d false e
def qQ(a:Int):Tr:=.ret [(WK a)]
def DM(a b c d e:Nat)(g:Tr):Tr:=.need (.call a [(.agg [(U b c)])] [none]) (.call ⟨.value (.func a),#[(.tmp d)],#[35]⟩) e true g
def yo(a b c d:Nat):Tr:=.back a [(.w (W b 0)),(.w (W c 0)),.row d]
def lQ(a b c d:Nat)(e:Tr):Tr:=.need (.ldrow a (.u b 0) 0 1 false) (.load c (.tmp d)) c false e
def LM(a b:Nat)(c:Tr):Tr:=.loop a [(.w (WK 0)),.row b] c
def qt(a b c d e:Nat)(g:Tr):Tr:=.need (.call a [(W b 0)] [none]) (.call ⟨.value (.func a),#[(.tmp c)],#[d]⟩) e true g
def oL(a b c d e g h i j:Nat)(k:Tr):Tr:=.need (.call a [(W b c),(W d c)] [none]) (.call ⟨.value (.func a),#[(.tmp e),(.tmp g)],#[h,i]⟩) j true k
def Zj(a b:Nat)(c:Tr):Tr:=.need (.prim [(W a 0),(.one (.c (.k (.int .u64 1000000000))))] none) (.binOp .mul 254 (.tmp b) (.const (.int .u64 1000000000)) 254) 254 false c
def da(a b c d e g h:Nat)(i:Tr):Tr:=.need (.prim [(W a b),(W c d)] none) (.binOp .sub e (.tmp g) (.tmp h) e) e false i
def RA(a:Nat)(b:Int)(c:Nat)(d:Tr):Tr:=.need (.prim [(W a 0),(.one (.c (.k (.int .u32 b))))] none) (.binOp .add 255 (.tmp c) (.const (.int .u32 b)) 255) 255 false d
def uk(a b c:Nat)(d:Tr):Tr:=.need (.lenrow a) (.call ⟨.builtin .len,#[(.tmp b)],#[c]⟩) 3 false d
def aj3(a b c d:Nat)(e:Tr):Tr:=.need (.rop a 255 1 none [] [(W b 0)] [none]) (.call ⟨.builtin .copy,#[(.tmp c),(.tmp d)],#[33,33]⟩) 3 false e
def Kn(a:Nat)(b:Int)(c d:Nat):Tr:=.back 0 [(.w (W a 0)),(.w (WK b)),(.w (W c 0)),.row d]
def LK(a b c:Nat):Tr:=.back 0 [(.w (W a 0)),.row b,.row c]
def IY(a b c d:Nat)(e:Tr):Tr:=.need (.call 193 [(.agg [(U a 0)]),(.agg [(U b 0)])] [(some 1),(some 1)]) (.call ⟨.value (.func 193),#[(.tmp c),(.tmp d)],#[35,35]⟩) 251 false e
def kz(a b c d e g:Nat)(h:Tr):Tr:=.need (.call a [(.agg [(U b c)]),(.agg [(U d 0)])] [(some 1)]) (.call ⟨.value (.func a),#[(.tmp e),(.tmp g)],#[35,35]⟩) 35 true h
def sW(a b c d:Nat):Tr:=.back a [(.w (W b 0)),(.w (W c 0)),(.w (W d 0))]
def PY(a:Tr):Tr:=.need (.call 195 [(.one (.c (.k (.int .u64 1))))] [(some 1)]) (.call ⟨.value (.func 195),#[(.const (.int .u64 1))],#[254]⟩) 35 true a
def Dm(a b c d e:Nat)(g:Tr):Tr:=.need (.call 155 [(W a b),(.agg [(U c 0)])] [(some 2)]) (.call ⟨.value (.func 155),#[(.tmp d),(.tmp e)],#[4,35]⟩) 37 true g
def PU(a b c:Nat)(d:Tr):Tr:=.need (.prim [(W a 0)] none) (.unOp .neg b (.tmp c)) b false d
def Pz(a:Int)(b:Tr):Tr:=.need (.call 195 [(.one (.c (.k (.int .u64 a))))] [(some 1)]) (.call ⟨.value (.func 195),#[(.const (.int .u64 a))],#[254]⟩) 35 false b
def Lr(a b c d e:Nat)(g:Tr):Tr:=.need (.call 155 [(W a b),(.agg [(U c 0)])] [(some 2)]) (.call ⟨.value (.func 155),#[(.tmp d),(.tmp e)],#[4,35]⟩) 37 false g
def Pk(a b c d e g h:Nat)(i:Tr):Tr:=.need (.call a [(.agg [(U b 0),(U b 1)]),(.agg [(U c 0)])] [(some d)]) (.call ⟨.value (.func a),#[(.tmp e),(.tmp g)],#[37,35]⟩) h true i
def xU(a b c d e g:Nat)(h:Tr):Tr:=.need (.call a [(.agg [(U b 0),(U b 1)]),(.agg [(U c 0),(U c 1)])] [(some 2)]) (.call ⟨.value (.func a),#[(.tmp d),(.tmp e)],#[g,g]⟩) g false h
def DH(a b c d e:Nat)(g:Tr):Tr:=.need (.call a [(.agg [(U b 0),(U b 1),(U b 2)])] [none]) (.call ⟨.value (.func a),#[(.tmp c)],#[d]⟩) e true g
def Ym(a b c d e:Nat)(g:Tr):Tr:=.need (.callv (.u a 0) [(W b 0)] [none]) (.call ⟨.value (.tmp c),#[(.tmp d)],#[e]⟩) 4 true g
def ym(a:Tr):Tr:=.loop 0 [(.w (WK 0)),(.w (WK 0))] a
def KC(a b c:Nat)(d:Tr):Tr:=.need (.lit 3 [[(.u a 0),(.u a 1),(.u a 2)]]) (.buildSlice b 1 #[(0,(.tmp c))]) b false d
def kB(a b c d e g:Nat)(h:Tr):Tr:=.need (.call a [(.one (.c (.sr b c)))] [none]) (.call ⟨.value (.func a),#[(.tmp d)],#[e]⟩) g true h
def pg(a b c:Nat)(d:Tr):Tr:=.need (.lit 4 [[(.u a 0),(.u a 1),(.u a 2),(.u a 3)]]) (.buildSlice b 1 #[(0,(.tmp c))]) b false d
def Zd(a:Int):Tr:=.ret [(.agg [tN,tN,(tE (.bool false)),tN,tN]),(WK a)]
def jc(a b:Nat):Tr:=.ret [(.agg [(.c (.sr 1 a)),tN,(tE (.bool false)),tN,(.c (.sr 3 b))]),(WK 0)]
def YO(a b c d e:Nat)(g:Tr):Tr:=.need (.lit 1 [[(.u a 0)],[(.u b 0)]]) (.buildSlice c 2 #[(0,(.tmp d)),(1,(.tmp e))]) c false g
def ed(a b c d e:Nat)(g:Tr):Tr:=.need (.call a [(.one (.c (.sr 1 b)))] [none]) (.call ⟨.value (.func a),#[(.tmp c)],#[d]⟩) e false g
def kZ(a:Int)(b:Nat)(c:Tr):Tr:=.need (.lit 1 [[(.k (.int .i64 a))]]) (.buildSlice b 1 #[(0,(.const (I3 a)))]) b false c
def oS(a:Tr):Tr:=.need (.rop 7 39 3 none [] [] []) (.call ⟨.value (.func 92),#[(tT 111)],#[40]⟩) 0 true a
def DL(a:Tr):Tr:=.need (.prim [(W 0 0),(.one (.c (.k (.int .u8 7))))] none) (.binOp .geq 5 (tT 107) (.const (.int .u8 7)) 5) 4 false a
def Uo(a b c d e:Nat)(g:Tr):Tr:=.need (.lit 1 [[(.u a 0)],[(.k (.slice none 0 0))],[(.u b 0)]]) (.buildSlice c 3 #[(0,(.tmp d)),(1,(.const (.slice none 0 0))),(2,(.tmp e))]) c false g
def rE(a b:Int)(c:Tr):Tr:=.need (.lit 1 [[(.k (.int .i64 a))],[(.k (.int .i64 b))]]) (.buildSlice 242 2 #[(0,(.const (I3 a))),(1,(.const (I3 b)))]) 242 false c
def Ir(a b c d e:Nat)(g:Tr):Tr:=.need (.lit 1 [[(.k (.slice none 0 0))],[(.u a 0)],[(.u b 0)]]) (.buildSlice c 3 #[(0,(.const (.slice none 0 0))),(1,(.tmp d)),(2,(.tmp e))]) c false g
def Uw(a:Int)(b:Tr):Tr:=.need (.lit 1 [[(.k (.int .i64 1))],[(.k (.int .i64 0))],[(.k (.int .i64 a))]]) (.buildSlice 242 3 #[(0,(.const (I3 1))),(1,(.const (I3 0))),(2,(.const (I3 a)))]) 242 false b
def Uf(a b c d e g h:Nat)(i:Tr):Tr:=.need (.lit 1 [[(.u a 0)],[(.u b 0)],[(.u c 0)]]) (.buildSlice d 3 #[(0,(.tmp e)),(1,(.tmp g)),(2,(.tmp h))]) d false i
def Qu(a b c:Nat)(d:Tr):Tr:=.need (.prim [(WK 2),(W a 0)] none) (.binOp .mul b (.const (I3 2)) (.tmp c) b) b false d
def Ql(a:Nat):Tr:=.ret [(.agg [tN,tN,(tE (.bool false)),tN,(.c (.sr 3 a))]),(WK 0)]
def ac1(a:Nat)(b:Int)(c:Nat)(d:Tr):Tr:=.need (.prim [(W 0 a),(.one (.c (.k (.int .u8 b))))] none) (.binOp .gtr 5 (.tmp c) (.const (.int .u8 b)) 5) 4 false d
def zQ(a b:Nat):Tr:=.ret [(.agg [(.c (.sr 1 a)),(tE (.int .i64 0)),tN,(tE (.int .i64 0)),tN,(.c (.sr 4 b))])]
def Tc(a b:Nat)(c:Tr):Tr:=.need (.lit 4 [[(.k (.int .i64 0)),(.k (.slice none 0 0)),(.k (.int .i64 0)),(.k (.slice none 0 0))],[(.u 2 0),(.u 2 1),(.u 2 2),(.u 2 3)]]) (.buildSlice 50 2 #[(0,(.tmp a)),(1,(.tmp b))]) 50 false c
def af9(a b:Nat)(c:Tr):Tr:=.need (.lit 4 [[(.u 2 0),(.u 2 1),(.u 2 2),(.u 2 3)],[(.k (.int .i64 0)),(.k (.slice none 0 0)),(.k (.int .i64 0)),(.k (.slice none 0 0))]]) (.buildSlice 50 2 #[(0,(.tmp a)),(1,(.tmp b))]) 50 false c
def Rk(a b c d:Nat):Tr:=.ret [(.one (.c (.sr a b))),(.one (.c (.sr c d)))]
def ae6(a b c d:Nat)(e:Tr):Tr:=.need (.lit 1 [[(.sr a b)]]) (.buildSlice c 1 #[(0,(.tmp d))]) c false e
def XG(a b c:Nat)(d:Tr):Tr:=.need (.make [(.int .i64 0),(.slice none 0 0),(.int .i64 0),(.slice none 0 0)] 64 (.u a 0) (.u a 0)) (.makeSlice b (.tmp c) (.tmp c)) b false d
def KM(a b:Nat)(c:Tr):Tr:=.need (.prim [(W a 0),(.one (.c (.k (.int .u8 1))))] none) (.binOp .add 5 (.tmp b) (.const (.int .u8 1)) 5) 5 false c
def PK(a:Tr):Tr:=.need (.prim [(W 0 6),(.one (.c (.k (.int .u8 1))))] none) (.binOp .sub 5 (tT 26) (.const (.int .u8 1)) 5) 5 false a
def Il(a b c d e g h i j k:Nat)(l:Tr):Tr:=.need (.call a [(W b 0),(W c d)] [(some e)]) (.call ⟨.value (.func a),#[(.tmp g),(.tmp h)],#[i,j]⟩) k true l
def hx306Q:Tr:=.ret [(.one (.c (.k (.slice none 0 0))))]
def af2(a b c d e g h:Nat)(i:Tr):Tr:=.need (.app a b (some c) (some (.u d 0)) none) (.call ⟨.builtin .append,#[(.tmp e),(.tmp g)],#[h,h]⟩) h false i
def CT(a b c d:Nat)(e:Tr):Tr:=.need (.prim [(W 0 0),(W a 0)] none) (.slice b (.tmp c) none (some (.tmp d)) none) b false e
def RX(a b c d e:Nat)(g:Tr):Tr:=.need (.app a b none (some (.u c 0)) none) (.call ⟨.builtin .append,#[(.const (.slice none 0 0)),(.tmp d)],#[e,e]⟩) e false g
def jv(a b c d e g h i j k l:Nat)(m:Tr):Tr:=.need (.call a [(.agg [(U b 0),(U c d),(U e g),(U h i)]),(.agg [(U j 0),(U j 1),(U j 2),(U j 3)])] [(some 4)]) (.call ⟨.value (.func a),#[(.tmp k),(.tmp l)],#[49,49]⟩) 49 true m
def Qc(a b c:Nat)(d:Tr):Tr:=.need (.prim [(W a 0),(WK 1)] none) (.slice b (.tmp c) (some (.const (I3 1))) none none) b false d
def Yv(a b:Nat)(c:Tr):Tr:=.need (.prim [(.one (.c (.k (.string ⟨#[45]⟩)))),(W a 0)] none) (.binOp .add 9 (.const (.string ⟨#[45]⟩)) (.tmp b) 9) 9 false c
def Yr(a:Nat)(b:Tr):Tr:=.need (.prim [(.one (.c (.k (.string ⟨#[47]⟩)))),(W a 0)] none) (.binOp .add 9 (.const (.string ⟨#[47]⟩)) (tT 20) 9) 9 false b
def HN(a b c d e g h i j:Nat)(k:Tr):Tr:=.need (.call a [(W b 0),(W c 0)] [(some d)]) (.call ⟨.value (.func a),#[(.tmp e),(.tmp g)],#[h,i]⟩) j false k
def Yl(a b c:Nat)(d:Tr):Tr:=.need (.prim [(W 2 0),(W a 0)] none) (.call ⟨.builtin .max,#[(.tmp b),(.tmp c)],#[3,3]⟩) 3 false d
def uL(a b c d e g h:Nat):Tr:=.back a [(.w (W b 0)),(.w (W c 0)),(.w (W d e)),(.w (W g h))]
def xZ(a b c d e:Nat)(g:Tr):Tr:=.need (.call a [(.agg [(U b 0),(U b 1),(U b 2)]),(W c 0)] [(some 3)]) (.call ⟨.value (.func a),#[(.tmp d),(.tmp e)],#[39,3]⟩) 39 false g
def Rw(a:Nat)(b:Tr):Tr:=.loop a [(.w (WK 0)),lN,(.w (.one (.c (.k (.bool false))))),lN] b
def ab1(a:Int)(b:Tr):Tr:=.need (.call 53 [(.one (.c (.k (.int .u8 a)))),(WK 0)] [(some 5)]) (.call ⟨.value (.func 53),#[(.const (.int .u8 a)),(.const (I3 0))],#[5,3]⟩) 42 false b
def ah1(a:Int)(b:Tr):Tr:=dV 211 [(WK a),(.one (.c (.sr 1 3)))] [(some 2)] [22,23] [3,45] 47 true b
def KX(a:Int)(b c:Nat):Tr:=.back 0 [(.w (WK a)),(.w (W b 0)),.row c]
def XY(a:Tr):Tr:=.need (.make [(.int .i64 0)] 8 (.u 4 0) (.u 4 0)) (.makeSlice 45 (tT 16) (tT 16)) 45 false a
def vh(a b c d:Nat)(e:Int)(g h:Nat)(i:Tr):Tr:=.need (.call 214 [(W a b),(W c d),(WK e)] [none]) (.call ⟨.value (.func 214),#[(.tmp g),(.tmp h),(.const (I3 e))],#[45,45,3]⟩) 45 true i
def qz(a b c d e g h:Nat)(i:Tr):Tr:=.need (.call a [(.agg [(U b 0),(U b 1)]),(.agg [(U c 0),(U c 1)])] [(some d)]) (.call ⟨.value (.func a),#[(.tmp e),(.tmp g)],#[47,47]⟩) h true i
def XA(a:Nat)(b:Tr):Tr:=dV 135 [(.agg [(U a 0),(U a 1)]),(.agg [(tE (.int .i64 1)),(U 1 0)])] [(some 2)] [40,42] [47,47] 47 true b
def ad2(a b:Nat)(c:Int)(d e:Nat)(g:Tr):Tr:=.need (.call 284 [(W a 0),(W b 0),(WK c)] [none]) (.call ⟨.value (.func 284),#[(.tmp d),(.tmp e),(.const (I3 c))],#[45,3,3]⟩) 3 false g
def sd(a b c d e g h:Nat)(i:Tr):Tr:=.need (.call a [(W b c),(W d c)] [none,none]) (.call ⟨.value (.func a),#[(.tmp e),(.tmp g)],#[45,45]⟩) h false i
def MM(a b:Nat)(c:Tr):Tr:=.need (.call 211 [(WK 1),(W a 0)] [(some 2)]) (.call ⟨.value (.func 211),#[(.const (I3 1)),(.tmp b)],#[3,45]⟩) 47 true c
def oE(a b c d:Nat):Tr:=.ret [(.agg [(U a 0),(U a 1),(U b c),(U b d)])]
def FC(a b c d e g h i j:Nat):Tr:=.back a [(.w (W b 0)),(.w (W c 0)),(.w (W d e)),(.w (W g h)),(.w (W i j))]
def NS(a b c d e g h i j k:Nat)(l:Tr):Tr:=.need (.call 126 [(.agg [(U a 0),(U b c),(U d e),(U g h)]),(W i 0)] [(some 4)]) (.call ⟨.value (.func 126),#[(.tmp j),(.tmp k)],#[49,3]⟩) 49 false l
def Lm(a b c d:Nat)(e:Tr):Tr:=.need (.prim [(W a 0)] none) (.fieldAddr b (.tmp c) d) 0 false e
def Rt(a:Nat)(b:Tr):Tr:=.need (.prim [(W 0 0)] none) (.nilCheck (.tmp a)) 0 false b
open Go.RowKit (Below)
def cd:List Nat->Code->Code
 | [],c=>c
 | 0::p,.seq a _=>cd p a
 | 1::p,.seq _ b=>cd p b
 | 0::p,.block _ a=>cd p a
 | 0::p,.loop a=>cd p a
 | 0::p,.cond _ a _=>cd p a
 | 1::p,.cond _ _ b=>cd p b
 | _,_=>.skip
def dr(fn:Func):Code:=fn.body.getD .skip
def stA(ins:List (Nat×Arg)):St:=⟨ins.mapIdx fun i p=>(p.1,dU i p.2),[],[]⟩
def ry:Nat->Code->Code
 | 0,.seq _ b=>b
 | n+1,.seq _ b=>ry n b
 | _,_=>.skip
def aj6(P:Program)(N:Nat)(hints:Nat->Option Hint):Nat->Code->Nat->Nat->Nat->Nat->St->FY->(Ex->Nat->Nat->St->FY->Tr)->Tr
 | 0,.seq a _,l,d,nb,ni,s,dec,k=>exec P N hints a l d nb ni s dec k
 | n+1,.seq a b,l,d,nb,ni,s,dec,k=>exec P N hints a l d nb ni s dec fun e nb ni s dec=>match e with
   | .normal=>aj6 P N hints n b (l+mQ a) d nb ni s dec k
   | e=>k e nb ni s dec
 | _,_,_,_,_,_,_,_,_=>.fail 1018
def as5(tail:Bool):Ex->Bool
 | .normal=>true
 | .ret=>tail
 | .exit _=>false
def al8(P:Program)(res:List ResultVar)(tail:Bool)(e:Ex)(s:St):Tr:=if as5 tail e then match(yk P s res).run s with
    | some (vs,_)=>.ret vs
    | none=>.fail 1008 else .fail 1011
def kr(P:Program)(N:Nat)(hints:Nat->Option Hint)(c:Code)(ins:List (Nat×Arg))(res:List ResultVar)(cut:Option Nat)(tail:Bool):Tr:=
 match cut with
 | none=>exec P N hints c 0 0 0 ins.length (stA ins) [] fun e nb ni s _=>al8 P res tail e s
 | some n=>aj6 P N hints n c 0 0 0 ins.length (stA ins) [] fun e nb ni s _=>al8 P res tail e s
section
variable{P:Program}{N:Nat}{M0:dh}{w0:World}{post:Out->Prop}{hints:Nat->Option Hint}
def MO(hm:P.follows .mixedOrders=true):∀(n:Nat)(c:Code)(l d nb ni:Nat)(s:St)(dec:FY)(k:Ex->Nat->Nat->St->FY->Tr)(τ:Env)(bk:List (List aG->Prop)),
  vc P post (aj6 P N hints n c l d nb ni s dec k) τ bk->τ.length=ni->ib τ dec->d<=bk.length ->
  ∀ρ a w(Q:Exit->Act->World->Prop),Sat M0 w0 N s τ ρ a w->bB5 post M0 w0 Q->si P post M0 w0->Zy P N M0 w0 post d τ bk k (Exit.then ((ry n c).wp P Q) Q)->c.wp P Q a w
 | 0,.seq x y,l,d,nb,ni,s,dec,k,τ,bk,h,hn,hd,hb,ρ,a,w,Q,hs,hp,ho,hk=>by
   refine wp_seq (ji hm x l d nb ni s dec k τ bk h hn hd hb ρ a w _ hs ?_ ho hk);intro c v a w h1 h2 h3 h4;exact hp c v a w h1 h2 h3 h4
 | n+1,.seq x y,l,d,nb,ni,s,dec,k,τ,bk,h,hn,hd,hb,ρ,a,w,Q,hs,hp,ho,hk=>by
   refine wp_seq (ji hm x l d nb ni s dec _ τ bk h hn hd hb ρ a w _ hs ?_ ho ?_)
   ·intro c v a w h1 h2 h3 h4;exact hp c v a w h1 h2 h3 h4
   ·intro ex nb' s' dec' m bk' ρ' a' w' hbk hb' hv hd' hs';cases ex with
    | normal=>
      refine MO hm n y _ d nb' _ s' dec' k (τ++m) bk' hv rfl hd' hb' ρ' a' w' Q hs' hp ho ?_;intro ex2 nb2 s2 dec2 m2 bk2 ρ2 a2 w2 hbk2 hb2 hv2 hd2 hs2;rw[eE]at hv2 hd2 hs2;exact hk ex2 nb2 s2 dec2 (m++m2) bk2 ρ2 a2 w2 (hbk2.trans hbk) hb2 hv2 hd2 hs2
    | exit id=>exact hk (.exit id) nb' s' dec' m bk' ρ' a' w' hbk hb' hv hd' hs'
    | ret=>exact hk .ret nb' s' dec' m bk' ρ' a' w' hbk hb' hv hd' hs'
 | n,.skip,l,d,nb,ni,s,dec,k,τ,bk,h,_,_,_,_,_,_,_,_,_,_,_=>by cases n<;>exact(h:False).elim
 | n,.region ..,l,d,nb,ni,s,dec,k,τ,bk,h,_,_,_,_,_,_,_,_,_,_,_=>by cases n<;>exact(h:False).elim
 | n,.cond ..,l,d,nb,ni,s,dec,k,τ,bk,h,_,_,_,_,_,_,_,_,_,_,_=>by cases n<;>exact(h:False).elim
 | n,.block ..,l,d,nb,ni,s,dec,k,τ,bk,h,_,_,_,_,_,_,_,_,_,_,_=>by cases n<;>exact(h:False).elim
 | n,.loop ..,l,d,nb,ni,s,dec,k,τ,bk,h,_,_,_,_,_,_,_,_,_,_,_=>by cases n<;>exact(h:False).elim
 | n,.exit ..,l,d,nb,ni,s,dec,k,τ,bk,h,_,_,_,_,_,_,_,_,_,_,_=>by cases n<;>exact(h:False).elim
 | n,.ret,l,d,nb,ni,s,dec,k,τ,bk,h,_,_,_,_,_,_,_,_,_,_,_=>by cases n<;>exact(h:False).elim
 | n,.scope ..,l,d,nb,ni,s,dec,k,τ,bk,h,_,_,_,_,_,_,_,_,_,_,_=>by cases n<;>exact(h:False).elim
 | n,.goto ..,l,d,nb,ni,s,dec,k,τ,bk,h,_,_,_,_,_,_,_,_,_,_,_=>by cases n<;>exact(h:False).elim
 | n,.rangeFunc ..,l,d,nb,ni,s,dec,k,τ,bk,h,_,_,_,_,_,_,_,_,_,_,_=>by cases n<;>exact(h:False).elim
end
section
variable{P:Program}
theorem DY(f:Nat->Arg->SV)(t:Nat):∀(l:List (Nat×Arg))(d:Nat)(x:SV),look (l.mapIdx fun i p=>(p.1,f (d+i) p.2)) t=some x->∃i p,l[i]?=some p/\p.1=t/\x=f (d+i) p.2
 | [],d,x,h=>by simp[look]at h
 | p::l,d,x,h=>by
   rw[xg]at h;simp only[look,Nat.add_zero]at h;split at h
   ·rename_i e;simp only[aI]at h;exact⟨0,p,rfl,e,by simpa using h.symm⟩
   ·have e:(l.mapIdx fun i p=>(p.1,f (d+(i+1)) p.2))=l.mapIdx fun i p=>(p.1,f (d+1+i) p.2):=by
     congr 1;funext i p;rw[show d+(i+1)=d+1+i by omega]
    rw[e]at h;obtain⟨i,q,h1,h2,h3⟩:=DY f t l (d+1) x h;exact⟨i+1,q,by simpa using h1,h2,by rw[h3,show d+1+i=d+(i+1) by omega]⟩
def Uu{N:Nat}{ins:List (Nat×Arg)}{xs:List In}(hin:ae In.Is (ins.map (·.2)) xs){M:Nat->Prop}{w:World}{a:Act}(hM:cX M w)(hsz:a.tmps.size=N)(hdf:a.defers=[])
  (hv:cG M w (xs.map In.ty) (ins.map fun p=>a.tmps.getD p.1 undef)):Sat ⟨M,⟨0,undef,#[]⟩⟩ w N (stA ins) (xs.map In.env) (fun _=>⟨0,undef,#[]⟩) a w:=by
 refine⟨⟨rfl,rfl,rfl,aY _,fun _ _ _=>rfl,fun x hx=>⟨(hM.2 x hx).1,oX,(hM.2 x hx).2⟩⟩,hsz,hdf,fun t=>?_,(by intro b x hb;cases hb),(by intro b b' x x' k hb;cases hb),(by intro b x k hb;cases hb),fun k hk ho=>ho.elim (fun h=>ir.2 h (hM.1 k hk)) oX,(by intro b E sz cid hb;cases hb)⟩;show gO _ _ _ _ _ ((look (ins.mapIdx fun i p=>(p.1,dU i p.2)) t).getD .junk) _;cases hl:look (ins.mapIdx fun i p=>(p.1,dU i p.2)) t with
 | none=>exact trivial
 | some x=>
   obtain⟨i,p,h1,rfl,rfl⟩:=DY dU t ins 0 x (by simpa only[Nat.zero_add]using hl);rw[Nat.zero_add];obtain⟨y,hy,hix⟩:=hin.get i p.2 (by rw[cC,h1];rfl);obtain⟨ty,hty,hrep⟩:=hv.get i _ (by rw[cC,h1];rfl);rw[cC,hy]at hty;simp only[cf,aI]at hty;subst hty;refine mr (by rw[cC,hy];rfl) hix (aG.xA ?_ hrep);intro k o hk ho _;refine⟨fun hm=>?_,ho⟩;rcases hm with hm | ⟨b,x,hb,_⟩
   ·exact hk hm
   ·cases hb
def SD{N:Nat}{M:Nat->Prop}{w w':World}{s:St}{τ:Env}{ρ:Nat->Gh}{a:Act}{res:List ResultVar}{tail:Bool}{out:Out}{e:Ex}{bk:List (List aG->Prop)}{Q:Exit->Act->World->Prop}
  (h:vc P (fun o=>ep o out) (al8 P res tail e s) τ bk) (hs:Sat ⟨M,⟨0,undef,#[]⟩⟩ w N s τ ρ a w')
  (hR:∀rs us,out=.ret rs->as5 tail e=true->Below w.heap.size w w'->a.tmps.size=N->a.defers=[]->(res.mapM (lW a.tmps)).run P w'=.ok us w'->cG M w' rs us->Q (yC e) a w'):Q (yC e) a w':=by
 unfold al8 at h;split at h
 ·rename_i hex;split at h
  ·rename_i vs' l hq;obtain⟨us,hr,hrep⟩:=lu hs hq (CS hs _);cases out with
   | ret rs=>exact hR rs us rfl hex hs.below.below hs.sz hs.df hr (cG.sub h hrep)
   | retr _ _=>exact h.elim
   | orc _ _ _=>exact h.elim
   | pan _=>exact h.elim
  ·exact h.elim
 ·exact h.elim
def aC7{c c':Code}{ins:List (Nat×Arg)}{xs:List In}{N:Nat}{hints:Nat->Option Hint}{res:List ResultVar}{tail:Bool}{out:Out}(hm:P.follows .mixedOrders=true)(hin:ae In.Is (ins.map (·.2)) xs)
  (h:vc P (fun o=>ep o out) (kr P N hints c' ins res none tail) (xs.map In.env) []) (hc:c'=c) {M:Nat->Prop} {w:World} {a:Act} {Q:Exit->Act->World->Prop} (hM:cX M w) (hsz:a.tmps.size=N) (hdf:a.defers=[])
  (hv:cG M w (xs.map In.ty) (ins.map fun p=>a.tmps.getD p.1 undef))
  (hR:∀e a' w' rs us,out=.ret rs->as5 tail e=true->Below w.heap.size w w'->a'.tmps.size=N->a'.defers=[]->(res.mapM (lW a'.tmps)).run P w'=.ok us w'->cG M w' rs us->Q (yC e) a' w')
  (hP:∀c v a' w',out=.pan c->a'.defers=[]->Below w.heap.size w w'->c.rep M w' v->Q (.panic [{ v,recovered:=false }]) a' w'):c.wp P Q a w:=by
 subst hc;have hil:xs.length=ins.length:=by have:=hin.length;simpa using this.symm
 refine ji (M0:=⟨M,⟨0,undef,#[]⟩⟩) (w0:=w) hm c' 0 0 0 ins.length _ [] _ (xs.map In.env) [] h (by simpa using hil) (by intro x hx;cases hx) (aY _) (fun _=>⟨0,undef,#[]⟩) a w _ (Uu hin hM hsz hdf hv) ?_ si.no ?_
 ·intro c v a w' hp hr hb hd;cases out with
  | pan d=>have hp:c=d:=hp;subst hp;exact hP c v a w' rfl hd hb.below hr
  | ret _=>exact hp.elim
  | retr _ _=>exact hp.elim
  | orc _ _ _=>exact hp.elim
 ·intro ex nb s dec m bk' ρ a' w' _ _ hv2 _ hs;exact SD hv2 hs fun rs us h1 h2 h3 h4 h5 h6 h7=>hR ex a' w' rs us h1 h2 h3 h4 h5 h6 h7
def FZ{c c':Code}{n:Nat}{ins:List (Nat×Arg)}{xs:List In}{N:Nat}{hints:Nat->Option Hint}{res:List ResultVar}{tail:Bool}{out:Out}(hm:P.follows .mixedOrders=true)(hin:ae In.Is (ins.map (·.2)) xs)
  (h:vc P (fun o=>ep o out) (kr P N hints c' ins res (some n) tail) (xs.map In.env) []) (hc:c'=c) {M:Nat->Prop} {w:World} {a:Act} {Q:Exit->Act->World->Prop} (hM:cX M w) (hsz:a.tmps.size=N) (hdf:a.defers=[])
  (hv:cG M w (xs.map In.ty) (ins.map fun p=>a.tmps.getD p.1 undef))
  (hR:∀e a' w' rs us,out=.ret rs->as5 tail e=true->Below w.heap.size w w'->a'.tmps.size=N->a'.defers=[]->(res.mapM (lW a'.tmps)).run P w'=.ok us w'->cG M w' rs us->Exit.then ((ry n c).wp P Q) Q (yC e) a' w')
  (hP:∀c v a' w',out=.pan c->a'.defers=[]->Below w.heap.size w w'->c.rep M w' v->Q (.panic [{ v,recovered:=false }]) a' w'):c.wp P Q a w:=by
 subst hc;have hil:xs.length=ins.length:=by have:=hin.length;simpa using this.symm
 refine MO (M0:=⟨M,⟨0,undef,#[]⟩⟩) (w0:=w) hm n c' 0 0 0 ins.length _ [] _ (xs.map In.env) [] h (by simpa using hil) (by intro x hx;cases hx) (aY _) (fun _=>⟨0,undef,#[]⟩) a w _ (Uu hin hM hsz hdf hv) ?_ si.no ?_
 ·intro c v a w' hp hr hb hd;cases out with
  | pan d=>have hp:c=d:=hp;subst hp;exact hP c v a w' rfl hd hb.below hr
  | ret _=>exact hp.elim
  | retr _ _=>exact hp.elim
  | orc _ _ _=>exact hp.elim
 ·intro ex nb s dec m bk' ρ a' w' _ _ hv2 _ hs;exact SD hv2 hs fun rs us h1 h2 h3 h4 h5 h6 h7=>hR ex a' w' rs us h1 h2 h3 h4 h5 h6 h7
theorem jJ{w:World}{tmps:Array Value}:∀{outs:List Nat}{us:List Value},((outs.map ResultVar.tmp).mapM (lW tmps)).run P w=.ok us w->us=outs.map fun t=>tmps.getD t undef
 | [],us,h=>by
   simp only[lI,List.mapM_nil,ix,Result.ok.injEq]at h;exact h.1.symm
 | t::ts,us,h=>by
   have key:∀ts:List Nat,((ts.map ResultVar.tmp).mapM (lW tmps)).run P w=.ok (ts.map fun t=>tmps.getD t undef) w:=by
    intro ts
    induction ts with
    | nil=>simp only[lI,List.mapM_nil,ix]
    | cons t ts ih=>simp only[dY,BJ,lW,iW,ix,dK,ih]
   rw[key]at h;simp only[Result.ok.injEq,ek]at h;exact h.symm
def bl0(s:St)(T:Nat)(rs:List ResultVar):Tr:=
 match rs with
 | [.tmp t]=>match s.t t with
   | .w (.one (.p b 0))=>match s.b b with
     | some (.var T' cells)=>if T'=T/\s.s b=false then match(pP cells).run s with
       | some (xs,l)=>if l.contains b=false then .ret [.agg (xs.map .c)]else .fail 1012
       | none=>.fail 1013 else .fail 1014
     | _=>.fail 1015
   | _=>.fail 1016
 | _=>.fail 1017
def ZK(P:Program)(fn:Func)(hints:Nat->Option Hint)(args:List Arg)(T:Nat):Tr:=
 match fn.body with
 | none=>.fail 1006
 | some c=>
   if args.length<=fn.ntmps then
   exec P fn.ntmps hints c 0 0 0 args.length ⟨args.mapIdx fun i a=>(i,dU i a),[],[]⟩ [] fun e nb ni s _=>match e with
    | .exit _=>.fail 1007
    | _=>bl0 s T fn.results.toList
   else .fail 1009
def Sl(P:Program)(f:FuncId)(T:Nat)(args:List aG)(cs:List aE):Prop:=
 ∀(M:Nat->Prop)(w:World)(vs:List Value),cX M w->cG M w args vs ->
  Calls P f vs.toArray w fun e w'=>Below w.heap.size w w'/\∃b us,e=.returned (.pointer (some ⟨b,0,none⟩))/\w.heap.size<=b/\w'.heap[b]?=some (.cells (List.toArray us) T (0,0))/\ab (fun k=>M k\/k=b) w' cs us
def ah8{f:FuncId}{fn:Func}{hints:Nat->Option Hint}{args:List Arg}{ins:List In}{T:Nat}{cs:List aE}(hm:P.follows .mixedOrders=true)
  (hf:P.funcs[f]?=some fn) (hin:ae In.Is args ins) (h:vc P (fun o=>ep o (.ret [.agg cs])) (ZK P fn hints args T) (ins.map In.env) []):Sl P f T (ins.map In.ty) cs:=by
 intro M w vs hM hvs;unfold ZK at h;split at h
 ·exact h.elim
 ·rename_i c hb;split at h
  ·rename_i hlen;refine iE hf hb ?_;have hil:ins.length=args.length:=hin.length.symm;have hvl:vs.length=args.length:=by rw[<-hvs.length];simpa using hil
   refine ji (M0:=⟨M,⟨0,undef,#[]⟩⟩) (w0:=w) hm c 0 0 0 args.length _ [] _ (ins.map In.env) [] h (by simpa using hil) (by intro x hx;cases hx) (aY _) (fun _=>⟨0,undef,#[]⟩) _ w _ ?_ ?_ si.no ?_
   ·refine⟨⟨rfl,rfl,rfl,aY _,fun _ _ _=>rfl,fun x hx=>⟨(hM.2 x hx).1,oX,(hM.2 x hx).2⟩⟩,?_,rfl,fun t=>?_,(by intro b x hb;cases hb),(by intro b b' x x' k hb;cases hb),(by intro b x k hb;cases hb),fun k hk ho=>ho.elim (fun h=>ir.2 h (hM.1 k hk)) oX,(by intro b E sz cid hb;cases hb)⟩
    ·simp;omega
    ·rw[Ra];cases hat:args[t]? with
     | none=>trivial
     | some g=>
       have htl:t<args.length:=(dn.1 hat).1;obtain⟨x,hx,hix⟩:=hin.get t g hat;have hvt:vs[t]?=some (vs[t]' O):=ay O;obtain⟨ty,hty,hrep⟩:=hvs.get t _ hvt;rw[cC,hx]at hty;simp only[cf,aI]at hty;subst hty
       have hval:(vs.toArray++Array.replicate (fn.ntmps-vs.toArray.size) undef).getD t undef=vs[t]' O:=by
        rw[jr,vz (by simp;omega)];simp[hvt]
       rw[hval];refine mr (by rw[cC,hx];rfl) hix (aG.xA ?_ hrep);intro k o hk ho _;refine⟨fun hm=>?_,ho⟩;rcases hm with hm | ⟨b,x,hb,_⟩
       ·exact hk hm
       ·cases hb
   ·intro c v a w' hp;exact hp.elim
   ·intro ex nb s dec m bk' ρ a w' _ _ hv _ hs
    have key:vc P (fun o=>ep o (.ret [.agg cs])) (bl0 s T fn.results.toList) (ins.map In.env++m) bk'->a.defers=[]/\∃v,(results fn a.tmps).run P w'=.ok v w'/\(Below w.heap.size w w'/\∃b us,Ending.returned v=.returned (.pointer (some ⟨b,0,none⟩))/\w.heap.size<=b/\w'.heap[b]?=some (.cells (List.toArray us) T (0,0))/\ab (fun k=>M k\/k=b) w' cs us):=by
     clear hv;intro hv;unfold bl0 at hv;split at hv
     ·rename_i t hres;split at hv
      ·rename_i b0 hbt;split at hv
       ·rename_i T' cells hbx;split at hv
        ·rename_i hc;obtain⟨rfl,hsb⟩:=hc;split at hv
         ·rename_i xs l hq;split at hv
          ·rename_i hl;obtain⟨us,hh,hall⟩:=hs.bx b0 _ hbx;have htv:=hs.tm t;rw[hbt]at htv;have hptr:a.tmps.getD t undef=.pointer (some ⟨(ρ b0).blk,0,none⟩):=htv.2;have hown:own ρ b0 (.var T' cells)=some (ρ b0).blk:=rfl;have hlo:=hs.lo b0 _ _ hbx hown
           have hS:bW ⟨M,⟨0,undef,#[]⟩⟩ ρ s l (fun k=>M k\/k=(ρ b0).blk):=by
            refine⟨fun k hk=>?_,fun b x k h1 h2 h3 hk=>?_⟩
            ·rcases hk with hk | rfl
             ·exact .inl hk
             ·exact .inr ⟨b0,_,hbx,hsb,hown⟩
            ·rcases hk with hk | rfl
             ·exact hs.old k hk (hs.lo b x k h1 h2).1
             ·have:=hs.inj b b0 x _ _ h1 hbx h2 hown;subst this;rcases h3 with h3 | h3
              ·rw[hsb]at h3;cases h3
              ·have:l.contains b=true:=by simpa using h3
               rw[hl]at this;cases this
           have hrep:=mB hs hq hS hall;refine⟨hs.df,_,jH fn a.tmps [.pointer (some ⟨(ρ b0).blk,0,none⟩)] ?_,hs.below.below,(ρ b0).blk,us,rfl,?_,hh,?_⟩
           ·rw[hres];simp only[BJ,List.mapM_nil,lW,iW,ix,dK,hptr]
           ·rcases hlo.1 with h1 | h1
            ·exact h1
            ·exact(oX h1).elim
           ·have hsub:aQ [.agg ((xs.map SC.c).map (TH (ins.map In.env++m)))] [.agg cs]:=hv;have h2:=hsub.1;rw[eU]at h2;exact ab.sub h2 hrep
          ·exact hv.elim
         ·exact hv.elim
        ·exact hv.elim
       ·exact hv.elim
      ·exact hv.elim
     ·exact hv.elim
    cases ex with
    | normal=>exact key hv
    | ret=>exact key hv
    | exit id=>exact hv.elim
  ·exact h.elim
end
open Go.RowKit (Below)
def RL(ins:List (Nat×Arg))(t0:Nat)(sv:SV)(bx:Bx):St:=⟨(ins.mapIdx fun i p=>(p.1,dU i p.2))++[(t0,sv)],[(0,bx)],[]⟩
section
variable{P:Program}
def Rl{N:Nat}{ins:List (Nat×Arg)}{xs:List In}{t0:Nat}{sv:SV}{bx:Bx}{gh:Gh}{y:aG}(hin:ae In.Is (ins.map (·.2)) xs){M:Nat->Prop}{w:World}{a:Act}
  (hM:cX (fun k=>M k\/gh.val.ownBlock=some k) w) (hMd:∀k,M k->gh.val.ownBlock≠some k) (hsz:a.tmps.size=N) (hdf:a.defers=[])
  (hv:cG (fun k=>M k\/gh.val.ownBlock=some k) w (xs.map In.ty) (ins.map fun p=>a.tmps.getD p.1 undef))
  (hown:own (fun _=>gh) 0 bx=gh.val.ownBlock)
  (hsv:gO (fun b=>((RL ins t0 sv bx).b b).isSome) (xs.map In.env++[y]) (fun _=>gh) (fun k=>M k\/gh.val.ownBlock=some k) w sv (a.tmps.getD t0 undef))
  (hbx:mo 0 (fun b=>((RL ins t0 sv bx).b b).isSome) (xs.map In.env++[y]) (fun _=>gh) (fun k=>M k\/gh.val.ownBlock=some k) w 0 bx)
  (holt:∀k,gh.val.ownBlock=some k->k<w.heap.size):Sat ⟨M,gh⟩ w N (RL ins t0 sv bx) (xs.map In.env++[y]) (fun _=>gh) a w:=by
 have hil:xs.length=ins.length:=by have:=hin.length;simpa using this.symm
 have hb0:∀b x,(RL ins t0 sv bx).b b=some x->b=0/\x=bx:=by
  intro b x h;simp only[RL,St.b,look]at h;split at h
  ·rename_i e;simp only[aI]at h;exact⟨e.symm,h.symm⟩
  ·cases h
 have hb00:(RL ins t0 sv bx).b 0=some bx:=by simp[RL,St.b,look]
 have hMs:Ms ⟨M,gh⟩ (fun _=>gh) (RL ins t0 sv bx)=fun k=>M k\/gh.val.ownBlock=some k:=by
  funext k
  apply propext
  constructor
  ·rintro(hk | ⟨b,x,h1,_,h3⟩)
   ·exact .inl hk
   ·obtain⟨rfl,rfl⟩:=hb0 b x h1;rw[hown]at h3;exact .inr h3
  ·rintro(hk | hk)
   ·exact .inl hk
   ·exact .inr ⟨0,bx,hb00,by simp[RL,St.s],by rw[hown];exact hk⟩
 refine⟨⟨rfl,rfl,rfl,aY _,fun _ _ _=>rfl,fun x hx=>⟨fun h=>(hM.2 x hx).1 (.inl h),fun h=>(hM.2 x hx).1 (.inr h),(hM.2 x hx).2⟩⟩,hsz,hdf,fun t=>?_,fun b x h=>?_,fun b b' x x' k h1 h2 _ _=>?_,fun b x k h1 h2=>?_,fun k hk ho=>?_,fun b E sz cid h=>?_⟩
 ·rw[hMs];show gO _ _ _ _ _ ((look ((ins.mapIdx fun i p=>(p.1,dU i p.2))++[(t0,sv)]) t).getD .junk) _;rw[OL];cases hl:look (ins.mapIdx fun i p=>(p.1,dU i p.2)) t with
  | none=>
    simp only[Option.none_or,look];split
    ·rename_i e;subst e;exact hsv
    ·exact trivial
  | some x=>
    simp only[Option.some_or,ei];obtain⟨i,p,h1,rfl,rfl⟩:=DY dU t ins 0 x (by simpa only[Nat.zero_add]using hl);rw[Nat.zero_add];obtain⟨z,hy,hix⟩:=hin.get i p.2 (by rw[cC,h1];rfl);obtain⟨ty,hty,hrep⟩:=hv.get i _ (by rw[cC,h1];rfl);rw[cC,hy]at hty;simp only[cf,aI]at hty;subst hty;have hi:i<xs.length:=(dn.1 hy).1;exact mr (by rw[fJ (by simpa using hi),cC,hy];rfl) hix hrep
 ·rw[hMs];obtain⟨rfl,rfl⟩:=hb0 b x h;exact hbx
 ·rw[(hb0 b x h1).1,(hb0 b' x' h2).1]
 ·obtain⟨rfl,rfl⟩:=hb0 b x h1;rw[hown]at h2;exact⟨.inr h2,holt k h2⟩
 ·rcases ho with ho | ho
  ·exact ir.2 ho (hM.1 k (.inl hk))
  ·exact hMd k hk ho
 ·rfl
def Ri(P:Program)(tr E sz:Nat)(res:List ResultVar)(e:Ex)(s:St):Tr:=match e with
 | .normal=>match s.t tr with
   | .w (.one (.r b))=>match s.b b with
     | some (.row E' sz' cid)=>match(yk P s res).run s with
       | some (vs,l)=>if E'=E/\sz'=sz/\s.s b=false/\l.contains b=false then .retr vs cid else .fail 1020
       | none=>.fail 1008
     | _=>.fail 1021
   | _=>.fail 1022
 | _=>.fail 1023
def XS(P:Program)(N:Nat)(hints:Nat->Option Hint)(c:Code)(ins:List (Nat×Arg))(t0 E sz tr:Nat)(res:List ResultVar):Tr:=
 exec P N hints c 0 0 1 (ins.length+1) (RL ins t0 (.w (.one (.r 0))) (.row E sz ins.length)) [] fun e nb ni s _=>Ri P tr E sz res e s
def bh0{c c':Code}{ins:List (Nat×Arg)}{xs:List In}{N t0 E sz tr:Nat}{hints:Nat->Option Hint}{res:List ResultVar}{ts ts':List (List aE)}{rs:List aG}(hm:P.follows .mixedOrders=true)(hin:ae In.Is (ins.map (·.2)) xs)
  {of:Nat} {oa on:List aG} (h:vc P (fun o=>o=.retr rs ts'\/o=.orc of oa on) (XS P N hints c' ins t0 E sz tr res) (xs.map In.env++[.rows ts]) []) (hc:c'=c) {M:Nat->Prop} {w:World} {a:Act} {Q:Exit->Act->World->Prop} {v:Value} {vs:List Value} {base:Nat}
  (hor:(∀as w,(callFunc of as).run P w=.ok (.enter of as) w)/\∀(M:Nat->Prop)(w':World)(vs:List Value),w.heap.size<=w'.heap.size->cX M w'->cG M w' oa vs->Calls P of vs.toArray w' fun e w2=>Below w'.heap.size w' w2/\qM M w2 (.ret on) e) (hM:cX (fun k=>M k\/v.ownBlock=some k) w) (hMd:∀k,M k->v.ownBlock≠some k) (hsz:a.tmps.size=N) (hdf:a.defers=[])
  (hv:cG (fun k=>M k\/v.ownBlock=some k) w (xs.map In.ty) (ins.map fun p=>a.tmps.getD p.1 undef)) (ht0:a.tmps.getD t0 undef=v) (hrow:w.ownsRow base E sz v ts.length vs) (hts:∀t∈ts,t.length=sz) (hrep:ab (fun k=>M k\/v.ownBlock=some k) w ts.flatten vs)
  (hR:∀a' w' us v' vs',w.grownBy w' v.ownBlock->a'.tmps.size=N->a'.defers=[]->(res.mapM (lW a'.tmps)).run P w'=.ok us w'->a'.tmps.getD tr undef=v'->w'.ownsRow 0 E sz v' ts'.length vs'->(∀k,v'.ownBlock=some k->w.heap.size<=k\/v.ownBlock=some k) ->
   cG (fun k=>M k\/v'.ownBlock=some k) w' rs us->ab (fun k=>M k\/v'.ownBlock=some k) w' ts'.flatten vs'->Q .normal a' w'):c.wp P Q a w:=by
 subst hc;have hil:xs.length=ins.length:=by have:=hin.length;simpa using this.symm
 have hv1:v.oneCell'=true:=by
  rcases hrow.2 with⟨hv,_⟩ | ⟨g,cap,cur,hv,_⟩<;>rw[hv]<;>rfl
 have holt:∀k,v.ownBlock=some k->k<w.heap.size:=fun k hk=>(hrow.lt k hk).2
 have hrow0:w.ownsRow 0 E sz v ts.length vs:=by
  refine⟨hrow.1,?_⟩;rcases hrow.2 with hn | ⟨g,cap,cur,hv,hbg,rest⟩
  ·exact .inl hn
  ·exact .inr ⟨g,cap,cur,hv,bO _,rest⟩
 refine ji (M0:=⟨M,⟨0,v,#[]⟩⟩) (w0:=w) hm c' 0 0 1 (ins.length+1) _ [] _ (xs.map In.env++[.rows ts]) [] h (by simp[hil]) (by intro x hx;cases hx) (aY _) (fun _=>⟨0,v,#[]⟩) a w _
  (Rl (gh:=⟨0,v,#[]⟩) (t0:=t0) (sv:=.w (.one (.r 0))) (bx:=.row E sz ins.length) (y:=.rows ts) hin hM hMd hsz hdf hv rfl ⟨by simp[RL,St.b,look],ht0,by rw[ht0];exact hv1⟩ ⟨ts,vs,by rw[fX (by simp[hil]),aR,hil,iY];rfl,hrow0,hts,hrep⟩ holt) ?_ ?_ ?_
 ·intro c v a w' hp;rcases hp with hp | hp<;>cases hp
 ·intro f args news hp;rcases hp with hp | hp
  ·cases hp
  ·cases hp;exact⟨hor.1,fun M w' vs hk hM hr=>hor.2 M w' vs hk.size hM hr⟩
 ·intro ex nb s dec m bk' ρ a' w' _ _ hv2 _ hs;replace hv2:vc P (fun o=>o=.retr rs ts'\/o=.orc of oa on) (Ri P tr E sz res ex s) (xs.map In.env++[.rows ts]++m) bk':=hv2;cases ex with
  | exit id=>exact hv2.elim
  | ret=>exact hv2.elim
  | normal=>
    unfold Ri at hv2;simp only at hv2;split at hv2
    ·rename_i b0 hbt;split at hv2
     ·rename_i E' sz' cid hbx;split at hv2
      ·rename_i vs2 l hq;split at hv2
       ·rename_i hc;obtain⟨rfl,rfl,hsb,hl⟩:=hc;obtain⟨ts2,hcid,hpo⟩:=hv2;replace hpo:Out.retr (vs2.map (oW _)) ts2=Out.retr rs ts':=hpo.resolve_right (fun e=>by cases e);simp only[Out.retr.injEq]at hpo;obtain⟨hrs,rfl⟩:=hpo;obtain⟨ts3,xs3,hcid3,hown3,hlen3,hrep3⟩:=hs.bx b0 _ hbx;rw[hcid]at hcid3;simp only[aI,aG.rows.injEq]at hcid3;subst hcid3;have htv:=hs.tm tr;rw[hbt]at htv;have hval:a'.tmps.getD tr undef=(ρ b0).val:=htv.2.1;have hown:own ρ b0 (.row E' sz' cid)=(ρ b0).val.ownBlock:=rfl
        have hS:bW ⟨M,⟨0,v,#[]⟩⟩ ρ s l (fun k=>M k\/(ρ b0).val.ownBlock=some k):=by
         refine⟨fun k hk=>?_,fun b x k h1 h2 h3 hk=>?_⟩
         ·rcases hk with hk | hk
          ·exact .inl hk
          ·exact .inr ⟨b0,_,hbx,hsb,hk⟩
         ·rcases hk with hk | hk
          ·exact hs.old k hk (hs.lo b x k h1 h2).1
          ·have:=hs.inj b b0 x _ _ h1 hbx h2 hk;subst this;rcases h3 with h3 | h3
           ·rw[hsb]at h3;cases h3
           ·have:l.contains b=true:=by simpa using h3
            rw[hl]at this;cases this
        obtain⟨us,hr,hrepr⟩:=lu hs hq hS;have hbel:=hs.below;refine hR a' w' us (ρ b0).val xs3 ⟨hbel.os,hbel.tape,hbel.output,hbel.size,fun k hk hne=>hbel.block k hk fun ho=>hne ?_⟩ hs.sz hs.df hr hval hown3 (fun k hk=>?_) (by rw[<-hrs];exact hrepr) (hrep3.mono hS.gj)
        ·exact(show v.ownBlock=some k from ho).symm
        ·exact(hs.lo b0 _ k hbx hk).1
       ·exact hv2.elim
      ·exact hv2.elim
     ·exact hv2.elim
    ·exact hv2.elim
def yI(P:Program)(T n:Nat)(res:List ResultVar)(e:Ex)(s:St):Tr:=match e with
 | .normal=>match(yk P s res).run s with
   | some (vs,l)=>Lu s T n vs l
   | none=>.fail 1008
 | _=>.fail 1023
def ad5(P:Program)(N:Nat)(hints:Nat->Option Hint)(c:Code)(ins:List (Nat×Arg))(t0 T n:Nat)(res:List ResultVar):Tr:=
 exec P N hints c 0 0 1 (ins.length+1) (RL ins t0 (.w (.one (.rp 0 n (.k (.int .i64 0)) 0))) (.part T n ins.length)) [] fun e nb ni s _=>yI P T n res e s
def aq0{c c':Code}{ins:List (Nat×Arg)}{xs:List In}{N t0 T n:Nat}{hints:Nat->Option Hint}{res:List ResultVar}{cs cs':List aE}{rs:List aG}(hm:P.follows .mixedOrders=true)(hin:ae In.Is (ins.map (·.2)) xs)
  (h:vc P (fun o=>o=.retr rs [cs']) (ad5 P N hints c' ins t0 T n res) (xs.map In.env++[.rows [cs]]) []) (hc:c'=c) {M:Nat->Prop} {w:World} {a:Act} {Q:Exit->Act->World->Prop} {g:Nat} {cur:Array Value}
  (hM:cX M w) (hMg:M g) (hsz:a.tmps.size=N) (hdf:a.defers=[]) (hcn:cs.length=n)
  (hv:cG M w (xs.map In.ty) (ins.map fun p=>a.tmps.getD p.1 undef)) (ht0:a.tmps.getD t0 undef=.pointer (some ⟨g,0,none⟩)) (hg:w.heap[g]?=some (.cells cur T (0,0))) (hrep:ab M w cs cur.toList)
  (hR:∀a' w' us cur',w.grownBy w' (some g)->a'.tmps.size=N->a'.defers=[]->(res.mapM (lW a'.tmps)).run P w'=.ok us w'->w'.heap[g]?=some (.cells cur' T (0,0))->cG M w' rs us->ab M w' cs' cur'.toList->Q .normal a' w'):c.wp P Q a w:=by
 subst hc;have hil:xs.length=ins.length:=by have:=hin.length;simpa using this.symm
 have hcl:cur.size=n:=by have:=hrep.length;simp at this;omega
 obtain⟨M1,hM1⟩:∃M1:Nat->Prop,M1=fun k=>M k/\k≠g:=⟨_,rfl⟩
 obtain⟨gh,hgh⟩:∃gh:Gh,gh=⟨0,.slice (some ⟨g,0,none⟩) 1 1,cur⟩:=⟨_,rfl⟩
 have hob:∀k,gh.val.ownBlock=some k↔k=g:=fun k=>by subst hgh;simp[Value.ownBlock,eq_comm]
 have hMM:(fun k=>M1 k\/gh.val.ownBlock=some k)=M:=by
  funext k
  apply propext;rw[hob,hM1]
  constructor
  ·rintro(h | rfl)
   ·exact h.1
   ·exact hMg
  ·intro h;by_cases e:k=g
   ·exact .inr e
   ·exact .inl ⟨h,e⟩
 have hglt:g<w.heap.size:=(cK.1 hg).1;have hval:gh.val=.slice (some ⟨g,0,none⟩) 1 1:=by rw[hgh]
 have hcur:gh.cur=cur:=by rw[hgh]
 refine ji (M0:=⟨M1,gh⟩) (w0:=w) hm c' 0 0 1 (ins.length+1) _ [] _ (xs.map In.env++[.rows [cs]]) [] h (by simp[hil]) (by intro x hx;cases hx) (aY _) (fun _=>gh) a w _
  (Rl (gh:=gh) (t0:=t0) (sv:=.w (.one (.rp 0 n (.k (.int .i64 0)) 0))) (bx:=.part T n ins.length) (y:=.rows [cs]) hin (by rw[hMM];exact hM) (fun k hk e=>by rw[hM1]at hk;exact hk.2 ((hob k).1 e)) hsz hdf (by rw[hMM];exact hv) rfl ?_ ?_ (fun k hk=>by rw[(hob k).1 hk];exact hglt)) ?_ si.noR ?_
 ·exact⟨by simp[RL,St.b,look],g,0,1,1,.i64,0,hval,rfl,O,by rw[ht0];simp⟩
 ·rw[hMM];refine⟨[cs],cur.toList,?_,⟨by simp[hcl],.inr ⟨g,0,1,cur,hval,hg,aY _,by simp[maxLen],by simp[hcl],?_⟩⟩,by intro t ht;rw[fH.1 ht];exact hcn,by simpa using hrep,by rw[hval];rfl,?_⟩
  ·rw[fX (by simp[hil]),aR,hil,iY];rfl
  ·rw[show([cs]:List (List aE)).length*n=cur.toList.length by simp[hcl],eF]
   first | exact(List.take_of_length_le (by simp)).symm | exact List.take_of_length_le (by simp)
  ·intro g2 off2 len2 cap2 hv cur2 hg2;rw[hval]at hv;simp only[iz,aI,kH,ek]at hv;obtain⟨⟨rfl,rfl⟩,rfl,rfl⟩:=hv;rw[hg]at hg2;simp only[aI,qn,ek]at hg2;subst hg2;rw[hcur];exact⟨rfl,fun _ _=>rfl⟩
 ·intro c v a w' hp;cases hp
 ·intro ex nb s dec m bk' ρ a' w' _ _ hv2 _ hs;replace hv2:vc P (fun o=>o=.retr rs [cs']) (yI P T n res ex s) (xs.map In.env++[.rows [cs]]++m) bk':=hv2;cases ex with
  | exit id=>exact hv2.elim
  | ret=>exact hv2.elim
  | normal=>
    unfold yI at hv2;simp only at hv2;split at hv2
    ·rename_i vs' l hq;unfold Lu at hv2;split at hv2
     ·rename_i E' sz' cid hb0;split at hv2
      ·rename_i hc;obtain⟨rfl,rfl,hs0,hl0⟩:=hc;obtain⟨ts2,hcid,hpo⟩:=hv2;have hpo:Out.retr _ ts2=Out.retr rs [cs']:=hpo;simp only[Out.retr.injEq]at hpo;obtain⟨hrs,rfl⟩:=hpo;have hgh0:=hs.pt 0 E' sz' cid hb0;have hgh0:ρ 0=gh:=hgh0;have hown0:own ρ 0 (.part E' sz' cid)=some g:=by simp only[own,hgh0];exact(hob g).2 rfl
       have hS:bW ⟨M1,gh⟩ ρ s l M:=by
        refine⟨fun k hk=>?_,fun b x k h1 h2 h3 hk=>?_⟩
        ·by_cases hkg:k=g
         ·subst hkg;exact .inr ⟨0,_,hb0,hs0,hown0⟩
         ·exact .inl (by rw[hM1];exact⟨hk,hkg⟩)
        ·by_cases hkg:k=g
         ·subst hkg;have:=hs.inj b 0 x _ k h1 hb0 h2 hown0;subst this;rcases h3 with h3 | h3
          ·rw[hs0]at h3;cases h3
          ·have:l.contains 0=true:=by simpa using h3
           rw[hl0]at this;cases this
         ·exact hs.old k (by rw[hM1];exact⟨hk,hkg⟩) (hs.lo b x k h1 h2).1
       obtain⟨us,hr,hrepr⟩:=lu hs hq hS;obtain⟨ts3,xs3,hcid3,⟨hxl,hown⟩,hlen3,hrep3,_,hfr⟩:=hs.bx 0 _ hb0;rw[hcid]at hcid3;simp only[aI,aG.rows.injEq]at hcid3;subst hcid3;rw[hgh0]at hown hfr;rcases hown with⟨_,c,hv⟩ | ⟨g2,off2,cap2,cur2,hv,hg2,hnc,hcm,hfit2,htake⟩
       ·rw[hval]at hv;simp at hv
       ·rw[hval]at hv;simp only[iz,aI,kH,ek]at hv;obtain⟨⟨rfl,rfl⟩,hll,rfl⟩:=hv;obtain⟨hf1,hf2⟩:=hfr g 0 1 1 hval cur2 hg2;rw[hcur]at hf1 hf2;have hbel:=hs.below;refine hR a' w' us cur2 ⟨hbel.os,hbel.tape,hbel.output,hbel.size,fun k hk hne=>hbel.block k hk fun ho=>hne (by rw[(hob k).1 ho])⟩ hs.sz hs.df hr hg2 (by rw[<-hrs];exact hrepr) ?_;have h3:=hrep3.mono hS.gj;rw[<-htake]at h3;have hc2:cur2.toList.length=sz':=by simp[hf1,hcl]
        simpa[List.take_of_length_le,hc2]using h3
      ·exact hv2.elim
     ·exact hv2.elim
    ·exact hv2.elim
end
open Go.RowKit (Below)
section
variable{P:Program}{N:Nat}{M0:dh}{w0:World}{post:Out->Prop}{hints:Nat->Option Hint}
end
def FK:SV->Bool
 | .w (.one (.rp b _ i off))=>b==0&&(match i with | .k (.int .i64 z)=>z==0&&off==0 | _=>false)
 | _=>false
def Cz(P:Program)(N:Nat)(hints:Nat->Option Hint)(c:Code)(ins:List (Nat×Arg))(t0 T n:Nat)(res:List ResultVar):Tr:=
 exec P N hints c 0 0 1 (ins.length+1) (RL ins t0 (.w (.one (.rp 0 n (.k (.int .i64 0)) 0))) (.part T n ins.length)) [] fun e nb ni s _=>if FK (s.t t0)=true then yI P T n res e s else .fail 1032
section
variable{P:Program}
def yP{c c':Code}{ins:List (Nat×Arg)}{xs:List In}{N t0 T n:Nat}{hints:Nat->Option Hint}{res:List ResultVar}{cs cs':List aE}{rs:List aG}(hm:P.follows .mixedOrders=true)(hin:ae In.Is (ins.map (·.2)) xs)
  (h:vc P (fun o=>o=.retr rs [cs']) (Cz P N hints c' ins t0 T n res) (xs.map In.env++[.rows [cs]]) []) (hc:c'=c) {M:Nat->Prop} {w:World} {a:Act} {Q:Exit->Act->World->Prop} {g:Nat} {cur:Array Value}
  (hM:cX M w) (hMg:M g) (hsz:a.tmps.size=N) (hdf:a.defers=[]) (hcn:cs.length=n)
  (hv:cG M w (xs.map In.ty) (ins.map fun p=>a.tmps.getD p.1 undef)) (ht0:a.tmps.getD t0 undef=.pointer (some ⟨g,0,none⟩)) (hg:w.heap[g]?=some (.cells cur T (0,0))) (hrep:ab M w cs cur.toList)
  (hR:∀a' w' us cur',w.grownBy w' (some g)->a'.tmps.size=N->a'.defers=[]->(res.mapM (lW a'.tmps)).run P w'=.ok us w'->w'.heap[g]?=some (.cells cur' T (0,0))->cG M w' rs us->ab M w' cs' cur'.toList->a'.tmps.getD t0 undef=.pointer (some ⟨g,0,none⟩)->Q .normal a' w'):c.wp P Q a w:=by
 subst hc;have hil:xs.length=ins.length:=by have:=hin.length;simpa using this.symm
 have hcl:cur.size=n:=by have:=hrep.length;simp at this;omega
 obtain⟨M1,hM1⟩:∃M1:Nat->Prop,M1=fun k=>M k/\k≠g:=⟨_,rfl⟩
 obtain⟨gh,hgh⟩:∃gh:Gh,gh=⟨0,.slice (some ⟨g,0,none⟩) 1 1,cur⟩:=⟨_,rfl⟩
 have hob:∀k,gh.val.ownBlock=some k↔k=g:=fun k=>by subst hgh;simp[Value.ownBlock,eq_comm]
 have hMM:(fun k=>M1 k\/gh.val.ownBlock=some k)=M:=by
  funext k
  apply propext;rw[hob,hM1]
  constructor
  ·rintro(h | rfl)
   ·exact h.1
   ·exact hMg
  ·intro h;by_cases e:k=g
   ·exact .inr e
   ·exact .inl ⟨h,e⟩
 have hglt:g<w.heap.size:=(cK.1 hg).1;have hval:gh.val=.slice (some ⟨g,0,none⟩) 1 1:=by rw[hgh]
 have hcur:gh.cur=cur:=by rw[hgh]
 refine ji (M0:=⟨M1,gh⟩) (w0:=w) hm c' 0 0 1 (ins.length+1) _ [] _ (xs.map In.env++[.rows [cs]]) [] h (by simp[hil]) (by intro x hx;cases hx) (aY _) (fun _=>gh) a w _
  (Rl (gh:=gh) (t0:=t0) (sv:=.w (.one (.rp 0 n (.k (.int .i64 0)) 0))) (bx:=.part T n ins.length) (y:=.rows [cs]) hin (by rw[hMM];exact hM) (fun k hk e=>by rw[hM1]at hk;exact hk.2 ((hob k).1 e)) hsz hdf (by rw[hMM];exact hv) rfl ?_ ?_ (fun k hk=>by rw[(hob k).1 hk];exact hglt)) ?_ si.noR ?_
 ·exact⟨by simp[RL,St.b,look],g,0,1,1,.i64,0,hval,rfl,O,by rw[ht0];simp⟩
 ·rw[hMM];refine⟨[cs],cur.toList,?_,⟨by simp[hcl],.inr ⟨g,0,1,cur,hval,hg,aY _,by simp[maxLen],by simp[hcl],?_⟩⟩,by intro t ht;rw[fH.1 ht];exact hcn,by simpa using hrep,by rw[hval];rfl,?_⟩
  ·rw[fX (by simp[hil]),aR,hil,iY];rfl
  ·rw[show([cs]:List (List aE)).length*n=cur.toList.length by simp[hcl],eF]
   first | exact(List.take_of_length_le (by simp)).symm | exact List.take_of_length_le (by simp)
  ·intro g2 off2 len2 cap2 hv cur2 hg2;rw[hval]at hv;simp only[iz,aI,kH,ek]at hv;obtain⟨⟨rfl,rfl⟩,rfl,rfl⟩:=hv;rw[hg]at hg2;simp only[aI,qn,ek]at hg2;subst hg2;rw[hcur];exact⟨rfl,fun _ _=>rfl⟩
 ·intro c v a w' hp;cases hp
 ·intro ex nb s dec m bk' ρ a' w' _ _ hv2 _ hs;replace hv2:vc P (fun o=>o=.retr rs [cs']) (if FK (s.t t0)=true then yI P T n res ex s else .fail 1032) (xs.map In.env++[.rows [cs]]++m) bk':=hv2;split at hv2
  rotate_left
  ·exact hv2.elim
  rename_i hkp;cases ex with
  | exit id=>exact hv2.elim
  | ret=>exact hv2.elim
  | normal=>
    unfold yI at hv2;simp only at hv2;split at hv2
    ·rename_i vs' l hq;unfold Lu at hv2;split at hv2
     ·rename_i E' sz' cid hb0;split at hv2
      ·rename_i hc;obtain⟨rfl,rfl,hs0,hl0⟩:=hc;obtain⟨ts2,hcid,hpo⟩:=hv2;have hpo:Out.retr _ ts2=Out.retr rs [cs']:=hpo;simp only[Out.retr.injEq]at hpo;obtain⟨hrs,rfl⟩:=hpo;have hgh0:=hs.pt 0 E' sz' cid hb0;have hgh0:ρ 0=gh:=hgh0;have hown0:own ρ 0 (.part E' sz' cid)=some g:=by simp only[own,hgh0];exact(hob g).2 rfl
       have hS:bW ⟨M1,gh⟩ ρ s l M:=by
        refine⟨fun k hk=>?_,fun b x k h1 h2 h3 hk=>?_⟩
        ·by_cases hkg:k=g
         ·subst hkg;exact .inr ⟨0,_,hb0,hs0,hown0⟩
         ·exact .inl (by rw[hM1];exact⟨hk,hkg⟩)
        ·by_cases hkg:k=g
         ·subst hkg;have:=hs.inj b 0 x _ k h1 hb0 h2 hown0;subst this;rcases h3 with h3 | h3
          ·rw[hs0]at h3;cases h3
          ·have:l.contains 0=true:=by simpa using h3
           rw[hl0]at this;cases this
         ·exact hs.old k (by rw[hM1];exact⟨hk,hkg⟩) (hs.lo b x k h1 h2).1
       obtain⟨us,hr,hrepr⟩:=lu hs hq hS;obtain⟨ts3,xs3,hcid3,⟨hxl,hown⟩,hlen3,hrep3,_,hfr⟩:=hs.bx 0 _ hb0;rw[hcid]at hcid3;simp only[aI,aG.rows.injEq]at hcid3;subst hcid3;rw[hgh0]at hown hfr;rcases hown with⟨_,c,hv⟩ | ⟨g2,off2,cap2,cur2,hv,hg2,hnc,hcm,hfit2,htake⟩
       ·rw[hval]at hv;simp at hv
       ·rw[hval]at hv;simp only[iz,aI,kH,ek]at hv;obtain⟨⟨rfl,rfl⟩,hll,rfl⟩:=hv;obtain⟨hf1,hf2⟩:=hfr g 0 1 1 hval cur2 hg2;rw[hcur]at hf1 hf2;have hbel:=hs.below;refine hR a' w' us cur2 ⟨hbel.os,hbel.tape,hbel.output,hbel.size,fun k hk hne=>hbel.block k hk fun ho=>hne (by rw[(hob k).1 ho])⟩ hs.sz hs.df hr hg2 (by rw[<-hrs];exact hrepr) ?_ ?_
        ·have h3:=hrep3.mono hS.gj;rw[<-htake]at h3;have hc2:cur2.toList.length=sz':=by simp[hf1,hcl]
         simpa[List.take_of_length_le,hc2]using h3
        ·have ht:=hs.tm t0
         revert ht
         unfold FK at hkp;split at hkp
         ·rename_i b sz0 i off e0;rw[bz,cY]at hkp;obtain⟨rfl,hz⟩:=hkp;rw[e0];rintro⟨_,g3,o0,len,cap,kk,nn,hv3,hc3,_,hp3⟩;rw[hgh0,hval]at hv3;simp only[iz,aI,kH,ek]at hv3;obtain⟨⟨rfl,rfl⟩,_,_⟩:=hv3
          obtain⟨hz2,hof⟩:nn.toNat=0/\off=0:=by
           split at hz
           ·rename_i z;rw[bz,cY,cY]at hz;obtain⟨rfl,hof⟩:=hz;refine⟨?_,hof⟩;have e1:(aE.exact (Value.int IntKind.i64 0))=aE.exact (.int kk nn):=hc3;have e2:(aE.exact (Value.int IntKind.i64 0)).rep M w (.int .i64 0):=⟨rfl,rfl⟩
            rw[e1]at e2;have e3:=e2.1;simp only[Value.int.injEq]at e3;rw[<-e3.2];rfl
           ·cases hz
          rw[hp3,hz2,hof];simp
         ·cases hkp
      ·exact hv2.elim
     ·exact hv2.elim
    ·exact hv2.elim
end
end Go.Sy
