/- Part. -/
import Derived.Test.YtacgmapjhpghkaaGreatDoorSc
import Derived.Deep.LoopGhost
import Derived.Laws.Bits64
set_option linter.all false
namespace Go.Sy
open Go.RowKit (Below)
def pI:Ex->Exit
 | .normal=>.normal
 | .exit id=>.exit id
 | .ret=>.ret
section
variable {P:Program} {N:Nat} {M0:eG} {w0:World} {post:Out->Prop} {hints:Nat->Option Hint}
def aW9 (post:Out->Prop) (M0:eG) (w0:World) (Q:Exit->Act->World->Prop):Prop:=
 ∀ c v a w,post (.pan c)->c.rep M0.M w v->Kept M0 w0 w->a.defers = []->Q (.panic [{ v,recovered:=false }]) a w
def yD (P:Program) (post:Out->Prop) (M0:eG) (w0:World):Prop:=
 ∀ f args news,post (.IT f args news)->(∀ as w,(callFunc f as).run P w = .ok (.enter f as) w)/\∀ (M:Nat->Prop) (w:World) (vs:List Value),Kept M0 w0 w->cK M w->cD M w args vs->Calls P f vs.toArray w fun e w'=>Below w.heap.size w w'/\rA M w' (.ret news) e
theorem yD.no {P:Program} {out:Out} {M0:eG} {w0:World}:yD P (fun o=>cG o out) M0 w0:=fun f args news h=>by cases out<;>exact (h:False).elim
theorem yD.noR {P:Program} {rs:List aJ} {ts:List (List aD)} {M0:eG} {w0:World}:yD P (fun o=>o = .retr rs ts) M0 w0:=fun f args news h=>by cases h
def Vr (P:Program) (N:Nat) (M0:eG) (w0:World) (post:Out->Prop) (d:Nat) (τ:Env) (bk:List (List aJ->Prop)) (k:Ex->Nat->Nat->St->BH->Tr) (Q:Exit->Act->World->Prop):Prop:=
 ∀ ex nb s dec m bk' ρ a w,bk'.take d=bk.take d->d<=bk'.length->vc P post (k ex nb (τ++m).length s dec) (τ++m) bk'->iJ (τ++m) dec->Sat M0 w0 N s (τ++m) ρ a w->Q (pI ex) a w
structure jB (P:Program) (W:Code->(Exit->Act->World->Prop)->Act->World->Prop):Prop where
 skip:∀ {Q a w},Q .normal a w->W .skip Q a w
 exit:∀ {id Q a w},Q (.exit id) a w->W (.exit id) Q a w
 ret:∀ {Q a w},Q .ret a w->W .ret Q a w
 any:P.follows .mixedOrders=true->∀ {id ops Q a w},wpAny P .any ops Q ops.size (Array.replicate ops.size false) a { w with drawn:=w.drawn+1 } -> W (.region id ops true) Q a w
 ops:∀ {id ops Q a w},wpOps P ops Q (List.range ops.size) a w->W (.region id ops false) Q a w
 seq:∀ {x y Q a w},W x (Exit.then (W y Q) Q) a w->W (.seq x y) Q a w
 cond:∀ {c x y t Q} {a:Act} {w},a.eval c = .bool t->W (if t then x else y) Q a w->W (.cond c x y) Q a w
 block:∀ {id x Q a w},W x (Exit.inBlock id Q) a w->W (.block id x) Q a w
 loop:∀ {c Q a w} (I:Nat->Act->World->Prop) (n:Nat),I n a w->(∀ n a w,I n a w->W c (Exit.then (fun a' w'=>∃ n',n'<n/\I n' a' w') Q) a w)->W (.loop c) Q a w
theorem jB.wp:jB P (Code.wp P):=⟨wp_skip,wp_exit,wp_ret,fun h=>wp_region_any h,wp_region,wp_seq,wp_cond,wp_block,wp_loop_ghost⟩
theorem rZ {W:Code->(Exit->Act->World->Prop)->Act->World->Prop} (R:jB P W) (hm:P.follows .mixedOrders=true):∀ (c:Code) (l d nb ni:Nat) (s:St) (dec:BH) (k:Ex->Nat->Nat->St->BH->Tr) (τ:Env) (bk:List (List aJ->Prop)),
  vc P post (exec P N hints c l d nb ni s dec k) τ bk->τ.length=ni->iJ τ dec->d<=bk.length ->
  ∀ ρ a w (Q:Exit->Act->World->Prop),Sat M0 w0 N s τ ρ a w->aW9 post M0 w0 Q->yD P post M0 w0->Vr P N M0 w0 post d τ bk k Q->W c Q a w:=by
 intro c
 induction c with
 | skip=>
   intro l d nb ni s dec k τ bk h hn hd hb ρ a w Q hs hp ho hk;refine R.skip (hk .normal nb s dec [] bk ρ a w rfl hb ?_ (by rw [List.append_nil];exact hd) (by rw [List.append_nil];exact hs));rw [List.append_nil,hn];exact h
 | exit id=>
   intro l d nb ni s dec k τ bk h hn hd hb ρ a w Q hs hp ho hk;refine R.exit (hk (.exit id) nb s dec [] bk ρ a w rfl hb ?_ (by rw [List.append_nil];exact hd) (by rw [List.append_nil];exact hs));rw [List.append_nil,hn];exact h
 | ret=>
   intro l d nb ni s dec k τ bk h hn hd hb ρ a w Q hs hp ho hk;refine R.ret (hk .ret nb s dec [] bk ρ a w rfl hb ?_ (by rw [List.append_nil];exact hd) (by rw [List.append_nil];exact hs));rw [List.append_nil,hn];exact h
 | region id ops draw=>
   intro l d nb ni s dec k τ bk h hn hd hb ρ a w Q hs hp ho hk;have h:vc P post (jZ P N ops ops.toList 0 nb ni s dec [] fun nb ni s dec dV=>if ordered dV then k .normal nb ni s dec else .fail 1000) τ bk:=h
   have main:∃ (m:Env) (fs:List Ep) (z:Option Nat),iQ P N ops Q M0 w0 (τ++m) z 0 s fs ops.toList/\ordered (fs.map (·.r)).reverse=true /\
     ((∃ j,z=some j/\j<ops.size)\/(z=none/\∀ ρ a w,Sat M0 w0 N (s.apps (fs.map (·.e))) (τ++m) ρ a w->Q .normal a w)):=by
    rcases CZ hp ho ops.toList 0 nb ni s dec [] τ h hn hd (fun j=>by simp) with ⟨m,fs,nb',dec',h1,h2,h3⟩ | ⟨m,fs,z,h1,h2,h3,h4⟩
    .rw [List.append_nil] at h3;split at h3
     .rename_i ho;exact ⟨m,fs,none,h1,ho, .inr ⟨rfl,fun ρ a w hs=>hk .normal nb' _ dec' m bk ρ a w rfl hb h3 h2 hs⟩⟩
     .exact h3.elim
    .rw [List.append_nil] at h4;exact ⟨m,fs,some z,h1,h4, .inl ⟨z,rfl,by simpa using h3⟩⟩
   obtain ⟨m,fs,z,h1,h2,h3⟩:=main
   have hrepl:∀ j,(Array.replicate ops.size false).getD j false=false:=by
    intro j;rw [Array.getD_eq_getD_getElem?];cases h:(Array.replicate ops.size false)[j]? with
    | none=>rfl
    | some b=>have:=(cS.1 h).2;simp at this;subst this;rfl
   cases draw with
   | true=>
     refine R.any hm (VW h1 h2 h3 ops.size _ ρ a _ (by simp) ?_ ?_ ?_ ?_)
     .intro j f _ hl;rw [hrepl] at hl;cases hl
     .intro j _;exact hrepl j
     .exact Nat.le_trans (List.length_filter_le _ _) (by simp)
     .have e:done s fs (fun j=>(Array.replicate ops.size false).getD j false)=s:=by
       show s.apps _=s;rw [RD _ 0 _ fun j=>?_]
       .rfl
       .exact hrepl j
      rw [e];exact (hs.ext m).drew _
   | false=>
     refine R.ops ?_;rw [List.range_eq_range'];refine VN h1 h2 h3 ops.size 0 ρ a w (Nat.zero_add _) (fun j _=>dD j) ?_;rw [List.take_zero];exact hs.ext m
 | seq x y ihx ihy=>
   intro l d nb ni s dec k τ bk h hn hd hb ρ a w Q hs hp ho hk;refine R.seq (ihx l d nb ni s dec _ τ bk h hn hd hb ρ a w _ hs ?_ ho ?_)
   .intro c v a w h1 h2 h3 h4;exact hp c v a w h1 h2 h3 h4
   .intro ex nb' s' dec' m bk' ρ' a' w' hbk hb' hv hd' hs';cases ex with
    | normal=>
      refine ihy _ d nb' _ s' dec' k (τ++m) bk' hv rfl hd' hb' ρ' a' w' Q hs' hp ho ?_;intro ex2 nb2 s2 dec2 m2 bk2 ρ2 a2 w2 hbk2 hb2 hv2 hd2 qH;rw [List.append_assoc] at hv2 hd2 qH;exact hk ex2 nb2 s2 dec2 (m++m2) bk2 ρ2 a2 w2 (hbk2.trans hbk) hb2 hv2 hd2 qH
    | exit id=>exact hk (.exit id) nb' s' dec' m bk' ρ' a' w' hbk hb' hv hd' hs'
    | ret=>exact hk .ret nb' s' dec' m bk' ρ' a' w' hbk hb' hv hd' hs'
 | cond c x y ihx ihy=>
   intro l d nb ni s dec k τ bk h hn hd hb ρ a w Q hs hp ho hk
   have h:vc P post (match (MB c).run s with
    | some (.w (.one (.c x')))=>parts dec x' fun β dec=>if β then exec P N hints x l d nb ni s dec k else exec P N hints y (l+mI x) d nb ni s dec k
    | _=>.fail 1001) τ bk:=h
   split at h
   .rename_i x' hx;obtain ⟨β,dec2,hc,hd2,hv⟩:=Hu hd h;have hval:(c0 τ x').rep (Ms M0 ρ s) w (a.eval c):=zW hs hx;rw [hc] at hval;refine R.cond (t:=β) hval.1 ?_;cases β with
    | true=>exact ihx l d nb ni s dec2 k τ bk hv hn hd2 hb ρ a w Q hs hp ho hk
    | false=>exact ihy _ d nb ni s dec2 k τ bk hv hn hd2 hb ρ a w Q hs hp ho hk
   .exact h.elim
 | block id x ih=>
   intro l d nb ni s dec k τ bk h hn hd hb ρ a w Q hs hp ho hk;refine R.block (ih l d nb ni s dec _ τ bk h hn hd hb ρ a w _ hs ?_ ho ?_)
   .intro c v a w h1 h2 h3 h4;exact hp c v a w h1 h2 h3 h4
   .intro ex nb' s' dec' m bk' ρ' a' w' hbk hb' hv hd' hs';cases ex with
    | normal=>exact hk .normal nb' s' dec' m bk' ρ' a' w' hbk hb' hv hd' hs'
    | exit id'=>
      show if id'=id then Q .normal a' w' else Q (.exit id') a' w'
      simp only at hv;split at hv
      .rename_i e;rw [if_pos e];exact hk .normal nb' s' dec' m bk' ρ' a' w' hbk hb' hv hd' hs'
      .rename_i e;rw [if_neg e];exact hk (.exit id') nb' s' dec' m bk' ρ' a' w' hbk hb' hv hd' hs'
    | ret=>exact hk .ret nb' s' dec' m bk' ρ' a' w' hbk hb' hv hd' hs'
 | loop x ih=>
   intro l d nb ni s dec k τ bk h hn hd hb ρ a w Q hs hp ho hk
   have h:vc P post (match head P ((hints l).getD (auto P N x s)) (JW x) s nb ni with
    | none=>.fail 1002
    | some h=>.loop d h.inits (exec P N hints x (l+1) (d+1) h.nb h.ni h.s dec (aM6 P ((hints l).getD (auto P N x s)) ni h d k))) τ bk:=h
   generalize (hints l).getD (auto P N x s)=hint at h;split at h
   .exact h.elim
   .rename_i hd0 hh;obtain ⟨G,xL,μ,g0,hg0,hlen,hbody⟩:=h
    have hfit:fits ni hd0.inits hd0.F hd0.s s=true/\hd0.ni=ni+hd0.inits.length:=by
     unfold head at hh;split at hh
     .simp only at hh;split at hh
      .rename_i hc;simp only [aN] at hh;subst hh;simp only [Bool.and_eq_true,decide_eq_true_eq] at hc;exact hc
      .cases hh
     .cases hh
    refine R.loop (fun n a' w'=>∃ g ρ',μ g=n/\Sat M0 w0 N hd0.s (τ++xL g) ρ' a' w') (μ g0) ?_ ?_
    .have hs0:Sat M0 w0 N s (τ ++ []) ρ a w:=by rw [List.append_nil];exact hs
     obtain ⟨ρ',h1⟩:=XK hs0 hn hfit.1;rw [List.append_nil] at h1;exact ⟨g0,ρ',rfl,h1.sub (aX.app (aX.refl τ) hg0)⟩
    .rintro n a' w' ⟨g,ρ',rfl,hs'⟩;have htl:(bk.take d).length=d:=by rw [List.length_take];omega
     refine ih (l+1) (d+1) hd0.nb hd0.ni hd0.s dec _ (τ++xL g) _ (hbody g) (by rw [eC,hlen,hn,hfit.2]) (hd.ext _) (by simp [htl]) ρ' a' w' _ hs' ?_ ho ?_
     .intro c v a w h1 h2 h3 h4;exact hp c v a w h1 h2 h3 h4
     .intro ex nb2 s2 dec2 m bk2 ρ2 a2 w2 hbk2 hb2 hv2 hd2 qH
      have htake:bk2.take d=bk.take d:=by
       have:=congrArg (List.take d) hbk2;rw [List.take_take,List.take_take,Nat.min_eq_left (Nat.le_succ d)] at this;rw [this,List.take_append_of_le_length (by omega),List.take_take,Nat.min_self]
      have hother:∀ e:Ex,vc P post (k e nb2 (τ++xL g++m).length s2 dec2) (τ++xL g++m) bk2->Q (pI e) a2 w2:=by
       intro e hv;rw [List.append_assoc] at hv hd2 qH;exact hk e nb2 s2 dec2 (xL g++m) bk2 ρ2 a2 w2 htake (by omega) hv hd2 qH
      cases ex with
      | normal=>
        have hv2:vc P post (match ai8 P hint ni hd0 s2 with | some vs=>.back d vs | none=>.fail 1003) (τ++xL g++m) bk2:=hv2;split at hv2
        .rename_i vs hvs;obtain ⟨f,hf,hfv⟩:=hv2
         have hget:bk2[d]? = some (fun ts=>∃ g',aX ts (xL g')/\μ g'<μ g):=by
          have h1:(bk2.take (d+1))[d]? = bk2[d]?:=by rw [List.getElem?_take,if_pos (Nat.lt_succ_self d)]
          rw [<-h1,hbk2,List.getElem?_take,if_pos (Nat.lt_succ_self d),List.getElem?_append_right (by omega),htl,Nat.sub_self];rfl
         rw [hget] at hf;simp only [aN] at hf;subst hf;obtain ⟨g',hg',hlt⟩:=hfv
         have hfb:∃ F,fits ni vs F hd0.s s2=true:=by
          unfold ai8 at hvs;split at hvs
          .simp only at hvs;split at hvs
           .rename_i hc;simp only [aN] at hvs;subst hvs;exact ⟨_,hc⟩
           .cases hvs
          .cases hvs
         obtain ⟨F,hF⟩:=hfb;rw [List.append_assoc] at qH hg';obtain ⟨ρ3,h3⟩:=XK qH hn hF;exact ⟨μ g',hlt,g',ρ3,rfl,h3.sub (aX.app (aX.refl τ) hg')⟩
        .exact hv2.elim
      | exit id=>exact hother (.exit id) hv2
      | ret=>exact hother .ret hv2
 | _=>intro l d nb ni s dec k τ bk h;exact h.elim
theorem xQ (hm:P.follows .mixedOrders=true) (c:Code) (l d nb ni:Nat) (s:St) (dec:BH) (k:Ex->Nat->Nat->St->BH->Tr) (τ:Env) (bk:List (List aJ->Prop))
  (h:vc P post (exec P N hints c l d nb ni s dec k) τ bk) (hn:τ.length=ni) (hd:iJ τ dec) (hb:d<=bk.length) (ρ:Nat->Gh) (a:Act) (w:World) (Q:Exit->Act->World->Prop) (hs:Sat M0 w0 N s τ ρ a w) (hp:aW9 post M0 w0 Q) (ho:yD P post M0 w0) (hg:Vr P N M0 w0 post d τ bk k Q):c.wp P Q a w:=
 rZ jB.wp hm c l d nb ni s dec k τ bk h hn hd hb ρ a w Q hs hp ho hg
inductive In where
 | v (t:aJ)
 | ref (cells:List aD)
 | lent (E sz:Nat) (ts:List (List aD))
def In.ty:In->aJ
 | .v t=>t
 | .ref cells=>.one (.bH cells)
 | .lent _ _ _=>.rows []
def In.env:In->aJ
 | .v t=>t
 | .ref cells=>.agg cells
 | .lent _ _ ts=>.rows ts
def In.Is:Arg->In->Prop
 | .v sh, .v t=>t.shape=some sh
 | .ref n, .ref cells=>cells.length=n
 | .lent E sz, .lent E' sz' ts=>E'=E/\sz'=sz
 | .k u, .v t=>t = .one (.exact u)
 | _,_=>False
end
section
variable {P:Program} {N:Nat} {M0:eG} {w0 w:World} {s:St} {τ:Env} {ρ:Nat->Gh} {a:Act}
def gI (tmps:Array Value) (r:ResultVar):Sem Value:=
 match r with
 | .tmp t=>pure (tmps.getD t Go.undef)
 | .cell b t=>do loadVar t (<-asAddr (tmps.getD b Go.undef))
theorem fA (fn:Func) (tmps:Array Value) (vs:List Value) (h:(fn.results.toList.mapM (gI tmps)).run P w = .ok vs w) :
  (results fn tmps).run P w = .ok (pack vs) w:=by
 have e:results fn tmps=(do
   let vs <-fn.results.mapM (gI tmps)
   pure (if h:vs.size=1 then vs[0] else .tuple vs)):=rfl
 rw [e,Array.mapM_eq_mapM_toList];simp only [Sem.run_bind,Sem.run_map,h,Result.andThen_ok,Sem.run_pure]
 congr 1
 match vs with
 | []=>rfl
 | [v]=>rfl
 | _::_::_=>rfl
theorem pH (h:Sat M0 w0 N s τ ρ a w) (l:List Nat):cP M0 ρ s l M0.M:=
 ⟨fun k hk=>.inl hk,fun b x k h1 h2 _ hk=>by
  exact h.old k hk (h.lo b x k h1 h2).1⟩
theorem nS (h:Sat M0 w0 N s τ ρ a w) {M':Nat->Prop}:∀ {rs:List ResultVar} {vs:List SW} {l:List Nat},(BD P s rs).run s=some (vs,l)->cP M0 ρ s l M' ->
  ∃ us,(rs.mapM (gI a.tmps)).run P w = .ok us w/\cD M' w (vs.map (nU τ)) us
 | [],vs,l,hq,hS=>by
   simp only [BD,Q.eY,aN,Prod.mk.injEq] at hq;obtain ⟨rfl,rfl⟩:=hq;exact ⟨[],rfl,trivial⟩
 | .tmp t::rs,vs,l,hq,hS=>by
   obtain ⟨v,h1,h2⟩:=Q.bind_some hq;obtain ⟨⟨y,l1⟩,h3,h4⟩:=Q.bind_some h2;obtain ⟨⟨ys,l2⟩,h5,h6⟩:=Q.bind_some h4;simp only [Q.run_pure,aN,Prod.mk.injEq] at h6;obtain ⟨rfl,rfl⟩:=h6;obtain ⟨us,hr,hrep⟩:=nS h h5 (hS.mono fun x hx=>List.mem_append_right _ hx);refine ⟨a.tmps.getD t Go.undef::us,?_,Rc h h3 (hS.mono fun x hx=>List.mem_append_left _ hx) (pN h h1),hrep⟩;simp only [List.mapM_cons,gI,Sem.run_bind,Sem.run_pure,Result.andThen_ok,hr]
 | .cell t T::rs,vs,l,hq,hS=>by
   obtain ⟨c,h1,h2⟩:=Q.bind_some hq;have hx:=dZ h h1;cases c with
   | p b off=>
     obtain ⟨bx,h3,h4⟩:=Q.bind_some h2;simp only [gM,aN] at h3;cases bx with
     | none=>cases h4
     | some bx=>cases bx with
       | row=>cases h4
       | part=>cases h4
       | dead=>cases h4
       | var T' cells=>
         obtain ⟨⟨ag,n⟩,h5,h6⟩:=Q.bind_some h4;rw [dX] at h5;obtain ⟨cs,h7,h8⟩:=Q.bind_some h6;rw [dX] at h7;obtain ⟨⟨cs',l1⟩,h9,h10⟩:=Q.bind_some h8;obtain ⟨⟨ys,l2⟩,h11,h12⟩:=Q.bind_some h10;obtain ⟨v,h13,h14⟩:=Q.bind_some h12;simp only [Q.run_pure,aN,Prod.mk.injEq] at h14;obtain ⟨rfl,rfl⟩:=h14;obtain ⟨us,hr,hrep⟩:=nS h h11 (hS.mono fun x hx=>List.mem_append_right _ hx);obtain ⟨hlen,rfl⟩:=sP h7;obtain ⟨vs',hh,hall⟩:=h.bx b _ h3;have hl:=hall.length;have hcs:=zO h h9 (hS.mono fun x hx=>List.mem_append_left _ hx) ((hall.drop off).take n);have hcl:=hcs.length
         have hn1:ag=true\/n=1:=by
          cases ag with
          | true=>exact .inl rfl
          | false=>
            right
            simp only [Bool.false_eq_true,if_false] at h13;split at h13
            .simp only [aK,List.length_singleton,List.length_take,List.length_drop] at hcl;omega
            .cases h13
         obtain ⟨u,hru,hu⟩:=gQ (P:=P) (w:=w) h5 hh (off:=off) (by simp;omega) hn1;have hxe:a.tmps.getD t Go.undef = .pointer (some ⟨(ρ b).blk,off,none⟩):=hx.2;refine ⟨u::us,?_,?_,hrep⟩
         .simp only [List.mapM_cons,gI,Sem.run_bind,hxe,asAddr,Sem.run_pure,Result.andThen_ok,hru,hr]
         .cases ag with
          | true=>
            simp only [if_true,Q.eY,aN] at h13 hu;subst h13;exact ⟨_,hu,by simpa using hcs⟩
          | false=>
            simp only [Bool.false_eq_true,if_false] at h13 hu;split at h13
            .rename_i c';simp only [Q.eY,aN] at h13;subst h13;have hu':(vs'.drop off).take n = [u]:=by simpa using hu
             rw [hu'] at hcs;exact hcs.1
            .cases h13
   | _=>cases h2
theorem xX {M:Nat->Prop} {k:Nat}:¬ (eG.mk M ⟨0,Go.undef,#[]⟩).O k:=fun h=>by cases h
theorem Kept.below {M:Nat->Prop} {w0 w:World} (h:Kept ⟨M,⟨0,Go.undef,#[]⟩⟩ w0 w):Below w0.heap.size w0 w:=
 ⟨h.os,h.tape,h.output,h.size,fun k hk=>h.block k hk xX⟩
theorem sF {M:Nat->Prop} {ex:Nat->Prop} {i:Nat} {g:Arg} {x:In} {v:Value} (hτ:τ[i]? = some x.env) (hi:In.Is g x) (hv:x.ty.rep M w v):fW ex τ ρ M w (jM i g) v:=by
 cases g with
 | v sh=>cases x with
   | v t=>exact qW hτ hi hv
   | ref cells=>exact hi.elim
   | lent _ _ _=>exact hi.elim
 | lent _ _=>cases x with
   | v t=>exact hi.elim
   | ref cells=>exact hi.elim
   | lent _ _ _=>exact (hv:False).elim
 | k u=>cases x with
   | v t=>
     have ht:t = .one (.exact u):=hi;subst ht;exact hv
   | ref cells=>exact hi.elim
   | lent _ _ _=>exact hi.elim
 | ref n=>cases x with
   | v t=>exact hi.elim
   | lent _ _ _=>exact hi.elim
   | ref cells=>
     have hc:((List.range n).map fun j=>C0.u i j).map (c0 τ)=cells:=by
      apply List.ext_getElem?;intro j;rw [List.map_map,dL];have hl:cells.length=n:=hi;by_cases hj:j<n
      .rw [List.getElem?_range hj,cC (by omega)];simp only [Option.map_some,Function.comp,c0,iP,hτ,Option.getD_some,In.env,aJ.cell,aJ.cells,cC (show j<cells.length by omega)]
      .rw [List.getElem?_eq_none (by simpa using hj),List.getElem?_eq_none (by omega)];rfl
     show (aD.bH _).rep M w v;rw [hc,List.drop_zero];exact hv
theorem aj8 (args:List Arg) (bx:List (Nat×Bx)) (t:Nat):(⟨args.mapIdx fun i a=>(i,jM i a),bx,[]⟩:St).t t=((args[t]?).map (jM t)).getD .junk:=by
 have hlook:∀ (l:List Arg) (d:Nat),(look (l.mapIdx fun i a=>(d+i,jM (d+i) a)) t)=if d<=t then (l[t-d]?).map (jM t) else none:=by
  intro l
  induction l with
  | nil=>intro d;simp [look]
  | cons x l ih=>
    intro d;rw [List.mapIdx_cons];simp only [look,Nat.add_zero]
    have e:(l.mapIdx fun i a=>(d+(i+1),jM (d+(i+1)) a))=l.mapIdx fun i a=>(d+1+i,jM (d+1+i) a):=by
     congr 1;funext i a;rw [show d+(i+1)=d+1+i by omega]
    rw [e,ih (d+1)];by_cases h1:d=t
    .subst h1;simp
    .rw [if_neg h1];by_cases h2:d+1<=t
     .rw [if_pos h2,if_pos (by omega),show t-d=(t-(d+1))+1 by omega,List.getElem?_cons_succ]
     .rw [if_neg h2,if_neg (by omega)]
 have:=hlook args 0;simp only [Nat.zero_add,dD,if_true,Nat.sub_zero] at this;simp only [St.t,this]
theorem Rq {N:Nat} {args:List Arg} {ins:List In} {M:Nat->Prop} {w:World} {vs:List Value} (hin:bB In.Is args ins) (hM:cK M w) (hlen:args.length<=N) (hvs:cD M w (ins.map In.ty) vs) :
  Sat ⟨M,⟨0,Go.undef,#[]⟩⟩ w N ⟨args.mapIdx fun i a=>(i,jM i a),[],[]⟩ (ins.map In.env) (fun _=>⟨0,Go.undef,#[]⟩) ⟨vs.toArray++Array.replicate (N-vs.toArray.size) Go.undef,[]⟩ w:=by
 have hil:ins.length=args.length:=hin.length.symm;have hvl:vs.length=args.length:=by rw [<-hvs.length];simpa using hil
 refine ⟨⟨rfl,rfl,rfl,aY _,fun _ _ _=>rfl,fun x hx=>⟨(hM.2 x hx).1,xX,(hM.2 x hx).2⟩⟩,by simp;omega,rfl,fun t=>?_,(by intro b x hb;cases hb),(by intro b b' x x' k hb;cases hb),(by intro b x k hb;cases hb),fun k hk ho=>ho.elim (fun h=>Nat.not_lt.2 h (hM.1 k hk)) xX,(by intro b E sz cid hb;cases hb)⟩;rw [aj8];cases hat:args[t]? with
 | none=>trivial
 | some g=>
   have htl:t<args.length:=(dR.1 hat).1;obtain ⟨x,hx,hix⟩:=hin.get t g hat;have hvt:vs[t]? = some (vs[t]'(by omega)):=cC (by omega);obtain ⟨ty,hty,hrep⟩:=hvs.get t _ hvt;rw [dL,hx] at hty;simp only [Option.map_some,aN] at hty;subst hty
   have hval:(vs.toArray++Array.replicate (N-vs.toArray.size) Go.undef).getD t Go.undef=vs[t]'(by omega):=by
    rw [Array.getD_eq_getD_getElem?,Array.getElem?_append_left (by simp;omega)];simp [hvt]
   rw [hval];refine sF (by rw [dL,hx];rfl) hix (aJ.Fv ?_ hrep);intro k o hk ho _;refine ⟨fun hm=>?_,ho⟩;rcases hm with hm | ⟨b,x,hb,_⟩
   .exact hk hm
   .cases hb
theorem cW {f:FuncId} {fn:Func} {hints:Nat->Option Hint} {args:List Arg} {ins:List In} {out:Out} (hm:P.follows .mixedOrders=true) (hok:pJ P f=true)
  (hf:P.funcs[f]? = some fn) (hin:bB In.Is args ins) (h:vc P (fun o=>cG o out) (aV P fn hints args) (ins.map In.env) []):aQ P f (ins.map In.ty) out:=by
 refine ⟨bJ hok,fun M w vs hM hvs=>?_⟩;unfold aV at h;split at h
 .exact h.elim
 .rename_i c hb;split at h
  .rename_i hlen;refine calls_of_wp hf hb ?_;have hil:ins.length=args.length:=hin.length.symm;have hvl:vs.length=args.length:=by rw [<-hvs.length];simpa using hil
   refine xQ (M0:=⟨M,⟨0,Go.undef,#[]⟩⟩) (w0:=w) hm c 0 0 0 args.length _ [] _ (ins.map In.env) [] h (by simpa using hil) (by intro x hx;cases hx) (aY _) (fun _=>⟨0,Go.undef,#[]⟩) _ w _ ?_ ?_ yD.no ?_
   .exact Rq hin hM hlen hvs
   .intro c v a w' hp hr hb hd;refine ⟨hd,hb.below,?_⟩;cases out with
    | pan d=>have hp:c=d:=hp;subst hp;exact ⟨v,rfl,hr⟩
    | ret _=>exact hp.elim
    | IT _ _ _=>exact hp.elim
    | retr _ _=>exact hp.elim
   .intro ex nb s dec m bk' ρ a w' _ _ hv _ hs
    have key:vc P (fun o=>cG o out) (match (BD P s fn.results.toList).run s with
      | some (vs,_)=>.ret vs
      | none=>.fail 1008) (ins.map In.env++m) bk'->a.defers = []/\∃ v,(results fn a.tmps).run P w' = .ok v w'/\(Below w.heap.size w w'/\rA M w' out (.returned v)):=by
     intro hv;split at hv
     .rename_i vs' l hq;obtain ⟨us,hr,hrep⟩:=nS hs hq (pH hs _);refine ⟨hs.df,_,fA fn a.tmps us hr,hs.below.below,?_⟩;cases out with
      | ret rs=>exact ⟨us,rfl,cD.sub hv hrep⟩
      | retr _ _=>exact hv.elim
      | IT _ _ _=>exact hv.elim
      | pan _=>exact hv.elim
     .exact hv.elim
    cases ex with
    | normal=>exact key hv
    | ret=>exact key hv
    | exit id=>exact hv.elim
  .exact h.elim
end
open Go.RowKit (Below)
section
variable {P:Program} {T U ty:TypeId} {x y:Operand}
theorem SO {M:Nat->Prop} {w:World} {ρ:Operand->Value} {t:aJ} (h:cD M w [t] ((#[x]:Array Operand).toList.map ρ)):t.rep M w (ρ x):=h.1
theorem tW {M:Nat->Prop} {w:World} {ρ:Operand->Value} {t u:aJ} (h:cD M w [t,u] ((#[x,y]:Array Operand).toList.map ρ)):t.rep M w (ρ x)/\u.rep M w (ρ y):=⟨h.1,h.2.1⟩
theorem mO {op:BinOp} {k:IntKind} {a b:Int} {r:Value} (h1:r.oneCell'=true) (h:∀ w,(binOp op T (.int k a) (.int k b)).run P w = .ok r w) :
  bF P (.binOp op T x y U) ty [.one (.int k a), .one (.int k b)] (.one (.exact r)):=by
 intro M w ρ o ho _ hr;obtain ⟨hx,hy⟩:=tW hr;have hx:ρ x = .int k a/\_:=hx;have hy:ρ y = .int k b/\_:=hy;refine ⟨r,?_,⟨rfl,h1⟩⟩
 have hg:(eqGuard op T x y (.int k a) (.int k b)).run P w = .ok () w:=by
  unfold eqGuard;cases op<;>simp
 simp only [execOp,ho,hx.1,hy.1,Sem.run_bind,hg,Result.andThen_ok,h w,Sem.run_pure]
theorem eV {k:IntKind} {a b c:Int} (h:k.wrap (a+b)=c):bF P (.binOp .add T x y U) ty [.one (.int k a), .one (.int k b)] (.one (.int k c)):=
 mO rfl fun w=>by simp [binOp,Op.intArith,h]
theorem nY {k:IntKind} {a b c:Int} (h:k.wrap (a-b)=c):bF P (.binOp .sub T x y U) ty [.one (.int k a), .one (.int k b)] (.one (.int k c)):=
 mO rfl fun w=>by simp [binOp,Op.intArith,h]
theorem wQ {k:IntKind} {a b c:Int} (h:k.wrap (a*b)=c):bF P (.binOp .mul T x y U) ty [.one (.int k a), .one (.int k b)] (.one (.int k c)):=
 mO rfl fun w=>by simp [binOp,Op.intArith,h]
theorem oX {k:IntKind} {a b c:Int} (hb:b≠0) (h:k.wrap (a.tdiv b)=c):bF P (.binOp .quo T x y U) ty [.one (.int k a), .one (.int k b)] (.one (.int k c)):=
 mO rfl fun w=>by simp [binOp,Op.intDiv,hb,h]
theorem Ez {k:IntKind} {a b c:Int} (hb:b≠0) (h:a.tmod b=c):bF P (.binOp .rem T x y U) ty [.one (.int k a), .one (.int k b)] (.one (.int k c)):=
 mO rfl fun w=>by simp [binOp,Op.intDiv,hb,h]
theorem am2 {k:IntKind} {a b:Int}:bF P (.binOp .eql T x y U) ty [.one (.int k a), .one (.int k b)] (.one (.bool (decide (a=b)))):=
 mO rfl fun w=>by simp [binOp,Op.intCmp,BEq.beq]
theorem SM {k:IntKind} {a b:Int}:bF P (.binOp .neq T x y U) ty [.one (.int k a), .one (.int k b)] (.one (.bool (!decide (a=b)))):=
 mO rfl fun w=>by simp [binOp,Op.intCmp,bne,BEq.beq]
theorem tX {k:IntKind} {a b:Int}:bF P (.binOp .lss T x y U) ty [.one (.int k a), .one (.int k b)] (.one (.bool (decide (a<b)))):=
 mO rfl fun w=>by simp [binOp,Op.intCmp]
theorem bo4 {k:IntKind} {a b:Int}:bF P (.binOp .leq T x y U) ty [.one (.int k a), .one (.int k b)] (.one (.bool (decide (a<=b)))):=
 mO rfl fun w=>by simp [binOp,Op.intCmp]
theorem Sd {k:IntKind} {a b:Int}:bF P (.binOp .gtr T x y U) ty [.one (.int k a), .one (.int k b)] (.one (.bool (decide (b<a)))):=
 mO rfl fun w=>by simp [binOp,Op.intCmp]
theorem HF {k:IntKind} {a b:Int}:bF P (.binOp .geq T x y U) ty [.one (.int k a), .one (.int k b)] (.one (.bool (decide (b<=a)))):=
 mO rfl fun w=>by simp [binOp,Op.intCmp]
theorem gX {b:Bool}:bF P (.unOp .not T x) ty [.one (.bool b)] (.one (.bool (!b))):=by
 intro M w ρ o ho _ hr;have hx:ρ x = .bool b/\_:=SO hr;exact ⟨.bool (!b),by simp [execOp,ho,hx.1,Op.unary],⟨rfl,rfl⟩⟩
theorem aK1 {k:IntKind} {a c:Int} (h:k.wrap (0-a)=c):bF P (.unOp .neg T x) ty [.one (.int k a)] (.one (.int k c)):=by
 intro M w ρ o ho _ hr;have hx:ρ x = .int k a/\_:=SO hr;exact ⟨.int k c,by simp [execOp,ho,hx.1,Op.unary,Op.intArith,<-h],⟨rfl,rfl⟩⟩
theorem jH {k k':IntKind} {a c:Int} (hu:∃ d,P.underlying T=some d) (hd:P.underlying U=some (.int k')) (h:k'.wrap a=c):bF P (.convert T U x) ty [.one (.int k a)] (.one (.int k' c)):=by
 obtain ⟨d,hu⟩:=hu;intro M w ρ o ho _ hr;have hx:ρ x = .int k a/\_:=SO hr;refine ⟨.int k' c,?_,⟨rfl,rfl⟩⟩
 have:(convert T U (.int k a)).run P w = .ok (.int k' c) w:=by
  simp [convert,run_underlying hu,run_underlying hd,Conv.intToInt,h]
 simp only [execOp,ho,hx.1,Sem.run_bind,this,Result.andThen_ok,Sem.run_pure]
theorem aM {E sz n:Nat} {ts:List (List aD)} {b:Nat} {s2:Nat} (h:eA P T=some (E,s2,b)) (hn:ts.length=n):bF P (.call ⟨.builtin .len,#[x],#[T]⟩) ty [.one (.slice sz ts)] (.one (.int .i64 n)):=by
 intro M w ρ o ho _ hr;have hx:(aD.slice sz ts).rep M w (ρ x):=SO (x:=x) hr;obtain ⟨ad,cap,hv,_⟩:=hx;obtain ⟨ie,hu,_⟩:=cE h;exact ⟨.int .i64 n,by simp [execOp,ho,resolve,invoke,builtin,Builtin.len_,hv,run_underlying hu,goInt,hn],⟨rfl,rfl⟩⟩
theorem WN {E sz b:Nat} {k:IntKind} {n:Int} {ts:List (List aD)} {t:List aD} (h:eA P T=some (E,sz,b)) (ht:ts[n.toNat]? = some t) (h0:0<=n:=by omega) :
  bF P (.indexAddr T x y) ty [.one (.slice sz ts), .one (.int k n)] (.one (.bH t)):=by
 intro M w ρ o ho _ hr;obtain ⟨hx,hy⟩:=tW (x:=x) (y:=y) hr;have hx:(aD.slice sz ts).rep M w (ρ x):=hx;have hy:ρ y = .int k n/\_:=hy;obtain ⟨ad,cap,hv,hc,hm,hel⟩:=hx;obtain ⟨ie,hu,hie,hies,_⟩:=cE h;have hlt:n.toNat<ts.length:=(dR.1 ht).1;rcases hel with rfl | ⟨bl,off,cs,T',fz,rfl,hb,hh,hel⟩
 .simp at hlt
 .have hin:0<=n/\n<(ts.length:Int):=⟨h0,by omega⟩
  refine ⟨.pointer (some ⟨bl,off+n.toNat*sz,none⟩),?_,?_⟩
  .simp [execOp,ho,hv,hy.1,Instr.indexAt,asIntOf,run_underlying hu,sizeOf,typeInfo,hie,hies,hin,nB]
  .have:=hel n.toNat t ht;refine ⟨bl,off+n.toNat*sz,cs,T',fz,rfl,hb,hh,?_⟩;rw [this.1];exact this.2
theorem aR {ag:Bool} {n:Nat} {cells:List aD} (h:oE P T=some (ag,n)) (hpos:0<n) (hn:n<=cells.length) (h1:ag=true\/n=1) :
  bF P (.load T x) ty [.one (.bH cells)] (XF ag (cells.take n)):=by
 intro M w ρ o ho _ hr;have hx:(aD.bH cells).rep M w (ρ x):=SO (x:=x) hr;obtain ⟨b,off,cs,T',fz,hv,hb,hh,hrep⟩:=hx;have hl:=hrep.length;simp only [List.length_take,List.length_drop,Array.length_toList] at hl;obtain ⟨v,hrun,hval⟩:=gQ (P:=P) (w:=w) h hh (off:=off) (n:=n) (by omega) h1;refine ⟨v,by simp [execOp,ho,hv,Instr.loadAt,Instr.sureAddr,hrun],?_⟩;have h2:=hrep.take n;rw [List.take_take,Nat.min_eq_left hn] at h2;cases ag with
 | true=>
   simp only [if_true] at hval;exact ⟨_,hval,h2⟩
 | false=>
   simp only [Bool.false_eq_true,if_false] at hval;rw [hval] at h2;have hl2:=h2.length;simp only [XF,Bool.false_eq_true,if_false]
   match hc:cells.take n,h2 with
   | [c],h2=>exact h2.1
   | [],h2=>simp [hc] at hl2
   | _::_::_,h2=>simp [hc] at hl2
theorem uW {M:Nat->Prop} {w:World} {sz:Nat} {ts:List (List aD)} {ad:Option Addr} {cap l h m:Nat} (hs:(aD.slice sz ts).rep M w (.slice ad ts.length cap)) (hlh:l<=h) (hh:h<=ts.length) (hm:h<=m) (hmc:m<=cap:=by omega) :
  (aD.slice sz ((ts.take h).drop l)).rep M w (.slice (if m=l then ad else ad.map (·.add (l*sz))) (h-l) (m-l)):=by
 obtain ⟨ad',cap',he,hc,hcm,hel⟩:=hs;simp only [Value.slice.injEq,true_and] at he;obtain ⟨rfl,rfl⟩:=he;have hlen:((ts.take h).drop l).length=h-l:=by simp;omega
 refine ⟨_,m-l,by rw [hlen],by rw [hlen];omega,by omega,?_⟩;by_cases hz:h=l
 .left;exact List.eq_nil_of_length_eq_zero (by omega)
 .rcases hel with rfl | ⟨b,off,cs,T,fz,rfl,hb,hh2,hel⟩
  .simp at hh;omega
  .refine .inr ⟨b,off+l*sz,cs,T,fz,?_,hb,hh2,fun i t ht=>?_⟩
   .rw [if_neg (by omega)];simp [nB]
   .rw [List.getElem?_drop,List.getElem?_take] at ht;split at ht
    .have:=hel (l+i) t ht;rw [Nat.add_mul] at this;rw [Nat.add_assoc];exact this
    .cases ht
theorem zV {E sz b:Nat} {k:IntKind} {n:Int} {ts:List (List aD)} (h:eA P T=some (E,sz,b)) (h0:0<=n) (hn:n.toNat<=ts.length) :
  bF P (.slice T x none (some y) none) ty [.one (.slice sz ts), .one (.int k n)] (.one (.slice sz (ts.take n.toNat))):=by
 intro M w ρ o ho _ hr;have hx:(aD.slice sz ts).rep M w (ρ x):=hr.1;have hy:ρ y = .int k n/\_:=hr.2.1;have hx':=hx;obtain ⟨ad,cap,hv,hc,hm,_⟩:=hx;rw [hv] at hx';obtain ⟨ie,hu,hie,hies,_⟩:=cE h;have:=uW (l:=0) (h:=n.toNat) (m:=cap) hx' (dD _) hn (by omega) (aY _);rw [List.drop_zero] at this;refine ⟨_,?_,this⟩;have hin:0<=n/\n<=(cap:Int):=⟨h0,by omega⟩
 simp [execOp,ho,hv,hy.1,Instr.sliceAt,Instr.slice,Instr.sliceBounds,Instr.sliceBound,asIntOf,run_underlying hu,sizeOf,typeInfo,hie,hies,hin]
theorem Oc {E sz b:Nat} {k:IntKind} {n:Int} {ts:List (List aD)} (h:eA P T=some (E,sz,b)) (h0:0<=n) (hn:n.toNat<=ts.length) :
  bF P (.slice T x (some y) none none) ty [.one (.slice sz ts), .one (.int k n)] (.one (.slice sz (ts.drop n.toNat))):=by
 intro M w ρ o ho _ hr;have hx:(aD.slice sz ts).rep M w (ρ x):=hr.1;have hy:ρ y = .int k n/\_:=hr.2.1;have hx':=hx;obtain ⟨ad,cap,hv,hc,hm,_⟩:=hx;rw [hv] at hx';obtain ⟨ie,hu,hie,hies,_⟩:=cE h;have:=uW (l:=n.toNat) (h:=ts.length) (m:=cap) hx' hn (aY _) hc (aY _);rw [List.take_length] at this;refine ⟨_,?_,this⟩;have hin:0<=n/\n<=(ts.length:Int):=⟨h0,by omega⟩
 simp [execOp,ho,hv,hy.1,Instr.sliceAt,Instr.slice,Instr.sliceBounds,Instr.sliceBound,asIntOf,run_underlying hu,sizeOf,typeInfo,hie,hies,hin]
theorem EZ {E sz b:Nat} {k k':IntKind} {n:Int} {z:Operand} {ts:List (List aD)} (h:eA P T=some (E,sz,b)) (hn:n.toNat<=ts.length) (h0:0<=n:=by omega) :
  bF P (.slice T x none (some y) (some z)) ty [.one (.slice sz ts), .one (.int k n), .one (.int k' n)] (.one (.slice sz (ts.take n.toNat))):=by
 intro M w ρ o ho _ hr;have hx:(aD.slice sz ts).rep M w (ρ x):=hr.1;have hy:ρ y = .int k n/\_:=hr.2.1;have hz:ρ z = .int k' n/\_:=hr.2.2.1;have hx':=hx;obtain ⟨ad,cap,hv,hc,hm,_⟩:=hx;rw [hv] at hx';obtain ⟨ie,hu,hie,hies,_⟩:=cE h;have:=uW (l:=0) (h:=n.toNat) (m:=n.toNat) hx' (dD _) hn (aY _);rw [List.drop_zero] at this;refine ⟨_,?_,this⟩;have hin:0<=n/\n<=(cap:Int):=⟨h0,by omega⟩
 have hin2:max n 0=n:=by omega
 simp [execOp,ho,hv,hy.1,hz.1,Instr.sliceAt,Instr.slice,Instr.sliceBounds,Instr.sliceBound,asIntOf,run_underlying hu,sizeOf,typeInfo,hie,hies,hin,hin2]
theorem Zw {s t:ByteArray} (h:((s.size+t.size:Nat):Int)<=9223372036854775807):bF P (.binOp .add T x y U) ty [.one (.str s), .one (.str t)] (.one (.str (s++t))):=by
 intro M w ρ o ho _ hr;obtain ⟨hx,hy⟩:=tW hr;have hx:ρ x = .string s/\_:=hx;have hy:ρ y = .string t/\_:=hy;refine ⟨.string (s++t),?_,⟨rfl,rfl⟩⟩;have hmax:IntKind.i64.max=9223372036854775807:=by simp [IntKind.max,IntKind.signed,IntKind.bits]
 have hno:¬ (9223372036854775807<((s.size:Int)+(t.size:Int))):=by
  have:((s.size+t.size:Nat):Int)=(s.size:Int)+(t.size:Int):=by simp
  omega
 simp [execOp,ho,hx.1,hy.1,eqGuard,binOp,Op.stringOp,hmax,hno]
theorem XU {s t:ByteArray}:bF P (.binOp .eql T x y U) ty [.one (.str s), .one (.str t)] (.one (.bool (s.toList==t.toList))):=by
 intro M w ρ o ho _ hr;obtain ⟨hx,hy⟩:=tW hr;have hx:ρ x = .string s/\_:=hx;have hy:ρ y = .string t/\_:=hy;exact ⟨.bool (s.toList==t.toList),by simp [execOp,ho,hx.1,hy.1,eqGuard,binOp,Op.stringOp],⟨rfl,rfl⟩⟩
end
section
variable {P:Program} {post:Out->Prop} {bk:List (List aJ->Prop)} {τ:Env} {op:Op} {ty:Nat} {last:Bool} {k:Tr}
theorem vn {args:List SW} {sh:Option Nat} {t:aJ} (hp:bF P op ty (args.map (nU τ)) t) (hs:t.shape=some sh) (hk:vc P post k (τ ++ [t]) bk):vc P post (.need (.prim args sh) op ty last k) τ bk:=
 .inl ⟨[t],⟨t,rfl,hs,hp⟩,rfl,hk⟩
theorem aA {f:Nat} {args:List SW} {sh:List (Option Nat)} {ts:List aJ} (hd:aQ P f (args.map (nU τ)) (.ret ts)) (hs:ts.map aJ.shape=sh.map some) (hk:vc P post k (τ++ts) bk):vc P post (.need (.call f args sh) op ty last k) τ bk:=
 .inl ⟨ts,⟨hs,hd⟩,by have:=congrArg List.length hs;simpa [dY.ids] using this,hk⟩
theorem zU {c:C0} {f:FuncId} {caps:List aD} {args:List SW} {sh:List (Option Nat)} {ts:List aJ} (hc:c0 τ c = .fP f caps) (hd:aQ P f (args.map (nU τ)++caps.map .one) (.ret ts)) (hs:ts.map aJ.shape=sh.map some) (hk:vc P post k (τ++ts) bk):vc P post (.need (.callv c args sh) op ty last k) τ bk:=
 .inl ⟨ts,⟨f,caps,hc,hs,hd⟩,by have:=congrArg List.length hs;simpa [dY.ids] using this,hk⟩
theorem eK {sz:Nat} {tss:List (List C0)} {us:List (List aD)} (hu:tss.map (fun t=>t.map (c0 τ))=us) (hk:vc P post k (τ ++ [.rows us]) bk):vc P post (.need (.lit sz tss) op ty last k) τ bk:=
 .inl ⟨_,by rw [<-hu];rfl,rfl,hk⟩
theorem xG {z:List Value} {b:Nat} {l c:C0} {n m:Nat} {kl kc:IntKind} {us:List (List aD)} (h1:c0 τ l = .int kl n) (h2:c0 τ c = .int kc m) (hu:List.replicate n (z.map .exact)=us) (hnm:n<=m) (hb:b*m<=140737488355328) (hm:m<=maxLen) (hk:vc P post k (τ ++ [.rows us]) bk):vc P post (.need (.make z b l c) op ty last k) τ bk:=
 .inl ⟨_,⟨n,m,kl,kc,h1,h2,hnm,hb,hm,by rw [hu]⟩,rfl,hk⟩
theorem BC {sz b:Nat} {cid:Option Nat} {src:Option C0} {row:Option Nat} {ts us vs:List (List aD)} (h1:ak0 τ cid ts) (h2:af7 τ sz src row us) (hv:ts++us=vs) (hb:vs.length*b<=140737488355328) (hm:vs.length<=maxLen) (hk:vc P post k (τ ++ [.rows vs]) bk):vc P post (.need (.app sz b cid src row) op ty last k) τ bk:=
 .inl ⟨[.rows vs],⟨ts,us,h1,h2,by rw [<-eC,hv];exact hb,by rw [<-eC,hv];exact hm,by rw [hv]⟩,rfl,hk⟩
theorem qP {cid:Nat} {i:C0} {ts:List (List aD)} {ik:IntKind} {n:Int} (h1:τ[cid]? = some (.rows ts)) (h2:c0 τ i = .int ik n) (h0:0<=n) (hn:n<ts.length) (hk:vc P post k τ bk):vc P post (.need (.idx cid i) op ty last k) τ bk:=
 .inl ⟨[],⟨ts,ik,n,h1,h2,h0,hn,rfl⟩,rfl,by rw [List.append_nil];exact hk⟩
theorem vld {cid off sz:Nat} {ag:Bool} {i:C0} {ts:List (List aD)} {ik:IntKind} {n:Int} {cells:List aD} {t:aJ} (h1:τ[cid]? = some (.rows ts)) (h2:c0 τ i = .int ik n) (h0:0<=n) (hn:ts[n.toNat]? = some cells) (hag:ag=true\/sz=1) (ht:XF ag ((cells.drop off).take sz)=t) (hk:vc P post k (τ ++ [t]) bk):vc P post (.need (.ldrow cid i off sz ag) op ty last k) τ bk:=
 .inl ⟨_,⟨ts,ik,n,cells,h1,h2,h0,hn,hag,by rw [ht]⟩,rfl,hk⟩
theorem QK {cid sz off:Nat} {i:C0} {xs:List C0} {ts us:List (List aD)} {ik:IntKind} {n:Int} {cells:List aD} (h1:τ[cid]? = some (.rows ts)) (h2:c0 τ i = .int ik n) (h0:0<=n) (hn:ts[n.toNat]? = some cells)
  (hu:ts.set n.toNat (cells.take off++xs.map (c0 τ)++cells.drop (off+xs.length))=us) (hk:vc P post k (τ ++ [.rows us]) bk):vc P post (.need (.strow cid sz i off xs) op ty last k) τ bk:=
 .inl ⟨_,⟨ts,ik,n,cells,h1,h2,h0,hn,by rw [hu]⟩,rfl,hk⟩
theorem Sq {cid n:Nat} {ts:List (List aD)} (h1:τ[cid]? = some (.rows ts)) (hn:ts.length=n) (hk:vc P post k (τ ++ [.one (.int .i64 n)]) bk):vc P post (.need (.lenrow cid) op ty last k) τ bk:=
 .inl ⟨_,⟨ts,h1,by rw [hn]⟩,rfl,hk⟩
theorem vs {c:C0} {kt kf:Tr} (p:Prop) [Decidable p] (hc:c0 τ c = .bool (decide p)) (ht:p->vc P post kt τ bk) (hf:¬ p->vc P post kf τ bk):vc P post (.split c kt kf) τ bk:=
 ⟨decide p,hc,fun h=>ht (of_decide_eq_true h),fun h=>hf (of_decide_eq_false h)⟩
theorem pY {c:C0} {kt kf:Tr} (β:Bool) (hc:c0 τ c = .bool β) (ht:β=true->vc P post kt τ bk) (hf:β=false->vc P post kf τ bk):vc P post (.split c kt kf) τ bk:=
 ⟨β,hc,ht,hf⟩
theorem aL {vs:List SW} {rs:List aJ} (h:vs.map (nU τ)=rs):vc P (fun o=>cG o (.ret rs)) (.ret vs) τ bk:=by
 show aX _ _;rw [h];exact aX.refl _
theorem jL {vs:List SW} {rs:List aJ} (h:aX (vs.map (nU τ)) rs):vc P (fun o=>cG o (.ret rs)) (.ret vs) τ bk:=h
theorem ZE {f:Nat} {args:List SW} {sh:List (Option Nat)} {as ts:List aJ} (ha:aX (args.map (nU τ)) as) (hd:aQ P f as (.ret ts)) (hs:ts.map aJ.shape=sh.map some) (hk:vc P post k (τ++ts) bk):vc P post (.need (.call f args sh) op ty last k) τ bk:=
 .inl ⟨ts,⟨hs,hd.sub ha⟩,by have:=congrArg List.length hs;simpa [dY.ids] using this,hk⟩
theorem bZ {d:Nat} {inits:List LV} (G:Type) (xL:G->List aJ) (μ:G->Nat) (g0:G) (h0:aX (inits.map (Nw τ)) (xL g0)) (hl:∀ g,(xL g).length=inits.length)
  (h:∀ g,vc P post k (τ++xL g) (bk.take d ++ [fun ts=>∃ g',aX ts (xL g')/\μ g'<μ g])):vc P post (.loop d inits k) τ bk:=⟨G,xL,μ,g0,h0,hl,h⟩
theorem bD {d:Nat} {aU:List LV} {f:List aJ->Prop} (hb:bk[d]? = some f) (h:f (aU.map (Nw τ))):vc P post (.back d aU) τ bk:=⟨f,hb,h⟩
end
open Go.RowKit (Below)
def kP (P:Program) (f:FuncId) (E sz:Nat) (pre post:List aJ) (ts:List (List aD)) (rs:List aJ) (ts':List (List aD)):Prop:=
 (∀ as w,(callFunc f as).run P w = .ok (.enter f as) w)/\ts'.length=ts.length/\(∀ t∈ts',t.length=sz) /\
 ∀ (M:Nat->Prop) (w:World) (g off cap:Nat) (cur:Array Value) (vs1 vs2:List Value),cK M w->M g->w.heap[g]? = some (.cells cur E (0,0)) ->
   off+ts.length*sz<=cur.size->ts.length<=cap->cap<=maxLen->bA M w ts.flatten ((cur.toList.drop off).take (ts.length*sz))->cD M w pre vs1->cD M w post vs2 ->
   Calls P f (vs1 ++ .slice (some ⟨g,off,none⟩) ts.length cap::vs2).toArray w fun e w'=>∃ cur' us,w.grownBy w' (some g)/\w'.heap[g]? = some (.cells cur' E (0,0))/\cur'.size=cur.size /\
    (∀ j,(j<off\/off+ts.length*sz<=j)->cur'[j]? = cur[j]?)/\e = .returned (pack us)/\cD M w' rs us/\bA M w' ts'.flatten ((cur'.toList.drop off).take (ts.length*sz))
section
variable {P:Program} {N:Nat} {M0:eG} {w0 w:World} {s:St} {τ:Env} {ρ:Nat->Gh} {a:Act}
theorem EO {N:Nat} {M:Nat->Prop} {gh:Gh} {g off len cap E sz:Nat} {cur:Array Value} {w w':World} {s:St} {τ:Env} {bk:List (List aJ->Prop)} {ρ:Nat->Gh} {a:Act} {res:List ResultVar} {rs:List aJ} {ts':List (List aD)} (hval:gh.val = .slice (some ⟨g,off,none⟩) len cap) (hcur:gh.cur=cur)
  (hv:vc P (fun o=>o = .retr rs ts') (match (BD P s res).run s with
   | some (vs,l)=>aF0 s E sz vs l
   | none=>.fail 1008) τ bk) (hs:Sat (eG.mk (fun k=>M k/\k≠g) gh) w N s τ ρ a w') :
  ∃ us cur',(res.mapM (gI a.tmps)).run P w' = .ok us w'/\cD M w' rs us/\w.grownBy w' (some g)/\w'.heap[g]? = some (.cells cur' E (0,0))/\cur'.size=cur.size/\(∀ j,(j<off\/off+len*sz<=j)->cur'[j]? = cur[j]?)/\bA M w' ts'.flatten ((cur'.toList.drop off).take (len*sz))/\ρ 0=gh:=by
 have hO:∀ k,(eG.mk (fun k=>M k/\k≠g) gh).O k↔k=g:=by
  intro k;simp [eG.O,hval,Value.ownBlock,eq_comm]
 split at hv
 .rename_i vs' l hq;unfold aF0 at hv;split at hv
  .rename_i E' sz' cid hb0;split at hv
   .rename_i hc;obtain ⟨rfl,rfl,hs0,hl0⟩:=hc;obtain ⟨ts2,hcid,hpo⟩:=hv;have hpo:Out.retr _ ts2=Out.retr rs ts':=hpo;simp only [Out.retr.injEq] at hpo;obtain ⟨hrs,rfl⟩:=hpo;have hgh0:=hs.pt 0 E' sz' cid hb0;have hown0:own ρ 0 (.part E' sz' cid)=some g:=by simp only [own,hgh0,hval];rfl
    have hS:cP (eG.mk (fun k=>M k/\k≠g) gh) ρ s l M:=by
     refine ⟨fun k hk=>?_,fun b x k h1 h2 h3 hk=>?_⟩
     .by_cases hkg:k=g
      .subst hkg;exact .inr ⟨0,_,hb0,hs0,hown0⟩
      .exact .inl ⟨hk,hkg⟩
     .by_cases hkg:k=g
      .subst hkg;have:=hs.inj b 0 x _ k h1 hb0 h2 hown0;subst this;rcases h3 with h3 | h3
       .rw [hs0] at h3;cases h3
       .have:l.contains 0=true:=by simpa using h3
        rw [hl0] at this;cases this
      .exact hs.old k ⟨hk,hkg⟩ (hs.lo b x k h1 h2).1
    obtain ⟨us,hr,hrepr⟩:=nS hs hq hS;obtain ⟨ts3,xs,hcid3,⟨hxl,hown⟩,hlen3,hrep3,_,hfr⟩:=hs.bx 0 _ hb0;rw [hcid] at hcid3;simp only [aN,aJ.rows.injEq] at hcid3;subst hcid3;rw [hgh0] at hown hfr;rcases hown with ⟨_,c,hv⟩ | ⟨g2,off2,cap2,cur2,hv,hg2,hnc,hcm,hfit2,htake⟩
    .rw [hval] at hv;simp at hv
    .rw [hval] at hv;simp only [Value.slice.injEq,aN,Addr.mk.injEq,and_true] at hv;obtain ⟨⟨rfl,rfl⟩,hll,rfl⟩:=hv;obtain ⟨hf1,hf2⟩:=hfr g off len cap hval cur2 hg2;rw [hcur] at hf1 hf2;have hb:=hs.below;refine ⟨us,cur2,hr,by rw [<-hrs];exact hrepr,⟨hb.os,hb.tape,hb.output,hb.size,fun k hk hne=>hb.block k hk fun ho=>hne (by rw [(hO k).1 ho])⟩,hg2,hf1,hf2,?_,hgh0⟩;rw [hll,htake];exact hrep3.mono hS.eE
   .exact hv.elim
  .exact hv.elim
 .exact hv.elim
theorem oL {f:FuncId} {fn:Func} {hints:Nat->Option Hint} {a1 a2:List Arg} {i1 i2:List In} {E sz:Nat} {ts ts':List (List aD)} {rs:List aJ} (hm:P.follows .mixedOrders=true) (hok:pJ P f=true)
  (hf:P.funcs[f]? = some fn) (hin1:bB In.Is a1 i1) (hin2:bB In.Is a2 i2) (hlo:Vk 0 (a1 ++ .lent E sz::a2)=some (a1.length,E,sz)) (hl:ts'.length=ts.length) (hts:∀ t∈ts,t.length=sz) (hts':∀ t∈ts',t.length=sz)
  (h:vc P (fun o=>o = .retr rs ts') (Au P fn hints (a1 ++ .lent E sz::a2)) (i1.map In.env ++ .rows ts::i2.map In.env) []):kP P f E sz (i1.map In.ty) (i2.map In.ty) ts rs ts':=by
 refine ⟨bJ hok,hl,hts',fun M w g off cap cur vs1 vs2 hM hMg hg hfit hcap hmax hrep hv1 hv2=>?_⟩;unfold Au at h;rw [hlo] at h;split at h
 .rename_i c i E0 sz0 hb heq;simp only [aN,Prod.mk.injEq] at heq;obtain ⟨rfl,rfl,rfl⟩:=heq;split at h
  .rename_i hlen;refine calls_of_wp hf hb ?_;have hl1:a1.length=i1.length:=hin1.length;have hl2:a2.length=i2.length:=hin2.length;have hv1l:vs1.length=i1.length:=by rw [<-hv1.length];simp
   have hv2l:vs2.length=i2.length:=by rw [<-hv2.length];simp
   generalize hgh:(⟨0, .slice (some ⟨g,off,none⟩) ts.length cap,cur⟩:Gh)=gh
   have hO:∀ k,(eG.mk (fun k=>M k/\k≠g) gh).O k↔k=g:=by
    intro k;subst hgh;simp [eG.O,Value.ownBlock,eq_comm]
   have hMs0:∀ k,Ms (eG.mk (fun k=>M k/\k≠g) gh) (fun _=>gh) ⟨(a1 ++ .lent E sz::a2).mapIdx fun i a=>(i,jM i a),[(0, .part E sz a1.length)],[]⟩ k↔M k:=by
    intro k
    constructor
    .rintro (hk | ⟨b,x,h1,_,h3⟩)
     .exact hk.1
     .simp only [St.b,look] at h1;split at h1
      .simp only [aN] at h1;subst h1 hgh;simp only [own,Value.ownBlock,aN] at h3;subst h3;exact hMg
      .cases h1
    .intro hk;by_cases hkg:k=g
     .subst hkg;exact .inr ⟨0, .part E sz a1.length,by simp [St.b,look],by simp [St.s],by subst hgh;simp [own,Value.ownBlock]⟩
     .exact .inl ⟨hk,hkg⟩
   have hMs:Ms (eG.mk (fun k=>M k/\k≠g) gh) (fun _=>gh) ⟨(a1 ++ .lent E sz::a2).mapIdx fun i a=>(i,jM i a),[(0, .part E sz a1.length)],[]⟩=M:=funext fun k=>propext (hMs0 k);have hglt:g<w.heap.size:=(cS.1 hg).1;refine xQ (M0:=eG.mk (fun k=>M k/\k≠g) gh) (w0:=w) hm c 0 0 1 (a1 ++ .lent E sz::a2).length _ [] _ _ [] h (by simp;omega) (by intro x hx;cases hx) (aY _) (fun _=>gh) _ w _ ?_ ?_ yD.noR ?_
   .refine ⟨⟨rfl,rfl,rfl,aY _,fun _ _ _=>rfl,fun x hx=>⟨fun hm=>(hM.2 x hx).1 hm.1,fun ho=>(hM.2 x hx).1 (by rw [(hO _).1 ho];exact hMg),(hM.2 x hx).2⟩⟩,?_,rfl,fun t=>?_,?_,?_,?_,?_,?_⟩
    .simp at hlen ⊢;omega
    .rw [hMs,aj8];cases hat:(a1 ++ .lent E sz::a2)[t]? with
     | none=>trivial
     | some x=>
       have htl:t<(a1 ++ .lent E sz::a2).length:=(dR.1 hat).1;simp only [eC,List.length_cons] at htl
       have hval:((vs1 ++ .slice (some ⟨g,off,none⟩) ts.length cap::vs2).toArray++Array.replicate (fn.ntmps-(vs1 ++ .slice (some ⟨g,off,none⟩) ts.length cap::vs2).toArray.size) Go.undef).getD t Go.undef=(vs1 ++ .slice (some ⟨g,off,none⟩) ts.length cap::vs2).getD t Go.undef:=by
        rw [Array.getD_eq_getD_getElem?,Array.getElem?_append_left (by simp;omega),iP];simp
       rw [hval,iP];simp only [Option.map_some,Option.getD_some];by_cases h1:t<a1.length
       .rw [List.getElem?_append_left h1] at hat;rw [List.getElem?_append_left (by omega)];obtain ⟨y,hy,hix⟩:=hin1.get t x hat;have hvt:vs1[t]? = some (vs1[t]'(by omega)):=cC (by omega);obtain ⟨ty,hty,hrep1⟩:=hv1.get t _ hvt;rw [dL,hy] at hty;simp only [Option.map_some,aN] at hty;subst hty;rw [hvt];exact sF (by rw [List.getElem?_append_left (by simp;omega),dL,hy];rfl) hix hrep1
       .rw [List.getElem?_append_right (by omega)] at hat ⊢;by_cases h2:t=a1.length
        .subst h2;rw [Nat.sub_self] at hat;simp only [List.getElem?_cons_zero,aN] at hat;subst hat;rw [hv1l,<-hl1,Nat.sub_self];simp only [List.getElem?_cons_zero,Option.getD_some];refine ⟨by simp [St.b,look],by subst hgh;rfl,rfl⟩
        .have e1:t-a1.length=(t-a1.length-1)+1:=by omega
         have e2:t-vs1.length=(t-a1.length-1)+1:=by omega
         rw [e1,List.getElem?_cons_succ] at hat;rw [e2,List.getElem?_cons_succ];obtain ⟨y,hy,hix⟩:=hin2.get _ x hat;have hvt:vs2[t-a1.length-1]? = some (vs2[t-a1.length-1]'(by omega)):=cC (by omega);obtain ⟨ty,hty,hrep1⟩:=hv2.get _ _ hvt;rw [dL,hy] at hty;simp only [Option.map_some,aN] at hty;subst hty;rw [hvt];exact sF (by rw [List.getElem?_append_right (by simp;omega),aK,<-hl1,e1,List.getElem?_cons_succ,dL,hy];rfl) hix hrep1
    .intro b x hbx;rw [hMs];simp only [St.b,look] at hbx;split at hbx
     .simp only [aN] at hbx;subst hbx;refine ⟨ts,_,?_,⟨?_, .inr ⟨g,off,cap,cur,?_,hg,hcap,hmax,hfit,rfl⟩⟩,hts,hrep,?_,?_⟩
      .rw [List.getElem?_append_right (by simp;omega),aK,hl1,Nat.sub_self];rfl
      .rw [List.length_take,List.length_drop,Array.length_toList (xs:=cur)];exact Nat.min_eq_left (by omega)
      .subst hgh;rfl
      .subst hgh;rfl
      .intro g2 off2 len2 cap2 hv cur2 hg2;subst hgh;simp only [Value.slice.injEq,aN,Addr.mk.injEq,and_true] at hv;obtain ⟨⟨rfl,rfl⟩,rfl,rfl⟩:=hv;rw [hg] at hg2;simp only [aN,Obj.cells.injEq,and_true] at hg2;subst hg2;exact ⟨rfl,fun _ _=>rfl⟩
     .cases hbx
    .intro b b' x x' k h1 h2 _ _;simp only [St.b,look] at h1 h2;split at h1
     .split at h2
      .rename_i e1 e2;rw [<-e1,<-e2]
      .cases h2
     .cases h1
    .intro b x k h1 h2;simp only [St.b,look] at h1;split at h1
     .simp only [aN] at h1;subst h1;have:k=g:=by subst hgh;simp only [own,Value.ownBlock,aN] at h2;exact h2.symm
      subst this;exact ⟨.inr ((hO k).2 rfl),hglt⟩
     .cases h1
    .rintro k ⟨hk,hne⟩ (ho | ho)
     .exact Nat.not_lt.2 ho (hM.1 k hk)
     .exact hne ((hO k).1 ho)
    .intro b E' sz' cid hbx;rfl
   .intro c v a w' hp;cases hp
   .intro ex nb s dec m bk' ρ a w' _ _ hv _ hs;cases ex with
    | exit id=>exact hv.elim
    | normal | ret=>
      obtain ⟨us,cur',hr,h1,h2,h3,h4,h5,h6,_⟩:=EO (gh:=gh) (g:=g) (off:=off) (len:=ts.length) (cap:=cap) (E:=E) (sz:=sz) (res:=fn.results.toList) (by subst hgh;rfl) (by subst hgh;rfl) hv hs;exact ⟨hs.df,_,fA fn a.tmps us hr,cur',us,h2,h3,h4,h5,rfl,h1,h6⟩
  .exact h.elim
 .exact h.elim
end
section
variable {P:Program} {post:Out->Prop} {bk:List (List aJ->Prop)} {τ:Env} {op:Op} {ty:Nat} {last:Bool} {k:Tr}
theorem SD {c:Call} {f:FuncId} {E sz:Nat} {pre po:List aJ} {ts ts':List (List aD)} {rs:List aJ} (hc:c.callee = .value (.func f)) (h:kP P f E sz pre po ts rs ts'):RU P (.call c) ty E sz pre po ts rs ts':=by
 refine ⟨h.2.1,h.2.2.1,?_⟩;intro M w a o c' K Q g off cap cur vs1 vs2 ho ht hc' hargs hM hMg hg hfit hcap hmax hrep h1 h2 hk;cases hc';unfold Oper.wp;rw [rX (cvs:=[]) ho hc rfl h.1,Oper.upon_enter,List.append_nil,hargs];refine (h.2.2.2 M w g off cap cur vs1 vs2 hM hMg hg hfit hcap hmax hrep h1 h2).mono ?_;rintro e w' ⟨cur',us,hgr,hg',hs,hout,rfl,hr,hr'⟩;exact hk w' cur' us hgr hg' hs hout hr hr'
theorem ZF {x y:Operand} {T U E sz2 b2:Nat} {src ts:List (List aD)} (hT:eA P T=some (E,1,b2)) (hle:src.length<=ts.length) (hsrc:∀ t∈src,t.length=1) (hts:∀ t∈ts,t.length=1) :
  RU P (.call ⟨.builtin .copy,#[x,y],#[T,U]⟩) ty E 1 [] [.one (.slice 1 src)] ts [.one (.int .i64 src.length)] (src++ts.drop src.length):=by
 obtain ⟨ie,hu,hie,hies,_⟩:=cE hT;have hsz:(P.info? E).map (·.size)=some 1:=by rw [hie];simp [hies]
 refine ⟨by simp;omega,fun t ht=>?_,?_⟩
 .rcases List.mem_append.1 ht with ht | ht
  .exact hsrc t ht
  .exact hts t (List.mem_of_mem_drop ht)
 .intro M w a o c' K Q g off cap cur vs1 vs2 ho ht hc' hargs hM hMg hg hfit hcap hmax hrep h1 h2 hk;cases hc';cases vs1 with
  | cons v vs=>exact h1.elim
  | nil=>
    have hx:a.eval x = .slice (some ⟨g,off,none⟩) ts.length cap:=by simpa using congrArg List.head? hargs
    have hy:vs2 = [a.eval y]:=by
     have:=congrArg List.tail hargs
     simpa using this.symm
    subst hy;have hS:=tG h2.1;rw [Nat.mul_one] at hfit hrep hk;cases hS with
    | nil c hv hus=>
      subst hus;have hrun:=run_copy_none (P:=P) w T U o.type E (some ⟨g,off,none⟩) none ts.length cap 0 c hu hsz (by simp)
      have hwp:o.wp P a w K Q=K (a.put o.dst (goInt 0)) w:=by
       unfold Oper.wp;simp [execOp,ho,resolve,invoke,builtin,hx,hv,hrun,Result.andThen,Oper.upon]
      rw [hwp];exact hk w cur [.int .i64 0] ⟨rfl,rfl,rfl,aY _,fun _ _ _=>rfl⟩ hg rfl (fun _ _=>rfl) ⟨⟨rfl,rfl⟩,trivial⟩ (by simpa using hrep)
    | some ad c news hv hl hn hr hs=>
      rw [Nat.mul_one] at hl;have hrun:=run_copy_row (P:=P) w T U o.type E g off ts.length cap ad src.length c cur E news hu hsz hg (by rw [hl];exact (Nat.min_eq_left hle).symm) hn (by omega) hr.one
      have hwp:o.wp P a w K Q=K (a.put o.dst (goInt news.length)) (w.setRow g (cur.toList.take off++(news++cur.toList.drop (off+news.length))).toArray):=by
       unfold Oper.wp;simp [execOp,ho,resolve,invoke,builtin,hx,hv,hrun,Result.andThen,Oper.upon]
      rw [hwp];have hcl:cur.toList.length=cur.size:=Array.length_toList;have hus:(ts.take src.length).length=src.length:=by rw [List.length_take];omega
      have hsp:=uR (w:=w) (M:=M) (sz:=1) (ts:=ts) (us:=ts.take src.length) (us':=src) (n:=0) hts (by rw [hus,List.drop_zero]) (by rw [hus];omega) (by rw [hus]) hs (by simpa using hrep) hr;rw [hus] at hsp;refine hk _ _ [.int .i64 news.length] ⟨rfl,rfl,rfl,by simp,fun k _ hk=>setRow_other w g k _ (by rintro rfl;exact hk rfl)⟩ (setRow_heap w _ _ _ _ _ hg) (by simp;omega) ?_ ⟨⟨by rw [hl],rfl⟩,trivial⟩ ?_
      .intro j hj;rw [List.getElem?_toArray,<-Array.getElem?_toList];simp only [List.getElem?_append,List.getElem?_take,List.getElem?_drop,List.length_take]
       grind
      .have e1:(cur.toList.take off++(news++cur.toList.drop (off+news.length))).toArray.toList.drop off=news++cur.toList.drop (off+news.length):=by
        show List.drop off (cur.toList.take off++(news++cur.toList.drop (off+news.length)))=_;rw [List.drop_append_of_le_length (by rw [List.length_take];omega),List.drop_eq_nil_of_le (by rw [List.length_take];omega),List.nil_append]
       rw [e1]
       have e2:(news++cur.toList.drop (off+news.length)).take ts.length=List.take (0*1) ((cur.toList.drop off).take ts.length)++news++List.drop (0*1+src.length*1) ((cur.toList.drop off).take ts.length):=by
        apply List.ext_getElem?;intro j;simp only [List.getElem?_append,List.getElem?_take,List.getElem?_drop,eC,List.length_take,List.length_drop,hl]
        grind
       rw [e2];simp only [List.take_zero,List.nil_append,Nat.zero_add,Nat.mul_one,Nat.zero_mul] at hsp ⊢;refine bA.mono ?_ hsp;intro k ob hnk hob _;exact ⟨hnk,by rw [setRow_other w g k _ (by rintro rfl;exact hnk hMg)];exact hob⟩
theorem aI7 {cid E sz n:Nat} {view:Option (C0×C0)} {as bs:List SW} {sh:List (Option Nat)} {ts us us' vs:List (List aD)} {rs:List aJ} (h1:τ[cid]? = some (.rows ts)) (h2:aj4 τ view ts n us) (hne:us ≠ []) (hs:rs.map aJ.shape=sh.map some)
  (hr:RU P op ty E sz (as.map (nU τ)) (bs.map (nU τ)) us rs us') (hv:ts.take n++us'++ts.drop (n+us.length)=vs) (hk:vc P post k (τ++(rs ++ [.rows vs])) bk):vc P post (.need (.rop cid E sz view as bs sh) op ty last k) τ bk:=
 .inl ⟨rs ++ [.rows vs],⟨ts,us,us',rs,n,h1,h2,hne,hs,hr,by rw [hv]⟩,by have:=congrArg List.length hs;simpa [dY.ids] using this,hk⟩
theorem by1 {cid n m:Nat} {lo hi mx:C0} {ts:List (List aD)} {k1 k2 k3:IntKind} (h1:τ[cid]? = some (.rows ts)) (h2:c0 τ lo = .int k1 n) (h3:c0 τ hi = .int k2 m) (h4:c0 τ mx = .int k3 m) (hnm:n<m) (hm:m<=ts.length) (hk:vc P post k τ bk):vc P post (.need (.view cid lo hi mx) op ty last k) τ bk:=
 .inl ⟨[],⟨ts,k1,k2,k3,n,m,h1,h2,h3,h4,hnm,hm,rfl⟩,rfl,by rw [List.append_nil];exact hk⟩
theorem lG {vs:List SW} {cid:Nat} {rs:List aJ} {ts:List (List aD)} (h1:τ[cid]? = some (.rows ts)) (h:vs.map (nU τ)=rs):vc P (fun o=>o = .retr rs ts) (.retr vs cid) τ bk:=by
 refine ⟨ts,h1,?_⟩;show Out.retr _ _=_;rw [h]
end
section
variable {P:Program} {T U ty:TypeId} {x y:Operand} {a b:Int}
theorem fI {n:Int} (h1:-9223372036854775808<=n:=by omega) (h2:n<9223372036854775808:=by omega):IntKind.i64.wrap n=n:=by rw [IntKind.wrap_i64];omega
theorem Hg {n:Int} (h1:0<=n:=by omega) (h2:n<18446744073709551616:=by omega):IntKind.u64.wrap n=n:=by rw [IntKind.wrap_u64];omega
theorem VH {n:Int} (h1:0<=n) (h2:n<4294967296):IntKind.u32.wrap n=n:=by rw [IntKind.wrap_u32];omega
theorem bu6 {n:Int} (h1:0<=n) (h2:n<256):IntKind.u8.wrap n=n:=by rw [IntKind.wrap_u8];omega
theorem aB (h1:-9223372036854775808<=a+b) (h2:a+b<9223372036854775808):bF P (.binOp .add T x y U) ty [.one (.int .i64 a), .one (.int .i64 b)] (.one (.int .i64 (a+b))):=eV (fI h1 h2)
theorem aG (h1:-9223372036854775808<=a-b) (h2:a-b<9223372036854775808):bF P (.binOp .sub T x y U) ty [.one (.int .i64 a), .one (.int .i64 b)] (.one (.int .i64 (a-b))):=nY (fI h1 h2)
theorem Af (h1:-9223372036854775808<=a*b:=by omega) (h2:a*b<9223372036854775808:=by omega):bF P (.binOp .mul T x y U) ty [.one (.int .i64 a), .one (.int .i64 b)] (.one (.int .i64 (a*b))):=wQ (fI h1 h2)
theorem NG (h0:0<=a:=by omega) (h1:0<b:=by omega) (h2:a<9223372036854775808:=by omega):bF P (.binOp .quo T x y U) ty [.one (.int .i64 a), .one (.int .i64 b)] (.one (.int .i64 (a/b))):=oX (by omega) (by
 have h3:a/b<=a:=Int.ediv_le_self b h0;have h4:0<=a/b:=Int.ediv_nonneg h0 (by omega);rw [Int.tdiv_eq_ediv_of_nonneg h0,fI])
theorem wR {k:IntKind} (hu:∃ d,P.underlying T=some d) (hd:P.underlying U=some (.int .i64)) (h1:-9223372036854775808<=a:=by omega) (h2:a<9223372036854775808:=by omega):bF P (.convert T U x) ty [.one (.int k a)] (.one (.int .i64 a)):=jH hu hd (fI h1 h2)
theorem NA (h1:-9223372036854775808 <= -a:=by omega) (h2:-a<9223372036854775808:=by omega):bF P (.unOp .neg T x) ty [.one (.int .i64 a)] (.one (.int .i64 (-a))):=aK1 (by rw [Int.zero_sub];exact fI h1 h2)
theorem Yl (h1:0<=a+b:=by omega) (h2:a+b<18446744073709551616:=by omega):bF P (.binOp .add T x y U) ty [.one (.int .u64 a), .one (.int .u64 b)] (.one (.int .u64 (a+b))):=eV (Hg h1 h2)
theorem Zo (h1:0<=a-b:=by omega) (h2:a-b<18446744073709551616:=by omega):bF P (.binOp .sub T x y U) ty [.one (.int .u64 a), .one (.int .u64 b)] (.one (.int .u64 (a-b))):=nY (Hg h1 h2)
theorem YX (h1:0<=a*b:=by omega) (h2:a*b<18446744073709551616:=by omega):bF P (.binOp .mul T x y U) ty [.one (.int .u64 a), .one (.int .u64 b)] (.one (.int .u64 (a*b))):=wQ (Hg h1 h2)
theorem Nx (h0:0<=a:=by omega) (h1:0<b:=by omega) (h2:a<18446744073709551616:=by omega):bF P (.binOp .quo T x y U) ty [.one (.int .u64 a), .one (.int .u64 b)] (.one (.int .u64 (a/b))):=oX (by omega) (by
 have h3:a/b<=a:=Int.ediv_le_self b h0;have h4:0<=a/b:=Int.ediv_nonneg h0 (by omega);rw [Int.tdiv_eq_ediv_of_nonneg h0,Hg])
theorem rF {k:IntKind} (hu:∃ d,P.underlying T=some d) (hd:P.underlying U=some (.int .u64)) (h1:0<=a:=by omega) (h2:a<18446744073709551616:=by omega):bF P (.convert T U x) ty [.one (.int k a)] (.one (.int .u64 a)):=jH hu hd (Hg h1 h2)
theorem mC (h1:0<=a+b:=by omega) (h2:a+b<4294967296:=by omega):bF P (.binOp .add T x y U) ty [.one (.int .u32 a), .one (.int .u32 b)] (.one (.int .u32 (a+b))):=eV (VH h1 h2)
theorem mG (h1:0<=a-b:=by omega) (h2:a-b<4294967296:=by omega):bF P (.binOp .sub T x y U) ty [.one (.int .u32 a), .one (.int .u32 b)] (.one (.int .u32 (a-b))):=nY (VH h1 h2)
theorem oI {k:IntKind} (hu:∃ d,P.underlying T=some d) (hd:P.underlying U=some (.int .u32)) (h1:0<=a:=by omega) (h2:a<4294967296:=by omega):bF P (.convert T U x) ty [.one (.int k a)] (.one (.int .u32 a)):=jH hu hd (VH h1 h2)
theorem SJ (h1:0<=a+b:=by omega) (h2:a+b<256:=by omega):bF P (.binOp .add T x y U) ty [.one (.int .u8 a), .one (.int .u8 b)] (.one (.int .u8 (a+b))):=eV (bu6 h1 h2)
variable {k:IntKind}
theorem qB (h0:0<=a:=by omega) (h1:0<b:=by omega):bF P (.binOp .rem T x y U) ty [.one (.int k a), .one (.int k b)] (.one (.int k (a%b))):=Ez (by omega) (Int.tmod_eq_emod_of_nonneg h0)
theorem dP:bF P (.binOp .eql T x y U) ty [.one (.int k a), .one (.int k b)] (.one (.bool (decide (a=b)))):=am2
theorem fG:bF P (.binOp .neq T x y U) ty [.one (.int k a), .one (.int k b)] (.one (.bool (decide (a≠b)))):=by
 have:decide (a≠b) = !decide (a=b):=by by_cases h:a=b<;>simp [h]
 rw [this];exact SM
theorem bQ:bF P (.binOp .lss T x y U) ty [.one (.int k a), .one (.int k b)] (.one (.bool (decide (a<b)))):=tX
theorem nX:bF P (.binOp .leq T x y U) ty [.one (.int k a), .one (.int k b)] (.one (.bool (decide (a<=b)))):=bo4
theorem gH:bF P (.binOp .gtr T x y U) ty [.one (.int k a), .one (.int k b)] (.one (.bool (decide (b<a)))):=Sd
theorem gJ:bF P (.binOp .geq T x y U) ty [.one (.int k a), .one (.int k b)] (.one (.bool (decide (b<=a)))):=HF
theorem Rm {p:Prop} [Decidable p]:bF P (.unOp .not T x) ty [.one (.bool (decide p))] (.one (.bool (decide (¬ p)))):=by
 have:decide (¬ p) = !decide p:=by by_cases h:p<;>simp [h]
 rw [this];exact gX
theorem bH8 {s t:ByteArray}:(s.toList==t.toList)=decide (s.data=t.data):=by
 rw [ByteArray.toList_eq,ByteArray.toList_eq];by_cases h:s.data=t.data
 .simp [h]
 .have:¬ s.data.toList=t.data.toList:=fun e=>h (Array.toList_inj.1 e);simp [h]
theorem GG {s t:ByteArray}:bF P (.binOp .eql T x y U) ty [.one (.str s), .one (.str t)] (.one (.bool (decide (s.data=t.data)))):=by
 rw [<-bH8];exact XU
theorem aY1 {p q:Bool} (hu:P.underlying T=some .bool):bF P (.binOp .eql T x y U) ty [.one (.bool p), .one (.bool q)] (.one (.bool (decide (p=q)))):=by
 intro M w ρ o ho _ hr;obtain ⟨hx,hy⟩:=tW hr;have hx:ρ x = .bool p/\_:=hx;have hy:ρ y = .bool q/\_:=hy;exact ⟨.bool (decide (p=q)),by cases p<;>cases q<;>simp [execOp,ho,hx.1,hy.1,eqGuard,binOp,Op.equal,Op.maxDepth,run_equalIn_bool _ _ _ _ _ hu],⟨rfl,rfl⟩⟩
theorem aV8 {p q:Bool} (hu:P.underlying T=some .bool):bF P (.binOp .neq T x y U) ty [.one (.bool p), .one (.bool q)] (.one (.bool (decide (p≠q)))):=by
 intro M w ρ o ho _ hr;obtain ⟨hx,hy⟩:=tW hr;have hx:ρ x = .bool p/\_:=hx;have hy:ρ y = .bool q/\_:=hy;exact ⟨.bool (decide (p≠q)),by cases p<;>cases q<;>simp [execOp,ho,hx.1,hy.1,eqGuard,binOp,Op.equal,Op.maxDepth,run_equalIn_bool _ _ _ _ _ hu],⟨rfl,rfl⟩⟩
theorem aH {E sz b m:Nat} {n:Int} {α:Type} {f:α->List aD} {xs:List α} {d:α} (h:eA P T=some (E,sz,b)) (h0:0<=n) (hm:n.toNat=m) (hd:xs[m]? = some d) :
  bF P (.indexAddr T x y) ty [.one (.slice sz (xs.map f)), .one (.int k n)] (.one (.bH (f d))):=WN h (by rw [hm,dL,hd];rfl) h0
theorem aN5 {ts:Array TypeId}:bF P (.call ⟨.builtin .min,#[x,y],ts⟩) ty [.one (.int k a), .one (.int k b)] (.one (.int k (min a b))):=by
 intro M w ρ o ho ht hr;obtain ⟨hx,hy⟩:=tW (x:=x) (y:=y) hr;have hx:ρ x = .int k a/\_:=hx;have hy:ρ y = .int k b/\_:=hy;have e:(if b<a then b else a)=min a b:=by omega
 exact ⟨.int k (min a b),by simp [execOp,ho,resolve,invoke,builtin,hx.1,hy.1,run_min_int2,e],⟨rfl,rfl⟩⟩
theorem aq4 {ts:Array TypeId}:bF P (.call ⟨.builtin .max,#[x,y],ts⟩) ty [.one (.int k a), .one (.int k b)] (.one (.int k (max a b))):=by
 intro M w ρ o ho ht hr;obtain ⟨hx,hy⟩:=tW (x:=x) (y:=y) hr;have hx:ρ x = .int k a/\_:=hx;have hy:ρ y = .int k b/\_:=hy;have e:(if a<b then b else a)=max a b:=by omega
 exact ⟨.int k (max a b),by simp [execOp,ho,resolve,invoke,builtin,hx.1,hy.1,run_max_int2,e],⟨rfl,rfl⟩⟩
theorem cH {c:aD} (h:oE P T=some (false,1)):bF P (.load T x) ty [.one (.bH [c])] (.one c):=aR (n:=1) h (by decide) (by simp) (.inr rfl)
end
section
variable {P:Program} {post:Out->Prop} {bk:List (List aJ->Prop)} {τ:Env} {op:Op} {ty:Nat} {last:Bool} {k:Tr} {α:Type} {f:α->List aD}
theorem cJ {cid:Nat} {i:C0} {xs:List α} {ik:IntKind} {n:Int} (h1:τ[cid]? = some (.rows (xs.map f))) (h2:c0 τ i = .int ik n) (h0:0<=n) (hn:n<xs.length) (hk:vc P post k τ bk):vc P post (.need (.idx cid i) op ty last k) τ bk:=
 qP h1 h2 h0 (by rw [aK];exact hn) hk
theorem Wi {cid off sz m:Nat} {ag:Bool} {i:C0} {xs:List α} {d:α} {ik:IntKind} {n:Int} {t:aJ} (h1:τ[cid]? = some (.rows (xs.map f))) (h2:c0 τ i = .int ik n) (h0:0<=n) (hm:n.toNat=m) (hd:xs[m]? = some d) (hag:ag=true\/sz=1) (ht:XF ag (((f d).drop off).take sz)=t) (hk:vc P post k (τ ++ [t]) bk):vc P post (.need (.ldrow cid i off sz ag) op ty last k) τ bk:=
 vld h1 h2 h0 (by rw [hm,dL,hd];rfl) hag ht hk
theorem nQ {cid off m:Nat} {i:C0} {xs:List α} {d:α} {c:aD} {ik:IntKind} {n:Int} (h1:τ[cid]? = some (.rows (xs.map f))) (h2:c0 τ i = .int ik n) (h0:0<=n) (hm:n.toNat=m) (hd:xs[m]? = some d) (hc:(f d)[off]? = some c) (hk:vc P post k (τ ++ [.one c]) bk):vc P post (.need (.ldrow cid i off 1 false) op ty last k) τ bk:=by
 refine Wi h1 h2 h0 hm hd (.inr rfl) ?_ hk;obtain ⟨hlt,he⟩:=dR.1 hc;rw [List.drop_eq_getElem_cons hlt,he];rfl
theorem gP {cid sz off m:Nat} {i:C0} {cs:List C0} {xs:List α} {d d':α} {ik:IntKind} {n:Int} (h1:τ[cid]? = some (.rows (xs.map f))) (h2:c0 τ i = .int ik n) (h0:0<=n) (hm:n.toNat=m) (hd:xs[m]? = some d)
  (hu:(f d).take off++cs.map (c0 τ)++(f d).drop (off+cs.length)=f d') (hk:vc P post k (τ ++ [.rows ((xs.set m d').map f)]) bk):vc P post (.need (.strow cid sz i off cs) op ty last k) τ bk:=
 QK h1 h2 h0 (by rw [hm,dL,hd];rfl) (by rw [hm,hu,List.map_set]) hk
theorem Cq {z:List Value} {b:Nat} {l c:C0} {n:Nat} {m:Int} {kl kc:IntKind} (a:α) (h1:c0 τ l = .int kl m) (h2:c0 τ c = .int kc m) (hmn:m=n) (hu:z.map .exact=f a) (hb:b*n<=140737488355328) (hm:n<=maxLen) (hk:vc P post k (τ ++ [.rows ((List.replicate n a).map f)]) bk):vc P post (.need (.make z b l c) op ty last k) τ bk:=
 xG (n:=n) (m:=n) (by rw [<-hmn];exact h1) (by rw [<-hmn];exact h2) (by rw [hu,List.map_replicate]) (aY _) hb hm hk
theorem kX {sz b:Nat} {cid:Option Nat} {src:Option C0} {row:Option Nat} {xs:List α} {x:α} (h1:ak0 τ cid (xs.map f)) (h2:af7 τ sz src row [f x]) (hb:(xs.length+1)*b<=140737488355328) (hm:xs.length+1<=maxLen) (hk:vc P post k (τ ++ [.rows ((xs ++ [x]).map f)]) bk):vc P post (.need (.app sz b cid src row) op ty last k) τ bk:=
 BC (ts:=xs.map f) (us:=[f x]) h1 h2 (by rw [List.map_append];rfl) (by rw [aK,eC];exact hb) (by rw [aK,eC];exact hm) hk
theorem ZT {cid E b2:Nat} {s:SW} {x y:Operand} {T U:Nat} {xs zs ws:List α} (hf:∀ a,(f a).length=1) (h1:τ[cid]? = some (.rows (zs.map f))) (h2:nU τ s = .one (.slice 1 (xs.map f))) (hT:eA P T=some (E,1,b2)) (hle:xs.length<=zs.length) (hne:zs ≠ []) (hw:xs++zs.drop xs.length=ws)
  (hk:vc P post k (τ ++ [.one (.int .i64 xs.length), .rows (ws.map f)]) bk):vc P post (.need (.rop cid E 1 none [] [s] [none]) (.call ⟨.builtin .copy,#[x,y],#[T,U]⟩) ty last k) τ bk:=by
 have hall:∀ l:List α,∀ t∈l.map f,t.length=1:=fun l t ht=>by
  obtain ⟨a,_,rfl⟩:=eM.1 ht;exact hf a
 refine aI7 (n:=0) (us:=zs.map f) h1 ⟨rfl,rfl⟩ (by simpa using hne) rfl (by rw [List.map_singleton,h2];exact ZF (sz2:=0) hT (by simpa using hle) (hall xs) (hall zs)) rfl ?_
 have e1:List.take 0 (zs.map f)++(xs.map f++(zs.map f).drop (xs.map f).length)++(zs.map f).drop (0+(zs.map f).length)=ws.map f:=by
  rw [List.take_zero,List.nil_append,Nat.zero_add,List.drop_length,List.append_nil,aK,<-List.map_drop,<-List.map_append,hw]
 rw [e1,aK];exact hk
end
abbrev W (i j:Nat):SW:=.one (.c (.u i j))
abbrev U (i j:Nat):SC:=.c (.u i j)
abbrev WK (n:Int):SW:=.one (.c (.k (.int .i64 n)))
abbrev I3 (n:Int):Value:=.int .i64 n
abbrev G1 (i:Nat):SW:=.agg [U i 0]
abbrev G2 (i:Nat):SW:=.agg [U i 0,U i 1]
abbrev G3 (i:Nat):SW:=.agg [U i 0,U i 1,U i 2]
abbrev G4 (i:Nat):SW:=.agg [U i 0,U i 1,U i 2,U i 3]
abbrev G5 (i:Nat):SW:=.agg [U i 0,U i 1,U i 2,U i 3,U i 4]
abbrev G6 (i:Nat):SW:=.agg [U i 0,U i 1,U i 2,U i 3,U i 4,U i 5]
abbrev G8 (i:Nat):SW:=.agg [U i 0,U i 1,U i 2,U i 3,U i 4,U i 5,U i 6,U i 7]
abbrev tE (v:Value):SC:=.c (.k v)
abbrev tN:SC:=.c (.k (.slice none 0 0))
abbrev tF (b:Bool):SW:=.one (.c (.k (.bool b)))
abbrev lV (i j:Nat):LV:=.w (W i j)
abbrev lK (z:Int):LV:=.w (WK z)
abbrev lN:LV:=.w (.one tN)
abbrev tT (n:Nat):Operand:=.tmp n
def bI (o:BinOp) (T t:Nat) (z:Int) (i j ty:Nat) (k:Tr):Tr:=.need (.prim [W i j,WK z] none) (.binOp o T (.tmp t) (.const (I3 z)) T) ty false k
def cU (o:BinOp) (T t u i j m n ty:Nat) (k:Tr):Tr:=.need (.prim [W i j,W m n] none) (.binOp o T (.tmp t) (.tmp u) T) ty false k
def aZ (f:Nat) (as:List SW) (sh:List (Option Nat)) (ts xL:List Nat) (ty:Nat) (l:Bool) (k:Tr):Tr:=.need (.call f as sh) (.call ⟨.value (.func f),(ts.map Operand.tmp).toArray,xL.toArray⟩) ty l k
def dS (i j t T:Nat) (k:Tr):Tr:=.need (.prim [W i j] none) (.call ⟨.builtin .len,#[(.tmp t)],#[T]⟩) 3 false k
def eW (i j m n T t u:Nat) (k:Tr):Tr:=.need (.prim [W i j,W m n] none) (.indexAddr T (.tmp t) (.tmp u)) 0 false k
def eI (i j:Nat) (sh:Option Nat) (T t:Nat) (k:Tr):Tr:=.need (.prim [W i j] sh) (.load T (.tmp t)) T false k
end Go.Sy
