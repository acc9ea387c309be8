/- Part. -/
import Derived.Test.YtacgmapjhpghkaaGreatDoorQa
set_option linter.all false
namespace Go.Sy
open Go Go.Proofs Tryz Ord
def Wl(A:Nat)(ps:List (List Rat)):Prop:=∀p∈ps,p.length<=100/\∀a∈p,Fit A a
theorem Wl.dv{A:Nat}{ps:List (List Rat)}(hA:1<=A)(h:Wl A ps):Wl (A+12) (xk ps):=fun p hp=>by
 obtain⟨q,hq,rfl⟩:=dH.1 hp;have h1:=h q hq;have h2:=zM q;exact⟨by omega,ab4 hA h1.2⟩
theorem Ud{ps:List (List Rat)}{i:Nat}(h:i<ps.length):ps.getD i []∈ps:=by
 rw[fQ,bQ h];exact vg h
theorem aP6{ps:List (List Rat)}{i:Nat}(h:i<ps.length):ps[i]?=some (ps.getD i []):=by
 rw[fQ,bQ h];rfl
theorem Wl.r{A:Nat}{pr:List (List RQ)}(h:Wl A (eqR pr)){p:List RQ}(hp:p∈pr):p.length<=100/\∀a∈p,Fit A a.q:=by
 have h1:=h (p.map RQ.q) (tH hp);rw[aI]at h1;exact⟨h1.1,fun a ha=>h1.2 _ (tH ha)⟩
open Go Go.Proofs Go.RowKit Go.Shelf Tryz Ord
attribute [local go_sem] Oper.semAt_some
section
variable(M:Nat->Prop)(w:World)(Pq:Rat->Prop)
structure PV where
 q:Rat
 u0:Value
 u1:Value
 u2:Value
 ok:Pq q
 rep:ai M w (qC q) [u0,u1,u2]
end
theorem bu1{M:Nat->Prop}{w:World}{Pq:Rat->Prop}{v:Value}{ps:List Rat}(h:(sQ ps).rep M w v)(hp:∀q∈ps,Pq q) :
  ∃(ts:List (PV M w Pq))(a:Option Addr)(cap:Nat),v=.slice a ts.length cap/\ts.map PV.q=ps/\Sl3 PV.u0 PV.u1 PV.u2 w.heap.size w v ts:=by
 obtain⟨a,cap,rfl,hc,hm,hel⟩:=h;have hlen:(rQ ps).length=ps.length:=aI _;rcases hel with h | ⟨b,off,cs,T,fz,rfl,hb,hh,hr⟩
 ·have:ps=[]:=by cases ps<;>simp_all[rQ]
  subst this;exact⟨[],a,cap,rfl,rfl,a,cap,rfl,.inl rfl⟩
 ·obtain⟨ts,h1,h2⟩:=nh (fun i (x:PV M w Pq)=>ps[i]?=some x.q/\w.cell? ⟨b,off+i*3,none⟩=some x.u0/\w.cell? ⟨b,off+i*3+1,none⟩=some x.u1/\w.cell? ⟨b,off+i*3+2,none⟩=some x.u2) ps.length fun i hi=>by
   obtain⟨q,hq⟩:∃q,ps[i]?=some q:=⟨_,bQ hi⟩
   obtain⟨_,hrep⟩:=hr i (qC q) (by rw[rQ,cn,hq];rfl)
   have hat:∀j,j<3->((cs.toList.drop (off+i*3)).take 3)[j]?=cs[off+i*3+j]?:=fun j hj=>by
    rw[dm,aK hj,eo];simp
   have hl:=hrep.length;generalize hus:(cs.toList.drop (off+i*3)).take 3=us at hrep hl hat
   match us,hrep with
   | [x0,x1,x2],hrep=>
     refine⟨⟨q,x0,x1,x2,hp q (ei hq),hrep⟩,hq,?_,?_,?_⟩
     ·have h0:=hat 0 (by omega);rw[bq]at h0;exact bD hh (by rw[<-h0];rfl)
     ·exact bD hh (by rw[<-hat 1 (by omega)];rfl)
     ·exact bD hh (by rw[<-hat 2 (by omega)];rfl)
   | [],hrep=>exact hrep.elim
   | [_],hrep=>exact hrep.2.elim
   | [_,_],hrep=>exact hrep.2.2.elim
   | _::_::_::_::_,hrep=>exact hrep.2.2.2.elim
  refine⟨ts,_,cap,by rw[hlen,h1],?_,_,cap,by rw[hlen,h1],.inr ⟨b,off,rfl,(cZ.1 hh).1,fun j v hj=>(h2 j v hj).2⟩⟩;refine fJ fun i=>?_;rw[cn];cases hi:ts[i]? with
  | none=>
    have:=eZ.1 hi;rw[eZ.2 (by omega)];rfl
  | some x=>rw[(h2 i x hi).1];rfl
def hP{M:Nat->Prop}{w:World}{Pq:Rat->Prop}(f:List Rat->Rat->List Rat)(pre:List (Nat×PV M w Pq)):List Rat:=pre.foldl (fun v c=>f v c.2.q) []
theorem be8{M:Nat->Prop}{w:World}{Pq:Rat->Prop}(f:List Rat->Rat->List Rat)(pre:List (Nat×PV M w Pq))(y:Nat×PV M w Pq):hP f (pre++[y])=f (hP f pre) y.2.q:=by simp[hP]
theorem bu5{M:Nat->Prop}{w:World}{Pq:Rat->Prop}{f:List Rat->Rat->List Rat}{Inv:Nat->List Rat->Prop}(h0:Inv 0 [])(hs:∀k v c,Inv k v->Pq c->Inv (k+1) (f v c))(pre:List (Nat×PV M w Pq)):Inv pre.length (hP f pre):=by
 have key:∀(l:List (Nat×PV M w Pq))(k:Nat)(v:List Rat),Inv k v->Inv (k+l.length) (l.foldl (fun v c=>f v c.2.q) v):=by
  intro l
  induction l with
  | nil=>intro k v h;exact h
  | cons y l ih=>
    intro k v h;have:=ih (k+1) (f v y.2.q) (hs k v _ h y.2.ok);rw[an,show k+(l.length+1)=k+1+l.length by omega];exact this
 have:=key pre 0 [] h0
 rwa[bM]at this
theorem XX{M:Nat->Prop}{w:World}{c:aC}{vs:List Value}(h:ba M w [.one c] vs):∃v,pack vs=v/\c.rep M w v:=by
 match vs,h with
 | [v],h=>exact⟨v,rfl,h.1⟩
 | [],h=>exact h.elim
 | _::_::_,h=>exact h.2.elim
set_option maxRecDepth 100000 in
set_option maxHeartbeats 1000000 in
theorem Wk(M:Nat->Prop)(w:World)(Pq:Rat->Prop)(f:List Rat->Rat->List Rat)(Inv:Nat->List Rat->Prop)(g:FuncId)(caps:List aC)(h0:Inv 0 [])(hinv:∀k v c,Inv k v->Pq c->Inv (k+1) (f v c))
  (hM:cC M w) [Inhabited (PV M w Pq)] (a:Option Addr) (cap:Nat) (ts:List (PV M w Pq))
  (hstep:∀k v c,k<ts.length->Inv k v->Pq c->aU prog g (.one (sQ v)::qT c::caps.map .one) (.ret [.one (sQ (f v c))]))
  (hI:Sl3 PV.u0 PV.u1 PV.u2 w.heap.size w (.slice a ts.length cap) ts) (z:Value) (hz:(sQ []).rep M w z) (cvs:List Value) (hcv:ai M w caps cvs) (hlen:ts.length<4611686018427387904:=by omega) :
  CallsIn Fence.wide 1001 prog 249 #[.slice a ts.length cap,z,.func (.func g) #[] cvs.toArray] w fun e W'=>Below w.heap.size w W'/\∃u,e=.returned u/\(sQ (hP f (bk ts ts.length))).rep M W' u:=by
 refine qE func249 rfl trivial ?_ rfl;simp only[ntmps249,cw,an,bo,Nat.reduceAdd,Nat.reduceSub,dx,dk,du,di,List.nil_append,List.cons_append];generalize hL:ts.length=L at hI hlen hstep|-;obtain⟨za,zl,zc,rfl⟩:∃za zl zc,z=.slice za zl zc:=by obtain⟨za,zc,e,_⟩:=hz;exact⟨_,_,_,e⟩
 gi_wp2_with (refine⟨trivial,?_⟩;gi_at_call 224;refine(VS _ _ _ _ _).mono ?_;rintro e w' ⟨rfl,rfl⟩)
 obtain⟨n0,hn0⟩:∃n0,w.heap.size=n0:=⟨_,rfl⟩
 obtain⟨hM,hMg⟩:=hM;rw[hn0]at hI hM|-;obtain⟨W0,hW0⟩:∃W0,(((w.alloc (.cells #[.slice za zl zc] 98)).alloc (.cells #[.func (.func g) #[] cvs.toArray] 258)).alloc (.cells #[.slice a L cap] 98))=W0:=⟨_,rfl⟩
 have hs0:W0.heap.size=n0+3:=by rw[<-hW0];simp[hn0]
 have hX0:W0.heap[n0]?=some (.cells #[.slice za zl zc] 98 (0,0)):=by rw[<-hW0,dE _ _ _ (by simp;omega),dE _ _ _ (by simp;omega),<-hn0];exact dX w _
 have hS0:W0.heap[n0+1]?=some (.cells #[.func (.func g) #[] cvs.toArray] 258 (0,0)):=by
  rw[<-hW0,dE _ _ _ (by simp;omega)];have:=dX (w.alloc (.cells #[.slice za zl zc] 98)) (.cells #[.func (.func g) #[] cvs.toArray] 258);rw[cy,hn0]at this;exact this
 have hP0:W0.heap[n0+2]?=some (.cells #[.slice a L cap] 98 (0,0)):=by
  rw[<-hW0];have:=dX ((w.alloc (.cells #[.slice za zl zc] 98)).alloc (.cells #[.func (.func g) #[] cvs.toArray] 258)) (.cells #[.slice a L cap] 98);rw[cy,cy,hn0]at this;exact this
 have hB0:Below n0 w W0:=by
  rw[<-hW0];exact(((cu _ w).alloc (by omega) _).alloc (by simp;omega) _).alloc (by simp;omega) _
 rw[hW0]
 refine wpIn_rangeFunc_ownH (w0:=W0) rfl (by omega) (gf:=246) (lb:=#[.pointer (some ⟨n0+1+1,0,none⟩)]) rfl trivial (vy func246 (by kernel_rfl) rfl)
  (yQ (e0:=PV.u0) (e1:=PV.u1) (e2:=PV.u2) (n0+2) n0 (.slice a L cap) ts (by omega) W0 (by omega) (by omega) (bD hP0 rfl) (hI.below hB0)) Uj (UI (by omega) (by omega)) (cu _ _) (fun _=>rfl)
  (fun pre W=>Below n0 w W/\n0+3<=W.heap.size/\W.heap[n0+1]?=some (.cells #[.func (.func g) #[] cvs.toArray] 258 (0,0)) /\
   ∃ua ul uc,W.heap[n0]?=some (.cells #[.slice ua ul uc] 98 (0,0))/\(sQ (hP f pre)).rep (fun b=>M b\/b=n0) W (.slice ua ul uc))
  (fun _ _ _=>False) ?own (fun _=>by intro s A B row hs;exact hs.elim) ?start
  (fun y a' W=>∃b,n0+3<=b/\a'={ tmps:=#[.slice a L cap,.slice za zl zc,.func (.func g) #[] cvs.toArray,undef,.pointer (some ⟨n0,0,none⟩),.pointer (some ⟨n0+1,0,none⟩),.slice none 0 0,undef,.pointer (some ⟨b,0,none⟩),.slice a L cap,.func (.func 246) #[] #[.pointer (some ⟨n0+1+1,0,none⟩)],.int .i64 (y.1:Int),.agg #[y.2.u0,y.2.u1,y.2.u2],undef,undef,undef,undef,undef],defers:=[] } /\ W.heap[b]?=some (.cells #[y.2.u0,y.2.u1,y.2.u2] 46 (0,0)))
  ?ax ?assign ?body ?done ?stop
 case own=>
  rintro s A A' row ⟨h1,h2,h3,ua,ul,uc,h5,h6⟩ hg hr;have hr':∀r,row=some r->∃o:Obj,A.heap[r]?=some o/\o.isCells=false:=fun r e=>(hr r e).2;refine⟨h1.grown hg (by omega) (fun k e=>by have:=(hr k e).1;omega),aq h2 hg.size,eD hg hr' h3 rfl,ua,ul,uc,eD hg hr' h5 rfl,aC.mono _ (fun b o hb ho hc=>⟨hb,eD hg hr' ho hc⟩) h6⟩
 case start=>
  refine⟨hB0,by omega,hS0,za,zl,zc,hX0,aC.mono _ (fun b o hb ho hc=>?_) hz⟩;have hlt:=(cZ.1 ho).1;exact⟨fun h=>h.elim hb (by omega),(hB0.block b (by omega)).trans ho⟩
 case ax=>
  rintro y a' _ A A' row ⟨b,h1,h2,h3⟩ hg hr;exact⟨b,h1,h2,eD hg (fun r e=>(hr r e).2) h3 rfl⟩
 case assign=>
  rintro l pre y W K ⟨h1,h2,h3,ua,ul,uc,h5,h6⟩ hK
  gi_wp2
  obtain⟨o0,o1,o2⟩:y.2.u0.oneCell'=true/\y.2.u1.oneCell'=true/\y.2.u2.oneCell'=true:=by
   have:=y.2.rep.one;exact⟨this _ (by simp),this _ (by simp),this _ (by simp)⟩
  have hnew:=dX W (.cells #[.slice none 0 0,.bool false,.slice none 0 0] 46);rw[BP hnew o0 o1 o2];obtain⟨W',hW'⟩:∃W',(W.alloc (.cells #[.slice none 0 0,.bool false,.slice none 0 0] 46)).setRow W.heap.size #[y.2.u0,y.2.u1,y.2.u2]=W':=⟨_,rfl⟩
  have hold:∀k,k<W.heap.size->W'.heap[k]?=W.heap[k]?:=fun k hk=>by rw[<-hW',gH _ _ _ _ (by omega),dE _ _ _ hk]
  have hself:W'.heap[W.heap.size]?=some (.cells #[y.2.u0,y.2.u1,y.2.u2] 46 (0,0)):=by rw[<-hW'];exact iz _ _ _ _ _ _ hnew
  have hbel:Below W.heap.size W W':=by rw[<-hW'];exact below_setRow ((cu _ W).alloc (aa _) _) (aa _) _
  have hlt:∀{k:Nat}{o:Obj},W.heap[k]?=some o->k<W.heap.size:=fun h=>(cZ.1 h).1;rw[hW']
  gi_wp2
  refine hK _ _ ⟨hbel.size,fun k o _ ho _=>(hold k (hlt ho)).trans ho⟩ ⟨hbel.mono (by omega),fun v hv=>?_⟩
   ⟨h1.trans (hbel.mono (by omega)),aq h2 hbel.size,(hold _ (hlt h3)).trans h3,ua,ul,uc,(hold _ (hlt h5)).trans h5,aC.mono _ (fun b o hb ho _=>⟨hb,(hold b (hlt ho)).trans ho⟩) h6⟩
   ⟨W.heap.size,by omega,rfl,hself⟩
  simp only[World.cell?,hold (n0+2) (by omega)]at hv|-;exact hv
 case body=>
  rintro l pre y a' W hl _ ⟨h1,h2,h3,ua,ul,uc,h5,h6⟩ ⟨b,hb,rfl,hbc⟩ hlt;have hltW:∀{k:Nat}{o:Obj},W.heap[k]?=some o->k<W.heap.size:=fun h=>(cZ.1 h).1;have c0:W.cell? ⟨n0,0,none⟩=some (.slice ua ul uc):=bD h5 rfl;have cs:W.cell? ⟨n0+1,0,none⟩=some (.func (.func g) #[] cvs.toArray):=bD h3 rfl;have cb0:W.cell? ⟨b,0,none⟩=some y.2.u0:=bD hbc rfl;have cb1:W.cell? ⟨b,1,none⟩=some y.2.u1:=bD hbc rfl;have cb2:W.cell? ⟨b,2,none⟩=some y.2.u2:=bD hbc rfl;have hM1:∀k,(M k\/k=n0)->k<W.heap.size:=fun k h=>h.elim (fun h=>by have:=hM k h;omega) (fun h=>by omega)
  have hkeep:bF M w (fun b=>M b\/b=n0) W:=fun k o hk ho _=>by
   have hlt:=(cZ.1 ho).1;exact⟨fun h=>h.elim hk (by omega),(h1.block k (by omega)).trans ho⟩
  rw[hL]at hlt;have hdo:=hstep pre.length (hP f pre) y.2.q hlt (bu5 h0 hinv pre) y.2.ok
  have hcall:Calls prog g (Value.slice ua ul uc::Value.agg #[y.2.u0,y.2.u1,y.2.u2]::cvs).toArray W fun e w'=>Below W.heap.size W w'/\∃va vl vc,e=.returned (.slice va vl vc)/\(sQ (hP f (pre++[y]))).rep (fun b=>M b\/b=n0) w' (.slice va vl vc):=by
   have h7:=hdo.2 (fun b=>M b\/b=n0) W (.slice ua ul uc::.agg #[y.2.u0,y.2.u1,y.2.u2]::cvs) ⟨hM1,hMg.eJ hkeep⟩ ⟨h6,⟨[_,_,_],rfl,y.2.rep.mono hkeep⟩,ba.we (hcv.mono hkeep)⟩;refine h7.mono ?_;rintro e w' ⟨hb',vs,rfl,hvs⟩;rw[be8];obtain⟨v,e1,hr⟩:=XX hvs;have hr':=hr;obtain⟨va,vc,rfl,_⟩:=hr';exact⟨hb',va,_,vc,by rw[e1],hr⟩
  have eg:∀args w,(callFunc g args).run prog w=.ok (.enter g args) w:=hdo.1
  gi_wp2
  refine⟨trivial,(mU l (au.2 hcall)).mono ?_⟩;rintro e w' ⟨hbw,va,vl,vc,rfl,hvr⟩;have hbox:w'.heap[n0]?=some (.cells #[.slice ua ul uc] 98 (0,0)):=(hbw.block n0 (hltW h5)).trans h5;have d0:w'.cell? ⟨n0,0,none⟩=some (.slice ua ul uc):=bD hbox rfl;have df:w'.frozen? ⟨n0,0,none⟩=false:=by simp[World.frozen?,hbox]
  gi_wp2
  rw[setCell_eq_setRow w' n0 0 #[.slice ua ul uc] 98 (0,0) (.slice va vl vc) hbox];obtain⟨W3,hW3⟩:∃W3,w'.setRow n0 (#[Value.slice ua ul uc].setIfInBounds 0 (.slice va vl vc))=W3:=⟨_,rfl⟩
  have hself:W3.heap[n0]?=some (.cells #[.slice va vl vc] 98 (0,0)):=by rw[<-hW3];exact iz _ _ _ _ _ _ hbox
  have hoth:∀k,k≠n0->W3.heap[k]?=w'.heap[k]?:=fun k hk=>by rw[<-hW3,gH _ _ _ _ hk]
  have hold:∀{k:Nat}{o:Obj},k≠n0->W.heap[k]?=some o->W3.heap[k]?=some o:=fun hk ho=>(hoth _ hk).trans ((hbw.block _ (hltW ho)).trans ho);have hbel:Below n0 W W3:=by rw[<-hW3];exact below_setRow (hbw.mono (by omega)) (aa _) _
  rw[hW3];refine⟨⟨hbel.size,fun k o hk ho _=>hold (by omega) ho⟩,⟨hbel,fun v hv=>?_⟩,h1.trans hbel,aq h2 hbel.size,hold (by omega) h3,va,vl,vc,hself,aC.mono _ (fun k o hk ho hc=>⟨hk,(hoth k fun e=>hk (.inr e)).trans ho⟩) hvr⟩;simp only[World.cell?,hoth (n0+2) (by omega),hbw.block (n0+2) (by omega)]at hv|-;exact hv
 case done=>
  rintro D ys W hD rfl ⟨h1,h2,h3,ua,ul,uc,h5,h6⟩ hK;have c0:W.cell? ⟨n0,0,none⟩=some (.slice ua ul uc):=bD h5 rfl
  gi_wp2
  refine⟨by simp,.inl ⟨_,_,rfl,qF hK,?_⟩⟩;refine⟨_,jP rfl _ _ _,?_,⟨_,rfl,by rw[<-hL];exact aC.mono _ (fun k o hk ho hc=>⟨fun h=>hk (.inl h),(kz (fun e=>by rw[e,hK]at ho;cases ho;cases hc)).trans ho⟩) h6⟩⟩;rw[<-hn0]at h1;exact h1.trans (sx (w:=w) (aa _) W D _ _ (by omega) hK rfl rfl)
 case stop=>
  rintro D c pre W hD _ h hK;exact h.elim
theorem bS9{M:Nat->Prop}{w:World}{Pq:Rat->Prop}[Inhabited (PV M w Pq)](f:List Rat->Rat->List Rat)(ts:List (PV M w Pq)):hP f (bk ts ts.length)=(ts.map PV.q).foldr (fun c v=>f v c) []:=by
 have h:hP f (bk ts ts.length)=((bk ts ts.length).map Prod.snd).foldl (fun v c=>f v c.q) []:=by rw[hP,List.foldl_map]
 rw[h,ar8,List.foldl_reverse,List.foldr_map]
theorem YF(ps:List Rat)(Pq:Rat->Prop)(f:List Rat->Rat->List Rat)(Inv:Nat->List Rat->Prop)(g:FuncId)(caps:List aC)(h0:Inv 0 [])(hinv:∀k v c,Inv k v->Pq c->Inv (k+1) (f v c))
  (hp:∀q∈ps,Pq q) (hz:Pq 0) (hlen:ps.length<4611686018427387904)
  (hstep:∀k v c,k<ps.length->Inv k v->Pq c->aU prog g (.one (sQ v)::qT c::caps.map .one) (.ret [.one (sQ (f v c))])) :
  aU prog 249 [.one (sQ ps),.one (sQ []),.one (.gp g caps)] (.ret [.one (sQ (ps.foldr (fun c v=>f v c) []))]):=by
 refine⟨bC (by kernel_rfl),fun M w vs hM hv=>?_⟩
 match vs,hv with
 | [v0,v1,v2],⟨k0,k1,⟨fs,k2,hfs⟩,_⟩=>
   obtain⟨ts,a,cap,rfl,hq,hsl⟩:=bu1 k0 hp
   haveI:Inhabited (PV M w Pq):=⟨⟨0,.slice none 0 0,.bool false,.slice none 0 0,hz,ai.sub nA ⟨⟨rfl,rfl⟩,⟨rfl,rfl⟩,⟨rfl,rfl⟩,trivial⟩⟩⟩
   subst k2;have hl:ps.length=ts.length:=by rw[<-hq,aI]
   have h1:=Wk M w Pq f Inv g caps h0 hinv hM a cap ts (by rw[<-hl];exact hstep) hsl v1 k1 fs hfs;rw[bS9,hq]at h1;refine((au (n:=1001)).1 h1).mono ?_;rintro e w' ⟨hb,u,rfl,hr⟩;exact⟨hb,[u],rfl,hr,trivial⟩
 | [],hv=>exact hv.elim
 | [_],hv=>exact hv.2.elim
 | [_,_],hv=>exact hv.2.2.elim
 | _::_::_::_::_,hv=>exact hv.2.2.2.elim
end Go.Sy
namespace Go.Sy
open Go Go.Proofs Tryz Ord
theorem lW(x:Rat):∀p:List Rat,ev (trim p) x=ev p x
 | []=>rfl
 | a::p=>by
   have ih:=lW x p;unfold trim at ih|-;rw[nX];split
   ·rename_i h;rw[h.1,iy,ec]at ih;have ha:a=0:=by simpa[zr]using h.2
    rw[iy,ec,bP,<-ih,ha];grind
   ·rw[mZ,bP,bP,ih]
theorem gj:∀p:List Rat,lz (trim p)
 | []=>fun a h=>by cases h
 | a::p=>by
   have ih:=gj p;unfold trim at ih|-;rw[nX];split
   ·intro b hb;cases hb
   ·rename_i h;intro b hb;rw[mZ,List.getLast?_cons]at hb;cases hl:(p.take (nX zr p)).getLast? with
    | some c=>
      rw[hl]at hb;simp only[gO,aW]at hb;subst hb;exact ih c hl
    | none=>
      rw[hl]at hb;simp only[Nk,aW]at hb;subst hb;intro e;refine h ⟨?_,by simp[zr,e]⟩;have h1:=Zy.1 hl;have h2:min (nX zr p) p.length=0:=by rw[<-bK,h1];rfl
      have:=jX (z:=zr) p;omega
theorem ox(x:Rat):∀(p:List Rat)(m:Nat),p.length<=m->ev ((List.range m).map fun i=>p.getD i 0) x=ev p x
 | [],m,_=>by
   have:(List.range m).map (fun i=>([]:List Rat).getD i 0)=List.replicate m 0:=by
    apply fJ;intro i;rw[cn,vQ];by_cases h:i<m
    ·rw[kv h,aK h];rfl
    ·rw[aG h,iR (by simpa using h)];rfl
   rw[this,WA,ec]
 | a::p,0,h=>by simp at h
 | a::p,m+1,h=>by
   rw[Sd,en,bP,et,bP];have:=ox x p m (by simpa using h);rw[<-this];rfl
theorem aK7(x:Rat)(f g:Nat->Rat):∀l:List Nat,ev (l.map fun i=>f i+g i) x=ev (l.map f) x+ev (l.map g) x
 | []=>by simp only[mN,ec];grind
 | a::l=>by rw[en,en,en,bP,bP,bP,aK7 x f g l];grind
theorem jx(x:Rat)(p q:List Rat):ev (kH p q) x=ev p x+ev q x:=by
 rw[kH,lW,aK7,ox x p _ (Nat.le_max_left _ _),ox x q _ (Nat.le_max_right _ _)]
theorem mK(x:Rat)(p q:List Rat):ev (fP p q) x=ev p x*ev q x:=by
 unfold fP;split
 ·rename_i h;rcases h with rfl | rfl
  ·rw[ec];grind
  ·rw[ec];grind
 ·rename_i h;have hq:0<q.length:=YJ.2 fun e=>h (.inr e);rw[lW,ZG p q x hq _ (aa _),gw]
theorem uI(p q:List Rat):lz (kH p q):=gj _
theorem DU(p q:List Rat):lz (fP p q):=by
 unfold fP;split
 ·intro a h;cases h
 ·exact gj _
theorem ov{p:List Rat}{a:Rat}(h:a∈trim p):a∈p:=iL h
theorem jk(p:List Rat):(trim p).length<=p.length:=by rw[gX];exact jX _
theorem Uh(p q:List Rat):(kH p q).length<=max p.length q.length:=by
 have:=jk ((List.range (max p.length q.length)).map fun i=>p.getD i 0+q.getD i 0);rw[aI,oh]at this;exact this
theorem aY5{D S T:Nat}(h0:D≠0){p q:List Rat}(hp:∀a∈p,Bd D S a)(hq:∀a∈q,Bd D T a):∀a∈kH p q,Bd D (S+T) a:=fun a ha=>by
 obtain⟨i,_,rfl⟩:=dH.1 (ov ha);exact(mJ hp i).add h0 (mJ hq i)
theorem yI(p q:List Rat):(fP p q).length<=if p=[]then 0 else p.length+q.length-1:=by
 unfold fP;split
 ·simp
 ·rename_i h;rw[aG (fun e=>h (.inl e))];have:=jk (mulL p q p.length);rw[iO]at this;exact this
theorem Zu{D E S T:Nat}(h0:D≠0)(h1:E≠0){p q:List Rat}(hp:∀a∈p,Bd D S a)(hq:∀b∈q,Bd E T b):∀x∈fP p q,Bd (D*E) (p.length*(S*T)) x:=fun x hx=>by
 unfold fP at hx;split at hx
 ·cases hx
 ·exact vR h0 h1 hp hq _ x (ov hx)
def UA(q v:List Rat)(c:Rat):List Rat:=kH (fP v q) (trim [c])
def UE(p q:List Rat):List Rat:=p.foldr (fun c v=>UA q v c) []
def aE4(D E S T K:Nat)(k:Nat)(v:List Rat):Prop:=k<=K->v.length<=k/\∀a∈v,Bd (D*E^k) (S*(K*T+1)^k) a
theorem ai9{D E S T K:Nat}:aE4 D E S T K 0 []:=fun _=>⟨aa _,fun a h=>by cases h⟩
theorem Yg{E:Nat}(h:E≠0)(k:Nat):E^k≠0:=fun e=>h (Nat.pow_eq_zero.1 e).1
theorem ao1{D E S T K:Nat}(h0:D≠0)(h1:E≠0){q:List Rat}(hq:∀b∈q,Bd E T b)(hql:q.length<=2)(k:Nat)(v:List Rat)(c:Rat)(h:aE4 D E S T K k v)(hc:Bd D S c):aE4 D E S T K (k+1) (UA q v c):=by
 intro hk;obtain⟨hl,hb⟩:=h (by omega);have hDk:D*E^k≠0:=lG h0 (Yg h1 k);have hD1:D*E^(k+1)≠0:=lG h0 (Yg h1 _)
 constructor
 ·have h2:=Uh (fP v q) (trim [c]);have h3:=yI v q;have h4:=jk [c];unfold UA;split at h3<;>simp at h4<;>omega
 ·have h2:=Zu hDk h1 hb hq
  have h3:∀x∈fP v q,Bd (D*E^(k+1)) (K*T*(S*(K*T+1)^k)) x:=fun x hx=>by
   refine(h2 x hx).mono ⟨1,by rw[bh,dZ,eW]⟩ ?_;have:v.length*(S*(K*T+1)^k*T)<=K*(S*(K*T+1)^k*T):=cN _ (by omega);refine aq this (su ?_);rw[cD (S*_) T,eW]
  have h4:∀x∈trim [c],Bd (D*E^(k+1)) (S*(K*T+1)^k) x:=fun x hx=>by
   have:=ov hx;rw[ed]at this;subst this;exact hc.mono (Af _ _) (kd _ (ej (by omega)))
  intro a ha;refine(aY5 hD1 h3 h4 a ha).le (su ?_);rw[bh];generalize (K*T+1)^k=r;generalize K*T=u
  grind
def vZ(D E S T K:Nat):Nat:=D*E^K*E*((K+1)*((S*(K*T+1)^K+1)*(T+1)))
theorem XC{D E S T K k n:Nat}(h0:D≠0)(h1:E≠0)(hk:k<=K)(hn:n<=K):D*E^k*E*((n+1)*((S*(K*T+1)^k+1)*(T+1)))<=vZ D E S T K:=by
 unfold vZ;refine iA (cN _ (dr _ (hU (by omega) hk))) (iA (by omega) (cN _ ?_));have:=dr S (hU (n:=K*T+1) (by omega) hk);omega
def bt4:Tr:=UJ 64 0 2 6 7 98 98 98 (EK 251 1 9 98 (gR 66 3 0 4 8 10 98 98 98 (cH 5)))
theorem MO:aV prog f250 ck [.v none,.v (some 3),.ref 1]=bt4:=by kernel_rfl
def bC1:Tr:=.need (.call 249 [(W 0 0),(.one (.c (.k (.slice none 0 0)))),(.one (.gp 250 [(.ref 0 [(.u 1 0)])]))] [none]) (.call ⟨.value (.func 249),#[(tT 5),(.const (.slice none 0 0)),(tT 6)],#[98,98,258]⟩) 98 true (cH 2)
theorem Yn:aV prog f231 ck [.v none,.v none]=bC1:=by kernel_rfl
def bL9:Tr:=EK 232 1 6 98 (gR 231 0 0 2 5 7 98 98 98 (cH 3))
theorem ay4:aV prog f205 ck [.v none,.v (some 3)]=bL9:=by kernel_rfl
theorem Rj(v q:List Rat)(c:Rat)(D E S T K k B:Nat)(h0:D≠0)(h1:E≠0)(hq:∀b∈q,Bd E T b)(hql:q.length<=2)(hv:aE4 D E S T K k v)(hc:Bd D S c)(hK:K<=1073741824)(hB:B<=8589934592)(hX:vZ D E S T K<2^B)(hk:k<K:=by omega):aU prog 250 [(.one (sQ v):aN),(qT c:aN),(.one (.aw ([sQ q])):aN)] (.ret [.one (sQ (UA q v c))]):=by
 refine dvr (ins:=[.v (.one (sQ v)),.v (qT c),.ref ([sQ q])]) func250 MO ?_;obtain⟨hl,hb⟩:=hv (by omega);have hDk:D*E^k≠0:=lG h0 (Yg h1 k);have hX1:=eh (XC (S:=S) (T:=T) (k:=k) (n:=v.length) h0 h1 (by omega) (show v.length<=K by omega)) hX;obtain⟨f1,f2,f3,f4⟩:=CM hDk h1 hX1
 have hB1:1<=B:=by
  rcases ia B with rfl | h
  ·exfalso
   have:0<D*E^k*E*((v.length+1)*((S*(K*T+1)^k+1)*(T+1))):=iw (RM (lG hDk h1)) (iw (by omega) (iw (by omega) (by omega)));omega
  ·exact h
 have hm:∀a∈fP v q,Fit B a:=fun a ha=>by
  have:=Zu hDk h1 hb hq a ha;rcases ia v.length with h | h
  ·have:v=[]:=eV h;subst this;simp[fP]at ha
  ·refine f3 a (v.length-1) (by omega) (this.le (su ?_));rw[show v.length=v.length-1+1 by omega,bX,eN,jS]
 have ht:∀a∈trim [c],Fit B a:=fun a ha=>by
  have:=ov ha;rw[ed]at this;subst this;exact f1 _ (hc.mono (Af _ _) (kd _ (ej (by omega))))
 have l1:=yI v q;have l2:=jk [c];apply aA (aH0 v q (D*E^k) E (S*(K*T+1)^k) T B hDk h1 hb hq hB hX1);apply aA (TH c);apply aA (Xy (fP v q) (trim [c]) B B hm ht (by simp at l2;omega) hB1 hB1 (by split at l1<;>omega)) rfl;exact aL
theorem WN(p q:List Rat)(D E S T K B:Nat)(h0:D≠0)(h1:E≠0)(hp:∀a∈p,Bd D S a)(hq:∀b∈q,Bd E T b)(hql:q.length<=2)(hpl:p.length<=K)(hK:K<=1073741824)(hB:B<=8589934592)(hX:vZ D E S T K<2^B):aU prog 231 [(.one (sQ p):aN),(.one (sQ q):aN)] (.ret [.one (sQ (UE p q))]):=by
 refine dL func231 Yn ?_
 refine Mv (show aZ [.one (sQ p),.one (.exact (.slice none 0 0)),.one (.gp 250 [.aw [sQ q]])] [.one (sQ p),.one (sQ []),.one (.gp 250 [.aw [sQ q]])]from⟨aN.Sub.same,aC.Sub.nil,aN.Sub.same,trivial⟩)
  (YF p (Bd D S) (fun v c=>UA q v c) (aE4 D E S T K) 250 [.aw [sQ q]] ai9 (fun k v c hv hc=>ao1 h0 h1 hq hql k v c hv hc) hp Bd.zero (by omega)
   (fun k v c hk hv hc=>Rj v q c D E S T K k B h0 h1 hq hql hv hc hK hB hX)) rfl ?_
 exact aL
def OK(p:List Rat)(c:Rat):List Rat:=UE p [c,1]
theorem SH(p:List Rat)(c:Rat)(D E S T K B:Nat)(hp:∀a∈p,Bd D S a)(hc:Bd E T c)(hpl:p.length<=K)(hX:vZ D E S T K<2^B)(h0:D≠0:=by omega)(h1:E≠0:=by omega)(hT:1<=T:=by omega)(hK:K<=1073741824:=by omega)(hB:B<=8589934592:=by omega):aU prog 205 [(.one (sQ p):aN),(qT c:aN)] (.ret [.one (sQ (OK p c))]):=by
 refine dL func205 ay4 ?_;apply aA (bh5 c)
 apply aA (WN p [c,1] D E S T K B h0 h1 hp (fun b hb=>by
  rcases ez.1 hb with rfl | hb
  ·exact hc
  ·rw[ed]at hb;subst hb;exact Bd.one hT) (by simp) hpl hK hB hX) rfl
 exact aL
theorem SE{A B:Nat}{p q:List Rat}(hA:1<=A)(hB:1<=B)(hp:∀a∈p,Fit A a)(hq:∀a∈q,Fit B a):∀a∈kH p q,Fit (A+B+1) a:=by
 refine vM fun a ha=>?_;obtain⟨i,hi,rfl⟩:=dH.1 ha;exact(aD hp i hA).add (aD hq i hB)
theorem Uq(p q:List Rat):(kH p q).length<=max p.length q.length:=by
 have h:=gX ((List.range (max p.length q.length)).map fun i=>p.getD i 0+q.getD i 0);have h2:=jX (z:=zr) ((List.range (max p.length q.length)).map fun i=>p.getD i 0+q.getD i 0);rw[kH,h]
 simpa using h2
structure SF(A:Nat)(ks:List Rat)(ps:List (List Rat)):Prop where
 hA1:1<=A
 hA:A<=1000
 hk:∀a∈ks,Fit A a
 hp:∀p∈ps,p.length<=9/\∀a∈p,Fit A a
 hn:ps.length<=20
 hl:ps.length+1=ks.length
theorem AI{A:Nat}{p:List RQ}(h:∀a∈p.map RQ.q,Fit A a):∀a∈p,Fit A a.q:=fun a ha=>h _ (tH ha)
end Go.Sy
