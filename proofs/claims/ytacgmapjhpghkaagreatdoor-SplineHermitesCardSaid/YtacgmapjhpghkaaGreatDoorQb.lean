/- Part. -/
import Derived.Test.YtacgmapjhpghkaaGreatDoorQa
set_option linter.all false
namespace Go.Sy
open Go Go.Proofs Tryz Ord
def VN(A:Nat)(ps:List (List Rat)):Prop:=∀p∈ps,p.length<=100/\∀a∈p,Fit A a
theorem VN.dv{A:Nat}{ps:List (List Rat)}(hA:1<=A)(h:VN A ps):VN (A+12) (yD ps):=fun p hp=>by
 obtain⟨q,hq,rfl⟩:=dn.1 hp;have h1:=h q hq;have h2:=vA q;exact⟨by omega,PU hA h1.2 (by omega)⟩
theorem TG{ps:List (List Rat)}{i:Nat}(h:i<ps.length):ps.getD i []∈ps:=by
 rw[ew,bB h];exact si h
theorem aM1{ps:List (List Rat)}{i:Nat}(h:i<ps.length):ps[i]?=some (ps.getD i []):=by
 rw[ew,bB h];rfl
theorem VN.r{A:Nat}{pr:List (List RQ)}(h:VN A (eqR pr)){p:List RQ}(hp:p∈pr):p.length<=100/\∀a∈p,Fit A a.q:=by
 have h1:=h (p.map RQ.q) (vE hp);rw[aJ]at h1;exact⟨h1.1,fun a ha=>h1.2 _ (vE ha)⟩
open Go Go.Proofs Go.RowKit Go.Shelf Tryz Ord
attribute [local go_sem] Oper.semAt_some
section
variable(M:Nat->Prop)(w:World)(Pq:Rat->Prop)
structure PV where
 q:Rat
 u0:Value
 u1:Value
 u2:Value
 ok:Pq q
 rep:ah M w (qC q) [u0,u1,u2]
end
theorem bp3{M:Nat->Prop}{w:World}{Pq:Rat->Prop}{v:Value}{ps:List Rat}(h:(sQ ps).rep M w v)(hp:∀q∈ps,Pq q) :
  ∃(ts:List (PV M w Pq))(a:Option Addr)(cap:Nat),v=.slice a ts.length cap/\ts.map PV.q=ps/\Sl3 PV.u0 PV.u1 PV.u2 w.heap.size w v ts:=by
 obtain⟨a,cap,rfl,hc,hm,hel⟩:=h;have hlen:(rQ ps).length=ps.length:=aJ _;rcases hel with h | ⟨b,off,cs,T,fz,rfl,hb,hh,hr⟩
 ·have:ps=[]:=by cases ps<;>simp_all[rQ]
  subst this;exact⟨[],a,cap,rfl,rfl,a,cap,rfl,.inl rfl⟩
 ·obtain⟨ts,h1,h2⟩:=ny (fun i (x:PV M w Pq)=>ps[i]?=some x.q/\w.cell? ⟨b,off+i*3,none⟩=some x.u0/\w.cell? ⟨b,off+i*3+1,none⟩=some x.u1/\w.cell? ⟨b,off+i*3+2,none⟩=some x.u2) ps.length fun i hi=>by
   obtain⟨q,hq⟩:∃q,ps[i]?=some q:=⟨_,bB hi⟩
   obtain⟨_,hrep⟩:=hr i (qC q) (by rw[rQ,cU,hq];rfl)
   have hat:∀j,j<3->((cs.toList.drop (off+i*3)).take 3)[j]?=cs[off+i*3+j]?:=fun j hj=>by
    rw[dq,aD hj,er];simp
   have hl:=hrep.length;generalize hus:(cs.toList.drop (off+i*3)).take 3=us at hrep hl hat
   match us,hrep with
   | [x0,x1,x2],hrep=>
     refine⟨⟨q,x0,x1,x2,hp q (cq hq),hrep⟩,hq,?_,?_,?_⟩
     ·have h0:=hat 0 (by omega);rw[cC]at h0;exact az hh (by rw[<-h0];rfl)
     ·exact az hh (by rw[<-hat 1 (by omega)];rfl)
     ·exact az hh (by rw[<-hat 2 (by omega)];rfl)
   | [],hrep=>exact hrep.elim
   | [_],hrep=>exact hrep.2.elim
   | [_,_],hrep=>exact hrep.2.2.elim
   | _::_::_::_::_,hrep=>exact hrep.2.2.2.elim
  refine⟨ts,_,cap,by rw[hlen,h1],?_,_,cap,by rw[hlen,h1],.inr ⟨b,off,rfl,(bt.1 hh).1,fun j v hj=>(h2 j v hj).2⟩⟩;refine fH fun i=>?_;rw[cU];cases hi:ts[i]? with
  | none=>
    have:=eX.1 hi;rw[eX.2 (by omega)];rfl
  | some x=>rw[(h2 i x hi).1];rfl
def hP{M:Nat->Prop}{w:World}{Pq:Rat->Prop}(f:List Rat->Rat->List Rat)(pre:List (Nat×PV M w Pq)):List Rat:=pre.foldl (fun v c=>f v c.2.q) []
theorem ba3{M:Nat->Prop}{w:World}{Pq:Rat->Prop}(f:List Rat->Rat->List Rat)(pre:List (Nat×PV M w Pq))(y:Nat×PV M w Pq):hP f (pre++[y])=f (hP f pre) y.2.q:=by simp[hP]
theorem bp5{M:Nat->Prop}{w:World}{Pq:Rat->Prop}{f:List Rat->Rat->List Rat}{Inv:Nat->List Rat->Prop}(h0:Inv 0 [])(hs:∀k v c,Inv k v->Pq c->Inv (k+1) (f v c))(pre:List (Nat×PV M w Pq)):Inv pre.length (hP f pre):=by
 have key:∀(l:List (Nat×PV M w Pq))(k:Nat)(v:List Rat),Inv k v->Inv (k+l.length) (l.foldl (fun v c=>f v c.2.q) v):=by
  intro l
  induction l with
  | nil=>intro k v h;exact h
  | cons y l ih=>
    intro k v h;have:=ih (k+1) (f v y.2.q) (hs k v _ h y.2.ok);rw[ak,show k+(l.length+1)=k+1+l.length by omega];exact this
 have:=key pre 0 [] h0
 rwa[bI]at this
theorem XC{M:Nat->Prop}{w:World}{c:aC}{vs:List Value}(h:bZ M w [.one c] vs):∃v,pack vs=v/\c.rep M w v:=by
 match vs,h with
 | [v],h=>exact⟨v,rfl,h.1⟩
 | [],h=>exact h.elim
 | _::_::_,h=>exact h.2.elim
set_option maxRecDepth 100000 in
set_option maxHeartbeats 1000000 in
theorem VM(M:Nat->Prop)(w:World)(Pq:Rat->Prop)(f:List Rat->Rat->List Rat)(Inv:Nat->List Rat->Prop)(g:FuncId)(caps:List aC)(h0:Inv 0 [])(hinv:∀k v c,Inv k v->Pq c->Inv (k+1) (f v c))
  (hM:bQ M w) [Inhabited (PV M w Pq)] (a:Option Addr) (cap:Nat) (ts:List (PV M w Pq))
  (hstep:∀k v c,k<ts.length->Inv k v->Pq c->aW prog g (.one (sQ v)::qT c::caps.map .one) (.ret [.one (sQ (f v c))]))
  (hI:Sl3 PV.u0 PV.u1 PV.u2 w.heap.size w (.slice a ts.length cap) ts) (z:Value) (hz:(sQ []).rep M w z) (cvs:List Value) (hcv:ah M w caps cvs) (hlen:ts.length<4611686018427387904:=by omega) :
  CallsIn Fence.wide 1001 prog 249 #[.slice a ts.length cap,z,.func (.func g) #[] cvs.toArray] w fun e W'=>Below w.heap.size w W'/\∃u,e=.returned u/\(sQ (hP f (bk ts ts.length))).rep M W' u:=by
 refine qN func249 rfl trivial ?_ rfl;simp only[ntmps249,cb,ak,bX,Nat.reduceAdd,Nat.reduceSub,dk,dp,du,dr,List.nil_append,List.cons_append];generalize hL:ts.length=L at hI hlen hstep|-;obtain⟨za,zl,zc,rfl⟩:∃za zl zc,z=.slice za zl zc:=by obtain⟨za,zc,e,_⟩:=hz;exact⟨_,_,_,e⟩
 gi_wp2_with (refine⟨trivial,?_⟩;gi_at_call 224;refine(Vx _ _ _ _ _).mono ?_;rintro e w' ⟨rfl,rfl⟩)
 obtain⟨n0,hn0⟩:∃n0,w.heap.size=n0:=⟨_,rfl⟩
 obtain⟨hM,hMg⟩:=hM;rw[hn0]at hI hM|-;obtain⟨W0,hW0⟩:∃W0,(((w.alloc (.cells #[.slice za zl zc] 98)).alloc (.cells #[.func (.func g) #[] cvs.toArray] 258)).alloc (.cells #[.slice a L cap] 98))=W0:=⟨_,rfl⟩
 have hs0:W0.heap.size=n0+3:=by rw[<-hW0];simp[hn0]
 have hX0:W0.heap[n0]?=some (.cells #[.slice za zl zc] 98 (0,0)):=by rw[<-hW0,cy _ _ _ (by simp;omega),cy _ _ _ (by simp;omega),<-hn0];exact dL w _
 have hS0:W0.heap[n0+1]?=some (.cells #[.func (.func g) #[] cvs.toArray] 258 (0,0)):=by
  rw[<-hW0,cy _ _ _ (by simp;omega)];have:=dL (w.alloc (.cells #[.slice za zl zc] 98)) (.cells #[.func (.func g) #[] cvs.toArray] 258);rw[cw,hn0]at this;exact this
 have hP0:W0.heap[n0+2]?=some (.cells #[.slice a L cap] 98 (0,0)):=by
  rw[<-hW0];have:=dL ((w.alloc (.cells #[.slice za zl zc] 98)).alloc (.cells #[.func (.func g) #[] cvs.toArray] 258)) (.cells #[.slice a L cap] 98);rw[cw,cw,hn0]at this;exact this
 have hB0:Below n0 w W0:=by
  rw[<-hW0];exact(((cM _ w).alloc (by omega) _).alloc (by simp;omega) _).alloc (by simp;omega) _
 rw[hW0]
 refine wpIn_rangeFunc_ownH (w0:=W0) rfl (by omega) (gf:=246) (lb:=#[.pointer (some ⟨n0+1+1,0,none⟩)]) rfl trivial (wF func246 (by kernel_rfl) rfl)
  (yq (e0:=PV.u0) (e1:=PV.u1) (e2:=PV.u2) (n0+2) n0 (.slice a L cap) ts (by omega) W0 (by omega) (by omega) (az hP0 rfl) (hI.below hB0)) TN (Uk (by omega) (by omega)) (cM _ _) (fun _=>rfl)
  (fun pre W=>Below n0 w W/\n0+3<=W.heap.size/\W.heap[n0+1]?=some (.cells #[.func (.func g) #[] cvs.toArray] 258 (0,0)) /\
   ∃ua ul uc,W.heap[n0]?=some (.cells #[.slice ua ul uc] 98 (0,0))/\(sQ (hP f pre)).rep (fun b=>M b\/b=n0) W (.slice ua ul uc))
  (fun _ _ _=>False) ?own (fun _=>by intro s A B row hs;exact hs.elim) ?start
  (fun y a' W=>∃b,n0+3<=b/\a'={ tmps:=#[.slice a L cap,.slice za zl zc,.func (.func g) #[] cvs.toArray,undef,.pointer (some ⟨n0,0,none⟩),.pointer (some ⟨n0+1,0,none⟩),.slice none 0 0,undef,.pointer (some ⟨b,0,none⟩),.slice a L cap,.func (.func 246) #[] #[.pointer (some ⟨n0+1+1,0,none⟩)],.int .i64 (y.1:Int),.agg #[y.2.u0,y.2.u1,y.2.u2],undef,undef,undef,undef,undef],defers:=[] } /\ W.heap[b]?=some (.cells #[y.2.u0,y.2.u1,y.2.u2] 46 (0,0)))
  ?ax ?assign ?body ?done ?stop
 case own=>
  rintro s A A' row ⟨h1,h2,h3,ua,ul,uc,h5,h6⟩ hg hr;have hr':∀r,row=some r->∃o:Obj,A.heap[r]?=some o/\o.isCells=false:=fun r e=>(hr r e).2;refine⟨h1.grown hg (by omega) (fun k e=>by have:=(hr k e).1;omega),bF h2 hg.size,eJ hg hr' h3 rfl,ua,ul,uc,eJ hg hr' h5 rfl,aC.mono _ (fun b o hb ho hc=>⟨hb,eJ hg hr' ho hc⟩) h6⟩
 case start=>
  refine⟨hB0,by omega,hS0,za,zl,zc,hX0,aC.mono _ (fun b o hb ho hc=>?_) hz⟩;have hlt:=(bt.1 ho).1;exact⟨fun h=>h.elim hb (by omega),(hB0.block b (by omega)).trans ho⟩
 case ax=>
  rintro y a' _ A A' row ⟨b,h1,h2,h3⟩ hg hr;exact⟨b,h1,h2,eJ hg (fun r e=>(hr r e).2) h3 rfl⟩
 case assign=>
  rintro l pre y W K ⟨h1,h2,h3,ua,ul,uc,h5,h6⟩ hK
  gi_wp2
  obtain⟨o0,o1,o2⟩:y.2.u0.oneCell'=true/\y.2.u1.oneCell'=true/\y.2.u2.oneCell'=true:=by
   have:=y.2.rep.one;exact⟨this _ (by simp),this _ (by simp),this _ (by simp)⟩
  have hnew:=dL W (.cells #[.slice none 0 0,.bool false,.slice none 0 0] 46);rw[Cx hnew o0 o1 o2];obtain⟨W',hW'⟩:∃W',(W.alloc (.cells #[.slice none 0 0,.bool false,.slice none 0 0] 46)).setRow W.heap.size #[y.2.u0,y.2.u1,y.2.u2]=W':=⟨_,rfl⟩
  have hold:∀k,k<W.heap.size->W'.heap[k]?=W.heap[k]?:=fun k hk=>by rw[<-hW',eT _ _ _ _ (by omega),cy _ _ _ hk]
  have hself:W'.heap[W.heap.size]?=some (.cells #[y.2.u0,y.2.u1,y.2.u2] 46 (0,0)):=by rw[<-hW'];exact gm _ _ _ _ _ _ hnew
  have hbel:Below W.heap.size W W':=by rw[<-hW'];exact below_setRow ((cM _ W).alloc (aY _) _) (aY _) _
  have hlt:∀{k:Nat}{o:Obj},W.heap[k]?=some o->k<W.heap.size:=fun h=>(bt.1 h).1;rw[hW']
  gi_wp2
  refine hK _ _ ⟨hbel.size,fun k o _ ho _=>(hold k (hlt ho)).trans ho⟩ ⟨hbel.mono (by omega),fun v hv=>?_⟩
   ⟨h1.trans (hbel.mono (by omega)),bF h2 hbel.size,(hold _ (hlt h3)).trans h3,ua,ul,uc,(hold _ (hlt h5)).trans h5,aC.mono _ (fun b o hb ho _=>⟨hb,(hold b (hlt ho)).trans ho⟩) h6⟩
   ⟨W.heap.size,by omega,rfl,hself⟩
  simp only[World.cell?,hold (n0+2) (by omega)]at hv|-;exact hv
 case body=>
  rintro l pre y a' W hl _ ⟨h1,h2,h3,ua,ul,uc,h5,h6⟩ ⟨b,hb,rfl,hbc⟩ hlt;have hltW:∀{k:Nat}{o:Obj},W.heap[k]?=some o->k<W.heap.size:=fun h=>(bt.1 h).1;have c0:W.cell? ⟨n0,0,none⟩=some (.slice ua ul uc):=az h5 rfl;have cs:W.cell? ⟨n0+1,0,none⟩=some (.func (.func g) #[] cvs.toArray):=az h3 rfl;have cb0:W.cell? ⟨b,0,none⟩=some y.2.u0:=az hbc rfl;have cb1:W.cell? ⟨b,1,none⟩=some y.2.u1:=az hbc rfl;have cb2:W.cell? ⟨b,2,none⟩=some y.2.u2:=az hbc rfl;have hM1:∀k,(M k\/k=n0)->k<W.heap.size:=fun k h=>h.elim (fun h=>by have:=hM k h;omega) (fun h=>by omega)
  have hkeep:ao M w (fun b=>M b\/b=n0) W:=fun k o hk ho _=>by
   have hlt:=(bt.1 ho).1;exact⟨fun h=>h.elim hk (by omega),(h1.block k (by omega)).trans ho⟩
  rw[hL]at hlt;have hdo:=hstep pre.length (hP f pre) y.2.q hlt (bp5 h0 hinv pre) y.2.ok
  have hcall:Calls prog g (Value.slice ua ul uc::Value.agg #[y.2.u0,y.2.u1,y.2.u2]::cvs).toArray W fun e w'=>Below W.heap.size W w'/\∃va vl vc,e=.returned (.slice va vl vc)/\(sQ (hP f (pre++[y]))).rep (fun b=>M b\/b=n0) w' (.slice va vl vc):=by
   have h7:=hdo.2 (fun b=>M b\/b=n0) W (.slice ua ul uc::.agg #[y.2.u0,y.2.u1,y.2.u2]::cvs) ⟨hM1,hMg.dC hkeep⟩ ⟨h6,⟨[_,_,_],rfl,y.2.rep.mono hkeep⟩,bZ.wq (hcv.mono hkeep)⟩;refine h7.mono ?_;rintro e w' ⟨hb',vs,rfl,hvs⟩;rw[ba3];obtain⟨v,e1,hr⟩:=XC hvs;have hr':=hr;obtain⟨va,vc,rfl,_⟩:=hr';exact⟨hb',va,_,vc,by rw[e1],hr⟩
  have eg:∀args w,(callFunc g args).run prog w=.ok (.enter g args) w:=hdo.1
  gi_wp2
  refine⟨trivial,(mc l (ay.2 hcall)).mono ?_⟩;rintro e w' ⟨hbw,va,vl,vc,rfl,hvr⟩;have hbox:w'.heap[n0]?=some (.cells #[.slice ua ul uc] 98 (0,0)):=(hbw.block n0 (hltW h5)).trans h5;have d0:w'.cell? ⟨n0,0,none⟩=some (.slice ua ul uc):=az hbox rfl;have df:w'.frozen? ⟨n0,0,none⟩=false:=by simp[World.frozen?,hbox]
  gi_wp2
  rw[setCell_eq_setRow w' n0 0 #[.slice ua ul uc] 98 (0,0) (.slice va vl vc) hbox];obtain⟨W3,hW3⟩:∃W3,w'.setRow n0 (#[Value.slice ua ul uc].setIfInBounds 0 (.slice va vl vc))=W3:=⟨_,rfl⟩
  have hself:W3.heap[n0]?=some (.cells #[.slice va vl vc] 98 (0,0)):=by rw[<-hW3];exact gm _ _ _ _ _ _ hbox
  have hoth:∀k,k≠n0->W3.heap[k]?=w'.heap[k]?:=fun k hk=>by rw[<-hW3,eT _ _ _ _ hk]
  have hold:∀{k:Nat}{o:Obj},k≠n0->W.heap[k]?=some o->W3.heap[k]?=some o:=fun hk ho=>(hoth _ hk).trans ((hbw.block _ (hltW ho)).trans ho);have hbel:Below n0 W W3:=by rw[<-hW3];exact below_setRow (hbw.mono (by omega)) (aY _) _
  rw[hW3];refine⟨⟨hbel.size,fun k o hk ho _=>hold (by omega) ho⟩,⟨hbel,fun v hv=>?_⟩,h1.trans hbel,bF h2 hbel.size,hold (by omega) h3,va,vl,vc,hself,aC.mono _ (fun k o hk ho hc=>⟨hk,(hoth k fun e=>hk (.inr e)).trans ho⟩) hvr⟩;simp only[World.cell?,hoth (n0+2) (by omega),hbw.block (n0+2) (by omega)]at hv|-;exact hv
 case done=>
  rintro D ys W hD rfl ⟨h1,h2,h3,ua,ul,uc,h5,h6⟩ hK;have c0:W.cell? ⟨n0,0,none⟩=some (.slice ua ul uc):=az h5 rfl
  gi_wp2
  refine⟨by simp,.inl ⟨_,_,rfl,pQ hK,?_⟩⟩;refine⟨_,je rfl _ _ _,?_,⟨_,rfl,by rw[<-hL];exact aC.mono _ (fun k o hk ho hc=>⟨fun h=>hk (.inl h),(lH (fun e=>by rw[e,hK]at ho;cases ho;cases hc)).trans ho⟩) h6⟩⟩;rw[<-hn0]at h1;exact h1.trans (su (w:=w) (aY _) W D _ _ (by omega) hK rfl rfl)
 case stop=>
  rintro D c pre W hD _ h hK;exact h.elim
theorem bM0{M:Nat->Prop}{w:World}{Pq:Rat->Prop}[Inhabited (PV M w Pq)](f:List Rat->Rat->List Rat)(ts:List (PV M w Pq)):hP f (bk ts ts.length)=(ts.map PV.q).foldr (fun c v=>f v c) []:=by
 have h:hP f (bk ts ts.length)=((bk ts ts.length).map Prod.snd).foldl (fun v c=>f v c.q) []:=by rw[hP,List.foldl_map]
 rw[h,ao6,List.foldl_reverse,List.foldr_map]
theorem Yh(ps:List Rat)(Pq:Rat->Prop)(f:List Rat->Rat->List Rat)(Inv:Nat->List Rat->Prop)(g:FuncId)(caps:List aC)(h0:Inv 0 [])(hinv:∀k v c,Inv k v->Pq c->Inv (k+1) (f v c))
  (hp:∀q∈ps,Pq q) (hz:Pq 0) (hlen:ps.length<4611686018427387904)
  (hstep:∀k v c,k<ps.length->Inv k v->Pq c->aW prog g (.one (sQ v)::qT c::caps.map .one) (.ret [.one (sQ (f v c))])) :
  aW prog 249 [.one (sQ ps),.one (sQ []),.one (.gU g caps)] (.ret [.one (sQ (ps.foldr (fun c v=>f v c) []))]):=by
 refine⟨bA (by kernel_rfl),fun M w vs hM hv=>?_⟩
 match vs,hv with
 | [v0,v1,v2],⟨k0,k1,⟨fs,k2,hfs⟩,_⟩=>
   obtain⟨ts,a,cap,rfl,hq,hsl⟩:=bp3 k0 hp
   haveI:Inhabited (PV M w Pq):=⟨⟨0,.slice none 0 0,.bool false,.slice none 0 0,hz,ah.sub nI ⟨⟨rfl,rfl⟩,⟨rfl,rfl⟩,⟨rfl,rfl⟩,trivial⟩⟩⟩
   subst k2;have hl:ps.length=ts.length:=by rw[<-hq,aJ]
   have h1:=VM M w Pq f Inv g caps h0 hinv hM a cap ts (by rw[<-hl];exact hstep) hsl v1 k1 fs hfs;rw[bM0,hq]at h1;refine((ay (n:=1001)).1 h1).mono ?_;rintro e w' ⟨hb,u,rfl,hr⟩;exact⟨hb,[u],rfl,hr,trivial⟩
 | [],hv=>exact hv.elim
 | [_],hv=>exact hv.2.elim
 | [_,_],hv=>exact hv.2.2.elim
 | _::_::_::_::_,hv=>exact hv.2.2.2.elim
end Go.Sy
namespace Go.Sy
open Go Go.Proofs Tryz Ord
theorem lj(x:Rat):∀p:List Rat,ev (trim p) x=ev p x
 | []=>rfl
 | a::p=>by
   have ih:=lj x p;unfold trim at ih|-;rw[nZ];split
   ·rename_i h;rw[h.1,iK,dA]at ih;have ha:a=0:=by simpa[zr]using h.2
    rw[iK,dA,au,<-ih,ha];grind
   ·rw[lS,au,au,ih]
theorem im:∀p:List Rat,nK (trim p)
 | []=>fun a h=>by cases h
 | a::p=>by
   have ih:=im p;unfold trim at ih|-;rw[nZ];split
   ·intro b hb;cases hb
   ·rename_i h;intro b hb;rw[lS,List.getLast?_cons]at hb;cases hl:(p.take (nZ zr p)).getLast? with
    | some c=>
      rw[hl]at hb;simp only[fY,aU]at hb;subst hb;exact ih c hl
    | none=>
      rw[hl]at hb;simp only[OS,aU]at hb;subst hb;intro e;refine h ⟨?_,by simp[zr,e]⟩;have h1:=ZZ.1 hl;have h2:min (nZ zr p) p.length=0:=by rw[<-bL,h1];rfl
      have:=kg (z:=zr) p;omega
theorem pD(x:Rat):∀(p:List Rat)(m:Nat),p.length<=m->ev ((List.range m).map fun i=>p.getD i 0) x=ev p x
 | [],m,_=>by
   have:(List.range m).map (fun i=>([]:List Rat).getD i 0)=List.replicate m 0:=by
    apply fH;intro i;rw[cU,Ao];by_cases h:i<m
    ·rw[iv h,aD h];rfl
    ·rw[aH h,gj (by simpa using h)];rfl
   rw[this,aq4,dA]
 | a::p,0,h=>by simp at h
 | a::p,m+1,h=>by
   rw[aa4,ep,au,ef,au];have:=pD x p m (by simpa using h);rw[<-this];rfl
theorem aH1(x:Rat)(f g:Nat->Rat):∀l:List Nat,ev (l.map fun i=>f i+g i) x=ev (l.map f) x+ev (l.map g) x
 | []=>by simp only[mR,dA];grind
 | a::l=>by rw[ep,ep,ep,au,au,au,aH1 x f g l];grind
theorem mN(x:Rat)(p q:List Rat):ev (kq p q) x=ev p x+ev q x:=by
 rw[kq,lj,aH1,pD x p _ (Nat.le_max_left _ _),pD x q _ (Nat.le_max_right _ _)]
theorem sP(x:Rat)(p q:List Rat):ev (en p q) x=ev p x*ev q x:=by
 unfold en;split
 ·rename_i h;rcases h with rfl | rfl
  ·rw[dA];grind
  ·rw[dA];grind
 ·rename_i h;have hq:0<q.length:=ZR.2 fun e=>h (.inr e);rw[lj,Zl p q x hq _ (aY _),gH]
theorem ER(p q:List Rat):nK (kq p q):=im _
theorem Xp(p q:List Rat):nK (en p q):=by
 unfold en;split
 ·intro a h;cases h
 ·exact im _
theorem lp{p:List Rat}{a:Rat}(h:a∈trim p):a∈p:=jH h
theorem jv(p:List Rat):(trim p).length<=p.length:=by rw[ir];exact kg _
theorem TK(p q:List Rat):(kq p q).length<=max p.length q.length:=by
 have:=jv ((List.range (max p.length q.length)).map fun i=>p.getD i 0+q.getD i 0);rw[aJ,lM]at this;exact this
theorem Zx{D S T:Nat}(h0:D≠0){p q:List Rat}(hp:∀a∈p,Bd D S a)(hq:∀a∈q,Bd D T a):∀a∈kq p q,Bd D (S+T) a:=fun a ha=>by
 obtain⟨i,_,rfl⟩:=dn.1 (lp ha);exact(kK hp i).add h0 (kK hq i)
theorem yf(p q:List Rat):(en p q).length<=if p=[]then 0 else p.length+q.length-1:=by
 unfold en;split
 ·simp
 ·rename_i h;rw[aH (fun e=>h (.inl e))];have:=jv (mulL p q p.length);rw[iQ]at this;exact this
theorem On{D E S T:Nat}(h0:D≠0)(h1:E≠0){p q:List Rat}(hp:∀a∈p,Bd D S a)(hq:∀b∈q,Bd E T b):∀x∈en p q,Bd (D*E) (p.length*(S*T)) x:=fun x hx=>by
 unfold en at hx;split at hx
 ·cases hx
 ·exact vX h0 h1 hp hq _ x (lp hx)
def Ua(q v:List Rat)(c:Rat):List Rat:=kq (en v q) (trim [c])
def Ue(p q:List Rat):List Rat:=p.foldr (fun c v=>Ua q v c) []
def aA5(D E S T K:Nat)(k:Nat)(v:List Rat):Prop:=k<=K->v.length<=k/\∀a∈v,Bd (D*E^k) (S*(K*T+1)^k) a
theorem ae9{D E S T K:Nat}:aA5 D E S T K 0 []:=fun _=>⟨aY _,fun a h=>by cases h⟩
theorem uT{E:Nat}(h:E≠0)(k:Nat):E^k≠0:=fun e=>h (Nat.pow_eq_zero.1 e).1
theorem ak6{D E S T K:Nat}(h0:D≠0)(h1:E≠0){q:List Rat}(hq:∀b∈q,Bd E T b)(hql:q.length<=2)(k:Nat)(v:List Rat)(c:Rat)(h:aA5 D E S T K k v)(hc:Bd D S c):aA5 D E S T K (k+1) (Ua q v c):=by
 intro hk;obtain⟨hl,hb⟩:=h (by omega);have hDk:D*E^k≠0:=eh h0 (uT h1 k);have hD1:D*E^(k+1)≠0:=eh h0 (uT h1 _)
 constructor
 ·have h2:=TK (en v q) (trim [c]);have h3:=yf v q;have h4:=jv [c];unfold Ua;split at h3<;>simp at h4<;>omega
 ·have h2:=On hDk h1 hb hq
  have h3:∀x∈en v q,Bd (D*E^(k+1)) (K*T*(S*(K*T+1)^k)) x:=fun x hx=>by
   refine(h2 x hx).mono ⟨1,by rw[bW,de,eP]⟩ ?_;have:v.length*(S*(K*T+1)^k*T)<=K*(S*(K*T+1)^k*T):=bu _ (by omega);refine bF this (sX ?_);rw[bo (S*_) T,eP]
  have h4:∀x∈trim [c],Bd (D*E^(k+1)) (S*(K*T+1)^k) x:=fun x hx=>by
   have:=lp hx;rw[dR]at this;subst this;exact hc.mono (qQ _ _) (mH _ (dZ (by omega)))
  intro a ha;refine(Zx hD1 h3 h4 a ha).le (sX ?_);rw[bW];generalize (K*T+1)^k=r;generalize K*T=u
  grind
def vo(D E S T K:Nat):Nat:=D*E^K*E*((K+1)*((S*(K*T+1)^K+1)*(T+1)))
theorem Xa{D E S T K k n:Nat}(h0:D≠0)(h1:E≠0)(hk:k<=K)(hn:n<=K):D*E^k*E*((n+1)*((S*(K*T+1)^k+1)*(T+1)))<=vo D E S T K:=by
 unfold vo;refine eD (bu _ (dF _ (ey (by omega) hk))) (eD (by omega) (bu _ ?_));have:=dF S (ey (n:=K*T+1) (by omega) hk);omega
def bo7:Tr:=DN 64 0 2 6 7 98 98 98 (Gz 251 1 9 98 (jB 66 3 0 4 8 10 98 98 98 (cD 5)))
theorem MU:aV prog f250 dE [.v none,.v (some 3),.ref 1]=bo7:=by kernel_rfl
def bw6:Tr:=.need (.call 249 [(W 0 0),(.one (.c (.k (.slice none 0 0)))),(.one (.gU 250 [(.ref 0 [(.u 1 0)])]))] [none]) (.call ⟨.value (.func 249),#[(tT 5),(.const (.slice none 0 0)),(tT 6)],#[98,98,258]⟩) 98 true (cD 2)
theorem XT:aV prog f231 dE [.v none,.v none]=bw6:=by kernel_rfl
def bF2:Tr:=Gz 232 1 6 98 (jB 231 0 0 2 5 7 98 98 98 (cD 3))
theorem av1:aV prog f205 dE [.v none,.v (some 3)]=bF2:=by kernel_rfl
theorem QF(v q:List Rat)(c:Rat)(D E S T K k B:Nat)(h0:D≠0)(h1:E≠0)(hq:∀b∈q,Bd E T b)(hql:q.length<=2)(hv:aA5 D E S T K k v)(hc:Bd D S c)(hK:K<=1073741824)(hB:B<=8589934592)(hX:vo D E S T K<2^B)(hk:k<K:=by omega):aW prog 250 [(.one (sQ v):aK),(qT c:aK),(.one (.aq ([sQ q])):aK)] (.ret [.one (sQ (Ua q v c))]):=by
 refine dvr (ins:=[.v (.one (sQ v)),.v (qT c),.ref ([sQ q])]) func250 MU ?_;obtain⟨hl,hb⟩:=hv (by omega);have hDk:D*E^k≠0:=eh h0 (uT h1 k);have hX1:=dV (Xa (S:=S) (T:=T) (k:=k) (n:=v.length) h0 h1 (by omega) (show v.length<=K by omega)) hX;obtain⟨f1,f2,f3,f4⟩:=DC hDk h1 hX1
 have hB1:1<=B:=by
  rcases ic B with rfl | h
  ·exfalso
   have:0<D*E^k*E*((v.length+1)*((S*(K*T+1)^k+1)*(T+1))):=jA (Pc (eh hDk h1)) (jA (by omega) (jA (by omega) (by omega)));omega
  ·exact h
 have hm:∀a∈en v q,Fit B a:=fun a ha=>by
  have:=On hDk h1 hb hq a ha;rcases ic v.length with h | h
  ·have:v=[]:=eO h;subst this;simp[en]at ha
  ·refine f3 a (v.length-1) (by omega) (this.le (sX ?_));rw[show v.length=v.length-1+1 by omega,bf,dy,kU]
 have ht:∀a∈trim [c],Fit B a:=fun a ha=>by
  have:=lp ha;rw[dR]at this;subst this;exact f1 _ (hc.mono (qQ _ _) (mH _ (dZ (by omega))))
 have l1:=yf v q;have l2:=jv [c];apply aA (Xw v q (D*E^k) E (S*(K*T+1)^k) T B hDk h1 hb hq hX1 hB);apply aA (Tc c);apply aA (Pn (en v q) (trim [c]) B B hm ht (by simp at l2;omega) hB1 hB1 (by split at l1<;>omega)) rfl;exact aM
theorem Wr(p q:List Rat)(D E S T K B:Nat)(h0:D≠0)(h1:E≠0)(hp:∀a∈p,Bd D S a)(hq:∀b∈q,Bd E T b)(hql:q.length<=2)(hpl:p.length<=K)(hK:K<=1073741824)(hB:B<=8589934592)(hX:vo D E S T K<2^B):aW prog 231 [(.one (sQ p):aK),(.one (sQ q):aK)] (.ret [.one (sQ (Ue p q))]):=by
 refine eB func231 XT ?_
 refine am5 (show aX [.one (sQ p),.one (.exact (.slice none 0 0)),.one (.gU 250 [.aq [sQ q]])] [.one (sQ p),.one (sQ []),.one (.gU 250 [.aq [sQ q]])]from⟨aK.Sub.same,aC.Sub.nil,aK.Sub.same,trivial⟩)
  (Yh p (Bd D S) (fun v c=>Ua q v c) (aA5 D E S T K) 250 [.aq [sQ q]] ae9 (fun k v c hv hc=>ak6 h0 h1 hq hql k v c hv hc) hp Bd.zero (by omega)
   (fun k v c hk hv hc=>QF v q c D E S T K k B h0 h1 hq hql hv hc hK hB hX)) rfl ?_
 exact aM
def OL(p:List Rat)(c:Rat):List Rat:=Ue p [c,1]
theorem RW(p:List Rat)(c:Rat)(D E S T K B:Nat)(hp:∀a∈p,Bd D S a)(hc:Bd E T c)(hpl:p.length<=K)(hX:vo D E S T K<2^B)(h0:D≠0:=by omega)(h1:E≠0:=by omega)(hT:1<=T:=by omega)(hK:K<=1073741824:=by omega)(hB:B<=8589934592:=by omega):aW prog 205 [(.one (sQ p):aK),(qT c:aK)] (.ret [.one (sQ (OL p c))]):=by
 refine eB func205 av1 ?_;apply aA (bd0 c)
 apply aA (Wr p [c,1] D E S T K B h0 h1 hp (fun b hb=>by
  rcases eU.1 hb with rfl | hb
  ·exact hc
  ·rw[dR]at hb;subst hb;exact Bd.one hT) (by simp) hpl hK hB hX) rfl
 exact aM
theorem RT{A B:Nat}{p q:List Rat}(hA:1<=A)(hB:1<=B)(hp:∀a∈p,Fit A a)(hq:∀a∈q,Fit B a):∀a∈kq p q,Fit (A+B+1) a:=by
 refine Dk fun a ha=>?_;obtain⟨i,hi,rfl⟩:=dn.1 ha;exact(aE hp i hA).add (aE hq i hB)
theorem vq(p q:List Rat):(kq p q).length<=max p.length q.length:=by
 have h:=ir ((List.range (max p.length q.length)).map fun i=>p.getD i 0+q.getD i 0);have h2:=kg (z:=zr) ((List.range (max p.length q.length)).map fun i=>p.getD i 0+q.getD i 0);rw[kq,h]
 simpa using h2
structure RU(A:Nat)(ks:List Rat)(ps:List (List Rat)):Prop where
 hA1:1<=A
 hA:A<=1000
 hk:∀a∈ks,Fit A a
 hp:∀p∈ps,p.length<=9/\∀a∈p,Fit A a
 hn:ps.length<=20
 hl:ps.length+1=ks.length
def inD(ks:List Rat)(x:Rat):Prop:=ks.getD 0 0<=x/\x<=ks.getD (ks.length-1) 0
end Go.Sy
