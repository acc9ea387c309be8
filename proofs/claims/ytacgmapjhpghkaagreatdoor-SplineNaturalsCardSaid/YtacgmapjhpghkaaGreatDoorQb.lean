/- Part. -/
import Derived.Test.YtacgmapjhpghkaaGreatDoorQa
set_option linter.all false
namespace Go.Sy
open Go Go.Proofs Tryz Ord
def YZ(A:Nat)(ps:b9):Prop:=∀p∈ps,p.length<=100/\∀a∈p,Fit A a
def YZ.dv{A:Nat}{ps:b9}(hA:1<=A)(h:YZ A ps):YZ (A+12) (zY ps):=fun p hp=>by
 obtain⟨q,hq,rfl⟩:=dm.1 hp;have h1:=h q hq;have h2:=wj q;exact⟨O,Td hA h1.2 O⟩
def WV{ps:b9}{i:Nat}(h:i<ps.length):ps.getD i []∈ps:=by
 rw[fI,bM h];exact rj h
def be3{ps:b9}{i:Nat}(h:i<ps.length):ps[i]?=some (ps.getD i []):=by
 rw[fI,bM h];rfl
def YZ.r{A:Nat}{pr:List (List RQ)}(h:YZ A (eqR pr)){p:List RQ}(hp:p∈pr):p.length<=100/\∀a∈p,Fit A a.q:=by
 have h1:=h (p.map RQ.q) (sH hp);rw[aL]at h1;exact⟨h1.1,fun a ha=>h1.2 _ (sH ha)⟩
open Go Go.Proofs Go.RowKit Go.Shelf Tryz Ord
attribute [local go_sem] Oper.semAt_some
section
variable(M:c6)(w:World)(Pq:iF)
structure PV where
 q:Rat
 u0:Value
 u1:Value
 u2:Value
 ok:Pq q
 rep:an M w (qC q) [u0,u1,u2]
end
def bI9{M:c6}{w:World}{Pq:iF}{v:Value}{ps:c4}(h:(sQ ps).rep M w v)(hp:∀q∈ps,Pq q) :
  ∃(ts:List (PV M w Pq))(a:j9)(cap:Nat),v=.slice a ts.length cap/\ts.map PV.q=ps/\Sl3 PV.u0 PV.u1 PV.u2 w.heap.size w v ts:=by
 obtain⟨a,cap,rfl,hc,hm,hel⟩:=h;have hlen:(rQ ps).length=ps.length:=aL _;rcases hel with h | ⟨b,off,cs,T,fz,rfl,hb,hh,hr⟩
 .have:ps=[]:=by cases ps<;>simp_all[rQ]
  subst this;exact⟨[],a,cap,rfl,rfl,a,cap,rfl,.inl rfl⟩
 .obtain⟨ts,h1,h2⟩:=pL (fun i (x:PV M w Pq)=>ps[i]?=some x.q/\w.cell? ⟨b,off+i*3,none⟩=some x.u0/\w.cell? ⟨b,off+i*3+1,none⟩=some x.u1/\w.cell? ⟨b,off+i*3+2,none⟩=some x.u2) ps.length fun i hi=>by
   obtain⟨q,hq⟩:∃q,ps[i]?=some q:=⟨_,bM hi⟩
   obtain⟨_,hrep⟩:=hr i (qC q) (by rw[rQ,dR,hq];rfl)
   have hat:∀j,j<3->((cs.toList.drop (off+i*3)).take 3)[j]?=cs[off+i*3+j]?:=fun j hj=>by
    rw[eh,aF hj,fG];simp
   have hl:=hrep.length;generalize hus:(cs.toList.drop (off+i*3)).take 3=us at hrep hl hat
   match us,hrep with
   | [x0,x1,x2],hrep=>
     refine⟨⟨q,x0,x1,x2,hp q (dc hq),hrep⟩,hq,?_,?_,?_⟩
     .have h0:=hat 0 O;rw[cV]at h0;exact bH hh (by rw[<-h0];rfl)
     .exact bH hh (by rw[<-hat 1 O];rfl)
     .exact bH hh (by rw[<-hat 2 O];rfl)
   | [],hrep=>exact hrep.elim
   | [_],hrep=>exact hrep.2.elim
   | [_,_],hrep=>exact hrep.2.2.elim
   | _::_::_::_::_,hrep=>exact hrep.2.2.2.elim
  refine⟨ts,_,cap,by rw[hlen,h1],?_,_,cap,by rw[hlen,h1],.inr ⟨b,off,rfl,(cJ.1 hh).1,fun j v hj=>(h2 j v hj).2⟩⟩;refine gU fun i=>?_;rw[dR];cases hi:ts[i]? with
  | none=>
    have:=fA.1 hi;rw[fA.2 O];rfl
  | some x=>rw[(h2 i x hi).1];rfl
def hP{M:c6}{w:World}{Pq:iF}(f:List Rat->Rat->List Rat)(pre:List (Nat×PV M w Pq)):List Rat:=pre.foldl (fun v c=>f v c.2.q) []
def bt7{M:c6}{w:World}{Pq:iF}(f:List Rat->Rat->List Rat)(pre:List (Nat×PV M w Pq))(y:Nat×PV M w Pq):hP f (pre++[y])=f (hP f pre) y.2.q:=by simp[hP]
def bJ4{M:c6}{w:World}{Pq:iF}{f:List Rat->Rat->List Rat}{Inv:Nat->List Rat->Prop}(h0:Inv 0 [])(hs:∀k v c,Inv k v->Pq c->Inv (k+1) (f v c))(pre:List (Nat×PV M w Pq)):Inv pre.length (hP f pre):=by
 have key:∀(l:List (Nat×PV M w Pq))(k:Nat)(v:c4),Inv k v->Inv (k+l.length) (l.foldl (fun v c=>f v c.2.q) v):=by
  intro l
  induction l with
  | nil=>intro k v h;exact h
  | cons y l ih=>
    intro k v h;have:=ih (k+1) (f v y.2.q) (hs k v _ h y.2.ok);rw[bB,show k+(l.length+1)=k+1+l.length by omega];exact this
 have:=key pre 0 [] h0
 rwa[bW]at this
def Bf{M:c6}{w:World}{c:aC}{vs:j0}(h:cC M w [.one c] vs):∃v,pack vs=v/\c.rep M w v:=by
 match vs,h with
 | [v],h=>exact⟨v,rfl,h.1⟩
 | [],h=>exact h.elim
 | _::_::_,h=>exact h.2.elim
set_option maxRecDepth 100000 in
set_option maxHeartbeats 1000000 in
def YY(M:c6)(w:World)(Pq:iF)(f:List Rat->Rat->List Rat)(Inv:Nat->List Rat->Prop)(g:FuncId)(caps:List aC)(h0:Inv 0 [])(hinv:∀k v c,Inv k v->Pq c->Inv (k+1) (f v c))
  (hM:bf M w) [Inhabited (PV M w Pq)] (a:j9) (cap:Nat) (ts:List (PV M w Pq))
  (hstep:∀k v c,k<ts.length->Inv k v->Pq c->aX prog g (.one (sQ v)::qT c::caps.map .one) (.ret [.one (sQ (f v c))]))
  (hI:Sl3 PV.u0 PV.u1 PV.u2 w.heap.size w (.slice a ts.length cap) ts) (z:Value) (hz:(sQ []).rep M w z) (cvs:j0) (hcv:an M w caps cvs) (hlen:ts.length<4611686018427387904:=by omega) :
  CallsIn Fence.wide 1001 prog 249 #[.slice a ts.length cap,z,.func (.func g) #[] cvs.toArray] w fun e W'=>Below w.heap.size w W'/\∃u,e=.returned u/\(sQ (hP f (bk ts ts.length))).rep M W' u:=by
 refine rS func249 rfl trivial ?_ rfl;simp only[ntmps249,cq,bB,bu,Nat.reduceAdd,Nat.reduceSub,eE,eF,eJ,eI,List.nil_append,List.cons_append];generalize hL:ts.length=L at hI hlen hstep|-;obtain⟨za,zl,zc,rfl⟩:∃za zl zc,z=.slice za zl zc:=by obtain⟨za,zc,e,_⟩:=hz;exact⟨_,_,_,e⟩
 gi_wp2_with (refine⟨trivial,?_⟩;gi_at_call 224;refine(YJ _ _ _ _ _).mono ?_;rintro e w' ⟨rfl,rfl⟩)
 obtain⟨n0,hn0⟩:∃n0,w.heap.size=n0:=⟨_,rfl⟩
 obtain⟨hM,hMg⟩:=hM;rw[hn0]at hI hM|-;obtain⟨W0,hW0⟩:∃W0,(((w.alloc (.cells #[.slice za zl zc] 98)).alloc (.cells #[.func (.func g) #[] cvs.toArray] 258)).alloc (.cells #[.slice a L cap] 98))=W0:=⟨_,rfl⟩
 have hs0:W0.heap.size=n0+3:=by rw[<-hW0];simp[hn0]
 have hX0:W0.heap[n0]?=some (.cells #[.slice za zl zc] 98 (0,0)):=by rw[<-hW0,dB _ _ _ b6,dB _ _ _ b6,<-hn0];exact cr w _
 have hS0:W0.heap[n0+1]?=some (.cells #[.func (.func g) #[] cvs.toArray] 258 (0,0)):=by
  rw[<-hW0,dB _ _ _ b6];have:=cr (w.alloc (.cells #[.slice za zl zc] 98)) (.cells #[.func (.func g) #[] cvs.toArray] 258);rw[cz,hn0]at this;exact this
 have hP0:W0.heap[n0+2]?=some (.cells #[.slice a L cap] 98 (0,0)):=by
  rw[<-hW0];have:=cr ((w.alloc (.cells #[.slice za zl zc] 98)).alloc (.cells #[.func (.func g) #[] cvs.toArray] 258)) (.cells #[.slice a L cap] 98);rw[cz,cz,hn0]at this;exact this
 have hB0:Below n0 w W0:=by
  rw[<-hW0];exact(((cS _ w).alloc O _).alloc b6 _).alloc b6 _
 rw[hW0]
 refine wpIn_rangeFunc_ownH (w0:=W0) rfl O (gf:=246) (lb:=#[.pointer (some ⟨n0+1+1,0,none⟩)]) rfl trivial (wL func246 aS rfl)
  (Ao (e0:=PV.u0) (e1:=PV.u1) (e2:=PV.u2) (n0+2) n0 (.slice a L cap) ts O W0 O O (bH hP0 rfl) (hI.below hB0)) Xd (XB O O) (cS _ _) (fun _=>rfl)
  (fun pre W=>Below n0 w W/\n0+3<=W.heap.size/\W.heap[n0+1]?=some (.cells #[.func (.func g) #[] cvs.toArray] 258 (0,0)) /\
   ∃ua ul uc,W.heap[n0]?=some (.cells #[.slice ua ul uc] 98 (0,0))/\(sQ (hP f pre)).rep (fun b=>M b\/b=n0) W (.slice ua ul uc))
  (fun _ _ _=>False) ?own (fun _=>by intro s A B row hs;exact hs.elim) ?start
  (fun y a' W=>∃b,n0+3<=b/\a'={ tmps:=#[.slice a L cap,.slice za zl zc,.func (.func g) #[] cvs.toArray,undef,.pointer (some ⟨n0,0,none⟩),.pointer (some ⟨n0+1,0,none⟩),.slice none 0 0,undef,.pointer (some ⟨b,0,none⟩),.slice a L cap,.func (.func 246) #[] #[.pointer (some ⟨n0+1+1,0,none⟩)],.int .i64 (y.1:Int),.agg #[y.2.u0,y.2.u1,y.2.u2],undef,undef,undef,undef,undef],defers:=[] } /\ W.heap[b]?=some (.cells #[y.2.u0,y.2.u1,y.2.u2] 46 (0,0)))
  ?ax ?assign ?body ?done ?stop
 case own=>
  rintro s A A' row ⟨h1,h2,h3,ua,ul,uc,h5,h6⟩ hg hr;have hr':∀r,row=some r->∃o:Obj,A.heap[r]?=some o/\o.isCells=false:=fun r e=>(hr r e).2;refine⟨h1.grown hg O (fun k e=>by have:=(hr k e).1;omega),bG h2 hg.size,ef hg hr' h3 rfl,ua,ul,uc,ef hg hr' h5 rfl,aC.mono _ (fun b o hb ho hc=>⟨hb,ef hg hr' ho hc⟩) h6⟩
 case start=>
  refine⟨hB0,O,hS0,za,zl,zc,hX0,aC.mono _ (fun b o hb ho hc=>?_) hz⟩;have hlt:=(cJ.1 ho).1;exact⟨fun h=>h.elim hb O,(hB0.block b O).trans ho⟩
 case ax=>
  rintro y a' _ A A' row ⟨b,h1,h2,h3⟩ hg hr;exact⟨b,h1,h2,ef hg (fun r e=>(hr r e).2) h3 rfl⟩
 case assign=>
  rintro l pre y W K ⟨h1,h2,h3,ua,ul,uc,h5,h6⟩ hK
  gi_wp2
  obtain⟨o0,o1,o2⟩:y.2.u0.oneCell'=true/\y.2.u1.oneCell'=true/\y.2.u2.oneCell'=true:=by
   have:=y.2.rep.one;exact⟨this _ aT,this _ aT,this _ aT⟩
  have hnew:=cr W (.cells #[.slice none 0 0,.bool false,.slice none 0 0] 46);rw[DZ hnew o0 o1 o2];obtain⟨W',hW'⟩:∃W',(W.alloc (.cells #[.slice none 0 0,.bool false,.slice none 0 0] 46)).setRow W.heap.size #[y.2.u0,y.2.u1,y.2.u2]=W':=⟨_,rfl⟩
  have hold:∀k,k<W.heap.size->W'.heap[k]?=W.heap[k]?:=fun k hk=>by rw[<-hW',ew _ _ _ _ O,dB _ _ _ hk]
  have hself:W'.heap[W.heap.size]?=some (.cells #[y.2.u0,y.2.u1,y.2.u2] 46 (0,0)):=by rw[<-hW'];exact iV _ _ _ _ _ _ hnew
  have hbel:Below W.heap.size W W':=by rw[<-hW'];exact below_setRow ((cS _ W).alloc (ah _) _) (ah _) _
  have hlt:∀{k:Nat}{o:Obj},W.heap[k]?=some o->k<W.heap.size:=fun h=>(cJ.1 h).1;rw[hW']
  gi_wp2
  refine hK _ _ ⟨hbel.size,fun k o _ ho _=>(hold k (hlt ho)).trans ho⟩ ⟨hbel.mono O,fun v hv=>?_⟩
   ⟨h1.trans (hbel.mono O),bG h2 hbel.size,(hold _ (hlt h3)).trans h3,ua,ul,uc,(hold _ (hlt h5)).trans h5,aC.mono _ (fun b o hb ho _=>⟨hb,(hold b (hlt ho)).trans ho⟩) h6⟩
   ⟨W.heap.size,O,rfl,hself⟩
  simp only[World.cell?,hold (n0+2) O]at hv|-;exact hv
 case body=>
  rintro l pre y a' W hl _ ⟨h1,h2,h3,ua,ul,uc,h5,h6⟩ ⟨b,hb,rfl,hbc⟩ hlt;have hltW:∀{k:Nat}{o:Obj},W.heap[k]?=some o->k<W.heap.size:=fun h=>(cJ.1 h).1;have c0:W.cell? ⟨n0,0,none⟩=some (.slice ua ul uc):=bH h5 rfl;have cs:W.cell? ⟨n0+1,0,none⟩=some (.func (.func g) #[] cvs.toArray):=bH h3 rfl;have cb0:W.cell? ⟨b,0,none⟩=some y.2.u0:=bH hbc rfl;have cb1:W.cell? ⟨b,1,none⟩=some y.2.u1:=bH hbc rfl;have cb2:W.cell? ⟨b,2,none⟩=some y.2.u2:=bH hbc rfl;have hM1:∀k,(M k\/k=n0)->k<W.heap.size:=fun k h=>h.elim (fun h=>by have:=hM k h;omega) (fun h=>O)
  have hkeep:av M w (fun b=>M b\/b=n0) W:=fun k o hk ho _=>by
   have hlt:=(cJ.1 ho).1;exact⟨fun h=>h.elim hk O,(h1.block k O).trans ho⟩
  rw[hL]at hlt;have hdo:=hstep pre.length (hP f pre) y.2.q hlt (bJ4 h0 hinv pre) y.2.ok
  have hcall:Calls prog g (Value.slice ua ul uc::Value.agg #[y.2.u0,y.2.u1,y.2.u2]::cvs).toArray W fun e w'=>Below W.heap.size W w'/\∃va vl vc,e=.returned (.slice va vl vc)/\(sQ (hP f (pre++[y]))).rep (fun b=>M b\/b=n0) w' (.slice va vl vc):=by
   have h7:=hdo.2 (fun b=>M b\/b=n0) W (.slice ua ul uc::.agg #[y.2.u0,y.2.u1,y.2.u2]::cvs) ⟨hM1,hMg.dJ hkeep⟩ ⟨h6,⟨[_,_,_],rfl,y.2.rep.mono hkeep⟩,cC.yN (hcv.mono hkeep)⟩;refine h7.mono ?_;rintro e w' ⟨hb',vs,rfl,hvs⟩;rw[bt7];obtain⟨v,e1,hr⟩:=Bf hvs;have hr':=hr;obtain⟨va,vc,rfl,_⟩:=hr';exact⟨hb',va,_,vc,by rw[e1],hr⟩
  have eg:∀args w,(callFunc g args).run prog w=.ok (.enter g args) w:=hdo.1
  gi_wp2
  refine⟨trivial,(ny l (bC.2 hcall)).mono ?_⟩;rintro e w' ⟨hbw,va,vl,vc,rfl,hvr⟩;have hbox:w'.heap[n0]?=some (.cells #[.slice ua ul uc] 98 (0,0)):=(hbw.block n0 (hltW h5)).trans h5;have d0:w'.cell? ⟨n0,0,none⟩=some (.slice ua ul uc):=bH hbox rfl;have df:w'.frozen? ⟨n0,0,none⟩=false:=by simp[World.frozen?,hbox]
  gi_wp2
  rw[setCell_eq_setRow w' n0 0 #[.slice ua ul uc] 98 (0,0) (.slice va vl vc) hbox];obtain⟨W3,hW3⟩:∃W3,w'.setRow n0 (#[Value.slice ua ul uc].setIfInBounds 0 (.slice va vl vc))=W3:=⟨_,rfl⟩
  have hself:W3.heap[n0]?=some (.cells #[.slice va vl vc] 98 (0,0)):=by rw[<-hW3];exact iV _ _ _ _ _ _ hbox
  have hoth:∀k,k≠n0->W3.heap[k]?=w'.heap[k]?:=fun k hk=>by rw[<-hW3,ew _ _ _ _ hk]
  have hold:∀{k:Nat}{o:Obj},k≠n0->W.heap[k]?=some o->W3.heap[k]?=some o:=fun hk ho=>(hoth _ hk).trans ((hbw.block _ (hltW ho)).trans ho);have hbel:Below n0 W W3:=by rw[<-hW3];exact below_setRow (hbw.mono O) (ah _) _
  rw[hW3];refine⟨⟨hbel.size,fun k o hk ho _=>hold O ho⟩,⟨hbel,fun v hv=>?_⟩,h1.trans hbel,bG h2 hbel.size,hold O h3,va,vl,vc,hself,aC.mono _ (fun k o hk ho hc=>⟨hk,(hoth k fun e=>hk (.inr e)).trans ho⟩) hvr⟩;simp only[World.cell?,hoth (n0+2) O,hbw.block (n0+2) O]at hv|-;exact hv
 case done=>
  rintro D ys W hD rfl ⟨h1,h2,h3,ua,ul,uc,h5,h6⟩ hK;have c0:W.cell? ⟨n0,0,none⟩=some (.slice ua ul uc):=bH h5 rfl
  gi_wp2
  refine⟨aT,.inl ⟨_,_,rfl,sV hK,?_⟩⟩;refine⟨_,kN rfl _ _ _,?_,⟨_,rfl,by rw[<-hL];exact aC.mono _ (fun k o hk ho hc=>⟨fun h=>hk (.inl h),(mE (fun e=>by rw[e,hK]at ho;cases ho;cases hc)).trans ho⟩) h6⟩⟩;rw[<-hn0]at h1;exact h1.trans (uV (w:=w) (ah _) W D _ _ O hK rfl rfl)
 case stop=>
  rintro D c pre W hD _ h hK;exact h.elim
def ch5{M:c6}{w:World}{Pq:iF}[Inhabited (PV M w Pq)](f:List Rat->Rat->List Rat)(ts:List (PV M w Pq)):hP f (bk ts ts.length)=(ts.map PV.q).foldr (fun c v=>f v c) []:=by
 have h:hP f (bk ts ts.length)=((bk ts ts.length).map Prod.snd).foldl (fun v c=>f v c.q) []:=by rw[hP,List.foldl_map]
 rw[h,aG3,List.foldl_reverse,List.foldr_map]
def ah3(ps:c4)(Pq:iF)(f:List Rat->Rat->List Rat)(Inv:Nat->List Rat->Prop)(g:FuncId)(caps:List aC)(h0:Inv 0 [])(hinv:∀k v c,Inv k v->Pq c->Inv (k+1) (f v c))
  (hp:∀q∈ps,Pq q) (hz:Pq 0) (hlen:ps.length<4611686018427387904)
  (hstep:∀k v c,k<ps.length->Inv k v->Pq c->aX prog g (.one (sQ v)::qT c::caps.map .one) (.ret [.one (sQ (f v c))])) :
  aX prog 249 [.one (sQ ps),.one (sQ []),.one (.gv g caps)] (.ret [.one (sQ (ps.foldr (fun c v=>f v c) []))]):=by
 refine⟨ay aS,fun M w vs hM hv=>?_⟩
 match vs,hv with
 | [v0,v1,v2],⟨k0,k1,⟨fs,k2,hfs⟩,_⟩=>
   obtain⟨ts,a,cap,rfl,hq,hsl⟩:=bI9 k0 hp
   haveI:Inhabited (PV M w Pq):=⟨⟨0,.slice none 0 0,.bool false,.slice none 0 0,hz,an.sub nO ⟨⟨rfl,rfl⟩,⟨rfl,rfl⟩,⟨rfl,rfl⟩,trivial⟩⟩⟩
   subst k2;have hl:ps.length=ts.length:=by rw[<-hq,aL]
   have h1:=YY M w Pq f Inv g caps h0 hinv hM a cap ts (by rw[<-hl];exact hstep) hsl v1 k1 fs hfs;rw[ch5,hq]at h1;refine((bC (n:=1001)).1 h1).mono ?_;rintro e w' ⟨hb,u,rfl,hr⟩;exact⟨hb,[u],rfl,hr,trivial⟩
 | [],hv=>exact hv.elim
 | [_],hv=>exact hv.2.elim
 | [_,_],hv=>exact hv.2.2.elim
 | _::_::_::_::_,hv=>exact hv.2.2.2.elim
end Go.Sy
namespace Go.Sy
open Go Go.Proofs Tryz Ord
theorem me(x:Rat):∀p:List Rat,ev (trim p) x=ev p x
 | []=>rfl
 | a::p=>by
   have ih:=me x p;unfold trim at ih|-;rw[pC];split
   .rename_i h;rw[h.1,jI,cU]at ih;have ha:a=0:=by simpa[zr]using h.2
    rw[jI,cU,ak,<-ih,ha];grind
   .rw[mS,ak,ak,ih]
theorem jc:∀p:List Rat,qx (trim p)
 | []=>fun a h=>by cases h
 | a::p=>by
   have ih:=jc p;unfold trim at ih|-;rw[pC];split
   .intro b hb;cases hb
   .rename_i h;intro b hb;rw[mS,List.getLast?_cons]at hb;cases hl:(p.take (pC zr p)).getLast? with
    | some c=>
      rw[hl]at hb;simp only[gH,aZ]at hb;subst hb;exact ih c hl
    | none=>
      rw[hl]at hb;simp only[BH,aZ]at hb;subst hb;intro e;refine h ⟨?_,by simp[zr,e]⟩;have h1:=as0.1 hl;have h2:min (pC zr p) p.length=0:=by rw[<-bh,h1];rfl
      have:=kR (z:=zr) p;omega
theorem ql(x:Rat):∀(p:c4)(m:Nat),p.length<=m->ev ((List.range m).map fun i=>p.getD i 0) x=ev p x
 | [],m,_=>by
   have:(List.range m).map (fun i=>([]:List Rat).getD i 0)=List.replicate m 0:=by
    apply gU;intro i;rw[dR,wy];by_cases h:i<m
    .rw[kC h,aF h];rfl
    .rw[aG h,jQ (by simpa using h)];rfl
   rw[this,aH7,cU]
 | a::p,0,h=>by simp at h
 | a::p,m+1,h=>by
   rw[ah8,fj,ak,ey,ak];have:=ql x p m (by simpa using h);rw[<-this];rfl
theorem aY5(x:Rat)(f g:c8):∀l:List Nat,ev (l.map fun i=>f i+g i) x=ev (l.map f) x+ev (l.map g) x
 | []=>by simp only[nV,cU];grind
 | a::l=>by rw[fj,fj,fj,ak,ak,ak,aY5 x f g l];grind
def uI(x:Rat)(p q:c4):ev (pA p q) x=ev p x+ev q x:=by
 rw[pA,me,aY5,ql x p _ (Nat.le_max_left _ _),ql x q _ (Nat.le_max_right _ _)]
def wg(x:Rat)(p q:c4):ev (gk p q) x=ev p x*ev q x:=by
 unfold gk;split
 .rename_i h;rcases h with rfl | rfl
  .rw[cU];grind
  .rw[cU];grind
 .rename_i h;have hq:0<q.length:=ar8.2 fun e=>h (.inr e);rw[me,am6 p q x hq _ (ah _),jC]
def Gf(p q:c4):qx (pA p q):=jc _
def ab8(p q:c4):qx (gk p q):=by
 unfold gk;split
 .intro a h;cases h
 .exact jc _
def mj{p:c4}{a:Rat}(h:a∈trim p):a∈p:=mL h
def jV(p:c4):(trim p).length<=p.length:=by rw[iO];exact kR _
def Xa(p q:c4):(pA p q).length<=max p.length q.length:=by
 have:=jV ((List.range (max p.length q.length)).map fun i=>p.getD i 0+q.getD i 0);rw[aL,nL]at this;exact this
def ao5{D S T:Nat}(h0:D≠0){p q:c4}(hp:∀a∈p,Bd D S a)(hq:∀a∈q,Bd D T a):∀a∈pA p q,Bd D (S+T) a:=fun a ha=>by
 obtain⟨i,_,rfl⟩:=dm.1 (mj ha);exact(lR hp i).add h0 (lR hq i)
def Ab(p q:c4):(gk p q).length<=if p=[]then 0 else p.length+q.length-1:=by
 unfold gk;split
 .simp
 .rename_i h;rw[aG (fun e=>h (.inl e))];have:=jV (mulL p q p.length);rw[jR]at this;exact this
def Rd{D E S T:Nat}(h0:D≠0)(h1:E≠0){p q:c4}(hp:∀a∈p,Bd D S a)(hq:∀b∈q,Bd E T b):∀x∈gk p q,Bd (D*E) (p.length*(S*T)) x:=fun x hx=>by
 unfold gk at hx;split at hx
 .cases hx
 .exact xJ h0 h1 hp hq _ x (mj hx)
def OY(q v:c4)(c:Rat):List Rat:=pA (gk v q) (trim [c])
def tk(p q:c4):List Rat:=p.foldr (fun c v=>OY q v c) []
theorem zt(x:Rat)(q:c4):∀p:List Rat,ev (tk p q) x=ev p (ev q x)
 | []=>rfl
 | a::p=>by
   have ih:=zt x q p;unfold tk at ih|-;rw[Ra,OY,uI,wg,me,ih,ak,ak,cU];grind
def Dk(p q:c4):qx (tk p q):=by
 cases p with
 | nil=>intro a h;cases h
 | cons a p=>exact Gf _ _
def aR7(D E S T K:Nat)(k:Nat)(v:c4):Prop:=k<=K->v.length<=k/\∀a∈v,Bd (D*E^k) (S*(K*T+1)^k) a
def ax3{D E S T K:Nat}:aR7 D E S T K 0 []:=fun _=>⟨ah _,fun a h=>by cases h⟩
def Ha{E:Nat}(h:E≠0)(k:Nat):E^k≠0:=fun e=>h (Nat.pow_eq_zero.1 e).1
def aC1{D E S T K:Nat}(h0:D≠0)(h1:E≠0){q:c4}(hq:∀b∈q,Bd E T b)(hql:q.length<=2)(k:Nat)(v:c4)(c:Rat)(h:aR7 D E S T K k v)(hc:Bd D S c):aR7 D E S T K (k+1) (OY q v c):=by
 intro hk;obtain⟨hl,hb⟩:=h O;have hDk:D*E^k≠0:=kE h0 (Ha h1 k);have hD1:D*E^(k+1)≠0:=kE h0 (Ha h1 _)
 constructor
 .have h2:=Xa (gk v q) (trim [c]);have h3:=Ab v q;have h4:=jV [c];unfold OY;split at h3<;>simp at h4<;>omega
 .have h2:=Rd hDk h1 hb hq
  have h3:∀x∈gk v q,Bd (D*E^(k+1)) (K*T*(S*(K*T+1)^k)) x:=fun x hx=>by
   refine(h2 x hx).mono ⟨1,by rw[bw,eG,ej]⟩ ?_;have:v.length*(S*(K*T+1)^k*T)<=K*(S*(K*T+1)^k*T):=cY _ O;refine bG this (ud ?_);rw[cN (S*_) T,ej]
  have h4:∀x∈trim [c],Bd (D*E^(k+1)) (S*(K*T+1)^k) x:=fun x hx=>by
   have:=mj hx;rw[da]at this;subst this;exact hc.mono (uY _ _) (ma _ (ez O))
  intro a ha;refine(ao5 hD1 h3 h4 a ha).le (ud ?_);rw[bw];generalize (K*T+1)^k=r;generalize K*T=u
  grind
def xR(D E S T K:Nat):Nat:=D*E^K*E*((K+1)*((S*(K*T+1)^K+1)*(T+1)))
def aa2{D E S T K k n:Nat}(h0:D≠0)(h1:E≠0)(hk:k<=K)(hn:n<=K):D*E^k*E*((n+1)*((S*(K*T+1)^k+1)*(T+1)))<=xR D E S T K:=by
 unfold xR;refine fP (cY _ (dz _ (gI O hk))) (fP O (cY _ ?_));have:=dz S (gI (n:=K*T+1) O hk);omega
def bI2:Tr:=FZ 64 0 2 6 7 98 98 98 (CO 251 1 9 98 (iK 66 3 0 4 8 10 98 98 98 (cd 5)))
def PO:af prog f250 dV [.v none,.v (some 3),.ref 1]=bI2:=aS
def bQ8:Tr:=.need (.call 249 [(W 0 0),(.one (.c (.k (.slice none 0 0)))),(.one (.gv 250 [(.ref 0 [(.u 1 0)])]))] [none]) (.call ⟨.value (.func 249),#[(tT 5),(.const (.slice none 0 0)),(tT 6)],#[98,98,258]⟩) 98 true (cd 2)
def af3:af prog f231 dV [.v none,.v none]=bQ8:=aS
def ca6:Tr:=CO 232 1 6 98 (iK 231 0 0 2 5 7 98 98 98 (cd 3))
def aM3:af prog f205 dV [.v none,.v (some 3)]=ca6:=aS
def TT(v q:c4)(c:Rat)(D E S T K k B:Nat)(h0:D≠0)(h1:E≠0)(hq:∀b∈q,Bd E T b)(hql:q.length<=2)(hv:aR7 D E S T K k v)(hc:Bd D S c)(hK:K<=1073741824)(hB:B<=8589934592)(hX:xR D E S T K<2^B)(hk:k<K:=by omega):aX prog 250 [(.one (sQ v):aQ),(qT c:aQ),(.one (.aw ([sQ q])):aQ)] (.ret [.one (sQ (OY q v c))]):=by
 refine dvr (ins:=[.v (.one (sQ v)),.v (qT c),.ref ([sQ q])]) func250 PO ?_;obtain⟨hl,hb⟩:=hv O;have hDk:D*E^k≠0:=kE h0 (Ha h1 k);have hX1:=fM (aa2 (S:=S) (T:=T) (k:=k) (n:=v.length) h0 h1 O (show v.length<=K by omega)) hX;obtain⟨f1,f2,f3,f4⟩:=Fg hDk h1 hX1
 have hB1:1<=B:=by
  rcases ju B with rfl | h
  .exfalso
   have:0<D*E^k*E*((v.length+1)*((S*(K*T+1)^k+1)*(T+1))):=jJ (Ck (kE hDk h1)) (jJ O (jJ O O));omega
  .exact h
 have hm:∀a∈gk v q,Fit B a:=fun a ha=>by
  have:=Rd hDk h1 hb hq a ha;rcases ju v.length with h | h
  .have:v=[]:=ep h;subst this;simp[gk]at ha
  .refine f3 a (v.length-1) O (this.le (ud ?_));rw[show v.length=v.length-1+1 by omega,bt,ee,lW]
 have ht:∀a∈trim [c],Fit B a:=fun a ha=>by
  have:=mj ha;rw[da]at this;subst this;exact f1 _ (hc.mono (uY _ _) (ma _ (ez O)))
 have l1:=Ab v q;have l2:=jV [c];apply aA (aU9 v q (D*E^k) E (S*(K*T+1)^k) T B hDk h1 hb hq hB hX1);apply aA (Wr c);apply aA (ZV (gk v q) (trim [c]) B B hm ht (by simp at l2;omega) hB1 hB1 (by split at l1<;>omega)) rfl;exact aR
def Zx(p q:c4)(D E S T K B:Nat)(h0:D≠0)(h1:E≠0)(hp:∀a∈p,Bd D S a)(hq:∀b∈q,Bd E T b)(hql:q.length<=2)(hpl:p.length<=K)(hK:K<=1073741824)(hB:B<=8589934592)(hX:xR D E S T K<2^B):aX prog 231 [(.one (sQ p):aQ),(.one (sQ q):aQ)] (.ret [.one (sQ (tk p q))]):=by
 refine eD func231 af3 ?_
 refine aE2 (show ai [.one (sQ p),.one (.exact (.slice none 0 0)),.one (.gv 250 [.aw [sQ q]])] [.one (sQ p),.one (sQ []),.one (.gv 250 [.aw [sQ q]])]from⟨aQ.Sub.same,aC.Sub.nil,aQ.Sub.same,trivial⟩)
  (ah3 p (Bd D S) (fun v c=>OY q v c) (aR7 D E S T K) 250 [.aw [sQ q]] ax3 (fun k v c hv hc=>aC1 h0 h1 hq hql k v c hv hc) hp Bd.zero O
   (fun k v c hk hv hc=>TT v q c D E S T K k B h0 h1 hq hql hv hc hK hB hX)) rfl ?_
 exact aR
def vj(p:c4)(c:Rat):List Rat:=tk p [c,1]
def ax1(p:c4)(c x:Rat):ev (vj p c) x=ev p (x+c):=by
 rw[vj,zt];simp only[ak,cU]
 congr 1;grind
def Vr(p:c4)(c:Rat)(D E S T K B:Nat)(hp:∀a∈p,Bd D S a)(hc:Bd E T c)(hpl:p.length<=K)(hX:xR D E S T K<2^B)(h0:D≠0:=by omega)(h1:E≠0:=by omega)(hT:1<=T:=by omega)(hK:K<=1073741824:=by omega)(hB:B<=8589934592:=by omega):aX prog 205 [(.one (sQ p):aQ),(qT c:aQ)] (.ret [.one (sQ (vj p c))]):=by
 refine eD func205 aM3 ?_;apply aA (bv9 c)
 apply aA (Zx p [c,1] D E S T K B h0 h1 hp (fun b hb=>by
  rcases cp.1 hb with rfl | hb
  .exact hc
  .rw[da]at hb;subst hb;exact Bd.one hT) aT hpl hK hB hX) rfl
 exact aR
def Vn{A B:Nat}{p q:c4}(hA:1<=A)(hB:1<=B)(hp:∀a∈p,Fit A a)(hq:∀a∈q,Fit B a):∀a∈pA p q,Fit (A+B+1) a:=by
 refine ta fun a ha=>?_;obtain⟨i,hi,rfl⟩:=dm.1 ha;exact(aD hp i hA).add (aD hq i hB)
def Xm(p q:c4):(pA p q).length<=max p.length q.length:=by
 have h:=iO ((List.range (max p.length q.length)).map fun i=>p.getD i 0+q.getD i 0);have h2:=kR (z:=zr) ((List.range (max p.length q.length)).map fun i=>p.getD i 0+q.getD i 0);rw[pA,h]
 simpa using h2
structure Vp(A:Nat)(ks:c4)(ps:b9):Prop where
 hA1:1<=A
 hA:A<=1000
 hk:∀a∈ks,Fit A a
 hp:∀p∈ps,p.length<=9/\∀a∈p,Fit A a
 hn:ps.length<=20
 hl:ps.length+1=ks.length
def oP{A:Nat}{p:List RQ}(h:∀a∈p.map RQ.q,Fit A a):∀a∈p,Fit A a.q:=fun a ha=>h _ (sH ha)
def inD(ks:c4)(x:Rat):Prop:=ks.getD 0 0<=x/\x<=ks.getD (ks.length-1) 0
end Go.Sy
