/- Part. -/
import Derived.Test.YtacgmapjhpghkaaGreatDoorSd
import Derived.OrdersIn
import Derived.Sort.LoopGhostIn
import Derived.RangeFuncNested
set_option linter.all false
namespace Go.Sy
def rh:=@Go.wpIn_loop_ghost
open Go.RowKit (Below)
def aX9{α:Type}(l m:List (Nat×α))(t:Nat):look (l++m) t=(look l t).or (look m t):=by
 induction l with
 | nil=>rfl
 | cons x l ih=>
   obtain⟨k,y⟩:=x;rw[List.cons_append];simp only[look];split
   .rfl
   .exact ih
open Go.RowKit (Below)
def aH:List Nat->Code->Code
 | [],c=>c
 | 0::p,.seq a _=>aH p a
 | 1::p,.seq _ b=>aH p b
 | 0::p,.block _ a=>aH p a
 | 0::p,.scope a=>aH p a
 | 0::p,.loop a=>aH p a
 | 0::p,.cond _ a _=>aH p a
 | 1::p,.cond _ _ b=>aH p b
 | 0::p,.rangeFunc _ _ a _=>aH p a
 | 1::p,.rangeFunc _ _ _ b=>aH p b
 | _,_=>.skip
def aM(fn:Func):Code:=fn.body.getD .skip
def stA(ins:List (Nat×Arg)):St:=⟨ins.mapIdx fun i p=>(p.1,lF i p.2),[],[]⟩
def xB:Nat->Code->Code
 | 0,.seq _ b=>b
 | n+1,.seq _ b=>xB n b
 | _,_=>.skip
def bb3(P:j5)(N:Nat)(hints:Nat->Option Hint):Nat->Code->Nat->Nat->Nat->Nat->St->Bj->(Ex->Nat->Nat->St->Bj->Tr)->Tr
 | 0,.seq a _,l,d,nb,ni,s,dec,k=>exec P N hints a l d nb ni s dec k
 | n+1,.seq a b,l,d,nb,ni,s,dec,k=>exec P N hints a l d nb ni s dec fun e nb ni s dec=>match e with
   | .normal=>bb3 P N hints n b (l+oS a) d nb ni s dec k
   | e=>k e nb ni s dec
 | _,_,_,_,_,_,_,_,_=>.fail 1018
def bi6(tail:Bool):Ex->Bool
 | .normal=>true
 | .ret=>tail
 | .exit _=>false
def au2(P:j5)(res:List ResultVar)(tail:Bool)(e:Ex)(s:St):Tr:=if bi6 tail e then match(Bc P s res).run s with
    | some (vs,_)=>.ret vs
    | none=>.fail 1008 else .fail 1011
def aj(P:j5)(N:Nat)(hints:Nat->Option Hint)(c:Code)(ins:List (Nat×Arg))(res:List ResultVar)(cut:Option Nat)(tail:Bool):Tr:=
 match cut with
 | none=>exec P N hints c 0 0 0 ins.length (stA ins) [] fun e nb ni s _=>au2 P res tail e s
 | some n=>bb3 P N hints n c 0 0 0 ins.length (stA ins) [] fun e nb ni s _=>au2 P res tail e s
section
variable{P:j5}{N:Nat}{M0:eu}{w0:World}{post:Out->Prop}{hints:Nat->Option Hint}
def VC(hm:P.follows .mixedOrders=true):∀(n:Nat)(c:Code)(l d nb ni:Nat)(s:St)(dec:Bj)(k:Ex->Nat->Nat->St->Bj->Tr)(τ:Env)(bk:List (List aQ->Prop)),
  vc P post (bb3 P N hints n c l d nb ni s dec k) τ bk->τ.length=ni->jn τ dec->d<=bk.length ->
  ∀ρ a w(Q:iN),Sat M0 w0 N s τ ρ a w->bM7 post M0 w0 Q->yA P post M0 w0->ZR P N M0 w0 post d τ bk k (Exit.then ((xB n c).wp P Q) Q)->c.wp P Q a w
 | 0,.seq x y,l,d,nb,ni,s,dec,k,τ,bk,h,hn,hd,hb,ρ,a,w,Q,hs,hp,ho,hk=>by
   refine bU (xe hm x l d nb ni s dec k τ bk h hn hd hb ρ a w _ hs ?_ ho hk);intro c v a w h1 h2 h3 h4;exact hp c v a w h1 h2 h3 h4
 | n+1,.seq x y,l,d,nb,ni,s,dec,k,τ,bk,h,hn,hd,hb,ρ,a,w,Q,hs,hp,ho,hk=>by
   refine bU (xe hm x l d nb ni s dec _ τ bk h hn hd hb ρ a w _ hs ?_ ho ?_)
   .intro c v a w h1 h2 h3 h4;exact hp c v a w h1 h2 h3 h4
   .intro ex nb' s' dec' m bk' ρ' a' w' hbk hb' hv hd' hs';cases ex with
    | normal=>
      refine VC hm n y _ d nb' _ s' dec' k (τ++m) bk' hv rfl hd' hb' ρ' a' w' Q hs' hp ho ?_;intro ex2 nb2 s2 dec2 m2 bk2 ρ2 a2 w2 hbk2 hb2 hv2 hd2 oz;rw[dy]at hv2 hd2 oz;exact hk ex2 nb2 s2 dec2 (m++m2) bk2 ρ2 a2 w2 (hbk2.trans hbk) hb2 hv2 hd2 oz
    | exit id=>exact hk (.exit id) nb' s' dec' m bk' ρ' a' w' hbk hb' hv hd' hs'
    | ret=>exact hk .ret nb' s' dec' m bk' ρ' a' w' hbk hb' hv hd' hs'
 | n,.skip,l,d,nb,ni,s,dec,k,τ,bk,h,_,_,_,_,_,_,_,_,_,_,_=>by cases n<;>exact(h:False).elim
 | n,.region ..,l,d,nb,ni,s,dec,k,τ,bk,h,_,_,_,_,_,_,_,_,_,_,_=>by cases n<;>exact(h:False).elim
 | n,.cond ..,l,d,nb,ni,s,dec,k,τ,bk,h,_,_,_,_,_,_,_,_,_,_,_=>by cases n<;>exact(h:False).elim
 | n,.block ..,l,d,nb,ni,s,dec,k,τ,bk,h,_,_,_,_,_,_,_,_,_,_,_=>by cases n<;>exact(h:False).elim
 | n,.loop ..,l,d,nb,ni,s,dec,k,τ,bk,h,_,_,_,_,_,_,_,_,_,_,_=>by cases n<;>exact(h:False).elim
 | n,.exit ..,l,d,nb,ni,s,dec,k,τ,bk,h,_,_,_,_,_,_,_,_,_,_,_=>by cases n<;>exact(h:False).elim
 | n,.ret,l,d,nb,ni,s,dec,k,τ,bk,h,_,_,_,_,_,_,_,_,_,_,_=>by cases n<;>exact(h:False).elim
 | n,.scope ..,l,d,nb,ni,s,dec,k,τ,bk,h,_,_,_,_,_,_,_,_,_,_,_=>by cases n<;>exact(h:False).elim
 | n,.goto ..,l,d,nb,ni,s,dec,k,τ,bk,h,_,_,_,_,_,_,_,_,_,_,_=>by cases n<;>exact(h:False).elim
 | n,.rangeFunc ..,l,d,nb,ni,s,dec,k,τ,bk,h,_,_,_,_,_,_,_,_,_,_,_=>by cases n<;>exact(h:False).elim
end
section
variable{P:j5}
theorem EZ(f:Nat->Arg->SV)(t:Nat):∀(l:List (Nat×Arg))(d:Nat)(x:SV),look (l.mapIdx fun i p=>(p.1,f (d+i) p.2)) t=some x->∃i p,l[i]?=some p/\p.1=t/\x=f (d+i) p.2
 | [],d,x,h=>by simp[look]at h
 | p::l,d,x,h=>by
   rw[List.mapIdx_cons]at h;simp only[look,cV]at h;split at h
   .rename_i e;simp only[aZ]at h;exact⟨0,p,rfl,e,by simpa using h.symm⟩
   .have e:(l.mapIdx fun i p=>(p.1,f (d+(i+1)) p.2))=l.mapIdx fun i p=>(p.1,f (d+1+i) p.2):=by
     congr 1;funext i p;rw[show d+(i+1)=d+1+i by omega]
    rw[e]at h;obtain⟨i,q,h1,h2,h3⟩:=EZ f t l (d+1) x h;exact⟨i+1,q,by simpa using h1,h2,by rw[h3,show d+1+i=d+(i+1) by omega]⟩
def at4{N:Nat}{ins:List (Nat×Arg)}{xs:List In}(hin:az In.Is (ins.map (·.2)) xs){M:c6}{w:World}{a:Act}(hM:bf M w)(hsz:a.tmps.size=N)(hdf:a.defers=[])
  (hv:cC M w (xs.map In.ty) (ins.map fun p=>a.tmps.getD p.1 undef)):Sat ⟨M,⟨0,undef,#[]⟩⟩ w N (stA ins) (xs.map In.env) (fun _=>⟨0,undef,#[]⟩) a w:=by
 refine⟨⟨rfl,rfl,rfl,ah _,fun _ _ _=>rfl,fun x hx=>⟨(hM.2 x hx).1,xq,(hM.2 x hx).2⟩⟩,hsz,hdf,fun t=>?_,(by intro b x hb;cases hb),(by intro b b' x x' k hb;cases hb),(by intro b x k hb;cases hb),fun k hk ho=>ho.elim (fun h=>nX.2 h (hM.1 k hk)) xq,(by intro b E sz cid hb;cases hb)⟩;show iu _ _ _ _ _ ((look (ins.mapIdx fun i p=>(p.1,lF i p.2)) t).getD .junk) _;cases hl:look (ins.mapIdx fun i p=>(p.1,lF i p.2)) t with
 | none=>exact trivial
 | some x=>
   obtain⟨i,p,h1,rfl,rfl⟩:=EZ lF t ins 0 x (by simpa only[bW]using hl);rw[bW];obtain⟨y,hy,hix⟩:=hin.get i p.2 (by rw[dR,h1];rfl);obtain⟨ty,hty,hrep⟩:=hv.get i _ (by rw[dR,h1];rfl);rw[dR,hy]at hty;simp only[cZ,aZ]at hty;subst hty;refine uA (by rw[dR,hy];rfl) hix (aQ.hU ?_ hrep);intro k o hk ho _;refine⟨fun hm=>?_,ho⟩;rcases hm with hm | ⟨b,x,hb,_⟩
   .exact hk hm
   .cases hb
def bh3{N:Nat}{M:c6}{w w':World}{s:St}{τ:Env}{ρ:Nat->Gh}{a:Act}{res:List ResultVar}{tail:Bool}{out:Out}{e:Ex}{bk:List (List aQ->Prop)}{Q:iN}
  (h:vc P (fun o=>bD o out) (au2 P res tail e s) τ bk) (hs:Sat ⟨M,⟨0,undef,#[]⟩⟩ w N s τ ρ a w')
  (hR:∀rs us,out=.ret rs->bi6 tail e=true->Below w.heap.size w w'->a.tmps.size=N->a.defers=[]->(res.mapM (iA a.tmps)).run P w'=.ok us w'->cC M w' rs us->Q (rY e) a w'):Q (rY e) a w':=by
 unfold au2 at h;split at h
 .rename_i hex;split at h
  .rename_i vs' l hq;obtain⟨us,hr,hrep⟩:=pv hs hq (rX hs _);cases out with
   | ret rs=>exact hR rs us rfl hex hs.below.below hs.sz hs.df hr (cC.sub h hrep)
   | retr _ _=>exact h.elim
   | DH _ _ _=>exact h.elim
   | pan _=>exact h.elim
  .exact h.elim
 .exact h.elim
def Ux{c c':Code}{n:Nat}{ins:List (Nat×Arg)}{xs:List In}{N:Nat}{hints:Nat->Option Hint}{res:List ResultVar}{tail:Bool}{out:Out}(hm:P.follows .mixedOrders=true)(hin:az In.Is (ins.map (·.2)) xs)
  (h:vc P (fun o=>bD o out) (aj P N hints c' ins res (some n) tail) (xs.map In.env) []) (hc:c'=c) {M:c6} {w:World} {a:Act} {Q:iN} (hM:bf M w) (hsz:a.tmps.size=N) (hdf:a.defers=[])
  (hv:cC M w (xs.map In.ty) (ins.map fun p=>a.tmps.getD p.1 undef))
  (hR:∀e a' w' rs us,out=.ret rs->bi6 tail e=true->Below w.heap.size w w'->a'.tmps.size=N->a'.defers=[]->(res.mapM (iA a'.tmps)).run P w'=.ok us w'->cC M w' rs us->Exit.then ((xB n c).wp P Q) Q (rY e) a' w')
  (hP:∀c v a' w',out=.pan c->a'.defers=[]->Below w.heap.size w w'->c.rep M w' v->Q (.panic [{ v,recovered:=false }]) a' w'):c.wp P Q a w:=by
 subst hc;have hil:xs.length=ins.length:=by have:=hin.length;simpa using this.symm
 refine VC (M0:=⟨M,⟨0,undef,#[]⟩⟩) (w0:=w) hm n c' 0 0 0 ins.length _ [] _ (xs.map In.env) [] h (by simpa using hil) (by intro x hx;cases hx) (ah _) (fun _=>⟨0,undef,#[]⟩) a w _ (at4 hin hM hsz hdf hv) ?_ yA.no ?_
 .intro c v a w' hp hr hb hd;cases out with
  | pan d=>have hp:c=d:=hp;subst hp;exact hP c v a w' rfl hd hb.below hr
  | ret _=>exact hp.elim
  | retr _ _=>exact hp.elim
  | DH _ _ _=>exact hp.elim
 .intro ex nb s dec m bk' ρ a' w' _ _ hv2 _ hs;exact bh3 hv2 hs fun rs us h1 h2 h3 h4 h5 h6 h7=>hR ex a' w' rs us h1 h2 h3 h4 h5 h6 h7
theorem bA{w:World}{tmps:iS}:∀{outs:c7}{us:j0},((outs.map ResultVar.tmp).mapM (iA tmps)).run P w=.ok us w->us=outs.map fun t=>tmps.getD t undef
 | [],us,h=>by
   simp only[nV,QP,gq,Result.ok.injEq]at h;exact h.1.symm
 | t::ts,us,h=>by
   have key:∀ts:List Nat,((ts.map ResultVar.tmp).mapM (iA tmps)).run P w=.ok (ts.map fun t=>tmps.getD t undef) w:=by
    intro ts
    induction ts with
    | nil=>simp only[nV,QP,gq]
    | cons t ts ih=>simp only[fj,BR,iA,gC,gq,js,ih]
   rw[key]at h;simp only[Result.ok.injEq,cu]at h;exact h.symm
end
open Go.RowKit (Below)
def YM(ins:List (Nat×Arg))(t0:Nat)(sv:SV)(bx:Bx):St:=⟨(ins.mapIdx fun i p=>(p.1,lF i p.2))++[(t0,sv)],[(0,bx)],[]⟩
section
variable{P:j5}
def ac6{N:Nat}{ins:List (Nat×Arg)}{xs:List In}{t0:Nat}{sv:SV}{bx:Bx}{gh:Gh}{y:aQ}(hin:az In.Is (ins.map (·.2)) xs){M:c6}{w:World}{a:Act}
  (hM:bf (fun k=>M k\/gh.val.ownBlock=some k) w) (hMd:∀k,M k->gh.val.ownBlock≠some k) (hsz:a.tmps.size=N) (hdf:a.defers=[])
  (hv:cC (fun k=>M k\/gh.val.ownBlock=some k) w (xs.map In.ty) (ins.map fun p=>a.tmps.getD p.1 undef))
  (hown:own (fun _=>gh) 0 bx=gh.val.ownBlock)
  (hsv:iu (fun b=>((YM ins t0 sv bx).b b).isSome) (xs.map In.env++[y]) (fun _=>gh) (fun k=>M k\/gh.val.ownBlock=some k) w sv (a.tmps.getD t0 undef))
  (hbx:ow 0 (fun b=>((YM ins t0 sv bx).b b).isSome) (xs.map In.env++[y]) (fun _=>gh) (fun k=>M k\/gh.val.ownBlock=some k) w 0 bx)
  (holt:∀k,gh.val.ownBlock=some k->k<w.heap.size):Sat ⟨M,gh⟩ w N (YM ins t0 sv bx) (xs.map In.env++[y]) (fun _=>gh) a w:=by
 have hil:xs.length=ins.length:=by have:=hin.length;simpa using this.symm
 have hb0:∀b x,(YM ins t0 sv bx).b b=some x->b=0/\x=bx:=by
  intro b x h;simp only[YM,St.b,look]at h;split at h
  .rename_i e;simp only[aZ]at h;exact⟨e.symm,h.symm⟩
  .cases h
 have hb00:(YM ins t0 sv bx).b 0=some bx:=by simp[YM,St.b,look]
 have hMs:Ms ⟨M,gh⟩ (fun _=>gh) (YM ins t0 sv bx)=fun k=>M k\/gh.val.ownBlock=some k:=by
  funext k
  apply propext
  constructor
  .rintro(hk | ⟨b,x,h1,_,h3⟩)
   .exact .inl hk
   .obtain⟨rfl,rfl⟩:=hb0 b x h1;rw[hown]at h3;exact .inr h3
  .rintro(hk | hk)
   .exact .inl hk
   .exact .inr ⟨0,bx,hb00,by simp[YM,St.s],by rw[hown];exact hk⟩
 refine⟨⟨rfl,rfl,rfl,ah _,fun _ _ _=>rfl,fun x hx=>⟨fun h=>(hM.2 x hx).1 (.inl h),fun h=>(hM.2 x hx).1 (.inr h),(hM.2 x hx).2⟩⟩,hsz,hdf,fun t=>?_,fun b x h=>?_,fun b b' x x' k h1 h2 _ _=>?_,fun b x k h1 h2=>?_,fun k hk ho=>?_,fun b E sz cid h=>?_⟩
 .rw[hMs];show iu _ _ _ _ _ ((look ((ins.mapIdx fun i p=>(p.1,lF i p.2))++[(t0,sv)]) t).getD .junk) _;rw[aX9];cases hl:look (ins.mapIdx fun i p=>(p.1,lF i p.2)) t with
  | none=>
    simp only[Option.none_or,look];split
    .rename_i e;subst e;exact hsv
    .exact trivial
  | some x=>
    simp only[Option.some_or,gH];obtain⟨i,p,h1,rfl,rfl⟩:=EZ lF t ins 0 x (by simpa only[bW]using hl);rw[bW];obtain⟨z,hy,hix⟩:=hin.get i p.2 (by rw[dR,h1];rfl);obtain⟨ty,hty,hrep⟩:=hv.get i _ (by rw[dR,h1];rfl);rw[dR,hy]at hty;simp only[cZ,aZ]at hty;subst hty;have hi:i<xs.length:=(cL.1 hy).1;exact uA (by rw[ek (by simpa using hi),dR,hy];rfl) hix hrep
 .rw[hMs];obtain⟨rfl,rfl⟩:=hb0 b x h;exact hbx
 .rw[(hb0 b x h1).1,(hb0 b' x' h2).1]
 .obtain⟨rfl,rfl⟩:=hb0 b x h1;rw[hown]at h2;exact⟨.inr h2,holt k h2⟩
 .rcases ho with ho | ho
  .exact nX.2 ho (hM.1 k (.inl hk))
  .exact hMd k hk ho
 .rfl
def ac4(P:j5)(tr E sz:Nat)(res:List ResultVar)(e:Ex)(s:St):Tr:=match e with
 | .normal=>match s.t tr with
   | .w (.one (.r b))=>match s.b b with
     | some (.row E' sz' cid)=>match(Bc P s res).run s with
       | some (vs,l)=>if E'=E/\sz'=sz/\s.s b=false/\l.contains b=false then .retr vs cid else .fail 1020
       | none=>.fail 1008
     | _=>.fail 1021
   | _=>.fail 1022
 | _=>.fail 1023
def pJ(P:j5)(N:Nat)(hints:Nat->Option Hint)(c:Code)(ins:List (Nat×Arg))(t0 E sz tr:Nat)(res:List ResultVar):Tr:=
 exec P N hints c 0 0 1 (ins.length+1) (YM ins t0 (.w (.one (.r 0))) (.row E sz ins.length)) [] fun e nb ni s _=>ac4 P tr E sz res e s
def rb(P:j5)(T n:Nat)(res:List ResultVar)(e:Ex)(s:St):Tr:=match e with
 | .normal=>match(Bc P s res).run s with
   | some (vs,l)=>br4 s T n vs l
   | none=>.fail 1008
 | _=>.fail 1023
def aB8{W:Code->(Exit->Act->World->Prop)->Act->World->Prop}(R:jN P W){c:Code}{ins:List (Nat×Arg)}{xs:List In}{N t0 T n:Nat}{hints:Nat->Option Hint}{cs cs':List aC}{rs:List aQ}{K:Ex->Nat->Nat->St->Bj->Tr}(hm:P.follows .mixedOrders=true)(hin:az In.Is (ins.map (·.2)) xs)
  (h:vc P (fun o=>o=.retr rs [cs']) (exec P N hints c 0 0 1 (ins.length+1) (YM ins t0 (.w (.one (.rp 0 n (.k (.int .i64 0)) 0))) (.part T n ins.length)) [] K) (xs.map In.env++[.rows [cs]]) []) {M:c6} {w:World} {a:Act} {Q:iN} {g:Nat} {cur:iS}
  (hM:bf M w) (hMg:M g) (hsz:a.tmps.size=N) (hdf:a.defers=[]) (hcn:cs.length=n)
  (hv:cC M w (xs.map In.ty) (ins.map fun p=>a.tmps.getD p.1 undef)) (ht0:a.tmps.getD t0 undef=.pointer (some ⟨g,0,none⟩)) (hg:w.heap[g]?=some (.cells cur T (0,0))) (hrep:an M w cs cur.toList)
  (hend:∀ex nb ni s dec τ bk ρ a' w',vc P (fun o=>o=.retr rs [cs']) (K ex nb ni s dec) τ bk->Sat (eu.mk (fun k=>M k/\k≠g) ⟨0,.slice (some ⟨g,0,none⟩) 1 1,cur⟩) w N s τ ρ a' w'->Q (rY ex) a' w'):W c Q a w:=by
 have hil:xs.length=ins.length:=by have:=hin.length;simpa using this.symm
 have hcl:cur.size=n:=by have:=hrep.length;simp at this;omega
 obtain⟨gh,hgh⟩:∃gh:Gh,(⟨0,.slice (some ⟨g,0,none⟩) 1 1,cur⟩:Gh)=gh:=⟨_,rfl⟩
 rw[hgh]at hend;have hval:gh.val=.slice (some ⟨g,0,none⟩) 1 1:=by rw[<-hgh]
 have hcur:gh.cur=cur:=by rw[<-hgh]
 have hob:∀k,gh.val.ownBlock=some k↔k=g:=fun k=>by rw[hval];simp[Value.ownBlock,pH]
 have hMM:(fun k=>(M k/\k≠g)\/gh.val.ownBlock=some k)=M:=by
  funext k
  apply propext;rw[hob]
  constructor
  .rintro(h | rfl)
   .exact h.1
   .exact hMg
  .intro h;by_cases e:k=g
   .exact .inr e
   .exact .inl ⟨h,e⟩
 have hglt:g<w.heap.size:=(cJ.1 hg).1
 refine tv R (M0:=eu.mk (fun k=>M k/\k≠g) gh) (w0:=w) hm c 0 0 1 (ins.length+1) _ [] _ (xs.map In.env++[.rows [cs]]) [] h (by simp[hil]) (by intro x hx;cases hx) (ah _) (fun _=>gh) a w _
  (ac6 (gh:=gh) (t0:=t0) (sv:=.w (.one (.rp 0 n (.k (.int .i64 0)) 0))) (bx:=.part T n ins.length) (y:=.rows [cs]) hin (by rw[hMM];exact hM) (fun k hk e=>hk.2 ((hob k).1 e)) hsz hdf (by rw[hMM];exact hv) rfl ?_ ?_ (fun k hk=>by rw[(hob k).1 hk];exact hglt)) ?_ yA.noR fun ex nb s dec m bk' ρ a' w' _ _ hv2 _ hs=>hend ex nb _ s dec _ bk' ρ a' w' hv2 hs
 .exact⟨by simp[YM,St.b,look],g,0,1,1,.i64,0,hval,rfl,O,by rw[ht0];simp⟩
 .rw[hMM];refine⟨[cs],cur.toList,?_,⟨by simp[hcl],.inr ⟨g,0,1,cur,hval,hg,ah _,by simp[maxLen],by simp[hcl],?_⟩⟩,by intro t ht;rw[da.1 ht];exact hcn,by simpa using hrep,by rw[hval];rfl,?_⟩
  .rw[fi (by simp[hil]),aL,hil,fE];rfl
  .rw[show([cs]:List (List aC)).length*n=cur.toList.length by simp[hcl],gd]
   first | exact(dL aT).symm | exact dL aT
  .intro g2 off2 len2 cap2 hv cur2 hg2;rw[hval]at hv;simp only[jB,aZ,gm,cu]at hv;obtain⟨⟨rfl,rfl⟩,rfl,rfl⟩:=hv;rw[hg]at hg2;simp only[aZ,jj,cu]at hg2;subst hg2;rw[hcur];exact⟨rfl,fun _ _=>rfl⟩
 .intro c v a w' hp;cases hp
end
open Go.RowKit (Below)
section
variable{P:j5}{N:Nat}{M0:eu}{w0:World}{post:Out->Prop}{hints:Nat->Option Hint}
end
section
variable{P:j5}
end
open Go Go.RowKit
def sx:Code->Bool
 | .region _ ops _=>ops.all fun o=>match o.op with | .defer _=>false | _=>true
 | .seq x y=>sx x&&sx y
 | .cond _ x y=>sx x&&sx y
 | .block _ x=>sx x
 | .loop x=>sx x
 | _=>true
def InW(P:j5)(l n:Nat)(c:Code)(Q:iN)(a:Act)(w:World):Prop:=sx c=true->¬LetsOut Q->c.wpIn (Fence.wide.inRound l) n P Q a w
section
variable{P:j5}{l n:Nat}{Q:iN}{ops:j7}
def bh4{o:Oper}{a:Act}{w:World}{K:j4}(hd:∀c,o.op≠.defer c)(h:o.wp P a w K Q):o.wpIn (Fence.wide.inRound l) n P a w K Q:=by
 refine⟨fun _ _=>trivial,?_⟩;rw[Oper.semAt_eq _ _ _ hd];unfold Oper.wp at h;generalize (execOp a.eval o).run P w=r at h
 match r,h with
 | .ok (.value v) w',h=>exact h
 | .ok .skip w',h=>exact h
 | .ok (.defer d) w',h=>exact h
 | .ok (.enter f args) w',h=>exact⟨fun e=>absurd e (by simp[Fence.wide,Fence.inRound]),(bC (n:=n-1)).2 h⟩
 | .ok (.row row args) w',h=>exact⟨fun e=>absurd e (by simp[Fence.wide,Fence.inRound]),fun c cs _=>let ⟨v,w',r,s⟩:=h c cs;⟨v,w',r,stepsIn_wide.2 s⟩⟩
 | .halt (.panic v) w',h=>exact h
def ap6{id:Nat}{draw:Bool}(h:sx (.region id ops draw)=true){i:Nat}{o:Oper}(ho:ops[i]?=some o):∀c,o.op≠.defer c:=by
 intro c e;have h:(ops.all fun o=>match o.op with | .defer _=>false | _=>true)=true:=h;rw[Array.all_eq_true]at h;obtain⟨hi,he⟩:=cJ.1 ho;have:=h i hi;rw[he,e]at this;cases this
def aq6(hc:∀(i:Nat)(o:Oper),ops[i]?=some o->∀c,o.op≠.defer c)(hq:¬LetsOut Q){i:Nat}{a:Act}{w:World}{K:j4}(h:wpOp P ops Q i K a w):wpOpIn (Fence.wide.inRound l) n P ops Q i K a w:=by
 unfold wpOp at h;unfold wpOpIn;cases ho:ops[i]? with
 | none=>rw[ho]at h;exact h
 | some o=>
   rw[ho]at h;show if _ then _ else _
   replace h:if Region.wanted o (yielded ops a.tmps)then o.wp P a w K Q\/(o.asks P a w/\LetsOut Q)else K (a.put o.dst undef) w:=h
   split at h
   .rename_i hw;rw[aF hw];exact bh4 (hc i o ho) (h.resolve_right fun h=>hq h.2)
   .rename_i hw;rw[aG hw];exact⟨fun _ _=>trivial,h⟩
theorem VD(hc:∀(i:Nat)(o:Oper),ops[i]?=some o->∀c,o.op≠.defer c)(hq:¬LetsOut Q):∀(r:c7)(a:Act)(w:World),wpOps P ops Q r a w->wpOpsIn (Fence.wide.inRound l) n P ops Q r a w
 | [],_,_,h=>h
 | i::r,a,w,h=>by
   rw[wpOps_cons]at h;rw[wpOpsIn_cons];exact aq6 hc hq (xD (fun a w h=>VD hc hq r a w h) h)
theorem VX{md:Region.Mode}(hc:∀(i:Nat)(o:Oper),ops[i]?=some o->∀c,o.op≠.defer c)(hq:¬LetsOut Q):∀(fuel:Nat)(listed:Array Bool)(a:Act)(w:World),wpAny P md ops Q fuel listed a w->wpAnyIn (Fence.wide.inRound l) n P md ops Q fuel listed a w
 | 0,_,_,_,h=>h
 | fuel+1,listed,a,w,h=>⟨h.1,fun i hi=>aq6 hc hq (xD (fun a w h=>VX hc hq fuel _ a w h) (h.2 i hi))⟩
def Pv{K:j4}(h:¬LetsOut Q):¬LetsOut (Exit.then K Q):=h
def jN.inRound:jN P (InW P l n) where
 skip h _ _:=qR h
 exit h _ _:=yQ h
 ret h _ _:=wpIn_ret h
 any hm _ _ _ _ _ h hc hq:=wpIn_region_any hm (VX (fun i o=>ap6 hc) hq _ _ _ _ h)
 ops h hc hq:=wpIn_region (VD (fun i o=>ap6 hc) hq _ _ _ h)
 seq {x y Q a w} h hc hq:=by
  have hc:(sx x&&sx y)=true:=hc;rw[bR]at hc;refine cn (wpIn_mono (h hc.1 (Pv hq)) ?_);intro e a' w' he;cases e with
  | normal=>exact(show InW P l n y Q a' w' from he) hc.2 hq
  | _=>exact he
 cond {c x y t Q a w} hv h hc hq:=by
  have hc:(sx x&&sx y)=true:=hc;rw[bR]at hc;refine qK hv (h ?_ hq);cases t
  .exact hc.2
  .exact hc.1
 block h hc hq:=pT (h hc hq)
 loop I m h0 h hc hq:=rh I m h0 fun n' a' w' hI=>h n' a' w' hI hc (Pv hq)
end
def vB(P:j5)(N:Nat)(hints:Nat->Option Hint)(c:Code)(ins:List (Nat×Arg))(t0 T n want:Nat)(res:List ResultVar):Tr:=
 exec P N hints c 0 0 1 (ins.length+1) (YM ins t0 (.w (.one (.rp 0 n (.k (.int .i64 0)) 0))) (.part T n ins.length)) [] fun e nb ni s _=>match e with
  | .normal=>if want=0 then rb P T n res .normal s else .fail 1034
  | .exit id=>if want=id+1/\want<99 then rb P T n res .normal s else .fail 1033
  | .ret=>if want=99 then rb P T n res .normal s else .fail 1035
section
variable{P:j5}
def aK3{W:Code->(Exit->Act->World->Prop)->Act->World->Prop}(R:jN P W){c c':Code}{ins:List (Nat×Arg)}{xs:List In}{N t0 T n want:Nat}{hints:Nat->Option Hint}{res:List ResultVar}{cs cs':List aC}{rs:List aQ}(hm:P.follows .mixedOrders=true)(hin:az In.Is (ins.map (·.2)) xs)
  (h:vc P (fun o=>o=.retr rs [cs']) (vB P N hints c' ins t0 T n want res) (xs.map In.env++[.rows [cs]]) []) (hc:c'=c) {M:c6} {w:World} {a:Act} {Q:iN} {g:Nat} {cur:iS}
  (hM:bf M w) (hMg:M g) (hsz:a.tmps.size=N) (hdf:a.defers=[]) (hcn:cs.length=n)
  (hv:cC M w (xs.map In.ty) (ins.map fun p=>a.tmps.getD p.1 undef)) (ht0:a.tmps.getD t0 undef=.pointer (some ⟨g,0,none⟩)) (hg:w.heap[g]?=some (.cells cur T (0,0))) (hrep:an M w cs cur.toList)
  (hR:∀e a' w' us cur',(e=.normal->want=0)->(∀id,e=.exit id->want=id+1/\want<99)->(e=.ret->want=99)->w.grownBy w' (some g)->a'.tmps.size=N->a'.defers=[]->(res.mapM (iA a'.tmps)).run P w'=.ok us w'->w'.heap[g]?=some (.cells cur' T (0,0))->cC M w' rs us->an M w' cs' cur'.toList->Q (rY e) a' w'):W c Q a w:=by
 subst hc;have hcl:cur.size=n:=by have:=hrep.length;simp at this;omega
 refine aB8 R hm hin h hM hMg hsz hdf hcn hv ht0 hg hrep (fun ex nb ni s dec τ bk ρ a' w' hv2 hs=>?_)
 have key:vc P (fun o=>o=.retr rs [cs']) (rb P T n res .normal s) τ bk->(ex=.normal->want=0)->(∀id,ex=.exit id->want=id+1/\want<99)->(ex=.ret->want=99)->Q (rY ex) a' w':=fun hv2 h1 h2 h3=>by
  obtain⟨us,cur',hr,k1,k2,k3,k4,_,k6,_⟩:=Fs (g:=g) (off:=0) (len:=1) (cap:=1) (E:=T) (sz:=n) (res:=res) rfl rfl hv2 hs;exact hR ex a' w' us cur' h1 h2 h3 k2 hs.sz hs.df hr k3 k1 (by simpa[dL,k4,hcl]using k6)
 cases ex with
 | ret=>
   replace hv2:vc P (fun o=>o=.retr rs [cs']) (if want=99 then rb P T n res .normal s else .fail 1035) τ bk:=hv2;split at hv2
   .exact key hv2 (fun h=>by cases h) (fun _ h=>by cases h) (fun _=>‹_›)
   .exact hv2.elim
 | normal=>
   replace hv2:vc P (fun o=>o=.retr rs [cs']) (if want=0 then rb P T n res .normal s else .fail 1034) τ bk:=hv2;split at hv2
   .exact key hv2 (fun _=>‹_›) (fun _ h=>by cases h) (fun h=>by cases h)
   .exact hv2.elim
 | exit id=>
   replace hv2:vc P (fun o=>o=.retr rs [cs']) (if want=id+1/\want<99 then rb P T n res .normal s else .fail 1033) τ bk:=hv2;split at hv2
   .rename_i e;exact key hv2 (fun h=>by cases h) (fun _ h=>by cases h;exact e) (fun h=>by cases h)
   .exact hv2.elim
def bx5:Nat->Exit
 | 0=>.normal
 | w+1=>.exit w
end
def wrR(ops:j7)(t:Nat):Bool:=ops.any fun o=>o.dst==some t
def wr:Code->Nat->Bool
 | .region _ ops _,t=>wrR ops t
 | .seq x y,t=>wr x t || wr y t
 | .cond _ x y,t=>wr x t || wr y t
 | .block _ x,t=>wr x t
 | .loop x,t=>wr x t
 | .skip,_=>false
 | .exit _,_=>false
 | .ret,_=>false
 | _,_=>true
def Ag(f:c9)(a a':Act):Prop:=∀t,f t=false->a'.tmps.getD t undef=a.tmps.getD t undef
def Ag.refl(f:c9)(a:Act):Ag f a a:=fun _ _=>rfl
def Ag.trans{f g h:c9}{a b c:Act}(x:Ag f a b)(y:Ag g b c)(hf:∀t,h t=false->f t=false/\g t=false):Ag h a c:=fun t ht=>(y t (hf t ht).2).trans (x t (hf t ht).1)
def Ag.mono{f g:c9}{a b:Act}(x:Ag f a b)(h:∀t,g t=false->f t=false):Ag g a b:=fun t ht=>x t (h t ht)
def Wf(W:Code->(Exit->Act->World->Prop)->Act->World->Prop)(c:Code)(Q:iN)(a:Act)(w:World):Prop:=
 ∀Q':Exit->Act->World->Prop,(LetsOut Q->LetsOut Q')->(∀e a' w',Ag (wr c) a a'->Q e a' w'->Q' e a' w')->W c Q' a w
section
variable{P:j5}{ops:j7}{Q Q':iN}{a0:Act}
def yd{i:Nat}{o:Oper}(ho:ops[i]?=some o){a:Act}(h:Ag (wrR ops) a0 a)(v:Value):Ag (wrR ops) a0 (a.put o.dst v):=by
 intro t ht;rw[<-h t ht];cases hd:o.dst with
 | none=>rfl
 | some d=>
   have hne:d≠t:=by
    rintro rfl;have ht:(ops.any fun o=>o.dst==some d)=false:=ht;rw[Array.any_eq_false]at ht;obtain⟨hi,he⟩:=cJ.1 ho;have:=ht i hi;rw[he,hd]at this;simp at this
   show(a.tmps.setIfInBounds d v).getD t undef=_;rw[jq,jq,ap9 hne]
def aj4(hL:LetsOut Q->LetsOut Q')(hQ:∀e a' w',Ag (wrR ops) a0 a'->Q e a' w'->Q' e a' w'){i:Nat}{K K':j4}(hK:∀a w,Ag (wrR ops) a0 a->K a w->K' a w){a:Act}{w:World}(ha:Ag (wrR ops) a0 a)(h:wpOp P ops Q i K a w):wpOp P ops Q' i K' a w:=by
 unfold wpOp at h|-;cases ho:ops[i]? with
 | none=>rw[ho]at h;exact hK _ _ ha h
 | some o=>
   rw[ho]at h;replace h:if Region.wanted o (yielded ops a.tmps)then o.wp P a w K Q\/(o.asks P a w/\LetsOut Q)else K (a.put o.dst undef) w:=h
   show if Region.wanted o (yielded ops a.tmps)then o.wp P a w K' Q'\/(o.asks P a w/\LetsOut Q')else K' (a.put o.dst undef) w
   split at h
   .rename_i hw;rw[aF hw];rcases h with h | ⟨h,hl⟩
    .left
     unfold Oper.wp at h|-;generalize (execOp a.eval o).run P w=r at h|-
     match r,h with
     | .ok (.value v) w',h=>exact hK _ _ (yd ho ha v) h
     | .ok .skip w',h=>exact hK _ _ (yd ho ha _) h
     | .ok (.defer d) w',h=>exact hK _ _ (yd ho (a:={ a with defers:=d::a.defers }) ha _) h
     | .ok (.enter f args) w',h=>
       refine Calls.mono h ?_;intro e w'';cases e with
       | returned v=>exact fun h=>hK _ _ (yd ho ha v) h
       | panicked c=>exact fun h=>hQ _ _ _ ha h
       | outgrown=>exact fun h=>hL h
     | .ok (.row row args) w',h=>exact fun c cs=>let ⟨v,w',r,s⟩:=h c cs;⟨v,w',hK _ _ (yd ho ha v) r,s⟩
     | .halt (.panic v) w',h=>exact hQ _ _ _ ha h
    .exact .inr ⟨h,hL hl⟩
   .rename_i hw;rw[aG hw];exact hK _ _ (yd ho ha _) h
theorem Wp(hL:LetsOut Q->LetsOut Q')(hQ:∀e a' w',Ag (wrR ops) a0 a'->Q e a' w'->Q' e a' w'):∀(r:c7)(a:Act)(w:World),Ag (wrR ops) a0 a->wpOps P ops Q r a w->wpOps P ops Q' r a w
 | [],_,_,ha,h=>hQ _ _ _ ha h
 | i::r,a,w,ha,h=>by
   rw[wpOps_cons]at h|-;exact aj4 hL hQ (fun a w ha h=>Wp hL hQ r a w ha h) ha h
theorem Vx{md:Region.Mode}(hL:LetsOut Q->LetsOut Q')(hQ:∀e a' w',Ag (wrR ops) a0 a'->Q e a' w'->Q' e a' w'):∀(fuel:Nat)(listed:Array Bool)(a:Act)(w:World),Ag (wrR ops) a0 a->wpAny P md ops Q fuel listed a w->wpAny P md ops Q' fuel listed a w
 | 0,_,_,_,ha,h=>⟨h.1,hQ _ _ _ ha h.2⟩
 | fuel+1,listed,a,w,ha,h=>⟨fun hr=>hQ _ _ _ ha (h.1 hr),fun i hi=>aj4 hL hQ (fun a w ha h=>Vx hL hQ fuel _ a w ha h) ha (h.2 i hi)⟩
end
def jN.yg{P:j5}{W:Code->(Exit->Act->World->Prop)->Act->World->Prop}(R:jN P W):jN P (Wf W) where
 skip h Q' _ hq:=R.skip (hq _ _ _ (Ag.refl _ _) h)
 exit h Q' _ hq:=R.exit (hq _ _ _ (Ag.refl _ _) h)
 ret h Q' _ hq:=R.ret (hq _ _ _ (Ag.refl _ _) h)
 any hm _ _ _ a _ h Q' hl hq:=R.any hm (Vx hl (a0:=a) hq _ _ _ _ (Ag.refl _ _) h)
 ops {id ops Q a w} h Q' hl hq:=R.ops (Wp hl (a0:=a) hq _ _ _ (Ag.refl _ _) h)
 seq {x y Q a w} h Q' hl hq:=by
  refine R.seq (h _ (fun h=>hl h) ?_);intro e a' w' hag he;cases e with
  | normal=>
    refine(show Wf W y Q a' w' from he) Q' hl ?_;intro e a'' w'' hag2 UW
    exact hq e a'' w'' (hag.trans hag2 fun t ht=>by
     have ht:(wr x t || wr y t)=false:=ht;rw[lL]at ht;exact ht) UW
  | _=>
    refine hq _ a' w' (hag.mono fun t ht=>?_) he;have ht:(wr x t || wr y t)=false:=ht;rw[lL]at ht;exact ht.1
 cond {c x y t Q a w} hv h Q' hl hq:=by
  refine R.cond hv (h Q' hl fun e a' w' hag he=>hq e a' w' (hag.mono fun s hs=>?_) he);have hs:(wr x s || wr y s)=false:=hs;rw[lL]at hs;cases t
  .exact hs.2
  .exact hs.1
 block {id x Q a w} h Q' hl hq:=by
  refine R.block (h _ (fun h=>hl h) fun e a' w' hag he=>?_);cases e with
  | exit id'=>
    show if id'=id then Q' .normal a' w' else Q' (.exit id') a' w'
    replace he:if id'=id then Q .normal a' w' else Q (.exit id') a' w':=he
    split at he
    .rename_i e;rw[aF e];exact hq _ _ _ hag he
    .rename_i e;rw[aG e];exact hq _ _ _ hag he
  | _=>exact hq _ _ _ hag he
 loop {c Q a w} I m h0 h Q' hl hq:=by
  refine R.loop (fun n a' w'=>I n a' w'/\Ag (wr c) a a') m ⟨h0,Ag.refl _ _⟩ ?_;rintro n a1 w1 ⟨hI,hag1⟩;refine h n a1 w1 hI _ (fun h=>hl h) ?_;intro e a2 w2 hag2 he;have hag:Ag (wr c) a a2:=hag1.trans hag2 fun t ht=>⟨ht,ht⟩
  cases e with
  | normal=>
    obtain⟨n',hn',hI'⟩:=(show ∃n',n'<n/\I n' a2 w2 from he)
    exact⟨n',hn',hI',hag⟩
  | _=>exact hq _ _ _ hag he
section
variable{P:j5}
def sY{W:Code->(Exit->Act->World->Prop)->Act->World->Prop}(R:jN P W){c c':Code}{ins:List (Nat×Arg)}{xs:List In}{N t0 T n want:Nat}{hints:Nat->Option Hint}{res:List ResultVar}{cs cs':List aC}{rs:List aQ}(hm:P.follows .mixedOrders=true)(hin:az In.Is (ins.map (·.2)) xs)
  (h:vc P (fun o=>o=.retr rs [cs']) (vB P N hints c' ins t0 T n want res) (xs.map In.env++[.rows [cs]]) []) (hc:c'=c) {M:c6} {w:World} {a:Act} {Q:iN} {g:Nat} {cur:iS}
  (hM:bf M w) (hMg:M g) (hsz:a.tmps.size=N) (hdf:a.defers=[]) (hcn:cs.length=n) (hw:want<99)
  (hv:cC M w (xs.map In.ty) (ins.map fun p=>a.tmps.getD p.1 undef)) (ht0:a.tmps.getD t0 undef=.pointer (some ⟨g,0,none⟩)) (hg:w.heap[g]?=some (.cells cur T (0,0))) (hrep:an M w cs cur.toList)
  (hR:∀a' w' us cur',Ag (wr c) a a'->w.grownBy w' (some g)->a'.tmps.size=N->a'.defers=[]->(res.mapM (iA a'.tmps)).run P w'=.ok us w'->w'.heap[g]?=some (.cells cur' T (0,0))->cC M w' rs us->an M w' cs' cur'.toList->Q (bx5 want) a' w'):W c Q a w:=by
 refine aK3 (W:=Wf W) R.yg (Q:=fun e a' w'=>e=bx5 want/\∃us cur',w.grownBy w' (some g)/\a'.tmps.size=N/\a'.defers=[]/\(res.mapM (iA a'.tmps)).run P w'=.ok us w'/\w'.heap[g]?=some (.cells cur' T (0,0))/\cC M w' rs us/\an M w' cs' cur'.toList) hm hin h hc hM hMg hsz hdf hcn hv ht0 hg hrep ?_ Q ?_ ?_
 .intro e a' w' us cur' h1 h2 h3 k1 k2 k3 k4 k5 k6 k7;refine⟨?_,us,cur',k1,k2,k3,k4,k5,k6,k7⟩;cases e with
  | normal=>rw[h1 rfl];rfl
  | exit id=>rw[(h2 id rfl).1];rfl
  | ret=>have:=h3 rfl;omega
 .rintro⟨_,_,he,_⟩;cases want<;>cases he
 .rintro e a' w' hag ⟨rfl,us,cur',k1,k2,k3,k4,k5,k6,k7⟩;exact hR a' w' us cur' hag k1 k2 k3 k4 k5 k6 k7
end
open Go.RowKit (Below)
def Aj(P:j5)(N:Nat)(hints:Nat->Option Hint)(c:Code)(ins:List (Nat×Arg))(t0 E sz:Nat)(res:List ResultVar):Tr:=
 exec P N hints c 0 0 1 (ins.length+1) (YM ins t0 (.w (.one (.r 0))) (.part E sz ins.length)) [] fun e nb ni s _=>rb P E sz res e s
section
variable{P:j5}
def aC4{W:Code->(Exit->Act->World->Prop)->Act->World->Prop}(R:jN P W){c c':Code}{ins:List (Nat×Arg)}{xs:List In}{N t0 E sz:Nat}{hints:Nat->Option Hint}{res:List ResultVar}{ts ts':List (List aC)}{rs:List aQ}(hm:P.follows .mixedOrders=true)(hin:az In.Is (ins.map (·.2)) xs)
  (h:vc P (fun o=>o=.retr rs ts') (Aj P N hints c' ins t0 E sz res) (xs.map In.env++[.rows ts]) []) (hc:c'=c) {M:c6} {w:World} {a:Act} {Q:iN} {g cap:Nat} {cur:iS}
  (hM:bf M w) (hMg:M g) (hsz:a.tmps.size=N) (hdf:a.defers=[]) (hts:∀t∈ts,t.length=sz)
  (hv:cC M w (xs.map In.ty) (ins.map fun p=>a.tmps.getD p.1 undef)) (ht0:a.tmps.getD t0 undef=.slice (some ⟨g,0,none⟩) ts.length cap) (hg:w.heap[g]?=some (.cells cur E (0,0)))
  (hfit:ts.length*sz<=cur.size) (hcap:ts.length<=cap) (hmax:cap<=maxLen) (hrep:an M w ts.flatten (cur.toList.take (ts.length*sz)))
  (hR:∀a' w' us cur',w.grownBy w' (some g)->a'.tmps.size=N->a'.defers=[]->(res.mapM (iA a'.tmps)).run P w'=.ok us w'->w'.heap[g]?=some (.cells cur' E (0,0))->cur'.size=cur.size->(∀j,ts.length*sz<=j->cur'[j]?=cur[j]?)->cC M w' rs us->an M w' ts'.flatten (cur'.toList.take (ts.length*sz))->Q .normal a' w'):W c Q a w:=by
 subst hc;have hil:xs.length=ins.length:=by have:=hin.length;simpa using this.symm
 obtain⟨gh,hgh⟩:∃gh:Gh,(⟨0,.slice (some ⟨g,0,none⟩) ts.length cap,cur⟩:Gh)=gh:=⟨_,rfl⟩
 have hval:gh.val=.slice (some ⟨g,0,none⟩) ts.length cap:=by rw[<-hgh]
 have hcur:gh.cur=cur:=by rw[<-hgh]
 have hob:∀k,gh.val.ownBlock=some k↔k=g:=fun k=>by rw[hval];simp[Value.ownBlock,pH]
 have hMM:(fun k=>(M k/\k≠g)\/gh.val.ownBlock=some k)=M:=by
  funext k
  apply propext;rw[hob]
  constructor
  .rintro(h | rfl)
   .exact h.1
   .exact hMg
  .intro h;by_cases e:k=g
   .exact .inr e
   .exact .inl ⟨h,e⟩
 have hglt:g<w.heap.size:=(cJ.1 hg).1
 refine tv R (M0:=eu.mk (fun k=>M k/\k≠g) gh) (w0:=w) hm c' 0 0 1 (ins.length+1) _ [] _ (xs.map In.env++[.rows ts]) [] h (by simp[hil]) (by intro x hx;cases hx) (ah _) (fun _=>gh) a w _
  (ac6 (gh:=gh) (t0:=t0) (sv:=.w (.one (.r 0))) (bx:=.part E sz ins.length) (y:=.rows ts) hin (by rw[hMM];exact hM) (fun k hk e=>hk.2 ((hob k).1 e)) hsz hdf (by rw[hMM];exact hv) rfl ⟨by simp[YM,St.b,look],by rw[ht0,hval],by rw[ht0];rfl⟩ ?_ (fun k hk=>by rw[(hob k).1 hk];exact hglt)) ?_ yA.noR ?_
 .rw[hMM];refine⟨ts,cur.toList.take (ts.length*sz),?_,⟨?_,.inr ⟨g,0,cap,cur,hval,hg,hcap,hmax,by simpa using hfit,aT⟩⟩,hts,hrep,by rw[hval];rfl,?_⟩
  .rw[fi (by simp[hil]),aL,hil,fE];rfl
  .rw[bh,cK (xs:=cur)];omega
  .intro g2 off2 len2 cap2 hv cur2 hg2;rw[hval]at hv;simp only[jB,aZ,gm,cu]at hv;obtain⟨⟨rfl,rfl⟩,rfl,rfl⟩:=hv;rw[hg]at hg2;simp only[aZ,jj,cu]at hg2;subst hg2;rw[hcur];exact⟨rfl,fun _ _=>rfl⟩
 .intro c v a w' hp;cases hp
 .intro ex nb s dec m bk' ρ a' w' _ _ hv2 _ hs;replace hv2:vc P (fun o=>o=.retr rs ts') (rb P E sz res ex s) (xs.map In.env++[.rows ts]++m) bk':=hv2;cases ex with
  | exit id=>exact hv2.elim
  | ret=>exact hv2.elim
  | normal=>
    obtain⟨us,cur',hr,h1,h2,h3,h4,h5,h6,hgh0⟩:=Fs (gh:=gh) (g:=g) (off:=0) (len:=ts.length) (cap:=cap) (E:=E) (sz:=sz) (res:=res) hval hcur hv2 hs;exact hR a' w' us cur' h2 hs.sz hs.df hr h3 h4 (fun j hj=>h5 j (.inr O)) h1 (by simpa using h6)
def zJ{W:Code->(Exit->Act->World->Prop)->Act->World->Prop}(R:jN P W){c c':Code}{ins:List (Nat×Arg)}{xs:List In}{N t0 E sz:Nat}{hints:Nat->Option Hint}{res:List ResultVar}{ts ts':List (List aC)}{rs:List aQ}(hm:P.follows .mixedOrders=true)(hin:az In.Is (ins.map (·.2)) xs)
  (h:vc P (fun o=>o=.retr rs ts') (Aj P N hints c' ins t0 E sz res) (xs.map In.env++[.rows ts]) []) (hc:c'=c) {M:c6} {w:World} {a:Act} {Q:iN} {g cap:Nat} {cur:iS}
  (hM:bf M w) (hMg:M g) (hsz:a.tmps.size=N) (hdf:a.defers=[]) (hts:∀t∈ts,t.length=sz)
  (hv:cC M w (xs.map In.ty) (ins.map fun p=>a.tmps.getD p.1 undef)) (ht0:a.tmps.getD t0 undef=.slice (some ⟨g,0,none⟩) ts.length cap) (hg:w.heap[g]?=some (.cells cur E (0,0)))
  (hfit:ts.length*sz<=cur.size) (hcap:ts.length<=cap) (hmax:cap<=maxLen) (hrep:an M w ts.flatten (cur.toList.take (ts.length*sz)))
  (hR:∀a' w' us cur',Ag (wr c) a a'->w.grownBy w' (some g)->a'.tmps.size=N->a'.defers=[]->(res.mapM (iA a'.tmps)).run P w'=.ok us w'->w'.heap[g]?=some (.cells cur' E (0,0))->cur'.size=cur.size->(∀j,ts.length*sz<=j->cur'[j]?=cur[j]?)->cC M w' rs us->an M w' ts'.flatten (cur'.toList.take (ts.length*sz))->Q .normal a' w'):W c Q a w:=by
 refine aC4 (W:=Wf W) R.yg (Q:=fun e a' w'=>e=.normal/\∃us cur',w.grownBy w' (some g)/\a'.tmps.size=N/\a'.defers=[]/\(res.mapM (iA a'.tmps)).run P w'=.ok us w'/\w'.heap[g]?=some (.cells cur' E (0,0))/\cur'.size=cur.size/\(∀j,ts.length*sz<=j->cur'[j]?=cur[j]?)/\cC M w' rs us/\an M w' ts'.flatten (cur'.toList.take (ts.length*sz))) hm hin h hc hM hMg hsz hdf hts hv ht0 hg hfit hcap hmax hrep ?_ Q ?_ ?_
 .intro a' w' us cur' k1 k2 k3 k4 k5 k6 k7 k8 k9;exact⟨rfl,us,cur',k1,k2,k3,k4,k5,k6,k7,k8,k9⟩
 .rintro⟨_,_,he,_⟩;cases he
 .rintro e a' w' hag ⟨rfl,us,cur',k1,k2,k3,k4,k5,k6,k7,k8,k9⟩;exact hR a' w' us cur' hag k1 k2 k3 k4 k5 k6 k7 k8 k9
end
end Go.Sy
