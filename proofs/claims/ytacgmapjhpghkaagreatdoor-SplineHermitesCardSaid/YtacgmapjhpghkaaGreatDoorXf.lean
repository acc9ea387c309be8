/- Part. -/
import Derived.Test.YtacgmapjhpghkaaGreatDoorXe
set_option linter.all false
namespace Go.Sy
open Go Go.Proofs Tryz Ord
theorem vy(f:Nat->Rat)(n s:Nat):((List.range n).map f).getD s 0=if s<n then f s else 0:=by
 rw[jC,cU];split
 ·rename_i h;rw[iv h];rfl
 ·rename_i h;rw[gj (by rw[lM];omega)];rfl
theorem wY{p:List Rat}{i:Nat}(h:p.length<=i:=by omega):p.getD i 0=0:=by rw[jC,gj h];rfl
theorem XL(p q:List Rat)(i:Nat):(kq p q).getD i 0=p.getD i 0+q.getD i 0:=by
 rw[kq,lE,vy];split
 ·rfl
 ·rw[wY (p:=p),wY (p:=q)];grind
theorem bj1(p:List Rat)(k:Rat)(i:Nat):(yU p k).getD i 0=p.getD i 0*k:=by
 rw[yU,lE,vy];split
 ·rfl
 ·rw[wY (p:=p)];grind
theorem wc(p:List Rat)(i:Nat):(nX p).getD i 0=p.getD (i+1) 0*(((i:Int)+1:Int):Rat):=by
 rw[nX,lE,vy];split
 ·rfl
 ·rw[wY (p:=p)];grind
theorem NU{p q:List Rat}(h:∀i,p.getD i 0=q.getD i 0)(x:Rat):ev p x=ev q x:=by
 rw[<-pD x p (max p.length q.length) (by omega),<-pD x q (max p.length q.length) (by omega)]
 congr 1
 exact jJ fun i _=>h i
theorem GD{p q:List Rat}(h:∀x,ev p x=ev q x)(i:Nat):p.getD i 0=q.getD i 0:=by
 have:trim p=trim q:=Gp (im _) (im _) fun x=>by rw[lj,lj,h]
 rw[<-lE p,<-lE q,this]
theorem rL{p q:List Rat}(h:∀x,ev p x=ev q x)(x:Rat):ev (nX p) x=ev (nX q) x:=NU (fun i=>by rw[wc,wc,GD h]) x
theorem XA(p q:List Rat)(x:Rat):ev (nX (kq p q)) x=ev (nX p) x+ev (nX q) x:=by
 rw[<-mN];exact NU (fun i=>by rw[wc,XL,XL,wc,wc];grind) x
theorem aA3(p:List Rat)(k x:Rat):ev (nX (yU p k)) x=ev (nX p) x*k:=by
 rw[<-ll];exact NU (fun i=>by rw[wc,bj1,bj1,wc];grind) x
theorem bK8(i:Nat):(((i:Int)+1:Int):Rat)≠0:=by
 intro e;have:((i:Int)+1)=0:=by exact_mod_cast e
 omega
theorem aZ3(c:Rat)(r:List Rat)(x:Rat):ev (nX (c::r)) x=ev r x+x*ev (nX r) x:=by
 have h:ev (nX (c::r)) x=ev (kq r (0::nX r)) x:=NU (fun i=>by
  rw[wc,XL];cases i with
  | zero=>show r.getD 0 0*_=r.getD 0 0+0;have:(((0:Nat):Int)+1:Int)=1:=rfl;grind
  | succ i=>
    show r.getD (i+1) 0*_=r.getD (i+1) 0+(nX r).getD i 0;rw[wc]
    have e:((((i+1:Nat):Int)+1:Int):Rat)=(((i:Int)+1:Int):Rat)+1:=by
     rw[show(((i+1:Nat):Int)+1:Int)=((i:Int)+1)+1 by omega,Rat.intCast_add];rfl
    rw[e];grind) x
 rw[h,mN,au];grind
theorem yN{p q:List Rat}(h:∀x,ev p x=ev q x):∀r x,ev (gT p r) x=ev (gT q r) x
 | 0,x=>h x
 | r+1,x=>rL (yN h r) x
theorem uv(p q:List Rat):∀r x,ev (gT (kq p q) r) x=ev (gT p r) x+ev (gT q r) x
 | 0,x=>mN x p q
 | r+1,x=>by
   show ev (nX (gT (kq p q) r)) x=ev (nX (gT p r)) x+ev (nX (gT q r)) x;rw[<-XA];exact rL (fun t=>by rw[uv p q r t,mN]) x
theorem BQ(p:List Rat)(k:Rat):∀r x,ev (gT (yU p k) r) x=ev (gT p r) x*k
 | 0,x=>ll p k x
 | r+1,x=>by
   show ev (nX (gT (yU p k) r)) x=ev (nX (gT p r)) x*k;rw[<-aA3];exact rL (fun t=>by rw[BQ p k r t,ll]) x
theorem Td(g:List Rat)(a t:Rat):ev (nX (en g [-a,((1:Int):Rat)])) t=ev g t+(t-a)*ev (nX g) t:=by
 have e1:((1:Int):Rat)=1:=rfl;rw[rL (q:=kq (0::g) (yU g (-a))) (fun s=>by rw[sP,BR,mN,au,ll,e1];grind),XA,aZ3,aA3];grind
theorem mw(g:List Rat)(a:Rat):∀r t,ev (gT (en g [-a,((1:Int):Rat)]) (r+1)) t=(t-a)*ev (gT g (r+1)) t+(((r:Int)+1:Int):Rat)*ev (gT g r) t
 | 0,t=>by
   show ev (nX (en g [-a,((1:Int):Rat)])) t=(t-a)*ev (nX g) t+_*ev g t;rw[Td,show(((0:Nat):Int)+1:Int)=1 from rfl,show((1:Int):Rat)=1 from rfl];grind
 | r+1,t=>by
   have h:∀s,ev (gT (en g [-a,((1:Int):Rat)]) (r+1)) s=ev (kq (en (gT g (r+1)) [-a,((1:Int):Rat)]) (yU (gT g r) (((r:Int)+1:Int):Rat))) s:=fun s=>by
    rw[mw g a r s,mN,sP,BR,ll,show((1:Int):Rat)=1 from rfl];grind
   show ev (nX (gT (en g [-a,((1:Int):Rat)]) (r+1))) t=(t-a)*ev (nX (gT g (r+1))) t+_;rw[rL h,XA,Td,aA3,show(((r+1:Nat):Int)+1:Int)=((r:Int)+1)+1 by omega,Rat.intCast_add,show((1:Int):Rat)=1 from rfl];show ev (gT g (r+1)) t+_+ev (gT g (r+1)) t*_=_;rw[show nX (gT g (r+1))=gT g (r+1+1)from rfl]
   grind
theorem AZ(g:List Rat)(a t:Rat):ev (gT (en g [-a,((1:Int):Rat)]) 0) t=(t-a)*ev g t:=by
 show ev (en g [-a,((1:Int):Rat)]) t=_;rw[sP,BR,show((1:Int):Rat)=1 from rfl];grind
def Fu(p:List Rat)(x:Rat)(s:Nat):Prop:=∀r,r<s->ev (gT p r) x=0
theorem Fu.mono{p:List Rat}{x:Rat}{s s':Nat}(h:Fu p x s)(hs:s'<=s):Fu p x s':=fun r hr=>h r (by omega)
theorem Fu.mul{g:List Rat}{a y:Rat}{s:Nat}(h:Fu g y s):Fu (en g [-a,((1:Int):Rat)]) y s:=fun r hr=>by
 cases r with
 | zero=>rw[AZ,show ev g y=0 from h 0 hr];grind
 | succ r=>rw[mw,h (r+1) hr,h r (by omega)];grind
theorem Fu.cj6{g:List Rat}{a:Rat}{s:Nat}(h:Fu g a s):Fu (en g [-a,((1:Int):Rat)]) a (s+1):=fun r hr=>by
 cases r with
 | zero=>rw[AZ];grind
 | succ r=>rw[mw,h r (by omega)];grind
theorem bM8(r:Nat):(((r:Int)+1:Int):Rat)≠0:=bK8 r
theorem Fu.ci7{g:List Rat}{a:Rat}{s:Nat}(h:Fu (en g [-a,((1:Int):Rat)]) a (s+1)):Fu g a s:=fun r hr=>by
 have:=h (r+1) (by omega);rw[mw]at this;have h2:(((r:Int)+1:Int):Rat)*ev (gT g r) a=0:=by grind
 rcases lk.1 h2 with h3 | h3
 ·exact absurd h3 (bM8 r)
 ·exact h3
theorem Fu.div{g:List Rat}{a y:Rat}(hy:y≠a){s:Nat}(h:Fu (en g [-a,((1:Int):Rat)]) y s):Fu g y s:=by
 intro r
 induction r with
 | zero=>
   intro hr;have:=h 0 hr;rw[AZ]at this;rcases lk.1 this with h3 | h3
   ·exact absurd (show y=a by grind) hy
   ·exact h3
 | succ r ih=>
   intro hr;have:=h (r+1) hr;rw[mw,ih (by omega)]at this;have h2:(y-a)*ev (gT g (r+1)) y=0:=by grind
   rcases lk.1 h2 with h3 | h3
   ·exact absurd (show y=a by grind) hy
   ·exact h3
theorem Fu.of{p q:List Rat}(h:∀x,ev p x=ev q x){x:Rat}{s:Nat}(hz:Fu p x s):Fu q x s:=fun r hr=>by rw[<-yN h];exact hz r hr
def quo(a:Rat):List Rat->List Rat
 | []=>[]
 | _::p=>match p with
   | []=>[]
   | _::_=>ev p a::quo a p
theorem YT(a:Rat):∀p:List Rat,(quo a p).length<=p.length-1
 | []=>aY _
 | [_]=>aY _
 | _::d::p=>by
   have:=YT a (d::p);simp only[quo,ak]at this|-;omega
theorem av4(a t:Rat):∀p:List Rat,ev p t=(t-a)*ev (quo a p) t+ev p a
 | []=>by rw[quo,dA,dA];grind
 | [c]=>by rw[quo,dA,au,au,dA,dA];grind
 | c::d::p=>by
   have:=av4 a t (d::p);show ev (c::d::p) t=(t-a)*ev (ev (d::p) a::quo a (d::p)) t+ev (c::d::p) a;rw[au c,au c,au (ev (d::p) a)];generalize ev (quo a (d::p)) t=Q at *;generalize ev (d::p) t=E at *;generalize ev (d::p) a=F at *;rw[this];grind
abbrev Plc:=Rat×Nat
def uL:List Plc->Nat
 | []=>0
 | p::l=>p.2+uL l
theorem SH:∀(n:Nat)(l:List Plc),uL l=n->(∀i j:Nat,∀a b:Plc,l[i]?=some a->l[j]?=some b->a.1=b.1->i=j)->∀p:List Rat,p.length<=n->(∀k∈l,Fu p k.1 k.2)->∀t,ev p t=0
 | 0,l,hn,_,p,hp,_,t=>by
   obtain rfl:p=[]:=vf.1 (by omega);exact dA t
 | n+1,l,hn,hd,p,hp,hz,t=>by
   obtain⟨i,x,s,hi⟩:∃(i:Nat)(x:Rat)(s:Nat),l[i]?=some (x,s+1):=by
    clear hd hz
    induction l generalizing n with
    | nil=>simp[uL]at hn
    | cons q l ih=>
      obtain⟨x,s⟩:=q;cases s with
      | zero=>
        rw[uL]at hn;cases n with
        | zero=>
          obtain⟨i,x,s,hi⟩:=ih 0 (by simpa using hn) hp;exact⟨i+1,x,s,hi⟩
        | succ n=>
          obtain⟨i,x,s,hi⟩:=ih (n+1) (by simpa using hn) hp;exact⟨i+1,x,s,hi⟩
      | succ s=>exact⟨0,x,s,rfl⟩
   have hil:=(bg.1 hi).1;have hx0:ev p x=0:=hz _ (cq hi) 0 (by simp)
   have hq:∀u,ev p u=ev (en (quo x p) [-x,((1:Int):Rat)]) u:=fun u=>by
    rw[av4 x u p,hx0,sP,BR,show((1:Int):Rat)=1 from rfl];grind
   have hset:∀(l:List Plc)(i:Nat),l[i]?=some (x,s+1)->uL (l.set i (x,s))+1=uL l:=by
    intro l
    induction l with
    | nil=>intro i h;simp at h
    | cons q l ih=>
      intro i h;cases i with
      | zero=>cases h;simp only[qb,uL];omega
      | succ i=>
        have:=ih i h;simp only[vP,uL];omega
   have h1:=SH n (l.set i (x,s)) (by have:=hset l i hi;omega) (fun i1 j1 a b ha hb e=>by
    refine hd i1 j1 (if i1=i then(x,s+1)else a) (if j1=i then(x,s+1)else b) ?_ ?_ ?_
    ·by_cases e1:i1=i
     ·rw[aD e1,e1];exact hi
     ·rw[aH e1];rwa[kI (gB e1)]at ha
    ·by_cases e1:j1=i
     ·rw[aD e1,e1];exact hi
     ·rw[aH e1];rwa[kI (gB e1)]at hb
    ·have ka:(if i1=i then((x,s+1):Plc)else a).1=a.1:=by
      by_cases e1:i1=i
      ·rw[aD e1];rw[e1,iV hil]at ha;cases ha;rfl
      ·rw[aH e1]
     have kb:(if j1=i then((x,s+1):Plc)else b).1=b.1:=by
      by_cases e1:j1=i
      ·rw[aD e1];rw[e1,iV hil]at hb;cases hb;rfl
      ·rw[aH e1]
     rw[ka,kb,e]) (quo x p) (by have:=YT x p;omega) (fun k hk=>by
    obtain⟨j,hj⟩:=jn hk;by_cases e:j=i
    ·rw[e,iV hil]at hj;cases hj;exact Fu.ci7 ((hz _ (cq hi)).of hq)
    ·rw[kI (gB e)]at hj;refine Fu.div (a:=x) (fun h=>e (hd j i k (x,s+1) hj hi h)) ((hz _ (cq hj)).of hq)) t
   rw[hq,sP,h1];grind
structure HSt(l:List Jt)(j r:Nat)(s:List Rat×List Rat):Prop where
 old:∀i,i<j->∀q,q<(dP l i).2.length->ev (gT s.1 q) (dP l i).1=(dP l i).2.getD q 0
 oldz:∀i,i<j->Fu s.2 (dP l i).1 (dP l i).2.length
 cur:∀q,q<r->ev (gT s.1 q) (dP l j).1=(dP l j).2.getD q 0
 curz:Fu s.2 (dP l j).1 r
 nz:ev (gT s.2 r) (dP l j).1≠0
 far:∀y,(∀i,i<j->(dP l i).1≠y)->y≠(dP l j).1->ev s.2 y≠0
theorem az7{x v:Rat}{r:Nat}{s:List Rat×List Rat}(h:ev (gT s.2 r) x≠0):ev (gT s.2 r) x*ou x v r s=v-ev (gT s.1 r) x:=by
 have h':gG (gT s.2 r) x≠0:=h;rw[ou,Qh h'];have:=mS (a:=v-gG (gT s.1 r) x) h';rw[Rat.mul_comm];exact this
theorem HSt.next{l:List Jt}{j r:Nat}{s:List Rat×List Rat}(h:HSt l j r s):HSt l j (r+1) (rY (dP l j).1 ((dP l j).2.getD r 0) r s):=by
 have hc:=az7 (v:=(dP l j).2.getD r 0) h.nz;refine⟨fun i hi q hq=>?_,fun i hi=>(h.oldz i hi).mul,fun q hq=>?_,h.curz.cj6,?_,fun y h1 h2=>?_⟩
 ·rw[rY,uv,BQ,h.oldz i hi q hq,h.old i hi q hq];grind
 ·rw[rY,uv,BQ];by_cases e:q<r
  ·rw[h.curz q e,h.cur q e];grind
  ·obtain rfl:q=r:=by omega
   rw[hc];grind
 ·rw[rY,mw];intro e;have h2:(((r:Int)+1:Int):Rat)*ev (gT s.2 r) (dP l j).1=0:=by grind
  rcases lk.1 h2 with h3 | h3
  ·exact bM8 r h3
  ·exact h.nz h3
 ·intro e;have:ev (gT (en s.2 [-(dP l j).1,((1:Int):Rat)]) 0) y=0:=e;rw[AZ]at this;rcases lk.1 this with h3 | h3
  ·exact h2 (by grind)
  ·exact h.far y h1 h2 h3
theorem HSt.all{l:List Jt}{j:Nat}{s:List Rat×List Rat}(h:HSt l j 0 s):∀r,HSt l j r (ji (dP l j).1 (dP l j).2 s r)
 | 0=>h
 | r+1=>(h.all r).next
theorem HSt.jet{l:List Jt}{j:Nat}{s:List Rat×List Rat}(h:HSt l j (dP l j).2.length s)(hd:∀i,i<=j->(dP l i).1≠(dP l (j+1)).1):HSt l (j+1) 0 s:=
 ⟨fun i hi q hq=>by
  by_cases e:i<j
  ·exact h.old i e q hq
  ·obtain rfl:i=j:=by omega
   exact h.cur q hq,fun i hi=>by
  by_cases e:i<j
  ·exact h.oldz i e
  ·obtain rfl:i=j:=by omega
   exact h.curz,fun q hq=>absurd hq (by omega),fun q hq=>absurd hq (by omega),h.far _ (fun i hi=>hd i (by omega)) (fun e=>hd j (aY _) e.symm),fun y h1 h2=>h.far y (fun i hi=>h1 i (by omega)) fun e=>h1 j (by omega) e.symm⟩
theorem Oq{l:List Jt}(ho:∀i,i<l.length->(l.take i).any (fun k=>decide (k.1=(dP l i).1))=false){i j:Nat}(hj:j<l.length)(hij:i<j:=by omega):(dP l i).1≠(dP l j).1:=fun e=>by
 have h:=ho j hj;rw[List.any_eq_false]at h;have hm:dP l i∈l.take j:=cq (i:=i) (by rw[dq,aD hij];exact tj (by omega));exact h _ hm (by simpa using e)
theorem ay0{l:List Jt}(ho:∀i,i<l.length->(l.take i).any (fun k=>decide (k.1=(dP l i).1))=false):∀j,j<l.length->HSt l j 0 (kB l j)
 | 0,_=>⟨fun i hi=>by omega,fun i hi=>by omega,fun q hq=>by omega,fun q hq=>by omega,by
   show ev [1] _≠0;rw[au,dA];grind,fun y _ _=>by
   show ev [1] _≠0;rw[au,dA];grind⟩
 | j+1,hj=>((ay0 ho j (by omega)).all _).jet fun i hi=>Oq ho hj
theorem Ux{x v:Rat}{r:Nat}{s:List Rat×List Rat}{n:Nat}(h:s.1.length<=n/\s.2.length<=n+1):(rY x v r s).1.length<=n+1/\(rY x v r s).2.length<=n+1+1:=by
 have h1:=vq s.1 (yU s.2 (ou x v r s));have h2:=wE s.2 (ou x v r s);have h3:=pN s.2 [-x,((1:Int):Rat)];rw[ak,ak,bX]at h3;refine⟨?_,?_⟩
 ·show(kq s.1 (yU s.2 (ou x v r s))).length<=_;omega
 ·show(en s.2 [-x,((1:Int):Rat)]).length<=_;omega
theorem Sm{x:Rat}{vs:List Rat}{s:List Rat×List Rat}{n:Nat}(h:s.1.length<=n/\s.2.length<=n+1):∀r,(ji x vs s r).1.length<=n+r/\(ji x vs s r).2.length<=n+r+1
 | 0=>h
 | r+1=>by
   have:=Ux (x:=x) (v:=vs.getD r 0) (r:=r) (Sm (x:=x) (vs:=vs) h r);rw[ji,show n+(r+1)=n+r+1 by omega];exact this
theorem Ft(l:List Jt):∀j,(kB l j).1.length<=fI l j/\(kB l j).2.length<=fI l j+1
 | 0=>⟨aY _,aY _⟩
 | j+1=>by
   rw[kB,fI];exact Sm (Ft l j) _
theorem bd8{l:List Jt}(ho:∀i,i<l.length->(l.take i).any (fun k=>decide (k.1=(dP l i).1))=false):∀i,i<l.length->∀q,q<(dP l i).2.length->ev (gT (kB l l.length).1 q) (dP l i).1=(dP l i).2.getD q 0:=fun i hi q hq=>by
 obtain⟨j,hj⟩:∃j,l.length=j+1:=⟨l.length-1,by omega⟩
 have h:=(ay0 ho j (by omega)).all (dP l j).2.length;rw[hj];show ev (gT (ji (dP l j).1 (dP l j).2 (kB l j) (dP l j).2.length).1 q) _=_;by_cases e:i<j
 ·exact h.old i e q hq
 ·obtain rfl:i=j:=by omega
  exact h.cur q hq
def aW9(l:List Jt)(n:Nat):List Plc:=(List.range n).map fun i=>((dP l i).1,(dP l i).2.length)
theorem Vn:∀(a b:List Plc),uL (a++b)=uL a+uL b
 | [],b=>by rw[List.nil_append,uL,bI]
 | p::a,b=>by rw[List.cons_append,uL,uL,Vn a b];omega
theorem SS(l:List Jt):∀n,uL (aW9 l n)=fI l n
 | 0=>rfl
 | n+1=>by
   have:=SS l n;rw[aW9]at this|-;rw[gu,cP,Vn,this];rfl
theorem Tg{l:List Jt}(ho:∀i,i<l.length->(l.take i).any (fun k=>decide (k.1=(dP l i).1))=false){p q:List Rat}(hp:p.length<=fI l l.length)(hq:q.length<=fI l l.length)
  (h:∀i,i<l.length->∀r,r<(dP l i).2.length->ev (gT p r) (dP l i).1=ev (gT q r) (dP l i).1):∀t,ev p t=ev q t:=fun t=>by
 have h1:=vq p (yU q (-1));have h2:=wE q (-1)
 have:=SH _ (aW9 l l.length) (SS l _) (fun i j a b ha hb e=>by
  rw[aW9,cU,qS]at ha hb;obtain⟨i',hi,rfl⟩:=ha;obtain⟨j',hj,rfl⟩:=hb;obtain⟨hi1,hi2⟩:=bg.1 hi;obtain⟨hj1,hj2⟩:=bg.1 hj;rw[lM]at hi1 hj1;rw[List.getElem_range]at hi2 hj2;subst hi2 hj2;rcases Pa i j with h | h | h
  ·exact absurd e (Oq ho hj1 h)
  ·exact h
  ·exact absurd e.symm (Oq ho hi1 h)) (kq p (yU q (-1))) (by omega) (fun k hk=>by
  obtain⟨i,hi,rfl⟩:=dn.1 hk;intro r hr;rw[uv,BQ,h i (gE.1 hi) r hr];grind) t
 rw[mN,ll]at this
 grind
def Lb(D s:Nat)(p:List Rat):Prop:=∀a∈p,Bd D (2^s) a
theorem MG{s t:Nat}(h:s<=t):2^s<=2^t:=ey (by omega) h
theorem aJ1{s t u:Nat}(h1:s<u)(h2:t<u):2^s+2^t<=2^u:=by
 have a1:=MG (show s<=u-1 by omega);have a2:=MG (show t<=u-1 by omega);have:2^u=2^(u-1)*2:=by rw[<-bW];congr 1;omega
 omega
theorem _root_.Ord.Bd.up{D D' s s':Nat}{a:Rat}(h:Bd D (2^s) a)(hD:D∣D')(hs:s<=s'):Bd D' (2^s') a:=h.mono hD (MG hs)
theorem _root_.Ord.Bd.cg2{D s t u:Nat}{a b:Rat}(h0:D≠0)(ha:Bd D (2^s) a)(hb:Bd D (2^t) b)(h1:s<u)(h2:t<u):Bd D (2^u) (a+b):=(ha.add h0 hb).le (aJ1 h1 h2)
theorem _root_.Ord.Bd.cf9{D s t u:Nat}{a b:Rat}(h0:D≠0)(ha:Bd D (2^s) a)(hb:Bd D (2^t) b)(h1:s<u)(h2:t<u):Bd D (2^u) (a-b):=(ha.sub h0 hb).le (aJ1 h1 h2)
theorem _root_.Ord.Bd.aY2{D E s t:Nat}{a b:Rat}(h0:D≠0)(h1:E≠0)(ha:Bd D (2^s) a)(hb:Bd E (2^t) b):Bd (D*E) (2^(s+t)) (a*b):=by
 rw[bz];exact ha.mul h0 h1 hb
theorem Lb.up{D D' s s':Nat}{p:List Rat}(h:Lb D s p)(hD:D∣D')(hs:s<=s'):Lb D' s' p:=fun a ha=>(h a ha).up hD hs
theorem Lb.add{D s:Nat}{p q:List Rat}(h0:D≠0)(hp:Lb D s p)(hq:Lb D s q):Lb D (s+1) (kq p q):=fun a ha=>(Zx h0 hp hq a ha).le (by rw[bW];omega)
theorem Lb.sc{D E s t:Nat}{p:List Rat}{k:Rat}(h0:D≠0)(h1:E≠0)(hp:Lb D s p)(hk:Bd E (2^t) k):Lb (D*E) (s+t) (yU p k):=fun a ha=>by
 obtain⟨i,_,rfl⟩:=dn.1 (lp ha);exact(kK hp i).aY2 h0 h1 hk
theorem Lb.mul{D E s t:Nat}{p q:List Rat}(h0:D≠0)(h1:E≠0)(hp:Lb D s p)(hq:Lb E t q)(hl:p.length<=16):Lb (D*E) (s+t+4) (en p q):=fun a ha=>(On h0 h1 hp hq a ha).le (by
 rw[bz 2 (s+t) 4,bz 2 s t,bo];exact dF _ hl)
theorem Lb.dv{D s:Nat}{p:List Rat}(h0:D≠0)(hp:Lb D s p)(hl:p.length<=16):Lb D (s+4) (nX p):=fun a ha=>by
 obtain⟨i,hi,rfl⟩:=dn.1 (lp ha);have hi':=gE.1 hi;have h:=(kK hp (i+1)).aY2 (E:=1) (t:=4) h0 (by omega) (Bd.int (D:=1) (S:=2^4) (n:=(i:Int)+1) (by omega))
 rwa[de]at h
theorem Lb.gT{D s:Nat}{p:List Rat}(h0:D≠0)(hp:Lb D s p)(hl:p.length<=16):∀r,Lb D (s+4*r) (gT p r)
 | 0=>hp
 | r+1=>by
   have:=(Lb.gT h0 hp hl r).dv h0 (by have:=mV p r;omega)
   rwa[show s+4*(r+1)=s+4*r+4 by omega]
theorem Lb.ev{D X s f:Nat}{x:Rat}(h0:D≠0)(h1:X≠0)(hx:Bd X (2^f) x):∀{p:List Rat},Lb D s p->Bd (D*X^p.length) (2^(s+p.length*(f+1))) (ev p x)
 | [],_=>Bd.zero
 | a::p,hp=>by
   have ih:=Lb.ev (p:=p) h0 h1 hx fun b hb=>hp b (dS _ hb);have hn:D*X^p.length≠0:=eh h0 (uT h1 _);have hm:=ih.aY2 hn h1 hx;rw[eP,<-bW]at hm;rw[au,ak];exact Bd.cg2 (eh h0 (uT h1 _)) hm ((hp a dJ).up (qQ _ _) (aY _)) (by rw[bf];omega) (by rw[bf];omega)
theorem Wm{D s:Nat}{x:Rat}{p:List Rat}(hx:Fit 40 x)(hp:Lb D s p)(hl:p.length<=9)(h0:D≠0:=by omega):Bd (D*x.den^9) (2^(s+369)) (ev p x):=by
 have h:=Lb.ev (f:=40) h0 x.den_nz (Bd.Rb hx) hp;refine h.up (Nat.mul_dvd_mul_left _ (Nat.pow_dvd_pow _ hl)) ?_;have:=bu 41 hl;omega
theorem bJ2{f:Nat}{x:Rat}(hx:Fit f x):x.den^9<=2^(f*9):=by
 rw[PX];exact nu (iJ hx.2) 9
theorem aq0{D s E e t r:Nat}{P Z:List Rat}{x v:Rat}(hD:D≠0)(hE:E≠0)(hEe:E<=2^e)(hP:Lb D s P)(hZ:Lb E t Z)(lP:P.length<=9)(lZ:Z.length<=9)(hx:Fit 40 x)(hv:Fit 40 v)(hr:r<=6) :
  ∃G,G≠0/\G<=2^(1170+t+2*e)/\Lb (D*G) (s+(2*t+e+1210)) (kq P (yU Z (ou x v r (P,Z)))):=by
 have hX:=uT x.den_nz 9;obtain⟨f,hf⟩:∃f,f=40:=⟨_,rfl⟩
 have hd9:x.den^9<=2^(f*9):=bJ2 (by rw[hf];exact hx);have hd1:v.den<=2^f:=iJ (by rw[hf];exact hv.2)
 have fe:Fit (t+e+760) (ev (gT Z r) x):=by
  have h:=Wm hx (hZ.gT hE (by omega) r) (by have:=mV Z r;omega) hE;have hb:E*x.den^9<=2^(e+f*9):=by rw[bz];exact eD hEe hd9
  refine h.fit (eh hE hX) (dV hb (nq (by omega) (by omega))) ?_;have:=dF (2^(t+4*r+369)) hb;rw[<-bz]at this;exact dV this (nq (by omega) (by omega))
 have hc:ou x v r (P,Z)=(v-ev (gT P r) x)*(1/ev (gT Z r) x):=by
  have:ou x v r (P,Z)=RC (v-ev (gT P r) x) (ev (gT Z r) x):=rfl;rw[this,nr,vg,vg 1,AL]
 have fi:Fit (t+e+762) (1/ev (gT Z r) x):=((be5 (aY 1)).div fe).mono (by omega);rw[hc];generalize 1/ev (gT Z r) x=i at fi|-;have he:=Wm hx (hP.gT hD (by omega) r) (by have:=mV P r;omega) hD;have hDX:=eh hD hX;have hn:Bd (D*x.den^9*v.den) (2^(s+440)) (v-ev (gT P r) x):=Bd.cf9 (s:=40) (t:=s+4*r+369) (eh hDX v.den_nz) ((Bd.Rb hv).up (AN _ _) (aY _)) (he.up (qQ _ _) (aY _)) (by omega) (by omega);have hcb:=hn.aY2 (eh hDX v.den_nz) i.den_nz (Bd.Rb fi);have hcn:=eh (eh hDX v.den_nz) i.den_nz;have hsc:=hZ.sc hE hcn hcb;refine⟨E*x.den^9*v.den*i.den,eh (eh (eh hE hX) v.den_nz) i.den_nz,?_,?_⟩
 ·have:=eD (eD (eD hEe hd9) hd1) (iJ fi.2);rw[<-bz,<-bz,<-bz]at this;exact bF this (MG (by omega))
 ·have e1:E*(D*x.den^9*v.den*i.den)=D*(E*x.den^9*v.den*i.den):=by ac_rfl
  rw[e1]at hsc;have hG:D*(E*x.den^9*v.den*i.den)≠0:=by rw[<-e1];exact eh hE hcn
  exact(Lb.add (s:=s+(2*t+e+1203)) hG (hP.up (qQ _ _) (by omega)) (hsc.up (qJ _) (by omega))).up (qJ _) (by omega)
structure HB(k:Nat)(s:List Rat×List Rat):Prop where
 l1:s.1.length<=k
 l2:s.2.length<=k+1
 p:∃D,D≠0/\D<=2^(2500*k)/\Lb D (2600*k) s.1
 z:∃E,E≠0/\E<=2^(40*k)/\Lb E (45*k) s.2
theorem HB.next{k r:Nat}{x v:Rat}{s:List Rat×List Rat}(h:HB k s)(hk:k<=8)(hx:Fit 40 x)(hv:Fit 40 v)(hr:r<=6):HB (k+1) (rY x v r s):=by
 obtain⟨D,hD,hDe,hP⟩:=h.p;obtain⟨E,hE,hEe,hZ⟩:=h.z;obtain⟨n1,n2⟩:=Ux (x:=x) (v:=v) (r:=r) (n:=k) ⟨h.l1,h.l2⟩;have l1:=h.l1;have l2:=h.l2;obtain⟨G,hG,hGe,hN⟩:=aq0 (r:=r) (v:=v) hD hE hEe hP hZ (by omega) (by omega) hx hv hr;refine⟨n1,n2,⟨D*G,eh hD hG,?_,hN.up (qJ _) (by omega)⟩,⟨E*x.den,eh hE x.den_nz,?_,?_⟩⟩
 ·have:=eD hDe hGe;rw[<-bz]at this;exact bF this (MG (by omega))
 ·have:=eD hEe (iJ hx.2);rw[<-bz]at this;exact bF this (MG (by omega))
 ·have hq:Lb x.den 40 [-x,((1:Int):Rat)]:=fun a ha=>by
   simp only[eU,wC,wm]at ha;rcases ha with rfl | rfl
   ·exact(Bd.Rb hx).neg
   ·exact Bd.int (by decide)
  exact(Lb.mul hE x.den_nz hZ hq (by omega)).up (qJ _) (by omega)
theorem HB.sm{k:Nat}{s:List Rat×List Rat}(h:HB k s)(hk:k<=8):SmS 41000 s:=by
 obtain⟨D,hD,hDe,hP⟩:=h.p;obtain⟨E,hE,hEe,hZ⟩:=h.z;have l1:=h.l1;have l2:=h.l2
 have key:∀{D d s:Nat}{a:Rat},D≠0->D<=2^d->Bd D (2^s) a->d+s<41000->Fit 41000 a:=fun {D d s a} h0 h1 h2 h3=>by
  obtain⟨F,hF⟩:∃F,F=41000:=⟨_,rfl⟩
  rw[<-hF]at h3|-;refine h2.fit h0 (dV h1 (nq (by omega) (by omega))) ?_;have:=dF (2^s) h1;rw[<-bz]at this;exact dV this (nq (by omega) (by omega))
 exact⟨by omega,by omega,fun a ha=>key hD hDe (hP a ha) (by omega),fun a ha=>key hE hEe (hZ a ha) (by omega)⟩
theorem Nv{x:Rat}{vs:List Rat}{s:List Rat×List Rat}{k:Nat}(h:HB k s)(hx:Fit 40 x)(hv:∀v∈vs,Fit 40 v):∀r,k+r<=9->r<=6->HB (k+r) (ji x vs s r)
 | 0,_,_=>h
 | r+1,hk,hr=>(Nv h hx hv r (by omega) (by omega)).next (by omega) hx (aE hv r) (by omega)
theorem Ng{l:List Jt}(he:∀j∈l,Fit 40 j.1/\1<=j.2.length/\j.2.length<=6/\∀v∈j.2,Fit 40 v)(h8:fI l l.length<=8):∀j,j<=l.length->fI l j<=8->HB (fI l j) (kB l j)
 | 0,_,_=>⟨aY _,aY _,⟨1,by omega,mb,fun a ha=>by cases ha⟩,⟨1,by omega,mb,fun a ha=>by rw[dR.1 ha];exact Bd.one mb⟩⟩
 | j+1,hj,hs=>by
   rw[fI]at hs|-;obtain⟨fx,_,l6,fv⟩:=he _ (lR (show j<l.length by omega));exact Nv (Ng he h8 j (by omega) (by omega)) fx fv _ (by omega) l6
theorem ai3(l:List Jt){i j:Nat}(h:i<=j:=by omega):fI l i<=fI l j:=by
 induction j with
 | zero=>rw[show i=0 by omega];exact aY _
 | succ j ih=>
   by_cases e:i=j+1
   ·rw[e];exact aY _
   ·have:=ih (by omega);rw[fI];omega
theorem ah2{l:List Jt}(he:∀j∈l,Fit 40 j.1/\1<=j.2.length/\j.2.length<=6/\∀v∈j.2,Fit 40 v)(h8:fI l l.length<=8):∀j r,j<l.length->r<=(dP l j).2.length->SmS 41000 (ji (dP l j).1 (dP l j).2 (kB l j) r):=fun j r hj hr=>by
 obtain⟨fx,_,l6,fv⟩:=he _ (lR hj);have h1:fI l (j+1)<=8:=bF (ai3 l) h8;have h1:fI l j+(dP l j).2.length<=8:=h1;exact(Nv (Ng he h8 j (by omega) (by omega)) fx fv r (by omega) (by omega)).sm (by omega)
def Nx(k:Nat):List Rat:=List.replicate k 0++[((1:Int):Rat)]
def hmQ(x:Rat)(r k:Nat):Rat:=ev (gT (Nx k) r) x
def og(x:Rat)(n r:Nat)(v:Rat):List Rat:=(List.range n).map (hmQ x r)++[v]
def YJ(l:List Jt)(n:Nat):Nat->List (List Rat)
 | 0=>[]
 | i+1=>YJ l n i++(List.range (dP l i).2.length).map fun r=>og (dP l i).1 n r ((dP l i).2.getD r 0)
theorem Pd(l:List Jt)(n:Nat):∀i,(YJ l n i).length=fI l i
 | 0=>rfl
 | i+1=>by rw[YJ,cK,Pd l n i,aJ,lM,fI]
theorem Fi(x:Rat)(n r:Nat)(v:Rat):(og x n r v).length=n+1:=by simp[og]
theorem QK(l:List Jt)(n:Nat):∀i,∀q∈YJ l n i,q.length=n+1
 | 0,q,h=>by cases h
 | i+1,q,h=>by
   rcases eL.1 h with h | h
   ·exact QK l n i q h
   ·obtain⟨r,_,rfl⟩:=dn.1 h;exact Fi _ _ _ _
theorem Ny(l:List Jt)(n:Nat):∀N i r,i<N->r<(dP l i).2.length->og (dP l i).1 n r ((dP l i).2.getD r 0)∈YJ l n N
 | 0,i,r,h,_=>by omega
 | N+1,i,r,h,hr=>by
   by_cases e:i<N
   ·exact gq _ (Ny l n N i r e hr)
   ·obtain rfl:i=N:=by omega
    exact kX _ (dn.2 ⟨r,gE.2 hr,rfl⟩)
theorem Ug(c x:Rat):∀p:List Rat,ev (p++[c]) x=ev p x+ev (Nx p.length) x*c
 | []=>by
   show ev [c] x=ev [] x+ev [((1:Int):Rat)] x*c;rw[au,au,dA,show((1:Int):Rat)=1 from rfl];grind
 | a::p=>by
   have h:=Ug c x p;show ev (a::(p++[c])) x=ev (a::p) x+ev (0::Nx p.length) x*c;rw[au,au,au,h];grind
def GY(n:Nat)(w:Nat->Rat):List Rat:=(List.range n).map w
theorem Em(w:Nat->Rat)(r:Nat)(x:Rat):∀n,ev (gT (GY n w) r) x=sm (fun j=>hmQ x r j*w j) n
 | 0=>by
   have:∀r,gT [] r=[]:=fun r=>by
    induction r with
    | zero=>rfl
    | succ r ih=>rw[gT,ih];rfl
   show ev (gT [] r) x=0;rw[this,dA]
 | n+1=>by
   have h:∀t,ev (GY (n+1) w) t=ev (kq (GY n w) (yU (Nx n) (w n))) t:=fun t=>by
    rw[mN,ll,GY,gu,cP];have:=Ug (w n) t ((List.range n).map w);rw[aJ,lM]at this;exact this
   rw[yN h,uv,BQ,Em w r x n,sm];rfl
theorem Vi(x:Rat)(n r:Nat)(v:Rat)(w:Nat->Rat):yH (og x n r v) w=ev (gT (GY n w) r) x+v*w n:=by
 have hl:((List.range n).map (hmQ x r)).length=n:=by simp
 rw[yH,Fi,sm,Em]
 congr 1
 ·refine BV n fun j hj=>?_;rw[og,jC,eN (by omega),<-jC,vy,aD hj]
 ·rw[og,jC,fW (by omega),hl,eV];rfl
theorem Vt.mem{rows:List (List Rat)}{w:Nat->Rat}(h:Vt rows w){q:List Rat}(hq:q∈rows):yH q w=0:=by
 obtain⟨i,hi⟩:=jn hq;have:=h i (bg.1 hi).1
 rwa[jC,hi]at this
theorem aZ1(r:Nat)(x:Rat):ev (gT [] r) x=0:=Em (fun _=>0) r x 0
theorem aJ6{l:List Jt}{n:Nat}(ho:∀i,i<l.length->(l.take i).any (fun k=>decide (k.1=(dP l i).1))=false)(hn:fI l l.length=n):∃m,il (YJ l n l.length)=some m/\m.length=n/\∀t,ev m t=ev (kB l l.length).1 t:=by
 have hlen:=Pd l n l.length
 obtain⟨m,e1,e2,e3⟩:=UX (n:=n) (rows:=YJ l n l.length) (by omega) (fun i hi=>by
  have:(YJ l n l.length).getD i []∈YJ l n l.length:=by
   rw[jC,bB (by omega)];exact si _
  exact QK l n _ _ this) (fun w hw hN j hj=>by
  have hz:=Tg ho (p:=GY n w) (q:=[]) (by rw[GY,aJ,lM];omega) (cL _) fun i hi r hr=>by
   have:=hN.mem (Ny l n l.length i r hi hr);rw[Vi,hw]at this;rw[aZ1];grind
  have:=GD hz j;rw[GY,vy,aD hj]at this;rw[this];rfl)
 refine⟨m,e1,e2,Tg ho (by omega) (by have:=(Ft l l.length).1;omega) fun i hi r hr=>?_⟩
 have hp:GY n (Tv n m)=m:=by
  apply fH;intro j;by_cases hj:j<n
  ·rw[GY,cU,iv hj,bB (by omega)];show some (Tv n m j)=_;rw[bc2 m hj,jC,bB (by omega)];rfl
  ·rw[gj (by rw[GY,aJ,lM];omega),gj (by omega)]
 have:=e3.mem (Ny l n l.length i r hi hr);rw[Vi,hp,bz2]at this;rw[bd8 ho i hi r hr];grind
end Go.Sy
