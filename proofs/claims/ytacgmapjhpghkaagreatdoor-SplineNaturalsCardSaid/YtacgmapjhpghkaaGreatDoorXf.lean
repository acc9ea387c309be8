/- Part. -/
import Derived.Test.YtacgmapjhpghkaaGreatDoorXe
set_option linter.all false
namespace Go.Sy
open Go Go.Proofs Tryz Ord
def So(f:c8)(n s:Nat):((List.range n).map f).getD s 0=if s<n then f s else 0:=by
 rw[fH,dR];split
 .rename_i h;rw[kC h];rfl
 .rename_i h;rw[jQ (by rw[nL];omega)];rfl
def yE{p:c4}{i:Nat}(h:p.length<=i:=by omega):p.getD i 0=0:=by rw[fH,jQ h];rfl
def ad9(p q:c4)(i:Nat):(pA p q).getD i 0=p.getD i 0+q.getD i 0:=by
 rw[pA,gw,So];split
 .rfl
 .rw[yE (p:=p),yE (p:=q)];grind
def bC4(p:c4)(k:Rat)(i:Nat):(Vw p k).getD i 0=p.getD i 0*k:=by
 rw[Vw,gw,So];split
 .rfl
 .rw[yE (p:=p)];grind
def yJ(p:c4)(i:Nat):(mU p).getD i 0=p.getD (i+1) 0*(((i:Int)+1:Int):Rat):=by
 rw[mU,gw,So];split
 .rfl
 .rw[yE (p:=p)];grind
def QI{p q:c4}(h:∀i,p.getD i 0=q.getD i 0)(x:Rat):ev p x=ev q x:=by
 rw[<-ql x p (max p.length q.length) O,<-ql x q (max p.length q.length) O]
 congr 1
 exact kY fun i _=>h i
def ba7{p q:c4}(h:∀x,ev p x=ev q x)(i:Nat):p.getD i 0=q.getD i 0:=by
 have:trim p=trim q:=zd (jc _) (jc _) fun x=>by rw[me,me,h]
 rw[<-gw p,<-gw q,this]
def Eb{p q:c4}(h:∀x,ev p x=ev q x)(x:Rat):ev (mU p) x=ev (mU q) x:=QI (fun i=>by rw[yJ,yJ,ba7 h]) x
def aV0(p q:c4)(x:Rat):ev (mU (pA p q)) x=ev (mU p) x+ev (mU q) x:=by
 rw[<-uI];exact QI (fun i=>by rw[yJ,ad9,ad9,yJ,yJ];grind) x
def bz7(p:c4)(k x:Rat):ev (mU (Vw p k)) x=ev (mU p) x*k:=by
 rw[<-wP];exact QI (fun i=>by rw[yJ,bC4,bC4,yJ];grind) x
def bs4(c:Rat)(r:c4)(x:Rat):ev (mU (c::r)) x=ev r x+x*ev (mU r) x:=by
 have h:ev (mU (c::r)) x=ev (pA r (0::mU r)) x:=QI (fun i=>by
  rw[yJ,ad9];cases i with
  | zero=>show r.getD 0 0*_=r.getD 0 0+0;have:(((0:Nat):Int)+1:Int)=1:=rfl;grind
  | succ i=>
    show r.getD (i+1) 0*_=r.getD (i+1) 0+(mU r).getD i 0;rw[yJ]
    have e:((((i+1:Nat):Int)+1:Int):Rat)=(((i:Int)+1:Int):Rat)+1:=by
     rw[show(((i+1:Nat):Int)+1:Int)=((i:Int)+1)+1 by omega,Rat.intCast_add];rfl
    rw[e];grind) x
 rw[h,uI,ak];grind
theorem Pr{p q:c4}(h:∀x,ev p x=ev q x):∀r x,ev (rJ p r) x=ev (rJ q r) x
 | 0,x=>h x
 | r+1,x=>Eb (Pr h r) x
def Ws(g:c4)(a t:Rat):ev (mU (gk g [-a,((1:Int):Rat)])) t=ev g t+(t-a)*ev (mU g) t:=by
 have e1:((1:Int):Rat)=1:=rfl;rw[Eb (q:=pA (0::g) (Vw g (-a))) (fun s=>by rw[wg,Qf,uI,ak,wP,e1];grind),aV0,bs4,bz7];grind
theorem zS(g:c4)(a:Rat):∀r t,ev (rJ (gk g [-a,((1:Int):Rat)]) (r+1)) t=(t-a)*ev (rJ g (r+1)) t+(((r:Int)+1:Int):Rat)*ev (rJ g r) t
 | 0,t=>by
   show ev (mU (gk g [-a,((1:Int):Rat)])) t=(t-a)*ev (mU g) t+_*ev g t;rw[Ws,show(((0:Nat):Int)+1:Int)=1 from rfl,show((1:Int):Rat)=1 from rfl];grind
 | r+1,t=>by
   have h:∀s,ev (rJ (gk g [-a,((1:Int):Rat)]) (r+1)) s=ev (pA (gk (rJ g (r+1)) [-a,((1:Int):Rat)]) (Vw (rJ g r) (((r:Int)+1:Int):Rat))) s:=fun s=>by
    rw[zS g a r s,uI,wg,Qf,wP,show((1:Int):Rat)=1 from rfl];grind
   show ev (mU (rJ (gk g [-a,((1:Int):Rat)]) (r+1))) t=(t-a)*ev (mU (rJ g (r+1))) t+_;rw[Eb h,aV0,Ws,bz7,show(((r+1:Nat):Int)+1:Int)=((r:Int)+1)+1 by omega,Rat.intCast_add,show((1:Int):Rat)=1 from rfl];show ev (rJ g (r+1)) t+_+ev (rJ g (r+1)) t*_=_;rw[show mU (rJ g (r+1))=rJ g (r+1+1)from rfl]
   grind
def at5(g:c4)(a t:Rat):ev (rJ (gk g [-a,((1:Int):Rat)]) 0) t=(t-a)*ev g t:=by
 show ev (gk g [-a,((1:Int):Rat)]) t=_;rw[wg,Qf,show((1:Int):Rat)=1 from rfl];grind
def Zer(p:c4)(x:Rat)(s:Nat):Prop:=∀r,r<s->ev (rJ p r) x=0
def Zer.mono{p:c4}{x:Rat}{s s':Nat}(h:Zer p x s)(hs:s'<=s):Zer p x s':=fun r hr=>h r O
def Zer.mul{g:c4}{a y:Rat}{s:Nat}(h:Zer g y s):Zer (gk g [-a,((1:Int):Rat)]) y s:=fun r hr=>by
 cases r with
 | zero=>rw[at5,show ev g y=0 from h 0 hr];grind
 | succ r=>rw[zS,h (r+1) hr,h r O];grind
def Zer.div{g:c4}{a y:Rat}(hy:y≠a){s:Nat}(h:Zer (gk g [-a,((1:Int):Rat)]) y s):Zer g y s:=by
 intro r
 induction r with
 | zero=>
   intro hr;have:=h 0 hr;rw[at5]at this;rcases jf.1 this with h3 | h3
   .exact absurd (show y=a by grind) hy
   .exact h3
 | succ r ih=>
   intro hr;have:=h (r+1) hr;rw[zS,ih O]at this;have h2:(y-a)*ev (rJ g (r+1)) y=0:=b5
   rcases jf.1 h2 with h3 | h3
   .exact absurd (show y=a by grind) hy
   .exact h3
def Zer.of{p q:c4}(h:∀x,ev p x=ev q x){x:Rat}{s:Nat}(hz:Zer p x s):Zer q x s:=fun r hr=>by rw[<-Pr h];exact hz r hr
def Lb(D s:Nat)(p:c4):Prop:=∀a∈p,Bd D (2^s) a
def bc4{s t:Nat}(h:s<=t):2^s<=2^t:=gI O h
def cb4{s t u:Nat}(h1:s<u)(h2:t<u):2^s+2^t<=2^u:=by
 have a1:=bc4 (show s<=u-1 by omega);have a2:=bc4 (show t<=u-1 by omega);have:2^u=2^(u-1)*2:=by rw[<-bw];congr 1;omega
 omega
def _root_.Ord.Bd.up{D D' s s':Nat}{a:Rat}(h:Bd D (2^s) a)(hD:D∣D')(hs:s<=s'):Bd D' (2^s') a:=h.mono hD (bc4 hs)
def _root_.Ord.Bd.cD4{D s t u:Nat}{a b:Rat}(h0:D≠0)(ha:Bd D (2^s) a)(hb:Bd D (2^t) b)(h1:s<u)(h2:t<u):Bd D (2^u) (a+b):=(ha.add h0 hb).le (cb4 h1 h2)
def _root_.Ord.Bd.bV0{D E s t:Nat}{a b:Rat}(h0:D≠0)(h1:E≠0)(ha:Bd D (2^s) a)(hb:Bd E (2^t) b):Bd (D*E) (2^(s+t)) (a*b):=by
 rw[eK];exact ha.mul h0 h1 hb
def Lb.up{D D' s s':Nat}{p:c4}(h:Lb D s p)(hD:D∣D')(hs:s<=s'):Lb D' s' p:=fun a ha=>(h a ha).up hD hs
def Lb.add{D s:Nat}{p q:c4}(h0:D≠0)(hp:Lb D s p)(hq:Lb D s q):Lb D (s+1) (pA p q):=fun a ha=>(ao5 h0 hp hq a ha).le (by rw[bw];omega)
def Lb.sc{D E s t:Nat}{p:c4}{k:Rat}(h0:D≠0)(h1:E≠0)(hp:Lb D s p)(hk:Bd E (2^t) k):Lb (D*E) (s+t) (Vw p k):=fun a ha=>by
 obtain⟨i,_,rfl⟩:=dm.1 (mj ha);exact(lR hp i).bV0 h0 h1 hk
def Lb.mul{D E s t:Nat}{p q:c4}(h0:D≠0)(h1:E≠0)(hp:Lb D s p)(hq:Lb E t q)(hl:p.length<=16):Lb (D*E) (s+t+4) (gk p q):=fun a ha=>(Rd h0 h1 hp hq a ha).le (by
 rw[eK 2 (s+t) 4,eK 2 s t,cN];exact dz _ hl)
def Lb.dv{D s:Nat}{p:c4}(h0:D≠0)(hp:Lb D s p)(hl:p.length<=16):Lb D (s+4) (mU p):=fun a ha=>by
 obtain⟨i,hi,rfl⟩:=dm.1 (mj ha);have hi':=fO.1 hi;have h:=(lR hp (i+1)).bV0 (E:=1) (t:=4) h0 O (Bd.int (D:=1) (S:=2^4) (n:=(i:Int)+1) O)
 rwa[eG]at h
theorem Lb.rJ{D s:Nat}{p:c4}(h0:D≠0)(hp:Lb D s p)(hl:p.length<=16):∀r,Lb D (s+4*r) (rJ p r)
 | 0=>hp
 | r+1=>by
   have:=(Lb.rJ h0 hp hl r).dv h0 (by have:=BC p r;omega)
   rwa[show s+4*(r+1)=s+4*r+4 by omega]
theorem Lb.ev{D X s f:Nat}{x:Rat}(h0:D≠0)(h1:X≠0)(hx:Bd X (2^f) x):∀{p:c4},Lb D s p->Bd (D*X^p.length) (2^(s+p.length*(f+1))) (ev p x)
 | [],_=>Bd.zero
 | a::p,hp=>by
   have ih:=Lb.ev (p:=p) h0 h1 hx fun b hb=>hp b (cg _ hb);have hn:D*X^p.length≠0:=kE h0 (Ha h1 _);have hm:=ih.bV0 hn h1 hx;rw[ej,<-bw]at hm;rw[ak,bB];exact Bd.cD4 (kE h0 (Ha h1 _)) hm ((hp a cE).up (uY _ _) (ah _)) (by rw[bt];omega) (by rw[bt];omega)
def we(k:Nat):List Rat:=List.replicate k 0++[((1:Int):Rat)]
def Bh(x:Rat)(r k:Nat):Rat:=ev (rJ (we k) r) x
def Ax.mem{rows:b9}{w:c8}(h:Ax rows w){q:c4}(hq:q∈rows):iJ q w=0:=by
 obtain⟨i,hi⟩:=kJ hq;have:=h i (cL.1 hi).1
 rwa[fH,hi]at this
end Go.Sy
