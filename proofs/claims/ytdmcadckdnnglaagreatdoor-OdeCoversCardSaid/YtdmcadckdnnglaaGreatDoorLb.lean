/- Part. -/
import Derived.Test.YtdmcadckdnnglaaGreatDoorLa
import Derived.Test.YtdmcadckdnnglaaGreatDoorJa
set_option linter.all false
namespace Go.Sy
open Go Go.Proofs Ord
def np(p:Rat×Rat)(z:Rat):Prop:=p.1<=z/\z<=p.2
theorem tB{l:List Rat}:∀i j:Nat,j<i->iG l i<=l.getD j 0
 | 0,_,h=>absurd h (oJ _)
 | i+1,j,h=>by
   rw[iG];rcases Nat.lt_or_ge j i with h1 | h1
   ·have ih:=tB (l:=l) i j h1;split
    ·rename_i hc;rcases hc with hc | hc
     ·omega
     ·exact cq (vk hc) ih
    ·exact ih
   ·obtain rfl:j=i:=O
    split
    ·exact cr
    ·rename_i hc;exact BR.1 fun h=>hc (.inr h)
theorem pb{l:List Rat}:∀i j:Nat,j<i->l.getD j 0<=gZ l i
 | 0,_,h=>absurd h (oJ _)
 | i+1,j,h=>by
   rw[gZ];rcases Nat.lt_or_ge j i with h1 | h1
   ·have ih:=pb (l:=l) i j h1;split
    ·rename_i hc;rcases hc with hc | hc
     ·omega
     ·exact cq ih (vk hc)
    ·exact ih
   ·obtain rfl:j=i:=O
    split
    ·exact cr
    ·rename_i hc;exact BR.1 fun h=>hc (.inr h)
def FW{a c d z:Rat}(h:c<=z/\z<=d):(a*c<=a*z/\a*z<=a*d)\/(a*d<=a*z/\a*z<=a*c):=by
 rcases KW (a:=0) (b:=a)with ha | ha
 ·exact .inl ⟨qF h.1 ha,qF h.2 ha⟩
 ·have h1:=qF (c:=-a) h.1 (by grind);have h2:=qF (c:=-a) h.2 (by grind);exact .inr ⟨by grind,by grind⟩
def np.mul{p q:Rat×Rat}{x y:Rat}(h:np p x)(k:np q y):np (kA p.1 p.2 q.1 q.2,jx p.1 p.2 q.1 q.2) (x*y):=by
 have l0:kA p.1 p.2 q.1 q.2<=p.1*q.1:=tB (l:=gW p.1 p.2 q.1 q.2) 4 0 O;have l1:kA p.1 p.2 q.1 q.2<=p.1*q.2:=tB (l:=gW p.1 p.2 q.1 q.2) 4 1 O;have l2:kA p.1 p.2 q.1 q.2<=p.2*q.1:=tB (l:=gW p.1 p.2 q.1 q.2) 4 2 O;have l3:kA p.1 p.2 q.1 q.2<=p.2*q.2:=tB (l:=gW p.1 p.2 q.1 q.2) 4 3 O;have g0:p.1*q.1<=jx p.1 p.2 q.1 q.2:=pb (l:=gW p.1 p.2 q.1 q.2) 4 0 O;have g1:p.1*q.2<=jx p.1 p.2 q.1 q.2:=pb (l:=gW p.1 p.2 q.1 q.2) 4 1 O;have g2:p.2*q.1<=jx p.1 p.2 q.1 q.2:=pb (l:=gW p.1 p.2 q.1 q.2) 4 2 O;have g3:p.2*q.2<=jx p.1 p.2 q.1 q.2:=pb (l:=gW p.1 p.2 q.1 q.2) 4 3 O;have e1:=FW (a:=y) h;have e2:=FW (a:=p.1) k;have e3:=FW (a:=p.2) k;show kA p.1 p.2 q.1 q.2<=x*y/\x*y<=jx p.1 p.2 q.1 q.2;generalize kA p.1 p.2 q.1 q.2=L at *;generalize jx p.1 p.2 q.1 q.2=H at *;rw[qN y p.1,qN y x,qN y p.2]at e1;generalize p.1*q.1=a1 at *;generalize p.1*q.2=a2 at *;generalize p.2*q.1=a3 at *;generalize p.2*q.2=a4 at *;generalize p.1*y=b1 at *;generalize p.2*y=b2 at *;generalize x*y=z at *
 constructor
 ·rcases e1 with⟨c1,c2⟩ | ⟨c1,c2⟩<;>rcases e2 with⟨d1,d2⟩ | ⟨d1,d2⟩<;>rcases e3 with⟨f1,f2⟩ | ⟨f1,f2⟩<;>grind
 ·rcases e1 with⟨c1,c2⟩ | ⟨c1,c2⟩<;>rcases e2 with⟨d1,d2⟩ | ⟨d1,d2⟩<;>rcases e3 with⟨f1,f2⟩ | ⟨f1,f2⟩<;>grind
def np.add{p q:Rat×Rat}{x y:Rat}(h:np p x)(k:np q y):np (p.1+q.1,p.2+q.2) (x+y):=by
 obtain⟨h1,h2⟩:=h;obtain⟨k1,k2⟩:=k
 constructor<;>dsimp only <;> grind
def ZP(M v:Nat->Rat×Rat):Nat->Rat×Rat
 | 0=>(0,0)
 | l+1=>((ZP M v l).1+kA (M l).1 (M l).2 (v l).1 (v l).2,(ZP M v l).2+jx (M l).1 (M l).2 (v l).1 (v l).2)
theorem Ma{M v:Nat->Rat×Rat}{f g:Nat->Rat}{m:Nat}(hf:∀l,l<m->np (M l) (f l))(hg:∀l,l<m->np (v l) (g l)):∀l,l<=m->np (ZP M v l) (sm (fun u=>f u*g u) l)
 | 0,_=>⟨cr,cr⟩
 | l+1,hl=>(Ma hf hg l O).add ((hf l O).mul (hg l O))
def aE7(z:Rat):(Pt z:Rat)<=z:=by
 rw[wx,Rat.num_intCast,Rat.den_intCast];have h:(z.den:Int)≠0:=by have:=z.den_pos;omega
 have:=Int.ediv_mul_le z.num h;unfold Pt;generalize z.num/(z.den:Int)*(z.den:Int)=y at *;omega
def tQ(q:Rat)(k:Nat):ki q k<=q:=by
 have h:=aE7 (q*kF k);have hp:0<2^k:=Nat.pow_pos O;have hN:(0:Rat)<kF k:=oQ.2 O;have e:mkRat 1 (2^k)=1/kF k:=by rw[qm];rfl
 unfold ki;rw[e];have h1:(0:Rat)<=1/kF k:=lH (by decide +kernel) hN;have h2:=HS h h1
 have h3:q*kF k*(1/kF k)=q:=by
  have:kF k≠0:=by grind
  grind
 rwa[h3]at h2
def Dv(q:Rat)(k:Nat):q<=SK q k:=by
 have:=tQ (-q) k;rw[<-WH];grind
theorem jl:∀(p q:List Rat)(x:Rat),ev (jN p q) x=ev p x+ev q x
 | [],q,x=>by rw[jN,cP];grind
 | a::p,[],x=>by rw[jN,cP];grind
 | a::p,b::q,x=>by rw[jN,ai,ai,ai,jl p q x];grind
theorem vY(c:Rat):∀(p:List Rat)(x:Rat),ev (Ord.uG c p) x=c*ev p x
 | [],x=>by show(0:Rat)=c*0;grind
 | a::p,x=>by
   show ev (c*a::Ord.uG c p) x=_;rw[ai,ai,vY c p x];grind
theorem JD(t:Rat):∀(p:List Rat)(x:Rat),ev (shL t p) x=ev p (x+t)
 | [],x=>rfl
 | a::p,x=>by
   rw[shL,jl,jl,vY,ai,ai,cP,ai,JD t p x];grind
structure Dd(E:List (List Rat))(X aB:Rat)(st:Nat)(t:Rat)(k:Int)(n:Nat):Prop where
 reg:gT E X
 hv:ba (aV E X) (E.length-1) (aF E X)=some (aB,st)
 t2:t.abs*2<=aB
 hn:dm E X aB st t (E.length-1-1) k=some n
section
variable{E:List (List Rat)}{X aB t:Rat}{st n:Nat}{k:Int}
def Dd.zg(w:Dd E X aB st t k n):sy (aV E X) (E.length-1) (aa (aV E X)) (aF E X) aB st:=by
 obtain⟨h2,h5,hl,_⟩:=w.reg.facts;refine To (by rw[aR];omega) ?_ hl w.hv;unfold aF aV;rw[cu (l:=E.map _),cC,cu (l:=E),ay O];rfl
def Dd.aw0(w:Dd E X aB st t k n):st<=n:=by
 have h:=w.hn;unfold dm DC at h;have h1:=(kC (zN (Ps (aV E X) (E.length-1) (aF E X) aB st t.abs (qD k) (E.length-1-1)) (E.length-1)) (1501-st) st).1;split at h
 ·simp only[aI]at h;omega
 ·cases h
def Dd.zero(w:Dd E X aB st t k n)(l s:Nat):kO (aV E X) (E.length-1) (aS (aV E X) (E.length-1) (aF E X) (aX (E.length-1) l)) s=0:=by
 have R:=w.zg;obtain⟨h2,_⟩:=w.reg.facts;exact ad9 R.l0 (by rw[aR];omega) R.hl s
def Dd.bound(w:Dd E X aB st t k n)(l:Nat):0<=jQ (aV E X) (E.length-1) (aF E X) aB st l/\∀i,st-(E.length-1+aa (aV E X))<=i->Bo (jQ (aV E X) (E.length-1) (aF E X) aB st l) (aS (aV E X) (E.length-1) (aF E X) (aX (E.length-1) l) i*aB^i):=by
 have R:=w.zg;obtain⟨h1,h2⟩:=Lk (a:=aN (aV E X) (E.length-1) (aF E X) (aX (E.length-1) l) st) (aB:=aB) (n0:=st-(E.length-1+aa (aV E X))) (E.length-1+aa (aV E X));refine⟨h1,R.bounded (w.zero l) h1 fun i hi1 hi2=>?_⟩;have hs:=R.hs;have h3:=h2 (i-(st-(E.length-1+aa (aV E X)))) O;rw[show st-(E.length-1+aa (aV E X))+(i-(st-(E.length-1+aa (aV E X))))=i by omega]at h3;rw[<-sH (aV E X) (E.length-1) (aF E X) (aX (E.length-1) l) hi2];exact((Bo.abs (co (aN (aV E X) (E.length-1) (aF E X) (aX (E.length-1) l) st) i)).mul (Bo.self (bj (by have:=R.r0;grind) i))).mono h3
def Dd.entry(w:Dd E X aB st t k n){d l N:Nat}(hd:d<E.length-1)(hN:n<=N) :
  np (KY (aV E X) (E.length-1) (aF E X) aB st t k n d l,JS (aV E X) (E.length-1) (aF E X) aB st t k n d l) (fQ (cj d (aS (aV E X) (E.length-1) (aF E X) (aX (E.length-1) l))) (N-d) t):=by
 have R:=w.zg;have hs:=R.hs;have hst:=w.aw0;have h2:t.abs+t.abs<=aB:=by have:=w.t2;grind
 obtain⟨hb0,hb⟩:=w.bound l;have hsh:=vu (n:=n) (d:=d) R.r0 (rL t) h2;obtain⟨hp,hsN⟩:=am0 hb0 R.r0 (show d<=n by omega) hsh (fun i hi=>hb i O) N hN;have htn:=SS (d:=d) hb0 R.r0 (rL t) (show d<=N by omega) hsN;have hS:aQ2 (aV E X) (E.length-1) (aF E X) t n d l=fQ (cj d (aS (aV E X) (E.length-1) (aF E X) (aX (E.length-1) l))) (n-d) t:=am1 _ _ _ _ _;have hO:yc (aV E X) (E.length-1) (aF E X) aB st t n d l=eI (jQ (aV E X) (E.length-1) (aF E X) aB st l) aB n d t.abs:=rfl;unfold KY JS np;rw[hS,hO];obtain⟨p1,p2⟩:=hp;generalize fQ (cj d (aS (aV E X) (E.length-1) (aF E X) (aX (E.length-1) l))) (N-d) t=z at *;generalize fQ (cj d (aS (aV E X) (E.length-1) (aF E X) (aX (E.length-1) l))) (n-d) t=y at *;generalize eI (jQ (aV E X) (E.length-1) (aF E X) aB st l) aB n d t.abs=T at *;generalize eI (jQ (aV E X) (E.length-1) (aF E X) aB st l) aB N d t.abs=T' at *;have e1:=tQ (y + -T) k.toNat;have e2:=Dv (y+T) k.toNat
 constructor<;>dsimp only <;> grind
end
end Go.Sy
namespace Ord
def iH(a b t:Rat):Prop:=(a<=t/\t<=b)\/(b<=t/\t<=a)
theorem jl:∀(p q:List Rat)(x:Rat),ev (jN p q) x=ev p x+ev q x
 | [],q,x=>by rw[jN,cP];grind
 | a::p,[],x=>by rw[jN,cP];grind
 | a::p,b::q,x=>by rw[jN,ai,ai,ai,jl p q x];grind
theorem vY(c:Rat):∀(p:List Rat)(x:Rat),ev (uG c p) x=c*ev p x
 | [],x=>by show(0:Rat)=c*0;grind
 | a::p,x=>by
   show ev (c*a::uG c p) x=_;rw[ai,ai,vY c p x];grind
theorem JD(t:Rat):∀(p:List Rat)(x:Rat),ev (shL t p) x=ev p (x+t)
 | [],x=>rfl
 | a::p,x=>by
   rw[shL,jl,jl,vY,ai,ai,cP,ai,JD t p x];grind
def aB1(a:Rat)(p:List Rat)(x:Rat):ev (rG (a::p)) x=ev p x+x*ev (rG p) x:=by
 rw[rG,jl,ai];grind
theorem pT:∀(p q:List Rat),(∀k,co p k=co q k)->∀x,ev p x=ev q x
 | [],[],_,_=>rfl
 | [],b::q,h,x=>by
   have h0:(0:Rat)=b:=h 0;have:=pT [] q (fun k=>h (k+1)) x;rw[cP]at this;rw[cP,ai,<-this,<-h0];grind
 | a::p,[],h,x=>by
   have h0:a=0:=h 0;have:=pT p [] (fun k=>h (k+1)) x;rw[cP]at this;rw[cP,ai,this,h0];grind
 | a::p,b::q,h,x=>by
   have h0:a=b:=h 0;rw[ai,ai,pT p q (fun k=>h (k+1)) x,h0]
def vec(P:List Rat)(t:Rat)(i:Nat):Rat:=ev (jz P i) t
def Kp(P Q:List Rat)(t:Rat)(i:Nat):vec (jN P Q) t i=vec P t i+vec Q t i:=by
 unfold vec;rw[<-jl];refine pT _ _ (fun k=>?_) t;rw[gu,so,gu,gu];unfold cj;rw[so];grind
def QB(c:Rat)(P:List Rat)(t:Rat)(i:Nat):vec (uG c P) t i=c*vec P t i:=by
 unfold vec;rw[<-vY];refine pT _ _ (fun k=>?_) t;rw[gu,Pd,gu];unfold cj;rw[Pd];grind
def Lt(c:Rat)(P:List Rat)(t:Rat)(i:Nat):vec (shL c P) t i=vec P (t+c) i:=by
 unfold vec;rw[<-JD];refine pT _ _ (fun k=>?_) t;rw[gu,PW,mF,Vy (PW c P)]
theorem Lf(R:Rat)(hR:0<=R):∀P:List Rat,∃b,∀t,Bo R t->Bo b (ev P t)
 | []=>⟨0,fun t _=>Bo.zero Rat.le_refl⟩
 | a::P=>by
   obtain⟨b,hb⟩:=Lf R hR P;exact⟨b*R+a.abs,fun t ht=>by rw[ai];exact((hb t ht).mul ht).add (Bo.abs a)⟩
def Nn(h:Rat):0<=h*h:=by
 rcases Rat.le_total (a:=0) (b:=h)with k | k
 ·exact Rat.mul_nonneg k k
 ·have:=Rat.mul_nonneg (a:=-h) (b:=-h) (by grind) (by grind);grind
theorem OZ(R:Rat)(hR:0<=R):∀P:List Rat,∃c,0<=c/\∀t h,Bo R t->Bo R (t+h)->Bo (c*(h*h)) (ev P (t+h)-ev P t-h*ev (rG P) t)
 | []=>⟨0,Rat.le_refl,fun t h _ _=>by
   rw[show ev [] (t+h)-ev [] t-h*ev (rG []) t=0 by show(0:Rat)-0-h*0=0;grind];exact Bo.zero (by grind)⟩
 | a::P=>by
   obtain⟨c,hc,ih⟩:=OZ R hR P;obtain⟨b,hb⟩:=Lf R hR (rG P);have hb0:=(hb 0 (Bo.zero hR)).nn;have hRc:=Rat.mul_nonneg hR hc;refine⟨R*c+b,by grind,fun t h ht hth=>?_⟩;have h1:=hth.mul (ih t h ht hth);have h2:=(Bo.self (Nn h)).mul (hb t ht);rw[ai,ai,aB1];have e:ev P (t+h)*(t+h)+a-(ev P t*t+a)-h*(ev P t+t*ev (rG P) t)=(t+h)*(ev P (t+h)-ev P t-h*ev (rG P) t)+h*h*ev (rG P) t:=by grind
   rw[e];exact(h1.add h2).mono (by grind)
theorem Ia(R:Rat)(hR:0<=R)(P:List Rat):∀m:Nat,∃c,0<=c/\∀i,i<m->∀t h,Bo R t->Bo R (t+h)->Bo (c*(h*h)) (vec P (t+h) i-vec P t i-h*vec P t (i+1))
 | 0=>⟨0,Rat.le_refl,fun i h=>absurd h (Nat.not_lt_zero _)⟩
 | m+1=>by
   obtain⟨c,hc,ih⟩:=Ia R hR P m;obtain⟨c',hc',ih'⟩:=OZ R hR (jz P m);refine⟨c+c',by grind,fun i hi t h ht hth=>?_⟩;have hh:=Nn h;have g1:=Rat.mul_nonneg hc hh;have g2:=Rat.mul_nonneg hc' hh;rcases Nat.lt_or_ge i m with h1 | h1
   ·exact(ih i h1 t h ht hth).mono (by grind)
   ·obtain rfl:i=m:=O
    exact Bo.mono (ih' t h ht hth) (by grind)
theorem Oi{y:Rat}(hy:0<=y):∀J:Nat,2*((J:Rat)*y)<=1->(1+y)^J<=1+2*((J:Rat)*y)
 | 0,_=>by rw[Rat.pow_zero];have:((0:Nat):Rat)=0:=by decide +kernel
           rw[this];grind
 | J+1,h=>by
   have hJ:(0:Rat)<=(J:Rat):=Rat.natCast_nonneg;rw[qw]at h|-;have hJy:=Rat.mul_nonneg hJ hy;have ih:=Oi hy J (by grind);rw[Rat.pow_succ];have h1:=Rat.mul_le_mul_of_nonneg_right ih (show 0<=1+y by grind);have h2:=Rat.mul_le_mul_of_nonneg_right (show 2*((J:Rat)*y)<=1 by grind) hy
   grind
def Wz(E:List (List Rat))(m:Nat)(t:Rat)(z:Nat->Rat):Rat:=sm (fun i=>ev (E.getD i []) t*z i) (m+1)
def Ip{x y:Rat}(c:Rat)(hc:0<=c)(h:∀n:Nat,1<=n->x<=y+c/(n:Rat)):x<=y:=by
 refine Rat.not_lt.1 fun hlt=>?_
 obtain⟨n,hn⟩:∃n:Nat,c/(x-y)<(n:Rat):=by
  refine⟨((c/(x-y)).ceil.toNat)+1,?_⟩;have h1:=Rat.le_ceil (x:=c/(x-y))
  have h3:(((c/(x-y)).ceil:Int):Rat)<=(((c/(x-y)).ceil.toNat:Nat):Rat):=by
   have:(c/(x-y)).ceil<=(((c/(x-y)).ceil.toNat:Nat):Int):=O
   have:=Rat.intCast_le_intCast.2 this
   exact_mod_cast this
  rw[qw];generalize c/(x-y)=v at *
  grind
 have hd:0<x-y:=by grind
 have h1:c/(x-y)*(x-y)=c:=Rat.div_mul_cancel (by grind)
 have hn0:(0:Rat)<(n:Rat):=by
  have:0<=c/(x-y):=by
   refine Rat.le_of_mul_le_mul_right (c:=x-y) ?_ hd;rw[h1];grind
  grind
 have hn1:1<=n:=by
  rcases Nat.eq_zero_or_pos n with h0 | h0
  ·subst h0;exact absurd hn0 (by decide +kernel)
  ·exact h0
 have h2:=h n hn1;have h3:c/(n:Rat)*(n:Rat)=c:=Rat.div_mul_cancel (by grind);have h4:=Rat.mul_lt_mul_of_pos_right hn hd;have h5:=Rat.mul_le_mul_of_nonneg_right h2 (show 0<=(n:Rat) by grind);generalize c/(n:Rat)=u at *;generalize c/(x-y)=v at *
 grind
end Ord
namespace Ord
def Bo.of_le{x y:Rat}(h1:x<=y)(h2:-x<=y):Bo y x:=by constructor<;>grind
def lz{x p:Rat}(hx:0<=x)(hp:0<p):0<=x/p:=by
 refine Rat.le_of_mul_le_mul_right (c:=p) ?_ hp;rw[Rat.div_mul_cancel (by grind)];grind
def Bo.LG{c A y:Rat}(hc:0<c)(h:Bo (c*A) (c*y)):Bo A y:=by
 obtain⟨h1,h2⟩:=h
 constructor
 ·exact Rat.le_of_mul_le_mul_left (c:=c) (by grind) hc
 ·exact Rat.le_of_mul_le_mul_left (c:=c) (by grind) hc
def Bo.quot{l A lam y:Rat}(hlam:0<lam)(hl:lam<=l.abs)(h:Bo A (l*y)):Bo (A/lam) y:=by
 have hA:=h.nn;have hq:=lz hA hlam;have e:lam*(A/lam)=A:=by rw[Rat.mul_comm];exact Rat.div_mul_cancel (by grind)
 have h1:=Rat.mul_le_mul_of_nonneg_right hl hq;rw[e]at h1;have h2:=h.mono h1;unfold Rat.abs at h2 hl;split at h2
 ·rename_i h0;rw[if_pos h0]at hl;exact Bo.LG (by grind) h2
 ·rename_i h0;rw[if_neg h0]at hl;have h3:Bo ((-l)*(A/lam)) ((-l)*y):=by have:=h2.neg;rwa[show -(l*y)=(-l)*y by grind]at this
  exact Bo.LG (by grind) h3
def VG(E:List (List Rat))(m:Nat)(t:Rat)(z:Nat->Rat):ev (E.getD m []) t*z m=Wz E m t z-sm (fun i=>ev (E.getD i []) t*z i) m:=by
 unfold Wz;rw[sm];grind
section
variable{E:List (List Rat)}{m:Nat}{lam S dl:Rat}
def bW3{P:List Rat}{a b G0 L:Rat}{Q:Nat}(hlam0:0<lam)(hS:0<=S)(hG:0<=G0)(hdl:0<=dl)
  (hres:∀t,iH a b t->Bo dl (Wz E m t (vec P t))) (hlam:∀t,iH a b t->lam<=(ev (E.getD m []) t).abs) (hSb:∀t,iH a b t->∀i,i<m->Bo S (ev (E.getD i []) t))
  (h0:∀i,i<m->Bo G0 (vec P a i)) (hL:Bo L (b-a)) (hQ1:1<=Q) (hQ:2*(L*(1+(m:Rat)*S/lam))<=(Q:Rat)) :
  ∀i,i<m->Bo (2^Q*(G0+L*(dl/lam))) (vec P b i):=by
 have hL0:=hL.nn;have hm0:=ub m;have hq:=lz hdl hlam0;have hk:=lz (Rat.mul_nonneg hm0 hS) hlam0;generalize hK:1+(m:Rat)*S/lam=K at hQ;have hK1:1<=K:=by grind
 generalize hd:dl/lam=d at *;have hR:0<=a.abs+b.abs:=by have:=dq a;have:=dq b;grind
 have ha:=Bo.abs a;have hb:=Bo.abs b;obtain⟨c,hc,hsl⟩:=Ia (a.abs+b.abs) hR P m
 have hin:∀t,iH a b t->Bo (a.abs+b.abs) t:=fun t ht=>by
  have h1:=ha;have h2:=hb;have h3:=dq a;have h4:=dq b;unfold Bo at *;rcases ht with⟨k1,k2⟩ | ⟨k1,k2⟩<;>constructor<;>grind
 have key:∀J:Nat,1<=J->∀i,i<m->Bo (2^Q*(G0+L*d)+2^Q*(c*(L*L))/(J:Rat)) (vec P b i):=by
  intro J hJ;obtain⟨n,hn⟩:∃n:Nat,n=J*Q:=⟨_,rfl⟩
  have hn1:1<=n:=by rw[hn];exact Nat.mul_pos hJ hQ1
  have hnr:(1:Rat)<=(n:Rat):=by have:=Ec hn1;have e:((1:Nat):Rat)=1:=by decide +kernel
                                rw[e]at this;exact this
  have hJr:(1:Rat)<=(J:Rat):=by have:=Ec hJ;have e:((1:Nat):Rat)=1:=by decide +kernel
                                rw[e]at this;exact this
  have hQr:(1:Rat)<=(Q:Rat):=by have:=Ec hQ1;have e:((1:Nat):Rat)=1:=by decide +kernel
                                rw[e]at this;exact this
  have hnJ:(n:Rat)=(J:Rat)*(Q:Rat):=by rw[hn];exact_mod_cast rfl
  obtain⟨h,hh⟩:∃h:Rat,h*(n:Rat)=b-a:=⟨(b-a)/n,Rat.div_mul_cancel (by grind)⟩
  obtain⟨g,hg⟩:∃g:Rat,g*(n:Rat)=L:=⟨L/n,Rat.div_mul_cancel (by grind)⟩
  have hg0:0<=g:=by
   refine Rat.le_of_mul_le_mul_right (c:=(n:Rat)) ?_ (by grind);rw[hg];grind
  have hhg:Bo g h:=by
   refine Bo.LG (c:=(n:Rat)) (by grind) ?_;rw[Rat.mul_comm,Rat.mul_comm (n:Rat) h,hh,hg];exact hL
  have hhh:h*h<=g*g:=(hhg.mul hhg).2
  have hbt:∀k:Nat,k<=n->iH a b (a+(k:Rat)*h):=fun k hk=>by
   have hk1:=Ec hk;have hk0:=ub k;rcases Rat.le_total (a:=0) (b:=h)with p | p
   ·left
    have e1:=Rat.mul_nonneg hk0 p;have e2:=Rat.mul_nonneg (a:=(n:Rat)-k) (b:=h) (by grind) p
    constructor<;>grind
   ·right
    have e1:=Rat.mul_nonneg (a:=(k:Rat)) (b:=-h) hk0 (by grind);have e2:=Rat.mul_nonneg (a:=(n:Rat)-k) (b:=-h) (by grind) (by grind)
    constructor<;>grind
  have hcw:=Rat.mul_nonneg hc (Nn g);have hgd:=Rat.mul_nonneg hg0 hq;have hgK:0<=g*K:=Rat.mul_nonneg hg0 (by grind);generalize hw:g*d+c*(g*g)=w;have hw0:0<=w:=by grind
  have step:∀k:Nat,k<=n->∀i,i<m->Bo ((1+g*K)^k*(G0+(k:Rat)*w)) (vec P (a+(k:Rat)*h) i):=by
   intro k
   induction k with
   | zero=>
     intro _ i hi;have e:((0:Nat):Rat)=0:=by decide +kernel
     rw[e,Rat.pow_zero,show a+0*h=a by grind];exact(h0 i hi).mono (by grind)
   | succ k ih=>
     intro hk i hi;have ih:=ih O;have hbk:=hbt k O;have hbk1:=hbt (k+1) hk;have e1:a+((k+1:Nat):Rat)*h=a+(k:Rat)*h+h:=by rw[qw];grind
     rw[e1]at hbk1|-;have hsl1:=hsl i hi (a+(k:Rat)*h) h (hin _ hbk) (hin _ hbk1);have hr:=hres _ hbk;have hl:=hlam _ hbk;have hs:=hSb _ hbk;generalize a+(k:Rat)*h=t at *;have hk0:=ub k;have hkw:=Rat.mul_nonneg hk0 hw0;have hp1:=one_le_pow (x:=1+g*K) (by grind) k;have hGk:0<=(1+g*K)^k*(G0+(k:Rat)*w):=Rat.mul_nonneg (by grind) (by grind);rw[Rat.pow_succ,qw];have hX:((k:Rat)+1)*w=(k:Rat)*w+w:=by grind
     rw[hX];generalize hGG:(1+g*K)^k*(G0+(k:Rat)*w)=G at *
     have hnext:Bo (K*G+d) (vec P t (i+1)):=by
      rcases Nat.lt_or_ge (i+1) m with h1 | h1
      ·refine(ih (i+1) h1).mono ?_;have:=Rat.mul_le_mul_of_nonneg_right hK1 hGk
       grind
      ·obtain rfl:m=i+1:=O
       have h2:Bo (sm (fun _=>S*G) (i+1)) (sm (fun j=>ev (E.getD j []) t*vec P t j) (i+1)):=Bo.sm fun j hj=>(hs j hj).mul (ih j hj);rw[sx]at h2;have h3:=hr.sub h2;rw[<-VG]at h3;refine(Bo.quot hlam0 hl h3).mono ?_
       have e2:(dl+((i+1:Nat):Rat)*(S*G))/lam=dl/lam+((i+1:Nat):Rat)*S/lam*G:=by
        rw[Rat.div_def,Rat.div_def,Rat.div_def];grind
       rw[e2,hd,<-hK];grind
     have h4:=hhg.mul hnext;have h5:=((ih i hi).add h4).add (hsl1.mono (show c*(h*h)<=c*(g*g)from Rat.mul_le_mul_of_nonneg_left hhh hc));rw[show vec P t i+h*vec P t (i+1)+(vec P (t+h) i-vec P t i-h*vec P t (i+1))=vec P (t+h) i by grind]at h5;refine h5.mono ?_
     have h6:w<=(1+g*K)^k*(1+g*K)*w:=by
      have q1:=ey hp1 (show 1<=1+g*K by grind) (by decide +kernel) (by grind);have:=Rat.mul_le_mul_of_nonneg_right q1 hw0
      grind
     have e3:(1+g*K)^k*(1+g*K)*(G0+((k:Rat)*w+w))=G*(1+g*K)+(1+g*K)^k*(1+g*K)*w:=by rw[<-hGG];grind
     rw[e3];grind
  intro i hi;have hfin:=step n (Nat.le_refl _) i hi;rw[show a+(n:Rat)*h=b by grind]at hfin;refine hfin.mono ?_
  have hy:(1+g*K)^n<=2^Q:=by
   rw[hn,pow_mul'];refine ml (bj (by grind) J) ?_ Q;have hx:(J:Rat)*(g*K)*(Q:Rat)=L*K:=by rw[<-hg,hnJ];grind
   have hx2:2*((J:Rat)*(g*K))<=1:=by
    refine Rat.le_of_mul_le_mul_right (c:=(Q:Rat)) ?_ (by grind);rw[show 2*((J:Rat)*(g*K))*(Q:Rat)=2*((J:Rat)*(g*K)*(Q:Rat)) by grind,hx];grind
   have:=Oi hgK J hx2
   grind
  have hnw:(n:Rat)*w<=L*d+c*(L*L)/(J:Rat):=by
   have e1:(n:Rat)*w=L*d+c*(L*g):=by rw[<-hw,<-hg];grind
   rw[e1]
   have e2:g<=L/(J:Rat):=by
    refine Rat.le_of_mul_le_mul_right (c:=(J:Rat)) ?_ (by grind);rw[Rat.div_mul_cancel (by grind),<-hg,hnJ];have:=Rat.mul_le_mul_of_nonneg_left hQr (show 0<=g*(J:Rat)from Rat.mul_nonneg hg0 (by grind))
    grind
   have e3:=Rat.mul_le_mul_of_nonneg_left e2 (Rat.mul_nonneg hc hL0);have e4:c*(L*L)/(J:Rat)=c*L*(L/(J:Rat)):=by rw[Rat.div_def,Rat.div_def];grind
   rw[e4];grind
  have hnn:=Rat.mul_nonneg (show(0:Rat)<=(n:Rat) by grind) hw0;have h2:=ey hy (show G0+(n:Rat)*w<=G0+(L*d+c*(L*L)/(J:Rat)) by grind) (bj (by grind) n) (by grind)
  have e5:(2:Rat)^Q*(G0+(L*d+c*(L*L)/(J:Rat)))=2^Q*(G0+L*d)+2^Q*(c*(L*L))/(J:Rat):=by
   rw[Rat.div_def,Rat.div_def];grind
  grind
 intro i hi;have hc2:(0:Rat)<=2^Q*(c*(L*L)):=Rat.mul_nonneg (bj (by decide +kernel) Q) (Rat.mul_nonneg hc (Nn L));exact Bo.of_le (Ip _ hc2 fun n hn=>(key n hn i hi).2) (Ip _ hc2 fun n hn=>by have:=(key n hn i hi).1;grind)
end
end Ord
namespace Ord
section
variable{E:List (List Rat)}{m:Nat}{lam S dl:Rat}
def Pc(E:List (List Rat))(m:Nat)(lam S dl a:Rat)(z:Nat->Rat)(b:Rat)(w:Nat->Rat):Prop:=
 ∃P:List Rat,(∀i,i<m->vec P a i=z i)/\(∀i,i<m->vec P b i=w i)/\∀t,iH a b t->Bo dl (Wz E m t (vec P t))/\lam<=(ev (E.getD m []) t).abs/\∀i,i<m->Bo S (ev (E.getD i []) t)
def Path(E:List (List Rat))(m:Nat)(lam S dl:Rat):Nat->Rat->(Nat->Rat)->Rat->(Nat->Rat)->Prop
 | 0,a,z,b,w=>a=b/\∀i,i<m->z i=w i
 | n+1,a,z,b,w=>∃c v,iH a b c/\Pc E m lam S dl a z c v/\Path E m lam S dl n c v b w
def iH.symm{a b t:Rat}(h:iH a b t):iH b a t:=by unfold iH at *;exact Or.symm h
def iH.left(a b:Rat):iH a b a:=by unfold iH;grind
def iH.right(a b:Rat):iH a b b:=by unfold iH;grind
def iH.bo{a b t L:Rat}(h:iH a b t)(hL:Bo L (b-a)):Bo L (t-a)/\Bo L (b-t):=by
 unfold iH at h;unfold Bo at *;rcases h with⟨h1,h2⟩ | ⟨h1,h2⟩<;>refine⟨⟨?_,?_⟩,⟨?_,?_⟩⟩<;>grind
def iH.inner{a b c t:Rat}(h:iH a b c)(k:iH a c t):iH a b t:=by unfold iH at *;grind
def iH.outer{a b c t:Rat}(h:iH a b c)(k:iH c b t):iH a b t:=by unfold iH at *;grind
def iH.two{a b c t:Rat}(h:iH a b c)(k:iH a b t):(iH a t c/\iH c b t)\/(iH a c t/\iH t b c):=by unfold iH at *;grind
def iH.rest{a b c t:Rat}(h:iH a b c)(k:iH a c t):iH t b c:=by unfold iH at *;grind
def iH.same{a t:Rat}(h:iH a a t):t=a:=by unfold iH at h;grind
def Pc.symm{a b:Rat}{z w:Nat->Rat}(h:Pc E m lam S dl a z b w):Pc E m lam S dl b w a z:=by
 obtain⟨P,h1,h2,h3⟩:=h;exact⟨P,h2,h1,fun t ht=>h3 t ht.symm⟩
def Pc.congr{a b:Rat}{z z' w:Nat->Rat}(h:Pc E m lam S dl a z b w)(hz:∀i,i<m->z i=z' i):Pc E m lam S dl a z' b w:=by
 obtain⟨P,h1,h2,h3⟩:=h;exact⟨P,fun i hi=>by rw[h1 i hi,hz i hi],h2,h3⟩
def Path.congr{n:Nat}{a b:Rat}{z z' w:Nat->Rat}(h:Path E m lam S dl n a z b w)(hz:∀i,i<m->z i=z' i):Path E m lam S dl n a z' b w:=by
 cases n with
 | zero=>exact⟨h.1,fun i hi=>by rw[<-hz i hi,h.2 i hi]⟩
 | succ n=>
   obtain⟨c,v,hc,hp,hr⟩:=h;exact⟨c,v,hc,hp.congr hz,hr⟩
def Pc.mono{lam' S' dl' a b:Rat}{z w:Nat->Rat}(h:Pc E m lam S dl a z b w)(h1:lam'<=lam)(h2:S<=S')(h3:dl<=dl'):Pc E m lam' S' dl' a z b w:=by
 obtain⟨P,p1,p2,p3⟩:=h;exact⟨P,p1,p2,fun t ht=>⟨(p3 t ht).1.mono h3,Rat.le_trans h1 (p3 t ht).2.1,fun i hi=>((p3 t ht).2.2 i hi).mono h2⟩⟩
theorem Path.mono{lam' S' dl':Rat}(h1:lam'<=lam)(h2:S<=S')(h3:dl<=dl'):∀{n:Nat}{a b:Rat}{z w:Nat->Rat},Path E m lam S dl n a z b w->Path E m lam' S' dl' n a z b w
 | 0,_,_,_,_,h=>h
 | n+1,_,_,_,_,⟨c,v,hc,hp,hr⟩=>⟨c,v,hc,hp.mono h1 h2 h3,Path.mono h1 h2 h3 hr⟩
theorem Path.snoc:∀{n:Nat}{a b c:Rat}{z w u:Nat->Rat},Path E m lam S dl n a z b w->iH a c b->Pc E m lam S dl b w c u->Path E m lam S dl (n+1) a z c u
 | 0,a,b,c,z,w,u,⟨h1,h2⟩,hb,hp=>by
   subst h1;exact⟨c,u,iH.right _ _,hp.congr fun i hi=>(h2 i hi).symm,rfl,fun _ _=>rfl⟩
 | n+1,a,b,c,z,w,u,⟨g,v,hg,hv,hr⟩,hb,hp=>⟨g,v,hb.inner hg,hv,hr.snoc ((hb.inner hg).two hb |>.elim (fun h=>h.2) fun h=>by
    have h1:=hg;have h2:=hb;have h3:=h.1;have h4:=h.2;unfold iH at *;grind) hp⟩
theorem Path.rev:∀{n:Nat}{a b:Rat}{z w:Nat->Rat},Path E m lam S dl n a z b w->Path E m lam S dl n b w a z
 | 0,_,_,_,_,⟨h1,h2⟩=>⟨h1.symm,fun i hi=>(h2 i hi).symm⟩
 | n+1,a,b,z,w,⟨c,v,hc,hp,hr⟩=>hr.rev.snoc hc.symm hp.symm
theorem Path.split:∀{n:Nat}{a b x:Rat}{z w:Nat->Rat},Path E m lam S dl n a z b w->iH a b x->∃v n1 n2,n1<=n+1/\n2<=n+1/\Path E m lam S dl n1 a z x v/\Path E m lam S dl n2 x v b w
 | 0,a,b,x,z,w,⟨h1,h2⟩,hx=>by
   subst h1;obtain rfl:=hx.same;exact⟨z,0,0,O,O,⟨rfl,fun _ _=>rfl⟩,⟨rfl,h2⟩⟩
 | n+1,a,b,x,z,w,⟨c,v,hc,hp,hr⟩,hx=>by
   rcases hc.two hx with⟨k1,k2⟩ | ⟨k1,k2⟩
   ·obtain⟨u,n1,n2,e1,e2,p1,p2⟩:=hr.split k2;exact⟨u,n1+1,n2,O,O,⟨c,v,k1,hp,p1⟩,p2⟩
   ·obtain⟨P,q1,q2,q3⟩:=hp;refine⟨vec P x,1,n+1,O,O,⟨x,vec P x,iH.right _ _,⟨P,q1,fun _ _=>rfl,fun t ht=>q3 t (k1.inner ht)⟩,rfl,fun _ _=>rfl⟩,⟨c,v,k2,⟨P,fun _ _=>rfl,q2,fun t ht=>q3 t (k1.outer ht)⟩,hr⟩⟩
def aF1(t:Rat)(P Q:List Rat):Wz E m t (vec (jN P (uG (-1) Q)) t)=Wz E m t (vec P t)-Wz E m t (vec Q t):=by
 unfold Wz
 have e:∀n,sm (fun i=>ev (E.getD i []) t*vec (jN P (uG (-1) Q)) t i) n=sm (fun i=>ev (E.getD i []) t*vec P t i) n-sm (fun i=>ev (E.getD i []) t*vec Q t i) n:=by
  intro n
  induction n with
  | zero=>simp only[sm];grind
  | succ n ih=>simp only[sm];rw[ih,Kp,QB];grind
 exact e _
def En{P P':List Rat}{a b G L:Rat}{Q:Nat}(hlam0:0<lam)(hS:0<=S)(hG:0<=G)(hdl:0<=dl)(hL:Bo L (b-a))(hQ1:1<=Q)(hQ:2*(L*(1+(m:Rat)*S/lam))<=(Q:Rat))
  (h:∀t,iH a b t->Bo dl (Wz E m t (vec P t))/\lam<=(ev (E.getD m []) t).abs/\∀i,i<m->Bo S (ev (E.getD i []) t)) (h':∀t,iH a b t->Bo dl (Wz E m t (vec P' t)))
  (h0:∀i,i<m->Bo G (vec P a i-vec P' a i)):∀i,i<m->Bo (2^Q*(G+L*((dl+dl)/lam))) (vec P b i-vec P' b i):=by
 have hg:=bW3 (E:=E) (m:=m) (lam:=lam) (S:=S) (dl:=dl+dl) (P:=jN P (uG (-1) P')) (a:=a) (b:=b) (G0:=G) (L:=L) (Q:=Q) hlam0 hS hG (by grind)
  (fun t ht=>by rw[aF1];exact(h t ht).1.sub (h' t ht)) (fun t ht=>(h t ht).2.1) (fun t ht=>(h t ht).2.2)
  (fun i hi=>by rw[Kp,QB];have:=h0 i hi;rwa[show vec P a i + -1*vec P' a i=vec P a i-vec P' a i by grind]) hL hQ1 hQ
 intro i hi;have:=hg i hi
 rwa[Kp,QB,show vec P b i + -1*vec P' b i=vec P b i-vec P' b i by grind]at this
def Path.unique{L:Rat}{Q:Nat}(hlam0:0<lam)(hS:0<=S)(hdl:0<=dl)(hL0:0<=L)(hQ1:1<=Q)(hQ:2*(L*(1+(m:Rat)*S/lam))<=(Q:Rat)) :
  ∀(k n1 n2:Nat),n1+n2=k->∀(a b G:Rat)(z z' w w':Nat->Rat),Bo L (b-a)->Path E m lam S dl n1 a z b w->Path E m lam S dl n2 a z' b w'->0<=G->(∀i,i<m->Bo G (z i-z' i)) ->
   ∀i,i<m->Bo ((2^Q)^k*(G+(k:Rat)*(L*((dl+dl)/lam)))) (w i-w' i):=by
 have he:=Rat.mul_nonneg hL0 (lz (x:=dl+dl) (by grind) hlam0);generalize heq:L*((dl+dl)/lam)=e at *;have hM:(1:Rat)<=2^Q:=one_le_pow (by decide +kernel) Q;intro k
 induction k with
 | zero=>
   intro n1 n2 hn a b G z z' w w' hL h1 h2 hG h0 i hi;obtain rfl:n1=0:=O
   obtain rfl:n2=0:=O
   rw[<-h1.2 i hi,<-h2.2 i hi,Rat.pow_zero];have e0:((0:Nat):Rat)=0:=by decide +kernel
   rw[e0];exact(h0 i hi).mono (by grind)
 | succ k ih=>
   intro n1 n2 hn a b G z z' w w' hL h1 h2 hG h0 i hi;have hk0:=ub k;have hke:=Rat.mul_nonneg hk0 he;have hMk:=one_le_pow hM k;have hMk0:=bj (x:=(2:Rat)^Q) (by grind) k
   have hbig:∀G':Rat,0<=G'->G'<=2^Q*(G+e)->(2^Q)^k*(G'+(k:Rat)*e)<=(2^Q)^(k+1)*(G+((k+1:Nat):Rat)*e):=fun G' hG' hle=>by
    rw[Rat.pow_succ,qw]
    have q1:=Rat.mul_le_mul_of_nonneg_left (show G'+(k:Rat)*e<=2^Q*(G+((k:Rat)+1)*e) by
     have:=Rat.mul_le_mul_of_nonneg_right hM hke
     grind) hMk0
    grind
   have hsame:G<=2^Q*(G+e):=by
    have:=Rat.mul_le_mul_of_nonneg_right hM (show 0<=G+e by grind)
    grind
   have hstep:0<=2^Q*(G+e):=Rat.mul_nonneg (by grind) (by grind);cases n1 with
   | zero=>
     cases n2 with
     | zero=>omega
     | succ n2=>
       obtain⟨hab,hzw⟩:=h1;subst hab;obtain⟨c,v,hc,⟨P,p1,p2,p3⟩,hr⟩:=h2;obtain rfl:=hc.same;have h4:=ih 0 n2 O c c G z z' w w' hL ⟨rfl,hzw⟩ (hr.congr fun i hi=>by rw[<-p2 i hi,p1 i hi]) hG h0 i hi;exact h4.mono (hbig G hG hsame)
   | succ n1=>
     cases n2 with
     | zero=>
       obtain⟨hab,hzw⟩:=h2;subst hab;obtain⟨c,v,hc,⟨P,p1,p2,p3⟩,hr⟩:=h1;obtain rfl:=hc.same;have h4:=ih n1 0 O c c G z z' w w' hL (hr.congr fun i hi=>by rw[<-p2 i hi,p1 i hi]) ⟨rfl,hzw⟩ hG h0 i hi;exact h4.mono (hbig G hG hsame)
     | succ n2=>
       obtain⟨c,v,hc,⟨P,p1,p2,p3⟩,hr⟩:=h1;obtain⟨c',v',hc',⟨P',p1',p2',p3'⟩,hr'⟩:=h2;rcases hc.two hc' with⟨k1,k2⟩ | ⟨k1,k2⟩
       ·
        have h5:=En (E:=E) (P:=P) (P':=P') hlam0 hS hG hdl (hc.bo hL).1 hQ1 hQ p3 (fun t ht=>(p3' t (k1.inner ht)).1) (fun i hi=>by rw[p1 i hi,p1' i hi];exact h0 i hi);rw[heq]at h5;have h6:=ih n1 (n2+1) O c b (2^Q*(G+e)) v (vec P' c) w w' (hc.bo hL).2 hr ⟨c',v',k2,⟨P',fun _ _=>rfl,p2',fun t ht=>p3' t (k1.outer ht)⟩,hr'⟩ hstep (fun i hi=>by have:=h5 i hi;rwa[p2 i hi]at this) i hi;exact h6.mono (hbig _ hstep Rat.le_refl)
       ·have h5:=En (E:=E) (P:=P) (P':=P') hlam0 hS hG hdl (hc'.bo hL).1 hQ1 hQ (fun t ht=>p3 t (k1.inner ht)) (fun t ht=>(p3' t ht).1) (fun i hi=>by rw[p1 i hi,p1' i hi];exact h0 i hi);rw[heq]at h5;have h6:=ih (n1+1) n2 O c' b (2^Q*(G+e)) (vec P c') v' w w' (hc'.bo hL).2 ⟨c,v,k2,⟨P,fun _ _=>rfl,p2,fun t ht=>p3 t (k1.outer ht)⟩,hr⟩ hr' hstep (fun i hi=>by have:=h5 i hi;rwa[p2' i hi]at this) i hi;exact h6.mono (hbig _ hstep Rat.le_refl)
end
end Ord
namespace Ord
def Ins(p:Rat×Rat)(z:Rat):Prop:=p.1<=z/\z<=p.2
def zO(E:List (List Rat))(m:Nat)(a:Rat)(Y:Nat->Rat)(b:Rat)(V:Nat->Rat×Rat):Prop:=
 ∃(lam S:Rat)(n:Nat),0<lam/\0<=S/\∀dl:Rat,0<dl->∃w,Path E m lam S dl n a Y b w/\∀i,i<m->Ins (V i) (w i)
def Oc(E:List (List Rat))(m j:Nat)(a:Rat)(Y:Nat->Rat)(c x:Rat)(V:Nat->Rat×Rat):Prop:=
 ∃(lam S:Rat)(n:Nat),0<lam/\0<=S/\∀dl:Rat,0<dl->∃w u,Path E m lam S dl n a Y c w/\Pc E m lam S dl c w x u/\∀i,i<j->Ins (V i) (u i)
def bU8(a c x:Rat):iH a x c\/iH a c x\/iH c x a:=by unfold iH;grind
def Path.one{E:List (List Rat)}{m:Nat}{lam S dl a b:Rat}{z w:Nat->Rat}(h:Pc E m lam S dl a z b w):Path E m lam S dl 1 a z b w:=⟨b,w,iH.right _ _,h,rfl,fun _ _=>rfl⟩
section
variable{E:List (List Rat)}{m:Nat}{lam S dl:Rat}
def Path.aC1{L:Rat}{Q K:Nat}(hlam0:0<lam)(hS:0<=S)(hdl:0<=dl)(hL0:0<=L)(hQ1:1<=Q)(hQ:2*(L*(1+(m:Rat)*S/lam))<=(Q:Rat))
  {n1 n2:Nat} (hk:n1+n2<=K) {a b G:Rat} {z z' w w':Nat->Rat} (hL:Bo L (b-a)) (h1:Path E m lam S dl n1 a z b w) (h2:Path E m lam S dl n2 a z' b w') (hG:0<=G) (h0:∀i,i<m->Bo G (z i-z' i)) :
   ∀i,i<m->Bo ((2^Q)^K*(G+(K:Rat)*(L*((dl+dl)/lam)))) (w i-w' i):=by
 intro i hi;have h:=Path.unique hlam0 hS hdl hL0 hQ1 hQ (n1+n2) n1 n2 rfl a b G z z' w w' hL h1 h2 hG h0 i hi;have he:=Rat.mul_nonneg hL0 (lz (x:=dl+dl) (by grind) hlam0);refine h.mono ?_;have hM:(1:Rat)<=2^Q:=one_le_pow (by decide +kernel) Q;have e1:=xz hM hk;have e2:=Rat.mul_le_mul_of_nonneg_right (Ec hk) he;have e3:=Rat.mul_nonneg (ub (n1+n2)) he;exact ey e1 (by grind) (bj (by grind) _) (by have:=Rat.mul_nonneg (ub K) he;grind)
def bx0{j:Nat}{a c x:Rat}{Y:Nat->Rat}{V1 V2:Nat->Rat×Rat}(g1:zO E m a Y x V1)(g2:Oc E m j a Y c x V2):∀i,i<m->i<j->(V1 i).1<=(V2 i).2/\(V2 i).1<=(V1 i).2:=by
 obtain⟨l1,S1,n1,hl1,hS1,g1⟩:=g1;obtain⟨l2,S2,n2,hl2,hS2,g2⟩:=g2
 obtain⟨lam,hlam,hla,hlb⟩:∃lam:Rat,0<lam/\lam<=l1/\lam<=l2:=by
  rcases Rat.le_total (a:=l1) (b:=l2)with h | h
  ·exact⟨l1,hl1,Rat.le_refl,h⟩
  ·exact⟨l2,hl2,h,Rat.le_refl⟩
 have hS:0<=S1+S2:=by grind
 have hL0:0<=(x-a).abs+(c-a).abs+(x-c).abs:=by have:=dq (x-a);have:=dq (c-a);have:=dq (x-c);grind
 have b1:=Bo.abs (x-a);have b2:=Bo.abs (c-a);have b3:=Bo.abs (x-c);have c1:=dq (x-a);have c2:=dq (c-a);have c3:=dq (x-c);generalize hLL:(x-a).abs+(c-a).abs+(x-c).abs=L at *;have l1:Bo L (x-a):=b1.mono (by grind);have l2:Bo L (c-a):=b2.mono (by grind);have l3:Bo L (x-c):=b3.mono (by grind);have l4:Bo L (a-c):=by have:=l2.neg;rwa[show -(c-a)=a-c by grind]at this
 obtain⟨Q,hQ1,hQ⟩:∃Q:Nat,1<=Q/\2*(L*(1+(m:Rat)*(S1+S2)/lam))<=(Q:Rat):=by
  generalize 2*(L*(1+(m:Rat)*(S1+S2)/lam))=v;refine⟨v.ceil.toNat+1,O,?_⟩;have h1:=Rat.le_ceil (x:=v)
  have h3:((v.ceil:Int):Rat)<=((v.ceil.toNat:Nat):Rat):=by
   have:v.ceil<=((v.ceil.toNat:Nat):Int):=O
   have:=Rat.intCast_le_intCast.2 this
   exact_mod_cast this
  rw[qw];grind
 obtain⟨K,hK⟩:∃K:Nat,K=n1+n2+n2+4:=⟨_,rfl⟩
 have hM:(1:Rat)<=(2^Q)^K:=one_le_pow (one_le_pow (by decide +kernel) Q) K;have hK0:=ub K
 have key:∀dl:Rat,0<dl->∃w1 u:Nat->Rat,(∀i,i<m->Ins (V1 i) (w1 i))/\(∀i,i<j->Ins (V2 i) (u i))/\∀i,i<m->Bo ((2^Q)^K*((2^Q)^K*((K:Rat)*(L*((dl+dl)/lam)))+(K:Rat)*(L*((dl+dl)/lam)))+(2^Q)^K*((K:Rat)*(L*((dl+dl)/lam)))) (w1 i-u i):=by
  intro dl hdl;obtain⟨w1,p1,i1⟩:=g1 dl hdl;obtain⟨w,u,p2,pc,i2⟩:=g2 dl hdl;have p1:=p1.mono hla (show S1<=S1+S2 by grind) Rat.le_refl;have p2:=p2.mono hlb (show S2<=S1+S2 by grind) Rat.le_refl;have pc:=pc.mono hlb (show S2<=S1+S2 by grind) Rat.le_refl;have he:=Rat.mul_nonneg hK0 (Rat.mul_nonneg hL0 (lz (x:=dl+dl) (by grind) hlam));have hdl0:0<=dl:=by grind
  have uq:=fun {n1 n2:Nat}(hk:n1+n2<=K){a b G:Rat}{z z' w w':Nat->Rat}=>Path.aC1 (E:=E) (m:=m) hlam hS hdl0 hL0 hQ1 hQ hk (a:=a) (b:=b) (G:=G) (z:=z) (z':=z') (w:=w) (w':=w');have hMe:=Rat.mul_nonneg (show 0<=(2^Q)^K by grind) he
  have hMM:(2^Q)^K*((K:Rat)*(L*((dl+dl)/lam)))<=(2^Q)^K*((2^Q)^K*((K:Rat)*(L*((dl+dl)/lam)))):=by
   have:=Rat.mul_le_mul_of_nonneg_right hM hMe
   grind
  have hMMe:=Rat.mul_nonneg (show 0<=(2^Q)^K by grind) hMe;refine⟨w1,u,i1,i2,fun i hi=>?_⟩;rcases bU8 a c x with h | h | h
  ·have h1:=uq (show n1+(n2+1)<=K by omega) (G:=0) l1 p1 (p2.snoc h pc) Rat.le_refl (fun i hi=>by rw[show ∀y:Rat,y-y=0 from fun y=>by grind];exact Bo.zero Rat.le_refl) i hi;exact h1.mono (by grind)
  ·obtain⟨v,k1,k2,e1,e2,q1,q2⟩:=p2.split h;have h1:=uq (show n1+k1<=K by omega) (G:=0) l1 p1 q1 Rat.le_refl (fun i hi=>by rw[show ∀y:Rat,y-y=0 from fun y=>by grind];exact Bo.zero Rat.le_refl) i hi;have h2:=uq (show k2+1<=K by omega) (G:=0) l3 q2.rev (Path.one pc) Rat.le_refl (fun i hi=>by rw[show ∀y:Rat,y-y=0 from fun y=>by grind];exact Bo.zero Rat.le_refl) i hi;have h3:=h1.add h2;rw[show w1 i-v i+(v i-u i)=w1 i-u i by grind]at h3;exact h3.mono (by grind)
  ·obtain⟨v,k1,k2,e1,e2,q1,q2⟩:=(Path.one pc).split h;have h1:=uq (show n2+k1<=K by omega) (G:=0) l4 p2.rev q1 Rat.le_refl (fun i hi=>by rw[show ∀y:Rat,y-y=0 from fun y=>by grind];exact Bo.zero Rat.le_refl);have h2:=uq (show n1+k2<=K by omega) (G:=(2^Q)^K*(0+(K:Rat)*(L*((dl+dl)/lam)))) l1 p1 q2 (by grind) h1 i hi;exact h2.mono (by grind)
 intro i hi hij
 obtain⟨C,hC0,hC⟩:∃C:Rat,0<=C/\∀dl:Rat,(2^Q)^K*((2^Q)^K*((K:Rat)*(L*((dl+dl)/lam)))+(K:Rat)*(L*((dl+dl)/lam)))+(2^Q)^K*((K:Rat)*(L*((dl+dl)/lam)))=C*dl:=by
  have hi:=lz (x:=1) (p:=lam) (by decide +kernel) hlam;refine⟨(2^Q)^K*((2^Q)^K*((K:Rat)*(L*(2*(1/lam))))+(K:Rat)*(L*(2*(1/lam))))+(2^Q)^K*((K:Rat)*(L*(2*(1/lam)))),?_,fun dl=>?_⟩
  ·have h0:=Rat.mul_nonneg hK0 (Rat.mul_nonneg hL0 (show 0<=2*(1/lam) by grind));have h1:=Rat.mul_nonneg (show 0<=(2^Q)^K by grind) h0;have h2:=Rat.mul_nonneg (show 0<=(2^Q)^K by grind) h1
   grind
  ·rw[Rat.div_def,Rat.div_def];grind
 have fin:∀p q:Rat,(∀dl:Rat,0<dl->p<=q+C*dl)->p<=q:=fun p q h=>by
  refine Rat.not_lt.1 fun hlt=>?_
  have h1:=h ((p-q)/(2*(C+1))) (by
   have:=lz (x:=p-q) (p:=2*(C+1)) (by grind) (by grind);have h2:(p-q)/(2*(C+1))*(2*(C+1))=p-q:=Rat.div_mul_cancel (by grind);generalize (p-q)/(2*(C+1))=y at *;refine Rat.not_le.1 fun hy=>?_;have:y=0:=by grind
   rw[this]at h2;grind)
  have h2:(p-q)/(2*(C+1))*(2*(C+1))=p-q:=Rat.div_mul_cancel (by grind);have h3:=lz (x:=p-q) (p:=2*(C+1)) (by grind) (by grind);generalize (p-q)/(2*(C+1))=y at *;have h4:=Rat.mul_nonneg hC0 h3
  grind
 constructor
 ·refine fin _ _ fun dl hdl=>?_;obtain⟨w1,u,i1,i2,hb⟩:=key dl hdl;have hb:=hb i hi;rw[hC]at hb;have q1:=(i1 i hi).1;have q2:=(i2 i hij).2;obtain⟨r1,r2⟩:=hb
  grind
 ·refine fin _ _ fun dl hdl=>?_;obtain⟨w1,u,i1,i2,hb⟩:=key dl hdl;have hb:=hb i hi;rw[hC]at hb;have q1:=(i1 i hi).2;have q2:=(i2 i hij).1;obtain⟨r1,r2⟩:=hb
  grind
end
end Ord
namespace Go.Sy
open Go Go.Proofs Ord
def np.ins{p:Rat×Rat}{z:Rat}(h:np p z):Ins p z:=h
theorem aK6{th s:Rat}(hs:Bo th s):∀W:List Rat,Bo (nW th W) (ev W s)
 | []=>Bo.zero cr
 | a::W=>by
   rw[nW,ai];have h:=(Bo.abs a).add ((aK6 hs W).mul hs);rw[show ev W s*s+a=a+ev W s*s by grind,show a.abs+th*nW th W=a.abs+nW th W*th by grind];exact h
theorem SM(q:List Rat)(s:Rat):∀p:List Rat,ev (EU p q) s=ev p s*ev q s
 | []=>by rw[EU,cP];grind
 | a::p=>by rw[EU,Ord.jl,Ord.vY,ai,SM q s p,ai];grind
theorem ac0(q:List (List Rat))(P:List Rat)(s:Rat):∀i,ev (Ob q P i) s=sm (fun i=>ev (q.getD i []) s*vec P s i) i
 | 0=>rfl
 | i+1=>by rw[Ob,Ord.jl,ac0 q P s i,SM,sm];rfl
def XE(E:List (List Rat))(c s:Rat)(i:Nat):ev ((aV E c).getD i []) s=ev (E.getD i []) (s+c):=by
 unfold aV;rcases Nat.lt_or_ge i E.length with h | h
 ·rw[cu,cC,cu,ay h];exact mE _ _ _
 ·rw[cu,cC,cu,fD h];rfl
theorem Zg(t:Rat):∀p:List Rat,iL t p 0=ev p t
 | []=>rfl
 | a::p=>by
   rw[gK,Zg t p,ai];show a+t*ev p t+0=_
   grind
def Tm{a:Nat->Rat}{N k:Nat}(hk:k<=N)(t:Rat):vec (Ord.fst a N) t k=fQ (cj k a) (N-k) t:=by
 unfold vec;rw[<-Zg,mF];exact there hk
def av0(E:List (List Rat))(m:Nat)(c z:Rat)(P:List Rat):Wz E m z (vec (shL (-c) P) z)=ev (Ob (aV E c) P (m+1)) (z-c):=by
 rw[ac0];unfold Wz
 exact aw fun i _=>by
  rw[XE,Lt,show z-c+c=z by grind,show z + -c=z-c by grind]
theorem ND(E:List (List Rat))(R:Rat)(hR:0<=R):∀m:Nat,∃S,0<=S/\∀i,i<m->∀t,Bo R t->Bo S (ev (E.getD i []) t)
 | 0=>⟨0,cr,fun i h=>absurd h (oJ _)⟩
 | m+1=>by
   obtain⟨S,hS,h⟩:=ND E R hR m;obtain⟨b,hb⟩:=Lf R hR (E.getD m []);have hb0:=(hb 0 (Bo.zero hR)).nn;refine⟨S+b,by grind,fun i hi t ht=>?_⟩;rcases Nat.lt_or_ge i m with h1 | h1
   ·exact(h i h1 t ht).mono (by grind)
   ·obtain rfl:i=m:=O
    exact(hb t ht).mono (by grind)
def VH{q:List (List Rat)}{m D st:Nat}{lead aB s:Rat}(R:sy q m D lead aB st)(hs:Bo aB s):lead.abs/2<=(ev (q.getD m []) s).abs:=by
 have hr:=R.rad;have hl:=R.hl;cases hp:q.getD m []with
 | nil=>
   rw[hp]at hl;exact absurd hl.symm R.l0
 | cons a r=>
   rw[hp]at hr hl;have hl:a=lead:=hl
   have hw:Bo (gJ r aB r.length) (ev r s*s):=by
    have h:=Kh (r:=r) hs r.length (aY _);rw[List.take_length]at h;exact h
   have hr:gJ r aB r.length+gJ r aB r.length<=lead.abs:=hr;rw[ai,hl];generalize gJ r aB r.length=y at *;generalize ev r s*s=z at *;obtain⟨h1,h2⟩:=hw;unfold Rat.abs at *;split at hr<;>split<;>grind
def MD{q:List (List Rat)}{m D st:Nat}{lead aB:Rat}(hm:1<=m)(R:sy q m D lead aB st){x:Nat->Rat}(hx:∀s,kO q m x s=0){b:Rat}{n0:Nat}(hb0:0<=b)(hb:∀n,n0<=n->Bo b (x n*aB^n)) :
  ∀eta:Rat,0<eta->∀N0:Nat,∃N,N0<=N/\nW aB (Ob q (Ord.fst x N) (m+1))<=eta:=by
 intro eta heta N0;obtain⟨n1,hdec⟩:=R.aM1 hx hb0 hb;have hr:=R.r0;have h0:0<=aB:=by grind
 have hK:=WQ (q:=q) (m:=m) h0;have hri:=Ev (rn (n:=m) hr)
 let c1:Nat:=n1+(m+D)+D
 have hKr:=gX hK hri;have hC:0<=kQ q m aB*(aB^m)⁻¹*b*(c1:Rat)^(m+1):=gX (gX hKr hb0) (bj (iM c1) _);obtain⟨g0,hg0⟩:=ab8 _ hC (m+1) eta heta
 let h:Nat:=(m+1+1)*max g0 N0
 have hgm:=hg0 (max g0 N0) O;have hbig:N0<=h:=Nat.le_trans O (Nat.le_mul_of_pos_left (max g0 N0) (show 0<m+1+1 by omega));have hJ:h<=h*(m+D):=Nat.le_mul_of_pos_right _ O
 let N:Nat:=n1+h*(m+D)+(m+D)
 have hNd:N=n1+h*(m+D)+(m+D):=rfl;refine⟨N,O,?_⟩
 let eps:Rat:=b*(3/4)^h
 have heps:0<=eps:=gX hb0 (bj (by decide +kernel) h)
 let X:Rat:=((N+D:Nat):Rat)
 have hX0:0<=X:=iM _;have hnW:=bC5 (q:=q) (m:=m) (D:=D) (N:=N) (eps:=eps) (X:=X) (a:=x) hr heps R.hD hx (fun n hn=>hdec h n O) cr
 have hXc:X<=(c1:Rat)*(((h:Nat):Rat)+1):=by
  have h2:N+D<=c1*(h+1):=by
   have e3:c1*(h+1)=c1*h+c1:=Nat.mul_succ _ _;have e4:(m+D)*h<=c1*h:=Nat.mul_le_mul_right _ O;rw[Nat.mul_comm (m+D) h]at e4;omega
  have h3:=oD h2;have e5:((c1*(h+1):Nat):Rat)=(c1:Rat)*(((h:Nat):Rat)+1):=by rw[<-qw];exact_mod_cast rfl
  rw[e5]at h3;exact h3
 have h2:=ml hX0 hXc (m+1);rw[vw]at h2;have e1:X*(kQ q m aB*X^m*eps*(aB^m)⁻¹)=kQ q m aB*(aB^m)⁻¹*eps*X^(m+1):=by rw[gM];grind
 have h3:=qF h2 (show 0<=kQ q m aB*(aB^m)⁻¹*eps from gX hKr heps)
 have e6:kQ q m aB*(aB^m)⁻¹*eps*((c1:Rat)^(m+1)*(((h:Nat):Rat)+1)^(m+1))=kQ q m aB*(aB^m)⁻¹*b*(c1:Rat)^(m+1)*(((h:Nat):Rat)+1)^(m+1)*(3/4)^h:=by
  show kQ q m aB*(aB^m)⁻¹*(b*(3/4)^h)*_=_;generalize (c1:Rat)^(m+1)=v1;generalize (((h:Nat):Rat)+1)^(m+1)=v2;generalize (3/4:Rat)^h=v3;generalize (aB^m)⁻¹=v4;generalize kQ q m aB=v5
  grind
 rw[e6]at h3;rw[e1]at hnW;exact cq hnW (cq h3 hgm)
structure Wv(E:List (List Rat))(c aB:Rat)(st:Nat):Prop where
 reg:gT E c
 hv:ba (aV E c) (E.length-1) (aF E c)=some (aB,st)
def comb(E:List (List Rat))(c:Rat)(w:Nat->Rat)(k:Nat):Rat:=sm (fun l=>w l*aS (aV E c) (E.length-1) (aF E c) (aX (E.length-1) l) k) (E.length-1)
section
variable{E:List (List Rat)}{c aB:Rat}{st:Nat}
def Wv.zg(w:Wv E c aB st):sy (aV E c) (E.length-1) (aa (aV E c)) (aF E c) aB st:=by
 obtain⟨h2,h5,hl,_⟩:=w.reg.facts;refine To (by rw[aR];omega) ?_ hl w.hv;unfold aF aV;rw[cu (l:=E.map _),cC,cu (l:=E),ay O];rfl
def Wv.zero(w:Wv E c aB st)(l s:Nat):kO (aV E c) (E.length-1) (aS (aV E c) (E.length-1) (aF E c) (aX (E.length-1) l)) s=0:=by
 have R:=w.zg;obtain⟨h2,_⟩:=w.reg.facts;exact ad9 R.l0 (by rw[aR];omega) R.hl s
def Wv.bound(w:Wv E c aB st)(l:Nat):0<=jQ (aV E c) (E.length-1) (aF E c) aB st l/\∀i,st-(E.length-1+aa (aV E c))<=i->Bo (jQ (aV E c) (E.length-1) (aF E c) aB st l) (aS (aV E c) (E.length-1) (aF E c) (aX (E.length-1) l) i*aB^i):=by
 have R:=w.zg;obtain⟨h1,h2⟩:=Lk (a:=aN (aV E c) (E.length-1) (aF E c) (aX (E.length-1) l) st) (aB:=aB) (n0:=st-(E.length-1+aa (aV E c))) (E.length-1+aa (aV E c));refine⟨h1,R.bounded (w.zero l) h1 fun i hi1 hi2=>?_⟩;have hs:=R.hs;have h3:=h2 (i-(st-(E.length-1+aa (aV E c)))) O;rw[show st-(E.length-1+aa (aV E c))+(i-(st-(E.length-1+aa (aV E c))))=i by omega]at h3;rw[<-sH (aV E c) (E.length-1) (aF E c) (aX (E.length-1) l) hi2];exact((Bo.abs (co (aN (aV E c) (E.length-1) (aF E c) (aX (E.length-1) l) st) i)).mul (Bo.self (bj (by have:=R.r0;grind) i))).mono h3
def UW(w:Nat->Rat){i:Nat}(hi:i<E.length-1):comb E c w i*fr i i=w i:=by
 unfold comb;rw[qN,<-de,<-Jy w hi];exact aw fun l hl=>by rw[<-aC3 (q:=aV E c) (m:=E.length-1) (lead:=aF E c) hi hl];grind
def YU(w:Nat->Rat)(d N:Nat)(t:Rat):fQ (cj d (comb E c w)) N t=sm (fun l=>w l*fQ (cj d (aS (aV E c) (E.length-1) (aF E c) (aX (E.length-1) l))) N t) (E.length-1):=by
 rw[<-Qg];refine tK _ _ fun k _=>?_;show cj d (fun k=>sm (fun u=>w u*(fun u k=>aS (aV E c) (E.length-1) (aF E c) (aX (E.length-1) u) k) u k) (E.length-1)) k=_;rw[Xc]
def Ug(w:Wv E c aB st){a t:Rat}{Y:Nat->Rat}{V V':Nat->Rat×Rat}{j n:Nat}(g:zO E (E.length-1) a Y c V)(ht:Bo aB t)
  (hV:∀(z:Nat->Rat)(N:Nat),n<=N->(∀l,l<E.length-1->Ins (V l) (z l))->∀d,d<j->Ins (V' d) (sm (fun l=>z l*fQ (cj d (aS (aV E c) (E.length-1) (aF E c) (aX (E.length-1) l))) (N-d) t) (E.length-1))) :
  Oc E (E.length-1) j a Y c (c+t) V':=by
 have R:=w.zg;obtain⟨h2,_⟩:=w.reg.facts;obtain⟨lam,S,k,hlam,hS,g⟩:=g;have hl:=Ce R.l0;have hr:=R.r0;have hc:=Bo.abs c;have hc0:=dq c;obtain⟨S',hS',hSb⟩:=ND E (c.abs+aB) (by grind) (E.length-1)
 obtain⟨lm,hlm,hla,hlb⟩:∃lm:Rat,0<lm/\lm<=lam/\lm<=(aF E c).abs/2:=by
  rcases KW (a:=lam) (b:=(aF E c).abs/2)with h | h
  ·exact⟨lam,hlam,cr,h⟩
  ·exact⟨(aF E c).abs/2,by grind,h,cr⟩
 refine⟨lm,S+S',k,hlm,by grind,fun dl hdl=>?_⟩;obtain⟨z,hp,hz⟩:=g dl hdl
 have hx:∀s,kO (aV E c) (E.length-1) (comb E c z) s=0:=fun s=>by
  have:=PJ (aV E c) (E.length-1) z (fun l=>aS (aV E c) (E.length-1) (aF E c) (aX (E.length-1) l)) s (E.length-1);unfold comb;rw[this];exact kW fun l _=>by rw[w.zero l s];grind
 have hb0:0<=sm (fun l=>(z l).abs*jQ (aV E c) (E.length-1) (aF E c) aB st l) (E.length-1):=HX fun l _=>gX (dq _) (w.bound l).1
 have hb:∀i,st-(E.length-1+aa (aV E c))<=i->Bo (sm (fun l=>(z l).abs*jQ (aV E c) (E.length-1) (aF E c) aB st l) (E.length-1)) (comb E c z i*aB^i):=fun i hi=>by
  have h1:Bo (sm (fun l=>(z l).abs*jQ (aV E c) (E.length-1) (aF E c) aB st l) (E.length-1)) (sm (fun l=>aB^i*(z l*aS (aV E c) (E.length-1) (aF E c) (aX (E.length-1) l) i)) (E.length-1)):=Bo.sm fun l _=>by
   have:=(Bo.abs (z l)).mul ((w.bound l).2 i hi)
   rwa[show z l*(aS (aV E c) (E.length-1) (aF E c) (aX (E.length-1) l) i*aB^i)=aB^i*(z l*aS (aV E c) (E.length-1) (aF E c) (aX (E.length-1) l) i) by grind]at this
  rw[de]at h1
  rwa[qN]
 obtain⟨N,hN,hres⟩:=MD O R hx hb0 hb dl hdl (n+j+E.length);refine⟨z,fun d=>vec (Ord.fst (comb E c z) N) t d,hp.mono hla (by grind) cr,⟨shL (-c) (Ord.fst (comb E c z) N),fun i hi=>?_,fun i hi=>?_,fun y hy=>?_⟩,fun d hd=>?_⟩
 ·rw[Lt,show c + -c=0 by grind,Tm O,CX _ _ O];unfold cj;rw[Nat.zero_add];exact UW z hi
 ·rw[Lt,show c+t + -c=t by grind]
 ·have hs:Bo aB (y-c):=by
   unfold iH at hy;unfold Bo at ht|-;rcases hy with⟨q1,q2⟩ | ⟨q1,q2⟩<;>constructor<;>grind
  have hyR:Bo (c.abs+aB) y:=by have:=hc.add hs;rwa[show c+(y-c)=y by grind]at this
  refine⟨?_,?_,fun i hi=>(hSb i hi y hyR).mono (by grind)⟩
  ·rw[av0];exact(aK6 hs _).mono hres
  ·have h1:=VH R hs;rw[XE,show y-c+c=y by grind]at h1;exact cq hlb h1
 ·show Ins (V' d) (vec (Ord.fst (comb E c z) N) t d);rw[Tm O,YU];exact hV z N O hz d hd
end
def UO{E:List (List Rat)}{m:Nat}{a c x:Rat}{Y:Nat->Rat}{V:Nat->Rat×Rat}(h:Oc E m m a Y c x V)(hb:iH a x c):zO E m a Y x V:=by
 obtain⟨lam,S,n,h1,h2,h⟩:=h;refine⟨lam,S,n+1,h1,h2,fun dl hdl=>?_⟩;obtain⟨w,u,hp,pc,hi⟩:=h dl hdl;exact⟨u,hp.snoc hb pc,hi⟩
theorem JZ(M v:Nat->Rat×Rat):∀l,cL M v l=ZP M v l
 | 0=>rfl
 | l+1=>by rw[cL,ZP,JZ M v l]
def EW(E:List (List Rat))(a:Rat)(y:List Rat):zO E (E.length-1) a (fun i=>y.getD i 0) a (fun i=>(y.map fun y=>(y,y)).getD i (0,0)):=by
 refine⟨1,0,0,by decide +kernel,cr,fun dl _=>⟨fun i=>y.getD i 0,⟨rfl,fun _ _=>rfl⟩,fun i _=>?_⟩⟩
 have e:(y.map fun y=>(y,y)).getD i (0,0)=(y.getD i 0,y.getD i 0):=by
  rw[cu,cC,cu];cases y[i]? <;> rfl
 dsimp only;rw[e];exact⟨cr,cr⟩
theorem uj{E:List (List Rat)}{x a:Rat}{k:Int}{Y:Nat->Rat}:∀(f:Nat)(c:Rat)(v w:VS),gT E c->iH a x c->v.length=E.length-1->zO E (E.length-1) a Y c (fun i=>v.getD i (0,0))->fh E x k f c v=some w->zO E (E.length-1) a Y x (fun i=>w.getD i (0,0))
 | f,c,v,w,hr,hb,hvl,g,h=>by
   by_cases hcx:c=x
   ·subst hcx;rw[qE]at h;cases h;exact g
   ·cases f with
    | zero=>rw[qR hcx]at h;cases h
    | succ f=>
      rcases ho:uF E x k c with _ | ⟨t,M⟩
      ·rw[qW (f+1) hcx ho]at h;cases h
      ·rw[qk f hcx ho]at h;obtain⟨aB,st,N,hv,hn,ht,hM⟩:=Ff ho;have hpos:=(Wv.zg ⟨hr,hv⟩).r0;obtain⟨hw1,hw2⟩:=ZC (x:=x) (c:=c) hpos;rw[<-ht]at hw1 hw2;have W:Dd E c aB st t k N:=⟨hr,hv,hw2,by rw[ht];exact hn⟩
       have hbt:iH c x (c+t):=by
        have he:=kU aB;rcases vL (x:=x) (c:=c) hpos with⟨e,h1⟩ | ⟨e,h1⟩ | ⟨e,h1⟩
        ·rw[ht,e];unfold iH;grind
        ·rw[ht,e];unfold iH;grind
        ·rw[ht,e];unfold iH;grind
       have hgo:=Ug (V:=fun i=>v.getD i (0,0)) (V':=fun d=>(jy (E.length-1) k M v).getD d (0,0)) (j:=E.length-1) (n:=N) ⟨hr,hv⟩ g hw1 (fun z n hn hz d hd=>by
        have e:(jy (E.length-1) k M v).getD d (0,0)=ux (E.length-1) k M v d:=by
         rw[jy,cu,cC,gv hd];rfl
        rw[e]
        have h1:=Ma (m:=E.length-1) (M:=M d) (v:=fun l=>v.getD l (0,0)) (f:=fun l=>fQ (cj d (aS (aV E c) (E.length-1) (aF E c) (aX (E.length-1) l))) (n-d) t) (g:=z)
         (fun l hl=>by rw[hM,<-ht];exact W.entry hd hn) (fun l hl=>hz l hl) (E.length-1) (aY _)
        unfold ux;rw[JZ];have e2:sm (fun u=>fQ (cj d (aS (aV E c) (E.length-1) (aF E c) (aX (E.length-1) u))) (n-d) t*z u) (E.length-1)=sm (fun l=>z l*fQ (cj d (aS (aV E c) (E.length-1) (aF E c) (aX (E.length-1) l))) (n-d) t) (E.length-1):=aw fun u _=>qN _ _;rw[e2]at h1;exact⟨cq (tQ _ _) h1.1,cq h1.2 (Dv _ _)⟩)
       refine uj f (c+t) _ w (hr.zg hv hw1) ?_ ?_ (UO hgo ?_) h
       ·unfold iH at *;grind
       ·rw[jy,aR,mA]
       ·unfold iH at *;grind
end Go.Sy
