/- Part. -/
import Derived.Test.YtdmcadckdnnglaaGreatDoorLa
import Derived.Test.YtdmcadckdnnglaaGreatDoorJa
set_option linter.all false
namespace Ord
def kn(a b t:Rat):Prop:=(a<=t/\t<=b)\/(b<=t/\t<=a)
theorem mb:∀(p q:j1)(x:Rat),ev (mB p q) x=ev p x+ev q x
 | [],q,x=>by rw[mB,dV];grind
 | a::p,[],x=>by rw[mB,dV];grind
 | a::p,b::q,x=>by rw[mB,av,av,av,mb p q x];grind
theorem zG(c:Rat):∀(p:j1)(x:Rat),ev (xn c p) x=c*ev p x
 | [],x=>by show(0:Rat)=c*0;grind
 | a::p,x=>by
   show ev (c*a::xn c p) x=_;rw[av,av,zG c p x];grind
theorem Qf(t:Rat):∀(p:j1)(x:Rat),ev (shL t p) x=ev p (x+t)
 | [],x=>rfl
 | a::p,x=>by
   rw[shL,mb,mb,zG,av,av,dV,av,Qf t p x];grind
def bn4(a:Rat)(p:j1)(x:Rat):ev (vG (a::p)) x=ev p x+x*ev (vG p) x:=by
 rw[vG,mb,av];grind
theorem tC:∀(p q:j1),(∀k,co p k=co q k)->∀x,ev p x=ev q x
 | [],[],_,_=>rfl
 | [],b::q,h,x=>by
   have h0:(0:Rat)=b:=h 0;have:=tC [] q (fun k=>h (k+1)) x;rw[dV]at this;rw[dV,av,<-this,<-h0];grind
 | a::p,[],h,x=>by
   have h0:a=0:=h 0;have:=tC p [] (fun k=>h (k+1)) x;rw[dV]at this;rw[dV,av,this,h0];grind
 | a::p,b::q,h,x=>by
   have h0:a=b:=h 0;rw[av,av,tC p q (fun k=>h (k+1)) x,h0]
def vec(P:j1)(t:Rat)(i:Nat):Rat:=ev (nB P i) t
def Rd(P Q:j1)(t:Rat)(i:Nat):vec (mB P Q) t i=vec P t i+vec Q t i:=by
 unfold vec;rw[<-mb];refine tC _ _ (fun k=>?_) t;rw[kG,wT,kG,kG];unfold dq;rw[wT];grind
def Xr(c:Rat)(P:j1)(t:Rat)(i:Nat):vec (xn c P) t i=c*vec P t i:=by
 unfold vec;rw[<-zG];refine tC _ _ (fun k=>?_) t;rw[kG,VM,kG];unfold dq;rw[VM];grind
def RU(c:Rat)(P:j1)(t:Rat)(i:Nat):vec (shL c P) t i=vec P (t+c) i:=by
 unfold vec;rw[<-Qf];refine tC _ _ (fun k=>?_) t;rw[kG,WC,pY,an7 (WC c P)]
theorem RH(R:Rat)(hR:0<=R):∀P:List Rat,∃b,∀t,Bo R t->Bo b (ev P t)
 | []=>⟨0,fun t _=>Bo.zero ak⟩
 | a::P=>by
   obtain⟨b,hb⟩:=RH R hR P;exact⟨b*R+a.abs,fun t ht=>by rw[av];exact((hb t ht).mul ht).add (Bo.abs a)⟩
def TZ(h:Rat):0<=h*h:=by
 rcases rN (a:=0) (b:=h)with k | k
 .exact af k k
 .have:=af (a:=-h) (b:=-h) e9 e9;grind
theorem VK(R:Rat)(hR:0<=R):∀P:List Rat,∃c,0<=c/\∀t h,Bo R t->Bo R (t+h)->Bo (c*(h*h)) (ev P (t+h)-ev P t-h*ev (vG P) t)
 | []=>⟨0,ak,fun t h _ _=>by
   rw[show ev [] (t+h)-ev [] t-h*ev (vG []) t=0 by show(0:Rat)-0-h*0=0;grind];exact Bo.zero e9⟩
 | a::P=>by
   obtain⟨c,hc,ih⟩:=VK R hR P;obtain⟨b,hb⟩:=RH R hR (vG P);have hb0:=(hb 0 (Bo.zero hR)).nn;have hRc:=af hR hc;refine⟨R*c+b,e9,fun t h ht hth=>?_⟩;have h1:=hth.mul (ih t h ht hth);have h2:=(Bo.self (TZ h)).mul (hb t ht);rw[av,av,bn4];have e:ev P (t+h)*(t+h)+a-(ev P t*t+a)-h*(ev P t+t*ev (vG P) t)=(t+h)*(ev P (t+h)-ev P t-h*ev (vG P) t)+h*h*ev (vG P) t:=e9
   rw[e];exact(h1.add h2).mono e9
theorem OD(R:Rat)(hR:0<=R)(P:j1):∀m:Nat,∃c,0<=c/\∀i,i<m->∀t h,Bo R t->Bo R (t+h)->Bo (c*(h*h)) (vec P (t+h) i-vec P t i-h*vec P t (i+1))
 | 0=>⟨0,ak,fun i h=>absurd h (pG _)⟩
 | m+1=>by
   obtain⟨c,hc,ih⟩:=OD R hR P m;obtain⟨c',hc',ih'⟩:=VK R hR (nB P m);refine⟨c+c',e9,fun i hi t h ht hth=>?_⟩;have hh:=TZ h;have g1:=af hc hh;have g2:=af hc' hh;rcases bG i m with h1 | h1
   .exact(ih i h1 t h ht hth).mono e9
   .obtain rfl:i=m:=O
    exact Bo.mono (ih' t h ht hth) e9
theorem UW{y:Rat}(hy:0<=y):∀J:Nat,2*((J:Rat)*y)<=1->(1+y)^J<=1+2*((J:Rat)*y)
 | 0,_=>by rw[bQ];have:((0:Nat):Rat)=0:=iN
           rw[this];grind
 | J+1,h=>by
   have hJ:(0:Rat)<=(J:Rat):=rl;rw[rh]at h|-;have hJy:=af hJ hy;have ih:=UW hy J e9;rw[bE];have h1:=eL ih (show 0<=1+y by grind);have h2:=eL (show 2*((J:Rat)*y)<=1 by grind) hy
   grind
def opV(E:j0)(m:Nat)(t:Rat)(z:j4):Rat:=sm (fun i=>ev (E.getD i []) t*z i) (m+1)
def OP{x y:Rat}(c:Rat)(hc:0<=c)(h:∀n:Nat,1<=n->x<=y+c/(n:Rat)):x<=y:=by
 refine pE.1 fun hlt=>?_
 obtain⟨n,hn⟩:∃n:Nat,c/(x-y)<(n:Rat):=by
  refine⟨((c/(x-y)).ceil.toNat)+1,?_⟩;have h1:=zS (x:=c/(x-y))
  have h3:(((c/(x-y)).ceil:Int):Rat)<=(((c/(x-y)).ceil.toNat:Nat):Rat):=by
   have:(c/(x-y)).ceil<=(((c/(x-y)).ceil.toNat:Nat):Int):=O
   have:=rP.2 this
   exact_mod_cast this
  rw[rh];generalize c/(x-y)=v at *
  grind
 have hd:0<x-y:=e9
 have h1:c/(x-y)*(x-y)=c:=di e9
 have hn0:(0:Rat)<(n:Rat):=by
  have:0<=c/(x-y):=by
   refine mR (c:=x-y) ?_ hd;rw[h1];grind
  grind
 have hn1:1<=n:=by
  rcases iI n with h0 | h0
  .subst h0;exact absurd hn0 iN
  .exact h0
 have h2:=h n hn1;have h3:c/(n:Rat)*(n:Rat)=c:=di e9;have h4:=ai1 hn hd;have h5:=eL h2 (show 0<=(n:Rat) by grind);generalize c/(n:Rat)=u at *;generalize c/(x-y)=v at *
 grind
end Ord
namespace Ord
def Bo.of_le{x y:Rat}(h1:x<=y)(h2:-x<=y):Bo y x:=by constructor<;>grind
def nz{x p:Rat}(hx:0<=x)(hp:0<p):0<=x/p:=by
 refine mR (c:=p) ?_ hp;rw[di e9];grind
def Bo.Sg{c A y:Rat}(hc:0<c)(h:Bo (c*A) (c*y)):Bo A y:=by
 obtain⟨h1,h2⟩:=h
 constructor
 .exact wq (c:=c) e9 hc
 .exact wq (c:=c) e9 hc
def Bo.quot{l A lam y:Rat}(hlam:0<lam)(hl:lam<=l.abs)(h:Bo A (l*y)):Bo (A/lam) y:=by
 have hA:=h.nn;have hq:=nz hA hlam;have e:lam*(A/lam)=A:=by rw[jK];exact di e9
 have h1:=eL hl hq;rw[e]at h1;have h2:=h.mono h1;unfold Rat.abs at h2 hl;split at h2
 .rename_i h0;rw[aI h0]at hl;exact Bo.Sg e9 h2
 .rename_i h0;rw[aD h0]at hl;have h3:Bo ((-l)*(A/lam)) ((-l)*y):=by have:=h2.neg;rwa[show -(l*y)=(-l)*y by grind]at this
  exact Bo.Sg e9 h3
def ao6(E:j0)(m:Nat)(t:Rat)(z:j4):ev (E.getD m []) t*z m=opV E m t z-sm (fun i=>ev (E.getD i []) t*z i) m:=by
 unfold opV;rw[sm];grind
section
variable{E:j0}{m:Nat}{lam S dl:Rat}
def cK2{P:j1}{a b G0 L:Rat}{Q:Nat}(hlam0:0<lam)(hS:0<=S)(hG:0<=G0)(hdl:0<=dl)
  (hres:∀t,kn a b t->Bo dl (opV E m t (vec P t))) (hlam:∀t,kn a b t->lam<=(ev (E.getD m []) t).abs) (hSb:∀t,kn a b t->∀i,i<m->Bo S (ev (E.getD i []) t))
  (h0:∀i,i<m->Bo G0 (vec P a i)) (hL:Bo L (b-a)) (hQ1:1<=Q) (hQ:2*(L*(1+(m:Rat)*S/lam))<=(Q:Rat)) :
  ∀i,i<m->Bo (2^Q*(G0+L*(dl/lam))) (vec P b i):=by
 have hL0:=hL.nn;have hm0:=vN m;have hq:=nz hdl hlam0;have hk:=nz (af hm0 hS) hlam0;generalize hK:1+(m:Rat)*S/lam=K at hQ;have hK1:1<=K:=e9
 generalize hd:dl/lam=d at *;have hR:0<=a.abs+b.abs:=by have:=eM a;have:=eM b;grind
 have ha:=Bo.abs a;have hb:=Bo.abs b;obtain⟨c,hc,hsl⟩:=OD (a.abs+b.abs) hR P m
 have hin:∀t,kn a b t->Bo (a.abs+b.abs) t:=fun t ht=>by
  have h1:=ha;have h2:=hb;have h3:=eM a;have h4:=eM b;unfold Bo at *;rcases ht with⟨k1,k2⟩ | ⟨k1,k2⟩<;>constructor<;>grind
 have key:∀J:Nat,1<=J->∀i,i<m->Bo (2^Q*(G0+L*d)+2^Q*(c*(L*L))/(J:Rat)) (vec P b i):=by
  intro J hJ;obtain⟨n,hn⟩:∃n:Nat,n=J*Q:=⟨_,rfl⟩
  have hn1:1<=n:=by rw[hn];exact dN hJ hQ1
  have hnr:(1:Rat)<=(n:Rat):=by have:=IW hn1;have e:((1:Nat):Rat)=1:=iN
                                rw[e]at this;exact this
  have hJr:(1:Rat)<=(J:Rat):=by have:=IW hJ;have e:((1:Nat):Rat)=1:=iN
                                rw[e]at this;exact this
  have hQr:(1:Rat)<=(Q:Rat):=by have:=IW hQ1;have e:((1:Nat):Rat)=1:=iN
                                rw[e]at this;exact this
  have hnJ:(n:Rat)=(J:Rat)*(Q:Rat):=by rw[hn];exact_mod_cast rfl
  obtain⟨h,hh⟩:∃h:Rat,h*(n:Rat)=b-a:=⟨(b-a)/n,di e9⟩
  obtain⟨g,hg⟩:∃g:Rat,g*(n:Rat)=L:=⟨L/n,di e9⟩
  have hg0:0<=g:=by
   refine mR (c:=(n:Rat)) ?_ e9;rw[hg];grind
  have hhg:Bo g h:=by
   refine Bo.Sg (c:=(n:Rat)) e9 ?_;rw[jK,jK (n:Rat) h,hh,hg];exact hL
  have hhh:h*h<=g*g:=(hhg.mul hhg).2
  have hbt:∀k:Nat,k<=n->kn a b (a+(k:Rat)*h):=fun k hk=>by
   have hk1:=IW hk;have hk0:=vN k;rcases rN (a:=0) (b:=h)with p | p
   .left
    have e1:=af hk0 p;have e2:=af (a:=(n:Rat)-k) (b:=h) e9 p
    constructor<;>grind
   .right
    have e1:=af (a:=(k:Rat)) (b:=-h) hk0 e9;have e2:=af (a:=(n:Rat)-k) (b:=-h) e9 e9
    constructor<;>grind
  have hcw:=af hc (TZ g);have hgd:=af hg0 hq;have hgK:0<=g*K:=af hg0 e9;generalize hw:g*d+c*(g*g)=w;have hw0:0<=w:=e9
  have step:∀k:Nat,k<=n->∀i,i<m->Bo ((1+g*K)^k*(G0+(k:Rat)*w)) (vec P (a+(k:Rat)*h) i):=by
   intro k
   induction k with
   | zero=>
     intro _ i hi;have e:((0:Nat):Rat)=0:=iN
     rw[e,bQ,show a+0*h=a by grind];exact(h0 i hi).mono e9
   | succ k ih=>
     intro hk i hi;have ih:=ih O;have hbk:=hbt k O;have hbk1:=hbt (k+1) hk;have e1:a+((k+1:Nat):Rat)*h=a+(k:Rat)*h+h:=by rw[rh];grind
     rw[e1]at hbk1|-;have hsl1:=hsl i hi (a+(k:Rat)*h) h (hin _ hbk) (hin _ hbk1);have hr:=hres _ hbk;have hl:=hlam _ hbk;have hs:=hSb _ hbk;generalize a+(k:Rat)*h=t at *;have hk0:=vN k;have hkw:=af hk0 hw0;have hp1:=one_le_pow (x:=1+g*K) e9 k;have hGk:0<=(1+g*K)^k*(G0+(k:Rat)*w):=af e9 e9;rw[bE,rh];have hX:((k:Rat)+1)*w=(k:Rat)*w+w:=e9
     rw[hX];generalize hGG:(1+g*K)^k*(G0+(k:Rat)*w)=G at *
     have hnext:Bo (K*G+d) (vec P t (i+1)):=by
      rcases bG (i+1) m with h1 | h1
      .refine(ih (i+1) h1).mono ?_;have:=eL hK1 hGk
       grind
      .obtain rfl:m=i+1:=O
       have h2:Bo (sm (fun _=>S*G) (i+1)) (sm (fun j=>ev (E.getD j []) t*vec P t j) (i+1)):=Bo.sm fun j hj=>(hs j hj).mul (ih j hj);rw[wU]at h2;have h3:=hr.sub h2;rw[<-ao6]at h3;refine(Bo.quot hlam0 hl h3).mono ?_
       have e2:(dl+((i+1:Nat):Rat)*(S*G))/lam=dl/lam+((i+1:Nat):Rat)*S/lam*G:=by
        rw[eJ,eJ,eJ];grind
       rw[e2,hd,<-hK];grind
     have h4:=hhg.mul hnext;have h5:=((ih i hi).add h4).add (hsl1.mono (show c*(h*h)<=c*(g*g)from eC hhh hc));rw[show vec P t i+h*vec P t (i+1)+(vec P (t+h) i-vec P t i-h*vec P t (i+1))=vec P (t+h) i by grind]at h5;refine h5.mono ?_
     have h6:w<=(1+g*K)^k*(1+g*K)*w:=by
      have q1:=db hp1 (show 1<=1+g*K by grind) iN e9;have:=eL q1 hw0
      grind
     have e3:(1+g*K)^k*(1+g*K)*(G0+((k:Rat)*w+w))=G*(1+g*K)+(1+g*K)^k*(1+g*K)*w:=by rw[<-hGG];grind
     rw[e3];grind
  intro i hi;have hfin:=step n (jI _) i hi;rw[show a+(n:Rat)*h=b by grind]at hfin;refine hfin.mono ?_
  have hy:(1+g*K)^n<=2^Q:=by
   rw[hn,pow_mul'];refine lf (bW e9 J) ?_ Q;have hx:(J:Rat)*(g*K)*(Q:Rat)=L*K:=by rw[<-hg,hnJ];grind
   have hx2:2*((J:Rat)*(g*K))<=1:=by
    refine mR (c:=(Q:Rat)) ?_ e9;rw[show 2*((J:Rat)*(g*K))*(Q:Rat)=2*((J:Rat)*(g*K)*(Q:Rat)) by grind,hx];grind
   have:=UW hgK J hx2
   grind
  have hnw:(n:Rat)*w<=L*d+c*(L*L)/(J:Rat):=by
   have e1:(n:Rat)*w=L*d+c*(L*g):=by rw[<-hw,<-hg];grind
   rw[e1]
   have e2:g<=L/(J:Rat):=by
    refine mR (c:=(J:Rat)) ?_ e9;rw[di e9,<-hg,hnJ];have:=eC hQr (show 0<=g*(J:Rat)from af hg0 e9)
    grind
   have e3:=eC e2 (af hc hL0);have e4:c*(L*L)/(J:Rat)=c*L*(L/(J:Rat)):=by rw[eJ,eJ];grind
   rw[e4];grind
  have hnn:=af (show(0:Rat)<=(n:Rat) by grind) hw0;have h2:=db hy (show G0+(n:Rat)*w<=G0+(L*d+c*(L*L)/(J:Rat)) by grind) (bW e9 n) e9
  have e5:(2:Rat)^Q*(G0+(L*d+c*(L*L)/(J:Rat)))=2^Q*(G0+L*d)+2^Q*(c*(L*L))/(J:Rat):=by
   rw[eJ,eJ];grind
  grind
 intro i hi;have hc2:(0:Rat)<=2^Q*(c*(L*L)):=af (bW iN Q) (af hc (TZ L));exact Bo.of_le (OP _ hc2 fun n hn=>(key n hn i hi).2) (OP _ hc2 fun n hn=>by have:=(key n hn i hi).1;grind)
end
end Ord
namespace Ord
section
variable{E:j0}{m:Nat}{lam S dl:Rat}
def Pc(E:j0)(m:Nat)(lam S dl a:Rat)(z:j4)(b:Rat)(w:j4):Prop:=
 ∃P:List Rat,(∀i,i<m->vec P a i=z i)/\(∀i,i<m->vec P b i=w i)/\∀t,kn a b t->Bo dl (opV E m t (vec P t))/\lam<=(ev (E.getD m []) t).abs/\∀i,i<m->Bo S (ev (E.getD i []) t)
def Path(E:j0)(m:Nat)(lam S dl:Rat):Nat->Rat->(Nat->Rat)->Rat->(Nat->Rat)->Prop
 | 0,a,z,b,w=>a=b/\∀i,i<m->z i=w i
 | n+1,a,z,b,w=>∃c v,kn a b c/\Pc E m lam S dl a z c v/\Path E m lam S dl n c v b w
def kn.symm{a b t:Rat}(h:kn a b t):kn b a t:=by unfold kn at *;exact Or.symm h
def kn.left(a b:Rat):kn a b a:=by unfold kn;grind
def kn.right(a b:Rat):kn a b b:=by unfold kn;grind
def kn.bo{a b t L:Rat}(h:kn a b t)(hL:Bo L (b-a)):Bo L (t-a)/\Bo L (b-t):=by
 unfold kn at h;unfold Bo at *;rcases h with⟨h1,h2⟩ | ⟨h1,h2⟩<;>refine⟨⟨?_,?_⟩,⟨?_,?_⟩⟩<;>grind
def kn.inner{a b c t:Rat}(h:kn a b c)(k:kn a c t):kn a b t:=by unfold kn at *;grind
def kn.outer{a b c t:Rat}(h:kn a b c)(k:kn c b t):kn a b t:=by unfold kn at *;grind
def kn.two{a b c t:Rat}(h:kn a b c)(k:kn a b t):(kn a t c/\kn c b t)\/(kn a c t/\kn t b c):=by unfold kn at *;grind
def kn.rest{a b c t:Rat}(h:kn a b c)(k:kn a c t):kn t b c:=by unfold kn at *;grind
def kn.same{a t:Rat}(h:kn a a t):t=a:=by unfold kn at h;grind
def Pc.symm{a b:Rat}{z w:j4}(h:Pc E m lam S dl a z b w):Pc E m lam S dl b w a z:=by
 obtain⟨P,h1,h2,h3⟩:=h;exact⟨P,h2,h1,fun t ht=>h3 t ht.symm⟩
def Pc.congr{a b:Rat}{z z' w:j4}(h:Pc E m lam S dl a z b w)(hz:∀i,i<m->z i=z' i):Pc E m lam S dl a z' b w:=by
 obtain⟨P,h1,h2,h3⟩:=h;exact⟨P,fun i hi=>by rw[h1 i hi,hz i hi],h2,h3⟩
def Path.congr{n:Nat}{a b:Rat}{z z' w:j4}(h:Path E m lam S dl n a z b w)(hz:∀i,i<m->z i=z' i):Path E m lam S dl n a z' b w:=by
 cases n with
 | zero=>exact⟨h.1,fun i hi=>by rw[<-hz i hi,h.2 i hi]⟩
 | succ n=>
   obtain⟨c,v,hc,hp,hr⟩:=h;exact⟨c,v,hc,hp.congr hz,hr⟩
def Pc.mono{lam' S' dl' a b:Rat}{z w:j4}(h:Pc E m lam S dl a z b w)(h1:lam'<=lam)(h2:S<=S')(h3:dl<=dl'):Pc E m lam' S' dl' a z b w:=by
 obtain⟨P,p1,p2,p3⟩:=h;exact⟨P,p1,p2,fun t ht=>⟨(p3 t ht).1.mono h3,bH h1 (p3 t ht).2.1,fun i hi=>((p3 t ht).2.2 i hi).mono h2⟩⟩
theorem Path.mono{lam' S' dl':Rat}(h1:lam'<=lam)(h2:S<=S')(h3:dl<=dl'):∀{n:Nat}{a b:Rat}{z w:j4},Path E m lam S dl n a z b w->Path E m lam' S' dl' n a z b w
 | 0,_,_,_,_,h=>h
 | n+1,_,_,_,_,⟨c,v,hc,hp,hr⟩=>⟨c,v,hc,hp.mono h1 h2 h3,Path.mono h1 h2 h3 hr⟩
theorem Path.snoc:∀{n:Nat}{a b c:Rat}{z w u:j4},Path E m lam S dl n a z b w->kn a c b->Pc E m lam S dl b w c u->Path E m lam S dl (n+1) a z c u
 | 0,a,b,c,z,w,u,⟨h1,h2⟩,hb,hp=>by
   subst h1;exact⟨c,u,kn.right _ _,hp.congr fun i hi=>(h2 i hi).symm,rfl,fun _ _=>rfl⟩
 | n+1,a,b,c,z,w,u,⟨g,v,hg,hv,hr⟩,hb,hp=>⟨g,v,hb.inner hg,hv,hr.snoc ((hb.inner hg).two hb |>.elim (fun h=>h.2) fun h=>by
    have h1:=hg;have h2:=hb;have h3:=h.1;have h4:=h.2;unfold kn at *;grind) hp⟩
theorem Path.rev:∀{n:Nat}{a b:Rat}{z w:j4},Path E m lam S dl n a z b w->Path E m lam S dl n b w a z
 | 0,_,_,_,_,⟨h1,h2⟩=>⟨h1.symm,fun i hi=>(h2 i hi).symm⟩
 | n+1,a,b,z,w,⟨c,v,hc,hp,hr⟩=>hr.rev.snoc hc.symm hp.symm
theorem Path.split:∀{n:Nat}{a b x:Rat}{z w:j4},Path E m lam S dl n a z b w->kn a b x->∃v n1 n2,n1<=n+1/\n2<=n+1/\Path E m lam S dl n1 a z x v/\Path E m lam S dl n2 x v b w
 | 0,a,b,x,z,w,⟨h1,h2⟩,hx=>by
   subst h1;obtain rfl:=hx.same;exact⟨z,0,0,O,O,⟨rfl,fun _ _=>rfl⟩,⟨rfl,h2⟩⟩
 | n+1,a,b,x,z,w,⟨c,v,hc,hp,hr⟩,hx=>by
   rcases hc.two hx with⟨k1,k2⟩ | ⟨k1,k2⟩
   .obtain⟨u,n1,n2,e1,e2,p1,p2⟩:=hr.split k2;exact⟨u,n1+1,n2,O,O,⟨c,v,k1,hp,p1⟩,p2⟩
   .obtain⟨P,q1,q2,q3⟩:=hp;refine⟨vec P x,1,n+1,O,O,⟨x,vec P x,kn.right _ _,⟨P,q1,fun _ _=>rfl,fun t ht=>q3 t (k1.inner ht)⟩,rfl,fun _ _=>rfl⟩,⟨c,v,k2,⟨P,fun _ _=>rfl,q2,fun t ht=>q3 t (k1.outer ht)⟩,hr⟩⟩
def br1(t:Rat)(P Q:j1):opV E m t (vec (mB P (xn (-1) Q)) t)=opV E m t (vec P t)-opV E m t (vec Q t):=by
 unfold opV
 have e:∀n,sm (fun i=>ev (E.getD i []) t*vec (mB P (xn (-1) Q)) t i) n=sm (fun i=>ev (E.getD i []) t*vec P t i) n-sm (fun i=>ev (E.getD i []) t*vec Q t i) n:=by
  intro n
  induction n with
  | zero=>simp only[sm];grind
  | succ n ih=>simp only[sm];rw[ih,Rd,Xr];grind
 exact e _
def Jj{P P':j1}{a b G L:Rat}{Q:Nat}(hlam0:0<lam)(hS:0<=S)(hG:0<=G)(hdl:0<=dl)(hL:Bo L (b-a))(hQ1:1<=Q)(hQ:2*(L*(1+(m:Rat)*S/lam))<=(Q:Rat))
  (h:∀t,kn a b t->Bo dl (opV E m t (vec P t))/\lam<=(ev (E.getD m []) t).abs/\∀i,i<m->Bo S (ev (E.getD i []) t)) (h':∀t,kn a b t->Bo dl (opV E m t (vec P' t)))
  (h0:∀i,i<m->Bo G (vec P a i-vec P' a i)):∀i,i<m->Bo (2^Q*(G+L*((dl+dl)/lam))) (vec P b i-vec P' b i):=by
 have hg:=cK2 (E:=E) (m:=m) (lam:=lam) (S:=S) (dl:=dl+dl) (P:=mB P (xn (-1) P')) (a:=a) (b:=b) (G0:=G) (L:=L) (Q:=Q) hlam0 hS hG e9
  (fun t ht=>by rw[br1];exact(h t ht).1.sub (h' t ht)) (fun t ht=>(h t ht).2.1) (fun t ht=>(h t ht).2.2)
  (fun i hi=>by rw[Rd,Xr];have:=h0 i hi;rwa[show vec P a i + -1*vec P' a i=vec P a i-vec P' a i by grind]) hL hQ1 hQ
 intro i hi;have:=hg i hi
 rwa[Rd,Xr,show vec P b i + -1*vec P' b i=vec P b i-vec P' b i by grind]at this
def Path.unique{L:Rat}{Q:Nat}(hlam0:0<lam)(hS:0<=S)(hdl:0<=dl)(hL0:0<=L)(hQ1:1<=Q)(hQ:2*(L*(1+(m:Rat)*S/lam))<=(Q:Rat)) :
  ∀(k n1 n2:Nat),n1+n2=k->∀(a b G:Rat)(z z' w w':j4),Bo L (b-a)->Path E m lam S dl n1 a z b w->Path E m lam S dl n2 a z' b w'->0<=G->(∀i,i<m->Bo G (z i-z' i)) ->
   ∀i,i<m->Bo ((2^Q)^k*(G+(k:Rat)*(L*((dl+dl)/lam)))) (w i-w' i):=by
 have he:=af hL0 (nz (x:=dl+dl) e9 hlam0);generalize heq:L*((dl+dl)/lam)=e at *;have hM:(1:Rat)<=2^Q:=one_le_pow iN Q;intro k
 induction k with
 | zero=>
   intro n1 n2 hn a b G z z' w w' hL h1 h2 hG h0 i hi;obtain rfl:n1=0:=O
   obtain rfl:n2=0:=O
   rw[<-h1.2 i hi,<-h2.2 i hi,bQ];have e0:((0:Nat):Rat)=0:=iN
   rw[e0];exact(h0 i hi).mono e9
 | succ k ih=>
   intro n1 n2 hn a b G z z' w w' hL h1 h2 hG h0 i hi;have hk0:=vN k;have hke:=af hk0 he;have hMk:=one_le_pow hM k;have hMk0:=bW (x:=(2:Rat)^Q) e9 k
   have hbig:∀G':Rat,0<=G'->G'<=2^Q*(G+e)->(2^Q)^k*(G'+(k:Rat)*e)<=(2^Q)^(k+1)*(G+((k+1:Nat):Rat)*e):=fun G' hG' hle=>by
    rw[bE,rh]
    have q1:=eC (show G'+(k:Rat)*e<=2^Q*(G+((k:Rat)+1)*e) by
     have:=eL hM hke
     grind) hMk0
    grind
   have hsame:G<=2^Q*(G+e):=by
    have:=eL hM (show 0<=G+e by grind)
    grind
   have hstep:0<=2^Q*(G+e):=af e9 e9;cases n1 with
   | zero=>
     cases n2 with
     | zero=>omega
     | succ n2=>
       obtain⟨hab,hzw⟩:=h1;subst hab;obtain⟨c,v,hc,⟨P,p1,p2,p3⟩,hr⟩:=h2;obtain rfl:=hc.same;have h4:=ih 0 n2 O c c G z z' w w' hL ⟨rfl,hzw⟩ (hr.congr fun i hi=>by rw[<-p2 i hi,p1 i hi]) hG h0 i hi;exact h4.mono (hbig G hG hsame)
   | succ n1=>
     cases n2 with
     | zero=>
       obtain⟨hab,hzw⟩:=h2;subst hab;obtain⟨c,v,hc,⟨P,p1,p2,p3⟩,hr⟩:=h1;obtain rfl:=hc.same;have h4:=ih n1 0 O c c G z z' w w' hL (hr.congr fun i hi=>by rw[<-p2 i hi,p1 i hi]) ⟨rfl,hzw⟩ hG h0 i hi;exact h4.mono (hbig G hG hsame)
     | succ n2=>
       obtain⟨c,v,hc,⟨P,p1,p2,p3⟩,hr⟩:=h1;obtain⟨c',v',hc',⟨P',p1',p2',p3'⟩,hr'⟩:=h2;rcases hc.two hc' with⟨k1,k2⟩ | ⟨k1,k2⟩
       ·
        have h5:=Jj (E:=E) (P:=P) (P':=P') hlam0 hS hG hdl (hc.bo hL).1 hQ1 hQ p3 (fun t ht=>(p3' t (k1.inner ht)).1) (fun i hi=>by rw[p1 i hi,p1' i hi];exact h0 i hi);rw[heq]at h5;have h6:=ih n1 (n2+1) O c b (2^Q*(G+e)) v (vec P' c) w w' (hc.bo hL).2 hr ⟨c',v',k2,⟨P',fun _ _=>rfl,p2',fun t ht=>p3' t (k1.outer ht)⟩,hr'⟩ hstep (fun i hi=>by have:=h5 i hi;rwa[p2 i hi]at this) i hi;exact h6.mono (hbig _ hstep ak)
       .have h5:=Jj (E:=E) (P:=P) (P':=P') hlam0 hS hG hdl (hc'.bo hL).1 hQ1 hQ (fun t ht=>p3 t (k1.inner ht)) (fun t ht=>(p3' t ht).1) (fun i hi=>by rw[p1 i hi,p1' i hi];exact h0 i hi);rw[heq]at h5;have h6:=ih (n1+1) n2 O c' b (2^Q*(G+e)) (vec P c') v' w w' (hc'.bo hL).2 ⟨c,v,k2,⟨P,fun _ _=>rfl,p2,fun t ht=>p3 t (k1.outer ht)⟩,hr⟩ hr' hstep (fun i hi=>by have:=h5 i hi;rwa[p2' i hi]at this) i hi;exact h6.mono (hbig _ hstep ak)
end
end Ord
namespace Ord
def Ins(p:k5)(z:Rat):Prop:=p.1<=z/\z<=p.2
def Ao(E:j0)(m:Nat)(a:Rat)(Y:j4)(b:Rat)(V:k6):Prop:=
 ∃(lam S:Rat)(n:Nat),0<lam/\0<=S/\∀dl:Rat,0<dl->∃w,Path E m lam S dl n a Y b w/\∀i,i<m->Ins (V i) (w i)
def ad1(E:j0)(m j:Nat)(a:Rat)(Y:j4)(c x:Rat)(V:k6):Prop:=
 ∃(lam S:Rat)(n:Nat),0<lam/\0<=S/\∀dl:Rat,0<dl->∃w u,Path E m lam S dl n a Y c w/\Pc E m lam S dl c w x u/\∀i,i<j->Ins (V i) (u i)
def cI7(a c x:Rat):kn a x c\/kn a c x\/kn c x a:=by unfold kn;grind
def Path.one{E:j0}{m:Nat}{lam S dl a b:Rat}{z w:j4}(h:Pc E m lam S dl a z b w):Path E m lam S dl 1 a z b w:=⟨b,w,kn.right _ _,h,rfl,fun _ _=>rfl⟩
section
variable{E:j0}{m:Nat}{lam S dl:Rat}
def Path.ae6{L:Rat}{Q K:Nat}(hlam0:0<lam)(hS:0<=S)(hdl:0<=dl)(hL0:0<=L)(hQ1:1<=Q)(hQ:2*(L*(1+(m:Rat)*S/lam))<=(Q:Rat))
  {n1 n2:Nat} (hk:n1+n2<=K) {a b G:Rat} {z z' w w':j4} (hL:Bo L (b-a)) (h1:Path E m lam S dl n1 a z b w) (h2:Path E m lam S dl n2 a z' b w') (hG:0<=G) (h0:∀i,i<m->Bo G (z i-z' i)) :
   ∀i,i<m->Bo ((2^Q)^K*(G+(K:Rat)*(L*((dl+dl)/lam)))) (w i-w' i):=by
 intro i hi;have h:=Path.unique hlam0 hS hdl hL0 hQ1 hQ (n1+n2) n1 n2 rfl a b G z z' w w' hL h1 h2 hG h0 i hi;have he:=af hL0 (nz (x:=dl+dl) e9 hlam0);refine h.mono ?_;have hM:(1:Rat)<=2^Q:=one_le_pow iN Q;have e1:=nH hM hk;have e2:=eL (IW hk) he;have e3:=af (vN (n1+n2)) he;exact db e1 e9 (bW e9 _) (by have:=af (vN K) he;grind)
end
end Ord
namespace Go.Sy
open Go Go.Proofs Ord
def qy.ins{p:k5}{z:Rat}(h:qy p z):Ins p z:=h
theorem bx0{th s:Rat}(hs:Bo th s):∀W:List Rat,Bo (nW th W) (ev W s)
 | []=>Bo.zero ak
 | a::W=>by
   rw[nW,av];have h:=(Bo.abs a).add ((bx0 hs W).mul hs);rw[show ev W s*s+a=a+ev W s*s by grind,show a.abs+th*nW th W=a.abs+nW th W*th by grind];exact h
theorem ZB(q:j1)(s:Rat):∀p:List Rat,ev (Kg p q) s=ev p s*ev q s
 | []=>by rw[Kg,dV];grind
 | a::p=>by rw[Kg,Ord.mb,Ord.zG,av,ZB q s p,av];grind
theorem aO1(q:j0)(P:j1)(s:Rat):∀i,ev (UN q P i) s=sm (fun i=>ev (q.getD i []) s*vec P s i) i
 | 0=>rfl
 | i+1=>by rw[UN,Ord.mb,aO1 q P s i,ZB,sm];rfl
def ay4(E:j0)(c s:Rat)(i:Nat):ev ((aV E c).getD i []) s=ev (E.getD i []) (s+c):=by
 unfold aV;rcases bG i E.length with h | h
 .rw[dp,dS,dp,bU h];exact pX _ _ _
 .rw[dp,dS,dp,gE h];rfl
theorem aG6(t:Rat):∀p:List Rat,kj t p 0=ev p t
 | []=>rfl
 | a::p=>by
   rw[jS,aG6 t p,av];show a+t*ev p t+0=_
   grind
def aa3{a:j4}{N k:Nat}(hk:k<=N)(t:Rat):vec (Ord.fst a N) t k=iZ (dq k a) (N-k) t:=by
 unfold vec;rw[<-aG6,pY];exact there hk
def bg6(E:j0)(m:Nat)(c z:Rat)(P:j1):opV E m z (vec (shL (-c) P) z)=ev (UN (aV E c) P (m+1)) (z-c):=by
 rw[aO1];unfold opV
 exact bK fun i _=>by
  rw[ay4,RU,show z-c+c=z by grind,show z + -c=z-c by grind]
theorem Up(E:j0)(R:Rat)(hR:0<=R):∀m:Nat,∃S,0<=S/\∀i,i<m->∀t,Bo R t->Bo S (ev (E.getD i []) t)
 | 0=>⟨0,ak,fun i h=>absurd h (pG _)⟩
 | m+1=>by
   obtain⟨S,hS,h⟩:=Up E R hR m;obtain⟨b,hb⟩:=RH R hR (E.getD m []);have hb0:=(hb 0 (Bo.zero hR)).nn;refine⟨S+b,e9,fun i hi t ht=>?_⟩;rcases bG i m with h1 | h1
   .exact(h i h1 t ht).mono e9
   .obtain rfl:i=m:=O
    exact(hb t ht).mono e9
def ao7{q:j0}{m D st:Nat}{lead aB s:Rat}(R:wW q m D lead aB st)(hs:Bo aB s):lead.abs/2<=(ev (q.getD m []) s).abs:=by
 have hr:=R.rad;have hl:=R.hl;cases hp:q.getD m []with
 | nil=>
   rw[hp]at hl;exact absurd hl.symm R.l0
 | cons a r=>
   rw[hp]at hr hl;have hl:a=lead:=hl
   have hw:Bo (jR r aB r.length) (ev r s*s):=by
    have h:=QW (r:=r) hs r.length (ah _);rw[eW]at h;exact h
   have hr:jR r aB r.length+jR r aB r.length<=lead.abs:=hr;rw[av,hl];generalize jR r aB r.length=y at *;generalize ev r s*s=z at *;obtain⟨h1,h2⟩:=hw;unfold Rat.abs at *;split at hr<;>split<;>grind
def Tj{q:j0}{m D st:Nat}{lead aB:Rat}(hm:1<=m)(R:wW q m D lead aB st){x:j4}(hx:∀s,nR q m x s=0){b:Rat}{n0:Nat}(hb0:0<=b)(hb:∀n,n0<=n->Bo b (x n*aB^n)) :
  ∀eta:Rat,0<eta->∀N0:Nat,∃N,N0<=N/\nW aB (UN q (Ord.fst x N) (m+1))<=eta:=by
 intro eta heta N0;obtain⟨n1,hdec⟩:=R.by6 hx hb0 hb;have hr:=R.r0;have h0:0<=aB:=e9
 have hK:=au3 (q:=q) (m:=m) h0;have hri:=Jt (dk (n:=m) hr)
 let c1:Nat:=n1+(m+D)+D
 have hKr:=af hK hri;have hC:0<=kQ q m aB*(aB^m)⁻¹*b*(c1:Rat)^(m+1):=af (af hKr hb0) (bW (jo c1) _);obtain⟨g0,hg0⟩:=aN9 _ hC (m+1) eta heta
 let h:Nat:=(m+1+1)*max g0 N0
 have hgm:=hg0 (max g0 N0) O;have hbig:N0<=h:=an O (jh (max g0 N0) (show 0<m+1+1 by omega));have hJ:h<=h*(m+D):=dn _ O
 let N:Nat:=n1+h*(m+D)+(m+D)
 have hNd:N=n1+h*(m+D)+(m+D):=rfl;refine⟨N,O,?_⟩
 let eps:Rat:=b*(3/4)^h
 have heps:0<=eps:=af hb0 (bW iN h)
 let X:Rat:=((N+D:Nat):Rat)
 have hX0:0<=X:=jo _;have hnW:=cp8 (q:=q) (m:=m) (D:=D) (N:=N) (eps:=eps) (X:=X) (a:=x) hr heps R.hD hx (fun n hn=>hdec h n O) ak
 have hXc:X<=(c1:Rat)*(((h:Nat):Rat)+1):=by
  have h2:N+D<=c1*(h+1):=by
   have e3:c1*(h+1)=c1*h+c1:=Qi _ _;have e4:(m+D)*h<=c1*h:=cg _ O;rw[cD (m+D) h]at e4;omega
  have h3:=mw h2;have e5:((c1*(h+1):Nat):Rat)=(c1:Rat)*(((h:Nat):Rat)+1):=by rw[<-rh];exact_mod_cast rfl
  rw[e5]at h3;exact h3
 have h2:=lf hX0 hXc (m+1);rw[tJ]at h2;have e1:X*(kQ q m aB*X^m*eps*(aB^m)⁻¹)=kQ q m aB*(aB^m)⁻¹*eps*X^(m+1):=by rw[bE];grind
 have h3:=eC h2 (show 0<=kQ q m aB*(aB^m)⁻¹*eps from af hKr heps)
 have e6:kQ q m aB*(aB^m)⁻¹*eps*((c1:Rat)^(m+1)*(((h:Nat):Rat)+1)^(m+1))=kQ q m aB*(aB^m)⁻¹*b*(c1:Rat)^(m+1)*(((h:Nat):Rat)+1)^(m+1)*(3/4)^h:=by
  show kQ q m aB*(aB^m)⁻¹*(b*(3/4)^h)*_=_;generalize (c1:Rat)^(m+1)=v1;generalize (((h:Nat):Rat)+1)^(m+1)=v2;generalize (3/4:Rat)^h=v3;generalize (aB^m)⁻¹=v4;generalize kQ q m aB=v5
  grind
 rw[e6]at h3;rw[e1]at hnW;exact bH hnW (bH h3 hgm)
structure Oy(E:j0)(c aB:Rat)(st:Nat):Prop where
 reg:jO E c
 hv:bp (aV E c) (E.length-1) (aG E c)=some (aB,st)
def comb(E:j0)(c:Rat)(w:j4)(k:Nat):Rat:=sm (fun l=>w l*aS (aV E c) (E.length-1) (aG E c) (ab (E.length-1) l) k) (E.length-1)
section
variable{E:j0}{c aB:Rat}{st:Nat}
def Oy.yJ(w:Oy E c aB st):wW (aV E c) (E.length-1) (aj (aV E c)) (aG E c) aB st:=by
 obtain⟨h2,h5,hl,_⟩:=w.reg.facts;refine aa5 (by rw[aX];omega) ?_ hl w.hv;unfold aG aV;rw[dp (l:=E.map _),dS,dp (l:=E),bU O];rfl
def Oy.zero(w:Oy E c aB st)(l s:Nat):nR (aV E c) (E.length-1) (aS (aV E c) (E.length-1) (aG E c) (ab (E.length-1) l)) s=0:=by
 have R:=w.yJ;obtain⟨h2,_⟩:=w.reg.facts;exact aQ3 R.l0 (by rw[aX];omega) R.hl s
def Oy.bound(w:Oy E c aB st)(l:Nat):0<=lX (aV E c) (E.length-1) (aG E c) aB st l/\∀i,st-(E.length-1+aj (aV E c))<=i->Bo (lX (aV E c) (E.length-1) (aG E c) aB st l) (aS (aV E c) (E.length-1) (aG E c) (ab (E.length-1) l) i*aB^i):=by
 have R:=w.yJ;obtain⟨h1,h2⟩:=RP (a:=aU (aV E c) (E.length-1) (aG E c) (ab (E.length-1) l) st) (aB:=aB) (n0:=st-(E.length-1+aj (aV E c))) (E.length-1+aj (aV E c));refine⟨h1,R.bounded (w.zero l) h1 fun i hi1 hi2=>?_⟩;have hs:=R.hs;have h3:=h2 (i-(st-(E.length-1+aj (aV E c)))) O;rw[show st-(E.length-1+aj (aV E c))+(i-(st-(E.length-1+aj (aV E c))))=i by omega]at h3;rw[<-tQ (aV E c) (E.length-1) (aG E c) (ab (E.length-1) l) hi2];exact((Bo.abs (co (aU (aV E c) (E.length-1) (aG E c) (ab (E.length-1) l) st) i)).mul (Bo.self (bW (by have:=R.r0;grind) i))).mono h3
def ak3(w:j4){i:Nat}(hi:i<E.length-1):comb E c w i*fr i i=w i:=by
 unfold comb;rw[jK,<-eU,<-Qa w hi];exact bK fun l hl=>by rw[<-ae8 (q:=aV E c) (m:=E.length-1) (lead:=aG E c) hi hl];grind
def aF2(w:j4)(d N:Nat)(t:Rat):iZ (dq d (comb E c w)) N t=sm (fun l=>w l*iZ (dq d (aS (aV E c) (E.length-1) (aG E c) (ab (E.length-1) l))) N t) (E.length-1):=by
 rw[<-WO];refine wk _ _ fun k _=>?_;show dq d (fun k=>sm (fun u=>w u*(fun u k=>aS (aV E c) (E.length-1) (aG E c) (ab (E.length-1) u) k) u k) (E.length-1)) k=_;rw[av5]
def af8(w:Oy E c aB st){a t:Rat}{Y:j4}{V V':k6}{j n:Nat}(g:Ao E (E.length-1) a Y c V)(ht:Bo aB t)
  (hV:∀(z:j4)(N:Nat),n<=N->(∀l,l<E.length-1->Ins (V l) (z l))->∀d,d<j->Ins (V' d) (sm (fun l=>z l*iZ (dq d (aS (aV E c) (E.length-1) (aG E c) (ab (E.length-1) l))) (N-d) t) (E.length-1))) :
  ad1 E (E.length-1) j a Y c (c+t) V':=by
 have R:=w.yJ;obtain⟨h2,_⟩:=w.reg.facts;obtain⟨lam,S,k,hlam,hS,g⟩:=g;have hl:=FR R.l0;have hr:=R.r0;have hc:=Bo.abs c;have hc0:=eM c;obtain⟨S',hS',hSb⟩:=Up E (c.abs+aB) e9 (E.length-1)
 obtain⟨lm,hlm,hla,hlb⟩:∃lm:Rat,0<lm/\lm<=lam/\lm<=(aG E c).abs/2:=by
  rcases rN (a:=lam) (b:=(aG E c).abs/2)with h | h
  .exact⟨lam,hlam,ak,h⟩
  .exact⟨(aG E c).abs/2,e9,h,ak⟩
 refine⟨lm,S+S',k,hlm,e9,fun dl hdl=>?_⟩;obtain⟨z,hp,hz⟩:=g dl hdl
 have hx:∀s,nR (aV E c) (E.length-1) (comb E c z) s=0:=fun s=>by
  have:=Wq (aV E c) (E.length-1) z (fun l=>aS (aV E c) (E.length-1) (aG E c) (ab (E.length-1) l)) s (E.length-1);unfold comb;rw[this];exact nr fun l _=>by rw[w.zero l s];grind
 have hb0:0<=sm (fun l=>(z l).abs*lX (aV E c) (E.length-1) (aG E c) aB st l) (E.length-1):=OA fun l _=>af (eM _) (w.bound l).1
 have hb:∀i,st-(E.length-1+aj (aV E c))<=i->Bo (sm (fun l=>(z l).abs*lX (aV E c) (E.length-1) (aG E c) aB st l) (E.length-1)) (comb E c z i*aB^i):=fun i hi=>by
  have h1:Bo (sm (fun l=>(z l).abs*lX (aV E c) (E.length-1) (aG E c) aB st l) (E.length-1)) (sm (fun l=>aB^i*(z l*aS (aV E c) (E.length-1) (aG E c) (ab (E.length-1) l) i)) (E.length-1)):=Bo.sm fun l _=>by
   have:=(Bo.abs (z l)).mul ((w.bound l).2 i hi)
   rwa[show z l*(aS (aV E c) (E.length-1) (aG E c) (ab (E.length-1) l) i*aB^i)=aB^i*(z l*aS (aV E c) (E.length-1) (aG E c) (ab (E.length-1) l) i) by grind]at this
  rw[eU]at h1
  rwa[jK]
 obtain⟨N,hN,hres⟩:=Tj O R hx hb0 hb dl hdl (n+j+E.length);refine⟨z,fun d=>vec (Ord.fst (comb E c z) N) t d,hp.mono hla e9 ak,⟨shL (-c) (Ord.fst (comb E c z) N),fun i hi=>?_,fun i hi=>?_,fun y hy=>?_⟩,fun d hd=>?_⟩
 .rw[RU,show c + -c=0 by grind,aa3 O,Hj _ _ O];unfold dq;rw[bw];exact ak3 z hi
 .rw[RU,show c+t + -c=t by grind]
 .have hs:Bo aB (y-c):=by
   unfold kn at hy;unfold Bo at ht|-;rcases hy with⟨q1,q2⟩ | ⟨q1,q2⟩<;>constructor<;>grind
  have hyR:Bo (c.abs+aB) y:=by have:=hc.add hs;rwa[show c+(y-c)=y by grind]at this
  refine⟨?_,?_,fun i hi=>(hSb i hi y hyR).mono e9⟩
  .rw[bg6];exact(bx0 hs _).mono hres
  .have h1:=ao7 R hs;rw[ay4,show y-c+c=y by grind]at h1;exact bH hlb h1
 .show Ins (V' d) (vec (Ord.fst (comb E c z) N) t d);rw[aa3 O,aF2];exact hV z N O hz d hd
end
def aj9{E:j0}{m:Nat}{a c x:Rat}{Y:j4}{V:k6}(h:ad1 E m m a Y c x V)(hb:kn a x c):Ao E m a Y x V:=by
 obtain⟨lam,S,n,h1,h2,h⟩:=h;refine⟨lam,S,n+1,h1,h2,fun dl hdl=>?_⟩;obtain⟨w,u,hp,pc,hi⟩:=h dl hdl;exact⟨u,hp.snoc hb pc,hi⟩
theorem QK(M v:k6):∀l,dR M v l=aK6 M v l
 | 0=>rfl
 | l+1=>by rw[dR,aK6,QK M v l]
def XQ(E:j0)(a:Rat)(y:j1):Ao E (E.length-1) a (fun i=>y.getD i 0) a (fun i=>(y.map fun y=>(y,y)).getD i (0,0)):=by
 refine⟨1,0,0,iN,ak,fun dl _=>⟨fun i=>y.getD i 0,⟨rfl,fun _ _=>rfl⟩,fun i _=>?_⟩⟩
 have e:(y.map fun y=>(y,y)).getD i (0,0)=(y.getD i 0,y.getD i 0):=by
  rw[dp,dS,dp];cases y[i]? <;> rfl
 dsimp only;rw[e];exact⟨ak,ak⟩
theorem He{E:j0}{x a:Rat}{k:Int}{Y:j4}:∀(f:Nat)(c:Rat)(v w:VS),jO E c->kn a x c->v.length=E.length-1->Ao E (E.length-1) a Y c (fun i=>v.getD i (0,0))->fe E x k f c v=some w->Ao E (E.length-1) a Y x (fun i=>w.getD i (0,0))
 | f,c,v,w,hr,hb,hvl,g,h=>by
   by_cases hcx:c=x
   .subst hcx;rw[mi]at h;cases h;exact g
   .cases f with
    | zero=>rw[uI hcx]at h;cases h
    | succ f=>
      rcases ho:xm E x k c with _ | ⟨t,M⟩
      .rw[qD (f+1) hcx ho]at h;cases h
      .rw[qL f hcx ho]at h;obtain⟨aB,st,N,hv,hn,ht,hM⟩:=Kt ho;have hpos:=(Oy.yJ ⟨hr,hv⟩).r0;obtain⟨hw1,hw2⟩:=aJ1 (x:=x) (c:=c) hpos;rw[<-ht]at hw1 hw2;have W:Ho E c aB st t k N:=⟨hr,hv,hw2,by rw[ht];exact hn⟩
       have hbt:kn c x (c+t):=by
        have he:=mN aB;rcases yo (x:=x) (c:=c) hpos with⟨e,h1⟩ | ⟨e,h1⟩ | ⟨e,h1⟩
        .rw[ht,e];unfold kn;grind
        .rw[ht,e];unfold kn;grind
        .rw[ht,e];unfold kn;grind
       have hgo:=af8 (V:=fun i=>v.getD i (0,0)) (V':=fun d=>(nA (E.length-1) k M v).getD d (0,0)) (j:=E.length-1) (n:=N) ⟨hr,hv⟩ g hw1 (fun z n hn hz d hd=>by
        have e:(nA (E.length-1) k M v).getD d (0,0)=ya (E.length-1) k M v d:=by
         rw[nA,dp,dS,jd hd];rfl
        rw[e]
        have h1:=SD (m:=E.length-1) (M:=M d) (v:=fun l=>v.getD l (0,0)) (f:=fun l=>iZ (dq d (aS (aV E c) (E.length-1) (aG E c) (ab (E.length-1) l))) (n-d) t) (g:=z)
         (fun l hl=>by rw[hM,<-ht];exact W.entry hd hn) (fun l hl=>hz l hl) (E.length-1) (ah _)
        unfold ya;rw[QK];have e2:sm (fun u=>iZ (dq d (aS (aV E c) (E.length-1) (aG E c) (ab (E.length-1) u))) (n-d) t*z u) (E.length-1)=sm (fun l=>z l*iZ (dq d (aS (aV E c) (E.length-1) (aG E c) (ab (E.length-1) l))) (n-d) t) (E.length-1):=bK fun u _=>jK _ _;rw[e2]at h1;exact⟨bH (xB _ _) h1.1,bH h1.2 (HJ _ _)⟩)
       refine He f (c+t) _ w (hr.yJ hv hw1) ?_ ?_ (aj9 hgo ?_) h
       .unfold kn at *;grind
       .rw[nA,aX,pT]
       .unfold kn at *;grind
end Go.Sy
