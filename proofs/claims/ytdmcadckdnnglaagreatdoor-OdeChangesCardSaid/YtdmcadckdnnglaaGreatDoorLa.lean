/- Part. -/
import Derived.Test.YtdmcadckdnnglaaGreatDoorHe
set_option linter.all false
namespace Ord
def Bo(s x:Rat):Prop:=-s<=x/\x<=s
def Bo.nn{s x:Rat}(h:Bo s x):0<=s:=by obtain⟨h1,h2⟩:=h;grind
def Bo.zero{s:Rat}(h:0<=s):Bo s 0:=by constructor<;>grind
def Bo.mono{s t x:Rat}(h:Bo s x)(k:s<=t):Bo t x:=by obtain⟨h1,h2⟩:=h;constructor<;>grind
def Bo.add{s t x y:Rat}(h:Bo s x)(k:Bo t y):Bo (s+t) (x+y):=by obtain⟨h1,h2⟩:=h;obtain⟨k1,k2⟩:=k;constructor<;>grind
def Bo.sub{s t x y:Rat}(h:Bo s x)(k:Bo t y):Bo (s+t) (x-y):=by obtain⟨h1,h2⟩:=h;obtain⟨k1,k2⟩:=k;constructor<;>grind
def Bo.neg{s x:Rat}(h:Bo s x):Bo s (-x):=by obtain⟨h1,h2⟩:=h;constructor<;>grind
def Bo.mul{s t x y:Rat}(h:Bo s x)(k:Bo t y):Bo (s*t) (x*y):=by
 obtain⟨h1,h2⟩:=h;obtain⟨k1,k2⟩:=k;have e1:=af (a:=s-x) (b:=t+y) e9 e9;have e2:=af (a:=s+x) (b:=t-y) e9 e9;have e3:=af (a:=s-x) (b:=t-y) e9 e9;have e4:=af (a:=s+x) (b:=t+y) e9 e9
 constructor<;>grind
theorem Bo.pow{s x:Rat}(h:Bo s x):∀k:Nat,Bo (s^k) (x^k)
 | 0=>by rw[bQ,bQ];constructor<;>decide +kernel
 | k+1=>by rw[bE,bE];exact(Bo.pow h k).mul h
def Bo.self{x:Rat}(h:0<=x):Bo x x:=by constructor<;>grind
def Bo.abs(x:Rat):Bo x.abs x:=by unfold Rat.abs Bo;split<;>constructor<;>grind
theorem Bo.sm{f g:j4}:∀{n:Nat},(∀i,i<n->Bo (g i) (f i))->Bo (sm g n) (sm f n)
 | 0,_=>Bo.zero ak
 | n+1,h=>(Bo.sm (n:=n) fun i hi=>h i O).add (h n O)
theorem bW{x:Rat}(h:0<=x):∀n:Nat,0<=x^n
 | 0=>by rw[bQ];decide +kernel
 | n+1=>by rw[bE];exact af (bW h n) h
theorem wN(f g:j4):∀n,sm (fun i=>f i+g i) n=sm f n+sm g n
 | 0=>by simp only[sm];grind
 | n+1=>by simp only[sm,wN f g n];grind
theorem eU(c:Rat)(f:j4):∀n,sm (fun i=>c*f i) n=c*sm f n
 | 0=>by simp only[sm];grind
 | n+1=>by simp only[sm,eU c f n];grind
theorem wU(c:Rat):∀n:Nat,sm (fun _=>c) n=(n:Rat)*c
 | 0=>by simp[sm]
 | n+1=>by
   rw[sm,wU c n,show((n+1:Nat):Rat)=(n:Rat)+1 by exact_mod_cast rfl]
   grind
theorem kJ(f:j4):∀n,sm f (n+1)=f 0+sm (fun i=>f (i+1)) n
 | 0=>by simp only[sm];grind
 | n+1=>by rw[sm,kJ f n,sm];grind
theorem vq{f g:j4}:∀{n:Nat},(∀i,i<n->f i<=g i)->sm f n<=sm g n
 | 0,_=>ak
 | n+1,h=>by
   have h1:=vq (n:=n) fun i hi=>h i O;have h2:=h n O;simp only[sm];grind
theorem OA{f:j4}:∀{n:Nat},(∀i,i<n->0<=f i)->0<=sm f n
 | 0,_=>ak
 | n+1,h=>by
   have h1:=OA (n:=n) fun i hi=>h i O;have h2:=h n O;simp only[sm];grind
theorem FD{f:j4}{n:Nat}:∀{m:Nat},n<=m->(∀i,0<=f i)->sm f n<=sm f m
 | 0,h,_=>by rw[show n=0 by omega];exact ak
 | m+1,h,h0=>by
   rcases bG m n with h1 | h1
   .rw[show n=m+1 by omega];exact ak
   .have h2:=FD h1 h0;have h3:=h0 m;simp only[sm];grind
def nr{f:j4}{n:Nat}(h:∀i,i<n->f i=0):sm f n=0:=by
 have:=uL (f:=f) (n:=0) (m:=n) (rm _) fun i _ hi=>h i hi;rw[this];rfl
def db{a b c d:Rat}(h1:a<=b)(h2:c<=d)(ha:0<=a)(hd:0<=d):a*c<=b*d:=by
 have e1:=eC h2 ha;have e2:=eL h1 hd
 grind
def IW{a b:Nat}(h:a<=b):(a:Rat)<=(b:Rat):=by exact_mod_cast h
def vN(a:Nat):(0:Rat)<=(a:Rat):=rl
theorem lf{x y:Rat}(h0:0<=x)(h:x<=y):∀n:Nat,x^n<=y^n
 | 0=>by rw[bQ,bQ];exact ak
 | n+1=>by
   rw[bE,bE];exact db (lf h0 h n) h (bW h0 n) e9
theorem one_le_pow{x:Rat}(h:1<=x):∀n:Nat,1<=x^n
 | 0=>by rw[bQ];decide +kernel
 | n+1=>by
   rw[bE];have:=db (one_le_pow h n) h iN e9
   grind
theorem gy(x:Rat)(m:Nat):∀n:Nat,x^(m+n)=x^m*x^n
 | 0=>by rw[cu,bQ];grind
 | n+1=>by rw[<-jF,bE,bE,gy x m n];grind
def nH{x:Rat}(h:1<=x){m n:Nat}(hmn:m<=n:=by omega):x^m<=x^n:=by
 obtain⟨k,rfl⟩:=Nat.exists_eq_add_of_le hmn;rw[gy];have h1:=one_le_pow h k;have h2:=bW (x:=x) e9 m;have:=eC h1 h2
 grind
theorem cs7:∀g:Nat,((g:Rat)+1)*(3/4:Rat)^g<=3
 | 0=>by rw[bQ];decide +kernel
 | g+1=>by
   have key:∀g:Nat,((g:Rat)/3+1)*(3/4:Rat)^g<=1:=by
    intro g
    induction g with
    | zero=>rw[bQ];decide +kernel
    | succ g ih=>
      have hg:(0:Rat)<=(g:Rat):=rl;have hp:=bW (x:=(3/4:Rat)) iN g;rw[bE,show((g+1:Nat):Rat)=(g:Rat)+1 by exact_mod_cast rfl];have:=af hg hp;generalize (3/4:Rat)^g=p at *;generalize (g:Rat)=z at *
      grind
   have:=key (g+1);have hp:=bW (x:=(3/4:Rat)) iN (g+1);generalize (3/4:Rat)^(g+1)=p at *;generalize ((g+1:Nat):Rat)=z at *
   grind
theorem tJ(x y:Rat):∀n:Nat,(x*y)^n=x^n*y^n
 | 0=>by rw[bQ,bQ,bQ];grind
 | n+1=>by rw[bE,bE,bE,tJ x y n];grind
theorem pow_mul'(x:Rat)(m:Nat):∀n:Nat,x^(m*n)=(x^m)^n
 | 0=>by rw[fu,bQ,bQ]
 | n+1=>by rw[Qi,gy,bE,pow_mul' x m n]
def aN9(C:Rat)(hC:0<=C)(p:Nat)(e:Rat)(he:0<e):∃g0:Nat,∀g,g0<=g->C*((((p+1)*g:Nat):Rat)+1)^p*(3/4:Rat)^((p+1)*g)<=e:=by
 obtain⟨g0,hg0⟩:∃g0:Nat,C*(3*((p:Rat)+1))^p*3<=e*(g0:Rat):=by
  refine⟨((C*(3*((p:Rat)+1))^p*3)/e).ceil.toNat,?_⟩;have h1:=zS (x:=(C*(3*((p:Rat)+1))^p*3)/e);generalize hq:(C*(3*((p:Rat)+1))^p*3)/e=q at *;have h2:C*(3*((p:Rat)+1))^p*3=q*e:=by rw[<-hq,di e9]
  rw[h2]
  have h3:((q.ceil:Int):Rat)<=((q.ceil.toNat:Nat):Rat):=by
   have:q.ceil<=((q.ceil.toNat:Nat):Int):=O
   have:=rP.2 this
   exact_mod_cast this
  have:=eC (a:=q) (b:=((q.ceil.toNat:Nat):Rat)) (c:=e) e9 e9
  grind
 refine⟨g0,fun g hg=>?_⟩;have hgg:(g0:Rat)<=(g:Rat):=by exact_mod_cast hg
 have hx:(0:Rat)<=3/4:=iN
 have hp0:(0:Rat)<=(p:Rat):=rl;have hg00:(0:Rat)<=(g:Rat):=rl;have hxg:=bW hx g;have h34:=cs7 g
 have e1:(3/4:Rat)^((p+1)*g)=((3/4:Rat)^g)^p*(3/4:Rat)^g:=by
  rw[show(p+1)*g=g*p+g by rw[Fg,cD],gy,pow_mul']
 have e2:((((p+1)*g:Nat):Rat)+1)<=((p:Rat)+1)*((g:Rat)+1):=by
  have:((((p+1)*g:Nat)):Rat)=((p:Rat)+1)*(g:Rat):=by exact_mod_cast rfl
  rw[this];grind
 have h0:(0:Rat)<=((((p+1)*g:Nat):Rat)+1):=by have:(0:Rat)<=(((p+1)*g:Nat):Rat):=rl;grind
 have h1:((((p+1)*g:Nat):Rat)+1)*(3/4:Rat)^g<=3*((p:Rat)+1):=by
  have:=eL e2 hxg;have h5:=eC h34 (show(0:Rat)<=(p:Rat)+1 by grind)
  grind
 have h2:=lf (af h0 hxg) h1 p;rw[tJ]at h2
 have h3:(3/4:Rat)^g*(g0:Rat)<=3:=by
  have:=eC hgg hxg
  grind
 rw[e1];have hK:0<=C*(3*((p:Rat)+1))^p:=af hC (bW e9 p);generalize (3*((p:Rat)+1))^p=K at *;generalize ((((p+1)*g:Nat):Rat)+1)^p=A at *;generalize ((3/4:Rat)^g)^p=B at *;generalize (3/4:Rat)^g=x at *;have h4:C*(A*B)<=C*K:=eC h2 hC;have h5:=eL h4 hxg
 have h6:C*K*x<=e:=by
  rcases iI g0 with h | h
  .subst h
   have:C*K<=0:=by have:((0:Nat):Rat)=0:=iN
                   rw[this]at hg0;grind
   have:=eL this hxg
   grind
  .have hpos:(0:Rat)<(g0:Rat):=by exact_mod_cast h
   refine mR (c:=(g0:Rat)) ?_ hpos;have:=eC h3 hK
   grind
 grind
end Ord
namespace Ord
def Xf(f:j4):Nat->Rat
 | 0=>0
 | k+1=>f k
def co(p:j1)(k:Nat):Rat:=p.getD k 0
def mB:List Rat->List Rat->List Rat
 | [],q=>q
 | a::p,[]=>a::p
 | a::p,b::q=>(a+b)::mB p q
def xn(c:Rat)(p:j1):List Rat:=p.map (c * ·)
def Kg:List Rat->List Rat->List Rat
 | [],_=>[]
 | a::p,q=>mB (xn a q) (0::Kg p q)
def vG:List Rat->List Rat
 | []=>[]
 | _::p=>mB p (0::vG p)
def dl(a:Rat)(k:Nat):Rat:=if k=0 then a else 0
def kj(t:Rat):List Rat->Nat->Rat
 | []=>fun _=>0
 | a::p=>fun k=>dl a k+t*kj t p k+Xf (kj t p) k
def shL(t:Rat):List Rat->List Rat
 | []=>[]
 | a::p=>mB [a] (mB (xn t (shL t p)) (0::shL t p))
def Yn(k:Nat):co [] k=0:=rfl
def RD(a:Rat)(p:j1)(k:Nat):co (a::p) (k+1)=co p k:=rfl
theorem bV4(p:j1):∀k,co (0::p) k=Xf (co p) k
 | 0=>rfl
 | _+1=>rfl
theorem bG3(a:Rat):∀k,co [a] k=dl a k
 | 0=>rfl
 | _+1=>rfl
def aH6{p:j1}{k:Nat}(h:p.length<=k):co p k=0:=QX h
theorem wT:∀(p q:j1)(k:Nat),co (mB p q) k=co p k+co q k
 | [],q,k=>by rw[mB,Yn];grind
 | a::p,[],k=>by rw[mB,Yn];grind
 | a::p,b::q,0=>rfl
 | a::p,b::q,k+1=>by rw[mB,RD,RD,RD,wT p q k]
theorem VM(c:Rat):∀(p:j1)(k:Nat),co (xn c p) k=c*co p k
 | [],k=>by show(0:Rat)=c*0;grind
 | a::p,0=>rfl
 | a::p,k+1=>VM c p k
theorem bN2(f g:j4):∀k,Xf (fun k=>f k+g k) k=Xf f k+Xf g k
 | 0=>by show(0:Rat)=0+0;grind
 | _+1=>rfl
theorem ct5(c:Rat)(f:j4):∀k,Xf (fun k=>c*f k) k=c*Xf f k
 | 0=>by show(0:Rat)=c*0;grind
 | _+1=>rfl
theorem oE{f g:j4}(h:∀k,f k=g k):∀k,Xf f k=Xf g k
 | 0=>rfl
 | k+1=>h k
theorem bc3:∀k,Xf (fun _=>0) k=0
 | 0=>rfl
 | _+1=>rfl
def ba8(k:Nat):dl 0 k=0:=by unfold dl;split<;>rfl
def bS4(a b:Rat)(k:Nat):dl (a+b) k=dl a k+dl b k:=by unfold dl;split<;>grind
def cq7(c a:Rat)(k:Nat):dl (c*a) k=c*dl a k:=by unfold dl;split<;>grind
def QG(t:Rat)(k:Nat):kj t [] k=0:=rfl
def jS(t a:Rat)(p:j1)(k:Nat):kj t (a::p) k=dl a k+t*kj t p k+Xf (kj t p) k:=rfl
theorem FI(t:Rat):∀(p q:j1)(k:Nat),kj t (mB p q) k=kj t p k+kj t q k
 | [],q,k=>by rw[mB,QG];grind
 | a::p,[],k=>by rw[mB,QG];grind
 | a::p,b::q,k=>by
   have ih:=FI t p q;rw[mB,jS,jS,jS,ih k,oE ih,bN2,bS4];grind
theorem aH7(t c:Rat):∀(p:j1)(k:Nat),kj t (xn c p) k=c*kj t p k
 | [],k=>by show(0:Rat)=c*0;grind
 | a::p,k=>by
   have ih:=aH7 t c p;show kj t (c*a::xn c p) k=_;rw[jS,jS,ih k,oE ih,ct5,cq7];grind
def bz1(t:Rat)(p:j1)(k:Nat):kj t (0::p) k=t*kj t p k+Xf (kj t p) k:=by
 rw[jS,ba8];grind
theorem WC(t:Rat):∀(p:j1)(k:Nat),co (shL t p) k=kj t p k
 | [],_=>rfl
 | a::p,k=>by
   have ih:=WC t p;rw[shL,wT,wT,VM,bV4,bG3,oE ih,ih k,jS];grind
def tB(f g:j4)(k:Nat):Rat:=sm (fun j=>f j*g (k-j)) (k+1)
theorem Hi(f g:j4):∀k,tB f g k=f 0*g k+Xf (tB (fun j=>f (j+1)) g) k
 | 0=>by show 0+f 0*g 0=f 0*g 0+0;grind
 | k+1=>by
   unfold tB;rw[kJ];show _=f 0*g (k+1)+sm (fun j=>f (j+1)*g (k-j)) (k+1)
   congr 1
   exact bK fun i _=>by rw[show k+1-(i+1)=k-i by omega]
def PF{f f' g g':j4}(h:∀k,f k=f' k)(h':∀k,g k=g' k)(k:Nat):tB f g k=tB f' g' k:=
 bK fun i _=>by rw[h,h']
def Zw(f f' g:j4)(k:Nat):tB (fun j=>f j+f' j) g k=tB f g k+tB f' g k:=by
 unfold tB;rw[<-wN];exact bK fun i _=>e9
def bC7(c:Rat)(f g:j4)(k:Nat):tB (fun j=>c*f j) g k=c*tB f g k:=by
 unfold tB;rw[<-eU];exact bK fun i _=>e9
def LQ(g:j4)(k:Nat):tB (fun _=>0) g k=0:=nr fun i _=>e9
def cn5(f g:j4)(k:Nat):tB (Xf f) g k=Xf (tB f g) k:=by
 rw[Hi];show 0*g k+Xf (tB f g) k=_
 grind
def bW5(a:Rat)(g:j4)(k:Nat):tB (dl a) g k=a*g k:=by
 rw[Hi]
 have:Xf (tB (fun j=>dl a (j+1)) g) k=0:=by
  rw[oE (g:=fun _=>0) (fun k=>by
   show tB (fun j=>dl a (j+1)) g k=0;exact LQ g k),bc3]
 rw[this,show dl a 0=a from rfl];grind
def bd9(t a:Rat)(p:j1)(g:j4)(k:Nat):tB (kj t (a::p)) g k=a*g k+t*tB (kj t p) g k+Xf (tB (kj t p) g) k:=by
 have e:tB (kj t (a::p)) g k=tB (fun j=>(fun i=>dl a i+(fun i=>t*kj t p i) i) j+Xf (kj t p) j) g k:=rfl;rw[e,Zw,Zw,bW5,bC7,cn5]
theorem af7(t:Rat)(q:j1):∀(p:j1)(k:Nat),kj t (Kg p q) k=tB (kj t p) (kj t q) k
 | [],k=>by rw[Kg,QG];exact(LQ _ _).symm
 | a::p,k=>by
   have ih:=af7 t q p;rw[Kg,FI,aH7,bz1,bd9,ih k,oE ih];grind
theorem aN3(q:j1):∀(p:j1)(k:Nat),co (Kg p q) k=tB (co p) (co q) k
 | [],k=>by rw[Kg,Yn];exact(LQ _ _).symm
 | a::p,k=>by
   have ih:=aN3 q p;rw[Kg,wT,VM,bV4,oE ih,Hi];rfl
def dF(f:j4)(k:Nat):Rat:=((k:Rat)+1)*f (k+1)
def rh(k:Nat):((k+1:Nat):Rat)=(k:Rat)+1:=by exact_mod_cast rfl
theorem ah9(a:Rat)(f r:j4)(t:Rat)(hf:∀k,f k=dl a k+t*r k+Xf r k):∀k,dF f k=t*dF r k+(r k+Xf (dF r) k)
 | 0=>by
   unfold dF;rw[hf];show _*(0+t*r 1+r 0)=t*_+(r 0+0);have:((0:Nat):Rat)=0:=iN
   rw[this];grind
 | k+1=>by
   unfold dF;rw[hf];show _*(0+t*r (k+2)+r (k+1))=t*_+(r (k+1)+((k:Rat)+1)*r (k+1));rw[rh];grind
theorem ad2(t:Rat):∀(p:j1)(k:Nat),kj t (vG p) k=dF (kj t p) k
 | [],k=>by show(0:Rat)=_*0;grind
 | a::p,k=>by
   have ih:=ad2 t p;rw[vG,FI,bz1,ah9 a (kj t (a::p)) (kj t p) t (fun k=>jS t a p k),ih k,oE ih];grind
theorem aP9:∀(p:j1)(k:Nat),co (vG p) k=dF (co p) k
 | [],k=>by show(0:Rat)=_*0;grind
 | a::p,k=>by
   have ih:=aP9 p
   rw[vG,wT,bV4,ah9 a (co (a::p)) (co p) 0 (fun k=>by
    cases k with
    | zero=>show a=a+0*co p 0+0;grind
    | succ k=>show co p k=0+0*co p (k+1)+co p k;grind),oE ih];grind
def nB(p:j1):Nat->List Rat
 | 0=>p
 | i+1=>vG (nB p i)
def dq(i:Nat)(f:j4)(k:Nat):Rat:=f (k+i)*((bB ((k+i:Nat):Int) i:Int):Rat)
def SM(f:j4)(k:Nat):dq 0 f k=f k:=by
 unfold dq;show f k*((1:Int):Rat)=_;have:((1:Int):Rat)=1:=iN
 rw[this];grind
def Uz(i:Nat)(f:j4)(k:Nat):dF (dq i f) k=dq (i+1) f k:=by
 unfold dF dq;rw[show k+1+i=k+(i+1) by omega,bB,Cf];have:(((k+(i+1):Nat):Int)-(i:Int))=(k:Int)+1:=O
 rw[this,show(((k:Int)+1:Int):Rat)=(k:Rat)+1 by exact_mod_cast rfl];grind
def Uq{f g:j4}(h:∀k,f k=g k)(k:Nat):dF f k=dF g k:=by unfold dF;rw[h]
def an7{f g:j4}(h:∀k,f k=g k)(i k:Nat):dq i f k=dq i g k:=by unfold dq;rw[h]
theorem pY(t:Rat)(p:j1):∀(i k:Nat),kj t (nB p i) k=dq i (kj t p) k
 | 0,k=>(SM _ k).symm
 | i+1,k=>by rw[nB,ad2,Uq (pY t p i),Uz]
theorem kG(p:j1):∀(i k:Nat),co (nB p i) k=dq i (co p) k
 | 0,k=>(SM _ k).symm
 | i+1,k=>by rw[nB,aP9,Uq (kG p i),Uz]
def iZ(f:j4)(N:Nat)(s:Rat):Rat:=sm (fun k=>f k*s^k) N
theorem ae1(t s:Rat):∀(p:j1)(N:Nat),p.length<=N->iZ (kj t p) N s=iZ (co p) p.length (t+s)
 | [],N,_=>nr fun i _=>by show(0:Rat)*_=0;grind
 | a::p,N+1,h=>by
   have hl:p.length<=N:=by simp at h;omega
   have h1:=ae1 t s p N hl;have h2:=ae1 t s p (N+1) O
   have e:iZ (kj t (a::p)) (N+1) s=iZ (dl a) (N+1) s+t*iZ (kj t p) (N+1) s+iZ (Xf (kj t p)) (N+1) s:=by
    unfold iZ;rw[<-eU,<-wN,<-wN];exact bK fun i _=>by rw[jS];grind
   have e1:iZ (dl a) (N+1) s=a:=by
    unfold iZ;rw[kJ,nr fun i _=>by show(0:Rat)*_=0;grind];show a*s^0+0=a;rw[bQ];grind
   have e2:iZ (Xf (kj t p)) (N+1) s=s*iZ (kj t p) N s:=by
    unfold iZ;rw[kJ,<-eU];show 0*s^0+_=_;rw[show ∀x:Rat,0*s^0+x=x from fun x=>by grind];exact bK fun i _=>by show kj t p i*s^(i+1)=_;rw[bE];grind
   have e3:iZ (co (a::p)) (a::p).length (t+s)=a+(t+s)*iZ (co p) p.length (t+s):=by
    unfold iZ;rw[bm,kJ,<-eU];show a*(t+s)^0+_=_;rw[bQ]
    congr 1
    .grind
    .exact bK fun i _=>by show co p i*(t+s)^(i+1)=_;rw[bE];grind
   rw[e,e1,e2,e3,h1,h2];grind
def nR(q:j0)(m:Nat)(x:j4)(s:Nat):Rat:=sm (fun i=>tB (co (q.getD i [])) (dq i x) s) (m+1)
def UN(q:j0)(P:j1):Nat->List Rat
 | 0=>[]
 | i+1=>mB (UN q P i) (Kg (q.getD i []) (nB P i))
theorem aD6(q:j0)(P:j1)(s:Nat):∀i,co (UN q P i) s=sm (fun i=>tB (co (q.getD i [])) (dq i (co P)) s) i
 | 0=>rfl
 | i+1=>by rw[UN,wT,aD6 q P s i,aN3,sm,PF (fun _=>rfl) (kG P i)]
theorem ab7(t:Rat){q q':j0}(h:∀i k,co (q'.getD i []) k=kj t (q.getD i []) k)(P:j1)(s:Nat):∀i,kj t (UN q P i) s=sm (fun i=>tB (co (q'.getD i [])) (dq i (kj t P)) s) i
 | 0=>rfl
 | i+1=>by rw[UN,FI,ab7 t h P s i,af7,sm,PF (fun k=>(h i k).symm) (pY t P i)]
def bw7(q:j0)(m:Nat)(P:j1)(s:Nat):co (UN q P (m+1)) s=nR q m (co P) s:=aD6 q P s (m+1)
def bT2(t:Rat){q q':j0}(h:∀i k,co (q'.getD i []) k=kj t (q.getD i []) k)(m:Nat)(P:j1)(s:Nat):kj t (UN q P (m+1)) s=nR q' m (kj t P) s:=ab7 t h P s (m+1)
def bc2(q:j0)(m:Nat)(x y:j4)(s:Nat):nR q m (fun k=>x k-y k) s=nR q m x s-nR q m y s:=by
 unfold nR tB
 have:∀(f g:j4)n,sm (fun i=>f i-g i) n=sm f n-sm g n:=by
  intro f g n
  induction n with
  | zero=>simp only[sm];grind
  | succ n ih=>simp only[sm,ih];grind
 rw[<-this];refine bK fun i _=>?_;rw[<-this];refine bK fun j _=>?_;unfold dq;grind
def aE1(q:j0)(m:Nat)(c:Rat)(x:j4)(s:Nat):nR q m (fun k=>c*x k) s=c*nR q m x s:=by
 unfold nR;rw[<-eU];refine bK fun i _=>?_;unfold tB;rw[<-eU];refine bK fun j _=>?_;unfold dq;grind
def bv1(q:j0)(m:Nat)(x y:j4)(s:Nat):nR q m (fun k=>x k+y k) s=nR q m x s+nR q m y s:=by
 unfold nR;rw[<-wN];refine bK fun i _=>?_;unfold tB;rw[<-wN];refine bK fun j _=>?_;unfold dq;grind
theorem Wq(q:j0)(m:Nat)(c:j4)(x:Nat->Nat->Rat)(s:Nat):∀n,nR q m (fun k=>sm (fun u=>c u*x u k) n) s=sm (fun u=>c u*nR q m (x u) s) n
 | 0=>by
   show nR q m (fun k=>0) s=0;have:=aE1 q m 0 (fun _=>0) s;rw[show(fun k:Nat=>(0:Rat)*(fun _=>0) k)=fun k=>0 by funext;grind]at this;rw[this];grind
 | n+1=>by
   show nR q m (fun k=>sm (fun u=>c u*x u k) n+c n*x n k) s=_;rw[bv1 q m (fun k=>sm (fun u=>c u*x u k) n) (fun k=>c n*x n k),Wq q m c x s n,aE1];rfl
def nW(th:Rat):List Rat->Rat
 | []=>0
 | a::p=>a.abs+th*nW th p
def eM(x:Rat):0<=x.abs:=by unfold Rat.abs;split<;>grind
theorem by3{th:Rat}(h:0<=th):∀p,0<=nW th p
 | []=>ak
 | a::p=>by
   have:=af h (by3 h p);have:=eM a;rw[nW];grind
theorem Qc{T t τ:Rat}(ht:Bo T t)(h0:0<=τ):∀(p:j1)(k:Nat),Bo (nW (T+τ) p) (kj t p k*τ^k)
 | [],k=>by
   rw[show kj t [] k*τ^k=0 by show(0:Rat)*_=0;grind];exact Bo.zero ak
 | a::p,0=>by
   have ih:=Qc ht h0 p 0;have h1:=ht.mul ih;have hn:=by3 (th:=T+τ) (by have:=ht.nn;grind) p;have h2:=af h0 hn
   have e:kj t (a::p) 0*τ^0=a+t*(kj t p 0*τ^0):=by
    rw[jS];show(a+t*kj t p 0+0)*_=_;rw[bQ];grind
   rw[e,nW];exact((Bo.abs a).add h1).mono e9
 | a::p,k+1=>by
   have ih1:=Qc ht h0 p (k+1);have ih0:=Qc ht h0 p k;have h1:=(ht.mul ih1).add ((Bo.self h0).mul ih0)
   have e:kj t (a::p) (k+1)*τ^(k+1)=t*(kj t p (k+1)*τ^(k+1))+τ*(kj t p k*τ^k):=by
    rw[jS];show(0+t*kj t p (k+1)+kj t p k)*_=_;rw[bE];grind
   have:=eM a;rw[e,nW];exact h1.mono e9
theorem bB9(th:Rat):∀(p:j1),nW th p=sm (fun k=>(co p k).abs*th^k) p.length
 | []=>rfl
 | a::p=>by
   rw[nW,bB9 th p,bm,kJ,<-eU];show a.abs+_=a.abs*th^0+_;rw[bQ]
   congr 1
   .grind
   .exact bK fun i _=>by show _=(co p i).abs*th^(i+1);rw[bE];grind
def co2{th β:Rat}(p:j1){M:Nat}(h0:∀k,M<=k->co p k=0)(hb:∀k,k<M->(co p k).abs*th^k<=β)(hβ:0<=β):nW th p<=(M:Rat)*β:=by
 rw[bB9];have habs0:∀k,M<=k->(co p k).abs*th^k=0:=fun k hk=>by rw[h0 k hk,show(0:Rat).abs=0 by decide +kernel];grind
 rcases FL M p.length with h | h
 .rw[uL h fun i h1 _=>habs0 i h1,<-wU];exact vq hb
 .have h1:=vq (f:=fun k=>(co p k).abs*th^k) (g:=fun _=>β) (n:=p.length) fun i hi=>hb i O;have h2:=FD (f:=fun _=>β) h fun _=>hβ;rw[wU β M]at h2
  grind
end Ord
namespace Ord
def fr(n i:Nat):Rat:=((bB (n:Int) i:Int):Rat)
theorem Uf(z:Int):∀i:Nat,bB (z+1) (i+1)=bB z i*(z+1)
 | 0=>by simp[bB]
 | i+1=>by
   rw[bB,Uf z i,bB];have:z+1-((i+1:Nat):Int)=z-i:=O
   rw[this,zX,zX,xZ (z+1)]
def Bg(n:Nat):fr n 0=1:=by
 show((1:Int):Rat)=1;decide +kernel
def Vv(n i:Nat):fr (n+1) (i+1)=fr n i*((n:Rat)+1):=by
 unfold fr;rw[show((n+1:Nat):Int)=(n:Int)+1 by omega,Uf,Cf,Rat.intCast_add];rfl
theorem Fj:∀i:Nat,fr 0 (i+1)=0
 | 0=>iN
 | i+1=>by
   have:=Fj i;unfold fr at this|-;rw[bB,Cf,this];grind
theorem xu:∀n i:Nat,0<=fr n i
 | n,0=>by rw[Bg];decide +kernel
 | 0,i+1=>by rw[Fj];exact ak
 | n+1,i+1=>by
   rw[Vv];exact af (xu n i) (by have:(0:Rat)<=(n:Rat):=rl;grind)
def mw{a b:Nat}(h:a<=b):(a:Rat)<=(b:Rat):=by exact_mod_cast h
def jo(a:Nat):(0:Rat)<=(a:Rat):=rl
theorem Cr:∀n i:Nat,fr n i<=(n:Rat)^i
 | n,0=>by rw[Bg,bQ];exact ak
 | 0,i+1=>by rw[Fj];exact bW (jo 0) _
 | n+1,i+1=>by
   rw[Vv,rh,bE];have h1:=Cr n i;have h0:=jo n;have h2:=lf h0 (show(n:Rat)<=(n:Rat)+1 by grind) i;exact eL e9 e9
theorem ab5:∀{a b:Nat}(i:Nat),a<=b->fr a i<=fr b i
 | _,_,0,_=>by rw[Bg,Bg];exact ak
 | 0,b,i+1,_=>by rw[Fj];exact xu _ _
 | a+1,b+1,i+1,h=>by
   rw[Vv,Vv];have h1:=ab5 (a:=a) (b:=b) i O;have h2:=mw (show a<=b by omega);have h3:=jo a;exact db h1 e9 (xu _ _) e9
theorem PS(s i:Nat):∀k,fr (s+i) i*((s:Rat)+1)^k<=fr (s+i+k) (i+k)
 | 0=>by rw[bQ];have:fr (s+i) i*1=fr (s+i) i:=e9
         rw[this];exact ak
 | k+1=>by
   have ih:=PS s i k;have h0:=jo s;rw[bE,show s+i+(k+1)=s+i+k+1 by omega,show i+(k+1)=i+k+1 by omega,Vv];have h1:(s:Rat)+1<=((s+i+k:Nat):Rat)+1:=by have:=mw (show s<=s+i+k by omega);grind
   have h2:=db ih h1 (af (xu _ _) (bW e9 k)) e9
   grind
def Xi(s m:Nat):1<=fr (s+m) m:=by
 have h:=PS s 0 m;rw[Bg,cu,bw]at h;have:=one_le_pow (x:=(s:Rat)+1) (by have:=jo s;grind) m
 grind
def mI(p:j1)(m i:Nat)(aB N:Rat)(k:Nat):Rat:=if i<m\/0<k then(p.getD k 0).abs*aB^(m+k-i)/N^(m-i)else 0
theorem Pb(p:j1)(m i:Nat)(aB N x:Rat):∀K,je p m i aB N x K=x+sm (mI p m i aB N) K
 | 0=>by show x=x+0;grind
 | K+1=>by
   rw[je,sm,Pb p m i aB N x K,show mI p m i aB N K=if i<m\/0<K then(p.getD K 0).abs*aB^(m+K-i)/N^(m-i)else 0 from rfl];split<;>grind
theorem gH(q:j0)(m:Nat)(aB N:Rat):∀j,bO q m aB N j=sm (fun i=>sm (mI (q.getD i []) m i aB N) (q.getD i []).length) j
 | 0=>rfl
 | j+1=>by rw[bO,Pb,gH q m aB N j,sm]
def sJ{x p:Rat}(hx:0<=x)(hp:0<p):0<=x/p:=by
 have hp0:p≠0:=e9
 refine mR (c:=p) ?_ hp;rw[di hp0];grind
def Gb{a b P Q:Rat}(hP:0<P)(hQ:0<Q)(h:a*Q<=b*P):a/P<=b/Q:=by
 have h1:a/P*P=a:=di e9;have h2:b/Q*Q=b:=di e9;refine wq (c:=P*Q) ?_ (FB hP hQ);have e1:P*Q*(a/P)=a*Q:=by rw[show P*Q*(a/P)=a/P*P*Q by grind,h1]
 have e2:P*Q*(b/Q)=b*P:=by rw[show P*Q*(b/Q)=b/Q*Q*P by grind,h2]
 rw[e1,e2];exact h
def bB7{p:j1}{m i:Nat}{aB N:Rat}(h0:0<=aB)(hN:0<N)(k:Nat):0<=mI p m i aB N k:=by
 unfold mI;split
 .exact sJ (af (eM _) (bW h0 _)) (dk hN)
 .exact ak
def cy1{p:j1}{m i:Nat}{aB N:Rat}{k:Nat}(h:p.length<=k):mI p m i aB N k=0:=by
 unfold mI;split
 .rw[QX h,show(0:Rat).abs=0 by decide +kernel];grind
 .rfl
def bD8{p:j1}{m i:Nat}{aB N:Rat}(h0:0<=aB)(hN:0<N)(K:Nat):sm (mI p m i aB N) K<=sm (mI p m i aB N) p.length:=by
 rcases FL K p.length with h | h
 .exact FD h fun k=>bB7 h0 hN k
 .rw[uL h fun k hk _=>cy1 hk];exact ak
def wy{q:j0}{m:Nat}{aB N N':Rat}(h0:0<=aB)(hN:0<N)(h:N<=N')(j:Nat):bO q m aB N' j<=bO q m aB N j:=by
 rw[gH,gH];refine vq fun i _=>vq fun k _=>?_;unfold mI;split
 .refine Gb (dk e9) (dk hN) ?_;exact eC (lf e9 h _) (af (eM _) (bW h0 _))
 .exact ak
def ak0{q:j0}{m:Nat}{aB rho' N:Rat}(h0:0<=aB)(hN:0<N)(h:aB<=rho')(j:Nat):bO q m aB N j<=bO q m rho' N j:=by
 rw[gH,gH];refine vq fun i _=>vq fun k _=>?_;unfold mI;split
 .refine Gb (dk hN) (dk hN) ?_;exact eL (eC (lf h0 h _) (eM _)) (bW e9 _)
 .exact ak
def Qj{q:j0}{m:Nat}{aB N:Rat}(h0:0<=aB)(hN:0<N)(j:Nat):0<=bO q m aB N j:=by
 rw[gH];exact OA fun i _=>OA fun k _=>bB7 h0 hN k
def Bo.cancel{c A y:Rat}(hc:0<c)(h:Bo (c*A) (c*y)):Bo A y:=by
 obtain⟨h1,h2⟩:=h
 constructor
 .exact wq (c:=c) e9 hc
 .exact wq (c:=c) e9 hc
def Bo.bi6{l A B y:Rat}(hl:l≠0)(h:Bo A (l*y))(hA:A<=l.abs*B):Bo B y:=by
 have h1:=h.mono hA;unfold Rat.abs at h1;split at h1
 .exact Bo.cancel e9 h1
 .have h2:Bo ((-l)*B) ((-l)*y):=by have:=h1.neg;rwa[show -(l*y)=(-l)*y by grind]at this
  exact Bo.cancel e9 h2
def bw4{τ Z:Rat}(hτ:0<=τ){i k s m:Nat}(hi:i<=m)(hk:k<=s)(c y:Rat)(hZ:Bo Z (y*τ^(s-k+i))) :
  Bo (fr (s+m) m*(c.abs*τ^(m+k-i)/((s:Rat)+1)^(m-i))*Z) (c*(y*fr (s-k+i) i)*τ^(s+m)):=by
 have hs:=jo s;have hP:(0:Rat)<((s:Rat)+1)^(m-i):=dk e9;have e:τ^(s+m)=τ^(s-k+i)*τ^(m+k-i):=by rw[<-gy];congr 1;omega
 have h:=(((Bo.abs c).mul hZ).mul (Bo.self (xu (s-k+i) i))).mul (Bo.self (bW hτ (m+k-i)))
 have hf:fr (s-k+i) i*((s:Rat)+1)^(m-i)<=fr (s+m) m:=by
  have h1:=PS s i (m-i);rw[show s+i+(m-i)=s+m by omega,show i+(m-i)=m by omega]at h1;have h2:=eL (ab5 i (show s-k+i<=s+i by omega)) (show 0<=((s:Rat)+1)^(m-i) by grind)
  grind
 have hr:c.abs*τ^(m+k-i)/((s:Rat)+1)^(m-i)*((s:Rat)+1)^(m-i)=c.abs*τ^(m+k-i):=di e9;have hr0:=sJ (af (eM c) (bW hτ (m+k-i))) hP;rw[e];have e2:c*(y*fr (s-k+i) i)*(τ^(s-k+i)*τ^(m+k-i))=c*(y*τ^(s-k+i))*fr (s-k+i) i*τ^(m+k-i):=e9
 rw[e2];refine h.mono ?_;have hZ0:=hZ.nn;generalize c.abs*τ^(m+k-i)/((s:Rat)+1)^(m-i)=r at *;generalize ((s:Rat)+1)^(m-i)=P at *;generalize fr (s-k+i) i=f at *;generalize fr (s+m) m=F at *;generalize τ^(m+k-i)=u at *;have h1:=eL hf (af hr0 hZ0)
 have e3:c.abs*Z*f*u=f*P*(r*Z):=by
  have:c.abs*Z*f*u=f*Z*(c.abs*u):=e9
  rw[this,<-hr];grind
 rw[e3];grind
def oT(q:j0)(m:Nat)(x:j4)(s i k:Nat):Rat:=if i<m\/0<k then co (q.getD i []) k*dq i x (s-k)else 0
def bE9(q:j0)(m:Nat)(x:j4)(s:Nat):nR q m x s=sm (fun i=>sm (oT q m x s i) (s+1)) (m+1)+co (q.getD m []) 0*dq m x s:=by
 unfold nR;rw[sm,sm]
 have e1:sm (fun i=>tB (co (q.getD i [])) (dq i x) s) m=sm (fun i=>sm (oT q m x s i) (s+1)) m:=bK fun i hi=>bK fun k _=>by
  unfold oT;rw[aI (.inl hi)]
 have e2:tB (co (q.getD m [])) (dq m x) s=sm (oT q m x s m) (s+1)+co (q.getD m []) 0*dq m x s:=by
  unfold tB;rw[kJ,kJ]
  have e3:sm (fun i=>oT q m x s m (i+1)) s=sm (fun i=>co (q.getD m []) (i+1)*dq m x (s-(i+1))) s:=bK fun k _=>by
   unfold oT;rw[aI (.inr O)]
  rw[e3,show oT q m x s m 0=0 by unfold oT;rw[aD O],QR];grind
 rw[e1,e2];grind
def maj{q:j0}{m D s:Nat}{τ Z W:Rat}{x:j4}(hτ:0<=τ)(hZ0:0<=Z)(hW:Bo W (nR q m x s*τ^(s+m)))(hD:∀i k,D<k->co (q.getD i []) k=0)
  (hZ:∀j,1<=j->j<=m+D->j<=s+m->Bo Z (x (s+m-j)*τ^(s+m-j))) :
  Bo (bO q m τ ((s:Rat)+1) (m+1)*Z+W) (co (q.getD m []) 0*(x (s+m)*τ^(s+m))):=by
 have hs:=jo s;have hN:(0:Rat)<(s:Rat)+1:=e9
 have hF:=Xi s m
 have hrow:∀i,i<m+1->Bo (fr (s+m) m*sm (mI (q.getD i []) m i τ ((s:Rat)+1)) (q.getD i []).length*Z) (sm (oT q m x s i) (s+1)*τ^(s+m)):=by
  intro i hi
  have h1:Bo (sm (fun k=>fr (s+m) m*mI (q.getD i []) m i τ ((s:Rat)+1) k*Z) (s+1)) (sm (fun k=>τ^(s+m)*oT q m x s i k) (s+1)):=Bo.sm fun k hk=>by
   unfold oT mI;split
   .rename_i hc;by_cases h0:co (q.getD i []) k=0
    .rw[h0];rw[show τ^(s+m)*(0*dq i x (s-k))=0 by grind];have:(List.getD (q.getD i []) k 0)=0:=h0;rw[this];refine Bo.zero ?_;rw[show(0:Rat).abs=0 by decide +kernel,show(0:Rat)*τ^(m+k-i)/((s:Rat)+1)^(m-i)=0 by rw[pO];grind];grind
    .have hkD:k<=D:=zi fun h=>h0 (hD i k h);have hz:=hZ (m+k-i) O O O;rw[show s+m-(m+k-i)=s-k+i by omega]at hz;have h2:=bw4 hτ (show i<=m by omega) (show k<=s by omega) (co (q.getD i []) k) (x (s-k+i)) hz
     have e:τ^(s+m)*(co (q.getD i []) k*dq i x (s-k))=co (q.getD i []) k*(x (s-k+i)*fr (s-k+i) i)*τ^(s+m):=by
      unfold dq fr;grind
     rw[e];exact h2
   .rw[show τ^(s+m)*0=0 by grind];exact Bo.zero e9
  rw[eU]at h1
  have e:sm (fun k=>fr (s+m) m*mI (q.getD i []) m i τ ((s:Rat)+1) k*Z) (s+1)=fr (s+m) m*Z*sm (mI (q.getD i []) m i τ ((s:Rat)+1)) (s+1):=by
   rw[<-eU];exact bK fun k _=>e9
  rw[e]at h1;have h2:=bD8 (p:=q.getD i []) (m:=m) (i:=i) hτ hN (s+1);have h3:=eC h2 (show 0<=fr (s+m) m*Z from af (xu _ _) hZ0);rw[show sm (oT q m x s i) (s+1)*τ^(s+m)=τ^(s+m)*sm (oT q m x s i) (s+1) by grind];exact h1.mono e9
 have hall:=Bo.sm hrow
 have e1:sm (fun i=>fr (s+m) m*sm (mI (q.getD i []) m i τ ((s:Rat)+1)) (q.getD i []).length*Z) (m+1)=fr (s+m) m*(bO q m τ ((s:Rat)+1) (m+1)*Z):=by
  rw[gH];have:sm (fun i=>fr (s+m) m*sm (mI (q.getD i []) m i τ ((s:Rat)+1)) (q.getD i []).length*Z) (m+1)=sm (fun i=>fr (s+m) m*Z*sm (mI (q.getD i []) m i τ ((s:Rat)+1)) (q.getD i []).length) (m+1):=bK fun i _=>e9
  rw[this,eU];grind
 have e2:sm (fun i=>sm (oT q m x s i) (s+1)*τ^(s+m)) (m+1)=sm (fun i=>sm (oT q m x s i) (s+1)) (m+1)*τ^(s+m):=by
  have:sm (fun i=>sm (oT q m x s i) (s+1)*τ^(s+m)) (m+1)=sm (fun i=>τ^(s+m)*sm (oT q m x s i) (s+1)) (m+1):=bK fun i _=>e9
  rw[this,eU];grind
 rw[e1,e2]at hall;have hL:=bE9 q m x s;have h:=hW.sub hall
 have e3:nR q m x s*τ^(s+m)-sm (fun i=>sm (oT q m x s i) (s+1)) (m+1)*τ^(s+m)=fr (s+m) m*(co (q.getD m []) 0*(x (s+m)*τ^(s+m))):=by
  rw[hL];unfold dq fr;grind
 rw[e3]at h;refine Bo.cancel (c:=fr (s+m) m) e9 (h.mono ?_);have hW0:=hW.nn;have:=eL hF hW0
 grind
end Ord
namespace Ord
structure wW(q:j0)(m D:Nat)(lead aB:Rat)(st:Nat):Prop where
 hl:co (q.getD m []) 0=lead
 l0:lead≠0
 r0:0<aB
 hD:∀i k,D<k->co (q.getD i []) k=0
 hs:m+D+m<=st
 start:bO q m aB (((st-m:Nat):Rat)+1) (m+1)<=lead.abs
 rad:jR ((q.getD m []).drop 1) aB ((q.getD m []).length-1)+jR ((q.getD m []).drop 1) aB ((q.getD m []).length-1)<=lead.abs
def FR{x:Rat}(h:x≠0):0<x.abs:=by unfold Rat.abs;split<;>grind
section
variable{q:j0}{m D st:Nat}{lead aB:Rat}
def wW.step(R:wW q m D lead aB st){x:j4}{s:Nat}{τ Z W th:Rat}(hτ:0<=τ)(hth:bO q m τ ((s:Rat)+1) (m+1)<=lead.abs*th)(hZ0:0<=Z)(hW:Bo (lead.abs*W) (nR q m x s*τ^(s+m)))
  (hZ:∀j,1<=j->j<=m+D->j<=s+m->Bo Z (x (s+m-j)*τ^(s+m-j))):Bo (th*Z+W) (x (s+m)*τ^(s+m)):=by
 have h:=maj hτ hZ0 hW R.hD hZ;rw[R.hl]at h;refine Bo.bi6 R.l0 h ?_;have:=eL hth hZ0
 grind
def wW.bounded(R:wW q m D lead aB st){x:j4}(hx:∀s,nR q m x s=0){b:Rat}(hb0:0<=b)(hb:∀n,st-(m+D)<=n->n<st->Bo b (x n*aB^n)):∀n,st-(m+D)<=n->Bo b (x n*aB^n):=by
 intro n
 induction n using Nat.strongRecOn with
 | _ n ih=>
   intro hn;rcases bG n st with h | h
   .exact hb n hn h
   .have hs:=R.hs;obtain⟨s,rfl⟩:∃s,n=s+m:=⟨n-m,O⟩
    have hth:bO q m aB ((s:Rat)+1) (m+1)<=lead.abs*1:=by
     have h1:=wy (q:=q) (m:=m) (aB:=aB) (N:=((st-m:Nat):Rat)+1) (N':=(s:Rat)+1) (by have:=R.r0;grind) (by have:=jo (st-m);grind) (by have:=mw (show st-m<=s by omega);grind) (m+1);have h2:=R.start
     grind
    have h3:=R.step (x:=x) (s:=s) (τ:=aB) (Z:=b) (W:=0) (th:=1) (by have:=R.r0;grind) hth hb0 (by rw[hx s,pO];exact Bo.zero e9) fun j h1 h2 h3=>ih _ O O;exact h3.mono e9
def ap6{q:j0}{m:Nat}{aB N:Rat}(h0:0<=aB)(hN:1<=N):bO q m aB N (m+1)<=bO q m aB 1 m/N+jR ((q.getD m []).drop 1) aB ((q.getD m []).length-1):=by
 have hNp:0<N:=e9
 rw[gH,gH,sm]
 have e1:sm (fun i=>sm (mI (q.getD i []) m i aB N) (q.getD i []).length) m<=sm (fun i=>sm (mI (q.getD i []) m i aB 1) (q.getD i []).length) m/N:=by
  have:sm (fun i=>sm (mI (q.getD i []) m i aB 1) (q.getD i []).length) m/N=sm (fun i=>sm (fun k=>N⁻¹*mI (q.getD i []) m i aB 1 k) (q.getD i []).length) m:=by
   rw[eJ,jK,<-eU];exact bK fun i _=>(eU _ _ _).symm
  rw[this];refine vq fun i hi=>vq fun k _=>?_;unfold mI;rw[aI (.inl hi),aI (.inl hi)]
  have h1:(1:Rat)^(m-i)=1:=by
   have:∀n:Nat,(1:Rat)^n=1:=fun n=>by
    induction n with
    | zero=>rw[bQ]
    | succ n ih=>rw[bE,ih];grind
   exact this _
  have hA:=af (eM (List.getD (q.getD i []) k 0)) (bW h0 (m+k-i));generalize (List.getD (q.getD i []) k 0).abs*aB^(m+k-i)=A at *;rw[h1,show N⁻¹*(A/1)=A/N by rw[eJ,eJ,show((1:Rat))⁻¹=1 by decide +kernel];grind];refine Gb (dk hNp) hNp (eC ?_ hA);have:=nH hN (show 1<=m-i by omega)
  rwa[show N^1=N by rw[bE,bQ];grind]at this
 have e2:sm (mI (q.getD m []) m m aB N) (q.getD m []).length=jR ((q.getD m []).drop 1) aB ((q.getD m []).length-1):=by
  cases hp:q.getD m []with
  | nil=>rfl
  | cons a p=>
    rw[bm,kJ]
    have:∀K,sm (fun i=>mI (a::p) m m aB N (i+1)) K=jR p aB K:=fun K=>by
     induction K with
     | zero=>rfl
     | succ K ih=>
       rw[sm,jR,ih]
       congr 1
       unfold mI;rw[aI (.inr O),jj,bQ,show m+(K+1)-m=K+1 by omega];show(p.getD K 0).abs*_/1=_;rw[eJ,show((1:Rat))⁻¹=1 by decide +kernel];grind
    rw[show mI (a::p) m m aB N 0=0 by unfold mI;rw[aD O]];show 0+sm (fun i=>mI (a::p) m m aB N (i+1)) p.length=jR p aB p.length;rw[this];grind
 rw[e2];grind
def wW.aV3(R:wW q m D lead aB st):∃s1:Nat,∀s,s1<=s->bO q m aB ((s:Rat)+1) (m+1)<=lead.abs*(3/4):=by
 have hl:=FR R.l0;have h0:0<=aB:=by have:=R.r0;grind
 have hS:=Qj (q:=q) (m:=m) h0 (N:=1) iN m
 obtain⟨s1,hs1⟩:∃s1:Nat,bO q m aB 1 m*4<=lead.abs*(s1:Rat):=by
  refine⟨((bO q m aB 1 m*4)/lead.abs).ceil.toNat,?_⟩;have h1:=zS (x:=(bO q m aB 1 m*4)/lead.abs);generalize hq:(bO q m aB 1 m*4)/lead.abs=v at *;have h2:bO q m aB 1 m*4=v*lead.abs:=by rw[<-hq,di e9]
  rw[h2]
  have h3:((v.ceil:Int):Rat)<=((v.ceil.toNat:Nat):Rat):=by
   have:v.ceil<=((v.ceil.toNat:Nat):Int):=O
   have:=rP.2 this
   exact_mod_cast this
  have:=eC (a:=v) (b:=((v.ceil.toNat:Nat):Rat)) (c:=lead.abs) e9 e9
  grind
 refine⟨s1,fun s hs=>?_⟩;have hss:=mw hs;have hs0:=jo s;have h1:=ap6 (q:=q) (m:=m) h0 (N:=(s:Rat)+1) e9;have h2:=R.rad
 have h3:bO q m aB 1 m/((s:Rat)+1)<=lead.abs/4:=by
  refine Gb e9 iN ?_;have:=eC (a:=(s1:Rat)) (b:=(s:Rat)+1) (c:=lead.abs) e9 e9
  grind
 grind
def wW.by6(R:wW q m D lead aB st){x:j4}(hx:∀s,nR q m x s=0){b:Rat}{n0:Nat}(hb0:0<=b)(hb:∀n,n0<=n->Bo b (x n*aB^n)) :
  ∃n1,∀h n,n1+h*(m+D)<=n->Bo (b*(3/4)^h) (x n*aB^n):=by
 obtain⟨s1,hs1⟩:=R.aV3;refine⟨n0+s1+m+D+m,fun h=>?_⟩
 induction h with
 | zero=>
   intro n hn;rw[bQ];exact(hb n O).mono e9
 | succ h ih=>
   intro n hn;rw[Fg]at hn;have hp:=bW (x:=(3/4:Rat)) iN h;obtain⟨s,rfl⟩:∃s,n=s+m:=⟨n-m,O⟩
   have h3:=R.step (x:=x) (s:=s) (τ:=aB) (Z:=b*(3/4)^h) (W:=0) (th:=3/4) (by have:=R.r0;grind) (hs1 s O) (af hb0 hp) (by rw[hx s,pO];exact Bo.zero e9) fun j h1 h2 h3=>ih _ O;rw[bE];exact h3.mono e9
end
end Ord
namespace Ord
def fst(a:j4)(N:Nat):List Rat:=(List.range N).map a
def yV(a:j4)(N n:Nat):co (fst a N) n=if n<N then a n else 0:=by
 unfold co fst;rw[kB,List.getElem?_map];split
 .rename_i h;rw[jd h];rfl
 .rename_i h;rw[gE (by rw[QH];omega)];rfl
def af2(a:j4)(N:Nat):(fst a N).length=N:=by unfold fst;rw[List.length_map,QH]
def kT(p:j1)(m i:Nat)(aB:Rat)(k:Nat):Rat:=(co p k).abs*aB^(m+k-i)
def kQ(q:j0)(m:Nat)(aB:Rat):Rat:=sm (fun i=>sm (kT (q.getD i []) m i aB) (q.getD i []).length) (m+1)
def ZU{p:j1}{m i:Nat}{aB:Rat}(h0:0<=aB)(k:Nat):0<=kT p m i aB k:=af (eM _) (bW h0 _)
def au3{q:j0}{m:Nat}{aB:Rat}(h0:0<=aB):0<=kQ q m aB:=OA fun _ _=>OA fun k _=>ZU h0 k
def bZ8{p:j1}{m i:Nat}{aB:Rat}(h0:0<=aB)(K:Nat):sm (kT p m i aB) K<=sm (kT p m i aB) p.length:=by
 rcases FL K p.length with h | h
 .exact FD h fun k=>ZU h0 k
 .rw[uL h fun k hk _=>by unfold kT;rw[aH6 hk,show(0:Rat).abs=0 by decide +kernel];grind];exact ak
def cK9{q:j0}{m D N s:Nat}{aB eps:Rat}{y:j4}(h0:0<=aB)(he:0<=eps)(hD:∀i k,D<k->co (q.getD i []) k=0)(hy0:∀n,N<=n->y n=0)(hy:∀n,N-m-D<=n->Bo eps (y n*aB^n))(hs:N<=s+m) :
  Bo (kQ q m aB*(N:Rat)^m*eps) (nR q m y s*aB^(s+m)):=by
 have hN0:=jo N;have hNm:=bW hN0 m
 have hrow:∀i,i<m+1->Bo (sm (kT (q.getD i []) m i aB) (q.getD i []).length*((N:Rat)^m*eps)) (tB (co (q.getD i [])) (dq i y) s*aB^(s+m)):=by
  intro i hi
  have h1:Bo (sm (fun k=>((N:Rat)^m*eps)*kT (q.getD i []) m i aB k) (s+1)) (sm (fun k=>aB^(s+m)*(co (q.getD i []) k*dq i y (s-k))) (s+1)):=Bo.sm fun k hk=>by
   have hnn:0<=((N:Rat)^m*eps)*kT (q.getD i []) m i aB k:=af (af hNm he) (ZU h0 k);by_cases hkD:D<k
   .rw[hD i k hkD,show aB^(s+m)*(0*dq i y (s-k))=0 by grind];exact Bo.zero hnn
   .by_cases hn:N<=s-k+i
    .rw[show dq i y (s-k)=0 by unfold dq;rw[hy0 _ hn];grind,show aB^(s+m)*(co (q.getD i []) k*0)=0 by grind];exact Bo.zero hnn
    .have hz:=hy (s-k+i) O;have e:aB^(s+m)=aB^(s-k+i)*aB^(m+k-i):=by rw[<-gy];congr 1;omega
     have h:=(((Bo.abs (co (q.getD i []) k)).mul hz).mul (Bo.self (xu (s-k+i) i))).mul (Bo.self (bW h0 (m+k-i)))
     have e2:aB^(s+m)*(co (q.getD i []) k*dq i y (s-k))=co (q.getD i []) k*(y (s-k+i)*aB^(s-k+i))*fr (s-k+i) i*aB^(m+k-i):=by
      rw[e];unfold dq fr;grind
     have hf:fr (s-k+i) i<=(N:Rat)^m:=by
      have h1:=Cr (s-k+i) i;have h2:=lf (jo (s-k+i)) (mw (show s-k+i<=N by omega)) i
      have h3:=nH (x:=(N:Rat)) (by have:=mw (show 1<=N by omega);have e:((1:Nat):Rat)=1:=iN
                                   rw[e]at this;exact this) (show i<=m by omega)
      grind
     rw[e2];refine h.mono ?_;have hA:=af he (ZU (p:=q.getD i []) (m:=m) (i:=i) h0 k);have:=eL hf hA;unfold kT at this|-
     grind
  rw[eU,eU]at h1;rw[show tB (co (q.getD i [])) (dq i y) s*aB^(s+m)=aB^(s+m)*sm (fun k=>co (q.getD i []) k*dq i y (s-k)) (s+1) by unfold tB;grind];have h2:=bZ8 (p:=q.getD i []) (m:=m) (i:=i) h0 (s+1);have h3:=eC h2 (af hNm he);exact h1.mono e9
 have hall:=Bo.sm hrow
 have e1:sm (fun i=>sm (kT (q.getD i []) m i aB) (q.getD i []).length*((N:Rat)^m*eps)) (m+1)=kQ q m aB*(N:Rat)^m*eps:=by
  have:sm (fun i=>sm (kT (q.getD i []) m i aB) (q.getD i []).length*((N:Rat)^m*eps)) (m+1)=sm (fun i=>((N:Rat)^m*eps)*sm (kT (q.getD i []) m i aB) (q.getD i []).length) (m+1):=bK fun i _=>e9
  rw[this,eU];unfold kQ;grind
 have e2:sm (fun i=>tB (co (q.getD i [])) (dq i y) s*aB^(s+m)) (m+1)=nR q m y s*aB^(s+m):=by
  have:sm (fun i=>tB (co (q.getD i [])) (dq i y) s*aB^(s+m)) (m+1)=sm (fun i=>aB^(s+m)*tB (co (q.getD i [])) (dq i y) s) (m+1):=bK fun i _=>e9
  rw[this,eU];unfold nR;grind
 rw[e1,e2]at hall;exact hall
def SY{q:j0}{m s N:Nat}{x y:j4}(h:∀n,n<N->x n=y n)(hs:s+m<N:=by omega):nR q m x s=nR q m y s:=by
 unfold nR;refine bK fun i hi=>?_;unfold tB;refine bK fun k hk=>?_;unfold dq;rw[h _ O]
def bv6{q:j0}{m D s N:Nat}{y:j4}(hD:∀i k,D<k->co (q.getD i []) k=0)(hy0:∀n,N<=n->y n=0)(hs:N+D<=s):nR q m y s=0:=by
 unfold nR;refine nr fun i hi=>?_;unfold tB;refine nr fun k hk=>?_;by_cases hkD:D<k
 .rw[hD i k hkD];grind
 .unfold dq;rw[hy0 _ O];grind
section
variable{q q':j0}{m D D' st st':Nat}{lead lead' aB rho' t τ:Rat}
def wW.cc0(R:wW q' m D' lead' rho' st')(hm:1<=m)(hτ:0<τ)(hτr:τ<=rho'):∃Th:Rat,0<=Th/\∀(e:j4)(W:Rat),0<=W->(∀k,k<m->e k=0)->(∀s,Bo (lead'.abs*W) (nR q' m e s*τ^(s+m)))->∀k:Nat,Bo (Th*((k:Rat)*W)) (e k*τ^k):=by
 have hl:=FR R.l0;have hτ0:0<=τ:=e9
 obtain⟨th,h1,hth⟩:∃th:Rat,1<=th/\bO q' m τ 1 (m+1)<=lead'.abs*th:=by
  refine⟨1+bO q' m τ 1 (m+1)/lead'.abs,?_,?_⟩
  .have:=sJ (Qj (q:=q') (m:=m) hτ0 (N:=1) iN (m+1)) hl
   grind
  .have:bO q' m τ 1 (m+1)/lead'.abs*lead'.abs=bO q' m τ 1 (m+1):=di e9
   grind
 have hpos:∀n:Nat,0<=th^n:=fun n=>bW e9 n;refine⟨th^st',hpos _,fun e W hW0 he0 hL=>?_⟩
 have key:∀k,Bo (th^(min k st')*((k:Rat)*W)) (e k*τ^k):=by
  intro k
  induction k using Nat.strongRecOn with
  | _ k ih=>
    have hk0:=jo k;rcases bG k m with h | h
    .rw[he0 k h,pO];exact Bo.zero (af (hpos _) (af hk0 hW0))
    .obtain⟨s,rfl⟩:∃s,k=s+m:=⟨k-m,O⟩
     have hs0:=jo s;have hk1:=jo (s+m-1);have hcast:((s+m:Nat):Rat)=((s+m-1:Nat):Rat)+1:=by rw[<-rh];congr 1;omega
     have hZ:∀j,1<=j->j<=m+D'->j<=s+m->Bo (th^(min (s+m-1) st')*(((s+m-1:Nat):Rat)*W)) (e (s+m-j)*τ^(s+m-j)):=fun j h1' h2 h3=>by
      refine(ih (s+m-j) O).mono ?_;have e1:=nH h1 (show min (s+m-j) st'<=min (s+m-1) st' by omega);have e2:=mw (show s+m-j<=s+m-1 by omega);have e3:=eL e2 hW0;exact db e1 e3 (hpos _) (af hk1 hW0)
     have hZ0:0<=th^(min (s+m-1) st')*(((s+m-1:Nat):Rat)*W):=af (hpos _) (af hk1 hW0);rw[hcast];have hA:=af hk1 hW0;rcases bG (s+m) st' with hlt | hge
     .have hth':bO q' m τ ((s:Rat)+1) (m+1)<=lead'.abs*th:=by
       have:=wy (q:=q') (m:=m) hτ0 (N:=1) (N':=(s:Rat)+1) iN e9 (m+1)
       grind
      have h3:=R.step hτ0 hth' hZ0 (hL s) hZ;refine h3.mono ?_;rw[show min (s+m) st'=min (s+m-1) st'+1 by omega,bE];have h4:=one_le_pow h1 (min (s+m-1) st');have h5:=db h4 h1 iN e9;have h6:=eL h5 hW0
      grind
     .have hs:=R.hs
      have hth':bO q' m τ ((s:Rat)+1) (m+1)<=lead'.abs*1:=by
       have e1:=ak0 (q:=q') (m:=m) hτ0 (N:=(s:Rat)+1) e9 hτr (m+1);have e2:=wy (q:=q') (m:=m) (aB:=rho') (N:=((st'-m:Nat):Rat)+1) (N':=(s:Rat)+1) e9 (by have:=jo (st'-m);grind) (by have:=mw (show st'-m<=s by omega);grind) (m+1);have e3:=R.start
       grind
      have h3:=R.step hτ0 hth' hZ0 (hL s) hZ;refine h3.mono ?_;have h4:=nH h1 (show min (s+m-1) st'<=min (s+m) st' by omega);have h5:=one_le_pow h1 (min (s+m) st');have h6:=eL h5 hW0;have h7:=eL h4 hA
      grind
 intro k;refine(key k).mono ?_;exact eL (nH h1) (af (jo k) hW0)
def wk{f g:j4}(N:Nat)(s:Rat)(h:∀k,k<N->f k=g k):iZ f N s=iZ g N s:=bK fun k hk=>by rw[h k hk]
def Hj(f:j4)(N:Nat)(h:1<=N):iZ f N 0=f 0:=by
 obtain⟨n,rfl⟩:∃n,N=n+1:=⟨N-1,O⟩
 unfold iZ;rw[kJ,nr fun i _=>by rw[bE];grind,bQ];grind
def RZ{f:j4}{n N:Nat}(s:Rat)(h:n<=N)(h0:∀k,n<=k->f k=0):iZ f N s=iZ f n s:=uL h fun k h1 _=>by rw[h0 k h1];grind
theorem Vh:∀p:List Rat,(vG p).length<=p.length
 | []=>jI _
 | a::p=>by
   have ih:=Vh p
   have key:∀(p q:j1),(mB p q).length<=max p.length q.length:=by
    intro p
    induction p with
    | nil=>intro q;rw[mB];simp
    | cons a p ihp=>
      intro q;cases q with
      | nil=>rw[mB];simp
      | cons b q=>rw[mB];have:=ihp q;simp only[bm];omega
   have:=key p (0::vG p);rw[vG];simp only[bm]at this|-;omega
theorem BI(p:j1):∀i,(nB p i).length<=p.length
 | 0=>jI _
 | i+1=>by have h1:=BI p i;have h2:=Vh (nB p i);rw[nB];omega
def bg9(f g:j4)(N:Nat)(s:Rat):iZ (fun k=>f k-g k) N s=iZ f N s-iZ g N s:=by
 unfold iZ;have:sm (fun k=>(f k-g k)*s^k) N=sm (fun k=>f k*s^k+(-1)*(g k*s^k)) N:=bK fun k _=>e9
 rw[this,wN,eU];grind
theorem WO(c:j4)(f:Nat->Nat->Rat)(N:Nat)(s:Rat):∀n,iZ (fun k=>sm (fun u=>c u*f u k) n) N s=sm (fun u=>c u*iZ (f u) N s) n
 | 0=>nr fun i _=>by show(0:Rat)*_=0;grind
 | n+1=>by
   show _=sm (fun u=>c u*iZ (f u) N s) n+c n*iZ (f n) N s;rw[<-WO c f N s n];unfold iZ;rw[<-eU,<-wN]
   exact bK fun k _=>by
    show(sm (fun u=>c u*f u k) n+c n*f n k)*s^k=_
    grind
def bc8(i:Nat)(f g:j4)(k:Nat):dq i (fun k=>f k-g k) k=dq i f k-dq i g k:=by unfold dq;grind
def av5(i:Nat)(c:j4)(f:Nat->Nat->Rat)(k n:Nat):dq i (fun k=>sm (fun u=>c u*f u k) n) k=sm (fun u=>c u*dq i (f u) k) n:=by
 unfold dq;rw[jK,<-eU];exact bK fun u _=>e9
def aV1(k:Nat):0<fr k k:=by
 have:=Xi 0 k;rw[bw]at this
 grind
end
end Ord
namespace Ord
def Bo.QI{A x r:Rat}(hr:0<=r)(h:Bo A (x*r)):x.abs*r<=A:=by
 obtain⟨h1,h2⟩:=h;unfold Rat.abs;split
 .exact h2
 .rw[show -x*r=-(x*r) by grind];grind
def Jt{x:Rat}(h:0<x):0<=x⁻¹:=by
 have:=sJ (x:=1) (p:=x) iN h
 rwa[eJ,show 1*x⁻¹=x⁻¹ by grind]at this
theorem Qa(f:j4){k:Nat}:∀{m:Nat},k<m->sm (fun u=>f u*if k=u then 1 else 0) m=f k
 | m+1,h=>by
   rw[sm];by_cases hk:k=m
   .subst hk;rw[aI rfl,nr fun i hi=>by rw[aD O];grind];grind
   .rw[aD hk,Qa f (show k<m by omega)];grind
section
variable{q q':j0}{m D D' st st':Nat}{lead lead' aB rho' t τ:Rat}
def cp8{N:Nat}{eps X:Rat}{a:j4}(hr:0<aB)(he:0<=eps)(hD:∀i k,D<k->co (q.getD i []) k=0)(ha:∀s,nR q m a s=0)(hy:∀n,N-m-D<=n->Bo eps (a n*aB^n))(hX:((N+D:Nat):Rat)<=X) :
  nW aB (UN q (fst a N) (m+1))<=X*(kQ q m aB*X^m*eps*(aB^m)⁻¹):=by
 have h0:0<=aB:=e9
 have hrm:=dk (n:=m) hr;have hri:=Jt hrm;have hK:=au3 (q:=q) (m:=m) h0;have hN0:=jo N;have hNX:(N:Rat)<=X:=by have:=mw (show N<=N+D by omega);grind
 have hX0:0<=X:=e9
 have hpow:=lf hN0 hNX m;have hβ:0<=kQ q m aB*X^m*eps*(aB^m)⁻¹:=af (af (af hK (bW hX0 m)) he) hri
 have h1:=co2 (th:=aB) (β:=kQ q m aB*X^m*eps*(aB^m)⁻¹) (UN q (fst a N) (m+1)) (M:=N+D) (fun k hk=>by
  rw[bw7];exact bv6 hD (fun n hn=>by rw[yV,aD O]) hk) (fun k hk=>by
  rw[bw7];rcases bG (k+m) N with h | h
  .rw[SY (y:=a) (N:=N) (fun n hn=>by rw[yV,aI hn]) h,ha,show(0:Rat).abs=0 by decide +kernel]
   grind
  .have h2:=cK9 (q:=q) (m:=m) (N:=N) (y:=co (fst a N)) h0 he hD (fun n hn=>by rw[yV,aD O]) (fun n hn=>by
    rw[yV];split
    .exact hy n hn
    .rw[pO];exact Bo.zero he) h
   rw[gy,show nR q m (co (fst a N)) k*(aB^k*aB^m)=(nR q m (co (fst a N)) k*aB^k)*aB^m by grind]at h2;have h3:=h2.QI e9
   have e3:(nR q m (co (fst a N)) k*aB^k).abs=(nR q m (co (fst a N)) k).abs*aB^k:=by
    have:=bW h0 k;have h5:=(Bo.self this)
    unfold Rat.abs;by_cases hL:0<=nR q m (co (fst a N)) k
    .rw[aI hL,aI (af hL this)]
    .rw[aD hL];have h6:=af (a:=-nR q m (co (fst a N)) k) (b:=aB^k) e9 this;split
     .rename_i h7;have:nR q m (co (fst a N)) k*aB^k=0:=e9
      grind
     .grind
   rw[e3]at h3;have h4:kQ q m aB*(N:Rat)^m*eps<=kQ q m aB*X^m*eps:=eL (eC hpow hK) he;have h5:(nR q m (co (fst a N)) k).abs*aB^k*aB^m*(aB^m)⁻¹<=kQ q m aB*X^m*eps*(aB^m)⁻¹:=eL e9 hri;have h6:aB^m*(aB^m)⁻¹=1:=Fb _ e9;have e7:(nR q m (co (fst a N)) k).abs*aB^k*aB^m*(aB^m)⁻¹=(nR q m (co (fst a N)) k).abs*aB^k*(aB^m*(aB^m)⁻¹):=e9
   rw[e7,h6]at h5
   grind) hβ
 have h2:=eL hX hβ
 grind
def there{a:j4}{N k:Nat}(hk:k<=N):dq k (kj t (fst a N)) 0=iZ (dq k a) (N-k) t:=by
 have hl:=BI (fst a N) k;rw[af2]at hl;have h1:=ae1 t 0 (nB (fst a N) k) (N+1) O;rw[Hj _ _ O,pY,show t+0=t by grind]at h1;rw[h1];have h2:iZ (co (nB (fst a N) k)) N t=iZ (co (nB (fst a N) k)) (nB (fst a N) k).length t:=RZ t hl fun j hj=>aH6 hj
 have h3:iZ (co (nB (fst a N) k)) N t=iZ (co (nB (fst a N) k)) (N-k) t:=RZ t O fun j hj=>by
  rw[kG];unfold dq;rw[yV,aD O];grind
 rw[<-h2,h3]
 exact wk _ _ fun j hj=>by
  rw[kG];unfold dq;rw[yV,aI O]
def home{a:j4}{N i:Nat}(hi:i<N):iZ (dq i (kj t (fst a N))) N (-t)=a i*fr i i:=by
 have hl:=BI (fst a N) i;rw[af2]at hl;have h1:=ae1 t (-t) (nB (fst a N) i) N hl;rw[wk (g:=dq i (kj t (fst a N))) N (-t) (fun k _=>pY t (fst a N) i k),show t + -t=0 by grind]at h1;rw[h1,<-RZ 0 hl (fun j hj=>aH6 hj),Hj _ _ O,kG];unfold dq fr;rw[yV,bw,aI hi]
def bP4{x y A r:Rat}{k i:Nat}(h0:0<=τ)(hr:Bo τ r)(h:Bo A (x*τ^(k+i))):Bo A (x*r^k*τ^i):=by
 have h1:=h.QI (bW h0 _);rw[gy]at h1;have h2:=((Bo.abs x).mul (hr.pow k)).mul (Bo.self (bW h0 i));exact h2.mono e9
def back(hm:1<=m)(R:wW q m D lead aB st)(R':wW q' m D' lead' rho' st')(hq:∀i k,co (q'.getD i []) k=kj t (q.getD i []) k)(hτ:0<τ)(ht:Bo τ t)(hT:Bo (aB-τ) t)(hτr:τ<=rho')
  {a:j4} (ha:∀s,nR q m a s=0) {g:Nat->Nat->Rat} (hg:∀u,u<m->∀s,nR q' m (g u) s=0) (hgi:∀u k,u<m->k<m->g u k*fr k k=if k=u then 1 else 0) {b:Rat} {n0:Nat} (hb0:0<=b) (hb:∀n,n0<=n->Bo b (a n*aB^n)) (i:Nat) :
  ∀eta:Rat,0<eta->∀N0:Nat,∃N,N0<=N/\Bo eta (a i*fr i i-sm (fun u=>iZ (dq u a) (N-u) t*iZ (dq i (g u)) N (-t)) m):=by
 intro eta heta N0;obtain⟨Th,hTh,hpush⟩:=R'.cc0 hm hτ hτr;obtain⟨n1,hdec⟩:=R.by6 ha hb0 hb;have hr:=R.r0;have h0:0<=aB:=e9
 have hτ0:0<=τ:=e9
 have hK:=au3 (q:=q) (m:=m) h0;have hl':=FR R'.l0;have hli:=Jt hl';have hri:=Jt (dk (n:=m) hr);have hti:=Jt (dk (n:=i) hτ);have hτm:=bW hτ0 m
 let c1:Nat:=n1+(m+D)+i+1+i+D
 let C1:Rat:=Th*kQ q m aB*(aB^m)⁻¹*τ^m*lead'.abs⁻¹*(τ^i)⁻¹
 have hC1:0<=C1:=af (af (af (af (af hTh hK) hri) hτm) hli) hti;have hC:0<=C1*b*(c1:Rat)^(i+m+3):=af (af hC1 hb0) (bW (jo c1) _);obtain⟨g0,hg0⟩:=aN9 _ hC (i+m+3) eta heta
 let h:Nat:=(i+m+3+1)*max g0 (max N0 m)
 have hgm:=hg0 (max g0 (max N0 m)) O;have hbig:max N0 m<=h:=an O (jh (max g0 (max N0 m)) (show 0<i+m+3+1 by omega));have hJ:h<=h*(m+D):=dn _ O
 let N:Nat:=n1+h*(m+D)+(m+D)+i+1
 have hNd:N=n1+h*(m+D)+(m+D)+i+1:=rfl;refine⟨N,O,?_⟩
 let eps:Rat:=b*(3/4)^h
 have heps:0<=eps:=af hb0 (bW iN h)
 let X:Rat:=((N+i+D:Nat):Rat)
 have hX0:0<=X:=jo _;have hnW:=cp8 (q:=q) (m:=m) (D:=D) (N:=N) (eps:=eps) (X:=X) (a:=a) hr heps R.hD ha (fun n hn=>hdec h n O) (mw O)
 let F:Nat->Rat:=fun u=>iZ (dq u a) (N-u) t
 let e:Nat->Rat:=fun k=>kj t (fst a N) k-sm (fun u=>F u*g u k) m
 let Wx:Rat:=X*(kQ q m aB*X^m*eps*(aB^m)⁻¹)*τ^m*lead'.abs⁻¹
 have hβ:0<=X*(kQ q m aB*X^m*eps*(aB^m)⁻¹):=af hX0 (af (af (af hK (bW hX0 m)) heps) hri);have hWx:0<=Wx:=af (af hβ hτm) hli
 have hWl:lead'.abs*Wx=X*(kQ q m aB*X^m*eps*(aB^m)⁻¹)*τ^m:=by
  have h6:lead'.abs*lead'.abs⁻¹=1:=Fb _ e9;show lead'.abs*(X*(kQ q m aB*X^m*eps*(aB^m)⁻¹)*τ^m*lead'.abs⁻¹)=_;generalize X*(kQ q m aB*X^m*eps*(aB^m)⁻¹)*τ^m=y;rw[show lead'.abs*(y*lead'.abs⁻¹)=y*(lead'.abs*lead'.abs⁻¹) by grind,h6];grind
 have he0:∀k,k<m->e k=0:=by
  intro k hk
  have h1:e k*fr k k=0:=by
   have h2:kj t (fst a N) k*fr k k=F k:=by
    have:=there (t:=t) (a:=a) (N:=N) (k:=k) O;unfold dq at this;rw[bw]at this;exact this
   have h3:sm (fun u=>F u*g u k) m*fr k k=F k:=by
    rw[jK,<-eU,<-Qa F hk];exact bK fun u hu=>by rw[<-hgi u k hu hk];grind
   show(kj t (fst a N) k-sm (fun u=>F u*g u k) m)*fr k k=0
   grind
  have:=aV1 k;rcases nk.1 h1 with h | h
  .exact h
  .grind
 have hL:∀s,Bo (lead'.abs*Wx) (nR q' m e s*τ^(s+m)):=by
  intro s
  have h1:nR q' m e s=kj t (UN q (fst a N) (m+1)) s:=by
   show nR q' m (fun k=>kj t (fst a N) k-(fun k=>sm (fun u=>F u*g u k) m) k) s=_;rw[bc2,Wq,nr fun u hu=>by rw[hg u hu];grind,bT2 t hq];grind
  have h2:=Qc hT hτ0 (UN q (fst a N) (m+1)) s;rw[show aB-τ+τ=aB by grind]at h2;have h3:=(h2.mono hnW).mul (Bo.self hτm);rw[h1,hWl,gy,show kj t (UN q (fst a N) (m+1)) s*(τ^s*τ^m)=kj t (UN q (fst a N) (m+1)) s*τ^s*τ^m from(Rat.mul_assoc _ _ _).symm];exact h3
 have hp:=hpush e Wx hWx he0 hL
 have hval:iZ (dq i e) N (-t)=a i*fr i i-sm (fun u=>F u*iZ (dq i (g u)) N (-t)) m:=by
  have h1:iZ (dq i e) N (-t)=iZ (fun k=>dq i (kj t (fst a N)) k-(fun k=>sm (fun u=>F u*dq i (g u) k) m) k) N (-t):=wk _ _ fun k _=>by
   show dq i (fun k=>kj t (fst a N) k-(fun k=>sm (fun u=>F u*g u k) m) k) k=_;rw[bc8,av5]
  rw[h1,bg9,home O,WO]
 rw[<-hval]
 have hsum:Bo ((N:Rat)*(Th*(X*Wx)*X^i)) (iZ (dq i e) N (-t)*τ^i):=by
  have h1:Bo (sm (fun _=>Th*(X*Wx)*X^i) N) (sm (fun k=>τ^i*(dq i e k*(-t)^k)) N):=Bo.sm fun k hk=>by
   have h2:=hp (k+i);have hkX:((k+i:Nat):Rat)<=X:=mw O;have h3:Th*(((k+i:Nat):Rat)*Wx)<=Th*(X*Wx):=eC (eL hkX hWx) hTh;have h4:=(bP4 (y:=0) hτ0 ht.neg (h2.mono h3)).mul (Bo.self (xu (k+i) i));have h5:=Cr (k+i) i;have h6:=lf (jo (k+i)) hkX i;have h7:=eC (show fr (k+i) i<=X^i by grind) (show 0<=Th*(X*Wx)from af hTh (af hX0 hWx));have e8:τ^i*(dq i e k*(-t)^k)=e (k+i)*(-t)^k*τ^i*fr (k+i) i:=by unfold dq fr;grind
   rw[e8];exact h4.mono h7
  rw[wU,eU]at h1;rw[show iZ (dq i e) N (-t)*τ^i=τ^i*sm (fun k=>dq i e k*(-t)^k) N by unfold iZ;grind];exact h1
 have hfin:Bo ((N:Rat)*(Th*(X*Wx)*X^i)*(τ^i)⁻¹) (iZ (dq i e) N (-t)):=by
  have h1:=hsum.mul (Bo.self hti);have h6:τ^i*(τ^i)⁻¹=1:=Fb _ (by have:=dk (n:=i) hτ;grind)
  rwa[show iZ (dq i e) N (-t)*τ^i*(τ^i)⁻¹=iZ (dq i e) N (-t)*(τ^i*(τ^i)⁻¹) by grind,h6,show iZ (dq i e) N (-t)*1=iZ (dq i e) N (-t) by grind]at h1
 refine hfin.mono ?_;have hNX:(N:Rat)<=X:=mw O;have hA0:0<=Th*(X*Wx)*X^i*(τ^i)⁻¹:=af (af (af hTh (af hX0 hWx)) (bW hX0 i)) hti
 have h1:(N:Rat)*(Th*(X*Wx)*X^i)*(τ^i)⁻¹<=X*(Th*(X*Wx)*X^i*(τ^i)⁻¹):=by
  have:=eL hNX hA0
  grind
 have e1:X*(Th*(X*Wx)*X^i*(τ^i)⁻¹)=C1*eps*X^(i+m+3):=by
  have e2:X^(i+m+3)=X^i*X^m*(X*X*X):=by
   rw[gy,gy,bE,bE,bE,bQ];grind
  rw[e2];show X*(Th*(X*(X*(kQ q m aB*X^m*eps*(aB^m)⁻¹)*τ^m*lead'.abs⁻¹))*X^i*(τ^i)⁻¹)=Th*kQ q m aB*(aB^m)⁻¹*τ^m*lead'.abs⁻¹*(τ^i)⁻¹*eps*(X^i*X^m*(X*X*X));generalize (aB^m)⁻¹=v1;generalize (τ^i)⁻¹=v2;generalize lead'.abs⁻¹=v3;generalize X^i=v4;generalize X^m=v5;generalize τ^m=v6;generalize kQ q m aB=v7;generalize eps=v8;generalize X=v9
  grind
 have hXc:X<=(c1:Rat)*(((h:Nat):Rat)+1):=by
  have h2:N+i+D<=c1*(h+1):=by
   have e3:c1*(h+1)=c1*h+c1:=Qi _ _;have e4:(m+D)*h<=c1*h:=cg _ O;rw[cD (m+D) h]at e4;omega
  have h3:=mw h2;have e5:((c1*(h+1):Nat):Rat)=(c1:Rat)*(((h:Nat):Rat)+1):=by rw[<-rh];exact_mod_cast rfl
  rw[e5]at h3;exact h3
 have h2:=lf hX0 hXc (i+m+3);rw[tJ]at h2;have h3:=eC h2 (show 0<=C1*eps from af hC1 heps)
 have e6:C1*eps*((c1:Rat)^(i+m+3)*(((h:Nat):Rat)+1)^(i+m+3))=C1*b*(c1:Rat)^(i+m+3)*(((h:Nat):Rat)+1)^(i+m+3)*(3/4)^h:=by
  show C1*(b*(3/4)^h)*_=_;generalize (c1:Rat)^(i+m+3)=v1;generalize (((h:Nat):Rat)+1)^(i+m+3)=v2;generalize (3/4:Rat)^h=v3
  grind
 rw[e6]at h3;rw[e1]at h1;exact bH h1 (bH h3 hgm)
end
end Ord
namespace Go.Sy
open Go Go.Proofs Ord
def Ps{b aB r:Rat}{n d:Nat}(hb:0<=b)(h0:0<aB)(hr:0<=r)(hd:d<=n)(h1:cP aB n d r<1):b*LU aB n d r+fM b aB (n+1) d r<=fM b aB n d r:=by
 obtain⟨hs,hs0⟩:=KM (d:=d) h0 hr hd;have hu:=YP (r:=r) h0 hd;have hu0:0<=LU aB n d r:=oZ (af (uH.2 (zx d hd)) (Fe hr)) (dk h0);have hbu:=af hb hu0;have t1:fM b aB (n+1) d r=b*LU aB (n+1) d r/(((1:Int):Rat)-cP aB ((n+1:Nat):Int) d r):=rfl;have t0:fM b aB n d r=b*LU aB n d r/(((1:Int):Rat)-cP aB n d r):=rfl;rw[t1,t0,hu];have one:((1:Int):Rat)=1:=iN
 rw[one];generalize cP aB ((n+1:Nat):Int) d r=s1 at *;generalize cP aB n d r=s0 at *;generalize LU aB n d r=u at *
 have h2:b*(u*s0)/(1-s1)<=b*(u*s0)/(1-s0):=by
  refine ta e9 e9 ?_;have:=eC (a:=1-s0) (b:=1-s1) (c:=b*(u*s0)) e9 (by have:=af hbu hs0;grind)
  grind
 have h3:b*u+b*(u*s0)/(1-s0)=b*u/(1-s0):=by
  have hne:1-s0≠0:=e9
  grind
 grind
def ZK{b aB r:Rat}{n d:Nat}(hb:0<=b)(h0:0<aB)(hr:0<=r)(hd:d<=n)(h1:cP aB n d r<1):0<=fM b aB n d r:=by
 have hu0:0<=LU aB n d r:=oZ (af (uH.2 (zx d hd)) (Fe hr)) (dk h0);have t0:fM b aB n d r=b*LU aB n d r/(((1:Int):Rat)-cP aB n d r):=rfl;rw[t0];have one:((1:Int):Rat)=1:=iN
 rw[one];exact oZ (af hb hu0) e9
def aX6{b aB t:Rat}{n d:Nat}{a:j4}(hb:0<=b)(h0:0<aB)(hd:d<=n)(h1:cP aB n d t.abs<1)(ha:∀i,n<=i->Bo b (a i*aB^i)) :
  ∀N,n<=N->Bo (fM b aB n d t.abs-fM b aB N d t.abs) (iZ (dq d a) (N-d) t-iZ (dq d a) (n-d) t)/\cP aB N d t.abs<1:=by
 have hr:=sU t;intro N hN
 induction N with
 | zero=>
   obtain rfl:n=0:=O
   refine⟨?_,h1⟩;rw[show ∀x:Rat,x-x=0 from fun x=>e9,show ∀x:Rat,x-x=0 from fun x=>by grind];exact Bo.zero ak
 | succ N ih=>
   rcases bG N n with h | h
   .obtain rfl:n=N+1:=O
    refine⟨?_,h1⟩;rw[show ∀x:Rat,x-x=0 from fun x=>e9,show ∀x:Rat,x-x=0 from fun x=>by grind];exact Bo.zero ak
   .obtain⟨ih1,ih2⟩:=ih h;have hd':d<=N:=O
    refine⟨?_,(uW hb h0 hr ih2 hd').2⟩;have hs:=Ps hb h0 hr hd' ih2;have hp:=dk (n:=N) h0
    have hterm:Bo (b*LU aB N d t.abs) (dq d a (N-d)*t^(N-d)):=by
     have h2:=((ha N h).mul (Bo.self (xu N d))).mul ((Bo.abs t).pow (N-d));refine Bo.cancel (c:=aB^N) hp ?_
     have e1:aB^N*(b*LU aB N d t.abs)=b*fr N d*t.abs^(N-d):=by
      unfold LU;have:((bB N d:Int):Rat)*t.abs^(N-d)/aB^N*aB^N=((bB N d:Int):Rat)*t.abs^(N-d):=di e9;rw[show aB^N*(b*(((bB N d:Int):Rat)*t.abs^(N-d)/aB^N))=b*(((bB N d:Int):Rat)*t.abs^(N-d)/aB^N*aB^N) by grind,this];unfold fr;grind
     have e2:aB^N*(dq d a (N-d)*t^(N-d))=a N*aB^N*fr N d*t^(N-d):=by
      unfold dq fr;rw[show N-d+d=N by omega];grind
     rw[e1,e2];exact h2
    have e3:iZ (dq d a) (N+1-d) t=iZ (dq d a) (N-d) t+dq d a (N-d)*t^(N-d):=by
     rw[show N+1-d=N-d+1 by omega];rfl
    rw[e3];have h4:=ih1.add hterm;rw[show iZ (dq d a) (N-d) t-iZ (dq d a) (n-d) t+dq d a (N-d)*t^(N-d)=iZ (dq d a) (N-d) t+dq d a (N-d)*t^(N-d)-iZ (dq d a) (n-d) t by grind]at h4;exact h4.mono e9
theorem Sf(t:Rat)(a:j1)(d n:Nat):∀c,c<=n->jl t a d n c=sm (fun j=>co a (n-c+j)*fr (n-c+j) d*t^j) c
 | 0,_=>rfl
 | c+1,hc=>by
   rw[jl,Sf t a d n c O,kJ,bQ]
   have e:sm (fun i=>co a (n-(c+1)+(i+1))*fr (n-(c+1)+(i+1)) d*t^(i+1)) c=t*sm (fun j=>co a (n-c+j)*fr (n-c+j) d*t^j) c:=by
    rw[<-eU]
    exact bK fun i hi=>by
     rw[show n-(c+1)+(i+1)=n-c+i by omega,bE];grind
   rw[e,cu,show n-(c+1)=n-1-c by omega];unfold co fr;grind
def aS(q:j0)(m:Nat)(lead:Rat)(y:j1)(n:Nat):Rat:=oP q m lead y n (aU q m lead y n)
def tQ(q:j0)(m:Nat)(lead:Rat)(y:j1){n N:Nat}(h:n<N:=by omega):co (aU q m lead y N) n=aS q m lead y n:=by
 have h1:co (aU q m lead y (n+1)) n=co (aU q m lead y N) n:=by
  unfold co;rw[<-sD q m lead y (k:=n+1) (n:=N),dp,fi,aI O,dp]
 rw[<-h1];unfold co aS;rw[aU,dp,jP (by rw[bg];exact ah _),bg,jj];rfl
def aX7(q:j0)(m:Nat)(lead:Rat)(y:j1)(t:Rat){n d:Nat}(hd:d<=n:=by omega):jl t (aU q m lead y n) d n (n-d)=iZ (dq d (aS q m lead y)) (n-d) t:=by
 rw[Sf _ _ _ _ _ O];refine bK fun j hj=>?_;rw[show n-(n-d)+j=j+d by omega,tQ q m lead y];unfold dq fr;rfl
def aQ3{q:j0}{m:Nat}{lead:Rat}{y:j1}(hl:lead≠0)(hql:q.length=m+1)(hq0:(q.getD m []).getD 0 0=lead)(s:Nat):nR q m (aS q m lead y) s=0:=by
 have h:=bO5 (q:=q) (m:=m) (s:=s) (N:=s+m+1) (lead:=lead) (y:=y) hl hql hq0;have h2:nR q m (co (aU q m lead y (s+m+1))) s=0:=h;rw[<-h2];exact SY (N:=s+m+1) (fun n hn=>(tQ q m lead y hn).symm)
def ae8{q:j0}{m:Nat}{lead:Rat}{u k:Nat}(hk:k<m)(hu:u<m):aS q m lead (ab m u) k*fr k k=if k=u then 1 else 0:=by
 have hp:=aV1 k;unfold aS oP;rw[aI hk]
 have e:(ab m u).getD k 0=if k=u then 1 else 0:=by
  unfold ab;rw[aG2 _ _ _ _ (by rw[lH];exact hu)];split
  .rfl
  .rw[dp,Bn];split<;>rfl
 rw[e];have:∀x:Rat,x/fr k k*fr k k=x:=fun x=>di e9;exact this _
def be7{k:Nat}:∀{p:j1},eE zr p<=k->p.getD k 0=0:=by
 induction k with
 | zero=>
   intro p h;cases p with
   | nil=>rfl
   | cons x p=>
     rw[eE]at h;split at h
     .rename_i hc;exact gi hc.2
     .omega
 | succ k ih=>
   intro p h;cases p with
   | nil=>rfl
   | cons x p=>
     refine ih (p:=p) ?_;rw[eE]at h;split at h
     .rename_i hc;omega
     .omega
def ao2{q:j0}{p:j1}(h:p∈q):eE zr p-1<=aj q:=by
 have key:∀(q:j0)(d:Nat),d<=q.foldl (fun d p=>max d (eE zr p-1)) d/\∀p∈q,eE zr p-1<=q.foldl (fun d p=>max d (eE zr p-1)) d:=by
  intro q
  induction q with
  | nil=>intro d;exact⟨ah _,fun p hp=>by cases hp⟩
  | cons r q ih=>
    intro d;obtain⟨h1,h2⟩:=ih (max d (eE zr r-1));rw[List.foldl_cons];refine⟨O,fun p hp=>?_⟩;rcases ee.1 hp with rfl | hp
    .omega
    .exact h2 p hp
 exact(key q 0).2 p h
def cf4{q:j0}{i k:Nat}(h:aj q<k):co (q.getD i []) k=0:=by
 rcases bG i q.length with hi | hi
 .have hm:q.getD i []∈q:=by
   rw[dp,bU hi];exact List.getElem_mem hi
  have:=ao2 hm;exact be7 (p:=q.getD i []) O
 .rw[dp,gE hi];rfl
def aa5{q:j0}{m:Nat}{lead aB:Rat}{st:Nat}(hql:q.length=m+1)(hq0:(q.getD m []).getD 0 0=lead)(hl:lead≠0)(h:bp q m lead=some (aB,st))(hm:1<=m:=by omega):wW q m (aj q) lead aB st:=by
 obtain⟨hh,ii,hrv,f1,_,f3,_,_,f6⟩:=wL (q:=q) (m:=m) (lead:=lead) hm;rw[h]at hrv;split at hrv
 .cases hrv
 .rename_i hc;simp only[aM,cF]at hrv;obtain⟨rfl,rfl⟩:=hrv;have h1:1<=2^ii:=aw O;have h2:(m+aj q+m)*1<=(m+aj q+m)*2^ii:=cd _ h1;have hst:=f6.resolve_left (fun h=>hc (.inr h));generalize (m+aj q+m)*2^ii=st at *;refine⟨hq0,hl,jZ hh,fun i k hk=>cf4 hk,O,?_,f3 O⟩;unfold gP at hst;rw[hql]at hst
  have e:(((st-m:Nat):Rat)+1)=(((st:Int)-m+1:Int):Rat):=by
   rw[<-rh,show((st:Int)-m+1:Int)=((st-m+1:Nat):Int) by omega]
   exact_mod_cast rfl
  rw[e];exact hst
theorem RP{a:j1}{aB:Rat}{n0:Nat}:∀k,0<=MG a aB n0 k/\∀j,j<k->(a.getD (n0+j) 0).abs*aB^(n0+j)<=MG a aB n0 k
 | 0=>⟨ak,fun j h=>absurd h (pG _)⟩
 | k+1=>by
   obtain⟨h1,h2⟩:=RP (a:=a) (aB:=aB) (n0:=n0) k
   have e:MG a aB n0 (k+1)=if MG a aB n0 k<(a.getD (n0+k) 0).abs*aB^(n0+k)then(a.getD (n0+k) 0).abs*aB^(n0+k)else MG a aB n0 k:=by
    rw[MG];simp[lA]
   rw[e];refine⟨by split<;>grind,fun j hj=>?_⟩;rcases bG j k with h | h
   .have:=h2 j h;split<;>grind
   .obtain rfl:j=k:=O
    split<;>grind
def qy(p:k5)(z:Rat):Prop:=p.1<=z/\z<=p.2
theorem qR{l:j1}:∀i j:Nat,j<i->mD l i<=l.getD j 0
 | 0,_,h=>absurd h (pG _)
 | i+1,j,h=>by
   rw[mD];rcases bG j i with h1 | h1
   .have ih:=qR (l:=l) i j h1;split
    .rename_i hc;rcases hc with hc | hc
     .omega
     .exact bH (pD hc) ih
    .exact ih
   .obtain rfl:j=i:=O
    split
    .exact ak
    .rename_i hc;exact pE.1 fun h=>hc (.inr h)
theorem lx{l:j1}:∀i j:Nat,j<i->l.getD j 0<=lA l i
 | 0,_,h=>absurd h (pG _)
 | i+1,j,h=>by
   rw[lA];rcases bG j i with h1 | h1
   .have ih:=lx (l:=l) i j h1;split
    .rename_i hc;rcases hc with hc | hc
     .omega
     .exact bH ih (pD hc)
    .exact ih
   .obtain rfl:j=i:=O
    split
    .exact ak
    .rename_i hc;exact pE.1 fun h=>hc (.inr h)
def LB{a c d z:Rat}(h:c<=z/\z<=d):(a*c<=a*z/\a*z<=a*d)\/(a*d<=a*z/\a*z<=a*c):=by
 rcases rN (a:=0) (b:=a)with ha | ha
 .exact .inl ⟨eC h.1 ha,eC h.2 ha⟩
 .have h1:=eC (c:=-a) h.1 e9;have h2:=eC (c:=-a) h.2 e9;exact .inr ⟨e9,e9⟩
def qy.mul{p q:k5}{x y:Rat}(h:qy p x)(k:qy q y):qy (jq p.1 p.2 q.1 q.2,jz p.1 p.2 q.1 q.2) (x*y):=by
 have l0:jq p.1 p.2 q.1 q.2<=p.1*q.1:=qR (l:=hU p.1 p.2 q.1 q.2) 4 0 O;have l1:jq p.1 p.2 q.1 q.2<=p.1*q.2:=qR (l:=hU p.1 p.2 q.1 q.2) 4 1 O;have l2:jq p.1 p.2 q.1 q.2<=p.2*q.1:=qR (l:=hU p.1 p.2 q.1 q.2) 4 2 O;have l3:jq p.1 p.2 q.1 q.2<=p.2*q.2:=qR (l:=hU p.1 p.2 q.1 q.2) 4 3 O;have g0:p.1*q.1<=jz p.1 p.2 q.1 q.2:=lx (l:=hU p.1 p.2 q.1 q.2) 4 0 O;have g1:p.1*q.2<=jz p.1 p.2 q.1 q.2:=lx (l:=hU p.1 p.2 q.1 q.2) 4 1 O;have g2:p.2*q.1<=jz p.1 p.2 q.1 q.2:=lx (l:=hU p.1 p.2 q.1 q.2) 4 2 O;have g3:p.2*q.2<=jz p.1 p.2 q.1 q.2:=lx (l:=hU p.1 p.2 q.1 q.2) 4 3 O;have e1:=LB (a:=y) h;have e2:=LB (a:=p.1) k;have e3:=LB (a:=p.2) k;show jq p.1 p.2 q.1 q.2<=x*y/\x*y<=jz p.1 p.2 q.1 q.2;generalize jq p.1 p.2 q.1 q.2=L at *;generalize jz p.1 p.2 q.1 q.2=H at *;rw[jK y p.1,jK y x,jK y p.2]at e1;generalize p.1*q.1=a1 at *;generalize p.1*q.2=a2 at *;generalize p.2*q.1=a3 at *;generalize p.2*q.2=a4 at *;generalize p.1*y=b1 at *;generalize p.2*y=b2 at *;generalize x*y=z at *
 constructor
 .rcases e1 with⟨c1,c2⟩ | ⟨c1,c2⟩<;>rcases e2 with⟨d1,d2⟩ | ⟨d1,d2⟩<;>rcases e3 with⟨f1,f2⟩ | ⟨f1,f2⟩<;>grind
 .rcases e1 with⟨c1,c2⟩ | ⟨c1,c2⟩<;>rcases e2 with⟨d1,d2⟩ | ⟨d1,d2⟩<;>rcases e3 with⟨f1,f2⟩ | ⟨f1,f2⟩<;>grind
def qy.add{p q:k5}{x y:Rat}(h:qy p x)(k:qy q y):qy (p.1+q.1,p.2+q.2) (x+y):=by
 obtain⟨h1,h2⟩:=h;obtain⟨k1,k2⟩:=k
 constructor<;>dsimp only <;> grind
def aK6(M v:k6):Nat->Rat×Rat
 | 0=>(0,0)
 | l+1=>((aK6 M v l).1+jq (M l).1 (M l).2 (v l).1 (v l).2,(aK6 M v l).2+jz (M l).1 (M l).2 (v l).1 (v l).2)
theorem SD{M v:k6}{f g:j4}{m:Nat}(hf:∀l,l<m->qy (M l) (f l))(hg:∀l,l<m->qy (v l) (g l)):∀l,l<=m->qy (aK6 M v l) (sm (fun u=>f u*g u) l)
 | 0,_=>⟨ak,ak⟩
 | l+1,hl=>(SD hf hg l O).add ((hf l O).mul (hg l O))
def bq6(z:Rat):(VZ z:Rat)<=z:=by
 rw[Ay,jB,pF];have h:(z.den:Int)≠0:=by have:=z.den_pos;omega
 have:=Int.ediv_mul_le z.num h;unfold VZ;generalize z.num/(z.den:Int)*(z.den:Int)=y at *;omega
def xB(q:Rat)(k:Nat):oJ q k<=q:=by
 have h:=bq6 (q*nI k);have hp:0<2^k:=aw O;have hN:(0:Rat)<nI k:=rZ.2 O;have e:mkRat 1 (2^k)=1/nI k:=by rw[uJ];rfl
 unfold oJ;rw[e];have h1:(0:Rat)<=1/nI k:=oZ iN hN;have h2:=eL h h1
 have h3:q*nI k*(1/nI k)=q:=by
  have:nI k≠0:=e9
  grind
 rwa[h3]at h2
def HJ(q:Rat)(k:Nat):q<=ZA q k:=by
 have:=xB (-q) k;rw[<-at4];grind
theorem mb:∀(p q:j1)(x:Rat),ev (mB p q) x=ev p x+ev q x
 | [],q,x=>by rw[mB,dV];grind
 | a::p,[],x=>by rw[mB,dV];grind
 | a::p,b::q,x=>by rw[mB,av,av,av,mb p q x];grind
theorem zG(c:Rat):∀(p:j1)(x:Rat),ev (xn c p) x=c*ev p x
 | [],x=>by show(0:Rat)=c*0;grind
 | a::p,x=>by
   show ev (c*a::xn c p) x=_;rw[av,av,zG c p x];grind
theorem Qf(t:Rat):∀(p:j1)(x:Rat),ev (shL t p) x=ev p (x+t)
 | [],x=>rfl
 | a::p,x=>by
   rw[shL,mb,mb,zG,av,av,dV,av,Qf t p x];grind
structure Ho(E:j0)(X aB:Rat)(st:Nat)(t:Rat)(k:Int)(n:Nat):Prop where
 reg:jO E X
 hv:bp (aV E X) (E.length-1) (aG E X)=some (aB,st)
 t2:t.abs*2<=aB
 hn:ew E X aB st t (E.length-1-1) k=some n
section
variable{E:j0}{X aB t:Rat}{st n:Nat}{k:Int}
def Ho.yJ(w:Ho E X aB st t k n):wW (aV E X) (E.length-1) (aj (aV E X)) (aG E X) aB st:=by
 obtain⟨h2,h5,hl,_⟩:=w.reg.facts;refine aa5 (by rw[aX];omega) ?_ hl w.hv;unfold aG aV;rw[dp (l:=E.map _),dS,dp (l:=E),bU O];rfl
def Ho.bh7(w:Ho E X aB st t k n):st<=n:=by
 have h:=w.hn;unfold ew BW at h;have h1:=(lS (yA (QC (aV E X) (E.length-1) (aG E X) aB st t.abs (nG k) (E.length-1-1)) (E.length-1)) (1501-st) st).1;split at h
 .simp only[aM]at h;omega
 .cases h
def Ho.zero(w:Ho E X aB st t k n)(l s:Nat):nR (aV E X) (E.length-1) (aS (aV E X) (E.length-1) (aG E X) (ab (E.length-1) l)) s=0:=by
 have R:=w.yJ;obtain⟨h2,_⟩:=w.reg.facts;exact aQ3 R.l0 (by rw[aX];omega) R.hl s
def Ho.bound(w:Ho E X aB st t k n)(l:Nat):0<=lX (aV E X) (E.length-1) (aG E X) aB st l/\∀i,st-(E.length-1+aj (aV E X))<=i->Bo (lX (aV E X) (E.length-1) (aG E X) aB st l) (aS (aV E X) (E.length-1) (aG E X) (ab (E.length-1) l) i*aB^i):=by
 have R:=w.yJ;obtain⟨h1,h2⟩:=RP (a:=aU (aV E X) (E.length-1) (aG E X) (ab (E.length-1) l) st) (aB:=aB) (n0:=st-(E.length-1+aj (aV E X))) (E.length-1+aj (aV E X));refine⟨h1,R.bounded (w.zero l) h1 fun i hi1 hi2=>?_⟩;have hs:=R.hs;have h3:=h2 (i-(st-(E.length-1+aj (aV E X)))) O;rw[show st-(E.length-1+aj (aV E X))+(i-(st-(E.length-1+aj (aV E X))))=i by omega]at h3;rw[<-tQ (aV E X) (E.length-1) (aG E X) (ab (E.length-1) l) hi2];exact((Bo.abs (co (aU (aV E X) (E.length-1) (aG E X) (ab (E.length-1) l) st) i)).mul (Bo.self (bW (by have:=R.r0;grind) i))).mono h3
def Ho.entry(w:Ho E X aB st t k n){d l N:Nat}(hd:d<E.length-1)(hN:n<=N) :
  qy (RC (aV E X) (E.length-1) (aG E X) aB st t k n d l,QA (aV E X) (E.length-1) (aG E X) aB st t k n d l) (iZ (dq d (aS (aV E X) (E.length-1) (aG E X) (ab (E.length-1) l))) (N-d) t):=by
 have R:=w.yJ;have hs:=R.hs;have hst:=w.bh7;have h2:t.abs+t.abs<=aB:=by have:=w.t2;grind
 obtain⟨hb0,hb⟩:=w.bound l;have hsh:=ze (n:=n) (d:=d) R.r0 (sU t) h2;obtain⟨hp,hsN⟩:=aX6 hb0 R.r0 (show d<=n by omega) hsh (fun i hi=>hb i O) N hN;have htn:=ZK (d:=d) hb0 R.r0 (sU t) (show d<=N by omega) hsN;have hS:bD0 (aV E X) (E.length-1) (aG E X) t n d l=iZ (dq d (aS (aV E X) (E.length-1) (aG E X) (ab (E.length-1) l))) (n-d) t:=aX7 _ _ _ _ _;have hO:Cn (aV E X) (E.length-1) (aG E X) aB st t n d l=fM (lX (aV E X) (E.length-1) (aG E X) aB st l) aB n d t.abs:=rfl;unfold RC QA qy;rw[hS,hO];obtain⟨p1,p2⟩:=hp;generalize iZ (dq d (aS (aV E X) (E.length-1) (aG E X) (ab (E.length-1) l))) (N-d) t=z at *;generalize iZ (dq d (aS (aV E X) (E.length-1) (aG E X) (ab (E.length-1) l))) (n-d) t=y at *;generalize fM (lX (aV E X) (E.length-1) (aG E X) aB st l) aB n d t.abs=T at *;generalize fM (lX (aV E X) (E.length-1) (aG E X) aB st l) aB N d t.abs=T' at *;have e1:=xB (y + -T) k.toNat;have e2:=HJ (y+T) k.toNat
 constructor<;>dsimp only <;> grind
end
end Go.Sy
