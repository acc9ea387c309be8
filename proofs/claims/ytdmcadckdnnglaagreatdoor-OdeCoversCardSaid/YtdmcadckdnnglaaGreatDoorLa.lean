/- Part. -/
import Derived.Test.YtdmcadckdnnglaaGreatDoorHc
set_option linter.all false
namespace Ord
def Bo(s x:Rat):Prop:=-s<=x/\x<=s
def Bo.nn{s x:Rat}(h:Bo s x):0<=s:=by obtain⟨h1,h2⟩:=h;grind
def Bo.zero{s:Rat}(h:0<=s):Bo s 0:=by constructor<;>grind
def Bo.mono{s t x:Rat}(h:Bo s x)(k:s<=t):Bo t x:=by obtain⟨h1,h2⟩:=h;constructor<;>grind
def Bo.add{s t x y:Rat}(h:Bo s x)(k:Bo t y):Bo (s+t) (x+y):=by obtain⟨h1,h2⟩:=h;obtain⟨k1,k2⟩:=k;constructor<;>grind
def Bo.sub{s t x y:Rat}(h:Bo s x)(k:Bo t y):Bo (s+t) (x-y):=by obtain⟨h1,h2⟩:=h;obtain⟨k1,k2⟩:=k;constructor<;>grind
def Bo.neg{s x:Rat}(h:Bo s x):Bo s (-x):=by obtain⟨h1,h2⟩:=h;constructor<;>grind
def Bo.mul{s t x y:Rat}(h:Bo s x)(k:Bo t y):Bo (s*t) (x*y):=by
 obtain⟨h1,h2⟩:=h;obtain⟨k1,k2⟩:=k;have e1:=Rat.mul_nonneg (a:=s-x) (b:=t+y) (by grind) (by grind);have e2:=Rat.mul_nonneg (a:=s+x) (b:=t-y) (by grind) (by grind);have e3:=Rat.mul_nonneg (a:=s-x) (b:=t-y) (by grind) (by grind);have e4:=Rat.mul_nonneg (a:=s+x) (b:=t+y) (by grind) (by grind)
 constructor<;>grind
theorem Bo.pow{s x:Rat}(h:Bo s x):∀k:Nat,Bo (s^k) (x^k)
 | 0=>by rw[Rat.pow_zero,Rat.pow_zero];constructor<;>decide +kernel
 | k+1=>by rw[Rat.pow_succ,Rat.pow_succ];exact(Bo.pow h k).mul h
def Bo.self{x:Rat}(h:0<=x):Bo x x:=by constructor<;>grind
def Bo.abs(x:Rat):Bo x.abs x:=by unfold Rat.abs Bo;split<;>constructor<;>grind
theorem Bo.sm{f g:Nat->Rat}:∀{n:Nat},(∀i,i<n->Bo (g i) (f i))->Bo (sm g n) (sm f n)
 | 0,_=>Bo.zero Rat.le_refl
 | n+1,h=>(Bo.sm (n:=n) fun i hi=>h i O).add (h n O)
theorem bj{x:Rat}(h:0<=x):∀n:Nat,0<=x^n
 | 0=>by rw[Rat.pow_zero];decide +kernel
 | n+1=>by rw[Rat.pow_succ];exact Rat.mul_nonneg (bj h n) h
theorem sf(f g:Nat->Rat):∀n,sm (fun i=>f i+g i) n=sm f n+sm g n
 | 0=>by simp only[sm];grind
 | n+1=>by simp only[sm,sf f g n];grind
theorem de(c:Rat)(f:Nat->Rat):∀n,sm (fun i=>c*f i) n=c*sm f n
 | 0=>by simp only[sm];grind
 | n+1=>by simp only[sm,de c f n];grind
theorem sx(c:Rat):∀n:Nat,sm (fun _=>c) n=(n:Rat)*c
 | 0=>by simp[sm]
 | n+1=>by
   rw[sm,sx c n,show((n+1:Nat):Rat)=(n:Rat)+1 by exact_mod_cast rfl]
   grind
theorem gy(f:Nat->Rat):∀n,sm f (n+1)=f 0+sm (fun i=>f (i+1)) n
 | 0=>by simp only[sm];grind
 | n+1=>by rw[sm,gy f n,sm];grind
theorem wW{f g:Nat->Rat}:∀{n:Nat},(∀i,i<n->f i<=g i)->sm f n<=sm g n
 | 0,_=>Rat.le_refl
 | n+1,h=>by
   have h1:=wW (n:=n) fun i hi=>h i O;have h2:=h n O;simp only[sm];grind
theorem HX{f:Nat->Rat}:∀{n:Nat},(∀i,i<n->0<=f i)->0<=sm f n
 | 0,_=>Rat.le_refl
 | n+1,h=>by
   have h1:=HX (n:=n) fun i hi=>h i O;have h2:=h n O;simp only[sm];grind
theorem BU{f:Nat->Rat}{n:Nat}:∀{m:Nat},n<=m->(∀i,0<=f i)->sm f n<=sm f m
 | 0,h,_=>by rw[show n=0 by omega];exact Rat.le_refl
 | m+1,h,h0=>by
   rcases Nat.lt_or_ge m n with h1 | h1
   ·rw[show n=m+1 by omega];exact Rat.le_refl
   ·have h2:=BU h1 h0;have h3:=h0 m;simp only[sm];grind
def kW{f:Nat->Rat}{n:Nat}(h:∀i,i<n->f i=0):sm f n=0:=by
 have:=qZ (f:=f) (n:=0) (m:=n) (Nat.zero_le _) fun i _ hi=>h i hi;rw[this];rfl
def ey{a b c d:Rat}(h1:a<=b)(h2:c<=d)(ha:0<=a)(hd:0<=d):a*c<=b*d:=by
 have e1:=Rat.mul_le_mul_of_nonneg_left h2 ha;have e2:=Rat.mul_le_mul_of_nonneg_right h1 hd
 grind
def Ec{a b:Nat}(h:a<=b):(a:Rat)<=(b:Rat):=by exact_mod_cast h
def ub(a:Nat):(0:Rat)<=(a:Rat):=Rat.natCast_nonneg
theorem ml{x y:Rat}(h0:0<=x)(h:x<=y):∀n:Nat,x^n<=y^n
 | 0=>by rw[Rat.pow_zero,Rat.pow_zero];exact Rat.le_refl
 | n+1=>by
   rw[Rat.pow_succ,Rat.pow_succ];exact ey (ml h0 h n) h (bj h0 n) (by grind)
theorem one_le_pow{x:Rat}(h:1<=x):∀n:Nat,1<=x^n
 | 0=>by rw[Rat.pow_zero];decide +kernel
 | n+1=>by
   rw[Rat.pow_succ];have:=ey (one_le_pow h n) h (by decide +kernel) (by grind)
   grind
theorem gL(x:Rat)(m:Nat):∀n:Nat,x^(m+n)=x^m*x^n
 | 0=>by rw[Nat.add_zero,Rat.pow_zero];grind
 | n+1=>by rw[<-Nat.add_assoc,Rat.pow_succ,Rat.pow_succ,gL x m n];grind
def xz{x:Rat}(h:1<=x){m n:Nat}(hmn:m<=n:=by omega):x^m<=x^n:=by
 obtain⟨k,rfl⟩:=Nat.exists_eq_add_of_le hmn;rw[gL];have h1:=one_le_pow h k;have h2:=bj (x:=x) (by grind) m;have:=Rat.mul_le_mul_of_nonneg_left h1 h2
 grind
theorem bF5:∀g:Nat,((g:Rat)+1)*(3/4:Rat)^g<=3
 | 0=>by rw[Rat.pow_zero];decide +kernel
 | g+1=>by
   have key:∀g:Nat,((g:Rat)/3+1)*(3/4:Rat)^g<=1:=by
    intro g
    induction g with
    | zero=>rw[Rat.pow_zero];decide +kernel
    | succ g ih=>
      have hg:(0:Rat)<=(g:Rat):=Rat.natCast_nonneg;have hp:=bj (x:=(3/4:Rat)) (by decide +kernel) g;rw[Rat.pow_succ,show((g+1:Nat):Rat)=(g:Rat)+1 by exact_mod_cast rfl];have:=Rat.mul_nonneg hg hp;generalize (3/4:Rat)^g=p at *;generalize (g:Rat)=z at *
      grind
   have:=key (g+1);have hp:=bj (x:=(3/4:Rat)) (by decide +kernel) (g+1);generalize (3/4:Rat)^(g+1)=p at *;generalize ((g+1:Nat):Rat)=z at *
   grind
theorem vw(x y:Rat):∀n:Nat,(x*y)^n=x^n*y^n
 | 0=>by rw[Rat.pow_zero,Rat.pow_zero,Rat.pow_zero];grind
 | n+1=>by rw[Rat.pow_succ,Rat.pow_succ,Rat.pow_succ,vw x y n];grind
theorem pow_mul'(x:Rat)(m:Nat):∀n:Nat,x^(m*n)=(x^m)^n
 | 0=>by rw[Nat.mul_zero,Rat.pow_zero,Rat.pow_zero]
 | n+1=>by rw[Nat.mul_succ,gL,Rat.pow_succ,pow_mul' x m n]
def ab8(C:Rat)(hC:0<=C)(p:Nat)(e:Rat)(he:0<e):∃g0:Nat,∀g,g0<=g->C*((((p+1)*g:Nat):Rat)+1)^p*(3/4:Rat)^((p+1)*g)<=e:=by
 obtain⟨g0,hg0⟩:∃g0:Nat,C*(3*((p:Rat)+1))^p*3<=e*(g0:Rat):=by
  refine⟨((C*(3*((p:Rat)+1))^p*3)/e).ceil.toNat,?_⟩;have h1:=Rat.le_ceil (x:=(C*(3*((p:Rat)+1))^p*3)/e);generalize hq:(C*(3*((p:Rat)+1))^p*3)/e=q at *;have h2:C*(3*((p:Rat)+1))^p*3=q*e:=by rw[<-hq,Rat.div_mul_cancel (by grind)]
  rw[h2]
  have h3:((q.ceil:Int):Rat)<=((q.ceil.toNat:Nat):Rat):=by
   have:q.ceil<=((q.ceil.toNat:Nat):Int):=O
   have:=Rat.intCast_le_intCast.2 this
   exact_mod_cast this
  have:=Rat.mul_le_mul_of_nonneg_left (a:=q) (b:=((q.ceil.toNat:Nat):Rat)) (c:=e) (by grind) (by grind)
  grind
 refine⟨g0,fun g hg=>?_⟩;have hgg:(g0:Rat)<=(g:Rat):=by exact_mod_cast hg
 have hx:(0:Rat)<=3/4:=by decide +kernel
 have hp0:(0:Rat)<=(p:Rat):=Rat.natCast_nonneg;have hg00:(0:Rat)<=(g:Rat):=Rat.natCast_nonneg;have hxg:=bj hx g;have h34:=bF5 g
 have e1:(3/4:Rat)^((p+1)*g)=((3/4:Rat)^g)^p*(3/4:Rat)^g:=by
  rw[show(p+1)*g=g*p+g by rw[Nat.succ_mul,Nat.mul_comm],gL,pow_mul']
 have e2:((((p+1)*g:Nat):Rat)+1)<=((p:Rat)+1)*((g:Rat)+1):=by
  have:((((p+1)*g:Nat)):Rat)=((p:Rat)+1)*(g:Rat):=by exact_mod_cast rfl
  rw[this];grind
 have h0:(0:Rat)<=((((p+1)*g:Nat):Rat)+1):=by have:(0:Rat)<=(((p+1)*g:Nat):Rat):=Rat.natCast_nonneg;grind
 have h1:((((p+1)*g:Nat):Rat)+1)*(3/4:Rat)^g<=3*((p:Rat)+1):=by
  have:=Rat.mul_le_mul_of_nonneg_right e2 hxg;have h5:=Rat.mul_le_mul_of_nonneg_left h34 (show(0:Rat)<=(p:Rat)+1 by grind)
  grind
 have h2:=ml (Rat.mul_nonneg h0 hxg) h1 p;rw[vw]at h2
 have h3:(3/4:Rat)^g*(g0:Rat)<=3:=by
  have:=Rat.mul_le_mul_of_nonneg_left hgg hxg
  grind
 rw[e1];have hK:0<=C*(3*((p:Rat)+1))^p:=Rat.mul_nonneg hC (bj (by grind) p);generalize (3*((p:Rat)+1))^p=K at *;generalize ((((p+1)*g:Nat):Rat)+1)^p=A at *;generalize ((3/4:Rat)^g)^p=B at *;generalize (3/4:Rat)^g=x at *;have h4:C*(A*B)<=C*K:=Rat.mul_le_mul_of_nonneg_left h2 hC;have h5:=Rat.mul_le_mul_of_nonneg_right h4 hxg
 have h6:C*K*x<=e:=by
  rcases Nat.eq_zero_or_pos g0 with h | h
  ·subst h
   have:C*K<=0:=by have:((0:Nat):Rat)=0:=by decide +kernel
                   rw[this]at hg0;grind
   have:=Rat.mul_le_mul_of_nonneg_right this hxg
   grind
  ·have hpos:(0:Rat)<(g0:Rat):=by exact_mod_cast h
   refine Rat.le_of_mul_le_mul_right (c:=(g0:Rat)) ?_ hpos;have:=Rat.mul_le_mul_of_nonneg_left h3 hK
   grind
 grind
end Ord
namespace Ord
def Xf(f:Nat->Rat):Nat->Rat
 | 0=>0
 | k+1=>f k
def co(p:List Rat)(k:Nat):Rat:=p.getD k 0
def jN:List Rat->List Rat->List Rat
 | [],q=>q
 | a::p,[]=>a::p
 | a::p,b::q=>(a+b)::jN p q
def uG(c:Rat)(p:List Rat):List Rat:=p.map (c * ·)
def EU:List Rat->List Rat->List Rat
 | [],_=>[]
 | a::p,q=>jN (uG a q) (0::EU p q)
def rG:List Rat->List Rat
 | []=>[]
 | _::p=>jN p (0::rG p)
def dl(a:Rat)(k:Nat):Rat:=if k=0 then a else 0
def iL(t:Rat):List Rat->Nat->Rat
 | []=>fun _=>0
 | a::p=>fun k=>dl a k+t*iL t p k+Xf (iL t p) k
def shL(t:Rat):List Rat->List Rat
 | []=>[]
 | a::p=>jN [a] (jN (uG t (shL t p)) (0::shL t p))
def Rz(k:Nat):co [] k=0:=rfl
def Lb(a:Rat)(p:List Rat)(k:Nat):co (a::p) (k+1)=co p k:=rfl
theorem bi1(p:List Rat):∀k,co (0::p) k=Xf (co p) k
 | 0=>rfl
 | _+1=>rfl
theorem aT1(a:Rat):∀k,co [a] k=dl a k
 | 0=>rfl
 | _+1=>rfl
def Zo{p:List Rat}{k:Nat}(h:p.length<=k):co p k=0:=Kj h
theorem so:∀(p q:List Rat)(k:Nat),co (jN p q) k=co p k+co q k
 | [],q,k=>by rw[jN,Rz];grind
 | a::p,[],k=>by rw[jN,Rz];grind
 | a::p,b::q,0=>rfl
 | a::p,b::q,k+1=>by rw[jN,Lb,Lb,Lb,so p q k]
theorem Pd(c:Rat):∀(p:List Rat)(k:Nat),co (uG c p) k=c*co p k
 | [],k=>by show(0:Rat)=c*0;grind
 | a::p,0=>rfl
 | a::p,k+1=>Pd c p k
theorem ba0(f g:Nat->Rat):∀k,Xf (fun k=>f k+g k) k=Xf f k+Xf g k
 | 0=>by show(0:Rat)=0+0;grind
 | _+1=>rfl
theorem bG3(c:Rat)(f:Nat->Rat):∀k,Xf (fun k=>c*f k) k=c*Xf f k
 | 0=>by show(0:Rat)=c*0;grind
 | _+1=>rfl
theorem kd{f g:Nat->Rat}(h:∀k,f k=g k):∀k,Xf f k=Xf g k
 | 0=>rfl
 | k+1=>h k
theorem aq6:∀k,Xf (fun _=>0) k=0
 | 0=>rfl
 | _+1=>rfl
def ap4(k:Nat):dl 0 k=0:=by unfold dl;split<;>rfl
def bf1(a b:Rat)(k:Nat):dl (a+b) k=dl a k+dl b k:=by unfold dl;split<;>grind
def bD5(c a:Rat)(k:Nat):dl (c*a) k=c*dl a k:=by unfold dl;split<;>grind
def JX(t:Rat)(k:Nat):iL t [] k=0:=rfl
def gK(t a:Rat)(p:List Rat)(k:Nat):iL t (a::p) k=dl a k+t*iL t p k+Xf (iL t p) k:=rfl
theorem BZ(t:Rat):∀(p q:List Rat)(k:Nat),iL t (jN p q) k=iL t p k+iL t q k
 | [],q,k=>by rw[jN,JX];grind
 | a::p,[],k=>by rw[jN,JX];grind
 | a::p,b::q,k=>by
   have ih:=BZ t p q;rw[jN,gK,gK,gK,ih k,kd ih,ba0,bf1];grind
theorem Zp(t c:Rat):∀(p:List Rat)(k:Nat),iL t (uG c p) k=c*iL t p k
 | [],k=>by show(0:Rat)=c*0;grind
 | a::p,k=>by
   have ih:=Zp t c p;show iL t (c*a::uG c p) k=_;rw[gK,gK,ih k,kd ih,bG3,bD5];grind
def aM5(t:Rat)(p:List Rat)(k:Nat):iL t (0::p) k=t*iL t p k+Xf (iL t p) k:=by
 rw[gK,ap4];grind
theorem PW(t:Rat):∀(p:List Rat)(k:Nat),co (shL t p) k=iL t p k
 | [],_=>rfl
 | a::p,k=>by
   have ih:=PW t p;rw[shL,so,so,Pd,bi1,aT1,kd ih,ih k,gK];grind
def pS(f g:Nat->Rat)(k:Nat):Rat:=sm (fun j=>f j*g (k-j)) (k+1)
theorem CV(f g:Nat->Rat):∀k,pS f g k=f 0*g k+Xf (pS (fun j=>f (j+1)) g) k
 | 0=>by show 0+f 0*g 0=f 0*g 0+0;grind
 | k+1=>by
   unfold pS;rw[gy];show _=f 0*g (k+1)+sm (fun j=>f (j+1)*g (k-j)) (k+1)
   congr 1
   exact aw fun i _=>by rw[show k+1-(i+1)=k-i by omega]
def Jf{f f' g g':Nat->Rat}(h:∀k,f k=f' k)(h':∀k,g k=g' k)(k:Nat):pS f g k=pS f' g' k:=
 aw fun i _=>by rw[h,h']
def SG(f f' g:Nat->Rat)(k:Nat):pS (fun j=>f j+f' j) g k=pS f g k+pS f' g k:=by
 unfold pS;rw[<-sf];exact aw fun i _=>by grind
def aP9(c:Rat)(f g:Nat->Rat)(k:Nat):pS (fun j=>c*f j) g k=c*pS f g k:=by
 unfold pS;rw[<-de];exact aw fun i _=>by grind
def Gg(g:Nat->Rat)(k:Nat):pS (fun _=>0) g k=0:=kW fun i _=>by grind
def bA3(f g:Nat->Rat)(k:Nat):pS (Xf f) g k=Xf (pS f g) k:=by
 rw[CV];show 0*g k+Xf (pS f g) k=_
 grind
def bj1(a:Rat)(g:Nat->Rat)(k:Nat):pS (dl a) g k=a*g k:=by
 rw[CV]
 have:Xf (pS (fun j=>dl a (j+1)) g) k=0:=by
  rw[kd (g:=fun _=>0) (fun k=>by
   show pS (fun j=>dl a (j+1)) g k=0;exact Gg g k),aq6]
 rw[this,show dl a 0=a from rfl];grind
def as3(t a:Rat)(p:List Rat)(g:Nat->Rat)(k:Nat):pS (iL t (a::p)) g k=a*g k+t*pS (iL t p) g k+Xf (pS (iL t p) g) k:=by
 have e:pS (iL t (a::p)) g k=pS (fun j=>(fun i=>dl a i+(fun i=>t*iL t p i) i) j+Xf (iL t p) j) g k:=rfl;rw[e,SG,SG,bj1,aP9,bA3]
theorem Ue(t:Rat)(q:List Rat):∀(p:List Rat)(k:Nat),iL t (EU p q) k=pS (iL t p) (iL t q) k
 | [],k=>by rw[EU,JX];exact(Gg _ _).symm
 | a::p,k=>by
   have ih:=Ue t q p;rw[EU,BZ,Zp,aM5,as3,ih k,kd ih];grind
theorem ab2(q:List Rat):∀(p:List Rat)(k:Nat),co (EU p q) k=pS (co p) (co q) k
 | [],k=>by rw[EU,Rz];exact(Gg _ _).symm
 | a::p,k=>by
   have ih:=ab2 q p;rw[EU,so,Pd,bi1,kd ih,CV];rfl
def dF(f:Nat->Rat)(k:Nat):Rat:=((k:Rat)+1)*f (k+1)
def qw(k:Nat):((k+1:Nat):Rat)=(k:Rat)+1:=by exact_mod_cast rfl
theorem Ux(a:Rat)(f r:Nat->Rat)(t:Rat)(hf:∀k,f k=dl a k+t*r k+Xf r k):∀k,dF f k=t*dF r k+(r k+Xf (dF r) k)
 | 0=>by
   unfold dF;rw[hf];show _*(0+t*r 1+r 0)=t*_+(r 0+0);have:((0:Nat):Rat)=0:=by decide +kernel
   rw[this];grind
 | k+1=>by
   unfold dF;rw[hf];show _*(0+t*r (k+2)+r (k+1))=t*_+(r (k+1)+((k:Rat)+1)*r (k+1));rw[qw];grind
theorem TM(t:Rat):∀(p:List Rat)(k:Nat),iL t (rG p) k=dF (iL t p) k
 | [],k=>by show(0:Rat)=_*0;grind
 | a::p,k=>by
   have ih:=TM t p;rw[rG,BZ,aM5,Ux a (iL t (a::p)) (iL t p) t (fun k=>gK t a p k),ih k,kd ih];grind
theorem ad6:∀(p:List Rat)(k:Nat),co (rG p) k=dF (co p) k
 | [],k=>by show(0:Rat)=_*0;grind
 | a::p,k=>by
   have ih:=ad6 p
   rw[rG,so,bi1,Ux a (co (a::p)) (co p) 0 (fun k=>by
    cases k with
    | zero=>show a=a+0*co p 0+0;grind
    | succ k=>show co p k=0+0*co p (k+1)+co p k;grind),kd ih];grind
def jz(p:List Rat):Nat->List Rat
 | 0=>p
 | i+1=>rG (jz p i)
def cj(i:Nat)(f:Nat->Rat)(k:Nat):Rat:=f (k+i)*((aq ((k+i:Nat):Int) i:Int):Rat)
def Mj(f:Nat->Rat)(k:Nat):cj 0 f k=f k:=by
 unfold cj;show f k*((1:Int):Rat)=_;have:((1:Int):Rat)=1:=by decide +kernel
 rw[this];grind
def NO(i:Nat)(f:Nat->Rat)(k:Nat):dF (cj i f) k=cj (i+1) f k:=by
 unfold dF cj;rw[show k+1+i=k+(i+1) by omega,aq,yT];have:(((k+(i+1):Nat):Int)-(i:Int))=(k:Int)+1:=O
 rw[this,show(((k:Int)+1:Int):Rat)=(k:Rat)+1 by exact_mod_cast rfl];grind
def NF{f g:Nat->Rat}(h:∀k,f k=g k)(k:Nat):dF f k=dF g k:=by unfold dF;rw[h]
def Vy{f g:Nat->Rat}(h:∀k,f k=g k)(i k:Nat):cj i f k=cj i g k:=by unfold cj;rw[h]
theorem mF(t:Rat)(p:List Rat):∀(i k:Nat),iL t (jz p i) k=cj i (iL t p) k
 | 0,k=>(Mj _ k).symm
 | i+1,k=>by rw[jz,TM,NF (mF t p i),NO]
theorem gu(p:List Rat):∀(i k:Nat),co (jz p i) k=cj i (co p) k
 | 0,k=>(Mj _ k).symm
 | i+1,k=>by rw[jz,ad6,NF (gu p i),NO]
def fQ(f:Nat->Rat)(N:Nat)(s:Rat):Rat:=sm (fun k=>f k*s^k) N
theorem TT(t s:Rat):∀(p:List Rat)(N:Nat),p.length<=N->fQ (iL t p) N s=fQ (co p) p.length (t+s)
 | [],N,_=>kW fun i _=>by show(0:Rat)*_=0;grind
 | a::p,N+1,h=>by
   have hl:p.length<=N:=by simp at h;omega
   have h1:=TT t s p N hl;have h2:=TT t s p (N+1) O
   have e:fQ (iL t (a::p)) (N+1) s=fQ (dl a) (N+1) s+t*fQ (iL t p) (N+1) s+fQ (Xf (iL t p)) (N+1) s:=by
    unfold fQ;rw[<-de,<-sf,<-sf];exact aw fun i _=>by rw[gK];grind
   have e1:fQ (dl a) (N+1) s=a:=by
    unfold fQ;rw[gy,kW fun i _=>by show(0:Rat)*_=0;grind];show a*s^0+0=a;rw[Rat.pow_zero];grind
   have e2:fQ (Xf (iL t p)) (N+1) s=s*fQ (iL t p) N s:=by
    unfold fQ;rw[gy,<-de];show 0*s^0+_=_;rw[show ∀x:Rat,0*s^0+x=x from fun x=>by grind];exact aw fun i _=>by show iL t p i*s^(i+1)=_;rw[Rat.pow_succ];grind
   have e3:fQ (co (a::p)) (a::p).length (t+s)=a+(t+s)*fQ (co p) p.length (t+s):=by
    unfold fQ;rw[List.length_cons,gy,<-de];show a*(t+s)^0+_=_;rw[Rat.pow_zero]
    congr 1
    ·grind
    ·exact aw fun i _=>by show co p i*(t+s)^(i+1)=_;rw[Rat.pow_succ];grind
   rw[e,e1,e2,e3,h1,h2];grind
def kO(q:List (List Rat))(m:Nat)(x:Nat->Rat)(s:Nat):Rat:=sm (fun i=>pS (co (q.getD i [])) (cj i x) s) (m+1)
def Ob(q:List (List Rat))(P:List Rat):Nat->List Rat
 | 0=>[]
 | i+1=>jN (Ob q P i) (EU (q.getD i []) (jz P i))
theorem YF(q:List (List Rat))(P:List Rat)(s:Nat):∀i,co (Ob q P i) s=sm (fun i=>pS (co (q.getD i [])) (cj i (co P)) s) i
 | 0=>rfl
 | i+1=>by rw[Ob,so,YF q P s i,ab2,sm,Jf (fun _=>rfl) (gu P i)]
theorem TB(t:Rat){q q':List (List Rat)}(h:∀i k,co (q'.getD i []) k=iL t (q.getD i []) k)(P:List Rat)(s:Nat):∀i,iL t (Ob q P i) s=sm (fun i=>pS (co (q'.getD i [])) (cj i (iL t P)) s) i
 | 0=>rfl
 | i+1=>by rw[Ob,BZ,TB t h P s i,Ue,sm,Jf (fun k=>(h i k).symm) (mF t P i)]
def aK2(q:List (List Rat))(m:Nat)(P:List Rat)(s:Nat):co (Ob q P (m+1)) s=kO q m (co P) s:=YF q P s (m+1)
def bf9(t:Rat){q q':List (List Rat)}(h:∀i k,co (q'.getD i []) k=iL t (q.getD i []) k)(m:Nat)(P:List Rat)(s:Nat):iL t (Ob q P (m+1)) s=kO q' m (iL t P) s:=TB t h P s (m+1)
def aq5(q:List (List Rat))(m:Nat)(x y:Nat->Rat)(s:Nat):kO q m (fun k=>x k-y k) s=kO q m x s-kO q m y s:=by
 unfold kO pS
 have:∀(f g:Nat->Rat)n,sm (fun i=>f i-g i) n=sm f n-sm g n:=by
  intro f g n
  induction n with
  | zero=>simp only[sm];grind
  | succ n ih=>simp only[sm,ih];grind
 rw[<-this];refine aw fun i _=>?_;rw[<-this];refine aw fun j _=>?_;unfold cj;grind
def YJ(q:List (List Rat))(m:Nat)(c:Rat)(x:Nat->Rat)(s:Nat):kO q m (fun k=>c*x k) s=c*kO q m x s:=by
 unfold kO;rw[<-de];refine aw fun i _=>?_;unfold pS;rw[<-de];refine aw fun j _=>?_;unfold cj;grind
def aI8(q:List (List Rat))(m:Nat)(x y:Nat->Rat)(s:Nat):kO q m (fun k=>x k+y k) s=kO q m x s+kO q m y s:=by
 unfold kO;rw[<-sf];refine aw fun i _=>?_;unfold pS;rw[<-sf];refine aw fun j _=>?_;unfold cj;grind
theorem PJ(q:List (List Rat))(m:Nat)(c:Nat->Rat)(x:Nat->Nat->Rat)(s:Nat):∀n,kO q m (fun k=>sm (fun u=>c u*x u k) n) s=sm (fun u=>c u*kO q m (x u) s) n
 | 0=>by
   show kO q m (fun k=>0) s=0;have:=YJ q m 0 (fun _=>0) s;rw[show(fun k:Nat=>(0:Rat)*(fun _=>0) k)=fun k=>0 by funext;grind]at this;rw[this];grind
 | n+1=>by
   show kO q m (fun k=>sm (fun u=>c u*x u k) n+c n*x n k) s=_;rw[aI8 q m (fun k=>sm (fun u=>c u*x u k) n) (fun k=>c n*x n k),PJ q m c x s n,YJ];rfl
def nW(th:Rat):List Rat->Rat
 | []=>0
 | a::p=>a.abs+th*nW th p
def dq(x:Rat):0<=x.abs:=by unfold Rat.abs;split<;>grind
theorem aL8{th:Rat}(h:0<=th):∀p,0<=nW th p
 | []=>Rat.le_refl
 | a::p=>by
   have:=Rat.mul_nonneg h (aL8 h p);have:=dq a;rw[nW];grind
theorem JB{T t τ:Rat}(ht:Bo T t)(h0:0<=τ):∀(p:List Rat)(k:Nat),Bo (nW (T+τ) p) (iL t p k*τ^k)
 | [],k=>by
   rw[show iL t [] k*τ^k=0 by show(0:Rat)*_=0;grind];exact Bo.zero Rat.le_refl
 | a::p,0=>by
   have ih:=JB ht h0 p 0;have h1:=ht.mul ih;have hn:=aL8 (th:=T+τ) (by have:=ht.nn;grind) p;have h2:=Rat.mul_nonneg h0 hn
   have e:iL t (a::p) 0*τ^0=a+t*(iL t p 0*τ^0):=by
    rw[gK];show(a+t*iL t p 0+0)*_=_;rw[Rat.pow_zero];grind
   rw[e,nW];exact((Bo.abs a).add h1).mono (by grind)
 | a::p,k+1=>by
   have ih1:=JB ht h0 p (k+1);have ih0:=JB ht h0 p k;have h1:=(ht.mul ih1).add ((Bo.self h0).mul ih0)
   have e:iL t (a::p) (k+1)*τ^(k+1)=t*(iL t p (k+1)*τ^(k+1))+τ*(iL t p k*τ^k):=by
    rw[gK];show(0+t*iL t p (k+1)+iL t p k)*_=_;rw[Rat.pow_succ];grind
   have:=dq a;rw[e,nW];exact h1.mono (by grind)
theorem aP2(th:Rat):∀(p:List Rat),nW th p=sm (fun k=>(co p k).abs*th^k) p.length
 | []=>rfl
 | a::p=>by
   rw[nW,aP2 th p,List.length_cons,gy,<-de];show a.abs+_=a.abs*th^0+_;rw[Rat.pow_zero]
   congr 1
   ·grind
   ·exact aw fun i _=>by show _=(co p i).abs*th^(i+1);rw[Rat.pow_succ];grind
def bB0{th β:Rat}(p:List Rat){M:Nat}(h0:∀k,M<=k->co p k=0)(hb:∀k,k<M->(co p k).abs*th^k<=β)(hβ:0<=β):nW th p<=(M:Rat)*β:=by
 rw[aP2];have habs0:∀k,M<=k->(co p k).abs*th^k=0:=fun k hk=>by rw[h0 k hk,show(0:Rat).abs=0 by decide +kernel];grind
 rcases Nat.le_total M p.length with h | h
 ·rw[qZ h fun i h1 _=>habs0 i h1,<-sx];exact wW hb
 ·have h1:=wW (f:=fun k=>(co p k).abs*th^k) (g:=fun _=>β) (n:=p.length) fun i hi=>hb i O;have h2:=BU (f:=fun _=>β) h fun _=>hβ;rw[sx β M]at h2
  grind
end Ord
namespace Ord
def fr(n i:Nat):Rat:=((aq (n:Int) i:Int):Rat)
theorem Nu(z:Int):∀i:Nat,aq (z+1) (i+1)=aq z i*(z+1)
 | 0=>by simp[aq]
 | i+1=>by
   rw[aq,Nu z i,aq];have:z+1-((i+1:Nat):Int)=z-i:=O
   rw[this,Int.mul_assoc,Int.mul_assoc,Int.mul_comm (z+1)]
def xT(n:Nat):fr n 0=1:=by
 show((1:Int):Rat)=1;decide +kernel
def OK(n i:Nat):fr (n+1) (i+1)=fr n i*((n:Rat)+1):=by
 unfold fr;rw[show((n+1:Nat):Int)=(n:Int)+1 by omega,Nu,yT,Rat.intCast_add];rfl
theorem BF:∀i:Nat,fr 0 (i+1)=0
 | 0=>by decide +kernel
 | i+1=>by
   have:=BF i;unfold fr at this|-;rw[aq,yT,this];grind
theorem uK:∀n i:Nat,0<=fr n i
 | n,0=>by rw[xT];decide +kernel
 | 0,i+1=>by rw[BF];exact Rat.le_refl
 | n+1,i+1=>by
   rw[OK];exact Rat.mul_nonneg (uK n i) (by have:(0:Rat)<=(n:Rat):=Rat.natCast_nonneg;grind)
def oD{a b:Nat}(h:a<=b):(a:Rat)<=(b:Rat):=by exact_mod_cast h
def iM(a:Nat):(0:Rat)<=(a:Rat):=Rat.natCast_nonneg
theorem yg:∀n i:Nat,fr n i<=(n:Rat)^i
 | n,0=>by rw[xT,Rat.pow_zero];exact Rat.le_refl
 | 0,i+1=>by rw[BF];exact bj (iM 0) _
 | n+1,i+1=>by
   rw[OK,qw,Rat.pow_succ];have h1:=yg n i;have h0:=iM n;have h2:=ml h0 (show(n:Rat)<=(n:Rat)+1 by grind) i;exact Rat.mul_le_mul_of_nonneg_right (by grind) (by grind)
theorem TA:∀{a b:Nat}(i:Nat),a<=b->fr a i<=fr b i
 | _,_,0,_=>by rw[xT,xT];exact Rat.le_refl
 | 0,b,i+1,_=>by rw[BF];exact uK _ _
 | a+1,b+1,i+1,h=>by
   rw[OK,OK];have h1:=TA (a:=a) (b:=b) i O;have h2:=oD (show a<=b by omega);have h3:=iM a;exact ey h1 (by grind) (uK _ _) (by grind)
theorem Jr(s i:Nat):∀k,fr (s+i) i*((s:Rat)+1)^k<=fr (s+i+k) (i+k)
 | 0=>by rw[Rat.pow_zero];have:fr (s+i) i*1=fr (s+i) i:=by grind
         rw[this];exact Rat.le_refl
 | k+1=>by
   have ih:=Jr s i k;have h0:=iM s;rw[Rat.pow_succ,show s+i+(k+1)=s+i+k+1 by omega,show i+(k+1)=i+k+1 by omega,OK];have h1:(s:Rat)+1<=((s+i+k:Nat):Rat)+1:=by have:=oD (show s<=s+i+k by omega);grind
   have h2:=ey ih h1 (Rat.mul_nonneg (uK _ _) (bj (by grind) k)) (by grind)
   grind
def YW(s m:Nat):1<=fr (s+m) m:=by
 have h:=Jr s 0 m;rw[xT,Nat.add_zero,Nat.zero_add]at h;have:=one_le_pow (x:=(s:Rat)+1) (by have:=iM s;grind) m
 grind
def mI(p:List Rat)(m i:Nat)(aB N:Rat)(k:Nat):Rat:=if i<m\/0<k then(p.getD k 0).abs*aB^(m+k-i)/N^(m-i)else 0
theorem Iz(p:List Rat)(m i:Nat)(aB N x:Rat):∀K,gR p m i aB N x K=x+sm (mI p m i aB N) K
 | 0=>by show x=x+0;grind
 | K+1=>by
   rw[gR,sm,Iz p m i aB N x K,show mI p m i aB N K=if i<m\/0<K then(p.getD K 0).abs*aB^(m+K-i)/N^(m-i)else 0 from rfl];split<;>grind
theorem gB(q:List (List Rat))(m:Nat)(aB N:Rat):∀j,bC q m aB N j=sm (fun i=>sm (mI (q.getD i []) m i aB N) (q.getD i []).length) j
 | 0=>rfl
 | j+1=>by rw[bC,Iz,gB q m aB N j,sm]
def Co{x p:Rat}(hx:0<=x)(hp:0<p):0<=x/p:=by
 have hp0:p≠0:=by grind
 refine Rat.le_of_mul_le_mul_right (c:=p) ?_ hp;rw[Rat.div_mul_cancel hp0];grind
def Cg{a b P Q:Rat}(hP:0<P)(hQ:0<Q)(h:a*Q<=b*P):a/P<=b/Q:=by
 have h1:a/P*P=a:=Rat.div_mul_cancel (by grind);have h2:b/Q*Q=b:=Rat.div_mul_cancel (by grind);refine Rat.le_of_mul_le_mul_left (c:=P*Q) ?_ (Rat.mul_pos hP hQ);have e1:P*Q*(a/P)=a*Q:=by rw[show P*Q*(a/P)=a/P*P*Q by grind,h1]
 have e2:P*Q*(b/Q)=b*P:=by rw[show P*Q*(b/Q)=b/Q*Q*P by grind,h2]
 rw[e1,e2];exact h
def aP0{p:List Rat}{m i:Nat}{aB N:Rat}(h0:0<=aB)(hN:0<N)(k:Nat):0<=mI p m i aB N k:=by
 unfold mI;split
 ·exact Co (Rat.mul_nonneg (dq _) (bj h0 _)) (Rat.pow_pos hN)
 ·exact Rat.le_refl
def bK5{p:List Rat}{m i:Nat}{aB N:Rat}{k:Nat}(h:p.length<=k):mI p m i aB N k=0:=by
 unfold mI;split
 ·rw[Kj h,show(0:Rat).abs=0 by decide +kernel];grind
 ·rfl
def aR0{p:List Rat}{m i:Nat}{aB N:Rat}(h0:0<=aB)(hN:0<N)(K:Nat):sm (mI p m i aB N) K<=sm (mI p m i aB N) p.length:=by
 rcases Nat.le_total K p.length with h | h
 ·exact BU h fun k=>aP0 h0 hN k
 ·rw[qZ h fun k hk _=>bK5 hk];exact Rat.le_refl
def yL{q:List (List Rat)}{m:Nat}{aB N N':Rat}(h0:0<=aB)(hN:0<N)(h:N<=N')(j:Nat):bC q m aB N' j<=bC q m aB N j:=by
 rw[gB,gB];refine wW fun i _=>wW fun k _=>?_;unfold mI;split
 ·refine Cg (Rat.pow_pos (by grind)) (Rat.pow_pos hN) ?_;exact Rat.mul_le_mul_of_nonneg_left (ml (by grind) h _) (Rat.mul_nonneg (dq _) (bj h0 _))
 ·exact Rat.le_refl
def UQ{q:List (List Rat)}{m:Nat}{aB rho' N:Rat}(h0:0<=aB)(hN:0<N)(h:aB<=rho')(j:Nat):bC q m aB N j<=bC q m rho' N j:=by
 rw[gB,gB];refine wW fun i _=>wW fun k _=>?_;unfold mI;split
 ·refine Cg (Rat.pow_pos hN) (Rat.pow_pos hN) ?_;exact Rat.mul_le_mul_of_nonneg_right (Rat.mul_le_mul_of_nonneg_left (ml h0 h _) (dq _)) (bj (by grind) _)
 ·exact Rat.le_refl
def Sm{q:List (List Rat)}{m:Nat}{aB N:Rat}(h0:0<=aB)(hN:0<N)(j:Nat):0<=bC q m aB N j:=by
 rw[gB];exact HX fun i _=>HX fun k _=>aP0 h0 hN k
def Bo.cancel{c A y:Rat}(hc:0<c)(h:Bo (c*A) (c*y)):Bo A y:=by
 obtain⟨h1,h2⟩:=h
 constructor
 ·exact Rat.le_of_mul_le_mul_left (c:=c) (by grind) hc
 ·exact Rat.le_of_mul_le_mul_left (c:=c) (by grind) hc
def Bo.aw9{l A B y:Rat}(hl:l≠0)(h:Bo A (l*y))(hA:A<=l.abs*B):Bo B y:=by
 have h1:=h.mono hA;unfold Rat.abs at h1;split at h1
 ·exact Bo.cancel (by grind) h1
 ·have h2:Bo ((-l)*B) ((-l)*y):=by have:=h1.neg;rwa[show -(l*y)=(-l)*y by grind]at this
  exact Bo.cancel (by grind) h2
def aJ9{τ Z:Rat}(hτ:0<=τ){i k s m:Nat}(hi:i<=m)(hk:k<=s)(c y:Rat)(hZ:Bo Z (y*τ^(s-k+i))) :
  Bo (fr (s+m) m*(c.abs*τ^(m+k-i)/((s:Rat)+1)^(m-i))*Z) (c*(y*fr (s-k+i) i)*τ^(s+m)):=by
 have hs:=iM s;have hP:(0:Rat)<((s:Rat)+1)^(m-i):=Rat.pow_pos (by grind);have e:τ^(s+m)=τ^(s-k+i)*τ^(m+k-i):=by rw[<-gL];congr 1;omega
 have h:=(((Bo.abs c).mul hZ).mul (Bo.self (uK (s-k+i) i))).mul (Bo.self (bj hτ (m+k-i)))
 have hf:fr (s-k+i) i*((s:Rat)+1)^(m-i)<=fr (s+m) m:=by
  have h1:=Jr s i (m-i);rw[show s+i+(m-i)=s+m by omega,show i+(m-i)=m by omega]at h1;have h2:=Rat.mul_le_mul_of_nonneg_right (TA i (show s-k+i<=s+i by omega)) (show 0<=((s:Rat)+1)^(m-i) by grind)
  grind
 have hr:c.abs*τ^(m+k-i)/((s:Rat)+1)^(m-i)*((s:Rat)+1)^(m-i)=c.abs*τ^(m+k-i):=Rat.div_mul_cancel (by grind);have hr0:=Co (Rat.mul_nonneg (dq c) (bj hτ (m+k-i))) hP;rw[e];have e2:c*(y*fr (s-k+i) i)*(τ^(s-k+i)*τ^(m+k-i))=c*(y*τ^(s-k+i))*fr (s-k+i) i*τ^(m+k-i):=by grind
 rw[e2];refine h.mono ?_;have hZ0:=hZ.nn;generalize c.abs*τ^(m+k-i)/((s:Rat)+1)^(m-i)=r at *;generalize ((s:Rat)+1)^(m-i)=P at *;generalize fr (s-k+i) i=f at *;generalize fr (s+m) m=F at *;generalize τ^(m+k-i)=u at *;have h1:=Rat.mul_le_mul_of_nonneg_right hf (Rat.mul_nonneg hr0 hZ0)
 have e3:c.abs*Z*f*u=f*P*(r*Z):=by
  have:c.abs*Z*f*u=f*Z*(c.abs*u):=by grind
  rw[this,<-hr];grind
 rw[e3];grind
def oT(q:List (List Rat))(m:Nat)(x:Nat->Rat)(s i k:Nat):Rat:=if i<m\/0<k then co (q.getD i []) k*cj i x (s-k)else 0
def aS0(q:List (List Rat))(m:Nat)(x:Nat->Rat)(s:Nat):kO q m x s=sm (fun i=>sm (oT q m x s i) (s+1)) (m+1)+co (q.getD m []) 0*cj m x s:=by
 unfold kO;rw[sm,sm]
 have e1:sm (fun i=>pS (co (q.getD i [])) (cj i x) s) m=sm (fun i=>sm (oT q m x s i) (s+1)) m:=aw fun i hi=>aw fun k _=>by
  unfold oT;rw[if_pos (.inl hi)]
 have e2:pS (co (q.getD m [])) (cj m x) s=sm (oT q m x s m) (s+1)+co (q.getD m []) 0*cj m x s:=by
  unfold pS;rw[gy,gy]
  have e3:sm (fun i=>oT q m x s m (i+1)) s=sm (fun i=>co (q.getD m []) (i+1)*cj m x (s-(i+1))) s:=aw fun k _=>by
   unfold oT;rw[if_pos (.inr O)]
  rw[e3,show oT q m x s m 0=0 by unfold oT;rw[if_neg O],Nat.sub_zero];grind
 rw[e1,e2];grind
def maj{q:List (List Rat)}{m D s:Nat}{τ Z W:Rat}{x:Nat->Rat}(hτ:0<=τ)(hZ0:0<=Z)(hW:Bo W (kO q m x s*τ^(s+m)))(hD:∀i k,D<k->co (q.getD i []) k=0)
  (hZ:∀j,1<=j->j<=m+D->j<=s+m->Bo Z (x (s+m-j)*τ^(s+m-j))) :
  Bo (bC q m τ ((s:Rat)+1) (m+1)*Z+W) (co (q.getD m []) 0*(x (s+m)*τ^(s+m))):=by
 have hs:=iM s;have hN:(0:Rat)<(s:Rat)+1:=by grind
 have hF:=YW s m
 have hrow:∀i,i<m+1->Bo (fr (s+m) m*sm (mI (q.getD i []) m i τ ((s:Rat)+1)) (q.getD i []).length*Z) (sm (oT q m x s i) (s+1)*τ^(s+m)):=by
  intro i hi
  have h1:Bo (sm (fun k=>fr (s+m) m*mI (q.getD i []) m i τ ((s:Rat)+1) k*Z) (s+1)) (sm (fun k=>τ^(s+m)*oT q m x s i k) (s+1)):=Bo.sm fun k hk=>by
   unfold oT mI;split
   ·rename_i hc;by_cases h0:co (q.getD i []) k=0
    ·rw[h0];rw[show τ^(s+m)*(0*cj i x (s-k))=0 by grind];have:(List.getD (q.getD i []) k 0)=0:=h0;rw[this];refine Bo.zero ?_;rw[show(0:Rat).abs=0 by decide +kernel,show(0:Rat)*τ^(m+k-i)/((s:Rat)+1)^(m-i)=0 by rw[Rat.zero_mul];grind];grind
    ·have hkD:k<=D:=Nat.le_of_not_lt fun h=>h0 (hD i k h);have hz:=hZ (m+k-i) O O O;rw[show s+m-(m+k-i)=s-k+i by omega]at hz;have h2:=aJ9 hτ (show i<=m by omega) (show k<=s by omega) (co (q.getD i []) k) (x (s-k+i)) hz
     have e:τ^(s+m)*(co (q.getD i []) k*cj i x (s-k))=co (q.getD i []) k*(x (s-k+i)*fr (s-k+i) i)*τ^(s+m):=by
      unfold cj fr;grind
     rw[e];exact h2
   ·rw[show τ^(s+m)*0=0 by grind];exact Bo.zero (by grind)
  rw[de]at h1
  have e:sm (fun k=>fr (s+m) m*mI (q.getD i []) m i τ ((s:Rat)+1) k*Z) (s+1)=fr (s+m) m*Z*sm (mI (q.getD i []) m i τ ((s:Rat)+1)) (s+1):=by
   rw[<-de];exact aw fun k _=>by grind
  rw[e]at h1;have h2:=aR0 (p:=q.getD i []) (m:=m) (i:=i) hτ hN (s+1);have h3:=Rat.mul_le_mul_of_nonneg_left h2 (show 0<=fr (s+m) m*Z from Rat.mul_nonneg (uK _ _) hZ0);rw[show sm (oT q m x s i) (s+1)*τ^(s+m)=τ^(s+m)*sm (oT q m x s i) (s+1) by grind];exact h1.mono (by grind)
 have hall:=Bo.sm hrow
 have e1:sm (fun i=>fr (s+m) m*sm (mI (q.getD i []) m i τ ((s:Rat)+1)) (q.getD i []).length*Z) (m+1)=fr (s+m) m*(bC q m τ ((s:Rat)+1) (m+1)*Z):=by
  rw[gB];have:sm (fun i=>fr (s+m) m*sm (mI (q.getD i []) m i τ ((s:Rat)+1)) (q.getD i []).length*Z) (m+1)=sm (fun i=>fr (s+m) m*Z*sm (mI (q.getD i []) m i τ ((s:Rat)+1)) (q.getD i []).length) (m+1):=aw fun i _=>by grind
  rw[this,de];grind
 have e2:sm (fun i=>sm (oT q m x s i) (s+1)*τ^(s+m)) (m+1)=sm (fun i=>sm (oT q m x s i) (s+1)) (m+1)*τ^(s+m):=by
  have:sm (fun i=>sm (oT q m x s i) (s+1)*τ^(s+m)) (m+1)=sm (fun i=>τ^(s+m)*sm (oT q m x s i) (s+1)) (m+1):=aw fun i _=>by grind
  rw[this,de];grind
 rw[e1,e2]at hall;have hL:=aS0 q m x s;have h:=hW.sub hall
 have e3:kO q m x s*τ^(s+m)-sm (fun i=>sm (oT q m x s i) (s+1)) (m+1)*τ^(s+m)=fr (s+m) m*(co (q.getD m []) 0*(x (s+m)*τ^(s+m))):=by
  rw[hL];unfold cj fr;grind
 rw[e3]at h;refine Bo.cancel (c:=fr (s+m) m) (by grind) (h.mono ?_);have hW0:=hW.nn;have:=Rat.mul_le_mul_of_nonneg_right hF hW0
 grind
end Ord
namespace Ord
structure sy(q:List (List Rat))(m D:Nat)(lead aB:Rat)(st:Nat):Prop where
 hl:co (q.getD m []) 0=lead
 l0:lead≠0
 r0:0<aB
 hD:∀i k,D<k->co (q.getD i []) k=0
 hs:m+D+m<=st
 start:bC q m aB (((st-m:Nat):Rat)+1) (m+1)<=lead.abs
 rad:gJ ((q.getD m []).drop 1) aB ((q.getD m []).length-1)+gJ ((q.getD m []).drop 1) aB ((q.getD m []).length-1)<=lead.abs
def Ce{x:Rat}(h:x≠0):0<x.abs:=by unfold Rat.abs;split<;>grind
section
variable{q:List (List Rat)}{m D st:Nat}{lead aB:Rat}
def sy.step(R:sy q m D lead aB st){x:Nat->Rat}{s:Nat}{τ Z W th:Rat}(hτ:0<=τ)(hth:bC q m τ ((s:Rat)+1) (m+1)<=lead.abs*th)(hZ0:0<=Z)(hW:Bo (lead.abs*W) (kO q m x s*τ^(s+m)))
  (hZ:∀j,1<=j->j<=m+D->j<=s+m->Bo Z (x (s+m-j)*τ^(s+m-j))):Bo (th*Z+W) (x (s+m)*τ^(s+m)):=by
 have h:=maj hτ hZ0 hW R.hD hZ;rw[R.hl]at h;refine Bo.aw9 R.l0 h ?_;have:=Rat.mul_le_mul_of_nonneg_right hth hZ0
 grind
def sy.bounded(R:sy q m D lead aB st){x:Nat->Rat}(hx:∀s,kO q m x s=0){b:Rat}(hb0:0<=b)(hb:∀n,st-(m+D)<=n->n<st->Bo b (x n*aB^n)):∀n,st-(m+D)<=n->Bo b (x n*aB^n):=by
 intro n
 induction n using Nat.strongRecOn with
 | _ n ih=>
   intro hn;rcases Nat.lt_or_ge n st with h | h
   ·exact hb n hn h
   ·have hs:=R.hs;obtain⟨s,rfl⟩:∃s,n=s+m:=⟨n-m,O⟩
    have hth:bC q m aB ((s:Rat)+1) (m+1)<=lead.abs*1:=by
     have h1:=yL (q:=q) (m:=m) (aB:=aB) (N:=((st-m:Nat):Rat)+1) (N':=(s:Rat)+1) (by have:=R.r0;grind) (by have:=iM (st-m);grind) (by have:=oD (show st-m<=s by omega);grind) (m+1);have h2:=R.start
     grind
    have h3:=R.step (x:=x) (s:=s) (τ:=aB) (Z:=b) (W:=0) (th:=1) (by have:=R.r0;grind) hth hb0 (by rw[hx s,Rat.zero_mul];exact Bo.zero (by grind)) fun j h1 h2 h3=>ih _ O O;exact h3.mono (by grind)
def VQ{q:List (List Rat)}{m:Nat}{aB N:Rat}(h0:0<=aB)(hN:1<=N):bC q m aB N (m+1)<=bC q m aB 1 m/N+gJ ((q.getD m []).drop 1) aB ((q.getD m []).length-1):=by
 have hNp:0<N:=by grind
 rw[gB,gB,sm]
 have e1:sm (fun i=>sm (mI (q.getD i []) m i aB N) (q.getD i []).length) m<=sm (fun i=>sm (mI (q.getD i []) m i aB 1) (q.getD i []).length) m/N:=by
  have:sm (fun i=>sm (mI (q.getD i []) m i aB 1) (q.getD i []).length) m/N=sm (fun i=>sm (fun k=>N⁻¹*mI (q.getD i []) m i aB 1 k) (q.getD i []).length) m:=by
   rw[Rat.div_def,Rat.mul_comm,<-de];exact aw fun i _=>(de _ _ _).symm
  rw[this];refine wW fun i hi=>wW fun k _=>?_;unfold mI;rw[if_pos (.inl hi),if_pos (.inl hi)]
  have h1:(1:Rat)^(m-i)=1:=by
   have:∀n:Nat,(1:Rat)^n=1:=fun n=>by
    induction n with
    | zero=>rw[Rat.pow_zero]
    | succ n ih=>rw[Rat.pow_succ,ih];grind
   exact this _
  have hA:=Rat.mul_nonneg (dq (List.getD (q.getD i []) k 0)) (bj h0 (m+k-i));generalize (List.getD (q.getD i []) k 0).abs*aB^(m+k-i)=A at *;rw[h1,show N⁻¹*(A/1)=A/N by rw[Rat.div_def,Rat.div_def,show((1:Rat))⁻¹=1 by decide +kernel];grind];refine Cg (Rat.pow_pos hNp) hNp (Rat.mul_le_mul_of_nonneg_left ?_ hA);have:=xz hN (show 1<=m-i by omega)
  rwa[show N^1=N by rw[Rat.pow_succ,Rat.pow_zero];grind]at this
 have e2:sm (mI (q.getD m []) m m aB N) (q.getD m []).length=gJ ((q.getD m []).drop 1) aB ((q.getD m []).length-1):=by
  cases hp:q.getD m []with
  | nil=>rfl
  | cons a p=>
    rw[List.length_cons,gy]
    have:∀K,sm (fun i=>mI (a::p) m m aB N (i+1)) K=gJ p aB K:=fun K=>by
     induction K with
     | zero=>rfl
     | succ K ih=>
       rw[sm,gJ,ih]
       congr 1
       unfold mI;rw[if_pos (.inr O),Nat.sub_self,Rat.pow_zero,show m+(K+1)-m=K+1 by omega];show(p.getD K 0).abs*_/1=_;rw[Rat.div_def,show((1:Rat))⁻¹=1 by decide +kernel];grind
    rw[show mI (a::p) m m aB N 0=0 by unfold mI;rw[if_neg O]];show 0+sm (fun i=>mI (a::p) m m aB N (i+1)) p.length=gJ p aB p.length;rw[this];grind
 rw[e2];grind
def sy.aj1(R:sy q m D lead aB st):∃s1:Nat,∀s,s1<=s->bC q m aB ((s:Rat)+1) (m+1)<=lead.abs*(3/4):=by
 have hl:=Ce R.l0;have h0:0<=aB:=by have:=R.r0;grind
 have hS:=Sm (q:=q) (m:=m) h0 (N:=1) (by decide +kernel) m
 obtain⟨s1,hs1⟩:∃s1:Nat,bC q m aB 1 m*4<=lead.abs*(s1:Rat):=by
  refine⟨((bC q m aB 1 m*4)/lead.abs).ceil.toNat,?_⟩;have h1:=Rat.le_ceil (x:=(bC q m aB 1 m*4)/lead.abs);generalize hq:(bC q m aB 1 m*4)/lead.abs=v at *;have h2:bC q m aB 1 m*4=v*lead.abs:=by rw[<-hq,Rat.div_mul_cancel (by grind)]
  rw[h2]
  have h3:((v.ceil:Int):Rat)<=((v.ceil.toNat:Nat):Rat):=by
   have:v.ceil<=((v.ceil.toNat:Nat):Int):=O
   have:=Rat.intCast_le_intCast.2 this
   exact_mod_cast this
  have:=Rat.mul_le_mul_of_nonneg_left (a:=v) (b:=((v.ceil.toNat:Nat):Rat)) (c:=lead.abs) (by grind) (by grind)
  grind
 refine⟨s1,fun s hs=>?_⟩;have hss:=oD hs;have hs0:=iM s;have h1:=VQ (q:=q) (m:=m) h0 (N:=(s:Rat)+1) (by grind);have h2:=R.rad
 have h3:bC q m aB 1 m/((s:Rat)+1)<=lead.abs/4:=by
  refine Cg (by grind) (by decide +kernel) ?_;have:=Rat.mul_le_mul_of_nonneg_left (a:=(s1:Rat)) (b:=(s:Rat)+1) (c:=lead.abs) (by grind) (by grind)
  grind
 grind
def sy.aM1(R:sy q m D lead aB st){x:Nat->Rat}(hx:∀s,kO q m x s=0){b:Rat}{n0:Nat}(hb0:0<=b)(hb:∀n,n0<=n->Bo b (x n*aB^n)) :
  ∃n1,∀h n,n1+h*(m+D)<=n->Bo (b*(3/4)^h) (x n*aB^n):=by
 obtain⟨s1,hs1⟩:=R.aj1;refine⟨n0+s1+m+D+m,fun h=>?_⟩
 induction h with
 | zero=>
   intro n hn;rw[Rat.pow_zero];exact(hb n O).mono (by grind)
 | succ h ih=>
   intro n hn;rw[Nat.succ_mul]at hn;have hp:=bj (x:=(3/4:Rat)) (by decide +kernel) h;obtain⟨s,rfl⟩:∃s,n=s+m:=⟨n-m,O⟩
   have h3:=R.step (x:=x) (s:=s) (τ:=aB) (Z:=b*(3/4)^h) (W:=0) (th:=3/4) (by have:=R.r0;grind) (hs1 s O) (Rat.mul_nonneg hb0 hp) (by rw[hx s,Rat.zero_mul];exact Bo.zero (by grind)) fun j h1 h2 h3=>ih _ O;rw[Rat.pow_succ];exact h3.mono (by grind)
end
end Ord
namespace Ord
def fst(a:Nat->Rat)(N:Nat):List Rat:=(List.range N).map a
def uo(a:Nat->Rat)(N n:Nat):co (fst a N) n=if n<N then a n else 0:=by
 unfold co fst;rw[List.getD_eq_getElem?_getD,List.getElem?_map];split
 ·rename_i h;rw[List.getElem?_range h];rfl
 ·rename_i h;rw[List.getElem?_eq_none (by rw[List.length_range];omega)];rfl
def Ua(a:Nat->Rat)(N:Nat):(fst a N).length=N:=by unfold fst;rw[List.length_map,List.length_range]
def kT(p:List Rat)(m i:Nat)(aB:Rat)(k:Nat):Rat:=(co p k).abs*aB^(m+k-i)
def kQ(q:List (List Rat))(m:Nat)(aB:Rat):Rat:=sm (fun i=>sm (kT (q.getD i []) m i aB) (q.getD i []).length) (m+1)
def Te{p:List Rat}{m i:Nat}{aB:Rat}(h0:0<=aB)(k:Nat):0<=kT p m i aB k:=Rat.mul_nonneg (dq _) (bj h0 _)
def WQ{q:List (List Rat)}{m:Nat}{aB:Rat}(h0:0<=aB):0<=kQ q m aB:=HX fun _ _=>HX fun k _=>Te h0 k
def bm6{p:List Rat}{m i:Nat}{aB:Rat}(h0:0<=aB)(K:Nat):sm (kT p m i aB) K<=sm (kT p m i aB) p.length:=by
 rcases Nat.le_total K p.length with h | h
 ·exact BU h fun k=>Te h0 k
 ·rw[qZ h fun k hk _=>by unfold kT;rw[Zo hk,show(0:Rat).abs=0 by decide +kernel];grind];exact Rat.le_refl
def bX0{q:List (List Rat)}{m D N s:Nat}{aB eps:Rat}{y:Nat->Rat}(h0:0<=aB)(he:0<=eps)(hD:∀i k,D<k->co (q.getD i []) k=0)(hy0:∀n,N<=n->y n=0)(hy:∀n,N-m-D<=n->Bo eps (y n*aB^n))(hs:N<=s+m) :
  Bo (kQ q m aB*(N:Rat)^m*eps) (kO q m y s*aB^(s+m)):=by
 have hN0:=iM N;have hNm:=bj hN0 m
 have hrow:∀i,i<m+1->Bo (sm (kT (q.getD i []) m i aB) (q.getD i []).length*((N:Rat)^m*eps)) (pS (co (q.getD i [])) (cj i y) s*aB^(s+m)):=by
  intro i hi
  have h1:Bo (sm (fun k=>((N:Rat)^m*eps)*kT (q.getD i []) m i aB k) (s+1)) (sm (fun k=>aB^(s+m)*(co (q.getD i []) k*cj i y (s-k))) (s+1)):=Bo.sm fun k hk=>by
   have hnn:0<=((N:Rat)^m*eps)*kT (q.getD i []) m i aB k:=Rat.mul_nonneg (Rat.mul_nonneg hNm he) (Te h0 k);by_cases hkD:D<k
   ·rw[hD i k hkD,show aB^(s+m)*(0*cj i y (s-k))=0 by grind];exact Bo.zero hnn
   ·by_cases hn:N<=s-k+i
    ·rw[show cj i y (s-k)=0 by unfold cj;rw[hy0 _ hn];grind,show aB^(s+m)*(co (q.getD i []) k*0)=0 by grind];exact Bo.zero hnn
    ·have hz:=hy (s-k+i) O;have e:aB^(s+m)=aB^(s-k+i)*aB^(m+k-i):=by rw[<-gL];congr 1;omega
     have h:=(((Bo.abs (co (q.getD i []) k)).mul hz).mul (Bo.self (uK (s-k+i) i))).mul (Bo.self (bj h0 (m+k-i)))
     have e2:aB^(s+m)*(co (q.getD i []) k*cj i y (s-k))=co (q.getD i []) k*(y (s-k+i)*aB^(s-k+i))*fr (s-k+i) i*aB^(m+k-i):=by
      rw[e];unfold cj fr;grind
     have hf:fr (s-k+i) i<=(N:Rat)^m:=by
      have h1:=yg (s-k+i) i;have h2:=ml (iM (s-k+i)) (oD (show s-k+i<=N by omega)) i
      have h3:=xz (x:=(N:Rat)) (by have:=oD (show 1<=N by omega);have e:((1:Nat):Rat)=1:=by decide +kernel
                                   rw[e]at this;exact this) (show i<=m by omega)
      grind
     rw[e2];refine h.mono ?_;have hA:=Rat.mul_nonneg he (Te (p:=q.getD i []) (m:=m) (i:=i) h0 k);have:=Rat.mul_le_mul_of_nonneg_right hf hA;unfold kT at this|-
     grind
  rw[de,de]at h1;rw[show pS (co (q.getD i [])) (cj i y) s*aB^(s+m)=aB^(s+m)*sm (fun k=>co (q.getD i []) k*cj i y (s-k)) (s+1) by unfold pS;grind];have h2:=bm6 (p:=q.getD i []) (m:=m) (i:=i) h0 (s+1);have h3:=Rat.mul_le_mul_of_nonneg_left h2 (Rat.mul_nonneg hNm he);exact h1.mono (by grind)
 have hall:=Bo.sm hrow
 have e1:sm (fun i=>sm (kT (q.getD i []) m i aB) (q.getD i []).length*((N:Rat)^m*eps)) (m+1)=kQ q m aB*(N:Rat)^m*eps:=by
  have:sm (fun i=>sm (kT (q.getD i []) m i aB) (q.getD i []).length*((N:Rat)^m*eps)) (m+1)=sm (fun i=>((N:Rat)^m*eps)*sm (kT (q.getD i []) m i aB) (q.getD i []).length) (m+1):=aw fun i _=>by grind
  rw[this,de];unfold kQ;grind
 have e2:sm (fun i=>pS (co (q.getD i [])) (cj i y) s*aB^(s+m)) (m+1)=kO q m y s*aB^(s+m):=by
  have:sm (fun i=>pS (co (q.getD i [])) (cj i y) s*aB^(s+m)) (m+1)=sm (fun i=>aB^(s+m)*pS (co (q.getD i [])) (cj i y) s) (m+1):=aw fun i _=>by grind
  rw[this,de];unfold kO;grind
 rw[e1,e2]at hall;exact hall
def Mt{q:List (List Rat)}{m s N:Nat}{x y:Nat->Rat}(h:∀n,n<N->x n=y n)(hs:s+m<N:=by omega):kO q m x s=kO q m y s:=by
 unfold kO;refine aw fun i hi=>?_;unfold pS;refine aw fun k hk=>?_;unfold cj;rw[h _ O]
def aJ3{q:List (List Rat)}{m D s N:Nat}{y:Nat->Rat}(hD:∀i k,D<k->co (q.getD i []) k=0)(hy0:∀n,N<=n->y n=0)(hs:N+D<=s):kO q m y s=0:=by
 unfold kO;refine kW fun i hi=>?_;unfold pS;refine kW fun k hk=>?_;by_cases hkD:D<k
 ·rw[hD i k hkD];grind
 ·unfold cj;rw[hy0 _ O];grind
section
variable{q q':List (List Rat)}{m D D' st st':Nat}{lead lead' aB rho' t τ:Rat}
def sy.bo6(R:sy q' m D' lead' rho' st')(hm:1<=m)(hτ:0<τ)(hτr:τ<=rho'):∃Th:Rat,0<=Th/\∀(e:Nat->Rat)(W:Rat),0<=W->(∀k,k<m->e k=0)->(∀s,Bo (lead'.abs*W) (kO q' m e s*τ^(s+m)))->∀k:Nat,Bo (Th*((k:Rat)*W)) (e k*τ^k):=by
 have hl:=Ce R.l0;have hτ0:0<=τ:=by grind
 obtain⟨th,h1,hth⟩:∃th:Rat,1<=th/\bC q' m τ 1 (m+1)<=lead'.abs*th:=by
  refine⟨1+bC q' m τ 1 (m+1)/lead'.abs,?_,?_⟩
  ·have:=Co (Sm (q:=q') (m:=m) hτ0 (N:=1) (by decide +kernel) (m+1)) hl
   grind
  ·have:bC q' m τ 1 (m+1)/lead'.abs*lead'.abs=bC q' m τ 1 (m+1):=Rat.div_mul_cancel (by grind)
   grind
 have hpos:∀n:Nat,0<=th^n:=fun n=>bj (by grind) n;refine⟨th^st',hpos _,fun e W hW0 he0 hL=>?_⟩
 have key:∀k,Bo (th^(min k st')*((k:Rat)*W)) (e k*τ^k):=by
  intro k
  induction k using Nat.strongRecOn with
  | _ k ih=>
    have hk0:=iM k;rcases Nat.lt_or_ge k m with h | h
    ·rw[he0 k h,Rat.zero_mul];exact Bo.zero (Rat.mul_nonneg (hpos _) (Rat.mul_nonneg hk0 hW0))
    ·obtain⟨s,rfl⟩:∃s,k=s+m:=⟨k-m,O⟩
     have hs0:=iM s;have hk1:=iM (s+m-1);have hcast:((s+m:Nat):Rat)=((s+m-1:Nat):Rat)+1:=by rw[<-qw];congr 1;omega
     have hZ:∀j,1<=j->j<=m+D'->j<=s+m->Bo (th^(min (s+m-1) st')*(((s+m-1:Nat):Rat)*W)) (e (s+m-j)*τ^(s+m-j)):=fun j h1' h2 h3=>by
      refine(ih (s+m-j) O).mono ?_;have e1:=xz h1 (show min (s+m-j) st'<=min (s+m-1) st' by omega);have e2:=oD (show s+m-j<=s+m-1 by omega);have e3:=Rat.mul_le_mul_of_nonneg_right e2 hW0;exact ey e1 e3 (hpos _) (Rat.mul_nonneg hk1 hW0)
     have hZ0:0<=th^(min (s+m-1) st')*(((s+m-1:Nat):Rat)*W):=Rat.mul_nonneg (hpos _) (Rat.mul_nonneg hk1 hW0);rw[hcast];have hA:=Rat.mul_nonneg hk1 hW0;rcases Nat.lt_or_ge (s+m) st' with hlt | hge
     ·have hth':bC q' m τ ((s:Rat)+1) (m+1)<=lead'.abs*th:=by
       have:=yL (q:=q') (m:=m) hτ0 (N:=1) (N':=(s:Rat)+1) (by decide +kernel) (by grind) (m+1)
       grind
      have h3:=R.step hτ0 hth' hZ0 (hL s) hZ;refine h3.mono ?_;rw[show min (s+m) st'=min (s+m-1) st'+1 by omega,Rat.pow_succ];have h4:=one_le_pow h1 (min (s+m-1) st');have h5:=ey h4 h1 (by decide +kernel) (by grind);have h6:=Rat.mul_le_mul_of_nonneg_right h5 hW0
      grind
     ·have hs:=R.hs
      have hth':bC q' m τ ((s:Rat)+1) (m+1)<=lead'.abs*1:=by
       have e1:=UQ (q:=q') (m:=m) hτ0 (N:=(s:Rat)+1) (by grind) hτr (m+1);have e2:=yL (q:=q') (m:=m) (aB:=rho') (N:=((st'-m:Nat):Rat)+1) (N':=(s:Rat)+1) (by grind) (by have:=iM (st'-m);grind) (by have:=oD (show st'-m<=s by omega);grind) (m+1);have e3:=R.start
       grind
      have h3:=R.step hτ0 hth' hZ0 (hL s) hZ;refine h3.mono ?_;have h4:=xz h1 (show min (s+m-1) st'<=min (s+m) st' by omega);have h5:=one_le_pow h1 (min (s+m) st');have h6:=Rat.mul_le_mul_of_nonneg_right h5 hW0;have h7:=Rat.mul_le_mul_of_nonneg_right h4 hA
      grind
 intro k;refine(key k).mono ?_;exact Rat.mul_le_mul_of_nonneg_right (xz h1) (Rat.mul_nonneg (iM k) hW0)
def tK{f g:Nat->Rat}(N:Nat)(s:Rat)(h:∀k,k<N->f k=g k):fQ f N s=fQ g N s:=aw fun k hk=>by rw[h k hk]
def CX(f:Nat->Rat)(N:Nat)(h:1<=N):fQ f N 0=f 0:=by
 obtain⟨n,rfl⟩:∃n,N=n+1:=⟨N-1,O⟩
 unfold fQ;rw[gy,kW fun i _=>by rw[Rat.pow_succ];grind,Rat.pow_zero];grind
def Ly{f:Nat->Rat}{n N:Nat}(s:Rat)(h:n<=N)(h0:∀k,n<=k->f k=0):fQ f N s=fQ f n s:=qZ h fun k h1 _=>by rw[h0 k h1];grind
theorem Ox:∀p:List Rat,(rG p).length<=p.length
 | []=>Nat.le_refl _
 | a::p=>by
   have ih:=Ox p
   have key:∀(p q:List Rat),(jN p q).length<=max p.length q.length:=by
    intro p
    induction p with
    | nil=>intro q;rw[jN];simp
    | cons a p ihp=>
      intro q;cases q with
      | nil=>rw[jN];simp
      | cons b q=>rw[jN];have:=ihp q;simp only[List.length_cons];omega
   have:=key p (0::rG p);rw[rG];simp only[List.length_cons]at this|-;omega
theorem xw(p:List Rat):∀i,(jz p i).length<=p.length
 | 0=>Nat.le_refl _
 | i+1=>by have h1:=xw p i;have h2:=Ox (jz p i);rw[jz];omega
def av2(f g:Nat->Rat)(N:Nat)(s:Rat):fQ (fun k=>f k-g k) N s=fQ f N s-fQ g N s:=by
 unfold fQ;have:sm (fun k=>(f k-g k)*s^k) N=sm (fun k=>f k*s^k+(-1)*(g k*s^k)) N:=aw fun k _=>by grind
 rw[this,sf,de];grind
theorem Qg(c:Nat->Rat)(f:Nat->Nat->Rat)(N:Nat)(s:Rat):∀n,fQ (fun k=>sm (fun u=>c u*f u k) n) N s=sm (fun u=>c u*fQ (f u) N s) n
 | 0=>kW fun i _=>by show(0:Rat)*_=0;grind
 | n+1=>by
   show _=sm (fun u=>c u*fQ (f u) N s) n+c n*fQ (f n) N s;rw[<-Qg c f N s n];unfold fQ;rw[<-de,<-sf]
   exact aw fun k _=>by
    show(sm (fun u=>c u*f u k) n+c n*f n k)*s^k=_
    grind
def ar1(i:Nat)(f g:Nat->Rat)(k:Nat):cj i (fun k=>f k-g k) k=cj i f k-cj i g k:=by unfold cj;grind
def Xc(i:Nat)(c:Nat->Rat)(f:Nat->Nat->Rat)(k n:Nat):cj i (fun k=>sm (fun u=>c u*f u k) n) k=sm (fun u=>c u*cj i (f u) k) n:=by
 unfold cj;rw[Rat.mul_comm,<-de];exact aw fun u _=>by grind
def ai9(k:Nat):0<fr k k:=by
 have:=YW 0 k;rw[Nat.zero_add]at this
 grind
end
end Ord
namespace Ord
def Bo.SO{A x r:Rat}(hr:0<=r)(h:Bo A (x*r)):x.abs*r<=A:=by
 obtain⟨h1,h2⟩:=h;unfold Rat.abs;split
 ·exact h2
 ·rw[show -x*r=-(x*r) by grind];grind
def Ev{x:Rat}(h:0<x):0<=x⁻¹:=by
 have:=Co (x:=1) (p:=x) (by decide +kernel) h
 rwa[Rat.div_def,show 1*x⁻¹=x⁻¹ by grind]at this
theorem Jy(f:Nat->Rat){k:Nat}:∀{m:Nat},k<m->sm (fun u=>f u*if k=u then 1 else 0) m=f k
 | m+1,h=>by
   rw[sm];by_cases hk:k=m
   ·subst hk;rw[if_pos rfl,kW fun i hi=>by rw[if_neg O];grind];grind
   ·rw[if_neg hk,Jy f (show k<m by omega)];grind
section
variable{q q':List (List Rat)}{m D D' st st':Nat}{lead lead' aB rho' t τ:Rat}
def bC5{N:Nat}{eps X:Rat}{a:Nat->Rat}(hr:0<aB)(he:0<=eps)(hD:∀i k,D<k->co (q.getD i []) k=0)(ha:∀s,kO q m a s=0)(hy:∀n,N-m-D<=n->Bo eps (a n*aB^n))(hX:((N+D:Nat):Rat)<=X) :
  nW aB (Ob q (fst a N) (m+1))<=X*(kQ q m aB*X^m*eps*(aB^m)⁻¹):=by
 have h0:0<=aB:=by grind
 have hrm:=Rat.pow_pos (n:=m) hr;have hri:=Ev hrm;have hK:=WQ (q:=q) (m:=m) h0;have hN0:=iM N;have hNX:(N:Rat)<=X:=by have:=oD (show N<=N+D by omega);grind
 have hX0:0<=X:=by grind
 have hpow:=ml hN0 hNX m;have hβ:0<=kQ q m aB*X^m*eps*(aB^m)⁻¹:=Rat.mul_nonneg (Rat.mul_nonneg (Rat.mul_nonneg hK (bj hX0 m)) he) hri
 have h1:=bB0 (th:=aB) (β:=kQ q m aB*X^m*eps*(aB^m)⁻¹) (Ob q (fst a N) (m+1)) (M:=N+D) (fun k hk=>by
  rw[aK2];exact aJ3 hD (fun n hn=>by rw[uo,if_neg O]) hk) (fun k hk=>by
  rw[aK2];rcases Nat.lt_or_ge (k+m) N with h | h
  ·rw[Mt (y:=a) (N:=N) (fun n hn=>by rw[uo,if_pos hn]) h,ha,show(0:Rat).abs=0 by decide +kernel]
   grind
  ·have h2:=bX0 (q:=q) (m:=m) (N:=N) (y:=co (fst a N)) h0 he hD (fun n hn=>by rw[uo,if_neg O]) (fun n hn=>by
    rw[uo];split
    ·exact hy n hn
    ·rw[Rat.zero_mul];exact Bo.zero he) h
   rw[gL,show kO q m (co (fst a N)) k*(aB^k*aB^m)=(kO q m (co (fst a N)) k*aB^k)*aB^m by grind]at h2;have h3:=h2.SO (by grind)
   have e3:(kO q m (co (fst a N)) k*aB^k).abs=(kO q m (co (fst a N)) k).abs*aB^k:=by
    have:=bj h0 k;have h5:=(Bo.self this)
    unfold Rat.abs;by_cases hL:0<=kO q m (co (fst a N)) k
    ·rw[if_pos hL,if_pos (Rat.mul_nonneg hL this)]
    ·rw[if_neg hL];have h6:=Rat.mul_nonneg (a:=-kO q m (co (fst a N)) k) (b:=aB^k) (by grind) this;split
     ·rename_i h7;have:kO q m (co (fst a N)) k*aB^k=0:=by grind
      grind
     ·grind
   rw[e3]at h3;have h4:kQ q m aB*(N:Rat)^m*eps<=kQ q m aB*X^m*eps:=Rat.mul_le_mul_of_nonneg_right (Rat.mul_le_mul_of_nonneg_left hpow hK) he;have h5:(kO q m (co (fst a N)) k).abs*aB^k*aB^m*(aB^m)⁻¹<=kQ q m aB*X^m*eps*(aB^m)⁻¹:=Rat.mul_le_mul_of_nonneg_right (by grind) hri;have h6:aB^m*(aB^m)⁻¹=1:=Rat.mul_inv_cancel _ (by grind);have e7:(kO q m (co (fst a N)) k).abs*aB^k*aB^m*(aB^m)⁻¹=(kO q m (co (fst a N)) k).abs*aB^k*(aB^m*(aB^m)⁻¹):=by grind
   rw[e7,h6]at h5
   grind) hβ
 have h2:=Rat.mul_le_mul_of_nonneg_right hX hβ
 grind
def there{a:Nat->Rat}{N k:Nat}(hk:k<=N):cj k (iL t (fst a N)) 0=fQ (cj k a) (N-k) t:=by
 have hl:=xw (fst a N) k;rw[Ua]at hl;have h1:=TT t 0 (jz (fst a N) k) (N+1) O;rw[CX _ _ O,mF,show t+0=t by grind]at h1;rw[h1];have h2:fQ (co (jz (fst a N) k)) N t=fQ (co (jz (fst a N) k)) (jz (fst a N) k).length t:=Ly t hl fun j hj=>Zo hj
 have h3:fQ (co (jz (fst a N) k)) N t=fQ (co (jz (fst a N) k)) (N-k) t:=Ly t O fun j hj=>by
  rw[gu];unfold cj;rw[uo,if_neg O];grind
 rw[<-h2,h3]
 exact tK _ _ fun j hj=>by
  rw[gu];unfold cj;rw[uo,if_pos O]
def home{a:Nat->Rat}{N i:Nat}(hi:i<N):fQ (cj i (iL t (fst a N))) N (-t)=a i*fr i i:=by
 have hl:=xw (fst a N) i;rw[Ua]at hl;have h1:=TT t (-t) (jz (fst a N) i) N hl;rw[tK (g:=cj i (iL t (fst a N))) N (-t) (fun k _=>mF t (fst a N) i k),show t + -t=0 by grind]at h1;rw[h1,<-Ly 0 hl (fun j hj=>Zo hj),CX _ _ O,gu];unfold cj fr;rw[uo,Nat.zero_add,if_pos hi]
def bc2{x y A r:Rat}{k i:Nat}(h0:0<=τ)(hr:Bo τ r)(h:Bo A (x*τ^(k+i))):Bo A (x*r^k*τ^i):=by
 have h1:=h.SO (bj h0 _);rw[gL]at h1;have h2:=((Bo.abs x).mul (hr.pow k)).mul (Bo.self (bj h0 i));exact h2.mono (by grind)
def back(hm:1<=m)(R:sy q m D lead aB st)(R':sy q' m D' lead' rho' st')(hq:∀i k,co (q'.getD i []) k=iL t (q.getD i []) k)(hτ:0<τ)(ht:Bo τ t)(hT:Bo (aB-τ) t)(hτr:τ<=rho')
  {a:Nat->Rat} (ha:∀s,kO q m a s=0) {g:Nat->Nat->Rat} (hg:∀u,u<m->∀s,kO q' m (g u) s=0) (hgi:∀u k,u<m->k<m->g u k*fr k k=if k=u then 1 else 0) {b:Rat} {n0:Nat} (hb0:0<=b) (hb:∀n,n0<=n->Bo b (a n*aB^n)) (i:Nat) :
  ∀eta:Rat,0<eta->∀N0:Nat,∃N,N0<=N/\Bo eta (a i*fr i i-sm (fun u=>fQ (cj u a) (N-u) t*fQ (cj i (g u)) N (-t)) m):=by
 intro eta heta N0;obtain⟨Th,hTh,hpush⟩:=R'.bo6 hm hτ hτr;obtain⟨n1,hdec⟩:=R.aM1 ha hb0 hb;have hr:=R.r0;have h0:0<=aB:=by grind
 have hτ0:0<=τ:=by grind
 have hK:=WQ (q:=q) (m:=m) h0;have hl':=Ce R'.l0;have hli:=Ev hl';have hri:=Ev (Rat.pow_pos (n:=m) hr);have hti:=Ev (Rat.pow_pos (n:=i) hτ);have hτm:=bj hτ0 m
 let c1:Nat:=n1+(m+D)+i+1+i+D
 let C1:Rat:=Th*kQ q m aB*(aB^m)⁻¹*τ^m*lead'.abs⁻¹*(τ^i)⁻¹
 have hC1:0<=C1:=Rat.mul_nonneg (Rat.mul_nonneg (Rat.mul_nonneg (Rat.mul_nonneg (Rat.mul_nonneg hTh hK) hri) hτm) hli) hti;have hC:0<=C1*b*(c1:Rat)^(i+m+3):=Rat.mul_nonneg (Rat.mul_nonneg hC1 hb0) (bj (iM c1) _);obtain⟨g0,hg0⟩:=ab8 _ hC (i+m+3) eta heta
 let h:Nat:=(i+m+3+1)*max g0 (max N0 m)
 have hgm:=hg0 (max g0 (max N0 m)) O;have hbig:max N0 m<=h:=Nat.le_trans O (Nat.le_mul_of_pos_left (max g0 (max N0 m)) (show 0<i+m+3+1 by omega));have hJ:h<=h*(m+D):=Nat.le_mul_of_pos_right _ O
 let N:Nat:=n1+h*(m+D)+(m+D)+i+1
 have hNd:N=n1+h*(m+D)+(m+D)+i+1:=rfl;refine⟨N,O,?_⟩
 let eps:Rat:=b*(3/4)^h
 have heps:0<=eps:=Rat.mul_nonneg hb0 (bj (by decide +kernel) h)
 let X:Rat:=((N+i+D:Nat):Rat)
 have hX0:0<=X:=iM _;have hnW:=bC5 (q:=q) (m:=m) (D:=D) (N:=N) (eps:=eps) (X:=X) (a:=a) hr heps R.hD ha (fun n hn=>hdec h n O) (oD O)
 let F:Nat->Rat:=fun u=>fQ (cj u a) (N-u) t
 let e:Nat->Rat:=fun k=>iL t (fst a N) k-sm (fun u=>F u*g u k) m
 let Wx:Rat:=X*(kQ q m aB*X^m*eps*(aB^m)⁻¹)*τ^m*lead'.abs⁻¹
 have hβ:0<=X*(kQ q m aB*X^m*eps*(aB^m)⁻¹):=Rat.mul_nonneg hX0 (Rat.mul_nonneg (Rat.mul_nonneg (Rat.mul_nonneg hK (bj hX0 m)) heps) hri);have hWx:0<=Wx:=Rat.mul_nonneg (Rat.mul_nonneg hβ hτm) hli
 have hWl:lead'.abs*Wx=X*(kQ q m aB*X^m*eps*(aB^m)⁻¹)*τ^m:=by
  have h6:lead'.abs*lead'.abs⁻¹=1:=Rat.mul_inv_cancel _ (by grind);show lead'.abs*(X*(kQ q m aB*X^m*eps*(aB^m)⁻¹)*τ^m*lead'.abs⁻¹)=_;generalize X*(kQ q m aB*X^m*eps*(aB^m)⁻¹)*τ^m=y;rw[show lead'.abs*(y*lead'.abs⁻¹)=y*(lead'.abs*lead'.abs⁻¹) by grind,h6];grind
 have he0:∀k,k<m->e k=0:=by
  intro k hk
  have h1:e k*fr k k=0:=by
   have h2:iL t (fst a N) k*fr k k=F k:=by
    have:=there (t:=t) (a:=a) (N:=N) (k:=k) O;unfold cj at this;rw[Nat.zero_add]at this;exact this
   have h3:sm (fun u=>F u*g u k) m*fr k k=F k:=by
    rw[Rat.mul_comm,<-de,<-Jy F hk];exact aw fun u hu=>by rw[<-hgi u k hu hk];grind
   show(iL t (fst a N) k-sm (fun u=>F u*g u k) m)*fr k k=0
   grind
  have:=ai9 k;rcases Rat.mul_eq_zero.1 h1 with h | h
  ·exact h
  ·grind
 have hL:∀s,Bo (lead'.abs*Wx) (kO q' m e s*τ^(s+m)):=by
  intro s
  have h1:kO q' m e s=iL t (Ob q (fst a N) (m+1)) s:=by
   show kO q' m (fun k=>iL t (fst a N) k-(fun k=>sm (fun u=>F u*g u k) m) k) s=_;rw[aq5,PJ,kW fun u hu=>by rw[hg u hu];grind,bf9 t hq];grind
  have h2:=JB hT hτ0 (Ob q (fst a N) (m+1)) s;rw[show aB-τ+τ=aB by grind]at h2;have h3:=(h2.mono hnW).mul (Bo.self hτm);rw[h1,hWl,gL,show iL t (Ob q (fst a N) (m+1)) s*(τ^s*τ^m)=iL t (Ob q (fst a N) (m+1)) s*τ^s*τ^m from(Rat.mul_assoc _ _ _).symm];exact h3
 have hp:=hpush e Wx hWx he0 hL
 have hval:fQ (cj i e) N (-t)=a i*fr i i-sm (fun u=>F u*fQ (cj i (g u)) N (-t)) m:=by
  have h1:fQ (cj i e) N (-t)=fQ (fun k=>cj i (iL t (fst a N)) k-(fun k=>sm (fun u=>F u*cj i (g u) k) m) k) N (-t):=tK _ _ fun k _=>by
   show cj i (fun k=>iL t (fst a N) k-(fun k=>sm (fun u=>F u*g u k) m) k) k=_;rw[ar1,Xc]
  rw[h1,av2,home O,Qg]
 rw[<-hval]
 have hsum:Bo ((N:Rat)*(Th*(X*Wx)*X^i)) (fQ (cj i e) N (-t)*τ^i):=by
  have h1:Bo (sm (fun _=>Th*(X*Wx)*X^i) N) (sm (fun k=>τ^i*(cj i e k*(-t)^k)) N):=Bo.sm fun k hk=>by
   have h2:=hp (k+i);have hkX:((k+i:Nat):Rat)<=X:=oD O;have h3:Th*(((k+i:Nat):Rat)*Wx)<=Th*(X*Wx):=Rat.mul_le_mul_of_nonneg_left (Rat.mul_le_mul_of_nonneg_right hkX hWx) hTh;have h4:=(bc2 (y:=0) hτ0 ht.neg (h2.mono h3)).mul (Bo.self (uK (k+i) i));have h5:=yg (k+i) i;have h6:=ml (iM (k+i)) hkX i;have h7:=Rat.mul_le_mul_of_nonneg_left (show fr (k+i) i<=X^i by grind) (show 0<=Th*(X*Wx)from Rat.mul_nonneg hTh (Rat.mul_nonneg hX0 hWx));have e8:τ^i*(cj i e k*(-t)^k)=e (k+i)*(-t)^k*τ^i*fr (k+i) i:=by unfold cj fr;grind
   rw[e8];exact h4.mono h7
  rw[sx,de]at h1;rw[show fQ (cj i e) N (-t)*τ^i=τ^i*sm (fun k=>cj i e k*(-t)^k) N by unfold fQ;grind];exact h1
 have hfin:Bo ((N:Rat)*(Th*(X*Wx)*X^i)*(τ^i)⁻¹) (fQ (cj i e) N (-t)):=by
  have h1:=hsum.mul (Bo.self hti);have h6:τ^i*(τ^i)⁻¹=1:=Rat.mul_inv_cancel _ (by have:=Rat.pow_pos (n:=i) hτ;grind)
  rwa[show fQ (cj i e) N (-t)*τ^i*(τ^i)⁻¹=fQ (cj i e) N (-t)*(τ^i*(τ^i)⁻¹) by grind,h6,show fQ (cj i e) N (-t)*1=fQ (cj i e) N (-t) by grind]at h1
 refine hfin.mono ?_;have hNX:(N:Rat)<=X:=oD O;have hA0:0<=Th*(X*Wx)*X^i*(τ^i)⁻¹:=Rat.mul_nonneg (Rat.mul_nonneg (Rat.mul_nonneg hTh (Rat.mul_nonneg hX0 hWx)) (bj hX0 i)) hti
 have h1:(N:Rat)*(Th*(X*Wx)*X^i)*(τ^i)⁻¹<=X*(Th*(X*Wx)*X^i*(τ^i)⁻¹):=by
  have:=Rat.mul_le_mul_of_nonneg_right hNX hA0
  grind
 have e1:X*(Th*(X*Wx)*X^i*(τ^i)⁻¹)=C1*eps*X^(i+m+3):=by
  have e2:X^(i+m+3)=X^i*X^m*(X*X*X):=by
   rw[gL,gL,Rat.pow_succ,Rat.pow_succ,Rat.pow_succ,Rat.pow_zero];grind
  rw[e2];show X*(Th*(X*(X*(kQ q m aB*X^m*eps*(aB^m)⁻¹)*τ^m*lead'.abs⁻¹))*X^i*(τ^i)⁻¹)=Th*kQ q m aB*(aB^m)⁻¹*τ^m*lead'.abs⁻¹*(τ^i)⁻¹*eps*(X^i*X^m*(X*X*X));generalize (aB^m)⁻¹=v1;generalize (τ^i)⁻¹=v2;generalize lead'.abs⁻¹=v3;generalize X^i=v4;generalize X^m=v5;generalize τ^m=v6;generalize kQ q m aB=v7;generalize eps=v8;generalize X=v9
  grind
 have hXc:X<=(c1:Rat)*(((h:Nat):Rat)+1):=by
  have h2:N+i+D<=c1*(h+1):=by
   have e3:c1*(h+1)=c1*h+c1:=Nat.mul_succ _ _;have e4:(m+D)*h<=c1*h:=Nat.mul_le_mul_right _ O;rw[Nat.mul_comm (m+D) h]at e4;omega
  have h3:=oD h2;have e5:((c1*(h+1):Nat):Rat)=(c1:Rat)*(((h:Nat):Rat)+1):=by rw[<-qw];exact_mod_cast rfl
  rw[e5]at h3;exact h3
 have h2:=ml hX0 hXc (i+m+3);rw[vw]at h2;have h3:=Rat.mul_le_mul_of_nonneg_left h2 (show 0<=C1*eps from Rat.mul_nonneg hC1 heps)
 have e6:C1*eps*((c1:Rat)^(i+m+3)*(((h:Nat):Rat)+1)^(i+m+3))=C1*b*(c1:Rat)^(i+m+3)*(((h:Nat):Rat)+1)^(i+m+3)*(3/4)^h:=by
  show C1*(b*(3/4)^h)*_=_;generalize (c1:Rat)^(i+m+3)=v1;generalize (((h:Nat):Rat)+1)^(i+m+3)=v2;generalize (3/4:Rat)^h=v3
  grind
 rw[e6]at h3;rw[e1]at h1;exact Rat.le_trans h1 (Rat.le_trans h3 hgm)
end
end Ord
namespace Go.Sy
open Go Go.Proofs Ord
def IQ{b aB r:Rat}{n d:Nat}(hb:0<=b)(h0:0<aB)(hr:0<=r)(hd:d<=n)(h1:bh aB n d r<1):b*Gj aB n d r+eI b aB (n+1) d r<=eI b aB n d r:=by
 obtain⟨hs,hs0⟩:=Ft (d:=d) h0 hr hd;have hu:=RZ (r:=r) h0 hd;have hu0:0<=Gj aB n d r:=lH (gX (qJ.2 (wH d hd)) (Bw hr)) (rn h0);have hbu:=gX hb hu0;have t1:eI b aB (n+1) d r=b*Gj aB (n+1) d r/(((1:Int):Rat)-bh aB ((n+1:Nat):Int) d r):=rfl;have t0:eI b aB n d r=b*Gj aB n d r/(((1:Int):Rat)-bh aB n d r):=rfl;rw[t1,t0,hu];have one:((1:Int):Rat)=1:=by decide +kernel
 rw[one];generalize bh aB ((n+1:Nat):Int) d r=s1 at *;generalize bh aB n d r=s0 at *;generalize Gj aB n d r=u at *
 have h2:b*(u*s0)/(1-s1)<=b*(u*s0)/(1-s0):=by
  refine pv (by grind) (by grind) ?_;have:=qF (a:=1-s0) (b:=1-s1) (c:=b*(u*s0)) (by grind) (by have:=gX hbu hs0;grind)
  grind
 have h3:b*u+b*(u*s0)/(1-s0)=b*u/(1-s0):=by
  have hne:1-s0≠0:=by grind
  grind
 grind
def SS{b aB r:Rat}{n d:Nat}(hb:0<=b)(h0:0<aB)(hr:0<=r)(hd:d<=n)(h1:bh aB n d r<1):0<=eI b aB n d r:=by
 have hu0:0<=Gj aB n d r:=lH (gX (qJ.2 (wH d hd)) (Bw hr)) (rn h0);have t0:eI b aB n d r=b*Gj aB n d r/(((1:Int):Rat)-bh aB n d r):=rfl;rw[t0];have one:((1:Int):Rat)=1:=by decide +kernel
 rw[one];exact lH (gX hb hu0) (by grind)
def am0{b aB t:Rat}{n d:Nat}{a:Nat->Rat}(hb:0<=b)(h0:0<aB)(hd:d<=n)(h1:bh aB n d t.abs<1)(ha:∀i,n<=i->Bo b (a i*aB^i)) :
  ∀N,n<=N->Bo (eI b aB n d t.abs-eI b aB N d t.abs) (fQ (cj d a) (N-d) t-fQ (cj d a) (n-d) t)/\bh aB N d t.abs<1:=by
 have hr:=rL t;intro N hN
 induction N with
 | zero=>
   obtain rfl:n=0:=O
   refine⟨?_,h1⟩;rw[show ∀x:Rat,x-x=0 from fun x=>by grind,show ∀x:Rat,x-x=0 from fun x=>by grind];exact Bo.zero cr
 | succ N ih=>
   rcases Nat.lt_or_ge N n with h | h
   ·obtain rfl:n=N+1:=O
    refine⟨?_,h1⟩;rw[show ∀x:Rat,x-x=0 from fun x=>by grind,show ∀x:Rat,x-x=0 from fun x=>by grind];exact Bo.zero cr
   ·obtain⟨ih1,ih2⟩:=ih h;have hd':d<=N:=O
    refine⟨?_,(qf hb h0 hr ih2 hd').2⟩;have hs:=IQ hb h0 hr hd' ih2;have hp:=rn (n:=N) h0
    have hterm:Bo (b*Gj aB N d t.abs) (cj d a (N-d)*t^(N-d)):=by
     have h2:=((ha N h).mul (Bo.self (uK N d))).mul ((Bo.abs t).pow (N-d));refine Bo.cancel (c:=aB^N) hp ?_
     have e1:aB^N*(b*Gj aB N d t.abs)=b*fr N d*t.abs^(N-d):=by
      unfold Gj;have:((aq N d:Int):Rat)*t.abs^(N-d)/aB^N*aB^N=((aq N d:Int):Rat)*t.abs^(N-d):=pH (by grind);rw[show aB^N*(b*(((aq N d:Int):Rat)*t.abs^(N-d)/aB^N))=b*(((aq N d:Int):Rat)*t.abs^(N-d)/aB^N*aB^N) by grind,this];unfold fr;grind
     have e2:aB^N*(cj d a (N-d)*t^(N-d))=a N*aB^N*fr N d*t^(N-d):=by
      unfold cj fr;rw[show N-d+d=N by omega];grind
     rw[e1,e2];exact h2
    have e3:fQ (cj d a) (N+1-d) t=fQ (cj d a) (N-d) t+cj d a (N-d)*t^(N-d):=by
     rw[show N+1-d=N-d+1 by omega];rfl
    rw[e3];have h4:=ih1.add hterm;rw[show fQ (cj d a) (N-d) t-fQ (cj d a) (n-d) t+cj d a (N-d)*t^(N-d)=fQ (cj d a) (N-d) t+cj d a (N-d)*t^(N-d)-fQ (cj d a) (n-d) t by grind]at h4;exact h4.mono (by grind)
theorem LF(t:Rat)(a:List Rat)(d n:Nat):∀c,c<=n->gV t a d n c=sm (fun j=>co a (n-c+j)*fr (n-c+j) d*t^j) c
 | 0,_=>rfl
 | c+1,hc=>by
   rw[gV,LF t a d n c O,gy,ej]
   have e:sm (fun i=>co a (n-(c+1)+(i+1))*fr (n-(c+1)+(i+1)) d*t^(i+1)) c=t*sm (fun j=>co a (n-c+j)*fr (n-c+j) d*t^j) c:=by
    rw[<-de]
    exact aw fun i hi=>by
     rw[show n-(c+1)+(i+1)=n-c+i by omega,gM];grind
   rw[e,Nat.add_zero,show n-(c+1)=n-1-c by omega];unfold co fr;grind
def aS(q:List (List Rat))(m:Nat)(lead:Rat)(y:List Rat)(n:Nat):Rat:=kp q m lead y n (aN q m lead y n)
def sH(q:List (List Rat))(m:Nat)(lead:Rat)(y:List Rat){n N:Nat}(h:n<N:=by omega):co (aN q m lead y N) n=aS q m lead y n:=by
 have h1:co (aN q m lead y (n+1)) n=co (aN q m lead y N) n:=by
  unfold co;rw[<-og q m lead y (k:=n+1) (n:=N),cu,eo,if_pos O,cu]
 rw[<-h1];unfold co aS;rw[aN,cu,fX (by rw[bE];exact aY _),bE,iY];rfl
def am1(q:List (List Rat))(m:Nat)(lead:Rat)(y:List Rat)(t:Rat){n d:Nat}(hd:d<=n:=by omega):gV t (aN q m lead y n) d n (n-d)=fQ (cj d (aS q m lead y)) (n-d) t:=by
 rw[LF _ _ _ _ _ O];refine aw fun j hj=>?_;rw[show n-(n-d)+j=j+d by omega,sH q m lead y];unfold cj fr;rfl
def ad9{q:List (List Rat)}{m:Nat}{lead:Rat}{y:List Rat}(hl:lead≠0)(hql:q.length=m+1)(hq0:(q.getD m []).getD 0 0=lead)(s:Nat):kO q m (aS q m lead y) s=0:=by
 have h:=bb4 (q:=q) (m:=m) (s:=s) (N:=s+m+1) (lead:=lead) (y:=y) hl hql hq0;have h2:kO q m (co (aN q m lead y (s+m+1))) s=0:=h;rw[<-h2];exact Mt (N:=s+m+1) (fun n hn=>(sH q m lead y hn).symm)
def aC3{q:List (List Rat)}{m:Nat}{lead:Rat}{u k:Nat}(hk:k<m)(hu:u<m):aS q m lead (aX m u) k*fr k k=if k=u then 1 else 0:=by
 have hp:=ai9 k;unfold aS kp;rw[if_pos hk]
 have e:(aX m u).getD k 0=if k=u then 1 else 0:=by
  unfold aX;rw[Ze _ _ _ _ (by rw[my];exact hu)];split
  ·rfl
  ·rw[cu,wc];split<;>rfl
 rw[e];have:∀x:Rat,x/fr k k*fr k k=x:=fun x=>pH (by grind);exact this _
def at3{k:Nat}:∀{p:List Rat},cz zr p<=k->p.getD k 0=0:=by
 induction k with
 | zero=>
   intro p h;cases p with
   | nil=>rfl
   | cons x p=>
     rw[cz]at h;split at h
     ·rename_i hc;exact oP hc.2
     ·omega
 | succ k ih=>
   intro p h;cases p with
   | nil=>rfl
   | cons x p=>
     refine ih (p:=p) ?_;rw[cz]at h;split at h
     ·rename_i hc;omega
     ·omega
def VC{q:List (List Rat)}{p:List Rat}(h:p∈q):cz zr p-1<=aa q:=by
 have key:∀(q:List (List Rat))(d:Nat),d<=q.foldl (fun d p=>max d (cz zr p-1)) d/\∀p∈q,cz zr p-1<=q.foldl (fun d p=>max d (cz zr p-1)) d:=by
  intro q
  induction q with
  | nil=>intro d;exact⟨aY _,fun p hp=>by cases hp⟩
  | cons r q ih=>
    intro d;obtain⟨h1,h2⟩:=ih (max d (cz zr r-1));rw[List.foldl_cons];refine⟨O,fun p hp=>?_⟩;rcases List.mem_cons.1 hp with rfl | hp
    ·omega
    ·exact h2 p hp
 exact(key q 0).2 p h
def bs0{q:List (List Rat)}{i k:Nat}(h:aa q<k):co (q.getD i []) k=0:=by
 rcases Nat.lt_or_ge i q.length with hi | hi
 ·have hm:q.getD i []∈q:=by
   rw[cu,ay hi];exact List.getElem_mem hi
  have:=VC hm;exact at3 (p:=q.getD i []) O
 ·rw[cu,fD hi];rfl
def To{q:List (List Rat)}{m:Nat}{lead aB:Rat}{st:Nat}(hql:q.length=m+1)(hq0:(q.getD m []).getD 0 0=lead)(hl:lead≠0)(h:ba q m lead=some (aB,st))(hm:1<=m:=by omega):sy q m (aa q) lead aB st:=by
 obtain⟨hh,ii,hrv,f1,_,f3,_,_,f6⟩:=sa (q:=q) (m:=m) (lead:=lead) hm;rw[h]at hrv;split at hrv
 ·cases hrv
 ·rename_i hc;simp only[aI,bQ]at hrv;obtain⟨rfl,rfl⟩:=hrv;have h1:1<=2^ii:=Nat.pow_pos O;have h2:(m+aa q+m)*1<=(m+aa q+m)*2^ii:=Nat.mul_le_mul_left _ h1;have hst:=f6.resolve_left (fun h=>hc (.inr h));generalize (m+aa q+m)*2^ii=st at *;refine⟨hq0,hl,jI hh,fun i k hk=>bs0 hk,O,?_,f3 O⟩;unfold eX at hst;rw[hql]at hst
  have e:(((st-m:Nat):Rat)+1)=(((st:Int)-m+1:Int):Rat):=by
   rw[<-qw,show((st:Int)-m+1:Int)=((st-m+1:Nat):Int) by omega]
   exact_mod_cast rfl
  rw[e];exact hst
theorem Lk{a:List Rat}{aB:Rat}{n0:Nat}:∀k,0<=JW a aB n0 k/\∀j,j<k->(a.getD (n0+j) 0).abs*aB^(n0+j)<=JW a aB n0 k
 | 0=>⟨cr,fun j h=>absurd h (oJ _)⟩
 | k+1=>by
   obtain⟨h1,h2⟩:=Lk (a:=a) (aB:=aB) (n0:=n0) k
   have e:JW a aB n0 (k+1)=if JW a aB n0 k<(a.getD (n0+k) 0).abs*aB^(n0+k)then(a.getD (n0+k) 0).abs*aB^(n0+k)else JW a aB n0 k:=by
    rw[JW];simp[gZ]
   rw[e];refine⟨by split<;>grind,fun j hj=>?_⟩;rcases Nat.lt_or_ge j k with h | h
   ·have:=h2 j h;split<;>grind
   ·obtain rfl:j=k:=O
    split<;>grind
end Go.Sy
