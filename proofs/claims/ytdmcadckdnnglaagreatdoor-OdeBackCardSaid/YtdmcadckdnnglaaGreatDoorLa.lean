/- Bounded numbers; sums; powers against the exponential. Polynomials moved to another place: coefficient by coefficient. The recursion bounds what comes next by what was there before. The coefficients of solutions fall off. A step and the step back: what is left out grows less and less. A step and the step back make the unit matrix, as near as is wished.
-/
import Derived.Test.YtdmcadckdnnglaaGreatDoorPc
import Derived.Test.YtdmcadckdnnglaaGreatDoorQf
set_option linter.unusedVariables false
set_option linter.unusedSimpArgs false
namespace Ord
def Bo (s x:Rat):Prop:=-s≤x∧x≤s
theorem Bo.nn {s x:Rat} (h:Bo s x):0≤s:=by obtain ⟨h1,h2⟩:=h;grind
theorem Bo.zero {s:Rat} (h:0≤s):Bo s 0:=by constructor<;>grind
theorem Bo.mono {s t x:Rat} (h:Bo s x) (k:s≤t):Bo t x:=by obtain ⟨h1,h2⟩:=h;constructor<;>grind
theorem Bo.add {s t x y:Rat} (h:Bo s x) (k:Bo t y):Bo (s+t) (x+y):=by obtain ⟨h1,h2⟩:=h;obtain ⟨k1,k2⟩:=k;constructor<;>grind
theorem Bo.sub {s t x y:Rat} (h:Bo s x) (k:Bo t y):Bo (s+t) (x-y):=by obtain ⟨h1,h2⟩:=h;obtain ⟨k1,k2⟩:=k;constructor<;>grind
theorem Bo.neg {s x:Rat} (h:Bo s x):Bo s (-x):=by obtain ⟨h1,h2⟩:=h;constructor<;>grind
theorem Bo.mul {s t x y:Rat} (h:Bo s x) (k:Bo t y):Bo (s*t) (x*y):=by
 obtain ⟨h1,h2⟩:=h;obtain ⟨k1,k2⟩:=k;have e1:=Rat.mul_nonneg (a:=s-x) (b:=t+y) (by grind) (by grind);have e2:=Rat.mul_nonneg (a:=s+x) (b:=t-y) (by grind) (by grind);have e3:=Rat.mul_nonneg (a:=s-x) (b:=t-y) (by grind) (by grind);have e4:=Rat.mul_nonneg (a:=s+x) (b:=t+y) (by grind) (by grind)
 constructor<;>grind
theorem Bo.pow {s x:Rat} (h:Bo s x):∀ k:Nat,Bo (s^k) (x^k)
 | 0=>by rw [Rat.pow_zero,Rat.pow_zero];constructor<;>decide +kernel
 | k+1=>by rw [Rat.pow_succ,Rat.pow_succ];exact (Bo.pow h k).mul h
theorem Bo.self {x:Rat} (h:0≤x):Bo x x:=by constructor<;>grind
theorem Bo.abs (x:Rat):Bo x.abs x:=by unfold Rat.abs Bo;split<;>constructor<;>grind
theorem Bo.sm {f g:Nat→Rat}:∀ {n:Nat},(∀ i,i<n→Bo (g i) (f i))→Bo (sm g n) (sm f n)
 | 0,_=>Bo.zero Rat.le_refl
 | n+1,h=>(Bo.sm (n:=n) fun i hi=>h i (by omega)).add (h n (by omega))
theorem cU {x:Rat} (h:0≤x):∀ n:Nat,0≤x^n
 | 0=>by rw [Rat.pow_zero];decide +kernel
 | n+1=>by rw [Rat.pow_succ];exact Rat.mul_nonneg (cU h n) h
theorem tX (f g:Nat→Rat):∀ n,sm (fun i=>f i+g i) n=sm f n+sm g n
 | 0=>by simp only [sm];grind
 | n+1=>by simp only [sm,tX f g n];grind
theorem dS (c:Rat) (f:Nat→Rat):∀ n,sm (fun i=>c*f i) n=c*sm f n
 | 0=>by simp only [sm];grind
 | n+1=>by simp only [sm,dS c f n];grind
theorem yT (c:Rat):∀ n:Nat,sm (fun _=>c) n=(n:Rat)*c
 | 0=>by simp [sm]
 | n+1=>by
   rw [sm,yT c n,show ((n+1:Nat):Rat)=(n:Rat)+1 by exact_mod_cast rfl]
   grind
theorem gG (f:Nat→Rat):∀ n,sm f (n+1)=f 0+sm (fun i=>f (i+1)) n
 | 0=>by simp only [sm];grind
 | n+1=>by rw [sm,gG f n,sm];grind
theorem xS {f g:Nat→Rat}:∀ {n:Nat},(∀ i,i<n→f i≤g i)→sm f n≤sm g n
 | 0,_=>Rat.le_refl
 | n+1,h=>by
   have h1:=xS (n:=n) fun i hi=>h i (by omega);have h2:=h n (by omega);simp only [sm];grind
theorem IB {f:Nat→Rat}:∀ {n:Nat},(∀ i,i<n→0≤f i)→0≤sm f n
 | 0,_=>Rat.le_refl
 | n+1,h=>by
   have h1:=IB (n:=n) fun i hi=>h i (by omega);have h2:=h n (by omega);simp only [sm];grind
theorem BL {f:Nat→Rat} {n:Nat}:∀ {m:Nat},n≤m→(∀ i,0≤f i)→sm f n≤sm f m
 | 0,h,_=>by rw [show n=0 by omega];exact Rat.le_refl
 | m+1,h,h0=>by
   rcases Nat.lt_or_ge m n with h1 | h1
   ·rw [show n=m+1 by omega];exact Rat.le_refl
   ·have h2:=BL h1 h0;have h3:=h0 m;simp only [sm];grind
theorem kW {f:Nat→Rat} {n:Nat} (h:∀ i,i<n→f i=0):sm f n=0:=by
 have:=rG (f:=f) (n:=0) (m:=n) (Nat.zero_le _) fun i _ hi=>h i hi;rw [this];rfl
theorem iH {a b c d:Rat} (h1:a≤b) (h2:c≤d) (ha:0≤a) (hd:0≤d):a*c≤b*d:=by
 have e1:=Rat.mul_le_mul_of_nonneg_left h2 ha;have e2:=Rat.mul_le_mul_of_nonneg_right h1 hd
 grind
theorem rN {x y:Rat} (h0:0≤x) (h:x≤y):∀ n:Nat,x^n≤y^n
 | 0=>by rw [Rat.pow_zero,Rat.pow_zero];exact Rat.le_refl
 | n+1=>by
   rw [Rat.pow_succ,Rat.pow_succ];exact iH (rN h0 h n) h (cU h0 n) (by grind)
theorem one_le_pow {x:Rat} (h:1≤x):∀ n:Nat,1≤x^n
 | 0=>by rw [Rat.pow_zero];decide +kernel
 | n+1=>by
   rw [Rat.pow_succ];have:=iH (one_le_pow h n) h (by decide +kernel) (by grind)
   grind
theorem gA (x:Rat) (m:Nat):∀ n:Nat,x^(m+n)=x^m*x^n
 | 0=>by rw [Nat.add_zero,Rat.pow_zero];grind
 | n+1=>by rw [←Nat.add_assoc,Rat.pow_succ,Rat.pow_succ,gA x m n];grind
theorem Cc {x:Rat} (h:1≤x) {m n:Nat} (hmn:m≤n):x^m≤x^n:=by
 obtain ⟨k,rfl⟩:=Nat.exists_eq_add_of_le hmn;rw [gA];have h1:=one_le_pow h k;have h2:=cU (x:=x) (by grind) m;have:=Rat.mul_le_mul_of_nonneg_left h1 h2
 grind
theorem aN4:∀ g:Nat,((g:Rat)+1)*(3/4:Rat)^g≤3
 | 0=>by rw [Rat.pow_zero];decide +kernel
 | g+1=>by
   have key:∀ g:Nat,((g:Rat)/3+1)*(3/4:Rat)^g≤1:=by
    intro g
    induction g with
    | zero=>rw [Rat.pow_zero];decide +kernel
    | succ g ih=>
      have hg:(0:Rat)≤(g:Rat):=Rat.natCast_nonneg;have hp:=cU (x:=(3/4:Rat)) (by decide +kernel) g;rw [Rat.pow_succ,show ((g+1:Nat):Rat)=(g:Rat)+1 by exact_mod_cast rfl];have:=Rat.mul_nonneg hg hp;generalize (3/4:Rat)^g=p at *;generalize (g:Rat)=z at *
      grind
   have:=key (g+1);have hp:=cU (x:=(3/4:Rat)) (by decide +kernel) (g+1);generalize (3/4:Rat)^(g+1)=p at *;generalize ((g+1:Nat):Rat)=z at *
   grind
theorem Cm (x y:Rat):∀ n:Nat,(x*y)^n=x^n*y^n
 | 0=>by rw [Rat.pow_zero,Rat.pow_zero,Rat.pow_zero];grind
 | n+1=>by rw [Rat.pow_succ,Rat.pow_succ,Rat.pow_succ,Cm x y n];grind
theorem pow_mul' (x:Rat) (m:Nat):∀ n:Nat,x^(m*n)=(x^m)^n
 | 0=>by rw [Nat.mul_zero,Rat.pow_zero,Rat.pow_zero]
 | n+1=>by rw [Nat.mul_succ,gA,Rat.pow_succ,pow_mul' x m n]
theorem as7 (C:Rat) (hC:0≤C) (p:Nat) (e:Rat) (he:0<e):∃ g0:Nat,∀ g,g0≤g→C*((((p+1)*g:Nat):Rat)+1)^p*(3/4:Rat)^((p+1)*g)≤e:=by
 obtain ⟨g0,hg0⟩:∃ g0:Nat,C*(3*((p:Rat)+1))^p*3≤e*(g0:Rat):=by
  refine ⟨((C*(3*((p:Rat)+1))^p*3)/e).ceil.toNat,?_⟩;have h1:=Rat.le_ceil (x:=(C*(3*((p:Rat)+1))^p*3)/e);generalize hq:(C*(3*((p:Rat)+1))^p*3)/e=q at *;have h2:C*(3*((p:Rat)+1))^p*3=q*e:=by rw [←hq,Rat.div_mul_cancel (by grind)]
  rw [h2]
  have h3:((q.ceil:Int):Rat)≤((q.ceil.toNat:Nat):Rat):=by
   have:q.ceil≤((q.ceil.toNat:Nat):Int):=by omega
   have:=Rat.intCast_le_intCast.2 this
   exact_mod_cast this
  have:=Rat.mul_le_mul_of_nonneg_left (a:=q) (b:=((q.ceil.toNat:Nat):Rat)) (c:=e) (by grind) (by grind)
  grind
 refine ⟨g0,fun g hg=>?_⟩;have hgg:(g0:Rat)≤(g:Rat):=by exact_mod_cast hg
 have hx:(0:Rat)≤3/4:=by decide +kernel
 have hp0:(0:Rat)≤(p:Rat):=Rat.natCast_nonneg;have hg00:(0:Rat)≤(g:Rat):=Rat.natCast_nonneg;have hxg:=cU hx g;have h34:=aN4 g
 have e1:(3/4:Rat)^((p+1)*g)=((3/4:Rat)^g)^p*(3/4:Rat)^g:=by
  rw [show (p+1)*g=g*p+g by rw [Nat.succ_mul,Nat.mul_comm],gA,pow_mul']
 have e2:((((p+1)*g:Nat):Rat)+1)≤((p:Rat)+1)*((g:Rat)+1):=by
  have:((((p+1)*g:Nat)):Rat)=((p:Rat)+1)*(g:Rat):=by exact_mod_cast rfl
  rw [this];grind
 have h0:(0:Rat)≤((((p+1)*g:Nat):Rat)+1):=by have:(0:Rat)≤(((p+1)*g:Nat):Rat):=Rat.natCast_nonneg;grind
 have h1:((((p+1)*g:Nat):Rat)+1)*(3/4:Rat)^g≤3*((p:Rat)+1):=by
  have:=Rat.mul_le_mul_of_nonneg_right e2 hxg;have h5:=Rat.mul_le_mul_of_nonneg_left h34 (show (0:Rat)≤(p:Rat)+1 by grind)
  grind
 have h2:=rN (Rat.mul_nonneg h0 hxg) h1 p;rw [Cm] at h2
 have h3:(3/4:Rat)^g*(g0:Rat)≤3:=by
  have:=Rat.mul_le_mul_of_nonneg_left hgg hxg
  grind
 rw [e1];have hK:0≤C*(3*((p:Rat)+1))^p:=Rat.mul_nonneg hC (cU (by grind) p);generalize (3*((p:Rat)+1))^p=K at *;generalize ((((p+1)*g:Nat):Rat)+1)^p=A at *;generalize ((3/4:Rat)^g)^p=B at *;generalize (3/4:Rat)^g=x at *;have h4:C*(A*B)≤C*K:=Rat.mul_le_mul_of_nonneg_left h2 hC;have h5:=Rat.mul_le_mul_of_nonneg_right h4 hxg
 have h6:C*K*x≤e:=by
  rcases Nat.eq_zero_or_pos g0 with h | h
  ·subst h
   have:C*K≤0:=by have:((0:Nat):Rat)=0:=by decide +kernel
                  rw [this] at hg0;grind
   have:=Rat.mul_le_mul_of_nonneg_right this hxg
   grind
  ·have hpos:(0:Rat)<(g0:Rat):=by exact_mod_cast h
   refine Rat.le_of_mul_le_mul_right (c:=(g0:Rat)) ?_ hpos;have:=Rat.mul_le_mul_of_nonneg_left h3 hK
   grind
 grind
end Ord
namespace Ord
def Xf (f:Nat→Rat):Nat→Rat
 | 0=>0
 | k+1=>f k
def co (p:List Rat) (k:Nat):Rat:=p.getD k 0
def mU:List Rat→List Rat→List Rat
 | [],q=>q
 | a::p,[]=>a::p
 | a::p,b::q=>(a+b)::mU p q
def scS (c:Rat) (p:List Rat):List Rat:=p.map (c * ·)
def JP:List Rat→List Rat→List Rat
 | [],_=>[]
 | a::p,q=>mU (scS a q) (0::JP p q)
def GA:List Rat→List Rat
 | []=>[]
 | _::p=>mU p (0::GA p)
def dl (a:Rat) (k:Nat):Rat:=if k=0 then a else 0
def fP (t:Rat):List Rat→Nat→Rat
 | []=>fun _=>0
 | a::p=>fun k=>dl a k+t*fP t p k+Xf (fP t p) k
def XP (t:Rat):List Rat→List Rat
 | []=>[]
 | a::p=>mU [a] (mU (scS t (XP t p)) (0::XP t p))
theorem Mh (k:Nat):co [] k=0:=rfl
theorem Hp (a:Rat) (p:List Rat) (k:Nat):co (a::p) (k+1)=co p k:=rfl
theorem as3 (p:List Rat):∀ k,co (0::p) k=Xf (co p) k
 | 0=>rfl
 | _+1=>rfl
theorem ae9 (a:Rat):∀ k,co [a] k=dl a k
 | 0=>rfl
 | _+1=>rfl
theorem SA {p:List Rat} {k:Nat} (h:p.length≤k):co p k=0:=GV h
theorem Aw:∀ (p q:List Rat) (k:Nat),co (mU p q) k=co p k+co q k
 | [],q,k=>by rw [mU,Mh];grind
 | a::p,[],k=>by rw [mU,Mh];grind
 | a::p,b::q,0=>rfl
 | a::p,b::q,k+1=>by rw [mU,Hp,Hp,Hp,Aw p q k]
theorem UM (c:Rat):∀ (p:List Rat) (k:Nat),co (scS c p) k=c*co p k
 | [],k=>by show (0:Rat)=c*0;grind
 | a::p,0=>rfl
 | a::p,k+1=>UM c p k
theorem ak8 (f g:Nat→Rat):∀ k,Xf (fun k=>f k+g k) k=Xf f k+Xf g k
 | 0=>by show (0:Rat)=0+0;grind
 | _+1=>rfl
theorem aO3 (c:Rat) (f:Nat→Rat):∀ k,Xf (fun k=>c*f k) k=c*Xf f k
 | 0=>by show (0:Rat)=c*0;grind
 | _+1=>rfl
theorem fK {f g:Nat→Rat} (h:∀ k,f k=g k):∀ k,Xf f k=Xf g k
 | 0=>rfl
 | k+1=>h k
theorem GN:∀ k,Xf (fun _=>0) k=0
 | 0=>rfl
 | _+1=>rfl
theorem MY (k:Nat):dl 0 k=0:=by unfold dl;split<;>rfl
theorem ap1 (a b:Rat) (k:Nat):dl (a+b) k=dl a k+dl b k:=by unfold dl;split<;>grind
theorem aL6 (c a:Rat) (k:Nat):dl (c*a) k=c*dl a k:=by unfold dl;split<;>grind
theorem xL (t:Rat) (k:Nat):fP t [] k=0:=rfl
theorem dP (t a:Rat) (p:List Rat) (k:Nat):fP t (a::p) k=dl a k+t*fP t p k+Xf (fP t p) k:=rfl
theorem CV (t:Rat):∀ (p:List Rat),(∀ k,co p k=0)→∀ k,fP t p k=0
 | [],_,_=>rfl
 | a::p,h,k=>by
   have h0:a=0:=h 0;have ih:=CV t p fun k=>h (k+1);rw [dP,h0,MY,ih k,fK ih,GN];grind
theorem FZ (t:Rat):∀ (p q:List Rat),(∀ k,co p k=co q k)→∀ k,fP t p k=fP t q k
 | [],q,h,k=>by rw [CV t q fun k=>(h k).symm];rfl
 | a::p,[],h,k=>by rw [CV t (a::p) h];rfl
 | a::p,b::q,h,k=>by
   have h0:a=b:=h 0;have ih:=FZ t p q fun k=>h (k+1);rw [dP,dP,h0,ih k,fK ih]
theorem uO (t:Rat):∀ (p q:List Rat) (k:Nat),fP t (mU p q) k=fP t p k+fP t q k
 | [],q,k=>by rw [mU,xL];grind
 | a::p,[],k=>by rw [mU,xL];grind
 | a::p,b::q,k=>by
   have ih:=uO t p q;rw [mU,dP,dP,dP,ih k,fK ih,ak8,ap1];grind
theorem Ly (t c:Rat):∀ (p:List Rat) (k:Nat),fP t (scS c p) k=c*fP t p k
 | [],k=>by show (0:Rat)=c*0;grind
 | a::p,k=>by
   have ih:=Ly t c p;show fP t (c*a::scS c p) k=_;rw [dP,dP,ih k,fK ih,aO3,aL6];grind
theorem Sr (t:Rat) (p:List Rat) (k:Nat):fP t (0::p) k=t*fP t p k+Xf (fP t p) k:=by
 rw [dP,MY];grind
theorem Xc (t a:Rat) (k:Nat):fP t [a] k=dl a k:=by
 rw [dP,xL,fK (xL t),GN];grind
theorem Lc (t:Rat):∀ (p:List Rat) (k:Nat),co (XP t p) k=fP t p k
 | [],_=>rfl
 | a::p,k=>by
   have ih:=Lc t p;rw [XP,Aw,Aw,UM,as3,ae9,fK ih,ih k,dP];grind
theorem MP (t c:Rat):∀ (p:List Rat) (k:Nat),fP t (XP c p) k=fP (c+t) p k
 | [],_=>rfl
 | a::p,k=>by
   have ih:=MP t c p;rw [XP,uO,uO,Ly,Sr,Xc,fK ih,ih k,dP];grind
def pY (f g:Nat→Rat) (k:Nat):Rat:=sm (fun j=>f j*g (k-j)) (k+1)
theorem Ck (f g:Nat→Rat):∀ k,pY f g k=f 0*g k+Xf (pY (fun j=>f (j+1)) g) k
 | 0=>by show 0+f 0*g 0=f 0*g 0+0;grind
 | k+1=>by
   unfold pY;rw [gG];show _=f 0*g (k+1)+sm (fun j=>f (j+1)*g (k-j)) (k+1)
   congr 1
   exact bJ fun i _=>by rw [show k+1-(i+1)=k-i by omega]
theorem Gs {f f' g g':Nat→Rat} (h:∀ k,f k=f' k) (h':∀ k,g k=g' k) (k:Nat):pY f g k=pY f' g' k:=
 bJ fun i _=>by rw [h,h']
theorem Ng (f f' g:Nat→Rat) (k:Nat):pY (fun j=>f j+f' j) g k=pY f g k+pY f' g k:=by
 unfold pY;rw [←tX];exact bJ fun i _=>by grind
theorem ab4 (c:Rat) (f g:Nat→Rat) (k:Nat):pY (fun j=>c*f j) g k=c*pY f g k:=by
 unfold pY;rw [←dS];exact bJ fun i _=>by grind
theorem En (g:Nat→Rat) (k:Nat):pY (fun _=>0) g k=0:=kW fun i _=>by grind
theorem aI5 (f g:Nat→Rat) (k:Nat):pY (Xf f) g k=Xf (pY f g) k:=by
 rw [Ck];show 0*g k+Xf (pY f g) k=_
 grind
theorem at2 (a:Rat) (g:Nat→Rat) (k:Nat):pY (dl a) g k=a*g k:=by
 rw [Ck]
 have:Xf (pY (fun j=>dl a (j+1)) g) k=0:=by
  rw [fK (g:=fun _=>0) (fun k=>by
   show pY (fun j=>dl a (j+1)) g k=0;exact En g k),GN]
 rw [this,show dl a 0=a from rfl];grind
theorem Wl (t a:Rat) (p:List Rat) (g:Nat→Rat) (k:Nat):pY (fP t (a::p)) g k=a*g k+t*pY (fP t p) g k+Xf (pY (fP t p) g) k:=by
 have e:pY (fP t (a::p)) g k=pY (fun j=>(fun i=>dl a i+(fun i=>t*fP t p i) i) j+Xf (fP t p) j) g k:=rfl;rw [e,Ng,Ng,at2,ab4,aI5]
theorem Oh (t:Rat) (q:List Rat):∀ (p:List Rat) (k:Nat),fP t (JP p q) k=pY (fP t p) (fP t q) k
 | [],k=>by rw [JP,xL];exact (En _ _).symm
 | a::p,k=>by
   have ih:=Oh t q p;rw [JP,uO,Ly,Sr,Wl,ih k,fK ih];grind
theorem TD (q:List Rat):∀ (p:List Rat) (k:Nat),co (JP p q) k=pY (co p) (co q) k
 | [],k=>by rw [JP,Mh];exact (En _ _).symm
 | a::p,k=>by
   have ih:=TD q p;rw [JP,Aw,UM,as3,fK ih,Ck];rfl
def dF (f:Nat→Rat) (k:Nat):Rat:=((k:Rat)+1)*f (k+1)
theorem Jm (k:Nat):((k+1:Nat):Rat)=(k:Rat)+1:=by exact_mod_cast rfl
theorem Ox (a:Rat) (f r:Nat→Rat) (t:Rat) (hf:∀ k,f k=dl a k+t*r k+Xf r k):∀ k,dF f k=t*dF r k+(r k+Xf (dF r) k)
 | 0=>by
   unfold dF;rw [hf];show _*(0+t*r 1+r 0)=t*_+(r 0+0);have:((0:Nat):Rat)=0:=by decide +kernel
   rw [this];grind
 | k+1=>by
   unfold dF;rw [hf];show _*(0+t*r (k+2)+r (k+1))=t*_+(r (k+1)+((k:Rat)+1)*r (k+1));rw [Jm];grind
theorem NO (t:Rat):∀ (p:List Rat) (k:Nat),fP t (GA p) k=dF (fP t p) k
 | [],k=>by show (0:Rat)=_*0;grind
 | a::p,k=>by
   have ih:=NO t p;rw [GA,uO,Sr,Ox a (fP t (a::p)) (fP t p) t (fun k=>dP t a p k),ih k,fK ih];grind
theorem TU:∀ (p:List Rat) (k:Nat),co (GA p) k=dF (co p) k
 | [],k=>by show (0:Rat)=_*0;grind
 | a::p,k=>by
   have ih:=TU p
   rw [GA,Aw,as3,Ox a (co (a::p)) (co p) 0 (fun k=>by
    cases k with
    | zero=>show a=a+0*co p 0+0;grind
    | succ k=>show co p k=0+0*co p (k+1)+co p k;grind),fK ih];grind
def kL (p:List Rat):Nat→List Rat
 | 0=>p
 | i+1=>GA (kL p i)
def dU (i:Nat) (f:Nat→Rat) (k:Nat):Rat:=f (k+i)*((bL ((k+i:Nat):Int) i:Int):Rat)
theorem HZ (f:Nat→Rat) (k:Nat):dU 0 f k=f k:=by
 unfold dU;show f k*((1:Int):Rat)=_;have:((1:Int):Rat)=1:=by decide +kernel
 rw [this];grind
theorem JA (i:Nat) (f:Nat→Rat) (k:Nat):dF (dU i f) k=dU (i+1) f k:=by
 unfold dF dU;rw [show k+1+i=k+(i+1) by omega,bL,Ac];have:(((k+(i+1):Nat):Int)-(i:Int))=(k:Int)+1:=by omega
 rw [this,show (((k:Int)+1:Int):Rat)=(k:Rat)+1 by exact_mod_cast rfl];grind
theorem Js {f g:Nat→Rat} (h:∀ k,f k=g k) (k:Nat):dF f k=dF g k:=by unfold dF;rw [h]
theorem uL (t:Rat) (p:List Rat):∀ (i k:Nat),fP t (kL p i) k=dU i (fP t p) k
 | 0,k=>(HZ _ k).symm
 | i+1,k=>by rw [kL,NO,Js (uL t p i),JA]
theorem tO (p:List Rat):∀ (i k:Nat),co (kL p i) k=dU i (co p) k
 | 0,k=>(HZ _ k).symm
 | i+1,k=>by rw [kL,TU,Js (tO p i),JA]
def gH (f:Nat→Rat) (N:Nat) (s:Rat):Rat:=sm (fun k=>f k*s^k) N
theorem NV (t s:Rat):∀ (p:List Rat) (N:Nat),p.length≤N→gH (fP t p) N s=gH (co p) p.length (t+s)
 | [],N,_=>kW fun i _=>by show (0:Rat)*_=0;grind
 | a::p,N+1,h=>by
   have hl:p.length≤N:=by simp at h;omega
   have h1:=NV t s p N hl;have h2:=NV t s p (N+1) (by omega)
   have e:gH (fP t (a::p)) (N+1) s=gH (dl a) (N+1) s+t*gH (fP t p) (N+1) s+gH (Xf (fP t p)) (N+1) s:=by
    unfold gH;rw [←dS,←tX,←tX];exact bJ fun i _=>by rw [dP];grind
   have e1:gH (dl a) (N+1) s=a:=by
    unfold gH;rw [gG,kW fun i _=>by show (0:Rat)*_=0;grind];show a*s^0+0=a;rw [Rat.pow_zero];grind
   have e2:gH (Xf (fP t p)) (N+1) s=s*gH (fP t p) N s:=by
    unfold gH;rw [gG,←dS];show 0*s^0+_=_;rw [show ∀ x:Rat,0*s^0+x=x from fun x=>by grind];exact bJ fun i _=>by show fP t p i*s^(i+1)=_;rw [Rat.pow_succ];grind
   have e3:gH (co (a::p)) (a::p).length (t+s)=a+(t+s)*gH (co p) p.length (t+s):=by
    unfold gH;rw [List.length_cons,gG,←dS];show a*(t+s)^0+_=_;rw [Rat.pow_zero]
    congr 1
    ·grind
    ·exact bJ fun i _=>by show co p i*(t+s)^(i+1)=_;rw [Rat.pow_succ];grind
   rw [e,e1,e2,e3,h1,h2];grind
def kC (q:List (List Rat)) (m:Nat) (x:Nat→Rat) (s:Nat):Rat:=sm (fun i=>pY (co (q.getD i [])) (dU i x) s) (m+1)
def PA (q:List (List Rat)) (P:List Rat):Nat→List Rat
 | 0=>[]
 | i+1=>mU (PA q P i) (JP (q.getD i []) (kL P i))
theorem RU (q:List (List Rat)) (P:List Rat) (s:Nat):∀ i,co (PA q P i) s=sm (fun i=>pY (co (q.getD i [])) (dU i (co P)) s) i
 | 0=>rfl
 | i+1=>by rw [PA,Aw,RU q P s i,TD,sm,Gs (fun _=>rfl) (tO P i)]
theorem NI (t:Rat) {q q':List (List Rat)} (h:∀ i k,co (q'.getD i []) k=fP t (q.getD i []) k) (P:List Rat) (s:Nat):∀ i,fP t (PA q P i) s=sm (fun i=>pY (co (q'.getD i [])) (dU i (fP t P)) s) i
 | 0=>rfl
 | i+1=>by rw [PA,uO,NI t h P s i,Oh,sm,Gs (fun k=>(h i k).symm) (uL t P i)]
theorem Zl (q:List (List Rat)) (m:Nat) (P:List Rat) (s:Nat):co (PA q P (m+1)) s=kC q m (co P) s:=RU q P s (m+1)
theorem aq1 (t:Rat) {q q':List (List Rat)} (h:∀ i k,co (q'.getD i []) k=fP t (q.getD i []) k) (m:Nat) (P:List Rat) (s:Nat):fP t (PA q P (m+1)) s=kC q' m (fP t P) s:=NI t h P s (m+1)
theorem VU (q:List (List Rat)) (m:Nat) (x y:Nat→Rat) (s:Nat):kC q m (fun k=>x k-y k) s=kC q m x s-kC q m y s:=by
 unfold kC pY
 have:∀ (f g:Nat→Rat) n,sm (fun i=>f i-g i) n=sm f n-sm g n:=by
  intro f g n
  induction n with
  | zero=>simp only [sm];grind
  | succ n ih=>simp only [sm,ih];grind
 rw [←this];refine bJ fun i _=>?_;rw [←this];refine bJ fun j _=>?_;unfold dU;grind
theorem RX (q:List (List Rat)) (m:Nat) (c:Rat) (x:Nat→Rat) (s:Nat):kC q m (fun k=>c*x k) s=c*kC q m x s:=by
 unfold kC;rw [←dS];refine bJ fun i _=>?_;unfold pY;rw [←dS];refine bJ fun j _=>?_;unfold dU;grind
theorem YY (q:List (List Rat)) (m:Nat) (x y:Nat→Rat) (s:Nat):kC q m (fun k=>x k+y k) s=kC q m x s+kC q m y s:=by
 unfold kC;rw [←tX];refine bJ fun i _=>?_;unfold pY;rw [←tX];refine bJ fun j _=>?_;unfold dU;grind
theorem Rc (q:List (List Rat)) (m:Nat) (c:Nat→Rat) (x:Nat→Nat→Rat) (s:Nat):∀ n,kC q m (fun k=>sm (fun u=>c u*x u k) n) s=sm (fun u=>c u*kC q m (x u) s) n
 | 0=>by
   show kC q m (fun k=>0) s=0;have:=RX q m 0 (fun _=>0) s;rw [show (fun k:Nat=>(0:Rat)*(fun _=>0) k)=fun k=>0 by funext;grind] at this;rw [this];grind
 | n+1=>by
   show kC q m (fun k=>sm (fun u=>c u*x u k) n+c n*x n k) s=_;rw [YY q m (fun k=>sm (fun u=>c u*x u k) n) (fun k=>c n*x n k),Rc q m c x s n,RX];rfl
def nW (th:Rat):List Rat→Rat
 | []=>0
 | a::p=>a.abs+th*nW th p
theorem pB (x:Rat):0≤x.abs:=by unfold Rat.abs;split<;>grind
theorem ZE {th:Rat} (h:0≤th):∀ p,0≤nW th p
 | []=>Rat.le_refl
 | a::p=>by
   have:=Rat.mul_nonneg h (ZE h p);have:=pB a;rw [nW];grind
theorem GG {T t τ:Rat} (ht:Bo T t) (h0:0≤τ):∀ (p:List Rat) (k:Nat),Bo (nW (T+τ) p) (fP t p k*τ^k)
 | [],k=>by
   rw [show fP t [] k*τ^k=0 by show (0:Rat)*_=0;grind];exact Bo.zero Rat.le_refl
 | a::p,0=>by
   have ih:=GG ht h0 p 0;have h1:=ht.mul ih;have hn:=ZE (th:=T+τ) (by have:=ht.nn;grind) p;have h2:=Rat.mul_nonneg h0 hn
   have e:fP t (a::p) 0*τ^0=a+t*(fP t p 0*τ^0):=by
    rw [dP];show (a+t*fP t p 0+0)*_=_;rw [Rat.pow_zero];grind
   rw [e,nW];exact ((Bo.abs a).add h1).mono (by grind)
 | a::p,k+1=>by
   have ih1:=GG ht h0 p (k+1);have ih0:=GG ht h0 p k;have h1:=(ht.mul ih1).add ((Bo.self h0).mul ih0)
   have e:fP t (a::p) (k+1)*τ^(k+1)=t*(fP t p (k+1)*τ^(k+1))+τ*(fP t p k*τ^k):=by
    rw [dP];show (0+t*fP t p (k+1)+fP t p k)*_=_;rw [Rat.pow_succ];grind
   have:=pB a;rw [e,nW];exact h1.mono (by grind)
theorem aa7 (th:Rat):∀ (p:List Rat),nW th p=sm (fun k=>(co p k).abs*th^k) p.length
 | []=>rfl
 | a::p=>by
   rw [nW,aa7 th p,List.length_cons,gG,←dS];show a.abs+_=a.abs*th^0+_;rw [Rat.pow_zero]
   congr 1
   ·grind
   ·exact bJ fun i _=>by show _=(co p i).abs*th^(i+1);rw [Rat.pow_succ];grind
theorem aJ2 {th β:Rat} (p:List Rat) {M:Nat} (h0:∀ k,M≤k→co p k=0) (hb:∀ k,k<M→(co p k).abs*th^k≤β) (hβ:0≤β):nW th p≤(M:Rat)*β:=by
 rw [aa7];have habs0:∀ k,M≤k→(co p k).abs*th^k=0:=fun k hk=>by rw [h0 k hk,show (0:Rat).abs=0 by decide +kernel];grind
 rcases Nat.le_total M p.length with h | h
 ·rw [rG h fun i h1 _=>habs0 i h1,←yT];exact xS hb
 ·have h1:=xS (f:=fun k=>(co p k).abs*th^k) (g:=fun _=>β) (n:=p.length) fun i hi=>hb i (by omega);have h2:=BL (f:=fun _=>β) h fun _=>hβ;rw [yT β M] at h2
  grind
end Ord
namespace Ord
def fr (n i:Nat):Rat:=((bL (n:Int) i:Int):Rat)
theorem Ji (z:Int):∀ i:Nat,bL (z+1) (i+1)=bL z i*(z+1)
 | 0=>by simp [bL]
 | i+1=>by
   rw [bL,Ji z i,bL];have:z+1-((i+1:Nat):Int)=z-i:=by omega
   rw [this,Int.mul_assoc,Int.mul_assoc,Int.mul_comm (z+1)]
theorem yS (n:Nat):fr n 0=1:=by
 show ((1:Int):Rat)=1;decide +kernel
theorem Kj (n i:Nat):fr (n+1) (i+1)=fr n i*((n:Rat)+1):=by
 unfold fr;rw [show ((n+1:Nat):Int)=(n:Int)+1 by omega,Ji,Ac,Rat.intCast_add];rfl
theorem BF:∀ i:Nat,fr 0 (i+1)=0
 | 0=>by decide +kernel
 | i+1=>by
   have:=BF i;unfold fr at this ⊢;rw [bL,Ac,this];grind
theorem wV:∀ n i:Nat,0≤fr n i
 | n,0=>by rw [yS];decide +kernel
 | 0,i+1=>by rw [BF];exact Rat.le_refl
 | n+1,i+1=>by
   rw [Kj];exact Rat.mul_nonneg (wV n i) (by have:(0:Rat)≤(n:Rat):=Rat.natCast_nonneg;grind)
theorem qF {a b:Nat} (h:a≤b):(a:Rat)≤(b:Rat):=by exact_mod_cast h
theorem iM (a:Nat):(0:Rat)≤(a:Rat):=Rat.natCast_nonneg
theorem Ao:∀ n i:Nat,fr n i≤(n:Rat)^i
 | n,0=>by rw [yS,Rat.pow_zero];exact Rat.le_refl
 | 0,i+1=>by rw [BF];exact cU (iM 0) _
 | n+1,i+1=>by
   rw [Kj,Jm,Rat.pow_succ];have h1:=Ao n i;have h0:=iM n;have h2:=rN h0 (show (n:Rat)≤(n:Rat)+1 by grind) i;exact Rat.mul_le_mul_of_nonneg_right (by grind) (by grind)
theorem NH:∀ {a b:Nat} (i:Nat),a≤b→fr a i≤fr b i
 | _,_,0,_=>by rw [yS,yS];exact Rat.le_refl
 | 0,b,i+1,_=>by rw [BF];exact wV _ _
 | a+1,b+1,i+1,h=>by
   rw [Kj,Kj];have h1:=NH (a:=a) (b:=b) i (by omega);have h2:=qF (show a≤b by omega);have h3:=iM a;exact iH h1 (by grind) (wV _ _) (by grind)
theorem GC (s i:Nat):∀ k,fr (s+i) i*((s:Rat)+1)^k≤fr (s+i+k) (i+k)
 | 0=>by rw [Rat.pow_zero];have:fr (s+i) i*1=fr (s+i) i:=by grind
         rw [this];exact Rat.le_refl
 | k+1=>by
   have ih:=GC s i k;have h0:=iM s;rw [Rat.pow_succ,show s+i+(k+1)=s+i+k+1 by omega,show i+(k+1)=i+k+1 by omega,Kj];have h1:(s:Rat)+1≤((s+i+k:Nat):Rat)+1:=by have:=qF (show s≤s+i+k by omega);grind
   have h2:=iH ih h1 (Rat.mul_nonneg (wV _ _) (cU (by grind) k)) (by grind)
   grind
theorem Sh (s m:Nat):1≤fr (s+m) m:=by
 have h:=GC s 0 m;rw [yS,Nat.add_zero,Nat.zero_add] at h;have:=one_le_pow (x:=(s:Rat)+1) (by have:=iM s;grind) m
 grind
def mI (p:List Rat) (m i:Nat) (aF N:Rat) (k:Nat):Rat:=if i<m∨0<k then (p.getD k 0).abs*aF^(m+k-i)/N^(m-i) else 0
theorem FW (p:List Rat) (m i:Nat) (aF N x:Rat):∀ K,fR p m i aF N x K=x+sm (mI p m i aF N) K
 | 0=>by show x=x+0;grind
 | K+1=>by
   rw [fR,sm,FW p m i aF N x K,show mI p m i aF N K=if i<m∨0<K then (p.getD K 0).abs*aF^(m+K-i)/N^(m-i) else 0 from rfl];split<;>grind
theorem fH (q:List (List Rat)) (m:Nat) (aF N:Rat):∀ j,bK q m aF N j=sm (fun i=>sm (mI (q.getD i []) m i aF N) (q.getD i []).length) j
 | 0=>rfl
 | j+1=>by rw [bK,FW,fH q m aF N j,sm]
theorem BR {x p:Rat} (hx:0≤x) (hp:0<p):0≤x/p:=by
 have hp0:p≠0:=by grind
 refine Rat.le_of_mul_le_mul_right (c:=p) ?_ hp;rw [Rat.div_mul_cancel hp0];grind
theorem BP {a b P Q:Rat} (hP:0<P) (hQ:0<Q) (h:a*Q≤b*P):a/P≤b/Q:=by
 have h1:a/P*P=a:=Rat.div_mul_cancel (by grind);have h2:b/Q*Q=b:=Rat.div_mul_cancel (by grind);refine Rat.le_of_mul_le_mul_left (c:=P*Q) ?_ (Rat.mul_pos hP hQ);have e1:P*Q*(a/P)=a*Q:=by rw [show P*Q*(a/P)=a/P*P*Q by grind,h1]
 have e2:P*Q*(b/Q)=b*P:=by rw [show P*Q*(b/Q)=b/Q*Q*P by grind,h2]
 rw [e1,e2];exact h
theorem aa6 {p:List Rat} {m i:Nat} {aF N:Rat} (h0:0≤aF) (hN:0<N) (k:Nat):0≤mI p m i aF N k:=by
 unfold mI;split
 ·exact BR (Rat.mul_nonneg (pB _) (cU h0 _)) (Rat.pow_pos hN)
 ·exact Rat.le_refl
theorem aS5 {p:List Rat} {m i:Nat} {aF N:Rat} {k:Nat} (h:p.length≤k):mI p m i aF N k=0:=by
 unfold mI;split
 ·rw [GV h,show (0:Rat).abs=0 by decide +kernel];grind
 ·rfl
theorem ac6 {p:List Rat} {m i:Nat} {aF N:Rat} (h0:0≤aF) (hN:0<N) (K:Nat):sm (mI p m i aF N) K≤sm (mI p m i aF N) p.length:=by
 rcases Nat.le_total K p.length with h | h
 ·exact BL h fun k=>aa6 h0 hN k
 ·rw [rG h fun k hk _=>aS5 hk];exact Rat.le_refl
theorem zV {q:List (List Rat)} {m:Nat} {aF N N':Rat} (h0:0≤aF) (hN:0<N) (h:N≤N') (j:Nat):bK q m aF N' j≤bK q m aF N j:=by
 rw [fH,fH];refine xS fun i _=>xS fun k _=>?_;unfold mI;split
 ·refine BP (Rat.pow_pos (by grind)) (Rat.pow_pos hN) ?_;exact Rat.mul_le_mul_of_nonneg_left (rN (by grind) h _) (Rat.mul_nonneg (pB _) (cU h0 _))
 ·exact Rat.le_refl
theorem OK {q:List (List Rat)} {m:Nat} {aF rho' N:Rat} (h0:0≤aF) (hN:0<N) (h:aF≤rho') (j:Nat):bK q m aF N j≤bK q m rho' N j:=by
 rw [fH,fH];refine xS fun i _=>xS fun k _=>?_;unfold mI;split
 ·refine BP (Rat.pow_pos hN) (Rat.pow_pos hN) ?_;exact Rat.mul_le_mul_of_nonneg_right (Rat.mul_le_mul_of_nonneg_left (rN h0 h _) (pB _)) (cU (by grind) _)
 ·exact Rat.le_refl
theorem MU {q:List (List Rat)} {m:Nat} {aF N:Rat} (h0:0≤aF) (hN:0<N) (j:Nat):0≤bK q m aF N j:=by
 rw [fH];exact IB fun i _=>IB fun k _=>aa6 h0 hN k
theorem Bo.cancel {c A y:Rat} (hc:0<c) (h:Bo (c*A) (c*y)):Bo A y:=by
 obtain ⟨h1,h2⟩:=h
 constructor
 ·exact Rat.le_of_mul_le_mul_left (c:=c) (by grind) hc
 ·exact Rat.le_of_mul_le_mul_left (c:=c) (by grind) hc
theorem Bo.Xb {l A B y:Rat} (hl:l≠0) (h:Bo A (l*y)) (hA:A≤l.abs*B):Bo B y:=by
 have h1:=h.mono hA;unfold Rat.abs at h1;split at h1
 ·exact Bo.cancel (by grind) h1
 ·have h2:Bo ((-l)*B) ((-l)*y):=by have:=h1.neg;rwa [show -(l*y)=(-l)*y by grind] at this
  exact Bo.cancel (by grind) h2
theorem Zg {τ Z:Rat} (hτ:0≤τ) {i k s m:Nat} (hi:i≤m) (hk:k≤s) (c y:Rat) (hZ:Bo Z (y*τ^(s-k+i))) :
  Bo (fr (s+m) m*(c.abs*τ^(m+k-i)/((s:Rat)+1)^(m-i))*Z) (c*(y*fr (s-k+i) i)*τ^(s+m)):=by
 have hs:=iM s;have hP:(0:Rat)<((s:Rat)+1)^(m-i):=Rat.pow_pos (by grind);have e:τ^(s+m)=τ^(s-k+i)*τ^(m+k-i):=by rw [←gA];congr 1;omega
 have h:=(((Bo.abs c).mul hZ).mul (Bo.self (wV (s-k+i) i))).mul (Bo.self (cU hτ (m+k-i)))
 have hf:fr (s-k+i) i*((s:Rat)+1)^(m-i)≤fr (s+m) m:=by
  have h1:=GC s i (m-i);rw [show s+i+(m-i)=s+m by omega,show i+(m-i)=m by omega] at h1;have h2:=Rat.mul_le_mul_of_nonneg_right (NH i (show s-k+i≤s+i by omega)) (show 0≤((s:Rat)+1)^(m-i) by grind)
  grind
 have hr:c.abs*τ^(m+k-i)/((s:Rat)+1)^(m-i)*((s:Rat)+1)^(m-i)=c.abs*τ^(m+k-i):=Rat.div_mul_cancel (by grind);have hr0:=BR (Rat.mul_nonneg (pB c) (cU hτ (m+k-i))) hP;rw [e];have e2:c*(y*fr (s-k+i) i)*(τ^(s-k+i)*τ^(m+k-i))=c*(y*τ^(s-k+i))*fr (s-k+i) i*τ^(m+k-i):=by grind
 rw [e2];refine h.mono ?_;have hZ0:=hZ.nn;generalize c.abs*τ^(m+k-i)/((s:Rat)+1)^(m-i)=r at *;generalize ((s:Rat)+1)^(m-i)=P at *;generalize fr (s-k+i) i=f at *;generalize fr (s+m) m=F at *;generalize τ^(m+k-i)=u at *;have h1:=Rat.mul_le_mul_of_nonneg_right hf (Rat.mul_nonneg hr0 hZ0)
 have e3:c.abs*Z*f*u=f*P*(r*Z):=by
  have:c.abs*Z*f*u=f*Z*(c.abs*u):=by grind
  rw [this,←hr];grind
 rw [e3];grind
def oT (q:List (List Rat)) (m:Nat) (x:Nat→Rat) (s i k:Nat):Rat:=if i<m∨0<k then co (q.getD i []) k*dU i x (s-k) else 0
theorem ad8 (q:List (List Rat)) (m:Nat) (x:Nat→Rat) (s:Nat):kC q m x s=sm (fun i=>sm (oT q m x s i) (s+1)) (m+1)+co (q.getD m []) 0*dU m x s:=by
 unfold kC;rw [sm,sm]
 have e1:sm (fun i=>pY (co (q.getD i [])) (dU i x) s) m=sm (fun i=>sm (oT q m x s i) (s+1)) m:=bJ fun i hi=>bJ fun k _=>by
  unfold oT;rw [if_pos (.inl hi)]
 have e2:pY (co (q.getD m [])) (dU m x) s=sm (oT q m x s m) (s+1)+co (q.getD m []) 0*dU m x s:=by
  unfold pY;rw [gG,gG]
  have e3:sm (fun i=>oT q m x s m (i+1)) s=sm (fun i=>co (q.getD m []) (i+1)*dU m x (s-(i+1))) s:=bJ fun k _=>by
   unfold oT;rw [if_pos (.inr (by omega))]
  rw [e3,show oT q m x s m 0=0 by unfold oT;rw [if_neg (by omega)],Nat.sub_zero];grind
 rw [e1,e2];grind
theorem maj {q:List (List Rat)} {m D s:Nat} {τ Z W:Rat} {x:Nat→Rat} (hτ:0≤τ) (hZ0:0≤Z) (hW:Bo W (kC q m x s*τ^(s+m))) (hD:∀ i k,D<k→co (q.getD i []) k=0)
  (hZ:∀ j,1≤j→j≤m+D→j≤s+m→Bo Z (x (s+m-j)*τ^(s+m-j))) :
  Bo (bK q m τ ((s:Rat)+1) (m+1)*Z+W) (co (q.getD m []) 0*(x (s+m)*τ^(s+m))):=by
 have hs:=iM s;have hN:(0:Rat)<(s:Rat)+1:=by grind
 have hF:=Sh s m
 have hrow:∀ i,i<m+1→Bo (fr (s+m) m*sm (mI (q.getD i []) m i τ ((s:Rat)+1)) (q.getD i []).length*Z) (sm (oT q m x s i) (s+1)*τ^(s+m)):=by
  intro i hi
  have h1:Bo (sm (fun k=>fr (s+m) m*mI (q.getD i []) m i τ ((s:Rat)+1) k*Z) (s+1)) (sm (fun k=>τ^(s+m)*oT q m x s i k) (s+1)):=Bo.sm fun k hk=>by
   unfold oT mI;split
   ·rename_i hc;by_cases h0:co (q.getD i []) k=0
    ·rw [h0];rw [show τ^(s+m)*(0*dU i x (s-k))=0 by grind];have:(List.getD (q.getD i []) k 0)=0:=h0;rw [this];refine Bo.zero ?_;rw [show (0:Rat).abs=0 by decide +kernel,show (0:Rat)*τ^(m+k-i)/((s:Rat)+1)^(m-i)=0 by rw [Rat.zero_mul];grind];grind
    ·have hkD:k≤D:=Nat.le_of_not_lt fun h=>h0 (hD i k h);have hz:=hZ (m+k-i) (by omega) (by omega) (by omega);rw [show s+m-(m+k-i)=s-k+i by omega] at hz;have h2:=Zg hτ (show i≤m by omega) (show k≤s by omega) (co (q.getD i []) k) (x (s-k+i)) hz
     have e:τ^(s+m)*(co (q.getD i []) k*dU i x (s-k))=co (q.getD i []) k*(x (s-k+i)*fr (s-k+i) i)*τ^(s+m):=by
      unfold dU fr;grind
     rw [e];exact h2
   ·rw [show τ^(s+m)*0=0 by grind];exact Bo.zero (by grind)
  rw [dS] at h1
  have e:sm (fun k=>fr (s+m) m*mI (q.getD i []) m i τ ((s:Rat)+1) k*Z) (s+1)=fr (s+m) m*Z*sm (mI (q.getD i []) m i τ ((s:Rat)+1)) (s+1):=by
   rw [←dS];exact bJ fun k _=>by grind
  rw [e] at h1;have h2:=ac6 (p:=q.getD i []) (m:=m) (i:=i) hτ hN (s+1);have h3:=Rat.mul_le_mul_of_nonneg_left h2 (show 0≤fr (s+m) m*Z from Rat.mul_nonneg (wV _ _) hZ0);rw [show sm (oT q m x s i) (s+1)*τ^(s+m)=τ^(s+m)*sm (oT q m x s i) (s+1) by grind];exact h1.mono (by grind)
 have hall:=Bo.sm hrow
 have e1:sm (fun i=>fr (s+m) m*sm (mI (q.getD i []) m i τ ((s:Rat)+1)) (q.getD i []).length*Z) (m+1)=fr (s+m) m*(bK q m τ ((s:Rat)+1) (m+1)*Z):=by
  rw [fH];have:sm (fun i=>fr (s+m) m*sm (mI (q.getD i []) m i τ ((s:Rat)+1)) (q.getD i []).length*Z) (m+1)=sm (fun i=>fr (s+m) m*Z*sm (mI (q.getD i []) m i τ ((s:Rat)+1)) (q.getD i []).length) (m+1):=bJ fun i _=>by grind
  rw [this,dS];grind
 have e2:sm (fun i=>sm (oT q m x s i) (s+1)*τ^(s+m)) (m+1)=sm (fun i=>sm (oT q m x s i) (s+1)) (m+1)*τ^(s+m):=by
  have:sm (fun i=>sm (oT q m x s i) (s+1)*τ^(s+m)) (m+1)=sm (fun i=>τ^(s+m)*sm (oT q m x s i) (s+1)) (m+1):=bJ fun i _=>by grind
  rw [this,dS];grind
 rw [e1,e2] at hall;have hL:=ad8 q m x s;have h:=hW.sub hall
 have e3:kC q m x s*τ^(s+m)-sm (fun i=>sm (oT q m x s i) (s+1)) (m+1)*τ^(s+m)=fr (s+m) m*(co (q.getD m []) 0*(x (s+m)*τ^(s+m))):=by
  rw [hL];unfold dU fr;grind
 rw [e3] at h;refine Bo.cancel (c:=fr (s+m) m) (by grind) (h.mono ?_);have hW0:=hW.nn;have:=Rat.mul_le_mul_of_nonneg_right hF hW0
 grind
end Ord
namespace Ord
structure yV (q:List (List Rat)) (m D:Nat) (lead aF:Rat) (st:Nat):Prop where
 hl:co (q.getD m []) 0=lead
 l0:lead≠0
 r0:0<aF
 hD:∀ i k,D<k→co (q.getD i []) k=0
 hs:m+D+m≤st
 start:bK q m aF (((st-m:Nat):Rat)+1) (m+1)≤lead.abs
 rad:jU ((q.getD m []).drop 1) aF ((q.getD m []).length-1)+jU ((q.getD m []).drop 1) aF ((q.getD m []).length-1)≤lead.abs
theorem BO {x:Rat} (h:x≠0):0<x.abs:=by unfold Rat.abs;split<;>grind
section
variable {q:List (List Rat)} {m D st:Nat} {lead aF:Rat}
theorem yV.step (R:yV q m D lead aF st) {x:Nat→Rat} {s:Nat} {τ Z W th:Rat} (hτ:0≤τ) (hth:bK q m τ ((s:Rat)+1) (m+1)≤lead.abs*th) (hZ0:0≤Z) (hW:Bo (lead.abs*W) (kC q m x s*τ^(s+m)))
  (hZ:∀ j,1≤j→j≤m+D→j≤s+m→Bo Z (x (s+m-j)*τ^(s+m-j))):Bo (th*Z+W) (x (s+m)*τ^(s+m)):=by
 have h:=maj hτ hZ0 hW R.hD hZ;rw [R.hl] at h;refine Bo.Xb R.l0 h ?_;have:=Rat.mul_le_mul_of_nonneg_right hth hZ0
 grind
theorem yV.bounded (R:yV q m D lead aF st) {x:Nat→Rat} (hx:∀ s,kC q m x s=0) {b:Rat} (hb0:0≤b) (hb:∀ n,st-(m+D)≤n→n<st→Bo b (x n*aF^n)):∀ n,st-(m+D)≤n→Bo b (x n*aF^n):=by
 intro n
 induction n using Nat.strongRecOn with
 | _ n ih=>
   intro hn;rcases Nat.lt_or_ge n st with h | h
   ·exact hb n hn h
   ·have hs:=R.hs;obtain ⟨s,rfl⟩:∃ s,n=s+m:=⟨n-m,by omega⟩
    have hth:bK q m aF ((s:Rat)+1) (m+1)≤lead.abs*1:=by
     have h1:=zV (q:=q) (m:=m) (aF:=aF) (N:=((st-m:Nat):Rat)+1) (N':=(s:Rat)+1) (by have:=R.r0;grind) (by have:=iM (st-m);grind) (by have:=qF (show st-m≤s by omega);grind) (m+1);have h2:=R.start
     grind
    have h3:=R.step (x:=x) (s:=s) (τ:=aF) (Z:=b) (W:=0) (th:=1) (by have:=R.r0;grind) hth hb0 (by rw [hx s,Rat.zero_mul];exact Bo.zero (by grind)) fun j h1 h2 h3=>ih _ (by omega) (by omega);exact h3.mono (by grind)
theorem PO {q:List (List Rat)} {m:Nat} {aF N:Rat} (h0:0≤aF) (hN:1≤N):bK q m aF N (m+1)≤bK q m aF 1 m/N+jU ((q.getD m []).drop 1) aF ((q.getD m []).length-1):=by
 have hNp:0<N:=by grind
 rw [fH,fH,sm]
 have e1:sm (fun i=>sm (mI (q.getD i []) m i aF N) (q.getD i []).length) m≤sm (fun i=>sm (mI (q.getD i []) m i aF 1) (q.getD i []).length) m/N:=by
  have:sm (fun i=>sm (mI (q.getD i []) m i aF 1) (q.getD i []).length) m/N=sm (fun i=>sm (fun k=>N⁻¹*mI (q.getD i []) m i aF 1 k) (q.getD i []).length) m:=by
   rw [Rat.div_def,Rat.mul_comm,←dS];exact bJ fun i _=>(dS _ _ _).symm
  rw [this];refine xS fun i hi=>xS fun k _=>?_;unfold mI;rw [if_pos (.inl hi),if_pos (.inl hi)]
  have h1:(1:Rat)^(m-i)=1:=by
   have:∀ n:Nat,(1:Rat)^n=1:=fun n=>by
    induction n with
    | zero=>rw [Rat.pow_zero]
    | succ n ih=>rw [Rat.pow_succ,ih];grind
   exact this _
  have hA:=Rat.mul_nonneg (pB (List.getD (q.getD i []) k 0)) (cU h0 (m+k-i));generalize (List.getD (q.getD i []) k 0).abs*aF^(m+k-i)=A at *;rw [h1,show N⁻¹*(A/1)=A/N by rw [Rat.div_def,Rat.div_def,show ((1:Rat))⁻¹=1 by decide +kernel];grind];refine BP (Rat.pow_pos hNp) hNp (Rat.mul_le_mul_of_nonneg_left ?_ hA);have:=Cc hN (show 1≤m-i by omega)
  rwa [show N^1=N by rw [Rat.pow_succ,Rat.pow_zero];grind] at this
 have e2:sm (mI (q.getD m []) m m aF N) (q.getD m []).length=jU ((q.getD m []).drop 1) aF ((q.getD m []).length-1):=by
  cases hp:q.getD m [] with
  | nil=>rfl
  | cons a p=>
    rw [List.length_cons,gG]
    have:∀ K,sm (fun i=>mI (a::p) m m aF N (i+1)) K=jU p aF K:=fun K=>by
     induction K with
     | zero=>rfl
     | succ K ih=>
       rw [sm,jU,ih]
       congr 1
       unfold mI;rw [if_pos (.inr (by omega)),Nat.sub_self,Rat.pow_zero,show m+(K+1)-m=K+1 by omega];show (p.getD K 0).abs*_/1=_;rw [Rat.div_def,show ((1:Rat))⁻¹=1 by decide +kernel];grind
    rw [show mI (a::p) m m aF N 0=0 by unfold mI;rw [if_neg (by omega)]];show 0+sm (fun i=>mI (a::p) m m aF N (i+1)) p.length=jU p aF p.length;rw [this];grind
 rw [e2];grind
theorem yV.UO (R:yV q m D lead aF st):∃ s1:Nat,∀ s,s1≤s→bK q m aF ((s:Rat)+1) (m+1)≤lead.abs*(3/4):=by
 have hl:=BO R.l0;have h0:0≤aF:=by have:=R.r0;grind
 have hS:=MU (q:=q) (m:=m) h0 (N:=1) (by decide +kernel) m
 obtain ⟨s1,hs1⟩:∃ s1:Nat,bK q m aF 1 m*4≤lead.abs*(s1:Rat):=by
  refine ⟨((bK q m aF 1 m*4)/lead.abs).ceil.toNat,?_⟩;have h1:=Rat.le_ceil (x:=(bK q m aF 1 m*4)/lead.abs);generalize hq:(bK q m aF 1 m*4)/lead.abs=v at *;have h2:bK q m aF 1 m*4=v*lead.abs:=by rw [←hq,Rat.div_mul_cancel (by grind)]
  rw [h2]
  have h3:((v.ceil:Int):Rat)≤((v.ceil.toNat:Nat):Rat):=by
   have:v.ceil≤((v.ceil.toNat:Nat):Int):=by omega
   have:=Rat.intCast_le_intCast.2 this
   exact_mod_cast this
  have:=Rat.mul_le_mul_of_nonneg_left (a:=v) (b:=((v.ceil.toNat:Nat):Rat)) (c:=lead.abs) (by grind) (by grind)
  grind
 refine ⟨s1,fun s hs=>?_⟩;have hss:=qF hs;have hs0:=iM s;have h1:=PO (q:=q) (m:=m) h0 (N:=(s:Rat)+1) (by grind);have h2:=R.rad
 have h3:bK q m aF 1 m/((s:Rat)+1)≤lead.abs/4:=by
  refine BP (by grind) (by decide +kernel) ?_;have:=Rat.mul_le_mul_of_nonneg_left (a:=(s1:Rat)) (b:=(s:Rat)+1) (c:=lead.abs) (by grind) (by grind)
  grind
 grind
theorem yV.aJ5 (R:yV q m D lead aF st) {x:Nat→Rat} (hx:∀ s,kC q m x s=0) {b:Rat} {n0:Nat} (hb0:0≤b) (hb:∀ n,n0≤n→Bo b (x n*aF^n)) :
  ∃ n1,∀ h n,n1+h*(m+D)≤n→Bo (b*(3/4)^h) (x n*aF^n):=by
 obtain ⟨s1,hs1⟩:=R.UO;refine ⟨n0+s1+m+D+m,fun h=>?_⟩
 induction h with
 | zero=>
   intro n hn;rw [Rat.pow_zero];exact (hb n (by omega)).mono (by grind)
 | succ h ih=>
   intro n hn;rw [Nat.succ_mul] at hn;have hp:=cU (x:=(3/4:Rat)) (by decide +kernel) h;obtain ⟨s,rfl⟩:∃ s,n=s+m:=⟨n-m,by omega⟩
   have h3:=R.step (x:=x) (s:=s) (τ:=aF) (Z:=b*(3/4)^h) (W:=0) (th:=3/4) (by have:=R.r0;grind) (hs1 s (by omega)) (Rat.mul_nonneg hb0 hp) (by rw [hx s,Rat.zero_mul];exact Bo.zero (by grind)) fun j h1 h2 h3=>ih _ (by omega);rw [Rat.pow_succ];exact h3.mono (by grind)
end
end Ord
namespace Ord
def fst (a:Nat→Rat) (N:Nat):List Rat:=(List.range N).map a
theorem vQ (a:Nat→Rat) (N n:Nat):co (fst a N) n=if n<N then a n else 0:=by
 unfold co fst;rw [List.getD_eq_getElem?_getD,List.getElem?_map];split
 ·rename_i h;rw [List.getElem?_range h];rfl
 ·rename_i h;rw [List.getElem?_eq_none (by rw [List.length_range];omega)];rfl
theorem Oe (a:Nat→Rat) (N:Nat):(fst a N).length=N:=by unfold fst;rw [List.length_map,List.length_range]
def kT (p:List Rat) (m i:Nat) (aF:Rat) (k:Nat):Rat:=(co p k).abs*aF^(m+k-i)
def kQ (q:List (List Rat)) (m:Nat) (aF:Rat):Rat:=sm (fun i=>sm (kT (q.getD i []) m i aF) (q.getD i []).length) (m+1)
theorem Nt {p:List Rat} {m i:Nat} {aF:Rat} (h0:0≤aF) (k:Nat):0≤kT p m i aF k:=Rat.mul_nonneg (pB _) (cU h0 _)
theorem Zm {q:List (List Rat)} {m:Nat} {aF:Rat} (h0:0≤aF):0≤kQ q m aF:=IB fun _ _=>IB fun k _=>Nt h0 k
theorem aw4 {p:List Rat} {m i:Nat} {aF:Rat} (h0:0≤aF) (K:Nat):sm (kT p m i aF) K≤sm (kT p m i aF) p.length:=by
 rcases Nat.le_total K p.length with h | h
 ·exact BL h fun k=>Nt h0 k
 ·rw [rG h fun k hk _=>by unfold kT;rw [SA hk,show (0:Rat).abs=0 by decide +kernel];grind];exact Rat.le_refl
theorem bd1 {q:List (List Rat)} {m D N s:Nat} {aF eps:Rat} {y:Nat→Rat} (h0:0≤aF) (he:0≤eps) (hD:∀ i k,D<k→co (q.getD i []) k=0) (hy0:∀ n,N≤n→y n=0) (hy:∀ n,N-m-D≤n→Bo eps (y n*aF^n)) (hs:N≤s+m) :
  Bo (kQ q m aF*(N:Rat)^m*eps) (kC q m y s*aF^(s+m)):=by
 have hN0:=iM N;have hNm:=cU hN0 m
 have hrow:∀ i,i<m+1→Bo (sm (kT (q.getD i []) m i aF) (q.getD i []).length*((N:Rat)^m*eps)) (pY (co (q.getD i [])) (dU i y) s*aF^(s+m)):=by
  intro i hi
  have h1:Bo (sm (fun k=>((N:Rat)^m*eps)*kT (q.getD i []) m i aF k) (s+1)) (sm (fun k=>aF^(s+m)*(co (q.getD i []) k*dU i y (s-k))) (s+1)):=Bo.sm fun k hk=>by
   have hnn:0≤((N:Rat)^m*eps)*kT (q.getD i []) m i aF k:=Rat.mul_nonneg (Rat.mul_nonneg hNm he) (Nt h0 k);by_cases hkD:D<k
   ·rw [hD i k hkD,show aF^(s+m)*(0*dU i y (s-k))=0 by grind];exact Bo.zero hnn
   ·by_cases hn:N≤s-k+i
    ·rw [show dU i y (s-k)=0 by unfold dU;rw [hy0 _ hn];grind,show aF^(s+m)*(co (q.getD i []) k*0)=0 by grind];exact Bo.zero hnn
    ·have hz:=hy (s-k+i) (by omega);have e:aF^(s+m)=aF^(s-k+i)*aF^(m+k-i):=by rw [←gA];congr 1;omega
     have h:=(((Bo.abs (co (q.getD i []) k)).mul hz).mul (Bo.self (wV (s-k+i) i))).mul (Bo.self (cU h0 (m+k-i)))
     have e2:aF^(s+m)*(co (q.getD i []) k*dU i y (s-k))=co (q.getD i []) k*(y (s-k+i)*aF^(s-k+i))*fr (s-k+i) i*aF^(m+k-i):=by
      rw [e];unfold dU fr;grind
     have hf:fr (s-k+i) i≤(N:Rat)^m:=by
      have h1:=Ao (s-k+i) i;have h2:=rN (iM (s-k+i)) (qF (show s-k+i≤N by omega)) i
      have h3:=Cc (x:=(N:Rat)) (by have:=qF (show 1≤N by omega);have e:((1:Nat):Rat)=1:=by decide +kernel
                                   rw [e] at this;exact this) (show i≤m by omega)
      grind
     rw [e2];refine h.mono ?_;have hA:=Rat.mul_nonneg he (Nt (p:=q.getD i []) (m:=m) (i:=i) h0 k);have:=Rat.mul_le_mul_of_nonneg_right hf hA;unfold kT at this ⊢
     grind
  rw [dS,dS] at h1;rw [show pY (co (q.getD i [])) (dU i y) s*aF^(s+m)=aF^(s+m)*sm (fun k=>co (q.getD i []) k*dU i y (s-k)) (s+1) by unfold pY;grind];have h2:=aw4 (p:=q.getD i []) (m:=m) (i:=i) h0 (s+1);have h3:=Rat.mul_le_mul_of_nonneg_left h2 (Rat.mul_nonneg hNm he);exact h1.mono (by grind)
 have hall:=Bo.sm hrow
 have e1:sm (fun i=>sm (kT (q.getD i []) m i aF) (q.getD i []).length*((N:Rat)^m*eps)) (m+1)=kQ q m aF*(N:Rat)^m*eps:=by
  have:sm (fun i=>sm (kT (q.getD i []) m i aF) (q.getD i []).length*((N:Rat)^m*eps)) (m+1)=sm (fun i=>((N:Rat)^m*eps)*sm (kT (q.getD i []) m i aF) (q.getD i []).length) (m+1):=bJ fun i _=>by grind
  rw [this,dS];unfold kQ;grind
 have e2:sm (fun i=>pY (co (q.getD i [])) (dU i y) s*aF^(s+m)) (m+1)=kC q m y s*aF^(s+m):=by
  have:sm (fun i=>pY (co (q.getD i [])) (dU i y) s*aF^(s+m)) (m+1)=sm (fun i=>aF^(s+m)*pY (co (q.getD i [])) (dU i y) s) (m+1):=bJ fun i _=>by grind
  rw [this,dS];unfold kC;grind
 rw [e1,e2] at hall;exact hall
theorem Ii {q:List (List Rat)} {m s N:Nat} {x y:Nat→Rat} (h:∀ n,n<N→x n=y n) (hs:s+m<N):kC q m x s=kC q m y s:=by
 unfold kC;refine bJ fun i hi=>?_;unfold pY;refine bJ fun k hk=>?_;unfold dU;rw [h _ (by omega)]
theorem Za {q:List (List Rat)} {m D s N:Nat} {y:Nat→Rat} (hD:∀ i k,D<k→co (q.getD i []) k=0) (hy0:∀ n,N≤n→y n=0) (hs:N+D≤s):kC q m y s=0:=by
 unfold kC;refine kW fun i hi=>?_;unfold pY;refine kW fun k hk=>?_;by_cases hkD:D<k
 ·rw [hD i k hkD];grind
 ·unfold dU;rw [hy0 _ (by omega)];grind
section
variable {q q':List (List Rat)} {m D D' st st':Nat} {lead lead' aF rho' t τ:Rat}
theorem yV.ax9 (R:yV q' m D' lead' rho' st') (hm:1≤m) (hτ:0<τ) (hτr:τ≤rho'):∃ Th:Rat,0≤Th∧∀ (e:Nat→Rat) (W:Rat),0≤W→(∀ k,k<m→e k=0)→(∀ s,Bo (lead'.abs*W) (kC q' m e s*τ^(s+m)))→∀ k:Nat,Bo (Th*((k:Rat)*W)) (e k*τ^k):=by
 have hl:=BO R.l0;have hτ0:0≤τ:=by grind
 obtain ⟨th,h1,hth⟩:∃ th:Rat,1≤th∧bK q' m τ 1 (m+1)≤lead'.abs*th:=by
  refine ⟨1+bK q' m τ 1 (m+1)/lead'.abs,?_,?_⟩
  ·have:=BR (MU (q:=q') (m:=m) hτ0 (N:=1) (by decide +kernel) (m+1)) hl
   grind
  ·have:bK q' m τ 1 (m+1)/lead'.abs*lead'.abs=bK q' m τ 1 (m+1):=Rat.div_mul_cancel (by grind)
   grind
 have hpos:∀ n:Nat,0≤th^n:=fun n=>cU (by grind) n;refine ⟨th^st',hpos _,fun e W hW0 he0 hL=>?_⟩
 have key:∀ k,Bo (th^(min k st')*((k:Rat)*W)) (e k*τ^k):=by
  intro k
  induction k using Nat.strongRecOn with
  | _ k ih=>
    have hk0:=iM k;rcases Nat.lt_or_ge k m with h | h
    ·rw [he0 k h,Rat.zero_mul];exact Bo.zero (Rat.mul_nonneg (hpos _) (Rat.mul_nonneg hk0 hW0))
    ·obtain ⟨s,rfl⟩:∃ s,k=s+m:=⟨k-m,by omega⟩
     have hs0:=iM s;have hk1:=iM (s+m-1);have hcast:((s+m:Nat):Rat)=((s+m-1:Nat):Rat)+1:=by rw [←Jm];congr 1;omega
     have hZ:∀ j,1≤j→j≤m+D'→j≤s+m→Bo (th^(min (s+m-1) st')*(((s+m-1:Nat):Rat)*W)) (e (s+m-j)*τ^(s+m-j)):=fun j h1' h2 h3=>by
      refine (ih (s+m-j) (by omega)).mono ?_;have e1:=Cc h1 (show min (s+m-j) st'≤min (s+m-1) st' by omega);have e2:=qF (show s+m-j≤s+m-1 by omega);have e3:=Rat.mul_le_mul_of_nonneg_right e2 hW0;exact iH e1 e3 (hpos _) (Rat.mul_nonneg hk1 hW0)
     have hZ0:0≤th^(min (s+m-1) st')*(((s+m-1:Nat):Rat)*W):=Rat.mul_nonneg (hpos _) (Rat.mul_nonneg hk1 hW0);rw [hcast];have hA:=Rat.mul_nonneg hk1 hW0;rcases Nat.lt_or_ge (s+m) st' with hlt | hge
     ·have hth':bK q' m τ ((s:Rat)+1) (m+1)≤lead'.abs*th:=by
       have:=zV (q:=q') (m:=m) hτ0 (N:=1) (N':=(s:Rat)+1) (by decide +kernel) (by grind) (m+1)
       grind
      have h3:=R.step hτ0 hth' hZ0 (hL s) hZ;refine h3.mono ?_;rw [show min (s+m) st'=min (s+m-1) st'+1 by omega,Rat.pow_succ];have h4:=one_le_pow h1 (min (s+m-1) st');have h5:=iH h4 h1 (by decide +kernel) (by grind);have h6:=Rat.mul_le_mul_of_nonneg_right h5 hW0
      grind
     ·have hs:=R.hs
      have hth':bK q' m τ ((s:Rat)+1) (m+1)≤lead'.abs*1:=by
       have e1:=OK (q:=q') (m:=m) hτ0 (N:=(s:Rat)+1) (by grind) hτr (m+1);have e2:=zV (q:=q') (m:=m) (aF:=rho') (N:=((st'-m:Nat):Rat)+1) (N':=(s:Rat)+1) (by grind) (by have:=iM (st'-m);grind) (by have:=qF (show st'-m≤s by omega);grind) (m+1);have e3:=R.start
       grind
      have h3:=R.step hτ0 hth' hZ0 (hL s) hZ;refine h3.mono ?_;have h4:=Cc h1 (show min (s+m-1) st'≤min (s+m) st' by omega);have h5:=one_le_pow h1 (min (s+m) st');have h6:=Rat.mul_le_mul_of_nonneg_right h5 hW0;have h7:=Rat.mul_le_mul_of_nonneg_right h4 hA
      grind
 intro k;refine (key k).mono ?_;exact Rat.mul_le_mul_of_nonneg_right (Cc h1 (by omega)) (Rat.mul_nonneg (iM k) hW0)
theorem zN {f g:Nat→Rat} (N:Nat) (s:Rat) (h:∀ k,k<N→f k=g k):gH f N s=gH g N s:=bJ fun k hk=>by rw [h k hk]
theorem IH (f:Nat→Rat) (N:Nat) (h:1≤N):gH f N 0=f 0:=by
 obtain ⟨n,rfl⟩:∃ n,N=n+1:=⟨N-1,by omega⟩
 unfold gH;rw [gG,kW fun i _=>by rw [Rat.pow_succ];grind,Rat.pow_zero];grind
theorem HC {f:Nat→Rat} {n N:Nat} (s:Rat) (h:n≤N) (h0:∀ k,n≤k→f k=0):gH f N s=gH f n s:=rG h fun k h1 _=>by rw [h0 k h1];grind
theorem JZ:∀ p:List Rat,(GA p).length≤p.length
 | []=>Nat.le_refl _
 | a::p=>by
   have ih:=JZ p
   have key:∀ (p q:List Rat),(mU p q).length≤max p.length q.length:=by
    intro p
    induction p with
    | nil=>intro q;rw [mU];simp
    | cons a p ihp=>
      intro q;cases q with
      | nil=>rw [mU];simp
      | cons b q=>rw [mU];have:=ihp q;simp only [List.length_cons];omega
   have:=key p (0::GA p);rw [GA];simp only [List.length_cons] at this ⊢;omega
theorem zJ (p:List Rat):∀ i,(kL p i).length≤p.length
 | 0=>Nat.le_refl _
 | i+1=>by have h1:=zJ p i;have h2:=JZ (kL p i);rw [kL];omega
theorem WJ (f g:Nat→Rat) (N:Nat) (s:Rat):gH (fun k=>f k-g k) N s=gH f N s-gH g N s:=by
 unfold gH;have:sm (fun k=>(f k-g k)*s^k) N=sm (fun k=>f k*s^k+(-1)*(g k*s^k)) N:=bJ fun k _=>by grind
 rw [this,tX,dS];grind
theorem RP (c:Nat→Rat) (f:Nat→Nat→Rat) (N:Nat) (s:Rat):∀ n,gH (fun k=>sm (fun u=>c u*f u k) n) N s=sm (fun u=>c u*gH (f u) N s) n
 | 0=>kW fun i _=>by show (0:Rat)*_=0;grind
 | n+1=>by
   show _=sm (fun u=>c u*gH (f u) N s) n+c n*gH (f n) N s;rw [←RP c f N s n];unfold gH;rw [←dS,←tX]
   exact bJ fun k _=>by
    show (sm (fun u=>c u*f u k) n+c n*f n k)*s^k=_
    grind
theorem Wc (i:Nat) (f g:Nat→Rat) (k:Nat):dU i (fun k=>f k-g k) k=dU i f k-dU i g k:=by unfold dU;grind
theorem ac8 (i:Nat) (c:Nat→Rat) (f:Nat→Nat→Rat) (k n:Nat):dU i (fun k=>sm (fun u=>c u*f u k) n) k=sm (fun u=>c u*dU i (f u) k) n:=by
 unfold dU;rw [Rat.mul_comm,←dS];exact bJ fun u _=>by grind
theorem UJ (k:Nat):0<fr k k:=by
 have:=Sh 0 k;rw [Nat.zero_add] at this
 grind
end
end Ord
namespace Ord
theorem Bo.Nj {A x r:Rat} (hr:0≤r) (h:Bo A (x*r)):x.abs*r≤A:=by
 obtain ⟨h1,h2⟩:=h;unfold Rat.abs;split
 ·exact h2
 ·rw [show -x*r = -(x*r) by grind];grind
theorem Hm {x:Rat} (h:0<x):0≤x⁻¹:=by
 have:=BR (x:=1) (p:=x) (by decide +kernel) h
 rwa [Rat.div_def,show 1*x⁻¹=x⁻¹ by grind] at this
theorem MO (f:Nat→Rat) {k:Nat}:∀ {m:Nat},k<m→sm (fun u=>f u*if k=u then 1 else 0) m=f k
 | m+1,h=>by
   rw [sm];by_cases hk:k=m
   ·subst hk;rw [if_pos rfl,kW fun i hi=>by rw [if_neg (by omega)];grind];grind
   ·rw [if_neg hk,MO f (show k<m by omega)];grind
section
variable {q q':List (List Rat)} {m D D' st st':Nat} {lead lead' aF rho' t τ:Rat}
theorem aZ7 {N:Nat} {eps X:Rat} {a:Nat→Rat} (hr:0<aF) (he:0≤eps) (hD:∀ i k,D<k→co (q.getD i []) k=0) (ha:∀ s,kC q m a s=0) (hy:∀ n,N-m-D≤n→Bo eps (a n*aF^n)) (hX:((N+D:Nat):Rat)≤X) :
  nW aF (PA q (fst a N) (m+1))≤X*(kQ q m aF*X^m*eps*(aF^m)⁻¹):=by
 have h0:0≤aF:=by grind
 have hrm:=Rat.pow_pos (n:=m) hr;have hri:=Hm hrm;have hK:=Zm (q:=q) (m:=m) h0;have hN0:=iM N;have hNX:(N:Rat)≤X:=by have:=qF (show N≤N+D by omega);grind
 have hX0:0≤X:=by grind
 have hpow:=rN hN0 hNX m;have hβ:0≤kQ q m aF*X^m*eps*(aF^m)⁻¹:=Rat.mul_nonneg (Rat.mul_nonneg (Rat.mul_nonneg hK (cU hX0 m)) he) hri
 have h1:=aJ2 (th:=aF) (β:=kQ q m aF*X^m*eps*(aF^m)⁻¹) (PA q (fst a N) (m+1)) (M:=N+D) (fun k hk=>by
  rw [Zl];exact Za hD (fun n hn=>by rw [vQ,if_neg (by omega)]) hk) (fun k hk=>by
  rw [Zl];rcases Nat.lt_or_ge (k+m) N with h | h
  ·rw [Ii (y:=a) (N:=N) (fun n hn=>by rw [vQ,if_pos hn]) h,ha,show (0:Rat).abs=0 by decide +kernel]
   grind
  ·have h2:=bd1 (q:=q) (m:=m) (N:=N) (y:=co (fst a N)) h0 he hD (fun n hn=>by rw [vQ,if_neg (by omega)]) (fun n hn=>by
    rw [vQ];split
    ·exact hy n hn
    ·rw [Rat.zero_mul];exact Bo.zero he) h
   rw [gA,show kC q m (co (fst a N)) k*(aF^k*aF^m)=(kC q m (co (fst a N)) k*aF^k)*aF^m by grind] at h2;have h3:=h2.Nj (by grind)
   have e3:(kC q m (co (fst a N)) k*aF^k).abs=(kC q m (co (fst a N)) k).abs*aF^k:=by
    have:=cU h0 k;have h5:=(Bo.self this)
    unfold Rat.abs;by_cases hL:0≤kC q m (co (fst a N)) k
    ·rw [if_pos hL,if_pos (Rat.mul_nonneg hL this)]
    ·rw [if_neg hL];have h6:=Rat.mul_nonneg (a:=-kC q m (co (fst a N)) k) (b:=aF^k) (by grind) this;split
     ·rename_i h7;have:kC q m (co (fst a N)) k*aF^k=0:=by grind
      grind
     ·grind
   rw [e3] at h3;have h4:kQ q m aF*(N:Rat)^m*eps≤kQ q m aF*X^m*eps:=Rat.mul_le_mul_of_nonneg_right (Rat.mul_le_mul_of_nonneg_left hpow hK) he;have h5:(kC q m (co (fst a N)) k).abs*aF^k*aF^m*(aF^m)⁻¹≤kQ q m aF*X^m*eps*(aF^m)⁻¹:=Rat.mul_le_mul_of_nonneg_right (by grind) hri;have h6:aF^m*(aF^m)⁻¹=1:=Rat.mul_inv_cancel _ (by grind);have e7:(kC q m (co (fst a N)) k).abs*aF^k*aF^m*(aF^m)⁻¹=(kC q m (co (fst a N)) k).abs*aF^k*(aF^m*(aF^m)⁻¹):=by grind
   rw [e7,h6] at h5
   grind) hβ
 have h2:=Rat.mul_le_mul_of_nonneg_right hX hβ
 grind
theorem there {a:Nat→Rat} {N k:Nat} (hk:k≤N):dU k (fP t (fst a N)) 0=gH (dU k a) (N-k) t:=by
 have hl:=zJ (fst a N) k;rw [Oe] at hl;have h1:=NV t 0 (kL (fst a N) k) (N+1) (by omega);rw [IH _ _ (by omega),uL,show t+0=t by grind] at h1;rw [h1];have h2:gH (co (kL (fst a N) k)) N t=gH (co (kL (fst a N) k)) (kL (fst a N) k).length t:=HC t hl fun j hj=>SA hj
 have h3:gH (co (kL (fst a N) k)) N t=gH (co (kL (fst a N) k)) (N-k) t:=HC t (by omega) fun j hj=>by
  rw [tO];unfold dU;rw [vQ,if_neg (by omega)];grind
 rw [←h2,h3]
 exact zN _ _ fun j hj=>by
  rw [tO];unfold dU;rw [vQ,if_pos (by omega)]
theorem home {a:Nat→Rat} {N i:Nat} (hi:i<N):gH (dU i (fP t (fst a N))) N (-t)=a i*fr i i:=by
 have hl:=zJ (fst a N) i;rw [Oe] at hl;have h1:=NV t (-t) (kL (fst a N) i) N hl;rw [zN (g:=dU i (fP t (fst a N))) N (-t) (fun k _=>uL t (fst a N) i k),show t + -t=0 by grind] at h1;rw [h1,←HC 0 hl (fun j hj=>SA hj),IH _ _ (by omega),tO];unfold dU fr;rw [vQ,Nat.zero_add,if_pos hi]
theorem am6 {x y A r:Rat} {k i:Nat} (h0:0≤τ) (hr:Bo τ r) (h:Bo A (x*τ^(k+i))):Bo A (x*r^k*τ^i):=by
 have h1:=h.Nj (cU h0 _);rw [gA] at h1;have h2:=((Bo.abs x).mul (hr.pow k)).mul (Bo.self (cU h0 i));exact h2.mono (by grind)
theorem back (hm:1≤m) (R:yV q m D lead aF st) (R':yV q' m D' lead' rho' st') (hq:∀ i k,co (q'.getD i []) k=fP t (q.getD i []) k) (hτ:0<τ) (ht:Bo τ t) (hT:Bo (aF-τ) t) (hτr:τ≤rho')
  {a:Nat→Rat} (ha:∀ s,kC q m a s=0) {g:Nat→Nat→Rat} (hg:∀ u,u<m→∀ s,kC q' m (g u) s=0) (hgi:∀ u k,u<m→k<m→g u k*fr k k=if k=u then 1 else 0) {b:Rat} {n0:Nat} (hb0:0≤b) (hb:∀ n,n0≤n→Bo b (a n*aF^n)) (i:Nat) :
  ∀ eta:Rat,0<eta→∀ N0:Nat,∃ N,N0≤N∧Bo eta (a i*fr i i-sm (fun u=>gH (dU u a) (N-u) t*gH (dU i (g u)) N (-t)) m):=by
 intro eta heta N0;obtain ⟨Th,hTh,hpush⟩:=R'.ax9 hm hτ hτr;obtain ⟨n1,hdec⟩:=R.aJ5 ha hb0 hb;have hr:=R.r0;have h0:0≤aF:=by grind
 have hτ0:0≤τ:=by grind
 have hK:=Zm (q:=q) (m:=m) h0;have hl':=BO R'.l0;have hli:=Hm hl';have hri:=Hm (Rat.pow_pos (n:=m) hr);have hti:=Hm (Rat.pow_pos (n:=i) hτ);have hτm:=cU hτ0 m
 let c1:Nat:=n1+(m+D)+i+1+i+D
 let C1:Rat:=Th*kQ q m aF*(aF^m)⁻¹*τ^m*lead'.abs⁻¹*(τ^i)⁻¹
 have hC1:0≤C1:=Rat.mul_nonneg (Rat.mul_nonneg (Rat.mul_nonneg (Rat.mul_nonneg (Rat.mul_nonneg hTh hK) hri) hτm) hli) hti;have hC:0≤C1*b*(c1:Rat)^(i+m+3):=Rat.mul_nonneg (Rat.mul_nonneg hC1 hb0) (cU (iM c1) _);obtain ⟨g0,hg0⟩:=as7 _ hC (i+m+3) eta heta
 let h:Nat:=(i+m+3+1)*max g0 (max N0 m)
 have hgm:=hg0 (max g0 (max N0 m)) (by omega);have hbig:max N0 m≤h:=Nat.le_trans (by omega) (Nat.le_mul_of_pos_left (max g0 (max N0 m)) (show 0<i+m+3+1 by omega));have hJ:h≤h*(m+D):=Nat.le_mul_of_pos_right _ (by omega)
 let N:Nat:=n1+h*(m+D)+(m+D)+i+1
 have hNd:N=n1+h*(m+D)+(m+D)+i+1:=rfl;refine ⟨N,by omega,?_⟩
 let eps:Rat:=b*(3/4)^h
 have heps:0≤eps:=Rat.mul_nonneg hb0 (cU (by decide +kernel) h)
 let X:Rat:=((N+i+D:Nat):Rat)
 have hX0:0≤X:=iM _;have hnW:=aZ7 (q:=q) (m:=m) (D:=D) (N:=N) (eps:=eps) (X:=X) (a:=a) hr heps R.hD ha (fun n hn=>hdec h n (by omega)) (qF (by omega))
 let F:Nat→Rat:=fun u=>gH (dU u a) (N-u) t
 let e:Nat→Rat:=fun k=>fP t (fst a N) k-sm (fun u=>F u*g u k) m
 let Wx:Rat:=X*(kQ q m aF*X^m*eps*(aF^m)⁻¹)*τ^m*lead'.abs⁻¹
 have hβ:0≤X*(kQ q m aF*X^m*eps*(aF^m)⁻¹):=Rat.mul_nonneg hX0 (Rat.mul_nonneg (Rat.mul_nonneg (Rat.mul_nonneg hK (cU hX0 m)) heps) hri);have hWx:0≤Wx:=Rat.mul_nonneg (Rat.mul_nonneg hβ hτm) hli
 have hWl:lead'.abs*Wx=X*(kQ q m aF*X^m*eps*(aF^m)⁻¹)*τ^m:=by
  have h6:lead'.abs*lead'.abs⁻¹=1:=Rat.mul_inv_cancel _ (by grind);show lead'.abs*(X*(kQ q m aF*X^m*eps*(aF^m)⁻¹)*τ^m*lead'.abs⁻¹)=_;generalize X*(kQ q m aF*X^m*eps*(aF^m)⁻¹)*τ^m=y;rw [show lead'.abs*(y*lead'.abs⁻¹)=y*(lead'.abs*lead'.abs⁻¹) by grind,h6];grind
 have he0:∀ k,k<m→e k=0:=by
  intro k hk
  have h1:e k*fr k k=0:=by
   have h2:fP t (fst a N) k*fr k k=F k:=by
    have:=there (t:=t) (a:=a) (N:=N) (k:=k) (by omega);unfold dU at this;rw [Nat.zero_add] at this;exact this
   have h3:sm (fun u=>F u*g u k) m*fr k k=F k:=by
    rw [Rat.mul_comm,←dS,←MO F hk];exact bJ fun u hu=>by rw [←hgi u k hu hk];grind
   show (fP t (fst a N) k-sm (fun u=>F u*g u k) m)*fr k k=0
   grind
  have:=UJ k;rcases Rat.mul_eq_zero.1 h1 with h | h
  ·exact h
  ·grind
 have hL:∀ s,Bo (lead'.abs*Wx) (kC q' m e s*τ^(s+m)):=by
  intro s
  have h1:kC q' m e s=fP t (PA q (fst a N) (m+1)) s:=by
   show kC q' m (fun k=>fP t (fst a N) k-(fun k=>sm (fun u=>F u*g u k) m) k) s=_;rw [VU,Rc,kW fun u hu=>by rw [hg u hu];grind,aq1 t hq];grind
  have h2:=GG hT hτ0 (PA q (fst a N) (m+1)) s;rw [show aF-τ+τ=aF by grind] at h2;have h3:=(h2.mono hnW).mul (Bo.self hτm);rw [h1,hWl,gA,show fP t (PA q (fst a N) (m+1)) s*(τ^s*τ^m)=fP t (PA q (fst a N) (m+1)) s*τ^s*τ^m from (Rat.mul_assoc _ _ _).symm];exact h3
 have hp:=hpush e Wx hWx he0 hL
 have hval:gH (dU i e) N (-t)=a i*fr i i-sm (fun u=>F u*gH (dU i (g u)) N (-t)) m:=by
  have h1:gH (dU i e) N (-t)=gH (fun k=>dU i (fP t (fst a N)) k-(fun k=>sm (fun u=>F u*dU i (g u) k) m) k) N (-t):=zN _ _ fun k _=>by
   show dU i (fun k=>fP t (fst a N) k-(fun k=>sm (fun u=>F u*g u k) m) k) k=_;rw [Wc,ac8]
  rw [h1,WJ,home (by omega),RP]
 rw [←hval]
 have hsum:Bo ((N:Rat)*(Th*(X*Wx)*X^i)) (gH (dU i e) N (-t)*τ^i):=by
  have h1:Bo (sm (fun _=>Th*(X*Wx)*X^i) N) (sm (fun k=>τ^i*(dU i e k*(-t)^k)) N):=Bo.sm fun k hk=>by
   have h2:=hp (k+i);have hkX:((k+i:Nat):Rat)≤X:=qF (by omega);have h3:Th*(((k+i:Nat):Rat)*Wx)≤Th*(X*Wx):=Rat.mul_le_mul_of_nonneg_left (Rat.mul_le_mul_of_nonneg_right hkX hWx) hTh;have h4:=(am6 (y:=0) hτ0 ht.neg (h2.mono h3)).mul (Bo.self (wV (k+i) i));have h5:=Ao (k+i) i;have h6:=rN (iM (k+i)) hkX i;have h7:=Rat.mul_le_mul_of_nonneg_left (show fr (k+i) i≤X^i by grind) (show 0≤Th*(X*Wx) from Rat.mul_nonneg hTh (Rat.mul_nonneg hX0 hWx));have e8:τ^i*(dU i e k*(-t)^k)=e (k+i)*(-t)^k*τ^i*fr (k+i) i:=by unfold dU fr;grind
   rw [e8];exact h4.mono h7
  rw [yT,dS] at h1;rw [show gH (dU i e) N (-t)*τ^i=τ^i*sm (fun k=>dU i e k*(-t)^k) N by unfold gH;grind];exact h1
 have hfin:Bo ((N:Rat)*(Th*(X*Wx)*X^i)*(τ^i)⁻¹) (gH (dU i e) N (-t)):=by
  have h1:=hsum.mul (Bo.self hti);have h6:τ^i*(τ^i)⁻¹=1:=Rat.mul_inv_cancel _ (by have:=Rat.pow_pos (n:=i) hτ;grind)
  rwa [show gH (dU i e) N (-t)*τ^i*(τ^i)⁻¹=gH (dU i e) N (-t)*(τ^i*(τ^i)⁻¹) by grind,h6,show gH (dU i e) N (-t)*1=gH (dU i e) N (-t) by grind] at h1
 refine hfin.mono ?_;have hNX:(N:Rat)≤X:=qF (by omega);have hA0:0≤Th*(X*Wx)*X^i*(τ^i)⁻¹:=Rat.mul_nonneg (Rat.mul_nonneg (Rat.mul_nonneg hTh (Rat.mul_nonneg hX0 hWx)) (cU hX0 i)) hti
 have h1:(N:Rat)*(Th*(X*Wx)*X^i)*(τ^i)⁻¹≤X*(Th*(X*Wx)*X^i*(τ^i)⁻¹):=by
  have:=Rat.mul_le_mul_of_nonneg_right hNX hA0
  grind
 have e1:X*(Th*(X*Wx)*X^i*(τ^i)⁻¹)=C1*eps*X^(i+m+3):=by
  have e2:X^(i+m+3)=X^i*X^m*(X*X*X):=by
   rw [gA,gA,Rat.pow_succ,Rat.pow_succ,Rat.pow_succ,Rat.pow_zero];grind
  rw [e2];show X*(Th*(X*(X*(kQ q m aF*X^m*eps*(aF^m)⁻¹)*τ^m*lead'.abs⁻¹))*X^i*(τ^i)⁻¹)=Th*kQ q m aF*(aF^m)⁻¹*τ^m*lead'.abs⁻¹*(τ^i)⁻¹*eps*(X^i*X^m*(X*X*X));generalize (aF^m)⁻¹=v1;generalize (τ^i)⁻¹=v2;generalize lead'.abs⁻¹=v3;generalize X^i=v4;generalize X^m=v5;generalize τ^m=v6;generalize kQ q m aF=v7;generalize eps=v8;generalize X=v9
  grind
 have hXc:X≤(c1:Rat)*(((h:Nat):Rat)+1):=by
  have h2:N+i+D≤c1*(h+1):=by
   have e3:c1*(h+1)=c1*h+c1:=Nat.mul_succ _ _;have e4:(m+D)*h≤c1*h:=Nat.mul_le_mul_right _ (by omega);rw [Nat.mul_comm (m+D) h] at e4;omega
  have h3:=qF h2;have e5:((c1*(h+1):Nat):Rat)=(c1:Rat)*(((h:Nat):Rat)+1):=by rw [←Jm];exact_mod_cast rfl
  rw [e5] at h3;exact h3
 have h2:=rN hX0 hXc (i+m+3);rw [Cm] at h2;have h3:=Rat.mul_le_mul_of_nonneg_left h2 (show 0≤C1*eps from Rat.mul_nonneg hC1 heps)
 have e6:C1*eps*((c1:Rat)^(i+m+3)*(((h:Nat):Rat)+1)^(i+m+3))=C1*b*(c1:Rat)^(i+m+3)*(((h:Nat):Rat)+1)^(i+m+3)*(3/4)^h:=by
  show C1*(b*(3/4)^h)*_=_;generalize (c1:Rat)^(i+m+3)=v1;generalize (((h:Nat):Rat)+1)^(i+m+3)=v2;generalize (3/4:Rat)^h=v3
  grind
 rw [e6] at h3;rw [e1] at h1;exact Rat.le_trans h1 (Rat.le_trans h3 hgm)
end
end Ord
