/- Partial sums lie within the tails; what a reach promises. The products of both matrices have the unit matrix in them. OdeBack.
-/
import Derived.Test.YtdmcadckdnnglaaGreatDoorLa
import Derived.Test.YtdmcadckdnnglaaGreatDoorHc
import Derived.Test.YtdmcadckdnnglaaGreatDoorHe
import Derived.Test.YtdmcadckdnnglaaGreatDoorYa
set_option linter.unusedVariables false
set_option linter.unusedSimpArgs false
namespace Go.Sy
open Go Go.Proofs Ord
theorem PH {b aF r:Rat} {n d:Nat} (hb:0≤b) (h0:0<aF) (hr:0≤r) (hd:d≤n) (h1:cH aF n d r<1):b*HG aF n d r+fS b aF (n+1) d r≤fS b aF n d r:=by
 obtain ⟨hs,hs0⟩:=DN (d:=d) h0 hr hd;have hu:=MI (r:=r) h0 hd;have hu0:0≤HG aF n d r:=mJ (Rat.mul_nonneg (Rat.intCast_nonneg.2 (xI d hd)) (Rat.pow_nonneg hr)) (Rat.pow_pos h0);have hbu:=Rat.mul_nonneg hb hu0;have t1:fS b aF (n+1) d r=b*HG aF (n+1) d r/(((1:Int):Rat)-cH aF ((n+1:Nat):Int) d r):=rfl;have t0:fS b aF n d r=b*HG aF n d r/(((1:Int):Rat)-cH aF n d r):=rfl;rw [t1,t0,hu];have one:((1:Int):Rat)=1:=by decide +kernel
 rw [one];generalize cH aF ((n+1:Nat):Int) d r=s1 at *;generalize cH aF n d r=s0 at *;generalize HG aF n d r=u at *
 have h2:b*(u*s0)/(1-s1)≤b*(u*s0)/(1-s0):=by
  refine qR (by grind) (by grind) ?_;have:=Rat.mul_le_mul_of_nonneg_left (a:=1-s0) (b:=1-s1) (c:=b*(u*s0)) (by grind) (by have:=Rat.mul_nonneg hbu hs0;grind)
  grind
 have h3:b*u+b*(u*s0)/(1-s0)=b*u/(1-s0):=by
  have hne:1-s0≠0:=by grind
  grind
 grind
theorem Wm {b aF r:Rat} {n d:Nat} (hb:0≤b) (h0:0<aF) (hr:0≤r) (hd:d≤n) (h1:cH aF n d r<1):0≤fS b aF n d r:=by
 have hu0:0≤HG aF n d r:=mJ (Rat.mul_nonneg (Rat.intCast_nonneg.2 (xI d hd)) (Rat.pow_nonneg hr)) (Rat.pow_pos h0);have t0:fS b aF n d r=b*HG aF n d r/(((1:Int):Rat)-cH aF n d r):=rfl;rw [t0];have one:((1:Int):Rat)=1:=by decide +kernel
 rw [one];exact mJ (Rat.mul_nonneg hb hu0) (by grind)
theorem Vp {b aF t:Rat} {n d:Nat} {a:Nat→Rat} (hb:0≤b) (h0:0<aF) (hd:d≤n) (h1:cH aF n d t.abs<1) (ha:∀ i,n≤i→Bo b (a i*aF^i)) :
  ∀ N,n≤N→Bo (fS b aF n d t.abs-fS b aF N d t.abs) (gH (dU d a) (N-d) t-gH (dU d a) (n-d) t)∧cH aF N d t.abs<1:=by
 have hr:=zG t;intro N hN
 induction N with
 | zero=>
   obtain rfl:n=0:=by omega
   refine ⟨?_,h1⟩;rw [show ∀ x:Rat,x-x=0 from fun x=>by grind,show ∀ x:Rat,x-x=0 from fun x=>by grind];exact Bo.zero Rat.le_refl
 | succ N ih=>
   rcases Nat.lt_or_ge N n with h | h
   ·obtain rfl:n=N+1:=by omega
    refine ⟨?_,h1⟩;rw [show ∀ x:Rat,x-x=0 from fun x=>by grind,show ∀ x:Rat,x-x=0 from fun x=>by grind];exact Bo.zero Rat.le_refl
   ·obtain ⟨ih1,ih2⟩:=ih h;have hd':d≤N:=by omega
    refine ⟨?_,(Di hb h0 hr hd' ih2).2⟩;have hs:=PH hb h0 hr hd' ih2;have hp:=Rat.pow_pos (n:=N) h0
    have hterm:Bo (b*HG aF N d t.abs) (dU d a (N-d)*t^(N-d)):=by
     have h2:=((ha N h).mul (Bo.self (wV N d))).mul ((Bo.abs t).pow (N-d));refine Bo.cancel (c:=aF^N) hp ?_
     have e1:aF^N*(b*HG aF N d t.abs)=b*fr N d*t.abs^(N-d):=by
      unfold HG;have:((bL N d:Int):Rat)*t.abs^(N-d)/aF^N*aF^N=((bL N d:Int):Rat)*t.abs^(N-d):=Rat.div_mul_cancel (by grind);rw [show aF^N*(b*(((bL N d:Int):Rat)*t.abs^(N-d)/aF^N))=b*(((bL N d:Int):Rat)*t.abs^(N-d)/aF^N*aF^N) by grind,this];unfold fr;grind
     have e2:aF^N*(dU d a (N-d)*t^(N-d))=a N*aF^N*fr N d*t^(N-d):=by
      unfold dU fr;rw [show N-d+d=N by omega];grind
     rw [e1,e2];exact h2
    have e3:gH (dU d a) (N+1-d) t=gH (dU d a) (N-d) t+dU d a (N-d)*t^(N-d):=by
     rw [show N+1-d=N-d+1 by omega];rfl
    rw [e3];have h4:=ih1.add hterm;rw [show gH (dU d a) (N-d) t-gH (dU d a) (n-d) t+dU d a (N-d)*t^(N-d)=gH (dU d a) (N-d) t+dU d a (N-d)*t^(N-d)-gH (dU d a) (n-d) t by grind] at h4;exact h4.mono (by grind)
theorem Oj (t:Rat) (a:List Rat) (d n:Nat):∀ c,c≤n→fZ t a d n c=sm (fun j=>co a (n-c+j)*fr (n-c+j) d*t^j) c
 | 0,_=>rfl
 | c+1,hc=>by
   rw [fZ,Oj t a d n c (by omega),gG,Rat.pow_zero]
   have e:sm (fun i=>co a (n-(c+1)+(i+1))*fr (n-(c+1)+(i+1)) d*t^(i+1)) c=t*sm (fun j=>co a (n-c+j)*fr (n-c+j) d*t^j) c:=by
    rw [←dS]
    exact bJ fun i hi=>by
     rw [show n-(c+1)+(i+1)=n-c+i by omega,Rat.pow_succ];grind
   rw [e,Nat.add_zero,show n-(c+1)=n-1-c by omega];unfold co fr;grind
def aS (q:List (List Rat)) (m:Nat) (lead:Rat) (y:List Rat) (n:Nat):Rat:=kA q m lead y n (aR q m lead y n)
theorem CO (q:List (List Rat)) (m:Nat) (lead:Rat) (y:List Rat) {n N:Nat} (h:n<N):co (aR q m lead y N) n=aS q m lead y n:=by
 have h1:co (aR q m lead y (n+1)) n=co (aR q m lead y N) n:=by
  unfold co;rw [←oY q m lead y (k:=n+1) (n:=N) (by omega),List.getD_eq_getElem?_getD,List.getElem?_take,if_pos (by omega),List.getD_eq_getElem?_getD]
 rw [←h1];unfold co aS;rw [aR,List.getD_eq_getElem?_getD,List.getElem?_append_right (by rw [bQ];exact Nat.le_refl _),bQ,Nat.sub_self];rfl
theorem Vq (q:List (List Rat)) (m:Nat) (lead:Rat) (y:List Rat) (t:Rat) {n d:Nat} (hd:d≤n):fZ t (aR q m lead y n) d n (n-d)=gH (dU d (aS q m lead y)) (n-d) t:=by
 rw [Oj _ _ _ _ _ (by omega)];refine bJ fun j hj=>?_;rw [show n-(n-d)+j=j+d by omega,CO q m lead y (by omega)];unfold dU fr;rfl
theorem av6 {q:List (List Rat)} {m:Nat} {lead:Rat} {y:List Rat} (hl:lead≠0) (hql:q.length=m+1) (hq0:(q.getD m []).getD 0 0=lead) (s:Nat):kC q m (aS q m lead y) s=0:=by
 have h:=am0 (q:=q) (m:=m) (s:=s) (N:=s+m+1) (lead:=lead) (y:=y) hl hql hq0 (by omega);have h2:kC q m (co (aR q m lead y (s+m+1))) s=0:=h;rw [←h2];exact Ii (N:=s+m+1) (fun n hn=>(CO q m lead y hn).symm) (by omega)
theorem Ob {q:List (List Rat)} {m:Nat} {lead:Rat} {u k:Nat} (hk:k<m) (hu:u<m):aS q m lead (bG m u) k*fr k k=if k=u then 1 else 0:=by
 have hp:=UJ k;unfold aS kA;rw [if_pos hk]
 have e:(bG m u).getD k 0=if k=u then 1 else 0:=by
  unfold bG;rw [So _ _ _ _ (by rw [List.length_replicate];exact hu)];split
  ·rfl
  ·rw [List.getD_eq_getElem?_getD,List.getElem?_replicate];split<;>rfl
 rw [e];have:∀ x:Rat,x/fr k k*fr k k=x:=fun x=>Rat.div_mul_cancel (by grind);exact this _
theorem Wu {k:Nat}:∀ {p:List Rat},cW zr p≤k→p.getD k 0=0:=by
 induction k with
 | zero=>
   intro p h;cases p with
   | nil=>rfl
   | cons x p=>
     rw [cW] at h;split at h
     ·rename_i hc;exact of_decide_eq_true hc.2
     ·omega
 | succ k ih=>
   intro p h;cases p with
   | nil=>rfl
   | cons x p=>
     refine ih (p:=p) ?_;rw [cW] at h;split at h
     ·rename_i hc;omega
     ·omega
theorem Pv {q:List (List Rat)} {p:List Rat} (h:p∈q):cW zr p-1≤aV q:=by
 have key:∀ (q:List (List Rat)) (d:Nat),d≤q.foldl (fun d p=>max d (cW zr p-1)) d∧∀ p∈q,cW zr p-1≤q.foldl (fun d p=>max d (cW zr p-1)) d:=by
  intro q
  induction q with
  | nil=>intro d;exact ⟨Nat.le_refl _,fun p hp=>by cases hp⟩
  | cons r q ih=>
    intro d;obtain ⟨h1,h2⟩:=ih (max d (cW zr r-1));rw [List.foldl_cons];refine ⟨by omega,fun p hp=>?_⟩;rcases List.mem_cons.1 hp with rfl | hp
    ·omega
    ·exact h2 p hp
 exact (key q 0).2 p h
theorem aB2 {q:List (List Rat)} {i k:Nat} (h:aV q<k):co (q.getD i []) k=0:=by
 rcases Nat.lt_or_ge i q.length with hi | hi
 ·have hm:q.getD i []∈q:=by
   rw [List.getD_eq_getElem?_getD,List.getElem?_eq_getElem hi];exact List.getElem_mem hi
  have:=Pv hm;exact Wu (p:=q.getD i []) (by omega)
 ·rw [List.getD_eq_getElem?_getD,List.getElem?_eq_none hi];rfl
theorem WU {q:List (List Rat)} {m:Nat} {lead aF:Rat} {st:Nat} (hm:1≤m) (hql:q.length=m+1) (hq0:(q.getD m []).getD 0 0=lead) (hl:lead≠0) (h:jN q m lead=some (aF,st)):yV q m (aV q) lead aF st:=by
 obtain ⟨hh,ii,hrv,f1,_,f3,_,_,f6⟩:=yJ (q:=q) (m:=m) (lead:=lead) hm;rw [h] at hrv;split at hrv
 ·cases hrv
 ·rename_i hc;simp only [Option.some.injEq,Prod.mk.injEq] at hrv;obtain ⟨rfl,rfl⟩:=hrv;have h1:1≤2^ii:=Nat.pow_pos (by omega);have h2:(m+aV q+m)*1≤(m+aV q+m)*2^ii:=Nat.mul_le_mul_left _ h1;have hst:=f6.resolve_left (fun h=>hc (.inr h));generalize (m+aV q+m)*2^ii=st at *;refine ⟨hq0,hl,uN hh,fun i k hk=>aB2 hk,by omega,?_,f3 (by omega)⟩;unfold eD at hst;rw [hql] at hst
  have e:(((st-m:Nat):Rat)+1)=(((st:Int)-m+1:Int):Rat):=by
   rw [←Jm,show ((st:Int)-m+1:Int)=((st-m+1:Nat):Int) by omega]
   exact_mod_cast rfl
  rw [e];exact hst
theorem NY {a:List Rat} {aF:Rat} {n0:Nat}:∀ k,0≤GP a aF n0 k∧∀ j,j<k→(a.getD (n0+j) 0).abs*aF^(n0+j)≤GP a aF n0 k
 | 0=>⟨Rat.le_refl,fun j h=>absurd h (Nat.not_lt_zero _)⟩
 | k+1=>by
   obtain ⟨h1,h2⟩:=NY (a:=a) (aF:=aF) (n0:=n0) k
   have e:GP a aF n0 (k+1)=if GP a aF n0 k<(a.getD (n0+k) 0).abs*aF^(n0+k) then (a.getD (n0+k) 0).abs*aF^(n0+k) else GP a aF n0 k:=by
    rw [GP];simp [lT]
   rw [e];refine ⟨by split<;>grind,fun j hj=>?_⟩;rcases Nat.lt_or_ge j k with h | h
   ·have:=h2 j h;split<;>grind
   ·obtain rfl:j=k:=by omega
    split<;>grind
open Go Go.Proofs Ord
def vD (p:Rat×Rat) (z:Rat):Prop:=p.1≤z∧z≤p.2
theorem uD {l:List Rat}:∀ i j:Nat,j<i→tM l i≤l.getD j 0
 | 0,_,h=>absurd h (Nat.not_lt_zero _)
 | i+1,j,h=>by
   rw [tM];rcases Nat.lt_or_ge j i with h1 | h1
   ·have ih:=uD (l:=l) i j h1;split
    ·rename_i hc;rcases hc with hc | hc
     ·omega
     ·exact Rat.le_trans (Rat.le_of_lt hc) ih
    ·exact ih
   ·obtain rfl:j=i:=by omega
    split
    ·exact Rat.le_refl
    ·rename_i hc;exact Rat.not_lt.1 fun h=>hc (.inr h)
theorem qG {l:List Rat}:∀ i j:Nat,j<i→l.getD j 0≤lT l i
 | 0,_,h=>absurd h (Nat.not_lt_zero _)
 | i+1,j,h=>by
   rw [lT];rcases Nat.lt_or_ge j i with h1 | h1
   ·have ih:=qG (l:=l) i j h1;split
    ·rename_i hc;rcases hc with hc | hc
     ·omega
     ·exact Rat.le_trans ih (Rat.le_of_lt hc)
    ·exact ih
   ·obtain rfl:j=i:=by omega
    split
    ·exact Rat.le_refl
    ·rename_i hc;exact Rat.not_lt.1 fun h=>hc (.inr h)
theorem Ef {a c d z:Rat} (h:c≤z∧z≤d):(a*c≤a*z∧a*z≤a*d)∨(a*d≤a*z∧a*z≤a*c):=by
 rcases Rat.le_total (a:=0) (b:=a) with ha | ha
 ·exact .inl ⟨Rat.mul_le_mul_of_nonneg_left h.1 ha,Rat.mul_le_mul_of_nonneg_left h.2 ha⟩
 ·have h1:=Rat.mul_le_mul_of_nonneg_left (c:=-a) h.1 (by grind);have h2:=Rat.mul_le_mul_of_nonneg_left (c:=-a) h.2 (by grind);exact .inr ⟨by grind,by grind⟩
theorem vD.mul {p q:Rat×Rat} {x y:Rat} (h:vD p x) (k:vD q y):vD (tY p.1 p.2 q.1 q.2,tA p.1 p.2 q.1 q.2) (x*y):=by
 have l0:tY p.1 p.2 q.1 q.2≤p.1*q.1:=uD (l:=oS p.1 p.2 q.1 q.2) 4 0 (by omega);have l1:tY p.1 p.2 q.1 q.2≤p.1*q.2:=uD (l:=oS p.1 p.2 q.1 q.2) 4 1 (by omega);have l2:tY p.1 p.2 q.1 q.2≤p.2*q.1:=uD (l:=oS p.1 p.2 q.1 q.2) 4 2 (by omega);have l3:tY p.1 p.2 q.1 q.2≤p.2*q.2:=uD (l:=oS p.1 p.2 q.1 q.2) 4 3 (by omega);have g0:p.1*q.1≤tA p.1 p.2 q.1 q.2:=qG (l:=oS p.1 p.2 q.1 q.2) 4 0 (by omega);have g1:p.1*q.2≤tA p.1 p.2 q.1 q.2:=qG (l:=oS p.1 p.2 q.1 q.2) 4 1 (by omega);have g2:p.2*q.1≤tA p.1 p.2 q.1 q.2:=qG (l:=oS p.1 p.2 q.1 q.2) 4 2 (by omega);have g3:p.2*q.2≤tA p.1 p.2 q.1 q.2:=qG (l:=oS p.1 p.2 q.1 q.2) 4 3 (by omega);have e1:=Ef (a:=y) h;have e2:=Ef (a:=p.1) k;have e3:=Ef (a:=p.2) k;show tY p.1 p.2 q.1 q.2≤x*y∧x*y≤tA p.1 p.2 q.1 q.2;generalize tY p.1 p.2 q.1 q.2=L at *;generalize tA p.1 p.2 q.1 q.2=H at *;rw [Rat.mul_comm y p.1,Rat.mul_comm y x,Rat.mul_comm y p.2] at e1;generalize p.1*q.1=a1 at *;generalize p.1*q.2=a2 at *;generalize p.2*q.1=a3 at *;generalize p.2*q.2=a4 at *;generalize p.1*y=b1 at *;generalize p.2*y=b2 at *;generalize x*y=z at *
 constructor
 ·rcases e1 with ⟨c1,c2⟩ | ⟨c1,c2⟩<;>rcases e2 with ⟨d1,d2⟩ | ⟨d1,d2⟩<;>rcases e3 with ⟨f1,f2⟩ | ⟨f1,f2⟩<;>grind
 ·rcases e1 with ⟨c1,c2⟩ | ⟨c1,c2⟩<;>rcases e2 with ⟨d1,d2⟩ | ⟨d1,d2⟩<;>rcases e3 with ⟨f1,f2⟩ | ⟨f1,f2⟩<;>grind
theorem vD.add {p q:Rat×Rat} {x y:Rat} (h:vD p x) (k:vD q y):vD (p.1+q.1,p.2+q.2) (x+y):=by
 obtain ⟨h1,h2⟩:=h;obtain ⟨k1,k2⟩:=k
 constructor<;>dsimp only <;> grind
def nP (M v:Nat→Rat×Rat):Nat→Rat×Rat
 | 0=>(0,0)
 | l+1=>((nP M v l).1+tY (M l).1 (M l).2 (v l).1 (v l).2,(nP M v l).2+tA (M l).1 (M l).2 (v l).1 (v l).2)
theorem Oz {M v:Nat→Rat×Rat} {f g:Nat→Rat} {m:Nat} (hf:∀ l,l<m→vD (M l) (f l)) (hg:∀ l,l<m→vD (v l) (g l)):∀ l,l≤m→vD (nP M v l) (sm (fun u=>f u*g u) l)
 | 0,_=>⟨Rat.le_refl,Rat.le_refl⟩
 | l+1,hl=>(Oz hf hg l (by omega)).add ((hf l (by omega)).mul (hg l (by omega)))
theorem Yp (z:Rat):(Nq z:Rat)≤z:=by
 rw [Rat.le_iff,Rat.num_intCast,Rat.den_intCast];have h:(z.den:Int)≠0:=by have:=z.den_pos;omega
 have:=Int.ediv_mul_le z.num h;unfold Nq;generalize z.num/(z.den:Int)*(z.den:Int)=y at *;omega
theorem FQ (q:Rat) (k:Nat):tJ q k≤q:=by
 have h:=Yp (q*qE k);have hp:0<2^k:=Nat.pow_pos (by omega);have hN:(0:Rat)<qE k:=Rat.intCast_pos.2 (by omega);have e:mkRat 1 (2^k)=1/qE k:=by rw [Rat.mkRat_eq_div];rfl
 unfold tJ;rw [e];have h1:(0:Rat)≤1/qE k:=mJ (by decide +kernel) hN;have h2:=Rat.mul_le_mul_of_nonneg_right h h1
 have h3:q*qE k*(1/qE k)=q:=by
  have:qE k≠0:=by grind
  grind
 rwa [h3] at h2
theorem RE (q:Rat) (k:Nat):q≤Zy q k:=by
 have:=FQ (-q) k;rw [←Zk];grind
theorem HA:∀ (p q:List Rat) (x:Rat),ev (mU p q) x=ev p x+ev q x
 | [],q,x=>by rw [mU,dI];grind
 | a::p,[],x=>by rw [mU,dI];grind
 | a::p,b::q,x=>by rw [mU,bM,bM,bM,HA p q x];grind
theorem UX (c:Rat):∀ (p:List Rat) (x:Rat),ev (scS c p) x=c*ev p x
 | [],x=>by show (0:Rat)=c*0;grind
 | a::p,x=>by
   show ev (c*a::scS c p) x=_;rw [bM,bM,UX c p x];grind
theorem QR (t:Rat):∀ (p:List Rat) (x:Rat),ev (XP t p) x=ev p (x+t)
 | [],x=>rfl
 | a::p,x=>by
   rw [XP,HA,HA,UX,bM,bM,dI,bM,QR t p x];grind
theorem UA {p q:List Rat} (h:∀ x,ev p x=ev q x) (k:Nat):co p k=co q k:=by
 have h1:=HI (mO p) (mO q) fun x=>by rw [kX,kX,h]
 unfold co;rw [←zU p,←zU q,h1]
theorem Tv (p:List Rat) (c:Rat) (k:Nat):co (dD p c) k=fP c p k:=by
 rw [←Lc];exact UA (fun x=>by rw [lF,QR]) k
theorem UL (E:List (List Rat)) (X:Rat) (i k:Nat):co ((bD E X).getD i []) k=fP X (E.getD i []) k:=by
 unfold bD;rcases Nat.lt_or_ge i E.length with h | h
 ·rw [List.getD_eq_getElem?_getD,List.getElem?_map,List.getD_eq_getElem?_getD,List.getElem?_eq_getElem h];exact Tv _ _ _
 ·rw [List.getD_eq_getElem?_getD,List.getElem?_map,List.getD_eq_getElem?_getD,List.getElem?_eq_none h];rfl
theorem VN (E:List (List Rat)) (X t:Rat) (i k:Nat):co ((bD E (X+t)).getD i []) k=fP t ((bD E X).getD i []) k:=by
 rw [UL];have h1:=FZ t ((bD E X).getD i []) (XP X (E.getD i [])) (fun k=>by rw [UL,Lc]);rw [h1,MP]
structure zQ (E:List (List Rat)) (X aF:Rat) (st:Nat) (t:Rat) (k:Int) (n:Nat):Prop where
 reg:tZ E X
 hv:jN (bD E X) (E.length-1) (aM E X)=some (aF,st)
 t2:t.abs*2≤aF
 hn:uE E X aF st t (E.length-1-1) k=some n
section
variable {E:List (List Rat)} {X aF t:Rat} {st n:Nat} {k:Int}
theorem zQ.Qy (w:zQ E X aF st t k n):yV (bD E X) (E.length-1) (aV (bD E X)) (aM E X) aF st:=by
 obtain ⟨h2,h5,hl,_⟩:=w.reg.facts;refine WU (by omega) (by rw [List.length_map];omega) ?_ hl w.hv;unfold aM bD;rw [List.getD_eq_getElem?_getD (l:=E.map _),List.getElem?_map,List.getD_eq_getElem?_getD (l:=E),List.getElem?_eq_getElem (by omega)];rfl
theorem zQ.WT (w:zQ E X aF st t k n):st≤n:=by
 have h:=w.hn;unfold uE GS at h;have h1:=(lJ (CJ (Qn (bD E X) (E.length-1) (aM E X) aF st t.abs (AZ k) (E.length-1-1)) (E.length-1)) (1501-st) st).1;split at h
 ·simp only [Option.some.injEq] at h;omega
 ·cases h
theorem zQ.zero (w:zQ E X aF st t k n) (l s:Nat):kC (bD E X) (E.length-1) (aS (bD E X) (E.length-1) (aM E X) (bG (E.length-1) l)) s=0:=by
 have R:=w.Qy;obtain ⟨h2,_⟩:=w.reg.facts;exact av6 R.l0 (by rw [List.length_map];omega) R.hl s
theorem zQ.bound (w:zQ E X aF st t k n) (l:Nat):0≤vW (bD E X) (E.length-1) (aM E X) aF st l∧∀ i,st-(E.length-1+aV (bD E X))≤i→Bo (vW (bD E X) (E.length-1) (aM E X) aF st l) (aS (bD E X) (E.length-1) (aM E X) (bG (E.length-1) l) i*aF^i):=by
 have R:=w.Qy;obtain ⟨h1,h2⟩:=NY (a:=aR (bD E X) (E.length-1) (aM E X) (bG (E.length-1) l) st) (aF:=aF) (n0:=st-(E.length-1+aV (bD E X))) (E.length-1+aV (bD E X));refine ⟨h1,R.bounded (w.zero l) h1 fun i hi1 hi2=>?_⟩;have hs:=R.hs;have h3:=h2 (i-(st-(E.length-1+aV (bD E X)))) (by omega);rw [show st-(E.length-1+aV (bD E X))+(i-(st-(E.length-1+aV (bD E X))))=i by omega] at h3;rw [←CO (bD E X) (E.length-1) (aM E X) (bG (E.length-1) l) hi2];exact ((Bo.abs (co (aR (bD E X) (E.length-1) (aM E X) (bG (E.length-1) l) st) i)).mul (Bo.self (cU (by have:=R.r0;grind) i))).mono h3
theorem zQ.entry (w:zQ E X aF st t k n) {d l N:Nat} (hd:d<E.length-1) (hN:n≤N) :
  vD (pT (bD E X) (E.length-1) (aM E X) aF st t k n d l,pI (bD E X) (E.length-1) (aM E X) aF st t k n d l) (gH (dU d (aS (bD E X) (E.length-1) (aM E X) (bG (E.length-1) l))) (N-d) t):=by
 have R:=w.Qy;have hs:=R.hs;have hst:=w.WT;have h2:t.abs+t.abs≤aF:=by have:=w.t2;grind
 obtain ⟨hb0,hb⟩:=w.bound l;have hsh:=ID (n:=n) (d:=d) R.r0 (zG t) h2 (by omega);obtain ⟨hp,hsN⟩:=Vp hb0 R.r0 (show d≤n by omega) hsh (fun i hi=>hb i (by omega)) N hN;have htn:=Wm (d:=d) hb0 R.r0 (zG t) (show d≤N by omega) hsN;have hS:ab8 (bD E X) (E.length-1) (aM E X) t n d l=gH (dU d (aS (bD E X) (E.length-1) (aM E X) (bG (E.length-1) l))) (n-d) t:=Vq _ _ _ _ _ (by omega);have hO:Al (bD E X) (E.length-1) (aM E X) aF st t n d l=fS (vW (bD E X) (E.length-1) (aM E X) aF st l) aF n d t.abs:=rfl;unfold pT pI vD;rw [hS,hO];obtain ⟨p1,p2⟩:=hp;generalize gH (dU d (aS (bD E X) (E.length-1) (aM E X) (bG (E.length-1) l))) (N-d) t=z at *;generalize gH (dU d (aS (bD E X) (E.length-1) (aM E X) (bG (E.length-1) l))) (n-d) t=y at *;generalize fS (vW (bD E X) (E.length-1) (aM E X) aF st l) aF n d t.abs=T at *;generalize fS (vW (bD E X) (E.length-1) (aM E X) aF st l) aF N d t.abs=T' at *;have e1:=FQ (y + -T) k.toNat;have e2:=RE (y+T) k.toNat
 constructor<;>dsimp only <;> grind
end
theorem Ph {E:List (List Rat)} {X t aF rho':Rat} {st st' n n':Nat} {k:Int} (w:zQ E X aF st t k n) (w':zQ E (X+t) rho' st' (-t) k n') {i j:Nat} (hi:i<E.length-1) (hj:j<E.length-1) :
  vD (nP (fun u=>(pT (bD E (X+t)) (E.length-1) (aM E (X+t)) rho' st' (-t) k n' i u,pI (bD E (X+t)) (E.length-1) (aM E (X+t)) rho' st' (-t) k n' i u))
   (fun u=>(pT (bD E X) (E.length-1) (aM E X) aF st t k n u j,pI (bD E X) (E.length-1) (aM E X) aF st t k n u j)) (E.length-1)) (if i=j then 1 else 0):=by
 have R:=w.Qy;have R':=w'.Qy
 obtain ⟨τ,hτ,htτ,hT,hτr⟩:∃ τ:Rat,0<τ∧Bo τ t∧Bo (aF-τ) t∧τ≤rho':=by
  have h1:=w.t2;have h2:=w'.t2;have r1:=R.r0;have r2:=R'.r0;have hba:=Bo.abs t;have hneg:(-t).abs=t.abs:=by unfold Rat.abs;split<;>split<;>grind
  rw [hneg] at h2;by_cases h0:t=0
  ·subst h0;rcases Rat.le_total (a:=aF) (b:=rho') with h | h
   ·exact ⟨aF,r1,Bo.zero (by grind),Bo.zero (by grind),h⟩
   ·exact ⟨rho',r2,Bo.zero (by grind),Bo.zero (by grind),Rat.le_refl⟩
  ·have hp:=BO h0;exact ⟨t.abs,hp,hba,hba.mono (by grind),by grind⟩
 obtain ⟨h2,_⟩:=w.reg.facts;obtain ⟨hb0,hb⟩:=w.bound j;have hback:=back (m:=E.length-1) (by omega) R R' (VN E X t) hτ htτ hT hτr (w.zero j) (g:=fun u=>aS (bD E (X+t)) (E.length-1) (aM E (X+t)) (bG (E.length-1) u)) (fun u _ s=>w'.zero u s) (fun u k hu hk=>Ob hk hu) hb0 hb i;have hinit:aS (bD E X) (E.length-1) (aM E X) (bG (E.length-1) j) i*fr i i=if i=j then 1 else 0:=Ob hi hj
 rw [hinit] at hback
 have key:∀ eta:Rat,0<eta→vD ((nP (fun u=>(pT (bD E (X+t)) (E.length-1) (aM E (X+t)) rho' st' (-t) k n' i u,pI (bD E (X+t)) (E.length-1) (aM E (X+t)) rho' st' (-t) k n' i u))
   (fun u=>(pT (bD E X) (E.length-1) (aM E X) aF st t k n u j,pI (bD E X) (E.length-1) (aM E X) aF st t k n u j)) (E.length-1)).1-eta,(nP (fun u=>(pT (bD E (X+t)) (E.length-1) (aM E (X+t)) rho' st' (-t) k n' i u,pI (bD E (X+t)) (E.length-1) (aM E (X+t)) rho' st' (-t) k n' i u))
   (fun u=>(pT (bD E X) (E.length-1) (aM E X) aF st t k n u j,pI (bD E X) (E.length-1) (aM E X) aF st t k n u j)) (E.length-1)).2+eta) (if i=j then 1 else 0):=by
  intro eta heta;obtain ⟨N,hN,hB⟩:=hback eta heta (n+n')
  have hin:=Oz (m:=E.length-1) (M:=fun u=>(pT (bD E (X+t)) (E.length-1) (aM E (X+t)) rho' st' (-t) k n' i u,pI (bD E (X+t)) (E.length-1) (aM E (X+t)) rho' st' (-t) k n' i u))
   (v:=fun u=>(pT (bD E X) (E.length-1) (aM E X) aF st t k n u j,pI (bD E X) (E.length-1) (aM E X) aF st t k n u j))
   (f:=fun u=>gH (dU i (aS (bD E (X+t)) (E.length-1) (aM E (X+t)) (bG (E.length-1) u))) N (-t))
   (g:=fun u=>gH (dU u (aS (bD E X) (E.length-1) (aM E X) (bG (E.length-1) j))) (N-u) t)
   (fun u hu=>by
    have:=w'.entry (d:=i) (l:=u) (N:=N+i) hi (by omega)
    rwa [Nat.add_sub_cancel] at this)
   (fun u hu=>w.entry (d:=u) (l:=j) (N:=N) hu (by omega)) (E.length-1) (Nat.le_refl _)
  have e:sm (fun u=>gH (dU i (aS (bD E (X+t)) (E.length-1) (aM E (X+t)) (bG (E.length-1) u))) N (-t)*gH (dU u (aS (bD E X) (E.length-1) (aM E X) (bG (E.length-1) j))) (N-u) t) (E.length-1)=sm (fun u=>gH (dU u (aS (bD E X) (E.length-1) (aM E X) (bG (E.length-1) j))) (N-u) t*gH (dU i (aS (bD E (X+t)) (E.length-1) (aM E (X+t)) (bG (E.length-1) u))) N (-t)) (E.length-1):=bJ fun u _=>Rat.mul_comm _ _;rw [e] at hin;obtain ⟨b1,b2⟩:=hB;obtain ⟨c1,c2⟩:=hin
  constructor<;>dsimp only at * <;> grind
 constructor
 ·refine Rat.not_lt.1 fun h=>?_
  have:=(key (((nP (fun u=>(pT (bD E (X+t)) (E.length-1) (aM E (X+t)) rho' st' (-t) k n' i u,pI (bD E (X+t)) (E.length-1) (aM E (X+t)) rho' st' (-t) k n' i u))
   (fun u=>(pT (bD E X) (E.length-1) (aM E X) aF st t k n u j,pI (bD E X) (E.length-1) (aM E X) aF st t k n u j)) (E.length-1)).1-(if i=j then 1 else 0))/2) (by grind)).1
  dsimp only at this;grind
 ·refine Rat.not_lt.1 fun h=>?_
  have:=(key (((if i=j then 1 else 0)-(nP (fun u=>(pT (bD E (X+t)) (E.length-1) (aM E (X+t)) rho' st' (-t) k n' i u,pI (bD E (X+t)) (E.length-1) (aM E (X+t)) rho' st' (-t) k n' i u))
   (fun u=>(pT (bD E X) (E.length-1) (aM E X) aF st t k n u j,pI (bD E X) (E.length-1) (aM E X) aF st t k n u j)) (E.length-1)).2)/2) (by grind)).2
  dsimp only at this;grind
open Go Go.Proofs Tryz Ord
def Lf:Tr:=.ret [(tF false)]
def aA2:Tr:=aP 38 [(G3 0),(G3 1)] [none] [6,7] [39,39] 3 false (bB .leq 3 8 0 2 0 4 (.split (.u 3 0) (aP 38 [(G3 1),(.agg [(U 0 3),(U 0 4),(U 0 5)])] [none] [11,13] [39,39] 3 false (bB .leq 3 14 0 4 0 4 (.ret [(W 5 0)]))) Lf))
theorem an4:aN prog f69 (fun _=>none) [.v (some 6), .v (some 3)]=aA2:=by kernel_rfl
def WD:Tr:=eY 53 0 none 118 124 (gE 54 0 37 0 118 125 126 (eY 55 0 (some 6) 123 127 (aP 67 [(G6 52),(G6 56)] [(some 6)] [121,128] [123,123] 123 true (aP 66 [(.agg [(U 41 0),(U 42 0),(U 43 0),(U 44 0),(U 45 0),(U 46 0)]),(G6 57)] [(some 6)] [114,129] [123,123] 123 true (bB .add 3 112 1 40 0 3 (.back 2 [lV 59 0,lV 58 0,lV 58 1,lV 58 2,lV 58 3,lV 58 4,lV 58 5]))))))
def Vv:Tr:=.split (.u 49 0) (.need (.call 68 [(WK 1)] [(some 3)]) (.call ⟨.value (.func 68),#[(.const (I3 1))],#[2]⟩) 39 true (aP 69 [(.agg [(U 41 0),(U 42 0),(U 43 0),(U 44 0),(U 45 0),(U 46 0)]),(G3 50)] [none] [136,137] [123,39] 4 true (.need (.prim [(W 51 0)] none) (.unOp .not 4 (tT 138)) 4 false (.split (.u 52 0) Lf (bB .add 3 106 1 37 0 3 (.back 1 [lV 36 0,lV 53 0])))))) (aP 69 [(.agg [(U 41 0),(U 42 0),(U 43 0),(U 44 0),(U 45 0),(U 46 0)]),(.agg [tN,(tE (.bool false)),tN])] [none] [136,137] [123,39] 4 true (.need (.prim [(W 50 0)] none) (.unOp .not 4 (tT 138)) 4 false (.split (.u 51 0) Lf (bB .add 3 106 1 37 0 3 (.back 1 [lV 36 0,lV 52 0])))))
def Wr:Tr:=bR .lss 3 108 110 40 0 47 0 4 (.split (.u 48 0) (gE 28 0 33 0 109 115 116 (eY 49 0 none 118 117 (gE 50 0 40 0 118 118 119 (eY 51 0 (some 6) 123 120 (gE 23 0 40 0 109 122 123 WD))))) (bR .eql 3 132 133 33 0 37 0 4 Vv))
def Wb:Tr:=.split (.u 35 0) (.loop 1 [lV 32 0,lK 0] (cY 23 0 103 109 (bR .lss 3 102 104 37 0 38 0 4 (.split (.u 39 0) (.loop 2 [lK 0,lN,(.w (.one (.c (.k (.bool false))))),lN,lN,(.w (.one (.c (.k (.bool false))))),lN] (cY 23 0 109 109 Wr)) (bB .add 3 100 1 33 0 3 (.back 0 [lV 36 0,lV 40 0])))))) (aP 16 [] [none] [] [] 4 true (.ret [(W 36 0)]))
def Yc:Tr:=bB .neq 55 89 0 24 0 4 (.split (.u 30 0) (aP 16 [] [none] [] [] 4 true (.ret [(W 31 0)])) (bB .neq 55 92 0 29 0 4 (.split (.u 31 0) (aP 16 [] [none] [] [] 4 true (.ret [(W 32 0)])) (.loop 0 [(.w (.one (.c (.k (.bool false))))),lK 0] (cY 23 0 97 109 (bR .lss 3 96 98 33 0 34 0 4 Wb))))))
def VV:Tr:=.split (.u 21 0) (aP 16 [] [none] [] [] 4 true (.ret [(W 22 0)])) (aP 56 [(W 3 0)] [none] [72] [3] 3 false (aP 59 [(W 10 0),(G3 12),(G3 14),(W 22 0)] [none,none] [69,70,71,73] [32,39,39,3] 110 false (aP 64 [(G3 12),(G3 14)] [(some 3)] [79,80] [39,39] 39 false (aP 65 [(G3 14)] [(some 3)] [82] [39] 39 false (aP 56 [(W 3 0)] [none] [84] [3] 3 false (aP 59 [(W 10 0),(G3 25),(G3 26),(W 27 0)] [none,none] [78,81,83,85] [32,39,39,3] 110 false Yc))))))
def Yd:Tr:=bB .neq 55 54 0 16 0 4 (.split (.u 17 0) (aP 16 [] [none] [] [] 4 true (.ret [(W 18 0)])) (cY 11 0 57 44 (bB .gtr 3 58 4 18 0 4 (.split (.u 19 0) (aP 16 [] [none] [] [] 4 true (.ret [(W 20 0)])) (aP 58 [(W 11 0),(G4 13)] [none] [62,63] [44,49] 4 false (.need (.prim [(W 20 0)] none) (.unOp .not 4 (tT 64)) 4 false VV))))))
def WE:Tr:=aP 39 [(G3 2)] [none] [33] [26] 4 false (.need (.prim [(W 8 0)] none) (.unOp .not 4 (tT 34)) 4 false (.split (.u 9 0) (aP 16 [] [none] [] [] 4 true (.ret [(W 10 0)])) (aP 57 [(G2 0)] [none,none] [39] [24] 107 false (aP 40 [(G3 1)] [(some 3),(some 4)] [44] [26] 82 false (aP 40 [(G3 2)] [(some 3),(some 4)] [49] [26] 82 false (aP 19 [(W 10 0)] [none] [53] [32] 55 false Yd))))))
def au5:Tr:=.need (.prim [(W 4 0)] none) (.unOp .not 4 (tT 25)) 4 false (.split (.u 5 0) (aP 16 [] [none] [] [] 4 true (.ret [(W 6 0)])) (aP 39 [(G3 1)] [none] [28] [26] 4 false (.need (.prim [(W 6 0)] none) (.unOp .not 4 (tT 29)) 4 false (.split (.u 7 0) (aP 16 [] [none] [] [] 4 true (.ret [(W 8 0)])) WE))))
def al2:Tr:=aP 55 [(G2 0)] [none] [24] [24] 4 false au5
theorem Mn:aN prog f9 (fun _=>none) [.v (some 2), .v (some 3), .v (some 3), .v none]=al2:=by kernel_rfl
theorem Mq {p:List (List bO)} {long:Int} {x:bO} (hp:Zo p) (hs:gC p=true) (hl1:-9223372036854775808≤long) (hl2:long<9223372036854775808) (hx:x.In) (hxs:x.short=true):SmallX (Ei p long) (QY p long) x.v (.of x.v):=
 (Ld (c:=⟨p,long,x,[],0,0⟩) ⟨hp,hl1,hl2,hx,by simp,(by intro y hy;cases hy),(by decide:(0:Nat)<256),(by decide:-9223372036854775808≤(0:Int)),(by decide:(0:Int)<9223372036854775808)⟩ (by
  unfold cZ.small;rw [decide_eq_true_iff];exact ⟨by intro y hy;(cases hy),hs,hxs,by simp⟩)).toSmallX
theorem Qv {E:List (List Rat)} {X:Rat} (hok:sA E=true):dD (E.getD (E.length-1) []) X ≠ []:=by
 intro h0;unfold sA at hok;rw [decide_eq_true_iff] at hok;obtain ⟨h2,_,_,h4⟩:=hok;have h5:=h4 _ (List.getElem?_eq_getElem (show E.length-1<E.length by omega));rw [List.getD_eq_getElem?_getD,List.getElem?_eq_getElem (show E.length-1<E.length by omega),Option.getD_some] at h0;generalize E[E.length-1]'(by omega)=p at h0 h5
 have hev:∀ x,ev p x=0:=fun x=>by
  have h:=lF p X (x-X);rw [h0,dI,show x-X+X=x by grind] at h;exact h.symm
 have h6:=HI (p:=trim p) (q:=[]) (mO p) (fun a h=>by cases h) fun x=>by rw [kX,hev,dI]
 have h7:=eM p;rw [h6] at h7;exact h5 h7.symm
section
variable {E:List (List Rat)} {ER:List (List RQ)} {X:Rat} {XR:RQ}
theorem Ru (hok:sA E=true):∃ p,(bD E X)[E.length-1]? = some p∧p[0]? = some (aM E X):=by
 have hne:=Qv (X:=X) hok;unfold sA at hok;rw [decide_eq_true_iff] at hok;refine ⟨dD (E.getD (E.length-1) []) X,?_,?_⟩
 ·rw [bD,List.getElem?_map,List.getD_eq_getElem?_getD,List.getElem?_eq_getElem (by omega)];rfl
 ·unfold aM;generalize dD (E.getD (E.length-1) []) X=l at *;cases l with
  | nil=>exact absurd rfl hne
  | cons x l=>rfl
theorem OU (h:SmallX E ER X XR) (hok:sA E=true):aK prog 43 [.one (eR ER),jM XR] (.ret [jM (lR E X).1, .one (.int .i64 (lR E X).2)]):=by
 obtain ⟨p,hp,hp0⟩:=Ru (X:=X) hok
 have h25:2≤E.length∧E.length≤5:=by
  unfold sA at hok;rw [decide_eq_true_iff] at hok;omega
 obtain ⟨m,hm⟩:∃ m,E.length-1=m:=⟨_,rfl⟩
 obtain ⟨B,h64,hB,hM⟩:=CU h (m:=m) (by omega) (by omega) ((h.UN p (List.mem_of_getElem? hp)).2 _ (List.mem_of_getElem? hp0));obtain ⟨B1,h641,hB1,hMC⟩:=ZV;obtain ⟨hh,ii,hrv,f1,f2,f3,f4,f5,f6⟩:=yJ (q:=bD E X) (m:=m) (lead:=aM E X) (by omega);rw [hm,←h.sh,uX,List.getElem?_map] at hp;obtain ⟨p0,hp1,rfl⟩:=Option.map_eq_some_iff.1 hp;rw [List.getElem?_map] at hp0;obtain ⟨l,hl0,hl⟩:=Option.map_eq_some_iff.1 hp0;unfold lR;rw [hm];generalize jN (bD E X) m (aM E X)=rv at *;rw [←hl] at f2 f3 f5 f6 hM;have hd:=Tf ER XR B1 (h.OQ (hMC _ h.xb.d).2) (by omega) h641 (Ok ER XR) rfl (bD E X) h.sh m p0 l hp1 hl0 B 101 hh ii (hM hh _ ii f1 (by omega)) (by rw [bD,List.length_map];omega) (by omega) (by omega) (by omega) h64 f1 f2 f3 (fun _=>f5) (fun _=>f6) f4;clear hM f1 f2 f3 f4 f5 f6;generalize (m+aV (bD E X)+m)*2^ii=st at *;split at hd
 ·rename_i hc;rw [if_pos hc] at hrv;subst hrv;exact hd
 ·rename_i hc;rw [if_neg hc] at hrv;subst hrv;exact hd
end
theorem JK (E:List (List Rat)) (ER:List (List RQ)) (X:Rat) (XR:RQ) (h:SmallX E ER X XR) (hok:sA E=true):aK prog 58 [(.one (eR ER):aG),(jM XR:aG)] (.ret [.one (.bool (decide ((lR E X).2≤24)))]):=by
 refine aD (args:=[.v none, .v (some 4)]) (ins:=[.v (.one (eR ER)), .v (jM XR)]) (hints:=(fun _=>none)) fo (by kernel_rfl) func58 ⟨rfl,rfl,trivial⟩ ?_;rw [Si];dsimp only [List.map,In.env,aA,aB];refine aC (OU h hok) rfl ?_;dsimp only [aA,aB];refine vn gW rfl ?_;dsimp only [aA,aB];rw [show decide (((lR E X).2:Int)≤24)=decide ((lR E X).2≤24) by rw [decide_eq_decide];omega];exact aL rfl
theorem Sn (a b x:Rat) (A B:Nat) (ha:Fit A a) (hb:Fit A b) (hx:Fit B x) (h:A+B≤34359738368):aK prog 69 [(BG a b:aG),(qT x:aG)] (.ret [.one (.bool (decide (a≤x∧x≤b)))]):=by
 refine aD (args:=[.v (some 6), .v (some 3)]) (ins:=[.v (BG a b), .v (qT x)]) (hints:=(fun _=>none)) fo (by kernel_rfl) func69 ⟨rfl,rfl,trivial⟩ ?_;rw [an4];dsimp only [List.map,In.env,aA,aB];refine aC (pV a x A B ha hx h) rfl ?_;dsimp only [aA,aB];refine vn gW rfl ?_;dsimp only [aA,aB];refine vs _ rfl (fun h2=>?_) (fun h2=>?_)
 ·refine aC (pV x b B A hx hb (by omega)) rfl ?_;dsimp only [aA,aB];refine vn gW rfl ?_;dsimp only [aA,aB];rw [show decide (mN x b≤0)=decide (a≤x∧x≤b) by rw [decide_eq_decide,gQ];exact ⟨fun hh=>⟨gQ.1 h2,hh⟩,fun hh=>hh.2⟩];exact aL rfl
 rw [show decide (a≤x∧x≤b)=false from decide_eq_false fun hh=>h2 (gQ.2 hh.1)];exact aL rfl
theorem Gq {E:List (List Rat)} {X t:Rat} {k:Int} (h:(Ko E X t k).2=0):∃ aF st n,zQ E X aF st t k n∧(Ko E X t k).1=LA (bD E X) (E.length-1) (aM E X) aF st t k n (E.length-1):=by
 unfold Ko at h ⊢;split at h
 ·rename_i hok;split at h
  ·rename_i hreg;cases hv:jN (bD E X) (E.length-1) (aM E X) with
   | none=>rw [hv] at h;dsimp only at h;omega
   | some z=>
     obtain ⟨aF,st⟩:=z;rw [hv] at h;dsimp only at h ⊢;split at h
     ·rename_i h2;cases hn:uE E X aF st t (E.length-1-1) k with
      | none=>rw [hn] at h;dsimp only at h;omega
      | some n=>
        refine ⟨aF,st,n,⟨⟨hok,hreg⟩,hv,h2,hn⟩,?_⟩;rw [if_pos hok,if_pos hreg,if_pos h2]
     ·dsimp only at h;omega
  ·dsimp only at h;omega
 ·dsimp only at h;omega
theorem JE {M v:Nat→Rat×Rat} {m H W:Nat} (hH:1≤H) (hM:∀ l,l<m→Fit H (M l).1∧Fit H (M l).2) (hv:∀ l,l<m→Fit W (v l).1∧Fit W (v l).2):∀ l,l≤m→Fit (l*(H+W+1)+1) (nP M v l).1∧Fit (l*(H+W+1)+1) (nP M v l).2
 | 0,_=>⟨Fit.zero (by omega),Fit.zero (by omega)⟩
 | l+1,h=>by
   obtain ⟨a1,a2⟩:=JE hH hM hv l (by omega);obtain ⟨b1,b2⟩:=Om hH (hM l (by omega)).1 (hM l (by omega)).2 (hv l (by omega)).1 (hv l (by omega)).2;rw [nP,Nat.add_mul,Nat.one_mul];exact ⟨(a1.add b1).mono (by omega),(a2.add b2).mono (by omega)⟩
theorem aT8:aX aG.Sub [.one (.exact (.slice none 0 0)), .one (.bool false), .one (.exact (.slice none 0 0)), .one (.exact (.slice none 0 0)), .one (.bool false), .one (.exact (.slice none 0 0))] ((ZX 0 0).map .one):=⟨eV.1,eV.2.1,eV.2.2.1,eV.1,eV.2.1,eV.2.2.1,trivial⟩
theorem uC.neg {t:Rat} (h:uC t):uC (-t):=⟨by rw [Rat.neg_den];exact h.d,by rw [Rat.neg_num,Int.natAbs_neg,Rat.neg_den];exact h.s⟩
theorem Qk {x y:bO} (hx:x.short=true) (hy:y.short=true):rI (x.v+y.v):=by
 obtain ⟨d1,s1⟩:=bO.zK hx;obtain ⟨d2,s2⟩:=bO.zK hy;have b1:Bd x.v.den 999 x.v:=⟨Nat.dvd_refl _,s1⟩
 have b2:Bd y.v.den 999 y.v:=⟨Nat.dvd_refl _,s2⟩
 have h:=(b1.mono (E:=x.v.den*y.v.den) (Nat.dvd_mul_right _ _) (Nat.le_refl _)).add (Nat.mul_ne_zero (vX x.v) (vX y.v)) (b2.mono (Nat.dvd_mul_left _ _) (Nat.le_refl _));refine ⟨Nat.le_trans (Nat.le_of_dvd (Nat.mul_pos x.v.den_pos y.v.den_pos) h.1) (Nat.le_trans (Nat.mul_le_mul d1 d2) (by decide)),Nat.le_trans h.2 (Nat.mul_le_mul_right _ (by omega))⟩
set_option maxHeartbeats 4000000 in
theorem Mi (p:List (List bO)) (long:Int) (hp:Zo p) (hl1:-9223372036854775808≤long) (hl2:long<9223372036854775808) (x:bO) (hx:x.In) (y:bO) (hy:y.In) (k:Int):aK prog 9 [(.agg [sP p, .int .i64 long]:aG),(nT x:aG),(nT y:aG),(.one (.int .i64 k):aG)] (.ret [.one (.bool true)]):=by
 refine aD (args:=[.v (some 2), .v (some 3), .v (some 3), .v none]) (ins:=[.v (.agg [sP p, .int .i64 long]), .v (nT x), .v (nT y), .v (.one (.int .i64 k))]) (hints:=(fun _=>none)) fo (by kernel_rfl) func9 ⟨rfl,rfl,rfl,rfl,trivial⟩ ?_;rw [Mn];dsimp only [List.map,In.env,aA,aB];refine aC (GW p long hp) rfl ?_;dsimp only [aA,aB];refine vn mL rfl ?_;dsimp only [aA,aB];refine Bt (!gC p) rfl (fun h2=>?_) (fun h2=>?_)
 ·refine aC jC rfl ?_;exact aL rfl
 have hsp:gC p=true:=by cases hh:gC p<;>simp_all
 refine aC (IJ x hx) rfl ?_;dsimp only [aA,aB];refine vn mL rfl ?_;dsimp only [aA,aB];refine Bt (!x.short) rfl (fun h7=>?_) (fun h7=>?_)
 ·refine aC jC rfl ?_;exact aL rfl
 have hxs:x.short=true:=by cases hh:x.short<;>simp_all
 refine aC (IJ y hy) rfl ?_;dsimp only [aA,aB];refine vn mL rfl ?_;dsimp only [aA,aB];refine Bt (!y.short) rfl (fun h12=>?_) (fun h12=>?_)
 ·refine aC jC rfl ?_;exact aL rfl
 have hys:y.short=true:=by cases hh:y.short<;>simp_all
 have hX:=Mq hp hsp hl1 hl2 hx hxs;have hX2:=hX.at (Qk hxs hys);obtain ⟨E,hE⟩:∃ E,E=Ei p long:=⟨_,rfl⟩
 obtain ⟨ER,hER⟩:∃ ER,ER=QY p long:=⟨_,rfl⟩
 have hBR:=Jg p long hp hsp hl1 hl2;rw [←hE,←hER] at hX hBR hX2;obtain ⟨g,hg⟩:∃ g,g=KE k:=⟨_,rfl⟩
 have hg2:g≤256:=by rw [hg];unfold KE;split<;>omega
 have hyb:=(bO.few hys).t;have hxf:=hx.Xp;have hyf:=hy.Xp;have hce:=gJ E (by have:=hX.e1.l;omega) (fun p hp=>by have:=(hX.e1.p p hp).1;omega);refine aC hBR rfl ?_;dsimp only [aA,aB];refine aC (HD x hx) rfl ?_;dsimp only [aA,aB];refine aC (HD y hy) rfl ?_;dsimp only [aA,aB];refine aC hce rfl ?_;dsimp only [aA,aB];refine vn iP rfl ?_;dsimp only [aA,aB];refine vs _ rfl (fun h20=>?_) (fun h20=>?_)
 ·refine aC jC rfl ?_;exact aL rfl
 have hok:sA E=true:=by
  by_cases hh:sA E=true
  ·exact hh
  ·rw [if_neg hh] at h20;omega
 refine vn (aQ xP (List.length_map _)) rfl ?_;dsimp only [aA,aB];refine vn eF rfl ?_;dsimp only [aA,aB];refine vs _ rfl (fun h25=>?_) (fun h25=>?_)
 ·refine aC jC rfl ?_;exact aL rfl
 refine aC (JK E ER x.v _ hX hok) rfl ?_;dsimp only [aA,aB];refine vn mL rfl ?_;dsimp only [aA,aB];refine Bt (!decide ((lR E x.v).2≤24)) rfl (fun h30=>?_) (fun h30=>?_)
 ·refine aC jC rfl ?_;exact aL rfl
 refine aC (Oi k) rfl ?_;rw [←hg];dsimp only [aA,aB];obtain ⟨P1,hP1⟩:∃ P,Ko E x.v y.v g=P:=⟨_,rfl⟩
 obtain ⟨P2,hP2⟩:∃ P,Ko E (x.v+y.v) (-y.v) g=P:=⟨_,rfl⟩
 have hm1:=vG hX y.v g hyb hg2;have hm2:=vG hX2 (-y.v) g hyb.neg hg2;rw [hP1] at hm1;rw [hP2] at hm2;refine aC hm1 rfl ?_;dsimp only [aA,aB];refine aC (kF x.v y.v 513 513 hxf hyf (by omega)) rfl ?_;dsimp only [aA,aB];refine aC (De y.v) rfl ?_;dsimp only [aA,aB];refine aC (Oi k) rfl ?_;rw [←hg];dsimp only [aA,aB];refine aC hm2 rfl ?_;dsimp only [aA,aB];refine vn iP rfl ?_;dsimp only [aA,aB];refine vs _ rfl (fun h40=>?_) (fun h40=>?_)
 ·refine aC jC rfl ?_;exact aL rfl
 refine vn iP rfl ?_;dsimp only [aA,aB];refine vs _ rfl (fun h44=>?_) (fun h44=>?_)
 ·refine aC jC rfl ?_;exact aL rfl
 have e1:P1.2=0:=by omega
 have e2:P2.2=0:=by omega
 rw [←hP1] at e1;rw [←hP2] at e2;obtain ⟨aF,st,n,w,hw⟩:=Gq e1;obtain ⟨rho',st',n',w',hw'⟩:=Gq e2;rw [hP1] at hw;rw [hP2] at hw';obtain ⟨hE2,hE5,_,_⟩:=w.reg.facts;have hfa:=fun d l=>hX.RT w.reg (QI w.reg w.hv hyb w.t2 hg2) w.hn (d:=d) (l:=l);have hfb:=fun d l=>hX2.RT w'.reg (QI w'.reg w'.hv hyb.neg w'.t2 hg2) w'.hn (d:=d) (l:=l);have hin:=fun i j=>Ph w w' (i:=i) (j:=j);obtain ⟨MA,hMA⟩:∃ MA:Nat→Nat→Rat×Rat,(fun d l=>(pT (bD E x.v) (E.length-1) (aM E x.v) aF st y.v g n d l,pI (bD E x.v) (E.length-1) (aM E x.v) aF st y.v g n d l))=MA:=⟨_,rfl⟩
 obtain ⟨MB,hMB⟩:∃ MB:Nat→Nat→Rat×Rat,(fun d l=>(pT (bD E (x.v+y.v)) (E.length-1) (aM E (x.v+y.v)) rho' st' (-y.v) g n' d l,pI (bD E (x.v+y.v)) (E.length-1) (aM E (x.v+y.v)) rho' st' (-y.v) g n' d l))=MB:=⟨_,rfl⟩
 have ha1:P1.1=(List.range (E.length-1)).map fun d=>[.slice 6 ((List.range (E.length-1)).map fun l=>ZX (MA d l).1 (MA d l).2)]:=by rw [hw,←hMA]
 have hb1:P2.1=(List.range (E.length-1)).map fun d=>[.slice 6 ((List.range (E.length-1)).map fun l=>ZX (MB d l).1 (MB d l).2)]:=by rw [hw',←hMB]
 have hfa':∀ d l,d<E.length-1→l<E.length-1→Fit 12000000 (MA d l).1∧Fit 12000000 (MA d l).2:=by rw [←hMA];exact hfa
 have hfb':∀ d l,d<E.length-1→l<E.length-1→Fit 12000000 (MB d l).1∧Fit 12000000 (MB d l).2:=by rw [←hMB];exact hfb
 have hin':∀ i j,i<E.length-1→j<E.length-1→vD (nP (MB i) (fun u=>MA u j) (E.length-1)) (if i=j then 1 else 0):=by rw [←hMA,←hMB];exact hin
 rw [ha1,hb1];obtain ⟨m,hm⟩:∃ m,E.length-1=m:=⟨_,rfl⟩
 rw [hm] at hfa' hfb' hin' ⊢;have hm4:m≤4:=by omega
 clear hfa hfb hin ha1 hb1 hMA hMB hw hw' w w' e1 e2 hP1 hP2 hm1 hm2 hce hBR hX hX2
 have hdf:∀ i j,i<m→j<m→∀ l,l≤m→Fit 100000000 (nP (MB i) (fun u=>MA u j) l).1∧Fit 100000000 (nP (MB i) (fun u=>MA u j) l).2:=fun i j hi hj l hl=>by
  obtain ⟨q1,q2⟩:=JE (M:=MB i) (v:=fun u=>MA u j) (m:=m) (H:=12000000) (W:=12000000) (by omega) (fun l hl=>hfb' i l hi hl) (fun l hl=>hfa' l j hl hj) l hl;have:l*(12000000+12000000+1)+1≤4*(12000000+12000000+1)+1:=Nat.succ_le_succ (Nat.mul_le_mul_right _ (by omega));exact ⟨q1.mono (by omega),q2.mono (by omega)⟩
 refine bF {i:Nat // i≤m} (fun g=>[.one (.bool false), .one (.int .i64 g.1)]) (fun g=>m-g.1) ⟨0,Nat.zero_le _⟩ aO.rfl (fun _=>rfl) ?_;rintro ⟨i,hi⟩;dsimp only [aA,aB] at hi ⊢;refine vn (aQ Kw ((List.length_map _).trans List.length_range)) rfl ?_;dsimp only [aA,aB];refine vn bE rfl ?_;dsimp only [aA,aB];refine vs _ rfl (fun h50=>?_) (fun h50=>?_)
 ·have hi1:i<m:=by omega
  refine bF {j:Nat // j≤m} (fun g=>[.one (.bool false), .one (.int .i64 g.1)]) (fun g=>m-g.1) ⟨0,Nat.zero_le _⟩ aO.rfl (fun _=>rfl) ?_;rintro ⟨j,hj⟩;dsimp only [aA,aB] at hj ⊢;refine vn (aQ Kw ((List.length_map _).trans List.length_range)) rfl ?_;dsimp only [aA,aB];refine vn bE rfl ?_;dsimp only [aA,aB];refine vs _ rfl (fun h54=>?_) (fun h54=>?_)
  ·have hj1:j<m:=by omega
   have hdij:=hdf i j hi1 hj1;refine bF {l:Nat // l≤m} (fun g=>(.one (.int .i64 g.1):aG)::(ZX (nP (MB i) (fun u=>MA u j) g.1).1 (nP (MB i) (fun u=>MA u j) g.1).2).map .one) (fun g=>m-g.1) ⟨0,Nat.zero_le _⟩ ⟨aG.Sub.same,aT8⟩ (fun _=>rfl) ?_;rintro ⟨l,hl⟩;dsimp only [aA,aB,List.map] at hl ⊢;refine vn (aQ Kw ((List.length_map _).trans List.length_range)) rfl ?_;dsimp only [aA,aB];refine vn bE rfl ?_;dsimp only [aA,aB];refine vs _ rfl (fun h58=>?_) (fun h58=>?_)
   ·have hl1:l<m:=by omega
    refine vn (aY Kw (by omega) (Int.toNat_natCast i) (List.getElem?_range hi1)) rfl ?_;dsimp only [aA,aB];refine vn (bH Zp) rfl ?_;dsimp only [aA,aB];refine vn (aY Zs (by omega) (Int.toNat_natCast l) (List.getElem?_range hl1)) rfl ?_;dsimp only [aA,aB];refine vn (bZ aa1 (by decide) (by simp) (.inl rfl)) rfl ?_;dsimp only [aA,aB];refine vn (aY Kw (by omega) (Int.toNat_natCast l) (List.getElem?_range hl1)) rfl ?_;dsimp only [aA,aB];refine vn (bH Zp) rfl ?_;dsimp only [aA,aB];refine vn (aY Zs (by omega) (Int.toNat_natCast j) (List.getElem?_range hj1)) rfl ?_;dsimp only [aA,aB];refine vn (bZ aa1 (by decide) (by simp) (.inl rfl)) rfl ?_;dsimp only [aA,aB];obtain ⟨b1,b2⟩:=hfb' i l hi1 hl1;obtain ⟨a1,a2⟩:=hfa' l j hl1 hj1;refine aC (av2 (MB i l).1 (MB i l).2 (MA l j).1 (MA l j).2 12000000 12000000 (by omega) b1 b2 a1 a2 (by omega)) rfl ?_;dsimp only [aA,aB];obtain ⟨q1,q2⟩:=Om (by omega) b1 b2 a1 a2;obtain ⟨d1,d2⟩:=hdij l (by omega);refine aC (Ua _ _ _ _ 100000000 (12000000+12000000) d1 d2 q1 q2 (by omega)) rfl ?_;dsimp only [aA,aB];refine vn (aE (by omega) (by omega)) rfl ?_;dsimp only [aA,aB];exact aU rfl ⟨⟨l+1,by omega⟩,aO.rfl,by show m-(l+1)<m-l;omega⟩
   refine vn bW rfl ?_;dsimp only [aA,aB];refine vs _ rfl (fun h72=>?_) (fun h72=>?_)
   ·refine aC (iV 1 (by omega) (by omega)) rfl ?_;dsimp only [aA,aB];obtain rfl:l=m:=by omega
    obtain ⟨d1,d2⟩:=hdij l (Nat.le_refl _);obtain ⟨s1,s2⟩:=hin' i j hi1 hj1;rw [if_pos (show i=j by omega)] at s1 s2;refine aC (Sn _ _ ((1:Int):Rat) 100000000 64 d1 d2 (by decide +kernel) (by omega)) rfl ?_;rw [show decide ((nP (MB i) (fun u=>MA u j) l).1≤((1:Int):Rat)∧((1:Int):Rat)≤(nP (MB i) (fun u=>MA u j) l).2)=true from decide_eq_true (by rw [show ((1:Int):Rat)=1 by decide +kernel];exact ⟨s1,s2⟩)];dsimp only [aA,aB];refine vn mL rfl ?_;dsimp only [aA,aB];refine Bt false rfl (fun h=>by cases h) (fun _=>?_);refine vn (aE (by omega) (by omega)) rfl ?_;dsimp only [aA,aB];exact aU rfl ⟨⟨j+1,by omega⟩,aO.rfl,by show _-(j+1)<_-j;omega⟩
   obtain rfl:l=m:=by omega
   obtain ⟨d1,d2⟩:=hdij l (Nat.le_refl _);obtain ⟨s1,s2⟩:=hin' i j hi1 hj1;rw [if_neg (show ¬ i=j by omega)] at s1 s2;refine BW (show aO _ [BG (nP (MB i) (fun u=>MA u j) l).1 (nP (MB i) (fun u=>MA u j) l).2,qT 0] from ⟨aG.Sub.same,eV,trivial⟩) (Sn _ _ 0 100000000 64 d1 d2 (Fit.zero (by omega)) (by omega)) rfl ?_;rw [show decide ((nP (MB i) (fun u=>MA u j) l).1≤(0:Rat)∧(0:Rat)≤(nP (MB i) (fun u=>MA u j) l).2)=true from decide_eq_true ⟨s1,s2⟩];dsimp only [aA,aB];refine vn mL rfl ?_;dsimp only [aA,aB];refine Bt false rfl (fun h=>by cases h) (fun _=>?_);refine vn (aE (by omega) (by omega)) rfl ?_;dsimp only [aA,aB];exact aU rfl ⟨⟨j+1,by omega⟩,aO.rfl,by show _-(j+1)<_-j;omega⟩
  refine vn (aE (by omega) (by omega)) rfl ?_;dsimp only [aA,aB];exact aU rfl ⟨⟨i+1,by omega⟩,aO.rfl,by show m-(i+1)<m-i;omega⟩
 refine aC jC rfl ?_;exact aL rfl
end Go.Sy
