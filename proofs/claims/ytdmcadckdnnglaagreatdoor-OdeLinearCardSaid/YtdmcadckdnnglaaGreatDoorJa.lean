/- Part. -/
import Derived.Test.YtdmcadckdnnglaaGreatDoorIc
set_option linter.all false
namespace Go.Sy
open Go Go.Proofs Tryz Ord
def Wi (s x:Rat):Prop:=-s≤x∧x≤s
theorem Wi.mul {a b x y:Rat} (h:Wi a x) (k:Wi b y):Wi (a*b) (x*y):=by
 obtain ⟨h1,h2⟩:=h;obtain ⟨k1,k2⟩:=k;have e1:=Rat.mul_nonneg (a:=a-x) (b:=b+y) (by grind) (by grind);have e2:=Rat.mul_nonneg (a:=a+x) (b:=b-y) (by grind) (by grind);have e3:=Rat.mul_nonneg (a:=a-x) (b:=b-y) (by grind) (by grind);have e4:=Rat.mul_nonneg (a:=a+x) (b:=b+y) (by grind) (by grind)
 constructor<;>grind
theorem Wi.pow {a x:Rat} (h:Wi a x):∀ k:Nat,Wi (a^k) (x^k)
 | 0=>by rw [Rat.pow_zero,Rat.pow_zero];constructor<;>decide +kernel
 | k+1=>by rw [Rat.pow_succ,Rat.pow_succ];exact (Wi.pow h k).mul h
theorem Wi.abs (x:Rat):Wi x.abs x:=Sf Rat.le_refl
theorem MT {r:List Rat} {aH t:Rat} (ht:Wi aH t):∀ k,k≤r.length→Wi (jZ r aH k) (ev (r.take k) t*t)
 | 0,_=>by
   rw [List.take_zero,eM,jZ,Rat.zero_mul];constructor<;>grind
 | k+1,hk=>by
   have ih:=MT (r:=r) ht k (by omega);have h1:=(Wi.abs (r.getD k 0)).mul (ht.pow (k+1));have hk0:r[k]? = some (r.getD k 0):=cG;rw [jK hk0,jZ];have e:(ev (r.take k) t+r.getD k 0*t^k)*t=ev (r.take k) t*t+r.getD k 0*t^(k+1):=by rw [Rat.pow_succ];grind
   rw [e];obtain ⟨a1,a2⟩:=ih;obtain ⟨b1,b2⟩:=h1
   constructor<;>grind
theorem Wy {p:List Rat} {aH t:Rat} (h:jZ (p.drop 1) aH (p.length-1)+jZ (p.drop 1) aH (p.length-1)≤(p.getD 0 0).abs) (h0:p.getD 0 0≠0) (ht:Wi aH t):ev p t≠0:=by
 cases p with
 | nil=>exact absurd rfl h0
 | cons a r=>
   have hw:=MT ht r.length (bB _);rw [List.take_length] at hw;rw [List.drop_succ_cons,List.drop_zero,List.length_cons,Nat.add_sub_cancel,List.getD_cons_zero] at h;rw [List.getD_cons_zero] at h0;rw [bV];generalize jZ r aH r.length=s at *;generalize ev r t*t=z at *;obtain ⟨h1,h2⟩:=hw;intro e;unfold Rat.abs at h;split at h<;>grind
theorem Of {q:List (List Rat)} {m:Nat} {lead aH:Rat} {st:Nat} (h:dN q m lead=some (aH,st)) (hm:1≤m:=by omega):jZ ((q.getD m []).drop 1) aH ((q.getD m []).length-1)+jZ ((q.getD m []).drop 1) aH ((q.getD m []).length-1)≤lead.abs:=by
 obtain ⟨hh,ii,hrv,f1,_,f3,_,_,_⟩:=yL (q:=q) (m:=m) (lead:=lead) hm;rw [h] at hrv;split at hrv
 ·cases hrv
 ·rename_i hc;simp only [aJ,Prod.mk.injEq] at hrv;obtain ⟨rfl,_⟩:=hrv;exact f3 (by omega)
theorem kV.aY1 {E:List (List Rat)} {c t aH:Rat} {st:Nat} (h:kV E c) (hv:dN (bW E c) (E.length-1) (aZ E c)=some (aH,st)) (ht:Wi aH t):kV E (c+t):=by
 obtain ⟨h2,h5,hld,_⟩:=h.facts;have hr:=Of hv
 have hg:(bW E c).getD (E.length-1) []=dU (E.getD (E.length-1) []) c:=by
  rw [bW,eX,cU,eX,bI (by omega)];rfl
 rw [hg] at hr;have hn:=Wy (p:=dU (E.getD (E.length-1) []) c) hr hld ht;refine ⟨h.ok,?_⟩;unfold sF;rw [decide_eq_true_iff];intro p hp;rw [qJ] at hn;rw [eX,hp] at hn;rw [show c+t=t+c by grind];exact hn
theorem Dn {aH x c:Rat} (h0:0<aH):(dQ aH x c=x-c∧Wi (eU aH) (x-c))∨(dQ aH x c=eU aH∧eU aH<x-c)∨(dQ aH x c = -eU aH∧x-c < -eU aH):=by
 have e:=Bi aH;unfold dQ;rw [Dv,De];generalize eU aH=a at *;generalize x-c=d at *;unfold Wi;split
 ·split<;>grind
 ·split<;>grind
theorem QO {h:Nat} (hh:h≤62):(eU (aY h)).den∣2^63:=by
 have h1:Bd (2^h) 1 (mkRat 1 (2^h)):=Bd.mk (Nat.pos_iff_ne_zero.1 (Nat.pow_pos (by omega))) (by have:=Nat.pow_pos (a:=2) (n:=h) (by omega);simp;omega);have h2:=(Bd.int (D:=1) (n:=4) (S:=4) (by omega)).mul (by omega) (by decide) (h1.mono (Nat.pow_dvd_pow 2 hh) (bB _));have h3:Bd 2 1 (mkRat 1 (2^1)):=by decide
 exact (h2.mul (by decide) (by decide) h3).1
theorem den_add {D:Nat} {x y:Rat} (h0:D≠0) (hx:x.den∣D) (hy:y.den∣D):(x+y).den∣D:=
 (Bd.add h0 (show Bd D x.num.natAbs x from ⟨hx,Nat.le_mul_of_pos_right _ x.den_pos⟩) (show Bd D y.num.natAbs y from ⟨hy,Nat.le_mul_of_pos_right _ y.den_pos⟩)).1
theorem GC {x:Rat} {S:Nat}:x.num.natAbs≤S*x.den↔Wi (((S:Nat):Int):Rat) x:=by
 unfold Wi;rw [Rat.le_iff,Rat.le_iff,←Rat.intCast_neg,Rat.num_intCast,Rat.num_intCast,Rat.den_intCast,Rat.den_intCast];have e:((S*x.den:Nat):Int)=(S:Int)*(x.den:Int):=Int.natCast_mul _ _;have e2:-(S:Int)*(x.den:Int) = -((S:Int)*(x.den:Int)):=Int.neg_mul _ _;rw [e2];omega
structure AH (X x c:Rat):Prop where
 d:c=x∨c.den∣X.den*2^63
 b:(X≤c∧c≤x)∨(x≤c∧c≤X)
theorem AH.PR {X x c:Rat} (h:AH X x c) (hX:X.den≤999) (hXf:kG X) (hx:kG x):kG c:=by
 refine ⟨?_,GC.2 ?_⟩
 ·rcases h.d with rfl | h
  ·exact hx.d
  ·exact Nat.le_trans (Nat.le_of_dvd (Nat.mul_pos X.den_pos (by decide)) h) (Nat.le_trans (Nat.mul_le_mul_right _ hX) (by decide))
 ·obtain ⟨a1,a2⟩:=GC.1 hXf.s;obtain ⟨b1,b2⟩:=GC.1 hx.s
  constructor<;>rcases h.b with ⟨k1,k2⟩ | ⟨k1,k2⟩<;>grind
theorem AH.next {X x c:Rat} (h:AH X x c) (hc:c≠x) {hh:Nat} (h62:hh≤62):AH X x (c+dQ (aY hh) x c):=by
 have hp:=qO hh;have he:=Bi (aY hh);have hd:=QO h62;have hcd:c.den∣X.den*2^63:=h.d.resolve_left hc;have h0:X.den*2^63≠0:=Nat.mul_ne_zero (kZ X) (by decide);have hb:=h.b;rcases Dn (x:=x) (c:=c) hp with ⟨e,h1⟩ | ⟨e,h1⟩ | ⟨e,h1⟩
 ·rw [e];have ex:c+(x-c)=x:=by grind
  rw [ex];exact ⟨.inl rfl,by grind⟩
 ·rw [e];refine ⟨.inr (den_add h0 hcd (Nat.dvd_trans hd (Nat.dvd_mul_left _ _))),?_⟩;generalize eU (aY hh)=a at *
  grind
 ·rw [e];refine ⟨.inr (den_add h0 hcd (Nat.dvd_trans (show (-eU (aY hh)).den∣2^63 from hd) (Nat.dvd_mul_left _ _))),?_⟩;generalize eU (aY hh)=a at *
  grind
theorem ao6 {aH x c:Rat} (h0:0<aH):Wi aH (dQ aH x c)∧(dQ aH x c).abs*2≤aH:=by
 have he:=Bi aH;rcases Dn (x:=x) (c:=c) h0 with ⟨e,h1⟩ | ⟨e,h1⟩ | ⟨e,h1⟩<;>rw [e]<;>unfold Wi at * <;> generalize eU aH=a at * <;> generalize x-c=z at * <;> unfold Rat.abs<;>(refine ⟨by grind,?_⟩;split<;>grind)
theorem uH {x:Rat} {H:Nat} (h:Fit H x):x.num.natAbs≤2^H*x.den:=
 Nat.le_trans (Nat.le_of_lt h.1) (Nat.le_mul_of_pos_right _ x.den_pos)
theorem Bk {x y:Rat} {S T:Nat} (hx:x.num.natAbs≤S*x.den) (hy:y.num.natAbs≤T*y.den):(x*y).num.natAbs≤S*T*(x*y).den:=
 (Bd.mul (kZ x) (kZ y) (show Bd x.den S x from ⟨Nat.dvd_refl _,hx⟩) (show Bd y.den T y from ⟨Nat.dvd_refl _,hy⟩)).2
theorem NB {x y:Rat} {S T:Nat} (hx:x.num.natAbs≤S*x.den) (hy:y.num.natAbs≤T*y.den):(x+y).num.natAbs≤(S+T)*(x+y).den:=by
 have h1:Bd (x.den*y.den) S x:=⟨Nat.dvd_mul_right _ _,hx⟩
 have h2:Bd (x.den*y.den) T y:=⟨Nat.dvd_mul_left _ _,hy⟩
 exact (h1.add (Nat.mul_ne_zero (kZ x) (kZ y)) h2).2
theorem Tp {a b c d:Rat} {H W:Nat} (ha:Fit H a) (hb:Fit H b) (hc:Fit W c) (hd:Fit W d):(vM a b c d).num.natAbs≤2^(H+W)*(vM a b c d).den∧(vI a b c d).num.natAbs≤2^(H+W)*(vI a b c d).den:=by
 have hm:∀ x∈lH a b c d,x.num.natAbs≤2^(H+W)*x.den:=fun x hx=>by
  rw [Nat.pow_add];simp only [lH,List.mem_cons,List.not_mem_nil,or_false] at hx;rcases hx with rfl | rfl | rfl | rfl
  ·exact Bk (uH ha) (uH hc)
  ·exact Bk (uH ha) (uH hd)
  ·exact Bk (uH hb) (uH hc)
  ·exact Bk (uH hb) (uH hd)
 constructor
 ·unfold vM;rcases CF (l:=lH a b c d) 4 (by simp [lH]) with e | h
  ·rw [e];exact bR _
  ·exact hm _ h
 ·unfold vI;rcases BT (l:=lH a b c d) 4 (by simp [lH]) with e | h
  ·rw [e];exact bR _
  ·exact hm _ h
theorem Jf {M v:Nat→Rat×Rat} {m H W:Nat} (hM:∀ l,l<m→Fit H (M l).1∧Fit H (M l).2) (hv:∀ l,l<m→Fit W (v l).1∧Fit W (v l).2):∀ l,l≤m→(wT M v l).1.num.natAbs≤l*2^(H+W)*(wT M v l).1.den∧(wT M v l).2.num.natAbs≤l*2^(H+W)*(wT M v l).2.den
 | 0,_=>⟨bR _,bR _⟩
 | l+1,h=>by
   obtain ⟨a1,a2⟩:=Jf hM hv l (by omega);obtain ⟨b1,b2⟩:=Tp (hM l (by omega)).1 (hM l (by omega)).2 (hv l (by omega)).1 (hv l (by omega)).2;rw [wT,Nat.add_mul,Nat.one_mul];exact ⟨NB a1 b1,NB a2 b2⟩
theorem RJ {m H W d K:Nat} {k:Int} {M:Nat→Nat→Rat×Rat} {v:VS} (hk:k≤256) (hm:m≤4) (hM:∀ l,l<m→Fit H (M d l).1∧Fit H (M d l).2) (hvl:v.length=m) (hv:∀ p∈v,Fit W p.1∧Fit W p.2) (hK:H+W+300≤K):Fit K (zN m k M v d).1∧Fit K (zN m k M v d).2:=by
 obtain ⟨h1,h2⟩:=Jf (M:=M d) (v:=fun l=>v.getD l (0,0)) (m:=m) (W:=W) hM (fun l hl=>hv _ (cS (xW))) m (bB _)
 have r1:m*2^(H+W)*2^k.toNat<2^K:=by
  have e:m*2^(H+W)*2^k.toNat≤2^2*2^(H+W)*2^k.toNat:=Nat.mul_le_mul_right _ (Nat.mul_le_mul_right _ hm);rw [←Nat.pow_add,←Nat.pow_add] at e;exact Nat.lt_of_le_of_lt e (Nat.pow_lt_pow_right (by omega) (by omega))
 have r2:2^k.toNat<2^K:=Nat.pow_lt_pow_right (by omega) (by omega);exact ⟨Ac h1 r1 r2,NL h2 r1 r2⟩
def Jk (f:Nat):Nat:=2000+(64-f)*12000300
theorem Bw {f:Nat}:2000≤Jk f∧Jk f≤768021200:=by unfold Jk;omega
theorem OO {f:Nat} (h:f+1≤64):12000000+Jk (f+1)+300≤Jk f:=by unfold Jk;omega
section
variable {E:List (List Rat)} {ER:List (List RQ)} {X:Rat} {XR:RQ}
structure Uh (E:List (List Rat)) (X x:Rat):Prop where
 hr:kV E X
 xd:X.den≤999
 xb:kG x
structure YW (E:List (List Rat)) (X x:Rat) (f:Nat) (c:Rat) (v:VS):Prop where
 f64:f≤64
 on:AH X x c
 reg:kV E c
 vl:v.length=E.length-1
 vf:∀ p∈v,Fit (Jk f) p.1∧Fit (Jk f) p.2
theorem SmallX.Jb (h:SmallX E ER X XR) {x c:Rat} {k:Int} (F:Uh E X x) (hk:k≤256) (on:AH X x c) (reg:kV E c) (hcx:c≠x) {aH:Rat} {st:Nat} (hv:dN (bW E c) (E.length-1) (aZ E c)=some (aH,st)) :
  vN E c aH st (dQ aH x c) k∧Fit 2097152 aH∧AH X x (c+dQ aH x c)∧kV E (c+dQ aH x c):=by
 obtain ⟨l2,l5,_,_⟩:=F.hr.facts;obtain ⟨hh,hh62,rfl,_,hW⟩:=iJ hv;obtain ⟨w1,w2⟩:=ao6 (x:=x) (c:=c) (qO hh);have on2:=on.next hcx hh62
 have ht:vE (dQ (aY hh) x c):=by
  have:=(on2.PR F.xd h.xb F.xb).sub (on.PR F.xd h.xb F.xb)
  rwa [show c+dQ (aY hh) x c-c=dQ (aY hh) x c by grind] at this
 exact ⟨Zr reg hv ht w2 hk,(iX ht hh62 (n:=1) (d:=0) (by omega) (by omega) (bB _)).o1,on2,reg.aY1 hv w1⟩
theorem SmallX.be1 (h:SmallX E ER X XR) {x:Rat} {k:Int} (F:Uh E X x) (hk:k≤256):Mg E x k 12000000 768021200 (YW E X x):=by
 obtain ⟨l2,l5,_,_⟩:=F.hr.facts;refine ⟨fun f c v I=>?_,fun f c v I hcx=>?_,fun f c v t M I hcx hm=>?_⟩
 ·exact ⟨(I.on.PR F.xd h.xb F.xb).fit.mono (by omega),I.vl,fun p hp=>⟨(I.vf p hp).1.mono Bw.2,(I.vf p hp).2.mono Bw.2⟩⟩
 ·have hc:=h.at (I.on.PR F.xd h.xb F.xb);refine ⟨Fp hc I.reg,yC hc I.reg,fun aH st hv=>(h.Jb F hk I.on I.reg hcx hv).2.1,fun aH st hv=>?_,fun aH st hv=>?_,fun aH st n hv hn d hd l hl=>?_⟩
  ·exact FN (hc.Zo I.reg (h.Jb F hk I.on I.reg hcx hv).1)
  ·exact (h.Jb F hk I.on I.reg hcx hv).1.tf.mono (by omega)
  ·exact hc.GB I.reg (h.Jb F hk I.on I.reg hcx hv).1 hn hd hl
 ·obtain ⟨aH,st,n,hv,hn,rfl,rfl⟩:=Jy hm;have hc:=h.at (I.on.PR F.xd h.xb F.xb);obtain ⟨S,_,on2,reg2⟩:=h.Jb F hk I.on I.reg hcx hv;refine ⟨by have:=I.f64;omega,on2,reg2,by rw [pC,aP,uG],fun p hp=>?_⟩;obtain ⟨d,hd,rfl⟩:=gT.1 hp;exact RJ (d:=d) (M:=AO E c aH st (dQ aH x c) k n) hk (by omega) (fun l hl=>hc.GB I.reg S hn (List.mem_range.1 hd) hl) I.vl I.vf (OO I.f64)
theorem YW.first {x:Rat} {v0:VS} (F:Uh E X x) (hl:v0.length=E.length-1) (hf:∀ p∈v0,Fit 2000 p.1∧Fit 2000 p.2):YW E X x 64 X v0:=
 ⟨bB _,⟨.inr (Nat.dvd_mul_right _ _),by grind⟩,F.hr,hl,fun p hp=>⟨(hf p hp).1.mono Bw.1,(hf p hp).2.mono Bw.1⟩⟩
end
open Go Go.Proofs Tryz Ord
def Sp (p:Rat×Rat) (z:Rat):Prop:=p.1≤z∧z≤p.2
theorem Sp.add {p q:Rat×Rat} {x y:Rat} (h:Sp p x) (k:Sp q y):Sp (p.1+q.1,p.2+q.2) (x+y):=by
 obtain ⟨h1,h2⟩:=h;obtain ⟨k1,k2⟩:=k
 constructor<;>dsimp only <;> grind
theorem xT {l:List Rat}:∀ i j:Nat,j<i→jD l i≤l.getD j 0
 | 0,_,h=>absurd h (Nat.not_lt_zero _)
 | i+1,j,h=>by
   rw [jD];rcases Nat.lt_or_ge j i with h1 | h1
   ·have ih:=xT (l:=l) i j h1;split
    ·rename_i hc;rcases hc with hc | hc
     ·omega
     ·exact Rat.le_trans (Rat.le_of_lt hc) ih
    ·exact ih
   ·obtain rfl:j=i:=by omega
    split
    ·exact Rat.le_refl
    ·rename_i hc;exact Rat.not_lt.1 fun h=>hc (.inr h)
theorem tW {l:List Rat}:∀ i j:Nat,j<i→l.getD j 0≤iK l i
 | 0,_,h=>absurd h (Nat.not_lt_zero _)
 | i+1,j,h=>by
   rw [iK];rcases Nat.lt_or_ge j i with h1 | h1
   ·have ih:=tW (l:=l) i j h1;split
    ·rename_i hc;rcases hc with hc | hc
     ·omega
     ·exact Rat.le_trans ih (Rat.le_of_lt hc)
    ·exact ih
   ·obtain rfl:j=i:=by omega
    split
    ·exact Rat.le_refl
    ·rename_i hc;exact Rat.not_lt.1 fun h=>hc (.inr h)
theorem AG {a c d z:Rat} (h:c≤z∧z≤d):(a*c≤a*z∧a*z≤a*d)∨(a*d≤a*z∧a*z≤a*c):=by
 rcases Rat.le_total (a:=0) (b:=a) with ha | ha
 ·exact .inl ⟨Rat.mul_le_mul_of_nonneg_left h.1 ha,Rat.mul_le_mul_of_nonneg_left h.2 ha⟩
 ·have h1:=Rat.mul_le_mul_of_nonneg_left (c:=-a) h.1 (by grind);have h2:=Rat.mul_le_mul_of_nonneg_left (c:=-a) h.2 (by grind);exact .inr ⟨by grind,by grind⟩
theorem Sp.mul {a b:Rat} {p:Rat×Rat} {z:Rat} (h:Sp p z):Sp (vM a b p.1 p.2,vI a b p.1 p.2) (a*z):=by
 have l0:vM a b p.1 p.2≤a*p.1:=xT (l:=lH a b p.1 p.2) 4 0 (by omega);have l1:vM a b p.1 p.2≤a*p.2:=xT (l:=lH a b p.1 p.2) 4 1 (by omega);have g0:a*p.1≤vI a b p.1 p.2:=tW (l:=lH a b p.1 p.2) 4 0 (by omega);have g1:a*p.2≤vI a b p.1 p.2:=tW (l:=lH a b p.1 p.2) 4 1 (by omega);rcases AG (a:=a) h with ⟨h1,h2⟩ | ⟨h1,h2⟩
 ·exact ⟨Rat.le_trans l0 h1,Rat.le_trans h2 g1⟩
 ·exact ⟨Rat.le_trans l1 h1,Rat.le_trans h2 g0⟩
def Eo (mu g:Nat→Rat):Nat→Rat
 | 0=>0
 | l+1=>Eo mu g l+mu l*g l
theorem JJ (mu g h:Nat→Rat) (u:Rat):∀ l,Eo mu (fun i=>g i+h i*u) l=Eo mu g l+Eo mu h l*u
 | 0=>by simp only [Eo];grind
 | l+1=>by simp only [Eo];rw [JJ mu g h u l];grind
theorem Nr {M v:Nat→Rat×Rat} {g:Nat→Rat} {m:Nat} (h:∀ l,l<m→Sp (v l) (g l)):∀ l,l≤m→Sp (wT M v l) (Eo (fun l=>(M l).1) g l)
 | 0,_=>⟨Rat.le_refl,Rat.le_refl⟩
 | l+1,hl=>(Nr h l (by omega)).add ((h l (by omega)).mul (a:=(M l).1) (b:=(M l).2))
theorem aw3 (z:Rat):(MS z:Rat)≤z:=by
 rw [Rat.le_iff,Rat.num_intCast,Rat.den_intCast];have h:(z.den:Int)≠0:=by have:=z.den_pos;omega
 have:=Int.ediv_mul_le z.num h;unfold MS;generalize z.num/(z.den:Int)*(z.den:Int)=y at *;omega
theorem IH (q:Rat) (k:Nat):pB q k≤q:=by
 have h:=aw3 (q*qH k);have hp:0<2^k:=Nat.pow_pos (by omega);have hN:(0:Rat)<qH k:=Rat.intCast_pos.2 (by omega);have e:mkRat 1 (2^k)=1/qH k:=by rw [Rat.mkRat_eq_div];rfl
 unfold pB;rw [e];have h1:(0:Rat)≤1/qH k:=uF (by decide +kernel) hN;have h2:=Rat.mul_le_mul_of_nonneg_right h h1
 have h3:q*qH k*(1/qH k)=q:=by
  have:qH k≠0:=by grind
  grind
 rwa [h3] at h2
theorem aq1 (q:Rat) (k:Nat):q≤PS q k:=by
 have:=IH (-q) k;rw [←Zp];grind
theorem Sp.out {p:Rat×Rat} {z:Rat} (k:Nat) (h:Sp p z):Sp (pB p.1 k,PS p.2 k) z:=⟨Rat.le_trans (IH _ _) h.1,Rat.le_trans h.2 (aq1 _ _)⟩
def Lin (m:Nat) (u:Rat) (a b d:VS):Prop:=∃ al be:Nat→Rat,∀ i,i<m→Sp (a.getD i (0,0)) (al i)∧Sp (b.getD i (0,0)) (be i)∧Sp (d.getD i (0,0)) (al i+be i*u)
theorem LQ {m i:Nat} {k:Int} {M:Nat→Nat→Rat×Rat} {v:VS} (h:i<m):(pC m k M v).getD i (0,0)=zN m k M v i:=by
 rw [pC,eX,cU,List.getElem?_range h];rfl
theorem Gr {m i:Nat} {k:Int} {M:Nat→Nat→Rat×Rat} {v:VS} {g:Nat→Rat} (hi:i<m) (h:∀ l,l<m→Sp (v.getD l (0,0)) (g l)):Sp ((pC m k M v).getD i (0,0)) (Eo (fun l=>(M i l).1) g m):=by
 rw [LQ hi];exact (Nr (M:=M i) (v:=fun l=>v.getD l (0,0)) h m (bB _)).out _
theorem Lin.step {m:Nat} {u:Rat} {a b d:VS} {k:Int} {M:Nat→Nat→Rat×Rat} (h:Lin m u a b d):Lin m u (pC m k M a) (pC m k M b) (pC m k M d):=by
 obtain ⟨al,be,h⟩:=h;refine ⟨fun i=>Eo (fun l=>(M i l).1) al m,fun i=>Eo (fun l=>(M i l).1) be m,fun i hi=>⟨Gr hi fun l hl=>(h l hl).1,Gr hi fun l hl=>(h l hl).2.1,?_⟩⟩;rw [←JJ];exact Gr hi fun l hl=>(h l hl).2.2
theorem UH {E:List (List Rat)} {x:Rat} {k:Int} {u:Rat}:∀ (f:Nat) (c:Rat) (a b d:VS),Lin (E.length-1) u a b d →
  (gE E x k f c a=none∧gE E x k f c b=none∧gE E x k f c d=none)∨∃ a' b' d',gE E x k f c a=some a'∧gE E x k f c b=some b'∧gE E x k f c d=some d'∧Lin (E.length-1) u a' b' d':=by
 intro f
 induction f with
 | zero=>
   intro c a b d h;by_cases hc:c=x
   ·subst hc;exact .inr ⟨a,b,d,jU 0,jU 0,jU 0,h⟩
   ·exact .inl ⟨mK hc,mK hc,mK hc⟩
 | succ f ih=>
   intro c a b d h;by_cases hc:c=x
   ·subst hc;exact .inr ⟨a,b,d,jU _,jU _,jU _,h⟩
   ·cases hm:vV E x k c with
    | none=>exact .inl ⟨mO _ hc hm,mO _ hc hm,mO _ hc hm⟩
    | some z=>
      obtain ⟨t,M⟩:=z;rw [mW f hc hm,mW f hc hm,mW f hc hm];exact ih _ _ _ _ h.step
theorem OV (u:Rat) (y z:List Rat) (h:z.length=y.length):Lin y.length u (ML y) (ML z) (ML ((List.range y.length).map fun i=>y.getD i 0+z.getD i 0*u)):=by
 have g:∀ (l:List Rat) (i:Nat),i<l.length→(ML l).getD i (0,0)=(l.getD i 0,l.getD i 0):=fun l i hi=>by
  rw [eX,cU,eX,bI hi];rfl
 refine ⟨fun i=>y.getD i 0,fun i=>z.getD i 0,fun i hi=>?_⟩;rw [g y i hi,g z i (by omega),g _ i (by rw [aP,uG];exact hi)]
 have e:((List.range y.length).map fun i=>y.getD i 0+z.getD i 0*u).getD i 0=y.getD i 0+z.getD i 0*u:=by
  rw [eX,cU,List.getElem?_range hi];rfl
 rw [e];exact ⟨⟨Rat.le_refl,Rat.le_refl⟩,⟨Rat.le_refl,Rat.le_refl⟩,⟨Rat.le_refl,Rat.le_refl⟩⟩
def Pa (p:Rat×Rat) (u:Rat):Rat×Rat:=(jD [p.1*u,p.2*u] 2,iK [p.1*u,p.2*u] 2)
theorem Sp.scale {p:Rat×Rat} {z:Rat} (u:Rat) (h:Sp p z):Sp (Pa p u) (z*u):=by
 have l0:(Pa p u).1≤p.1*u:=xT (l:=[p.1*u,p.2*u]) 2 0 (by omega);have l1:(Pa p u).1≤p.2*u:=xT (l:=[p.1*u,p.2*u]) 2 1 (by omega);have g0:p.1*u≤(Pa p u).2:=tW (l:=[p.1*u,p.2*u]) 2 0 (by omega);have g1:p.2*u≤(Pa p u).2:=tW (l:=[p.1*u,p.2*u]) 2 1 (by omega);have hb:=AG (a:=u) h;rw [Rat.mul_comm u,Rat.mul_comm u,Rat.mul_comm u] at hb;rcases hb with ⟨h1,h2⟩ | ⟨h1,h2⟩
 ·exact ⟨Rat.le_trans l0 h1,Rat.le_trans h2 g1⟩
 ·exact ⟨Rat.le_trans l1 h1,Rat.le_trans h2 g0⟩
def Mr (s t:Rat×Rat):Bool:=decide (iK [s.1,t.1] 2≤jD [s.2,t.2] 2)
theorem Yp {s t:Rat×Rat} {z:Rat} (h:Sp s z) (k:Sp t z):Mr s t=true:=by
 unfold Mr;rw [decide_eq_true_iff,Dv,De];obtain ⟨h1,h2⟩:=h;obtain ⟨k1,k2⟩:=k;split<;>split<;>grind
theorem Su {c:bJ} (hs:c.small=true):c.X.den≤999:=by
 unfold bJ.small at hs;rw [decide_eq_true_iff] at hs;obtain ⟨hy,hsp,hx,hyl⟩:=hs;by_cases hk:0<c.kind
 ·rw [bJ.X,if_pos hk];decide
 ·rw [bJ.X,if_neg hk];exact (bP.Fh hx).1
open Go Go.Proofs Tryz Ord
def af0:Tr:=aM 36 [(G3 0),(G3 1)] [(some 3)] [6,7] [39,39] 39 false (aM 36 [(.agg [(U 0 3),(U 0 4),(U 0 5)]),(G3 1)] [(some 3)] [10,11] [39,39] 39 true (.need (.lit 3 [[(.u 2 0),(.u 2 1),(.u 2 2)],[(.u 3 0),(.u 3 1),(.u 3 2)]]) (.buildSlice 40 2 #[(0,(tT 8)),(1,(tT 12))]) 40 false (aM 162 [(.one (.c (.sr 3 4)))] [(some 6)] [13] [40] 123 true (.ret [(G6 5)]))))
theorem Qk:aL prog f74 (fun _=>none) [.v (some 6), .v (some 3)]=af0:=by kernel_rfl
def ab9:Tr:=aM 208 [(.one (.c (.sr 3 2)))] [(some 3)] [11] [40] 39 false (.need (.lit 3 [[(.u 0 3),(.u 0 4),(.u 0 5)],[(.u 1 3),(.u 1 4),(.u 1 5)]]) (.buildSlice 40 2 #[(0,(tT 14)),(1,(tT 16))]) 40 false (aM 235 [(.one (.c (.sr 3 4)))] [(some 3)] [17] [40] 39 true (aM 168 [(.agg [(U 3 0),(U 3 1),(U 3 2),(U 5 0),(U 5 1),(U 5 2)])] [none] [20] [123] 4 true (.need (.prim [(W 6 0)] none) (.unOp .not 4 (tT 21)) 4 false (.split (.u 7 0) (.ret [(.agg [tN,(tE (.bool false)),tN,tN,(tE (.bool false)),tN]),(tF false)]) (.ret [(.agg [(U 3 0),(U 3 1),(U 3 2),(U 5 0),(U 5 1),(U 5 2)]),(tF true)]))))))
def ae8:Tr:=.need (.lit 3 [[(.u 0 0),(.u 0 1),(.u 0 2)],[(.u 1 0),(.u 1 1),(.u 1 2)]]) (.buildSlice 40 2 #[(0,(tT 8)),(1,(tT 10))]) 40 false ab9
theorem Vo:aL prog f161 (fun _=>none) [.v (some 6), .v (some 6)]=ae8:=by kernel_rfl
def aw6:Tr:=aM 38 [(G3 0),(.agg [(U 0 3),(U 0 4),(U 0 5)])] [none] [4,6] [39,39] 3 true (bA .leq 3 7 0 1 0 4 (.ret [(W 2 0)]))
theorem Si:aL prog f168 (fun _=>none) [.v (some 6)]=aw6:=by kernel_rfl
def as5:Tr:=aM 161 [(G6 0),(G6 1)] [(some 6),none] [8,9] [123,123] 228 false (.ret [(W 3 0)])
theorem Pc:aL prog f73 (fun _=>none) [.v (some 6), .v (some 6)]=as5:=by kernel_rfl
theorem rJ {a b:Rat} {B:Nat} (ha:Fit B a) (hb:Fit B b):∀ x ∈ [a,b],Fit B x:=fun x hx=>by
 simp only [List.mem_cons,List.not_mem_nil,or_false] at hx;rcases hx with rfl | rfl
 ·exact ha
 ·exact hb
theorem Qq (p:Rat×Rat) (u:Rat) (A B:Nat) (h1:Fit A p.1) (h2:Fit A p.2) (hu:Fit B u) (hA:1≤A:=by omega) (h:A+B≤8589934592:=by omega):aN prog 74 [(Cl p.1 p.2:aF),(qT u:aF)] (.ret [Cl (Pa p u).1 (Pa p u).2]):=by
 refine cM func74 Qk ?_;apply aC (cY p.1 u A B h1 hu) rfl;dsimp only [aA,aB];apply aC (cY p.2 u A B h2 hu) rfl;dsimp only [aA,aB];apply bL (us:=[qC (p.1*u),qC (p.2*u)]) rfl;dsimp only [aA,aB];apply aC (Fw [p.1*u,p.2*u] (A+B) (rJ (h1.mul hu) (h2.mul hu)) (by omega) (by omega) (by simp)) rfl;exact aK rfl
theorem QK (a b:Rat) (B:Nat) (ha:Fit B a) (hb:Fit B b) (h:B≤8589934592):aN prog 168 [(Cl a b:aF)] (.ret [.one (.bool (decide (a≤b)))]):=by
 refine cM func168 Si ?_;apply aC (wK a b B B ha hb) rfl;dsimp only [aA,aB];apply vn iZ rfl;dsimp only [aA,aB];rw [show decide (a≤b)=decide (lS a b≤0) by rw [decide_eq_decide];exact mQ.symm];exact aK rfl
theorem YO (s t:Rat×Rat) (B:Nat) (h1:Fit B s.1) (h2:Fit B s.2) (h3:Fit B t.1) (h4:Fit B t.2) (hB:1≤B) (h:B≤8589934592) (hm:Mr s t=true):aN prog 161 [(Cl s.1 s.2:aF),(Cl t.1 t.2:aF)] (.ret [Cl (iK [s.1,t.1] 2) (jD [s.2,t.2] 2), .one (.bool true)]):=by
 refine cM func161 Vo ?_;apply bL (us:=[qC s.1,qC t.1]) rfl;dsimp only [aA,aB];apply aC (NH [s.1,t.1] B (rJ h1 h3) hB h (by simp)) rfl;dsimp only [aA,aB];apply bL (us:=[qC s.2,qC t.2]) rfl;dsimp only [aA,aB];apply aC (QM [s.2,t.2] B (rJ h2 h4) hB h (by simp)) rfl;dsimp only [aA,aB];have hv:=QK (iK [s.1,t.1] 2) (jD [s.2,t.2] 2) B (qI (rJ h1 h3) 2 (by simp) hB) (sU (rJ h2 h4) 2 (by simp) hB) h;rw [show decide (iK [s.1,t.1] 2≤jD [s.2,t.2] 2)=true from hm] at hv;apply aC hv rfl;dsimp only [aA,aB];apply vn nD rfl;dsimp only [aA,aB];refine sG false rfl (fun h=>by cases h) (fun _=>?_);exact aK rfl
theorem Pu (s t:Rat×Rat) (B:Nat) (h1:Fit B s.1) (h2:Fit B s.2) (h3:Fit B t.1) (h4:Fit B t.2) (hm:Mr s t=true) (hB:1≤B:=by omega) (h:B≤8589934592:=by omega):aN prog 73 [(Cl s.1 s.2:aF),(Cl t.1 t.2:aF)] (.ret [.one (.bool true)]):=by
 refine cM func73 Pc ?_;apply aC (YO s t B h1 h2 h3 h4 hB h hm) rfl;exact aK rfl
theorem WY {p:Rat×Rat} {u:Rat} {A B:Nat} (h1:Fit A p.1) (h2:Fit A p.2) (hu:Fit B u) (hA:1≤A:=by omega):Fit (A+B) (Pa p u).1∧Fit (A+B) (Pa p u).2:=
 ⟨sU (rJ (h1.mul hu) (h2.mul hu)) 2 (by simp),qI (rJ (h1.mul hu) (h2.mul hu)) 2 (by simp)⟩
end Go.Sy
