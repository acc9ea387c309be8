/- Part. -/
import Derived.Test.YtdmcadckdnnglaaGreatDoorPc
set_option linter.all false
namespace Go.Sy
open Go Go.Proofs Tryz Ord
abbrev jE (D S:Nat) (p:List RQ):Prop:=∀ x∈p,Bd D S x.q
theorem jE.at {D S:Nat} {p:List RQ} (h:jE D S p) (i:Nat):Bd D S (atR p i):=by
 rw [atR,eX,cU];cases hx:p[i]? with
 | none=>exact Bd.zero
 | some x=>exact h x (cS hx)
theorem jE.trim {D S:Nat} {p:List RQ} (h:jE D S p):jE D S (eL p):=fun x hx=>h x (List.mem_of_mem_take hx)
theorem jE.add {D S T:Nat} {a b:List RQ} (h0:D≠0) (ha:jE D S a) (hb:jE D T b):jE D (S+T) (LD a b):=by
 refine jE.trim fun x hx=>?_;obtain ⟨k,_,rfl⟩:=gT.1 hx;exact (ha.at k).add h0 (hb.at k)
theorem jE.scale {D E S T:Nat} {a:List RQ} {c:Rat} (h0:D≠0) (h1:E≠0) (ha:jE D S a) (hc:Bd E T c):jE (D*E) (S*T) (eL (eV a c)):=by
 refine jE.trim fun x hx=>?_;obtain ⟨u,hu,rfl⟩:=gT.1 hx;exact (ha u hu).mul h0 h1 hc
theorem jE.mono {D S E T:Nat} {p:List RQ} (h:jE D S p) (hD:D∣E) (hS:S≤T):jE E T p:=fun x hx=>(h x hx).mono hD hS
theorem zE {D E S T:Nat} {a b:List RQ} (h0:D≠0) (h1:E≠0) (ha:jE D S a) (hb:jE E T b):∀ i,jE (D*E) (i*(S*T)) (mulR a b i)
 | 0=>fun x hx=>by cases hx
 | i+1=>by
   rw [mulR,Nat.add_mul,Nat.one_mul];refine (zE h0 h1 ha hb i).add (Nat.mul_ne_zero h0 h1) fun x hx=>?_;rcases List.mem_append.1 hx with h | h
   ·rw [(List.mem_replicate.1 h).2];exact Bd.zero
   ·exact ha.scale h0 h1 (hb.at i) x h
theorem uM {E T:Nat} {q:List RQ} (h1:E≠0) (hb:jE E T q) (hq:q.length=2):∀ i,jE (E^i) ((2*T)^i) (pZ q i)
 | 0=>by
   rw [pZ,Nat.pow_zero,Nat.pow_zero];refine jE.trim fun x hx=>?_;rw [List.mem_singleton.1 hx];exact Bd.int (by simp)
 | i+1=>by
   have ih:=uM h1 hb hq i;have h:=zE (Nat.pos_iff_ne_zero.1 (Nat.pow_pos (Nat.pos_of_ne_zero h1))) h1 ih hb q.length;rw [pZ,Nat.pow_succ,Nat.pow_succ];refine h.mono (Nat.dvd_refl _) (Nat.le_of_eq ?_);rw [hq];ac_rfl
theorem wQ {D E S T K:Nat} {p q:List RQ} (h0:D≠0) (h1:E≠0) (hT:1≤T) (hp:jE D S p) (hb:jE E T q) (hq:q.length=2):∀ i,i≤K→jE (D*E^K) (i*(S*(2*T)^K)) (iC p q i)
 | 0,_=>fun x hx=>by cases hx
 | i+1,hi=>by
   have hE:0<E:=Nat.pos_of_ne_zero h1;rw [iC,Nat.add_mul,Nat.one_mul];refine (wQ h0 h1 hT hp hb hq i (by omega)).add (Nat.mul_ne_zero h0 (Nat.pos_iff_ne_zero.1 (Nat.pow_pos hE))) ?_;refine ((uM h1 hb hq i).scale (Nat.pos_iff_ne_zero.1 (Nat.pow_pos hE)) h0 (hp.at i)).mono ?_ ?_
   ·rw [Nat.mul_comm];exact Nat.mul_dvd_mul (Nat.dvd_refl _) (Nat.pow_dvd_pow _ (by omega))
   ·rw [Nat.mul_comm S];exact Nat.mul_le_mul_right _ (Nat.pow_le_pow_right (by omega) (by omega))
def vK (D E S T K:Nat):Nat:=D*E^(K+1)*((K+2)*(S*(2*T)^(K+1)))
theorem Sg {D E S T K F:Nat} {p:List RQ} {c:RQ} (h0:D≠0) (h1:E≠0) (hp:jE D S p) (hc:Bd E T c.q) (hK:p.length≤K) (hF:vK D E S T K<2^F) (hS:1≤S:=by omega) (hT:1≤T:=by omega):JQ F p [c, .of ((1:Int):Rat)]:=by
 have hE:0<E:=Nat.pos_of_ne_zero h1;have hD:0<D:=Nat.pos_of_ne_zero h0
 have hb:jE E T [c, .of ((1:Int):Rat)]:=fun x hx=>by
  rcases List.mem_cons.1 hx with rfl | hx
  ·exact hc
  ·rw [List.mem_singleton.1 hx];exact Bd.int (by simpa using hT)
 have hEK:∀ i,i≤K+1→E^i≤E^(K+1):=fun i hi=>Nat.pow_le_pow_right hE hi;have hTK:∀ i,i≤K+1→(2*T)^i≤(2*T)^(K+1):=fun i hi=>Nat.pow_le_pow_right (by omega) hi
 have big:∀ {X Y:Nat} {x:Rat},X≠0→Bd X Y x→X≤D*E^(K+1)→Y≤(K+2)*(S*(2*T)^(K+1))→Fit F x:=fun {X Y x} hX0 h hX hY=>by
  have hV:Y*X≤vK D E S T K:=by
   unfold vK;rw [Nat.mul_comm (D*E^(K+1))];exact Nat.mul_le_mul hY hX
  refine h.fit hX0 (Nat.lt_of_le_of_lt ?_ hF) (Nat.lt_of_le_of_lt hV hF);unfold vK;exact Nat.le_trans hX (Nat.le_mul_of_pos_right _ (Nat.mul_pos (by omega) (Nat.mul_pos hS (Nat.pow_pos (by omega)))))
 have hS1:S≤S*(2*T)^(K+1):=Nat.le_mul_of_pos_right _ (Nat.pow_pos (by omega));have hT1:∀ Z,Z≤(2*T)^(K+1)→Z≤(K+2)*(S*(2*T)^(K+1)):=fun Z hZ=>Nat.le_trans hZ (Nat.le_trans (Nat.le_mul_of_pos_left _ hS) (Nat.le_mul_of_pos_left _ (by omega)));have hED:∀ Z,Z≤E^(K+1)→Z≤D*E^(K+1):=fun Z hZ=>Nat.le_trans hZ (Nat.le_mul_of_pos_left _ hD);refine ⟨fun x hx=>big h0 (hp x hx) (Nat.le_mul_of_pos_right _ (Nat.pow_pos hE)) (Nat.le_trans hS1 (Nat.le_mul_of_pos_left _ (by omega))),fun x hx=>big h1 (hb x hx) (hED _ (Nat.le_trans (Nat.le_of_eq (Nat.pow_one E).symm) (hEK 1 (by omega)))) (hT1 _ ?_),fun i hi x hx=>big (Nat.pos_iff_ne_zero.1 (Nat.pow_pos hE)) (uM h1 hb rfl i x hx) (hED _ (hEK i (by omega))) (hT1 _ (hTK i (by omega))),fun i hi j hj x hx=>?_,fun i hi x hx=>?_⟩
 ·exact Nat.le_trans (by rw [Nat.pow_one];omega:T≤(2*T)^1) (hTK 1 (by omega))
 ·have h:=zE (Nat.pos_iff_ne_zero.1 (Nat.pow_pos hE)) h1 (uM h1 hb rfl i) hb j x hx;refine big (Nat.mul_ne_zero (Nat.pos_iff_ne_zero.1 (Nat.pow_pos hE)) h1) h ?_ ?_
  ·rw [←Nat.pow_succ];exact hED _ (hEK (i+1) (by omega))
  ·refine hT1 _ (Nat.le_trans ?_ (hTK (i+1) (by omega)));have hj2:j≤2:=hj;rw [Nat.pow_succ,Nat.mul_left_comm];refine Nat.mul_le_mul_left _ ?_;exact Nat.mul_le_mul_right _ hj2
 ·have h:=wQ (K:=K) h0 h1 hT hp hb rfl i (by omega) x hx;refine big (Nat.mul_ne_zero h0 (Nat.pos_iff_ne_zero.1 (Nat.pow_pos hE))) h (Nat.mul_le_mul_left _ (hEK K (by omega))) ?_;exact Nat.mul_le_mul (by omega) (Nat.mul_le_mul_left _ (hTK K (by omega)))
open Go Go.Proofs Tryz Ord
def eG:Nat→Nat
 | 0=>1
 | n+1=>Nat.lcm (eG n) (n+1)
theorem FO {d:Nat} (h1:1≤d):∀ {n:Nat},d≤n→d∣eG n
 | 0,h=>by omega
 | n+1,h=>by
   rw [eG];rcases Nat.lt_or_ge n d with h2 | h2
   ·rw [show d=n+1 by omega];exact Nat.dvd_lcm_right _ _
   ·exact Nat.dvd_trans (FO h1 h2) (Nat.dvd_lcm_left _ _)
theorem rD:∀ n:Nat,eG n≠0
 | 0=>by decide
 | n+1=>fun h=>by
   rw [eG] at h;rcases Nat.lcm_eq_zero_iff.1 h with h | h
   ·exact rD n h
   ·omega
theorem NC {n d:Int} {N M:Nat} (hn:n.natAbs≤N) (h0:d≠0:=by omega) (hd:d.natAbs≤M:=by omega):Bd (eG M) N ((n:Rat)/(d:Rat)):=by
 have h:=(Bd.int (D:=1) hn).div (by omega) (by omega) (Bd.int (D:=1) hd) (OJ h0);rw [Rat.num_intCast,Nat.one_mul,Nat.mul_one] at h;exact h.mono (FO (by omega) hd) (bB _)
theorem bP.bd {x:bP} {N M:Nat} (hp:x.pow%4=0) (hn:x.n.natAbs≤N) (hd:x.d.natAbs≤M) (hM:1≤M):Bd (eG M) N x.v:=by
 rw [bP.v,hp,Nat.zero_add,Rat.pow_succ,Rat.pow_zero,Rat.one_mul,bP.b];split
 ·exact NC hn
 ·exact NC hn (by assumption) hd
theorem bP.Yw {x:bP} (h:x.Ba=true):Bd (eG 99) 99 x.v:=by
 unfold bP.Ba at h;rw [decide_eq_true_iff] at h;exact bP.bd h.1 (by omega) (by omega) (by omega)
theorem Jm {n d:Int} {N M:Nat} (h0:d≠0:=by omega) (hn:n.natAbs≤N:=by omega) (hd:d.natAbs≤M:=by omega):((n:Rat)/(d:Rat)).den≤M∧((n:Rat)/(d:Rat)).num.natAbs≤N*((n:Rat)/(d:Rat)).den:=by
 have h:=(Bd.int (D:=1) hn).div (by omega) (by omega) (Bd.int (D:=1) hd) (OJ h0);rw [Rat.num_intCast,Nat.one_mul,Nat.mul_one] at h;exact ⟨Nat.le_trans (Nat.le_of_dvd (by omega) h.1) hd,h.2⟩
def eB:Nat:=2^96
structure kG (X:Rat):Prop where
 d:X.den≤eB
 s:X.num.natAbs≤1000*X.den
theorem kG.bd {X:Rat} (h:kG X):Bd X.den 1000 X:=⟨Nat.dvd_refl _,h.s⟩
theorem kG.fit {X:Rat} (h:kG X):Fit 140 X:=
 ⟨Nat.lt_of_le_of_lt (Nat.le_trans h.s (Nat.mul_le_mul_left _ h.d)) (by decide),Nat.lt_of_le_of_lt h.d (by decide)⟩
theorem kZ (X:Rat):X.den≠0:=Nat.pos_iff_ne_zero.1 X.den_pos
theorem bP.Fh {x:bP} (h:x.short=true):x.v.den≤999∧x.v.num.natAbs≤999*x.v.den:=by
 unfold bP.short at h;rw [decide_eq_true_iff] at h;rw [bP.v,h.1,Nat.zero_add,Rat.pow_succ,Rat.pow_zero,Rat.one_mul,bP.b];split
 ·exact Jm
 ·exact Jm (by assumption)
theorem SJ {X:Rat} (h:X.den≤999∧X.num.natAbs≤999*X.den):kG X:=
 ⟨Nat.le_trans h.1 (by decide),Nat.le_trans h.2 (Nat.mul_le_mul_right _ (by omega))⟩
theorem bP.PR {x:bP} (h:x.short=true):kG x.v:=SJ (bP.Fh h)
theorem TR:kG 0:=SJ ⟨by decide,by decide⟩
theorem bP.QS {x:bP} (h:x.short=true):Bd (eG 999) 999 x.v:=by
 unfold bP.short at h;rw [decide_eq_true_iff] at h;exact bP.bd h.1 (by omega) (by omega) (by omega)
theorem WZ {l:List Int} (h:∀ z∈l,z.natAbs≤99):∀ q∈ints l,Bd (eG 99) 99 q:=fun q hq=>by
 obtain ⟨n,hn,rfl⟩:=gT.1 (List.mem_of_mem_take hq);exact Bd.int (h n hn)
theorem aU4 {k:Nat} {n:Int} (h1:1≤k) (h2:k≤8) (h3:0≤n) (h4:n≤8):∀ p∈kE k n,p.length≤50∧∀ q∈p,Bd (eG 99) 99 q:=by
 have hnn:n*(n+1)≤8*9:=Int.mul_le_mul (a:=n) (b:=n+1) (c:=8) (d:=9) (by omega) (by omega) (by omega) (by omega);have hn0:0≤n*(n+1):=Int.mul_nonneg (by omega) (by omega);generalize hm:n*(n+1)=m at hnn hn0
 have key:∀ l:List Int,l.length≤3→(∀ z∈l,z.natAbs≤99)→(ints l).length≤50∧∀ q∈ints l,Bd (eG 99) 99 q:=fun l hl h=>⟨by
  rw [ints,gR];have:=gV (z:=zr) (l.map fun n:Int=>(n:Rat));rw [aP] at this;omega,WZ h⟩
 intro p hp
 rcases (by omega:k=1∨k=2∨k=3∨k=4∨k=5∨k=6∨k=7∨k=8) with rfl | rfl | rfl | rfl | rfl | rfl | rfl | rfl <;>
  simp only [kE,List.mem_cons,List.not_mem_nil,or_false] at hp <;>
  (try rw [hm] at hp) <;>
  (rcases hp with rfl | rfl | rfl<;>first | exact ⟨by simp,by simp⟩ | exact key _ (by simp) (by intro z hz;simp only [List.mem_cons,List.not_mem_nil,or_false] at hz;omega))
theorem Rs (n:Nat) (hn:n≤50:=by omega):(lG n).length≤50∧∀ q∈lG n,Bd (eG 99) 99 q:=by
 refine ⟨by simp [lG];omega,fun q hq=>?_⟩;rcases List.mem_or_eq_of_mem_set hq with h | rfl
 ·rw [(List.mem_replicate.1 h).2];exact Bd.zero
 ·exact Bd.one (by omega)
structure SmallX (E:List (List Rat)) (ER:List (List RQ)) (X:Rat) (XR:RQ):Prop where
 e1:UX E
 e2:UX (uY ER)
 sim:Fa E (uY ER)
 x:XR.q=X
 el:E.length≤7
 eb:∀ p∈E,p.length≤50∧∀ q∈p,Bd (eG 99) 99 q
 rb:∀ p∈uY ER,p.length≤50∧∀ q∈p,Bd (eG 99) 99 q
 xb:kG X
structure Hm (c:bJ):Prop extends SmallX c.E c.ER c.X c.XR where
 y:c.YR.map RQ.q=c.Y
 yl:c.Y.length≤6
 yb:∀ q∈c.Y,Bd (eG 999) 999 q
 yf:∀ q∈c.Y,Fit 513 q
theorem Fa.refl (e:List (List Rat)):Fa e e:=⟨rfl,fun i p p' h1 h2=>by rw [h1] at h2;cases h2;exact ⟨rfl,fun _=>rfl⟩⟩
theorem ad2 {k:Nat} (h1:1≤k) (h2:k≤8):(kY k).length≤6∧∀ q∈kY k,q=0∨q=1:=by
 rcases (by omega:k=1∨k=2∨k=3∨k=4∨k=5∨k=6∨k=7∨k=8) with rfl | rfl | rfl | rfl | rfl | rfl | rfl | rfl <;>
  exact ⟨by simp [kY],fun q hq=>by simp only [kY,List.mem_cons,List.not_mem_nil,or_false] at hq;rcases hq with rfl | rfl<;>simp⟩
theorem Kz {c:bJ} (h:c.In) (hs:c.small=true):Hm c:=by
 unfold bJ.small at hs;rw [decide_eq_true_iff] at hs;obtain ⟨hy,hsp,hx,hyl⟩:=hs;by_cases hk:0<c.kind
 ·have hkk1:1≤c.kk:=by unfold bJ.kk;omega
  have hkk8:c.kk≤8:=by unfold bJ.kk;omega
  have hnn:0≤c.nn∧c.nn≤8:=by unfold bJ.nn;split<;>omega
  have hE:c.E=kE c.kk c.nn:=by rw [bJ.E,if_pos hk]
  have hER:uY c.ER=kE c.kk c.nn:=by rw [bJ.ER,if_pos hk,aK4 hkk1 hkk8]
  have hX:c.X=0:=by rw [bJ.X,if_pos hk]
  have hY:c.Y=kY c.kk:=by rw [bJ.Y,if_pos hk]
  obtain ⟨_,hl3,hko⟩:=aL3 hkk1 hkk8 hnn.1;have hb:=aU4 hkk1 hkk8 hnn.1 hnn.2;have hes:UX (kE c.kk c.nn):=⟨by omega,fun p hp=>⟨by have:=(hb p hp).1;omega,fun q hq=>((hko p hp).2 q hq).mono (by omega)⟩⟩
  obtain ⟨hy1,hy2⟩:=ad2 hkk1 hkk8;refine ⟨⟨hE▸hes,hER▸hes,by rw [hE,hER];exact Fa.refl _,by rw [bJ.XR,if_pos hk,hX];rfl,by rw [hE];omega,by rw [hE];exact hb,by rw [hER];exact hb,by rw [hX];exact TR⟩,by rw [bJ.YR,if_pos hk,hY];exact aI0 hkk1 hkk8,by rw [hY];exact hy1,fun q hq=>?_,fun q hq=>?_⟩
  ·rw [hY] at hq;rcases hy2 q hq with rfl | rfl
   ·exact Bd.zero
   ·exact Bd.one (by omega)
  ·rw [hY] at hq;rcases hy2 q hq with rfl | rfl
   ·exact Fit.zero (by omega)
   ·exact (fV (n:=1)).mono (by omega)
 ·have hE:c.E=EZ c.p c.long:=by rw [bJ.E,if_neg hk]
  have hER:c.ER=UT c.p c.long:=by rw [bJ.ER,if_neg hk]
  have hX:c.X=c.c.v:=by rw [bJ.X,if_neg hk]
  have hY:c.Y=cW c.y:=by rw [bJ.Y,if_neg hk]
  obtain ⟨h1,h2⟩:=aR8 (long:=c.long) h.hp hsp;have hsp':=hsp;unfold jO at hsp';rw [decide_eq_true_iff] at hsp';obtain ⟨hp6,hpx⟩:=hsp'
  have hlong:∀ p∈(if 0<c.long then [lG (c.long%50+1).toNat] else []),p.length≤50∧∀ q∈p,Bd (eG 99) 99 q:=by
   intro p hp;split at hp
   ·rw [List.mem_singleton] at hp;subst hp;exact Rs _
   ·cases hp
  have hv:∀ l∈c.p,(cW l).length≤50∧∀ q∈cW l,Bd (eG 99) 99 q:=fun l hl=>⟨by rw [pG];have:=(hpx l hl).1;omega,fun q hq=>by
   obtain ⟨x,hx,rfl⟩:=gT.1 hq;exact bP.Yw ((hpx l hl).2 x hx)⟩
  refine ⟨⟨hE▸h1,hER▸h2,by rw [hE,hER];exact aJ4 _ _,by rw [bJ.XR,if_neg hk,hX];rfl,?_,fun p hp=>?_,fun p hp=>?_,by rw [hX];exact bP.PR hx⟩,by rw [bJ.YR,if_neg hk,hY];exact RN _,by rw [hY,pG];exact hyl,fun q hq=>?_,fun q hq=>?_⟩
  ·rw [hE,EZ,fE,aP];have:(if 0<c.long then [lG (c.long%50+1).toNat] else []).length≤1:=by split<;>simp
   omega
  ·rw [hE] at hp;rcases List.mem_append.1 hp with hp | hp
   ·obtain ⟨l,hl,rfl⟩:=gT.1 hp;exact hv l hl
   ·exact hlong p hp
  ·rw [hER,TY] at hp;rcases List.mem_append.1 hp with hp | hp
   ·obtain ⟨l,hl,rfl⟩:=gT.1 hp;have hvl:=hv l hl;exact ⟨by rw [gR];have:=gV (z:=zr) (cW l);omega,fun q hq=>hvl.2 q (List.mem_of_mem_take hq)⟩
   ·exact hlong p hp
  ·rw [hY] at hq;obtain ⟨x,hx,rfl⟩:=gT.1 hq;exact bP.QS (hy x hx)
  ·rw [hY] at hq;obtain ⟨x,hx,rfl⟩:=gT.1 hq;exact (h.hy x hx).Xj
def dX (X:Rat):Nat:=eG 99*X.den^50
def dM:Nat:=eG 99*eB^50
def sM:Nat:=50*(99*(2*1000)^50)
theorem KL {D E F S T K:Nat} (h:E≤F):qN D E S T K≤qN D F S T K:=by
 unfold qN;exact Nat.mul_le_mul (Nat.mul_le_mul (Nat.mul_le_mul_left _ (Nat.pow_le_pow_left h _)) h) (bB _)
theorem Kw {D E F S T K:Nat} (h:E≤F):vK D E S T K≤vK D F S T K:=by
 unfold vK;exact Nat.mul_le_mul (Nat.mul_le_mul_left _ (Nat.pow_le_pow_left h _)) (bB _)
theorem RC:qN (eG 99) eB 99 1000 50<2^8192∧vK (eG 99) eB 99 1000 50<2^8192:=by decide +kernel
theorem ZY:∃ B,64≤B∧B≤16777216∧∀ e,e≤eB→qN (eG 99) e 99 1000 50<2^B∧vK (eG 99) e 99 1000 50<2^B:=
 ⟨8192,by decide,by decide,fun _ h=>⟨Nat.lt_of_le_of_lt (KL h) RC.1,Nat.lt_of_le_of_lt (Kw h) RC.2⟩⟩
theorem wW (X:Rat):dX X≠0:=Nat.mul_ne_zero (rD _) (Nat.pos_iff_ne_zero.1 (Nat.pow_pos X.den_pos))
theorem kG.dX {X:Rat} (h:kG X):dX X≤dM:=Nat.mul_le_mul_left _ (Nat.pow_le_pow_left h.d _)
theorem ai2:1≤sM:=by decide +kernel
theorem Fa.mov {e e':List (List Rat)} (h:Fa e e') (c:Rat):bW e c=bW e' c:=by
 refine List.ext_getElem? fun i=>?_;rw [bW,bW,cU,cU];rcases Nat.lt_or_ge i e.length with hi | hi
 ·obtain ⟨p,hp⟩:∃ p,e[i]? = some p:=⟨_,bI hi⟩
  obtain ⟨p',hp'⟩:∃ p,e'[i]? = some p:=⟨_,bI (by rw [←h.1];exact hi)⟩
  rw [hp,hp',Option.map_some,Option.map_some]
  congr 1
  refine Ud (mE _ _) (mE _ _) fun x=>?_;show ev (dU p c) x=ev (dU p' c) x;rw [qJ,qJ];exact (h.2 i p p' hp hp').2 _
 ·rw [List.getElem?_eq_none hi,List.getElem?_eq_none (by rw [←h.1];exact hi)]
section
variable {E:List (List Rat)} {ER:List (List RQ)} {X:Rat} {XR:RQ}
theorem SmallX.xf (h:SmallX E ER X XR):Fit 513 X:=h.xb.fit.mono (by omega)
theorem SmallX.sh (h:SmallX E ER X XR):uY (NK ER XR)=bW E X:=by rw [aR6,h.x,h.sim.mov]
theorem SmallX.rq (h:SmallX E ER X XR):∀ p∈ER,p.length≤50∧jE (eG 99) 99 p:=fun p hp=>by
 obtain ⟨h1,h2⟩:=h.rb _ (List.mem_map_of_mem (f:=fun p:List RQ=>p.map RQ.q) hp);rw [aP] at h1;exact ⟨h1,fun x hx=>h2 _ (List.mem_map_of_mem hx)⟩
theorem SmallX.Ze (h:SmallX E ER X XR):∀ p∈bW E X,p.length≤101∧∀ b∈p,Bd (dX X) sM b:=by
 rw [←h.sh];intro q hq;obtain ⟨q1,hq1,rfl⟩:=gT.1 hq;obtain ⟨p,hp,rfl⟩:=gT.1 hq1;obtain ⟨hl,hb⟩:=h.rq p hp
 have hq2:jE X.den 1000 [XR, .of ((1:Int):Rat)]:=fun x hx=>by
  rcases List.mem_cons.1 hx with rfl | hx
  ·rw [h.x];exact h.xb.bd
  ·rw [List.mem_singleton.1 hx];exact Bd.int (by simp)
 have hk:=wQ (K:=50) (rD 99) (kZ X) (by omega) hb hq2 rfl p.length hl;refine ⟨by rw [aP];have:=Dr p [XR, .of ((1:Int):Rat)] p.length;simp only [List.length_cons,List.length_nil] at this;omega,fun b hb=>?_⟩;obtain ⟨x,hx,rfl⟩:=gT.1 hb;exact (hk x hx).le (Nat.mul_le_mul_right _ hl)
theorem SmallX.room (h:SmallX E ER X XR) {B:Nat} (hB:B≤16777216) (hR:qN (eG 99) X.den 99 1000 50<2^B):Rp E X (eG 99) X.den 99 1000 50 B:=
 ⟨rD _,kZ _,fun p hp=>⟨(h.eb p hp).2,(h.eb p hp).1⟩,h.xb.bd,by omega,by omega,by omega,hR⟩
theorem SmallX.Oo (h:SmallX E ER X XR) {B:Nat} (hR:vK (eG 99) X.den 99 1000 50<2^B):∀ p∈ER,JQ B p [XR, .of ((1:Int):Rat)]∧p.length≤1048576:=fun p hp=>by
 obtain ⟨hl,hb⟩:=h.rq p hp;exact ⟨Sg (rD _) (kZ _) hb (by rw [h.x];exact h.xb.bd) hl hR,by omega⟩
end
section
theorem rG {e:List (List Rat)} {c:Rat} (h:aZ e c≠0) (he:0<e.length:=by omega):∃ p,(bW e c)[e.length-1]? = some p∧p[0]? = some (aZ e c):=by
 refine ⟨dU (e.getD (e.length-1) []) c,?_,?_⟩
 ·rw [bW,cU,eX,bI (by omega)];rfl
 ·unfold aZ at h ⊢;generalize dU (e.getD (e.length-1) []) c=l at *;cases l with
  | nil=>exact absurd rfl h
  | cons x l=>rfl
end
open Go Go.Proofs Tryz Ord
open Go Go.Proofs Tryz Ord
def ac5:Tr:=bA .gtr 3 3 0 0 0 4 (.ret [(W 1 0)])
theorem VZ:aL prog f259 (fun _=>none) [.v none]=ac5:=by kernel_rfl
def al4:Tr:=bA .eql 3 15 0 3 0 4 (.split (.u 10 0) (bA .add 3 10 1 3 0 3 (.back 0 [lV 11 0,lV 9 0,lV 9 1,lV 9 2])) (aM 38 [(G3 9),(.agg [(U 4 0),(U 5 0),(U 6 0)])] [none] [19,20] [39,39] 3 false (.need (.callv (.u 0 0) [(W 11 0)] [none]) (.call ⟨.value (tT 18),#[(tT 21)],#[3]⟩) 4 true (.split (.u 12 0) (bA .add 3 10 1 3 0 3 (.back 0 [lV 13 0,lV 9 0,lV 9 1,lV 9 2])) (bA .add 3 10 1 3 0 3 (.back 0 [lV 13 0,lV 4 0,lV 5 0,lV 6 0]))))))
def ac3:Tr:=cV 1 0 8 40 (.loop 0 [lK 0,lN,(.w (.one (.c (.k (.bool false))))),lN] (bM .lss 3 10 9 3 0 2 0 0 (.split (.u 7 0) (fP 1 0 3 0 40 8 10 (eS 8 0 (some 3) 39 13 al4)) (.ret [(.agg [(U 4 0),(U 5 0),(U 6 0)])]))))
theorem Jc:aL prog f258 (fun _=>none) [.v none, .v none]=ac3:=by kernel_rfl
def az3:Tr:=.need (.call 258 [(.one (.iI 259 [])),(W 0 0)] [(some 3)]) (.call ⟨.value (.func 258),#[(.func 259),(tT 3)],#[305,40]⟩) 39 true (.ret [(G3 1)])
theorem aH2:aL prog f208 (fun _=>none) [.v none]=az3:=by kernel_rfl
def aj5:Tr:=bM .gtr 3 15 16 7 0 1 0 4 (.split (.u 8 0) (fP 0 0 2 0 44 18 19 (eS 9 0 none 167 20 (aM 96 [(W 10 0)] [none] [21] [167] 3 true (bA .add 3 9 1 2 0 3 (.back 0 [lV 11 0,lV 12 0]))))) (bA .add 3 9 1 2 0 3 (.back 0 [lV 1 0,lV 9 0])))
def am0:Tr:=cV 0 0 6 44 (bM .lss 3 5 7 2 0 3 0 4 (.split (.u 4 0) (fP 0 0 2 0 44 11 12 (eS 5 0 none 167 13 (aM 96 [(W 6 0)] [none] [14] [167] 3 false aj5))) (cV 0 0 23 44 (bA .sub 3 24 1 5 0 3 (bM .add 3 25 26 6 0 1 0 3 (.ret [(W 7 0)]))))))
def az5:Tr:=.loop 0 [lK 0,lK 0] am0
theorem XB:aL prog f127 (fun _=>none) [.v none]=az5:=by kernel_rfl
def ak3:Tr:=aM 126 [(G4 0),(W 3 0)] [(some 4)] [9,11] [49,3] 49 true (aM 104 [(G4 4),(G4 4)] [(some 4)] [13,14] [49,49] 49 true (bA .rem 3 16 2 1 0 3 (bA .eql 3 17 1 6 0 4 (.split (.u 7 0) (aM 104 [(G4 5),(G4 0)] [(some 4)] [19,20] [49,49] 49 true (.ret [(G4 8)])) (.ret [(G4 5)])))))
def ac4:Tr:=bA .eql 3 6 0 1 0 4 (.split (.u 2 0) (.need (.call 50 [(WK 1)] [(some 4)]) (.call ⟨.value (.func 50),#[(.const (I3 1))],#[2]⟩) 49 true (.ret [(G4 3)])) (bA .quo 3 10 2 1 0 3 ak3))
theorem Uu:aL prog f126 (fun _=>none) [.v (some 4), .v none]=ac4:=by kernel_rfl
def iK (l:List Rat):Nat→Rat
 | 0=>0
 | i+1=>if i=0∨iK l i<l.getD i 0 then l.getD i 0 else iK l i
theorem BT {l:List Rat}:∀ i,i≤l.length→iK l i=0∨iK l i∈l
 | 0,_=>.inl rfl
 | i+1,h=>by
   rw [iK];split
   ·exact .inr (cS (cG (show i<l.length by omega)))
   ·exact BT i (by omega)
theorem qI {l:List Rat} {B:Nat} (h:∀ x∈l,Fit B x) (i:Nat) (hi:i≤l.length) (hB:1≤B:=by omega):Fit B (iK l i):=by
 rcases BT i hi with e | e
 ·rw [e];exact Fit.zero hB
 ·exact h _ e
theorem TV {a b:Rat}:0<lS a b↔b<a:=by
 unfold lS;by_cases h1:a<b
 ·rw [if_pos h1];exact ⟨fun h=>by omega,fun h=>by grind⟩
 ·rw [if_neg h1];by_cases h2:b<a
  ·rw [if_pos h2];exact ⟨fun _=>h2,fun _=>by omega⟩
  ·rw [if_neg h2];exact ⟨fun h=>by omega,fun h=>absurd h h2⟩
theorem Yv (c:Int):aN prog 259 [(.one (.int .i64 c):aF)] (.ret [.one (.bool (decide (0<c)))]):=by
 refine cM func259 VZ ?_;apply vn eE rfl;exact aK rfl
theorem So (l:List Rat) (B:Nat) (hl:∀ x∈l,Fit B x) (hB:1≤B) (hB2:B≤8589934592) (hs:l.length<1099511627776):aN prog 258 [(.one (.iI 259 []):aF),(.one (sQ l):aF)] (.ret [qT (iK l l.length)]):=by
 refine cM func258 Jc ?_;apply vn (aQ rL (aP _)) rfl;dsimp only [aA,aB];refine bF {i:Nat // i≤l.length} (fun g=>(.one (.int .i64 g.1):aF)::(qC (iK l g.1)).map .one) (fun g=>l.length-g.1) ⟨0,bR _⟩ ⟨aF.Sub.same,qP⟩ (fun _=>rfl) ?_;rintro ⟨i,hi⟩;dsimp only [aA,aB,List.map] at hi ⊢;apply vn bE rfl;dsimp only [aA,aB];refine vs _ rfl ?_ ?_<;>intro h3
 ·have hil:i<l.length:=by omega
  have hfx:=hl _ (cS (cG hil));have hfm:=qI hl i hi hB;apply vn (aW rL (cG hil) (Int.toNat_natCast i)) rfl;dsimp only [aA,aB];apply vn (bO pO (by decide) (by simp) (.inl rfl)) rfl;dsimp only [aA,aB];apply vn bQ rfl;dsimp only [aA,aB];refine vs _ rfl ?_ ?_<;>intro h7
  ·apply vn (aD) rfl
   exact aR rfl ⟨⟨i+1,by omega⟩,(by
    dsimp only;rw [iK,if_pos (.inl (by omega))];exact aO.rfl),by show l.length-(i+1)<l.length-i;omega⟩
  apply aC (wK _ _ B B hfx hfm) rfl;dsimp only [aA,aB];apply tV (f:=259) (caps:=[]) rfl (Yv (lS (l.getD i 0) (iK l i))) rfl;dsimp only [aA,aB];refine vs _ rfl ?_ ?_<;>intro h12
  ·apply vn (aD) rfl
   exact aR rfl ⟨⟨i+1,by omega⟩,(by
    dsimp only;rw [iK,if_pos (.inr (TV.1 h12))];exact aO.rfl),by show l.length-(i+1)<l.length-i;omega⟩
  apply vn (aD) rfl
  exact aR rfl ⟨⟨i+1,by omega⟩,(by
   dsimp only;rw [iK,if_neg (by rintro (h | h);omega;exact h12 (TV.2 h))];exact aO.rfl),by show l.length-(i+1)<l.length-i;omega⟩
 rw [show l.length=i by omega];exact aK rfl
theorem NH (l:List Rat) (B:Nat) (hl:∀ x∈l,Fit B x) (hB:1≤B) (hB2:B≤8589934592) (hs:l.length<1099511627776):aN prog 208 [(.one (sQ l):aF)] (.ret [qT (iK l l.length)]):=by
 refine cM func208 aH2 ?_;apply aC (So l B hl hB hB2 hs) rfl;exact aK rfl
theorem YZ (q:List (List RQ)) (hq:∀ p∈q,p.length<1099511627776) (hql:q.length<1099511627776:=by omega):aN prog 127 [(.one (eR q):aF)] (.ret [.one (.int .i64 ((q.length:Int)-1+(bD (uY q):Nat)))]):=by
 refine cM func127 XB ?_;refine bF {i:Nat // i≤q.length} (fun g=>[.one (.int .i64 ((bD (uY (q.take g.1)):Nat):Int)), .one (.int .i64 g.1)]) (fun g=>q.length-g.1) ⟨0,bR _⟩ aO.rfl (fun _=>rfl) ?_;rintro ⟨i,hi⟩;dsimp only [aA,aB] at hi ⊢
 have hd:=qX (N:=1099511627776) (uY (q.take i)) fun p hp=>by
  obtain ⟨p',hp',rfl⟩:=gT.1 hp;rw [aP];exact Nat.le_of_lt (hq p' (List.mem_of_mem_take hp'))
 apply vn (aQ zL (aP _)) rfl;dsimp only [aA,aB];apply vn bE rfl;dsimp only [aA,aB];refine vs _ rfl ?_ ?_<;>intro h3
 ·obtain ⟨p,hp⟩:∃ p,q[i]? = some p:=⟨_,bI (by omega)⟩
  have hpl:=hq p (cS hp);have he:uY (q.take (i+1))=uY (q.take i) ++ [p.map RQ.q]:=by rw [List.take_add_one,hp];simp [uY]
  have hm:bD (uY (q.take (i+1)))=max (bD (uY (q.take i))) (dY Lu p-1):=by rw [he,Ax,←aS7]
  apply vn (aW zL hp) rfl;dsimp only [aA,aB];apply vn (bG xF) rfl;dsimp only [aA,aB];apply aC (FH p hpl) rfl;dsimp only [aA,aB];apply vn eE rfl;dsimp only [aA,aB];refine vs _ rfl ?_ ?_<;>intro h8
  ·apply vn (aW zL hp) rfl;dsimp only [aA,aB];apply vn (bG xF) rfl;dsimp only [aA,aB];apply aC (FH p hpl) rfl;dsimp only [aA,aB];apply vn (aD) rfl;dsimp only [aA,aB];exact aR rfl ⟨⟨i+1,by omega⟩,aO.of_eq (by dsimp only;rw [hm,show max (bD (uY (q.take i))) (dY Lu p-1)=dY Lu p-1 by omega,show ((dY Lu p-1:Nat):Int)=(dY Lu p:Int)-1 by omega];rfl),by show q.length-(i+1)<q.length-i;omega⟩
  apply vn (aD) rfl;dsimp only [aA,aB];exact aR rfl ⟨⟨i+1,by omega⟩,aO.of_eq (by dsimp only;rw [hm,show max (bD (uY (q.take i))) (dY Lu p-1)=bD (uY (q.take i)) by omega];rfl),by show q.length-(i+1)<q.length-i;omega⟩
 rw [show i=q.length by omega,List.take_length] at hd ⊢;apply vn (aQ zL (aP _)) rfl;dsimp only [aA,aB];apply vn (aI) rfl;dsimp only [aA,aB];apply vn (aD) rfl;exact aK rfl
theorem OW {x:Rat} {n:Nat} (h:n%2=0):x^(n/2)*x^(n/2)=x^n:=by rw [←mX,show n/2+n/2=n by omega]
theorem Uw {x:Rat} {n:Nat} (h:n%2=1):x^(n/2)*x^(n/2)*x=x^n:=by
 rw [←mX,←Rat.pow_succ,show n/2+n/2+1=n by omega]
theorem Ol (x:RQ) (n B:Nat) (hn:n<4611686018427387904) (hB:B≤1073741824) (hx1:Fit B x.q) (hf:∀ j,j≤n→Fit B (x.q^j)) (ih:0<n→aN prog 126 [lI x, .one (.int .i64 (n/2:Nat))] (.ret [lI (.of (x.q^(n/2)))])):aN prog 126 [(lI x:aF),(.one (.int .i64 n):aF)] (.ret [lI (.of (x.q^n))]):=by
 refine cM func126 Uu ?_;apply vn bQ rfl;dsimp only [aA,aB];refine vs _ rfl ?_ ?_<;>intro h1
 ·apply aC (lD 1) rfl;dsimp only [aA,aB];rw [show n=0 by omega,Rat.pow_zero];exact aK rfl
 apply vn (gU) rfl;dsimp only [aA,aB];rw [show (n:Int)/2=((n/2:Nat):Int) by omega];apply aC (ih (by omega)) rfl;dsimp only [aA,aB];apply aC (tZ (.of (x.q^(n/2))) (.of (x.q^(n/2))) B B (hf _ (by omega)) (hf _ (by omega))) rfl;rw [show (RQ.of (x.q^(n/2))).q*(RQ.of (x.q^(n/2))).q=x.q^(n/2)*x.q^(n/2) from rfl];dsimp only [aA,aB];apply vn (eO) rfl;dsimp only [aA,aB];apply vn bQ rfl;dsimp only [aA,aB];refine vs _ rfl ?_ ?_<;>intro h9
 ·have hev:x.q^(n/2)*x.q^(n/2)=x.q^(n/2+n/2):=(mX _ _ _).symm;apply aC (tZ (.of (x.q^(n/2)*x.q^(n/2))) x B B (by rw [RQ.SE,hev];exact hf _ (by omega)) hx1) rfl;rw [show (RQ.of (x.q^(n/2)*x.q^(n/2))).q*x.q=x.q^n from Uw (by omega)];exact aK rfl
 rw [OW (by omega)];exact aK rfl
theorem uE (x:RQ) (B:Nat) (hB:B≤1073741824) (hx1:Fit B x.q):∀ n:Nat,n<4611686018427387904→(∀ j,j≤n→Fit B (x.q^j))→aN prog 126 [lI x, .one (.int .i64 n)] (.ret [lI (.of (x.q^n))]):=by
 intro n
 induction n using Nat.strongRecOn with
 | _ n ih=>
 intro hn hf;have key:=Ol x n B hn hB hx1 hf (fun h0=>ih (n/2) (Nat.div_lt_self h0 (by omega)) (by omega) (fun j hj=>hf j (by omega)));exact key
open Go Go.Proofs Tryz Ord
def VL:Tr:=eS 32 0 (some 4) 49 48 (aM 60 [(G4 33)] [(some 4)] [49] [49] 49 false (aM 126 [(.agg [(U 17 0),(U 18 0),(U 19 0),(U 20 0)]),(W 21 0)] [(some 4)] [51,52] [49,3] 49 false (aM 104 [(G4 34),(G4 35)] [(some 4)] [50,53] [49,49] 49 true (aM 48 [(.agg [(U 22 0),(U 23 0),(U 24 0),(U 25 0)]),(G4 36)] [(some 4)] [42,54] [49,49] 49 true (bA .add 3 40 1 21 0 3 (.back 1 [lV 38 0,lV 37 0,lV 37 1,lV 37 2,lV 37 3]))))))
def VF:Tr:=aM 50 [(W 68 0)] [(some 4)] [117] [2] 49 false (bM .sub 3 119 120 4 0 42 0 3 (aM 126 [(G4 69),(W 70 0)] [(some 4)] [118,121] [49,3] 49 false (aM 102 [(G4 66),(G4 71)] [(some 4)] [113,122] [49,49] 49 true (aM 48 [(.agg [(U 49 0),(U 50 0),(U 51 0),(U 52 0)]),(G4 72)] [(some 4)] [97,123] [49,49] 49 true (bA .add 3 88 1 48 0 3 (.back 2 [lV 74 0,lV 73 0,lV 73 1,lV 73 2,lV 73 3]))))))
def Vd:Tr:=aM 60 [(G4 61)] [(some 4)] [104] [49] 49 false (bM .add 3 107 108 4 0 48 0 3 (bM .sub 3 109 110 63 0 42 0 3 (aM 126 [(.agg [(U 17 0),(U 18 0),(U 19 0),(U 20 0)]),(W 64 0)] [(some 4)] [106,111] [49,3] 49 false (aM 104 [(G4 62),(G4 65)] [(some 4)] [105,112] [49,49] 49 false (bM .sub 3 114 115 36 0 4 0 3 (bA .add 3 116 1 67 0 3 VF))))))
def VT:Tr:=aM 50 [(W 69 0)] [(some 4)] [117] [2] 49 false (bM .sub 3 119 120 4 0 42 0 3 (aM 126 [(G4 70),(W 71 0)] [(some 4)] [118,121] [49,3] 49 false (aM 102 [(G4 67),(G4 72)] [(some 4)] [113,122] [49,49] 49 true (aM 48 [(.agg [(U 49 0),(U 50 0),(U 51 0),(U 52 0)]),(G4 73)] [(some 4)] [97,123] [49,49] 49 true (bA .add 3 88 1 48 0 3 (.back 2 [lV 75 0,lV 74 0,lV 74 1,lV 74 2,lV 74 3]))))))
def Wg:Tr:=aM 60 [(G4 62)] [(some 4)] [104] [49] 49 false (bM .add 3 107 108 4 0 48 0 3 (bM .sub 3 109 110 64 0 42 0 3 (aM 126 [(.agg [(U 17 0),(U 18 0),(U 19 0),(U 20 0)]),(W 65 0)] [(some 4)] [106,111] [49,3] 49 false (aM 104 [(G4 63),(G4 66)] [(some 4)] [105,112] [49,49] 49 false (bM .sub 3 114 115 36 0 4 0 3 (bA .add 3 116 1 68 0 3 VT))))))
def XY:Tr:=.split (.u 57 0) (fP 2 0 42 0 44 98 99 (eS 58 0 none 167 100 (fP 59 0 48 0 167 101 102 (eS 60 0 (some 4) 49 103 Vd)))) (bA .gtr 3 94 0 48 0 4 (.split (.u 58 0) (fP 2 0 42 0 44 98 99 (eS 59 0 none 167 100 (fP 60 0 48 0 167 101 102 (eS 61 0 (some 4) 49 103 Wg)))) (bA .add 3 88 1 48 0 3 (.back 2 [lV 59 0,lV 49 0,lV 50 0,lV 51 0,lV 52 0]))))
def Yc:Tr:=fP 2 0 42 0 44 82 83 (eS 53 0 none 167 84 (cV 54 0 85 167 (bM .lss 3 81 86 48 0 55 0 4 (.split (.u 56 0) (bM .lss 3 90 91 42 0 4 0 4 XY) (bA .add 3 79 1 42 0 3 (.back 1 [lV 57 0,lV 49 0,lV 50 0,lV 51 0,lV 52 0]))))))
def WN:Tr:=bM .leq 3 76 77 42 0 4 0 4 (.split (.u 47 0) (.loop 2 [lK 0,lV 43 0,lV 44 0,lV 45 0,lV 46 0] Yc) (aM 47 [(.agg [(U 43 0),(U 44 0),(U 45 0),(U 46 0)]),(G4 9)] [none] [125,126] [49,49] 3 true (bA .leq 3 127 0 48 0 4 (.split (.u 49 0) (.ret [(.agg [(U 17 0),(U 18 0),(U 19 0),(U 20 0)]),(W 36 0)]) (.need (.prim [(WK 2),(W 36 0)] none) (.binOp .mul 3 (.const (I3 2)) (tT 74) 3) 3 false (.back 0 [lV 35 0,lV 50 0,lV 37 0,lV 38 0,lV 39 0,lV 40 0]))))))
def Mn:Tr:=.ret [(.agg [(tE (.int .i64 0)),tN,(tE (.int .i64 0)),tN]),(WK 0)]
def Wl:Tr:=.split (.u 32 0) (aM 127 [(W 2 0)] [none] [68] [44] 3 false (bM .add 3 69 70 33 0 4 0 3 (.loop 0 [lV 11 0,lV 34 0,lV 13 0,lV 14 0,lV 15 0,lV 16 0] (bA .leq 3 72 4096 36 0 4 (.split (.u 41 0) (.loop 1 [lK 0,lK 0,lN,lK 0,lN] WN) Mn))))) (bA .eql 3 62 62 12 0 4 (.split (.u 33 0) Mn (.need (.call 79 [(WK 1),(WK 2)] [(some 4)]) (.call ⟨.value (.func 79),#[(.const (I3 1)),(.const (I3 2))],#[2,2]⟩) 49 true (aM 104 [(.agg [(U 17 0),(U 18 0),(U 19 0),(U 20 0)]),(G4 34)] [(some 4)] [65,66] [49,49] 49 true (bA .add 3 31 1 12 0 3 (.back 0 [lV 11 0,lV 36 0,lV 13 0,lV 14 0,lV 15 0,lV 16 0,lV 35 0,lV 35 1,lV 35 2,lV 35 3]))))))
def WC:Tr:=eS 26 0 none 167 36 (cV 27 0 37 167 (bM .lss 3 33 38 21 0 28 0 4 (.split (.u 29 0) (fP 2 0 4 0 44 43 44 (eS 30 0 none 167 45 (fP 31 0 21 0 167 46 47 VL))) (aM 48 [(.agg [(U 22 0),(U 23 0),(U 24 0),(U 25 0)]),(.agg [(U 22 0),(U 23 0),(U 24 0),(U 25 0)])] [(some 4)] [56,57] [49,49] 49 false (aM 47 [(G4 30),(G4 9)] [none] [58,59] [49,49] 3 true (bA .leq 3 60 0 31 0 4 Wl))))))
def ad6:Tr:=.need (.prim [(W 6 0),(WK 0)] none) (.indexAddr 167 (tT 26) (.const (I3 0))) 0 false (eS 7 0 (some 4) 49 27 (aM 60 [(G4 8)] [(some 4)] [28] [49] 49 true (.need (.call 50 [(WK 4)] [(some 4)]) (.call ⟨.value (.func 50),#[(.const (I3 4))],#[2]⟩) 49 true (.loop 0 [lK 0,lK 0,lK 0,lN,lK 0,lN,lV 10 0,lV 10 1,lV 10 2,lV 10 3] (.loop 1 [lK 1,lK 0,lN,lK 0,lN] (fP 2 0 4 0 44 34 35 WC))))))
def as3:Tr:=aM 125 [(W 0 0),(G4 1)] [none] [17,18] [44,49] 44 true (cV 2 0 20 44 (bA .sub 3 21 1 3 0 3 (fP 2 0 4 0 44 23 24 (eS 5 0 none 167 25 ad6))))
theorem RO:aL prog f43 (fun _=>none) [.v none, .v (some 4)]=as3:=by kernel_rfl
theorem La:aY 0=((4:Int):Rat):=by decide +kernel
theorem Ux (h:Nat):mkRat 1 (2^(h+1))=mkRat 1 (2^h)*mkRat 1 2:=by
 rw [Rat.mkRat_mul_mkRat,Nat.pow_succ];rfl
theorem Jo:((1:Int):Rat)/((2:Int):Rat)=mkRat 1 2:=by decide +kernel
theorem LS (h:Nat):aY h*(((1:Int):Rat)/((2:Int):Rat))=aY (h+1):=by
 rw [aY,aY,Ux,Jo,Rat.mul_assoc]
theorem Ws {Q:List (List RQ)} {i:Nat} {p:List RQ} (h:Q[i]? = some p):(uY Q).getD i []=p.map RQ.q:=by
 rw [eX,uY,cU,h];rfl
theorem getD_some {p:List RQ} {k:Nat} {x:RQ} (h:p[k]? = some x):(p.map RQ.q).getD k 0=x.q:=by
 rw [eX,cU,h];rfl
theorem Pb (p:List Rat) (k:Nat):(p.drop 1).getD k 0=p.getD (k+1) 0:=by
 rw [eX,List.getElem?_drop,eX,Nat.add_comm 1 k]
set_option maxHeartbeats 8000000 in
theorem SS (e:List (List RQ)) (c:RQ) (F:Nat) (hmild:∀ p∈e,JQ F p [c, .of ((1:Int):Rat)]∧p.length≤1048576) (hF64:64≤F) (Q:List (List RQ)) (hQ:NK e c=Q) (q:List (List Rat)) (hq:uY Q=q) (m:Nat) (p0:List RQ) (l:RQ) (hp0:Q[m]? = some p0) (hl0:p0[0]? = some l) (B L h0 i0:Nat) (C:JB B q m l.q L h0 (m+bD q+m) i0) (hql:q.length=m+1) (h64:64≤B) (hh:h0≤63) (hlow:∀ h,h<h0→¬ kW q m l.q h) (hs:h0≤62→kW q m l.q h0) (hst:h0≤62→∀ i,i<i0→(m+bD q+m)*2^i≤4096∧¬ fB q m l.q (aY h0) ((m+bD q+m)*2^i)) (hsi:h0≤62→4096<(m+bD q+m)*2^i0∨fB q m l.q (aY h0) ((m+bD q+m)*2^i0)) (hi13:i0≤13) (hF:F≤100000000:=by omega) (hm:m≤64:=by omega) (hL:L≤1048576:=by omega) (hB:B≤100000000:=by omega):aN prog 43 [(.one (eR e):aF),(lI c:aF)] (if h0=63∨4096<(m+bD q+m)*2^i0 then .ret [lI .nil, .one (.int .i64 0)] else .ret [lI (.of (aY h0)), .one (.int .i64 (((m+bD q+m)*2^i0:Nat):Int))]):=by
 refine cM func43 RO ?_
 have hel:e.length=m+1:=by
  have h1:(NK e c).length=e.length:=by rw [NK,aP]
  have h2:(uY Q).length=Q.length:=MB Q;rw [hQ] at h1;rw [hq] at h2;omega
 have hQl:Q.length=m+1:=by
  have h2:(uY Q).length=Q.length:=MB Q;rw [hq] at h2;omega
 have hqi:∀ {i p},Q[i]? = some p→q.getD i []=p.map RQ.q:=fun h=>by rw [←hq];exact Ws h
 have hqf:∀ {i:Nat} {p:List RQ},Q[i]? = some p→p.length≤L∧∀ x∈p,Fit B x.q:=fun {i p} h=>by
  have hmem:p.map RQ.q∈q:=by rw [←hq,uY];exact List.mem_map_of_mem (cS h)
  obtain ⟨h1,h2⟩:=C.fq _ hmem;rw [aP] at h1;exact ⟨h1,fun x hx=>h2 _ (List.mem_map_of_mem hx)⟩
 obtain ⟨hpl,hfp⟩:=hqf hp0;have hg0:=hqi hp0;have hlen1:1≤p0.length:=by have:=(dS.1 hl0).1;omega
 have hfs:=C.fs;have hfl:=jV C.flead;rw [hg0] at hfs;have hokr:∀ h,kW q m l.q h↔jZ ((p0.map RQ.q).drop 1) (aY h) (p0.length-1)+jZ ((p0.map RQ.q).drop 1) (aY h) (p0.length-1)≤l.q.abs:=fun h=>by rw [kW,hg0,aP]
 have hlow:∀ h,h<h0→¬ jZ ((p0.map RQ.q).drop 1) (aY h) (p0.length-1)+jZ ((p0.map RQ.q).drop 1) (aY h) (p0.length-1)≤l.q.abs:=fun h hh=>by rw [←hokr];exact hlow h hh
 have hs:=fun hx=>(hokr h0).1 (hs hx);have hcall:=QB e c F hmild hF hF64;rw [hQ] at hcall;apply aC hcall rfl;dsimp only [aA,aB];apply vn (aQ zL (show (Q.map cR).length=m+1 by rw [aP,hQl])) rfl;dsimp only [aA,aB];apply vn (aI) rfl;dsimp only [aA,aB];rw [show ((m+1:Nat):Int)-1=(m:Int) by omega];apply vn (aW zL hp0 (Int.toNat_natCast m)) rfl;dsimp only [aA,aB];apply vn (bG xF) rfl;dsimp only [aA,aB];apply vn (aW fS hl0 (show (0:Int).toNat=0 from rfl)) rfl;dsimp only [aA,aB];apply vn (bO Cw (by decide) (by simp) (.inl rfl)) rfl;dsimp only [aA,aB];apply aC (BC l) rfl;dsimp only [aA,aB];apply aC (lD 4) rfl;rw [←La];dsimp only [aA,aB];refine bF {h:Nat // h≤h0∧h≤62} (fun g=>([.one (.int .i64 0), .one (.int .i64 g.1), .one (.int .i64 0), .one (.exact (.slice none 0 0)), .one (.int .i64 0), .one (.exact (.slice none 0 0))]:List aF)++(rC (.of (aY g.1))).map aF.one) (fun g=>h0-g.1) ⟨0,bR _,bR _⟩ aO.rfl (fun _=>rfl) ?_;rintro ⟨h,hh0,hh2⟩;dsimp only [aA,aB,List.map] at hh0 hh2 ⊢;refine bF {g:Nat×RQ // g.1+1≤p0.length∧g.2.q=jZ ((p0.map RQ.q).drop 1) (aY h) g.1} (fun g=>(.one (.int .i64 ((g.1.1+1:Nat):Int)):aF)::(rC g.1.2).map .one) (fun g=>p0.length-g.1.1) ⟨(0, .nil),hlen1,rfl⟩ ⟨aF.Sub.same,yI.1,yI.2.1,yI.2.2.1,yI.2.2.2.1,trivial⟩ (fun _=>rfl) ?_;rintro ⟨⟨k,r⟩,hk,hr⟩;dsimp only [aA,aB,List.map] at hk hr ⊢;apply vn (aW zL hp0 (Int.toNat_natCast m)) rfl;dsimp only [aA,aB];apply vn (bG xF) rfl;dsimp only [aA,aB];apply vn (aQ fS (aP _)) rfl;dsimp only [aA,aB];apply vn bE rfl;dsimp only [aA,aB];refine vs _ rfl ?_ ?_<;>intro h15
 ·apply vn (aW zL hp0 (Int.toNat_natCast m)) rfl;dsimp only [aA,aB];apply vn (bG xF) rfl;dsimp only [aA,aB];obtain ⟨x,hx⟩:∃ x,p0[k+1]? = some x:=⟨_,bI (by omega)⟩
  have hfx:=hfp x (cS hx);have hfr:Fit B r.q:=by rw [hr];exact hfs h hh0 hh2 k (by omega)
  apply vn (aW fS hx (Int.toNat_natCast (k+1))) rfl;dsimp only [aA,aB];apply vn (bO Cw (by decide) (by simp) (.inl rfl)) rfl;dsimp only [aA,aB];apply aC (BC x) rfl;dsimp only [aA,aB];apply aC (uE (.of (aY h)) B (by omega) (by have:=C.frho h hh0 hh2 1 (by omega);rwa [Rat.pow_succ,Rat.pow_zero,Rat.one_mul] at this) (k+1) (by omega) (fun j hj=>C.frho h hh0 hh2 j (by omega))) rfl;dsimp only [aA,aB];apply aC (tZ (.of x.q.abs) (.of ((RQ.of (aY h)).q^(k+1))) B B (jV hfx) (C.frho h hh0 hh2 (k+1) (by omega))) rfl;dsimp only [aA,aB];apply aC (tY r _ B (B+B) hfr ((jV hfx).mul (C.frho h hh0 hh2 (k+1) (by omega)))) rfl;dsimp only [aA,aB];apply vn (aD) rfl
  exact aR rfl ⟨⟨(k+1, .of (r.q+x.q.abs*aY h^(k+1))),by dsimp only;omega,by
   show r.q+x.q.abs*aY h^(k+1)=_;dsimp only;rw [jZ,hr,Pb,getD_some hx]⟩,aO.of_eq rfl,by show p0.length-(k+1)<p0.length-k;omega⟩
 have hkl:p0.length-1=k:=by omega
 rw [hkl] at hlow hs;have hfr:Fit B r.q:=by rw [hr];exact hfs h hh0 hh2 k (by omega)
 apply aC (tY r r B B hfr hfr) rfl;dsimp only [aA,aB];apply aC (Kd _ (.of l.q.abs) (B+B+1) B (hfr.add hfr) hfl) rfl;rw [show lS (RQ.of (r.q+r.q)).q (RQ.of l.q.abs).q=lS (jZ ((p0.map RQ.q).drop 1) (aY h) k+jZ ((p0.map RQ.q).drop 1) (aY h) k) l.q.abs by rw [←hr];rfl];dsimp only [aA,aB];apply vn iZ rfl;dsimp only [aA,aB];refine vs _ rfl ?_ ?_<;>intro h29
 ·have hle:=mQ.1 h29
  have hheq:h=h0:=by
   rcases Nat.lt_or_ge h h0 with hl | hl
   ·exact (hlow h hl hle).elim
   ·omega
  subst hheq;replace hs:=hs hh2;replace hst:=hst hh2;replace hsi:=hsi hh2
  have hQs:∀ p∈Q,p.length<1099511627776:=fun p hp=>by
   obtain ⟨i,hi⟩:=List.getElem?_of_mem hp;have:=(hqf hi).1;omega
  have hdm:=qX (N:=1048576) q (fun p hp=>Nat.le_trans (C.fq p hp).1 hL);have hsz:=YZ Q hQs;rw [hq,hQl] at hsz;apply aC hsz rfl;dsimp only [aA,aB];apply vn (aD) rfl;rw [show ((m+1:Nat):Int)-1+(bD q:Nat)+(m:Int)=((m+bD q+m:Nat):Int) by omega];dsimp only [aA,aB];generalize hse:m+bD q+m=s at *;refine bF {i:Nat // i≤i0} (fun g=>[.one (.int .i64 0), .one (.int .i64 ((s*2^g.1:Nat):Int)), .one (.int .i64 0), .one (.exact (.slice none 0 0)), .one (.int .i64 0), .one (.exact (.slice none 0 0))]) (fun g=>i0-g.1) ⟨0,bR _⟩ (aO.of_eq (by rw [Nat.pow_zero,Nat.mul_one];rfl)) (fun _=>rfl) ?_;rintro ⟨i,hi⟩;dsimp only [aA,aB,List.map] at hi ⊢;have hpw:s*2^i≤s*2^13:=Nat.mul_le_mul_left _ (Nat.pow_le_pow_right (by omega) (by omega));have hs13:s≤1048704:=by omega
  have hsm:m≤s*2^i:=by
   have h1:1≤2^i:=Nat.pow_pos (by omega);have h2:s*1≤s*2^i:=Nat.mul_le_mul_left _ h1;omega
  obtain ⟨z,hz⟩:∃ z,s*2^i=z:=⟨_,rfl⟩
  rw [hz] at hpw hsm ⊢;apply vn iZ rfl;dsimp only [aA,aB];refine vs _ rfl ?_ ?_<;>intro h34
  ·have hz4:z≤4096:=by omega
   have hfm:=C.fm i hi (by omega);have hfo:=C.fo i hi (by omega);rw [hz] at hfm hfo;have hN0:(((z:Int)-m+1:Int):Rat)≠0:=zne (by omega);refine bF {g:Nat×RQ // g.1≤m+1∧g.2.q=gB q m (aY h) (((z:Int)-m+1:Int):Rat) g.1} (fun g=>(.one (.int .i64 g.1.1):aF)::(rC g.1.2).map .one) (fun g=>m+1-g.1.1) ⟨(0, .nil),bR _,rfl⟩ ⟨aF.Sub.same,yI.1,yI.2.1,yI.2.2.1,yI.2.2.2.1,trivial⟩ (fun _=>rfl) ?_;rintro ⟨⟨a,r1⟩,ha,hr1⟩;dsimp only [aA,aB,List.map] at ha hr1 ⊢;apply vn iZ rfl;dsimp only [aA,aB];refine vs _ rfl ?_ ?_<;>intro h37
   ·obtain ⟨p,hpa⟩:∃ p,Q[a]? = some p:=⟨_,bI (by omega)⟩
    have hga:=hqi hpa;obtain ⟨hpal,hpaf⟩:=hqf hpa;have hfx:=fun k=>hfm.fx a k (by omega);rw [hga] at hfx;refine bF {g:Nat×RQ // g.1≤p.length∧g.2.q=gY (p.map RQ.q) m a (aY h) (((z:Int)-m+1:Int):Rat) (gB q m (aY h) (((z:Int)-m+1:Int):Rat) a) g.1} (fun g=>(.one (.int .i64 g.1.1):aF)::(rC g.1.2).map .one) (fun g=>p.length-g.1.1) ⟨(0,r1),bR _,hr1⟩ aO.rfl (fun _=>rfl) ?_;rintro ⟨⟨k,r2⟩,hk2,hr2⟩;dsimp only [aA,aB,List.map] at hk2 hr2 ⊢;apply vn (aW zL hpa (Int.toNat_natCast a)) rfl;dsimp only [aA,aB];apply vn (bG xF) rfl;dsimp only [aA,aB];apply vn (aQ fS (aP _)) rfl;dsimp only [aA,aB];apply vn bE rfl;dsimp only [aA,aB];refine vs _ rfl ?_ ?_<;>intro h43
    ·obtain ⟨x,hx⟩:∃ x,p[k]? = some x:=⟨_,bI (by omega)⟩
     have hfc:=jV (hpaf x (cS hx));have hfr2:Fit B r2.q:=by rw [hr2];exact hfx k (by rw [aP];omega)
     have hrp:=hfm.frho (m+k-a) (by omega);have hNp:=hfm.fN (m-a) (by omega);have e1:(m:Int)+(k:Int)-(a:Int)=((m+k-a:Nat):Int):=by omega
     have e2:(m:Int)-(a:Int)=((m-a:Nat):Int):=by omega
     apply vn bE rfl;dsimp only [aA,aB];refine vs _ rfl ?_ ?_<;>intro h45
     ·apply vn (aW zL hpa (Int.toNat_natCast a)) rfl;dsimp only [aA,aB];apply vn (bG xF) rfl;dsimp only [aA,aB];apply vn (aW fS hx (Int.toNat_natCast k)) rfl;dsimp only [aA,aB];apply vn (bO Cw (by decide) (by simp) (.inl rfl)) rfl;dsimp only [aA,aB];apply aC (BC x) rfl;dsimp only [aA,aB];apply vn (aD) rfl;dsimp only [aA,aB];apply vn (aI) rfl;rw [e1];dsimp only [aA,aB];apply aC (uE (.of (aY h)) B (by omega) (by have:=C.frho h hh0 hh2 1 (by omega);rwa [Rat.pow_succ,Rat.pow_zero,Rat.one_mul] at this) (m+k-a) (by omega) (fun j hj=>hfm.frho j (by omega))) rfl;dsimp only [aA,aB];apply aC (tZ (.of x.q.abs) (.of ((RQ.of (aY h)).q^(m+k-a))) B B hfc hrp) rfl;dsimp only [aA,aB];apply vn (aI) rfl;dsimp only [aA,aB];apply vn (aD) rfl;dsimp only [aA,aB];apply aC (lD ((z:Int)-m+1)) rfl;dsimp only [aA,aB];apply vn (aI) rfl;rw [e2];dsimp only [aA,aB];apply aC (uE (.of (((z:Int)-m+1:Int):Rat)) B (by omega) (by have:=(Fit.int (n:=(z:Int)-m+1) (B:=64) (by omega) (by omega));exact this.mono h64) (m-a) (by omega) (fun j hj=>hfm.fN j (by omega))) rfl;dsimp only [aA,aB];apply aC (Qz (.of (x.q.abs*aY h^(m+k-a))) (.of ((((z:Int)-m+1:Int):Rat)^(m-a))) (B+B) B (uW hN0 _) (hfc.mul hrp) hNp) rfl;dsimp only [aA,aB];apply aC (tY r2 _ B (B+B+B) hfr2 ((hfc.mul hrp).div hNp)) rfl;dsimp only [aA,aB];apply vn (aD) rfl
      exact aR rfl ⟨⟨(k+1,_),by dsimp only;omega,by
       show r2.q+x.q.abs*aY h^(m+k-a)/_=_;dsimp only;rw [gY,if_pos (.inl (by omega)),hr2,getD_some hx];rfl⟩,aO.rfl,by show p.length-(k+1)<p.length-k;omega⟩
     apply vn eE rfl;dsimp only [aA,aB];refine vs _ rfl ?_ ?_<;>intro h65
     ·apply vn (aW zL hpa (Int.toNat_natCast a)) rfl;dsimp only [aA,aB];apply vn (bG xF) rfl;dsimp only [aA,aB];apply vn (aW fS hx (Int.toNat_natCast k)) rfl;dsimp only [aA,aB];apply vn (bO Cw (by decide) (by simp) (.inl rfl)) rfl;dsimp only [aA,aB];apply aC (BC x) rfl;dsimp only [aA,aB];apply vn (aD) rfl;dsimp only [aA,aB];apply vn (aI) rfl;rw [e1];dsimp only [aA,aB];apply aC (uE (.of (aY h)) B (by omega) (by have:=C.frho h hh0 hh2 1 (by omega);rwa [Rat.pow_succ,Rat.pow_zero,Rat.one_mul] at this) (m+k-a) (by omega) (fun j hj=>hfm.frho j (by omega))) rfl;dsimp only [aA,aB];apply aC (tZ (.of x.q.abs) (.of ((RQ.of (aY h)).q^(m+k-a))) B B hfc hrp) rfl;dsimp only [aA,aB];apply vn (aI) rfl;dsimp only [aA,aB];apply vn (aD) rfl;dsimp only [aA,aB];apply aC (lD ((z:Int)-m+1)) rfl;dsimp only [aA,aB];apply vn (aI) rfl;rw [e2];dsimp only [aA,aB];apply aC (uE (.of (((z:Int)-m+1:Int):Rat)) B (by omega) (by have:=(Fit.int (n:=(z:Int)-m+1) (B:=64) (by omega) (by omega));exact this.mono h64) (m-a) (by omega) (fun j hj=>hfm.fN j (by omega))) rfl;dsimp only [aA,aB];apply aC (Qz (.of (x.q.abs*aY h^(m+k-a))) (.of ((((z:Int)-m+1:Int):Rat)^(m-a))) (B+B) B (uW hN0 _) (hfc.mul hrp) hNp) rfl;dsimp only [aA,aB];apply aC (tY r2 _ B (B+B+B) hfr2 ((hfc.mul hrp).div hNp)) rfl;dsimp only [aA,aB];apply vn (aD) rfl
      exact aR rfl ⟨⟨(k+1,_),by dsimp only;omega,by
       show r2.q+x.q.abs*aY h^(m+k-a)/_=_;dsimp only;rw [gY,if_pos (.inr (by omega)),hr2,getD_some hx];rfl⟩,aO.rfl,by show p.length-(k+1)<p.length-k;omega⟩
     apply vn (aD) rfl
     exact aR rfl ⟨⟨(k+1,r2),by dsimp only;omega,by
      dsimp only;rw [gY,if_neg (by omega)];exact hr2⟩,aO.rfl,by show p.length-(k+1)<p.length-k;omega⟩
    apply vn (aD) rfl
    exact aR rfl ⟨⟨(a+1,r2),by dsimp only;omega,by
     dsimp only;rw [gB,hga,aP,show p.length=k by omega];exact hr2⟩,aO.rfl,by show m+1-(a+1)<m+1-a;omega⟩
   have haq:q.length=a:=by omega
   rw [haq] at hfo;apply aC (Kd r1 (.of l.q.abs) B B (by rw [hr1];exact hfo) hfl) rfl;rw [show lS r1.q (RQ.of l.q.abs).q=lS (gB q m (aY h) (((z:Int)-m+1:Int):Rat) q.length) l.q.abs by rw [hr1,haq];rfl];dsimp only [aA,aB];apply vn iZ rfl;dsimp only [aA,aB];refine vs _ rfl ?_ ?_<;>intro h90
   ·have hle2:=mQ.1 h90
    have hieq:i=i0:=by
     rcases Nat.lt_or_ge i i0 with hl | hl
     ·exact ((hst i hl).2 (by rw [fB,hz];exact hle2)).elim
     ·omega
    subst hieq;rw [if_neg (by omega),hz];exact aK rfl
   have hilt:i<i0:=by
    rcases Nat.lt_or_ge i i0 with hl | hl
    ·exact hl
    ·exfalso
     obtain rfl:i=i0:=by omega
     rw [fB,hz] at hsi;exact h90 (mQ.2 (hsi.resolve_left (by omega)))
   apply vn (lZ) rfl
   exact aR rfl ⟨⟨i+1,by omega⟩,aO.of_eq (by
    dsimp only;rw [Nat.pow_succ,←Nat.mul_assoc,hz,show ((z*2:Nat):Int)=2*(z:Int) by omega];rfl),by show i0-(i+1)<i0-i;omega⟩
  have hie:i=i0:=by
   rcases Nat.lt_or_ge i i0 with hl | hl
   ·have:=(hst i hl).1;omega
   ·omega
  subst hie;rw [if_pos (.inr (by omega))];exact dK ⟨yI,aF.Sub.same,trivial⟩
 have hhlt:h<h0:=by
  rcases Nat.lt_or_ge h h0 with hl | hl
  ·exact hl
  ·exfalso
   obtain rfl:h=h0:=by omega
   exact h29 (mQ.2 (hs hh2))
 apply vn bQ rfl;dsimp only [aA,aB];refine vs _ rfl ?_ ?_<;>intro h96
 ·rw [if_pos (.inl (by omega))];exact dK ⟨yI,aF.Sub.same,trivial⟩
 apply aC (Sb 1 2) rfl;dsimp only [aA,aB];apply aC (tZ (.of (aY h)) (.of (((1:Int):Rat)/((2:Int):Rat))) B 64 (by have:=C.frho h hh0 hh2 1 (by omega);rwa [Rat.pow_succ,Rat.pow_zero,Rat.one_mul] at this) (by rw [RQ.SE,Jo];decide)) rfl;rw [show (RQ.of (aY h)).q*(RQ.of (((1:Int):Rat)/((2:Int):Rat))).q=aY (h+1) from LS h];dsimp only [aA,aB];apply vn (aD) rfl;dsimp only [aA,aB];exact aR rfl ⟨⟨h+1,by omega,by omega⟩,aO.rfl,by show h0-(h+1)<h0-h;omega⟩
end Go.Sy
