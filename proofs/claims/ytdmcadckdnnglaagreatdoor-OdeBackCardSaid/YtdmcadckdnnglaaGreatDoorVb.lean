/- A composition has few bits. The numbers of a small case. The derivative; falling factors of the law; the sums of OdeSolves. The greatest of a list; powers, widths of the reference. The reference's reach.
-/
import Derived.Test.YtdmcadckdnnglaaGreatDoorPc
import Derived.Test.YtdmcadckdnnglaaGreatDoorQf
set_option linter.unusedVariables false
set_option linter.unusedSimpArgs false
namespace Go.Sy
open Go Go.Proofs Tryz Ord
abbrev iU (D S:Nat) (p:List RQ):Prop:=∀ x∈p,Bd D S x.q
theorem iU.at {D S:Nat} {p:List RQ} (h:iU D S p) (i:Nat):Bd D S (atR p i):=by
 rw [atR,List.getD_eq_getElem?_getD,List.getElem?_map];cases hx:p[i]? with
 | none=>exact Bd.zero
 | some x=>exact h x (List.mem_of_getElem? hx)
theorem iU.trim {D S:Nat} {p:List RQ} (h:iU D S p):iU D S (dZ p):=fun x hx=>h x (List.mem_of_mem_take hx)
theorem iU.add {D S T:Nat} {a b:List RQ} (h0:D≠0) (ha:iU D S a) (hb:iU D T b):iU D (S+T) (Mc a b):=by
 refine iU.trim fun x hx=>?_;obtain ⟨k,_,rfl⟩:=List.mem_map.1 hx;exact (ha.at k).add h0 (hb.at k)
theorem iU.scale {D E S T:Nat} {a:List RQ} {c:Rat} (h0:D≠0) (h1:E≠0) (ha:iU D S a) (hc:Bd E T c):iU (D*E) (S*T) (dZ (eG a c)):=by
 refine iU.trim fun x hx=>?_;obtain ⟨u,hu,rfl⟩:=List.mem_map.1 hx;exact (ha u hu).mul h0 h1 hc
theorem iU.mono {D S E T:Nat} {p:List RQ} (h:iU D S p) (hD:D∣E) (hS:S≤T):iU E T p:=fun x hx=>(h x hx).mono hD hS
theorem zL {D E S T:Nat} {a b:List RQ} (h0:D≠0) (h1:E≠0) (ha:iU D S a) (hb:iU E T b):∀ i,iU (D*E) (i*(S*T)) (mulR a b i)
 | 0=>fun x hx=>by cases hx
 | i+1=>by
   rw [mulR,Nat.add_mul,Nat.one_mul];refine (zL h0 h1 ha hb i).add (Nat.mul_ne_zero h0 h1) fun x hx=>?_;rcases List.mem_append.1 hx with h | h
   ·rw [(List.mem_replicate.1 h).2];exact Bd.zero
   ·exact ha.scale h0 h1 (hb.at i) x h
theorem uK {E T:Nat} {q:List RQ} (h1:E≠0) (hb:iU E T q) (hq:q.length=2):∀ i,iU (E^i) ((2*T)^i) (pU q i)
 | 0=>by
   rw [pU,Nat.pow_zero,Nat.pow_zero];refine iU.trim fun x hx=>?_;rw [List.mem_singleton.1 hx];exact Bd.int (by simp)
 | i+1=>by
   have ih:=uK h1 hb hq i;have h:=zL (Nat.pos_iff_ne_zero.1 (Nat.pow_pos (Nat.pos_of_ne_zero h1))) h1 ih hb q.length;rw [pU,Nat.pow_succ,Nat.pow_succ];refine h.mono (Nat.dvd_refl _) (Nat.le_of_eq ?_);rw [hq];ac_rfl
theorem wL {D E S T K:Nat} {p q:List RQ} (h0:D≠0) (h1:E≠0) (hT:1≤T) (hp:iU D S p) (hb:iU E T q) (hq:q.length=2):∀ i,i≤K→iU (D*E^K) (i*(S*(2*T)^K)) (gV p q i)
 | 0,_=>fun x hx=>by cases hx
 | i+1,hi=>by
   have hE:0<E:=Nat.pos_of_ne_zero h1;rw [gV,Nat.add_mul,Nat.one_mul];refine (wL h0 h1 hT hp hb hq i (by omega)).add (Nat.mul_ne_zero h0 (Nat.pos_iff_ne_zero.1 (Nat.pow_pos hE))) ?_;refine ((uK h1 hb hq i).scale (Nat.pos_iff_ne_zero.1 (Nat.pow_pos hE)) h0 (hp.at i)).mono ?_ ?_
   ·rw [Nat.mul_comm];exact Nat.mul_dvd_mul (Nat.dvd_refl _) (Nat.pow_dvd_pow _ (by omega))
   ·rw [Nat.mul_comm S];exact Nat.mul_le_mul_right _ (Nat.pow_le_pow_right (by omega) (by omega))
def vI (D E S T K:Nat):Nat:=D*E^(K+1)*((K+2)*(S*(2*T)^(K+1)))
theorem Sp {D E S T K F:Nat} {p:List RQ} {c:RQ} (h0:D≠0) (h1:E≠0) (hS:1≤S) (hT:1≤T) (hp:iU D S p) (hc:Bd E T c.q) (hK:p.length≤K) (hF:vI D E S T K<2^F):Kt F p [c, .of ((1:Int):Rat)]:=by
 have hE:0<E:=Nat.pos_of_ne_zero h1;have hD:0<D:=Nat.pos_of_ne_zero h0
 have hb:iU E T [c, .of ((1:Int):Rat)]:=fun x hx=>by
  rcases List.mem_cons.1 hx with rfl | hx
  ·exact hc
  ·rw [List.mem_singleton.1 hx];exact Bd.int (by simpa using hT)
 have hEK:∀ i,i≤K+1→E^i≤E^(K+1):=fun i hi=>Nat.pow_le_pow_right hE hi;have hTK:∀ i,i≤K+1→(2*T)^i≤(2*T)^(K+1):=fun i hi=>Nat.pow_le_pow_right (by omega) hi
 have big:∀ {X Y:Nat} {x:Rat},X≠0→Bd X Y x→X≤D*E^(K+1)→Y≤(K+2)*(S*(2*T)^(K+1))→Fit F x:=fun {X Y x} hX0 h hX hY=>by
  have hV:Y*X≤vI D E S T K:=by
   unfold vI;rw [Nat.mul_comm (D*E^(K+1))];exact Nat.mul_le_mul hY hX
  refine h.fit hX0 (Nat.lt_of_le_of_lt ?_ hF) (Nat.lt_of_le_of_lt hV hF);unfold vI;exact Nat.le_trans hX (Nat.le_mul_of_pos_right _ (Nat.mul_pos (by omega) (Nat.mul_pos hS (Nat.pow_pos (by omega)))))
 have hS1:S≤S*(2*T)^(K+1):=Nat.le_mul_of_pos_right _ (Nat.pow_pos (by omega));have hT1:∀ Z,Z≤(2*T)^(K+1)→Z≤(K+2)*(S*(2*T)^(K+1)):=fun Z hZ=>Nat.le_trans hZ (Nat.le_trans (Nat.le_mul_of_pos_left _ hS) (Nat.le_mul_of_pos_left _ (by omega)));have hED:∀ Z,Z≤E^(K+1)→Z≤D*E^(K+1):=fun Z hZ=>Nat.le_trans hZ (Nat.le_mul_of_pos_left _ hD);refine ⟨fun x hx=>big h0 (hp x hx) (Nat.le_mul_of_pos_right _ (Nat.pow_pos hE)) (Nat.le_trans hS1 (Nat.le_mul_of_pos_left _ (by omega))),fun x hx=>big h1 (hb x hx) (hED _ (Nat.le_trans (Nat.le_of_eq (Nat.pow_one E).symm) (hEK 1 (by omega)))) (hT1 _ ?_),fun i hi x hx=>big (Nat.pos_iff_ne_zero.1 (Nat.pow_pos hE)) (uK h1 hb rfl i x hx) (hED _ (hEK i (by omega))) (hT1 _ (hTK i (by omega))),fun i hi j hj x hx=>?_,fun i hi x hx=>?_⟩
 ·exact Nat.le_trans (by rw [Nat.pow_one];omega:T≤(2*T)^1) (hTK 1 (by omega))
 ·have h:=zL (Nat.pos_iff_ne_zero.1 (Nat.pow_pos hE)) h1 (uK h1 hb rfl i) hb j x hx;refine big (Nat.mul_ne_zero (Nat.pos_iff_ne_zero.1 (Nat.pow_pos hE)) h1) h ?_ ?_
  ·rw [←Nat.pow_succ];exact hED _ (hEK (i+1) (by omega))
  ·refine hT1 _ (Nat.le_trans ?_ (hTK (i+1) (by omega)));have hj2:j≤2:=hj;rw [Nat.pow_succ,Nat.mul_left_comm];refine Nat.mul_le_mul_left _ ?_;exact Nat.mul_le_mul_right _ hj2
 ·have h:=wL (K:=K) h0 h1 hT hp hb rfl i (by omega) x hx;refine big (Nat.mul_ne_zero h0 (Nat.pos_iff_ne_zero.1 (Nat.pow_pos hE))) h (Nat.mul_le_mul_left _ (hEK K (by omega))) ?_;exact Nat.mul_le_mul (by omega) (Nat.mul_le_mul_left _ (hTK K (by omega)))
open Go Go.Proofs Tryz Ord
def dQ:Nat→Nat
 | 0=>1
 | n+1=>Nat.lcm (dQ n) (n+1)
theorem Gg {d:Nat} (h1:1≤d):∀ {n:Nat},d≤n→d∣dQ n
 | 0,h=>by omega
 | n+1,h=>by
   rw [dQ];rcases Nat.lt_or_ge n d with h2 | h2
   ·rw [show d=n+1 by omega];exact Nat.dvd_lcm_right _ _
   ·exact Nat.dvd_trans (Gg h1 h2) (Nat.dvd_lcm_left _ _)
theorem qY:∀ n:Nat,dQ n≠0
 | 0=>by decide
 | n+1=>fun h=>by
   rw [dQ] at h;rcases Nat.lcm_eq_zero_iff.1 h with h | h
   ·exact qY n h
   ·omega
theorem Oc {n d:Int} {N M:Nat} (hn:n.natAbs≤N) (h0:d≠0) (hd:d.natAbs≤M):Bd (dQ M) N ((n:Rat)/(d:Rat)):=by
 have h:=(Bd.int (D:=1) hn).div (by omega) (by omega) (Bd.int (D:=1) hd) (Pj h0);rw [Rat.num_intCast,Nat.one_mul,Nat.mul_one] at h;exact h.mono (Gg (by omega) hd) (Nat.le_refl _)
theorem bO.bd {x:bO} {N M:Nat} (hp:x.pow%4=0) (hn:x.n.natAbs≤N) (hd:x.d.natAbs≤M) (hM:1≤M):Bd (dQ M) N x.v:=by
 rw [bO.v,hp,Nat.zero_add,Rat.pow_succ,Rat.pow_zero,Rat.one_mul,bO.b];split
 ·exact Oc hn (by omega) (by omega)
 ·exact Oc hn (by assumption) hd
theorem bO.Yy {x:bO} (h:x.Bz=true):Bd (dQ 99) 99 x.v:=by
 unfold bO.Bz at h;rw [decide_eq_true_iff] at h;exact bO.bd h.1 (by omega) (by omega) (by omega)
theorem JQ {n d:Int} {N M:Nat} (hn:n.natAbs≤N) (h0:d≠0) (hd:d.natAbs≤M):((n:Rat)/(d:Rat)).den≤M∧((n:Rat)/(d:Rat)).num.natAbs≤N*((n:Rat)/(d:Rat)).den:=by
 have h:=(Bd.int (D:=1) hn).div (by omega) (by omega) (Bd.int (D:=1) hd) (Pj h0);rw [Rat.num_intCast,Nat.one_mul,Nat.mul_one] at h;exact ⟨Nat.le_trans (Nat.le_of_dvd (by omega) h.1) hd,h.2⟩
def eB:Nat:=2^96
structure rI (X:Rat):Prop where
 d:X.den≤eB
 s:X.num.natAbs≤2000*X.den
theorem rI.bd {X:Rat} (h:rI X):Bd X.den 2000 X:=⟨Nat.dvd_refl _,h.s⟩
theorem rI.fit {X:Rat} (h:rI X):Fit 140 X:=
 ⟨Nat.lt_of_le_of_lt (Nat.le_trans h.s (Nat.mul_le_mul_left _ h.d)) (by decide),Nat.lt_of_le_of_lt h.d (by decide)⟩
theorem vX (X:Rat):X.den≠0:=Nat.pos_iff_ne_zero.1 X.den_pos
theorem bO.zK {x:bO} (h:x.short=true):x.v.den≤999∧x.v.num.natAbs≤999*x.v.den:=by
 unfold bO.short at h;rw [decide_eq_true_iff] at h;rw [bO.v,h.1,Nat.zero_add,Rat.pow_succ,Rat.pow_zero,Rat.one_mul,bO.b];split
 ·exact JQ (by omega) (by omega) (by omega)
 ·exact JQ (by omega) (by assumption) (by omega)
theorem SY {X:Rat} (h:X.den≤999∧X.num.natAbs≤999*X.den):rI X:=
 ⟨Nat.le_trans h.1 (by decide),Nat.le_trans h.2 (Nat.mul_le_mul_right _ (by omega))⟩
theorem bO.few {x:bO} (h:x.short=true):rI x.v:=SY (bO.zK h)
theorem Uc:rI 0:=SY ⟨by decide,by decide⟩
theorem bO.Re {x:bO} (h:x.short=true):Bd (dQ 999) 999 x.v:=by
 unfold bO.short at h;rw [decide_eq_true_iff] at h;exact bO.bd h.1 (by omega) (by omega) (by omega)
theorem Xg {l:List Int} (h:∀ z∈l,z.natAbs≤99):∀ q∈ints l,Bd (dQ 99) 99 q:=fun q hq=>by
 obtain ⟨n,hn,rfl⟩:=List.mem_map.1 (List.mem_of_mem_take hq);exact Bd.int (h n hn)
theorem aU2 {k:Nat} {n:Int} (h1:1≤k) (h2:k≤8) (h3:0≤n) (h4:n≤8):∀ p∈kE k n,p.length≤50∧∀ q∈p,Bd (dQ 99) 99 q:=by
 have hnn:n*(n+1)≤8*9:=Int.mul_le_mul (a:=n) (b:=n+1) (c:=8) (d:=9) (by omega) (by omega) (by omega) (by omega);have hn0:0≤n*(n+1):=Int.mul_nonneg (by omega) (by omega);generalize hm:n*(n+1)=m at hnn hn0
 have key:∀ l:List Int,l.length≤3→(∀ z∈l,z.natAbs≤99)→(ints l).length≤50∧∀ q∈ints l,Bd (dQ 99) 99 q:=fun l hl h=>⟨by
  rw [ints,eM];have:=gL (z:=zr) (l.map fun n:Int=>(n:Rat));rw [List.length_map] at this;omega,Xg h⟩
 intro p hp
 rcases (by omega:k=1∨k=2∨k=3∨k=4∨k=5∨k=6∨k=7∨k=8) with rfl | rfl | rfl | rfl | rfl | rfl | rfl | rfl <;>
  simp only [kE,List.mem_cons,List.not_mem_nil,or_false] at hp <;>
  (try rw [hm] at hp) <;>
  (rcases hp with rfl | rfl | rfl<;>first | exact ⟨by simp,by simp⟩ | exact key _ (by simp) (by intro z hz;simp only [List.mem_cons,List.not_mem_nil,or_false] at hz;omega))
theorem RD (n:Nat) (hn:n≤50):(kK n).length≤50∧∀ q∈kK n,Bd (dQ 99) 99 q:=by
 refine ⟨by simp [kK];omega,fun q hq=>?_⟩;rcases List.mem_or_eq_of_mem_set hq with h | rfl
 ·rw [(List.mem_replicate.1 h).2];exact Bd.zero
 ·exact Bd.one (by omega)
structure SmallX (E:List (List Rat)) (ER:List (List RQ)) (X:Rat) (XR:RQ):Prop where
 e1:Vi E
 e2:Vi (uX ER)
 sim:Fw E (uX ER)
 x:XR.q=X
 el:E.length≤7
 eb:∀ p∈E,p.length≤50∧∀ q∈p,Bd (dQ 99) 99 q
 rb:∀ p∈uX ER,p.length≤50∧∀ q∈p,Bd (dQ 99) 99 q
 xb:rI X
structure aw9 (c:cZ):Prop extends SmallX c.E c.ER c.X c.XR where
 y:c.YR.map RQ.q=c.Y
 yl:c.Y.length≤6
 yb:∀ q∈c.Y,Bd (dQ 999) 999 q
 yf:∀ q∈c.Y,Fit 513 q
theorem Fw.refl (e:List (List Rat)):Fw e e:=⟨rfl,fun i p p' h1 h2=>by rw [h1] at h2;cases h2;exact ⟨rfl,fun _=>rfl⟩⟩
theorem ae0 {k:Nat} (h1:1≤k) (h2:k≤8):(kY k).length≤6∧∀ q∈kY k,q=0∨q=1:=by
 rcases (by omega:k=1∨k=2∨k=3∨k=4∨k=5∨k=6∨k=7∨k=8) with rfl | rfl | rfl | rfl | rfl | rfl | rfl | rfl <;>
  exact ⟨by simp [kY],fun q hq=>by simp only [kY,List.mem_cons,List.not_mem_nil,or_false] at hq;rcases hq with rfl | rfl<;>simp⟩
theorem Ld {c:cZ} (h:c.In) (hs:c.small=true):aw9 c:=by
 unfold cZ.small at hs;rw [decide_eq_true_iff] at hs;obtain ⟨hy,hsp,hx,hyl⟩:=hs;by_cases hk:0<c.kind
 ·have hkk1:1≤c.kk:=by unfold cZ.kk;omega
  have hkk8:c.kk≤8:=by unfold cZ.kk;omega
  have hnn:0≤c.nn∧c.nn≤8:=by unfold cZ.nn;split<;>omega
  have hE:c.E=kE c.kk c.nn:=by rw [cZ.E,if_pos hk]
  have hER:uX c.ER=kE c.kk c.nn:=by rw [cZ.ER,if_pos hk,aJ6 hkk1 hkk8]
  have hX:c.X=0:=by rw [cZ.X,if_pos hk]
  have hY:c.Y=kY c.kk:=by rw [cZ.Y,if_pos hk]
  obtain ⟨_,hl3,hko⟩:=aK5 hkk1 hkk8 hnn.1 (by omega);have hb:=aU2 hkk1 hkk8 hnn.1 hnn.2;have hes:Vi (kE c.kk c.nn):=⟨by omega,fun p hp=>⟨by have:=(hb p hp).1;omega,fun q hq=>((hko p hp).2 q hq).mono (by omega)⟩⟩
  obtain ⟨hy1,hy2⟩:=ae0 hkk1 hkk8;refine ⟨⟨hE▸hes,hER▸hes,by rw [hE,hER];exact Fw.refl _,by rw [cZ.XR,if_pos hk,hX];rfl,by rw [hE];omega,by rw [hE];exact hb,by rw [hER];exact hb,by rw [hX];exact Uc⟩,by rw [cZ.YR,if_pos hk,hY];exact aH0 hkk1 hkk8,by rw [hY];exact hy1,fun q hq=>?_,fun q hq=>?_⟩
  ·rw [hY] at hq;rcases hy2 q hq with rfl | rfl
   ·exact Bd.zero
   ·exact Bd.one (by omega)
  ·rw [hY] at hq;rcases hy2 q hq with rfl | rfl
   ·exact Fit.zero (by omega)
   ·exact (fD (n:=1) (by omega) (by omega)).mono (by omega)
 ·have hE:c.E=Ei c.p c.long:=by rw [cZ.E,if_neg hk]
  have hER:c.ER=QY c.p c.long:=by rw [cZ.ER,if_neg hk]
  have hX:c.X=c.c.v:=by rw [cZ.X,if_neg hk]
  have hY:c.Y=cK c.y:=by rw [cZ.Y,if_neg hk]
  obtain ⟨h1,h2⟩:=aR3 (long:=c.long) h.hp hsp;have hsp':=hsp;unfold gC at hsp';rw [decide_eq_true_iff] at hsp';obtain ⟨hp6,hpx⟩:=hsp'
  have hlong:∀ p∈(if 0<c.long then [kK (c.long%50+1).toNat] else []),p.length≤50∧∀ q∈p,Bd (dQ 99) 99 q:=by
   intro p hp;split at hp
   ·rw [List.mem_singleton] at hp;subst hp;exact RD _ (by omega)
   ·cases hp
  have hv:∀ l∈c.p,(cK l).length≤50∧∀ q∈cK l,Bd (dQ 99) 99 q:=fun l hl=>⟨by rw [tU];have:=(hpx l hl).1;omega,fun q hq=>by
   obtain ⟨x,hx,rfl⟩:=List.mem_map.1 hq;exact bO.Yy ((hpx l hl).2 x hx)⟩
  refine ⟨⟨hE▸h1,hER▸h2,by rw [hE,hER];exact aI3 _ _,by rw [cZ.XR,if_neg hk,hX];rfl,?_,fun p hp=>?_,fun p hp=>?_,by rw [hX];exact bO.few hx⟩,by rw [cZ.YR,if_neg hk,hY];exact RV _,by rw [hY,tU];exact hyl,fun q hq=>?_,fun q hq=>?_⟩
  ·rw [hE,Ei,List.length_append,List.length_map];have:(if 0<c.long then [kK (c.long%50+1).toNat] else []).length≤1:=by split<;>simp
   omega
  ·rw [hE] at hp;rcases List.mem_append.1 hp with hp | hp
   ·obtain ⟨l,hl,rfl⟩:=List.mem_map.1 hp;exact hv l hl
   ·exact hlong p hp
  ·rw [hER,Ui] at hp;rcases List.mem_append.1 hp with hp | hp
   ·obtain ⟨l,hl,rfl⟩:=List.mem_map.1 hp;have hvl:=hv l hl;exact ⟨by rw [eM];have:=gL (z:=zr) (cK l);omega,fun q hq=>hvl.2 q (List.mem_of_mem_take hq)⟩
   ·exact hlong p hp
  ·rw [hY] at hq;obtain ⟨x,hx,rfl⟩:=List.mem_map.1 hq;exact bO.Re (hy x hx)
  ·rw [hY] at hq;obtain ⟨x,hx,rfl⟩:=List.mem_map.1 hq;exact (h.hy x hx).Xp
def dX (X:Rat):Nat:=dQ 99*X.den^50
def dM:Nat:=dQ 99*eB^50
def sM:Nat:=50*(99*(2*2000)^50)
theorem Lk {D E F S T K:Nat} (h:E≤F):qL D E S T K≤qL D F S T K:=by
 unfold qL;exact Nat.mul_le_mul (Nat.mul_le_mul (Nat.mul_le_mul_left _ (Nat.pow_le_pow_left h _)) h) (Nat.le_refl _)
theorem KZ {D E F S T K:Nat} (h:E≤F):vI D E S T K≤vI D F S T K:=by
 unfold vI;exact Nat.mul_le_mul (Nat.mul_le_mul_left _ (Nat.pow_le_pow_left h _)) (Nat.le_refl _)
theorem RM:qL (dQ 99) eB 99 2000 50<2^8192∧vI (dQ 99) eB 99 2000 50<2^8192:=by decide +kernel
theorem ZV:∃ B,64≤B∧B≤16777216∧∀ e,e≤eB→qL (dQ 99) e 99 2000 50<2^B∧vI (dQ 99) e 99 2000 50<2^B:=
 ⟨8192,by decide,by decide,fun _ h=>⟨Nat.lt_of_le_of_lt (Lk h) RM.1,Nat.lt_of_le_of_lt (KZ h) RM.2⟩⟩
theorem wP (X:Rat):dX X≠0:=Nat.mul_ne_zero (qY _) (Nat.pos_iff_ne_zero.1 (Nat.pow_pos X.den_pos))
theorem rI.dX {X:Rat} (h:rI X):dX X≤dM:=Nat.mul_le_mul_left _ (Nat.pow_le_pow_left h.d _)
theorem ai3:1≤sM:=by decide +kernel
theorem Fw.mov {e e':List (List Rat)} (h:Fw e e') (c:Rat):bD e c=bD e' c:=by
 refine List.ext_getElem? fun i=>?_;rw [bD,bD,List.getElem?_map,List.getElem?_map];rcases Nat.lt_or_ge i e.length with hi | hi
 ·obtain ⟨p,hp⟩:∃ p,e[i]? = some p:=⟨_,List.getElem?_eq_getElem hi⟩
  obtain ⟨p',hp'⟩:∃ p,e'[i]? = some p:=⟨_,List.getElem?_eq_getElem (by rw [←h.1];exact hi)⟩
  rw [hp,hp',Option.map_some,Option.map_some]
  congr 1
  refine HI (lM _ _) (lM _ _) fun x=>?_;show ev (dD p c) x=ev (dD p' c) x;rw [lF,lF];exact (h.2 i p p' hp hp').2 _
 ·rw [List.getElem?_eq_none hi,List.getElem?_eq_none (by rw [←h.1];exact hi)]
section
variable {E:List (List Rat)} {ER:List (List RQ)} {X:Rat} {XR:RQ}
theorem SmallX.xf (h:SmallX E ER X XR):Fit 513 X:=h.xb.fit.mono (by omega)
theorem SmallX.sh (h:SmallX E ER X XR):uX (Ok ER XR)=bD E X:=by rw [aR1,h.x,h.sim.mov]
theorem SmallX.rq (h:SmallX E ER X XR):∀ p∈ER,p.length≤50∧iU (dQ 99) 99 p:=fun p hp=>by
 obtain ⟨h1,h2⟩:=h.rb _ (List.mem_map_of_mem (f:=fun p:List RQ=>p.map RQ.q) hp);rw [List.length_map] at h1;exact ⟨h1,fun x hx=>h2 _ (List.mem_map_of_mem hx)⟩
theorem SmallX.UN (h:SmallX E ER X XR):∀ p∈bD E X,p.length≤101∧∀ b∈p,Bd (dX X) sM b:=by
 rw [←h.sh];intro q hq;obtain ⟨q1,hq1,rfl⟩:=List.mem_map.1 hq;obtain ⟨p,hp,rfl⟩:=List.mem_map.1 hq1;obtain ⟨hl,hb⟩:=h.rq p hp
 have hq2:iU X.den 2000 [XR, .of ((1:Int):Rat)]:=fun x hx=>by
  rcases List.mem_cons.1 hx with rfl | hx
  ·rw [h.x];exact h.xb.bd
  ·rw [List.mem_singleton.1 hx];exact Bd.int (by simp)
 have hk:=wL (K:=50) (qY 99) (vX X) (by omega) hb hq2 rfl p.length hl;refine ⟨by rw [List.length_map];have:=DH p [XR, .of ((1:Int):Rat)] p.length;simp only [List.length_cons,List.length_nil] at this;omega,fun b hb=>?_⟩;obtain ⟨x,hx,rfl⟩:=List.mem_map.1 hb;exact (hk x hx).le (Nat.mul_le_mul_right _ hl)
theorem SmallX.room (h:SmallX E ER X XR) {B:Nat} (hB:B≤16777216) (hR:qL (dQ 99) X.den 99 2000 50<2^B):RA E X (dQ 99) X.den 99 2000 50 B:=
 ⟨qY _,vX _,fun p hp=>⟨(h.eb p hp).2,(h.eb p hp).1⟩,h.xb.bd,by omega,by omega,by omega,hR⟩
theorem SmallX.OQ (h:SmallX E ER X XR) {B:Nat} (hR:vI (dQ 99) X.den 99 2000 50<2^B):∀ p∈ER,Kt B p [XR, .of ((1:Int):Rat)]∧p.length≤1048576:=fun p hp=>by
 obtain ⟨hl,hb⟩:=h.rq p hp;exact ⟨Sp (qY _) (vX _) (by omega) (by omega) hb (by rw [h.x];exact h.xb.bd) hl hR,by omega⟩
end
section
theorem vP {e:List (List Rat)} {c:Rat} (h:aM e c≠0) (he:0<e.length):∃ p,(bD e c)[e.length-1]? = some p∧p[0]? = some (aM e c):=by
 refine ⟨dD (e.getD (e.length-1) []) c,?_,?_⟩
 ·rw [bD,List.getElem?_map,List.getD_eq_getElem?_getD,List.getElem?_eq_getElem (by omega)];rfl
 ·unfold aM at h ⊢;generalize dD (e.getD (e.length-1) []) c=l at *;cases l with
  | nil=>exact absurd rfl h
  | cons x l=>rfl
end
open Go Go.Proofs Tryz Ord
theorem zU:∀ (p:List Rat) (s:Nat),(trim p).getD s 0=p.getD s 0
 | [],s=>rfl
 | x::xs,s=>by
   have ih:=zU xs;rw [Ad];split
   ·rename_i h;have hx:x=0:=by simpa [zr] using h.2
    have ht:trim xs = []:=List.eq_nil_of_length_eq_zero (by rw [eM];exact h.1);cases s with
    | zero=>rw [hx];rfl
    | succ s=>
      have:=ih s;rw [ht] at this;exact this
   ·cases s with
    | zero=>rfl
    | succ s=>exact ih s
open Go Go.Proofs Tryz Ord
def ad2:Tr:=bB .gtr 3 3 0 0 0 4 (.ret [(W 1 0)])
theorem Wk:aN prog f259 (fun _=>none) [.v none]=ad2:=by kernel_rfl
def al6:Tr:=bB .eql 3 15 0 3 0 4 (.split (.u 10 0) (bB .add 3 10 1 3 0 3 (.back 0 [lV 11 0,lV 9 0,lV 9 1,lV 9 2])) (aP 38 [(G3 9),(.agg [(U 4 0),(U 5 0),(U 6 0)])] [none] [19,20] [39,39] 3 false (.need (.callv (.u 0 0) [(W 11 0)] [none]) (.call ⟨.value (tT 18),#[(tT 21)],#[3]⟩) 4 true (.split (.u 12 0) (bB .add 3 10 1 3 0 3 (.back 0 [lV 13 0,lV 9 0,lV 9 1,lV 9 2])) (bB .add 3 10 1 3 0 3 (.back 0 [lV 13 0,lV 4 0,lV 5 0,lV 6 0]))))))
def ad0:Tr:=cY 1 0 8 40 (.loop 0 [lK 0,lN,(.w (.one (.c (.k (.bool false))))),lN] (bR .lss 3 10 9 3 0 2 0 0 (.split (.u 7 0) (gE 1 0 3 0 40 8 10 (eY 8 0 (some 3) 39 13 al6)) (.ret [(.agg [(U 4 0),(U 5 0),(U 6 0)])]))))
theorem JH:aN prog f258 (fun _=>none) [.v none, .v none]=ad0:=by kernel_rfl
def az0:Tr:=.need (.call 258 [(.one (.fX 259 [])),(W 0 0)] [(some 3)]) (.call ⟨.value (.func 258),#[(.func 259),(tT 3)],#[305,40]⟩) 39 true (.ret [(G3 1)])
theorem aG2:aN prog f208 (fun _=>none) [.v none]=az0:=by kernel_rfl
def aj5:Tr:=bR .gtr 3 15 16 7 0 1 0 4 (.split (.u 8 0) (gE 0 0 2 0 44 18 19 (eY 9 0 none 167 20 (aP 96 [(W 10 0)] [none] [21] [167] 3 true (bB .add 3 9 1 2 0 3 (.back 0 [lV 11 0,lV 12 0]))))) (bB .add 3 9 1 2 0 3 (.back 0 [lV 1 0,lV 9 0])))
def am3:Tr:=cY 0 0 6 44 (bR .lss 3 5 7 2 0 3 0 4 (.split (.u 4 0) (gE 0 0 2 0 44 11 12 (eY 5 0 none 167 13 (aP 96 [(W 6 0)] [none] [14] [167] 3 false aj5))) (cY 0 0 23 44 (bB .sub 3 24 1 5 0 3 (bR .add 3 25 26 6 0 1 0 3 (.ret [(W 7 0)]))))))
def az2:Tr:=.loop 0 [lK 0,lK 0] am3
theorem XG:aN prog f127 (fun _=>none) [.v none]=az2:=by kernel_rfl
def ak3:Tr:=aP 126 [(G4 0),(W 3 0)] [(some 4)] [9,11] [49,3] 49 true (aP 104 [(G4 4),(G4 4)] [(some 4)] [13,14] [49,49] 49 true (bB .rem 3 16 2 1 0 3 (bB .eql 3 17 1 6 0 4 (.split (.u 7 0) (aP 104 [(G4 5),(G4 0)] [(some 4)] [19,20] [49,49] 49 true (.ret [(G4 8)])) (.ret [(G4 5)])))))
def ad1:Tr:=bB .eql 3 6 0 1 0 4 (.split (.u 2 0) (.need (.call 50 [(WK 1)] [(some 4)]) (.call ⟨.value (.func 50),#[(.const (I3 1))],#[2]⟩) 49 true (.ret [(G4 3)])) (bB .quo 3 10 2 1 0 3 ak3))
theorem UE:aN prog f126 (fun _=>none) [.v (some 4), .v none]=ad1:=by kernel_rfl
def lT (l:List Rat):Nat→Rat
 | 0=>0
 | i+1=>if i=0∨lT l i<l.getD i 0 then l.getD i 0 else lT l i
theorem IA {l:List Rat}:∀ i,i≤l.length→lT l i=0∨lT l i∈l
 | 0,_=>.inl rfl
 | i+1,h=>by
   rw [lT];split
   ·exact .inr (List.mem_of_getElem? (cI (show i<l.length by omega)))
   ·exact IA i (by omega)
theorem xD {l:List Rat} {B:Nat} (hB:1≤B) (h:∀ x∈l,Fit B x) (i:Nat) (hi:i≤l.length):Fit B (lT l i):=by
 rcases IA i hi with e | e
 ·rw [e];exact Fit.zero hB
 ·exact h _ e
theorem Uf {a b:Rat}:0<mN a b↔b<a:=by
 unfold mN;by_cases h1:a<b
 ·rw [if_pos h1];exact ⟨fun h=>by omega,fun h=>by grind⟩
 ·rw [if_neg h1];by_cases h2:b<a
  ·rw [if_pos h2];exact ⟨fun _=>h2,fun _=>by omega⟩
  ·rw [if_neg h2];exact ⟨fun h=>by omega,fun h=>absurd h h2⟩
theorem Yw (c:Int):aK prog 259 [(.one (.int .i64 c):aG)] (.ret [.one (.bool (decide (0<c)))]):=by
 refine aD (args:=[.v none]) (ins:=[.v (.one (.int .i64 c))]) (hints:=(fun _=>none)) fo (by kernel_rfl) func259 ⟨rfl,trivial⟩ ?_;rw [Wk];dsimp only [List.map,In.env,aA,aB];refine vn eF rfl ?_;exact aL rfl
theorem SD (l:List Rat) (B:Nat) (hl:∀ x∈l,Fit B x) (hB:1≤B) (hB2:B≤8589934592) (hs:l.length<1099511627776):aK prog 258 [(.one (.fX 259 []):aG),(.one (sQ l):aG)] (.ret [qT (lT l l.length)]):=by
 refine aD (args:=[.v none, .v none]) (ins:=[.v (.one (.fX 259 [])), .v (.one (sQ l))]) (hints:=(fun _=>none)) fo (by kernel_rfl) func258 ⟨rfl,rfl,trivial⟩ ?_;rw [JH];dsimp only [List.map,In.env,aA,aB];refine vn (aQ zZ (List.length_map _)) rfl ?_;dsimp only [aA,aB];refine bF {i:Nat // i≤l.length} (fun g=>(.one (.int .i64 g.1):aG)::(qC (lT l g.1)).map .one) (fun g=>l.length-g.1) ⟨0,Nat.zero_le _⟩ ⟨aG.Sub.same,qN⟩ (fun _=>rfl) ?_;rintro ⟨i,hi⟩;dsimp only [aA,aB,List.map] at hi ⊢;refine vn bE rfl ?_;dsimp only [aA,aB];refine vs _ rfl (fun h3=>?_) (fun h3=>?_)
 ·have hil:i<l.length:=by omega
  have hfx:=hl _ (List.mem_of_getElem? (cI hil));have hfm:=xD hB hl i hi;refine vn (aY zZ (by omega) (Int.toNat_natCast i) (cI hil)) rfl ?_;dsimp only [aA,aB];refine vn (bZ rZ (by decide) (by simp) (.inl rfl)) rfl ?_;dsimp only [aA,aB];refine vn bW rfl ?_;dsimp only [aA,aB];refine vs _ rfl (fun h7=>?_) (fun h7=>?_)
  ·refine vn (aE (by omega) (by omega)) rfl ?_;dsimp only [aA,aB]
   exact aU rfl ⟨⟨i+1,by omega⟩,(by
    dsimp only;rw [lT,if_pos (.inl (by omega))];exact aO.rfl),by show l.length-(i+1)<l.length-i;omega⟩
  refine aC (pV _ _ B B hfx hfm (by omega)) rfl ?_;dsimp only [aA,aB];refine tP (f:=259) (caps:=[]) rfl (Yw (mN (l.getD i 0) (lT l i))) rfl ?_;dsimp only [aA,aB];refine vs _ rfl (fun h12=>?_) (fun h12=>?_)
  ·refine vn (aE (by omega) (by omega)) rfl ?_;dsimp only [aA,aB]
   exact aU rfl ⟨⟨i+1,by omega⟩,(by
    dsimp only;rw [lT,if_pos (.inr (Uf.1 h12))];exact aO.rfl),by show l.length-(i+1)<l.length-i;omega⟩
  refine vn (aE (by omega) (by omega)) rfl ?_;dsimp only [aA,aB]
  exact aU rfl ⟨⟨i+1,by omega⟩,(by
   dsimp only;rw [lT,if_neg (by rintro (h | h);omega;exact h12 (Uf.2 h))];exact aO.rfl),by show l.length-(i+1)<l.length-i;omega⟩
 rw [show l.length=i by omega];exact aL rfl
theorem ZW (l:List Rat) (B:Nat) (hl:∀ x∈l,Fit B x) (hB:1≤B) (hB2:B≤8589934592) (hs:l.length<1099511627776):aK prog 208 [(.one (sQ l):aG)] (.ret [qT (lT l l.length)]):=by
 refine aD (args:=[.v none]) (ins:=[.v (.one (sQ l))]) (hints:=(fun _=>none)) fo (by kernel_rfl) func208 ⟨rfl,trivial⟩ ?_;rw [aG2];dsimp only [List.map,In.env,aA,aB];refine aC (SD l B hl hB hB2 hs) rfl ?_;exact aL rfl
theorem YU (q:List (List RQ)) (hq:∀ p∈q,p.length<1099511627776) (hql:q.length<1099511627776):aK prog 127 [(.one (eR q):aG)] (.ret [.one (.int .i64 ((q.length:Int)-1+(aV (uX q):Nat)))]):=by
 refine aD (args:=[.v none]) (ins:=[.v (.one (eR q))]) (hints:=(fun _=>none)) fo (by kernel_rfl) func127 ⟨rfl,trivial⟩ ?_;rw [XG];dsimp only [List.map,In.env,aA,aB];refine bF {i:Nat // i≤q.length} (fun g=>[.one (.int .i64 ((aV (uX (q.take g.1)):Nat):Int)), .one (.int .i64 g.1)]) (fun g=>q.length-g.1) ⟨0,Nat.zero_le _⟩ aO.rfl (fun _=>rfl) ?_;rintro ⟨i,hi⟩;dsimp only [aA,aB] at hi ⊢
 have hd:=qS (N:=1099511627776) (uX (q.take i)) fun p hp=>by
  obtain ⟨p',hp',rfl⟩:=List.mem_map.1 hp;rw [List.length_map];exact Nat.le_of_lt (hq p' (List.mem_of_mem_take hp'))
 refine vn (aQ xP (List.length_map _)) rfl ?_;dsimp only [aA,aB];refine vn bE rfl ?_;dsimp only [aA,aB];refine vs _ rfl (fun h3=>?_) (fun h3=>?_)
 ·obtain ⟨p,hp⟩:∃ p,q[i]? = some p:=⟨_,List.getElem?_eq_getElem (by omega)⟩
  have hpl:=hq p (List.mem_of_getElem? hp);have he:uX (q.take (i+1))=uX (q.take i) ++ [p.map RQ.q]:=by rw [List.take_add_one,hp];simp [uX]
  have hm:aV (uX (q.take (i+1)))=max (aV (uX (q.take i))) (cW LS p-1):=by rw [he,AM,←aS3]
  refine vn (aY xP (by omega) (by omega) hp) rfl ?_;dsimp only [aA,aB];refine vn (bH xC) rfl ?_;dsimp only [aA,aB];refine aC (FY p hpl) rfl ?_;dsimp only [aA,aB];refine vn eF rfl ?_;dsimp only [aA,aB];refine vs _ rfl (fun h8=>?_) (fun h8=>?_)
  ·refine vn (aY xP (by omega) (by omega) hp) rfl ?_;dsimp only [aA,aB];refine vn (bH xC) rfl ?_;dsimp only [aA,aB];refine aC (FY p hpl) rfl ?_;dsimp only [aA,aB];refine vn (aE (by omega) (by omega)) rfl ?_;dsimp only [aA,aB];exact aU rfl ⟨⟨i+1,by omega⟩,aO.of_eq (by dsimp only;rw [hm,show max (aV (uX (q.take i))) (cW LS p-1)=cW LS p-1 by omega,show ((cW LS p-1:Nat):Int)=(cW LS p:Int)-1 by omega];rfl),by show q.length-(i+1)<q.length-i;omega⟩
  refine vn (aE (by omega) (by omega)) rfl ?_;dsimp only [aA,aB];exact aU rfl ⟨⟨i+1,by omega⟩,aO.of_eq (by dsimp only;rw [hm,show max (aV (uX (q.take i))) (cW LS p-1)=aV (uX (q.take i)) by omega];rfl),by show q.length-(i+1)<q.length-i;omega⟩
 rw [show i=q.length by omega,List.take_length] at hd ⊢;refine vn (aQ xP (List.length_map _)) rfl ?_;dsimp only [aA,aB];refine vn (aJ (by omega) (by omega)) rfl ?_;dsimp only [aA,aB];refine vn (aE (by omega) (by omega)) rfl ?_;exact aL rfl
theorem Ps {x:Rat} {n:Nat} (h:n%2=0):x^(n/2)*x^(n/2)=x^n:=by rw [←mF,show n/2+n/2=n by omega]
theorem UG {x:Rat} {n:Nat} (h:n%2=1):x^(n/2)*x^(n/2)*x=x^n:=by
 rw [←mF,←Rat.pow_succ,show n/2+n/2+1=n by omega]
theorem ON (x:RQ) (n B:Nat) (hn:n<4611686018427387904) (hB:B≤1073741824) (hx1:Fit B x.q) (hf:∀ j,j≤n→Fit B (x.q^j)) (ih:0<n→aK prog 126 [jM x, .one (.int .i64 (n/2:Nat))] (.ret [jM (.of (x.q^(n/2)))])):aK prog 126 [(jM x:aG),(.one (.int .i64 n):aG)] (.ret [jM (.of (x.q^n))]):=by
 refine aD (args:=[.v (some 4), .v none]) (ins:=[.v (jM x), .v (.one (.int .i64 n))]) (hints:=(fun _=>none)) fo (by kernel_rfl) func126 ⟨rfl,rfl,trivial⟩ ?_;rw [UE];dsimp only [List.map,In.env,aA,aB];refine vn bW rfl ?_;dsimp only [aA,aB];refine vs _ rfl (fun h1=>?_) (fun h1=>?_)
 ·refine aC (rM 1 (by omega) (by omega)) rfl ?_;dsimp only [aA,aB];rw [show n=0 by omega,Rat.pow_zero];exact aL rfl
 refine vn (iJ (by omega) (by omega) (by omega)) rfl ?_;dsimp only [aA,aB];rw [show (n:Int)/2=((n/2:Nat):Int) by omega];refine aC (ih (by omega)) rfl ?_;dsimp only [aA,aB];refine aC (tR (.of (x.q^(n/2))) (.of (x.q^(n/2))) B B (hf _ (by omega)) (hf _ (by omega)) (by omega)) rfl ?_;rw [show (RQ.of (x.q^(n/2))).q*(RQ.of (x.q^(n/2))).q=x.q^(n/2)*x.q^(n/2) from rfl];dsimp only [aA,aB];refine vn (gK (by omega) (by omega)) rfl ?_;dsimp only [aA,aB];refine vn bW rfl ?_;dsimp only [aA,aB];refine vs _ rfl (fun h9=>?_) (fun h9=>?_)
 ·have hev:x.q^(n/2)*x.q^(n/2)=x.q^(n/2+n/2):=(mF _ _ _).symm;refine aC (tR (.of (x.q^(n/2)*x.q^(n/2))) x B B (by rw [RQ.Xi,hev];exact hf _ (by omega)) hx1 (by omega)) rfl ?_;rw [show (RQ.of (x.q^(n/2)*x.q^(n/2))).q*x.q=x.q^n from UG (by omega)];exact aL rfl
 rw [Ps (by omega)];exact aL rfl
theorem uB (x:RQ) (B:Nat) (hB:B≤1073741824) (hx1:Fit B x.q):∀ n:Nat,n<4611686018427387904→(∀ j,j≤n→Fit B (x.q^j))→aK prog 126 [jM x, .one (.int .i64 n)] (.ret [jM (.of (x.q^n))]):=by
 intro n
 induction n using Nat.strongRecOn with
 | _ n ih=>
 intro hn hf;have key:=ON x n B hn hB hx1 hf (fun h0=>ih (n/2) (Nat.div_lt_self h0 (by omega)) (by omega) (fun j hj=>hf j (by omega)));exact key
open Go Go.Proofs Tryz Ord
def VT:Tr:=eY 32 0 (some 4) 49 48 (aP 60 [(G4 33)] [(some 4)] [49] [49] 49 false (aP 126 [(.agg [(U 17 0),(U 18 0),(U 19 0),(U 20 0)]),(W 21 0)] [(some 4)] [51,52] [49,3] 49 false (aP 104 [(G4 34),(G4 35)] [(some 4)] [50,53] [49,49] 49 true (aP 48 [(.agg [(U 22 0),(U 23 0),(U 24 0),(U 25 0)]),(G4 36)] [(some 4)] [42,54] [49,49] 49 true (bB .add 3 40 1 21 0 3 (.back 1 [lV 38 0,lV 37 0,lV 37 1,lV 37 2,lV 37 3]))))))
def VO:Tr:=aP 50 [(W 68 0)] [(some 4)] [117] [2] 49 false (bR .sub 3 119 120 4 0 42 0 3 (aP 126 [(G4 69),(W 70 0)] [(some 4)] [118,121] [49,3] 49 false (aP 102 [(G4 66),(G4 71)] [(some 4)] [113,122] [49,49] 49 true (aP 48 [(.agg [(U 49 0),(U 50 0),(U 51 0),(U 52 0)]),(G4 72)] [(some 4)] [97,123] [49,49] 49 true (bB .add 3 88 1 48 0 3 (.back 2 [lV 74 0,lV 73 0,lV 73 1,lV 73 2,lV 73 3]))))))
def Vr:Tr:=aP 60 [(G4 61)] [(some 4)] [104] [49] 49 false (bR .add 3 107 108 4 0 48 0 3 (bR .sub 3 109 110 63 0 42 0 3 (aP 126 [(.agg [(U 17 0),(U 18 0),(U 19 0),(U 20 0)]),(W 64 0)] [(some 4)] [106,111] [49,3] 49 false (aP 104 [(G4 62),(G4 65)] [(some 4)] [105,112] [49,49] 49 false (bR .sub 3 114 115 36 0 4 0 3 (bB .add 3 116 1 67 0 3 VO))))))
def We:Tr:=aP 50 [(W 69 0)] [(some 4)] [117] [2] 49 false (bR .sub 3 119 120 4 0 42 0 3 (aP 126 [(G4 70),(W 71 0)] [(some 4)] [118,121] [49,3] 49 false (aP 102 [(G4 67),(G4 72)] [(some 4)] [113,122] [49,49] 49 true (aP 48 [(.agg [(U 49 0),(U 50 0),(U 51 0),(U 52 0)]),(G4 73)] [(some 4)] [97,123] [49,49] 49 true (bB .add 3 88 1 48 0 3 (.back 2 [lV 75 0,lV 74 0,lV 74 1,lV 74 2,lV 74 3]))))))
def Wp:Tr:=aP 60 [(G4 62)] [(some 4)] [104] [49] 49 false (bR .add 3 107 108 4 0 48 0 3 (bR .sub 3 109 110 64 0 42 0 3 (aP 126 [(.agg [(U 17 0),(U 18 0),(U 19 0),(U 20 0)]),(W 65 0)] [(some 4)] [106,111] [49,3] 49 false (aP 104 [(G4 63),(G4 66)] [(some 4)] [105,112] [49,49] 49 false (bR .sub 3 114 115 36 0 4 0 3 (bB .add 3 116 1 68 0 3 We))))))
def Yb:Tr:=.split (.u 57 0) (gE 2 0 42 0 44 98 99 (eY 58 0 none 167 100 (gE 59 0 48 0 167 101 102 (eY 60 0 (some 4) 49 103 Vr)))) (bB .gtr 3 94 0 48 0 4 (.split (.u 58 0) (gE 2 0 42 0 44 98 99 (eY 59 0 none 167 100 (gE 60 0 48 0 167 101 102 (eY 61 0 (some 4) 49 103 Wp)))) (bB .add 3 88 1 48 0 3 (.back 2 [lV 59 0,lV 49 0,lV 50 0,lV 51 0,lV 52 0]))))
def Yg:Tr:=gE 2 0 42 0 44 82 83 (eY 53 0 none 167 84 (cY 54 0 85 167 (bR .lss 3 81 86 48 0 55 0 4 (.split (.u 56 0) (bR .lss 3 90 91 42 0 4 0 4 Yb) (bB .add 3 79 1 42 0 3 (.back 1 [lV 57 0,lV 49 0,lV 50 0,lV 51 0,lV 52 0]))))))
def WV:Tr:=bR .leq 3 76 77 42 0 4 0 4 (.split (.u 47 0) (.loop 2 [lK 0,lV 43 0,lV 44 0,lV 45 0,lV 46 0] Yg) (aP 47 [(.agg [(U 43 0),(U 44 0),(U 45 0),(U 46 0)]),(G4 9)] [none] [125,126] [49,49] 3 true (bB .leq 3 127 0 48 0 4 (.split (.u 49 0) (.ret [(.agg [(U 17 0),(U 18 0),(U 19 0),(U 20 0)]),(W 36 0)]) (.need (.prim [(WK 2),(W 36 0)] none) (.binOp .mul 3 (.const (I3 2)) (tT 74) 3) 3 false (.back 0 [lV 35 0,lV 50 0,lV 37 0,lV 38 0,lV 39 0,lV 40 0]))))))
def MM:Tr:=.ret [(.agg [(tE (.int .i64 0)),tN,(tE (.int .i64 0)),tN]),(WK 0)]
def Wt:Tr:=.split (.u 32 0) (aP 127 [(W 2 0)] [none] [68] [44] 3 false (bR .add 3 69 70 33 0 4 0 3 (.loop 0 [lV 11 0,lV 34 0,lV 13 0,lV 14 0,lV 15 0,lV 16 0] (bB .leq 3 72 4096 36 0 4 (.split (.u 41 0) (.loop 1 [lK 0,lK 0,lN,lK 0,lN] WV) MM))))) (bB .eql 3 62 62 12 0 4 (.split (.u 33 0) MM (.need (.call 79 [(WK 1),(WK 2)] [(some 4)]) (.call ⟨.value (.func 79),#[(.const (I3 1)),(.const (I3 2))],#[2,2]⟩) 49 true (aP 104 [(.agg [(U 17 0),(U 18 0),(U 19 0),(U 20 0)]),(G4 34)] [(some 4)] [65,66] [49,49] 49 true (bB .add 3 31 1 12 0 3 (.back 0 [lV 11 0,lV 36 0,lV 13 0,lV 14 0,lV 15 0,lV 16 0,lV 35 0,lV 35 1,lV 35 2,lV 35 3]))))))
def WM:Tr:=eY 26 0 none 167 36 (cY 27 0 37 167 (bR .lss 3 33 38 21 0 28 0 4 (.split (.u 29 0) (gE 2 0 4 0 44 43 44 (eY 30 0 none 167 45 (gE 31 0 21 0 167 46 47 VT))) (aP 48 [(.agg [(U 22 0),(U 23 0),(U 24 0),(U 25 0)]),(.agg [(U 22 0),(U 23 0),(U 24 0),(U 25 0)])] [(some 4)] [56,57] [49,49] 49 false (aP 47 [(G4 30),(G4 9)] [none] [58,59] [49,49] 3 true (bB .leq 3 60 0 31 0 4 Wt))))))
def ae4:Tr:=.need (.prim [(W 6 0),(WK 0)] none) (.indexAddr 167 (tT 26) (.const (I3 0))) 0 false (eY 7 0 (some 4) 49 27 (aP 60 [(G4 8)] [(some 4)] [28] [49] 49 true (.need (.call 50 [(WK 4)] [(some 4)]) (.call ⟨.value (.func 50),#[(.const (I3 4))],#[2]⟩) 49 true (.loop 0 [lK 0,lK 0,lK 0,lN,lK 0,lN,lV 10 0,lV 10 1,lV 10 2,lV 10 3] (.loop 1 [lK 1,lK 0,lN,lK 0,lN] (gE 2 0 4 0 44 34 35 WM))))))
def as5:Tr:=aP 125 [(W 0 0),(G4 1)] [none] [17,18] [44,49] 44 true (cY 2 0 20 44 (bB .sub 3 21 1 3 0 3 (gE 2 0 4 0 44 23 24 (eY 5 0 none 167 25 ae4))))
theorem RW:aN prog f43 (fun _=>none) [.v none, .v (some 4)]=as5:=by kernel_rfl
theorem LB:bA 0=((4:Int):Rat):=by decide +kernel
theorem UH (h:Nat):mkRat 1 (2^(h+1))=mkRat 1 (2^h)*mkRat 1 2:=by
 rw [Rat.mkRat_mul_mkRat,Nat.pow_succ];rfl
theorem JT:((1:Int):Rat)/((2:Int):Rat)=mkRat 1 2:=by decide +kernel
theorem Mo (h:Nat):bA h*(((1:Int):Rat)/((2:Int):Rat))=bA (h+1):=by
 rw [bA,bA,UH,JT,Rat.mul_assoc]
theorem Wy {Q:List (List RQ)} {i:Nat} {p:List RQ} (h:Q[i]? = some p):(uX Q).getD i []=p.map RQ.q:=by
 rw [List.getD_eq_getElem?_getD,uX,List.getElem?_map,h];rfl
theorem getD_some {p:List RQ} {k:Nat} {x:RQ} (h:p[k]? = some x):(p.map RQ.q).getD k 0=x.q:=by
 rw [List.getD_eq_getElem?_getD,List.getElem?_map,h];rfl
theorem Px (p:List Rat) (k:Nat):(p.drop 1).getD k 0=p.getD (k+1) 0:=by
 rw [List.getD_eq_getElem?_getD,List.getElem?_drop,List.getD_eq_getElem?_getD,Nat.add_comm 1 k]
set_option maxHeartbeats 8000000 in
theorem Tf (e:List (List RQ)) (c:RQ) (F:Nat) (hmild:∀ p∈e,Kt F p [c, .of ((1:Int):Rat)]∧p.length≤1048576) (hF:F≤100000000) (hF64:64≤F) (Q:List (List RQ)) (hQ:Ok e c=Q) (q:List (List Rat)) (hq:uX Q=q) (m:Nat) (p0:List RQ) (l:RQ) (hp0:Q[m]? = some p0) (hl0:p0[0]? = some l) (B L h0 i0:Nat) (C:Ke B q m l.q L h0 (m+aV q+m) i0) (hql:q.length=m+1) (hm:m≤64) (hL:L≤1048576) (hB:B≤100000000) (h64:64≤B) (hh:h0≤63) (hlow:∀ h,h<h0→¬ kB q m l.q h) (hs:h0≤62→kB q m l.q h0) (hst:h0≤62→∀ i,i<i0→(m+aV q+m)*2^i≤4096∧¬ eD q m l.q (bA h0) ((m+aV q+m)*2^i)) (hsi:h0≤62→4096<(m+aV q+m)*2^i0∨eD q m l.q (bA h0) ((m+aV q+m)*2^i0)) (hi13:i0≤13):aK prog 43 [(.one (eR e):aG),(jM c:aG)] (if h0=63∨4096<(m+aV q+m)*2^i0 then .ret [jM .nil, .one (.int .i64 0)] else .ret [jM (.of (bA h0)), .one (.int .i64 (((m+aV q+m)*2^i0:Nat):Int))]):=by
 refine aD (args:=[.v none, .v (some 4)]) (ins:=[.v (.one (eR e)), .v (jM c)]) (hints:=(fun _=>none)) fo (by kernel_rfl) func43 ⟨rfl,rfl,trivial⟩ ?_;rw [RW];dsimp only [List.map,In.env,aA,aB]
 have hel:e.length=m+1:=by
  have h1:(Ok e c).length=e.length:=by rw [Ok,List.length_map]
  have h2:(uX Q).length=Q.length:=Na Q;rw [hQ] at h1;rw [hq] at h2;omega
 have hQl:Q.length=m+1:=by
  have h2:(uX Q).length=Q.length:=Na Q;rw [hq] at h2;omega
 have hqi:∀ {i p},Q[i]? = some p→q.getD i []=p.map RQ.q:=fun h=>by rw [←hq];exact Wy h
 have hqf:∀ {i:Nat} {p:List RQ},Q[i]? = some p→p.length≤L∧∀ x∈p,Fit B x.q:=fun {i p} h=>by
  have hmem:p.map RQ.q∈q:=by rw [←hq,uX];exact List.mem_map_of_mem (List.mem_of_getElem? h)
  obtain ⟨h1,h2⟩:=C.fq _ hmem;rw [List.length_map] at h1;exact ⟨h1,fun x hx=>h2 _ (List.mem_map_of_mem hx)⟩
 obtain ⟨hpl,hfp⟩:=hqf hp0;have hg0:=hqi hp0;have hlen1:1≤p0.length:=by have:=(List.getElem?_eq_some_iff.1 hl0).1;omega
 have hfs:=C.fs;have hfl:=eU C.flead;rw [hg0] at hfs;have hokr:∀ h,kB q m l.q h↔jU ((p0.map RQ.q).drop 1) (bA h) (p0.length-1)+jU ((p0.map RQ.q).drop 1) (bA h) (p0.length-1)≤l.q.abs:=fun h=>by rw [kB,hg0,List.length_map]
 have hlow:∀ h,h<h0→¬ jU ((p0.map RQ.q).drop 1) (bA h) (p0.length-1)+jU ((p0.map RQ.q).drop 1) (bA h) (p0.length-1)≤l.q.abs:=fun h hh=>by rw [←hokr];exact hlow h hh
 have hs:=fun hx=>(hokr h0).1 (hs hx);have hcall:=QO e c F hmild hF hF64 (by omega);rw [hQ] at hcall;refine aC hcall rfl ?_;dsimp only [aA,aB];refine vn (aQ xP (show (Q.map cR).length=m+1 by rw [List.length_map,hQl])) rfl ?_;dsimp only [aA,aB];refine vn (aJ (by omega) (by omega)) rfl ?_;dsimp only [aA,aB];rw [show ((m+1:Nat):Int)-1=(m:Int) by omega];refine vn (aY xP (by omega) (Int.toNat_natCast m) hp0) rfl ?_;dsimp only [aA,aB];refine vn (bH xC) rfl ?_;dsimp only [aA,aB];refine vn (aY fB (by omega) (show (0:Int).toNat=0 from rfl) hl0) rfl ?_;dsimp only [aA,aB];refine vn (bZ CN (by decide) (by simp) (.inl rfl)) rfl ?_;dsimp only [aA,aB];refine aC (GB l) rfl ?_;dsimp only [aA,aB];refine aC (rM 4 (by omega) (by omega)) rfl ?_;rw [←LB];dsimp only [aA,aB];refine bF {h:Nat // h≤h0∧h≤62} (fun g=>([.one (.int .i64 0), .one (.int .i64 g.1), .one (.int .i64 0), .one (.exact (.slice none 0 0)), .one (.int .i64 0), .one (.exact (.slice none 0 0))]:List aG)++(rC (.of (bA g.1))).map aG.one) (fun g=>h0-g.1) ⟨0,Nat.zero_le _,Nat.zero_le _⟩ aO.rfl (fun _=>rfl) ?_;rintro ⟨h,hh0,hh2⟩;dsimp only [aA,aB,List.map] at hh0 hh2 ⊢;refine bF {g:Nat×RQ // g.1+1≤p0.length∧g.2.q=jU ((p0.map RQ.q).drop 1) (bA h) g.1} (fun g=>(.one (.int .i64 ((g.1.1+1:Nat):Int)):aG)::(rC g.1.2).map .one) (fun g=>p0.length-g.1.1) ⟨(0, .nil),hlen1,rfl⟩ ⟨aG.Sub.same,Bv.1,Bv.2.1,Bv.2.2.1,Bv.2.2.2.1,trivial⟩ (fun _=>rfl) ?_;rintro ⟨⟨k,r⟩,hk,hr⟩;dsimp only [aA,aB,List.map] at hk hr ⊢;refine vn (aY xP (by omega) (Int.toNat_natCast m) hp0) rfl ?_;dsimp only [aA,aB];refine vn (bH xC) rfl ?_;dsimp only [aA,aB];refine vn (aQ fB (List.length_map _)) rfl ?_;dsimp only [aA,aB];refine vn bE rfl ?_;dsimp only [aA,aB];refine vs _ rfl (fun h15=>?_) (fun h15=>?_)
 ·refine vn (aY xP (by omega) (Int.toNat_natCast m) hp0) rfl ?_;dsimp only [aA,aB];refine vn (bH xC) rfl ?_;dsimp only [aA,aB];obtain ⟨x,hx⟩:∃ x,p0[k+1]? = some x:=⟨_,List.getElem?_eq_getElem (by omega)⟩
  have hfx:=hfp x (List.mem_of_getElem? hx);have hfr:Fit B r.q:=by rw [hr];exact hfs h hh0 hh2 k (by omega)
  refine vn (aY fB (by omega) (Int.toNat_natCast (k+1)) hx) rfl ?_;dsimp only [aA,aB];refine vn (bZ CN (by decide) (by simp) (.inl rfl)) rfl ?_;dsimp only [aA,aB];refine aC (GB x) rfl ?_;dsimp only [aA,aB];refine aC (uB (.of (bA h)) B (by omega) (by have:=C.frho h hh0 hh2 1 (by omega);rwa [Rat.pow_succ,Rat.pow_zero,Rat.one_mul] at this) (k+1) (by omega) (fun j hj=>C.frho h hh0 hh2 j (by omega))) rfl ?_;dsimp only [aA,aB];refine aC (tR (.of x.q.abs) (.of ((RQ.of (bA h)).q^(k+1))) B B (eU hfx) (C.frho h hh0 hh2 (k+1) (by omega)) (by omega)) rfl ?_;dsimp only [aA,aB];refine aC (wA r _ B (B+B) hfr ((eU hfx).mul (C.frho h hh0 hh2 (k+1) (by omega))) (by omega)) rfl ?_;dsimp only [aA,aB];refine vn (aE (by omega) (by omega)) rfl ?_;dsimp only [aA,aB]
  exact aU rfl ⟨⟨(k+1, .of (r.q+x.q.abs*bA h^(k+1))),by dsimp only;omega,by
   show r.q+x.q.abs*bA h^(k+1)=_;dsimp only;rw [jU,hr,Px,getD_some hx]⟩,aO.of_eq rfl,by show p0.length-(k+1)<p0.length-k;omega⟩
 have hkl:p0.length-1=k:=by omega
 rw [hkl] at hlow hs;have hfr:Fit B r.q:=by rw [hr];exact hfs h hh0 hh2 k (by omega)
 refine aC (wA r r B B hfr hfr (by omega)) rfl ?_;dsimp only [aA,aB];refine aC (Qq _ (.of l.q.abs) (B+B+1) B (hfr.add hfr) hfl (by omega)) rfl ?_;rw [show mN (RQ.of (r.q+r.q)).q (RQ.of l.q.abs).q=mN (jU ((p0.map RQ.q).drop 1) (bA h) k+jU ((p0.map RQ.q).drop 1) (bA h) k) l.q.abs by rw [←hr];rfl];dsimp only [aA,aB];refine vn gW rfl ?_;dsimp only [aA,aB];refine vs _ rfl (fun h29=>?_) (fun h29=>?_)
 ·have hle:=gQ.1 h29
  have hheq:h=h0:=by
   rcases Nat.lt_or_ge h h0 with hl | hl
   ·exact (hlow h hl hle).elim
   ·omega
  subst hheq;replace hs:=hs hh2;replace hst:=hst hh2;replace hsi:=hsi hh2
  have hQs:∀ p∈Q,p.length<1099511627776:=fun p hp=>by
   obtain ⟨i,hi⟩:=List.getElem?_of_mem hp;have:=(hqf hi).1;omega
  have hdm:=qS (N:=1048576) q (fun p hp=>Nat.le_trans (C.fq p hp).1 hL);have hsz:=YU Q hQs (by omega);rw [hq,hQl] at hsz;refine aC hsz rfl ?_;dsimp only [aA,aB];refine vn (aE (by omega) (by omega)) rfl ?_;rw [show ((m+1:Nat):Int)-1+(aV q:Nat)+(m:Int)=((m+aV q+m:Nat):Int) by omega];dsimp only [aA,aB];generalize hse:m+aV q+m=s at *;refine bF {i:Nat // i≤i0} (fun g=>[.one (.int .i64 0), .one (.int .i64 ((s*2^g.1:Nat):Int)), .one (.int .i64 0), .one (.exact (.slice none 0 0)), .one (.int .i64 0), .one (.exact (.slice none 0 0))]) (fun g=>i0-g.1) ⟨0,Nat.zero_le _⟩ (aO.of_eq (by rw [Nat.pow_zero,Nat.mul_one];rfl)) (fun _=>rfl) ?_;rintro ⟨i,hi⟩;dsimp only [aA,aB,List.map] at hi ⊢;have hpw:s*2^i≤s*2^13:=Nat.mul_le_mul_left _ (Nat.pow_le_pow_right (by omega) (by omega));have hs13:s≤1048704:=by omega
  have hsm:m≤s*2^i:=by
   have h1:1≤2^i:=Nat.pow_pos (by omega);have h2:s*1≤s*2^i:=Nat.mul_le_mul_left _ h1;omega
  obtain ⟨z,hz⟩:∃ z,s*2^i=z:=⟨_,rfl⟩
  rw [hz] at hpw hsm ⊢;refine vn gW rfl ?_;dsimp only [aA,aB];refine vs _ rfl (fun h34=>?_) (fun h34=>?_)
  ·have hz4:z≤4096:=by omega
   have hfm:=C.fm i hi (by omega);have hfo:=C.fo i hi (by omega);rw [hz] at hfm hfo;have hN0:(((z:Int)-m+1:Int):Rat)≠0:=zne (by omega);refine bF {g:Nat×RQ // g.1≤m+1∧g.2.q=bK q m (bA h) (((z:Int)-m+1:Int):Rat) g.1} (fun g=>(.one (.int .i64 g.1.1):aG)::(rC g.1.2).map .one) (fun g=>m+1-g.1.1) ⟨(0, .nil),Nat.zero_le _,rfl⟩ ⟨aG.Sub.same,Bv.1,Bv.2.1,Bv.2.2.1,Bv.2.2.2.1,trivial⟩ (fun _=>rfl) ?_;rintro ⟨⟨a,r1⟩,ha,hr1⟩;dsimp only [aA,aB,List.map] at ha hr1 ⊢;refine vn gW rfl ?_;dsimp only [aA,aB];refine vs _ rfl (fun h37=>?_) (fun h37=>?_)
   ·obtain ⟨p,hpa⟩:∃ p,Q[a]? = some p:=⟨_,List.getElem?_eq_getElem (by omega)⟩
    have hga:=hqi hpa;obtain ⟨hpal,hpaf⟩:=hqf hpa;have hfx:=fun k=>hfm.fx a k (by omega);rw [hga] at hfx;refine bF {g:Nat×RQ // g.1≤p.length∧g.2.q=fR (p.map RQ.q) m a (bA h) (((z:Int)-m+1:Int):Rat) (bK q m (bA h) (((z:Int)-m+1:Int):Rat) a) g.1} (fun g=>(.one (.int .i64 g.1.1):aG)::(rC g.1.2).map .one) (fun g=>p.length-g.1.1) ⟨(0,r1),Nat.zero_le _,hr1⟩ aO.rfl (fun _=>rfl) ?_;rintro ⟨⟨k,r2⟩,hk2,hr2⟩;dsimp only [aA,aB,List.map] at hk2 hr2 ⊢;refine vn (aY xP (by omega) (Int.toNat_natCast a) hpa) rfl ?_;dsimp only [aA,aB];refine vn (bH xC) rfl ?_;dsimp only [aA,aB];refine vn (aQ fB (List.length_map _)) rfl ?_;dsimp only [aA,aB];refine vn bE rfl ?_;dsimp only [aA,aB];refine vs _ rfl (fun h43=>?_) (fun h43=>?_)
    ·obtain ⟨x,hx⟩:∃ x,p[k]? = some x:=⟨_,List.getElem?_eq_getElem (by omega)⟩
     have hfc:=eU (hpaf x (List.mem_of_getElem? hx));have hfr2:Fit B r2.q:=by rw [hr2];exact hfx k (by rw [List.length_map];omega)
     have hrp:=hfm.frho (m+k-a) (by omega);have hNp:=hfm.fN (m-a) (by omega);have e1:(m:Int)+(k:Int)-(a:Int)=((m+k-a:Nat):Int):=by omega
     have e2:(m:Int)-(a:Int)=((m-a:Nat):Int):=by omega
     refine vn bE rfl ?_;dsimp only [aA,aB];refine vs _ rfl (fun h45=>?_) (fun h45=>?_)
     ·refine vn (aY xP (by omega) (Int.toNat_natCast a) hpa) rfl ?_;dsimp only [aA,aB];refine vn (bH xC) rfl ?_;dsimp only [aA,aB];refine vn (aY fB (by omega) (Int.toNat_natCast k) hx) rfl ?_;dsimp only [aA,aB];refine vn (bZ CN (by decide) (by simp) (.inl rfl)) rfl ?_;dsimp only [aA,aB];refine aC (GB x) rfl ?_;dsimp only [aA,aB];refine vn (aE (by omega) (by omega)) rfl ?_;dsimp only [aA,aB];refine vn (aJ (by omega) (by omega)) rfl ?_;rw [e1];dsimp only [aA,aB];refine aC (uB (.of (bA h)) B (by omega) (by have:=C.frho h hh0 hh2 1 (by omega);rwa [Rat.pow_succ,Rat.pow_zero,Rat.one_mul] at this) (m+k-a) (by omega) (fun j hj=>hfm.frho j (by omega))) rfl ?_;dsimp only [aA,aB];refine aC (tR (.of x.q.abs) (.of ((RQ.of (bA h)).q^(m+k-a))) B B hfc hrp (by omega)) rfl ?_;dsimp only [aA,aB];refine vn (aJ (by omega) (by omega)) rfl ?_;dsimp only [aA,aB];refine vn (aE (by omega) (by omega)) rfl ?_;dsimp only [aA,aB];refine aC (rM ((z:Int)-m+1) (by omega) (by omega)) rfl ?_;dsimp only [aA,aB];refine vn (aJ (by omega) (by omega)) rfl ?_;rw [e2];dsimp only [aA,aB];refine aC (uB (.of (((z:Int)-m+1:Int):Rat)) B (by omega) (by have:=(Fit.int (n:=(z:Int)-m+1) (B:=64) (by omega) (by omega));exact this.mono h64) (m-a) (by omega) (fun j hj=>hfm.fN j (by omega))) rfl ?_;dsimp only [aA,aB];refine aC (QM (.of (x.q.abs*bA h^(m+k-a))) (.of ((((z:Int)-m+1:Int):Rat)^(m-a))) (B+B) B (uW hN0 _) (hfc.mul hrp) hNp (by omega)) rfl ?_;dsimp only [aA,aB];refine aC (wA r2 _ B (B+B+B) hfr2 ((hfc.mul hrp).div hNp) (by omega)) rfl ?_;dsimp only [aA,aB];refine vn (aE (by omega) (by omega)) rfl ?_;dsimp only [aA,aB]
      exact aU rfl ⟨⟨(k+1,_),by dsimp only;omega,by
       show r2.q+x.q.abs*bA h^(m+k-a)/_=_;dsimp only;rw [fR,if_pos (.inl (by omega)),hr2,getD_some hx];rfl⟩,aO.rfl,by show p.length-(k+1)<p.length-k;omega⟩
     refine vn eF rfl ?_;dsimp only [aA,aB];refine vs _ rfl (fun h65=>?_) (fun h65=>?_)
     ·refine vn (aY xP (by omega) (Int.toNat_natCast a) hpa) rfl ?_;dsimp only [aA,aB];refine vn (bH xC) rfl ?_;dsimp only [aA,aB];refine vn (aY fB (by omega) (Int.toNat_natCast k) hx) rfl ?_;dsimp only [aA,aB];refine vn (bZ CN (by decide) (by simp) (.inl rfl)) rfl ?_;dsimp only [aA,aB];refine aC (GB x) rfl ?_;dsimp only [aA,aB];refine vn (aE (by omega) (by omega)) rfl ?_;dsimp only [aA,aB];refine vn (aJ (by omega) (by omega)) rfl ?_;rw [e1];dsimp only [aA,aB];refine aC (uB (.of (bA h)) B (by omega) (by have:=C.frho h hh0 hh2 1 (by omega);rwa [Rat.pow_succ,Rat.pow_zero,Rat.one_mul] at this) (m+k-a) (by omega) (fun j hj=>hfm.frho j (by omega))) rfl ?_;dsimp only [aA,aB];refine aC (tR (.of x.q.abs) (.of ((RQ.of (bA h)).q^(m+k-a))) B B hfc hrp (by omega)) rfl ?_;dsimp only [aA,aB];refine vn (aJ (by omega) (by omega)) rfl ?_;dsimp only [aA,aB];refine vn (aE (by omega) (by omega)) rfl ?_;dsimp only [aA,aB];refine aC (rM ((z:Int)-m+1) (by omega) (by omega)) rfl ?_;dsimp only [aA,aB];refine vn (aJ (by omega) (by omega)) rfl ?_;rw [e2];dsimp only [aA,aB];refine aC (uB (.of (((z:Int)-m+1:Int):Rat)) B (by omega) (by have:=(Fit.int (n:=(z:Int)-m+1) (B:=64) (by omega) (by omega));exact this.mono h64) (m-a) (by omega) (fun j hj=>hfm.fN j (by omega))) rfl ?_;dsimp only [aA,aB];refine aC (QM (.of (x.q.abs*bA h^(m+k-a))) (.of ((((z:Int)-m+1:Int):Rat)^(m-a))) (B+B) B (uW hN0 _) (hfc.mul hrp) hNp (by omega)) rfl ?_;dsimp only [aA,aB];refine aC (wA r2 _ B (B+B+B) hfr2 ((hfc.mul hrp).div hNp) (by omega)) rfl ?_;dsimp only [aA,aB];refine vn (aE (by omega) (by omega)) rfl ?_;dsimp only [aA,aB]
      exact aU rfl ⟨⟨(k+1,_),by dsimp only;omega,by
       show r2.q+x.q.abs*bA h^(m+k-a)/_=_;dsimp only;rw [fR,if_pos (.inr (by omega)),hr2,getD_some hx];rfl⟩,aO.rfl,by show p.length-(k+1)<p.length-k;omega⟩
     refine vn (aE (by omega) (by omega)) rfl ?_;dsimp only [aA,aB]
     exact aU rfl ⟨⟨(k+1,r2),by dsimp only;omega,by
      dsimp only;rw [fR,if_neg (by omega)];exact hr2⟩,aO.rfl,by show p.length-(k+1)<p.length-k;omega⟩
    refine vn (aE (by omega) (by omega)) rfl ?_;dsimp only [aA,aB]
    exact aU rfl ⟨⟨(a+1,r2),by dsimp only;omega,by
     dsimp only;rw [bK,hga,List.length_map,show p.length=k by omega];exact hr2⟩,aO.rfl,by show m+1-(a+1)<m+1-a;omega⟩
   have haq:q.length=a:=by omega
   rw [haq] at hfo;refine aC (Qq r1 (.of l.q.abs) B B (by rw [hr1];exact hfo) hfl (by omega)) rfl ?_;rw [show mN r1.q (RQ.of l.q.abs).q=mN (bK q m (bA h) (((z:Int)-m+1:Int):Rat) q.length) l.q.abs by rw [hr1,haq];rfl];dsimp only [aA,aB];refine vn gW rfl ?_;dsimp only [aA,aB];refine vs _ rfl (fun h90=>?_) (fun h90=>?_)
   ·have hle2:=gQ.1 h90
    have hieq:i=i0:=by
     rcases Nat.lt_or_ge i i0 with hl | hl
     ·exact ((hst i hl).2 (by rw [eD,hz];exact hle2)).elim
     ·omega
    subst hieq;rw [if_neg (by omega),hz];exact aL rfl
   have hilt:i<i0:=by
    rcases Nat.lt_or_ge i i0 with hl | hl
    ·exact hl
    ·exfalso
     obtain rfl:i=i0:=by omega
     rw [eD,hz] at hsi;exact h90 (gQ.2 (hsi.resolve_left (by omega)))
   refine vn (qW (by omega) (by omega)) rfl ?_;dsimp only [aA,aB]
   exact aU rfl ⟨⟨i+1,by omega⟩,aO.of_eq (by
    dsimp only;rw [Nat.pow_succ,←Nat.mul_assoc,hz,show ((z*2:Nat):Int)=2*(z:Int) by omega];rfl),by show i0-(i+1)<i0-i;omega⟩
  have hie:i=i0:=by
   rcases Nat.lt_or_ge i i0 with hl | hl
   ·have:=(hst i hl).1;omega
   ·omega
  subst hie;rw [if_pos (.inr (by omega))];exact eN ⟨Bv,aG.Sub.same,trivial⟩
 have hhlt:h<h0:=by
  rcases Nat.lt_or_ge h h0 with hl | hl
  ·exact hl
  ·exfalso
   obtain rfl:h=h0:=by omega
   exact h29 (gQ.2 (hs hh2))
 refine vn bW rfl ?_;dsimp only [aA,aB];refine vs _ rfl (fun h96=>?_) (fun h96=>?_)
 ·rw [if_pos (.inl (by omega))];exact eN ⟨Bv,aG.Sub.same,trivial⟩
 refine aC (Sj 1 2 (by omega) (by omega) (by omega) (by omega) (by omega)) rfl ?_;dsimp only [aA,aB];refine aC (tR (.of (bA h)) (.of (((1:Int):Rat)/((2:Int):Rat))) B 64 (by have:=C.frho h hh0 hh2 1 (by omega);rwa [Rat.pow_succ,Rat.pow_zero,Rat.one_mul] at this) (by rw [RQ.Xi,JT];decide) (by omega)) rfl ?_;rw [show (RQ.of (bA h)).q*(RQ.of (((1:Int):Rat)/((2:Int):Rat))).q=bA (h+1) from Mo h];dsimp only [aA,aB];refine vn (aE (by omega) (by omega)) rfl ?_;dsimp only [aA,aB];exact aU rfl ⟨⟨h+1,by omega,by omega⟩,aO.rfl,by show h0-(h+1)<h0-h;omega⟩
end Go.Sy
