/- A composition has few bits. The numbers of a small case. The derivative; falling factors of the law; the sums of OdeSolves.
-/
import Derived.Test.YtdmcadckdnnglaaGreatDoorVa
import Derived.Test.YtdmcadckdnnglaaGreatDoorOd
import Derived.Test.YtdmcadckdnnglaaGreatDoorPc
set_option linter.unusedVariables false
set_option linter.unusedSimpArgs false
namespace Go.Sy
open Go Go.Proofs Tryz Ord
abbrev jB (D S:Nat) (p:List RQ):Prop:=∀ x∈p,Bd D S x.q
theorem jB.at {D S:Nat} {p:List RQ} (h:jB D S p) (i:Nat):Bd D S (atR p i):=by
 rw [atR,List.getD_eq_getElem?_getD,List.getElem?_map];cases hx:p[i]? with
 | none=>exact Bd.zero
 | some x=>exact h x (List.mem_of_getElem? hx)
theorem jB.trim {D S:Nat} {p:List RQ} (h:jB D S p):jB D S (dV p):=fun x hx=>h x (List.mem_of_mem_take hx)
theorem jB.add {D S T:Nat} {a b:List RQ} (h0:D≠0) (ha:jB D S a) (hb:jB D T b):jB D (S+T) (Ki a b):=by
 refine jB.trim fun x hx=>?_;obtain ⟨k,_,rfl⟩:=List.mem_map.1 hx;exact (ha.at k).add h0 (hb.at k)
theorem jB.scale {D E S T:Nat} {a:List RQ} {c:Rat} (h0:D≠0) (h1:E≠0) (ha:jB D S a) (hc:Bd E T c):jB (D*E) (S*T) (dV (eK a c)):=by
 refine jB.trim fun x hx=>?_;obtain ⟨u,hu,rfl⟩:=List.mem_map.1 hx;exact (ha u hu).mul h0 h1 hc
theorem jB.mono {D S E T:Nat} {p:List RQ} (h:jB D S p) (hD:D∣E) (hS:S≤T):jB E T p:=fun x hx=>(h x hx).mono hD hS
theorem yM {D E S T:Nat} {a b:List RQ} (h0:D≠0) (h1:E≠0) (ha:jB D S a) (hb:jB E T b):∀ i,jB (D*E) (i*(S*T)) (mulR a b i)
 | 0=>fun x hx=>by cases hx
 | i+1=>by
   rw [mulR,Nat.add_mul,Nat.one_mul];refine (yM h0 h1 ha hb i).add (Nat.mul_ne_zero h0 h1) fun x hx=>?_;rcases List.mem_append.1 hx with h | h
   ·rw [(List.mem_replicate.1 h).2];exact Bd.zero
   ·exact ha.scale h0 h1 (hb.at i) x h
theorem tU {E T:Nat} {q:List RQ} (h1:E≠0) (hb:jB E T q) (hq:q.length=2):∀ i,jB (E^i) ((2*T)^i) (oZ q i)
 | 0=>by
   rw [oZ,Nat.pow_zero,Nat.pow_zero];refine jB.trim fun x hx=>?_;rw [List.mem_singleton.1 hx];exact Bd.int (by simp)
 | i+1=>by
   have ih:=tU h1 hb hq i;have h:=yM (Nat.pos_iff_ne_zero.1 (Nat.pow_pos (Nat.pos_of_ne_zero h1))) h1 ih hb q.length;rw [oZ,Nat.pow_succ,Nat.pow_succ];refine h.mono (Nat.dvd_refl _) (Nat.le_of_eq ?_);rw [hq];ac_rfl
theorem vH {D E S T K:Nat} {p q:List RQ} (h0:D≠0) (h1:E≠0) (hT:1≤T) (hp:jB D S p) (hb:jB E T q) (hq:q.length=2):∀ i,i≤K→jB (D*E^K) (i*(S*(2*T)^K)) (gW p q i)
 | 0,_=>fun x hx=>by cases hx
 | i+1,hi=>by
   have hE:0<E:=Nat.pos_of_ne_zero h1;rw [gW,Nat.add_mul,Nat.one_mul];refine (vH h0 h1 hT hp hb hq i (by omega)).add (Nat.mul_ne_zero h0 (Nat.pos_iff_ne_zero.1 (Nat.pow_pos hE))) ?_;refine ((tU h1 hb hq i).scale (Nat.pos_iff_ne_zero.1 (Nat.pow_pos hE)) h0 (hp.at i)).mono ?_ ?_
   ·rw [Nat.mul_comm];exact Nat.mul_dvd_mul (Nat.dvd_refl _) (Nat.pow_dvd_pow _ (by omega))
   ·rw [Nat.mul_comm S];exact Nat.mul_le_mul_right _ (Nat.pow_le_pow_right (by omega) (by omega))
def FM (D E S T K:Nat):Nat:=D*E^(K+1)*((K+2)*(S*(2*T)^(K+1)))
theorem Tu {D E S T K F:Nat} {p:List RQ} {c:RQ} (h0:D≠0) (h1:E≠0) (hS:1≤S) (hT:1≤T) (hp:jB D S p) (hc:Bd E T c.q) (hK:p.length≤K) (hF:FM D E S T K<2^F):It F p [c, .of ((1:Int):Rat)]:=by
 have hE:0<E:=Nat.pos_of_ne_zero h1;have hD:0<D:=Nat.pos_of_ne_zero h0
 have hb:jB E T [c, .of ((1:Int):Rat)]:=fun x hx=>by
  rcases List.mem_cons.1 hx with rfl | hx
  ·exact hc
  ·rw [List.mem_singleton.1 hx];exact Bd.int (by simpa using hT)
 have hEK:∀ i,i≤K+1→E^i≤E^(K+1):=fun i hi=>Nat.pow_le_pow_right hE hi;have hTK:∀ i,i≤K+1→(2*T)^i≤(2*T)^(K+1):=fun i hi=>Nat.pow_le_pow_right (by omega) hi
 have big:∀ {X Y:Nat} {x:Rat},X≠0→Bd X Y x→X≤D*E^(K+1)→Y≤(K+2)*(S*(2*T)^(K+1))→Fit F x:=fun {X Y x} hX0 h hX hY=>by
  have hV:Y*X≤FM D E S T K:=by
   unfold FM;rw [Nat.mul_comm (D*E^(K+1))];exact Nat.mul_le_mul hY hX
  refine h.fit hX0 (Nat.lt_of_le_of_lt ?_ hF) (Nat.lt_of_le_of_lt hV hF);unfold FM;exact Nat.le_trans hX (Nat.le_mul_of_pos_right _ (Nat.mul_pos (by omega) (Nat.mul_pos hS (Nat.pow_pos (by omega)))))
 have hS1:S≤S*(2*T)^(K+1):=Nat.le_mul_of_pos_right _ (Nat.pow_pos (by omega));have hT1:∀ Z,Z≤(2*T)^(K+1)→Z≤(K+2)*(S*(2*T)^(K+1)):=fun Z hZ=>Nat.le_trans hZ (Nat.le_trans (Nat.le_mul_of_pos_left _ hS) (Nat.le_mul_of_pos_left _ (by omega)));have hED:∀ Z,Z≤E^(K+1)→Z≤D*E^(K+1):=fun Z hZ=>Nat.le_trans hZ (Nat.le_mul_of_pos_left _ hD);refine ⟨fun x hx=>big h0 (hp x hx) (Nat.le_mul_of_pos_right _ (Nat.pow_pos hE)) (Nat.le_trans hS1 (Nat.le_mul_of_pos_left _ (by omega))),fun x hx=>big h1 (hb x hx) (hED _ (Nat.le_trans (Nat.le_of_eq (Nat.pow_one E).symm) (hEK 1 (by omega)))) (hT1 _ ?_),fun i hi x hx=>big (Nat.pos_iff_ne_zero.1 (Nat.pow_pos hE)) (tU h1 hb rfl i x hx) (hED _ (hEK i (by omega))) (hT1 _ (hTK i (by omega))),fun i hi j hj x hx=>?_,fun i hi x hx=>?_⟩
 ·exact Nat.le_trans (by rw [Nat.pow_one];omega:T≤(2*T)^1) (hTK 1 (by omega))
 ·have h:=yM (Nat.pos_iff_ne_zero.1 (Nat.pow_pos hE)) h1 (tU h1 hb rfl i) hb j x hx;refine big (Nat.mul_ne_zero (Nat.pos_iff_ne_zero.1 (Nat.pow_pos hE)) h1) h ?_ ?_
  ·rw [←Nat.pow_succ];exact hED _ (hEK (i+1) (by omega))
  ·refine hT1 _ (Nat.le_trans ?_ (hTK (i+1) (by omega)));have hj2:j≤2:=hj;rw [Nat.pow_succ,Nat.mul_left_comm];refine Nat.mul_le_mul_left _ ?_;exact Nat.mul_le_mul_right _ hj2
 ·have h:=vH (K:=K) h0 h1 hT hp hb rfl i (by omega) x hx;refine big (Nat.mul_ne_zero h0 (Nat.pos_iff_ne_zero.1 (Nat.pow_pos hE))) h (Nat.mul_le_mul_left _ (hEK K (by omega))) ?_;exact Nat.mul_le_mul (by omega) (Nat.mul_le_mul_left _ (hTK K (by omega)))
open Go Go.Proofs Tryz Ord
def cG:Nat→Nat
 | 0=>1
 | n+1=>Nat.lcm (cG n) (n+1)
theorem EN {d:Nat} (h1:1≤d):∀ {n:Nat},d≤n→d∣cG n
 | 0,h=>by omega
 | n+1,h=>by
   rw [cG];rcases Nat.lt_or_ge n d with h2 | h2
   ·rw [show d=n+1 by omega];exact Nat.dvd_lcm_right _ _
   ·exact Nat.dvd_trans (EN h1 h2) (Nat.dvd_lcm_left _ _)
theorem eP:∀ n:Nat,cG n≠0
 | 0=>by decide
 | n+1=>fun h=>by
   rw [cG] at h;rcases Nat.lcm_eq_zero_iff.1 h with h | h
   ·exact eP n h
   ·omega
theorem LX {n d:Int} {N M:Nat} (hn:n.natAbs≤N) (h0:d≠0) (hd:d.natAbs≤M):Bd (cG M) N ((n:Rat)/(d:Rat)):=by
 have h:=(Bd.int (D:=1) hn).div (by omega) (by omega) (Bd.int (D:=1) hd) (Ln h0);rw [Rat.num_intCast,Nat.one_mul,Nat.mul_one] at h;exact h.mono (EN (by omega) hd) (Nat.le_refl _)
theorem bQ.bd {x:bQ} {N M:Nat} (hp:x.pow%4=0) (hn:x.n.natAbs≤N) (hd:x.d.natAbs≤M) (hM:1≤M):Bd (cG M) N x.v:=by
 rw [bQ.v,hp,Nat.zero_add,Rat.pow_succ,Rat.pow_zero,Rat.one_mul,bQ.b];split
 ·exact LX hn (by omega) (by omega)
 ·exact LX hn (by assumption) hd
theorem bQ.YC {x:bQ} (h:x.Ay=true):Bd (cG 99) 99 x.v:=by
 unfold bQ.Ay at h;rw [decide_eq_true_iff] at h;exact bQ.bd h.1 (by omega) (by omega) (by omega)
theorem bQ.vU {x:bQ} (h:x.short=true):Bd (cG 999) 999 x.v:=by
 unfold bQ.short at h;rw [decide_eq_true_iff] at h;exact bQ.bd h.1 (by omega) (by omega) (by omega)
theorem Wg {l:List Int} (h:∀ z∈l,z.natAbs≤99):∀ q∈ints l,Bd (cG 99) 99 q:=fun q hq=>by
 obtain ⟨n,hn,rfl⟩:=List.mem_map.1 (List.mem_of_mem_take hq);exact Bd.int (h n hn)
theorem aG1 {k:Nat} {n:Int} (h1:1≤k) (h2:k≤8) (h3:0≤n) (h4:n≤8):∀ p∈kE k n,p.length≤50∧∀ q∈p,Bd (cG 99) 99 q:=by
 have hnn:n*(n+1)≤8*9:=Int.mul_le_mul (a:=n) (b:=n+1) (c:=8) (d:=9) (by omega) (by omega) (by omega) (by omega);have hn0:0≤n*(n+1):=Int.mul_nonneg (by omega) (by omega);generalize hm:n*(n+1)=m at hnn hn0
 have key:∀ l:List Int,l.length≤3→(∀ z∈l,z.natAbs≤99)→(ints l).length≤50∧∀ q∈ints l,Bd (cG 99) 99 q:=fun l hl h=>⟨by
  rw [ints,gF];have:=gL (z:=zr) (l.map fun n:Int=>(n:Rat));rw [List.length_map] at this;omega,Wg h⟩
 intro p hp
 rcases (by omega:k=1∨k=2∨k=3∨k=4∨k=5∨k=6∨k=7∨k=8) with rfl | rfl | rfl | rfl | rfl | rfl | rfl | rfl <;>
  simp only [kE,List.mem_cons,List.not_mem_nil,or_false] at hp <;>
  (try rw [hm] at hp) <;>
  (rcases hp with rfl | rfl | rfl<;>first | exact ⟨by simp,by simp⟩ | exact key _ (by simp) (by intro z hz;simp only [List.mem_cons,List.not_mem_nil,or_false] at hz;omega))
theorem Sp (n:Nat) (hn:n≤50):(kQ n).length≤50∧∀ q∈kQ n,Bd (cG 99) 99 q:=by
 refine ⟨by simp [kQ];omega,fun q hq=>?_⟩;rcases List.mem_or_eq_of_mem_set hq with h | rfl
 ·rw [(List.mem_replicate.1 h).2];exact Bd.zero
 ·exact Bd.one (by omega)
structure SmallX (E:List (List Rat)) (ER:List (List RQ)) (X:Rat) (XR:RQ):Prop where
 e1:TD E
 e2:TD (fG ER)
 sim:DC E (fG ER)
 x:XR.q=X
 el:E.length≤7
 eb:∀ p∈E,p.length≤50∧∀ q∈p,Bd (cG 99) 99 q
 rb:∀ p∈fG ER,p.length≤50∧∀ q∈p,Bd (cG 99) 99 q
 xb:Bd (cG 999) 999 X
 xf:Fit 513 X
structure Bn (c:cP):Prop extends SmallX c.E c.ER c.X c.XR where
 y:c.YR.map RQ.q=c.Y
 yl:c.Y.length≤6
 yb:∀ q∈c.Y,Bd (cG 999) 999 q
 yf:∀ q∈c.Y,Fit 513 q
theorem DC.refl (e:List (List Rat)):DC e e:=⟨rfl,fun i p p' h1 h2=>by rw [h1] at h2;cases h2;exact ⟨rfl,fun _=>rfl⟩⟩
theorem am6 {k:Nat} (h1:1≤k) (h2:k≤8):(kY k).length≤6∧∀ q∈kY k,q=0∨q=1:=by
 rcases (by omega:k=1∨k=2∨k=3∨k=4∨k=5∨k=6∨k=7∨k=8) with rfl | rfl | rfl | rfl | rfl | rfl | rfl | rfl <;>
  exact ⟨by simp [kY],fun q hq=>by simp only [kY,List.mem_cons,List.not_mem_nil,or_false] at hq;rcases hq with rfl | rfl<;>simp⟩
theorem KQ {c:cP} (h:c.In) (hs:c.small=true):Bn c:=by
 unfold cP.small at hs;rw [decide_eq_true_iff] at hs;obtain ⟨hy,hsp,hx,hyl⟩:=hs;by_cases hk:0<c.kind
 ·have hkk1:1≤c.kk:=by unfold cP.kk;omega
  have hkk8:c.kk≤8:=by unfold cP.kk;omega
  have hnn:0≤c.nn∧c.nn≤8:=by unfold cP.nn;split<;>omega
  have hE:c.E=kE c.kk c.nn:=by rw [cP.E,if_pos hk]
  have hER:fG c.ER=kE c.kk c.nn:=by rw [cP.ER,if_pos hk,aO6 hkk1 hkk8]
  have hX:c.X=0:=by rw [cP.X,if_pos hk]
  have hY:c.Y=kY c.kk:=by rw [cP.Y,if_pos hk]
  obtain ⟨_,hl3,hko⟩:=aT7 hkk1 hkk8 hnn.1 (by omega);have hb:=aG1 hkk1 hkk8 hnn.1 hnn.2;have hes:TD (kE c.kk c.nn):=⟨by omega,fun p hp=>⟨by have:=(hb p hp).1;omega,fun q hq=>((hko p hp).2 q hq).mono (by omega)⟩⟩
  obtain ⟨hy1,hy2⟩:=am6 hkk1 hkk8;refine ⟨⟨hE▸hes,hER▸hes,by rw [hE,hER];exact DC.refl _,by rw [cP.XR,if_pos hk,hX];rfl,by rw [hE];omega,by rw [hE];exact hb,by rw [hER];exact hb,by rw [hX];exact Bd.zero,by rw [hX];exact Fit.zero (by omega)⟩,by rw [cP.YR,if_pos hk,hY];exact aL6 hkk1 hkk8,by rw [hY];exact hy1,fun q hq=>?_,fun q hq=>?_⟩
  ·rw [hY] at hq;rcases hy2 q hq with rfl | rfl
   ·exact Bd.zero
   ·exact Bd.one (by omega)
  ·rw [hY] at hq;rcases hy2 q hq with rfl | rfl
   ·exact Fit.zero (by omega)
   ·exact (eA (n:=1) (by omega) (by omega)).mono (by omega)
 ·have hE:c.E=Bw c.p c.long:=by rw [cP.E,if_neg hk]
  have hER:c.ER=Pc c.p c.long:=by rw [cP.ER,if_neg hk]
  have hX:c.X=c.c.v:=by rw [cP.X,if_neg hk]
  have hY:c.Y=cJ c.y:=by rw [cP.Y,if_neg hk]
  obtain ⟨h1,h2⟩:=aO9 (long:=c.long) h.hp hsp;have hsp':=hsp;unfold gH at hsp';rw [decide_eq_true_iff] at hsp';obtain ⟨hp6,hpx⟩:=hsp'
  have hlong:∀ p∈(if 0<c.long then [kQ (c.long%50+1).toNat] else []),p.length≤50∧∀ q∈p,Bd (cG 99) 99 q:=by
   intro p hp;split at hp
   ·rw [List.mem_singleton] at hp;subst hp;exact Sp _ (by omega)
   ·cases hp
  have hv:∀ l∈c.p,(cJ l).length≤50∧∀ q∈cJ l,Bd (cG 99) 99 q:=fun l hl=>⟨by rw [tJ];have:=(hpx l hl).1;omega,fun q hq=>by
   obtain ⟨x,hx,rfl⟩:=List.mem_map.1 hq;exact bQ.YC ((hpx l hl).2 x hx)⟩
  refine ⟨⟨hE▸h1,hER▸h2,by rw [hE,hER];exact aK2 _ _,by rw [cP.XR,if_neg hk,hX];rfl,?_,fun p hp=>?_,fun p hp=>?_,by rw [hX];exact bQ.vU hx,by rw [hX];exact h.hc.Pe⟩,by rw [cP.YR,if_neg hk,hY];exact Se _,by rw [hY,tJ];exact hyl,fun q hq=>?_,fun q hq=>?_⟩
  ·rw [hE,Bw,List.length_append,List.length_map];have:(if 0<c.long then [kQ (c.long%50+1).toNat] else []).length≤1:=by split<;>simp
   omega
  ·rw [hE] at hp;rcases List.mem_append.1 hp with hp | hp
   ·obtain ⟨l,hl,rfl⟩:=List.mem_map.1 hp;exact hv l hl
   ·exact hlong p hp
  ·rw [hER,Pr] at hp;rcases List.mem_append.1 hp with hp | hp
   ·obtain ⟨l,hl,rfl⟩:=List.mem_map.1 hp;have hvl:=hv l hl;exact ⟨by rw [gF];have:=gL (z:=zr) (cJ l);omega,fun q hq=>hvl.2 q (List.mem_of_mem_take hq)⟩
   ·exact hlong p hp
  ·rw [hY] at hq;obtain ⟨x,hx,rfl⟩:=List.mem_map.1 hq;exact bQ.vU (hy x hx)
  ·rw [hY] at hq;obtain ⟨x,hx,rfl⟩:=List.mem_map.1 hq;exact (h.hy x hx).Pe
def dM:Nat:=cG 99*cG 999^50
def sM:Nat:=50*(99*(2*999)^50)
theorem QP:∃ B,64≤B∧B≤16777216∧xJ (cG 99) (cG 999) 99 999 50<2^B∧FM (cG 99) (cG 999) 99 999 50<2^B∧∀ m,m<5→uN m 30 dM sM (cG 999) 999 101<2^B:=
 ⟨8388608,by decide,by decide,by decide +kernel,by decide +kernel,by decide +kernel⟩
theorem uJ:dM≠0:=Nat.mul_ne_zero (eP _) (Nat.pos_iff_ne_zero.1 (Nat.pow_pos (Nat.pos_of_ne_zero (eP _))))
theorem TF:1≤sM:=by decide +kernel
theorem DC.mov {e e':List (List Rat)} (h:DC e e') (c:Rat):bH e c=bH e' c:=by
 refine List.ext_getElem? fun i=>?_;rw [bH,bH,List.getElem?_map,List.getElem?_map];rcases Nat.lt_or_ge i e.length with hi | hi
 ·obtain ⟨p,hp⟩:∃ p,e[i]? = some p:=⟨_,List.getElem?_eq_getElem hi⟩
  obtain ⟨p',hp'⟩:∃ p,e'[i]? = some p:=⟨_,List.getElem?_eq_getElem (by rw [←h.1];exact hi)⟩
  rw [hp,hp',Option.map_some,Option.map_some]
  congr 1
  refine SG (lQ _ _) (lQ _ _) fun x=>?_;show ev (dP p c) x=ev (dP p' c) x;rw [tY,tY];exact (h.2 i p p' hp hp').2 _
 ·rw [List.getElem?_eq_none hi,List.getElem?_eq_none (by rw [←h.1];exact hi)]
section
variable {E:List (List Rat)} {ER:List (List RQ)} {X:Rat} {XR:RQ}
theorem SmallX.sh (h:SmallX E ER X XR):fG (yJ ER XR)=bH E X:=by rw [aW3,h.x,h.sim.mov]
theorem SmallX.rq (h:SmallX E ER X XR):∀ p∈ER,p.length≤50∧jB (cG 99) 99 p:=fun p hp=>by
 obtain ⟨h1,h2⟩:=h.rb _ (List.mem_map_of_mem (f:=fun p:List RQ=>p.map RQ.q) hp);rw [List.length_map] at h1;exact ⟨h1,fun x hx=>h2 _ (List.mem_map_of_mem hx)⟩
theorem SmallX.NY (h:SmallX E ER X XR):∀ p∈bH E X,p.length≤101∧∀ b∈p,Bd dM sM b:=by
 rw [←h.sh];intro q hq;obtain ⟨q1,hq1,rfl⟩:=List.mem_map.1 hq;obtain ⟨p,hp,rfl⟩:=List.mem_map.1 hq1;obtain ⟨hl,hb⟩:=h.rq p hp
 have hq2:jB (cG 999) 999 [XR, .of ((1:Int):Rat)]:=fun x hx=>by
  rcases List.mem_cons.1 hx with rfl | hx
  ·rw [h.x];exact h.xb
  ·rw [List.mem_singleton.1 hx];exact Bd.int (by simp)
 have hk:=vH (K:=50) (eP 99) (eP 999) (by omega) hb hq2 rfl p.length hl;refine ⟨by rw [List.length_map];have:=yB p [XR, .of ((1:Int):Rat)] p.length;simp only [List.length_cons,List.length_nil] at this;omega,fun b hb=>?_⟩;obtain ⟨x,hx,rfl⟩:=List.mem_map.1 hb;exact (hk x hx).le (Nat.mul_le_mul_right _ hl)
theorem SmallX.room (h:SmallX E ER X XR) {B:Nat} (hB:B≤16777216) (hR:xJ (cG 99) (cG 999) 99 999 50<2^B):Rg E X (cG 99) (cG 999) 99 999 50 B:=
 ⟨eP _,eP _,fun p hp=>⟨(h.eb p hp).2,(h.eb p hp).1⟩,h.xb,by omega,by omega,by omega,hR⟩
theorem SmallX.Kt (h:SmallX E ER X XR) {B:Nat} (hR:FM (cG 99) (cG 999) 99 999 50<2^B):∀ p∈ER,It B p [XR, .of ((1:Int):Rat)]∧p.length≤1048576:=fun p hp=>by
 obtain ⟨hl,hb⟩:=h.rq p hp;exact ⟨Tu (eP _) (eP _) (by omega) (by omega) hb (by rw [h.x];exact h.xb) hl hR,by omega⟩
theorem SmallX.erl (h:SmallX E ER X XR):ER.length≤64:=by have:=h.e2.l;rwa [iD] at this
end
section
variable {c:cP}
theorem jV {e:List (List Rat)} {c:Rat} (h:aQ e c≠0) (he:0<e.length):∃ p,(bH e c)[e.length-1]? = some p∧p[0]? = some (aQ e c):=by
 refine ⟨dP (e.getD (e.length-1) []) c,?_,?_⟩
 ·rw [bH,List.getElem?_map,List.getD_eq_getElem?_getD,List.getElem?_eq_getElem (by omega)];rfl
 ·unfold aQ at h ⊢;generalize dP (e.getD (e.length-1) []) c=l at *;cases l with
  | nil=>exact absurd rfl h
  | cons x l=>rfl
end
open Go Go.Proofs Tryz Ord
end Go.Sy
