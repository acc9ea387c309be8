/- A composition has few bits. The numbers of a small case. The derivative; falling factors of the law; the sums of OdeSolves. The greatest of a list; powers, widths of the reference. The reference's reach.
-/
import Derived.Test.YtdmcadckdnnglaaGreatDoorPc
import Derived.Test.YtdmcadckdnnglaaGreatDoorQf
set_option linter.unusedVariables false
set_option linter.unusedSimpArgs false
namespace Go.Sy
open Go Go.Proofs Tryz Ord
abbrev gH (D S:Nat) (p:List RQ):Prop:=∀ x∈p,Bd D S x.q
theorem gH.at {D S:Nat} {p:List RQ} (h:gH D S p) (i:Nat):Bd D S (atR p i):=by
 rw [atR,List.getD_eq_getElem?_getD,List.getElem?_map];cases hx:p[i]? with
 | none=>exact Bd.zero
 | some x=>exact h x (List.mem_of_getElem? hx)
theorem gH.trim {D S:Nat} {p:List RQ} (h:gH D S p):gH D S (iW p):=fun x hx=>h x (List.mem_of_mem_take hx)
theorem gH.add {D S T:Nat} {a b:List RQ} (h0:D≠0) (ha:gH D S a) (hb:gH D T b):gH D (S+T) (FG a b):=by
 refine gH.trim fun x hx=>?_;obtain ⟨k,_,rfl⟩:=List.mem_map.1 hx;exact (ha.at k).add h0 (hb.at k)
theorem gH.scale {D E S T:Nat} {a:List RQ} {c:Rat} (h0:D≠0) (h1:E≠0) (ha:gH D S a) (hc:Bd E T c):gH (D*E) (S*T) (iW (nU a c)):=by
 refine gH.trim fun x hx=>?_;obtain ⟨u,hu,rfl⟩:=List.mem_map.1 hx;exact (ha u hu).mul h0 h1 hc
theorem gH.mono {D S E T:Nat} {p:List RQ} (h:gH D S p) (hD:D∣E) (hS:S≤T):gH E T p:=fun x hx=>(h x hx).mono hD hS
theorem AX {D E S T:Nat} {a b:List RQ} (h0:D≠0) (h1:E≠0) (ha:gH D S a) (hb:gH E T b):∀ i,gH (D*E) (i*(S*T)) (mulR a b i)
 | 0=>fun x hx=>by cases hx
 | i+1=>by
   rw [mulR,Nat.add_mul,Nat.one_mul];refine (AX h0 h1 ha hb i).add (Nat.mul_ne_zero h0 h1) fun x hx=>?_;rcases List.mem_append.1 hx with h | h
   ·rw [(List.mem_replicate.1 h).2];exact Bd.zero
   ·exact ha.scale h0 h1 (hb.at i) x h
theorem Be {E T:Nat} {q:List RQ} (h1:E≠0) (hb:gH E T q) (hq:q.length=2):∀ i,gH (E^i) ((2*T)^i) (qB q i)
 | 0=>by
   rw [qB,Nat.pow_zero,Nat.pow_zero];refine gH.trim fun x hx=>?_;rw [List.mem_singleton.1 hx];exact Bd.int (by simp)
 | i+1=>by
   have ih:=Be h1 hb hq i;have h:=AX (Nat.pos_iff_ne_zero.1 (Nat.pow_pos (Nat.pos_of_ne_zero h1))) h1 ih hb q.length;rw [qB,Nat.pow_succ,Nat.pow_succ];refine h.mono (Nat.dvd_refl _) (Nat.le_of_eq ?_);rw [hq];ac_rfl
theorem zE {D E S T K:Nat} {p q:List RQ} (h0:D≠0) (h1:E≠0) (hT:1≤T) (hp:gH D S p) (hb:gH E T q) (hq:q.length=2):∀ i,i≤K→gH (D*E^K) (i*(S*(2*T)^K)) (mM p q i)
 | 0,_=>fun x hx=>by cases hx
 | i+1,hi=>by
   have hE:0<E:=Nat.pos_of_ne_zero h1;rw [mM,Nat.add_mul,Nat.one_mul];refine (zE h0 h1 hT hp hb hq i (by omega)).add (Nat.mul_ne_zero h0 (Nat.pos_iff_ne_zero.1 (Nat.pow_pos hE))) ?_;refine ((Be h1 hb hq i).scale (Nat.pos_iff_ne_zero.1 (Nat.pow_pos hE)) h0 (hp.at i)).mono ?_ ?_
   ·rw [Nat.mul_comm];exact Nat.mul_dvd_mul (Nat.dvd_refl _) (Nat.pow_dvd_pow _ (by omega))
   ·rw [Nat.mul_comm S];exact Nat.mul_le_mul_right _ (Nat.pow_le_pow_right (by omega) (by omega))
def Ed (D E S T K:Nat):Nat:=D*E^(K+1)*((K+2)*(S*(2*T)^(K+1)))
open Go Go.Proofs Tryz Ord
def cX:Nat→Nat
 | 0=>1
 | n+1=>Nat.lcm (cX n) (n+1)
theorem BB {d:Nat} (h1:1≤d):∀ {n:Nat},d≤n→d∣cX n
 | 0,h=>by omega
 | n+1,h=>by
   rw [cX];rcases Nat.lt_or_ge n d with h2 | h2
   ·rw [show d=n+1 by omega];exact Nat.dvd_lcm_right _ _
   ·exact Nat.dvd_trans (BB h1 h2) (Nat.dvd_lcm_left _ _)
theorem oY:∀ n:Nat,cX n≠0
 | 0=>by decide
 | n+1=>fun h=>by
   rw [cX] at h;rcases Nat.lcm_eq_zero_iff.1 h with h | h
   ·exact oY n h
   ·omega
theorem GW {n d:Int} {N M:Nat} (hn:n.natAbs≤N) (h0:d≠0) (hd:d.natAbs≤M):Bd (cX M) N ((n:Rat)/(d:Rat)):=by
 have h:=(Bd.int (D:=1) hn).div (by omega) (by omega) (Bd.int (D:=1) hd) (JP h0);rw [Rat.num_intCast,Nat.one_mul,Nat.mul_one] at h;exact h.mono (BB (by omega) hd) (Nat.le_refl _)
theorem cF.bd {x:cF} {N M:Nat} (hp:x.pow%4=0) (hn:x.n.natAbs≤N) (hd:x.d.natAbs≤M) (hM:1≤M):Bd (cX M) N x.v:=by
 rw [cF.v,hp,Nat.zero_add,Rat.pow_succ,Rat.pow_zero,Rat.one_mul,cF.b];split
 ·exact GW hn (by omega) (by omega)
 ·exact GW hn (by assumption) hd
theorem cF.Nu {x:cF} (h:x.QB=true):Bd (cX 99) 99 x.v:=by
 unfold cF.QB at h;rw [decide_eq_true_iff] at h;exact cF.bd h.1 (by omega) (by omega) (by omega)
theorem DY {n d:Int} {N M:Nat} (hn:n.natAbs≤N) (h0:d≠0) (hd:d.natAbs≤M):((n:Rat)/(d:Rat)).den≤M∧((n:Rat)/(d:Rat)).num.natAbs≤N*((n:Rat)/(d:Rat)).den:=by
 have h:=(Bd.int (D:=1) hn).div (by omega) (by omega) (Bd.int (D:=1) hd) (JP h0);rw [Rat.num_intCast,Nat.one_mul,Nat.mul_one] at h;exact ⟨Nat.le_trans (Nat.le_of_dvd (by omega) h.1) hd,h.2⟩
def eB:Nat:=2^96
structure pY (X:Rat):Prop where
 d:X.den≤eB
 s:X.num.natAbs≤1000*X.den
theorem pY.bd {X:Rat} (h:pY X):Bd X.den 1000 X:=⟨Nat.dvd_refl _,h.s⟩
theorem pY.fit {X:Rat} (h:pY X):Fit 140 X:=
 ⟨Nat.lt_of_le_of_lt (Nat.le_trans h.s (Nat.mul_le_mul_left _ h.d)) (by decide),Nat.lt_of_le_of_lt h.d (by decide)⟩
theorem JW (X:Rat):X.den≠0:=Nat.pos_iff_ne_zero.1 X.den_pos
theorem cF.Hm {x:cF} (h:x.short=true):x.v.den≤999∧x.v.num.natAbs≤999*x.v.den:=by
 unfold cF.short at h;rw [decide_eq_true_iff] at h;rw [cF.v,h.1,Nat.zero_add,Rat.pow_succ,Rat.pow_zero,Rat.one_mul,cF.b];split
 ·exact DY (by omega) (by omega) (by omega)
 ·exact DY (by omega) (by assumption) (by omega)
theorem Kq {X:Rat} (h:X.den≤999∧X.num.natAbs≤999*X.den):pY X:=
 ⟨Nat.le_trans h.1 (by decide),Nat.le_trans h.2 (Nat.mul_le_mul_right _ (by omega))⟩
theorem cF.VM {x:cF} (h:x.short=true):pY x.v:=Kq (cF.Hm h)
theorem Ld:pY 0:=Kq ⟨by decide,by decide⟩
theorem cF.Je {x:cF} (h:x.short=true):Bd (cX 999) 999 x.v:=by
 unfold cF.short at h;rw [decide_eq_true_iff] at h;exact cF.bd h.1 (by omega) (by omega) (by omega)
theorem MF {l:List Int} (h:∀ z∈l,z.natAbs≤99):∀ q∈ints l,Bd (cX 99) 99 q:=fun q hq=>by
 obtain ⟨n,hn,rfl⟩:=List.mem_map.1 (List.mem_of_mem_take hq);exact Bd.int (h n hn)
theorem TQ {k:Nat} {n:Int} (h1:1≤k) (h2:k≤8) (h3:0≤n) (h4:n≤8):∀ p∈kE k n,p.length≤50∧∀ q∈p,Bd (cX 99) 99 q:=by
 have hnn:n*(n+1)≤8*9:=Int.mul_le_mul (a:=n) (b:=n+1) (c:=8) (d:=9) (by omega) (by omega) (by omega) (by omega);have hn0:0≤n*(n+1):=Int.mul_nonneg (by omega) (by omega);generalize hm:n*(n+1)=m at hnn hn0
 have key:∀ l:List Int,l.length≤3→(∀ z∈l,z.natAbs≤99)→(ints l).length≤50∧∀ q∈ints l,Bd (cX 99) 99 q:=fun l hl h=>⟨by
  rw [ints,eO];have:=fE (z:=zr) (l.map fun n:Int=>(n:Rat));rw [List.length_map] at this;omega,MF h⟩
 intro p hp
 rcases (by omega:k=1∨k=2∨k=3∨k=4∨k=5∨k=6∨k=7∨k=8) with rfl | rfl | rfl | rfl | rfl | rfl | rfl | rfl <;>
  simp only [kE,List.mem_cons,List.not_mem_nil,or_false] at hp <;>
  (try rw [hm] at hp) <;>
  (rcases hp with rfl | rfl | rfl<;>first | exact ⟨by simp,by simp⟩ | exact key _ (by simp) (by intro z hz;simp only [List.mem_cons,List.not_mem_nil,or_false] at hz;omega))
theorem Jv (n:Nat) (hn:n≤50):(kR n).length≤50∧∀ q∈kR n,Bd (cX 99) 99 q:=by
 refine ⟨by simp [kR];omega,fun q hq=>?_⟩;rcases List.mem_or_eq_of_mem_set hq with h | rfl
 ·rw [(List.mem_replicate.1 h).2];exact Bd.zero
 ·exact Bd.one (by omega)
structure gA (E:List (List Rat)) (ER:List (List RQ)) (X:Rat) (XR:RQ):Prop where
 e1:LK E
 e2:LK (FW ER)
 sim:AN E (FW ER)
 x:XR.q=X
 el:E.length≤7
 eb:∀ p∈E,p.length≤50∧∀ q∈p,Bd (cX 99) 99 q
 rb:∀ p∈FW ER,p.length≤50∧∀ q∈p,Bd (cX 99) 99 q
 xb:pY X
structure QO (c:bK):Prop extends gA c.E c.ER c.X c.XR where
 y:c.YR.map RQ.q=c.Y
 yl:c.Y.length≤6
 yb:∀ q∈c.Y,Bd (cX 999) 999 q
 yf:∀ q∈c.Y,Fit 513 q
theorem AN.refl (e:List (List Rat)):AN e e:=⟨rfl,fun i p p' h1 h2=>by rw [h1] at h2;cases h2;exact ⟨rfl,fun _=>rfl⟩⟩
theorem Oy {k:Nat} (h1:1≤k) (h2:k≤8):(kY k).length≤6∧∀ q∈kY k,q=0∨q=1:=by
 rcases (by omega:k=1∨k=2∨k=3∨k=4∨k=5∨k=6∨k=7∨k=8) with rfl | rfl | rfl | rfl | rfl | rfl | rfl | rfl <;>
  exact ⟨by simp [kY],fun q hq=>by simp only [kY,List.mem_cons,List.not_mem_nil,or_false] at hq;rcases hq with rfl | rfl<;>simp⟩
theorem EY {c:bK} (h:c.In) (hs:c.small=true):QO c:=by
 unfold bK.small at hs;rw [decide_eq_true_iff] at hs;obtain ⟨hy,hsp,hx,hyl⟩:=hs;by_cases hk:0<c.kind
 ·have hkk1:1≤c.kk:=by unfold bK.kk;omega
  have hkk8:c.kk≤8:=by unfold bK.kk;omega
  have hnn:0≤c.nn∧c.nn≤8:=by unfold bK.nn;split<;>omega
  have hE:c.E=kE c.kk c.nn:=by rw [bK.E,if_pos hk]
  have hER:FW c.ER=kE c.kk c.nn:=by rw [bK.ER,if_pos hk,Sr hkk1 hkk8]
  have hX:c.X=0:=by rw [bK.X,if_pos hk]
  have hY:c.Y=kY c.kk:=by rw [bK.Y,if_pos hk]
  obtain ⟨_,hl3,hko⟩:=SD hkk1 hkk8 hnn.1 (by omega);have hb:=TQ hkk1 hkk8 hnn.1 hnn.2;have hes:LK (kE c.kk c.nn):=⟨by omega,fun p hp=>⟨by have:=(hb p hp).1;omega,fun q hq=>((hko p hp).2 q hq).mono (by omega)⟩⟩
  obtain ⟨hy1,hy2⟩:=Oy hkk1 hkk8;refine ⟨⟨hE▸hes,hER▸hes,by rw [hE,hER];exact AN.refl _,by rw [bK.XR,if_pos hk,hX];rfl,by rw [hE];omega,by rw [hE];exact hb,by rw [hER];exact hb,by rw [hX];exact Ld⟩,by rw [bK.YR,if_pos hk,hY];exact RZ hkk1 hkk8,by rw [hY];exact hy1,fun q hq=>?_,fun q hq=>?_⟩
  ·rw [hY] at hq;rcases hy2 q hq with rfl | rfl
   ·exact Bd.zero
   ·exact Bd.one (by omega)
  ·rw [hY] at hq;rcases hy2 q hq with rfl | rfl
   ·exact Fit.zero (by omega)
   ·exact (iA (n:=1) (by omega) (by omega)).mono (by omega)
 ·have hE:c.E=Iw c.p c.long:=by rw [bK.E,if_neg hk]
  have hER:c.ER=Rx c.p c.long:=by rw [bK.ER,if_neg hk]
  have hX:c.X=c.c.v:=by rw [bK.X,if_neg hk]
  have hY:c.Y=bT c.y:=by rw [bK.Y,if_neg hk]
  obtain ⟨h1,h2⟩:=TA (long:=c.long) h.hp hsp;have hsp':=hsp;unfold xP at hsp';rw [decide_eq_true_iff] at hsp';obtain ⟨hp6,hpx⟩:=hsp'
  have hlong:∀ p∈(if 0<c.long then [kR (c.long%50+1).toNat] else []),p.length≤50∧∀ q∈p,Bd (cX 99) 99 q:=by
   intro p hp;split at hp
   ·rw [List.mem_singleton] at hp;subst hp;exact Jv _ (by omega)
   ·cases hp
  have hv:∀ l∈c.p,(bT l).length≤50∧∀ q∈bT l,Bd (cX 99) 99 q:=fun l hl=>⟨by rw [oT];have:=(hpx l hl).1;omega,fun q hq=>by
   obtain ⟨x,hx,rfl⟩:=List.mem_map.1 hq;exact cF.Nu ((hpx l hl).2 x hx)⟩
  refine ⟨⟨hE▸h1,hER▸h2,by rw [hE,hER];exact Sk _ _,by rw [bK.XR,if_neg hk,hX];rfl,?_,fun p hp=>?_,fun p hp=>?_,by rw [hX];exact cF.VM hx⟩,by rw [bK.YR,if_neg hk,hY];exact JI _,by rw [hY,oT];exact hyl,fun q hq=>?_,fun q hq=>?_⟩
  ·rw [hE,Iw,List.length_append,List.length_map];have:(if 0<c.long then [kR (c.long%50+1).toNat] else []).length≤1:=by split<;>simp
   omega
  ·rw [hE] at hp;rcases List.mem_append.1 hp with hp | hp
   ·obtain ⟨l,hl,rfl⟩:=List.mem_map.1 hp;exact hv l hl
   ·exact hlong p hp
  ·rw [hER,Lh] at hp;rcases List.mem_append.1 hp with hp | hp
   ·obtain ⟨l,hl,rfl⟩:=List.mem_map.1 hp;have hvl:=hv l hl;exact ⟨by rw [eO];have:=fE (z:=zr) (bT l);omega,fun q hq=>hvl.2 q (List.mem_of_mem_take hq)⟩
   ·exact hlong p hp
  ·rw [hY] at hq;obtain ⟨x,hx,rfl⟩:=List.mem_map.1 hq;exact cF.Je (hy x hx)
  ·rw [hY] at hq;obtain ⟨x,hx,rfl⟩:=List.mem_map.1 hq;exact (h.hy x hx).SS
def dX (X:Rat):Nat:=cX 99*X.den^50
def dM:Nat:=cX 99*eB^50
def sM:Nat:=50*(99*(2*1000)^50)
theorem Fc {D E F S T K:Nat} (h:E≤F):mE D E S T K≤mE D F S T K:=by
 unfold mE;exact Nat.mul_le_mul (Nat.mul_le_mul (Nat.mul_le_mul_left _ (Nat.pow_le_pow_left h _)) h) (Nat.le_refl _)
theorem EW {D E F S T K:Nat} (h:E≤F):Ed D E S T K≤Ed D F S T K:=by
 unfold Ed;exact Nat.mul_le_mul (Nat.mul_le_mul_left _ (Nat.pow_le_pow_left h _)) (Nat.le_refl _)
theorem JD:mE (cX 99) eB 99 1000 50<2^8192∧Ed (cX 99) eB 99 1000 50<2^8192:=by decide +kernel
theorem TE:∃ B,64≤B∧B≤16777216∧∀ e,e≤eB→mE (cX 99) e 99 1000 50<2^B∧Ed (cX 99) e 99 1000 50<2^B:=
 ⟨8192,by decide,by decide,fun _ h=>⟨Nat.lt_of_le_of_lt (Fc h) JD.1,Nat.lt_of_le_of_lt (EW h) JD.2⟩⟩
theorem RE (X:Rat):dX X≠0:=Nat.mul_ne_zero (oY _) (Nat.pos_iff_ne_zero.1 (Nat.pow_pos X.den_pos))
theorem pY.dX {X:Rat} (h:pY X):dX X≤dM:=Nat.mul_le_mul_left _ (Nat.pow_le_pow_left h.d _)
theorem Pb:1≤sM:=by decide +kernel
theorem AN.VO {e e':List (List Rat)} (h:AN e e') (c:Rat):pJ e c=pJ e' c:=by
 refine List.ext_getElem? fun i=>?_;rw [pJ,pJ,List.getElem?_map,List.getElem?_map];rcases Nat.lt_or_ge i e.length with hi | hi
 ·obtain ⟨p,hp⟩:∃ p,e[i]? = some p:=⟨_,List.getElem?_eq_getElem hi⟩
  obtain ⟨p',hp'⟩:∃ p,e'[i]? = some p:=⟨_,List.getElem?_eq_getElem (by rw [←h.1];exact hi)⟩
  rw [hp,hp',Option.map_some,Option.map_some]
  congr 1
  refine Lk (iO _ _) (iO _ _) fun x=>?_;show ev (cP p c) x=ev (cP p' c) x;rw [pD,pD];exact (h.2 i p p' hp hp').2 _
 ·rw [List.getElem?_eq_none hi,List.getElem?_eq_none (by rw [←h.1];exact hi)]
section
variable {E:List (List Rat)} {ER:List (List RQ)} {X:Rat} {XR:RQ}
theorem gA.xf (h:gA E ER X XR):Fit 513 X:=h.xb.fit.mono (by omega)
theorem gA.sh (h:gA E ER X XR):FW (Vn ER XR)=pJ E X:=by rw [Ty,h.x,h.sim.VO]
theorem gA.rq (h:gA E ER X XR):∀ p∈ER,p.length≤50∧gH (cX 99) 99 p:=fun p hp=>by
 obtain ⟨h1,h2⟩:=h.rb _ (List.mem_map_of_mem (f:=fun p:List RQ=>p.map RQ.q) hp);rw [List.length_map] at h1;exact ⟨h1,fun x hx=>h2 _ (List.mem_map_of_mem hx)⟩
theorem gA.Uh (h:gA E ER X XR):∀ p∈pJ E X,p.length≤101∧∀ b∈p,Bd (dX X) sM b:=by
 rw [←h.sh];intro q hq;obtain ⟨q1,hq1,rfl⟩:=List.mem_map.1 hq;obtain ⟨p,hp,rfl⟩:=List.mem_map.1 hq1;obtain ⟨hl,hb⟩:=h.rq p hp
 have hq2:gH X.den 1000 [XR, .of ((1:Int):Rat)]:=fun x hx=>by
  rcases List.mem_cons.1 hx with rfl | hx
  ·rw [h.x];exact h.xb.bd
  ·rw [List.mem_singleton.1 hx];exact Bd.int (by simp)
 have hk:=zE (K:=50) (oY 99) (JW X) (by omega) hb hq2 rfl p.length hl;refine ⟨by rw [List.length_map];have:=Ef p [XR, .of ((1:Int):Rat)] p.length;simp only [List.length_cons,List.length_nil] at this;omega,fun b hb=>?_⟩;obtain ⟨x,hx,rfl⟩:=List.mem_map.1 hb;exact (hk x hx).le (Nat.mul_le_mul_right _ hl)
theorem gA.room (h:gA E ER X XR) {B:Nat} (hB:B≤16777216) (hR:mE (cX 99) X.den 99 1000 50<2^B):Jr E X (cX 99) X.den 99 1000 50 B:=
 ⟨oY _,JW _,fun p hp=>⟨(h.eb p hp).2,(h.eb p hp).1⟩,h.xb.bd,by omega,by omega,by omega,hR⟩
end
section
theorem EP {e:List (List Rat)} {c:Rat} (h:eD e c≠0) (he:0<e.length):∃ p,(pJ e c)[e.length-1]? = some p∧p[0]? = some (eD e c):=by
 refine ⟨cP (e.getD (e.length-1) []) c,?_,?_⟩
 ·rw [pJ,List.getElem?_map,List.getD_eq_getElem?_getD,List.getElem?_eq_getElem (by omega)];rfl
 ·unfold eD at h ⊢;generalize cP (e.getD (e.length-1) []) c=l at *;cases l with
  | nil=>exact absurd rfl h
  | cons x l=>rfl
end
open Go Go.Proofs Tryz Ord
open Go Go.Proofs Tryz Ord
open Go Go.Proofs Tryz Ord
theorem getD_some {p:List RQ} {k:Nat} {x:RQ} (h:p[k]? = some x):(p.map RQ.q).getD k 0=x.q:=by
 rw [List.getD_eq_getElem?_getD,List.getElem?_map,h];rfl
end Go.Sy
