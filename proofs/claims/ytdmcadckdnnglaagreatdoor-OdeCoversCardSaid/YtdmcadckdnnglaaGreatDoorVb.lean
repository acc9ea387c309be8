/- Part. -/
import Derived.Test.YtdmcadckdnnglaaGreatDoorPc
set_option linter.all false
namespace Go.Sy
open Go Go.Proofs Tryz Ord
abbrev jR(D S:Nat)(p:List RQ):Prop:=∀x∈p,Bd D S x.q
def jR.at{D S:Nat}{p:List RQ}(h:jR D S p)(i:Nat):Bd D S (atR p i):=by
 rw[atR,cu,cC];cases hx:p[i]? with
 | none=>exact Bd.zero
 | some x=>exact h x (bc hx)
def jR.trim{D S:Nat}{p:List RQ}(h:jR D S p):jR D S (eS p):=fun x hx=>h x (List.mem_of_mem_take hx)
def jR.add{D S T:Nat}{a b:List RQ}(h0:D≠0)(ha:jR D S a)(hb:jR D T b):jR D (S+T) (Ro a b):=by
 refine jR.trim fun x hx=>?_;obtain⟨k,_,rfl⟩:=gn.1 hx;exact(ha.at k).add h0 (hb.at k)
def jR.scale{D E S T:Nat}{a:List RQ}{c:Rat}(h0:D≠0)(h1:E≠0)(ha:jR D S a)(hc:Bd E T c):jR (D*E) (S*T) (eS (ee a c)):=by
 refine jR.trim fun x hx=>?_;obtain⟨u,hu,rfl⟩:=gn.1 hx;exact(ha u hu).mul h0 h1 hc
def jR.mono{D S E T:Nat}{p:List RQ}(h:jR D S p)(hD:D∣E)(hS:S<=T):jR E T p:=fun x hx=>(h x hx).mono hD hS
theorem yA{D E S T:Nat}{a b:List RQ}(h0:D≠0)(h1:E≠0)(ha:jR D S a)(hb:jR E T b):∀i,jR (D*E) (i*(S*T)) (mulR a b i)
 | 0=>fun x hx=>by cases hx
 | i+1=>by
   rw[mulR,Nat.add_mul,Nat.one_mul];refine(yA h0 h1 ha hb i).add (Nat.mul_ne_zero h0 h1) fun x hx=>?_;rcases List.mem_append.1 hx with h | h
   ·rw[(List.mem_replicate.1 h).2];exact Bd.zero
   ·exact ha.scale h0 h1 (hb.at i) x h
theorem tO{E T:Nat}{q:List RQ}(h1:E≠0)(hb:jR E T q)(hq:q.length=2):∀i,jR (E^i) ((2*T)^i) (pL q i)
 | 0=>by
   rw[pL,Nat.pow_zero,Nat.pow_zero];refine jR.trim fun x hx=>?_;rw[fH.1 hx];exact Bd.int (by simp)
 | i+1=>by
   have ih:=tO h1 hb hq i;have h:=yA (eV.1 (Nat.pow_pos (pQ h1))) h1 ih hb q.length;rw[pL,Nat.pow_succ,Nat.pow_succ];refine h.mono (qX _) (oU ?_);rw[hq];ac_rfl
theorem vW{D E S T K:Nat}{p q:List RQ}(h0:D≠0)(h1:E≠0)(hT:1<=T)(hp:jR D S p)(hb:jR E T q)(hq:q.length=2):∀i,i<=K->jR (D*E^K) (i*(S*(2*T)^K)) (ic p q i)
 | 0,_=>fun x hx=>by cases hx
 | i+1,hi=>by
   have hE:0<E:=pQ h1;rw[ic,Nat.add_mul,Nat.one_mul];refine(vW h0 h1 hT hp hb hq i O).add (Nat.mul_ne_zero h0 (eV.1 (Nat.pow_pos hE))) ?_;refine((tO h1 hb hq i).scale (eV.1 (Nat.pow_pos hE)) h0 (hp.at i)).mono ?_ ?_
   ·rw[Nat.mul_comm];exact Nat.mul_dvd_mul (qX _) (wS _ O)
   ·rw[Nat.mul_comm S];exact Nat.mul_le_mul_right _ (Nat.pow_le_pow_right O O)
def uU(D E S T K:Nat):Nat:=D*E^(K+1)*((K+2)*(S*(2*T)^(K+1)))
def Zf{D E S T K F:Nat}{p:List RQ}{c:RQ}(h0:D≠0)(h1:E≠0)(hp:jR D S p)(hc:Bd E T c.q)(hK:p.length<=K)(hF:uU D E S T K<2^F)(hS:1<=S:=by omega)(hT:1<=T:=by omega):OV F p [c,.of ((1:Int):Rat)]:=by
 have hE:0<E:=pQ h1;have hD:0<D:=pQ h0
 have hb:jR E T [c,.of ((1:Int):Rat)]:=fun x hx=>by
  rcases List.mem_cons.1 hx with rfl | hx
  ·exact hc
  ·rw[fH.1 hx];exact Bd.int (by simpa using hT)
 have hEK:∀i,i<=K+1->E^i<=E^(K+1):=fun i hi=>Nat.pow_le_pow_right hE hi;have hTK:∀i,i<=K+1->(2*T)^i<=(2*T)^(K+1):=fun i hi=>Nat.pow_le_pow_right O hi
 have big:∀{X Y:Nat}{x:Rat},X≠0->Bd X Y x->X<=D*E^(K+1)->Y<=(K+2)*(S*(2*T)^(K+1))->Fit F x:=fun {X Y x} hX0 h hX hY=>by
  have hV:Y*X<=uU D E S T K:=by
   unfold uU;rw[Nat.mul_comm (D*E^(K+1))];exact cV hY hX
  refine h.fit hX0 (Nat.lt_of_le_of_lt ?_ hF) (Nat.lt_of_le_of_lt hV hF);unfold uU;exact Nat.le_trans hX (Nat.le_mul_of_pos_right _ (Nat.mul_pos O (Nat.mul_pos hS (Nat.pow_pos O))))
 have hS1:S<=S*(2*T)^(K+1):=Nat.le_mul_of_pos_right _ (Nat.pow_pos O);have hT1:∀Z,Z<=(2*T)^(K+1)->Z<=(K+2)*(S*(2*T)^(K+1)):=fun Z hZ=>Nat.le_trans hZ (Nat.le_trans (Nat.le_mul_of_pos_left _ hS) (Nat.le_mul_of_pos_left _ O));have hED:∀Z,Z<=E^(K+1)->Z<=D*E^(K+1):=fun Z hZ=>Nat.le_trans hZ (Nat.le_mul_of_pos_left _ hD);refine⟨fun x hx=>big h0 (hp x hx) (Nat.le_mul_of_pos_right _ (Nat.pow_pos hE)) (Nat.le_trans hS1 (Nat.le_mul_of_pos_left _ O)),fun x hx=>big h1 (hb x hx) (hED _ (Nat.le_trans (oU (Ki E).symm) (hEK 1 O))) (hT1 _ ?_),fun i hi x hx=>big (eV.1 (Nat.pow_pos hE)) (tO h1 hb rfl i x hx) (hED _ (hEK i O)) (hT1 _ (hTK i O)),fun i hi j hj x hx=>?_,fun i hi x hx=>?_⟩
 ·exact Nat.le_trans (by rw[Ki];omega:T<=(2*T)^1) (hTK 1 O)
 ·have h:=yA (eV.1 (Nat.pow_pos hE)) h1 (tO h1 hb rfl i) hb j x hx;refine big (Nat.mul_ne_zero (eV.1 (Nat.pow_pos hE)) h1) h ?_ ?_
  ·rw[<-Nat.pow_succ];exact hED _ (hEK (i+1) O)
  ·refine hT1 _ (Nat.le_trans ?_ (hTK (i+1) O));have hj2:j<=2:=hj;rw[Nat.pow_succ,Nat.mul_left_comm];refine Nat.mul_le_mul_left _ ?_;exact Nat.mul_le_mul_right _ hj2
 ·have h:=vW (K:=K) h0 h1 hT hp hb rfl i O x hx;refine big (Nat.mul_ne_zero h0 (eV.1 (Nat.pow_pos hE))) h (Nat.mul_le_mul_left _ (hEK K O)) ?_;exact cV O (Nat.mul_le_mul_left _ (hTK K O))
def eC:Nat->Nat
 | 0=>1
 | n+1=>Nat.lcm (eC n) (n+1)
theorem IM{d:Nat}(h1:1<=d):∀{n:Nat},d<=n->d∣eC n
 | 0,h=>O
 | n+1,h=>by
   rw[eC];rcases Nat.lt_or_ge n d with h2 | h2
   ·rw[show d=n+1 by omega];exact Nat.dvd_lcm_right _ _
   ·exact Ca (IM h1 h2) (Nat.dvd_lcm_left _ _)
theorem qH:∀n:Nat,eC n≠0
 | 0=>by decide
 | n+1=>fun h=>by
   rw[eC]at h;rcases Nat.lcm_eq_zero_iff.1 h with h | h
   ·exact qH n h
   ·omega
def TZ{n d:Int}{N M:Nat}(hn:n.natAbs<=N)(h0:d≠0:=by omega)(hd:d.natAbs<=M:=by omega):Bd (eC M) N ((n:Rat)/(d:Rat)):=by
 have h:=(Bd.int (D:=1) hn).div O O (Bd.int (D:=1) hd) (Vn h0);rw[Rat.num_intCast,Nat.one_mul,Nat.mul_one]at h;exact h.mono (IM O hd) (aY _)
def bH.bd{x:bH}{N M:Nat}(hp:x.pow%4=0)(hn:x.n.natAbs<=N)(hd:x.d.natAbs<=M)(hM:1<=M):Bd (eC M) N x.v:=by
 rw[bH.v,hp,Nat.zero_add,gM,ej,iB,bH.b];split
 ·exact TZ hn
 ·exact TZ hn (by assumption) hd
def bH.aF8{x:bH}(h:x.AP=true):Bd (eC 99) 99 x.v:=by
 unfold bH.AP at h;rw[dx]at h;exact bH.bd h.1 O O O
def Ol{n d:Int}{N M:Nat}(h0:d≠0:=by omega)(hn:n.natAbs<=N:=by omega)(hd:d.natAbs<=M:=by omega):((n:Rat)/(d:Rat)).den<=M/\((n:Rat)/(d:Rat)).num.natAbs<=N*((n:Rat)/(d:Rat)).den:=by
 have h:=(Bd.int (D:=1) hn).div O O (Bd.int (D:=1) hd) (Vn h0);rw[Rat.num_intCast,Nat.one_mul,Nat.mul_one]at h;exact⟨Nat.le_trans (BE O h.1) hd,h.2⟩
def eB:Nat:=2^96
structure jg(X:Rat):Prop where
 d:X.den<=eB
 s:X.num.natAbs<=2000*X.den
def jg.bd{X:Rat}(h:jg X):Bd X.den 2000 X:=⟨qX _,h.s⟩
def jg.fit{X:Rat}(h:jg X):Fit 140 X:=
 ⟨Nat.lt_of_le_of_lt (Nat.le_trans h.s (Nat.mul_le_mul_left _ h.d)) (by decide),Nat.lt_of_le_of_lt h.d (by decide)⟩
def iy(X:Rat):X.den≠0:=eV.1 X.den_pos
def bH.xx{x:bH}(h:x.short=true):x.v.den<=999/\x.v.num.natAbs<=999*x.v.den:=by
 unfold bH.short at h;rw[dx]at h;rw[bH.v,h.1,Nat.zero_add,gM,ej,iB,bH.b];split
 ·exact Ol
 ·exact Ol (by assumption)
def ZJ{X:Rat}(h:X.den<=999/\X.num.natAbs<=999*X.den):jg X:=
 ⟨Nat.le_trans h.1 (by decide),Nat.le_trans h.2 (Nat.mul_le_mul_right _ O)⟩
def bH.Pr{x:bH}(h:x.short=true):jg x.v:=ZJ (bH.xx h)
def ae9:jg 0:=ZJ ⟨by decide,by decide⟩
def bH.XC{x:bH}(h:x.short=true):Bd (eC 999) 999 x.v:=by
 unfold bH.short at h;rw[dx]at h;exact bH.bd h.1 O O O
def ax1{l:List Int}(h:∀z∈l,z.natAbs<=99):∀q∈ints l,Bd (eC 99) 99 q:=fun q hq=>by
 obtain⟨n,hn,rfl⟩:=gn.1 (List.mem_of_mem_take hq);exact Bd.int (h n hn)
def bM1{k:Nat}{n:Int}(h1:1<=k)(h2:k<=8)(h3:0<=n)(h4:n<=8):∀p∈kE k n,p.length<=50/\∀q∈p,Bd (eC 99) 99 q:=by
 have hnn:n*(n+1)<=8*9:=Ci (a:=n) (b:=n+1) (c:=8) (d:=9) O O O O;have hn0:0<=n*(n+1):=qV O O;generalize hm:n*(n+1)=m at hnn hn0
 have key:∀l:List Int,l.length<=3->(∀z∈l,z.natAbs<=99)->(ints l).length<=50/\∀q∈ints l,Bd (eC 99) 99 q:=fun l hl h=>⟨by
  rw[ints,gz];have:=iI (z:=zr) (l.map fun n:Int=>(n:Rat));rw[aR]at this;omega,ax1 h⟩
 intro p hp
 rcases(by omega:k=1\/k=2\/k=3\/k=4\/k=5\/k=6\/k=7\/k=8)with rfl | rfl | rfl | rfl | rfl | rfl | rfl | rfl <;>
  simp only[kE,List.mem_cons,ja,gY]at hp <;>
  (try rw[hm]at hp) <;>
  (rcases hp with rfl | rfl | rfl<;>first | exact⟨by simp,by simp⟩ | exact key _ (by simp) (by intro z hz;simp only[List.mem_cons,ja,gY]at hz;omega))
def Ye(n:Nat)(hn:n<=50:=by omega):(lO n).length<=50/\∀q∈lO n,Bd (eC 99) 99 q:=by
 refine⟨by simp[lO];omega,fun q hq=>?_⟩;rcases List.mem_or_eq_of_mem_set hq with h | rfl
 ·rw[(List.mem_replicate.1 h).2];exact Bd.zero
 ·exact Bd.one O
structure SmallX(E:List (List Rat))(ER:List (List RQ))(X:Rat)(XR:RQ):Prop where
 e1:EqS E
 e2:EqS (uA ER)
 sim:HJ E (uA ER)
 x:XR.q=X
 el:E.length<=7
 eb:∀p∈E,p.length<=50/\∀q∈p,Bd (eC 99) 99 q
 rb:∀p∈uA ER,p.length<=50/\∀q∈p,Bd (eC 99) 99 q
 xb:jg X
structure Lz(c:bA):Prop extends SmallX c.E c.ER c.X c.XR where
 y:c.YR.map RQ.q=c.Y
 yl:c.Y.length<=6
 yb:∀q∈c.Y,Bd (eC 999) 999 q
 yf:∀q∈c.Y,Fit 513 q
def HJ.refl(e:List (List Rat)):HJ e e:=⟨rfl,fun i p p' h1 h2=>by rw[h1]at h2;cases h2;exact⟨rfl,fun _=>rfl⟩⟩
def aS2{k:Nat}(h1:1<=k)(h2:k<=8):(kY k).length<=6/\∀q∈kY k,q=0\/q=1:=by
 rcases(by omega:k=1\/k=2\/k=3\/k=4\/k=5\/k=6\/k=7\/k=8)with rfl | rfl | rfl | rfl | rfl | rfl | rfl | rfl <;>
  exact⟨by simp[kY],fun q hq=>by simp only[kY,List.mem_cons,ja,gY]at hq;rcases hq with rfl | rfl<;>simp⟩
def PX{c:bA}(h:c.In)(hs:c.small=true):Lz c:=by
 unfold bA.small at hs;rw[dx]at hs;obtain⟨hy,hsp,hx,hyl⟩:=hs;by_cases hk:0<c.kind
 ·have hkk1:1<=c.kk:=by unfold bA.kk;omega
  have hkk8:c.kk<=8:=by unfold bA.kk;omega
  have hnn:0<=c.nn/\c.nn<=8:=by unfold bA.nn;split<;>omega
  have hE:c.E=kE c.kk c.nn:=by rw[bA.E,if_pos hk]
  have hER:uA c.ER=kE c.kk c.nn:=by rw[bA.ER,if_pos hk,bB3 hkk1 hkk8]
  have hX:c.X=0:=by rw[bA.X,if_pos hk]
  have hY:c.Y=kY c.kk:=by rw[bA.Y,if_pos hk]
  obtain⟨_,hl3,hko⟩:=bC2 hkk1 hkk8 hnn.1;have hb:=bM1 hkk1 hkk8 hnn.1 hnn.2;have hes:EqS (kE c.kk c.nn):=⟨O,fun p hp=>⟨by have:=(hb p hp).1;omega,fun q hq=>((hko p hp).2 q hq).mono O⟩⟩
  obtain⟨hy1,hy2⟩:=aS2 hkk1 hkk8;refine⟨⟨hE▸hes,hER▸hes,by rw[hE,hER];exact HJ.refl _,by rw[bA.XR,if_pos hk,hX];rfl,by rw[hE];omega,by rw[hE];exact hb,by rw[hER];exact hb,by rw[hX];exact ae9⟩,by rw[bA.YR,if_pos hk,hY];exact by7 hkk1 hkk8,by rw[hY];exact hy1,fun q hq=>?_,fun q hq=>?_⟩
  ·rw[hY]at hq;rcases hy2 q hq with rfl | rfl
   ·exact Bd.zero
   ·exact Bd.one O
  ·rw[hY]at hq;rcases hy2 q hq with rfl | rfl
   ·exact Fit.zero O
   ·exact(eW (n:=1)).mono O
 ·have hE:c.E=HH c.p c.long:=by rw[bA.E,if_neg hk]
  have hER:c.ER=eRQ c.p c.long:=by rw[bA.ER,if_neg hk]
  have hX:c.X=c.c.v:=by rw[bA.X,if_neg hk]
  have hY:c.Y=cT c.y:=by rw[bA.Y,if_neg hk]
  obtain⟨h1,h2⟩:=bJ4 (long:=c.long) h.hp hsp;have hsp':=hsp;unfold jf at hsp';rw[dx]at hsp';obtain⟨hp6,hpx⟩:=hsp'
  have hlong:∀p∈(if 0<c.long then[lO (c.long%50+1).toNat]else[]),p.length<=50/\∀q∈p,Bd (eC 99) 99 q:=by
   intro p hp;split at hp
   ·rw[fH]at hp;subst hp;exact Ye _
   ·cases hp
  have hv:∀l∈c.p,(cT l).length<=50/\∀q∈cT l,Bd (eC 99) 99 q:=fun l hl=>⟨by rw[sZ];have:=(hpx l hl).1;omega,fun q hq=>by
   obtain⟨x,hx,rfl⟩:=gn.1 hq;exact bH.aF8 ((hpx l hl).2 x hx)⟩
  refine⟨⟨hE▸h1,hER▸h2,by rw[hE,hER];exact bA1 _ _,by rw[bA.XR,if_neg hk,hX];rfl,?_,fun p hp=>?_,fun p hp=>?_,by rw[hX];exact bH.Pr hx⟩,by rw[bA.YR,if_neg hk,hY];exact YH _,by rw[hY,sZ];exact hyl,fun q hq=>?_,fun q hq=>?_⟩
  ·rw[hE,HH,eZ,aR];have:(if 0<c.long then[lO (c.long%50+1).toNat]else[]).length<=1:=by split<;>simp
   omega
  ·rw[hE]at hp;rcases List.mem_append.1 hp with hp | hp
   ·obtain⟨l,hl,rfl⟩:=gn.1 hp;exact hv l hl
   ·exact hlong p hp
  ·rw[hER,af7]at hp;rcases List.mem_append.1 hp with hp | hp
   ·obtain⟨l,hl,rfl⟩:=gn.1 hp;have hvl:=hv l hl;exact⟨by rw[gz];have:=iI (z:=zr) (cT l);omega,fun q hq=>hvl.2 q (List.mem_of_mem_take hq)⟩
   ·exact hlong p hp
  ·rw[hY]at hq;obtain⟨x,hx,rfl⟩:=gn.1 hq;exact bH.XC (hy x hx)
  ·rw[hY]at hq;obtain⟨x,hx,rfl⟩:=gn.1 hq;exact(h.hy x hx).ay0
def dX(X:Rat):Nat:=eC 99*X.den^50
def dM:Nat:=eC 99*eB^50
def sM:Nat:=50*(99*(2*2000)^50)
def Qi{D E F S T K:Nat}(h:E<=F):pk D E S T K<=pk D F S T K:=by
 unfold pk;exact cV (cV (Nat.mul_le_mul_left _ (eP h _)) h) (aY _)
def PS{D E F S T K:Nat}(h:E<=F):uU D E S T K<=uU D F S T K:=by
 unfold uU;exact cV (Nat.mul_le_mul_left _ (eP h _)) (aY _)
def Yp:pk (eC 99) eB 99 2000 50<2^8192/\uU (eC 99) eB 99 2000 50<2^8192:=by decide +kernel
def aO3:∃B,64<=B/\B<=16777216/\∀e,e<=eB->pk (eC 99) e 99 2000 50<2^B/\uU (eC 99) e 99 2000 50<2^B:=
 ⟨8192,by decide,by decide,fun _ h=>⟨Nat.lt_of_le_of_lt (Qi h) Yp.1,Nat.lt_of_le_of_lt (PS h) Yp.2⟩⟩
def vg(X:Rat):dX X≠0:=Nat.mul_ne_zero (qH _) (eV.1 (Nat.pow_pos X.den_pos))
def jg.dX{X:Rat}(h:jg X):dX X<=dM:=Nat.mul_le_mul_left _ (eP h.d _)
def aX4:1<=sM:=by decide +kernel
def HJ.mov{e e':List (List Rat)}(h:HJ e e')(c:Rat):aV e c=aV e' c:=by
 refine List.ext_getElem? fun i=>?_;rw[aV,aV,cC,cC];rcases Nat.lt_or_ge i e.length with hi | hi
 ·obtain⟨p,hp⟩:∃p,e[i]?=some p:=⟨_,ay hi⟩
  obtain⟨p',hp'⟩:∃p,e'[i]?=some p:=⟨_,ay (by rw[<-h.1];exact hi)⟩
  rw[hp,hp',cf,cf]
  congr 1
  refine ag4 (mR _ _) (mR _ _) fun x=>?_;show ev (di p c) x=ev (di p' c) x;rw[mE,mE];exact(h.2 i p p' hp hp').2 _
 ·rw[fD hi,fD (by rw[<-h.1];exact hi)]
section
variable{E:List (List Rat)}{ER:List (List RQ)}{X:Rat}{XR:RQ}
def SmallX.xf(h:SmallX E ER X XR):Fit 513 X:=h.xb.fit.mono O
def SmallX.sh(h:SmallX E ER X XR):uA (Ui ER XR)=aV E X:=by rw[bJ2,h.x,h.sim.mov]
def SmallX.rq(h:SmallX E ER X XR):∀p∈ER,p.length<=50/\jR (eC 99) 99 p:=fun p hp=>by
 obtain⟨h1,h2⟩:=h.rb _ (BT (f:=fun p:List RQ=>p.map RQ.q) hp);rw[aR]at h1;exact⟨h1,fun x hx=>h2 _ (BT hx)⟩
def SmallX.aJ0(h:SmallX E ER X XR):∀p∈aV E X,p.length<=101/\∀b∈p,Bd (dX X) sM b:=by
 rw[<-h.sh];intro q hq;obtain⟨q1,hq1,rfl⟩:=gn.1 hq;obtain⟨p,hp,rfl⟩:=gn.1 hq1;obtain⟨hl,hb⟩:=h.rq p hp
 have hq2:jR X.den 2000 [XR,.of ((1:Int):Rat)]:=fun x hx=>by
  rcases List.mem_cons.1 hx with rfl | hx
  ·rw[h.x];exact h.xb.bd
  ·rw[fH.1 hx];exact Bd.int (by simp)
 have hk:=vW (K:=50) (qH 99) (iy X) O hb hq2 rfl p.length hl;refine⟨by rw[aR];have:=Fg p [XR,.of ((1:Int):Rat)] p.length;simp only[List.length_cons,bq]at this;omega,fun b hb=>?_⟩;obtain⟨x,hx,rfl⟩:=gn.1 hb;exact(hk x hx).le (Nat.mul_le_mul_right _ hl)
def SmallX.room(h:SmallX E ER X XR){B:Nat}(hB:B<=16777216)(hR:pk (eC 99) X.den 99 2000 50<2^B):Yb E X (eC 99) X.den 99 2000 50 B:=
 ⟨qH _,iy _,fun p hp=>⟨(h.eb p hp).2,(h.eb p hp).1⟩,h.xb.bd,O,O,O,hR⟩
def SmallX.yH(h:SmallX E ER X XR){B:Nat}(hR:uU (eC 99) X.den 99 2000 50<2^B):∀p∈ER,OV B p [XR,.of ((1:Int):Rat)]/\p.length<=1048576:=fun p hp=>by
 obtain⟨hl,hb⟩:=h.rq p hp;exact⟨Zf (qH _) (iy _) hb (by rw[h.x];exact h.xb.bd) hl hR,O⟩
end
section
def qK{e:List (List Rat)}{c:Rat}(h:aF e c≠0)(he:0<e.length:=by omega):∃p,(aV e c)[e.length-1]?=some p/\p[0]?=some (aF e c):=by
 refine⟨di (e.getD (e.length-1) []) c,?_,?_⟩
 ·rw[aV,cC,cu,ay O];rfl
 ·unfold aF at h|-;generalize di (e.getD (e.length-1) []) c=l at *;cases l with
  | nil=>exact absurd rfl h
  | cons x l=>rfl
end
def aR4:Tr:=fL 0 0 0 3 3 (bI 1)
def as2:aM prog f259 bZ [.v none]=aR4:=by kernel_rfl
def ba8:Tr:=eH 3 0 0 3 15 (aH 10 0 (bD 3 1 3 10 (uL 0 11 9 9 1 9 2)) (dV 38 [(G3 9),(.agg [(U 4 0),(U 5 0),(U 6 0)])] [none] [19,20] [39,39] 3 false (Ym 0 11 18 21 3 (aH 12 0 (bD 3 1 3 10 (uL 0 13 9 9 1 9 2)) (bD 3 1 3 10 (uL 0 13 4 5 0 6 0))))))
def aR2:Tr:=au 1 0 8 40 (Rw 0 (cU 3 2 0 3 10 9 0 (aH 7 0 (gb 1 0 3 0 40 8 10 (dB 8 3 39 13 ba8)) (fW 4 5 0 6 0))))
def NX:aM prog f258 bZ [.v none,.v none]=aR2:=by kernel_rfl
def bp8:Tr:=ZS 259 (fW 1 1 1 1 2)
def bx8:aM prog f208 bZ [.v none]=bp8:=by kernel_rfl
def aY8:Tr:=uW .gtr 3 15 16 7 0 1 0 4 (aH 8 0 (gb 0 0 2 0 44 18 19 (bm 9 167 20 (qt 96 10 21 167 3 (bD 2 1 3 9 (jj 0 11 12))))) (bD 2 1 3 9 (jj 0 1 9)))
def bb7:Tr:=au 0 0 6 44 (cU 2 3 0 3 5 7 4 (aH 4 0 (gb 0 0 2 0 44 11 12 (bm 5 167 13 (xX 96 6 14 167 3 aY8))) (au 0 0 23 44 (fP 5 1 24 (fG 6 0 1 0 3 25 26 (bI 7))))))
def bq0:Tr:=ym bb7
def aA0:aM prog f127 bZ [.v none]=bq0:=by kernel_rfl
def aZ6:Tr:=dV 126 [(G4 0),(W 3 0)] [(some 4)] [9,11] [49,3] 49 true (jv 104 4 4 1 4 2 4 3 4 13 14 (qA .rem 3 16 2 1 0 3 (eH 6 0 1 3 17 (aH 7 0 (jv 104 5 5 1 5 2 5 3 0 19 20 (oE 8 8 2 3)) (oE 5 5 2 3)))))
def aR3:Tr:=eH 1 0 0 3 6 (aH 2 0 (lX 50 1 4 2 49 (oE 3 3 2 3)) (qA .quo 3 10 2 1 0 3 aZ6))
def ai4:aM prog f126 bZ [.v (some 4),.v none]=aR3:=by kernel_rfl
def gZ(l:List Rat):Nat->Rat
 | 0=>0
 | i+1=>if i=0\/gZ l i<l.getD i 0 then l.getD i 0 else gZ l i
theorem CU{l:List Rat}:∀i,i<=l.length->gZ l i=0\/gZ l i∈l
 | 0,_=>.inl rfl
 | i+1,h=>by
   rw[gZ];split
   ·exact .inr (bc (bX (show i<l.length by omega)))
   ·exact CU i O
def pY{l:List Rat}{B:Nat}(h:∀x∈l,Fit B x)(i:Nat)(hi:i<=l.length)(hB:1<=B:=by omega):Fit B (gZ l i):=by
 rcases CU i hi with e | e
 ·rw[e];exact Fit.zero hB
 ·exact h _ e
def af3{a b:Rat}:0<ku a b↔b<a:=by
 unfold ku;by_cases h1:a<b
 ·rw[if_pos h1];exact⟨fun h=>O,fun h=>by grind⟩
 ·rw[if_neg h1];by_cases h2:b<a
  ·rw[if_pos h2];exact⟨fun _=>h2,fun _=>O⟩
  ·rw[if_neg h2];exact⟨fun h=>O,fun h=>absurd h h2⟩
def aF6(c:Int):aL prog 259 [(.one (.int .i64 c):aG)] (.ret [.one (.bool (decide (0<c)))]):=by
 refine bw func259 as2 ?_;apply vn dZ;exact aK
def Zq(l:List Rat)(B:Nat)(hl:∀x∈l,Fit B x)(hB:1<=B)(hB2:B<=8589934592)(hs:l.length<1099511627776):aL prog 258 [(.one (.jO 259 []):aG),(.one (sQ l):aG)] (.ret [qT (gZ l l.length)]):=by
 refine bw func258 NX ?_;apply vn (aU sD (aR _));refine ao {i:Nat // i<=l.length} (fun g=>(.one (.int .i64 g.1):aG)::(qC (gZ l g.1)).map .one) (fun g=>l.length-g.1) ⟨0,bO _⟩ ⟨aG.Sub.same,pn⟩ (fun _=>rfl) ?_;rintro⟨i,hi⟩;dsimp only[aO,aP,List.map]at hi|-;apply vn ak;refine vs _ rfl ?_ ?_<;>intro h3
 ·have hil:i<l.length:=O
  have hfx:=hl _ (bc (bX hil));have hfm:=pY hl i hi hB;apply vn (aZ sD (bX hil) (cS i));apply vn (bB ov (by decide) (by simp) (.inl rfl));apply vn bK;refine vs _ rfl ?_ ?_<;>intro h7
  ·apply vn aC
   exact aW rfl ⟨⟨i+1,O⟩,(by
    dsimp only;rw[gZ,if_pos (.inl O)];exact aQ.rfl),by show l.length-(i+1)<l.length-i;omega⟩
  apply aA (pN _ _ B B hfx hfm);apply sO (f:=259) (caps:=[]) rfl (aF6 (ku (l.getD i 0) (gZ l i))) rfl;refine vs _ rfl ?_ ?_<;>intro h12
  ·apply vn aC
   exact aW rfl ⟨⟨i+1,O⟩,(by
    dsimp only;rw[gZ,if_pos (.inr (af3.1 h12))];exact aQ.rfl),by show l.length-(i+1)<l.length-i;omega⟩
  apply vn aC
  exact aW rfl ⟨⟨i+1,O⟩,(by
   dsimp only;rw[gZ,if_neg (by rintro(h | h);omega;exact h12 (af3.2 h))];exact aQ.rfl),by show l.length-(i+1)<l.length-i;omega⟩
 rw[show l.length=i by omega];exact aK
def Ud(l:List Rat)(B:Nat)(hl:∀x∈l,Fit B x)(hB:1<=B)(hB2:B<=8589934592)(hs:l.length<1099511627776):aL prog 208 [(.one (sQ l):aG)] (.ret [qT (gZ l l.length)]):=by
 refine bw func208 bx8 ?_;apply aA (Zq l B hl hB hB2 hs);exact aK
def aI4(q:List (List RQ))(hq:∀p∈q,p.length<1099511627776)(hql:q.length<1099511627776:=by omega):aL prog 127 [(.one (eR q):aG)] (.ret [.one (.int .i64 ((q.length:Int)-1+(aa (uA q):Nat)))]):=by
 refine bw func127 aA0 ?_;refine ao {i:Nat // i<=q.length} (fun g=>[.one (.int .i64 ((aa (uA (q.take g.1)):Nat):Int)),.one (.int .i64 g.1)]) (fun g=>q.length-g.1) ⟨0,bO _⟩ aQ.rfl (fun _=>rfl) ?_;rintro⟨i,hi⟩;dsimp only[aO,aP]at hi|-
 have hd:=px (N:=1099511627776) (uA (q.take i)) fun p hp=>by
  obtain⟨p',hp',rfl⟩:=gn.1 hp;rw[aR];exact kR (hq p' (List.mem_of_mem_take hp'))
 apply vn (aU yM (aR _));apply vn ak;refine vs _ rfl ?_ ?_<;>intro h3
 ·obtain⟨p,hp⟩:∃p,q[i]?=some p:=⟨_,ay O⟩
  have hpl:=hq p (bc hp);have he:uA (q.take (i+1))=uA (q.take i)++[p.map RQ.q]:=by rw[List.take_add_one,hp];simp[uA]
  have hm:aa (uA (q.take (i+1)))=max (aa (uA (q.take i))) (cz Rb p-1):=by rw[he,zJ,<-bK3]
  apply vn (aZ yM hp);apply vn (av wC);apply aA (IB p hpl);apply vn dZ;refine vs _ rfl ?_ ?_<;>intro h8
  ·apply vn (aZ yM hp);apply vn (av wC);dsimp only[aO,aP];apply aA (IB p hpl);apply vn aC;dsimp only[aO,aP];exact aW rfl ⟨⟨i+1,O⟩,aQ.of_eq (by dsimp only;rw[hm,show max (aa (uA (q.take i))) (cz Rb p-1)=cz Rb p-1 by omega,show((cz Rb p-1:Nat):Int)=(cz Rb p:Int)-1 by omega];rfl),by show q.length-(i+1)<q.length-i;omega⟩
  apply vn aC;dsimp only[aO,aP];exact aW rfl ⟨⟨i+1,O⟩,aQ.of_eq (by dsimp only;rw[hm,show max (aa (uA (q.take i))) (cz Rb p-1)=aa (uA (q.take i)) by omega];rfl),by show q.length-(i+1)<q.length-i;omega⟩
 rw[show i=q.length by omega,List.take_length]at hd|-;apply vn (aU yM (aR _));apply vn aJ;apply vn aC;exact aK
def Vz{x:Rat}{n:Nat}(h:n%2=0):x^(n/2)*x^(n/2)=x^n:=by rw[<-mi,show n/2+n/2=n by omega]
def ai6{x:Rat}{n:Nat}(h:n%2=1):x^(n/2)*x^(n/2)*x=x^n:=by
 rw[<-mi,<-gM,show n/2+n/2+1=n by omega]
def UU(x:RQ)(n B:Nat)(hn:n<4611686018427387904)(hB:B<=1073741824)(hx1:Fit B x.q)(hf:∀j,j<=n->Fit B (x.q^j))(ih:0<n->aL prog 126 [lT x,.one (.int .i64 (n/2:Nat))] (.ret [lT (.of (x.q^(n/2)))])):aL prog 126 [(lT x:aG),(.one (.int .i64 n):aG)] (.ret [lT (.of (x.q^n))]):=by
 refine bw func126 ai4 ?_;apply vn bK;refine vs _ rfl ?_ ?_<;>intro h1
 ·apply aA (lG 1);dsimp only[aO,aP];rw[show n=0 by omega,ej];exact aK
 apply vn iD;dsimp only[aO,aP];rw[show(n:Int)/2=((n/2:Nat):Int) by omega];apply aA (ih O);apply aA (sX (.of (x.q^(n/2))) (.of (x.q^(n/2))) B B (hf _ O) (hf _ O));rw[show(RQ.of (x.q^(n/2))).q*(RQ.of (x.q^(n/2))).q=x.q^(n/2)*x.q^(n/2)from rfl];apply vn dd;apply vn bK;refine vs _ rfl ?_ ?_<;>intro h9
 ·have hev:x.q^(n/2)*x.q^(n/2)=x.q^(n/2+n/2):=(mi _ _ _).symm;apply aA (sX (.of (x.q^(n/2)*x.q^(n/2))) x B B (by rw[RQ.ZD,hev];exact hf _ O) hx1) rfl;rw[show(RQ.of (x.q^(n/2)*x.q^(n/2))).q*x.q=x.q^n from ai6 O];exact aK
 rw[Vz O];exact aK
def sk(x:RQ)(B:Nat)(hB:B<=1073741824)(hx1:Fit B x.q):∀n:Nat,n<4611686018427387904->(∀j,j<=n->Fit B (x.q^j))->aL prog 126 [lT x,.one (.int .i64 n)] (.ret [lT (.of (x.q^n))]):=by
 intro n
 induction n using Nat.strongRecOn with
 | _ n ih=>
 intro hn hf;have key:=UU x n B hn hB hx1 hf (fun h0=>ih (n/2) (Nat.div_lt_self h0 O) O (fun j hj=>hf j O));exact key
def aq4:Tr:=dB 32 4 49 48 (nA 60 33 4 49 49 (NS 17 18 0 19 0 20 0 21 51 52 (jv 104 34 34 1 34 2 34 3 35 50 53 (jv 48 22 23 0 24 0 25 0 36 42 54 (bD 21 1 3 40 (FC 1 38 37 37 1 37 2 37 3))))))
def ap8:Tr:=uM 50 68 4 117 2 49 (da 4 0 42 0 3 119 120 (NS 69 69 1 69 2 69 3 70 118 121 (jv 102 66 66 1 66 2 66 3 71 113 122 (jv 48 49 50 0 51 0 52 0 72 97 123 (bD 48 1 3 88 (FC 2 74 73 73 1 73 2 73 3))))))
def am2:Tr:=nA 60 61 4 104 49 (fG 4 0 48 0 3 107 108 (da 63 0 42 0 3 109 110 (NS 17 18 0 19 0 20 0 64 106 111 (dV 104 [(G4 62),(G4 65)] [(some 4)] [105,112] [49,49] 49 false (da 36 0 4 0 3 114 115 (bD 67 1 3 116 ap8))))))
def ar4:Tr:=uM 50 69 4 117 2 49 (da 4 0 42 0 3 119 120 (NS 70 70 1 70 2 70 3 71 118 121 (jv 102 67 67 1 67 2 67 3 72 113 122 (jv 48 49 50 0 51 0 52 0 73 97 123 (bD 48 1 3 88 (FC 2 75 74 74 1 74 2 74 3))))))
def as6:Tr:=nA 60 62 4 104 49 (fG 4 0 48 0 3 107 108 (da 64 0 42 0 3 109 110 (NS 17 18 0 19 0 20 0 65 106 111 (dV 104 [(G4 63),(G4 66)] [(some 4)] [105,112] [49,49] 49 false (da 36 0 4 0 3 114 115 (bD 68 1 3 116 ar4))))))
def aC8:Tr:=aH 57 0 (gb 2 0 42 0 44 98 99 (bm 58 167 100 (gb 59 0 48 0 167 101 102 (dB 60 4 49 103 am2)))) (fL 48 0 0 3 94 (aH 58 0 (gb 2 0 42 0 44 98 99 (bm 59 167 100 (gb 60 0 48 0 167 101 102 (dB 61 4 49 103 as6)))) (bD 48 1 3 88 (FC 2 59 49 50 0 51 0 52 0))))
def aD5:Tr:=gb 2 0 42 0 44 82 83 (bm 53 167 84 (au 54 0 85 167 (cU 48 55 0 3 81 86 4 (aH 56 0 (cU 42 4 0 3 90 91 4 aC8) (bD 42 1 3 79 (FC 1 57 49 50 0 51 0 52 0))))))
def aw1:Tr:=uW .leq 3 76 77 42 0 4 0 4 (aH 47 0 (.loop 2 [lK 0,lV 43 0,lV 44 0,lV 45 0,lV 46 0] aD5) (dV 47 [(.agg [(U 43 0),(U 44 0),(U 45 0),(U 46 0)]),(G4 9)] [none] [125,126] [49,49] 3 true (jb 48 0 0 3 127 (aH 49 0 (.ret [(.agg [(U 17 0),(U 18 0),(U 19 0),(U 20 0)]),(W 36 0)]) (Qu 36 3 74 (.back 0 [lV 35 0,lV 50 0,lV 37 0,lV 38 0,lV 39 0,lV 40 0]))))))
def Sc:Tr:=.ret [(.agg [(tE (.int .i64 0)),tN,(tE (.int .i64 0)),tN]),(WK 0)]
def at0:Tr:=aH 32 0 (xX 127 2 68 44 3 (fG 33 0 4 0 3 69 70 (.loop 0 [lV 11 0,lV 34 0,lV 13 0,lV 14 0,lV 15 0,lV 16 0] (jb 36 0 4096 3 72 (aH 41 0 (.loop 1 [lK 0,lK 0,lN,lK 0,lN] aw1) Sc))))) (eH 12 0 62 3 62 (aH 33 0 Sc (.need (.call 79 [(WK 1),(WK 2)] [(some 4)]) (.call ⟨.value (.func 79),#[(.const (I3 1)),(.const (I3 2))],#[2,2]⟩) 49 true (jv 104 17 18 0 19 0 20 0 34 65 66 (bD 12 1 3 31 (.back 0 [lV 11 0,lV 36 0,lV 13 0,lV 14 0,lV 15 0,lV 16 0,lV 35 0,lV 35 1,lV 35 2,lV 35 3]))))))
def av4:Tr:=bm 26 167 36 (au 27 0 37 167 (cU 21 28 0 3 33 38 4 (aH 29 0 (gb 2 0 4 0 44 43 44 (bm 30 167 45 (gb 31 0 21 0 167 46 47 aq4))) (dV 48 [(.agg [(U 22 0),(U 23 0),(U 24 0),(U 25 0)]),(.agg [(U 22 0),(U 23 0),(U 24 0),(U 25 0)])] [(some 4)] [56,57] [49,49] 49 false (dV 47 [(G4 30),(G4 9)] [none] [58,59] [49,49] 3 true (jb 31 0 0 3 60 at0))))))
def aS5:Tr:=oZ 6 0 0 167 26 (dB 7 4 49 27 (dV 60 [(G4 8)] [(some 4)] [28] [49] 49 true (lX 50 4 4 2 49 (.loop 0 [lK 0,lK 0,lK 0,lN,lK 0,lN,lV 10 0,lV 10 1,lV 10 2,lV 10 3] (.loop 1 [lK 1,lK 0,lN,lK 0,lN] (gb 2 0 4 0 44 34 35 av4))))))
def bi3:Tr:=dV 125 [(W 0 0),(G4 1)] [none] [17,18] [44,49] 44 true (au 2 0 20 44 (fP 3 1 21 (gb 2 0 4 0 44 23 24 (bm 5 167 25 aS5))))
def YI:aM prog f43 bZ [.v none,.v (some 4)]=bi3:=by kernel_rfl
def QD:ah 0=((4:Int):Rat):=by decide +kernel
def ai7(h:Nat):mkRat 1 (2^(h+1))=mkRat 1 (2^h)*mkRat 1 2:=by
 rw[Su,Nat.pow_succ];rfl
def On:((1:Int):Rat)/((2:Int):Rat)=mkRat 1 2:=by decide +kernel
def RG(h:Nat):ah h*(((1:Int):Rat)/((2:Int):Rat))=ah (h+1):=by
 rw[ah,ah,ai7,On,Rat.mul_assoc]
def au0{Q:List (List RQ)}{i:Nat}{p:List RQ}(h:Q[i]?=some p):(uA Q).getD i []=p.map RQ.q:=by
 rw[cu,uA,cC,h];rfl
def getD_some{p:List RQ}{k:Nat}{x:RQ}(h:p[k]?=some x):(p.map RQ.q).getD k 0=x.q:=by
 rw[cu,cC,h];rfl
def VD(p:List Rat)(k:Nat):(p.drop 1).getD k 0=p.getD (k+1) 0:=by
 rw[cu,List.getElem?_drop,cu,Nat.add_comm 1 k]
set_option maxHeartbeats 8000000 in
def ZR(e:List (List RQ))(c:RQ)(F:Nat)(hmild:∀p∈e,OV F p [c,.of ((1:Int):Rat)]/\p.length<=1048576)(hF64:64<=F)(Q:List (List RQ))(hQ:Ui e c=Q)(q:List (List Rat))(hq:uA Q=q)(m:Nat)(p0:List RQ)(l:RQ)(hp0:Q[m]?=some p0)(hl0:p0[0]?=some l)(B L h0 i0:Nat)(C:OD B q m l.q L h0 (m+aa q+m) i0)(hql:q.length=m+1)(h64:64<=B)(hh:h0<=63)(hlow:∀h,h<h0->¬ks q m l.q h)(hs:h0<=62->ks q m l.q h0)(hst:h0<=62->∀i,i<i0->(m+aa q+m)*2^i<=4096/\¬eX q m l.q (ah h0) ((m+aa q+m)*2^i))(hsi:h0<=62->4096<(m+aa q+m)*2^i0\/eX q m l.q (ah h0) ((m+aa q+m)*2^i0))(hi13:i0<=13)(hF:F<=100000000:=by omega)(hm:m<=64:=by omega)(hL:L<=1048576:=by omega)(hB:B<=100000000:=by omega):aL prog 43 [(.one (eR e):aG),(lT c:aG)] (if h0=63\/4096<(m+aa q+m)*2^i0 then .ret [lT .nil,.one (.int .i64 0)]else .ret [lT (.of (ah h0)),.one (.int .i64 (((m+aa q+m)*2^i0:Nat):Int))]):=by
 refine bw func43 YI ?_
 have hel:e.length=m+1:=by
  have h1:(Ui e c).length=e.length:=by rw[Ui,aR]
  have h2:(uA Q).length=Q.length:=Sx Q;rw[hQ]at h1;rw[hq]at h2;omega
 have hQl:Q.length=m+1:=by
  have h2:(uA Q).length=Q.length:=Sx Q;rw[hq]at h2;omega
 have hqi:∀{i p},Q[i]?=some p->q.getD i []=p.map RQ.q:=fun h=>by rw[<-hq];exact au0 h
 have hqf:∀{i:Nat}{p:List RQ},Q[i]?=some p->p.length<=L/\∀x∈p,Fit B x.q:=fun {i p} h=>by
  have hmem:p.map RQ.q∈q:=by rw[<-hq,uA];exact BT (bc h)
  obtain⟨h1,h2⟩:=C.fq _ hmem;rw[aR]at h1;exact⟨h1,fun x hx=>h2 _ (BT hx)⟩
 obtain⟨hpl,hfp⟩:=hqf hp0;have hg0:=hqi hp0;have hlen1:1<=p0.length:=by have:=(dn.1 hl0).1;omega
 have hfs:=C.fs;have hfl:=js C.flead;rw[hg0]at hfs;have hokr:∀h,ks q m l.q h↔gJ ((p0.map RQ.q).drop 1) (ah h) (p0.length-1)+gJ ((p0.map RQ.q).drop 1) (ah h) (p0.length-1)<=l.q.abs:=fun h=>by rw[ks,hg0,aR]
 have hlow:∀h,h<h0->¬gJ ((p0.map RQ.q).drop 1) (ah h) (p0.length-1)+gJ ((p0.map RQ.q).drop 1) (ah h) (p0.length-1)<=l.q.abs:=fun h hh=>by rw[<-hokr];exact hlow h hh
 have hs:=fun hx=>(hokr h0).1 (hs hx);have hcall:=Xl e c F hmild hF hF64;rw[hQ]at hcall;apply aA hcall;dsimp only[aO,aP];apply vn (aU yM (show(Q.map cR).length=m+1 by rw[aR,hQl]));apply vn aJ;dsimp only[aO,aP];rw[show((m+1:Nat):Int)-1=(m:Int) by omega];apply vn (aZ yM hp0 (cS m));apply vn (av wC);dsimp only[aO,aP];apply vn (aZ fg hl0 (show(0:Int).toNat=0 from rfl));apply vn (bB DV (by decide) (by simp) (.inl rfl));apply aA (Cs l);apply aA (lG 4);rw[<-QD];refine ao {h:Nat // h<=h0/\h<=62} (fun g=>([.one (.int .i64 0),.one (.int .i64 g.1),.one (.int .i64 0),.one (.exact (.slice none 0 0)),.one (.int .i64 0),.one (.exact (.slice none 0 0))]:List aG)++(rC (.of (ah g.1))).map aG.one) (fun g=>h0-g.1) ⟨0,bO _,bO _⟩ aQ.rfl (fun _=>rfl) ?_;rintro⟨h,hh0,hh2⟩;dsimp only[aO,aP,List.map]at hh0 hh2|-;refine ao {g:Nat×RQ // g.1+1<=p0.length/\g.2.q=gJ ((p0.map RQ.q).drop 1) (ah h) g.1} (fun g=>(.one (.int .i64 ((g.1.1+1:Nat):Int)):aG)::(rC g.1.2).map .one) (fun g=>p0.length-g.1.1) ⟨(0,.nil),hlen1,rfl⟩ ⟨aG.Sub.same,xD.1,xD.2.1,xD.2.2.1,xD.2.2.2.1,trivial⟩ (fun _=>rfl) ?_;rintro⟨⟨k,r⟩,hk,hr⟩;dsimp only[aO,aP,List.map]at hk hr|-;apply vn (aZ yM hp0 (cS m));apply vn (av wC);apply vn (aU fg (aR _));apply vn ak;refine vs _ rfl ?_ ?_<;>intro h15
 ·apply vn (aZ yM hp0 (cS m));apply vn (av wC);dsimp only[aO,aP];obtain⟨x,hx⟩:∃x,p0[k+1]?=some x:=⟨_,ay O⟩
  have hfx:=hfp x (bc hx);have hfr:Fit B r.q:=by rw[hr];exact hfs h hh0 hh2 k O
  apply vn (aZ fg hx (cS (k+1)));apply vn (bB DV (by decide) (by simp) (.inl rfl));apply aA (Cs x);apply aA (sk (.of (ah h)) B O (by have:=C.frho h hh0 hh2 1 O;rwa[gM,ej,iB]at this) (k+1) O (fun j hj=>C.frho h hh0 hh2 j O)) rfl;apply aA (sX (.of x.q.abs) (.of ((RQ.of (ah h)).q^(k+1))) B B (js hfx) (C.frho h hh0 hh2 (k+1) O));apply aA (sV r _ B (B+B) hfr ((js hfx).mul (C.frho h hh0 hh2 (k+1) O)));apply vn aC
  exact aW rfl ⟨⟨(k+1,.of (r.q+x.q.abs*ah h^(k+1))),by dsimp only;omega,by
   show r.q+x.q.abs*ah h^(k+1)=_;dsimp only;rw[gJ,hr,VD,getD_some hx]⟩,aQ.of_eq rfl,by show p0.length-(k+1)<p0.length-k;omega⟩
 have hkl:p0.length-1=k:=O
 rw[hkl]at hlow hs;have hfr:Fit B r.q:=by rw[hr];exact hfs h hh0 hh2 k O
 apply aA (sV r r B B hfr hfr);apply aA (Px _ (.of l.q.abs) (B+B+1) B (hfr.add hfr) hfl);rw[show ku (RQ.of (r.q+r.q)).q (RQ.of l.q.abs).q=ku (gJ ((p0.map RQ.q).drop 1) (ah h) k+gJ ((p0.map RQ.q).drop 1) (ah h) k) l.q.abs by rw[<-hr];rfl];apply vn iO;refine vs _ rfl ?_ ?_<;>intro h29
 ·have hle:=kM.1 h29
  have hheq:h=h0:=by
   rcases Nat.lt_or_ge h h0 with hl | hl
   ·exact(hlow h hl hle).elim
   ·omega
  subst hheq;replace hs:=hs hh2;replace hst:=hst hh2;replace hsi:=hsi hh2
  have hQs:∀p∈Q,p.length<1099511627776:=fun p hp=>by
   obtain⟨i,hi⟩:=uB hp;have:=(hqf hi).1;omega
  have hdm:=px (N:=1048576) q (fun p hp=>Nat.le_trans (C.fq p hp).1 hL);have hsz:=aI4 Q hQs;rw[hq,hQl]at hsz;apply aA hsz;apply vn aC;rw[show((m+1:Nat):Int)-1+(aa q:Nat)+(m:Int)=((m+aa q+m:Nat):Int) by omega];dsimp only[aO,aP];generalize hse:m+aa q+m=s at *;refine ao {i:Nat // i<=i0} (fun g=>[.one (.int .i64 0),.one (.int .i64 ((s*2^g.1:Nat):Int)),.one (.int .i64 0),.one (.exact (.slice none 0 0)),.one (.int .i64 0),.one (.exact (.slice none 0 0))]) (fun g=>i0-g.1) ⟨0,bO _⟩ (aQ.of_eq (by rw[Nat.pow_zero,Nat.mul_one];rfl)) (fun _=>rfl) ?_;rintro⟨i,hi⟩;dsimp only[aO,aP,List.map]at hi|-;have hpw:s*2^i<=s*2^13:=Nat.mul_le_mul_left _ (Nat.pow_le_pow_right O O);have hs13:s<=1048704:=O
  have hsm:m<=s*2^i:=by
   have h1:1<=2^i:=Nat.pow_pos O;have h2:s*1<=s*2^i:=Nat.mul_le_mul_left _ h1;omega
  obtain⟨z,hz⟩:∃z,s*2^i=z:=⟨_,rfl⟩
  rw[hz]at hpw hsm|-;apply vn iO;refine vs _ rfl ?_ ?_<;>intro h34
  ·have hz4:z<=4096:=O
   have hfm:=C.fm i hi O;have hfo:=C.fo i hi O;rw[hz]at hfm hfo;have hN0:(((z:Int)-m+1:Int):Rat)≠0:=zne O;refine ao {g:Nat×RQ // g.1<=m+1/\g.2.q=bC q m (ah h) (((z:Int)-m+1:Int):Rat) g.1} (fun g=>(.one (.int .i64 g.1.1):aG)::(rC g.1.2).map .one) (fun g=>m+1-g.1.1) ⟨(0,.nil),bO _,rfl⟩ ⟨aG.Sub.same,xD.1,xD.2.1,xD.2.2.1,xD.2.2.2.1,trivial⟩ (fun _=>rfl) ?_;rintro⟨⟨a,r1⟩,ha,hr1⟩;dsimp only[aO,aP,List.map]at ha hr1|-;apply vn iO;refine vs _ rfl ?_ ?_<;>intro h37
   ·obtain⟨p,hpa⟩:∃p,Q[a]?=some p:=⟨_,ay O⟩
    have hga:=hqi hpa;obtain⟨hpal,hpaf⟩:=hqf hpa;have hfx:=fun k=>hfm.fx a k O;rw[hga]at hfx;refine ao {g:Nat×RQ // g.1<=p.length/\g.2.q=gR (p.map RQ.q) m a (ah h) (((z:Int)-m+1:Int):Rat) (bC q m (ah h) (((z:Int)-m+1:Int):Rat) a) g.1} (fun g=>(.one (.int .i64 g.1.1):aG)::(rC g.1.2).map .one) (fun g=>p.length-g.1.1) ⟨(0,r1),bO _,hr1⟩ aQ.rfl (fun _=>rfl) ?_;rintro⟨⟨k,r2⟩,hk2,hr2⟩;dsimp only[aO,aP,List.map]at hk2 hr2|-;apply vn (aZ yM hpa (cS a));apply vn (av wC);apply vn (aU fg (aR _));apply vn ak;refine vs _ rfl ?_ ?_<;>intro h43
    ·obtain⟨x,hx⟩:∃x,p[k]?=some x:=⟨_,ay O⟩
     have hfc:=js (hpaf x (bc hx));have hfr2:Fit B r2.q:=by rw[hr2];exact hfx k (by rw[aR];omega)
     have hrp:=hfm.frho (m+k-a) O;have hNp:=hfm.fN (m-a) O;have e1:(m:Int)+(k:Int)-(a:Int)=((m+k-a:Nat):Int):=O
     have e2:(m:Int)-(a:Int)=((m-a:Nat):Int):=O
     apply vn ak;refine vs _ rfl ?_ ?_<;>intro h45
     ·apply vn (aZ yM hpa (cS a));apply vn (av wC);apply vn (aZ fg hx (cS k));dsimp only[aO,aP];apply vn (bB DV (by decide) (by simp) (.inl rfl));apply aA (Cs x);apply vn aC;apply vn aJ;rw[e1];apply aA (sk (.of (ah h)) B O (by have:=C.frho h hh0 hh2 1 O;rwa[gM,ej,iB]at this) (m+k-a) O (fun j hj=>hfm.frho j O)) rfl;apply aA (sX (.of x.q.abs) (.of ((RQ.of (ah h)).q^(m+k-a))) B B hfc hrp);apply vn aJ;apply vn aC;dsimp only[aO,aP];apply aA (lG ((z:Int)-m+1));apply vn aJ;rw[e2];apply aA (sk (.of (((z:Int)-m+1:Int):Rat)) B O (by have:=(Fit.int (n:=(z:Int)-m+1) (B:=64) O O);exact this.mono h64) (m-a) O (fun j hj=>hfm.fN j O)) rfl;apply aA (Xj (.of (x.q.abs*ah h^(m+k-a))) (.of ((((z:Int)-m+1:Int):Rat)^(m-a))) (B+B) B (tq hN0 _) (hfc.mul hrp) hNp);apply aA (sV r2 _ B (B+B+B) hfr2 ((hfc.mul hrp).div hNp));apply vn aC
      exact aW rfl ⟨⟨(k+1,_),by dsimp only;omega,by
       show r2.q+x.q.abs*ah h^(m+k-a)/_=_;dsimp only;rw[gR,if_pos (.inl O),hr2,getD_some hx];rfl⟩,aQ.rfl,by show p.length-(k+1)<p.length-k;omega⟩
     apply vn dZ;refine vs _ rfl ?_ ?_<;>intro h65
     ·apply vn (aZ yM hpa (cS a));apply vn (av wC);apply vn (aZ fg hx (cS k));apply vn (bB DV (by decide) (by simp) (.inl rfl));apply aA (Cs x);apply vn aC;apply vn aJ;rw[e1];dsimp only[aO,aP];apply aA (sk (.of (ah h)) B O (by have:=C.frho h hh0 hh2 1 O;rwa[gM,ej,iB]at this) (m+k-a) O (fun j hj=>hfm.frho j O)) rfl;apply aA (sX (.of x.q.abs) (.of ((RQ.of (ah h)).q^(m+k-a))) B B hfc hrp);apply vn aJ;apply vn aC;apply aA (lG ((z:Int)-m+1));apply vn aJ;rw[e2];apply aA (sk (.of (((z:Int)-m+1:Int):Rat)) B O (by have:=(Fit.int (n:=(z:Int)-m+1) (B:=64) O O);exact this.mono h64) (m-a) O (fun j hj=>hfm.fN j O)) rfl;apply aA (Xj (.of (x.q.abs*ah h^(m+k-a))) (.of ((((z:Int)-m+1:Int):Rat)^(m-a))) (B+B) B (tq hN0 _) (hfc.mul hrp) hNp);dsimp only[aO,aP];apply aA (sV r2 _ B (B+B+B) hfr2 ((hfc.mul hrp).div hNp));apply vn aC
      exact aW rfl ⟨⟨(k+1,_),by dsimp only;omega,by
       show r2.q+x.q.abs*ah h^(m+k-a)/_=_;dsimp only;rw[gR,if_pos (.inr O),hr2,getD_some hx];rfl⟩,aQ.rfl,by show p.length-(k+1)<p.length-k;omega⟩
     apply vn aC
     exact aW rfl ⟨⟨(k+1,r2),by dsimp only;omega,by
      dsimp only;rw[gR,if_neg O];exact hr2⟩,aQ.rfl,by show p.length-(k+1)<p.length-k;omega⟩
    apply vn aC
    exact aW rfl ⟨⟨(a+1,r2),by dsimp only;omega,by
     dsimp only;rw[bC,hga,aR,show p.length=k by omega];exact hr2⟩,aQ.rfl,by show m+1-(a+1)<m+1-a;omega⟩
   have haq:q.length=a:=O
   rw[haq]at hfo;apply aA (Px r1 (.of l.q.abs) B B (by rw[hr1];exact hfo) hfl) rfl;rw[show ku r1.q (RQ.of l.q.abs).q=ku (bC q m (ah h) (((z:Int)-m+1:Int):Rat) q.length) l.q.abs by rw[hr1,haq];rfl];apply vn iO;refine vs _ rfl ?_ ?_<;>intro h90
   ·have hle2:=kM.1 h90
    have hieq:i=i0:=by
     rcases Nat.lt_or_ge i i0 with hl | hl
     ·exact((hst i hl).2 (by rw[eX,hz];exact hle2)).elim
     ·omega
    subst hieq;rw[if_neg O,hz];exact aK
   have hilt:i<i0:=by
    rcases Nat.lt_or_ge i i0 with hl | hl
    ·exact hl
    ·exfalso
     obtain rfl:i=i0:=O
     rw[eX,hz]at hsi;exact h90 (kM.2 (hsi.resolve_left O))
   apply vn mK
   exact aW rfl ⟨⟨i+1,O⟩,aQ.of_eq (by
    dsimp only;rw[Nat.pow_succ,<-Nat.mul_assoc,hz,show((z*2:Nat):Int)=2*(z:Int) by omega];rfl),by show i0-(i+1)<i0-i;omega⟩
  have hie:i=i0:=by
   rcases Nat.lt_or_ge i i0 with hl | hl
   ·have:=(hst i hl).1;omega
   ·omega
  subst hie;rw[if_pos (.inr O)];exact dJ ⟨xD,aG.Sub.same,trivial⟩
 have hhlt:h<h0:=by
  rcases Nat.lt_or_ge h h0 with hl | hl
  ·exact hl
  ·exfalso
   obtain rfl:h=h0:=O
   exact h29 (kM.2 (hs hh2))
 apply vn bK;refine vs _ rfl ?_ ?_<;>intro h96
 ·rw[if_pos (.inl O)];exact dJ ⟨xD,aG.Sub.same,trivial⟩
 apply aA (YY 1 2);apply aA (sX (.of (ah h)) (.of (((1:Int):Rat)/((2:Int):Rat))) B 64 (by have:=C.frho h hh0 hh2 1 O;rwa[gM,ej,iB]at this) (by rw[RQ.ZD,On];decide)) rfl;rw[show(RQ.of (ah h)).q*(RQ.of (((1:Int):Rat)/((2:Int):Rat))).q=ah (h+1)from RG h];apply vn aC;dsimp only[aO,aP];exact aW rfl ⟨⟨h+1,O,O⟩,aQ.rfl,by show h0-(h+1)<h0-h;omega⟩
end Go.Sy
