/- Part. -/
import Derived.Test.YtdmcadckdnnglaaGreatDoorPc
set_option linter.all false
namespace Go.Sy
open Go Go.Proofs Tryz Ord
abbrev mE(D S:Nat)(p:List RQ):Prop:=∀x∈p,Bd D S x.q
def mE.at{D S:Nat}{p:List RQ}(h:mE D S p)(i:Nat):Bd D S (atR p i):=by
 rw[atR,dp,dS];cases hx:p[i]? with
 | none=>exact Bd.zero
 | some x=>exact h x (cj hx)
def mE.trim{D S:Nat}{p:List RQ}(h:mE D S p):mE D S (gI p):=fun x hx=>h x (jg hx)
def mE.add{D S T:Nat}{a b:List RQ}(h0:D≠0)(ha:mE D S a)(hb:mE D T b):mE D (S+T) (Ya a b):=by
 refine mE.trim fun x hx=>?_;obtain⟨k,_,rfl⟩:=jf.1 hx;exact(ha.at k).add h0 (hb.at k)
def mE.scale{D E S T:Nat}{a:List RQ}{c:Rat}(h0:D≠0)(h1:E≠0)(ha:mE D S a)(hc:Bd E T c):mE (D*E) (S*T) (gI (gY a c)):=by
 refine mE.trim fun x hx=>?_;obtain⟨u,hu,rfl⟩:=jf.1 hx;exact(ha u hu).mul h0 h1 hc
def mE.mono{D S E T:Nat}{p:List RQ}(h:mE D S p)(hD:D∣E)(hS:S<=T):mE E T p:=fun x hx=>(h x hx).mono hD hS
theorem BL{D E S T:Nat}{a b:List RQ}(h0:D≠0)(h1:E≠0)(ha:mE D S a)(hb:mE E T b):∀i,mE (D*E) (i*(S*T)) (mulR a b i)
 | 0=>fun x hx=>by cases hx
 | i+1=>by
   rw[mulR,ba,cZ];refine(BL h0 h1 ha hb i).add (da h0 h1) fun x hx=>?_;rcases iM.1 hx with h | h
   .rw[(pC.1 h).2];exact Bd.zero
   .exact ha.scale h0 h1 (hb.at i) x h
theorem wu{E T:Nat}{q:List RQ}(h1:E≠0)(hb:mE E T q)(hq:q.length=2):∀i,mE (E^i) ((2*T)^i) (sx q i)
 | 0=>by
   rw[sx,jt,jt];refine mE.trim fun x hx=>?_;rw[eo.1 hx];exact Bd.int bY
 | i+1=>by
   have ih:=wu h1 hb hq i;have h:=BL (gL.1 (aw (iR h1))) h1 ih hb q.length;rw[sx,bF,bF];refine h.mono (pJ _) (np ?_);rw[hq];ac_rfl
theorem zA{D E S T K:Nat}{p q:List RQ}(h0:D≠0)(h1:E≠0)(hT:1<=T)(hp:mE D S p)(hb:mE E T q)(hq:q.length=2):∀i,i<=K->mE (D*E^K) (i*(S*(2*T)^K)) (lE p q i)
 | 0,_=>fun x hx=>by cases hx
 | i+1,hi=>by
   have hE:0<E:=iR h1;rw[lE,ba,cZ];refine(zA h0 h1 hT hp hb hq i O).add (da h0 (gL.1 (aw hE))) ?_;refine((wu h1 hb hq i).scale (gL.1 (aw hE)) h0 (hp.at i)).mono ?_ ?_
   .rw[cD];exact Nat.mul_dvd_mul (pJ _) (Az _ O)
   .rw[cD S];exact cg _ (cB O O)
def yE(D E S T K:Nat):Nat:=D*E^(K+1)*((K+2)*(S*(2*T)^(K+1)))
def aG3{D E S T K F:Nat}{p:List RQ}{c:RQ}(h0:D≠0)(h1:E≠0)(hp:mE D S p)(hc:Bd E T c.q)(hK:p.length<=K)(hF:yE D E S T K<2^F)(hS:1<=S:=by omega)(hT:1<=T:=by omega):VH F p [c,.of ((1:Int):Rat)]:=by
 have hE:0<E:=iR h1;have hD:0<D:=iR h0
 have hb:mE E T [c,.of ((1:Int):Rat)]:=fun x hx=>by
  rcases ee.1 hx with rfl | hx
  .exact hc
  .rw[eo.1 hx];exact Bd.int (by simpa using hT)
 have hEK:∀i,i<=K+1->E^i<=E^(K+1):=fun i hi=>cB hE hi;have hTK:∀i,i<=K+1->(2*T)^i<=(2*T)^(K+1):=fun i hi=>cB O hi
 have big:∀{X Y:Nat}{x:Rat},X≠0->Bd X Y x->X<=D*E^(K+1)->Y<=(K+2)*(S*(2*T)^(K+1))->Fit F x:=fun {X Y x} hX0 h hX hY=>by
  have hV:Y*X<=yE D E S T K:=by
   unfold yE;rw[cD (D*E^(K+1))];exact dE hY hX
  refine h.fit hX0 (cV ?_ hF) (cV hV hF);unfold yE;exact an hX (dn _ (dN O (dN hS (aw O))))
 have hS1:S<=S*(2*T)^(K+1):=dn _ (aw O);have hT1:∀Z,Z<=(2*T)^(K+1)->Z<=(K+2)*(S*(2*T)^(K+1)):=fun Z hZ=>an hZ (an (jh _ hS) (jh _ O));have hED:∀Z,Z<=E^(K+1)->Z<=D*E^(K+1):=fun Z hZ=>an hZ (jh _ hD);refine⟨fun x hx=>big h0 (hp x hx) (dn _ (aw hE)) (an hS1 (jh _ O)),fun x hx=>big h1 (hb x hx) (hED _ (an (np (zZ E).symm) (hEK 1 O))) (hT1 _ ?_),fun i hi x hx=>big (gL.1 (aw hE)) (wu h1 hb rfl i x hx) (hED _ (hEK i O)) (hT1 _ (hTK i O)),fun i hi j hj x hx=>?_,fun i hi x hx=>?_⟩
 .exact an (by rw[zZ];omega:T<=(2*T)^1) (hTK 1 O)
 .have h:=BL (gL.1 (aw hE)) h1 (wu h1 hb rfl i) hb j x hx;refine big (da (gL.1 (aw hE)) h1) h ?_ ?_
  .rw[<-bF];exact hED _ (hEK (i+1) O)
  .refine hT1 _ (an ?_ (hTK (i+1) O));have hj2:j<=2:=hj;rw[bF,ns];refine cd _ ?_;exact cg _ hj2
 .have h:=zA (K:=K) h0 h1 hT hp hb rfl i O x hx;refine big (da h0 (gL.1 (aw hE))) h (cd _ (hEK K O)) ?_;exact dE O (cd _ (hTK K O))
def fZ:Nat->Nat
 | 0=>1
 | n+1=>Nat.lcm (fZ n) (n+1)
theorem Pp{d:Nat}(h1:1<=d):∀{n:Nat},d<=n->d∣fZ n
 | 0,h=>O
 | n+1,h=>by
   rw[fZ];rcases bG n d with h2 | h2
   .rw[show d=n+1 by omega];exact Nat.dvd_lcm_right _ _
   .exact Ba (Pp h1 h2) (Nat.dvd_lcm_left _ _)
theorem tp:∀n:Nat,fZ n≠0
 | 0=>dO
 | n+1=>fun h=>by
   rw[fZ]at h;rcases Nat.lcm_eq_zero_iff.1 h with h | h
   .exact tp n h
   .omega
def af1{n d:Int}{N M:Nat}(hn:n.natAbs<=N)(h0:d≠0:=by omega)(hd:d.natAbs<=M:=by omega):Bd (fZ M) N ((n:Rat)/(d:Rat)):=by
 have h:=(Bd.int (D:=1) hn).div O O (Bd.int (D:=1) hd) (am4 h0);rw[jB,cZ,dc]at h;exact h.mono (Pp O hd) (ah _)
def bz.bd{x:bz}{N M:Nat}(hp:x.pow%4=0)(hn:x.n.natAbs<=N)(hd:x.d.natAbs<=M)(hM:1<=M):Bd (fZ M) N x.v:=by
 rw[bz.v,hp,bw,bE,bQ,kZ,bz.b];split
 .exact af1 hn
 .exact af1 hn iS hd
def bz.bs0{x:bz}(h:x.Ew=true):Bd (fZ 99) 99 x.v:=by
 unfold bz.Ew at h;rw[fH]at h;exact bz.bd h.1 O O O
def UY{n d:Int}{N M:Nat}(h0:d≠0:=by omega)(hn:n.natAbs<=N:=by omega)(hd:d.natAbs<=M:=by omega):((n:Rat)/(d:Rat)).den<=M/\((n:Rat)/(d:Rat)).num.natAbs<=N*((n:Rat)/(d:Rat)).den:=by
 have h:=(Bd.int (D:=1) hn).div O O (Bd.int (D:=1) hd) (am4 h0);rw[jB,cZ,dc]at h;exact⟨an (uZ O h.1) hd,h.2⟩
def eB:Nat:=2^96
structure kD(X:Rat):Prop where
 d:X.den<=eB
 s:X.num.natAbs<=2000*X.den
def kD.bd{X:Rat}(h:kD X):Bd X.den 2000 X:=⟨pJ _,h.s⟩
def kD.fit{X:Rat}(h:kD X):Fit 140 X:=
 ⟨cV (an h.s (cd _ h.d)) dO,cV h.d dO⟩
def lY(X:Rat):X.den≠0:=gL.1 X.den_pos
def bz.BJ{x:bz}(h:x.short=true):x.v.den<=999/\x.v.num.natAbs<=999*x.v.den:=by
 unfold bz.short at h;rw[fH]at h;rw[bz.v,h.1,bw,bE,bQ,kZ,bz.b];split
 .exact UY
 .exact UY iS
def aJ9{X:Rat}(h:X.den<=999/\X.num.natAbs<=999*X.den):kD X:=
 ⟨an h.1 dO,an h.2 (cg _ O)⟩
def bz.Dv{x:bz}(h:x.short=true):kD x.v:=aJ9 (bz.BJ h)
def Vt:kD 0:=aJ9 ⟨dO,dO⟩
def bz.ay1{x:bz}(h:x.short=true):Bd (fZ 999) 999 x.v:=by
 unfold bz.short at h;rw[fH]at h;exact bz.bd h.1 O O O
def bi9{l:k7}(h:∀z∈l,z.natAbs<=99):∀q∈ints l,Bd (fZ 99) 99 q:=fun q hq=>by
 obtain⟨n,hn,rfl⟩:=jf.1 (jg hq);exact Bd.int (h n hn)
def cz7{k:Nat}{n:Int}(h1:1<=k)(h2:k<=8)(h3:0<=n)(h4:n<=8):∀p∈kE k n,p.length<=50/\∀q∈p,Bd (fZ 99) 99 q:=by
 have hnn:n*(n+1)<=8*9:=FZ (a:=n) (b:=n+1) (c:=8) (d:=9) O O O O;have hn0:0<=n*(n+1):=tw O O;generalize hm:n*(n+1)=m at hnn hn0
 have key:∀l:List Int,l.length<=3->(∀z∈l,z.natAbs<=99)->(ints l).length<=50/\∀q∈ints l,Bd (fZ 99) 99 q:=fun l hl h=>⟨by
  rw[ints,kL];have:=kg (z:=zr) (l.map fun n:Int=>(n:Rat));rw[aX]at this;omega,bi9 h⟩
 intro p hp
 rcases(by omega:k=1\/k=2\/k=3\/k=4\/k=5\/k=6\/k=7\/k=8)with rfl | rfl | rfl | rfl | rfl | rfl | rfl | rfl <;>
  simp only[kE,ee,jm,jr]at hp <;>
  (try rw[hm]at hp) <;>
  (rcases hp with rfl | rfl | rfl<;>first | exact⟨bY,bY⟩ | exact key _ bY (by intro z hz;simp only[ee,jm,jr]at hz;omega))
def aB2(n:Nat)(hn:n<=50:=by omega):(oi n).length<=50/\∀q∈oi n,Bd (fZ 99) 99 q:=by
 refine⟨by simp[oi];omega,fun q hq=>?_⟩;rcases xC hq with h | rfl
 .rw[(pC.1 h).2];exact Bd.zero
 .exact Bd.one O
structure SmallX(E:j0)(ER:List (List RQ))(X:Rat)(XR:RQ):Prop where
 e1:EqS E
 e2:EqS (xh ER)
 sim:Oh E (xh ER)
 x:XR.q=X
 el:E.length<=7
 eb:∀p∈E,p.length<=50/\∀q∈p,Bd (fZ 99) 99 q
 rb:∀p∈xh ER,p.length<=50/\∀q∈p,Bd (fZ 99) 99 q
 xb:kD X
structure um(c:bL):Prop extends SmallX c.E c.ER c.X c.XR where
 y:c.YR.map RQ.q=c.Y
 yl:c.Y.length<=6
 yb:∀q∈c.Y,Bd (fZ 999) 999 q
 yf:∀q∈c.Y,Fit 513 q
def Oh.refl(e:j0):Oh e e:=⟨rfl,fun i p p' h1 h2=>by rw[h1]at h2;cases h2;exact⟨rfl,fun _=>rfl⟩⟩
def bF1{k:Nat}(h1:1<=k)(h2:k<=8):(kY k).length<=6/\∀q∈kY k,q=0\/q=1:=by
 rcases(by omega:k=1\/k=2\/k=3\/k=4\/k=5\/k=6\/k=7\/k=8)with rfl | rfl | rfl | rfl | rfl | rfl | rfl | rfl <;>
  exact⟨by simp[kY],fun q hq=>by simp only[kY,ee,jm,jr]at hq;rcases hq with rfl | rfl<;>simp⟩
def WD{c:bL}(h:c.In)(hs:c.small=true):um c:=by
 unfold bL.small at hs;rw[fH]at hs;obtain⟨hy,hsp,hx,hyl⟩:=hs;by_cases hk:0<c.kind
 .have hkk1:1<=c.kk:=by unfold bL.kk;omega
  have hkk8:c.kk<=8:=by unfold bL.kk;omega
  have hnn:0<=c.nn/\c.nn<=8:=by unfold bL.nn;split<;>omega
  have hE:c.E=kE c.kk c.nn:=by rw[bL.E,aI hk]
  have hER:xh c.ER=kE c.kk c.nn:=by rw[bL.ER,aI hk,co5 hkk1 hkk8]
  have hX:c.X=0:=by rw[bL.X,aI hk]
  have hY:c.Y=kY c.kk:=by rw[bL.Y,aI hk]
  obtain⟨_,hl3,hko⟩:=cp5 hkk1 hkk8 hnn.1;have hb:=cz7 hkk1 hkk8 hnn.1 hnn.2;have hes:EqS (kE c.kk c.nn):=⟨O,fun p hp=>⟨by have:=(hb p hp).1;omega,fun q hq=>((hko p hp).2 q hq).mono O⟩⟩
  obtain⟨hy1,hy2⟩:=bF1 hkk1 hkk8;refine⟨⟨hE▸hes,hER▸hes,by rw[hE,hER];exact Oh.refl _,by rw[bL.XR,aI hk,hX];rfl,by rw[hE];omega,by rw[hE];exact hb,by rw[hER];exact hb,by rw[hX];exact Vt⟩,by rw[bL.YR,aI hk,hY];exact cl6 hkk1 hkk8,by rw[hY];exact hy1,fun q hq=>?_,fun q hq=>?_⟩
  .rw[hY]at hq;rcases hy2 q hq with rfl | rfl
   .exact Bd.zero
   .exact Bd.one O
  .rw[hY]at hq;rcases hy2 q hq with rfl | rfl
   .exact Fit.zero O
   .exact(iU (n:=1)).mono O
 .have hE:c.E=Oe c.p c.long:=by rw[bL.E,aD hk]
  have hER:c.ER=eRQ c.p c.long:=by rw[bL.ER,aD hk]
  have hX:c.X=c.c.v:=by rw[bL.X,aD hk]
  have hY:c.Y=dY c.y:=by rw[bL.Y,aD hk]
  obtain⟨h1,h2⟩:=cw7 (long:=c.long) h.hp hsp;have hsp':=hsp;unfold mV at hsp';rw[fH]at hsp';obtain⟨hp6,hpx⟩:=hsp'
  have hlong:∀p∈(if 0<c.long then[oi (c.long%50+1).toNat]else[]),p.length<=50/\∀q∈p,Bd (fZ 99) 99 q:=by
   intro p hp;split at hp
   .rw[eo]at hp;subst hp;exact aB2 _
   .cases hp
  have hv:∀l∈c.p,(dY l).length<=50/\∀q∈dY l,Bd (fZ 99) 99 q:=fun l hl=>⟨by rw[wJ];have:=(hpx l hl).1;omega,fun q hq=>by
   obtain⟨x,hx,rfl⟩:=jf.1 hq;exact bz.bs0 ((hpx l hl).2 x hx)⟩
  refine⟨⟨hE▸h1,hER▸h2,by rw[hE,hER];exact cn1 _ _,by rw[bL.XR,aD hk,hX];rfl,?_,fun p hp=>?_,fun p hp=>?_,by rw[hX];exact bz.Dv hx⟩,by rw[bL.YR,aD hk,hY];exact aD9 _,by rw[hY,wJ];exact hyl,fun q hq=>?_,fun q hq=>?_⟩
  .rw[hE,Oe,gK,aX];have:(if 0<c.long then[oi (c.long%50+1).toNat]else[]).length<=1:=by split<;>simp
   omega
  .rw[hE]at hp;rcases iM.1 hp with hp | hp
   .obtain⟨l,hl,rfl⟩:=jf.1 hp;exact hv l hl
   .exact hlong p hp
  .rw[hER,aS0]at hp;rcases iM.1 hp with hp | hp
   .obtain⟨l,hl,rfl⟩:=jf.1 hp;have hvl:=hv l hl;exact⟨by rw[kL];have:=kg (z:=zr) (dY l);omega,fun q hq=>hvl.2 q (jg hq)⟩
   .exact hlong p hp
  .rw[hY]at hq;obtain⟨x,hx,rfl⟩:=jf.1 hq;exact bz.ay1 (hy x hx)
  .rw[hY]at hq;obtain⟨x,hx,rfl⟩:=jf.1 hq;exact(h.hy x hx).bk0
def dX(X:Rat):Nat:=fZ 99*X.den^50
def dM:Nat:=fZ 99*eB^50
def sM:Nat:=50*(99*(2*2000)^50)
def WS{D E F S T K:Nat}(h:E<=F):tV D E S T K<=tV D F S T K:=by
 unfold tV;exact dE (dE (cd _ (gN h _)) h) (ah _)
def Wz{D E F S T K:Nat}(h:E<=F):yE D E S T K<=yE D F S T K:=by
 unfold yE;exact dE (cd _ (gN h _)) (ah _)
def aC5:tV (fZ 99) eB 99 2000 50<2^8192/\yE (fZ 99) eB 99 2000 50<2^8192:=iN
def bB0:∃B,64<=B/\B<=16777216/\∀e,e<=eB->tV (fZ 99) e 99 2000 50<2^B/\yE (fZ 99) e 99 2000 50<2^B:=
 ⟨8192,dO,dO,fun _ h=>⟨cV (WS h) aC5.1,cV (Wz h) aC5.2⟩⟩
def zN(X:Rat):dX X≠0:=da (tp _) (gL.1 (aw X.den_pos))
def kD.dX{X:Rat}(h:kD X):dX X<=dM:=cd _ (gN h.d _)
def bK5:1<=sM:=iN
def Oh.mov{e e':j0}(h:Oh e e')(c:Rat):aV e c=aV e' c:=by
 refine kd fun i=>?_;rw[aV,aV,dS,dS];rcases bG i e.length with hi | hi
 .obtain⟨p,hp⟩:∃p,e[i]?=some p:=⟨_,bU hi⟩
  obtain⟨p',hp'⟩:∃p,e'[i]?=some p:=⟨_,bU (by rw[<-h.1];exact hi)⟩
  rw[hp,hp',eS,eS]
  congr 1
  refine aS5 (pk _ _) (pk _ _) fun x=>?_;show ev (fE p c) x=ev (fE p' c) x;rw[pX,pX];exact(h.2 i p p' hp hp').2 _
 .rw[gE hi,gE (by rw[<-h.1];exact hi)]
section
variable{E:j0}{ER:List (List RQ)}{X:Rat}{XR:RQ}
def SmallX.xf(h:SmallX E ER X XR):Fit 513 X:=h.xb.fit.mono O
def SmallX.sh(h:SmallX E ER X XR):xh (shR ER XR)=aV E X:=by rw[cw5,h.x,h.sim.mov]
def SmallX.rq(h:SmallX E ER X XR):∀p∈ER,p.length<=50/\mE (fZ 99) 99 p:=fun p hp=>by
 obtain⟨h1,h2⟩:=h.rb _ (FV (f:=fun p:List RQ=>p.map RQ.q) hp);rw[aX]at h1;exact⟨h1,fun x hx=>h2 _ (FV hx)⟩
def SmallX.bv3(h:SmallX E ER X XR):∀p∈aV E X,p.length<=101/\∀b∈p,Bd (dX X) sM b:=by
 rw[<-h.sh];intro q hq;obtain⟨q1,hq1,rfl⟩:=jf.1 hq;obtain⟨p,hp,rfl⟩:=jf.1 hq1;obtain⟨hl,hb⟩:=h.rq p hp
 have hq2:mE X.den 2000 [XR,.of ((1:Int):Rat)]:=fun x hx=>by
  rcases ee.1 hx with rfl | hx
  .rw[h.x];exact h.xb.bd
  .rw[eo.1 hx];exact Bd.int bY
 have hk:=zA (K:=50) (tp 99) (lY X) O hb hq2 rfl p.length hl;refine⟨by rw[aX];have:=Ku p [XR,.of ((1:Int):Rat)] p.length;simp only[bm,ck]at this;omega,fun b hb=>?_⟩;obtain⟨x,hx,rfl⟩:=jf.1 hb;exact(hk x hx).le (cg _ hl)
def SmallX.room(h:SmallX E ER X XR){B:Nat}(hB:B<=16777216)(hR:tV (fZ 99) X.den 99 2000 50<2^B):aA7 E X (fZ 99) X.den 99 2000 50 B:=
 ⟨tp _,lY _,fun p hp=>⟨(h.eb p hp).2,(h.eb p hp).1⟩,h.xb.bd,O,O,O,hR⟩
def SmallX.BT(h:SmallX E ER X XR){B:Nat}(hR:yE (fZ 99) X.den 99 2000 50<2^B):∀p∈ER,VH B p [XR,.of ((1:Int):Rat)]/\p.length<=1048576:=fun p hp=>by
 obtain⟨hl,hb⟩:=h.rq p hp;exact⟨aG3 (tp _) (lY _) hb (by rw[h.x];exact h.xb.bd) hl hR,O⟩
end
section
def uE{e:j0}{c:Rat}(h:aG e c≠0)(he:0<e.length:=by omega):∃p,(aV e c)[e.length-1]?=some p/\p[0]?=some (aG e c):=by
 refine⟨fE (e.getD (e.length-1) []) c,?_,?_⟩
 .rw[aV,dS,dp,bU O];rfl
 .unfold aG at h|-;generalize fE (e.getD (e.length-1) []) c=l at *;cases l with
  | nil=>exact absurd rfl h
  | cons x l=>rfl
end
def bE3:Tr:=ia 0 0 0 3 3 (cC 1)
def bd8:aO prog f259 cT [.v none]=bE3:=aT
def bO0:Tr:=gd 3 0 0 3 15 (aJ 10 0 (bX 3 1 3 10 (xx 0 11 9 9 1 9 2)) (OS 9 0 1 2 4 0 5 0 6 0 19 20 (aL0 0 11 18 21 3 (aJ 12 0 (bX 3 1 3 10 (xx 0 13 9 9 1 9 2)) (bX 3 1 3 10 (xx 0 13 4 5 0 6 0))))))
def bE1:Tr:=bD 1 0 8 40 (XT 0 (dW 3 2 0 3 10 9 0 (aJ 7 0 (jL 1 0 3 0 40 8 10 (dK 8 3 39 13 bO0)) (iz 4 5 0 6 0))))
def UJ:aO prog f258 cT [.v none,.v none]=bE1:=aT
def cd2:Tr:=aM0 259 (iz 1 1 1 1 2)
def ck7:aO prog f208 cT [.v none]=cd2:=aT
def bL9:Tr:=yH .gtr 3 15 16 7 0 1 0 4 (aJ 8 0 (jL 0 0 2 0 44 18 19 (cq 9 167 20 (vC 96 10 21 167 3 (bX 2 1 3 9 (kA 0 11 12))))) (bX 2 1 3 9 (kA 0 1 9)))
def bO8:Tr:=bD 0 0 6 44 (dW 2 3 0 3 5 7 4 (aJ 4 0 (jL 0 0 2 0 44 11 12 (cq 5 167 13 (Dt 96 6 14 167 3 bL9))) (bD 0 0 23 44 (iJ 5 1 24 (dh 6 0 1 0 3 25 26 (cC 7))))))
def cd4:Tr:=Cw bO8
def bm3:aO prog f127 cT [.v none]=cd4:=aT
def bM8:Tr:=eO 126 [G4 0,W 3 0] [some 4] [9,11] [49,3] 49 true (nE 104 4 4 1 4 2 4 3 4 13 14 (FX .rem 3 16 2 1 0 3 (gd 6 0 1 3 17 (aJ 7 0 (nE 104 5 5 1 5 2 5 3 0 19 20 (ru 8 8 2 3)) (ru 5 5 2 3)))))
def bE2:Tr:=gd 1 0 0 3 6 (aJ 2 0 (og 50 1 4 2 49 (ru 3 3 2 3)) (FX .quo 3 10 2 1 0 3 bM8))
def aU5:aO prog f126 cT [.v (some 4),.v none]=bE2:=aT
def lA(l:j1):Nat->Rat
 | 0=>0
 | i+1=>if i=0\/lA l i<l.getD i 0 then l.getD i 0 else lA l i
theorem Hh{l:j1}:∀i,i<=l.length->lA l i=0\/lA l i∈l
 | 0,_=>.inl rfl
 | i+1,h=>by
   rw[lA];split
   .exact .inr (cj (cS (show i<l.length by omega)))
   .exact Hh i O
def vh{l:j1}{B:Nat}(h:∀x∈l,Fit B x)(i:Nat)(hi:i<=l.length)(hB:1<=B:=by omega):Fit B (lA l i):=by
 rcases Hh i hi with e | e
 .rw[e];exact Fit.zero hB
 .exact h _ e
def aR5{a b:Rat}:0<mF a b↔b<a:=by
 unfold mF;by_cases h1:a<b
 .rw[aI h1];exact⟨fun h=>O,fun h=>e9⟩
 .rw[aD h1];by_cases h2:b<a
  .rw[aI h2];exact⟨fun _=>h2,fun _=>O⟩
  .rw[aD h2];exact⟨fun h=>O,fun h=>absurd h h2⟩
def br8(c:Int):aK prog 259 [(.one (.int .i64 c):aF)] (.ret [.one (.bool (decide (0<c)))]):=by
 refine dB func259 bd8 ?_;apply vn fL;exact aN
def aH9(l:j1)(B:Nat)(hl:∀x∈l,Fit B x)(hB:1<=B)(hB2:B<=8589934592)(hs:l.length<1099511627776):aK prog 258 [(.one (.lp 259 []):aF),(.one (sQ l):aF)] (.ret [qT (lA l l.length)]):=by
 refine dB func258 UJ ?_;apply vn (aZ vv (aX _));refine bC {i:Nat // i<=l.length} (fun g=>(.one (.int .i64 g.1):aF)::(qC (lA l g.1)).map .one) (fun g=>l.length-g.1) ⟨0,cG _⟩ ⟨aF.Sub.same,tX⟩ (fun _=>rfl) ?_;rintro⟨i,hi⟩;dsimp only[aP,aQ,List.map]at hi|-;refine uS az ?_ ?_<;>intro h3
 .have hil:i<l.length:=O
  have hfx:=hl _ (cj (cS hil));have hfm:=vh hl i hi hB;apply vn (aY vv (cS hil) (bV i));apply vn (ay mq dO bY (.inl rfl));refine uS bA ?_ ?_<;>intro h7
  .apply vn aC
   exact aa rfl ⟨⟨i+1,O⟩,(by
    dsimp only;rw[lA,aI (.inl O)];exact aR.rfl),by show l.length-(i+1)<l.length-i;omega⟩
  apply aA (ma _ _ B B hfx hfm);apply wD (f:=259) (caps:=[]) rfl (br8 (mF (l.getD i 0) (lA l i))) rfl;refine p8 ?_ ?_<;>intro h12
  .apply vn aC
   exact aa rfl ⟨⟨i+1,O⟩,(by
    dsimp only;rw[lA,aI (.inr (aR5.1 h12))];exact aR.rfl),by show l.length-(i+1)<l.length-i;omega⟩
  apply vn aC
  exact aa rfl ⟨⟨i+1,O⟩,(by
   dsimp only;rw[lA,aD (by rintro(h | h);omega;exact h12 (aR5.2 h))];exact aR.rfl),by show l.length-(i+1)<l.length-i;omega⟩
 rw[show l.length=i by omega];exact aN
def aQ1(l:j1)(B:Nat)(hl:∀x∈l,Fit B x)(hB:1<=B)(hB2:B<=8589934592)(hs:l.length<1099511627776):aK prog 208 [(.one (sQ l):aF)] (.ret [qT (lA l l.length)]):=by
 refine dB func208 ck7 ?_;apply aA (aH9 l B hl hB hB2 hs);exact aN
def bu6(q:List (List RQ))(hq:∀p∈q,p.length<1099511627776)(hql:q.length<1099511627776:=by omega):aK prog 127 [(.one (eR q):aF)] (.ret [.one (.int .i64 ((q.length:Int)-1+(aj (xh q):Nat)))]):=by
 refine dB func127 bm3 ?_;refine bC {i:Nat // i<=q.length} (fun g=>[.one (.int .i64 ((aj (xh (q.take g.1)):Nat):Int)),.one (.int .i64 g.1)]) (fun g=>q.length-g.1) ⟨0,cG _⟩ aR.rfl (fun _=>rfl) ?_;rintro⟨i,hi⟩;dsimp only[aP,aQ]at hi|-
 have hd:=td (N:=1099511627776) (xh (q.take i)) fun p hp=>by
  obtain⟨p',hp',rfl⟩:=jf.1 hp;rw[aX];exact na (hq p' (jg hp'))
 apply vn (aZ BZ (aX _));refine uS az ?_ ?_<;>intro h3
 .obtain⟨p,hp⟩:∃p,q[i]?=some p:=⟨_,bU O⟩
  have hpl:=hq p (cj hp);have he:xh (q.take (i+1))=xh (q.take i)++[p.map RQ.q]:=by rw[nm,hp];simp[xh]
  have hm:aj (xh (q.take (i+1)))=max (aj (xh (q.take i))) (eE XN p-1):=by rw[he,CZ,<-cx9]
  apply vn (aY BZ hp);apply vn (bI zp);apply aA (Pe p hpl);refine uS fL ?_ ?_<;>intro h8
  .apply vn (aY BZ hp);apply vn (bI zp);dsimp only[aP,aQ];apply aA (Pe p hpl);apply vn aC;dsimp only[aP,aQ];exact aa rfl ⟨⟨i+1,O⟩,aR.of_eq (by dsimp only;rw[hm,show max (aj (xh (q.take i))) (eE XN p-1)=eE XN p-1 by omega,show((eE XN p-1:Nat):Int)=(eE XN p:Int)-1 by omega];rfl),by show q.length-(i+1)<q.length-i;omega⟩
  apply vn aC;dsimp only[aP,aQ];exact aa rfl ⟨⟨i+1,O⟩,aR.of_eq (by dsimp only;rw[hm,show max (aj (xh (q.take i))) (eE XN p-1)=aj (xh (q.take i)) by omega];rfl),by show q.length-(i+1)<q.length-i;omega⟩
 rw[show i=q.length by omega,eW]at hd|-;apply vn (aZ BZ (aX _));apply vn aL;apply vn aC;exact aN
def an8{x:Rat}{n:Nat}(h:n%2=0):x^(n/2)*x^(n/2)=x^n:=by rw[<-qM,show n/2+n/2=n by omega]
def aU8{x:Rat}{n:Nat}(h:n%2=1):x^(n/2)*x^(n/2)*x=x^n:=by
 rw[<-qM,<-bE,show n/2+n/2+1=n by omega]
def ak2(x:RQ)(n B:Nat)(hn:n<4611686018427387904)(hB:B<=1073741824)(hx1:Fit B x.q)(hf:∀j,j<=n->Fit B (x.q^j))(ih:0<n->aK prog 126 [oU x,.one (.int .i64 (n/2:Nat))] (.ret [oU (.of (x.q^(n/2)))])):aK prog 126 [(oU x:aF),(.one (.int .i64 n):aF)] (.ret [oU (.of (x.q^n))]):=by
 refine dB func126 aU5 ?_;refine uS bA ?_ ?_<;>intro h1
 .apply aA (nN 1);dsimp only[aP,aQ];rw[show n=0 by omega,bQ];exact aN
 apply vn kW;dsimp only[aP,aQ];rw[show(n:Int)/2=((n/2:Nat):Int) by omega];apply aA (ih O);apply aA (ud (.of (x.q^(n/2))) (.of (x.q^(n/2))) B B (hf _ O) (hf _ O));rw[show(RQ.of (x.q^(n/2))).q*(RQ.of (x.q^(n/2))).q=x.q^(n/2)*x.q^(n/2)from rfl];apply vn gR;refine uS bA ?_ ?_<;>intro h9
 .have hev:x.q^(n/2)*x.q^(n/2)=x.q^(n/2+n/2):=(qM _ _ _).symm;apply aA (ud (.of (x.q^(n/2)*x.q^(n/2))) x B B (by rw[RQ.aJ2,hev];exact hf _ O) hx1) rfl;rw[show(RQ.of (x.q^(n/2)*x.q^(n/2))).q*x.q=x.q^n from aU8 O];exact aN
 rw[an8 O];exact aN
def wQ(x:RQ)(B:Nat)(hB:B<=1073741824)(hx1:Fit B x.q):∀n:Nat,n<4611686018427387904->(∀j,j<=n->Fit B (x.q^j))->aK prog 126 [oU x,.one (.int .i64 n)] (.ret [oU (.of (x.q^n))]):=by
 intro n
 induction n using Nat.strongRecOn with
 | _ n ih=>
 intro hn hf;have key:=ak2 x n B hn hB hx1 hf (fun h0=>ih (n/2) (uX h0 O) O (fun j hj=>hf j O));exact key
def bb9:Tr:=dK 32 4 49 48 (ot 60 33 4 49 49 (UE 17 18 0 19 0 20 0 21 51 52 (nE 104 34 34 1 34 2 34 3 35 50 53 (nE 48 22 23 0 24 0 25 0 36 42 54 (bX 21 1 3 40 (Ka 1 38 37 37 1 37 2 37 3))))))
def bb4:Tr:=yF 50 68 4 117 2 49 (ez 4 0 42 0 3 119 120 (UE 69 69 1 69 2 69 3 70 118 121 (nE 102 66 66 1 66 2 66 3 71 113 122 (nE 48 49 50 0 51 0 52 0 72 97 123 (bX 48 1 3 88 (Ka 2 74 73 73 1 73 2 73 3))))))
def aX8:Tr:=ot 60 61 4 104 49 (dh 4 0 48 0 3 107 108 (ez 63 0 42 0 3 109 110 (UE 17 18 0 19 0 20 0 64 106 111 (eO 104 [G4 62,G4 65] [some 4] [105,112] [49,49] 49 false (ez 36 0 4 0 3 114 115 (bX 67 1 3 116 bb4))))))
def bd1:Tr:=yF 50 69 4 117 2 49 (ez 4 0 42 0 3 119 120 (UE 70 70 1 70 2 70 3 71 118 121 (nE 102 67 67 1 67 2 67 3 72 113 122 (nE 48 49 50 0 51 0 52 0 73 97 123 (bX 48 1 3 88 (Ka 2 75 74 74 1 74 2 74 3))))))
def be1:Tr:=ot 60 62 4 104 49 (dh 4 0 48 0 3 107 108 (ez 64 0 42 0 3 109 110 (UE 17 18 0 19 0 20 0 65 106 111 (eO 104 [G4 63,G4 66] [some 4] [105,112] [49,49] 49 false (ez 36 0 4 0 3 114 115 (bX 68 1 3 116 bd1))))))
def bo9:Tr:=aJ 57 0 (jL 2 0 42 0 44 98 99 (cq 58 167 100 (jL 59 0 48 0 167 101 102 (dK 60 4 49 103 aX8)))) (ia 48 0 0 3 94 (aJ 58 0 (jL 2 0 42 0 44 98 99 (cq 59 167 100 (jL 60 0 48 0 167 101 102 (dK 61 4 49 103 be1)))) (bX 48 1 3 88 (Ka 2 59 49 50 0 51 0 52 0))))
def bp5:Tr:=jL 2 0 42 0 44 82 83 (cq 53 167 84 (bD 54 0 85 167 (dW 48 55 0 3 81 86 4 (aJ 56 0 (dW 42 4 0 3 90 91 4 bo9) (bX 42 1 3 79 (Ka 1 57 49 50 0 51 0 52 0))))))
def bh8:Tr:=yH .leq 3 76 77 42 0 4 0 4 (aJ 47 0 (.loop 2 [lK 0,lV 43 0,lV 44 0,lV 45 0,lV 46 0] bp5) (eO 47 [.agg [U 43 0,U 44 0,U 45 0,U 46 0],G4 9] [none] [125,126] [49,49] 3 true (ju 48 0 0 3 127 (aJ 49 0 (.ret [.agg [U 17 0,U 18 0,U 19 0,U 20 0],W 36 0]) (Yl 36 3 74 (.back 0 [lV 35 0,lV 50 0,lV 37 0,lV 38 0,lV 39 0,lV 40 0]))))))
def YV:Tr:=.ret [.agg [tE (.int .i64 0),tN,tE (.int .i64 0),tN],WK 0]
def be6:Tr:=aJ 32 0 (Dt 127 2 68 44 3 (dh 33 0 4 0 3 69 70 (.loop 0 [lV 11 0,lV 34 0,lV 13 0,lV 14 0,lV 15 0,lV 16 0] (ju 36 0 4096 3 72 (aJ 41 0 (.loop 1 [lK 0,lK 0,lN,lK 0,lN] bh8) YV))))) (gd 12 0 62 3 62 (aJ 33 0 YV (.need (.call 79 [WK 1,WK 2] [some 4]) (D5 79 #[.const (I3 1),.const (I3 2)] #[2,2]) 49 true (nE 104 17 18 0 19 0 20 0 34 65 66 (bX 12 1 3 31 (.back 0 [lV 11 0,lV 36 0,lV 13 0,lV 14 0,lV 15 0,lV 16 0,lV 35 0,lV 35 1,lV 35 2,lV 35 3]))))))
def bh1:Tr:=cq 26 167 36 (bD 27 0 37 167 (dW 21 28 0 3 33 38 4 (aJ 29 0 (jL 2 0 4 0 44 43 44 (cq 30 167 45 (jL 31 0 21 0 167 46 47 bb9))) (eO 48 [.agg [U 22 0,U 23 0,U 24 0,U 25 0],.agg [U 22 0,U 23 0,U 24 0,U 25 0]] [some 4] [56,57] [49,49] 49 false (eO 47 [G4 30,G4 9] [none] [58,59] [49,49] 3 true (ju 31 0 0 3 60 be6))))))
def bF5:Tr:=mr 6 0 0 167 26 (dK 7 4 49 27 (eO 60 [G4 8] [some 4] [28] [49] 49 true (og 50 4 4 2 49 (.loop 0 [lK 0,lK 0,lK 0,lN,lK 0,lN,lV 10 0,lV 10 1,lV 10 2,lV 10 3] (.loop 1 [lK 1,lK 0,lN,lK 0,lN] (jL 2 0 4 0 44 34 35 bh1))))))
def bV6:Tr:=eO 125 [W 0 0,G4 1] [none] [17,18] [44,49] 44 true (bD 2 0 20 44 (iJ 3 1 21 (jL 2 0 4 0 44 23 24 (cq 5 167 25 bF5))))
def aE0:aO prog f43 cT [.v none,.v (some 4)]=bV6:=aT
def Xt:ae 0=((4:Int):Rat):=iN
def aU9(h:Nat):mkRat 1 (2^(h+1))=mkRat 1 (2^h)*mkRat 1 2:=by
 rw[Sz,bF];rfl
def Va:((1:Int):Rat)/((2:Int):Rat)=mkRat 1 2:=iN
def Yv(h:Nat):ae h*(((1:Int):Rat)/((2:Int):Rat))=ae (h+1):=by
 rw[ae,ae,aU9,Va,Rat.mul_assoc]
def bf3{Q:List (List RQ)}{i:Nat}{p:List RQ}(h:Q[i]?=some p):(xh Q).getD i []=p.map RQ.q:=by
 rw[dp,xh,dS,h];rfl
def getD_some{p:List RQ}{k:Nat}{x:RQ}(h:p[k]?=some x):(p.map RQ.q).getD k 0=x.q:=by
 rw[dp,dS,h];rfl
def ao3(p:j1)(k:Nat):(p.drop 1).getD k 0=p.getD (k+1) 0:=by
 rw[dp,kH,dp,iB 1 k]
set_option maxHeartbeats 8000000 in
def aK9(e:List (List RQ))(c:RQ)(F:Nat)(hmild:∀p∈e,VH F p [c,.of ((1:Int):Rat)]/\p.length<=1048576)(hF64:64<=F)(Q:List (List RQ))(hQ:shR e c=Q)(q:j0)(hq:xh Q=q)(m:Nat)(p0:List RQ)(l:RQ)(hp0:Q[m]?=some p0)(hl0:p0[0]?=some l)(B L h0 i0:Nat)(C:Vn B q m l.q L h0 (m+aj q+m) i0)(hql:q.length=m+1)(h64:64<=B)(hh:h0<=63)(hlow:∀h,h<h0->¬oS q m l.q h)(hs:h0<=62->oS q m l.q h0)(hst:h0<=62->∀i,i<i0->(m+aj q+m)*2^i<=4096/\¬gP q m l.q (ae h0) ((m+aj q+m)*2^i))(hsi:h0<=62->4096<(m+aj q+m)*2^i0\/gP q m l.q (ae h0) ((m+aj q+m)*2^i0))(hi13:i0<=13)(hF:F<=100000000:=by omega)(hm:m<=64:=by omega)(hL:L<=1048576:=by omega)(hB:B<=100000000:=by omega):aK prog 43 [(.one (eR e):aF),(oU c:aF)] (if h0=63\/4096<(m+aj q+m)*2^i0 then .ret [oU .nil,.one (.int .i64 0)]else .ret [oU (.of (ae h0)),.one (.int .i64 (((m+aj q+m)*2^i0:Nat):Int))]):=by
 refine dB func43 aE0 ?_
 have hel:e.length=m+1:=by
  have h1:(shR e c).length=e.length:=by rw[shR,aX]
  have h2:(xh Q).length=Q.length:=Zp Q;rw[hQ]at h1;rw[hq]at h2;omega
 have hQl:Q.length=m+1:=by
  have h2:(xh Q).length=Q.length:=Zp Q;rw[hq]at h2;omega
 have hqi:∀{i p},Q[i]?=some p->q.getD i []=p.map RQ.q:=fun h=>by rw[<-hq];exact bf3 h
 have hqf:∀{i:Nat}{p:List RQ},Q[i]?=some p->p.length<=L/\∀x∈p,Fit B x.q:=fun {i p} h=>by
  have hmem:p.map RQ.q∈q:=by rw[<-hq,xh];exact FV (cj h)
  obtain⟨h1,h2⟩:=C.fq _ hmem;rw[aX]at h1;exact⟨h1,fun x hx=>h2 _ (FV hx)⟩
 obtain⟨hpl,hfp⟩:=hqf hp0;have hg0:=hqi hp0;have hlen1:1<=p0.length:=by have:=(fK.1 hl0).1;omega
 have hfs:=C.fs;have hfl:=lQ C.flead;rw[hg0]at hfs;have hokr:∀h,oS q m l.q h↔jR ((p0.map RQ.q).drop 1) (ae h) (p0.length-1)+jR ((p0.map RQ.q).drop 1) (ae h) (p0.length-1)<=l.q.abs:=fun h=>by rw[oS,hg0,aX]
 have hlow:∀h,h<h0->¬jR ((p0.map RQ.q).drop 1) (ae h) (p0.length-1)+jR ((p0.map RQ.q).drop 1) (ae h) (p0.length-1)<=l.q.abs:=fun h hh=>by rw[<-hokr];exact hlow h hh
 have hs:=fun hx=>(hokr h0).1 (hs hx);have hcall:=aw1 e c F hmild hF hF64;rw[hQ]at hcall;apply aA hcall;dsimp only[aP,aQ];apply vn (aZ BZ (show(Q.map cR).length=m+1 by rw[aX,hQl]));apply vn aL;dsimp only[aP,aQ];rw[show((m+1:Nat):Int)-1=(m:Int) by omega];apply vn (aY BZ hp0 (bV m));apply vn (bI zp);dsimp only[aP,aQ];apply vn (aY iy hl0 (show(0:Int).toNat=0 from rfl));apply vn (ay Iz dO bY (.inl rfl));apply aA (BF l);apply aA (nN 4);rw[<-Xt];refine bC {h:Nat // h<=h0/\h<=62} (fun g=>([.one (.int .i64 0),.one (.int .i64 g.1),.one (.int .i64 0),.one (.exact (.slice none 0 0)),.one (.int .i64 0),.one (.exact (.slice none 0 0))]:List aF)++(rC (.of (ae g.1))).map aF.one) (fun g=>h0-g.1) ⟨0,cG _,cG _⟩ aR.rfl (fun _=>rfl) ?_;rintro⟨h,hh0,hh2⟩;dsimp only[aP,aQ,List.map]at hh0 hh2|-;refine bC {g:Nat×RQ // g.1+1<=p0.length/\g.2.q=jR ((p0.map RQ.q).drop 1) (ae h) g.1} (fun g=>(.one (.int .i64 ((g.1.1+1:Nat):Int)):aF)::(rC g.1.2).map .one) (fun g=>p0.length-g.1.1) ⟨(0,.nil),hlen1,rfl⟩ ⟨aF.Sub.same,AQ.1,AQ.2.1,AQ.2.2.1,AQ.2.2.2.1,trivial⟩ (fun _=>rfl) ?_;rintro⟨⟨k,r⟩,hk,hr⟩;dsimp only[aP,aQ,List.map]at hk hr|-;apply vn (aY BZ hp0 (bV m));apply vn (bI zp);apply vn (aZ iy (aX _));refine uS az ?_ ?_<;>intro h15
 .apply vn (aY BZ hp0 (bV m));apply vn (bI zp);dsimp only[aP,aQ];obtain⟨x,hx⟩:∃x,p0[k+1]?=some x:=⟨_,bU O⟩
  have hfx:=hfp x (cj hx);have hfr:Fit B r.q:=by rw[hr];exact hfs h hh0 hh2 k O
  apply vn (aY iy hx (bV (k+1)));apply vn (ay Iz dO bY (.inl rfl));apply aA (BF x);apply aA (wQ (.of (ae h)) B O (by have:=C.frho h hh0 hh2 1 O;rwa[bE,bQ,kZ]at this) (k+1) O (fun j hj=>C.frho h hh0 hh2 j O)) rfl;apply aA (ud (.of x.q.abs) (.of ((RQ.of (ae h)).q^(k+1))) B B (lQ hfx) (C.frho h hh0 hh2 (k+1) O));apply aA (wG r _ B (B+B) hfr ((lQ hfx).mul (C.frho h hh0 hh2 (k+1) O)));apply vn aC
  exact aa rfl ⟨⟨(k+1,.of (r.q+x.q.abs*ae h^(k+1))),by dsimp only;omega,by
   show r.q+x.q.abs*ae h^(k+1)=_;dsimp only;rw[jR,hr,ao3,getD_some hx]⟩,aR.of_eq rfl,by show p0.length-(k+1)<p0.length-k;omega⟩
 have hkl:p0.length-1=k:=O
 rw[hkl]at hlow hs;have hfr:Fit B r.q:=by rw[hr];exact hfs h hh0 hh2 k O
 apply aA (wG r r B B hfr hfr);apply aA (PQ _ (.of l.q.abs) (B+B+1) B (hfr.add hfr) hfl);rw[show mF (RQ.of (r.q+r.q)).q (RQ.of l.q.abs).q=mF (jR ((p0.map RQ.q).drop 1) (ae h) k+jR ((p0.map RQ.q).drop 1) (ae h) k) l.q.abs by rw[<-hr];rfl];refine uS iQ ?_ ?_<;>intro h29
 .have hle:=ic.1 h29
  have hheq:h=h0:=by
   rcases bG h h0 with hl | hl
   .exact(hlow h hl hle).elim
   .omega
  subst hheq;replace hs:=hs hh2;replace hst:=hst hh2;replace hsi:=hsi hh2
  have hQs:∀p∈Q,p.length<1099511627776:=fun p hp=>by
   obtain⟨i,hi⟩:=xO hp;have:=(hqf hi).1;omega
  have hdm:=td (N:=1048576) q (fun p hp=>an (C.fq p hp).1 hL);have hsz:=bu6 Q hQs;rw[hq,hQl]at hsz;apply aA hsz;apply vn aC;rw[show((m+1:Nat):Int)-1+(aj q:Nat)+(m:Int)=((m+aj q+m:Nat):Int) by omega];dsimp only[aP,aQ];generalize hse:m+aj q+m=s at *;refine bC {i:Nat // i<=i0} (fun g=>[.one (.int .i64 0),.one (.int .i64 ((s*2^g.1:Nat):Int)),.one (.int .i64 0),.one (.exact (.slice none 0 0)),.one (.int .i64 0),.one (.exact (.slice none 0 0))]) (fun g=>i0-g.1) ⟨0,cG _⟩ (aR.of_eq (by rw[jt,dc];rfl)) (fun _=>rfl) ?_;rintro⟨i,hi⟩;dsimp only[aP,aQ,List.map]at hi|-;have hpw:s*2^i<=s*2^13:=cd _ (cB O O);have hs13:s<=1048704:=O
  have hsm:m<=s*2^i:=by
   have h1:1<=2^i:=aw O;have h2:s*1<=s*2^i:=cd _ h1;omega
  obtain⟨z,hz⟩:∃z,s*2^i=z:=⟨_,rfl⟩
  rw[hz]at hpw hsm|-;refine uS iQ ?_ ?_<;>intro h34
  .have hz4:z<=4096:=O
   have hfm:=C.fm i hi O;have hfo:=C.fo i hi O;rw[hz]at hfm hfo;have hN0:(((z:Int)-m+1:Int):Rat)≠0:=zne O;refine bC {g:Nat×RQ // g.1<=m+1/\g.2.q=bO q m (ae h) (((z:Int)-m+1:Int):Rat) g.1} (fun g=>(.one (.int .i64 g.1.1):aF)::(rC g.1.2).map .one) (fun g=>m+1-g.1.1) ⟨(0,.nil),cG _,rfl⟩ ⟨aF.Sub.same,AQ.1,AQ.2.1,AQ.2.2.1,AQ.2.2.2.1,trivial⟩ (fun _=>rfl) ?_;rintro⟨⟨a,r1⟩,ha,hr1⟩;dsimp only[aP,aQ,List.map]at ha hr1|-;refine uS iQ ?_ ?_<;>intro h37
   .obtain⟨p,hpa⟩:∃p,Q[a]?=some p:=⟨_,bU O⟩
    have hga:=hqi hpa;obtain⟨hpal,hpaf⟩:=hqf hpa;have hfx:=fun k=>hfm.fx a k O;rw[hga]at hfx;refine bC {g:Nat×RQ // g.1<=p.length/\g.2.q=je (p.map RQ.q) m a (ae h) (((z:Int)-m+1:Int):Rat) (bO q m (ae h) (((z:Int)-m+1:Int):Rat) a) g.1} (fun g=>(.one (.int .i64 g.1.1):aF)::(rC g.1.2).map .one) (fun g=>p.length-g.1.1) ⟨(0,r1),cG _,hr1⟩ aR.rfl (fun _=>rfl) ?_;rintro⟨⟨k,r2⟩,hk2,hr2⟩;dsimp only[aP,aQ,List.map]at hk2 hr2|-;apply vn (aY BZ hpa (bV a));apply vn (bI zp);apply vn (aZ iy (aX _));refine uS az ?_ ?_<;>intro h43
    .obtain⟨x,hx⟩:∃x,p[k]?=some x:=⟨_,bU O⟩
     have hfc:=lQ (hpaf x (cj hx));have hfr2:Fit B r2.q:=by rw[hr2];exact hfx k (by rw[aX];omega)
     have hrp:=hfm.frho (m+k-a) O;have hNp:=hfm.fN (m-a) O;have e1:(m:Int)+(k:Int)-(a:Int)=((m+k-a:Nat):Int):=O
     have e2:(m:Int)-(a:Int)=((m-a:Nat):Int):=O
     refine uS az ?_ ?_<;>intro h45
     .apply vn (aY BZ hpa (bV a));apply vn (bI zp);apply vn (aY iy hx (bV k));dsimp only[aP,aQ];apply vn (ay Iz dO bY (.inl rfl));apply aA (BF x);apply vn aC;apply vn aL;rw[e1];apply aA (wQ (.of (ae h)) B O (by have:=C.frho h hh0 hh2 1 O;rwa[bE,bQ,kZ]at this) (m+k-a) O (fun j hj=>hfm.frho j O)) rfl;apply aA (ud (.of x.q.abs) (.of ((RQ.of (ae h)).q^(m+k-a))) B B hfc hrp);apply vn aL;apply vn aC;dsimp only[aP,aQ];apply aA (nN ((z:Int)-m+1));apply vn aL;rw[e2];apply aA (wQ (.of (((z:Int)-m+1:Int):Rat)) B O (by have:=(Fit.int (n:=(z:Int)-m+1) (B:=64) O O);exact this.mono h64) (m-a) O (fun j hj=>hfm.fN j O)) rfl;apply aA (av9 (.of (x.q.abs*ae h^(m+k-a))) (.of ((((z:Int)-m+1:Int):Rat)^(m-a))) (B+B) B (xe hN0 _) (hfc.mul hrp) hNp);apply aA (wG r2 _ B (B+B+B) hfr2 ((hfc.mul hrp).div hNp));apply vn aC
      exact aa rfl ⟨⟨(k+1,_),by dsimp only;omega,by
       show r2.q+x.q.abs*ae h^(m+k-a)/_=_;dsimp only;rw[je,aI (.inl O),hr2,getD_some hx];rfl⟩,aR.rfl,by show p.length-(k+1)<p.length-k;omega⟩
     refine uS fL ?_ ?_<;>intro h65
     .apply vn (aY BZ hpa (bV a));apply vn (bI zp);apply vn (aY iy hx (bV k));apply vn (ay Iz dO bY (.inl rfl));apply aA (BF x);apply vn aC;apply vn aL;rw[e1];dsimp only[aP,aQ];apply aA (wQ (.of (ae h)) B O (by have:=C.frho h hh0 hh2 1 O;rwa[bE,bQ,kZ]at this) (m+k-a) O (fun j hj=>hfm.frho j O)) rfl;apply aA (ud (.of x.q.abs) (.of ((RQ.of (ae h)).q^(m+k-a))) B B hfc hrp);apply vn aL;apply vn aC;apply aA (nN ((z:Int)-m+1));apply vn aL;rw[e2];apply aA (wQ (.of (((z:Int)-m+1:Int):Rat)) B O (by have:=(Fit.int (n:=(z:Int)-m+1) (B:=64) O O);exact this.mono h64) (m-a) O (fun j hj=>hfm.fN j O)) rfl;apply aA (av9 (.of (x.q.abs*ae h^(m+k-a))) (.of ((((z:Int)-m+1:Int):Rat)^(m-a))) (B+B) B (xe hN0 _) (hfc.mul hrp) hNp);dsimp only[aP,aQ];apply aA (wG r2 _ B (B+B+B) hfr2 ((hfc.mul hrp).div hNp));apply vn aC
      exact aa rfl ⟨⟨(k+1,_),by dsimp only;omega,by
       show r2.q+x.q.abs*ae h^(m+k-a)/_=_;dsimp only;rw[je,aI (.inr O),hr2,getD_some hx];rfl⟩,aR.rfl,by show p.length-(k+1)<p.length-k;omega⟩
     apply vn aC
     exact aa rfl ⟨⟨(k+1,r2),by dsimp only;omega,by
      dsimp only;rw[je,aD O];exact hr2⟩,aR.rfl,by show p.length-(k+1)<p.length-k;omega⟩
    apply vn aC
    exact aa rfl ⟨⟨(a+1,r2),by dsimp only;omega,by
     dsimp only;rw[bO,hga,aX,show p.length=k by omega];exact hr2⟩,aR.rfl,by show m+1-(a+1)<m+1-a;omega⟩
   have haq:q.length=a:=O
   rw[haq]at hfo;apply aA (PQ r1 (.of l.q.abs) B B (by rw[hr1];exact hfo) hfl) rfl;rw[show mF r1.q (RQ.of l.q.abs).q=mF (bO q m (ae h) (((z:Int)-m+1:Int):Rat) q.length) l.q.abs by rw[hr1,haq];rfl];refine uS iQ ?_ ?_<;>intro h90
   .have hle2:=ic.1 h90
    have hieq:i=i0:=by
     rcases bG i i0 with hl | hl
     .exact((hst i hl).2 (by rw[gP,hz];exact hle2)).elim
     .omega
    subst hieq;rw[aD O,hz];exact aN
   have hilt:i<i0:=by
    rcases bG i i0 with hl | hl
    .exact hl
    .exfalso
     obtain rfl:i=i0:=O
     rw[gP,hz]at hsi;exact h90 (ic.2 (hsi.resolve_left O))
   apply vn pb
   exact aa rfl ⟨⟨i+1,O⟩,aR.of_eq (by
    dsimp only;rw[bF,<-dC,hz,show((z*2:Nat):Int)=2*(z:Int) by omega];rfl),by show i0-(i+1)<i0-i;omega⟩
  have hie:i=i0:=by
   rcases bG i i0 with hl | hl
   .have:=(hst i hl).1;omega
   .omega
  subst hie;rw[aI (.inr O)];exact eD ⟨AQ,aF.Sub.same,trivial⟩
 have hhlt:h<h0:=by
  rcases bG h h0 with hl | hl
  .exact hl
  .exfalso
   obtain rfl:h=h0:=O
   exact h29 (ic.2 (hs hh2))
 refine uS bA ?_ ?_<;>intro h96
 .rw[aI (.inl O)];exact eD ⟨AQ,aF.Sub.same,trivial⟩
 apply aA (aF7 1 2);apply aA (ud (.of (ae h)) (.of (((1:Int):Rat)/((2:Int):Rat))) B 64 (by have:=C.frho h hh0 hh2 1 O;rwa[bE,bQ,kZ]at this) (by rw[RQ.aJ2,Va];decide)) rfl;rw[show(RQ.of (ae h)).q*(RQ.of (((1:Int):Rat)/((2:Int):Rat))).q=ae (h+1)from Yv h];apply vn aC;dsimp only[aP,aQ];exact aa rfl ⟨⟨h+1,O,O⟩,aR.rfl,by show h0-(h+1)<h0-h;omega⟩
end Go.Sy
