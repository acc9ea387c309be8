/- Part. -/
import Derived.Test.YtdmcadckdnnglaaGreatDoorWb
set_option linter.all false
namespace Go.Sy
open Go Go.Proofs Tryz Ord
def oo(p:j7):Nat->Nat->Nat
 | h,0=>h
 | h,n+1=>if p h then h else oo p (h+1) n
theorem lS(p:j7):∀n h,h<=oo p h n/\oo p h n<=h+n/\(∀k,h<=k->k<oo p h n->p k=false)/\(oo p h n<h+n->p (oo p h n)=true)
 | 0,h=>⟨ah _,ah _,fun k h1 h2=>by simp only[oo]at h2;omega,fun h2=>by simp only[oo]at h2;omega⟩
 | n+1,h=>by
   rw[oo];split
   .rename_i hp;exact⟨ah _,O,fun k h1 h2=>O,fun _=>hp⟩
   .rename_i hp;obtain⟨h1,h2,h3,h4⟩:=lS p n (h+1);refine⟨O,O,fun k hk1 hk2=>?_,fun hk=>h4 O⟩;rcases bG h k with hlt | hge
    .exact h3 k hlt hk2
    .rw[show k=h by omega];simpa using hp
def Wb(q:j0)(m:Nat)(lead:Rat):Nat:=oo (fun h=>decide (oS q m lead h)) 0 63
def ZJ(q:j0)(m:Nat):Nat:=m+aj q+m
def iOf(q:j0)(m:Nat)(lead aB:Rat):Nat:=oo (fun i=>decide (4096<ZJ q m*2^i\/gP q m lead aB (ZJ q m*2^i))) 0 13
def bp(q:j0)(m:Nat)(lead:Rat):Option (Rat×Nat):=
 if Wb q m lead=63\/4096<ZJ q m*2^iOf q m lead (ae (Wb q m lead))then none else some (ae (Wb q m lead),ZJ q m*2^iOf q m lead (ae (Wb q m lead)))
def TV{q:j0}{m:Nat}{lead:Rat}(hm:1<=m):Wb q m lead<=63/\(∀h,h<Wb q m lead->¬oS q m lead h)/\(Wb q m lead<=62->oS q m lead (Wb q m lead)) /\
  iOf q m lead (ae (Wb q m lead))<=13/\(∀i,i<iOf q m lead (ae (Wb q m lead))->ZJ q m*2^i<=4096/\¬gP q m lead (ae (Wb q m lead)) (ZJ q m*2^i)) /\
  (4096<ZJ q m*2^iOf q m lead (ae (Wb q m lead))\/gP q m lead (ae (Wb q m lead)) (ZJ q m*2^iOf q m lead (ae (Wb q m lead)))):=by
 obtain⟨_,h2,h3,h4⟩:=lS (fun h=>decide (oS q m lead h)) 63 0;have e1:oo (fun h=>decide (oS q m lead h)) 0 63=Wb q m lead:=rfl;rw[e1]at h2 h3 h4;generalize Wb q m lead=hh at *;obtain⟨_,k2,k3,k4⟩:=lS (fun i=>decide (4096<ZJ q m*2^i\/gP q m lead (ae hh) (ZJ q m*2^i))) 13 0;have e2:oo (fun i=>decide (4096<ZJ q m*2^i\/gP q m lead (ae hh) (ZJ q m*2^i))) 0 13=iOf q m lead (ae hh):=rfl;rw[e2]at k2 k3 k4;generalize iOf q m lead (ae hh)=ii at *;refine⟨O,fun h hlt=>kh (h3 h (cG _) hlt),fun hlt=>gi (h4 O),O,fun i hi=>?_,?_⟩
 .have:=kh (k3 i (cG _) hi);exact⟨O,fun h=>this (.inr h)⟩
 .rcases bG ii 13 with h | h
  .exact gi (k4 O)
  .left
   rw[show ii=13 by omega];have:2<=ZJ q m:=by unfold ZJ;omega
   omega
def wL{q:j0}{m:Nat}{lead:Rat}(hm:1<=m:=by omega):∃hh ii,bp q m lead=(if hh=63\/4096<(m+aj q+m)*2^ii then none else some (ae hh,(m+aj q+m)*2^ii))/\hh<=63/\(∀h,h<hh->¬oS q m lead h)/\(hh<=62->oS q m lead hh) /\
  ii<=13/\(∀i,i<ii->(m+aj q+m)*2^i<=4096/\¬gP q m lead (ae hh) ((m+aj q+m)*2^i))/\(4096<(m+aj q+m)*2^ii\/gP q m lead (ae hh) ((m+aj q+m)*2^ii)):=
 ⟨_,_,rfl,TV hm⟩
def _root_.Ord.Bd.abs{D S:Nat}{q:Rat}(h:Bd D S q):Bd D S q.abs:=by
 obtain⟨h1,h2⟩:=ov q;exact⟨by rw[h2];exact h.1,by rw[h1,h2];simpa using h.2⟩
def so:Nat:=2^63
def ag6:so≠0:=by unfold so;decide
def JG:0<so:=iR ag6
def tP{h:Nat}(hh:h<=63):Bd so 4 (ae h):=by
 unfold so;have h1:Bd (2^h) 1 (mkRat 1 (2^h)):=Bd.mk (gL.1 (aw O)) (by have:=aw (a:=2) (n:=h) O;simp;omega);have h2:=(Bd.int (D:=1) (n:=4) (S:=4) O).mul O dO (h1.mono (Az 2 hh) (ah _));exact h2.mono bY O
def vg(h:Nat):ae h≠0:=by
 intro e;rcases nk.1 e with e | e
 .exact absurd e iN
 .rw[Rat.mkRat_eq_zero (gL.1 (aw O))]at e;omega
def Fc{x:Rat}(h:Bd so 4 x){j n:Nat}(hj:j<=n:=by omega):Bd (so^n) (4^n) (x^j):=
 (Bd.pow ag6 h j).mono (Az _ hj) (cB O hj)
def Ve(n:Nat):so^n≠0:=gL.1 (aw JG)
section
variable{D S L:Nat}{aB:Rat}
theorem ac9{r:j1}(h0:D≠0)(hr:∀a∈r,Bd D S a)(ho:Bd so 4 aB):∀k,k<=L->Bd (D*so^L) (k*(S*4^L)) (jR r aB k)
 | 0,_=>Bd.zero
 | k+1,hk=>by
   rw[jR,ba,cZ];refine(ac9 h0 hr ho k O).add (da h0 (Ve _)) ?_;exact(lI hr k).abs.mul h0 (Ve _) (Fc ho hk)
theorem Rc(z:Int):∀j:Nat,((z:Rat))^j=((z^j:Int):Rat)
 | 0=>by rw[bQ,Int.pow_zero];rfl
 | j+1=>by rw[bE,Int.pow_succ,Rc z j,uj]
def Ca{p:j1}{m i N:Nat}{z:Int}{x:Rat}{U:Nat}(h0:D≠0)(hp:∀a∈p,Bd D S a)(ho:Bd so 4 aB)(hz:z=(N:Int))(hN:1<=N)(hm:m<=4)(hx:Bd (D*so^(L+4)*N^4) U x) :
  ∀k,k<=L->Bd (D*so^(L+4)*N^4) (U+k*(S*4^(L+4))) (je p m i aB (z:Rat) x k)
 | 0,_=>by rw[je,nV,cu];exact hx
 | k+1,hk=>by
   have ih:=Ca (i:=i) h0 hp ho hz hN hm hx k O;rw[je,ba k 1,cZ,<-jF];have hNz:N^4≠0:=gL.1 (aw hN);have hD:=da h0 (Ve (L+4));split
   .refine ih.add (da hD hNz) ?_;have h1:=(lI hp k).abs.mul h0 (Ve _) (Fc ho (j:=m+k-i) (n:=L+4));have hpw:(z:Rat)^(m-i)=((z^(m-i):Int):Rat):=Rc z _;have hzn:z^(m-i)≠0:=Int.pow_ne_zero O;have h2:=h1.div hD (E:=1) O (Bd.int (ah _)) (am4 hzn);rw[jB,dc,<-hpw]at h2;refine h2.mono (Nat.mul_dvd_mul (pJ _) ?_) (ah _);rw[hz,Int.natAbs_pow,cH];exact Az N O
   .exact ih.le (uu _ _)
def yr{q:j0}{m N:Nat}{z:Int}(h0:D≠0)(hq:∀p∈q,p.length<=L/\∀a∈p,Bd D S a)(ho:Bd so 4 aB)(hz:z=(N:Int))(hN:1<=N)(hm:m<=4) :
  ∀i,Bd (D*so^(L+4)*N^4) (i*(L*(S*4^(L+4)))) (bO q m aB (z:Rat) i)
 | 0=>Bd.zero
 | i+1=>by
   have hp:(q.getD i []).length<=L/\∀b∈q.getD i [],Bd D S b:=by
    rw[dp];cases h:q[i]? with
    | none=>exact⟨cG _,fun b hb=>by cases hb⟩
    | some p=>exact hq p (cj h)
   rw[bO,ba i 1,cZ];exact(Ca h0 hp.2 ho hz hN hm (yr h0 hq ho hz hN hm i) _ hp.1).le (Sc (cg _ hp.1) _)
end
def uR:Nat:=dM*so^105*4097^4
def vR:Nat:=1024*(sM*4^105)
def wR:Nat:=so^215
def xR:Nat:=4^215
def bG6:∃B,128<=B/\B<=1000000/\wR<2^B/\xR*wR<2^B/\uR<2^B/\vR*uR<2^B:=
 ⟨131072,dO,dO,iN,iN,iN,iN⟩
def bK0:dM<=uR:=by unfold uR;rw[dC];exact dn _ (dN (aw JG) dO)
def bz3{X:Rat}(h:kD X):dX X<=uR:=an h.dX bK0
def bA8:sM<=vR:=by unfold vR;exact an (dn _ (aw dO)) (jh _ dO)
def au7{j k:Nat}(hj:j<=1024:=by omega)(hk:k<=105:=by omega):j*(sM*4^k)<=vR:=by unfold vR;exact dE hj (cd _ (cB dO hk))
def bK2{X:Rat}(h:kD X):dX X*so^101<=uR:=by
 refine an (cg _ h.dX) ?_;unfold uR;rw[dC];exact cd _ (an (cB JG dO) (dn _ dO))
def by5{X:Rat}(h:kD X){N:Nat}(h1:1<=N)(h2:N<=4097):dX X*so^(101+4)*N^4≠0/\dX X*so^(101+4)*N^4<=uR:=
 ⟨da (da (zN X) (Ve _)) (gL.1 (aw h1)),by unfold uR;rw[show(101+4:Nat)=105 from rfl];exact dE (cg _ h.dX) (gN h2 4)⟩
def aN1{m s i:Nat}(h1:m<=s)(h2:s*2^i<=4096):∃N:Nat,(((s*2^i:Nat):Int)-m+1)=(N:Int)/\1<=N/\N<=4097:=by
 have h3:1<=2^i:=aw O;have h4:s*1<=s*2^i:=cd _ h3;exact⟨s*2^i-m+1,O,O,O⟩
def ax1{N j:Nat}(h2:N<=4097)(hj:j<=9:=by omega):Fit 128 (((N:Int):Rat)^j):=by
 have hp:((N:Int):Rat)^j=(((N:Int)^j:Int):Rat):=Rc _ j;rw[hp];refine Fit.int dO ?_;rw[Int.natAbs_pow,cH];exact cV (gN h2 j) (cV (cB dO hj) iN)
def TJ{q:j0}{D S L:Nat}(hq:∀p∈q,p.length<=L/\∀b∈p,Bd D S b)(i:Nat):(q.getD i []).length<=L/\∀b∈q.getD i [],Bd D S b:=by
 rw[dp];cases hg:q[i]? with
 | none=>exact⟨cG _,fun b hb=>by cases hb⟩
 | some p=>exact hq p (cj hg)
def IT{E:j0}{ER:List (List RQ)}{X:Rat}{XR:RQ}(h:SmallX E ER X XR){m:Nat}{lead:Rat}(hm:E.length=m+1)(hm4:m<=4)(hl:Bd (dX X) sM lead) :
  ∃B,64<=B/\B<=1000000/\∀h0 s i0,h0<=63->m<=s->Vn B (aV E X) m lead 101 h0 s i0:=by
 obtain⟨B,h128,hB,r1,r2,r3,r4⟩:=bG6;have fit:∀{u v:Nat}{x:Rat},u≠0->Bd u v x->u<=uR->v<=vR->Fit B x:=fun {u v x} hu hx h1 h2=>hx.fit hu (cV h1 r3) (cV (dE h2 h1) r4);have hrp:∀hh,hh<=63->∀j,j<=215->Fit B (ae hh^j):=fun hh hh2 j hj=>(Fc (tP hh2) hj).fit (Ve _) r1 r2;clear r1 r2 r3 r4;have hq:=h.bv3;have hql:(aV E X).length=m+1:=by rw[aV,aX,hm]
 have hfq:∀p∈aV E X,p.length<=101/\∀x∈p,Fit B x:=fun p hp=>⟨(hq p hp).1,fun x hx=>fit (zN X) ((hq p hp).2 x hx) (bz3 h.xb) bA8⟩
 refine⟨B,O,hB,fun h0 s i0 hh63 hms=>⟨fit (zN X) hl (bz3 h.xb) bA8,hfq,fun hh _ hh2 j hj=>hrp hh O j O,fun hh _ hh2 k hk=>?_,fun i _ hi=>?_,fun i _ hi=>?_⟩⟩
 .have hr:∀a∈((aV E X).getD m []).drop 1,Bd (dX X) sM a:=fun a ha=>(TJ hq m).2 a (uA ha);exact fit (da (zN X) (Ve 101)) (ac9 (L:=101) (zN X) hr (tP O) k hk) (bK2 h.xb) (au7)
 .obtain⟨N,hNe,hN1,hN2⟩:=aN1 hms hi;obtain⟨g1,g2⟩:=by5 h.xb hN1 hN2;rw[hNe];refine⟨hfq,fun j hj=>hrp h0 hh63 j O,fun j hj=>(ax1 hN2).mono h128,fun i' k hi' hk=>?_⟩;have hpi:=TJ hq i';have ho:=yr (L:=101) (m:=m) (N:=N) (z:=(N:Int)) (zN X) hq (tP hh63) rfl hN1 hm4 i';have hin:=Ca (L:=101) (i:=i') (z:=(N:Int)) (zN X) hpi.2 (tP hh63) rfl hN1 hm4 ho k O;refine fit g1 hin g2 (an ?_ (au7 (j:=i'*101+101) (k:=101+4)));rw[ba,dC];exact Sc (cg _ O) _
 .obtain⟨N,hNe,hN1,hN2⟩:=aN1 hms hi;obtain⟨g1,g2⟩:=by5 h.xb hN1 hN2;rw[hNe,hql];refine fit g1 (yr (L:=101) (m:=m) (N:=N) (z:=(N:Int)) (zN X) hq (tP hh63) rfl hN1 hm4 (m+1)) g2 (an ?_ (au7 (j:=(m+1)*101) (k:=101+4)));rw[dC];exact ah _
structure jO(E:j0)(X:Rat):Prop where
 ok:DU E=true
 reg:vH E X=true
def jO.facts{E:j0}{X:Rat}(h:jO E X):2<=E.length/\E.length<=5/\aG E X≠0/\fE (E.getD (E.length-1) []) X≠[]:=by
 have:=pv (e:=E) (c:=X) (y:=List.replicate (E.length-1) 0) (by unfold okF;rw[h.ok,h.reg];simp);exact⟨this.1,this.2.1,this.2.2.2.1,this.2.2.2.2⟩
def QB{E:j0}{X:Rat}{Y:j1}(h:okF E X Y=true):jO E X:=by
 unfold okF at h;simp only[bf]at h;exact⟨h.1.1,h.2⟩
section
variable{E:j0}{ER:List (List RQ)}{X:Rat}{XR:RQ}
def SmallX.by9(h:SmallX E ER X XR)(hr:jO E X):Bd (dX X) sM (aG E X):=by
 obtain⟨h2,h5,hld,_⟩:=hr.facts;obtain⟨p,hp,hp0⟩:=uE hld;exact(h.bv3 p (cj hp)).2 _ (cj hp0)
def oM(E:j0)(X:Rat):Out:=match bp (aV E X) (E.length-1) (aG E X)with
 | some (aB,st)=>.ret [.agg (zJ (aV E X) (E.length-1) (aG E X) aB (st:Nat))]
 | none=>.pan (zI 5)
def mM(E:j0)(X:Rat):RQ×Nat:=match bp (aV E X) (E.length-1) (aG E X)with
 | some (aB,st)=>(.of aB,st)
 | none=>(.nil,0)
def BP(h:SmallX E ER X XR)(hr:jO E X):aK prog 100 [.one (eQ E),qT X] (.ret [Cl (aV E X) (E.length-1) (aG E X)]):=by
 obtain⟨B,h64,hB,hR⟩:=bB0;obtain⟨h2,h5,hld,hne⟩:=hr.facts;exact WM (h.room hB (hR _ h.xb.d).1) O O hne
def uT(h:SmallX E ER X XR)(hr:jO E X):aK prog 123 [Cl (aV E X) (E.length-1) (aG E X)] (oM E X):=by
 obtain⟨h2,h5,hld,hne⟩:=hr.facts;obtain⟨m,hm⟩:∃m,E.length-1=m:=⟨_,rfl⟩
 obtain⟨B,h64,hB,hM⟩:=IT h (m:=m) O O (h.by9 hr);obtain⟨hh,ii,hrv,f1,f2,f3,f4,f5,f6⟩:=wL (q:=aV E X) (m:=m) (lead:=aG E X);obtain⟨p,hp,hp0⟩:=uE hld;rw[hm]at hp
 have hd:=OW (aV E X) m (aG E X) B 101 hh ii (hM hh _ ii f1 O) (by rw[aV,aX];omega) O O O h64 f1
  (by rw[dp,hp];exact(fK.1 hp0).1) f2 f3 (fun _=>f5) (fun _=>f6) f4
 unfold oM;rw[hm];generalize bp (aV E X) m (aG E X)=rv at *;clear hM f1 f2 f3 f4 f5 f6;generalize (m+aj (aV E X)+m)*2^ii=st at *;split at hd
 .rename_i hc;rw[aI hc]at hrv;subst hrv;exact hd
 .rename_i hc;rw[aD hc]at hrv;subst hrv;exact hd
def zo(h:SmallX E ER X XR)(hr:jO E X):aK prog 43 [.one (eR ER),oU XR] (.ret [oU (mM E X).1,.one (.int .i64 (mM E X).2)]):=by
 obtain⟨h2,h5,hld,hne⟩:=hr.facts;obtain⟨m,hm⟩:∃m,E.length-1=m:=⟨_,rfl⟩
 obtain⟨B,h64,hB,hM⟩:=IT h (m:=m) O O (h.by9 hr);obtain⟨B1,h641,hB1,hMC⟩:=bB0;obtain⟨hh,ii,hrv,f1,f2,f3,f4,f5,f6⟩:=wL (q:=aV E X) (m:=m) (lead:=aG E X);obtain⟨p,hp,hp0⟩:=uE hld;rw[hm,<-h.sh,xh,dS]at hp;obtain⟨p0,hp1,rfl⟩:=Sl.1 hp;rw[dS]at hp0;obtain⟨l,hl0,hl⟩:=Sl.1 hp0;unfold mM;rw[hm];generalize bp (aV E X) m (aG E X)=rv at *;rw[<-hl]at f2 f3 f5 f6 hM;have hd:=aK9 ER XR B1 (h.BT (hMC _ h.xb.d).2) h641 (shR ER XR) rfl (aV E X) h.sh m p0 l hp1 hl0 B 101 hh ii (hM hh _ ii f1 O) (by rw[aV,aX];omega) h64 f1 f2 f3 (fun _=>f5) (fun _=>f6) f4;clear hM f1 f2 f3 f4 f5 f6;generalize (m+aj (aV E X)+m)*2^ii=st at *;split at hd
 .rename_i hc;rw[aI hc]at hrv;subst hrv;exact hd
 .rename_i hc;rw[aD hc]at hrv;subst hrv;exact hd
end
def aW4{m N D S E T L a b c:Nat}(hq:om m N D S E<=2^a)(hr:fJ m N D S L<=2^b)(hd:D<=2^c)(ht:T<=2^10):Db m N D S E T L<=2^(c+a*N+(10+b*(N+1))):=by
 unfold Db;rw[eH 2 (c+a*N),eH 2 c,kX 2 a N,eH 2 10,kX 2 b];exact dE (dE hd (gN hq N)) (dE ht (gN hr (N+1)))
def bJ1:dM<=2^6600/\∀m,m<5->om m 4096 dM sM (fZ 999)<=2^14000/\fJ m 4096 dM sM 101<=2^7500:=iN
def yx{m N M:Nat}(h:N<=M):ki m N<=ki m M:=gN O m
def XF{m N M D F S E:Nat}(hN:N<=M)(h:D<=F):om m N D S E<=om m M F S E:=by
 unfold om;exact Sa (cd _ (yx hN)) (dE h (dE (cd _ (yx hN)) h))
def WA{m N M D F S L:Nat}(hN:N<=M)(h:D<=F):fJ m N D S L<=fJ m M F S L:=by
 unfold fJ;exact dE (cd _ (cd _ (cd _ (yx hN)))) h
def Zh{X:Rat}(h:kD X){N:Nat}(hN:N<=4096):dX X<=2^6600/\∀m,m<5->om m N (dX X) sM (fZ 999)<=2^14000/\fJ m N (dX X) sM 101<=2^7500:=by
 obtain⟨h1,h2⟩:=bJ1;exact⟨an h.dX h1,fun m hm=>⟨an (XF hN h.dX) (h2 m hm).1,an (WA hN h.dX) (h2 m hm).2⟩⟩
def az5{m N D S E T L a b c B:Nat}(hq:om m N D S E<=2^a)(hr:fJ m N D S L<=2^b)(hd:D<=2^c)(ht:T<=2^10)(hB:c+a*N+(10+b*(N+1))<B):Db m N D S E T L<2^B:=
 cV (aW4 hq hr hd ht) (mZ dO hB)
def bN(N:Nat):Nat:=21500*N+14200
def cd8{X:Rat}(h:kD X){N:Nat}(hN:N<=4096)(m:Nat)(hm:m<5:=by omega):Db m N (dX X) sM (fZ 999) 999 101<2^bN N:=by
 obtain⟨h0,hh⟩:=Zh h hN;obtain⟨h1,h2⟩:=hh m hm;exact az5 h1 h2 h0 dO (by unfold bN;omega)
def ef{q:j0}{m:Nat}{lead aB:Rat}{st:Nat}(h:bp q m lead=some (aB,st))(hm:1<=m:=by omega):∃hh,hh<=62/\aB=ae hh/\st<=4096/\m+aj q+m<=st:=by
 obtain⟨hh,ii,hrv,f1,_,_,_,_,_⟩:=wL (q:=q) (m:=m) (lead:=lead) hm;rw[h]at hrv;split at hrv
 .cases hrv
 .rename_i hc;simp only[aM,cF]at hrv;obtain⟨rfl,rfl⟩:=hrv;have h1:1<=2^ii:=aw O;have h2:(m+aj q+m)*1<=(m+aj q+m)*2^ii:=cd _ h1;generalize (m+aj q+m)*2^ii=st at *;exact⟨hh,O,rfl,O,O⟩
structure vJ(r:Rat):Prop where
 d:r.den<=2^200
 s:r.num.natAbs<=4096*r.den
def vJ.bd{X:Rat}(h:vJ X):Bd X.den 4096 X:=⟨pJ _,h.s⟩
def vJ.fit{X:Rat}(h:vJ X):Fit 220 X:=
 ⟨cV (an h.s (cd _ h.d)) dO,cV h.d dO⟩
def vJ.abs{X:Rat}(h:vJ X):vJ X.abs:=by
 obtain⟨h1,h2⟩:=ov X;exact⟨by rw[h2];exact h.d,by rw[h1,h2,cH];exact h.s⟩
def kD.t{X:Rat}(h:kD X):vJ X:=⟨an h.d dO,an h.s (cg _ O)⟩
def yRn(n:Nat):Nat:=(2^200)^n
def zRn(n:Nat):Nat:=4096^n
def pRn(n:Nat):Nat:=so^n
def sRn(n:Nat):Nat:=4^n
def bT6:yRn 8193<2^2097152/\zRn 8193*yRn 8193<2^2097152/\pRn 8193<2^2097152/\sRn 8193*pRn 8193<2^2097152:=iN
def bn5{hh j n:Nat}(h:hh<=63)(hj:j<=n):Bd (pRn n) (sRn n) (ae hh^j):=by unfold pRn sRn;exact Fc (tP h) hj
def bZ5(n:Nat):pRn n≠0:=by unfold pRn;exact Ve _
def ct3{r:Rat}(hr:vJ r){j n B:Nat}(hj:j<=n)(h1:yRn n<2^B)(h2:zRn n*yRn n<2^B):Fit B (r^j):=by
 have hp:=Bd.pow (lY r) hr.bd j
 have hd:r.den^j<=yRn n:=by
  unfold yRn;exact an (gN hr.d j) (cB (aw O) hj)
 have hz:4096^j<=zRn n:=cB O hj;exact hp.fit (gL.1 (aw r.den_pos)) (cV hd h1) (cV (dE hz hd) h2)
def fI{r:Rat}(hr:vJ r){hh n d B:Nat}(h62:hh<=62)(hn:n<=4096:=by omega)(hd:d<=4:=by omega)(hB:2097152<=B:=by omega):oj B (ae hh) n d r:=by
 obtain⟨r1,r2,r3,r4⟩:=bT6;have e1:∀j,j<=8193->Fit 2097152 (r^j):=fun j hj=>ct3 hr hj r1 r2;have e2:∀j,j<=8193->Fit 2097152 (ae hh^j):=fun j hj=>(bn5 (an h62 dO) hj).fit (bZ5 _) r3 r4;clear r1 r2 r3 r4;refine⟨fun j hj=>?_,fun j hj=>(e1 j O).mono hB,fun j hj=>(e2 j O).mono hB⟩;have hz:=pz (z:=(n:Int)) (N:=4100) j O;have h2:(4100:Nat)^j<=4100^4:=cB O O;have h3:(4100:Nat)^4=282576100000000:=dO
 rw[h3]at h2;exact(iU).mono O
theorem RT{a:j1}{aB:Rat}{B n0 W st:Nat}(haf:∀x∈a,Fit B x)(h1:1<=B)(hrho:∀j,j<=st->Fit B (aB^j))(hw:n0+W<=st):∀k,k<=W->Fit (B+B) (MG a aB n0 k)
 | 0,_=>Fit.zero O
 | k+1,hk=>by
   rw[MG];refine vh (fun x hx=>?_) 2 bY;simp only[ee,jm,jr]at hx;rcases hx with rfl | rfl
   .exact RT haf h1 hrho hw k O
   .exact(lQ (qJ haf _ h1)).mul (hrho _ O)
section
variable{E:j0}{ER:List (List RQ)}{X:Rat}{XR:RQ}
def SmallX.at(h:SmallX E ER X XR){x:Rat}(hx:kD x):SmallX E ER x (.of x):=⟨h.e1,h.e2,h.sim,rfl,h.el,h.eb,h.rb,hx⟩
end
def NK{E:j0}{X:Rat}(h:bp (aV E X) (E.length-1) (aG E X)=none):mM E X=(.nil,0):=by unfold mM;rw[h]
def Np{E:j0}{X aB:Rat}{st:Nat}(h:bp (aV E X) (E.length-1) (aG E X)=some (aB,st)):mM E X=(.of aB,st):=by unfold mM;rw[h]
def aC8:Tr:=yQ 2 3 0 1 2
def cg4:Tr:=yD 64 0 0 1 0 2 1 1 1 1 2 6 8 (lZ 64 0 3 0 4 0 5 1 3 1 4 1 5 11 13 aC8)
def bE5:aO prog f66 cT [.v (some 6),.v (some 6)]=cg4:=aT
def bR7:Tr:=mv 65 0 3 3 39 (yQ 1 0 0 1 2)
def aq4:aO prog f228 cT [.v (some 3)]=bR7:=aT
abbrev cM(a b:Rat):List aE:=qC a++qC b
abbrev kP(a b:Rat):aF:=.agg (cM a b)
abbrev cr0(a b:RQ):List aE:=rC a++rC b
abbrev cK1(a b:RQ):aF:=.agg (cr0 a b)
def wS(a b c d:Rat)(A B:Nat)(ha:Fit A a)(hb:Fit A b)(hc:Fit B c)(hd:Fit B d)(h:A+B<=34359738368:=by omega):aK prog 66 [(kP a b:aF),(kP c d:aF)] (.ret [kP (a+c) (b+d)]):=by
 refine dB func66 bE5 ?_;apply aA (lU a c A B ha hc h);apply aA (lU b d A B hb hd h);exact aN
def xL(r:Rat):aK prog 228 [(qT r:aF)] (.ret [kP (-r) r]):=by
 refine dB func228 aq4 ?_;apply aA (Jm r);exact aN
def bO7:Tr:=yF 256 1 1 6 3 35 (eO 157 [.agg [U 2 0,tE (.bool false)]] [some 3] [8] [37] 39 true (lZ 36 0 0 0 1 0 2 3 0 3 1 3 2 5 9 (iz 4 4 1 4 2)))
def aH4:aO prog f285 cT [.v (some 3),.v none]=bO7:=aT
def ay9:Tr:=iz 3 3 1 3 2
def bO9:Tr:=mv 117 0 1 5 35 (TP 294 0 1 2 4 6 37 (eO 157 [G2 2] [some 3] [7] [37] 39 true ay9))
def az8:aO prog f286 cT [.v (some 3)]=bO9:=aT
def bI8:Tr:=mv 65 0 3 3 39 (Pk 286 1 0 1 2 3 4 39 (Pk 65 2 0 1 2 3 5 39 ay9))
def bf7:aO prog f287 cT [.v (some 3)]=bI8:=aT
def aR6:Tr:=oh 202 1 3 9 3 39 (lZ 36 3 0 3 1 3 2 4 0 4 1 4 2 8 10 (iz 5 5 1 5 2))
def bI4:Tr:=AM 285 0 1 5 6 (mv 286 2 3 7 39 aR6)
def bc7:aO prog f268 cT [.v (some 3),.v none]=bI4:=aT
def cd7:Tr:=AM 285 0 1 5 6 (mv 287 2 3 7 39 aR6)
def cq5:aO prog f269 cT [.v (some 3),.v none]=cd7:=aT
def bM5:Tr:=AM 268 0 1 6 7 (eO 269 [.agg [U 0 3,U 0 4,U 0 5],W 1 0] [some 3] [10,11] [39,3] 39 true aC8)
def bL2:aO prog f229 cT [.v (some 6),.v none]=bM5:=aT
def VZ(q:Rat):Int:=q.num/(q.den:Int)
def nI(k:Nat):Rat:=(((2^k:Nat):Int):Rat)
def oJ(q:Rat)(k:Nat):Rat:=(VZ (q*nI k):Rat)*mkRat 1 (2^k)
def ZA(q:Rat)(k:Nat):Rat:=(((-VZ (-(q*nI k)):Int)):Rat)*mkRat 1 (2^k)
def Fq{q:Rat}{H:Nat}(h:Fit H q)(h1:1<=H:=by omega):Fit H (VZ q:Rat):=Fit.int h1 (cV (Int.natAbs_ediv_le_natAbs _ _) h.1)
set_option exponentiation.threshold 600 in
def qB{k:Nat}(h:k<=256):Fit 257 (nI k):=Fit.int O (by rw[cH];exact mZ O O)
set_option exponentiation.threshold 600 in
def gu{k:Nat}(h:k<=256):Fit 257 (mkRat 1 (2^k)):=Fit.mkRat (Nat.one_lt_two_pow O) (mZ O O) (gL.1 (aw O))
def aS3(k:Int)(hk:k<=256):aK prog 256 [(.one (.int .i64 k):aF)] (.ret [mT (2^k.toNat)]):=by
 refine dB func256 bA1 ?_;apply aA (lP 2);apply aA (TM k 256);rw[show max (0:Int) (min (k:Int) 256)=(k.toNat:Int) by omega];apply aA (aa8 2 k.toNat 2);exact aN
def Ag(k:Int)(hk:k<=256:=by omega):aK prog 202 [(.one (.int .i64 k):aF)] (.ret [qT (mkRat 1 (2^k.toNat))]):=by
 refine dB func202 ax3 ?_;apply aA (Qb 1);apply aA (aS3 k hk)
 apply aA (AY 1 (2^k.toNat) (aw O) (by
  obtain⟨H,hH⟩:∃H,H=257:=⟨_,rfl⟩
  have h1:(dg (2^k.toNat)).length<=H:=jC (mZ O O);have h2:(dg (1:Int).natAbs).length=1:=by rw[show(1:Int).natAbs=1 from rfl,sj];rfl
  omega)) rfl
 exact aN
def Tl(q:Rat)(k:Int)(H:Nat)(hk:k<=256)(hq:Fit H q)(hH:H<=8589934592:=by omega):aK prog 285 [(qT q:aF),(.one (.int .i64 k):aF)] (.ret [qT (q*nI k.toNat)]):=by
 refine dB func285 aH4 ?_;apply aA (aS3 k hk);dsimp only[aP,aQ];have hz:decide (((2^k.toNat:Nat):Int)<0)=false:=ej (xH.2 (Rl _));have hw:=Rz ((2^k.toNat:Nat):Int);rw[show iT ((2^k.toNat:Nat):Int)=.agg [dT (2^k.toNat),.exact (.bool false)]from by rw[show iT ((2^k.toNat:Nat):Int)=.agg [dT (2^k.toNat),.bool (decide (((2^k.toNat:Nat):Int)<0))]from rfl,hz]]at hw;apply aA hw;apply aA (cr q (nI k.toNat) H 257 hq (qB O));exact aN
def UD(q:Rat)(H:Nat)(hq:Fit H q)(hH:H<=8589934592:=by omega):aK prog 286 [(qT q:aF)] (.ret [qT (VZ q:Rat)]):=by
 refine dB func286 az8 ?_;have h1:=SE hq.1;have h2:=SE hq.2;apply aA (iw q);apply aA (aI3 q.num q.den q.den_pos);apply aA (Rz (q.num/(q.den:Int)));exact aN
def ba2(q:Rat)(H:Nat)(hq:Fit H q)(hH:H<=8589934592:=by omega):aK prog 287 [(qT q:aF)] (.ret [qT (((-VZ (-q):Int)):Rat)]):=by
 refine dB func287 bf7 ?_;apply aA (Jm q);apply aA (UD (-q) H hq.neg hH);apply aA (Jm _);rw[show -((VZ (-q):Int):Rat)=((-VZ (-q):Int):Rat) by rw[BD]];exact aN
def bt7(q:Rat)(k:Int)(H:Nat)(hk:k<=256)(hq:Fit H q)(h1:1<=H)(hH:H<=8000000000):aK prog 268 [(qT q:aF),(.one (.int .i64 k):aF)] (.ret [qT (oJ q k.toNat)]):=by
 refine dB func268 bc7 ?_;apply aA (Tl q k H hk hq);apply aA (UD (q*nI k.toNat) (H+257) (hq.mul (qB O)));apply aA (Ag k hk);apply aA (cr _ _ (H+257) 257 (Fq (hq.mul (qB O))) (gu O));exact aN
def cn4(q:Rat)(k:Int)(H:Nat)(hk:k<=256)(hq:Fit H q)(h1:1<=H)(hH:H<=8000000000):aK prog 269 [(qT q:aF),(.one (.int .i64 k):aF)] (.ret [qT (ZA q k.toNat)]):=by
 refine dB func269 cq5 ?_;apply aA (Tl q k H hk hq);apply aA (ba2 (q*nI k.toNat) (H+257) (hq.mul (qB O)));apply aA (Ag k hk);apply aA (cr _ _ (H+257) 257 (by rw[BD];exact(Fq (hq.mul (qB O)).neg).neg) (gu O)) rfl;exact aN
def PX(a b:Rat)(k:Int)(H:Nat)(hk:k<=256)(ha:Fit H a)(hb:Fit H b)(h1:1<=H:=by omega)(hH:H<=8000000000:=by omega):aK prog 229 [(kP a b:aF),(.one (.int .i64 k):aF)] (.ret [kP (oJ a k.toNat) (ZA b k.toNat)]):=by
 refine dB func229 bL2 ?_;apply aA (bt7 a k H hk ha h1 hH);apply aA (cn4 b k H hk hb h1 hH);exact aN
def cd3(n:Int){d:Nat}(hd:d≠0):VZ (mkRat n d)=n/(d:Int):=by
 unfold VZ;generalize hq:mkRat n d=q;obtain⟨m,hm,h1,h2⟩:=Rat.mkRat_num_den hd (n':=q.num) (d':=q.den) (z':=q.den_nz) (c:=q.reduced) (by rw[hq]);rw[h1,h2,iK,Int.mul_ediv_mul_of_pos_left _ _ O]
def bl3(q:Rat)(k:Nat):VZ (q*nI k)=q.num*((2^k:Nat):Int)/(q.den:Int):=by
 rw[nI,FY,jB,pF,dc,cd3 _ q.den_nz]
def at4(q:Rat)(k:Nat):-(oJ (-q) k)=ZA q k:=by
 unfold oJ ZA;rw[BD,show -q*nI k=-(q*nI k) by grind]
 grind
end Go.Sy
