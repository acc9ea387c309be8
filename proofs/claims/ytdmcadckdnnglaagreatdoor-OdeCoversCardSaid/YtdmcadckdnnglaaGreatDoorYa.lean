/- Part. -/
import Derived.Test.YtdmcadckdnnglaaGreatDoorWb
set_option linter.all false
namespace Go.Sy
open Go Go.Proofs Tryz Ord
def lY(p:Nat->Bool):Nat->Nat->Nat
 | h,0=>h
 | h,n+1=>if p h then h else lY p (h+1) n
theorem kC(p:Nat->Bool):∀n h,h<=lY p h n/\lY p h n<=h+n/\(∀k,h<=k->k<lY p h n->p k=false)/\(lY p h n<h+n->p (lY p h n)=true)
 | 0,h=>⟨aY _,aY _,fun k h1 h2=>by simp only[lY]at h2;omega,fun h2=>by simp only[lY]at h2;omega⟩
 | n+1,h=>by
   rw[lY];split
   ·rename_i hp;exact⟨aY _,O,fun k h1 h2=>O,fun _=>hp⟩
   ·rename_i hp;obtain⟨h1,h2,h3,h4⟩:=kC p n (h+1);refine⟨O,O,fun k hk1 hk2=>?_,fun hk=>h4 O⟩;rcases Nat.lt_or_ge h k with hlt | hge
    ·exact h3 k hlt hk2
    ·rw[show k=h by omega];simpa using hp
def Pu(q:List (List Rat))(m:Nat)(lead:Rat):Nat:=lY (fun h=>decide (ks q m lead h)) 0 63
def SR(q:List (List Rat))(m:Nat):Nat:=m+aa q+m
def iOf(q:List (List Rat))(m:Nat)(lead aB:Rat):Nat:=lY (fun i=>decide (4096<SR q m*2^i\/eX q m lead aB (SR q m*2^i))) 0 13
def ba(q:List (List Rat))(m:Nat)(lead:Rat):Option (Rat×Nat):=
 if Pu q m lead=63\/4096<SR q m*2^iOf q m lead (ah (Pu q m lead))then none else some (ah (Pu q m lead),SR q m*2^iOf q m lead (ah (Pu q m lead)))
def Nj{q:List (List Rat)}{m:Nat}{lead:Rat}(hm:1<=m):Pu q m lead<=63/\(∀h,h<Pu q m lead->¬ks q m lead h)/\(Pu q m lead<=62->ks q m lead (Pu q m lead)) /\
  iOf q m lead (ah (Pu q m lead))<=13/\(∀i,i<iOf q m lead (ah (Pu q m lead))->SR q m*2^i<=4096/\¬eX q m lead (ah (Pu q m lead)) (SR q m*2^i)) /\
  (4096<SR q m*2^iOf q m lead (ah (Pu q m lead))\/eX q m lead (ah (Pu q m lead)) (SR q m*2^iOf q m lead (ah (Pu q m lead)))):=by
 obtain⟨_,h2,h3,h4⟩:=kC (fun h=>decide (ks q m lead h)) 63 0;have e1:lY (fun h=>decide (ks q m lead h)) 0 63=Pu q m lead:=rfl;rw[e1]at h2 h3 h4;generalize Pu q m lead=hh at *;obtain⟨_,k2,k3,k4⟩:=kC (fun i=>decide (4096<SR q m*2^i\/eX q m lead (ah hh) (SR q m*2^i))) 13 0;have e2:lY (fun i=>decide (4096<SR q m*2^i\/eX q m lead (ah hh) (SR q m*2^i))) 0 13=iOf q m lead (ah hh):=rfl;rw[e2]at k2 k3 k4;generalize iOf q m lead (ah hh)=ii at *;refine⟨O,fun h hlt=>LX (h3 h (bO _) hlt),fun hlt=>oP (h4 O),O,fun i hi=>?_,?_⟩
 ·have:=LX (k3 i (bO _) hi);exact⟨O,fun h=>this (.inr h)⟩
 ·rcases Nat.lt_or_ge ii 13 with h | h
  ·exact oP (k4 O)
  ·left
   rw[show ii=13 by omega];have:2<=SR q m:=by unfold SR;omega
   omega
def sa{q:List (List Rat)}{m:Nat}{lead:Rat}(hm:1<=m:=by omega):∃hh ii,ba q m lead=(if hh=63\/4096<(m+aa q+m)*2^ii then none else some (ah hh,(m+aa q+m)*2^ii))/\hh<=63/\(∀h,h<hh->¬ks q m lead h)/\(hh<=62->ks q m lead hh) /\
  ii<=13/\(∀i,i<ii->(m+aa q+m)*2^i<=4096/\¬eX q m lead (ah hh) ((m+aa q+m)*2^i))/\(4096<(m+aa q+m)*2^ii\/eX q m lead (ah hh) ((m+aa q+m)*2^ii)):=
 ⟨_,_,rfl,Nj hm⟩
def _root_.Ord.Bd.abs{D S:Nat}{q:Rat}(h:Bd D S q):Bd D S q.abs:=by
 obtain⟨h1,h2⟩:=lg q;exact⟨by rw[h2];exact h.1,by rw[h1,h2];simpa using h.2⟩
def pO:Nat:=2^63
def Um:pO≠0:=by unfold pO;decide
def EE:0<pO:=pQ Um
def pf{h:Nat}(hh:h<=63):Bd pO 4 (ah h):=by
 unfold pO;have h1:Bd (2^h) 1 (mkRat 1 (2^h)):=Bd.mk (eV.1 (Nat.pow_pos O)) (by have:=Nat.pow_pos (a:=2) (n:=h) O;simp;omega);have h2:=(Bd.int (D:=1) (n:=4) (S:=4) O).mul O (by decide) (h1.mono (wS 2 hh) (aY _));exact h2.mono (by simp) O
def rh(h:Nat):ah h≠0:=by
 intro e;rcases wM.1 e with e | e
 ·exact absurd e (by decide +kernel)
 ·rw[Rat.mkRat_eq_zero (eV.1 (Nat.pow_pos O))]at e;omega
def BB{x:Rat}(h:Bd pO 4 x){j n:Nat}(hj:j<=n:=by omega):Bd (pO^n) (4^n) (x^j):=
 (Bd.pow Um h j).mono (wS _ hj) (Nat.pow_le_pow_right O hj)
def Ou(n:Nat):pO^n≠0:=eV.1 (Nat.pow_pos EE)
section
variable{D S L:Nat}{aB:Rat}
theorem TJ{r:List Rat}(h0:D≠0)(hr:∀a∈r,Bd D S a)(ho:Bd pO 4 aB):∀k,k<=L->Bd (D*pO^L) (k*(S*4^L)) (gJ r aB k)
 | 0,_=>Bd.zero
 | k+1,hk=>by
   rw[gJ,Nat.add_mul,Nat.one_mul];refine(TJ h0 hr ho k O).add (Nat.mul_ne_zero h0 (Ou _)) ?_;exact(ij hr k).abs.mul h0 (Ou _) (BB ho hk)
theorem Lp(z:Int):∀j:Nat,((z:Rat))^j=((z^j:Int):Rat)
 | 0=>by rw[ej,Int.pow_zero];rfl
 | j+1=>by rw[gM,Int.pow_succ,Lp z j,tM]
def yO{p:List Rat}{m i N:Nat}{z:Int}{x:Rat}{U:Nat}(h0:D≠0)(hp:∀a∈p,Bd D S a)(ho:Bd pO 4 aB)(hz:z=(N:Int))(hN:1<=N)(hm:m<=4)(hx:Bd (D*pO^(L+4)*N^4) U x) :
  ∀k,k<=L->Bd (D*pO^(L+4)*N^4) (U+k*(S*4^(L+4))) (gR p m i aB (z:Rat) x k)
 | 0,_=>by rw[gR,oV,Nat.add_zero];exact hx
 | k+1,hk=>by
   have ih:=yO (i:=i) h0 hp ho hz hN hm hx k O;rw[gR,Nat.add_mul k 1,Nat.one_mul,<-Nat.add_assoc];have hNz:N^4≠0:=eV.1 (Nat.pow_pos hN);have hD:=Nat.mul_ne_zero h0 (Ou (L+4));split
   ·refine ih.add (Nat.mul_ne_zero hD hNz) ?_;have h1:=(ij hp k).abs.mul h0 (Ou _) (BB ho (j:=m+k-i) (n:=L+4));have hpw:(z:Rat)^(m-i)=((z^(m-i):Int):Rat):=Lp z _;have hzn:z^(m-i)≠0:=Int.pow_ne_zero O;have h2:=h1.div hD (E:=1) O (Bd.int (aY _)) (Vn hzn);rw[Rat.num_intCast,Nat.mul_one,<-hpw]at h2;refine h2.mono (Nat.mul_dvd_mul (qX _) ?_) (aY _);rw[hz,Int.natAbs_pow,Int.natAbs_natCast];exact wS N O
   ·exact ih.le (ay4 _ _)
def vN{q:List (List Rat)}{m N:Nat}{z:Int}(h0:D≠0)(hq:∀p∈q,p.length<=L/\∀a∈p,Bd D S a)(ho:Bd pO 4 aB)(hz:z=(N:Int))(hN:1<=N)(hm:m<=4) :
  ∀i,Bd (D*pO^(L+4)*N^4) (i*(L*(S*4^(L+4)))) (bC q m aB (z:Rat) i)
 | 0=>Bd.zero
 | i+1=>by
   have hp:(q.getD i []).length<=L/\∀b∈q.getD i [],Bd D S b:=by
    rw[cu];cases h:q[i]? with
    | none=>exact⟨bO _,fun b hb=>by cases hb⟩
    | some p=>exact hq p (bc h)
   rw[bC,Nat.add_mul i 1,Nat.one_mul];exact(yO h0 hp.2 ho hz hN hm (vN h0 hq ho hz hN hm i) _ hp.1).le (Ul (Nat.mul_le_mul_right _ hp.1) _)
end
def uR:Nat:=dM*pO^105*4097^4
def vR:Nat:=1024*(sM*4^105)
def wR:Nat:=pO^215
def xR:Nat:=4^215
def bj5:∃B,128<=B/\B<=1000000/\wR<2^B/\xR*wR<2^B/\uR<2^B/\vR*uR<2^B:=
 ⟨131072,by decide,by decide,by decide +kernel,by decide +kernel,by decide +kernel,by decide +kernel⟩
def aW8:dM<=uR:=by unfold uR;rw[Nat.mul_assoc];exact Nat.le_mul_of_pos_right _ (Nat.mul_pos (Nat.pow_pos EE) (by decide))
def aM7{X:Rat}(h:jg X):dX X<=uR:=Nat.le_trans h.dX aW8
def aO1:sM<=vR:=by unfold vR;exact Nat.le_trans (Nat.le_mul_of_pos_right _ (Nat.pow_pos (by decide))) (Nat.le_mul_of_pos_left _ (by decide))
def WU{j k:Nat}(hj:j<=1024:=by omega)(hk:k<=105:=by omega):j*(sM*4^k)<=vR:=by unfold vR;exact cV hj (Nat.mul_le_mul_left _ (Nat.pow_le_pow_right (by decide) hk))
def aX0{X:Rat}(h:jg X):dX X*pO^101<=uR:=by
 refine Nat.le_trans (Nat.mul_le_mul_right _ h.dX) ?_;unfold uR;rw[Nat.mul_assoc];exact Nat.mul_le_mul_left _ (Nat.le_trans (Nat.pow_le_pow_right EE (by decide)) (Nat.le_mul_of_pos_right _ (by decide)))
def aM0{X:Rat}(h:jg X){N:Nat}(h1:1<=N)(h2:N<=4097):dX X*pO^(101+4)*N^4≠0/\dX X*pO^(101+4)*N^4<=uR:=
 ⟨Nat.mul_ne_zero (Nat.mul_ne_zero (vg X) (Ou _)) (eV.1 (Nat.pow_pos h1)),by unfold uR;rw[show(101+4:Nat)=105 from rfl];exact cV (Nat.mul_le_mul_right _ h.dX) (eP h2 4)⟩
def aa9{m s i:Nat}(h1:m<=s)(h2:s*2^i<=4096):∃N:Nat,(((s*2^i:Nat):Int)-m+1)=(N:Int)/\1<=N/\N<=4097:=by
 have h3:1<=2^i:=Nat.pow_pos O;have h4:s*1<=s*2^i:=Nat.mul_le_mul_left _ h3;exact⟨s*2^i-m+1,O,O,O⟩
def Xs{N j:Nat}(h2:N<=4097)(hj:j<=9:=by omega):Fit 128 (((N:Int):Rat)^j):=by
 have hp:((N:Int):Rat)^j=(((N:Int)^j:Int):Rat):=Lp _ j;rw[hp];refine Fit.int (by decide) ?_;rw[Int.natAbs_pow,Int.natAbs_natCast];exact Nat.lt_of_le_of_lt (eP h2 j) (Nat.lt_of_le_of_lt (Nat.pow_le_pow_right (by decide) hj) (by decide +kernel))
def Nb{q:List (List Rat)}{D S L:Nat}(hq:∀p∈q,p.length<=L/\∀b∈p,Bd D S b)(i:Nat):(q.getD i []).length<=L/\∀b∈q.getD i [],Bd D S b:=by
 rw[cu];cases hg:q[i]? with
 | none=>exact⟨bO _,fun b hb=>by cases hb⟩
 | some p=>exact hq p (bc hg)
def Eb{E:List (List Rat)}{ER:List (List RQ)}{X:Rat}{XR:RQ}(h:SmallX E ER X XR){m:Nat}{lead:Rat}(hm:E.length=m+1)(hm4:m<=4)(hl:Bd (dX X) sM lead) :
  ∃B,64<=B/\B<=1000000/\∀h0 s i0,h0<=63->m<=s->OD B (aV E X) m lead 101 h0 s i0:=by
 obtain⟨B,h128,hB,r1,r2,r3,r4⟩:=bj5;have fit:∀{u v:Nat}{x:Rat},u≠0->Bd u v x->u<=uR->v<=vR->Fit B x:=fun {u v x} hu hx h1 h2=>hx.fit hu (Nat.lt_of_le_of_lt h1 r3) (Nat.lt_of_le_of_lt (cV h2 h1) r4);have hrp:∀hh,hh<=63->∀j,j<=215->Fit B (ah hh^j):=fun hh hh2 j hj=>(BB (pf hh2) hj).fit (Ou _) r1 r2;clear r1 r2 r3 r4;have hq:=h.aJ0;have hql:(aV E X).length=m+1:=by rw[aV,aR,hm]
 have hfq:∀p∈aV E X,p.length<=101/\∀x∈p,Fit B x:=fun p hp=>⟨(hq p hp).1,fun x hx=>fit (vg X) ((hq p hp).2 x hx) (aM7 h.xb) aO1⟩
 refine⟨B,O,hB,fun h0 s i0 hh63 hms=>⟨fit (vg X) hl (aM7 h.xb) aO1,hfq,fun hh _ hh2 j hj=>hrp hh O j O,fun hh _ hh2 k hk=>?_,fun i _ hi=>?_,fun i _ hi=>?_⟩⟩
 ·have hr:∀a∈((aV E X).getD m []).drop 1,Bd (dX X) sM a:=fun a ha=>(Nb hq m).2 a (List.mem_of_mem_drop ha);exact fit (Nat.mul_ne_zero (vg X) (Ou 101)) (TJ (L:=101) (vg X) hr (pf O) k hk) (aX0 h.xb) (WU)
 ·obtain⟨N,hNe,hN1,hN2⟩:=aa9 hms hi;obtain⟨g1,g2⟩:=aM0 h.xb hN1 hN2;rw[hNe];refine⟨hfq,fun j hj=>hrp h0 hh63 j O,fun j hj=>(Xs hN2).mono h128,fun i' k hi' hk=>?_⟩;have hpi:=Nb hq i';have ho:=vN (L:=101) (m:=m) (N:=N) (z:=(N:Int)) (vg X) hq (pf hh63) rfl hN1 hm4 i';have hin:=yO (L:=101) (i:=i') (z:=(N:Int)) (vg X) hpi.2 (pf hh63) rfl hN1 hm4 ho k O;refine fit g1 hin g2 (Nat.le_trans ?_ (WU (j:=i'*101+101) (k:=101+4)));rw[Nat.add_mul,Nat.mul_assoc];exact Ul (Nat.mul_le_mul_right _ O) _
 ·obtain⟨N,hNe,hN1,hN2⟩:=aa9 hms hi;obtain⟨g1,g2⟩:=aM0 h.xb hN1 hN2;rw[hNe,hql];refine fit g1 (vN (L:=101) (m:=m) (N:=N) (z:=(N:Int)) (vg X) hq (pf hh63) rfl hN1 hm4 (m+1)) g2 (Nat.le_trans ?_ (WU (j:=(m+1)*101) (k:=101+4)));rw[Nat.mul_assoc];exact aY _
structure gT(E:List (List Rat))(X:Rat):Prop where
 ok:Aj E=true
 reg:rH E X=true
def gT.facts{E:List (List Rat)}{X:Rat}(h:gT E X):2<=E.length/\E.length<=5/\aF E X≠0/\di (E.getD (E.length-1) []) X≠[]:=by
 have:=wE (e:=E) (c:=X) (y:=List.replicate (E.length-1) 0) (by unfold okF;rw[h.ok,h.reg];simp);exact⟨this.1,this.2.1,this.2.2.2.1,this.2.2.2.2⟩
def JT{E:List (List Rat)}{X:Rat}{Y:List Rat}(h:okF E X Y=true):gT E X:=by
 unfold okF at h;simp only[bz]at h;exact⟨h.1.1,h.2⟩
section
variable{E:List (List Rat)}{ER:List (List RQ)}{X:Rat}{XR:RQ}
def SmallX.aM4(h:SmallX E ER X XR)(hr:gT E X):Bd (dX X) sM (aF E X):=by
 obtain⟨h2,h5,hld,_⟩:=hr.facts;obtain⟨p,hp,hp0⟩:=qK hld;exact(h.aJ0 p (bc hp)).2 _ (bc hp0)
def km(E:List (List Rat))(X:Rat):Out:=match ba (aV E X) (E.length-1) (aF E X)with
 | some (aB,st)=>.ret [.agg (vb (aV E X) (E.length-1) (aF E X) aB (st:Nat))]
 | none=>.pan (CD 5)
def jW(E:List (List Rat))(X:Rat):RQ×Nat:=match ba (aV E X) (E.length-1) (aF E X)with
 | some (aB,st)=>(.of aB,st)
 | none=>(.nil,0)
def yE(h:SmallX E ER X XR)(hr:gT E X):aL prog 100 [.one (eQ E),qT X] (.ret [yZ (aV E X) (E.length-1) (aF E X)]):=by
 obtain⟨B,h64,hB,hR⟩:=aO3;obtain⟨h2,h5,hld,hne⟩:=hr.facts;exact Qe (h.room hB (hR _ h.xb.d).1) O O hne
def qd(h:SmallX E ER X XR)(hr:gT E X):aL prog 123 [yZ (aV E X) (E.length-1) (aF E X)] (km E X):=by
 obtain⟨h2,h5,hld,hne⟩:=hr.facts;obtain⟨m,hm⟩:∃m,E.length-1=m:=⟨_,rfl⟩
 obtain⟨B,h64,hB,hM⟩:=Eb h (m:=m) O O (h.aM4 hr);obtain⟨hh,ii,hrv,f1,f2,f3,f4,f5,f6⟩:=sa (q:=aV E X) (m:=m) (lead:=aF E X);obtain⟨p,hp,hp0⟩:=qK hld;rw[hm]at hp
 have hd:=Iu (aV E X) m (aF E X) B 101 hh ii (hM hh _ ii f1 O) (by rw[aV,aR];omega) O O O h64 f1
  (by rw[cu,hp];exact(dn.1 hp0).1) f2 f3 (fun _=>f5) (fun _=>f6) f4
 unfold km;rw[hm];generalize ba (aV E X) m (aF E X)=rv at *;clear hM f1 f2 f3 f4 f5 f6;generalize (m+aa (aV E X)+m)*2^ii=st at *;split at hd
 ·rename_i hc;rw[if_pos hc]at hrv;subst hrv;exact hd
 ·rename_i hc;rw[if_neg hc]at hrv;subst hrv;exact hd
def JO(h:SmallX E ER X XR)(hr:gT E X):aL prog 43 [.one (eR ER),lT XR] (.ret [lT (jW E X).1,.one (.int .i64 (jW E X).2)]):=by
 obtain⟨h2,h5,hld,hne⟩:=hr.facts;obtain⟨m,hm⟩:∃m,E.length-1=m:=⟨_,rfl⟩
 obtain⟨B,h64,hB,hM⟩:=Eb h (m:=m) O O (h.aM4 hr);obtain⟨B1,h641,hB1,hMC⟩:=aO3;obtain⟨hh,ii,hrv,f1,f2,f3,f4,f5,f6⟩:=sa (q:=aV E X) (m:=m) (lead:=aF E X);obtain⟨p,hp,hp0⟩:=qK hld;rw[hm,<-h.sh,uA,cC]at hp;obtain⟨p0,hp1,rfl⟩:=Lv.1 hp;rw[cC]at hp0;obtain⟨l,hl0,hl⟩:=Lv.1 hp0;unfold jW;rw[hm];generalize ba (aV E X) m (aF E X)=rv at *;rw[<-hl]at f2 f3 f5 f6 hM;have hd:=ZR ER XR B1 (h.yH (hMC _ h.xb.d).2) h641 (Ui ER XR) rfl (aV E X) h.sh m p0 l hp1 hl0 B 101 hh ii (hM hh _ ii f1 O) (by rw[aV,aR];omega) h64 f1 f2 f3 (fun _=>f5) (fun _=>f6) f4;clear hM f1 f2 f3 f4 f5 f6;generalize (m+aa (aV E X)+m)*2^ii=st at *;split at hd
 ·rename_i hc;rw[if_pos hc]at hrv;subst hrv;exact hd
 ·rename_i hc;rw[if_neg hc]at hrv;subst hrv;exact hd
end
def ak6{m N D S E T L a b c:Nat}(hq:lU m N D S E<=2^a)(hr:dk m N D S L<=2^b)(hd:D<=2^c)(ht:T<=2^10):zL m N D S E T L<=2^(c+a*N+(10+b*(N+1))):=by
 unfold zL;rw[Nat.pow_add 2 (c+a*N),Nat.pow_add 2 c,iA 2 a N,Nat.pow_add 2 10,iA 2 b];exact cV (cV hd (eP hq N)) (cV ht (eP hr (N+1)))
def aW0:dM<=2^6600/\∀m,m<5->lU m 4096 dM sM (eC 999)<=2^14000/\dk m 4096 dM sM 101<=2^7500:=by decide +kernel
def vT{m N M:Nat}(h:N<=M):iK m N<=iK m M:=eP O m
def QO{m N M D F S E:Nat}(hN:N<=M)(h:D<=F):lU m N D S E<=lU m M F S E:=by
 unfold lU;exact ar7 (Nat.mul_le_mul_left _ (vT hN)) (cV h (cV (Nat.mul_le_mul_left _ (vT hN)) h))
def PT{m N M D F S L:Nat}(hN:N<=M)(h:D<=F):dk m N D S L<=dk m M F S L:=by
 unfold dk;exact cV (Nat.mul_le_mul_left _ (Nat.mul_le_mul_left _ (Nat.mul_le_mul_left _ (vT hN)))) h
def Sq{X:Rat}(h:jg X){N:Nat}(hN:N<=4096):dX X<=2^6600/\∀m,m<5->lU m N (dX X) sM (eC 999)<=2^14000/\dk m N (dX X) sM 101<=2^7500:=by
 obtain⟨h1,h2⟩:=aW0;exact⟨Nat.le_trans h.dX h1,fun m hm=>⟨Nat.le_trans (QO hN h.dX) (h2 m hm).1,Nat.le_trans (PT hN h.dX) (h2 m hm).2⟩⟩
def XQ{m N D S E T L a b c B:Nat}(hq:lU m N D S E<=2^a)(hr:dk m N D S L<=2^b)(hd:D<=2^c)(ht:T<=2^10)(hB:c+a*N+(10+b*(N+1))<B):zL m N D S E T L<2^B:=
 Nat.lt_of_le_of_lt (ak6 hq hr hd ht) (mP (by decide) hB)
def bN(N:Nat):Nat:=21500*N+14200
def bq5{X:Rat}(h:jg X){N:Nat}(hN:N<=4096)(m:Nat)(hm:m<5:=by omega):zL m N (dX X) sM (eC 999) 999 101<2^bN N:=by
 obtain⟨h0,hh⟩:=Sq h hN;obtain⟨h1,h2⟩:=hh m hm;exact XQ h1 h2 h0 (by decide) (by unfold bN;omega)
def eO{q:List (List Rat)}{m:Nat}{lead aB:Rat}{st:Nat}(h:ba q m lead=some (aB,st))(hm:1<=m:=by omega):∃hh,hh<=62/\aB=ah hh/\st<=4096/\m+aa q+m<=st:=by
 obtain⟨hh,ii,hrv,f1,_,_,_,_,_⟩:=sa (q:=q) (m:=m) (lead:=lead) hm;rw[h]at hrv;split at hrv
 ·cases hrv
 ·rename_i hc;simp only[aI,bQ]at hrv;obtain⟨rfl,rfl⟩:=hrv;have h1:1<=2^ii:=Nat.pow_pos O;have h2:(m+aa q+m)*1<=(m+aa q+m)*2^ii:=Nat.mul_le_mul_left _ h1;generalize (m+aa q+m)*2^ii=st at *;exact⟨hh,O,rfl,O,O⟩
structure rK(r:Rat):Prop where
 d:r.den<=2^200
 s:r.num.natAbs<=4096*r.den
def rK.bd{X:Rat}(h:rK X):Bd X.den 4096 X:=⟨qX _,h.s⟩
def rK.fit{X:Rat}(h:rK X):Fit 220 X:=
 ⟨Nat.lt_of_le_of_lt (Nat.le_trans h.s (Nat.mul_le_mul_left _ h.d)) (by decide),Nat.lt_of_le_of_lt h.d (by decide)⟩
def rK.abs{X:Rat}(h:rK X):rK X.abs:=by
 obtain⟨h1,h2⟩:=lg X;exact⟨by rw[h2];exact h.d,by rw[h1,h2,Int.natAbs_natCast];exact h.s⟩
def jg.t{X:Rat}(h:jg X):rK X:=⟨Nat.le_trans h.d (by decide),Nat.le_trans h.s (Nat.mul_le_mul_right _ O)⟩
def yRn(n:Nat):Nat:=(2^200)^n
def zRn(n:Nat):Nat:=4096^n
def pRn(n:Nat):Nat:=pO^n
def sRn(n:Nat):Nat:=4^n
def bg4:yRn 8193<2^2097152/\zRn 8193*yRn 8193<2^2097152/\pRn 8193<2^2097152/\sRn 8193*pRn 8193<2^2097152:=by decide +kernel
def aB2{hh j n:Nat}(h:hh<=63)(hj:j<=n):Bd (pRn n) (sRn n) (ah hh^j):=by unfold pRn sRn;exact BB (pf h) hj
def bm3(n:Nat):pRn n≠0:=by unfold pRn;exact Ou _
def bG1{r:Rat}(hr:rK r){j n B:Nat}(hj:j<=n)(h1:yRn n<2^B)(h2:zRn n*yRn n<2^B):Fit B (r^j):=by
 have hp:=Bd.pow (iy r) hr.bd j
 have hd:r.den^j<=yRn n:=by
  unfold yRn;exact Nat.le_trans (eP hr.d j) (Nat.pow_le_pow_right (Nat.pow_pos O) hj)
 have hz:4096^j<=zRn n:=Nat.pow_le_pow_right O hj;exact hp.fit (eV.1 (Nat.pow_pos r.den_pos)) (Nat.lt_of_le_of_lt hd h1) (Nat.lt_of_le_of_lt (cV hz hd) h2)
def eJ{r:Rat}(hr:rK r){hh n d B:Nat}(h62:hh<=62)(hn:n<=4096:=by omega)(hd:d<=4:=by omega)(hB:2097152<=B:=by omega):lS B (ah hh) n d r:=by
 obtain⟨r1,r2,r3,r4⟩:=bg4;have e1:∀j,j<=8193->Fit 2097152 (r^j):=fun j hj=>bG1 hr hj r1 r2;have e2:∀j,j<=8193->Fit 2097152 (ah hh^j):=fun j hj=>(aB2 (Nat.le_trans h62 (by decide)) hj).fit (bm3 _) r3 r4;clear r1 r2 r3 r4;refine⟨fun j hj=>?_,fun j hj=>(e1 j O).mono hB,fun j hj=>(e2 j O).mono hB⟩;have hz:=mX (z:=(n:Int)) (N:=4100) j O;have h2:(4100:Nat)^j<=4100^4:=Nat.pow_le_pow_right O O;have h3:(4100:Nat)^4=282576100000000:=by decide
 rw[h3]at h2;exact(eW).mono O
theorem Ls{a:List Rat}{aB:Rat}{B n0 W st:Nat}(haf:∀x∈a,Fit B x)(h1:1<=B)(hrho:∀j,j<=st->Fit B (aB^j))(hw:n0+W<=st):∀k,k<=W->Fit (B+B) (JW a aB n0 k)
 | 0,_=>Fit.zero O
 | k+1,hk=>by
   rw[JW];refine pY (fun x hx=>?_) 2 (by simp);simp only[List.mem_cons,ja,gY]at hx;rcases hx with rfl | rfl
   ·exact Ls haf h1 hrho hw k O
   ·exact(js (mg haf _ h1)).mul (hrho _ O)
section
variable{E:List (List Rat)}{ER:List (List RQ)}{X:Rat}{XR:RQ}
def SmallX.at(h:SmallX E ER X XR){x:Rat}(hx:jg x):SmallX E ER x (.of x):=⟨h.e1,h.e2,h.sim,rfl,h.el,h.eb,h.rb,hx⟩
end
def aX1:Tr:=fL 0 0 16 3 3 (aH 1 0 (qA .rem 3 5 17 0 0 3 (bI 2)) (bI 0))
def aw2:aM prog f56 bZ [.v none]=aX1:=by kernel_rfl
def Yt:Tr:=vD 2 3 0 1 2
def bt1:Tr:=uQ 64 0 0 1 0 2 1 1 1 1 2 6 8 (iQ 64 0 3 0 4 0 5 1 3 1 4 1 5 11 13 Yt)
def aR6:aM prog f66 bZ [.v (some 6),.v (some 6)]=bt1:=by kernel_rfl
def be4:Tr:=jw 65 0 3 3 39 (vD 1 0 0 1 2)
def VX:aM prog f228 bZ [.v (some 3)]=be4:=by kernel_rfl
abbrev dG(a b:Rat):List aE:=qC a++qC b
abbrev ow(a b:Rat):aG:=.agg (dG a b)
abbrev bD9(a b:RQ):List aE:=rC a++rC b
abbrev bW2(a b:RQ):aG:=.agg (bD9 a b)
def Jo(k:Int):Int:=if k>16 then k%17 else k
def aE1(k:Int):aL prog 56 [(.one (.int .i64 k):aG)] (.ret [.one (.int .i64 (Jo k))]):=by
 refine bw func56 aw2 ?_;apply vn dZ;refine vs _ rfl ?_ ?_<;>intro h1
 ·apply vn dd;dsimp only[aO,aP];rw[show Jo k=k%17 from if_pos h1];exact aK
 rw[show Jo k=k from if_neg h1];exact aK
def sn(a b c d:Rat)(A B:Nat)(ha:Fit A a)(hb:Fit A b)(hc:Fit B c)(hd:Fit B d)(h:A+B<=34359738368:=by omega):aL prog 66 [(ow a b:aG),(ow c d:aG)] (.ret [ow (a+c) (b+d)]):=by
 refine bw func66 aR6 ?_;apply aA (iU a c A B ha hc h);apply aA (iU b d A B hb hd h);exact aK
def ta(r:Rat):aL prog 228 [(qT r:aG)] (.ret [ow (-r) r]):=by
 refine bw func228 VX ?_;apply aA (Eo r);exact aK
def bb6:Tr:=uM 256 1 1 6 3 35 (dV 157 [(.agg [(U 2 0),(tE (.bool false))])] [(some 3)] [8] [37] 39 true (iQ 36 0 0 0 1 0 2 3 0 3 1 3 2 5 9 (fW 4 4 1 4 2)))
def Zn:aM prog f285 bZ [.v (some 3),.v none]=bb6:=by kernel_rfl
def XL:Tr:=fW 3 3 1 3 2
def bb8:Tr:=jw 117 0 1 5 35 (Pk 294 0 1 2 4 6 37 (dV 157 [(G2 2)] [(some 3)] [7] [37] 39 true XL))
def XU:aM prog f286 bZ [.v (some 3)]=bb8:=by kernel_rfl
def aV7:Tr:=jw 65 0 3 3 39 (IJ 286 1 0 1 2 3 4 39 (IJ 65 2 0 1 2 3 5 39 XL))
def au4:aM prog f287 bZ [.v (some 3)]=aV7:=by kernel_rfl
def af4:Tr:=lZ 202 1 3 9 3 39 (iQ 36 3 0 3 1 3 2 4 0 4 1 4 2 8 10 (fW 5 5 1 5 2))
def aV2:Tr:=xZ 285 0 1 5 6 (jw 286 2 3 7 39 af4)
def ar0:aM prog f268 bZ [.v (some 3),.v none]=aV2:=by kernel_rfl
def bq4:Tr:=xZ 285 0 1 5 6 (jw 287 2 3 7 39 af4)
def bD2:aM prog f269 bZ [.v (some 3),.v none]=bq4:=by kernel_rfl
def aZ3:Tr:=xZ 268 0 1 6 7 (dV 269 [(.agg [(U 0 3),(U 0 4),(U 0 5)]),(W 1 0)] [(some 3)] [10,11] [39,3] 39 true Yt)
def aY1:aM prog f229 bZ [.v (some 6),.v none]=aZ3:=by kernel_rfl
def Pt(q:Rat):Int:=q.num/(q.den:Int)
def kF(k:Nat):Rat:=(((2^k:Nat):Int):Rat)
def ki(q:Rat)(k:Nat):Rat:=(Pt (q*kF k):Rat)*mkRat 1 (2^k)
def SK(q:Rat)(k:Nat):Rat:=(((-Pt (-(q*kF k)):Int)):Rat)*mkRat 1 (2^k)
def BM{q:Rat}{H:Nat}(h:Fit H q)(h1:1<=H:=by omega):Fit H (Pt q:Rat):=Fit.int h1 (Nat.lt_of_le_of_lt (Int.natAbs_ediv_le_natAbs _ _) h.1)
set_option exponentiation.threshold 600 in
def mZ{k:Nat}(h:k<=256):Fit 257 (kF k):=Fit.int O (by rw[Int.natAbs_natCast];exact mP O O)
set_option exponentiation.threshold 600 in
def eu{k:Nat}(h:k<=256):Fit 257 (mkRat 1 (2^k)):=Fit.mkRat (Nat.one_lt_two_pow O) (mP O O) (eV.1 (Nat.pow_pos O))
def ag0(k:Int)(hk:k<=256):aL prog 256 [(.one (.int .i64 k):aG)] (.ret [mT (2^k.toNat)]):=by
 refine bw func256 aN4 ?_;apply aA (im 2);apply aA (Nf k 256);rw[show max (0:Int) (min (k:Int) 256)=(k.toNat:Int) by omega];apply aA (Tt 2 k.toNat 2);exact aK
def wT(k:Int)(hk:k<=256:=by omega):aL prog 202 [(.one (.int .i64 k):aG)] (.ret [qT (mkRat 1 (2^k.toNat))]):=by
 refine bw func202 Xu ?_;apply aA (JA 1);apply aA (ag0 k hk)
 apply aA (xM 1 (2^k.toNat) (Nat.pow_pos O) (by
  obtain⟨H,hH⟩:∃H,H=257:=⟨_,rfl⟩
  have h1:(dg (2^k.toNat)).length<=H:=fi (mP O O);have h2:(dg (1:Int).natAbs).length=1:=by rw[show(1:Int).natAbs=1 from rfl,pE];rfl
  omega)) rfl
 exact aK
def MF(q:Rat)(k:Int)(H:Nat)(hk:k<=256)(hq:Fit H q)(hH:H<=8589934592:=by omega):aL prog 285 [(qT q:aG),(.one (.int .i64 k):aG)] (.ret [qT (q*kF k.toNat)]):=by
 refine bw func285 Zn ?_;apply aA (ag0 k hk);dsimp only[aO,aP];have hz:decide (((2^k.toNat:Nat):Int)<0)=false:=mO (tR.2 (LI _));have hw:=KU ((2^k.toNat:Nat):Int);rw[show iT ((2^k.toNat:Nat):Int)=.agg [dT (2^k.toNat),.exact (.bool false)]from by rw[show iT ((2^k.toNat:Nat):Int)=.agg [dT (2^k.toNat),.bool (decide (((2^k.toNat:Nat):Int)<0))]from rfl,hz]]at hw;apply aA hw;apply aA (bg q (kF k.toNat) H 257 hq (mZ O));exact aK
def NR(q:Rat)(H:Nat)(hq:Fit H q)(hH:H<=8589934592:=by omega):aL prog 286 [(qT q:aG)] (.ret [qT (Pt q:Rat)]):=by
 refine bw func286 XU ?_;have h1:=Mc hq.1;have h2:=Mc hq.2;apply aA (fZ q);apply aA (Zu q.num q.den q.den_pos);apply aA (KU (q.num/(q.den:Int)));exact aK
def ao4(q:Rat)(H:Nat)(hq:Fit H q)(hH:H<=8589934592:=by omega):aL prog 287 [(qT q:aG)] (.ret [qT (((-Pt (-q):Int)):Rat)]):=by
 refine bw func287 au4 ?_;apply aA (Eo q);apply aA (NR (-q) H hq.neg hH);apply aA (Eo _);rw[show -((Pt (-q):Int):Rat)=((-Pt (-q):Int):Rat) by rw[xi]];exact aK
def aH5(q:Rat)(k:Int)(H:Nat)(hk:k<=256)(hq:Fit H q)(h1:1<=H)(hH:H<=8000000000):aL prog 268 [(qT q:aG),(.one (.int .i64 k):aG)] (.ret [qT (ki q k.toNat)]):=by
 refine bw func268 ar0 ?_;apply aA (MF q k H hk hq);apply aA (NR (q*kF k.toNat) (H+257) (hq.mul (mZ O)));apply aA (wT k hk);apply aA (bg _ _ (H+257) 257 (BM (hq.mul (mZ O))) (eu O));exact aK
def bA2(q:Rat)(k:Int)(H:Nat)(hk:k<=256)(hq:Fit H q)(h1:1<=H)(hH:H<=8000000000):aL prog 269 [(qT q:aG),(.one (.int .i64 k):aG)] (.ret [qT (SK q k.toNat)]):=by
 refine bw func269 bD2 ?_;apply aA (MF q k H hk hq);apply aA (ao4 (q*kF k.toNat) (H+257) (hq.mul (mZ O)));apply aA (wT k hk);apply aA (bg _ _ (H+257) 257 (by rw[xi];exact(BM (hq.mul (mZ O)).neg).neg) (eu O)) rfl;exact aK
def Jv(a b:Rat)(k:Int)(H:Nat)(hk:k<=256)(ha:Fit H a)(hb:Fit H b)(h1:1<=H:=by omega)(hH:H<=8000000000:=by omega):aL prog 229 [(ow a b:aG),(.one (.int .i64 k):aG)] (.ret [ow (ki a k.toNat) (SK b k.toNat)]):=by
 refine bw func229 aY1 ?_;apply aA (aH5 a k H hk ha h1 hH);apply aA (bA2 b k H hk hb h1 hH);exact aK
def bp9(n:Int){d:Nat}(hd:d≠0):Pt (mkRat n d)=n/(d:Int):=by
 unfold Pt;generalize hq:mkRat n d=q;obtain⟨m,hm,h1,h2⟩:=Rat.mkRat_num_den hd (n':=q.num) (d':=q.den) (z':=q.den_nz) (c:=q.reduced) (by rw[hq]);rw[h1,h2,Int.natCast_mul,Int.mul_ediv_mul_of_pos_left _ _ O]
def az2(q:Rat)(k:Nat):Pt (q*kF k)=q.num*((2^k:Nat):Int)/(q.den:Int):=by
 rw[kF,Rat.mul_def',Rat.num_intCast,Rat.den_intCast,Nat.mul_one,bp9 _ q.den_nz]
def WH(q:Rat)(k:Nat):-(ki (-q) k)=SK q k:=by
 unfold ki SK;rw[xi,show -q*kF k=-(q*kF k) by grind]
 grind
end Go.Sy
