/- The reach of a small equation: numbers. Reach, Tail of a small equation. The numbers of a small equation. Small equations: the reference's tests. Polynomials of families: scaled, subtracted; the next members. Spans, unit vectors, the grid of a law. The grid: floors, ends of spans. The grid of the reference.
-/
import Derived.Test.YtdmcadckdnnglaaGreatDoorVb
import Derived.Test.YtdmcadckdnnglaaGreatDoorWb
import Derived.Test.YtdmcadckdnnglaaGreatDoorPb
set_option linter.unusedVariables false
set_option linter.unusedSimpArgs false
namespace Go.Sy
open Go Go.Proofs Tryz Ord
def kN (p:Nat→Bool):Nat→Nat→Nat
 | h,0=>h
 | h,n+1=>if p h then h else kN p (h+1) n
theorem lJ (p:Nat→Bool):∀ n h,h≤kN p h n∧kN p h n≤h+n∧(∀ k,h≤k→k<kN p h n→p k=false)∧(kN p h n<h+n→p (kN p h n)=true)
 | 0,h=>⟨Nat.le_refl _,Nat.le_refl _,fun k h1 h2=>by simp only [kN] at h2;omega,fun h2=>by simp only [kN] at h2;omega⟩
 | n+1,h=>by
   rw [kN];split
   ·rename_i hp;exact ⟨Nat.le_refl _,by omega,fun k h1 h2=>by omega,fun _=>hp⟩
   ·rename_i hp;obtain ⟨h1,h2,h3,h4⟩:=lJ p n (h+1);refine ⟨by omega,by omega,fun k hk1 hk2=>?_,fun hk=>h4 (by omega)⟩;rcases Nat.lt_or_ge h k with hlt | hge
    ·exact h3 k hlt hk2
    ·rw [show k=h by omega];simpa using hp
def KH (q:List (List Rat)) (m:Nat) (lead:Rat):Nat:=kN (fun h=>decide (kB q m lead h)) 0 63
def Nl (q:List (List Rat)) (m:Nat):Nat:=m+aV q+m
def iOf (q:List (List Rat)) (m:Nat) (lead aF:Rat):Nat:=kN (fun i=>decide (4096<Nl q m*2^i∨eD q m lead aF (Nl q m*2^i))) 0 13
def jN (q:List (List Rat)) (m:Nat) (lead:Rat):Option (Rat×Nat):=
 if KH q m lead=63∨4096<Nl q m*2^iOf q m lead (bA (KH q m lead)) then none else some (bA (KH q m lead),Nl q m*2^iOf q m lead (bA (KH q m lead)))
theorem Ja {q:List (List Rat)} {m:Nat} {lead:Rat} (hm:1≤m):KH q m lead≤63∧(∀ h,h<KH q m lead→¬ kB q m lead h)∧(KH q m lead≤62→kB q m lead (KH q m lead)) ∧
  iOf q m lead (bA (KH q m lead))≤13∧(∀ i,i<iOf q m lead (bA (KH q m lead))→Nl q m*2^i≤4096∧¬ eD q m lead (bA (KH q m lead)) (Nl q m*2^i)) ∧
  (4096<Nl q m*2^iOf q m lead (bA (KH q m lead))∨eD q m lead (bA (KH q m lead)) (Nl q m*2^iOf q m lead (bA (KH q m lead)))):=by
 obtain ⟨_,h2,h3,h4⟩:=lJ (fun h=>decide (kB q m lead h)) 63 0;have e1:kN (fun h=>decide (kB q m lead h)) 0 63=KH q m lead:=rfl;rw [e1] at h2 h3 h4;generalize KH q m lead=hh at *;obtain ⟨_,k2,k3,k4⟩:=lJ (fun i=>decide (4096<Nl q m*2^i∨eD q m lead (bA hh) (Nl q m*2^i))) 13 0;have e2:kN (fun i=>decide (4096<Nl q m*2^i∨eD q m lead (bA hh) (Nl q m*2^i))) 0 13=iOf q m lead (bA hh):=rfl;rw [e2] at k2 k3 k4;generalize iOf q m lead (bA hh)=ii at *;refine ⟨by omega,fun h hlt=>of_decide_eq_false (h3 h (Nat.zero_le _) hlt),fun hlt=>of_decide_eq_true (h4 (by omega)),by omega,fun i hi=>?_,?_⟩
 ·have:=of_decide_eq_false (k3 i (Nat.zero_le _) hi);exact ⟨by omega,fun h=>this (.inr h)⟩
 ·rcases Nat.lt_or_ge ii 13 with h | h
  ·exact of_decide_eq_true (k4 (by omega))
  ·left
   rw [show ii=13 by omega];have:2≤Nl q m:=by unfold Nl;omega
   omega
theorem yJ {q:List (List Rat)} {m:Nat} {lead:Rat} (hm:1≤m):∃ hh ii,jN q m lead=(if hh=63∨4096<(m+aV q+m)*2^ii then none else some (bA hh,(m+aV q+m)*2^ii))∧hh≤63∧(∀ h,h<hh→¬ kB q m lead h)∧(hh≤62→kB q m lead hh) ∧
  ii≤13∧(∀ i,i<ii→(m+aV q+m)*2^i≤4096∧¬ eD q m lead (bA hh) ((m+aV q+m)*2^i))∧(4096<(m+aV q+m)*2^ii∨eD q m lead (bA hh) ((m+aV q+m)*2^ii)):=
 ⟨_,_,rfl,Ja hm⟩
theorem _root_.Ord.Bd.abs {D S:Nat} {q:Rat} (h:Bd D S q):Bd D S q.abs:=by
 obtain ⟨h1,h2⟩:=kO q;exact ⟨by rw [h2];exact h.1,by rw [h1,h2];simpa using h.2⟩
def pW:Nat:=2^63
theorem Ol:pW≠0:=by unfold pW;decide
theorem Dp:0<pW:=Nat.pos_of_ne_zero Ol
theorem qJ {h:Nat} (hh:h≤63):Bd pW 4 (bA h):=by
 unfold pW;have h1:Bd (2^h) 1 (mkRat 1 (2^h)):=Bd.mk (Nat.pos_iff_ne_zero.1 (Nat.pow_pos (by omega))) (by have:=Nat.pow_pos (a:=2) (n:=h) (by omega);simp;omega);have h2:=(Bd.int (D:=1) (n:=4) (S:=4) (by omega)).mul (by omega) (by decide) (h1.mono (Nat.pow_dvd_pow 2 hh) (Nat.le_refl _));exact h2.mono (by simp) (by omega)
theorem Cv (h:Nat):bA h≠0:=by
 intro e;rcases Rat.mul_eq_zero.1 e with e | e
 ·exact absurd e (by decide +kernel)
 ·rw [Rat.mkRat_eq_zero (Nat.pos_iff_ne_zero.1 (Nat.pow_pos (by omega)))] at e;omega
theorem BC {x:Rat} (h:Bd pW 4 x) {j n:Nat} (hj:j≤n):Bd (pW^n) (4^n) (x^j):=
 (Bd.pow Ol h j).mono (Nat.pow_dvd_pow _ hj) (Nat.pow_le_pow_right (by omega) hj)
theorem JW (n:Nat):pW^n≠0:=Nat.pos_iff_ne_zero.1 (Nat.pow_pos Dp)
section
variable {D S L:Nat} {aF:Rat}
theorem NN {r:List Rat} (h0:D≠0) (hr:∀ a∈r,Bd D S a) (ho:Bd pW 4 aF):∀ k,k≤L→Bd (D*pW^L) (k*(S*4^L)) (jU r aF k)
 | 0,_=>Bd.zero
 | k+1,hk=>by
   rw [jU,Nat.add_mul,Nat.one_mul];refine (NN h0 hr ho k (by omega)).add (Nat.mul_ne_zero h0 (JW _)) ?_;exact (gY hr k).abs.mul h0 (JW _) (BC ho hk)
theorem Hy (z:Int):∀ j:Nat,((z:Rat))^j=((z^j:Int):Rat)
 | 0=>by rw [Rat.pow_zero,Int.pow_zero];rfl
 | j+1=>by rw [Rat.pow_succ,Int.pow_succ,Hy z j,Rat.intCast_mul]
theorem zX {p:List Rat} {m i N:Nat} {z:Int} {x:Rat} {U:Nat} (h0:D≠0) (hp:∀ a∈p,Bd D S a) (ho:Bd pW 4 aF) (hz:z=(N:Int)) (hN:1≤N) (hm:m≤4) (hx:Bd (D*pW^(L+4)*N^4) U x) :
  ∀ k,k≤L→Bd (D*pW^(L+4)*N^4) (U+k*(S*4^(L+4))) (fR p m i aF (z:Rat) x k)
 | 0,_=>by rw [fR,Nat.zero_mul,Nat.add_zero];exact hx
 | k+1,hk=>by
   have ih:=zX (i:=i) h0 hp ho hz hN hm hx k (by omega);rw [fR,Nat.add_mul k 1,Nat.one_mul,←Nat.add_assoc];have hNz:N^4≠0:=Nat.pos_iff_ne_zero.1 (Nat.pow_pos hN);have hD:=Nat.mul_ne_zero h0 (JW (L+4));split
   ·refine ih.add (Nat.mul_ne_zero hD hNz) ?_;have h1:=(gY hp k).abs.mul h0 (JW _) (BC ho (j:=m+k-i) (n:=L+4) (by omega));have hpw:(z:Rat)^(m-i)=((z^(m-i):Int):Rat):=Hy z _;have hzn:z^(m-i)≠0:=Int.pow_ne_zero (by omega);have h2:=h1.div hD (E:=1) (by omega) (Bd.int (Nat.le_refl _)) (Pj hzn);rw [Rat.num_intCast,Nat.mul_one,←hpw] at h2;refine h2.mono (Nat.mul_dvd_mul (Nat.dvd_refl _) ?_) (Nat.le_refl _);rw [hz,Int.natAbs_pow,Int.natAbs_natCast];exact Nat.pow_dvd_pow N (by omega)
   ·exact ih.le (Nat.le_add_right _ _)
theorem wF {q:List (List Rat)} {m N:Nat} {z:Int} (h0:D≠0) (hq:∀ p∈q,p.length≤L∧∀ a∈p,Bd D S a) (ho:Bd pW 4 aF) (hz:z=(N:Int)) (hN:1≤N) (hm:m≤4) :
  ∀ i,Bd (D*pW^(L+4)*N^4) (i*(L*(S*4^(L+4)))) (bK q m aF (z:Rat) i)
 | 0=>Bd.zero
 | i+1=>by
   have hp:(q.getD i []).length≤L∧∀ b∈q.getD i [],Bd D S b:=by
    rw [List.getD_eq_getElem?_getD];cases h:q[i]? with
    | none=>exact ⟨Nat.zero_le _,fun b hb=>by cases hb⟩
    | some p=>exact hq p (List.mem_of_getElem? h)
   rw [bK,Nat.add_mul i 1,Nat.one_mul];exact (zX h0 hp.2 ho hz hN hm (wF h0 hq ho hz hN hm i) _ hp.1).le (Nat.add_le_add_left (Nat.mul_le_mul_right _ hp.1) _)
end
def uR:Nat:=dM*pW^105*4097^4
def vR:Nat:=1024*(sM*4^105)
def wR:Nat:=pW^215
def xR:Nat:=4^215
theorem at4:∃ B,128≤B∧B≤1000000∧wR<2^B∧xR*wR<2^B∧uR<2^B∧vR*uR<2^B:=
 ⟨131072,by decide,by decide,by decide +kernel,by decide +kernel,by decide +kernel,by decide +kernel⟩
theorem ah7:dM≤uR:=by unfold uR;rw [Nat.mul_assoc];exact Nat.le_mul_of_pos_right _ (Nat.mul_pos (Nat.pow_pos Dp) (by decide))
theorem ZI {X:Rat} (h:rI X):dX X≤uR:=Nat.le_trans h.dX ah7
theorem ZU:sM≤vR:=by unfold vR;exact Nat.le_trans (Nat.le_mul_of_pos_right _ (Nat.pow_pos (by decide))) (Nat.le_mul_of_pos_left _ (by decide))
theorem QD {j k:Nat} (hj:j≤1024) (hk:k≤105):j*(sM*4^k)≤vR:=by unfold vR;exact Nat.mul_le_mul hj (Nat.mul_le_mul_left _ (Nat.pow_le_pow_right (by decide) hk))
theorem ah9 {X:Rat} (h:rI X):dX X*pW^101≤uR:=by
 refine Nat.le_trans (Nat.mul_le_mul_right _ h.dX) ?_;unfold uR;rw [Nat.mul_assoc];exact Nat.mul_le_mul_left _ (Nat.le_trans (Nat.pow_le_pow_right Dp (by decide)) (Nat.le_mul_of_pos_right _ (by decide)))
theorem ZF {X:Rat} (h:rI X) {N:Nat} (h1:1≤N) (h2:N≤4097):dX X*pW^(101+4)*N^4≠0∧dX X*pW^(101+4)*N^4≤uR:=
 ⟨Nat.mul_ne_zero (Nat.mul_ne_zero (wP X) (JW _)) (Nat.pos_iff_ne_zero.1 (Nat.pow_pos h1)),by unfold uR;rw [show (101+4:Nat)=105 from rfl];exact Nat.mul_le_mul (Nat.mul_le_mul_right _ h.dX) (Nat.pow_le_pow_left h2 4)⟩
theorem TB {m s i:Nat} (h1:m≤s) (h2:s*2^i≤4096):∃ N:Nat,(((s*2^i:Nat):Int)-m+1)=(N:Int)∧1≤N∧N≤4097:=by
 have h3:1≤2^i:=Nat.pow_pos (by omega);have h4:s*1≤s*2^i:=Nat.mul_le_mul_left _ h3;exact ⟨s*2^i-m+1,by omega,by omega,by omega⟩
theorem QX {N j:Nat} (h2:N≤4097) (hj:j≤9):Fit 128 (((N:Int):Rat)^j):=by
 have hp:((N:Int):Rat)^j=(((N:Int)^j:Int):Rat):=Hy _ j;rw [hp];refine Fit.int (by decide) ?_;rw [Int.natAbs_pow,Int.natAbs_natCast];exact Nat.lt_of_le_of_lt (Nat.pow_le_pow_left h2 j) (Nat.lt_of_le_of_lt (Nat.pow_le_pow_right (by decide) hj) (by decide +kernel))
theorem IP {q:List (List Rat)} {D S L:Nat} (hq:∀ p∈q,p.length≤L∧∀ b∈p,Bd D S b) (i:Nat):(q.getD i []).length≤L∧∀ b∈q.getD i [],Bd D S b:=by
 rw [List.getD_eq_getElem?_getD];cases hg:q[i]? with
 | none=>exact ⟨Nat.zero_le _,fun b hb=>by cases hb⟩
 | some p=>exact hq p (List.mem_of_getElem? hg)
theorem CU {E:List (List Rat)} {ER:List (List RQ)} {X:Rat} {XR:RQ} (h:SmallX E ER X XR) {m:Nat} {lead:Rat} (hm:E.length=m+1) (hm4:m≤4) (hl:Bd (dX X) sM lead) :
  ∃ B,64≤B∧B≤1000000∧∀ h0 s i0,h0≤63→m≤s→Ke B (bD E X) m lead 101 h0 s i0:=by
 obtain ⟨B,h128,hB,r1,r2,r3,r4⟩:=at4;have fit:∀ {u v:Nat} {x:Rat},u≠0→Bd u v x→u≤uR→v≤vR→Fit B x:=fun {u v x} hu hx h1 h2=>hx.fit hu (Nat.lt_of_le_of_lt h1 r3) (Nat.lt_of_le_of_lt (Nat.mul_le_mul h2 h1) r4);have hrp:∀ hh,hh≤63→∀ j,j≤215→Fit B (bA hh^j):=fun hh hh2 j hj=>(BC (qJ hh2) hj).fit (JW _) r1 r2;clear r1 r2 r3 r4;have hq:=h.UN;have hql:(bD E X).length=m+1:=by rw [bD,List.length_map,hm]
 have hfq:∀ p∈bD E X,p.length≤101∧∀ x∈p,Fit B x:=fun p hp=>⟨(hq p hp).1,fun x hx=>fit (wP X) ((hq p hp).2 x hx) (ZI h.xb) ZU⟩
 refine ⟨B,by omega,hB,fun h0 s i0 hh63 hms=>⟨fit (wP X) hl (ZI h.xb) ZU,hfq,fun hh _ hh2 j hj=>hrp hh (by omega) j (by omega),fun hh _ hh2 k hk=>?_,fun i _ hi=>?_,fun i _ hi=>?_⟩⟩
 ·have hr:∀ a∈((bD E X).getD m []).drop 1,Bd (dX X) sM a:=fun a ha=>(IP hq m).2 a (List.mem_of_mem_drop ha);exact fit (Nat.mul_ne_zero (wP X) (JW 101)) (NN (L:=101) (wP X) hr (qJ (by omega)) k hk) (ah9 h.xb) (QD (by omega) (by omega))
 ·obtain ⟨N,hNe,hN1,hN2⟩:=TB hms hi;obtain ⟨g1,g2⟩:=ZF h.xb hN1 hN2;rw [hNe];refine ⟨hfq,fun j hj=>hrp h0 hh63 j (by omega),fun j hj=>(QX hN2 (by omega)).mono h128,fun i' k hi' hk=>?_⟩;have hpi:=IP hq i';have ho:=wF (L:=101) (m:=m) (N:=N) (z:=(N:Int)) (wP X) hq (qJ hh63) rfl hN1 hm4 i';have hin:=zX (L:=101) (i:=i') (z:=(N:Int)) (wP X) hpi.2 (qJ hh63) rfl hN1 hm4 ho k (by omega);refine fit g1 hin g2 (Nat.le_trans ?_ (QD (j:=i'*101+101) (k:=101+4) (by omega) (by omega)));rw [Nat.add_mul,Nat.mul_assoc];exact Nat.add_le_add_left (Nat.mul_le_mul_right _ (by omega)) _
 ·obtain ⟨N,hNe,hN1,hN2⟩:=TB hms hi;obtain ⟨g1,g2⟩:=ZF h.xb hN1 hN2;rw [hNe,hql];refine fit g1 (wF (L:=101) (m:=m) (N:=N) (z:=(N:Int)) (wP X) hq (qJ hh63) rfl hN1 hm4 (m+1)) g2 (Nat.le_trans ?_ (QD (j:=(m+1)*101) (k:=101+4) (by omega) (by omega)));rw [Nat.mul_assoc];exact Nat.le_refl _
open Go Go.Proofs Tryz Ord
structure tZ (E:List (List Rat)) (X:Rat):Prop where
 ok:sA E=true
 reg:qA E X=true
theorem tZ.facts {E:List (List Rat)} {X:Rat} (h:tZ E X):2≤E.length∧E.length≤5∧aM E X≠0∧dD (E.getD (E.length-1) []) X ≠ []:=by
 have:=IX (e:=E) (c:=X) (y:=List.replicate (E.length-1) 0) (by unfold okF;rw [h.ok,h.reg];simp);exact ⟨this.1,this.2.1,this.2.2.2.1,this.2.2.2.2⟩
section
variable {E:List (List Rat)} {ER:List (List RQ)} {X:Rat} {XR:RQ}
theorem SmallX.aK6 (h:SmallX E ER X XR) (hr:tZ E X):Bd (dX X) sM (aM E X):=by
 obtain ⟨h2,h5,hld,_⟩:=hr.facts;obtain ⟨p,hp,hp0⟩:=vP hld (by omega);exact (h.UN p (List.mem_of_getElem? hp)).2 _ (List.mem_of_getElem? hp0)
def CY (E:List (List Rat)) (X:Rat):Out:=match jN (bD E X) (E.length-1) (aM E X) with
 | some (aF,st)=>.ret [.agg (zF (bD E X) (E.length-1) (aM E X) aF (st:Nat))]
 | none=>.pan (MK 5)
def lR (E:List (List Rat)) (X:Rat):RQ×Nat:=match jN (bD E X) (E.length-1) (aM E X) with
 | some (aF,st)=>(.of aF,st)
 | none=>(.nil,0)
theorem OM (h:SmallX E ER X XR) (hr:tZ E X):aK prog 100 [.one (eQ E),qT X] (.ret [xY (bD E X) (E.length-1) (aM E X)]):=by
 obtain ⟨B,h64,hB,hR⟩:=ZV;obtain ⟨h2,h5,hld,hne⟩:=hr.facts;exact Li (h.room hB (hR _ h.xb.d).1) (by omega) (by omega) hne
theorem Hk (h:SmallX E ER X XR) (hr:tZ E X):aK prog 123 [xY (bD E X) (E.length-1) (aM E X)] (CY E X):=by
 obtain ⟨h2,h5,hld,hne⟩:=hr.facts;obtain ⟨m,hm⟩:∃ m,E.length-1=m:=⟨_,rfl⟩
 obtain ⟨B,h64,hB,hM⟩:=CU h (m:=m) (by omega) (by omega) (h.aK6 hr);obtain ⟨hh,ii,hrv,f1,f2,f3,f4,f5,f6⟩:=yJ (q:=bD E X) (m:=m) (lead:=aM E X) (by omega);obtain ⟨p,hp,hp0⟩:=vP hld (by omega);rw [hm] at hp
 have hd:=FR (bD E X) m (aM E X) B 101 hh ii (hM hh _ ii f1 (by omega)) (by rw [bD,List.length_map];omega) (by omega) (by omega) (by omega) h64 f1
  (by rw [List.getD_eq_getElem?_getD,hp];exact (List.getElem?_eq_some_iff.1 hp0).1) f2 f3 (fun _=>f5) (fun _=>f6) f4
 unfold CY;rw [hm];generalize jN (bD E X) m (aM E X)=rv at *;clear hM f1 f2 f3 f4 f5 f6;generalize (m+aV (bD E X)+m)*2^ii=st at *;split at hd
 ·rename_i hc;rw [if_pos hc] at hrv;subst hrv;exact hd
 ·rename_i hc;rw [if_neg hc] at hrv;subst hrv;exact hd
end
open Go Go.Proofs Tryz Ord
theorem Vd {m N D S E T L a b c:Nat} (hq:kM m N D S E≤2^a) (hr:dR m N D S L≤2^b) (hd:D≤2^c) (ht:T≤2^10):AP m N D S E T L≤2^(c+a*N+(10+b*(N+1))):=by
 unfold AP;rw [Nat.pow_add 2 (c+a*N),Nat.pow_add 2 c,Nat.pow_mul 2 a N,Nat.pow_add 2 10,Nat.pow_mul 2 b];exact Nat.mul_le_mul (Nat.mul_le_mul hd (Nat.pow_le_pow_left hq N)) (Nat.mul_le_mul ht (Nat.pow_le_pow_left hr (N+1)))
theorem ah1:dM≤2^6600∧∀ m,m<5→kM m 4096 dM sM (dQ 999)≤2^14000∧dR m 4096 dM sM 101≤2^7500:=by decide +kernel
theorem wJ {m N M:Nat} (h:N≤M):gM m N≤gM m M:=Nat.pow_le_pow_left (by omega) m
theorem LL {m N M D F S E:Nat} (hN:N≤M) (h:D≤F):kM m N D S E≤kM m M F S E:=by
 unfold kM;exact Nat.add_le_add (Nat.mul_le_mul_left _ (wJ hN)) (Nat.mul_le_mul h (Nat.mul_le_mul (Nat.mul_le_mul_left _ (wJ hN)) h))
theorem La {m N M D F S L:Nat} (hN:N≤M) (h:D≤F):dR m N D S L≤dR m M F S L:=by
 unfold dR;exact Nat.mul_le_mul (Nat.mul_le_mul_left _ (Nat.mul_le_mul_left _ (Nat.mul_le_mul_left _ (wJ hN)))) h
theorem Zr {X:Rat} (h:rI X) {N:Nat} (hN:N≤4096):dX X≤2^6600∧∀ m,m<5→kM m N (dX X) sM (dQ 999)≤2^14000∧dR m N (dX X) sM 101≤2^7500:=by
 obtain ⟨h1,h2⟩:=ah1;exact ⟨Nat.le_trans h.dX h1,fun m hm=>⟨Nat.le_trans (LL hN h.dX) (h2 m hm).1,Nat.le_trans (La hN h.dX) (h2 m hm).2⟩⟩
theorem Ro {m N D S E T L a b c B:Nat} (hq:kM m N D S E≤2^a) (hr:dR m N D S L≤2^b) (hd:D≤2^c) (ht:T≤2^10) (hB:c+a*N+(10+b*(N+1))<B):AP m N D S E T L<2^B:=
 Nat.lt_of_le_of_lt (Vd hq hr hd ht) (Nat.pow_lt_pow_right (by decide) hB)
def bN (N:Nat):Nat:=21500*N+14200
theorem az7 {X:Rat} (h:rI X) {N:Nat} (hN:N≤4096) (m:Nat) (hm:m<5):AP m N (dX X) sM (dQ 999) 999 101<2^bN N:=by
 obtain ⟨h0,hh⟩:=Zr h hN;obtain ⟨h1,h2⟩:=hh m hm;exact Ro h1 h2 h0 (by decide) (by unfold bN;omega)
theorem jI {q:List (List Rat)} {m:Nat} {lead aF:Rat} {st:Nat} (hm:1≤m) (h:jN q m lead=some (aF,st)):∃ hh,hh≤62∧aF=bA hh∧st≤4096∧m+aV q+m≤st:=by
 obtain ⟨hh,ii,hrv,f1,_,_,_,_,_⟩:=yJ (q:=q) (m:=m) (lead:=lead) hm;rw [h] at hrv;split at hrv
 ·cases hrv
 ·rename_i hc;simp only [Option.some.injEq,Prod.mk.injEq] at hrv;obtain ⟨rfl,rfl⟩:=hrv;have h1:1≤2^ii:=Nat.pow_pos (by omega);have h2:(m+aV q+m)*1≤(m+aV q+m)*2^ii:=Nat.mul_le_mul_left _ h1;generalize (m+aV q+m)*2^ii=st at *;exact ⟨hh,by omega,rfl,by omega,by omega⟩
structure uC (r:Rat):Prop where
 d:r.den≤2^200
 s:r.num.natAbs≤4096*r.den
theorem uC.bd {X:Rat} (h:uC X):Bd X.den 4096 X:=⟨Nat.dvd_refl _,h.s⟩
theorem uC.fit {X:Rat} (h:uC X):Fit 220 X:=
 ⟨Nat.lt_of_le_of_lt (Nat.le_trans h.s (Nat.mul_le_mul_left _ h.d)) (by decide),Nat.lt_of_le_of_lt h.d (by decide)⟩
theorem uC.abs {X:Rat} (h:uC X):uC X.abs:=by
 obtain ⟨h1,h2⟩:=kO X;exact ⟨by rw [h2];exact h.d,by rw [h1,h2,Int.natAbs_natCast];exact h.s⟩
theorem rI.t {X:Rat} (h:rI X):uC X:=⟨Nat.le_trans h.d (by decide),Nat.le_trans h.s (Nat.mul_le_mul_right _ (by omega))⟩
def yRn (n:Nat):Nat:=(2^200)^n
def zRn (n:Nat):Nat:=4096^n
def pRn (n:Nat):Nat:=pW^n
def sRn (n:Nat):Nat:=4^n
theorem aq5:yRn 8193<2^2097152∧zRn 8193*yRn 8193<2^2097152∧pRn 8193<2^2097152∧sRn 8193*pRn 8193<2^2097152:=by decide +kernel
theorem XN {hh j n:Nat} (h:hh≤63) (hj:j≤n):Bd (pRn n) (sRn n) (bA hh^j):=by unfold pRn sRn;exact BC (qJ h) hj
theorem aw2 (n:Nat):pRn n≠0:=by unfold pRn;exact JW _
theorem aO1 {r:Rat} (hr:uC r) {j n B:Nat} (hj:j≤n) (h1:yRn n<2^B) (h2:zRn n*yRn n<2^B):Fit B (r^j):=by
 have hp:=Bd.pow (vX r) hr.bd j
 have hd:r.den^j≤yRn n:=by
  unfold yRn;exact Nat.le_trans (Nat.pow_le_pow_left hr.d j) (Nat.pow_le_pow_right (Nat.pow_pos (by omega)) hj)
 have hz:4096^j≤zRn n:=Nat.pow_le_pow_right (by omega) hj;exact hp.fit (Nat.pos_iff_ne_zero.1 (Nat.pow_pos r.den_pos)) (Nat.lt_of_le_of_lt hd h1) (Nat.lt_of_le_of_lt (Nat.mul_le_mul hz hd) h2)
theorem jZ {r:Rat} (hr:uC r) {hh n d B:Nat} (h62:hh≤62) (hn:n≤4096) (hd:d≤4) (hB:2097152≤B):qP B (bA hh) n d r:=by
 obtain ⟨r1,r2,r3,r4⟩:=aq5;have e1:∀ j,j≤8193→Fit 2097152 (r^j):=fun j hj=>aO1 hr hj r1 r2;have e2:∀ j,j≤8193→Fit 2097152 (bA hh^j):=fun j hj=>(XN (Nat.le_trans h62 (by decide)) hj).fit (aw2 _) r3 r4;clear r1 r2 r3 r4;refine ⟨fun j hj=>?_,fun j hj=>(e1 j (by omega)).mono hB,fun j hj=>(e2 j (by omega)).mono hB⟩;have hz:=lX (z:=(n:Int)) (N:=4100) j (by omega);have h2:(4100:Nat)^j≤4100^4:=Nat.pow_le_pow_right (by omega) (by omega);have h3:(4100:Nat)^4=282576100000000:=by decide
 rw [h3] at h2;exact (fD (by omega) (by omega)).mono (by omega)
theorem Od {a:List Rat} {aF:Rat} {B n0 W st:Nat} (haf:∀ x∈a,Fit B x) (h1:1≤B) (hrho:∀ j,j≤st→Fit B (aF^j)) (hw:n0+W≤st):∀ k,k≤W→Fit (B+B) (GP a aF n0 k)
 | 0,_=>Fit.zero (by omega)
 | k+1,hk=>by
   rw [GP];refine xD (by omega) (fun x hx=>?_) 2 (by simp);simp only [List.mem_cons,List.not_mem_nil,or_false] at hx;rcases hx with rfl | rfl
   ·exact Od haf h1 hrho hw k (by omega)
   ·exact (eU (mD h1 haf _)).mul (hrho _ (by omega))
open Go Go.Proofs Tryz Ord
section
variable {E:List (List Rat)} {ER:List (List RQ)} {X:Rat} {XR:RQ}
theorem SmallX.at (h:SmallX E ER X XR) {x:Rat} (hx:rI x):SmallX E ER x (.of x):=⟨h.e1,h.e2,h.sim,rfl,h.el,h.eb,h.rb,hx⟩
end
open Go Go.Proofs Tryz Ord
open Go Go.Proofs Tryz Ord
def ai0:Tr:=bB .gtr 3 3 16 0 0 4 (.split (.u 1 0) (bB .rem 3 5 17 0 0 3 (.ret [(W 2 0)])) (.ret [(W 0 0)]))
theorem WW:aN prog f56 (fun _=>none) [.v none]=ai0:=by kernel_rfl
def RO:Tr:=.ret [(.agg [(U 2 0),(U 2 1),(U 2 2),(U 3 0),(U 3 1),(U 3 2)])]
def aC1:Tr:=aP 64 [(G3 0),(G3 1)] [(some 3)] [6,8] [39,39] 39 false (aP 64 [(.agg [(U 0 3),(U 0 4),(U 0 5)]),(.agg [(U 1 3),(U 1 4),(U 1 5)])] [(some 3)] [11,13] [39,39] 39 true RO)
theorem ad4:aN prog f66 (fun _=>none) [.v (some 6), .v (some 6)]=aC1:=by kernel_rfl
def ao3:Tr:=aP 65 [(G3 0)] [(some 3)] [3] [39] 39 false (.ret [(.agg [(U 1 0),(U 1 1),(U 1 2),(U 0 0),(U 0 1),(U 0 2)])])
theorem PW:aN prog f228 (fun _=>none) [.v (some 3)]=ao3:=by kernel_rfl
abbrev ZX (a b:Rat):List aI:=qC a++qC b
abbrev BG (a b:Rat):aG:=.agg (ZX a b)
def KE (k:Int):Int:=if k>16 then k%17 else k
theorem Oi (k:Int):aK prog 56 [(.one (.int .i64 k):aG)] (.ret [.one (.int .i64 (KE k))]):=by
 refine aD (args:=[.v none]) (ins:=[.v (.one (.int .i64 k))]) (hints:=(fun _=>none)) fo (by kernel_rfl) func56 ⟨rfl,trivial⟩ ?_;rw [WW];dsimp only [List.map,In.env,aA,aB];refine vn eF rfl ?_;dsimp only [aA,aB];refine vs _ rfl (fun h1=>?_) (fun h1=>?_)
 ·refine vn (gK (by omega) (by omega)) rfl ?_;dsimp only [aA,aB];rw [show KE k=k%17 from if_pos h1];exact aL rfl
 rw [show KE k=k from if_neg h1];exact aL rfl
theorem Ua (a b c d:Rat) (A B:Nat) (ha:Fit A a) (hb:Fit A b) (hc:Fit B c) (hd:Fit B d) (h:A+B≤34359738368):aK prog 66 [(BG a b:aG),(BG c d:aG)] (.ret [BG (a+c) (b+d)]):=by
 refine aD (args:=[.v (some 6), .v (some 6)]) (ins:=[.v (BG a b), .v (BG c d)]) (hints:=(fun _=>none)) fo (by kernel_rfl) func66 ⟨rfl,rfl,trivial⟩ ?_;rw [ad4];dsimp only [List.map,In.env,aA,aB];refine aC (kF a c A B ha hc h) rfl ?_;dsimp only [aA,aB];refine aC (kF b d A B hb hd h) rfl ?_;exact aL rfl
theorem PF (r:Rat):aK prog 228 [(qT r:aG)] (.ret [BG (-r) r]):=by
 refine aD (args:=[.v (some 3)]) (ins:=[.v (qT r)]) (hints:=(fun _=>none)) fo (by kernel_rfl) func228 ⟨rfl,trivial⟩ ?_;rw [PW];dsimp only [List.map,In.env,aA,aB];refine aC (De r) rfl ?_;exact aL rfl
open Go Go.Proofs Tryz Ord
def am2:Tr:=aP 256 [(W 1 0)] [(some 1)] [6] [3] 35 false (aP 157 [(.agg [(U 2 0),(tE (.bool false))])] [(some 3)] [8] [37] 39 true (aP 36 [(G3 0),(G3 3)] [(some 3)] [5,9] [39,39] 39 true (.ret [(G3 4)])))
theorem Sw:aN prog f285 (fun _=>none) [.v (some 3), .v none]=am2:=by kernel_rfl
def Ri:Tr:=.ret [(G3 3)]
def am4:Tr:=aP 117 [(G3 0)] [(some 1)] [5] [39] 35 false (aP 294 [(G2 0),(G1 1)] [(some 2)] [4,6] [37,35] 37 true (aP 157 [(G2 2)] [(some 3)] [7] [37] 39 true Ri))
theorem Rr:aN prog f286 (fun _=>none) [.v (some 3)]=am4:=by kernel_rfl
def ag9:Tr:=aP 65 [(G3 0)] [(some 3)] [3] [39] 39 false (aP 286 [(G3 1)] [(some 3)] [4] [39] 39 true (aP 65 [(G3 2)] [(some 3)] [5] [39] 39 true Ri))
theorem WA:aN prog f287 (fun _=>none) [.v (some 3)]=ag9:=by kernel_rfl
def Ug:Tr:=aP 202 [(W 1 0)] [(some 3)] [9] [3] 39 true (aP 36 [(G3 3),(G3 4)] [(some 3)] [8,10] [39,39] 39 true (.ret [(G3 5)]))
def ag5:Tr:=aP 285 [(G3 0),(W 1 0)] [(some 3)] [5,6] [39,3] 39 false (aP 286 [(G3 2)] [(some 3)] [7] [39] 39 false Ug)
theorem VZ:aN prog f268 (fun _=>none) [.v (some 3), .v none]=ag5:=by kernel_rfl
def az5:Tr:=aP 285 [(G3 0),(W 1 0)] [(some 3)] [5,6] [39,3] 39 false (aP 287 [(G3 2)] [(some 3)] [7] [39] 39 false Ug)
theorem aL4:aN prog f269 (fun _=>none) [.v (some 3), .v none]=az5:=by kernel_rfl
def ak0:Tr:=aP 268 [(G3 0),(W 1 0)] [(some 3)] [6,7] [39,3] 39 false (aP 269 [(.agg [(U 0 3),(U 0 4),(U 0 5)]),(W 1 0)] [(some 3)] [10,11] [39,3] 39 true RO)
theorem ai9:aN prog f229 (fun _=>none) [.v (some 6), .v none]=ak0:=by kernel_rfl
def Nq (q:Rat):Int:=q.num/(q.den:Int)
def qE (k:Nat):Rat:=(((2^k:Nat):Int):Rat)
def tJ (q:Rat) (k:Nat):Rat:=(Nq (q*qE k):Rat)*mkRat 1 (2^k)
def Zy (q:Rat) (k:Nat):Rat:=(((-Nq (-(q*qE k)):Int)):Rat)*mkRat 1 (2^k)
theorem Nn {q:Rat} {H:Nat} (h:Fit H q) (h1:1≤H):Fit H (Nq q:Rat):=Fit.int h1 (Nat.lt_of_le_of_lt (Int.natAbs_ediv_le_natAbs _ _) h.1)
set_option exponentiation.threshold 600 in
theorem tB {k:Nat} (h:k≤256):Fit 257 (qE k):=Fit.int (by omega) (by rw [Int.natAbs_natCast];exact Nat.pow_lt_pow_right (by omega) (by omega))
set_option exponentiation.threshold 600 in
theorem uI {k:Nat} (h:k≤256):Fit 257 (mkRat 1 (2^k)):=Fit.mkRat (Nat.one_lt_two_pow (by omega)) (Nat.pow_lt_pow_right (by omega) (by omega)) (Nat.pos_iff_ne_zero.1 (Nat.pow_pos (by omega)))
theorem Ul (k:Int) (hk:k≤256):aK prog 256 [(.one (.int .i64 k):aG)] (.ret [mT (2^k.toNat)]):=by
 refine aD (args:=[.v none]) (ins:=[.v (.one (.int .i64 k))]) (hints:=(fun _=>none)) fo (by kernel_rfl) func256 ⟨rfl,trivial⟩ ?_;rw [ZN];dsimp only [List.map,In.env,aA,aB];refine aC (hU 2 (by omega)) rfl ?_;dsimp only [aA,aB];refine aC (IU k 256) rfl ?_;rw [show max (0:Int) (min (k:Int) 256)=(k.toNat:Int) by omega];dsimp only [aA,aB];refine aC (NB 2 k.toNat 2 (by omega) (by omega) (by omega) (by omega)) rfl ?_;exact aL rfl
theorem BI (k:Int) (hk:k≤256):aK prog 202 [(.one (.int .i64 k):aG)] (.ret [qT (mkRat 1 (2^k.toNat))]):=by
 refine aD (args:=[.v none]) (ins:=[.v (.one (.int .i64 k))]) (hints:=(fun _=>none)) fo (by kernel_rfl) func202 ⟨rfl,trivial⟩ ?_;rw [QZ];dsimp only [List.map,In.env,aA,aB];refine aC (GF 1 (by omega) (by omega)) rfl ?_;dsimp only [aA,aB];refine aC (Ul k hk) rfl ?_;dsimp only [aA,aB]
 refine aC (yL 1 (2^k.toNat) (Nat.pow_pos (by omega)) (by
  obtain ⟨H,hH⟩:∃ H,H=257:=⟨_,rfl⟩
  have h1:(dg (2^k.toNat)).length≤H:=fE (Nat.pow_lt_pow_right (by omega) (by omega));have h2:(dg (1:Int).natAbs).length=1:=by rw [show (1:Int).natAbs=1 from rfl,pP (by omega) (by omega)];rfl
  omega)) rfl ?_
 exact aL rfl
theorem Iq (q:Rat) (k:Int) (H:Nat) (hk:k≤256) (hq:Fit H q) (hH:H≤8589934592):aK prog 285 [(qT q:aG),(.one (.int .i64 k):aG)] (.ret [qT (q*qE k.toNat)]):=by
 refine aD (args:=[.v (some 3), .v none]) (ins:=[.v (qT q), .v (.one (.int .i64 k))]) (hints:=(fun _=>none)) fo (by kernel_rfl) func285 ⟨rfl,rfl,trivial⟩ ?_;rw [Sw];dsimp only [List.map,In.env,aA,aB];refine aC (Ul k hk) rfl ?_;dsimp only [aA,aB];have hz:decide (((2^k.toNat:Nat):Int)<0)=false:=decide_eq_false (Int.not_lt.2 (Int.natCast_nonneg _));have hw:=Hl ((2^k.toNat:Nat):Int);rw [show iT ((2^k.toNat:Nat):Int) = .agg [dT (2^k.toNat), .exact (.bool false)] from by rw [show iT ((2^k.toNat:Nat):Int) = .agg [dT (2^k.toNat), .bool (decide (((2^k.toNat:Nat):Int)<0))] from rfl,hz]] at hw;refine aC hw rfl ?_;dsimp only [aA,aB];refine aC (cP q (qE k.toNat) H 257 hq (tB (by omega)) (by omega)) rfl ?_;exact aL rfl
theorem JD (q:Rat) (H:Nat) (hq:Fit H q) (hH:H≤8589934592):aK prog 286 [(qT q:aG)] (.ret [qT (Nq q:Rat)]):=by
 refine aD (args:=[.v (some 3)]) (ins:=[.v (qT q)]) (hints:=(fun _=>none)) fo (by kernel_rfl) func286 ⟨rfl,trivial⟩ ?_;rw [Rr];dsimp only [List.map,In.env,aA,aB];have h1:=HU hq.1;have h2:=HU hq.2;refine aC (eZ q (by omega)) rfl ?_;dsimp only [aA,aB];refine aC (SG q.num q.den q.den_pos (by omega)) rfl ?_;dsimp only [aA,aB];refine aC (Hl (q.num/(q.den:Int))) rfl ?_;exact aL rfl
theorem VF (q:Rat) (H:Nat) (hq:Fit H q) (hH:H≤8589934592):aK prog 287 [(qT q:aG)] (.ret [qT (((-Nq (-q):Int)):Rat)]):=by
 refine aD (args:=[.v (some 3)]) (ins:=[.v (qT q)]) (hints:=(fun _=>none)) fo (by kernel_rfl) func287 ⟨rfl,trivial⟩ ?_;rw [WA];dsimp only [List.map,In.env,aA,aB];refine aC (De q) rfl ?_;dsimp only [aA,aB];refine aC (JD (-q) H hq.neg hH) rfl ?_;dsimp only [aA,aB];refine aC (De _) rfl ?_;rw [show -((Nq (-q):Int):Rat)=((-Nq (-q):Int):Rat) by rw [Rat.intCast_neg]];exact aL rfl
theorem YO (q:Rat) (k:Int) (H:Nat) (hk:k≤256) (hq:Fit H q) (h1:1≤H) (hH:H≤4294967296):aK prog 268 [(qT q:aG),(.one (.int .i64 k):aG)] (.ret [qT (tJ q k.toNat)]):=by
 refine aD (args:=[.v (some 3), .v none]) (ins:=[.v (qT q), .v (.one (.int .i64 k))]) (hints:=(fun _=>none)) fo (by kernel_rfl) func268 ⟨rfl,rfl,trivial⟩ ?_;rw [VZ];dsimp only [List.map,In.env,aA,aB];refine aC (Iq q k H hk hq (by omega)) rfl ?_;dsimp only [aA,aB];refine aC (JD (q*qE k.toNat) (H+257) (hq.mul (tB (by omega))) (by omega)) rfl ?_;dsimp only [aA,aB];refine aC (BI k hk) rfl ?_;dsimp only [aA,aB];refine aC (cP _ _ (H+257) 257 (Nn (hq.mul (tB (by omega))) (by omega)) (uI (by omega)) (by omega)) rfl ?_;exact aL rfl
theorem aI4 (q:Rat) (k:Int) (H:Nat) (hk:k≤256) (hq:Fit H q) (h1:1≤H) (hH:H≤4294967296):aK prog 269 [(qT q:aG),(.one (.int .i64 k):aG)] (.ret [qT (Zy q k.toNat)]):=by
 refine aD (args:=[.v (some 3), .v none]) (ins:=[.v (qT q), .v (.one (.int .i64 k))]) (hints:=(fun _=>none)) fo (by kernel_rfl) func269 ⟨rfl,rfl,trivial⟩ ?_;rw [aL4];dsimp only [List.map,In.env,aA,aB];refine aC (Iq q k H hk hq (by omega)) rfl ?_;dsimp only [aA,aB];refine aC (VF (q*qE k.toNat) (H+257) (hq.mul (tB (by omega))) (by omega)) rfl ?_;dsimp only [aA,aB];refine aC (BI k hk) rfl ?_;dsimp only [aA,aB];refine aC (cP _ _ (H+257) 257 (by rw [Rat.intCast_neg];exact (Nn (hq.mul (tB (by omega))).neg (by omega)).neg) (uI (by omega)) (by omega)) rfl ?_;exact aL rfl
theorem ac4 (a b:Rat) (k:Int) (H:Nat) (hk:k≤256) (ha:Fit H a) (hb:Fit H b) (h1:1≤H) (hH:H≤4294967296):aK prog 229 [(BG a b:aG),(.one (.int .i64 k):aG)] (.ret [BG (tJ a k.toNat) (Zy b k.toNat)]):=by
 refine aD (args:=[.v (some 6), .v none]) (ins:=[.v (BG a b), .v (.one (.int .i64 k))]) (hints:=(fun _=>none)) fo (by kernel_rfl) func229 ⟨rfl,rfl,trivial⟩ ?_;rw [ai9];dsimp only [List.map,In.env,aA,aB];refine aC (YO a k H hk ha h1 hH) rfl ?_;dsimp only [aA,aB];refine aC (aI4 b k H hk hb h1 hH) rfl ?_;exact aL rfl
open Go Go.Proofs Tryz Ord
theorem az1 (n:Int) {d:Nat} (hd:d≠0):Nq (mkRat n d)=n/(d:Int):=by
 unfold Nq;generalize hq:mkRat n d=q;obtain ⟨m,hm,h1,h2⟩:=Rat.mkRat_num_den hd (n':=q.num) (d':=q.den) (z':=q.den_nz) (c:=q.reduced) (by rw [hq]);rw [h1,h2,Int.natCast_mul,Int.mul_ediv_mul_of_pos_left _ _ (by omega)]
theorem Xz (q:Rat) (k:Nat):Nq (q*qE k)=q.num*((2^k:Nat):Int)/(q.den:Int):=by
 rw [qE,Rat.mul_def',Rat.num_intCast,Rat.den_intCast,Nat.mul_one,az1 _ q.den_nz]
theorem Zk (q:Rat) (k:Nat):-(tJ (-q) k)=Zy q k:=by
 unfold tJ Zy;rw [Rat.intCast_neg,show -q*qE k = -(q*qE k) by grind]
 grind
end Go.Sy
