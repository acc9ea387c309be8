/- Part. -/
import Derived.Test.YtdmcadckdnnglaaGreatDoorWb
set_option linter.all false
namespace Go.Sy
open Go Go.Proofs Tryz Ord
def mJ (p:Nat→Bool):Nat→Nat→Nat
 | h,0=>h
 | h,n+1=>if p h then h else mJ p (h+1) n
theorem sO (p:Nat→Bool):∀ n h,h≤mJ p h n∧mJ p h n≤h+n∧(∀ k,h≤k→k<mJ p h n→p k=false)∧(mJ p h n<h+n→p (mJ p h n)=true)
 | 0,h=>⟨bC _,bC _,fun k h1 h2=>by simp only [mJ] at h2;omega,fun h2=>by simp only [mJ] at h2;omega⟩
 | n+1,h=>by
   rw [mJ];split
   ·rename_i hp;exact ⟨bC _,by omega,fun k h1 h2=>by omega,fun _=>hp⟩
   ·rename_i hp;obtain ⟨h1,h2,h3,h4⟩:=sO p n (h+1);refine ⟨by omega,by omega,fun k hk1 hk2=>?_,fun hk=>h4 (by omega)⟩;rcases Nat.lt_or_ge h k with hlt | hge
    ·exact h3 k hlt hk2
    ·rw [show k=h by omega];simpa using hp
def Lt (q:List (List Rat)) (m:Nat) (lead:Rat):Nat:=mJ (fun h=>decide (mA q m lead h)) 0 63
def Oc (q:List (List Rat)) (m:Nat):Nat:=m+bE q+m
def iOf (q:List (List Rat)) (m:Nat) (lead aF:Rat):Nat:=mJ (fun i=>decide (4096<Oc q m*2^i∨fU q m lead aF (Oc q m*2^i))) 0 13
def cY (q:List (List Rat)) (m:Nat) (lead:Rat):Option (Rat×Nat):=
 if Lt q m lead=63∨4096<Oc q m*2^iOf q m lead (bF (Lt q m lead)) then none else some (bF (Lt q m lead),Oc q m*2^iOf q m lead (bF (Lt q m lead)))
theorem Ks {q:List (List Rat)} {m:Nat} {lead:Rat} (hm:1≤m):Lt q m lead≤63∧(∀ h,h<Lt q m lead→¬ mA q m lead h)∧(Lt q m lead≤62→mA q m lead (Lt q m lead)) ∧
  iOf q m lead (bF (Lt q m lead))≤13∧(∀ i,i<iOf q m lead (bF (Lt q m lead))→Oc q m*2^i≤4096∧¬ fU q m lead (bF (Lt q m lead)) (Oc q m*2^i)) ∧
  (4096<Oc q m*2^iOf q m lead (bF (Lt q m lead))∨fU q m lead (bF (Lt q m lead)) (Oc q m*2^iOf q m lead (bF (Lt q m lead)))):=by
 obtain ⟨_,h2,h3,h4⟩:=sO (fun h=>decide (mA q m lead h)) 63 0;have e1:mJ (fun h=>decide (mA q m lead h)) 0 63=Lt q m lead:=rfl;rw [e1] at h2 h3 h4;generalize Lt q m lead=hh at *;obtain ⟨_,k2,k3,k4⟩:=sO (fun i=>decide (4096<Oc q m*2^i∨fU q m lead (bF hh) (Oc q m*2^i))) 13 0;have e2:mJ (fun i=>decide (4096<Oc q m*2^i∨fU q m lead (bF hh) (Oc q m*2^i))) 0 13=iOf q m lead (bF hh):=rfl;rw [e2] at k2 k3 k4;generalize iOf q m lead (bF hh)=ii at *;refine ⟨by omega,fun h hlt=>of_decide_eq_false (h3 h (bV _) hlt),fun hlt=>of_decide_eq_true (h4 (by omega)),by omega,fun i hi=>?_,?_⟩
 ·have:=of_decide_eq_false (k3 i (bV _) hi);exact ⟨by omega,fun h=>this (.inr h)⟩
 ·rcases Nat.lt_or_ge ii 13 with h | h
  ·exact of_decide_eq_true (k4 (by omega))
  ·left
   rw [show ii=13 by omega];have:2≤Oc q m:=by unfold Oc;omega
   omega
theorem DY {q:List (List Rat)} {m:Nat} {lead:Rat} (hm:1≤m:=by omega):∃ hh ii,cY q m lead=(if hh=63∨4096<(m+bE q+m)*2^ii then none else some (bF hh,(m+bE q+m)*2^ii))∧hh≤63∧(∀ h,h<hh→¬ mA q m lead h)∧(hh≤62→mA q m lead hh) ∧
  ii≤13∧(∀ i,i<ii→(m+bE q+m)*2^i≤4096∧¬ fU q m lead (bF hh) ((m+bE q+m)*2^i))∧(4096<(m+bE q+m)*2^ii∨fU q m lead (bF hh) ((m+bE q+m)*2^ii)):=
 ⟨_,_,rfl,Ks hm⟩
theorem _root_.Ord.Bd.abs {D S:Nat} {q:Rat} (h:Bd D S q):Bd D S q.abs:=by
 obtain ⟨h1,h2⟩:=mO q;exact ⟨by rw [h2];exact h.1,by rw [h1,h2];simpa using h.2⟩
def qY:Nat:=2^63
theorem OA:qY≠0:=by unfold qY;decide
theorem DF:0<qY:=Nat.pos_of_ne_zero OA
theorem sG {h:Nat} (hh:h≤63):Bd qY 4 (bF h):=by
 unfold qY;have h1:Bd (2^h) 1 (mkRat 1 (2^h)):=Bd.mk (Nat.pos_iff_ne_zero.1 (Nat.pow_pos (by omega))) (by have:=Nat.pow_pos (a:=2) (n:=h) (by omega);simp;omega);have h2:=(Bd.int (D:=1) (n:=4) (S:=4) (by omega)).mul (by omega) (by decide) (h1.mono (Nat.pow_dvd_pow 2 hh) (bC _));exact h2.mono (by simp) (by omega)
theorem zO (h:Nat):bF h≠0:=by
 intro e;rcases Rat.mul_eq_zero.1 e with e | e
 ·exact absurd e (by decide +kernel)
 ·rw [Rat.mkRat_eq_zero (Nat.pos_iff_ne_zero.1 (Nat.pow_pos (by omega)))] at e;omega
theorem Ch {x:Rat} (h:Bd qY 4 x) {j n:Nat} (hj:j≤n:=by omega):Bd (qY^n) (4^n) (x^j):=
 (Bd.pow OA h j).mono (Nat.pow_dvd_pow _ hj) (Nat.pow_le_pow_right (by omega) hj)
theorem Jm (n:Nat):qY^n≠0:=Nat.pos_iff_ne_zero.1 (Nat.pow_pos DF)
section
variable {D S L:Nat} {aF:Rat}
theorem OB {r:List Rat} (h0:D≠0) (hr:∀ a∈r,Bd D S a) (ho:Bd qY 4 aF):∀ k,k≤L→Bd (D*qY^L) (k*(S*4^L)) (sX r aF k)
 | 0,_=>Bd.zero
 | k+1,hk=>by
   rw [sX,Nat.add_mul,Nat.one_mul];refine (OB h0 hr ho k (by omega)).add (Nat.mul_ne_zero h0 (Jm _)) ?_;exact (jJ hr k).abs.mul h0 (Jm _) (Ch ho hk)
theorem HL (z:Int):∀ j:Nat,((z:Rat))^j=((z^j:Int):Rat)
 | 0=>by rw [Rat.pow_zero,Int.pow_zero];rfl
 | j+1=>by rw [Rat.pow_succ,Int.pow_succ,HL z j,Rat.intCast_mul]
theorem Au {p:List Rat} {m i N:Nat} {z:Int} {x:Rat} {U:Nat} (h0:D≠0) (hp:∀ a∈p,Bd D S a) (ho:Bd qY 4 aF) (hz:z=(N:Int)) (hN:1≤N) (hm:m≤4) (hx:Bd (D*qY^(L+4)*N^4) U x) :
  ∀ k,k≤L→Bd (D*qY^(L+4)*N^4) (U+k*(S*4^(L+4))) (iX p m i aF (z:Rat) x k)
 | 0,_=>by rw [iX,Nat.zero_mul,Nat.add_zero];exact hx
 | k+1,hk=>by
   have ih:=Au (i:=i) h0 hp ho hz hN hm hx k (by omega);rw [iX,Nat.add_mul k 1,Nat.one_mul,←Nat.add_assoc];have hNz:N^4≠0:=Nat.pos_iff_ne_zero.1 (Nat.pow_pos hN);have hD:=Nat.mul_ne_zero h0 (Jm (L+4));split
   ·refine ih.add (Nat.mul_ne_zero hD hNz) ?_;have h1:=(jJ hp k).abs.mul h0 (Jm _) (Ch ho (j:=m+k-i) (n:=L+4));have hpw:(z:Rat)^(m-i)=((z^(m-i):Int):Rat):=HL z _;have hzn:z^(m-i)≠0:=Int.pow_ne_zero (by omega);have h2:=h1.div hD (E:=1) (by omega) (Bd.int (bC _)) (Jp hzn);rw [Rat.num_intCast,Nat.mul_one,←hpw] at h2;refine h2.mono (Nat.mul_dvd_mul (Nat.dvd_refl _) ?_) (bC _);rw [hz,Int.natAbs_pow,Int.natAbs_natCast];exact Nat.pow_dvd_pow N (by omega)
   ·exact ih.le (Nat.le_add_right _ _)
theorem xB {q:List (List Rat)} {m N:Nat} {z:Int} (h0:D≠0) (hq:∀ p∈q,p.length≤L∧∀ a∈p,Bd D S a) (ho:Bd qY 4 aF) (hz:z=(N:Int)) (hN:1≤N) (hm:m≤4) :
  ∀ i,Bd (D*qY^(L+4)*N^4) (i*(L*(S*4^(L+4)))) (gP q m aF (z:Rat) i)
 | 0=>Bd.zero
 | i+1=>by
   have hp:(q.getD i []).length≤L∧∀ b∈q.getD i [],Bd D S b:=by
    rw [dS];cases h:q[i]? with
    | none=>exact ⟨bV _,fun b hb=>by cases hb⟩
    | some p=>exact hq p (cI h)
   rw [gP,Nat.add_mul i 1,Nat.one_mul];exact (Au h0 hp.2 ho hz hN hm (xB h0 hq ho hz hN hm i) _ hp.1).le (Nat.add_le_add_left (Nat.mul_le_mul_right _ hp.1) _)
end
def uR:Nat:=dM*qY^105*4097^4
def vR:Nat:=1024*(sM*4^105)
def wR:Nat:=qY^215
def xR:Nat:=4^215
theorem aW5:∃ B,128≤B∧B≤1000000∧wR<2^B∧xR*wR<2^B∧uR<2^B∧vR*uR<2^B:=
 ⟨131072,by decide,by decide,by decide +kernel,by decide +kernel,by decide +kernel,by decide +kernel⟩
theorem aA3:dM≤uR:=by unfold uR;rw [Nat.mul_assoc];exact Nat.le_mul_of_pos_right _ (Nat.mul_pos (Nat.pow_pos DF) (by decide))
theorem av7 {X:Rat} (h:oB X):dX X≤uR:=Nat.le_trans h.dX aA3
theorem at6:sM≤vR:=by unfold vR;exact Nat.le_trans (Nat.le_mul_of_pos_right _ (Nat.pow_pos (by decide))) (Nat.le_mul_of_pos_left _ (by decide))
theorem VY {j k:Nat} (hj:j≤1024:=by omega) (hk:k≤105:=by omega):j*(sM*4^k)≤vR:=by unfold vR;exact Nat.mul_le_mul hj (Nat.mul_le_mul_left _ (Nat.pow_le_pow_right (by decide) hk))
theorem aZ8 {X:Rat} (h:oB X):dX X*qY^101≤uR:=by
 refine Nat.le_trans (Nat.mul_le_mul_right _ h.dX) ?_;unfold uR;rw [Nat.mul_assoc];exact Nat.mul_le_mul_left _ (Nat.le_trans (Nat.pow_le_pow_right DF (by decide)) (Nat.le_mul_of_pos_right _ (by decide)))
theorem av2 {X:Rat} (h:oB X) {N:Nat} (h1:1≤N) (h2:N≤4097):dX X*qY^(101+4)*N^4≠0∧dX X*qY^(101+4)*N^4≤uR:=
 ⟨Nat.mul_ne_zero (Nat.mul_ne_zero (yH X) (Jm _)) (Nat.pos_iff_ne_zero.1 (Nat.pow_pos h1)),by unfold uR;rw [show (101+4:Nat)=105 from rfl];exact Nat.mul_le_mul (Nat.mul_le_mul_right _ h.dX) (Nat.pow_le_pow_left h2 4)⟩
theorem Tt {m s i:Nat} (h1:m≤s) (h2:s*2^i≤4096):∃ N:Nat,(((s*2^i:Nat):Int)-m+1)=(N:Int)∧1≤N∧N≤4097:=by
 have h3:1≤2^i:=Nat.pow_pos (by omega);have h4:s*1≤s*2^i:=Nat.mul_le_mul_left _ h3;exact ⟨s*2^i-m+1,by omega,by omega,by omega⟩
theorem Up {N j:Nat} (h2:N≤4097) (hj:j≤9:=by omega):Fit 128 (((N:Int):Rat)^j):=by
 have hp:((N:Int):Rat)^j=(((N:Int)^j:Int):Rat):=HL _ j;rw [hp];refine Fit.int (by decide) ?_;rw [Int.natAbs_pow,Int.natAbs_natCast];exact Nat.lt_of_le_of_lt (Nat.pow_le_pow_left h2 j) (Nat.lt_of_le_of_lt (Nat.pow_le_pow_right (by decide) hj) (by decide +kernel))
theorem KT {q:List (List Rat)} {D S L:Nat} (hq:∀ p∈q,p.length≤L∧∀ b∈p,Bd D S b) (i:Nat):(q.getD i []).length≤L∧∀ b∈q.getD i [],Bd D S b:=by
 rw [dS];cases hg:q[i]? with
 | none=>exact ⟨bV _,fun b hb=>by cases hb⟩
 | some p=>exact hq p (cI hg)
theorem Da {E:List (List Rat)} {ER:List (List RQ)} {X:Rat} {XR:RQ} (h:SmallX E ER X XR) {m:Nat} {lead:Rat} (hm:E.length=m+1) (hm4:m≤4) (hl:Bd (dX X) sM lead) :
  ∃ B,64≤B∧B≤1000000∧∀ h0 s i0,h0≤63→m≤s→KC B (bH E X) m lead 101 h0 s i0:=by
 obtain ⟨B,h128,hB,r1,r2,r3,r4⟩:=aW5;have fit:∀ {u v:Nat} {x:Rat},u≠0→Bd u v x→u≤uR→v≤vR→Fit B x:=fun {u v x} hu hx h1 h2=>hx.fit hu (Nat.lt_of_le_of_lt h1 r3) (Nat.lt_of_le_of_lt (Nat.mul_le_mul h2 h1) r4);have hrp:∀ hh,hh≤63→∀ j,j≤215→Fit B (bF hh^j):=fun hh hh2 j hj=>(Ch (sG hh2) hj).fit (Jm _) r1 r2;clear r1 r2 r3 r4;have hq:=h.RW;have hql:(bH E X).length=m+1:=by rw [bH,aP,hm]
 have hfq:∀ p∈bH E X,p.length≤101∧∀ x∈p,Fit B x:=fun p hp=>⟨(hq p hp).1,fun x hx=>fit (yH X) ((hq p hp).2 x hx) (av7 h.xb) at6⟩
 refine ⟨B,by omega,hB,fun h0 s i0 hh63 hms=>⟨fit (yH X) hl (av7 h.xb) at6,hfq,fun hh _ hh2 j hj=>hrp hh (by omega) j (by omega),fun hh _ hh2 k hk=>?_,fun i _ hi=>?_,fun i _ hi=>?_⟩⟩
 ·have hr:∀ a∈((bH E X).getD m []).drop 1,Bd (dX X) sM a:=fun a ha=>(KT hq m).2 a (List.mem_of_mem_drop ha);exact fit (Nat.mul_ne_zero (yH X) (Jm 101)) (OB (L:=101) (yH X) hr (sG (by omega)) k hk) (aZ8 h.xb) (VY)
 ·obtain ⟨N,hNe,hN1,hN2⟩:=Tt hms hi;obtain ⟨g1,g2⟩:=av2 h.xb hN1 hN2;rw [hNe];refine ⟨hfq,fun j hj=>hrp h0 hh63 j (by omega),fun j hj=>(Up hN2).mono h128,fun i' k hi' hk=>?_⟩;have hpi:=KT hq i';have ho:=xB (L:=101) (m:=m) (N:=N) (z:=(N:Int)) (yH X) hq (sG hh63) rfl hN1 hm4 i';have hin:=Au (L:=101) (i:=i') (z:=(N:Int)) (yH X) hpi.2 (sG hh63) rfl hN1 hm4 ho k (by omega);refine fit g1 hin g2 (Nat.le_trans ?_ (VY (j:=i'*101+101) (k:=101+4)));rw [Nat.add_mul,Nat.mul_assoc];exact Nat.add_le_add_left (Nat.mul_le_mul_right _ (by omega)) _
 ·obtain ⟨N,hNe,hN1,hN2⟩:=Tt hms hi;obtain ⟨g1,g2⟩:=av2 h.xb hN1 hN2;rw [hNe,hql];refine fit g1 (xB (L:=101) (m:=m) (N:=N) (z:=(N:Int)) (yH X) hq (sG hh63) rfl hN1 hm4 (m+1)) g2 (Nat.le_trans ?_ (VY (j:=(m+1)*101) (k:=101+4)));rw [Nat.mul_assoc];exact bC _
open Go Go.Proofs Tryz Ord
structure lJ (E:List (List Rat)) (X:Rat):Prop where
 ok:tV E=true
 reg:rG E X=true
theorem lJ.facts {E:List (List Rat)} {X:Rat} (h:lJ E X):2≤E.length∧E.length≤5∧aQ E X≠0∧eU (E.getD (E.length-1) []) X ≠ []:=by
 have:=oI (e:=E) (c:=X) (y:=List.replicate (E.length-1) 0) (by unfold okF;rw [h.ok,h.reg];simp);exact ⟨this.1,this.2.1,this.2.2.2.1,this.2.2.2.2⟩
theorem NV {E:List (List Rat)} {X:Rat} {Y:List Rat} (h:okF E X Y=true):lJ E X:=by
 unfold okF at h;simp only [Bool.and_eq_true] at h;exact ⟨h.1.1,h.2⟩
section
variable {E:List (List Rat)} {ER:List (List RQ)} {X:Rat} {XR:RQ}
theorem SmallX.av3 (h:SmallX E ER X XR) (hr:lJ E X):Bd (dX X) sM (aQ E X):=by
 obtain ⟨h2,h5,hld,_⟩:=hr.facts;obtain ⟨p,hp,hp0⟩:=nG hld;exact (h.RW p (cI hp)).2 _ (cI hp0)
def yJ (E:List (List Rat)) (X:Rat):Out:=match cY (bH E X) (E.length-1) (aQ E X) with
 | some (aF,st)=>.ret [.agg (Cn (bH E X) (E.length-1) (aQ E X) aF (st:Nat))]
 | none=>.pan (RY 5)
def iB (E:List (List Rat)) (X:Rat):RQ×Nat:=match cY (bH E X) (E.length-1) (aQ E X) with
 | some (aF,st)=>(.of aF,st)
 | none=>(.nil,0)
theorem PG (h:SmallX E ER X XR) (hr:lJ E X):aM prog 100 [.one (eQ E),qT X] (.ret [Ig (bH E X) (E.length-1) (aQ E X)]):=by
 obtain ⟨B,h64,hB,hR⟩:=SU;obtain ⟨h2,h5,hld,hne⟩:=hr.facts;exact MW (h.room hB (hR _ h.xb.d).1) (by omega) (by omega) hne
theorem Im (h:SmallX E ER X XR) (hr:lJ E X):aM prog 123 [Ig (bH E X) (E.length-1) (aQ E X)] (yJ E X):=by
 obtain ⟨h2,h5,hld,hne⟩:=hr.facts;obtain ⟨m,hm⟩:∃ m,E.length-1=m:=⟨_,rfl⟩
 obtain ⟨B,h64,hB,hM⟩:=Da h (m:=m) (by omega) (by omega) (h.av3 hr);obtain ⟨hh,ii,hrv,f1,f2,f3,f4,f5,f6⟩:=DY (q:=bH E X) (m:=m) (lead:=aQ E X);obtain ⟨p,hp,hp0⟩:=nG hld;rw [hm] at hp
 have hd:=Hb (bH E X) m (aQ E X) B 101 hh ii (hM hh _ ii f1 (by omega)) (by rw [bH,aP];omega) (by omega) (by omega) (by omega) h64 f1
  (by rw [dS,hp];exact (eF.1 hp0).1) f2 f3 (fun _=>f5) (fun _=>f6) f4
 unfold yJ;rw [hm];generalize cY (bH E X) m (aQ E X)=rv at *;clear hM f1 f2 f3 f4 f5 f6;generalize (m+bE (bH E X)+m)*2^ii=st at *;split at hd
 ·rename_i hc;rw [if_pos hc] at hrv;subst hrv;exact hd
 ·rename_i hc;rw [if_neg hc] at hrv;subst hrv;exact hd
theorem mQ (h:SmallX E ER X XR) (hr:lJ E X):aM prog 43 [.one (eR ER),fO XR] (.ret [fO (iB E X).1, .one (.int .i64 (iB E X).2)]):=by
 obtain ⟨h2,h5,hld,hne⟩:=hr.facts;obtain ⟨m,hm⟩:∃ m,E.length-1=m:=⟨_,rfl⟩
 obtain ⟨B,h64,hB,hM⟩:=Da h (m:=m) (by omega) (by omega) (h.av3 hr);obtain ⟨B1,h641,hB1,hMC⟩:=SU;obtain ⟨hh,ii,hrv,f1,f2,f3,f4,f5,f6⟩:=DY (q:=bH E X) (m:=m) (lead:=aQ E X);obtain ⟨p,hp,hp0⟩:=nG hld;rw [hm,←h.sh,fP,cL] at hp;obtain ⟨p0,hp1,rfl⟩:=Option.map_eq_some_iff.1 hp;rw [cL] at hp0;obtain ⟨l,hl0,hl⟩:=Option.map_eq_some_iff.1 hp0;unfold iB;rw [hm];generalize cY (bH E X) m (aQ E X)=rv at *;rw [←hl] at f2 f3 f5 f6 hM;have hd:=Um ER XR B1 (h.Mx (hMC _ h.xb.d).2) h641 (Bn ER XR) rfl (bH E X) h.sh m p0 l hp1 hl0 B 101 hh ii (hM hh _ ii f1 (by omega)) (by rw [bH,aP];omega) h64 f1 f2 f3 (fun _=>f5) (fun _=>f6) f4;clear hM f1 f2 f3 f4 f5 f6;generalize (m+bE (bH E X)+m)*2^ii=st at *;split at hd
 ·rename_i hc;rw [if_pos hc] at hrv;subst hrv;exact hd
 ·rename_i hc;rw [if_neg hc] at hrv;subst hrv;exact hd
end
open Go Go.Proofs Tryz Ord
theorem Uy {m N D S E T L a b c:Nat} (hq:mI m N D S E≤2^a) (hr:eK m N D S L≤2^b) (hd:D≤2^c) (ht:T≤2^10):BC m N D S E T L≤2^(c+a*N+(10+b*(N+1))):=by
 unfold BC;rw [Nat.pow_add 2 (c+a*N),Nat.pow_add 2 c,Nat.pow_mul 2 a N,Nat.pow_add 2 10,Nat.pow_mul 2 b];exact Nat.mul_le_mul (Nat.mul_le_mul hd (Nat.pow_le_pow_left hq N)) (Nat.mul_le_mul ht (Nat.pow_le_pow_left hr (N+1)))
theorem aQ1:dM≤2^6600∧∀ m,m<5→mI m 4096 dM sM (eL 999)≤2^14000∧eK m 4096 dM sM 101≤2^7500:=by decide +kernel
theorem xT {m N M:Nat} (h:N≤M):iR m N≤iR m M:=Nat.pow_le_pow_left (by omega) m
theorem MI {m N M D F S E:Nat} (hN:N≤M) (h:D≤F):mI m N D S E≤mI m M F S E:=by
 unfold mI;exact Nat.add_le_add (Nat.mul_le_mul_left _ (xT hN)) (Nat.mul_le_mul h (Nat.mul_le_mul (Nat.mul_le_mul_left _ (xT hN)) h))
theorem Mw {m N M D F S L:Nat} (hN:N≤M) (h:D≤F):eK m N D S L≤eK m M F S L:=by
 unfold eK;exact Nat.mul_le_mul (Nat.mul_le_mul_left _ (Nat.mul_le_mul_left _ (Nat.mul_le_mul_left _ (xT hN)))) h
theorem av9 {X:Rat} (h:oB X) {N:Nat} (hN:N≤4096):dX X≤2^6600∧∀ m,m<5→mI m N (dX X) sM (eL 999)≤2^14000∧eK m N (dX X) sM 101≤2^7500:=by
 obtain ⟨h1,h2⟩:=aQ1;exact ⟨Nat.le_trans h.dX h1,fun m hm=>⟨Nat.le_trans (MI hN h.dX) (h2 m hm).1,Nat.le_trans (Mw hN h.dX) (h2 m hm).2⟩⟩
theorem VZ {m N D S E T L a b c B:Nat} (hq:mI m N D S E≤2^a) (hr:eK m N D S L≤2^b) (hd:D≤2^c) (ht:T≤2^10) (hB:c+a*N+(10+b*(N+1))<B):BC m N D S E T L<2^B:=
 Nat.lt_of_le_of_lt (Uy hq hr hd ht) (Nat.pow_lt_pow_right (by decide) hB)
def bN (N:Nat):Nat:=21500*N+14200
theorem aC3 {X:Rat} (h:oB X) {N:Nat} (hN:N≤4096) (m:Nat) (hm:m<5:=by omega):BC m N (dX X) sM (eL 999) 999 101<2^bN N:=by
 obtain ⟨h0,hh⟩:=av9 h hN;obtain ⟨h1,h2⟩:=hh m hm;exact VZ h1 h2 h0 (by decide) (by unfold bN;omega)
theorem gA {q:List (List Rat)} {m:Nat} {lead aF:Rat} {st:Nat} (h:cY q m lead=some (aF,st)) (hm:1≤m:=by omega):∃ hh,hh≤62∧aF=bF hh∧st≤4096∧m+bE q+m≤st:=by
 obtain ⟨hh,ii,hrv,f1,_,_,_,_,_⟩:=DY (q:=q) (m:=m) (lead:=lead) hm;rw [h] at hrv;split at hrv
 ·cases hrv
 ·rename_i hc;simp only [aO,Prod.mk.injEq] at hrv;obtain ⟨rfl,rfl⟩:=hrv;have h1:1≤2^ii:=Nat.pow_pos (by omega);have h2:(m+bE q+m)*1≤(m+bE q+m)*2^ii:=Nat.mul_le_mul_left _ h1;generalize (m+bE q+m)*2^ii=st at *;exact ⟨hh,by omega,rfl,by omega,by omega⟩
structure xY (r:Rat):Prop where
 d:r.den≤2^200
 s:r.num.natAbs≤2048*r.den
theorem xY.bd {X:Rat} (h:xY X):Bd X.den 2048 X:=⟨Nat.dvd_refl _,h.s⟩
theorem xY.fit {X:Rat} (h:xY X):Fit 220 X:=
 ⟨Nat.lt_of_le_of_lt (Nat.le_trans h.s (Nat.mul_le_mul_left _ h.d)) (by decide),Nat.lt_of_le_of_lt h.d (by decide)⟩
theorem xY.abs {X:Rat} (h:xY X):xY X.abs:=by
 obtain ⟨h1,h2⟩:=mO X;exact ⟨by rw [h2];exact h.d,by rw [h1,h2,Int.natAbs_natCast];exact h.s⟩
theorem oB.t {X:Rat} (h:oB X):xY X:=⟨Nat.le_trans h.d (by decide),Nat.le_trans h.s (Nat.mul_le_mul_right _ (by omega))⟩
def yRn (n:Nat):Nat:=(2^200)^n
def zRn (n:Nat):Nat:=2048^n
def pRn (n:Nat):Nat:=qY^n
def sRn (n:Nat):Nat:=4^n
theorem aD2:yRn 8193<2^2097152∧zRn 8193*yRn 8193<2^2097152∧pRn 8193<2^2097152∧sRn 8193*pRn 8193<2^2097152:=by decide +kernel
theorem aq1 {hh j n:Nat} (h:hh≤63) (hj:j≤n):Bd (pRn n) (sRn n) (bF hh^j):=by unfold pRn sRn;exact Ch (sG h) hj
theorem aO1 (n:Nat):pRn n≠0:=by unfold pRn;exact Jm _
theorem bs1 {r:Rat} (hr:xY r) {j n B:Nat} (hj:j≤n) (h1:yRn n<2^B) (h2:zRn n*yRn n<2^B):Fit B (r^j):=by
 have hp:=Bd.pow (wY r) hr.bd j
 have hd:r.den^j≤yRn n:=by
  unfold yRn;exact Nat.le_trans (Nat.pow_le_pow_left hr.d j) (Nat.pow_le_pow_right (Nat.pow_pos (by omega)) hj)
 have hz:2048^j≤zRn n:=Nat.pow_le_pow_right (by omega) hj;exact hp.fit (Nat.pos_iff_ne_zero.1 (Nat.pow_pos r.den_pos)) (Nat.lt_of_le_of_lt hd h1) (Nat.lt_of_le_of_lt (Nat.mul_le_mul hz hd) h2)
theorem hJ {r:Rat} (hr:xY r) {hh n d B:Nat} (h62:hh≤62) (hn:n≤4096:=by omega) (hd:d≤4:=by omega) (hB:2097152≤B:=by omega):nL B (bF hh) n d r:=by
 obtain ⟨r1,r2,r3,r4⟩:=aD2;have e1:∀ j,j≤8193→Fit 2097152 (r^j):=fun j hj=>bs1 hr hj r1 r2;have e2:∀ j,j≤8193→Fit 2097152 (bF hh^j):=fun j hj=>(aq1 (Nat.le_trans h62 (by decide)) hj).fit (aO1 _) r3 r4;clear r1 r2 r3 r4;refine ⟨fun j hj=>?_,fun j hj=>(e1 j (by omega)).mono hB,fun j hj=>(e2 j (by omega)).mono hB⟩;have hz:=nS (z:=(n:Int)) (N:=4100) j (by omega);have h2:(4100:Nat)^j≤4100^4:=Nat.pow_le_pow_right (by omega) (by omega);have h3:(4100:Nat)^4=282576100000000:=by decide
 rw [h3] at h2;exact (fH).mono (by omega)
theorem NS {a:List Rat} {aF:Rat} {B n0 W st:Nat} (haf:∀ x∈a,Fit B x) (h1:1≤B) (hrho:∀ j,j≤st→Fit B (aF^j)) (hw:n0+W≤st):∀ k,k≤W→Fit (B+B) (GP a aF n0 k)
 | 0,_=>Fit.zero (by omega)
 | k+1,hk=>by
   rw [GP];refine rX (fun x hx=>?_) 2 (by simp);simp only [List.mem_cons,List.not_mem_nil,or_false] at hx;rcases hx with rfl | rfl
   ·exact NS haf h1 hrho hw k (by omega)
   ·exact (gY (lW haf _ h1)).mul (hrho _ (by omega))
open Go Go.Proofs Tryz Ord
section
variable {E:List (List Rat)} {ER:List (List RQ)} {X:Rat} {XR:RQ}
theorem SmallX.at (h:SmallX E ER X XR) {x:Rat} (hx:oB x):SmallX E ER x (.of x):=⟨h.e1,h.e2,h.sim,rfl,h.el,h.eb,h.rb,hx⟩
end
theorem wL {E:List (List Rat)} {X:Rat} (h:cY (bH E X) (E.length-1) (aQ E X)=none):iB E X=(.nil,0):=by unfold iB;rw [h]
theorem wN {E:List (List Rat)} {X aF:Rat} {st:Nat} (h:cY (bH E X) (E.length-1) (aQ E X)=some (aF,st)):iB E X=(.of aF,st):=by unfold iB;rw [h]
theorem uB {c:bQ} (h:nJ c):aM prog 22 [fR c.ER c.XR c.YR] (.ret [.one (.bool (okF c.E c.X c.Y))]):=by
 have hd:=WQ c.ER c.XR c.YR h.e2 (by rw [h.x];exact h.xf) (by have:=congrArg List.length h.y;rw [aP] at this;have:=h.yl;omega);have e:okF (fP c.ER) c.XR.q (c.YR.map RQ.q)=okF c.E c.X c.Y:=by rw [h.y,h.x,h.sim.okF]
 rw [e] at hd;exact hd
open Go Go.Proofs Tryz Ord
open Go Go.Proofs Tryz Ord
def RP:Tr:=.ret [(W 0 0)]
def bb1:Tr:=aW .gtr 3 3 16 0 0 4 (.split (.u 1 0) (aW .rem 3 5 17 0 0 3 (.ret [(W 2 0)])) RP)
theorem ae6:aL prog f56 (fun _=>none) [.v none]=bb1:=by kernel_rfl
def WV:Tr:=.ret [(.agg [(U 2 0),(U 2 1),(U 2 2),(U 3 0),(U 3 1),(U 3 2)])]
def aZ7:Tr:=aJ 64 [(G3 0),(G3 1)] [(some 3)] [6,8] [39,39] 39 false (aJ 64 [(.agg [(U 0 3),(U 0 4),(U 0 5)]),(.agg [(U 1 3),(U 1 4),(U 1 5)])] [(some 3)] [11,13] [39,39] 39 true WV)
theorem aM4:aL prog f66 (fun _=>none) [.v (some 6), .v (some 6)]=aZ7:=by kernel_rfl
def az2:Tr:=aJ 65 [(G3 0)] [(some 3)] [3] [39] 39 false (.ret [(.agg [(U 1 0),(U 1 1),(U 1 2),(U 0 0),(U 0 1),(U 0 2)])])
theorem PX:aL prog f228 (fun _=>none) [.v (some 3)]=az2:=by kernel_rfl
abbrev QT (a b:Rat):List aG:=qC a++qC b
abbrev Cc (a b:Rat):aE:=.agg (QT a b)
abbrev Az (a b:RQ):List aG:=rC a++rC b
abbrev tR (a b:RQ):aE:=.agg (Az a b)
def GZ (k:Int):Int:=if k>16 then k%17 else k
theorem Yv (k:Int):aM prog 56 [(.one (.int .i64 k):aE)] (.ret [.one (.int .i64 (GZ k))]):=by
 refine bZ func56 ae6 ?_;apply vn dH rfl;refine vs _ rfl ?_ ?_<;>intro h1
 ·apply vn (eP) rfl;dsimp only [aD,aC];rw [show GZ k=k%17 from if_pos h1];exact aK rfl
 rw [show GZ k=k from if_neg h1];exact aK rfl
theorem VF (a b c d:Rat) (A B:Nat) (ha:Fit A a) (hb:Fit A b) (hc:Fit B c) (hd:Fit B d) (h:A+B≤34359738368:=by omega):aM prog 66 [(Cc a b:aE),(Cc c d:aE)] (.ret [Cc (a+c) (b+d)]):=by
 refine bZ func66 aM4 ?_;apply aA (mE a c A B ha hc h) rfl;apply aA (mE b d A B hb hd h) rfl;exact aK rfl
theorem Rr (r:Rat):aM prog 228 [(qT r:aE)] (.ret [Cc (-r) r]):=by
 refine bZ func228 PX ?_;apply aA (DH r) rfl;exact aK rfl
open Go Go.Proofs Tryz Ord
def aI5:Tr:=aJ 256 [(W 1 0)] [(some 1)] [6] [3] 35 false (aJ 157 [(.agg [(U 2 0),(tE (.bool false))])] [(some 3)] [8] [37] 39 true (aJ 36 [(G3 0),(G3 3)] [(some 3)] [5,9] [39,39] 39 true (.ret [(G3 4)])))
theorem TU:aL prog f285 (fun _=>none) [.v (some 3), .v none]=aI5:=by kernel_rfl
def Wu:Tr:=.ret [(G3 3)]
def aI2:Tr:=aJ 117 [(G3 0)] [(some 1)] [5] [39] 35 false (aJ 294 [(G2 0),(G1 1)] [(some 2)] [4,6] [37,35] 37 true (aJ 157 [(G2 2)] [(some 3)] [7] [37] 39 true Wu))
theorem RU:aL prog f286 (fun _=>none) [.v (some 3)]=aI2:=by kernel_rfl
def aV2:Tr:=aJ 65 [(G3 0)] [(some 3)] [3] [39] 39 false (aJ 286 [(G3 1)] [(some 3)] [4] [39] 39 true (aJ 65 [(G3 2)] [(some 3)] [5] [39] 39 true Wu))
theorem Yn:aL prog f287 (fun _=>none) [.v (some 3)]=aV2:=by kernel_rfl
def WO:Tr:=aJ 202 [(W 1 0)] [(some 3)] [9] [3] 39 true (aJ 36 [(G3 3),(G3 4)] [(some 3)] [8,10] [39,39] 39 true (.ret [(G3 5)]))
def aI1:Tr:=aJ 285 [(G3 0),(W 1 0)] [(some 3)] [5,6] [39,3] 39 false (aJ 286 [(G3 2)] [(some 3)] [7] [39] 39 false WO)
theorem ar1:aL prog f268 (fun _=>none) [.v (some 3), .v none]=aI1:=by kernel_rfl
def aP2:Tr:=aJ 285 [(G3 0),(W 1 0)] [(some 3)] [5,6] [39,3] 39 false (aJ 287 [(G3 2)] [(some 3)] [7] [39] 39 false WO)
theorem bj6:aL prog f269 (fun _=>none) [.v (some 3), .v none]=aP2:=by kernel_rfl
def ax6:Tr:=aJ 268 [(G3 0),(W 1 0)] [(some 3)] [6,7] [39,3] 39 false (aJ 269 [(.agg [(U 0 3),(U 0 4),(U 0 5)]),(W 1 0)] [(some 3)] [10,11] [39,3] 39 true WV)
theorem aM8:aL prog f229 (fun _=>none) [.v (some 6), .v none]=ax6:=by kernel_rfl
def Nn (q:Rat):Int:=q.num/(q.den:Int)
def wB (k:Nat):Rat:=(((2^k:Nat):Int):Rat)
def mL (q:Rat) (k:Nat):Rat:=(Nn (q*wB k):Rat)*mkRat 1 (2^k)
def SR (q:Rat) (k:Nat):Rat:=(((-Nn (-(q*wB k)):Int)):Rat)*mkRat 1 (2^k)
theorem zP {q:Rat} {H:Nat} (h:Fit H q) (h1:1≤H:=by omega):Fit H (Nn q:Rat):=Fit.int h1 (Nat.lt_of_le_of_lt (Int.natAbs_ediv_le_natAbs _ _) h.1)
set_option exponentiation.threshold 600 in
theorem lX {k:Nat} (h:k≤256:=by omega):Fit 257 (wB k):=Fit.int (by omega) (by rw [Int.natAbs_natCast];exact Nat.pow_lt_pow_right (by omega) (by omega))
set_option exponentiation.threshold 600 in
theorem kM {k:Nat} (h:k≤256):Fit 257 (mkRat 1 (2^k)):=Fit.mkRat (Nat.one_lt_two_pow (by omega)) (Nat.pow_lt_pow_right (by omega) (by omega)) (Nat.pos_iff_ne_zero.1 (Nat.pow_pos (by omega)))
theorem WZ (k:Int) (hk:k≤256):aM prog 256 [(.one (.int .i64 k):aE)] (.ret [mT (2^k.toNat)]):=by
 refine bZ func256 as4 ?_;apply aA (jF 2) rfl;apply aA (KL k 256) rfl;rw [show max (0:Int) (min (k:Int) 256)=(k.toNat:Int) by omega];apply aA (Px 2 k.toNat 2) rfl;exact aK rfl
theorem yV (k:Int) (hk:k≤256:=by omega):aM prog 202 [(.one (.int .i64 k):aE)] (.ret [qT (mkRat 1 (2^k.toNat))]):=by
 refine bZ func202 VB ?_;apply aA (Hm 1) rfl;apply aA (WZ k hk) rfl
 apply aA (yK 1 (2^k.toNat) (Nat.pow_pos (by omega)) (by
  obtain ⟨H,hH⟩:∃ H,H=257:=⟨_,rfl⟩
  have h1:(dg (2^k.toNat)).length≤H:=gO (Nat.pow_lt_pow_right (by omega) (by omega));have h2:(dg (1:Int).natAbs).length=1:=by rw [show (1:Int).natAbs=1 from rfl,qX];rfl
  omega)) rfl
 exact aK rfl
theorem Jf (q:Rat) (k:Int) (H:Nat) (hk:k≤256) (hq:Fit H q) (hH:H≤8589934592:=by omega):aM prog 285 [(qT q:aE),(.one (.int .i64 k):aE)] (.ret [qT (q*wB k.toNat)]):=by
 refine bZ func285 TU ?_;apply aA (WZ k hk) rfl;dsimp only [aD,aC];have hz:decide (((2^k.toNat:Nat):Int)<0)=false:=decide_eq_false (Int.not_lt.2 (Int.natCast_nonneg _));have hw:=Ia ((2^k.toNat:Nat):Int);rw [show iT ((2^k.toNat:Nat):Int) = .agg [dT (2^k.toNat), .exact (.bool false)] from by rw [show iT ((2^k.toNat:Nat):Int) = .agg [dT (2^k.toNat), .bool (decide (((2^k.toNat:Nat):Int)<0))] from rfl,hz]] at hw;apply aA hw rfl;apply aA (dN q (wB k.toNat) H 257 hq (lX)) rfl;exact aK rfl
theorem Kf (q:Rat) (H:Nat) (hq:Fit H q) (hH:H≤8589934592:=by omega):aM prog 286 [(qT q:aE)] (.ret [qT (Nn q:Rat)]):=by
 refine bZ func286 RU ?_;have h1:=HU hq.1;have h2:=HU hq.2;apply aA (gF q) rfl;apply aA (VW q.num q.den q.den_pos) rfl;apply aA (Ia (q.num/(q.den:Int))) rfl;exact aK rfl
theorem ah5 (q:Rat) (H:Nat) (hq:Fit H q) (hH:H≤8589934592:=by omega):aM prog 287 [(qT q:aE)] (.ret [qT (((-Nn (-q):Int)):Rat)]):=by
 refine bZ func287 Yn ?_;apply aA (DH q) rfl;apply aA (Kf (-q) H hq.neg hH) rfl;apply aA (DH _) rfl;rw [show -((Nn (-q):Int):Rat)=((-Nn (-q):Int):Rat) by rw [Rat.intCast_neg]];exact aK rfl
theorem XG (q:Rat) (k:Int) (H:Nat) (hk:k≤256) (hq:Fit H q) (h1:1≤H) (hH:H≤4294967296):aM prog 268 [(qT q:aE),(.one (.int .i64 k):aE)] (.ret [qT (mL q k.toNat)]):=by
 refine bZ func268 ar1 ?_;apply aA (Jf q k H hk hq) rfl;apply aA (Kf (q*wB k.toNat) (H+257) (hq.mul (lX))) rfl;apply aA (yV k hk) rfl;dsimp only [aD,aC];apply aA (dN _ _ (H+257) 257 (zP (hq.mul (lX))) (kM (by omega))) rfl;exact aK rfl
theorem bw3 (q:Rat) (k:Int) (H:Nat) (hk:k≤256) (hq:Fit H q) (h1:1≤H) (hH:H≤4294967296):aM prog 269 [(qT q:aE),(.one (.int .i64 k):aE)] (.ret [qT (SR q k.toNat)]):=by
 refine bZ func269 bj6 ?_;apply aA (Jf q k H hk hq) rfl;apply aA (ah5 (q*wB k.toNat) (H+257) (hq.mul (lX))) rfl;apply aA (yV k hk) rfl;dsimp only [aD,aC];apply aA (dN _ _ (H+257) 257 (by rw [Rat.intCast_neg];exact (zP (hq.mul (lX)).neg).neg) (kM (by omega))) rfl;exact aK rfl
theorem Sv (a b:Rat) (k:Int) (H:Nat) (hk:k≤256) (ha:Fit H a) (hb:Fit H b) (h1:1≤H:=by omega) (hH:H≤4294967296:=by omega):aM prog 229 [(Cc a b:aE),(.one (.int .i64 k):aE)] (.ret [Cc (mL a k.toNat) (SR b k.toNat)]):=by
 refine bZ func229 aM8 ?_;apply aA (XG a k H hk ha h1 hH) rfl;apply aA (bw3 b k H hk hb h1 hH) rfl;exact aK rfl
open Go Go.Proofs Tryz Ord
def aU6:Tr:=aW .lss 3 5 0 0 0 4 (.split (.u 2 0) (.ret [(WK 0)]) (bO .gtr 3 7 8 0 0 1 0 4 (.split (.u 3 0) (.ret [(W 1 0)]) RP)))
theorem ah9:aL prog f271 (fun _=>none) [.v none, .v none]=aU6:=by kernel_rfl
def bb2:Tr:=.need (.call 139 [(WK 1)] [(some 2)]) (.call ⟨.value (.func 139),#[(.const (I3 1))],#[2]⟩) 47 true (.loop 0 [lK 0,lV 2 0,lV 2 1] (bO .lss 3 8 9 3 0 1 0 4 (.split (.u 6 0) (aJ 135 [(.agg [(U 4 0),(U 5 0)]),(G2 0)] [(some 2)] [13,14] [47,47] 47 true (aW .add 3 11 1 3 0 3 (.back 0 [lV 8 0,lV 7 0,lV 7 1]))) (.ret [(.agg [(U 4 0),(U 5 0)])]))))
theorem Qw:aL prog f270 (fun _=>none) [.v (some 2), .v none]=bb2:=by kernel_rfl
def bc3:Tr:=.need (.call 139 [(WK 1)] [(some 2)]) (.call ⟨.value (.func 139),#[(.const (I3 1))],#[2]⟩) 47 false (.need (.call 139 [(WK 2)] [(some 2)]) (.call ⟨.value (.func 139),#[(.const (I3 2))],#[2]⟩) 47 false (.need (.call 271 [(W 0 0),(WK 256)] [none]) (.call ⟨.value (.func 271),#[(tT 5),(.const (I3 256))],#[3,3]⟩) 3 false (aJ 270 [(G2 2),(W 3 0)] [(some 2)] [4,6] [47,3] 47 true (aJ 137 [(G2 1),(G2 4)] [(some 4)] [3,7] [47,47] 49 true (.ret [(G4 5)])))))
theorem ag5:aL prog f230 (fun _=>none) [.v none]=bc3:=by kernel_rfl
def aJ4:Tr:=.need (.call 271 [(W 1 0),(WK 256)] [none]) (.call ⟨.value (.func 271),#[(tT 9),(.const (I3 256))],#[3,3]⟩) 3 true (aJ 270 [(G2 2),(W 3 0)] [(some 2)] [8,10] [47,3] 47 true (aJ 135 [(G2 0),(G2 4)] [(some 2)] [14,15] [47,47] 47 false (aJ 136 [(G4 0)] [(some 2)] [17] [49] 47 false (aJ 272 [(G2 5),(G2 6)] [(some 2),(some 2)] [16,18] [47,47] 317 false (aJ 137 [(G2 7),(G2 4)] [(some 4)] [22,23] [47,47] 49 true (.ret [(G4 9)]))))))
def bb9:Tr:=.need (.call 139 [(WK 2)] [(some 2)]) (.call ⟨.value (.func 139),#[(.const (I3 2))],#[2]⟩) 47 false aJ4
theorem ak8:aL prog f231 (fun _=>none) [.v (some 4), .v none]=bb9:=by kernel_rfl
def aY9:Tr:=aJ 105 [(G4 0)] [(some 4)] [5] [49] 49 false (aJ 231 [(G4 2),(W 1 0)] [(some 4)] [6,7] [49,3] 49 true (aJ 105 [(G4 3)] [(some 4)] [8] [49] 49 true (.ret [(G4 4)])))
theorem bh2:aL prog f232 (fun _=>none) [.v (some 4), .v none]=aY9:=by kernel_rfl
def aR0:Tr:=aJ 231 [(G4 0),(W 1 0)] [(some 4)] [6,7] [49,3] 49 false (aJ 232 [(.agg [(U 0 4),(U 0 5),(U 0 6),(U 0 7)]),(W 1 0)] [(some 4)] [10,11] [49,3] 49 true (.ret [(.agg [(U 2 0),(U 2 1),(U 2 2),(U 2 3),(U 3 0),(U 3 1),(U 3 2),(U 3 3)])]))
theorem aJ7:aL prog f153 (fun _=>none) [.v (some 8), .v none]=aR0:=by kernel_rfl
theorem aW7 (n:Int) {d:Nat} (hd:d≠0):Nn (mkRat n d)=n/(d:Int):=by
 unfold Nn;generalize hq:mkRat n d=q;obtain ⟨m,hm,h1,h2⟩:=Rat.mkRat_num_den hd (n':=q.num) (d':=q.den) (z':=q.den_nz) (c:=q.reduced) (by rw [hq]);rw [h1,h2,Int.natCast_mul,Int.mul_ediv_mul_of_pos_left _ _ (by omega)]
theorem Oz (q:Rat) (k:Nat):Nn (q*wB k)=q.num*((2^k:Nat):Int)/(q.den:Int):=by
 rw [wB,Rat.mul_def',Rat.num_intCast,Rat.den_intCast,Nat.mul_one,aW7 _ q.den_nz]
theorem Pt (k:Int) (m:Int) (hm:0≤m:=by omega):aM prog 271 [(.one (.int .i64 k):aE),(.one (.int .i64 m):aE)] (.ret [.one (.int .i64 (max 0 (min k m)))]):=by
 refine bZ func271 ah9 ?_;apply vn aZ rfl;refine vs _ rfl ?_ ?_<;>intro h1
 ·rw [show max 0 (min k m)=0 by omega];exact aK rfl
 apply vn dH rfl;refine vs _ rfl ?_ ?_<;>intro h4
 ·rw [show max 0 (min k m)=m by omega];exact aK rfl
 rw [show max 0 (min k m)=k by omega];exact aK rfl
theorem Hh (x:Int) (n L:Nat) (hL:∀ j,j≤n→(bd (x^j).natAbs).length≤L) (hx:(bd x.natAbs).length≤L) (hn:n≤256:=by omega) (h:L≤137438953471:=by omega):aM prog 270 [(zT x:aE),(.one (.int .i64 n):aE)] (.ret [zT (x^n)]):=by
 refine bZ func270 Qw ?_;have h1:aM prog 139 [.one (.int .i64 1)] (.ret [zT (x^0)]):=by rw [Int.pow_zero];exact iL 1
 apply aA h1 rfl;refine bB {j:Nat // j≤n} (fun g=>(.one (.int .i64 g.1):aE)::(zC (x^g.1)).map .one) (fun g=>n-g.1) ⟨0,bV _⟩ aN.rfl (fun _=>rfl) ?_;rintro ⟨j,hj⟩;dsimp only [aD,aC,List.map] at hj ⊢;apply vn aZ rfl;refine vs _ rfl ?_ ?_<;>intro h3
 ·have hlj:=hL j hj;apply aA (iO (x^j) x) rfl;rw [←Int.pow_succ];apply vn (aB) rfl;dsimp only [aD,aC];exact aR rfl ⟨⟨j+1,by omega⟩,aN.rfl,by show n-(j+1)<n-j;omega⟩
 rw [show n=j by omega];exact aK rfl
theorem Wb {k B:Nat} (h:k<B:=by omega):2^k<2^B:=Nat.pow_lt_pow_right (by omega) h
set_option exponentiation.threshold 600 in
theorem sS {j:Nat} (h:j≤256:=by omega):(bd ((2:Int)^j).natAbs).length≤257:=fG (by
 rw [Int.natAbs_pow];exact Wb)
theorem Ax (k:Nat):(2:Int)^k=((2^k:Nat):Int):=by rw [Int.natCast_pow];rfl
theorem aq2 (k:Int) (hk:k≤256):aM prog 230 [(.one (.int .i64 k):aE)] (.ret [fO (.of (mkRat 1 (2^k.toNat)))]):=by
 refine bZ func230 ag5 ?_;apply aA (iL 1) rfl;apply aA (iL 2) rfl;apply aA (Pt k 256) rfl;rw [show max 0 (min k 256)=(k.toNat:Int) by omega];dsimp only [aD,aC];have hp:=Hh 2 k.toNat 257 (fun j hj=>sS) (sS (j:=1));rw [Ax] at hp;apply aA hp rfl;dsimp only [aD,aC];have hr:=rP 1 ((2^k.toNat:Nat):Int) (by have:=Nat.pow_pos (n:=k.toNat) (show 0<2 by omega);omega) (by have:=sS (j:=k.toNat);rw [Ax] at this;omega) (by have:=sS (j:=0);rw [Int.pow_zero] at this;omega);rw [yL] at hr;apply aA hr rfl;exact aK rfl
theorem NL (a:RQ) (k:Int) (H:Nat) (hk:k≤256) (ha:Fit H a.q) (hH:H≤1073741824):aM prog 231 [(fO a:aE),(.one (.int .i64 k):aE)] (.ret [fO (.of (mL a.q k.toNat))]):=by
 refine bZ func231 ak8 ?_;apply aA (iL 2) rfl;apply aA (Pt k 256) rfl;rw [show max 0 (min k 256)=(k.toNat:Int) by omega];dsimp only [aD,aC];have h2:=sS (j:=k.toNat);have hp:=Hh 2 k.toNat 257 (fun j hj=>sS) (sS (j:=1));rw [Ax] at hp h2;have hpos:0<2^k.toNat:=Nat.pow_pos (by omega);obtain ⟨hn,hdn⟩:=Fit.bd ha;apply aA hp rfl;apply aA (iO a.q.num ((2^k.toNat:Nat):Int)) rfl;apply aA (iW a) rfl;dsimp only [aD,aC]
 have hm:(bd (a.q.num*((2^k.toNat:Nat):Int)).natAbs).length≤H+257:=fG (by
  rw [Int.natAbs_mul,Int.natAbs_natCast];exact bM ha.1 (Wb (B:=257)))
 apply aA (QC (a.q.num*((2^k.toNat:Nat):Int)) a.q.den a.q.den_pos) rfl;rw [←Oz];dsimp only [aD,aC];have hf:=zP (ha.mul (lX (k:=k.toNat)));have hfb:(bd (Nn (a.q*wB k.toNat)).natAbs).length≤H+257:=fG (by have:=hf.1;rwa [Rat.num_intCast] at this);have hr:=rP (Nn (a.q*wB k.toNat)) ((2^k.toNat:Nat):Int);rw [yL,show mkRat (Nn (a.q*wB k.toNat)) (2^k.toNat)=mL a.q k.toNat by rw [mL,Rat.mkRat_eq_div,Rat.mkRat_eq_div];grind] at hr;apply aA hr rfl;exact aK rfl
theorem bk1 (a:RQ) (k:Int) (H:Nat) (hk:k≤256) (ha:Fit H a.q) (hH:H≤1073741824):aM prog 232 [(fO a:aE),(.one (.int .i64 k):aE)] (.ret [fO (.of (-(mL (-a.q) k.toNat)))]):=by
 refine bZ func232 bh2 ?_;apply aA (Eo a) rfl;apply aA (NL (.of (-a.q)) k H hk ha.neg hH) rfl;apply aA (Eo _) rfl;exact aK rfl
theorem at0 (q:Rat) (k:Nat):-(mL (-q) k)=SR q k:=by
 unfold mL SR;rw [Rat.intCast_neg,show -q*wB k = -(q*wB k) by grind]
 grind
theorem Sb (a b:RQ) (k:Int) (H:Nat) (hk:k≤256) (ha:Fit H a.q) (hb:Fit H b.q) (hH:H≤1073741824:=by omega):aM prog 153 [(tR a b:aE),(.one (.int .i64 k):aE)] (.ret [tR (.of (mL a.q k.toNat)) (.of (SR b.q k.toNat))]):=by
 refine bZ func153 aJ7 ?_;apply aA (NL a k H hk ha hH) rfl;dsimp only [aD,aC];have hu:=bk1 b k H hk hb hH;rw [at0] at hu;apply aA hu rfl;exact aK rfl
end Go.Sy
