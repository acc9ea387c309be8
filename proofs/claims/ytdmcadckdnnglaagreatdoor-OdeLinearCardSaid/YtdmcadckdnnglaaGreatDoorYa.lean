/- Part. -/
import Derived.Test.YtdmcadckdnnglaaGreatDoorWb
set_option linter.all false
namespace Go.Sy
open Go Go.Proofs Tryz Ord
def lL (p:Nat→Bool):Nat→Nat→Nat
 | h,0=>h
 | h,n+1=>if p h then h else lL p (h+1) n
theorem rF (p:Nat→Bool):∀ n h,h≤lL p h n∧lL p h n≤h+n∧(∀ k,h≤k→k<lL p h n→p k=false)∧(lL p h n<h+n→p (lL p h n)=true)
 | 0,h=>⟨bB _,bB _,fun k h1 h2=>by simp only [lL] at h2;omega,fun h2=>by simp only [lL] at h2;omega⟩
 | n+1,h=>by
   rw [lL];split
   ·rename_i hp;exact ⟨bB _,by omega,fun k h1 h2=>by omega,fun _=>hp⟩
   ·rename_i hp;obtain ⟨h1,h2,h3,h4⟩:=rF p n (h+1);refine ⟨by omega,by omega,fun k hk1 hk2=>?_,fun hk=>h4 (by omega)⟩;rcases Nat.lt_or_ge h k with hlt | hge
    ·exact h3 k hlt hk2
    ·rw [show k=h by omega];simpa using hp
def Kb (q:List (List Rat)) (m:Nat) (lead:Rat):Nat:=lL (fun h=>decide (kW q m lead h)) 0 63
def MN (q:List (List Rat)) (m:Nat):Nat:=m+bD q+m
def iOf (q:List (List Rat)) (m:Nat) (lead aH:Rat):Nat:=lL (fun i=>decide (4096<MN q m*2^i∨fB q m lead aH (MN q m*2^i))) 0 13
def dN (q:List (List Rat)) (m:Nat) (lead:Rat):Option (Rat×Nat):=
 if Kb q m lead=63∨4096<MN q m*2^iOf q m lead (aY (Kb q m lead)) then none else some (aY (Kb q m lead),MN q m*2^iOf q m lead (aY (Kb q m lead)))
theorem It {q:List (List Rat)} {m:Nat} {lead:Rat} (hm:1≤m):Kb q m lead≤63∧(∀ h,h<Kb q m lead→¬ kW q m lead h)∧(Kb q m lead≤62→kW q m lead (Kb q m lead)) ∧
  iOf q m lead (aY (Kb q m lead))≤13∧(∀ i,i<iOf q m lead (aY (Kb q m lead))→MN q m*2^i≤4096∧¬ fB q m lead (aY (Kb q m lead)) (MN q m*2^i)) ∧
  (4096<MN q m*2^iOf q m lead (aY (Kb q m lead))∨fB q m lead (aY (Kb q m lead)) (MN q m*2^iOf q m lead (aY (Kb q m lead)))):=by
 obtain ⟨_,h2,h3,h4⟩:=rF (fun h=>decide (kW q m lead h)) 63 0;have e1:lL (fun h=>decide (kW q m lead h)) 0 63=Kb q m lead:=rfl;rw [e1] at h2 h3 h4;generalize Kb q m lead=hh at *;obtain ⟨_,k2,k3,k4⟩:=rF (fun i=>decide (4096<MN q m*2^i∨fB q m lead (aY hh) (MN q m*2^i))) 13 0;have e2:lL (fun i=>decide (4096<MN q m*2^i∨fB q m lead (aY hh) (MN q m*2^i))) 0 13=iOf q m lead (aY hh):=rfl;rw [e2] at k2 k3 k4;generalize iOf q m lead (aY hh)=ii at *;refine ⟨by omega,fun h hlt=>of_decide_eq_false (h3 h (bR _) hlt),fun hlt=>of_decide_eq_true (h4 (by omega)),by omega,fun i hi=>?_,?_⟩
 ·have:=of_decide_eq_false (k3 i (bR _) hi);exact ⟨by omega,fun h=>this (.inr h)⟩
 ·rcases Nat.lt_or_ge ii 13 with h | h
  ·exact of_decide_eq_true (k4 (by omega))
  ·left
   rw [show ii=13 by omega];have:2≤MN q m:=by unfold MN;omega
   omega
theorem yL {q:List (List Rat)} {m:Nat} {lead:Rat} (hm:1≤m:=by omega):∃ hh ii,dN q m lead=(if hh=63∨4096<(m+bD q+m)*2^ii then none else some (aY hh,(m+bD q+m)*2^ii))∧hh≤63∧(∀ h,h<hh→¬ kW q m lead h)∧(hh≤62→kW q m lead hh) ∧
  ii≤13∧(∀ i,i<ii→(m+bD q+m)*2^i≤4096∧¬ fB q m lead (aY hh) ((m+bD q+m)*2^i))∧(4096<(m+bD q+m)*2^ii∨fB q m lead (aY hh) ((m+bD q+m)*2^ii)):=
 ⟨_,_,rfl,It hm⟩
theorem _root_.Ord.Bd.abs {D S:Nat} {q:Rat} (h:Bd D S q):Bd D S q.abs:=by
 obtain ⟨h1,h2⟩:=lM q;exact ⟨by rw [h2];exact h.1,by rw [h1,h2];simpa using h.2⟩
def qA:Nat:=2^63
theorem NM:qA≠0:=by unfold qA;decide
theorem CV:0<qA:=Nat.pos_of_ne_zero NM
theorem qK {h:Nat} (hh:h≤63):Bd qA 4 (aY h):=by
 unfold qA;have h1:Bd (2^h) 1 (mkRat 1 (2^h)):=Bd.mk (Nat.pos_iff_ne_zero.1 (Nat.pow_pos (by omega))) (by have:=Nat.pow_pos (a:=2) (n:=h) (by omega);simp;omega);have h2:=(Bd.int (D:=1) (n:=4) (S:=4) (by omega)).mul (by omega) (by decide) (h1.mono (Nat.pow_dvd_pow 2 hh) (bB _));exact h2.mono (by simp) (by omega)
theorem Ce (h:Nat):aY h≠0:=by
 intro e;rcases Rat.mul_eq_zero.1 e with e | e
 ·exact absurd e (by decide +kernel)
 ·rw [Rat.mkRat_eq_zero (Nat.pos_iff_ne_zero.1 (Nat.pow_pos (by omega)))] at e;omega
theorem Bf {x:Rat} (h:Bd qA 4 x) {j n:Nat} (hj:j≤n:=by omega):Bd (qA^n) (4^n) (x^j):=
 (Bd.pow NM h j).mono (Nat.pow_dvd_pow _ hj) (Nat.pow_le_pow_right (by omega) hj)
theorem Js (n:Nat):qA^n≠0:=Nat.pos_iff_ne_zero.1 (Nat.pow_pos CV)
section
variable {D S L:Nat} {aH:Rat}
theorem No {r:List Rat} (h0:D≠0) (hr:∀ a∈r,Bd D S a) (ho:Bd qA 4 aH):∀ k,k≤L→Bd (D*qA^L) (k*(S*4^L)) (jZ r aH k)
 | 0,_=>Bd.zero
 | k+1,hk=>by
   rw [jZ,Nat.add_mul,Nat.one_mul];refine (No h0 hr ho k (by omega)).add (Nat.mul_ne_zero h0 (Js _)) ?_;exact (iE hr k).abs.mul h0 (Js _) (Bf ho hk)
theorem Hi (z:Int):∀ j:Nat,((z:Rat))^j=((z^j:Int):Rat)
 | 0=>by rw [Rat.pow_zero,Int.pow_zero];rfl
 | j+1=>by rw [Rat.pow_succ,Int.pow_succ,Hi z j,Rat.intCast_mul]
theorem zO {p:List Rat} {m i N:Nat} {z:Int} {x:Rat} {U:Nat} (h0:D≠0) (hp:∀ a∈p,Bd D S a) (ho:Bd qA 4 aH) (hz:z=(N:Int)) (hN:1≤N) (hm:m≤4) (hx:Bd (D*qA^(L+4)*N^4) U x) :
  ∀ k,k≤L→Bd (D*qA^(L+4)*N^4) (U+k*(S*4^(L+4))) (gY p m i aH (z:Rat) x k)
 | 0,_=>by rw [gY,Nat.zero_mul,Nat.add_zero];exact hx
 | k+1,hk=>by
   have ih:=zO (i:=i) h0 hp ho hz hN hm hx k (by omega);rw [gY,Nat.add_mul k 1,Nat.one_mul,←Nat.add_assoc];have hNz:N^4≠0:=Nat.pos_iff_ne_zero.1 (Nat.pow_pos hN);have hD:=Nat.mul_ne_zero h0 (Js (L+4));split
   ·refine ih.add (Nat.mul_ne_zero hD hNz) ?_;have h1:=(iE hp k).abs.mul h0 (Js _) (Bf ho (j:=m+k-i) (n:=L+4));have hpw:(z:Rat)^(m-i)=((z^(m-i):Int):Rat):=Hi z _;have hzn:z^(m-i)≠0:=Int.pow_ne_zero (by omega);have h2:=h1.div hD (E:=1) (by omega) (Bd.int (bB _)) (OJ hzn);rw [Rat.num_intCast,Nat.mul_one,←hpw] at h2;refine h2.mono (Nat.mul_dvd_mul (Nat.dvd_refl _) ?_) (bB _);rw [hz,Int.natAbs_pow,Int.natAbs_natCast];exact Nat.pow_dvd_pow N (by omega)
   ·exact ih.le (Nat.le_add_right _ _)
theorem wJ {q:List (List Rat)} {m N:Nat} {z:Int} (h0:D≠0) (hq:∀ p∈q,p.length≤L∧∀ a∈p,Bd D S a) (ho:Bd qA 4 aH) (hz:z=(N:Int)) (hN:1≤N) (hm:m≤4) :
  ∀ i,Bd (D*qA^(L+4)*N^4) (i*(L*(S*4^(L+4)))) (gB q m aH (z:Rat) i)
 | 0=>Bd.zero
 | i+1=>by
   have hp:(q.getD i []).length≤L∧∀ b∈q.getD i [],Bd D S b:=by
    rw [eX];cases h:q[i]? with
    | none=>exact ⟨bR _,fun b hb=>by cases hb⟩
    | some p=>exact hq p (cS h)
   rw [gB,Nat.add_mul i 1,Nat.one_mul];exact (zO h0 hp.2 ho hz hN hm (wJ h0 hq ho hz hN hm i) _ hp.1).le (Nat.add_le_add_left (Nat.mul_le_mul_right _ hp.1) _)
end
def uR:Nat:=dM*qA^105*4097^4
def vR:Nat:=1024*(sM*4^105)
def wR:Nat:=qA^215
def xR:Nat:=4^215
theorem at3:∃ B,128≤B∧B≤1000000∧wR<2^B∧xR*wR<2^B∧uR<2^B∧vR*uR<2^B:=
 ⟨131072,by decide,by decide,by decide +kernel,by decide +kernel,by decide +kernel,by decide +kernel⟩
theorem ah6:dM≤uR:=by unfold uR;rw [Nat.mul_assoc];exact Nat.le_mul_of_pos_right _ (Nat.mul_pos (Nat.pow_pos CV) (by decide))
theorem ZJ {X:Rat} (h:kG X):dX X≤uR:=Nat.le_trans h.dX ah6
theorem ZW:sM≤vR:=by unfold vR;exact Nat.le_trans (Nat.le_mul_of_pos_right _ (Nat.pow_pos (by decide))) (Nat.le_mul_of_pos_left _ (by decide))
theorem Qn {j k:Nat} (hj:j≤1024:=by omega) (hk:k≤105:=by omega):j*(sM*4^k)≤vR:=by unfold vR;exact Nat.mul_le_mul hj (Nat.mul_le_mul_left _ (Nat.pow_le_pow_right (by decide) hk))
theorem ah8 {X:Rat} (h:kG X):dX X*qA^101≤uR:=by
 refine Nat.le_trans (Nat.mul_le_mul_right _ h.dX) ?_;unfold uR;rw [Nat.mul_assoc];exact Nat.mul_le_mul_left _ (Nat.le_trans (Nat.pow_le_pow_right CV (by decide)) (Nat.le_mul_of_pos_right _ (by decide)))
theorem ZF {X:Rat} (h:kG X) {N:Nat} (h1:1≤N) (h2:N≤4097):dX X*qA^(101+4)*N^4≠0∧dX X*qA^(101+4)*N^4≤uR:=
 ⟨Nat.mul_ne_zero (Nat.mul_ne_zero (wW X) (Js _)) (Nat.pos_iff_ne_zero.1 (Nat.pow_pos h1)),by unfold uR;rw [show (101+4:Nat)=105 from rfl];exact Nat.mul_le_mul (Nat.mul_le_mul_right _ h.dX) (Nat.pow_le_pow_left h2 4)⟩
theorem Tn {m s i:Nat} (h1:m≤s) (h2:s*2^i≤4096):∃ N:Nat,(((s*2^i:Nat):Int)-m+1)=(N:Int)∧1≤N∧N≤4097:=by
 have h3:1≤2^i:=Nat.pow_pos (by omega);have h4:s*1≤s*2^i:=Nat.mul_le_mul_left _ h3;exact ⟨s*2^i-m+1,by omega,by omega,by omega⟩
theorem QI {N j:Nat} (h2:N≤4097) (hj:j≤9:=by omega):Fit 128 (((N:Int):Rat)^j):=by
 have hp:((N:Int):Rat)^j=(((N:Int)^j:Int):Rat):=Hi _ j;rw [hp];refine Fit.int (by decide) ?_;rw [Int.natAbs_pow,Int.natAbs_natCast];exact Nat.lt_of_le_of_lt (Nat.pow_le_pow_left h2 j) (Nat.lt_of_le_of_lt (Nat.pow_le_pow_right (by decide) hj) (by decide +kernel))
theorem Ik {q:List (List Rat)} {D S L:Nat} (hq:∀ p∈q,p.length≤L∧∀ b∈p,Bd D S b) (i:Nat):(q.getD i []).length≤L∧∀ b∈q.getD i [],Bd D S b:=by
 rw [eX];cases hg:q[i]? with
 | none=>exact ⟨bR _,fun b hb=>by cases hb⟩
 | some p=>exact hq p (cS hg)
theorem CB {E:List (List Rat)} {ER:List (List RQ)} {X:Rat} {XR:RQ} (h:SmallX E ER X XR) {m:Nat} {lead:Rat} (hm:E.length=m+1) (hm4:m≤4) (hl:Bd (dX X) sM lead) :
  ∃ B,64≤B∧B≤1000000∧∀ h0 s i0,h0≤63→m≤s→JB B (bW E X) m lead 101 h0 s i0:=by
 obtain ⟨B,h128,hB,r1,r2,r3,r4⟩:=at3;have fit:∀ {u v:Nat} {x:Rat},u≠0→Bd u v x→u≤uR→v≤vR→Fit B x:=fun {u v x} hu hx h1 h2=>hx.fit hu (Nat.lt_of_le_of_lt h1 r3) (Nat.lt_of_le_of_lt (Nat.mul_le_mul h2 h1) r4);have hrp:∀ hh,hh≤63→∀ j,j≤215→Fit B (aY hh^j):=fun hh hh2 j hj=>(Bf (qK hh2) hj).fit (Js _) r1 r2;clear r1 r2 r3 r4;have hq:=h.Ze;have hql:(bW E X).length=m+1:=by rw [bW,aP,hm]
 have hfq:∀ p∈bW E X,p.length≤101∧∀ x∈p,Fit B x:=fun p hp=>⟨(hq p hp).1,fun x hx=>fit (wW X) ((hq p hp).2 x hx) (ZJ h.xb) ZW⟩
 refine ⟨B,by omega,hB,fun h0 s i0 hh63 hms=>⟨fit (wW X) hl (ZJ h.xb) ZW,hfq,fun hh _ hh2 j hj=>hrp hh (by omega) j (by omega),fun hh _ hh2 k hk=>?_,fun i _ hi=>?_,fun i _ hi=>?_⟩⟩
 ·have hr:∀ a∈((bW E X).getD m []).drop 1,Bd (dX X) sM a:=fun a ha=>(Ik hq m).2 a (List.mem_of_mem_drop ha);exact fit (Nat.mul_ne_zero (wW X) (Js 101)) (No (L:=101) (wW X) hr (qK (by omega)) k hk) (ah8 h.xb) (Qn)
 ·obtain ⟨N,hNe,hN1,hN2⟩:=Tn hms hi;obtain ⟨g1,g2⟩:=ZF h.xb hN1 hN2;rw [hNe];refine ⟨hfq,fun j hj=>hrp h0 hh63 j (by omega),fun j hj=>(QI hN2).mono h128,fun i' k hi' hk=>?_⟩;have hpi:=Ik hq i';have ho:=wJ (L:=101) (m:=m) (N:=N) (z:=(N:Int)) (wW X) hq (qK hh63) rfl hN1 hm4 i';have hin:=zO (L:=101) (i:=i') (z:=(N:Int)) (wW X) hpi.2 (qK hh63) rfl hN1 hm4 ho k (by omega);refine fit g1 hin g2 (Nat.le_trans ?_ (Qn (j:=i'*101+101) (k:=101+4)));rw [Nat.add_mul,Nat.mul_assoc];exact Nat.add_le_add_left (Nat.mul_le_mul_right _ (by omega)) _
 ·obtain ⟨N,hNe,hN1,hN2⟩:=Tn hms hi;obtain ⟨g1,g2⟩:=ZF h.xb hN1 hN2;rw [hNe,hql];refine fit g1 (wJ (L:=101) (m:=m) (N:=N) (z:=(N:Int)) (wW X) hq (qK hh63) rfl hN1 hm4 (m+1)) g2 (Nat.le_trans ?_ (Qn (j:=(m+1)*101) (k:=101+4)));rw [Nat.mul_assoc];exact bB _
open Go Go.Proofs Tryz Ord
structure kV (E:List (List Rat)) (X:Rat):Prop where
 ok:AV E=true
 reg:sF E X=true
theorem kV.facts {E:List (List Rat)} {X:Rat} (h:kV E X):2≤E.length∧E.length≤5∧aZ E X≠0∧dU (E.getD (E.length-1) []) X ≠ []:=by
 have:=tC (e:=E) (c:=X) (y:=List.replicate (E.length-1) 0) (by unfold okF;rw [h.ok,h.reg];simp);exact ⟨this.1,this.2.1,this.2.2.2.1,this.2.2.2.2⟩
theorem MJ {E:List (List Rat)} {X:Rat} {Y:List Rat} (h:okF E X Y=true):kV E X:=by
 unfold okF at h;simp only [Bool.and_eq_true] at h;exact ⟨h.1.1,h.2⟩
section
variable {E:List (List Rat)} {ER:List (List RQ)} {X:Rat} {XR:RQ}
theorem SmallX.ZI (h:SmallX E ER X XR) (hr:kV E X):Bd (dX X) sM (aZ E X):=by
 obtain ⟨h2,h5,hld,_⟩:=hr.facts;obtain ⟨p,hp,hp0⟩:=rG hld;exact (h.Ze p (cS hp)).2 _ (cS hp0)
def xZ (E:List (List Rat)) (X:Rat):Out:=match dN (bW E X) (E.length-1) (aZ E X) with
 | some (aH,st)=>.ret [.agg (Bn (bW E X) (E.length-1) (aZ E X) aH (st:Nat))]
 | none=>.pan (Qf 5)
def jJ (E:List (List Rat)) (X:Rat):RQ×Nat:=match dN (bW E X) (E.length-1) (aZ E X) with
 | some (aH,st)=>(.of aH,st)
 | none=>(.nil,0)
theorem Fp (h:SmallX E ER X XR) (hr:kV E X):aN prog 100 [.one (eQ E),qT X] (.ret [GR (bW E X) (E.length-1) (aZ E X)]):=by
 obtain ⟨B,h64,hB,hR⟩:=ZY;obtain ⟨h2,h5,hld,hne⟩:=hr.facts;exact KG (h.room hB (hR _ h.xb.d).1) (by omega) (by omega) hne
theorem yC (h:SmallX E ER X XR) (hr:kV E X):aN prog 123 [GR (bW E X) (E.length-1) (aZ E X)] (xZ E X):=by
 obtain ⟨h2,h5,hld,hne⟩:=hr.facts;obtain ⟨m,hm⟩:∃ m,E.length-1=m:=⟨_,rfl⟩
 obtain ⟨B,h64,hB,hM⟩:=CB h (m:=m) (by omega) (by omega) (h.ZI hr);obtain ⟨hh,ii,hrv,f1,f2,f3,f4,f5,f6⟩:=yL (q:=bW E X) (m:=m) (lead:=aZ E X);obtain ⟨p,hp,hp0⟩:=rG hld;rw [hm] at hp
 have hd:=FB (bW E X) m (aZ E X) B 101 hh ii (hM hh _ ii f1 (by omega)) (by rw [bW,aP];omega) (by omega) (by omega) (by omega) h64 f1
  (by rw [eX,hp];exact (dS.1 hp0).1) f2 f3 (fun _=>f5) (fun _=>f6) f4
 unfold xZ;rw [hm];generalize dN (bW E X) m (aZ E X)=rv at *;clear hM f1 f2 f3 f4 f5 f6;generalize (m+bD (bW E X)+m)*2^ii=st at *;split at hd
 ·rename_i hc;rw [if_pos hc] at hrv;subst hrv;exact hd
 ·rename_i hc;rw [if_neg hc] at hrv;subst hrv;exact hd
theorem Gt (h:SmallX E ER X XR) (hr:kV E X):aN prog 43 [.one (eR ER),lI XR] (.ret [lI (jJ E X).1, .one (.int .i64 (jJ E X).2)]):=by
 obtain ⟨h2,h5,hld,hne⟩:=hr.facts;obtain ⟨m,hm⟩:∃ m,E.length-1=m:=⟨_,rfl⟩
 obtain ⟨B,h64,hB,hM⟩:=CB h (m:=m) (by omega) (by omega) (h.ZI hr);obtain ⟨B1,h641,hB1,hMC⟩:=ZY;obtain ⟨hh,ii,hrv,f1,f2,f3,f4,f5,f6⟩:=yL (q:=bW E X) (m:=m) (lead:=aZ E X);obtain ⟨p,hp,hp0⟩:=rG hld;rw [hm,←h.sh,uY,cU] at hp;obtain ⟨p0,hp1,rfl⟩:=Option.map_eq_some_iff.1 hp;rw [cU] at hp0;obtain ⟨l,hl0,hl⟩:=Option.map_eq_some_iff.1 hp0;unfold jJ;rw [hm];generalize dN (bW E X) m (aZ E X)=rv at *;rw [←hl] at f2 f3 f5 f6 hM;have hd:=SS ER XR B1 (h.Oo (hMC _ h.xb.d).2) h641 (NK ER XR) rfl (bW E X) h.sh m p0 l hp1 hl0 B 101 hh ii (hM hh _ ii f1 (by omega)) (by rw [bW,aP];omega) h64 f1 f2 f3 (fun _=>f5) (fun _=>f6) f4;clear hM f1 f2 f3 f4 f5 f6;generalize (m+bD (bW E X)+m)*2^ii=st at *;split at hd
 ·rename_i hc;rw [if_pos hc] at hrv;subst hrv;exact hd
 ·rename_i hc;rw [if_neg hc] at hrv;subst hrv;exact hd
end
open Go Go.Proofs Tryz Ord
theorem UO {m N D S E T L a b c:Nat} (hq:lJ m N D S E≤2^a) (hr:eH m N D S L≤2^b) (hd:D≤2^c) (ht:T≤2^10):Az m N D S E T L≤2^(c+a*N+(10+b*(N+1))):=by
 unfold Az;rw [Nat.pow_add 2 (c+a*N),Nat.pow_add 2 c,Nat.pow_mul 2 a N,Nat.pow_add 2 10,Nat.pow_mul 2 b];exact Nat.mul_le_mul (Nat.mul_le_mul hd (Nat.pow_le_pow_left hq N)) (Nat.mul_le_mul ht (Nat.pow_le_pow_left hr (N+1)))
theorem ag9:dM≤2^6600∧∀ m,m<5→lJ m 4096 dM sM (eG 999)≤2^14000∧eH m 4096 dM sM 101≤2^7500:=by decide +kernel
theorem wO {m N M:Nat} (h:N≤M):gW m N≤gW m M:=Nat.pow_le_pow_left (by omega) m
theorem Lk {m N M D F S E:Nat} (hN:N≤M) (h:D≤F):lJ m N D S E≤lJ m M F S E:=by
 unfold lJ;exact Nat.add_le_add (Nat.mul_le_mul_left _ (wO hN)) (Nat.mul_le_mul h (Nat.mul_le_mul (Nat.mul_le_mul_left _ (wO hN)) h))
theorem Kx {m N M D F S L:Nat} (hN:N≤M) (h:D≤F):eH m N D S L≤eH m M F S L:=by
 unfold eH;exact Nat.mul_le_mul (Nat.mul_le_mul_left _ (Nat.mul_le_mul_left _ (Nat.mul_le_mul_left _ (wO hN)))) h
theorem Zu {X:Rat} (h:kG X) {N:Nat} (hN:N≤4096):dX X≤2^6600∧∀ m,m<5→lJ m N (dX X) sM (eG 999)≤2^14000∧eH m N (dX X) sM 101≤2^7500:=by
 obtain ⟨h1,h2⟩:=ag9;exact ⟨Nat.le_trans h.dX h1,fun m hm=>⟨Nat.le_trans (Lk hN h.dX) (h2 m hm).1,Nat.le_trans (Kx hN h.dX) (h2 m hm).2⟩⟩
theorem Rd {m N D S E T L a b c B:Nat} (hq:lJ m N D S E≤2^a) (hr:eH m N D S L≤2^b) (hd:D≤2^c) (ht:T≤2^10) (hB:c+a*N+(10+b*(N+1))<B):Az m N D S E T L<2^B:=
 Nat.lt_of_le_of_lt (UO hq hr hd ht) (Nat.pow_lt_pow_right (by decide) hB)
def bN (N:Nat):Nat:=21500*N+14200
theorem az9 {X:Rat} (h:kG X) {N:Nat} (hN:N≤4096) (m:Nat) (hm:m<5:=by omega):Az m N (dX X) sM (eG 999) 999 101<2^bN N:=by
 obtain ⟨h0,hh⟩:=Zu h hN;obtain ⟨h1,h2⟩:=hh m hm;exact Rd h1 h2 h0 (by decide) (by unfold bN;omega)
theorem iJ {q:List (List Rat)} {m:Nat} {lead aH:Rat} {st:Nat} (h:dN q m lead=some (aH,st)) (hm:1≤m:=by omega):∃ hh,hh≤62∧aH=aY hh∧st≤4096∧m+bD q+m≤st:=by
 obtain ⟨hh,ii,hrv,f1,_,_,_,_,_⟩:=yL (q:=q) (m:=m) (lead:=lead) hm;rw [h] at hrv;split at hrv
 ·cases hrv
 ·rename_i hc;simp only [aJ,Prod.mk.injEq] at hrv;obtain ⟨rfl,rfl⟩:=hrv;have h1:1≤2^ii:=Nat.pow_pos (by omega);have h2:(m+bD q+m)*1≤(m+bD q+m)*2^ii:=Nat.mul_le_mul_left _ h1;generalize (m+bD q+m)*2^ii=st at *;exact ⟨hh,by omega,rfl,by omega,by omega⟩
structure vE (r:Rat):Prop where
 d:r.den≤2^200
 s:r.num.natAbs≤2048*r.den
theorem vE.bd {X:Rat} (h:vE X):Bd X.den 2048 X:=⟨Nat.dvd_refl _,h.s⟩
theorem vE.fit {X:Rat} (h:vE X):Fit 220 X:=
 ⟨Nat.lt_of_le_of_lt (Nat.le_trans h.s (Nat.mul_le_mul_left _ h.d)) (by decide),Nat.lt_of_le_of_lt h.d (by decide)⟩
theorem vE.abs {X:Rat} (h:vE X):vE X.abs:=by
 obtain ⟨h1,h2⟩:=lM X;exact ⟨by rw [h2];exact h.d,by rw [h1,h2,Int.natAbs_natCast];exact h.s⟩
theorem kG.t {X:Rat} (h:kG X):vE X:=⟨Nat.le_trans h.d (by decide),Nat.le_trans h.s (Nat.mul_le_mul_right _ (by omega))⟩
def yRn (n:Nat):Nat:=(2^200)^n
def zRn (n:Nat):Nat:=2048^n
def pRn (n:Nat):Nat:=qA^n
def sRn (n:Nat):Nat:=4^n
theorem aq4:yRn 8193<2^2097152∧zRn 8193*yRn 8193<2^2097152∧pRn 8193<2^2097152∧sRn 8193*pRn 8193<2^2097152:=by decide +kernel
theorem XL {hh j n:Nat} (h:hh≤63) (hj:j≤n):Bd (pRn n) (sRn n) (aY hh^j):=by unfold pRn sRn;exact Bf (qK h) hj
theorem aw2 (n:Nat):pRn n≠0:=by unfold pRn;exact Js _
theorem aO5 {r:Rat} (hr:vE r) {j n B:Nat} (hj:j≤n) (h1:yRn n<2^B) (h2:zRn n*yRn n<2^B):Fit B (r^j):=by
 have hp:=Bd.pow (kZ r) hr.bd j
 have hd:r.den^j≤yRn n:=by
  unfold yRn;exact Nat.le_trans (Nat.pow_le_pow_left hr.d j) (Nat.pow_le_pow_right (Nat.pow_pos (by omega)) hj)
 have hz:2048^j≤zRn n:=Nat.pow_le_pow_right (by omega) hj;exact hp.fit (Nat.pos_iff_ne_zero.1 (Nat.pow_pos r.den_pos)) (Nat.lt_of_le_of_lt hd h1) (Nat.lt_of_le_of_lt (Nat.mul_le_mul hz hd) h2)
theorem iX {r:Rat} (hr:vE r) {hh n d B:Nat} (h62:hh≤62) (hn:n≤4096:=by omega) (hd:d≤4:=by omega) (hB:2097152≤B:=by omega):qS B (aY hh) n d r:=by
 obtain ⟨r1,r2,r3,r4⟩:=aq4;have e1:∀ j,j≤8193→Fit 2097152 (r^j):=fun j hj=>aO5 hr hj r1 r2;have e2:∀ j,j≤8193→Fit 2097152 (aY hh^j):=fun j hj=>(XL (Nat.le_trans h62 (by decide)) hj).fit (aw2 _) r3 r4;clear r1 r2 r3 r4;refine ⟨fun j hj=>?_,fun j hj=>(e1 j (by omega)).mono hB,fun j hj=>(e2 j (by omega)).mono hB⟩;have hz:=mL (z:=(n:Int)) (N:=4100) j (by omega);have h2:(4100:Nat)^j≤4100^4:=Nat.pow_le_pow_right (by omega) (by omega);have h3:(4100:Nat)^4=282576100000000:=by decide
 rw [h3] at h2;exact (fV).mono (by omega)
theorem ND {a:List Rat} {aH:Rat} {B n0 W st:Nat} (haf:∀ x∈a,Fit B x) (h1:1≤B) (hrho:∀ j,j≤st→Fit B (aH^j)) (hw:n0+W≤st):∀ k,k≤W→Fit (B+B) (Ox a aH n0 k)
 | 0,_=>Fit.zero (by omega)
 | k+1,hk=>by
   rw [Ox];refine qI (fun x hx=>?_) 2 (by simp);simp only [List.mem_cons,List.not_mem_nil,or_false] at hx;rcases hx with rfl | rfl
   ·exact ND haf h1 hrho hw k (by omega)
   ·exact (jV (gO haf _ h1)).mul (hrho _ (by omega))
open Go Go.Proofs Tryz Ord
section
variable {E:List (List Rat)} {ER:List (List RQ)} {X:Rat} {XR:RQ}
theorem SmallX.at (h:SmallX E ER X XR) {x:Rat} (hx:kG x):SmallX E ER x (.of x):=⟨h.e1,h.e2,h.sim,rfl,h.el,h.eb,h.rb,hx⟩
end
open Go Go.Proofs Tryz Ord
open Go Go.Proofs Tryz Ord
def ah9:Tr:=bA .gtr 3 3 16 0 0 4 (.split (.u 1 0) (bA .rem 3 5 17 0 0 3 (.ret [(W 2 0)])) (.ret [(W 0 0)]))
theorem WO:aL prog f56 (fun _=>none) [.v none]=ah9:=by kernel_rfl
def RG:Tr:=.ret [(.agg [(U 2 0),(U 2 1),(U 2 2),(U 3 0),(U 3 1),(U 3 2)])]
def aC5:Tr:=aM 64 [(G3 0),(G3 1)] [(some 3)] [6,8] [39,39] 39 false (aM 64 [(.agg [(U 0 3),(U 0 4),(U 0 5)]),(.agg [(U 1 3),(U 1 4),(U 1 5)])] [(some 3)] [11,13] [39,39] 39 true RG)
theorem ac7:aL prog f66 (fun _=>none) [.v (some 6), .v (some 6)]=aC5:=by kernel_rfl
def ao4:Tr:=aM 65 [(G3 0)] [(some 3)] [3] [39] 39 false (.ret [(.agg [(U 1 0),(U 1 1),(U 1 2),(U 0 0),(U 0 1),(U 0 2)])])
theorem Pz:aL prog f228 (fun _=>none) [.v (some 3)]=ao4:=by kernel_rfl
abbrev PU (a b:Rat):List aE:=qC a++qC b
abbrev Cl (a b:Rat):aF:=.agg (PU a b)
abbrev ba8 (a b:RQ):List aE:=rC a++rC b
def Gi (k:Int):Int:=if k>16 then k%17 else k
theorem Hl (k:Int):aN prog 56 [(.one (.int .i64 k):aF)] (.ret [.one (.int .i64 (Gi k))]):=by
 refine cM func56 WO ?_;apply vn eE rfl;dsimp only [aA,aB];refine vs _ rfl ?_ ?_<;>intro h1
 ·apply vn (eO) rfl;dsimp only [aA,aB];rw [show Gi k=k%17 from if_pos h1];exact aK rfl
 rw [show Gi k=k from if_neg h1];exact aK rfl
theorem LI (a b c d:Rat) (A B:Nat) (ha:Fit A a) (hb:Fit A b) (hc:Fit B c) (hd:Fit B d) (h:A+B≤34359738368:=by omega):aN prog 66 [(Cl a b:aF),(Cl c d:aF)] (.ret [Cl (a+c) (b+d)]):=by
 refine cM func66 ac7 ?_;apply aC (kA a c A B ha hc h) rfl;dsimp only [aA,aB];apply aC (kA b d A B hb hd h) rfl;exact aK rfl
theorem Ph (r:Rat):aN prog 228 [(qT r:aF)] (.ret [Cl (-r) r]):=by
 refine cM func228 Pz ?_;apply aC (CM r) rfl;exact aK rfl
open Go Go.Proofs Tryz Ord
def al9:Tr:=aM 256 [(W 1 0)] [(some 1)] [6] [3] 35 false (aM 157 [(.agg [(U 2 0),(tE (.bool false))])] [(some 3)] [8] [37] 39 true (aM 36 [(G3 0),(G3 3)] [(some 3)] [5,9] [39,39] 39 true (.ret [(G3 4)])))
theorem Sm:aL prog f285 (fun _=>none) [.v (some 3), .v none]=al9:=by kernel_rfl
def QY:Tr:=.ret [(G3 3)]
def am1:Tr:=aM 117 [(G3 0)] [(some 1)] [5] [39] 35 false (aM 294 [(G2 0),(G1 1)] [(some 2)] [4,6] [37,35] 37 true (aM 157 [(G2 2)] [(some 3)] [7] [37] 39 true QY))
theorem Rh:aL prog f286 (fun _=>none) [.v (some 3)]=am1:=by kernel_rfl
def ag5:Tr:=aM 65 [(G3 0)] [(some 3)] [3] [39] 39 false (aM 286 [(G3 1)] [(some 3)] [4] [39] 39 true (aM 65 [(G3 2)] [(some 3)] [5] [39] 39 true QY))
theorem Wu:aL prog f287 (fun _=>none) [.v (some 3)]=ag5:=by kernel_rfl
def TU:Tr:=aM 202 [(W 1 0)] [(some 3)] [9] [3] 39 true (aM 36 [(G3 3),(G3 4)] [(some 3)] [8,10] [39,39] 39 true (.ret [(G3 5)]))
def af9:Tr:=aM 285 [(G3 0),(W 1 0)] [(some 3)] [5,6] [39,3] 39 false (aM 286 [(G3 2)] [(some 3)] [7] [39] 39 false TU)
theorem VP:aL prog f268 (fun _=>none) [.v (some 3), .v none]=af9:=by kernel_rfl
def az8:Tr:=aM 285 [(G3 0),(W 1 0)] [(some 3)] [5,6] [39,3] 39 false (aM 287 [(G3 2)] [(some 3)] [7] [39] 39 false TU)
theorem aM2:aL prog f269 (fun _=>none) [.v (some 3), .v none]=az8:=by kernel_rfl
def ak0:Tr:=aM 268 [(G3 0),(W 1 0)] [(some 3)] [6,7] [39,3] 39 false (aM 269 [(.agg [(U 0 3),(U 0 4),(U 0 5)]),(W 1 0)] [(some 3)] [10,11] [39,3] 39 true RG)
theorem ai8:aL prog f229 (fun _=>none) [.v (some 6), .v none]=ak0:=by kernel_rfl
def MS (q:Rat):Int:=q.num/(q.den:Int)
def qH (k:Nat):Rat:=(((2^k:Nat):Int):Rat)
def pB (q:Rat) (k:Nat):Rat:=(MS (q*qH k):Rat)*mkRat 1 (2^k)
def PS (q:Rat) (k:Nat):Rat:=(((-MS (-(q*qH k)):Int)):Rat)*mkRat 1 (2^k)
theorem Bl {q:Rat} {H:Nat} (h:Fit H q) (h1:1≤H:=by omega):Fit H (MS q:Rat):=Fit.int h1 (Nat.lt_of_le_of_lt (Int.natAbs_ediv_le_natAbs _ _) h.1)
set_option exponentiation.threshold 600 in
theorem mN {k:Nat} (h:k≤256):Fit 257 (qH k):=Fit.int (by omega) (by rw [Int.natAbs_natCast];exact Nat.pow_lt_pow_right (by omega) (by omega))
set_option exponentiation.threshold 600 in
theorem kL {k:Nat} (h:k≤256):Fit 257 (mkRat 1 (2^k)):=Fit.mkRat (Nat.one_lt_two_pow (by omega)) (Nat.pow_lt_pow_right (by omega) (by omega)) (Nat.pos_iff_ne_zero.1 (Nat.pow_pos (by omega)))
theorem Ua (k:Int) (hk:k≤256):aN prog 256 [(.one (.int .i64 k):aF)] (.ret [mT (2^k.toNat)]):=by
 refine cM func256 ZP ?_;apply aC (iH 2) rfl;dsimp only [aA,aB];apply aC (Io k 256) rfl;rw [show max (0:Int) (min (k:Int) 256)=(k.toNat:Int) by omega];dsimp only [aA,aB];apply aC (Nd 2 k.toNat 2) rfl;exact aK rfl
theorem xO (k:Int) (hk:k≤256:=by omega):aN prog 202 [(.one (.int .i64 k):aF)] (.ret [qT (mkRat 1 (2^k.toNat))]):=by
 refine cM func202 QJ ?_;apply aC (Gl 1) rfl;dsimp only [aA,aB];apply aC (Ua k hk) rfl;dsimp only [aA,aB]
 apply aC (yN 1 (2^k.toNat) (Nat.pow_pos (by omega)) (by
  obtain ⟨H,hH⟩:∃ H,H=257:=⟨_,rfl⟩
  have h1:(dg (2^k.toNat)).length≤H:=fW (Nat.pow_lt_pow_right (by omega) (by omega));have h2:(dg (1:Int).natAbs).length=1:=by rw [show (1:Int).natAbs=1 from rfl,pV];rfl
  omega)) rfl
 exact aK rfl
theorem HS (q:Rat) (k:Int) (H:Nat) (hk:k≤256) (hq:Fit H q) (hH:H≤8589934592:=by omega):aN prog 285 [(qT q:aF),(.one (.int .i64 k):aF)] (.ret [qT (q*qH k.toNat)]):=by
 refine cM func285 Sm ?_;apply aC (Ua k hk) rfl;dsimp only [aA,aB];have hz:decide (((2^k.toNat:Nat):Int)<0)=false:=decide_eq_false (Int.not_lt.2 (Int.natCast_nonneg _));have hw:=GW ((2^k.toNat:Nat):Int);rw [show iT ((2^k.toNat:Nat):Int) = .agg [dT (2^k.toNat), .exact (.bool false)] from by rw [show iT ((2^k.toNat:Nat):Int) = .agg [dT (2^k.toNat), .bool (decide (((2^k.toNat:Nat):Int)<0))] from rfl,hz]] at hw;apply aC hw rfl;dsimp only [aA,aB];apply aC (cY q (qH k.toNat) H 257 hq (mN (by omega))) rfl;exact aK rfl
theorem IX (q:Rat) (H:Nat) (hq:Fit H q) (hH:H≤8589934592:=by omega):aN prog 286 [(qT q:aF)] (.ret [qT (MS q:Rat)]):=by
 refine cM func286 Rh ?_;have h1:=Hz hq.1;have h2:=Hz hq.2;apply aC (fO q) rfl;dsimp only [aA,aB];apply aC (Sv q.num q.den q.den_pos) rfl;dsimp only [aA,aB];apply aC (GW (q.num/(q.den:Int))) rfl;exact aK rfl
theorem Vw (q:Rat) (H:Nat) (hq:Fit H q) (hH:H≤8589934592:=by omega):aN prog 287 [(qT q:aF)] (.ret [qT (((-MS (-q):Int)):Rat)]):=by
 refine cM func287 Wu ?_;apply aC (CM q) rfl;dsimp only [aA,aB];apply aC (IX (-q) H hq.neg hH) rfl;dsimp only [aA,aB];apply aC (CM _) rfl;rw [show -((MS (-q):Int):Rat)=((-MS (-q):Int):Rat) by rw [Rat.intCast_neg]];exact aK rfl
theorem YP (q:Rat) (k:Int) (H:Nat) (hk:k≤256) (hq:Fit H q) (h1:1≤H) (hH:H≤4294967296):aN prog 268 [(qT q:aF),(.one (.int .i64 k):aF)] (.ret [qT (pB q k.toNat)]):=by
 refine cM func268 VP ?_;apply aC (HS q k H hk hq) rfl;dsimp only [aA,aB];apply aC (IX (q*qH k.toNat) (H+257) (hq.mul (mN (by omega)))) rfl;dsimp only [aA,aB];apply aC (xO k hk) rfl;dsimp only [aA,aB];apply aC (cY _ _ (H+257) 257 (Bl (hq.mul (mN (by omega)))) (kL (by omega))) rfl;exact aK rfl
theorem aJ5 (q:Rat) (k:Int) (H:Nat) (hk:k≤256) (hq:Fit H q) (h1:1≤H) (hH:H≤4294967296):aN prog 269 [(qT q:aF),(.one (.int .i64 k):aF)] (.ret [qT (PS q k.toNat)]):=by
 refine cM func269 aM2 ?_;apply aC (HS q k H hk hq) rfl;dsimp only [aA,aB];apply aC (Vw (q*qH k.toNat) (H+257) (hq.mul (mN (by omega)))) rfl;dsimp only [aA,aB];apply aC (xO k hk) rfl;dsimp only [aA,aB];apply aC (cY _ _ (H+257) 257 (by rw [Rat.intCast_neg];exact (Bl (hq.mul (mN (by omega))).neg).neg) (kL (by omega))) rfl;exact aK rfl
theorem Ql (a b:Rat) (k:Int) (H:Nat) (hk:k≤256) (ha:Fit H a) (hb:Fit H b) (h1:1≤H:=by omega) (hH:H≤4294967296:=by omega):aN prog 229 [(Cl a b:aF),(.one (.int .i64 k):aF)] (.ret [Cl (pB a k.toNat) (PS b k.toNat)]):=by
 refine cM func229 ai8 ?_;apply aC (YP a k H hk ha h1 hH) rfl;dsimp only [aA,aB];apply aC (aJ5 b k H hk hb h1 hH) rfl;exact aK rfl
open Go Go.Proofs Tryz Ord
theorem az4 (n:Int) {d:Nat} (hd:d≠0):MS (mkRat n d)=n/(d:Int):=by
 unfold MS;generalize hq:mkRat n d=q;obtain ⟨m,hm,h1,h2⟩:=Rat.mkRat_num_den hd (n':=q.num) (d':=q.den) (z':=q.den_nz) (c:=q.reduced) (by rw [hq]);rw [h1,h2,Int.natCast_mul,Int.mul_ediv_mul_of_pos_left _ _ (by omega)]
theorem Xt (q:Rat) (k:Nat):MS (q*qH k)=q.num*((2^k:Nat):Int)/(q.den:Int):=by
 rw [qH,Rat.mul_def',Rat.num_intCast,Rat.den_intCast,Nat.mul_one,az4 _ q.den_nz]
theorem Zp (q:Rat) (k:Nat):-(pB (-q) k)=PS q k:=by
 unfold pB PS;rw [Rat.intCast_neg,show -q*qH k = -(q*qH k) by grind]
 grind
end Go.Sy
