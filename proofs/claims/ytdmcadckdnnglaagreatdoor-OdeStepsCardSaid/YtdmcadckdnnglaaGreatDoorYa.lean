/- Steps. -/
import Derived.Test.YtdmcadckdnnglaaGreatDoorVb
import Derived.Test.YtdmcadckdnnglaaGreatDoorWb
import Derived.Test.YtdmcadckdnnglaaGreatDoorXa
set_option linter.unusedVariables false
set_option linter.unusedSimpArgs false
namespace Go.Sy
open Go Go.Proofs Tryz Ord
def kP (p:Nat→Bool):Nat→Nat→Nat
 | h,0=>h
 | h,n+1=>if p h then h else kP p (h+1) n
theorem qR (p:Nat→Bool):∀ n h,h≤kP p h n∧kP p h n≤h+n∧(∀ k,h≤k→k<kP p h n→p k=false)∧(kP p h n<h+n→p (kP p h n)=true)
 | 0,h=>⟨Nat.le_refl _,Nat.le_refl _,fun k h1 h2=>by simp only [kP] at h2;omega,fun h2=>by simp only [kP] at h2;omega⟩
 | n+1,h=>by
   rw [kP];split
   ·rename_i hp;exact ⟨Nat.le_refl _,by omega,fun k h1 h2=>by omega,fun _=>hp⟩
   ·rename_i hp;obtain ⟨h1,h2,h3,h4⟩:=qR p n (h+1);refine ⟨by omega,by omega,fun k hk1 hk2=>?_,fun hk=>h4 (by omega)⟩;rcases Nat.lt_or_ge h k with hlt | hge
    ·exact h3 k hlt hk2
    ·rw [show k=h by omega];simpa using hp
def JG (q:List (List Rat)) (m:Nat) (lead:Rat):Nat:=kP (fun h=>decide (kI q m lead h)) 0 63
def Mp (q:List (List Rat)) (m:Nat):Nat:=m+bA q+m
def YZ (q:List (List Rat)) (m:Nat) (lead aJ:Rat):Nat:=kP (fun i=>decide (4096<Mp q m*2^i∨eS q m lead aJ (Mp q m*2^i))) 0 13
def eL (q:List (List Rat)) (m:Nat) (lead:Rat):Option (Rat×Nat):=
 if JG q m lead=63∨4096<Mp q m*2^YZ q m lead (bD (JG q m lead)) then none else some (bD (JG q m lead),Mp q m*2^YZ q m lead (bD (JG q m lead)))
theorem IY {q:List (List Rat)} {m:Nat} {lead:Rat} (hm:1≤m):JG q m lead≤63∧(∀ h,h<JG q m lead→¬ kI q m lead h)∧(JG q m lead≤62→kI q m lead (JG q m lead)) ∧
  YZ q m lead (bD (JG q m lead))≤13∧(∀ i,i<YZ q m lead (bD (JG q m lead))→Mp q m*2^i≤4096∧¬ eS q m lead (bD (JG q m lead)) (Mp q m*2^i)) ∧
  (4096<Mp q m*2^YZ q m lead (bD (JG q m lead))∨eS q m lead (bD (JG q m lead)) (Mp q m*2^YZ q m lead (bD (JG q m lead)))):=by
 obtain ⟨_,h2,h3,h4⟩:=qR (fun h=>decide (kI q m lead h)) 63 0;have e1:kP (fun h=>decide (kI q m lead h)) 0 63=JG q m lead:=rfl;rw [e1] at h2 h3 h4;generalize JG q m lead=hh at *;obtain ⟨_,k2,k3,k4⟩:=qR (fun i=>decide (4096<Mp q m*2^i∨eS q m lead (bD hh) (Mp q m*2^i))) 13 0;have e2:kP (fun i=>decide (4096<Mp q m*2^i∨eS q m lead (bD hh) (Mp q m*2^i))) 0 13=YZ q m lead (bD hh):=rfl;rw [e2] at k2 k3 k4;generalize YZ q m lead (bD hh)=ii at *;refine ⟨by omega,fun h hlt=>of_decide_eq_false (h3 h (Nat.zero_le _) hlt),fun hlt=>of_decide_eq_true (h4 (by omega)),by omega,fun i hi=>?_,?_⟩
 ·have:=of_decide_eq_false (k3 i (Nat.zero_le _) hi);exact ⟨by omega,fun h=>this (.inr h)⟩
 ·rcases Nat.lt_or_ge ii 13 with h | h
  ·exact of_decide_eq_true (k4 (by omega))
  ·left
   rw [show ii=13 by omega];have:2≤Mp q m:=by unfold Mp;omega
   omega
theorem BO {q:List (List Rat)} {m:Nat} {lead:Rat} (hm:1≤m):∃ hh ii,eL q m lead=(if hh=63∨4096<(m+bA q+m)*2^ii then none else some (bD hh,(m+bA q+m)*2^ii))∧hh≤63∧(∀ h,h<hh→¬ kI q m lead h)∧(hh≤62→kI q m lead hh) ∧
  ii≤13∧(∀ i,i<ii→(m+bA q+m)*2^i≤4096∧¬ eS q m lead (bD hh) ((m+bA q+m)*2^i))∧(4096<(m+bA q+m)*2^ii∨eS q m lead (bD hh) ((m+bA q+m)*2^ii)):=
 ⟨_,_,rfl,IY hm⟩
theorem _root_.Ord.Bd.abs {D S:Nat} {q:Rat} (h:Bd D S q):Bd D S q.abs:=by
 obtain ⟨h1,h2⟩:=oM q;exact ⟨by rw [h2];exact h.1,by rw [h1,h2];simpa using h.2⟩
def pL:Nat:=2^63
theorem LG:pL≠0:=by unfold pL;decide
theorem Cr:0<pL:=Nat.pos_of_ne_zero LG
theorem qD {h:Nat} (hh:h≤63):Bd pL 4 (bD h):=by
 unfold pL;have h1:Bd (2^h) 1 (mkRat 1 (2^h)):=Bd.mk (Nat.pos_iff_ne_zero.1 (Nat.pow_pos (by omega))) (by have:=Nat.pow_pos (a:=2) (n:=h) (by omega);simp;omega);have h2:=(Bd.int (D:=1) (n:=4) (S:=4) (by omega)).mul (by omega) (by decide) (h1.mono (Nat.pow_dvd_pow 2 hh) (Nat.le_refl _));exact h2.mono (by simp) (by omega)
theorem vW (h:Nat):bD h≠0:=by
 intro e;rcases Rat.mul_eq_zero.1 e with e | e
 ·exact absurd e (by decide +kernel)
 ·rw [Rat.mkRat_eq_zero (Nat.pos_iff_ne_zero.1 (Nat.pow_pos (by omega)))] at e;omega
theorem AU {x:Rat} (h:Bd pL 4 x) {j n:Nat} (hj:j≤n):Bd (pL^n) (4^n) (x^j):=
 (Bd.pow LG h j).mono (Nat.pow_dvd_pow _ hj) (Nat.pow_le_pow_right (by omega) hj)
theorem Hx (n:Nat):pL^n≠0:=Nat.pos_iff_ne_zero.1 (Nat.pow_pos Cr)
section
variable {D S L:Nat} {aJ:Rat}
theorem MH {r:List Rat} (h0:D≠0) (hr:∀ a∈r,Bd D S a) (ho:Bd pL 4 aJ):∀ k,k≤L→Bd (D*pL^L) (k*(S*4^L)) (qX r aJ k)
 | 0,_=>Bd.zero
 | k+1,hk=>by
   rw [qX,Nat.add_mul,Nat.one_mul];refine (MH h0 hr ho k (by omega)).add (Nat.mul_ne_zero h0 (Hx _)) ?_;exact (iA hr k).abs.mul h0 (Hx _) (AU ho hk)
theorem FU (z:Int):∀ j:Nat,((z:Rat))^j=((z^j:Int):Rat)
 | 0=>by rw [Rat.pow_zero,Int.pow_zero];rfl
 | j+1=>by rw [Rat.pow_succ,Int.pow_succ,FU z j,Rat.intCast_mul]
theorem zF {p:List Rat} {m i N:Nat} {z:Int} {x:Rat} {U:Nat} (h0:D≠0) (hp:∀ a∈p,Bd D S a) (ho:Bd pL 4 aJ) (hz:z=(N:Int)) (hN:1≤N) (hm:m≤4) (hx:Bd (D*pL^(L+4)*N^4) U x) :
  ∀ k,k≤L→Bd (D*pL^(L+4)*N^4) (U+k*(S*4^(L+4))) (gQ p m i aJ (z:Rat) x k)
 | 0,_=>by rw [gQ,Nat.zero_mul,Nat.add_zero];exact hx
 | k+1,hk=>by
   have ih:=zF (i:=i) h0 hp ho hz hN hm hx k (by omega);rw [gQ,Nat.add_mul k 1,Nat.one_mul,←Nat.add_assoc];have hNz:N^4≠0:=Nat.pos_iff_ne_zero.1 (Nat.pow_pos hN);have hD:=Nat.mul_ne_zero h0 (Hx (L+4));split
   ·refine ih.add (Nat.mul_ne_zero hD hNz) ?_;have h1:=(iA hp k).abs.mul h0 (Hx _) (AU ho (j:=m+k-i) (n:=L+4) (by omega));have hpw:(z:Rat)^(m-i)=((z^(m-i):Int):Rat):=FU z _;have hzn:z^(m-i)≠0:=Int.pow_ne_zero (by omega);have h2:=h1.div hD (E:=1) (by omega) (Bd.int (Nat.le_refl _)) (Ln hzn);rw [Rat.num_intCast,Nat.mul_one,←hpw] at h2;refine h2.mono (Nat.mul_dvd_mul (Nat.dvd_refl _) ?_) (Nat.le_refl _);rw [hz,Int.natAbs_pow,Int.natAbs_natCast];exact Nat.pow_dvd_pow N (by omega)
   ·exact ih.le (Nat.le_add_right _ _)
theorem vN {q:List (List Rat)} {m N:Nat} {z:Int} (h0:D≠0) (hq:∀ p∈q,p.length≤L∧∀ a∈p,Bd D S a) (ho:Bd pL 4 aJ) (hz:z=(N:Int)) (hN:1≤N) (hm:m≤4) :
  ∀ i,Bd (D*pL^(L+4)*N^4) (i*(L*(S*4^(L+4)))) (fI q m aJ (z:Rat) i)
 | 0=>Bd.zero
 | i+1=>by
   have hp:(q.getD i []).length≤L∧∀ b∈q.getD i [],Bd D S b:=by
    rw [List.getD_eq_getElem?_getD];cases h:q[i]? with
    | none=>exact ⟨Nat.zero_le _,fun b hb=>by cases hb⟩
    | some p=>exact hq p (List.mem_of_getElem? h)
   rw [fI,Nat.add_mul i 1,Nat.one_mul];exact (zF h0 hp.2 ho hz hN hm (vN h0 hq ho hz hN hm i) _ hp.1).le (Nat.add_le_add_left (Nat.mul_le_mul_right _ hp.1) _)
end
def uR:Nat:=dM*pL^105*4097^4
def vR:Nat:=1024*(sM*4^105)
def wR:Nat:=pL^215
def xR:Nat:=4^215
theorem ap8:∃ B,128≤B∧B≤1000000∧wR<2^B∧xR*wR<2^B∧uR<2^B∧vR*uR<2^B:=
 ⟨131072,by decide,by decide,by decide +kernel,by decide +kernel,by decide +kernel,by decide +kernel⟩
theorem Zr:dM≤uR:=by unfold uR;rw [Nat.mul_assoc];exact Nat.le_mul_of_pos_right _ (Nat.mul_pos (Nat.pow_pos Cr) (by decide))
theorem Zz:sM≤vR:=by unfold vR;exact Nat.le_trans (Nat.le_mul_of_pos_right _ (Nat.pow_pos (by decide))) (Nat.le_mul_of_pos_left _ (by decide))
theorem Tz {j k:Nat} (hj:j≤1024) (hk:k≤105):j*(sM*4^k)≤vR:=by unfold vR;exact Nat.mul_le_mul hj (Nat.mul_le_mul_left _ (Nat.pow_le_pow_right (by decide) hk))
theorem al5:dM*pL^101≤uR:=by
 unfold uR;rw [Nat.mul_assoc];exact Nat.mul_le_mul_left _ (Nat.le_trans (Nat.pow_le_pow_right Cr (by decide)) (Nat.le_mul_of_pos_right _ (by decide)))
theorem Zx {N:Nat} (h1:1≤N) (h2:N≤4097):dM*pL^(101+4)*N^4≠0∧dM*pL^(101+4)*N^4≤uR:=
 ⟨Nat.mul_ne_zero (Nat.mul_ne_zero uJ (Hx _)) (Nat.pos_iff_ne_zero.1 (Nat.pow_pos h1)),by unfold uR;rw [show (101+4:Nat)=105 from rfl];exact Nat.mul_le_mul_left _ (Nat.pow_le_pow_left h2 4)⟩
theorem PE {m s i:Nat} (h1:m≤s) (h2:s*2^i≤4096):∃ N:Nat,(((s*2^i:Nat):Int)-m+1)=(N:Int)∧1≤N∧N≤4097:=by
 have h3:1≤2^i:=Nat.pow_pos (by omega);have h4:s*1≤s*2^i:=Nat.mul_le_mul_left _ h3;exact ⟨s*2^i-m+1,by omega,by omega,by omega⟩
theorem RR {N j:Nat} (h2:N≤4097) (hj:j≤9):Fit 128 (((N:Int):Rat)^j):=by
 have hp:((N:Int):Rat)^j=(((N:Int)^j:Int):Rat):=FU _ j;rw [hp];refine Fit.int (by decide) ?_;rw [Int.natAbs_pow,Int.natAbs_natCast];exact Nat.lt_of_le_of_lt (Nat.pow_le_pow_left h2 j) (Nat.lt_of_le_of_lt (Nat.pow_le_pow_right (by decide) hj) (by decide +kernel))
theorem Jz {q:List (List Rat)} {D S L:Nat} (hq:∀ p∈q,p.length≤L∧∀ b∈p,Bd D S b) (i:Nat):(q.getD i []).length≤L∧∀ b∈q.getD i [],Bd D S b:=by
 rw [List.getD_eq_getElem?_getD];cases hg:q[i]? with
 | none=>exact ⟨Nat.zero_le _,fun b hb=>by cases hb⟩
 | some p=>exact hq p (List.mem_of_getElem? hg)
theorem BZ {E:List (List Rat)} {ER:List (List RQ)} {X:Rat} {XR:RQ} (h:SmallX E ER X XR) {m:Nat} {lead:Rat} (hm:E.length=m+1) (hm4:m≤4) (hl:Bd dM sM lead) :
  ∃ B,64≤B∧B≤1000000∧∀ h0 s i0,h0≤63→m≤s→Jv B (bH E X) m lead 101 h0 s i0:=by
 obtain ⟨B,h128,hB,r1,r2,r3,r4⟩:=ap8;have fit:∀ {u v:Nat} {x:Rat},u≠0→Bd u v x→u≤uR→v≤vR→Fit B x:=fun {u v x} hu hx h1 h2=>hx.fit hu (Nat.lt_of_le_of_lt h1 r3) (Nat.lt_of_le_of_lt (Nat.mul_le_mul h2 h1) r4);have hrp:∀ hh,hh≤63→∀ j,j≤215→Fit B (bD hh^j):=fun hh hh2 j hj=>(AU (qD hh2) hj).fit (Hx _) r1 r2;clear r1 r2 r3 r4;have hq:=h.NY;have hql:(bH E X).length=m+1:=by rw [bH,List.length_map,hm]
 have hfq:∀ p∈bH E X,p.length≤101∧∀ x∈p,Fit B x:=fun p hp=>⟨(hq p hp).1,fun x hx=>fit uJ ((hq p hp).2 x hx) Zr Zz⟩
 refine ⟨B,by omega,hB,fun h0 s i0 hh63 hms=>⟨fit uJ hl Zr Zz,hfq,fun hh _ hh2 j hj=>hrp hh (by omega) j (by omega),fun hh _ hh2 k hk=>?_,fun i _ hi=>?_,fun i _ hi=>?_⟩⟩
 ·have hr:∀ a∈((bH E X).getD m []).drop 1,Bd dM sM a:=fun a ha=>(Jz hq m).2 a (List.mem_of_mem_drop ha);exact fit (Nat.mul_ne_zero uJ (Hx 101)) (MH (L:=101) uJ hr (qD (by omega)) k hk) al5 (Tz (by omega) (by omega))
 ·obtain ⟨N,hNe,hN1,hN2⟩:=PE hms hi;obtain ⟨g1,g2⟩:=Zx hN1 hN2;rw [hNe];refine ⟨hfq,fun j hj=>hrp h0 hh63 j (by omega),fun j hj=>(RR hN2 (by omega)).mono h128,fun i' k hi' hk=>?_⟩;have hpi:=Jz hq i';have ho:=vN (L:=101) (m:=m) (N:=N) (z:=(N:Int)) uJ hq (qD hh63) rfl hN1 hm4 i';have hin:=zF (L:=101) (i:=i') (z:=(N:Int)) uJ hpi.2 (qD hh63) rfl hN1 hm4 ho k (by omega);refine fit g1 hin g2 (Nat.le_trans ?_ (Tz (j:=i'*101+101) (k:=101+4) (by omega) (by omega)));rw [Nat.add_mul,Nat.mul_assoc];exact Nat.add_le_add_left (Nat.mul_le_mul_right _ (by omega)) _
 ·obtain ⟨N,hNe,hN1,hN2⟩:=PE hms hi;obtain ⟨g1,g2⟩:=Zx hN1 hN2;rw [hNe,hql];refine fit g1 (vN (L:=101) (m:=m) (N:=N) (z:=(N:Int)) uJ hq (qD hh63) rfl hN1 hm4 (m+1)) g2 (Nat.le_trans ?_ (Tz (j:=(m+1)*101) (k:=101+4) (by omega) (by omega)));rw [Nat.mul_assoc];exact Nat.le_refl _
open Go Go.Proofs Tryz Ord
structure iK (E:List (List Rat)) (X:Rat):Prop where
 ok:nI E=true
 reg:jO E X=true
theorem iK.facts {E:List (List Rat)} {X:Rat} (h:iK E X):2≤E.length∧E.length≤5∧aQ E X≠0∧dP (E.getD (E.length-1) []) X ≠ []:=by
 have:=xX (e:=E) (c:=X) (y:=List.replicate (E.length-1) 0) (by unfold okF;rw [h.ok,h.reg];simp);exact ⟨this.1,this.2.1,this.2.2.2.1,this.2.2.2.2⟩
section
variable {E:List (List Rat)} {ER:List (List RQ)} {X:Rat} {XR:RQ}
theorem SmallX.Zc (h:SmallX E ER X XR) (hr:iK E X):Bd dM sM (aQ E X):=by
 obtain ⟨h2,h5,hld,_⟩:=hr.facts;obtain ⟨p,hp,hp0⟩:=jV hld (by omega);exact (h.NY p (List.mem_of_getElem? hp)).2 _ (List.mem_of_getElem? hp0)
def BG (E:List (List Rat)) (X:Rat):Out:=match eL (bH E X) (E.length-1) (aQ E X) with
 | some (aJ,st)=>.ret [.agg (yE (bH E X) (E.length-1) (aQ E X) aJ (st:Nat))]
 | none=>.pan (LN 5)
def fO (E:List (List Rat)) (X:Rat):RQ×Nat:=match eL (bH E X) (E.length-1) (aQ E X) with
 | some (aJ,st)=>(.of aJ,st)
 | none=>(.nil,0)
theorem NG (h:SmallX E ER X XR) (hr:iK E X):aM prog 100 [.one (eQ E),qT X] (.ret [xA (bH E X) (E.length-1) (aQ E X)]):=by
 obtain ⟨B,h64,hB,hC,_,_⟩:=QP;obtain ⟨h2,h5,hld,hne⟩:=hr.facts;exact JR (h.room hB hC) (by omega) (by omega) hne
theorem Gq (h:SmallX E ER X XR) (hr:iK E X):aM prog 123 [xA (bH E X) (E.length-1) (aQ E X)] (BG E X):=by
 obtain ⟨h2,h5,hld,hne⟩:=hr.facts;obtain ⟨m,hm⟩:∃ m,E.length-1=m:=⟨_,rfl⟩
 obtain ⟨B,h64,hB,hM⟩:=BZ h (m:=m) (by omega) (by omega) (h.Zc hr);obtain ⟨hh,ii,hrv,f1,f2,f3,f4,f5,f6⟩:=BO (q:=bH E X) (m:=m) (lead:=aQ E X) (by omega);obtain ⟨p,hp,hp0⟩:=jV hld (by omega);rw [hm] at hp
 have hd:=FA (bH E X) m (aQ E X) B 101 hh ii (hM hh _ ii f1 (by omega)) (by rw [bH,List.length_map];omega) (by omega) (by omega) (by omega) h64 f1
  (by rw [List.getD_eq_getElem?_getD,hp];exact (List.getElem?_eq_some_iff.1 hp0).1) f2 f3 (fun _=>f5) (fun _=>f6) f4
 unfold BG;rw [hm];generalize eL (bH E X) m (aQ E X)=rv at *;clear hM f1 f2 f3 f4 f5 f6;generalize (m+bA (bH E X)+m)*2^ii=st at *;split at hd
 ·rename_i hc;rw [if_pos hc] at hrv;subst hrv;exact hd
 ·rename_i hc;rw [if_neg hc] at hrv;subst hrv;exact hd
theorem qS (h:SmallX E ER X XR) (hr:iK E X):aM prog 43 [.one (eR ER),dE XR] (.ret [dE (fO E X).1, .one (.int .i64 (fO E X).2)]):=by
 obtain ⟨h2,h5,hld,hne⟩:=hr.facts;obtain ⟨m,hm⟩:∃ m,E.length-1=m:=⟨_,rfl⟩
 obtain ⟨B,h64,hB,hM⟩:=BZ h (m:=m) (by omega) (by omega) (h.Zc hr);obtain ⟨B1,h641,hB1,_,hMC,_⟩:=QP;obtain ⟨hh,ii,hrv,f1,f2,f3,f4,f5,f6⟩:=BO (q:=bH E X) (m:=m) (lead:=aQ E X) (by omega);obtain ⟨p,hp,hp0⟩:=jV hld (by omega);rw [hm,←h.sh,fG,List.getElem?_map] at hp;obtain ⟨p0,hp1,rfl⟩:=Option.map_eq_some_iff.1 hp;rw [List.getElem?_map] at hp0;obtain ⟨l,hl0,hl⟩:=Option.map_eq_some_iff.1 hp0;unfold fO;rw [hm];generalize eL (bH E X) m (aQ E X)=rv at *;rw [←hl] at f2 f3 f5 f6 hM;have hd:=Ss ER XR B1 (h.Kt hMC) (by omega) h641 (yJ ER XR) rfl (bH E X) h.sh m p0 l hp1 hl0 B 101 hh ii (hM hh _ ii f1 (by omega)) (by rw [bH,List.length_map];omega) (by omega) (by omega) (by omega) h64 f1 f2 f3 (fun _=>f5) (fun _=>f6) f4;clear hM f1 f2 f3 f4 f5 f6;generalize (m+bA (bH E X)+m)*2^ii=st at *;split at hd
 ·rename_i hc;rw [if_pos hc] at hrv;subst hrv;exact hd
 ·rename_i hc;rw [if_neg hc] at hrv;subst hrv;exact hd
end
open Go Go.Proofs Tryz Ord
theorem Sv {m N D S E T L a b c:Nat} (hq:pW m N D S E≤2^a) (hr:eF m N D S L≤2^b) (hd:D≤2^c) (ht:T≤2^10):uN m N D S E T L≤2^(c+a*N+(10+b*(N+1))):=by
 unfold uN;rw [Nat.pow_add 2 (c+a*N),Nat.pow_add 2 c,Nat.pow_mul 2 a N,Nat.pow_add 2 10,Nat.pow_mul 2 b];exact Nat.mul_le_mul (Nat.mul_le_mul hd (Nat.pow_le_pow_left hq N)) (Nat.mul_le_mul ht (Nat.pow_le_pow_left hr (N+1)))
theorem Qr:dM≤2^80000∧∀ m,m<5→pW m 1500 dM sM (cG 999)≤2^150000∧eF m 1500 dM sM 101≤2^80000∧pW m 200 dM sM (cG 999)≤2^150000∧eF m 200 dM sM 101≤2^80000:=by decide +kernel
theorem Jc {m N D S E T L a b c B:Nat} (hq:pW m N D S E≤2^a) (hr:eF m N D S L≤2^b) (hd:D≤2^c) (ht:T≤2^10) (hB:c+a*N+(10+b*(N+1))<B):uN m N D S E T L<2^B:=
 Nat.lt_of_le_of_lt (Sv hq hr hd ht) (Nat.pow_lt_pow_right (by decide) hB)
def Nf:Nat:=345160011
def WU:Nat:=46160011
theorem NW (m:Nat) (hm:m<5):uN m 1500 dM sM (cG 999) 999 101<2^Nf:=by
 obtain ⟨h0,h⟩:=Qr;obtain ⟨h1,h2,_,_⟩:=h m hm;exact Jc h1 h2 h0 (by decide) (by decide)
theorem HH (m:Nat) (hm:m<5):uN m 200 dM sM (cG 999) 999 101<2^WU:=by
 obtain ⟨h0,h⟩:=Qr;obtain ⟨_,_,h1,h2⟩:=h m hm;exact Jc h1 h2 h0 (by decide) (by decide)
section
variable {c:cP}
theorem Bn.aZ9 (h:Bn c) (hok:okF c.E c.X c.Y=true):XU (bH c.E c.X) (c.E.length-1) (aQ c.E c.X) c.Y dM sM (cG 999) 999 101:=by
 obtain ⟨h2,h5,hyl,hld,_⟩:=xX hok;have hm:=h.NY;obtain ⟨p,hp,hp0⟩:=jV hld (by omega);exact ⟨uJ,eP _,TF,by omega,by omega,hm,(hm p (List.mem_of_getElem? hp)).2 _ (List.mem_of_getElem? hp0),hld,h.yb,by rw [bH,List.length_map];omega⟩
theorem Bn.xK (h:Bn c) (hok:okF c.E c.X c.Y=true):fU WU (bH c.E c.X) (c.E.length-1) (aQ c.E c.X) c.Y 200:=by
 have h5:=(xX hok).2.1;exact yY (h.aZ9 hok) (by omega) (by omega) (HH _ (by omega))
end
theorem dY {q:List (List Rat)} {m:Nat} {lead aJ:Rat} {st:Nat} (hm:1≤m) (h:eL q m lead=some (aJ,st)):∃ hh,hh≤62∧aJ=bD hh∧st≤4096∧m+bA q+m≤st:=by
 obtain ⟨hh,ii,hrv,f1,_,_,_,_,_⟩:=BO (q:=q) (m:=m) (lead:=lead) hm;rw [h] at hrv;split at hrv
 ·cases hrv
 ·rename_i hc;simp only [Option.some.injEq,Prod.mk.injEq] at hrv;obtain ⟨rfl,rfl⟩:=hrv;have h1:1≤2^ii:=Nat.pow_pos (by omega);have h2:(m+bA q+m)*1≤(m+bA q+m)*2^ii:=Nat.mul_le_mul_left _ h1;generalize (m+bA q+m)*2^ii=st at *;exact ⟨hh,by omega,rfl,by omega,by omega⟩
def yRn (n:Nat):Nat:=cG 999^n
def zRn (n:Nat):Nat:=999^n
def pRn (n:Nat):Nat:=pL^n
def sRn (n:Nat):Nat:=4^n
theorem at6:yRn 3001<2^8388608∧zRn 3001*yRn 3001<2^8388608∧pRn 3001<2^8388608∧sRn 3001*pRn 3001<2^8388608:=by decide +kernel
theorem UE {hh j n:Nat} (h:hh≤63) (hj:j≤n):Bd (pRn n) (sRn n) (bD hh^j):=by unfold pRn sRn;exact AU (qD h) hj
theorem aA3 (n:Nat):pRn n≠0:=by unfold pRn;exact Hx _
theorem ay4 (n:Nat):yRn n≠0:=Nat.pos_iff_ne_zero.1 (Nat.pow_pos (Nat.pos_of_ne_zero (eP _)))
theorem aE9 {r:Rat} (hr:Bd (cG 999) 999 r) {j n:Nat} (hj:j≤n):Bd (yRn n) (zRn n) (r^j):=by
 unfold yRn zRn;exact (Bd.pow (eP _) hr j).mono (Nat.pow_dvd_pow _ hj) (Nat.pow_le_pow_right (by decide) hj)
theorem gE {r:Rat} (hr:Bd (cG 999) 999 r) {hh n d B:Nat} (h62:hh≤62) (hn:n≤1500) (hd:d≤4) (hB:8388608≤B):mJ B (bD hh) n d r:=by
 obtain ⟨r1,r2,r3,r4⟩:=at6;have e1:∀ j,j≤3001→Fit 8388608 (r^j):=fun j hj=>(aE9 hr hj).fit (ay4 _) r1 r2;have e2:∀ j,j≤3001→Fit 8388608 (bD hh^j):=fun j hj=>(UE (Nat.le_trans h62 (by decide)) hj).fit (aA3 _) r3 r4;clear r1 r2 r3 r4;refine ⟨fun j hj=>?_,fun j hj=>(e1 j (by omega)).mono hB,fun j hj=>(e2 j (by omega)).mono hB⟩;have hz:=mH (z:=(n:Int)) (N:=1504) j (by omega);have h2:(1504:Nat)^j≤1504^4:=Nat.pow_le_pow_right (by omega) (by omega);have h3:(1504:Nat)^4=5116716384256:=by decide
 rw [h3] at h2;exact (eA (by omega) (by omega)).mono (by omega)
theorem MA {a:List Rat} {aJ:Rat} {B n0 W st:Nat} (haf:∀ x∈a,Fit B x) (h1:1≤B) (hrho:∀ j,j≤st→Fit B (aJ^j)) (hw:n0+W≤st):∀ k,k≤W→Fit (B+B) (FB a aJ n0 k)
 | 0,_=>Fit.zero (by omega)
 | k+1,hk=>by
   rw [FB];refine rS (by omega) (fun x hx=>?_) 2 (by simp);simp only [List.mem_cons,List.not_mem_nil,or_false] at hx;rcases hx with rfl | rfl
   ·exact MA haf h1 hrho hw k (by omega)
   ·exact (dQ (kH h1 haf _)).mul (hrho _ (by omega))
section
variable {c:cP}
end
open Go Go.Proofs Tryz Ord
section
variable {E:List (List Rat)} {ER:List (List RQ)} {X:Rat} {XR:RQ}
theorem kR (h:SmallX E ER X XR):aM prog 20 [.one (eR ER)] (.ret [.one (.bool (nI E))]):=by
 have hd:=Rv ER (by have:=h.erl;omega) (fun p hp=>by have:=(h.rq p hp).1;omega);rw [h.sim.nI] at hd;exact hd
theorem lT (h:SmallX E ER X XR) (hok:nI E=true):aM prog 42 [.one (eR ER),dE XR] (.ret [.one (.bool (jO E X))]):=by
 have h0:0<ER.length:=by
  have h1:=h.sim.1;rw [iD] at h1;unfold nI at hok;rw [decide_eq_true_iff] at hok;omega
 have hd:=JQ ER XR h.e2 h0 (by rw [h.x];exact h.xf);rw [h.sim.jO,h.x] at hd;exact hd
theorem SmallX.at (h:SmallX E ER X XR) {x:bQ} (hx:x.In) (hs:x.short=true):SmallX E ER x.v (.of x.v):=
 ⟨h.e1,h.e2,h.sim,rfl,h.el,h.eb,h.rb,bQ.vU hs,hx.Pe⟩
end
theorem Ep {E:List (List Rat)} {X:Rat} (h:eL (bH E X) (E.length-1) (aQ E X)=none):fO E X=(.nil,0):=by unfold fO;rw [h]
theorem kB {E:List (List Rat)} {X aJ:Rat} {st:Nat} (h:eL (bH E X) (E.length-1) (aQ E X)=some (aJ,st)):fO E X=(.of aJ,st):=by unfold fO;rw [h]
end Go.Sy
