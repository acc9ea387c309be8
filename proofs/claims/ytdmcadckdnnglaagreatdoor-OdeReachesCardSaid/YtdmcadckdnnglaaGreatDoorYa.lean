/- The reach of a small equation: numbers. Reach, Tail of a small equation.
-/
import Derived.Test.YtdmcadckdnnglaaGreatDoorVc
import Derived.Test.YtdmcadckdnnglaaGreatDoorWb
import Derived.Test.YtdmcadckdnnglaaGreatDoorXb
set_option linter.unusedVariables false
set_option linter.unusedSimpArgs false
namespace Go.Sy
open Go Go.Proofs Tryz Ord
def pG (p:Nat → Bool):Nat → Nat → Nat
 | h,0=>h
 | h,n + 1=>if p h then h else pG p (h + 1) n
theorem uC (p:Nat → Bool):∀ n h,h ≤ pG p h n ∧ pG p h n ≤ h + n ∧ (∀ k,h ≤ k → k < pG p h n → p k = false) ∧ (pG p h n < h + n → p (pG p h n) = true)
 | 0,h=>⟨Nat.le_refl _,Nat.le_refl _,fun k h1 h2=>by simp only [pG] at h2; omega,fun h2=>by simp only [pG] at h2; omega⟩
 | n + 1,h=>by
   rw [pG]
   split
   ·rename_i hp
    exact ⟨Nat.le_refl _,by omega,fun k h1 h2=>by omega,fun _=>hp⟩
   ·rename_i hp
    obtain ⟨h1,h2,h3,h4⟩:=uC p n (h + 1)
    refine ⟨by omega,by omega,fun k hk1 hk2=>?_,fun hk=>h4 (by omega)⟩
    rcases Nat.lt_or_ge h k with hlt | hge
    ·exact h3 k hlt hk2
    ·rw [show k = h by omega]; simpa using hp
def Iz (q:List (List Rat)) (m:Nat) (lead:Rat):Nat:=pG (fun h=>decide (kJ q m lead h)) 0 63
def Ll (q:List (List Rat)) (m:Nat):Nat:=m + aU q + m
def Xu (q:List (List Rat)) (m:Nat) (lead bG:Rat):Nat:=pG (fun i=>decide (4096 < Ll q m * 2 ^ i ∨ eM q m lead bG (Ll q m * 2 ^ i))) 0 13
def dN (q:List (List Rat)) (m:Nat) (lead:Rat):Option (Rat × Nat):=
 if Iz q m lead = 63 ∨ 4096 < Ll q m * 2 ^ Xu q m lead (aX (Iz q m lead)) then none else some (aX (Iz q m lead),Ll q m * 2 ^ Xu q m lead (aX (Iz q m lead)))
theorem GS {q:List (List Rat)} {m:Nat} {lead:Rat} (hm:1 ≤ m):Iz q m lead ≤ 63 ∧ (∀ h,h < Iz q m lead → ¬ kJ q m lead h) ∧ (Iz q m lead ≤ 62 → kJ q m lead (Iz q m lead)) ∧
  Xu q m lead (aX (Iz q m lead)) ≤ 13 ∧ (∀ i,i < Xu q m lead (aX (Iz q m lead)) → Ll q m * 2 ^ i ≤ 4096 ∧ ¬ eM q m lead (aX (Iz q m lead)) (Ll q m * 2 ^ i)) ∧
  (4096 < Ll q m * 2 ^ Xu q m lead (aX (Iz q m lead)) ∨ eM q m lead (aX (Iz q m lead)) (Ll q m * 2 ^ Xu q m lead (aX (Iz q m lead)))):=by
 obtain ⟨_,h2,h3,h4⟩:=uC (fun h=>decide (kJ q m lead h)) 63 0
 have e1:pG (fun h=>decide (kJ q m lead h)) 0 63 = Iz q m lead:=rfl
 rw [e1] at h2 h3 h4
 generalize Iz q m lead = hh at *
 obtain ⟨_,k2,k3,k4⟩:=uC (fun i=>decide (4096 < Ll q m * 2 ^ i ∨ eM q m lead (aX hh) (Ll q m * 2 ^ i))) 13 0
 have e2:pG (fun i=>decide (4096 < Ll q m * 2 ^ i ∨ eM q m lead (aX hh) (Ll q m * 2 ^ i))) 0 13 = Xu q m lead (aX hh):=rfl
 rw [e2] at k2 k3 k4
 generalize Xu q m lead (aX hh) = ii at *
 refine ⟨by omega,fun h hlt=>of_decide_eq_false (h3 h (Nat.zero_le _) hlt),fun hlt=>of_decide_eq_true (h4 (by omega)),by omega,fun i hi=>?_,?_⟩
 ·have:=of_decide_eq_false (k3 i (Nat.zero_le _) hi)
  exact ⟨by omega,fun h=>this (.inr h)⟩
 ·rcases Nat.lt_or_ge ii 13 with h | h
  ·exact of_decide_eq_true (k4 (by omega))
  ·left
   rw [show ii = 13 by omega]
   have:2 ≤ Ll q m:=by unfold Ll; omega
   omega
theorem Ch {q:List (List Rat)} {m:Nat} {lead:Rat} (hm:1 ≤ m):∃ hh ii,dN q m lead = (if hh = 63 ∨ 4096 < (m + aU q + m) * 2 ^ ii then none else some (aX hh,(m + aU q + m) * 2 ^ ii)) ∧ hh ≤ 63 ∧ (∀ h,h < hh → ¬ kJ q m lead h) ∧ (hh ≤ 62 → kJ q m lead hh) ∧
  ii ≤ 13 ∧ (∀ i,i < ii → (m + aU q + m) * 2 ^ i ≤ 4096 ∧ ¬ eM q m lead (aX hh) ((m + aU q + m) * 2 ^ i)) ∧ (4096 < (m + aU q + m) * 2 ^ ii ∨ eM q m lead (aX hh) ((m + aU q + m) * 2 ^ ii)):=
 ⟨_,_,rfl,GS hm⟩
theorem _root_.Ord.Bd.abs {D S:Nat} {q:Rat} (h:Bd D S q):Bd D S q.abs:=by
 obtain ⟨h1,h2⟩:=sX q
 exact ⟨by rw [h2]; exact h.1,by rw [h1,h2]; simpa using h.2⟩
def oG:Nat:=2 ^ 63
theorem KY:oG ≠ 0:=by unfold oG; decide
theorem Dp:0 < oG:=Nat.pos_of_ne_zero KY
theorem pH {h:Nat} (hh:h ≤ 63):Bd oG 4 (aX h):=by
 unfold oG
 have h1:Bd (2 ^ h) 1 (mkRat 1 (2 ^ h)):=Bd.mk (Nat.pos_iff_ne_zero.1 (Nat.pow_pos (by omega))) (by have:=Nat.pow_pos (a:=2) (n:=h) (by omega); simp; omega)
 have h2:=(Bd.int (D:=1) (n:=4) (S:=4) (by omega)).mul (by omega) (by decide) (h1.mono (Nat.pow_dvd_pow 2 hh) (Nat.le_refl _))
 exact h2.mono (by simp) (by omega)
theorem vM (h:Nat):aX h ≠ 0:=by
 intro e
 rcases Rat.mul_eq_zero.1 e with e | e
 ·exact absurd e (by decide +kernel)
 ·rw [Rat.mkRat_eq_zero (Nat.pos_iff_ne_zero.1 (Nat.pow_pos (by omega)))] at e
  omega
theorem Bq {x:Rat} (h:Bd oG 4 x) {j n:Nat} (hj:j ≤ n):Bd (oG ^ n) (4 ^ n) (x ^ j):=
 (Bd.pow KY h j).mono (Nat.pow_dvd_pow _ hj) (Nat.pow_le_pow_right (by omega) hj)
theorem GZ (n:Nat):oG ^ n ≠ 0:=Nat.pos_iff_ne_zero.1 (Nat.pow_pos Dp)
section
variable {D S L:Nat} {bG:Rat}
theorem KT {r:List Rat} (h0:D ≠ 0) (hr:∀ a ∈ r,Bd D S a) (ho:Bd oG 4 bG):∀ k,k ≤ L → Bd (D * oG ^ L) (k * (S * 4 ^ L)) (qG r bG k)
 | 0,_=>Bd.zero
 | k + 1,hk=>by
   rw [qG,Nat.add_mul,Nat.one_mul]
   refine (KT h0 hr ho k (by omega)).add (Nat.mul_ne_zero h0 (GZ _)) ?_
   exact (jF hr k).abs.mul h0 (GZ _) (Bq ho hk)
theorem FD (z:Int):∀ j:Nat,((z:Rat)) ^ j = ((z ^ j:Int):Rat)
 | 0=>by rw [Rat.pow_zero,Int.pow_zero]; rfl
 | j + 1=>by rw [Rat.pow_succ,Int.pow_succ,FD z j,Rat.intCast_mul]
theorem yU {p:List Rat} {m i N:Nat} {z:Int} {x:Rat} {U:Nat} (h0:D ≠ 0) (hp:∀ a ∈ p,Bd D S a) (ho:Bd oG 4 bG) (hz:z = (N:Int)) (hN:1 ≤ N) (hm:m ≤ 4) (hx:Bd (D * oG ^ (L + 4) * N ^ 4) U x) :
  ∀ k,k ≤ L → Bd (D * oG ^ (L + 4) * N ^ 4) (U + k * (S * 4 ^ (L + 4))) (gR p m i bG (z:Rat) x k)
 | 0,_=>by rw [gR,Nat.zero_mul,Nat.add_zero]; exact hx
 | k + 1,hk=>by
   have ih:=yU (i:=i) h0 hp ho hz hN hm hx k (by omega)
   rw [gR,Nat.add_mul k 1,Nat.one_mul,← Nat.add_assoc]
   have hNz:N ^ 4 ≠ 0:=Nat.pos_iff_ne_zero.1 (Nat.pow_pos hN)
   have hD:=Nat.mul_ne_zero h0 (GZ (L + 4))
   split
   ·refine ih.add (Nat.mul_ne_zero hD hNz) ?_
    have h1:=(jF hp k).abs.mul h0 (GZ _) (Bq ho (j:=m + k - i) (n:=L + 4) (by omega))
    have hpw:(z:Rat) ^ (m - i) = ((z ^ (m - i):Int):Rat):=FD z _
    have hzn:z ^ (m - i) ≠ 0:=Int.pow_ne_zero (by omega)
    have h2:=h1.div hD (E:=1) (by omega) (Bd.int (Nat.le_refl _)) (LL hzn)
    rw [Rat.num_intCast,Nat.mul_one,← hpw] at h2
    refine h2.mono (Nat.mul_dvd_mul (Nat.dvd_refl _) ?_) (Nat.le_refl _)
    rw [hz,Int.natAbs_pow,Int.natAbs_natCast]
    exact Nat.pow_dvd_pow N (by omega)
   ·exact ih.le (Nat.le_add_right _ _)
theorem uA {q:List (List Rat)} {m N:Nat} {z:Int} (h0:D ≠ 0) (hq:∀ p ∈ q,p.length ≤ L ∧ ∀ a ∈ p,Bd D S a) (ho:Bd oG 4 bG) (hz:z = (N:Int)) (hN:1 ≤ N) (hm:m ≤ 4) :
  ∀ i,Bd (D * oG ^ (L + 4) * N ^ 4) (i * (L * (S * 4 ^ (L + 4)))) (fK q m bG (z:Rat) i)
 | 0=>Bd.zero
 | i + 1=>by
   have hp:(q.getD i []).length ≤ L ∧ ∀ b ∈ q.getD i [],Bd D S b:=by
    rw [List.getD_eq_getElem?_getD]
    cases h:q[i]? with
    | none=>exact ⟨Nat.zero_le _,fun b hb=>by cases hb⟩
    | some p=>exact hq p (List.mem_of_getElem? h)
   rw [fK,Nat.add_mul i 1,Nat.one_mul]
   exact (yU h0 hp.2 ho hz hN hm (uA h0 hq ho hz hN hm i) _ hp.1).le (Nat.add_le_add_left (Nat.mul_le_mul_right _ hp.1) _)
end
def uR:Nat:=dM * oG ^ 105 * 4097 ^ 4
def vR:Nat:=1024 * (sM * 4 ^ 105)
def wR:Nat:=oG ^ 215
def xR:Nat:=4 ^ 215
theorem al8:∃ B,128 ≤ B ∧ B ≤ 1000000 ∧ wR < 2 ^ B ∧ xR * wR < 2 ^ B ∧ uR < 2 ^ B ∧ vR * uR < 2 ^ B:=
 ⟨131072,by decide,by decide,by decide +kernel,by decide +kernel,by decide +kernel,by decide +kernel⟩
theorem Xv:dM ≤ uR:=by unfold uR; rw [Nat.mul_assoc]; exact Nat.le_mul_of_pos_right _ (Nat.mul_pos (Nat.pow_pos Dp) (by decide))
theorem XC:sM ≤ vR:=by unfold vR; exact Nat.le_trans (Nat.le_mul_of_pos_right _ (Nat.pow_pos (by decide))) (Nat.le_mul_of_pos_left _ (by decide))
theorem Oz {j k:Nat} (hj:j ≤ 1024) (hk:k ≤ 105):j * (sM * 4 ^ k) ≤ vR:=by unfold vR; exact Nat.mul_le_mul hj (Nat.mul_le_mul_left _ (Nat.pow_le_pow_right (by decide) hk))
theorem af1:dM * oG ^ 101 ≤ uR:=by
 unfold uR; rw [Nat.mul_assoc]
 exact Nat.mul_le_mul_left _ (Nat.le_trans (Nat.pow_le_pow_right Dp (by decide)) (Nat.le_mul_of_pos_right _ (by decide)))
theorem Xp {N:Nat} (h1:1 ≤ N) (h2:N ≤ 4097):dM * oG ^ (101 + 4) * N ^ 4 ≠ 0 ∧ dM * oG ^ (101 + 4) * N ^ 4 ≤ uR:=
 ⟨Nat.mul_ne_zero (Nat.mul_ne_zero vT (GZ _)) (Nat.pos_iff_ne_zero.1 (Nat.pow_pos h1)),by unfold uR; rw [show (101 + 4:Nat) = 105 from rfl]; exact Nat.mul_le_mul_left _ (Nat.pow_le_pow_left h2 4)⟩
theorem Qf {m s i:Nat} (h1:m ≤ s) (h2:s * 2 ^ i ≤ 4096):∃ N:Nat,(((s * 2 ^ i:Nat):Int) - m + 1) = (N:Int) ∧ 1 ≤ N ∧ N ≤ 4097:=by
 have h3:1 ≤ 2 ^ i:=Nat.pow_pos (by omega)
 have h4:s * 1 ≤ s * 2 ^ i:=Nat.mul_le_mul_left _ h3
 exact ⟨s * 2 ^ i - m + 1,by omega,by omega,by omega⟩
theorem QG {N j:Nat} (h2:N ≤ 4097) (hj:j ≤ 9):Fit 128 (((N:Int):Rat) ^ j):=by
 have hp:((N:Int):Rat) ^ j = (((N:Int) ^ j:Int):Rat):=FD _ j
 rw [hp]
 refine Fit.int (by decide) ?_
 rw [Int.natAbs_pow,Int.natAbs_natCast]
 exact Nat.lt_of_le_of_lt (Nat.pow_le_pow_left h2 j) (Nat.lt_of_le_of_lt (Nat.pow_le_pow_right (by decide) hj) (by decide +kernel))
theorem Im {q:List (List Rat)} {D S L:Nat} (hq:∀ p ∈ q,p.length ≤ L ∧ ∀ b ∈ p,Bd D S b) (i:Nat):(q.getD i []).length ≤ L ∧ ∀ b ∈ q.getD i [],Bd D S b:=by
 rw [List.getD_eq_getElem?_getD]
 cases hg:q[i]? with
 | none=>exact ⟨Nat.zero_le _,fun b hb=>by cases hb⟩
 | some p=>exact hq p (List.mem_of_getElem? hg)
theorem BO {E:List (List Rat)} {ER:List (List RQ)} {X:Rat} {XR:RQ} (h:SmallX E ER X XR) {m:Nat} {lead:Rat} (hm:E.length = m + 1) (hm4:m ≤ 4) (hl:Bd dM sM lead) :
  ∃ B,64 ≤ B ∧ B ≤ 1000000 ∧ ∀ h0 s i0,h0 ≤ 63 → m ≤ s → Iv B (cF E X) m lead 101 h0 s i0:=by
 obtain ⟨B,h128,hB,r1,r2,r3,r4⟩:=al8
 have fit:∀ {u v:Nat} {x:Rat},u ≠ 0 → Bd u v x → u ≤ uR → v ≤ vR → Fit B x:=fun {u v x} hu hx h1 h2=>hx.fit hu (Nat.lt_of_le_of_lt h1 r3) (Nat.lt_of_le_of_lt (Nat.mul_le_mul h2 h1) r4)
 have hrp:∀ hh,hh ≤ 63 → ∀ j,j ≤ 215 → Fit B (aX hh ^ j):=fun hh hh2 j hj=>(Bq (pH hh2) hj).fit (GZ _) r1 r2
 clear r1 r2 r3 r4
 have hq:=h.Tw
 have hql:(cF E X).length = m + 1:=by rw [cF,List.length_map,hm]
 have hfq:∀ p ∈ cF E X,p.length ≤ 101 ∧ ∀ x ∈ p,Fit B x:=fun p hp=>⟨(hq p hp).1,fun x hx=>fit vT ((hq p hp).2 x hx) Xv XC⟩
 refine ⟨B,by omega,hB,fun h0 s i0 hh63 hms=>⟨fit vT hl Xv XC,hfq,fun hh _ hh2 j hj=>hrp hh (by omega) j (by omega),fun hh _ hh2 k hk=>?_,fun i _ hi=>?_,fun i _ hi=>?_⟩⟩
 ·have hr:∀ a ∈ ((cF E X).getD m []).drop 1,Bd dM sM a:=fun a ha=>(Im hq m).2 a (List.mem_of_mem_drop ha)
  exact fit (Nat.mul_ne_zero vT (GZ 101)) (KT (L:=101) vT hr (pH (by omega)) k hk) af1 (Oz (by omega) (by omega))
 ·obtain ⟨N,hNe,hN1,hN2⟩:=Qf hms hi
  obtain ⟨g1,g2⟩:=Xp hN1 hN2
  rw [hNe]
  refine ⟨hfq,fun j hj=>hrp h0 hh63 j (by omega),fun j hj=>(QG hN2 (by omega)).mono h128,fun i' k hi' hk=>?_⟩
  have hpi:=Im hq i'
  have ho:=uA (L:=101) (m:=m) (N:=N) (z:=(N:Int)) vT hq (pH hh63) rfl hN1 hm4 i'
  have hin:=yU (L:=101) (i:=i') (z:=(N:Int)) vT hpi.2 (pH hh63) rfl hN1 hm4 ho k (by omega)
  refine fit g1 hin g2 (Nat.le_trans ?_ (Oz (j:=i' * 101 + 101) (k:=101 + 4) (by omega) (by omega)))
  rw [Nat.add_mul,Nat.mul_assoc]
  exact Nat.add_le_add_left (Nat.mul_le_mul_right _ (by omega)) _
 ·obtain ⟨N,hNe,hN1,hN2⟩:=Qf hms hi
  obtain ⟨g1,g2⟩:=Xp hN1 hN2
  rw [hNe,hql]
  refine fit g1 (uA (L:=101) (m:=m) (N:=N) (z:=(N:Int)) vT hq (pH hh63) rfl hN1 hm4 (m + 1)) g2 (Nat.le_trans ?_ (Oz (j:=(m + 1) * 101) (k:=101 + 4) (by omega) (by omega)))
  rw [Nat.mul_assoc]
  exact Nat.le_refl _
end Go.Sy
namespace Go.Sy
open Go Go.Proofs Tryz Ord
def YM:Tr:=aJ 97 [(W 0 0),(G3 1)] [none] [14,15] [32,39] 4 true (.need (.prim [(W 4 0)] none) (.unOp .not 4 (tT 16)) 4 false (.split (.u 5 0) (.ret [(.agg [tN,(tE (.bool false)),tN]),(WK 0),(WK 11)]) (aJ 121 [(.one (.gS 122 [(.ref 0 [(.u 0 0)]),(.ref 0 [(.u 1 0),(.u 1 1),(.u 1 2)]),(.ref 0 [(.k (.slice none 0 0)),(.k (.int .i64 0)),(.k (.slice none 0 0)),(.k (.bool false)),(.k (.slice none 0 0)),(.k (.slice none 0 0)),(.k (.bool false)),(.k (.slice none 0 0)),(.k (.int .i64 0))])]))] [none] [19] [1] 55 true (aQ .neq 55 21 0 6 0 4 (.split (.u 7 0) (.ret [(.agg [tN,(tE (.bool false)),tN]),(WK 0),(W 6 0)]) (.ret [(.agg [tN,(tE (.bool false)),tN]),(WK 0),(WK 0)]))))))
def am5:Tr:=aJ 19 [(W 0 0)] [none] [9] [32] 55 true (aQ .neq 55 10 0 2 0 4 (.split (.u 3 0) (.ret [(.agg [tN,(tE (.bool false)),tN]),(WK 0),(WK 2)]) YM))
theorem Hh:aN prog f41 (fun _=>none) [.v none, .v (some 3)] = am5:=by kernel_rfl
structure Cq (E:List (List Rat)) (X:Rat):Prop where
 ok:lG E = true
 reg:iU E X = true
theorem Cq.facts {E:List (List Rat)} {X:Rat} (h:Cq E X):2 ≤ E.length ∧ E.length ≤ 5 ∧ bH E X ≠ 0 ∧ bX (E.getD (E.length - 1) []) X ≠ []:=by
 have:=kD (e:=E) (c:=X) (y:=List.replicate (E.length - 1) 0) (by unfold okF; rw [h.ok,h.reg]; simp)
 exact ⟨this.1,this.2.1,this.2.2.2.1,this.2.2.2.2⟩
theorem KB {E:List (List Rat)} {X:Rat} {Y:List Rat} (h:okF E X Y = true):Cq E X:=by
 unfold okF at h
 simp only [Bool.and_eq_true] at h
 exact ⟨h.1.1,h.2⟩
section
variable {E:List (List Rat)} {ER:List (List RQ)} {X:Rat} {XR:RQ}
theorem SmallX.XS (h:SmallX E ER X XR) (hr:Cq E X):Bd dM sM (bH E X):=by
 obtain ⟨h2,h5,hld,_⟩:=hr.facts
 obtain ⟨p,hp,hp0⟩:=lT hld (by omega)
 exact (h.Tw p (List.mem_of_getElem? hp)).2 _ (List.mem_of_getElem? hp0)
def wA (E:List (List Rat)) (X:Rat):Out:=match dN (cF E X) (E.length - 1) (bH E X) with
 | some (bG,st)=>.ret [.agg (RZ (cF E X) (E.length - 1) (bH E X) bG (st:Nat))]
 | none=>.pan (MI 5)
def mB (E:List (List Rat)) (X:Rat):RQ × Nat:=match dN (cF E X) (E.length - 1) (bH E X) with
 | some (bG,st)=>(.of bG,st)
 | none=>(.nil,0)
theorem xV (h:SmallX E ER X XR) (hr:Cq E X):aL prog 100 [.one (eQ E),qT X] (.ret [tB (cF E X) (E.length - 1) (bH E X)]):=by
 obtain ⟨B,h64,hB,hC,_,_⟩:=RL
 obtain ⟨h2,h5,hld,hne⟩:=hr.facts
 exact JJ (h.room hB hC) (by omega) (by omega) hne
theorem vO (h:SmallX E ER X XR) (hr:Cq E X):aL prog 123 [tB (cF E X) (E.length - 1) (bH E X)] (wA E X):=by
 obtain ⟨h2,h5,hld,hne⟩:=hr.facts
 obtain ⟨m,hm⟩:∃ m,E.length - 1 = m:=⟨_,rfl⟩
 obtain ⟨B,h64,hB,hM⟩:=BO h (m:=m) (by omega) (by omega) (h.XS hr)
 obtain ⟨hh,ii,hrv,f1,f2,f3,f4,f5,f6⟩:=Ch (q:=cF E X) (m:=m) (lead:=bH E X) (by omega)
 obtain ⟨p,hp,hp0⟩:=lT hld (by omega)
 rw [hm] at hp
 have hd:=Ea (cF E X) m (bH E X) B 101 hh ii (hM hh _ ii f1 (by omega)) (by rw [cF,List.length_map]; omega) (by omega) (by omega) (by omega) h64 f1
  (by rw [List.getD_eq_getElem?_getD,hp]; exact (List.getElem?_eq_some_iff.1 hp0).1) f2 f3 (fun _=>f5) (fun _=>f6) f4
 unfold wA
 rw [hm]
 generalize dN (cF E X) m (bH E X) = rv at *
 clear hM f1 f2 f3 f4 f5 f6
 generalize (m + aU (cF E X) + m) * 2 ^ ii = st at *
 split at hd
 ·rename_i hc
  rw [if_pos hc] at hrv; subst hrv; exact hd
 ·rename_i hc
  rw [if_neg hc] at hrv; subst hrv; exact hd
theorem vZ (h:SmallX E ER X XR) (hr:Cq E X):aL prog 43 [.one (eR ER),fB XR] (.ret [fB (mB E X).1, .one (.int .i64 (mB E X).2)]):=by
 obtain ⟨h2,h5,hld,hne⟩:=hr.facts
 obtain ⟨m,hm⟩:∃ m,E.length - 1 = m:=⟨_,rfl⟩
 obtain ⟨B,h64,hB,hM⟩:=BO h (m:=m) (by omega) (by omega) (h.XS hr)
 obtain ⟨B1,h641,hB1,_,hMC,_⟩:=RL
 obtain ⟨hh,ii,hrv,f1,f2,f3,f4,f5,f6⟩:=Ch (q:=cF E X) (m:=m) (lead:=bH E X) (by omega)
 obtain ⟨p,hp,hp0⟩:=lT hld (by omega)
 rw [hm,← h.sh,eC,List.getElem?_map] at hp
 obtain ⟨p0,hp1,rfl⟩:=Option.map_eq_some_iff.1 hp
 rw [List.getElem?_map] at hp0
 obtain ⟨l,hl0,hl⟩:=Option.map_eq_some_iff.1 hp0
 unfold mB
 rw [hm]
 generalize dN (cF E X) m (bH E X) = rv at *
 rw [← hl] at f2 f3 f5 f6 hM
 have hd:=RM ER XR B1 (h.ap7 hMC) (by omega) h641 (Bg ER XR) rfl (cF E X) h.sh m p0 l hp1 hl0 B 101 hh ii (hM hh _ ii f1 (by omega)) (by rw [cF,List.length_map]; omega) (by omega) (by omega) (by omega) h64 f1 f2 f3 (fun _=>f5) (fun _=>f6) f4
 clear hM f1 f2 f3 f4 f5 f6
 generalize (m + aU (cF E X) + m) * 2 ^ ii = st at *
 split at hd
 ·rename_i hc
  rw [if_pos hc] at hrv; subst hrv; exact hd
 ·rename_i hc
  rw [if_neg hc] at hrv; subst hrv; exact hd
theorem FC (e:List (List Rat)) (c:Rat) (hce:aL prog 19 [.one (eQ e)] (.ret [.one (.int .i64 2)])):aL prog 41 [(.one (eQ e):aH),(qT c:aH)] (.ret [qT 0, .one (.int .i64 0), .one (.int .i64 2)]):=by
 refine aD (args:=[.v none, .v (some 3)]) (ins:=[.v (.one (eQ e)), .v (qT c)]) (hints:=(fun _=>none)) fo (by kernel_rfl) func41 ⟨rfl,rfl,trivial⟩ ?_
 rw [Hh]
 dsimp only [List.map,In.env,aB,aA]
 refine aC hce rfl ?_
 dsimp only [aB,aA]
 refine vn dR rfl ?_
 dsimp only [aB,aA]
 refine vs _ rfl (fun h2=>?_) (fun h2=>?_)
 ·exact dA ⟨fA,aH.Sub.same,aH.Sub.same,trivial⟩
 exact absurd (by decide) h2
theorem EW (e:List (List Rat)) (c:Rat) (hce:aL prog 19 [.one (eQ e)] (.ret [.one (.int .i64 0)])) (hrg:aL prog 97 [.one (eQ e),qT c] (.ret [.one (.bool false)])):aL prog 41 [(.one (eQ e):aH),(qT c:aH)] (.ret [qT 0, .one (.int .i64 0), .one (.int .i64 11)]):=by
 refine aD (args:=[.v none, .v (some 3)]) (ins:=[.v (.one (eQ e)), .v (qT c)]) (hints:=(fun _=>none)) fo (by kernel_rfl) func41 ⟨rfl,rfl,trivial⟩ ?_
 rw [Hh]
 dsimp only [List.map,In.env,aB,aA]
 refine aC hce rfl ?_
 dsimp only [aB,aA]
 refine vn dR rfl ?_
 dsimp only [aB,aA]
 refine vs _ rfl (fun h2=>?_) (fun h2=>?_)
 ·exact absurd rfl h2
 refine aC hrg rfl ?_
 dsimp only [aB,aA]
 refine vn lW rfl ?_
 dsimp only [aB,aA]
 refine uY true rfl (fun _=>?_) (fun h=>by cases h)
 exact dA ⟨fA,aH.Sub.same,aH.Sub.same,trivial⟩
def kP (E:List (List Rat)) (X:Rat):Rat × Int × Int:=
 if lG E = true then (if iU E X = true then (match dN (cF E X) (E.length - 1) (bH E X) with | some (bG,st)=>(bG,(st:Int),0) | none=>(0,0,5)) else (0,0,11)) else (0,0,2)
theorem FN (h:SmallX E ER X XR):aL prog 41 [.one (eQ E),qT X] (.ret [qT (kP E X).1, .one (.int .i64 (kP E X).2.1), .one (.int .i64 (kP E X).2.2)]):=by
 have hl:=h.e1.l
 have hce:=jL E (by omega) (fun p hp=>by have:=(h.e1.p p hp).1; omega)
 unfold kP
 by_cases hok:lG E = true
 ·rw [if_pos hok] at hce ⊢
  have hlen:0 < E.length:=by
   unfold lG at hok
   rw [decide_eq_true_iff] at hok
   omega
  have hrg:=tX E X h.e1 hlen h.xf
  by_cases hreg:iU E X = true
  ·rw [if_pos hreg]
   rw [hreg] at hrg
   have hr:Cq E X:=⟨hok,hreg⟩
   have ho:=vO h hr
   unfold wA at ho
   cases hv:dN (cF E X) (E.length - 1) (bH E X) with
   | none=>rw [hv] at ho; exact Gc E X _ _ _ 5 (by omega) hce hrg (xV h hr) ho
   | some x=>obtain ⟨bG,st⟩:=x; rw [hv] at ho; exact AH E X _ _ _ bG st hce hrg (xV h hr) ho
  ·rw [if_neg hreg]
   rw [show iU E X = false by simpa using hreg] at hrg
   exact EW E X hce hrg
 ·rw [if_neg hok] at hce ⊢
  exact FC E X hce
end
end Go.Sy
