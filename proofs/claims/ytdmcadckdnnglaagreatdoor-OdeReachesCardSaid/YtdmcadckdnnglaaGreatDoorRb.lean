/- The reference's integers: division, common divisors. The reference's rational numbers.
-/
import Derived.Test.YtdmcadckdnnglaaGreatDoorRa
set_option linter.unusedVariables false
set_option linter.unusedSimpArgs false
namespace Go.Sy
open Go Go.Proofs Tryz Ord
def XV:Tr:=.back 0 [lV 10 0,lV 11 0]
def au3:Tr:=.split (.u 5 0) (aQ .mul 3 14 32768 3 0 3 (aQ .sub 3 17 1 1 0 3 (bK .sub 3 18 19 7 0 4 0 3 (aJ 263 [(W 0 0),(W 8 0)] [none] [16,20] [45,3] 3 true (bK .add 3 15 21 6 0 9 0 3 (aQ .add 3 12 1 4 0 3 XV)))))) (.ret [(W 3 0)])
def av0:Tr:=.loop 0 [lK 0,lK 0] (bK .lss 3 9 10 4 0 2 0 4 au3)
theorem Oi:aN prog f284 (fun _=>none) [.v none, .v none, .v none] = av0:=by kernel_rfl
def ai7:Tr:=.loop 0 [lV 14 0,lV 10 0] (aJ 215 [(W 15 0),(W 1 0)] [none] [46,47] [45,45] 3 true (aQ .geq 3 48 0 17 0 4 (.split (.u 18 0) (.need (.call 214 [(W 15 0),(W 1 0),(WK (-1))] [none]) (.call ⟨.value (.func 214),#[(tT 50),(tT 51),(.const (I3 (-1)))],#[45,45,3]⟩) 45 true (aQ .add 3 53 1 16 0 3 (.back 0 [lV 19 0,lV 20 0]))) (.ret [(W 16 0),(W 15 0)]))))
def ab5:Tr:=.loop 0 [lV 0 0,lV 10 0] (aJ 215 [(W 12 0),(W 1 0)] [none] [46,47] [45,45] 3 true (aQ .geq 3 48 0 14 0 4 (.split (.u 15 0) (.need (.call 214 [(W 12 0),(W 1 0),(WK (-1))] [none]) (.call ⟨.value (.func 214),#[(tT 50),(tT 51),(.const (I3 (-1)))],#[45,45,3]⟩) 45 true (aQ .add 3 53 1 13 0 3 (.back 0 [lV 16 0,lV 17 0]))) (.ret [(W 13 0),(W 12 0)]))))
def Pj:Tr:=aQ .gtr 3 36 0 10 0 4 (.split (.u 11 0) (aJ 139 [(W 10 0)] [(some 2)] [39] [2] 47 false (aJ 135 [(G2 12),(.agg [(tE (.int .i64 1)),(U 1 0)])] [(some 2)] [40,42] [47,47] 47 true (.need (.call 214 [(W 0 0),(W 13 1),(WK (-1))] [none]) (.call ⟨.value (.func 214),#[(tT 38),(tT 44),(.const (I3 (-1)))],#[45,45,3]⟩) 45 true ai7))) ab5)
def aA7:Tr:=aQ .leq 3 14 3 2 0 4 (.split (.u 5 0) (aQ .add 3 17 1 2 0 3 (aQ .add 3 19 1 2 0 3 (aJ 284 [(W 0 0),(W 6 0),(W 7 0)] [none] [16,18,20] [45,3,3] 3 false (aJ 284 [(W 1 0),(W 2 0),(W 2 0)] [none] [22,23,24] [45,3,3] 3 true (bK .quo 3 21 25 8 0 9 0 3 Pj))))) (aQ .add 3 28 1 2 0 3 (.need (.call 284 [(W 0 0),(W 6 0),(WK 4)] [none]) (.call ⟨.value (.func 284),#[(tT 27),(tT 29),(.const (I3 4))],#[45,3,3]⟩) 3 false (.need (.call 284 [(W 1 0),(W 2 0),(WK 3)] [none]) (.call ⟨.value (.func 284),#[(tT 31),(tT 32),(.const (I3 3))],#[45,3,3]⟩) 3 false (aQ .add 3 33 1 8 0 3 (bK .quo 3 30 34 7 0 9 0 3 Pj))))))
def ac8:Tr:=.loop 0 [lV 8 0,lK 0] (aJ 215 [(W 9 0),(W 1 0)] [none] [46,47] [45,45] 3 true (aQ .geq 3 48 0 11 0 4 (.split (.u 12 0) (.need (.call 214 [(W 9 0),(W 1 0),(WK (-1))] [none]) (.call ⟨.value (.func 214),#[(tT 50),(tT 51),(.const (I3 (-1)))],#[45,45,3]⟩) 45 true (aQ .add 3 53 1 10 0 3 (.back 0 [lV 13 0,lV 14 0]))) (.ret [(W 10 0),(W 9 0)]))))
def aj8:Tr:=.split (.u 5 0) (aJ 139 [(WK 0)] [(some 2)] [39] [2] 47 false (aJ 135 [(G2 6),(.agg [(tE (.int .i64 1)),(U 1 0)])] [(some 2)] [40,42] [47,47] 47 true (.need (.call 214 [(W 0 0),(W 7 1),(WK (-1))] [none]) (.call ⟨.value (.func 214),#[(tT 38),(tT 44),(.const (I3 (-1)))],#[45,45,3]⟩) 45 true ac8))) (.loop 0 [lV 0 0,lK 0] (aJ 215 [(W 6 0),(W 1 0)] [none] [46,47] [45,45] 3 true (aQ .geq 3 48 0 8 0 4 (.split (.u 9 0) (.need (.call 214 [(W 6 0),(W 1 0),(WK (-1))] [none]) (.call ⟨.value (.func 214),#[(tT 50),(tT 51),(.const (I3 (-1)))],#[45,45,3]⟩) 45 true (aQ .add 3 53 1 7 0 3 XV)) (.ret [(W 7 0),(W 6 0)])))))
def aI5:Tr:=cM 1 0 8 45 (cM 0 0 10 45 (bK .geq 3 11 12 3 0 2 0 4 (.split (.u 4 0) aA7 (.need (.prim [(WK 0),(WK 0)] none) (.binOp .gtr 3 (tT 36) (.const (I3 0)) 3) 4 false aj8))))
theorem Pt:aN prog f261 (fun _=>none) [.v none, .v none] = aI5:=by kernel_rfl
def Zw:Tr:=.need (.app 1 8 (some 17) none (some 20)) (.call ⟨.builtin .append,#[(tT 33),(tT 38)],#[45,45]⟩) 45 false (aJ 260 [(.one (.c (.sr 1 21)))] [none] [39] [45] 45 true (aJ 261 [(W 22 0),(W 1 0)] [none,none] [42,43] [45,45] 311 false (.need (.lit 1 [[(.u 23 0)]]) (.buildSlice 45 1 #[(0,(tT 48))]) 45 false (.need (.app 1 8 (some 14) none (some 25)) (.call ⟨.builtin .append,#[(tT 47),(tT 49)],#[45,45]⟩) 45 false (aQ .add 3 30 1 13 0 3 (.back 0 [lV 24 0,lV 27 0, .row 26]))))))
def YA:Tr:=cM 0 0 27 45 (bK .lss 3 26 28 13 0 15 0 4 (.split (.u 16 0) (.need (.app 1 8 none (some (.u 12 0)) none) (.call ⟨.builtin .append,#[(.const (.slice none 0 0)),(tT 32)],#[45,45]⟩) 45 false (eU 0 0 13 0 45 34 35 (dP 18 0 none 3 36 (.need (.lit 1 [[(.u 19 0)]]) (.buildSlice 45 1 #[(0,(tT 37))]) 45 false Zw)))) (aJ 260 [(.one (.c (.sr 1 14)))] [none] [51] [45] 45 false (.ret [(W 17 0),(W 12 0)]))))
def aq5:Tr:=aQ .sub 3 18 1 5 0 3 (.need (.prim [(W 0 0),(W 6 0)] none) (.slice 45 (tT 16) none (some (tT 19)) none) 45 false (.need (.app 1 8 none (some (.u 7 0)) none) (.call ⟨.builtin .append,#[(.const (.slice none 0 0)),(tT 20)],#[45,45]⟩) 45 false (aJ 260 [(.one (.c (.sr 1 8)))] [none] [21] [45] 45 true (cM 1 0 23 45 (aQ .sub 3 24 1 10 0 3 (.loop 0 [lV 9 0,lV 11 0, .nilrow] YA))))))
def au0:Tr:=cM 0 0 10 45 (cM 1 0 12 45 (bK .lss 3 11 13 2 0 3 0 4 (.split (.u 4 0) (.ret [(.one (.c (.k (.slice none 0 0)))),(W 0 0)]) (cM 1 0 17 45 aq5))))
theorem VQ:aN prog f213 (fun _=>none) [.v none, .v none] = au0:=by kernel_rfl
def aC8:Tr:=.split (.u 4 0) (aQ .mul 3 11 32768 1 0 3 (eU 0 0 2 0 45 13 14 (dP 6 0 none 3 15 (bK .add 3 12 16 5 0 7 0 3 (aQ .add 3 9 1 2 0 3 (.back 0 [lV 8 0,lV 9 0])))))) (.ret [(W 1 0)])
def as5:Tr:=.loop 0 [lK 0,lK 0] (cM 0 0 6 45 (bK .lss 3 5 7 2 0 3 0 4 aC8))
theorem Sf:aN prog f257 (fun _=>none) [.v none] = as5:=by kernel_rfl
def ai0:Tr:=aJ 257 [(W 2 0)] [none] [26] [45] 3 false (aJ 257 [(W 3 0)] [none] [28] [45] 3 true (.loop 1 [lV 12 0,lV 13 0] (aQ .neq 3 30 0 15 0 4 (.split (.u 16 0) (bK .rem 3 33 34 14 0 15 0 3 (.back 1 [lV 15 0,lV 17 0])) (aJ 139 [(W 14 0)] [(some 2)] [36] [2] 47 true (.ret [(G2 17)]))))))
def aw8:Tr:=aQ .leq 3 19 4 8 0 4 (.split (.u 9 0) (cM 3 0 22 45 (aQ .leq 3 23 4 10 0 4 (.split (.u 11 0) ai0 (aJ 213 [(W 2 0),(W 3 0)] [none,none] [39,40] [45,45] 269 false (.back 0 [lV 3 0,lV 13 0,lV 4 0,lV 5 0]))))) (aJ 213 [(W 2 0),(W 3 0)] [none,none] [39,40] [45,45] 269 false (.back 0 [lV 3 0,lV 11 0,lV 4 0,lV 5 0])))
def aC7:Tr:=.loop 0 [lV 0 1,lV 1 1,lK 0,lN] (cM 3 0 15 45 (aQ .gtr 3 16 0 6 0 4 (.split (.u 7 0) (cM 2 0 18 45 aw8) (.need (.call 211 [(WK 1),(W 2 0)] [(some 2)]) (.call ⟨.value (.func 211),#[(.const (I3 1)),(tT 46)],#[3,45]⟩) 47 true (.ret [(G2 8)])))))
theorem Xb:aN prog f212 (fun _=>none) [.v (some 2), .v (some 2)] = aC7:=by kernel_rfl
theorem JR {m long i:Nat} (h:i < long):m / 32768 ^ (long - i) * 32768 + m / 32768 ^ (long - 1 - i) % 32768 = m / 32768 ^ (long - (i + 1)):=by
 have e:m / 32768 ^ (long - i) = m / 32768 ^ (long - (i + 1)) / 32768:=by
  rw [Nat.div_div_eq_div_mul,← Nat.pow_succ]; congr 2; omega
 rw [e,show long - 1 - i = long - (i + 1) by omega]
 have:=Nat.div_add_mod (m / 32768 ^ (long - (i + 1))) 32768
 omega
theorem vN {m long i:Nat} (h:i ≤ long) (hm:m < 32768 ^ long):m / 32768 ^ (long - i) < 32768 ^ i:=by
 rw [Nat.div_lt_iff_lt_mul (Nat.pow_pos (by omega)),← Nat.pow_add,show i + (long - i) = long by omega]; exact hm
theorem IG {i:Nat} (h:i ≤ 4):32768 ^ i ≤ 1152921504606846976:=by
 have:=Nat.pow_le_pow_right (n:=32768) (by omega) h
 rw [show (32768:Nat) ^ 4 = 1152921504606846976 by decide] at this; exact this
theorem vD (m long k:Nat) (hm:m < 32768 ^ long) (hk:k ≤ long) (hk4:k ≤ 4) (hl:long < 1099511627776) (hs:(bd m).length < 1099511627776):aL prog 284 [(.one (bT m):aH),(.one (.int .i64 long):aH),(.one (.int .i64 k):aH)] (.ret [.one (.int .i64 ((m / 32768 ^ (long - k):Nat):Int))]):=by
 refine aD (args:=[.v none, .v none, .v none]) (ins:=[.v (.one (bT m)), .v (.one (.int .i64 long)), .v (.one (.int .i64 k))]) (hints:=(fun _=>none)) fo (by kernel_rfl) func284 ⟨rfl,rfl,rfl,trivial⟩ ?_
 rw [Oi]
 dsimp only [List.map,In.env,aB,aA]
 refine bA {i:Nat // i ≤ k} (fun g=>[.one (.int .i64 ((m / 32768 ^ (long - g.1):Nat):Int)), .one (.int .i64 g.1)]) (fun g=>k - g.1) ⟨0,Nat.zero_le _⟩ ⟨aH.Sub.of_eq (congrArg (fun q:Nat=>aH.one (aI.int .i64 (q:Int))) (by show 0 = m / 32768 ^ long; rw [Nat.div_eq_of_lt hm])),aH.Sub.same,trivial⟩ (fun _=>rfl) ?_
 rintro ⟨i,hi⟩
 dsimp only [aB,aA] at hi ⊢
 refine vn aY rfl ?_
 dsimp only [aB,aA]
 refine vs _ rfl (fun h2=>?_) (fun h2=>?_)
 ·have hx:=vN (m:=m) (i:=i) (long:=long) (by omega) hm
  have hp:=IG (i:=i) (by omega)
  have hstep:=JR (m:=m) (long:=long) (i:=i) (by omega)
  have hlt:=vN (m:=m) (i:=i + 1) (long:=long) (by omega) hm
  have hp2:=IG (i:=i + 1) (by omega)
  generalize m / 32768 ^ (long - i) = x at *
  generalize hy:m / 32768 ^ (long - (i + 1)) = y at *
  refine vn (lJ (by omega) (by omega)) rfl ?_
  dsimp only [aB,aA]
  refine vn (aG (by omega) (by omega)) rfl ?_
  dsimp only [aB,aA]
  refine vn (mE (c:=((long - 1 - i:Nat):Int)) (by rw [show ((long:Int) - 1 - (i:Int)) = ((long - 1 - i:Nat):Int) by omega]; exact dI (by omega) (by omega))) rfl ?_
  dsimp only [aB,aA]
  refine aC (Cj m (long - 1 - i) (by omega) hs) rfl ?_
  generalize m / 32768 ^ (long - 1 - i) % 32768 = d at *
  dsimp only [aB,aA]
  refine vn (dK (c:=(y:Int)) (by rw [show (x:Int) * 32768 + (d:Int) = (y:Int) by omega]; exact dI (by omega) (by omega))) rfl ?_
  dsimp only [aB,aA]
  refine vn (aE (by omega) (by omega)) rfl ?_
  dsimp only [aB,aA]
  exact aP rfl ⟨⟨i + 1,by omega⟩,⟨aH.Sub.of_eq (congrArg (fun q:Nat=>aH.one (aI.int .i64 (q:Int))) hy.symm),aH.Sub.same,trivial⟩,by show k - (i + 1) < k - i; omega⟩
 rw [show k = i by omega]; exact aK rfl
theorem IU {d:Nat} (h:0 < d):zT (d:Int) = .agg [.int .i64 1,bT d]:=by
 rw [zT,zC,Int.sign_eq_one_of_pos (by omega)]; rfl
theorem RR {r d m:Nat}:r / 32768 ^ m / (d / 32768 ^ m + 1) * d ≤ r:=by
 have hp:0 < 32768 ^ m:=Nat.pow_pos (by omega)
 have h1:d ≤ (d / 32768 ^ m + 1) * 32768 ^ m:=by
  rw [Nat.mul_comm]; exact Nat.le_of_lt (Nat.lt_mul_div_succ d hp)
 calc r / 32768 ^ m / (d / 32768 ^ m + 1) * d ≤ r / 32768 ^ m / (d / 32768 ^ m + 1) * ((d / 32768 ^ m + 1) * 32768 ^ m):=Nat.mul_le_mul_left _ h1
  _ = r / 32768 ^ m / (d / 32768 ^ m + 1) * (d / 32768 ^ m + 1) * 32768 ^ m:=(Nat.mul_assoc _ _ _).symm
  _ ≤ r / 32768 ^ m * 32768 ^ m:=Nat.mul_le_mul_right _ (Nat.div_mul_le_self _ _)
  _ ≤ r:=Nat.div_mul_le_self _ _
set_option maxHeartbeats 2000000 in
theorem QJ (r d:Nat) (hd:0 < d) (hr:r < d * 32768) (hs:(bd d).length < 34359738368):aL prog 261 [(.one (bT r):aH),(.one (bT d):aH)] (.ret [.one (.int .i64 ((r / d:Nat):Int)), .one (bT (r % d))]):=by
 refine aD (args:=[.v none, .v none]) (ins:=[.v (.one (bT r)), .v (.one (bT d))]) (hints:=(fun _=>none)) fo (by kernel_rfl) func261 ⟨rfl,rfl,trivial⟩ ?_
 rw [Pt]
 dsimp only [List.map,In.env,aB,aA]
 have hdl:=BQ d
 have hrl:r < 32768 ^ ((bd d).length + 1):=by
  rw [Nat.pow_succ]; exact Nat.lt_trans hr (Nat.mul_lt_mul_of_pos_right hdl (by omega))
 have hrs:=iG hrl
 have hle:∀ q,q ≤ r → (bd q).length ≤ (bd d).length + 1:=fun q hq=>Nat.le_trans (eK hq) hrs
 have hdn:0 < (bd d).length:=by
  rcases Nat.eq_zero_or_pos (bd d).length with h | h
  ·have:=Dt.1 (List.eq_nil_of_length_eq_zero h); omega
  ·exact h
 have hqB:r / d < 32768:=by rw [Nat.div_lt_iff_lt_mul hd,Nat.mul_comm]; exact hr
 have hkd:∀ k,k * d ≤ r → k < 32768:=fun k hk=>by
  have:k ≤ r / d:=by rw [Nat.le_div_iff_mul_le hd]; exact hk
  omega
 have hfin:∀ r' k,r' + k * d = r → r' < d → k = r / d ∧ r' = r % d:=fun r' k h1 h2=>Al (by rw [← h1,Nat.mul_comm]) h2
 have hah:∀ r':Nat,(0 ≤ eF (r':Int) (d:Int)) ↔ d ≤ r':=fun r'=>by
  have:=rJ (a:=(r':Int)) (b:=(d:Int)); omega
 refine vn (aO eI (List.length_map _)) rfl ?_
 dsimp only [aB,aA]
 refine vn (aO eI (List.length_map _)) rfl ?_
 dsimp only [aB,aA]
 refine vn dJ rfl ?_
 dsimp only [aB,aA]
 refine vs _ rfl (fun h3=>?_) (fun h3=>?_)
 ·refine vn fQ rfl ?_
  dsimp only [aB,aA]
  refine vs _ rfl (fun h5=>?_) (fun h5=>?_)
  ·refine vn (aE (by omega) (by omega)) rfl ?_
   dsimp only [aB,aA]
   refine vn (aE (by omega) (by omega)) rfl ?_
   dsimp only [aB,aA]
   refine aC (vD r ((bd d).length + 1) ((bd d).length + 1) hrl (Nat.le_refl _) (by omega) (by omega) (by omega)) rfl ?_
   rw [Nat.sub_self,Nat.pow_zero,Nat.div_one]
   dsimp only [aB,aA]
   refine aC (vD d (bd d).length (bd d).length hdl (Nat.le_refl _) (by omega) (by omega) (by omega)) rfl ?_
   rw [Nat.sub_self,Nat.pow_zero,Nat.div_one]
   dsimp only [aB,aA]
   obtain ⟨k,hk⟩:∃ k,r / d = k:=⟨_,rfl⟩
   have hk1:k * d ≤ r:=by rw [← hk]; exact Nat.div_mul_le_self _ _
   have hk2:=hkd k hk1
   refine vn (pO (c:=(k:Int)) (by omega) (by rw [Int.tdiv_eq_ediv_of_nonneg (nY _),← Int.natCast_ediv,hk]; exact dI (by omega) (by omega))) rfl ?_
   dsimp only [aB,aA]
   refine vn cP rfl ?_
   dsimp only [aB,aA]
   refine vs _ rfl (fun h12=>?_) (fun h12=>?_)
   ·have hm:=jC (k:Int) (d:Int) (by
     rw [Int.natAbs_natCast,Int.natAbs_natCast]
     have:(bd k).length ≤ 1:=iG (by omega)
     omega)
    rw [IU hd,show (k:Int) * (d:Int) = ((k * d:Nat):Int) by rw [Int.natCast_mul]] at hm
    refine aC (nV k (by omega) (by omega)) rfl ?_
    dsimp only [aB,aA]
    refine aC hm rfl ?_
    dsimp only [aB,aA]
    refine aC (jX r (k * d) (r - k * d) (-1) (.inr rfl) (by omega) (by omega) (by have:=hle _ hk1; omega)) rfl ?_
    dsimp only [aB,aA]
    refine bA {g:Nat × Nat // g.1 + g.2 * d = r} (fun g=>[.one (bT g.1.1), .one (.int .i64 g.1.2)]) (fun g=>g.1.1) ⟨(r - k * d,k),by show r - k * d + k * d = r; omega⟩ aM.rfl (fun _=>rfl) ?_
    rintro ⟨⟨r',k'⟩,hg⟩
    dsimp only [aB,aA] at hg ⊢
    have hk3:=hkd k' (by omega)
    have hr3:=hle r' (by omega)
    refine aC (pI r' d (by omega)) rfl ?_
    dsimp only [aB,aA]
    refine vn dJ rfl ?_
    dsimp only [aB,aA]
    refine vs _ rfl (fun h19=>?_) (fun h19=>?_)
    ·have hdr:d ≤ r':=(hah r').1 (by assumption)
     refine aC (jX r' d (r' - d) (-1) (.inr rfl) (by omega) (by omega) (by omega)) rfl ?_
     dsimp only [aB,aA]
     refine vn (aE (by omega) (by omega)) rfl ?_
     dsimp only [aB,aA]
     exact aP rfl ⟨⟨(r' - d,k' + 1),by show r' - d + (k' + 1) * d = r; rw [Nat.add_mul]; omega⟩,aM.rfl,by show r' - d < r'; omega⟩
    have hdr:r' < d:=by
     rcases Nat.lt_or_ge r' d with h | h
     ·exact h
     ·exact absurd ((hah r').2 h) (by assumption)
    obtain ⟨e1,e2⟩:=hfin r' k' hg hdr
    rw [← e1,← e2]; exact aK rfl
   refine bA {g:Nat × Nat // g.1 + g.2 * d = r} (fun g=>[.one (bT g.1.1), .one (.int .i64 g.1.2)]) (fun g=>g.1.1) ⟨(r,0),by omega⟩ ⟨aH.Sub.same,aH.Sub.of_eq (congrArg (fun q:Nat=>aH.one (aI.int .i64 (q:Int))) (by show k = 0; omega)),trivial⟩ (fun _=>rfl) ?_
   rintro ⟨⟨r',k'⟩,hg⟩
   dsimp only [aB,aA] at hg ⊢
   have hk3:=hkd k' (by omega)
   have hr3:=hle r' (by omega)
   refine aC (pI r' d (by omega)) rfl ?_
   dsimp only [aB,aA]
   refine vn dJ rfl ?_
   dsimp only [aB,aA]
   refine vs _ rfl (fun h27=>?_) (fun h27=>?_)
   ·have hdr:d ≤ r':=(hah r').1 (by assumption)
    refine aC (jX r' d (r' - d) (-1) (.inr rfl) (by omega) (by omega) (by omega)) rfl ?_
    dsimp only [aB,aA]
    refine vn (aE (by omega) (by omega)) rfl ?_
    dsimp only [aB,aA]
    exact aP rfl ⟨⟨(r' - d,k' + 1),by show r' - d + (k' + 1) * d = r; rw [Nat.add_mul]; omega⟩,aM.rfl,by show r' - d < r'; omega⟩
   have hdr:r' < d:=by
    rcases Nat.lt_or_ge r' d with h | h
    ·exact h
    ·exact absurd ((hah r').2 h) (by assumption)
   obtain ⟨e1,e2⟩:=hfin r' k' hg hdr
   rw [← e1,← e2]; exact aK rfl
  refine vn (aE (by omega) (by omega)) rfl ?_
  dsimp only [aB,aA]
  refine aC (vD r ((bd d).length + 1) 4 hrl (by omega) (by omega) (by omega) (by omega)) rfl ?_
  dsimp only [aB,aA]
  refine aC (vD d (bd d).length 3 hdl (by omega) (by omega) (by omega) (by omega)) rfl ?_
  rw [show (bd d).length + 1 - 4 = (bd d).length - 3 by omega]
  have hd3:=vN (m:=d) (long:=(bd d).length) (i:=3) (by omega) hdl
  have hr4:=vN (m:=r) (long:=(bd d).length + 1) (i:=4) (by omega) hrl
  rw [show (bd d).length + 1 - 4 = (bd d).length - 3 by omega] at hr4
  have hp3:=IG (i:=3) (by omega)
  have hp4:=IG (i:=4) (by omega)
  have hk1:=RR (r:=r) (d:=d) (m:=(bd d).length - 3)
  generalize r / 32768 ^ ((bd d).length - 3) = rt at *
  generalize d / 32768 ^ ((bd d).length - 3) = dt at *
  obtain ⟨k,hk⟩:∃ k,rt / (dt + 1) = k:=⟨_,rfl⟩
  rw [hk] at hk1
  have hk2:=hkd k hk1
  dsimp only [aB,aA]
  refine vn (aE (by omega) (by omega)) rfl ?_
  dsimp only [aB,aA]
  refine vn (pO (c:=(k:Int)) (by omega) (by rw [Int.tdiv_eq_ediv_of_nonneg (nY _),show ((dt:Int) + 1) = ((dt + 1:Nat):Int) by omega,← Int.natCast_ediv,hk]; exact dI (by omega) (by omega))) rfl ?_
  dsimp only [aB,aA]
  refine vn cP rfl ?_
  dsimp only [aB,aA]
  refine vs _ rfl (fun h38=>?_) (fun h38=>?_)
  ·have hm:=jC (k:Int) (d:Int) (by
    rw [Int.natAbs_natCast,Int.natAbs_natCast]
    have:(bd k).length ≤ 1:=iG (by omega)
    omega)
   rw [IU hd,show (k:Int) * (d:Int) = ((k * d:Nat):Int) by rw [Int.natCast_mul]] at hm
   refine aC (nV k (by omega) (by omega)) rfl ?_
   dsimp only [aB,aA]
   refine aC hm rfl ?_
   dsimp only [aB,aA]
   refine aC (jX r (k * d) (r - k * d) (-1) (.inr rfl) (by omega) (by omega) (by have:=hle _ hk1; omega)) rfl ?_
   dsimp only [aB,aA]
   refine bA {g:Nat × Nat // g.1 + g.2 * d = r} (fun g=>[.one (bT g.1.1), .one (.int .i64 g.1.2)]) (fun g=>g.1.1) ⟨(r - k * d,k),by show r - k * d + k * d = r; omega⟩ aM.rfl (fun _=>rfl) ?_
   rintro ⟨⟨r',k'⟩,hg⟩
   dsimp only [aB,aA] at hg ⊢
   have hk3:=hkd k' (by omega)
   have hr3:=hle r' (by omega)
   refine aC (pI r' d (by omega)) rfl ?_
   dsimp only [aB,aA]
   refine vn dJ rfl ?_
   dsimp only [aB,aA]
   refine vs _ rfl (fun h45=>?_) (fun h45=>?_)
   ·have hdr:d ≤ r':=(hah r').1 (by assumption)
    refine aC (jX r' d (r' - d) (-1) (.inr rfl) (by omega) (by omega) (by omega)) rfl ?_
    dsimp only [aB,aA]
    refine vn (aE (by omega) (by omega)) rfl ?_
    dsimp only [aB,aA]
    exact aP rfl ⟨⟨(r' - d,k' + 1),by show r' - d + (k' + 1) * d = r; rw [Nat.add_mul]; omega⟩,aM.rfl,by show r' - d < r'; omega⟩
   have hdr:r' < d:=by
    rcases Nat.lt_or_ge r' d with h | h
    ·exact h
    ·exact absurd ((hah r').2 h) (by assumption)
   obtain ⟨e1,e2⟩:=hfin r' k' hg hdr
   rw [← e1,← e2]; exact aK rfl
  refine bA {g:Nat × Nat // g.1 + g.2 * d = r} (fun g=>[.one (bT g.1.1), .one (.int .i64 g.1.2)]) (fun g=>g.1.1) ⟨(r,0),by omega⟩ ⟨aH.Sub.same,aH.Sub.of_eq (congrArg (fun q:Nat=>aH.one (aI.int .i64 (q:Int))) (by show k = 0; omega)),trivial⟩ (fun _=>rfl) ?_
  rintro ⟨⟨r',k'⟩,hg⟩
  dsimp only [aB,aA] at hg ⊢
  have hk3:=hkd k' (by omega)
  have hr3:=hle r' (by omega)
  refine aC (pI r' d (by omega)) rfl ?_
  dsimp only [aB,aA]
  refine vn dJ rfl ?_
  dsimp only [aB,aA]
  refine vs _ rfl (fun h53=>?_) (fun h53=>?_)
  ·have hdr:d ≤ r':=(hah r').1 (by assumption)
   refine aC (jX r' d (r' - d) (-1) (.inr rfl) (by omega) (by omega) (by omega)) rfl ?_
   dsimp only [aB,aA]
   refine vn (aE (by omega) (by omega)) rfl ?_
   dsimp only [aB,aA]
   exact aP rfl ⟨⟨(r' - d,k' + 1),by show r' - d + (k' + 1) * d = r; rw [Nat.add_mul]; omega⟩,aM.rfl,by show r' - d < r'; omega⟩
  have hdr:r' < d:=by
   rcases Nat.lt_or_ge r' d with h | h
   ·exact h
   ·exact absurd ((hah r').2 h) (by assumption)
  obtain ⟨e1,e2⟩:=hfin r' k' hg hdr
  rw [← e1,← e2]; exact aK rfl
 refine vn cP rfl ?_
 dsimp only [aB,aA]
 refine vs _ rfl (fun h59=>?_) (fun h59=>?_)
 ·exfalso; omega
 refine bA {g:Nat × Nat // g.1 + g.2 * d = r} (fun g=>[.one (bT g.1.1), .one (.int .i64 g.1.2)]) (fun g=>g.1.1) ⟨(r,0),by omega⟩ aM.rfl (fun _=>rfl) ?_
 rintro ⟨⟨r',k'⟩,hg⟩
 dsimp only [aB,aA] at hg ⊢
 have hk3:=hkd k' (by omega)
 have hr3:=hle r' (by omega)
 refine aC (pI r' d (by omega)) rfl ?_
 dsimp only [aB,aA]
 refine vn dJ rfl ?_
 dsimp only [aB,aA]
 refine vs _ rfl (fun h74=>?_) (fun h74=>?_)
 ·have hdr:d ≤ r':=(hah r').1 (by assumption)
  refine aC (jX r' d (r' - d) (-1) (.inr rfl) (by omega) (by omega) (by omega)) rfl ?_
  dsimp only [aB,aA]
  refine vn (aE (by omega) (by omega)) rfl ?_
  dsimp only [aB,aA]
  exact aP rfl ⟨⟨(r' - d,k' + 1),by show r' - d + (k' + 1) * d = r; rw [Nat.add_mul]; omega⟩,aM.rfl,by show r' - d < r'; omega⟩
 have hdr:r' < d:=by
  rcases Nat.lt_or_ge r' d with h | h
  ·exact h
  ·exact absurd ((hah r').2 h) (by assumption)
 obtain ⟨e1,e2⟩:=hfin r' k' hg hdr
 rw [← e1,← e2]; exact aK rfl
set_option maxHeartbeats 1000000 in
theorem iV (a d:Nat) (hd:0 < d) (hs:(bd a).length + (bd d).length < 34359738368):aL prog 213 [(.one (bT a):aH),(.one (bT d):aH)] (.ret [.one (bT (a / d)), .one (bT (a % d))]):=by
 refine aD (args:=[.v none, .v none]) (ins:=[.v (.one (bT a)), .v (.one (bT d))]) (hints:=(fun _=>none)) fo (by kernel_rfl) func213 ⟨rfl,rfl,trivial⟩ ?_
 rw [VQ]
 dsimp only [List.map,In.env,aB,aA]
 have hdn:0 < (bd d).length:=by
  rcases Nat.eq_zero_or_pos (bd d).length with h | h
  ·have:=Dt.1 (List.eq_nil_of_length_eq_zero h); omega
  ·exact h
 refine vn (aO eI (List.length_map _)) rfl ?_
 dsimp only [aB,aA]
 refine vn (aO eI (List.length_map _)) rfl ?_
 dsimp only [aB,aA]
 refine vn aY rfl ?_
 dsimp only [aB,aA]
 refine vs _ rfl (fun h3=>?_) (fun h3=>?_)
 ·have had:=tM (a:=a) (b:=d) (by omega)
  refine dA ⟨pR (Nat.div_eq_of_lt had),?_,trivial⟩
  rw [Nat.mod_eq_of_lt had]; exact aI.Sub.same
 refine vn (aO eI (List.length_map _)) rfl ?_
 dsimp only [aB,aA]
 refine vn (aG (by omega) (by omega)) rfl ?_
 dsimp only [aB,aA]
 refine vn (Wh (m:=(bd d).length - 1) (by omega) (by omega) (by omega)) rfl ?_
 dsimp only [aB,aA]
 refine tR (ts:=[]) (us:=rB ((bd a).take ((bd d).length - 1))) (vs:=rB ((bd a).take ((bd d).length - 1))) rfl (.inr aI.Sub.same) rfl (by simp; omega) (by simp [maxLen]; omega) ?_
 dsimp only [aB,aA]
 refine aC (rV ((bd a).take ((bd d).length - 1)) ((gP a).take _) (by rw [List.length_take]; omega)) rfl ?_
 dsimp only [aB,aA]
 refine vn (aO eI (List.length_map _)) rfl ?_
 dsimp only [aB,aA]
 refine vn (aG (by omega) (by omega)) rfl ?_
 dsimp only [aB,aA]
 refine bA {g:Nat × Nat × List Nat // (bd d).length - 1 ≤ g.1 ∧ g.1 ≤ (bd a).length ∧ bv ((bd a).take g.1) = g.2.1 + d * bv g.2.2 ∧ g.2.1 < d ∧ DB 32768 g.2.2 ∧ g.2.2.length ≤ g.1} (fun g=>[.one (bT g.1.2.1), .one (.int .i64 g.1.1), .rows (rB g.1.2.2)]) (fun g=>(bd a).length - g.1.1) ⟨((bd d).length - 1,bv ((bd a).take ((bd d).length - 1)),[]),Nat.le_refl _,by show (bd d).length - 1 ≤ _; omega,by simp [bv,val],by
  have h1:=Gz ((gP a).take ((bd d).length - 1))
  rw [List.length_take,Nat.min_eq_left (by omega)] at h1
  exact Nat.lt_of_lt_of_le h1 (aJ5 (by omega)),PM,Nat.zero_le _⟩ ⟨aH.Sub.same,aH.Sub.of_eq (congrArg (fun q=>aH.one (aI.int .i64 q)) (by show ((bd d).length:Int) - 1 = (((bd d).length - 1:Nat):Int); omega)),aH.Sub.same,trivial⟩ (fun _=>rfl) ?_
 rintro ⟨⟨i,R,qs⟩,hi1,hi2,hv,hR,hq,hql⟩
 dsimp only [aB,aA] at hi1 hi2 hv hR hq hql ⊢
 have hRl:=eK (Nat.le_of_lt hR)
 refine vn (aO eI (List.length_map _)) rfl ?_
 dsimp only [aB,aA]
 refine vn aY rfl ?_
 dsimp only [aB,aA]
 refine vs _ rfl (fun h15=>?_) (fun h15=>?_)
 ·obtain ⟨x,hx⟩:∃ x,(bd a)[i]? = some x:=⟨_,List.getElem?_eq_getElem (by omega)⟩
  have hxB:=(gP a).get hx
  refine tR (ts:=[]) (us:=rB (bd R)) (vs:=rB (bd R)) rfl (.inr aI.Sub.same) rfl (by simp; omega) (by simp [maxLen]; omega) ?_
  dsimp only [aB,aA]
  refine vn (aR eI (by omega) (by omega) hx) rfl ?_
  dsimp only [aB,aA]
  refine vn (bB Nt) rfl ?_
  dsimp only [aB,aA]
  refine bL (us:=rB [x]) rfl ?_
  dsimp only [aB,aA]
  refine tR (ts:=rB (bd R)) (us:=rB [x]) (vs:=rB (bd R ++ [x])) rfl rfl (by rw [rB,rB,rB,← List.map_append]) (by simp; omega) (by simp [maxLen]; omega) ?_
  dsimp only [aB,aA]
  have hdb:DB 32768 (bd R ++ [x]):=(gP R).append (fun y hy=>by simp at hy; omega)
  refine aC (rV (bd R ++ [x]) hdb (by simp; omega)) rfl ?_
  rw [Bu,fD]
  dsimp only [aB,aA]
  refine aC (QJ (R * 32768 + x) d hd (by
   have:(R + 1) * 32768 ≤ d * 32768:=Nat.mul_le_mul_right _ hR
   omega) (by omega)) rfl ?_
  have hmd:=Nat.mod_add_div (R * 32768 + x) d
  have hqB:(R * 32768 + x) / d < 32768:=by
   rw [Nat.div_lt_iff_lt_mul hd,Nat.mul_comm]
   have:(R + 1) * 32768 ≤ d * 32768:=Nat.mul_le_mul_right _ hR
   omega
  have hRm:=Nat.mod_lt (R * 32768 + x) hd
  generalize (R * 32768 + x) / d = k at *
  generalize (R * 32768 + x) % d = R' at *
  dsimp only [aB,aA]
  refine bL (us:=rB [k]) rfl ?_
  dsimp only [aB,aA]
  refine tR (ts:=rB qs) (us:=rB [k]) (vs:=rB (qs ++ [k])) rfl rfl (by rw [rB,rB,rB,← List.map_append]) (by simp; omega) (by simp [maxLen]; omega) ?_
  dsimp only [aB,aA]
  refine vn (aE (by omega) (by omega)) rfl ?_
  dsimp only [aB,aA]
  exact aP rfl ⟨⟨(i + 1,R',qs ++ [k]),by show _ ≤ i + 1; omega,by show i + 1 ≤ _; omega,by
   show bv ((bd a).take (i + 1)) = R' + d * bv (qs ++ [k])
   rw [take_succ hx,Bu,Bu,hv,Nat.mul_add,Nat.add_mul,← Nat.mul_assoc]
   omega,hRm,hq.append (fun y hy=>by simp at hy; omega),by show (qs ++ [k]).length ≤ i + 1; simp; omega⟩,aM.rfl,by show (bd a).length - (i + 1) < (bd a).length - i; omega⟩
 have hie:i = (bd a).length:=by omega
 subst hie
 rw [List.take_length,fD] at hv
 obtain ⟨e1,e2⟩:=Al hv hR
 refine aC (rV qs hq (by omega)) rfl ?_
 dsimp only [aB,aA]
 rw [← e1,← e2]; exact aK rfl
theorem Dv (m:Nat) (hm:(bd m).length ≤ 4):aL prog 257 [(.one (bT m):aH)] (.ret [.one (.int .i64 m)]):=by
 refine aD (args:=[.v none]) (ins:=[.v (.one (bT m))]) (hints:=(fun _=>none)) fo (by kernel_rfl) func257 ⟨rfl,trivial⟩ ?_
 rw [Sf]
 dsimp only [List.map,In.env,aB,aA]
 refine bA {i:Nat // i ≤ (bd m).length} (fun g=>[.one (.int .i64 (bv ((bd m).take g.1):Nat)), .one (.int .i64 g.1)]) (fun g=>(bd m).length - g.1) ⟨0,Nat.zero_le _⟩ aM.rfl (fun _=>rfl) ?_
 rintro ⟨i,hi⟩
 dsimp only [aB,aA] at hi ⊢
 refine vn (aO eI (List.length_map _)) rfl ?_
 dsimp only [aB,aA]
 refine vn aY rfl ?_
 dsimp only [aB,aA]
 refine vs _ rfl (fun h3=>?_) (fun h3=>?_)
 ·obtain ⟨x,hx⟩:∃ x,(bd m)[i]? = some x:=⟨_,List.getElem?_eq_getElem (by omega)⟩
  have hxB:=(gP m).get hx
  have hb:=Gz ((gP m).take i)
  rw [List.length_take,Nat.min_eq_left hi] at hb
  have hp:=IG (i:=i) (by omega)
  have hb2:=Gz ((gP m).take (i + 1))
  rw [List.length_take,Nat.min_eq_left (by omega)] at hb2
  have hp2:=IG (i:=i + 1) (by omega)
  have hsn:bv ((bd m).take (i + 1)) = bv ((bd m).take i) * 32768 + x:=by rw [take_succ hx,Bu]
  generalize bv ((bd m).take i) = y at *
  refine vn (lJ (by omega) (by omega)) rfl ?_
  dsimp only [aB,aA]
  refine vn (aR eI (by omega) (by omega) hx) rfl ?_
  dsimp only [aB,aA]
  refine vn (bB Nt) rfl ?_
  dsimp only [aB,aA]
  refine vn (aE (by omega) (by omega)) rfl ?_
  dsimp only [aB,aA]
  refine vn (aE (by omega) (by omega)) rfl ?_
  dsimp only [aB,aA]
  exact aP rfl ⟨⟨i + 1,by omega⟩,⟨aH.Sub.of_eq (congrArg (fun q:Int=>aH.one (aI.int .i64 q)) (by show (y:Int) * 32768 + x = ((bv ((bd m).take (i + 1)):Nat):Int); omega)),aH.Sub.same,trivial⟩,by show (bd m).length - (i + 1) < (bd m).length - i; omega⟩
 rw [show i = (bd m).length by omega,List.take_length,fD]; exact aK rfl
set_option maxHeartbeats 1000000 in
theorem Lv (x y:Int) (hs:(bd x.natAbs).length < 17179869184) (hs2:(bd y.natAbs).length < 17179869184):aL prog 212 [(zT x:aH),(zT y:aH)] (.ret [zT ((Nat.gcd x.natAbs y.natAbs:Nat):Int)]):=by
 refine aD (args:=[.v (some 2), .v (some 2)]) (ins:=[.v (zT x), .v (zT y)]) (hints:=(fun _=>none)) fo (by kernel_rfl) func212 ⟨rfl,rfl,trivial⟩ ?_
 rw [Xb]
 dsimp only [List.map,In.env,aB,aA]
 refine bA {p:Nat × Nat // Nat.gcd p.1 p.2 = Nat.gcd x.natAbs y.natAbs ∧ (bd p.1).length < 17179869184 ∧ (bd p.2).length < 17179869184} (fun p=>[.one (bT p.1.1), .one (bT p.1.2), .one (.int .i64 0), .one (.exact (.slice none 0 0))]) (fun p=>p.1.2) ⟨(x.natAbs,y.natAbs),rfl,hs,hs2⟩ aM.rfl (fun _=>rfl) ?_
 rintro ⟨⟨a,b⟩,hg,ha,hb⟩
 dsimp only [aB,aA] at hg ha hb ⊢
 have hbz:(bd b).length = 0 ↔ b = 0:=by rw [List.length_eq_zero_iff,Dt]
 have hml:=eK (Nat.mod_le a b)
 refine vn (aO eI (List.length_map _)) rfl ?_
 dsimp only [aB,aA]
 refine vn cP rfl ?_
 dsimp only [aB,aA]
 refine vs _ rfl (fun h3=>?_) (fun h3=>?_)
 ·have hb0:0 < b:=by
   rcases Nat.eq_zero_or_pos b with h | h
   ·have:=hbz.2 h; omega
   ·exact h
  refine vn (aO eI (List.length_map _)) rfl ?_
  dsimp only [aB,aA]
  refine vn fQ rfl ?_
  dsimp only [aB,aA]
  refine vs _ rfl (fun h6=>?_) (fun h6=>?_)
  ·refine vn (aO eI (List.length_map _)) rfl ?_
   dsimp only [aB,aA]
   refine vn fQ rfl ?_
   dsimp only [aB,aA]
   refine vs _ rfl (fun h9=>?_) (fun h9=>?_)
   ·have h4:∀ n,(bd n).length ≤ 4 → n < 1152921504606846976:=fun n hn=>Nat.lt_of_lt_of_le (BQ n) (IG hn)
    have ha4:=h4 a (by omega)
    have hb4:=h4 b (by omega)
    refine aC (Dv a (by omega)) rfl ?_
    dsimp only [aB,aA]
    refine aC (Dv b (by omega)) rfl ?_
    dsimp only [aB,aA]
    refine bA {p:Nat × Nat // Nat.gcd p.1 p.2 = Nat.gcd x.natAbs y.natAbs ∧ p.1 < 1152921504606846976 ∧ p.2 < 1152921504606846976} (fun p=>[.one (.int .i64 p.1.1), .one (.int .i64 p.1.2)]) (fun p=>p.1.2) ⟨(a,b),hg,ha4,hb4⟩ aM.rfl (fun _=>rfl) ?_
    rintro ⟨⟨p,q⟩,hpq,hp,hq⟩
    dsimp only [aB,aA] at hpq hp hq ⊢
    refine vn dR rfl ?_
    dsimp only [aB,aA]
    refine vs _ rfl (fun h14=>?_) (fun h14=>?_)
    ·refine vn (Cf (c:=((p % q:Nat):Int)) (by omega) (by rw [Int.tmod_eq_emod_of_nonneg (nY _),← Int.natCast_emod])) rfl ?_
     dsimp only [aB,aA]
     exact aP rfl ⟨⟨(q,p % q),by rw [← hpq,Nat.gcd_comm p q,Nat.gcd_rec q p,Nat.gcd_comm],hq,Nat.lt_of_le_of_lt (Nat.mod_le _ _) hp⟩,aM.rfl,Nat.mod_lt _ (by omega)⟩
    have hq0:q = 0:=by omega
    subst hq0
    rw [Nat.gcd_zero_right] at hpq
    refine aC (nV p (by omega) (by omega)) rfl ?_
    dsimp only [aB,aA]
    rw [← hpq]; exact aK rfl
   refine aC (iV a b hb0 (by omega)) rfl ?_
   dsimp only [aB,aA]
   exact aP rfl ⟨⟨(b,a % b),by rw [← hg,Nat.gcd_comm a b,Nat.gcd_rec b a,Nat.gcd_comm],hb,by show (bd (a % b)).length < _; omega⟩,aM.rfl,Nat.mod_lt _ hb0⟩
  refine aC (iV a b hb0 (by omega)) rfl ?_
  dsimp only [aB,aA]
  exact aP rfl ⟨⟨(b,a % b),by rw [← hg,Nat.gcd_comm a b,Nat.gcd_rec b a,Nat.gcd_comm],hb,by show (bd (a % b)).length < _; omega⟩,aM.rfl,Nat.mod_lt _ hb0⟩
 have hb0:b = 0:=hbz.1 (by omega)
 subst hb0
 rw [Nat.gcd_zero_right] at hg
 refine aC (fL 1 (a:Int) (bd a) (gP _) (by omega) (by rw [fD]; rfl) (fun hne=>by rw [fD] at hne; exact Int.sign_eq_one_of_pos (by omega))) rfl ?_
 dsimp only [aB,aA]
 rw [← hg]; exact aK rfl
end Go.Sy
namespace Go.Sy
open Go Go.Proofs Tryz Ord
def aD4:Tr:=aQ .eql 3 5 0 0 2 4 (.split (.u 1 0) (.need (.call 139 [(WK 1)] [(some 2)]) (.call ⟨.value (.func 139),#[(.const (I3 1))],#[2]⟩) 47 true (.ret [(G2 2)])) (.ret [(.agg [(U 0 2),(U 0 3)])]))
theorem an5:aN prog f136 (fun _=>none) [.v (some 4)] = aD4:=by kernel_rfl
def ae9:Tr:=aQ .eql 3 28 1 9 0 4 (.split (.u 10 0) (.ret [(.agg [(U 3 0),(U 3 1),(U 4 0),(U 4 1)])]) (aJ 213 [(W 3 1),(W 5 1)] [none,none] [36,38] [45,45] 269 false (aJ 213 [(W 4 1),(W 5 1)] [none,none] [44,46] [45,45] 269 false (aJ 211 [(W 3 0),(W 11 0)] [(some 2)] [51,52] [3,45] 47 false (.need (.call 211 [(WK 1),(W 13 0)] [(some 2)]) (.call ⟨.value (.func 211),#[(.const (I3 1)),(tT 54)],#[3,45]⟩) 47 true (.ret [(.agg [(U 15 0),(U 15 1),(U 16 0),(U 16 1)])]))))))
def av1:Tr:=aQ .eql 3 22 1 6 0 4 (.split (.u 7 0) (.need (.prim [(W 5 1),(WK 0)] none) (.indexAddr 45 (tT 26) (.const (I3 0))) 0 false (dP 8 0 none 3 27 ae9)) (aJ 213 [(W 3 1),(W 5 1)] [none,none] [36,38] [45,45] 269 false (aJ 213 [(W 4 1),(W 5 1)] [none,none] [44,46] [45,45] 269 false (aJ 211 [(W 3 0),(W 8 0)] [(some 2)] [51,52] [3,45] 47 false (.need (.call 211 [(WK 1),(W 10 0)] [(some 2)]) (.call ⟨.value (.func 211),#[(.const (I3 1)),(tT 54)],#[3,45]⟩) 47 true (.ret [(.agg [(U 12 0),(U 12 1),(U 13 0),(U 13 1)])]))))))
def Zd:Tr:=aQ .eql 3 28 1 7 0 4 (.split (.u 8 0) (.ret [(.agg [(U 0 0),(U 0 1),(U 1 0),(U 1 1)])]) (aJ 213 [(W 0 1),(W 3 1)] [none,none] [36,38] [45,45] 269 false (aJ 213 [(W 1 1),(W 3 1)] [none,none] [44,46] [45,45] 269 false (aJ 211 [(W 0 0),(W 9 0)] [(some 2)] [51,52] [3,45] 47 false (.need (.call 211 [(WK 1),(W 11 0)] [(some 2)]) (.call ⟨.value (.func 211),#[(.const (I3 1)),(tT 54)],#[3,45]⟩) 47 true (.ret [(.agg [(U 13 0),(U 13 1),(U 14 0),(U 14 1)])]))))))
def Ys:Tr:=aQ .eql 3 22 1 4 0 4 (.split (.u 5 0) (.need (.prim [(W 3 1),(WK 0)] none) (.indexAddr 45 (tT 26) (.const (I3 0))) 0 false (dP 6 0 none 3 27 Zd)) (aJ 213 [(W 0 1),(W 3 1)] [none,none] [36,38] [45,45] 269 false (aJ 213 [(W 1 1),(W 3 1)] [none,none] [44,46] [45,45] 269 false (aJ 211 [(W 0 0),(W 6 0)] [(some 2)] [51,52] [3,45] 47 false (.need (.call 211 [(WK 1),(W 8 0)] [(some 2)]) (.call ⟨.value (.func 211),#[(.const (I3 1)),(tT 54)],#[3,45]⟩) 47 true (.ret [(.agg [(U 10 0),(U 10 1),(U 11 0),(U 11 1)])]))))))
def av7:Tr:=aQ .lss 3 11 0 1 0 4 (.split (.u 2 0) (aJ 183 [(G2 0)] [(some 2)] [13] [47] 47 false (aJ 183 [(G2 1)] [(some 2)] [15] [47] 47 true (aJ 212 [(G2 3),(G2 4)] [(some 2)] [17,18] [47,47] 47 true (cM 5 1 21 45 av1)))) (aJ 212 [(G2 0),(G2 1)] [(some 2)] [17,18] [47,47] 47 true (cM 3 1 21 45 Ys)))
theorem QP:aN prog f137 (fun _=>none) [.v (some 2), .v (some 2)] = av7:=by kernel_rfl
def Xs:Tr:=.ret [(.agg [(U 1 0),(U 1 1),(U 2 0),(U 2 1)])]
def az6:Tr:=aJ 139 [(W 0 0)] [(some 2)] [3] [2] 47 true (.need (.call 139 [(WK 1)] [(some 2)]) (.call ⟨.value (.func 139),#[(.const (I3 1))],#[2]⟩) 47 true Xs)
theorem ad0:aN prog f50 (fun _=>none) [.v none] = az6:=by kernel_rfl
def av4:Tr:=aJ 139 [(W 0 0)] [(some 2)] [5] [2] 47 false (aJ 139 [(W 1 0)] [(some 2)] [7] [2] 47 true (aJ 137 [(G2 2),(G2 3)] [(some 4)] [6,8] [47,47] 49 true (.ret [(G4 4)])))
theorem at4:aN prog f79 (fun _=>none) [.v none, .v none] = av4:=by kernel_rfl
def aE0:Tr:=aJ 135 [(G2 1),(G2 4)] [(some 2)] [11,13] [47,47] 47 false (aJ 138 [(G2 3),(G2 5)] [(some 2)] [9,14] [47,47] 47 false (aJ 136 [(G4 0)] [(some 2)] [16] [49] 47 false (aJ 136 [(G4 1)] [(some 2)] [18] [49] 47 false (aJ 135 [(G2 7),(G2 8)] [(some 2)] [17,19] [47,47] 47 true (aJ 137 [(G2 6),(G2 9)] [(some 4)] [15,20] [47,47] 49 true (.ret [(G4 10)]))))))
def aJ4:Tr:=aJ 136 [(G4 1)] [(some 2)] [7] [49] 47 false (aJ 135 [(G2 0),(G2 2)] [(some 2)] [6,8] [47,47] 47 false (aJ 136 [(G4 0)] [(some 2)] [12] [49] 47 false aE0))
theorem ae1:aN prog f48 (fun _=>none) [.v (some 4), .v (some 4)] = aJ4:=by kernel_rfl
def aA8:Tr:=aJ 105 [(G4 1)] [(some 4)] [6] [49] 49 true (aJ 48 [(G4 0),(G4 2)] [(some 4)] [5,7] [49,49] 49 true (.ret [(G4 3)]))
theorem YU:aN prog f141 (fun _=>none) [.v (some 4), .v (some 4)] = aA8:=by kernel_rfl
def Xn:Tr:=.ret [(G4 6)]
def aI8:Tr:=aJ 135 [(G2 0),(G2 1)] [(some 2)] [6,8] [47,47] 47 false (aJ 136 [(G4 0)] [(some 2)] [10] [49] 47 false (aJ 136 [(G4 1)] [(some 2)] [12] [49] 47 false (aJ 135 [(G2 3),(G2 4)] [(some 2)] [11,13] [47,47] 47 true (aJ 137 [(G2 2),(G2 5)] [(some 4)] [9,14] [47,47] 49 true Xn))))
theorem aj4:aN prog f104 (fun _=>none) [.v (some 4), .v (some 4)] = aI8:=by kernel_rfl
def aG3:Tr:=aJ 136 [(G4 1)] [(some 2)] [7] [49] 47 false (aJ 135 [(G2 0),(G2 2)] [(some 2)] [6,8] [47,47] 47 false (aJ 136 [(G4 0)] [(some 2)] [10] [49] 47 false (aJ 135 [(G2 4),(G2 1)] [(some 2)] [11,13] [47,47] 47 true (aJ 137 [(G2 3),(G2 5)] [(some 4)] [9,14] [47,47] 49 true Xn))))
theorem Yy:aN prog f102 (fun _=>none) [.v (some 4), .v (some 4)] = aG3:=by kernel_rfl
def XD:Tr:=aJ 136 [(G4 0)] [(some 2)] [6] [49] 47 true Xs
def aw7:Tr:=aJ 183 [(G2 0)] [(some 2)] [4] [47] 47 false XD
theorem YB:aN prog f105 (fun _=>none) [.v (some 4)] = aw7:=by kernel_rfl
def aq4:Tr:=aJ 148 [(G2 0)] [(some 2)] [4] [47] 47 false XD
theorem al1:aN prog f60 (fun _=>none) [.v (some 4)] = aq4:=by kernel_rfl
def aq1:Tr:=aJ 136 [(G4 1)] [(some 2)] [7] [49] 47 false (aJ 135 [(G2 0),(G2 2)] [(some 2)] [6,8] [47,47] 47 false (aJ 136 [(G4 0)] [(some 2)] [12] [49] 47 false (aJ 135 [(G2 1),(G2 4)] [(some 2)] [11,13] [47,47] 47 true (aJ 134 [(G2 3),(G2 5)] [none] [9,14] [47,47] 3 true (.ret [(W 6 0)])))))
theorem YD:aN prog f47 (fun _=>none) [.v (some 4), .v (some 4)] = aq1:=by kernel_rfl
def ax5:Tr:=.ret [(W 0 0)]
theorem UX:aN prog f46 (fun _=>none) [.v (some 4)] = ax5:=by kernel_rfl
structure RQ where
 q:Rat
 z:Bool
 h:z = true → q = 0
def RQ.of (q:Rat):RQ:=⟨q,false,fun h=>by cases h⟩
def RQ.nil:RQ:=⟨0,true,fun _=>rfl⟩
abbrev rC (a:RQ):List aI:=[.int .i64 a.q.num.sign,bT a.q.num.natAbs, .int .i64 (if a.z then 0 else 1),bT (if a.z then 0 else a.q.den)]
abbrev fB (a:RQ):aH:=.agg (rC a)
theorem RQ.Ft (q:Rat):(RQ.of q).q = q:=rfl
theorem aa2 (q:Rat):zT (q.den:Int) = .agg [.int .i64 1,bT q.den]:=IU q.den_pos
theorem kA:aW aI.Sub [.int .i64 0, .exact (.slice none 0 0), .int .i64 0, .exact (.slice none 0 0)] (rC RQ.nil):=⟨aI.Sub.same,pR rfl,aI.Sub.same,pR rfl,trivial⟩
theorem jD (a:RQ):aL prog 136 [(fB a:aH)] (.ret [zT (a.q.den:Int)]):=by
 refine aD (args:=[.v (some 4)]) (ins:=[.v (fB a)]) (hints:=(fun _=>none)) fo (by kernel_rfl) func136 ⟨rfl,trivial⟩ ?_
 rw [an5]
 dsimp only [List.map,In.env,aB,aA]
 refine vn bE rfl ?_
 dsimp only [aB,aA]
 refine vs _ rfl (fun h1=>?_) (fun h1=>?_)
 ·have ha:a.z = true:=by cases h:a.z <;> simp_all
  have hq:=a.h ha
  refine aC (nV 1 (by omega) (by omega)) rfl ?_
  dsimp only [aB,aA]
  rw [hq]; exact aK rfl
 have ha:a.z = false:=by cases h:a.z <;> simp_all
 refine aK ?_
 rw [aa2]
 show [aH.agg [.int .i64 (if a.z then 0 else 1),bT (if a.z then 0 else a.q.den)]] = _
 rw [ha]; rfl
theorem fM {n B:Nat} (h:n < 2 ^ B):(bd n).length ≤ B:=iG (Nat.lt_of_lt_of_le h (Nat.pow_le_pow_left (by omega) B))
def tA (n d:Int):Rat:=mkRat (if d < 0 then -n else n) d.natAbs
theorem VJ {z:Int} {d:Nat} (hd:d ≠ 0):(mkRat z d).num = z / ((z.natAbs.gcd d:Nat):Int) ∧ (mkRat z d).den = d / z.natAbs.gcd d ∧ (mkRat z d).num.natAbs = z.natAbs / z.natAbs.gcd d ∧ (mkRat z d).num.sign = z.sign:=by
 obtain ⟨h1,h2⟩:=Sg (z:=z) hd
 have hg:0 < z.natAbs.gcd d:=Nat.gcd_pos_of_pos_right _ (by omega)
 have hgz:z ≠ 0 → z.natAbs.gcd d ≤ z.natAbs:=fun h=>Nat.gcd_le_left _ (by omega)
 have h3:(mkRat z d).num.natAbs = z.natAbs / z.natAbs.gcd d:=by
  rw [h1]
  generalize z.natAbs / z.natAbs.gcd d = t
  split <;> omega
 refine ⟨?_,h2,h3,?_⟩
 ·rw [← Rat.normalize_eq_mkRat hd,Rat.normalize_eq hd]
 ·rcases cB z with ⟨h,e⟩ | ⟨h,e⟩ | ⟨h,e⟩
  ·rw [e,h1,decide_eq_true h,if_pos rfl]
   have:=Nat.div_pos (hgz (by omega)) hg
   exact Int.sign_eq_neg_one_of_neg (by omega)
  ·rw [e]; subst h; rw [Rat.zero_mkRat]; rfl
  ·rw [e,h1,decide_eq_false (by omega),if_neg (by simp)]
   have:=Nat.div_pos (hgz (by omega)) hg
   exact Int.sign_eq_one_of_pos (by omega)
theorem uZ {g:Nat} (h:(bd g).length = 1) {x:Nat} (hx:(bd g)[0]? = some x):g = x:=by
 match hb:bd g,h with
 | [y],_=>
   rw [hb] at hx
   simp only [List.getElem?_cons_zero,Option.some.injEq] at hx
   subst hx
   rw [← fD g,hb,Bi]; simp [bv,val]
theorem vA {q:Rat}:fB (RQ.of q) = .agg [.int .i64 q.num.sign,bT q.num.natAbs, .int .i64 1,bT q.den]:=rfl
set_option maxHeartbeats 1000000 in
theorem vB (n d:Int) (hd:d ≠ 0) (hs:(bd n.natAbs).length < 8589934592) (hs2:(bd d.natAbs).length < 8589934592):aL prog 137 [(zT n:aH),(zT d:aH)] (.ret [fB (.of (tA n d))]):=by
 refine aD (args:=[.v (some 2), .v (some 2)]) (ins:=[.v (zT n), .v (zT d)]) (hints:=(fun _=>none)) fo (by kernel_rfl) func137 ⟨rfl,rfl,trivial⟩ ?_
 rw [QP]
 dsimp only [List.map,In.env,aB,aA]
 have hsd:=cB d
 have key:∀ m:Int,m.natAbs = n.natAbs → tA n d = mkRat m d.natAbs → (tA n d).den = d.natAbs / Nat.gcd n.natAbs d.natAbs ∧ (tA n d).num.natAbs = n.natAbs / Nat.gcd n.natAbs d.natAbs ∧ (tA n d).num.sign = m.sign:=fun m hm e=>by
  have:=VJ (z:=m) (d:=d.natAbs) (by omega)
  rw [hm] at this
  rw [e]; exact ⟨this.2.1,this.2.2.1,this.2.2.2⟩
 have hg:0 < Nat.gcd n.natAbs d.natAbs:=Nat.gcd_pos_of_pos_right _ (by omega)
 have hgd:Nat.gcd n.natAbs d.natAbs ≤ d.natAbs:=Nat.gcd_le_right _ (by omega)
 have hgl:=eK hgd
 have hdg:=Nat.div_pos hgd hg
 have hnl:=eK (Nat.div_le_self n.natAbs (Nat.gcd n.natAbs d.natAbs))
 have hdl:=eK (Nat.div_le_self d.natAbs (Nat.gcd n.natAbs d.natAbs))
 refine vn aY rfl ?_
 dsimp only [aB,aA]
 refine vs _ rfl (fun h1=>?_) (fun h1=>?_)
 ·have hd0:d < 0:=by rcases hsd with ⟨h,e⟩ | ⟨h,e⟩ | ⟨h,e⟩ <;> omega
  have hR:tA n d = mkRat (-n) d.natAbs:=by rw [tA,if_pos hd0]
  obtain ⟨k1,k2,k3⟩:=key (-n) (Int.natAbs_neg n) hR
  generalize tA n d = q at *
  refine aC (Bo n) rfl ?_
  dsimp only [aB,aA]
  refine aC (Bo d) rfl ?_
  dsimp only [aB,aA]
  have hc:=Lv (-n) (-d) (by rw [Int.natAbs_neg]; omega) (by rw [Int.natAbs_neg]; omega)
  rw [Int.natAbs_neg,Int.natAbs_neg] at hc
  refine aC hc rfl ?_
  generalize hG:Nat.gcd n.natAbs d.natAbs = g at *
  dsimp only [aB,aA]
  refine vn (aO eI (List.length_map _)) rfl ?_
  dsimp only [aB,aA]
  refine vn bE rfl ?_
  dsimp only [aB,aA]
  refine vs _ rfl (fun h7=>?_) (fun h7=>?_)
  ·obtain ⟨x,hx⟩:∃ x,(bd g)[0]? = some x:=⟨_,List.getElem?_eq_getElem (by rw [Int.natAbs_natCast] at h7; omega)⟩
   refine vn (aR eI (by omega) (by omega) (show (bd ((g:Int)).natAbs)[0]? = some x from hx)) rfl ?_
   dsimp only [aB,aA]
   refine vn (bB Nt) rfl ?_
   dsimp only [aB,aA]
   refine vn bE rfl ?_
   dsimp only [aB,aA]
   refine vs _ rfl (fun h11=>?_) (fun h11=>?_)
   ·have hg1:g = 1:=by
     have:=uZ (g:=g) (by rw [Int.natAbs_natCast] at h7; omega) hx
     omega
    rw [hg1,Nat.div_one] at k1 k2
    refine aK ?_
    rw [vA,k3,k2,k1]
    show [aH.agg [.int .i64 (-n).sign,bT (-n).natAbs, .int .i64 (-d).sign,bT (-d).natAbs]] = _
    rw [Int.natAbs_neg,Int.natAbs_neg,Int.sign_eq_one_of_pos (show 0 < -d by omega)]
   have ho1:=iV n.natAbs g hg (by omega)
   have ho2:=iV d.natAbs g hg (by omega)
   rw [← k2] at ho1 hnl
   rw [← k1] at ho2 hdl hdg
   have hn':(-n).natAbs = n.natAbs:=Int.natAbs_neg n
   have hd':(-d).natAbs = d.natAbs:=Int.natAbs_neg d
   rw [← hn'] at ho1
   rw [← hd'] at ho2
   refine aC ho1 rfl ?_
   dsimp only [aB,aA]
   refine aC ho2 rfl ?_
   dsimp only [aB,aA]
   refine aC (fL (-n).sign q.num _ (gP _) (by omega) (by rw [fD]) (fun _=>k3)) rfl ?_
   dsimp only [aB,aA]
   refine aC (fL 1 (q.den:Int) _ (gP _) (by omega) (by rw [fD]; rfl) (fun _=>Int.sign_eq_one_of_pos (by omega))) rfl ?_
   dsimp only [aB,aA]
   refine aK ?_
   rw [vA]
   show [aH.agg [.int .i64 q.num.sign,bT q.num.natAbs, .int .i64 (q.den:Int).sign,bT (q.den:Int).natAbs]] = _
   rw [Int.sign_eq_one_of_pos (show (0:Int) < q.den by omega),Int.natAbs_natCast]
  have ho1:=iV n.natAbs g hg (by omega)
  have ho2:=iV d.natAbs g hg (by omega)
  rw [← k2] at ho1 hnl
  rw [← k1] at ho2 hdl hdg
  have hn':(-n).natAbs = n.natAbs:=Int.natAbs_neg n
  have hd':(-d).natAbs = d.natAbs:=Int.natAbs_neg d
  rw [← hn'] at ho1
  rw [← hd'] at ho2
  refine aC ho1 rfl ?_
  dsimp only [aB,aA]
  refine aC ho2 rfl ?_
  dsimp only [aB,aA]
  refine aC (fL (-n).sign q.num _ (gP _) (by omega) (by rw [fD]) (fun _=>k3)) rfl ?_
  dsimp only [aB,aA]
  refine aC (fL 1 (q.den:Int) _ (gP _) (by omega) (by rw [fD]; rfl) (fun _=>Int.sign_eq_one_of_pos (by omega))) rfl ?_
  dsimp only [aB,aA]
  refine aK ?_
  rw [vA]
  show [aH.agg [.int .i64 q.num.sign,bT q.num.natAbs, .int .i64 (q.den:Int).sign,bT (q.den:Int).natAbs]] = _
  rw [Int.sign_eq_one_of_pos (show (0:Int) < q.den by omega),Int.natAbs_natCast]
 have hd0:0 < d:=by rcases hsd with ⟨h,e⟩ | ⟨h,e⟩ | ⟨h,e⟩ <;> omega
 have hR:tA n d = mkRat n d.natAbs:=by rw [tA,if_neg (by omega)]
 obtain ⟨k1,k2,k3⟩:=key n rfl hR
 generalize tA n d = q at *
 have hc:=Lv n d (by omega) (by omega)
 refine aC hc rfl ?_
 generalize hG:Nat.gcd n.natAbs d.natAbs = g at *
 dsimp only [aB,aA]
 refine vn (aO eI (List.length_map _)) rfl ?_
 dsimp only [aB,aA]
 refine vn bE rfl ?_
 dsimp only [aB,aA]
 refine vs _ rfl (fun h26=>?_) (fun h26=>?_)
 ·obtain ⟨x,hx⟩:∃ x,(bd g)[0]? = some x:=⟨_,List.getElem?_eq_getElem (by rw [Int.natAbs_natCast] at h26; omega)⟩
  refine vn (aR eI (by omega) (by omega) (show (bd ((g:Int)).natAbs)[0]? = some x from hx)) rfl ?_
  dsimp only [aB,aA]
  refine vn (bB Nt) rfl ?_
  dsimp only [aB,aA]
  refine vn bE rfl ?_
  dsimp only [aB,aA]
  refine vs _ rfl (fun h30=>?_) (fun h30=>?_)
  ·have hg1:g = 1:=by
    have:=uZ (g:=g) (by rw [Int.natAbs_natCast] at h26; omega) hx
    omega
   rw [hg1,Nat.div_one] at k1 k2
   refine aK ?_
   rw [vA,k3,k2,k1]
   show [aH.agg [.int .i64 n.sign,bT n.natAbs, .int .i64 d.sign,bT d.natAbs]] = _
   rw [Int.sign_eq_one_of_pos (show 0 < d by omega)]
  have ho1:=iV n.natAbs g hg (by omega)
  have ho2:=iV d.natAbs g hg (by omega)
  rw [← k2] at ho1 hnl
  rw [← k1] at ho2 hdl hdg
  refine aC ho1 rfl ?_
  dsimp only [aB,aA]
  refine aC ho2 rfl ?_
  dsimp only [aB,aA]
  refine aC (fL n.sign q.num _ (gP _) (by omega) (by rw [fD]) (fun _=>k3)) rfl ?_
  dsimp only [aB,aA]
  refine aC (fL 1 (q.den:Int) _ (gP _) (by omega) (by rw [fD]; rfl) (fun _=>Int.sign_eq_one_of_pos (by omega))) rfl ?_
  dsimp only [aB,aA]
  refine aK ?_
  rw [vA]
  show [aH.agg [.int .i64 q.num.sign,bT q.num.natAbs, .int .i64 (q.den:Int).sign,bT (q.den:Int).natAbs]] = _
  rw [Int.sign_eq_one_of_pos (show (0:Int) < q.den by omega),Int.natAbs_natCast]
 have ho1:=iV n.natAbs g hg (by omega)
 have ho2:=iV d.natAbs g hg (by omega)
 rw [← k2] at ho1 hnl
 rw [← k1] at ho2 hdl hdg
 refine aC ho1 rfl ?_
 dsimp only [aB,aA]
 refine aC ho2 rfl ?_
 dsimp only [aB,aA]
 refine aC (fL n.sign q.num _ (gP _) (by omega) (by rw [fD]) (fun _=>k3)) rfl ?_
 dsimp only [aB,aA]
 refine aC (fL 1 (q.den:Int) _ (gP _) (by omega) (by rw [fD]; rfl) (fun _=>Int.sign_eq_one_of_pos (by omega))) rfl ?_
 dsimp only [aB,aA]
 refine aK ?_
 rw [vA]
 show [aH.agg [.int .i64 q.num.sign,bT q.num.natAbs, .int .i64 (q.den:Int).sign,bT (q.den:Int).natAbs]] = _
 rw [Int.sign_eq_one_of_pos (show (0:Int) < q.den by omega),Int.natAbs_natCast]
theorem HC {n:Int} {d:Nat}:tA n (d:Int) = mkRat n d:=by
 rw [tA,if_neg (by omega),Int.natAbs_natCast]
theorem GD {a b:Rat} (hb:b ≠ 0):tA (a.num * (b.den:Int)) ((a.den:Int) * b.num) = a / b:=by
 have hn:b.num ≠ 0:=fun e=>hb (Rat.num_eq_zero.1 e)
 have ha:=a.den_pos
 rw [← PJ hb,tA,Int.natAbs_mul,Int.natAbs_natCast]
 by_cases h:b.num < 0
 ·rw [if_pos (Int.mul_neg_of_pos_of_neg (by omega) h),decide_eq_true h,if_pos rfl,Int.mul_neg]
 ·rw [if_neg (by have:=Int.mul_nonneg (show (0:Int) ≤ a.den by omega) (show 0 ≤ b.num by omega); omega),decide_eq_false h,if_neg (by simp)]
theorem VT {n d:Int} (hd:d ≠ 0):tA n d = (n:Rat) / (d:Rat):=by
 have h:=GD (a:=(n:Rat)) (b:=(d:Rat)) (by rw [Ne,← Rat.num_eq_zero,Rat.num_intCast]; exact hd)
 rw [Rat.num_intCast,Rat.num_intCast,Rat.den_intCast,Rat.den_intCast] at h
 rw [← h]; congr 1 <;> omega
theorem Fit.bd {B:Nat} {q:Rat} (h:Fit B q):(bd q.num.natAbs).length ≤ B ∧ (bd q.den).length ≤ B:=⟨fM h.1,fM h.2⟩
theorem fY (n:Int) (h1:-9223372036854775808 ≤ n) (h2:n < 9223372036854775808):aL prog 50 [(.one (.int .i64 n):aH)] (.ret [fB (.of (n:Rat))]):=by
 refine aD (args:=[.v none]) (ins:=[.v (.one (.int .i64 n))]) (hints:=(fun _=>none)) fo (by kernel_rfl) func50 ⟨rfl,trivial⟩ ?_
 rw [ad0]
 dsimp only [List.map,In.env,aB,aA]
 refine aC (nV n h1 h2) rfl ?_
 dsimp only [aB,aA]
 refine aC (nV 1 (by omega) (by omega)) rfl ?_
 dsimp only [aB,aA]
 rw [vA,Rat.num_intCast,Rat.den_intCast]; exact aK rfl
theorem Ls (n d:Int) (hd:d ≠ 0) (h1:-9223372036854775808 ≤ n) (h2:n < 9223372036854775808) (h3:-9223372036854775808 ≤ d) (h4:d < 9223372036854775808):aL prog 79 [(.one (.int .i64 n):aH),(.one (.int .i64 d):aH)] (.ret [fB (.of ((n:Rat) / (d:Rat)))]):=by
 refine aD (args:=[.v none, .v none]) (ins:=[.v (.one (.int .i64 n)), .v (.one (.int .i64 d))]) (hints:=(fun _=>none)) fo (by kernel_rfl) func79 ⟨rfl,rfl,trivial⟩ ?_
 rw [at4]
 dsimp only [List.map,In.env,aB,aA]
 refine aC (nV n h1 h2) rfl ?_
 dsimp only [aB,aA]
 refine aC (nV d h3 h4) rfl ?_
 dsimp only [aB,aA]
 have hn:=fM (n:=n.natAbs) (B:=64) (by omega)
 have hdd:=fM (n:=d.natAbs) (B:=64) (by omega)
 refine aC (vB n d hd (by omega) (by omega)) rfl ?_
 rw [VT hd]
 dsimp only [aB,aA]
 exact aK rfl
theorem Py (a:RQ):aL prog 105 [(fB a:aH)] (.ret [fB (.of (-a.q))]):=by
 refine aD (args:=[.v (some 4)]) (ins:=[.v (fB a)]) (hints:=(fun _=>none)) fo (by kernel_rfl) func105 ⟨rfl,trivial⟩ ?_
 rw [YB]
 dsimp only [List.map,In.env,aB,aA]
 refine aC (Bo a.q.num) rfl ?_
 dsimp only [aB,aA]
 refine aC (jD a) rfl ?_
 dsimp only [aB,aA]
 refine aK ?_
 rw [vA,Rat.neg_num,Rat.neg_den]
 show [aH.agg [.int .i64 (-a.q.num).sign,bT (-a.q.num).natAbs, .int .i64 (a.q.den:Int).sign,bT (a.q.den:Int).natAbs]] = _
 have:=a.q.den_pos
 rw [Int.sign_eq_one_of_pos (show (0:Int) < a.q.den by omega),Int.natAbs_natCast]
theorem BV (a:RQ):aL prog 60 [(fB a:aH)] (.ret [fB (.of a.q.abs)]):=by
 refine aD (args:=[.v (some 4)]) (ins:=[.v (fB a)]) (hints:=(fun _=>none)) fo (by kernel_rfl) func60 ⟨rfl,trivial⟩ ?_
 rw [al1]
 dsimp only [List.map,In.env,aB,aA]
 refine aC (Xj a.q.num) rfl ?_
 dsimp only [aB,aA]
 refine aC (jD a) rfl ?_
 dsimp only [aB,aA]
 refine aK ?_
 rw [vA,(sX a.q).1,(sX a.q).2]
 show [aH.agg [.int .i64 ((a.q.num.natAbs:Nat):Int).sign,bT ((a.q.num.natAbs:Nat):Int).natAbs, .int .i64 (a.q.den:Int).sign,bT (a.q.den:Int).natAbs]] = _
 have:=a.q.den_pos
 rw [Int.sign_eq_one_of_pos (show (0:Int) < a.q.den by omega)]
 simp only [Int.natAbs_natCast]
theorem Gd (a:RQ):aL prog 46 [(fB a:aH)] (.ret [.one (.int .i64 a.q.num.sign)]):=by
 refine aD (args:=[.v (some 4)]) (ins:=[.v (fB a)]) (hints:=(fun _=>none)) fo (by kernel_rfl) func46 ⟨rfl,trivial⟩ ?_
 rw [UX]
 dsimp only [List.map,In.env,aB,aA]
 exact aK rfl
theorem gA (a b:RQ) (A B:Nat) (ha:Fit A a.q) (hb:Fit B b.q) (h:A + B ≤ 4294967296):aL prog 104 [(fB a:aH),(fB b:aH)] (.ret [fB (.of (a.q * b.q))]):=by
 refine aD (args:=[.v (some 4), .v (some 4)]) (ins:=[.v (fB a), .v (fB b)]) (hints:=(fun _=>none)) fo (by kernel_rfl) func104 ⟨rfl,rfl,trivial⟩ ?_
 rw [aj4]
 dsimp only [List.map,In.env,aB,aA]
 obtain ⟨ha1,ha2⟩:=Fit.bd ha
 obtain ⟨hb1,hb2⟩:=Fit.bd hb
 have hn:=fM (bJ ha.1 hb.1)
 have hd:=fM (bJ ha.2 hb.2)
 have hpa:=a.q.den_pos
 have hpb:=b.q.den_pos
 refine aC (jC a.q.num b.q.num (by omega)) rfl ?_
 dsimp only [aB,aA]
 refine aC (jD a) rfl ?_
 dsimp only [aB,aA]
 refine aC (jD b) rfl ?_
 dsimp only [aB,aA]
 refine aC (jC (a.q.den:Int) (b.q.den:Int) (by rw [Int.natAbs_natCast,Int.natAbs_natCast]; omega)) rfl ?_
 rw [← Int.natCast_mul]
 dsimp only [aB,aA]
 refine aC (vB _ ((a.q.den * b.q.den:Nat):Int) (by have:=Nat.mul_pos hpa hpb; omega) (by rw [Int.natAbs_mul]; omega) (by rw [Int.natAbs_natCast]; omega)) rfl ?_
 rw [HC,← Rat.mul_def']
 dsimp only [aB,aA]
 exact aK rfl
theorem lO (a b:RQ) (A B:Nat) (ha:Fit A a.q) (hb:Fit B b.q) (h:A + B ≤ 4294967296):aL prog 48 [(fB a:aH),(fB b:aH)] (.ret [fB (.of (a.q + b.q))]):=by
 refine aD (args:=[.v (some 4), .v (some 4)]) (ins:=[.v (fB a), .v (fB b)]) (hints:=(fun _=>none)) fo (by kernel_rfl) func48 ⟨rfl,rfl,trivial⟩ ?_
 rw [ae1]
 dsimp only [List.map,In.env,aB,aA]
 obtain ⟨ha1,ha2⟩:=Fit.bd ha
 obtain ⟨hb1,hb2⟩:=Fit.bd hb
 have hn1:=fM (bJ ha.1 hb.2)
 have hn2:=fM (bJ hb.1 ha.2)
 have hd:=fM (bJ ha.2 hb.2)
 have hpa:=a.q.den_pos
 have hpb:=b.q.den_pos
 have hsum:(bd (a.q.num * (b.q.den:Int) + b.q.num * (a.q.den:Int)).natAbs).length ≤ A + B + 1:=by
  apply fM
  have h1:=bJ ha.1 hb.2
  have h2:=bJ hb.1 ha.2
  rw [Nat.add_comm B A] at h2
  rw [Nat.pow_succ]
  refine Nat.lt_of_le_of_lt (Int.natAbs_add_le _ _) ?_
  rw [Int.natAbs_mul,Int.natAbs_mul,Int.natAbs_natCast,Int.natAbs_natCast]
  omega
 refine aC (jD b) rfl ?_
 dsimp only [aB,aA]
 refine aC (jC a.q.num (b.q.den:Int) (by rw [Int.natAbs_natCast]; omega)) rfl ?_
 dsimp only [aB,aA]
 refine aC (jD a) rfl ?_
 dsimp only [aB,aA]
 refine aC (jC b.q.num (a.q.den:Int) (by rw [Int.natAbs_natCast]; omega)) rfl ?_
 dsimp only [aB,aA]
 refine aC (KA _ _ (by rw [Int.natAbs_mul,Int.natAbs_natCast]; omega) (by rw [Int.natAbs_mul,Int.natAbs_natCast]; omega)) rfl ?_
 dsimp only [aB,aA]
 refine aC (jD a) rfl ?_
 dsimp only [aB,aA]
 refine aC (jD b) rfl ?_
 dsimp only [aB,aA]
 refine aC (jC (a.q.den:Int) (b.q.den:Int) (by rw [Int.natAbs_natCast,Int.natAbs_natCast]; omega)) rfl ?_
 rw [← Int.natCast_mul a.q.den b.q.den]
 dsimp only [aB,aA]
 refine aC (vB _ ((a.q.den * b.q.den:Nat):Int) (by have:=Nat.mul_pos hpa hpb; omega) (by omega) (by rw [Int.natAbs_natCast]; omega)) rfl ?_
 rw [HC,← Rat.add_def']
 dsimp only [aB,aA]
 exact aK rfl
theorem ZL (a b:RQ) (A B:Nat) (ha:Fit A a.q) (hb:Fit B b.q) (h:A + B ≤ 4294967296):aL prog 141 [(fB a:aH),(fB b:aH)] (.ret [fB (.of (a.q - b.q))]):=by
 refine aD (args:=[.v (some 4), .v (some 4)]) (ins:=[.v (fB a), .v (fB b)]) (hints:=(fun _=>none)) fo (by kernel_rfl) func141 ⟨rfl,rfl,trivial⟩ ?_
 rw [YU]
 dsimp only [List.map,In.env,aB,aA]
 refine aC (Py b) rfl ?_
 dsimp only [aB,aA]
 refine aC (lO a (.of (-b.q)) A B ha hb.neg h) rfl ?_
 rw [RQ.Ft,← Rat.sub_eq_add_neg]
 dsimp only [aB,aA]
 exact aK rfl
theorem tY (a b:RQ) (A B:Nat) (hb0:b.q ≠ 0) (ha:Fit A a.q) (hb:Fit B b.q) (h:A + B ≤ 4294967296):aL prog 102 [(fB a:aH),(fB b:aH)] (.ret [fB (.of (a.q / b.q))]):=by
 refine aD (args:=[.v (some 4), .v (some 4)]) (ins:=[.v (fB a), .v (fB b)]) (hints:=(fun _=>none)) fo (by kernel_rfl) func102 ⟨rfl,rfl,trivial⟩ ?_
 rw [Yy]
 dsimp only [List.map,In.env,aB,aA]
 obtain ⟨ha1,ha2⟩:=Fit.bd ha
 obtain ⟨hb1,hb2⟩:=Fit.bd hb
 have hn:=fM (bJ ha.1 hb.2)
 have hd:=fM (bJ ha.2 hb.1)
 have hpa:=a.q.den_pos
 have hnb:b.q.num ≠ 0:=fun e=>hb0 (Rat.num_eq_zero.1 e)
 refine aC (jD b) rfl ?_
 dsimp only [aB,aA]
 refine aC (jC a.q.num (b.q.den:Int) (by rw [Int.natAbs_natCast]; omega)) rfl ?_
 dsimp only [aB,aA]
 refine aC (jD a) rfl ?_
 dsimp only [aB,aA]
 refine aC (jC (a.q.den:Int) b.q.num (by rw [Int.natAbs_natCast]; omega)) rfl ?_
 dsimp only [aB,aA]
 refine aC (vB _ _ (Int.mul_ne_zero (by omega) hnb) (by rw [Int.natAbs_mul,Int.natAbs_natCast]; omega) (by rw [Int.natAbs_mul,Int.natAbs_natCast]; omega)) rfl ?_
 rw [GD hb0]
 dsimp only [aB,aA]
 exact aK rfl
theorem CQ (a b:RQ) (A B:Nat) (ha:Fit A a.q) (hb:Fit B b.q) (h:A + B ≤ 4294967296):aL prog 47 [(fB a:aH),(fB b:aH)] (.ret [.one (.int .i64 (kO a.q b.q))]):=by
 refine aD (args:=[.v (some 4), .v (some 4)]) (ins:=[.v (fB a), .v (fB b)]) (hints:=(fun _=>none)) fo (by kernel_rfl) func47 ⟨rfl,rfl,trivial⟩ ?_
 rw [YD]
 dsimp only [List.map,In.env,aB,aA]
 obtain ⟨ha1,ha2⟩:=Fit.bd ha
 obtain ⟨hb1,hb2⟩:=Fit.bd hb
 have hn1:=fM (bJ ha.1 hb.2)
 have hn2:=fM (bJ hb.1 ha.2)
 refine aC (jD b) rfl ?_
 dsimp only [aB,aA]
 refine aC (jC a.q.num (b.q.den:Int) (by rw [Int.natAbs_natCast]; omega)) rfl ?_
 dsimp only [aB,aA]
 refine aC (jD a) rfl ?_
 dsimp only [aB,aA]
 refine aC (jC b.q.num (a.q.den:Int) (by rw [Int.natAbs_natCast]; omega)) rfl ?_
 dsimp only [aB,aA]
 refine aC (Uh _ _ (by rw [Int.natAbs_mul,Int.natAbs_natCast]; omega) (by rw [Int.natAbs_mul,Int.natAbs_natCast]; omega)) rfl ?_
 rw [← yL]
 dsimp only [aB,aA]
 exact aK rfl
end Go.Sy
