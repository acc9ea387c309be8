/- Part. -/
import Derived.Test.YtpaidpkaechleaaGreatDoorEc
import Derived.Test.YtpaidpkaechleaaGreatDoorCards
import Derived.Test.YtpaidpkaechleaaGreatDoorTie
import Derived.ProofKit
import Derived.OpenShut
import Derived.Deep.DeepHandedRow
import Derived.Deep.Strs
set_option linter.all false
namespace Go.Sy
open Go Go.Proofs Tryz Ord
def am5:Tr:=.need (.call 110 [(W 1 0),(WK 1000)] [none]) (.call ⟨.value (.func 110),#[(tT 5),(.const (I3 1000))],#[3,3]⟩) 3 true (aC 56 [(G2 0),(W 2 0)] [(some 2)] [8,9] [33,3] 33 false (aC 50 [(G4 0)] [(some 2)] [11] [35] 33 false (aC 56 [(G2 4),(W 2 0)] [(some 2)] [12,13] [33,3] 33 true (.ret [(.agg [(U 3 0),(U 3 1),(U 5 0),(U 5 1)])]))))
theorem Vu:aK prog f123 (fun _=>none) [.v (some 4), .v none]=am5:=by kernel_rfl
def al3:Tr:=aC 123 [(G4 0),(W 1 0)] [(some 4)] [5,6] [35,3] 35 true (.ret [(G4 2)])
theorem TF:aK prog f79 (fun _=>none) [.v (some 4), .v none]=al3:=by kernel_rfl
def ao8:Tr:=.loop 0 [lV 1 0] (aC 19 [(W 0 0),(W 2 0)] [(some 4)] [5,6] [5,3] 35 false (aC 11 [(G4 3)] [none] [7] [35] 3 true (aO .eql 3 8 0 4 0 4 (.split (.u 5 0) (aO .add 3 10 1 2 0 3 (.back 0 [lV 6 0])) (.ret [(W 2 0)])))))
theorem Uw:aK prog f77 (fun _=>none) [.v none, .v none]=ao8:=by kernel_rfl
def oE:Tr:=.ret [(.agg [(tE (.int .i64 0)),tN,(tE (.int .i64 0)),tN]),(tF false)]
def XL:Tr:=.split (.u 18 0) oE (aC 19 [(W 0 0),(W 3 0)] [(some 4)] [45,46] [5,3] 35 false (aC 78 [(G4 19)] [(some 4)] [47] [35] 35 false (aC 79 [(G4 2),(W 3 0)] [(some 4)] [49,50] [35,3] 35 false (aC 33 [(G4 20),(G4 21)] [(some 4)] [48,51] [35,35] 35 false (aC 75 [(G4 22),(G4 16)] [(some 4)] [52,53] [35,35] 35 true (.ret [(G4 23),(tF true)]))))))
def Wv:Tr:=bG .mul 3 32 34 10 0 11 0 3 (aC 42 [(W 12 0)] [(some 4)] [35] [2] 35 true (aC 75 [(G4 9),(G4 13)] [(some 4)] [30,36] [35,35] 35 true (.need (.call 42 [(WK 1)] [(some 4)]) (.call ⟨.value (.func 42),#[(.const (I3 1))],#[2]⟩) 35 false (aC 43 [(G4 15),(G4 14)] [(some 4)] [38,39] [35,35] 35 true (aC 11 [(G4 16)] [none] [41] [35] 3 true (aO .leq 3 42 0 17 0 4 XL))))))
def VE:Tr:=.split (.u 19 0) oE (aC 19 [(W 0 0),(W 3 0)] [(some 4)] [45,46] [5,3] 35 false (aC 78 [(G4 20)] [(some 4)] [47] [35] 35 false (aC 79 [(G4 2),(W 3 0)] [(some 4)] [49,50] [35,3] 35 false (aC 33 [(G4 21),(G4 22)] [(some 4)] [48,51] [35,35] 35 false (aC 75 [(G4 23),(G4 17)] [(some 4)] [52,53] [35,35] 35 true (.ret [(G4 24),(tF true)]))))))
def Yi:Tr:=bG .mul 3 32 34 11 0 12 0 3 (aC 42 [(W 13 0)] [(some 4)] [35] [2] 35 true (aC 75 [(G4 10),(G4 14)] [(some 4)] [30,36] [35,35] 35 true (.need (.call 42 [(WK 1)] [(some 4)]) (.call ⟨.value (.func 42),#[(.const (I3 1))],#[2]⟩) 35 false (aC 43 [(G4 16),(G4 15)] [(some 4)] [38,39] [35,35] 35 true (aC 11 [(G4 17)] [none] [41] [35] 3 true (aO .leq 3 42 0 18 0 4 VE))))))
def XG:Tr:=.split (.u 13 0) oE (aC 19 [(W 0 0),(W 3 0)] [(some 4)] [45,46] [5,3] 35 false (aC 78 [(G4 14)] [(some 4)] [47] [35] 35 false (aC 79 [(G4 2),(W 3 0)] [(some 4)] [49,50] [35,3] 35 false (aC 33 [(G4 15),(G4 16)] [(some 4)] [48,51] [35,35] 35 false (aC 75 [(G4 17),(G4 11)] [(some 4)] [52,53] [35,35] 35 true (.ret [(G4 18),(tF true)]))))))
def af2:Tr:=.split (.u 8 0) (aC 33 [(G4 2),(G4 2)] [(some 4)] [28,29] [35,35] 35 false (aO .add 3 31 1 3 0 3 (aO .add 3 33 2 3 0 3 Wv))) (.need (.prim [(W 0 0),(.one (.c (.k (.int .u8 4))))] none) (.binOp .eql 5 (tT 25) (.const (.int .u8 4)) 5) 4 false (.split (.u 9 0) (aC 33 [(G4 2),(G4 2)] [(some 4)] [28,29] [35,35] 35 false (aO .add 3 31 1 3 0 3 (aO .add 3 33 2 3 0 3 Yi))) (.need (.call 42 [(WK 1)] [(some 4)]) (.call ⟨.value (.func 42),#[(.const (I3 1))],#[2]⟩) 35 false (aC 43 [(G4 10),(G4 7)] [(some 4)] [38,39] [35,35] 35 true (aC 11 [(G4 11)] [none] [41] [35] 3 true (aO .leq 3 42 0 12 0 4 XG))))))
def Wh:Tr:=.split (.u 15 0) oE (aC 19 [(W 0 0),(W 3 0)] [(some 4)] [45,46] [5,3] 35 false (aC 78 [(G4 16)] [(some 4)] [47] [35] 35 false (aC 79 [(G4 2),(W 3 0)] [(some 4)] [49,50] [35,3] 35 false (aC 33 [(G4 17),(G4 18)] [(some 4)] [48,51] [35,35] 35 false (aC 75 [(G4 19),(G4 13)] [(some 4)] [52,53] [35,35] 35 true (.ret [(G4 20),(tF true)]))))))
def VY:Tr:=bG .mul 3 32 34 7 0 8 0 3 (aC 42 [(W 9 0)] [(some 4)] [35] [2] 35 true (aC 75 [(G4 6),(G4 10)] [(some 4)] [30,36] [35,35] 35 true (.need (.call 42 [(WK 1)] [(some 4)]) (.call ⟨.value (.func 42),#[(.const (I3 1))],#[2]⟩) 35 false (aC 43 [(G4 12),(G4 11)] [(some 4)] [38,39] [35,35] 35 true (aC 11 [(G4 13)] [none] [41] [35] 3 true (aO .leq 3 42 0 14 0 4 Wh))))))
def Yp:Tr:=.split (.u 16 0) oE (aC 19 [(W 0 0),(W 3 0)] [(some 4)] [45,46] [5,3] 35 false (aC 78 [(G4 17)] [(some 4)] [47] [35] 35 false (aC 79 [(G4 2),(W 3 0)] [(some 4)] [49,50] [35,3] 35 false (aC 33 [(G4 18),(G4 19)] [(some 4)] [48,51] [35,35] 35 false (aC 75 [(G4 20),(G4 14)] [(some 4)] [52,53] [35,35] 35 true (.ret [(G4 21),(tF true)]))))))
def WI:Tr:=bG .mul 3 32 34 8 0 9 0 3 (aC 42 [(W 10 0)] [(some 4)] [35] [2] 35 true (aC 75 [(G4 7),(G4 11)] [(some 4)] [30,36] [35,35] 35 true (.need (.call 42 [(WK 1)] [(some 4)]) (.call ⟨.value (.func 42),#[(.const (I3 1))],#[2]⟩) 35 false (aC 43 [(G4 13),(G4 12)] [(some 4)] [38,39] [35,35] 35 true (aC 11 [(G4 14)] [none] [41] [35] 3 true (aO .leq 3 42 0 15 0 4 Yp))))))
def SK:Tr:=.split (.u 10 0) oE (aC 19 [(W 0 0),(W 3 0)] [(some 4)] [45,46] [5,3] 35 false (aC 78 [(G4 11)] [(some 4)] [47] [35] 35 false (aC 79 [(G4 2),(W 3 0)] [(some 4)] [49,50] [35,3] 35 false (aC 33 [(G4 12),(G4 13)] [(some 4)] [48,51] [35,35] 35 false (aC 75 [(G4 14),(G4 8)] [(some 4)] [52,53] [35,35] 35 true (.ret [(G4 15),(tF true)]))))))
def WA:Tr:=.split (.u 5 0) (aC 33 [(G4 2),(G4 2)] [(some 4)] [28,29] [35,35] 35 false (aO .add 3 31 1 3 0 3 (aO .add 3 33 2 3 0 3 VY))) (.need (.prim [(W 0 0),(.one (.c (.k (.int .u8 4))))] none) (.binOp .eql 5 (tT 25) (.const (.int .u8 4)) 5) 4 false (.split (.u 6 0) (aC 33 [(G4 2),(G4 2)] [(some 4)] [28,29] [35,35] 35 false (aO .add 3 31 1 3 0 3 (aO .add 3 33 2 3 0 3 WI))) (.need (.call 42 [(WK 1)] [(some 4)]) (.call ⟨.value (.func 42),#[(.const (I3 1))],#[2]⟩) 35 false (aC 43 [(G4 7),(G4 2)] [(some 4)] [38,39] [35,35] 35 true (aC 11 [(G4 8)] [none] [41] [35] 3 true (aO .leq 3 42 0 9 0 4 SK))))))
def ao6:Tr:=aC 77 [(W 0 0),(W 1 0)] [none] [11,12] [5,3] 3 true (.need (.prim [(W 0 0),(.one (.c (.k (.int .u8 1))))] none) (.binOp .eql 5 (tT 15) (.const (.int .u8 1)) 5) 4 false (.split (.u 4 0) (aO .add 3 18 1 3 0 3 (aC 42 [(W 5 0)] [(some 4)] [19] [2] 35 true (aC 75 [(G4 2),(G4 6)] [(some 4)] [17,20] [35,35] 35 true (.need (.prim [(W 0 0),(.one (.c (.k (.int .u8 3))))] none) (.binOp .eql 5 (tT 22) (.const (.int .u8 3)) 5) 4 false af2)))) (.need (.prim [(W 0 0),(.one (.c (.k (.int .u8 3))))] none) (.binOp .eql 5 (tT 22) (.const (.int .u8 3)) 5) 4 false WA)))
theorem Xk:aK prog f20 (fun _=>none) [.v none, .v none, .v (some 4)]=ao6:=by kernel_rfl
theorem tG (kind i:Nat) (h1:1≤kind:=by omega) (h6:kind≤6:=by omega) (hi:i≤44:=by omega):aL prog 19 [.one (.int .u8 (kind:Int)), .one (.int .i64 (i:Int))] (.ret [kB (eC kind i)]):=by
 have:kind=1∨kind=2∨kind=3∨kind=4∨kind=5∨kind=6:=by omega
 rcases this with rfl | rfl | rfl | rfl | rfl | rfl
 ·exact Zz i hi
 ·exact ac8 i hi
 ·exact ao3 i hi
 ·exact ap5 i hi
 ·exact ar4 i hi
 ·exact ac6 i hi
theorem uT:∀ k,k≤6→∀ n,n≤44→Fit 300 (eC k n).q:=by decide +kernel
theorem MR:∀ k,k≤6→∀ n,n≤42→(eC k n).q=0→(eC k (n+1)).q≠0:=by decide +kernel
def cG (kind n:Nat):Nat:=if (eC kind n).q=0 then n+1 else n
theorem hP {A:Nat} {q:Rat} (h:Fit A q):Fit A q.abs:=by
 unfold Rat.abs;split
 ·exact h
 ·exact h.neg
theorem iD {q:Rat}:q.num.sign=0↔q=0:=by rw [Int.sign_eq_zero_iff_zero,Rat.num_eq_zero]
theorem TP (kind n:Nat) (h1:1≤kind) (h6:kind≤6) (hn:n≤42):aL prog 77 [(.one (.int .u8 (kind:Int)):aI),(.one (.int .i64 (n:Int)):aI)] (.ret [.one (.int .i64 (cG kind n:Int))]):=by
 refine bV func77 Uw ?_;refine bD {m:Nat // m=n∨(m=n+1∧(eC kind n).q=0)} (fun g=>[.one (.int .i64 (g.1:Int))]) (fun g=>n+1-g.1) ⟨n, .inl rfl⟩ aR.rfl (fun _=>rfl) ?_;rintro ⟨m,hm⟩;dsimp only [aG,aH] at hm ⊢;apply aA (tG kind m h1 h6) rfl;apply aA (kH _) rfl;apply vn aE rfl;refine vs _ rfl ?_ ?_<;>intro h4
 ·apply vn (aD) rfl;dsimp only [aG,aH];have hz:=iD.1 h4
  have hmn:m=n:=by
   rcases hm with h | ⟨h,h0⟩
   ·exact h
   ·subst h;exact absurd hz (MR kind h6 n hn h0)
  subst hmn;exact aX rfl ⟨⟨m+1, .inr ⟨rfl,hz⟩⟩,aR.rfl,by show m+1-(m+1)<m+1-m;omega⟩
 have hz:=mt iD.2 h4
 have hmf:cG kind n=m:=by
  rcases hm with h | ⟨h,h0⟩
  ·subst h;exact if_neg hz
  ·rw [h];exact if_pos h0
 rw [hmf];exact aJ rfl
theorem Ui (x:RQ) (n A:Nat) (hn:n≤256) (hx:Fit A x.q) (hA1:1≤A) (hA:A≤10000000):aL prog 123 [(kB x:aI),(.one (.int .i64 n):aI)] (.ret [kB (.of (x.q^n))]):=by
 refine bV func123 Vu ?_;obtain ⟨b1,b2⟩:=Fit.bd hx;have hAn:A*n≤10000000*256:=Nat.mul_le_mul hA hn;have hAn1:∀ j,j≤n→A*j≤A*n:=fun j hj=>Nat.mul_le_mul_left _ hj;apply aA (We n 1000) rfl;rw [show max 0 (min (n:Int) 1000)=(n:Int) by omega]
 refine aA (HO x.q.num n (A*n+A+1) (fun j hj=>by
  refine eR (Nat.lt_of_lt_of_le (m:=2^(A*j+1)) ?_ (Nat.pow_le_pow_right (by omega) (by have:=hAn1 j hj;omega)));rw [Int.natAbs_pow];exact gM hx.1 hA1)) rfl ?_
 apply aA (hC x) rfl
 refine aA (HO (x.q.den:Int) n (A*n+A+1) (fun j hj=>by
  refine eR (Nat.lt_of_lt_of_le (m:=2^(A*j+1)) ?_ (Nat.pow_le_pow_right (by omega) (by have:=hAn1 j hj;omega)));rw [Int.natAbs_pow,Int.natAbs_natCast];exact gM hx.2 hA1) (by rw [Int.natAbs_natCast];omega)) rfl ?_
 dsimp only [aG,aH]
 have e:(aI.agg (zC (x.q.num^n)++zC ((x.q.den:Int)^n)))=kB (.of (x.q^n)):=by
  have hd:0<x.q.den^n:=Nat.pow_pos x.q.den_pos;have hs:((x.q.den^n:Nat):Int).sign=1:=Int.sign_eq_one_of_pos (by omega);simp only [zC,rC,RQ.of,Rat.num_pow,Rat.den_pow,←Int.natCast_pow,hs,Int.natAbs_natCast,aG,aH];rfl
 rw [←e];exact aJ rfl
theorem rO (x:RQ) (n A:Nat) (hx:Fit A x.q) (hA1:1≤A) (hn:n≤256:=by omega) (hA:A≤10000000:=by omega):aL prog 79 [(kB x:aI),(.one (.int .i64 n):aI)] (.ret [kB (.of (x.q^n))]):=by
 refine bV func79 TF ?_;apply aA (Ui x n A hn hx hA1 hA) rfl;exact aJ rfl
def OP (kind m:Nat) (r:Rat):Rat:=if kind=1 then r/(((m:Int)+1:Int):Rat) else if kind=3∨kind=4 then r*r/((((m:Int)+1)*((m:Int)+2):Int):Rat) else r
def iL (kind n:Nat) (r:Rat):Bool:=decide (0<((1:Int):Rat)-OP kind (cG kind n) r)
def TM (kind n:Nat) (r:Rat):Rat:=(eC kind (cG kind n)).q.abs*r^cG kind n/(((1:Int):Rat)-OP kind (cG kind n) r)
def tM (kind n:Nat) (r:Rat):RQ:=if iL kind n r=true then .of (TM kind n r) else .nil
set_option maxHeartbeats 1000000 in
theorem JF (kind n:Nat) (x:RQ) (A:Nat) (hx:Fit A x.q) (h1:1≤kind:=by omega) (h6:kind≤6:=by omega) (hn:n≤42:=by omega) (hA1:1≤A:=by omega) (hA:A≤1000000:=by omega):aL prog 20 [(.one (.int .u8 (kind:Int)):aI),(.one (.int .i64 (n:Int)):aI),(kB x:aI)] (.ret [kB (tM kind n x.q), .one (.bool (iL kind n x.q))]):=by
 refine bV func20 Xk ?_;obtain ⟨m,hm⟩:∃ m,m=cG kind n:=⟨_,rfl⟩
 have hm43:m≤43:=by rw [hm];unfold cG;split<;>omega
 have hmf:Fit 64 (((m:Int)+1:Int):Rat):=Fit.int (by omega) (by omega);have hb:0≤((m:Int)+1)*((m:Int)+2)∧((m:Int)+1)*((m:Int)+2)≤44*45:=⟨Int.mul_nonneg (by omega) (by omega),Int.mul_le_mul (by omega) (by omega) (by omega) (by omega)⟩
 have hb0:((m:Int)+1)*((m:Int)+2)≠0:=by
  intro e;rcases Int.mul_eq_zero.1 e with h | h<;>omega
 have hmf2:Fit 64 ((((m:Int)+1)*((m:Int)+2):Int):Rat):=Fit.int (by omega) (by omega);have hxx:=hx.mul hx;have h1f:Fit 2 ((1:Int):Rat):=Fit.int (by omega) (by omega);have hcf:=uT kind h6 m (by omega);have hpf:=kE hx m hA1;have hAm:A*m≤1000000*43:=Nat.mul_le_mul hA hm43
 have fin:∀ q:Rat,Fit (A+A+64) q→OP kind m x.q=q→(¬ (((1:Int):Rat)-q).num.sign≤0→tM kind n x.q = .of ((eC kind m).q.abs*x.q^m/(((1:Int):Rat)-q))∧iL kind n x.q=true)∧((((1:Int):Rat)-q).num.sign≤0→tM kind n x.q = .nil∧iL kind n x.q=false):=by
  intro q _ e
  constructor
  ·intro h;have h2:¬ (((1:Int):Rat)-q)≤0:=fun h3=>h ((fP _).2 h3);have ok:iL kind n x.q=true:=by unfold iL;rw [←hm,e,decide_eq_true_iff];grind
   refine ⟨?_,ok⟩;unfold tM TM;rw [if_pos ok,←hm,e]
  ·intro h;have h2:=(fP _).1 h;have ok:iL kind n x.q=false:=by unfold iL;rw [←hm,e,decide_eq_false_iff_not];grind
   refine ⟨?_,ok⟩;unfold tM;rw [if_neg (by rw [ok];decide)]
 apply aA (TP kind n h1 h6 hn) rfl;rw [←hm];apply vn aE rfl;refine vs _ rfl ?_ ?_<;>intro h2
 ·apply vn (aD) rfl;apply aA (iJ ((m:Int)+1)) rfl;dsimp only [aG,aH];apply aA (kN x (.of (((m:Int)+1:Int):Rat)) A 64 (by rw [RQ.Jz];intro e;have:=Rat.intCast_inj.1 (e.trans Rat.intCast_zero.symm);omega) hx hmf) rfl;apply vn aE rfl;refine vs _ rfl ?_ ?_<;>intro h7
  ·exfalso;omega
  apply vn aE rfl;refine vs _ rfl ?_ ?_<;>intro h27
  ·exfalso;omega
  apply aA (iJ 1) rfl;have hF:=fin (x.q/(((m:Int)+1:Int):Rat)) ((Fit.div hx hmf).mono (by omega)) (by unfold OP;rw [if_pos (by omega)]);have hqf:Fit (A+A+64) (x.q/(((m:Int)+1:Int):Rat)):=(Fit.div hx hmf).mono (by omega);have hlf:=h1f.sub hqf;dsimp only [aG,aH];apply aA (Jq (.of ((1:Int):Rat)) (.of (x.q/(((m:Int)+1:Int):Rat))) 2 (A+A+64) h1f hqf) rfl;apply aA (kH _) rfl;apply vn gE rfl;refine vs _ rfl ?_ ?_<;>intro h50
  ·rw [(hF.2 h50).1,(hF.2 h50).2];exact fR ⟨⟨gC.1,gC.2.1,gC.2.2.1,gC.2.2.2.1,trivial⟩,aI.Sub.same,trivial⟩
  apply aA (tG kind m h1 h6) rfl;dsimp only [aG,aH];apply aA (Ir _) rfl;apply aA (rO x m A hx hA1) rfl;apply aA (mD (.of (eC kind m).q.abs) (.of (x.q^m)) 300 (A*m+1) (hP hcf) hpf) rfl;dsimp only [aG,aH];have hne:((1:Int):Rat)-(x.q/(((m:Int)+1:Int):Rat))≠0:=fun e=>h50 (show (((1:Int):Rat)-(x.q/(((m:Int)+1:Int):Rat))).num.sign≤0 by rw [e];decide);apply aA (kN (.of ((eC kind m).q.abs*x.q^m)) (.of (((1:Int):Rat)-(x.q/(((m:Int)+1:Int):Rat)))) _ _ hne ((hP hcf).mul hpf) hlf) rfl;dsimp only [aG,aH];rw [(hF.1 h50).1,(hF.1 h50).2];exact aJ rfl
 apply vn aE rfl;refine vs _ rfl ?_ ?_<;>intro h59
 ·apply aA (mD x x A A hx hx) rfl;apply vn (aD) rfl;apply vn (aD) rfl;dsimp only [aG,aH];apply vn (bR) rfl;apply aA (iJ _) rfl;apply aA (kN (.of (x.q*x.q)) (.of ((((m:Int)+1)*((m:Int)+2):Int):Rat)) (A+A) 64 (by rw [RQ.Jz];intro e;exact hb0 (Rat.intCast_inj.1 (e.trans Rat.intCast_zero.symm))) hxx hmf2) rfl;apply aA (iJ 1) rfl;have hF:=fin (x.q*x.q/((((m:Int)+1)*((m:Int)+2):Int):Rat)) ((Fit.div hxx hmf2).mono (by omega)) (by unfold OP;rw [if_neg (by omega),if_pos (by omega)]);have hqf:Fit (A+A+64) (x.q*x.q/((((m:Int)+1)*((m:Int)+2):Int):Rat)):=(Fit.div hxx hmf2).mono (by omega);have hlf:=h1f.sub hqf;dsimp only [aG,aH];apply aA (Jq (.of ((1:Int):Rat)) (.of (x.q*x.q/((((m:Int)+1)*((m:Int)+2):Int):Rat))) 2 (A+A+64) h1f hqf) rfl;apply aA (kH _) rfl;apply vn gE rfl;refine vs _ rfl ?_ ?_<;>intro h70
  ·rw [(hF.2 h70).1,(hF.2 h70).2];exact fR ⟨⟨gC.1,gC.2.1,gC.2.2.1,gC.2.2.2.1,trivial⟩,aI.Sub.same,trivial⟩
  apply aA (tG kind m h1 h6) rfl;dsimp only [aG,aH];apply aA (Ir _) rfl;apply aA (rO x m A hx hA1) rfl;apply aA (mD (.of (eC kind m).q.abs) (.of (x.q^m)) 300 (A*m+1) (hP hcf) hpf) rfl;dsimp only [aG,aH];have hne:((1:Int):Rat)-(x.q*x.q/((((m:Int)+1)*((m:Int)+2):Int):Rat))≠0:=fun e=>h70 (show (((1:Int):Rat)-(x.q*x.q/((((m:Int)+1)*((m:Int)+2):Int):Rat))).num.sign≤0 by rw [e];decide);apply aA (kN (.of ((eC kind m).q.abs*x.q^m)) (.of (((1:Int):Rat)-(x.q*x.q/((((m:Int)+1)*((m:Int)+2):Int):Rat)))) _ _ hne ((hP hcf).mul hpf) hlf) rfl;dsimp only [aG,aH];rw [(hF.1 h70).1,(hF.1 h70).2];exact aJ rfl
 apply vn aE rfl;refine vs _ rfl ?_ ?_<;>intro h79
 ·apply aA (mD x x A A hx hx) rfl;apply vn (aD) rfl;apply vn (aD) rfl;dsimp only [aG,aH];apply vn (bR) rfl;apply aA (iJ _) rfl;apply aA (kN (.of (x.q*x.q)) (.of ((((m:Int)+1)*((m:Int)+2):Int):Rat)) (A+A) 64 (by rw [RQ.Jz];intro e;exact hb0 (Rat.intCast_inj.1 (e.trans Rat.intCast_zero.symm))) hxx hmf2) rfl;apply aA (iJ 1) rfl;have hF:=fin (x.q*x.q/((((m:Int)+1)*((m:Int)+2):Int):Rat)) ((Fit.div hxx hmf2).mono (by omega)) (by unfold OP;rw [if_neg (by omega),if_pos (by omega)]);have hqf:Fit (A+A+64) (x.q*x.q/((((m:Int)+1)*((m:Int)+2):Int):Rat)):=(Fit.div hxx hmf2).mono (by omega);have hlf:=h1f.sub hqf;dsimp only [aG,aH];apply aA (Jq (.of ((1:Int):Rat)) (.of (x.q*x.q/((((m:Int)+1)*((m:Int)+2):Int):Rat))) 2 (A+A+64) h1f hqf) rfl;apply aA (kH _) rfl;apply vn gE rfl;refine vs _ rfl ?_ ?_<;>intro h90
  ·rw [(hF.2 h90).1,(hF.2 h90).2];exact fR ⟨⟨gC.1,gC.2.1,gC.2.2.1,gC.2.2.2.1,trivial⟩,aI.Sub.same,trivial⟩
  apply aA (tG kind m h1 h6) rfl;dsimp only [aG,aH];apply aA (Ir _) rfl;apply aA (rO x m A hx hA1) rfl;apply aA (mD (.of (eC kind m).q.abs) (.of (x.q^m)) 300 (A*m+1) (hP hcf) hpf) rfl;dsimp only [aG,aH];have hne:((1:Int):Rat)-(x.q*x.q/((((m:Int)+1)*((m:Int)+2):Int):Rat))≠0:=fun e=>h90 (show (((1:Int):Rat)-(x.q*x.q/((((m:Int)+1)*((m:Int)+2):Int):Rat))).num.sign≤0 by rw [e];decide);apply aA (kN (.of ((eC kind m).q.abs*x.q^m)) (.of (((1:Int):Rat)-(x.q*x.q/((((m:Int)+1)*((m:Int)+2):Int):Rat)))) _ _ hne ((hP hcf).mul hpf) hlf) rfl;dsimp only [aG,aH];rw [(hF.1 h90).1,(hF.1 h90).2];exact aJ rfl
 apply aA (iJ 1) rfl;have hF:=fin (x.q) (hx.mono (by omega)) (by unfold OP;rw [if_neg (by omega),if_neg (by omega)]);have hqf:Fit (A+A+64) (x.q):=hx.mono (by omega);have hlf:=h1f.sub hqf;apply aA (Jq (.of ((1:Int):Rat)) x 2 (A+A+64) h1f hqf) rfl;apply aA (kH _) rfl;apply vn gE rfl;dsimp only [aG,aH];refine vs _ rfl ?_ ?_<;>intro h102
 ·rw [(hF.2 h102).1,(hF.2 h102).2];exact fR ⟨⟨gC.1,gC.2.1,gC.2.2.1,gC.2.2.2.1,trivial⟩,aI.Sub.same,trivial⟩
 apply aA (tG kind m h1 h6) rfl;apply aA (Ir _) rfl;apply aA (rO x m A hx hA1) rfl;apply aA (mD (.of (eC kind m).q.abs) (.of (x.q^m)) 300 (A*m+1) (hP hcf) hpf) rfl;dsimp only [aG,aH];have hne:((1:Int):Rat)-(x.q)≠0:=fun e=>h102 (show (((1:Int):Rat)-(x.q)).num.sign≤0 by rw [e];decide);apply aA (kN (.of ((eC kind m).q.abs*x.q^m)) (.of (((1:Int):Rat)-(x.q))) _ _ hne ((hP hcf).mul hpf) hlf) rfl;dsimp only [aG,aH];rw [(hF.1 h102).1,(hF.1 h102).2];exact aJ rfl
open Go Go.Proofs Tryz Ord
open Go Go.Proofs Tryz Ord
open Go Go.Proofs Tryz Ord
def ap7:Tr:=aC 81 [(W 0 0),(G3 1)] [none] [9,10] [5,30] 40 true (aO .neq 40 12 0 3 0 4 (.split (.u 4 0) (.ret [(.agg [tN,(tE (.bool false)),tN,tN,(tE (.bool false)),tN]),(W 3 0)]) (aC 82 [(.agg [(U 0 0),(U 1 0),(U 1 1),(U 1 2)]),(W 2 0)] [(some 6)] [18,19] [122,3] 39 true (.ret [(G6 5),(WK 0)]))))
theorem Yt:aK prog f29 (fun _=>none) [.v none, .v (some 3), .v none]=ap7:=by kernel_rfl
def ZR:Tr:=aC 87 [(G4 0)] [(some 3),none] [8] [122] 127 false (.split (.u 3 0) (aC 124 [(G3 2),(W 1 0)] [(some 6)] [13,14] [30,3] 39 true (.ret [(G6 4)])) (aC 88 [(G4 0)] [none] [16] [122] 88 false (aC 38 [(W 4 0),(W 1 0)] [(some 6)] [17,18] [88,3] 39 true (.ret [(G6 5)]))))
theorem Ys:aK prog f82 (fun _=>none) [.v (some 4), .v none]=ZR:=by kernel_rfl
def Zq:Tr:=.need (.call 81 [(.one (.c (.k (.int .u8 3)))),(G3 0)] [none]) (.call ⟨.value (.func 81),#[(.const (.int .u8 3)),(tT 5)],#[5,30]⟩) 40 true (aO .neq 40 7 0 1 0 4 (.split (.u 2 0) (.ret [(WK 0),(W 1 0)]) (aC 84 [(G3 0)] [none] [10] [30] 2 true (.ret [(W 3 0),(WK 0)]))))
theorem Nk:aK prog f25 (fun _=>none) [.v (some 3)]=Zq:=by kernel_rfl
def aj7:Tr:=aC 30 [(W 0 0),(W 1 0)] [(some 3),none] [8,9] [2,2] 55 false (.ret [(G3 2)])
theorem as9:aK prog f24 (fun _=>none) [.v none, .v none]=aj7:=by kernel_rfl
def ar2:Tr:=aC 27 [(G3 0)] [none] [4] [30] 9 false (.need (.prim [(.one (.c (.k (.string ⟨#[91]⟩)))),(W 1 0)] none) (.binOp .add 9 (.const (.string ⟨#[91]⟩)) (tT 5) 9) 9 false (.need (.prim [(W 2 0),(.one (.c (.k (.string ⟨#[32]⟩))))] none) (.binOp .add 9 (tT 6) (.const (.string ⟨#[32]⟩)) 9) 9 false (aC 27 [(.agg [(U 0 3),(U 0 4),(U 0 5)])] [none] [9] [30] 9 false (bG .add 9 7 10 3 0 4 0 9 (.need (.prim [(W 5 0),(.one (.c (.k (.string ⟨#[93]⟩))))] none) (.binOp .add 9 (tT 11) (.const (.string ⟨#[93]⟩)) 9) 9 false (.ret [(W 6 0)]))))))
theorem Xp:aK prog f26 (fun _=>none) [.v (some 6)]=ar2:=by kernel_rfl
def kI:Tr:=.ret [(tF false)]
def XA:Tr:=.split (.u 20 0) (aO .eql 2 58 1 10 0 4 (.split (.u 21 0) (.need (.call 9 [(WK 6)] [(some 6)]) (.call ⟨.value (.func 9),#[(.const (I3 6))],#[3]⟩) 39 false (aC 26 [(G6 22)] [none] [62] [39] 9 false (.need (.prim [(W 23 0),(.one (.c (.k (.string ⟨#[91,50,48,49,47,54,52,32,49,48,49,47,51,50,93]⟩))))] none) (.binOp .eql 9 (tT 63) (.const (.string ⟨#[91,50,48,49,47,54,52,32,49,48,49,47,51,50,93]⟩)) 9) 4 false (.ret [(W 24 0)])))) kI)) kI
def XH:Tr:=aC 26 [(G6 1)] [none] [44] [39] 9 false (.need (.prim [(W 16 0),(.one (.c (.k (.string ⟨#[91,52,51,47,49,54,32,49,49,47,52,93]⟩))))] none) (.binOp .eql 9 (tT 45) (.const (.string ⟨#[91,52,51,47,49,54,32,49,49,47,52,93]⟩)) 9) 4 false (.split (.u 17 0) (aC 26 [(G6 4)] [none] [49] [39] 9 false (.need (.prim [(W 18 0),(.one (.c (.k (.string ⟨#[91,51,47,50,32,51,47,50,93]⟩))))] none) (.binOp .eql 9 (tT 50) (.const (.string ⟨#[91,51,47,50,32,51,47,50,93]⟩)) 9) 4 false (.split (.u 19 0) (.need (.prim [(W 7 0),(.one (.c (.k (.string ⟨#[48,46,55,56,53,51,57,56,49,54,51,52]⟩))))] none) (.binOp .eql 9 (tT 54) (.const (.string ⟨#[48,46,55,56,53,51,57,56,49,54,51,52]⟩)) 9) 4 false XA) kI))) kI))
def al5:Tr:=.split (.u 12 0) (aO .eql 40 32 0 5 0 4 (.split (.u 13 0) (aO .eql 40 36 0 8 0 4 (.split (.u 14 0) (aO .eql 40 40 0 11 0 4 (.split (.u 15 0) XH kI)) kI)) kI)) kI
def ag2:Tr:=.need (.call 24 [(WK 9),(WK 4)] [(some 3)]) (.call ⟨.value (.func 24),#[(.const (I3 9)),(.const (I3 4))],#[2,2]⟩) 30 false (.need (.call 29 [(.one (.c (.k (.int .u8 6)))),(G3 3),(WK 3)] [(some 6),none]) (.call ⟨.value (.func 29),#[(.const (.int .u8 6)),(tT 15),(.const (I3 3))],#[5,30,3]⟩) 41 false (.need (.call 22 [(WK 1)] [(some 3)]) (.call ⟨.value (.func 22),#[(.const (I3 1))],#[2]⟩) 30 false (.need (.call 28 [(.one (.c (.k (.int .u8 5)))),(G3 6),(WK 10)] [none,none]) (.call ⟨.value (.func 28),#[(.const (.int .u8 5)),(tT 20),(.const (I3 10))],#[5,30,3]⟩) 73 false (.need (.call 22 [(WK 3)] [(some 3)]) (.call ⟨.value (.func 22),#[(.const (I3 3))],#[2]⟩) 30 false (aC 25 [(G3 9)] [none,none] [25] [30] 68 false (aO .eql 40 29 0 2 0 4 al5))))))
def ao9:Tr:=.need (.call 22 [(WK 1)] [(some 3)]) (.call ⟨.value (.func 22),#[(.const (I3 1))],#[2]⟩) 30 false (.need (.call 29 [(.one (.c (.k (.int .u8 1)))),(G3 0),(WK 4)] [(some 6),none]) (.call ⟨.value (.func 29),#[(.const (.int .u8 1)),(tT 10),(.const (I3 4))],#[5,30,3]⟩) 41 false ag2)
theorem Su:aK prog f12 (fun _=>none) []=ao9:=by kernel_rfl
def Yn (a b:Rat):List UInt8:=(([91]++nR a) ++ [32])++nR b ++ [93]
theorem Lz {q:Rat} {H:Nat} (h:Fit H q):(nR q).length≤2*H+16:=by
 have h1:=eN h.1;have h2:=eN h.2;unfold nR iY;rw [dR,dR];split<;>split<;>simp <;> omega
abbrev ay9 (q:Rat):Prop:=Fit 64 q∧q.num.natAbs≠0∧q.num.natAbs<1000000000∧q.den<1000000000
theorem KB (a b:Rat) (ha:ay9 a) (hb:ay9 b):aL prog 26 [(lP a b:aI)] (.ret [bS (Yn a b)]):=by
 refine bV func26 Xp ?_;have h1:=Lz ha.1;have h2:=Lz hb.1;apply aA (LD a ha.1 ha.2.1 ha.2.2.1 ha.2.2.2) rfl;apply vn (dN (a:=[91]) (by simp only [List.length_cons,List.length_nil];omega)) rfl;apply vn (dN (b:=[32]) (by simp only [dR,List.length_cons,List.length_nil];omega)) rfl;apply aA (LD b hb.1 hb.2.1 hb.2.2.1 hb.2.2.2) rfl;dsimp only [aG,aH];apply vn (dN (by simp only [dR,List.length_cons,List.length_nil];omega)) rfl;apply vn (dN (b:=[93]) (by simp only [dR,List.length_cons,List.length_nil];omega)) rfl;exact aJ rfl
def ag4 (q:Rat):Nat:=(iY (q.num.natAbs:Int)).length+(iY (q.den:Int)).length
theorem NV (a:RQ) (H:Nat) (hf:Fit H a.q) (hH:H≤1073741824:=by omega):aL prog 13 [(kB a:aI)] (.ret [.one (.int .i64 (ag4 a.q))]):=by
 refine bV func13 ZY ?_;have h1:=qL (z:=(a.q.num.natAbs:Int)) (H:=H) (by rw [Int.natAbs_natCast];exact hf.1);have h2:=qL (z:=(a.q.den:Int)) (H:=H) (by rw [Int.natAbs_natCast];exact hf.2);apply aA (Oz a.q.num) rfl;apply aA (lH (a.q.num.natAbs:Int) H (by rw [Int.natAbs_natCast];exact hf.1)) rfl;apply vn (pU PI) rfl;apply aA (hC a) rfl;dsimp only [aG,aH];apply aA (lH (a.q.den:Int) H (by rw [Int.natAbs_natCast];exact hf.2)) rfl;apply vn (pU PI) rfl;apply vn (aD) rfl;dsimp only [aG,aH];rw [show ((iY (a.q.num.natAbs:Int)).length:Int)+((iY (a.q.den:Int)).length:Int)=(ag4 a.q:Int) by unfold ag4;omega];exact aJ rfl
theorem aA7 (n d:Int) (h1:-9223372036854775808≤n:=by omega) (h2:n<9223372036854775808:=by omega) (h3:-9223372036854775808≤d:=by omega) (h4:d<9223372036854775808:=by omega):aL prog 24 [(.one (.int .i64 n):aI),(.one (.int .i64 d):aI)] (.ret [qT (bL n d)]):=by
 refine bV func24 as9 ?_
 have e:(if d=0 then (0:Rat) else (n:Rat)/(d:Rat))=bL n d:=by
  unfold bL;by_cases h:d=0
  ·subst h;rfl
  ·rw [if_neg h,if_neg fun e=>h (Rat.intCast_inj.1 (e.trans Rat.intCast_zero.symm))]
 apply aA (ai2 n d h1 h2 h3 h4) rfl;rw [e];exact aJ rfl
def e1V:Rat×Rat:=Lq (dB 32) (mM 32) (tX (dB 32) (mM 32) (((1:Int):Rat),((1:Int):Rat)) 9) (tX (dB 32) (mM 32) (((1:Int):Rat)-((1:Int):Rat),((1:Int):Rat)-((1:Int):Rat)) 1) 1
theorem QA (i:Nat) (hi:i≤0):aL prog 130 ([lP (dB (32*2^i)) (mM (32*2^i))] ++ [aN.cJ (.int .u8 ((1:Nat):Int)::qC ((1:Int):Rat))].map .one) (.ret [gL ((fun _=>e1V) i)]):=by
 obtain rfl:i=0:=by omega
 exact iK (dB 32) (mM 32) 1 ((1:Int):Rat) e1V 166 rfl (MK (dB 32) (mM 32) 1 9 100 Xu XM)
theorem aO6:aL prog 38 [.one (.fB 105 [.cJ [.fB 130 [.cJ (.int .u8 ((1:Nat):Int)::qC ((1:Int):Rat))]]]), .one (.int .i64 4)] (.ret [gL (43/16,11/4)]):=by
 have h:=Ia 130 [.cJ (.int .u8 ((1:Nat):Int)::qC ((1:Int):Rat))] (fun _=>e1V) 0 (by omega) QA 4 (by omega) (fun i hi=>(by decide +kernel:Fit 4000 e1V.1∧Fit 4000 e1V.2)) (fun i hi=>absurd hi (by omega)) (by decide +kernel)
 rwa [show GM (fun _=>e1V) 4 0=(43/16,11/4) by decide +kernel] at h
theorem aD5  :aL prog 82 [(.agg (.int .u8 1::qC ((1:Int):Rat)):aI),(.one (.int .i64 4):aI)] (.ret [gL (43/16,11/4)]):=by
 refine bV func82 Ys ?_;apply aA Ug rfl;refine cC false rfl (fun h=>by cases h) (fun _=>?_);apply aA (mX 1 ((1:Int):Rat)) rfl;apply aA aO6 rfl;exact aJ rfl
theorem au0  :aL prog 82 [(.agg (.int .u8 6::qC (bL ((9:Int):Rat) ((4:Int):Rat))):aI),(.one (.int .i64 3):aI)] (.ret [gL (3/2,3/2)]):=by
 refine bV func82 Ys ?_;apply aA RX rfl;refine cC true rfl (fun _=>?_) (fun h=>by cases h);have h:=VV (3/2) 3 8 (by decide +kernel);rw [show gK (3/2) (3:Int).toNat=3/2 by decide +kernel,show HD (3/2) (3:Int).toNat=3/2 by decide +kernel] at h;apply aA h rfl;exact aJ rfl
theorem az7  :aL prog 29 [(.one (.int .u8 1):aI),(qT ((1:Int):Rat):aI),(.one (.int .i64 4):aI)] (.ret [gL (43/16,11/4), .one (.int .i64 0)]):=by
 refine bV func29 Yt ?_;apply aA UL rfl;apply vn cS rfl;refine vs _ rfl ?_ ?_<;>intro h2
 ·exact absurd rfl h2
 apply aA aD5 rfl;exact aJ rfl
theorem aw3  :aL prog 29 [(.one (.int .u8 6):aI),(qT (bL ((9:Int):Rat) ((4:Int):Rat)):aI),(.one (.int .i64 3):aI)] (.ret [gL (3/2,3/2), .one (.int .i64 0)]):=by
 refine bV func29 Yt ?_;apply aA Ri rfl;apply vn cS rfl;refine vs _ rfl ?_ ?_<;>intro h2
 ·exact absurd rfl h2
 apply aA au0 rfl;exact aJ rfl
def Qh:Nat→Rat×Rat
 | 0=>atV (dB 32) (mM 32) ((1:Int):Rat) 9 14
 | _=>atV (dB 64) (mM 64) ((1:Int):Rat) 19 29
theorem aL7:iX (dB 64) (mM 64) (atP (dB 64) (mM 64) 1) true 19 300:=⟨by decide +kernel,by decide +kernel,by decide +kernel,by decide +kernel,by decide +kernel,by decide +kernel,by omega,by omega⟩
theorem aI1:iX (dB 64) (mM 64) (HB,HB) true 29 300:=⟨by decide +kernel,by decide +kernel,by decide +kernel,by decide +kernel,by decide +kernel,by decide +kernel,by omega,by omega⟩
theorem NP (i:Nat) (hi:i≤1):aL prog 130 ([lP (dB (32*2^i)) (mM (32*2^i))] ++ [aN.cJ (.int .u8 ((5:Nat):Int)::qC ((1:Int):Rat))].map .one) (.ret [gL (Qh i)]):=by
 match i,hi with
 | 0,_=>exact iK (dB 32) (mM 32) 5 ((1:Int):Rat) (Qh 0) 172 rfl (PE (dB 32) (mM 32) ((1:Int):Rat) 9 14 300 (by decide +kernel) (by decide +kernel) (by decide +kernel) aR3 aM8)
 | 1,_=>exact iK (dB 64) (mM 64) 5 ((1:Int):Rat) (Qh 1) 172 rfl (PE (dB 64) (mM 64) ((1:Int):Rat) 19 29 300 (by decide +kernel) (by decide +kernel) (by decide +kernel) aL7 aI1)
theorem aM7:aL prog 28 [.one (.int .u8 ((5:Nat):Int)),qT ((1:Int):Rat), .one (.int .i64 10)] (.ret [bS [48,46,55,56,53,51,57,56,49,54,51,52], .one (.int .i64 0)]):=by
 refine QR 5 ((1:Int):Rat) 0 10 Qh 1 _ NP UJ Vr (fun i hi=>?_) ?_
 ·obtain rfl:i=0:=by omega
  have hd:=Ig (Qh 0) 10 300 (by decide +kernel) (by decide +kernel) (by decide +kernel) (by decide +kernel) (by decide +kernel);rw [show decide (xX ((Qh 0).1*kV 10)=xX ((Qh 0).2*kV 10))=false by decide +kernel] at hd;exact ⟨_,hd⟩
 ·have hd:=Ig (Qh 1) 10 300 (by decide +kernel) (by decide +kernel) (by decide +kernel) (by decide +kernel) (by decide +kernel);rw [show decide (xX ((Qh 1).1*kV 10)=xX ((Qh 1).2*kV 10))=true by decide +kernel,show (if xX ((Qh 1).1*kV 10)=xX ((Qh 1).2*kV 10) then WC (xX ((Qh 1).1*kV 10)).natAbs 10 else []) = [48,46,55,56,53,51,57,56,49,54,51,52] by decide +kernel] at hd;exact hd
theorem YK:jZ (bL ((3:Int):Rat) (HN (Nc 0)).1)=1∧jZ (bL ((3:Int):Rat) (HN (Nc 0)).2)=1:=by decide +kernel
theorem Oh  :aL prog 25 [(qT ((3:Int):Rat):aI)] (.ret [.one (.int .i64 1), .one (.int .i64 0)]):=by
 refine bV func25 Nk ?_;apply aA Ur rfl;apply vn cS rfl;refine vs _ rfl ?_ ?_<;>intro h2
 ·exact absurd rfl h2
 apply aA (Ou ((3:Int):Rat) 1 (by decide +kernel) (LR 1) YK.1 YK.2) rfl;exact aJ rfl
theorem pi6:GM Nc 6 (piR (6:Int).toNat)=(201/64,101/32):=by decide +kernel
theorem bM  :aL prog 12 [] (.ret [.one (.bool true)]):=by
 refine bU (args:=[]) (ins:=[]) (hints:=(fun _=>none)) fo (by kernel_rfl) func12 trivial ?_;rw [Su];dsimp only [List.map,In.env,aG,aH];apply aA (dU 1) rfl;apply aA az7 rfl;apply aA (aA7 9 4) rfl;apply aA aw3 rfl;dsimp only [aG,aH];apply aA (dU 1) rfl;apply aA aM7 rfl;apply aA (dU 3) rfl;apply aA Oh rfl;dsimp only [aG,aH];apply vn aE rfl;refine vs _ rfl ?_ ?_<;>intro h9
 ·apply vn aE rfl;refine vs _ rfl ?_ ?_<;>intro h11
  ·apply vn aE rfl;refine vs _ rfl ?_ ?_<;>intro h13
   ·apply vn aE rfl;dsimp only [aG,aH];refine vs _ rfl ?_ ?_<;>intro h15
    ·apply aA (KB (43/16) (11/4) (by decide +kernel) (by decide +kernel)) rfl;rw [show Yn (43/16) (11/4) = [91,52,51,47,49,54,32,49,49,47,52,93] by decide +kernel];apply vn (rS (b:=[91,52,51,47,49,54,32,49,49,47,52,93])) rfl;refine vs _ rfl ?_ ?_<;>intro h18
     ·apply aA (KB (3/2) (3/2) (by decide +kernel) (by decide +kernel)) rfl;rw [show Yn (3/2) (3/2) = [91,51,47,50,32,51,47,50,93] by decide +kernel];apply vn (rS (b:=[91,51,47,50,32,51,47,50,93])) rfl;dsimp only [aG,aH];refine vs _ rfl ?_ ?_<;>intro h21
      ·apply vn (rS (b:=[48,46,55,56,53,51,57,56,49,54,51,52])) rfl;refine vs _ rfl ?_ ?_<;>intro h23
       ·apply vn aE rfl;refine vs _ rfl ?_ ?_<;>intro h25
        ·have hp:=aD6 6;rw [pi6] at hp;apply aA hp rfl;apply aA (KB (201/64) (101/32) (by decide +kernel) (by decide +kernel)) rfl;rw [show Yn (201/64) (101/32) = [91,50,48,49,47,54,52,32,49,48,49,47,51,50,93] by decide +kernel];dsimp only [aG,aH];apply vn (rS (b:=[91,50,48,49,47,54,52,32,49,48,49,47,51,50,93])) rfl;exact aJ rfl
        exact (h25 (by decide)).elim
       exact (h23 (by decide)).elim
      exact (h21 (by decide)).elim
     exact (h18 (by decide)).elim
    exact (h15 (by decide)).elim
   exact (h13 (by decide)).elim
  exact (h11 (by decide)).elim
 exact (h9 (by decide)).elim
open Go Go.Proofs Go.RowKit Go.ChangeShapes Go.WideShapes Tryz
theorem aQ9 {M:Nat→Prop} {w:World} {c:aN} {vs:List Value} (h:bX M w [.one c] vs):∃ v,pack vs=v∧c.rep M w v:=by
 match vs,h with
 | [v],h=>exact ⟨v,rfl,h.1⟩
 | [],h=>exact h.elim
 | _::_::_,h=>exact h.2.elim
section
variable {H:Type} {enc:TypeId×Value→H} {P:Program}
def Wd (P:Program) (t:TypeId) (d:DataW H):Prop:=∀ n∈DataW.weights P t d,n≤reachBytes
theorem JQ:∀ {ts:List TypeId} {ds:List (DataW H)} {j:Nat} {t:TypeId} {d:DataW H},ts[j]? = some t→ds[j]? = some d→∀ n∈DataW.weights P t d,n∈DataW.weightsEach P ts ds:=fun h1 h2=>DataW.weights_mem_each h1 h2
theorem Wd.field {t:TypeId} {fs:Array Field} {parts:List (DataW H)} (ht:P.underlying t=some (.struct fs)) (h:Wd P t (.agg parts)) {j:Nat} {f:Field} {d:DataW H} (hf:fs[j]? = some f) (hd:parts[j]? = some d):Wd P f.type d:=fun n hn=>by
 refine h n ?_;rw [DataW.weights,ht];exact JQ (ts:=fs.toList.map (·.type)) (by rw [eV,Array.getElem?_toList,hf];rfl) hd n hn
theorem Wd.len {t e:TypeId} {es sp:List (DataW H)} (ht:P.underlying t=some (.slice e)) (h:Wd P t (.slice es sp)) (hb:0<P.bytesOf e):es.length≤reachBytes:=by
 have:=h ((es.length+sp.length)*P.bytesOf e) (by rw [DataW.weights,ht];exact List.mem_cons_self);have h2:(es.length+sp.length)*1≤(es.length+sp.length)*P.bytesOf e:=Nat.mul_le_mul_left _ hb;omega
abbrev noM:Nat→Prop:=fun _=>False
end
section
variable {H:Type} {enc:TypeId×Value→H}
theorem Xm:prog.cellsOf 23=3:=by kernel_rfl
theorem aa2:prog.cellsOf 5=1:=by kernel_rfl
theorem UH:prog.cellsOf 2=1:=by kernel_rfl
set_option maxRecDepth 100000 in
theorem SM {w:World} {n:Nat} {cs:List Value} {x:DataW H×List MemPlace} (h:DataW.trod enc prog w 0 (fun _=>true) true n 23 cs=some x):∃ u:jY,u.In∧cs = [.int .i64 u.n, .int .i64 u.d, .int .u8 u.pow]:=by
 obtain ⟨y0,y1,y2,m,rfl,hl,h0,h1,h2⟩:=Deep.trod_struct3 underlying23 h;rw [Xm] at hl
 match cs,hl with
 | [v0,v1,v2],_=>
   rw [show prog.cellsOf _=1 from UH] at h0;rw [show prog.cellsOf _=1 from UH] at h1;rw [show prog.cellsOf _=1 from aa2] at h2;obtain ⟨z0,e0,_,f0⟩:=DataW.trod_int underlying2 h0;obtain ⟨z1,e1,_,f1⟩:=DataW.trod_int underlying2 h1;obtain ⟨z2,e2,_,f2⟩:=DataW.trod_int underlying5 h2;have e0':[v0] = [Value.int .i64 z0]:=e0;have e1':[v1] = [Value.int .i64 z1]:=e1;have e2':[v2] = [Value.int .u8 z2]:=e2;cases e0';cases e1';cases e2';have b0:=bounds_i64 f0;have b1:=bounds_i64 f1;have b2:=bounds_u8 f2;refine ⟨⟨z0,z1,z2.toNat⟩,⟨b0.1,by dsimp only;omega,b1.1,by dsimp only;omega,by dsimp only;omega⟩,?_⟩;rw [show ((z2.toNat:Nat):Int)=z2 by omega]
theorem QZ {w:World} {n:Nat} {cs:List Value} {x:DataW H×List MemPlace} (h:DataW.trod enc prog w 0 (fun _=>true) true n 23 cs=some x):∃ u:jY,u.In∧aP noM w (nC u) cs:=by
 obtain ⟨u,hu,rfl⟩:=SM h;exact ⟨u,hu,⟨rfl,rfl⟩,⟨rfl,rfl⟩,⟨rfl,rfl⟩,trivial⟩
end
section
variable {H:Type} {enc:TypeId×Value→H} {P:Program}
theorem oZ (hl:laidOutB P=true) {W W':World} {sp':Nat→Bool}:∀ {ts:List TypeId} {vs:List Value} {ds:List (DataW H)} {ps:List MemPlace},(∀ t∈ts,P.readableRec t=true∧t<P.types.size) →
  DataW.TrodAll enc P W 0 (fun _=>true) true ts vs ds ps→(∀ p∈ps,W.sameAt W' p)→(∀ p∈ps,sp' p.block=true)→DataW.TrodAll enc P W' 0 sp' true ts vs ds ps
 | [],[],[],_,_,h,_,_=>h
 | t::ts,v::vs,d::ds,_,hr,h,h1,h2=>by
   obtain ⟨p,q,k1,k2,rfl⟩:=h;refine ⟨p,q,WideElems.Trod_stays hl (hr t (by simp)).1 (hr t (by simp)).2 k1 (fun x hx=>h1 x (by simp [hx])) (fun x hx=>h2 x (by simp [hx])),oZ hl (fun t ht=>hr t (List.mem_cons_of_mem _ ht)) k2 (fun x hx=>h1 x (by simp [hx])) (fun x hx=>h2 x (by simp [hx])),rfl⟩
 | [],_::_,_,_,_,h,_,_=>h.elim
 | [],[],_::_,_,_,h,_,_=>h.elim
 | _::_,[],_,_,_,h,_,_=>h.elim
 | _::_,_::_,[],_,_,h,_,_=>h.elim
theorem NR {f:Func} {s:ChangeSpec} {apart fresh handsOn again:Bool} {W W':World} {args:Array Value} {ds gs:List (DataW H)} {before:List MemPlace} {T:TypeId}
  (hl:laidOutB P=true) (hts:∀ t∈f.params.toList,P.readableRec t=true∧t<P.types.size) (hvars:s.vars = [])
  (hW:DataW.Whole enc P f.params.toList s.vars apart W args.toList ds gs before) (hres:(s.fn H (ds++gs)).results = [.lit (.bool true)]) (hargs:(s.fn H (ds++gs)).args=ds) (hvs:(s.fn H (ds++gs)).vars = [])
  (hb:Below W.heap.size W W') (hrt:f.resultTypes = #[T]) (hT:P.underlying T=some .bool) :
  s.post enc P f apart fresh handsOn again W args (.bool true) W':=by
 have hlt:∀ p∈before,p.block<W.heap.size:=fun p hp=>hW.lt p hp;have hsame:∀ p∈before,W.sameAt W' p:=fun p hp=>hb.same (hlt p hp);obtain ⟨p,q,hA,hV,hps,hz,hn⟩:=hW;have hW:DataW.Whole enc P f.params.toList s.vars apart W args.toList ds gs before:=⟨p,q,hA,hV,hps,hz,hn⟩
 rw [hvars] at hV;obtain ⟨rfl,rfl⟩:=trodVars_none hV;rw [List.append_nil] at hps;subst hps;have ha:∀ sp:Nat→Bool,(∀ p∈before,sp p.block=true)→DataW.TrodAll enc P W' 0 sp true f.params.toList args.toList ds before:=fun sp h=>oZ hl hts hA hsame h
 have hr:∀ (b:Nat) (sp:Nat→Bool) (hd:Bool),DataW.TrodAll enc P W' b sp hd f.resultTypes.toList ((Value.bool true).resultList f.resultTypes.size) [.lit (.bool true)] []:=fun b sp hd=>by
  rw [hrt];exact trodAll_mk1 (shut_bool hT true)
 have hold:∀ p∈before,(fun b=>decide (b<W.heap.size)) p.block=true:=fun p hp=>by simpa using hlt p hp
 refine ⟨ds,[],before,[],before,[],hW,?_,?_,?_,hb.frame _,fun _=>⟨?_,_,[],before,⟨[]++before,[],trodAll_append (ha (fun _=>true) (fun _ _=>rfl)) (hr 0 (fun _=>true) true),?_,by simp,?_,?_⟩,fun p hp _=>hp⟩⟩
 ·rw [hres];exact hr _ _ _
 ·rw [hargs];exact ha _ hold
 ·rw [hvars,hvs];rfl
 ·exact ok_one hrt rfl (okWide_bool_mk hT true)
 ·rw [hvars];exact (rfl:DataW.TrodVars enc P W' (fun _=>true) [] [] [])
 ·intro b off hp;rw [hb.frozen (p:=⟨b,off,none⟩) (hlt _ hp)];exact hz b off hp
 ·exact hn
end
theorem JR {W:World} {l:List (String×DataW Unit)} (hl:l.filter (fun x=>x.1 == "internal/strconv.uint64pow10") = [("internal/strconv.uint64pow10",Lib.tabData .u64 Lib.pow10Tab)]) (h:laidMetH prog l W):Good noM W:=by
 have h1:=h.filter (fun x=>x.1 == "internal/strconv.uint64pow10");rw [hl] at h1;have h2:laidMet prog [("internal/strconv.uint64pow10",Lib.tabData .u64 Lib.pow10Tab)] W:=h1;intro x hx;have hx:x=(0,BW):=by simpa [VN.tab] using hx
 subst hx;have hg:prog.globalNamed "internal/strconv.uint64pow10" = some 0:=by kernel_rfl
 have ht:=Lib.tabIs_of_head (rest:=[]) hg (by kernel_rfl:(prog.globals[0]?).map (·.type)=some 222) underlying222 underlying153 (by kernel_rfl) (by kernel_rfl) h2;unfold Lib.TabIs World.var? at ht;rw [hg] at ht;dsimp only [Option.bind_some] at ht;refine ⟨fun h=>h,?_⟩;split at ht
 ·rename_i cs T fz he;cases ht;exact ⟨T,fz,he⟩
 ·cases ht
end Go.Sy
