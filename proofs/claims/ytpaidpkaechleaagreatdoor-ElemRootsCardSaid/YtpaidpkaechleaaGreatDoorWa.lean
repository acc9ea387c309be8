/- Part. -/
import Derived.Test.YtpaidpkaechleaaGreatDoorPb
set_option linter.all false
namespace Go.Sy
open Go Go.Proofs Tryz Ord
def JH:Tr:=.ret [(.agg [(U 2 0),(U 2 1),(U 2 2),(U 3 0),(U 3 1),(U 3 2)])]
def XV:Tr:=aC 100 [(G3 0),(G3 1)] [(some 3)] [6,8] [30,30] 30 false (aC 100 [(.agg [(U 0 3),(U 0 4),(U 0 5)]),(.agg [(U 1 3),(U 1 4),(U 1 5)])] [(some 3)] [11,13] [30,30] 30 true JH)
theorem QC:aI prog f156 (fun _=>none) [.v (some 6), .v (some 6)]=XV:=by kernel_rfl
abbrev eV (a b:Rat):List aL:=qC a++qC b
abbrev kK (a b:Rat):aD:=.agg (eV a b)
abbrev Zk (a b:RQ):List aL:=rC a++rC b
abbrev fI (a b:RQ):aD:=.agg (Zk a b)
theorem Fv (a b c d:Rat) (A B:Nat) (ha:Fit A a) (hb:Fit A b) (hc:Fit B c) (hd:Fit B d) (h:A+B≤34359738368:=by omega):aJ prog 156 [(kK a b:aD),(kK c d:aD)] (.ret [kK (a+c) (b+d)]):=by
 refine bO func156 QC ?_;apply aA (kD a c A B ha hc h) rfl;apply aA (kD b d A B hb hd h) rfl;exact aE rfl
open Go Go.Proofs Tryz Ord
def Vi:Tr:=.need (.call 122 [(.one (.c (.k (.int .u64 2))))] [(some 1)]) (.call ⟨.value (.func 122),#[(.const (.int .u64 2))],#[153]⟩) 26 false (.need (.call 119 [(W 0 0),(WK 256)] [none]) (.call ⟨.value (.func 119),#[(tT 4),(.const (I3 256))],#[3,3]⟩) 3 true (aC 120 [(G1 1),(W 2 0)] [(some 1)] [3,5] [26,3] 26 true (.ret [(G1 3)])))
theorem Xl:aI prog f147 (fun _=>none) [.v none]=Vi:=by kernel_rfl
def LG:Tr:=.ret [(G3 3)]
def Xs:Tr:=.need (.call 86 [(WK 1)] [(some 2)]) (.call ⟨.value (.func 86),#[(.const (I3 1))],#[2]⟩) 28 false (aC 147 [(W 0 0)] [(some 1)] [4] [3] 26 true (aC 96 [(G2 1),(G1 2)] [(some 3)] [3,5] [28,26] 30 true LG))
theorem QG:aI prog f101 (fun _=>none) [.v none]=Xs:=by kernel_rfl
def PS:Tr:=.ret [(G3 4)]
def Yq:Tr:=aC 147 [(W 1 0)] [(some 1)] [6] [3] 26 false (aC 85 [(.agg [(U 2 0),(tE (.bool false))])] [(some 3)] [8] [28] 30 true (aC 32 [(G3 0),(G3 3)] [(some 3)] [5,9] [30,30] 30 true PS))
theorem KB:aI prog f185 (fun _=>none) [.v (some 3), .v none]=Yq:=by kernel_rfl
def YI:Tr:=aC 91 [(G3 0)] [(some 1)] [5] [30] 26 false (aC 145 [(G2 0),(G1 1)] [(some 2)] [4,6] [28,26] 28 true (aC 85 [(G2 2)] [(some 3)] [7] [28] 30 true LG))
theorem Jq:aI prog f99 (fun _=>none) [.v (some 3)]=YI:=by kernel_rfl
def VG:Tr:=aC 36 [(G3 0)] [(some 3)] [3] [30] 30 false (aC 99 [(G3 1)] [(some 3)] [4] [30] 30 true (aC 36 [(G3 2)] [(some 3)] [5] [30] 30 true LG))
theorem NG:aI prog f154 (fun _=>none) [.v (some 3)]=VG:=by kernel_rfl
def PB:Tr:=aC 101 [(W 1 0)] [(some 3)] [9] [3] 30 true (aC 32 [(G3 3),(G3 4)] [(some 3)] [8,10] [30,30] 30 true (.ret [(G3 5)]))
def Xd:Tr:=aC 185 [(G3 0),(W 1 0)] [(some 3)] [5,6] [30,3] 30 false (aC 99 [(G3 2)] [(some 3)] [7] [30] 30 false PB)
theorem Nl:aI prog f148 (fun _=>none) [.v (some 3), .v none]=Xd:=by kernel_rfl
def Wl:Tr:=aC 185 [(G3 0),(W 1 0)] [(some 3)] [5,6] [30,3] 30 false (aC 154 [(G3 2)] [(some 3)] [7] [30] 30 false PB)
theorem Wx:aI prog f149 (fun _=>none) [.v (some 3), .v none]=Wl:=by kernel_rfl
def Ws:Tr:=aC 148 [(G3 0),(W 1 0)] [(some 3)] [6,7] [30,3] 30 false (aC 149 [(.agg [(U 0 3),(U 0 4),(U 0 5)]),(W 1 0)] [(some 3)] [10,11] [30,3] 30 true JH)
theorem Rq:aI prog f103 (fun _=>none) [.v (some 6), .v none]=Ws:=by kernel_rfl
def hP (q:Rat):Int:=q.num/(q.den:Int)
def bR (k:Nat):Rat:=(((2^k:Nat):Int):Rat)
def cE (q:Rat) (k:Nat):Rat:=(hP (q*bR k):Rat)*mkRat 1 (2^k)
def tP (q:Rat) (k:Nat):Rat:=(((-hP (-(q*bR k)):Int)):Rat)*mkRat 1 (2^k)
theorem fS {q:Rat} {H:Nat} (h:Fit H q) (h1:1≤H:=by omega):Fit H (hP q:Rat):=Fit.int h1 (Nat.lt_of_le_of_lt (Int.natAbs_ediv_le_natAbs _ _) h.1)
set_option exponentiation.threshold 600 in
theorem jC {k:Nat} (h:k≤256:=by omega):Fit 257 (bR k):=Fit.int (by omega) (by rw [Int.natAbs_natCast];exact Nat.pow_lt_pow_right (by omega) (by omega))
set_option exponentiation.threshold 600 in
theorem nP {k:Nat} (h:k≤256):Fit 257 (mkRat 1 (2^k)):=Fit.mkRat (Nat.one_lt_two_pow (by omega)) (Nat.pow_lt_pow_right (by omega) (by omega)) (Nat.pos_iff_ne_zero.1 (Nat.pow_pos (by omega)))
theorem LX (k:Int) (hk:k≤256):aJ prog 147 [(.one (.int .i64 k):aD)] (.ret [mT (2^k.toNat)]):=by
 refine bO func147 Xl ?_;apply aA (eT 2) rfl;apply aA (vZ k 256) rfl;rw [show max (0:Int) (min (k:Int) 256)=(k.toNat:Int) by omega];apply aA (nU 2 k.toNat 2) rfl;exact aE rfl
theorem gJ (k:Int) (hk:k≤256:=by omega):aJ prog 101 [(.one (.int .i64 k):aD)] (.ret [qT (mkRat 1 (2^k.toNat))]):=by
 refine bO func101 QG ?_;apply aA (FO 1) rfl;apply aA (LX k hk) rfl
 apply aA (uU 1 (2^k.toNat) (Nat.pow_pos (by omega)) (by
  obtain ⟨H,hH⟩:∃ H,H=257:=⟨_,rfl⟩
  have h1:(dg (2^k.toNat)).length≤H:=eF (Nat.pow_lt_pow_right (by omega) (by omega));have h2:(dg (1:Int).natAbs).length=1:=by rw [show (1:Int).natAbs=1 from rfl,kG];rfl
  omega)) rfl
 exact aE rfl
theorem Cv (q:Rat) (k:Int) (H:Nat) (hk:k≤256) (hq:Fit H q) (hH:H≤8589934592:=by omega):aJ prog 185 [(qT q:aD),(.one (.int .i64 k):aD)] (.ret [qT (q*bR k.toNat)]):=by
 refine bO func185 KB ?_;apply aA (LX k hk) rfl;dsimp only [aG,aH];have hz:decide (((2^k.toNat:Nat):Int)<0)=false:=decide_eq_false (Int.not_lt.2 (Int.natCast_nonneg _));have hw:=nV ((2^k.toNat:Nat):Int);rw [show iT ((2^k.toNat:Nat):Int) = .agg [dT (2^k.toNat), .exact (.bool false)] from by rw [show iT ((2^k.toNat:Nat):Int) = .agg [dT (2^k.toNat), .bool (decide (((2^k.toNat:Nat):Int)<0))] from rfl,hz]] at hw;apply aA hw rfl;apply aA (dH q (bR k.toNat) H 257 hq (jC)) rfl;exact aE rfl
theorem fP (q:Rat) (H:Nat) (hq:Fit H q) (hH:H≤8589934592:=by omega):aJ prog 99 [(qT q:aD)] (.ret [qT (hP q:Rat)]):=by
 refine bO func99 Jq ?_;have h1:=pI hq.1;have h2:=pI hq.2;apply aA (cG q) rfl;apply aA (KI q.num q.den q.den_pos) rfl;apply aA (nV (q.num/(q.den:Int))) rfl;exact aE rfl
theorem FW (q:Rat) (H:Nat) (hq:Fit H q) (hH:H≤8589934592:=by omega):aJ prog 154 [(qT q:aD)] (.ret [qT (((-hP (-q):Int)):Rat)]):=by
 refine bO func154 NG ?_;apply aA (nA q) rfl;apply aA (fP (-q) H hq.neg hH) rfl;apply aA (nA _) rfl;rw [show -((hP (-q):Int):Rat)=((-hP (-q):Int):Rat) by rw [Rat.intCast_neg]];exact aE rfl
theorem GV (q:Rat) (k:Int) (H:Nat) (hk:k≤256) (hq:Fit H q) (h1:1≤H) (hH:H≤8000000000):aJ prog 148 [(qT q:aD),(.one (.int .i64 k):aD)] (.ret [qT (cE q k.toNat)]):=by
 refine bO func148 Nl ?_;apply aA (Cv q k H hk hq) rfl;apply aA (fP (q*bR k.toNat) (H+257) (hq.mul (jC))) rfl;apply aA (gJ k hk) rfl;apply aA (dH _ _ (H+257) 257 (fS (hq.mul (jC))) (nP (by omega))) rfl;exact aE rfl
theorem PJ (q:Rat) (k:Int) (H:Nat) (hk:k≤256) (hq:Fit H q) (h1:1≤H) (hH:H≤8000000000):aJ prog 149 [(qT q:aD),(.one (.int .i64 k):aD)] (.ret [qT (tP q k.toNat)]):=by
 refine bO func149 Wx ?_;apply aA (Cv q k H hk hq) rfl;apply aA (FW (q*bR k.toNat) (H+257) (hq.mul (jC))) rfl;apply aA (gJ k hk) rfl;apply aA (dH _ _ (H+257) 257 (by rw [Rat.intCast_neg];exact (fS (hq.mul (jC)).neg).neg) (nP (by omega))) rfl;exact aE rfl
theorem IP (a b:Rat) (k:Int) (H:Nat) (hk:k≤256) (ha:Fit H a) (hb:Fit H b) (h1:1≤H:=by omega) (hH:H≤8000000000:=by omega):aJ prog 103 [(kK a b:aD),(.one (.int .i64 k):aD)] (.ret [kK (cE a k.toNat) (tP b k.toNat)]):=by
 refine bO func103 Rq ?_;apply aA (GV a k H hk ha h1 hH) rfl;apply aA (PJ b k H hk hb h1 hH) rfl;exact aE rfl
open Go Go.Proofs Tryz Ord
def PL:Tr:=.ret [(W 1 0)]
def Ys:Tr:=aN .lss 3 5 0 0 0 4 (.split (.u 2 0) (.ret [(WK 0)]) (cC .gtr 3 7 8 0 0 1 0 4 (.split (.u 3 0) PL (.ret [(W 0 0)]))))
theorem NW:aI prog f110 (fun _=>none) [.v none, .v none]=Ys:=by kernel_rfl
def VE:Tr:=.need (.call 59 [(WK 1)] [(some 2)]) (.call ⟨.value (.func 59),#[(.const (I3 1))],#[2]⟩) 33 true (.loop 0 [lK 0,lV 2 0,lV 2 1] (cC .lss 3 8 9 3 0 1 0 4 (.split (.u 6 0) (aC 54 [(.agg [(U 4 0),(U 5 0)]),(G2 0)] [(some 2)] [13,14] [33,33] 33 true (aN .add 3 11 1 3 0 3 (.back 0 [lV 8 0,lV 7 0,lV 7 1]))) (.ret [(.agg [(U 4 0),(U 5 0)])]))))
theorem HH:aI prog f56 (fun _=>none) [.v (some 2), .v none]=VE:=by kernel_rfl
def YA:Tr:=.need (.call 59 [(WK 1)] [(some 2)]) (.call ⟨.value (.func 59),#[(.const (I3 1))],#[2]⟩) 33 false (.need (.call 59 [(WK 2)] [(some 2)]) (.call ⟨.value (.func 59),#[(.const (I3 2))],#[2]⟩) 33 false (.need (.call 110 [(W 0 0),(WK 256)] [none]) (.call ⟨.value (.func 110),#[(tT 5),(.const (I3 256))],#[3,3]⟩) 3 false (aC 56 [(G2 2),(W 3 0)] [(some 2)] [4,6] [33,3] 33 true (aC 95 [(G2 1),(G2 4)] [(some 4)] [3,7] [33,33] 35 true (.ret [(G4 5)])))))
theorem Nz:aI prog f53 (fun _=>none) [.v none]=YA:=by kernel_rfl
def XM:Tr:=.need (.call 110 [(W 1 0),(WK 256)] [none]) (.call ⟨.value (.func 110),#[(tT 9),(.const (I3 256))],#[3,3]⟩) 3 true (aC 56 [(G2 2),(W 3 0)] [(some 2)] [8,10] [33,3] 33 true (aC 54 [(G2 0),(G2 4)] [(some 2)] [14,15] [33,33] 33 false (aC 50 [(G4 0)] [(some 2)] [17] [35] 33 false (aC 58 [(G2 5),(G2 6)] [(some 2),(some 2)] [16,18] [33,33] 106 false (aC 95 [(G2 7),(G2 4)] [(some 4)] [22,23] [33,33] 35 true (.ret [(G4 9)]))))))
def Wh:Tr:=.need (.call 59 [(WK 2)] [(some 2)]) (.call ⟨.value (.func 59),#[(.const (I3 2))],#[2]⟩) 33 false XM
theorem ML:aI prog f46 (fun _=>none) [.v (some 4), .v none]=Wh:=by kernel_rfl
def Vz:Tr:=aC 52 [(G4 0)] [(some 4)] [5] [35] 35 false (aC 46 [(G4 2),(W 1 0)] [(some 4)] [6,7] [35,3] 35 true (aC 52 [(G4 3)] [(some 4)] [8] [35] 35 true (.ret [(G4 4)])))
theorem UZ:aI prog f47 (fun _=>none) [.v (some 4), .v none]=Vz:=by kernel_rfl
theorem Mb (n:Int) {d:Nat} (hd:d≠0:=by omega):hP (mkRat n d)=n/(d:Int):=by
 unfold hP;generalize hq:mkRat n d=q;obtain ⟨m,hm,h1,h2⟩:=Rat.mkRat_num_den hd (n':=q.num) (d':=q.den) (z':=q.den_nz) (c:=q.reduced) (by rw [hq]);rw [h1,h2,Int.natCast_mul,Int.mul_ediv_mul_of_pos_left _ _ (by omega)]
theorem GC (q:Rat) (k:Nat):hP (q*bR k)=q.num*((2^k:Nat):Int)/(q.den:Int):=by
 rw [bR,Rat.mul_def',Rat.num_intCast,Rat.den_intCast,Nat.mul_one,Mb _ q.den_nz]
theorem Gc (k:Int) (m:Int) (hm:0≤m:=by omega):aJ prog 110 [(.one (.int .i64 k):aD),(.one (.int .i64 m):aD)] (.ret [.one (.int .i64 (max 0 (min k m)))]):=by
 refine bO func110 NW ?_;apply vn bA rfl;refine vs _ rfl ?_ ?_<;>intro h1
 ·rw [show max 0 (min k m)=0 by omega];exact aE rfl
 apply vn bC rfl;refine vs _ rfl ?_ ?_<;>intro h4
 ·rw [show max 0 (min k m)=m by omega];exact aE rfl
 rw [show max 0 (min k m)=k by omega];exact aE rfl
theorem iU (x:Int) (n L:Nat) (hL:∀ j,j≤n→(bd (x^j).natAbs).length≤L) (hx:(bd x.natAbs).length≤L) (hn:n≤256:=by omega) (h:L≤137438953471:=by omega):aJ prog 56 [(zT x:aD),(.one (.int .i64 n):aD)] (.ret [zT (x^n)]):=by
 refine bO func56 HH ?_;have h1:aJ prog 59 [.one (.int .i64 1)] (.ret [zT (x^0)]):=by rw [Int.pow_zero];exact dI 1
 apply aA h1 rfl;refine bE {j:Nat // j≤n} (fun g=>(.one (.int .i64 g.1):aD)::(zC (x^g.1)).map .one) (fun g=>n-g.1) ⟨0,fK _⟩ aM.rfl (fun _=>rfl) ?_;rintro ⟨j,hj⟩;dsimp only [aG,aH,List.map] at hj ⊢;apply vn bA rfl;refine vs _ rfl ?_ ?_<;>intro h3
 ·have hlj:=hL j hj;apply aA (eG (x^j) x) rfl;rw [←Int.pow_succ];apply vn (aF) rfl;dsimp only [aG,aH];exact aZ rfl ⟨⟨j+1,by omega⟩,aM.rfl,by show n-(j+1)<n-j;omega⟩
 rw [show n=j by omega];exact aE rfl
theorem Kj {k B:Nat} (h:k<B:=by omega):2^k<2^B:=Nat.pow_lt_pow_right (by omega) h
set_option exponentiation.threshold 600 in
theorem lP {j:Nat} (h:j≤256:=by omega):(bd ((2:Int)^j).natAbs).length≤257:=cN (by
 rw [Int.natAbs_pow];exact Kj)
theorem rJ (k:Nat):(2:Int)^k=((2^k:Nat):Int):=by rw [Int.natCast_pow];rfl
theorem Ol (k:Int) (hk:k≤256):aJ prog 53 [(.one (.int .i64 k):aD)] (.ret [jO (.of (mkRat 1 (2^k.toNat)))]):=by
 refine bO func53 Nz ?_;apply aA (dI 1) rfl;apply aA (dI 2) rfl;apply aA (Gc k 256) rfl;rw [show max 0 (min k 256)=(k.toNat:Int) by omega];dsimp only [aG,aH];have hp:=iU 2 k.toNat 257 (fun j hj=>lP) (lP (j:=1));rw [rJ] at hp;apply aA hp rfl;dsimp only [aG,aH];have hr:=kW 1 ((2^k.toNat:Nat):Int) (by have:=Nat.pow_pos (n:=k.toNat) (show 0<2 by omega);omega) (by have:=lP (j:=k.toNat);rw [rJ] at this;omega) (by have:=lP (j:=0);rw [Int.pow_zero] at this;omega);rw [qY] at hr;apply aA hr rfl;exact aE rfl
theorem uQ (a:RQ) (k:Int) (H:Nat) (hk:k≤256) (ha:Fit H a.q) (hH:H≤1073741824:=by omega):aJ prog 46 [(jO a:aD),(.one (.int .i64 k):aD)] (.ret [jO (.of (cE a.q k.toNat))]):=by
 refine bO func46 ML ?_;apply aA (dI 2) rfl;apply aA (Gc k 256) rfl;rw [show max 0 (min k 256)=(k.toNat:Int) by omega];dsimp only [aG,aH];have h2:=lP (j:=k.toNat);have hp:=iU 2 k.toNat 257 (fun j hj=>lP) (lP (j:=1));rw [rJ] at hp h2;have hpos:0<2^k.toNat:=Nat.pow_pos (by omega);obtain ⟨hn,hdn⟩:=Fit.bd ha;apply aA hp rfl;apply aA (eG a.q.num ((2^k.toNat:Nat):Int)) rfl;apply aA (fG a) rfl;dsimp only [aG,aH]
 have hm:(bd (a.q.num*((2^k.toNat:Nat):Int)).natAbs).length≤H+257:=cN (by
  rw [Int.natAbs_mul,Int.natAbs_natCast];exact aX ha.1 (Kj (B:=257)))
 apply aA (sC (a.q.num*((2^k.toNat:Nat):Int)) a.q.den a.q.den_pos) rfl;rw [←GC];dsimp only [aG,aH];have hf:=fS (ha.mul (jC (k:=k.toNat)));have hfb:(bd (hP (a.q*bR k.toNat)).natAbs).length≤H+257:=cN (by have:=hf.1;rwa [Rat.num_intCast] at this);have hr:=kW (hP (a.q*bR k.toNat)) ((2^k.toNat:Nat):Int);rw [qY,show mkRat (hP (a.q*bR k.toNat)) (2^k.toNat)=cE a.q k.toNat by rw [cE,Rat.mkRat_eq_div,Rat.mkRat_eq_div];grind] at hr;apply aA hr rfl;exact aE rfl
theorem Wn (a:RQ) (k:Int) (H:Nat) (hk:k≤256) (ha:Fit H a.q) (hH:H≤1073741824:=by omega):aJ prog 47 [(jO a:aD),(.one (.int .i64 k):aD)] (.ret [jO (.of (-(cE (-a.q) k.toNat)))]):=by
 refine bO func47 UZ ?_;apply aA (rP a) rfl;apply aA (uQ (.of (-a.q)) k H hk ha.neg hH) rfl;apply aA (rP _) rfl;exact aE rfl
theorem Px (q:Rat) (k:Nat):-(cE (-q) k)=tP q k:=by
 unfold cE tP;rw [Rat.intCast_neg,show -q*bR k = -(q*bR k) by grind]
 grind
open Go Go.Proofs Tryz Ord
def Wf:Tr:=aN .lss 3 3 0 0 0 4 PL
theorem OD:aI prog f164 (fun _=>none) [.v none]=Wf:=by kernel_rfl
def JA:Tr:=.ret [(G3 1)]
def WA:Tr:=.need (.call 163 [(.one (.eZ 164 [])),(W 0 0)] [(some 3)]) (.call ⟨.value (.func 163),#[(.func 164),(tT 3)],#[189,52]⟩) 30 true JA
theorem Wv:aI prog f125 (fun _=>none) [.v none]=WA:=by kernel_rfl
def Qg:Tr:=.ret [(.agg [(U 1 0),(U 1 1),(U 1 2),(U 2 0),(U 2 1),(U 2 2)])]
def WC:Tr:=aC 125 [(W 0 0)] [(some 3)] [3] [52] 30 false (aC 126 [(W 0 0)] [(some 3)] [5] [52] 30 true Qg)
theorem HX:aI prog f155 (fun _=>none) [.v none]=WC:=by kernel_rfl
def Yi:Tr:=.need (.callv (.u 0 0) [(.agg [(U 1 0),(U 1 1),(U 1 2)]),(.agg [(U 2 0),(U 2 1),(U 2 2)])] [(some 3)]) (.call ⟨.value (tT 7),#[(tT 9),(tT 11)],#[30,30]⟩) 30 false (.need (.callv (.u 0 0) [(.agg [(U 1 0),(U 1 1),(U 1 2)]),(.agg [(U 2 3),(U 2 4),(U 2 5)])] [(some 3)]) (.call ⟨.value (tT 13),#[(tT 15),(tT 17)],#[30,30]⟩) 30 false (.need (.callv (.u 0 0) [(.agg [(U 1 3),(U 1 4),(U 1 5)]),(.agg [(U 2 0),(U 2 1),(U 2 2)])] [(some 3)]) (.call ⟨.value (tT 19),#[(tT 21),(tT 23)],#[30,30]⟩) 30 false (.need (.callv (.u 0 0) [(.agg [(U 1 3),(U 1 4),(U 1 5)]),(.agg [(U 2 3),(U 2 4),(U 2 5)])] [(some 3)]) (.call ⟨.value (tT 25),#[(tT 27),(tT 29)],#[30,30]⟩) 30 true (.need (.lit 3 [[(.u 3 0),(.u 3 1),(.u 3 2)],[(.u 4 0),(.u 4 1),(.u 4 2)],[(.u 5 0),(.u 5 1),(.u 5 2)],[(.u 6 0),(.u 6 1),(.u 6 2)]]) (.buildSlice 52 4 #[(0,(tT 12)),(1,(tT 18)),(2,(tT 24)),(3,(tT 30))]) 52 false (aC 155 [(.one (.c (.sr 3 7)))] [(some 6)] [31] [52] 39 true (.ret [(G6 8)]))))))
theorem RC:aI prog f202 (fun _=>none) [.v none, .v (some 6), .v (some 6)]=Yi:=by kernel_rfl
def UO:Tr:=.need (.call 202 [(.one (.eZ 32 [])),(G6 0),(G6 1)] [(some 6)]) (.call ⟨.value (.func 202),#[(.func 32),(tT 5),(tT 6)],#[115,39,39]⟩) 39 true (.ret [(G6 2)])
theorem Rk:aI prog f186 (fun _=>none) [.v (some 6), .v (some 6)]=UO:=by kernel_rfl
def VM:Tr:=aC 72 [(.agg [(U 0 3),(U 0 4),(U 0 5)]),(G3 0)] [(some 3)] [4,6] [30,30] 30 true JA
theorem Lv:aI prog f104 (fun _=>none) [.v (some 6)]=VM:=by kernel_rfl
def Yj:Tr:=.ret [(.agg [(U 0 0),(U 0 1),(U 0 2),(U 0 3),(U 0 0),(U 0 1),(U 0 2),(U 0 3)])]
theorem Wa:aI prog f64 (fun _=>none) [.v (some 4)]=Yj:=by kernel_rfl
def XG:Tr:=aC 48 [(G2 1)] [none] [5] [33] 9 false (eU 2 0 6 9 (aC 50 [(G4 0)] [(some 2)] [8] [35] 33 false (aC 48 [(G2 4)] [none] [9] [33] 9 false (eU 5 0 10 9 (cC .add 3 7 11 3 0 6 0 3 (.ret [(W 7 0)]))))))
def VZ:Tr:=aC 49 [(G2 0)] [(some 2)] [4] [33] 33 false XG
theorem Rh:aI prog f13 (fun _=>none) [.v (some 4)]=VZ:=by kernel_rfl
def oE (l:List Rat):Nat→Rat
 | 0=>0
 | i+1=>if i=0∨l.getD i 0<oE l i then l.getD i 0 else oE l i
theorem DA {l:List Rat}:∀ i,i≤l.length→oE l i=0∨oE l i∈l
 | 0,_=>.inl rfl
 | i+1,h=>by
   rw [oE];split
   ·exact .inr (EI (nX (show i<l.length by omega)))
   ·exact DA i (by omega)
theorem pP {l:List Rat} {B:Nat} (h:∀ x∈l,Fit B x) (i:Nat) (hi:i≤l.length) (hB:1≤B:=by omega):Fit B (oE l i):=by
 rcases DA i hi with e | e
 ·rw [e];exact Fit.zero hB
 ·exact h _ e
theorem AA {a b:Rat}:fF a b<0↔a<b:=by
 unfold fF;by_cases h1:a<b
 ·rw [if_pos h1];exact ⟨fun h=>h1,fun h=>by omega⟩
 ·rw [if_neg h1];by_cases h2:b<a
  ·rw [if_pos h2];exact ⟨fun _=>by omega,fun h=>absurd h h1⟩
  ·rw [if_neg h2];exact ⟨fun h=>by omega,fun h=>absurd h h1⟩
theorem NV (c:Int):aJ prog 164 [(.one (.int .i64 c):aD)] (.ret [.one (.bool (decide (c<0)))]):=by
 refine bO func164 OD ?_;apply vn bA rfl;exact aE rfl
theorem FA (l:List Rat) (B:Nat) (hl:∀ x∈l,Fit B x) (hB:1≤B) (hB2:B≤8589934592) (hs:l.length<1099511627776):aJ prog 163 [(.one (.eZ 164 []):aD),(.one (sQ l):aD)] (.ret [qT (oE l l.length)]):=by
 refine bO func163 DH ?_;apply vn (bB OS (bF _)) rfl;refine bE {i:Nat // i≤l.length} (fun g=>(.one (.int .i64 g.1):aD)::(qC (oE l g.1)).map .one) (fun g=>l.length-g.1) ⟨0,fK _⟩ ⟨aD.Sub.same,DG⟩ (fun _=>rfl) ?_;rintro ⟨i,hi⟩;dsimp only [aG,aH,List.map] at hi ⊢;apply vn bA rfl;refine vs _ rfl ?_ ?_<;>intro h3
 ·have hil:i<l.length:=by omega
  have hfx:=hl _ (EI (nX hil));have hfm:=pP hl i hi hB;apply vn (dC OS (nX hil) (Int.toNat_natCast i)) rfl;apply vn (xR Vd (by decide) (by simp) (.inl rfl)) rfl;apply vn aO rfl;dsimp only [aG,aH];refine vs _ rfl ?_ ?_<;>intro h7
  ·apply vn (aF) rfl
   exact aZ rfl ⟨⟨i+1,by omega⟩,(by
    dsimp only;rw [oE,if_pos (.inl (by omega))];exact aM.rfl),by show l.length-(i+1)<l.length-i;omega⟩
  apply aA (eH _ _ B B hfx hfm) rfl;apply nB (f:=164) (caps:=[]) rfl (NV (fF (l.getD i 0) (oE l i))) rfl;refine vs _ rfl ?_ ?_<;>intro h12
  ·apply vn (aF) rfl
   exact aZ rfl ⟨⟨i+1,by omega⟩,(by
    dsimp only;rw [oE,if_pos (.inr (AA.1 h12))];exact aM.rfl),by show l.length-(i+1)<l.length-i;omega⟩
  apply vn (aF) rfl
  exact aZ rfl ⟨⟨i+1,by omega⟩,(by
   dsimp only;rw [oE,if_neg (by rintro (h | h);omega;exact h12 (AA.2 h))];exact aM.rfl),by show l.length-(i+1)<l.length-i;omega⟩
 rw [show l.length=i by omega];exact aE rfl
theorem Vk (l:List Rat) (B:Nat) (hl:∀ x∈l,Fit B x) (hB:1≤B) (hB2:B≤8589934592) (hs:l.length<1099511627776):aJ prog 125 [(.one (sQ l):aD)] (.ret [qT (oE l l.length)]):=by
 refine bO func125 Wv ?_;apply aA (FA l B hl hB hB2 hs) rfl;exact aE rfl
theorem zK (l:List Rat) (B:Nat) (hl:∀ x∈l,Fit B x) (hB:1≤B) (hB2:B≤8589934592) (hs:l.length<1099511627776):aJ prog 155 [(.one (sQ l):aD)] (.ret [kK (oE l l.length) (lY l l.length)]):=by
 refine bO func155 HX ?_;apply aA (Vk l B hl hB hB2 hs) rfl;apply aA (Qa l B hl hB hB2 hs) rfl;exact aE rfl
abbrev zU (a b c d:Rat):List Rat:=[a*c,a*d,b*c,b*d]
def GQ (a b c d:Rat):Rat:=oE (zU a b c d) 4
def Gj (a b c d:Rat):Rat:=lY (zU a b c d) 4
theorem rV {a b c d:Rat} {A B:Nat} (ha:Fit A a) (hb:Fit A b) (hc:Fit B c) (hd:Fit B d):∀ x∈zU a b c d,Fit (A+B) x:=fun x hx=>by
 simp only [zU,List.mem_cons,List.not_mem_nil,or_false] at hx;rcases hx with rfl | rfl | rfl | rfl
 ·exact ha.mul hc
 ·exact ha.mul hd
 ·exact hb.mul hc
 ·exact hb.mul hd
theorem BV {a b c d:Rat} {A B:Nat} (ha:Fit A a) (hb:Fit A b) (hc:Fit B c) (hd:Fit B d) (h1:1≤A:=by omega):Fit (A+B) (GQ a b c d)∧Fit (A+B) (Gj a b c d):=
 ⟨pP (rV ha hb hc hd) 4 (by simp),mM (rV ha hb hc hd) 4 (by simp)⟩
theorem QR (a b c d:Rat) (A B:Nat) (h1:1≤A) (ha:Fit A a) (hb:Fit A b) (hc:Fit B c) (hd:Fit B d) (h:A+B≤4294967296):aJ prog 202 [(.one (.eZ 32 []):aD),(kK a b:aD),(kK c d:aD)] (.ret [kK (GQ a b c d) (Gj a b c d)]):=by
 refine bO func202 RC ?_;apply nB (f:=32) (caps:=[]) rfl (dH a c A B ha hc) rfl;apply nB (f:=32) (caps:=[]) rfl (dH a d A B ha hd) rfl;apply nB (f:=32) (caps:=[]) rfl (dH b c A B hb hc) rfl;apply nB (f:=32) (caps:=[]) rfl (dH b d A B hb hd) rfl;dsimp only [aG,aH];apply tQ (us:=rQ (zU a b c d)) rfl;apply aA (zK (zU a b c d) (A+B) (rV ha hb hc hd) (by omega) (by omega) (by simp)) rfl;exact aE rfl
theorem TE (a b c d:Rat) (A B:Nat) (h1:1≤A) (ha:Fit A a) (hb:Fit A b) (hc:Fit B c) (hd:Fit B d) (h:A+B≤4294967296:=by omega):aJ prog 186 [(kK a b:aD),(kK c d:aD)] (.ret [kK (GQ a b c d) (Gj a b c d)]):=by
 refine bO func186 Rk ?_;apply aA (QR a b c d A B h1 ha hb hc hd h) rfl;exact aE rfl
theorem qR (a b:Rat) (A B:Nat) (ha:Fit A a) (hb:Fit B b) (h:B+A≤4294967296:=by omega):aJ prog 104 [(kK a b:aD)] (.ret [qT (b-a)]):=by
 refine bO func104 Lv ?_;apply aA (wM b a B A hb ha) rfl;exact aE rfl
theorem Vg (a:RQ):aJ prog 64 [(jO a:aD)] (.ret [fI a a]):=by
 refine bO func64 Wa ?_;exact aE rfl
open Go Go.Proofs Tryz Ord
def Ux:Tr:=.need (.call 22 [(WK 1)] [(some 3)]) (.call ⟨.value (.func 22),#[(.const (I3 1))],#[2]⟩) 30 true (.ret [(G3 0)])
theorem SN:aI prog f69 (fun _=>none) []=Ux:=by kernel_rfl
def Lx:Tr:=.ret [(G3 2)]
def RW:Tr:=aC 94 [(G3 0),(G3 1)] [(some 3),none] [8,9] [30,30] 55 false Lx
theorem Di:aI prog f66 (fun _=>none) [.v (some 3), .v (some 3)]=RW:=by kernel_rfl
def Ru:Tr:=aC 22 [(W 0 0)] [(some 3)] [5] [2] 30 false (aC 22 [(W 1 0)] [(some 3)] [7] [2] 30 true (aC 66 [(G3 2),(G3 3)] [(some 3)] [6,8] [30,30] 30 true PS))
theorem Vy:aI prog f67 (fun _=>none) [.v none, .v none]=Ru:=by kernel_rfl
def UH:Tr:=aC 120 [(G1 0),(W 2 0)] [(some 1)] [17,18] [26,3] 26 false (aC 102 [(W 4 0),(G1 5)] [(some 2)] [14,19] [4,26] 28 false (aC 91 [(G3 0)] [(some 1)] [21] [30] 26 false (aC 120 [(G1 7),(W 2 0)] [(some 1)] [22,23] [26,3] 26 false (.need (.call 122 [(.one (.c (.k (.int .u64 1))))] [(some 1)]) (.call ⟨.value (.func 122),#[(.const (.int .u64 1))],#[153]⟩) 26 false (aC 121 [(G1 8),(G1 9)] [(some 1)] [24,25] [26,26] 26 true (.ret [(.agg [(U 6 0),(U 6 1),(U 10 0)])]))))))
def NL:Tr:=aC 120 [(G1 0),(W 2 0)] [(some 1)] [17,18] [26,3] 26 false (aC 102 [(tF false),(G1 3)] [(some 2)] [14,19] [4,26] 28 false (aC 91 [(G3 0)] [(some 1)] [21] [30] 26 false (aC 120 [(G1 5),(W 2 0)] [(some 1)] [22,23] [26,3] 26 false (.need (.call 122 [(.one (.c (.k (.int .u64 1))))] [(some 1)]) (.call ⟨.value (.func 122),#[(.const (.int .u64 1))],#[153]⟩) 26 false (aC 121 [(G1 6),(G1 7)] [(some 1)] [24,25] [26,26] 26 true (.ret [(.agg [(U 4 0),(U 4 1),(U 8 0)])]))))))
def Ty:Tr:=.need (.call 119 [(W 1 0),(WK 1000)] [none]) (.call ⟨.value (.func 119),#[(tT 5),(.const (I3 1000))],#[3,3]⟩) 3 true (.split (.u 0 1) (aN .rem 3 11 2 2 0 3 (aN .eql 3 12 1 3 0 4 UH)) NL)
theorem Jf:aI prog f71 (fun _=>none) [.v (some 3), .v none]=Ty:=by kernel_rfl
def RV:Tr:=aC 36 [(.agg [(U 0 3),(U 0 4),(U 0 5)])] [(some 3)] [4] [30] 30 false (aC 36 [(G3 0)] [(some 3)] [7] [30] 30 true Qg)
theorem TQ:aI prog f37 (fun _=>none) [.v (some 6)]=RV:=by kernel_rfl
def Ug:Tr:=aC 37 [(G6 1)] [(some 6)] [6] [39] 39 true (aC 156 [(G6 0),(G6 2)] [(some 6)] [5,7] [39,39] 39 true (.ret [(G6 3)]))
theorem SP:aI prog f109 (fun _=>none) [.v (some 6), .v (some 6)]=Ug:=by kernel_rfl
def Lt:Tr:=.ret [(G6 5)]
def QM:Tr:=aC 17 [(.agg [(U 0 3),(U 0 4),(U 0 5)])] [none] [11] [30] 3 true (aN .leq 3 12 0 3 0 4 (.split (.u 4 0) (aC 37 [(G6 0)] [(some 6)] [14] [39] 39 true Lt) (aC 36 [(G3 0)] [(some 3)] [18] [30] 30 false (.need (.lit 3 [[(.u 5 0),(.u 5 1),(.u 5 2)],[(.u 0 3),(.u 0 4),(.u 0 5)]]) (.buildSlice 52 2 #[(0,(tT 19)),(1,(tT 21))]) 52 false (aC 126 [(.one (.c (.sr 3 6)))] [(some 3)] [22] [52] 30 true (.ret [(.agg [tN,(tE (.bool false)),tN,(U 7 0),(U 7 1),(U 7 2)])]))))))
def Qo:Tr:=aC 17 [(G3 0)] [none] [5] [30] 3 true (aN .geq 3 6 0 1 0 4 (.split (.u 2 0) (.ret [(G6 0)]) QM))
theorem Tv:aI prog f203 (fun _=>none) [.v (some 6)]=Qo:=by kernel_rfl
def Ud:Tr:=aC 85 [(G2 0)] [(some 3)] [4] [28] 30 true JA
theorem QP:aI prog f128 (fun _=>none) [.v (some 3)]=Ud:=by kernel_rfl
def SG:Tr:=aC 91 [(G3 0)] [(some 1)] [3] [30] 26 true (aC 85 [(.agg [(U 1 0),(tE (.bool false))])] [(some 3)] [5] [28] 30 true Lx)
theorem SH:aI prog f129 (fun _=>none) [.v (some 3)]=SG:=by kernel_rfl
def Ti:Tr:=aC 148 [(G3 0),(W 1 0)] [(some 3)] [5,6] [30,3] 30 false (aC 149 [(G3 0),(W 1 0)] [(some 3)] [8,9] [30,3] 30 true JH)
theorem Oh:aI prog f124 (fun _=>none) [.v (some 3), .v none]=Ti:=by kernel_rfl
def QE:Tr:=aC 32 [(G3 0),(G3 1)] [(some 3)] [6,7] [30,30] 30 false (aC 32 [(.agg [(U 0 3),(U 0 4),(U 0 5)]),(G3 1)] [(some 3)] [10,11] [30,30] 30 true (.need (.lit 3 [[(.u 2 0),(.u 2 1),(.u 2 2)],[(.u 3 0),(.u 3 1),(.u 3 2)]]) (.buildSlice 52 2 #[(0,(tT 8)),(1,(tT 12))]) 52 false (aC 155 [(.one (.c (.sr 3 4)))] [(some 6)] [13] [52] 39 true Lt)))
theorem IK:aI prog f108 (fun _=>none) [.v (some 6), .v (some 3)]=QE:=by kernel_rfl
def Sx:Tr:=aC 32 [(G3 1),(G3 0)] [(some 3)] [6,8] [30,30] 30 false (aC 99 [(G3 2)] [(some 3)] [9] [30] 30 false (aC 32 [(G3 3),(.agg [(U 0 3),(U 0 4),(U 0 5)])] [(some 3)] [10,12] [30,30] 30 false (aC 32 [(.agg [(U 1 3),(U 1 4),(U 1 5)]),(G3 0)] [(some 3)] [15,17] [30,30] 30 false (aC 154 [(G3 5)] [(some 3)] [18] [30] 30 false (aC 32 [(G3 6),(.agg [(U 0 3),(U 0 4),(U 0 5)])] [(some 3)] [19,21] [30,30] 30 true (.ret [(.agg [(U 4 0),(U 4 1),(U 4 2),(U 7 0),(U 7 1),(U 7 2)])]))))))
theorem RU:aI prog f107 (fun _=>none) [.v (some 6), .v (some 6)]=Sx:=by kernel_rfl
def Ky:Tr:=aC 107 [(G6 0),(G6 3)] [(some 6)] [7,10] [81,39] 39 true (.ret [(G6 4)])
def Qu:Tr:=aC 186 [(G6 1),(G6 2)] [(some 6)] [8,9] [39,39] 39 true Ky
theorem To:aI prog f150 (fun _=>none) [.v (some 6), .v (some 6), .v (some 6)]=Qu:=by kernel_rfl
def Uj:Tr:=aC 108 [(G6 1),(G3 2)] [(some 6)] [8,9] [39,30] 39 true Ky
theorem Ia:aI prog f153 (fun _=>none) [.v (some 6), .v (some 6), .v (some 3)]=Uj:=by kernel_rfl
def Uq:Tr:=aC 203 [(G6 0)] [(some 6)] [3] [39] 39 true (.ret [(.agg [(U 1 3),(U 1 4),(U 1 5)])])
theorem DI:aI prog f187 (fun _=>none) [.v (some 6)]=Uq:=by kernel_rfl
def Qq:Tr:=aC 36 [(G3 0)] [(some 3)] [3] [30] 30 false (.ret [(.agg [(U 1 0),(U 1 1),(U 1 2),(U 0 0),(U 0 1),(U 0 2)])])
theorem HZ:aI prog f189 (fun _=>none) [.v (some 3)]=Qq:=by kernel_rfl
def Uv:Tr:=cC .lss 3 8 7 2 0 1 0 0 (.split (.u 9 0) (sF 0 0 2 0 201 6 8 (oO 10 0 (some 6) 39 10 (aC 156 [(.agg [(U 3 0),(U 4 0),(U 5 0),(U 6 0),(U 7 0),(U 8 0)]),(G6 11)] [(some 6)] [12,13] [39,39] 39 true (aN .add 3 8 1 2 0 3 (.back 0 [lV 13 0,lV 12 0,lV 12 1,lV 12 2,lV 12 3,lV 12 4,lV 12 5]))))) (.ret [(.agg [(U 3 0),(U 4 0),(U 5 0),(U 6 0),(U 7 0),(U 8 0)])]))
def Su:Tr:=eU 0 0 6 201 (.loop 0 [lK 0,lN,(.w (.one (.c (.k (.bool false))))),lN,lN,(.w (.one (.c (.k (.bool false))))),lN] Uv)
theorem JN:aI prog f188 (fun _=>none) [.v none]=Su:=by kernel_rfl
theorem lH {a b:Rat} {B:Nat} (ha:Fit B a) (hb:Fit B b):∀ x ∈ [a,b],Fit B x:=fun x hx=>by
 simp only [List.mem_cons,List.not_mem_nil,or_false] at hx;rcases hx with rfl | rfl
 ·exact ha
 ·exact hb
def pK (p:Rat×Rat) (u:Rat):Rat×Rat:=(oE [p.1*u,p.2*u] 2,lY [p.1*u,p.2*u] 2)
def gA (a b:Rat):Rat:=if b=0 then 0 else a/b
def yB (p:Rat×Rat):Rat×Rat:=(-p.2,-p.1)
def HV (p q:Rat×Rat):Rat×Rat:=(p.1 + -q.2,p.2 + -q.1)
def cU (p:Rat×Rat):Rat×Rat:=if 0≤p.1 then p else if p.2≤0 then yB p else (0,lY [-p.1,p.2] 2)
def tU (up down:Rat) (p:Rat×Rat):Rat×Rat:=((hP (p.1*up):Rat)*down,((-hP (-(p.2*up)):Int):Rat)*down)
def DW (p q:Rat×Rat):Rat×Rat:=(GQ p.1 p.2 q.1 q.2,Gj p.1 p.2 q.1 q.2)
abbrev cP (p:Rat×Rat):aD:=kK p.1 p.2
theorem Dx (q:Rat):q.num.sign≤0↔q≤0:=by
 rw [Int.sign_nonpos_iff];have h0:0≤(-q).num↔0 ≤ -q:=Rat.num_nonneg;rw [Rat.neg_num] at h0
 constructor
 ·intro h;have:=h0.1 (by omega);grind
 ·intro h;have:=h0.2 (by grind);omega
theorem jI  :aJ prog 69 [] (.ret [qT ((1:Int):Rat)]):=by
 refine bP (args:=[]) (ins:=[]) (hints:=(fun _=>none)) fo (by kernel_rfl) func69 trivial ?_;rw [SN];dsimp only [List.map,In.env,aG,aH];apply aA (eM 1) rfl;exact aE rfl
theorem eC (a b:Rat) (A B:Nat) (ha:Fit A a) (hb:Fit B b) (h:A+B≤34359738368:=by omega):aJ prog 66 [(qT a:aD),(qT b:aD)] (.ret [qT (gA a b)]):=by
 refine bO func66 Di ?_;apply aA (LU a b A B ha hb h) rfl;exact aE rfl
theorem PM (n d:Int) (h1:-9223372036854775808≤n:=by omega) (h2:n<9223372036854775808:=by omega) (h3:-9223372036854775808≤d:=by omega) (h4:d<9223372036854775808:=by omega):aJ prog 67 [(.one (.int .i64 n):aD),(.one (.int .i64 d):aD)] (.ret [qT (gA n d)]):=by
 refine bO func67 Vy ?_;apply aA (eM n h1 h2) rfl;apply aA (eM d h3 h4) rfl;apply aA (eC n d 64 64 (Fit.int (by omega) (by omega)) (Fit.int (by omega) (by omega))) rfl;exact aE rfl
theorem Am (p:Rat×Rat):aJ prog 37 [(cP p:aD)] (.ret [cP (yB p)]):=by
 refine bO func37 TQ ?_;apply aA (nA p.2) rfl;apply aA (nA p.1) rfl;exact aE rfl
theorem QO (p q:Rat×Rat) (A B:Nat) (h1:Fit A p.1) (h2:Fit A p.2) (h3:Fit B q.1) (h4:Fit B q.2) (h:A+B≤34359738368:=by omega):aJ prog 109 [(cP p:aD),(cP q:aD)] (.ret [cP (HV p q)]):=by
 refine bO func109 SP ?_;apply aA (Am q) rfl;apply aA (Fv p.1 p.2 (-q.2) (-q.1) A B h1 h2 h4.neg h3.neg h) rfl;exact aE rfl
theorem kM (p:Rat×Rat) (u:Rat) (A B:Nat) (h1:Fit A p.1) (h2:Fit A p.2) (hu:Fit B u) (hA:1≤A:=by omega) (h:A+B≤8589934592:=by omega):aJ prog 108 [(cP p:aD),(qT u:aD)] (.ret [cP (pK p u)]):=by
 refine bO func108 IK ?_;apply aA (dH p.1 u A B h1 hu) rfl;apply aA (dH p.2 u A B h2 hu) rfl;apply tQ (us:=[qC (p.1*u),qC (p.2*u)]) rfl;apply aA (zK [p.1*u,p.2*u] (A+B) (lH (h1.mul hu) (h2.mul hu)) (by omega) (by omega) (by simp)) rfl;exact aE rfl
theorem RM (p:Rat×Rat) (A:Nat) (f1:Fit A p.1) (f2:Fit A p.2) (hA:1≤A) (h:A≤8589934592):aJ prog 203 [(cP p:aD)] (.ret [cP (cU p)]):=by
 refine bO func203 Tv ?_;have hs1:0≤p.1.num.sign↔0≤p.1:=by rw [Int.sign_nonneg_iff];exact Rat.num_nonneg
 have hs2:=Dx p.2;apply aA (cW p.1) rfl;apply vn iC rfl;refine vs _ rfl ?_ ?_<;>intro h2
 ·rw [show cU p=p from if_pos (hs1.1 h2)];exact aE rfl
 apply aA (cW p.2) rfl;apply vn jK rfl;dsimp only [aG,aH];refine vs _ rfl ?_ ?_<;>intro h6
 ·apply aA (Am p) rfl;dsimp only [aG,aH];rw [show cU p=yB p from (if_neg fun h=>h2 (hs1.2 h)).trans (if_pos (hs2.1 h6))];exact aE rfl
 apply aA (nA p.1) rfl;apply tQ (us:=[qC (-p.1),qC p.2]) rfl;apply aA (Qa [-p.1,p.2] A (lH f1.neg f2) hA h (by simp)) rfl;dsimp only [aG,aH];rw [show cU p=(0,lY [-p.1,p.2] 2) from (if_neg fun h=>h2 (hs1.2 h)).trans (if_neg fun h=>h6 (hs2.2 h))];exact nJ ⟨⟨eN.1,eN.2.1,eN.2.2.1,aL.Sub.same,aL.Sub.same,aL.Sub.same,trivial⟩,trivial⟩
theorem Cg (up down:Rat) (p:Rat×Rat) (A U:Nat) (h1:Fit A p.1) (h2:Fit A p.2) (hu:Fit U up) (hd:Fit U down) (hA:1≤A:=by omega) (h:A+U+U≤8589934592:=by omega):aJ prog 107 [(kK up down:aD),(cP p:aD)] (.ret [cP (tU up down p)]):=by
 refine bO func107 RU ?_;apply aA (dH p.1 up A U h1 hu) rfl;apply aA (fP (p.1*up) (A+U) (h1.mul hu)) rfl;apply aA (dH _ down (A+U) U (fS (h1.mul hu)) hd) rfl;apply aA (dH p.2 up A U h2 hu) rfl;dsimp only [aG,aH];apply aA (FW (p.2*up) (A+U) (h2.mul hu)) rfl;apply aA (dH _ down (A+U) U (by rw [Rat.intCast_neg];exact (fS (h2.mul hu).neg).neg) hd) rfl;exact aE rfl
theorem wS (up down:Rat) (p q:Rat×Rat) (A B U:Nat) (h1:Fit A p.1) (h2:Fit A p.2) (h3:Fit B q.1) (h4:Fit B q.2) (hu:Fit U up) (hd:Fit U down) (hA:1≤A:=by omega) (h:A+B+U+U≤4294967296:=by omega):aJ prog 150 [(kK up down:aD),(cP p:aD),(cP q:aD)] (.ret [cP (tU up down (DW p q))]):=by
 refine bO func150 To ?_;have hm:=BV h1 h2 h3 h4 hA;apply aA (TE p.1 p.2 q.1 q.2 A B hA h1 h2 h3 h4) rfl;apply aA (Cg up down (DW p q) (A+B) U hm.1 hm.2 hu hd) rfl;exact aE rfl
theorem HF (up down:Rat) (p:Rat×Rat) (u:Rat) (A B U:Nat) (h1:Fit A p.1) (h2:Fit A p.2) (hb:Fit B u) (hu:Fit U up) (hd:Fit U down) (hA:1≤A:=by omega) (h:A+B+U+U≤4294967296:=by omega):aJ prog 153 [(kK up down:aD),(cP p:aD),(qT u:aD)] (.ret [cP (tU up down (pK p u))]):=by
 refine bO func153 Ia ?_;apply aA (kM p u A B h1 h2 hb hA) rfl;apply aA (Cg up down (pK p u) (A+B) U (pP (lH (h1.mul hb) (h2.mul hb)) 2 (by simp)) (mM (lH (h1.mul hb) (h2.mul hb)) 2 (by simp)) hu hd) rfl;exact aE rfl
theorem jQ (p:Rat×Rat) (A:Nat) (h1:Fit A p.1) (h2:Fit A p.2) (hA:1≤A:=by omega) (h:A≤8589934592:=by omega):aJ prog 187 [(cP p:aD)] (.ret [qT (cU p).2]):=by
 refine bO func187 DI ?_;apply aA (RM p A h1 h2 hA h) rfl;exact aE rfl
theorem zR (r:Rat):aJ prog 189 [(qT r:aD)] (.ret [cP (-r,r)]):=by
 refine bO func189 HZ ?_;apply aA (nA r) rfl;exact aE rfl
theorem RP (q:Rat) (H:Nat) (hq:Fit H q) (h:H≤8589934592:=by omega):aJ prog 129 [(qT q:aD)] (.ret [qT ((q.den:Int):Rat)]):=by
 refine bO func129 SH ?_;apply aA (cG q (by have:=(Fit.dl hq).2;omega)) rfl;dsimp only [aG,aH];have hw:=nV (q.den:Int);rw [show iT (q.den:Int) = .agg [dT q.den, .exact (.bool false)] from by rw [show iT (q.den:Int) = .agg [dT q.den, .bool (decide ((q.den:Int)<0))] from rfl,decide_eq_false (show ¬ (q.den:Int)<0 by omega)]] at hw;apply aA hw rfl;exact aE rfl
theorem Si (q:Rat):aJ prog 128 [(qT q:aD)] (.ret [qT (q.num:Rat)]):=by
 refine bO func128 QP ?_;apply aA (nV q.num) rfl;exact aE rfl
theorem MZ (q:Rat) (k:Int) (H:Nat) (hq:Fit H q) (hk:k≤256:=by omega) (h1:1≤H:=by omega) (hH:H≤8000000000:=by omega):aJ prog 124 [(qT q:aD),(.one (.int .i64 k):aD)] (.ret [cP (cE q k.toNat,tP q k.toNat)]):=by
 refine bO func124 Oh ?_;apply aA (GV q k H hk hq h1 hH) rfl;apply aA (PJ q k H hk hq h1 hH) rfl;exact aE rfl
open Go Go.Proofs Tryz Ord
def RG:Tr:=.split (.u 6 0) (.need (.call 22 [(WK 2)] [(some 3)]) (.call ⟨.value (.func 22),#[(.const (I3 2))],#[2]⟩) 30 false (.need (.call 71 [(G3 7),(WK 1000)] [(some 3)]) (.call ⟨.value (.func 71),#[(tT 10),(.const (I3 1000))],#[30,3]⟩) 30 true (aC 32 [(.agg [(U 3 0),(U 4 0),(U 5 0)]),(G3 8)] [(some 3)] [9,11] [30,30] 30 true (aN .sub 3 7 1000 2 0 3 (.back 0 [lV 10 0,lV 9 0,lV 9 1,lV 9 2]))))) (.need (.call 22 [(WK 2)] [(some 3)]) (.call ⟨.value (.func 22),#[(.const (I3 2))],#[2]⟩) 30 false (aC 71 [(G3 7),(W 2 0)] [(some 3)] [14,15] [30,3] 30 true (aC 32 [(.agg [(U 3 0),(U 4 0),(U 5 0)]),(G3 8)] [(some 3)] [13,16] [30,30] 30 true (aC 69 [] [(some 3)] [] [] 30 false (aC 66 [(G3 10),(G3 9)] [(some 3)] [19,20] [30,30] 30 true (.ret [(.agg [(U 9 0),(U 9 1),(U 9 2),(U 11 0),(U 11 1),(U 11 2)])]))))))
def Rc:Tr:=aC 69 [] [(some 3)] [] [] 30 true (.loop 0 [lV 0 0,lV 1 0,lV 1 1,lV 1 2] (aN .gtr 3 5 1000 2 0 4 RG))
theorem Nr:aI prog f34 (fun _=>none) [.v none]=Rc:=by kernel_rfl
def NC:Tr:=.need (.call 22 [(WK 2)] [(some 3)]) (.call ⟨.value (.func 22),#[(.const (I3 2))],#[2]⟩) 30 false (aC 32 [(G3 14),(G3 15)] [(some 3)] [27,28] [30,30] 30 false (aC 189 [(G3 16)] [(some 6)] [29] [30] 39 false (.need (.lit 6 [[(.u 17 0),(.u 17 1),(.u 17 2),(.u 17 3),(.u 17 4),(.u 17 5)]]) (.buildSlice 201 1 #[(0,(tT 30))]) 201 false (.need (.app 6 112 (some 4) none (some 18)) (.call ⟨.builtin .append,#[(tT 25),(tT 31)],#[201,201]⟩) 201 false (aC 188 [(.one (.c (.sr 6 19)))] [(some 6)] [32] [201] 39 true (.ret [(G6 20)]))))))
def Ro:Tr:=aN .gtr 3 13 0 12 0 4 (.split (.u 13 0) (.need (.lit 6 [[(.u 5 0),(.u 6 0),(.u 7 0),(.u 8 0),(.u 9 0),(.u 10 0)]]) (.buildSlice 201 1 #[(0,(tT 18))]) 201 false (.need (.app 6 112 (some 4) none (some 14)) (.call ⟨.builtin .append,#[(tT 17),(tT 19)],#[201,201]⟩) 201 false (.need (.callv (.u 2 0) [(.agg [(U 5 0),(U 6 0),(U 7 0),(U 8 0),(U 9 0),(U 10 0)]),(W 3 0)] [(some 6)]) (.call ⟨.value (tT 21),#[(tT 22),(tT 23)],#[39,3]⟩) 39 true (aN .add 3 15 1 3 0 3 (.back 0 [lV 17 0, .row 15,lV 16 0,lV 16 1,lV 16 2,lV 16 3,lV 16 4,lV 16 5]))))) (aC 187 [(.agg [(U 5 0),(U 6 0),(U 7 0),(U 8 0),(U 9 0),(U 10 0)])] [(some 3)] [26] [39] 30 false NC))
def SD:Tr:=.loop 0 [lK 0, .nilrow,lV 1 0,lV 1 1,lV 1 2,lV 1 3,lV 1 4,lV 1 5] (aC 187 [(.agg [(U 5 0),(U 6 0),(U 7 0),(U 8 0),(U 9 0),(U 10 0)])] [(some 3)] [9] [39] 30 false (aC 68 [(G3 11),(.agg [(U 0 3),(U 0 4),(U 0 5)])] [none] [10,12] [30,30] 3 true Ro))
theorem SU:aI prog f151 (fun _=>none) [.v (some 6), .v (some 6), .v none]=SD:=by kernel_rfl
theorem pU {q:Rat} {H:Nat} (h:Fit H q) (n:Nat) (hH:1≤H:=by omega):Fit (H*n+1) (q^n):=by
 refine ⟨?_,?_⟩
 ·rw [Rat.num_pow,Int.natAbs_pow];exact fD h.1 hH
 ·rw [Rat.den_pow];exact fD h.2 hH
theorem TP {x H n:Nat} (h:x<2^H) (hH:1≤H):(dg (x^n)).length≤H*n+1:=eF (fD h hH)
theorem mC (q:Rat) (n:Int) (N H:Nat) (hq:Fit H q) (hH1:1≤H:=by omega) (hn:max 0 (min n 1000)=(N:Int):=by omega) (hH:H≤100000000:=by omega):aJ prog 71 [(qT q:aD),(.one (.int .i64 n):aD)] (.ret [qT (q^N)]):=by
 refine bO func71 Jf ?_;have hN:N≤1000:=by omega
 have hHN:H*N≤100000000000:=by
  have:=Nat.mul_le_mul hH hN;omega
 have hden:0<q.den^N:=Nat.pow_pos q.den_pos;have hdg:(dg (q.den^N)).length≤H*N+1:=TP hq.2 hH1;have hdl:=(Fit.dl hq).2;apply aA (vZ n 1000) rfl;rw [hn];refine vs _ rfl ?_ ?_<;>intro h1
 ·apply vn (cK) rfl;apply vn aO rfl;apply aA (nU q.num.natAbs N H hH1 hq.1) rfl;dsimp only [aG,aH];have hneg:q.num<0:=h1
  have hz:(q^N).num=if decide (((N:Int)%2)=1) then -((q.num.natAbs^N:Nat):Int) else ((q.num.natAbs^N:Nat):Int):=by
   have e:q.num = -(q.num.natAbs:Int):=by omega
   rw [Rat.num_pow,Int.natCast_pow];generalize (q.num.natAbs:Int)=m at e;rw [e,Int.neg_pow];rcases Nat.mod_two_eq_zero_or_one N with h | h
   ·rw [h,if_neg (by rw [decide_eq_true_iff];omega)];simp
   ·rw [h,if_pos (by rw [decide_eq_true_iff];omega)];simp
  apply aA (cS _ _ _ hz) rfl;apply aA (cG q) rfl;apply aA (nU q.den N H hH1 hq.2) rfl;apply aA (eT 1) rfl;dsimp only [aG,aH];apply aA (rO (q.den^N) 1 hden hden) rfl;dsimp only [aG,aH];refine aE ?_;show [aD.agg [dT (q^N).num.natAbs, .bool (decide ((q^N).num<0)),dT (q.den^N-1)]] = [qT (q^N)];simp only [qT,qC,Rat.den_pow]
 apply aA (nU q.num.natAbs N H hH1 hq.1) rfl;dsimp only [aG,aH]
 have hz:(q^N).num=if false=true then -((q.num.natAbs^N:Nat):Int) else ((q.num.natAbs^N:Nat):Int):=by
  have e:(q.num.natAbs:Int)=q.num:=by omega
  rw [if_neg (by simp),Rat.num_pow,Int.natCast_pow,e]
 apply aA (cS false _ _ hz) rfl;apply aA (cG q) rfl;apply aA (nU q.den N H hH1 hq.2) rfl;apply aA (eT 1) rfl;dsimp only [aG,aH];apply aA (rO (q.den^N) 1 hden hden) rfl;dsimp only [aG,aH];refine aE ?_;show [aD.agg [dT (q^N).num.natAbs, .bool (decide ((q^N).num<0)),dT (q.den^N-1)]] = [qT (q^N)];simp only [qT,qC,Rat.den_pow]
def gX (p:Nat):Rat:=gA ((1:Int):Rat) (bR p)
theorem kR (p:Nat):Fit (p+1) (bR p):=Fit.int (by omega) (by rw [Int.natAbs_natCast];exact Nat.pow_lt_pow_right (by omega) (by omega))
theorem No (p:Nat):((1:Int):Rat)*((2:Int):Rat)^p=bR p:=by
 rw [bR,Int.natCast_pow,Rat.intCast_pow,show ((1:Int):Rat)=1 from rfl,Rat.one_mul];rfl
theorem qO (p:Nat) (hp:p≤1000:=by omega):aJ prog 34 [(.one (.int .i64 p):aD)] (.ret [kK (bR p) (gX p)]):=by
 refine bO func34 Nr ?_;apply aA jI rfl;refine bE Unit (fun _=>(.one (.int .i64 (p:Int)):aD)::(qC ((1:Int):Rat)).map .one) (fun _=>0) () aM.rfl (fun _=>rfl) ?_;rintro ⟨⟩;dsimp only [aG,aH,List.map];apply vn bC rfl;refine vs _ rfl ?_ ?_<;>intro h3
 ·exfalso;omega
 apply aA (eM 2) rfl;apply aA (mC ((2:Int):Rat) p p 2 (Fit.int (by omega) (by omega))) rfl;apply aA (dH ((1:Int):Rat) (((2:Int):Rat)^p) 1 (2*p+1) (Fit.int (by omega) (by omega)) (pU (Fit.int (by omega) (by omega)) p)) rfl;rw [No];dsimp only [aG,aH];apply aA jI rfl;apply aA (eC ((1:Int):Rat) (bR p) 1 (p+1) (Fit.int (by omega) (by omega)) (kR p)) rfl;exact aE rfl
abbrev VS:=List (Rat×Rat)
abbrev vS (l:VS):List (List aL):=l.map fun p=>eV p.1 p.2
def Hr (p q:Rat×Rat):Rat×Rat:=(p.1+q.1,p.2+q.2)
def Er (l:VS):Rat×Rat:=l.foldl Hr (0,0)
theorem Au {B:Nat}:∀ (l:VS) (p:Rat×Rat) (A:Nat),(∀ x∈l,Fit B x.1∧Fit B x.2)→Fit A p.1→Fit A p.2→Fit (A+l.length*(B+1)) (l.foldl Hr p).1∧Fit (A+l.length*(B+1)) (l.foldl Hr p).2
 | [],p,A,_,h1,h2=>by simpa using ⟨h1,h2⟩
 | x::xs,p,A,h,h1,h2=>by
   have hx:=h x List.mem_cons_self;have:=Au xs (Hr p x) (A+B+1) (fun y hy=>h y (List.mem_cons_of_mem _ hy)) (h1.add hx.1) (h2.add hx.2);rw [List.length_cons,Nat.add_mul];exact ⟨this.1.mono (by omega),this.2.mono (by omega)⟩
theorem Yg:aV aD.Sub [.one (.exact (.slice none 0 0)), .one (.bool false), .one (.exact (.slice none 0 0)), .one (.exact (.slice none 0 0)), .one (.bool false), .one (.exact (.slice none 0 0))] ((eV 0 0).map .one):=⟨eN.1,eN.2.1,eN.2.2.1,eN.1,eN.2.1,eN.2.2.1,trivial⟩
theorem DR (l:VS) (B:Nat) (hl:∀ x∈l,Fit B x.1∧Fit B x.2) (hs:l.length<1099511627776) (hB:l.length*(B+1)+B+1≤34359738368):aJ prog 188 [(.one (.slice 6 (vS l)):aD)] (.ret [cP (Er l)]):=by
 refine bO func188 JN ?_;apply vn (bB JR (bF _)) rfl;refine bE {i:Nat // i≤l.length} (fun g=>(.one (.int .i64 g.1):aD)::(eV (Er (l.take g.1)).1 (Er (l.take g.1)).2).map .one) (fun g=>l.length-g.1) ⟨0,fK _⟩ ⟨aD.Sub.same,Yg⟩ (fun _=>rfl) ?_;rintro ⟨i,hi⟩;dsimp only [aG,aH,List.map] at hi ⊢;apply vn bA rfl;refine vs _ rfl ?_ ?_<;>intro h3
 ·obtain ⟨x,hx⟩:∃ x,l[i]? = some x:=⟨_,dJ (by omega)⟩
  have hxf:=hl x (EI hx);have hpf:=Au (l.take i) (0,0) 1 (fun y hy=>hl y (List.mem_of_mem_take hy)) (Fit.zero (by omega)) (Fit.zero (by omega));have hlt:(l.take i).length*(B+1)≤l.length*(B+1):=Nat.mul_le_mul_right _ (by rw [List.length_take];omega);apply vn (dC JR hx) rfl;apply vn (xR YZ (by decide) (by simp) (.inl rfl)) rfl;apply aA (Fv _ _ x.1 x.2 _ B hpf.1 hpf.2 hxf.1 hxf.2) rfl;dsimp only [aG,aH];apply vn (aF) rfl
  exact aZ rfl ⟨⟨i+1,by omega⟩,(by
   dsimp only;rw [show Er (l.take (i+1))=Hr (Er (l.take i)) x by rw [List.take_add_one,hx,Er,List.foldl_append];rfl];exact aM.rfl),by show l.length-(i+1)<l.length-i;omega⟩
 rw [show l.take i=l from List.take_of_length_le (by omega)];exact aE rfl
def dV (t:Nat→Rat×Rat) (n:Nat):VS:=(List.range n).map t
def oF (t:Nat→Rat×Rat) (N:Nat):Rat×Rat:=Er (dV t N ++ [(-((cU (t N)).2*((2:Int):Rat)),(cU (t N)).2*((2:Int):Rat))])
theorem Ax {p:Rat×Rat} {A:Nat} (h1:Fit A p.1) (h2:Fit A p.2) (hA:1≤A:=by omega):Fit A (cU p).1∧Fit A (cU p).2:=by
 unfold cU yB;split
 ·exact ⟨h1,h2⟩
 ·split
  ·exact ⟨h2.neg,h1.neg⟩
  ·exact ⟨Fit.zero hA,mM (lH h1.neg h2) 2 (by simp) hA⟩
theorem sZ (t:Nat→Rat×Rat) (n:Nat):dV t (n+1)=dV t n ++ [t n]:=by rw [dV,List.range_succ,List.map_append];rfl
theorem dA (t:Nat→Rat×Rat) (n:Nat):(dV t n).length=n:=by simp [dV]
theorem nS {a b:Rat}:fF a b>0↔b<a:=by
 have:=sG (a:=a) (b:=b)
 constructor
 ·intro h;have h2:¬ a≤b:=fun e=>by have:=this.2 e;omega
  grind
 ·intro h;have h2:¬ fF a b≤0:=fun e=>by have:=this.1 e;grind
  omega
theorem QQ (t:Nat→Rat×Rat) (N:Nat) (g:FuncId) (caps:List aL) (up down:Rat) (W:Nat) (hg:∀ i,i<N→aJ prog g ([cP (t i), .one (.int .i64 (i:Int))]++caps.map .one) (.ret [cP (t (i+1))])) (hf:∀ i,i≤N→Fit W (t i).1∧Fit W (t i).2) (hd:Fit W down) (hgt:∀ i,i<N→down<(cU (t i)).2) (hle:(cU (t N)).2≤down) (hW:4≤W) (hW2:W≤100000) (hN:N≤10000):aJ prog 151 [(kK up down:aD),(cP (t 0):aD),(.one (.eZ g caps):aD)] (.ret [cP (oF t N)]):=by
 refine bO func151 SU ?_;refine bE {i:Nat // i≤N} (fun g=>(.one (.int .i64 g.1):aD) :: .rows (vS (dV t g.1))::(eV (t g.1).1 (t g.1).2).map .one) (fun g=>N-g.1) ⟨0,fK _⟩ aM.rfl (fun _=>rfl) ?_;rintro ⟨i,hi⟩;dsimp only [aG,aH,List.map] at hi ⊢;have hfi:=hf i hi;have hab:=Ax hfi.1 hfi.2;have hln:=dA t i;apply aA (jQ (t i) W hfi.1 hfi.2) rfl;apply aA (eH (cU (t i)).2 down W W hab.2 hd) rfl;apply vn bC rfl;refine vs _ rfl ?_ ?_<;>intro h4
 ·have hiN:i<N:=by
   rcases Nat.lt_or_ge i N with h | h
   ·exact h
   ·have:i=N:=by omega
    subst this;have:=nS.1 h4
    grind
  apply tQ (us:=[eV (t i).1 (t i).2]) rfl;dsimp only [aG,aH];refine yO (ts:=vS (dV t i)) (us:=[eV (t i).1 (t i).2]) (vs:=vS (dV t (i+1))) rfl rfl (by rw [sZ,vS,vS,List.map_append];rfl) (by rw [bF,dA];omega) (by rw [bF,dA];simp only [maxLen];omega) ?_;apply nB (f:=g) (caps:=caps) rfl (hg i hiN) rfl;apply vn (aF) rfl;dsimp only [aG,aH];exact aZ rfl ⟨⟨i+1,by omega⟩,aM.rfl,by show N-(i+1)<N-i;omega⟩
 have hiN:i=N:=by
  rcases Nat.lt_or_ge i N with h | h
  ·exact absurd (nS.2 (hgt i h)) h4
  ·omega
 subst hiN;apply aA (jQ (t i) W hfi.1 hfi.2) rfl;apply aA (eM 2) rfl;apply aA (dH (cU (t i)).2 ((2:Int):Rat) W 2 hab.2 (Fit.int (by omega) (by omega))) rfl;apply aA (zR _) rfl;dsimp only [aG,aH];apply tQ (us:=[eV (-((cU (t i)).2*((2:Int):Rat))) ((cU (t i)).2*((2:Int):Rat))]) rfl;refine yO (ts:=vS (dV t i)) (us:=[eV (-((cU (t i)).2*((2:Int):Rat))) ((cU (t i)).2*((2:Int):Rat))]) (vs:=vS (dV t i ++ [(-((cU (t i)).2*((2:Int):Rat)),(cU (t i)).2*((2:Int):Rat))])) rfl rfl (by rw [vS,vS,List.map_append];rfl) (by simp [dA];omega) (by simp [dA];simp only [maxLen];omega) ?_;dsimp only [aG,aH];have hm:Fit (W+2) ((cU (t i)).2*((2:Int):Rat)):=hab.2.mul (Fit.int (by omega) (by omega))
 refine aA (DR (dV t i ++ [(-((cU (t i)).2*((2:Int):Rat)),(cU (t i)).2*((2:Int):Rat))]) (W+2) (fun x hx=>by
  rcases List.mem_append.1 hx with h | h
  ·obtain ⟨j,hj,rfl⟩:=yJ.1 h;have:=hf j (by have:=List.mem_range.1 hj;omega);exact ⟨this.1.mono (by omega),this.2.mono (by omega)⟩
  ·rw [List.mem_singleton.1 h];exact ⟨hm.neg,hm⟩) (by simp [dA];omega) (by
   rw [dG,dA,List.length_singleton];have:=Nat.mul_le_mul (show i+1≤10001 by omega) (show W+2+1≤100003 by omega);omega)) rfl ?_
 exact aE rfl
open Go Go.Proofs Tryz Ord
def Ut:Tr:=.ret [(.agg [(U 0 0),(U 0 1),(U 0 2),(U 0 0),(U 0 1),(U 0 2)])]
theorem ZM:aI prog f92 (fun _=>none) [.v (some 3)]=Ut:=by kernel_rfl
def SE:Tr:=aC 69 [] [(some 3)] [] [] 30 false (aN .add 3 11 1 1 0 3 (aC 22 [(W 5 0)] [(some 3)] [12] [2] 30 false (aC 66 [(G3 4),(G3 6)] [(some 3)] [10,13] [30,30] 30 false (aC 108 [(G6 3),(G3 7)] [(some 6)] [9,14] [39,30] 39 true (aC 150 [(G6 2),(G6 0),(G6 8)] [(some 6)] [7,8,15] [81,39,39] 39 true (.ret [(G6 9)]))))))
theorem KM:aI prog f193 (fun _=>none) [.v (some 6), .v none, .ref 6, .ref 6]=SE:=by kernel_rfl
def Uw:Tr:=aC 151 [(G6 0),(G6 5),(.one (.eZ 193 [(.ref 0 [(.u 0 0),(.u 0 1),(.u 0 2),(.u 0 3),(.u 0 4),(.u 0 5)]),(.ref 0 [(.u 3 0),(.u 3 1),(.u 3 2),(.u 3 3),(.u 3 4),(.u 3 5)])]))] [(some 6)] [10,12,13] [81,39,181] 39 true (.loop 0 [lK 0,lV 6 0,lV 6 1,lV 6 2,lV 6 3,lV 6 4,lV 6 5] (aN .lss 3 15 2 7 0 4 (.split (.u 14 0) (aC 150 [(G6 0),(.agg [(U 8 0),(U 9 0),(U 10 0),(U 11 0),(U 12 0),(U 13 0)]),(.agg [(U 8 0),(U 9 0),(U 10 0),(U 11 0),(U 12 0),(U 13 0)])] [(some 6)] [17,18,19] [81,39,39] 39 true (aN .add 3 15 1 7 0 3 (.back 0 [lV 16 0,lV 15 0,lV 15 1,lV 15 2,lV 15 3,lV 15 4,lV 15 5]))) (.ret [(.agg [(U 8 0),(U 9 0),(U 10 0),(U 11 0),(U 12 0),(U 13 0)])]))))
def TM:Tr:=.need (.call 101 [(WK 2)] [(some 3)]) (.call ⟨.value (.func 101),#[(.const (I3 2))],#[3]⟩) 30 true (aC 108 [(G6 1),(G3 2)] [(some 6)] [7,8] [39,30] 39 true (aC 69 [] [(some 3)] [] [] 30 false (aC 92 [(G3 4)] [(some 6)] [11] [30] 39 false Uw)))
theorem Qn:aI prog f167 (fun _=>none) [.v (some 6), .v (some 6)]=TM:=by kernel_rfl
theorem CM (q:Rat):aJ prog 92 [(qT q:aD)] (.ret [cP (q,q)]):=by
 refine bO func92 ZM ?_;exact aE rfl
def ZC (i:Nat):Rat:=gA ((1:Int):Rat) ((((i:Int)+1:Int)):Rat)
theorem lI {a b:Rat} {A B:Nat} (ha:Fit A a) (hb:Fit B b) (h1:1≤A:=by omega):Fit (A+B) (gA a b):=by
 unfold gA;split
 ·exact Fit.zero (by omega)
 ·rename_i h;exact ha.div hb
theorem wK {p:Rat×Rat} {u:Rat} {A B:Nat} (h1:Fit A p.1) (h2:Fit A p.2) (hu:Fit B u) (hA:1≤A:=by omega):Fit (A+B) (pK p u).1∧Fit (A+B) (pK p u).2:=
 ⟨pP (lH (h1.mul hu) (h2.mul hu)) 2 (by simp),mM (lH (h1.mul hu) (h2.mul hu)) 2 (by simp)⟩
theorem FP {up down:Rat} {p:Rat×Rat} {A U:Nat} (h1:Fit A p.1) (h2:Fit A p.2) (hu:Fit U up) (hd:Fit U down) (hA:1≤A:=by omega):Fit (A+U+U) (tU up down p).1∧Fit (A+U+U) (tU up down p).2:=
 ⟨(fS (h1.mul hu)).mul hd,Fit.mul (by rw [Rat.intCast_neg];exact (fS (h2.mul hu).neg).neg) hd⟩
def XJ (up down:Rat) (qr:Rat×Rat) (p:Rat×Rat) (i:Nat):Rat×Rat:=tU up down (DW p (pK qr (ZC i)))
def tW (up down:Rat) (qr:Rat×Rat):Nat→Rat×Rat
 | 0=>(((1:Int):Rat),((1:Int):Rat))
 | i+1=>XJ up down qr (tW up down qr i) i
theorem Mc (up down:Rat) (qr p:Rat×Rat) (i:Nat) (A B U:Nat) (hp1:Fit A p.1) (hp2:Fit A p.2) (hq1:Fit B qr.1) (hq2:Fit B qr.2) (hu:Fit U up) (hd:Fit U down) (hi:i≤100000:=by omega) (hA:1≤A:=by omega) (hB:1≤B:=by omega) (h:A+(B+64)+U+U≤4294967296:=by omega):aJ prog 193 [(cP p:aD),(.one (.int .i64 i):aD),(.one (.dK (eV up down)):aD),(.one (.dK (eV qr.1 qr.2)):aD)] (.ret [cP (XJ up down qr p i)]):=by
 refine ZV (ins:=[.v (cP p), .v (.one (.int .i64 i)), .ref (eV up down), .ref (eV qr.1 qr.2)]) func193 KM ?_;have h1f:Fit 1 ((1:Int):Rat):=Fit.int (by omega) (by omega);have hif:Fit 62 (((i:Int)+1:Int):Rat):=Fit.int (by omega) (by omega);have hsc:=wK hq1 hq2 (lI h1f hif) hB;apply aA jI rfl;apply vn (aF) rfl;apply aA (eM _) rfl;apply aA (eC _ _ 1 62 h1f hif) rfl;dsimp only [aG,aH];apply aA (kM qr _ B (1+62) hq1 hq2 (lI h1f hif) hB) rfl;apply aA (wS up down p _ A (B+(1+62)) U hp1 hp2 hsc.1 hsc.2 hu hd hA) rfl;exact aE rfl
def Ph (up down:Rat) (o:Rat×Rat):Nat→Rat×Rat
 | 0=>o
 | i+1=>tU up down (DW (Ph up down o i) (Ph up down o i))
theorem Fb {up down:Rat} {o:Rat×Rat} {S U:Nat} (h1:Fit S o.1) (h2:Fit S o.2) (hu:Fit U up) (hd:Fit U down) (hS:1≤S):∀ i,Fit (3^i*(S+2*U)) (Ph up down o i).1∧Fit (3^i*(S+2*U)) (Ph up down o i).2
 | 0=>⟨h1.mono (by omega),h2.mono (by omega)⟩
 | i+1=>by
   have ih:=Fb h1 h2 hu hd hS i;have hp:1*(S+2*U)≤3^i*(S+2*U):=Nat.mul_le_mul_right _ (Nat.pow_pos (by omega));have hm:=BV ih.1 ih.2 ih.1 ih.2;have ho:=FP (p:=DW (Ph up down o i) (Ph up down o i)) hm.1 hm.2 hu hd;rw [Nat.pow_succ,Nat.mul_assoc,Nat.mul_comm 3,←Nat.mul_assoc];exact ⟨ho.1.mono (by omega),ho.2.mono (by omega)⟩
def tL (up down:Rat) (s:Rat×Rat) (N:Nat):Rat×Rat:=Ph up down (oF (tW up down (pK s (mkRat 1 (2^2)))) N) 2
structure Ad (up down:Rat) (s:Rat×Rat) (N W:Nat):Prop where
 hf:∀ i,i≤N→Fit W (tW up down (pK s (mkRat 1 (2^2))) i).1∧Fit W (tW up down (pK s (mkRat 1 (2^2))) i).2
 hgt:∀ i,i<N→down<(cU (tW up down (pK s (mkRat 1 (2^2))) i)).2
 hle:(cU (tW up down (pK s (mkRat 1 (2^2))) N)).2≤down
 hs:Fit W s.1∧Fit W s.2
 hu:Fit W up∧Fit W down
 hN:N≤1000
 hW:4≤W∧W≤10000
theorem Bq {t:Nat→Rat×Rat} {N W:Nat} (hf:∀ i,i≤N→Fit W (t i).1∧Fit W (t i).2) (hW:4≤W):Fit (1+(N+1)*(W+2+1)) (oF t N).1∧Fit (1+(N+1)*(W+2+1)) (oF t N).2:=by
 have hab:=Ax (hf N (bQ _)).1 (hf N (bQ _)).2 (show 1≤W by omega);have hm:Fit (W+2) ((cU (t N)).2*((2:Int):Rat)):=hab.2.mul (Fit.int (by omega) (by omega))
 have:=Au (B:=W+2) (dV t N ++ [(-((cU (t N)).2*((2:Int):Rat)),(cU (t N)).2*((2:Int):Rat))]) (0,0) 1 (fun x hx=>by
  rcases List.mem_append.1 hx with h | h
  ·obtain ⟨j,hj,rfl⟩:=yJ.1 h;have:=hf j (by have:=List.mem_range.1 hj;omega);exact ⟨this.1.mono (by omega),this.2.mono (by omega)⟩
  ·rw [List.mem_singleton.1 h];exact ⟨hm.neg,hm⟩) (Fit.zero (by omega)) (Fit.zero (by omega))
 rw [dG,dA,List.length_singleton] at this;exact this
theorem JU (up down:Rat) (s:Rat×Rat) (N W:Nat) (K:Ad up down s N W):aJ prog 167 [(kK up down:aD),(cP s:aD)] (.ret [cP (tL up down s N)]):=by
 refine bO func167 Qn ?_;obtain ⟨hf,hgt,hle,hs,hu,hN,hW⟩:=K;have hm2:Fit 3 (mkRat 1 (2^2)):=⟨by decide +kernel,by decide +kernel⟩
 have hsc:=wK hs.1 hs.2 hm2;have hb:(N+1)*(W+2+1)≤1001*10003:=Nat.mul_le_mul (by omega) (by omega);have hsf:=Bq hf hW.1;obtain ⟨S,hS⟩:∃ S,S=1+(N+1)*(W+2+1):=⟨_,rfl⟩
 rw [←hS] at hsf;have hsq:=Fb (o:=oF (tW up down (pK s (mkRat 1 (2^2)))) N) hsf.1 hsf.2 hu.1 hu.2 (by omega);apply aA (gJ 2) rfl;apply aA (kM s _ W 3 hs.1 hs.2 hm2) rfl;apply aA jI rfl;apply aA (CM _) rfl;dsimp only [aG,aH];apply aA (QQ (tW up down (pK s (mkRat 1 (2^2)))) N 193 [.dK (eV up down), .dK (eV (pK s (mkRat 1 (2^2))).1 (pK s (mkRat 1 (2^2))).2)] up down W (fun i hi=>Mc up down (pK s (mkRat 1 (2^2))) (tW up down (pK s (mkRat 1 (2^2))) i) i W (W+3) W (hf i (by omega)).1 (hf i (by omega)).2 hsc.1 hsc.2 hu.1 hu.2) hf hu.2 hgt hle hW.1 (by omega) (by omega)) rfl;refine bE {i:Nat // i≤2} (fun g=>(.one (.int .i64 g.1):aD)::(eV (Ph up down (oF (tW up down (pK s (mkRat 1 (2^2)))) N) g.1).1 (Ph up down (oF (tW up down (pK s (mkRat 1 (2^2)))) N) g.1).2).map .one) (fun g=>2-g.1) ⟨0,fK _⟩ aM.rfl (fun _=>rfl) ?_;rintro ⟨i,hi⟩;dsimp only [aG,aH,List.map] at hi ⊢;apply vn bA rfl;refine vs _ rfl ?_ ?_<;>intro h7
 ·have hi1:i≤1:=by omega
  have hq:=hsq i
  have h3:3^i*(S+2*W)≤3*(S+2*W):=Nat.mul_le_mul_right _ (by
   rcases Nat.le_one_iff_eq_zero_or_eq_one.1 hi1 with e | e<;>rw [e]<;>omega)
  have h3':1*(S+2*W)≤3^i*(S+2*W):=Nat.mul_le_mul_right _ (Nat.pow_pos (by omega));apply aA (wS up down _ _ _ _ W hq.1 hq.2 hq.1 hq.2 hu.1 hu.2) rfl;apply vn (aF) rfl;dsimp only [aG,aH];exact aZ rfl ⟨⟨i+1,by omega⟩,aM.rfl,by show 2-(i+1)<2-i;omega⟩
 rw [tL,show (2:Nat)=i by omega];exact aE rfl
open Go Go.Proofs Tryz Ord
def MM:Tr:=aC 32 [(G3 26),(G3 27)] [(some 3)] [39,40] [30,30] 30 true (aC 99 [(G3 28)] [(some 3)] [41] [30] 30 true (aC 71 [(G3 29),(W 2 0)] [(some 3)] [43,44] [30,3] 30 false (aC 68 [(G3 30),(G3 5)] [none] [45,46] [30,30] 3 true (aN .leq 3 47 0 31 0 4 (.split (.u 32 0) (.back 0 [lV 29 0,lV 29 1,lV 29 2,lV 19 0,lV 20 0,lV 21 0]) (.back 0 [lV 16 0,lV 17 0,lV 18 0,lV 29 0,lV 29 1,lV 29 2]))))))
def Oa:Tr:=aC 32 [(.agg [(U 16 0),(U 17 0),(U 18 0)]),(.agg [(U 0 3),(U 0 4),(U 0 5)])] [(some 3)] [51,53] [30,30] 30 true (aC 71 [(G3 26),(W 2 0)] [(some 3)] [55,56] [30,3] 30 false (aC 68 [(G3 27),(G3 1)] [none] [57,58] [30,30] 3 true (aN .eql 3 59 0 28 0 4 (.split (.u 29 0) (aC 92 [(G3 26)] [(some 6)] [61] [30] 39 true (.ret [(G6 30)])) (aC 100 [(G3 26),(.agg [(U 0 3),(U 0 4),(U 0 5)])] [(some 3)] [64,66] [30,30] 30 true (.ret [(.agg [(U 26 0),(U 26 1),(U 26 2),(U 30 0),(U 30 1),(U 30 2)])]))))))
def OT:Tr:=aC 72 [(.agg [(U 19 0),(U 20 0),(U 21 0)]),(.agg [(U 16 0),(U 17 0),(U 18 0)])] [(some 3)] [31,32] [30,30] 30 false (aC 69 [] [(some 3)] [] [] 30 false (aC 68 [(G3 22),(G3 23)] [none] [33,34] [30,30] 3 true (aN .gtr 3 35 0 24 0 4 (.split (.u 25 0) (aC 100 [(.agg [(U 16 0),(U 17 0),(U 18 0)]),(.agg [(U 19 0),(U 20 0),(U 21 0)])] [(some 3)] [37,38] [30,30] 30 false (.need (.call 101 [(WK 1)] [(some 3)]) (.call ⟨.value (.func 101),#[(.const (I3 1))],#[3]⟩) 30 false MM)) Oa))))
def RI:Tr:=.loop 0 [lN,(.w (.one (.c (.k (.bool false))))),lN,lV 6 0,lV 6 1,lV 6 2] (aC 71 [(.agg [(U 10 0),(U 11 0),(U 12 0)]),(W 2 0)] [(some 3)] [21,22] [30,3] 30 false (aC 68 [(G3 13),(G3 5)] [none] [23,24] [30,30] 3 true (aN .leq 3 25 0 14 0 4 (.split (.u 15 0) (aC 100 [(.agg [(U 10 0),(U 11 0),(U 12 0)]),(.agg [(U 10 0),(U 11 0),(U 12 0)])] [(some 3)] [28,29] [30,30] 30 true (.back 0 [lV 10 0,lV 11 0,lV 12 0,lV 16 0,lV 16 1,lV 16 2])) (.loop 0 [lV 7 0,lV 8 0,lV 9 0,lV 10 0,lV 11 0,lV 12 0] OT)))))
def Sp:Tr:=aC 71 [(G3 0),(W 2 0)] [(some 3)] [14,15] [30,3] 30 false (aC 32 [(G3 1),(G3 3)] [(some 3)] [12,16] [30,30] 30 true (aC 99 [(G3 4)] [(some 3)] [17] [30] 30 true (aC 69 [] [(some 3)] [] [] 30 true RI)))
theorem NU:aI prog f35 (fun _=>none) [.v (some 6), .v (some 3), .v none]=Sp:=by kernel_rfl
theorem Cs (l n:Nat):(((l:Int):Rat))^n=(((l^n:Nat):Int):Rat):=by rw [Int.natCast_pow,Rat.intCast_pow]
theorem Pl {a b:Nat}:(((a:Int):Rat))≤((b:Int):Rat)↔a≤b:=by rw [Rat.intCast_le_intCast];omega
theorem iZ {a B:Nat} (h:a<2^B:=by omega) (hB:1≤B:=by omega):Fit B ((a:Int):Rat):=Fit.int hB (by simpa using h)
theorem GX (z:Int):hP ((z:Int):Rat)=z:=by simp [hP]
theorem ER {a b n:Nat} (hn:1≤n):a^n≤b^n↔a≤b:=Nat.pow_le_pow_iff_left (by omega)
theorem DF {r h n g:Nat} (hn:1≤n) (h1:r^n≤g) (h2:g<(r+1)^n):h^n≤g↔h≤r:=by
 constructor
 ·intro h3;have h4:=Nat.lt_of_le_of_lt h3 h2;have:=(Nat.pow_lt_pow_iff_left (show n≠0 by omega)).1 h4;omega
 ·intro h3;exact Nat.le_trans ((ER hn).2 h3) h1
theorem Fz (m:Nat):hP (((m:Int):Rat)*mkRat 1 (2^1))=((m/2:Nat):Int):=by
 have e:((m:Int):Rat)*mkRat 1 (2^1)=mkRat (m:Int) 2:=by
  rw [←Rat.mkRat_one (m:Int),Rat.mkRat_mul_mkRat];simp
 rw [e,Mb _];omega
theorem jL {a b:Rat}:fF a b=0↔a=b:=by
 unfold fF;by_cases h1:a<b
 ·rw [if_pos h1];exact ⟨fun h=>by omega,fun h=>by grind⟩
 ·rw [if_neg h1];by_cases h2:b<a
  ·rw [if_pos h2];exact ⟨fun h=>by omega,fun h=>by grind⟩
  ·rw [if_neg h2];exact ⟨fun _=>by grind,fun _=>rfl⟩
def gY (x:Rat) (n:Nat) (down:Rat) (r:Nat):Rat×Rat:=if (((r:Int):Rat)*down)^n=x then (((r:Int):Rat)*down,((r:Int):Rat)*down) else (((r:Int):Rat)*down,((r:Int):Rat)*down+down)
theorem Dr (a b:Nat):((a:Int):Rat)+((b:Int):Rat)=(((a+b:Nat):Int):Rat):=by rw [Int.natCast_add,Rat.intCast_add]
theorem Ml {a b:Nat} (h:a≤b):((b:Int):Rat)-((a:Int):Rat)=(((b-a:Nat):Int):Rat):=by rw [Int.natCast_sub h,Rat.intCast_sub]
theorem Bh {a b:Nat}:fF ((a:Int):Rat) ((b:Int):Rat)≤0↔a≤b:=by rw [sG,Pl]
theorem uO (x:Rat) (n:Nat) (up down:Rat) (g r G A U:Nat) (hg:hP (x*up^n)=(g:Int)) (hx:Fit A x) (hu:Fit U up) (hd:Fit U down) (hr:r^n≤g:=by omega) (hr2:g<(r+1)^n:=by omega) (hG:g<2^G:=by omega) (hn1:1≤n:=by omega) (hn:n≤64:=by omega) (hA1:1≤A:=by omega) (hA:A≤10000000:=by omega) (hG2:G≤20000000:=by omega) (hU1:1≤U:=by omega) (hU:U≤100000:=by omega):aJ prog 35 [(kK up down:aD),(qT x:aD),(.one (.int .i64 n):aD)] (.ret [cP (gY x n down r)]):=by
 refine bO func35 NU ?_;have hUn:U*n≤6400000:=Nat.mul_le_mul hU hn;have hup:=pU hu n hU1;have hxu:=hx.mul hup;have hrg:r≤g:=Nat.le_trans (Nat.le_self_pow (by omega) r) hr;have hgG:((2^(G+2):Nat))=4*2^G:=by rw [Nat.pow_add];omega
 have hfit:∀ h:Nat,h≤2*r+1→Fit (G+2) ((h:Int):Rat):=fun h hh=>iZ;have hgf:Fit (G+2) ((g:Int):Rat):=iZ;have hGn:(G+2)*n≤1280000128:=Nat.mul_le_mul (show G+2≤20000002 by omega) hn;have hGn1:(G+2)*1≤(G+2)*n:=Nat.mul_le_mul_left _ hn1;have hpf:∀ h:Nat,h≤2*r+1→Fit ((G+2)*n+1) (((h:Int):Rat)^n):=fun h hh=>pU (hfit h hh) n;have hit:∀ h:Nat,fF (((h:Int):Rat)^n) ((g:Int):Rat)≤0↔h≤r:=fun h=>by rw [Cs,Bh];exact DF hn1 hr hr2
 apply aA (mC up n n U hu hU1) rfl;apply aA (dH x (up^n) A (U*n+1) hx hup) rfl;apply aA (fP (x*up^n) _ hxu) rfl;rw [hg];apply aA jI rfl;dsimp only [aG,aH];refine bE {p:Nat×Nat // p.1≤r∧p.1<p.2∧p.2≤2*r+1} (fun g=>(qC ((g.1.1:Int):Rat)).map aD.one++(qC ((g.1.2:Int):Rat)).map aD.one) (fun g=>2*r+2-g.1.2) ⟨(0,1),fK _,by omega,by omega⟩ ⟨eN.1,eN.2.1,eN.2.2.1,aL.Sub.same,aL.Sub.same,aL.Sub.same,trivial⟩ (fun _=>rfl) ?_;rintro ⟨⟨l,h⟩,hl,hlh,hh⟩;dsimp only [aG,aH,List.map] at hl hlh hh ⊢;apply aA (mC ((h:Int):Rat) n n (G+2) (hfit h hh)) rfl;apply aA (eH _ ((g:Int):Rat) ((G+2)*n+1) (G+2) (hpf h hh) hgf) rfl;apply vn jK rfl;refine vs _ rfl ?_ ?_<;>intro h8
 ·have hhr:=(hit h).1 h8;apply aA (kD ((h:Int):Rat) ((h:Int):Rat) (G+2) (G+2) (hfit h hh) (hfit h hh)) rfl;rw [Dr];dsimp only [aG,aH];exact aZ rfl ⟨⟨(h,h+h),hhr,by show h<h+h;omega,by show h+h≤2*r+1;omega⟩,aM.rfl,by show 2*r+2-(h+h)<2*r+2-h;omega⟩
 have hhr:r<h:=by
  have:=mt (hit h).2 h8;omega
 refine bE {p:Nat×Nat // p.1≤r∧r<p.2∧p.2≤2*r+1} (fun g=>(qC ((g.1.1:Int):Rat)).map aD.one++(qC ((g.1.2:Int):Rat)).map aD.one) (fun g=>g.1.2-g.1.1) ⟨(l,h),hl,hhr,hh⟩ aM.rfl (fun _=>rfl) ?_;clear hl hlh hh hhr h8;rintro ⟨⟨l,h⟩,hl,hlh,hh⟩;dsimp only [aG,aH,List.map] at hl hlh hh ⊢;apply aA (wM ((h:Int):Rat) ((l:Int):Rat) (G+2) (G+2) (hfit h hh) (hfit l (by omega))) rfl;rw [Ml (show l≤h by omega)];apply aA jI rfl;apply aA (eH (((h-l:Nat):Int):Rat) (((1:Nat):Int):Rat) (G+2) 1 (hfit _ (by omega)) (iZ)) rfl;apply vn bC rfl;dsimp only [aG,aH];refine vs _ rfl ?_ ?_<;>intro h16
 ·have hgap:1<h-l:=by
   have:=mt Bh.2 (show ¬ fF (((h-l:Nat):Int):Rat) (((1:Nat):Int):Rat)≤0 by omega);omega
  apply aA (kD ((l:Int):Rat) ((h:Int):Rat) (G+2) (G+2) (hfit l (by omega)) (hfit h hh)) rfl;rw [Dr];apply aA (gJ 1) rfl;dsimp only [aG,aH];have hlf:Fit (G+4) (((l+h:Nat):Int):Rat):=iZ (by rw [Nat.pow_add];omega);apply aA (dH _ (mkRat 1 (2^1)) (G+4) 2 hlf ⟨by decide +kernel,by decide +kernel⟩) rfl;apply aA (fP _ (G+4+2) (hlf.mul ⟨by decide +kernel,by decide +kernel⟩)) rfl;rw [show ((1:Int).toNat)=1 from rfl,Fz];obtain ⟨m,hm⟩:∃ m,m=(l+h)/2:=⟨_,rfl⟩
  rw [←hm];apply aA (mC ((m:Int):Rat) n n (G+2) (hfit m (by omega))) rfl;apply aA (eH _ ((g:Int):Rat) ((G+2)*n+1) (G+2) (hpf m (by omega)) hgf) rfl;dsimp only [aG,aH];apply vn jK rfl;refine vs _ rfl ?_ ?_<;>intro h24
  ·have hmr:=(hit m).1 h24;exact aZ rfl ⟨⟨(m,h),hmr,hlh,hh⟩,aM.rfl,by show h-m<h-l;omega⟩
  have hmr:=mt (hit m).2 h24;exact aZ rfl ⟨⟨(l,m),hl,by show r<m;omega,by show m≤2*r+1;omega⟩,aM.rfl,by show m-l<h-l;omega⟩
 have hlr:l=r:=by
  have:=Bh.1 (show fF (((h-l:Nat):Int):Rat) (((1:Nat):Int):Rat)≤0 by omega);omega
 subst hlr;apply aA (dH ((l:Int):Rat) down (G+2) U (hfit l (by omega)) hd) rfl;dsimp only [aG,aH];have hof:=(hfit l (by omega)).mul hd;apply aA (mC _ n n (G+2+U) hof) rfl;dsimp only [aG,aH]
 have h5:(G+2+U)*n≤1300000000:=by
  have:=Nat.mul_le_mul (show G+2+U≤20100002 by omega) hn;omega
 apply aA (eH _ x _ A (pU hof n) hx) rfl;apply vn aO rfl;refine vs _ rfl ?_ ?_<;>intro h31
 ·rw [show gY x n down l=(((l:Int):Rat)*down,((l:Int):Rat)*down) from if_pos (jL.1 h31)];apply aA (CM _) rfl;exact aE rfl
 rw [show gY x n down l=(((l:Int):Rat)*down,((l:Int):Rat)*down+down) from if_neg (mt jL.2 h31)];apply aA (kD _ down (G+2+U) U hof hd) rfl;exact aE rfl
end Go.Sy
