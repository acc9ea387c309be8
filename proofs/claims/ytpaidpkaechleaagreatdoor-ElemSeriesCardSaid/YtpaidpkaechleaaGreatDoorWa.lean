/- Part. -/
import Derived.Test.YtpaidpkaechleaaGreatDoorPb
set_option linter.all false
namespace Go.Sy
open Go Go.Proofs Tryz Ord
def Sr:Tr:=.ret [(.agg [(U 2 0),(U 2 1),(U 2 2),(U 3 0),(U 3 1),(U 3 2)])]
def aH6:Tr:=aC 100 [(G3 0),(G3 1)] [(some 3)] [6,8] [30,30] 30 false (aC 100 [(.agg [(U 0 3),(U 0 4),(U 0 5)]),(.agg [(U 1 3),(U 1 4),(U 1 5)])] [(some 3)] [11,13] [30,30] 30 true Sr)
theorem Zs:aK prog f156 (fun _=>none) [.v (some 6), .v (some 6)]=aH6:=by kernel_rfl
abbrev fH (a b:Rat):List aN:=qC a++qC b
abbrev lP (a b:Rat):aI:=.agg (fH a b)
theorem Oi (a b c d:Rat) (A B:Nat) (ha:Fit A a) (hb:Fit A b) (hc:Fit B c) (hd:Fit B d) (h:A+B≤34359738368:=by omega):aL prog 156 [(lP a b:aI),(lP c d:aI)] (.ret [lP (a+c) (b+d)]):=by
 refine bV func156 Zs ?_;apply aA (kP a c A B ha hc h) rfl;apply aA (kP b d A B hb hd h) rfl;exact aJ rfl
open Go Go.Proofs Tryz Ord
def au1:Tr:=.need (.call 122 [(.one (.c (.k (.int .u64 2))))] [(some 1)]) (.call ⟨.value (.func 122),#[(.const (.int .u64 2))],#[153]⟩) 26 false (.need (.call 119 [(W 0 0),(WK 256)] [none]) (.call ⟨.value (.func 119),#[(tT 4),(.const (I3 256))],#[3,3]⟩) 3 true (aC 120 [(G1 1),(W 2 0)] [(some 1)] [3,5] [26,3] 26 true (.ret [(G1 3)])))
theorem aE2:aK prog f147 (fun _=>none) [.v none]=au1:=by kernel_rfl
def UC:Tr:=.ret [(G3 3)]
def aE9:Tr:=.need (.call 86 [(WK 1)] [(some 2)]) (.call ⟨.value (.func 86),#[(.const (I3 1))],#[2]⟩) 28 false (aC 147 [(W 0 0)] [(some 1)] [4] [3] 26 true (aC 96 [(G2 1),(G1 2)] [(some 3)] [3,5] [28,26] 30 true UC))
theorem Zw:aK prog f101 (fun _=>none) [.v none]=aE9:=by kernel_rfl
def YL:Tr:=.ret [(G3 4)]
def aJ5:Tr:=aC 147 [(W 1 0)] [(some 1)] [6] [3] 26 false (aC 85 [(.agg [(U 2 0),(tE (.bool false))])] [(some 3)] [8] [28] 30 true (aC 32 [(G3 0),(G3 3)] [(some 3)] [5,9] [30,30] 30 true YL))
theorem Tl:aK prog f185 (fun _=>none) [.v (some 3), .v none]=aJ5:=by kernel_rfl
def aL3:Tr:=aC 91 [(G3 0)] [(some 1)] [5] [30] 26 false (aC 145 [(G2 0),(G1 1)] [(some 2)] [4,6] [28,26] 28 true (aC 85 [(G2 2)] [(some 3)] [7] [28] 30 true UC))
theorem Sb:aK prog f99 (fun _=>none) [.v (some 3)]=aL3:=by kernel_rfl
def aw7:Tr:=aC 36 [(G3 0)] [(some 3)] [3] [30] 30 false (aC 99 [(G3 1)] [(some 3)] [4] [30] 30 true (aC 36 [(G3 2)] [(some 3)] [5] [30] 30 true UC))
theorem WD:aK prog f154 (fun _=>none) [.v (some 3)]=aw7:=by kernel_rfl
def Yw:Tr:=aC 101 [(W 1 0)] [(some 3)] [9] [3] 30 true (aC 32 [(G3 3),(G3 4)] [(some 3)] [8,10] [30,30] 30 true (.ret [(G3 5)]))
def aD3:Tr:=aC 185 [(G3 0),(W 1 0)] [(some 3)] [5,6] [30,3] 30 false (aC 99 [(G3 2)] [(some 3)] [7] [30] 30 false Yw)
theorem Wi:aK prog f148 (fun _=>none) [.v (some 3), .v none]=aD3:=by kernel_rfl
def az3:Tr:=aC 185 [(G3 0),(W 1 0)] [(some 3)] [5,6] [30,3] 30 false (aC 154 [(G3 2)] [(some 3)] [7] [30] 30 false Yw)
theorem aA5:aK prog f149 (fun _=>none) [.v (some 3), .v none]=az3:=by kernel_rfl
def az9:Tr:=aC 148 [(G3 0),(W 1 0)] [(some 3)] [6,7] [30,3] 30 false (aC 149 [(.agg [(U 0 3),(U 0 4),(U 0 5)]),(W 1 0)] [(some 3)] [10,11] [30,3] 30 true Sr)
theorem aa6:aK prog f103 (fun _=>none) [.v (some 6), .v none]=az9:=by kernel_rfl
def jZ (q:Rat):Int:=q.num/(q.den:Int)
def dB (k:Nat):Rat:=(((2^k:Nat):Int):Rat)
def gK (q:Rat) (k:Nat):Rat:=(jZ (q*dB k):Rat)*mkRat 1 (2^k)
def HD (q:Rat) (k:Nat):Rat:=(((-jZ (-(q*dB k)):Int)):Rat)*mkRat 1 (2^k)
theorem iP {q:Rat} {H:Nat} (h:Fit H q) (h1:1≤H:=by omega):Fit H (jZ q:Rat):=Fit.int h1 (Nat.lt_of_le_of_lt (Int.natAbs_ediv_le_natAbs _ _) h.1)
set_option exponentiation.threshold 600 in
theorem lF {k:Nat} (h:k≤256):Fit 257 (dB k):=Fit.int (by omega) (by rw [Int.natAbs_natCast];exact Nat.pow_lt_pow_right (by omega) (by omega))
set_option exponentiation.threshold 600 in
theorem qD {k:Nat} (h:k≤256):Fit 257 (mkRat 1 (2^k)):=Fit.mkRat (Nat.one_lt_two_pow (by omega)) (Nat.pow_lt_pow_right (by omega) (by omega)) (Nat.pos_iff_ne_zero.1 (Nat.pow_pos (by omega)))
theorem UX (k:Int) (hk:k≤256):aL prog 147 [(.one (.int .i64 k):aI)] (.ret [mT (2^k.toNat)]):=by
 refine bV func147 aE2 ?_;apply aA (fG 2) rfl;apply aA (yM k 256) rfl;rw [show max (0:Int) (min (k:Int) 256)=(k.toNat:Int) by omega];apply aA (oG 2 k.toNat 2) rfl;exact aJ rfl
theorem gW (k:Int) (hk:k≤256:=by omega):aL prog 101 [(.one (.int .i64 k):aI)] (.ret [qT (mkRat 1 (2^k.toNat))]):=by
 refine bV func101 Zw ?_;apply aA (OC 1) rfl;apply aA (UX k hk) rfl
 apply aA (uZ 1 (2^k.toNat) (Nat.pow_pos (by omega)) (by
  obtain ⟨H,hH⟩:∃ H,H=257:=⟨_,rfl⟩
  have h1:(dg (2^k.toNat)).length≤H:=eP (Nat.pow_lt_pow_right (by omega) (by omega));have h2:(dg (1:Int).natAbs).length=1:=by rw [show (1:Int).natAbs=1 from rfl,kS];rfl
  omega)) rfl
 exact aJ rfl
theorem Ld (q:Rat) (k:Int) (H:Nat) (hk:k≤256) (hq:Fit H q) (hH:H≤8589934592:=by omega):aL prog 185 [(qT q:aI),(.one (.int .i64 k):aI)] (.ret [qT (q*dB k.toNat)]):=by
 refine bV func185 Tl ?_;apply aA (UX k hk) rfl;dsimp only [aG,aH];have hz:decide (((2^k.toNat:Nat):Int)<0)=false:=decide_eq_false (Int.not_lt.2 (Int.natCast_nonneg _));have hw:=oH ((2^k.toNat:Nat):Int);rw [show iT ((2^k.toNat:Nat):Int) = .agg [dT (2^k.toNat), .exact (.bool false)] from by rw [show iT ((2^k.toNat:Nat):Int) = .agg [dT (2^k.toNat), .bool (decide (((2^k.toNat:Nat):Int)<0))] from rfl,hz]] at hw;apply aA hw rfl;apply aA (bF q (dB k.toNat) H 257 hq (lF (by omega))) rfl;exact aJ rfl
theorem gA (q:Rat) (H:Nat) (hq:Fit H q) (hH:H≤8589934592:=by omega):aL prog 99 [(qT q:aI)] (.ret [qT (jZ q:Rat)]):=by
 refine bV func99 Sb ?_;have h1:=pW hq.1;have h2:=pW hq.2;apply aA (cQ q) rfl;apply aA (Tu q.num q.den q.den_pos) rfl;apply aA (oH (q.num/(q.den:Int))) rfl;exact aJ rfl
theorem OK (q:Rat) (H:Nat) (hq:Fit H q) (hH:H≤8589934592:=by omega):aL prog 154 [(qT q:aI)] (.ret [qT (((-jZ (-q):Int)):Rat)]):=by
 refine bV func154 WD ?_;apply aA (pO q) rfl;apply aA (gA (-q) H hq.neg hH) rfl;apply aA (pO _) rfl;rw [show -((jZ (-q):Int):Rat)=((-jZ (-q):Int):Rat) by rw [Rat.intCast_neg]];exact aJ rfl
theorem PH (q:Rat) (k:Int) (H:Nat) (hk:k≤256) (hq:Fit H q) (h1:1≤H) (hH:H≤8000000000):aL prog 148 [(qT q:aI),(.one (.int .i64 k):aI)] (.ret [qT (gK q k.toNat)]):=by
 refine bV func148 Wi ?_;apply aA (Ld q k H hk hq) rfl;apply aA (gA (q*dB k.toNat) (H+257) (hq.mul (lF (by omega)))) rfl;apply aA (gW k hk) rfl;apply aA (bF _ _ (H+257) 257 (iP (hq.mul (lF (by omega)))) (qD (by omega))) rfl;exact aJ rfl
theorem YE (q:Rat) (k:Int) (H:Nat) (hk:k≤256) (hq:Fit H q) (h1:1≤H) (hH:H≤8000000000):aL prog 149 [(qT q:aI),(.one (.int .i64 k):aI)] (.ret [qT (HD q k.toNat)]):=by
 refine bV func149 aA5 ?_;apply aA (Ld q k H hk hq) rfl;apply aA (OK (q*dB k.toNat) (H+257) (hq.mul (lF (by omega)))) rfl;apply aA (gW k hk) rfl;apply aA (bF _ _ (H+257) 257 (by rw [Rat.intCast_neg];exact (iP (hq.mul (lF (by omega))).neg).neg) (qD (by omega))) rfl;exact aJ rfl
theorem Ry (a b:Rat) (k:Int) (H:Nat) (hk:k≤256) (ha:Fit H a) (hb:Fit H b) (h1:1≤H:=by omega) (hH:H≤8000000000:=by omega):aL prog 103 [(lP a b:aI),(.one (.int .i64 k):aI)] (.ret [lP (gK a k.toNat) (HD b k.toNat)]):=by
 refine bV func103 aa6 ?_;apply aA (PH a k H hk ha h1 hH) rfl;apply aA (YE b k H hk hb h1 hH) rfl;exact aJ rfl
open Go Go.Proofs Tryz Ord
def YG:Tr:=.ret [(W 1 0)]
def aJ7:Tr:=aO .lss 3 5 0 0 0 4 (.split (.u 2 0) (.ret [(WK 0)]) (bG .gtr 3 7 8 0 0 1 0 4 (.split (.u 3 0) YG (.ret [(W 0 0)]))))
theorem WX:aK prog f110 (fun _=>none) [.v none, .v none]=aJ7:=by kernel_rfl
def aw4:Tr:=.need (.call 59 [(WK 1)] [(some 2)]) (.call ⟨.value (.func 59),#[(.const (I3 1))],#[2]⟩) 33 true (.loop 0 [lK 0,lV 2 0,lV 2 1] (bG .lss 3 8 9 3 0 1 0 4 (.split (.u 6 0) (aC 54 [(.agg [(U 4 0),(U 5 0)]),(G2 0)] [(some 2)] [13,14] [33,33] 33 true (aO .add 3 11 1 3 0 3 (.back 0 [lV 8 0,lV 7 0,lV 7 1]))) (.ret [(.agg [(U 4 0),(U 5 0)])]))))
theorem Qw:aK prog f56 (fun _=>none) [.v (some 2), .v none]=aw4:=by kernel_rfl
theorem ap4 (n:Int) {d:Nat} (hd:d≠0:=by omega):jZ (mkRat n d)=n/(d:Int):=by
 unfold jZ;generalize hq:mkRat n d=q;obtain ⟨m,hm,h1,h2⟩:=Rat.mkRat_num_den hd (n':=q.num) (d':=q.den) (z':=q.den_nz) (c:=q.reduced) (by rw [hq]);rw [h1,h2,Int.natCast_mul,Int.mul_ediv_mul_of_pos_left _ _ (by omega)]
theorem We (k:Int) (m:Int) (hm:0≤m:=by omega):aL prog 110 [(.one (.int .i64 k):aI),(.one (.int .i64 m):aI)] (.ret [.one (.int .i64 (max 0 (min k m)))]):=by
 refine bV func110 WX ?_;apply vn bA rfl;refine vs _ rfl ?_ ?_<;>intro h1
 ·rw [show max 0 (min k m)=0 by omega];exact aJ rfl
 apply vn cB rfl;refine vs _ rfl ?_ ?_<;>intro h4
 ·rw [show max 0 (min k m)=m by omega];exact aJ rfl
 rw [show max 0 (min k m)=k by omega];exact aJ rfl
theorem HO (x:Int) (n L:Nat) (hL:∀ j,j≤n→(bd (x^j).natAbs).length≤L) (hx:(bd x.natAbs).length≤L:=by omega) (hn:n≤256:=by omega) (h:L≤137438953471:=by omega):aL prog 56 [(zT x:aI),(.one (.int .i64 n):aI)] (.ret [zT (x^n)]):=by
 refine bV func56 Qw ?_;have h1:aL prog 59 [.one (.int .i64 1)] (.ret [zT (x^0)]):=by rw [Int.pow_zero];exact jG 1
 apply aA h1 rfl;refine bD {j:Nat // j≤n} (fun g=>(.one (.int .i64 g.1):aI)::(zC (x^g.1)).map .one) (fun g=>n-g.1) ⟨0,eS _⟩ aR.rfl (fun _=>rfl) ?_;rintro ⟨j,hj⟩;dsimp only [aG,aH,List.map] at hj ⊢;apply vn bA rfl;refine vs _ rfl ?_ ?_<;>intro h3
 ·have hlj:=hL j hj;apply aA (iQ (x^j) x) rfl;rw [←Int.pow_succ];apply vn (aD) rfl;dsimp only [aG,aH];exact aX rfl ⟨⟨j+1,by omega⟩,aR.rfl,by show n-(j+1)<n-j;omega⟩
 rw [show n=j by omega];exact aJ rfl
theorem as8 (q:Rat) (k:Nat):-(gK (-q) k)=HD q k:=by
 unfold gK HD;rw [Rat.intCast_neg,show -q*dB k = -(q*dB k) by grind]
 grind
open Go Go.Proofs Tryz Ord
def ay7:Tr:=aO .lss 3 3 0 0 0 4 YG
theorem Xz:aK prog f164 (fun _=>none) [.v none]=ay7:=by kernel_rfl
def Sm:Tr:=.ret [(G3 1)]
def aA8:Tr:=.need (.call 163 [(.one (.fB 164 [])),(W 0 0)] [(some 3)]) (.call ⟨.value (.func 163),#[(.func 164),(tT 3)],#[189,52]⟩) 30 true Sm
theorem aA3:aK prog f125 (fun _=>none) [.v none]=aA8:=by kernel_rfl
def Zb:Tr:=.ret [(.agg [(U 1 0),(U 1 1),(U 1 2),(U 2 0),(U 2 1),(U 2 2)])]
def aB0:Tr:=aC 125 [(W 0 0)] [(some 3)] [3] [52] 30 false (aC 126 [(W 0 0)] [(some 3)] [5] [52] 30 true Zb)
theorem QK:aK prog f155 (fun _=>none) [.v none]=aB0:=by kernel_rfl
def aI8:Tr:=.need (.callv (.u 0 0) [(.agg [(U 1 0),(U 1 1),(U 1 2)]),(.agg [(U 2 0),(U 2 1),(U 2 2)])] [(some 3)]) (.call ⟨.value (tT 7),#[(tT 9),(tT 11)],#[30,30]⟩) 30 false (.need (.callv (.u 0 0) [(.agg [(U 1 0),(U 1 1),(U 1 2)]),(.agg [(U 2 3),(U 2 4),(U 2 5)])] [(some 3)]) (.call ⟨.value (tT 13),#[(tT 15),(tT 17)],#[30,30]⟩) 30 false (.need (.callv (.u 0 0) [(.agg [(U 1 3),(U 1 4),(U 1 5)]),(.agg [(U 2 0),(U 2 1),(U 2 2)])] [(some 3)]) (.call ⟨.value (tT 19),#[(tT 21),(tT 23)],#[30,30]⟩) 30 false (.need (.callv (.u 0 0) [(.agg [(U 1 3),(U 1 4),(U 1 5)]),(.agg [(U 2 3),(U 2 4),(U 2 5)])] [(some 3)]) (.call ⟨.value (tT 25),#[(tT 27),(tT 29)],#[30,30]⟩) 30 true (.need (.lit 3 [[(.u 3 0),(.u 3 1),(.u 3 2)],[(.u 4 0),(.u 4 1),(.u 4 2)],[(.u 5 0),(.u 5 1),(.u 5 2)],[(.u 6 0),(.u 6 1),(.u 6 2)]]) (.buildSlice 52 4 #[(0,(tT 12)),(1,(tT 18)),(2,(tT 24)),(3,(tT 30))]) 52 false (aC 155 [(.one (.c (.sr 3 7)))] [(some 6)] [31] [52] 39 true (.ret [(G6 8)]))))))
theorem ab8:aK prog f202 (fun _=>none) [.v none, .v (some 6), .v (some 6)]=aI8:=by kernel_rfl
def as5:Tr:=.need (.call 202 [(.one (.fB 32 [])),(G6 0),(G6 1)] [(some 6)]) (.call ⟨.value (.func 202),#[(.func 32),(tT 5),(tT 6)],#[115,39,39]⟩) 39 true (.ret [(G6 2)])
theorem aa0:aK prog f186 (fun _=>none) [.v (some 6), .v (some 6)]=as5:=by kernel_rfl
def ax3:Tr:=aC 72 [(.agg [(U 0 3),(U 0 4),(U 0 5)]),(G3 0)] [(some 3)] [4,6] [30,30] 30 true Sm
theorem Uo:aK prog f104 (fun _=>none) [.v (some 6)]=ax3:=by kernel_rfl
def aG2:Tr:=aC 48 [(G2 1)] [none] [5] [33] 9 false (dH 2 0 6 9 (aC 50 [(G4 0)] [(some 2)] [8] [35] 33 false (aC 48 [(G2 4)] [none] [9] [33] 9 false (dH 5 0 10 9 (bG .add 3 7 11 3 0 6 0 3 (.ret [(W 7 0)]))))))
def ay4:Tr:=aC 49 [(G2 0)] [(some 2)] [4] [33] 33 false aG2
theorem ZY:aK prog f13 (fun _=>none) [.v (some 4)]=ay4:=by kernel_rfl
def oQ (l:List Rat):Nat→Rat
 | 0=>0
 | i+1=>if i=0∨l.getD i 0<oQ l i then l.getD i 0 else oQ l i
theorem Mi {l:List Rat}:∀ i,i≤l.length→oQ l i=0∨oQ l i∈l
 | 0,_=>.inl rfl
 | i+1,h=>by
   rw [oQ];split
   ·exact .inr (Nr (oJ (show i<l.length by omega)))
   ·exact Mi i (by omega)
theorem qA {l:List Rat} {B:Nat} (h:∀ x∈l,Fit B x) (i:Nat) (hi:i≤l.length) (hB:1≤B:=by omega):Fit B (oQ l i):=by
 rcases Mi i hi with e | e
 ·rw [e];exact Fit.zero hB
 ·exact h _ e
theorem IP {a b:Rat}:fK a b<0↔a<b:=by
 unfold fK;by_cases h1:a<b
 ·rw [if_pos h1];exact ⟨fun h=>h1,fun h=>by omega⟩
 ·rw [if_neg h1];by_cases h2:b<a
  ·rw [if_pos h2];exact ⟨fun _=>by omega,fun h=>absurd h h1⟩
  ·rw [if_neg h2];exact ⟨fun h=>by omega,fun h=>absurd h h1⟩
theorem WW (c:Int):aL prog 164 [(.one (.int .i64 c):aI)] (.ret [.one (.bool (decide (c<0)))]):=by
 refine bV func164 Xz ?_;apply vn bA rfl;exact aJ rfl
theorem Om (l:List Rat) (B:Nat) (hl:∀ x∈l,Fit B x) (hB:1≤B) (hB2:B≤8589934592) (hs:l.length<1099511627776):aL prog 163 [(.one (.fB 164 []):aI),(.one (sQ l):aI)] (.ret [qT (oQ l l.length)]):=by
 refine bV func163 Ml ?_;apply vn (aW jW (bE _)) rfl;refine bD {i:Nat // i≤l.length} (fun g=>(.one (.int .i64 g.1):aI)::(qC (oQ l g.1)).map .one) (fun g=>l.length-g.1) ⟨0,eS _⟩ ⟨aI.Sub.same,Mk⟩ (fun _=>rfl) ?_;rintro ⟨i,hi⟩;dsimp only [aG,aH,List.map] at hi ⊢;apply vn bA rfl;refine vs _ rfl ?_ ?_<;>intro h3
 ·have hil:i<l.length:=by omega
  have hfx:=hl _ (Nr (oJ hil));have hfm:=qA hl i hi hB;apply vn (cY jW (oJ hil) (Int.toNat_natCast i)) rfl;apply vn (nY RE (by decide) (by simp) (.inl rfl)) rfl;apply vn aE rfl;dsimp only [aG,aH];refine vs _ rfl ?_ ?_<;>intro h7
  ·apply vn (aD) rfl
   exact aX rfl ⟨⟨i+1,by omega⟩,(by
    dsimp only;rw [oQ,if_pos (.inl (by omega))];exact aR.rfl),by show l.length-(i+1)<l.length-i;omega⟩
  apply aA (cX _ _ B B hfx hfm) rfl;apply nU (f:=164) (caps:=[]) rfl (WW (fK (l.getD i 0) (oQ l i))) rfl;refine vs _ rfl ?_ ?_<;>intro h12
  ·apply vn (aD) rfl
   exact aX rfl ⟨⟨i+1,by omega⟩,(by
    dsimp only;rw [oQ,if_pos (.inr (IP.1 h12))];exact aR.rfl),by show l.length-(i+1)<l.length-i;omega⟩
  apply vn (aD) rfl
  exact aX rfl ⟨⟨i+1,by omega⟩,(by
   dsimp only;rw [oQ,if_neg (by rintro (h | h);omega;exact h12 (IP.2 h))];exact aR.rfl),by show l.length-(i+1)<l.length-i;omega⟩
 rw [show l.length=i by omega];exact aJ rfl
theorem au3 (l:List Rat) (B:Nat) (hl:∀ x∈l,Fit B x) (hB:1≤B) (hB2:B≤8589934592) (hs:l.length<1099511627776):aL prog 125 [(.one (sQ l):aI)] (.ret [qT (oQ l l.length)]):=by
 refine bV func125 aA3 ?_;apply aA (Om l B hl hB hB2 hs) rfl;exact aJ rfl
theorem HI (l:List Rat) (B:Nat) (hl:∀ x∈l,Fit B x) (hB:1≤B) (hB2:B≤8589934592) (hs:l.length<1099511627776):aL prog 155 [(.one (sQ l):aI)] (.ret [lP (oQ l l.length) (mP l l.length)]):=by
 refine bV func155 QK ?_;apply aA (au3 l B hl hB hB2 hs) rfl;apply aA (YV l B hl hB hB2 hs) rfl;exact aJ rfl
abbrev HT (a b c d:Rat):List Rat:=[a*c,a*d,b*c,b*d]
def PB (a b c d:Rat):Rat:=oQ (HT a b c d) 4
def OZ (a b c d:Rat):Rat:=mP (HT a b c d) 4
theorem sI {a b c d:Rat} {A B:Nat} (ha:Fit A a) (hb:Fit A b) (hc:Fit B c) (hd:Fit B d):∀ x∈HT a b c d,Fit (A+B) x:=fun x hx=>by
 simp only [HT,List.mem_cons,List.not_mem_nil,or_false] at hx;rcases hx with rfl | rfl | rfl | rfl
 ·exact ha.mul hc
 ·exact ha.mul hd
 ·exact hb.mul hc
 ·exact hb.mul hd
theorem KE {a b c d:Rat} {A B:Nat} (ha:Fit A a) (hb:Fit A b) (hc:Fit B c) (hd:Fit B d) (h1:1≤A:=by omega):Fit (A+B) (PB a b c d)∧Fit (A+B) (OZ a b c d):=
 ⟨qA (sI ha hb hc hd) 4 (by simp),nG (sI ha hb hc hd) 4 (by simp)⟩
theorem ZH (a b c d:Rat) (A B:Nat) (h1:1≤A) (ha:Fit A a) (hb:Fit A b) (hc:Fit B c) (hd:Fit B d) (h:A+B≤4294967296):aL prog 202 [(.one (.fB 32 []):aI),(lP a b:aI),(lP c d:aI)] (.ret [lP (PB a b c d) (OZ a b c d)]):=by
 refine bV func202 ab8 ?_;apply nU (f:=32) (caps:=[]) rfl (bF a c A B ha hc) rfl;apply nU (f:=32) (caps:=[]) rfl (bF a d A B ha hd) rfl;apply nU (f:=32) (caps:=[]) rfl (bF b c A B hb hc) rfl;apply nU (f:=32) (caps:=[]) rfl (bF b d A B hb hd) rfl;dsimp only [aG,aH];apply uA (us:=rQ (HT a b c d)) rfl;apply aA (HI (HT a b c d) (A+B) (sI ha hb hc hd) (by omega) (by omega) (by simp)) rfl;exact aJ rfl
theorem al7 (a b c d:Rat) (A B:Nat) (h1:1≤A) (ha:Fit A a) (hb:Fit A b) (hc:Fit B c) (hd:Fit B d) (h:A+B≤4294967296:=by omega):aL prog 186 [(lP a b:aI),(lP c d:aI)] (.ret [lP (PB a b c d) (OZ a b c d)]):=by
 refine bV func186 aa0 ?_;apply aA (ZH a b c d A B h1 ha hb hc hd h) rfl;exact aJ rfl
theorem rF (a b:Rat) (A B:Nat) (ha:Fit A a) (hb:Fit B b) (h:B+A≤4294967296:=by omega):aL prog 104 [(lP a b:aI)] (.ret [qT (b-a)]):=by
 refine bV func104 Uo ?_;apply aA (lZ b a B A hb ha) rfl;exact aJ rfl
open Go Go.Proofs Tryz Ord
def aq5:Tr:=.need (.call 22 [(WK 1)] [(some 3)]) (.call ⟨.value (.func 22),#[(.const (I3 1))],#[2]⟩) 30 true (.ret [(G3 0)])
theorem ai0:aK prog f69 (fun _=>none) []=aq5:=by kernel_rfl
def Up:Tr:=.ret [(G3 2)]
def ad9:Tr:=aC 94 [(G3 0),(G3 1)] [(some 3),none] [8,9] [30,30] 55 false Up
theorem LN:aK prog f66 (fun _=>none) [.v (some 3), .v (some 3)]=ad9:=by kernel_rfl
def aa9:Tr:=aC 22 [(W 0 0)] [(some 3)] [5] [2] 30 false (aC 22 [(W 1 0)] [(some 3)] [7] [2] 30 true (aC 66 [(G3 2),(G3 3)] [(some 3)] [6,8] [30,30] 30 true YL))
theorem av9:aK prog f67 (fun _=>none) [.v none, .v none]=aa9:=by kernel_rfl
def ar7:Tr:=aC 120 [(G1 0),(W 2 0)] [(some 1)] [17,18] [26,3] 26 false (aC 102 [(W 4 0),(G1 5)] [(some 2)] [14,19] [4,26] 28 false (aC 91 [(G3 0)] [(some 1)] [21] [30] 26 false (aC 120 [(G1 7),(W 2 0)] [(some 1)] [22,23] [26,3] 26 false (.need (.call 122 [(.one (.c (.k (.int .u64 1))))] [(some 1)]) (.call ⟨.value (.func 122),#[(.const (.int .u64 1))],#[153]⟩) 26 false (aC 121 [(G1 8),(G1 9)] [(some 1)] [24,25] [26,26] 26 true (.ret [(.agg [(U 6 0),(U 6 1),(U 10 0)])]))))))
def WL:Tr:=aC 120 [(G1 0),(W 2 0)] [(some 1)] [17,18] [26,3] 26 false (aC 102 [(tF false),(G1 3)] [(some 2)] [14,19] [4,26] 28 false (aC 91 [(G3 0)] [(some 1)] [21] [30] 26 false (aC 120 [(G1 5),(W 2 0)] [(some 1)] [22,23] [26,3] 26 false (.need (.call 122 [(.one (.c (.k (.int .u64 1))))] [(some 1)]) (.call ⟨.value (.func 122),#[(.const (.int .u64 1))],#[153]⟩) 26 false (aC 121 [(G1 6),(G1 7)] [(some 1)] [24,25] [26,26] 26 true (.ret [(.agg [(U 4 0),(U 4 1),(U 8 0)])]))))))
def al1:Tr:=.need (.call 119 [(W 1 0),(WK 1000)] [none]) (.call ⟨.value (.func 119),#[(tT 5),(.const (I3 1000))],#[3,3]⟩) 3 true (.split (.u 0 1) (aO .rem 3 11 2 2 0 3 (aO .eql 3 12 1 3 0 4 ar7)) WL)
theorem RP:aK prog f71 (fun _=>none) [.v (some 3), .v none]=al1:=by kernel_rfl
def ad8:Tr:=aC 36 [(.agg [(U 0 3),(U 0 4),(U 0 5)])] [(some 3)] [4] [30] 30 false (aC 36 [(G3 0)] [(some 3)] [7] [30] 30 true Zb)
theorem am8:aK prog f37 (fun _=>none) [.v (some 6)]=ad8:=by kernel_rfl
def ao7:Tr:=aC 37 [(G6 1)] [(some 6)] [6] [39] 39 true (aC 156 [(G6 0),(G6 2)] [(some 6)] [5,7] [39,39] 39 true (.ret [(G6 3)]))
theorem ai1:aK prog f109 (fun _=>none) [.v (some 6), .v (some 6)]=ao7:=by kernel_rfl
def Um:Tr:=.ret [(G6 5)]
def ZC:Tr:=aC 17 [(.agg [(U 0 3),(U 0 4),(U 0 5)])] [none] [11] [30] 3 true (aO .leq 3 12 0 3 0 4 (.split (.u 4 0) (aC 37 [(G6 0)] [(some 6)] [14] [39] 39 true Um) (aC 36 [(G3 0)] [(some 3)] [18] [30] 30 false (.need (.lit 3 [[(.u 5 0),(.u 5 1),(.u 5 2)],[(.u 0 3),(.u 0 4),(.u 0 5)]]) (.buildSlice 52 2 #[(0,(tT 19)),(1,(tT 21))]) 52 false (aC 126 [(.one (.c (.sr 3 6)))] [(some 3)] [22] [52] 30 true (.ret [(.agg [tN,(tE (.bool false)),tN,(U 7 0),(U 7 1),(U 7 2)])]))))))
def Zh:Tr:=aC 17 [(G3 0)] [none] [5] [30] 3 true (aO .geq 3 6 0 1 0 4 (.split (.u 2 0) (.ret [(G6 0)]) ZC))
theorem ak8:aK prog f203 (fun _=>none) [.v (some 6)]=Zh:=by kernel_rfl
def ao2:Tr:=aC 85 [(G2 0)] [(some 3)] [4] [28] 30 true Sm
theorem ZF:aK prog f128 (fun _=>none) [.v (some 3)]=ao2:=by kernel_rfl
def ah2:Tr:=aC 91 [(G3 0)] [(some 1)] [3] [30] 26 true (aC 85 [(.agg [(U 1 0),(tE (.bool false))])] [(some 3)] [5] [28] 30 true Up)
theorem ah3:aK prog f129 (fun _=>none) [.v (some 3)]=ah2:=by kernel_rfl
def aj5:Tr:=aC 148 [(G3 0),(W 1 0)] [(some 3)] [5,6] [30,3] 30 false (aC 149 [(G3 0),(W 1 0)] [(some 3)] [8,9] [30,3] 30 true Sr)
theorem Xh:aK prog f124 (fun _=>none) [.v (some 3), .v none]=aj5:=by kernel_rfl
def Zu:Tr:=aC 32 [(G3 0),(G3 1)] [(some 3)] [6,7] [30,30] 30 false (aC 32 [(.agg [(U 0 3),(U 0 4),(U 0 5)]),(G3 1)] [(some 3)] [10,11] [30,30] 30 true (.need (.lit 3 [[(.u 2 0),(.u 2 1),(.u 2 2)],[(.u 3 0),(.u 3 1),(.u 3 2)]]) (.buildSlice 52 2 #[(0,(tT 8)),(1,(tT 12))]) 52 false (aC 155 [(.one (.c (.sr 3 4)))] [(some 6)] [13] [52] 39 true Um)))
theorem Rw:aK prog f108 (fun _=>none) [.v (some 6), .v (some 3)]=Zu:=by kernel_rfl
def ag5:Tr:=aC 32 [(G3 1),(G3 0)] [(some 3)] [6,8] [30,30] 30 false (aC 99 [(G3 2)] [(some 3)] [9] [30] 30 false (aC 32 [(G3 3),(.agg [(U 0 3),(U 0 4),(U 0 5)])] [(some 3)] [10,12] [30,30] 30 false (aC 32 [(.agg [(U 1 3),(U 1 4),(U 1 5)]),(G3 0)] [(some 3)] [15,17] [30,30] 30 false (aC 154 [(G3 5)] [(some 3)] [18] [30] 30 false (aC 32 [(G3 6),(.agg [(U 0 3),(U 0 4),(U 0 5)])] [(some 3)] [19,21] [30,30] 30 true (.ret [(.agg [(U 4 0),(U 4 1),(U 4 2),(U 7 0),(U 7 1),(U 7 2)])]))))))
theorem ad6:aK prog f107 (fun _=>none) [.v (some 6), .v (some 6)]=ag5:=by kernel_rfl
def Tj:Tr:=aC 107 [(G6 0),(G6 3)] [(some 6)] [7,10] [81,39] 39 true (.ret [(G6 4)])
def Zm:Tr:=aC 186 [(G6 1),(G6 2)] [(some 6)] [8,9] [39,39] 39 true Tj
theorem ak0:aK prog f150 (fun _=>none) [.v (some 6), .v (some 6), .v (some 6)]=Zm:=by kernel_rfl
def ap0:Tr:=aC 108 [(G6 1),(G3 2)] [(some 6)] [8,9] [39,30] 39 true Tj
theorem QO:aK prog f153 (fun _=>none) [.v (some 6), .v (some 6), .v (some 3)]=ap0:=by kernel_rfl
def ap9:Tr:=aC 203 [(G6 0)] [(some 6)] [3] [39] 39 true (.ret [(.agg [(U 1 3),(U 1 4),(U 1 5)])])
theorem Mm:aK prog f187 (fun _=>none) [.v (some 6)]=ap9:=by kernel_rfl
def Zi:Tr:=aC 36 [(G3 0)] [(some 3)] [3] [30] 30 false (.ret [(.agg [(U 1 0),(U 1 1),(U 1 2),(U 0 0),(U 0 1),(U 0 2)])])
theorem QN:aK prog f189 (fun _=>none) [.v (some 3)]=Zi:=by kernel_rfl
def aq2:Tr:=bG .lss 3 8 7 2 0 1 0 0 (.split (.u 9 0) (mB 0 0 2 0 201 6 8 (mN 10 0 (some 6) 39 10 (aC 156 [(.agg [(U 3 0),(U 4 0),(U 5 0),(U 6 0),(U 7 0),(U 8 0)]),(G6 11)] [(some 6)] [12,13] [39,39] 39 true (aO .add 3 8 1 2 0 3 (.back 0 [lV 13 0,lV 12 0,lV 12 1,lV 12 2,lV 12 3,lV 12 4,lV 12 5]))))) (.ret [(.agg [(U 3 0),(U 4 0),(U 5 0),(U 6 0),(U 7 0),(U 8 0)])]))
def ag1:Tr:=dH 0 0 6 201 (.loop 0 [lK 0,lN,(.w (.one (.c (.k (.bool false))))),lN,lN,(.w (.one (.c (.k (.bool false))))),lN] aq2)
theorem Sz:aK prog f188 (fun _=>none) [.v none]=ag1:=by kernel_rfl
theorem lW {a b:Rat} {B:Nat} (ha:Fit B a) (hb:Fit B b):∀ x ∈ [a,b],Fit B x:=fun x hx=>by
 simp only [List.mem_cons,List.not_mem_nil,or_false] at hx;rcases hx with rfl | rfl
 ·exact ha
 ·exact hb
def pY (p:Rat×Rat) (u:Rat):Rat×Rat:=(oQ [p.1*u,p.2*u] 2,mP [p.1*u,p.2*u] 2)
def bL (a b:Rat):Rat:=if b=0 then 0 else a/b
def Nh (p:Rat×Rat):Rat×Rat:=(-p.2,-p.1)
def QJ (p q:Rat×Rat):Rat×Rat:=(p.1 + -q.2,p.2 + -q.1)
def dE (p:Rat×Rat):Rat×Rat:=if 0≤p.1 then p else if p.2≤0 then Nh p else (0,mP [-p.1,p.2] 2)
def uE (up down:Rat) (p:Rat×Rat):Rat×Rat:=((jZ (p.1*up):Rat)*down,((-jZ (-(p.2*up)):Int):Rat)*down)
def MB (p q:Rat×Rat):Rat×Rat:=(PB p.1 p.2 q.1 q.2,OZ p.1 p.2 q.1 q.2)
abbrev gL (p:Rat×Rat):aI:=lP p.1 p.2
theorem fP (q:Rat):q.num.sign≤0↔q≤0:=by
 rw [Int.sign_nonpos_iff];have h0:0≤(-q).num↔0 ≤ -q:=Rat.num_nonneg;rw [Rat.neg_num] at h0
 constructor
 ·intro h;have:=h0.1 (by omega);grind
 ·intro h;have:=h0.2 (by grind);omega
theorem dG  :aL prog 69 [] (.ret [qT ((1:Int):Rat)]):=by
 refine bU (args:=[]) (ins:=[]) (hints:=(fun _=>none)) fo (by kernel_rfl) func69 trivial ?_;rw [ai0];dsimp only [List.map,In.env,aG,aH];apply aA (dU 1) rfl;exact aJ rfl
theorem bI (a b:Rat) (A B:Nat) (ha:Fit A a) (hb:Fit B b) (h:A+B≤34359738368:=by omega):aL prog 66 [(qT a:aI),(qT b:aI)] (.ret [qT (bL a b)]):=by
 refine bV func66 LN ?_;apply aA (UU a b A B ha hb h) rfl;exact aJ rfl
theorem tL (n d:Int) (h1:-9223372036854775808≤n:=by omega) (h2:n<9223372036854775808:=by omega) (h3:-9223372036854775808≤d:=by omega) (h4:d<9223372036854775808:=by omega):aL prog 67 [(.one (.int .i64 n):aI),(.one (.int .i64 d):aI)] (.ret [qT (bL n d)]):=by
 refine bV func67 av9 ?_;apply aA (dU n h1 h2) rfl;apply aA (dU d h3 h4) rfl;apply aA (bI n d 64 64 (Fit.int (by omega) (by omega)) (Fit.int (by omega) (by omega))) rfl;exact aJ rfl
theorem Ng (p:Rat×Rat):aL prog 37 [(gL p:aI)] (.ret [gL (Nh p)]):=by
 refine bV func37 am8 ?_;apply aA (pO p.2) rfl;apply aA (pO p.1) rfl;exact aJ rfl
theorem ZE (p q:Rat×Rat) (A B:Nat) (h1:Fit A p.1) (h2:Fit A p.2) (h3:Fit B q.1) (h4:Fit B q.2) (h:A+B≤34359738368:=by omega):aL prog 109 [(gL p:aI),(gL q:aI)] (.ret [gL (QJ p q)]):=by
 refine bV func109 ai1 ?_;apply aA (Ng q) rfl;apply aA (Oi p.1 p.2 (-q.2) (-q.1) A B h1 h2 h4.neg h3.neg h) rfl;exact aJ rfl
theorem kY (p:Rat×Rat) (u:Rat) (A B:Nat) (h1:Fit A p.1) (h2:Fit A p.2) (hu:Fit B u) (hA:1≤A:=by omega) (h:A+B≤8589934592:=by omega):aL prog 108 [(gL p:aI),(qT u:aI)] (.ret [gL (pY p u)]):=by
 refine bV func108 Rw ?_;apply aA (bF p.1 u A B h1 hu) rfl;apply aA (bF p.2 u A B h2 hu) rfl;apply uA (us:=[qC (p.1*u),qC (p.2*u)]) rfl;apply aA (HI [p.1*u,p.2*u] (A+B) (lW (h1.mul hu) (h2.mul hu)) (by omega) (by omega) (by simp)) rfl;exact aJ rfl
theorem ac9 (p:Rat×Rat) (A:Nat) (f1:Fit A p.1) (f2:Fit A p.2) (hA:1≤A) (h:A≤8589934592):aL prog 203 [(gL p:aI)] (.ret [gL (dE p)]):=by
 refine bV func203 ak8 ?_;have hs1:0≤p.1.num.sign↔0≤p.1:=by rw [Int.sign_nonneg_iff];exact Rat.num_nonneg
 have hs2:=fP p.2;apply aA (bB p.1) rfl;apply vn eY rfl;refine vs _ rfl ?_ ?_<;>intro h2
 ·rw [show dE p=p from if_pos (hs1.1 h2)];exact aJ rfl
 apply aA (bB p.2) rfl;apply vn gE rfl;dsimp only [aG,aH];refine vs _ rfl ?_ ?_<;>intro h6
 ·apply aA (Ng p) rfl;dsimp only [aG,aH];rw [show dE p=Nh p from (if_neg fun h=>h2 (hs1.2 h)).trans (if_pos (hs2.1 h6))];exact aJ rfl
 apply aA (pO p.1) rfl;apply uA (us:=[qC (-p.1),qC p.2]) rfl;apply aA (YV [-p.1,p.2] A (lW f1.neg f2) hA h (by simp)) rfl;dsimp only [aG,aH];rw [show dE p=(0,mP [-p.1,p.2] 2) from (if_neg fun h=>h2 (hs1.2 h)).trans (if_neg fun h=>h6 (hs2.2 h))];exact fR ⟨⟨fU.1,fU.2.1,fU.2.2.1,aN.Sub.same,aN.Sub.same,aN.Sub.same,trivial⟩,trivial⟩
theorem KO (up down:Rat) (p:Rat×Rat) (A U:Nat) (h1:Fit A p.1) (h2:Fit A p.2) (hu:Fit U up) (hd:Fit U down) (hA:1≤A:=by omega) (h:A+U+U≤8589934592:=by omega):aL prog 107 [(lP up down:aI),(gL p:aI)] (.ret [gL (uE up down p)]):=by
 refine bV func107 ad6 ?_;apply aA (bF p.1 up A U h1 hu) rfl;apply aA (gA (p.1*up) (A+U) (h1.mul hu)) rfl;apply aA (bF _ down (A+U) U (iP (h1.mul hu)) hd) rfl;apply aA (bF p.2 up A U h2 hu) rfl;dsimp only [aG,aH];apply aA (OK (p.2*up) (A+U) (h2.mul hu)) rfl;apply aA (bF _ down (A+U) U (by rw [Rat.intCast_neg];exact (iP (h2.mul hu).neg).neg) hd) rfl;exact aJ rfl
theorem Bw (up down:Rat) (p q:Rat×Rat) (A B U:Nat) (h1:Fit A p.1) (h2:Fit A p.2) (h3:Fit B q.1) (h4:Fit B q.2) (hu:Fit U up) (hd:Fit U down) (hA:1≤A:=by omega) (h:A+B+U+U≤4294967296:=by omega):aL prog 150 [(lP up down:aI),(gL p:aI),(gL q:aI)] (.ret [gL (uE up down (MB p q))]):=by
 refine bV func150 ak0 ?_;have hm:=KE h1 h2 h3 h4 hA;apply aA (al7 p.1 p.2 q.1 q.2 A B hA h1 h2 h3 h4) rfl;apply aA (KO up down (MB p q) (A+B) U hm.1 hm.2 hu hd) rfl;exact aJ rfl
theorem Qt (up down:Rat) (p:Rat×Rat) (u:Rat) (A B U:Nat) (h1:Fit A p.1) (h2:Fit A p.2) (hb:Fit B u) (hu:Fit U up) (hd:Fit U down) (hA:1≤A:=by omega) (h:A+B+U+U≤4294967296:=by omega):aL prog 153 [(lP up down:aI),(gL p:aI),(qT u:aI)] (.ret [gL (uE up down (pY p u))]):=by
 refine bV func153 QO ?_;apply aA (kY p u A B h1 h2 hb hA) rfl;apply aA (KO up down (pY p u) (A+B) U (qA (lW (h1.mul hb) (h2.mul hb)) 2 (by simp)) (nG (lW (h1.mul hb) (h2.mul hb)) 2 (by simp)) hu hd) rfl;exact aJ rfl
theorem kC (p:Rat×Rat) (A:Nat) (h1:Fit A p.1) (h2:Fit A p.2) (hA:1≤A:=by omega) (h:A≤8589934592:=by omega):aL prog 187 [(gL p:aI)] (.ret [qT (dE p).2]):=by
 refine bV func187 Mm ?_;apply aA (ac9 p A h1 h2 hA h) rfl;exact aJ rfl
theorem HQ (r:Rat):aL prog 189 [(qT r:aI)] (.ret [gL (-r,r)]):=by
 refine bV func189 QN ?_;apply aA (pO r) rfl;exact aJ rfl
theorem ad2 (q:Rat) (H:Nat) (hq:Fit H q) (h:H≤8589934592:=by omega):aL prog 129 [(qT q:aI)] (.ret [qT ((q.den:Int):Rat)]):=by
 refine bV func129 ah3 ?_;apply aA (cQ q (by have:=(Fit.dl hq).2;omega)) rfl;dsimp only [aG,aH];have hw:=oH (q.den:Int);rw [show iT (q.den:Int) = .agg [dT q.den, .exact (.bool false)] from by rw [show iT (q.den:Int) = .agg [dT q.den, .bool (decide ((q.den:Int)<0))] from rfl,decide_eq_false (show ¬ (q.den:Int)<0 by omega)]] at hw;apply aA hw rfl;exact aJ rfl
theorem af3 (q:Rat):aL prog 128 [(qT q:aI)] (.ret [qT (q.num:Rat)]):=by
 refine bV func128 ZF ?_;apply aA (oH q.num) rfl;exact aJ rfl
theorem VV (q:Rat) (k:Int) (H:Nat) (hq:Fit H q) (hk:k≤256:=by omega) (h1:1≤H:=by omega) (hH:H≤8000000000:=by omega):aL prog 124 [(qT q:aI),(.one (.int .i64 k):aI)] (.ret [gL (gK q k.toNat,HD q k.toNat)]):=by
 refine bV func124 Xh ?_;apply aA (PH q k H hk hq h1 hH) rfl;apply aA (YE q k H hk hq h1 hH) rfl;exact aJ rfl
open Go Go.Proofs Tryz Ord
def ac2:Tr:=.split (.u 6 0) (.need (.call 22 [(WK 2)] [(some 3)]) (.call ⟨.value (.func 22),#[(.const (I3 2))],#[2]⟩) 30 false (.need (.call 71 [(G3 7),(WK 1000)] [(some 3)]) (.call ⟨.value (.func 71),#[(tT 10),(.const (I3 1000))],#[30,3]⟩) 30 true (aC 32 [(.agg [(U 3 0),(U 4 0),(U 5 0)]),(G3 8)] [(some 3)] [9,11] [30,30] 30 true (aO .sub 3 7 1000 2 0 3 (.back 0 [lV 10 0,lV 9 0,lV 9 1,lV 9 2]))))) (.need (.call 22 [(WK 2)] [(some 3)]) (.call ⟨.value (.func 22),#[(.const (I3 2))],#[2]⟩) 30 false (aC 71 [(G3 7),(W 2 0)] [(some 3)] [14,15] [30,3] 30 true (aC 32 [(.agg [(U 3 0),(U 4 0),(U 5 0)]),(G3 8)] [(some 3)] [13,16] [30,30] 30 true (aC 69 [] [(some 3)] [] [] 30 false (aC 66 [(G3 10),(G3 9)] [(some 3)] [19,20] [30,30] 30 true (.ret [(.agg [(U 9 0),(U 9 1),(U 9 2),(U 11 0),(U 11 1),(U 11 2)])]))))))
def ZU:Tr:=aC 69 [] [(some 3)] [] [] 30 true (.loop 0 [lV 0 0,lV 1 0,lV 1 1,lV 1 2] (aO .gtr 3 5 1000 2 0 4 ac2))
theorem Wn:aK prog f34 (fun _=>none) [.v none]=ZU:=by kernel_rfl
def Wz:Tr:=.need (.call 22 [(WK 2)] [(some 3)]) (.call ⟨.value (.func 22),#[(.const (I3 2))],#[2]⟩) 30 false (aC 32 [(G3 14),(G3 15)] [(some 3)] [27,28] [30,30] 30 false (aC 189 [(G3 16)] [(some 6)] [29] [30] 39 false (.need (.lit 6 [[(.u 17 0),(.u 17 1),(.u 17 2),(.u 17 3),(.u 17 4),(.u 17 5)]]) (.buildSlice 201 1 #[(0,(tT 30))]) 201 false (.need (.app 6 112 (some 4) none (some 18)) (.call ⟨.builtin .append,#[(tT 25),(tT 31)],#[201,201]⟩) 201 false (aC 188 [(.one (.c (.sr 6 19)))] [(some 6)] [32] [201] 39 true (.ret [(G6 20)]))))))
def aa4:Tr:=aO .gtr 3 13 0 12 0 4 (.split (.u 13 0) (.need (.lit 6 [[(.u 5 0),(.u 6 0),(.u 7 0),(.u 8 0),(.u 9 0),(.u 10 0)]]) (.buildSlice 201 1 #[(0,(tT 18))]) 201 false (.need (.app 6 112 (some 4) none (some 14)) (.call ⟨.builtin .append,#[(tT 17),(tT 19)],#[201,201]⟩) 201 false (.need (.callv (.u 2 0) [(.agg [(U 5 0),(U 6 0),(U 7 0),(U 8 0),(U 9 0),(U 10 0)]),(W 3 0)] [(some 6)]) (.call ⟨.value (tT 21),#[(tT 22),(tT 23)],#[39,3]⟩) 39 true (aO .add 3 15 1 3 0 3 (.back 0 [lV 17 0, .row 15,lV 16 0,lV 16 1,lV 16 2,lV 16 3,lV 16 4,lV 16 5]))))) (aC 187 [(.agg [(U 5 0),(U 6 0),(U 7 0),(U 8 0),(U 9 0),(U 10 0)])] [(some 3)] [26] [39] 30 false Wz))
def ag8:Tr:=.loop 0 [lK 0, .nilrow,lV 1 0,lV 1 1,lV 1 2,lV 1 3,lV 1 4,lV 1 5] (aC 187 [(.agg [(U 5 0),(U 6 0),(U 7 0),(U 8 0),(U 9 0),(U 10 0)])] [(some 3)] [9] [39] 30 false (aC 68 [(G3 11),(.agg [(U 0 3),(U 0 4),(U 0 5)])] [none] [10,12] [30,30] 3 true aa4))
theorem ai4:aK prog f151 (fun _=>none) [.v (some 6), .v (some 6), .v none]=ag8:=by kernel_rfl
theorem kE {q:Rat} {H:Nat} (h:Fit H q) (n:Nat) (hH:1≤H:=by omega):Fit (H*n+1) (q^n):=by
 refine ⟨?_,?_⟩
 ·rw [Rat.num_pow,Int.natAbs_pow];exact gM h.1 hH
 ·rw [Rat.den_pow];exact gM h.2 hH
theorem am7 {x H n:Nat} (h:x<2^H) (hH:1≤H):(dg (x^n)).length≤H*n+1:=eP (gM h hH)
theorem gQ (q:Rat) (n:Int) (N H:Nat) (hq:Fit H q) (hH1:1≤H:=by omega) (hn:max 0 (min n 1000)=(N:Int):=by omega) (hH:H≤100000000:=by omega):aL prog 71 [(qT q:aI),(.one (.int .i64 n):aI)] (.ret [qT (q^N)]):=by
 refine bV func71 RP ?_;have hN:N≤1000:=by omega
 have hHN:H*N≤100000000000:=by
  have:=Nat.mul_le_mul hH hN;omega
 have hden:0<q.den^N:=Nat.pow_pos q.den_pos;have hdg:(dg (q.den^N)).length≤H*N+1:=am7 hq.2 hH1;have hdl:=(Fit.dl hq).2;apply aA (yM n 1000) rfl;rw [hn];refine vs _ rfl ?_ ?_<;>intro h1
 ·apply vn (cD) rfl;apply vn aE rfl;apply aA (oG q.num.natAbs N H hH1 hq.1) rfl;dsimp only [aG,aH];have hneg:q.num<0:=h1
  have hz:(q^N).num=if decide (((N:Int)%2)=1) then -((q.num.natAbs^N:Nat):Int) else ((q.num.natAbs^N:Nat):Int):=by
   have e:q.num = -(q.num.natAbs:Int):=by omega
   rw [Rat.num_pow,Int.natCast_pow];generalize (q.num.natAbs:Int)=m at e;rw [e,Int.neg_pow];rcases Nat.mod_two_eq_zero_or_one N with h | h
   ·rw [h,if_neg (by rw [decide_eq_true_iff];omega)];simp
   ·rw [h,if_pos (by rw [decide_eq_true_iff];omega)];simp
  apply aA (dC _ _ _ hz) rfl;apply aA (cQ q) rfl;apply aA (oG q.den N H hH1 hq.2) rfl;apply aA (fG 1) rfl;dsimp only [aG,aH];apply aA (sF (q.den^N) 1 hden hden) rfl;dsimp only [aG,aH];refine aJ ?_;show [aI.agg [dT (q^N).num.natAbs, .bool (decide ((q^N).num<0)),dT (q.den^N-1)]] = [qT (q^N)];simp only [qT,qC,Rat.den_pow]
 apply aA (oG q.num.natAbs N H hH1 hq.1) rfl;dsimp only [aG,aH]
 have hz:(q^N).num=if false=true then -((q.num.natAbs^N:Nat):Int) else ((q.num.natAbs^N:Nat):Int):=by
  have e:(q.num.natAbs:Int)=q.num:=by omega
  rw [if_neg (by simp),Rat.num_pow,Int.natCast_pow,e]
 apply aA (dC false _ _ hz) rfl;apply aA (cQ q) rfl;apply aA (oG q.den N H hH1 hq.2) rfl;apply aA (fG 1) rfl;dsimp only [aG,aH];apply aA (sF (q.den^N) 1 hden hden) rfl;dsimp only [aG,aH];refine aJ ?_;show [aI.agg [dT (q^N).num.natAbs, .bool (decide ((q^N).num<0)),dT (q.den^N-1)]] = [qT (q^N)];simp only [qT,qC,Rat.den_pow]
def mM (p:Nat):Rat:=bL ((1:Int):Rat) (dB p)
theorem Qm (p:Nat):Fit (p+1) (dB p):=Fit.int (by omega) (by rw [Int.natAbs_natCast];exact Nat.pow_lt_pow_right (by omega) (by omega))
theorem Wk (p:Nat):((1:Int):Rat)*((2:Int):Rat)^p=dB p:=by
 rw [dB,Int.natCast_pow,Rat.intCast_pow,show ((1:Int):Rat)=1 from rfl,Rat.one_mul];rfl
theorem JP (p:Nat) (hp:p≤1000:=by omega):aL prog 34 [(.one (.int .i64 p):aI)] (.ret [lP (dB p) (mM p)]):=by
 refine bV func34 Wn ?_;apply aA dG rfl;refine bD Unit (fun _=>(.one (.int .i64 (p:Int)):aI)::(qC ((1:Int):Rat)).map .one) (fun _=>0) () aR.rfl (fun _=>rfl) ?_;rintro ⟨⟩;dsimp only [aG,aH,List.map];apply vn cB rfl;refine vs _ rfl ?_ ?_<;>intro h3
 ·exfalso;omega
 apply aA (dU 2) rfl;apply aA (gQ ((2:Int):Rat) p p 2 (Fit.int (by omega) (by omega))) rfl;apply aA (bF ((1:Int):Rat) (((2:Int):Rat)^p) 1 (2*p+1) (Fit.int (by omega) (by omega)) (kE (Fit.int (by omega) (by omega)) p)) rfl;rw [Wk];dsimp only [aG,aH];apply aA dG rfl;apply aA (bI ((1:Int):Rat) (dB p) 1 (p+1) (Fit.int (by omega) (by omega)) (Qm p)) rfl;exact aJ rfl
abbrev VS:=List (Rat×Rat)
abbrev vS (l:VS):List (List aN):=l.map fun p=>fH p.1 p.2
def Qd (p q:Rat×Rat):Rat×Rat:=(p.1+q.1,p.2+q.2)
def MM (l:VS):Rat×Rat:=l.foldl Qd (0,0)
theorem ID {B:Nat}:∀ (l:VS) (p:Rat×Rat) (A:Nat),(∀ x∈l,Fit B x.1∧Fit B x.2)→Fit A p.1→Fit A p.2→Fit (A+l.length*(B+1)) (l.foldl Qd p).1∧Fit (A+l.length*(B+1)) (l.foldl Qd p).2
 | [],p,A,_,h1,h2=>by simpa using ⟨h1,h2⟩
 | x::xs,p,A,h,h1,h2=>by
   have hx:=h x List.mem_cons_self;have:=ID xs (Qd p x) (A+B+1) (fun y hy=>h y (List.mem_cons_of_mem _ hy)) (h1.add hx.1) (h2.add hx.2);rw [List.length_cons,Nat.add_mul];exact ⟨this.1.mono (by omega),this.2.mono (by omega)⟩
theorem aI7:aV aI.Sub [.one (.exact (.slice none 0 0)), .one (.bool false), .one (.exact (.slice none 0 0)), .one (.exact (.slice none 0 0)), .one (.bool false), .one (.exact (.slice none 0 0))] ((fH 0 0).map .one):=⟨fU.1,fU.2.1,fU.2.2.1,fU.1,fU.2.1,fU.2.2.1,trivial⟩
theorem Mt (l:VS) (B:Nat) (hl:∀ x∈l,Fit B x.1∧Fit B x.2) (hs:l.length<1099511627776) (hB:l.length*(B+1)+B+1≤34359738368):aL prog 188 [(.one (.slice 6 (vS l)):aI)] (.ret [gL (MM l)]):=by
 refine bV func188 Sz ?_;apply vn (aW SG (bE _)) rfl;refine bD {i:Nat // i≤l.length} (fun g=>(.one (.int .i64 g.1):aI)::(fH (MM (l.take g.1)).1 (MM (l.take g.1)).2).map .one) (fun g=>l.length-g.1) ⟨0,eS _⟩ ⟨aI.Sub.same,aI7⟩ (fun _=>rfl) ?_;rintro ⟨i,hi⟩;dsimp only [aG,aH,List.map] at hi ⊢;apply vn bA rfl;refine vs _ rfl ?_ ?_<;>intro h3
 ·obtain ⟨x,hx⟩:∃ x,l[i]? = some x:=⟨_,dS (by omega)⟩
  have hxf:=hl x (Nr hx);have hpf:=ID (l.take i) (0,0) 1 (fun y hy=>hl y (List.mem_of_mem_take hy)) (Fit.zero (by omega)) (Fit.zero (by omega));have hlt:(l.take i).length*(B+1)≤l.length*(B+1):=Nat.mul_le_mul_right _ (by rw [List.length_take];omega);apply vn (cY SG hx) rfl;apply vn (nY aN3 (by decide) (by simp) (.inl rfl)) rfl;apply aA (Oi _ _ x.1 x.2 _ B hpf.1 hpf.2 hxf.1 hxf.2) rfl;dsimp only [aG,aH];apply vn (aD) rfl
  exact aX rfl ⟨⟨i+1,by omega⟩,(by
   dsimp only;rw [show MM (l.take (i+1))=Qd (MM (l.take i)) x by rw [List.take_add_one,hx,MM,List.foldl_append];rfl];exact aR.rfl),by show l.length-(i+1)<l.length-i;omega⟩
 rw [show l.take i=l from List.take_of_length_le (by omega)];exact aJ rfl
def eD (t:Nat→Rat×Rat) (n:Nat):VS:=(List.range n).map t
def oS (t:Nat→Rat×Rat) (N:Nat):Rat×Rat:=MM (eD t N ++ [(-((dE (t N)).2*((2:Int):Rat)),(dE (t N)).2*((2:Int):Rat))])
theorem IH {p:Rat×Rat} {A:Nat} (h1:Fit A p.1) (h2:Fit A p.2) (hA:1≤A:=by omega):Fit A (dE p).1∧Fit A (dE p).2:=by
 unfold dE Nh;split
 ·exact ⟨h1,h2⟩
 ·split
  ·exact ⟨h2.neg,h1.neg⟩
  ·exact ⟨Fit.zero hA,nG (lW h1.neg h2) 2 (by simp) hA⟩
theorem tO (t:Nat→Rat×Rat) (n:Nat):eD t (n+1)=eD t n ++ [t n]:=by rw [eD,List.range_succ,List.map_append];rfl
theorem dM (t:Nat→Rat×Rat) (n:Nat):(eD t n).length=n:=by simp [eD]
theorem oF {a b:Rat}:fK a b>0↔b<a:=by
 have:=sP (a:=a) (b:=b)
 constructor
 ·intro h;have h2:¬ a≤b:=fun e=>by have:=this.2 e;omega
  grind
 ·intro h;have h2:¬ fK a b≤0:=fun e=>by have:=this.1 e;grind
  omega
theorem ZG (t:Nat→Rat×Rat) (N:Nat) (g:FuncId) (caps:List aN) (up down:Rat) (W:Nat) (hg:∀ i,i<N→aL prog g ([gL (t i), .one (.int .i64 (i:Int))]++caps.map .one) (.ret [gL (t (i+1))])) (hf:∀ i,i≤N→Fit W (t i).1∧Fit W (t i).2) (hd:Fit W down) (hgt:∀ i,i<N→down<(dE (t i)).2) (hle:(dE (t N)).2≤down) (hW:4≤W) (hW2:W≤100000) (hN:N≤10000):aL prog 151 [(lP up down:aI),(gL (t 0):aI),(.one (.fB g caps):aI)] (.ret [gL (oS t N)]):=by
 refine bV func151 ai4 ?_;refine bD {i:Nat // i≤N} (fun g=>(.one (.int .i64 g.1):aI) :: .rows (vS (eD t g.1))::(fH (t g.1).1 (t g.1).2).map .one) (fun g=>N-g.1) ⟨0,eS _⟩ aR.rfl (fun _=>rfl) ?_;rintro ⟨i,hi⟩;dsimp only [aG,aH,List.map] at hi ⊢;have hfi:=hf i hi;have hab:=IH hfi.1 hfi.2;have hln:=dM t i;apply aA (kC (t i) W hfi.1 hfi.2) rfl;apply aA (cX (dE (t i)).2 down W W hab.2 hd) rfl;apply vn cB rfl;refine vs _ rfl ?_ ?_<;>intro h4
 ·have hiN:i<N:=by
   rcases Nat.lt_or_ge i N with h | h
   ·exact h
   ·have:i=N:=by omega
    subst this;have:=oF.1 h4
    grind
  apply uA (us:=[fH (t i).1 (t i).2]) rfl;dsimp only [aG,aH];refine GB (ts:=vS (eD t i)) (us:=[fH (t i).1 (t i).2]) (vs:=vS (eD t (i+1))) rfl rfl (by rw [tO,vS,vS,List.map_append];rfl) (by rw [bE,dM];omega) (by rw [bE,dM];simp only [maxLen];omega) ?_;apply nU (f:=g) (caps:=caps) rfl (hg i hiN) rfl;apply vn (aD) rfl;dsimp only [aG,aH];exact aX rfl ⟨⟨i+1,by omega⟩,aR.rfl,by show N-(i+1)<N-i;omega⟩
 have hiN:i=N:=by
  rcases Nat.lt_or_ge i N with h | h
  ·exact absurd (oF.2 (hgt i h)) h4
  ·omega
 subst hiN;apply aA (kC (t i) W hfi.1 hfi.2) rfl;apply aA (dU 2) rfl;apply aA (bF (dE (t i)).2 ((2:Int):Rat) W 2 hab.2 (Fit.int (by omega) (by omega))) rfl;apply aA (HQ _) rfl;dsimp only [aG,aH];apply uA (us:=[fH (-((dE (t i)).2*((2:Int):Rat))) ((dE (t i)).2*((2:Int):Rat))]) rfl;refine GB (ts:=vS (eD t i)) (us:=[fH (-((dE (t i)).2*((2:Int):Rat))) ((dE (t i)).2*((2:Int):Rat))]) (vs:=vS (eD t i ++ [(-((dE (t i)).2*((2:Int):Rat)),(dE (t i)).2*((2:Int):Rat))])) rfl rfl (by rw [vS,vS,List.map_append];rfl) (by simp [dM];omega) (by simp [dM];simp only [maxLen];omega) ?_;dsimp only [aG,aH];have hm:Fit (W+2) ((dE (t i)).2*((2:Int):Rat)):=hab.2.mul (Fit.int (by omega) (by omega))
 refine aA (Mt (eD t i ++ [(-((dE (t i)).2*((2:Int):Rat)),(dE (t i)).2*((2:Int):Rat))]) (W+2) (fun x hx=>by
  rcases List.mem_append.1 hx with h | h
  ·obtain ⟨j,hj,rfl⟩:=Ak.1 h;have:=hf j (by have:=List.mem_range.1 hj;omega);exact ⟨this.1.mono (by omega),this.2.mono (by omega)⟩
  ·rw [List.mem_singleton.1 h];exact ⟨hm.neg,hm⟩) (by simp [dM];omega) (by
   rw [dR,dM,List.length_singleton];have:=Nat.mul_le_mul (show i+1≤10001 by omega) (show W+2+1≤100003 by omega);omega)) rfl ?_
 exact aJ rfl
open Go Go.Proofs Tryz Ord
def aq1:Tr:=.ret [(.agg [(U 0 0),(U 0 1),(U 0 2),(U 0 0),(U 0 1),(U 0 2)])]
theorem aR4:aK prog f92 (fun _=>none) [.v (some 3)]=aq1:=by kernel_rfl
def ag9:Tr:=aC 69 [] [(some 3)] [] [] 30 false (aO .add 3 11 1 1 0 3 (aC 22 [(W 5 0)] [(some 3)] [12] [2] 30 false (aC 66 [(G3 4),(G3 6)] [(some 3)] [10,13] [30,30] 30 false (aC 108 [(G6 3),(G3 7)] [(some 6)] [9,14] [39,30] 39 true (aC 150 [(G6 2),(G6 0),(G6 8)] [(some 6)] [7,8,15] [81,39,39] 39 true (.ret [(G6 9)]))))))
theorem TA:aK prog f193 (fun _=>none) [.v (some 6), .v none, .ref 6, .ref 6]=ag9:=by kernel_rfl
def aq3:Tr:=aC 151 [(G6 0),(G6 5),(.one (.fB 193 [(.ref 0 [(.u 0 0),(.u 0 1),(.u 0 2),(.u 0 3),(.u 0 4),(.u 0 5)]),(.ref 0 [(.u 3 0),(.u 3 1),(.u 3 2),(.u 3 3),(.u 3 4),(.u 3 5)])]))] [(some 6)] [10,12,13] [81,39,181] 39 true (.loop 0 [lK 0,lV 6 0,lV 6 1,lV 6 2,lV 6 3,lV 6 4,lV 6 5] (aO .lss 3 15 2 7 0 4 (.split (.u 14 0) (aC 150 [(G6 0),(.agg [(U 8 0),(U 9 0),(U 10 0),(U 11 0),(U 12 0),(U 13 0)]),(.agg [(U 8 0),(U 9 0),(U 10 0),(U 11 0),(U 12 0),(U 13 0)])] [(some 6)] [17,18,19] [81,39,39] 39 true (aO .add 3 15 1 7 0 3 (.back 0 [lV 16 0,lV 15 0,lV 15 1,lV 15 2,lV 15 3,lV 15 4,lV 15 5]))) (.ret [(.agg [(U 8 0),(U 9 0),(U 10 0),(U 11 0),(U 12 0),(U 13 0)])]))))
def am3:Tr:=.need (.call 101 [(WK 2)] [(some 3)]) (.call ⟨.value (.func 101),#[(.const (I3 2))],#[3]⟩) 30 true (aC 108 [(G6 1),(G3 2)] [(some 6)] [7,8] [39,30] 39 true (aC 69 [] [(some 3)] [] [] 30 false (aC 92 [(G3 4)] [(some 6)] [11] [30] 39 false aq3)))
theorem Zg:aK prog f167 (fun _=>none) [.v (some 6), .v (some 6)]=am3:=by kernel_rfl
theorem Lx (q:Rat):aL prog 92 [(qT q:aI)] (.ret [gL (q,q)]):=by
 refine bV func92 aR4 ?_;exact aJ rfl
def aQ4 (i:Nat):Rat:=bL ((1:Int):Rat) ((((i:Int)+1:Int)):Rat)
theorem fF {a b:Rat} {A B:Nat} (ha:Fit A a) (hb:Fit B b) (h1:1≤A:=by omega):Fit (A+B) (bL a b):=by
 unfold bL;split
 ·exact Fit.zero (by omega)
 ·rename_i h;exact ha.div hb
theorem AI {p:Rat×Rat} {u:Rat} {A B:Nat} (h1:Fit A p.1) (h2:Fit A p.2) (hu:Fit B u) (hA:1≤A:=by omega):Fit (A+B) (pY p u).1∧Fit (A+B) (pY p u).2:=
 ⟨qA (lW (h1.mul hu) (h2.mul hu)) 2 (by simp),nG (lW (h1.mul hu) (h2.mul hu)) 2 (by simp)⟩
theorem OE {up down:Rat} {p:Rat×Rat} {A U:Nat} (h1:Fit A p.1) (h2:Fit A p.2) (hu:Fit U up) (hd:Fit U down) (hA:1≤A:=by omega):Fit (A+U+U) (uE up down p).1∧Fit (A+U+U) (uE up down p).2:=
 ⟨(iP (h1.mul hu)).mul hd,Fit.mul (by rw [Rat.intCast_neg];exact (iP (h2.mul hu).neg).neg) hd⟩
def aG5 (up down:Rat) (qr:Rat×Rat) (p:Rat×Rat) (i:Nat):Rat×Rat:=uE up down (MB p (pY qr (aQ4 i)))
def uF (up down:Rat) (qr:Rat×Rat):Nat→Rat×Rat
 | 0=>(((1:Int):Rat),((1:Int):Rat))
 | i+1=>aG5 up down qr (uF up down qr i) i
theorem Vb (up down:Rat) (qr p:Rat×Rat) (i:Nat) (A B U:Nat) (hp1:Fit A p.1) (hp2:Fit A p.2) (hq1:Fit B qr.1) (hq2:Fit B qr.2) (hu:Fit U up) (hd:Fit U down) (hi:i≤100000:=by omega) (hA:1≤A:=by omega) (hB:1≤B:=by omega) (h:A+(B+64)+U+U≤4294967296:=by omega):aL prog 193 [(gL p:aI),(.one (.int .i64 i):aI),(.one (.cJ (fH up down)):aI),(.one (.cJ (fH qr.1 qr.2)):aI)] (.ret [gL (aG5 up down qr p i)]):=by
 refine dvr (ins:=[.v (gL p), .v (.one (.int .i64 i)), .ref (fH up down), .ref (fH qr.1 qr.2)]) func193 TA ?_;have h1f:Fit 1 ((1:Int):Rat):=Fit.int (by omega) (by omega);have hif:Fit 62 (((i:Int)+1:Int):Rat):=Fit.int (by omega) (by omega);have hsc:=AI hq1 hq2 (fF h1f hif) hB;apply aA dG rfl;apply vn (aD) rfl;apply aA (dU _) rfl;apply aA (bI _ _ 1 62 h1f hif) rfl;dsimp only [aG,aH];apply aA (kY qr _ B (1+62) hq1 hq2 (fF h1f hif) hB) rfl;apply aA (Bw up down p _ A (B+(1+62)) U hp1 hp2 hsc.1 hsc.2 hu hd hA) rfl;exact aJ rfl
def Yd (up down:Rat) (o:Rat×Rat):Nat→Rat×Rat
 | 0=>o
 | i+1=>uE up down (MB (Yd up down o i) (Yd up down o i))
theorem NO {up down:Rat} {o:Rat×Rat} {S U:Nat} (h1:Fit S o.1) (h2:Fit S o.2) (hu:Fit U up) (hd:Fit U down) (hS:1≤S):∀ i,Fit (3^i*(S+2*U)) (Yd up down o i).1∧Fit (3^i*(S+2*U)) (Yd up down o i).2
 | 0=>⟨h1.mono (by omega),h2.mono (by omega)⟩
 | i+1=>by
   have ih:=NO h1 h2 hu hd hS i;have hp:1*(S+2*U)≤3^i*(S+2*U):=Nat.mul_le_mul_right _ (Nat.pow_pos (by omega));have hm:=KE ih.1 ih.2 ih.1 ih.2;have ho:=OE (p:=MB (Yd up down o i) (Yd up down o i)) hm.1 hm.2 hu hd;rw [Nat.pow_succ,Nat.mul_assoc,Nat.mul_comm 3,←Nat.mul_assoc];exact ⟨ho.1.mono (by omega),ho.2.mono (by omega)⟩
def tX (up down:Rat) (s:Rat×Rat) (N:Nat):Rat×Rat:=Yd up down (oS (uF up down (pY s (mkRat 1 (2^2)))) N) 2
structure Ie (up down:Rat) (s:Rat×Rat) (N W:Nat):Prop where
 hf:∀ i,i≤N→Fit W (uF up down (pY s (mkRat 1 (2^2))) i).1∧Fit W (uF up down (pY s (mkRat 1 (2^2))) i).2
 hgt:∀ i,i<N→down<(dE (uF up down (pY s (mkRat 1 (2^2))) i)).2
 hle:(dE (uF up down (pY s (mkRat 1 (2^2))) N)).2≤down
 hs:Fit W s.1∧Fit W s.2
 hu:Fit W up∧Fit W down
 hN:N≤1000
 hW:4≤W∧W≤10000
theorem JS {t:Nat→Rat×Rat} {N W:Nat} (hf:∀ i,i≤N→Fit W (t i).1∧Fit W (t i).2) (hW:4≤W):Fit (1+(N+1)*(W+2+1)) (oS t N).1∧Fit (1+(N+1)*(W+2+1)) (oS t N).2:=by
 have hab:=IH (hf N (bZ _)).1 (hf N (bZ _)).2 (show 1≤W by omega);have hm:Fit (W+2) ((dE (t N)).2*((2:Int):Rat)):=hab.2.mul (Fit.int (by omega) (by omega))
 have:=ID (B:=W+2) (eD t N ++ [(-((dE (t N)).2*((2:Int):Rat)),(dE (t N)).2*((2:Int):Rat))]) (0,0) 1 (fun x hx=>by
  rcases List.mem_append.1 hx with h | h
  ·obtain ⟨j,hj,rfl⟩:=Ak.1 h;have:=hf j (by have:=List.mem_range.1 hj;omega);exact ⟨this.1.mono (by omega),this.2.mono (by omega)⟩
  ·rw [List.mem_singleton.1 h];exact ⟨hm.neg,hm⟩) (Fit.zero (by omega)) (Fit.zero (by omega))
 rw [dR,dM,List.length_singleton] at this;exact this
theorem SJ (up down:Rat) (s:Rat×Rat) (N W:Nat) (K:Ie up down s N W):aL prog 167 [(lP up down:aI),(gL s:aI)] (.ret [gL (tX up down s N)]):=by
 refine bV func167 Zg ?_;obtain ⟨hf,hgt,hle,hs,hu,hN,hW⟩:=K;have hm2:Fit 3 (mkRat 1 (2^2)):=⟨by decide +kernel,by decide +kernel⟩
 have hsc:=AI hs.1 hs.2 hm2;have hb:(N+1)*(W+2+1)≤1001*10003:=Nat.mul_le_mul (by omega) (by omega);have hsf:=JS hf hW.1;obtain ⟨S,hS⟩:∃ S,S=1+(N+1)*(W+2+1):=⟨_,rfl⟩
 rw [←hS] at hsf;have hsq:=NO (o:=oS (uF up down (pY s (mkRat 1 (2^2)))) N) hsf.1 hsf.2 hu.1 hu.2 (by omega);apply aA (gW 2) rfl;apply aA (kY s _ W 3 hs.1 hs.2 hm2) rfl;apply aA dG rfl;apply aA (Lx _) rfl;dsimp only [aG,aH];apply aA (ZG (uF up down (pY s (mkRat 1 (2^2)))) N 193 [.cJ (fH up down), .cJ (fH (pY s (mkRat 1 (2^2))).1 (pY s (mkRat 1 (2^2))).2)] up down W (fun i hi=>Vb up down (pY s (mkRat 1 (2^2))) (uF up down (pY s (mkRat 1 (2^2))) i) i W (W+3) W (hf i (by omega)).1 (hf i (by omega)).2 hsc.1 hsc.2 hu.1 hu.2) hf hu.2 hgt hle hW.1 (by omega) (by omega)) rfl;refine bD {i:Nat // i≤2} (fun g=>(.one (.int .i64 g.1):aI)::(fH (Yd up down (oS (uF up down (pY s (mkRat 1 (2^2)))) N) g.1).1 (Yd up down (oS (uF up down (pY s (mkRat 1 (2^2)))) N) g.1).2).map .one) (fun g=>2-g.1) ⟨0,eS _⟩ aR.rfl (fun _=>rfl) ?_;rintro ⟨i,hi⟩;dsimp only [aG,aH,List.map] at hi ⊢;apply vn bA rfl;refine vs _ rfl ?_ ?_<;>intro h7
 ·have hi1:i≤1:=by omega
  have hq:=hsq i
  have h3:3^i*(S+2*W)≤3*(S+2*W):=Nat.mul_le_mul_right _ (by
   rcases Nat.le_one_iff_eq_zero_or_eq_one.1 hi1 with e | e<;>rw [e]<;>omega)
  have h3':1*(S+2*W)≤3^i*(S+2*W):=Nat.mul_le_mul_right _ (Nat.pow_pos (by omega));apply aA (Bw up down _ _ _ _ W hq.1 hq.2 hq.1 hq.2 hu.1 hu.2) rfl;apply vn (aD) rfl;dsimp only [aG,aH];exact aX rfl ⟨⟨i+1,by omega⟩,aR.rfl,by show 2-(i+1)<2-i;omega⟩
 rw [tX,show (2:Nat)=i by omega];exact aJ rfl
open Go Go.Proofs Tryz Ord
def VK:Tr:=aC 32 [(G3 26),(G3 27)] [(some 3)] [39,40] [30,30] 30 true (aC 99 [(G3 28)] [(some 3)] [41] [30] 30 true (aC 71 [(G3 29),(W 2 0)] [(some 3)] [43,44] [30,3] 30 false (aC 68 [(G3 30),(G3 5)] [none] [45,46] [30,30] 3 true (aO .leq 3 47 0 31 0 4 (.split (.u 32 0) (.back 0 [lV 29 0,lV 29 1,lV 29 2,lV 19 0,lV 20 0,lV 21 0]) (.back 0 [lV 16 0,lV 17 0,lV 18 0,lV 29 0,lV 29 1,lV 29 2]))))))
def Xb:Tr:=aC 32 [(.agg [(U 16 0),(U 17 0),(U 18 0)]),(.agg [(U 0 3),(U 0 4),(U 0 5)])] [(some 3)] [51,53] [30,30] 30 true (aC 71 [(G3 26),(W 2 0)] [(some 3)] [55,56] [30,3] 30 false (aC 68 [(G3 27),(G3 1)] [none] [57,58] [30,30] 3 true (aO .eql 3 59 0 28 0 4 (.split (.u 29 0) (aC 92 [(G3 26)] [(some 6)] [61] [30] 39 true (.ret [(G6 30)])) (aC 100 [(G3 26),(.agg [(U 0 3),(U 0 4),(U 0 5)])] [(some 3)] [64,66] [30,30] 30 true (.ret [(.agg [(U 26 0),(U 26 1),(U 26 2),(U 30 0),(U 30 1),(U 30 2)])]))))))
def XN:Tr:=aC 72 [(.agg [(U 19 0),(U 20 0),(U 21 0)]),(.agg [(U 16 0),(U 17 0),(U 18 0)])] [(some 3)] [31,32] [30,30] 30 false (aC 69 [] [(some 3)] [] [] 30 false (aC 68 [(G3 22),(G3 23)] [none] [33,34] [30,30] 3 true (aO .gtr 3 35 0 24 0 4 (.split (.u 25 0) (aC 100 [(.agg [(U 16 0),(U 17 0),(U 18 0)]),(.agg [(U 19 0),(U 20 0),(U 21 0)])] [(some 3)] [37,38] [30,30] 30 false (.need (.call 101 [(WK 1)] [(some 3)]) (.call ⟨.value (.func 101),#[(.const (I3 1))],#[3]⟩) 30 false VK)) Xb))))
def ac4:Tr:=.loop 0 [lN,(.w (.one (.c (.k (.bool false))))),lN,lV 6 0,lV 6 1,lV 6 2] (aC 71 [(.agg [(U 10 0),(U 11 0),(U 12 0)]),(W 2 0)] [(some 3)] [21,22] [30,3] 30 false (aC 68 [(G3 13),(G3 5)] [none] [23,24] [30,30] 3 true (aO .leq 3 25 0 14 0 4 (.split (.u 15 0) (aC 100 [(.agg [(U 10 0),(U 11 0),(U 12 0)]),(.agg [(U 10 0),(U 11 0),(U 12 0)])] [(some 3)] [28,29] [30,30] 30 true (.back 0 [lV 10 0,lV 11 0,lV 12 0,lV 16 0,lV 16 1,lV 16 2])) (.loop 0 [lV 7 0,lV 8 0,lV 9 0,lV 10 0,lV 11 0,lV 12 0] XN)))))
def af7:Tr:=aC 71 [(G3 0),(W 2 0)] [(some 3)] [14,15] [30,3] 30 false (aC 32 [(G3 1),(G3 3)] [(some 3)] [12,16] [30,30] 30 true (aC 99 [(G3 4)] [(some 3)] [17] [30] 30 true (aC 69 [] [(some 3)] [] [] 30 true ac4)))
theorem WV:aK prog f35 (fun _=>none) [.v (some 6), .v (some 3), .v none]=af7:=by kernel_rfl
theorem Ru (l n:Nat):(((l:Int):Rat))^n=(((l^n:Nat):Int):Rat):=by rw [Int.natCast_pow,Rat.intCast_pow]
theorem Yg {a b:Nat}:(((a:Int):Rat))≤((b:Int):Rat)↔a≤b:=by rw [Rat.intCast_le_intCast];omega
theorem nH {a B:Nat} (h:a<2^B:=by omega) (hB:1≤B:=by omega):Fit B ((a:Int):Rat):=Fit.int hB (by simpa using h)
theorem PJ (z:Int):jZ ((z:Int):Rat)=z:=by simp [jZ]
theorem NB {a b n:Nat} (hn:1≤n):a^n≤b^n↔a≤b:=Nat.pow_le_pow_iff_left (by omega)
theorem TH {r h n g:Nat} (hn:1≤n) (h1:r^n≤g) (h2:g<(r+1)^n):h^n≤g↔h≤r:=by
 constructor
 ·intro h3;have h4:=Nat.lt_of_le_of_lt h3 h2;have:=(Nat.pow_lt_pow_iff_left (show n≠0 by omega)).1 h4;omega
 ·intro h3;exact Nat.le_trans ((NB hn).2 h3) h1
theorem Ol (m:Nat):jZ (((m:Int):Rat)*mkRat 1 (2^1))=((m/2:Nat):Int):=by
 have e:((m:Int):Rat)*mkRat 1 (2^1)=mkRat (m:Int) 2:=by
  rw [←Rat.mkRat_one (m:Int),Rat.mkRat_mul_mkRat];simp
 rw [e,ap4 _];omega
theorem nX {a b:Rat}:fK a b=0↔a=b:=by
 unfold fK;by_cases h1:a<b
 ·rw [if_pos h1];exact ⟨fun h=>by omega,fun h=>by grind⟩
 ·rw [if_neg h1];by_cases h2:b<a
  ·rw [if_pos h2];exact ⟨fun h=>by omega,fun h=>by grind⟩
  ·rw [if_neg h2];exact ⟨fun _=>by grind,fun _=>rfl⟩
def KV (x:Rat) (n:Nat) (down:Rat) (r:Nat):Rat×Rat:=if (((r:Int):Rat)*down)^n=x then (((r:Int):Rat)*down,((r:Int):Rat)*down) else (((r:Int):Rat)*down,((r:Int):Rat)*down+down)
theorem LZ (a b:Nat):((a:Int):Rat)+((b:Int):Rat)=(((a+b:Nat):Int):Rat):=by rw [Int.natCast_add,Rat.intCast_add]
theorem Vm {a b:Nat} (h:a≤b):((b:Int):Rat)-((a:Int):Rat)=(((b-a:Nat):Int):Rat):=by rw [Int.natCast_sub h,Rat.intCast_sub]
theorem JI {a b:Nat}:fK ((a:Int):Rat) ((b:Int):Rat)≤0↔a≤b:=by rw [sP,Yg]
theorem Pr (x:Rat) (n:Nat) (up down:Rat) (g r G A U:Nat) (hg:jZ (x*up^n)=(g:Int)) (hx:Fit A x) (hu:Fit U up) (hd:Fit U down) (hr:r^n≤g:=by omega) (hr2:g<(r+1)^n:=by omega) (hG:g<2^G:=by omega) (hn1:1≤n:=by omega) (hn:n≤64:=by omega) (hU1:1≤U:=by omega) (hU:U≤100000:=by omega) (hA1:1≤A:=by omega) (hA:A≤10000000:=by omega) (hG2:G≤20000000:=by omega):aL prog 35 [(lP up down:aI),(qT x:aI),(.one (.int .i64 n):aI)] (.ret [gL (KV x n down r)]):=by
 refine bV func35 WV ?_;have hUn:U*n≤6400000:=Nat.mul_le_mul hU hn;have hup:=kE hu n hU1;have hxu:=hx.mul hup;have hrg:r≤g:=Nat.le_trans (Nat.le_self_pow (by omega) r) hr;have hgG:((2^(G+2):Nat))=4*2^G:=by rw [Nat.pow_add];omega
 have hfit:∀ h:Nat,h≤2*r+1→Fit (G+2) ((h:Int):Rat):=fun h hh=>nH;have hgf:Fit (G+2) ((g:Int):Rat):=nH;have hGn:(G+2)*n≤1280000128:=Nat.mul_le_mul (show G+2≤20000002 by omega) hn;have hGn1:(G+2)*1≤(G+2)*n:=Nat.mul_le_mul_left _ hn1;have hpf:∀ h:Nat,h≤2*r+1→Fit ((G+2)*n+1) (((h:Int):Rat)^n):=fun h hh=>kE (hfit h hh) n;have hit:∀ h:Nat,fK (((h:Int):Rat)^n) ((g:Int):Rat)≤0↔h≤r:=fun h=>by rw [Ru,JI];exact TH hn1 hr hr2
 apply aA (gQ up n n U hu hU1) rfl;apply aA (bF x (up^n) A (U*n+1) hx hup) rfl;apply aA (gA (x*up^n) _ hxu) rfl;rw [hg];apply aA dG rfl;dsimp only [aG,aH];refine bD {p:Nat×Nat // p.1≤r∧p.1<p.2∧p.2≤2*r+1} (fun g=>(qC ((g.1.1:Int):Rat)).map aI.one++(qC ((g.1.2:Int):Rat)).map aI.one) (fun g=>2*r+2-g.1.2) ⟨(0,1),eS _,by omega,by omega⟩ ⟨fU.1,fU.2.1,fU.2.2.1,aN.Sub.same,aN.Sub.same,aN.Sub.same,trivial⟩ (fun _=>rfl) ?_;rintro ⟨⟨l,h⟩,hl,hlh,hh⟩;dsimp only [aG,aH,List.map] at hl hlh hh ⊢;apply aA (gQ ((h:Int):Rat) n n (G+2) (hfit h hh)) rfl;apply aA (cX _ ((g:Int):Rat) ((G+2)*n+1) (G+2) (hpf h hh) hgf) rfl;apply vn gE rfl;refine vs _ rfl ?_ ?_<;>intro h8
 ·have hhr:=(hit h).1 h8;apply aA (kP ((h:Int):Rat) ((h:Int):Rat) (G+2) (G+2) (hfit h hh) (hfit h hh)) rfl;rw [LZ];dsimp only [aG,aH];exact aX rfl ⟨⟨(h,h+h),hhr,by show h<h+h;omega,by show h+h≤2*r+1;omega⟩,aR.rfl,by show 2*r+2-(h+h)<2*r+2-h;omega⟩
 have hhr:r<h:=by
  have:=mt (hit h).2 h8;omega
 refine bD {p:Nat×Nat // p.1≤r∧r<p.2∧p.2≤2*r+1} (fun g=>(qC ((g.1.1:Int):Rat)).map aI.one++(qC ((g.1.2:Int):Rat)).map aI.one) (fun g=>g.1.2-g.1.1) ⟨(l,h),hl,hhr,hh⟩ aR.rfl (fun _=>rfl) ?_;clear hl hlh hh hhr h8;rintro ⟨⟨l,h⟩,hl,hlh,hh⟩;dsimp only [aG,aH,List.map] at hl hlh hh ⊢;apply aA (lZ ((h:Int):Rat) ((l:Int):Rat) (G+2) (G+2) (hfit h hh) (hfit l (by omega))) rfl;rw [Vm (show l≤h by omega)];apply aA dG rfl;apply aA (cX (((h-l:Nat):Int):Rat) (((1:Nat):Int):Rat) (G+2) 1 (hfit _ (by omega)) (nH)) rfl;apply vn cB rfl;dsimp only [aG,aH];refine vs _ rfl ?_ ?_<;>intro h16
 ·have hgap:1<h-l:=by
   have:=mt JI.2 (show ¬ fK (((h-l:Nat):Int):Rat) (((1:Nat):Int):Rat)≤0 by omega);omega
  apply aA (kP ((l:Int):Rat) ((h:Int):Rat) (G+2) (G+2) (hfit l (by omega)) (hfit h hh)) rfl;rw [LZ];apply aA (gW 1) rfl;dsimp only [aG,aH];have hlf:Fit (G+4) (((l+h:Nat):Int):Rat):=nH (by rw [Nat.pow_add];omega);apply aA (bF _ (mkRat 1 (2^1)) (G+4) 2 hlf ⟨by decide +kernel,by decide +kernel⟩) rfl;apply aA (gA _ (G+4+2) (hlf.mul ⟨by decide +kernel,by decide +kernel⟩)) rfl;rw [show ((1:Int).toNat)=1 from rfl,Ol];obtain ⟨m,hm⟩:∃ m,m=(l+h)/2:=⟨_,rfl⟩
  rw [←hm];apply aA (gQ ((m:Int):Rat) n n (G+2) (hfit m (by omega))) rfl;apply aA (cX _ ((g:Int):Rat) ((G+2)*n+1) (G+2) (hpf m (by omega)) hgf) rfl;dsimp only [aG,aH];apply vn gE rfl;refine vs _ rfl ?_ ?_<;>intro h24
  ·have hmr:=(hit m).1 h24;exact aX rfl ⟨⟨(m,h),hmr,hlh,hh⟩,aR.rfl,by show h-m<h-l;omega⟩
  have hmr:=mt (hit m).2 h24;exact aX rfl ⟨⟨(l,m),hl,by show r<m;omega,by show m≤2*r+1;omega⟩,aR.rfl,by show m-l<h-l;omega⟩
 have hlr:l=r:=by
  have:=JI.1 (show fK (((h-l:Nat):Int):Rat) (((1:Nat):Int):Rat)≤0 by omega);omega
 subst hlr;apply aA (bF ((l:Int):Rat) down (G+2) U (hfit l (by omega)) hd) rfl;dsimp only [aG,aH];have hof:=(hfit l (by omega)).mul hd;apply aA (gQ _ n n (G+2+U) hof) rfl;dsimp only [aG,aH]
 have h5:(G+2+U)*n≤1300000000:=by
  have:=Nat.mul_le_mul (show G+2+U≤20100002 by omega) hn;omega
 apply aA (cX _ x _ A (kE hof n) hx) rfl;apply vn aE rfl;refine vs _ rfl ?_ ?_<;>intro h31
 ·rw [show KV x n down l=(((l:Int):Rat)*down,((l:Int):Rat)*down) from if_pos (nX.1 h31)];apply aA (Lx _) rfl;exact aJ rfl
 rw [show KV x n down l=(((l:Int):Rat)*down,((l:Int):Rat)*down+down) from if_neg (mt nX.2 h31)];apply aA (kP _ down (G+2+U) U hof hd) rfl;exact aJ rfl
end Go.Sy
