/- Part. -/
import Derived.Test.YtpaidpkaechleaaGreatDoorPb
set_option linter.all false
namespace Go.Sy
open Go Go.Proofs Tryz Ord
def QX:Tr:=.ret [(.agg [(U 2 0),(U 2 1),(U 2 2),(U 3 0),(U 3 1),(U 3 2)])]
def am6:Tr:=aI 100 [(G3 0),(G3 1)] [(some 3)] [6,8] [30,30] 30 false (aI 100 [(.agg [(U 0 3),(U 0 4),(U 0 5)]),(.agg [(U 1 3),(U 1 4),(U 1 5)])] [(some 3)] [11,13] [30,30] 30 true QX)
theorem WN:aN prog f156 (fun _=>none) [.v (some 6), .v (some 6)]=am6:=by kernel_rfl
abbrev eB (a b:Rat):List aL:=qC a++qC b
abbrev gF (a b:Rat):aE:=.agg (eB a b)
theorem Jn (a b c d:Rat) (A B:Nat) (ha:Fit A a) (hb:Fit A b) (hc:Fit B c) (hd:Fit B d) (h:A+B≤34359738368:=by omega):aD prog 156 [(gF a b:aE),(gF c d:aE)] (.ret [gF (a+c) (b+d)]):=by
 refine bU func156 WN ?_;apply aA (hP a c A B ha hc h) rfl;apply aA (hP b d A B hb hd h) rfl;exact aK rfl
open Go Go.Proofs Tryz Ord
def ac8:Tr:=.need (.call 122 [(.one (.c (.k (.int .u64 2))))] [(some 1)]) (.call ⟨.value (.func 122),#[(.const (.int .u64 2))],#[153]⟩) 26 false (.need (.call 119 [(W 0 0),(WK 256)] [none]) (.call ⟨.value (.func 119),#[(tT 4),(.const (I3 256))],#[3,3]⟩) 3 true (aI 120 [(G1 1),(W 2 0)] [(some 1)] [3,5] [26,3] 26 true (.ret [(G1 3)])))
theorem ak0:aN prog f147 (fun _=>none) [.v none]=ac8:=by kernel_rfl
def SG:Tr:=.ret [(G3 3)]
def ak7:Tr:=.need (.call 86 [(WK 1)] [(some 2)]) (.call ⟨.value (.func 86),#[(.const (I3 1))],#[2]⟩) 28 false (aI 147 [(W 0 0)] [(some 1)] [4] [3] 26 true (aI 96 [(G2 1),(G1 2)] [(some 3)] [3,5] [28,26] 30 true SG))
theorem WQ:aN prog f101 (fun _=>none) [.v none]=ak7:=by kernel_rfl
def Wc:Tr:=.ret [(G3 4)]
def an9:Tr:=aI 147 [(W 1 0)] [(some 1)] [6] [3] 26 false (aI 85 [(.agg [(U 2 0),(tE (.bool false))])] [(some 3)] [8] [28] 30 true (aI 32 [(G3 0),(G3 3)] [(some 3)] [5,9] [30,30] 30 true Wc))
theorem RC:aN prog f185 (fun _=>none) [.v (some 3), .v none]=an9:=by kernel_rfl
def ap4:Tr:=aI 91 [(G3 0)] [(some 1)] [5] [30] 26 false (aI 145 [(G2 0),(G1 1)] [(some 2)] [4,6] [28,26] 28 true (aI 85 [(G2 2)] [(some 3)] [7] [28] 30 true SG))
theorem QL:aN prog f99 (fun _=>none) [.v (some 3)]=ap4:=by kernel_rfl
def ae5:Tr:=aI 36 [(G3 0)] [(some 3)] [3] [30] 30 false (aI 99 [(G3 1)] [(some 3)] [4] [30] 30 true (aI 36 [(G3 2)] [(some 3)] [5] [30] 30 true SG))
theorem Uf:aN prog f154 (fun _=>none) [.v (some 3)]=ae5:=by kernel_rfl
def VT:Tr:=aI 101 [(W 1 0)] [(some 3)] [9] [3] 30 true (aI 32 [(G3 3),(G3 4)] [(some 3)] [8,10] [30,30] 30 true (.ret [(G3 5)]))
def aj5:Tr:=aI 185 [(G3 0),(W 1 0)] [(some 3)] [5,6] [30,3] 30 false (aI 99 [(G3 2)] [(some 3)] [7] [30] 30 false VT)
theorem TS:aN prog f148 (fun _=>none) [.v (some 3), .v none]=aj5:=by kernel_rfl
def ag6:Tr:=aI 185 [(G3 0),(W 1 0)] [(some 3)] [5,6] [30,3] 30 false (aI 154 [(G3 2)] [(some 3)] [7] [30] 30 false VT)
theorem ah4:aN prog f149 (fun _=>none) [.v (some 3), .v none]=ag6:=by kernel_rfl
def ah1:Tr:=aI 148 [(G3 0),(W 1 0)] [(some 3)] [6,7] [30,3] 30 false (aI 149 [(.agg [(U 0 3),(U 0 4),(U 0 5)]),(W 1 0)] [(some 3)] [10,11] [30,3] 30 true QX)
theorem Xt:aN prog f103 (fun _=>none) [.v (some 6), .v none]=ah1:=by kernel_rfl
def gT (q:Rat):Int:=q.num/(q.den:Int)
def aP (k:Nat):Rat:=(((2^k:Nat):Int):Rat)
def fK (q:Rat) (k:Nat):Rat:=(gT (q*aP k):Rat)*mkRat 1 (2^k)
def EA (q:Rat) (k:Nat):Rat:=(((-gT (-(q*aP k)):Int)):Rat)*mkRat 1 (2^k)
theorem gS {q:Rat} {H:Nat} (h:Fit H q) (h1:1≤H:=by omega):Fit H (gT q:Rat):=Fit.int h1 (Nat.lt_of_le_of_lt (Int.natAbs_ediv_le_natAbs _ _) h.1)
set_option exponentiation.threshold 600 in
theorem kL {k:Nat} (h:k≤256):Fit 257 (aP k):=Fit.int (by omega) (by rw [Int.natAbs_natCast];exact Nat.pow_lt_pow_right (by omega) (by omega))
set_option exponentiation.threshold 600 in
theorem pF {k:Nat} (h:k≤256):Fit 257 (mkRat 1 (2^k)):=Fit.mkRat (Nat.one_lt_two_pow (by omega)) (Nat.pow_lt_pow_right (by omega) (by omega)) (Nat.pos_iff_ne_zero.1 (Nat.pow_pos (by omega)))
theorem SU (k:Int) (hk:k≤256):aD prog 147 [(.one (.int .i64 k):aE)] (.ret [mT (2^k.toNat)]):=by
 refine bU func147 ak0 ?_;apply aA (eT 2) rfl;apply aA (wK k 256) rfl;rw [show max (0:Int) (min (k:Int) 256)=(k.toNat:Int) by omega];apply aA (nO 2 k.toNat 2) rfl;exact aK rfl
theorem eS (k:Int) (hk:k≤256:=by omega):aD prog 101 [(.one (.int .i64 k):aE)] (.ret [qT (mkRat 1 (2^k.toNat))]):=by
 refine bU func101 WQ ?_;apply aA (MU 1) rfl;apply aA (SU k hk) rfl
 apply aA (sZ 1 (2^k.toNat) (Nat.pow_pos (by omega)) (by
  obtain ⟨H,hH⟩:∃ H,H=257:=⟨_,rfl⟩
  have h1:(dg (2^k.toNat)).length≤H:=eI (Nat.pow_lt_pow_right (by omega) (by omega));have h2:(dg (1:Int).natAbs).length=1:=by rw [show (1:Int).natAbs=1 from rfl,iB];rfl
  omega)) rfl
 exact aK rfl
theorem JU (q:Rat) (k:Int) (H:Nat) (hk:k≤256) (hq:Fit H q) (hH:H≤8589934592:=by omega):aD prog 185 [(qT q:aE),(.one (.int .i64 k):aE)] (.ret [qT (q*aP k.toNat)]):=by
 refine bU func185 RC ?_;apply aA (SU k hk) rfl;dsimp only [aF,aG];have hz:decide (((2^k.toNat:Nat):Int)<0)=false:=decide_eq_false (Int.not_lt.2 (Int.natCast_nonneg _));have hw:=nP ((2^k.toNat:Nat):Int);rw [show iT ((2^k.toNat:Nat):Int) = .agg [dT (2^k.toNat), .exact (.bool false)] from by rw [show iT ((2^k.toNat:Nat):Int) = .agg [dT (2^k.toNat), .bool (decide (((2^k.toNat:Nat):Int)<0))] from rfl,hz]] at hw;apply aA hw rfl;apply aA (bG q (aP k.toNat) H 257 hq (kL (by omega))) rfl;exact aK rfl
theorem fB (q:Rat) (H:Nat) (hq:Fit H q) (hH:H≤8589934592:=by omega):aD prog 99 [(qT q:aE)] (.ret [qT (gT q:Rat)]):=by
 refine bU func99 QL ?_;have h1:=DR hq.1;have h2:=DR hq.2;apply aA (cV q) rfl;apply aA (RI q.num q.den q.den_pos) rfl;apply aA (nP (q.num/(q.den:Int))) rfl;exact aK rfl
theorem Nd (q:Rat) (H:Nat) (hq:Fit H q) (hH:H≤8589934592:=by omega):aD prog 154 [(qT q:aE)] (.ret [qT (((-gT (-q):Int)):Rat)]):=by
 refine bU func154 Uf ?_;apply aA (lF q) rfl;apply aA (fB (-q) H hq.neg hH) rfl;apply aA (lF _) rfl;rw [show -((gT (-q):Int):Rat)=((-gT (-q):Int):Rat) by rw [Rat.intCast_neg]];exact aK rfl
theorem Of (q:Rat) (k:Int) (H:Nat) (hk:k≤256) (hq:Fit H q) (h1:1≤H) (hH:H≤8000000000):aD prog 148 [(qT q:aE),(.one (.int .i64 k):aE)] (.ret [qT (fK q k.toNat)]):=by
 refine bU func148 TS ?_;apply aA (JU q k H hk hq) rfl;apply aA (fB (q*aP k.toNat) (H+257) (hq.mul (kL (by omega)))) rfl;apply aA (eS k hk) rfl;apply aA (bG _ _ (H+257) 257 (gS (hq.mul (kL (by omega)))) (pF (by omega))) rfl;exact aK rfl
theorem VX (q:Rat) (k:Int) (H:Nat) (hk:k≤256) (hq:Fit H q) (h1:1≤H) (hH:H≤8000000000):aD prog 149 [(qT q:aE),(.one (.int .i64 k):aE)] (.ret [qT (EA q k.toNat)]):=by
 refine bU func149 ah4 ?_;apply aA (JU q k H hk hq) rfl;apply aA (Nd (q*aP k.toNat) (H+257) (hq.mul (kL (by omega)))) rfl;apply aA (eS k hk) rfl;apply aA (bG _ _ (H+257) 257 (by rw [Rat.intCast_neg];exact (gS (hq.mul (kL (by omega))).neg).neg) (pF (by omega))) rfl;exact aK rfl
theorem Qk (a b:Rat) (k:Int) (H:Nat) (hk:k≤256) (ha:Fit H a) (hb:Fit H b) (h1:1≤H:=by omega) (hH:H≤8000000000:=by omega):aD prog 103 [(gF a b:aE),(.one (.int .i64 k):aE)] (.ret [gF (fK a k.toNat) (EA b k.toNat)]):=by
 refine bU func103 Xt ?_;apply aA (Of a k H hk ha h1 hH) rfl;apply aA (VX b k H hk hb h1 hH) rfl;exact aK rfl
open Go Go.Proofs Tryz Ord
theorem ZR (n:Int) {d:Nat} (hd:d≠0:=by omega):gT (mkRat n d)=n/(d:Int):=by
 unfold gT;generalize hq:mkRat n d=q;obtain ⟨m,hm,h1,h2⟩:=Rat.mkRat_num_den hd (n':=q.num) (d':=q.den) (z':=q.den_nz) (c:=q.reduced) (by rw [hq]);rw [h1,h2,Int.natCast_mul,Int.mul_ediv_mul_of_pos_left _ _ (by omega)]
theorem ab8 (q:Rat) (k:Nat):-(fK (-q) k)=EA q k:=by
 unfold fK EA;rw [Rat.intCast_neg,show -q*aP k = -(q*aP k) by grind]
 grind
open Go Go.Proofs Tryz Ord
def ag0:Tr:=aX .lss 3 3 0 0 0 4 (.ret [(W 1 0)])
theorem Va:aN prog f164 (fun _=>none) [.v none]=ag0:=by kernel_rfl
def QT:Tr:=.ret [(G3 1)]
def ah6:Tr:=.need (.call 163 [(.one (.dZ 164 [])),(W 0 0)] [(some 3)]) (.call ⟨.value (.func 163),#[(.func 164),(tT 3)],#[189,52]⟩) 30 true QT
theorem ah3:aN prog f125 (fun _=>none) [.v none]=ah6:=by kernel_rfl
def Wr:Tr:=.ret [(.agg [(U 1 0),(U 1 1),(U 1 2),(U 2 0),(U 2 1),(U 2 2)])]
def ah8:Tr:=aI 125 [(W 0 0)] [(some 3)] [3] [52] 30 false (aI 126 [(W 0 0)] [(some 3)] [5] [52] 30 true Wr)
theorem Pw:aN prog f155 (fun _=>none) [.v none]=ah8:=by kernel_rfl
def an5:Tr:=.need (.callv (.u 0 0) [(.agg [(U 1 0),(U 1 1),(U 1 2)]),(.agg [(U 2 0),(U 2 1),(U 2 2)])] [(some 3)]) (.call ⟨.value (tT 7),#[(tT 9),(tT 11)],#[30,30]⟩) 30 false (.need (.callv (.u 0 0) [(.agg [(U 1 0),(U 1 1),(U 1 2)]),(.agg [(U 2 3),(U 2 4),(U 2 5)])] [(some 3)]) (.call ⟨.value (tT 13),#[(tT 15),(tT 17)],#[30,30]⟩) 30 false (.need (.callv (.u 0 0) [(.agg [(U 1 3),(U 1 4),(U 1 5)]),(.agg [(U 2 0),(U 2 1),(U 2 2)])] [(some 3)]) (.call ⟨.value (tT 19),#[(tT 21),(tT 23)],#[30,30]⟩) 30 false (.need (.callv (.u 0 0) [(.agg [(U 1 3),(U 1 4),(U 1 5)]),(.agg [(U 2 3),(U 2 4),(U 2 5)])] [(some 3)]) (.call ⟨.value (tT 25),#[(tT 27),(tT 29)],#[30,30]⟩) 30 true (.need (.lit 3 [[(.u 3 0),(.u 3 1),(.u 3 2)],[(.u 4 0),(.u 4 1),(.u 4 2)],[(.u 5 0),(.u 5 1),(.u 5 2)],[(.u 6 0),(.u 6 1),(.u 6 2)]]) (.buildSlice 52 4 #[(0,(tT 12)),(1,(tT 18)),(2,(tT 24)),(3,(tT 30))]) 52 false (aI 155 [(.one (.c (.sr 3 7)))] [(some 6)] [31] [52] 39 true (.ret [(G6 8)]))))))
theorem XE:aN prog f202 (fun _=>none) [.v none, .v (some 6), .v (some 6)]=an5:=by kernel_rfl
def ab6:Tr:=.need (.call 202 [(.one (.dZ 32 [])),(G6 0),(G6 1)] [(some 6)]) (.call ⟨.value (.func 202),#[(.func 32),(tT 5),(tT 6)],#[115,39,39]⟩) 39 true (.ret [(G6 2)])
theorem Xo:aN prog f186 (fun _=>none) [.v (some 6), .v (some 6)]=ab6:=by kernel_rfl
def af0:Tr:=aI 72 [(.agg [(U 0 3),(U 0 4),(U 0 5)]),(G3 0)] [(some 3)] [4,6] [30,30] 30 true QT
theorem Su:aN prog f104 (fun _=>none) [.v (some 6)]=af0:=by kernel_rfl
def lE (l:List Rat):Nat→Rat
 | 0=>0
 | i+1=>if i=0∨l.getD i 0<lE l i then l.getD i 0 else lE l i
theorem KN {l:List Rat}:∀ i,i≤l.length→lE l i=0∨lE l i∈l
 | 0,_=>.inl rfl
 | i+1,h=>by
   rw [lE];split
   ·exact .inr (LJ (nR (show i<l.length by omega)))
   ·exact KN i (by omega)
theorem pD {l:List Rat} {B:Nat} (h:∀ x∈l,Fit B x) (i:Nat) (hi:i≤l.length) (hB:1≤B:=by omega):Fit B (lE l i):=by
 rcases KN i hi with e | e
 ·rw [e];exact Fit.zero hB
 ·exact h _ e
theorem kX {a b:Rat}:dM a b<0↔a<b:=by
 unfold dM;by_cases h1:a<b
 ·rw [if_pos h1];exact ⟨fun h=>h1,fun h=>by omega⟩
 ·rw [if_neg h1];by_cases h2:b<a
  ·rw [if_pos h2];exact ⟨fun _=>by omega,fun h=>absurd h h1⟩
  ·rw [if_neg h2];exact ⟨fun h=>by omega,fun h=>absurd h h1⟩
theorem Uy (c:Int):aD prog 164 [(.one (.int .i64 c):aE)] (.ret [.one (.bool (decide (c<0)))]):=by
 refine bU func164 Va ?_;apply vn bA rfl;exact aK rfl
theorem MF (l:List Rat) (B:Nat) (hl:∀ x∈l,Fit B x) (hB:1≤B) (hB2:B≤8589934592) (hs:l.length<1099511627776):aD prog 163 [(.one (.dZ 164 []):aE),(.one (sQ l):aE)] (.ret [qT (lE l l.length)]):=by
 refine bU func163 KS ?_;apply vn (cF Ll (dL _)) rfl;refine cT {i:Nat // i≤l.length} (fun g=>(.one (.int .i64 g.1):aE)::(qC (lE l g.1)).map .one) (fun g=>l.length-g.1) ⟨0,fP _⟩ ⟨aE.Sub.same,KR⟩ (fun _=>rfl) ?_;rintro ⟨i,hi⟩;dsimp only [aF,aG,List.map] at hi ⊢;apply vn bA rfl;refine vs _ rfl ?_ ?_<;>intro h3
 ·have hil:i<l.length:=by omega
  have hfx:=hl _ (LJ (nR hil));have hfm:=pD hl i hi hB;apply vn (gP Ll (by omega) (Int.toNat_natCast i) (nR hil)) rfl;apply vn (oV Tz (by decide) (by simp) (.inl rfl)) rfl;apply vn aC rfl;dsimp only [aF,aG];refine vs _ rfl ?_ ?_<;>intro h7
  ·apply vn (aH) rfl
   exact bF rfl ⟨⟨i+1,by omega⟩,(by
    dsimp only;rw [lE,if_pos (.inl (by omega))];exact aV.rfl),by show l.length-(i+1)<l.length-i;omega⟩
  apply aA (bE _ _ B B hfx hfm) rfl;apply mX (f:=164) (caps:=[]) rfl (Uy (dM (l.getD i 0) (lE l i))) rfl;refine vs _ rfl ?_ ?_<;>intro h12
  ·apply vn (aH) rfl
   exact bF rfl ⟨⟨i+1,by omega⟩,(by
    dsimp only;rw [lE,if_pos (.inr (kX.1 h12))];exact aV.rfl),by show l.length-(i+1)<l.length-i;omega⟩
  apply vn (aH) rfl
  exact bF rfl ⟨⟨i+1,by omega⟩,(by
   dsimp only;rw [lE,if_neg (by rintro (h | h);omega;exact h12 (kX.2 h))];exact aV.rfl),by show l.length-(i+1)<l.length-i;omega⟩
 rw [show l.length=i by omega];exact aK rfl
theorem VU (l:List Rat) (B:Nat) (hl:∀ x∈l,Fit B x) (hB:1≤B) (hB2:B≤8589934592) (hs:l.length<1099511627776):aD prog 125 [(.one (sQ l):aE)] (.ret [qT (lE l l.length)]):=by
 refine bU func125 ah3 ?_;apply aA (MF l B hl hB hB2 hs) rfl;exact aK rfl
theorem GI (l:List Rat) (B:Nat) (hl:∀ x∈l,Fit B x) (hB:1≤B) (hB2:B≤8589934592) (hs:l.length<1099511627776):aD prog 155 [(.one (sQ l):aE)] (.ret [gF (lE l l.length) (jU l l.length)]):=by
 refine bU func155 Pw ?_;apply aA (VU l B hl hB hB2 hs) rfl;apply aA (SI l B hl hB hB2 hs) rfl;exact aK rfl
abbrev GQ (a b c d:Rat):List Rat:=[a*c,a*d,b*c,b*d]
def Oa (a b c d:Rat):Rat:=lE (GQ a b c d) 4
def Ns (a b c d:Rat):Rat:=jU (GQ a b c d) 4
theorem qV {a b c d:Rat} {A B:Nat} (ha:Fit A a) (hb:Fit A b) (hc:Fit B c) (hd:Fit B d):∀ x∈GQ a b c d,Fit (A+B) x:=fun x hx=>by
 simp only [GQ,List.mem_cons,List.not_mem_nil,or_false] at hx;rcases hx with rfl | rfl | rfl | rfl
 ·exact ha.mul hc
 ·exact ha.mul hd
 ·exact hb.mul hc
 ·exact hb.mul hd
theorem Jy {a b c d:Rat} {A B:Nat} (ha:Fit A a) (hb:Fit A b) (hc:Fit B c) (hd:Fit B d) (h1:1≤A:=by omega):Fit (A+B) (Oa a b c d)∧Fit (A+B) (Ns a b c d):=
 ⟨pD (qV ha hb hc hd) 4 (by simp),mJ (qV ha hb hc hd) 4 (by simp)⟩
theorem WW (a b c d:Rat) (A B:Nat) (h1:1≤A) (ha:Fit A a) (hb:Fit A b) (hc:Fit B c) (hd:Fit B d) (h:A+B≤4294967296):aD prog 202 [(.one (.dZ 32 []):aE),(gF a b:aE),(gF c d:aE)] (.ret [gF (Oa a b c d) (Ns a b c d)]):=by
 refine bU func202 XE ?_;apply mX (f:=32) (caps:=[]) rfl (bG a c A B ha hc) rfl;apply mX (f:=32) (caps:=[]) rfl (bG a d A B ha hd) rfl;apply mX (f:=32) (caps:=[]) rfl (bG b c A B hb hc) rfl;apply mX (f:=32) (caps:=[]) rfl (bG b d A B hb hd) rfl;dsimp only [aF,aG];apply wU (us:=rQ (GQ a b c d)) rfl;apply aA (GI (GQ a b c d) (A+B) (qV ha hb hc hd) (by omega) (by omega) (by simp)) rfl;exact aK rfl
theorem Zn (a b c d:Rat) (A B:Nat) (h1:1≤A) (ha:Fit A a) (hb:Fit A b) (hc:Fit B c) (hd:Fit B d) (h:A+B≤4294967296:=by omega):aD prog 186 [(gF a b:aE),(gF c d:aE)] (.ret [gF (Oa a b c d) (Ns a b c d)]):=by
 refine bU func186 Xo ?_;apply aA (WW a b c d A B h1 ha hb hc hd h) rfl;exact aK rfl
theorem nC (a b:Rat) (A B:Nat) (ha:Fit A a) (hb:Fit B b) (h:B+A≤4294967296:=by omega):aD prog 104 [(gF a b:aE)] (.ret [qT (b-a)]):=by
 refine bU func104 Su ?_;apply aA (jW b a B A hb ha) rfl;exact aK rfl
open Go Go.Proofs Tryz Ord
def ZZ:Tr:=.need (.call 22 [(WK 1)] [(some 3)]) (.call ⟨.value (.func 22),#[(.const (I3 1))],#[2]⟩) 30 true (.ret [(G3 0)])
theorem YE:aN prog f69 (fun _=>none) []=ZZ:=by kernel_rfl
def Sv:Tr:=.ret [(G3 2)]
def XZ:Tr:=aI 94 [(G3 0),(G3 1)] [(some 3),none] [8,9] [30,30] 55 false Sv
theorem Kw:aN prog f66 (fun _=>none) [.v (some 3), .v (some 3)]=XZ:=by kernel_rfl
def Xw:Tr:=aI 22 [(W 0 0)] [(some 3)] [5] [2] 30 false (aI 22 [(W 1 0)] [(some 3)] [7] [2] 30 true (aI 66 [(G3 2),(G3 3)] [(some 3)] [6,8] [30,30] 30 true Wc))
theorem ae0:aN prog f67 (fun _=>none) [.v none, .v none]=Xw:=by kernel_rfl
def aa7:Tr:=aI 120 [(G1 0),(W 2 0)] [(some 1)] [17,18] [26,3] 26 false (aI 102 [(W 4 0),(G1 5)] [(some 2)] [14,19] [4,26] 28 false (aI 91 [(G3 0)] [(some 1)] [21] [30] 26 false (aI 120 [(G1 7),(W 2 0)] [(some 1)] [22,23] [26,3] 26 false (.need (.call 122 [(.one (.c (.k (.int .u64 1))))] [(some 1)]) (.call ⟨.value (.func 122),#[(.const (.int .u64 1))],#[153]⟩) 26 false (aI 121 [(G1 8),(G1 9)] [(some 1)] [24,25] [26,26] 26 true (.ret [(.agg [(U 6 0),(U 6 1),(U 10 0)])]))))))
def Um:Tr:=aI 120 [(G1 0),(W 2 0)] [(some 1)] [17,18] [26,3] 26 false (aI 102 [(tF false),(G1 3)] [(some 2)] [14,19] [4,26] 28 false (aI 91 [(G3 0)] [(some 1)] [21] [30] 26 false (aI 120 [(G1 5),(W 2 0)] [(some 1)] [22,23] [26,3] 26 false (.need (.call 122 [(.one (.c (.k (.int .u64 1))))] [(some 1)]) (.call ⟨.value (.func 122),#[(.const (.int .u64 1))],#[153]⟩) 26 false (aI 121 [(G1 6),(G1 7)] [(some 1)] [24,25] [26,26] 26 true (.ret [(.agg [(U 4 0),(U 4 1),(U 8 0)])]))))))
def Zi:Tr:=.need (.call 119 [(W 1 0),(WK 1000)] [none]) (.call ⟨.value (.func 119),#[(tT 5),(.const (I3 1000))],#[3,3]⟩) 3 true (.split (.u 0 1) (aX .rem 3 11 2 2 0 3 (aX .eql 3 12 1 3 0 4 aa7)) Um)
theorem QA:aN prog f71 (fun _=>none) [.v (some 3), .v none]=Zi:=by kernel_rfl
def XY:Tr:=aI 36 [(.agg [(U 0 3),(U 0 4),(U 0 5)])] [(some 3)] [4] [30] 30 false (aI 36 [(G3 0)] [(some 3)] [7] [30] 30 true Wr)
theorem Zy:aN prog f37 (fun _=>none) [.v (some 6)]=XY:=by kernel_rfl
def ZN:Tr:=aI 37 [(G6 1)] [(some 6)] [6] [39] 39 true (aI 156 [(G6 0),(G6 2)] [(some 6)] [5,7] [39,39] 39 true (.ret [(G6 3)]))
theorem YG:aN prog f109 (fun _=>none) [.v (some 6), .v (some 6)]=ZN:=by kernel_rfl
def Ss:Tr:=.ret [(G6 5)]
def WT:Tr:=aI 17 [(.agg [(U 0 3),(U 0 4),(U 0 5)])] [none] [11] [30] 3 true (aX .leq 3 12 0 3 0 4 (.split (.u 4 0) (aI 37 [(G6 0)] [(some 6)] [14] [39] 39 true Ss) (aI 36 [(G3 0)] [(some 3)] [18] [30] 30 false (.need (.lit 3 [[(.u 5 0),(.u 5 1),(.u 5 2)],[(.u 0 3),(.u 0 4),(.u 0 5)]]) (.buildSlice 52 2 #[(0,(tT 19)),(1,(tT 21))]) 52 false (aI 126 [(.one (.c (.sr 3 6)))] [(some 3)] [22] [52] 30 true (.ret [(.agg [tN,(tE (.bool false)),tN,(U 7 0),(U 7 1),(U 7 2)])]))))))
def Wy:Tr:=aI 17 [(G3 0)] [none] [5] [30] 3 true (aX .geq 3 6 0 1 0 4 (.split (.u 2 0) (.ret [(G6 0)]) WT))
theorem Ze:aN prog f203 (fun _=>none) [.v (some 6)]=Wy:=by kernel_rfl
def ZK:Tr:=aI 85 [(G2 0)] [(some 3)] [4] [28] 30 true QT
theorem WV:aN prog f128 (fun _=>none) [.v (some 3)]=ZK:=by kernel_rfl
def Yy:Tr:=aI 91 [(G3 0)] [(some 1)] [3] [30] 26 true (aI 85 [(.agg [(U 1 0),(tE (.bool false))])] [(some 3)] [5] [28] 30 true Sv)
theorem Yz:aN prog f129 (fun _=>none) [.v (some 3)]=Yy:=by kernel_rfl
def YT:Tr:=aI 148 [(G3 0),(W 1 0)] [(some 3)] [5,6] [30,3] 30 false (aI 149 [(G3 0),(W 1 0)] [(some 3)] [8,9] [30,3] 30 true QX)
theorem UH:aN prog f124 (fun _=>none) [.v (some 3), .v none]=YT:=by kernel_rfl
def WO:Tr:=aI 32 [(G3 0),(G3 1)] [(some 3)] [6,7] [30,30] 30 false (aI 32 [(.agg [(U 0 3),(U 0 4),(U 0 5)]),(G3 1)] [(some 3)] [10,11] [30,30] 30 true (.need (.lit 3 [[(.u 2 0),(.u 2 1),(.u 2 2)],[(.u 3 0),(.u 3 1),(.u 3 2)]]) (.buildSlice 52 2 #[(0,(tT 8)),(1,(tT 12))]) 52 false (aI 155 [(.one (.c (.sr 3 4)))] [(some 6)] [13] [52] 39 true Ss)))
theorem Qi:aN prog f108 (fun _=>none) [.v (some 6), .v (some 3)]=WO:=by kernel_rfl
def Xk:Tr:=.need (.lit 3 [[(.u 0 0),(.u 0 1),(.u 0 2)],[(.u 1 0),(.u 1 1),(.u 1 2)]]) (.buildSlice 52 2 #[(0,(tT 6)),(1,(tT 8))]) 52 false (aI 125 [(.one (.c (.sr 3 2)))] [(some 3)] [9] [52] 30 false (.need (.lit 3 [[(.u 0 3),(.u 0 4),(.u 0 5)],[(.u 1 3),(.u 1 4),(.u 1 5)]]) (.buildSlice 52 2 #[(0,(tT 12)),(1,(tT 14))]) 52 false (aI 126 [(.one (.c (.sr 3 4)))] [(some 3)] [15] [52] 30 true (.ret [(.agg [(U 3 0),(U 3 1),(U 3 2),(U 5 0),(U 5 1),(U 5 2)])]))))
theorem Vr:aN prog f83 (fun _=>none) [.v (some 6), .v (some 6)]=Xk:=by kernel_rfl
def Yu:Tr:=aI 32 [(G3 1),(G3 0)] [(some 3)] [6,8] [30,30] 30 false (aI 99 [(G3 2)] [(some 3)] [9] [30] 30 false (aI 32 [(G3 3),(.agg [(U 0 3),(U 0 4),(U 0 5)])] [(some 3)] [10,12] [30,30] 30 false (aI 32 [(.agg [(U 1 3),(U 1 4),(U 1 5)]),(G3 0)] [(some 3)] [15,17] [30,30] 30 false (aI 154 [(G3 5)] [(some 3)] [18] [30] 30 false (aI 32 [(G3 6),(.agg [(U 0 3),(U 0 4),(U 0 5)])] [(some 3)] [19,21] [30,30] 30 true (.ret [(.agg [(U 4 0),(U 4 1),(U 4 2),(U 7 0),(U 7 1),(U 7 2)])]))))))
theorem XV:aN prog f107 (fun _=>none) [.v (some 6), .v (some 6)]=Yu:=by kernel_rfl
def RA:Tr:=aI 107 [(G6 0),(G6 3)] [(some 6)] [7,10] [81,39] 39 true (.ret [(G6 4)])
def WE:Tr:=aI 186 [(G6 1),(G6 2)] [(some 6)] [8,9] [39,39] 39 true RA
theorem YY:aN prog f150 (fun _=>none) [.v (some 6), .v (some 6), .v (some 6)]=WE:=by kernel_rfl
def ZP:Tr:=aI 108 [(G6 1),(G3 2)] [(some 6)] [8,9] [39,30] 39 true RA
theorem PB:aN prog f153 (fun _=>none) [.v (some 6), .v (some 6), .v (some 3)]=ZP:=by kernel_rfl
def ZU:Tr:=aI 203 [(G6 0)] [(some 6)] [3] [39] 39 true (.ret [(.agg [(U 1 3),(U 1 4),(U 1 5)])])
theorem KT:aN prog f187 (fun _=>none) [.v (some 6)]=ZU:=by kernel_rfl
def Wz:Tr:=aI 36 [(G3 0)] [(some 3)] [3] [30] 30 false (.ret [(.agg [(U 1 0),(U 1 1),(U 1 2),(U 0 0),(U 0 1),(U 0 2)])])
theorem PA:aN prog f189 (fun _=>none) [.v (some 3)]=Wz:=by kernel_rfl
def ZX:Tr:=cX .lss 3 8 7 2 0 1 0 0 (.split (.u 9 0) (JN 0 0 2 0 201 6 8 (DV 10 0 (some 6) 39 10 (aI 156 [(.agg [(U 3 0),(U 4 0),(U 5 0),(U 6 0),(U 7 0),(U 8 0)]),(G6 11)] [(some 6)] [12,13] [39,39] 39 true (aX .add 3 8 1 2 0 3 (.back 0 [lV 13 0,lV 12 0,lV 12 1,lV 12 2,lV 12 3,lV 12 4,lV 12 5]))))) (.ret [(.agg [(U 3 0),(U 4 0),(U 5 0),(U 6 0),(U 7 0),(U 8 0)])]))
def Ys:Tr:=kC 0 0 6 201 (.loop 0 [lK 0,lN,(.w (.one (.c (.k (.bool false))))),lN,lN,(.w (.one (.c (.k (.bool false))))),lN] ZX)
theorem Rd:aN prog f188 (fun _=>none) [.v none]=Ys:=by kernel_rfl
theorem iL {a b:Rat} {B:Nat} (ha:Fit B a) (hb:Fit B b):∀ x ∈ [a,b],Fit B x:=fun x hx=>by
 simp only [List.mem_cons,List.not_mem_nil,or_false] at hx;rcases hx with rfl | rfl
 ·exact ha
 ·exact hb
def kA (p:Rat×Rat) (u:Rat):Rat×Rat:=(lE [p.1*u,p.2*u] 2,jU [p.1*u,p.2*u] 2)
def aZ (a b:Rat):Rat:=if b=0 then 0 else a/b
def uB (p:Rat×Rat):Rat×Rat:=(-p.2,-p.1)
def Bc (p q:Rat×Rat):Rat×Rat:=(p.1 + -q.2,p.2 + -q.1)
def cS (p:Rat×Rat):Rat×Rat:=if 0≤p.1 then p else if p.2≤0 then uB p else (0,jU [-p.1,p.2] 2)
def mU (up down:Rat) (p:Rat×Rat):Rat×Rat:=((gT (p.1*up):Rat)*down,((-gT (-(p.2*up)):Int):Rat)*down)
def FF (p q:Rat×Rat):Rat×Rat:=(Oa p.1 p.2 q.1 q.2,Ns p.1 p.2 q.1 q.2)
abbrev dK (p:Rat×Rat):aE:=gF p.1 p.2
theorem KK (q:Rat):q.num.sign≤0↔q≤0:=by
 rw [Int.sign_nonpos_iff];have h0:0≤(-q).num↔0 ≤ -q:=Rat.num_nonneg;rw [Rat.neg_num] at h0
 constructor
 ·intro h;have:=h0.1 (by omega);grind
 ·intro h;have:=h0.2 (by grind);omega
theorem bW  :aD prog 69 [] (.ret [qT ((1:Int):Rat)]):=by
 refine bM (args:=[]) (ins:=[]) (hints:=(fun _=>none)) fo (by kernel_rfl) func69 trivial ?_;rw [YE];dsimp only [List.map,In.env,aF,aG];apply aA (aY 1) rfl;exact aK rfl
theorem bD (a b:Rat) (A B:Nat) (ha:Fit A a) (hb:Fit B b) (h:A+B≤34359738368:=by omega):aD prog 66 [(qT a:aE),(qT b:aE)] (.ret [qT (aZ a b)]):=by
 refine bU func66 Kw ?_;apply aA (SS a b A B ha hb h) rfl;exact aK rfl
theorem lQ (n d:Int) (h1:-9223372036854775808≤n:=by omega) (h2:n<9223372036854775808:=by omega) (h3:-9223372036854775808≤d:=by omega) (h4:d<9223372036854775808:=by omega):aD prog 67 [(.one (.int .i64 n):aE),(.one (.int .i64 d):aE)] (.ret [qT (aZ n d)]):=by
 refine bU func67 ae0 ?_;apply aA (aY n h1 h2) rfl;apply aA (aY d h3 h4) rfl;apply aA (bD n d 64 64 (Fit.int (by omega) (by omega)) (Fit.int (by omega) (by omega))) rfl;exact aK rfl
theorem mB (p:Rat×Rat):aD prog 37 [(dK p:aE)] (.ret [dK (uB p)]):=by
 refine bU func37 Zy ?_;apply aA (lF p.2) rfl;apply aA (lF p.1) rfl;exact aK rfl
theorem QD (p q:Rat×Rat) (A B:Nat) (h1:Fit A p.1) (h2:Fit A p.2) (h3:Fit B q.1) (h4:Fit B q.2) (h:A+B≤34359738368:=by omega):aD prog 109 [(dK p:aE),(dK q:aE)] (.ret [dK (Bc p q)]):=by
 refine bU func109 YG ?_;apply aA (mB q) rfl;apply aA (Jn p.1 p.2 (-q.2) (-q.1) A B h1 h2 h4.neg h3.neg h) rfl;exact aK rfl
theorem eN (p:Rat×Rat) (u:Rat) (A B:Nat) (h1:Fit A p.1) (h2:Fit A p.2) (hu:Fit B u) (hA:1≤A:=by omega) (h:A+B≤8589934592:=by omega):aD prog 108 [(dK p:aE),(qT u:aE)] (.ret [dK (kA p u)]):=by
 refine bU func108 Qi ?_;apply aA (bG p.1 u A B h1 hu) rfl;apply aA (bG p.2 u A B h2 hu) rfl;apply wU (us:=[qC (p.1*u),qC (p.2*u)]) rfl;apply aA (GI [p.1*u,p.2*u] (A+B) (iL (h1.mul hu) (h2.mul hu)) (by omega) (by omega) (by simp)) rfl;exact aK rfl
theorem XO (p:Rat×Rat) (A:Nat) (f1:Fit A p.1) (f2:Fit A p.2) (hA:1≤A) (h:A≤8589934592):aD prog 203 [(dK p:aE)] (.ret [dK (cS p)]):=by
 refine bU func203 Ze ?_;have hs1:0≤p.1.num.sign↔0≤p.1:=by rw [Int.sign_nonneg_iff];exact Rat.num_nonneg
 have hs2:=KK p.2;apply aA (bB p.1) rfl;apply vn iE rfl;refine vs _ rfl ?_ ?_<;>intro h2
 ·rw [show cS p=p from if_pos (hs1.1 h2)];exact aK rfl
 apply aA (bB p.2) rfl;apply vn jF rfl;dsimp only [aF,aG];refine vs _ rfl ?_ ?_<;>intro h6
 ·apply aA (mB p) rfl;dsimp only [aF,aG];rw [show cS p=uB p from (if_neg fun h=>h2 (hs1.2 h)).trans (if_pos (hs2.1 h6))];exact aK rfl
 apply aA (lF p.1) rfl;apply wU (us:=[qC (-p.1),qC p.2]) rfl;apply aA (SI [-p.1,p.2] A (iL f1.neg f2) hA h (by simp)) rfl;dsimp only [aF,aG];rw [show cS p=(0,jU [-p.1,p.2] 2) from (if_neg fun h=>h2 (hs1.2 h)).trans (if_neg fun h=>h6 (hs2.2 h))];exact iG ⟨⟨dJ.1,dJ.2.1,dJ.2.2.1,aL.Sub.same,aL.Sub.same,aL.Sub.same,trivial⟩,trivial⟩
theorem oX (up down:Rat) (p:Rat×Rat) (A U:Nat) (h1:Fit A p.1) (h2:Fit A p.2) (hu:Fit U up) (hd:Fit U down) (hA:1≤A:=by omega) (h:A+U+U≤8589934592:=by omega):aD prog 107 [(gF up down:aE),(dK p:aE)] (.ret [dK (mU up down p)]):=by
 refine bU func107 XV ?_;apply aA (bG p.1 up A U h1 hu) rfl;apply aA (fB (p.1*up) (A+U) (h1.mul hu)) rfl;apply aA (bG _ down (A+U) U (gS (h1.mul hu)) hd) rfl;apply aA (bG p.2 up A U h2 hu) rfl;dsimp only [aF,aG];apply aA (Nd (p.2*up) (A+U) (h2.mul hu)) rfl;apply aA (bG _ down (A+U) U (by rw [Rat.intCast_neg];exact (gS (h2.mul hu).neg).neg) hd) rfl;exact aK rfl
theorem mW (up down:Rat) (p q:Rat×Rat) (A B U:Nat) (h1:Fit A p.1) (h2:Fit A p.2) (h3:Fit B q.1) (h4:Fit B q.2) (hu:Fit U up) (hd:Fit U down) (hA:1≤A:=by omega) (h:A+B+U+U≤4294967296:=by omega):aD prog 150 [(gF up down:aE),(dK p:aE),(dK q:aE)] (.ret [dK (mU up down (FF p q))]):=by
 refine bU func150 YY ?_;have hm:=Jy h1 h2 h3 h4 hA;apply aA (Zn p.1 p.2 q.1 q.2 A B hA h1 h2 h3 h4) rfl;apply aA (oX up down (FF p q) (A+B) U hm.1 hm.2 hu hd) rfl;exact aK rfl
theorem Pa (up down:Rat) (p:Rat×Rat) (u:Rat) (A B U:Nat) (h1:Fit A p.1) (h2:Fit A p.2) (hb:Fit B u) (hu:Fit U up) (hd:Fit U down) (hA:1≤A:=by omega) (h:A+B+U+U≤4294967296:=by omega):aD prog 153 [(gF up down:aE),(dK p:aE),(qT u:aE)] (.ret [dK (mU up down (kA p u))]):=by
 refine bU func153 PB ?_;apply aA (eN p u A B h1 h2 hb hA) rfl;apply aA (oX up down (kA p u) (A+B) U (pD (iL (h1.mul hb) (h2.mul hb)) 2 (by simp)) (mJ (iL (h1.mul hb) (h2.mul hb)) 2 (by simp)) hu hd) rfl;exact aK rfl
theorem jJ (p:Rat×Rat) (A:Nat) (h1:Fit A p.1) (h2:Fit A p.2) (hA:1≤A:=by omega) (h:A≤8589934592:=by omega):aD prog 187 [(dK p:aE)] (.ret [qT (cS p).2]):=by
 refine bU func187 KT ?_;apply aA (XO p A h1 h2 hA h) rfl;exact aK rfl
theorem GN (r:Rat):aD prog 189 [(qT r:aE)] (.ret [dK (-r,r)]):=by
 refine bU func189 PA ?_;apply aA (lF r) rfl;exact aK rfl
theorem Rn (q:Rat) (H:Nat) (hq:Fit H q) (h:H≤8589934592:=by omega):aD prog 129 [(qT q:aE)] (.ret [qT ((q.den:Int):Rat)]):=by
 refine bU func129 Yz ?_;apply aA (cV q (by have:=(Fit.dl hq).2;omega)) rfl;dsimp only [aF,aG];have hw:=nP (q.den:Int);rw [show iT (q.den:Int) = .agg [dT q.den, .exact (.bool false)] from by rw [show iT (q.den:Int) = .agg [dT q.den, .bool (decide ((q.den:Int)<0))] from rfl,decide_eq_false (show ¬ (q.den:Int)<0 by omega)]] at hw;apply aA hw rfl;exact aK rfl
theorem RK (q:Rat):aD prog 128 [(qT q:aE)] (.ret [qT (q.num:Rat)]):=by
 refine bU func128 WV ?_;apply aA (nP q.num) rfl;exact aK rfl
theorem Ng (q:Rat) (k:Int) (H:Nat) (hq:Fit H q) (hk:k≤256:=by omega) (h1:1≤H:=by omega) (hH:H≤8000000000:=by omega):aD prog 124 [(qT q:aE),(.one (.int .i64 k):aE)] (.ret [dK (fK q k.toNat,EA q k.toNat)]):=by
 refine bU func124 UH ?_;apply aA (Of q k H hk hq h1 hH) rfl;apply aA (VX q k H hk hq h1 hH) rfl;exact aK rfl
open Go Go.Proofs Tryz Ord
def XH:Tr:=.split (.u 6 0) (.need (.call 22 [(WK 2)] [(some 3)]) (.call ⟨.value (.func 22),#[(.const (I3 2))],#[2]⟩) 30 false (.need (.call 71 [(G3 7),(WK 1000)] [(some 3)]) (.call ⟨.value (.func 71),#[(tT 10),(.const (I3 1000))],#[30,3]⟩) 30 true (aI 32 [(.agg [(U 3 0),(U 4 0),(U 5 0)]),(G3 8)] [(some 3)] [9,11] [30,30] 30 true (aX .sub 3 7 1000 2 0 3 (.back 0 [lV 10 0,lV 9 0,lV 9 1,lV 9 2]))))) (.need (.call 22 [(WK 2)] [(some 3)]) (.call ⟨.value (.func 22),#[(.const (I3 2))],#[2]⟩) 30 false (aI 71 [(G3 7),(W 2 0)] [(some 3)] [14,15] [30,3] 30 true (aI 32 [(.agg [(U 3 0),(U 4 0),(U 5 0)]),(G3 8)] [(some 3)] [13,16] [30,30] 30 true (aI 69 [] [(some 3)] [] [] 30 false (aI 66 [(G3 10),(G3 9)] [(some 3)] [19,20] [30,30] 30 true (.ret [(.agg [(U 9 0),(U 9 1),(U 9 2),(U 11 0),(U 11 1),(U 11 2)])]))))))
def Xg:Tr:=aI 69 [] [(some 3)] [] [] 30 true (.loop 0 [lV 0 0,lV 1 0,lV 1 1,lV 1 2] (aX .gtr 3 5 1000 2 0 4 XH))
theorem TV:aN prog f34 (fun _=>none) [.v none]=Xg:=by kernel_rfl
def Ud:Tr:=.need (.call 22 [(WK 2)] [(some 3)]) (.call ⟨.value (.func 22),#[(.const (I3 2))],#[2]⟩) 30 false (aI 32 [(G3 14),(G3 15)] [(some 3)] [27,28] [30,30] 30 false (aI 189 [(G3 16)] [(some 6)] [29] [30] 39 false (.need (.lit 6 [[(.u 17 0),(.u 17 1),(.u 17 2),(.u 17 3),(.u 17 4),(.u 17 5)]]) (.buildSlice 201 1 #[(0,(tT 30))]) 201 false (.need (.app 6 112 (some 4) none (some 18)) (.call ⟨.builtin .append,#[(tT 25),(tT 31)],#[201,201]⟩) 201 false (aI 188 [(.one (.c (.sr 6 19)))] [(some 6)] [32] [201] 39 true (.ret [(G6 20)]))))))
def Xr:Tr:=aX .gtr 3 13 0 12 0 4 (.split (.u 13 0) (.need (.lit 6 [[(.u 5 0),(.u 6 0),(.u 7 0),(.u 8 0),(.u 9 0),(.u 10 0)]]) (.buildSlice 201 1 #[(0,(tT 18))]) 201 false (.need (.app 6 112 (some 4) none (some 14)) (.call ⟨.builtin .append,#[(tT 17),(tT 19)],#[201,201]⟩) 201 false (.need (.callv (.u 2 0) [(.agg [(U 5 0),(U 6 0),(U 7 0),(U 8 0),(U 9 0),(U 10 0)]),(W 3 0)] [(some 6)]) (.call ⟨.value (tT 21),#[(tT 22),(tT 23)],#[39,3]⟩) 39 true (aX .add 3 15 1 3 0 3 (.back 0 [lV 17 0, .row 15,lV 16 0,lV 16 1,lV 16 2,lV 16 3,lV 16 4,lV 16 5]))))) (aI 187 [(.agg [(U 5 0),(U 6 0),(U 7 0),(U 8 0),(U 9 0),(U 10 0)])] [(some 3)] [26] [39] 30 false Ud))
def Yw:Tr:=.loop 0 [lK 0, .nilrow,lV 1 0,lV 1 1,lV 1 2,lV 1 3,lV 1 4,lV 1 5] (aI 187 [(.agg [(U 5 0),(U 6 0),(U 7 0),(U 8 0),(U 9 0),(U 10 0)])] [(some 3)] [9] [39] 30 false (aI 68 [(G3 11),(.agg [(U 0 3),(U 0 4),(U 0 5)])] [none] [10,12] [30,30] 3 true Xr))
theorem YJ:aN prog f151 (fun _=>none) [.v (some 6), .v (some 6), .v none]=Yw:=by kernel_rfl
theorem nL {q:Rat} {H:Nat} (h:Fit H q) (n:Nat) (hH:1≤H:=by omega):Fit (H*n+1) (q^n):=by
 refine ⟨?_,?_⟩
 ·rw [Rat.num_pow,Int.natAbs_pow];exact jO h.1 hH
 ·rw [Rat.den_pow];exact jO h.2 hH
theorem Zw {x H n:Nat} (h:x<2^H) (hH:1≤H):(dg (x^n)).length≤H*n+1:=eI (jO h hH)
theorem fV (q:Rat) (n:Int) (N H:Nat) (hq:Fit H q) (hH1:1≤H:=by omega) (hn:max 0 (min n 1000)=(N:Int):=by omega) (hH:H≤100000000:=by omega):aD prog 71 [(qT q:aE),(.one (.int .i64 n):aE)] (.ret [qT (q^N)]):=by
 refine bU func71 QA ?_;have hN:N≤1000:=by omega
 have hHN:H*N≤100000000000:=by
  have:=Nat.mul_le_mul hH hN;omega
 have hden:0<q.den^N:=Nat.pow_pos q.den_pos;have hdg:(dg (q.den^N)).length≤H*N+1:=Zw hq.2 hH1;have hdl:=(Fit.dl hq).2;apply aA (wK n 1000) rfl;rw [hn];refine vs _ rfl ?_ ?_<;>intro h1
 ·apply vn (eU) rfl;apply vn aC rfl;apply aA (nO q.num.natAbs N H hH1 hq.1) rfl;dsimp only [aF,aG];have hneg:q.num<0:=h1
  have hz:(q^N).num=if decide (((N:Int)%2)=1) then -((q.num.natAbs^N:Nat):Int) else ((q.num.natAbs^N:Nat):Int):=by
   have e:q.num = -(q.num.natAbs:Int):=by omega
   rw [Rat.num_pow,Int.natCast_pow];generalize (q.num.natAbs:Int)=m at e;rw [e,Int.neg_pow];rcases Nat.mod_two_eq_zero_or_one N with h | h
   ·rw [h,if_neg (by rw [decide_eq_true_iff];omega)];simp
   ·rw [h,if_pos (by rw [decide_eq_true_iff];omega)];simp
  apply aA (cZ _ _ _ hz) rfl;apply aA (cV q) rfl;apply aA (nO q.den N H hH1 hq.2) rfl;apply aA (eT 1) rfl;dsimp only [aF,aG];apply aA (qR (q.den^N) 1 hden hden) rfl;dsimp only [aF,aG];refine aK ?_;show [aE.agg [dT (q^N).num.natAbs, .bool (decide ((q^N).num<0)),dT (q.den^N-1)]] = [qT (q^N)];simp only [qT,qC,Rat.den_pow]
 apply aA (nO q.num.natAbs N H hH1 hq.1) rfl;dsimp only [aF,aG]
 have hz:(q^N).num=if false=true then -((q.num.natAbs^N:Nat):Int) else ((q.num.natAbs^N:Nat):Int):=by
  have e:(q.num.natAbs:Int)=q.num:=by omega
  rw [if_neg (by simp),Rat.num_pow,Int.natCast_pow,e]
 apply aA (cZ false _ _ hz) rfl;apply aA (cV q) rfl;apply aA (nO q.den N H hH1 hq.2) rfl;apply aA (eT 1) rfl;dsimp only [aF,aG];apply aA (qR (q.den^N) 1 hden hden) rfl;dsimp only [aF,aG];refine aK ?_;show [aE.agg [dT (q^N).num.natAbs, .bool (decide ((q^N).num<0)),dT (q.den^N-1)]] = [qT (q^N)];simp only [qT,qC,Rat.den_pow]
def bZ (p:Nat):Rat:=aZ ((1:Int):Rat) (aP p)
theorem nM (p:Nat):Fit (p+1) (aP p):=Fit.int (by omega) (by rw [Int.natAbs_natCast];exact Nat.pow_lt_pow_right (by omega) (by omega))
theorem TT (p:Nat):((1:Int):Rat)*((2:Int):Rat)^p=aP p:=by
 rw [aP,Int.natCast_pow,Rat.intCast_pow,show ((1:Int):Rat)=1 from rfl,Rat.one_mul];rfl
theorem lH (p:Nat) (hp:p≤1000:=by omega):aD prog 34 [(.one (.int .i64 p):aE)] (.ret [gF (aP p) (bZ p)]):=by
 refine bU func34 TV ?_;apply aA bW rfl;refine cT Unit (fun _=>(.one (.int .i64 (p:Int)):aE)::(qC ((1:Int):Rat)).map .one) (fun _=>0) () aV.rfl (fun _=>rfl) ?_;rintro ⟨⟩;dsimp only [aF,aG,List.map];apply vn bJ rfl;refine vs _ rfl ?_ ?_<;>intro h3
 ·exfalso;omega
 apply aA (aY 2) rfl;apply aA (fV ((2:Int):Rat) p p 2 (Fit.int (by omega) (by omega))) rfl;apply aA (bG ((1:Int):Rat) (((2:Int):Rat)^p) 1 (2*p+1) (Fit.int (by omega) (by omega)) (nL (Fit.int (by omega) (by omega)) p)) rfl;rw [TT];dsimp only [aF,aG];apply aA bW rfl;apply aA (bD ((1:Int):Rat) (aP p) 1 (p+1) (Fit.int (by omega) (by omega)) (nM p)) rfl;exact aK rfl
abbrev VS:=List (Rat×Rat)
abbrev vS (l:VS):List (List aL):=l.map fun p=>eB p.1 p.2
def uJ (p q:Rat×Rat):Rat×Rat:=(p.1+q.1,p.2+q.2)
def Ls (l:VS):Rat×Rat:=l.foldl uJ (0,0)
theorem Hw {B:Nat}:∀ (l:VS) (p:Rat×Rat) (A:Nat),(∀ x∈l,Fit B x.1∧Fit B x.2)→Fit A p.1→Fit A p.2→Fit (A+l.length*(B+1)) (l.foldl uJ p).1∧Fit (A+l.length*(B+1)) (l.foldl uJ p).2
 | [],p,A,_,h1,h2=>by simpa using ⟨h1,h2⟩
 | x::xs,p,A,h,h1,h2=>by
   have hx:=h x List.mem_cons_self;have:=Hw xs (uJ p x) (A+B+1) (fun y hy=>h y (List.mem_cons_of_mem _ hy)) (h1.add hx.1) (h2.add hx.2);rw [List.length_cons,Nat.add_mul];exact ⟨this.1.mono (by omega),this.2.mono (by omega)⟩
theorem an4:aU aE.Sub [.one (.exact (.slice none 0 0)), .one (.bool false), .one (.exact (.slice none 0 0)), .one (.exact (.slice none 0 0)), .one (.bool false), .one (.exact (.slice none 0 0))] ((eB 0 0).map .one):=⟨dJ.1,dJ.2.1,dJ.2.2.1,dJ.1,dJ.2.1,dJ.2.2.1,trivial⟩
theorem La (l:VS) (B:Nat) (hl:∀ x∈l,Fit B x.1∧Fit B x.2) (hs:l.length<1099511627776) (hB:l.length*(B+1)+B+1≤34359738368):aD prog 188 [(.one (.slice 6 (vS l)):aE)] (.ret [dK (Ls l)]):=by
 refine bU func188 Rd ?_;apply vn (cF Rf (dL _)) rfl;refine cT {i:Nat // i≤l.length} (fun g=>(.one (.int .i64 g.1):aE)::(eB (Ls (l.take g.1)).1 (Ls (l.take g.1)).2).map .one) (fun g=>l.length-g.1) ⟨0,fP _⟩ ⟨aE.Sub.same,an4⟩ (fun _=>rfl) ?_;rintro ⟨i,hi⟩;dsimp only [aF,aG,List.map] at hi ⊢;apply vn bA rfl;refine vs _ rfl ?_ ?_<;>intro h3
 ·obtain ⟨x,hx⟩:∃ x,l[i]? = some x:=⟨_,fF (by omega)⟩
  have hxf:=hl x (LJ hx);have hpf:=Hw (l.take i) (0,0) 1 (fun y hy=>hl y (List.mem_of_mem_take hy)) (Fit.zero (by omega)) (Fit.zero (by omega));have hlt:(l.take i).length*(B+1)≤l.length*(B+1):=Nat.mul_le_mul_right _ (by rw [List.length_take];omega);apply vn (gP Rf (by omega) (by omega) hx) rfl;apply vn (oV as1 (by decide) (by simp) (.inl rfl)) rfl;apply aA (Jn _ _ x.1 x.2 _ B hpf.1 hpf.2 hxf.1 hxf.2) rfl;dsimp only [aF,aG];apply vn (aH) rfl
  exact bF rfl ⟨⟨i+1,by omega⟩,(by
   dsimp only;rw [show Ls (l.take (i+1))=uJ (Ls (l.take i)) x by rw [List.take_add_one,hx,Ls,List.foldl_append];rfl];exact aV.rfl),by show l.length-(i+1)<l.length-i;omega⟩
 rw [show l.take i=l from List.take_of_length_le (by omega)];exact aK rfl
def dV (t:Nat→Rat×Rat) (n:Nat):VS:=(List.range n).map t
def nB (t:Nat→Rat×Rat) (N:Nat):Rat×Rat:=Ls (dV t N ++ [(-((cS (t N)).2*((2:Int):Rat)),(cS (t N)).2*((2:Int):Rat))])
theorem HB {p:Rat×Rat} {A:Nat} (h1:Fit A p.1) (h2:Fit A p.2) (hA:1≤A:=by omega):Fit A (cS p).1∧Fit A (cS p).2:=by
 unfold cS uB;split
 ·exact ⟨h1,h2⟩
 ·split
  ·exact ⟨h2.neg,h1.neg⟩
  ·exact ⟨Fit.zero hA,mJ (iL h1.neg h2) 2 (by simp) hA⟩
theorem rZ (t:Nat→Rat×Rat) (n:Nat):dV t (n+1)=dV t n ++ [t n]:=by rw [dV,List.range_succ,List.map_append];rfl
theorem dI (t:Nat→Rat×Rat) (n:Nat):(dV t n).length=n:=by simp [dV]
theorem gU {a b:Rat}:dM a b>0↔b<a:=by
 have:=oQ (a:=a) (b:=b)
 constructor
 ·intro h;have h2:¬ a≤b:=fun e=>by have:=this.2 e;omega
  grind
 ·intro h;have h2:¬ dM a b≤0:=fun e=>by have:=this.1 e;grind
  omega
theorem QF (t:Nat→Rat×Rat) (N:Nat) (g:FuncId) (caps:List aL) (up down:Rat) (W:Nat) (hg:∀ i,i<N→aD prog g ([dK (t i), .one (.int .i64 (i:Int))]++caps.map .one) (.ret [dK (t (i+1))])) (hf:∀ i,i≤N→Fit W (t i).1∧Fit W (t i).2) (hd:Fit W down) (hgt:∀ i,i<N→down<(cS (t i)).2) (hle:(cS (t N)).2≤down) (hW:4≤W) (hW2:W≤100000) (hN:N≤10000):aD prog 151 [(gF up down:aE),(dK (t 0):aE),(.one (.dZ g caps):aE)] (.ret [dK (nB t N)]):=by
 refine bU func151 YJ ?_;refine cT {i:Nat // i≤N} (fun g=>(.one (.int .i64 g.1):aE) :: .rows (vS (dV t g.1))::(eB (t g.1).1 (t g.1).2).map .one) (fun g=>N-g.1) ⟨0,fP _⟩ aV.rfl (fun _=>rfl) ?_;rintro ⟨i,hi⟩;dsimp only [aF,aG,List.map] at hi ⊢;have hfi:=hf i hi;have hab:=HB hfi.1 hfi.2;have hln:=dI t i;apply aA (jJ (t i) W hfi.1 hfi.2) rfl;apply aA (bE (cS (t i)).2 down W W hab.2 hd) rfl;apply vn bJ rfl;refine vs _ rfl ?_ ?_<;>intro h4
 ·have hiN:i<N:=by
   rcases Nat.lt_or_ge i N with h | h
   ·exact h
   ·have:i=N:=by omega
    subst this;have:=gU.1 h4
    grind
  apply wU (us:=[eB (t i).1 (t i).2]) rfl;dsimp only [aF,aG];refine YI (ts:=vS (dV t i)) (us:=[eB (t i).1 (t i).2]) (vs:=vS (dV t (i+1))) rfl rfl (by rw [rZ,vS,vS,List.map_append];rfl) (by rw [dL,dI];omega) (by rw [dL,dI];simp only [maxLen];omega) ?_;apply mX (f:=g) (caps:=caps) rfl (hg i hiN) rfl;apply vn (aH) rfl;dsimp only [aF,aG];exact bF rfl ⟨⟨i+1,by omega⟩,aV.rfl,by show N-(i+1)<N-i;omega⟩
 have hiN:i=N:=by
  rcases Nat.lt_or_ge i N with h | h
  ·exact absurd (gU.2 (hgt i h)) h4
  ·omega
 subst hiN;apply aA (jJ (t i) W hfi.1 hfi.2) rfl;apply aA (aY 2) rfl;apply aA (bG (cS (t i)).2 ((2:Int):Rat) W 2 hab.2 (Fit.int (by omega) (by omega))) rfl;apply aA (GN _) rfl;dsimp only [aF,aG];apply wU (us:=[eB (-((cS (t i)).2*((2:Int):Rat))) ((cS (t i)).2*((2:Int):Rat))]) rfl;refine YI (ts:=vS (dV t i)) (us:=[eB (-((cS (t i)).2*((2:Int):Rat))) ((cS (t i)).2*((2:Int):Rat))]) (vs:=vS (dV t i ++ [(-((cS (t i)).2*((2:Int):Rat)),(cS (t i)).2*((2:Int):Rat))])) rfl rfl (by rw [vS,vS,List.map_append];rfl) (by simp [dI];omega) (by simp [dI];simp only [maxLen];omega) ?_;dsimp only [aF,aG];have hm:Fit (W+2) ((cS (t i)).2*((2:Int):Rat)):=hab.2.mul (Fit.int (by omega) (by omega))
 refine aA (La (dV t i ++ [(-((cS (t i)).2*((2:Int):Rat)),(cS (t i)).2*((2:Int):Rat))]) (W+2) (fun x hx=>by
  rcases List.mem_append.1 hx with h | h
  ·obtain ⟨j,hj,rfl⟩:=yH.1 h;have:=hf j (by have:=List.mem_range.1 hj;omega);exact ⟨this.1.mono (by omega),this.2.mono (by omega)⟩
  ·rw [List.mem_singleton.1 h];exact ⟨hm.neg,hm⟩) (by simp [dI];omega) (by
   rw [eF,dI,List.length_singleton];have:=Nat.mul_le_mul (show i+1≤10001 by omega) (show W+2+1≤100003 by omega);omega)) rfl ?_
 exact aK rfl
open Go Go.Proofs Tryz Ord
def ZW:Tr:=.ret [(.agg [(U 0 0),(U 0 1),(U 0 2),(U 0 0),(U 0 1),(U 0 2)])]
theorem ax9:aN prog f92 (fun _=>none) [.v (some 3)]=ZW:=by kernel_rfl
def Yx:Tr:=aI 69 [] [(some 3)] [] [] 30 false (aX .add 3 11 1 1 0 3 (aI 22 [(W 5 0)] [(some 3)] [12] [2] 30 false (aI 66 [(G3 4),(G3 6)] [(some 3)] [10,13] [30,30] 30 false (aI 108 [(G6 3),(G3 7)] [(some 6)] [9,14] [39,30] 39 true (aI 150 [(G6 2),(G6 0),(G6 8)] [(some 6)] [7,8,15] [81,39,39] 39 true (.ret [(G6 9)]))))))
theorem RN:aN prog f193 (fun _=>none) [.v (some 6), .v none, .ref 6, .ref 6]=Yx:=by kernel_rfl
def ZY:Tr:=aI 151 [(G6 0),(G6 5),(.one (.dZ 193 [(.ref 0 [(.u 0 0),(.u 0 1),(.u 0 2),(.u 0 3),(.u 0 4),(.u 0 5)]),(.ref 0 [(.u 3 0),(.u 3 1),(.u 3 2),(.u 3 3),(.u 3 4),(.u 3 5)])]))] [(some 6)] [10,12,13] [81,39,181] 39 true (.loop 0 [lK 0,lV 6 0,lV 6 1,lV 6 2,lV 6 3,lV 6 4,lV 6 5] (aX .lss 3 15 2 7 0 4 (.split (.u 14 0) (aI 150 [(G6 0),(.agg [(U 8 0),(U 9 0),(U 10 0),(U 11 0),(U 12 0),(U 13 0)]),(.agg [(U 8 0),(U 9 0),(U 10 0),(U 11 0),(U 12 0),(U 13 0)])] [(some 6)] [17,18,19] [81,39,39] 39 true (aX .add 3 15 1 7 0 3 (.back 0 [lV 16 0,lV 15 0,lV 15 1,lV 15 2,lV 15 3,lV 15 4,lV 15 5]))) (.ret [(.agg [(U 8 0),(U 9 0),(U 10 0),(U 11 0),(U 12 0),(U 13 0)])]))))
def Zt:Tr:=.need (.call 101 [(WK 2)] [(some 3)]) (.call ⟨.value (.func 101),#[(.const (I3 2))],#[3]⟩) 30 true (aI 108 [(G6 1),(G3 2)] [(some 6)] [7,8] [39,30] 39 true (aI 69 [] [(some 3)] [] [] 30 false (aI 92 [(G3 4)] [(some 6)] [11] [30] 39 false ZY)))
theorem Wx:aN prog f167 (fun _=>none) [.v (some 6), .v (some 6)]=Zt:=by kernel_rfl
theorem sJ (q:Rat):aD prog 92 [(qT q:aE)] (.ret [dK (q,q)]):=by
 refine bU func92 ax9 ?_;exact aK rfl
def ax0 (i:Nat):Rat:=aZ ((1:Int):Rat) ((((i:Int)+1:Int)):Rat)
theorem eA {a b:Rat} {A B:Nat} (ha:Fit A a) (hb:Fit B b) (h1:1≤A:=by omega):Fit (A+B) (aZ a b):=by
 unfold aZ;split
 ·exact Fit.zero (by omega)
 ·rename_i h;exact ha.div hb
theorem jA {p:Rat×Rat} {u:Rat} {A B:Nat} (h1:Fit A p.1) (h2:Fit A p.2) (hu:Fit B u) (hA:1≤A:=by omega):Fit (A+B) (kA p u).1∧Fit (A+B) (kA p u).2:=
 ⟨pD (iL (h1.mul hu) (h2.mul hu)) 2 (by simp),mJ (iL (h1.mul hu) (h2.mul hu)) 2 (by simp)⟩
theorem MW {up down:Rat} {p:Rat×Rat} {A U:Nat} (h1:Fit A p.1) (h2:Fit A p.2) (hu:Fit U up) (hd:Fit U down) (hA:1≤A:=by omega):Fit (A+U+U) (mU up down p).1∧Fit (A+U+U) (mU up down p).2:=
 ⟨(gS (h1.mul hu)).mul hd,Fit.mul (by rw [Rat.intCast_neg];exact (gS (h2.mul hu).neg).neg) hd⟩
def al7 (up down:Rat) (qr:Rat×Rat) (p:Rat×Rat) (i:Nat):Rat×Rat:=mU up down (FF p (kA qr (ax0 i)))
def sO (up down:Rat) (qr:Rat×Rat):Nat→Rat×Rat
 | 0=>(((1:Int):Rat),((1:Int):Rat))
 | i+1=>al7 up down qr (sO up down qr i) i
theorem Ta (up down:Rat) (qr p:Rat×Rat) (i:Nat) (A B U:Nat) (hp1:Fit A p.1) (hp2:Fit A p.2) (hq1:Fit B qr.1) (hq2:Fit B qr.2) (hu:Fit U up) (hd:Fit U down) (hi:i≤100000:=by omega) (hA:1≤A:=by omega) (hB:1≤B:=by omega) (h:A+(B+64)+U+U≤4294967296:=by omega):aD prog 193 [(dK p:aE),(.one (.int .i64 i):aE),(.one (.bI (eB up down)):aE),(.one (.bI (eB qr.1 qr.2)):aE)] (.ret [dK (al7 up down qr p i)]):=by
 refine dvr (ins:=[.v (dK p), .v (.one (.int .i64 i)), .ref (eB up down), .ref (eB qr.1 qr.2)]) func193 RN ?_;have h1f:Fit 1 ((1:Int):Rat):=Fit.int (by omega) (by omega);have hif:Fit 62 (((i:Int)+1:Int):Rat):=Fit.int (by omega) (by omega);have hsc:=jA hq1 hq2 (eA h1f hif) hB;apply aA bW rfl;apply vn (aH) rfl;apply aA (aY _) rfl;apply aA (bD _ _ 1 62 h1f hif) rfl;dsimp only [aF,aG];apply aA (eN qr _ B (1+62) hq1 hq2 (eA h1f hif) hB) rfl;apply aA (mW up down p _ A (B+(1+62)) U hp1 hp2 hsc.1 hsc.2 hu hd hA) rfl;exact aK rfl
def Vz (up down:Rat) (o:Rat×Rat):Nat→Rat×Rat
 | 0=>o
 | i+1=>mU up down (FF (Vz up down o i) (Vz up down o i))
theorem Mi {up down:Rat} {o:Rat×Rat} {S U:Nat} (h1:Fit S o.1) (h2:Fit S o.2) (hu:Fit U up) (hd:Fit U down) (hS:1≤S):∀ i,Fit (3^i*(S+2*U)) (Vz up down o i).1∧Fit (3^i*(S+2*U)) (Vz up down o i).2
 | 0=>⟨h1.mono (by omega),h2.mono (by omega)⟩
 | i+1=>by
   have ih:=Mi h1 h2 hu hd hS i;have hp:1*(S+2*U)≤3^i*(S+2*U):=Nat.mul_le_mul_right _ (Nat.pow_pos (by omega));have hm:=Jy ih.1 ih.2 ih.1 ih.2;have ho:=MW (p:=FF (Vz up down o i) (Vz up down o i)) hm.1 hm.2 hu hd;rw [Nat.pow_succ,Nat.mul_assoc,Nat.mul_comm 3,←Nat.mul_assoc];exact ⟨ho.1.mono (by omega),ho.2.mono (by omega)⟩
def pC (up down:Rat) (s:Rat×Rat) (N:Nat):Rat×Rat:=Vz up down (nB (sO up down (kA s (mkRat 1 (2^2)))) N) 2
structure lU (up down:Rat) (s:Rat×Rat) (N W:Nat):Prop where
 hf:∀ i,i≤N→Fit W (sO up down (kA s (mkRat 1 (2^2))) i).1∧Fit W (sO up down (kA s (mkRat 1 (2^2))) i).2
 hgt:∀ i,i<N→down<(cS (sO up down (kA s (mkRat 1 (2^2))) i)).2
 hle:(cS (sO up down (kA s (mkRat 1 (2^2))) N)).2≤down
 hs:Fit W s.1∧Fit W s.2
 hu:Fit W up∧Fit W down
 hN:N≤1000
 hW:4≤W∧W≤10000
theorem sW {t:Nat→Rat×Rat} {N W:Nat} (hf:∀ i,i≤N→Fit W (t i).1∧Fit W (t i).2) (hW:4≤W):Fit (1+(N+1)*(W+2+1)) (nB t N).1∧Fit (1+(N+1)*(W+2+1)) (nB t N).2:=by
 have hab:=HB (hf N (cD _)).1 (hf N (cD _)).2 (show 1≤W by omega);have hm:Fit (W+2) ((cS (t N)).2*((2:Int):Rat)):=hab.2.mul (Fit.int (by omega) (by omega))
 have:=Hw (B:=W+2) (dV t N ++ [(-((cS (t N)).2*((2:Int):Rat)),(cS (t N)).2*((2:Int):Rat))]) (0,0) 1 (fun x hx=>by
  rcases List.mem_append.1 hx with h | h
  ·obtain ⟨j,hj,rfl⟩:=yH.1 h;have:=hf j (by have:=List.mem_range.1 hj;omega);exact ⟨this.1.mono (by omega),this.2.mono (by omega)⟩
  ·rw [List.mem_singleton.1 h];exact ⟨hm.neg,hm⟩) (Fit.zero (by omega)) (Fit.zero (by omega))
 rw [eF,dI,List.length_singleton] at this;exact this
theorem Rg (up down:Rat) (s:Rat×Rat) (N W:Nat) (K:lU up down s N W):aD prog 167 [(gF up down:aE),(dK s:aE)] (.ret [dK (pC up down s N)]):=by
 refine bU func167 Wx ?_;obtain ⟨hf,hgt,hle,hs,hu,hN,hW⟩:=K;have hm2:Fit 3 (mkRat 1 (2^2)):=⟨by decide +kernel,by decide +kernel⟩
 have hsc:=jA hs.1 hs.2 hm2;have hb:(N+1)*(W+2+1)≤1001*10003:=Nat.mul_le_mul (by omega) (by omega);have hsf:=sW hf hW.1;obtain ⟨S,hS⟩:∃ S,S=1+(N+1)*(W+2+1):=⟨_,rfl⟩
 rw [←hS] at hsf;have hsq:=Mi (o:=nB (sO up down (kA s (mkRat 1 (2^2)))) N) hsf.1 hsf.2 hu.1 hu.2 (by omega);apply aA (eS 2) rfl;apply aA (eN s _ W 3 hs.1 hs.2 hm2) rfl;apply aA bW rfl;apply aA (sJ _) rfl;dsimp only [aF,aG];apply aA (QF (sO up down (kA s (mkRat 1 (2^2)))) N 193 [.bI (eB up down), .bI (eB (kA s (mkRat 1 (2^2))).1 (kA s (mkRat 1 (2^2))).2)] up down W (fun i hi=>Ta up down (kA s (mkRat 1 (2^2))) (sO up down (kA s (mkRat 1 (2^2))) i) i W (W+3) W (hf i (by omega)).1 (hf i (by omega)).2 hsc.1 hsc.2 hu.1 hu.2) hf hu.2 hgt hle hW.1 (by omega) (by omega)) rfl;refine cT {i:Nat // i≤2} (fun g=>(.one (.int .i64 g.1):aE)::(eB (Vz up down (nB (sO up down (kA s (mkRat 1 (2^2)))) N) g.1).1 (Vz up down (nB (sO up down (kA s (mkRat 1 (2^2)))) N) g.1).2).map .one) (fun g=>2-g.1) ⟨0,fP _⟩ aV.rfl (fun _=>rfl) ?_;rintro ⟨i,hi⟩;dsimp only [aF,aG,List.map] at hi ⊢;apply vn bA rfl;refine vs _ rfl ?_ ?_<;>intro h7
 ·have hi1:i≤1:=by omega
  have hq:=hsq i
  have h3:3^i*(S+2*W)≤3*(S+2*W):=Nat.mul_le_mul_right _ (by
   rcases Nat.le_one_iff_eq_zero_or_eq_one.1 hi1 with e | e<;>rw [e]<;>omega)
  have h3':1*(S+2*W)≤3^i*(S+2*W):=Nat.mul_le_mul_right _ (Nat.pow_pos (by omega));apply aA (mW up down _ _ _ _ W hq.1 hq.2 hq.1 hq.2 hu.1 hu.2) rfl;apply vn (aH) rfl;dsimp only [aF,aG];exact bF rfl ⟨⟨i+1,by omega⟩,aV.rfl,by show 2-(i+1)<2-i;omega⟩
 rw [pC,show (2:Nat)=i by omega];exact aK rfl
open Go Go.Proofs Tryz Ord
def Tw:Tr:=aI 32 [(G3 26),(G3 27)] [(some 3)] [39,40] [30,30] 30 true (aI 99 [(G3 28)] [(some 3)] [41] [30] 30 true (aI 71 [(G3 29),(W 2 0)] [(some 3)] [43,44] [30,3] 30 false (aI 68 [(G3 30),(G3 5)] [none] [45,46] [30,30] 3 true (aX .leq 3 47 0 31 0 4 (.split (.u 32 0) (.back 0 [lV 29 0,lV 29 1,lV 29 2,lV 19 0,lV 20 0,lV 21 0]) (.back 0 [lV 16 0,lV 17 0,lV 18 0,lV 29 0,lV 29 1,lV 29 2]))))))
def UC:Tr:=aI 32 [(.agg [(U 16 0),(U 17 0),(U 18 0)]),(.agg [(U 0 3),(U 0 4),(U 0 5)])] [(some 3)] [51,53] [30,30] 30 true (aI 71 [(G3 26),(W 2 0)] [(some 3)] [55,56] [30,3] 30 false (aI 68 [(G3 27),(G3 1)] [none] [57,58] [30,30] 3 true (aX .eql 3 59 0 28 0 4 (.split (.u 29 0) (aI 92 [(G3 26)] [(some 6)] [61] [30] 39 true (.ret [(G6 30)])) (aI 100 [(G3 26),(.agg [(U 0 3),(U 0 4),(U 0 5)])] [(some 3)] [64,66] [30,30] 30 true (.ret [(.agg [(U 26 0),(U 26 1),(U 26 2),(U 30 0),(U 30 1),(U 30 2)])]))))))
def Vq:Tr:=aI 72 [(.agg [(U 19 0),(U 20 0),(U 21 0)]),(.agg [(U 16 0),(U 17 0),(U 18 0)])] [(some 3)] [31,32] [30,30] 30 false (aI 69 [] [(some 3)] [] [] 30 false (aI 68 [(G3 22),(G3 23)] [none] [33,34] [30,30] 3 true (aX .gtr 3 35 0 24 0 4 (.split (.u 25 0) (aI 100 [(.agg [(U 16 0),(U 17 0),(U 18 0)]),(.agg [(U 19 0),(U 20 0),(U 21 0)])] [(some 3)] [37,38] [30,30] 30 false (.need (.call 101 [(WK 1)] [(some 3)]) (.call ⟨.value (.func 101),#[(.const (I3 1))],#[3]⟩) 30 false Tw)) UC))))
def XK:Tr:=.loop 0 [lN,(.w (.one (.c (.k (.bool false))))),lN,lV 6 0,lV 6 1,lV 6 2] (aI 71 [(.agg [(U 10 0),(U 11 0),(U 12 0)]),(W 2 0)] [(some 3)] [21,22] [30,3] 30 false (aI 68 [(G3 13),(G3 5)] [none] [23,24] [30,30] 3 true (aX .leq 3 25 0 14 0 4 (.split (.u 15 0) (aI 100 [(.agg [(U 10 0),(U 11 0),(U 12 0)]),(.agg [(U 10 0),(U 11 0),(U 12 0)])] [(some 3)] [28,29] [30,30] 30 true (.back 0 [lV 10 0,lV 11 0,lV 12 0,lV 16 0,lV 16 1,lV 16 2])) (.loop 0 [lV 7 0,lV 8 0,lV 9 0,lV 10 0,lV 11 0,lV 12 0] Vq)))))
def Yp:Tr:=aI 71 [(G3 0),(W 2 0)] [(some 3)] [14,15] [30,3] 30 false (aI 32 [(G3 1),(G3 3)] [(some 3)] [12,16] [30,30] 30 true (aI 99 [(G3 4)] [(some 3)] [17] [30] 30 true (aI 69 [] [(some 3)] [] [] 30 true XK)))
theorem Ux:aN prog f35 (fun _=>none) [.v (some 6), .v (some 3), .v none]=Yp:=by kernel_rfl
theorem Qh (l n:Nat):(((l:Int):Rat))^n=(((l^n:Nat):Int):Rat):=by rw [Int.natCast_pow,Rat.intCast_pow]
theorem VF {a b:Nat}:(((a:Int):Rat))≤((b:Int):Rat)↔a≤b:=by rw [Rat.intCast_le_intCast];omega
theorem kJ {a B:Nat} (h:a<2^B:=by omega) (hB:1≤B:=by omega):Fit B ((a:Int):Rat):=Fit.int hB (by simpa using h)
theorem Og (z:Int):gT ((z:Int):Rat)=z:=by simp [gT]
theorem LZ {a b n:Nat} (hn:1≤n):a^n≤b^n↔a≤b:=Nat.pow_le_pow_iff_left (by omega)
theorem RU {r h n g:Nat} (hn:1≤n) (h1:r^n≤g) (h2:g<(r+1)^n):h^n≤g↔h≤r:=by
 constructor
 ·intro h3;have h4:=Nat.lt_of_le_of_lt h3 h2;have:=(Nat.pow_lt_pow_iff_left (show n≠0 by omega)).1 h4;omega
 ·intro h3;exact Nat.le_trans ((LZ hn).2 h3) h1
theorem ME (m:Nat):gT (((m:Int):Rat)*mkRat 1 (2^1))=((m/2:Nat):Int):=by
 have e:((m:Int):Rat)*mkRat 1 (2^1)=mkRat (m:Int) 2:=by
  rw [←Rat.mkRat_one (m:Int),Rat.mkRat_mul_mkRat];simp
 rw [e,ZR _];omega
theorem nG {a b:Rat}:dM a b=0↔a=b:=by
 unfold dM;by_cases h1:a<b
 ·rw [if_pos h1];exact ⟨fun h=>by omega,fun h=>by grind⟩
 ·rw [if_neg h1];by_cases h2:b<a
  ·rw [if_pos h2];exact ⟨fun h=>by omega,fun h=>by grind⟩
  ·rw [if_neg h2];exact ⟨fun _=>by grind,fun _=>rfl⟩
def kF (x:Rat) (n:Nat) (down:Rat) (r:Nat):Rat×Rat:=if (((r:Int):Rat)*down)^n=x then (((r:Int):Rat)*down,((r:Int):Rat)*down) else (((r:Int):Rat)*down,((r:Int):Rat)*down+down)
theorem KG (a b:Nat):((a:Int):Rat)+((b:Int):Rat)=(((a+b:Nat):Int):Rat):=by rw [Int.natCast_add,Rat.intCast_add]
theorem Th {a b:Nat} (h:a≤b):((b:Int):Rat)-((a:Int):Rat)=(((b-a:Nat):Int):Rat):=by rw [Int.natCast_sub h,Rat.intCast_sub]
theorem IB {a b:Nat}:dM ((a:Int):Rat) ((b:Int):Rat)≤0↔a≤b:=by rw [oQ,VF]
theorem lI (x:Rat) (n:Nat) (up down:Rat) (g r G A U:Nat) (hg:gT (x*up^n)=(g:Int)) (hx:Fit A x) (hu:Fit U up) (hd:Fit U down) (hr:r^n≤g:=by omega) (hr2:g<(r+1)^n:=by omega) (hG:g<2^G:=by omega) (hA1:1≤A:=by omega) (hA:A≤10000000:=by omega) (hG2:G≤20000000:=by omega) (hn1:1≤n:=by omega) (hn:n≤64:=by omega) (hU1:1≤U:=by omega) (hU:U≤100000:=by omega):aD prog 35 [(gF up down:aE),(qT x:aE),(.one (.int .i64 n):aE)] (.ret [dK (kF x n down r)]):=by
 refine bU func35 Ux ?_;have hUn:U*n≤6400000:=Nat.mul_le_mul hU hn;have hup:=nL hu n hU1;have hxu:=hx.mul hup;have hrg:r≤g:=Nat.le_trans (Nat.le_self_pow (by omega) r) hr;have hgG:((2^(G+2):Nat))=4*2^G:=by rw [Nat.pow_add];omega
 have hfit:∀ h:Nat,h≤2*r+1→Fit (G+2) ((h:Int):Rat):=fun h hh=>kJ;have hgf:Fit (G+2) ((g:Int):Rat):=kJ;have hGn:(G+2)*n≤1280000128:=Nat.mul_le_mul (show G+2≤20000002 by omega) hn;have hGn1:(G+2)*1≤(G+2)*n:=Nat.mul_le_mul_left _ hn1;have hpf:∀ h:Nat,h≤2*r+1→Fit ((G+2)*n+1) (((h:Int):Rat)^n):=fun h hh=>nL (hfit h hh) n;have hit:∀ h:Nat,dM (((h:Int):Rat)^n) ((g:Int):Rat)≤0↔h≤r:=fun h=>by rw [Qh,IB];exact RU hn1 hr hr2
 apply aA (fV up n n U hu hU1) rfl;apply aA (bG x (up^n) A (U*n+1) hx hup) rfl;apply aA (fB (x*up^n) _ hxu) rfl;rw [hg];apply aA bW rfl;dsimp only [aF,aG];refine cT {p:Nat×Nat // p.1≤r∧p.1<p.2∧p.2≤2*r+1} (fun g=>(qC ((g.1.1:Int):Rat)).map aE.one++(qC ((g.1.2:Int):Rat)).map aE.one) (fun g=>2*r+2-g.1.2) ⟨(0,1),fP _,by omega,by omega⟩ ⟨dJ.1,dJ.2.1,dJ.2.2.1,aL.Sub.same,aL.Sub.same,aL.Sub.same,trivial⟩ (fun _=>rfl) ?_;rintro ⟨⟨l,h⟩,hl,hlh,hh⟩;dsimp only [aF,aG,List.map] at hl hlh hh ⊢;apply aA (fV ((h:Int):Rat) n n (G+2) (hfit h hh)) rfl;apply aA (bE _ ((g:Int):Rat) ((G+2)*n+1) (G+2) (hpf h hh) hgf) rfl;apply vn jF rfl;refine vs _ rfl ?_ ?_<;>intro h8
 ·have hhr:=(hit h).1 h8;apply aA (hP ((h:Int):Rat) ((h:Int):Rat) (G+2) (G+2) (hfit h hh) (hfit h hh)) rfl;rw [KG];dsimp only [aF,aG];exact bF rfl ⟨⟨(h,h+h),hhr,by show h<h+h;omega,by show h+h≤2*r+1;omega⟩,aV.rfl,by show 2*r+2-(h+h)<2*r+2-h;omega⟩
 have hhr:r<h:=by
  have:=mt (hit h).2 h8;omega
 refine cT {p:Nat×Nat // p.1≤r∧r<p.2∧p.2≤2*r+1} (fun g=>(qC ((g.1.1:Int):Rat)).map aE.one++(qC ((g.1.2:Int):Rat)).map aE.one) (fun g=>g.1.2-g.1.1) ⟨(l,h),hl,hhr,hh⟩ aV.rfl (fun _=>rfl) ?_;clear hl hlh hh hhr h8;rintro ⟨⟨l,h⟩,hl,hlh,hh⟩;dsimp only [aF,aG,List.map] at hl hlh hh ⊢;apply aA (jW ((h:Int):Rat) ((l:Int):Rat) (G+2) (G+2) (hfit h hh) (hfit l (by omega))) rfl;rw [Th (show l≤h by omega)];apply aA bW rfl;apply aA (bE (((h-l:Nat):Int):Rat) (((1:Nat):Int):Rat) (G+2) 1 (hfit _ (by omega)) (kJ)) rfl;apply vn bJ rfl;dsimp only [aF,aG];refine vs _ rfl ?_ ?_<;>intro h16
 ·have hgap:1<h-l:=by
   have:=mt IB.2 (show ¬ dM (((h-l:Nat):Int):Rat) (((1:Nat):Int):Rat)≤0 by omega);omega
  apply aA (hP ((l:Int):Rat) ((h:Int):Rat) (G+2) (G+2) (hfit l (by omega)) (hfit h hh)) rfl;rw [KG];apply aA (eS 1) rfl;dsimp only [aF,aG];have hlf:Fit (G+4) (((l+h:Nat):Int):Rat):=kJ (by rw [Nat.pow_add];omega);apply aA (bG _ (mkRat 1 (2^1)) (G+4) 2 hlf ⟨by decide +kernel,by decide +kernel⟩) rfl;apply aA (fB _ (G+4+2) (hlf.mul ⟨by decide +kernel,by decide +kernel⟩)) rfl;rw [show ((1:Int).toNat)=1 from rfl,ME];obtain ⟨m,hm⟩:∃ m,m=(l+h)/2:=⟨_,rfl⟩
  rw [←hm];apply aA (fV ((m:Int):Rat) n n (G+2) (hfit m (by omega))) rfl;apply aA (bE _ ((g:Int):Rat) ((G+2)*n+1) (G+2) (hpf m (by omega)) hgf) rfl;dsimp only [aF,aG];apply vn jF rfl;refine vs _ rfl ?_ ?_<;>intro h24
  ·have hmr:=(hit m).1 h24;exact bF rfl ⟨⟨(m,h),hmr,hlh,hh⟩,aV.rfl,by show h-m<h-l;omega⟩
  have hmr:=mt (hit m).2 h24;exact bF rfl ⟨⟨(l,m),hl,by show r<m;omega,by show m≤2*r+1;omega⟩,aV.rfl,by show m-l<h-l;omega⟩
 have hlr:l=r:=by
  have:=IB.1 (show dM (((h-l:Nat):Int):Rat) (((1:Nat):Int):Rat)≤0 by omega);omega
 subst hlr;apply aA (bG ((l:Int):Rat) down (G+2) U (hfit l (by omega)) hd) rfl;dsimp only [aF,aG];have hof:=(hfit l (by omega)).mul hd;apply aA (fV _ n n (G+2+U) hof) rfl;dsimp only [aF,aG]
 have h5:(G+2+U)*n≤1300000000:=by
  have:=Nat.mul_le_mul (show G+2+U≤20100002 by omega) hn;omega
 apply aA (bE _ x _ A (nL hof n) hx) rfl;apply vn aC rfl;refine vs _ rfl ?_ ?_<;>intro h31
 ·rw [show kF x n down l=(((l:Int):Rat)*down,((l:Int):Rat)*down) from if_pos (nG.1 h31)];apply aA (sJ _) rfl;exact aK rfl
 rw [show kF x n down l=(((l:Int):Rat)*down,((l:Int):Rat)*down+down) from if_neg (mt nG.2 h31)];apply aA (hP _ down (G+2+U) U hof hd) rfl;exact aK rfl
end Go.Sy
