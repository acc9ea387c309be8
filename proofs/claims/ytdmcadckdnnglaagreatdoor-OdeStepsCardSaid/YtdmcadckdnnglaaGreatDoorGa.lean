/- Steps. -/
import Derived.Test.YtdmcadckdnnglaaGreatDoorVb
import Derived.Test.YtdmcadckdnnglaaGreatDoorTb
set_option linter.unusedVariables false
set_option linter.unusedSimpArgs false
namespace Go.Sy
open Go Go.Proofs Tryz Ord
open Go Go.Proofs Tryz Ord
def Tw:Tr:=.ret [(W 0 0)]
def ak2:Tr:=aU .gtr 3 3 16 0 0 4 (.split (.u 1 0) (aU .rem 3 5 17 0 0 3 (.ret [(W 2 0)])) Tw)
theorem VQ:aN prog f56 (fun _=>none) [.v none]=ak2:=by kernel_rfl
def QX:Tr:=.ret [(.agg [(U 2 0),(U 2 1),(U 2 2),(U 3 0),(U 3 1),(U 3 2)])]
def ay3:Tr:=aK 64 [(G3 0),(G3 1)] [(some 3)] [6,8] [39,39] 39 false (aK 64 [(.agg [(U 0 3),(U 0 4),(U 0 5)]),(.agg [(U 1 3),(U 1 4),(U 1 5)])] [(some 3)] [11,13] [39,39] 39 true QX)
theorem az9:aN prog f66 (fun _=>none) [.v (some 6), .v (some 6)]=ay3:=by kernel_rfl
def aa4:Tr:=aK 65 [(G3 0)] [(some 3)] [3] [39] 39 false (.ret [(.agg [(U 1 0),(U 1 1),(U 1 2),(U 0 0),(U 0 1),(U 0 2)])])
theorem Ny:aN prog f228 (fun _=>none) [.v (some 3)]=aa4:=by kernel_rfl
abbrev snC (a b:Rat):List aH:=qC a++qC b
abbrev OY (a b:Rat):aF:=.agg (snC a b)
abbrev Oa (a b:RQ):List aH:=rC a++rC b
abbrev SJ (a b:RQ):aF:=.agg (Oa a b)
def FE (k:Int):Int:=if k>16 then k%17 else k
theorem Xf (k:Int):aM prog 56 [(.one (.int .i64 k):aF)] (.ret [.one (.int .i64 (FE k))]):=by
 refine aD (args:=[.v none]) (ins:=[.v (.one (.int .i64 k))]) (hints:=(fun _=>none)) fo (by kernel_rfl) func56 ⟨rfl,trivial⟩ ?_;rw [VQ];dsimp only [List.map,In.env,aB,aA];refine vn dB rfl ?_;dsimp only [aB,aA];refine vs _ rfl (fun h1=>?_) (fun h1=>?_)
 ·refine vn (fL (by omega) (by omega)) rfl ?_;dsimp only [aB,aA];rw [show FE k=k%17 from if_pos h1];exact aL rfl
 rw [show FE k=k from if_neg h1];exact aL rfl
theorem ZS (a b c d:Rat) (A B:Nat) (ha:Fit A a) (hb:Fit A b) (hc:Fit B c) (hd:Fit B d) (h:A+B≤34359738368):aM prog 66 [(OY a b:aF),(OY c d:aF)] (.ret [OY (a+c) (b+d)]):=by
 refine aD (args:=[.v (some 6), .v (some 6)]) (ins:=[.v (OY a b), .v (OY c d)]) (hints:=(fun _=>none)) fo (by kernel_rfl) func66 ⟨rfl,rfl,trivial⟩ ?_;rw [az9];dsimp only [List.map,In.env,aB,aA];refine aC (mL a c A B ha hc h) rfl ?_;dsimp only [aB,aA];refine aC (mL b d A B hb hd h) rfl ?_;exact aL rfl
theorem Om (r:Rat):aM prog 228 [(qT r:aF)] (.ret [OY (-r) r]):=by
 refine aD (args:=[.v (some 3)]) (ins:=[.v (qT r)]) (hints:=(fun _=>none)) fo (by kernel_rfl) func228 ⟨rfl,trivial⟩ ?_;rw [Ny];dsimp only [List.map,In.env,aB,aA];refine aC (GJ r) rfl ?_;exact aL rfl
open Go Go.Proofs Tryz Ord
def av4:Tr:=aK 256 [(W 1 0)] [(some 1)] [6] [3] 35 false (aK 157 [(.agg [(U 2 0),(tE (.bool false))])] [(some 3)] [8] [37] 39 true (aK 36 [(G3 0),(G3 3)] [(some 3)] [5,9] [39,39] 39 true (.ret [(G3 4)])))
theorem So:aN prog f285 (fun _=>none) [.v (some 3), .v none]=av4:=by kernel_rfl
def Rw:Tr:=.ret [(G3 3)]
def ax8:Tr:=aK 117 [(G3 0)] [(some 1)] [5] [39] 35 false (aK 294 [(G2 0),(G1 1)] [(some 2)] [4,6] [37,35] 37 true (aK 157 [(G2 2)] [(some 3)] [7] [37] 39 true Rw))
theorem Ru:aN prog f286 (fun _=>none) [.v (some 3)]=ax8:=by kernel_rfl
def au4:Tr:=aK 65 [(G3 0)] [(some 3)] [3] [39] 39 false (aK 286 [(G3 1)] [(some 3)] [4] [39] 39 true (aK 65 [(G3 2)] [(some 3)] [5] [39] 39 true Rw))
theorem Uy:aN prog f287 (fun _=>none) [.v (some 3)]=au4:=by kernel_rfl
def RB:Tr:=aK 202 [(W 1 0)] [(some 3)] [9] [3] 39 true (aK 36 [(G3 3),(G3 4)] [(some 3)] [8,10] [39,39] 39 true (.ret [(G3 5)]))
def aa7:Tr:=aK 285 [(G3 0),(W 1 0)] [(some 3)] [5,6] [39,3] 39 false (aK 286 [(G3 2)] [(some 3)] [7] [39] 39 false RB)
theorem VP:aN prog f268 (fun _=>none) [.v (some 3), .v none]=aa7:=by kernel_rfl
def av3:Tr:=aK 285 [(G3 0),(W 1 0)] [(some 3)] [5,6] [39,3] 39 false (aK 287 [(G3 2)] [(some 3)] [7] [39] 39 false RB)
theorem aG8:aN prog f269 (fun _=>none) [.v (some 3), .v none]=av3:=by kernel_rfl
def ab1:Tr:=aK 268 [(G3 0),(W 1 0)] [(some 3)] [6,7] [39,3] 39 false (aK 269 [(.agg [(U 0 3),(U 0 4),(U 0 5)]),(W 1 0)] [(some 3)] [10,11] [39,3] 39 true QX)
theorem aw2:aN prog f229 (fun _=>none) [.v (some 6), .v none]=ab1:=by kernel_rfl
def Kh (q:Rat):Int:=q.num/(q.den:Int)
def uI (k:Nat):Rat:=(((2^k:Nat):Int):Rat)
def oQ (q:Rat) (k:Nat):Rat:=(Kh (q*uI k):Rat)*mkRat 1 (2^k)
def YX (q:Rat) (k:Nat):Rat:=(((-Kh (-(q*uI k)):Int)):Rat)*mkRat 1 (2^k)
theorem FZ {q:Rat} {H:Nat} (h:Fit H q) (h1:1≤H):Fit H (Kh q:Rat):=Fit.int h1 (Nat.lt_of_le_of_lt (Int.natAbs_ediv_le_natAbs _ _) h.1)
set_option exponentiation.threshold 600 in
theorem qA {k:Nat} (h:k≤256):Fit 257 (uI k):=Fit.int (by omega) (by rw [Int.natAbs_natCast];exact Nat.pow_lt_pow_right (by omega) (by omega))
set_option exponentiation.threshold 600 in
theorem qM {k:Nat} (h:k≤256):Fit 257 (mkRat 1 (2^k)):=Fit.mkRat (Nat.one_lt_two_pow (by omega)) (Nat.pow_lt_pow_right (by omega) (by omega)) (Nat.pos_iff_ne_zero.1 (Nat.pow_pos (by omega)))
theorem Tn (k:Int) (hk:k≤256):aM prog 256 [(.one (.int .i64 k):aF)] (.ret [mT (2^k.toNat)]):=by
 refine aD (args:=[.v none]) (ins:=[.v (.one (.int .i64 k))]) (hints:=(fun _=>none)) fo (by kernel_rfl) func256 ⟨rfl,trivial⟩ ?_;rw [Zo];dsimp only [List.map,In.env,aB,aA];refine aC (iE 2 (by omega)) rfl ?_;dsimp only [aB,aA];refine aC (IW k 256) rfl ?_;rw [show max (0:Int) (min (k:Int) 256)=(k.toNat:Int) by omega];dsimp only [aB,aA];refine aC (Mf 2 k.toNat 2 (by omega) (by omega) (by omega) (by omega)) rfl ?_;exact aL rfl
theorem AX (k:Int) (hk:k≤256):aM prog 202 [(.one (.int .i64 k):aF)] (.ret [qT (mkRat 1 (2^k.toNat))]):=by
 refine aD (args:=[.v none]) (ins:=[.v (.one (.int .i64 k))]) (hints:=(fun _=>none)) fo (by kernel_rfl) func202 ⟨rfl,trivial⟩ ?_;rw [Sg];dsimp only [List.map,In.env,aB,aA];refine aC (GY 1 (by omega) (by omega)) rfl ?_;dsimp only [aB,aA];refine aC (Tn k hk) rfl ?_;dsimp only [aB,aA]
 refine aC (vZ 1 (2^k.toNat) (Nat.pow_pos (by omega)) (by
  obtain ⟨H,hH⟩:∃ H,H=257:=⟨_,rfl⟩
  have h1:(dg (2^k.toNat)).length≤H:=fJ (Nat.pow_lt_pow_right (by omega) (by omega));have h2:(dg (1:Int).natAbs).length=1:=by rw [show (1:Int).natAbs=1 from rfl,oW (by omega) (by omega)];rfl
  omega)) rfl ?_
 exact aL rfl
theorem Ho (q:Rat) (k:Int) (H:Nat) (hk:k≤256) (hq:Fit H q) (hH:H≤8589934592):aM prog 285 [(qT q:aF),(.one (.int .i64 k):aF)] (.ret [qT (q*uI k.toNat)]):=by
 refine aD (args:=[.v (some 3), .v none]) (ins:=[.v (qT q), .v (.one (.int .i64 k))]) (hints:=(fun _=>none)) fo (by kernel_rfl) func285 ⟨rfl,rfl,trivial⟩ ?_;rw [So];dsimp only [List.map,In.env,aB,aA];refine aC (Tn k hk) rfl ?_;dsimp only [aB,aA];have hz:decide (((2^k.toNat:Nat):Int)<0)=false:=decide_eq_false (Int.not_lt.2 (Int.natCast_nonneg _));have hw:=GL ((2^k.toNat:Nat):Int);rw [show iT ((2^k.toNat:Nat):Int) = .agg [dT (2^k.toNat), .exact (.bool false)] from by rw [show iT ((2^k.toNat:Nat):Int) = .agg [dT (2^k.toNat), .bool (decide (((2^k.toNat:Nat):Int)<0))] from rfl,hz]] at hw;refine aC hw rfl ?_;dsimp only [aB,aA];refine aC (dF q (uI k.toNat) H 257 hq (qA (by omega)) (by omega)) rfl ?_;exact aL rfl
theorem Hs (q:Rat) (H:Nat) (hq:Fit H q) (hH:H≤8589934592):aM prog 286 [(qT q:aF)] (.ret [qT (Kh q:Rat)]):=by
 refine aD (args:=[.v (some 3)]) (ins:=[.v (qT q)]) (hints:=(fun _=>none)) fo (by kernel_rfl) func286 ⟨rfl,trivial⟩ ?_;rw [Ru];dsimp only [List.map,In.env,aB,aA];have h1:=GP hq.1;have h2:=GP hq.2;refine aC (fD q (by omega)) rfl ?_;dsimp only [aB,aA];refine aC (Ry q.num q.den q.den_pos (by omega)) rfl ?_;dsimp only [aB,aA];refine aC (GL (q.num/(q.den:Int))) rfl ?_;exact aL rfl
theorem YB (q:Rat) (H:Nat) (hq:Fit H q) (hH:H≤8589934592):aM prog 287 [(qT q:aF)] (.ret [qT (((-Kh (-q):Int)):Rat)]):=by
 refine aD (args:=[.v (some 3)]) (ins:=[.v (qT q)]) (hints:=(fun _=>none)) fo (by kernel_rfl) func287 ⟨rfl,trivial⟩ ?_;rw [Uy];dsimp only [List.map,In.env,aB,aA];refine aC (GJ q) rfl ?_;dsimp only [aB,aA];refine aC (Hs (-q) H hq.neg hH) rfl ?_;dsimp only [aB,aA];refine aC (GJ _) rfl ?_;rw [show -((Kh (-q):Int):Rat)=((-Kh (-q):Int):Rat) by rw [Rat.intCast_neg]];exact aL rfl
theorem We (q:Rat) (k:Int) (H:Nat) (hk:k≤256) (hq:Fit H q) (h1:1≤H) (hH:H≤4294967296):aM prog 268 [(qT q:aF),(.one (.int .i64 k):aF)] (.ret [qT (oQ q k.toNat)]):=by
 refine aD (args:=[.v (some 3), .v none]) (ins:=[.v (qT q), .v (.one (.int .i64 k))]) (hints:=(fun _=>none)) fo (by kernel_rfl) func268 ⟨rfl,rfl,trivial⟩ ?_;rw [VP];dsimp only [List.map,In.env,aB,aA];refine aC (Ho q k H hk hq (by omega)) rfl ?_;dsimp only [aB,aA];refine aC (Hs (q*uI k.toNat) (H+257) (hq.mul (qA (by omega))) (by omega)) rfl ?_;dsimp only [aB,aA];refine aC (AX k hk) rfl ?_;dsimp only [aB,aA];refine aC (dF _ _ (H+257) 257 (FZ (hq.mul (qA (by omega))) (by omega)) (qM (by omega)) (by omega)) rfl ?_;exact aL rfl
theorem aL7 (q:Rat) (k:Int) (H:Nat) (hk:k≤256) (hq:Fit H q) (h1:1≤H) (hH:H≤4294967296):aM prog 269 [(qT q:aF),(.one (.int .i64 k):aF)] (.ret [qT (YX q k.toNat)]):=by
 refine aD (args:=[.v (some 3), .v none]) (ins:=[.v (qT q), .v (.one (.int .i64 k))]) (hints:=(fun _=>none)) fo (by kernel_rfl) func269 ⟨rfl,rfl,trivial⟩ ?_;rw [aG8];dsimp only [List.map,In.env,aB,aA];refine aC (Ho q k H hk hq (by omega)) rfl ?_;dsimp only [aB,aA];refine aC (YB (q*uI k.toNat) (H+257) (hq.mul (qA (by omega))) (by omega)) rfl ?_;dsimp only [aB,aA];refine aC (AX k hk) rfl ?_;dsimp only [aB,aA];refine aC (dF _ _ (H+257) 257 (by rw [Rat.intCast_neg];exact (FZ (hq.mul (qA (by omega))).neg (by omega)).neg) (qM (by omega)) (by omega)) rfl ?_;exact aL rfl
theorem ay1 (a b:Rat) (k:Int) (H:Nat) (hk:k≤256) (ha:Fit H a) (hb:Fit H b) (h1:1≤H) (hH:H≤4294967296):aM prog 229 [(OY a b:aF),(.one (.int .i64 k):aF)] (.ret [OY (oQ a k.toNat) (YX b k.toNat)]):=by
 refine aD (args:=[.v (some 6), .v none]) (ins:=[.v (OY a b), .v (.one (.int .i64 k))]) (hints:=(fun _=>none)) fo (by kernel_rfl) func229 ⟨rfl,rfl,trivial⟩ ?_;rw [aw2];dsimp only [List.map,In.env,aB,aA];refine aC (We a k H hk ha h1 hH) rfl ?_;dsimp only [aB,aA];refine aC (aL7 b k H hk hb h1 hH) rfl ?_;exact aL rfl
open Go Go.Proofs Tryz Ord
def al9:Tr:=aU .lss 3 5 0 0 0 4 (.split (.u 2 0) (.ret [(WK 0)]) (bJ .gtr 3 7 8 0 0 1 0 4 (.split (.u 3 0) (.ret [(W 1 0)]) Tw)))
theorem XB:aN prog f271 (fun _=>none) [.v none, .v none]=al9:=by kernel_rfl
def au8:Tr:=.need (.call 139 [(WK 1)] [(some 2)]) (.call ⟨.value (.func 139),#[(.const (I3 1))],#[2]⟩) 47 true (.loop 0 [lK 0,lV 2 0,lV 2 1] (bJ .lss 3 8 9 3 0 1 0 4 (.split (.u 6 0) (aK 135 [(.agg [(U 4 0),(U 5 0)]),(G2 0)] [(some 2)] [13,14] [47,47] 47 true (aU .add 3 11 1 3 0 3 (.back 0 [lV 8 0,lV 7 0,lV 7 1]))) (.ret [(.agg [(U 4 0),(U 5 0)])]))))
theorem Nv:aN prog f270 (fun _=>none) [.v (some 2), .v none]=au8:=by kernel_rfl
def aa1:Tr:=.need (.call 139 [(WK 1)] [(some 2)]) (.call ⟨.value (.func 139),#[(.const (I3 1))],#[2]⟩) 47 false (.need (.call 139 [(WK 2)] [(some 2)]) (.call ⟨.value (.func 139),#[(.const (I3 2))],#[2]⟩) 47 false (.need (.call 271 [(W 0 0),(WK 256)] [none]) (.call ⟨.value (.func 271),#[(tT 5),(.const (I3 256))],#[3,3]⟩) 3 false (aK 270 [(G2 2),(W 3 0)] [(some 2)] [4,6] [47,3] 47 true (aK 137 [(G2 1),(G2 4)] [(some 4)] [3,7] [47,47] 49 true (.ret [(G4 5)])))))
theorem Vc:aN prog f230 (fun _=>none) [.v none]=aa1:=by kernel_rfl
def ad5:Tr:=.need (.call 271 [(W 1 0),(WK 256)] [none]) (.call ⟨.value (.func 271),#[(tT 9),(.const (I3 256))],#[3,3]⟩) 3 true (aK 270 [(G2 2),(W 3 0)] [(some 2)] [8,10] [47,3] 47 true (aK 135 [(G2 0),(G2 4)] [(some 2)] [14,15] [47,47] 47 false (aK 136 [(G4 0)] [(some 2)] [17] [49] 47 false (aK 272 [(G2 5),(G2 6)] [(some 2),(some 2)] [16,18] [47,47] 317 false (aK 137 [(G2 7),(G2 4)] [(some 4)] [22,23] [47,47] 49 true (.ret [(G4 9)]))))))
def aw6:Tr:=.need (.call 139 [(WK 2)] [(some 2)]) (.call ⟨.value (.func 139),#[(.const (I3 2))],#[2]⟩) 47 false ad5
theorem WD:aN prog f231 (fun _=>none) [.v (some 4), .v none]=aw6:=by kernel_rfl
def ae8:Tr:=aK 105 [(G4 0)] [(some 4)] [5] [49] 49 false (aK 231 [(G4 2),(W 1 0)] [(some 4)] [6,7] [49,3] 49 true (aK 105 [(G4 3)] [(some 4)] [8] [49] 49 true (.ret [(G4 4)])))
theorem aW1:aN prog f232 (fun _=>none) [.v (some 4), .v none]=ae8:=by kernel_rfl
def ai0:Tr:=aK 231 [(G4 0),(W 1 0)] [(some 4)] [6,7] [49,3] 49 false (aK 232 [(.agg [(U 0 4),(U 0 5),(U 0 6),(U 0 7)]),(W 1 0)] [(some 4)] [10,11] [49,3] 49 true (.ret [(.agg [(U 2 0),(U 2 1),(U 2 2),(U 2 3),(U 3 0),(U 3 1),(U 3 2),(U 3 3)])]))
theorem ak9:aN prog f153 (fun _=>none) [.v (some 8), .v none]=ai0:=by kernel_rfl
theorem ae1 (n:Int) {d:Nat} (hd:d≠0):Kh (mkRat n d)=n/(d:Int):=by
 unfold Kh;generalize hq:mkRat n d=q;obtain ⟨m,hm,h1,h2⟩:=Rat.mkRat_num_den hd (n':=q.num) (d':=q.den) (z':=q.den_nz) (c:=q.reduced) (by rw [hq]);rw [h1,h2,Int.natCast_mul,Int.mul_ediv_mul_of_pos_left _ _ (by omega)]
theorem MY (q:Rat) (k:Nat):Kh (q*uI k)=q.num*((2^k:Nat):Int)/(q.den:Int):=by
 rw [uI,Rat.mul_def',Rat.num_intCast,Rat.den_intCast,Nat.mul_one,ae1 _ q.den_nz]
theorem LB (k:Int) (m:Int) (hm:0≤m):aM prog 271 [(.one (.int .i64 k):aF),(.one (.int .i64 m):aF)] (.ret [.one (.int .i64 (max 0 (min k m)))]):=by
 refine aD (args:=[.v none, .v none]) (ins:=[.v (.one (.int .i64 k)), .v (.one (.int .i64 m))]) (hints:=(fun _=>none)) fo (by kernel_rfl) func271 ⟨rfl,rfl,trivial⟩ ?_;rw [XB];dsimp only [List.map,In.env,aB,aA];refine vn bB rfl ?_;dsimp only [aB,aA];refine vs _ rfl (fun h1=>?_) (fun h1=>?_)
 ·rw [show max 0 (min k m)=0 by omega];exact aL rfl
 refine vn dB rfl ?_;dsimp only [aB,aA];refine vs _ rfl (fun h4=>?_) (fun h4=>?_)
 ·rw [show max 0 (min k m)=m by omega];exact aL rfl
 rw [show max 0 (min k m)=k by omega];exact aL rfl
theorem Fy (x:Int) (n L:Nat) (hn:n≤256) (hL:∀ j,j≤n→(bd (x^j).natAbs).length≤L) (hx:(bd x.natAbs).length≤L) (h:L≤137438953471):aM prog 270 [(zT x:aF),(.one (.int .i64 n):aF)] (.ret [zT (x^n)]):=by
 refine aD (args:=[.v (some 2), .v none]) (ins:=[.v (zT x), .v (.one (.int .i64 n))]) (hints:=(fun _=>none)) fo (by kernel_rfl) func270 ⟨rfl,rfl,trivial⟩ ?_;rw [Nv];dsimp only [List.map,In.env,aB,aA];have h1:aM prog 139 [.one (.int .i64 1)] (.ret [zT (x^0)]):=by rw [Int.pow_zero];exact gJ 1 (by omega) (by omega)
 refine aC h1 rfl ?_;dsimp only [aB,aA];refine bC {j:Nat // j≤n} (fun g=>(.one (.int .i64 g.1):aF)::(zC (x^g.1)).map .one) (fun g=>n-g.1) ⟨0,Nat.zero_le _⟩ aO.rfl (fun _=>rfl) ?_;rintro ⟨j,hj⟩;dsimp only [aB,aA,List.map] at hj ⊢;refine vn bB rfl ?_;dsimp only [aB,aA];refine vs _ rfl (fun h3=>?_) (fun h3=>?_)
 ·have hlj:=hL j hj;refine aC (gI (x^j) x (by omega)) rfl ?_;rw [←Int.pow_succ];dsimp only [aB,aA];refine vn (aE (by omega) (by omega)) rfl ?_;dsimp only [aB,aA];exact aR rfl ⟨⟨j+1,by omega⟩,aO.rfl,by show n-(j+1)<n-j;omega⟩
 rw [show n=j by omega];exact aL rfl
theorem Rk {k B:Nat} (h:k<B):2^k<2^B:=Nat.pow_lt_pow_right (by omega) h
set_option exponentiation.threshold 600 in
theorem qI {j:Nat} (h:j≤256):(bd ((2:Int)^j).natAbs).length≤257:=eC (by
 rw [Int.natAbs_pow];exact Rk (by omega))
theorem zK (k:Nat):(2:Int)^k=((2^k:Nat):Int):=by rw [Int.natCast_pow];rfl
theorem Vb (k:Int) (hk:k≤256):aM prog 230 [(.one (.int .i64 k):aF)] (.ret [dE (.of (mkRat 1 (2^k.toNat)))]):=by
 refine aD (args:=[.v none]) (ins:=[.v (.one (.int .i64 k))]) (hints:=(fun _=>none)) fo (by kernel_rfl) func230 ⟨rfl,trivial⟩ ?_;rw [Vc];dsimp only [List.map,In.env,aB,aA];refine aC (gJ 1 (by omega) (by omega)) rfl ?_;dsimp only [aB,aA];refine aC (gJ 2 (by omega) (by omega)) rfl ?_;dsimp only [aB,aA];refine aC (LB k 256 (by omega)) rfl ?_;rw [show max 0 (min k 256)=(k.toNat:Int) by omega];dsimp only [aB,aA];have hp:=Fy 2 k.toNat 257 (by omega) (fun j hj=>qI (by omega)) (qI (j:=1) (by omega)) (by omega);rw [zK] at hp;refine aC hp rfl ?_;dsimp only [aB,aA];have hr:=pR 1 ((2^k.toNat:Nat):Int) (by have:=Nat.pow_pos (n:=k.toNat) (show 0<2 by omega);omega) (by have:=qI (j:=0) (by omega);rw [Int.pow_zero] at this;omega) (by have:=qI (j:=k.toNat) (by omega);rw [zK] at this;omega);rw [wG] at hr;refine aC hr rfl ?_;exact aL rfl
theorem LD (a:RQ) (k:Int) (H:Nat) (hk:k≤256) (ha:Fit H a.q) (hH:H≤1073741824):aM prog 231 [(dE a:aF),(.one (.int .i64 k):aF)] (.ret [dE (.of (oQ a.q k.toNat))]):=by
 refine aD (args:=[.v (some 4), .v none]) (ins:=[.v (dE a), .v (.one (.int .i64 k))]) (hints:=(fun _=>none)) fo (by kernel_rfl) func231 ⟨rfl,rfl,trivial⟩ ?_;rw [WD];dsimp only [List.map,In.env,aB,aA];refine aC (gJ 2 (by omega) (by omega)) rfl ?_;dsimp only [aB,aA];refine aC (LB k 256 (by omega)) rfl ?_;rw [show max 0 (min k 256)=(k.toNat:Int) by omega];dsimp only [aB,aA];have h2:=qI (j:=k.toNat) (by omega);have hp:=Fy 2 k.toNat 257 (by omega) (fun j hj=>qI (by omega)) (qI (j:=1) (by omega)) (by omega);rw [zK] at hp h2;have hpos:0<2^k.toNat:=Nat.pow_pos (by omega);obtain ⟨hn,hdn⟩:=Fit.bd ha;refine aC hp rfl ?_;dsimp only [aB,aA];refine aC (gI a.q.num ((2^k.toNat:Nat):Int) (by omega)) rfl ?_;dsimp only [aB,aA];refine aC (iM a) rfl ?_;dsimp only [aB,aA]
 have hm:(bd (a.q.num*((2^k.toNat:Nat):Int)).natAbs).length≤H+257:=eC (by
  rw [Int.natAbs_mul,Int.natAbs_natCast];exact bI ha.1 (Rk (B:=257) (by omega)))
 refine aC (Ox (a.q.num*((2^k.toNat:Nat):Int)) a.q.den a.q.den_pos (by omega)) rfl ?_;rw [←MY];dsimp only [aB,aA];have hf:=FZ (ha.mul (qA (k:=k.toNat) (by omega))) (by omega);have hfb:(bd (Kh (a.q*uI k.toNat)).natAbs).length≤H+257:=eC (by have:=hf.1;rwa [Rat.num_intCast] at this);have hr:=pR (Kh (a.q*uI k.toNat)) ((2^k.toNat:Nat):Int) (by omega) (by omega) (by omega);rw [wG,show mkRat (Kh (a.q*uI k.toNat)) (2^k.toNat)=oQ a.q k.toNat by rw [oQ,Rat.mkRat_eq_div,Rat.mkRat_eq_div];grind] at hr;refine aC hr rfl ?_;exact aL rfl
theorem aM6 (a:RQ) (k:Int) (H:Nat) (hk:k≤256) (ha:Fit H a.q) (hH:H≤1073741824):aM prog 232 [(dE a:aF),(.one (.int .i64 k):aF)] (.ret [dE (.of (-(oQ (-a.q) k.toNat)))]):=by
 refine aD (args:=[.v (some 4), .v none]) (ins:=[.v (dE a), .v (.one (.int .i64 k))]) (hints:=(fun _=>none)) fo (by kernel_rfl) func232 ⟨rfl,rfl,trivial⟩ ?_;rw [aW1];dsimp only [List.map,In.env,aB,aA];refine aC (FP a) rfl ?_;dsimp only [aB,aA];refine aC (LD (.of (-a.q)) k H hk ha.neg hH) rfl ?_;dsimp only [aB,aA];refine aC (FP _) rfl ?_;exact aL rfl
theorem YM (q:Rat) (k:Nat):-(oQ (-q) k)=YX q k:=by
 unfold oQ YX;rw [Rat.intCast_neg,show -q*uI k = -(q*uI k) by grind]
 grind
theorem ax3 (a b:RQ) (k:Int) (H:Nat) (hk:k≤256) (ha:Fit H a.q) (hb:Fit H b.q) (hH:H≤1073741824):aM prog 153 [(SJ a b:aF),(.one (.int .i64 k):aF)] (.ret [SJ (.of (oQ a.q k.toNat)) (.of (YX b.q k.toNat))]):=by
 refine aD (args:=[.v (some 8), .v none]) (ins:=[.v (SJ a b), .v (.one (.int .i64 k))]) (hints:=(fun _=>none)) fo (by kernel_rfl) func153 ⟨rfl,rfl,trivial⟩ ?_;rw [ak9];dsimp only [List.map,In.env,aB,aA];refine aC (LD a k H hk ha hH) rfl ?_;dsimp only [aB,aA];have hu:=aM6 b k H hk hb hH;rw [YM] at hu;refine aC hu rfl ?_;exact aL rfl
end Go.Sy
