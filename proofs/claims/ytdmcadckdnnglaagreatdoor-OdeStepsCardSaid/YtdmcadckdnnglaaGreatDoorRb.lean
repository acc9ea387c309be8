/- The reference's integers: division, common divisors. The reference's rational numbers.
-/
import Derived.Test.YtdmcadckdnnglaaGreatDoorRa
set_option linter.unusedVariables false
set_option linter.unusedSimpArgs false
namespace Go.Sy
open Go Go.Proofs Tryz Ord
def YP:Tr:=.back 0 [lV 10 0,lV 11 0]
def aE2:Tr:=.split (.u 5 0) (aU .mul 3 14 32768 3 0 3 (aU .sub 3 17 1 1 0 3 (bJ .sub 3 18 19 7 0 4 0 3 (aK 263 [(W 0 0),(W 8 0)] [none] [16,20] [45,3] 3 true (bJ .add 3 15 21 6 0 9 0 3 (aU .add 3 12 1 4 0 3 YP)))))) (.ret [(W 3 0)])
def aE0:Tr:=.loop 0 [lK 0,lK 0] (bJ .lss 3 9 10 4 0 2 0 4 aE2)
theorem To:aN prog f284 (fun _=>none) [.v none, .v none, .v none]=aE0:=by kernel_rfl
def ac4:Tr:=.loop 0 [lV 14 0,lV 10 0] (aK 215 [(W 15 0),(W 1 0)] [none] [46,47] [45,45] 3 true (aU .geq 3 48 0 17 0 4 (.split (.u 18 0) (.need (.call 214 [(W 15 0),(W 1 0),(WK (-1))] [none]) (.call ⟨.value (.func 214),#[(tT 50),(tT 51),(.const (I3 (-1)))],#[45,45,3]⟩) 45 true (aU .add 3 53 1 16 0 3 (.back 0 [lV 19 0,lV 20 0]))) (.ret [(W 16 0),(W 15 0)]))))
def ZW:Tr:=.loop 0 [lV 0 0,lV 10 0] (aK 215 [(W 12 0),(W 1 0)] [none] [46,47] [45,45] 3 true (aU .geq 3 48 0 14 0 4 (.split (.u 15 0) (.need (.call 214 [(W 12 0),(W 1 0),(WK (-1))] [none]) (.call ⟨.value (.func 214),#[(tT 50),(tT 51),(.const (I3 (-1)))],#[45,45,3]⟩) 45 true (aU .add 3 53 1 13 0 3 (.back 0 [lV 16 0,lV 17 0]))) (.ret [(W 13 0),(W 12 0)]))))
def SO:Tr:=aU .gtr 3 36 0 10 0 4 (.split (.u 11 0) (aK 139 [(W 10 0)] [(some 2)] [39] [2] 47 false (aK 135 [(G2 12),(.agg [(tE (.int .i64 1)),(U 1 0)])] [(some 2)] [40,42] [47,47] 47 true (.need (.call 214 [(W 0 0),(W 13 1),(WK (-1))] [none]) (.call ⟨.value (.func 214),#[(tT 38),(tT 44),(.const (I3 (-1)))],#[45,45,3]⟩) 45 true ac4))) ZW)
def aT0:Tr:=aU .leq 3 14 3 2 0 4 (.split (.u 5 0) (aU .add 3 17 1 2 0 3 (aU .add 3 19 1 2 0 3 (aK 284 [(W 0 0),(W 6 0),(W 7 0)] [none] [16,18,20] [45,3,3] 3 false (aK 284 [(W 1 0),(W 2 0),(W 2 0)] [none] [22,23,24] [45,3,3] 3 true (bJ .quo 3 21 25 8 0 9 0 3 SO))))) (aU .add 3 28 1 2 0 3 (.need (.call 284 [(W 0 0),(W 6 0),(WK 4)] [none]) (.call ⟨.value (.func 284),#[(tT 27),(tT 29),(.const (I3 4))],#[45,3,3]⟩) 3 false (.need (.call 284 [(W 1 0),(W 2 0),(WK 3)] [none]) (.call ⟨.value (.func 284),#[(tT 31),(tT 32),(.const (I3 3))],#[45,3,3]⟩) 3 false (aU .add 3 33 1 8 0 3 (bJ .quo 3 30 34 7 0 9 0 3 SO))))))
def ab7:Tr:=.loop 0 [lV 8 0,lK 0] (aK 215 [(W 9 0),(W 1 0)] [none] [46,47] [45,45] 3 true (aU .geq 3 48 0 11 0 4 (.split (.u 12 0) (.need (.call 214 [(W 9 0),(W 1 0),(WK (-1))] [none]) (.call ⟨.value (.func 214),#[(tT 50),(tT 51),(.const (I3 (-1)))],#[45,45,3]⟩) 45 true (aU .add 3 53 1 10 0 3 (.back 0 [lV 13 0,lV 14 0]))) (.ret [(W 10 0),(W 9 0)]))))
def af3:Tr:=.split (.u 5 0) (aK 139 [(WK 0)] [(some 2)] [39] [2] 47 false (aK 135 [(G2 6),(.agg [(tE (.int .i64 1)),(U 1 0)])] [(some 2)] [40,42] [47,47] 47 true (.need (.call 214 [(W 0 0),(W 7 1),(WK (-1))] [none]) (.call ⟨.value (.func 214),#[(tT 38),(tT 44),(.const (I3 (-1)))],#[45,45,3]⟩) 45 true ab7))) (.loop 0 [lV 0 0,lK 0] (aK 215 [(W 6 0),(W 1 0)] [none] [46,47] [45,45] 3 true (aU .geq 3 48 0 8 0 4 (.split (.u 9 0) (.need (.call 214 [(W 6 0),(W 1 0),(WK (-1))] [none]) (.call ⟨.value (.func 214),#[(tT 50),(tT 51),(.const (I3 (-1)))],#[45,45,3]⟩) 45 true (aU .add 3 53 1 7 0 3 YP)) (.ret [(W 7 0),(W 6 0)])))))
def aN9:Tr:=cB 1 0 8 45 (cB 0 0 10 45 (bJ .geq 3 11 12 3 0 2 0 4 (.split (.u 4 0) aT0 (.need (.prim [(WK 0),(WK 0)] none) (.binOp .gtr 3 (tT 36) (.const (I3 0)) 3) 4 false af3))))
theorem Qm:aN prog f261 (fun _=>none) [.v none, .v none]=aN9:=by kernel_rfl
def ac3:Tr:=.need (.app 1 8 (some 17) none (some 20)) (.call ⟨.builtin .append,#[(tT 33),(tT 38)],#[45,45]⟩) 45 false (aK 260 [(.one (.c (.sr 1 21)))] [none] [39] [45] 45 true (aK 261 [(W 22 0),(W 1 0)] [none,none] [42,43] [45,45] 311 false (.need (.lit 1 [[(.u 23 0)]]) (.buildSlice 45 1 #[(0,(tT 48))]) 45 false (.need (.app 1 8 (some 14) none (some 25)) (.call ⟨.builtin .append,#[(tT 47),(tT 49)],#[45,45]⟩) 45 false (aU .add 3 30 1 13 0 3 (.back 0 [lV 24 0,lV 27 0, .row 26]))))))
def aj9:Tr:=cB 0 0 27 45 (bJ .lss 3 26 28 13 0 15 0 4 (.split (.u 16 0) (.need (.app 1 8 none (some (.u 12 0)) none) (.call ⟨.builtin .append,#[(.const (.slice none 0 0)),(tT 32)],#[45,45]⟩) 45 false (eD 0 0 13 0 45 34 35 (dI 18 0 none 3 36 (.need (.lit 1 [[(.u 19 0)]]) (.buildSlice 45 1 #[(0,(tT 37))]) 45 false ac3)))) (aK 260 [(.one (.c (.sr 1 14)))] [none] [51] [45] 45 false (.ret [(W 17 0),(W 12 0)]))))
def aV0:Tr:=aU .sub 3 18 1 5 0 3 (.need (.prim [(W 0 0),(W 6 0)] none) (.slice 45 (tT 16) none (some (tT 19)) none) 45 false (.need (.app 1 8 none (some (.u 7 0)) none) (.call ⟨.builtin .append,#[(.const (.slice none 0 0)),(tT 20)],#[45,45]⟩) 45 false (aK 260 [(.one (.c (.sr 1 8)))] [none] [21] [45] 45 true (cB 1 0 23 45 (aU .sub 3 24 1 10 0 3 (.loop 0 [lV 9 0,lV 11 0, .nilrow] aj9))))))
def aU1:Tr:=cB 0 0 10 45 (cB 1 0 12 45 (bJ .lss 3 11 13 2 0 3 0 4 (.split (.u 4 0) (.ret [(.one (.c (.k (.slice none 0 0)))),(W 0 0)]) (cB 1 0 17 45 aV0))))
theorem Vw:aN prog f213 (fun _=>none) [.v none, .v none]=aU1:=by kernel_rfl
def Sr:Tr:=.ret [(G2 4),(G2 5)]
def aK8:Tr:=.split (.u 6 0) (aU .neq 3 29 0 5 0 4 (.split (.u 7 0) (.need (.call 139 [(WK 1)] [(some 2)]) (.call ⟨.value (.func 139),#[(.const (I3 1))],#[2]⟩) 47 false (aK 210 [(G2 4),(G2 8)] [(some 2)] [32,33] [47,47] 47 false (aK 210 [(G2 1),(G2 5)] [(some 2)] [35,36] [47,47] 47 true (.ret [(G2 9),(G2 10)])))) Sr)) Sr
def aM2:Tr:=aK 213 [(W 0 1),(W 1 1)] [none,none] [12,14] [45,45] 269 false (aK 211 [(W 0 0),(W 2 0)] [(some 2)] [19,20] [3,45] 47 false (.need (.call 211 [(WK 1),(W 3 0)] [(some 2)]) (.call ⟨.value (.func 211),#[(.const (I3 1)),(tT 22)],#[3,45]⟩) 47 true (aU .lss 3 25 0 0 0 4 aK8)))
theorem NS:aN prog f272 (fun _=>none) [.v (some 2), .v (some 2)]=aM2:=by kernel_rfl
def aR7:Tr:=.split (.u 4 0) (aU .mul 3 11 32768 1 0 3 (eD 0 0 2 0 45 13 14 (dI 6 0 none 3 15 (bJ .add 3 12 16 5 0 7 0 3 (aU .add 3 9 1 2 0 3 (.back 0 [lV 8 0,lV 9 0])))))) (.ret [(W 1 0)])
def aT9:Tr:=.loop 0 [lK 0,lK 0] (cB 0 0 6 45 (bJ .lss 3 5 7 2 0 3 0 4 aR7))
theorem PT:aN prog f257 (fun _=>none) [.v none]=aT9:=by kernel_rfl
def an1:Tr:=aK 257 [(W 2 0)] [none] [26] [45] 3 false (aK 257 [(W 3 0)] [none] [28] [45] 3 true (.loop 1 [lV 12 0,lV 13 0] (aU .neq 3 30 0 15 0 4 (.split (.u 16 0) (bJ .rem 3 33 34 14 0 15 0 3 (.back 1 [lV 15 0,lV 17 0])) (aK 139 [(W 14 0)] [(some 2)] [36] [2] 47 true (.ret [(G2 17)]))))))
def aK9:Tr:=aU .leq 3 19 4 8 0 4 (.split (.u 9 0) (cB 3 0 22 45 (aU .leq 3 23 4 10 0 4 (.split (.u 11 0) an1 (aK 213 [(W 2 0),(W 3 0)] [none,none] [39,40] [45,45] 269 false (.back 0 [lV 3 0,lV 13 0,lV 4 0,lV 5 0]))))) (aK 213 [(W 2 0),(W 3 0)] [none,none] [39,40] [45,45] 269 false (.back 0 [lV 3 0,lV 11 0,lV 4 0,lV 5 0])))
def aD8:Tr:=.loop 0 [lV 0 1,lV 1 1,lK 0,lN] (cB 3 0 15 45 (aU .gtr 3 16 0 6 0 4 (.split (.u 7 0) (cB 2 0 18 45 aK9) (.need (.call 211 [(WK 1),(W 2 0)] [(some 2)]) (.call ⟨.value (.func 211),#[(.const (I3 1)),(tT 46)],#[3,45]⟩) 47 true (.ret [(G2 8)])))))
theorem UK:aN prog f212 (fun _=>none) [.v (some 2), .v (some 2)]=aD8:=by kernel_rfl
theorem Lm {m long i:Nat} (h:i<long):m/32768^(long-i)*32768+m/32768^(long-1-i)%32768=m/32768^(long-(i+1)):=by
 have e:m/32768^(long-i)=m/32768^(long-(i+1))/32768:=by
  rw [Nat.div_div_eq_div_mul,←Nat.pow_succ];congr 2;omega
 rw [e,show long-1-i=long-(i+1) by omega];have:=Nat.div_add_mod (m/32768^(long-(i+1))) 32768;omega
theorem wK {m long i:Nat} (h:i≤long) (hm:m<32768^long):m/32768^(long-i)<32768^i:=by
 rw [Nat.div_lt_iff_lt_mul (Nat.pow_pos (by omega)),←Nat.pow_add,show i+(long-i)=long by omega];exact hm
theorem Ka {i:Nat} (h:i≤4):32768^i≤1152921504606846976:=by
 have:=Nat.pow_le_pow_right (n:=32768) (by omega) h;rw [show (32768:Nat)^4=1152921504606846976 by decide] at this;exact this
theorem wT (m long k:Nat) (hm:m<32768^long) (hk:k≤long) (hk4:k≤4) (hl:long<1099511627776) (hs:(bd m).length<1099511627776):aM prog 284 [(.one (bT m):aF),(.one (.int .i64 long):aF),(.one (.int .i64 k):aF)] (.ret [.one (.int .i64 ((m/32768^(long-k):Nat):Int))]):=by
 refine aD (args:=[.v none, .v none, .v none]) (ins:=[.v (.one (bT m)), .v (.one (.int .i64 long)), .v (.one (.int .i64 k))]) (hints:=(fun _=>none)) fo (by kernel_rfl) func284 ⟨rfl,rfl,rfl,trivial⟩ ?_;rw [To];dsimp only [List.map,In.env,aB,aA];refine bC {i:Nat // i≤k} (fun g=>[.one (.int .i64 ((m/32768^(long-g.1):Nat):Int)), .one (.int .i64 g.1)]) (fun g=>k-g.1) ⟨0,Nat.zero_le _⟩ ⟨aF.Sub.of_eq (congrArg (fun q:Nat=>aF.one (aH.int .i64 (q:Int))) (by show 0=m/32768^long;rw [Nat.div_eq_of_lt hm])),aF.Sub.same,trivial⟩ (fun _=>rfl) ?_;rintro ⟨i,hi⟩;dsimp only [aB,aA] at hi ⊢;refine vn bB rfl ?_;dsimp only [aB,aA];refine vs _ rfl (fun h2=>?_) (fun h2=>?_)
 ·have hx:=wK (m:=m) (i:=i) (long:=long) (by omega) hm;have hp:=Ka (i:=i) (by omega);have hstep:=Lm (m:=m) (long:=long) (i:=i) (by omega);have hlt:=wK (m:=m) (i:=i+1) (long:=long) (by omega) hm;have hp2:=Ka (i:=i+1) (by omega);generalize m/32768^(long-i)=x at *;generalize hy:m/32768^(long-(i+1))=y at *;refine vn (pV (by omega) (by omega)) rfl ?_;dsimp only [aB,aA];refine vn (aG (by omega) (by omega)) rfl ?_;dsimp only [aB,aA];refine vn (oP (c:=((long-1-i:Nat):Int)) (by rw [show ((long:Int)-1-(i:Int))=((long-1-i:Nat):Int) by omega];exact dN (by omega) (by omega))) rfl ?_;dsimp only [aB,aA];refine aC (Cl m (long-1-i) (by omega) hs) rfl ?_;generalize m/32768^(long-1-i)%32768=d at *;dsimp only [aB,aA];refine vn (dW (c:=(y:Int)) (by rw [show (x:Int)*32768+(d:Int)=(y:Int) by omega];exact dN (by omega) (by omega))) rfl ?_;dsimp only [aB,aA];refine vn (aE (by omega) (by omega)) rfl ?_;dsimp only [aB,aA];exact aR rfl ⟨⟨i+1,by omega⟩,⟨aF.Sub.of_eq (congrArg (fun q:Nat=>aF.one (aH.int .i64 (q:Int))) hy.symm),aF.Sub.same,trivial⟩,by show k-(i+1)<k-i;omega⟩
 rw [show k=i by omega];exact aL rfl
theorem Lj {d:Nat} (h:0<d):zT (d:Int) = .agg [.int .i64 1,bT d]:=by
 rw [zT,zC,Int.sign_eq_one_of_pos (by omega)];rfl
theorem Tq {r d m:Nat}:r/32768^m/(d/32768^m+1)*d≤r:=by
 have hp:0<32768^m:=Nat.pow_pos (by omega)
 have h1:d≤(d/32768^m+1)*32768^m:=by
  rw [Nat.mul_comm];exact Nat.le_of_lt (Nat.lt_mul_div_succ d hp)
 calc r/32768^m/(d/32768^m+1)*d≤r/32768^m/(d/32768^m+1)*((d/32768^m+1)*32768^m):=Nat.mul_le_mul_left _ h1
  _=r/32768^m/(d/32768^m+1)*(d/32768^m+1)*32768^m:=(Nat.mul_assoc _ _ _).symm
  _≤r/32768^m*32768^m:=Nat.mul_le_mul_right _ (Nat.div_mul_le_self _ _)
  _≤r:=Nat.div_mul_le_self _ _
set_option maxHeartbeats 2000000 in
theorem Tp (r d:Nat) (hd:0<d) (hr:r<d*32768) (hs:(bd d).length<34359738368):aM prog 261 [(.one (bT r):aF),(.one (bT d):aF)] (.ret [.one (.int .i64 ((r/d:Nat):Int)), .one (bT (r%d))]):=by
 refine aD (args:=[.v none, .v none]) (ins:=[.v (.one (bT r)), .v (.one (bT d))]) (hints:=(fun _=>none)) fo (by kernel_rfl) func261 ⟨rfl,rfl,trivial⟩ ?_;rw [Qm];dsimp only [List.map,In.env,aB,aA];have hdl:=Dc d
 have hrl:r<32768^((bd d).length+1):=by
  rw [Nat.pow_succ];exact Nat.lt_trans hr (Nat.mul_lt_mul_of_pos_right hdl (by omega))
 have hrs:=iP hrl;have hle:∀ q,q≤r→(bd q).length≤(bd d).length+1:=fun q hq=>Nat.le_trans (dJ hq) hrs
 have hdn:0<(bd d).length:=by
  rcases Nat.eq_zero_or_pos (bd d).length with h | h
  ·have:=BC.1 (List.eq_nil_of_length_eq_zero h);omega
  ·exact h
 have hqB:r/d<32768:=by rw [Nat.div_lt_iff_lt_mul hd,Nat.mul_comm];exact hr
 have hkd:∀ k,k*d≤r→k<32768:=fun k hk=>by
  have:k≤r/d:=by rw [Nat.le_div_iff_mul_le hd];exact hk
  omega
 have hfin:∀ r' k,r'+k*d=r→r'<d→k=r/d∧r'=r%d:=fun r' k h1 h2=>zI (by rw [←h1,Nat.mul_comm]) h2
 have hah:∀ r':Nat,(0≤eE (r':Int) (d:Int))↔d≤r':=fun r'=>by
  have:=sO (a:=(r':Int)) (b:=(d:Int));omega
 refine vn (aP eI (List.length_map _)) rfl ?_;dsimp only [aB,aA];refine vn (aP eI (List.length_map _)) rfl ?_;dsimp only [aB,aA];refine vn eH rfl ?_;dsimp only [aB,aA];refine vs _ rfl (fun h3=>?_) (fun h3=>?_)
 ·refine vn fV rfl ?_;dsimp only [aB,aA];refine vs _ rfl (fun h5=>?_) (fun h5=>?_)
  ·refine vn (aE (by omega) (by omega)) rfl ?_;dsimp only [aB,aA];refine vn (aE (by omega) (by omega)) rfl ?_;dsimp only [aB,aA];refine aC (wT r ((bd d).length+1) ((bd d).length+1) hrl (Nat.le_refl _) (by omega) (by omega) (by omega)) rfl ?_;rw [Nat.sub_self,Nat.pow_zero,Nat.div_one];dsimp only [aB,aA];refine aC (wT d (bd d).length (bd d).length hdl (Nat.le_refl _) (by omega) (by omega) (by omega)) rfl ?_;rw [Nat.sub_self,Nat.pow_zero,Nat.div_one];dsimp only [aB,aA];obtain ⟨k,hk⟩:∃ k,r/d=k:=⟨_,rfl⟩
   have hk1:k*d≤r:=by rw [←hk];exact Nat.div_mul_le_self _ _
   have hk2:=hkd k hk1;refine vn (pY (c:=(k:Int)) (by omega) (by rw [Int.tdiv_eq_ediv_of_nonneg (oL _),←Int.natCast_ediv,hk];exact dN (by omega) (by omega))) rfl ?_;dsimp only [aB,aA];refine vn dB rfl ?_;dsimp only [aB,aA];refine vs _ rfl (fun h12=>?_) (fun h12=>?_)
   ·have hm:=gI (k:Int) (d:Int) (by
     rw [Int.natAbs_natCast,Int.natAbs_natCast];have:(bd k).length≤1:=iP (by omega);omega)
    rw [Lj hd,show (k:Int)*(d:Int)=((k*d:Nat):Int) by rw [Int.natCast_mul]] at hm;refine aC (gJ k (by omega) (by omega)) rfl ?_;dsimp only [aB,aA];refine aC hm rfl ?_;dsimp only [aB,aA];refine aC (kC r (k*d) (r-k*d) (-1) (.inr rfl) (by omega) (by omega) (by have:=hle _ hk1;omega)) rfl ?_;dsimp only [aB,aA];refine bC {g:Nat×Nat // g.1+g.2*d=r} (fun g=>[.one (bT g.1.1), .one (.int .i64 g.1.2)]) (fun g=>g.1.1) ⟨(r-k*d,k),by show r-k*d+k*d=r;omega⟩ aO.rfl (fun _=>rfl) ?_;rintro ⟨⟨r',k'⟩,hg⟩;dsimp only [aB,aA] at hg ⊢;have hk3:=hkd k' (by omega);have hr3:=hle r' (by omega);refine aC (qB r' d (by omega)) rfl ?_;dsimp only [aB,aA];refine vn eH rfl ?_;dsimp only [aB,aA];refine vs _ rfl (fun h19=>?_) (fun h19=>?_)
    ·have hdr:d≤r':=(hah r').1 (by assumption);refine aC (kC r' d (r'-d) (-1) (.inr rfl) (by omega) (by omega) (by omega)) rfl ?_;dsimp only [aB,aA];refine vn (aE (by omega) (by omega)) rfl ?_;dsimp only [aB,aA];exact aR rfl ⟨⟨(r'-d,k'+1),by show r'-d+(k'+1)*d=r;rw [Nat.add_mul];omega⟩,aO.rfl,by show r'-d<r';omega⟩
    have hdr:r'<d:=by
     rcases Nat.lt_or_ge r' d with h | h
     ·exact h
     ·exact absurd ((hah r').2 h) (by assumption)
    obtain ⟨e1,e2⟩:=hfin r' k' hg hdr;rw [←e1,←e2];exact aL rfl
   refine bC {g:Nat×Nat // g.1+g.2*d=r} (fun g=>[.one (bT g.1.1), .one (.int .i64 g.1.2)]) (fun g=>g.1.1) ⟨(r,0),by omega⟩ ⟨aF.Sub.same,aF.Sub.of_eq (congrArg (fun q:Nat=>aF.one (aH.int .i64 (q:Int))) (by show k=0;omega)),trivial⟩ (fun _=>rfl) ?_;rintro ⟨⟨r',k'⟩,hg⟩;dsimp only [aB,aA] at hg ⊢;have hk3:=hkd k' (by omega);have hr3:=hle r' (by omega);refine aC (qB r' d (by omega)) rfl ?_;dsimp only [aB,aA];refine vn eH rfl ?_;dsimp only [aB,aA];refine vs _ rfl (fun h27=>?_) (fun h27=>?_)
   ·have hdr:d≤r':=(hah r').1 (by assumption);refine aC (kC r' d (r'-d) (-1) (.inr rfl) (by omega) (by omega) (by omega)) rfl ?_;dsimp only [aB,aA];refine vn (aE (by omega) (by omega)) rfl ?_;dsimp only [aB,aA];exact aR rfl ⟨⟨(r'-d,k'+1),by show r'-d+(k'+1)*d=r;rw [Nat.add_mul];omega⟩,aO.rfl,by show r'-d<r';omega⟩
   have hdr:r'<d:=by
    rcases Nat.lt_or_ge r' d with h | h
    ·exact h
    ·exact absurd ((hah r').2 h) (by assumption)
   obtain ⟨e1,e2⟩:=hfin r' k' hg hdr;rw [←e1,←e2];exact aL rfl
  refine vn (aE (by omega) (by omega)) rfl ?_;dsimp only [aB,aA];refine aC (wT r ((bd d).length+1) 4 hrl (by omega) (by omega) (by omega) (by omega)) rfl ?_;dsimp only [aB,aA];refine aC (wT d (bd d).length 3 hdl (by omega) (by omega) (by omega) (by omega)) rfl ?_;rw [show (bd d).length+1-4=(bd d).length-3 by omega];have hd3:=wK (m:=d) (long:=(bd d).length) (i:=3) (by omega) hdl;have hr4:=wK (m:=r) (long:=(bd d).length+1) (i:=4) (by omega) hrl;rw [show (bd d).length+1-4=(bd d).length-3 by omega] at hr4;have hp3:=Ka (i:=3) (by omega);have hp4:=Ka (i:=4) (by omega);have hk1:=Tq (r:=r) (d:=d) (m:=(bd d).length-3);generalize r/32768^((bd d).length-3)=rt at *;generalize d/32768^((bd d).length-3)=dt at *;obtain ⟨k,hk⟩:∃ k,rt/(dt+1)=k:=⟨_,rfl⟩
  rw [hk] at hk1;have hk2:=hkd k hk1;dsimp only [aB,aA];refine vn (aE (by omega) (by omega)) rfl ?_;dsimp only [aB,aA];refine vn (pY (c:=(k:Int)) (by omega) (by rw [Int.tdiv_eq_ediv_of_nonneg (oL _),show ((dt:Int)+1)=((dt+1:Nat):Int) by omega,←Int.natCast_ediv,hk];exact dN (by omega) (by omega))) rfl ?_;dsimp only [aB,aA];refine vn dB rfl ?_;dsimp only [aB,aA];refine vs _ rfl (fun h38=>?_) (fun h38=>?_)
  ·have hm:=gI (k:Int) (d:Int) (by
    rw [Int.natAbs_natCast,Int.natAbs_natCast];have:(bd k).length≤1:=iP (by omega);omega)
   rw [Lj hd,show (k:Int)*(d:Int)=((k*d:Nat):Int) by rw [Int.natCast_mul]] at hm;refine aC (gJ k (by omega) (by omega)) rfl ?_;dsimp only [aB,aA];refine aC hm rfl ?_;dsimp only [aB,aA];refine aC (kC r (k*d) (r-k*d) (-1) (.inr rfl) (by omega) (by omega) (by have:=hle _ hk1;omega)) rfl ?_;dsimp only [aB,aA];refine bC {g:Nat×Nat // g.1+g.2*d=r} (fun g=>[.one (bT g.1.1), .one (.int .i64 g.1.2)]) (fun g=>g.1.1) ⟨(r-k*d,k),by show r-k*d+k*d=r;omega⟩ aO.rfl (fun _=>rfl) ?_;rintro ⟨⟨r',k'⟩,hg⟩;dsimp only [aB,aA] at hg ⊢;have hk3:=hkd k' (by omega);have hr3:=hle r' (by omega);refine aC (qB r' d (by omega)) rfl ?_;dsimp only [aB,aA];refine vn eH rfl ?_;dsimp only [aB,aA];refine vs _ rfl (fun h45=>?_) (fun h45=>?_)
   ·have hdr:d≤r':=(hah r').1 (by assumption);refine aC (kC r' d (r'-d) (-1) (.inr rfl) (by omega) (by omega) (by omega)) rfl ?_;dsimp only [aB,aA];refine vn (aE (by omega) (by omega)) rfl ?_;dsimp only [aB,aA];exact aR rfl ⟨⟨(r'-d,k'+1),by show r'-d+(k'+1)*d=r;rw [Nat.add_mul];omega⟩,aO.rfl,by show r'-d<r';omega⟩
   have hdr:r'<d:=by
    rcases Nat.lt_or_ge r' d with h | h
    ·exact h
    ·exact absurd ((hah r').2 h) (by assumption)
   obtain ⟨e1,e2⟩:=hfin r' k' hg hdr;rw [←e1,←e2];exact aL rfl
  refine bC {g:Nat×Nat // g.1+g.2*d=r} (fun g=>[.one (bT g.1.1), .one (.int .i64 g.1.2)]) (fun g=>g.1.1) ⟨(r,0),by omega⟩ ⟨aF.Sub.same,aF.Sub.of_eq (congrArg (fun q:Nat=>aF.one (aH.int .i64 (q:Int))) (by show k=0;omega)),trivial⟩ (fun _=>rfl) ?_;rintro ⟨⟨r',k'⟩,hg⟩;dsimp only [aB,aA] at hg ⊢;have hk3:=hkd k' (by omega);have hr3:=hle r' (by omega);refine aC (qB r' d (by omega)) rfl ?_;dsimp only [aB,aA];refine vn eH rfl ?_;dsimp only [aB,aA];refine vs _ rfl (fun h53=>?_) (fun h53=>?_)
  ·have hdr:d≤r':=(hah r').1 (by assumption);refine aC (kC r' d (r'-d) (-1) (.inr rfl) (by omega) (by omega) (by omega)) rfl ?_;dsimp only [aB,aA];refine vn (aE (by omega) (by omega)) rfl ?_;dsimp only [aB,aA];exact aR rfl ⟨⟨(r'-d,k'+1),by show r'-d+(k'+1)*d=r;rw [Nat.add_mul];omega⟩,aO.rfl,by show r'-d<r';omega⟩
  have hdr:r'<d:=by
   rcases Nat.lt_or_ge r' d with h | h
   ·exact h
   ·exact absurd ((hah r').2 h) (by assumption)
  obtain ⟨e1,e2⟩:=hfin r' k' hg hdr;rw [←e1,←e2];exact aL rfl
 refine vn dB rfl ?_;dsimp only [aB,aA];refine vs _ rfl (fun h59=>?_) (fun h59=>?_)
 ·exfalso;omega
 refine bC {g:Nat×Nat // g.1+g.2*d=r} (fun g=>[.one (bT g.1.1), .one (.int .i64 g.1.2)]) (fun g=>g.1.1) ⟨(r,0),by omega⟩ aO.rfl (fun _=>rfl) ?_;rintro ⟨⟨r',k'⟩,hg⟩;dsimp only [aB,aA] at hg ⊢;have hk3:=hkd k' (by omega);have hr3:=hle r' (by omega);refine aC (qB r' d (by omega)) rfl ?_;dsimp only [aB,aA];refine vn eH rfl ?_;dsimp only [aB,aA];refine vs _ rfl (fun h74=>?_) (fun h74=>?_)
 ·have hdr:d≤r':=(hah r').1 (by assumption);refine aC (kC r' d (r'-d) (-1) (.inr rfl) (by omega) (by omega) (by omega)) rfl ?_;dsimp only [aB,aA];refine vn (aE (by omega) (by omega)) rfl ?_;dsimp only [aB,aA];exact aR rfl ⟨⟨(r'-d,k'+1),by show r'-d+(k'+1)*d=r;rw [Nat.add_mul];omega⟩,aO.rfl,by show r'-d<r';omega⟩
 have hdr:r'<d:=by
  rcases Nat.lt_or_ge r' d with h | h
  ·exact h
  ·exact absurd ((hah r').2 h) (by assumption)
 obtain ⟨e1,e2⟩:=hfin r' k' hg hdr;rw [←e1,←e2];exact aL rfl
set_option maxHeartbeats 1000000 in
theorem iC (a d:Nat) (hd:0<d) (hs:(bd a).length+(bd d).length<34359738368):aM prog 213 [(.one (bT a):aF),(.one (bT d):aF)] (.ret [.one (bT (a/d)), .one (bT (a%d))]):=by
 refine aD (args:=[.v none, .v none]) (ins:=[.v (.one (bT a)), .v (.one (bT d))]) (hints:=(fun _=>none)) fo (by kernel_rfl) func213 ⟨rfl,rfl,trivial⟩ ?_;rw [Vw];dsimp only [List.map,In.env,aB,aA]
 have hdn:0<(bd d).length:=by
  rcases Nat.eq_zero_or_pos (bd d).length with h | h
  ·have:=BC.1 (List.eq_nil_of_length_eq_zero h);omega
  ·exact h
 refine vn (aP eI (List.length_map _)) rfl ?_;dsimp only [aB,aA];refine vn (aP eI (List.length_map _)) rfl ?_;dsimp only [aB,aA];refine vn bB rfl ?_;dsimp only [aB,aA];refine vs _ rfl (fun h3=>?_) (fun h3=>?_)
 ·have had:=vF (a:=a) (b:=d) (by omega);refine eG ⟨UJ (Nat.div_eq_of_lt had),?_,trivial⟩;rw [Nat.mod_eq_of_lt had];exact aH.Sub.same
 refine vn (aP eI (List.length_map _)) rfl ?_;dsimp only [aB,aA];refine vn (aG (by omega) (by omega)) rfl ?_;dsimp only [aB,aA];refine vn (UY (m:=(bd d).length-1) (by omega) (by omega) (by omega)) rfl ?_;dsimp only [aB,aA];refine uE (ts:=[]) (us:=rB ((bd a).take ((bd d).length-1))) (vs:=rB ((bd a).take ((bd d).length-1))) rfl (.inr aH.Sub.same) rfl (by simp;omega) (by simp [maxLen];omega) ?_;dsimp only [aB,aA];refine aC (tG ((bd a).take ((bd d).length-1)) ((fW a).take _) (by rw [List.length_take];omega)) rfl ?_;dsimp only [aB,aA];refine vn (aP eI (List.length_map _)) rfl ?_;dsimp only [aB,aA];refine vn (aG (by omega) (by omega)) rfl ?_;dsimp only [aB,aA]
 refine bC {g:Nat×Nat×List Nat // (bd d).length-1≤g.1∧g.1≤(bd a).length∧bv ((bd a).take g.1)=g.2.1+d*bv g.2.2∧g.2.1<d∧DB 32768 g.2.2∧g.2.2.length≤g.1} (fun g=>[.one (bT g.1.2.1), .one (.int .i64 g.1.1), .rows (rB g.1.2.2)]) (fun g=>(bd a).length-g.1.1) ⟨((bd d).length-1,bv ((bd a).take ((bd d).length-1)),[]),Nat.le_refl _,by show (bd d).length-1≤_;omega,by simp [bv,val],by
  have h1:=Jh ((fW a).take ((bd d).length-1));rw [List.length_take,Nat.min_eq_left (by omega)] at h1;exact Nat.lt_of_lt_of_le h1 (aK3 (by omega)),QR,Nat.zero_le _⟩ ⟨aF.Sub.same,aF.Sub.of_eq (congrArg (fun q=>aF.one (aH.int .i64 q)) (by show ((bd d).length:Int)-1=(((bd d).length-1:Nat):Int);omega)),aF.Sub.same,trivial⟩ (fun _=>rfl) ?_
 rintro ⟨⟨i,R,qs⟩,hi1,hi2,hv,hR,hq,hql⟩;dsimp only [aB,aA] at hi1 hi2 hv hR hq hql ⊢;have hRl:=dJ (Nat.le_of_lt hR);refine vn (aP eI (List.length_map _)) rfl ?_;dsimp only [aB,aA];refine vn bB rfl ?_;dsimp only [aB,aA];refine vs _ rfl (fun h15=>?_) (fun h15=>?_)
 ·obtain ⟨x,hx⟩:∃ x,(bd a)[i]? = some x:=⟨_,List.getElem?_eq_getElem (by omega)⟩
  have hxB:=(fW a).get hx;refine uE (ts:=[]) (us:=rB (bd R)) (vs:=rB (bd R)) rfl (.inr aH.Sub.same) rfl (by simp;omega) (by simp [maxLen];omega) ?_;dsimp only [aB,aA];refine vn (aW eI (by omega) (by omega) hx) rfl ?_;dsimp only [aB,aA];refine vn (bF LK) rfl ?_;dsimp only [aB,aA];refine cL (us:=rB [x]) rfl ?_;dsimp only [aB,aA];refine uE (ts:=rB (bd R)) (us:=rB [x]) (vs:=rB (bd R ++ [x])) rfl rfl (by rw [rB,rB,rB,←List.map_append]) (by simp;omega) (by simp [maxLen];omega) ?_;dsimp only [aB,aA];have hdb:DB 32768 (bd R ++ [x]):=(fW R).append (fun y hy=>by simp at hy;omega);refine aC (tG (bd R ++ [x]) hdb (by simp;omega)) rfl ?_;rw [AN,dZ];dsimp only [aB,aA]
  refine aC (Tp (R*32768+x) d hd (by
   have:(R+1)*32768≤d*32768:=Nat.mul_le_mul_right _ hR;omega) (by omega)) rfl ?_
  have hmd:=Nat.mod_add_div (R*32768+x) d
  have hqB:(R*32768+x)/d<32768:=by
   rw [Nat.div_lt_iff_lt_mul hd,Nat.mul_comm];have:(R+1)*32768≤d*32768:=Nat.mul_le_mul_right _ hR;omega
  have hRm:=Nat.mod_lt (R*32768+x) hd;generalize (R*32768+x)/d=k at *;generalize (R*32768+x)%d=R' at *;dsimp only [aB,aA];refine cL (us:=rB [k]) rfl ?_;dsimp only [aB,aA];refine uE (ts:=rB qs) (us:=rB [k]) (vs:=rB (qs ++ [k])) rfl rfl (by rw [rB,rB,rB,←List.map_append]) (by simp;omega) (by simp [maxLen];omega) ?_;dsimp only [aB,aA];refine vn (aE (by omega) (by omega)) rfl ?_;dsimp only [aB,aA]
  exact aR rfl ⟨⟨(i+1,R',qs ++ [k]),by show _≤i+1;omega,by show i+1≤_;omega,by
   show bv ((bd a).take (i+1))=R'+d*bv (qs ++ [k]);rw [take_succ hx,AN,AN,hv,Nat.mul_add,Nat.add_mul,←Nat.mul_assoc];omega,hRm,hq.append (fun y hy=>by simp at hy;omega),by show (qs ++ [k]).length≤i+1;simp;omega⟩,aO.rfl,by show (bd a).length-(i+1)<(bd a).length-i;omega⟩
 have hie:i=(bd a).length:=by omega
 subst hie;rw [List.take_length,dZ] at hv;obtain ⟨e1,e2⟩:=zI hv hR;refine aC (tG qs hq (by omega)) rfl ?_;dsimp only [aB,aA];rw [←e1,←e2];exact aL rfl
theorem Ut (x:Int) (d:Nat) (hd:0<d):x%(d:Int)=if x<0 then (if x.natAbs%d=0 then 0 else ((d-x.natAbs%d:Nat):Int)) else ((x.natAbs%d:Nat):Int):=by
 have h1:=Int.mul_ediv_add_emod x d;have h2:=sD x d hd;have h3:=Nat.div_add_mod x.natAbs d;have h4:=Nat.mod_lt x.natAbs hd;have e:((x.natAbs:Nat):Int)=(d:Int)*((x.natAbs/d:Nat):Int)+((x.natAbs%d:Nat):Int):=by rw [←Int.natCast_mul];omega
 rw [h2] at h1;generalize x.natAbs/d=q at *;generalize x.natAbs%d=r at *;by_cases h:x<0
 ·rw [if_pos h] at h1 ⊢;by_cases hr:r=0
  ·rw [if_pos hr] at h1 ⊢;rw [Int.mul_neg] at h1;omega
  ·rw [if_neg hr] at h1 ⊢;rw [Int.mul_neg,Int.natCast_add,Int.mul_add] at h1;omega
 ·rw [if_neg h] at h1 ⊢;omega
theorem Ox (x:Int) (d:Nat) (hd:0<d) (hs:(bd x.natAbs).length+(bd d).length<34359738368):aM prog 272 [(zT x:aF),(zT (d:Int):aF)] (.ret [zT (x/(d:Int)),zT (x%(d:Int))]):=by
 refine aD (args:=[.v (some 2), .v (some 2)]) (ins:=[.v (zT x), .v (zT (d:Int))]) (hints:=(fun _=>none)) fo (by kernel_rfl) func272 ⟨rfl,rfl,trivial⟩ ?_;rw [NS];dsimp only [List.map,In.env,aB,aA];have hf:=sD x d hd;have he:=Ut x d hd;have hql:=dJ (Nat.div_le_self x.natAbs d);have hrl:=dJ (Nat.le_of_lt (Nat.mod_lt x.natAbs hd));have hrd:=Nat.mod_lt x.natAbs hd;have hsx:=bW x;obtain ⟨q,hq⟩:∃ q,x.natAbs/d=q:=⟨_,rfl⟩
 obtain ⟨r,hr⟩:∃ r,x.natAbs%d=r:=⟨_,rfl⟩
 have hov:=iC x.natAbs d hd hs;rw [hq,hr] at hov;rw [hq] at hql;rw [hr] at hrl hrd;rw [hq,hr] at hf;rw [hr] at he;refine aC hov rfl ?_;dsimp only [aB,aA];obtain ⟨z,hz⟩:∃ z:Int,(if x<0 then -(q:Int) else q)=z:=⟨_,rfl⟩
 have hza:z.natAbs=q:=by rw [←hz];split<;>omega
 refine aC (eV x.sign z (bd q) (fW _) (by omega) (by rw [dZ];exact hza) (fun hne=>by
  rw [dZ] at hne;rcases hsx with ⟨h,e⟩ | ⟨h,e⟩ | ⟨h,e⟩
  ·rw [e];rw [if_pos h] at hz;exact Int.sign_eq_neg_one_of_neg (by omega)
  ·subst h;simp at hq;omega
  ·rw [e];rw [if_neg (by omega)] at hz;exact Int.sign_eq_one_of_pos (by omega))) rfl ?_
 dsimp only [aB,aA];refine aC (eV 1 (r:Int) (bd r) (fW _) (by omega) (by rw [dZ];rfl) (fun hne=>by rw [dZ] at hne;exact Int.sign_eq_one_of_pos (by omega))) rfl ?_;dsimp only [aB,aA];refine vn bB rfl ?_;dsimp only [aB,aA];refine vs _ rfl (fun h4=>?_) (fun h4=>?_)
 ·have hx0:x<0:=by rcases hsx with ⟨h,e⟩ | ⟨h,e⟩ | ⟨h,e⟩<;>omega
  rw [if_pos hx0] at hz hf he;have hsr:=bW (r:Int);refine vn gO rfl ?_;dsimp only [aB,aA];refine vs _ rfl (fun h6=>?_) (fun h6=>?_)
  ·refine aC (gJ 1 (by omega) (by omega)) rfl ?_;dsimp only [aB,aA];refine aC (GN z 1 (by rw [hza];omega) (by show (bd 1).length<_;rw [Bk (by omega) (by omega)];simp)) rfl ?_;dsimp only [aB,aA];refine aC (GN (d:Int) (r:Int) (by rw [Int.natAbs_natCast];omega) (by rw [Int.natAbs_natCast];omega)) rfl ?_;dsimp only [aB,aA];have hr0:r≠0:=by rcases hsr with ⟨h,e⟩ | ⟨h,e⟩ | ⟨h,e⟩<;>omega
   rw [if_neg hr0] at hf he;rw [show x/(d:Int)=z-1 by omega,show x%(d:Int)=(d:Int)-r by omega];exact aL rfl
  have hr0:r=0:=by rcases hsr with ⟨h,e⟩ | ⟨h,e⟩ | ⟨h,e⟩<;>omega
  rw [if_pos hr0] at hf he;rw [show x/(d:Int)=z by omega,show x%(d:Int)=(r:Int) by omega];exact aL rfl
 have hx0:¬ x<0:=by rcases hsx with ⟨h,e⟩ | ⟨h,e⟩ | ⟨h,e⟩<;>omega
 rw [if_neg hx0] at hz hf he;rw [show x/(d:Int)=z by omega,he];exact aL rfl
theorem BR (m:Nat) (hm:(bd m).length≤4):aM prog 257 [(.one (bT m):aF)] (.ret [.one (.int .i64 m)]):=by
 refine aD (args:=[.v none]) (ins:=[.v (.one (bT m))]) (hints:=(fun _=>none)) fo (by kernel_rfl) func257 ⟨rfl,trivial⟩ ?_;rw [PT];dsimp only [List.map,In.env,aB,aA];refine bC {i:Nat // i≤(bd m).length} (fun g=>[.one (.int .i64 (bv ((bd m).take g.1):Nat)), .one (.int .i64 g.1)]) (fun g=>(bd m).length-g.1) ⟨0,Nat.zero_le _⟩ aO.rfl (fun _=>rfl) ?_;rintro ⟨i,hi⟩;dsimp only [aB,aA] at hi ⊢;refine vn (aP eI (List.length_map _)) rfl ?_;dsimp only [aB,aA];refine vn bB rfl ?_;dsimp only [aB,aA];refine vs _ rfl (fun h3=>?_) (fun h3=>?_)
 ·obtain ⟨x,hx⟩:∃ x,(bd m)[i]? = some x:=⟨_,List.getElem?_eq_getElem (by omega)⟩
  have hxB:=(fW m).get hx;have hb:=Jh ((fW m).take i);rw [List.length_take,Nat.min_eq_left hi] at hb;have hp:=Ka (i:=i) (by omega);have hb2:=Jh ((fW m).take (i+1));rw [List.length_take,Nat.min_eq_left (by omega)] at hb2;have hp2:=Ka (i:=i+1) (by omega);have hsn:bv ((bd m).take (i+1))=bv ((bd m).take i)*32768+x:=by rw [take_succ hx,AN]
  generalize bv ((bd m).take i)=y at *;refine vn (pV (by omega) (by omega)) rfl ?_;dsimp only [aB,aA];refine vn (aW eI (by omega) (by omega) hx) rfl ?_;dsimp only [aB,aA];refine vn (bF LK) rfl ?_;dsimp only [aB,aA];refine vn (aE (by omega) (by omega)) rfl ?_;dsimp only [aB,aA];refine vn (aE (by omega) (by omega)) rfl ?_;dsimp only [aB,aA];exact aR rfl ⟨⟨i+1,by omega⟩,⟨aF.Sub.of_eq (congrArg (fun q:Int=>aF.one (aH.int .i64 q)) (by show (y:Int)*32768+x=((bv ((bd m).take (i+1)):Nat):Int);omega)),aF.Sub.same,trivial⟩,by show (bd m).length-(i+1)<(bd m).length-i;omega⟩
 rw [show i=(bd m).length by omega,List.take_length,dZ];exact aL rfl
set_option maxHeartbeats 1000000 in
theorem LH (x y:Int) (hs:(bd x.natAbs).length<17179869184) (hs2:(bd y.natAbs).length<17179869184):aM prog 212 [(zT x:aF),(zT y:aF)] (.ret [zT ((Nat.gcd x.natAbs y.natAbs:Nat):Int)]):=by
 refine aD (args:=[.v (some 2), .v (some 2)]) (ins:=[.v (zT x), .v (zT y)]) (hints:=(fun _=>none)) fo (by kernel_rfl) func212 ⟨rfl,rfl,trivial⟩ ?_;rw [UK];dsimp only [List.map,In.env,aB,aA];refine bC {p:Nat×Nat // Nat.gcd p.1 p.2=Nat.gcd x.natAbs y.natAbs∧(bd p.1).length<17179869184∧(bd p.2).length<17179869184} (fun p=>[.one (bT p.1.1), .one (bT p.1.2), .one (.int .i64 0), .one (.exact (.slice none 0 0))]) (fun p=>p.1.2) ⟨(x.natAbs,y.natAbs),rfl,hs,hs2⟩ aO.rfl (fun _=>rfl) ?_;rintro ⟨⟨a,b⟩,hg,ha,hb⟩;dsimp only [aB,aA] at hg ha hb ⊢;have hbz:(bd b).length=0↔b=0:=by rw [List.length_eq_zero_iff,BC]
 have hml:=dJ (Nat.mod_le a b);refine vn (aP eI (List.length_map _)) rfl ?_;dsimp only [aB,aA];refine vn dB rfl ?_;dsimp only [aB,aA];refine vs _ rfl (fun h3=>?_) (fun h3=>?_)
 ·have hb0:0<b:=by
   rcases Nat.eq_zero_or_pos b with h | h
   ·have:=hbz.2 h;omega
   ·exact h
  refine vn (aP eI (List.length_map _)) rfl ?_;dsimp only [aB,aA];refine vn fV rfl ?_;dsimp only [aB,aA];refine vs _ rfl (fun h6=>?_) (fun h6=>?_)
  ·refine vn (aP eI (List.length_map _)) rfl ?_;dsimp only [aB,aA];refine vn fV rfl ?_;dsimp only [aB,aA];refine vs _ rfl (fun h9=>?_) (fun h9=>?_)
   ·have h4:∀ n,(bd n).length≤4→n<1152921504606846976:=fun n hn=>Nat.lt_of_lt_of_le (Dc n) (Ka hn);have ha4:=h4 a (by omega);have hb4:=h4 b (by omega);refine aC (BR a (by omega)) rfl ?_;dsimp only [aB,aA];refine aC (BR b (by omega)) rfl ?_;dsimp only [aB,aA];refine bC {p:Nat×Nat // Nat.gcd p.1 p.2=Nat.gcd x.natAbs y.natAbs∧p.1<1152921504606846976∧p.2<1152921504606846976} (fun p=>[.one (.int .i64 p.1.1), .one (.int .i64 p.1.2)]) (fun p=>p.1.2) ⟨(a,b),hg,ha4,hb4⟩ aO.rfl (fun _=>rfl) ?_;rintro ⟨⟨p,q⟩,hpq,hp,hq⟩;dsimp only [aB,aA] at hpq hp hq ⊢;refine vn gO rfl ?_;dsimp only [aB,aA];refine vs _ rfl (fun h14=>?_) (fun h14=>?_)
    ·refine vn (Cw (c:=((p%q:Nat):Int)) (by omega) (by rw [Int.tmod_eq_emod_of_nonneg (oL _),←Int.natCast_emod])) rfl ?_;dsimp only [aB,aA];exact aR rfl ⟨⟨(q,p%q),by rw [←hpq,Nat.gcd_comm p q,Nat.gcd_rec q p,Nat.gcd_comm],hq,Nat.lt_of_le_of_lt (Nat.mod_le _ _) hp⟩,aO.rfl,Nat.mod_lt _ (by omega)⟩
    have hq0:q=0:=by omega
    subst hq0;rw [Nat.gcd_zero_right] at hpq;refine aC (gJ p (by omega) (by omega)) rfl ?_;dsimp only [aB,aA];rw [←hpq];exact aL rfl
   refine aC (iC a b hb0 (by omega)) rfl ?_;dsimp only [aB,aA];exact aR rfl ⟨⟨(b,a%b),by rw [←hg,Nat.gcd_comm a b,Nat.gcd_rec b a,Nat.gcd_comm],hb,by show (bd (a%b)).length<_;omega⟩,aO.rfl,Nat.mod_lt _ hb0⟩
  refine aC (iC a b hb0 (by omega)) rfl ?_;dsimp only [aB,aA];exact aR rfl ⟨⟨(b,a%b),by rw [←hg,Nat.gcd_comm a b,Nat.gcd_rec b a,Nat.gcd_comm],hb,by show (bd (a%b)).length<_;omega⟩,aO.rfl,Nat.mod_lt _ hb0⟩
 have hb0:b=0:=hbz.1 (by omega);subst hb0;rw [Nat.gcd_zero_right] at hg;refine aC (eV 1 (a:Int) (bd a) (fW _) (by omega) (by rw [dZ];rfl) (fun hne=>by rw [dZ] at hne;exact Int.sign_eq_one_of_pos (by omega))) rfl ?_;dsimp only [aB,aA];rw [←hg];exact aL rfl
open Go Go.Proofs Tryz Ord
def aF7:Tr:=aU .eql 3 5 0 0 2 4 (.split (.u 1 0) (.need (.call 139 [(WK 1)] [(some 2)]) (.call ⟨.value (.func 139),#[(.const (I3 1))],#[2]⟩) 47 true (.ret [(G2 2)])) (.ret [(.agg [(U 0 2),(U 0 3)])]))
theorem ab9:aN prog f136 (fun _=>none) [.v (some 4)]=aF7:=by kernel_rfl
def at2:Tr:=aU .eql 3 28 1 9 0 4 (.split (.u 10 0) (.ret [(.agg [(U 3 0),(U 3 1),(U 4 0),(U 4 1)])]) (aK 213 [(W 3 1),(W 5 1)] [none,none] [36,38] [45,45] 269 false (aK 213 [(W 4 1),(W 5 1)] [none,none] [44,46] [45,45] 269 false (aK 211 [(W 3 0),(W 11 0)] [(some 2)] [51,52] [3,45] 47 false (.need (.call 211 [(WK 1),(W 13 0)] [(some 2)]) (.call ⟨.value (.func 211),#[(.const (I3 1)),(tT 54)],#[3,45]⟩) 47 true (.ret [(.agg [(U 15 0),(U 15 1),(U 16 0),(U 16 1)])]))))))
def aQ3:Tr:=aU .eql 3 22 1 6 0 4 (.split (.u 7 0) (.need (.prim [(W 5 1),(WK 0)] none) (.indexAddr 45 (tT 26) (.const (I3 0))) 0 false (dI 8 0 none 3 27 at2)) (aK 213 [(W 3 1),(W 5 1)] [none,none] [36,38] [45,45] 269 false (aK 213 [(W 4 1),(W 5 1)] [none,none] [44,46] [45,45] 269 false (aK 211 [(W 3 0),(W 8 0)] [(some 2)] [51,52] [3,45] 47 false (.need (.call 211 [(WK 1),(W 10 0)] [(some 2)]) (.call ⟨.value (.func 211),#[(.const (I3 1)),(tT 54)],#[3,45]⟩) 47 true (.ret [(.agg [(U 12 0),(U 12 1),(U 13 0),(U 13 1)])]))))))
def ap4:Tr:=aU .eql 3 28 1 7 0 4 (.split (.u 8 0) (.ret [(.agg [(U 0 0),(U 0 1),(U 1 0),(U 1 1)])]) (aK 213 [(W 0 1),(W 3 1)] [none,none] [36,38] [45,45] 269 false (aK 213 [(W 1 1),(W 3 1)] [none,none] [44,46] [45,45] 269 false (aK 211 [(W 0 0),(W 9 0)] [(some 2)] [51,52] [3,45] 47 false (.need (.call 211 [(WK 1),(W 11 0)] [(some 2)]) (.call ⟨.value (.func 211),#[(.const (I3 1)),(tT 54)],#[3,45]⟩) 47 true (.ret [(.agg [(U 13 0),(U 13 1),(U 14 0),(U 14 1)])]))))))
def af8:Tr:=aU .eql 3 22 1 4 0 4 (.split (.u 5 0) (.need (.prim [(W 3 1),(WK 0)] none) (.indexAddr 45 (tT 26) (.const (I3 0))) 0 false (dI 6 0 none 3 27 ap4)) (aK 213 [(W 0 1),(W 3 1)] [none,none] [36,38] [45,45] 269 false (aK 213 [(W 1 1),(W 3 1)] [none,none] [44,46] [45,45] 269 false (aK 211 [(W 0 0),(W 6 0)] [(some 2)] [51,52] [3,45] 47 false (.need (.call 211 [(WK 1),(W 8 0)] [(some 2)]) (.call ⟨.value (.func 211),#[(.const (I3 1)),(tT 54)],#[3,45]⟩) 47 true (.ret [(.agg [(U 10 0),(U 10 1),(U 11 0),(U 11 1)])]))))))
def aT2:Tr:=aU .lss 3 11 0 1 0 4 (.split (.u 2 0) (aK 183 [(G2 0)] [(some 2)] [13] [47] 47 false (aK 183 [(G2 1)] [(some 2)] [15] [47] 47 true (aK 212 [(G2 3),(G2 4)] [(some 2)] [17,18] [47,47] 47 true (cB 5 1 21 45 aQ3)))) (aK 212 [(G2 0),(G2 1)] [(some 2)] [17,18] [47,47] 47 true (cB 3 1 21 45 af8)))
theorem Sj:aN prog f137 (fun _=>none) [.v (some 2), .v (some 2)]=aT2:=by kernel_rfl
def Zh:Tr:=.ret [(.agg [(U 1 0),(U 1 1),(U 2 0),(U 2 1)])]
def aW2:Tr:=aK 139 [(W 0 0)] [(some 2)] [3] [2] 47 true (.need (.call 139 [(WK 1)] [(some 2)]) (.call ⟨.value (.func 139),#[(.const (I3 1))],#[2]⟩) 47 true Zh)
theorem ad1:aN prog f50 (fun _=>none) [.v none]=aW2:=by kernel_rfl
def aE8:Tr:=aK 139 [(W 0 0)] [(some 2)] [5] [2] 47 false (aK 139 [(W 1 0)] [(some 2)] [7] [2] 47 true (aK 137 [(G2 2),(G2 3)] [(some 4)] [6,8] [47,47] 49 true (.ret [(G4 4)])))
theorem aN5:aN prog f79 (fun _=>none) [.v none, .v none]=aE8:=by kernel_rfl
def aN3:Tr:=aK 135 [(G2 1),(G2 4)] [(some 2)] [11,13] [47,47] 47 false (aK 138 [(G2 3),(G2 5)] [(some 2)] [9,14] [47,47] 47 false (aK 136 [(G4 0)] [(some 2)] [16] [49] 47 false (aK 136 [(G4 1)] [(some 2)] [18] [49] 47 false (aK 135 [(G2 7),(G2 8)] [(some 2)] [17,19] [47,47] 47 true (aK 137 [(G2 6),(G2 9)] [(some 4)] [15,20] [47,47] 49 true (.ret [(G4 10)]))))))
def aF6:Tr:=aK 136 [(G4 1)] [(some 2)] [7] [49] 47 false (aK 135 [(G2 0),(G2 2)] [(some 2)] [6,8] [47,47] 47 false (aK 136 [(G4 0)] [(some 2)] [12] [49] 47 false aN3))
theorem az6:aN prog f48 (fun _=>none) [.v (some 4), .v (some 4)]=aF6:=by kernel_rfl
def aK4:Tr:=aK 105 [(G4 1)] [(some 4)] [6] [49] 49 true (aK 48 [(G4 0),(G4 2)] [(some 4)] [5,7] [49,49] 49 true (.ret [(G4 3)]))
theorem ar2:aN prog f141 (fun _=>none) [.v (some 4), .v (some 4)]=aK4:=by kernel_rfl
def Zt:Tr:=.ret [(G4 6)]
def aU5:Tr:=aK 135 [(G2 0),(G2 1)] [(some 2)] [6,8] [47,47] 47 false (aK 136 [(G4 0)] [(some 2)] [10] [49] 47 false (aK 136 [(G4 1)] [(some 2)] [12] [49] 47 false (aK 135 [(G2 3),(G2 4)] [(some 2)] [11,13] [47,47] 47 true (aK 137 [(G2 2),(G2 5)] [(some 4)] [9,14] [47,47] 49 true Zt))))
theorem ZH:aN prog f104 (fun _=>none) [.v (some 4), .v (some 4)]=aU5:=by kernel_rfl
def aN4:Tr:=aK 136 [(G4 1)] [(some 2)] [7] [49] 47 false (aK 135 [(G2 0),(G2 2)] [(some 2)] [6,8] [47,47] 47 false (aK 136 [(G4 0)] [(some 2)] [10] [49] 47 false (aK 135 [(G2 4),(G2 1)] [(some 2)] [11,13] [47,47] 47 true (aK 137 [(G2 3),(G2 5)] [(some 4)] [9,14] [47,47] 49 true Zt))))
theorem aj1:aN prog f102 (fun _=>none) [.v (some 4), .v (some 4)]=aN4:=by kernel_rfl
def YV:Tr:=aK 136 [(G4 0)] [(some 2)] [6] [49] 47 true Zh
def aN0:Tr:=aK 183 [(G2 0)] [(some 2)] [4] [47] 47 false YV
theorem aB3:aN prog f105 (fun _=>none) [.v (some 4)]=aN0:=by kernel_rfl
def aG6:Tr:=aK 148 [(G2 0)] [(some 2)] [4] [47] 47 false YV
theorem an2:aN prog f60 (fun _=>none) [.v (some 4)]=aG6:=by kernel_rfl
def aJ6:Tr:=aK 136 [(G4 1)] [(some 2)] [7] [49] 47 false (aK 135 [(G2 0),(G2 2)] [(some 2)] [6,8] [47,47] 47 false (aK 136 [(G4 0)] [(some 2)] [12] [49] 47 false (aK 135 [(G2 1),(G2 4)] [(some 2)] [11,13] [47,47] 47 true (aK 134 [(G2 3),(G2 5)] [none] [9,14] [47,47] 3 true (.ret [(W 6 0)])))))
theorem ZI:aN prog f47 (fun _=>none) [.v (some 4), .v (some 4)]=aJ6:=by kernel_rfl
def aR8:Tr:=.ret [(W 0 0)]
theorem VF:aN prog f46 (fun _=>none) [.v (some 4)]=aR8:=by kernel_rfl
structure RQ where
 q:Rat
 z:Bool
 h:z=true→q=0
def RQ.of (q:Rat):RQ:=⟨q,false,fun h=>by cases h⟩
def RQ.nil:RQ:=⟨0,true,fun _=>rfl⟩
abbrev rC (a:RQ):List aH:=[.int .i64 a.q.num.sign,bT a.q.num.natAbs, .int .i64 (if a.z then 0 else 1),bT (if a.z then 0 else a.q.den)]
abbrev dE (a:RQ):aF:=.agg (rC a)
theorem RQ.rM (q:Rat):(RQ.of q).q=q:=rfl
theorem aB4 (q:Rat):zT (q.den:Int) = .agg [.int .i64 1,bT q.den]:=Lj q.den_pos
theorem jL:aY aH.Sub [.int .i64 0, .exact (.slice none 0 0), .int .i64 0, .exact (.slice none 0 0)] (rC RQ.nil):=⟨aH.Sub.same,UJ rfl,aH.Sub.same,UJ rfl,trivial⟩
theorem iM (a:RQ):aM prog 136 [(dE a:aF)] (.ret [zT (a.q.den:Int)]):=by
 refine aD (args:=[.v (some 4)]) (ins:=[.v (dE a)]) (hints:=(fun _=>none)) fo (by kernel_rfl) func136 ⟨rfl,trivial⟩ ?_;rw [ab9];dsimp only [List.map,In.env,aB,aA];refine vn bL rfl ?_;dsimp only [aB,aA];refine vs _ rfl (fun h1=>?_) (fun h1=>?_)
 ·have ha:a.z=true:=by cases h:a.z<;>simp_all
  have hq:=a.h ha;refine aC (gJ 1 (by omega) (by omega)) rfl ?_;dsimp only [aB,aA];rw [hq];exact aL rfl
 have ha:a.z=false:=by cases h:a.z<;>simp_all
 refine aL ?_;rw [aB4];show [aF.agg [.int .i64 (if a.z then 0 else 1),bT (if a.z then 0 else a.q.den)]]=_;rw [ha];rfl
theorem eC {n B:Nat} (h:n<2^B):(bd n).length≤B:=iP (Nat.lt_of_lt_of_le h (Nat.pow_le_pow_left (by omega) B))
def uG (n d:Int):Rat:=mkRat (if d<0 then -n else n) d.natAbs
theorem UG {z:Int} {d:Nat} (hd:d≠0):(mkRat z d).num=z/((z.natAbs.gcd d:Nat):Int)∧(mkRat z d).den=d/z.natAbs.gcd d∧(mkRat z d).num.natAbs=z.natAbs/z.natAbs.gcd d∧(mkRat z d).num.sign=z.sign:=by
 obtain ⟨h1,h2⟩:=Pf (z:=z) hd;have hg:0<z.natAbs.gcd d:=Nat.gcd_pos_of_pos_right _ (by omega);have hgz:z≠0→z.natAbs.gcd d≤z.natAbs:=fun h=>Nat.gcd_le_left _ (by omega)
 have h3:(mkRat z d).num.natAbs=z.natAbs/z.natAbs.gcd d:=by
  rw [h1];generalize z.natAbs/z.natAbs.gcd d=t;split<;>omega
 refine ⟨?_,h2,h3,?_⟩
 ·rw [←Rat.normalize_eq_mkRat hd,Rat.normalize_eq hd]
 ·rcases bW z with ⟨h,e⟩ | ⟨h,e⟩ | ⟨h,e⟩
  ·rw [e,h1,decide_eq_true h,if_pos rfl];have:=Nat.div_pos (hgz (by omega)) hg;exact Int.sign_eq_neg_one_of_neg (by omega)
  ·rw [e];subst h;rw [Rat.zero_mkRat];rfl
  ·rw [e,h1,decide_eq_false (by omega),if_neg (by simp)];have:=Nat.div_pos (hgz (by omega)) hg;exact Int.sign_eq_one_of_pos (by omega)
theorem yA {g:Nat} (h:(bd g).length=1) {x:Nat} (hx:(bd g)[0]? = some x):g=x:=by
 match hb:bd g,h with
 | [y],_=>
   rw [hb] at hx;simp only [List.getElem?_cons_zero,Option.some.injEq] at hx;subst hx;rw [←dZ g,hb,AO];simp [bv,val]
theorem vQ {q:Rat}:dE (RQ.of q) = .agg [.int .i64 q.num.sign,bT q.num.natAbs, .int .i64 1,bT q.den]:=rfl
set_option maxHeartbeats 1000000 in
theorem pR (n d:Int) (hd:d≠0) (hs:(bd n.natAbs).length<8589934592) (hs2:(bd d.natAbs).length<8589934592):aM prog 137 [(zT n:aF),(zT d:aF)] (.ret [dE (.of (uG n d))]):=by
 refine aD (args:=[.v (some 2), .v (some 2)]) (ins:=[.v (zT n), .v (zT d)]) (hints:=(fun _=>none)) fo (by kernel_rfl) func137 ⟨rfl,rfl,trivial⟩ ?_;rw [Sj];dsimp only [List.map,In.env,aB,aA];have hsd:=bW d
 have key:∀ m:Int,m.natAbs=n.natAbs→uG n d=mkRat m d.natAbs→(uG n d).den=d.natAbs/Nat.gcd n.natAbs d.natAbs∧(uG n d).num.natAbs=n.natAbs/Nat.gcd n.natAbs d.natAbs∧(uG n d).num.sign=m.sign:=fun m hm e=>by
  have:=UG (z:=m) (d:=d.natAbs) (by omega);rw [hm] at this;rw [e];exact ⟨this.2.1,this.2.2.1,this.2.2.2⟩
 have hg:0<Nat.gcd n.natAbs d.natAbs:=Nat.gcd_pos_of_pos_right _ (by omega);have hgd:Nat.gcd n.natAbs d.natAbs≤d.natAbs:=Nat.gcd_le_right _ (by omega);have hgl:=dJ hgd;have hdg:=Nat.div_pos hgd hg;have hnl:=dJ (Nat.div_le_self n.natAbs (Nat.gcd n.natAbs d.natAbs));have hdl:=dJ (Nat.div_le_self d.natAbs (Nat.gcd n.natAbs d.natAbs));refine vn bB rfl ?_;dsimp only [aB,aA];refine vs _ rfl (fun h1=>?_) (fun h1=>?_)
 ·have hd0:d<0:=by rcases hsd with ⟨h,e⟩ | ⟨h,e⟩ | ⟨h,e⟩<;>omega
  have hR:uG n d=mkRat (-n) d.natAbs:=by rw [uG,if_pos hd0]
  obtain ⟨k1,k2,k3⟩:=key (-n) (Int.natAbs_neg n) hR;generalize uG n d=q at *;refine aC (AQ n) rfl ?_;dsimp only [aB,aA];refine aC (AQ d) rfl ?_;dsimp only [aB,aA];have hc:=LH (-n) (-d) (by rw [Int.natAbs_neg];omega) (by rw [Int.natAbs_neg];omega);rw [Int.natAbs_neg,Int.natAbs_neg] at hc;refine aC hc rfl ?_;generalize hG:Nat.gcd n.natAbs d.natAbs=g at *;dsimp only [aB,aA];refine vn (aP eI (List.length_map _)) rfl ?_;dsimp only [aB,aA];refine vn bL rfl ?_;dsimp only [aB,aA];refine vs _ rfl (fun h7=>?_) (fun h7=>?_)
  ·obtain ⟨x,hx⟩:∃ x,(bd g)[0]? = some x:=⟨_,List.getElem?_eq_getElem (by rw [Int.natAbs_natCast] at h7;omega)⟩
   refine vn (aW eI (by omega) (by omega) (show (bd ((g:Int)).natAbs)[0]? = some x from hx)) rfl ?_;dsimp only [aB,aA];refine vn (bF LK) rfl ?_;dsimp only [aB,aA];refine vn bL rfl ?_;dsimp only [aB,aA];refine vs _ rfl (fun h11=>?_) (fun h11=>?_)
   ·have hg1:g=1:=by
     have:=yA (g:=g) (by rw [Int.natAbs_natCast] at h7;omega) hx;omega
    rw [hg1,Nat.div_one] at k1 k2;refine aL ?_;rw [vQ,k3,k2,k1];show [aF.agg [.int .i64 (-n).sign,bT (-n).natAbs, .int .i64 (-d).sign,bT (-d).natAbs]]=_;rw [Int.natAbs_neg,Int.natAbs_neg,Int.sign_eq_one_of_pos (show 0 < -d by omega)]
   have ho1:=iC n.natAbs g hg (by omega);have ho2:=iC d.natAbs g hg (by omega);rw [←k2] at ho1 hnl;rw [←k1] at ho2 hdl hdg;have hn':(-n).natAbs=n.natAbs:=Int.natAbs_neg n;have hd':(-d).natAbs=d.natAbs:=Int.natAbs_neg d;rw [←hn'] at ho1;rw [←hd'] at ho2;refine aC ho1 rfl ?_;dsimp only [aB,aA];refine aC ho2 rfl ?_;dsimp only [aB,aA];refine aC (eV (-n).sign q.num _ (fW _) (by omega) (by rw [dZ]) (fun _=>k3)) rfl ?_;dsimp only [aB,aA];refine aC (eV 1 (q.den:Int) _ (fW _) (by omega) (by rw [dZ];rfl) (fun _=>Int.sign_eq_one_of_pos (by omega))) rfl ?_;dsimp only [aB,aA];refine aL ?_;rw [vQ];show [aF.agg [.int .i64 q.num.sign,bT q.num.natAbs, .int .i64 (q.den:Int).sign,bT (q.den:Int).natAbs]]=_;rw [Int.sign_eq_one_of_pos (show (0:Int)<q.den by omega),Int.natAbs_natCast]
  have ho1:=iC n.natAbs g hg (by omega);have ho2:=iC d.natAbs g hg (by omega);rw [←k2] at ho1 hnl;rw [←k1] at ho2 hdl hdg;have hn':(-n).natAbs=n.natAbs:=Int.natAbs_neg n;have hd':(-d).natAbs=d.natAbs:=Int.natAbs_neg d;rw [←hn'] at ho1;rw [←hd'] at ho2;refine aC ho1 rfl ?_;dsimp only [aB,aA];refine aC ho2 rfl ?_;dsimp only [aB,aA];refine aC (eV (-n).sign q.num _ (fW _) (by omega) (by rw [dZ]) (fun _=>k3)) rfl ?_;dsimp only [aB,aA];refine aC (eV 1 (q.den:Int) _ (fW _) (by omega) (by rw [dZ];rfl) (fun _=>Int.sign_eq_one_of_pos (by omega))) rfl ?_;dsimp only [aB,aA];refine aL ?_;rw [vQ];show [aF.agg [.int .i64 q.num.sign,bT q.num.natAbs, .int .i64 (q.den:Int).sign,bT (q.den:Int).natAbs]]=_;rw [Int.sign_eq_one_of_pos (show (0:Int)<q.den by omega),Int.natAbs_natCast]
 have hd0:0<d:=by rcases hsd with ⟨h,e⟩ | ⟨h,e⟩ | ⟨h,e⟩<;>omega
 have hR:uG n d=mkRat n d.natAbs:=by rw [uG,if_neg (by omega)]
 obtain ⟨k1,k2,k3⟩:=key n rfl hR;generalize uG n d=q at *;have hc:=LH n d (by omega) (by omega);refine aC hc rfl ?_;generalize hG:Nat.gcd n.natAbs d.natAbs=g at *;dsimp only [aB,aA];refine vn (aP eI (List.length_map _)) rfl ?_;dsimp only [aB,aA];refine vn bL rfl ?_;dsimp only [aB,aA];refine vs _ rfl (fun h26=>?_) (fun h26=>?_)
 ·obtain ⟨x,hx⟩:∃ x,(bd g)[0]? = some x:=⟨_,List.getElem?_eq_getElem (by rw [Int.natAbs_natCast] at h26;omega)⟩
  refine vn (aW eI (by omega) (by omega) (show (bd ((g:Int)).natAbs)[0]? = some x from hx)) rfl ?_;dsimp only [aB,aA];refine vn (bF LK) rfl ?_;dsimp only [aB,aA];refine vn bL rfl ?_;dsimp only [aB,aA];refine vs _ rfl (fun h30=>?_) (fun h30=>?_)
  ·have hg1:g=1:=by
    have:=yA (g:=g) (by rw [Int.natAbs_natCast] at h26;omega) hx;omega
   rw [hg1,Nat.div_one] at k1 k2;refine aL ?_;rw [vQ,k3,k2,k1];show [aF.agg [.int .i64 n.sign,bT n.natAbs, .int .i64 d.sign,bT d.natAbs]]=_;rw [Int.sign_eq_one_of_pos (show 0<d by omega)]
  have ho1:=iC n.natAbs g hg (by omega);have ho2:=iC d.natAbs g hg (by omega);rw [←k2] at ho1 hnl;rw [←k1] at ho2 hdl hdg;refine aC ho1 rfl ?_;dsimp only [aB,aA];refine aC ho2 rfl ?_;dsimp only [aB,aA];refine aC (eV n.sign q.num _ (fW _) (by omega) (by rw [dZ]) (fun _=>k3)) rfl ?_;dsimp only [aB,aA];refine aC (eV 1 (q.den:Int) _ (fW _) (by omega) (by rw [dZ];rfl) (fun _=>Int.sign_eq_one_of_pos (by omega))) rfl ?_;dsimp only [aB,aA];refine aL ?_;rw [vQ];show [aF.agg [.int .i64 q.num.sign,bT q.num.natAbs, .int .i64 (q.den:Int).sign,bT (q.den:Int).natAbs]]=_;rw [Int.sign_eq_one_of_pos (show (0:Int)<q.den by omega),Int.natAbs_natCast]
 have ho1:=iC n.natAbs g hg (by omega);have ho2:=iC d.natAbs g hg (by omega);rw [←k2] at ho1 hnl;rw [←k1] at ho2 hdl hdg;refine aC ho1 rfl ?_;dsimp only [aB,aA];refine aC ho2 rfl ?_;dsimp only [aB,aA];refine aC (eV n.sign q.num _ (fW _) (by omega) (by rw [dZ]) (fun _=>k3)) rfl ?_;dsimp only [aB,aA];refine aC (eV 1 (q.den:Int) _ (fW _) (by omega) (by rw [dZ];rfl) (fun _=>Int.sign_eq_one_of_pos (by omega))) rfl ?_;dsimp only [aB,aA];refine aL ?_;rw [vQ];show [aF.agg [.int .i64 q.num.sign,bT q.num.natAbs, .int .i64 (q.den:Int).sign,bT (q.den:Int).natAbs]]=_;rw [Int.sign_eq_one_of_pos (show (0:Int)<q.den by omega),Int.natAbs_natCast]
theorem wG {n:Int} {d:Nat}:uG n (d:Int)=mkRat n d:=by
 rw [uG,if_neg (by omega),Int.natAbs_natCast]
theorem HU {a b:Rat} (hb:b≠0):uG (a.num*(b.den:Int)) ((a.den:Int)*b.num)=a/b:=by
 have hn:b.num≠0:=fun e=>hb (Rat.num_eq_zero.1 e);have ha:=a.den_pos;rw [←RX hb,uG,Int.natAbs_mul,Int.natAbs_natCast];by_cases h:b.num<0
 ·rw [if_pos (Int.mul_neg_of_pos_of_neg (by omega) h),decide_eq_true h,if_pos rfl,Int.mul_neg]
 ·rw [if_neg (by have:=Int.mul_nonneg (show (0:Int)≤a.den by omega) (show 0≤b.num by omega);omega),decide_eq_false h,if_neg (by simp)]
theorem WV {n d:Int} (hd:d≠0):uG n d=(n:Rat)/(d:Rat):=by
 have h:=HU (a:=(n:Rat)) (b:=(d:Rat)) (by rw [Ne,←Rat.num_eq_zero,Rat.num_intCast];exact hd);rw [Rat.num_intCast,Rat.num_intCast,Rat.den_intCast,Rat.den_intCast] at h;rw [←h];congr 1<;>omega
theorem Fit.bd {B:Nat} {q:Rat} (h:Fit B q):(bd q.num.natAbs).length≤B∧(bd q.den).length≤B:=⟨eC h.1,eC h.2⟩
theorem iL (n:Int) (h1:-9223372036854775808≤n) (h2:n<9223372036854775808):aM prog 50 [(.one (.int .i64 n):aF)] (.ret [dE (.of (n:Rat))]):=by
 refine aD (args:=[.v none]) (ins:=[.v (.one (.int .i64 n))]) (hints:=(fun _=>none)) fo (by kernel_rfl) func50 ⟨rfl,trivial⟩ ?_;rw [ad1];dsimp only [List.map,In.env,aB,aA];refine aC (gJ n h1 h2) rfl ?_;dsimp only [aB,aA];refine aC (gJ 1 (by omega) (by omega)) rfl ?_;dsimp only [aB,aA];rw [vQ,Rat.num_intCast,Rat.den_intCast];exact aL rfl
theorem Hl (n d:Int) (hd:d≠0) (h1:-9223372036854775808≤n) (h2:n<9223372036854775808) (h3:-9223372036854775808≤d) (h4:d<9223372036854775808):aM prog 79 [(.one (.int .i64 n):aF),(.one (.int .i64 d):aF)] (.ret [dE (.of ((n:Rat)/(d:Rat)))]):=by
 refine aD (args:=[.v none, .v none]) (ins:=[.v (.one (.int .i64 n)), .v (.one (.int .i64 d))]) (hints:=(fun _=>none)) fo (by kernel_rfl) func79 ⟨rfl,rfl,trivial⟩ ?_;rw [aN5];dsimp only [List.map,In.env,aB,aA];refine aC (gJ n h1 h2) rfl ?_;dsimp only [aB,aA];refine aC (gJ d h3 h4) rfl ?_;dsimp only [aB,aA];have hn:=eC (n:=n.natAbs) (B:=64) (by omega);have hdd:=eC (n:=d.natAbs) (B:=64) (by omega);refine aC (pR n d hd (by omega) (by omega)) rfl ?_;rw [WV hd];exact aL rfl
theorem FP (a:RQ):aM prog 105 [(dE a:aF)] (.ret [dE (.of (-a.q))]):=by
 refine aD (args:=[.v (some 4)]) (ins:=[.v (dE a)]) (hints:=(fun _=>none)) fo (by kernel_rfl) func105 ⟨rfl,trivial⟩ ?_;rw [aB3];dsimp only [List.map,In.env,aB,aA];refine aC (AQ a.q.num) rfl ?_;dsimp only [aB,aA];refine aC (iM a) rfl ?_;dsimp only [aB,aA];refine aL ?_;rw [vQ,Rat.neg_num,Rat.neg_den];show [aF.agg [.int .i64 (-a.q.num).sign,bT (-a.q.num).natAbs, .int .i64 (a.q.den:Int).sign,bT (a.q.den:Int).natAbs]]=_;have:=a.q.den_pos;rw [Int.sign_eq_one_of_pos (show (0:Int)<a.q.den by omega),Int.natAbs_natCast]
theorem rV (a:RQ):aM prog 60 [(dE a:aF)] (.ret [dE (.of a.q.abs)]):=by
 refine aD (args:=[.v (some 4)]) (ins:=[.v (dE a)]) (hints:=(fun _=>none)) fo (by kernel_rfl) func60 ⟨rfl,trivial⟩ ?_;rw [an2];dsimp only [List.map,In.env,aB,aA];refine aC (Vf a.q.num) rfl ?_;dsimp only [aB,aA];refine aC (iM a) rfl ?_;dsimp only [aB,aA];refine aL ?_;rw [vQ,(oM a.q).1,(oM a.q).2];show [aF.agg [.int .i64 ((a.q.num.natAbs:Nat):Int).sign,bT ((a.q.num.natAbs:Nat):Int).natAbs, .int .i64 (a.q.den:Int).sign,bT (a.q.den:Int).natAbs]]=_;have:=a.q.den_pos;rw [Int.sign_eq_one_of_pos (show (0:Int)<a.q.den by omega)];simp only [Int.natAbs_natCast]
theorem MI (a:RQ):aM prog 46 [(dE a:aF)] (.ret [.one (.int .i64 a.q.num.sign)]):=by
 refine aD (args:=[.v (some 4)]) (ins:=[.v (dE a)]) (hints:=(fun _=>none)) fo (by kernel_rfl) func46 ⟨rfl,trivial⟩ ?_;rw [VF];dsimp only [List.map,In.env,aB,aA];exact aL rfl
theorem eW (a b:RQ) (A B:Nat) (ha:Fit A a.q) (hb:Fit B b.q) (h:A+B≤4294967296):aM prog 104 [(dE a:aF),(dE b:aF)] (.ret [dE (.of (a.q*b.q))]):=by
 refine aD (args:=[.v (some 4), .v (some 4)]) (ins:=[.v (dE a), .v (dE b)]) (hints:=(fun _=>none)) fo (by kernel_rfl) func104 ⟨rfl,rfl,trivial⟩ ?_;rw [ZH];dsimp only [List.map,In.env,aB,aA];obtain ⟨ha1,ha2⟩:=Fit.bd ha;obtain ⟨hb1,hb2⟩:=Fit.bd hb;have hn:=eC (bI ha.1 hb.1);have hd:=eC (bI ha.2 hb.2);have hpa:=a.q.den_pos;have hpb:=b.q.den_pos;refine aC (gI a.q.num b.q.num (by omega)) rfl ?_;dsimp only [aB,aA];refine aC (iM a) rfl ?_;dsimp only [aB,aA];refine aC (iM b) rfl ?_;dsimp only [aB,aA];refine aC (gI (a.q.den:Int) (b.q.den:Int) (by rw [Int.natAbs_natCast,Int.natAbs_natCast];omega)) rfl ?_;rw [←Int.natCast_mul];dsimp only [aB,aA];refine aC (pR _ ((a.q.den*b.q.den:Nat):Int) (by have:=Nat.mul_pos hpa hpb;omega) (by rw [Int.natAbs_mul];omega) (by rw [Int.natAbs_natCast];omega)) rfl ?_;rw [wG,←Rat.mul_def'];exact aL rfl
theorem jU (a b:RQ) (A B:Nat) (ha:Fit A a.q) (hb:Fit B b.q) (h:A+B≤4294967296):aM prog 48 [(dE a:aF),(dE b:aF)] (.ret [dE (.of (a.q+b.q))]):=by
 refine aD (args:=[.v (some 4), .v (some 4)]) (ins:=[.v (dE a), .v (dE b)]) (hints:=(fun _=>none)) fo (by kernel_rfl) func48 ⟨rfl,rfl,trivial⟩ ?_;rw [az6];dsimp only [List.map,In.env,aB,aA];obtain ⟨ha1,ha2⟩:=Fit.bd ha;obtain ⟨hb1,hb2⟩:=Fit.bd hb;have hn1:=eC (bI ha.1 hb.2);have hn2:=eC (bI hb.1 ha.2);have hd:=eC (bI ha.2 hb.2);have hpa:=a.q.den_pos;have hpb:=b.q.den_pos
 have hsum:(bd (a.q.num*(b.q.den:Int)+b.q.num*(a.q.den:Int)).natAbs).length≤A+B+1:=by
  apply eC;have h1:=bI ha.1 hb.2;have h2:=bI hb.1 ha.2;rw [Nat.add_comm B A] at h2;rw [Nat.pow_succ];refine Nat.lt_of_le_of_lt (Int.natAbs_add_le _ _) ?_;rw [Int.natAbs_mul,Int.natAbs_mul,Int.natAbs_natCast,Int.natAbs_natCast];omega
 refine aC (iM b) rfl ?_;dsimp only [aB,aA];refine aC (gI a.q.num (b.q.den:Int) (by rw [Int.natAbs_natCast];omega)) rfl ?_;dsimp only [aB,aA];refine aC (iM a) rfl ?_;dsimp only [aB,aA];refine aC (gI b.q.num (a.q.den:Int) (by rw [Int.natAbs_natCast];omega)) rfl ?_;dsimp only [aB,aA];refine aC (Mb _ _ (by rw [Int.natAbs_mul,Int.natAbs_natCast];omega) (by rw [Int.natAbs_mul,Int.natAbs_natCast];omega)) rfl ?_;dsimp only [aB,aA];refine aC (iM a) rfl ?_;dsimp only [aB,aA];refine aC (iM b) rfl ?_;dsimp only [aB,aA];refine aC (gI (a.q.den:Int) (b.q.den:Int) (by rw [Int.natAbs_natCast,Int.natAbs_natCast];omega)) rfl ?_;rw [←Int.natCast_mul a.q.den b.q.den];dsimp only [aB,aA];refine aC (pR _ ((a.q.den*b.q.den:Nat):Int) (by have:=Nat.mul_pos hpa hpb;omega) (by omega) (by rw [Int.natAbs_natCast];omega)) rfl ?_;rw [wG,←Rat.add_def'];exact aL rfl
theorem TS (a b:RQ) (A B:Nat) (ha:Fit A a.q) (hb:Fit B b.q) (h:A+B≤4294967296):aM prog 141 [(dE a:aF),(dE b:aF)] (.ret [dE (.of (a.q-b.q))]):=by
 refine aD (args:=[.v (some 4), .v (some 4)]) (ins:=[.v (dE a), .v (dE b)]) (hints:=(fun _=>none)) fo (by kernel_rfl) func141 ⟨rfl,rfl,trivial⟩ ?_;rw [ar2];dsimp only [List.map,In.env,aB,aA];refine aC (FP b) rfl ?_;dsimp only [aB,aA];refine aC (jU a (.of (-b.q)) A B ha hb.neg h) rfl ?_;rw [RQ.rM,←Rat.sub_eq_add_neg];exact aL rfl
theorem uY (a b:RQ) (A B:Nat) (hb0:b.q≠0) (ha:Fit A a.q) (hb:Fit B b.q) (h:A+B≤4294967296):aM prog 102 [(dE a:aF),(dE b:aF)] (.ret [dE (.of (a.q/b.q))]):=by
 refine aD (args:=[.v (some 4), .v (some 4)]) (ins:=[.v (dE a), .v (dE b)]) (hints:=(fun _=>none)) fo (by kernel_rfl) func102 ⟨rfl,rfl,trivial⟩ ?_;rw [aj1];dsimp only [List.map,In.env,aB,aA];obtain ⟨ha1,ha2⟩:=Fit.bd ha;obtain ⟨hb1,hb2⟩:=Fit.bd hb;have hn:=eC (bI ha.1 hb.2);have hd:=eC (bI ha.2 hb.1);have hpa:=a.q.den_pos;have hnb:b.q.num≠0:=fun e=>hb0 (Rat.num_eq_zero.1 e);refine aC (iM b) rfl ?_;dsimp only [aB,aA];refine aC (gI a.q.num (b.q.den:Int) (by rw [Int.natAbs_natCast];omega)) rfl ?_;dsimp only [aB,aA];refine aC (iM a) rfl ?_;dsimp only [aB,aA];refine aC (gI (a.q.den:Int) b.q.num (by rw [Int.natAbs_natCast];omega)) rfl ?_;dsimp only [aB,aA];refine aC (pR _ _ (Int.mul_ne_zero (by omega) hnb) (by rw [Int.natAbs_mul,Int.natAbs_natCast];omega) (by rw [Int.natAbs_mul,Int.natAbs_natCast];omega)) rfl ?_;rw [HU hb0];exact aL rfl
theorem BM (a b:RQ) (A B:Nat) (ha:Fit A a.q) (hb:Fit B b.q) (h:A+B≤4294967296):aM prog 47 [(dE a:aF),(dE b:aF)] (.ret [.one (.int .i64 (lE a.q b.q))]):=by
 refine aD (args:=[.v (some 4), .v (some 4)]) (ins:=[.v (dE a), .v (dE b)]) (hints:=(fun _=>none)) fo (by kernel_rfl) func47 ⟨rfl,rfl,trivial⟩ ?_;rw [ZI];dsimp only [List.map,In.env,aB,aA];obtain ⟨ha1,ha2⟩:=Fit.bd ha;obtain ⟨hb1,hb2⟩:=Fit.bd hb;have hn1:=eC (bI ha.1 hb.2);have hn2:=eC (bI hb.1 ha.2);refine aC (iM b) rfl ?_;dsimp only [aB,aA];refine aC (gI a.q.num (b.q.den:Int) (by rw [Int.natAbs_natCast];omega)) rfl ?_;dsimp only [aB,aA];refine aC (iM a) rfl ?_;dsimp only [aB,aA];refine aC (gI b.q.num (a.q.den:Int) (by rw [Int.natAbs_natCast];omega)) rfl ?_;dsimp only [aB,aA];refine aC (Vz _ _ (by rw [Int.natAbs_mul,Int.natAbs_natCast];omega) (by rw [Int.natAbs_mul,Int.natAbs_natCast];omega)) rfl ?_;rw [←zM];exact aL rfl
end Go.Sy
