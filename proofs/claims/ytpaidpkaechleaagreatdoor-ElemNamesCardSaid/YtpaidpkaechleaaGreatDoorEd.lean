/- Part. -/
import Derived.Test.YtpaidpkaechleaaGreatDoorEc
import Derived.Test.YtpaidpkaechleaaGreatDoorCards
import Derived.Test.YtpaidpkaechleaaGreatDoorTie
import Derived.ProofKit
import Derived.OpenShut
import Derived.Deep.DeepHandedRow
import Derived.Deep.Strs
set_option linter.all false
namespace Go.Sy
open Go Go.Proofs Tryz Ord
theorem Tk:∀ k,k≤6→∀ n,n≤42→(QB k n).q=0→(QB k (n+1)).q≠0:=by decide +kernel
def gN (kind n:Nat):Nat:=if (QB kind n).q=0 then n+1 else n
theorem Oq {A:Nat} {q:Rat} (h:Fit A q):Fit A q.abs:=by
 unfold Rat.abs;split
 ·exact h
 ·exact h.neg
theorem kU {q:Rat}:q.num.sign=0↔q=0:=by rw [Int.sign_eq_zero_iff_zero,Rat.num_eq_zero]
open Go Go.Proofs Tryz Ord
open Go Go.Proofs Tryz Ord
def Qd:Tr:=.ret [(.agg [tN,(tE (.bool false)),tN,tN,(tE (.bool false)),tN]),(WK 3)]
def Nw:Tr:=.ret [(G6 14),(WK 0)]
def TA:Tr:=aI 17 [(G3 0)] [none] [31] [30] 3 true (aX .lss 3 32 0 12 0 4 (.split (.u 13 0) (aI 36 [(G3 0)] [(some 3)] [35] [30] 30 false (aI 35 [(G6 11),(G3 14),(W 1 0)] [(some 6)] [34,36,37] [81,30,3] 39 true (aI 37 [(G6 15)] [(some 6)] [38] [39] 39 true (.ret [(G6 16),(WK 0)])))) (aI 35 [(G6 11),(G3 0),(W 1 0)] [(some 6)] [40,41,42] [81,30,3] 39 true Nw)))
def TI:Tr:=aI 34 [(W 8 0)] [(some 6)] [29] [3] 81 true (aI 17 [(G3 0)] [none] [31] [30] 3 true (aX .lss 3 32 0 10 0 4 (.split (.u 11 0) (aI 36 [(G3 0)] [(some 3)] [35] [30] 30 false (aI 35 [(G6 9),(G3 12),(W 1 0)] [(some 6)] [34,36,37] [81,30,3] 39 true (aI 37 [(G6 13)] [(some 6)] [38] [39] 39 true Nw))) (aI 35 [(G6 9),(G3 0),(W 1 0)] [(some 6)] [40,41,42] [81,30,3] 39 true (.ret [(G6 12),(WK 0)])))))
def YX:Tr:=.split (.u 6 0) (aX .rem 3 22 2 1 0 3 (aX .eql 3 23 0 7 0 4 (.split (.u 8 0) (.ret [(.agg [tN,(tE (.bool false)),tN,tN,(tE (.bool false)),tN]),(WK 11)]) (.need (.prim [(W 2 0),(WK 256)] none) (.call ⟨.builtin .min,#[(tT 27),(.const (I3 256))],#[3,3]⟩) 3 false (.need (.prim [(WK 0),(W 9 0)] none) (.call ⟨.builtin .max,#[(.const (I3 0)),(tT 28)],#[3,3]⟩) 3 false (aI 34 [(W 10 0)] [(some 6)] [29] [3] 81 true TA)))))) (.need (.prim [(W 2 0),(WK 256)] none) (.call ⟨.builtin .min,#[(tT 27),(.const (I3 256))],#[3,3]⟩) 3 false (.need (.prim [(WK 0),(W 7 0)] none) (.call ⟨.builtin .max,#[(.const (I3 0)),(tT 28)],#[3,3]⟩) 3 false TI))
def YF:Tr:=aX .lss 3 10 1 1 0 4 (.split (.u 3 0) Qd (aX .gtr 3 13 64 1 0 4 (.split (.u 4 0) Qd (aI 17 [(G3 0)] [none] [18] [30] 3 false (aX .lss 3 19 0 5 0 4 YX)))))
theorem HS:aN prog f7 (fun _=>none) [.v (some 3), .v none, .v none]=YF:=by kernel_rfl
theorem tI:aE.Sub (.agg [.exact (.slice none 0 0), .bool false, .exact (.slice none 0 0), .exact (.slice none 0 0), .bool false, .exact (.slice none 0 0)]) (dK (0,0)):=⟨dJ.1,dJ.2.1,dJ.2.2.1,dJ.1,dJ.2.1,dJ.2.2.1,trivial⟩
theorem Jd {q:Rat}:q.num.sign<0↔q.num<0:=Int.sign_neg_iff
theorem Qq (k:Nat):Fit (k+2) (bZ k):=by
 have:=eA (a:=((1:Int):Rat)) (b:=aP k) (A:=1) (B:=k+1) (Fit.int (by omega) (by omega)) (nM k);exact this.mono (by omega)
theorem Lk (x:Rat) (n:Nat) (k:Int) (hx:x.num<0) (he:n%2=0) (hn1:1≤n:=by omega) (h64:n≤64:=by omega):aD prog 7 [(qT x:aE),(.one (.int .i64 n):aE),(.one (.int .i64 k):aE)] (.ret [dK (0,0), .one (.int .i64 11)]):=by
 refine bU func7 HS ?_;apply vn bA rfl;refine vs _ rfl ?_ ?_<;>intro h1
 ·exfalso;omega
 apply vn bJ rfl;refine vs _ rfl ?_ ?_<;>intro h4
 ·exfalso;omega
 apply aA (bB x) rfl;apply vn bA rfl;dsimp only [aF,aG];refine vs _ rfl ?_ ?_<;>intro h8
 ·apply vn (eU) rfl;apply vn aC rfl;refine vs _ rfl ?_ ?_<;>intro h11
  ·exact iG ⟨tI,aE.Sub.same,trivial⟩
  exfalso;omega
 exact absurd (Jd.2 hx) h8
theorem Qj (x:Rat) (n:Nat) (k:Int) (g r G A:Nat) (hg:gT (x*aP k.toNat^n)=(g:Int)) (hr:r^n≤g) (hr2:g<(r+1)^n) (hG:g<2^G) (hx0:0≤x.num) (hx:Fit A x) (hn1:1≤n:=by omega) (h64:n≤64:=by omega) (hk:k≤256:=by omega) (hA1:1≤A:=by omega) (hA:A≤10000000:=by omega) (hG2:G≤20000000:=by omega):aD prog 7 [(qT x:aE),(.one (.int .i64 n):aE),(.one (.int .i64 k):aE)] (.ret [dK (kF x n (bZ k.toNat) r), .one (.int .i64 0)]):=by
 refine bU func7 HS ?_;have hsg:¬ x.num.sign<0:=fun h=>by have:=Jd.1 h;omega
 apply vn bA rfl;refine vs _ rfl ?_ ?_<;>intro h1
 ·exfalso;omega
 apply vn bJ rfl;refine vs _ rfl ?_ ?_<;>intro h4
 ·exfalso;omega
 apply aA (bB x) rfl;apply vn bA rfl;dsimp only [aF,aG];refine vs _ rfl ?_ ?_<;>intro h8
 ·exact absurd h8 hsg
 apply vn NW rfl;apply vn Ti rfl;dsimp only [aF,aG];rw [show max (0:Int) (min k 256)=((k.toNat:Nat):Int) by omega];apply aA (lH k.toNat) rfl;apply aA (bB x) rfl;apply vn bA rfl;refine vs _ rfl ?_ ?_<;>intro h30
 ·exact absurd h30 hsg
 apply aA (lI x n (aP k.toNat) (bZ k.toNat) g r G A 300 hg hx ((nM _).mono (by omega)) ((Qq _).mono (by omega)) hr hr2 hG hA1 hA hG2 hn1 h64) rfl;exact aK rfl
theorem Rh (x:Rat) (n:Nat) (k:Int) (g r G A:Nat) (hg:gT (-x*aP k.toNat^n)=(g:Int)) (hr:r^n≤g) (hr2:g<(r+1)^n) (hG:g<2^G) (hx0:x.num<0) (hx:Fit A x) (hn1:1≤n:=by omega) (h64:n≤64:=by omega) (ho:n%2=1:=by omega) (hk:k≤256:=by omega) (hA1:1≤A:=by omega) (hA:A≤10000000:=by omega) (hG2:G≤20000000:=by omega):aD prog 7 [(qT x:aE),(.one (.int .i64 n):aE),(.one (.int .i64 k):aE)] (.ret [dK (uB (kF (-x) n (bZ k.toNat) r)), .one (.int .i64 0)]):=by
 refine bU func7 HS ?_;have hsg:x.num.sign<0:=Jd.2 hx0;apply vn bA rfl;refine vs _ rfl ?_ ?_<;>intro h1
 ·exfalso;omega
 apply vn bJ rfl;refine vs _ rfl ?_ ?_<;>intro h4
 ·exfalso;omega
 apply aA (bB x) rfl;apply vn bA rfl;dsimp only [aF,aG];refine vs _ rfl ?_ ?_<;>intro h8
 ·apply vn (eU) rfl;apply vn aC rfl;refine vs _ rfl ?_ ?_<;>intro h11
  ·exfalso;omega
  apply vn NW rfl;apply vn Ti rfl;dsimp only [aF,aG];rw [show max (0:Int) (min k 256)=((k.toNat:Nat):Int) by omega];apply aA (lH k.toNat) rfl;apply aA (bB x) rfl;apply vn bA rfl;refine vs _ rfl ?_ ?_<;>intro h18
  ·apply aA (lF x) rfl;dsimp only [aF,aG];apply aA (lI (-x) n (aP k.toNat) (bZ k.toNat) g r G A 300 hg hx.neg ((nM _).mono (by omega)) ((Qq _).mono (by omega)) hr hr2 hG hA1 hA hG2 hn1 h64) rfl;apply aA (mB _) rfl;exact aK rfl
  exact absurd hsg h18
 exact absurd hsg h8
open Go Go.Proofs Tryz Ord
def ZS:Tr:=aI 81 [(W 0 0),(G3 1)] [none] [9,10] [5,30] 40 true (aX .neq 40 12 0 3 0 4 (.split (.u 4 0) (.ret [(.agg [tN,(tE (.bool false)),tN,tN,(tE (.bool false)),tN]),(W 3 0)]) (aI 82 [(.agg [(U 0 0),(U 1 0),(U 1 1),(U 1 2)]),(W 2 0)] [(some 6)] [18,19] [122,3] 39 true (.ret [(G6 5),(WK 0)]))))
theorem Gu:aN prog f29 (fun _=>none) [.v none, .v (some 3), .v none]=ZS:=by kernel_rfl
def Xe:Tr:=aI 87 [(G4 0)] [(some 3),none] [8] [122] 127 false (.split (.u 3 0) (aI 124 [(G3 2),(W 1 0)] [(some 6)] [13,14] [30,3] 39 true (.ret [(G6 4)])) (aI 88 [(G4 0)] [none] [16] [122] 88 false (aI 38 [(W 4 0),(W 1 0)] [(some 6)] [17,18] [88,3] 39 true (.ret [(G6 5)]))))
theorem Gt:aN prog f82 (fun _=>none) [.v (some 4), .v none]=Xe:=by kernel_rfl
def WL:Tr:=.need (.call 81 [(.one (.c (.k (.int .u8 3)))),(G3 0)] [none]) (.call ⟨.value (.func 81),#[(.const (.int .u8 3)),(tT 5)],#[5,30]⟩) 40 true (aX .neq 40 7 0 1 0 4 (.split (.u 2 0) (.ret [(WK 0),(W 1 0)]) (aI 84 [(G3 0)] [none] [10] [30] 2 true (.ret [(W 3 0),(WK 0)]))))
theorem uK:aN prog f25 (fun _=>none) [.v (some 3)]=WL:=by kernel_rfl
def YU:Tr:=aI 30 [(W 0 0),(W 1 0)] [(some 3),none] [8,9] [2,2] 55 false (.ret [(G3 2)])
theorem ab9:aN prog f24 (fun _=>none) [.v none, .v none]=YU:=by kernel_rfl
def aa4:Tr:=aI 27 [(G3 0)] [none] [4] [30] 9 false (.need (.prim [(.one (.c (.k (.string ⟨#[91]⟩)))),(W 1 0)] none) (.binOp .add 9 (.const (.string ⟨#[91]⟩)) (tT 5) 9) 9 false (.need (.prim [(W 2 0),(.one (.c (.k (.string ⟨#[32]⟩))))] none) (.binOp .add 9 (tT 6) (.const (.string ⟨#[32]⟩)) 9) 9 false (aI 27 [(.agg [(U 0 3),(U 0 4),(U 0 5)])] [none] [9] [30] 9 false (cX .add 9 7 10 3 0 4 0 9 (.need (.prim [(W 5 0),(.one (.c (.k (.string ⟨#[93]⟩))))] none) (.binOp .add 9 (tT 11) (.const (.string ⟨#[93]⟩)) 9) 9 false (.ret [(W 6 0)]))))))
theorem NO:aN prog f26 (fun _=>none) [.v (some 6)]=aa4:=by kernel_rfl
def jN:Tr:=.ret [(tF false)]
def Vb:Tr:=.split (.u 20 0) (aX .eql 2 58 1 10 0 4 (.split (.u 21 0) (.need (.call 9 [(WK 6)] [(some 6)]) (.call ⟨.value (.func 9),#[(.const (I3 6))],#[3]⟩) 39 false (aI 26 [(G6 22)] [none] [62] [39] 9 false (.need (.prim [(W 23 0),(.one (.c (.k (.string ⟨#[91,50,48,49,47,54,52,32,49,48,49,47,51,50,93]⟩))))] none) (.binOp .eql 9 (tT 63) (.const (.string ⟨#[91,50,48,49,47,54,52,32,49,48,49,47,51,50,93]⟩)) 9) 4 false (.ret [(W 24 0)])))) jN)) jN
def Vg:Tr:=aI 26 [(G6 1)] [none] [44] [39] 9 false (.need (.prim [(W 16 0),(.one (.c (.k (.string ⟨#[91,52,51,47,49,54,32,49,49,47,52,93]⟩))))] none) (.binOp .eql 9 (tT 45) (.const (.string ⟨#[91,52,51,47,49,54,32,49,49,47,52,93]⟩)) 9) 4 false (.split (.u 17 0) (aI 26 [(G6 4)] [none] [49] [39] 9 false (.need (.prim [(W 18 0),(.one (.c (.k (.string ⟨#[91,51,47,50,32,51,47,50,93]⟩))))] none) (.binOp .eql 9 (tT 50) (.const (.string ⟨#[91,51,47,50,32,51,47,50,93]⟩)) 9) 4 false (.split (.u 19 0) (.need (.prim [(W 7 0),(.one (.c (.k (.string ⟨#[48,46,55,56,53,51,57,56,49,54,51,52]⟩))))] none) (.binOp .eql 9 (tT 54) (.const (.string ⟨#[48,46,55,56,53,51,57,56,49,54,51,52]⟩)) 9) 4 false Vb) jN))) jN))
def Zl:Tr:=.split (.u 12 0) (aX .eql 40 32 0 5 0 4 (.split (.u 13 0) (aX .eql 40 36 0 8 0 4 (.split (.u 14 0) (aX .eql 40 40 0 11 0 4 (.split (.u 15 0) Vg jN)) jN)) jN)) jN
def Yt:Tr:=.need (.call 24 [(WK 9),(WK 4)] [(some 3)]) (.call ⟨.value (.func 24),#[(.const (I3 9)),(.const (I3 4))],#[2,2]⟩) 30 false (.need (.call 29 [(.one (.c (.k (.int .u8 6)))),(G3 3),(WK 3)] [(some 6),none]) (.call ⟨.value (.func 29),#[(.const (.int .u8 6)),(tT 15),(.const (I3 3))],#[5,30,3]⟩) 41 false (.need (.call 22 [(WK 1)] [(some 3)]) (.call ⟨.value (.func 22),#[(.const (I3 1))],#[2]⟩) 30 false (.need (.call 28 [(.one (.c (.k (.int .u8 5)))),(G3 6),(WK 10)] [none,none]) (.call ⟨.value (.func 28),#[(.const (.int .u8 5)),(tT 20),(.const (I3 10))],#[5,30,3]⟩) 73 false (.need (.call 22 [(WK 3)] [(some 3)]) (.call ⟨.value (.func 22),#[(.const (I3 3))],#[2]⟩) 30 false (aI 25 [(G3 9)] [none,none] [25] [30] 68 false (aX .eql 40 29 0 2 0 4 Zl))))))
def ZO:Tr:=.need (.call 22 [(WK 1)] [(some 3)]) (.call ⟨.value (.func 22),#[(.const (I3 1))],#[2]⟩) 30 false (.need (.call 29 [(.one (.c (.k (.int .u8 1)))),(G3 0),(WK 4)] [(some 6),none]) (.call ⟨.value (.func 29),#[(.const (.int .u8 1)),(tT 10),(.const (I3 4))],#[5,30,3]⟩) 41 false Yt)
theorem QZ:aN prog f12 (fun _=>none) []=ZO:=by kernel_rfl
def ML (a b:Rat):List UInt8:=(([91]++zZ a) ++ [32])++zZ b ++ [93]
theorem Kk {q:Rat} {H:Nat} (h:Fit H q):(zZ q).length≤2*H+16:=by
 have h1:=gW h.1;have h2:=gW h.2;unfold zZ ao9;rw [eF,eF];split<;>split<;>simp <;> omega
abbrev ag2 (q:Rat):Prop:=Fit 64 q∧q.num.natAbs≠0∧q.num.natAbs<1000000000∧q.den<1000000000
theorem nV (a b:Rat) (ha:ag2 a) (hb:ag2 b):aD prog 26 [(gF a b:aE)] (.ret [bS (ML a b)]):=by
 refine bU func26 NO ?_;have h1:=Kk ha.1;have h2:=Kk hb.1;apply aA (iW a ha.1 ha.2.1 ha.2.2.1 ha.2.2.2) rfl;apply vn (eR (a:=[91]) (by simp only [List.length_cons,List.length_nil];omega)) rfl;apply vn (eR (b:=[32]) (by simp only [eF,List.length_cons,List.length_nil];omega)) rfl;apply aA (iW b hb.1 hb.2.1 hb.2.2.1 hb.2.2.2) rfl;dsimp only [aF,aG];apply vn (eR (by simp only [eF,List.length_cons,List.length_nil];omega)) rfl;apply vn (eR (b:=[93]) (by simp only [eF,List.length_cons,List.length_nil];omega)) rfl;exact aK rfl
theorem Ru (n d:Int) (h1:-9223372036854775808≤n:=by omega) (h2:n<9223372036854775808:=by omega) (h3:-9223372036854775808≤d:=by omega) (h4:d<9223372036854775808:=by omega):aD prog 24 [(.one (.int .i64 n):aE),(.one (.int .i64 d):aE)] (.ret [qT (aZ n d)]):=by
 refine bU func24 ab9 ?_
 have e:(if d=0 then (0:Rat) else (n:Rat)/(d:Rat))=aZ n d:=by
  unfold aZ;by_cases h:d=0
  ·subst h;rfl
  ·rw [if_neg h,if_neg fun e=>h (Rat.intCast_inj.1 (e.trans Rat.intCast_zero.symm))]
 apply aA (aw1 n d h1 h2 h3 h4) rfl;rw [e];exact aK rfl
def e1V:Rat×Rat:=Gz (aP 32) (bZ 32) (pC (aP 32) (bZ 32) (((1:Int):Rat),((1:Int):Rat)) 9) (pC (aP 32) (bZ 32) (((1:Int):Rat)-((1:Int):Rat),((1:Int):Rat)-((1:Int):Rat)) 1) 1
theorem Pg (i:Nat) (hi:i≤0):aD prog 130 ([gF (aP (32*2^i)) (bZ (32*2^i))] ++ [aL.bI (.int .u8 ((1:Nat):Int)::qC ((1:Int):Rat))].map .one) (.ret [dK ((fun _=>e1V) i)]):=by
 obtain rfl:i=0:=by omega
 exact cH (aP 32) (bZ 32) 1 ((1:Int):Rat) e1V 166 rfl (jQ (aP 32) (bZ 32) 1 9 100 UU Vp)
theorem au9:aD prog 38 [.one (.dZ 105 [.bI [.dZ 130 [.bI (.int .u8 ((1:Nat):Int)::qC ((1:Int):Rat))]]]), .one (.int .i64 4)] (.ret [dK (43/16,11/4)]):=by
 have h:=kO 130 [.bI (.int .u8 ((1:Nat):Int)::qC ((1:Int):Rat))] (fun _=>e1V) 0 (by omega) Pg 4 (by omega) (fun i hi=>(by decide +kernel:Fit 4000 e1V.1∧Fit 4000 e1V.2)) (fun i hi=>absurd hi (by omega)) (by decide +kernel)
 rwa [show rC (fun _=>e1V) 4 0=(43/16,11/4) by decide +kernel] at h
theorem aj6  :aD prog 82 [(.agg (.int .u8 1::qC ((1:Int):Rat)):aE),(.one (.int .i64 4):aE)] (.ret [dK (43/16,11/4)]):=by
 refine bU func82 Gt ?_;apply aA Le rfl;refine aQ false rfl (fun h=>by cases h) (fun _=>?_);apply aA (eC 1 ((1:Int):Rat)) rfl;apply aA au9 rfl;exact aK rfl
theorem ac7  :aD prog 82 [(.agg (.int .u8 6::qC (aZ ((9:Int):Rat) ((4:Int):Rat))):aE),(.one (.int .i64 3):aE)] (.ret [dK (3/2,3/2)]):=by
 refine bU func82 Gt ?_;apply aA QG rfl;refine aQ true rfl (fun _=>?_) (fun h=>by cases h);have h:=Ng (3/2) 3 8 (by decide +kernel);rw [show fK (3/2) (3:Int).toNat=3/2 by decide +kernel,show EA (3/2) (3:Int).toNat=3/2 by decide +kernel] at h;apply aA h rfl;exact aK rfl
theorem ah0  :aD prog 29 [(.one (.int .u8 1):aE),(qT ((1:Int):Rat):aE),(.one (.int .i64 4):aE)] (.ret [dK (43/16,11/4), .one (.int .i64 0)]):=by
 refine bU func29 Gu ?_;apply aA Lm rfl;apply vn dE rfl;refine vs _ rfl ?_ ?_<;>intro h2
 ·exact absurd rfl h2
 apply aA aj6 rfl;exact aK rfl
theorem ae2  :aD prog 29 [(.one (.int .u8 6):aE),(qT (aZ ((9:Int):Rat) ((4:Int):Rat)):aE),(.one (.int .i64 3):aE)] (.ret [dK (3/2,3/2), .one (.int .i64 0)]):=by
 refine bU func29 Gu ?_;apply aA Qa rfl;apply vn dE rfl;refine vs _ rfl ?_ ?_<;>intro h2
 ·exact absurd rfl h2
 apply aA ac7 rfl;exact aK rfl
def OL:Nat→Rat×Rat
 | 0=>atV (aP 32) (bZ 32) ((1:Int):Rat) 9 14
 | _=>atV (aP 64) (bZ 64) ((1:Int):Rat) 19 29
theorem ap7:cR (aP 64) (bZ 64) (We (aP 64) (bZ 64) 1) true 19 300:=⟨by decide +kernel,by decide +kernel,by decide +kernel,by decide +kernel,by decide +kernel,by decide +kernel,by omega,by omega⟩
theorem an0:cR (aP 64) (bZ 64) (rU,rU) true 29 300:=⟨by decide +kernel,by decide +kernel,by decide +kernel,by decide +kernel,by decide +kernel,by decide +kernel,by omega,by omega⟩
theorem Mk (i:Nat) (hi:i≤1):aD prog 130 ([gF (aP (32*2^i)) (bZ (32*2^i))] ++ [aL.bI (.int .u8 ((5:Nat):Int)::qC ((1:Int):Rat))].map .one) (.ret [dK (OL i)]):=by
 match i,hi with
 | 0,_=>exact cH (aP 32) (bZ 32) 5 ((1:Int):Rat) (OL 0) 172 rfl (qA (aP 32) (bZ 32) ((1:Int):Rat) 9 14 300 (by decide +kernel) (by decide +kernel) (by decide +kernel) ax8 ar5)
 | 1,_=>exact cH (aP 64) (bZ 64) 5 ((1:Int):Rat) (OL 1) 172 rfl (qA (aP 64) (bZ 64) ((1:Int):Rat) 19 29 300 (by decide +kernel) (by decide +kernel) (by decide +kernel) ap7 an0)
theorem ar2:aD prog 28 [.one (.int .u8 ((5:Nat):Int)),qT ((1:Int):Rat), .one (.int .i64 10)] (.ret [bS [48,46,55,56,53,51,57,56,49,54,51,52], .one (.int .i64 0)]):=by
 refine Hc 5 ((1:Int):Rat) 0 10 OL 1 _ Mk SK Tm (fun i hi=>?_) ?_
 ·obtain rfl:i=0:=by omega
  have hd:=rE (OL 0) 10 300 (by decide +kernel) (by decide +kernel) (by decide +kernel) (by decide +kernel) (by decide +kernel);rw [show decide (oZ ((OL 0).1*gH 10)=oZ ((OL 0).2*gH 10))=false by decide +kernel] at hd;exact ⟨_,hd⟩
 ·have hd:=rE (OL 1) 10 300 (by decide +kernel) (by decide +kernel) (by decide +kernel) (by decide +kernel) (by decide +kernel);rw [show decide (oZ ((OL 1).1*gH 10)=oZ ((OL 1).2*gH 10))=true by decide +kernel,show (if oZ ((OL 1).1*gH 10)=oZ ((OL 1).2*gH 10) then Rl (oZ ((OL 1).1*gH 10)).natAbs 10 else []) = [48,46,55,56,53,51,57,56,49,54,51,52] by decide +kernel] at hd;exact hd
theorem Wb:gT (aZ ((3:Int):Rat) (rY (JM 0)).1)=1∧gT (aZ ((3:Int):Rat) (rY (JM 0)).2)=1:=by decide +kernel
theorem MA  :aD prog 25 [(qT ((3:Int):Rat):aE)] (.ret [.one (.int .i64 1), .one (.int .i64 0)]):=by
 refine bU func25 uK ?_;apply aA Sz rfl;apply vn dE rfl;refine vs _ rfl ?_ ?_<;>intro h2
 ·exact absurd rfl h2
 apply aA (Di ((3:Int):Rat) 1 (by decide +kernel) (kM 1) Wb.1 Wb.2) rfl;exact aK rfl
theorem pi6:rC JM 6 (Yq (6:Int).toNat)=(201/64,101/32):=by decide +kernel
theorem Sw  :aD prog 12 [] (.ret [.one (.bool true)]):=by
 refine bM (args:=[]) (ins:=[]) (hints:=(fun _=>none)) fo (by kernel_rfl) func12 trivial ?_;rw [QZ];dsimp only [List.map,In.env,aF,aG];apply aA (aY 1) rfl;apply aA ah0 rfl;apply aA (Ru 9 4) rfl;apply aA ae2 rfl;dsimp only [aF,aG];apply aA (aY 1) rfl;apply aA ar2 rfl;apply aA (aY 3) rfl;apply aA MA rfl;dsimp only [aF,aG];apply vn aC rfl;refine vs _ rfl ?_ ?_<;>intro h9
 ·apply vn aC rfl;refine vs _ rfl ?_ ?_<;>intro h11
  ·apply vn aC rfl;refine vs _ rfl ?_ ?_<;>intro h13
   ·apply vn aC rfl;dsimp only [aF,aG];refine vs _ rfl ?_ ?_<;>intro h15
    ·apply aA (nV (43/16) (11/4) (by decide +kernel) (by decide +kernel)) rfl;rw [show ML (43/16) (11/4) = [91,52,51,47,49,54,32,49,49,47,52,93] by decide +kernel];apply vn (Hq (b:=[91,52,51,47,49,54,32,49,49,47,52,93])) rfl;refine vs _ rfl ?_ ?_<;>intro h18
     ·apply aA (nV (3/2) (3/2) (by decide +kernel) (by decide +kernel)) rfl;rw [show ML (3/2) (3/2) = [91,51,47,50,32,51,47,50,93] by decide +kernel];apply vn (Hq (b:=[91,51,47,50,32,51,47,50,93])) rfl;dsimp only [aF,aG];refine vs _ rfl ?_ ?_<;>intro h21
      ·apply vn (Hq (b:=[48,46,55,56,53,51,57,56,49,54,51,52])) rfl;refine vs _ rfl ?_ ?_<;>intro h23
       ·apply vn aC rfl;refine vs _ rfl ?_ ?_<;>intro h25
        ·have hp:=aj7 6;rw [pi6] at hp;apply aA hp rfl;apply aA (nV (201/64) (101/32) (by decide +kernel) (by decide +kernel)) rfl;rw [show ML (201/64) (101/32) = [91,50,48,49,47,54,52,32,49,48,49,47,51,50,93] by decide +kernel];dsimp only [aF,aG];apply vn (Hq (b:=[91,50,48,49,47,54,52,32,49,48,49,47,51,50,93])) rfl;exact aK rfl
        exact (h25 (by decide)).elim
       exact (h23 (by decide)).elim
      exact (h21 (by decide)).elim
     exact (h18 (by decide)).elim
    exact (h15 (by decide)).elim
   exact (h13 (by decide)).elim
  exact (h11 (by decide)).elim
 exact (h9 (by decide)).elim
open Go Go.Proofs Go.RowKit Go.ChangeShapes Go.WideShapes Tryz
theorem ax5 {M:Nat→Prop} {w:World} {c:aL} {vs:List Value} (h:bR M w [.one c] vs):∃ v,pack vs=v∧c.rep M w v:=by
 match vs,h with
 | [v],h=>exact ⟨v,rfl,h.1⟩
 | [],h=>exact h.elim
 | _::_::_,h=>exact h.2.elim
section
variable {H:Type} {enc:TypeId×Value→H} {P:Program}
def Wd (P:Program) (t:TypeId) (d:DataW H):Prop:=∀ n∈DataW.weights P t d,n≤reachBytes
theorem IJ:∀ {ts:List TypeId} {ds:List (DataW H)} {j:Nat} {t:TypeId} {d:DataW H},ts[j]? = some t→ds[j]? = some d→∀ n∈DataW.weights P t d,n∈DataW.weightsEach P ts ds:=fun h1 h2=>DataW.weights_mem_each h1 h2
theorem Wd.field {t:TypeId} {fs:Array Field} {parts:List (DataW H)} (ht:P.underlying t=some (.struct fs)) (h:Wd P t (.agg parts)) {j:Nat} {f:Field} {d:DataW H} (hf:fs[j]? = some f) (hd:parts[j]? = some d):Wd P f.type d:=fun n hn=>by
 refine h n ?_;rw [DataW.weights,ht];exact IJ (ts:=fs.toList.map (·.type)) (by rw [eX,Array.getElem?_toList,hf];rfl) hd n hn
theorem Wd.len {t e:TypeId} {es sp:List (DataW H)} (ht:P.underlying t=some (.slice e)) (h:Wd P t (.slice es sp)) (hb:0<P.bytesOf e):es.length≤reachBytes:=by
 have:=h ((es.length+sp.length)*P.bytesOf e) (by rw [DataW.weights,ht];exact List.mem_cons_self);have h2:(es.length+sp.length)*1≤(es.length+sp.length)*P.bytesOf e:=Nat.mul_le_mul_left _ hb;omega
abbrev noM:Nat→Prop:=fun _=>False
end
section
variable {H:Type} {enc:TypeId×Value→H}
end
section
variable {H:Type} {enc:TypeId×Value→H} {P:Program}
theorem oD (hl:laidOutB P=true) {W W':World} {sp':Nat→Bool}:∀ {ts:List TypeId} {vs:List Value} {ds:List (DataW H)} {ps:List MemPlace},(∀ t∈ts,P.readableRec t=true∧t<P.types.size) →
  DataW.TrodAll enc P W 0 (fun _=>true) true ts vs ds ps→(∀ p∈ps,W.sameAt W' p)→(∀ p∈ps,sp' p.block=true)→DataW.TrodAll enc P W' 0 sp' true ts vs ds ps
 | [],[],[],_,_,h,_,_=>h
 | t::ts,v::vs,d::ds,_,hr,h,h1,h2=>by
   obtain ⟨p,q,k1,k2,rfl⟩:=h;refine ⟨p,q,WideElems.Trod_stays hl (hr t (by simp)).1 (hr t (by simp)).2 k1 (fun x hx=>h1 x (by simp [hx])) (fun x hx=>h2 x (by simp [hx])),oD hl (fun t ht=>hr t (List.mem_cons_of_mem _ ht)) k2 (fun x hx=>h1 x (by simp [hx])) (fun x hx=>h2 x (by simp [hx])),rfl⟩
 | [],_::_,_,_,_,h,_,_=>h.elim
 | [],[],_::_,_,_,h,_,_=>h.elim
 | _::_,[],_,_,_,h,_,_=>h.elim
 | _::_,_::_,[],_,_,h,_,_=>h.elim
theorem Mm {f:Func} {s:ChangeSpec} {apart fresh handsOn again:Bool} {W W':World} {args:Array Value} {ds gs:List (DataW H)} {before:List MemPlace} {T:TypeId}
  (hl:laidOutB P=true) (hts:∀ t∈f.params.toList,P.readableRec t=true∧t<P.types.size) (hvars:s.vars = [])
  (hW:DataW.Whole enc P f.params.toList s.vars apart W args.toList ds gs before) (hres:(s.fn H (ds++gs)).results = [.lit (.bool true)]) (hargs:(s.fn H (ds++gs)).args=ds) (hvs:(s.fn H (ds++gs)).vars = [])
  (hb:Below W.heap.size W W') (hrt:f.resultTypes = #[T]) (hT:P.underlying T=some .bool) :
  s.post enc P f apart fresh handsOn again W args (.bool true) W':=by
 have hlt:∀ p∈before,p.block<W.heap.size:=fun p hp=>hW.lt p hp;have hsame:∀ p∈before,W.sameAt W' p:=fun p hp=>hb.same (hlt p hp);obtain ⟨p,q,hA,hV,hps,hz,hn⟩:=hW;have hW:DataW.Whole enc P f.params.toList s.vars apart W args.toList ds gs before:=⟨p,q,hA,hV,hps,hz,hn⟩
 rw [hvars] at hV;obtain ⟨rfl,rfl⟩:=trodVars_none hV;rw [List.append_nil] at hps;subst hps;have ha:∀ sp:Nat→Bool,(∀ p∈before,sp p.block=true)→DataW.TrodAll enc P W' 0 sp true f.params.toList args.toList ds before:=fun sp h=>oD hl hts hA hsame h
 have hr:∀ (b:Nat) (sp:Nat→Bool) (hd:Bool),DataW.TrodAll enc P W' b sp hd f.resultTypes.toList ((Value.bool true).resultList f.resultTypes.size) [.lit (.bool true)] []:=fun b sp hd=>by
  rw [hrt];exact trodAll_mk1 (shut_bool hT true)
 have hold:∀ p∈before,(fun b=>decide (b<W.heap.size)) p.block=true:=fun p hp=>by simpa using hlt p hp
 refine ⟨ds,[],before,[],before,[],hW,?_,?_,?_,hb.frame _,fun _=>⟨?_,_,[],before,⟨[]++before,[],trodAll_append (ha (fun _=>true) (fun _ _=>rfl)) (hr 0 (fun _=>true) true),?_,by simp,?_,?_⟩,fun p hp _=>hp⟩⟩
 ·rw [hres];exact hr _ _ _
 ·rw [hargs];exact ha _ hold
 ·rw [hvars,hvs];rfl
 ·exact ok_one hrt rfl (okWide_bool_mk hT true)
 ·rw [hvars];exact (rfl:DataW.TrodVars enc P W' (fun _=>true) [] [] [])
 ·intro b off hp;rw [hb.frozen (p:=⟨b,off,none⟩) (hlt _ hp)];exact hz b off hp
 ·exact hn
end
theorem IK {W:World} {l:List (String×DataW Unit)} (hl:l.filter (fun x=>x.1 == "internal/strconv.uint64pow10") = [("internal/strconv.uint64pow10",Lib.tabData .u64 Lib.pow10Tab)]) (h:laidMetH prog l W):Good noM W:=by
 have h1:=h.filter (fun x=>x.1 == "internal/strconv.uint64pow10");rw [hl] at h1;have h2:laidMet prog [("internal/strconv.uint64pow10",Lib.tabData .u64 Lib.pow10Tab)] W:=h1;intro x hx;have hx:x=(0,AL):=by simpa [Ty.tab] using hx
 subst hx;have hg:prog.globalNamed "internal/strconv.uint64pow10" = some 0:=by kernel_rfl
 have ht:=Lib.tabIs_of_head (rest:=[]) hg (by kernel_rfl:(prog.globals[0]?).map (·.type)=some 222) underlying222 underlying153 (by kernel_rfl) (by kernel_rfl) h2;unfold Lib.TabIs World.var? at ht;rw [hg] at ht;dsimp only [Option.bind_some] at ht;refine ⟨fun h=>h,?_⟩;split at ht
 ·rename_i cs T fz he;cases ht;exact ⟨T,fz,he⟩
 ·cases ht
end Go.Sy
