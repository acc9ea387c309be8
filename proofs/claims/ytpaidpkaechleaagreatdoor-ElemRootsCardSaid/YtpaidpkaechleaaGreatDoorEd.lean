/- Part. -/
import Derived.Test.YtpaidpkaechleaaGreatDoorEc
import Derived.Test.YtpaidpkaechleaaGreatDoorCards
import Derived.Test.YtpaidpkaechleaaGreatDoorTie
import Derived.ProofKit
import Derived.OpenShut
import Derived.Deep.DeepHandedRow
import Derived.Deep.Strs
set_option linter.all false
namespace Go.Sy
open Go Go.Proofs Tryz Ord
open Go Go.Proofs Tryz Ord
def Sn:Tr:=.ret [(G2 0)]
theorem TI:aI prog f55 (fun _=>none) [.v (some 4)]=Sn:=by kernel_rfl
def Sm:Tr:=aC 50 [(G4 0)] [(some 2)] [3] [35] 33 true (.ret [(G2 1)])
theorem Ub:aI prog f57 (fun _=>none) [.v (some 4)]=Sm:=by kernel_rfl
def QA:Tr:=.need (.call 59 [(WK 1)] [(some 2)]) (.call ⟨.value (.func 59),#[(.const (I3 1))],#[2]⟩) 33 true (.ret [(.agg [(U 0 0),(U 0 1),(U 1 0),(U 1 1)])])
theorem LF:aI prog f63 (fun _=>none) [.v (some 2)]=QA:=by kernel_rfl
def Qy:Tr:=aC 52 [(.agg [(U 0 4),(U 0 5),(U 0 6),(U 0 7)])] [(some 4)] [4] [35] 35 false (aC 52 [(G4 0)] [(some 4)] [7] [35] 35 true (.ret [(.agg [(U 1 0),(U 1 1),(U 1 2),(U 1 3),(U 2 0),(U 2 1),(U 2 2),(U 2 3)])]))
theorem Ny:aI prog f51 (fun _=>none) [.v (some 8)]=Qy:=by kernel_rfl
def MI:Tr:=.need (.call 59 [(WK 2)] [(some 2)]) (.call ⟨.value (.func 59),#[(.const (I3 2))],#[2]⟩) 33 false (aC 58 [(G2 30),(G2 31)] [(some 2),(some 2)] [62,63] [33,33] 106 false (aC 56 [(G2 32),(W 1 0)] [(some 2)] [67,68] [33,3] 33 false (aC 60 [(G2 34),(G2 11)] [none] [69,70] [33,33] 3 true (aN .leq 3 71 0 35 0 4 (.split (.u 36 0) (.back 0 [lV 32 0,lV 32 1,lV 24 0,lV 25 0]) (.back 0 [lV 22 0,lV 23 0,lV 32 0,lV 32 1]))))))
def NS:Tr:=aC 57 [(G4 0)] [(some 2)] [82] [35] 33 false (aC 54 [(G2 32),(G2 33)] [(some 2)] [81,83] [33,33] 33 false (aC 60 [(G2 34),(G2 9)] [none] [84,85] [33,33] 3 true (aN .eql 3 86 0 35 0 4 (.split (.u 36 0) (aC 64 [(G4 31)] [(some 8)] [88] [35] 46 true (.ret [(G8 37)])) (aC 44 [(G4 31),(G4 5)] [(some 4)] [91,92] [35,35] 35 true (.ret [(.agg [(U 31 0),(U 31 1),(U 31 2),(U 31 3),(U 37 0),(U 37 1),(U 37 2),(U 37 3)])]))))))
def Oi:Tr:=.need (.call 59 [(WK 1)] [(some 2)]) (.call ⟨.value (.func 59),#[(.const (I3 1))],#[2]⟩) 33 false (aC 60 [(G2 26),(G2 27)] [none] [55,56] [33,33] 3 true (aN .gtr 3 57 0 28 0 4 (.split (.u 29 0) (aC 61 [(.agg [(U 22 0),(U 23 0)]),(.agg [(U 24 0),(U 25 0)])] [(some 2)] [60,61] [33,33] 33 false MI) (aC 63 [(.agg [(U 22 0),(U 23 0)])] [(some 4)] [75] [33] 35 false (aC 33 [(G4 30),(G4 5)] [(some 4)] [76,77] [35,35] 35 true (aC 56 [(.agg [(U 22 0),(U 23 0)]),(W 1 0)] [(some 2)] [79,80] [33,3] 33 false NS))))))
def OJ:Tr:=.loop 0 [lV 13 0,lV 13 1,lV 14 0,lV 14 1] (aC 56 [(.agg [(U 17 0),(U 18 0)]),(W 1 0)] [(some 2)] [43,44] [33,3] 33 false (aC 60 [(G2 19),(G2 11)] [none] [45,46] [33,33] 3 true (aN .leq 3 47 0 20 0 4 (.split (.u 21 0) (aC 61 [(.agg [(U 17 0),(U 18 0)]),(.agg [(U 17 0),(U 18 0)])] [(some 2)] [50,51] [33,33] 33 true (.back 0 [lV 17 0,lV 18 0,lV 22 0,lV 22 1])) (.loop 0 [lV 15 0,lV 16 0,lV 17 0,lV 18 0] (aC 62 [(.agg [(U 24 0),(U 25 0)]),(.agg [(U 22 0),(U 23 0)])] [(some 2)] [53,54] [33,33] 33 false Oi))))))
def Rt:Tr:=aC 57 [(G4 5)] [(some 2)] [29] [35] 33 false (aC 56 [(G2 7),(W 1 0)] [(some 2)] [30,31] [33,3] 33 true (aC 54 [(G2 6),(G2 8)] [(some 2)] [28,32] [33,33] 33 true (aC 57 [(G4 0)] [(some 2)] [36] [35] 33 false (aC 58 [(G2 9),(G2 10)] [(some 2),(some 2)] [35,37] [33,33] 106 false (.need (.call 59 [(WK 0)] [(some 2)]) (.call ⟨.value (.func 59),#[(.const (I3 0))],#[2]⟩) 33 true (.need (.call 59 [(WK 1)] [(some 2)]) (.call ⟨.value (.func 59),#[(.const (I3 1))],#[2]⟩) 33 true OJ))))))
def Um:Tr:=aC 11 [(G4 0)] [none] [16] [35] 3 true (aN .lss 3 17 0 3 0 4 (.split (.u 4 0) (aC 52 [(G4 0)] [(some 4)] [19] [35] 35 false (aC 14 [(G4 5),(W 1 0),(W 2 0)] [(some 8)] [20,21,22] [35,3,3] 46 true (aC 51 [(G8 6)] [(some 8)] [23] [46] 46 true (.ret [(G8 7)])))) (aC 53 [(W 2 0)] [(some 4)] [25] [3] 35 true (aC 55 [(G4 0)] [(some 2)] [27] [35] 33 false Rt))))
theorem FI:aI prog f14 (fun _=>none) [.v (some 4), .v none, .v none]=Um:=by kernel_rfl
theorem SX (a:RQ):aJ prog 55 [(jO a:aD)] (.ret [zT a.q.num]):=by
 refine bO func55 TI ?_;exact aE rfl
theorem Fg (a:RQ):aJ prog 57 [(jO a:aD)] (.ret [zT (a.q.den:Int)]):=by
 refine bO func57 Ub ?_;apply aA (fG a) rfl;exact aE rfl
theorem Nn (a b:RQ):aJ prog 51 [(fI a b:aD)] (.ret [fI (.of (-b.q)) (.of (-a.q))]):=by
 refine bO func51 Ny ?_;apply aA (rP b) rfl;apply aA (rP a) rfl;exact aE rfl
theorem MC (z:Int):aJ prog 63 [(zT z:aD)] (.ret [jO (.of (z:Rat))]):=by
 refine bO func63 LF ?_;apply aA (dI 1) rfl;exact aE rfl
theorem OF (k:Nat):(mkRat 1 (2^k)).den=2^k:=by
 have h:mkRat 1 (2^k)=(((2^k:Nat):Rat))⁻¹:=by rw [Rat.mkRat_eq_div,Rat.div_def,Rat.intCast_one,Rat.one_mul]
 rw [h,Rat.den_inv];have h2:(((2^k:Nat):Rat)).num=((2^k:Nat):Int):=rfl;rw [h2];have:0<2^k:=Nat.pow_pos (by omega);split<;>omega
theorem Bv {a b:Int}:cR a b≤0↔a≤b:=by
 unfold cR;split
 ·constructor<;>omega
 ·split<;>constructor<;>omega
theorem gW {l G:Nat} (h:l<2^G:=by omega):(bd ((l:Int)).natAbs).length≤G:=cN (by simpa using h)
theorem jD (l n:Nat):((l:Int))^n=((l^n:Nat):Int):=by rw [Int.natCast_pow]
def nD (x:RQ) (n k r g0:Nat):RQ×RQ:=if ((r^n:Nat):Int)*(x.q.den:Int)=x.q.num*(((2^k)^n:Nat):Int) then (.of (((r:Int):Rat)*mkRat 1 (2^k)), .of (((r:Int):Rat)*mkRat 1 (2^k))) else (.of (((r:Int):Rat)*mkRat 1 (2^k)), .of (((r:Int):Rat)*mkRat 1 (2^k)+mkRat 1 (2^k)))
set_option maxHeartbeats 1000000 in
theorem Kq (x:RQ) (n:Nat) (k:Int) (g r G A:Nat) (hx0:0≤x.q.num) (hg:x.q.num*(((2^k.toNat)^n:Nat):Int)/(x.q.den:Int)=(g:Int)) (hr:r^n≤g) (hr2:g<(r+1)^n) (hG:g<2^G) (hn1:1≤n) (hn:n≤64) (hx:Fit A x.q) (hG2:G≤10000000:=by omega) (hk:k≤256:=by omega) (hA:A≤10000000:=by omega):aJ prog 14 [(jO x:aD),(.one (.int .i64 n):aD),(.one (.int .i64 k):aD)] (.ret [fI (nD x n k.toNat r 0).1 (nD x n k.toNat r 0).2]):=by
 refine bO func14 FI ?_;have hrg:r≤g:=Nat.le_trans (Nat.le_self_pow (by omega) r) hr;have hgG:((2^(G+2):Nat))=4*2^G:=by rw [Nat.pow_add];omega
 have hlt:∀ h:Nat,h≤2*r+1→h<2^(G+2):=fun h hh=>by omega
 have hGn:(G+2)*n≤640000128:=Nat.mul_le_mul (show G+2≤10000002 by omega) hn;have hGn1:(G+2)*1≤(G+2)*n:=Nat.mul_le_mul_left _ hn1
 have hpw:∀ h:Nat,h≤2*r+1→∀ j,j≤n→(bd (((h:Int))^j).natAbs).length≤(G+2)*n+1:=fun h hh j hj=>by
  rw [jD];refine Nat.le_trans (gW (fD (hlt h hh))) ?_;have:=Nat.mul_le_mul_left (G+2) hj;omega
 have hgb:(bd ((g:Int)).natAbs).length≤G+2:=gW;have hit:∀ h:Nat,cR ((h:Int)^n) (g:Int)≤0↔h≤r:=fun h=>by rw [jD,Bv,Int.ofNat_le];exact DF hn1 hr hr2
 have hk2:k.toNat≤256:=by omega
 have hkn:k.toNat*n≤256*64:=Nat.mul_le_mul hk2 hn
 have h2k:∀ j,j≤n→(bd (((2^k.toNat:Nat):Int)^j).natAbs).length≤20000:=fun j hj=>by
  rw [jD];obtain ⟨B,hB⟩:∃ B,B=257:=⟨_,rfl⟩
  obtain ⟨C,hC⟩:∃ C,C=20000:=⟨_,rfl⟩
  rw [←hC];refine gW (G:=C) ?_;have h1:2^k.toNat<2^B:=Nat.pow_lt_pow_right (by omega) (by omega);have h2:=fD (n:=j) h1;exact Nat.lt_of_lt_of_le h2 (Nat.pow_le_pow_right (by omega) (by have:=Nat.mul_le_mul_left B (show j≤64 by omega);omega))
 obtain ⟨hxn,hxd⟩:=Fit.bd hx;have hz:=h2k n (bQ _)
 have hzm:(bd (x.q.num*(((2^k.toNat)^n:Nat):Int)).natAbs).length≤A+20000:=by
  refine cN ?_;rw [Int.natAbs_mul];obtain ⟨C,hC⟩:∃ C,C=20000:=⟨_,rfl⟩
  rw [←hC];refine aX hx.1 ?_;rw [Int.natAbs_natCast,←Nat.pow_mul];exact Nat.pow_lt_pow_right (by omega) (by omega)
 apply aA (jV x) rfl;apply vn bA rfl;refine vs _ rfl ?_ ?_<;>intro h2
 ·exact absurd (Int.sign_neg_iff.1 h2) (by omega)
 apply aA (Ol k hk) rfl;apply aA (SX x) rfl;dsimp only [aG,aH];apply aA (Fg (.of (mkRat 1 (2^k.toNat)))) rfl;rw [RQ.rX,OF];apply aA (iU ((2^k.toNat:Nat):Int) n 20000 h2k (by have:=h2k 1 hn1;rwa [Int.pow_one] at this)) rfl;rw [jD];apply aA (eG x.q.num (((2^k.toNat)^n:Nat):Int) (by rw [jD] at hz;omega)) rfl;apply aA (Fg x) rfl;dsimp only [aG,aH];apply aA (sC _ x.q.den x.q.den_pos) rfl;rw [hg];apply aA (dI 0) rfl;apply aA (dI 1) rfl;refine bE {p:Nat×Nat // p.1≤r∧p.1<p.2∧p.2≤2*r+1} (fun g=>(zC (g.1.1:Int)).map aD.one++(zC (g.1.2:Int)).map aD.one) (fun g=>2*r+2-g.1.2) ⟨(0,1),fK _,by omega,by omega⟩ aM.rfl (fun _=>rfl) ?_;rintro ⟨⟨l,h⟩,hl,hlh,hh⟩;dsimp only [aG,aH,List.map] at hl hlh hh ⊢;have hb1:=hpw h hh 1 hn1;rw [Int.pow_one] at hb1;apply aA (iU (h:Int) n ((G+2)*n+1) (hpw h hh) hb1) rfl;apply aA (pN _ (g:Int) (by have:=hpw h hh n (bQ _);omega)) rfl;apply vn jK rfl;refine vs _ rfl ?_ ?_<;>intro h20
 ·have hhr:=(hit h).1 h20;have hhb:(bd ((h:Int)).natAbs).length≤G+2:=gW (hlt h hh);apply aA (tX (h:Int) (h:Int)) rfl;rw [←Int.natCast_add];dsimp only [aG,aH];exact aZ rfl ⟨⟨(h,h+h),hhr,by show h<h+h;omega,by show h+h≤2*r+1;omega⟩,aM.rfl,by show 2*r+2-(h+h)<2*r+2-h;omega⟩
 have hhr:r<h:=by
  have:=mt (hit h).2 h20;omega
 refine bE {p:Nat×Nat // p.1≤r∧r<p.2∧p.2≤2*r+1} (fun g=>(zC (g.1.1:Int)).map aD.one++(zC (g.1.2:Int)).map aD.one) (fun g=>g.1.2-g.1.1) ⟨(l,h),hl,hhr,hh⟩ aM.rfl (fun _=>rfl) ?_;clear hl hlh hh hhr h20;rintro ⟨⟨l,h⟩,hl,hlh,hh⟩;dsimp only [aG,aH,List.map] at hl hlh hh ⊢;have hhb:(bd ((h:Int)).natAbs).length≤G+2:=gW (hlt h hh);have hlb:(bd ((l:Int)).natAbs).length≤G+2:=gW (hlt l (by omega));apply aA (uP (h:Int) (l:Int)) rfl;rw [←Int.natCast_sub (show l≤h by omega)];apply aA (dI 1) rfl;apply aA (pN ((h-l:Nat):Int) 1 (by have:=gW (hlt (h-l) (by omega));omega) (Nat.lt_of_le_of_lt (gW (l:=1) (G:=1)) (by omega))) rfl;apply vn bC rfl;dsimp only [aG,aH];refine vs _ rfl ?_ ?_<;>intro h28
 ·have hgap:1<h-l:=by
   have:=mt Bv.2 (show ¬ cR ((h-l:Nat):Int) 1≤0 by omega);omega
  apply aA (tX (l:Int) (h:Int)) rfl;rw [←Int.natCast_add];apply aA (dI 2) rfl;dsimp only [aG,aH];have hlh4:(bd (((l+h:Nat):Int)).natAbs).length≤G+4:=gW (by rw [Nat.pow_add];omega);apply aA (sC ((l+h:Nat):Int) 2 (by omega) (by have:=gW (l:=2) (G:=2);simp at this;omega)) rfl;obtain ⟨m,hm⟩:∃ m,m=(l+h)/2:=⟨_,rfl⟩
  rw [show ((l+h:Nat):Int)/((2:Nat):Int)=(m:Int) by rw [hm];omega];dsimp only [aG,aH];have hb1:=hpw m (by omega) 1 hn1;rw [Int.pow_one] at hb1;apply aA (iU (m:Int) n ((G+2)*n+1) (hpw m (by omega)) hb1) rfl;apply aA (pN _ (g:Int) (by have:=hpw m (by omega) n (bQ _);omega)) rfl;apply vn jK rfl;refine vs _ rfl ?_ ?_<;>intro h35
  ·have hmr:=(hit m).1 h35;exact aZ rfl ⟨⟨(m,h),hmr,hlh,hh⟩,aM.rfl,by show h-m<h-l;omega⟩
  have hmr:=mt (hit m).2 h35;exact aZ rfl ⟨⟨(l,m),hl,by show r<m;omega,by show m≤2*r+1;omega⟩,aM.rfl,by show m-l<h-l;omega⟩
 have hlr:l=r:=by
  have:=Bv.1 (show cR ((h-l:Nat):Int) 1≤0 by omega);omega
 subst hlr;apply aA (MC (l:Int)) rfl;dsimp only [aG,aH];have hlf:Fit (G+2) ((l:Int):Rat):=iZ (hlt l (by omega));have h2f:=nP hk2;apply aA (kJ (.of ((l:Int):Rat)) (.of (mkRat 1 (2^k.toNat))) (G+2) 257 hlf h2f) rfl;dsimp only [aG,aH];have hb1:=hpw l (by omega) 1 hn1;rw [Int.pow_one] at hb1;apply aA (iU (l:Int) n ((G+2)*n+1) (hpw l (by omega)) hb1) rfl;rw [jD];apply aA (Fg x) rfl;dsimp only [aG,aH];have hb2:=hpw l (by omega) n (bQ _);rw [jD] at hb2;apply aA (eG ((l^n:Nat):Int) (x.q.den:Int) (by rw [Int.natAbs_natCast (n:=x.q.den)];omega)) rfl;dsimp only [aG,aH]
 have hb3:(bd (((l^n:Nat):Int)*(x.q.den:Int)).natAbs).length≤(G+2)*n+1+A:=by
  refine cN ?_;rw [Int.natAbs_mul];exact aX (by rw [Int.natAbs_natCast];exact fD (hlt l (by omega))) (by rw [Int.natAbs_natCast];exact hx.2)
 apply aA (pN _ _) rfl;apply vn aO rfl;refine vs _ rfl ?_ ?_<;>intro h45
 ·rw [show nD x n k.toNat l 0=_ from if_pos (nN.1 h45)];apply aA (Vg _) rfl;exact aE rfl
 rw [show nD x n k.toNat l 0=_ from if_neg (mt nN.2 h45)];apply aA (sA _ (.of (mkRat 1 (2^k.toNat))) (G+2+257) 257 (hlf.mul h2f) h2f) rfl;exact aE rfl
open Go Go.Proofs Tryz Ord
def ID:Tr:=.ret [(.agg [tN,(tE (.bool false)),tN,tN,(tE (.bool false)),tN]),(WK 3)]
def Gn:Tr:=.ret [(G6 14),(WK 0)]
def MR:Tr:=aC 17 [(G3 0)] [none] [31] [30] 3 true (aN .lss 3 32 0 12 0 4 (.split (.u 13 0) (aC 36 [(G3 0)] [(some 3)] [35] [30] 30 false (aC 35 [(G6 11),(G3 14),(W 1 0)] [(some 6)] [34,36,37] [81,30,3] 39 true (aC 37 [(G6 15)] [(some 6)] [38] [39] 39 true (.ret [(G6 16),(WK 0)])))) (aC 35 [(G6 11),(G3 0),(W 1 0)] [(some 6)] [40,41,42] [81,30,3] 39 true Gn)))
def MY:Tr:=aC 34 [(W 8 0)] [(some 6)] [29] [3] 81 true (aC 17 [(G3 0)] [none] [31] [30] 3 true (aN .lss 3 32 0 10 0 4 (.split (.u 11 0) (aC 36 [(G3 0)] [(some 3)] [35] [30] 30 false (aC 35 [(G6 9),(G3 12),(W 1 0)] [(some 6)] [34,36,37] [81,30,3] 39 true (aC 37 [(G6 13)] [(some 6)] [38] [39] 39 true Gn))) (aC 35 [(G6 9),(G3 0),(W 1 0)] [(some 6)] [40,41,42] [81,30,3] 39 true (.ret [(G6 12),(WK 0)])))))
def Tn:Tr:=.split (.u 6 0) (aN .rem 3 22 2 1 0 3 (aN .eql 3 23 0 7 0 4 (.split (.u 8 0) (.ret [(.agg [tN,(tE (.bool false)),tN,tN,(tE (.bool false)),tN]),(WK 11)]) (.need (.prim [(W 2 0),(WK 256)] none) (.call ⟨.builtin .min,#[(tT 27),(.const (I3 256))],#[3,3]⟩) 3 false (.need (.prim [(WK 0),(W 9 0)] none) (.call ⟨.builtin .max,#[(.const (I3 0)),(tT 28)],#[3,3]⟩) 3 false (aC 34 [(W 10 0)] [(some 6)] [29] [3] 81 true MR)))))) (.need (.prim [(W 2 0),(WK 256)] none) (.call ⟨.builtin .min,#[(tT 27),(.const (I3 256))],#[3,3]⟩) 3 false (.need (.prim [(WK 0),(W 7 0)] none) (.call ⟨.builtin .max,#[(.const (I3 0)),(tT 28)],#[3,3]⟩) 3 false MY))
def SO:Tr:=aN .lss 3 10 1 1 0 4 (.split (.u 3 0) ID (aN .gtr 3 13 64 1 0 4 (.split (.u 4 0) ID (aC 17 [(G3 0)] [none] [18] [30] 3 false (aN .lss 3 19 0 5 0 4 Tn)))))
theorem uG:aI prog f7 (fun _=>none) [.v (some 3), .v none, .v none]=SO:=by kernel_rfl
theorem Cz (g n:Nat) (hn:1≤n):∃ r,r^n≤g∧g<(r+1)^n:=by
 induction g with
 | zero=>exact ⟨0,by rw [Nat.zero_pow (by omega)];omega,by rw [Nat.zero_add,Nat.one_pow];omega⟩
 | succ g ih=>
   obtain ⟨r,h1,h2⟩:=ih;rcases Nat.lt_or_ge (g+1) ((r+1)^n) with h | h
   ·exact ⟨r,by omega,h⟩
   ·refine ⟨r+1,h,?_⟩;have:(r+1)^n<(r+1+1)^n:=Nat.pow_lt_pow_left (by omega) (by omega);omega
theorem Dw (k n:Nat):bR k^n=bR (k*n):=by
 rw [bR,bR,Cs,Nat.pow_mul]
theorem HJ {x:Rat} (hx:0≤x.num) (k n:Nat):∃ g:Nat,hP (x*bR k^n)=(g:Int)∧x.num*(((2^k)^n:Nat):Int)/(x.den:Int)=(g:Int):=by
 have h0:0≤x.num*(((2^k)^n:Nat):Int)/(x.den:Int):=Int.ediv_nonneg (Int.mul_nonneg hx (by omega)) (by omega);refine ⟨(x.num*(((2^k)^n:Nat):Int)/(x.den:Int)).toNat,?_,by omega⟩;rw [Dw,GC,Nat.pow_mul];omega
theorem Ez:aD.Sub (.agg [.exact (.slice none 0 0), .bool false, .exact (.slice none 0 0), .exact (.slice none 0 0), .bool false, .exact (.slice none 0 0)]) (cP (0,0)):=⟨eN.1,eN.2.1,eN.2.2.1,eN.1,eN.2.1,eN.2.2.1,trivial⟩
theorem uV {q:Rat}:q.num.sign<0↔q.num<0:=Int.sign_neg_iff
theorem EB (k:Nat):Fit (k+2) (gX k):=by
 have:=lI (a:=((1:Int):Rat)) (b:=bR k) (A:=1) (B:=k+1) (Fit.int (by omega) (by omega)) (kR k);exact this.mono (by omega)
theorem EL (x:Rat) (n k:Int) (h:n<1∨64<n):aJ prog 7 [(qT x:aD),(.one (.int .i64 n):aD),(.one (.int .i64 k):aD)] (.ret [cP (0,0), .one (.int .i64 3)]):=by
 refine bO func7 uG ?_;apply vn bA rfl;refine vs _ rfl ?_ ?_<;>intro h1
 ·exact nJ ⟨Ez,aD.Sub.same,trivial⟩
 apply vn bC rfl;refine vs _ rfl ?_ ?_<;>intro h4
 ·exact nJ ⟨Ez,aD.Sub.same,trivial⟩
 exfalso;omega
theorem Ei (x:Rat) (n:Nat) (k:Int) (hn1:1≤n) (h64:n≤64) (hx:x.num<0) (he:n%2=0):aJ prog 7 [(qT x:aD),(.one (.int .i64 n):aD),(.one (.int .i64 k):aD)] (.ret [cP (0,0), .one (.int .i64 11)]):=by
 refine bO func7 uG ?_;apply vn bA rfl;refine vs _ rfl ?_ ?_<;>intro h1
 ·exfalso;omega
 apply vn bC rfl;refine vs _ rfl ?_ ?_<;>intro h4
 ·exfalso;omega
 apply aA (cW x) rfl;apply vn bA rfl;dsimp only [aG,aH];refine vs _ rfl ?_ ?_<;>intro h8
 ·apply vn (cK) rfl;apply vn aO rfl;refine vs _ rfl ?_ ?_<;>intro h11
  ·exact nJ ⟨Ez,aD.Sub.same,trivial⟩
  exfalso;omega
 exact absurd (uV.2 hx) h8
theorem IM (x:Rat) (n:Nat) (k:Int) (g r G A:Nat) (hg:hP (x*bR k.toNat^n)=(g:Int)) (hr:r^n≤g) (hr2:g<(r+1)^n) (hG:g<2^G) (hn1:1≤n) (h64:n≤64) (hx:Fit A x) (hx0:0≤x.num:=by omega) (hk:k≤256:=by omega) (hA1:1≤A:=by omega) (hA:A≤10000000:=by omega) (hG2:G≤20000000:=by omega):aJ prog 7 [(qT x:aD),(.one (.int .i64 n):aD),(.one (.int .i64 k):aD)] (.ret [cP (gY x n (gX k.toNat) r), .one (.int .i64 0)]):=by
 refine bO func7 uG ?_;have hsg:¬ x.num.sign<0:=fun h=>by have:=uV.1 h;omega
 apply vn bA rfl;refine vs _ rfl ?_ ?_<;>intro h1
 ·exfalso;omega
 apply vn bC rfl;refine vs _ rfl ?_ ?_<;>intro h4
 ·exfalso;omega
 apply aA (cW x) rfl;apply vn bA rfl;dsimp only [aG,aH];refine vs _ rfl ?_ ?_<;>intro h8
 ·exact absurd h8 hsg
 apply vn GN rfl;apply vn Mm rfl;dsimp only [aG,aH];rw [show max (0:Int) (min k 256)=((k.toNat:Nat):Int) by omega];apply aA (qO k.toNat) rfl;apply aA (cW x) rfl;apply vn bA rfl;refine vs _ rfl ?_ ?_<;>intro h30
 ·exact absurd h30 hsg
 apply aA (uO x n (bR k.toNat) (gX k.toNat) g r G A 300 hg hx ((kR _).mono (by omega)) ((EB _).mono (by omega)) hr hr2 hG hn1 h64 hA1 hA hG2) rfl;exact aE rfl
theorem JV (x:Rat) (n:Nat) (k:Int) (g r G A:Nat) (hg:hP (-x*bR k.toNat^n)=(g:Int)) (hr:r^n≤g) (hr2:g<(r+1)^n) (hG:g<2^G) (hn1:1≤n) (h64:n≤64) (hx0:x.num<0) (ho:n%2=1) (hx:Fit A x) (hk:k≤256:=by omega) (hA1:1≤A:=by omega) (hA:A≤10000000:=by omega) (hG2:G≤20000000:=by omega):aJ prog 7 [(qT x:aD),(.one (.int .i64 n):aD),(.one (.int .i64 k):aD)] (.ret [cP (yB (gY (-x) n (gX k.toNat) r)), .one (.int .i64 0)]):=by
 refine bO func7 uG ?_;have hsg:x.num.sign<0:=uV.2 hx0;apply vn bA rfl;refine vs _ rfl ?_ ?_<;>intro h1
 ·exfalso;omega
 apply vn bC rfl;refine vs _ rfl ?_ ?_<;>intro h4
 ·exfalso;omega
 apply aA (cW x) rfl;apply vn bA rfl;dsimp only [aG,aH];refine vs _ rfl ?_ ?_<;>intro h8
 ·apply vn (cK) rfl;apply vn aO rfl;refine vs _ rfl ?_ ?_<;>intro h11
  ·exfalso;omega
  apply vn GN rfl;apply vn Mm rfl;dsimp only [aG,aH];rw [show max (0:Int) (min k 256)=((k.toNat:Nat):Int) by omega];apply aA (qO k.toNat) rfl;apply aA (cW x) rfl;apply vn bA rfl;refine vs _ rfl ?_ ?_<;>intro h18
  ·apply aA (nA x) rfl;dsimp only [aG,aH];apply aA (uO (-x) n (bR k.toNat) (gX k.toNat) g r G A 300 hg hx.neg ((kR _).mono (by omega)) ((EB _).mono (by omega)) hr hr2 hG hn1 h64 hA1 hA hG2) rfl;apply aA (Am _) rfl;exact aE rfl
  exact absurd hsg h18
 exact absurd hsg h8
theorem JT (x:RQ) (n:Nat) (k:Int) (a b:RQ) (hx:x.q.num<0) (h:aJ prog 14 [jO (.of (-x.q)), .one (.int .i64 n), .one (.int .i64 k)] (.ret [fI a b])):aJ prog 14 [(jO x:aD),(.one (.int .i64 n):aD),(.one (.int .i64 k):aD)] (.ret [fI (.of (-b.q)) (.of (-a.q))]):=by
 refine bO func14 FI ?_;apply aA (jV x) rfl;apply vn bA rfl;refine vs _ rfl ?_ ?_<;>intro h2
 ·apply aA (rP x) rfl;apply aA h rfl;dsimp only [aG,aH];apply aA (Nn a b) rfl;exact aE rfl
 exact absurd (uV.2 hx) h2
theorem RT (k:Nat):gX k=mkRat 1 (2^k):=by
 have h:((2^k:Nat):Int)≠0:=by have:0<2^k:=Nat.pow_pos (by omega);omega
 unfold gX gA bR;rw [if_neg (fun e=>h (Rat.intCast_inj.1 (e.trans Rat.intCast_zero.symm))),Rat.mkRat_eq_div];rfl
theorem wB {x:Rat} {k n r:Nat}:((((r:Int):Rat)*mkRat 1 (2^k))^n=x)↔((r^n:Nat):Int)*(x.den:Int)=x.num*(((2^k)^n:Nat):Int):=by
 have hp:0<(2^k)^n:=Nat.pow_pos (Nat.pow_pos (by omega))
 have e:(((r:Int):Rat)*mkRat 1 (2^k))^n=mkRat ((r^n:Nat):Int) ((2^k)^n):=by
  rw [show ((r:Int):Rat)*mkRat 1 (2^k)=mkRat (r:Int) (2^k) by rw [←Rat.mkRat_one (r:Int),Rat.mkRat_mul_mkRat];simp];have hk:2^k≠0:=Nat.pos_iff_ne_zero.1 (Nat.pow_pos (by omega));clear hp
  induction n with
  | zero=>simp [Rat.mkRat_one]
  | succ n ih=>rw [Rat.pow_succ,ih,Rat.mkRat_mul_mkRat,←Int.natCast_mul,←Nat.pow_succ,←Nat.pow_succ]
 rw [e,←Rat.mkRat_self x,Rat.mkRat_eq_iff (by omega) x.den_nz,Rat.mkRat_self]
theorem Im {x:RQ} {k n r:Nat} {xq:Rat} (h:x.q=xq):(nD x n k r 0).1.q=(gY xq n (gX k) r).1∧(nD x n k r 0).2.q=(gY xq n (gX k) r).2:=by
 subst h;unfold nD gY;rw [RT];by_cases h:(((r:Int):Rat)*mkRat 1 (2^k))^n=x.q
 ·rw [if_pos h,if_pos (wB.1 h)];exact ⟨rfl,rfl⟩
 ·rw [if_neg h,if_neg (mt wB.2 h)];exact ⟨rfl,rfl⟩
open Go Go.Proofs Tryz Ord
def Uo:Tr:=aC 81 [(W 0 0),(G3 1)] [none] [9,10] [5,30] 40 true (aN .neq 40 12 0 3 0 4 (.split (.u 4 0) (.ret [(.agg [tN,(tE (.bool false)),tN,tN,(tE (.bool false)),tN]),(W 3 0)]) (aC 82 [(.agg [(U 0 0),(U 1 0),(U 1 1),(U 1 2)]),(W 2 0)] [(some 6)] [18,19] [122,3] 39 true (.ret [(G6 5),(WK 0)]))))
theorem Py:aI prog f29 (fun _=>none) [.v none, .v (some 3), .v none]=Uo:=by kernel_rfl
def QZ:Tr:=aC 87 [(G4 0)] [(some 3),none] [8] [122] 127 false (.split (.u 3 0) (aC 124 [(G3 2),(W 1 0)] [(some 6)] [13,14] [30,3] 39 true (.ret [(G6 4)])) (aC 88 [(G4 0)] [none] [16] [122] 88 false (aC 38 [(W 4 0),(W 1 0)] [(some 6)] [17,18] [88,3] 39 true (.ret [(G6 5)]))))
theorem Pw:aI prog f82 (fun _=>none) [.v (some 4), .v none]=QZ:=by kernel_rfl
def Qz:Tr:=.need (.call 81 [(.one (.c (.k (.int .u8 3)))),(G3 0)] [none]) (.call ⟨.value (.func 81),#[(.const (.int .u8 3)),(tT 5)],#[5,30]⟩) 40 true (aN .neq 40 7 0 1 0 4 (.split (.u 2 0) (.ret [(WK 0),(W 1 0)]) (aC 84 [(G3 0)] [none] [10] [30] 2 true (.ret [(W 3 0),(WK 0)]))))
theorem EE:aI prog f25 (fun _=>none) [.v (some 3)]=Qz:=by kernel_rfl
def Tk:Tr:=aC 30 [(W 0 0),(W 1 0)] [(some 3),none] [8,9] [2,2] 55 false (.ret [(G3 2)])
theorem UR:aI prog f24 (fun _=>none) [.v none, .v none]=Tk:=by kernel_rfl
def UE:Tr:=aC 27 [(G3 0)] [none] [4] [30] 9 false (.need (.prim [(.one (.c (.k (.string ⟨#[91]⟩)))),(W 1 0)] none) (.binOp .add 9 (.const (.string ⟨#[91]⟩)) (tT 5) 9) 9 false (.need (.prim [(W 2 0),(.one (.c (.k (.string ⟨#[32]⟩))))] none) (.binOp .add 9 (tT 6) (.const (.string ⟨#[32]⟩)) 9) 9 false (aC 27 [(.agg [(U 0 3),(U 0 4),(U 0 5)])] [none] [9] [30] 9 false (cC .add 9 7 10 3 0 4 0 9 (.need (.prim [(W 5 0),(.one (.c (.k (.string ⟨#[93]⟩))))] none) (.binOp .add 9 (tT 11) (.const (.string ⟨#[93]⟩)) 9) 9 false (.ret [(W 6 0)]))))))
theorem Ou:aI prog f26 (fun _=>none) [.v (some 6)]=UE:=by kernel_rfl
def iM:Tr:=.ret [(tF false)]
def OE:Tr:=.split (.u 20 0) (aN .eql 2 58 1 10 0 4 (.split (.u 21 0) (.need (.call 9 [(WK 6)] [(some 6)]) (.call ⟨.value (.func 9),#[(.const (I3 6))],#[3]⟩) 39 false (aC 26 [(G6 22)] [none] [62] [39] 9 false (.need (.prim [(W 23 0),(.one (.c (.k (.string ⟨#[91,50,48,49,47,54,52,32,49,48,49,47,51,50,93]⟩))))] none) (.binOp .eql 9 (tT 63) (.const (.string ⟨#[91,50,48,49,47,54,52,32,49,48,49,47,51,50,93]⟩)) 9) 4 false (.ret [(W 24 0)])))) iM)) iM
def OM:Tr:=aC 26 [(G6 1)] [none] [44] [39] 9 false (.need (.prim [(W 16 0),(.one (.c (.k (.string ⟨#[91,52,51,47,49,54,32,49,49,47,52,93]⟩))))] none) (.binOp .eql 9 (tT 45) (.const (.string ⟨#[91,52,51,47,49,54,32,49,49,47,52,93]⟩)) 9) 4 false (.split (.u 17 0) (aC 26 [(G6 4)] [none] [49] [39] 9 false (.need (.prim [(W 18 0),(.one (.c (.k (.string ⟨#[91,51,47,50,32,51,47,50,93]⟩))))] none) (.binOp .eql 9 (tT 50) (.const (.string ⟨#[91,51,47,50,32,51,47,50,93]⟩)) 9) 4 false (.split (.u 19 0) (.need (.prim [(W 7 0),(.one (.c (.k (.string ⟨#[48,46,55,56,53,51,57,56,49,54,51,52]⟩))))] none) (.binOp .eql 9 (tT 54) (.const (.string ⟨#[48,46,55,56,53,51,57,56,49,54,51,52]⟩)) 9) 4 false OE) iM))) iM))
def TC:Tr:=.split (.u 12 0) (aN .eql 40 32 0 5 0 4 (.split (.u 13 0) (aN .eql 40 36 0 8 0 4 (.split (.u 14 0) (aN .eql 40 40 0 11 0 4 (.split (.u 15 0) OM iM)) iM)) iM)) iM
def Sv:Tr:=.need (.call 24 [(WK 9),(WK 4)] [(some 3)]) (.call ⟨.value (.func 24),#[(.const (I3 9)),(.const (I3 4))],#[2,2]⟩) 30 false (.need (.call 29 [(.one (.c (.k (.int .u8 6)))),(G3 3),(WK 3)] [(some 6),none]) (.call ⟨.value (.func 29),#[(.const (.int .u8 6)),(tT 15),(.const (I3 3))],#[5,30,3]⟩) 41 false (.need (.call 22 [(WK 1)] [(some 3)]) (.call ⟨.value (.func 22),#[(.const (I3 1))],#[2]⟩) 30 false (.need (.call 28 [(.one (.c (.k (.int .u8 5)))),(G3 6),(WK 10)] [none,none]) (.call ⟨.value (.func 28),#[(.const (.int .u8 5)),(tT 20),(.const (I3 10))],#[5,30,3]⟩) 73 false (.need (.call 22 [(WK 3)] [(some 3)]) (.call ⟨.value (.func 22),#[(.const (I3 3))],#[2]⟩) 30 false (aC 25 [(G3 9)] [none,none] [25] [30] 68 false (aN .eql 40 29 0 2 0 4 TC))))))
def Ui:Tr:=.need (.call 22 [(WK 1)] [(some 3)]) (.call ⟨.value (.func 22),#[(.const (I3 1))],#[2]⟩) 30 false (.need (.call 29 [(.one (.c (.k (.int .u8 1)))),(G3 0),(WK 4)] [(some 6),none]) (.call ⟨.value (.func 29),#[(.const (.int .u8 1)),(tT 10),(.const (I3 4))],#[5,30,3]⟩) 41 false Sv)
theorem JK:aI prog f12 (fun _=>none) []=Ui:=by kernel_rfl
def Uu:Tr:=aC 18 [(G3 0),(G4 1)] [none] [6,8] [30,35] 4 false (.split (.u 2 0) (aC 18 [(.agg [(U 0 3),(U 0 4),(U 0 5)]),(.agg [(U 1 4),(U 1 5),(U 1 6),(U 1 7)])] [none] [12,14] [30,35] 4 true (.ret [(W 3 0)])) iM)
theorem Ef:aI prog f8 (fun _=>none) [.v (some 6), .v (some 8)]=Uu:=by kernel_rfl
theorem jS (a b:Rat) (c d:RQ) (B:Nat) (ha:Fit B a) (hb:Fit B b) (hc:Fit B c.q) (hd:Fit B d.q) (hB:B≤34359738360:=by omega):aJ prog 8 [(kK a b:aD),(fI c d:aD)] (.ret [.one (.bool (decide (a=c.q∧b=d.q)))]):=by
 refine bO func8 Ef ?_;apply aA (Gs a c B ha hc hB) rfl;refine vs _ rfl ?_ ?_<;>intro h1
 ·apply aA (Gs b d B hb hd hB) rfl;dsimp only [aG,aH];rw [show decide (a=c.q∧b=d.q)=decide (b=d.q) by rw [decide_eq_decide];exact ⟨And.right,fun h=>⟨h1,h⟩⟩];exact aE rfl
 rw [show decide (a=c.q∧b=d.q)=false from decide_eq_false fun h=>h1 h.1];exact aE rfl
theorem gO:aD.Sub (.agg [.int .i64 0, .exact (.slice none 0 0), .int .i64 0, .exact (.slice none 0 0), .int .i64 0, .exact (.slice none 0 0), .int .i64 0, .exact (.slice none 0 0)]) (fI .nil .nil):=⟨tV.1,tV.2.1,tV.2.2.1,tV.2.2.2.1,tV.1,tV.2.1,tV.2.2.1,tV.2.2.2.1,trivial⟩
theorem It:aJ prog 8 [kK 0 0,fI .nil .nil] (.ret [.one (.bool true)]):=by
 have h:=jS 0 0 .nil .nil 1 (Fit.zero (by omega)) (Fit.zero (by omega)) (Fit.zero (by omega)) (Fit.zero (by omega))
 rwa [decide_eq_true (show (0:Rat)=RQ.nil.q∧(0:Rat)=RQ.nil.q from ⟨rfl,rfl⟩)] at h
def Ps (a b:Rat):List UInt8:=(([91]++mY a) ++ [32])++mY b ++ [93]
theorem CN {q:Rat} {H:Nat} (h:Fit H q):(mY q).length≤2*H+16:=by
 have h1:=eD h.1;have h2:=eD h.2;unfold mY iE;rw [dG,dG];split<;>split<;>simp <;> omega
abbrev Wi (q:Rat):Prop:=Fit 64 q∧q.num.natAbs≠0∧q.num.natAbs<1000000000∧q.den<1000000000
theorem BS (a b:Rat) (ha:Wi a) (hb:Wi b):aJ prog 26 [(kK a b:aD)] (.ret [bS (Ps a b)]):=by
 refine bO func26 Ou ?_;have h1:=CN ha.1;have h2:=CN hb.1;apply aA (CT a ha.1 ha.2.1 ha.2.2.1 ha.2.2.2) rfl;apply vn (dB (a:=[91]) (by simp only [List.length_cons,List.length_nil];omega)) rfl;apply vn (dB (b:=[32]) (by simp only [dG,List.length_cons,List.length_nil];omega)) rfl;apply aA (CT b hb.1 hb.2.1 hb.2.2.1 hb.2.2.2) rfl;dsimp only [aG,aH];apply vn (dB (by simp only [dG,List.length_cons,List.length_nil];omega)) rfl;apply vn (dB (b:=[93]) (by simp only [dG,List.length_cons,List.length_nil];omega)) rfl;exact aE rfl
def Sw (q:Rat):Nat:=(iE (q.num.natAbs:Int)).length+(iE (q.den:Int)).length
theorem iI (a:RQ) (H:Nat) (hf:Fit H a.q) (hH:H≤1073741824:=by omega):aJ prog 13 [(jO a:aD)] (.ret [.one (.int .i64 (Sw a.q))]):=by
 refine bO func13 Rh ?_;have h1:=qA (z:=(a.q.num.natAbs:Int)) (H:=H) (by rw [Int.natAbs_natCast];exact hf.1);have h2:=qA (z:=(a.q.den:Int)) (H:=H) (by rw [Int.natAbs_natCast];exact hf.2);apply aA (FL a.q.num) rfl;apply aA (kT (a.q.num.natAbs:Int) H (by rw [Int.natAbs_natCast];exact hf.1)) rfl;apply vn (pG GW) rfl;apply aA (fG a) rfl;dsimp only [aG,aH];apply aA (kT (a.q.den:Int) H (by rw [Int.natAbs_natCast];exact hf.2)) rfl;apply vn (pG GW) rfl;apply vn (aF) rfl;dsimp only [aG,aH];rw [show ((iE (a.q.num.natAbs:Int)).length:Int)+((iE (a.q.den:Int)).length:Int)=(Sw a.q:Int) by unfold Sw;omega];exact aE rfl
theorem Wz (n d:Int) (h1:-9223372036854775808≤n:=by omega) (h2:n<9223372036854775808:=by omega) (h3:-9223372036854775808≤d:=by omega) (h4:d<9223372036854775808:=by omega):aJ prog 24 [(.one (.int .i64 n):aD),(.one (.int .i64 d):aD)] (.ret [qT (gA n d)]):=by
 refine bO func24 UR ?_
 have e:(if d=0 then (0:Rat) else (n:Rat)/(d:Rat))=gA n d:=by
  unfold gA;by_cases h:d=0
  ·subst h;rfl
  ·rw [if_neg h,if_neg fun e=>h (Rat.intCast_inj.1 (e.trans Rat.intCast_zero.symm))]
 apply aA (SQ n d h1 h2 h3 h4) rfl;rw [e];exact aE rfl
def UN:Rat×Rat:=CG (bR 32) (gX 32) (tL (bR 32) (gX 32) (((1:Int):Rat),((1:Int):Rat)) 9) (tL (bR 32) (gX 32) (((1:Int):Rat)-((1:Int):Rat),((1:Int):Rat)-((1:Int):Rat)) 1) 1
theorem HM (i:Nat) (hi:i≤0):aJ prog 130 ([kK (bR (32*2^i)) (gX (32*2^i))] ++ [aL.dK (.int .u8 ((1:Nat):Int)::qC ((1:Int):Rat))].map .one) (.ret [cP ((fun _=>UN) i)]):=by
 obtain rfl:i=0:=by omega
 exact gT (bR 32) (gX 32) 1 ((1:Int):Rat) UN 166 rfl (Ep (bR 32) (gX 32) 1 9 100 OA OQ)
theorem Zl:aJ prog 38 [.one (.eZ 105 [.dK [.eZ 130 [.dK (.int .u8 ((1:Nat):Int)::qC ((1:Int):Rat))]]]), .one (.int .i64 4)] (.ret [cP (43/16,11/4)]):=by
 have h:=Aa 130 [.dK (.int .u8 ((1:Nat):Int)::qC ((1:Int):Rat))] (fun _=>UN) 0 (by omega) HM 4 (by omega) (fun i hi=>(by decide +kernel:Fit 4000 UN.1∧Fit 4000 UN.2)) (fun i hi=>absurd hi (by omega)) (by decide +kernel)
 rwa [show lZ (fun _=>UN) 4 0=(43/16,11/4) by decide +kernel] at h
theorem Xf  :aJ prog 82 [(.agg (.int .u8 1::qC ((1:Int):Rat)):aD),(.one (.int .i64 4):aD)] (.ret [cP (43/16,11/4)]):=by
 refine bO func82 Pw ?_;apply aA Lo rfl;refine cB false rfl (fun h=>by cases h) (fun _=>?_);apply aA (mG 1 ((1:Int):Rat)) rfl;apply aA Zl rfl;exact aE rfl
theorem Vh  :aJ prog 82 [(.agg (.int .u8 6::qC (gA ((9:Int):Rat) ((4:Int):Rat))):aD),(.one (.int .i64 3):aD)] (.ret [cP (3/2,3/2)]):=by
 refine bO func82 Pw ?_;apply aA Jl rfl;refine cB true rfl (fun _=>?_) (fun h=>by cases h);have h:=MZ (3/2) 3 8 (by decide +kernel);rw [show cE (3/2) (3:Int).toNat=3/2 by decide +kernel,show tP (3/2) (3:Int).toNat=3/2 by decide +kernel] at h;apply aA h rfl;exact aE rfl
theorem Wq  :aJ prog 29 [(.one (.int .u8 1):aD),(qT ((1:Int):Rat):aD),(.one (.int .i64 4):aD)] (.ret [cP (43/16,11/4), .one (.int .i64 0)]):=by
 refine bO func29 Py ?_;apply aA LM rfl;apply vn bW rfl;refine vs _ rfl ?_ ?_<;>intro h2
 ·exact absurd rfl h2
 apply aA Xf rfl;exact aE rfl
theorem VD  :aJ prog 29 [(.one (.int .u8 6):aD),(qT (gA ((9:Int):Rat) ((4:Int):Rat)):aD),(.one (.int .i64 3):aD)] (.ret [cP (3/2,3/2), .one (.int .i64 0)]):=by
 refine bO func29 Py ?_;apply aA Iz rfl;apply vn bW rfl;refine vs _ rfl ?_ ?_<;>intro h2
 ·exact absurd rfl h2
 apply aA Vh rfl;exact aE rfl
def Hw:Nat→Rat×Rat
 | 0=>ZQ (bR 32) (gX 32) ((1:Int):Rat) 9 14
 | _=>ZQ (bR 64) (gX 64) ((1:Int):Rat) 19 29
theorem YN:iD (bR 64) (gX 64) (Xk (bR 64) (gX 64) 1) true 19 300:=⟨by decide +kernel,by decide +kernel,by decide +kernel,by decide +kernel,by decide +kernel,by decide +kernel,by omega,by omega⟩
theorem Ya:iD (bR 64) (gX 64) (zF,zF) true 29 300:=⟨by decide +kernel,by decide +kernel,by decide +kernel,by decide +kernel,by decide +kernel,by decide +kernel,by omega,by omega⟩
theorem Fc (i:Nat) (hi:i≤1):aJ prog 130 ([kK (bR (32*2^i)) (gX (32*2^i))] ++ [aL.dK (.int .u8 ((5:Nat):Int)::qC ((1:Int):Rat))].map .one) (.ret [cP (Hw i)]):=by
 match i,hi with
 | 0,_=>exact gT (bR 32) (gX 32) 5 ((1:Int):Rat) (Hw 0) 172 rfl (GU (bR 32) (gX 32) ((1:Int):Rat) 9 14 300 (by decide +kernel) (by decide +kernel) (by decide +kernel) ZL YV)
 | 1,_=>exact gT (bR 64) (gX 64) 5 ((1:Int):Rat) (Hw 1) 172 rfl (GU (bR 64) (gX 64) ((1:Int):Rat) 19 29 300 (by decide +kernel) (by decide +kernel) (by decide +kernel) YN Ya)
theorem YU:aJ prog 28 [.one (.int .u8 ((5:Nat):Int)),qT ((1:Int):Rat), .one (.int .i64 10)] (.ret [bS [48,46,55,56,53,51,57,56,49,54,51,52], .one (.int .i64 0)]):=by
 refine Ie 5 ((1:Int):Rat) 0 10 Hw 1 _ Fc LK Mu (fun i hi=>?_) ?_
 ·obtain rfl:i=0:=by omega
  have hd:=Ae (Hw 0) 10 300 (by decide +kernel) (by decide +kernel) (by decide +kernel) (by decide +kernel) (by decide +kernel);rw [show decide (vV ((Hw 0).1*kI 10)=vV ((Hw 0).2*kI 10))=false by decide +kernel] at hd;exact ⟨_,hd⟩
 ·have hd:=Ae (Hw 1) 10 300 (by decide +kernel) (by decide +kernel) (by decide +kernel) (by decide +kernel) (by decide +kernel);rw [show decide (vV ((Hw 1).1*kI 10)=vV ((Hw 1).2*kI 10))=true by decide +kernel,show (if vV ((Hw 1).1*kI 10)=vV ((Hw 1).2*kI 10) then NF (vV ((Hw 1).1*kI 10)).natAbs 10 else []) = [48,46,55,56,53,51,57,56,49,54,51,52] by decide +kernel] at hd;exact hd
theorem PR:hP (gA ((3:Int):Rat) (zP (wV 0)).1)=1∧hP (gA ((3:Int):Rat) (zP (wV 0)).2)=1:=by decide +kernel
theorem Fu  :aJ prog 25 [(qT ((3:Int):Rat):aD)] (.ret [.one (.int .i64 1), .one (.int .i64 0)]):=by
 refine bO func25 EE ?_;apply aA Lz rfl;apply vn bW rfl;refine vs _ rfl ?_ ?_<;>intro h2
 ·exact absurd rfl h2
 apply aA (FF ((3:Int):Rat) 1 (by decide +kernel) (Dm 1) PR.1 PR.2) rfl;exact aE rfl
theorem pi6:lZ wV 6 (Ew (6:Int).toNat)=(201/64,101/32):=by decide +kernel
theorem aW  :aJ prog 12 [] (.ret [.one (.bool true)]):=by
 refine bP (args:=[]) (ins:=[]) (hints:=(fun _=>none)) fo (by kernel_rfl) func12 trivial ?_;rw [JK];dsimp only [List.map,In.env,aG,aH];apply aA (eM 1) rfl;apply aA Wq rfl;apply aA (Wz 9 4) rfl;apply aA VD rfl;dsimp only [aG,aH];apply aA (eM 1) rfl;apply aA YU rfl;apply aA (eM 3) rfl;apply aA Fu rfl;dsimp only [aG,aH];apply vn aO rfl;refine vs _ rfl ?_ ?_<;>intro h9
 ·apply vn aO rfl;refine vs _ rfl ?_ ?_<;>intro h11
  ·apply vn aO rfl;refine vs _ rfl ?_ ?_<;>intro h13
   ·apply vn aO rfl;dsimp only [aG,aH];refine vs _ rfl ?_ ?_<;>intro h15
    ·apply aA (BS (43/16) (11/4) (by decide +kernel) (by decide +kernel)) rfl;rw [show Ps (43/16) (11/4) = [91,52,51,47,49,54,32,49,49,47,52,93] by decide +kernel];apply vn (rE (b:=[91,52,51,47,49,54,32,49,49,47,52,93])) rfl;refine vs _ rfl ?_ ?_<;>intro h18
     ·apply aA (BS (3/2) (3/2) (by decide +kernel) (by decide +kernel)) rfl;rw [show Ps (3/2) (3/2) = [91,51,47,50,32,51,47,50,93] by decide +kernel];apply vn (rE (b:=[91,51,47,50,32,51,47,50,93])) rfl;dsimp only [aG,aH];refine vs _ rfl ?_ ?_<;>intro h21
      ·apply vn (rE (b:=[48,46,55,56,53,51,57,56,49,54,51,52])) rfl;refine vs _ rfl ?_ ?_<;>intro h23
       ·apply vn aO rfl;refine vs _ rfl ?_ ?_<;>intro h25
        ·have hp:=xA 6;rw [pi6] at hp;apply aA hp rfl;apply aA (BS (201/64) (101/32) (by decide +kernel) (by decide +kernel)) rfl;rw [show Ps (201/64) (101/32) = [91,50,48,49,47,54,52,32,49,48,49,47,51,50,93] by decide +kernel];dsimp only [aG,aH];apply vn (rE (b:=[91,50,48,49,47,54,52,32,49,48,49,47,51,50,93])) rfl;exact aE rfl
        exact (h25 (by decide)).elim
       exact (h23 (by decide)).elim
      exact (h21 (by decide)).elim
     exact (h18 (by decide)).elim
    exact (h15 (by decide)).elim
   exact (h13 (by decide)).elim
  exact (h11 (by decide)).elim
 exact (h9 (by decide)).elim
open Go Go.Proofs Go.RowKit Go.ChangeShapes Go.WideShapes Tryz
theorem ZH {M:Nat→Prop} {w:World} {c:aL} {vs:List Value} (h:bX M w [.one c] vs):∃ v,pack vs=v∧c.rep M w v:=by
 match vs,h with
 | [v],h=>exact ⟨v,rfl,h.1⟩
 | [],h=>exact h.elim
 | _::_::_,h=>exact h.2.elim
section
variable {H:Type} {enc:TypeId×Value→H} {P:Program}
def Wd (P:Program) (t:TypeId) (d:DataW H):Prop:=∀ n∈DataW.weights P t d,n≤reachBytes
theorem Bn:∀ {ts:List TypeId} {ds:List (DataW H)} {j:Nat} {t:TypeId} {d:DataW H},ts[j]? = some t→ds[j]? = some d→∀ n∈DataW.weights P t d,n∈DataW.weightsEach P ts ds:=fun h1 h2=>DataW.weights_mem_each h1 h2
theorem Wd.field {t:TypeId} {fs:Array Field} {parts:List (DataW H)} (ht:P.underlying t=some (.struct fs)) (h:Wd P t (.agg parts)) {j:Nat} {f:Field} {d:DataW H} (hf:fs[j]? = some f) (hd:parts[j]? = some d):Wd P f.type d:=fun n hn=>by
 refine h n ?_;rw [DataW.weights,ht];exact Bn (ts:=fs.toList.map (·.type)) (by rw [fE,Array.getElem?_toList,hf];rfl) hd n hn
theorem Wd.len {t e:TypeId} {es sp:List (DataW H)} (ht:P.underlying t=some (.slice e)) (h:Wd P t (.slice es sp)) (hb:0<P.bytesOf e):es.length≤reachBytes:=by
 have:=h ((es.length+sp.length)*P.bytesOf e) (by rw [DataW.weights,ht];exact List.mem_cons_self);have h2:(es.length+sp.length)*1≤(es.length+sp.length)*P.bytesOf e:=Nat.mul_le_mul_left _ hb;omega
abbrev ZF:Nat→Prop:=fun _=>False
end
section
variable {H:Type} {enc:TypeId×Value→H}
theorem Oo:prog.cellsOf 23=3:=by kernel_rfl
theorem Rl:prog.cellsOf 5=1:=by kernel_rfl
theorem LI:prog.cellsOf 2=1:=by kernel_rfl
set_option maxRecDepth 100000 in
theorem JW {w:World} {n:Nat} {cs:List Value} {x:DataW H×List MemPlace} (h:DataW.trod enc prog w 0 (fun _=>true) true n 23 cs=some x):∃ u:jM,u.In∧cs = [.int .i64 u.n, .int .i64 u.d, .int .u8 u.pow]:=by
 obtain ⟨y0,y1,y2,m,rfl,hl,h0,h1,h2⟩:=Deep.trod_struct3 underlying23 h;rw [Oo] at hl
 match cs,hl with
 | [v0,v1,v2],_=>
   rw [show prog.cellsOf _=1 from LI] at h0;rw [show prog.cellsOf _=1 from LI] at h1;rw [show prog.cellsOf _=1 from Rl] at h2;obtain ⟨z0,e0,_,f0⟩:=DataW.trod_int underlying2 h0;obtain ⟨z1,e1,_,f1⟩:=DataW.trod_int underlying2 h1;obtain ⟨z2,e2,_,f2⟩:=DataW.trod_int underlying5 h2;have e0':[v0] = [Value.int .i64 z0]:=e0;have e1':[v1] = [Value.int .i64 z1]:=e1;have e2':[v2] = [Value.int .u8 z2]:=e2;cases e0';cases e1';cases e2';have b0:=bounds_i64 f0;have b1:=bounds_i64 f1;have b2:=bounds_u8 f2;refine ⟨⟨z0,z1,z2.toNat⟩,⟨b0.1,by dsimp only;omega,b1.1,by dsimp only;omega,by dsimp only;omega⟩,?_⟩;rw [show ((z2.toNat:Nat):Int)=z2 by omega]
theorem Io {w:World} {n:Nat} {cs:List Value} {x:DataW H×List MemPlace} (h:DataW.trod enc prog w 0 (fun _=>true) true n 23 cs=some x):∃ u:jM,u.In∧aU ZF w (nC u) cs:=by
 obtain ⟨u,hu,rfl⟩:=JW h;exact ⟨u,hu,⟨rfl,rfl⟩,⟨rfl,rfl⟩,⟨rfl,rfl⟩,trivial⟩
end
section
variable {H:Type} {enc:TypeId×Value→H} {P:Program}
theorem oM (hl:laidOutB P=true) {W W':World} {sp':Nat→Bool}:∀ {ts:List TypeId} {vs:List Value} {ds:List (DataW H)} {ps:List MemPlace},(∀ t∈ts,P.readableRec t=true∧t<P.types.size) →
  DataW.TrodAll enc P W 0 (fun _=>true) true ts vs ds ps→(∀ p∈ps,W.sameAt W' p)→(∀ p∈ps,sp' p.block=true)→DataW.TrodAll enc P W' 0 sp' true ts vs ds ps
 | [],[],[],_,_,h,_,_=>h
 | t::ts,v::vs,d::ds,_,hr,h,h1,h2=>by
   obtain ⟨p,q,k1,k2,rfl⟩:=h;refine ⟨p,q,WideElems.Trod_stays hl (hr t (by simp)).1 (hr t (by simp)).2 k1 (fun x hx=>h1 x (by simp [hx])) (fun x hx=>h2 x (by simp [hx])),oM hl (fun t ht=>hr t (List.mem_cons_of_mem _ ht)) k2 (fun x hx=>h1 x (by simp [hx])) (fun x hx=>h2 x (by simp [hx])),rfl⟩
 | [],_::_,_,_,_,h,_,_=>h.elim
 | [],[],_::_,_,_,h,_,_=>h.elim
 | _::_,[],_,_,_,h,_,_=>h.elim
 | _::_,_::_,[],_,_,h,_,_=>h.elim
theorem Ff {f:Func} {s:ChangeSpec} {apart fresh handsOn again:Bool} {W W':World} {args:Array Value} {ds gs:List (DataW H)} {before:List MemPlace} {T:TypeId}
  (hl:laidOutB P=true) (hts:∀ t∈f.params.toList,P.readableRec t=true∧t<P.types.size) (hvars:s.vars = [])
  (hW:DataW.Whole enc P f.params.toList s.vars apart W args.toList ds gs before) (hres:(s.fn H (ds++gs)).results = [.lit (.bool true)]) (hargs:(s.fn H (ds++gs)).args=ds) (hvs:(s.fn H (ds++gs)).vars = [])
  (hb:Below W.heap.size W W') (hrt:f.resultTypes = #[T]) (hT:P.underlying T=some .bool) :
  s.post enc P f apart fresh handsOn again W args (.bool true) W':=by
 have hlt:∀ p∈before,p.block<W.heap.size:=fun p hp=>hW.lt p hp;have hsame:∀ p∈before,W.sameAt W' p:=fun p hp=>hb.same (hlt p hp);obtain ⟨p,q,hA,hV,hps,hz,hn⟩:=hW;have hW:DataW.Whole enc P f.params.toList s.vars apart W args.toList ds gs before:=⟨p,q,hA,hV,hps,hz,hn⟩
 rw [hvars] at hV;obtain ⟨rfl,rfl⟩:=trodVars_none hV;rw [List.append_nil] at hps;subst hps;have ha:∀ sp:Nat→Bool,(∀ p∈before,sp p.block=true)→DataW.TrodAll enc P W' 0 sp true f.params.toList args.toList ds before:=fun sp h=>oM hl hts hA hsame h
 have hr:∀ (b:Nat) (sp:Nat→Bool) (hd:Bool),DataW.TrodAll enc P W' b sp hd f.resultTypes.toList ((Value.bool true).resultList f.resultTypes.size) [.lit (.bool true)] []:=fun b sp hd=>by
  rw [hrt];exact trodAll_mk1 (shut_bool hT true)
 have hold:∀ p∈before,(fun b=>decide (b<W.heap.size)) p.block=true:=fun p hp=>by simpa using hlt p hp
 refine ⟨ds,[],before,[],before,[],hW,?_,?_,?_,hb.frame _,fun _=>⟨?_,_,[],before,⟨[]++before,[],trodAll_append (ha (fun _=>true) (fun _ _=>rfl)) (hr 0 (fun _=>true) true),?_,by simp,?_,?_⟩,fun p hp _=>hp⟩⟩
 ·rw [hres];exact hr _ _ _
 ·rw [hargs];exact ha _ hold
 ·rw [hvars,hvs];rfl
 ·exact ok_one hrt rfl (okWide_bool_mk hT true)
 ·rw [hvars];exact (rfl:DataW.TrodVars enc P W' (fun _=>true) [] [] [])
 ·intro b off hp;rw [hb.frozen (p:=⟨b,off,none⟩) (hlt _ hp)];exact hz b off hp
 ·exact hn
end
theorem Bo {W:World} {l:List (String×DataW Unit)} (hl:l.filter (fun x=>x.1 == "internal/strconv.uint64pow10") = [("internal/strconv.uint64pow10",Lib.tabData .u64 Lib.pow10Tab)]) (h:laidMetH prog l W):Good ZF W:=by
 have h1:=h.filter (fun x=>x.1 == "internal/strconv.uint64pow10");rw [hl] at h1;have h2:laidMet prog [("internal/strconv.uint64pow10",Lib.tabData .u64 Lib.pow10Tab)] W:=h1;intro x hx;have hx:x=(0,xC):=by simpa [MQ.YO] using hx
 subst hx;have hg:prog.globalNamed "internal/strconv.uint64pow10" = some 0:=by kernel_rfl
 have ht:=Lib.tabIs_of_head (rest:=[]) hg (by kernel_rfl:(prog.globals[0]?).map (·.type)=some 222) underlying222 underlying153 (by kernel_rfl) (by kernel_rfl) h2;unfold Lib.TabIs World.var? at ht;rw [hg] at ht;dsimp only [Option.bind_some] at ht;refine ⟨fun h=>h,?_⟩;split at ht
 ·rename_i cs T fz he;cases ht;exact ⟨T,fz,he⟩
 ·cases ht
end Go.Sy
