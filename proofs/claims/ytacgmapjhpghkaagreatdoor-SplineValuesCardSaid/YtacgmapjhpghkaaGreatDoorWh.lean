/- Part. -/
import Derived.Test.YtacgmapjhpghkaaGreatDoorWg
set_option linter.all false
namespace Go.Sy
open Go Go.Proofs Tryz Ord
def dQ:Tr:=.ret [(tF false)]
def ae5:Tr:=bB .eql 3 108 0 17 0 4 (.split (.u 34 0) (aU 23 [(G3 19)] [none] [112] [46] 3 false (bB .eql 3 113 0 35 0 4 (.split (.u 36 0) (aU 14 [] [none] [] [] 4 true (.ret [(W 37 0)])) dQ))) dQ)
def af6:Tr:=aU 23 [(G3 11)] [none] [95] [46] 3 false (bB .eql 3 96 0 30 0 4 (.split (.u 31 0) (aU 24 [(G2 13)] [none] [100] [31] 4 false (.split (.u 32 0) (aU 24 [(G2 15)] [none] [104] [31] 4 false (.split (.u 33 0) ae5 dQ)) dQ)) dQ))
def am2:Tr:=.split (.u 26 0) (bB .eql 54 83 2 16 0 4 (.split (.u 27 0) (bB .eql 54 87 2 18 0 4 (.split (.u 28 0) (bB .eql 54 91 2 20 0 4 (.split (.u 29 0) af6 dQ)) dQ)) dQ)) dQ
def Nr:Tr:=.split (.u 45 0) (aU 14 [] [none] [] [] 4 true (.ret [(W 46 0)])) dQ
def ag1:Tr:=.need (.prim [(W 41 0)] none) (.unOp .not 4 (tT 171)) 4 false (.split (.u 42 0) (bB .eql 54 173 11 12 0 4 (.split (.u 43 0) (aU 23 [(G3 11)] [none] [176] [46] 3 false (bB .eql 3 177 0 44 0 4 Nr)) dQ)) (bB .eql 54 183 0 12 0 4 (.split (.u 43 0) (aU 29 [(G3 11),(G4 40)] [none] [186,187] [46,51] 4 false (.split (.u 44 0) (aU 32 [(G2 2),(G2 3)] [none] [191,192] [31,35] 4 false Nr) dQ)) dQ)))
def aa6:Tr:=cE .neq 3 153 155 17 0 35 0 4 (.split (.u 36 0) dQ (aU 30 [(G2 3)] [(some 4)] [160] [35] 51 false (aU 29 [(G3 19),(G4 37)] [none] [159,161] [46,51] 4 false (.need (.prim [(W 38 0)] none) (.unOp .not 4 (tT 162)) 4 false (.split (.u 39 0) dQ (aU 31 [(G2 3),(G4 10)] [(some 4),none] [166,167] [35,51] 71 false ag1))))))
def ac2:Tr:=.need (.prim [(W 30 0)] none) (.unOp .not 4 (tT 142)) 4 false (.split (.u 31 0) dQ (aU 27 [(G2 3)] [(some 2)] [147] [35] 35 false (aU 25 [(G2 15),(G2 32)] [none] [146,148] [31,35] 4 false (.need (.prim [(W 33 0)] none) (.unOp .not 4 (tT 149)) 4 false (.split (.u 34 0) dQ (aU 28 [(G2 3)] [none] [154] [35] 3 false aa6))))))
def aj9:Tr:=.split (.u 26 0) dQ (bB .neq 54 131 0 18 0 4 (.split (.u 27 0) dQ (bB .neq 54 135 0 20 0 4 (.split (.u 28 0) dQ (aU 26 [(G2 3)] [(some 2)] [140] [35] 35 false (aU 25 [(G2 13),(G2 29)] [none] [139,141] [31,35] 4 false ac2))))))
def ah5:Tr:=.split (.u 22 0) (aU 22 [(G2 2)] [none] [71] [31] 54 false (bB .eql 54 72 2 23 0 4 (.split (.u 24 0) (bB .eql 54 75 2 12 0 4 (.split (.u 25 0) (bB .eql 54 79 2 14 0 4 am2) dQ)) dQ))) (aU 22 [(G2 2)] [none] [119] [31] 54 false (bB .neq 54 120 0 23 0 4 (.split (.u 24 0) dQ (bB .neq 54 123 0 14 0 4 (.split (.u 25 0) dQ (bB .neq 54 127 0 16 0 4 aj9))))))
def ag6:Tr:=aU 16 [(G2 2),(G3 9)] [(some 3),none] [43,44] [31,46] 55 false (aU 17 [(G2 2)] [(some 2),none] [49] [31] 57 false (aU 18 [(G2 2)] [(some 2),none] [54] [31] 57 false (aU 19 [(G2 2)] [none,none] [59] [31] 59 false (aU 20 [(G2 2)] [(some 3),none] [64] [31] 55 false (aU 21 [(G2 3)] [none] [68] [35] 4 true (.need (.prim [(W 21 0)] none) (.unOp .not 4 (tT 69)) 4 false ah5))))))
def aF2:Tr:=.split (.u 5 0) (aU 14 [] [none] [] [] 4 true (.ret [(W 6 0)])) (.need (.lit 3 [[(.u 1 0),(.u 1 1),(.u 1 2)]]) (.buildSlice 22 1 #[(0,(tT 31))]) 22 false (.need (.call 13 [(.one (.c (.sr 3 6))),(WK 1)] [none]) (.call ⟨.value (.func 13),#[(tT 32),(.const (I3 1))],#[22,3]⟩) 4 false (.need (.prim [(W 7 0)] none) (.unOp .not 4 (tT 33)) 4 false (.split (.u 8 0) (aU 14 [] [none] [] [] 4 true (.ret [(W 9 0)])) (aU 15 [(G3 1)] [(some 3),(some 4)] [38] [27] 52 false ag6)))))
def aR1:Tr:=aU 12 [(G2 0)] [(some 2),(some 2),none] [23] [25] 36 false (.need (.prim [(W 4 0)] none) (.unOp .not 4 (tT 28)) 4 false aF2)
theorem Ak:aM prog f3 (fun _=>none) [.v (some 2), .v (some 3)]=aR1:=by kernel_rfl
theorem WU (ps:List (List cN)):fH (ps.map bH)=ps.map aW:=by
 rw [fH,List.map_map];apply List.map_congr_left;intro p _;exact Bw p
theorem uT {l:List cN} {m:Int} (h:fX l m=true):(l.length:Int)≤m∧∀ a∈aW l,Fit 40 a:=by
 rw [fX,Bool.and_eq_true,List.all_eq_true,decide_eq_true_eq] at h;refine ⟨h.2,fun a ha=>?_⟩;obtain ⟨x,hx,rfl⟩:=eB.1 ha;exact YC (h.1 x hx)
theorem QI {ks:List cN} {ps:List (List cN)} (h:OW ks ps=true) (hv:hU (aW ks) (ps.map aW)=true):iU 40 (aW ks) (ps.map aW):=by
 obtain ⟨h1,h2,h3,h4⟩:=mB h;obtain ⟨k1,k2,k3,k4,k5⟩:=kA hv;have hkl:(aW ks).length=ks.length:=aH _;rw [aH] at k4;refine ⟨by omega,by omega,(uT h1).2,fun p hp=>?_,by rw [aH];omega,by rw [aH];omega⟩;rw [List.any_eq_false] at k5;have hno:=k5 p hp;obtain ⟨q,hq,rfl⟩:=eB.1 hp;rcases (oG (h4 q hq)).2 with e | e
 ·have:=uT e;refine ⟨?_,this.2⟩;rw [aW,aH];omega
 ·exact absurd e hno
theorem as8 (ps:List Rat):trim (trim ps)=trim ps:=RC (kC _) (kC _) fun x=>sO x _
instance (l:List Rat) (x:Rat):Decidable (Mw l x):=inferInstanceAs (Decidable (_∧_))
theorem aP0 (ks:List Rat) (ps:List (List Rat)) (x:Rat) (A:Nat) (h:hU ks ps=true) (T:iU A ks ps) (hx:Fit A x) :
  aN prog 16 [.agg [sQ ks,eQ ps],qT x] (.ret [qT (if Mw ks x then Vl ks ps x else 0), .one (.int .i64 (if Mw ks x then 0 else 11))]):=by
 by_cases hin:Mw ks x
 ·rw [if_pos hin,if_pos hin];exact br2 ks ps x A h T hx hin
 ·rw [if_neg hin,if_neg hin];exact WC ks ps x A h T hx hin
theorem aO2 (kr:List RQ) (pr:List (List RQ)) (x:RQ) (A:Nat) (h:hU (kr.map RQ.q) (fH pr)=true) (T:iU A (kr.map RQ.q) (fH pr)) (hx:Fit A x.q) :
  aN prog 31 [.agg [sR kr,eR pr],oK x] (.ret [oK (.of (if Mw (kr.map RQ.q) x.q then Vl (kr.map RQ.q) (fH pr) x.q else 0)), .one (.bool (decide (Mw (kr.map RQ.q) x.q)))]):=by
 by_cases hin:Mw (kr.map RQ.q) x.q
 ·rw [if_pos hin,decide_eq_true hin];exact bf3 kr pr x A h T hx hin
 ·rw [if_neg hin,decide_eq_false hin];exact VZ kr pr x A h T hx hin
set_option maxHeartbeats 1000000 in
theorem Aq (ks:List cN) (ps:List (List cN)) (at':cN) (hk:∀ x∈ks,x.In) (hp:∀ p∈ps,∀ x∈p,x.In) (ha:at'.In) (hs:ks.length<140737488355328) (hs2:ps.length<140737488355328) (hs3:∀ p∈ps,p.length<140737488355328):aN prog 3 [(.agg [sN ks,eN ps]:aK),(nT at':aK)] (.ret [.one (.bool true)]):=by
 refine cW func3 Ak ?_;by_cases hch:OW ks ps=true
 rotate_left
 ·rw [Bool.not_eq_true] at hch;apply aA (Nz ks ps hch hk hp hs hs2 hs3) rfl;apply vn eS rfl;refine kG true rfl (fun _=>?_) (fun h=>by cases h);apply aA rF rfl;exact aJ rfl
 apply aA (Ul ks ps hch hk hp (by have:=CB (mB hch).1;omega) (by have:=(mB hch).2.2.1;omega)) rfl;apply vn eS rfl;refine kG false rfl (fun h=>by cases h) (fun _=>?_);apply dJ (us:=[nC at']) rfl;apply aA (oM [at'] 1 (by simp)) rfl;dsimp only [aC,aD];apply vn eS rfl;refine kG (!fX [at'] 1) rfl (fun h8=>?_) (fun h8=>?_)
 ·apply aA rF rfl;exact aJ rfl
 have htm:fX [at'] 1=true:=by simpa using h8
 have hxf:Fit 40 at'.v:=(uT htm).2 _ (List.mem_singleton.2 rfl);obtain ⟨c1,c2,c3,c4⟩:=mB hch;have hkm:=Bw ks;have hpm:=WU ps;have hkl:(aW ks).length=ks.length:=aH _;have hkrl:(bH ks).length=ks.length:=aH _;have hpl:(ps.map aW).length=ps.length:=aH _;have hprl:(ps.map bH).length=ps.length:=aH _;have hk40:=(uT c1).2;have hkr40:∀ a∈bH ks,Fit 40 a.q:=fO (by rw [hkm];exact hk40)
 have hlen60:∀ p∈ps.map aW,p.length<1099511627776:=fun p h=>by
  obtain ⟨q,hq,rfl⟩:=eB.1 h;have:=(oG (c4 q hq)).1;rw [aW,aH];omega
 have hlenR:∀ p∈ps.map bH,p.length<1099511627776:=fun p h=>by
  obtain ⟨q,hq,rfl⟩:=eB.1 h;have:=(oG (c4 q hq)).1;rw [bH,aH];omega
 have hkB:=(uT c1).1;have hval:=XC (bH ks) (ps.map bH) 40 hkr40 hlenR;rw [hkm,hpm] at hval;apply aA (Tk at' ha) rfl;by_cases hv:hU (aW ks) (ps.map aW)=true
 rotate_left
 ·rw [Bool.not_eq_true] at hv;have hcs:=cH (aW ks) (ps.map aW) 40 hk40 hlen60;rw [if_neg (by rw [hv];exact Bool.false_ne_true)] at hcs;apply aA (ar6 (aW ks) (ps.map aW) at'.v 40 hv hk40 hlen60) rfl
  try dsimp only [aC,aD]
  apply aA (Nj (aW ks) (ps.map aW) 40 hv hk40 hlen60) rfl
  try dsimp only [aC,aD]
  apply aA (GO (aW ks) (ps.map aW) 40 hv hk40 hlen60) rfl
  try dsimp only [aC,aD]
  apply aA (Rc (aW ks) (ps.map aW) 40 hv hk40 hlen60) rfl
  try dsimp only [aC,aD]
  apply aA (Vc (aW ks) (ps.map aW) 40 hv hk40 hlen60) rfl
  try dsimp only [aC,aD]
  apply aA hval rfl
  try dsimp only [aC,aD]
  rw [hv];apply vn eS rfl
  try dsimp only [aC,aD]
  refine kG true rfl (fun _=>?_) (fun h=>by cases h)
  try dsimp only [aC,aD]
  apply aA hcs rfl
  try dsimp only [aC,aD]
  apply vn cB rfl
  try dsimp only [aC,aD]
  refine vs _ rfl (fun _=>?_) (fun h=>absurd rfl h)
  try dsimp only [aC,aD]
  apply vn cB rfl
  try dsimp only [aC,aD]
  refine vs _ rfl (fun _=>?_) (fun h=>absurd rfl h)
  try dsimp only [aC,aD]
  apply vn cB rfl
  try dsimp only [aC,aD]
  refine vs _ rfl (fun _=>?_) (fun h=>absurd rfl h)
  try dsimp only [aC,aD]
  apply vn cB rfl
  try dsimp only [aC,aD]
  refine vs _ rfl (fun _=>?_) (fun h=>absurd rfl h)
  try dsimp only [aC,aD]
  apply vn cB rfl
  try dsimp only [aC,aD]
  refine vs _ rfl (fun _=>?_) (fun h=>absurd rfl h)
  try dsimp only [aC,aD]
  apply vn cB rfl
  try dsimp only [aC,aD]
  refine vs _ rfl (fun _=>?_) (fun h=>absurd rfl h)
  try dsimp only [aC,aD]
  apply aA (gW 0) rfl
  try dsimp only [aC,aD]
  apply vn cB rfl
  try dsimp only [aC,aD]
  refine vs _ rfl (fun _=>?_) (fun h=>absurd rfl h)
  try dsimp only [aC,aD]
  apply aA OZ rfl
  try dsimp only [aC,aD]
  refine kG true rfl (fun _=>?_) (fun h=>by cases h)
  try dsimp only [aC,aD]
  apply aA OZ rfl
  try dsimp only [aC,aD]
  refine kG true rfl (fun _=>?_) (fun h=>by cases h)
  try dsimp only [aC,aD]
  apply vn cB rfl
  try dsimp only [aC,aD]
  refine vs _ rfl (fun _=>?_) (fun h=>absurd rfl h)
  try dsimp only [aC,aD]
  apply aA (gW 0) rfl
  try dsimp only [aC,aD]
  apply vn cB rfl
  try dsimp only [aC,aD]
  refine vs _ rfl (fun _=>?_) (fun h=>absurd rfl h)
  try dsimp only [aC,aD]
  apply aA rF rfl
  try exact aJ rfl
 have T:=QI hch hv;have TR:iU 40 ((bH ks).map RQ.q) (fH (ps.map bH)):=by rw [hkm,hpm];exact T
 have hvR:hU ((bH ks).map RQ.q) (fH (ps.map bH))=true:=by rw [hkm,hpm];exact hv
 obtain ⟨v1,v2,v3,v4,v5⟩:=kA hv;have hsh:pX 40 (ps.map aW):=fun p hp=>⟨by have:=(T.hp p hp).1;omega,(T.hp p hp).2⟩
 have hshR:pX 40 (fH (ps.map bH)):=by rw [hpm];exact hsh
 have hprf:∀ p∈ps.map bH,p.length<1099511627776∧∀ a∈p,Fit 40 a.q:=fun p h=>⟨hlenR p h,(hshR.r h).2⟩
 have hcs:=cH (aW ks) (ps.map aW) 40 hk40 hlen60;rw [if_pos hv] at hcs;have hord:=WO (bH ks) (ps.map bH) 40 hkr40 hshR;rw [hkm,hpm] at hord;have hbnd:=ap0 (bH ks) (ps.map bH) 40 TR;rw [hkm,hpm] at hbnd;have hbf:=wP T (ps.map aW).length (bA _);have hshd:=hsh.dv (by omega);obtain ⟨B9,hB9⟩:∃ B,B=831400:=⟨_,rfl⟩
 have hpcF:∀ i,i<(ps.map aW).length→(zV (aW ks) (ps.map aW) i).length≤10∧∀ a∈zV (aW ks) (ps.map aW) i,Fit B9 a:=fun i hi=>by rw [hB9];exact (RJ T hi).2
 have hdq:∀ p∈FN (ps.map bH),p.length<1099511627776∧∀ a∈p,Fit 52 a.q:=fun p h=>by
  have h1:pX 52 (fH (FN (ps.map bH))):=by rw [FN,sK,hpm];exact hshd
  have h2:=h1.r h;exact ⟨by omega,h2.2⟩
 have hpcR:∀ p∈(List.range (ps.map bH).length).map (Jw (bH ks) (ps.map bH)),p.length<1099511627776∧∀ a∈p,Fit B9 a.q:=fun p h=>by
  obtain ⟨i,hi,rfl⟩:=eB.1 h;have hi:=List.mem_range.1 hi;have hm:=LN (bH ks) (ps.map bH) i;rw [hkm,hpm] at hm;have h1:=hpcF i (by omega);refine ⟨?_,fO (by rw [hm];exact h1.2)⟩;rw [←aH (f:=RQ.q),hm];omega
 have hdl:∀ p:List Rat,trim (TW p)=TW p:=fun p=>as8 _
 have hsame1:pI (ps.map aW)=(fH (FN (ps.map bH))).map trim:=by
  rw [FN,sK,hpm]
  have hme:∀ l:List (List Rat),pI l=(pI l).map trim:=fun l=>by
   rw [pI,List.map_map];exact List.map_congr_left fun p _=>(hdl p).symm
  exact hme _
 have hsame2:(List.range (ps.map aW).length).map (zV (aW ks) (ps.map aW))=(fH ((List.range (ps.map bH).length).map (Jw (bH ks) (ps.map bH)))).map trim:=by
  rw [ag4,hkm,hpm,hprl,hpl,List.map_map];apply List.map_congr_left;intro i _;exact (as8 _).symm
 rw [hprl,←hpl] at hbnd;have hat:=aP0 (aW ks) (ps.map aW) at'.v 40 hv T hxf;have hgt:=aO2 (bH ks) (ps.map bH) (.of at'.v) 40 hvR TR hxf;rw [hkm,hpm,RQ.lW] at hgt
 have hatf:Mw (aW ks) at'.v→Fit 1000 (Vl (aW ks) (ps.map aW) at'.v):=fun hin=>by
  obtain ⟨i,hi,hpi⟩:=NL v3 v4 hin;rw [Vl,hpi,Int.toNat_natCast];have h1:=T.hp _ (fY hi);have h2:=iX (B:=40) (by omega) hxf _ h1.2;have h3:((ps.map aW).getD i []).length*(2*40+1)≤9*(2*40+1):=Nat.mul_le_mul_right _ h1.1;exact h2.mono (by omega)
 obtain ⟨av,hav⟩:∃ av,av=if Mw (aW ks) at'.v then Vl (aW ks) (ps.map aW) at'.v else 0:=⟨_,rfl⟩
 obtain ⟨ae,hae⟩:∃ ae:Int,ae=if Mw (aW ks) at'.v then 0 else 11:=⟨_,rfl⟩
 rw [←hav,←hae] at hat;rw [←hav] at hgt;apply aA hat rfl;apply aA (Ur (aW ks) (ps.map aW) 40 hv hk40 (fun p h=>⟨hlen60 p h,(T.hp p h).2⟩)) rfl;dsimp only [aC,aD];apply aA (OX (aW ks) (ps.map aW) 40 hv T) rfl;apply aA (VU (aW ks) (ps.map aW) 40 hv hk40 hsh) rfl;apply aA (SA (aW ks) (ps.map aW) 40 hv T) rfl;apply aA hval rfl;rw [hv];dsimp only [aC,aD];apply vn eS rfl;refine kG false rfl (fun h=>by cases h) (fun _=>?_);apply aA hcs rfl;apply vn dS rfl;refine vs _ rfl ?_ ?_<;>intro h60
 ·exact absurd rfl h60
 apply vn dS rfl;dsimp only [aC,aD];refine vs _ rfl ?_ ?_<;>intro h63
 ·exact absurd rfl h63
 apply vn dS rfl;refine vs _ rfl ?_ ?_<;>intro h66
 ·exact absurd rfl h66
 apply vn dS rfl;refine vs _ rfl ?_ ?_<;>intro h69
 ·exact absurd rfl h69
 apply vn dS rfl;refine vs _ rfl ?_ ?_<;>intro h72
 ·exact absurd rfl h72
 apply aA (sL (bH ks) (ps.map bH) 40 hprf) rfl;dsimp only [aC,aD];apply aA (Te (aW ks) (pI (ps.map aW)) (bH ks) (FN (ps.map bH)) 52 hkm.symm hsame1 (fun a h=>(hkr40 a h).mono (by omega)) hdq (by rw [FN,aH];omega)) rfl;apply vn eS rfl;refine kG false rfl (fun h=>by cases h) (fun _=>?_);apply aA (Ps (bH ks) (ps.map bH) 40 TR) rfl;apply aA (Te (aW ks) _ (bH ks) _ B9 hkm.symm hsame2 (fun a h=>(hkr40 a h).mono (by omega)) hpcR (by rw [aH,pN];omega)) rfl;dsimp only [aC,aD];apply vn eS rfl;refine kG false rfl (fun h=>by cases h) (fun _=>?_);apply aA hord rfl;apply vn dS rfl;refine vs _ rfl ?_ ?_<;>intro h86
 ·exact absurd rfl h86
 apply aA hbnd rfl;dsimp only [aC,aD];have hks:=Lh (rM (aW ks) (ps.map aW) (ps.map aW).length) (.of (rM (aW ks) (ps.map aW) (ps.map aW).length)) _ hbf hbf;rw [RQ.lW,decide_eq_true rfl] at hks;apply aA hks rfl;apply vn eS rfl;refine kG false rfl (fun h=>by cases h) (fun _=>?_);apply aA hgt rfl;apply vn uQ rfl;dsimp only [aC,aD];refine vs _ rfl ?_ ?_<;>intro h95
 ·rw [if_neg h95] at hae hav;subst hae hav;apply vn cB rfl;refine vs _ rfl ?_ ?_<;>intro h97
  ·apply aA (gW 0) rfl;apply vn cB rfl;refine vs _ rfl ?_ ?_<;>intro h100
   ·apply aA rF rfl;exact aJ rfl
   exact absurd rfl h100
  exact absurd rfl h97
 have h95':Mw (aW ks) at'.v:=Decidable.not_not.1 h95;rw [if_pos h95'] at hae hav;subst hae hav;apply vn cB rfl;dsimp only [aC,aD];refine vs _ rfl ?_ ?_<;>intro h106
 ·have hks:=Lh (Vl (aW ks) (ps.map aW) at'.v) (.of (Vl (aW ks) (ps.map aW) at'.v)) _ (hatf h95') (hatf h95');rw [RQ.lW,decide_eq_true rfl] at hks;apply aA hks rfl;refine kG true rfl (fun _=>?_) (fun h=>by cases h);apply aA (ab6 (aW ks) (ps.map aW) (bH ks) (ps.map bH) 40 hkm.symm hpm.symm hkr40 hprf) rfl;refine kG true rfl (fun _=>?_) (fun h=>by cases h);apply aA rF rfl;exact aJ rfl
 exact absurd rfl h106
end Go.Sy
