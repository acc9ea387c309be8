/- Part. -/
import Derived.Test.YtacgmapjhpghkaaGreatDoorXd
import Derived.Test.YtacgmapjhpghkaaGreatDoorWg
set_option linter.all false
namespace Go.Sy
open Go Go.Proofs Tryz Ord
def Ul:Tr:=.ret [(.agg [tN,tN]),(WK 2)]
def aE0:Tr:=aX 133 [(W 2 0),(.agg [tN,(tE (.bool false)),tN]),(.one (.eZ 141 [(.ref 0 [(.u 2 0)])]))] [none] [55,56,57] [3,46,184] 28 true (aX 138 [(W 0 0),(W 1 0)] [none] [60,61] [28,28] 188 false (.need (.lit 1 [[(.u 23 0)],[(.u 24 0)]]) (.buildSlice 197 2 #[(0,(tT 63)),(1,(tT 64))]) 197 false (aX 137 [(W 25 0),(.one (.c (.sr 1 26)))] [none] [62,65] [188,197] 188 false (aX 136 [(W 27 0)] [none,none] [66] [188] 185 false (aX 139 [(W 0 0),(W 1 0),(W 28 0)] [(some 2)] [70,71,72] [28,28,28] 31 true (.ret [(G2 30),(WK 0)]))))))
def av6:Tr:=bD .sub 3 46 2 2 0 3 (eI 14 0 17 0 28 45 47 (dF 18 0 (some 3) 46 48 (aX 86 [(G3 16),(G3 19)] [(some 3)] [44,49] [46,46] 46 false (.need (.call 113 [(WK 6)] [(some 3)]) (.call ⟨.value (.func 113),#[(.const (I3 6))],#[3]⟩) 46 false (aX 76 [(G3 20),(G3 21)] [(some 3)] [50,51] [46,46] 46 false (aX 133 [(W 2 0),(G3 22),(.one (.eZ 140 [(.ref 0 [(.u 13 0)]),(.ref 0 [(.u 2 0)])]))] [none] [41,52,53] [3,46,184] 28 true aE0))))))
def aD0:Tr:=aX 67 [(G3 7),(G3 10)] [none] [26,31] [46,46] 3 false (bD .neq 3 32 0 11 0 4 (.split (.u 12 0) Ul (aX 131 [(W 0 0)] [none] [36] [28] 28 false (aX 132 [(W 0 0),(W 1 0)] [none] [38,39] [28,28] 28 true (.need (.prim [(W 14 0),(WK 0)] none) (.indexAddr 28 (tT 42) (.const (I3 0))) 0 false (dF 15 0 (some 3) 46 43 av6))))))
def bh7:Tr:=bD .lss 3 20 3 2 0 4 (.split (.u 5 0) Ul (.need (.prim [(W 1 0),(WK 0)] none) (.indexAddr 28 (tT 24) (.const (I3 0))) 0 false (dF 6 0 (some 3) 46 25 (bD .sub 3 28 1 2 0 3 (eI 1 0 8 0 28 27 29 (dF 9 0 (some 3) 46 30 aD0))))))
def aX5:Tr:=dD 0 0 13 28 (aX 129 [(W 0 0),(W 1 0)] [none] [15,16] [28,28] 4 false (.need (.prim [(W 3 0)] none) (.unOp .not 4 (tT 17)) 4 false (.split (.u 4 0) Ul bh7)))
theorem RH:aV prog f51 (fun _=>none) [.v none, .v none]=aX5:=by kernel_rfl
theorem Kr (x y:List Rat) (A:Nat) (hp:∀ a∈x,Fit A a) (hg:mO x y=true) (hxy:y.length=x.length) (hA1:1<=A:=by omega) (hA:A<=1073741824:=by omega) (h2:x.length<3:=by omega):aQ prog 51 [(.one (sQ x):aJ),(.one (sQ y):aJ)] (.ret [.agg yS, .one (.int .i64 2)]):=by
 refine eF func51 RH ?_;apply vn (aO aZ (aL _)) rfl;apply aA (rA x y A hp hA1 hA) rfl;rw [hg];apply vn fO rfl;refine nY false rfl (fun h=>by cases h) (fun _=>?_);apply vn bL rfl;dsimp only [aF,aG];refine vs _ rfl ?_ ?_<;>intro h6
 .exact aK rfl
 exact absurd (show (x.length:Int)<3 by omega) h6
section
variable {x y:List Rat} (D:tM x y)
include D
theorem tM.bH5:(YN (cJ x) (bF x y) x.length).length=x.length+1/\∀ q∈YN (cJ x) (bF x y) x.length,Fit 600 q:=by
 have fb:∀ q∈(List.replicate (x.length+1) 0).set x.length (((bF x y).getD 0 0-(bF x y).getD (x.length-2) 0)*((6:Int):Rat)),Fit 330 q:=dR (oZ (by omega)) ((((D.d 0).sub (D.d (x.length-2))).mul oP).mono (by omega));have fa:∀ q∈BF (cJ x) ((List.replicate (x.length+1) 0).set x.length (((bF x y).getD 0 0-(bF x y).getD (x.length-2) 0)*((6:Int):Rat))),Fit 330 q:=dR (dR fb (((D.h 0).mul oN).mono (by omega))) ((D.h 0).mono (by omega));exact ⟨Oj _ _ _,dR (dR (fun q hq=>(fa q hq).mono (by omega)) (((aB fa _).add (D.h _)).mono (by omega))) (((aB fa _).add ((D.h _).mul oN)).mono (by omega))⟩
theorem aN6 {m:List Rat} (h3:3<=x.length) (hye:y.getD 0 0=y.getD (x.length-1) 0) (hm:∀ a∈m,Fit 800000 a) (hl:m.length=x.length) (hsol:fG (pY x y)=some m) :
  aQ prog 51 [.one (sQ x), .one (sQ y)] (.ret [.agg (pB x ((List.range (x.length-1)).map (fP x y m))), .one (.int .i64 0)]):=by
 have h8:=D.h8;have hq:(YM x.length).length=x.length+1/\∀ q∈YM x.length,Fit 600 q:=⟨PX _,dR (dR (dR (oZ (by omega)) (Fit.zero (by omega))) (Fit.int (n:=1) (by omega) (by decide +kernel))) (Fit.int (n:=-1) (by omega) (by decide +kernel))⟩
 have hT:Ia x.length (x.length+1) 600 (pY x y):=by
  refine ⟨oI D.h2,fun r hr=>?_⟩;rw [pY,uA] at hr;rcases List.mem_append.1 hr with hr | hr
  .obtain ⟨j,_,rfl⟩:=eH.1 hr;exact ⟨oW _ _ _ _,fun a ha=>(D.inn _ (by omega) a ha).mono (by omega)⟩
  .simp only [List.mem_cons,List.not_mem_nil,or_false] at hr;rcases hr with rfl | rfl
   .exact D.bH5
   .exact hq
 exact SH x y m 800000 600 (fun a h=>(D.hx a h).mono (by omega)) (fun a h=>(D.hy a h).mono (by omega)) hm h3 D.hxy hl D.giv hye hT (fun k hk=>by
  have hk:k<=8:=by omega
  match k,hk with
  | 0,_ | 1,_ | 2,_ | 3,_ | 4,_ | 5,_ | 6,_ | 7,_ | 8,_=>decide) hsol (fun i _=>D.shift hm i)
end
def jR (x:List Rat) (P:Nat->List Rat):List (List Rat):=(List.range (x.length-1)).map P
theorem wD (x:List Rat) (P:Nat->List Rat):(jR x P).length=x.length-1:=by simp [jR]
theorem PG {x:List Rat} {P:Nat->List Rat} {i:Nat} (hi:i+1<x.length):(jR x P).getD i []=P i:=by
 rw [jR,fI,dK,List.getElem?_range (by omega)];rfl
theorem fK (x:List Rat) (P:Nat->List Rat):qJ (jR x P)=jR x fun i=>iQ (P i):=by rw [qJ,jR,List.map_map];rfl
theorem oM {x:List Rat} {P:Nat->List Rat} {A:Nat} (h:∀ i,(P i).length<=4/\∀ a∈P i,Fit A a):qM A (jR x P):=fun p hp=>by
 obtain ⟨i,_,rfl⟩:=eH.1 hp;exact h i
theorem ba4 {x:List Rat} {P:Nat->List Rat} (h2:2<=x.length) (hr:gC true x=true) (hl:∀ i,(P i).length<=4) (h8:x.length<=60:=by omega):rH x (jR x P)=true:=by
 have hb:(jR x P).any Qv=false:=by
  rw [List.any_eq_false];intro p hp;obtain ⟨i,_,rfl⟩:=eH.1 hp;have h1:=kR (z:=zr) (P i);have h2:=hl i;rw [Qv,decide_eq_true_eq];omega
 rw [rH,decide_eq_true h2,decide_eq_true h8,hr,decide_eq_true (show (jR x P).length+1=x.length by rw [wD];omega),hb];rfl
theorem Ux {x:List Rat} {P:Nat->List Rat} (hr:gC true x=true) {i:Nat} (hi:i+1<x.length:=by omega):yF x (jR x P) (x.getD i 0)=ev (P i) (x.getD i 0):=by
 have hl:=wD x P;rw [yF,zW hr (n:=(jR x P).length) (i:=i) (by omega) (by omega) (Rat.le_refl) (.inl (pU hr (Nat.lt_succ_self i) hi)),Int.toNat_natCast,PG hi];rfl
theorem Cq {x:List Rat} {P:Nat->List Rat} (h2:2<=x.length) (hr:gC true x=true):yF x (jR x P) (x.getD (x.length-1) 0)=ev (P (x.length-2)) (x.getD (x.length-1) 0):=by
 have hl:=wD x P;rw [yF,zW hr (n:=(jR x P).length) (i:=x.length-2) (by omega) (by omega) (rY hr) (.inr ⟨by omega,by rw [show x.length-2+1=x.length-1 by omega]⟩),Int.toNat_natCast,PG (by omega)];rfl
theorem PF (ks:List Rat) (ps:List (List Rat)):∀ (f c:Nat),f+c=41->(c:Int)-1<=nV ks ps f c
 | 0,c,h=>by rw [nV];omega
 | f+1,c,h=>by
   rw [nV];split
   .have:=PF ks ps f (c+1) (by omega);omega
   .omega
theorem sF {x:List Rat} {P:Nat->List Rat} (h:∀ i,i+2<x.length->ev (P i) (x.getD (i+1) 0)=ev (P (i+1)) (x.getD (i+1) 0)):WN pZ x (jR x P)=true:=
 Tp fun j hj=>by
  rw [wD] at hj;rw [PG (by omega),PG (by omega),pZ,decide_eq_true_eq];exact h j (by omega)
theorem bx6 {x:List Rat} {P:Nat->List Rat} (h0:∀ i,i+2<x.length->ev (P i) (x.getD (i+1) 0)=ev (P (i+1)) (x.getD (i+1) 0))
  (h1:∀ i,i+2<x.length->ev (iQ (P i)) (x.getD (i+1) 0)=ev (iQ (P (i+1))) (x.getD (i+1) 0)):1<=nV x (jR x P) 41 0:=by
 rw [nV,if_pos (show WN pZ x (Kv (jR x P) 0)=true from sF h0),nV,if_pos (show WN pZ x (Kv (jR x P) (0+1))=true by rw [Kv,Kv,fK];exact sF h1)];exact PF x (jR x P) 39 2 rfl
theorem bp5 {x:List Rat} {P:Nat->List Rat} (h0:∀ i,i+2<x.length->ev (P i) (x.getD (i+1) 0)=ev (P (i+1)) (x.getD (i+1) 0))
  (h1:∀ i,i+2<x.length->ev (iQ (P i)) (x.getD (i+1) 0)=ev (iQ (P (i+1))) (x.getD (i+1) 0))
  (h2:∀ i,i+2<x.length->ev (iQ (iQ (P i))) (x.getD (i+1) 0)=ev (iQ (iQ (P (i+1)))) (x.getD (i+1) 0)):2<=nV x (jR x P) 41 0:=by
 rw [nV,if_pos (show WN pZ x (Kv (jR x P) 0)=true from sF h0),nV,if_pos (show WN pZ x (Kv (jR x P) (0+1))=true by rw [Kv,Kv,fK];exact sF h1),nV,
  if_pos (show WN pZ x (Kv (jR x P) (0+1+1))=true by rw [Kv,Kv,Kv,fK,fK];exact sF h2)]
 exact PF x (jR x P) 38 3 rfl
theorem Sx {x y:List Rat} {P:Nat->List Rat} (h2:2<=x.length) (hr:gC true x=true) (hl:∀ i,i+1<x.length->ev (P i) (x.getD i 0)=y.getD i 0) (hlast:ev (P (x.length-2)) (x.getD (x.length-1) 0)=y.getD (x.length-1) 0):∀ i,i<x.length->yF x (jR x P) (x.getD i 0)=y.getD i 0:=fun i hi=>by
 by_cases e:i+1<x.length
 .rw [Ux hr e,hl i e]
 .obtain rfl:i=x.length-1:=by omega
  rw [Cq h2 hr,hlast]
section
variable {x y m:List Rat} (D:tM x y) (he:Nq x y m)
include D
theorem Ek:∀ i,i<x.length->yF x (jR x (fP x y m)) (x.getD i 0)=y.getD i 0:=by
 have h2:=D.h2;refine Sx h2 D.hr (fun i hi=>VL D.hr D.hxy hi) ?_;have:=Ry (m:=m) D.hr D.hxy (i:=x.length-2) (by omega)
 rwa [show x.length-2+1=x.length-1 by omega] at this
include he
theorem OK:2<=nV x (jR x (fP x y m)) 41 0:=
 bp5 (fun i hi=>by rw [Ry D.hr D.hxy (by omega),VL D.hr D.hxy (by omega)]) (fun i hi=>ah1 D.hr D.hxy hi (he i hi)) (fun i hi=>by rw [Nr D.hr D.hxy (by omega),QZ D.hr D.hxy (by omega)])
end
theorem ai6 {x y m:List Rat} (D:tM x y):yF x (qJ (jR x (fP x y m))) (x.getD 0 0)=YL x y m 0:=by
 have h2:=D.h2;rw [fK,Ux D.hr,Tv D.hr D.hxy (by omega)]
theorem al0 {x y m:List Rat} (D:tM x y):yF x (qJ (jR x (fP x y m))) (x.getD (x.length-1) 0)=(bF x y).getD (x.length-2) 0+(cJ x).getD (x.length-2) 0*((m.getD (x.length-2) 0+m.getD (x.length-1) 0+m.getD (x.length-1) 0)/6):=by
 have h2:=D.h2;have:=NL (m:=m) D.hr D.hxy (i:=x.length-2) (by omega);rw [show x.length-2+1=x.length-1 by omega] at this;rw [fK,Cq h2 D.hr,this]
theorem ae1 {x y m:List Rat} (D:tM x y):yF x (qJ (qJ (jR x (fP x y m)))) (x.getD 0 0)=m.getD 0 0:=by
 have h2:=D.h2;rw [fK,fK,Ux D.hr,QZ D.hr D.hxy (by omega)]
theorem af1 {x y m:List Rat} (D:tM x y):yF x (qJ (qJ (jR x (fP x y m)))) (x.getD (x.length-1) 0)=m.getD (x.length-1) 0:=by
 have h2:=D.h2;have:=Nr (m:=m) D.hr D.hxy (i:=x.length-2) (by omega);rw [show x.length-2+1=x.length-1 by omega] at this;rw [fK,fK,Cq h2 D.hr,this]
theorem wne {x:List Rat} (hr:gC true x=true) {i:Nat} (hi:i+1<x.length:=by omega):x.getD (i+1) 0-x.getD i 0≠0:=by
 have:=pU hr (Nat.lt_succ_self i) hi;intro e;grind
theorem ZO {x y:List Rat} (D:tM x y):∀ i,i<x.length->yF x (jR x (mD x y)) (x.getD i 0)=y.getD i 0:=by
 have h2:=D.h2;refine Sx h2 D.hr (fun i hi=>Rv _ _ _ _ _ _) ?_;have:=MK (y.getD (x.length-2) 0) (y.getD (x.length-2+1) 0) ((oA (cJ x) (bF x y)).getD (x.length-2) 0) ((oA (cJ x) (bF x y)).getD (x.length-2+1) 0) (wne D.hr (i:=x.length-2));rw [show x.length-2+1=x.length-1 by omega] at this;rw [mD,show x.length-2+1=x.length-1 by omega];exact this
theorem aH2 {x y:List Rat} (D:tM x y):1<=nV x (jR x (mD x y)) 41 0:=
 bx6 (fun i hi=>by rw [mD,mD,MK _ _ _ _ (wne D.hr),Rv]) (fun i hi=>by rw [mD,mD,UW _ _ _ _ (wne D.hr),Xq])
theorem as4 (x y:List Rat) (i:Nat):(mD x y i).length<=4:=tJ _ _ _ _
theorem ar5 {x y:List Rat} (D:tM x y) (i:Nat):∀ a∈mD x y i,Fit 20000 a:=
 Tb (aB D.hx i) (aB D.hx (i+1)) (aB D.hy i) (aB D.hy (i+1)) (aB (Et D.h D.d) i) (aB (Et D.h D.d) (i+1))
open Go Go.Proofs Tryz Ord
theorem wF {l:List eJ} {m:Int} (h:gT l m=true):(l.length:Int)<=m/\∀ a∈cG l,Fit 40 a:=by
 rw [gT,Bool.and_eq_true,List.all_eq_true,decide_eq_true_eq] at h;refine ⟨h.2,fun a ha=>?_⟩;obtain ⟨x,hx,rfl⟩:=eH.1 ha;exact aj0 (h.1 x hx)
instance (l:List Rat) (x:Rat):Decidable (inD l x):=inferInstanceAs (Decidable (_/\_))
end Go.Sy
