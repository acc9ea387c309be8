/- Part. -/
import Derived.Test.YtacgmapjhpghkaaGreatDoorXd
import Derived.Test.YtacgmapjhpghkaaGreatDoorWg
set_option linter.all false
namespace Go.Sy
open Go Go.Proofs Tryz Ord
def ZA:Tr:=RI 2
def bs2:Tr:=gO 133 [(W 2 0),(.agg [tN,(tE (.bool false)),tN]),(.one (.gv 141 [(.ref 0 [(.u 2 0)])]))] [none] [55,56,57] [3,46,184] 28 true (FZ 138 0 1 60 61 28 28 188 (bc0 23 24 63 64 (gO 137 [(W 25 0),(.one (.c (.sr 1 26)))] [none] [62,65] [188,197] 188 false (Oy 136 27 66 188 185 (gO 139 [(W 0 0),(W 1 0),(W 28 0)] [(some 2)] [70,71,72] [28,28,28] 31 true (RN 30))))))
def bj7:Tr:=en 2 2 46 (gW 14 0 17 0 28 45 47 (di 18 3 46 48 (mh 86 16 16 1 16 2 19 44 49 (tq 6 (mh 76 20 20 1 20 2 21 50 51 (gO 133 [(W 2 0),(G3 22),(.one (.gv 140 [(.ref 0 [(.u 13 0)]),(.ref 0 [(.u 2 0)])]))] [none] [41,52,53] [3,46,184] 28 true bs2))))))
def br2:Tr:=gO 67 [(G3 7),(G3 10)] [none] [26,31] [46,46] 3 false (lS 11 0 3 32 (aY 12 0 ZA (xQ 131 0 36 28 28 (iK 132 0 0 1 38 39 28 28 28 (nE 14 0 0 28 42 (di 15 3 46 43 bj7))))))
def bX5:Tr:=jy 2 0 3 3 20 (aY 5 0 ZA (nE 1 0 0 28 24 (di 6 3 46 25 (en 2 1 28 (gW 1 0 8 0 28 27 29 (di 9 3 46 30 br2))))))
def bN7:Tr:=bL 0 0 13 28 (FZ 129 0 1 15 16 28 28 4 (jU 3 0 17 (aY 4 0 ZA bX5)))
def Aa:af prog f51 dV [.v none,.v none]=bN7:=aS
section
variable{x y:c4}(D:wI x y)
include D
theorem wI.cD7:(peL (dX x) (cD x y) x.length).length=x.length+1/\∀q∈peL (dX x) (cD x y) x.length,Fit 600 q:=by
 have fb:∀q∈(List.replicate (x.length+1) 0).set x.length (((cD x y).getD 0 0-(cD x y).getD (x.length-2) 0)*((6:Int):Rat)),Fit 330 q:=eL (pG O) ((((D.d 0).sub (D.d (x.length-2))).mul rH).mono O);have fa:∀q∈Bm (dX x) ((List.replicate (x.length+1) 0).set x.length (((cD x y).getD 0 0-(cD x y).getD (x.length-2) 0)*((6:Int):Rat))),Fit 330 q:=eL (eL fb (((D.h 0).mul rF).mono O)) ((D.h 0).mono O);exact⟨Qq _ _ _,eL (eL (fun q hq=>(fa q hq).mono O) (((aD fa _).add (D.h _)).mono O)) (((aD fa _).add ((D.h _).mul rF)).mono O)⟩
theorem bD3{m:c4}(h3:3<=x.length)(hye:y.getD 0 0=y.getD (x.length-1) 0)(hm:∀a∈m,Fit 800000 a)(hl:m.length=x.length)(hsol:fQ (qk x y)=some m) :
  aX prog 51 [.one (sQ x),.one (sQ y)] (.ret [.agg (tA x ((List.range (x.length-1)).map (jG x y m))),.one (.int .i64 0)]):=by
 have h8:=D.h8;have hq:(peQ x.length).length=x.length+1/\∀q∈peQ x.length,Fit 600 q:=⟨Ug _,eL (eL (eL (pG O) (Fit.zero O)) (Fit.int (n:=1) O b7)) (Fit.int (n:=-1) O b7)⟩
 have hT:vL x.length (x.length+1) 600 (qk x y):=by
  refine⟨oY D.h2,fun r hr=>?_⟩;rw[qk,sM]at hr;rcases dx.1 hr with hr | hr
  .obtain⟨j,_,rfl⟩:=dm.1 hr;exact⟨rV _ _ _ _,fun a ha=>(D.inn _ O a ha).mono O⟩
  .simp only[cp,iZ,iQ]at hr;rcases hr with rfl | rfl
   .exact D.cD7
   .exact hq
 exact XQ x y m 800000 600 (fun a h=>(D.hx a h).mono O) (fun a h=>(D.hy a h).mono O) hm h3 D.hxy hl D.giv hye hT (fun k hk=>by
  have hk:k<=8:=O
  match k,hk with
  | 0,_ | 1,_ | 2,_ | 3,_ | 4,_ | 5,_ | 6,_ | 7,_ | 8,_=>decide) hsol (fun i _=>D.shift hm i)
end
def pcs(x:c4)(P:Nat->List Rat):List (List Rat):=(List.range (x.length-1)).map P
section
variable{x y m:c4}(D:wI x y)(he:vF x y m)
include D
end
def wne{x:c4}(hr:kj true x=true){i:Nat}(hi:i+1<x.length):x.getD (i+1) 0-x.getD i 0≠0:=by
 have:=as5 hr (yD i) hi;intro e;grind
def lM{l:List eO}{m:Int}(h:iM l m=true):(l.length:Int)<=m/\∀a∈au l,Fit 40 a:=by
 rw[iM,bR,fS,jr]at h;refine⟨h.2,fun a ha=>?_⟩;obtain⟨x,hx,rfl⟩:=dm.1 ha;exact aV4 (h.1 x hx)
instance (l:c4) (x:Rat):Decidable (inD l x):=inferInstanceAs (Decidable (_/\_))
end Go.Sy
