/- Part. -/
import Derived.Test.YtacgmapjhpghkaaGreatDoorXb
set_option linter.all false
namespace Go.Sy
open Go Go.Proofs Tryz Ord
theorem ll(p:List Rat)(k x:Rat):ev (yU p k) x=ev p x*k:=by
 rw[yU,lj,show(List.range p.length).map (scI p k)=((List.range p.length).map fun i=>p.getD i 0).map (· * k) by rw[ef];rfl,Yg,pD x p p.length (aY _)]
theorem BR(x a b:Rat):ev [a,b] x=a+b*x:=by rw[au,au,dA];grind
theorem Aa(p z:List Rat)(c:Rat){e0 e1 e2 e3:Rat}(h:∀x,ev p x+ev z x*c=e0+e1*x+e2*x*x+e3*x*x*x):kq p (yU z c)=tM e0 e1 e2 e3:=
 Gp (ER _ _) (xL _ _ _ _) fun x=>by rw[mN,ll,iP,h]
theorem Qy(z:List Rat)(a:Rat){e0 e1 e2 e3:Rat}(h:∀x,ev z x*(x-a)=e0+e1*x+e2*x*x+e3*x*x*x):en z [-a,((1:Int):Rat)]=tM e0 e1 e2 e3:=
 Gp (Xp _ _) (xL _ _ _ _) fun x=>by
  have e1:((1:Int):Rat)=1:=rfl;rw[sP,BR,iP,<-h,e1];grind
theorem pr{α β:Type}{a c:α}{b d:β}(h1:a=c)(h2:b=d):(a,b)=(c,d):=by rw[h1,h2]
theorem Qh{a b:Rat}(h:b≠0):RC a b=a/b:=by rw[RC,aH h]
theorem bf3(a:Rat){b:Rat}(h:b=1):RC a b=a:=by rw[h,Qh (by decide)];grind
section
variable(x0 x1 y0 y1 m0 m1:Rat)
def RD:Rat:=(y1-(y0+m0*(x1-x0)))/((x1-x0)*(x1-x0))
def he3:Rat:=(m1-(m0+2*RD x0 x1 y0 y1 m0*(x1-x0)))/((x1-x0)*(x1-x0))
theorem tO:ji x0 [y0,m0] ([],[1]) 1=(tM y0 0 0 0,tM (-x0) 1 0 0):=by
 show rY x0 y0 0 ([],[1])=_
 have hc:ou x0 y0 0 ([],[1])=y0:=by
  rw[ou];show RC (y0-0) (ev [1] x0)=_;rw[bf3 _ (by rw[au,dA];grind)];grind
 rw[rY,hc];dsimp only;refine pr (Aa _ _ _ fun x=>?_) (Qy _ _ fun x=>?_)
 ·rw[au,dA];grind
 ·rw[au,dA];grind
theorem xJ:ji x0 [y0,m0] ([],[1]) 2=(tM (y0-m0*x0) m0 0 0,tM (x0*x0) (-2*x0) 1 0):=by
 show rY x0 m0 1 (ji x0 [y0,m0] ([],[1]) 1)=_;rw[tO]
 have hc:ou x0 m0 1 (tM y0 0 0 0,tM (-x0) 1 0 0)=m0:=by
  rw[ou];show RC (m0-ev (nX (tM y0 0 0 0)) x0) (ev (nX (tM (-x0) 1 0 0)) x0)=_;rw[PA,PA,iP,iP,bf3 _ (by grind)];grind
 rw[rY,hc];dsimp only;refine pr (Aa _ _ _ fun x=>?_) (Qy _ _ fun x=>?_)
 ·rw[iP,iP];grind
 ·rw[iP];grind
variable{x0 x1}(h:x1-x0≠0)
include h
theorem hs3:ji x1 [y1,m1] (ji x0 [y0,m0] ([],[1]) 2) 1=(tM (y0-m0*x0+RD x0 x1 y0 y1 m0*(x0*x0)) (m0-2*RD x0 x1 y0 y1 m0*x0) (RD x0 x1 y0 y1 m0) 0,tM (-(x0*x0*x1)) (x0*x0+2*x0*x1) (-2*x0-x1) 1):=by
 show rY x1 y1 0 (ji x0 [y0,m0] ([],[1]) 2)=_;rw[xJ]
 have hc:ou x1 y1 0 (tM (y0-m0*x0) m0 0 0,tM (x0*x0) (-2*x0) 1 0)=RD x0 x1 y0 y1 m0:=by
  rw[ou];show RC (y1-ev (tM (y0-m0*x0) m0 0 0) x1) (ev (tM (x0*x0) (-2*x0) 1 0) x1)=_;rw[iP,iP,show x0*x0 + -2*x0*x1+1*x1*x1+0*x1*x1*x1=(x1-x0)*(x1-x0) by grind,Qh (fun e=>by rcases lk.1 e with e | e<;>exact h e),RD]
  congr 1;grind
 rw[rY,hc];generalize RD x0 x1 y0 y1 m0=c;dsimp only;refine pr (Aa _ _ _ fun x=>?_) (Qy _ _ fun x=>?_)
 ·rw[iP,iP];grind
 ·rw[iP];grind
theorem hs4:(ji x1 [y1,m1] (ji x0 [y0,m0] ([],[1]) 2) 2).1=tM (y0-m0*x0+RD x0 x1 y0 y1 m0*(x0*x0)-he3 x0 x1 y0 y1 m0 m1*(x0*x0*x1)) (m0-2*RD x0 x1 y0 y1 m0*x0+he3 x0 x1 y0 y1 m0 m1*(x0*x0+2*x0*x1)) (RD x0 x1 y0 y1 m0-he3 x0 x1 y0 y1 m0 m1*(2*x0+x1)) (he3 x0 x1 y0 y1 m0 m1) /\
  (ji x1 [y1,m1] (ji x0 [y0,m0] ([],[1]) 2) 2).2=en (tM (-(x0*x0*x1)) (x0*x0+2*x0*x1) (-2*x0-x1) 1) [-x1,((1:Int):Rat)]:=by
 have e:ji x1 [y1,m1] (ji x0 [y0,m0] ([],[1]) 2) 2=rY x1 m1 1 (ji x1 [y1,m1] (ji x0 [y0,m0] ([],[1]) 2) 1):=rfl;rw[e,hs3 y0 y1 m0 m1 h]
 have hc:ou x1 m1 1 (tM (y0-m0*x0+RD x0 x1 y0 y1 m0*(x0*x0)) (m0-2*RD x0 x1 y0 y1 m0*x0) (RD x0 x1 y0 y1 m0) 0,tM (-(x0*x0*x1)) (x0*x0+2*x0*x1) (-2*x0-x1) 1)=he3 x0 x1 y0 y1 m0 m1:=by
  rw[ou,he3];show RC (m1-ev (nX (tM _ _ _ _)) x1) (ev (nX (tM _ _ _ _)) x1)=_;rw[PA,PA,iP,iP,show x0*x0+2*x0*x1+2*(-2*x0-x1)*x1+3*1*x1*x1+0*x1*x1*x1=(x1-x0)*(x1-x0) by grind,Qh (fun e=>by rcases lk.1 e with e | e<;>exact h e)]
  congr 1;grind
 rw[rY,hc];refine⟨Aa _ _ _ fun x=>?_,rfl⟩;generalize RD x0 x1 y0 y1 m0=c;generalize he3 x0 x1 y0 y1 m0 m1=d;rw[iP,iP];grind
end
theorem be5{A:Nat}(h:1<=A):Fit A 1:=Fit.int (n:=1) h (br (show 1<2^1 by decide) (ey (by omega) h))
section
variable{x0 x1 y0 y1 m0 m1:Rat}(fx0:Fit 40 x0)(fx1:Fit 40 x1)(fy0:Fit 40 y0)(fy1:Fit 40 y1)(fm0:Fit 2000 m0)(fm1:Fit 2000 m1)
include fx0 fx1 fy0 fy1 fm0
end
section
variable(x0 x1 y0 y1 m0 m1 t:Rat)
variable{x0 x1}(h:x1-x0≠0)
include h
end
end Go.Sy
