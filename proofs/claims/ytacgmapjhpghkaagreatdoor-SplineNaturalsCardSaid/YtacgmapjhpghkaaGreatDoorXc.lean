/- Part. -/
import Derived.Test.YtacgmapjhpghkaaGreatDoorXb
set_option linter.all false
namespace Go.Sy
open Go Go.Proofs Tryz Ord
def wP(p:c4)(k x:Rat):ev (Vw p k) x=ev p x*k:=by
 rw[Vw,me,show(List.range p.length).map (scI p k)=((List.range p.length).map fun i=>p.getD i 0).map (· * k) by rw[ey];rfl,ah1,ql x p p.length (ah _)]
def Qf(x a b:Rat):ev [a,b] x=a+b*x:=by rw[ak,ak,cU];grind
def BJ(p z:c4)(c:Rat){e0 e1 e2 e3:Rat}(h:∀x,ev p x+ev z x*c=e0+e1*x+e2*x*x+e3*x*x*x):pA p (Vw z c)=pD e0 e1 e2 e3:=
 zd (Gf _ _) (qq _ _ _ _) fun x=>by rw[uI,wP,fJ,h]
def TL(z:c4)(a:Rat){e0 e1 e2 e3:Rat}(h:∀x,ev z x*(x-a)=e0+e1*x+e2*x*x+e3*x*x*x):gk z [-a,((1:Int):Rat)]=pD e0 e1 e2 e3:=
 zd (ab8 _ _) (qq _ _ _ _) fun x=>by
  have e1:((1:Int):Rat)=1:=rfl;rw[wg,Qf,fJ,<-h,e1];grind
def pr{α β:Type}{a c:α}{b d:β}(h1:a=c)(h2:b=d):(a,b)=(c,d):=by rw[h1,h2]
def ac9{a b:Rat}(h:b≠0):Va a b=a/b:=by rw[Va,aG h]
def by2(a:Rat){b:Rat}(h:b=1):Va a b=a:=by rw[h,ac9 bY];grind
section
variable(x0 x1 y0 y1 m0 m1:Rat)
def UW:Rat:=(y1-(y0+m0*(x1-x0)))/((x1-x0)*(x1-x0))
def he3:Rat:=(m1-(m0+2*UW x0 x1 y0 y1 m0*(x1-x0)))/((x1-x0)*(x1-x0))
def tI:vX x0 [y0,m0] ([],[1]) 1=(pD y0 0 0 0,pD (-x0) 1 0 0):=by
 show SG x0 y0 0 ([],[1])=_
 have hc:TE x0 y0 0 ([],[1])=y0:=by
  rw[TE];show Va (y0-0) (ev [1] x0)=_;rw[by2 _ (by rw[ak,cU];grind)];grind
 rw[SG,hc];dsimp only;refine pr (BJ _ _ _ fun x=>?_) (TL _ _ fun x=>?_)
 .rw[ak,cU];grind
 .rw[ak,cU];grind
def oz:vX x0 [y0,m0] ([],[1]) 2=(pD (y0-m0*x0) m0 0 0,pD (x0*x0) (-2*x0) 1 0):=by
 show SG x0 m0 1 (vX x0 [y0,m0] ([],[1]) 1)=_;rw[tI]
 have hc:TE x0 m0 1 (pD y0 0 0 0,pD (-x0) 1 0 0)=m0:=by
  rw[TE];show Va (m0-ev (mU (pD y0 0 0 0)) x0) (ev (mU (pD (-x0) 1 0 0)) x0)=_;rw[sJ,sJ,fJ,fJ,by2 _ b5];grind
 rw[SG,hc];dsimp only;refine pr (BJ _ _ _ fun x=>?_) (TL _ _ fun x=>?_)
 .rw[fJ,fJ];grind
 .rw[fJ];grind
variable{x0 x1}(h:x1-x0≠0)
include h
theorem hs3:vX x1 [y1,m1] (vX x0 [y0,m0] ([],[1]) 2) 1=(pD (y0-m0*x0+UW x0 x1 y0 y1 m0*(x0*x0)) (m0-2*UW x0 x1 y0 y1 m0*x0) (UW x0 x1 y0 y1 m0) 0,pD (-(x0*x0*x1)) (x0*x0+2*x0*x1) (-2*x0-x1) 1):=by
 show SG x1 y1 0 (vX x0 [y0,m0] ([],[1]) 2)=_;rw[oz]
 have hc:TE x1 y1 0 (pD (y0-m0*x0) m0 0 0,pD (x0*x0) (-2*x0) 1 0)=UW x0 x1 y0 y1 m0:=by
  rw[TE];show Va (y1-ev (pD (y0-m0*x0) m0 0 0) x1) (ev (pD (x0*x0) (-2*x0) 1 0) x1)=_;rw[fJ,fJ,show x0*x0 + -2*x0*x1+1*x1*x1+0*x1*x1*x1=(x1-x0)*(x1-x0) by grind,ac9 (fun e=>by rcases jf.1 e with e | e<;>exact h e),UW]
  congr 1;grind
 rw[SG,hc];generalize UW x0 x1 y0 y1 m0=c;dsimp only;refine pr (BJ _ _ _ fun x=>?_) (TL _ _ fun x=>?_)
 .rw[fJ,fJ];grind
 .rw[fJ];grind
theorem hs4:(vX x1 [y1,m1] (vX x0 [y0,m0] ([],[1]) 2) 2).1=pD (y0-m0*x0+UW x0 x1 y0 y1 m0*(x0*x0)-he3 x0 x1 y0 y1 m0 m1*(x0*x0*x1)) (m0-2*UW x0 x1 y0 y1 m0*x0+he3 x0 x1 y0 y1 m0 m1*(x0*x0+2*x0*x1)) (UW x0 x1 y0 y1 m0-he3 x0 x1 y0 y1 m0 m1*(2*x0+x1)) (he3 x0 x1 y0 y1 m0 m1) /\
  (vX x1 [y1,m1] (vX x0 [y0,m0] ([],[1]) 2) 2).2=gk (pD (-(x0*x0*x1)) (x0*x0+2*x0*x1) (-2*x0-x1) 1) [-x1,((1:Int):Rat)]:=by
 have e:vX x1 [y1,m1] (vX x0 [y0,m0] ([],[1]) 2) 2=SG x1 m1 1 (vX x1 [y1,m1] (vX x0 [y0,m0] ([],[1]) 2) 1):=rfl;rw[e,hs3 y0 y1 m0 m1 h]
 have hc:TE x1 m1 1 (pD (y0-m0*x0+UW x0 x1 y0 y1 m0*(x0*x0)) (m0-2*UW x0 x1 y0 y1 m0*x0) (UW x0 x1 y0 y1 m0) 0,pD (-(x0*x0*x1)) (x0*x0+2*x0*x1) (-2*x0-x1) 1)=he3 x0 x1 y0 y1 m0 m1:=by
  rw[TE,he3];show Va (m1-ev (mU (pD _ _ _ _)) x1) (ev (mU (pD _ _ _ _)) x1)=_;rw[sJ,sJ,fJ,fJ,show x0*x0+2*x0*x1+2*(-2*x0-x1)*x1+3*1*x1*x1+0*x1*x1*x1=(x1-x0)*(x1-x0) by grind,ac9 (fun e=>by rcases jf.1 e with e | e<;>exact h e)]
  congr 1;grind
 rw[SG,hc];refine⟨BJ _ _ _ fun x=>?_,rfl⟩;generalize UW x0 x1 y0 y1 m0=c;generalize he3 x0 x1 y0 y1 m0 m1=d;rw[fJ,fJ];grind
end
def CW{A:Nat}(h:1<=A):Fit A 1:=Fit.int (n:=1) h (cM (show 1<2^1 by decide) (gI O h))
section
variable{x0 x1 y0 y1 m0 m1:Rat}(fx0:Fit 40 x0)(fx1:Fit 40 x1)(fy0:Fit 40 y0)(fy1:Fit 40 y1)(fm0:Fit 2000 m0)(fm1:Fit 2000 m1)
include fx0 fx1 fy0 fy1 fm0
end
section
variable(x0 x1 y0 y1 m0 m1 t:Rat)
variable{x0 x1}(h:x1-x0≠0)
include h
end
end Go.Sy
