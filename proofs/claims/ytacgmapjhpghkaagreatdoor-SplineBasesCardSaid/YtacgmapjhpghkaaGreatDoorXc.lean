/- Part. -/
import Derived.Test.YtacgmapjhpghkaaGreatDoorXb
set_option linter.all false
namespace Go.Sy
open Go Go.Proofs Tryz Ord
theorem ud(p:List Rat)(k x:Rat):ev (wi p k) x=ev p x*k:=by
 rw[wi,lW,show(List.range p.length).map (scI p k)=((List.range p.length).map fun i=>p.getD i 0).map (· * k) by rw[et];rfl,Fu,ox x p p.length (aa _)]
theorem Ni(x a b:Rat):ev [a,b] x=a+b*x:=by rw[bP,bP,ec];grind
theorem zX(p z:List Rat)(c:Rat){e0 e1 e2 e3:Rat}(h:∀x,ev p x+ev z x*c=e0+e1*x+e2*x*x+e3*x*x*x):kH p (wi z c)=tV e0 e1 e2 e3:=
 uR (uI _ _) (xD _ _ _ _) fun x=>by rw[jx,ud,iM,h]
theorem Rb(z:List Rat)(a:Rat){e0 e1 e2 e3:Rat}(h:∀x,ev z x*(x-a)=e0+e1*x+e2*x*x+e3*x*x*x):fP z [-a,((1:Int):Rat)]=tV e0 e1 e2 e3:=
 uR (DU _ _) (xD _ _ _ _) fun x=>by
  have e1:((1:Int):Rat)=1:=rfl;rw[mK,Ni,iM,<-h,e1];grind
theorem pr{α β:Type}{a c:α}{b d:β}(h1:a=c)(h2:b=d):(a,b)=(c,d):=by rw[h1,h2]
theorem XW{a b:Rat}(h:b≠0):VU a b=a/b:=by rw[VU,aG h]
theorem bk0(a:Rat){b:Rat}(h:b=1):VU a b=a:=by rw[h,XW (by decide)];grind
section
variable(x0 x1 y0 y1 m0 m1:Rat)
def Sj:Rat:=(y1-(y0+m0*(x1-x0)))/((x1-x0)*(x1-x0))
def he3:Rat:=(m1-(m0+2*Sj x0 x1 y0 y1 m0*(x1-x0)))/((x1-x0)*(x1-x0))
theorem uY:tn x0 [y0,m0] ([],[1]) 1=(tV y0 0 0 0,tV (-x0) 1 0 0):=by
 show PM x0 y0 0 ([],[1])=_
 have hc:QR x0 y0 0 ([],[1])=y0:=by
  rw[QR];show VU (y0-0) (ev [1] x0)=_;rw[bk0 _ (by rw[bP,ec];grind)];grind
 rw[PM,hc];dsimp only;refine pr (zX _ _ _ fun x=>?_) (Rb _ _ fun x=>?_)
 ·rw[bP,ec];grind
 ·rw[bP,ec];grind
theorem qj:tn x0 [y0,m0] ([],[1]) 2=(tV (y0-m0*x0) m0 0 0,tV (x0*x0) (-2*x0) 1 0):=by
 show PM x0 m0 1 (tn x0 [y0,m0] ([],[1]) 1)=_;rw[uY]
 have hc:QR x0 m0 1 (tV y0 0 0 0,tV (-x0) 1 0 0)=m0:=by
  rw[QR];show VU (m0-ev (ly (tV y0 0 0 0)) x0) (ev (ly (tV (-x0) 1 0 0)) x0)=_;rw[PK,PK,iM,iM,bk0 _ (by grind)];grind
 rw[PM,hc];dsimp only;refine pr (zX _ _ _ fun x=>?_) (Rb _ _ fun x=>?_)
 ·rw[iM,iM];grind
 ·rw[iM];grind
variable{x0 x1}(h:x1-x0≠0)
include h
theorem hs3:tn x1 [y1,m1] (tn x0 [y0,m0] ([],[1]) 2) 1=(tV (y0-m0*x0+Sj x0 x1 y0 y1 m0*(x0*x0)) (m0-2*Sj x0 x1 y0 y1 m0*x0) (Sj x0 x1 y0 y1 m0) 0,tV (-(x0*x0*x1)) (x0*x0+2*x0*x1) (-2*x0-x1) 1):=by
 show PM x1 y1 0 (tn x0 [y0,m0] ([],[1]) 2)=_;rw[qj]
 have hc:QR x1 y1 0 (tV (y0-m0*x0) m0 0 0,tV (x0*x0) (-2*x0) 1 0)=Sj x0 x1 y0 y1 m0:=by
  rw[QR];show VU (y1-ev (tV (y0-m0*x0) m0 0 0) x1) (ev (tV (x0*x0) (-2*x0) 1 0) x1)=_;rw[iM,iM,show x0*x0 + -2*x0*x1+1*x1*x1+0*x1*x1*x1=(x1-x0)*(x1-x0) by grind,XW (fun e=>by rcases nz.1 e with e | e<;>exact h e),Sj]
  congr 1;grind
 rw[PM,hc];generalize Sj x0 x1 y0 y1 m0=c;dsimp only;refine pr (zX _ _ _ fun x=>?_) (Rb _ _ fun x=>?_)
 ·rw[iM,iM];grind
 ·rw[iM];grind
theorem hs4:(tn x1 [y1,m1] (tn x0 [y0,m0] ([],[1]) 2) 2).1=tV (y0-m0*x0+Sj x0 x1 y0 y1 m0*(x0*x0)-he3 x0 x1 y0 y1 m0 m1*(x0*x0*x1)) (m0-2*Sj x0 x1 y0 y1 m0*x0+he3 x0 x1 y0 y1 m0 m1*(x0*x0+2*x0*x1)) (Sj x0 x1 y0 y1 m0-he3 x0 x1 y0 y1 m0 m1*(2*x0+x1)) (he3 x0 x1 y0 y1 m0 m1) /\
  (tn x1 [y1,m1] (tn x0 [y0,m0] ([],[1]) 2) 2).2=fP (tV (-(x0*x0*x1)) (x0*x0+2*x0*x1) (-2*x0-x1) 1) [-x1,((1:Int):Rat)]:=by
 have e:tn x1 [y1,m1] (tn x0 [y0,m0] ([],[1]) 2) 2=PM x1 m1 1 (tn x1 [y1,m1] (tn x0 [y0,m0] ([],[1]) 2) 1):=rfl;rw[e,hs3 y0 y1 m0 m1 h]
 have hc:QR x1 m1 1 (tV (y0-m0*x0+Sj x0 x1 y0 y1 m0*(x0*x0)) (m0-2*Sj x0 x1 y0 y1 m0*x0) (Sj x0 x1 y0 y1 m0) 0,tV (-(x0*x0*x1)) (x0*x0+2*x0*x1) (-2*x0-x1) 1)=he3 x0 x1 y0 y1 m0 m1:=by
  rw[QR,he3];show VU (m1-ev (ly (tV _ _ _ _)) x1) (ev (ly (tV _ _ _ _)) x1)=_;rw[PK,PK,iM,iM,show x0*x0+2*x0*x1+2*(-2*x0-x1)*x1+3*1*x1*x1+0*x1*x1*x1=(x1-x0)*(x1-x0) by grind,XW (fun e=>by rcases nz.1 e with e | e<;>exact h e)]
  congr 1;grind
 rw[PM,hc];refine⟨zX _ _ _ fun x=>?_,rfl⟩;generalize Sj x0 x1 y0 y1 m0=c;generalize he3 x0 x1 y0 y1 m0 m1=d;rw[iM,iM];grind
end
section
variable{x0 x1 y0 y1 m0 m1:Rat}(fx0:Fit 40 x0)(fx1:Fit 40 x1)(fy0:Fit 40 y0)(fy1:Fit 40 y1)(fm0:Fit 2000 m0)(fm1:Fit 2000 m1)
include fx0 fx1 fy0 fy1 fm0
end
section
variable(x0 x1 y0 y1 m0 m1 t:Rat)
variable{x0 x1}(h:x1-x0≠0)
include h
end
end Go.Sy
