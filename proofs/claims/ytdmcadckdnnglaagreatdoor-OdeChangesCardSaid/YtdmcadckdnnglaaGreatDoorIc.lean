/- Part. -/
import Derived.Test.YtdmcadckdnnglaaGreatDoorIa
set_option linter.all false
namespace Go.Sy
open Go Go.Proofs Tryz Ord
abbrev MH(Y:j1):VS:=Y.map fun y=>(y,y)
section
variable{c:bL}
def GG(hC:um c)(hok:okF c.E c.X c.Y=true):aK prog 21 [fT c.E c.X c.Y] (.ret [.one (.int .i64 0)]):=by
 have h:=zR c.E c.X c.Y hC.e1 hC.xf (by have:=hC.yl;omega)
 rwa[aI hok]at h
def al2(hC:um c)(hok:okF c.E c.X c.Y=false):aK prog 21 [fT c.E c.X c.Y] (.ret [.one (.int .i64 2)]):=by
 have h:=zR c.E c.X c.Y hC.e1 hC.xf (by have:=hC.yl;omega)
 rwa[aD (by rw[hok];decide)]at h
def xw(hC:um c)(hok:okF c.E c.X c.Y=true)(x:RQ)(hx:Fit 1024 x.q):∃b:Bool,aK prog 75 [fR c.ER c.XR c.YR,oU x] (.ret [.one (.bool b)])/\(b=true->∀aB st,bp (aV c.E c.X) (c.E.length-1) (aG c.E c.X)=some (aB,st)->st<=24/\(x.q-c.X).abs*2<=aB):=by
 have hr:=QB hok;obtain⟨l2,_,_,_⟩:=hr.facts;obtain⟨rv,hv⟩:∃rv,bp (aV c.E c.X) (c.E.length-1) (aG c.E c.X)=rv:=⟨_,rfl⟩
 rcases rv with _ | ⟨aB,st⟩
 .exact⟨true,Ub c.E c.ER c.X c.XR c.YR x hC.toSmallX hr hv,fun _ aB st h=>by rw[hv]at h;cases h⟩
 .obtain⟨hh,hh62,hrho,_,hW⟩:=ef hv;have hrf:Fit 2097152 aB:=by rw[hrho];exact(fI Vt.t hh62 (n:=1) (d:=0) O O (ah _)).o1
  refine⟨_,TQ c.E c.ER c.X c.XR c.YR x hC.toSmallX hr aB st hv hx hrf,fun hb rho' st' h=>?_⟩;rw[hv]at h;simp only[aM,cF]at h;obtain⟨rfl,rfl⟩:=h;rw[bf,fH,fH,ic]at hb;refine⟨O,?_⟩
  have e:((x.q-c.X)*((2:Int):Rat)).abs=(x.q-c.X).abs*2:=by
   rw[show((2:Int):Rat)=2 by decide +kernel];unfold Rat.abs;split<;>split<;>grind
  rw[<-e];exact hb.2
end
end Go.Sy
