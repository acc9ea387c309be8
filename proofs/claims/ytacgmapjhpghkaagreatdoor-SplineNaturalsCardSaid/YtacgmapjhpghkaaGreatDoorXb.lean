/- Part. -/
import Derived.Test.YtacgmapjhpghkaaGreatDoorXa
import Derived.Test.YtacgmapjhpghkaaGreatDoorWf
set_option linter.all false
namespace Go.Sy
open Go Go.Proofs Tryz Ord
def ab0:Tr:=.ret [(.one (.c (.k (.slice none 0 0)))),(.one (.c (.k (.slice none 0 0)))),(.one (.c (.k (.slice none 0 0)))),(.one (.c (.k (.slice none 0 0)))),(tF false)]
def bk9:Tr:=aY 8 0 (bL 0 0 29 22 (uj .leq 3 30 40 9 0 4 (aY 10 0 ab0 (Oy 33 0 35 22 74 (Oy 33 1 40 22 74 (aK7 11 13 12 14)))))) (Oy 33 0 35 22 74 (Oy 33 1 40 22 74 (aK7 9 11 10 12)))
def bG2:Tr:=jU 3 0 16 (aY 4 0 ab0 (aG7 1 19 (jU 5 0 20 (aY 6 0 ab0 (bL 0 0 24 22 (ss .gtr 3 25 26 7 0 2 0 4 bk9))))))
def bW5:Tr:=aG7 0 15 bG2
def VL:af prog f48 dV [.v none,.v none,.v none]=bW5:=aS
def Sk:Tr:=hx128Q 
def bX3:Tr:=aY 5 0 (bL 1 0 14 32 (bL 0 0 16 32 (ss .eql 3 15 17 6 0 7 0 4 (aY 8 0 (aE6 60 32 (cd 9)) Sk)))) Sk
def bL6:Tr:=bL 0 0 5 32 (oh 2 2 6 (aY 3 0 (bL 0 0 9 32 (uj .leq 3 10 40 4 0 4 bX3)) Sk))
def bb5:af prog f52 dV [.v none,.v none]=bL6:=aS
def aD8(A:Nat)(ps:b9):Prop:=∀p∈ps,p.length<=4/\∀a∈p,Fit A a
def aD8.dv{A:Nat}{ps:b9}(hA:1<=A)(h:aD8 A ps):aD8 (A+12) (zY ps):=fun p hp=>by
 obtain⟨q,hq,rfl⟩:=dm.1 hp;have:=h q hq;have hl:=wj q;exact⟨O,Td hA this.2 O⟩
def yc(x y:List eO)(n:Int):Bool:=iM x 50&&(iM y 50 && !(decide (n<(x.length:Int))&&decide ((x.length:Int)<=40)))
def CP(x y:List eO)(n:Int)(h:yc x y n=true)(hx:∀u∈x,u.In)(hy:∀u∈y,u.In)(hs:x.length<140737488355328)(oz:y.length<140737488355328):aX prog 48 [(.one (sN x):aQ),(.one (sN y):aQ),(.one (.int .i64 n):aQ)] (.ret [.one (sQ (au x)),.one (sQ (au y)),.one (sR (ec x)),.one (sR (ec y)),.one (.bool true)]):=by
 refine eD func48 VL ?_
 obtain⟨hx1,hy1,hn⟩:iM x 50=true/\iM y 50=true/\¬(n<(x.length:Int)/\(x.length:Int)<=40):=by
  simp only[yc,bR,uG,SF,uW]at h;exact⟨h.1,h.2.1,fun e=>h.2.2.elim (fun h=>h e.1) (fun h=>h e.2)⟩
 have lx:=qu hx1;have ly:=qu hy1;apply aA (rU x 50 hs);rw[hx1];apply vn fk;refine nI false rfl (fun h=>by cases h) (fun _=>?_);apply aA (rU y 50 oz);rw[hy1];apply vn fk;refine nI false rfl (fun h=>by cases h) (fun _=>?_);apply vn (ae Ud (aL _));apply vn jD;refine l4 ?_ ?_<;>intro h10
 .apply vn (ae Ud (aL _));apply vn nR;dsimp only[aU,aV];refine l4 ?_ ?_<;>intro h13
  .exact absurd ⟨O,O⟩ hn
  apply aA (Cb x hx);apply aA (Cb y hy);exact aR
 apply aA (Cb x hx);apply aA (Cb y hy);exact aR
def Za(x y:List eO)(n:Int)(h:yc x y n=false)(hx:∀u∈x,u.In)(hy:∀u∈y,u.In)(hs:x.length<140737488355328)(oz:y.length<140737488355328):aX prog 48 [(.one (sN x):aQ),(.one (sN y):aQ),(.one (.int .i64 n):aQ)] (.ret [.one anyS,.one anyS,.one anyS,.one anyS,.one (.bool false)]):=by
 refine eD func48 VL ?_;apply aA (rU x 50 hs);apply vn fk;refine nI (!iM x 50) rfl (fun h02=>?_) (fun h02=>?_)
 .exact gj ⟨kF,kF,kF,kF,aQ.Sub.same,trivial⟩
 apply aA (rU y 50 oz);apply vn fk;refine nI (!iM y 50) rfl (fun h06=>?_) (fun h06=>?_)
 .exact gj ⟨kF,kF,kF,kF,aQ.Sub.same,trivial⟩
 apply vn (ae Ud (aL _));apply vn jD;refine l4 ?_ ?_<;>intro h10
 .apply vn (ae Ud (aL _));apply vn nR;dsimp only[aU,aV];refine l4 ?_ ?_<;>intro h13
  .exact gj ⟨kF,kF,kF,kF,aQ.Sub.same,trivial⟩
  exfalso
  have hx1:iM x 50=true:=by simpa using h02
  have hy1:iM y 50=true:=by simpa using h06
  rw[yc,hx1,hy1,Bp,Bp,Bool.not_eq_false',bR,jr,jr]at h;omega
 exfalso
 have hx1:iM x 50=true:=by simpa using h02
 have hy1:iM y 50=true:=by simpa using h06
 rw[yc,hx1,hy1,Bp,Bp,Bool.not_eq_false',bR,jr,jr]at h;omega
def WW(x y:List RQ)(A:Nat)(hp:∀a∈x,Fit A a.q)(hl:x.length<1099511627776:=by omega)(hl2:y.length<1099511627776:=by omega)(hA:A<=1073741824:=by omega):aX prog 52 [(.one (sR x):aQ),(.one (sR y):aQ)] (.ret [.one (.bool (mM (x.map RQ.q) (y.map RQ.q)))]):=by
 refine eD func52 bb5 ?_;have lx:(x.map RQ.q).length=x.length:=aL _;have ly:(y.map RQ.q).length=y.length:=aL _;apply vn (ae jK (aL _));apply vn kz;refine l4 ?_ ?_<;>intro h2
 .apply vn (ae jK (aL _));apply vn nR;refine l4 ?_ ?_<;>intro h5
  .apply vn (ae jK (aL _));apply vn (ae jK (aL _));apply vn cW;refine l4 ?_ ?_<;>intro h9
   .apply aA (aQ5 x true A hl hp hA);dsimp only[aU,aV];rw[mM,bz (show 2<=(x.map RQ.q).length by omega),bz (show(x.map RQ.q).length<=40 by omega),bz (show(y.map RQ.q).length=(x.map RQ.q).length by omega)];exact aR
   rw[mM,bz (show 2<=(x.map RQ.q).length by omega),bz (show(x.map RQ.q).length<=40 by omega),dn (show ¬(y.map RQ.q).length=(x.map RQ.q).length by omega)];exact aR
  rw[mM,bz (show 2<=(x.map RQ.q).length by omega),dn (show ¬(x.map RQ.q).length<=40 by omega)];exact aR
 rw[mM,dn (show ¬2<=(x.map RQ.q).length by omega)];exact aR
open Go Go.Proofs Go.RowKit Tryz Ord
def rJ(p:c4):Nat->List Rat
 | 0=>p
 | r+1=>mU (rJ p r)
theorem BC(p:c4):∀r,(rJ p r).length<=p.length
 | 0=>ah _
 | r+1=>by have:=wj (rJ p r);have:=BC p r;rw[rJ];omega
theorem an3{A:Nat}{p:c4}(hA:1<=A)(hl:p.length<=9)(h:∀a∈p,Fit A a):∀r,∀a∈rJ p r,Fit (A+12*r) a
 | 0=>h
 | r+1=>fun a ha=>(Td O (an3 hA hl h r) (by have:=BC p r;omega) a ha).mono O
def TE(x v:Rat)(r:Nat)(s:List Rat×List Rat):Rat:=Va (v-jk (rJ s.1 r) x) (jk (rJ s.2 r) x)
def SG(x v:Rat)(r:Nat)(s:List Rat×List Rat):List Rat×List Rat:=(pA s.1 (Vw s.2 (TE x v r s)),gk s.2 [-x,((1:Int):Rat)])
def vX(x:Rat)(vs:c4)(s:List Rat×List Rat):Nat->List Rat×List Rat
 | 0=>s
 | r+1=>SG x (vs.getD r 0) r (vX x vs s r)
attribute [local go_sem] Oper.semAt_some
end Go.Sy
