/- Part. -/
import Derived.Test.YtacgmapjhpghkaaGreatDoorXc
set_option linter.all false
namespace Go.Sy
open Go Go.Proofs Tryz Ord
open Go Go.Proofs Go.RowKit Tryz Ord
attribute [local go_sem] Oper.semAt_some
end Go.Sy
namespace Go.Sy
open Go Go.Proofs Tryz Ord
def am0(v:Nat->Rat)(t:Rat)(i F P S:Nat):Prop:=∃p q s,v i=p-q*v (i+1)-s*t/\0<=q/\q<=1/\s<=1-q/\-(1-q)<=s/\Fit F q/\Fit P p/\Fit S s
theorem am0.mono{v:Nat->Rat}{t:Rat}{i F P S F' P' S':Nat}(h:am0 v t i F P S)(hF:F<=F')(hP:P<=P')(hS:S<=S'):am0 v t i F' P' S':=by
 obtain⟨p,q,s,h1,h2,h3,h4,h5,h6,h7,h8⟩:=h;exact⟨p,q,s,h1,h2,h3,h4,h5,h6.mono hF,h7.mono hP,h8.mono hS⟩
theorem am0.next{v:Nat->Rat}{t:Rat}{i F P S H G:Nat}{a b g:Rat}(h:am0 v t i F P S)(ha:0<a)(hb:0<b)(fa:Fit H a)(fb:Fit H b)(fg:Fit G g)
  (e:a*v i+(a+b)*2*v (i+1)+b*v (i+2)=g):am0 v t (i+1) (F+(4*H+6)) (P+F+G+(4*H+8)) (S+F+(4*H+6)):=by
 obtain⟨p,q,s,hv,h0,h1,uY,qj,fq,fp,fs⟩:=h;have haq:0<=a*(1-q):=Rat.mul_nonneg (sq ha) (by grind);have has1:a*s<=a*(1-q):=af2 uY (sq ha);have has2:a * -(1-q)<=a*s:=af2 qj (sq ha);have hD0:0<(a+b)*2-a*q:=by grind
 have hDs1:b+a*s<=(a+b)*2-a*q:=by grind
 have hDs2:b-a*s<=(a+b)*2-a*q:=by grind
 have hD:b<=(a+b)*2-a*q:=by grind
 have fD:Fit (3*H+F+4) ((a+b)*2-a*q):=(((fa.add fb).mul QQ).sub (fa.mul fq)).mono (by omega);generalize hDD:(a+b)*2-a*q=D at *;have hne:D≠0:=by intro e;rw[e]at hD0;exact absurd hD0 (by decide)
 have hb2:b/D*D=b:=oQ hne;have hp2:(g-a*p)/D*D=g-a*p:=oQ hne;have hs3:-(a*s)/D*D=-(a*s):=oQ hne;refine⟨(g-a*p)/D,b/D,-(a*s)/D,?_,?_,?_,?_,?_,(fb.div fD).mono (by omega),((fg.sub (fa.mul fp)).div fD).mono (by omega),((fa.mul fs).neg.div fD).mono (by omega)⟩
 ·generalize (g-a*p)/D=p' at *;generalize b/D=q' at *;generalize -(a*s)/D=s' at *
  have h3:(v (i+1)-(p'-q'*v (i+2)-s'*t))*D=0:=by
   rw[hv]at e;have e2:v (i+1)*D=v (i+1)*((a+b)*2-a*q):=by rw[hDD]
   grind
  rcases nz.1 h3 with h4 | h4
  ·grind
  ·exact absurd h4 hne
 ·refine fu.1 fun hn=>?_;have:=sy (show 0 < -(b/D) by grind) hD0
  grind
 ·refine fu.1 fun hn=>?_;have:=sy (show 0<b/D-1 by grind) hD0
  grind
 ·refine fu.1 fun hn=>?_;have:=sy (show 0 < -(a*s)/D-(1-b/D) by grind) hD0
  grind
 ·refine fu.1 fun hn=>?_;have:=sy (show 0 < -(1-b/D) - -(a*s)/D by grind) hD0
  grind
end Go.Sy
