/- Part. -/
import Derived.Test.YtacgmapjhpghkaaGreatDoorXa
import Derived.Test.YtacgmapjhpghkaaGreatDoorWf
set_option linter.all false
namespace Go.Sy
open Go Go.Proofs Tryz Ord
def am2(A:Nat)(ps:List (List Rat)):Prop:=∀p∈ps,p.length<=4/\∀a∈p,Fit A a
theorem am2.dv{A:Nat}{ps:List (List Rat)}(hA:1<=A)(h:am2 A ps):am2 (A+12) (yD ps):=fun p hp=>by
 obtain⟨q,hq,rfl⟩:=dn.1 hp;have:=h q hq;have hl:=vA q;exact⟨by omega,PU hA this.2 (by omega)⟩
def uZ:Tr:=.ret [(W 4 0)]
def tL:Tr:=.back 0 [(.w (W 3 0)),(.w (W 9 0))]
def uM:Tr:=.need (.prim [(W 4 0),(WK (1))] none) (.binOp .add 3 (.tmp 8) (.const (I3 (1))) 3) 3 false tL
def uD:Tr:=.split (.u 8 0) uZ uM
def tl:Tr:=.need (.callv (.u 1 0) [(.agg [(U 7 0),(U 7 1),(U 7 2),(U 7 3)])] [none]) (.call ⟨.value (.tmp 11),#[(.tmp 15)],#[97]⟩) 4 true uD
def uW:Tr:=.need (.prim [(W 6 0)] (some 4)) (.load 97 (.tmp 14)) 97 false tl
def tc:Tr:=.need (.prim [(W 0 0),(W 4 0)] none) (.indexAddr 90 (.tmp 12) (.tmp 13)) 0 false uW
def tJ:Tr:=.ret [(WK (-1))]
def uN:Tr:=.split (.u 5 0) tc tJ
def uK:Tr:=.need (.prim [(W 4 0),(W 2 0)] none) (.binOp .lss 3 (.tmp 8) (.tmp 7) 3) 0 false uN
def ub:Tr:=.loop 0 [(.w (WK (0))),(.w (WK (0)))] uK
def tf:Tr:=.need (.prim [(W 0 0)] none) (.call ⟨.builtin .len,#[(.tmp 6)],#[90]⟩) 3 false ub
theorem xX:aV prog f192 dE [.v none,.v none]=tf:=by kernel_rfl
def aF6:Tr:=cD 3
def bp6:Tr:=jB 192 0 0 1 5 6 90 175 3 (nL 2 0 7 aF6)
theorem zL:aV prog f122 dE [.v none,.v none]=bp6:=by kernel_rfl
def bH3:Tr:=UD 0 1 5 7 (gQ 2 0 0 3 8 aF6)
theorem Pv:aV prog f123 dE [.v (some 4),.ref 4]=bH3:=by kernel_rfl
def KV:Tr:=.fail 1011
def Ep:Tr:=.fail 1011
def Bq:Tr:=.back 0 [(.w (W 2 0)),(.w (W 3 0)),(.w (W 14 0)),(.w (W 15 0))]
def Es:Tr:=.need (.prim [(W 5 0),(WK (1))] none) (.binOp .add 3 (.tmp 19) (.const (I3 (1))) 3) 3 false Bq
def CW:Tr:=.need (.prim [(W 4 0),(W 13 0)] none) (.binOp .add 3 (.tmp 33) (.tmp 36) 3) 3 false Es
def Dt:Tr:=.need (.prim [(W 8 3)] none) (.call ⟨.builtin .len,#[(.tmp 35)],#[28]⟩) 3 false CW
def FI:Tr:=.split (.u 12 0) Ep Dt
def BM:Tr:=.need (.prim [(W 11 0),(WK (6))] none) (.binOp .gtr 3 (.tmp 30) (.const (I3 (6))) 3) 4 false FI
def DU:Tr:=.need (.prim [(W 8 3)] none) (.call ⟨.builtin .len,#[(.tmp 29)],#[28]⟩) 3 false BM
def KY:Tr:=.split (.u 10 0) KV DU
def Lm:Tr:=.need (.prim [(W 9 0),(WK (1))] none) (.binOp .lss 3 (.tmp 25) (.const (I3 (1))) 3) 4 false KY
def HX:Tr:=.need (.prim [(W 8 3)] none) (.call ⟨.builtin .len,#[(.tmp 24)],#[28]⟩) 3 false Lm
def JY:Tr:=.need (.prim [(W 7 0)] (some 4)) (.load 97 (.tmp 21)) 97 false HX
def HC:Tr:=.need (.prim [(W 0 0),(W 5 0)] none) (.indexAddr 90 (.tmp 17) (.tmp 19)) 0 false JY
def GU:Tr:=.fail 1011
def Fq:Tr:=.fail 1011
def FL:Tr:=.back 0 [(.w (W 9 0)),(.w (W 10 0)),(.w (W 17 0))]
def Bt:Tr:=.need (.prim [(W 11 0),(WK (1))] none) (.binOp .add 3 (.tmp 43) (.const (I3 (1))) 3) 3 false FL
def BC:Tr:=.split (.u 16 0) Fq Bt
def CP:Tr:=.need (.call 122 [(W 15 0),(.one (.gU 123 [(.ref 0 [(.u 14 0),(.u 14 1),(.u 14 2),(.u 14 3)])]))] [none]) (.call ⟨.value (.func 122),#[(.tmp 50),(.tmp 51)],#[90,175]⟩) 4 true BC
def DK:Tr:=.need (.prim [(W 0 0),(W 11 0)] none) (.slice 90 (.tmp 48) none (some (.tmp 49)) none) 90 false CP
def BZ:Tr:=.need (.prim [(W 13 0)] (some 4)) (.load 97 (.tmp 46)) 97 false DK
def FJ:Tr:=.need (.prim [(W 0 0),(W 11 0)] none) (.indexAddr 90 (.tmp 41) (.tmp 43)) 0 false BZ
def Cv:Tr:=.ret [(W 0 0),(.one (.c (.k (.slice none 0 0)))),(.one (.c (.sr 3 14)))]
def Dm:Tr:=.need (.lit 3 [[(.u 13 0),(.u 13 1),(.u 13 2)]]) (.buildSlice 98 1 #[(0,(.tmp 54))]) 98 false Cv
def FF:Tr:=.need (.call 113 [(WK (1))] [(some 3)]) (.call ⟨.value (.func 113),#[(.const (I3 (1)))],#[3]⟩) 46 true Dm
def GP:Tr:=.split (.u 12 0) FJ FF
def EN:Tr:=.need (.prim [(W 11 0),(W 8 0)] none) (.binOp .lss 3 (.tmp 43) (.tmp 42) 3) 0 false GP
def Fa:Tr:=.loop 0 [(.w (W 2 0)),(.w (W 3 0)),(.w (WK (0)))] EN
def GK:Tr:=.need (.prim [(W 0 0)] none) (.call ⟨.builtin .len,#[(.tmp 41)],#[90]⟩) 3 false Fa
def Gw:Tr:=.split (.u 7 0) GU GK
def Gi:Tr:=.need (.prim [(W 4 0),(WK (41))] none) (.binOp .gtr 3 (.tmp 39) (.const (I3 (41))) 3) 4 false Gw
def KB:Tr:=.split (.u 6 0) HC Gi
def Iq:Tr:=.need (.prim [(W 5 0),(W 1 0)] none) (.binOp .lss 3 (.tmp 19) (.tmp 18) 3) 0 false KB
def IK:Tr:=.loop 0 [(.w (.one (.c (.k (.slice none 0 0))))),(.w (WK (0))),(.w (WK (0))),(.w (WK (0)))] Iq
def HU:Tr:=.need (.prim [(W 0 0)] none) (.call ⟨.builtin .len,#[(.tmp 17)],#[90]⟩) 3 false IK
theorem SK:ae prog 105 (fun _=>none) (aI [] (aL f45)) [(0,.v none)] ([0,9,10].map ResultVar.tmp) (some 5) false=HU:=by kernel_rfl
abbrev Jt:=Rat×List Rat
abbrev rG(j:Jt):List aC:=qC j.1++[sQ j.2]
abbrev sJ(l:List Jt):aC:=.slice 4 (l.map rG)
theorem wZ(a b:Jt)(A:Nat)(ha:Fit A a.1)(hb:Fit A b.1)(hA:A<=10000000):aW prog 123 [(.agg (rG a):aK),(.one (.aq (rG b)):aK)] (.ret [.one (.bool (decide (a.1=b.1)))]):=by
 refine dvr (ins:=[.v (.agg (rG a)),.ref (rG b)]) func123 Pv ?_;apply aA (ot a.1 b.1 A A ha hb);apply vn cF;dsimp only[aF,aG];rw[show decide (a.1=b.1)=decide (gy a.1 b.1=0) by rw[jZ];exact Nr.symm];exact aM
theorem xA(e:List Jt)(g:Nat)(caps:List aC)(c:Jt->Bool)(hc:∀p∈e,aW prog g (.agg (rG p)::caps.map .one) (.ret [.one (.bool (c p))]))(hs:e.length<1099511627776):aW prog 192 [(.one (sJ e):aK),(.one (.gU g caps):aK)] (.ret [.one (.int .i64 (kC c e 0))]):=by
 refine eB func192 xX ?_;apply vn (aR vK (aJ _));refine bG {i:Nat // i<=e.length/\kC c e 0=kC c (e.drop i) i} (fun g=>[.one (.int .i64 0),.one (.int .i64 g.1)]) (fun g=>e.length-g.1) ⟨0,cL _,rfl⟩ aX.rfl (fun _=>rfl) ?_;rintro⟨i,hi,hf⟩;dsimp only[aF,aG]at hi hf|-;apply vn an;refine vs _ rfl ?_ ?_<;>intro h3
 ·obtain⟨p,hp⟩:∃p,e[i]?=some p:=⟨_,bB (by omega)⟩
  have hdrop:e.drop i=p::e.drop (i+1):=by
   rw[iG (by omega),(bg.1 hp).2]
  rw[hdrop,kC]at hf;apply vn (aN vK (by omega) (by omega) hp);apply vn (ab ag6 (by decide) (by simp) (.inl rfl));apply xk (f:=g) (caps:=caps) rfl (hc p (cq hp)) rfl;dsimp only[aF,aG];refine tK (c p) rfl (fun h7=>?_) (fun h7=>?_)
  ·rw[hf,aD h7];exact aM
  apply vn (aB (by omega) (by omega));dsimp only[aF,aG];exact af rfl ⟨⟨i+1,by omega,by rw[hf,aH (by simp[h7])]⟩,aX.rfl,by show e.length-(i+1)<e.length-i;omega⟩
 rw[hf,kV (by omega),kC];exact aM
theorem qk(e:List Jt)(g:Nat)(caps:List aC)(c:Jt->Bool)(hc:∀p∈e,aW prog g (.agg (rG p)::caps.map .one) (.ret [.one (.bool (c p))]))(hs:e.length<1099511627776):aW prog 122 [(.one (sJ e):aK),(.one (.gU g caps):aK)] (.ret [.one (.bool (e.any c))]):=by
 refine eB func122 zL ?_;apply aA (xA e g caps c hc hs);apply vn jy;dsimp only[aF,aG];rw[<-El c e 0];exact aM
def dP(l:List Jt)(i:Nat):Jt:=l.getD i (0,[])
theorem tj{l:List Jt}{i:Nat}(h:i<l.length):l[i]?=some (dP l i):=by rw[dP,ew,bB h];rfl
theorem lR{l:List Jt}{i:Nat}(h:i<l.length):dP l i∈l:=cq (tj h)
def fI(l:List Jt):Nat->Nat
 | 0=>0
 | i+1=>fI l i+(dP l i).2.length
structure JOk(A:Nat)(l:List Jt):Prop where
 hA1:1<=A
 hA:A<=10000000
 hl:l.length<=50
 el:∀j∈l,Fit A j.1/\1<=j.2.length/\j.2.length<=6/\∀v∈j.2,Fit A v
 sum:fI l l.length<=41
 once:∀i,i<l.length->(l.take i).any (fun k=>decide (k.1=(dP l i).1))=false
theorem YL{l:List Jt}{A:Nat}(J:JOk A l):∀i,i<=l.length->fI l i<=6*i
 | 0,_=>aY _
 | i+1,h=>by
   have h1:=YL J i (by omega);have h2:=(J.el _ (lR (show i<l.length by omega))).2.2.1;rw[fI];omega
theorem bk9(l:List Jt)(A:Nat)(J:JOk A l):vc prog (fun o=>bC o (.ret [.one (sJ l),.one (.exact (.slice none 0 0)),.one (sQ [1])])) (ae prog 105 (fun _=>none) (aI [] (aL f45)) [(0,.v none)] ([0,9,10].map ResultVar.tmp) (some 5) false) ([.v (.one (sJ l))].map In.env) []:=by
 rw[SK];dsimp only[List.map,In.env,aF,aG];have hl:=J.hl;apply vn (aR vK (aJ _));refine bG {i:Nat // i<=l.length} (fun g=>[.one (.exact (.slice none 0 0)),.one (.int .i64 0),.one (.int .i64 (fI l g.1:Nat)),.one (.int .i64 (g.1:Int))]) (fun g=>l.length-g.1) ⟨0,cL _⟩ aX.rfl (fun _=>rfl) ?_;rintro⟨i,hi⟩;have hsi:=YL J i hi;dsimp only[aF,aG]at hi|-;apply vn an;refine vs _ rfl ?_ ?_<;>intro h3
 ·have hi':i<l.length:=by omega
  have hje:=J.el _ (lR hi');apply vn (aN (f:=rG) (xs:=l) vK (m:=i) (by omega) (al i) (tj hi'));apply vn (ab ag6 (by decide) (by simp) (.inl rfl));apply vn (aR bK (aJ _));dsimp only[aF,aG];apply vn an;refine vs _ rfl ?_ ?_<;>intro h8
  ·exact absurd h8 (by omega)
  apply vn (aR bK (aJ _));apply vn fC;refine vs _ rfl ?_ ?_<;>intro h12
  ·exact absurd h12 (by omega)
  apply vn (aR bK (aJ _));dsimp only[aF,aG];apply vn (aB (by omega) (by omega));apply vn (aB (by omega) (by omega));dsimp only[aF,aG];exact af rfl ⟨⟨i+1,by omega⟩,aX.rfl,by show l.length-(i+1)<l.length-i;omega⟩
 apply vn fC;refine vs _ rfl ?_ ?_<;>intro h19
 ·have hs:=J.sum;rw[show l.length=i by omega]at hs;exact absurd h19 (by omega)
 apply vn (aR vK (aJ _));refine bG {i:Nat // i<=l.length} (fun g=>[.one (.exact (.slice none 0 0)),.one (.int .i64 0),.one (.int .i64 (g.1:Int))]) (fun g=>l.length-g.1) ⟨0,cL _⟩ aX.rfl (fun _=>rfl) ?_;rintro⟨j,hj⟩;dsimp only[aF,aG]at hj|-;apply vn an;refine vs _ rfl ?_ ?_<;>intro h24
 ·have hj':j<l.length:=by omega
  have hje:=J.el _ (lR hj');apply vn (aN (f:=rG) (xs:=l) vK (m:=j) (by omega) (al j) (tj hj'));apply vn (ab ag6 (by decide) (by simp) (.inl rfl));dsimp only[aF,aG];apply vn (sd vK (show j<=l.length by omega));apply aA (qk (l.take j) _ [.aq (rG (dP l j))] (fun k=>decide (k.1=(dP l j).1)) (fun p hp=>wZ p (dP l j) A (J.el p (jH hp)).1 hje.1 J.hA) (by rw[bL];omega)) rfl;rw[J.once j hj'];refine tK false rfl (fun h=>by cases h) (fun _=>?_);apply vn (aB (by omega) (by omega));dsimp only[aF,aG];exact af rfl ⟨⟨j+1,by omega⟩,aX.rfl,by show l.length-(j+1)<l.length-j;omega⟩
 apply aA (eH 1);apply fB (us:=[qC ((1:Int):Rat)]);exact aM
open Go Go.Proofs Go.RowKit Tryz Ord
def Df:Tr:=.back 2 [(.w (W 21 0)),(.w (W 22 0)),(.w (W 23 0))]
def DJ:Tr:=.need (.prim [(W 19 0),(WK (1))] none) (.binOp .add 3 (.tmp 73) (.const (I3 (1))) 3) 3 false Df
def EA:Tr:=.need (.call 124 [(W 18 0)] [none]) (.call ⟨.value (.func 124),#[(.tmp 77)],#[98]⟩) 98 true DJ
def FY:Tr:=.need (.call 124 [(W 17 0)] [none]) (.call ⟨.value (.func 124),#[(.tmp 75)],#[98]⟩) 98 false EA
def EP:Tr:=.back 1 [(.w (W 26 0)),(.w (W 30 0)),(.w (W 31 0))]
def GH:Tr:=.need (.prim [(W 13 0),(WK (1))] none) (.binOp .add 3 (.tmp 65) (.const (I3 (1))) 3) 3 false EP
def Co:Tr:=.need (.call 64 [(W 12 0),(.one (.c (.sr 3 29)))] [none]) (.call ⟨.value (.func 64),#[(.tmp 95),(.tmp 100)],#[98,98]⟩) 98 true GH
def DI:Tr:=.need (.lit 3 [[(.u 27 0),(.u 27 1),(.u 27 2)],[(.u 28 0),(.u 28 1),(.u 28 2)]]) (.buildSlice 98 2 #[(0,(.tmp 98)),(1,(.tmp 99))]) 98 false Co
def Gy:Tr:=.need (.call 113 [(WK (1))] [(some 3)]) (.call ⟨.value (.func 113),#[(.const (I3 (1)))],#[3]⟩) 46 true DI
def BI:Tr:=.need (.call 65 [(.agg [(U 9 0),(U 9 1),(U 9 2)])] [(some 3)]) (.call ⟨.value (.func 65),#[(.tmp 97)],#[46]⟩) 46 false Gy
def Cu:Tr:=.need (.call 66 [(W 11 0),(W 25 0)] [none]) (.call ⟨.value (.func 66),#[(.tmp 80),(.tmp 93)],#[98,98]⟩) 98 true BI
def GI:Tr:=.need (.call 125 [(W 12 0),(.agg [(U 24 0),(U 24 1),(U 24 2)])] [none]) (.call ⟨.value (.func 125),#[(.tmp 81),(.tmp 92)],#[98,46]⟩) 98 true Cu
def DE:Tr:=.need (.call 112 [(.agg [(U 22 0),(U 22 1),(U 22 2)]),(.agg [(U 23 0),(U 23 1),(U 23 2)])] [(some 3)]) (.call ⟨.value (.func 112),#[(.tmp 87),(.tmp 91)],#[46,46]⟩) 46 false GI
def Ec:Tr:=.need (.call 79 [(W 18 0),(.agg [(U 9 0),(U 9 1),(U 9 2)])] [(some 3)]) (.call ⟨.value (.func 79),#[(.tmp 88),(.tmp 90)],#[98,46]⟩) 46 false DE
def Bi:Tr:=.need (.call 86 [(.agg [(U 16 0),(U 16 1),(U 16 2)]),(.agg [(U 21 0),(U 21 1),(U 21 2)])] [(some 3)]) (.call ⟨.value (.func 86),#[(.tmp 82),(.tmp 86)],#[46,46]⟩) 46 false Ec
def EJ:Tr:=.need (.call 79 [(W 17 0),(.agg [(U 9 0),(U 9 1),(U 9 2)])] [(some 3)]) (.call ⟨.value (.func 79),#[(.tmp 83),(.tmp 85)],#[98,46]⟩) 46 false Bi
def FG:Tr:=.split (.u 20 0) FY EJ
def FB:Tr:=.need (.prim [(W 19 0),(W 13 0)] none) (.binOp .lss 3 (.tmp 73) (.tmp 72) 3) 4 false FG
def CJ:Tr:=.loop 2 [(.w (W 11 0)),(.w (W 12 0)),(.w (WK (0)))] FB
def CE:Tr:=.need (.prim [(W 15 0)] (some 3)) (.load 46 (.tmp 68)) 46 false CJ
def BF:Tr:=.need (.prim [(W 9 3),(W 13 0)] none) (.indexAddr 28 (.tmp 63) (.tmp 65)) 0 false CE
def Fm:Tr:=.back 0 [(.w (W 11 0)),(.w (W 12 0)),(.w (W 15 0))]
def Fv:Tr:=.need (.prim [(W 6 0),(WK (1))] none) (.binOp .add 3 (.tmp 58) (.const (I3 (1))) 3) 3 false Fm
def Ho:Tr:=.split (.u 14 0) BF Fv
def Ik:Tr:=.need (.prim [(W 13 0),(W 10 0)] none) (.binOp .lss 3 (.tmp 65) (.tmp 64) 3) 0 false Ho
def JK:Tr:=.loop 1 [(.w (W 4 0)),(.w (W 5 0)),(.w (WK (0)))] Ik
def Hl:Tr:=.need (.prim [(W 9 3)] none) (.call ⟨.builtin .len,#[(.tmp 63)],#[28]⟩) 3 false JK
def Li:Tr:=.need (.prim [(W 8 0)] (some 4)) (.load 97 (.tmp 60)) 97 false Hl
def HM:Tr:=.need (.prim [(W 0 0),(W 6 0)] none) (.indexAddr 90 (.tmp 56) (.tmp 58)) 0 false Li
def EH:Tr:=.ret [(W 4 0),(WK (0))]
def KS:Tr:=.split (.u 7 0) HM EH
def IE:Tr:=.need (.prim [(W 6 0),(W 3 0)] none) (.binOp .lss 3 (.tmp 58) (.tmp 57) 3) 0 false KS
def HF:Tr:=.loop 0 [(.w (W 1 0)),(.w (W 2 0)),(.w (WK (0)))] IE
def Hk:Tr:=.need (.prim [(W 0 0)] none) (.call ⟨.builtin .len,#[(.tmp 56)],#[90]⟩) 3 false HF
theorem UY:ae prog 105 (fun _=>none) (aI [1,1,1,1,1,1] (aL f45)) [(0,.v none),(9,.v none),(10,.v none)] f45.results.toList none true=Hk:=by kernel_rfl
theorem aM6(p q:List Rat)(A:Nat)(hp:∀a∈p,Fit A a)(hq:∀a∈q,Fit A a)(hl:p.length<=9)(hl2:q.length<=9)(hA:A<=100000000):aW prog 64 [.one (sQ p),.one (sQ q)] (.ret [.one (sQ (en p q))]):=by
 refine Xw p q (MM p) (MM q) (2^A) (2^A) (20*A+20) (Ai p) (Ai q) (fun a ha=>sk (hp a ha) (wg ha)) (fun a ha=>sk (hq a ha) (wg ha)) ?_;have h1:MM p<=2^(9*A):=bF (zn hp) (ey (by omega) (by rw[bo];exact bu _ hl));have h2:MM q<=2^(9*A):=bF (zn hq) (ey (by omega) (by rw[bo];exact bu _ hl2));have hx:1<=2^A:=mb;have h3:2^A+1<=2^(A+1):=by rw[bW];omega
 have h4:(p.length+1)*((2^A+1)*(2^A+1))<=2^(2*A+6):=by
  have:=eD (show p.length+1<=2^4 by omega) (eD h3 h3);rw[<-bz,<-bz]at this
  rwa[show 4+(A+1+(A+1))=2*A+6 by omega]at this
 have:=eD (eD h1 h2) h4;rw[<-bz,<-bz]at this;exact dV this (nq (by omega) (by omega))
def gT(p:List Rat):Nat->List Rat
 | 0=>p
 | r+1=>nX (gT p r)
theorem mV(p:List Rat):∀r,(gT p r).length<=p.length
 | 0=>aY _
 | r+1=>by have:=vA (gT p r);have:=mV p r;rw[gT];omega
theorem Ah{A:Nat}{p:List Rat}(hA:1<=A)(hl:p.length<=9)(h:∀a∈p,Fit A a):∀r,∀a∈gT p r,Fit (A+12*r) a
 | 0=>h
 | r+1=>fun a ha=>(PU (by omega) (Ah hA hl h r) (by have:=mV p r;omega) a ha).mono (by omega)
def ou(x v:Rat)(r:Nat)(s:List Rat×List Rat):Rat:=RC (v-gG (gT s.1 r) x) (gG (gT s.2 r) x)
def rY(x v:Rat)(r:Nat)(s:List Rat×List Rat):List Rat×List Rat:=(kq s.1 (yU s.2 (ou x v r s)),en s.2 [-x,((1:Int):Rat)])
def ji(x:Rat)(vs:List Rat)(s:List Rat×List Rat):Nat->List Rat×List Rat
 | 0=>s
 | r+1=>rY x (vs.getD r 0) r (ji x vs s r)
def kB(l:List Jt):Nat->List Rat×List Rat
 | 0=>([],[1])
 | j+1=>ji (dP l j).1 (dP l j).2 (kB l j) (dP l j).2.length
structure SmS(A:Nat)(s:List Rat×List Rat):Prop where
 l1:s.1.length<=9
 l2:s.2.length<=9
 f1:∀a∈s.1,Fit A a
 f2:∀a∈s.2,Fit A a
theorem Zi{p:List Rat}{A:Nat}{x:Rat}(hA:1<=A)(hl:p.length<=9)(hp:∀a∈p,Fit A a)(hx:Fit A x):Fit (9*(2*A+1)+1) (gG p x):=
 (sW hA hx p hp).mono (by have:=bu (2*A+1) hl;omega)
theorem Yl{p:List Rat}{A:Nat}(hl:p.length<=9):p.length*(2*A+2)<=9*(2*A+2):=bu _ hl
set_option maxHeartbeats 1000000 in
theorem bz6(l:List Jt)(A:Nat)(J:JOk A l)(hst:∀j r,j<l.length->r<=(dP l j).2.length->SmS A (ji (dP l j).1 (dP l j).2 (kB l j) r)):vc prog (fun o=>bC o (.ret [.one (sQ (kB l l.length).1),.one (.int .i64 0)])) (ae prog 105 (fun _=>none) (aI [1,1,1,1,1,1] (aL f45)) [(0,.v none),(9,.v none),(10,.v none)] f45.results.toList none true) ([.v (.one (sJ l)),.v (.one (sQ [])),.v (.one (sQ [1]))].map In.env) []:=by
 rw[UY];dsimp only[List.map,In.env,aF,aG];have hl:=J.hl;have hA:=J.hA;have hA1:=J.hA1;apply vn (aR vK (aJ _));refine bG {j:Nat // j<=l.length} (fun g=>[.one (sQ (kB l g.1).1),.one (sQ (kB l g.1).2),.one (.int .i64 (g.1:Int))]) (fun g=>l.length-g.1) ⟨0,cL _⟩ aX.rfl (fun _=>rfl) ?_;rintro⟨j,hj⟩;dsimp only[aF,aG]at hj|-;apply vn an;refine vs _ rfl ?_ ?_<;>intro h3
 ·have hj':j<l.length:=by omega
  obtain⟨fx,hv1,hv6,fv⟩:=J.el _ (lR hj');have hsj:=fun r hr=>hst j r hj' hr;apply vn (aN (f:=rG) (xs:=l) vK (m:=j) (by omega) (al j) (tj hj'));apply vn (ab ag6 (by decide) (by simp) (.inl rfl));apply vn (aR bK (aJ _));dsimp only[aF,aG];refine bG {r:Nat // r<=(dP l j).2.length} (fun g=>[.one (sQ (ji (dP l j).1 (dP l j).2 (kB l j) g.1).1),.one (sQ (ji (dP l j).1 (dP l j).2 (kB l j) g.1).2),.one (.int .i64 (g.1:Int))]) (fun g=>(dP l j).2.length-g.1) ⟨0,cL _⟩ aX.rfl (fun _=>rfl) ?_;rintro⟨r,hr⟩;dsimp only[aF,aG]at hr|-;apply vn an;refine vs _ rfl ?_ ?_<;>intro h9
  ·have hr':r<(dP l j).2.length:=by omega
   obtain⟨s1,s2,s3,s4⟩:=hsj r hr;have hnx:ji (dP l j).1 (dP l j).2 (kB l j) (r+1)=rY (dP l j).1 ((dP l j).2.getD r 0) r (ji (dP l j).1 (dP l j).2 (kB l j) r):=rfl;generalize ji (dP l j).1 (dP l j).2 (kB l j) r=s at s1 s2 s3 s4 hnx|-;apply vn (aN bK (m:=r) (by omega) (al r) (aZ hr'));apply vn (ab cn (by decide) (by simp) (.inl rfl));refine bG {k:Nat // k<=r} (fun g=>[.one (sQ (gT s.1 g.1)),.one (sQ (gT s.2 g.1)),.one (.int .i64 (g.1:Int))]) (fun g=>r-g.1) ⟨0,cL _⟩ aX.rfl (fun _=>rfl) ?_;rintro⟨k,hk⟩;have k1:=mV s.1 k;have k2:=mV s.2 k;have k3:=Ah hA1 s1 s3 k;have k4:=Ah hA1 s2 s4 k;dsimp only[aF,aG]at hk|-;apply vn an;refine vs _ rfl ?_ ?_<;>intro h14
   ·apply aA (xS (gT s.1 k) (A+12*k) k3);apply aA (xS (gT s.2 k) (A+12*k) k4);apply vn (aB (by omega) (by omega));dsimp only[aF,aG];exact af rfl ⟨⟨k+1,by omega⟩,aX.rfl,by show r-(k+1)<r-k;omega⟩
   obtain rfl:r=k:=by omega
   have fv':=aE fv r hA1;have e1:=Zi (x:=(dP l j).1) (by omega) (by omega) k3 (fx.mono (by omega));have e2:=Zi (x:=(dP l j).1) (by omega) (by omega) k4 (fx.mono (by omega));have n1:=Yl (A:=A+12*r) (show(gT s.1 r).length<=9 by omega);have n2:=Yl (A:=A+12*r) (show(gT s.2 r).length<=9 by omega);apply aA (Aq (gT s.1 r) (dP l j).1 (A+12*r) k3 (fx.mono (by omega)));apply aA (kO _ _ A _ fv' e1);apply aA (Aq (gT s.2 r) (dP l j).1 (A+12*r) k4 (fx.mono (by omega)));apply aA (mj _ _ _ _ (fv'.sub e1) e2);dsimp only[aF,aG];have fc:Fit (100*A+10000) (ou (dP l j).1 ((dP l j).2.getD r 0) r s):=(OT (fv'.sub e1) e2).mono (by omega);rw[show RC ((dP l j).2.getD r 0-gG (gT s.1 r) (dP l j).1) (gG (gT s.2 r) (dP l j).1)=ou (dP l j).1 ((dP l j).2.getD r 0) r s from rfl];apply aA (DH s.2 _ A (100*A+10000) hA1 s4 fc);apply aA (Pn s.1 (yU s.2 (ou (dP l j).1 ((dP l j).2.getD r 0) r s)) A (A+(100*A+10000)) s3 (Qx hA1 s4 fc) (by have:=wE s.2 (ou (dP l j).1 ((dP l j).2.getD r 0) r s);omega) hA1) rfl;apply aA (Pp (dP l j).1);apply aA (eH 1);dsimp only[aF,aG];apply fB (us:=[qC (-(dP l j).1),qC ((1:Int):Rat)])
   apply aA (aM6 s.2 [-(dP l j).1,((1:Int):Rat)] A s4 (fun a ha=>by
    simp only[eU,wC,wm]at ha;rcases ha with rfl | rfl
    ·exact fx.neg
    ·exact Fit.int (n:=1) hA1 (br (show 1<2^1 by decide) (ey (by omega) hA1))) s2 (by simp) (by omega)) rfl
   apply vn (aB (by omega) (by omega));dsimp only[aF,aG];exact af rfl ⟨⟨r+1,by omega⟩,by rw[hnx];exact aX.rfl,by show(dP l j).2.length-(r+1)<(dP l j).2.length-r;omega⟩
  apply vn (aB (by omega) (by omega));dsimp only[aF,aG];exact af rfl ⟨⟨j+1,by omega⟩,by rw[kB,show(dP l j).2.length=r by omega];exact aX.rfl,by show l.length-(j+1)<l.length-j;omega⟩
 rw[show l.length=j by omega];exact aM
attribute [local go_sem] Oper.semAt_some
set_option maxRecDepth 100000 in
theorem WG(l:List Jt)(A:Nat)(J:JOk A l)(hst:∀j r,j<l.length->r<=(dP l j).2.length->SmS A (ji (dP l j).1 (dP l j).2 (kB l j) r)) :
  aW prog 45 [.one (sJ l)] (.ret [.one (sQ (kB l l.length).1),.one (.int .i64 0)]):=by
 refine⟨bA (by kernel_rfl),fun M w vs hM hv=>?_⟩;obtain⟨v0,rfl,_⟩:=pj hv;refine kM func45 rfl ?_;simp only[ntmps45,cb,ak,bX,Nat.reduceAdd,Nat.reduceSub,dk,dp,du,dr,List.nil_append,List.cons_append];refine Yc (n:=5) (N:=105) (ins:=[(0,.v none)]) (xs:=[.v (.one (sJ l))]) fo ⟨rfl,trivial⟩ (bk9 l A J) (by kernel_rfl) hM rfl rfl hv ?_ (by intro c v a' w' h;cases h);intro e a1 w1 rs us hrs hex hb1 hsz1 hdf1 hr1 hrep1;cases hrs;cases e with
 | exit id=>cases hex
 | ret=>cases hex
 | normal=>
 have huse:=bJ hr1;subst huse;obtain⟨e0,e9,e10,_⟩:=hrep1
 have e9:(sQ []).rep M w1 (a1.tmps.getD 9 undef):=by
  rw[show a1.tmps.getD 9 undef=.slice none 0 0 from e9.1];exact⟨none,0,rfl,by simp,by simp[maxLen],.inl rfl⟩
 have hM1:bQ M w1:=aa hM hb1;clear hr1 hex hv;show Code.wp _ (Db 5 _) _ _ _;simp only[Db];refine wB jO.wp (n0:=w1.heap.size) (N:=105) (ins:=[(0,.v none),(9,.v none),(10,.v none)]) (xs:=[.v (.one (sJ l)),.v (.one (sQ [])),.v (.one (sQ [1]))]) fo ⟨rfl,rfl,rfl,trivial⟩ (tR (bz6 l A J hst)) (by kernel_rfl) (aY _) hM1 hsz1 hdf1 ⟨e0,e9,e10,trivial⟩ ?_;intro e a2 w2 us2 he hb2 hsz2 hdf2 hr2 hrep2;have hres:=fQ f45 a2.tmps us2 hr2;have hpost:Below w.heap.size w w2/\∃vs,Ending.returned (pack us2)=.returned (pack vs)/\bZ M w2 [.one (sQ (kB l l.length).1),.one (.int .i64 0)] vs:=⟨hb1.trans (hb2.mono hb1.size),us2,rfl,hrep2⟩
 cases e with
 | exit id=>cases he
 | normal=>exact Ax hres hdf2 hpost
 | ret=>exact gC hres hdf2 hpost
end Go.Sy
