/- Part. -/
import Derived.Test.YtacgmapjhpghkaaGreatDoorXb
set_option linter.all false
namespace Go.Sy
open Go Go.Proofs Tryz Ord
theorem Zi (p:List Rat) (k x:Rat):ev (YJ p k) x=ev p x*k:=by
 rw [YJ,nP,show (List.range p.length).map (scI p k)=((List.range p.length).map fun i=>p.getD i 0).map (· * k) by rw [List.map_map];rfl,VA,wL x p p.length (aY _)]
theorem Zu (x a b:Rat):ev [a,b] x=a+b*x:=by rw [bM,bM,dY];grind
theorem BN (p z:List Rat) (c:Rat) {e0 e1 e2 e3:Rat} (h:∀ x,ev p x+ev z x*c=e0+e1*x+e2*x*x+e3*x*x*x):vB p (YJ z c)=mU e0 e1 e2 e3:=
 Hm (FW _ _) (sY _ _ _ _) fun x=>by rw [VG,Zi,eL,h]
theorem PJ (z:List Rat) (a:Rat) {e0 e1 e2 e3:Rat} (h:∀ x,ev z x*(x-a)=e0+e1*x+e2*x*x+e3*x*x*x):iM z [-a,((1:Int):Rat)]=mU e0 e1 e2 e3:=
 Hm (Ge _ _) (sY _ _ _ _) fun x=>by
  have e1:((1:Int):Rat)=1:=rfl;rw [Om,Zu,eL,<-h,e1];grind
theorem pr {α β:Type} {a c:α} {b d:β} (h1:a=c) (h2:b=d):(a,b)=(c,d):=by rw [h1,h2]
theorem Ve {a b:Rat} (h:b≠0):yG a b=a/b:=by rw [yG,if_neg h]
theorem aJ2 (a:Rat) {b:Rat} (h:b=1):yG a b=a:=by rw [h,Ve (by decide)];grind
section
variable (x0 x1 y0 y1 m0 m1:Rat)
def AA:Rat:=(y1-(y0+m0*(x1-x0)))/((x1-x0)*(x1-x0))
def TF:Rat:=(m1-(m0+2*AA x0 x1 y0 y1 m0*(x1-x0)))/((x1-x0)*(x1-x0))
abbrev uG:List Jt:=[(x0,[y0,m0]),(x1,[y1,m1])]
theorem sM:jB x0 [y0,m0] ([],[1]) 1=(mU y0 0 0 0,mU (-x0) 1 0 0):=by
 show KH x0 y0 0 ([],[1])=_
 have hc:zX x0 y0 0 ([],[1])=y0:=by
  rw [zX];show yG (y0-0) (ev [1] x0)=_;rw [aJ2 _ (by rw [bM,dY];grind)];grind
 rw [KH,hc];dsimp only;refine pr (BN _ _ _ fun x=>?_) (PJ _ _ fun x=>?_)
 .rw [bM,dY];grind
 .rw [bM,dY];grind
theorem sW:jB x0 [y0,m0] ([],[1]) 2=(mU (y0-m0*x0) m0 0 0,mU (x0*x0) (-2*x0) 1 0):=by
 show KH x0 m0 1 (jB x0 [y0,m0] ([],[1]) 1)=_;rw [sM]
 have hc:zX x0 m0 1 (mU y0 0 0 0,mU (-x0) 1 0 0)=m0:=by
  rw [zX];show yG (m0-ev (iQ (mU y0 0 0 0)) x0) (ev (iQ (mU (-x0) 1 0 0)) x0)=_;rw [rV,rV,eL,eL,aJ2 _ (by grind)];grind
 rw [KH,hc];dsimp only;refine pr (BN _ _ _ fun x=>?_) (PJ _ _ fun x=>?_)
 .rw [eL,eL];grind
 .rw [eL];grind
variable {x0 x1} (h:x1-x0≠0)
include h
theorem hs3:jB x1 [y1,m1] (jB x0 [y0,m0] ([],[1]) 2) 1=(mU (y0-m0*x0+AA x0 x1 y0 y1 m0*(x0*x0)) (m0-2*AA x0 x1 y0 y1 m0*x0) (AA x0 x1 y0 y1 m0) 0,mU (-(x0*x0*x1)) (x0*x0+2*x0*x1) (-2*x0-x1) 1):=by
 show KH x1 y1 0 (jB x0 [y0,m0] ([],[1]) 2)=_;rw [sW]
 have hc:zX x1 y1 0 (mU (y0-m0*x0) m0 0 0,mU (x0*x0) (-2*x0) 1 0)=AA x0 x1 y0 y1 m0:=by
  rw [zX];show yG (y1-ev (mU (y0-m0*x0) m0 0 0) x1) (ev (mU (x0*x0) (-2*x0) 1 0) x1)=_;rw [eL,eL,show x0*x0 + -2*x0*x1+1*x1*x1+0*x1*x1*x1=(x1-x0)*(x1-x0) by grind,Ve (fun e=>by rcases Rat.mul_eq_zero.1 e with e | e<;>exact h e),AA]
  congr 1;grind
 rw [KH,hc];generalize AA x0 x1 y0 y1 m0=c;dsimp only;refine pr (BN _ _ _ fun x=>?_) (PJ _ _ fun x=>?_)
 .rw [eL,eL];grind
 .rw [eL];grind
theorem hs4:(jB x1 [y1,m1] (jB x0 [y0,m0] ([],[1]) 2) 2).1=mU (y0-m0*x0+AA x0 x1 y0 y1 m0*(x0*x0)-TF x0 x1 y0 y1 m0 m1*(x0*x0*x1)) (m0-2*AA x0 x1 y0 y1 m0*x0+TF x0 x1 y0 y1 m0 m1*(x0*x0+2*x0*x1)) (AA x0 x1 y0 y1 m0-TF x0 x1 y0 y1 m0 m1*(2*x0+x1)) (TF x0 x1 y0 y1 m0 m1) /\
  (jB x1 [y1,m1] (jB x0 [y0,m0] ([],[1]) 2) 2).2=iM (mU (-(x0*x0*x1)) (x0*x0+2*x0*x1) (-2*x0-x1) 1) [-x1,((1:Int):Rat)]:=by
 have e:jB x1 [y1,m1] (jB x0 [y0,m0] ([],[1]) 2) 2=KH x1 m1 1 (jB x1 [y1,m1] (jB x0 [y0,m0] ([],[1]) 2) 1):=rfl;rw [e,hs3 y0 y1 m0 m1 h]
 have hc:zX x1 m1 1 (mU (y0-m0*x0+AA x0 x1 y0 y1 m0*(x0*x0)) (m0-2*AA x0 x1 y0 y1 m0*x0) (AA x0 x1 y0 y1 m0) 0,mU (-(x0*x0*x1)) (x0*x0+2*x0*x1) (-2*x0-x1) 1)=TF x0 x1 y0 y1 m0 m1:=by
  rw [zX,TF];show yG (m1-ev (iQ (mU _ _ _ _)) x1) (ev (iQ (mU _ _ _ _)) x1)=_;rw [rV,rV,eL,eL,show x0*x0+2*x0*x1+2*(-2*x0-x1)*x1+3*1*x1*x1+0*x1*x1*x1=(x1-x0)*(x1-x0) by grind,Ve (fun e=>by rcases Rat.mul_eq_zero.1 e with e | e<;>exact h e)]
  congr 1;grind
 rw [KH,hc];refine ⟨BN _ _ _ fun x=>?_,rfl⟩;generalize AA x0 x1 y0 y1 m0=c;generalize TF x0 x1 y0 y1 m0 m1=d;rw [eL,eL];grind
end
open Go Go.Proofs Tryz Ord
theorem Ze {A:Nat} (h:1<=A):Fit A 1:=Fit.int (n:=1) h (Nat.lt_of_lt_of_le (show 1<2^1 by decide) (Nat.pow_le_pow_right (by omega) h))
def Bk (x0 x1 y0 y1 m0 m1:Rat):List Rat:=mU (y0-m0*x0+AA x0 x1 y0 y1 m0*(x0*x0)-TF x0 x1 y0 y1 m0 m1*(x0*x0*x1)) (m0-2*AA x0 x1 y0 y1 m0*x0+TF x0 x1 y0 y1 m0 m1*(x0*x0+2*x0*x1)) (AA x0 x1 y0 y1 m0-TF x0 x1 y0 y1 m0 m1*(2*x0+x1)) (TF x0 x1 y0 y1 m0 m1)
theorem ao1 (a b c x1:Rat):iM (mU a b c 1) [-x1,((1:Int):Rat)]=trim [-(a*x1),a-b*x1,b-c*x1,c-x1,1]:=
 Hm (Ge _ _) (kM _) fun x=>by
  have e1:((1:Int):Rat)=1:=rfl;rw [Om,Zu,eL,nP,bM,bM,bM,bM,bM,dY,e1];grind
theorem Vb {a b c d a' b' c' d':Rat} (h1:∀ q∈mU a b c d,Fit 20000 q) (h2:∀ q∈mU a' b' c' d',Fit 20000 q):SmS 20000 (mU a b c d,mU a' b' c' d'):=
 ⟨Nat.le_trans (tJ _ _ _ _) (by omega),Nat.le_trans (tJ _ _ _ _) (by omega),h1,h2⟩
section
variable {x0 x1 y0 y1 m0 m1:Rat} (fx0:Fit 40 x0) (fx1:Fit 40 x1) (fy0:Fit 40 y0) (fy1:Fit 40 y1) (fm0:Fit 2000 m0) (fm1:Fit 2000 m1)
include fx0 fx1 fy0 fy1 fm0
theorem OS:Fit 2330 (AA x0 x1 y0 y1 m0):=by
 have fh:=fx1.sub fx0;exact ((fy1.sub (fy0.add (fm0.mul fh))).div (fh.mul fh)).mono (by omega)
include fm1
theorem WT:Fit 6600 (TF x0 x1 y0 y1 m0 m1):=by
 have fh:=fx1.sub fx0;exact ((fm1.sub (fm0.add ((eY.mul (OS fx0 fx1 fy0 fy1 fm0)).mul fh))).div (fh.mul fh)).mono (by omega)
theorem Tb:∀ q∈Bk x0 x1 y0 y1 m0 m1,Fit 20000 q:=by
 have f2:=OS fx0 fx1 fy0 fy1 fm0;have f3:=WT fx0 fx1 fy0 fy1 fm0 fm1;refine nB ?_ ?_ ?_ (f3.mono (by omega))
 .exact (((fy0.sub (fm0.mul fx0)).add (f2.mul (fx0.mul fx0))).sub (f3.mul ((fx0.mul fx0).mul fx1))).mono (by omega)
 .exact ((fm0.sub ((eY.mul f2).mul fx0)).add (f3.mul ((fx0.mul fx0).add ((eY.mul fx0).mul fx1)))).mono (by omega)
 .exact (f2.sub (f3.mul ((eY.mul fx0).add fx1))).mono (by omega)
theorem am1 (h:x1-x0≠0):JOk 20000 (uG x0 x1 y0 y1 m0 m1):=by
 refine ⟨by omega,by omega,by show 2<=50;omega,fun j hj=>?_,by show 0+2+2<=41;omega,fun i hi=>?_⟩
 .simp only [List.mem_cons,List.not_mem_nil,or_false] at hj;rcases hj with rfl | rfl
  .refine ⟨fx0.mono (by omega),by simp,by simp,fun v hv=>?_⟩;simp only [List.mem_cons,List.not_mem_nil,or_false] at hv;rcases hv with rfl | rfl
   .exact fy0.mono (by omega)
   .exact fm0.mono (by omega)
  .refine ⟨fx1.mono (by omega),by simp,by simp,fun v hv=>?_⟩;simp only [List.mem_cons,List.not_mem_nil,or_false] at hv;rcases hv with rfl | rfl
   .exact fy1.mono (by omega)
   .exact fm1.mono (by omega)
 .have hi:i<2:=hi
  match i,hi with
  | 0,_=>rfl
  | 1,_=>
    show (decide (x0=x1) || false)=false;rw [Bool.or_false,decide_eq_false_iff_not];intro e;exact h (by rw [e];grind)
theorem af2 (h:x1-x0≠0):∀ j r,j<(uG x0 x1 y0 y1 m0 m1).length->r<=(kF (uG x0 x1 y0 y1 m0 m1) j).2.length->SmS 20000 (jB (kF (uG x0 x1 y0 y1 m0 m1) j).1 (kF (uG x0 x1 y0 y1 m0 m1) j).2 (tQ (uG x0 x1 y0 y1 m0 m1) j) r):=by
 have f2:=OS fx0 fx1 fy0 fy1 fm0;have f3:=WT fx0 fx1 fy0 fy1 fm0 fm1;have z:Fit 20000 0:=Fit.zero (by omega);have o:Fit 20000 1:=Ze (by omega);have g2:Fit 2 (-2):=eY.neg;have k2:SmS 20000 (mU (y0-m0*x0) m0 0 0,mU (x0*x0) (-2*x0) 1 0):=Vb (nB ((fy0.sub (fm0.mul fx0)).mono (by omega)) (fm0.mono (by omega)) z z) (nB ((fx0.mul fx0).mono (by omega)) ((g2.mul fx0).mono (by omega)) o z);have fa:Fit 130 (-(x0*x0*x1)):=((fx0.mul fx0).mul fx1).neg.mono (by omega);have fb:Fit 170 (x0*x0+2*x0*x1):=((fx0.mul fx0).add ((eY.mul fx0).mul fx1)).mono (by omega);have fc:Fit 90 (-2*x0-x1):=((g2.mul fx0).sub fx1).mono (by omega);intro j r hj hr;have hj:j<2:=hj
 match j,hj with
 | 0,_=>
   have hr:r<=2:=hr
   match r,hr with
   | 0,_=>exact ⟨by show 0<=9;omega,by show 1<=9;omega,fun a ha=>(by cases ha),fun a ha=>(by rw [List.mem_singleton.1 ha];exact o)⟩
   | 1,_=>
     show SmS 20000 (jB x0 [y0,m0] ([],[1]) 1);rw [sM];exact Vb (nB (fy0.mono (by omega)) z z z) (nB (fx0.neg.mono (by omega)) o z z)
   | 2,_=>
     show SmS 20000 (jB x0 [y0,m0] ([],[1]) 2);rw [sW];exact k2
 | 1,_=>
   have hr:r<=2:=hr
   match r,hr with
   | 0,_=>
     show SmS 20000 (jB x0 [y0,m0] ([],[1]) 2);rw [sW];exact k2
   | 1,_=>
     show SmS 20000 (jB x1 [y1,m1] (jB x0 [y0,m0] ([],[1]) 2) 1);rw [hs3 y0 y1 m0 m1 h];exact Vb (nB (((fy0.sub (fm0.mul fx0)).add (f2.mul (fx0.mul fx0))).mono (by omega)) ((fm0.sub ((eY.mul f2).mul fx0)).mono (by omega)) (f2.mono (by omega)) z) (nB (fa.mono (by omega)) (fb.mono (by omega)) (fc.mono (by omega)) o)
   | 2,_=>
     show SmS 20000 (jB x1 [y1,m1] (jB x0 [y0,m0] ([],[1]) 2) 2);obtain ⟨e1,e2⟩:=hs4 y0 y1 m0 m1 h;rw [ao1] at e2;refine ⟨by rw [e1];have:=tJ;exact Nat.le_trans (tJ _ _ _ _) (by omega),by rw [e2];exact Nat.le_trans (fR _) (by simp),by rw [e1];exact Tb fx0 fx1 fy0 fy1 fm0 fm1,?_⟩;rw [e2];refine rI fun q hq=>?_;simp only [List.mem_cons,List.not_mem_nil,or_false] at hq;rcases hq with rfl | rfl | rfl | rfl | rfl
     .exact (fa.mul fx1).neg.mono (by omega)
     .exact (fa.sub (fb.mul fx1)).mono (by omega)
     .exact (fb.sub (fc.mul fx1)).mono (by omega)
     .exact (fc.sub fx1).mono (by omega)
     .exact o
theorem bd9 (h:x1-x0≠0):aQ prog 45 [.one (sJ (uG x0 x1 y0 y1 m0 m1))] (.ret [.one (sQ (Bk x0 x1 y0 y1 m0 m1)), .one (.int .i64 0)]):=by
 have hd:=Ut (uG x0 x1 y0 y1 m0 m1) 20000 (am1 fx0 fx1 fy0 fy1 fm0 fm1 h) (af2 fx0 fx1 fy0 fy1 fm0 fm1 h)
 rwa [show (tQ (uG x0 x1 y0 y1 m0 m1) (uG x0 x1 y0 y1 m0 m1).length).1=Bk x0 x1 y0 y1 m0 m1 from (hs4 y0 y1 m0 m1 h).1] at hd
end
section
variable (x0 x1 y0 y1 m0 m1 t:Rat)
theorem af5:ev (Bk x0 x1 y0 y1 m0 m1) t=y0+m0*(t-x0)+AA x0 x1 y0 y1 m0*(t-x0)*(t-x0)+TF x0 x1 y0 y1 m0 m1*(t-x0)*(t-x0)*(t-x1):=by
 rw [Bk,eL];grind
theorem VW:ev (iQ (Bk x0 x1 y0 y1 m0 m1)) t=m0+2*AA x0 x1 y0 y1 m0*(t-x0)+TF x0 x1 y0 y1 m0 m1*(2*(t-x0)*(t-x1)+(t-x0)*(t-x0)):=by
 rw [Bk,rV,eL];grind
theorem Rv:ev (Bk x0 x1 y0 y1 m0 m1) x0=y0:=by rw [af5];grind
theorem Xq:ev (iQ (Bk x0 x1 y0 y1 m0 m1)) x0=m0:=by rw [VW];grind
variable {x0 x1} (h:x1-x0≠0)
include h
theorem MK:ev (Bk x0 x1 y0 y1 m0 m1) x1=y1:=by
 have:=Rat.div_mul_cancel (a:=y1-(y0+m0*(x1-x0))) (b:=(x1-x0)*(x1-x0)) (fun e=>by rcases Rat.mul_eq_zero.1 e with e | e<;>exact h e);rw [af5,AA];grind
theorem UW:ev (iQ (Bk x0 x1 y0 y1 m0 m1)) x1=m1:=by
 have:=Rat.div_mul_cancel (a:=m1-(m0+2*AA x0 x1 y0 y1 m0*(x1-x0))) (b:=(x1-x0)*(x1-x0)) (fun e=>by rcases Rat.mul_eq_zero.1 e with e | e<;>exact h e);rw [VW,TF];grind
end
open Go Go.Proofs Tryz Ord
def aH0:Tr:=aX 76 [(G3 49),(G3 50)] [(some 3)] [97,98] [46,46] 46 false (aX 88 [(G3 32),(G3 43)] [(some 3)] [100,101] [46,46] 46 false (aX 112 [(G3 51),(G3 52)] [(some 3)] [99,102] [46,46] 46 true (.need (.lit 3 [[(.u 53 0),(.u 53 1),(.u 53 2)]]) (.buildSlice 28 1 #[(0,(tT 103))]) 28 false (.need (.app 3 56 (some 10) none (some 54)) (.call ⟨.builtin .append,#[(tT 87),(tT 104)],#[28,28]⟩) 28 false (bD .add 3 34 1 9 0 3 (.back 0 [lV 56 0, .row 55]))))))
def aH6:Tr:=bD .sub 3 89 1 9 0 3 (eI 4 0 44 0 28 88 90 (dF 45 0 (some 3) 46 91 (eI 4 0 9 0 28 93 94 (dF 47 0 (some 3) 46 95 (aX 88 [(G3 46),(G3 48)] [(some 3)] [92,96] [46,46] 46 false (.need (.call 113 [(WK 3)] [(some 3)]) (.call ⟨.value (.func 113),#[(.const (I3 3))],#[3]⟩) 46 false aH0))))))
def az9:Tr:=dF 36 0 (some 3) 46 77 (.need (.call 113 [(WK 2)] [(some 3)]) (.call ⟨.value (.func 113),#[(.const (I3 2))],#[3]⟩) 46 false (aX 76 [(G3 37),(G3 38)] [(some 3)] [78,79] [46,46] 46 false (aX 88 [(G3 34),(G3 39)] [(some 3)] [73,80] [46,46] 46 false (eI 5 0 9 0 28 82 83 (dF 41 0 (some 3) 46 84 (aX 112 [(G3 40),(G3 42)] [(some 3)] [81,85] [46,46] 46 true aH6))))))
def aD2:Tr:=eI 5 0 29 0 28 64 66 (dF 30 0 (some 3) 46 67 (aX 112 [(G3 28),(G3 31)] [(some 3)] [63,68] [46,46] 46 true (eI 4 0 9 0 28 70 71 (dF 33 0 (some 3) 46 72 (bD .sub 3 75 1 9 0 3 (eI 4 0 35 0 28 74 76 az9))))))
def ar8:Tr:=.need (.call 113 [(WK 2)] [(some 3)]) (.call ⟨.value (.func 113),#[(.const (I3 2))],#[3]⟩) 46 false (aX 76 [(G3 22),(G3 23)] [(some 3)] [55,56] [46,46] 46 false (bD .sub 3 59 1 9 0 3 (eI 4 0 25 0 28 58 60 (dF 26 0 (some 3) 46 61 (aX 88 [(G3 24),(G3 27)] [(some 3)] [57,62] [46,46] 46 false (bD .sub 3 65 1 9 0 3 aD2))))))
def aq6:Tr:=aX 23 [(G3 18)] [none] [45] [46] 3 true (bD .leq 3 46 0 19 0 4 (.split (.u 20 0) (.need (.lit 3 [[(.k (.slice none 0 0)),(.k (.bool false)),(.k (.slice none 0 0))]]) (.buildSlice 28 1 #[(0,(tT 49))]) 28 false (.need (.app 3 56 (some 10) none (some 21)) (.call ⟨.builtin .append,#[(tT 48),(tT 50)],#[28,28]⟩) 28 false (bD .add 3 34 1 9 0 3 (.back 0 [lV 23 0, .row 22])))) (eI 4 0 9 0 28 52 53 (dF 21 0 (some 3) 46 54 ar8))))
def aB8:Tr:=.need (.lit 3 [[(.u 36 0),(.u 36 1),(.u 36 2)],[(.u 38 0),(.u 38 1),(.u 38 2)]]) (.buildSlice 28 2 #[(0,(tT 147)),(1,(tT 152))]) 28 false (.need (.lit 4 [[(.u 26 0),(.u 26 1),(.u 26 2),(.sr 3 30)],[(.u 33 0),(.u 33 1),(.u 33 2),(.sr 3 39)]]) (.buildSlice 90 2 #[(0,(tT 137)),(1,(tT 154))]) 90 false (aX 45 [(.one (.c (.sr 4 40)))] [none,none] [155] [90] 99 false (.need (.lit 1 [[(.u 41 0)]]) (.buildSlice 29 1 #[(0,(tT 161))]) 29 false (.need (.app 1 24 (some 23) none (some 43)) (.call ⟨.builtin .append,#[(tT 160),(tT 162)],#[29,29]⟩) 29 false (bD .add 3 120 1 21 0 3 (.back 0 [lV 45 0,lV 22 0, .row 44]))))))
def aB5:Tr:=dF 32 0 (some 3) 46 141 (bD .add 3 144 1 21 0 3 (eI 1 0 34 0 28 143 145 (dF 35 0 (some 3) 46 146 (bD .add 3 149 1 21 0 3 (.need (.idx 18 (.u 37 0)) (.indexAddr 28 (tT 148) (tT 150)) 0 false (.need (.ldrow 18 (.u 37 0) 0 3 true) (.load 46 (tT 151)) 46 false aB8))))))
def at2:Tr:=eI 1 0 21 0 28 128 129 (dF 27 0 (some 3) 46 130 (.need (.idx 18 (.u 21 0)) (.indexAddr 28 (tT 132) (tT 133)) 0 false (.need (.ldrow 18 (.u 21 0) 0 3 true) (.load 46 (tT 134)) 46 false (.need (.lit 3 [[(.u 28 0),(.u 28 1),(.u 28 2)],[(.u 29 0),(.u 29 1),(.u 29 2)]]) (.buildSlice 28 2 #[(0,(tT 131)),(1,(tT 135))]) 28 false (bD .add 3 139 1 21 0 3 (eI 0 0 31 0 28 138 140 aB5))))))
def az6:Tr:=aX 84 [(W 0 0)] [none] [115] [28] 28 true (dD 5 0 118 28 (.loop 0 [lK 0,lV 19 0, .nilrow] (cN .lss 3 120 119 21 0 20 0 0 (.split (.u 24 0) (eI 0 0 21 0 28 124 125 (dF 25 0 (some 3) 46 126 at2)) (.ret [(.agg [(U 22 0),(.c (.sr 1 23))]),(WK 0)])))))
def aD1:Tr:=.split (.u 12 0) (bD .sub 3 37 1 9 0 3 (eI 5 0 13 0 28 36 38 (dF 14 0 (some 3) 46 39 (eI 5 0 9 0 28 41 42 (dF 16 0 (some 3) 46 43 (aX 76 [(G3 15),(G3 17)] [(some 3)] [40,44] [46,46] 46 false aq6)))))) (dD 5 0 108 28 (bD .sub 3 109 1 13 0 3 (eI 5 0 14 0 28 107 110 (dF 15 0 (some 3) 46 111 (.need (.lit 3 [[(.u 16 0),(.u 16 1),(.u 16 2)]]) (.buildSlice 28 1 #[(0,(tT 112))]) 28 false (.need (.app 3 56 (some 10) none (some 17)) (.call ⟨.builtin .append,#[(tT 106),(tT 113)],#[28,28]⟩) 28 false az6))))))
def bm2:Tr:=aX 132 [(W 0 0),(W 1 0)] [none] [23,24] [28,28] 28 true (.need (.prim [(W 5 0),(WK 0)] none) (.indexAddr 28 (tT 26) (.const (I3 0))) 0 false (dF 6 0 (some 3) 46 27 (.need (.lit 3 [[(.u 7 0),(.u 7 1),(.u 7 2)]]) (.buildSlice 28 1 #[(0,(tT 28))]) 28 false (.loop 0 [lK 1, .row 8] (dD 5 0 31 28 (cN .lss 3 30 32 9 0 11 0 4 aD1))))))
def aZ1:Tr:=aX 129 [(W 0 0),(W 1 0)] [none] [16,17] [28,28] 4 true (.need (.prim [(W 2 0)] none) (.unOp .not 4 (tT 18)) 4 false (.split (.u 3 0) (.ret [(.agg [tN,tN]),(WK 2)]) (aX 131 [(W 0 0)] [none] [21] [28] 28 false bm2)))
theorem Si:aV prog f54 (fun _=>none) [.v none, .v none]=aZ1:=by kernel_rfl
def inS (h d:List Rat) (i:Nat):Rat:=if d.getD (i-1) 0*d.getD i 0<=0 then 0 else yG ((h.getD (i-1) 0+h.getD i 0)*((3:Int):Rat)) (yG (h.getD i 0*((2:Int):Rat)+h.getD (i-1) 0) (d.getD (i-1) 0)+yG (h.getD i 0+h.getD (i-1) 0*((2:Int):Rat)) (d.getD i 0))
def xW (h d:List Rat) (i:Nat):List Rat:=d.getD 0 0::(List.range i).map fun j=>inS h d (j+1)
def oA (h d:List Rat):List Rat:=xW h d (d.length-1) ++ [d.getD (d.length-1) 0]
theorem Th (h d:List Rat) (i:Nat):(xW h d i).length=i+1:=by simp [xW]
theorem MO (h d:List Rat) (i:Nat):xW h d i ++ [inS h d (i+1)]=xW h d (i+1):=by rw [xW,xW,List.range_succ,List.map_append];rfl
theorem af9 {h d:List Rat} (hd:1<=d.length:=by omega):(oA h d).length=d.length+1:=by rw [oA,eE,Th];simp;omega
theorem ax3 {h d:List Rat} (fh:∀ i,Fit 81 (h.getD i 0)) (fd:∀ i,Fit 162 (d.getD i 0)) (i:Nat):Fit 2000 (inS h d i):=by
 have f2:Fit 2 ((2:Int):Rat):=eY;have f3:Fit 2 ((3:Int):Rat):=by unfold Fit;decide
 unfold inS;split
 .exact Fit.zero (by omega)
 .exact (kO (((fh _).add (fh _)).mul f3) ((kO (((fh _).mul f2).add (fh _)) (fd _)).add (kO ((fh _).add ((fh _).mul f2)) (fd _)))).mono (by omega)
theorem Et {h d:List Rat} (fh:∀ i,Fit 81 (h.getD i 0)) (fd:∀ i,Fit 162 (d.getD i 0)):∀ a∈oA h d,Fit 2000 a:=fun a ha=>by
 rcases List.mem_append.1 ha with ha | ha
 .rcases List.mem_cons.1 ha with rfl | ha
  .exact (fd _).mono (by omega)
  .obtain ⟨j,_,rfl⟩:=eH.1 ha;exact ax3 fh fd _
 .rw [List.mem_singleton.1 ha];exact (fd _).mono (by omega)
def mD (x y:List Rat) (i:Nat):List Rat:=Bk (x.getD i 0) (x.getD (i+1) 0) (y.getD i 0) (y.getD (i+1) 0) ((oA (cJ x) (bF x y)).getD i 0) ((oA (cJ x) (bF x y)).getD (i+1) 0)
theorem Yp (x y:List Rat) (i:Nat):(List.range i).map (mD x y) ++ [mD x y i]=(List.range (i+1)).map (mD x y):=by rw [List.range_succ,List.map_append];rfl
theorem Wg {q:Rat}:q.num.sign<=0↔q<=0:=by
 rcases Int.lt_trichotomy q.num 0 with h | h | h
 .rw [Int.sign_eq_neg_one_of_neg h];exact ⟨fun _=>Rat.le_of_lt (Rat.not_le.1 fun e=>by have:=Rat.num_nonneg.2 e;omega),fun _=>by omega⟩
 .rw [h,Rat.num_eq_zero.1 h];decide
 .rw [Int.sign_eq_one_of_pos h];refine ⟨fun h=>by omega,fun e=>?_⟩;have h0:0<=q:=Rat.num_nonneg.1 (by omega);have:q=0:=by grind
  rw [this] at h;exact absurd h (by decide)
theorem be3 {h d:List Rat} {i:Nat} (e:d.getD i 0*d.getD (i+1) 0<=0):inS h d (i+1)=0:=if_pos e
theorem bj5 {h d:List Rat} {i:Nat} (e:¬ d.getD i 0*d.getD (i+1) 0<=0):inS h d (i+1)=yG ((h.getD i 0+h.getD (i+1) 0)*((3:Int):Rat)) (yG (h.getD (i+1) 0*((2:Int):Rat)+h.getD i 0) (d.getD i 0)+yG (h.getD (i+1) 0+h.getD i 0*((2:Int):Rat)) (d.getD (i+1) 0)):=if_neg e
theorem XK (s:List Rat):bC (bC aD.Sub) (rQ s ++ [z3]) (rQ (s ++ [0])):=by
 rw [show rQ (s ++ [0])=rQ s ++ [qC 0] from List.map_append];exact bC.append (bC.uU (bC.uU aD.Sub.refl) _) ⟨kY,trivial⟩
set_option maxHeartbeats 1000000 in
theorem Tu (x y:List Rat) (D:tM x y):aQ prog 54 [(.one (sQ x):aJ),(.one (sQ y):aJ)] (.ret [.agg (pB x ((List.range (x.length-1)).map (mD x y))), .one (.int .i64 0)]):=by
 refine eF func54 Si ?_;have h2:=D.h2;have h8:=D.h8;have hxy:=D.hxy;have hwl:=gK x;have hsl:=rO x y;have fh:=D.h;have fd:=D.d;apply aA (rA x y 40 D.hx) rfl;rw [D.giv];apply vn fO rfl;refine nY false rfl (fun h=>by cases h) (fun _=>?_);apply aA (kG x 40 D.hx h2).DT rfl;apply aA (mH x y 40 D.hx D.hy h2 hxy).DT rfl;dsimp only [aF,aG];apply vn (aI aZ (m:=0) (by omega) rfl (aH (show 0<(bF x y).length by omega))) rfl;apply vn (aM bU (by decide) (by simp) (.inl rfl)) rfl;apply eT (us:=[qC ((bF x y).getD 0 0)]) rfl;refine bV {i:Nat // i+1<=(bF x y).length} (fun g=>[.one (.int .i64 ((g.1:Int)+1)), .rows (rQ (xW (cJ x) (bF x y) g.1))]) (fun g=>(bF x y).length-g.1) ⟨0,by omega⟩ aW.rfl (fun _=>rfl) ?_;rintro ⟨i,hi⟩;dsimp only [aF,aG] at hi ⊢;have hpl:=Th (cJ x) (bF x y) i;apply vn (aO aZ (aL _)) rfl;apply vn bL rfl;refine vs _ rfl ?_ ?_<;>intro h12
 .apply vn (aE (by omega) (by omega)) rfl;dsimp only [aF,aG];apply vn (aI aZ (m:=i) (by omega) (by omega) (aH (show i<(bF x y).length by omega))) rfl;apply vn (aM bU (by decide) (by simp) (.inl rfl)) rfl;dsimp only [aF,aG];apply vn (aI aZ (m:=i+1) (by omega) (by omega) (aH (show i+1<(bF x y).length by omega))) rfl;apply vn (aM bU (by decide) (by simp) (.inl rfl)) rfl;apply aA (eR _ _ 162 162 (fd _) (fd _)) rfl;apply aA (iE _) rfl;dsimp only [aF,aG];apply vn mQ rfl;refine vs _ rfl ?_ ?_<;>intro h21
  .apply eT (us:=[z3]) rfl;refine zQ (ts:=rQ (xW (cJ x) (bF x y) i)) (us:=[z3]) (vs:=rQ (xW (cJ x) (bF x y) i) ++ [z3]) rfl rfl rfl (by rw [eE,aL];simp only [List.length_cons,List.length_nil];omega) (by rw [eE,aL];simp only [List.length_cons,List.length_nil,maxLen];omega) ?_;apply vn (aC (by omega) (by omega)) rfl
   exact bB rfl ⟨⟨i+1,by omega⟩,⟨aJ.Sub.same,by
    show bC (bC aD.Sub) _ (rQ (xW (cJ x) (bF x y) (i+1)));rw [<-MO,be3 (Wg.1 h21)];exact XK _,trivial⟩,by show (bF x y).length-(i+1)<(bF x y).length-i;omega⟩
  apply vn (aI aZ (m:=i+1) (by omega) (by omega) (aH (show i+1<(cJ x).length by omega))) rfl;dsimp only [aF,aG];apply vn (aM bU (by decide) (by simp) (.inl rfl)) rfl;apply aA (cK 2) rfl;apply aA (eR _ _ 81 62 (fh _) (Fit.int (by omega) (by omega))) rfl;apply vn (aE (by omega) (by omega)) rfl;dsimp only [aF,aG];apply vn (aI aZ (m:=i) (by omega) (by omega) (aH (show i<(cJ x).length by omega))) rfl;apply vn (aM bU (by decide) (by simp) (.inl rfl)) rfl;apply aA (jD _ _ _ 81 ((fh _).mul (Fit.int (B:=62) (by omega) (by omega))) (fh _)) rfl;apply vn (aE (by omega) (by omega)) rfl;dsimp only [aF,aG];apply vn (aI aZ (m:=i) (by omega) (by omega) (aH (show i<(bF x y).length by omega))) rfl;apply vn (aM bU (by decide) (by simp) (.inl rfl)) rfl;apply aA (iZ _ _ _ 162 (((fh _).mul (Fit.int (B:=62) (by omega) (by omega))).add (fh _)) (fd _)) rfl;dsimp only [aF,aG];apply vn (aI aZ (m:=i+1) (by omega) (by omega) (aH (show i+1<(cJ x).length by omega))) rfl;apply vn (aM bU (by decide) (by simp) (.inl rfl)) rfl;apply vn (aE (by omega) (by omega)) rfl;dsimp only [aF,aG];apply vn (aI aZ (m:=i) (by omega) (by omega) (aH (show i<(cJ x).length by omega))) rfl;apply vn (aM bU (by decide) (by simp) (.inl rfl)) rfl;apply aA (cK 2) rfl;apply aA (eR _ _ 81 62 (fh _) (Fit.int (by omega) (by omega))) rfl;dsimp only [aF,aG];apply aA (jD _ _ 81 _ (fh _) ((fh _).mul (Fit.int (B:=62) (by omega) (by omega)))) rfl;dsimp only [aF,aG];apply vn (aI aZ (m:=i+1) (by omega) (by omega) (aH (show i+1<(bF x y).length by omega))) rfl;apply vn (aM bU (by decide) (by simp) (.inl rfl)) rfl;apply aA (iZ _ _ _ 162 ((fh _).add ((fh _).mul (Fit.int (B:=62) (by omega) (by omega)))) (fd _)) rfl;apply vn (aE (by omega) (by omega)) rfl;dsimp only [aF,aG];apply vn (aI aZ (m:=i) (by omega) (by omega) (aH (show i<(cJ x).length by omega))) rfl;apply vn (aM bU (by decide) (by simp) (.inl rfl)) rfl;dsimp only [aF,aG];apply vn (aI aZ (m:=i+1) (by omega) (by omega) (aH (show i+1<(cJ x).length by omega))) rfl;apply vn (aM bU (by decide) (by simp) (.inl rfl)) rfl;apply aA (jD _ _ 81 81 (fh _) (fh _)) rfl;apply aA (cK 3) rfl;dsimp only [aF,aG];apply aA (eR _ _ _ 62 ((fh _).add (fh _)) (Fit.int (by omega) (by omega))) rfl;apply aA (jD _ _ _ _ (kO (((fh _).mul (Fit.int (B:=62) (by omega) (by omega))).add (fh _)) (fd _)) (kO ((fh _).add ((fh _).mul (Fit.int (B:=62) (by omega) (by omega)))) (fd _))) rfl;apply aA (iZ _ _ _ _ (((fh _).add (fh _)).mul (Fit.int (B:=62) (by omega) (by omega))) ((kO (((fh _).mul (Fit.int (B:=62) (by omega) (by omega))).add (fh _)) (fd _)).add (kO ((fh _).add ((fh _).mul (Fit.int (B:=62) (by omega) (by omega)))) (fd _)))) rfl;dsimp only [aF,aG];have hin:yG (((cJ x).getD i 0+(cJ x).getD (i+1) 0)*((3:Int):Rat)) (yG ((cJ x).getD (i+1) 0*((2:Int):Rat)+(cJ x).getD i 0) ((bF x y).getD i 0)+yG ((cJ x).getD (i+1) 0+(cJ x).getD i 0*((2:Int):Rat)) ((bF x y).getD (i+1) 0))=inS (cJ x) (bF x y) (i+1):=(bj5 fun e=>h21 (Wg.2 e)).symm;rw [hin];apply eT (us:=[qC (inS (cJ x) (bF x y) (i+1))]) rfl;refine kV (xs:=xW (cJ x) (bF x y) i) (x:=inS (cJ x) (bF x y) (i+1)) (f:=qC) rfl rfl (by omega) (by simp only [maxLen];omega) ?_;rw [MO];apply vn (aC (by omega) (by omega)) rfl;dsimp only [aF,aG];exact bB rfl ⟨⟨i+1,by omega⟩,aW.rfl,by show (bF x y).length-(i+1)<(bF x y).length-i;omega⟩
 apply vn (aO aZ (aL _)) rfl;apply vn (aE (by omega) (by omega)) rfl;dsimp only [aF,aG];have hie:i=(bF x y).length-1:=by omega
 apply vn (aI aZ (m:=i) (by omega) (by omega) (aH (show i<(bF x y).length by omega))) rfl;apply vn (aM bU (by decide) (by simp) (.inl rfl)) rfl;apply eT (us:=[qC ((bF x y).getD i 0)]) rfl;refine kV (xs:=xW (cJ x) (bF x y) i) (x:=(bF x y).getD i 0) (f:=qC) rfl rfl (by omega) (by simp only [maxLen];omega) ?_;rw [show xW (cJ x) (bF x y) i ++ [(bF x y).getD i 0]=oA (cJ x) (bF x y) by rw [oA,<-hie]];have hsll:=af9 (h:=cJ x) (d:=bF x y);have hslf:=fun j=>aB (Et fh fd) j;dsimp only [aF,aG];apply aA (yH (rQ x) (by rw [aL];omega)) rfl;apply vn (aO aZ (aL _)) rfl;refine bV {j:Nat // j<=(bF x y).length} (fun g=>[.one (.int .i64 (g.1:Int)), .one (sQ x), .rows (((List.range g.1).map (mD x y)).map cQ)]) (fun g=>(bF x y).length-g.1) ⟨0,cX _⟩ aW.rfl (fun _=>rfl) ?_;rintro ⟨j,hj⟩;dsimp only [aF,aG] at hj ⊢;have hjl:((List.range j).map (mD x y)).length=j:=by simp
 apply vn bL rfl;refine vs _ rfl ?_ ?_<;>intro h73
 .have hj':j<(bF x y).length:=by omega
  apply vn (aI aZ (m:=j) (by omega) (Int.toNat_natCast j) (aH (show j<x.length by omega))) rfl;apply vn (aM bU (by decide) (by simp) (.inl rfl)) rfl;dsimp only [aF,aG];apply vn (aI aZ (m:=j) (by omega) (Int.toNat_natCast j) (aH (show j<y.length by omega))) rfl;apply vn (aM bU (by decide) (by simp) (.inl rfl)) rfl;refine bX rfl rfl (by omega) (by omega) ?_;refine vld (ts:=rQ (oA (cJ x) (bF x y))) (cells:=qC ((oA (cJ x) (bF x y)).getD j 0)) rfl rfl (by omega) (by rw [Int.toNat_natCast,dK,aH (show j<(oA (cJ x) (bF x y)).length by omega)];rfl) (.inl rfl) rfl ?_;dsimp only [aF,aG,TG,List.drop,List.take];apply eT (us:=[qC (y.getD j 0),qC ((oA (cJ x) (bF x y)).getD j 0)]) rfl;apply vn (aC (by omega) (by omega)) rfl;dsimp only [aF,aG];apply vn (aI aZ (m:=j+1) (by omega) (by omega) (aH (show j+1<x.length by omega))) rfl;apply vn (aM bU (by decide) (by simp) (.inl rfl)) rfl;apply vn (aC (by omega) (by omega)) rfl;dsimp only [aF,aG];apply vn (aI aZ (m:=j+1) (by omega) (by omega) (aH (show j+1<y.length by omega))) rfl;apply vn (aM bU (by decide) (by simp) (.inl rfl)) rfl;apply vn (aC (by omega) (by omega)) rfl;refine bX rfl rfl (by omega) (by omega) ?_;refine vld (ts:=rQ (oA (cJ x) (bF x y))) (cells:=qC ((oA (cJ x) (bF x y)).getD (j+1) 0)) rfl rfl (by omega) (by rw [show ((j:Int)+1).toNat=j+1 by omega,dK,aH (show j+1<(oA (cJ x) (bF x y)).length by omega)];rfl) (.inl rfl) rfl ?_;dsimp only [aF,aG,TG,List.drop,List.take];apply eT (us:=[qC (y.getD (j+1) 0),qC ((oA (cJ x) (bF x y)).getD (j+1) 0)]) rfl;apply eT (us:=[yM (x.getD j 0,[y.getD j 0,(oA (cJ x) (bF x y)).getD j 0]),yM (x.getD (j+1) 0,[y.getD (j+1) 0,(oA (cJ x) (bF x y)).getD (j+1) 0])]) rfl;dsimp only [aF,aG]
  have hh:aQ prog 45 [.one (sJ [(x.getD j 0,[y.getD j 0,(oA (cJ x) (bF x y)).getD j 0]),(x.getD (j+1) 0,[y.getD (j+1) 0,(oA (cJ x) (bF x y)).getD (j+1) 0])])] (.ret [.one (sQ (mD x y j)), .one (.int .i64 0)]):=
   bd9 (aB D.hx j) (aB D.hx (j+1)) (aB D.hy j) (aB D.hy (j+1)) (hslf j) (hslf (j+1)) (by
    have:=pU D.hr (Nat.lt_succ_self j) (show j+1<x.length by omega);intro e;grind)
  apply aA hh rfl;apply eT (us:=[cQ (mD x y j)]) rfl;refine kV (xs:=(List.range j).map (mD x y)) (x:=mD x y j) (f:=cQ) rfl rfl (by omega) (by simp only [maxLen];omega) ?_;rw [Yp];apply vn (aC (by omega) (by omega)) rfl;dsimp only [aF,aG];exact bB rfl ⟨⟨j+1,by omega⟩,aW.rfl,by show (bF x y).length-(j+1)<(bF x y).length-j;omega⟩
 rw [show x.length-1=j by omega];exact aK rfl
end Go.Sy
