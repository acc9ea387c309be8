/- Part. -/
import Derived.Test.YtacgmapjhpghkaaGreatDoorXb
set_option linter.all false
namespace Go.Sy
open Go Go.Proofs Tryz Ord
theorem iR (p:List Rat) (k x:Rat):ev (wF p k) x=ev p x*k:=by
 rw [wF,kW,show (List.range p.length).map (scI p k)=((List.range p.length).map fun i=>p.getD i 0).map (· * k) by rw [List.map_map];rfl,Wp,oP x p p.length (aY _)]
theorem UM (x a b:Rat):ev [a,b] x=a+b*x:=by rw [bE,bE,dF];grind
theorem BR (p z:List Rat) (c:Rat) {e0 e1 e2 e3:Rat} (h:∀ x,ev p x+ev z x*c=e0+e1*x+e2*x*x+e3*x*x*x):iM p (wF z c)=mZ e0 e1 e2 e3:=
 Al (FL _ _) (sZ _ _ _ _) fun x=>by rw [iC,iR,eJ,h]
theorem Qr (z:List Rat) (a:Rat) {e0 e1 e2 e3:Rat} (h:∀ x,ev z x*(x-a)=e0+e1*x+e2*x*x+e3*x*x*x):eF z [-a,((1:Int):Rat)]=mZ e0 e1 e2 e3:=
 Al (FW _ _) (sZ _ _ _ _) fun x=>by
  have e1:((1:Int):Rat)=1:=rfl;rw [lQ,UM,eJ,<-h,e1];grind
theorem pr {α β:Type} {a c:α} {b d:β} (h1:a=c) (h2:b=d):(a,b)=(c,d):=by rw [h1,h2]
theorem Qm {a b:Rat} (h:b≠0):yQ a b=a/b:=by rw [yQ,if_neg h]
theorem aK9 (a:Rat) {b:Rat} (h:b=1):yQ a b=a:=by rw [h,Qm (by decide)];grind
section
variable (x0 x1 y0 y1 m0 m1:Rat)
def AO:Rat:=(y1-(y0+m0*(x1-x0)))/((x1-x0)*(x1-x0))
def Uq:Rat:=(m1-(m0+2*AO x0 x1 y0 y1 m0*(x1-x0)))/((x1-x0)*(x1-x0))
abbrev uB:List Jt:=[(x0,[y0,m0]),(x1,[y1,m1])]
theorem vY:jC x0 [y0,m0] ([],[1]) 1=(mZ y0 0 0 0,mZ (-x0) 1 0 0):=by
 show KR x0 y0 0 ([],[1])=_
 have hc:Ae x0 y0 0 ([],[1])=y0:=by
  rw [Ae];show yQ (y0-0) (ev [1] x0)=_;rw [aK9 _ (by rw [bE,dF];grind)];grind
 rw [KR,hc];dsimp only;refine pr (BR _ _ _ fun x=>?_) (Qr _ _ fun x=>?_)
 .rw [bE,dF];grind
 .rw [bE,dF];grind
theorem qH:jC x0 [y0,m0] ([],[1]) 2=(mZ (y0-m0*x0) m0 0 0,mZ (x0*x0) (-2*x0) 1 0):=by
 show KR x0 m0 1 (jC x0 [y0,m0] ([],[1]) 1)=_;rw [vY]
 have hc:Ae x0 m0 1 (mZ y0 0 0 0,mZ (-x0) 1 0 0)=m0:=by
  rw [Ae];show yQ (m0-ev (cM (mZ y0 0 0 0)) x0) (ev (cM (mZ (-x0) 1 0 0)) x0)=_;rw [rW,rW,eJ,eJ,aK9 _ (by grind)];grind
 rw [KR,hc];dsimp only;refine pr (BR _ _ _ fun x=>?_) (Qr _ _ fun x=>?_)
 .rw [eJ,eJ];grind
 .rw [eJ];grind
variable {x0 x1} (h:x1-x0≠0)
include h
theorem hs3:jC x1 [y1,m1] (jC x0 [y0,m0] ([],[1]) 2) 1=(mZ (y0-m0*x0+AO x0 x1 y0 y1 m0*(x0*x0)) (m0-2*AO x0 x1 y0 y1 m0*x0) (AO x0 x1 y0 y1 m0) 0,mZ (-(x0*x0*x1)) (x0*x0+2*x0*x1) (-2*x0-x1) 1):=by
 show KR x1 y1 0 (jC x0 [y0,m0] ([],[1]) 2)=_;rw [qH]
 have hc:Ae x1 y1 0 (mZ (y0-m0*x0) m0 0 0,mZ (x0*x0) (-2*x0) 1 0)=AO x0 x1 y0 y1 m0:=by
  rw [Ae];show yQ (y1-ev (mZ (y0-m0*x0) m0 0 0) x1) (ev (mZ (x0*x0) (-2*x0) 1 0) x1)=_;rw [eJ,eJ,show x0*x0 + -2*x0*x1+1*x1*x1+0*x1*x1*x1=(x1-x0)*(x1-x0) by grind,Qm (fun e=>by rcases Rat.mul_eq_zero.1 e with e | e<;>exact h e),AO]
  congr 1;grind
 rw [KR,hc];generalize AO x0 x1 y0 y1 m0=c;dsimp only;refine pr (BR _ _ _ fun x=>?_) (Qr _ _ fun x=>?_)
 .rw [eJ,eJ];grind
 .rw [eJ];grind
theorem hs4:(jC x1 [y1,m1] (jC x0 [y0,m0] ([],[1]) 2) 2).1=mZ (y0-m0*x0+AO x0 x1 y0 y1 m0*(x0*x0)-Uq x0 x1 y0 y1 m0 m1*(x0*x0*x1)) (m0-2*AO x0 x1 y0 y1 m0*x0+Uq x0 x1 y0 y1 m0 m1*(x0*x0+2*x0*x1)) (AO x0 x1 y0 y1 m0-Uq x0 x1 y0 y1 m0 m1*(2*x0+x1)) (Uq x0 x1 y0 y1 m0 m1) /\
  (jC x1 [y1,m1] (jC x0 [y0,m0] ([],[1]) 2) 2).2=eF (mZ (-(x0*x0*x1)) (x0*x0+2*x0*x1) (-2*x0-x1) 1) [-x1,((1:Int):Rat)]:=by
 have e:jC x1 [y1,m1] (jC x0 [y0,m0] ([],[1]) 2) 2=KR x1 m1 1 (jC x1 [y1,m1] (jC x0 [y0,m0] ([],[1]) 2) 1):=rfl;rw [e,hs3 y0 y1 m0 m1 h]
 have hc:Ae x1 m1 1 (mZ (y0-m0*x0+AO x0 x1 y0 y1 m0*(x0*x0)) (m0-2*AO x0 x1 y0 y1 m0*x0) (AO x0 x1 y0 y1 m0) 0,mZ (-(x0*x0*x1)) (x0*x0+2*x0*x1) (-2*x0-x1) 1)=Uq x0 x1 y0 y1 m0 m1:=by
  rw [Ae,Uq];show yQ (m1-ev (cM (mZ _ _ _ _)) x1) (ev (cM (mZ _ _ _ _)) x1)=_;rw [rW,rW,eJ,eJ,show x0*x0+2*x0*x1+2*(-2*x0-x1)*x1+3*1*x1*x1+0*x1*x1*x1=(x1-x0)*(x1-x0) by grind,Qm (fun e=>by rcases Rat.mul_eq_zero.1 e with e | e<;>exact h e)]
  congr 1;grind
 rw [KR,hc];refine ⟨BR _ _ _ fun x=>?_,rfl⟩;generalize AO x0 x1 y0 y1 m0=c;generalize Uq x0 x1 y0 y1 m0 m1=d;rw [eJ,eJ];grind
end
open Go Go.Proofs Tryz Ord
theorem aJ9 {A:Nat} (h:1<=A):Fit A 1:=Fit.int (n:=1) h (Nat.lt_of_lt_of_le (show 1<2^1 by decide) (Nat.pow_le_pow_right (by omega) h))
def Br (x0 x1 y0 y1 m0 m1:Rat):List Rat:=mZ (y0-m0*x0+AO x0 x1 y0 y1 m0*(x0*x0)-Uq x0 x1 y0 y1 m0 m1*(x0*x0*x1)) (m0-2*AO x0 x1 y0 y1 m0*x0+Uq x0 x1 y0 y1 m0 m1*(x0*x0+2*x0*x1)) (AO x0 x1 y0 y1 m0-Uq x0 x1 y0 y1 m0 m1*(2*x0+x1)) (Uq x0 x1 y0 y1 m0 m1)
theorem aq8 (a b c x1:Rat):eF (mZ a b c 1) [-x1,((1:Int):Rat)]=trim [-(a*x1),a-b*x1,b-c*x1,c-x1,1]:=
 Al (FW _ _) (hU _) fun x=>by
  have e1:((1:Int):Rat)=1:=rfl;rw [lQ,UM,eJ,kW,bE,bE,bE,bE,bE,dF,e1];grind
theorem VL {a b c d a' b' c' d':Rat} (h1:∀ q∈mZ a b c d,Fit 20000 q) (h2:∀ q∈mZ a' b' c' d',Fit 20000 q):SmS 20000 (mZ a b c d,mZ a' b' c' d'):=
 ⟨Nat.le_trans (tL _ _ _ _) (by omega),Nat.le_trans (tL _ _ _ _) (by omega),h1,h2⟩
section
variable {x0 x1 y0 y1 m0 m1:Rat} (fx0:Fit 40 x0) (fx1:Fit 40 x1) (fy0:Fit 40 y0) (fy1:Fit 40 y1) (fm0:Fit 2000 m0) (fm1:Fit 2000 m1)
include fx0 fx1 fy0 fy1 fm0
theorem Pu:Fit 2330 (AO x0 x1 y0 y1 m0):=by
 have fh:=fx1.sub fx0;exact ((fy1.sub (fy0.add (fm0.mul fh))).div (fh.mul fh)).mono (by omega)
include fm1
theorem XH:Fit 6600 (Uq x0 x1 y0 y1 m0 m1):=by
 have fh:=fx1.sub fx0;exact ((fm1.sub (fm0.add ((fS.mul (Pu fx0 fx1 fy0 fy1 fm0)).mul fh))).div (fh.mul fh)).mono (by omega)
theorem TR:∀ q∈Br x0 x1 y0 y1 m0 m1,Fit 20000 q:=by
 have f2:=Pu fx0 fx1 fy0 fy1 fm0;have f3:=XH fx0 fx1 fy0 fy1 fm0 fm1;refine nL ?_ ?_ ?_ (f3.mono (by omega))
 .exact (((fy0.sub (fm0.mul fx0)).add (f2.mul (fx0.mul fx0))).sub (f3.mul ((fx0.mul fx0).mul fx1))).mono (by omega)
 .exact ((fm0.sub ((fS.mul f2).mul fx0)).add (f3.mul ((fx0.mul fx0).add ((fS.mul fx0).mul fx1)))).mono (by omega)
 .exact (f2.sub (f3.mul ((fS.mul fx0).add fx1))).mono (by omega)
theorem ao7 (h:x1-x0≠0):JOk 20000 (uB x0 x1 y0 y1 m0 m1):=by
 refine ⟨by omega,by omega,by show 2<=50;omega,fun j hj=>?_,by show 0+2+2<=41;omega,fun i hi=>?_⟩
 .simp only [List.mem_cons,List.not_mem_nil,or_false] at hj;rcases hj with rfl | rfl
  .refine ⟨fx0.mono (by omega),by simp,by simp,fun v hv=>?_⟩;simp only [List.mem_cons,List.not_mem_nil,or_false] at hv;rcases hv with rfl | rfl
   .exact fy0.mono (by omega)
   .exact fm0.mono (by omega)
  .refine ⟨fx1.mono (by omega),by simp,by simp,fun v hv=>?_⟩;simp only [List.mem_cons,List.not_mem_nil,or_false] at hv;rcases hv with rfl | rfl
   .exact fy1.mono (by omega)
   .exact fm1.mono (by omega)
 .have hi:i<2:=hi
  match i,hi with
  | 0,_=>rfl
  | 1,_=>
    show (decide (x0=x1) || false)=false;rw [Bool.or_false,decide_eq_false_iff_not];intro e;exact h (by rw [e];grind)
theorem ai3 (h:x1-x0≠0):∀ j r,j<(uB x0 x1 y0 y1 m0 m1).length->r<=(kG (uB x0 x1 y0 y1 m0 m1) j).2.length->SmS 20000 (jC (kG (uB x0 x1 y0 y1 m0 m1) j).1 (kG (uB x0 x1 y0 y1 m0 m1) j).2 (tQ (uB x0 x1 y0 y1 m0 m1) j) r):=by
 have f2:=Pu fx0 fx1 fy0 fy1 fm0;have f3:=XH fx0 fx1 fy0 fy1 fm0 fm1;have z:Fit 20000 0:=Fit.zero (by omega);have o:Fit 20000 1:=aJ9 (by omega);have g2:Fit 2 (-2):=fS.neg;have k2:SmS 20000 (mZ (y0-m0*x0) m0 0 0,mZ (x0*x0) (-2*x0) 1 0):=VL (nL ((fy0.sub (fm0.mul fx0)).mono (by omega)) (fm0.mono (by omega)) z z) (nL ((fx0.mul fx0).mono (by omega)) ((g2.mul fx0).mono (by omega)) o z);have fa:Fit 130 (-(x0*x0*x1)):=((fx0.mul fx0).mul fx1).neg.mono (by omega);have fb:Fit 170 (x0*x0+2*x0*x1):=((fx0.mul fx0).add ((fS.mul fx0).mul fx1)).mono (by omega);have fc:Fit 90 (-2*x0-x1):=((g2.mul fx0).sub fx1).mono (by omega);intro j r hj hr;have hj:j<2:=hj
 match j,hj with
 | 0,_=>
   have hr:r<=2:=hr
   match r,hr with
   | 0,_=>exact ⟨by show 0<=9;omega,by show 1<=9;omega,fun a ha=>(by cases ha),fun a ha=>(by rw [List.mem_singleton.1 ha];exact o)⟩
   | 1,_=>
     show SmS 20000 (jC x0 [y0,m0] ([],[1]) 1);rw [vY];exact VL (nL (fy0.mono (by omega)) z z z) (nL (fx0.neg.mono (by omega)) o z z)
   | 2,_=>
     show SmS 20000 (jC x0 [y0,m0] ([],[1]) 2);rw [qH];exact k2
 | 1,_=>
   have hr:r<=2:=hr
   match r,hr with
   | 0,_=>
     show SmS 20000 (jC x0 [y0,m0] ([],[1]) 2);rw [qH];exact k2
   | 1,_=>
     show SmS 20000 (jC x1 [y1,m1] (jC x0 [y0,m0] ([],[1]) 2) 1);rw [hs3 y0 y1 m0 m1 h];exact VL (nL (((fy0.sub (fm0.mul fx0)).add (f2.mul (fx0.mul fx0))).mono (by omega)) ((fm0.sub ((fS.mul f2).mul fx0)).mono (by omega)) (f2.mono (by omega)) z) (nL (fa.mono (by omega)) (fb.mono (by omega)) (fc.mono (by omega)) o)
   | 2,_=>
     show SmS 20000 (jC x1 [y1,m1] (jC x0 [y0,m0] ([],[1]) 2) 2);obtain ⟨e1,e2⟩:=hs4 y0 y1 m0 m1 h;rw [aq8] at e2;refine ⟨by rw [e1];have:=tL;exact Nat.le_trans (tL _ _ _ _) (by omega),by rw [e2];exact Nat.le_trans (fN _) (by simp),by rw [e1];exact TR fx0 fx1 fy0 fy1 fm0 fm1,?_⟩;rw [e2];refine rK fun q hq=>?_;simp only [List.mem_cons,List.not_mem_nil,or_false] at hq;rcases hq with rfl | rfl | rfl | rfl | rfl
     .exact (fa.mul fx1).neg.mono (by omega)
     .exact (fa.sub (fb.mul fx1)).mono (by omega)
     .exact (fb.sub (fc.mul fx1)).mono (by omega)
     .exact (fc.sub fx1).mono (by omega)
     .exact o
theorem bd3 (h:x1-x0≠0):aQ prog 45 [.one (sJ (uB x0 x1 y0 y1 m0 m1))] (.ret [.one (sQ (Br x0 x1 y0 y1 m0 m1)), .one (.int .i64 0)]):=by
 have hd:=Vg (uB x0 x1 y0 y1 m0 m1) 20000 (ao7 fx0 fx1 fy0 fy1 fm0 fm1 h) (ai3 fx0 fx1 fy0 fy1 fm0 fm1 h)
 rwa [show (tQ (uB x0 x1 y0 y1 m0 m1) (uB x0 x1 y0 y1 m0 m1).length).1=Br x0 x1 y0 y1 m0 m1 from (hs4 y0 y1 m0 m1 h).1] at hd
end
section
variable (x0 x1 y0 y1 m0 m1 t:Rat)
theorem ai6:ev (Br x0 x1 y0 y1 m0 m1) t=y0+m0*(t-x0)+AO x0 x1 y0 y1 m0*(t-x0)*(t-x0)+Uq x0 x1 y0 y1 m0 m1*(t-x0)*(t-x0)*(t-x1):=by
 rw [Br,eJ];grind
theorem WO:ev (cM (Br x0 x1 y0 y1 m0 m1)) t=m0+2*AO x0 x1 y0 y1 m0*(t-x0)+Uq x0 x1 y0 y1 m0 m1*(2*(t-x0)*(t-x1)+(t-x0)*(t-x0)):=by
 rw [Br,rW,eJ];grind
theorem ac9:ev (Br x0 x1 y0 y1 m0 m1) x0=y0:=by rw [ai6];grind
theorem Yh:ev (cM (Br x0 x1 y0 y1 m0 m1)) x0=m0:=by rw [WO];grind
variable {x0 x1} (h:x1-x0≠0)
include h
theorem XX:ev (Br x0 x1 y0 y1 m0 m1) x1=y1:=by
 have:=Rat.div_mul_cancel (a:=y1-(y0+m0*(x1-x0))) (b:=(x1-x0)*(x1-x0)) (fun e=>by rcases Rat.mul_eq_zero.1 e with e | e<;>exact h e);rw [ai6,AO];grind
theorem VG:ev (cM (Br x0 x1 y0 y1 m0 m1)) x1=m1:=by
 have:=Rat.div_mul_cancel (a:=m1-(m0+2*AO x0 x1 y0 y1 m0*(x1-x0))) (b:=(x1-x0)*(x1-x0)) (fun e=>by rcases Rat.mul_eq_zero.1 e with e | e<;>exact h e);rw [WO,Uq];grind
end
open Go Go.Proofs Tryz Ord
def aI5:Tr:=aZ 76 [(G3 49),(G3 50)] [(some 3)] [97,98] [46,46] 46 false (aZ 88 [(G3 32),(G3 43)] [(some 3)] [100,101] [46,46] 46 false (aZ 112 [(G3 51),(G3 52)] [(some 3)] [99,102] [46,46] 46 true (.need (.lit 3 [[(.u 53 0),(.u 53 1),(.u 53 2)]]) (.buildSlice 28 1 #[(0,(tT 103))]) 28 false (.need (.app 3 56 (some 10) none (some 54)) (.call ⟨.builtin .append,#[(tT 87),(tT 104)],#[28,28]⟩) 28 false (bI .add 3 34 1 9 0 3 (.back 0 [lV 56 0, .row 55]))))))
def aI9:Tr:=bI .sub 3 89 1 9 0 3 (eW 4 0 44 0 28 88 90 (eI 45 0 (some 3) 46 91 (eW 4 0 9 0 28 93 94 (eI 47 0 (some 3) 46 95 (aZ 88 [(G3 46),(G3 48)] [(some 3)] [92,96] [46,46] 46 false (.need (.call 113 [(WK 3)] [(some 3)]) (.call ⟨.value (.func 113),#[(.const (I3 3))],#[3]⟩) 46 false aI5))))))
def aB7:Tr:=eI 36 0 (some 3) 46 77 (.need (.call 113 [(WK 2)] [(some 3)]) (.call ⟨.value (.func 113),#[(.const (I3 2))],#[3]⟩) 46 false (aZ 76 [(G3 37),(G3 38)] [(some 3)] [78,79] [46,46] 46 false (aZ 88 [(G3 34),(G3 39)] [(some 3)] [73,80] [46,46] 46 false (eW 5 0 9 0 28 82 83 (eI 41 0 (some 3) 46 84 (aZ 112 [(G3 40),(G3 42)] [(some 3)] [81,85] [46,46] 46 true aI9))))))
def aE8:Tr:=eW 5 0 29 0 28 64 66 (eI 30 0 (some 3) 46 67 (aZ 112 [(G3 28),(G3 31)] [(some 3)] [63,68] [46,46] 46 true (eW 4 0 9 0 28 70 71 (eI 33 0 (some 3) 46 72 (bI .sub 3 75 1 9 0 3 (eW 4 0 35 0 28 74 76 aB7))))))
def au5:Tr:=.need (.call 113 [(WK 2)] [(some 3)]) (.call ⟨.value (.func 113),#[(.const (I3 2))],#[3]⟩) 46 false (aZ 76 [(G3 22),(G3 23)] [(some 3)] [55,56] [46,46] 46 false (bI .sub 3 59 1 9 0 3 (eW 4 0 25 0 28 58 60 (eI 26 0 (some 3) 46 61 (aZ 88 [(G3 24),(G3 27)] [(some 3)] [57,62] [46,46] 46 false (bI .sub 3 65 1 9 0 3 aE8))))))
def at2:Tr:=aZ 23 [(G3 18)] [none] [45] [46] 3 true (bI .leq 3 46 0 19 0 4 (.split (.u 20 0) (.need (.lit 3 [[(.k (.slice none 0 0)),(.k (.bool false)),(.k (.slice none 0 0))]]) (.buildSlice 28 1 #[(0,(tT 49))]) 28 false (.need (.app 3 56 (some 10) none (some 21)) (.call ⟨.builtin .append,#[(tT 48),(tT 50)],#[28,28]⟩) 28 false (bI .add 3 34 1 9 0 3 (.back 0 [lV 23 0, .row 22])))) (eW 4 0 9 0 28 52 53 (eI 21 0 (some 3) 46 54 au5))))
def aD6:Tr:=.need (.lit 3 [[(.u 36 0),(.u 36 1),(.u 36 2)],[(.u 38 0),(.u 38 1),(.u 38 2)]]) (.buildSlice 28 2 #[(0,(tT 147)),(1,(tT 152))]) 28 false (.need (.lit 4 [[(.u 26 0),(.u 26 1),(.u 26 2),(.sr 3 30)],[(.u 33 0),(.u 33 1),(.u 33 2),(.sr 3 39)]]) (.buildSlice 90 2 #[(0,(tT 137)),(1,(tT 154))]) 90 false (aZ 45 [(.one (.c (.sr 4 40)))] [none,none] [155] [90] 99 false (.need (.lit 1 [[(.u 41 0)]]) (.buildSlice 29 1 #[(0,(tT 161))]) 29 false (.need (.app 1 24 (some 23) none (some 43)) (.call ⟨.builtin .append,#[(tT 160),(tT 162)],#[29,29]⟩) 29 false (bI .add 3 120 1 21 0 3 (.back 0 [lV 45 0,lV 22 0, .row 44]))))))
def aD1:Tr:=eI 32 0 (some 3) 46 141 (bI .add 3 144 1 21 0 3 (eW 1 0 34 0 28 143 145 (eI 35 0 (some 3) 46 146 (bI .add 3 149 1 21 0 3 (.need (.idx 18 (.u 37 0)) (.indexAddr 28 (tT 148) (tT 150)) 0 false (.need (.ldrow 18 (.u 37 0) 0 3 true) (.load 46 (tT 151)) 46 false aD6))))))
def av7:Tr:=eW 1 0 21 0 28 128 129 (eI 27 0 (some 3) 46 130 (.need (.idx 18 (.u 21 0)) (.indexAddr 28 (tT 132) (tT 133)) 0 false (.need (.ldrow 18 (.u 21 0) 0 3 true) (.load 46 (tT 134)) 46 false (.need (.lit 3 [[(.u 28 0),(.u 28 1),(.u 28 2)],[(.u 29 0),(.u 29 1),(.u 29 2)]]) (.buildSlice 28 2 #[(0,(tT 131)),(1,(tT 135))]) 28 false (bI .add 3 139 1 21 0 3 (eW 0 0 31 0 28 138 140 aD1))))))
def aB4:Tr:=aZ 84 [(W 0 0)] [none] [115] [28] 28 true (dS 5 0 118 28 (.loop 0 [lK 0,lV 19 0, .nilrow] (cU .lss 3 120 119 21 0 20 0 0 (.split (.u 24 0) (eW 0 0 21 0 28 124 125 (eI 25 0 (some 3) 46 126 av7)) (.ret [(.agg [(U 22 0),(.c (.sr 1 23))]),(WK 0)])))))
def aE7:Tr:=.split (.u 12 0) (bI .sub 3 37 1 9 0 3 (eW 5 0 13 0 28 36 38 (eI 14 0 (some 3) 46 39 (eW 5 0 9 0 28 41 42 (eI 16 0 (some 3) 46 43 (aZ 76 [(G3 15),(G3 17)] [(some 3)] [40,44] [46,46] 46 false at2)))))) (dS 5 0 108 28 (bI .sub 3 109 1 13 0 3 (eW 5 0 14 0 28 107 110 (eI 15 0 (some 3) 46 111 (.need (.lit 3 [[(.u 16 0),(.u 16 1),(.u 16 2)]]) (.buildSlice 28 1 #[(0,(tT 112))]) 28 false (.need (.app 3 56 (some 10) none (some 17)) (.call ⟨.builtin .append,#[(tT 106),(tT 113)],#[28,28]⟩) 28 false aB4))))))
def bk9:Tr:=aZ 132 [(W 0 0),(W 1 0)] [none] [23,24] [28,28] 28 true (.need (.prim [(W 5 0),(WK 0)] none) (.indexAddr 28 (tT 26) (.const (I3 0))) 0 false (eI 6 0 (some 3) 46 27 (.need (.lit 3 [[(.u 7 0),(.u 7 1),(.u 7 2)]]) (.buildSlice 28 1 #[(0,(tT 28))]) 28 false (.loop 0 [lK 1, .row 8] (dS 5 0 31 28 (cU .lss 3 30 32 9 0 11 0 4 aE7))))))
def aZ2:Tr:=aZ 129 [(W 0 0),(W 1 0)] [none] [16,17] [28,28] 4 true (.need (.prim [(W 2 0)] none) (.unOp .not 4 (tT 18)) 4 false (.split (.u 3 0) (.ret [(.agg [tN,tN]),(WK 2)]) (aZ 131 [(W 0 0)] [none] [21] [28] 28 false bk9)))
theorem Rd:aV prog f54 (fun _=>none) [.v none, .v none]=aZ2:=by kernel_rfl
def inS (h d:List Rat) (i:Nat):Rat:=if d.getD (i-1) 0*d.getD i 0<=0 then 0 else yQ ((h.getD (i-1) 0+h.getD i 0)*((3:Int):Rat)) (yQ (h.getD i 0*((2:Int):Rat)+h.getD (i-1) 0) (d.getD (i-1) 0)+yQ (h.getD i 0+h.getD (i-1) 0*((2:Int):Rat)) (d.getD i 0))
def yE (h d:List Rat) (i:Nat):List Rat:=d.getD 0 0::(List.range i).map fun j=>inS h d (j+1)
def qG (h d:List Rat):List Rat:=yE h d (d.length-1) ++ [d.getD (d.length-1) 0]
theorem TX (h d:List Rat) (i:Nat):(yE h d i).length=i+1:=by simp [yE]
theorem Nn (h d:List Rat) (i:Nat):yE h d i ++ [inS h d (i+1)]=yE h d (i+1):=by rw [yE,yE,List.range_succ,List.map_append];rfl
theorem ai9 {h d:List Rat} (hd:1<=d.length:=by omega):(qG h d).length=d.length+1:=by rw [qG,eC,TX];simp;omega
theorem az4 {h d:List Rat} (fh:∀ i,Fit 81 (h.getD i 0)) (fd:∀ i,Fit 162 (d.getD i 0)) (i:Nat):Fit 2000 (inS h d i):=by
 have f2:Fit 2 ((2:Int):Rat):=fS;have f3:Fit 2 ((3:Int):Rat):=by unfold Fit;decide
 unfold inS;split
 .exact Fit.zero (by omega)
 .exact (kO (((fh _).add (fh _)).mul f3) ((kO (((fh _).mul f2).add (fh _)) (fd _)).add (kO ((fh _).add ((fh _).mul f2)) (fd _)))).mono (by omega)
theorem Ej {h d:List Rat} (fh:∀ i,Fit 81 (h.getD i 0)) (fd:∀ i,Fit 162 (d.getD i 0)):∀ a∈qG h d,Fit 2000 a:=fun a ha=>by
 rcases List.mem_append.1 ha with ha | ha
 .rcases List.mem_cons.1 ha with rfl | ha
  .exact (fd _).mono (by omega)
  .obtain ⟨j,_,rfl⟩:=eM.1 ha;exact az4 fh fd _
 .rw [List.mem_singleton.1 ha];exact (fd _).mono (by omega)
def mX (x y:List Rat) (i:Nat):List Rat:=Br (x.getD i 0) (x.getD (i+1) 0) (y.getD i 0) (y.getD (i+1) 0) ((qG (cX x) (bR x y)).getD i 0) ((qG (cX x) (bR x y)).getD (i+1) 0)
theorem Zg (x y:List Rat) (i:Nat):(List.range i).map (mX x y) ++ [mX x y i]=(List.range (i+1)).map (mX x y):=by rw [List.range_succ,List.map_append];rfl
theorem WW {q:Rat}:q.num.sign<=0↔q<=0:=by
 rcases Int.lt_trichotomy q.num 0 with h | h | h
 .rw [Int.sign_eq_neg_one_of_neg h];exact ⟨fun _=>Rat.le_of_lt (Rat.not_le.1 fun e=>by have:=Rat.num_nonneg.2 e;omega),fun _=>by omega⟩
 .rw [h,Rat.num_eq_zero.1 h];decide
 .rw [Int.sign_eq_one_of_pos h];refine ⟨fun h=>by omega,fun e=>?_⟩;have h0:0<=q:=Rat.num_nonneg.1 (by omega);have:q=0:=by grind
  rw [this] at h;exact absurd h (by decide)
theorem bd7 {h d:List Rat} {i:Nat} (e:d.getD i 0*d.getD (i+1) 0<=0):inS h d (i+1)=0:=if_pos e
theorem bi4 {h d:List Rat} {i:Nat} (e:¬ d.getD i 0*d.getD (i+1) 0<=0):inS h d (i+1)=yQ ((h.getD i 0+h.getD (i+1) 0)*((3:Int):Rat)) (yQ (h.getD (i+1) 0*((2:Int):Rat)+h.getD i 0) (d.getD i 0)+yQ (h.getD (i+1) 0+h.getD i 0*((2:Int):Rat)) (d.getD (i+1) 0)):=if_neg e
theorem Yz (s:List Rat):bB (bB aD.Sub) (rQ s ++ [z3]) (rQ (s ++ [0])):=by
 rw [show rQ (s ++ [0])=rQ s ++ [qC 0] from List.map_append];exact bB.append (bB.uQ (bB.uQ aD.Sub.refl) _) ⟨jV,trivial⟩
set_option maxHeartbeats 1000000 in
theorem Uh (x y:List Rat) (D:Ar x y):aQ prog 54 [(.one (sQ x):aJ),(.one (sQ y):aJ)] (.ret [.agg (uP x ((List.range (x.length-1)).map (mX x y))), .one (.int .i64 0)]):=by
 refine eH func54 Rd ?_;have h2:=D.h2;have h8:=D.h8;have hxy:=D.hxy;have hwl:=iD x;have hsl:=xK x y;have fh:=D.h;have fd:=D.d;apply aA (Dn x y 40 D.hx) rfl;rw [D.giv];apply vn gX rfl;refine pY false rfl (fun h=>by cases h) (fun _=>?_);apply aA (mA x 40 D.hx h2).OY rfl;apply aA (pR x y 40 D.hx D.hy h2 hxy).OY rfl;dsimp only [aE,aF];apply vn (aH bG (m:=0) (by omega) rfl (aI (show 0<(bR x y).length by omega))) rfl;apply vn (aR cF (by decide) (by simp) (.inl rfl)) rfl;apply eK (us:=[qC ((bR x y).getD 0 0)]) rfl;refine bZ {i:Nat // i+1<=(bR x y).length} (fun g=>[.one (.int .i64 ((g.1:Int)+1)), .rows (rQ (yE (cX x) (bR x y) g.1))]) (fun g=>(bR x y).length-g.1) ⟨0,by omega⟩ aX.rfl (fun _=>rfl) ?_;rintro ⟨i,hi⟩;dsimp only [aE,aF] at hi ⊢;have hpl:=TX (cX x) (bR x y) i;apply vn (aM bG (aK _)) rfl;apply vn bQ rfl;refine vs _ rfl ?_ ?_<;>intro h12
 .apply vn (aG (by omega) (by omega)) rfl;dsimp only [aE,aF];apply vn (aH bG (m:=i) (by omega) (by omega) (aI (show i<(bR x y).length by omega))) rfl;apply vn (aR cF (by decide) (by simp) (.inl rfl)) rfl;dsimp only [aE,aF];apply vn (aH bG (m:=i+1) (by omega) (by omega) (aI (show i+1<(bR x y).length by omega))) rfl;apply vn (aR cF (by decide) (by simp) (.inl rfl)) rfl;apply aA (fK _ _ 162 162 (fd _) (fd _)) rfl;apply aA (jW _) rfl;dsimp only [aE,aF];apply vn nX rfl;refine vs _ rfl ?_ ?_<;>intro h21
  .apply eK (us:=[z3]) rfl;refine BC (ts:=rQ (yE (cX x) (bR x y) i)) (us:=[z3]) (vs:=rQ (yE (cX x) (bR x y) i) ++ [z3]) rfl rfl rfl (by rw [eC,aK];simp only [List.length_cons,List.length_nil];omega) (by rw [eC,aK];simp only [List.length_cons,List.length_nil,maxLen];omega) ?_;apply vn (aB (by omega) (by omega)) rfl
   exact bD rfl ⟨⟨i+1,by omega⟩,⟨aJ.Sub.same,by
    show bB (bB aD.Sub) _ (rQ (yE (cX x) (bR x y) (i+1)));rw [<-Nn,bd7 (WW.1 h21)];exact Yz _,trivial⟩,by show (bR x y).length-(i+1)<(bR x y).length-i;omega⟩
  apply vn (aH bG (m:=i+1) (by omega) (by omega) (aI (show i+1<(cX x).length by omega))) rfl;dsimp only [aE,aF];apply vn (aR cF (by decide) (by simp) (.inl rfl)) rfl;apply aA (dE 2) rfl;apply aA (fK _ _ 81 62 (fh _) (Fit.int (by omega) (by omega))) rfl;apply vn (aG (by omega) (by omega)) rfl;dsimp only [aE,aF];apply vn (aH bG (m:=i) (by omega) (by omega) (aI (show i<(cX x).length by omega))) rfl;apply vn (aR cF (by decide) (by simp) (.inl rfl)) rfl;apply aA (jU _ _ _ 81 ((fh _).mul (Fit.int (B:=62) (by omega) (by omega))) (fh _)) rfl;apply vn (aG (by omega) (by omega)) rfl;dsimp only [aE,aF];apply vn (aH bG (m:=i) (by omega) (by omega) (aI (show i<(bR x y).length by omega))) rfl;apply vn (aR cF (by decide) (by simp) (.inl rfl)) rfl;apply aA (iZ _ _ _ 162 (((fh _).mul (Fit.int (B:=62) (by omega) (by omega))).add (fh _)) (fd _)) rfl;dsimp only [aE,aF];apply vn (aH bG (m:=i+1) (by omega) (by omega) (aI (show i+1<(cX x).length by omega))) rfl;apply vn (aR cF (by decide) (by simp) (.inl rfl)) rfl;apply vn (aG (by omega) (by omega)) rfl;dsimp only [aE,aF];apply vn (aH bG (m:=i) (by omega) (by omega) (aI (show i<(cX x).length by omega))) rfl;apply vn (aR cF (by decide) (by simp) (.inl rfl)) rfl;apply aA (dE 2) rfl;apply aA (fK _ _ 81 62 (fh _) (Fit.int (by omega) (by omega))) rfl;dsimp only [aE,aF];apply aA (jU _ _ 81 _ (fh _) ((fh _).mul (Fit.int (B:=62) (by omega) (by omega)))) rfl;dsimp only [aE,aF];apply vn (aH bG (m:=i+1) (by omega) (by omega) (aI (show i+1<(bR x y).length by omega))) rfl;apply vn (aR cF (by decide) (by simp) (.inl rfl)) rfl;apply aA (iZ _ _ _ 162 ((fh _).add ((fh _).mul (Fit.int (B:=62) (by omega) (by omega)))) (fd _)) rfl;apply vn (aG (by omega) (by omega)) rfl;dsimp only [aE,aF];apply vn (aH bG (m:=i) (by omega) (by omega) (aI (show i<(cX x).length by omega))) rfl;apply vn (aR cF (by decide) (by simp) (.inl rfl)) rfl;dsimp only [aE,aF];apply vn (aH bG (m:=i+1) (by omega) (by omega) (aI (show i+1<(cX x).length by omega))) rfl;apply vn (aR cF (by decide) (by simp) (.inl rfl)) rfl;apply aA (jU _ _ 81 81 (fh _) (fh _)) rfl;apply aA (dE 3) rfl;dsimp only [aE,aF];apply aA (fK _ _ _ 62 ((fh _).add (fh _)) (Fit.int (by omega) (by omega))) rfl;apply aA (jU _ _ _ _ (kO (((fh _).mul (Fit.int (B:=62) (by omega) (by omega))).add (fh _)) (fd _)) (kO ((fh _).add ((fh _).mul (Fit.int (B:=62) (by omega) (by omega)))) (fd _))) rfl;apply aA (iZ _ _ _ _ (((fh _).add (fh _)).mul (Fit.int (B:=62) (by omega) (by omega))) ((kO (((fh _).mul (Fit.int (B:=62) (by omega) (by omega))).add (fh _)) (fd _)).add (kO ((fh _).add ((fh _).mul (Fit.int (B:=62) (by omega) (by omega)))) (fd _)))) rfl;dsimp only [aE,aF];have hin:yQ (((cX x).getD i 0+(cX x).getD (i+1) 0)*((3:Int):Rat)) (yQ ((cX x).getD (i+1) 0*((2:Int):Rat)+(cX x).getD i 0) ((bR x y).getD i 0)+yQ ((cX x).getD (i+1) 0+(cX x).getD i 0*((2:Int):Rat)) ((bR x y).getD (i+1) 0))=inS (cX x) (bR x y) (i+1):=(bi4 fun e=>h21 (WW.2 e)).symm;rw [hin];apply eK (us:=[qC (inS (cX x) (bR x y) (i+1))]) rfl;refine kX (xs:=yE (cX x) (bR x y) i) (x:=inS (cX x) (bR x y) (i+1)) (f:=qC) rfl rfl (by omega) (by simp only [maxLen];omega) ?_;rw [Nn];apply vn (aB (by omega) (by omega)) rfl;dsimp only [aE,aF];exact bD rfl ⟨⟨i+1,by omega⟩,aX.rfl,by show (bR x y).length-(i+1)<(bR x y).length-i;omega⟩
 apply vn (aM bG (aK _)) rfl;apply vn (aG (by omega) (by omega)) rfl;dsimp only [aE,aF];have hie:i=(bR x y).length-1:=by omega
 apply vn (aH bG (m:=i) (by omega) (by omega) (aI (show i<(bR x y).length by omega))) rfl;apply vn (aR cF (by decide) (by simp) (.inl rfl)) rfl;apply eK (us:=[qC ((bR x y).getD i 0)]) rfl;refine kX (xs:=yE (cX x) (bR x y) i) (x:=(bR x y).getD i 0) (f:=qC) rfl rfl (by omega) (by simp only [maxLen];omega) ?_;rw [show yE (cX x) (bR x y) i ++ [(bR x y).getD i 0]=qG (cX x) (bR x y) by rw [qG,<-hie]];have hsll:=ai9 (h:=cX x) (d:=bR x y);have hslf:=fun j=>aC (Ej fh fd) j;dsimp only [aE,aF];apply aA (yR (rQ x) (by rw [aK];omega)) rfl;apply vn (aM bG (aK _)) rfl;refine bZ {j:Nat // j<=(bR x y).length} (fun g=>[.one (.int .i64 (g.1:Int)), .one (sQ x), .rows (((List.range g.1).map (mX x y)).map cQ)]) (fun g=>(bR x y).length-g.1) ⟨0,dD _⟩ aX.rfl (fun _=>rfl) ?_;rintro ⟨j,hj⟩;dsimp only [aE,aF] at hj ⊢;have hjl:((List.range j).map (mX x y)).length=j:=by simp
 apply vn bQ rfl;refine vs _ rfl ?_ ?_<;>intro h73
 .have hj':j<(bR x y).length:=by omega
  apply vn (aH bG (m:=j) (by omega) (Int.toNat_natCast j) (aI (show j<x.length by omega))) rfl;apply vn (aR cF (by decide) (by simp) (.inl rfl)) rfl;dsimp only [aE,aF];apply vn (aH bG (m:=j) (by omega) (Int.toNat_natCast j) (aI (show j<y.length by omega))) rfl;apply vn (aR cF (by decide) (by simp) (.inl rfl)) rfl;refine cJ rfl rfl (by omega) (by omega) ?_;refine vld (ts:=rQ (qG (cX x) (bR x y))) (cells:=qC ((qG (cX x) (bR x y)).getD j 0)) rfl rfl (by omega) (by rw [Int.toNat_natCast,dL,aI (show j<(qG (cX x) (bR x y)).length by omega)];rfl) (.inl rfl) rfl ?_;dsimp only [aE,aF,XF,List.drop,List.take];apply eK (us:=[qC (y.getD j 0),qC ((qG (cX x) (bR x y)).getD j 0)]) rfl;apply vn (aB (by omega) (by omega)) rfl;dsimp only [aE,aF];apply vn (aH bG (m:=j+1) (by omega) (by omega) (aI (show j+1<x.length by omega))) rfl;apply vn (aR cF (by decide) (by simp) (.inl rfl)) rfl;apply vn (aB (by omega) (by omega)) rfl;dsimp only [aE,aF];apply vn (aH bG (m:=j+1) (by omega) (by omega) (aI (show j+1<y.length by omega))) rfl;apply vn (aR cF (by decide) (by simp) (.inl rfl)) rfl;apply vn (aB (by omega) (by omega)) rfl;refine cJ rfl rfl (by omega) (by omega) ?_;refine vld (ts:=rQ (qG (cX x) (bR x y))) (cells:=qC ((qG (cX x) (bR x y)).getD (j+1) 0)) rfl rfl (by omega) (by rw [show ((j:Int)+1).toNat=j+1 by omega,dL,aI (show j+1<(qG (cX x) (bR x y)).length by omega)];rfl) (.inl rfl) rfl ?_;dsimp only [aE,aF,XF,List.drop,List.take];apply eK (us:=[qC (y.getD (j+1) 0),qC ((qG (cX x) (bR x y)).getD (j+1) 0)]) rfl;apply eK (us:=[yV (x.getD j 0,[y.getD j 0,(qG (cX x) (bR x y)).getD j 0]),yV (x.getD (j+1) 0,[y.getD (j+1) 0,(qG (cX x) (bR x y)).getD (j+1) 0])]) rfl;dsimp only [aE,aF]
  have hh:aQ prog 45 [.one (sJ [(x.getD j 0,[y.getD j 0,(qG (cX x) (bR x y)).getD j 0]),(x.getD (j+1) 0,[y.getD (j+1) 0,(qG (cX x) (bR x y)).getD (j+1) 0])])] (.ret [.one (sQ (mX x y j)), .one (.int .i64 0)]):=
   bd3 (aC D.hx j) (aC D.hx (j+1)) (aC D.hy j) (aC D.hy (j+1)) (hslf j) (hslf (j+1)) (by
    have:=Cc D.hr (Nat.lt_succ_self j) (show j+1<x.length by omega);intro e;grind)
  apply aA hh rfl;apply eK (us:=[cQ (mX x y j)]) rfl;refine kX (xs:=(List.range j).map (mX x y)) (x:=mX x y j) (f:=cQ) rfl rfl (by omega) (by simp only [maxLen];omega) ?_;rw [Zg];apply vn (aB (by omega) (by omega)) rfl;dsimp only [aE,aF];exact bD rfl ⟨⟨j+1,by omega⟩,aX.rfl,by show (bR x y).length-(j+1)<(bR x y).length-j;omega⟩
 rw [show x.length-1=j by omega];exact aL rfl
end Go.Sy
