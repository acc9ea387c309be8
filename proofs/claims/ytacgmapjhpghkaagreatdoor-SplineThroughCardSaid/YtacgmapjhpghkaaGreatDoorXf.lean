/- Part. -/
import Derived.Test.YtacgmapjhpghkaaGreatDoorXe
set_option linter.all false
namespace Go.Sy
open Go Go.Proofs Tryz Ord
def dJ:Tr:=.ret [(tF false)]
def ZI:Tr:=bD .neq 54 296 0 100 0 4 (.split (.u 103 0) dJ (aX 67 [(G3 95),(G3 99)] [none] [300,301] [46,46] 3 false (bD .neq 3 302 0 104 0 4 (.split (.u 105 0) dJ (bD .add 3 265 1 87 0 3 (.back 0 [lV 92 0,lV 86 0,lV 106 0,lV 91 0,lV 91 1]))))))
def Zn:Tr:=eI 4 0 20 0 28 282 283 (dF 97 0 (some 3) 46 284 (aX 16 [(G2 91),(G3 98)] [(some 3),none] [281,285] [31,46] 55 false (bD .neq 54 289 0 92 0 4 (.split (.u 101 0) dJ (bD .neq 54 292 0 96 0 4 (.split (.u 102 0) dJ ZI))))))
def af7:Tr:=.loop 0 [lV 80 0,(.w (.one (.c (.k (.bool false))))),lK 1,lV 79 0,lV 79 1] (bD .leq 3 263 2 87 0 4 (.split (.u 90 0) (aX 17 [(.agg [(U 88 0),(U 89 0)])] [(some 2),none] [268] [31] 57 false (.need (.prim [(W 4 0),(WK 0)] none) (.indexAddr 28 (tT 274) (.const (I3 0))) 0 false (dF 93 0 (some 3) 46 275 (aX 16 [(G2 91),(G3 94)] [(some 3),none] [273,276] [31,46] 55 false Zn)))) (aX 14 [] [none] [] [] 4 true (.ret [(W 91 0)]))))
def ak2:Tr:=bD .lss 3 247 2 20 0 4 (.split (.u 81 0) (bD .eql 54 249 2 80 0 4 (.split (.u 82 0) (aX 14 [] [none] [] [] 4 true (.ret [(W 83 0)])) dJ)) (bD .neq 54 254 0 80 0 4 (.split (.u 82 0) dJ (.need (.call 68 [(G2 79),(W 4 0),(.one (.c (.sr 3 78))),(WK 2)] [none]) (.call ⟨.value (.func 68),#[(tT 257),(tT 258),(tT 259),(.const (I3 2))],#[31,28,28,3]⟩) 4 false (.need (.prim [(W 83 0)] none) (.unOp .not 4 (tT 260)) 4 false (.split (.u 84 0) dJ af7))))))
def av2:Tr:=.need (.prim [(W 5 0),(W 20 0)] none) (.slice 28 (tT 232) none (some (tT 233)) none) 28 false (.need (.app 3 56 none (some (.u 73 0)) none) (.call ⟨.builtin .append,#[(.const (.slice none 0 0)),(tT 234)],#[28,28]⟩) 28 false (.need (.prim [(W 5 0),(WK 0)] none) (.indexAddr 28 (tT 236) (.const (I3 0))) 0 false (dF 75 0 (some 3) 46 237 (.need (.lit 3 [[(.u 76 0),(.u 76 1),(.u 76 2)]]) (.buildSlice 28 1 #[(0,(tT 238))]) 28 false (.need (.app 3 56 (some 74) none (some 77)) (.call ⟨.builtin .append,#[(tT 235),(tT 239)],#[28,28]⟩) 28 false (aX 51 [(W 4 0),(.one (.c (.sr 3 78)))] [(some 2),none] [242,243] [28,28] 57 false ak2))))))
def aC2:Tr:=.split (.u 68 0) dJ (aX 67 [(G3 52),(G3 15)] [none] [221,222] [46,46] 3 false (bD .neq 3 223 0 69 0 4 (.split (.u 70 0) dJ (aX 67 [(G3 56),(G3 17)] [none] [227,228] [46,46] 3 false (bD .neq 3 229 0 71 0 4 (.split (.u 72 0) dJ av2))))))
def az2:Tr:=bD .neq 54 207 0 57 0 4 (.split (.u 64 0) dJ (aX 23 [(G3 42)] [none] [211] [46] 3 false (bD .neq 3 212 0 65 0 4 (.split (.u 66 0) dJ (aX 23 [(G3 46)] [none] [216] [46] 3 false (bD .neq 3 217 0 67 0 4 aC2))))))
def aw2:Tr:=.split (.u 60 0) dJ (bD .neq 54 195 0 47 0 4 (.split (.u 61 0) dJ (bD .neq 54 199 0 49 0 4 (.split (.u 62 0) dJ (bD .neq 54 203 0 53 0 4 (.split (.u 63 0) dJ az2))))))
def ay8:Tr:=dF 54 0 (some 3) 46 179 (aX 16 [(G2 48),(G3 55)] [(some 3),none] [176,180] [31,46] 55 false (bD .neq 54 184 0 37 0 4 (.split (.u 58 0) dJ (bD .neq 54 187 0 39 0 4 (.split (.u 59 0) dJ (bD .neq 54 191 0 43 0 4 aw2))))))
def aA3:Tr:=dF 44 0 (some 3) 46 157 (aX 16 [(G2 38),(G3 45)] [(some 3),none] [154,158] [31,46] 55 false (aX 17 [(G2 23)] [(some 2),none] [163] [31] 57 false (.need (.prim [(W 4 0),(WK 0)] none) (.indexAddr 28 (tT 169) (.const (I3 0))) 0 false (dF 50 0 (some 3) 46 170 (aX 16 [(G2 48),(G3 51)] [(some 3),none] [168,171] [31,46] 55 false (eI 4 0 20 0 28 177 178 ay8))))))
def ay3:Tr:=.split (.u 35 0) dJ (aX 17 [(G2 21)] [(some 2),none] [136] [31] 57 false (aX 17 [(G2 36)] [(some 2),none] [141] [31] 57 false (.need (.prim [(W 4 0),(WK 0)] none) (.indexAddr 28 (tT 147) (.const (I3 0))) 0 false (dF 40 0 (some 3) 46 148 (aX 16 [(G2 38),(G3 41)] [(some 3),none] [146,149] [31,46] 55 false (eI 4 0 20 0 28 155 156 aA3))))))
def aH5:Tr:=.need (.prim [(W 30 0)] none) (.unOp .not 4 (tT 118)) 4 false (.split (.u 31 0) dJ (.need (.call 68 [(G2 23),(W 4 0),(W 5 0),(WK 2)] [none]) (.call ⟨.value (.func 68),#[(tT 122),(tT 123),(tT 124),(.const (I3 2))],#[31,28,28,3]⟩) 4 false (.need (.prim [(W 32 0)] none) (.unOp .not 4 (tT 125)) 4 false (.split (.u 33 0) dJ (.need (.call 68 [(G2 25),(W 4 0),(W 5 0),(WK 1)] [none]) (.call ⟨.value (.func 68),#[(tT 129),(tT 130),(tT 131),(.const (I3 1))],#[31,28,28,3]⟩) 4 false (.need (.prim [(W 34 0)] none) (.unOp .not 4 (tT 132)) 4 false ay3))))))
def aw1:Tr:=bD .neq 54 104 0 22 0 4 (.split (.u 27 0) dJ (bD .neq 54 107 0 24 0 4 (.split (.u 28 0) dJ (bD .neq 54 111 0 26 0 4 (.split (.u 29 0) dJ (.need (.call 68 [(G2 21),(W 4 0),(W 5 0),(WK 2)] [none]) (.call ⟨.value (.func 68),#[(tT 115),(tT 116),(tT 117),(.const (I3 2))],#[31,28,28,3]⟩) 4 false aH5))))))
def az3:Tr:=aX 15 [(G3 2)] [(some 3),(some 4)] [72] [27] 52 false (aX 15 [(G3 3)] [(some 3),(some 4)] [77] [27] 52 false (dD 4 0 81 28 (bD .sub 3 82 1 19 0 3 (aX 49 [(W 4 0),(W 5 0)] [(some 2),none] [85,86] [28,28] 57 false (aX 50 [(W 4 0),(W 5 0),(G3 15),(G3 17)] [(some 2),none] [91,92,93,94] [28,28,46,46] 57 false (aX 54 [(W 4 0),(W 5 0)] [(some 2),none] [99,100] [28,28] 57 false aw1))))))
def bc3:Tr:=.split (.u 11 0) (aX 14 [] [none] [] [] 4 true (.ret [(W 12 0)])) (.need (.lit 3 [[(.u 2 0),(.u 2 1),(.u 2 2)],[(.u 3 0),(.u 3 1),(.u 3 2)]]) (.buildSlice 22 2 #[(0,(tT 64)),(1,(tT 65))]) 22 false (.need (.call 13 [(.one (.c (.sr 3 12))),(WK 2)] [none]) (.call ⟨.value (.func 13),#[(tT 66),(.const (I3 2))],#[22,3]⟩) 4 false (.need (.prim [(W 13 0)] none) (.unOp .not 4 (tT 67)) 4 false (.split (.u 14 0) (aX 14 [] [none] [] [] 4 true (.ret [(W 15 0)])) az3))))
def aR3:Tr:=.need (.call 48 [(W 0 0),(W 1 0),(WK 8)] [none,none,none,none,none]) (.call ⟨.value (.func 48),#[(tT 47),(tT 48),(.const (I3 8))],#[22,22,3]⟩) 105 false (.need (.prim [(W 8 0)] none) (.unOp .not 4 (tT 55)) 4 false (.split (.u 9 0) (aX 14 [] [none] [] [] 4 true (.ret [(W 10 0)])) (aX 52 [(W 6 0),(W 7 0)] [none] [58,59] [32,32] 4 false (.need (.prim [(W 10 0)] none) (.unOp .not 4 (tT 60)) 4 false bc3))))
theorem zL:aV prog f10 (fun _=>none) [.v none, .v none, .v (some 3), .v (some 3)]=aR3:=by kernel_rfl
theorem aR6 {x y:List eJ} (h:Oq x y 8=true) (hg:mO (cG x) (cG y)=true):tM (cG x) (cG y):=by
 simp only [Oq,Bool.and_eq_true,Bool.not_eq_true',Bool.and_eq_false_iff,decide_eq_false_iff_not] at h;simp only [mO,Bool.and_eq_true,decide_eq_true_eq] at hg;obtain ⟨g1,g2,g3,g4⟩:=hg;have hl:(cG x).length=x.length:=aL _;refine ⟨g1,?_,g4,g3,(wF h.1).2,(wF h.2.1).2⟩;rcases h.2.2 with e | e<;>omega
theorem aQ3 {x y:List Rat} (D:tM x y):tM x (y.take (x.length-1) ++ [y.getD 0 0])/\(y.take (x.length-1) ++ [y.getD 0 0]).getD 0 0=y.getD 0 0/\(y.take (x.length-1) ++ [y.getD 0 0]).getD (x.length-1) 0=y.getD 0 0:=by
 have h2:=D.h2;have hxy:=D.hxy;have hl:(y.take (x.length-1)).length=x.length-1:=by rw [List.length_take];omega
 refine ⟨⟨h2,D.h8,D.hr,by rw [eE,hl];simp;omega,D.hx,fun a ha=>?_⟩,?_,?_⟩
 .rcases List.mem_append.1 ha with ha | ha
  .exact D.hy a (List.mem_of_mem_take ha)
  .rw [List.mem_singleton.1 ha];exact aB D.hy 0
 .rw [fI,List.getElem?_append_left (by omega),List.getElem?_take,if_pos (by omega),<-fI]
 .rw [fI,List.getElem?_append_right (by omega),hl,Nat.sub_self];rfl
theorem UR {x y m:List Rat} (D:tM x y) (hm:∀ a∈m,Fit 800000 a):∀ i,(fP x y m i).length<=4/\∀ a∈fP x y m i,Fit 9000000 a:=fun i=>⟨aC0 _ _ _ _,D.as3 hm i⟩
theorem AL {P:Nat->List Rat} {A:Nat} (hA:1<=A) (h:∀ i,(P i).length<=4/\∀ a∈P i,Fit A a):∀ i,(iQ (P i)).length<=4/\∀ a∈iQ (P i),Fit (A+12) a:=fun i=>⟨by have:=sX (P i);have:=(h i).1;omega,BV hA (h i).2 (by have:=(h i).1;omega)⟩
theorem aU7 {P:Nat->List Rat} {A:Nat} (h:∀ i,(P i).length<=4/\∀ a∈P i,Fit A a) (r:Nat) (hA:1<=A:=by omega):∀ i,(BB (P i) r).length<=4/\∀ a∈BB (P i) r,Fit (A+12*r) a:=fun i=>⟨by have:=wR (P i) r;have:=(h i).1;omega,BP hA (by have:=(h i).1;omega) (h i).2 r⟩
theorem as9 {ks:List Rat} {ps:List (List Rat)} {A:Nat} {a:Rat} (hA:1<=A) (h:qM A ps) (ha:Fit A a):Fit (4*(2*A+1)+1) (yF ks ps a):=by
 rw [yF,fI];cases hp:ps[(qU ks ps.length a).toNat]? with
 | none=>exact Fit.zero (by omega)
 | some p=>exact Pv hA (h p (fU hp)).1 (h p (fU hp)).2 ha
theorem ac2 {x y m:List Rat} (D:tM x y) (h3:3<=x.length) (he:m.getD 0 0=m.getD (x.length-1) 0)
  (hs:(cJ x).getD 0 0*2*m.getD 0 0+(cJ x).getD 0 0*m.getD 1 0+(cJ x).getD (x.length-2) 0*m.getD (x.length-2) 0+(cJ x).getD (x.length-2) 0*2*m.getD (x.length-1) 0=((bF x y).getD 0 0-(bF x y).getD (x.length-2) 0)*6) :
  ∀ s,s<=1->yF x (jR x fun i=>iQ (BB (fP x y m i) s)) (x.getD 0 0)=yF x (jR x fun i=>iQ (BB (fP x y m i) s)) (x.getD (x.length-1) 0)
 | 0,_=>by
   have h0:=ai6 (m:=m) D;have hn:=al0 (m:=m) D;rw [fK] at h0 hn;show yF x (jR x fun i=>iQ (fP x y m i)) _=yF x (jR x fun i=>iQ (fP x y m i)) _;rw [h0,hn,YL]
   grind
 | 1,_=>by
   have h0:=ae1 (m:=m) D;have hn:=af1 (m:=m) D;rw [fK,fK] at h0 hn;show yF x (jR x fun i=>iQ (iQ (fP x y m i))) _=yF x (jR x fun i=>iQ (iQ (fP x y m i))) _;rw [h0,hn,he]
 | s+2,h=>by omega
set_option maxHeartbeats 2000000 in
theorem zM (x y:List eJ) (u v:eJ) (hx:∀ a∈x,a.In) (hy:∀ a∈y,a.In) (hu:u.In) (hv:v.In) (hs:x.length<140737488355328) (sW:y.length<140737488355328):aQ prog 10 [(.one (sN x):aJ),(.one (sN y):aJ),(nT u:aJ),(nT v:aJ)] (.ret [.one (.bool true)]):=by
 refine eF func10 zL ?_;by_cases hls:Oq x y 8=true
 rotate_left
 .rw [Bool.not_eq_true] at hls;apply aA (TT x y 8 hls hx hy hs sW) rfl;apply vn fO rfl;refine nY true rfl (fun _=>?_) (fun h=>by cases h);apply aA rS rfl;exact aK rfl
 apply aA (YX x y 8 hls hx hy hs sW) rfl;apply vn fO rfl;refine nY false rfl (fun h=>by cases h) (fun _=>?_)
 obtain ⟨tx,ty⟩:gT x 50=true/\gT y 50=true:=by
  simp only [Oq,Bool.and_eq_true] at hls;exact ⟨hls.1,hls.2.1⟩
 have lx:=wW tx;have ly:=wW ty;have hXl:(cG x).length=x.length:=aL _;have hYl:(cG y).length=y.length:=aL _;have hRl:(xC x).length=x.length:=aL _;have hRl2:(xC y).length=y.length:=aL _;apply aA (ac3 (xC x) (xC y) 40 (TN (by rw [Cu];exact (wF tx).2))) rfl;rw [Cu,Cu];apply vn fO rfl;dsimp only [aF,aG];refine nY (!mO (cG x) (cG y)) rfl (fun h7=>?_) (fun h7=>?_)
 .apply aA rS rfl;exact aK rfl
 have hg:mO (cG x) (cG y)=true:=by simpa using h7
 have D:=aR6 hls hg;apply eT (us:=[nC u,nC v]) rfl;apply aA (wG [u,v] 2 (by simp)) rfl;apply vn fO rfl;refine nY (!gT [u,v] 2) rfl (fun h13=>?_) (fun h13=>?_)
 .apply aA rS rfl;exact aK rfl
 have htm:gT [u,v] 2=true:=by simpa using h13
 have fu:Fit 40 u.v:=(wF htm).2 _ (List.mem_cons_self);have fv:Fit 40 v.v:=(wF htm).2 _ (List.mem_cons_of_mem _ List.mem_cons_self);have D2:=D.h2;have D8:=D.h8;have Dxy:=D.hxy;have Dr:=D.hr;clear hls hg lx ly tx ty hRl hRl2;apply aA (PL u hu) rfl;dsimp only [aF,aG];apply aA (PL v hv) rfl;generalize cG x=X at D D2 D8 Dxy Dr hXl ⊢;generalize cG y=Y at D Dxy hYl ⊢;obtain ⟨m,hm1,hm2,hm3,hm4,hm5,hm6⟩:=as5 D;obtain ⟨c,hc1,hc2,hc3,hc4,hc5,hc6⟩:=aB9 D fu fv;have hm8:∀ a∈m,Fit 800000 a:=fun a ha=>(hm6 a ha).mono (by omega);have hc8:∀ a∈c,Fit 800000 a:=fun a ha=>(hc6 a ha).mono (by omega);have dN:aQ prog 49 [.one (sQ X), .one (sQ Y)] (.ret [.agg [sQ X,eQ (jR X (fP X Y m))], .one (.int .i64 0)]):=aW2 D hm8 hm2 hm1;have dC:aQ prog 50 [.one (sQ X), .one (sQ Y),qT u.v,qT v.v] (.ret [.agg [sQ X,eQ (jR X (fP X Y c))], .one (.int .i64 0)]):=aY4 D fu fv hc8 hc2 hc1;have dM:aQ prog 54 [.one (sQ X), .one (sQ Y)] (.ret [.agg [sQ X,eQ (jR X (mD X Y))], .one (.int .i64 0)]):=Tu X Y D;have okP:=UR D hm8;have okQ:=UR D hc8;have okM:∀ i,(mD X Y i).length<=4/\∀ a∈mD X Y i,Fit 9000000 a:=fun i=>⟨as4 X Y i,fun a ha=>(ar5 D i a ha).mono (by omega)⟩
 have sok:∀ P:Nat->List Rat,(∀ i,(P i).length<=4)->rH X (jR X P)=true:=fun P h=>ba4 D2 Dr h;have hk9:∀ A,40<=A->∀ a∈X,Fit A a:=fun A hA a ha=>(D.hx a ha).mono hA;have in0:inD X (X.getD 0 0):=⟨Rat.le_refl,rY Dr (cX _)⟩
 have inN:inD X (X.getD (X.length-1) 0):=⟨rY Dr (cX _),Rat.le_refl⟩
 have dTh:∀ (P:Nat->List Rat) (Z:List Rat) (o:Nat),(∀ i,(P i).length<=4/\∀ a∈P i,Fit 9000000 a)->((o:Nat):Int)<=nV X (jR X P) 41 0->tM X Z->(∀ i,i<X.length->yF X (jR X P) (X.getD i 0)=Z.getD i 0)->aQ prog 68 [.agg [sQ X,eQ (jR X P)], .one (sQ X), .one (sQ Z), .one (.int .i64 (o:Int))] (.ret [.one (.bool true)]):=fun P Z o hP ho DZ hZ=>
  Uc X Z (jR X P) o 9000000 (sok P fun i=>(hP i).1) (hk9 _ (by omega)) (oM hP) ho DZ.hxy hZ (fun a ha=>(DZ.hy a ha).mono (by omega))
 have dDv:∀ (P:Nat->List Rat) (A:Nat),40<=A->A<=10000000->(∀ i,(P i).length<=4/\∀ a∈P i,Fit A a)->aQ prog 17 [.agg [sQ X,eQ (jR X P)]] (.ret [.agg [sQ X,eQ (jR X fun i=>iQ (P i))], .one (.int .i64 0)]):=fun P A hA hA2 hP=>by
  have h:=XV X (jR X P) A (sok P fun i=>(hP i).1) (hk9 _ hA) (by rw [wD];omega) (fun p hp=>⟨by have:=(oM (x:=X) hP p hp).1;omega,(oM (x:=X) hP p hp).2⟩)
  rwa [fK] at h
 have dAt:∀ (P:Nat->List Rat) (A:Nat) (a:Rat),40<=A->A<=10000000->(∀ i,(P i).length<=4/\∀ a∈P i,Fit A a)->Fit A a->inD X a->aQ prog 16 [.agg [sQ X,eQ (jR X P)],qT a] (.ret [qT (yF X (jR X P) a), .one (.int .i64 0)]):=fun P A a hA hA2 hP ha hin=>
  al4 X (jR X P) a A (sok P fun i=>(hP i).1) (hk9 _ hA) (oM hP) ha hin
 have hs0:yF X (jR X fun i=>iQ (iQ (fP X Y m i))) (X.getD 0 0)=0:=by
  have:=ae1 (m:=m) D;rw [fK,fK] at this;rw [this,hm4]
 have hsN:yF X (jR X fun i=>iQ (iQ (fP X Y m i))) (X.getD (X.length-1) 0)=0:=by
  have:=af1 (m:=m) D;rw [fK,fK] at this;rw [this,hm5]
 have hd0:yF X (jR X fun i=>iQ (fP X Y c i)) (X.getD 0 0)=u.v:=by
  have:=ai6 (m:=c) D;rw [fK] at this;rw [this,YL];grind
 have hdN:yF X (jR X fun i=>iQ (fP X Y c i)) (X.getD (X.length-1) 0)=v.v:=by
  have:=al0 (m:=c) D;rw [fK] at this;rw [this];grind
 have fX:=fun i=>aB D.hx i (show 1<=40 by omega);apply vn (aO aZ (aL _)) rfl;apply vn (aE (by omega) (by omega)) rfl;apply aA dN rfl;dsimp only [aF,aG];apply aA dC rfl;apply aA dM rfl;apply vn cT rfl;refine vs _ rfl ?_ ?_<;>intro h24
 .exact absurd rfl h24
 apply vn cT rfl;dsimp only [aF,aG];refine vs _ rfl ?_ ?_<;>intro h27
 .exact absurd rfl h27
 apply vn cT rfl;refine vs _ rfl ?_ ?_<;>intro h30
 .exact absurd rfl h30
 apply aA (dTh (fP X Y m) Y 2 okP (OK D hm3) D (Ek D)) rfl;apply vn fO rfl;refine nY false rfl (fun h=>by cases h) (fun _=>?_);apply aA (dTh (fP X Y c) Y 2 okQ (OK D hc3) D (Ek D)) rfl;dsimp only [aF,aG];apply vn fO rfl;refine nY false rfl (fun h=>by cases h) (fun _=>?_);apply aA (dTh (mD X Y) Y 1 okM (aH2 D) D (ZO D)) rfl;apply vn fO rfl;refine nY false rfl (fun h=>by cases h) (fun _=>?_);apply aA (dDv (fP X Y m) 9000000 (by omega) (by omega) okP) rfl;dsimp only [aF,aG];apply aA (dDv (fun i=>iQ (fP X Y m i)) (9000000+12) (by omega) (by omega) (AL (by omega) okP)) rfl;dsimp only [aF,aG];apply vn (aI aZ (m:=0) (by omega) rfl (aH (show 0<X.length by omega))) rfl;apply vn (aM bU (by decide) (by simp) (.inl rfl)) rfl;apply aA (dAt (fun i=>iQ (iQ (fP X Y m i))) (9000000+12+12) (X.getD 0 0) (by omega) (by omega) (AL (by omega) (AL (by omega) okP)) ((fX 0).mono (by omega)) in0) rfl;rw [hs0];dsimp only [aF,aG];apply vn (aI aZ (m:=X.length-1) (by omega) (by omega) (aH (show X.length-1<X.length by omega))) rfl;apply vn (aM bU (by decide) (by simp) (.inl rfl)) rfl;apply aA (dAt (fun i=>iQ (iQ (fP X Y m i))) (9000000+12+12) (X.getD (X.length-1) 0) (by omega) (by omega) (AL (by omega) (AL (by omega) okP)) ((fX _).mono (by omega)) inN) rfl;rw [hsN];apply aA (dDv (fP X Y c) 9000000 (by omega) (by omega) okQ) rfl;dsimp only [aF,aG];apply vn (aI aZ (m:=0) (by omega) rfl (aH (show 0<X.length by omega))) rfl;apply vn (aM bU (by decide) (by simp) (.inl rfl)) rfl;apply aA (dAt (fun i=>iQ (fP X Y c i)) (9000000+12) (X.getD 0 0) (by omega) (by omega) (AL (by omega) okQ) ((fX 0).mono (by omega)) in0) rfl;rw [hd0];dsimp only [aF,aG];apply vn (aI aZ (m:=X.length-1) (by omega) (by omega) (aH (show X.length-1<X.length by omega))) rfl;apply vn (aM bU (by decide) (by simp) (.inl rfl)) rfl;apply aA (dAt (fun i=>iQ (fP X Y c i)) (9000000+12) (X.getD (X.length-1) 0) (by omega) (by omega) (AL (by omega) okQ) ((fX _).mono (by omega)) inN) rfl;rw [hdN];apply vn cT rfl;dsimp only [aF,aG];refine vs _ rfl ?_ ?_<;>intro h60
 .exact absurd rfl h60
 apply vn cT rfl;refine vs _ rfl ?_ ?_<;>intro h63
 .exact absurd rfl h63
 apply vn cT rfl;refine vs _ rfl ?_ ?_<;>intro h66
 .exact absurd rfl h66
 apply vn cT rfl;refine vs _ rfl ?_ ?_<;>intro h69
 .exact absurd rfl h69
 apply vn cT rfl;dsimp only [aF,aG];refine vs _ rfl ?_ ?_<;>intro h72
 .exact absurd rfl h72
 apply vn cT rfl;refine vs _ rfl ?_ ?_<;>intro h75
 .exact absurd rfl h75
 apply vn cT rfl;refine vs _ rfl ?_ ?_<;>intro h78
 .exact absurd rfl h78
 apply aA (iE 0) rfl;apply vn cT rfl;dsimp only [aF,aG];refine vs _ rfl ?_ ?_<;>intro h82
 .exact absurd rfl h82
 apply aA (iE 0) rfl;apply vn cT rfl;refine vs _ rfl ?_ ?_<;>intro h86
 .exact absurd rfl h86
 apply aA (fF _ _ 40 40 fu fu) rfl;apply vn cT rfl;dsimp only [aF,aG];refine vs _ rfl ?_ ?_<;>intro h90
 .exact absurd (lA.2 rfl) h90
 apply aA (fF _ _ 40 40 fv fv) rfl;apply vn cT rfl;refine vs _ rfl ?_ ?_<;>intro h94
 .exact absurd (lA.2 rfl) h94
 apply vn (BT aZ (m:=X.length-1) (by omega) (by omega) (show X.length-1<=Y.length by omega)) rfl;refine zQ (ts:=[]) (us:=rQ (Y.take (X.length-1))) (vs:=rQ (Y.take (X.length-1))) rfl (.inr aD.Sub.same) rfl (by rw [aL,List.length_take];omega) (by rw [aL,List.length_take];simp only [maxLen];omega) ?_;dsimp only [aF,aG];apply vn (aI aZ (m:=0) (by omega) rfl (aH (show 0<Y.length by omega))) rfl;apply vn (aM bU (by decide) (by simp) (.inl rfl)) rfl;apply eT (us:=[qC (Y.getD 0 0)]) rfl;refine kV (xs:=Y.take (X.length-1)) (x:=Y.getD 0 0) (f:=qC) rfl rfl (by rw [List.length_take];omega) (by rw [List.length_take];simp only [maxLen];omega) ?_;dsimp only [aF,aG];obtain ⟨DR,r0,rn⟩:=aQ3 D;generalize Y.take (X.length-1) ++ [Y.getD 0 0]=Z at DR r0 rn ⊢;by_cases h3:3<=X.length
 rotate_left
 .apply aA (Kr X Z 40 D.hx DR.giv DR.hxy) rfl
  try dsimp only [aF,aG]
  apply vn bL rfl
  try dsimp only [aF,aG]
  refine vs _ rfl (fun _=>?_) (fun h=>absurd (show (X.length:Int)-1<2 by omega) h)
  try dsimp only [aF,aG]
  apply vn dA rfl
  try dsimp only [aF,aG]
  refine vs _ rfl (fun _=>?_) (fun h=>absurd rfl h)
  try dsimp only [aF,aG]
  apply aA rS rfl;exact aK rfl
 obtain ⟨k,hk1,hk2,hk3,hk4,hk5,hk6⟩:=aG8 DR h3;have dP:aQ prog 51 [.one (sQ X), .one (sQ Z)] (.ret [.agg [sQ X,eQ (jR X (fP X Z k))], .one (.int .i64 0)]):=aN6 DR h3 (by rw [r0,rn]) hk6 hk2 hk1;have okR:=UR DR hk6;apply aA dP rfl;apply vn bL rfl;refine vs _ rfl ?_ ?_<;>intro h104
 .exact absurd h104 (by omega)
 apply vn cT rfl;refine vs _ rfl ?_ ?_<;>intro h111
 .exact absurd rfl h111
 apply aA (dTh (fP X Z k) Z 2 okR (OK DR hk3) DR (Ek DR)) rfl;dsimp only [aF,aG];apply vn fO rfl;refine nY false rfl (fun h=>by cases h) (fun _=>?_);refine bV {s:Nat // s<=2} (fun g=>[.one (.int .i64 0), .one (.bool false), .one (.int .i64 ((g.1:Int)+1)), .one (sQ X), .one (eQ (jR X fun i=>BB (fP X Z k i) g.1))]) (fun g=>2-g.1) ⟨0,by omega⟩ aW.rfl (fun _=>rfl) ?_;rintro ⟨s,hs2'⟩;dsimp only [aF,aG] at hs2' ⊢;apply vn mQ rfl;refine vs _ rfl ?_ ?_<;>intro h119
 .have sM:s<=1:=by omega
  have okS:=aU7 okR s;have okS1:=AL (A:=9000000+12*s) (by omega) okS;have hend:=ac2 DR h3 hk4 hk5 s sM;apply aA (dDv (fun i=>BB (fP X Z k i) s) (9000000+12*s) (by omega) (by omega) okS) rfl;dsimp only [aF,aG];apply vn (aI aZ (m:=0) (by omega) rfl (aH (show 0<X.length by omega))) rfl;apply vn (aM bU (by decide) (by simp) (.inl rfl)) rfl;apply aA (dAt (fun i=>iQ (BB (fP X Z k i) s)) (9000000+12*s+12) (X.getD 0 0) (by omega) (by omega) okS1 ((fX 0).mono (by omega)) in0) rfl;rw [hend];dsimp only [aF,aG];apply vn (aI aZ (m:=X.length-1) (by omega) (by omega) (aH (show X.length-1<X.length by omega))) rfl;apply vn (aM bU (by decide) (by simp) (.inl rfl)) rfl;apply aA (dAt (fun i=>iQ (BB (fP X Z k i) s)) (9000000+12*s+12) (X.getD (X.length-1) 0) (by omega) (by omega) okS1 ((fX _).mono (by omega)) inN) rfl;apply vn cT rfl;dsimp only [aF,aG];refine vs _ rfl ?_ ?_<;>intro h128
  .exact absurd rfl h128
  apply vn cT rfl;refine vs _ rfl ?_ ?_<;>intro h131
  .exact absurd rfl h131
  apply vn cT rfl;refine vs _ rfl ?_ ?_<;>intro h134
  .exact absurd rfl h134
  have fE:=as9 (ks:=X) (a:=X.getD (X.length-1) 0) (by omega) (oM (x:=X) okS1) ((fX _).mono (by omega));apply aA (fF _ _ _ _ fE fE) rfl;apply vn cT rfl;dsimp only [aF,aG];refine vs _ rfl ?_ ?_<;>intro h138
  .exact absurd (lA.2 rfl) h138
  apply vn (aC (by omega) (by omega)) rfl;dsimp only [aF,aG];exact bB rfl ⟨⟨s+1,by omega⟩,aW.rfl,by show 2-(s+1)<2-s;omega⟩
 apply aA rS rfl;exact aK rfl
end Go.Sy
