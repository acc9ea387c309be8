/- Part. -/
import Derived.Test.YtacgmapjhpghkaaGreatDoorXa
import Derived.Test.YtacgmapjhpghkaaGreatDoorWf
set_option linter.all false
namespace Go.Sy
open Go Go.Proofs Tryz Ord
def UP:Tr:=.ret [(.one (.c (.k (.slice none 0 0)))),(.one (.c (.k (.slice none 0 0)))),(.one (.c (.k (.slice none 0 0)))),(.one (.c (.k (.slice none 0 0)))),(tF false)]
def aw9:Tr:=.split (.u 8 0) (dD 0 0 29 22 (bD .leq 3 30 40 9 0 4 (.split (.u 10 0) UP (aX 33 [(W 0 0)] [none,none] [35] [22] 74 false (aX 33 [(W 1 0)] [none,none] [40] [22] 74 false (.ret [(W 11 0),(W 13 0),(W 12 0),(W 14 0),(tF true)])))))) (aX 33 [(W 0 0)] [none,none] [35] [22] 74 false (aX 33 [(W 1 0)] [none,none] [40] [22] 74 false (.ret [(W 9 0),(W 11 0),(W 10 0),(W 12 0),(tF true)])))
def aQ5:Tr:=.need (.prim [(W 3 0)] none) (.unOp .not 4 (tT 16)) 4 false (.split (.u 4 0) UP (.need (.call 13 [(W 1 0),(WK 50)] [none]) (.call ⟨.value (.func 13),#[(tT 19),(.const (I3 50))],#[22,3]⟩) 4 false (.need (.prim [(W 5 0)] none) (.unOp .not 4 (tT 20)) 4 false (.split (.u 6 0) UP (dD 0 0 24 22 (cN .gtr 3 25 26 7 0 2 0 4 aw9))))))
def bg8:Tr:=.need (.call 13 [(W 0 0),(WK 50)] [none]) (.call ⟨.value (.func 13),#[(tT 15),(.const (I3 50))],#[22,3]⟩) 4 false aQ5
theorem Rb:aV prog f48 (fun _=>none) [.v none, .v none, .v none]=bg8:=by kernel_rfl
def lL:Tr:=.ret [(tF false)]
def bh5:Tr:=.split (.u 5 0) (dD 1 0 14 32 (dD 0 0 16 32 (cN .eql 3 15 17 6 0 7 0 4 (.split (.u 8 0) (.need (.call 60 [(W 0 0),(tF true)] [none]) (.call ⟨.value (.func 60),#[(tT 21),(.const (.bool true))],#[32,4]⟩) 4 true (.ret [(W 9 0)])) lL)))) lL
def aV5:Tr:=dD 0 0 5 32 (bD .geq 3 6 2 2 0 4 (.split (.u 3 0) (dD 0 0 9 32 (bD .leq 3 10 40 4 0 4 bh5)) lL))
theorem ao6:aV prog f52 (fun _=>none) [.v none, .v none]=aV5:=by kernel_rfl
def aA8:Tr:=eI 2 0 12 0 28 66 67 (dF 26 0 (some 3) 46 68 (aX 67 [(G3 17),(G3 27)] [none] [65,69] [46,46] 3 false (bD .neq 3 70 0 28 0 4 (.split (.u 29 0) lL (bD .add 3 38 1 12 0 3 (.back 0 [lV 11 0,lV 30 0]))))))
def aF7:Tr:=eI 0 0 12 0 28 53 54 (dF 20 0 (some 3) 46 55 (eI 1 0 12 0 28 57 58 (dF 22 0 (some 3) 46 59 (aX 67 [(G3 21),(G3 23)] [none] [56,60] [46,46] 3 false (bD .neq 3 61 0 24 0 4 (.split (.u 25 0) lL aA8))))))
def aq9:Tr:=cN .lss 3 34 36 12 0 13 0 4 (.split (.u 14 0) (eI 1 0 12 0 28 42 43 (dF 15 0 (some 3) 46 44 (aX 16 [(G2 0),(G3 16)] [(some 3),none] [41,45] [31,46] 55 false (bD .neq 54 49 0 18 0 4 (.split (.u 19 0) lL aF7))))) (.ret [(tF true)]))
def ba2:Tr:=.split (.u 7 0) lL (dD 0 0 28 28 (dD 1 0 30 28 (cN .neq 3 29 31 8 0 9 0 4 (.split (.u 10 0) lL (.loop 0 [(.w (.one (.c (.k (.bool false))))),lK 0] (dD 1 0 35 28 aq9))))))
def aX1:Tr:=aX 19 [(G2 0)] [none,none] [15] [31] 59 false (bD .neq 54 19 0 5 0 4 (.split (.u 6 0) lL (cN .lss 3 22 23 4 0 3 0 4 ba2)))
theorem Vm:aV prog f68 (fun _=>none) [.v (some 2), .v none, .v none, .v none]=aX1:=by kernel_rfl
def qM (A:Nat) (ps:List (List Rat)):Prop:=∀ p∈ps,p.length<=4/\∀ a∈p,Fit A a
theorem qM.dv {A:Nat} {ps:List (List Rat)} (hA:1<=A) (h:qM A ps):qM (A+12) (qJ ps):=fun p hp=>by
 obtain ⟨q,hq,rfl⟩:=eH.1 hp;have:=h q hq;have hl:=sX q;exact ⟨by omega,BV hA this.2 (by omega)⟩
theorem Gm {A:Nat} {ps:List (List Rat)} (hA:1<=A) (h:qM A ps):∀ c,qM (A+12*c) (Kv ps c)
 | 0=>h
 | c+1=>by
   have:=(Gm hA h c).dv (by omega)
   rwa [show A+12*(c+1)=A+12*c+12 by omega]
theorem Pv {p:List Rat} {A:Nat} {x:Rat} (hA:1<=A) (hl:p.length<=4) (hp:∀ a∈p,Fit A a) (hx:Fit A x):Fit (4*(2*A+1)+1) (iR p x):=
 (tA hA hx p hp).mono (by have:=Nat.mul_le_mul_right (2*A+1) hl;omega)
theorem Qd {p:List Rat} {A:Nat} (hl:p.length<=4):p.length*(2*A+2)<=4*(2*A+2):=Nat.mul_le_mul_right _ hl
theorem Ug (l r:List Rat) (x:Rat) (A:Nat) (hl:l.length<=4/\∀ a∈l,Fit A a) (hr:r.length<=4/\∀ a∈r,Fit A a) (hx:Fit A x) (hA1:1<=A:=by omega) (hA:A<=50000000:=by omega):aQ prog 183 [(.one (sQ l):aJ),(.one (sQ r):aJ),(qT x:aJ)] (.ret [.one (.bool (pZ l r x))]):=by
 refine eF func183 Yg ?_;have e1:=Qd (A:=A) hl.1;have e2:=Qd (A:=A) hr.1;apply aA (pN l x A hl.2 hx hA1) rfl;apply aA (pN r x A hr.2 hx hA1) rfl;apply aA (fF _ _ _ _ (Pv hA1 hl.1 hl.2 hx) (Pv hA1 hr.1 hr.2 hx)) rfl;apply vn dA rfl;dsimp only [aF,aG];rw [pZ,show decide (iR l x=iR r x)=decide (gB (iR l x) (iR r x)=0) by rw [decide_eq_decide];exact lA.symm];exact aK rfl
theorem XH (ks:List Rat) (ps:List (List Rat)) (A:Nat) (hA1:1<=A) (hA:A<=10000000) (hl:ps.length<=ks.length) (hl2:ks.length<1099511627776) (hk:∀ a∈ks,Fit A a) (hp:qM A ps):aQ prog 87 [(.agg [sQ ks,eQ ps]:aJ)] (.ret [.one (.int .i64 (nV ks ps 41 0))]):=by
 refine eF func87 YY ?_;refine bV {c:Nat // c<=41/\nV ks ps 41 0=nV ks ps (41-c) c} (fun g=>[.one (.int .i64 0), .one (.int .i64 (g.1:Int)), .one (sQ ks), .one (eQ (Kv ps g.1))]) (fun g=>41-g.1) ⟨0,by omega,rfl⟩ aW.rfl (fun _=>rfl) ?_;rintro ⟨c,hc,ho⟩;have hs:=Gm hA1 hp c;have hn:=WS ps c;dsimp only [aF,aG] at hc ho ⊢;apply vn bL rfl;refine vs _ rfl ?_ ?_<;>intro h2
 .apply aA (JV ks (Kv ps c) 183 pZ hl2 (fun i hi=>Ug _ _ _ (A+12*c) (hs _ (rL)) (hs _ (rL)) ((aB hk _ hA1).mono (by omega)))) rfl;apply vn fO rfl;refine nY (!WN pZ ks (Kv ps c)) rfl (fun h5=>?_) (fun h5=>?_)
  .apply vn (aE (by omega) (by omega)) rfl;dsimp only [aF,aG];rw [ho,show 41-c=(40-c)+1 by omega,nV,if_neg (by simpa using h5)];exact aK rfl
  apply aA (sZ ks (Kv ps c) (A+12*c) (by omega) (fun p h=>⟨by have:=(hs p h).1;omega,(hs p h).2⟩) (by omega) hl2) rfl;apply vn (aC (by omega) (by omega)) rfl;dsimp only [aF,aG];exact bB rfl ⟨⟨c+1,by omega,by rw [ho,show 41-c=(41-(c+1))+1 by omega,nV,if_pos (by simpa using h5)]⟩,aW.rfl,by show 41-(c+1)<41-c;omega⟩
 rw [ho,show 41-c=0 by omega];exact aK rfl
theorem YC (ks:List Rat) (ps:List (List Rat)) (A:Nat) (h:rH ks ps=true) (hA1:1<=A) (hA:A<=10000000) (hk:∀ a∈ks,Fit A a) (hp:qM A ps) (hl:ps.length<=ks.length:=by omega) (hl2:ks.length<1099511627776:=by omega):aQ prog 19 [(.agg [sQ ks,eQ ps]:aJ)] (.ret [.one (.int .i64 (nV ks ps 41 0)), .one (.int .i64 0)]):=by
 refine eF func19 af8 ?_;have hc:=jX ks ps A hk hA1 (fun p h=>by have:=(hp p h).1;omega) hl2;rw [if_pos h] at hc;apply aA hc rfl;apply vn cT rfl;refine vs _ rfl ?_ ?_<;>intro h2
 .exact absurd rfl h2
 apply aA (XH ks ps A hA1 hA hl hl2 hk hp) rfl;exact aK rfl
theorem al4 (ks:List Rat) (ps:List (List Rat)) (x:Rat) (A:Nat) (h:rH ks ps=true) (hk:∀ a∈ks,Fit A a) (hp:qM A ps) (hx:Fit A x) (hin:inD ks x) (hA1:1<=A:=by omega) (hA:A<=50000000:=by omega):aQ prog 16 [(.agg [sQ ks,eQ ps]:aJ),(qT x:aJ)] (.ret [qT (yF ks ps x), .one (.int .i64 0)]):=by
 refine eF func16 bD7 ?_;obtain ⟨hk2,hk60,hr,hpk,_⟩:=Fe h;obtain ⟨i,hi,hpi⟩:=aa0 hr hpk hin;have hc:=jX ks ps A hk hA1 (fun p h=>by have:=(hp p h).1;omega);rw [if_pos h] at hc;apply aA hc rfl;apply vn cT rfl;refine vs _ rfl ?_ ?_<;>intro h2
 .exact absurd rfl h2
 apply vn (aI aZ (m:=0) (by omega) rfl (aH (show 0<ks.length by omega))) rfl;apply vn (aM bU (by decide) (by simp) (.inl rfl)) rfl;dsimp only [aF,aG];apply aA (fF _ _ A A hx (aB hk _ hA1)) rfl;apply vn bL rfl;refine vs _ rfl ?_ ?_<;>intro h8
 .exact absurd (wU.1 h8) (Rat.not_lt.2 hin.1)
 apply vn (aO aZ (aL _)) rfl;apply vn (aE (by omega) (by omega)) rfl;dsimp only [aF,aG];apply vn (aI aZ (m:=ks.length-1) (by omega) (by omega) (aH (show ks.length-1<ks.length by omega))) rfl;apply vn (aM bU (by decide) (by simp) (.inl rfl)) rfl;apply aA (fF _ _ A A hx (aB hk _ hA1)) rfl;apply vn gE rfl;dsimp only [aF,aG];refine vs _ rfl ?_ ?_<;>intro h16
 .exact absurd (OI.1 h16) (Rat.not_lt.2 hin.2)
 apply aA (aa3 ks ps x A hA1 hk hx hr hpk) rfl;rw [hpi];apply vn (aI pX (m:=i) (by omega) (Int.toNat_natCast i) (BH hi)) rfl;apply vn (cD PK) rfl;dsimp only [aF,aG];have hpe:=hp _ (rL hi);have hm:=Qd (A:=A) hpe.1;apply aA (pN (ps.getD i []) x A hpe.2 hx hA1) rfl;dsimp only [aF,aG];rw [yF,hpi,Int.toNat_natCast];exact aK rfl
def Oq (x y:List eJ) (n:Int):Bool:=gT x 50&&(gT y 50 && !(decide (n<(x.length:Int))&&decide ((x.length:Int)<=40)))
theorem YX (x y:List eJ) (n:Int) (h:Oq x y n=true) (hx:∀ u∈x,u.In) (hy:∀ u∈y,u.In) (hs:x.length<140737488355328) (sW:y.length<140737488355328):aQ prog 48 [(.one (sN x):aJ),(.one (sN y):aJ),(.one (.int .i64 n):aJ)] (.ret [.one (sQ (cG x)), .one (sQ (cG y)), .one (sR (xC x)), .one (sR (xC y)), .one (.bool true)]):=by
 refine eF func48 Rb ?_
 obtain ⟨hx1,hy1,hn⟩:gT x 50=true/\gT y 50=true/\¬ (n<(x.length:Int)/\(x.length:Int)<=40):=by
  simp only [Oq,Bool.and_eq_true,Bool.not_eq_true',Bool.and_eq_false_iff,decide_eq_false_iff_not] at h;exact ⟨h.1,h.2.1,fun e=>h.2.2.elim (fun h=>h e.1) (fun h=>h e.2)⟩
 have lx:=wW hx1;have ly:=wW hy1;apply aA (wG x 50 hs) rfl;rw [hx1];apply vn fO rfl;refine nY false rfl (fun h=>by cases h) (fun _=>?_);apply aA (wG y 50 sW) rfl;rw [hy1];apply vn fO rfl;dsimp only [aF,aG];refine nY false rfl (fun h=>by cases h) (fun _=>?_);apply vn (aO PT (aL _)) rfl;apply vn gE rfl;refine vs _ rfl ?_ ?_<;>intro h10
 .apply vn (aO PT (aL _)) rfl;apply vn mQ rfl;dsimp only [aF,aG];refine vs _ rfl ?_ ?_<;>intro h13
  .exact absurd ⟨by omega,by omega⟩ hn
  apply aA (BU x hx) rfl;apply aA (BU y hy) rfl;exact aK rfl
 apply aA (BU x hx) rfl;apply aA (BU y hy) rfl;exact aK rfl
theorem TT (x y:List eJ) (n:Int) (h:Oq x y n=false) (hx:∀ u∈x,u.In) (hy:∀ u∈y,u.In) (hs:x.length<140737488355328) (sW:y.length<140737488355328):aQ prog 48 [(.one (sN x):aJ),(.one (sN y):aJ),(.one (.int .i64 n):aJ)] (.ret [.one anyS, .one anyS, .one anyS, .one anyS, .one (.bool false)]):=by
 refine eF func48 Rb ?_;apply aA (wG x 50 hs) rfl;apply vn fO rfl;refine nY (!gT x 50) rfl (fun h02=>?_) (fun h02=>?_)
 .exact jN ⟨iW,iW,iW,iW,aJ.Sub.same,trivial⟩
 apply aA (wG y 50 sW) rfl;apply vn fO rfl;dsimp only [aF,aG];refine nY (!gT y 50) rfl (fun h06=>?_) (fun h06=>?_)
 .exact jN ⟨iW,iW,iW,iW,aJ.Sub.same,trivial⟩
 apply vn (aO PT (aL _)) rfl;apply vn gE rfl;refine vs _ rfl ?_ ?_<;>intro h10
 .apply vn (aO PT (aL _)) rfl;apply vn mQ rfl;dsimp only [aF,aG];refine vs _ rfl ?_ ?_<;>intro h13
  .exact jN ⟨iW,iW,iW,iW,aJ.Sub.same,trivial⟩
  exfalso
  have hx1:gT x 50=true:=by simpa using h02
  have hy1:gT y 50=true:=by simpa using h06
  rw [Oq,hx1,hy1,Bool.true_and,Bool.true_and,Bool.not_eq_false',Bool.and_eq_true,decide_eq_true_eq,decide_eq_true_eq] at h;omega
 exfalso
 have hx1:gT x 50=true:=by simpa using h02
 have hy1:gT y 50=true:=by simpa using h06
 rw [Oq,hx1,hy1,Bool.true_and,Bool.true_and,Bool.not_eq_false',Bool.and_eq_true,decide_eq_true_eq,decide_eq_true_eq] at h;omega
theorem ac3 (x y:List RQ) (A:Nat) (hp:∀ a∈x,Fit A a.q) (hl:x.length<1099511627776:=by omega) (hl2:y.length<1099511627776:=by omega) (hA:A<=1073741824:=by omega):aQ prog 52 [(.one (sR x):aJ),(.one (sR y):aJ)] (.ret [.one (.bool (mO (x.map RQ.q) (y.map RQ.q)))]):=by
 refine eF func52 ao6 ?_;have lx:(x.map RQ.q).length=x.length:=aL _;have ly:(y.map RQ.q).length=y.length:=aL _;apply vn (aO UT (aL _)) rfl;apply vn iU rfl;refine vs _ rfl ?_ ?_<;>intro h2
 .apply vn (aO UT (aL _)) rfl;apply vn mQ rfl;dsimp only [aF,aG];refine vs _ rfl ?_ ?_<;>intro h5
  .apply vn (aO UT (aL _)) rfl;apply vn (aO UT (aL _)) rfl;apply vn dA rfl;refine vs _ rfl ?_ ?_<;>intro h9
   .apply aA (af0 x true A hl hp hA) rfl;dsimp only [aF,aG];rw [mO,decide_eq_true (show 2<=(x.map RQ.q).length by omega),decide_eq_true (show (x.map RQ.q).length<=40 by omega),decide_eq_true (show (y.map RQ.q).length=(x.map RQ.q).length by omega)];exact aK rfl
   rw [mO,decide_eq_true (show 2<=(x.map RQ.q).length by omega),decide_eq_true (show (x.map RQ.q).length<=40 by omega),decide_eq_false (show ¬ (y.map RQ.q).length=(x.map RQ.q).length by omega)];exact aK rfl
  rw [mO,decide_eq_true (show 2<=(x.map RQ.q).length by omega),decide_eq_false (show ¬ (x.map RQ.q).length<=40 by omega)];exact aK rfl
 rw [mO,decide_eq_false (show ¬ 2<=(x.map RQ.q).length by omega)];exact aK rfl
theorem Uc (x y:List Rat) (ps:List (List Rat)) (o A:Nat) (h:rH x ps=true) (hk:∀ a∈x,Fit A a) (hp:qM A ps) (ho:(o:Int)<=nV x ps 41 0) (hxy:y.length=x.length) (hv:∀ i,i<x.length->yF x ps (x.getD i 0)=y.getD i 0) (hy:∀ a∈y,Fit A a) (hA1:1<=A:=by omega) (hA:A<=10000000:=by omega):aQ prog 68 [(.agg [sQ x,eQ ps]:aJ),(.one (sQ x):aJ),(.one (sQ y):aJ),(.one (.int .i64 (o:Int)):aJ)] (.ret [.one (.bool true)]):=by
 refine eF func68 Vm ?_;obtain ⟨hk2,hk60,hr,hpk,_⟩:=Fe h;apply aA (YC x ps A h hA1 hA hk hp) rfl;apply vn cT rfl;refine vs _ rfl ?_ ?_<;>intro h2
 .exact absurd rfl h2
 apply vn bL rfl;refine vs _ rfl ?_ ?_<;>intro h5
 .exact absurd h5 (by omega)
 apply vn (aO aZ (aL _)) rfl;dsimp only [aF,aG];apply vn (aO aZ (aL _)) rfl;apply vn cT rfl;refine vs _ rfl ?_ ?_<;>intro h10
 .exact absurd rfl h10
 refine bV {i:Nat // i<=x.length} (fun g=>[.one (.bool false), .one (.int .i64 (g.1:Int))]) (fun g=>x.length-g.1) ⟨0,cX _⟩ aW.rfl (fun _=>rfl) ?_;rintro ⟨i,hi⟩;dsimp only [aF,aG] at hi ⊢;apply vn (aO aZ (aL _)) rfl;apply vn bL rfl;refine vs _ rfl ?_ ?_<;>intro h15
 .have hi':i<x.length:=by omega
  apply vn (aI aZ (m:=i) (by omega) (Int.toNat_natCast i) (aH hi')) rfl;apply vn (aM bU (by decide) (by simp) (.inl rfl)) rfl;dsimp only [aF,aG];apply aA (al4 x ps (x.getD i 0) A h hk hp (aB hk i hA1) ⟨rY hr (cX _) hi',rY hr⟩ hA1) rfl;rw [hv i hi'];apply vn cT rfl;refine vs _ rfl ?_ ?_<;>intro h20
  .exact absurd rfl h20
  apply vn (aI aZ (m:=i) (by omega) (Int.toNat_natCast i) (aH hi')) rfl;apply vn (aM bU (by decide) (by simp) (.inl rfl)) rfl;dsimp only [aF,aG];apply vn (aI aZ (m:=i) (by omega) (Int.toNat_natCast i) (aH hi')) rfl;apply vn (aM bU (by decide) (by simp) (.inl rfl)) rfl;apply aA (fF _ _ A A (aB hk i hA1) (aB hk i hA1)) rfl;apply vn cT rfl;dsimp only [aF,aG];refine vs _ rfl ?_ ?_<;>intro h28
  .exact absurd (lA.2 rfl) h28
  apply vn (aI aZ (m:=i) (by omega) (Int.toNat_natCast i) (aH (show i<y.length by omega))) rfl;apply vn (aM bU (by decide) (by simp) (.inl rfl)) rfl;apply aA (fF _ _ A A (aB hy i hA1) (aB hy i hA1)) rfl;apply vn cT rfl;dsimp only [aF,aG];refine vs _ rfl ?_ ?_<;>intro h34
  .exact absurd (lA.2 rfl) h34
  apply vn (aC (by omega) (by omega)) rfl;dsimp only [aF,aG];exact bB rfl ⟨⟨i+1,by omega⟩,aW.rfl,by show x.length-(i+1)<x.length-i;omega⟩
 exact aK rfl
open Go Go.Proofs Tryz Ord
def vY:Tr:=.ret [(W 4 0)]
def tZ:Tr:=.back 0 [(.w (W 3 0)),(.w (W 9 0))]
def vO:Tr:=.need (.prim [(W 4 0),(WK (1))] none) (.binOp .add 3 (.tmp 8) (.const (I3 (1))) 3) 3 false tZ
def vE:Tr:=.split (.u 8 0) vY vO
def uR:Tr:=.need (.callv (.u 1 0) [(.agg [(U 7 0),(U 7 1),(U 7 2),(U 7 3)])] [none]) (.call ⟨.value (.tmp 11),#[(.tmp 15)],#[97]⟩) 4 true vE
def vV:Tr:=.need (.prim [(W 6 0)] (some 4)) (.load 97 (.tmp 14)) 97 false uR
def uK:Tr:=.need (.prim [(W 0 0),(W 4 0)] none) (.indexAddr 90 (.tmp 12) (.tmp 13)) 0 false vV
def tY:Tr:=.ret [(WK (-1))]
def vP:Tr:=.split (.u 5 0) uK tY
def vM:Tr:=.need (.prim [(W 4 0),(W 2 0)] none) (.binOp .lss 3 (.tmp 8) (.tmp 7) 3) 0 false vP
def vZ:Tr:=.loop 0 [(.w (WK (0))),(.w (WK (0)))] vM
def uN:Tr:=.need (.prim [(W 0 0)] none) (.call ⟨.builtin .len,#[(.tmp 6)],#[90]⟩) 3 false vZ
theorem zB:aV prog f192 (fun _=>none) [.v none, .v none]=uN:=by kernel_rfl
def ak5:Tr:=.ret [(W 3 0)]
def aT6:Tr:=aX 192 [(W 0 0),(W 1 0)] [none] [5,6] [90,175] 3 true (bD .geq 3 7 0 2 0 4 ak5)
theorem Bb:aV prog f122 (fun _=>none) [.v none, .v none]=aT6:=by kernel_rfl
def bn1:Tr:=aX 67 [(G3 0),(G3 1)] [none] [5,7] [46,46] 3 true (bD .eql 3 8 0 2 0 4 ak5)
theorem Pj:aV prog f123 (fun _=>none) [.v (some 4), .ref 4]=bn1:=by kernel_rfl
def Mm:Tr:=.fail 1011
def Fs:Tr:=.fail 1011
def Cv:Tr:=.back 0 [(.w (W 2 0)),(.w (W 3 0)),(.w (W 14 0)),(.w (W 15 0))]
def Fu:Tr:=.need (.prim [(W 5 0),(WK (1))] none) (.binOp .add 3 (.tmp 19) (.const (I3 (1))) 3) 3 false Cv
def Eb:Tr:=.need (.prim [(W 4 0),(W 13 0)] none) (.binOp .add 3 (.tmp 33) (.tmp 36) 3) 3 false Fu
def EC:Tr:=.need (.prim [(W 8 3)] none) (.call ⟨.builtin .len,#[(.tmp 35)],#[28]⟩) 3 false Eb
def GH:Tr:=.split (.u 12 0) Fs EC
def CM:Tr:=.need (.prim [(W 11 0),(WK (6))] none) (.binOp .gtr 3 (.tmp 30) (.const (I3 (6))) 3) 4 false GH
def EY:Tr:=.need (.prim [(W 8 3)] none) (.call ⟨.builtin .len,#[(.tmp 29)],#[28]⟩) 3 false CM
def Mq:Tr:=.split (.u 10 0) Mm EY
def MH:Tr:=.need (.prim [(W 9 0),(WK (1))] none) (.binOp .lss 3 (.tmp 25) (.const (I3 (1))) 3) 4 false Mq
def Jd:Tr:=.need (.prim [(W 8 3)] none) (.call ⟨.builtin .len,#[(.tmp 24)],#[28]⟩) 3 false MH
def Lj:Tr:=.need (.prim [(W 7 0)] (some 4)) (.load 97 (.tmp 21)) 97 false Jd
def IA:Tr:=.need (.prim [(W 0 0),(W 5 0)] none) (.indexAddr 90 (.tmp 17) (.tmp 19)) 0 false Lj
def HM:Tr:=.fail 1011
def Gs:Tr:=.fail 1011
def GL:Tr:=.back 0 [(.w (W 9 0)),(.w (W 10 0)),(.w (W 17 0))]
def Cx:Tr:=.need (.prim [(W 11 0),(WK (1))] none) (.binOp .add 3 (.tmp 43) (.const (I3 (1))) 3) 3 false GL
def CE:Tr:=.split (.u 16 0) Gs Cx
def DQ:Tr:=.need (.call 122 [(W 15 0),(.one (.eZ 123 [(.ref 0 [(.u 14 0),(.u 14 1),(.u 14 2),(.u 14 3)])]))] [none]) (.call ⟨.value (.func 122),#[(.tmp 50),(.tmp 51)],#[90,175]⟩) 4 true CE
def ER:Tr:=.need (.prim [(W 0 0),(W 11 0)] none) (.slice 90 (.tmp 48) none (some (.tmp 49)) none) 90 false DQ
def CW:Tr:=.need (.prim [(W 13 0)] (some 4)) (.load 97 (.tmp 46)) 97 false ER
def GI:Tr:=.need (.prim [(W 0 0),(W 11 0)] none) (.indexAddr 90 (.tmp 41) (.tmp 43)) 0 false CW
def Du:Tr:=.ret [(W 0 0),(.one (.c (.k (.slice none 0 0)))),(.one (.c (.sr 3 14)))]
def Ev:Tr:=.need (.lit 3 [[(.u 13 0),(.u 13 1),(.u 13 2)]]) (.buildSlice 98 1 #[(0,(.tmp 54))]) 98 false Du
def GC:Tr:=.need (.call 113 [(WK (1))] [(some 3)]) (.call ⟨.value (.func 113),#[(.const (I3 (1)))],#[3]⟩) 46 true Ev
def HI:Tr:=.split (.u 12 0) GI GC
def FT:Tr:=.need (.prim [(W 11 0),(W 8 0)] none) (.binOp .lss 3 (.tmp 43) (.tmp 42) 3) 0 false HI
def Gd:Tr:=.loop 0 [(.w (W 2 0)),(.w (W 3 0)),(.w (WK (0)))] FT
def HD:Tr:=.need (.prim [(W 0 0)] none) (.call ⟨.builtin .len,#[(.tmp 41)],#[90]⟩) 3 false Gd
def Ht:Tr:=.split (.u 7 0) HM HD
def Hh:Tr:=.need (.prim [(W 4 0),(WK (41))] none) (.binOp .gtr 3 (.tmp 39) (.const (I3 (41))) 3) 4 false Ht
def LO:Tr:=.split (.u 6 0) IA Hh
def JA:Tr:=.need (.prim [(W 5 0),(W 1 0)] none) (.binOp .lss 3 (.tmp 19) (.tmp 18) 3) 0 false LO
def JS:Tr:=.loop 0 [(.w (.one (.c (.k (.slice none 0 0))))),(.w (WK (0))),(.w (WK (0))),(.w (WK (0)))] JA
def IZ:Tr:=.need (.prim [(W 0 0)] none) (.call ⟨.builtin .len,#[(.tmp 17)],#[90]⟩) 3 false JS
theorem Rq:bO prog 105 (fun _=>none) (aP [] (aU f45)) [(0, .v none)] ([0,9,10].map ResultVar.tmp) (some 5) false=IZ:=by kernel_rfl
abbrev Jt:=Rat×List Rat
abbrev yM (j:Jt):List aD:=qC j.1 ++ [sQ j.2]
abbrev sJ (l:List Jt):aD:=.slice 4 (l.map yM)
theorem PO (a b:Jt) (A:Nat) (ha:Fit A a.1) (hb:Fit A b.1) (hA:A<=10000000):aQ prog 123 [(.agg (yM a):aJ),(.one (.bG (yM b)):aJ)] (.ret [.one (.bool (decide (a.1=b.1)))]):=by
 refine dvr (ins:=[.v (.agg (yM a)), .ref (yM b)]) func123 Pj ?_;apply aA (fF a.1 b.1 A A ha hb) rfl;apply vn dA rfl;dsimp only [aF,aG];rw [show decide (a.1=b.1)=decide (gB a.1 b.1=0) by rw [decide_eq_decide];exact lA.symm];exact aK rfl
theorem yK (e:List Jt) (g:Nat) (caps:List aD) (c:Jt->Bool) (hc:∀ p∈e,aQ prog g (.agg (yM p)::caps.map .one) (.ret [.one (.bool (c p))])) (hs:e.length<1099511627776):aQ prog 192 [(.one (sJ e):aJ),(.one (.eZ g caps):aJ)] (.ret [.one (.int .i64 (jP c e 0))]):=by
 refine eF func192 zB ?_;apply vn (aO OB (aL _)) rfl;refine bV {i:Nat // i<=e.length/\jP c e 0=jP c (e.drop i) i} (fun g=>[.one (.int .i64 0), .one (.int .i64 g.1)]) (fun g=>e.length-g.1) ⟨0,cX _,rfl⟩ aW.rfl (fun _=>rfl) ?_;rintro ⟨i,hi,hf⟩;dsimp only [aF,aG] at hi hf ⊢;apply vn bL rfl;refine vs _ rfl ?_ ?_<;>intro h3
 .obtain ⟨p,hp⟩:∃ p,e[i]? = some p:=⟨_,bZ (by omega)⟩
  have hdrop:e.drop i=p::e.drop (i+1):=by
   rw [List.drop_eq_getElem_cons (by omega),(dQ.1 hp).2]
  rw [hdrop,jP] at hf;apply vn (aI OB (by omega) (by omega) hp) rfl;apply vn (aM az1 (by decide) (by simp) (.inl rfl)) rfl;apply pO (f:=g) (caps:=caps) rfl (hc p (fU hp)) rfl;dsimp only [aF,aG];refine nY (c p) rfl (fun h7=>?_) (fun h7=>?_)
  .rw [hf,if_pos h7];exact aK rfl
  apply vn (aC (by omega) (by omega)) rfl;dsimp only [aF,aG];exact bB rfl ⟨⟨i+1,by omega,by rw [hf,if_neg (by simp [h7])]⟩,aW.rfl,by show e.length-(i+1)<e.length-i;omega⟩
 rw [hf,List.drop_eq_nil_of_le (by omega),jP];exact aK rfl
theorem Bn (e:List Jt) (g:Nat) (caps:List aD) (c:Jt->Bool) (hc:∀ p∈e,aQ prog g (.agg (yM p)::caps.map .one) (.ret [.one (.bool (c p))])) (hs:e.length<1099511627776):aQ prog 122 [(.one (sJ e):aJ),(.one (.eZ g caps):aJ)] (.ret [.one (.bool (e.any c))]):=by
 refine eF func122 Bb ?_;apply aA (yK e g caps c hc hs) rfl;apply vn iU rfl;dsimp only [aF,aG];rw [<-Fo c e 0];exact aK rfl
def kF (l:List Jt) (i:Nat):Jt:=l.getD i (0,[])
theorem NZ {l:List Jt} {i:Nat} (h:i<l.length):l[i]? = some (kF l i):=by rw [kF,gO,bZ h];rfl
theorem BI {l:List Jt} {i:Nat} (h:i<l.length):kF l i∈l:=fU (NZ h)
def ai4 (l:List Jt):Nat->Nat
 | 0=>0
 | i+1=>ai4 l i+(kF l i).2.length
structure JOk (A:Nat) (l:List Jt):Prop where
 hA1:1<=A
 hA:A<=10000000
 hl:l.length<=50
 el:∀ j∈l,Fit A j.1/\1<=j.2.length/\j.2.length<=6/\∀ v∈j.2,Fit A v
 sum:ai4 l l.length<=41
 once:∀ i,i<l.length->(l.take i).any (fun k=>decide (k.1=(kF l i).1))=false
theorem VU {l:List Jt} {A:Nat} (J:JOk A l):∀ i,i<=l.length->ai4 l i<=6*i
 | 0,_=>aY _
 | i+1,h=>by
   have h1:=VU J i (by omega);have h2:=(J.el _ (BI (show i<l.length by omega))).2.2.1;rw [ai4];omega
theorem aO3 (l:List Jt) (A:Nat) (J:JOk A l):vc prog (fun o=>cB o (.ret [.one (sJ l), .one (.exact (.slice none 0 0)), .one (sQ [1])])) (bO prog 105 (fun _=>none) (aP [] (aU f45)) [(0, .v none)] ([0,9,10].map ResultVar.tmp) (some 5) false) ([.v (.one (sJ l))].map In.env) []:=by
 rw [Rq];dsimp only [List.map,In.env,aF,aG];have hl:=J.hl;apply vn (aO OB (aL _)) rfl;refine bV {i:Nat // i<=l.length} (fun g=>[.one (.exact (.slice none 0 0)), .one (.int .i64 0), .one (.int .i64 (ai4 l g.1:Nat)), .one (.int .i64 (g.1:Int))]) (fun g=>l.length-g.1) ⟨0,cX _⟩ aW.rfl (fun _=>rfl) ?_;rintro ⟨i,hi⟩;have hsi:=VU J i hi;dsimp only [aF,aG] at hi ⊢;apply vn bL rfl;refine vs _ rfl ?_ ?_<;>intro h3
 .have hi':i<l.length:=by omega
  have hje:=J.el _ (BI hi');apply vn (aI (f:=yM) (xs:=l) OB (m:=i) (by omega) (Int.toNat_natCast i) (NZ hi')) rfl;apply vn (aM az1 (by decide) (by simp) (.inl rfl)) rfl;apply vn (aO aZ (aL _)) rfl;dsimp only [aF,aG];apply vn bL rfl;refine vs _ rfl ?_ ?_<;>intro h8
  .exact absurd h8 (by omega)
  apply vn (aO aZ (aL _)) rfl;apply vn gE rfl;refine vs _ rfl ?_ ?_<;>intro h12
  .exact absurd h12 (by omega)
  apply vn (aO aZ (aL _)) rfl;dsimp only [aF,aG];apply vn (aC (by omega) (by omega)) rfl;apply vn (aC (by omega) (by omega)) rfl;dsimp only [aF,aG];exact bB rfl ⟨⟨i+1,by omega⟩,aW.rfl,by show l.length-(i+1)<l.length-i;omega⟩
 apply vn gE rfl;refine vs _ rfl ?_ ?_<;>intro h19
 .have hs:=J.sum;rw [show l.length=i by omega] at hs;exact absurd h19 (by omega)
 apply vn (aO OB (aL _)) rfl;refine bV {i:Nat // i<=l.length} (fun g=>[.one (.exact (.slice none 0 0)), .one (.int .i64 0), .one (.int .i64 (g.1:Int))]) (fun g=>l.length-g.1) ⟨0,cX _⟩ aW.rfl (fun _=>rfl) ?_;rintro ⟨j,hj⟩;dsimp only [aF,aG] at hj ⊢;apply vn bL rfl;refine vs _ rfl ?_ ?_<;>intro h24
 .have hj':j<l.length:=by omega
  have hje:=J.el _ (BI hj');apply vn (aI (f:=yM) (xs:=l) OB (m:=j) (by omega) (Int.toNat_natCast j) (NZ hj')) rfl;apply vn (aM az1 (by decide) (by simp) (.inl rfl)) rfl;dsimp only [aF,aG];apply vn (BT OB (by omega) (by omega) (show j<=l.length by omega)) rfl;apply aA (Bn (l.take j) _ [.bG (yM (kF l j))] (fun k=>decide (k.1=(kF l j).1)) (fun p hp=>PO p (kF l j) A (J.el p (List.mem_of_mem_take hp)).1 hje.1 J.hA) (by rw [List.length_take];omega)) rfl;rw [J.once j hj'];refine nY false rfl (fun h=>by cases h) (fun _=>?_);apply vn (aC (by omega) (by omega)) rfl;dsimp only [aF,aG];exact bB rfl ⟨⟨j+1,by omega⟩,aW.rfl,by show l.length-(j+1)<l.length-j;omega⟩
 apply aA (cK 1) rfl;apply eT (us:=[qC ((1:Int):Rat)]) rfl;exact aK rfl
open Go Go.Proofs Go.RowKit Tryz Ord
def En:Tr:=.back 2 [(.w (W 21 0)),(.w (W 22 0)),(.w (W 23 0))]
def EP:Tr:=.need (.prim [(W 19 0),(WK (1))] none) (.binOp .add 3 (.tmp 73) (.const (I3 (1))) 3) 3 false En
def FB:Tr:=.need (.call 124 [(W 18 0)] [none]) (.call ⟨.value (.func 124),#[(.tmp 77)],#[98]⟩) 98 true EP
def GY:Tr:=.need (.call 124 [(W 17 0)] [none]) (.call ⟨.value (.func 124),#[(.tmp 75)],#[98]⟩) 98 false FB
def FV:Tr:=.back 1 [(.w (W 26 0)),(.w (W 30 0)),(.w (W 31 0))]
def HB:Tr:=.need (.prim [(W 13 0),(WK (1))] none) (.binOp .add 3 (.tmp 65) (.const (I3 (1))) 3) 3 false FV
def Dm:Tr:=.need (.call 64 [(W 12 0),(.one (.c (.sr 3 29)))] [none]) (.call ⟨.value (.func 64),#[(.tmp 95),(.tmp 100)],#[98,98]⟩) 98 true HB
def EO:Tr:=.need (.lit 3 [[(.u 27 0),(.u 27 1),(.u 27 2)],[(.u 28 0),(.u 28 1),(.u 28 2)]]) (.buildSlice 98 2 #[(0,(.tmp 98)),(1,(.tmp 99))]) 98 false Dm
def Hv:Tr:=.need (.call 113 [(WK (1))] [(some 3)]) (.call ⟨.value (.func 113),#[(.const (I3 (1)))],#[3]⟩) 46 true EO
def CI:Tr:=.need (.call 65 [(.agg [(U 9 0),(U 9 1),(U 9 2)])] [(some 3)]) (.call ⟨.value (.func 65),#[(.tmp 97)],#[46]⟩) 46 false Hv
def Dt:Tr:=.need (.call 66 [(W 11 0),(W 25 0)] [none]) (.call ⟨.value (.func 66),#[(.tmp 80),(.tmp 93)],#[98,98]⟩) 98 true CI
def HC:Tr:=.need (.call 125 [(W 12 0),(.agg [(U 24 0),(U 24 1),(U 24 2)])] [none]) (.call ⟨.value (.func 125),#[(.tmp 81),(.tmp 92)],#[98,46]⟩) 98 true Dt
def EM:Tr:=.need (.call 112 [(.agg [(U 22 0),(U 22 1),(U 22 2)]),(.agg [(U 23 0),(U 23 1),(U 23 2)])] [(some 3)]) (.call ⟨.value (.func 112),#[(.tmp 87),(.tmp 91)],#[46,46]⟩) 46 false HC
def Ff:Tr:=.need (.call 79 [(W 18 0),(.agg [(U 9 0),(U 9 1),(U 9 2)])] [(some 3)]) (.call ⟨.value (.func 79),#[(.tmp 88),(.tmp 90)],#[98,46]⟩) 46 false EM
def Cj:Tr:=.need (.call 86 [(.agg [(U 16 0),(U 16 1),(U 16 2)]),(.agg [(U 21 0),(U 21 1),(U 21 2)])] [(some 3)]) (.call ⟨.value (.func 86),#[(.tmp 82),(.tmp 86)],#[46,46]⟩) 46 false Ff
def FO:Tr:=.need (.call 79 [(W 17 0),(.agg [(U 9 0),(U 9 1),(U 9 2)])] [(some 3)]) (.call ⟨.value (.func 79),#[(.tmp 83),(.tmp 85)],#[98,46]⟩) 46 false Cj
def GF:Tr:=.split (.u 20 0) GY FO
def Gy:Tr:=.need (.prim [(W 19 0),(W 13 0)] none) (.binOp .lss 3 (.tmp 73) (.tmp 72) 3) 4 false GF
def DL:Tr:=.loop 2 [(.w (W 11 0)),(.w (W 12 0)),(.w (WK (0)))] Gy
def DH:Tr:=.need (.prim [(W 15 0)] (some 3)) (.load 46 (.tmp 68)) 46 false DL
def CF:Tr:=.need (.prim [(W 9 3),(W 13 0)] none) (.indexAddr 28 (.tmp 63) (.tmp 65)) 0 false DH
def Gq:Tr:=.back 0 [(.w (W 11 0)),(.w (W 12 0)),(.w (W 15 0))]
def Gv:Tr:=.need (.prim [(W 6 0),(WK (1))] none) (.binOp .add 3 (.tmp 58) (.const (I3 (1))) 3) 3 false Gq
def Ij:Tr:=.split (.u 14 0) CF Gv
def Js:Tr:=.need (.prim [(W 13 0),(W 10 0)] none) (.binOp .lss 3 (.tmp 65) (.tmp 64) 3) 0 false Ij
def KV:Tr:=.loop 1 [(.w (W 4 0)),(.w (W 5 0)),(.w (WK (0)))] Js
def Ih:Tr:=.need (.prim [(W 9 3)] none) (.call ⟨.builtin .len,#[(.tmp 63)],#[28]⟩) 3 false KV
def ME:Tr:=.need (.prim [(W 8 0)] (some 4)) (.load 97 (.tmp 60)) 97 false Ih
def IQ:Tr:=.need (.prim [(W 0 0),(W 6 0)] none) (.indexAddr 90 (.tmp 56) (.tmp 58)) 0 false ME
def FL:Tr:=.ret [(W 4 0),(WK (0))]
def Mj:Tr:=.split (.u 7 0) IQ FL
def JM:Tr:=.need (.prim [(W 6 0),(W 3 0)] none) (.binOp .lss 3 (.tmp 58) (.tmp 57) 3) 0 false Mj
def IG:Tr:=.loop 0 [(.w (W 1 0)),(.w (W 2 0)),(.w (WK (0)))] JM
def Ic:Tr:=.need (.prim [(W 0 0)] none) (.call ⟨.builtin .len,#[(.tmp 56)],#[90]⟩) 3 false IG
theorem Ta:bO prog 105 (fun _=>none) (aP [1,1,1,1,1,1] (aU f45)) [(0, .v none),(9, .v none),(10, .v none)] f45.results.toList none true=Ic:=by kernel_rfl
theorem ar3 (p q:List Rat) (A:Nat) (hp:∀ a∈p,Fit A a) (hq:∀ a∈q,Fit A a) (hl:p.length<=9) (hl2:q.length<=9) (hA:A<=100000000):aQ prog 64 [.one (sQ p), .one (sQ q)] (.ret [.one (sQ (iM p q))]):=by
 refine Va p q (NU p) (NU q) (2^A) (2^A) (20*A+20) (BQ p) (BQ q) (fun a ha=>tG (hp a ha) (xY ha)) (fun a ha=>tG (hq a ha) (xY ha)) ?_;have h1:NU p<=2^(9*A):=Nat.le_trans (BK hp) (Nat.pow_le_pow_right (by omega) (by rw [Nat.mul_comm];exact Nat.mul_le_mul_right _ hl));have h2:NU q<=2^(9*A):=Nat.le_trans (BK hq) (Nat.pow_le_pow_right (by omega) (by rw [Nat.mul_comm];exact Nat.mul_le_mul_right _ hl2));have hx:1<=2^A:=Nat.one_le_two_pow;have h3:2^A+1<=2^(A+1):=by rw [Nat.pow_succ];omega
 have h4:(p.length+1)*((2^A+1)*(2^A+1))<=2^(2*A+6):=by
  have:=Nat.mul_le_mul (show p.length+1<=2^4 by omega) (Nat.mul_le_mul h3 h3);rw [<-Nat.pow_add,<-Nat.pow_add] at this
  rwa [show 4+(A+1+(A+1))=2*A+6 by omega] at this
 have:=Nat.mul_le_mul (Nat.mul_le_mul h1 h2) h4;rw [<-Nat.pow_add,<-Nat.pow_add] at this;exact Nat.lt_of_le_of_lt this (Nat.pow_lt_pow_right (by omega) (by omega))
def BB (p:List Rat):Nat->List Rat
 | 0=>p
 | r+1=>iQ (BB p r)
theorem wR (p:List Rat):∀ r,(BB p r).length<=p.length
 | 0=>aY _
 | r+1=>by have:=sX (BB p r);have:=wR p r;rw [BB];omega
theorem BP {A:Nat} {p:List Rat} (hA:1<=A) (hl:p.length<=9) (h:∀ a∈p,Fit A a):∀ r,∀ a∈BB p r,Fit (A+12*r) a
 | 0=>h
 | r+1=>fun a ha=>(BV (by omega) (BP hA hl h r) (by have:=wR p r;omega) a ha).mono (by omega)
def zX (x v:Rat) (r:Nat) (s:List Rat×List Rat):Rat:=yG (v-iR (BB s.1 r) x) (iR (BB s.2 r) x)
def KH (x v:Rat) (r:Nat) (s:List Rat×List Rat):List Rat×List Rat:=(vB s.1 (YJ s.2 (zX x v r s)),iM s.2 [-x,((1:Int):Rat)])
def jB (x:Rat) (vs:List Rat) (s:List Rat×List Rat):Nat->List Rat×List Rat
 | 0=>s
 | r+1=>KH x (vs.getD r 0) r (jB x vs s r)
def tQ (l:List Jt):Nat->List Rat×List Rat
 | 0=>([],[1])
 | j+1=>jB (kF l j).1 (kF l j).2 (tQ l j) (kF l j).2.length
structure SmS (A:Nat) (s:List Rat×List Rat):Prop where
 l1:s.1.length<=9
 l2:s.2.length<=9
 f1:∀ a∈s.1,Fit A a
 f2:∀ a∈s.2,Fit A a
theorem Wj {p:List Rat} {A:Nat} {x:Rat} (hA:1<=A) (hl:p.length<=9) (hp:∀ a∈p,Fit A a) (hx:Fit A x):Fit (9*(2*A+1)+1) (iR p x):=
 (tA hA hx p hp).mono (by have:=Nat.mul_le_mul_right (2*A+1) hl;omega)
theorem VE {p:List Rat} {A:Nat} (hl:p.length<=9):p.length*(2*A+2)<=9*(2*A+2):=Nat.mul_le_mul_right _ hl
set_option maxHeartbeats 1000000 in
theorem be2 (l:List Jt) (A:Nat) (J:JOk A l) (hst:∀ j r,j<l.length->r<=(kF l j).2.length->SmS A (jB (kF l j).1 (kF l j).2 (tQ l j) r)):vc prog (fun o=>cB o (.ret [.one (sQ (tQ l l.length).1), .one (.int .i64 0)])) (bO prog 105 (fun _=>none) (aP [1,1,1,1,1,1] (aU f45)) [(0, .v none),(9, .v none),(10, .v none)] f45.results.toList none true) ([.v (.one (sJ l)), .v (.one (sQ [])), .v (.one (sQ [1]))].map In.env) []:=by
 rw [Ta];dsimp only [List.map,In.env,aF,aG];have hl:=J.hl;have hA:=J.hA;have hA1:=J.hA1;apply vn (aO OB (aL _)) rfl;refine bV {j:Nat // j<=l.length} (fun g=>[.one (sQ (tQ l g.1).1), .one (sQ (tQ l g.1).2), .one (.int .i64 (g.1:Int))]) (fun g=>l.length-g.1) ⟨0,cX _⟩ aW.rfl (fun _=>rfl) ?_;rintro ⟨j,hj⟩;dsimp only [aF,aG] at hj ⊢;apply vn bL rfl;refine vs _ rfl ?_ ?_<;>intro h3
 .have hj':j<l.length:=by omega
  obtain ⟨fx,hv1,hv6,fv⟩:=J.el _ (BI hj');have hsj:=fun r hr=>hst j r hj' hr;apply vn (aI (f:=yM) (xs:=l) OB (m:=j) (by omega) (Int.toNat_natCast j) (NZ hj')) rfl;apply vn (aM az1 (by decide) (by simp) (.inl rfl)) rfl;apply vn (aO aZ (aL _)) rfl;dsimp only [aF,aG];refine bV {r:Nat // r<=(kF l j).2.length} (fun g=>[.one (sQ (jB (kF l j).1 (kF l j).2 (tQ l j) g.1).1), .one (sQ (jB (kF l j).1 (kF l j).2 (tQ l j) g.1).2), .one (.int .i64 (g.1:Int))]) (fun g=>(kF l j).2.length-g.1) ⟨0,cX _⟩ aW.rfl (fun _=>rfl) ?_;rintro ⟨r,hr⟩;dsimp only [aF,aG] at hr ⊢;apply vn bL rfl;refine vs _ rfl ?_ ?_<;>intro h9
  .have hr':r<(kF l j).2.length:=by omega
   obtain ⟨s1,s2,s3,s4⟩:=hsj r hr;have hnx:jB (kF l j).1 (kF l j).2 (tQ l j) (r+1)=KH (kF l j).1 ((kF l j).2.getD r 0) r (jB (kF l j).1 (kF l j).2 (tQ l j) r):=rfl;generalize jB (kF l j).1 (kF l j).2 (tQ l j) r=s at s1 s2 s3 s4 hnx ⊢;apply vn (aI aZ (m:=r) (by omega) (Int.toNat_natCast r) (aH hr')) rfl;apply vn (aM bU (by decide) (by simp) (.inl rfl)) rfl;refine bV {k:Nat // k<=r} (fun g=>[.one (sQ (BB s.1 g.1)), .one (sQ (BB s.2 g.1)), .one (.int .i64 (g.1:Int))]) (fun g=>r-g.1) ⟨0,cX _⟩ aW.rfl (fun _=>rfl) ?_;rintro ⟨k,hk⟩;have k1:=wR s.1 k;have k2:=wR s.2 k;have k3:=BP hA1 s1 s3 k;have k4:=BP hA1 s2 s4 k;dsimp only [aF,aG] at hk ⊢;apply vn bL rfl;refine vs _ rfl ?_ ?_<;>intro h14
   .apply aA (yZ (BB s.1 k) (A+12*k) k3) rfl;apply aA (yZ (BB s.2 k) (A+12*k) k4) rfl;apply vn (aC (by omega) (by omega)) rfl;dsimp only [aF,aG];exact bB rfl ⟨⟨k+1,by omega⟩,aW.rfl,by show r-(k+1)<r-k;omega⟩
   obtain rfl:r=k:=by omega
   have fv':=aB fv r hA1;have e1:=Wj (x:=(kF l j).1) (by omega) (by omega) k3 (fx.mono (by omega));have e2:=Wj (x:=(kF l j).1) (by omega) (by omega) k4 (fx.mono (by omega));have n1:=VE (A:=A+12*r) (show (BB s.1 r).length<=9 by omega);have n2:=VE (A:=A+12*r) (show (BB s.2 r).length<=9 by omega);apply aA (pN (BB s.1 r) (kF l j).1 (A+12*r) k3 (fx.mono (by omega))) rfl;apply aA (jG _ _ A _ fv' e1) rfl;apply aA (pN (BB s.2 r) (kF l j).1 (A+12*r) k4 (fx.mono (by omega))) rfl;apply aA (iZ _ _ _ _ (fv'.sub e1) e2) rfl;dsimp only [aF,aG];have fc:Fit (100*A+10000) (zX (kF l j).1 ((kF l j).2.getD r 0) r s):=(kO (fv'.sub e1) e2).mono (by omega);rw [show yG ((kF l j).2.getD r 0-iR (BB s.1 r) (kF l j).1) (iR (BB s.2 r) (kF l j).1)=zX (kF l j).1 ((kF l j).2.getD r 0) r s from rfl];apply aA (EN s.2 _ A (100*A+10000) hA1 s4 fc) rfl;apply aA (Pe s.1 (YJ s.2 (zX (kF l j).1 ((kF l j).2.getD r 0) r s)) A (A+(100*A+10000)) s3 (PH hA1 s4 fc) (by have:=Ph s.2 (zX (kF l j).1 ((kF l j).2.getD r 0) r s);omega) hA1) rfl;apply aA (Pf (kF l j).1) rfl;apply aA (cK 1) rfl;dsimp only [aF,aG];apply eT (us:=[qC (-(kF l j).1),qC ((1:Int):Rat)]) rfl
   apply aA (ar3 s.2 [-(kF l j).1,((1:Int):Rat)] A s4 (fun a ha=>by
    simp only [List.mem_cons,List.not_mem_nil,or_false] at ha;rcases ha with rfl | rfl
    .exact fx.neg
    .exact Fit.int (n:=1) hA1 (Nat.lt_of_lt_of_le (show 1<2^1 by decide) (Nat.pow_le_pow_right (by omega) hA1))) s2 (by simp) (by omega)) rfl
   apply vn (aC (by omega) (by omega)) rfl;dsimp only [aF,aG];exact bB rfl ⟨⟨r+1,by omega⟩,by rw [hnx];exact aW.rfl,by show (kF l j).2.length-(r+1)<(kF l j).2.length-r;omega⟩
  apply vn (aC (by omega) (by omega)) rfl;dsimp only [aF,aG];exact bB rfl ⟨⟨j+1,by omega⟩,by rw [tQ,show (kF l j).2.length=r by omega];exact aW.rfl,by show l.length-(j+1)<l.length-j;omega⟩
 rw [show l.length=j by omega];exact aK rfl
open Go Go.Proofs Go.RowKit Tryz Ord
attribute [local go_sem] Oper.semAt_some
set_option maxRecDepth 100000 in
theorem Ut (l:List Jt) (A:Nat) (J:JOk A l) (hst:∀ j r,j<l.length->r<=(kF l j).2.length->SmS A (jB (kF l j).1 (kF l j).2 (tQ l j) r)) :
  aQ prog 45 [.one (sJ l)] (.ret [.one (sQ (tQ l l.length).1), .one (.int .i64 0)]):=by
 refine ⟨bK (by kernel_rfl),fun M w vs hM hv=>?_⟩;obtain ⟨v0,rfl,_⟩:=lJ hv;refine calls_of_wp func45 rfl ?_;simp only [ntmps45,List.size_toArray,List.length_cons,List.length_nil,Nat.reduceAdd,Nat.reduceSub,Array.replicate_succ,Array.replicate_zero,List.push_toArray,List.append_toArray,List.nil_append,List.cons_append];refine ao0 (n:=5) (N:=105) (ins:=[(0, .v none)]) (xs:=[.v (.one (sJ l))]) fo ⟨rfl,trivial⟩ (aO3 l A J) (by kernel_rfl) hM rfl rfl hv ?_ (by intro c v a' w' h;cases h);intro e a1 w1 rs us hrs hex hb1 hsz1 hdf1 hr1 hrep1;cases hrs;cases e with
 | exit id=>cases hex
 | ret=>cases hex
 | normal=>
 have huse:=bJ hr1;subst huse;obtain ⟨e0,e9,e10,_⟩:=hrep1
 have e9:(sQ []).rep M w1 (a1.tmps.getD 9 Go.undef):=by
  rw [show a1.tmps.getD 9 Go.undef = .slice none 0 0 from e9.1];exact ⟨none,0,rfl,by simp,by simp [maxLen], .inl rfl⟩
 have hM1:cH M w1:=bH hM hb1;clear hr1 hex hv;show Code.wp _ (Eg 5 _) _ _ _;simp only [Eg];refine Fv iG.wp (n0:=w1.heap.size) (N:=105) (ins:=[(0, .v none),(9, .v none),(10, .v none)]) (xs:=[.v (.one (sJ l)), .v (.one (sQ [])), .v (.one (sQ [1]))]) fo ⟨rfl,rfl,rfl,trivial⟩ (tX (be2 l A J hst)) (by kernel_rfl) (aY _) hM1 hsz1 hdf1 ⟨e0,e9,e10,trivial⟩ ?_;intro e a2 w2 us2 he hb2 hsz2 hdf2 hr2 hrep2;have hres:=fS f45 a2.tmps us2 hr2;have hpost:Below w.heap.size w w2/\∃ vs,Ending.returned (pack us2) = .returned (pack vs)/\cC M w2 [.one (sQ (tQ l l.length).1), .one (.int .i64 0)] vs:=⟨hb1.trans (hb2.mono hb1.size),us2,rfl,hrep2⟩
 cases e with
 | exit id=>cases he
 | normal=>exact bodyPost_end hres hdf2 hpost
 | ret=>exact bodyPost_ret hres hdf2 hpost
end Go.Sy
