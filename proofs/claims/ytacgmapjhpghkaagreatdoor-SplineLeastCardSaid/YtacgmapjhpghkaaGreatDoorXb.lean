/- Part. -/
import Derived.Test.YtacgmapjhpghkaaGreatDoorXa
import Derived.Test.YtacgmapjhpghkaaGreatDoorWf
set_option linter.all false
namespace Go.Sy
open Go Go.Proofs Tryz Ord
def Vz:Tr:=.ret [(.one (.c (.k (.slice none 0 0)))),(.one (.c (.k (.slice none 0 0)))),(.one (.c (.k (.slice none 0 0)))),(.one (.c (.k (.slice none 0 0)))),(tF false)]
def az0:Tr:=.split (.u 8 0) (dS 0 0 29 22 (bI .leq 3 30 40 9 0 4 (.split (.u 10 0) Vz (aZ 33 [(W 0 0)] [none,none] [35] [22] 74 false (aZ 33 [(W 1 0)] [none,none] [40] [22] 74 false (.ret [(W 11 0),(W 13 0),(W 12 0),(W 14 0),(tF true)])))))) (aZ 33 [(W 0 0)] [none,none] [35] [22] 74 false (aZ 33 [(W 1 0)] [none,none] [40] [22] 74 false (.ret [(W 9 0),(W 11 0),(W 10 0),(W 12 0),(tF true)])))
def aR5:Tr:=.need (.prim [(W 3 0)] none) (.unOp .not 4 (tT 16)) 4 false (.split (.u 4 0) Vz (.need (.call 13 [(W 1 0),(WK 50)] [none]) (.call ⟨.value (.func 13),#[(tT 19),(.const (I3 50))],#[22,3]⟩) 4 false (.need (.prim [(W 5 0)] none) (.unOp .not 4 (tT 20)) 4 false (.split (.u 6 0) Vz (dS 0 0 24 22 (cU .gtr 3 25 26 7 0 2 0 4 az0))))))
def bg0:Tr:=.need (.call 13 [(W 0 0),(WK 50)] [none]) (.call ⟨.value (.func 13),#[(tT 15),(.const (I3 50))],#[22,3]⟩) 4 false aR5
theorem RM:aV prog f48 (fun _=>none) [.v none, .v none, .v none]=bg0:=by kernel_rfl
def PH:Tr:=.ret [(tF false)]
def bg7:Tr:=.split (.u 5 0) (dS 1 0 14 32 (dS 0 0 16 32 (cU .eql 3 15 17 6 0 7 0 4 (.split (.u 8 0) (.need (.call 60 [(W 0 0),(tF true)] [none]) (.call ⟨.value (.func 60),#[(tT 21),(.const (.bool true))],#[32,4]⟩) 4 true (.ret [(W 9 0)])) PH)))) PH
def aW0:Tr:=dS 0 0 5 32 (bI .geq 3 6 2 2 0 4 (.split (.u 3 0) (dS 0 0 9 32 (bI .leq 3 10 40 4 0 4 bg7)) PH))
theorem ar3:aV prog f52 (fun _=>none) [.v none, .v none]=aW0:=by kernel_rfl
def ZC (A:Nat) (ps:List (List Rat)):Prop:=∀ p∈ps,p.length<=4/\∀ a∈p,Fit A a
theorem ZC.dv {A:Nat} {ps:List (List Rat)} (hA:1<=A) (h:ZC A ps):ZC (A+12) (mW ps):=fun p hp=>by
 obtain ⟨q,hq,rfl⟩:=eM.1 hp;have:=h q hq;have hl:=lR q;exact ⟨by omega,pZ hA this.2 (by omega)⟩
def wO (x y:List dJ) (n:Int):Bool:=eU x 50&&(eU y 50 && !(decide (n<(x.length:Int))&&decide ((x.length:Int)<=40)))
theorem Ro (x y:List dJ) (n:Int) (h:wO x y n=true) (hx:∀ u∈x,u.In) (hy:∀ u∈y,u.In) (hs:x.length<140737488355328) (qH:y.length<140737488355328):aQ prog 48 [(.one (sN x):aJ),(.one (sN y):aJ),(.one (.int .i64 n):aJ)] (.ret [.one (sQ (aU x)), .one (sQ (aU y)), .one (sR (nM x)), .one (sR (nM y)), .one (.bool true)]):=by
 refine eH func48 RM ?_
 obtain ⟨hx1,hy1,hn⟩:eU x 50=true/\eU y 50=true/\¬ (n<(x.length:Int)/\(x.length:Int)<=40):=by
  simp only [wO,Bool.and_eq_true,Bool.not_eq_true',Bool.and_eq_false_iff,decide_eq_false_iff_not] at h;exact ⟨h.1,h.2.1,fun e=>h.2.2.elim (fun h=>h e.1) (fun h=>h e.2)⟩
 have lx:=kY hx1;have ly:=kY hy1;apply aA (nA x 50 hs) rfl;rw [hx1];apply vn gX rfl;refine pY false rfl (fun h=>by cases h) (fun _=>?_);apply aA (nA y 50 qH) rfl;rw [hy1];apply vn gX rfl;dsimp only [aE,aF];refine pY false rfl (fun h=>by cases h) (fun _=>?_);apply vn (aM QD (aK _)) rfl;apply vn gH rfl;refine vs _ rfl ?_ ?_<;>intro h10
 .apply vn (aM QD (aK _)) rfl;apply vn nX rfl;dsimp only [aE,aF];refine vs _ rfl ?_ ?_<;>intro h13
  .exact absurd ⟨by omega,by omega⟩ hn
  apply aA (xR x hx) rfl;apply aA (xR y hy) rfl;exact aL rfl
 apply aA (xR x hx) rfl;apply aA (xR y hy) rfl;exact aL rfl
theorem UC (x y:List dJ) (n:Int) (h:wO x y n=false) (hx:∀ u∈x,u.In) (hy:∀ u∈y,u.In) (hs:x.length<140737488355328) (qH:y.length<140737488355328):aQ prog 48 [(.one (sN x):aJ),(.one (sN y):aJ),(.one (.int .i64 n):aJ)] (.ret [.one anyS, .one anyS, .one anyS, .one anyS, .one (.bool false)]):=by
 refine eH func48 RM ?_;apply aA (nA x 50 hs) rfl;apply vn gX rfl;refine pY (!eU x 50) rfl (fun h02=>?_) (fun h02=>?_)
 .exact jL ⟨iW,iW,iW,iW,aJ.Sub.same,trivial⟩
 apply aA (nA y 50 qH) rfl;apply vn gX rfl;dsimp only [aE,aF];refine pY (!eU y 50) rfl (fun h06=>?_) (fun h06=>?_)
 .exact jL ⟨iW,iW,iW,iW,aJ.Sub.same,trivial⟩
 apply vn (aM QD (aK _)) rfl;apply vn gH rfl;refine vs _ rfl ?_ ?_<;>intro h10
 .apply vn (aM QD (aK _)) rfl;apply vn nX rfl;dsimp only [aE,aF];refine vs _ rfl ?_ ?_<;>intro h13
  .exact jL ⟨iW,iW,iW,iW,aJ.Sub.same,trivial⟩
  exfalso
  have hx1:eU x 50=true:=by simpa using h02
  have hy1:eU y 50=true:=by simpa using h06
  rw [wO,hx1,hy1,Bool.true_and,Bool.true_and,Bool.not_eq_false',Bool.and_eq_true,decide_eq_true_eq,decide_eq_true_eq] at h;omega
 exfalso
 have hx1:eU x 50=true:=by simpa using h02
 have hy1:eU y 50=true:=by simpa using h06
 rw [wO,hx1,hy1,Bool.true_and,Bool.true_and,Bool.not_eq_false',Bool.and_eq_true,decide_eq_true_eq,decide_eq_true_eq] at h;omega
theorem SP (x y:List RQ) (A:Nat) (hp:∀ a∈x,Fit A a.q) (hl:x.length<1099511627776:=by omega) (hl2:y.length<1099511627776:=by omega) (hA:A<=1073741824:=by omega):aQ prog 52 [(.one (sR x):aJ),(.one (sR y):aJ)] (.ret [.one (.bool (mR (x.map RQ.q) (y.map RQ.q)))]):=by
 refine eH func52 ar3 ?_;have lx:(x.map RQ.q).length=x.length:=aK _;have ly:(y.map RQ.q).length=y.length:=aK _;apply vn (aM VC (aK _)) rfl;apply vn gJ rfl;refine vs _ rfl ?_ ?_<;>intro h2
 .apply vn (aM VC (aK _)) rfl;apply vn nX rfl;dsimp only [aE,aF];refine vs _ rfl ?_ ?_<;>intro h5
  .apply vn (aM VC (aK _)) rfl;apply vn (aM VC (aK _)) rfl;apply vn dP rfl;refine vs _ rfl ?_ ?_<;>intro h9
   .apply aA (ai2 x true A hl hp hA) rfl;dsimp only [aE,aF];rw [mR,decide_eq_true (show 2<=(x.map RQ.q).length by omega),decide_eq_true (show (x.map RQ.q).length<=40 by omega),decide_eq_true (show (y.map RQ.q).length=(x.map RQ.q).length by omega)];exact aL rfl
   rw [mR,decide_eq_true (show 2<=(x.map RQ.q).length by omega),decide_eq_true (show (x.map RQ.q).length<=40 by omega),decide_eq_false (show ¬ (y.map RQ.q).length=(x.map RQ.q).length by omega)];exact aL rfl
  rw [mR,decide_eq_true (show 2<=(x.map RQ.q).length by omega),decide_eq_false (show ¬ (x.map RQ.q).length<=40 by omega)];exact aL rfl
 rw [mR,decide_eq_false (show ¬ 2<=(x.map RQ.q).length by omega)];exact aL rfl
open Go Go.Proofs Tryz Ord
def vU:Tr:=.ret [(W 4 0)]
def tV:Tr:=.back 0 [(.w (W 3 0)),(.w (W 9 0))]
def vL:Tr:=.need (.prim [(W 4 0),(WK (1))] none) (.binOp .add 3 (.tmp 8) (.const (I3 (1))) 3) 3 false tV
def vB:Tr:=.split (.u 8 0) vU vL
def uN:Tr:=.need (.callv (.u 1 0) [(.agg [(U 7 0),(U 7 1),(U 7 2),(U 7 3)])] [none]) (.call ⟨.value (.tmp 11),#[(.tmp 15)],#[97]⟩) 4 true vB
def vS:Tr:=.need (.prim [(W 6 0)] (some 4)) (.load 97 (.tmp 14)) 97 false uN
def uF:Tr:=.need (.prim [(W 0 0),(W 4 0)] none) (.indexAddr 90 (.tmp 12) (.tmp 13)) 0 false vS
def tU:Tr:=.ret [(WK (-1))]
def vM:Tr:=.split (.u 5 0) uF tU
def vK:Tr:=.need (.prim [(W 4 0),(W 2 0)] none) (.binOp .lss 3 (.tmp 8) (.tmp 7) 3) 0 false vM
def vV:Tr:=.loop 0 [(.w (WK (0))),(.w (WK (0)))] vK
def uI:Tr:=.need (.prim [(W 0 0)] none) (.call ⟨.builtin .len,#[(.tmp 6)],#[90]⟩) 3 false vV
theorem zM:aV prog f192 (fun _=>none) [.v none, .v none]=uI:=by kernel_rfl
def an2:Tr:=.ret [(W 3 0)]
def aU1:Tr:=aZ 192 [(W 0 0),(W 1 0)] [none] [5,6] [90,175] 3 true (bI .geq 3 7 0 2 0 4 an2)
theorem Bn:aV prog f122 (fun _=>none) [.v none, .v none]=aU1:=by kernel_rfl
def bl7:Tr:=aZ 67 [(G3 0),(G3 1)] [none] [5,7] [46,46] 3 true (bI .eql 3 8 0 2 0 4 an2)
theorem PQ:aV prog f123 (fun _=>none) [.v (some 4), .ref 4]=bl7:=by kernel_rfl
def MK:Tr:=.fail 1011
def Fg:Tr:=.fail 1011
def Cv:Tr:=.back 0 [(.w (W 2 0)),(.w (W 3 0)),(.w (W 14 0)),(.w (W 15 0))]
def Fk:Tr:=.need (.prim [(W 5 0),(WK (1))] none) (.binOp .add 3 (.tmp 19) (.const (I3 (1))) 3) 3 false Cv
def DU:Tr:=.need (.prim [(W 4 0),(W 13 0)] none) (.binOp .add 3 (.tmp 33) (.tmp 36) 3) 3 false Fk
def Er:Tr:=.need (.prim [(W 8 3)] none) (.call ⟨.builtin .len,#[(.tmp 35)],#[28]⟩) 3 false DU
def Gv:Tr:=.split (.u 12 0) Fg Er
def CL:Tr:=.need (.prim [(W 11 0),(WK (6))] none) (.binOp .gtr 3 (.tmp 30) (.const (I3 (6))) 3) 4 false Gv
def EN:Tr:=.need (.prim [(W 8 3)] none) (.call ⟨.builtin .len,#[(.tmp 29)],#[28]⟩) 3 false CL
def MQ:Tr:=.split (.u 10 0) MK EN
def Nf:Tr:=.need (.prim [(W 9 0),(WK (1))] none) (.binOp .lss 3 (.tmp 25) (.const (I3 (1))) 3) 4 false MQ
def IQ:Tr:=.need (.prim [(W 8 3)] none) (.call ⟨.builtin .len,#[(.tmp 24)],#[28]⟩) 3 false Nf
def LC:Tr:=.need (.prim [(W 7 0)] (some 4)) (.load 97 (.tmp 21)) 97 false IQ
def Im:Tr:=.need (.prim [(W 0 0),(W 5 0)] none) (.indexAddr 90 (.tmp 17) (.tmp 19)) 0 false LC
def HC:Tr:=.fail 1011
def Gi:Tr:=.fail 1011
def Gy:Tr:=.back 0 [(.w (W 9 0)),(.w (W 10 0)),(.w (W 17 0))]
def Cw:Tr:=.need (.prim [(W 11 0),(WK (1))] none) (.binOp .add 3 (.tmp 43) (.const (I3 (1))) 3) 3 false Gy
def CD:Tr:=.split (.u 16 0) Gi Cw
def DL:Tr:=.need (.call 122 [(W 15 0),(.one (.fP 123 [(.ref 0 [(.u 14 0),(.u 14 1),(.u 14 2),(.u 14 3)])]))] [none]) (.call ⟨.value (.func 122),#[(.tmp 50),(.tmp 51)],#[90,175]⟩) 4 true CD
def EG:Tr:=.need (.prim [(W 0 0),(W 11 0)] none) (.slice 90 (.tmp 48) none (some (.tmp 49)) none) 90 false DL
def CV:Tr:=.need (.prim [(W 13 0)] (some 4)) (.load 97 (.tmp 46)) 97 false EG
def Gw:Tr:=.need (.prim [(W 0 0),(W 11 0)] none) (.indexAddr 90 (.tmp 41) (.tmp 43)) 0 false CV
def Dq:Tr:=.ret [(W 0 0),(.one (.c (.k (.slice none 0 0)))),(.one (.c (.sr 3 14)))]
def El:Tr:=.need (.lit 3 [[(.u 13 0),(.u 13 1),(.u 13 2)]]) (.buildSlice 98 1 #[(0,(.tmp 54))]) 98 false Dq
def Gs:Tr:=.need (.call 113 [(WK (1))] [(some 3)]) (.call ⟨.value (.func 113),#[(.const (I3 (1)))],#[3]⟩) 46 true El
def Hy:Tr:=.split (.u 12 0) Gw Gs
def FI:Tr:=.need (.prim [(W 11 0),(W 8 0)] none) (.binOp .lss 3 (.tmp 43) (.tmp 42) 3) 0 false Hy
def FV:Tr:=.loop 0 [(.w (W 2 0)),(.w (W 3 0)),(.w (WK (0)))] FI
def Ht:Tr:=.need (.prim [(W 0 0)] none) (.call ⟨.builtin .len,#[(.tmp 41)],#[90]⟩) 3 false FV
def Hj:Tr:=.split (.u 7 0) HC Ht
def GY:Tr:=.need (.prim [(W 4 0),(WK (41))] none) (.binOp .gtr 3 (.tmp 39) (.const (I3 (41))) 3) 4 false Hj
def Ml:Tr:=.split (.u 6 0) Im GY
def Jq:Tr:=.need (.prim [(W 5 0),(W 1 0)] none) (.binOp .lss 3 (.tmp 19) (.tmp 18) 3) 0 false Ml
def JO:Tr:=.loop 0 [(.w (.one (.c (.k (.slice none 0 0))))),(.w (WK (0))),(.w (WK (0))),(.w (WK (0)))] Jq
def IK:Tr:=.need (.prim [(W 0 0)] none) (.call ⟨.builtin .len,#[(.tmp 17)],#[90]⟩) 3 false JO
theorem Se:bP prog 105 (fun _=>none) (aO [] (aW f45)) [(0, .v none)] ([0,9,10].map ResultVar.tmp) (some 5) false=IK:=by kernel_rfl
abbrev Jt:=Rat×List Rat
abbrev yV (j:Jt):List aD:=qC j.1 ++ [sQ j.2]
abbrev sJ (l:List Jt):aD:=.slice 4 (l.map yV)
theorem Qx (a b:Jt) (A:Nat) (ha:Fit A a.1) (hb:Fit A b.1) (hA:A<=10000000):aQ prog 123 [(.agg (yV a):aJ),(.one (.bH (yV b)):aJ)] (.ret [.one (.bool (decide (a.1=b.1)))]):=by
 refine dvr (ins:=[.v (.agg (yV a)), .ref (yV b)]) func123 PQ ?_;apply aA (kL a.1 b.1 A A ha hb) rfl;apply vn dP rfl;dsimp only [aE,aF];rw [show decide (a.1=b.1)=decide (gG a.1 b.1=0) by rw [decide_eq_decide];exact UP.symm];exact aL rfl
theorem yU (e:List Jt) (g:Nat) (caps:List aD) (c:Jt->Bool) (hc:∀ p∈e,aQ prog g (.agg (yV p)::caps.map .one) (.ret [.one (.bool (c p))])) (hs:e.length<1099511627776):aQ prog 192 [(.one (sJ e):aJ),(.one (.fP g caps):aJ)] (.ret [.one (.int .i64 (jN c e 0))]):=by
 refine eH func192 zM ?_;apply vn (aM Pa (aK _)) rfl;refine bZ {i:Nat // i<=e.length/\jN c e 0=jN c (e.drop i) i} (fun g=>[.one (.int .i64 0), .one (.int .i64 g.1)]) (fun g=>e.length-g.1) ⟨0,dD _,rfl⟩ aX.rfl (fun _=>rfl) ?_;rintro ⟨i,hi,hf⟩;dsimp only [aE,aF] at hi hf ⊢;apply vn bQ rfl;refine vs _ rfl ?_ ?_<;>intro h3
 .obtain ⟨p,hp⟩:∃ p,e[i]? = some p:=⟨_,cC (by omega)⟩
  have hdrop:e.drop i=p::e.drop (i+1):=by
   rw [List.drop_eq_getElem_cons (by omega),(dR.1 hp).2]
  rw [hdrop,jN] at hf;apply vn (aH Pa (by omega) (by omega) hp) rfl;apply vn (aR aB0 (by decide) (by simp) (.inl rfl)) rfl;apply zU (f:=g) (caps:=caps) rfl (hc p (gD hp)) rfl;dsimp only [aE,aF];refine pY (c p) rfl (fun h7=>?_) (fun h7=>?_)
  .rw [hf,if_pos h7];exact aL rfl
  apply vn (aB (by omega) (by omega)) rfl;dsimp only [aE,aF];exact bD rfl ⟨⟨i+1,by omega,by rw [hf,if_neg (by simp [h7])]⟩,aX.rfl,by show e.length-(i+1)<e.length-i;omega⟩
 rw [hf,List.drop_eq_nil_of_le (by omega),jN];exact aL rfl
theorem Bv (e:List Jt) (g:Nat) (caps:List aD) (c:Jt->Bool) (hc:∀ p∈e,aQ prog g (.agg (yV p)::caps.map .one) (.ret [.one (.bool (c p))])) (hs:e.length<1099511627776):aQ prog 122 [(.one (sJ e):aJ),(.one (.fP g caps):aJ)] (.ret [.one (.bool (e.any c))]):=by
 refine eH func122 Bn ?_;apply aA (yU e g caps c hc hs) rfl;apply vn gJ rfl;dsimp only [aE,aF];rw [<-Fc c e 0];exact aL rfl
def kG (l:List Jt) (i:Nat):Jt:=l.getD i (0,[])
theorem Ox {l:List Jt} {i:Nat} (h:i<l.length):l[i]? = some (kG l i):=by rw [kG,iP,cC h];rfl
theorem BK {l:List Jt} {i:Nat} (h:i<l.length):kG l i∈l:=gD (Ox h)
def al1 (l:List Jt):Nat->Nat
 | 0=>0
 | i+1=>al1 l i+(kG l i).2.length
structure JOk (A:Nat) (l:List Jt):Prop where
 hA1:1<=A
 hA:A<=10000000
 hl:l.length<=50
 el:∀ j∈l,Fit A j.1/\1<=j.2.length/\j.2.length<=6/\∀ v∈j.2,Fit A v
 sum:al1 l l.length<=41
 once:∀ i,i<l.length->(l.take i).any (fun k=>decide (k.1=(kG l i).1))=false
theorem WM {l:List Jt} {A:Nat} (J:JOk A l):∀ i,i<=l.length->al1 l i<=6*i
 | 0,_=>aY _
 | i+1,h=>by
   have h1:=WM J i (by omega);have h2:=(J.el _ (BK (show i<l.length by omega))).2.2.1;rw [al1];omega
theorem aP6 (l:List Jt) (A:Nat) (J:JOk A l):vc prog (fun o=>cG o (.ret [.one (sJ l), .one (.exact (.slice none 0 0)), .one (sQ [1])])) (bP prog 105 (fun _=>none) (aO [] (aW f45)) [(0, .v none)] ([0,9,10].map ResultVar.tmp) (some 5) false) ([.v (.one (sJ l))].map In.env) []:=by
 rw [Se];dsimp only [List.map,In.env,aE,aF];have hl:=J.hl;apply vn (aM Pa (aK _)) rfl;refine bZ {i:Nat // i<=l.length} (fun g=>[.one (.exact (.slice none 0 0)), .one (.int .i64 0), .one (.int .i64 (al1 l g.1:Nat)), .one (.int .i64 (g.1:Int))]) (fun g=>l.length-g.1) ⟨0,dD _⟩ aX.rfl (fun _=>rfl) ?_;rintro ⟨i,hi⟩;have hsi:=WM J i hi;dsimp only [aE,aF] at hi ⊢;apply vn bQ rfl;refine vs _ rfl ?_ ?_<;>intro h3
 .have hi':i<l.length:=by omega
  have hje:=J.el _ (BK hi');apply vn (aH (f:=yV) (xs:=l) Pa (m:=i) (by omega) (Int.toNat_natCast i) (Ox hi')) rfl;apply vn (aR aB0 (by decide) (by simp) (.inl rfl)) rfl;apply vn (aM bG (aK _)) rfl;dsimp only [aE,aF];apply vn bQ rfl;refine vs _ rfl ?_ ?_<;>intro h8
  .exact absurd h8 (by omega)
  apply vn (aM bG (aK _)) rfl;apply vn gH rfl;refine vs _ rfl ?_ ?_<;>intro h12
  .exact absurd h12 (by omega)
  apply vn (aM bG (aK _)) rfl;dsimp only [aE,aF];apply vn (aB (by omega) (by omega)) rfl;apply vn (aB (by omega) (by omega)) rfl;dsimp only [aE,aF];exact bD rfl ⟨⟨i+1,by omega⟩,aX.rfl,by show l.length-(i+1)<l.length-i;omega⟩
 apply vn gH rfl;refine vs _ rfl ?_ ?_<;>intro h19
 .have hs:=J.sum;rw [show l.length=i by omega] at hs;exact absurd h19 (by omega)
 apply vn (aM Pa (aK _)) rfl;refine bZ {i:Nat // i<=l.length} (fun g=>[.one (.exact (.slice none 0 0)), .one (.int .i64 0), .one (.int .i64 (g.1:Int))]) (fun g=>l.length-g.1) ⟨0,dD _⟩ aX.rfl (fun _=>rfl) ?_;rintro ⟨j,hj⟩;dsimp only [aE,aF] at hj ⊢;apply vn bQ rfl;refine vs _ rfl ?_ ?_<;>intro h24
 .have hj':j<l.length:=by omega
  have hje:=J.el _ (BK hj');apply vn (aH (f:=yV) (xs:=l) Pa (m:=j) (by omega) (Int.toNat_natCast j) (Ox hj')) rfl;apply vn (aR aB0 (by decide) (by simp) (.inl rfl)) rfl;dsimp only [aE,aF];apply vn (PL Pa (show j<=l.length by omega)) rfl;apply aA (Bv (l.take j) _ [.bH (yV (kG l j))] (fun k=>decide (k.1=(kG l j).1)) (fun p hp=>Qx p (kG l j) A (J.el p (List.mem_of_mem_take hp)).1 hje.1 J.hA) (by rw [List.length_take];omega)) rfl;rw [J.once j hj'];refine pY false rfl (fun h=>by cases h) (fun _=>?_);apply vn (aB (by omega) (by omega)) rfl;dsimp only [aE,aF];exact bD rfl ⟨⟨j+1,by omega⟩,aX.rfl,by show l.length-(j+1)<l.length-j;omega⟩
 apply aA (dE 1) rfl;apply eK (us:=[qC ((1:Int):Rat)]) rfl;exact aL rfl
open Go Go.Proofs Go.RowKit Tryz Ord
def Ef:Tr:=.back 2 [(.w (W 21 0)),(.w (W 22 0)),(.w (W 23 0))]
def EF:Tr:=.need (.prim [(W 19 0),(WK (1))] none) (.binOp .add 3 (.tmp 73) (.const (I3 (1))) 3) 3 false Ef
def Fs:Tr:=.need (.call 124 [(W 18 0)] [none]) (.call ⟨.value (.func 124),#[(.tmp 77)],#[98]⟩) 98 true EF
def GM:Tr:=.need (.call 124 [(W 17 0)] [none]) (.call ⟨.value (.func 124),#[(.tmp 75)],#[98]⟩) 98 false Fs
def FK:Tr:=.back 1 [(.w (W 26 0)),(.w (W 30 0)),(.w (W 31 0))]
def Hr:Tr:=.need (.prim [(W 13 0),(WK (1))] none) (.binOp .add 3 (.tmp 65) (.const (I3 (1))) 3) 3 false FK
def Di:Tr:=.need (.call 64 [(W 12 0),(.one (.c (.sr 3 29)))] [none]) (.call ⟨.value (.func 64),#[(.tmp 95),(.tmp 100)],#[98,98]⟩) 98 true Hr
def EE:Tr:=.need (.lit 3 [[(.u 27 0),(.u 27 1),(.u 27 2)],[(.u 28 0),(.u 28 1),(.u 28 2)]]) (.buildSlice 98 2 #[(0,(.tmp 98)),(1,(.tmp 99))]) 98 false Di
def Hl:Tr:=.need (.call 113 [(WK (1))] [(some 3)]) (.call ⟨.value (.func 113),#[(.const (I3 (1)))],#[3]⟩) 46 true EE
def CH:Tr:=.need (.call 65 [(.agg [(U 9 0),(U 9 1),(U 9 2)])] [(some 3)]) (.call ⟨.value (.func 65),#[(.tmp 97)],#[46]⟩) 46 false Hl
def Dp:Tr:=.need (.call 66 [(W 11 0),(W 25 0)] [none]) (.call ⟨.value (.func 66),#[(.tmp 80),(.tmp 93)],#[98,98]⟩) 98 true CH
def Hs:Tr:=.need (.call 125 [(W 12 0),(.agg [(U 24 0),(U 24 1),(U 24 2)])] [none]) (.call ⟨.value (.func 125),#[(.tmp 81),(.tmp 92)],#[98,46]⟩) 98 true Dp
def EC:Tr:=.need (.call 112 [(.agg [(U 22 0),(U 22 1),(U 22 2)]),(.agg [(U 23 0),(U 23 1),(U 23 2)])] [(some 3)]) (.call ⟨.value (.func 112),#[(.tmp 87),(.tmp 91)],#[46,46]⟩) 46 false Hs
def EU:Tr:=.need (.call 79 [(W 18 0),(.agg [(U 9 0),(U 9 1),(U 9 2)])] [(some 3)]) (.call ⟨.value (.func 79),#[(.tmp 88),(.tmp 90)],#[98,46]⟩) 46 false EC
def Cl:Tr:=.need (.call 86 [(.agg [(U 16 0),(U 16 1),(U 16 2)]),(.agg [(U 21 0),(U 21 1),(U 21 2)])] [(some 3)]) (.call ⟨.value (.func 86),#[(.tmp 82),(.tmp 86)],#[46,46]⟩) 46 false EU
def FD:Tr:=.need (.call 79 [(W 17 0),(.agg [(U 9 0),(U 9 1),(U 9 2)])] [(some 3)]) (.call ⟨.value (.func 79),#[(.tmp 83),(.tmp 85)],#[98,46]⟩) 46 false Cl
def Gt:Tr:=.split (.u 20 0) GM FD
def Gn:Tr:=.need (.prim [(W 19 0),(W 13 0)] none) (.binOp .lss 3 (.tmp 73) (.tmp 72) 3) 4 false Gt
def DH:Tr:=.loop 2 [(.w (W 11 0)),(.w (W 12 0)),(.w (WK (0)))] Gn
def DD:Tr:=.need (.prim [(W 15 0)] (some 3)) (.load 46 (.tmp 68)) 46 false DH
def CE:Tr:=.need (.prim [(W 9 3),(W 13 0)] none) (.indexAddr 28 (.tmp 63) (.tmp 65)) 0 false DD
def Gf:Tr:=.back 0 [(.w (W 11 0)),(.w (W 12 0)),(.w (W 15 0))]
def Gk:Tr:=.need (.prim [(W 6 0),(WK (1))] none) (.binOp .add 3 (.tmp 58) (.const (I3 (1))) 3) 3 false Gf
def HT:Tr:=.split (.u 14 0) CE Gk
def Ji:Tr:=.need (.prim [(W 13 0),(W 10 0)] none) (.binOp .lss 3 (.tmp 65) (.tmp 64) 3) 0 false HT
def Lh:Tr:=.loop 1 [(.w (W 4 0)),(.w (W 5 0)),(.w (WK (0)))] Ji
def HR:Tr:=.need (.prim [(W 9 3)] none) (.call ⟨.builtin .len,#[(.tmp 63)],#[28]⟩) 3 false Lh
def Na:Tr:=.need (.prim [(W 8 0)] (some 4)) (.load 97 (.tmp 60)) 97 false HR
def Iy:Tr:=.need (.prim [(W 0 0),(W 6 0)] none) (.indexAddr 90 (.tmp 56) (.tmp 58)) 0 false Na
def FB:Tr:=.ret [(W 4 0),(WK (0))]
def MG:Tr:=.split (.u 7 0) Iy FB
def JI:Tr:=.need (.prim [(W 6 0),(W 3 0)] none) (.binOp .lss 3 (.tmp 58) (.tmp 57) 3) 0 false MG
def Iq:Tr:=.loop 0 [(.w (W 1 0)),(.w (W 2 0)),(.w (WK (0)))] JI
def HQ:Tr:=.need (.prim [(W 0 0)] none) (.call ⟨.builtin .len,#[(.tmp 56)],#[90]⟩) 3 false Iq
theorem TQ:bP prog 105 (fun _=>none) (aO [1,1,1,1,1,1] (aW f45)) [(0, .v none),(9, .v none),(10, .v none)] f45.results.toList none true=HQ:=by kernel_rfl
theorem Ow (p q:List Rat) (A:Nat) (hp:∀ a∈p,Fit A a) (hq:∀ a∈q,Fit A a) (hl:p.length<=9) (hl2:q.length<=9) (hA:A<=100000000):aQ prog 64 [.one (sQ p), .one (sQ q)] (.ret [.one (sQ (eF p q))]):=by
 refine VK p q (Om p) (Om q) (2^A) (2^A) (20*A+20) (BT p) (BT q) (fun a ha=>tH (hp a ha) (yG ha)) (fun a ha=>tH (hq a ha) (yG ha)) ?_;have h1:Om p<=2^(9*A):=Nat.le_trans (BM hp) (Nat.pow_le_pow_right (by omega) (by rw [Nat.mul_comm];exact Nat.mul_le_mul_right _ hl));have h2:Om q<=2^(9*A):=Nat.le_trans (BM hq) (Nat.pow_le_pow_right (by omega) (by rw [Nat.mul_comm];exact Nat.mul_le_mul_right _ hl2));have hx:1<=2^A:=Nat.one_le_two_pow;have h3:2^A+1<=2^(A+1):=by rw [Nat.pow_succ];omega
 have h4:(p.length+1)*((2^A+1)*(2^A+1))<=2^(2*A+6):=by
  have:=Nat.mul_le_mul (show p.length+1<=2^4 by omega) (Nat.mul_le_mul h3 h3);rw [<-Nat.pow_add,<-Nat.pow_add] at this
  rwa [show 4+(A+1+(A+1))=2*A+6 by omega] at this
 have:=Nat.mul_le_mul (Nat.mul_le_mul h1 h2) h4;rw [<-Nat.pow_add,<-Nat.pow_add] at this;exact Nat.lt_of_le_of_lt this (Nat.pow_lt_pow_right (by omega) (by omega))
def TP (p:List Rat):Nat->List Rat
 | 0=>p
 | r+1=>cM (TP p r)
theorem BP (p:List Rat):∀ r,(TP p r).length<=p.length
 | 0=>aY _
 | r+1=>by have:=lR (TP p r);have:=BP p r;rw [TP];omega
theorem Pw {A:Nat} {p:List Rat} (hA:1<=A) (hl:p.length<=9) (h:∀ a∈p,Fit A a):∀ r,∀ a∈TP p r,Fit (A+12*r) a
 | 0=>h
 | r+1=>fun a ha=>(pZ (by omega) (Pw hA hl h r) (by have:=BP p r;omega) a ha).mono (by omega)
def Ae (x v:Rat) (r:Nat) (s:List Rat×List Rat):Rat:=yQ (v-nK (TP s.1 r) x) (nK (TP s.2 r) x)
def KR (x v:Rat) (r:Nat) (s:List Rat×List Rat):List Rat×List Rat:=(iM s.1 (wF s.2 (Ae x v r s)),eF s.2 [-x,((1:Int):Rat)])
def jC (x:Rat) (vs:List Rat) (s:List Rat×List Rat):Nat->List Rat×List Rat
 | 0=>s
 | r+1=>KR x (vs.getD r 0) r (jC x vs s r)
def tQ (l:List Jt):Nat->List Rat×List Rat
 | 0=>([],[1])
 | j+1=>jC (kG l j).1 (kG l j).2 (tQ l j) (kG l j).2.length
structure SmS (A:Nat) (s:List Rat×List Rat):Prop where
 l1:s.1.length<=9
 l2:s.2.length<=9
 f1:∀ a∈s.1,Fit A a
 f2:∀ a∈s.2,Fit A a
theorem WZ {p:List Rat} {A:Nat} {x:Rat} (hA:1<=A) (hl:p.length<=9) (hp:∀ a∈p,Fit A a) (hx:Fit A x):Fit (9*(2*A+1)+1) (nK p x):=
 (oT hA hx p hp).mono (by have:=Nat.mul_le_mul_right (2*A+1) hl;omega)
theorem Wt {p:List Rat} {A:Nat} (hl:p.length<=9):p.length*(2*A+2)<=9*(2*A+2):=Nat.mul_le_mul_right _ hl
set_option maxHeartbeats 1000000 in
theorem bd6 (l:List Jt) (A:Nat) (J:JOk A l) (hst:∀ j r,j<l.length->r<=(kG l j).2.length->SmS A (jC (kG l j).1 (kG l j).2 (tQ l j) r)):vc prog (fun o=>cG o (.ret [.one (sQ (tQ l l.length).1), .one (.int .i64 0)])) (bP prog 105 (fun _=>none) (aO [1,1,1,1,1,1] (aW f45)) [(0, .v none),(9, .v none),(10, .v none)] f45.results.toList none true) ([.v (.one (sJ l)), .v (.one (sQ [])), .v (.one (sQ [1]))].map In.env) []:=by
 rw [TQ];dsimp only [List.map,In.env,aE,aF];have hl:=J.hl;have hA:=J.hA;have hA1:=J.hA1;apply vn (aM Pa (aK _)) rfl;refine bZ {j:Nat // j<=l.length} (fun g=>[.one (sQ (tQ l g.1).1), .one (sQ (tQ l g.1).2), .one (.int .i64 (g.1:Int))]) (fun g=>l.length-g.1) ⟨0,dD _⟩ aX.rfl (fun _=>rfl) ?_;rintro ⟨j,hj⟩;dsimp only [aE,aF] at hj ⊢;apply vn bQ rfl;refine vs _ rfl ?_ ?_<;>intro h3
 .have hj':j<l.length:=by omega
  obtain ⟨fx,hv1,hv6,fv⟩:=J.el _ (BK hj');have hsj:=fun r hr=>hst j r hj' hr;apply vn (aH (f:=yV) (xs:=l) Pa (m:=j) (by omega) (Int.toNat_natCast j) (Ox hj')) rfl;apply vn (aR aB0 (by decide) (by simp) (.inl rfl)) rfl;apply vn (aM bG (aK _)) rfl;dsimp only [aE,aF];refine bZ {r:Nat // r<=(kG l j).2.length} (fun g=>[.one (sQ (jC (kG l j).1 (kG l j).2 (tQ l j) g.1).1), .one (sQ (jC (kG l j).1 (kG l j).2 (tQ l j) g.1).2), .one (.int .i64 (g.1:Int))]) (fun g=>(kG l j).2.length-g.1) ⟨0,dD _⟩ aX.rfl (fun _=>rfl) ?_;rintro ⟨r,hr⟩;dsimp only [aE,aF] at hr ⊢;apply vn bQ rfl;refine vs _ rfl ?_ ?_<;>intro h9
  .have hr':r<(kG l j).2.length:=by omega
   obtain ⟨s1,s2,s3,s4⟩:=hsj r hr;have hnx:jC (kG l j).1 (kG l j).2 (tQ l j) (r+1)=KR (kG l j).1 ((kG l j).2.getD r 0) r (jC (kG l j).1 (kG l j).2 (tQ l j) r):=rfl;generalize jC (kG l j).1 (kG l j).2 (tQ l j) r=s at s1 s2 s3 s4 hnx ⊢;apply vn (aH bG (m:=r) (by omega) (Int.toNat_natCast r) (aI hr')) rfl;apply vn (aR cF (by decide) (by simp) (.inl rfl)) rfl;refine bZ {k:Nat // k<=r} (fun g=>[.one (sQ (TP s.1 g.1)), .one (sQ (TP s.2 g.1)), .one (.int .i64 (g.1:Int))]) (fun g=>r-g.1) ⟨0,dD _⟩ aX.rfl (fun _=>rfl) ?_;rintro ⟨k,hk⟩;have k1:=BP s.1 k;have k2:=BP s.2 k;have k3:=Pw hA1 s1 s3 k;have k4:=Pw hA1 s2 s4 k;dsimp only [aE,aF] at hk ⊢;apply vn bQ rfl;refine vs _ rfl ?_ ?_<;>intro h14
   .apply aA (zK (TP s.1 k) (A+12*k) k3) rfl;apply aA (zK (TP s.2 k) (A+12*k) k4) rfl;apply vn (aB (by omega) (by omega)) rfl;dsimp only [aE,aF];exact bD rfl ⟨⟨k+1,by omega⟩,aX.rfl,by show r-(k+1)<r-k;omega⟩
   obtain rfl:r=k:=by omega
   have fv':=aC fv r hA1;have e1:=WZ (x:=(kG l j).1) (by omega) (by omega) k3 (fx.mono (by omega));have e2:=WZ (x:=(kG l j).1) (by omega) (by omega) k4 (fx.mono (by omega));have n1:=Wt (A:=A+12*r) (show (TP s.1 r).length<=9 by omega);have n2:=Wt (A:=A+12*r) (show (TP s.2 r).length<=9 by omega);apply aA (tD (TP s.1 r) (kG l j).1 (A+12*r) k3 (fx.mono (by omega))) rfl;apply aA (jF _ _ A _ fv' e1) rfl;apply aA (tD (TP s.2 r) (kG l j).1 (A+12*r) k4 (fx.mono (by omega))) rfl;apply aA (iZ _ _ _ _ (fv'.sub e1) e2) rfl;dsimp only [aE,aF];have fc:Fit (100*A+10000) (Ae (kG l j).1 ((kG l j).2.getD r 0) r s):=(kO (fv'.sub e1) e2).mono (by omega);rw [show yQ ((kG l j).2.getD r 0-nK (TP s.1 r) (kG l j).1) (nK (TP s.2 r) (kG l j).1)=Ae (kG l j).1 ((kG l j).2.getD r 0) r s from rfl];apply aA (ED s.2 _ A (100*A+10000) hA1 s4 fc) rfl;apply aA (Fi s.1 (wF s.2 (Ae (kG l j).1 ((kG l j).2.getD r 0) r s)) A (A+(100*A+10000)) s3 (Qo hA1 s4 fc) (by have:=PO s.2 (Ae (kG l j).1 ((kG l j).2.getD r 0) r s);omega) hA1) rfl;apply aA (Fj (kG l j).1) rfl;apply aA (dE 1) rfl;dsimp only [aE,aF];apply eK (us:=[qC (-(kG l j).1),qC ((1:Int):Rat)]) rfl
   apply aA (Ow s.2 [-(kG l j).1,((1:Int):Rat)] A s4 (fun a ha=>by
    simp only [List.mem_cons,List.not_mem_nil,or_false] at ha;rcases ha with rfl | rfl
    .exact fx.neg
    .exact Fit.int (n:=1) hA1 (Nat.lt_of_lt_of_le (show 1<2^1 by decide) (Nat.pow_le_pow_right (by omega) hA1))) s2 (by simp) (by omega)) rfl
   apply vn (aB (by omega) (by omega)) rfl;dsimp only [aE,aF];exact bD rfl ⟨⟨r+1,by omega⟩,by rw [hnx];exact aX.rfl,by show (kG l j).2.length-(r+1)<(kG l j).2.length-r;omega⟩
  apply vn (aB (by omega) (by omega)) rfl;dsimp only [aE,aF];exact bD rfl ⟨⟨j+1,by omega⟩,by rw [tQ,show (kG l j).2.length=r by omega];exact aX.rfl,by show l.length-(j+1)<l.length-j;omega⟩
 rw [show l.length=j by omega];exact aL rfl
open Go Go.Proofs Go.RowKit Tryz Ord
attribute [local go_sem] Oper.semAt_some
set_option maxRecDepth 100000 in
theorem Vg (l:List Jt) (A:Nat) (J:JOk A l) (hst:∀ j r,j<l.length->r<=(kG l j).2.length->SmS A (jC (kG l j).1 (kG l j).2 (tQ l j) r)) :
  aQ prog 45 [.one (sJ l)] (.ret [.one (sQ (tQ l l.length).1), .one (.int .i64 0)]):=by
 refine ⟨bJ (by kernel_rfl),fun M w vs hM hv=>?_⟩;obtain ⟨v0,rfl,_⟩:=pQ hv;refine calls_of_wp func45 rfl ?_;simp only [ntmps45,List.size_toArray,List.length_cons,List.length_nil,Nat.reduceAdd,Nat.reduceSub,Array.replicate_succ,Array.replicate_zero,List.push_toArray,List.append_toArray,List.nil_append,List.cons_append];refine Wm (n:=5) (N:=105) (ins:=[(0, .v none)]) (xs:=[.v (.one (sJ l))]) fo ⟨rfl,trivial⟩ (aP6 l A J) (by kernel_rfl) hM rfl rfl hv ?_ (by intro c v a' w' h;cases h);intro e a1 w1 rs us hrs hex hb1 hsz1 hdf1 hr1 hrep1;cases hrs;cases e with
 | exit id=>cases hex
 | ret=>cases hex
 | normal=>
 have huse:=bU hr1;subst huse;obtain ⟨e0,e9,e10,_⟩:=hrep1
 have e9:(sQ []).rep M w1 (a1.tmps.getD 9 Go.undef):=by
  rw [show a1.tmps.getD 9 Go.undef = .slice none 0 0 from e9.1];exact ⟨none,0,rfl,by simp,by simp [maxLen], .inl rfl⟩
 have hM1:cK M w1:=bW hM hb1;clear hr1 hex hv;show Code.wp _ (wZ 5 _) _ _ _;simp only [wZ];refine xO jB.wp (n0:=w1.heap.size) (N:=105) (ins:=[(0, .v none),(9, .v none),(10, .v none)]) (xs:=[.v (.one (sJ l)), .v (.one (sQ [])), .v (.one (sQ [1]))]) fo ⟨rfl,rfl,rfl,trivial⟩ (vD (bd6 l A J hst)) (by kernel_rfl) (aY _) hM1 hsz1 hdf1 ⟨e0,e9,e10,trivial⟩ ?_;intro e a2 w2 us2 he hb2 hsz2 hdf2 hr2 hrep2;have hres:=fA f45 a2.tmps us2 hr2;have hpost:Below w.heap.size w w2/\∃ vs,Ending.returned (pack us2) = .returned (pack vs)/\cD M w2 [.one (sQ (tQ l l.length).1), .one (.int .i64 0)] vs:=⟨hb1.trans (hb2.mono hb1.size),us2,rfl,hrep2⟩
 cases e with
 | exit id=>cases he
 | normal=>exact bodyPost_end hres hdf2 hpost
 | ret=>exact bodyPost_ret hres hdf2 hpost
end Go.Sy
