/- Part. -/
import Derived.Test.YtdmcadckdnnglaaGreatDoorPb
set_option linter.all false
namespace Go.Sy
open Go Go.Proofs Tryz Ord
def aT4:Tr:=.split (.u 5 0) (fP 0 0 4 0 32 12 13 (eS 6 0 none 72 14 (.need (.callv (.u 1 0) [(W 7 0)] [none]) (.call ⟨.value (tT 11),#[(tT 15)],#[72]⟩) 4 true (.split (.u 8 0) (.ret [(W 4 0)]) (bA .add 3 8 1 4 0 3 (.back 0 [lV 3 0,lV 9 0])))))) (.ret [(WK (-1))])
def aL1:Tr:=cV 0 0 6 32 (.loop 0 [lK 0,lK 0] (bM .lss 3 8 7 4 0 2 0 0 aT4))
theorem QX:aL prog f180 (fun _=>none) [.v none, .v none]=aL1:=by kernel_rfl
def aL7:Tr:=aM 180 [(W 0 0),(W 1 0)] [none] [5,6] [32,165] 3 true (bA .geq 3 7 0 2 0 4 (.ret [(W 3 0)]))
theorem HI:aL prog f93 (fun _=>none) [.v none, .v none]=aL7:=by kernel_rfl
def aV5:Tr:=aM 95 [(W 0 0)] [none] [3] [72] 3 true (bA .gtr 3 4 40 1 0 4 (.ret [(W 2 0)]))
theorem wI:aL prog f94 (fun _=>none) [.v none]=aV5:=by kernel_rfl
def DL:Tr:=.ret [(WK 2)]
def UC:Tr:=.ret [(WK 0)]
def aj9:Tr:=cV 0 0 17 32 (bA .sub 3 18 1 6 0 3 (fP 0 0 7 0 32 16 19 (eS 8 0 none 72 20 (aM 95 [(W 9 0)] [none] [21] [72] 3 false (bA .lss 3 22 0 10 0 4 (.split (.u 11 0) DL UC))))))
def aP2:Tr:=bA .lss 3 4 2 1 0 4 (.split (.u 2 0) DL (cV 0 0 7 32 (bA .gtr 3 8 5 3 0 4 (.split (.u 4 0) DL (.need (.call 93 [(W 0 0),(.one (.iI 94 []))] [none]) (.call ⟨.value (.func 93),#[(tT 12),(.func 94)],#[32,165]⟩) 4 false (.split (.u 5 0) DL aj9))))))
def aI1:Tr:=cV 0 0 3 32 aP2
theorem Ak:aL prog f19 (fun _=>none) [.v none]=aI1:=by kernel_rfl
def Zt:Tr:=.ret [(W 8 0)]
def aW3:Tr:=cV 0 0 6 32 (bA .sub 3 7 1 2 0 3 (fP 0 0 3 0 32 5 8 (eS 4 0 none 72 9 (aM 181 [(W 5 0),(G3 1)] [(some 3)] [10,11] [72,39] 39 false (aM 35 [(G3 6)] [none] [12] [39] 3 true (bA .neq 3 13 0 7 0 4 Zt))))))
theorem Md:aL prog f97 (fun _=>none) [.v none, .v (some 3)]=aW3:=by kernel_rfl
def aU1:Tr:=cV 0 0 12 32 (bA .sub 3 13 1 4 0 3 (bM .neq 3 10 14 3 0 5 0 4 (.split (.u 6 0) DL (aM 97 [(W 0 0),(.agg [(U 0 1),(U 0 2),(U 0 3)])] [none] [19,21] [32,39] 4 false (.need (.prim [(W 7 0)] none) (.unOp .not 4 (tT 22)) 4 false (.split (.u 8 0) DL UC))))))
def aK8:Tr:=aM 19 [(W 0 0)] [none] [4] [32] 55 false (bA .neq 55 5 0 1 0 4 (.split (.u 2 0) DL (cV 0 4 9 40 aU1)))
theorem Sc:aL prog f21 (fun _=>none) [.v (some 5)]=aK8:=by kernel_rfl
abbrev cQ (p:List Rat):List aE:=[sQ p]
abbrev cR (p:List RQ):List aE:=[sR p]
abbrev eQ (e:List (List Rat)):aE:=.slice 1 (e.map cQ)
abbrev eR (e:List (List RQ)):aE:=.slice 1 (e.map cR)
def Iv {α:Type} (c:α→Bool):List α→Nat→Int
 | [],_=>-1
 | x::xs,i=>if c x then (i:Int) else Iv c xs (i+1)
theorem IZ {α:Type} (c:α→Bool):∀ (l:List α) (i:Nat),decide (0≤Iv c l i)=l.any c
 | [],i=>rfl
 | x::xs,i=>by
   simp only [Iv,List.any_cons];split
   ·rename_i h;rw [h];simp
   ·rename_i h;rw [IZ c xs (i+1)];simp [h]
theorem TT (e:List (List Rat)) (g:Nat) (c:List Rat→Bool) (hc:∀ p∈e,aN prog g [.one (sQ p)] (.ret [.one (.bool (c p))])) (hs:e.length<1099511627776):aN prog 180 [(.one (eQ e):aF),(.one (.iI g []):aF)] (.ret [.one (.int .i64 (Iv c e 0))]):=by
 refine cM func180 QX ?_;apply vn (aQ AZ (aP _)) rfl;dsimp only [aA,aB];refine bF {i:Nat // i≤e.length∧Iv c e 0=Iv c (e.drop i) i} (fun g=>[.one (.int .i64 0), .one (.int .i64 g.1)]) (fun g=>e.length-g.1) ⟨0,bR _,rfl⟩ aO.rfl (fun _=>rfl) ?_;rintro ⟨i,hi,hf⟩;dsimp only [aA,aB] at hi hf ⊢;apply vn bE rfl;dsimp only [aA,aB];refine vs _ rfl ?_ ?_<;>intro h3
 ·obtain ⟨p,hp⟩:∃ p,e[i]? = some p:=⟨_,bI (by omega)⟩
  have hdrop:e.drop i=p::e.drop (i+1):=by
   rw [List.drop_eq_getElem_cons (by omega),(dS.1 hp).2]
  rw [hdrop,Iv] at hf;apply vn (aW AZ hp) rfl;dsimp only [aA,aB];apply vn (bG Jt) rfl;dsimp only [aA,aB];apply tV (f:=g) (caps:=[]) rfl (hc p (cS hp)) rfl;dsimp only [aA,aB];refine sG (c p) rfl (fun h7=>?_) (fun h7=>?_)
  ·rw [hf,if_pos h7];exact aK rfl
  apply vn (aD) rfl;dsimp only [aA,aB];exact aR rfl ⟨⟨i+1,by omega,by rw [hf,if_neg (by simp [h7])]⟩,aO.rfl,by show e.length-(i+1)<e.length-i;omega⟩
 rw [hf,List.drop_eq_nil_of_le (by omega),Iv];exact aK rfl
theorem Jg (e:List (List Rat)) (g:Nat) (c:List Rat→Bool) (hc:∀ p∈e,aN prog g [.one (sQ p)] (.ret [.one (.bool (c p))])) (hs:e.length<1099511627776):aN prog 93 [(.one (eQ e):aF),(.one (.iI g []):aF)] (.ret [.one (.bool (e.any c))]):=by
 refine cM func93 HI ?_;apply aC (TT e g c hc hs) rfl;dsimp only [aA,aB];apply vn fJ rfl;dsimp only [aA,aB];rw [←IZ c e 0];exact aK rfl
def Ge (p:List Rat):Bool:=decide (41<dY zr p)
theorem wP (p:List Rat) (hs:p.length<1099511627776):aN prog 94 [(.one (sQ p):aF)] (.ret [.one (.bool (Ge p))]):=by
 refine cM func94 wI ?_;apply aC (Aa p hs) rfl;dsimp only [aA,aB];apply vn eE rfl;dsimp only [aA,aB];refine aK ?_;rw [Ge,show decide (41<dY zr p)=decide ((40:Int)<(dY zr p:Int)-1) by rw [decide_eq_decide];omega];rfl
def AV (e:List (List Rat)):Bool:=decide (2≤e.length∧e.length≤5∧(∀ p∈e,dY zr p≤41)∧∀ p,e[e.length-1]? = some p→dY zr p≠0)
theorem qZ (e:List (List Rat)) (hs:e.length<1099511627776) (hp:∀ p∈e,p.length<1099511627776):aN prog 19 [(.one (eQ e):aF)] (.ret [.one (.int .i64 (if AV e then 0 else 2))]):=by
 refine cM func19 Ak ?_;apply vn (aQ AZ (aP _)) rfl;dsimp only [aA,aB];apply vn bE rfl;dsimp only [aA,aB];refine vs _ rfl ?_ ?_<;>intro h2
 ·rw [if_neg (by unfold AV;rw [decide_eq_true_iff];omega)];exact aK rfl
 apply vn (aQ AZ (aP _)) rfl;dsimp only [aA,aB];apply vn eE rfl;dsimp only [aA,aB];refine vs _ rfl ?_ ?_<;>intro h6
 ·rw [if_neg (by unfold AV;rw [decide_eq_true_iff];omega)];exact aK rfl
 apply aC (Jg e 94 Ge (fun p hp'=>wP p (hp p hp')) hs) rfl;dsimp only [aA,aB];refine sG (e.any Ge) rfl (fun h9=>?_) (fun h9=>?_)
 ·rw [if_neg (by
   unfold AV;rw [decide_eq_true_iff];rintro ⟨_,_,h,_⟩;obtain ⟨p,hp1,hp2⟩:=List.any_eq_true.1 h9;have:=h p hp1;simp [Ge] at hp2;omega)];exact aK rfl
 apply vn (aQ AZ (aP _)) rfl;dsimp only [aA,aB];apply vn (aI) rfl;dsimp only [aA,aB];obtain ⟨p,hpl⟩:∃ p,e[e.length-1]? = some p:=⟨_,bI (by omega)⟩
 apply vn (aW AZ hpl) rfl;dsimp only [aA,aB];apply vn (bG Jt) rfl;dsimp only [aA,aB];apply aC (Aa p (hp p (cS hpl))) rfl;dsimp only [aA,aB];apply vn bE rfl;dsimp only [aA,aB];refine vs _ rfl ?_ ?_<;>intro h17
 ·rw [if_neg (by
   unfold AV;rw [decide_eq_true_iff];rintro ⟨_,_,_,h⟩;have:=h p hpl;omega)];exact aK rfl
 rw [if_pos (by
  unfold AV;rw [decide_eq_true_iff];refine ⟨by omega,by omega,fun p' hp'=>?_,fun p' hp'=>?_⟩
  ·have:=List.any_eq_false.1 h9 p' hp';simp [Ge] at this;omega
  ·rw [hpl] at hp';simp only [aJ] at hp';subst hp';omega)];exact aK rfl
structure UX (e:List (List Rat)):Prop where
 l:e.length≤64
 p:∀ p∈e,p.length≤64∧∀ q∈p,Fit 513 q
def sF (e:List (List Rat)) (c:Rat):Bool:=decide (∀ p,e[e.length-1]? = some p→lF p c≠0)
theorem BG (e:List (List Rat)) (c:Rat) (he:UX e) (h0:0<e.length) (hc:Fit 513 c):aN prog 97 [(.one (eQ e):aF),(qT c:aF)] (.ret [.one (.bool (sF e c))]):=by
 refine cM func97 Md ?_;have hl:=he.l;apply vn (aQ AZ (aP _)) rfl;dsimp only [aA,aB];apply vn (aI) rfl;dsimp only [aA,aB];obtain ⟨p,hpl⟩:∃ p,e[e.length-1]? = some p:=⟨_,bI (by omega)⟩
 obtain ⟨hp1,hp2⟩:=he.p p (cS hpl);apply vn (aW AZ hpl) rfl;dsimp only [aA,aB];apply vn (bG Jt) rfl;dsimp only [aA,aB];apply aC (Xp p c 513 hp2 hc) rfl;dsimp only [aA,aB];apply aC (pA _) rfl;dsimp only [aA,aB];apply vn gI rfl;dsimp only [aA,aB];refine aK ?_
 have:sF e c=decide ((lF p c).num.sign≠0):=by
  unfold sF;rw [decide_eq_decide]
  constructor
  ·intro h hh;exact h p hpl (sign_zero.1 hh)
  ·intro h p' hp' hh;rw [hpl] at hp';simp only [aJ] at hp';subst hp';exact h (sign_zero.2 hh)
 rw [this];rfl
def okF (e:List (List Rat)) (c:Rat) (y:List Rat):Bool:=AV e&&decide (y.length=e.length-1)&&sF e c
theorem mB (e:List (List Rat)) (c:Rat) (y:List Rat) (he:UX e) (hc:Fit 513 c) (hy:y.length<1099511627776:=by omega):aN prog 21 [(.agg [eQ e,dT c.num.natAbs, .bool (decide (c.num<0)),dT (c.den-1),sQ y]:aF)] (.ret [.one (.int .i64 (if okF e c y then 0 else 2))]):=by
 refine cM func21 Sc ?_;have hl:=he.l;have hp:=he.p;apply aC (qZ e (by omega) (fun p hp'=>by have:=(hp p hp').1;omega)) rfl;dsimp only [aA,aB];apply vn gI rfl;dsimp only [aA,aB];have h2':decide ((if AV e=true then (0:Int) else 2)≠0) = !AV e:=by cases AV e<;>rfl
 rw [h2'];refine sG (!AV e) rfl (fun h2=>?_) (fun h2=>?_)
 ·rw [if_neg (by simp at h2;simp [okF,h2])];exact aK rfl
 have h2:AV e=true:=by simpa using h2
 have hlen:2≤e.length:=by unfold AV at h2;rw [decide_eq_true_iff] at h2;exact h2.1
 apply vn (aQ rL (aP _)) rfl;dsimp only [aA,aB];apply vn (aQ AZ (aP _)) rfl;dsimp only [aA,aB];apply vn (aI) rfl;dsimp only [aA,aB];apply vn gI rfl;dsimp only [aA,aB];refine vs _ rfl ?_ ?_<;>intro h8
 ·rw [if_neg (by simp [okF];intro _ _;omega)];exact aK rfl
 apply aC (BG e c he (by omega) hc) rfl;dsimp only [aA,aB];apply vn nD rfl;dsimp only [aA,aB];refine sG (!sF e c) rfl (fun h12=>?_) (fun h12=>?_)
 ·rw [if_neg (by simp at h12;simp [okF,h12])];exact aK rfl
 rw [if_pos (by simp at h12;simp [okF,h12,h2];omega)];exact aK rfl
open Go Go.Proofs Tryz Ord
def uY (e:List (List RQ)):List (List Rat):=e.map fun p=>p.map RQ.q
theorem MB (e:List (List RQ)):(uY e).length=e.length:=aP _
theorem aS7 (p:List RQ):dY Lu p=dY zr (p.map RQ.q):=(Dx (z:=zr) RQ.q p).symm
open Go Go.Proofs Tryz Ord
def aR2:Tr:=.need (.idx 5 (.u 3 0)) (.indexAddr 40 (tT 14) (tT 15)) 0 false (.need (.strow 5 3 (.u 3 0) 0 [(.u 7 0),(.u 7 1),(.u 7 2)]) (.store 39 (tT 26) (tT 21)) 0 false (.need (.idx 9 (.u 4 0)) (.indexAddr 40 (tT 16) (tT 17)) 0 false (.need (.strow 9 3 (.u 4 0) 0 [(.u 8 0),(.u 8 1),(.u 8 2)]) (.store 39 (tT 27) (tT 25)) 0 false (bA .add 3 10 1 3 0 3 (bA .sub 3 12 1 4 0 3 (.back 0 [lV 11 0,lV 12 0, .row 10]))))))
def aQ8:Tr:=.loop 0 [lK 0,lV 2 0, .row 0] (bM .lss 3 7 8 3 0 4 0 4 (.split (.u 6 0) (.need (.idx 5 (.u 4 0)) (.indexAddr 40 (tT 18) (tT 19)) 0 false (.need (.ldrow 5 (.u 4 0) 0 3 true) (.load 39 (tT 20)) 39 false (.need (.idx 5 (.u 3 0)) (.indexAddr 40 (tT 22) (tT 23)) 0 false (.need (.ldrow 5 (.u 3 0) 0 3 true) (.load 39 (tT 24)) 39 false aR2)))) (.retr [] 5)))
def aD9:Tr:=.need (.lenrow 0) (.call ⟨.builtin .len,#[(tT 4)],#[40]⟩) 3 false (bA .sub 3 5 1 1 0 3 aQ8)
theorem Lx:HG prog f92 (fun _=>none) [.lent 39 3]=aD9:=by kernel_rfl
def RK:Tr:=.back 0 [lV 10 0, .row 9]
def Qh:Tr:=.ret [(W 5 0)]
def aM8:Tr:=.split (.u 4 0) (fP 0 0 2 0 242 6 8 (eS 5 0 none 2 10 (aM 68 [(W 6 0)] [(some 3)] [13] [2] 39 true (.need (.lit 3 [[(.u 7 0),(.u 7 1),(.u 7 2)]]) (.buildSlice 72 1 #[(0,(tT 14))]) 72 false (.need (.app 3 56 (some 3) none (some 8)) (.call ⟨.builtin .append,#[(tT 12),(tT 15)],#[72,72]⟩) 72 false (bA .add 3 8 1 2 0 3 RK)))))) (aM 34 [(.one (.c (.sr 3 3)))] [none] [18] [72] 72 true Qh)
def aI9:Tr:=cV 0 0 6 242 (.loop 0 [lK 0, .nilrow] (bM .lss 3 8 7 2 0 1 0 0 aM8))
theorem JE:aL prog f91 (fun _=>none) [.v none]=aI9:=by kernel_rfl
def aW6:Tr:=.split (.u 4 0) (fP 0 0 1 0 242 12 13 (eS 5 0 none 2 14 (aM 50 [(W 6 0)] [(some 4)] [15] [2] 49 true (.need (.lit 4 [[(.u 7 0),(.u 7 1),(.u 7 2),(.u 7 3)]]) (.buildSlice 167 1 #[(0,(tT 16))]) 167 false (.need (.app 4 64 (some 2) none (some 8)) (.call ⟨.builtin .append,#[(tT 11),(tT 17)],#[167,167]⟩) 167 false (bA .add 3 9 1 1 0 3 RK)))))) (aM 144 [(.one (.c (.sr 4 2)))] [none] [19] [167] 167 true Qh)
def aU5:Tr:=.loop 0 [lK 0, .nilrow] (cV 0 0 6 242 (bM .lss 3 5 7 1 0 3 0 4 aW6))
theorem JC:aL prog f99 (fun _=>none) [.v none]=aU5:=by kernel_rfl
def ZN:Tr:=.ret [(.agg [tN,tN,(tE (.bool false)),tN,tN]),(WK 2)]
def ZG:Tr:=.ret [(.agg [tN,tN,(tE (.bool false)),tN,tN]),(WK 3)]
def al3:Tr:=aM 91 [(.one (.c (.sr 1 9)))] [none] [30] [242] 72 false (.need (.lit 1 [[(.k (.int .i64 1))]]) (.buildSlice 242 1 #[(0,(.const (I3 1)))]) 242 false (aM 91 [(.one (.c (.sr 1 11)))] [none] [32] [242] 72 false (.need (.lit 1 [[(.u 10 0)],[(.u 12 0)]]) (.buildSlice 32 2 #[(0,(tT 31)),(1,(tT 33))]) 32 false (.need (.call 68 [(WK 1)] [(some 3)]) (.call ⟨.value (.func 68),#[(.const (I3 1))],#[2]⟩) 39 false (.need (.lit 3 [[(.u 14 0),(.u 14 1),(.u 14 2)]]) (.buildSlice 40 1 #[(0,(tT 35))]) 40 false (.ret [(.agg [(.c (.sr 1 13)),tN,(tE (.bool false)),tN,(.c (.sr 3 15))]),(WK 0)]))))))
def an6:Tr:=.need (.lit 1 [[(.u 11 0)],[(.k (.slice none 0 0))],[(.u 13 0)]]) (.buildSlice 32 3 #[(0,(tT 41)),(1,(.const (.slice none 0 0))),(2,(tT 43))]) 32 false (.need (.prim [(W 0 0),(.one (.c (.k (.int .u8 3))))] none) (.binOp .eql 5 (tT 104) (.const (.int .u8 3)) 5) 4 false (.split (.u 15 0) (.need (.rop 7 39 3 none [] [] []) (.call ⟨.value (.func 92),#[(tT 111)],#[40]⟩) 0 true (.ret [(.agg [(.c (.sr 1 14)),tN,(tE (.bool false)),tN,(.c (.sr 3 16))]),(WK 0)])) (.need (.prim [(W 0 0),(.one (.c (.k (.int .u8 7))))] none) (.binOp .geq 5 (tT 107) (.const (.int .u8 7)) 5) 4 false (.split (.u 16 0) (.need (.rop 7 39 3 none [] [] []) (.call ⟨.value (.func 92),#[(tT 111)],#[40]⟩) 0 true (.ret [(.agg [(.c (.sr 1 14)),tN,(tE (.bool false)),tN,(.c (.sr 3 17))]),(WK 0)])) (.ret [(.agg [(.c (.sr 1 14)),tN,(tE (.bool false)),tN,(.c (.sr 3 7))]),(WK 0)])))))
def al2:Tr:=.need (.lit 1 [[(.u 12 0)],[(.k (.slice none 0 0))],[(.u 14 0)]]) (.buildSlice 32 3 #[(0,(tT 49)),(1,(.const (.slice none 0 0))),(2,(tT 51))]) 32 false (.need (.prim [(W 0 0),(.one (.c (.k (.int .u8 3))))] none) (.binOp .eql 5 (tT 104) (.const (.int .u8 3)) 5) 4 false (.split (.u 16 0) (.need (.rop 7 39 3 none [] [] []) (.call ⟨.value (.func 92),#[(tT 111)],#[40]⟩) 0 true (.ret [(.agg [(.c (.sr 1 15)),tN,(tE (.bool false)),tN,(.c (.sr 3 17))]),(WK 0)])) (.need (.prim [(W 0 0),(.one (.c (.k (.int .u8 7))))] none) (.binOp .geq 5 (tT 107) (.const (.int .u8 7)) 5) 4 false (.split (.u 17 0) (.need (.rop 7 39 3 none [] [] []) (.call ⟨.value (.func 92),#[(tT 111)],#[40]⟩) 0 true (.ret [(.agg [(.c (.sr 1 15)),tN,(tE (.bool false)),tN,(.c (.sr 3 18))]),(WK 0)])) (.ret [(.agg [(.c (.sr 1 15)),tN,(tE (.bool false)),tN,(.c (.sr 3 7))]),(WK 0)])))))
def an5:Tr:=.need (.lit 1 [[(.k (.slice none 0 0))],[(.u 13 0)],[(.u 15 0)]]) (.buildSlice 32 3 #[(0,(.const (.slice none 0 0))),(1,(tT 57)),(2,(tT 59))]) 32 false (.need (.prim [(W 0 0),(.one (.c (.k (.int .u8 3))))] none) (.binOp .eql 5 (tT 104) (.const (.int .u8 3)) 5) 4 false (.split (.u 17 0) (.need (.rop 7 39 3 none [] [] []) (.call ⟨.value (.func 92),#[(tT 111)],#[40]⟩) 0 true (.ret [(.agg [(.c (.sr 1 16)),tN,(tE (.bool false)),tN,(.c (.sr 3 18))]),(WK 0)])) (.need (.prim [(W 0 0),(.one (.c (.k (.int .u8 7))))] none) (.binOp .geq 5 (tT 107) (.const (.int .u8 7)) 5) 4 false (.split (.u 18 0) (.need (.rop 7 39 3 none [] [] []) (.call ⟨.value (.func 92),#[(tT 111)],#[40]⟩) 0 true (.ret [(.agg [(.c (.sr 1 16)),tN,(tE (.bool false)),tN,(.c (.sr 3 19))]),(WK 0)])) (.ret [(.agg [(.c (.sr 1 16)),tN,(tE (.bool false)),tN,(.c (.sr 3 7))]),(WK 0)])))))
def ak5:Tr:=.need (.lit 1 [[(.k (.slice none 0 0))],[(.u 14 0)],[(.u 16 0)]]) (.buildSlice 32 3 #[(0,(.const (.slice none 0 0))),(1,(tT 65)),(2,(tT 67))]) 32 false (.need (.prim [(W 0 0),(.one (.c (.k (.int .u8 3))))] none) (.binOp .eql 5 (tT 104) (.const (.int .u8 3)) 5) 4 false (.split (.u 18 0) (.need (.rop 7 39 3 none [] [] []) (.call ⟨.value (.func 92),#[(tT 111)],#[40]⟩) 0 true (.ret [(.agg [(.c (.sr 1 17)),tN,(tE (.bool false)),tN,(.c (.sr 3 19))]),(WK 0)])) (.need (.prim [(W 0 0),(.one (.c (.k (.int .u8 7))))] none) (.binOp .geq 5 (tT 107) (.const (.int .u8 7)) 5) 4 false (.split (.u 19 0) (.need (.rop 7 39 3 none [] [] []) (.call ⟨.value (.func 92),#[(tT 111)],#[40]⟩) 0 true (.ret [(.agg [(.c (.sr 1 17)),tN,(tE (.bool false)),tN,(.c (.sr 3 20))]),(WK 0)])) (.ret [(.agg [(.c (.sr 1 17)),tN,(tE (.bool false)),tN,(.c (.sr 3 7))]),(WK 0)])))))
def aC6:Tr:=.need (.lit 1 [[(.k (.slice none 0 0))],[(.u 15 0)],[(.u 17 0)]]) (.buildSlice 32 3 #[(0,(.const (.slice none 0 0))),(1,(tT 73)),(2,(tT 75))]) 32 false (.need (.prim [(W 0 0),(.one (.c (.k (.int .u8 3))))] none) (.binOp .eql 5 (tT 104) (.const (.int .u8 3)) 5) 4 false (.split (.u 19 0) (.need (.rop 7 39 3 none [] [] []) (.call ⟨.value (.func 92),#[(tT 111)],#[40]⟩) 0 true (.ret [(.agg [(.c (.sr 1 18)),tN,(tE (.bool false)),tN,(.c (.sr 3 20))]),(WK 0)])) (.need (.prim [(W 0 0),(.one (.c (.k (.int .u8 7))))] none) (.binOp .geq 5 (tT 107) (.const (.int .u8 7)) 5) 4 false (.split (.u 20 0) (.need (.rop 7 39 3 none [] [] []) (.call ⟨.value (.func 92),#[(tT 111)],#[40]⟩) 0 true (.ret [(.agg [(.c (.sr 1 18)),tN,(tE (.bool false)),tN,(.c (.sr 3 21))]),(WK 0)])) (.ret [(.agg [(.c (.sr 1 18)),tN,(tE (.bool false)),tN,(.c (.sr 3 7))]),(WK 0)])))))
def Na:Tr:=.need (.prim [(W 0 0),(.one (.c (.k (.int .u8 3))))] none) (.binOp .eql 5 (tT 104) (.const (.int .u8 3)) 5) 4 false (.split (.u 24 0) (.need (.rop 7 39 3 none [] [] []) (.call ⟨.value (.func 92),#[(tT 111)],#[40]⟩) 0 true (.ret [(.agg [(.c (.sr 1 23)),tN,(tE (.bool false)),tN,(.c (.sr 3 25))]),(WK 0)])) (.need (.prim [(W 0 0),(.one (.c (.k (.int .u8 7))))] none) (.binOp .geq 5 (tT 107) (.const (.int .u8 7)) 5) 4 false (.split (.u 25 0) (.need (.rop 7 39 3 none [] [] []) (.call ⟨.value (.func 92),#[(tT 111)],#[40]⟩) 0 true (.ret [(.agg [(.c (.sr 1 23)),tN,(tE (.bool false)),tN,(.c (.sr 3 26))]),(WK 0)])) (.ret [(.agg [(.c (.sr 1 23)),tN,(tE (.bool false)),tN,(.c (.sr 3 7))]),(WK 0)]))))
def XA:Tr:=.need (.lit 1 [[(.u 16 0)]]) (.buildSlice 242 1 #[(0,(tT 83))]) 242 false (aM 91 [(.one (.c (.sr 1 17)))] [none] [84] [242] 72 false (.need (.lit 1 [[(.k (.int .i64 0))],[(.k (.int .i64 (-2)))]]) (.buildSlice 242 2 #[(0,(.const (I3 0))),(1,(.const (I3 (-2))))]) 242 false (aM 91 [(.one (.c (.sr 1 19)))] [none] [86] [242] 72 false (.need (.lit 1 [[(.k (.int .i64 1))],[(.k (.int .i64 0))],[(.k (.int .i64 (-1)))]]) (.buildSlice 242 3 #[(0,(.const (I3 1))),(1,(.const (I3 0))),(2,(.const (I3 (-1))))]) 242 false (aM 91 [(.one (.c (.sr 1 21)))] [none] [88] [242] 72 true (.need (.lit 1 [[(.u 18 0)],[(.u 20 0)],[(.u 22 0)]]) (.buildSlice 32 3 #[(0,(tT 85)),(1,(tT 87)),(2,(tT 89))]) 32 false Na))))))
def YF:Tr:=.need (.lit 1 [[(.u 16 0)]]) (.buildSlice 242 1 #[(0,(tT 95))]) 242 false (aM 91 [(.one (.c (.sr 1 17)))] [none] [96] [242] 72 false (.need (.lit 1 [[(.k (.int .i64 0))],[(.k (.int .i64 (-2)))]]) (.buildSlice 242 2 #[(0,(.const (I3 0))),(1,(.const (I3 (-2))))]) 242 false (aM 91 [(.one (.c (.sr 1 19)))] [none] [98] [242] 72 false (.need (.lit 1 [[(.k (.int .i64 1))]]) (.buildSlice 242 1 #[(0,(.const (I3 1)))]) 242 false (aM 91 [(.one (.c (.sr 1 21)))] [none] [100] [242] 72 true (.need (.lit 1 [[(.u 18 0)],[(.u 20 0)],[(.u 22 0)]]) (.buildSlice 32 3 #[(0,(tT 97)),(1,(tT 99)),(2,(tT 101))]) 32 false Na))))))
def Yy:Tr:=.split (.u 15 0) (.need (.prim [(WK 2),(W 1 0)] none) (.binOp .mul 2 (.const (I3 2)) (tT 94) 2) 2 false YF) (.need (.prim [(W 0 0),(.one (.c (.k (.int .u8 3))))] none) (.binOp .eql 5 (tT 104) (.const (.int .u8 3)) 5) 4 false (.split (.u 16 0) (.need (.rop 7 39 3 none [] [] []) (.call ⟨.value (.func 92),#[(tT 111)],#[40]⟩) 0 true (.ret [(.agg [tN,tN,(tE (.bool false)),tN,(.c (.sr 3 17))]),(WK 0)])) (.need (.prim [(W 0 0),(.one (.c (.k (.int .u8 7))))] none) (.binOp .geq 5 (tT 107) (.const (.int .u8 7)) 5) 4 false (.split (.u 17 0) (.need (.rop 7 39 3 none [] [] []) (.call ⟨.value (.func 92),#[(tT 111)],#[40]⟩) 0 true (.ret [(.agg [tN,tN,(tE (.bool false)),tN,(.c (.sr 3 18))]),(WK 0)])) (.ret [(.agg [tN,tN,(tE (.bool false)),tN,(.c (.sr 3 7))]),(WK 0)])))))
def ae2:Tr:=.split (.u 12 0) (.need (.lit 1 [[(.k (.int .i64 1))]]) (.buildSlice 242 1 #[(0,(.const (I3 1)))]) 242 false (aM 91 [(.one (.c (.sr 1 13)))] [none] [64] [242] 72 false (.need (.lit 1 [[(.k (.int .i64 1))],[(.k (.int .i64 1))]]) (.buildSlice 242 2 #[(0,(.const (I3 1))),(1,(.const (I3 1)))]) 242 false (aM 91 [(.one (.c (.sr 1 15)))] [none] [66] [242] 72 true ak5)))) (.need (.prim [(W 0 0),(.one (.c (.k (.int .u8 6))))] none) (.binOp .eql 5 (tT 27) (.const (.int .u8 6)) 5) 4 false (.split (.u 13 0) (.need (.lit 1 [[(.k (.int .i64 0))],[(.k (.int .i64 2))]]) (.buildSlice 242 2 #[(0,(.const (I3 0))),(1,(.const (I3 2)))]) 242 false (aM 91 [(.one (.c (.sr 1 14)))] [none] [72] [242] 72 false (.need (.lit 1 [[(.k (.int .i64 1))],[(.k (.int .i64 0))],[(.k (.int .i64 1))]]) (.buildSlice 242 3 #[(0,(.const (I3 1))),(1,(.const (I3 0))),(2,(.const (I3 1)))]) 242 false (aM 91 [(.one (.c (.sr 1 16)))] [none] [74] [242] 72 true aC6)))) (.need (.prim [(W 0 0),(.one (.c (.k (.int .u8 7))))] none) (.binOp .eql 5 (tT 27) (.const (.int .u8 7)) 5) 4 false (.split (.u 14 0) (bA .add 2 81 1 1 0 2 (bM .mul 2 80 82 1 0 15 0 2 XA)) (.need (.prim [(W 0 0),(.one (.c (.k (.int .u8 8))))] none) (.binOp .eql 5 (tT 27) (.const (.int .u8 8)) 5) 4 false Yy)))))
def aC2:Tr:=.split (.u 10 0) (.need (.lit 1 [[(.k (.int .i64 0))],[(.k (.int .i64 (-1)))]]) (.buildSlice 242 2 #[(0,(.const (I3 0))),(1,(.const (I3 (-1))))]) 242 false (aM 91 [(.one (.c (.sr 1 11)))] [none] [48] [242] 72 false (.need (.lit 1 [[(.k (.int .i64 1))]]) (.buildSlice 242 1 #[(0,(.const (I3 1)))]) 242 false (aM 91 [(.one (.c (.sr 1 13)))] [none] [50] [242] 72 true al2)))) (.need (.prim [(W 0 0),(.one (.c (.k (.int .u8 4))))] none) (.binOp .eql 5 (tT 27) (.const (.int .u8 4)) 5) 4 false (.split (.u 11 0) (.need (.lit 1 [[(.k (.int .i64 0))],[(.k (.int .i64 2))]]) (.buildSlice 242 2 #[(0,(.const (I3 0))),(1,(.const (I3 2)))]) 242 false (aM 91 [(.one (.c (.sr 1 12)))] [none] [56] [242] 72 false (.need (.lit 1 [[(.k (.int .i64 1))]]) (.buildSlice 242 1 #[(0,(.const (I3 1)))]) 242 false (aM 91 [(.one (.c (.sr 1 14)))] [none] [58] [242] 72 true an5)))) (.need (.prim [(W 0 0),(.one (.c (.k (.int .u8 5))))] none) (.binOp .eql 5 (tT 27) (.const (.int .u8 5)) 5) 4 false ae2)))
def an7:Tr:=.split (.u 8 0) (.need (.lit 1 [[(.k (.int .i64 (-1)))]]) (.buildSlice 242 1 #[(0,(.const (I3 (-1))))]) 242 false al3) (.need (.prim [(W 0 0),(.one (.c (.k (.int .u8 2))))] none) (.binOp .eql 5 (tT 27) (.const (.int .u8 2)) 5) 4 false (.split (.u 9 0) (.need (.lit 1 [[(.k (.int .i64 1))]]) (.buildSlice 242 1 #[(0,(.const (I3 1)))]) 242 false (aM 91 [(.one (.c (.sr 1 10)))] [none] [40] [242] 72 false (.need (.lit 1 [[(.k (.int .i64 1))]]) (.buildSlice 242 1 #[(0,(.const (I3 1)))]) 242 false (aM 91 [(.one (.c (.sr 1 12)))] [none] [42] [242] 72 true an6)))) (.need (.prim [(W 0 0),(.one (.c (.k (.int .u8 3))))] none) (.binOp .eql 5 (tT 27) (.const (.int .u8 3)) 5) 4 false aC2)))
def aW8:Tr:=bA .lss 3 15 0 1 0 4 (.split (.u 4 0) ZG (bA .gtr 3 18 40 1 0 4 (.split (.u 5 0) ZG (.need (.call 68 [(WK 1)] [(some 3)]) (.call ⟨.value (.func 68),#[(.const (I3 1))],#[2]⟩) 39 false (.need (.lit 3 [[(.k (.slice none 0 0)),(.k (.bool false)),(.k (.slice none 0 0))],[(.u 6 0),(.u 6 1),(.u 6 2)]]) (.buildSlice 40 2 #[(0,(tT 23)),(1,(tT 24))]) 40 false (.need (.prim [(W 0 0),(.one (.c (.k (.int .u8 1))))] none) (.binOp .eql 5 (tT 27) (.const (.int .u8 1)) 5) 4 false an7))))))
def aK3:Tr:=.need (.prim [(W 0 0),(.one (.c (.k (.int .u8 1))))] none) (.binOp .lss 5 (tT 8) (.const (.int .u8 1)) 5) 4 false (.split (.u 2 0) ZN (.need (.prim [(W 0 0),(.one (.c (.k (.int .u8 8))))] none) (.binOp .gtr 5 (tT 11) (.const (.int .u8 8)) 5) 4 false (.split (.u 3 0) ZN aW8)))
theorem Qc:aL prog f18 (fun _=>none) [.v none, .v none]=aK3:=by kernel_rfl
def ae1:Tr:=.need (.lit 1 [[(.k (.int .i64 (-1)))]]) (.buildSlice 242 1 #[(0,(.const (I3 (-1))))]) 242 false (aM 99 [(.one (.c (.sr 1 4)))] [none] [14] [242] 167 false (.need (.lit 1 [[(.k (.int .i64 1))]]) (.buildSlice 242 1 #[(0,(.const (I3 1)))]) 242 false (aM 99 [(.one (.c (.sr 1 6)))] [none] [16] [242] 167 false (.need (.lit 1 [[(.u 5 0)],[(.u 7 0)]]) (.buildSlice 44 2 #[(0,(tT 15)),(1,(tT 17))]) 44 false (.need (.lit 4 [[(.u 2 0),(.u 2 1),(.u 2 2),(.u 2 3)]]) (.buildSlice 50 1 #[(0,(tT 19))]) 50 false (.ret [(.agg [(.c (.sr 1 8)),(tE (.int .i64 0)),tN,(tE (.int .i64 0)),tN,(.c (.sr 4 9))])]))))))
def Xu:Tr:=.need (.lit 1 [[(.k (.int .i64 1))]]) (.buildSlice 242 1 #[(0,(.const (I3 1)))]) 242 false (aM 99 [(.one (.c (.sr 1 5)))] [none] [24] [242] 167 false (.need (.lit 1 [[(.k (.int .i64 1))]]) (.buildSlice 242 1 #[(0,(.const (I3 1)))]) 242 false (aM 99 [(.one (.c (.sr 1 7)))] [none] [26] [242] 167 false (.need (.lit 1 [[(.u 6 0)],[(.k (.slice none 0 0))],[(.u 8 0)]]) (.buildSlice 44 3 #[(0,(tT 25)),(1,(.const (.slice none 0 0))),(2,(tT 27))]) 44 false (.need (.lit 4 [[(.k (.int .i64 0)),(.k (.slice none 0 0)),(.k (.int .i64 0)),(.k (.slice none 0 0))],[(.u 2 0),(.u 2 1),(.u 2 2),(.u 2 3)]]) (.buildSlice 50 2 #[(0,(tT 29)),(1,(tT 30))]) 50 false (.ret [(.agg [(.c (.sr 1 9)),(tE (.int .i64 0)),tN,(tE (.int .i64 0)),tN,(.c (.sr 4 10))])]))))))
def WQ:Tr:=.need (.lit 1 [[(.k (.int .i64 0))],[(.k (.int .i64 (-1)))]]) (.buildSlice 242 2 #[(0,(.const (I3 0))),(1,(.const (I3 (-1))))]) 242 false (aM 99 [(.one (.c (.sr 1 6)))] [none] [35] [242] 167 false (.need (.lit 1 [[(.k (.int .i64 1))]]) (.buildSlice 242 1 #[(0,(.const (I3 1)))]) 242 false (aM 99 [(.one (.c (.sr 1 8)))] [none] [37] [242] 167 false (.need (.lit 1 [[(.u 7 0)],[(.k (.slice none 0 0))],[(.u 9 0)]]) (.buildSlice 44 3 #[(0,(tT 36)),(1,(.const (.slice none 0 0))),(2,(tT 38))]) 44 false (.need (.lit 4 [[(.u 2 0),(.u 2 1),(.u 2 2),(.u 2 3)],[(.k (.int .i64 0)),(.k (.slice none 0 0)),(.k (.int .i64 0)),(.k (.slice none 0 0))]]) (.buildSlice 50 2 #[(0,(tT 40)),(1,(tT 41))]) 50 false (.ret [(.agg [(.c (.sr 1 10)),(tE (.int .i64 0)),tN,(tE (.int .i64 0)),tN,(.c (.sr 4 11))])]))))))
def YY:Tr:=.need (.lit 1 [[(.k (.int .i64 0))],[(.k (.int .i64 2))]]) (.buildSlice 242 2 #[(0,(.const (I3 0))),(1,(.const (I3 2)))]) 242 false (aM 99 [(.one (.c (.sr 1 7)))] [none] [46] [242] 167 false (.need (.lit 1 [[(.k (.int .i64 1))]]) (.buildSlice 242 1 #[(0,(.const (I3 1)))]) 242 false (aM 99 [(.one (.c (.sr 1 9)))] [none] [48] [242] 167 false (.need (.lit 1 [[(.k (.slice none 0 0))],[(.u 8 0)],[(.u 10 0)]]) (.buildSlice 44 3 #[(0,(.const (.slice none 0 0))),(1,(tT 47)),(2,(tT 49))]) 44 false (.need (.lit 4 [[(.k (.int .i64 0)),(.k (.slice none 0 0)),(.k (.int .i64 0)),(.k (.slice none 0 0))],[(.u 2 0),(.u 2 1),(.u 2 2),(.u 2 3)]]) (.buildSlice 50 2 #[(0,(tT 51)),(1,(tT 52))]) 50 false (.ret [(.agg [(.c (.sr 1 11)),(tE (.int .i64 0)),tN,(tE (.int .i64 0)),tN,(.c (.sr 4 12))])]))))))
def XF:Tr:=.need (.lit 1 [[(.k (.int .i64 1))]]) (.buildSlice 242 1 #[(0,(.const (I3 1)))]) 242 false (aM 99 [(.one (.c (.sr 1 8)))] [none] [57] [242] 167 false (.need (.lit 1 [[(.k (.int .i64 1))],[(.k (.int .i64 1))]]) (.buildSlice 242 2 #[(0,(.const (I3 1))),(1,(.const (I3 1)))]) 242 false (aM 99 [(.one (.c (.sr 1 10)))] [none] [59] [242] 167 false (.need (.lit 1 [[(.k (.slice none 0 0))],[(.u 9 0)],[(.u 11 0)]]) (.buildSlice 44 3 #[(0,(.const (.slice none 0 0))),(1,(tT 58)),(2,(tT 60))]) 44 false (.need (.lit 4 [[(.k (.int .i64 0)),(.k (.slice none 0 0)),(.k (.int .i64 0)),(.k (.slice none 0 0))],[(.u 2 0),(.u 2 1),(.u 2 2),(.u 2 3)]]) (.buildSlice 50 2 #[(0,(tT 62)),(1,(tT 63))]) 50 false (.ret [(.agg [(.c (.sr 1 12)),(tE (.int .i64 0)),tN,(tE (.int .i64 0)),tN,(.c (.sr 4 13))])]))))))
def Vt:Tr:=.need (.lit 1 [[(.k (.int .i64 0))],[(.k (.int .i64 2))]]) (.buildSlice 242 2 #[(0,(.const (I3 0))),(1,(.const (I3 2)))]) 242 false (aM 99 [(.one (.c (.sr 1 9)))] [none] [68] [242] 167 false (.need (.lit 1 [[(.k (.int .i64 1))],[(.k (.int .i64 0))],[(.k (.int .i64 1))]]) (.buildSlice 242 3 #[(0,(.const (I3 1))),(1,(.const (I3 0))),(2,(.const (I3 1)))]) 242 false (aM 99 [(.one (.c (.sr 1 11)))] [none] [70] [242] 167 false (.need (.lit 1 [[(.k (.slice none 0 0))],[(.u 10 0)],[(.u 12 0)]]) (.buildSlice 44 3 #[(0,(.const (.slice none 0 0))),(1,(tT 69)),(2,(tT 71))]) 44 false (.need (.lit 4 [[(.k (.int .i64 0)),(.k (.slice none 0 0)),(.k (.int .i64 0)),(.k (.slice none 0 0))],[(.u 2 0),(.u 2 1),(.u 2 2),(.u 2 3)]]) (.buildSlice 50 2 #[(0,(tT 73)),(1,(tT 74))]) 50 false (.ret [(.agg [(.c (.sr 1 13)),(tE (.int .i64 0)),tN,(tE (.int .i64 0)),tN,(.c (.sr 4 14))])]))))))
def Yj:Tr:=.need (.lit 1 [[(.k (.int .i64 0))],[(.k (.int .i64 (-2)))]]) (.buildSlice 242 2 #[(0,(.const (I3 0))),(1,(.const (I3 (-2))))]) 242 false (aM 99 [(.one (.c (.sr 1 14)))] [none] [85] [242] 167 false (.need (.lit 1 [[(.k (.int .i64 1))],[(.k (.int .i64 0))],[(.k (.int .i64 (-1)))]]) (.buildSlice 242 3 #[(0,(.const (I3 1))),(1,(.const (I3 0))),(2,(.const (I3 (-1))))]) 242 false (aM 99 [(.one (.c (.sr 1 16)))] [none] [87] [242] 167 false (.need (.lit 1 [[(.u 13 0)],[(.u 15 0)],[(.u 17 0)]]) (.buildSlice 44 3 #[(0,(tT 84)),(1,(tT 86)),(2,(tT 88))]) 44 false (.need (.lit 4 [[(.u 2 0),(.u 2 1),(.u 2 2),(.u 2 3)],[(.k (.int .i64 0)),(.k (.slice none 0 0)),(.k (.int .i64 0)),(.k (.slice none 0 0))]]) (.buildSlice 50 2 #[(0,(tT 90)),(1,(tT 91))]) 50 false (.ret [(.agg [(.c (.sr 1 18)),(tE (.int .i64 0)),tN,(tE (.int .i64 0)),tN,(.c (.sr 4 19))])]))))))
def Vs:Tr:=.need (.lit 1 [[(.k (.int .i64 0))],[(.k (.int .i64 (-2)))]]) (.buildSlice 242 2 #[(0,(.const (I3 0))),(1,(.const (I3 (-2))))]) 242 false (aM 99 [(.one (.c (.sr 1 13)))] [none] [98] [242] 167 false (.need (.lit 1 [[(.k (.int .i64 1))]]) (.buildSlice 242 1 #[(0,(.const (I3 1)))]) 242 false (aM 99 [(.one (.c (.sr 1 15)))] [none] [100] [242] 167 false (.need (.lit 1 [[(.u 12 0)],[(.u 14 0)],[(.u 16 0)]]) (.buildSlice 44 3 #[(0,(tT 97)),(1,(tT 99)),(2,(tT 101))]) 44 false (.need (.lit 4 [[(.u 2 0),(.u 2 1),(.u 2 2),(.u 2 3)],[(.k (.int .i64 0)),(.k (.slice none 0 0)),(.k (.int .i64 0)),(.k (.slice none 0 0))]]) (.buildSlice 50 2 #[(0,(tT 103)),(1,(tT 104))]) 50 false (.ret [(.agg [(.c (.sr 1 17)),(tE (.int .i64 0)),tN,(tE (.int .i64 0)),tN,(.c (.sr 4 18))])]))))))
def VR:Tr:=.split (.u 8 0) Vt (.need (.prim [(W 0 0),(.one (.c (.k (.int .u8 7))))] none) (.binOp .eql 5 (tT 11) (.const (.int .u8 7)) 5) 4 false (.split (.u 9 0) (bA .add 2 80 1 1 0 2 (bM .mul 2 79 81 1 0 10 0 2 (.need (.lit 1 [[(.u 11 0)]]) (.buildSlice 242 1 #[(0,(tT 82))]) 242 false (aM 99 [(.one (.c (.sr 1 12)))] [none] [83] [242] 167 false Yj)))) (.need (.prim [(WK 2),(W 1 0)] none) (.binOp .mul 2 (.const (I3 2)) (tT 94) 2) 2 false (.need (.lit 1 [[(.u 10 0)]]) (.buildSlice 242 1 #[(0,(tT 95))]) 242 false (aM 99 [(.one (.c (.sr 1 11)))] [none] [96] [242] 167 false Vs)))))
def YS:Tr:=.need (.prim [(W 0 0),(.one (.c (.k (.int .u8 3))))] none) (.binOp .eql 5 (tT 11) (.const (.int .u8 3)) 5) 4 false (.split (.u 5 0) WQ (.need (.prim [(W 0 0),(.one (.c (.k (.int .u8 4))))] none) (.binOp .eql 5 (tT 11) (.const (.int .u8 4)) 5) 4 false (.split (.u 6 0) YY (.need (.prim [(W 0 0),(.one (.c (.k (.int .u8 5))))] none) (.binOp .eql 5 (tT 11) (.const (.int .u8 5)) 5) 4 false (.split (.u 7 0) XF (.need (.prim [(W 0 0),(.one (.c (.k (.int .u8 6))))] none) (.binOp .eql 5 (tT 11) (.const (.int .u8 6)) 5) 4 false VR))))))
def aB0:Tr:=.need (.call 50 [(WK 1)] [(some 4)]) (.call ⟨.value (.func 50),#[(.const (I3 1))],#[2]⟩) 49 true (.need (.prim [(W 0 0),(.one (.c (.k (.int .u8 1))))] none) (.binOp .eql 5 (tT 11) (.const (.int .u8 1)) 5) 4 false (.split (.u 3 0) ae1 (.need (.prim [(W 0 0),(.one (.c (.k (.int .u8 2))))] none) (.binOp .eql 5 (tT 11) (.const (.int .u8 2)) 5) 4 false (.split (.u 4 0) Xu YS))))
theorem UG:aL prog f25 (fun _=>none) [.v none, .v none]=aB0:=by kernel_rfl
theorem wM (a0 a1 a2 b0 b1 b2:aE):uN prog 92 39 3 [] [] ([[a0,a1,a2],[b0,b1,b2]]) [] ([[b0,b1,b2],[a0,a1,a2]]):=by
 refine BL (a1:=[]) (a2:=[]) (i1:=[]) (i2:=[]) (hints:=(fun _=>none)) fo (by kernel_rfl) func92 trivial trivial (by kernel_rfl) ?_ ?_ ?_ ?_
 ·simp [rT]
 ·simp [rT]
 ·simp [rT]
 dsimp only [aA,aB];rw [Lx];dsimp only [List.map,In.env,aA,aB];apply KM (n:=2) rfl rfl;dsimp only [aA,aB];apply vn (aI) rfl;dsimp only [aA,aB];refine bF Bool (fun g=>if g then [.one (.int .i64 1), .one (.int .i64 0), .rows [[b0,b1,b2],[a0,a1,a2]]] else [.one (.int .i64 0), .one (.int .i64 1), .rows [[a0,a1,a2],[b0,b1,b2]]]) (fun g=>if g then 0 else 1) false aO.rfl (fun g=>by cases g<;>rfl) ?_;intro g;cases g
 case true=>
  show vc _ _ _ [_,_,_, .one (.int .i64 1), .one (.int .i64 0), .rows [[b0,b1,b2],[a0,a1,a2]]] _;apply vn bE rfl;refine vs _ rfl (fun h=>absurd h (by decide)) (fun _=>?_);exact Ji rfl rfl
 show vc _ _ _ [_,_,_, .one (.int .i64 0), .one (.int .i64 1), .rows [[a0,a1,a2],[b0,b1,b2]]] _;apply vn bE rfl;dsimp only [aA,aB];refine vs _ rfl (fun _=>?_) (fun h=>absurd (by decide) h);refine nA rfl rfl (by decide) (by simp) ?_;refine vld (t:=.agg [b0,b1,b2]) rfl rfl (by decide) rfl (.inl rfl) rfl ?_;dsimp only [aA,aB,NJ,List.drop,List.take];refine nA rfl rfl (by decide) (by simp) ?_;refine vld (t:=.agg [a0,a1,a2]) rfl rfl (by decide) rfl (.inl rfl) rfl ?_;dsimp only [aA,aB,NJ,List.drop,List.take];refine nA rfl rfl (by decide) (by simp) ?_;refine EY (us:=[[b0,b1,b2],[b0,b1,b2]]) rfl rfl (by decide) rfl rfl ?_;dsimp only [aA,aB];refine nA rfl rfl (by decide) (by simp) ?_;refine EY (us:=[[b0,b1,b2],[a0,a1,a2]]) rfl rfl (by decide) rfl rfl ?_;dsimp only [aA,aB];apply vn (aD) rfl;dsimp only [aA,aB];apply vn (aI) rfl;exact aR rfl ⟨true,aO.rfl,by decide⟩
abbrev sI (l:List Int):aE:=.slice 1 (l.map fun n=>[aE.int .i64 n])
def ints (l:List Int):List Rat:=trim (l.map fun n:Int=>(n:Rat))
def fY (l:List Int):Prop:=∀ n∈l,-9223372036854775808≤n∧n<9223372036854775808
theorem bX (l:List Int) (h:fY l) (hs:l.length<1099511627776):aN prog 91 [(.one (sI l):aF)] (.ret [.one (sQ (ints l))]):=by
 refine cM func91 JE ?_;apply vn (aQ MF (aP _)) rfl;dsimp only [aA,aB];refine bF {i:Nat // i≤l.length} (fun g=>[.one (.int .i64 g.1), .rows (rQ ((l.take g.1).map fun n:Int=>(n:Rat)))]) (fun g=>l.length-g.1) ⟨0,bR _⟩ aO.rfl (fun _=>rfl) ?_;rintro ⟨i,hi⟩;dsimp only [aA,aB] at hi ⊢;apply vn bE rfl;dsimp only [aA,aB];refine vs _ rfl ?_ ?_<;>intro h3
 ·obtain ⟨n,hn⟩:∃ n,l[i]? = some n:=⟨_,bI (by omega)⟩
  obtain ⟨hn1,hn2⟩:=h n (cS hn);have hl:((l.take i).map fun n:Int=>(n:Rat)).length≤i:=by simp;omega
  apply vn (aW MF hn) rfl;dsimp only [aA,aB];apply vn (bG ag2) rfl;dsimp only [aA,aB];apply aC (mC n hn1 hn2) rfl;dsimp only [aA,aB];apply bL (us:=[qC (n:Rat)]) rfl;dsimp only [aA,aB];refine oV (xs:=(l.take i).map fun n:Int=>(n:Rat)) (x:=(n:Rat)) (f:=qC) rfl rfl (by omega) (by simp only [maxLen];omega) ?_;rw [lU (f:=fun n:Int=>(n:Rat)) hn];dsimp only [aA,aB];apply vn (aD) rfl;dsimp only [aA,aB];exact aR rfl ⟨⟨i+1,by omega⟩,aO.rfl,by show l.length-(i+1)<l.length-i;omega⟩
 rw [show i=l.length by omega,List.take_length];apply aC (zA (l.map fun n:Int=>(n:Rat)) (by simpa using hs)) rfl;exact aK rfl
def dG (l:List Int):List RQ:=eL (l.map fun n:Int=>RQ.of (n:Rat))
theorem YA (l:List Int):(dG l).map RQ.q=ints l:=by
 rw [dG,qQ,ints,List.map_map];rfl
theorem bZ (l:List Int) (h:fY l) (hs:l.length<1099511627776):aN prog 99 [(.one (sI l):aF)] (.ret [.one (sR (dG l))]):=by
 refine cM func99 JC ?_;refine bF {i:Nat // i≤l.length} (fun g=>[.one (.int .i64 g.1), .rows (rR ((l.take g.1).map fun n:Int=>RQ.of (n:Rat)))]) (fun g=>l.length-g.1) ⟨0,bR _⟩ aO.rfl (fun _=>rfl) ?_;rintro ⟨i,hi⟩;dsimp only [aA,aB] at hi ⊢;apply vn (aQ MF (aP _)) rfl;dsimp only [aA,aB];apply vn bE rfl;dsimp only [aA,aB];refine vs _ rfl ?_ ?_<;>intro h3
 ·obtain ⟨n,hn⟩:∃ n,l[i]? = some n:=⟨_,bI (by omega)⟩
  obtain ⟨hn1,hn2⟩:=h n (cS hn);have hl:((l.take i).map fun n:Int=>RQ.of (n:Rat)).length≤i:=by simp;omega
  apply vn (aW MF hn) rfl;dsimp only [aA,aB];apply vn (bG ag2) rfl;dsimp only [aA,aB];apply aC (lD n hn1 hn2) rfl;dsimp only [aA,aB];apply bL (us:=[rC (.of (n:Rat))]) rfl;dsimp only [aA,aB];refine oV (xs:=(l.take i).map fun n:Int=>RQ.of (n:Rat)) (x:=RQ.of (n:Rat)) (f:=rC) rfl rfl (by omega) (by simp only [maxLen];omega) ?_;rw [lU (f:=fun n:Int=>RQ.of (n:Rat)) hn];dsimp only [aA,aB];apply vn (aD) rfl;dsimp only [aA,aB];exact aR rfl ⟨⟨i+1,by omega⟩,aO.rfl,by show l.length-(i+1)<l.length-i;omega⟩
 rw [show i=l.length by omega,List.take_length];apply aC (uU (l.map fun n:Int=>RQ.of (n:Rat)) (by simpa using hs)) rfl;exact aK rfl
def kE (k:Nat) (n:Int):List (List Rat):=
 match k with
 | 1=>[ints [-1],ints [1]]
 | 2=>[ints [1],[],ints [1]]
 | 3=>[ints [0,-1],[],ints [1]]
 | 4=>[[],ints [0,2],ints [1]]
 | 5=>[[],ints [1],ints [1,1]]
 | 6=>[[],ints [0,2],ints [1,0,1]]
 | 7=>[ints [n*(n+1)],ints [0,-2],ints [1,0,-1]]
 | _=>[ints [2*n],ints [0,-2],ints [1]]
def kY (k:Nat):List Rat:=
 match k with
 | 1=>[1]
 | 3=>[1,0]
 | 7=>[1,0]
 | 8=>[1,0]
 | _=>[0,1]
def jN (k:Nat) (n:Int):List (List Rat)×List Rat×Int:=
 if k<1∨8<k then ([],[],2) else if n<0∨40<n then ([],[],3) else (kE k n,kY k,0)
abbrev fT (e:List (List Rat)) (c:Rat) (y:List Rat):aF:=.agg [eQ e,dT c.num.natAbs, .bool (decide (c.num<0)),dT (c.den-1),sQ y]
theorem GQ:aU (aU aE.Sub) [[.exact (.slice none 0 0), .bool false, .exact (.slice none 0 0)],qC 1] [qC 0,qC 1]:=⟨fU,⟨aE.Sub.same,aE.Sub.same,aE.Sub.same,trivial⟩,trivial⟩
theorem Lc:aU (aU aE.Sub) [qC 1,[.exact (.slice none 0 0), .bool false, .exact (.slice none 0 0)]] [qC 1,qC 0]:=⟨⟨aE.Sub.same,aE.Sub.same,aE.Sub.same,trivial⟩,fU,trivial⟩
theorem aT8 (p q:List Rat):aU (aU aE.Sub) [[sQ p],[.exact (.slice none 0 0)],[sQ q]] [cQ p,cQ [],cQ q]:=⟨⟨aE.Sub.same,trivial⟩,⟨aE.Sub.nil,trivial⟩,⟨aE.Sub.same,trivial⟩,trivial⟩
theorem Qu (p q:List Rat):aU (aU aE.Sub) [[.exact (.slice none 0 0)],[sQ p],[sQ q]] [cQ [],cQ p,cQ q]:=⟨⟨aE.Sub.nil,trivial⟩,⟨aE.Sub.same,trivial⟩,⟨aE.Sub.same,trivial⟩,trivial⟩
set_option maxHeartbeats 2000000 in
theorem Ij (k:Nat) (n:Int) (hk:k<256:=by omega) (h1:-9223372036854775808≤n:=by omega) (h2:n<9223372036854775808:=by omega):aN prog 18 [(.one (.int .u8 k):aF),(.one (.int .i64 n):aF)] (.ret [fT (jN k n).1 0 (jN k n).2.1, .one (.int .i64 (jN k n).2.2)]):=by
 refine cM func18 Qc ?_;apply vn bE rfl;dsimp only [aA,aB];refine vs _ rfl (fun h1=>?_) (fun h1'=>?_)
 ·rw [jN,if_pos (by omega)];exact dK ⟨⟨aE.Sub.nil,jP rfl,aE.Sub.same,jP rfl,aE.Sub.nil,trivial⟩,aF.Sub.same,trivial⟩
 apply vn eE rfl;dsimp only [aA,aB];refine vs _ rfl ?_ ?_<;>intro h4
 ·rw [jN,if_pos (by omega)];exact dK ⟨⟨aE.Sub.nil,jP rfl,aE.Sub.same,jP rfl,aE.Sub.nil,trivial⟩,aF.Sub.same,trivial⟩
 apply vn bE rfl;dsimp only [aA,aB];refine vs _ rfl ?_ ?_<;>intro h7
 ·rw [jN,if_neg (by omega),if_pos (by omega)];exact dK ⟨⟨aE.Sub.nil,jP rfl,aE.Sub.same,jP rfl,aE.Sub.nil,trivial⟩,aF.Sub.same,trivial⟩
 apply vn eE rfl;dsimp only [aA,aB];refine vs _ rfl ?_ ?_<;>intro h10
 ·rw [jN,if_neg (by omega),if_pos (by omega)];exact dK ⟨⟨aE.Sub.nil,jP rfl,aE.Sub.same,jP rfl,aE.Sub.nil,trivial⟩,aF.Sub.same,trivial⟩
 apply aC (mC 1) rfl;dsimp only [aA,aB];rw [jN,if_neg (by omega),if_neg (by omega)];apply bL (us:=[[.exact (.slice none 0 0), .bool false, .exact (.slice none 0 0)],qC 1]) rfl;dsimp only [aA,aB];apply vn bQ rfl;dsimp only [aA,aB];refine vs _ rfl ?_ ?_<;>intro h15
 ·obtain rfl:k=1:=by omega
  apply bL (us:=[[.int .i64 (-1)]]) rfl;dsimp only [aA,aB];apply aC (bX [-1] (by simp [fY]) (by simp)) rfl;dsimp only [aA,aB];apply bL (us:=[[.int .i64 1]]) rfl;dsimp only [aA,aB];apply aC (bX [1] (by simp [fY]) (by simp)) rfl;dsimp only [aA,aB];apply bL (us:=[[sQ (ints [-1])],[sQ (ints [1])]]) rfl;dsimp only [aA,aB];apply aC (mC 1) rfl;dsimp only [aA,aB];apply bL (us:=[qC 1]) rfl;exact dK ⟨⟨aE.Sub.same,jP rfl,aE.Sub.same,jP rfl,aE.Sub.same,trivial⟩,aF.Sub.same,trivial⟩
 apply vn bQ rfl;dsimp only [aA,aB];refine vs _ rfl ?_ ?_<;>intro h25
 ·obtain rfl:k=2:=by omega
  apply bL (us:=[[.int .i64 1]]) rfl;dsimp only [aA,aB];apply aC (bX [1] (by simp [fY]) (by simp)) rfl;dsimp only [aA,aB];apply bL (us:=[[.int .i64 1]]) rfl;dsimp only [aA,aB];apply aC (bX [1] (by simp [fY]) (by simp)) rfl;dsimp only [aA,aB];apply bL (us:=[[sQ (ints [1])],[.exact (.slice none 0 0)],[sQ (ints [1])]]) rfl;dsimp only [aA,aB];apply vn bQ rfl;dsimp only [aA,aB];refine vs _ rfl ?_ ?_<;>intro h32
  ·exfalso;omega
  apply vn fJ rfl;dsimp only [aA,aB];refine vs _ rfl ?_ ?_<;>intro h36
  ·exfalso;omega
  exact dK ⟨⟨aE.Sub.slice (aT8 _ _),jP rfl,aE.Sub.same,jP rfl,aE.Sub.slice GQ,trivial⟩,aF.Sub.same,trivial⟩
 apply vn bQ rfl;dsimp only [aA,aB];refine vs _ rfl ?_ ?_<;>intro h41
 ·obtain rfl:k=3:=by omega
  apply bL (us:=[[.int .i64 0],[.int .i64 (-1)]]) rfl;dsimp only [aA,aB];apply aC (bX [0,-1] (by simp [fY]) (by simp)) rfl;dsimp only [aA,aB];apply bL (us:=[[.int .i64 1]]) rfl;dsimp only [aA,aB];apply aC (bX [1] (by simp [fY]) (by simp)) rfl;dsimp only [aA,aB];apply bL (us:=[[sQ (ints [0,-1])],[.exact (.slice none 0 0)],[sQ (ints [1])]]) rfl;dsimp only [aA,aB];apply vn bQ rfl;dsimp only [aA,aB];refine vs _ rfl ?_ ?_<;>intro h48
  ·refine PM (n:=0) (us:=[[.exact (.slice none 0 0), .bool false, .exact (.slice none 0 0)],qC 1]) (rs:=[]) (vs:=[qC 1,[.exact (.slice none 0 0), .bool false, .exact (.slice none 0 0)]]) rfl ⟨rfl,rfl⟩ (by simp) rfl (tM rfl (wM _ _ _ _ _ _)) rfl ?_;exact dK ⟨⟨aE.Sub.slice (aT8 _ _),jP rfl,aE.Sub.same,jP rfl,aE.Sub.slice Lc,trivial⟩,aF.Sub.same,trivial⟩
  apply vn fJ rfl;dsimp only [aA,aB];refine vs _ rfl ?_ ?_<;>intro h52
  ·exfalso;omega
  exfalso;omega
 apply vn bQ rfl;dsimp only [aA,aB];refine vs _ rfl ?_ ?_<;>intro h57
 ·obtain rfl:k=4:=by omega
  apply bL (us:=[[.int .i64 0],[.int .i64 2]]) rfl;dsimp only [aA,aB];apply aC (bX [0,2] (by simp [fY]) (by simp)) rfl;dsimp only [aA,aB];apply bL (us:=[[.int .i64 1]]) rfl;dsimp only [aA,aB];apply aC (bX [1] (by simp [fY]) (by simp)) rfl;dsimp only [aA,aB];apply bL (us:=[[.exact (.slice none 0 0)],[sQ (ints [0,2])],[sQ (ints [1])]]) rfl;dsimp only [aA,aB];apply vn bQ rfl;dsimp only [aA,aB];refine vs _ rfl ?_ ?_<;>intro h64
  ·exfalso;omega
  apply vn fJ rfl;dsimp only [aA,aB];refine vs _ rfl ?_ ?_<;>intro h68
  ·exfalso;omega
  exact dK ⟨⟨aE.Sub.slice (Qu _ _),jP rfl,aE.Sub.same,jP rfl,aE.Sub.slice GQ,trivial⟩,aF.Sub.same,trivial⟩
 apply vn bQ rfl;dsimp only [aA,aB];refine vs _ rfl ?_ ?_<;>intro h73
 ·obtain rfl:k=5:=by omega
  apply bL (us:=[[.int .i64 1]]) rfl;dsimp only [aA,aB];apply aC (bX [1] (by simp [fY]) (by simp)) rfl;dsimp only [aA,aB];apply bL (us:=[[.int .i64 1],[.int .i64 1]]) rfl;dsimp only [aA,aB];apply aC (bX [1,1] (by simp [fY]) (by simp)) rfl;dsimp only [aA,aB];apply bL (us:=[[.exact (.slice none 0 0)],[sQ (ints [1])],[sQ (ints [1,1])]]) rfl;dsimp only [aA,aB];apply vn bQ rfl;dsimp only [aA,aB];refine vs _ rfl ?_ ?_<;>intro h80
  ·exfalso;omega
  apply vn fJ rfl;dsimp only [aA,aB];refine vs _ rfl ?_ ?_<;>intro h84
  ·exfalso;omega
  exact dK ⟨⟨aE.Sub.slice (Qu _ _),jP rfl,aE.Sub.same,jP rfl,aE.Sub.slice GQ,trivial⟩,aF.Sub.same,trivial⟩
 apply vn bQ rfl;dsimp only [aA,aB];refine vs _ rfl ?_ ?_<;>intro h89
 ·obtain rfl:k=6:=by omega
  apply bL (us:=[[.int .i64 0],[.int .i64 2]]) rfl;dsimp only [aA,aB];apply aC (bX [0,2] (by simp [fY]) (by simp)) rfl;dsimp only [aA,aB];apply bL (us:=[[.int .i64 1],[.int .i64 0],[.int .i64 1]]) rfl;dsimp only [aA,aB];apply aC (bX [1,0,1] (by simp [fY]) (by simp)) rfl;dsimp only [aA,aB];apply bL (us:=[[.exact (.slice none 0 0)],[sQ (ints [0,2])],[sQ (ints [1,0,1])]]) rfl;dsimp only [aA,aB];apply vn bQ rfl;dsimp only [aA,aB];refine vs _ rfl ?_ ?_<;>intro h96
  ·exfalso;omega
  apply vn fJ rfl;dsimp only [aA,aB];refine vs _ rfl ?_ ?_<;>intro h100
  ·exfalso;omega
  exact dK ⟨⟨aE.Sub.slice (Qu _ _),jP rfl,aE.Sub.same,jP rfl,aE.Sub.slice GQ,trivial⟩,aF.Sub.same,trivial⟩
 apply vn bQ rfl;dsimp only [aA,aB];refine vs _ rfl ?_ ?_<;>intro h105
 ·obtain rfl:k=7:=by omega
  have hnn:n*(n+1)≤40*41:=by
   have:=Int.mul_le_mul (a:=n) (b:=n+1) (c:=40) (d:=41) (by omega) (by omega) (by omega) (by omega);omega
  have hn0:0≤n*(n+1):=Int.mul_nonneg (by omega) (by omega);apply vn (aD) rfl;dsimp only [aA,aB];apply vn (rY (c:=n*(n+1)) (dV)) rfl;dsimp only [aA,aB];apply bL (us:=[[.int .i64 (n*(n+1))]]) rfl;dsimp only [aA,aB];apply aC (bX [n*(n+1)] (by simp only [fY,List.mem_singleton,forall_eq];omega) (by simp)) rfl;dsimp only [aA,aB];apply bL (us:=[[.int .i64 0],[.int .i64 (-2)]]) rfl;dsimp only [aA,aB];apply aC (bX [0,-2] (by simp [fY]) (by simp)) rfl;dsimp only [aA,aB];apply bL (us:=[[.int .i64 1],[.int .i64 0],[.int .i64 (-1)]]) rfl;dsimp only [aA,aB];apply aC (bX [1,0,-1] (by simp [fY]) (by simp)) rfl;dsimp only [aA,aB];apply bL (us:=[[sQ (ints [n*(n+1)])],[sQ (ints [0,-2])],[sQ (ints [1,0,-1])]]) rfl;dsimp only [aA,aB];apply vn bQ rfl;dsimp only [aA,aB];refine vs _ rfl ?_ ?_<;>intro h116
  ·exfalso;omega
  apply vn fJ rfl;dsimp only [aA,aB];refine vs _ rfl ?_ ?_<;>intro h120
  ·refine PM (n:=0) (us:=[[.exact (.slice none 0 0), .bool false, .exact (.slice none 0 0)],qC 1]) (rs:=[]) (vs:=[qC 1,[.exact (.slice none 0 0), .bool false, .exact (.slice none 0 0)]]) rfl ⟨rfl,rfl⟩ (by simp) rfl (tM rfl (wM _ _ _ _ _ _)) rfl ?_;exact dK ⟨⟨aE.Sub.same,jP rfl,aE.Sub.same,jP rfl,aE.Sub.slice Lc,trivial⟩,aF.Sub.same,trivial⟩
  exfalso;omega
 apply vn bQ rfl;dsimp only [aA,aB];refine vs _ rfl ?_ ?_<;>intro h125
 ·obtain rfl:k=8:=by omega
  apply vn (lZ) rfl;dsimp only [aA,aB];apply bL (us:=[[.int .i64 (2*n)]]) rfl;dsimp only [aA,aB];apply aC (bX [2*n] (by simp only [fY,List.mem_singleton,forall_eq];omega) (by simp)) rfl;dsimp only [aA,aB];apply bL (us:=[[.int .i64 0],[.int .i64 (-2)]]) rfl;dsimp only [aA,aB];apply aC (bX [0,-2] (by simp [fY]) (by simp)) rfl;dsimp only [aA,aB];apply bL (us:=[[.int .i64 1]]) rfl;dsimp only [aA,aB];apply aC (bX [1] (by simp [fY]) (by simp)) rfl;dsimp only [aA,aB];apply bL (us:=[[sQ (ints [2*n])],[sQ (ints [0,-2])],[sQ (ints [1])]]) rfl;dsimp only [aA,aB];apply vn bQ rfl;dsimp only [aA,aB];refine vs _ rfl ?_ ?_<;>intro h135
  ·exfalso;omega
  apply vn fJ rfl;dsimp only [aA,aB];refine vs _ rfl ?_ ?_<;>intro h139
  ·refine PM (n:=0) (us:=[[.exact (.slice none 0 0), .bool false, .exact (.slice none 0 0)],qC 1]) (rs:=[]) (vs:=[qC 1,[.exact (.slice none 0 0), .bool false, .exact (.slice none 0 0)]]) rfl ⟨rfl,rfl⟩ (by simp) rfl (tM rfl (wM _ _ _ _ _ _)) rfl ?_;exact dK ⟨⟨aE.Sub.same,jP rfl,aE.Sub.same,jP rfl,aE.Sub.slice Lc,trivial⟩,aF.Sub.same,trivial⟩
  exfalso;omega
 apply vn bQ rfl;dsimp only [aA,aB];refine vs _ rfl ?_ ?_<;>intro h144
 ·exfalso;omega
 apply vn fJ rfl;dsimp only [aA,aB];refine vs _ rfl ?_ ?_<;>intro h148
 ·exfalso;omega
 exfalso;omega
open Go Go.Proofs Tryz Ord
def KD:Tr:=.ret [(tF false)]
def ai5:Tr:=fP 0 5 2 0 27 12 13 (eS 5 0 (some 3) 26 14 (aM 39 [(G3 6)] [none] [15] [26] 4 true (.need (.prim [(W 7 0)] none) (.unOp .not 4 (tT 16)) 4 false (.split (.u 8 0) KD (bA .add 3 9 1 2 0 3 (.back 0 [lV 1 0,lV 9 0]))))))
def ag8:Tr:=.split (.u 4 0) ai5 (aM 55 [(G2 0)] [none] [19] [24] 4 false (.split (.u 5 0) (aM 39 [(.agg [(U 0 2),(U 0 3),(U 0 4)])] [none] [23] [26] 4 false (.split (.u 6 0) (cV 0 5 28 27 (bA .leq 3 29 6 7 0 4 Zt)) KD)) KD))
def am4:Tr:=.loop 0 [(.w (.one (.c (.k (.bool false))))),lK 0] (cV 0 5 6 27 (bM .lss 3 4 7 2 0 3 0 4 ag8))
theorem PW:aL prog f15 (fun _=>none) [.v (some 8)]=am4:=by kernel_rfl
def kER (k:Nat) (n:Int):List (List RQ):=
 match k with
 | 1=>[dG [-1],dG [1]]
 | 2=>[dG [1],[],dG [1]]
 | 3=>[dG [0,-1],[],dG [1]]
 | 4=>[[],dG [0,2],dG [1]]
 | 5=>[[],dG [1],dG [1,1]]
 | 6=>[[],dG [0,2],dG [1,0,1]]
 | 7=>[dG [n*(n+1)],dG [0,-2],dG [1,0,-1]]
 | _=>[dG [2*n],dG [0,-2],dG [1]]
def kYR (k:Nat):List RQ:=
 match k with
 | 1=>[.of 1]
 | 3=>[.of 1, .nil]
 | 7=>[.of 1, .nil]
 | 8=>[.of 1, .nil]
 | _=>[.nil, .of 1]
theorem aK4 {k:Nat} (h1:1≤k) (h2:k≤8) (n:Int):uY (kER k n)=kE k n:=by
 rcases (by omega:k=1∨k=2∨k=3∨k=4∨k=5∨k=6∨k=7∨k=8) with rfl | rfl | rfl | rfl | rfl | rfl | rfl | rfl<;>simp only [uY,kER,kE,List.map_cons,List.map_nil,YA]
theorem aI0 {k:Nat} (h1:1≤k) (h2:k≤8):(kYR k).map RQ.q=kY k:=by
 rcases (by omega:k=1∨k=2∨k=3∨k=4∨k=5∨k=6∨k=7∨k=8) with rfl | rfl | rfl | rfl | rfl | rfl | rfl | rfl<;>rfl
abbrev fR (e:List (List RQ)) (c:RQ) (y:List RQ):aF:=.agg [eR e, .int .i64 c.q.num.sign,bT c.q.num.natAbs, .int .i64 (if c.z then 0 else 1),bT (if c.z then 0 else c.q.den),sR y]
theorem GP:aU (aU aE.Sub) [[.int .i64 0, .exact (.slice none 0 0), .int .i64 0, .exact (.slice none 0 0)],rC (.of 1)] [rC .nil,rC (.of 1)]:=⟨yI,⟨aE.Sub.same,aE.Sub.same,aE.Sub.same,aE.Sub.same,trivial⟩,trivial⟩
theorem Kr:aU (aU aE.Sub) [rC (.of 1),[.int .i64 0, .exact (.slice none 0 0), .int .i64 0, .exact (.slice none 0 0)]] [rC (.of 1),rC .nil]:=⟨⟨aE.Sub.same,aE.Sub.same,aE.Sub.same,aE.Sub.same,trivial⟩,yI,trivial⟩
theorem ZK (p q:List RQ):aU (aU aE.Sub) [[sR p],[.exact (.slice none 0 0)],[sR q]] [cR p,cR [],cR q]:=⟨⟨aE.Sub.same,trivial⟩,⟨aE.Sub.nil,trivial⟩,⟨aE.Sub.same,trivial⟩,trivial⟩
theorem Lr (p q:List RQ):aU (aU aE.Sub) [[.exact (.slice none 0 0)],[sR p],[sR q]] [cR [],cR p,cR q]:=⟨⟨aE.Sub.nil,trivial⟩,⟨aE.Sub.same,trivial⟩,⟨aE.Sub.same,trivial⟩,trivial⟩
set_option maxHeartbeats 2000000 in
theorem RL (k:Nat) (n:Int) (hk1:1≤k) (hk:k≤8) (h1:0≤n:=by omega) (h2:n≤40:=by omega):aN prog 25 [(.one (.int .u8 k):aF),(.one (.int .i64 n):aF)] (.ret [fR (kER k n) .nil (kYR k)]):=by
 refine cM func25 UG ?_;apply aC (lD 1) rfl;dsimp only [aA,aB];apply vn bQ rfl;dsimp only [aA,aB];refine vs _ rfl ?_ ?_<;>intro h2
 ·obtain rfl:k=1:=by omega
  apply bL (us:=[[.int .i64 (-1)]]) rfl;dsimp only [aA,aB];apply aC (bZ [-1] (by simp [fY]) (by simp)) rfl;dsimp only [aA,aB];apply bL (us:=[[.int .i64 1]]) rfl;dsimp only [aA,aB];apply aC (bZ [1] (by simp [fY]) (by simp)) rfl;dsimp only [aA,aB];apply bL (us:=[[sR (dG [-1])],[sR (dG [1])]]) rfl;dsimp only [aA,aB];apply bL (us:=[rC (.of 1)]) rfl;exact dK ⟨⟨aE.Sub.same,aE.Sub.same,qE rfl,aE.Sub.same,qE rfl,aE.Sub.same,trivial⟩,trivial⟩
 apply vn bQ rfl;dsimp only [aA,aB];refine vs _ rfl ?_ ?_<;>intro h11
 ·obtain rfl:k=2:=by omega
  apply bL (us:=[[.int .i64 1]]) rfl;dsimp only [aA,aB];apply aC (bZ [1] (by simp [fY]) (by simp)) rfl;dsimp only [aA,aB];apply bL (us:=[[.int .i64 1]]) rfl;dsimp only [aA,aB];apply aC (bZ [1] (by simp [fY]) (by simp)) rfl;dsimp only [aA,aB];apply bL (us:=[[sR (dG [1])],[.exact (.slice none 0 0)],[sR (dG [1])]]) rfl;dsimp only [aA,aB];apply bL (us:=[[.int .i64 0, .exact (.slice none 0 0), .int .i64 0, .exact (.slice none 0 0)],rC (.of 1)]) rfl;exact dK ⟨⟨aE.Sub.slice (ZK _ _),aE.Sub.same,qE rfl,aE.Sub.same,qE rfl,aE.Sub.slice GP,trivial⟩,trivial⟩
 apply vn bQ rfl;dsimp only [aA,aB];refine vs _ rfl ?_ ?_<;>intro h20
 ·obtain rfl:k=3:=by omega
  apply bL (us:=[[.int .i64 0],[.int .i64 (-1)]]) rfl;dsimp only [aA,aB];apply aC (bZ [0,-1] (by simp [fY]) (by simp)) rfl;dsimp only [aA,aB];apply bL (us:=[[.int .i64 1]]) rfl;dsimp only [aA,aB];apply aC (bZ [1] (by simp [fY]) (by simp)) rfl;dsimp only [aA,aB];apply bL (us:=[[sR (dG [0,-1])],[.exact (.slice none 0 0)],[sR (dG [1])]]) rfl;dsimp only [aA,aB];apply bL (us:=[rC (.of 1),[.int .i64 0, .exact (.slice none 0 0), .int .i64 0, .exact (.slice none 0 0)]]) rfl;exact dK ⟨⟨aE.Sub.slice (ZK _ _),aE.Sub.same,qE rfl,aE.Sub.same,qE rfl,aE.Sub.slice Kr,trivial⟩,trivial⟩
 apply vn bQ rfl;dsimp only [aA,aB];refine vs _ rfl ?_ ?_<;>intro h29
 ·obtain rfl:k=4:=by omega
  apply bL (us:=[[.int .i64 0],[.int .i64 2]]) rfl;dsimp only [aA,aB];apply aC (bZ [0,2] (by simp [fY]) (by simp)) rfl;dsimp only [aA,aB];apply bL (us:=[[.int .i64 1]]) rfl;dsimp only [aA,aB];apply aC (bZ [1] (by simp [fY]) (by simp)) rfl;dsimp only [aA,aB];apply bL (us:=[[.exact (.slice none 0 0)],[sR (dG [0,2])],[sR (dG [1])]]) rfl;dsimp only [aA,aB];apply bL (us:=[[.int .i64 0, .exact (.slice none 0 0), .int .i64 0, .exact (.slice none 0 0)],rC (.of 1)]) rfl;exact dK ⟨⟨aE.Sub.slice (Lr _ _),aE.Sub.same,qE rfl,aE.Sub.same,qE rfl,aE.Sub.slice GP,trivial⟩,trivial⟩
 apply vn bQ rfl;dsimp only [aA,aB];refine vs _ rfl ?_ ?_<;>intro h38
 ·obtain rfl:k=5:=by omega
  apply bL (us:=[[.int .i64 1]]) rfl;dsimp only [aA,aB];apply aC (bZ [1] (by simp [fY]) (by simp)) rfl;dsimp only [aA,aB];apply bL (us:=[[.int .i64 1],[.int .i64 1]]) rfl;dsimp only [aA,aB];apply aC (bZ [1,1] (by simp [fY]) (by simp)) rfl;dsimp only [aA,aB];apply bL (us:=[[.exact (.slice none 0 0)],[sR (dG [1])],[sR (dG [1,1])]]) rfl;dsimp only [aA,aB];apply bL (us:=[[.int .i64 0, .exact (.slice none 0 0), .int .i64 0, .exact (.slice none 0 0)],rC (.of 1)]) rfl;exact dK ⟨⟨aE.Sub.slice (Lr _ _),aE.Sub.same,qE rfl,aE.Sub.same,qE rfl,aE.Sub.slice GP,trivial⟩,trivial⟩
 apply vn bQ rfl;dsimp only [aA,aB];refine vs _ rfl ?_ ?_<;>intro h47
 ·obtain rfl:k=6:=by omega
  apply bL (us:=[[.int .i64 0],[.int .i64 2]]) rfl;dsimp only [aA,aB];apply aC (bZ [0,2] (by simp [fY]) (by simp)) rfl;dsimp only [aA,aB];apply bL (us:=[[.int .i64 1],[.int .i64 0],[.int .i64 1]]) rfl;dsimp only [aA,aB];apply aC (bZ [1,0,1] (by simp [fY]) (by simp)) rfl;dsimp only [aA,aB];apply bL (us:=[[.exact (.slice none 0 0)],[sR (dG [0,2])],[sR (dG [1,0,1])]]) rfl;dsimp only [aA,aB];apply bL (us:=[[.int .i64 0, .exact (.slice none 0 0), .int .i64 0, .exact (.slice none 0 0)],rC (.of 1)]) rfl;exact dK ⟨⟨aE.Sub.slice (Lr _ _),aE.Sub.same,qE rfl,aE.Sub.same,qE rfl,aE.Sub.slice GP,trivial⟩,trivial⟩
 apply vn bQ rfl;dsimp only [aA,aB];refine vs _ rfl ?_ ?_<;>intro h56
 ·obtain rfl:k=7:=by omega
  have hnn:n*(n+1)≤40*41:=by
   have:=Int.mul_le_mul (a:=n) (b:=n+1) (c:=40) (d:=41) (by omega) (by omega) (by omega) (by omega);omega
  have hn0:0≤n*(n+1):=Int.mul_nonneg (by omega) (by omega);apply vn (aD) rfl;dsimp only [aA,aB];apply vn (rY (c:=n*(n+1)) (dV)) rfl;dsimp only [aA,aB];apply bL (us:=[[.int .i64 (n*(n+1))]]) rfl;dsimp only [aA,aB];apply aC (bZ [n*(n+1)] (by simp only [fY,List.mem_singleton,forall_eq];omega) (by simp)) rfl;dsimp only [aA,aB];apply bL (us:=[[.int .i64 0],[.int .i64 (-2)]]) rfl;dsimp only [aA,aB];apply aC (bZ [0,-2] (by simp [fY]) (by simp)) rfl;dsimp only [aA,aB];apply bL (us:=[[.int .i64 1],[.int .i64 0],[.int .i64 (-1)]]) rfl;dsimp only [aA,aB];apply aC (bZ [1,0,-1] (by simp [fY]) (by simp)) rfl;dsimp only [aA,aB];apply bL (us:=[[sR (dG [n*(n+1)])],[sR (dG [0,-2])],[sR (dG [1,0,-1])]]) rfl;dsimp only [aA,aB];apply bL (us:=[rC (.of 1),[.int .i64 0, .exact (.slice none 0 0), .int .i64 0, .exact (.slice none 0 0)]]) rfl;exact dK ⟨⟨aE.Sub.same,aE.Sub.same,qE rfl,aE.Sub.same,qE rfl,aE.Sub.slice Kr,trivial⟩,trivial⟩
 obtain rfl:k=8:=by omega
 apply vn (lZ) rfl;dsimp only [aA,aB];apply bL (us:=[[.int .i64 (2*n)]]) rfl;dsimp only [aA,aB];apply aC (bZ [2*n] (by simp only [fY,List.mem_singleton,forall_eq];omega) (by simp)) rfl;dsimp only [aA,aB];apply bL (us:=[[.int .i64 0],[.int .i64 (-2)]]) rfl;dsimp only [aA,aB];apply aC (bZ [0,-2] (by simp [fY]) (by simp)) rfl;dsimp only [aA,aB];apply bL (us:=[[.int .i64 1]]) rfl;dsimp only [aA,aB];apply aC (bZ [1] (by simp [fY]) (by simp)) rfl;dsimp only [aA,aB];apply bL (us:=[[sR (dG [2*n])],[sR (dG [0,-2])],[sR (dG [1])]]) rfl;dsimp only [aA,aB];apply bL (us:=[rC (.of 1),[.int .i64 0, .exact (.slice none 0 0), .int .i64 0, .exact (.slice none 0 0)]]) rfl;exact dK ⟨⟨aE.Sub.same,aE.Sub.same,qE rfl,aE.Sub.same,qE rfl,aE.Sub.slice Kr,trivial⟩,trivial⟩
abbrev sP (p:List (List bP)):aE:=.slice 1 (p.map fun l=>[sN l])
def jO (p:List (List bP)):Bool:=decide (p.length≤6∧∀ l∈p,l.length≤4∧∀ x∈l,x.Ba=true)
structure InP (p:List (List bP)):Prop where
 l:p.length<140737488355328
 p:∀ l∈p,l.length<140737488355328∧∀ x∈l,x.In
set_option maxHeartbeats 1000000 in
theorem GD (p:List (List bP)) (long:Int) (hp:InP p):aN prog 55 [(.agg [sP p, .int .i64 long]:aF)] (.ret [.one (.bool (jO p))]):=by
 refine cM func55 Gu ?_;have hpl:=hp.l;refine bF {i:Nat // i≤p.length∧∀ j l,j<i→p[j]? = some l→l.length≤4∧∀ x∈l,x.Ba=true} (fun g=>[.one (.bool false), .one (.int .i64 g.1)]) (fun g=>p.length-g.1) ⟨0,bR _,fun j l h=>by omega⟩ aO.rfl (fun _=>rfl) ?_;rintro ⟨i,hi,hok⟩;dsimp only [aA,aB] at hi hok ⊢;apply vn (aQ LU (aP _)) rfl;dsimp only [aA,aB];apply vn bE rfl;dsimp only [aA,aB];refine vs _ rfl ?_ ?_<;>intro h3
 ·obtain ⟨l,hl⟩:∃ l,p[i]? = some l:=⟨_,bI (by omega)⟩
  obtain ⟨hll,hlx⟩:=hp.p l (cS hl)
  have hbad:∀ x∈l,x.Ba=false→jO p=false:=fun x hx h=>by
   unfold jO;rw [decide_eq_false_iff_not];rintro ⟨_,h2⟩;rw [(h2 l (cS hl)).2 x hx] at h;cases h
  apply vn (aW LU hl) rfl;dsimp only [aA,aB];apply vn (bG Yk) rfl;dsimp only [aA,aB];apply vn (aQ DN (aP _)) rfl;dsimp only [aA,aB];apply vn eE rfl;dsimp only [aA,aB];refine vs _ rfl ?_ ?_<;>intro h8
  ·rw [show jO p=false by
    unfold jO;rw [decide_eq_false_iff_not];rintro ⟨_,h2⟩;have:=(h2 l (cS hl)).1;omega];exact aK rfl
  refine bF {k:Nat // k≤l.length∧∀ j x,j<k→l[j]? = some x→x.Ba=true} (fun g=>[.one (.bool false), .one (.int .i64 g.1)]) (fun g=>l.length-g.1) ⟨0,bR _,fun j x h=>by omega⟩ aO.rfl (fun _=>rfl) ?_;rintro ⟨k,hk,hkok⟩;dsimp only [aA,aB] at hk hkok ⊢;apply vn (aW LU hl) rfl;dsimp only [aA,aB];apply vn (bG Yk) rfl;dsimp only [aA,aB];apply vn (aQ DN (aP _)) rfl;dsimp only [aA,aB];apply vn bE rfl;dsimp only [aA,aB];refine vs _ rfl ?_ ?_<;>intro h15
  ·apply vn (aW LU hl) rfl;dsimp only [aA,aB];apply vn (bG Yk) rfl;dsimp only [aA,aB];obtain ⟨x,hx⟩:∃ x,l[k]? = some x:=⟨_,bI (by omega)⟩
   have hxl:=cS hx;have hxi:=hlx x hxl;apply vn (aW DN hx) rfl;dsimp only [aA,aB];apply vn (bO WM (by decide) (by simp) (.inl rfl)) rfl;dsimp only [aA,aB];apply vn (eO) rfl;dsimp only [aA,aB];apply vn gI rfl;dsimp only [aA,aB];refine vs _ rfl ?_ ?_<;>intro h22
   ·rw [hbad x hxl (by unfold bP.Ba;rw [decide_eq_false_iff_not];omega)];exact aK rfl
   apply vn eE rfl;dsimp only [aA,aB];refine vs _ rfl ?_ ?_<;>intro h25
   ·rw [hbad x hxl (by unfold bP.Ba;rw [decide_eq_false_iff_not];omega)];exact aK rfl
   apply vn bE rfl;dsimp only [aA,aB];refine vs _ rfl ?_ ?_<;>intro h28
   ·rw [hbad x hxl (by unfold bP.Ba;rw [decide_eq_false_iff_not];omega)];exact aK rfl
   apply vn eE rfl;dsimp only [aA,aB];refine vs _ rfl ?_ ?_<;>intro h31
   ·rw [hbad x hxl (by unfold bP.Ba;rw [decide_eq_false_iff_not];omega)];exact aK rfl
   apply vn bE rfl;dsimp only [aA,aB];refine vs _ rfl ?_ ?_<;>intro h34
   ·rw [hbad x hxl (by unfold bP.Ba;rw [decide_eq_false_iff_not];omega)];exact aK rfl
   apply vn (aD) rfl
   exact aR rfl ⟨⟨k+1,by omega,fun j x' hj hx'=>by
    rcases Nat.lt_or_ge j k with h | h
    ·exact hkok j x' h hx'
    ·rw [show j=k by omega,hx] at hx';simp only [aJ] at hx';subst hx';unfold bP.Ba;rw [decide_eq_true_iff];omega⟩,aO.rfl,by show l.length-(k+1)<l.length-k;omega⟩
  apply vn (aD) rfl
  exact aR rfl ⟨⟨i+1,by omega,fun j l' hj hl'=>by
   rcases Nat.lt_or_ge j i with h | h
   ·exact hok j l' h hl'
   ·rw [show j=i by omega,hl] at hl';simp only [aJ] at hl';subst hl';refine ⟨by omega,fun x hx=>?_⟩;obtain ⟨m,hm⟩:=List.getElem?_of_mem hx;exact hkok m x (by have:=(dS.1 hm).1;omega) hm⟩,aO.rfl,by show p.length-(i+1)<p.length-i;omega⟩
 apply vn (aQ LU (aP _)) rfl;dsimp only [aA,aB];apply vn iZ rfl;dsimp only [aA,aB]
 rw [show jO p=decide ((p.length:Int)≤6) by
  unfold jO;rw [decide_eq_decide]
  constructor
  ·rintro ⟨h,_⟩;omega
  ·intro h;refine ⟨by omega,fun l hl=>?_⟩;obtain ⟨m,hm⟩:=List.getElem?_of_mem hl;exact hok m l (by have:=(dS.1 hm).1;omega) hm];exact aK rfl
structure bJ where
 p:List (List bP)
 long:Int
 c:bP
 y:List bP
 kind:Nat
 n:Int
abbrev caT (c:bJ):aF:=.agg [sP c.p, .int .i64 c.long, .int .i64 c.c.n, .int .i64 c.c.d, .int .u8 c.c.pow,sN c.y, .int .u8 c.kind, .int .i64 c.n]
structure bJ.In (c:bJ):Prop where
 hp:InP c.p
 hl1:-9223372036854775808≤c.long
 hl2:c.long<9223372036854775808
 hc:c.c.In
 hyl:c.y.length<140737488355328
 hy:∀ x∈c.y,x.In
 hk:c.kind<256
 hn1:-9223372036854775808≤c.n
 hn2:c.n<9223372036854775808
def bJ.small (c:bJ):Bool:=decide ((∀ x∈c.y,x.short=true)∧jO c.p=true∧c.c.short=true∧c.y.length≤6)
theorem QP (c:bJ) (h:c.In):aN prog 15 [(caT c:aF)] (.ret [.one (.bool c.small)]):=by
 refine cM func15 PW ?_;have hyl:=h.hyl;refine bF {i:Nat // i≤c.y.length∧∀ j x,j<i→c.y[j]? = some x→x.short=true} (fun g=>[.one (.bool false), .one (.int .i64 g.1)]) (fun g=>c.y.length-g.1) ⟨0,bR _,fun j x h=>by omega⟩ aO.rfl (fun _=>rfl) ?_;rintro ⟨i,hi,hok⟩;dsimp only [aA,aB] at hi hok ⊢;apply vn (aQ DN (aP _)) rfl;dsimp only [aA,aB];apply vn bE rfl;dsimp only [aA,aB];refine vs _ rfl ?_ ?_<;>intro h3
 ·obtain ⟨x,hx⟩:∃ x,c.y[i]? = some x:=⟨_,bI (by omega)⟩
  apply vn (aW DN hx) rfl;dsimp only [aA,aB];apply vn (bO WM (by decide) (by simp) (.inl rfl)) rfl;dsimp only [aA,aB];apply aC (sZ x (h.hy x (cS hx))) rfl;dsimp only [aA,aB];apply vn nD rfl;dsimp only [aA,aB];refine sG (!x.short) rfl (fun h8=>?_) (fun h8=>?_)
  ·rw [show c.small=false by
    unfold bJ.small;rw [decide_eq_false_iff_not];rintro ⟨h2,_⟩;rw [h2 x (cS hx)] at h8;cases h8];exact aK rfl
  apply vn (aD) rfl
  exact aR rfl ⟨⟨i+1,by omega,fun j x' hj hx'=>by
   rcases Nat.lt_or_ge j i with h | h
   ·exact hok j x' h hx'
   ·rw [show j=i by omega,hx] at hx';simp only [aJ] at hx';subst hx'
    simpa using h8⟩,aO.rfl,by show c.y.length-(i+1)<c.y.length-i;omega⟩
 have hall:∀ x∈c.y,x.short=true:=fun x hx=>by
  obtain ⟨m,hm⟩:=List.getElem?_of_mem hx;exact hok m x (by have:=(dS.1 hm).1;omega) hm
 apply aC (GD c.p c.long h.hp) rfl;dsimp only [aA,aB];refine sG (jO c.p) rfl (fun h13=>?_) (fun h13=>?_)
 ·apply aC (sZ c.c h.hc) rfl;dsimp only [aA,aB];refine sG c.c.short rfl (fun h15=>?_) (fun h15=>?_)
  ·apply vn (aQ DN (aP _)) rfl;dsimp only [aA,aB];apply vn iZ rfl;dsimp only [aA,aB]
   rw [show c.small=decide ((c.y.length:Int)≤6) by
    unfold bJ.small;rw [decide_eq_decide];exact ⟨fun h=>by have:=h.2.2.2;omega,fun h=>⟨hall,h13,h15,by omega⟩⟩];exact aK rfl
  rw [show c.small=false by unfold bJ.small;rw [decide_eq_false_iff_not,h15];simp];exact aK rfl
 rw [show c.small=false by unfold bJ.small;rw [decide_eq_false_iff_not,h13];simp];exact aK rfl
open Go Go.Proofs Tryz Ord
def aC9:Tr:=.need (.lit 1 [[(.u 8 0)]]) (.buildSlice 32 1 #[(0,(tT 29))]) 32 false (.need (.app 1 24 (some 2) none (some 10)) (.call ⟨.builtin .append,#[(tT 28),(tT 30)],#[32,32]⟩) 32 false (aM 144 [(W 9 0)] [none] [33] [167] 167 false (.need (.lit 1 [[(.u 12 0)]]) (.buildSlice 44 1 #[(0,(tT 34))]) 44 false (.need (.app 1 24 (some 3) none (some 13)) (.call ⟨.builtin .append,#[(tT 32),(tT 35)],#[44,44]⟩) 44 false (bA .add 3 17 1 1 0 3 (.back 0 [lV 15 0, .row 11, .row 14]))))))
def Zc:Tr:=.need (.idx 10 (.u 12 0)) (.indexAddr 50 (tT 51) (tT 53)) 0 false (.need (.strow 10 4 (.u 12 0) 0 [(.u 14 0),(.u 14 1),(.u 14 2),(.u 14 3)]) (.store 49 (tT 57) (tT 55)) 0 false (.need (.lit 1 [[(.sr 3 15)]]) (.buildSlice 32 1 #[(0,(tT 59))]) 32 false (.need (.app 1 24 (some 2) none (some 17)) (.call ⟨.builtin .append,#[(tT 58),(tT 60)],#[32,32]⟩) 32 false (.need (.lit 1 [[(.sr 4 16)]]) (.buildSlice 44 1 #[(0,(tT 63))]) 44 false (.need (.app 1 24 (some 3) none (some 19)) (.call ⟨.builtin .append,#[(tT 62),(tT 64)],#[44,44]⟩) 44 false (.ret [(.one (.c (.sr 1 18))),(.one (.c (.sr 1 20)))]))))))
def Yb:Tr:=.need (.make [(.int .i64 0),(.slice none 0 0),(.int .i64 0),(.slice none 0 0)] 64 (.u 8 0) (.u 8 0)) (.makeSlice 50 (tT 46) (tT 46)) 50 false (bA .sub 3 49 1 8 0 3 (bA .sub 3 52 1 8 0 3 (.need (.call 68 [(WK 1)] [(some 3)]) (.call ⟨.value (.func 68),#[(.const (I3 1))],#[2]⟩) 39 true (.need (.call 50 [(WK 1)] [(some 4)]) (.call ⟨.value (.func 50),#[(.const (I3 1))],#[2]⟩) 49 true (.need (.idx 9 (.u 11 0)) (.indexAddr 40 (tT 48) (tT 50)) 0 false (.need (.strow 9 3 (.u 11 0) 0 [(.u 13 0),(.u 13 1),(.u 13 2)]) (.store 39 (tT 56) (tT 54)) 0 false Zc))))))
def ac2:Tr:=bM .lss 3 12 15 1 0 4 0 4 (.split (.u 5 0) (fP 0 0 1 0 22 21 22 (eS 6 0 none 27 23 (aM 71 [(W 7 0)] [none,none] [24] [27] 128 false aC9))) (bA .gtr 3 38 0 0 1 4 (.split (.u 6 0) (bA .rem 3 41 50 0 1 3 (bA .add 3 42 1 7 0 3 (.need (.make [(.slice none 0 0),(.bool false),(.slice none 0 0)] 56 (.u 8 0) (.u 8 0)) (.makeSlice 40 (tT 44) (tT 44)) 40 false Yb))) (.ret [(.one (.c (.sr 1 2))),(.one (.c (.sr 1 3)))]))))
def aj0:Tr:=.loop 0 [lK 0, .nilrow, .nilrow] (cV 0 0 14 22 ac2)
theorem II:aL prog f57 (fun _=>none) [.v (some 2)]=aj0:=by kernel_rfl
def Mu:Tr:=.ret [(G5 7),(G6 9)]
def XC:Tr:=bA .gtr 3 22 8 0 7 4 (.split (.u 3 0) (.need (.prim [(W 0 6),(.one (.c (.k (.int .u8 1))))] none) (.binOp .sub 5 (tT 26) (.const (.int .u8 1)) 5) 5 false (.need (.prim [(W 4 0),(.one (.c (.k (.int .u8 8))))] none) (.binOp .rem 5 (tT 27) (.const (.int .u8 8)) 5) 5 false (.need (.prim [(W 5 0),(.one (.c (.k (.int .u8 1))))] none) (.binOp .add 5 (tT 28) (.const (.int .u8 1)) 5) 5 false (aM 18 [(W 6 0),(WK 2)] [(some 5),none] [31,32] [5,3] 56 false (aM 25 [(W 6 0),(WK 2)] [(some 6)] [37,38] [5,3] 52 true Mu))))) (.need (.prim [(W 0 6),(.one (.c (.k (.int .u8 1))))] none) (.binOp .sub 5 (tT 26) (.const (.int .u8 1)) 5) 5 false (.need (.prim [(W 4 0),(.one (.c (.k (.int .u8 8))))] none) (.binOp .rem 5 (tT 27) (.const (.int .u8 8)) 5) 5 false (.need (.prim [(W 5 0),(.one (.c (.k (.int .u8 1))))] none) (.binOp .add 5 (tT 28) (.const (.int .u8 1)) 5) 5 false (aM 18 [(W 6 0),(W 0 7)] [(some 5),none] [31,32] [5,3] 56 false (aM 25 [(W 6 0),(W 0 7)] [(some 6)] [37,38] [5,3] 52 true Mu))))))
def ay9:Tr:=.split (.u 2 0) (.need (.prim [(W 0 6),(.one (.c (.k (.int .u8 1))))] none) (.binOp .sub 5 (tT 26) (.const (.int .u8 1)) 5) 5 false (.need (.prim [(W 3 0),(.one (.c (.k (.int .u8 8))))] none) (.binOp .rem 5 (tT 27) (.const (.int .u8 8)) 5) 5 false (.need (.prim [(W 4 0),(.one (.c (.k (.int .u8 1))))] none) (.binOp .add 5 (tT 28) (.const (.int .u8 1)) 5) 5 false (aM 18 [(W 5 0),(WK 2)] [(some 5),none] [31,32] [5,3] 56 false (aM 25 [(W 5 0),(WK 2)] [(some 6)] [37,38] [5,3] 52 true (.ret [(G5 6),(G6 8)])))))) XC
def au4:Tr:=.need (.prim [(W 0 6),(.one (.c (.k (.int .u8 0))))] none) (.binOp .gtr 5 (tT 15) (.const (.int .u8 0)) 5) 4 false (.split (.u 1 0) (bA .lss 3 19 0 0 7 4 ay9) (aM 57 [(G2 0)] [none,none] [42] [24] 107 false (aM 40 [(.agg [(U 0 2),(U 0 3),(U 0 4)])] [(some 3),(some 4)] [48] [26] 82 false (aM 71 [(W 0 5)] [none,none] [54] [27] 128 false (.ret [(.agg [(U 2 0),(U 4 0),(U 4 1),(U 4 2),(U 6 0)]),(.agg [(U 3 0),(U 5 0),(U 5 1),(U 5 2),(U 5 3),(U 7 0)])])))))
theorem Wo:aL prog f17 (fun _=>none) [.v (some 8)]=au4:=by kernel_rfl
def lG (n:Nat):List Rat:=(List.replicate n (0:Rat)).set (n-1) 1
def Ip (n:Nat):List RQ:=(List.replicate n RQ.nil).set (n-1) (.of 1)
def EZ (p:List (List bP)) (long:Int):List (List Rat):=p.map cW++if 0<long then [lG (long%50+1).toNat] else []
def UT (p:List (List bP)) (long:Int):List (List RQ):=p.map (fun l=>eL (qM l))++if 0<long then [Ip (long%50+1).toNat] else []
theorem tL {α β:Type} {R:α→β→Prop} {a:α} {b:β} (h:R a b):∀ n,aU R (List.replicate n a) (List.replicate n b)
 | 0=>trivial
 | n+1=>⟨h,tL h n⟩
theorem xH {α β:Type} {R:α→β→Prop} {a:α} {b:β} (h:R a b):∀ {xs:List α} {ys:List β} (m:Nat),aU R xs ys→aU R (xs.set m a) (ys.set m b)
 | [],[],_,_=>trivial
 | _::_,_::_,0,⟨_,k⟩=>⟨h,k⟩
 | _::_,_::_,m+1,⟨j,k⟩=>⟨j,xH h m k⟩
 | [],_::_,_,k=>k.elim
 | _::_,[],_,k=>k.elim
abbrev z3:List aE:=[.exact (.slice none 0 0), .bool false, .exact (.slice none 0 0)]
abbrev z4:List aE:=[.int .i64 0, .exact (.slice none 0 0), .int .i64 0, .exact (.slice none 0 0)]
theorem Zk (n:Nat):aU (aU aE.Sub) ((List.replicate n z3).set (n-1) (qC 1)) ((lG n).map qC):=by
 rw [lG,List.map_set,List.map_replicate];exact xH ⟨aE.Sub.same,aE.Sub.same,aE.Sub.same,trivial⟩ _ (tL fU n)
theorem TB (n:Nat):aU (aU aE.Sub) ((List.replicate n z4).set (n-1) (rC (.of 1))) ((Ip n).map rC):=by
 rw [Ip,List.map_set,List.map_replicate];exact xH ⟨aE.Sub.same,aE.Sub.same,aE.Sub.same,aE.Sub.same,trivial⟩ _ (tL yI n)
theorem CP {α:Type} {l:List α} {i:Nat} {x:α} (h:l[i]? = some x):l.take i ++ [x]=l.take (i+1):=by
 rw [List.take_add_one,h];rfl
theorem pG (l:List bP):(cW l).length=l.length:=aP _
theorem Gx (l:List bP):(qM l).length=l.length:=aP _
set_option maxHeartbeats 1000000 in
theorem IB (p:List (List bP)) (long:Int) (hp:InP p) (hs:jO p=true) (hl1:-9223372036854775808≤long) (hl2:long<9223372036854775808):aN prog 57 [(.agg [sP p, .int .i64 long]:aF)] (.ret [.one (eQ (EZ p long)), .one (eR (UT p long))]):=by
 refine cM func57 II ?_;have hs:=hs;unfold jO at hs;rw [decide_eq_true_iff] at hs;obtain ⟨hp6,hpx⟩:=hs;refine bF {i:Nat // i≤p.length} (fun g=>[.one (.int .i64 g.1), .rows ((p.take g.1).map fun l=>cQ (cW l)), .rows ((p.take g.1).map fun l=>cR (eL (qM l)))]) (fun g=>p.length-g.1) ⟨0,bR _⟩ aO.rfl (fun _=>rfl) ?_;rintro ⟨i,hi⟩;dsimp only [aA,aB] at hi ⊢;apply vn (aQ LU (aP _)) rfl;dsimp only [aA,aB];apply vn bE rfl;dsimp only [aA,aB];refine vs _ rfl ?_ ?_<;>intro h3
 ·obtain ⟨l,hl⟩:∃ l,p[i]? = some l:=⟨_,bI (by omega)⟩
  have hlm:=cS hl;have hl4:=(hpx l hlm).1;have hti:(p.take i).length≤i:=by rw [List.length_take];omega
  apply vn (aW LU hl) rfl;dsimp only [aA,aB];apply vn (bG Yk) rfl;dsimp only [aA,aB];apply aC (GV l (fun x hx=>(hp.p l hlm).2 x hx)) rfl;dsimp only [aA,aB];apply bL (us:=[cQ (cW l)]) rfl;dsimp only [aA,aB];refine oV (xs:=p.take i) (x:=l) (f:=fun l=>cQ (cW l)) rfl rfl (by omega) (by simp only [maxLen];omega) ?_;rw [CP hl];dsimp only [aA,aB];apply aC (uU (qM l) (by rw [Gx];omega)) rfl;dsimp only [aA,aB];apply bL (us:=[cR (eL (qM l))]) rfl;dsimp only [aA,aB];refine oV (xs:=p.take i) (x:=l) (f:=fun l=>cR (eL (qM l))) rfl rfl (by omega) (by simp only [maxLen];omega) ?_;rw [CP hl];dsimp only [aA,aB];apply vn (aD) rfl;dsimp only [aA,aB];exact aR rfl ⟨⟨i+1,by omega⟩,aO.rfl,by show p.length-(i+1)<p.length-i;omega⟩
 rw [show i=p.length by omega,List.take_length];apply vn eE rfl;dsimp only [aA,aB];refine vs _ rfl ?_ ?_<;>intro h15
 ·obtain ⟨n,hn⟩:∃ n:Nat,(long%50+1).toNat=n:=⟨_,rfl⟩
  have hn1:long%50+1=(n:Int):=by omega
  have hn2:n≤50:=by omega
  have hn3:1≤n:=by omega
  apply vn (eO) rfl;dsimp only [aA,aB];apply vn (dZ (c:=(n:Int)) (by rw [hn1];exact dV)) rfl;dsimp only [aA,aB];refine tR (n:=n) (m:=n) (us:=List.replicate n z3) rfl rfl rfl (bB _) (by omega) (by simp only [maxLen];omega) ?_;dsimp only [aA,aB];refine tR (n:=n) (m:=n) (us:=List.replicate n z4) rfl rfl rfl (bB _) (by omega) (by simp only [maxLen];omega) ?_;dsimp only [aA,aB];apply vn (aI) rfl;dsimp only [aA,aB];apply vn (aI) rfl;dsimp only [aA,aB];apply aC (mC 1) rfl;dsimp only [aA,aB];apply aC (lD 1) rfl;dsimp only [aA,aB];refine nA rfl rfl (by omega) (by rw [List.length_replicate];omega) ?_;refine EY (ts:=List.replicate n z3) (us:=(List.replicate n z3).set (n-1) (qC 1)) rfl rfl (by omega) (cells:=z3) (by rw [show ((n:Int)-1).toNat=n-1 by omega,List.getElem?_replicate,if_pos (by omega)]) (by rw [show ((n:Int)-1).toNat=n-1 by omega];rfl) ?_;dsimp only [aA,aB];refine nA rfl rfl (by omega) (by rw [List.length_replicate];omega) ?_;refine EY (ts:=List.replicate n z4) (us:=(List.replicate n z4).set (n-1) (rC (.of 1))) rfl rfl (by omega) (cells:=z4) (by rw [show ((n:Int)-1).toNat=n-1 by omega,List.getElem?_replicate,if_pos (by omega)]) (by rw [show ((n:Int)-1).toNat=n-1 by omega];rfl) ?_;dsimp only [aA,aB];apply bL (us:=[[.slice 3 ((List.replicate n z3).set (n-1) (qC 1))]]) rfl;dsimp only [aA,aB];refine rP (ts:=p.map fun l=>cQ (cW l)) (us:=[[.slice 3 ((List.replicate n z3).set (n-1) (qC 1))]]) rfl rfl rfl (by simp;omega) (by simp [maxLen];omega) ?_;dsimp only [aA,aB];apply bL (us:=[[.slice 4 ((List.replicate n z4).set (n-1) (rC (.of 1)))]]) rfl;dsimp only [aA,aB];refine rP (ts:=p.map fun l=>cR (eL (qM l))) (us:=[[.slice 4 ((List.replicate n z4).set (n-1) (rC (.of 1)))]]) rfl rfl rfl (by simp;omega) (by simp [maxLen];omega) ?_;dsimp only [aA,aB];refine dK ⟨aE.Sub.slice ?_,aE.Sub.slice ?_,trivial⟩
  ·rw [EZ,if_pos h15,hn,List.map_append,List.map_map];exact aU.append (aU.mG (aU.mG aE.Sub.refl) _) ⟨⟨aE.Sub.slice (Zk n),trivial⟩,trivial⟩
  ·rw [UT,if_pos h15,hn,List.map_append,List.map_map];exact aU.append (aU.mG (aU.mG aE.Sub.refl) _) ⟨⟨aE.Sub.slice (TB n),trivial⟩,trivial⟩
 rw [EZ,UT,if_neg h15,if_neg h15,List.append_nil,List.append_nil];refine aK ?_;rw [eQ,eR,List.map_map,List.map_map];rfl
def bJ.kk (c:bJ):Nat:=(c.kind-1)%8+1
def bJ.nn (c:bJ):Int:=if c.n<0∨8<c.n then 2 else c.n
def bJ.E (c:bJ):List (List Rat):=if 0<c.kind then kE c.kk c.nn else EZ c.p c.long
def bJ.X (c:bJ):Rat:=if 0<c.kind then 0 else c.c.v
def bJ.Y (c:bJ):List Rat:=if 0<c.kind then kY c.kk else cW c.y
def bJ.ER (c:bJ):List (List RQ):=if 0<c.kind then kER c.kk c.nn else UT c.p c.long
def bJ.XR (c:bJ):RQ:=if 0<c.kind then .nil else .of c.c.v
def bJ.YR (c:bJ):List RQ:=if 0<c.kind then kYR c.kk else qM c.y
theorem OI {k:Nat} {n:Int} (h1:1≤k) (h2:k≤8) (h3:0≤n:=by omega) (h4:n≤40:=by omega):jN k n=(kE k n,kY k,0):=by
 rw [jN,if_neg (by omega),if_neg (by omega)]
theorem YM (c:bJ) (h:c.In) (hs:c.small=true):aN prog 17 [(caT c:aF)] (.ret [fT c.E c.X c.Y,fR c.ER c.XR c.YR]):=by
 refine cM func17 Wo ?_;have hs':=hs;unfold bJ.small at hs';rw [decide_eq_true_iff] at hs';obtain ⟨_,hsp,_,hyl⟩:=hs';have hk:=h.hk;have hn1:=h.hn1;have hn2:=h.hn2;have hkk1:1≤c.kk:=by unfold bJ.kk;omega
 have hkk8:c.kk≤8:=by unfold bJ.kk;omega
 have hnn:0≤c.nn∧c.nn≤8:=by unfold bJ.nn;split<;>omega
 have hK:=Ij c.kk c.nn;rw [OI hkk1 hkk8] at hK;have hR:=RL c.kk c.nn hkk1 hkk8;apply vn eE rfl;dsimp only [aA,aB];refine vs _ rfl ?_ ?_<;>intro h1
 ·have hk0:0<c.kind:=by omega
  have hkki:((c.kind:Int)-1)%8+1=(c.kk:Int):=by unfold bJ.kk;omega
  rw [show c.E=kE c.kk c.nn by rw [bJ.E,if_pos hk0],show c.X=0 by rw [bJ.X,if_pos hk0],show c.Y=kY c.kk by rw [bJ.Y,if_pos hk0],show c.ER=kER c.kk c.nn by rw [bJ.ER,if_pos hk0],show c.XR=RQ.nil by rw [bJ.XR,if_pos hk0],show c.YR=kYR c.kk by rw [bJ.YR,if_pos hk0]];apply vn bE rfl;dsimp only [aA,aB];refine vs _ rfl ?_ ?_<;>intro h3
  ·have hnnv:c.nn=2:=by rw [bJ.nn,if_pos (by omega)]
   rw [hnnv] at hK hR ⊢;apply vn (DS) rfl;dsimp only [aA,aB];apply vn (eO) rfl;dsimp only [aA,aB];apply vn (dZ (c:=(c.kk:Int)) (by rw [hkki];exact IY)) rfl;dsimp only [aA,aB];apply aC hK rfl;dsimp only [aA,aB];apply aC hR rfl;exact aK rfl
  apply vn eE rfl;dsimp only [aA,aB];refine vs _ rfl ?_ ?_<;>intro h11
  ·have hnnv:c.nn=2:=by rw [bJ.nn,if_pos (by omega)]
   rw [hnnv] at hK hR ⊢;apply vn (DS) rfl;dsimp only [aA,aB];apply vn (eO) rfl;dsimp only [aA,aB];apply vn (dZ (c:=(c.kk:Int)) (by rw [hkki];exact IY)) rfl;dsimp only [aA,aB];apply aC hK rfl;dsimp only [aA,aB];apply aC hR rfl;exact aK rfl
  have hnnv:c.nn=c.n:=by rw [bJ.nn,if_neg (by omega)]
  rw [hnnv] at hK hR ⊢;apply vn (DS) rfl;dsimp only [aA,aB];apply vn (eO) rfl;dsimp only [aA,aB];apply vn (dZ (c:=(c.kk:Int)) (by rw [hkki];exact IY)) rfl;dsimp only [aA,aB];apply aC hK rfl;dsimp only [aA,aB];apply aC hR rfl;exact aK rfl
 have hk0:¬ 0<c.kind:=by omega
 rw [show c.E=EZ c.p c.long by rw [bJ.E,if_neg hk0],show c.X=c.c.v by rw [bJ.X,if_neg hk0],show c.Y=cW c.y by rw [bJ.Y,if_neg hk0],show c.ER=UT c.p c.long by rw [bJ.ER,if_neg hk0],show c.XR=RQ.of c.c.v by rw [bJ.XR,if_neg hk0],show c.YR=qM c.y by rw [bJ.YR,if_neg hk0]];apply aC (IB c.p c.long h.hp hsp h.hl1 h.hl2) rfl;dsimp only [aA,aB];apply aC (Bv c.c h.hc) rfl;dsimp only [aA,aB];apply aC (GV c.y h.hy) rfl;exact aK rfl
end Go.Sy
