/- Equations: Check, CheckEquation; Valid, Right. The reference: Eval, Valid, Regular, Right; Alike. Known functions. Known functions of the reference; what is small. Cases in both ways.
-/
import Derived.Test.YtdmcadckdnnglaaGreatDoorPb
set_option linter.unusedVariables false
set_option linter.unusedSimpArgs false
namespace Go.Sy
open Go Go.Proofs Tryz Ord
def TL:Tr:=.split (.u 5 0) (qI 0 0 4 0 32 12 13 (oX 6 0 none 72 14 (.need (.callv (.u 1 0) [(W 7 0)] [none]) (.call ⟨.value (tT 11),#[(tT 15)],#[72]⟩) 4 true (.split (.u 8 0) (.ret [(W 4 0)]) (bO .add 3 8 1 4 0 3 (.back 0 [lV 3 0,lV 9 0])))))) (.ret [(WK (-1))])
def SA:Tr:=fX 0 0 6 32 (.loop 0 [lK 0,lK 0] (cU .lss 3 8 7 4 0 2 0 0 TL))
theorem Jg:aO prog f180 (fun _=>none) [.v none, .v none]=SA:=by kernel_rfl
def SF:Tr:=aU 180 [(W 0 0),(W 1 0)] [none] [5,6] [32,165] 3 true (bO .geq 3 7 0 2 0 4 (.ret [(W 3 0)]))
theorem Db:aO prog f93 (fun _=>none) [.v none, .v none]=SF:=by kernel_rfl
def TV:Tr:=aU 95 [(W 0 0)] [none] [3] [72] 3 true (bO .gtr 3 4 40 1 0 4 (.ret [(W 2 0)]))
theorem qD:aO prog f94 (fun _=>none) [.v none]=TV:=by kernel_rfl
def zK:Tr:=.ret [(WK 2)]
def LB:Tr:=.ret [(WK 0)]
def Pm:Tr:=fX 0 0 17 32 (bO .sub 3 18 1 6 0 3 (qI 0 0 7 0 32 16 19 (oX 8 0 none 72 20 (aU 95 [(W 9 0)] [none] [21] [72] 3 false (bO .lss 3 22 0 10 0 4 (.split (.u 11 0) zK LB))))))
def Tg:Tr:=bO .lss 3 4 2 1 0 4 (.split (.u 2 0) zK (fX 0 0 7 32 (bO .gtr 3 8 5 3 0 4 (.split (.u 4 0) zK (.need (.call 93 [(W 0 0),(.one (.dK 94 []))] [none]) (.call ⟨.value (.func 93),#[(tT 12),(.func 94)],#[32,165]⟩) 4 false (.split (.u 5 0) zK Pm))))))
def Sa:Tr:=fX 0 0 3 32 Tg
theorem sX:aO prog f19 (fun _=>none) [.v none]=Sa:=by kernel_rfl
def Ta:Tr:=bO .sub 3 7 1 2 0 3 (qI 0 0 3 0 32 5 8 (oX 4 0 none 72 9 (aU 181 [(W 5 0),(G3 1)] [(some 3)] [10,11] [72,39] 39 false (aU 35 [(G3 6)] [none] [12] [39] 3 true (bO .neq 3 13 0 7 0 4 (.ret [(W 8 0)]))))))
def Ud:Tr:=fX 0 0 6 32 Ta
theorem FZ:aO prog f97 (fun _=>none) [.v none, .v (some 3)]=Ud:=by kernel_rfl
def TP:Tr:=fX 0 0 12 32 (bO .sub 3 13 1 4 0 3 (cU .neq 3 10 14 3 0 5 0 4 (.split (.u 6 0) zK (aU 97 [(W 0 0),(.agg [(U 0 1),(U 0 2),(U 0 3)])] [none] [19,21] [32,39] 4 false (.need (.prim [(W 7 0)] none) (.unOp .not 4 (tT 22)) 4 false (.split (.u 8 0) zK LB))))))
def Sw:Tr:=aU 19 [(W 0 0)] [none] [4] [32] 55 false (bO .neq 55 5 0 1 0 4 (.split (.u 2 0) zK (fX 0 4 9 40 TP)))
theorem JT:aO prog f21 (fun _=>none) [.v (some 5)]=Sw:=by kernel_rfl
abbrev cQ (p:List Rat):List aF:=[sQ p]
abbrev eQ (e:List (List Rat)):aF:=.slice 1 (e.map cQ)
def Dx {α:Type} (c:α→Bool):List α→Nat→Int
 | [],_=>-1
 | x::xs,i=>if c x then (i:Int) else Dx c xs (i+1)
theorem DM {α:Type} (c:α→Bool):∀ (l:List α) (i:Nat),decide (0≤Dx c l i)=l.any c
 | [],i=>rfl
 | x::xs,i=>by
   simp only [Dx,List.any_cons];split
   ·rename_i h;rw [h];simp
   ·rename_i h;rw [DM c xs (i+1)];simp [h]
theorem Lf (e:List (List Rat)) (g:Nat) (c:List Rat→Bool) (hc:∀ p∈e,aJ prog g [.one (sQ p)] (.ret [.one (.bool (c p))])) (hs:e.length<1099511627776):aJ prog 180 [(.one (eQ e):aH),(.one (.dK g []):aH)] (.ret [.one (.int .i64 (Dx c e 0))]):=by
 refine aD (args:=[.v none, .v none]) (ins:=[.v (.one (eQ e)), .v (.one (.dK g []))]) (hints:=(fun _=>none)) fo (by kernel_rfl) func180 ⟨rfl,rfl,trivial⟩ ?_;rw [Jg];dsimp only [List.map,In.env,aA,aB];refine vn (aQ uL (List.length_map _)) rfl ?_;dsimp only [aA,aB];refine cJ {i:Nat // i≤e.length∧Dx c e 0=Dx c (e.drop i) i} (fun g=>[.one (.int .i64 0), .one (.int .i64 g.1)]) (fun g=>e.length-g.1) ⟨0,Nat.zero_le _,rfl⟩ aN.rfl (fun _=>rfl) ?_;rintro ⟨i,hi,hf⟩;dsimp only [aA,aB] at hi hf ⊢;refine vn bX rfl ?_;dsimp only [aA,aB];refine vs _ rfl (fun h3=>?_) (fun h3=>?_)
 ·obtain ⟨p,hp⟩:∃ p,e[i]? = some p:=⟨_,List.getElem?_eq_getElem (by omega)⟩
  have hdrop:e.drop i=p::e.drop (i+1):=by
   rw [List.drop_eq_getElem_cons (by omega),(List.getElem?_eq_some_iff.1 hp).2]
  rw [hdrop,Dx] at hf;refine vn (bE uL (by omega) (by omega) hp) rfl ?_;dsimp only [aA,aB];refine vn (dA CB) rfl ?_;dsimp only [aA,aB];refine Ft (f:=g) (caps:=[]) rfl (hc p (List.mem_of_getElem? hp)) rfl ?_;dsimp only [aA,aB];refine zW (c p) rfl (fun h7=>?_) (fun h7=>?_)
  ·rw [hf,if_pos h7];exact aP rfl
  refine vn (aG (by omega) (by omega)) rfl ?_;dsimp only [aA,aB];exact aV rfl ⟨⟨i+1,by omega,by rw [hf,if_neg (by simp [h7])]⟩,aN.rfl,by show e.length-(i+1)<e.length-i;omega⟩
 rw [hf,List.drop_eq_nil_of_le (by omega),Dx];exact aP rfl
theorem DT (e:List (List Rat)) (g:Nat) (c:List Rat→Bool) (hc:∀ p∈e,aJ prog g [.one (sQ p)] (.ret [.one (.bool (c p))])) (hs:e.length<1099511627776):aJ prog 93 [(.one (eQ e):aH),(.one (.dK g []):aH)] (.ret [.one (.bool (e.any c))]):=by
 refine aD (args:=[.v none, .v none]) (ins:=[.v (.one (eQ e)), .v (.one (.dK g []))]) (hints:=(fun _=>none)) fo (by kernel_rfl) func93 ⟨rfl,rfl,trivial⟩ ?_;rw [Db];dsimp only [List.map,In.env,aA,aB];refine aC (Lf e g c hc hs) rfl ?_;dsimp only [aA,aB];refine vn mK rfl ?_;dsimp only [aA,aB];rw [←DM c e 0];exact aP rfl
def BN (p:List Rat):Bool:=decide (41<dH zr p)
theorem qH (p:List Rat) (hs:p.length<1099511627776):aJ prog 94 [(.one (sQ p):aH)] (.ret [.one (.bool (BN p))]):=by
 refine aD (args:=[.v none]) (ins:=[.v (.one (sQ p))]) (hints:=(fun _=>none)) fo (by kernel_rfl) func94 ⟨rfl,trivial⟩ ?_;rw [qD];dsimp only [List.map,In.env,aA,aB];refine aC (sJ p hs) rfl ?_;dsimp only [aA,aB];refine vn nE rfl ?_;dsimp only [aA,aB];refine aP ?_;rw [BN,show decide (41<dH zr p)=decide ((40:Int)<(dH zr p:Int)-1) by rw [decide_eq_decide];omega];rfl
def uE (e:List (List Rat)):Bool:=decide (2≤e.length∧e.length≤5∧(∀ p∈e,dH zr p≤41)∧∀ p,e[e.length-1]? = some p→dH zr p≠0)
theorem mL (e:List (List Rat)) (hs:e.length<1099511627776) (hp:∀ p∈e,p.length<1099511627776):aJ prog 19 [(.one (eQ e):aH)] (.ret [.one (.int .i64 (if uE e then 0 else 2))]):=by
 refine aD (args:=[.v none]) (ins:=[.v (.one (eQ e))]) (hints:=(fun _=>none)) fo (by kernel_rfl) func19 ⟨rfl,trivial⟩ ?_;rw [sX];dsimp only [List.map,In.env,aA,aB];refine vn (aQ uL (List.length_map _)) rfl ?_;dsimp only [aA,aB];refine vn bX rfl ?_;dsimp only [aA,aB];refine vs _ rfl (fun h2=>?_) (fun h2=>?_)
 ·rw [if_neg (by unfold uE;rw [decide_eq_true_iff];omega)];exact aP rfl
 refine vn (aQ uL (List.length_map _)) rfl ?_;dsimp only [aA,aB];refine vn nE rfl ?_;dsimp only [aA,aB];refine vs _ rfl (fun h6=>?_) (fun h6=>?_)
 ·rw [if_neg (by unfold uE;rw [decide_eq_true_iff];omega)];exact aP rfl
 refine aC (DT e 94 BN (fun p hp'=>qH p (hp p hp')) hs) rfl ?_;dsimp only [aA,aB];refine zW (e.any BN) rfl (fun h9=>?_) (fun h9=>?_)
 ·rw [if_neg (by
   unfold uE;rw [decide_eq_true_iff];rintro ⟨_,_,h,_⟩;obtain ⟨p,hp1,hp2⟩:=List.any_eq_true.1 h9;have:=h p hp1;simp [BN] at hp2;omega)];exact aP rfl
 refine vn (aQ uL (List.length_map _)) rfl ?_;dsimp only [aA,aB];refine vn (aI (by omega) (by omega)) rfl ?_;dsimp only [aA,aB];obtain ⟨p,hpl⟩:∃ p,e[e.length-1]? = some p:=⟨_,List.getElem?_eq_getElem (by omega)⟩
 refine vn (bE uL (by omega) (by omega) hpl) rfl ?_;dsimp only [aA,aB];refine vn (dA CB) rfl ?_;dsimp only [aA,aB];refine aC (sJ p (hp p (List.mem_of_getElem? hpl))) rfl ?_;dsimp only [aA,aB];refine vn bX rfl ?_;dsimp only [aA,aB];refine vs _ rfl (fun h17=>?_) (fun h17=>?_)
 ·rw [if_neg (by
   unfold uE;rw [decide_eq_true_iff];rintro ⟨_,_,_,h⟩;have:=h p hpl;omega)];exact aP rfl
 rw [if_pos (by
  unfold uE;rw [decide_eq_true_iff];refine ⟨by omega,by omega,fun p' hp'=>?_,fun p' hp'=>?_⟩
  ·have:=List.any_eq_false.1 h9 p' hp';simp [BN] at this;omega
  ·rw [hpl] at hp';simp only [Option.some.injEq] at hp';subst hp';omega)];exact aP rfl
structure LK (e:List (List Rat)):Prop where
 l:e.length≤64
 p:∀ p∈e,p.length≤64∧∀ q∈p,Fit 513 q
def nR (e:List (List Rat)) (c:Rat):Bool:=decide (∀ p,e[e.length-1]? = some p→gZ p c≠0)
theorem vO (e:List (List Rat)) (c:Rat) (he:LK e) (h0:0<e.length) (hc:Fit 513 c):aJ prog 97 [(.one (eQ e):aH),(qT c:aH)] (.ret [.one (.bool (nR e c))]):=by
 refine aD (args:=[.v none, .v (some 3)]) (ins:=[.v (.one (eQ e)), .v (qT c)]) (hints:=(fun _=>none)) fo (by kernel_rfl) func97 ⟨rfl,rfl,trivial⟩ ?_;rw [FZ];dsimp only [List.map,In.env,aA,aB];have hl:=he.l;refine vn (aQ uL (List.length_map _)) rfl ?_;dsimp only [aA,aB];refine vn (aI (by omega) (by omega)) rfl ?_;dsimp only [aA,aB];obtain ⟨p,hpl⟩:∃ p,e[e.length-1]? = some p:=⟨_,List.getElem?_eq_getElem (by omega)⟩
 obtain ⟨hp1,hp2⟩:=he.p p (List.mem_of_getElem? hpl);refine vn (bE uL (by omega) (by omega) hpl) rfl ?_;dsimp only [aA,aB];refine vn (dA CB) rfl ?_;dsimp only [aA,aB];refine aC (MP p c 513 (by omega) hp2 hc (by omega)) rfl ?_;dsimp only [aA,aB];refine aC (kU _) rfl ?_;dsimp only [aA,aB];refine vn kX rfl ?_;dsimp only [aA,aB];refine aP ?_
 have:nR e c=decide ((gZ p c).num.sign≠0):=by
  unfold nR;rw [decide_eq_decide]
  constructor
  ·intro h hh;exact h p hpl (sign_zero.1 hh)
  ·intro h p' hp' hh;rw [hpl] at hp';simp only [Option.some.injEq] at hp';subst hp';exact h (sign_zero.2 hh)
 rw [this];rfl
def okF (e:List (List Rat)) (c:Rat) (y:List Rat):Bool:=uE e&&decide (y.length=e.length-1)&&nR e c
theorem IG (e:List (List Rat)) (c:Rat) (y:List Rat) (he:LK e) (hc:Fit 513 c) (hy:y.length<1099511627776):aJ prog 21 [(.agg [eQ e,dT c.num.natAbs, .bool (decide (c.num<0)),dT (c.den-1),sQ y]:aH)] (.ret [.one (.int .i64 (if okF e c y then 0 else 2))]):=by
 refine aD (args:=[.v (some 5)]) (ins:=[.v (.agg [eQ e,dT c.num.natAbs, .bool (decide (c.num<0)),dT (c.den-1),sQ y])]) (hints:=(fun _=>none)) fo (by kernel_rfl) func21 ⟨rfl,trivial⟩ ?_;rw [JT];dsimp only [List.map,In.env,aA,aB];have hl:=he.l;have hp:=he.p;refine aC (mL e (by omega) (fun p hp'=>by have:=(hp p hp').1;omega)) rfl ?_;dsimp only [aA,aB];refine vn kX rfl ?_;dsimp only [aA,aB];have h2':decide ((if uE e=true then (0:Int) else 2)≠0) = !uE e:=by cases uE e<;>rfl
 rw [h2'];refine zW (!uE e) rfl (fun h2=>?_) (fun h2=>?_)
 ·rw [if_neg (by simp at h2;simp [okF,h2])];exact aP rfl
 have h2:uE e=true:=by simpa using h2
 have hlen:2≤e.length:=by unfold uE at h2;rw [decide_eq_true_iff] at h2;exact h2.1
 refine vn (aQ xI (List.length_map _)) rfl ?_;dsimp only [aA,aB];refine vn (aQ uL (List.length_map _)) rfl ?_;dsimp only [aA,aB];refine vn (aI (by omega) (by omega)) rfl ?_;dsimp only [aA,aB];refine vn kX rfl ?_;dsimp only [aA,aB];refine vs _ rfl (fun h8=>?_) (fun h8=>?_)
 ·rw [if_neg (by simp [okF];intro _ _;omega)];exact aP rfl
 refine aC (vO e c he (by omega) hc) rfl ?_;dsimp only [aA,aB];refine vn BH rfl ?_;dsimp only [aA,aB];refine zW (!nR e c) rfl (fun h12=>?_) (fun h12=>?_)
 ·rw [if_neg (by simp at h12;simp [okF,h12])];exact aP rfl
 rw [if_pos (by simp at h12;simp [okF,h12,h2];omega)];exact aP rfl
open Go Go.Proofs Tryz Ord
def FW (e:List (List RQ)):List (List Rat):=e.map fun p=>p.map RQ.q
open Go Go.Proofs Tryz Ord
def Tv:Tr:=.need (.idx 5 (.u 3 0)) (.indexAddr 40 (tT 14) (tT 15)) 0 false (.need (.strow 5 3 (.u 3 0) 0 [(.u 7 0),(.u 7 1),(.u 7 2)]) (.store 39 (tT 26) (tT 21)) 0 false (.need (.idx 9 (.u 4 0)) (.indexAddr 40 (tT 16) (tT 17)) 0 false (.need (.strow 9 3 (.u 4 0) 0 [(.u 8 0),(.u 8 1),(.u 8 2)]) (.store 39 (tT 27) (tT 25)) 0 false (bO .add 3 10 1 3 0 3 (bO .sub 3 12 1 4 0 3 (.back 0 [lV 11 0,lV 12 0, .row 10]))))))
def Tt:Tr:=.loop 0 [lK 0,lV 2 0, .row 0] (cU .lss 3 7 8 3 0 4 0 4 (.split (.u 6 0) (.need (.idx 5 (.u 4 0)) (.indexAddr 40 (tT 18) (tT 19)) 0 false (.need (.ldrow 5 (.u 4 0) 0 3 true) (.load 39 (tT 20)) 39 false (.need (.idx 5 (.u 3 0)) (.indexAddr 40 (tT 22) (tT 23)) 0 false (.need (.ldrow 5 (.u 3 0) 0 3 true) (.load 39 (tT 24)) 39 false Tv)))) (.retr [] 5)))
def RD:Tr:=.need (.lenrow 0) (.call ⟨.builtin .len,#[(tT 4)],#[40]⟩) 3 false (bO .sub 3 5 1 1 0 3 Tt)
theorem FB:CY prog f92 (fun _=>none) [.lent 39 3]=RD:=by kernel_rfl
def TC:Tr:=qI 0 0 2 0 242 6 8 (oX 5 0 none 2 10 (aU 68 [(W 6 0)] [(some 3)] [13] [2] 39 true (.need (.lit 3 [[(.u 7 0),(.u 7 1),(.u 7 2)]]) (.buildSlice 72 1 #[(0,(tT 14))]) 72 false (.need (.app 3 56 (some 3) none (some 8)) (.call ⟨.builtin .append,#[(tT 12),(tT 15)],#[72,72]⟩) 72 false (bO .add 3 8 1 2 0 3 (.back 0 [lV 10 0, .row 9]))))))
def Sg:Tr:=fX 0 0 6 242 (.loop 0 [lK 0, .nilrow] (cU .lss 3 8 7 2 0 1 0 0 (.split (.u 4 0) TC (aU 34 [(.one (.c (.sr 3 3)))] [none] [18] [72] 72 true (.ret [(W 5 0)])))))
theorem Ei:aO prog f91 (fun _=>none) [.v none]=Sg:=by kernel_rfl
def NZ:Tr:=.ret [(.agg [tN,tN,(tE (.bool false)),tN,tN]),(WK 2)]
def NW:Tr:=.ret [(.agg [tN,tN,(tE (.bool false)),tN,tN]),(WK 3)]
def Px:Tr:=aU 91 [(.one (.c (.sr 1 9)))] [none] [30] [242] 72 false (.need (.lit 1 [[(.k (.int .i64 1))]]) (.buildSlice 242 1 #[(0,(.const (I3 1)))]) 242 false (aU 91 [(.one (.c (.sr 1 11)))] [none] [32] [242] 72 false (.need (.lit 1 [[(.u 10 0)],[(.u 12 0)]]) (.buildSlice 32 2 #[(0,(tT 31)),(1,(tT 33))]) 32 false (.need (.call 68 [(WK 1)] [(some 3)]) (.call ⟨.value (.func 68),#[(.const (I3 1))],#[2]⟩) 39 false (.need (.lit 3 [[(.u 14 0),(.u 14 1),(.u 14 2)]]) (.buildSlice 40 1 #[(0,(tT 35))]) 40 false (.ret [(.agg [(.c (.sr 1 13)),tN,(tE (.bool false)),tN,(.c (.sr 3 15))]),(WK 0)]))))))
def PK:Tr:=.need (.lit 1 [[(.u 11 0)],[(.k (.slice none 0 0))],[(.u 13 0)]]) (.buildSlice 32 3 #[(0,(tT 41)),(1,(.const (.slice none 0 0))),(2,(tT 43))]) 32 false (.need (.prim [(W 0 0),(.one (.c (.k (.int .u8 3))))] none) (.binOp .eql 5 (tT 104) (.const (.int .u8 3)) 5) 4 false (.split (.u 15 0) (.need (.rop 7 39 3 none [] [] []) (.call ⟨.value (.func 92),#[(tT 111)],#[40]⟩) 0 true (.ret [(.agg [(.c (.sr 1 14)),tN,(tE (.bool false)),tN,(.c (.sr 3 16))]),(WK 0)])) (.need (.prim [(W 0 0),(.one (.c (.k (.int .u8 7))))] none) (.binOp .geq 5 (tT 107) (.const (.int .u8 7)) 5) 4 false (.split (.u 16 0) (.need (.rop 7 39 3 none [] [] []) (.call ⟨.value (.func 92),#[(tT 111)],#[40]⟩) 0 true (.ret [(.agg [(.c (.sr 1 14)),tN,(tE (.bool false)),tN,(.c (.sr 3 17))]),(WK 0)])) (.ret [(.agg [(.c (.sr 1 14)),tN,(tE (.bool false)),tN,(.c (.sr 3 7))]),(WK 0)])))))
def Pv:Tr:=.need (.lit 1 [[(.u 12 0)],[(.k (.slice none 0 0))],[(.u 14 0)]]) (.buildSlice 32 3 #[(0,(tT 49)),(1,(.const (.slice none 0 0))),(2,(tT 51))]) 32 false (.need (.prim [(W 0 0),(.one (.c (.k (.int .u8 3))))] none) (.binOp .eql 5 (tT 104) (.const (.int .u8 3)) 5) 4 false (.split (.u 16 0) (.need (.rop 7 39 3 none [] [] []) (.call ⟨.value (.func 92),#[(tT 111)],#[40]⟩) 0 true (.ret [(.agg [(.c (.sr 1 15)),tN,(tE (.bool false)),tN,(.c (.sr 3 17))]),(WK 0)])) (.need (.prim [(W 0 0),(.one (.c (.k (.int .u8 7))))] none) (.binOp .geq 5 (tT 107) (.const (.int .u8 7)) 5) 4 false (.split (.u 17 0) (.need (.rop 7 39 3 none [] [] []) (.call ⟨.value (.func 92),#[(tT 111)],#[40]⟩) 0 true (.ret [(.agg [(.c (.sr 1 15)),tN,(tE (.bool false)),tN,(.c (.sr 3 18))]),(WK 0)])) (.ret [(.agg [(.c (.sr 1 15)),tN,(tE (.bool false)),tN,(.c (.sr 3 7))]),(WK 0)])))))
def PJ:Tr:=.need (.lit 1 [[(.k (.slice none 0 0))],[(.u 13 0)],[(.u 15 0)]]) (.buildSlice 32 3 #[(0,(.const (.slice none 0 0))),(1,(tT 57)),(2,(tT 59))]) 32 false (.need (.prim [(W 0 0),(.one (.c (.k (.int .u8 3))))] none) (.binOp .eql 5 (tT 104) (.const (.int .u8 3)) 5) 4 false (.split (.u 17 0) (.need (.rop 7 39 3 none [] [] []) (.call ⟨.value (.func 92),#[(tT 111)],#[40]⟩) 0 true (.ret [(.agg [(.c (.sr 1 16)),tN,(tE (.bool false)),tN,(.c (.sr 3 18))]),(WK 0)])) (.need (.prim [(W 0 0),(.one (.c (.k (.int .u8 7))))] none) (.binOp .geq 5 (tT 107) (.const (.int .u8 7)) 5) 4 false (.split (.u 18 0) (.need (.rop 7 39 3 none [] [] []) (.call ⟨.value (.func 92),#[(tT 111)],#[40]⟩) 0 true (.ret [(.agg [(.c (.sr 1 16)),tN,(tE (.bool false)),tN,(.c (.sr 3 19))]),(WK 0)])) (.ret [(.agg [(.c (.sr 1 16)),tN,(tE (.bool false)),tN,(.c (.sr 3 7))]),(WK 0)])))))
def Pp:Tr:=.need (.lit 1 [[(.k (.slice none 0 0))],[(.u 14 0)],[(.u 16 0)]]) (.buildSlice 32 3 #[(0,(.const (.slice none 0 0))),(1,(tT 65)),(2,(tT 67))]) 32 false (.need (.prim [(W 0 0),(.one (.c (.k (.int .u8 3))))] none) (.binOp .eql 5 (tT 104) (.const (.int .u8 3)) 5) 4 false (.split (.u 18 0) (.need (.rop 7 39 3 none [] [] []) (.call ⟨.value (.func 92),#[(tT 111)],#[40]⟩) 0 true (.ret [(.agg [(.c (.sr 1 17)),tN,(tE (.bool false)),tN,(.c (.sr 3 19))]),(WK 0)])) (.need (.prim [(W 0 0),(.one (.c (.k (.int .u8 7))))] none) (.binOp .geq 5 (tT 107) (.const (.int .u8 7)) 5) 4 false (.split (.u 19 0) (.need (.rop 7 39 3 none [] [] []) (.call ⟨.value (.func 92),#[(tT 111)],#[40]⟩) 0 true (.ret [(.agg [(.c (.sr 1 17)),tN,(tE (.bool false)),tN,(.c (.sr 3 20))]),(WK 0)])) (.ret [(.agg [(.c (.sr 1 17)),tN,(tE (.bool false)),tN,(.c (.sr 3 7))]),(WK 0)])))))
def Rv:Tr:=.need (.lit 1 [[(.k (.slice none 0 0))],[(.u 15 0)],[(.u 17 0)]]) (.buildSlice 32 3 #[(0,(.const (.slice none 0 0))),(1,(tT 73)),(2,(tT 75))]) 32 false (.need (.prim [(W 0 0),(.one (.c (.k (.int .u8 3))))] none) (.binOp .eql 5 (tT 104) (.const (.int .u8 3)) 5) 4 false (.split (.u 19 0) (.need (.rop 7 39 3 none [] [] []) (.call ⟨.value (.func 92),#[(tT 111)],#[40]⟩) 0 true (.ret [(.agg [(.c (.sr 1 18)),tN,(tE (.bool false)),tN,(.c (.sr 3 20))]),(WK 0)])) (.need (.prim [(W 0 0),(.one (.c (.k (.int .u8 7))))] none) (.binOp .geq 5 (tT 107) (.const (.int .u8 7)) 5) 4 false (.split (.u 20 0) (.need (.rop 7 39 3 none [] [] []) (.call ⟨.value (.func 92),#[(tT 111)],#[40]⟩) 0 true (.ret [(.agg [(.c (.sr 1 18)),tN,(tE (.bool false)),tN,(.c (.sr 3 21))]),(WK 0)])) (.ret [(.agg [(.c (.sr 1 18)),tN,(tE (.bool false)),tN,(.c (.sr 3 7))]),(WK 0)])))))
def GD:Tr:=.need (.prim [(W 0 0),(.one (.c (.k (.int .u8 3))))] none) (.binOp .eql 5 (tT 104) (.const (.int .u8 3)) 5) 4 false (.split (.u 24 0) (.need (.rop 7 39 3 none [] [] []) (.call ⟨.value (.func 92),#[(tT 111)],#[40]⟩) 0 true (.ret [(.agg [(.c (.sr 1 23)),tN,(tE (.bool false)),tN,(.c (.sr 3 25))]),(WK 0)])) (.need (.prim [(W 0 0),(.one (.c (.k (.int .u8 7))))] none) (.binOp .geq 5 (tT 107) (.const (.int .u8 7)) 5) 4 false (.split (.u 25 0) (.need (.rop 7 39 3 none [] [] []) (.call ⟨.value (.func 92),#[(tT 111)],#[40]⟩) 0 true (.ret [(.agg [(.c (.sr 1 23)),tN,(tE (.bool false)),tN,(.c (.sr 3 26))]),(WK 0)])) (.ret [(.agg [(.c (.sr 1 23)),tN,(tE (.bool false)),tN,(.c (.sr 3 7))]),(WK 0)]))))
def MX:Tr:=.need (.lit 1 [[(.u 16 0)]]) (.buildSlice 242 1 #[(0,(tT 83))]) 242 false (aU 91 [(.one (.c (.sr 1 17)))] [none] [84] [242] 72 false (.need (.lit 1 [[(.k (.int .i64 0))],[(.k (.int .i64 (-2)))]]) (.buildSlice 242 2 #[(0,(.const (I3 0))),(1,(.const (I3 (-2))))]) 242 false (aU 91 [(.one (.c (.sr 1 19)))] [none] [86] [242] 72 false (.need (.lit 1 [[(.k (.int .i64 1))],[(.k (.int .i64 0))],[(.k (.int .i64 (-1)))]]) (.buildSlice 242 3 #[(0,(.const (I3 1))),(1,(.const (I3 0))),(2,(.const (I3 (-1))))]) 242 false (aU 91 [(.one (.c (.sr 1 21)))] [none] [88] [242] 72 true (.need (.lit 1 [[(.u 18 0)],[(.u 20 0)],[(.u 22 0)]]) (.buildSlice 32 3 #[(0,(tT 85)),(1,(tT 87)),(2,(tT 89))]) 32 false GD))))))
def NB:Tr:=.need (.lit 1 [[(.u 16 0)]]) (.buildSlice 242 1 #[(0,(tT 95))]) 242 false (aU 91 [(.one (.c (.sr 1 17)))] [none] [96] [242] 72 false (.need (.lit 1 [[(.k (.int .i64 0))],[(.k (.int .i64 (-2)))]]) (.buildSlice 242 2 #[(0,(.const (I3 0))),(1,(.const (I3 (-2))))]) 242 false (aU 91 [(.one (.c (.sr 1 19)))] [none] [98] [242] 72 false (.need (.lit 1 [[(.k (.int .i64 1))]]) (.buildSlice 242 1 #[(0,(.const (I3 1)))]) 242 false (aU 91 [(.one (.c (.sr 1 21)))] [none] [100] [242] 72 true (.need (.lit 1 [[(.u 18 0)],[(.u 20 0)],[(.u 22 0)]]) (.buildSlice 32 3 #[(0,(tT 97)),(1,(tT 99)),(2,(tT 101))]) 32 false GD))))))
def Nw:Tr:=.split (.u 15 0) (.need (.prim [(WK 2),(W 1 0)] none) (.binOp .mul 2 (.const (I3 2)) (tT 94) 2) 2 false NB) (.need (.prim [(W 0 0),(.one (.c (.k (.int .u8 3))))] none) (.binOp .eql 5 (tT 104) (.const (.int .u8 3)) 5) 4 false (.split (.u 16 0) (.need (.rop 7 39 3 none [] [] []) (.call ⟨.value (.func 92),#[(tT 111)],#[40]⟩) 0 true (.ret [(.agg [tN,tN,(tE (.bool false)),tN,(.c (.sr 3 17))]),(WK 0)])) (.need (.prim [(W 0 0),(.one (.c (.k (.int .u8 7))))] none) (.binOp .geq 5 (tT 107) (.const (.int .u8 7)) 5) 4 false (.split (.u 17 0) (.need (.rop 7 39 3 none [] [] []) (.call ⟨.value (.func 92),#[(tT 111)],#[40]⟩) 0 true (.ret [(.agg [tN,tN,(tE (.bool false)),tN,(.c (.sr 3 18))]),(WK 0)])) (.ret [(.agg [tN,tN,(tE (.bool false)),tN,(.c (.sr 3 7))]),(WK 0)])))))
def OC:Tr:=.split (.u 12 0) (.need (.lit 1 [[(.k (.int .i64 1))]]) (.buildSlice 242 1 #[(0,(.const (I3 1)))]) 242 false (aU 91 [(.one (.c (.sr 1 13)))] [none] [64] [242] 72 false (.need (.lit 1 [[(.k (.int .i64 1))],[(.k (.int .i64 1))]]) (.buildSlice 242 2 #[(0,(.const (I3 1))),(1,(.const (I3 1)))]) 242 false (aU 91 [(.one (.c (.sr 1 15)))] [none] [66] [242] 72 true Pp)))) (.need (.prim [(W 0 0),(.one (.c (.k (.int .u8 6))))] none) (.binOp .eql 5 (tT 27) (.const (.int .u8 6)) 5) 4 false (.split (.u 13 0) (.need (.lit 1 [[(.k (.int .i64 0))],[(.k (.int .i64 2))]]) (.buildSlice 242 2 #[(0,(.const (I3 0))),(1,(.const (I3 2)))]) 242 false (aU 91 [(.one (.c (.sr 1 14)))] [none] [72] [242] 72 false (.need (.lit 1 [[(.k (.int .i64 1))],[(.k (.int .i64 0))],[(.k (.int .i64 1))]]) (.buildSlice 242 3 #[(0,(.const (I3 1))),(1,(.const (I3 0))),(2,(.const (I3 1)))]) 242 false (aU 91 [(.one (.c (.sr 1 16)))] [none] [74] [242] 72 true Rv)))) (.need (.prim [(W 0 0),(.one (.c (.k (.int .u8 7))))] none) (.binOp .eql 5 (tT 27) (.const (.int .u8 7)) 5) 4 false (.split (.u 14 0) (bO .add 2 81 1 1 0 2 (cU .mul 2 80 82 1 0 15 0 2 MX)) (.need (.prim [(W 0 0),(.one (.c (.k (.int .u8 8))))] none) (.binOp .eql 5 (tT 27) (.const (.int .u8 8)) 5) 4 false Nw)))))
def Rs:Tr:=.split (.u 10 0) (.need (.lit 1 [[(.k (.int .i64 0))],[(.k (.int .i64 (-1)))]]) (.buildSlice 242 2 #[(0,(.const (I3 0))),(1,(.const (I3 (-1))))]) 242 false (aU 91 [(.one (.c (.sr 1 11)))] [none] [48] [242] 72 false (.need (.lit 1 [[(.k (.int .i64 1))]]) (.buildSlice 242 1 #[(0,(.const (I3 1)))]) 242 false (aU 91 [(.one (.c (.sr 1 13)))] [none] [50] [242] 72 true Pv)))) (.need (.prim [(W 0 0),(.one (.c (.k (.int .u8 4))))] none) (.binOp .eql 5 (tT 27) (.const (.int .u8 4)) 5) 4 false (.split (.u 11 0) (.need (.lit 1 [[(.k (.int .i64 0))],[(.k (.int .i64 2))]]) (.buildSlice 242 2 #[(0,(.const (I3 0))),(1,(.const (I3 2)))]) 242 false (aU 91 [(.one (.c (.sr 1 12)))] [none] [56] [242] 72 false (.need (.lit 1 [[(.k (.int .i64 1))]]) (.buildSlice 242 1 #[(0,(.const (I3 1)))]) 242 false (aU 91 [(.one (.c (.sr 1 14)))] [none] [58] [242] 72 true PJ)))) (.need (.prim [(W 0 0),(.one (.c (.k (.int .u8 5))))] none) (.binOp .eql 5 (tT 27) (.const (.int .u8 5)) 5) 4 false OC)))
def PL:Tr:=.split (.u 8 0) (.need (.lit 1 [[(.k (.int .i64 (-1)))]]) (.buildSlice 242 1 #[(0,(.const (I3 (-1))))]) 242 false Px) (.need (.prim [(W 0 0),(.one (.c (.k (.int .u8 2))))] none) (.binOp .eql 5 (tT 27) (.const (.int .u8 2)) 5) 4 false (.split (.u 9 0) (.need (.lit 1 [[(.k (.int .i64 1))]]) (.buildSlice 242 1 #[(0,(.const (I3 1)))]) 242 false (aU 91 [(.one (.c (.sr 1 10)))] [none] [40] [242] 72 false (.need (.lit 1 [[(.k (.int .i64 1))]]) (.buildSlice 242 1 #[(0,(.const (I3 1)))]) 242 false (aU 91 [(.one (.c (.sr 1 12)))] [none] [42] [242] 72 true PK)))) (.need (.prim [(W 0 0),(.one (.c (.k (.int .u8 3))))] none) (.binOp .eql 5 (tT 27) (.const (.int .u8 3)) 5) 4 false Rs)))
def Uf:Tr:=bO .lss 3 15 0 1 0 4 (.split (.u 4 0) NW (bO .gtr 3 18 40 1 0 4 (.split (.u 5 0) NW (.need (.call 68 [(WK 1)] [(some 3)]) (.call ⟨.value (.func 68),#[(.const (I3 1))],#[2]⟩) 39 false (.need (.lit 3 [[(.k (.slice none 0 0)),(.k (.bool false)),(.k (.slice none 0 0))],[(.u 6 0),(.u 6 1),(.u 6 2)]]) (.buildSlice 40 2 #[(0,(tT 23)),(1,(tT 24))]) 40 false (.need (.prim [(W 0 0),(.one (.c (.k (.int .u8 1))))] none) (.binOp .eql 5 (tT 27) (.const (.int .u8 1)) 5) 4 false PL))))))
def Sq:Tr:=.need (.prim [(W 0 0),(.one (.c (.k (.int .u8 1))))] none) (.binOp .lss 5 (tT 8) (.const (.int .u8 1)) 5) 4 false (.split (.u 2 0) NZ (.need (.prim [(W 0 0),(.one (.c (.k (.int .u8 8))))] none) (.binOp .gtr 5 (tT 11) (.const (.int .u8 8)) 5) 4 false (.split (.u 3 0) NZ Uf)))
theorem ID:aO prog f18 (fun _=>none) [.v none, .v none]=Sq:=by kernel_rfl
theorem qE (a0 a1 a2 b0 b1 b2:aF):pE prog 92 39 3 [] [] ([[a0,a1,a2],[b0,b1,b2]]) [] ([[b0,b1,b2],[a0,a1,a2]]):=by
 refine vR (a1:=[]) (a2:=[]) (i1:=[]) (i2:=[]) (hints:=(fun _=>none)) fo (by kernel_rfl) func92 trivial trivial (by kernel_rfl) ?_ ?_ ?_ ?_
 ·simp [rT]
 ·simp [rT]
 ·simp [rT]
 dsimp only [aA,aB];rw [FB];dsimp only [List.map,In.env,aA,aB];refine Fe (n:=2) rfl rfl ?_;dsimp only [aA,aB];refine vn (aI (by omega) (by omega)) rfl ?_;dsimp only [aA,aB];refine cJ Bool (fun g=>if g then [.one (.int .i64 1), .one (.int .i64 0), .rows [[b0,b1,b2],[a0,a1,a2]]] else [.one (.int .i64 0), .one (.int .i64 1), .rows [[a0,a1,a2],[b0,b1,b2]]]) (fun g=>if g then 0 else 1) false aN.rfl (fun g=>by cases g<;>rfl) ?_;intro g;cases g
 case true=>
  show vc _ _ _ [_,_,_, .one (.int .i64 1), .one (.int .i64 0), .rows [[b0,b1,b2],[a0,a1,a2]]] _;refine vn bX rfl ?_;refine vs _ rfl (fun h=>absurd h (by decide)) (fun _=>?_);exact KC rfl rfl
 show vc _ _ _ [_,_,_, .one (.int .i64 0), .one (.int .i64 1), .rows [[a0,a1,a2],[b0,b1,b2]]] _;refine vn bX rfl ?_;dsimp only [aA,aB];refine vs _ rfl (fun _=>?_) (fun h=>absurd (by decide) h);refine nB rfl rfl (by decide) (by simp) ?_;refine Un (t:=.agg [b0,b1,b2]) rfl rfl (by decide) rfl (.inl rfl) rfl ?_;dsimp only [aA,aB,IA,List.drop,List.take];refine nB rfl rfl (by decide) (by simp) ?_;refine Un (t:=.agg [a0,a1,a2]) rfl rfl (by decide) rfl (.inl rfl) rfl ?_;dsimp only [aA,aB,IA,List.drop,List.take];refine nB rfl rfl (by decide) (by simp) ?_;refine ED (us:=[[b0,b1,b2],[b0,b1,b2]]) rfl rfl (by decide) rfl rfl ?_;dsimp only [aA,aB];refine nB rfl rfl (by decide) (by simp) ?_;refine ED (us:=[[b0,b1,b2],[a0,a1,a2]]) rfl rfl (by decide) rfl rfl ?_;dsimp only [aA,aB];refine vn (aG (by omega) (by omega)) rfl ?_;dsimp only [aA,aB];refine vn (aI (by omega) (by omega)) rfl ?_;dsimp only [aA,aB];exact aV rfl ⟨true,aN.rfl,by decide⟩
abbrev sI (l:List Int):aF:=.slice 1 (l.map fun n=>[aF.int .i64 n])
def ints (l:List Int):List Rat:=trim (l.map fun n:Int=>(n:Rat))
def mF (l:List Int):Prop:=∀ n∈l,-9223372036854775808≤n∧n<9223372036854775808
theorem aX (l:List Int) (h:mF l) (hs:l.length<1099511627776):aJ prog 91 [(.one (sI l):aH)] (.ret [.one (sQ (ints l))]):=by
 refine aD (args:=[.v none]) (ins:=[.v (.one (sI l))]) (hints:=(fun _=>none)) fo (by kernel_rfl) func91 ⟨rfl,trivial⟩ ?_;rw [Ei];dsimp only [List.map,In.env,aA,aB];refine vn (aQ NR (List.length_map _)) rfl ?_;dsimp only [aA,aB];refine cJ {i:Nat // i≤l.length} (fun g=>[.one (.int .i64 g.1), .rows (rQ ((l.take g.1).map fun n:Int=>(n:Rat)))]) (fun g=>l.length-g.1) ⟨0,Nat.zero_le _⟩ aN.rfl (fun _=>rfl) ?_;rintro ⟨i,hi⟩;dsimp only [aA,aB] at hi ⊢;refine vn bX rfl ?_;dsimp only [aA,aB];refine vs _ rfl (fun h3=>?_) (fun h3=>?_)
 ·obtain ⟨n,hn⟩:∃ n,l[i]? = some n:=⟨_,List.getElem?_eq_getElem (by omega)⟩
  obtain ⟨hn1,hn2⟩:=h n (List.mem_of_getElem? hn);have hl:((l.take i).map fun n:Int=>(n:Rat)).length≤i:=by simp;omega
  refine vn (bE NR (by omega) (by omega) hn) rfl ?_;dsimp only [aA,aB];refine vn (dA VK) rfl ?_;dsimp only [aA,aB];refine aC (fK n hn1 hn2) rfl ?_;dsimp only [aA,aB];refine eS (us:=[qC (n:Rat)]) rfl ?_;dsimp only [aA,aB];refine NU (xs:=(l.take i).map fun n:Int=>(n:Rat)) (x:=(n:Rat)) (f:=qC) rfl rfl (by omega) (by simp only [maxLen];omega) ?_;rw [Hy (f:=fun n:Int=>(n:Rat)) hn];dsimp only [aA,aB];refine vn (aG (by omega) (by omega)) rfl ?_;dsimp only [aA,aB];exact aV rfl ⟨⟨i+1,by omega⟩,aN.rfl,by show l.length-(i+1)<l.length-i;omega⟩
 rw [show i=l.length by omega,List.take_length];refine aC (rP (l.map fun n:Int=>(n:Rat)) (by simpa using hs)) rfl ?_;exact aP rfl
def fQ (l:List Int):List RQ:=iW (l.map fun n:Int=>RQ.of (n:Rat))
theorem Nz (l:List Int):(fQ l).map RQ.q=ints l:=by
 rw [fQ,mG,ints,List.map_map];rfl
def kE (k:Nat) (n:Int):List (List Rat):=
 match k with
 | 1=>[ints [-1],ints [1]]
 | 2=>[ints [1],[],ints [1]]
 | 3=>[ints [0,-1],[],ints [1]]
 | 4=>[[],ints [0,2],ints [1]]
 | 5=>[[],ints [1],ints [1,1]]
 | 6=>[[],ints [0,2],ints [1,0,1]]
 | 7=>[ints [n*(n+1)],ints [0,-2],ints [1,0,-1]]
 | _=>[ints [2*n],ints [0,-2],ints [1]]
def kY (k:Nat):List Rat:=
 match k with
 | 1=>[1]
 | 3=>[1,0]
 | 7=>[1,0]
 | 8=>[1,0]
 | _=>[0,1]
def gC (k:Nat) (n:Int):List (List Rat)×List Rat×Int:=
 if k<1∨8<k then ([],[],2) else if n<0∨40<n then ([],[],3) else (kE k n,kY k,0)
abbrev fT (e:List (List Rat)) (c:Rat) (y:List Rat):aH:=.agg [eQ e,dT c.num.natAbs, .bool (decide (c.num<0)),dT (c.den-1),sQ y]
theorem Cj:aM (aM aF.Sub) [[.exact (.slice none 0 0), .bool false, .exact (.slice none 0 0)],qC 1] [qC 0,qC 1]:=⟨gW,⟨aF.Sub.same,aF.Sub.same,aF.Sub.same,trivial⟩,trivial⟩
theorem Fl:aM (aM aF.Sub) [qC 1,[.exact (.slice none 0 0), .bool false, .exact (.slice none 0 0)]] [qC 1,qC 0]:=⟨⟨aF.Sub.same,aF.Sub.same,aF.Sub.same,trivial⟩,gW,trivial⟩
theorem TM (p q:List Rat):aM (aM aF.Sub) [[sQ p],[.exact (.slice none 0 0)],[sQ q]] [cQ p,cQ [],cQ q]:=⟨⟨aF.Sub.same,trivial⟩,⟨aF.Sub.nil,trivial⟩,⟨aF.Sub.same,trivial⟩,trivial⟩
theorem IP (p q:List Rat):aM (aM aF.Sub) [[.exact (.slice none 0 0)],[sQ p],[sQ q]] [cQ [],cQ p,cQ q]:=⟨⟨aF.Sub.nil,trivial⟩,⟨aF.Sub.same,trivial⟩,⟨aF.Sub.same,trivial⟩,trivial⟩
set_option maxHeartbeats 2000000 in
theorem Jl (k:Nat) (n:Int) (hk:k<256) (h1:-9223372036854775808≤n) (h2:n<9223372036854775808):aJ prog 18 [(.one (.int .u8 k):aH),(.one (.int .i64 n):aH)] (.ret [fT (gC k n).1 0 (gC k n).2.1, .one (.int .i64 (gC k n).2.2)]):=by
 refine aD (args:=[.v none, .v none]) (ins:=[.v (.one (.int .u8 k)), .v (.one (.int .i64 n))]) (hints:=(fun _=>none)) fo (by kernel_rfl) func18 ⟨rfl,rfl,trivial⟩ ?_;rw [ID];dsimp only [List.map,In.env,aA,aB];refine vn bX rfl ?_;dsimp only [aA,aB];refine vs _ rfl (fun h1=>?_) (fun h1'=>?_)
 ·rw [gC,if_pos (by omega)];exact eP ⟨⟨aF.Sub.nil,gD rfl,aF.Sub.same,gD rfl,aF.Sub.nil,trivial⟩,aH.Sub.same,trivial⟩
 refine vn nE rfl ?_;dsimp only [aA,aB];refine vs _ rfl (fun h4=>?_) (fun h4=>?_)
 ·rw [gC,if_pos (by omega)];exact eP ⟨⟨aF.Sub.nil,gD rfl,aF.Sub.same,gD rfl,aF.Sub.nil,trivial⟩,aH.Sub.same,trivial⟩
 refine vn bX rfl ?_;dsimp only [aA,aB];refine vs _ rfl (fun h7=>?_) (fun h7=>?_)
 ·rw [gC,if_neg (by omega),if_pos (by omega)];exact eP ⟨⟨aF.Sub.nil,gD rfl,aF.Sub.same,gD rfl,aF.Sub.nil,trivial⟩,aH.Sub.same,trivial⟩
 refine vn nE rfl ?_;dsimp only [aA,aB];refine vs _ rfl (fun h10=>?_) (fun h10=>?_)
 ·rw [gC,if_neg (by omega),if_pos (by omega)];exact eP ⟨⟨aF.Sub.nil,gD rfl,aF.Sub.same,gD rfl,aF.Sub.nil,trivial⟩,aH.Sub.same,trivial⟩
 refine aC (fK 1 (by omega) (by omega)) rfl ?_;dsimp only [aA,aB];rw [gC,if_neg (by omega),if_neg (by omega)];refine eS (us:=[[.exact (.slice none 0 0), .bool false, .exact (.slice none 0 0)],qC 1]) rfl ?_;dsimp only [aA,aB];refine vn cK rfl ?_;dsimp only [aA,aB];refine vs _ rfl (fun h15=>?_) (fun h15=>?_)
 ·obtain rfl:k=1:=by omega
  refine eS (us:=[[.int .i64 (-1)]]) rfl ?_;dsimp only [aA,aB];refine aC (aX [-1] (by simp [mF]) (by simp)) rfl ?_;dsimp only [aA,aB];refine eS (us:=[[.int .i64 1]]) rfl ?_;dsimp only [aA,aB];refine aC (aX [1] (by simp [mF]) (by simp)) rfl ?_;dsimp only [aA,aB];refine eS (us:=[[sQ (ints [-1])],[sQ (ints [1])]]) rfl ?_;dsimp only [aA,aB];refine aC (fK 1 (by omega) (by omega)) rfl ?_;dsimp only [aA,aB];refine eS (us:=[qC 1]) rfl ?_;dsimp only [aA,aB];exact eP ⟨⟨aF.Sub.same,gD rfl,aF.Sub.same,gD rfl,aF.Sub.same,trivial⟩,aH.Sub.same,trivial⟩
 refine vn cK rfl ?_;dsimp only [aA,aB];refine vs _ rfl (fun h25=>?_) (fun h25=>?_)
 ·obtain rfl:k=2:=by omega
  refine eS (us:=[[.int .i64 1]]) rfl ?_;dsimp only [aA,aB];refine aC (aX [1] (by simp [mF]) (by simp)) rfl ?_;dsimp only [aA,aB];refine eS (us:=[[.int .i64 1]]) rfl ?_;dsimp only [aA,aB];refine aC (aX [1] (by simp [mF]) (by simp)) rfl ?_;dsimp only [aA,aB];refine eS (us:=[[sQ (ints [1])],[.exact (.slice none 0 0)],[sQ (ints [1])]]) rfl ?_;dsimp only [aA,aB];refine vn cK rfl ?_;dsimp only [aA,aB];refine vs _ rfl (fun h32=>?_) (fun h32=>?_)
  ·exfalso;omega
  refine vn mK rfl ?_;dsimp only [aA,aB];refine vs _ rfl (fun h36=>?_) (fun h36=>?_)
  ·exfalso;omega
  exact eP ⟨⟨aF.Sub.slice (TM _ _),gD rfl,aF.Sub.same,gD rfl,aF.Sub.slice Cj,trivial⟩,aH.Sub.same,trivial⟩
 refine vn cK rfl ?_;dsimp only [aA,aB];refine vs _ rfl (fun h41=>?_) (fun h41=>?_)
 ·obtain rfl:k=3:=by omega
  refine eS (us:=[[.int .i64 0],[.int .i64 (-1)]]) rfl ?_;dsimp only [aA,aB];refine aC (aX [0,-1] (by simp [mF]) (by simp)) rfl ?_;dsimp only [aA,aB];refine eS (us:=[[.int .i64 1]]) rfl ?_;dsimp only [aA,aB];refine aC (aX [1] (by simp [mF]) (by simp)) rfl ?_;dsimp only [aA,aB];refine eS (us:=[[sQ (ints [0,-1])],[.exact (.slice none 0 0)],[sQ (ints [1])]]) rfl ?_;dsimp only [aA,aB];refine vn cK rfl ?_;dsimp only [aA,aB];refine vs _ rfl (fun h48=>?_) (fun h48=>?_)
  ·refine Iv (n:=0) (us:=[[.exact (.slice none 0 0), .bool false, .exact (.slice none 0 0)],qC 1]) (rs:=[]) (vs:=[qC 1,[.exact (.slice none 0 0), .bool false, .exact (.slice none 0 0)]]) rfl ⟨rfl,rfl⟩ (by simp) rfl (oJ rfl (qE _ _ _ _ _ _)) rfl ?_;dsimp only [aA,aB];exact eP ⟨⟨aF.Sub.slice (TM _ _),gD rfl,aF.Sub.same,gD rfl,aF.Sub.slice Fl,trivial⟩,aH.Sub.same,trivial⟩
  refine vn mK rfl ?_;dsimp only [aA,aB];refine vs _ rfl (fun h52=>?_) (fun h52=>?_)
  ·exfalso;omega
  exfalso;omega
 refine vn cK rfl ?_;dsimp only [aA,aB];refine vs _ rfl (fun h57=>?_) (fun h57=>?_)
 ·obtain rfl:k=4:=by omega
  refine eS (us:=[[.int .i64 0],[.int .i64 2]]) rfl ?_;dsimp only [aA,aB];refine aC (aX [0,2] (by simp [mF]) (by simp)) rfl ?_;dsimp only [aA,aB];refine eS (us:=[[.int .i64 1]]) rfl ?_;dsimp only [aA,aB];refine aC (aX [1] (by simp [mF]) (by simp)) rfl ?_;dsimp only [aA,aB];refine eS (us:=[[.exact (.slice none 0 0)],[sQ (ints [0,2])],[sQ (ints [1])]]) rfl ?_;dsimp only [aA,aB];refine vn cK rfl ?_;dsimp only [aA,aB];refine vs _ rfl (fun h64=>?_) (fun h64=>?_)
  ·exfalso;omega
  refine vn mK rfl ?_;dsimp only [aA,aB];refine vs _ rfl (fun h68=>?_) (fun h68=>?_)
  ·exfalso;omega
  exact eP ⟨⟨aF.Sub.slice (IP _ _),gD rfl,aF.Sub.same,gD rfl,aF.Sub.slice Cj,trivial⟩,aH.Sub.same,trivial⟩
 refine vn cK rfl ?_;dsimp only [aA,aB];refine vs _ rfl (fun h73=>?_) (fun h73=>?_)
 ·obtain rfl:k=5:=by omega
  refine eS (us:=[[.int .i64 1]]) rfl ?_;dsimp only [aA,aB];refine aC (aX [1] (by simp [mF]) (by simp)) rfl ?_;dsimp only [aA,aB];refine eS (us:=[[.int .i64 1],[.int .i64 1]]) rfl ?_;dsimp only [aA,aB];refine aC (aX [1,1] (by simp [mF]) (by simp)) rfl ?_;dsimp only [aA,aB];refine eS (us:=[[.exact (.slice none 0 0)],[sQ (ints [1])],[sQ (ints [1,1])]]) rfl ?_;dsimp only [aA,aB];refine vn cK rfl ?_;dsimp only [aA,aB];refine vs _ rfl (fun h80=>?_) (fun h80=>?_)
  ·exfalso;omega
  refine vn mK rfl ?_;dsimp only [aA,aB];refine vs _ rfl (fun h84=>?_) (fun h84=>?_)
  ·exfalso;omega
  exact eP ⟨⟨aF.Sub.slice (IP _ _),gD rfl,aF.Sub.same,gD rfl,aF.Sub.slice Cj,trivial⟩,aH.Sub.same,trivial⟩
 refine vn cK rfl ?_;dsimp only [aA,aB];refine vs _ rfl (fun h89=>?_) (fun h89=>?_)
 ·obtain rfl:k=6:=by omega
  refine eS (us:=[[.int .i64 0],[.int .i64 2]]) rfl ?_;dsimp only [aA,aB];refine aC (aX [0,2] (by simp [mF]) (by simp)) rfl ?_;dsimp only [aA,aB];refine eS (us:=[[.int .i64 1],[.int .i64 0],[.int .i64 1]]) rfl ?_;dsimp only [aA,aB];refine aC (aX [1,0,1] (by simp [mF]) (by simp)) rfl ?_;dsimp only [aA,aB];refine eS (us:=[[.exact (.slice none 0 0)],[sQ (ints [0,2])],[sQ (ints [1,0,1])]]) rfl ?_;dsimp only [aA,aB];refine vn cK rfl ?_;dsimp only [aA,aB];refine vs _ rfl (fun h96=>?_) (fun h96=>?_)
  ·exfalso;omega
  refine vn mK rfl ?_;dsimp only [aA,aB];refine vs _ rfl (fun h100=>?_) (fun h100=>?_)
  ·exfalso;omega
  exact eP ⟨⟨aF.Sub.slice (IP _ _),gD rfl,aF.Sub.same,gD rfl,aF.Sub.slice Cj,trivial⟩,aH.Sub.same,trivial⟩
 refine vn cK rfl ?_;dsimp only [aA,aB];refine vs _ rfl (fun h105=>?_) (fun h105=>?_)
 ·obtain rfl:k=7:=by omega
  have hnn:n*(n+1)≤40*41:=by
   have:=Int.mul_le_mul (a:=n) (b:=n+1) (c:=40) (d:=41) (by omega) (by omega) (by omega) (by omega);omega
  have hn0:0≤n*(n+1):=Int.mul_nonneg (by omega) (by omega);refine vn (aG (by omega) (by omega)) rfl ?_;dsimp only [aA,aB];refine vn (wU (c:=n*(n+1)) (lR (by omega) (by omega))) rfl ?_;dsimp only [aA,aB];refine eS (us:=[[.int .i64 (n*(n+1))]]) rfl ?_;dsimp only [aA,aB];refine aC (aX [n*(n+1)] (by simp only [mF,List.mem_singleton,forall_eq];omega) (by simp)) rfl ?_;dsimp only [aA,aB];refine eS (us:=[[.int .i64 0],[.int .i64 (-2)]]) rfl ?_;dsimp only [aA,aB];refine aC (aX [0,-2] (by simp [mF]) (by simp)) rfl ?_;dsimp only [aA,aB];refine eS (us:=[[.int .i64 1],[.int .i64 0],[.int .i64 (-1)]]) rfl ?_;dsimp only [aA,aB];refine aC (aX [1,0,-1] (by simp [mF]) (by simp)) rfl ?_;dsimp only [aA,aB];refine eS (us:=[[sQ (ints [n*(n+1)])],[sQ (ints [0,-2])],[sQ (ints [1,0,-1])]]) rfl ?_;dsimp only [aA,aB];refine vn cK rfl ?_;dsimp only [aA,aB];refine vs _ rfl (fun h116=>?_) (fun h116=>?_)
  ·exfalso;omega
  refine vn mK rfl ?_;dsimp only [aA,aB];refine vs _ rfl (fun h120=>?_) (fun h120=>?_)
  ·refine Iv (n:=0) (us:=[[.exact (.slice none 0 0), .bool false, .exact (.slice none 0 0)],qC 1]) (rs:=[]) (vs:=[qC 1,[.exact (.slice none 0 0), .bool false, .exact (.slice none 0 0)]]) rfl ⟨rfl,rfl⟩ (by simp) rfl (oJ rfl (qE _ _ _ _ _ _)) rfl ?_;dsimp only [aA,aB];exact eP ⟨⟨aF.Sub.same,gD rfl,aF.Sub.same,gD rfl,aF.Sub.slice Fl,trivial⟩,aH.Sub.same,trivial⟩
  exfalso;omega
 refine vn cK rfl ?_;dsimp only [aA,aB];refine vs _ rfl (fun h125=>?_) (fun h125=>?_)
 ·obtain rfl:k=8:=by omega
  refine vn (mN (by omega) (by omega)) rfl ?_;dsimp only [aA,aB];refine eS (us:=[[.int .i64 (2*n)]]) rfl ?_;dsimp only [aA,aB];refine aC (aX [2*n] (by simp only [mF,List.mem_singleton,forall_eq];omega) (by simp)) rfl ?_;dsimp only [aA,aB];refine eS (us:=[[.int .i64 0],[.int .i64 (-2)]]) rfl ?_;dsimp only [aA,aB];refine aC (aX [0,-2] (by simp [mF]) (by simp)) rfl ?_;dsimp only [aA,aB];refine eS (us:=[[.int .i64 1]]) rfl ?_;dsimp only [aA,aB];refine aC (aX [1] (by simp [mF]) (by simp)) rfl ?_;dsimp only [aA,aB];refine eS (us:=[[sQ (ints [2*n])],[sQ (ints [0,-2])],[sQ (ints [1])]]) rfl ?_;dsimp only [aA,aB];refine vn cK rfl ?_;dsimp only [aA,aB];refine vs _ rfl (fun h135=>?_) (fun h135=>?_)
  ·exfalso;omega
  refine vn mK rfl ?_;dsimp only [aA,aB];refine vs _ rfl (fun h139=>?_) (fun h139=>?_)
  ·refine Iv (n:=0) (us:=[[.exact (.slice none 0 0), .bool false, .exact (.slice none 0 0)],qC 1]) (rs:=[]) (vs:=[qC 1,[.exact (.slice none 0 0), .bool false, .exact (.slice none 0 0)]]) rfl ⟨rfl,rfl⟩ (by simp) rfl (oJ rfl (qE _ _ _ _ _ _)) rfl ?_;dsimp only [aA,aB];exact eP ⟨⟨aF.Sub.same,gD rfl,aF.Sub.same,gD rfl,aF.Sub.slice Fl,trivial⟩,aH.Sub.same,trivial⟩
  exfalso;omega
 refine vn cK rfl ?_;dsimp only [aA,aB];refine vs _ rfl (fun h144=>?_) (fun h144=>?_)
 ·exfalso;omega
 refine vn mK rfl ?_;dsimp only [aA,aB];refine vs _ rfl (fun h148=>?_) (fun h148=>?_)
 ·exfalso;omega
 exfalso;omega
open Go Go.Proofs Tryz Ord
def Ve (k:Nat) (n:Int):List (List RQ):=
 match k with
 | 1=>[fQ [-1],fQ [1]]
 | 2=>[fQ [1],[],fQ [1]]
 | 3=>[fQ [0,-1],[],fQ [1]]
 | 4=>[[],fQ [0,2],fQ [1]]
 | 5=>[[],fQ [1],fQ [1,1]]
 | 6=>[[],fQ [0,2],fQ [1,0,1]]
 | 7=>[fQ [n*(n+1)],fQ [0,-2],fQ [1,0,-1]]
 | _=>[fQ [2*n],fQ [0,-2],fQ [1]]
def VB (k:Nat):List RQ:=
 match k with
 | 1=>[.of 1]
 | 3=>[.of 1, .nil]
 | 7=>[.of 1, .nil]
 | 8=>[.of 1, .nil]
 | _=>[.nil, .of 1]
theorem Sr {k:Nat} (h1:1≤k) (h2:k≤8) (n:Int):FW (Ve k n)=kE k n:=by
 rcases (by omega:k=1∨k=2∨k=3∨k=4∨k=5∨k=6∨k=7∨k=8) with rfl | rfl | rfl | rfl | rfl | rfl | rfl | rfl<;>simp only [FW,Ve,kE,List.map_cons,List.map_nil,Nz]
theorem RZ {k:Nat} (h1:1≤k) (h2:k≤8):(VB k).map RQ.q=kY k:=by
 rcases (by omega:k=1∨k=2∨k=3∨k=4∨k=5∨k=6∨k=7∨k=8) with rfl | rfl | rfl | rfl | rfl | rfl | rfl | rfl<;>rfl
def xP (p:List (List cF)):Bool:=decide (p.length≤6∧∀ l∈p,l.length≤4∧∀ x∈l,x.QB=true)
structure Up (p:List (List cF)):Prop where
 l:p.length<140737488355328
 p:∀ l∈p,l.length<140737488355328∧∀ x∈l,x.In
structure bK where
 p:List (List cF)
 long:Int
 c:cF
 y:List cF
 kind:Nat
 n:Int
structure bK.In (c:bK):Prop where
 hp:Up c.p
 hl1:-9223372036854775808≤c.long
 hl2:c.long<9223372036854775808
 hc:c.c.In
 hyl:c.y.length<140737488355328
 hy:∀ x∈c.y,x.In
 hk:c.kind<256
 hn1:-9223372036854775808≤c.n
 hn2:c.n<9223372036854775808
def bK.small (c:bK):Bool:=decide ((∀ x∈c.y,x.short=true)∧xP c.p=true∧c.c.short=true∧c.y.length≤6)
open Go Go.Proofs Tryz Ord
def kR (n:Nat):List Rat:=(List.replicate n (0:Rat)).set (n-1) 1
def Jp (n:Nat):List RQ:=(List.replicate n RQ.nil).set (n-1) (.of 1)
def Iw (p:List (List cF)) (long:Int):List (List Rat):=p.map bT++if 0<long then [kR (long%50+1).toNat] else []
def Rx (p:List (List cF)) (long:Int):List (List RQ):=p.map (fun l=>iW (DE l))++if 0<long then [Jp (long%50+1).toNat] else []
abbrev z3:List aF:=[.exact (.slice none 0 0), .bool false, .exact (.slice none 0 0)]
abbrev z4:List aF:=[.int .i64 0, .exact (.slice none 0 0), .int .i64 0, .exact (.slice none 0 0)]
theorem oT (l:List cF):(bT l).length=l.length:=List.length_map _
def bK.kk (c:bK):Nat:=(c.kind-1)%8+1
def bK.nn (c:bK):Int:=if c.n<0∨8<c.n then 2 else c.n
def bK.E (c:bK):List (List Rat):=if 0<c.kind then kE c.kk c.nn else Iw c.p c.long
def bK.X (c:bK):Rat:=if 0<c.kind then 0 else c.c.v
def bK.Y (c:bK):List Rat:=if 0<c.kind then kY c.kk else bT c.y
def bK.ER (c:bK):List (List RQ):=if 0<c.kind then Ve c.kk c.nn else Rx c.p c.long
def bK.XR (c:bK):RQ:=if 0<c.kind then .nil else .of c.c.v
def bK.YR (c:bK):List RQ:=if 0<c.kind then VB c.kk else DE c.y
end Go.Sy
