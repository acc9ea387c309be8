/- Equations: Check, CheckEquation; Valid, Right. The reference: Eval, Valid, Regular, Right; Alike. Known functions. Known functions of the reference; what is small. Cases in both ways.
-/
import Derived.Test.YtdmcadckdnnglaaGreatDoorPb
set_option linter.unusedVariables false
set_option linter.unusedSimpArgs false
namespace Go.Sy
open Go Go.Proofs Tryz Ord
def aT1:Tr:=.split (.u 5 0) (gE 0 0 4 0 32 12 13 (eY 6 0 none 72 14 (.need (.callv (.u 1 0) [(W 7 0)] [none]) (.call ⟨.value (tT 11),#[(tT 15)],#[72]⟩) 4 true (.split (.u 8 0) (.ret [(W 4 0)]) (bB .add 3 8 1 4 0 3 (.back 0 [lV 3 0,lV 9 0])))))) (.ret [(WK (-1))])
def aK3:Tr:=cY 0 0 6 32 (.loop 0 [lK 0,lK 0] (bR .lss 3 8 7 4 0 2 0 0 aT1))
theorem Rh:aN prog f180 (fun _=>none) [.v none, .v none]=aK3:=by kernel_rfl
def aK9:Tr:=aP 180 [(W 0 0),(W 1 0)] [none] [5,6] [32,165] 3 true (bB .geq 3 7 0 2 0 4 (.ret [(W 3 0)]))
theorem Ig:aN prog f93 (fun _=>none) [.v none, .v none]=aK9:=by kernel_rfl
def aV0:Tr:=aP 95 [(W 0 0)] [none] [3] [72] 3 true (bB .gtr 3 4 40 1 0 4 (.ret [(W 2 0)]))
theorem wE:aN prog f94 (fun _=>none) [.v none]=aV0:=by kernel_rfl
def Ea:Tr:=.ret [(WK 2)]
def UR:Tr:=.ret [(WK 0)]
def aj9:Tr:=cY 0 0 17 32 (bB .sub 3 18 1 6 0 3 (gE 0 0 7 0 32 16 19 (eY 8 0 none 72 20 (aP 95 [(W 9 0)] [none] [21] [72] 3 false (bB .lss 3 22 0 10 0 4 (.split (.u 11 0) Ea UR))))))
def aO9:Tr:=bB .lss 3 4 2 1 0 4 (.split (.u 2 0) Ea (cY 0 0 7 32 (bB .gtr 3 8 5 3 0 4 (.split (.u 4 0) Ea (.need (.call 93 [(W 0 0),(.one (.fX 94 []))] [none]) (.call ⟨.value (.func 93),#[(tT 12),(.func 94)],#[32,165]⟩) 4 false (.split (.u 5 0) Ea aj9))))))
def aH1:Tr:=cY 0 0 3 32 aO9
theorem AA:aN prog f19 (fun _=>none) [.v none]=aH1:=by kernel_rfl
def aO0:Tr:=bB .sub 3 7 1 2 0 3 (gE 0 0 3 0 32 5 8 (eY 4 0 none 72 9 (aP 181 [(W 5 0),(G3 1)] [(some 3)] [10,11] [72,39] 39 false (aP 35 [(G3 6)] [none] [12] [39] 3 true (bB .neq 3 13 0 7 0 4 (.ret [(W 8 0)]))))))
def aV8:Tr:=cY 0 0 6 32 aO0
theorem MD:aN prog f97 (fun _=>none) [.v none, .v (some 3)]=aV8:=by kernel_rfl
def aT9:Tr:=cY 0 0 12 32 (bB .sub 3 13 1 4 0 3 (bR .neq 3 10 14 3 0 5 0 4 (.split (.u 6 0) Ea (aP 97 [(W 0 0),(.agg [(U 0 1),(U 0 2),(U 0 3)])] [none] [19,21] [32,39] 4 false (.need (.prim [(W 7 0)] none) (.unOp .not 4 (tT 22)) 4 false (.split (.u 8 0) Ea UR))))))
def aK0:Tr:=aP 19 [(W 0 0)] [none] [4] [32] 55 false (bB .neq 55 5 0 1 0 4 (.split (.u 2 0) Ea (cY 0 4 9 40 aT9)))
theorem Sk:aN prog f21 (fun _=>none) [.v (some 5)]=aK0:=by kernel_rfl
abbrev cQ (p:List Rat):List aI:=[sQ p]
abbrev cR (p:List RQ):List aI:=[sR p]
abbrev eQ (e:List (List Rat)):aI:=.slice 1 (e.map cQ)
abbrev eR (e:List (List RQ)):aI:=.slice 1 (e.map cR)
def Jc {α:Type} (c:α→Bool):List α→Nat→Int
 | [],_=>-1
 | x::xs,i=>if c x then (i:Int) else Jc c xs (i+1)
theorem JF {α:Type} (c:α→Bool):∀ (l:List α) (i:Nat),decide (0≤Jc c l i)=l.any c
 | [],i=>rfl
 | x::xs,i=>by
   simp only [Jc,List.any_cons];split
   ·rename_i h;rw [h];simp
   ·rename_i h;rw [JF c xs (i+1)];simp [h]
theorem Ue (e:List (List Rat)) (g:Nat) (c:List Rat→Bool) (hc:∀ p∈e,aK prog g [.one (sQ p)] (.ret [.one (.bool (c p))])) (hs:e.length<1099511627776):aK prog 180 [(.one (eQ e):aG),(.one (.fX g []):aG)] (.ret [.one (.int .i64 (Jc c e 0))]):=by
 refine aD (args:=[.v none, .v none]) (ins:=[.v (.one (eQ e)), .v (.one (.fX g []))]) (hints:=(fun _=>none)) fo (by kernel_rfl) func180 ⟨rfl,rfl,trivial⟩ ?_;rw [Rh];dsimp only [List.map,In.env,aA,aB];refine vn (aQ Bw (List.length_map _)) rfl ?_;dsimp only [aA,aB];refine bF {i:Nat // i≤e.length∧Jc c e 0=Jc c (e.drop i) i} (fun g=>[.one (.int .i64 0), .one (.int .i64 g.1)]) (fun g=>e.length-g.1) ⟨0,Nat.zero_le _,rfl⟩ aO.rfl (fun _=>rfl) ?_;rintro ⟨i,hi,hf⟩;dsimp only [aA,aB] at hi hf ⊢;refine vn bE rfl ?_;dsimp only [aA,aB];refine vs _ rfl (fun h3=>?_) (fun h3=>?_)
 ·obtain ⟨p,hp⟩:∃ p,e[i]? = some p:=⟨_,List.getElem?_eq_getElem (by omega)⟩
  have hdrop:e.drop i=p::e.drop (i+1):=by
   rw [List.drop_eq_getElem_cons (by omega),(List.getElem?_eq_some_iff.1 hp).2]
  rw [hdrop,Jc] at hf;refine vn (aY Bw (by omega) (by omega) hp) rfl ?_;dsimp only [aA,aB];refine vn (bH JX) rfl ?_;dsimp only [aA,aB];refine tP (f:=g) (caps:=[]) rfl (hc p (List.mem_of_getElem? hp)) rfl ?_;dsimp only [aA,aB];refine Bt (c p) rfl (fun h7=>?_) (fun h7=>?_)
  ·rw [hf,if_pos h7];exact aL rfl
  refine vn (aE (by omega) (by omega)) rfl ?_;dsimp only [aA,aB];exact aU rfl ⟨⟨i+1,by omega,by rw [hf,if_neg (by simp [h7])]⟩,aO.rfl,by show e.length-(i+1)<e.length-i;omega⟩
 rw [hf,List.drop_eq_nil_of_le (by omega),Jc];exact aL rfl
theorem JL (e:List (List Rat)) (g:Nat) (c:List Rat→Bool) (hc:∀ p∈e,aK prog g [.one (sQ p)] (.ret [.one (.bool (c p))])) (hs:e.length<1099511627776):aK prog 93 [(.one (eQ e):aG),(.one (.fX g []):aG)] (.ret [.one (.bool (e.any c))]):=by
 refine aD (args:=[.v none, .v none]) (ins:=[.v (.one (eQ e)), .v (.one (.fX g []))]) (hints:=(fun _=>none)) fo (by kernel_rfl) func93 ⟨rfl,rfl,trivial⟩ ?_;rw [Ig];dsimp only [List.map,In.env,aA,aB];refine aC (Ue e g c hc hs) rfl ?_;dsimp only [aA,aB];refine vn eS rfl ?_;dsimp only [aA,aB];rw [←JF c e 0];exact aL rfl
def Gx (p:List Rat):Bool:=decide (41<cW zr p)
theorem wK (p:List Rat) (hs:p.length<1099511627776):aK prog 94 [(.one (sQ p):aG)] (.ret [.one (.bool (Gx p))]):=by
 refine aD (args:=[.v none]) (ins:=[.v (.one (sQ p))]) (hints:=(fun _=>none)) fo (by kernel_rfl) func94 ⟨rfl,trivial⟩ ?_;rw [wE];dsimp only [List.map,In.env,aA,aB];refine aC (An p hs) rfl ?_;dsimp only [aA,aB];refine vn eF rfl ?_;dsimp only [aA,aB];refine aL ?_;rw [Gx,show decide (41<cW zr p)=decide ((40:Int)<(cW zr p:Int)-1) by rw [decide_eq_decide];omega];rfl
def sA (e:List (List Rat)):Bool:=decide (2≤e.length∧e.length≤5∧(∀ p∈e,cW zr p≤41)∧∀ p,e[e.length-1]? = some p→cW zr p≠0)
theorem gJ (e:List (List Rat)) (hs:e.length<1099511627776) (hp:∀ p∈e,p.length<1099511627776):aK prog 19 [(.one (eQ e):aG)] (.ret [.one (.int .i64 (if sA e then 0 else 2))]):=by
 refine aD (args:=[.v none]) (ins:=[.v (.one (eQ e))]) (hints:=(fun _=>none)) fo (by kernel_rfl) func19 ⟨rfl,trivial⟩ ?_;rw [AA];dsimp only [List.map,In.env,aA,aB];refine vn (aQ Bw (List.length_map _)) rfl ?_;dsimp only [aA,aB];refine vn bE rfl ?_;dsimp only [aA,aB];refine vs _ rfl (fun h2=>?_) (fun h2=>?_)
 ·rw [if_neg (by unfold sA;rw [decide_eq_true_iff];omega)];exact aL rfl
 refine vn (aQ Bw (List.length_map _)) rfl ?_;dsimp only [aA,aB];refine vn eF rfl ?_;dsimp only [aA,aB];refine vs _ rfl (fun h6=>?_) (fun h6=>?_)
 ·rw [if_neg (by unfold sA;rw [decide_eq_true_iff];omega)];exact aL rfl
 refine aC (JL e 94 Gx (fun p hp'=>wK p (hp p hp')) hs) rfl ?_;dsimp only [aA,aB];refine Bt (e.any Gx) rfl (fun h9=>?_) (fun h9=>?_)
 ·rw [if_neg (by
   unfold sA;rw [decide_eq_true_iff];rintro ⟨_,_,h,_⟩;obtain ⟨p,hp1,hp2⟩:=List.any_eq_true.1 h9;have:=h p hp1;simp [Gx] at hp2;omega)];exact aL rfl
 refine vn (aQ Bw (List.length_map _)) rfl ?_;dsimp only [aA,aB];refine vn (aJ (by omega) (by omega)) rfl ?_;dsimp only [aA,aB];obtain ⟨p,hpl⟩:∃ p,e[e.length-1]? = some p:=⟨_,List.getElem?_eq_getElem (by omega)⟩
 refine vn (aY Bw (by omega) (by omega) hpl) rfl ?_;dsimp only [aA,aB];refine vn (bH JX) rfl ?_;dsimp only [aA,aB];refine aC (An p (hp p (List.mem_of_getElem? hpl))) rfl ?_;dsimp only [aA,aB];refine vn bE rfl ?_;dsimp only [aA,aB];refine vs _ rfl (fun h17=>?_) (fun h17=>?_)
 ·rw [if_neg (by
   unfold sA;rw [decide_eq_true_iff];rintro ⟨_,_,_,h⟩;have:=h p hpl;omega)];exact aL rfl
 rw [if_pos (by
  unfold sA;rw [decide_eq_true_iff];refine ⟨by omega,by omega,fun p' hp'=>?_,fun p' hp'=>?_⟩
  ·have:=List.any_eq_false.1 h9 p' hp';simp [Gx] at this;omega
  ·rw [hpl] at hp';simp only [Option.some.injEq] at hp';subst hp';omega)];exact aL rfl
structure Vi (e:List (List Rat)):Prop where
 l:e.length≤64
 p:∀ p∈e,p.length≤64∧∀ q∈p,Fit 513 q
def qA (e:List (List Rat)) (c:Rat):Bool:=decide (∀ p,e[e.length-1]? = some p→kJ p c≠0)
theorem vM (e:List (List Rat)) (c:Rat) (he:Vi e) (h0:0<e.length) (hc:Fit 513 c):aK prog 97 [(.one (eQ e):aG),(qT c:aG)] (.ret [.one (.bool (qA e c))]):=by
 refine aD (args:=[.v none, .v (some 3)]) (ins:=[.v (.one (eQ e)), .v (qT c)]) (hints:=(fun _=>none)) fo (by kernel_rfl) func97 ⟨rfl,rfl,trivial⟩ ?_;rw [MD];dsimp only [List.map,In.env,aA,aB];have hl:=he.l;refine vn (aQ Bw (List.length_map _)) rfl ?_;dsimp only [aA,aB];refine vn (aJ (by omega) (by omega)) rfl ?_;dsimp only [aA,aB];obtain ⟨p,hpl⟩:∃ p,e[e.length-1]? = some p:=⟨_,List.getElem?_eq_getElem (by omega)⟩
 obtain ⟨hp1,hp2⟩:=he.p p (List.mem_of_getElem? hpl);refine vn (aY Bw (by omega) (by omega) hpl) rfl ?_;dsimp only [aA,aB];refine vn (bH JX) rfl ?_;dsimp only [aA,aB];refine aC (Xu p c 513 (by omega) hp2 hc (by omega)) rfl ?_;dsimp only [aA,aB];refine aC (oQ _) rfl ?_;dsimp only [aA,aB];refine vn iP rfl ?_;dsimp only [aA,aB];refine aL ?_
 have:qA e c=decide ((kJ p c).num.sign≠0):=by
  unfold qA;rw [decide_eq_decide]
  constructor
  ·intro h hh;exact h p hpl (sign_zero.1 hh)
  ·intro h p' hp' hh;rw [hpl] at hp';simp only [Option.some.injEq] at hp';subst hp';exact h (sign_zero.2 hh)
 rw [this];rfl
def okF (e:List (List Rat)) (c:Rat) (y:List Rat):Bool:=sA e&&decide (y.length=e.length-1)&&qA e c
theorem Qz (e:List (List Rat)) (c:Rat) (y:List Rat) (he:Vi e) (hc:Fit 513 c) (hy:y.length<1099511627776):aK prog 21 [(.agg [eQ e,dT c.num.natAbs, .bool (decide (c.num<0)),dT (c.den-1),sQ y]:aG)] (.ret [.one (.int .i64 (if okF e c y then 0 else 2))]):=by
 refine aD (args:=[.v (some 5)]) (ins:=[.v (.agg [eQ e,dT c.num.natAbs, .bool (decide (c.num<0)),dT (c.den-1),sQ y])]) (hints:=(fun _=>none)) fo (by kernel_rfl) func21 ⟨rfl,trivial⟩ ?_;rw [Sk];dsimp only [List.map,In.env,aA,aB];have hl:=he.l;have hp:=he.p;refine aC (gJ e (by omega) (fun p hp'=>by have:=(hp p hp').1;omega)) rfl ?_;dsimp only [aA,aB];refine vn iP rfl ?_;dsimp only [aA,aB];have h2':decide ((if sA e=true then (0:Int) else 2)≠0) = !sA e:=by cases sA e<;>rfl
 rw [h2'];refine Bt (!sA e) rfl (fun h2=>?_) (fun h2=>?_)
 ·rw [if_neg (by simp at h2;simp [okF,h2])];exact aL rfl
 have h2:sA e=true:=by simpa using h2
 have hlen:2≤e.length:=by unfold sA at h2;rw [decide_eq_true_iff] at h2;exact h2.1
 refine vn (aQ zZ (List.length_map _)) rfl ?_;dsimp only [aA,aB];refine vn (aQ Bw (List.length_map _)) rfl ?_;dsimp only [aA,aB];refine vn (aJ (by omega) (by omega)) rfl ?_;dsimp only [aA,aB];refine vn iP rfl ?_;dsimp only [aA,aB];refine vs _ rfl (fun h8=>?_) (fun h8=>?_)
 ·rw [if_neg (by simp [okF];intro _ _;omega)];exact aL rfl
 refine aC (vM e c he (by omega) hc) rfl ?_;dsimp only [aA,aB];refine vn mL rfl ?_;dsimp only [aA,aB];refine Bt (!qA e c) rfl (fun h12=>?_) (fun h12=>?_)
 ·rw [if_neg (by simp at h12;simp [okF,h12])];exact aL rfl
 rw [if_pos (by simp at h12;simp [okF,h12,h2];omega)];exact aL rfl
open Go Go.Proofs Tryz Ord
def uX (e:List (List RQ)):List (List Rat):=e.map fun p=>p.map RQ.q
theorem Na (e:List (List RQ)):(uX e).length=e.length:=List.length_map _
theorem aS3 (p:List RQ):cW LS p=cW zr (p.map RQ.q):=(DM (z:=zr) RQ.q p).symm
open Go Go.Proofs Tryz Ord
def aQ7:Tr:=.need (.idx 5 (.u 3 0)) (.indexAddr 40 (tT 14) (tT 15)) 0 false (.need (.strow 5 3 (.u 3 0) 0 [(.u 7 0),(.u 7 1),(.u 7 2)]) (.store 39 (tT 26) (tT 21)) 0 false (.need (.idx 9 (.u 4 0)) (.indexAddr 40 (tT 16) (tT 17)) 0 false (.need (.strow 9 3 (.u 4 0) 0 [(.u 8 0),(.u 8 1),(.u 8 2)]) (.store 39 (tT 27) (tT 25)) 0 false (bB .add 3 10 1 3 0 3 (bB .sub 3 12 1 4 0 3 (.back 0 [lV 11 0,lV 12 0, .row 10]))))))
def aQ4:Tr:=.loop 0 [lK 0,lV 2 0, .row 0] (bR .lss 3 7 8 3 0 4 0 4 (.split (.u 6 0) (.need (.idx 5 (.u 4 0)) (.indexAddr 40 (tT 18) (tT 19)) 0 false (.need (.ldrow 5 (.u 4 0) 0 3 true) (.load 39 (tT 20)) 39 false (.need (.idx 5 (.u 3 0)) (.indexAddr 40 (tT 22) (tT 23)) 0 false (.need (.ldrow 5 (.u 3 0) 0 3 true) (.load 39 (tT 24)) 39 false aQ7)))) (.retr [] 5)))
def aD5:Tr:=.need (.lenrow 0) (.call ⟨.builtin .len,#[(tT 4)],#[40]⟩) 3 false (bB .sub 3 5 1 1 0 3 aQ4)
theorem LX:Ic prog f92 (fun _=>none) [.lent 39 3]=aD5:=by kernel_rfl
def aR4:Tr:=gE 0 0 2 0 242 6 8 (eY 5 0 none 2 10 (aP 68 [(W 6 0)] [(some 3)] [13] [2] 39 true (.need (.lit 3 [[(.u 7 0),(.u 7 1),(.u 7 2)]]) (.buildSlice 72 1 #[(0,(tT 14))]) 72 false (.need (.app 3 56 (some 3) none (some 8)) (.call ⟨.builtin .append,#[(tT 12),(tT 15)],#[72,72]⟩) 72 false (bB .add 3 8 1 2 0 3 (.back 0 [lV 10 0, .row 9]))))))
def aH8:Tr:=cY 0 0 6 242 (.loop 0 [lK 0, .nilrow] (bR .lss 3 8 7 2 0 1 0 0 (.split (.u 4 0) aR4 (aP 34 [(.one (.c (.sr 3 3)))] [none] [18] [72] 72 true (.ret [(W 5 0)])))))
theorem Kg:aN prog f91 (fun _=>none) [.v none]=aH8:=by kernel_rfl
def ZL:Tr:=.ret [(.agg [tN,tN,(tE (.bool false)),tN,tN]),(WK 2)]
def ZG:Tr:=.ret [(.agg [tN,tN,(tE (.bool false)),tN,tN]),(WK 3)]
def al5:Tr:=aP 91 [(.one (.c (.sr 1 9)))] [none] [30] [242] 72 false (.need (.lit 1 [[(.k (.int .i64 1))]]) (.buildSlice 242 1 #[(0,(.const (I3 1)))]) 242 false (aP 91 [(.one (.c (.sr 1 11)))] [none] [32] [242] 72 false (.need (.lit 1 [[(.u 10 0)],[(.u 12 0)]]) (.buildSlice 32 2 #[(0,(tT 31)),(1,(tT 33))]) 32 false (.need (.call 68 [(WK 1)] [(some 3)]) (.call ⟨.value (.func 68),#[(.const (I3 1))],#[2]⟩) 39 false (.need (.lit 3 [[(.u 14 0),(.u 14 1),(.u 14 2)]]) (.buildSlice 40 1 #[(0,(tT 35))]) 40 false (.ret [(.agg [(.c (.sr 1 13)),tN,(tE (.bool false)),tN,(.c (.sr 3 15))]),(WK 0)]))))))
def an7:Tr:=.need (.lit 1 [[(.u 11 0)],[(.k (.slice none 0 0))],[(.u 13 0)]]) (.buildSlice 32 3 #[(0,(tT 41)),(1,(.const (.slice none 0 0))),(2,(tT 43))]) 32 false (.need (.prim [(W 0 0),(.one (.c (.k (.int .u8 3))))] none) (.binOp .eql 5 (tT 104) (.const (.int .u8 3)) 5) 4 false (.split (.u 15 0) (.need (.rop 7 39 3 none [] [] []) (.call ⟨.value (.func 92),#[(tT 111)],#[40]⟩) 0 true (.ret [(.agg [(.c (.sr 1 14)),tN,(tE (.bool false)),tN,(.c (.sr 3 16))]),(WK 0)])) (.need (.prim [(W 0 0),(.one (.c (.k (.int .u8 7))))] none) (.binOp .geq 5 (tT 107) (.const (.int .u8 7)) 5) 4 false (.split (.u 16 0) (.need (.rop 7 39 3 none [] [] []) (.call ⟨.value (.func 92),#[(tT 111)],#[40]⟩) 0 true (.ret [(.agg [(.c (.sr 1 14)),tN,(tE (.bool false)),tN,(.c (.sr 3 17))]),(WK 0)])) (.ret [(.agg [(.c (.sr 1 14)),tN,(tE (.bool false)),tN,(.c (.sr 3 7))]),(WK 0)])))))
def al4:Tr:=.need (.lit 1 [[(.u 12 0)],[(.k (.slice none 0 0))],[(.u 14 0)]]) (.buildSlice 32 3 #[(0,(tT 49)),(1,(.const (.slice none 0 0))),(2,(tT 51))]) 32 false (.need (.prim [(W 0 0),(.one (.c (.k (.int .u8 3))))] none) (.binOp .eql 5 (tT 104) (.const (.int .u8 3)) 5) 4 false (.split (.u 16 0) (.need (.rop 7 39 3 none [] [] []) (.call ⟨.value (.func 92),#[(tT 111)],#[40]⟩) 0 true (.ret [(.agg [(.c (.sr 1 15)),tN,(tE (.bool false)),tN,(.c (.sr 3 17))]),(WK 0)])) (.need (.prim [(W 0 0),(.one (.c (.k (.int .u8 7))))] none) (.binOp .geq 5 (tT 107) (.const (.int .u8 7)) 5) 4 false (.split (.u 17 0) (.need (.rop 7 39 3 none [] [] []) (.call ⟨.value (.func 92),#[(tT 111)],#[40]⟩) 0 true (.ret [(.agg [(.c (.sr 1 15)),tN,(tE (.bool false)),tN,(.c (.sr 3 18))]),(WK 0)])) (.ret [(.agg [(.c (.sr 1 15)),tN,(tE (.bool false)),tN,(.c (.sr 3 7))]),(WK 0)])))))
def an6:Tr:=.need (.lit 1 [[(.k (.slice none 0 0))],[(.u 13 0)],[(.u 15 0)]]) (.buildSlice 32 3 #[(0,(.const (.slice none 0 0))),(1,(tT 57)),(2,(tT 59))]) 32 false (.need (.prim [(W 0 0),(.one (.c (.k (.int .u8 3))))] none) (.binOp .eql 5 (tT 104) (.const (.int .u8 3)) 5) 4 false (.split (.u 17 0) (.need (.rop 7 39 3 none [] [] []) (.call ⟨.value (.func 92),#[(tT 111)],#[40]⟩) 0 true (.ret [(.agg [(.c (.sr 1 16)),tN,(tE (.bool false)),tN,(.c (.sr 3 18))]),(WK 0)])) (.need (.prim [(W 0 0),(.one (.c (.k (.int .u8 7))))] none) (.binOp .geq 5 (tT 107) (.const (.int .u8 7)) 5) 4 false (.split (.u 18 0) (.need (.rop 7 39 3 none [] [] []) (.call ⟨.value (.func 92),#[(tT 111)],#[40]⟩) 0 true (.ret [(.agg [(.c (.sr 1 16)),tN,(tE (.bool false)),tN,(.c (.sr 3 19))]),(WK 0)])) (.ret [(.agg [(.c (.sr 1 16)),tN,(tE (.bool false)),tN,(.c (.sr 3 7))]),(WK 0)])))))
def ak5:Tr:=.need (.lit 1 [[(.k (.slice none 0 0))],[(.u 14 0)],[(.u 16 0)]]) (.buildSlice 32 3 #[(0,(.const (.slice none 0 0))),(1,(tT 65)),(2,(tT 67))]) 32 false (.need (.prim [(W 0 0),(.one (.c (.k (.int .u8 3))))] none) (.binOp .eql 5 (tT 104) (.const (.int .u8 3)) 5) 4 false (.split (.u 18 0) (.need (.rop 7 39 3 none [] [] []) (.call ⟨.value (.func 92),#[(tT 111)],#[40]⟩) 0 true (.ret [(.agg [(.c (.sr 1 17)),tN,(tE (.bool false)),tN,(.c (.sr 3 19))]),(WK 0)])) (.need (.prim [(W 0 0),(.one (.c (.k (.int .u8 7))))] none) (.binOp .geq 5 (tT 107) (.const (.int .u8 7)) 5) 4 false (.split (.u 19 0) (.need (.rop 7 39 3 none [] [] []) (.call ⟨.value (.func 92),#[(tT 111)],#[40]⟩) 0 true (.ret [(.agg [(.c (.sr 1 17)),tN,(tE (.bool false)),tN,(.c (.sr 3 20))]),(WK 0)])) (.ret [(.agg [(.c (.sr 1 17)),tN,(tE (.bool false)),tN,(.c (.sr 3 7))]),(WK 0)])))))
def aC2:Tr:=.need (.lit 1 [[(.k (.slice none 0 0))],[(.u 15 0)],[(.u 17 0)]]) (.buildSlice 32 3 #[(0,(.const (.slice none 0 0))),(1,(tT 73)),(2,(tT 75))]) 32 false (.need (.prim [(W 0 0),(.one (.c (.k (.int .u8 3))))] none) (.binOp .eql 5 (tT 104) (.const (.int .u8 3)) 5) 4 false (.split (.u 19 0) (.need (.rop 7 39 3 none [] [] []) (.call ⟨.value (.func 92),#[(tT 111)],#[40]⟩) 0 true (.ret [(.agg [(.c (.sr 1 18)),tN,(tE (.bool false)),tN,(.c (.sr 3 20))]),(WK 0)])) (.need (.prim [(W 0 0),(.one (.c (.k (.int .u8 7))))] none) (.binOp .geq 5 (tT 107) (.const (.int .u8 7)) 5) 4 false (.split (.u 20 0) (.need (.rop 7 39 3 none [] [] []) (.call ⟨.value (.func 92),#[(tT 111)],#[40]⟩) 0 true (.ret [(.agg [(.c (.sr 1 18)),tN,(tE (.bool false)),tN,(.c (.sr 3 21))]),(WK 0)])) (.ret [(.agg [(.c (.sr 1 18)),tN,(tE (.bool false)),tN,(.c (.sr 3 7))]),(WK 0)])))))
def Ny:Tr:=.need (.prim [(W 0 0),(.one (.c (.k (.int .u8 3))))] none) (.binOp .eql 5 (tT 104) (.const (.int .u8 3)) 5) 4 false (.split (.u 24 0) (.need (.rop 7 39 3 none [] [] []) (.call ⟨.value (.func 92),#[(tT 111)],#[40]⟩) 0 true (.ret [(.agg [(.c (.sr 1 23)),tN,(tE (.bool false)),tN,(.c (.sr 3 25))]),(WK 0)])) (.need (.prim [(W 0 0),(.one (.c (.k (.int .u8 7))))] none) (.binOp .geq 5 (tT 107) (.const (.int .u8 7)) 5) 4 false (.split (.u 25 0) (.need (.rop 7 39 3 none [] [] []) (.call ⟨.value (.func 92),#[(tT 111)],#[40]⟩) 0 true (.ret [(.agg [(.c (.sr 1 23)),tN,(tE (.bool false)),tN,(.c (.sr 3 26))]),(WK 0)])) (.ret [(.agg [(.c (.sr 1 23)),tN,(tE (.bool false)),tN,(.c (.sr 3 7))]),(WK 0)]))))
def XF:Tr:=.need (.lit 1 [[(.u 16 0)]]) (.buildSlice 242 1 #[(0,(tT 83))]) 242 false (aP 91 [(.one (.c (.sr 1 17)))] [none] [84] [242] 72 false (.need (.lit 1 [[(.k (.int .i64 0))],[(.k (.int .i64 (-2)))]]) (.buildSlice 242 2 #[(0,(.const (I3 0))),(1,(.const (I3 (-2))))]) 242 false (aP 91 [(.one (.c (.sr 1 19)))] [none] [86] [242] 72 false (.need (.lit 1 [[(.k (.int .i64 1))],[(.k (.int .i64 0))],[(.k (.int .i64 (-1)))]]) (.buildSlice 242 3 #[(0,(.const (I3 1))),(1,(.const (I3 0))),(2,(.const (I3 (-1))))]) 242 false (aP 91 [(.one (.c (.sr 1 21)))] [none] [88] [242] 72 true (.need (.lit 1 [[(.u 18 0)],[(.u 20 0)],[(.u 22 0)]]) (.buildSlice 32 3 #[(0,(tT 85)),(1,(tT 87)),(2,(tT 89))]) 32 false Ny))))))
def YF:Tr:=.need (.lit 1 [[(.u 16 0)]]) (.buildSlice 242 1 #[(0,(tT 95))]) 242 false (aP 91 [(.one (.c (.sr 1 17)))] [none] [96] [242] 72 false (.need (.lit 1 [[(.k (.int .i64 0))],[(.k (.int .i64 (-2)))]]) (.buildSlice 242 2 #[(0,(.const (I3 0))),(1,(.const (I3 (-2))))]) 242 false (aP 91 [(.one (.c (.sr 1 19)))] [none] [98] [242] 72 false (.need (.lit 1 [[(.k (.int .i64 1))]]) (.buildSlice 242 1 #[(0,(.const (I3 1)))]) 242 false (aP 91 [(.one (.c (.sr 1 21)))] [none] [100] [242] 72 true (.need (.lit 1 [[(.u 18 0)],[(.u 20 0)],[(.u 22 0)]]) (.buildSlice 32 3 #[(0,(tT 97)),(1,(tT 99)),(2,(tT 101))]) 32 false Ny))))))
def Yz:Tr:=.split (.u 15 0) (.need (.prim [(WK 2),(W 1 0)] none) (.binOp .mul 2 (.const (I3 2)) (tT 94) 2) 2 false YF) (.need (.prim [(W 0 0),(.one (.c (.k (.int .u8 3))))] none) (.binOp .eql 5 (tT 104) (.const (.int .u8 3)) 5) 4 false (.split (.u 16 0) (.need (.rop 7 39 3 none [] [] []) (.call ⟨.value (.func 92),#[(tT 111)],#[40]⟩) 0 true (.ret [(.agg [tN,tN,(tE (.bool false)),tN,(.c (.sr 3 17))]),(WK 0)])) (.need (.prim [(W 0 0),(.one (.c (.k (.int .u8 7))))] none) (.binOp .geq 5 (tT 107) (.const (.int .u8 7)) 5) 4 false (.split (.u 17 0) (.need (.rop 7 39 3 none [] [] []) (.call ⟨.value (.func 92),#[(tT 111)],#[40]⟩) 0 true (.ret [(.agg [tN,tN,(tE (.bool false)),tN,(.c (.sr 3 18))]),(WK 0)])) (.ret [(.agg [tN,tN,(tE (.bool false)),tN,(.c (.sr 3 7))]),(WK 0)])))))
def af0:Tr:=.split (.u 12 0) (.need (.lit 1 [[(.k (.int .i64 1))]]) (.buildSlice 242 1 #[(0,(.const (I3 1)))]) 242 false (aP 91 [(.one (.c (.sr 1 13)))] [none] [64] [242] 72 false (.need (.lit 1 [[(.k (.int .i64 1))],[(.k (.int .i64 1))]]) (.buildSlice 242 2 #[(0,(.const (I3 1))),(1,(.const (I3 1)))]) 242 false (aP 91 [(.one (.c (.sr 1 15)))] [none] [66] [242] 72 true ak5)))) (.need (.prim [(W 0 0),(.one (.c (.k (.int .u8 6))))] none) (.binOp .eql 5 (tT 27) (.const (.int .u8 6)) 5) 4 false (.split (.u 13 0) (.need (.lit 1 [[(.k (.int .i64 0))],[(.k (.int .i64 2))]]) (.buildSlice 242 2 #[(0,(.const (I3 0))),(1,(.const (I3 2)))]) 242 false (aP 91 [(.one (.c (.sr 1 14)))] [none] [72] [242] 72 false (.need (.lit 1 [[(.k (.int .i64 1))],[(.k (.int .i64 0))],[(.k (.int .i64 1))]]) (.buildSlice 242 3 #[(0,(.const (I3 1))),(1,(.const (I3 0))),(2,(.const (I3 1)))]) 242 false (aP 91 [(.one (.c (.sr 1 16)))] [none] [74] [242] 72 true aC2)))) (.need (.prim [(W 0 0),(.one (.c (.k (.int .u8 7))))] none) (.binOp .eql 5 (tT 27) (.const (.int .u8 7)) 5) 4 false (.split (.u 14 0) (bB .add 2 81 1 1 0 2 (bR .mul 2 80 82 1 0 15 0 2 XF)) (.need (.prim [(W 0 0),(.one (.c (.k (.int .u8 8))))] none) (.binOp .eql 5 (tT 27) (.const (.int .u8 8)) 5) 4 false Yz)))))
def aB8:Tr:=.split (.u 10 0) (.need (.lit 1 [[(.k (.int .i64 0))],[(.k (.int .i64 (-1)))]]) (.buildSlice 242 2 #[(0,(.const (I3 0))),(1,(.const (I3 (-1))))]) 242 false (aP 91 [(.one (.c (.sr 1 11)))] [none] [48] [242] 72 false (.need (.lit 1 [[(.k (.int .i64 1))]]) (.buildSlice 242 1 #[(0,(.const (I3 1)))]) 242 false (aP 91 [(.one (.c (.sr 1 13)))] [none] [50] [242] 72 true al4)))) (.need (.prim [(W 0 0),(.one (.c (.k (.int .u8 4))))] none) (.binOp .eql 5 (tT 27) (.const (.int .u8 4)) 5) 4 false (.split (.u 11 0) (.need (.lit 1 [[(.k (.int .i64 0))],[(.k (.int .i64 2))]]) (.buildSlice 242 2 #[(0,(.const (I3 0))),(1,(.const (I3 2)))]) 242 false (aP 91 [(.one (.c (.sr 1 12)))] [none] [56] [242] 72 false (.need (.lit 1 [[(.k (.int .i64 1))]]) (.buildSlice 242 1 #[(0,(.const (I3 1)))]) 242 false (aP 91 [(.one (.c (.sr 1 14)))] [none] [58] [242] 72 true an6)))) (.need (.prim [(W 0 0),(.one (.c (.k (.int .u8 5))))] none) (.binOp .eql 5 (tT 27) (.const (.int .u8 5)) 5) 4 false af0)))
def an8:Tr:=.split (.u 8 0) (.need (.lit 1 [[(.k (.int .i64 (-1)))]]) (.buildSlice 242 1 #[(0,(.const (I3 (-1))))]) 242 false al5) (.need (.prim [(W 0 0),(.one (.c (.k (.int .u8 2))))] none) (.binOp .eql 5 (tT 27) (.const (.int .u8 2)) 5) 4 false (.split (.u 9 0) (.need (.lit 1 [[(.k (.int .i64 1))]]) (.buildSlice 242 1 #[(0,(.const (I3 1)))]) 242 false (aP 91 [(.one (.c (.sr 1 10)))] [none] [40] [242] 72 false (.need (.lit 1 [[(.k (.int .i64 1))]]) (.buildSlice 242 1 #[(0,(.const (I3 1)))]) 242 false (aP 91 [(.one (.c (.sr 1 12)))] [none] [42] [242] 72 true an7)))) (.need (.prim [(W 0 0),(.one (.c (.k (.int .u8 3))))] none) (.binOp .eql 5 (tT 27) (.const (.int .u8 3)) 5) 4 false aB8)))
def aW2:Tr:=bB .lss 3 15 0 1 0 4 (.split (.u 4 0) ZG (bB .gtr 3 18 40 1 0 4 (.split (.u 5 0) ZG (.need (.call 68 [(WK 1)] [(some 3)]) (.call ⟨.value (.func 68),#[(.const (I3 1))],#[2]⟩) 39 false (.need (.lit 3 [[(.k (.slice none 0 0)),(.k (.bool false)),(.k (.slice none 0 0))],[(.u 6 0),(.u 6 1),(.u 6 2)]]) (.buildSlice 40 2 #[(0,(tT 23)),(1,(tT 24))]) 40 false (.need (.prim [(W 0 0),(.one (.c (.k (.int .u8 1))))] none) (.binOp .eql 5 (tT 27) (.const (.int .u8 1)) 5) 4 false an8))))))
def aJ4:Tr:=.need (.prim [(W 0 0),(.one (.c (.k (.int .u8 1))))] none) (.binOp .lss 5 (tT 8) (.const (.int .u8 1)) 5) 4 false (.split (.u 2 0) ZL (.need (.prim [(W 0 0),(.one (.c (.k (.int .u8 8))))] none) (.binOp .gtr 5 (tT 11) (.const (.int .u8 8)) 5) 4 false (.split (.u 3 0) ZL aW2)))
theorem Qw:aN prog f18 (fun _=>none) [.v none, .v none]=aJ4:=by kernel_rfl
theorem wH (a0 a1 a2 b0 b1 b2:aI):uM prog 92 39 3 [] [] ([[a0,a1,a2],[b0,b1,b2]]) [] ([[b0,b1,b2],[a0,a1,a2]]):=by
 refine Cd (a1:=[]) (a2:=[]) (i1:=[]) (i2:=[]) (hints:=(fun _=>none)) fo (by kernel_rfl) func92 trivial trivial (by kernel_rfl) ?_ ?_ ?_ ?_
 ·simp [rT]
 ·simp [rT]
 ·simp [rT]
 dsimp only [aA,aB];rw [LX];dsimp only [List.map,In.env,aA,aB];refine Ll (n:=2) rfl rfl ?_;dsimp only [aA,aB];refine vn (aJ (by omega) (by omega)) rfl ?_;dsimp only [aA,aB];refine bF Bool (fun g=>if g then [.one (.int .i64 1), .one (.int .i64 0), .rows [[b0,b1,b2],[a0,a1,a2]]] else [.one (.int .i64 0), .one (.int .i64 1), .rows [[a0,a1,a2],[b0,b1,b2]]]) (fun g=>if g then 0 else 1) false aO.rfl (fun g=>by cases g<;>rfl) ?_;intro g;cases g
 case true=>
  show vc _ _ _ [_,_,_, .one (.int .i64 1), .one (.int .i64 0), .rows [[b0,b1,b2],[a0,a1,a2]]] _;refine vn bE rfl ?_;refine vs _ rfl (fun h=>absurd h (by decide)) (fun _=>?_);exact JN rfl rfl
 show vc _ _ _ [_,_,_, .one (.int .i64 0), .one (.int .i64 1), .rows [[a0,a1,a2],[b0,b1,b2]]] _;refine vn bE rfl ?_;dsimp only [aA,aB];refine vs _ rfl (fun _=>?_) (fun h=>absurd (by decide) h);refine nY rfl rfl (by decide) (by simp) ?_;refine vld (t:=.agg [b0,b1,b2]) rfl rfl (by decide) rfl (.inl rfl) rfl ?_;dsimp only [aA,aB,Qa,List.drop,List.take];refine nY rfl rfl (by decide) (by simp) ?_;refine vld (t:=.agg [a0,a1,a2]) rfl rfl (by decide) rfl (.inl rfl) rfl ?_;dsimp only [aA,aB,Qa,List.drop,List.take];refine nY rfl rfl (by decide) (by simp) ?_;refine Fv (us:=[[b0,b1,b2],[b0,b1,b2]]) rfl rfl (by decide) rfl rfl ?_;dsimp only [aA,aB];refine nY rfl rfl (by decide) (by simp) ?_;refine Fv (us:=[[b0,b1,b2],[a0,a1,a2]]) rfl rfl (by decide) rfl rfl ?_;dsimp only [aA,aB];refine vn (aE (by omega) (by omega)) rfl ?_;dsimp only [aA,aB];refine vn (aJ (by omega) (by omega)) rfl ?_;dsimp only [aA,aB];exact aU rfl ⟨true,aO.rfl,by decide⟩
abbrev sI (l:List Int):aI:=.slice 1 (l.map fun n=>[aI.int .i64 n])
def ints (l:List Int):List Rat:=trim (l.map fun n:Int=>(n:Rat))
def qM (l:List Int):Prop:=∀ n∈l,-9223372036854775808≤n∧n<9223372036854775808
theorem bU (l:List Int) (h:qM l) (hs:l.length<1099511627776):aK prog 91 [(.one (sI l):aG)] (.ret [.one (sQ (ints l))]):=by
 refine aD (args:=[.v none]) (ins:=[.v (.one (sI l))]) (hints:=(fun _=>none)) fo (by kernel_rfl) func91 ⟨rfl,trivial⟩ ?_;rw [Kg];dsimp only [List.map,In.env,aA,aB];refine vn (aQ Zv (List.length_map _)) rfl ?_;dsimp only [aA,aB];refine bF {i:Nat // i≤l.length} (fun g=>[.one (.int .i64 g.1), .rows (rQ ((l.take g.1).map fun n:Int=>(n:Rat)))]) (fun g=>l.length-g.1) ⟨0,Nat.zero_le _⟩ aO.rfl (fun _=>rfl) ?_;rintro ⟨i,hi⟩;dsimp only [aA,aB] at hi ⊢;refine vn bE rfl ?_;dsimp only [aA,aB];refine vs _ rfl (fun h3=>?_) (fun h3=>?_)
 ·obtain ⟨n,hn⟩:∃ n,l[i]? = some n:=⟨_,List.getElem?_eq_getElem (by omega)⟩
  obtain ⟨hn1,hn2⟩:=h n (List.mem_of_getElem? hn);have hl:((l.take i).map fun n:Int=>(n:Rat)).length≤i:=by simp;omega
  refine vn (aY Zv (by omega) (by omega) hn) rfl ?_;dsimp only [aA,aB];refine vn (bH ag2) rfl ?_;dsimp only [aA,aB];refine aC (iV n hn1 hn2) rfl ?_;dsimp only [aA,aB];refine dC (us:=[qC (n:Rat)]) rfl ?_;dsimp only [aA,aB];refine qI (xs:=(l.take i).map fun n:Int=>(n:Rat)) (x:=(n:Rat)) (f:=qC) rfl rfl (by omega) (by simp only [maxLen];omega) ?_;rw [qH (f:=fun n:Int=>(n:Rat)) hn];dsimp only [aA,aB];refine vn (aE (by omega) (by omega)) rfl ?_;dsimp only [aA,aB];exact aU rfl ⟨⟨i+1,by omega⟩,aO.rfl,by show l.length-(i+1)<l.length-i;omega⟩
 rw [show i=l.length by omega,List.take_length];refine aC (zE (l.map fun n:Int=>(n:Rat)) (by simpa using hs)) rfl ?_;exact aL rfl
def iL (l:List Int):List RQ:=dZ (l.map fun n:Int=>RQ.of (n:Rat))
theorem YB (l:List Int):(iL l).map RQ.q=ints l:=by
 rw [iL,qO,ints,List.map_map];rfl
def kE (k:Nat) (n:Int):List (List Rat):=
 match k with
 | 1=>[ints [-1],ints [1]]
 | 2=>[ints [1],[],ints [1]]
 | 3=>[ints [0,-1],[],ints [1]]
 | 4=>[[],ints [0,2],ints [1]]
 | 5=>[[],ints [1],ints [1,1]]
 | 6=>[[],ints [0,2],ints [1,0,1]]
 | 7=>[ints [n*(n+1)],ints [0,-2],ints [1,0,-1]]
 | _=>[ints [2*n],ints [0,-2],ints [1]]
def kY (k:Nat):List Rat:=
 match k with
 | 1=>[1]
 | 3=>[1,0]
 | 7=>[1,0]
 | 8=>[1,0]
 | _=>[0,1]
def kG (k:Nat) (n:Int):List (List Rat)×List Rat×Int:=
 if k<1∨8<k then ([],[],2) else if n<0∨40<n then ([],[],3) else (kE k n,kY k,0)
abbrev fT (e:List (List Rat)) (c:Rat) (y:List Rat):aG:=.agg [eQ e,dT c.num.natAbs, .bool (decide (c.num<0)),dT (c.den-1),sQ y]
theorem Hg:aX (aX aI.Sub) [[.exact (.slice none 0 0), .bool false, .exact (.slice none 0 0)],qC 1] [qC 0,qC 1]:=⟨eV,⟨aI.Sub.same,aI.Sub.same,aI.Sub.same,trivial⟩,trivial⟩
theorem LD:aX (aX aI.Sub) [qC 1,[.exact (.slice none 0 0), .bool false, .exact (.slice none 0 0)]] [qC 1,qC 0]:=⟨⟨aI.Sub.same,aI.Sub.same,aI.Sub.same,trivial⟩,eV,trivial⟩
theorem aT5 (p q:List Rat):aX (aX aI.Sub) [[sQ p],[.exact (.slice none 0 0)],[sQ q]] [cQ p,cQ [],cQ q]:=⟨⟨aI.Sub.same,trivial⟩,⟨aI.Sub.nil,trivial⟩,⟨aI.Sub.same,trivial⟩,trivial⟩
theorem QH (p q:List Rat):aX (aX aI.Sub) [[.exact (.slice none 0 0)],[sQ p],[sQ q]] [cQ [],cQ p,cQ q]:=⟨⟨aI.Sub.nil,trivial⟩,⟨aI.Sub.same,trivial⟩,⟨aI.Sub.same,trivial⟩,trivial⟩
set_option maxHeartbeats 2000000 in
theorem Rs (k:Nat) (n:Int) (hk:k<256) (h1:-9223372036854775808≤n) (h2:n<9223372036854775808):aK prog 18 [(.one (.int .u8 k):aG),(.one (.int .i64 n):aG)] (.ret [fT (kG k n).1 0 (kG k n).2.1, .one (.int .i64 (kG k n).2.2)]):=by
 refine aD (args:=[.v none, .v none]) (ins:=[.v (.one (.int .u8 k)), .v (.one (.int .i64 n))]) (hints:=(fun _=>none)) fo (by kernel_rfl) func18 ⟨rfl,rfl,trivial⟩ ?_;rw [Qw];dsimp only [List.map,In.env,aA,aB];refine vn bE rfl ?_;dsimp only [aA,aB];refine vs _ rfl (fun h1=>?_) (fun h1'=>?_)
 ·rw [kG,if_pos (by omega)];exact eN ⟨⟨aI.Sub.nil,jB rfl,aI.Sub.same,jB rfl,aI.Sub.nil,trivial⟩,aG.Sub.same,trivial⟩
 refine vn eF rfl ?_;dsimp only [aA,aB];refine vs _ rfl (fun h4=>?_) (fun h4=>?_)
 ·rw [kG,if_pos (by omega)];exact eN ⟨⟨aI.Sub.nil,jB rfl,aI.Sub.same,jB rfl,aI.Sub.nil,trivial⟩,aG.Sub.same,trivial⟩
 refine vn bE rfl ?_;dsimp only [aA,aB];refine vs _ rfl (fun h7=>?_) (fun h7=>?_)
 ·rw [kG,if_neg (by omega),if_pos (by omega)];exact eN ⟨⟨aI.Sub.nil,jB rfl,aI.Sub.same,jB rfl,aI.Sub.nil,trivial⟩,aG.Sub.same,trivial⟩
 refine vn eF rfl ?_;dsimp only [aA,aB];refine vs _ rfl (fun h10=>?_) (fun h10=>?_)
 ·rw [kG,if_neg (by omega),if_pos (by omega)];exact eN ⟨⟨aI.Sub.nil,jB rfl,aI.Sub.same,jB rfl,aI.Sub.nil,trivial⟩,aG.Sub.same,trivial⟩
 refine aC (iV 1 (by omega) (by omega)) rfl ?_;dsimp only [aA,aB];rw [kG,if_neg (by omega),if_neg (by omega)];refine dC (us:=[[.exact (.slice none 0 0), .bool false, .exact (.slice none 0 0)],qC 1]) rfl ?_;dsimp only [aA,aB];refine vn bW rfl ?_;dsimp only [aA,aB];refine vs _ rfl (fun h15=>?_) (fun h15=>?_)
 ·obtain rfl:k=1:=by omega
  refine dC (us:=[[.int .i64 (-1)]]) rfl ?_;dsimp only [aA,aB];refine aC (bU [-1] (by simp [qM]) (by simp)) rfl ?_;dsimp only [aA,aB];refine dC (us:=[[.int .i64 1]]) rfl ?_;dsimp only [aA,aB];refine aC (bU [1] (by simp [qM]) (by simp)) rfl ?_;dsimp only [aA,aB];refine dC (us:=[[sQ (ints [-1])],[sQ (ints [1])]]) rfl ?_;dsimp only [aA,aB];refine aC (iV 1 (by omega) (by omega)) rfl ?_;dsimp only [aA,aB];refine dC (us:=[qC 1]) rfl ?_;dsimp only [aA,aB];exact eN ⟨⟨aI.Sub.same,jB rfl,aI.Sub.same,jB rfl,aI.Sub.same,trivial⟩,aG.Sub.same,trivial⟩
 refine vn bW rfl ?_;dsimp only [aA,aB];refine vs _ rfl (fun h25=>?_) (fun h25=>?_)
 ·obtain rfl:k=2:=by omega
  refine dC (us:=[[.int .i64 1]]) rfl ?_;dsimp only [aA,aB];refine aC (bU [1] (by simp [qM]) (by simp)) rfl ?_;dsimp only [aA,aB];refine dC (us:=[[.int .i64 1]]) rfl ?_;dsimp only [aA,aB];refine aC (bU [1] (by simp [qM]) (by simp)) rfl ?_;dsimp only [aA,aB];refine dC (us:=[[sQ (ints [1])],[.exact (.slice none 0 0)],[sQ (ints [1])]]) rfl ?_;dsimp only [aA,aB];refine vn bW rfl ?_;dsimp only [aA,aB];refine vs _ rfl (fun h32=>?_) (fun h32=>?_)
  ·exfalso;omega
  refine vn eS rfl ?_;dsimp only [aA,aB];refine vs _ rfl (fun h36=>?_) (fun h36=>?_)
  ·exfalso;omega
  exact eN ⟨⟨aI.Sub.slice (aT5 _ _),jB rfl,aI.Sub.same,jB rfl,aI.Sub.slice Hg,trivial⟩,aG.Sub.same,trivial⟩
 refine vn bW rfl ?_;dsimp only [aA,aB];refine vs _ rfl (fun h41=>?_) (fun h41=>?_)
 ·obtain rfl:k=3:=by omega
  refine dC (us:=[[.int .i64 0],[.int .i64 (-1)]]) rfl ?_;dsimp only [aA,aB];refine aC (bU [0,-1] (by simp [qM]) (by simp)) rfl ?_;dsimp only [aA,aB];refine dC (us:=[[.int .i64 1]]) rfl ?_;dsimp only [aA,aB];refine aC (bU [1] (by simp [qM]) (by simp)) rfl ?_;dsimp only [aA,aB];refine dC (us:=[[sQ (ints [0,-1])],[.exact (.slice none 0 0)],[sQ (ints [1])]]) rfl ?_;dsimp only [aA,aB];refine vn bW rfl ?_;dsimp only [aA,aB];refine vs _ rfl (fun h48=>?_) (fun h48=>?_)
  ·refine Qj (n:=0) (us:=[[.exact (.slice none 0 0), .bool false, .exact (.slice none 0 0)],qC 1]) (rs:=[]) (vs:=[qC 1,[.exact (.slice none 0 0), .bool false, .exact (.slice none 0 0)]]) rfl ⟨rfl,rfl⟩ (by simp) rfl (tC rfl (wH _ _ _ _ _ _)) rfl ?_;dsimp only [aA,aB];exact eN ⟨⟨aI.Sub.slice (aT5 _ _),jB rfl,aI.Sub.same,jB rfl,aI.Sub.slice LD,trivial⟩,aG.Sub.same,trivial⟩
  refine vn eS rfl ?_;dsimp only [aA,aB];refine vs _ rfl (fun h52=>?_) (fun h52=>?_)
  ·exfalso;omega
  exfalso;omega
 refine vn bW rfl ?_;dsimp only [aA,aB];refine vs _ rfl (fun h57=>?_) (fun h57=>?_)
 ·obtain rfl:k=4:=by omega
  refine dC (us:=[[.int .i64 0],[.int .i64 2]]) rfl ?_;dsimp only [aA,aB];refine aC (bU [0,2] (by simp [qM]) (by simp)) rfl ?_;dsimp only [aA,aB];refine dC (us:=[[.int .i64 1]]) rfl ?_;dsimp only [aA,aB];refine aC (bU [1] (by simp [qM]) (by simp)) rfl ?_;dsimp only [aA,aB];refine dC (us:=[[.exact (.slice none 0 0)],[sQ (ints [0,2])],[sQ (ints [1])]]) rfl ?_;dsimp only [aA,aB];refine vn bW rfl ?_;dsimp only [aA,aB];refine vs _ rfl (fun h64=>?_) (fun h64=>?_)
  ·exfalso;omega
  refine vn eS rfl ?_;dsimp only [aA,aB];refine vs _ rfl (fun h68=>?_) (fun h68=>?_)
  ·exfalso;omega
  exact eN ⟨⟨aI.Sub.slice (QH _ _),jB rfl,aI.Sub.same,jB rfl,aI.Sub.slice Hg,trivial⟩,aG.Sub.same,trivial⟩
 refine vn bW rfl ?_;dsimp only [aA,aB];refine vs _ rfl (fun h73=>?_) (fun h73=>?_)
 ·obtain rfl:k=5:=by omega
  refine dC (us:=[[.int .i64 1]]) rfl ?_;dsimp only [aA,aB];refine aC (bU [1] (by simp [qM]) (by simp)) rfl ?_;dsimp only [aA,aB];refine dC (us:=[[.int .i64 1],[.int .i64 1]]) rfl ?_;dsimp only [aA,aB];refine aC (bU [1,1] (by simp [qM]) (by simp)) rfl ?_;dsimp only [aA,aB];refine dC (us:=[[.exact (.slice none 0 0)],[sQ (ints [1])],[sQ (ints [1,1])]]) rfl ?_;dsimp only [aA,aB];refine vn bW rfl ?_;dsimp only [aA,aB];refine vs _ rfl (fun h80=>?_) (fun h80=>?_)
  ·exfalso;omega
  refine vn eS rfl ?_;dsimp only [aA,aB];refine vs _ rfl (fun h84=>?_) (fun h84=>?_)
  ·exfalso;omega
  exact eN ⟨⟨aI.Sub.slice (QH _ _),jB rfl,aI.Sub.same,jB rfl,aI.Sub.slice Hg,trivial⟩,aG.Sub.same,trivial⟩
 refine vn bW rfl ?_;dsimp only [aA,aB];refine vs _ rfl (fun h89=>?_) (fun h89=>?_)
 ·obtain rfl:k=6:=by omega
  refine dC (us:=[[.int .i64 0],[.int .i64 2]]) rfl ?_;dsimp only [aA,aB];refine aC (bU [0,2] (by simp [qM]) (by simp)) rfl ?_;dsimp only [aA,aB];refine dC (us:=[[.int .i64 1],[.int .i64 0],[.int .i64 1]]) rfl ?_;dsimp only [aA,aB];refine aC (bU [1,0,1] (by simp [qM]) (by simp)) rfl ?_;dsimp only [aA,aB];refine dC (us:=[[.exact (.slice none 0 0)],[sQ (ints [0,2])],[sQ (ints [1,0,1])]]) rfl ?_;dsimp only [aA,aB];refine vn bW rfl ?_;dsimp only [aA,aB];refine vs _ rfl (fun h96=>?_) (fun h96=>?_)
  ·exfalso;omega
  refine vn eS rfl ?_;dsimp only [aA,aB];refine vs _ rfl (fun h100=>?_) (fun h100=>?_)
  ·exfalso;omega
  exact eN ⟨⟨aI.Sub.slice (QH _ _),jB rfl,aI.Sub.same,jB rfl,aI.Sub.slice Hg,trivial⟩,aG.Sub.same,trivial⟩
 refine vn bW rfl ?_;dsimp only [aA,aB];refine vs _ rfl (fun h105=>?_) (fun h105=>?_)
 ·obtain rfl:k=7:=by omega
  have hnn:n*(n+1)≤40*41:=by
   have:=Int.mul_le_mul (a:=n) (b:=n+1) (c:=40) (d:=41) (by omega) (by omega) (by omega) (by omega);omega
  have hn0:0≤n*(n+1):=Int.mul_nonneg (by omega) (by omega);refine vn (aE (by omega) (by omega)) rfl ?_;dsimp only [aA,aB];refine vn (sO (c:=n*(n+1)) (dN (by omega) (by omega))) rfl ?_;dsimp only [aA,aB];refine dC (us:=[[.int .i64 (n*(n+1))]]) rfl ?_;dsimp only [aA,aB];refine aC (bU [n*(n+1)] (by simp only [qM,List.mem_singleton,forall_eq];omega) (by simp)) rfl ?_;dsimp only [aA,aB];refine dC (us:=[[.int .i64 0],[.int .i64 (-2)]]) rfl ?_;dsimp only [aA,aB];refine aC (bU [0,-2] (by simp [qM]) (by simp)) rfl ?_;dsimp only [aA,aB];refine dC (us:=[[.int .i64 1],[.int .i64 0],[.int .i64 (-1)]]) rfl ?_;dsimp only [aA,aB];refine aC (bU [1,0,-1] (by simp [qM]) (by simp)) rfl ?_;dsimp only [aA,aB];refine dC (us:=[[sQ (ints [n*(n+1)])],[sQ (ints [0,-2])],[sQ (ints [1,0,-1])]]) rfl ?_;dsimp only [aA,aB];refine vn bW rfl ?_;dsimp only [aA,aB];refine vs _ rfl (fun h116=>?_) (fun h116=>?_)
  ·exfalso;omega
  refine vn eS rfl ?_;dsimp only [aA,aB];refine vs _ rfl (fun h120=>?_) (fun h120=>?_)
  ·refine Qj (n:=0) (us:=[[.exact (.slice none 0 0), .bool false, .exact (.slice none 0 0)],qC 1]) (rs:=[]) (vs:=[qC 1,[.exact (.slice none 0 0), .bool false, .exact (.slice none 0 0)]]) rfl ⟨rfl,rfl⟩ (by simp) rfl (tC rfl (wH _ _ _ _ _ _)) rfl ?_;dsimp only [aA,aB];exact eN ⟨⟨aI.Sub.same,jB rfl,aI.Sub.same,jB rfl,aI.Sub.slice LD,trivial⟩,aG.Sub.same,trivial⟩
  exfalso;omega
 refine vn bW rfl ?_;dsimp only [aA,aB];refine vs _ rfl (fun h125=>?_) (fun h125=>?_)
 ·obtain rfl:k=8:=by omega
  refine vn (qW (by omega) (by omega)) rfl ?_;dsimp only [aA,aB];refine dC (us:=[[.int .i64 (2*n)]]) rfl ?_;dsimp only [aA,aB];refine aC (bU [2*n] (by simp only [qM,List.mem_singleton,forall_eq];omega) (by simp)) rfl ?_;dsimp only [aA,aB];refine dC (us:=[[.int .i64 0],[.int .i64 (-2)]]) rfl ?_;dsimp only [aA,aB];refine aC (bU [0,-2] (by simp [qM]) (by simp)) rfl ?_;dsimp only [aA,aB];refine dC (us:=[[.int .i64 1]]) rfl ?_;dsimp only [aA,aB];refine aC (bU [1] (by simp [qM]) (by simp)) rfl ?_;dsimp only [aA,aB];refine dC (us:=[[sQ (ints [2*n])],[sQ (ints [0,-2])],[sQ (ints [1])]]) rfl ?_;dsimp only [aA,aB];refine vn bW rfl ?_;dsimp only [aA,aB];refine vs _ rfl (fun h135=>?_) (fun h135=>?_)
  ·exfalso;omega
  refine vn eS rfl ?_;dsimp only [aA,aB];refine vs _ rfl (fun h139=>?_) (fun h139=>?_)
  ·refine Qj (n:=0) (us:=[[.exact (.slice none 0 0), .bool false, .exact (.slice none 0 0)],qC 1]) (rs:=[]) (vs:=[qC 1,[.exact (.slice none 0 0), .bool false, .exact (.slice none 0 0)]]) rfl ⟨rfl,rfl⟩ (by simp) rfl (tC rfl (wH _ _ _ _ _ _)) rfl ?_;dsimp only [aA,aB];exact eN ⟨⟨aI.Sub.same,jB rfl,aI.Sub.same,jB rfl,aI.Sub.slice LD,trivial⟩,aG.Sub.same,trivial⟩
  exfalso;omega
 refine vn bW rfl ?_;dsimp only [aA,aB];refine vs _ rfl (fun h144=>?_) (fun h144=>?_)
 ·exfalso;omega
 refine vn eS rfl ?_;dsimp only [aA,aB];refine vs _ rfl (fun h148=>?_) (fun h148=>?_)
 ·exfalso;omega
 exfalso;omega
open Go Go.Proofs Tryz Ord
def kER (k:Nat) (n:Int):List (List RQ):=
 match k with
 | 1=>[iL [-1],iL [1]]
 | 2=>[iL [1],[],iL [1]]
 | 3=>[iL [0,-1],[],iL [1]]
 | 4=>[[],iL [0,2],iL [1]]
 | 5=>[[],iL [1],iL [1,1]]
 | 6=>[[],iL [0,2],iL [1,0,1]]
 | 7=>[iL [n*(n+1)],iL [0,-2],iL [1,0,-1]]
 | _=>[iL [2*n],iL [0,-2],iL [1]]
def kYR (k:Nat):List RQ:=
 match k with
 | 1=>[.of 1]
 | 3=>[.of 1, .nil]
 | 7=>[.of 1, .nil]
 | 8=>[.of 1, .nil]
 | _=>[.nil, .of 1]
theorem aJ6 {k:Nat} (h1:1≤k) (h2:k≤8) (n:Int):uX (kER k n)=kE k n:=by
 rcases (by omega:k=1∨k=2∨k=3∨k=4∨k=5∨k=6∨k=7∨k=8) with rfl | rfl | rfl | rfl | rfl | rfl | rfl | rfl<;>simp only [uX,kER,kE,List.map_cons,List.map_nil,YB]
theorem aH0 {k:Nat} (h1:1≤k) (h2:k≤8):(kYR k).map RQ.q=kY k:=by
 rcases (by omega:k=1∨k=2∨k=3∨k=4∨k=5∨k=6∨k=7∨k=8) with rfl | rfl | rfl | rfl | rfl | rfl | rfl | rfl<;>rfl
abbrev sP (p:List (List bO)):aI:=.slice 1 (p.map fun l=>[sN l])
def gC (p:List (List bO)):Bool:=decide (p.length≤6∧∀ l∈p,l.length≤4∧∀ x∈l,x.Bz=true)
structure Zo (p:List (List bO)):Prop where
 l:p.length<140737488355328
 p:∀ l∈p,l.length<140737488355328∧∀ x∈l,x.In
set_option maxHeartbeats 1000000 in
theorem GW (p:List (List bO)) (long:Int) (hp:Zo p):aK prog 55 [(.agg [sP p, .int .i64 long]:aG)] (.ret [.one (.bool (gC p))]):=by
 refine aD (args:=[.v (some 2)]) (ins:=[.v (.agg [sP p, .int .i64 long])]) (hints:=(fun _=>none)) fo (by kernel_rfl) func55 ⟨rfl,trivial⟩ ?_;rw [GL];dsimp only [List.map,In.env,aA,aB];have hpl:=hp.l;refine bF {i:Nat // i≤p.length∧∀ j l,j<i→p[j]? = some l→l.length≤4∧∀ x∈l,x.Bz=true} (fun g=>[.one (.bool false), .one (.int .i64 g.1)]) (fun g=>p.length-g.1) ⟨0,Nat.zero_le _,fun j l h=>by omega⟩ aO.rfl (fun _=>rfl) ?_;rintro ⟨i,hi,hok⟩;dsimp only [aA,aB] at hi hok ⊢;refine vn (aQ Mp (List.length_map _)) rfl ?_;dsimp only [aA,aB];refine vn bE rfl ?_;dsimp only [aA,aB];refine vs _ rfl (fun h3=>?_) (fun h3=>?_)
 ·obtain ⟨l,hl⟩:∃ l,p[i]? = some l:=⟨_,List.getElem?_eq_getElem (by omega)⟩
  obtain ⟨hll,hlx⟩:=hp.p l (List.mem_of_getElem? hl)
  have hbad:∀ x∈l,x.Bz=false→gC p=false:=fun x hx h=>by
   unfold gC;rw [decide_eq_false_iff_not];rintro ⟨_,h2⟩;rw [(h2 l (List.mem_of_getElem? hl)).2 x hx] at h;cases h
  refine vn (aY Mp (by omega) (by omega) hl) rfl ?_;dsimp only [aA,aB];refine vn (bH Yn) rfl ?_;dsimp only [aA,aB];refine vn (aQ UD (List.length_map _)) rfl ?_;dsimp only [aA,aB];refine vn eF rfl ?_;dsimp only [aA,aB];refine vs _ rfl (fun h8=>?_) (fun h8=>?_)
  ·rw [show gC p=false by
    unfold gC;rw [decide_eq_false_iff_not];rintro ⟨_,h2⟩;have:=(h2 l (List.mem_of_getElem? hl)).1;omega];exact aL rfl
  refine bF {k:Nat // k≤l.length∧∀ j x,j<k→l[j]? = some x→x.Bz=true} (fun g=>[.one (.bool false), .one (.int .i64 g.1)]) (fun g=>l.length-g.1) ⟨0,Nat.zero_le _,fun j x h=>by omega⟩ aO.rfl (fun _=>rfl) ?_;rintro ⟨k,hk,hkok⟩;dsimp only [aA,aB] at hk hkok ⊢;refine vn (aY Mp (by omega) (by omega) hl) rfl ?_;dsimp only [aA,aB];refine vn (bH Yn) rfl ?_;dsimp only [aA,aB];refine vn (aQ UD (List.length_map _)) rfl ?_;dsimp only [aA,aB];refine vn bE rfl ?_;dsimp only [aA,aB];refine vs _ rfl (fun h15=>?_) (fun h15=>?_)
  ·refine vn (aY Mp (by omega) (by omega) hl) rfl ?_;dsimp only [aA,aB];refine vn (bH Yn) rfl ?_;dsimp only [aA,aB];obtain ⟨x,hx⟩:∃ x,l[k]? = some x:=⟨_,List.getElem?_eq_getElem (by omega)⟩
   have hxl:=List.mem_of_getElem? hx;have hxi:=hlx x hxl;refine vn (aY UD (by omega) (by omega) hx) rfl ?_;dsimp only [aA,aB];refine vn (bZ aL8 (by decide) (by simp) (.inl rfl)) rfl ?_;dsimp only [aA,aB];refine vn (gK (by omega) (by omega)) rfl ?_;dsimp only [aA,aB];refine vn iP rfl ?_;dsimp only [aA,aB];refine vs _ rfl (fun h22=>?_) (fun h22=>?_)
   ·rw [hbad x hxl (by unfold bO.Bz;rw [decide_eq_false_iff_not];omega)];exact aL rfl
   refine vn eF rfl ?_;dsimp only [aA,aB];refine vs _ rfl (fun h25=>?_) (fun h25=>?_)
   ·rw [hbad x hxl (by unfold bO.Bz;rw [decide_eq_false_iff_not];omega)];exact aL rfl
   refine vn bE rfl ?_;dsimp only [aA,aB];refine vs _ rfl (fun h28=>?_) (fun h28=>?_)
   ·rw [hbad x hxl (by unfold bO.Bz;rw [decide_eq_false_iff_not];omega)];exact aL rfl
   refine vn eF rfl ?_;dsimp only [aA,aB];refine vs _ rfl (fun h31=>?_) (fun h31=>?_)
   ·rw [hbad x hxl (by unfold bO.Bz;rw [decide_eq_false_iff_not];omega)];exact aL rfl
   refine vn bE rfl ?_;dsimp only [aA,aB];refine vs _ rfl (fun h34=>?_) (fun h34=>?_)
   ·rw [hbad x hxl (by unfold bO.Bz;rw [decide_eq_false_iff_not];omega)];exact aL rfl
   refine vn (aE (by omega) (by omega)) rfl ?_;dsimp only [aA,aB]
   exact aU rfl ⟨⟨k+1,by omega,fun j x' hj hx'=>by
    rcases Nat.lt_or_ge j k with h | h
    ·exact hkok j x' h hx'
    ·rw [show j=k by omega,hx] at hx';simp only [Option.some.injEq] at hx';subst hx';unfold bO.Bz;rw [decide_eq_true_iff];omega⟩,aO.rfl,by show l.length-(k+1)<l.length-k;omega⟩
  refine vn (aE (by omega) (by omega)) rfl ?_;dsimp only [aA,aB]
  exact aU rfl ⟨⟨i+1,by omega,fun j l' hj hl'=>by
   rcases Nat.lt_or_ge j i with h | h
   ·exact hok j l' h hl'
   ·rw [show j=i by omega,hl] at hl';simp only [Option.some.injEq] at hl';subst hl';refine ⟨by omega,fun x hx=>?_⟩;obtain ⟨m,hm⟩:=List.getElem?_of_mem hx;exact hkok m x (by have:=(List.getElem?_eq_some_iff.1 hm).1;omega) hm⟩,aO.rfl,by show p.length-(i+1)<p.length-i;omega⟩
 refine vn (aQ Mp (List.length_map _)) rfl ?_;dsimp only [aA,aB];refine vn gW rfl ?_;dsimp only [aA,aB]
 rw [show gC p=decide ((p.length:Int)≤6) by
  unfold gC;rw [decide_eq_decide]
  constructor
  ·rintro ⟨h,_⟩;omega
  ·intro h;refine ⟨by omega,fun l hl=>?_⟩;obtain ⟨m,hm⟩:=List.getElem?_of_mem hl;exact hok m l (by have:=(List.getElem?_eq_some_iff.1 hm).1;omega) hm];exact aL rfl
structure cZ where
 p:List (List bO)
 long:Int
 c:bO
 y:List bO
 kind:Nat
 n:Int
structure cZ.In (c:cZ):Prop where
 hp:Zo c.p
 hl1:-9223372036854775808≤c.long
 hl2:c.long<9223372036854775808
 hc:c.c.In
 hyl:c.y.length<140737488355328
 hy:∀ x∈c.y,x.In
 hk:c.kind<256
 hn1:-9223372036854775808≤c.n
 hn2:c.n<9223372036854775808
def cZ.small (c:cZ):Bool:=decide ((∀ x∈c.y,x.short=true)∧gC c.p=true∧c.c.short=true∧c.y.length≤6)
open Go Go.Proofs Tryz Ord
def aC4:Tr:=.need (.lit 1 [[(.u 8 0)]]) (.buildSlice 32 1 #[(0,(tT 29))]) 32 false (.need (.app 1 24 (some 2) none (some 10)) (.call ⟨.builtin .append,#[(tT 28),(tT 30)],#[32,32]⟩) 32 false (aP 144 [(W 9 0)] [none] [33] [167] 167 false (.need (.lit 1 [[(.u 12 0)]]) (.buildSlice 44 1 #[(0,(tT 34))]) 44 false (.need (.app 1 24 (some 3) none (some 13)) (.call ⟨.builtin .append,#[(tT 32),(tT 35)],#[44,44]⟩) 44 false (bB .add 3 17 1 1 0 3 (.back 0 [lV 15 0, .row 11, .row 14]))))))
def YX:Tr:=.need (.idx 10 (.u 12 0)) (.indexAddr 50 (tT 51) (tT 53)) 0 false (.need (.strow 10 4 (.u 12 0) 0 [(.u 14 0),(.u 14 1),(.u 14 2),(.u 14 3)]) (.store 49 (tT 57) (tT 55)) 0 false (.need (.lit 1 [[(.sr 3 15)]]) (.buildSlice 32 1 #[(0,(tT 59))]) 32 false (.need (.app 1 24 (some 2) none (some 17)) (.call ⟨.builtin .append,#[(tT 58),(tT 60)],#[32,32]⟩) 32 false (.need (.lit 1 [[(.sr 4 16)]]) (.buildSlice 44 1 #[(0,(tT 63))]) 44 false (.need (.app 1 24 (some 3) none (some 19)) (.call ⟨.builtin .append,#[(tT 62),(tT 64)],#[44,44]⟩) 44 false (.ret [(.one (.c (.sr 1 18))),(.one (.c (.sr 1 20)))]))))))
def Yf:Tr:=.need (.make [(.int .i64 0),(.slice none 0 0),(.int .i64 0),(.slice none 0 0)] 64 (.u 8 0) (.u 8 0)) (.makeSlice 50 (tT 46) (tT 46)) 50 false (bB .sub 3 49 1 8 0 3 (bB .sub 3 52 1 8 0 3 (.need (.call 68 [(WK 1)] [(some 3)]) (.call ⟨.value (.func 68),#[(.const (I3 1))],#[2]⟩) 39 true (.need (.call 50 [(WK 1)] [(some 4)]) (.call ⟨.value (.func 50),#[(.const (I3 1))],#[2]⟩) 49 true (.need (.idx 9 (.u 11 0)) (.indexAddr 40 (tT 48) (tT 50)) 0 false (.need (.strow 9 3 (.u 11 0) 0 [(.u 13 0),(.u 13 1),(.u 13 2)]) (.store 39 (tT 56) (tT 54)) 0 false YX))))))
def ac7:Tr:=bR .lss 3 12 15 1 0 4 0 4 (.split (.u 5 0) (gE 0 0 1 0 22 21 22 (eY 6 0 none 27 23 (aP 71 [(W 7 0)] [none,none] [24] [27] 128 false aC4))) (bB .gtr 3 38 0 0 1 4 (.split (.u 6 0) (bB .rem 3 41 50 0 1 3 (bB .add 3 42 1 7 0 3 (.need (.make [(.slice none 0 0),(.bool false),(.slice none 0 0)] 56 (.u 8 0) (.u 8 0)) (.makeSlice 40 (tT 44) (tT 44)) 40 false Yf))) (.ret [(.one (.c (.sr 1 2))),(.one (.c (.sr 1 3)))]))))
def aj1:Tr:=.loop 0 [lK 0, .nilrow, .nilrow] (cY 0 0 14 22 ac7)
theorem Jp:aN prog f57 (fun _=>none) [.v (some 2)]=aj1:=by kernel_rfl
def kK (n:Nat):List Rat:=(List.replicate n (0:Rat)).set (n-1) 1
def IV (n:Nat):List RQ:=(List.replicate n RQ.nil).set (n-1) (.of 1)
def Ei (p:List (List bO)) (long:Int):List (List Rat):=p.map cK++if 0<long then [kK (long%50+1).toNat] else []
def QY (p:List (List bO)) (long:Int):List (List RQ):=p.map (fun l=>dZ (rS l))++if 0<long then [IV (long%50+1).toNat] else []
theorem sZ {α β:Type} {R:α→β→Prop} {a:α} {b:β} (h:R a b):∀ n,aX R (List.replicate n a) (List.replicate n b)
 | 0=>trivial
 | n+1=>⟨h,sZ h n⟩
theorem xF {α β:Type} {R:α→β→Prop} {a:α} {b:β} (h:R a b):∀ {xs:List α} {ys:List β} (m:Nat),aX R xs ys→aX R (xs.set m a) (ys.set m b)
 | [],[],_,_=>trivial
 | _::_,_::_,0,⟨_,k⟩=>⟨h,k⟩
 | _::_,_::_,m+1,⟨j,k⟩=>⟨j,xF h m k⟩
 | [],_::_,_,k=>k.elim
 | _::_,[],_,k=>k.elim
abbrev z3:List aI:=[.exact (.slice none 0 0), .bool false, .exact (.slice none 0 0)]
abbrev z4:List aI:=[.int .i64 0, .exact (.slice none 0 0), .int .i64 0, .exact (.slice none 0 0)]
theorem Zf (n:Nat):aX (aX aI.Sub) ((List.replicate n z3).set (n-1) (qC 1)) ((kK n).map qC):=by
 rw [kK,List.map_set,List.map_replicate];exact xF ⟨aI.Sub.same,aI.Sub.same,aI.Sub.same,trivial⟩ _ (sZ eV n)
theorem TN (n:Nat):aX (aX aI.Sub) ((List.replicate n z4).set (n-1) (rC (.of 1))) ((IV n).map rC):=by
 rw [IV,List.map_set,List.map_replicate];exact xF ⟨aI.Sub.same,aI.Sub.same,aI.Sub.same,aI.Sub.same,trivial⟩ _ (sZ Bv n)
theorem Dj {α:Type} {l:List α} {i:Nat} {x:α} (h:l[i]? = some x):l.take i ++ [x]=l.take (i+1):=by
 rw [List.take_add_one,h];rfl
theorem tU (l:List bO):(cK l).length=l.length:=List.length_map _
theorem GO (l:List bO):(rS l).length=l.length:=List.length_map _
set_option maxHeartbeats 1000000 in
theorem Jg (p:List (List bO)) (long:Int) (hp:Zo p) (hs:gC p=true) (hl1:-9223372036854775808≤long) (hl2:long<9223372036854775808):aK prog 57 [(.agg [sP p, .int .i64 long]:aG)] (.ret [.one (eQ (Ei p long)), .one (eR (QY p long))]):=by
 refine aD (args:=[.v (some 2)]) (ins:=[.v (.agg [sP p, .int .i64 long])]) (hints:=(fun _=>none)) fo (by kernel_rfl) func57 ⟨rfl,trivial⟩ ?_;rw [Jp];dsimp only [List.map,In.env,aA,aB];have hs:=hs;unfold gC at hs;rw [decide_eq_true_iff] at hs;obtain ⟨hp6,hpx⟩:=hs;refine bF {i:Nat // i≤p.length} (fun g=>[.one (.int .i64 g.1), .rows ((p.take g.1).map fun l=>cQ (cK l)), .rows ((p.take g.1).map fun l=>cR (dZ (rS l)))]) (fun g=>p.length-g.1) ⟨0,Nat.zero_le _⟩ aO.rfl (fun _=>rfl) ?_;rintro ⟨i,hi⟩;dsimp only [aA,aB] at hi ⊢;refine vn (aQ Mp (List.length_map _)) rfl ?_;dsimp only [aA,aB];refine vn bE rfl ?_;dsimp only [aA,aB];refine vs _ rfl (fun h3=>?_) (fun h3=>?_)
 ·obtain ⟨l,hl⟩:∃ l,p[i]? = some l:=⟨_,List.getElem?_eq_getElem (by omega)⟩
  have hlm:=List.mem_of_getElem? hl;have hl4:=(hpx l hlm).1;have hti:(p.take i).length≤i:=by rw [List.length_take];omega
  refine vn (aY Mp (by omega) (by omega) hl) rfl ?_;dsimp only [aA,aB];refine vn (bH Yn) rfl ?_;dsimp only [aA,aB];refine aC (Xw l (fun x hx=>(hp.p l hlm).2 x hx) (by omega)) rfl ?_;dsimp only [aA,aB];refine dC (us:=[cQ (cK l)]) rfl ?_;dsimp only [aA,aB];refine qI (xs:=p.take i) (x:=l) (f:=fun l=>cQ (cK l)) rfl rfl (by omega) (by simp only [maxLen];omega) ?_;rw [Dj hl];dsimp only [aA,aB];refine aC (yU (rS l) (by rw [GO];omega)) rfl ?_;dsimp only [aA,aB];refine dC (us:=[cR (dZ (rS l))]) rfl ?_;dsimp only [aA,aB];refine qI (xs:=p.take i) (x:=l) (f:=fun l=>cR (dZ (rS l))) rfl rfl (by omega) (by simp only [maxLen];omega) ?_;rw [Dj hl];dsimp only [aA,aB];refine vn (aE (by omega) (by omega)) rfl ?_;dsimp only [aA,aB];exact aU rfl ⟨⟨i+1,by omega⟩,aO.rfl,by show p.length-(i+1)<p.length-i;omega⟩
 rw [show i=p.length by omega,List.take_length];refine vn eF rfl ?_;dsimp only [aA,aB];refine vs _ rfl (fun h15=>?_) (fun h15=>?_)
 ·obtain ⟨n,hn⟩:∃ n:Nat,(long%50+1).toNat=n:=⟨_,rfl⟩
  have hn1:long%50+1=(n:Int):=by omega
  have hn2:n≤50:=by omega
  have hn3:1≤n:=by omega
  refine vn (gK (by omega) (by omega)) rfl ?_;dsimp only [aA,aB];refine vn (eA (c:=(n:Int)) (by rw [hn1];exact dN (by omega) (by omega))) rfl ?_;dsimp only [aA,aB];refine tI (n:=n) (m:=n) (us:=List.replicate n z3) rfl rfl rfl (Nat.le_refl _) (by omega) (by simp only [maxLen];omega) ?_;dsimp only [aA,aB];refine tI (n:=n) (m:=n) (us:=List.replicate n z4) rfl rfl rfl (Nat.le_refl _) (by omega) (by simp only [maxLen];omega) ?_;dsimp only [aA,aB];refine vn (aJ (by omega) (by omega)) rfl ?_;dsimp only [aA,aB];refine vn (aJ (by omega) (by omega)) rfl ?_;dsimp only [aA,aB];refine aC (iV 1 (by omega) (by omega)) rfl ?_;dsimp only [aA,aB];refine aC (rM 1 (by omega) (by omega)) rfl ?_;dsimp only [aA,aB];refine nY rfl rfl (by omega) (by rw [List.length_replicate];omega) ?_;refine Fv (ts:=List.replicate n z3) (us:=(List.replicate n z3).set (n-1) (qC 1)) rfl rfl (by omega) (cells:=z3) (by rw [show ((n:Int)-1).toNat=n-1 by omega,List.getElem?_replicate,if_pos (by omega)]) (by rw [show ((n:Int)-1).toNat=n-1 by omega];rfl) ?_;dsimp only [aA,aB];refine nY rfl rfl (by omega) (by rw [List.length_replicate];omega) ?_;refine Fv (ts:=List.replicate n z4) (us:=(List.replicate n z4).set (n-1) (rC (.of 1))) rfl rfl (by omega) (cells:=z4) (by rw [show ((n:Int)-1).toNat=n-1 by omega,List.getElem?_replicate,if_pos (by omega)]) (by rw [show ((n:Int)-1).toNat=n-1 by omega];rfl) ?_;dsimp only [aA,aB];refine dC (us:=[[.slice 3 ((List.replicate n z3).set (n-1) (qC 1))]]) rfl ?_;dsimp only [aA,aB];refine vA (ts:=p.map fun l=>cQ (cK l)) (us:=[[.slice 3 ((List.replicate n z3).set (n-1) (qC 1))]]) rfl rfl rfl (by simp;omega) (by simp [maxLen];omega) ?_;dsimp only [aA,aB];refine dC (us:=[[.slice 4 ((List.replicate n z4).set (n-1) (rC (.of 1)))]]) rfl ?_;dsimp only [aA,aB];refine vA (ts:=p.map fun l=>cR (dZ (rS l))) (us:=[[.slice 4 ((List.replicate n z4).set (n-1) (rC (.of 1)))]]) rfl rfl rfl (by simp;omega) (by simp [maxLen];omega) ?_;dsimp only [aA,aB];refine eN ⟨aI.Sub.slice ?_,aI.Sub.slice ?_,trivial⟩
  ·rw [Ei,if_pos h15,hn,List.map_append,List.map_map];exact aX.append (aX.lP (aX.lP aI.Sub.refl) _) ⟨⟨aI.Sub.slice (Zf n),trivial⟩,trivial⟩
  ·rw [QY,if_pos h15,hn,List.map_append,List.map_map];exact aX.append (aX.lP (aX.lP aI.Sub.refl) _) ⟨⟨aI.Sub.slice (TN n),trivial⟩,trivial⟩
 rw [Ei,QY,if_neg h15,if_neg h15,List.append_nil,List.append_nil];refine aL ?_;rw [eQ,eR,List.map_map,List.map_map];rfl
def cZ.kk (c:cZ):Nat:=(c.kind-1)%8+1
def cZ.nn (c:cZ):Int:=if c.n<0∨8<c.n then 2 else c.n
def cZ.E (c:cZ):List (List Rat):=if 0<c.kind then kE c.kk c.nn else Ei c.p c.long
def cZ.X (c:cZ):Rat:=if 0<c.kind then 0 else c.c.v
def cZ.Y (c:cZ):List Rat:=if 0<c.kind then kY c.kk else cK c.y
def cZ.ER (c:cZ):List (List RQ):=if 0<c.kind then kER c.kk c.nn else QY c.p c.long
def cZ.XR (c:cZ):RQ:=if 0<c.kind then .nil else .of c.c.v
def cZ.YR (c:cZ):List RQ:=if 0<c.kind then kYR c.kk else rS c.y
end Go.Sy
