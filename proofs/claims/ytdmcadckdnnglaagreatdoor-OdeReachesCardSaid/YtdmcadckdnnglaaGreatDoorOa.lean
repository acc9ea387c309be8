/- Equations: Check, CheckEquation; Valid, Right. The reference: Eval, Valid, Regular, Right; Alike.
-/
import Derived.Test.YtdmcadckdnnglaaGreatDoorTb
set_option linter.unusedVariables false
set_option linter.unusedSimpArgs false
namespace Go.Sy
open Go Go.Proofs Tryz Ord
def ar8:Tr:=.split (.u 5 0) (eU 0 0 4 0 32 12 13 (dP 6 0 none 72 14 (.need (.callv (.u 1 0) [(W 7 0)] [none]) (.call ⟨.value (tT 11),#[(tT 15)],#[72]⟩) 4 true (.split (.u 8 0) (.ret [(W 4 0)]) (aQ .add 3 8 1 4 0 3 (.back 0 [lV 3 0,lV 9 0])))))) (.ret [(WK (-1))])
def aH2:Tr:=cM 0 0 6 32 (.loop 0 [lK 0,lK 0] (bK .lss 3 8 7 4 0 2 0 0 ar8))
theorem Qc:aN prog f180 (fun _=>none) [.v none, .v none] = aH2:=by kernel_rfl
def aG0:Tr:=aJ 180 [(W 0 0),(W 1 0)] [none] [5,6] [32,165] 3 true (aQ .geq 3 7 0 2 0 4 (.ret [(W 3 0)]))
theorem GR:aN prog f93 (fun _=>none) [.v none, .v none] = aG0:=by kernel_rfl
def aD2:Tr:=aJ 95 [(W 0 0)] [none] [3] [72] 3 true (aQ .gtr 3 4 40 1 0 4 (.ret [(W 2 0)]))
theorem tL:aN prog f94 (fun _=>none) [.v none] = aD2:=by kernel_rfl
def CB:Tr:=.ret [(WK 2)]
def NT:Tr:=.ret [(WK 0)]
def Zn:Tr:=cM 0 0 17 32 (aQ .sub 3 18 1 6 0 3 (eU 0 0 7 0 32 16 19 (dP 8 0 none 72 20 (aJ 95 [(W 9 0)] [none] [21] [72] 3 false (aQ .lss 3 22 0 10 0 4 (.split (.u 11 0) CB NT))))))
def ap9:Tr:=aQ .lss 3 4 2 1 0 4 (.split (.u 2 0) CB (cM 0 0 7 32 (aQ .gtr 3 8 5 3 0 4 (.split (.u 4 0) CB (.need (.call 93 [(W 0 0),(.one (.gS 94 []))] [none]) (.call ⟨.value (.func 93),#[(tT 12),(.func 94)],#[32,165]⟩) 4 false (.split (.u 5 0) CB Zn))))))
def at5:Tr:=cM 0 0 3 32 ap9
theorem xT:aN prog f19 (fun _=>none) [.v none] = at5:=by kernel_rfl
def Xm:Tr:=aQ .neq 3 13 0 7 0 4 (.ret [(W 8 0)])
def av8:Tr:=cM 0 0 6 32 (aQ .sub 3 7 1 2 0 3 (eU 0 0 3 0 32 5 8 (dP 4 0 none 72 9 (aJ 181 [(W 5 0),(G3 1)] [(some 3)] [10,11] [72,39] 39 false (aJ 35 [(G3 6)] [none] [12] [39] 3 true Xm)))))
theorem JI:aN prog f97 (fun _=>none) [.v none, .v (some 3)] = av8:=by kernel_rfl
def aG4:Tr:=cM 0 0 12 32 (aQ .sub 3 13 1 4 0 3 (bK .neq 3 10 14 3 0 5 0 4 (.split (.u 6 0) CB (aJ 97 [(W 0 0),(.agg [(U 0 1),(U 0 2),(U 0 3)])] [none] [19,21] [32,39] 4 false (.need (.prim [(W 7 0)] none) (.unOp .not 4 (tT 22)) 4 false (.split (.u 8 0) CB NT))))))
def ay7:Tr:=aJ 19 [(W 0 0)] [none] [4] [32] 55 false (aQ .neq 55 5 0 1 0 4 (.split (.u 2 0) CB (cM 0 4 9 40 aG4)))
theorem Ri:aN prog f21 (fun _=>none) [.v (some 5)] = ay7:=by kernel_rfl
def aI6:Tr:=eU 0 0 4 0 167 17 18 (dP 15 0 (some 4) 49 19 (aJ 104 [(G4 16),(.agg [(U 9 0),(U 10 0),(U 11 0),(U 12 0)])] [(some 4)] [20,21] [49,49] 49 true (aJ 48 [(.agg [(U 5 0),(U 6 0),(U 7 0),(U 8 0)]),(G4 17)] [(some 4)] [16,22] [49,49] 49 true (aJ 104 [(.agg [(U 9 0),(U 10 0),(U 11 0),(U 12 0)]),(G4 1)] [(some 4)] [24,25] [49,49] 49 true (aQ .add 3 14 1 4 0 3 (.back 0 [lV 20 0,lV 18 0,lV 18 1,lV 18 2,lV 18 3,lV 19 0,lV 19 1,lV 19 2,lV 19 3]))))))
def ax7:Tr:=.need (.call 50 [(WK 0)] [(some 4)]) (.call ⟨.value (.func 50),#[(.const (I3 0))],#[2]⟩) 49 true (.need (.call 50 [(WK 1)] [(some 4)]) (.call ⟨.value (.func 50),#[(.const (I3 1))],#[2]⟩) 49 true (.loop 0 [lK 0,lV 2 0,lV 2 1,lV 2 2,lV 2 3,lV 3 0,lV 3 1,lV 3 2,lV 3 3] (cM 0 0 11 167 (bK .lss 3 10 12 4 0 13 0 4 (.split (.u 14 0) aI6 (.ret [(.agg [(U 5 0),(U 6 0),(U 7 0),(U 8 0)])]))))))
theorem Vx:aN prog f124 (fun _=>none) [.v none, .v (some 4)] = ax7:=by kernel_rfl
def Iw:Tr:=.ret [(tF false)]
def YI:Tr:=eU 0 0 6 0 44 18 19 (dP 9 0 none 167 20 (aJ 96 [(W 10 0)] [none] [21] [167] 3 true (aQ .gtr 3 22 40 11 0 4 (.split (.u 12 0) Iw (aQ .add 3 16 1 6 0 3 (.back 0 [lV 5 0,lV 13 0]))))))
def ZC:Tr:=cM 0 0 25 44 (aQ .sub 3 26 1 9 0 3 (eU 0 0 10 0 44 24 27 (dP 11 0 none 167 28 (aJ 96 [(W 12 0)] [none] [29] [167] 3 true (aQ .geq 3 30 0 13 0 4 (.ret [(W 14 0)]))))))
def aE4:Tr:=cM 0 0 8 44 (aQ .gtr 3 9 5 3 0 4 (.split (.u 4 0) Iw (.loop 0 [(.w (.one (.c (.k (.bool false))))),lK 0] (cM 0 0 13 44 (bK .lss 3 12 14 6 0 7 0 4 (.split (.u 8 0) YI ZC))))))
def aE3:Tr:=cM 0 0 4 44 (aQ .lss 3 5 2 1 0 4 (.split (.u 2 0) Iw aE4))
theorem OV:aN prog f20 (fun _=>none) [.v none] = aE3:=by kernel_rfl
def aE1:Tr:=cM 0 0 6 44 (aQ .sub 3 7 1 2 0 3 (eU 0 0 3 0 44 5 8 (dP 4 0 none 167 9 (aJ 124 [(W 5 0),(G4 1)] [(some 4)] [10,11] [167,49] 49 false (aJ 46 [(G4 6)] [none] [12] [49] 3 true Xm)))))
theorem JT:aN prog f42 (fun _=>none) [.v none, .v (some 4)] = aE1:=by kernel_rfl
def aA1:Tr:=cM 0 5 8 50 (cM 0 0 11 44 (aQ .sub 3 12 1 3 0 3 (bK .eql 3 9 13 2 0 4 0 4 (.split (.u 5 0) (aJ 42 [(W 0 0),(.agg [(U 0 1),(U 0 2),(U 0 3),(U 0 4)])] [none] [18,20] [44,49] 4 true (.ret [(W 6 0)])) Iw))))
def aJ0:Tr:=aJ 20 [(W 0 0)] [none] [4] [44] 4 false (.split (.u 1 0) aA1 Iw)
theorem SB:aN prog f22 (fun _=>none) [.v (some 6)] = aJ0:=by kernel_rfl
abbrev cQ (p:List Rat):List aI:=[sQ p]
abbrev cR (p:List RQ):List aI:=[sR p]
abbrev eQ (e:List (List Rat)):aI:=.slice 1 (e.map cQ)
abbrev eR (e:List (List RQ)):aI:=.slice 1 (e.map cR)
def Hu {α:Type} (c:α → Bool):List α → Nat → Int
 | [],_=>-1
 | x :: xs,i=>if c x then (i:Int) else Hu c xs (i + 1)
theorem Ij {α:Type} (c:α → Bool):∀ (l:List α) (i:Nat),decide (0 ≤ Hu c l i) = l.any c
 | [],i=>rfl
 | x :: xs,i=>by
   simp only [Hu,List.any_cons]
   split
   ·rename_i h; rw [h]; simp
   ·rename_i h; rw [Ij c xs (i + 1)]; simp [h]
theorem RH (e:List (List Rat)) (g:Nat) (c:List Rat → Bool) (hc:∀ p ∈ e,aL prog g [.one (sQ p)] (.ret [.one (.bool (c p))])) (hs:e.length < 1099511627776):aL prog 180 [(.one (eQ e):aH),(.one (.gS g []):aH)] (.ret [.one (.int .i64 (Hu c e 0))]):=by
 refine aD (args:=[.v none, .v none]) (ins:=[.v (.one (eQ e)), .v (.one (.gS g []))]) (hints:=(fun _=>none)) fo (by kernel_rfl) func180 ⟨rfl,rfl,trivial⟩ ?_
 rw [Qc]
 dsimp only [List.map,In.env,aB,aA]
 refine vn (aO AZ (List.length_map _)) rfl ?_
 dsimp only [aB,aA]
 refine bA {i:Nat // i ≤ e.length ∧ Hu c e 0 = Hu c (e.drop i) i} (fun g=>[.one (.int .i64 0), .one (.int .i64 g.1)]) (fun g=>e.length - g.1) ⟨0,Nat.zero_le _,rfl⟩ aM.rfl (fun _=>rfl) ?_
 rintro ⟨i,hi,hf⟩
 dsimp only [aB,aA] at hi hf ⊢
 refine vn aY rfl ?_
 dsimp only [aB,aA]
 refine vs _ rfl (fun h3=>?_) (fun h3=>?_)
 ·obtain ⟨p,hp⟩:∃ p,e[i]? = some p:=⟨_,List.getElem?_eq_getElem (by omega)⟩
  have hdrop:e.drop i = p :: e.drop (i + 1):=by
   rw [List.drop_eq_getElem_cons (by omega),(List.getElem?_eq_some_iff.1 hp).2]
  rw [hdrop,Hu] at hf
  refine vn (aR AZ (by omega) (by omega) hp) rfl ?_
  dsimp only [aB,aA]
  refine vn (bB GG) rfl ?_
  dsimp only [aB,aA]
  refine Jy (f:=g) (caps:=[]) rfl (hc p (List.mem_of_getElem? hp)) rfl ?_
  dsimp only [aB,aA]
  refine uY (c p) rfl (fun h7=>?_) (fun h7=>?_)
  ·rw [hf,if_pos h7]; exact aK rfl
  refine vn (aE (by omega) (by omega)) rfl ?_
  dsimp only [aB,aA]
  exact aP rfl ⟨⟨i + 1,by omega,by rw [hf,if_neg (by simp [h7])]⟩,aM.rfl,by show e.length - (i + 1) < e.length - i; omega⟩
 rw [hf,List.drop_eq_nil_of_le (by omega),Hu]; exact aK rfl
theorem GJ (e:List (List Rat)) (g:Nat) (c:List Rat → Bool) (hc:∀ p ∈ e,aL prog g [.one (sQ p)] (.ret [.one (.bool (c p))])) (hs:e.length < 1099511627776):aL prog 93 [(.one (eQ e):aH),(.one (.gS g []):aH)] (.ret [.one (.bool (e.any c))]):=by
 refine aD (args:=[.v none, .v none]) (ins:=[.v (.one (eQ e)), .v (.one (.gS g []))]) (hints:=(fun _=>none)) fo (by kernel_rfl) func93 ⟨rfl,rfl,trivial⟩ ?_
 rw [GR]
 dsimp only [List.map,In.env,aB,aA]
 refine aC (RH e g c hc hs) rfl ?_
 dsimp only [aB,aA]
 refine vn dJ rfl ?_
 dsimp only [aB,aA]
 rw [← Ij c e 0]; exact aK rfl
def EP (p:List Rat):Bool:=decide (41 < cV zr p)
theorem tO (p:List Rat) (hs:p.length < 1099511627776):aL prog 94 [(.one (sQ p):aH)] (.ret [.one (.bool (EP p))]):=by
 refine aD (args:=[.v none]) (ins:=[.v (.one (sQ p))]) (hints:=(fun _=>none)) fo (by kernel_rfl) func94 ⟨rfl,trivial⟩ ?_
 rw [tL]
 dsimp only [List.map,In.env,aB,aA]
 refine aC (xL p hs) rfl ?_
 dsimp only [aB,aA]
 refine vn cP rfl ?_
 dsimp only [aB,aA]
 refine aK ?_
 rw [EP,show decide (41 < cV zr p) = decide ((40:Int) < (cV zr p:Int) - 1) by rw [decide_eq_decide]; omega]
 rfl
def lG (e:List (List Rat)):Bool:=decide (2 ≤ e.length ∧ e.length ≤ 5 ∧ (∀ p ∈ e,cV zr p ≤ 41) ∧ ∀ p,e[e.length - 1]? = some p → cV zr p ≠ 0)
theorem jL (e:List (List Rat)) (hs:e.length < 1099511627776) (hp:∀ p ∈ e,p.length < 1099511627776):aL prog 19 [(.one (eQ e):aH)] (.ret [.one (.int .i64 (if lG e then 0 else 2))]):=by
 refine aD (args:=[.v none]) (ins:=[.v (.one (eQ e))]) (hints:=(fun _=>none)) fo (by kernel_rfl) func19 ⟨rfl,trivial⟩ ?_
 rw [xT]
 dsimp only [List.map,In.env,aB,aA]
 refine vn (aO AZ (List.length_map _)) rfl ?_
 dsimp only [aB,aA]
 refine vn aY rfl ?_
 dsimp only [aB,aA]
 refine vs _ rfl (fun h2=>?_) (fun h2=>?_)
 ·rw [if_neg (by unfold lG; rw [decide_eq_true_iff]; omega)]; exact aK rfl
 refine vn (aO AZ (List.length_map _)) rfl ?_
 dsimp only [aB,aA]
 refine vn cP rfl ?_
 dsimp only [aB,aA]
 refine vs _ rfl (fun h6=>?_) (fun h6=>?_)
 ·rw [if_neg (by unfold lG; rw [decide_eq_true_iff]; omega)]; exact aK rfl
 refine aC (GJ e 94 EP (fun p hp'=>tO p (hp p hp')) hs) rfl ?_
 dsimp only [aB,aA]
 refine uY (e.any EP) rfl (fun h9=>?_) (fun h9=>?_)
 ·rw [if_neg (by
   unfold lG; rw [decide_eq_true_iff]
   rintro ⟨_,_,h,_⟩
   obtain ⟨p,hp1,hp2⟩:=List.any_eq_true.1 h9
   have:=h p hp1
   simp [EP] at hp2; omega)]; exact aK rfl
 refine vn (aO AZ (List.length_map _)) rfl ?_
 dsimp only [aB,aA]
 refine vn (aG (by omega) (by omega)) rfl ?_
 dsimp only [aB,aA]
 obtain ⟨p,hpl⟩:∃ p,e[e.length - 1]? = some p:=⟨_,List.getElem?_eq_getElem (by omega)⟩
 refine vn (aR AZ (by omega) (by omega) hpl) rfl ?_
 dsimp only [aB,aA]
 refine vn (bB GG) rfl ?_
 dsimp only [aB,aA]
 refine aC (xL p (hp p (List.mem_of_getElem? hpl))) rfl ?_
 dsimp only [aB,aA]
 refine vn aY rfl ?_
 dsimp only [aB,aA]
 refine vs _ rfl (fun h17=>?_) (fun h17=>?_)
 ·rw [if_neg (by
   unfold lG; rw [decide_eq_true_iff]
   rintro ⟨_,_,_,h⟩
   have:=h p hpl
   omega)]; exact aK rfl
 rw [if_pos (by
  unfold lG; rw [decide_eq_true_iff]
  refine ⟨by omega,by omega,fun p' hp'=>?_,fun p' hp'=>?_⟩
  ·have:=List.any_eq_false.1 h9 p' hp'
   simp [EP] at this; omega
  ·rw [hpl] at hp'; simp only [Option.some.injEq] at hp'; subst hp'; omega)]; exact aK rfl
structure Nv (e:List (List Rat)):Prop where
 l:e.length ≤ 64
 p:∀ p ∈ e,p.length ≤ 64 ∧ ∀ q ∈ p,Fit 513 q
def iU (e:List (List Rat)) (c:Rat):Bool:=decide (∀ p,e[e.length - 1]? = some p → eN p c ≠ 0)
theorem tX (e:List (List Rat)) (c:Rat) (he:Nv e) (h0:0 < e.length) (hc:Fit 513 c):aL prog 97 [(.one (eQ e):aH),(qT c:aH)] (.ret [.one (.bool (iU e c))]):=by
 refine aD (args:=[.v none, .v (some 3)]) (ins:=[.v (.one (eQ e)), .v (qT c)]) (hints:=(fun _=>none)) fo (by kernel_rfl) func97 ⟨rfl,rfl,trivial⟩ ?_
 rw [JI]
 dsimp only [List.map,In.env,aB,aA]
 have hl:=he.l
 refine vn (aO AZ (List.length_map _)) rfl ?_
 dsimp only [aB,aA]
 refine vn (aG (by omega) (by omega)) rfl ?_
 dsimp only [aB,aA]
 obtain ⟨p,hpl⟩:∃ p,e[e.length - 1]? = some p:=⟨_,List.getElem?_eq_getElem (by omega)⟩
 obtain ⟨hp1,hp2⟩:=he.p p (List.mem_of_getElem? hpl)
 refine vn (aR AZ (by omega) (by omega) hpl) rfl ?_
 dsimp only [aB,aA]
 refine vn (bB GG) rfl ?_
 dsimp only [aB,aA]
 refine aC (VO p c 513 (by omega) hp2 hc (by omega)) rfl ?_
 dsimp only [aB,aA]
 refine aC (dB _) rfl ?_
 dsimp only [aB,aA]
 refine vn dR rfl ?_
 dsimp only [aB,aA]
 refine aK ?_
 have:iU e c = decide ((eN p c).num.sign ≠ 0):=by
  unfold iU
  rw [decide_eq_decide]
  constructor
  ·intro h hh; exact h p hpl (sign_zero.1 hh)
  ·intro h p' hp' hh
   rw [hpl] at hp'; simp only [Option.some.injEq] at hp'; subst hp'
   exact h (sign_zero.2 hh)
 rw [this]; rfl
def okF (e:List (List Rat)) (c:Rat) (y:List Rat):Bool:=lG e && decide (y.length = e.length - 1) && iU e c
theorem Hz (e:List (List Rat)) (c:Rat) (y:List Rat) (he:Nv e) (hc:Fit 513 c) (hy:y.length < 1099511627776):aL prog 21 [(.agg [eQ e,dT c.num.natAbs, .bool (decide (c.num < 0)),dT (c.den - 1),sQ y]:aH)] (.ret [.one (.int .i64 (if okF e c y then 0 else 2))]):=by
 refine aD (args:=[.v (some 5)]) (ins:=[.v (.agg [eQ e,dT c.num.natAbs, .bool (decide (c.num < 0)),dT (c.den - 1),sQ y])]) (hints:=(fun _=>none)) fo (by kernel_rfl) func21 ⟨rfl,trivial⟩ ?_
 rw [Ri]
 dsimp only [List.map,In.env,aB,aA]
 have hl:=he.l
 have hp:=he.p
 refine aC (jL e (by omega) (fun p hp'=>by have:=(hp p hp').1; omega)) rfl ?_
 dsimp only [aB,aA]
 refine vn dR rfl ?_
 dsimp only [aB,aA]
 have h2':decide ((if lG e = true then (0:Int) else 2) ≠ 0) = !lG e:=by cases lG e <;> rfl
 rw [h2']
 refine uY (!lG e) rfl (fun h2=>?_) (fun h2=>?_)
 ·rw [if_neg (by simp at h2; simp [okF,h2])]; exact aK rfl
 have h2:lG e = true:=by simpa using h2
 have hlen:2 ≤ e.length:=by unfold lG at h2; rw [decide_eq_true_iff] at h2; exact h2.1
 refine vn (aO DN (List.length_map _)) rfl ?_
 dsimp only [aB,aA]
 refine vn (aO AZ (List.length_map _)) rfl ?_
 dsimp only [aB,aA]
 refine vn (aG (by omega) (by omega)) rfl ?_
 dsimp only [aB,aA]
 refine vn dR rfl ?_
 dsimp only [aB,aA]
 refine vs _ rfl (fun h8=>?_) (fun h8=>?_)
 ·rw [if_neg (by simp [okF]; intro _ _; omega)]; exact aK rfl
 refine aC (tX e c he (by omega) hc) rfl ?_
 dsimp only [aB,aA]
 refine vn lW rfl ?_
 dsimp only [aB,aA]
 refine uY (!iU e c) rfl (fun h12=>?_) (fun h12=>?_)
 ·rw [if_neg (by simp at h12; simp [okF,h12])]; exact aK rfl
 rw [if_pos (by simp at h12; simp [okF,h12,h2]; omega)]; exact aK rfl
end Go.Sy
namespace Go.Sy
open Go Go.Proofs Tryz Ord
theorem Jn (ps:List Rat) (a c:Rat):eN (ps ++ [a]) c = eN ps c + a * c ^ ps.length:=by
 unfold eN
 rw [List.foldr_append]
 have key:∀ (ps:List Rat) (s:Rat),List.foldr (fun a v=>v * c + a) s ps = List.foldr (fun a v=>v * c + a) 0 ps + s * c ^ ps.length:=by
  intro ps
  induction ps with
  | nil=>intro s; simp only [List.foldr_nil,List.length_nil,Rat.pow_zero]; grind
  | cons x ps ih=>intro s; simp only [List.foldr_cons,List.length_cons,Rat.pow_succ]; rw [ih s]; grind
 rw [key]
 congr 1
 simp only [List.foldr_cons,List.foldr_nil]
 grind
theorem EM {B:Nat} (hB:1 ≤ B) {c:Rat} (hc:Fit B c):∀ ps:List Rat,(∀ q ∈ ps,Fit B q) → Fit (ps.length * (2 * B + 1) + 1) (eN ps c)
 | [],_=>Fit.zero (by omega)
 | a :: ps,h=>by
   have ih:=EM hB hc ps (fun q hq=>h q (List.mem_cons_of_mem _ hq))
   have:=(ih.mul hc).add (h a List.mem_cons_self)
   refine this.mono ?_
   rw [List.length_cons,Nat.add_mul]; omega
theorem Xc (ps:List RQ) (c:RQ) (B:Nat) (hB:1 ≤ B) (hp:∀ q ∈ ps,Fit B q.q) (hc:Fit B c.q) (hl:ps.length * (2 * B + 2) ≤ 1073741824) (hs:ps.length ≤ 1073741824) (hB2:B ≤ 1048576):aL prog 124 [(.one (sR ps):aH),(fB c:aH)] (.ret [fB (.of (eN (ps.map RQ.q) c.q))]):=by
 refine aD (args:=[.v none, .v (some 4)]) (ins:=[.v (.one (sR ps)), .v (fB c)]) (hints:=(fun _=>none)) fo (by kernel_rfl) func124 ⟨rfl,rfl,trivial⟩ ?_
 rw [Vx]
 dsimp only [List.map,In.env,aB,aA]
 have hmap:∀ q ∈ ps.map RQ.q,Fit B q:=fun q hq=>by
  obtain ⟨a,ha,rfl⟩:=List.mem_map.1 hq
  exact hp a ha
 refine aC (fY 0 (by omega) (by omega)) rfl ?_
 dsimp only [aB,aA]
 refine aC (fY 1 (by omega) (by omega)) rfl ?_
 dsimp only [aB,aA]
 refine bA {i:Nat // i ≤ ps.length} (fun g=>[.one (.int .i64 g.1), .one (.int .i64 (eN ((ps.map RQ.q).take g.1) c.q).num.sign), .one (bT (eN ((ps.map RQ.q).take g.1) c.q).num.natAbs), .one (.int .i64 1), .one (bT (eN ((ps.map RQ.q).take g.1) c.q).den), .one (.int .i64 (c.q ^ g.1).num.sign), .one (bT (c.q ^ g.1).num.natAbs), .one (.int .i64 1), .one (bT (c.q ^ g.1).den)]) (fun g=>ps.length - g.1) ⟨0,Nat.zero_le _⟩ (by
  simp only [List.take_zero,Rat.pow_zero]; exact aM.rfl) (fun _=>rfl) ?_
 rintro ⟨i,hi⟩
 dsimp only [aB,aA] at hi ⊢
 refine vn (aO dZ (List.length_map _)) rfl ?_
 dsimp only [aB,aA]
 refine vn aY rfl ?_
 dsimp only [aB,aA]
 refine vs _ rfl (fun h5=>?_) (fun h5=>?_)
 ·obtain ⟨a,ha⟩:∃ a,ps[i]? = some a:=⟨_,List.getElem?_eq_getElem (by omega)⟩
  have hma:(ps.map RQ.q)[i]? = some a.q:=by rw [List.getElem?_map,ha]; rfl
  have hfa:=hp a (List.mem_of_getElem? ha)
  have hfi:=hc.pow hB i
  have hlen:((ps.map RQ.q).take i).length = i:=by simp; omega
  have hfe:=EM hB hc ((ps.map RQ.q).take i) (fun q hq=>hmap q (List.mem_of_mem_take hq))
  rw [hlen] at hfe
  have hib:i * (2 * B + 2) ≤ 1073741824:=Nat.le_trans (Nat.mul_le_mul_right _ hi) hl
  have hib2:i * (2 * B + 2) = i * (2 * B + 1) + i:=by rw [show 2 * B + 2 = (2 * B + 1) + 1 by omega,Nat.mul_add i (2 * B + 1) 1,Nat.mul_one]
  have hib3:B * i ≤ i * (2 * B + 1):=by rw [Nat.mul_comm]; exact Nat.mul_le_mul_left _ (by omega)
  have hsn:eN ((ps.map RQ.q).take (i + 1)) c.q = eN ((ps.map RQ.q).take i) c.q + a.q * c.q ^ i:=by
   rw [List.take_add_one,hma]
   show eN (_ ++ [a.q]) c.q = _
   rw [Jn,hlen]
  refine vn (aR dZ (by omega) (by omega) ha) rfl ?_
  dsimp only [aB,aA]
  refine vn (bV qK (by decide) (by simp) (.inl rfl)) rfl ?_
  dsimp only [aB,aA]
  have hm:=gA a (.of (c.q ^ i)) _ _ hfa hfi (by omega)
  refine aC hm rfl ?_
  dsimp only [aB,aA]
  have hs1:=lO (.of (eN ((ps.map RQ.q).take i) c.q)) (.of (a.q * (RQ.of (c.q ^ i)).q)) _ _ hfe (hfa.mul hfi) (by omega)
  rw [RQ.Ft,RQ.Ft,RQ.Ft,← hsn] at hs1
  refine aC hs1 rfl ?_
  dsimp only [aB,aA]
  have hm2:=gA (.of (c.q ^ i)) c _ _ hfi hc (by omega)
  rw [RQ.Ft,← Rat.pow_succ] at hm2
  refine aC hm2 rfl ?_
  dsimp only [aB,aA]
  refine vn (aE (by omega) (by omega)) rfl ?_
  dsimp only [aB,aA]
  exact aP rfl ⟨⟨i + 1,by omega⟩,aM.rfl,by show ps.length - (i + 1) < ps.length - i; omega⟩
 rw [show i = ps.length by omega]
 have e:(ps.map RQ.q).take ps.length = ps.map RQ.q:=List.take_of_length_le (by simp)
 rw [e]; exact aK rfl
def eC (e:List (List RQ)):List (List Rat):=e.map fun p=>p.map RQ.q
theorem sL {e:List (List RQ)} {i:Nat} {p:List RQ} (h:e[i]? = some p):(eC e)[i]? = some (p.map RQ.q):=by rw [eC,List.getElem?_map,h]; rfl
theorem jY (e:List (List RQ)):(eC e).length = e.length:=List.length_map _
theorem Es (p:List RQ):cV Dk p = cV zr (p.map RQ.q):=(CS (z:=zr) RQ.q p).symm
theorem HJ (e:List (List RQ)) (hs:e.length < 1099511627776) (hp:∀ p ∈ e,p.length < 1099511627776):aL prog 20 [(.one (eR e):aH)] (.ret [.one (.bool (lG (eC e)))]):=by
 refine aD (args:=[.v none]) (ins:=[.v (.one (eR e))]) (hints:=(fun _=>none)) fo (by kernel_rfl) func20 ⟨rfl,trivial⟩ ?_
 rw [OV]
 dsimp only [List.map,In.env,aB,aA]
 have hlen:=jY e
 refine vn (aO gU (List.length_map _)) rfl ?_
 dsimp only [aB,aA]
 refine vn aY rfl ?_
 dsimp only [aB,aA]
 refine vs _ rfl (fun h2=>?_) (fun h2=>?_)
 ·rw [show lG (eC e) = false by unfold lG; rw [decide_eq_false_iff_not]; omega]; exact aK rfl
 refine vn (aO gU (List.length_map _)) rfl ?_
 dsimp only [aB,aA]
 refine vn cP rfl ?_
 dsimp only [aB,aA]
 refine vs _ rfl (fun h6=>?_) (fun h6=>?_)
 ·rw [show lG (eC e) = false by unfold lG; rw [decide_eq_false_iff_not]; omega]; exact aK rfl
 refine bA {i:Nat // i ≤ e.length ∧ ∀ j p,j < i → e[j]? = some p → cV Dk p ≤ 41} (fun g=>[.one (.bool false), .one (.int .i64 g.1)]) (fun g=>e.length - g.1) ⟨0,Nat.zero_le _,fun j p h=>by omega⟩ aM.rfl (fun _=>rfl) ?_
 rintro ⟨i,hi,hb⟩
 dsimp only [aB,aA] at hi hb ⊢
 refine vn (aO gU (List.length_map _)) rfl ?_
 dsimp only [aB,aA]
 refine vn aY rfl ?_
 dsimp only [aB,aA]
 refine vs _ rfl (fun h11=>?_) (fun h11=>?_)
 ·obtain ⟨p,hpi⟩:∃ p,e[i]? = some p:=⟨_,List.getElem?_eq_getElem (by omega)⟩
  refine vn (aR gU (by omega) (by omega) hpi) rfl ?_
  dsimp only [aB,aA]
  refine vn (bB jK) rfl ?_
  dsimp only [aB,aA]
  refine aC (lF p (hp p (List.mem_of_getElem? hpi))) rfl ?_
  dsimp only [aB,aA]
  refine vn cP rfl ?_
  dsimp only [aB,aA]
  refine vs _ rfl (fun h16=>?_) (fun h16=>?_)
  ·rw [show lG (eC e) = false by
    unfold lG; rw [decide_eq_false_iff_not]
    rintro ⟨_,_,h,_⟩
    have:=h _ (List.mem_of_getElem? (sL hpi))
    rw [← Es] at this; omega]; exact aK rfl
  refine vn (aE (by omega) (by omega)) rfl ?_
  dsimp only [aB,aA]
  exact aP rfl ⟨⟨i + 1,by omega,fun j p' hj hp'=>by
   rcases Nat.lt_or_ge j i with h | h
   ·exact hb j p' h hp'
   ·rw [show j = i by omega,hpi] at hp'; simp only [Option.some.injEq] at hp'; subst hp'; omega⟩,aM.rfl,by show e.length - (i + 1) < e.length - i; omega⟩
 refine vn (aO gU (List.length_map _)) rfl ?_
 dsimp only [aB,aA]
 refine vn (aG (by omega) (by omega)) rfl ?_
 dsimp only [aB,aA]
 obtain ⟨p,hpl⟩:∃ p,e[e.length - 1]? = some p:=⟨_,List.getElem?_eq_getElem (by omega)⟩
 refine vn (aR gU (by omega) (by omega) hpl) rfl ?_
 dsimp only [aB,aA]
 refine vn (bB jK) rfl ?_
 dsimp only [aB,aA]
 refine aC (lF p (hp p (List.mem_of_getElem? hpl))) rfl ?_
 dsimp only [aB,aA]
 refine vn dJ rfl ?_
 dsimp only [aB,aA]
 rw [show lG (eC e) = decide ((0:Int) ≤ (cV Dk p:Int) - 1) by
  unfold lG; rw [decide_eq_decide]
  constructor
  ·rintro ⟨_,_,_,h⟩
   have:=h _ (by rw [hlen]; exact sL hpl)
   rw [← Es] at this; omega
  ·intro h
   refine ⟨by omega,by omega,fun p' hp'=>?_,fun p' hp'=>?_⟩
   ·obtain ⟨p0,hp0,rfl⟩:=List.mem_map.1 hp'
    obtain ⟨j,hj⟩:=List.getElem?_of_mem hp0
    have hje:=(List.getElem?_eq_some_iff.1 hj).1
    have:=hb j p0 (by omega) hj
    rw [← Es]; exact this
   ·rw [hlen,sL hpl] at hp'; simp only [Option.some.injEq] at hp'; subst hp'
    rw [← Es]; omega]; exact aK rfl
theorem Cu (e:List (List RQ)) (c:RQ) (he:Nv (eC e)) (h0:0 < e.length) (hc:Fit 513 c.q):aL prog 42 [(.one (eR e):aH),(fB c:aH)] (.ret [.one (.bool (iU (eC e) c.q))]):=by
 refine aD (args:=[.v none, .v (some 4)]) (ins:=[.v (.one (eR e)), .v (fB c)]) (hints:=(fun _=>none)) fo (by kernel_rfl) func42 ⟨rfl,rfl,trivial⟩ ?_
 rw [JT]
 dsimp only [List.map,In.env,aB,aA]
 have hl:=he.l
 have hlen:=jY e
 refine vn (aO gU (List.length_map _)) rfl ?_
 dsimp only [aB,aA]
 refine vn (aG (by omega) (by omega)) rfl ?_
 dsimp only [aB,aA]
 obtain ⟨p,hpl⟩:∃ p,e[e.length - 1]? = some p:=⟨_,List.getElem?_eq_getElem (by omega)⟩
 obtain ⟨hp1,hp2⟩:=he.p _ (List.mem_of_getElem? (sL hpl))
 rw [List.length_map] at hp1
 refine vn (aR gU (by omega) (by omega) hpl) rfl ?_
 dsimp only [aB,aA]
 refine vn (bB jK) rfl ?_
 dsimp only [aB,aA]
 refine aC (Xc p c 513 (by omega) (fun q hq=>hp2 _ (List.mem_map.2 ⟨q,hq,rfl⟩)) hc (by omega) (by omega) (by omega)) rfl ?_
 dsimp only [aB,aA]
 refine aC (Gd _) rfl ?_
 dsimp only [aB,aA]
 refine vn dR rfl ?_
 dsimp only [aB,aA]
 refine aK ?_
 have:iU (eC e) c.q = decide ((eN (p.map RQ.q) c.q).num.sign ≠ 0):=by
  unfold iU
  rw [decide_eq_decide,hlen]
  constructor
  ·intro h hh; exact h _ (sL hpl) (sign_zero.1 hh)
  ·intro h p' hp' hh
   rw [sL hpl] at hp'; simp only [Option.some.injEq] at hp'; subst hp'
   exact h (sign_zero.2 hh)
 rw [this]; rfl
theorem Qt (e:List (List RQ)) (c:RQ) (y:List RQ) (he:Nv (eC e)) (hc:Fit 513 c.q) (hy:y.length < 1099511627776):aL prog 22 [(.agg [eR e, .int .i64 c.q.num.sign,bT c.q.num.natAbs, .int .i64 (if c.z then 0 else 1),bT (if c.z then 0 else c.q.den),sR y]:aH)] (.ret [.one (.bool (okF (eC e) c.q (y.map RQ.q)))]):=by
 refine aD (args:=[.v (some 6)]) (ins:=[.v (.agg [eR e, .int .i64 c.q.num.sign,bT c.q.num.natAbs, .int .i64 (if c.z then 0 else 1),bT (if c.z then 0 else c.q.den),sR y])]) (hints:=(fun _=>none)) fo (by kernel_rfl) func22 ⟨rfl,trivial⟩ ?_
 rw [SB]
 dsimp only [List.map,In.env,aB,aA]
 have hl:=he.l
 have hlen:=jY e
 have hp:=he.p
 refine aC (HJ e (by omega) (fun p hp'=>by have:=(hp _ (List.mem_map.2 ⟨p,hp',rfl⟩)).1; rw [List.length_map] at this; omega)) rfl ?_
 dsimp only [aB,aA]
 refine uY (lG (eC e)) rfl (fun h1=>?_) (fun h1=>?_)
 ·have hle:2 ≤ e.length:=by unfold lG at h1; rw [decide_eq_true_iff] at h1; omega
  refine vn (aO IK (List.length_map _)) rfl ?_
  dsimp only [aB,aA]
  refine vn (aO gU (List.length_map _)) rfl ?_
  dsimp only [aB,aA]
  refine vn (aG (by omega) (by omega)) rfl ?_
  dsimp only [aB,aA]
  refine vn bE rfl ?_
  dsimp only [aB,aA]
  refine vs _ rfl (fun h6=>?_) (fun h6=>?_)
  ·refine aC (Cu e c he (by omega) hc) rfl ?_
   dsimp only [aB,aA]
   rw [show okF (eC e) c.q (y.map RQ.q) = iU (eC e) c.q by simp [okF,h1,hlen]; omega]; exact aK rfl
  rw [show okF (eC e) c.q (y.map RQ.q) = false by simp [okF,hlen]; intro _ _; omega]; exact aK rfl
 rw [show okF (eC e) c.q (y.map RQ.q) = false by simp [okF,h1]]; exact aK rfl
end Go.Sy
