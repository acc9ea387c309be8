/- Equations: Check, CheckEquation; Valid, Right. The reference: Eval, Valid, Regular, Right; Alike.
-/
import Derived.Test.YtdmcadckdnnglaaGreatDoorTb
set_option linter.unusedVariables false
set_option linter.unusedSimpArgs false
namespace Go.Sy
open Go Go.Proofs Tryz Ord
def aN2:Tr:=.split (.u 5 0) (eD 0 0 4 0 32 12 13 (dI 6 0 none 72 14 (.need (.callv (.u 1 0) [(W 7 0)] [none]) (.call ⟨.value (tT 11),#[(tT 15)],#[72]⟩) 4 true (.split (.u 8 0) (.ret [(W 4 0)]) (aU .add 3 8 1 4 0 3 (.back 0 [lV 3 0,lV 9 0])))))) (.ret [(WK (-1))])
def aF2:Tr:=cB 0 0 6 32 (.loop 0 [lK 0,lK 0] (bJ .lss 3 8 7 4 0 2 0 0 aN2))
theorem TW:aN prog f180 (fun _=>none) [.v none, .v none]=aF2:=by kernel_rfl
def aF4:Tr:=aK 180 [(W 0 0),(W 1 0)] [none] [5,6] [32,165] 3 true (aU .geq 3 7 0 2 0 4 (.ret [(W 3 0)]))
theorem Hf:aN prog f93 (fun _=>none) [.v none, .v none]=aF4:=by kernel_rfl
def aK6:Tr:=aK 95 [(W 0 0)] [none] [3] [72] 3 true (aU .gtr 3 4 40 1 0 4 (.ret [(W 2 0)]))
theorem vP:aN prog f94 (fun _=>none) [.v none]=aK6:=by kernel_rfl
def Ch:Tr:=.ret [(WK 2)]
def TE:Tr:=.ret [(WK 0)]
def am1:Tr:=cB 0 0 17 32 (aU .sub 3 18 1 6 0 3 (eD 0 0 7 0 32 16 19 (dI 8 0 none 72 20 (aK 95 [(W 9 0)] [none] [21] [72] 3 false (aU .lss 3 22 0 10 0 4 (.split (.u 11 0) Ch TE))))))
def aW4:Tr:=aU .lss 3 4 2 1 0 4 (.split (.u 2 0) Ch (cB 0 0 7 32 (aU .gtr 3 8 5 3 0 4 (.split (.u 4 0) Ch (.need (.call 93 [(W 0 0),(.one (.gT 94 []))] [none]) (.call ⟨.value (.func 93),#[(tT 12),(.func 94)],#[32,165]⟩) 4 false (.split (.u 5 0) Ch am1))))))
def aS2:Tr:=cB 0 0 3 32 aW4
theorem zA:aN prog f19 (fun _=>none) [.v none]=aS2:=by kernel_rfl
def YT:Tr:=aU .neq 3 13 0 7 0 4 (.ret [(W 8 0)])
def aR2:Tr:=cB 0 0 6 32 (aU .sub 3 7 1 2 0 3 (eD 0 0 3 0 32 5 8 (dI 4 0 none 72 9 (aK 181 [(W 5 0),(G3 1)] [(some 3)] [10,11] [72,39] 39 false (aK 35 [(G3 6)] [none] [12] [39] 3 true YT)))))
theorem Kj:aN prog f97 (fun _=>none) [.v none, .v (some 3)]=aR2:=by kernel_rfl
def aS6:Tr:=cB 0 0 12 32 (aU .sub 3 13 1 4 0 3 (bJ .neq 3 10 14 3 0 5 0 4 (.split (.u 6 0) Ch (aK 97 [(W 0 0),(.agg [(U 0 1),(U 0 2),(U 0 3)])] [none] [19,21] [32,39] 4 false (.need (.prim [(W 7 0)] none) (.unOp .not 4 (tT 22)) 4 false (.split (.u 8 0) Ch TE))))))
def aD6:Tr:=aK 19 [(W 0 0)] [none] [4] [32] 55 false (aU .neq 55 5 0 1 0 4 (.split (.u 2 0) Ch (cB 0 4 9 40 aS6)))
theorem Ug:aN prog f21 (fun _=>none) [.v (some 5)]=aD6:=by kernel_rfl
def aW9:Tr:=eD 0 0 4 0 167 17 18 (dI 15 0 (some 4) 49 19 (aK 104 [(G4 16),(.agg [(U 9 0),(U 10 0),(U 11 0),(U 12 0)])] [(some 4)] [20,21] [49,49] 49 true (aK 48 [(.agg [(U 5 0),(U 6 0),(U 7 0),(U 8 0)]),(G4 17)] [(some 4)] [16,22] [49,49] 49 true (aK 104 [(.agg [(U 9 0),(U 10 0),(U 11 0),(U 12 0)]),(G4 1)] [(some 4)] [24,25] [49,49] 49 true (aU .add 3 14 1 4 0 3 (.back 0 [lV 20 0,lV 18 0,lV 18 1,lV 18 2,lV 18 3,lV 19 0,lV 19 1,lV 19 2,lV 19 3]))))))
def aP1:Tr:=.need (.call 50 [(WK 0)] [(some 4)]) (.call ⟨.value (.func 50),#[(.const (I3 0))],#[2]⟩) 49 true (.need (.call 50 [(WK 1)] [(some 4)]) (.call ⟨.value (.func 50),#[(.const (I3 1))],#[2]⟩) 49 true (.loop 0 [lK 0,lV 2 0,lV 2 1,lV 2 2,lV 2 3,lV 3 0,lV 3 1,lV 3 2,lV 3 3] (cB 0 0 11 167 (bJ .lss 3 10 12 4 0 13 0 4 (.split (.u 14 0) aW9 (.ret [(.agg [(U 5 0),(U 6 0),(U 7 0),(U 8 0)])]))))))
theorem Vp:aN prog f124 (fun _=>none) [.v none, .v (some 4)]=aP1:=by kernel_rfl
def TM:Tr:=.ret [(tF false)]
def ap2:Tr:=eD 0 0 6 0 44 18 19 (dI 9 0 none 167 20 (aK 96 [(W 10 0)] [none] [21] [167] 3 true (aU .gtr 3 22 40 11 0 4 (.split (.u 12 0) TM (aU .add 3 16 1 6 0 3 (.back 0 [lV 5 0,lV 13 0]))))))
def ar1:Tr:=cB 0 0 25 44 (aU .sub 3 26 1 9 0 3 (eD 0 0 10 0 44 24 27 (dI 11 0 none 167 28 (aK 96 [(W 12 0)] [none] [29] [167] 3 true (aU .geq 3 30 0 13 0 4 (.ret [(W 14 0)]))))))
def aQ0:Tr:=cB 0 0 8 44 (aU .gtr 3 9 5 3 0 4 (.split (.u 4 0) TM (.loop 0 [(.w (.one (.c (.k (.bool false))))),lK 0] (cB 0 0 13 44 (bJ .lss 3 12 14 6 0 7 0 4 (.split (.u 8 0) ap2 ar1))))))
def aC5:Tr:=cB 0 0 4 44 (aU .lss 3 5 2 1 0 4 (.split (.u 2 0) TM aQ0))
theorem Rl:aN prog f20 (fun _=>none) [.v none]=aC5:=by kernel_rfl
def aI6:Tr:=cB 0 0 6 44 (aU .sub 3 7 1 2 0 3 (eD 0 0 3 0 44 5 8 (dI 4 0 none 167 9 (aK 124 [(W 5 0),(G4 1)] [(some 4)] [10,11] [167,49] 49 false (aK 46 [(G4 6)] [none] [12] [49] 3 true YT)))))
theorem Lc:aN prog f42 (fun _=>none) [.v none, .v (some 4)]=aI6:=by kernel_rfl
abbrev cQ (p:List Rat):List aH:=[sQ p]
abbrev cR (p:List RQ):List aH:=[sR p]
abbrev eQ (e:List (List Rat)):aH:=.slice 1 (e.map cQ)
abbrev eR (e:List (List RQ)):aH:=.slice 1 (e.map cR)
def Jk {α:Type} (c:α→Bool):List α→Nat→Int
 | [],_=>-1
 | x::xs,i=>if c x then (i:Int) else Jk c xs (i+1)
theorem IK {α:Type} (c:α→Bool):∀ (l:List α) (i:Nat),decide (0≤Jk c l i)=l.any c
 | [],i=>rfl
 | x::xs,i=>by
   simp only [Jk,List.any_cons];split
   ·rename_i h;rw [h];simp
   ·rename_i h;rw [IK c xs (i+1)];simp [h]
theorem Sf (e:List (List Rat)) (g:Nat) (c:List Rat→Bool) (hc:∀ p∈e,aM prog g [.one (sQ p)] (.ret [.one (.bool (c p))])) (hs:e.length<1099511627776):aM prog 180 [(.one (eQ e):aF),(.one (.gT g []):aF)] (.ret [.one (.int .i64 (Jk c e 0))]):=by
 refine aD (args:=[.v none, .v none]) (ins:=[.v (.one (eQ e)), .v (.one (.gT g []))]) (hints:=(fun _=>none)) fo (by kernel_rfl) func180 ⟨rfl,rfl,trivial⟩ ?_;rw [TW];dsimp only [List.map,In.env,aB,aA];refine vn (aP Ar (List.length_map _)) rfl ?_;dsimp only [aB,aA];refine bC {i:Nat // i≤e.length∧Jk c e 0=Jk c (e.drop i) i} (fun g=>[.one (.int .i64 0), .one (.int .i64 g.1)]) (fun g=>e.length-g.1) ⟨0,Nat.zero_le _,rfl⟩ aO.rfl (fun _=>rfl) ?_;rintro ⟨i,hi,hf⟩;dsimp only [aB,aA] at hi hf ⊢;refine vn bB rfl ?_;dsimp only [aB,aA];refine vs _ rfl (fun h3=>?_) (fun h3=>?_)
 ·obtain ⟨p,hp⟩:∃ p,e[i]? = some p:=⟨_,List.getElem?_eq_getElem (by omega)⟩
  have hdrop:e.drop i=p::e.drop (i+1):=by
   rw [List.drop_eq_getElem_cons (by omega),(List.getElem?_eq_some_iff.1 hp).2]
  rw [hdrop,Jk] at hf;refine vn (aW Ar (by omega) (by omega) hp) rfl ?_;dsimp only [aB,aA];refine vn (bF JE) rfl ?_;dsimp only [aB,aA];refine Kx (f:=g) (caps:=[]) rfl (hc p (List.mem_of_getElem? hp)) rfl ?_;dsimp only [aB,aA];refine rA (c p) rfl (fun h7=>?_) (fun h7=>?_)
  ·rw [hf,if_pos h7];exact aL rfl
  refine vn (aE (by omega) (by omega)) rfl ?_;dsimp only [aB,aA];exact aR rfl ⟨⟨i+1,by omega,by rw [hf,if_neg (by simp [h7])]⟩,aO.rfl,by show e.length-(i+1)<e.length-i;omega⟩
 rw [hf,List.drop_eq_nil_of_le (by omega),Jk];exact aL rfl
theorem JF (e:List (List Rat)) (g:Nat) (c:List Rat→Bool) (hc:∀ p∈e,aM prog g [.one (sQ p)] (.ret [.one (.bool (c p))])) (hs:e.length<1099511627776):aM prog 93 [(.one (eQ e):aF),(.one (.gT g []):aF)] (.ret [.one (.bool (e.any c))]):=by
 refine aD (args:=[.v none, .v none]) (ins:=[.v (.one (eQ e)), .v (.one (.gT g []))]) (hints:=(fun _=>none)) fo (by kernel_rfl) func93 ⟨rfl,rfl,trivial⟩ ?_;rw [Hf];dsimp only [List.map,In.env,aB,aA];refine aC (Sf e g c hc hs) rfl ?_;dsimp only [aB,aA];refine vn eH rfl ?_;dsimp only [aB,aA];rw [←IK c e 0];exact aL rfl
def ES (p:List Rat):Bool:=decide (41<dH zr p)
theorem uU (p:List Rat) (hs:p.length<1099511627776):aM prog 94 [(.one (sQ p):aF)] (.ret [.one (.bool (ES p))]):=by
 refine aD (args:=[.v none]) (ins:=[.v (.one (sQ p))]) (hints:=(fun _=>none)) fo (by kernel_rfl) func94 ⟨rfl,trivial⟩ ?_;rw [vP];dsimp only [List.map,In.env,aB,aA];refine aC (yU p hs) rfl ?_;dsimp only [aB,aA];refine vn dB rfl ?_;dsimp only [aB,aA];refine aL ?_;rw [ES,show decide (41<dH zr p)=decide ((40:Int)<(dH zr p:Int)-1) by rw [decide_eq_decide];omega];rfl
def nI (e:List (List Rat)):Bool:=decide (2≤e.length∧e.length≤5∧(∀ p∈e,dH zr p≤41)∧∀ p,e[e.length-1]? = some p→dH zr p≠0)
theorem jS (e:List (List Rat)) (hs:e.length<1099511627776) (hp:∀ p∈e,p.length<1099511627776):aM prog 19 [(.one (eQ e):aF)] (.ret [.one (.int .i64 (if nI e then 0 else 2))]):=by
 refine aD (args:=[.v none]) (ins:=[.v (.one (eQ e))]) (hints:=(fun _=>none)) fo (by kernel_rfl) func19 ⟨rfl,trivial⟩ ?_;rw [zA];dsimp only [List.map,In.env,aB,aA];refine vn (aP Ar (List.length_map _)) rfl ?_;dsimp only [aB,aA];refine vn bB rfl ?_;dsimp only [aB,aA];refine vs _ rfl (fun h2=>?_) (fun h2=>?_)
 ·rw [if_neg (by unfold nI;rw [decide_eq_true_iff];omega)];exact aL rfl
 refine vn (aP Ar (List.length_map _)) rfl ?_;dsimp only [aB,aA];refine vn dB rfl ?_;dsimp only [aB,aA];refine vs _ rfl (fun h6=>?_) (fun h6=>?_)
 ·rw [if_neg (by unfold nI;rw [decide_eq_true_iff];omega)];exact aL rfl
 refine aC (JF e 94 ES (fun p hp'=>uU p (hp p hp')) hs) rfl ?_;dsimp only [aB,aA];refine rA (e.any ES) rfl (fun h9=>?_) (fun h9=>?_)
 ·rw [if_neg (by
   unfold nI;rw [decide_eq_true_iff];rintro ⟨_,_,h,_⟩;obtain ⟨p,hp1,hp2⟩:=List.any_eq_true.1 h9;have:=h p hp1;simp [ES] at hp2;omega)];exact aL rfl
 refine vn (aP Ar (List.length_map _)) rfl ?_;dsimp only [aB,aA];refine vn (aG (by omega) (by omega)) rfl ?_;dsimp only [aB,aA];obtain ⟨p,hpl⟩:∃ p,e[e.length-1]? = some p:=⟨_,List.getElem?_eq_getElem (by omega)⟩
 refine vn (aW Ar (by omega) (by omega) hpl) rfl ?_;dsimp only [aB,aA];refine vn (bF JE) rfl ?_;dsimp only [aB,aA];refine aC (yU p (hp p (List.mem_of_getElem? hpl))) rfl ?_;dsimp only [aB,aA];refine vn bB rfl ?_;dsimp only [aB,aA];refine vs _ rfl (fun h17=>?_) (fun h17=>?_)
 ·rw [if_neg (by
   unfold nI;rw [decide_eq_true_iff];rintro ⟨_,_,_,h⟩;have:=h p hpl;omega)];exact aL rfl
 rw [if_pos (by
  unfold nI;rw [decide_eq_true_iff];refine ⟨by omega,by omega,fun p' hp'=>?_,fun p' hp'=>?_⟩
  ·have:=List.any_eq_false.1 h9 p' hp';simp [ES] at this;omega
  ·rw [hpl] at hp';simp only [Option.some.injEq] at hp';subst hp';omega)];exact aL rfl
structure TD (e:List (List Rat)):Prop where
 l:e.length≤64
 p:∀ p∈e,p.length≤64∧∀ q∈p,Fit 513 q
def jO (e:List (List Rat)) (c:Rat):Bool:=decide (∀ p,e[e.length-1]? = some p→eN p c≠0)
theorem vJ (e:List (List Rat)) (c:Rat) (he:TD e) (h0:0<e.length) (hc:Fit 513 c):aM prog 97 [(.one (eQ e):aF),(qT c:aF)] (.ret [.one (.bool (jO e c))]):=by
 refine aD (args:=[.v none, .v (some 3)]) (ins:=[.v (.one (eQ e)), .v (qT c)]) (hints:=(fun _=>none)) fo (by kernel_rfl) func97 ⟨rfl,rfl,trivial⟩ ?_;rw [Kj];dsimp only [List.map,In.env,aB,aA];have hl:=he.l;refine vn (aP Ar (List.length_map _)) rfl ?_;dsimp only [aB,aA];refine vn (aG (by omega) (by omega)) rfl ?_;dsimp only [aB,aA];obtain ⟨p,hpl⟩:∃ p,e[e.length-1]? = some p:=⟨_,List.getElem?_eq_getElem (by omega)⟩
 obtain ⟨hp1,hp2⟩:=he.p p (List.mem_of_getElem? hpl);refine vn (aW Ar (by omega) (by omega) hpl) rfl ?_;dsimp only [aB,aA];refine vn (bF JE) rfl ?_;dsimp only [aB,aA];refine aC (XW p c 513 (by omega) hp2 hc (by omega)) rfl ?_;dsimp only [aB,aA];refine aC (oD _) rfl ?_;dsimp only [aB,aA];refine vn gO rfl ?_;dsimp only [aB,aA];refine aL ?_
 have:jO e c=decide ((eN p c).num.sign≠0):=by
  unfold jO;rw [decide_eq_decide]
  constructor
  ·intro h hh;exact h p hpl (sign_zero.1 hh)
  ·intro h p' hp' hh;rw [hpl] at hp';simp only [Option.some.injEq] at hp';subst hp';exact h (sign_zero.2 hh)
 rw [this];rfl
def okF (e:List (List Rat)) (c:Rat) (y:List Rat):Bool:=nI e&&decide (y.length=e.length-1)&&jO e c
theorem RY (e:List (List Rat)) (c:Rat) (y:List Rat) (he:TD e) (hc:Fit 513 c) (hy:y.length<1099511627776):aM prog 21 [(.agg [eQ e,dT c.num.natAbs, .bool (decide (c.num<0)),dT (c.den-1),sQ y]:aF)] (.ret [.one (.int .i64 (if okF e c y then 0 else 2))]):=by
 refine aD (args:=[.v (some 5)]) (ins:=[.v (.agg [eQ e,dT c.num.natAbs, .bool (decide (c.num<0)),dT (c.den-1),sQ y])]) (hints:=(fun _=>none)) fo (by kernel_rfl) func21 ⟨rfl,trivial⟩ ?_;rw [Ug];dsimp only [List.map,In.env,aB,aA];have hl:=he.l;have hp:=he.p;refine aC (jS e (by omega) (fun p hp'=>by have:=(hp p hp').1;omega)) rfl ?_;dsimp only [aB,aA];refine vn gO rfl ?_;dsimp only [aB,aA];have h2':decide ((if nI e=true then (0:Int) else 2)≠0) = !nI e:=by cases nI e<;>rfl
 rw [h2'];refine rA (!nI e) rfl (fun h2=>?_) (fun h2=>?_)
 ·rw [if_neg (by simp at h2;simp [okF,h2])];exact aL rfl
 have h2:nI e=true:=by simpa using h2
 have hlen:2≤e.length:=by unfold nI at h2;rw [decide_eq_true_iff] at h2;exact h2.1
 refine vn (aP CJ (List.length_map _)) rfl ?_;dsimp only [aB,aA];refine vn (aP Ar (List.length_map _)) rfl ?_;dsimp only [aB,aA];refine vn (aG (by omega) (by omega)) rfl ?_;dsimp only [aB,aA];refine vn gO rfl ?_;dsimp only [aB,aA];refine vs _ rfl (fun h8=>?_) (fun h8=>?_)
 ·rw [if_neg (by simp [okF];intro _ _;omega)];exact aL rfl
 refine aC (vJ e c he (by omega) hc) rfl ?_;dsimp only [aB,aA];refine vn gX rfl ?_;dsimp only [aB,aA];refine rA (!jO e c) rfl (fun h12=>?_) (fun h12=>?_)
 ·rw [if_neg (by simp at h12;simp [okF,h12])];exact aL rfl
 rw [if_pos (by simp at h12;simp [okF,h12,h2];omega)];exact aL rfl
open Go Go.Proofs Tryz Ord
theorem Lf (ps:List Rat) (a c:Rat):eN (ps ++ [a]) c=eN ps c+a*c^ps.length:=by
 unfold eN;rw [List.foldr_append]
 have key:∀ (ps:List Rat) (s:Rat),List.foldr (fun a v=>v*c+a) s ps=List.foldr (fun a v=>v*c+a) 0 ps+s*c^ps.length:=by
  intro ps
  induction ps with
  | nil=>intro s;simp only [List.foldr_nil,List.length_nil,Rat.pow_zero];grind
  | cons x ps ih=>intro s;simp only [List.foldr_cons,List.length_cons,Rat.pow_succ];rw [ih s];grind
 rw [key]
 congr 1
 simp only [List.foldr_cons,List.foldr_nil]
 grind
theorem EI {B:Nat} (hB:1≤B) {c:Rat} (hc:Fit B c):∀ ps:List Rat,(∀ q∈ps,Fit B q)→Fit (ps.length*(2*B+1)+1) (eN ps c)
 | [],_=>Fit.zero (by omega)
 | a::ps,h=>by
   have ih:=EI hB hc ps (fun q hq=>h q (List.mem_cons_of_mem _ hq));have:=(ih.mul hc).add (h a List.mem_cons_self);refine this.mono ?_;rw [List.length_cons,Nat.add_mul];omega
theorem Uu (ps:List RQ) (c:RQ) (B:Nat) (hB:1≤B) (hp:∀ q∈ps,Fit B q.q) (hc:Fit B c.q) (hl:ps.length*(2*B+2)≤1073741824) (hs:ps.length≤1073741824) (hB2:B≤1048576):aM prog 124 [(.one (sR ps):aF),(dE c:aF)] (.ret [dE (.of (eN (ps.map RQ.q) c.q))]):=by
 refine aD (args:=[.v none, .v (some 4)]) (ins:=[.v (.one (sR ps)), .v (dE c)]) (hints:=(fun _=>none)) fo (by kernel_rfl) func124 ⟨rfl,rfl,trivial⟩ ?_;rw [Vp];dsimp only [List.map,In.env,aB,aA]
 have hmap:∀ q∈ps.map RQ.q,Fit B q:=fun q hq=>by
  obtain ⟨a,ha,rfl⟩:=List.mem_map.1 hq;exact hp a ha
 refine aC (iL 0 (by omega) (by omega)) rfl ?_;dsimp only [aB,aA];refine aC (iL 1 (by omega) (by omega)) rfl ?_;dsimp only [aB,aA]
 refine bC {i:Nat // i≤ps.length} (fun g=>[.one (.int .i64 g.1), .one (.int .i64 (eN ((ps.map RQ.q).take g.1) c.q).num.sign), .one (bT (eN ((ps.map RQ.q).take g.1) c.q).num.natAbs), .one (.int .i64 1), .one (bT (eN ((ps.map RQ.q).take g.1) c.q).den), .one (.int .i64 (c.q^g.1).num.sign), .one (bT (c.q^g.1).num.natAbs), .one (.int .i64 1), .one (bT (c.q^g.1).den)]) (fun g=>ps.length-g.1) ⟨0,Nat.zero_le _⟩ (by
  simp only [List.take_zero,Rat.pow_zero];exact aO.rfl) (fun _=>rfl) ?_
 rintro ⟨i,hi⟩;dsimp only [aB,aA] at hi ⊢;refine vn (aP dX (List.length_map _)) rfl ?_;dsimp only [aB,aA];refine vn bB rfl ?_;dsimp only [aB,aA];refine vs _ rfl (fun h5=>?_) (fun h5=>?_)
 ·obtain ⟨a,ha⟩:∃ a,ps[i]? = some a:=⟨_,List.getElem?_eq_getElem (by omega)⟩
  have hma:(ps.map RQ.q)[i]? = some a.q:=by rw [List.getElem?_map,ha];rfl
  have hfa:=hp a (List.mem_of_getElem? ha);have hfi:=hc.pow hB i;have hlen:((ps.map RQ.q).take i).length=i:=by simp;omega
  have hfe:=EI hB hc ((ps.map RQ.q).take i) (fun q hq=>hmap q (List.mem_of_mem_take hq));rw [hlen] at hfe;have hib:i*(2*B+2)≤1073741824:=Nat.le_trans (Nat.mul_le_mul_right _ hi) hl;have hib2:i*(2*B+2)=i*(2*B+1)+i:=by rw [show 2*B+2=(2*B+1)+1 by omega,Nat.mul_add i (2*B+1) 1,Nat.mul_one]
  have hib3:B*i≤i*(2*B+1):=by rw [Nat.mul_comm];exact Nat.mul_le_mul_left _ (by omega)
  have hsn:eN ((ps.map RQ.q).take (i+1)) c.q=eN ((ps.map RQ.q).take i) c.q+a.q*c.q^i:=by
   rw [List.take_add_one,hma];show eN (_ ++ [a.q]) c.q=_;rw [Lf,hlen]
  refine vn (aW dX (by omega) (by omega) ha) rfl ?_;dsimp only [aB,aA];refine vn (bO qG (by decide) (by simp) (.inl rfl)) rfl ?_;dsimp only [aB,aA];have hm:=eW a (.of (c.q^i)) _ _ hfa hfi (by omega);refine aC hm rfl ?_;dsimp only [aB,aA];have hs1:=jU (.of (eN ((ps.map RQ.q).take i) c.q)) (.of (a.q*(RQ.of (c.q^i)).q)) _ _ hfe (hfa.mul hfi) (by omega);rw [RQ.rM,RQ.rM,RQ.rM,←hsn] at hs1;refine aC hs1 rfl ?_;dsimp only [aB,aA];have hm2:=eW (.of (c.q^i)) c _ _ hfi hc (by omega);rw [RQ.rM,←Rat.pow_succ] at hm2;refine aC hm2 rfl ?_;dsimp only [aB,aA];refine vn (aE (by omega) (by omega)) rfl ?_;dsimp only [aB,aA];exact aR rfl ⟨⟨i+1,by omega⟩,aO.rfl,by show ps.length-(i+1)<ps.length-i;omega⟩
 rw [show i=ps.length by omega];have e:(ps.map RQ.q).take ps.length=ps.map RQ.q:=List.take_of_length_le (by simp);rw [e];exact aL rfl
def fG (e:List (List RQ)):List (List Rat):=e.map fun p=>p.map RQ.q
theorem tL {e:List (List RQ)} {i:Nat} {p:List RQ} (h:e[i]? = some p):(fG e)[i]? = some (p.map RQ.q):=by rw [fG,List.getElem?_map,h];rfl
theorem iD (e:List (List RQ)):(fG e).length=e.length:=List.length_map _
theorem HW (p:List RQ):dH HR p=dH zr (p.map RQ.q):=(CD (z:=zr) RQ.q p).symm
theorem Rv (e:List (List RQ)) (hs:e.length<1099511627776) (hp:∀ p∈e,p.length<1099511627776):aM prog 20 [(.one (eR e):aF)] (.ret [.one (.bool (nI (fG e)))]):=by
 refine aD (args:=[.v none]) (ins:=[.v (.one (eR e))]) (hints:=(fun _=>none)) fo (by kernel_rfl) func20 ⟨rfl,trivial⟩ ?_;rw [Rl];dsimp only [List.map,In.env,aB,aA];have hlen:=iD e;refine vn (aP jN (List.length_map _)) rfl ?_;dsimp only [aB,aA];refine vn bB rfl ?_;dsimp only [aB,aA];refine vs _ rfl (fun h2=>?_) (fun h2=>?_)
 ·rw [show nI (fG e)=false by unfold nI;rw [decide_eq_false_iff_not];omega];exact aL rfl
 refine vn (aP jN (List.length_map _)) rfl ?_;dsimp only [aB,aA];refine vn dB rfl ?_;dsimp only [aB,aA];refine vs _ rfl (fun h6=>?_) (fun h6=>?_)
 ·rw [show nI (fG e)=false by unfold nI;rw [decide_eq_false_iff_not];omega];exact aL rfl
 refine bC {i:Nat // i≤e.length∧∀ j p,j<i→e[j]? = some p→dH HR p≤41} (fun g=>[.one (.bool false), .one (.int .i64 g.1)]) (fun g=>e.length-g.1) ⟨0,Nat.zero_le _,fun j p h=>by omega⟩ aO.rfl (fun _=>rfl) ?_;rintro ⟨i,hi,hb⟩;dsimp only [aB,aA] at hi hb ⊢;refine vn (aP jN (List.length_map _)) rfl ?_;dsimp only [aB,aA];refine vn bB rfl ?_;dsimp only [aB,aA];refine vs _ rfl (fun h11=>?_) (fun h11=>?_)
 ·obtain ⟨p,hpi⟩:∃ p,e[i]? = some p:=⟨_,List.getElem?_eq_getElem (by omega)⟩
  refine vn (aW jN (by omega) (by omega) hpi) rfl ?_;dsimp only [aB,aA];refine vn (bF mI) rfl ?_;dsimp only [aB,aA];refine aC (uA p (hp p (List.mem_of_getElem? hpi))) rfl ?_;dsimp only [aB,aA];refine vn dB rfl ?_;dsimp only [aB,aA];refine vs _ rfl (fun h16=>?_) (fun h16=>?_)
  ·rw [show nI (fG e)=false by
    unfold nI;rw [decide_eq_false_iff_not];rintro ⟨_,_,h,_⟩;have:=h _ (List.mem_of_getElem? (tL hpi));rw [←HW] at this;omega];exact aL rfl
  refine vn (aE (by omega) (by omega)) rfl ?_;dsimp only [aB,aA]
  exact aR rfl ⟨⟨i+1,by omega,fun j p' hj hp'=>by
   rcases Nat.lt_or_ge j i with h | h
   ·exact hb j p' h hp'
   ·rw [show j=i by omega,hpi] at hp';simp only [Option.some.injEq] at hp';subst hp';omega⟩,aO.rfl,by show e.length-(i+1)<e.length-i;omega⟩
 refine vn (aP jN (List.length_map _)) rfl ?_;dsimp only [aB,aA];refine vn (aG (by omega) (by omega)) rfl ?_;dsimp only [aB,aA];obtain ⟨p,hpl⟩:∃ p,e[e.length-1]? = some p:=⟨_,List.getElem?_eq_getElem (by omega)⟩
 refine vn (aW jN (by omega) (by omega) hpl) rfl ?_;dsimp only [aB,aA];refine vn (bF mI) rfl ?_;dsimp only [aB,aA];refine aC (uA p (hp p (List.mem_of_getElem? hpl))) rfl ?_;dsimp only [aB,aA];refine vn eH rfl ?_;dsimp only [aB,aA]
 rw [show nI (fG e)=decide ((0:Int)≤(dH HR p:Int)-1) by
  unfold nI;rw [decide_eq_decide]
  constructor
  ·rintro ⟨_,_,_,h⟩;have:=h _ (by rw [hlen];exact tL hpl);rw [←HW] at this;omega
  ·intro h;refine ⟨by omega,by omega,fun p' hp'=>?_,fun p' hp'=>?_⟩
   ·obtain ⟨p0,hp0,rfl⟩:=List.mem_map.1 hp';obtain ⟨j,hj⟩:=List.getElem?_of_mem hp0;have hje:=(List.getElem?_eq_some_iff.1 hj).1;have:=hb j p0 (by omega) hj;rw [←HW];exact this
   ·rw [hlen,tL hpl] at hp';simp only [Option.some.injEq] at hp';subst hp';rw [←HW];omega];exact aL rfl
theorem JQ (e:List (List RQ)) (c:RQ) (he:TD (fG e)) (h0:0<e.length) (hc:Fit 513 c.q):aM prog 42 [(.one (eR e):aF),(dE c:aF)] (.ret [.one (.bool (jO (fG e) c.q))]):=by
 refine aD (args:=[.v none, .v (some 4)]) (ins:=[.v (.one (eR e)), .v (dE c)]) (hints:=(fun _=>none)) fo (by kernel_rfl) func42 ⟨rfl,rfl,trivial⟩ ?_;rw [Lc];dsimp only [List.map,In.env,aB,aA];have hl:=he.l;have hlen:=iD e;refine vn (aP jN (List.length_map _)) rfl ?_;dsimp only [aB,aA];refine vn (aG (by omega) (by omega)) rfl ?_;dsimp only [aB,aA];obtain ⟨p,hpl⟩:∃ p,e[e.length-1]? = some p:=⟨_,List.getElem?_eq_getElem (by omega)⟩
 obtain ⟨hp1,hp2⟩:=he.p _ (List.mem_of_getElem? (tL hpl));rw [List.length_map] at hp1;refine vn (aW jN (by omega) (by omega) hpl) rfl ?_;dsimp only [aB,aA];refine vn (bF mI) rfl ?_;dsimp only [aB,aA];refine aC (Uu p c 513 (by omega) (fun q hq=>hp2 _ (List.mem_map.2 ⟨q,hq,rfl⟩)) hc (by omega) (by omega) (by omega)) rfl ?_;dsimp only [aB,aA];refine aC (MI _) rfl ?_;dsimp only [aB,aA];refine vn gO rfl ?_;dsimp only [aB,aA];refine aL ?_
 have:jO (fG e) c.q=decide ((eN (p.map RQ.q) c.q).num.sign≠0):=by
  unfold jO;rw [decide_eq_decide,hlen]
  constructor
  ·intro h hh;exact h _ (tL hpl) (sign_zero.1 hh)
  ·intro h p' hp' hh;rw [tL hpl] at hp';simp only [Option.some.injEq] at hp';subst hp';exact h (sign_zero.2 hh)
 rw [this];rfl
end Go.Sy
