/- Part. -/
import Derived.Test.YtdmcadckdnnglaaGreatDoorPb
set_option linter.all false
namespace Go.Sy
open Go Go.Proofs Tryz Ord
def bu2:Tr:=.split (.u 5 0) (eN 0 0 4 0 32 12 13 (dR 6 0 none 72 14 (.need (.callv (.u 1 0) [(W 7 0)] [none]) (.call ⟨.value (tT 11),#[(tT 15)],#[72]⟩) 4 true (.split (.u 8 0) (.ret [(W 4 0)]) (aW .add 3 8 1 4 0 3 (.back 0 [lV 3 0,lV 9 0])))))) (.ret [(WK (-1))])
def bn8:Tr:=cU 0 0 6 32 (.loop 0 [lK 0,lK 0] (bO .lss 3 8 7 4 0 2 0 0 bu2))
theorem VL:aL prog f180 (fun _=>none) [.v none, .v none]=bn8:=by kernel_rfl
def bw8:Tr:=aJ 180 [(W 0 0),(W 1 0)] [none] [5,6] [32,165] 3 true (aW .geq 3 7 0 2 0 4 (.ret [(W 3 0)]))
theorem JK:aL prog f93 (fun _=>none) [.v none, .v none]=bw8:=by kernel_rfl
def bz1:Tr:=aJ 95 [(W 0 0)] [none] [3] [72] 3 true (aW .gtr 3 4 40 1 0 4 (.ret [(W 2 0)]))
theorem xX:aL prog f94 (fun _=>none) [.v none]=bz1:=by kernel_rfl
def Dh:Tr:=.ret [(WK 2)]
def RD:Tr:=.ret [(WK 0)]
def bd3:Tr:=cU 0 0 17 32 (aW .sub 3 18 1 6 0 3 (eN 0 0 7 0 32 16 19 (dR 8 0 none 72 20 (aJ 95 [(W 9 0)] [none] [21] [72] 3 false (aW .lss 3 22 0 10 0 4 (.split (.u 11 0) Dh RD))))))
def bB0:Tr:=aW .lss 3 4 2 1 0 4 (.split (.u 2 0) Dh (cU 0 0 7 32 (aW .gtr 3 8 5 3 0 4 (.split (.u 4 0) Dh (.need (.call 93 [(W 0 0),(.one (.iZ 94 []))] [none]) (.call ⟨.value (.func 93),#[(tT 12),(.func 94)],#[32,165]⟩) 4 false (.split (.u 5 0) Dh bd3))))))
def bx6:Tr:=cU 0 0 3 32 bB0
theorem AA:aL prog f19 (fun _=>none) [.v none]=bx6:=by kernel_rfl
def ar8:Tr:=.ret [(W 8 0)]
def as1:Tr:=aW .neq 3 13 0 7 0 4 ar8
def by2:Tr:=cU 0 0 6 32 (aW .sub 3 7 1 2 0 3 (eN 0 0 3 0 32 5 8 (dR 4 0 none 72 9 (aJ 181 [(W 5 0),(G3 1)] [(some 3)] [10,11] [72,39] 39 false (aJ 35 [(G3 6)] [none] [12] [39] 3 true as1)))))
theorem MJ:aL prog f97 (fun _=>none) [.v none, .v (some 3)]=by2:=by kernel_rfl
def bA7:Tr:=cU 0 0 12 32 (aW .sub 3 13 1 4 0 3 (bO .neq 3 10 14 3 0 5 0 4 (.split (.u 6 0) Dh (aJ 97 [(W 0 0),(.agg [(U 0 1),(U 0 2),(U 0 3)])] [none] [19,21] [32,39] 4 false (.need (.prim [(W 7 0)] none) (.unOp .not 4 (tT 22)) 4 false (.split (.u 8 0) Dh RD))))))
def bj1:Tr:=aJ 19 [(W 0 0)] [none] [4] [32] 55 false (aW .neq 55 5 0 1 0 4 (.split (.u 2 0) Dh (cU 0 4 9 40 bA7)))
theorem Sf:aL prog f21 (fun _=>none) [.v (some 5)]=bj1:=by kernel_rfl
def bw1:Tr:=eN 0 0 4 0 167 17 18 (dR 15 0 (some 4) 49 19 (aJ 104 [(G4 16),(.agg [(U 9 0),(U 10 0),(U 11 0),(U 12 0)])] [(some 4)] [20,21] [49,49] 49 true (aJ 48 [(.agg [(U 5 0),(U 6 0),(U 7 0),(U 8 0)]),(G4 17)] [(some 4)] [16,22] [49,49] 49 true (aJ 104 [(.agg [(U 9 0),(U 10 0),(U 11 0),(U 12 0)]),(G4 1)] [(some 4)] [24,25] [49,49] 49 true (aW .add 3 14 1 4 0 3 (.back 0 [lV 20 0,lV 18 0,lV 18 1,lV 18 2,lV 18 3,lV 19 0,lV 19 1,lV 19 2,lV 19 3]))))))
def bl6:Tr:=.need (.call 50 [(WK 0)] [(some 4)]) (.call ⟨.value (.func 50),#[(.const (I3 0))],#[2]⟩) 49 true (.need (.call 50 [(WK 1)] [(some 4)]) (.call ⟨.value (.func 50),#[(.const (I3 1))],#[2]⟩) 49 true (.loop 0 [lK 0,lV 2 0,lV 2 1,lV 2 2,lV 2 3,lV 3 0,lV 3 1,lV 3 2,lV 3 3] (cU 0 0 11 167 (bO .lss 3 10 12 4 0 13 0 4 (.split (.u 14 0) bw1 (.ret [(.agg [(U 5 0),(U 6 0),(U 7 0),(U 8 0)])]))))))
theorem Zs:aL prog f124 (fun _=>none) [.v none, .v (some 4)]=bl6:=by kernel_rfl
def BH:Tr:=.ret [(tF false)]
def aO9:Tr:=eN 0 0 6 0 44 18 19 (dR 9 0 none 167 20 (aJ 96 [(W 10 0)] [none] [21] [167] 3 true (aW .gtr 3 22 40 11 0 4 (.split (.u 12 0) BH (aW .add 3 16 1 6 0 3 (.back 0 [lV 5 0,lV 13 0]))))))
def aR9:Tr:=cU 0 0 25 44 (aW .sub 3 26 1 9 0 3 (eN 0 0 10 0 44 24 27 (dR 11 0 none 167 28 (aJ 96 [(W 12 0)] [none] [29] [167] 3 true (aW .geq 3 30 0 13 0 4 (.ret [(W 14 0)]))))))
def bl2:Tr:=cU 0 0 8 44 (aW .gtr 3 9 5 3 0 4 (.split (.u 4 0) BH (.loop 0 [(.w (.one (.c (.k (.bool false))))),lK 0] (cU 0 0 13 44 (bO .lss 3 12 14 6 0 7 0 4 (.split (.u 8 0) aO9 aR9))))))
def bt5:Tr:=cU 0 0 4 44 (aW .lss 3 5 2 1 0 4 (.split (.u 2 0) BH bl2))
theorem UB:aL prog f20 (fun _=>none) [.v none]=bt5:=by kernel_rfl
def bw2:Tr:=cU 0 0 6 44 (aW .sub 3 7 1 2 0 3 (eN 0 0 3 0 44 5 8 (dR 4 0 none 167 9 (aJ 124 [(W 5 0),(G4 1)] [(some 4)] [10,11] [167,49] 49 false (aJ 46 [(G4 6)] [none] [12] [49] 3 true as1)))))
theorem Ni:aL prog f42 (fun _=>none) [.v none, .v (some 4)]=bw2:=by kernel_rfl
def bs7:Tr:=cU 0 5 8 50 (cU 0 0 11 44 (aW .sub 3 12 1 3 0 3 (bO .eql 3 9 13 2 0 4 0 4 (.split (.u 5 0) (aJ 42 [(W 0 0),(.agg [(U 0 1),(U 0 2),(U 0 3),(U 0 4)])] [none] [18,20] [44,49] 4 true (.ret [(W 6 0)])) BH))))
def bl5:Tr:=aJ 20 [(W 0 0)] [none] [4] [44] 4 false (.split (.u 1 0) bs7 BH)
theorem VU:aL prog f22 (fun _=>none) [.v (some 6)]=bl5:=by kernel_rfl
abbrev cQ (p:List Rat):List aG:=[sQ p]
abbrev cR (p:List RQ):List aG:=[sR p]
abbrev eQ (e:List (List Rat)):aG:=.slice 1 (e.map cQ)
abbrev eR (e:List (List RQ)):aG:=.slice 1 (e.map cR)
def KS {α:Type} (c:α→Bool):List α→Nat→Int
 | [],_=>-1
 | x::xs,i=>if c x then (i:Int) else KS c xs (i+1)
theorem IM {α:Type} (c:α→Bool):∀ (l:List α) (i:Nat),decide (0≤KS c l i)=l.any c
 | [],i=>rfl
 | x::xs,i=>by
   simp only [KS,List.any_cons];split
   ·rename_i h;rw [h];simp
   ·rename_i h;rw [IM c xs (i+1)];simp [h]
theorem Ue (e:List (List Rat)) (g:Nat) (c:List Rat→Bool) (hc:∀ p∈e,aM prog g [.one (sQ p)] (.ret [.one (.bool (c p))])) (hs:e.length<1099511627776):aM prog 180 [(.one (eQ e):aE),(.one (.iZ g []):aE)] (.ret [.one (.int .i64 (KS c e 0))]):=by
 refine bZ func180 VL ?_;apply vn (aU Cb (aP _)) rfl;refine bB {i:Nat // i≤e.length∧KS c e 0=KS c (e.drop i) i} (fun g=>[.one (.int .i64 0), .one (.int .i64 g.1)]) (fun g=>e.length-g.1) ⟨0,bV _,rfl⟩ aN.rfl (fun _=>rfl) ?_;rintro ⟨i,hi,hf⟩;dsimp only [aD,aC] at hi hf ⊢;apply vn aZ rfl;refine vs _ rfl ?_ ?_<;>intro h3
 ·obtain ⟨p,hp⟩:∃ p,e[i]? = some p:=⟨_,bI (by omega)⟩
  have hdrop:e.drop i=p::e.drop (i+1):=by
   rw [List.drop_eq_getElem_cons (by omega),(eF.1 hp).2]
  rw [hdrop,KS] at hf;apply vn (aV Cb hp) rfl;apply vn (bG Kj) rfl;dsimp only [aD,aC];apply tX (f:=g) (caps:=[]) rfl (hc p (cI hp)) rfl;refine mH (c p) rfl (fun h7=>?_) (fun h7=>?_)
  ·rw [hf,if_pos h7];exact aK rfl
  apply vn (aB) rfl;dsimp only [aD,aC];exact aR rfl ⟨⟨i+1,by omega,by rw [hf,if_neg (by simp [h7])]⟩,aN.rfl,by show e.length-(i+1)<e.length-i;omega⟩
 rw [hf,List.drop_eq_nil_of_le (by omega),KS];exact aK rfl
theorem JP (e:List (List Rat)) (g:Nat) (c:List Rat→Bool) (hc:∀ p∈e,aM prog g [.one (sQ p)] (.ret [.one (.bool (c p))])) (hs:e.length<1099511627776):aM prog 93 [(.one (eQ e):aE),(.one (.iZ g []):aE)] (.ret [.one (.bool (e.any c))]):=by
 refine bZ func93 JK ?_;apply aA (Ue e g c hc hs) rfl;apply vn fJ rfl;dsimp only [aD,aC];rw [←IM c e 0];exact aK rfl
def GC (p:List Rat):Bool:=decide (41<dY zr p)
theorem xJ (p:List Rat) (hs:p.length<1099511627776):aM prog 94 [(.one (sQ p):aE)] (.ret [.one (.bool (GC p))]):=by
 refine bZ func94 xX ?_;apply aA (Ay p hs) rfl;apply vn dH rfl;dsimp only [aD,aC];refine aK ?_;rw [GC,show decide (41<dY zr p)=decide ((40:Int)<(dY zr p:Int)-1) by rw [decide_eq_decide];omega];rfl
def tV (e:List (List Rat)):Bool:=decide (2≤e.length∧e.length≤5∧(∀ p∈e,dY zr p≤41)∧∀ p,e[e.length-1]? = some p→dY zr p≠0)
theorem rY (e:List (List Rat)) (hs:e.length<1099511627776) (hp:∀ p∈e,p.length<1099511627776):aM prog 19 [(.one (eQ e):aE)] (.ret [.one (.int .i64 (if tV e then 0 else 2))]):=by
 refine bZ func19 AA ?_;apply vn (aU Cb (aP _)) rfl;apply vn aZ rfl;refine vs _ rfl ?_ ?_<;>intro h2
 ·rw [if_neg (by unfold tV;rw [decide_eq_true_iff];omega)];exact aK rfl
 apply vn (aU Cb (aP _)) rfl;dsimp only [aD,aC];apply vn dH rfl;refine vs _ rfl ?_ ?_<;>intro h6
 ·rw [if_neg (by unfold tV;rw [decide_eq_true_iff];omega)];exact aK rfl
 apply aA (JP e 94 GC (fun p hp'=>xJ p (hp p hp')) hs) rfl;refine mH (e.any GC) rfl (fun h9=>?_) (fun h9=>?_)
 ·rw [if_neg (by
   unfold tV;rw [decide_eq_true_iff];rintro ⟨_,_,h,_⟩;obtain ⟨p,hp1,hp2⟩:=List.any_eq_true.1 h9;have:=h p hp1;simp [GC] at hp2;omega)];exact aK rfl
 apply vn (aU Cb (aP _)) rfl;dsimp only [aD,aC];apply vn (aH) rfl;dsimp only [aD,aC];obtain ⟨p,hpl⟩:∃ p,e[e.length-1]? = some p:=⟨_,bI (by omega)⟩
 apply vn (aV Cb hpl) rfl;apply vn (bG Kj) rfl;apply aA (Ay p (hp p (cI hpl))) rfl;dsimp only [aD,aC];apply vn aZ rfl;refine vs _ rfl ?_ ?_<;>intro h17
 ·rw [if_neg (by
   unfold tV;rw [decide_eq_true_iff];rintro ⟨_,_,_,h⟩;have:=h p hpl;omega)];exact aK rfl
 rw [if_pos (by
  unfold tV;rw [decide_eq_true_iff];refine ⟨by omega,by omega,fun p' hp'=>?_,fun p' hp'=>?_⟩
  ·have:=List.any_eq_false.1 h9 p' hp';simp [GC] at this;omega
  ·rw [hpl] at hp';simp only [aO] at hp';subst hp';omega)];exact aK rfl
structure Rx (e:List (List Rat)):Prop where
 l:e.length≤64
 p:∀ p∈e,p.length≤64∧∀ q∈p,Fit 513 q
def rG (e:List (List Rat)) (c:Rat):Bool:=decide (∀ p,e[e.length-1]? = some p→fY p c≠0)
theorem DW (e:List (List Rat)) (c:Rat) (he:Rx e) (h0:0<e.length) (hc:Fit 513 c):aM prog 97 [(.one (eQ e):aE),(qT c:aE)] (.ret [.one (.bool (rG e c))]):=by
 refine bZ func97 MJ ?_;have hl:=he.l;apply vn (aU Cb (aP _)) rfl;apply vn (aH) rfl;dsimp only [aD,aC];obtain ⟨p,hpl⟩:∃ p,e[e.length-1]? = some p:=⟨_,bI (by omega)⟩
 obtain ⟨hp1,hp2⟩:=he.p p (cI hpl);apply vn (aV Cb hpl) rfl;apply vn (bG Kj) rfl;apply aA (ZY p c 513 hp2 hc) rfl;dsimp only [aD,aC];apply aA (lQ _) rfl;apply vn gD rfl;dsimp only [aD,aC];refine aK ?_
 have:rG e c=decide ((fY p c).num.sign≠0):=by
  unfold rG;rw [decide_eq_decide]
  constructor
  ·intro h hh;exact h p hpl (sign_zero.1 hh)
  ·intro h p' hp' hh;rw [hpl] at hp';simp only [aO] at hp';subst hp';exact h (sign_zero.2 hh)
 rw [this];rfl
def okF (e:List (List Rat)) (c:Rat) (y:List Rat):Bool:=tV e&&decide (y.length=e.length-1)&&rG e c
theorem CS (e:List (List Rat)) (c:Rat) (y:List Rat) (he:Rx e) (hc:Fit 513 c) (hy:y.length<1099511627776):aM prog 21 [(.agg [eQ e,dT c.num.natAbs, .bool (decide (c.num<0)),dT (c.den-1),sQ y]:aE)] (.ret [.one (.int .i64 (if okF e c y then 0 else 2))]):=by
 refine bZ func21 Sf ?_;have hl:=he.l;have hp:=he.p;apply aA (rY e (by omega) (fun p hp'=>by have:=(hp p hp').1;omega)) rfl;apply vn gD rfl;dsimp only [aD,aC];have h2':decide ((if tV e=true then (0:Int) else 2)≠0) = !tV e:=by cases tV e<;>rfl
 rw [h2'];refine mH (!tV e) rfl (fun h2=>?_) (fun h2=>?_)
 ·rw [if_neg (by simp at h2;simp [okF,h2])];exact aK rfl
 have h2:tV e=true:=by simpa using h2
 have hlen:2≤e.length:=by unfold tV at h2;rw [decide_eq_true_iff] at h2;exact h2.1
 apply vn (aU wV (aP _)) rfl;apply vn (aU Cb (aP _)) rfl;apply vn (aH) rfl;dsimp only [aD,aC];apply vn gD rfl;refine vs _ rfl ?_ ?_<;>intro h8
 ·rw [if_neg (by simp [okF];intro _ _;omega)];exact aK rfl
 apply aA (DW e c he (by omega) hc) rfl;apply vn kW rfl;dsimp only [aD,aC];refine mH (!rG e c) rfl (fun h12=>?_) (fun h12=>?_)
 ·rw [if_neg (by simp at h12;simp [okF,h12])];exact aK rfl
 rw [if_pos (by simp at h12;simp [okF,h12,h2];omega)];exact aK rfl
open Go Go.Proofs Tryz Ord
theorem LC (ps:List Rat) (a c:Rat):fY (ps ++ [a]) c=fY ps c+a*c^ps.length:=by
 unfold fY;rw [List.foldr_append]
 have key:∀ (ps:List Rat) (s:Rat),List.foldr (fun a v=>v*c+a) s ps=List.foldr (fun a v=>v*c+a) 0 ps+s*c^ps.length:=by
  intro ps
  induction ps with
  | nil=>intro s;simp only [List.foldr_nil,List.length_nil,Rat.pow_zero];grind
  | cons x ps ih=>intro s;simp only [List.foldr_cons,List.length_cons,Rat.pow_succ];rw [ih s];grind
 rw [key]
 congr 1
 simp only [List.foldr_cons,List.foldr_nil]
 grind
theorem Gq {B:Nat} (hB:1≤B) {c:Rat} (hc:Fit B c):∀ ps:List Rat,(∀ q∈ps,Fit B q)→Fit (ps.length*(2*B+1)+1) (fY ps c)
 | [],_=>Fit.zero (by omega)
 | a::ps,h=>by
   have ih:=Gq hB hc ps (fun q hq=>h q (List.mem_cons_of_mem _ hq));have:=(ih.mul hc).add (h a List.mem_cons_self);refine this.mono ?_;rw [List.length_cons,Nat.add_mul];omega
theorem Yg (ps:List RQ) (c:RQ) (B:Nat) (hp:∀ q∈ps,Fit B q.q) (hc:Fit B c.q) (hB:1≤B:=by omega) (hl:ps.length*(2*B+2)≤1073741824:=by omega) (hs:ps.length≤1073741824:=by omega) (hB2:B≤1048576:=by omega):aM prog 124 [(.one (sR ps):aE),(fO c:aE)] (.ret [fO (.of (fY (ps.map RQ.q) c.q))]):=by
 refine bZ func124 Zs ?_
 have hmap:∀ q∈ps.map RQ.q,Fit B q:=fun q hq=>by
  obtain ⟨a,ha,rfl⟩:=gJ.1 hq;exact hp a ha
 apply aA (gN 0) rfl;apply aA (gN 1) rfl
 refine bB {i:Nat // i≤ps.length} (fun g=>[.one (.int .i64 g.1), .one (.int .i64 (fY ((ps.map RQ.q).take g.1) c.q).num.sign), .one (bT (fY ((ps.map RQ.q).take g.1) c.q).num.natAbs), .one (.int .i64 1), .one (bT (fY ((ps.map RQ.q).take g.1) c.q).den), .one (.int .i64 (c.q^g.1).num.sign), .one (bT (c.q^g.1).num.natAbs), .one (.int .i64 1), .one (bT (c.q^g.1).den)]) (fun g=>ps.length-g.1) ⟨0,bV _⟩ (by
  simp only [List.take_zero,Rat.pow_zero];exact aN.rfl) (fun _=>rfl) ?_
 rintro ⟨i,hi⟩;dsimp only [aD,aC] at hi ⊢;apply vn (aU fA (aP _)) rfl;apply vn aZ rfl;refine vs _ rfl ?_ ?_<;>intro h5
 ·obtain ⟨a,ha⟩:∃ a,ps[i]? = some a:=⟨_,bI (by omega)⟩
  have hma:(ps.map RQ.q)[i]? = some a.q:=by rw [cL,ha];rfl
  have hfa:=hp a (cI ha);have hfi:=hc.pow hB i;have hlen:((ps.map RQ.q).take i).length=i:=by simp;omega
  have hfe:=Gq hB hc ((ps.map RQ.q).take i) (fun q hq=>hmap q (List.mem_of_mem_take hq));rw [hlen] at hfe;have hib:i*(2*B+2)≤1073741824:=Nat.le_trans (Nat.mul_le_mul_right _ hi) hl;have hib2:i*(2*B+2)=i*(2*B+1)+i:=by rw [show 2*B+2=(2*B+1)+1 by omega,Nat.mul_add i (2*B+1) 1,Nat.mul_one]
  have hib3:B*i≤i*(2*B+1):=by rw [Nat.mul_comm];exact Nat.mul_le_mul_left _ (by omega)
  have hsn:fY ((ps.map RQ.q).take (i+1)) c.q=fY ((ps.map RQ.q).take i) c.q+a.q*c.q^i:=by
   rw [List.take_add_one,hma];show fY (_ ++ [a.q]) c.q=_;rw [LC,hlen]
  apply vn (aV fA ha) rfl;dsimp only [aD,aC];apply vn (bJ mR (by decide) (by simp) (.inl rfl)) rfl;dsimp only [aD,aC];have hm:=eS a (.of (c.q^i)) _ _ hfa hfi;apply aA hm rfl;dsimp only [aD,aC];have hs1:=jK (.of (fY ((ps.map RQ.q).take i) c.q)) (.of (a.q*(RQ.of (c.q^i)).q)) _ _ hfe (hfa.mul hfi);rw [RQ.mS,RQ.mS,RQ.mS,←hsn] at hs1;apply aA hs1 rfl;dsimp only [aD,aC];have hm2:=eS (.of (c.q^i)) c _ _ hfi hc;rw [RQ.mS,←Rat.pow_succ] at hm2;apply aA hm2 rfl;apply vn (aB) rfl;dsimp only [aD,aC];exact aR rfl ⟨⟨i+1,by omega⟩,aN.rfl,by show ps.length-(i+1)<ps.length-i;omega⟩
 rw [show i=ps.length by omega];have e:(ps.map RQ.q).take ps.length=ps.map RQ.q:=List.take_of_length_le (by simp);rw [e];exact aK rfl
def fP (e:List (List RQ)):List (List Rat):=e.map fun p=>p.map RQ.q
theorem vV {e:List (List RQ)} {i:Nat} {p:List RQ} (h:e[i]? = some p):(fP e)[i]? = some (p.map RQ.q):=by rw [fP,cL,h];rfl
theorem jI (e:List (List RQ)):(fP e).length=e.length:=aP _
theorem JH (p:List RQ):dY JM p=dY zr (p.map RQ.q):=(EG (z:=zr) RQ.q p).symm
theorem Wm (e:List (List RQ)) (hp:∀ p∈e,p.length<1099511627776) (hs:e.length<1099511627776:=by omega):aM prog 20 [(.one (eR e):aE)] (.ret [.one (.bool (tV (fP e)))]):=by
 refine bZ func20 UB ?_;have hlen:=jI e;apply vn (aU kC (aP _)) rfl;apply vn aZ rfl;refine vs _ rfl ?_ ?_<;>intro h2
 ·rw [show tV (fP e)=false by unfold tV;rw [decide_eq_false_iff_not];omega];exact aK rfl
 apply vn (aU kC (aP _)) rfl;dsimp only [aD,aC];apply vn dH rfl;refine vs _ rfl ?_ ?_<;>intro h6
 ·rw [show tV (fP e)=false by unfold tV;rw [decide_eq_false_iff_not];omega];exact aK rfl
 refine bB {i:Nat // i≤e.length∧∀ j p,j<i→e[j]? = some p→dY JM p≤41} (fun g=>[.one (.bool false), .one (.int .i64 g.1)]) (fun g=>e.length-g.1) ⟨0,bV _,fun j p h=>by omega⟩ aN.rfl (fun _=>rfl) ?_;rintro ⟨i,hi,hb⟩;dsimp only [aD,aC] at hi hb ⊢;apply vn (aU kC (aP _)) rfl;apply vn aZ rfl;refine vs _ rfl ?_ ?_<;>intro h11
 ·obtain ⟨p,hpi⟩:∃ p,e[i]? = some p:=⟨_,bI (by omega)⟩
  apply vn (aV kC hpi) rfl;dsimp only [aD,aC];apply vn (bG oA) rfl;apply aA (vM p (hp p (cI hpi))) rfl;apply vn dH rfl;dsimp only [aD,aC];refine vs _ rfl ?_ ?_<;>intro h16
  ·rw [show tV (fP e)=false by
    unfold tV;rw [decide_eq_false_iff_not];rintro ⟨_,_,h,_⟩;have:=h _ (cI (vV hpi));rw [←JH] at this;omega];exact aK rfl
  apply vn (aB) rfl
  exact aR rfl ⟨⟨i+1,by omega,fun j p' hj hp'=>by
   rcases Nat.lt_or_ge j i with h | h
   ·exact hb j p' h hp'
   ·rw [show j=i by omega,hpi] at hp';simp only [aO] at hp';subst hp';omega⟩,aN.rfl,by show e.length-(i+1)<e.length-i;omega⟩
 apply vn (aU kC (aP _)) rfl;apply vn (aH) rfl;dsimp only [aD,aC];obtain ⟨p,hpl⟩:∃ p,e[e.length-1]? = some p:=⟨_,bI (by omega)⟩
 apply vn (aV kC hpl) rfl;apply vn (bG oA) rfl;apply aA (vM p (hp p (cI hpl))) rfl;dsimp only [aD,aC];apply vn fJ rfl;dsimp only [aD,aC]
 rw [show tV (fP e)=decide ((0:Int)≤(dY JM p:Int)-1) by
  unfold tV;rw [decide_eq_decide]
  constructor
  ·rintro ⟨_,_,_,h⟩;have:=h _ (by rw [hlen];exact vV hpl);rw [←JH] at this;omega
  ·intro h;refine ⟨by omega,by omega,fun p' hp'=>?_,fun p' hp'=>?_⟩
   ·obtain ⟨p0,hp0,rfl⟩:=gJ.1 hp';obtain ⟨j,hj⟩:=List.getElem?_of_mem hp0;have hje:=(eF.1 hj).1;have:=hb j p0 (by omega) hj;rw [←JH];exact this
   ·rw [hlen,vV hpl] at hp';simp only [aO] at hp';subst hp';rw [←JH];omega];exact aK rfl
theorem Mf (e:List (List RQ)) (c:RQ) (he:Rx (fP e)) (hc:Fit 513 c.q) (h0:0<e.length:=by omega):aM prog 42 [(.one (eR e):aE),(fO c:aE)] (.ret [.one (.bool (rG (fP e) c.q))]):=by
 refine bZ func42 Ni ?_;have hl:=he.l;have hlen:=jI e;apply vn (aU kC (aP _)) rfl;apply vn (aH) rfl;dsimp only [aD,aC];obtain ⟨p,hpl⟩:∃ p,e[e.length-1]? = some p:=⟨_,bI (by omega)⟩
 obtain ⟨hp1,hp2⟩:=he.p _ (cI (vV hpl));rw [aP] at hp1;apply vn (aV kC hpl) rfl;apply vn (bG oA) rfl;apply aA (Yg p c 513 (fun q hq=>hp2 _ (gJ.2 ⟨q,hq,rfl⟩)) hc) rfl;dsimp only [aD,aC];apply aA (yC _) rfl;apply vn gD rfl;dsimp only [aD,aC];refine aK ?_
 have:rG (fP e) c.q=decide ((fY (p.map RQ.q) c.q).num.sign≠0):=by
  unfold rG;rw [decide_eq_decide,hlen]
  constructor
  ·intro h hh;exact h _ (vV hpl) (sign_zero.1 hh)
  ·intro h p' hp' hh;rw [vV hpl] at hp';simp only [aO] at hp';subst hp';exact h (sign_zero.2 hh)
 rw [this];rfl
theorem WQ (e:List (List RQ)) (c:RQ) (y:List RQ) (he:Rx (fP e)) (hc:Fit 513 c.q) (hy:y.length<1099511627776):aM prog 22 [(.agg [eR e, .int .i64 c.q.num.sign,bT c.q.num.natAbs, .int .i64 (if c.z then 0 else 1),bT (if c.z then 0 else c.q.den),sR y]:aE)] (.ret [.one (.bool (okF (fP e) c.q (y.map RQ.q)))]):=by
 refine bZ func22 VU ?_;have hl:=he.l;have hlen:=jI e;have hp:=he.p;apply aA (Wm e (fun p hp'=>by have:=(hp _ (gJ.2 ⟨p,hp',rfl⟩)).1;rw [aP] at this;omega)) rfl;refine mH (tV (fP e)) rfl (fun h1=>?_) (fun h1=>?_)
 ·have hle:2≤e.length:=by unfold tV at h1;rw [decide_eq_true_iff] at h1;omega
  apply vn (aU yW (aP _)) rfl;apply vn (aU kC (aP _)) rfl;dsimp only [aD,aC];apply vn (aH) rfl;apply vn bK rfl;refine vs _ rfl ?_ ?_<;>intro h6
  ·apply aA (Mf e c he hc) rfl;dsimp only [aD,aC];rw [show okF (fP e) c.q (y.map RQ.q)=rG (fP e) c.q by simp [okF,h1,hlen];omega];exact aK rfl
  rw [show okF (fP e) c.q (y.map RQ.q)=false by simp [okF,hlen];intro _ _;omega];exact aK rfl
 rw [show okF (fP e) c.q (y.map RQ.q)=false by simp [okF,h1]];exact aK rfl
open Go Go.Proofs Tryz Ord
def bz8:Tr:=.need (.idx 5 (.u 3 0)) (.indexAddr 40 (tT 14) (tT 15)) 0 false (.need (.strow 5 3 (.u 3 0) 0 [(.u 7 0),(.u 7 1),(.u 7 2)]) (.store 39 (tT 26) (tT 21)) 0 false (.need (.idx 9 (.u 4 0)) (.indexAddr 40 (tT 16) (tT 17)) 0 false (.need (.strow 9 3 (.u 4 0) 0 [(.u 8 0),(.u 8 1),(.u 8 2)]) (.store 39 (tT 27) (tT 25)) 0 false (aW .add 3 10 1 3 0 3 (aW .sub 3 12 1 4 0 3 (.back 0 [lV 11 0,lV 12 0, .row 10]))))))
def bp6:Tr:=.loop 0 [lK 0,lV 2 0, .row 0] (bO .lss 3 7 8 3 0 4 0 4 (.split (.u 6 0) (.need (.idx 5 (.u 4 0)) (.indexAddr 40 (tT 18) (tT 19)) 0 false (.need (.ldrow 5 (.u 4 0) 0 3 true) (.load 39 (tT 20)) 39 false (.need (.idx 5 (.u 3 0)) (.indexAddr 40 (tT 22) (tT 23)) 0 false (.need (.ldrow 5 (.u 3 0) 0 3 true) (.load 39 (tT 24)) 39 false bz8)))) (.retr [] 5)))
def bj3:Tr:=.need (.lenrow 0) (.call ⟨.builtin .len,#[(tT 4)],#[40]⟩) 3 false (aW .sub 3 5 1 1 0 3 bp6)
theorem Me:Ke prog f92 (fun _=>none) [.lent 39 3]=bj3:=by kernel_rfl
def Ug:Tr:=.back 0 [lV 10 0, .row 9]
def WM:Tr:=.ret [(W 5 0)]
def bq6:Tr:=.split (.u 4 0) (eN 0 0 2 0 242 6 8 (dR 5 0 none 2 10 (aJ 68 [(W 6 0)] [(some 3)] [13] [2] 39 true (.need (.lit 3 [[(.u 7 0),(.u 7 1),(.u 7 2)]]) (.buildSlice 72 1 #[(0,(tT 14))]) 72 false (.need (.app 3 56 (some 3) none (some 8)) (.call ⟨.builtin .append,#[(tT 12),(tT 15)],#[72,72]⟩) 72 false (aW .add 3 8 1 2 0 3 Ug)))))) (aJ 34 [(.one (.c (.sr 3 3)))] [none] [18] [72] 72 true WM)
def br6:Tr:=cU 0 0 6 242 (.loop 0 [lK 0, .nilrow] (bO .lss 3 8 7 2 0 1 0 0 bq6))
theorem Jy:aL prog f91 (fun _=>none) [.v none]=br6:=by kernel_rfl
def bh6:Tr:=.split (.u 4 0) (eN 0 0 1 0 242 12 13 (dR 5 0 none 2 14 (aJ 50 [(W 6 0)] [(some 4)] [15] [2] 49 true (.need (.lit 4 [[(.u 7 0),(.u 7 1),(.u 7 2),(.u 7 3)]]) (.buildSlice 167 1 #[(0,(tT 16))]) 167 false (.need (.app 4 64 (some 2) none (some 8)) (.call ⟨.builtin .append,#[(tT 11),(tT 17)],#[167,167]⟩) 167 false (aW .add 3 9 1 1 0 3 Ug)))))) (aJ 144 [(.one (.c (.sr 4 2)))] [none] [19] [167] 167 true WM)
def bv8:Tr:=.loop 0 [lK 0, .nilrow] (cU 0 0 6 242 (bO .lss 3 5 7 1 0 3 0 4 bh6))
theorem Kb:aL prog f99 (fun _=>none) [.v none]=bv8:=by kernel_rfl
def ar7:Tr:=.ret [(.agg [tN,tN,(tE (.bool false)),tN,tN]),(WK 2)]
def aw2:Tr:=.ret [(.agg [tN,tN,(tE (.bool false)),tN,tN]),(WK 3)]
def aF4:Tr:=aJ 91 [(.one (.c (.sr 1 9)))] [none] [30] [242] 72 false (.need (.lit 1 [[(.k (.int .i64 1))]]) (.buildSlice 242 1 #[(0,(.const (I3 1)))]) 242 false (aJ 91 [(.one (.c (.sr 1 11)))] [none] [32] [242] 72 false (.need (.lit 1 [[(.u 10 0)],[(.u 12 0)]]) (.buildSlice 32 2 #[(0,(tT 31)),(1,(tT 33))]) 32 false (.need (.call 68 [(WK 1)] [(some 3)]) (.call ⟨.value (.func 68),#[(.const (I3 1))],#[2]⟩) 39 false (.need (.lit 3 [[(.u 14 0),(.u 14 1),(.u 14 2)]]) (.buildSlice 40 1 #[(0,(tT 35))]) 40 false (.ret [(.agg [(.c (.sr 1 13)),tN,(tE (.bool false)),tN,(.c (.sr 3 15))]),(WK 0)]))))))
def aP9:Tr:=.need (.lit 1 [[(.u 11 0)],[(.k (.slice none 0 0))],[(.u 13 0)]]) (.buildSlice 32 3 #[(0,(tT 41)),(1,(.const (.slice none 0 0))),(2,(tT 43))]) 32 false (.need (.prim [(W 0 0),(.one (.c (.k (.int .u8 3))))] none) (.binOp .eql 5 (tT 104) (.const (.int .u8 3)) 5) 4 false (.split (.u 15 0) (.need (.rop 7 39 3 none [] [] []) (.call ⟨.value (.func 92),#[(tT 111)],#[40]⟩) 0 true (.ret [(.agg [(.c (.sr 1 14)),tN,(tE (.bool false)),tN,(.c (.sr 3 16))]),(WK 0)])) (.need (.prim [(W 0 0),(.one (.c (.k (.int .u8 7))))] none) (.binOp .geq 5 (tT 107) (.const (.int .u8 7)) 5) 4 false (.split (.u 16 0) (.need (.rop 7 39 3 none [] [] []) (.call ⟨.value (.func 92),#[(tT 111)],#[40]⟩) 0 true (.ret [(.agg [(.c (.sr 1 14)),tN,(tE (.bool false)),tN,(.c (.sr 3 17))]),(WK 0)])) (.ret [(.agg [(.c (.sr 1 14)),tN,(tE (.bool false)),tN,(.c (.sr 3 7))]),(WK 0)])))))
def bc8:Tr:=.need (.lit 1 [[(.u 12 0)],[(.k (.slice none 0 0))],[(.u 14 0)]]) (.buildSlice 32 3 #[(0,(tT 49)),(1,(.const (.slice none 0 0))),(2,(tT 51))]) 32 false (.need (.prim [(W 0 0),(.one (.c (.k (.int .u8 3))))] none) (.binOp .eql 5 (tT 104) (.const (.int .u8 3)) 5) 4 false (.split (.u 16 0) (.need (.rop 7 39 3 none [] [] []) (.call ⟨.value (.func 92),#[(tT 111)],#[40]⟩) 0 true (.ret [(.agg [(.c (.sr 1 15)),tN,(tE (.bool false)),tN,(.c (.sr 3 17))]),(WK 0)])) (.need (.prim [(W 0 0),(.one (.c (.k (.int .u8 7))))] none) (.binOp .geq 5 (tT 107) (.const (.int .u8 7)) 5) 4 false (.split (.u 17 0) (.need (.rop 7 39 3 none [] [] []) (.call ⟨.value (.func 92),#[(tT 111)],#[40]⟩) 0 true (.ret [(.agg [(.c (.sr 1 15)),tN,(tE (.bool false)),tN,(.c (.sr 3 18))]),(WK 0)])) (.ret [(.agg [(.c (.sr 1 15)),tN,(tE (.bool false)),tN,(.c (.sr 3 7))]),(WK 0)])))))
def aK5:Tr:=.need (.lit 1 [[(.k (.slice none 0 0))],[(.u 13 0)],[(.u 15 0)]]) (.buildSlice 32 3 #[(0,(.const (.slice none 0 0))),(1,(tT 57)),(2,(tT 59))]) 32 false (.need (.prim [(W 0 0),(.one (.c (.k (.int .u8 3))))] none) (.binOp .eql 5 (tT 104) (.const (.int .u8 3)) 5) 4 false (.split (.u 17 0) (.need (.rop 7 39 3 none [] [] []) (.call ⟨.value (.func 92),#[(tT 111)],#[40]⟩) 0 true (.ret [(.agg [(.c (.sr 1 16)),tN,(tE (.bool false)),tN,(.c (.sr 3 18))]),(WK 0)])) (.need (.prim [(W 0 0),(.one (.c (.k (.int .u8 7))))] none) (.binOp .geq 5 (tT 107) (.const (.int .u8 7)) 5) 4 false (.split (.u 18 0) (.need (.rop 7 39 3 none [] [] []) (.call ⟨.value (.func 92),#[(tT 111)],#[40]⟩) 0 true (.ret [(.agg [(.c (.sr 1 16)),tN,(tE (.bool false)),tN,(.c (.sr 3 19))]),(WK 0)])) (.ret [(.agg [(.c (.sr 1 16)),tN,(tE (.bool false)),tN,(.c (.sr 3 7))]),(WK 0)])))))
def az8:Tr:=.need (.lit 1 [[(.k (.slice none 0 0))],[(.u 14 0)],[(.u 16 0)]]) (.buildSlice 32 3 #[(0,(.const (.slice none 0 0))),(1,(tT 65)),(2,(tT 67))]) 32 false (.need (.prim [(W 0 0),(.one (.c (.k (.int .u8 3))))] none) (.binOp .eql 5 (tT 104) (.const (.int .u8 3)) 5) 4 false (.split (.u 18 0) (.need (.rop 7 39 3 none [] [] []) (.call ⟨.value (.func 92),#[(tT 111)],#[40]⟩) 0 true (.ret [(.agg [(.c (.sr 1 17)),tN,(tE (.bool false)),tN,(.c (.sr 3 19))]),(WK 0)])) (.need (.prim [(W 0 0),(.one (.c (.k (.int .u8 7))))] none) (.binOp .geq 5 (tT 107) (.const (.int .u8 7)) 5) 4 false (.split (.u 19 0) (.need (.rop 7 39 3 none [] [] []) (.call ⟨.value (.func 92),#[(tT 111)],#[40]⟩) 0 true (.ret [(.agg [(.c (.sr 1 17)),tN,(tE (.bool false)),tN,(.c (.sr 3 20))]),(WK 0)])) (.ret [(.agg [(.c (.sr 1 17)),tN,(tE (.bool false)),tN,(.c (.sr 3 7))]),(WK 0)])))))
def aP6:Tr:=.need (.lit 1 [[(.k (.slice none 0 0))],[(.u 15 0)],[(.u 17 0)]]) (.buildSlice 32 3 #[(0,(.const (.slice none 0 0))),(1,(tT 73)),(2,(tT 75))]) 32 false (.need (.prim [(W 0 0),(.one (.c (.k (.int .u8 3))))] none) (.binOp .eql 5 (tT 104) (.const (.int .u8 3)) 5) 4 false (.split (.u 19 0) (.need (.rop 7 39 3 none [] [] []) (.call ⟨.value (.func 92),#[(tT 111)],#[40]⟩) 0 true (.ret [(.agg [(.c (.sr 1 18)),tN,(tE (.bool false)),tN,(.c (.sr 3 20))]),(WK 0)])) (.need (.prim [(W 0 0),(.one (.c (.k (.int .u8 7))))] none) (.binOp .geq 5 (tT 107) (.const (.int .u8 7)) 5) 4 false (.split (.u 20 0) (.need (.rop 7 39 3 none [] [] []) (.call ⟨.value (.func 92),#[(tT 111)],#[40]⟩) 0 true (.ret [(.agg [(.c (.sr 1 18)),tN,(tE (.bool false)),tN,(.c (.sr 3 21))]),(WK 0)])) (.ret [(.agg [(.c (.sr 1 18)),tN,(tE (.bool false)),tN,(.c (.sr 3 7))]),(WK 0)])))))
def OO:Tr:=.need (.prim [(W 0 0),(.one (.c (.k (.int .u8 3))))] none) (.binOp .eql 5 (tT 104) (.const (.int .u8 3)) 5) 4 false (.split (.u 24 0) (.need (.rop 7 39 3 none [] [] []) (.call ⟨.value (.func 92),#[(tT 111)],#[40]⟩) 0 true (.ret [(.agg [(.c (.sr 1 23)),tN,(tE (.bool false)),tN,(.c (.sr 3 25))]),(WK 0)])) (.need (.prim [(W 0 0),(.one (.c (.k (.int .u8 7))))] none) (.binOp .geq 5 (tT 107) (.const (.int .u8 7)) 5) 4 false (.split (.u 25 0) (.need (.rop 7 39 3 none [] [] []) (.call ⟨.value (.func 92),#[(tT 111)],#[40]⟩) 0 true (.ret [(.agg [(.c (.sr 1 23)),tN,(tE (.bool false)),tN,(.c (.sr 3 26))]),(WK 0)])) (.ret [(.agg [(.c (.sr 1 23)),tN,(tE (.bool false)),tN,(.c (.sr 3 7))]),(WK 0)]))))
def ad2:Tr:=.need (.lit 1 [[(.u 16 0)]]) (.buildSlice 242 1 #[(0,(tT 83))]) 242 false (aJ 91 [(.one (.c (.sr 1 17)))] [none] [84] [242] 72 false (.need (.lit 1 [[(.k (.int .i64 0))],[(.k (.int .i64 (-2)))]]) (.buildSlice 242 2 #[(0,(.const (I3 0))),(1,(.const (I3 (-2))))]) 242 false (aJ 91 [(.one (.c (.sr 1 19)))] [none] [86] [242] 72 false (.need (.lit 1 [[(.k (.int .i64 1))],[(.k (.int .i64 0))],[(.k (.int .i64 (-1)))]]) (.buildSlice 242 3 #[(0,(.const (I3 1))),(1,(.const (I3 0))),(2,(.const (I3 (-1))))]) 242 false (aJ 91 [(.one (.c (.sr 1 21)))] [none] [88] [242] 72 true (.need (.lit 1 [[(.u 18 0)],[(.u 20 0)],[(.u 22 0)]]) (.buildSlice 32 3 #[(0,(tT 85)),(1,(tT 87)),(2,(tT 89))]) 32 false OO))))))
def Ze:Tr:=.need (.lit 1 [[(.u 16 0)]]) (.buildSlice 242 1 #[(0,(tT 95))]) 242 false (aJ 91 [(.one (.c (.sr 1 17)))] [none] [96] [242] 72 false (.need (.lit 1 [[(.k (.int .i64 0))],[(.k (.int .i64 (-2)))]]) (.buildSlice 242 2 #[(0,(.const (I3 0))),(1,(.const (I3 (-2))))]) 242 false (aJ 91 [(.one (.c (.sr 1 19)))] [none] [98] [242] 72 false (.need (.lit 1 [[(.k (.int .i64 1))]]) (.buildSlice 242 1 #[(0,(.const (I3 1)))]) 242 false (aJ 91 [(.one (.c (.sr 1 21)))] [none] [100] [242] 72 true (.need (.lit 1 [[(.u 18 0)],[(.u 20 0)],[(.u 22 0)]]) (.buildSlice 32 3 #[(0,(tT 97)),(1,(tT 99)),(2,(tT 101))]) 32 false OO))))))
def ar4:Tr:=.split (.u 15 0) (.need (.prim [(WK 2),(W 1 0)] none) (.binOp .mul 2 (.const (I3 2)) (tT 94) 2) 2 false Ze) (.need (.prim [(W 0 0),(.one (.c (.k (.int .u8 3))))] none) (.binOp .eql 5 (tT 104) (.const (.int .u8 3)) 5) 4 false (.split (.u 16 0) (.need (.rop 7 39 3 none [] [] []) (.call ⟨.value (.func 92),#[(tT 111)],#[40]⟩) 0 true (.ret [(.agg [tN,tN,(tE (.bool false)),tN,(.c (.sr 3 17))]),(WK 0)])) (.need (.prim [(W 0 0),(.one (.c (.k (.int .u8 7))))] none) (.binOp .geq 5 (tT 107) (.const (.int .u8 7)) 5) 4 false (.split (.u 17 0) (.need (.rop 7 39 3 none [] [] []) (.call ⟨.value (.func 92),#[(tT 111)],#[40]⟩) 0 true (.ret [(.agg [tN,tN,(tE (.bool false)),tN,(.c (.sr 3 18))]),(WK 0)])) (.ret [(.agg [tN,tN,(tE (.bool false)),tN,(.c (.sr 3 7))]),(WK 0)])))))
def bd8:Tr:=.split (.u 12 0) (.need (.lit 1 [[(.k (.int .i64 1))]]) (.buildSlice 242 1 #[(0,(.const (I3 1)))]) 242 false (aJ 91 [(.one (.c (.sr 1 13)))] [none] [64] [242] 72 false (.need (.lit 1 [[(.k (.int .i64 1))],[(.k (.int .i64 1))]]) (.buildSlice 242 2 #[(0,(.const (I3 1))),(1,(.const (I3 1)))]) 242 false (aJ 91 [(.one (.c (.sr 1 15)))] [none] [66] [242] 72 true az8)))) (.need (.prim [(W 0 0),(.one (.c (.k (.int .u8 6))))] none) (.binOp .eql 5 (tT 27) (.const (.int .u8 6)) 5) 4 false (.split (.u 13 0) (.need (.lit 1 [[(.k (.int .i64 0))],[(.k (.int .i64 2))]]) (.buildSlice 242 2 #[(0,(.const (I3 0))),(1,(.const (I3 2)))]) 242 false (aJ 91 [(.one (.c (.sr 1 14)))] [none] [72] [242] 72 false (.need (.lit 1 [[(.k (.int .i64 1))],[(.k (.int .i64 0))],[(.k (.int .i64 1))]]) (.buildSlice 242 3 #[(0,(.const (I3 1))),(1,(.const (I3 0))),(2,(.const (I3 1)))]) 242 false (aJ 91 [(.one (.c (.sr 1 16)))] [none] [74] [242] 72 true aP6)))) (.need (.prim [(W 0 0),(.one (.c (.k (.int .u8 7))))] none) (.binOp .eql 5 (tT 27) (.const (.int .u8 7)) 5) 4 false (.split (.u 14 0) (aW .add 2 81 1 1 0 2 (bO .mul 2 80 82 1 0 15 0 2 ad2)) (.need (.prim [(W 0 0),(.one (.c (.k (.int .u8 8))))] none) (.binOp .eql 5 (tT 27) (.const (.int .u8 8)) 5) 4 false ar4)))))
def ay6:Tr:=.split (.u 10 0) (.need (.lit 1 [[(.k (.int .i64 0))],[(.k (.int .i64 (-1)))]]) (.buildSlice 242 2 #[(0,(.const (I3 0))),(1,(.const (I3 (-1))))]) 242 false (aJ 91 [(.one (.c (.sr 1 11)))] [none] [48] [242] 72 false (.need (.lit 1 [[(.k (.int .i64 1))]]) (.buildSlice 242 1 #[(0,(.const (I3 1)))]) 242 false (aJ 91 [(.one (.c (.sr 1 13)))] [none] [50] [242] 72 true bc8)))) (.need (.prim [(W 0 0),(.one (.c (.k (.int .u8 4))))] none) (.binOp .eql 5 (tT 27) (.const (.int .u8 4)) 5) 4 false (.split (.u 11 0) (.need (.lit 1 [[(.k (.int .i64 0))],[(.k (.int .i64 2))]]) (.buildSlice 242 2 #[(0,(.const (I3 0))),(1,(.const (I3 2)))]) 242 false (aJ 91 [(.one (.c (.sr 1 12)))] [none] [56] [242] 72 false (.need (.lit 1 [[(.k (.int .i64 1))]]) (.buildSlice 242 1 #[(0,(.const (I3 1)))]) 242 false (aJ 91 [(.one (.c (.sr 1 14)))] [none] [58] [242] 72 true aK5)))) (.need (.prim [(W 0 0),(.one (.c (.k (.int .u8 5))))] none) (.binOp .eql 5 (tT 27) (.const (.int .u8 5)) 5) 4 false bd8)))
def aB5:Tr:=.split (.u 8 0) (.need (.lit 1 [[(.k (.int .i64 (-1)))]]) (.buildSlice 242 1 #[(0,(.const (I3 (-1))))]) 242 false aF4) (.need (.prim [(W 0 0),(.one (.c (.k (.int .u8 2))))] none) (.binOp .eql 5 (tT 27) (.const (.int .u8 2)) 5) 4 false (.split (.u 9 0) (.need (.lit 1 [[(.k (.int .i64 1))]]) (.buildSlice 242 1 #[(0,(.const (I3 1)))]) 242 false (aJ 91 [(.one (.c (.sr 1 10)))] [none] [40] [242] 72 false (.need (.lit 1 [[(.k (.int .i64 1))]]) (.buildSlice 242 1 #[(0,(.const (I3 1)))]) 242 false (aJ 91 [(.one (.c (.sr 1 12)))] [none] [42] [242] 72 true aP9)))) (.need (.prim [(W 0 0),(.one (.c (.k (.int .u8 3))))] none) (.binOp .eql 5 (tT 27) (.const (.int .u8 3)) 5) 4 false ay6)))
def bf4:Tr:=aW .lss 3 15 0 1 0 4 (.split (.u 4 0) aw2 (aW .gtr 3 18 40 1 0 4 (.split (.u 5 0) aw2 (.need (.call 68 [(WK 1)] [(some 3)]) (.call ⟨.value (.func 68),#[(.const (I3 1))],#[2]⟩) 39 false (.need (.lit 3 [[(.k (.slice none 0 0)),(.k (.bool false)),(.k (.slice none 0 0))],[(.u 6 0),(.u 6 1),(.u 6 2)]]) (.buildSlice 40 2 #[(0,(tT 23)),(1,(tT 24))]) 40 false (.need (.prim [(W 0 0),(.one (.c (.k (.int .u8 1))))] none) (.binOp .eql 5 (tT 27) (.const (.int .u8 1)) 5) 4 false aB5))))))
def bx3:Tr:=.need (.prim [(W 0 0),(.one (.c (.k (.int .u8 1))))] none) (.binOp .lss 5 (tT 8) (.const (.int .u8 1)) 5) 4 false (.split (.u 2 0) ar7 (.need (.prim [(W 0 0),(.one (.c (.k (.int .u8 8))))] none) (.binOp .gtr 5 (tT 11) (.const (.int .u8 8)) 5) 4 false (.split (.u 3 0) ar7 bf4)))
theorem Vx:aL prog f18 (fun _=>none) [.v none, .v none]=bx3:=by kernel_rfl
def aB8:Tr:=.need (.lit 1 [[(.k (.int .i64 (-1)))]]) (.buildSlice 242 1 #[(0,(.const (I3 (-1))))]) 242 false (aJ 99 [(.one (.c (.sr 1 4)))] [none] [14] [242] 167 false (.need (.lit 1 [[(.k (.int .i64 1))]]) (.buildSlice 242 1 #[(0,(.const (I3 1)))]) 242 false (aJ 99 [(.one (.c (.sr 1 6)))] [none] [16] [242] 167 false (.need (.lit 1 [[(.u 5 0)],[(.u 7 0)]]) (.buildSlice 44 2 #[(0,(tT 15)),(1,(tT 17))]) 44 false (.need (.lit 4 [[(.u 2 0),(.u 2 1),(.u 2 2),(.u 2 3)]]) (.buildSlice 50 1 #[(0,(tT 19))]) 50 false (.ret [(.agg [(.c (.sr 1 8)),(tE (.int .i64 0)),tN,(tE (.int .i64 0)),tN,(.c (.sr 4 9))])]))))))
def ZX:Tr:=.need (.lit 1 [[(.k (.int .i64 1))]]) (.buildSlice 242 1 #[(0,(.const (I3 1)))]) 242 false (aJ 99 [(.one (.c (.sr 1 5)))] [none] [24] [242] 167 false (.need (.lit 1 [[(.k (.int .i64 1))]]) (.buildSlice 242 1 #[(0,(.const (I3 1)))]) 242 false (aJ 99 [(.one (.c (.sr 1 7)))] [none] [26] [242] 167 false (.need (.lit 1 [[(.u 6 0)],[(.k (.slice none 0 0))],[(.u 8 0)]]) (.buildSlice 44 3 #[(0,(tT 25)),(1,(.const (.slice none 0 0))),(2,(tT 27))]) 44 false (.need (.lit 4 [[(.k (.int .i64 0)),(.k (.slice none 0 0)),(.k (.int .i64 0)),(.k (.slice none 0 0))],[(.u 2 0),(.u 2 1),(.u 2 2),(.u 2 3)]]) (.buildSlice 50 2 #[(0,(tT 29)),(1,(tT 30))]) 50 false (.ret [(.agg [(.c (.sr 1 9)),(tE (.int .i64 0)),tN,(tE (.int .i64 0)),tN,(.c (.sr 4 10))])]))))))
def ZF:Tr:=.need (.lit 1 [[(.k (.int .i64 0))],[(.k (.int .i64 (-1)))]]) (.buildSlice 242 2 #[(0,(.const (I3 0))),(1,(.const (I3 (-1))))]) 242 false (aJ 99 [(.one (.c (.sr 1 6)))] [none] [35] [242] 167 false (.need (.lit 1 [[(.k (.int .i64 1))]]) (.buildSlice 242 1 #[(0,(.const (I3 1)))]) 242 false (aJ 99 [(.one (.c (.sr 1 8)))] [none] [37] [242] 167 false (.need (.lit 1 [[(.u 7 0)],[(.k (.slice none 0 0))],[(.u 9 0)]]) (.buildSlice 44 3 #[(0,(tT 36)),(1,(.const (.slice none 0 0))),(2,(tT 38))]) 44 false (.need (.lit 4 [[(.u 2 0),(.u 2 1),(.u 2 2),(.u 2 3)],[(.k (.int .i64 0)),(.k (.slice none 0 0)),(.k (.int .i64 0)),(.k (.slice none 0 0))]]) (.buildSlice 50 2 #[(0,(tT 40)),(1,(tT 41))]) 50 false (.ret [(.agg [(.c (.sr 1 10)),(tE (.int .i64 0)),tN,(tE (.int .i64 0)),tN,(.c (.sr 4 11))])]))))))
def ad3:Tr:=.need (.lit 1 [[(.k (.int .i64 0))],[(.k (.int .i64 2))]]) (.buildSlice 242 2 #[(0,(.const (I3 0))),(1,(.const (I3 2)))]) 242 false (aJ 99 [(.one (.c (.sr 1 7)))] [none] [46] [242] 167 false (.need (.lit 1 [[(.k (.int .i64 1))]]) (.buildSlice 242 1 #[(0,(.const (I3 1)))]) 242 false (aJ 99 [(.one (.c (.sr 1 9)))] [none] [48] [242] 167 false (.need (.lit 1 [[(.k (.slice none 0 0))],[(.u 8 0)],[(.u 10 0)]]) (.buildSlice 44 3 #[(0,(.const (.slice none 0 0))),(1,(tT 47)),(2,(tT 49))]) 44 false (.need (.lit 4 [[(.k (.int .i64 0)),(.k (.slice none 0 0)),(.k (.int .i64 0)),(.k (.slice none 0 0))],[(.u 2 0),(.u 2 1),(.u 2 2),(.u 2 3)]]) (.buildSlice 50 2 #[(0,(tT 51)),(1,(tT 52))]) 50 false (.ret [(.agg [(.c (.sr 1 11)),(tE (.int .i64 0)),tN,(tE (.int .i64 0)),tN,(.c (.sr 4 12))])]))))))
def aa2:Tr:=.need (.lit 1 [[(.k (.int .i64 1))]]) (.buildSlice 242 1 #[(0,(.const (I3 1)))]) 242 false (aJ 99 [(.one (.c (.sr 1 8)))] [none] [57] [242] 167 false (.need (.lit 1 [[(.k (.int .i64 1))],[(.k (.int .i64 1))]]) (.buildSlice 242 2 #[(0,(.const (I3 1))),(1,(.const (I3 1)))]) 242 false (aJ 99 [(.one (.c (.sr 1 10)))] [none] [59] [242] 167 false (.need (.lit 1 [[(.k (.slice none 0 0))],[(.u 9 0)],[(.u 11 0)]]) (.buildSlice 44 3 #[(0,(.const (.slice none 0 0))),(1,(tT 58)),(2,(tT 60))]) 44 false (.need (.lit 4 [[(.k (.int .i64 0)),(.k (.slice none 0 0)),(.k (.int .i64 0)),(.k (.slice none 0 0))],[(.u 2 0),(.u 2 1),(.u 2 2),(.u 2 3)]]) (.buildSlice 50 2 #[(0,(tT 62)),(1,(tT 63))]) 50 false (.ret [(.agg [(.c (.sr 1 12)),(tE (.int .i64 0)),tN,(tE (.int .i64 0)),tN,(.c (.sr 4 13))])]))))))
def an1:Tr:=.need (.lit 1 [[(.k (.int .i64 0))],[(.k (.int .i64 2))]]) (.buildSlice 242 2 #[(0,(.const (I3 0))),(1,(.const (I3 2)))]) 242 false (aJ 99 [(.one (.c (.sr 1 9)))] [none] [68] [242] 167 false (.need (.lit 1 [[(.k (.int .i64 1))],[(.k (.int .i64 0))],[(.k (.int .i64 1))]]) (.buildSlice 242 3 #[(0,(.const (I3 1))),(1,(.const (I3 0))),(2,(.const (I3 1)))]) 242 false (aJ 99 [(.one (.c (.sr 1 11)))] [none] [70] [242] 167 false (.need (.lit 1 [[(.k (.slice none 0 0))],[(.u 10 0)],[(.u 12 0)]]) (.buildSlice 44 3 #[(0,(.const (.slice none 0 0))),(1,(tT 69)),(2,(tT 71))]) 44 false (.need (.lit 4 [[(.k (.int .i64 0)),(.k (.slice none 0 0)),(.k (.int .i64 0)),(.k (.slice none 0 0))],[(.u 2 0),(.u 2 1),(.u 2 2),(.u 2 3)]]) (.buildSlice 50 2 #[(0,(tT 73)),(1,(tT 74))]) 50 false (.ret [(.agg [(.c (.sr 1 13)),(tE (.int .i64 0)),tN,(tE (.int .i64 0)),tN,(.c (.sr 4 14))])]))))))
def af5:Tr:=.need (.lit 1 [[(.k (.int .i64 0))],[(.k (.int .i64 (-2)))]]) (.buildSlice 242 2 #[(0,(.const (I3 0))),(1,(.const (I3 (-2))))]) 242 false (aJ 99 [(.one (.c (.sr 1 14)))] [none] [85] [242] 167 false (.need (.lit 1 [[(.k (.int .i64 1))],[(.k (.int .i64 0))],[(.k (.int .i64 (-1)))]]) (.buildSlice 242 3 #[(0,(.const (I3 1))),(1,(.const (I3 0))),(2,(.const (I3 (-1))))]) 242 false (aJ 99 [(.one (.c (.sr 1 16)))] [none] [87] [242] 167 false (.need (.lit 1 [[(.u 13 0)],[(.u 15 0)],[(.u 17 0)]]) (.buildSlice 44 3 #[(0,(tT 84)),(1,(tT 86)),(2,(tT 88))]) 44 false (.need (.lit 4 [[(.u 2 0),(.u 2 1),(.u 2 2),(.u 2 3)],[(.k (.int .i64 0)),(.k (.slice none 0 0)),(.k (.int .i64 0)),(.k (.slice none 0 0))]]) (.buildSlice 50 2 #[(0,(tT 90)),(1,(tT 91))]) 50 false (.ret [(.agg [(.c (.sr 1 18)),(tE (.int .i64 0)),tN,(tE (.int .i64 0)),tN,(.c (.sr 4 19))])]))))))
def ae8:Tr:=.need (.lit 1 [[(.k (.int .i64 0))],[(.k (.int .i64 (-2)))]]) (.buildSlice 242 2 #[(0,(.const (I3 0))),(1,(.const (I3 (-2))))]) 242 false (aJ 99 [(.one (.c (.sr 1 13)))] [none] [98] [242] 167 false (.need (.lit 1 [[(.k (.int .i64 1))]]) (.buildSlice 242 1 #[(0,(.const (I3 1)))]) 242 false (aJ 99 [(.one (.c (.sr 1 15)))] [none] [100] [242] 167 false (.need (.lit 1 [[(.u 12 0)],[(.u 14 0)],[(.u 16 0)]]) (.buildSlice 44 3 #[(0,(tT 97)),(1,(tT 99)),(2,(tT 101))]) 44 false (.need (.lit 4 [[(.u 2 0),(.u 2 1),(.u 2 2),(.u 2 3)],[(.k (.int .i64 0)),(.k (.slice none 0 0)),(.k (.int .i64 0)),(.k (.slice none 0 0))]]) (.buildSlice 50 2 #[(0,(tT 103)),(1,(tT 104))]) 50 false (.ret [(.agg [(.c (.sr 1 17)),(tE (.int .i64 0)),tN,(tE (.int .i64 0)),tN,(.c (.sr 4 18))])]))))))
def ap2:Tr:=.split (.u 8 0) an1 (.need (.prim [(W 0 0),(.one (.c (.k (.int .u8 7))))] none) (.binOp .eql 5 (tT 11) (.const (.int .u8 7)) 5) 4 false (.split (.u 9 0) (aW .add 2 80 1 1 0 2 (bO .mul 2 79 81 1 0 10 0 2 (.need (.lit 1 [[(.u 11 0)]]) (.buildSlice 242 1 #[(0,(tT 82))]) 242 false (aJ 99 [(.one (.c (.sr 1 12)))] [none] [83] [242] 167 false af5)))) (.need (.prim [(WK 2),(W 1 0)] none) (.binOp .mul 2 (.const (I3 2)) (tT 94) 2) 2 false (.need (.lit 1 [[(.u 10 0)]]) (.buildSlice 242 1 #[(0,(tT 95))]) 242 false (aJ 99 [(.one (.c (.sr 1 11)))] [none] [96] [242] 167 false ae8)))))
def ag6:Tr:=.need (.prim [(W 0 0),(.one (.c (.k (.int .u8 3))))] none) (.binOp .eql 5 (tT 11) (.const (.int .u8 3)) 5) 4 false (.split (.u 5 0) ZF (.need (.prim [(W 0 0),(.one (.c (.k (.int .u8 4))))] none) (.binOp .eql 5 (tT 11) (.const (.int .u8 4)) 5) 4 false (.split (.u 6 0) ad3 (.need (.prim [(W 0 0),(.one (.c (.k (.int .u8 5))))] none) (.binOp .eql 5 (tT 11) (.const (.int .u8 5)) 5) 4 false (.split (.u 7 0) aa2 (.need (.prim [(W 0 0),(.one (.c (.k (.int .u8 6))))] none) (.binOp .eql 5 (tT 11) (.const (.int .u8 6)) 5) 4 false ap2))))))
def aE6:Tr:=.need (.call 50 [(WK 1)] [(some 4)]) (.call ⟨.value (.func 50),#[(.const (I3 1))],#[2]⟩) 49 true (.need (.prim [(W 0 0),(.one (.c (.k (.int .u8 1))))] none) (.binOp .eql 5 (tT 11) (.const (.int .u8 1)) 5) 4 false (.split (.u 3 0) aB8 (.need (.prim [(W 0 0),(.one (.c (.k (.int .u8 2))))] none) (.binOp .eql 5 (tT 11) (.const (.int .u8 2)) 5) 4 false (.split (.u 4 0) ZX ag6))))
theorem UU:aL prog f25 (fun _=>none) [.v none, .v none]=aE6:=by kernel_rfl
theorem xD (a0 a1 a2 b0 b1 b2:aG):vW prog 92 39 3 [] [] ([[a0,a1,a2],[b0,b1,b2]]) [] ([[b0,b1,b2],[a0,a1,a2]]):=by
 refine DP (a1:=[]) (a2:=[]) (i1:=[]) (i2:=[]) (hints:=(fun _=>none)) fo (by kernel_rfl) func92 trivial trivial (by kernel_rfl) ?_ ?_ ?_ ?_
 ·simp [rT]
 ·simp [rT]
 ·simp [rT]
 dsimp only [aD,aC];rw [Me];dsimp only [List.map,In.env,aD,aC];apply KU (n:=2) rfl rfl;apply vn (aH) rfl;refine bB Bool (fun g=>if g then [.one (.int .i64 1), .one (.int .i64 0), .rows [[b0,b1,b2],[a0,a1,a2]]] else [.one (.int .i64 0), .one (.int .i64 1), .rows [[a0,a1,a2],[b0,b1,b2]]]) (fun g=>if g then 0 else 1) false aN.rfl (fun g=>by cases g<;>rfl) ?_;intro g;cases g
 case true=>
  show vc _ _ _ [_,_,_, .one (.int .i64 1), .one (.int .i64 0), .rows [[b0,b1,b2],[a0,a1,a2]]] _;apply vn aZ rfl;refine vs _ rfl (fun h=>absurd h (by decide)) (fun _=>?_);exact Kg rfl rfl
 show vc _ _ _ [_,_,_, .one (.int .i64 0), .one (.int .i64 1), .rows [[a0,a1,a2],[b0,b1,b2]]] _;apply vn aZ rfl;dsimp only [aD,aC];refine vs _ rfl (fun _=>?_) (fun h=>absurd (by decide) h);refine kR rfl rfl (by decide) (by simp) ?_;refine vld (t:=.agg [b0,b1,b2]) rfl rfl (by decide) rfl (.inl rfl) rfl ?_;dsimp only [aD,aC,IJ,List.drop,List.take];refine kR rfl rfl (by decide) (by simp) ?_;refine vld (t:=.agg [a0,a1,a2]) rfl rfl (by decide) rfl (.inl rfl) rfl ?_;dsimp only [aD,aC,IJ,List.drop,List.take];refine kR rfl rfl (by decide) (by simp) ?_;refine EX (us:=[[b0,b1,b2],[b0,b1,b2]]) rfl rfl (by decide) rfl rfl ?_;refine kR rfl rfl (by decide) (by simp) ?_;refine EX (us:=[[b0,b1,b2],[a0,a1,a2]]) rfl rfl (by decide) rfl rfl ?_;apply vn (aB) rfl;dsimp only [aD,aC];apply vn (aH) rfl;exact aR rfl ⟨true,aN.rfl,by decide⟩
abbrev sI (l:List Int):aG:=.slice 1 (l.map fun n=>[aG.int .i64 n])
def ints (l:List Int):List Rat:=trim (l.map fun n:Int=>(n:Rat))
def gM (l:List Int):Prop:=∀ n∈l,-9223372036854775808≤n∧n<9223372036854775808
theorem cC (l:List Int) (h:gM l) (hs:l.length<1099511627776):aM prog 91 [(.one (sI l):aE)] (.ret [.one (sQ (ints l))]):=by
 refine bZ func91 Jy ?_;apply vn (aU Of (aP _)) rfl;refine bB {i:Nat // i≤l.length} (fun g=>[.one (.int .i64 g.1), .rows (rQ ((l.take g.1).map fun n:Int=>(n:Rat)))]) (fun g=>l.length-g.1) ⟨0,bV _⟩ aN.rfl (fun _=>rfl) ?_;rintro ⟨i,hi⟩;dsimp only [aD,aC] at hi ⊢;apply vn aZ rfl;refine vs _ rfl ?_ ?_<;>intro h3
 ·obtain ⟨n,hn⟩:∃ n,l[i]? = some n:=⟨_,bI (by omega)⟩
  obtain ⟨hn1,hn2⟩:=h n (cI hn);have hl:((l.take i).map fun n:Int=>(n:Rat)).length≤i:=by simp;omega
  apply vn (aV Of hn) rfl;apply vn (bG ag2) rfl;dsimp only [aD,aC];apply aA (nQ n hn1 hn2) rfl;apply bP (us:=[qC (n:Rat)]) rfl;refine kK (xs:=(l.take i).map fun n:Int=>(n:Rat)) (x:=(n:Rat)) (f:=qC) rfl rfl (by omega) (by simp only [maxLen];omega) ?_;rw [nA (f:=fun n:Int=>(n:Rat)) hn];dsimp only [aD,aC];apply vn (aB) rfl;dsimp only [aD,aC];exact aR rfl ⟨⟨i+1,by omega⟩,aN.rfl,by show l.length-(i+1)<l.length-i;omega⟩
 rw [show i=l.length by omega,List.take_length];apply aA (yF (l.map fun n:Int=>(n:Rat)) (by simpa using hs)) rfl;exact aK rfl
def dP (l:List Int):List RQ:=fB (l.map fun n:Int=>RQ.of (n:Rat))
theorem YB (l:List Int):(dP l).map RQ.q=ints l:=by
 rw [dP,rO,ints,List.map_map];rfl
theorem cD (l:List Int) (h:gM l) (hs:l.length<1099511627776):aM prog 99 [(.one (sI l):aE)] (.ret [.one (sR (dP l))]):=by
 refine bZ func99 Kb ?_;refine bB {i:Nat // i≤l.length} (fun g=>[.one (.int .i64 g.1), .rows (rR ((l.take g.1).map fun n:Int=>RQ.of (n:Rat)))]) (fun g=>l.length-g.1) ⟨0,bV _⟩ aN.rfl (fun _=>rfl) ?_;rintro ⟨i,hi⟩;dsimp only [aD,aC] at hi ⊢;apply vn (aU Of (aP _)) rfl;apply vn aZ rfl;refine vs _ rfl ?_ ?_<;>intro h3
 ·obtain ⟨n,hn⟩:∃ n,l[i]? = some n:=⟨_,bI (by omega)⟩
  obtain ⟨hn1,hn2⟩:=h n (cI hn);have hl:((l.take i).map fun n:Int=>RQ.of (n:Rat)).length≤i:=by simp;omega
  apply vn (aV Of hn) rfl;dsimp only [aD,aC];apply vn (bG ag2) rfl;apply aA (gN n hn1 hn2) rfl;apply bP (us:=[rC (.of (n:Rat))]) rfl;dsimp only [aD,aC];refine kK (xs:=(l.take i).map fun n:Int=>RQ.of (n:Rat)) (x:=RQ.of (n:Rat)) (f:=rC) rfl rfl (by omega) (by simp only [maxLen];omega) ?_;rw [nA (f:=fun n:Int=>RQ.of (n:Rat)) hn];apply vn (aB) rfl;dsimp only [aD,aC];exact aR rfl ⟨⟨i+1,by omega⟩,aN.rfl,by show l.length-(i+1)<l.length-i;omega⟩
 rw [show i=l.length by omega,List.take_length];apply aA (vL (l.map fun n:Int=>RQ.of (n:Rat)) (by simpa using hs)) rfl;exact aK rfl
def kE (k:Nat) (n:Int):List (List Rat):=
 match k with
 | 1=>[ints [-1],ints [1]]
 | 2=>[ints [1],[],ints [1]]
 | 3=>[ints [0,-1],[],ints [1]]
 | 4=>[[],ints [0,2],ints [1]]
 | 5=>[[],ints [1],ints [1,1]]
 | 6=>[[],ints [0,2],ints [1,0,1]]
 | 7=>[ints [n*(n+1)],ints [0,-2],ints [1,0,-1]]
 | _=>[ints [2*n],ints [0,-2],ints [1]]
def kY (k:Nat):List Rat:=
 match k with
 | 1=>[1]
 | 3=>[1,0]
 | 7=>[1,0]
 | 8=>[1,0]
 | _=>[0,1]
def kQ (k:Nat) (n:Int):List (List Rat)×List Rat×Int:=
 if k<1∨8<k then ([],[],2) else if n<0∨40<n then ([],[],3) else (kE k n,kY k,0)
abbrev fT (e:List (List Rat)) (c:Rat) (y:List Rat):aE:=.agg [eQ e,dT c.num.natAbs, .bool (decide (c.num<0)),dT (c.den-1),sQ y]
theorem HA:aY (aY aG.Sub) [[.exact (.slice none 0 0), .bool false, .exact (.slice none 0 0)],qC 1] [qC 0,qC 1]:=⟨eV,⟨aG.Sub.same,aG.Sub.same,aG.Sub.same,trivial⟩,trivial⟩
theorem Nc:aY (aY aG.Sub) [qC 1,[.exact (.slice none 0 0), .bool false, .exact (.slice none 0 0)]] [qC 1,qC 0]:=⟨⟨aG.Sub.same,aG.Sub.same,aG.Sub.same,trivial⟩,eV,trivial⟩
theorem bw6 (p q:List Rat):aY (aY aG.Sub) [[sQ p],[.exact (.slice none 0 0)],[sQ q]] [cQ p,cQ [],cQ q]:=⟨⟨aG.Sub.same,trivial⟩,⟨aG.Sub.nil,trivial⟩,⟨aG.Sub.same,trivial⟩,trivial⟩
theorem WA (p q:List Rat):aY (aY aG.Sub) [[.exact (.slice none 0 0)],[sQ p],[sQ q]] [cQ [],cQ p,cQ q]:=⟨⟨aG.Sub.nil,trivial⟩,⟨aG.Sub.same,trivial⟩,⟨aG.Sub.same,trivial⟩,trivial⟩
set_option maxHeartbeats 2000000 in
theorem Lo (k:Nat) (n:Int) (hk:k<256:=by omega) (h1:-9223372036854775808≤n:=by omega) (h2:n<9223372036854775808:=by omega):aM prog 18 [(.one (.int .u8 k):aE),(.one (.int .i64 n):aE)] (.ret [fT (kQ k n).1 0 (kQ k n).2.1, .one (.int .i64 (kQ k n).2.2)]):=by
 refine bZ func18 Vx ?_;apply vn aZ rfl;refine vs _ rfl (fun h1=>?_) (fun h1'=>?_)
 ·rw [kQ,if_pos (by omega)];exact dA ⟨⟨aG.Sub.nil,kJ rfl,aG.Sub.same,kJ rfl,aG.Sub.nil,trivial⟩,aE.Sub.same,trivial⟩
 apply vn dH rfl;refine vs _ rfl ?_ ?_<;>intro h4
 ·rw [kQ,if_pos (by omega)];exact dA ⟨⟨aG.Sub.nil,kJ rfl,aG.Sub.same,kJ rfl,aG.Sub.nil,trivial⟩,aE.Sub.same,trivial⟩
 apply vn aZ rfl;dsimp only [aD,aC];refine vs _ rfl ?_ ?_<;>intro h7
 ·rw [kQ,if_neg (by omega),if_pos (by omega)];exact dA ⟨⟨aG.Sub.nil,kJ rfl,aG.Sub.same,kJ rfl,aG.Sub.nil,trivial⟩,aE.Sub.same,trivial⟩
 apply vn dH rfl;refine vs _ rfl ?_ ?_<;>intro h10
 ·rw [kQ,if_neg (by omega),if_pos (by omega)];exact dA ⟨⟨aG.Sub.nil,kJ rfl,aG.Sub.same,kJ rfl,aG.Sub.nil,trivial⟩,aE.Sub.same,trivial⟩
 apply aA (nQ 1) rfl;dsimp only [aD,aC];rw [kQ,if_neg (by omega),if_neg (by omega)];apply bP (us:=[[.exact (.slice none 0 0), .bool false, .exact (.slice none 0 0)],qC 1]) rfl;apply vn bK rfl;refine vs _ rfl ?_ ?_<;>intro h15
 ·obtain rfl:k=1:=by omega
  apply bP (us:=[[.int .i64 (-1)]]) rfl;dsimp only [aD,aC];apply aA (cC [-1] (by simp [gM]) (by simp)) rfl;apply bP (us:=[[.int .i64 1]]) rfl;apply aA (cC [1] (by simp [gM]) (by simp)) rfl;dsimp only [aD,aC];apply bP (us:=[[sQ (ints [-1])],[sQ (ints [1])]]) rfl;apply aA (nQ 1) rfl;apply bP (us:=[qC 1]) rfl;exact dA ⟨⟨aG.Sub.same,kJ rfl,aG.Sub.same,kJ rfl,aG.Sub.same,trivial⟩,aE.Sub.same,trivial⟩
 apply vn bK rfl;dsimp only [aD,aC];refine vs _ rfl ?_ ?_<;>intro h25
 ·obtain rfl:k=2:=by omega
  apply bP (us:=[[.int .i64 1]]) rfl;apply aA (cC [1] (by simp [gM]) (by simp)) rfl;apply bP (us:=[[.int .i64 1]]) rfl;dsimp only [aD,aC];apply aA (cC [1] (by simp [gM]) (by simp)) rfl;apply bP (us:=[[sQ (ints [1])],[.exact (.slice none 0 0)],[sQ (ints [1])]]) rfl;apply vn bK rfl;dsimp only [aD,aC];refine vs _ rfl ?_ ?_<;>intro h32
  ·exfalso;omega
  apply vn fJ rfl;refine vs _ rfl ?_ ?_<;>intro h36
  ·exfalso;omega
  exact dA ⟨⟨aG.Sub.slice (bw6 _ _),kJ rfl,aG.Sub.same,kJ rfl,aG.Sub.slice HA,trivial⟩,aE.Sub.same,trivial⟩
 apply vn bK rfl;refine vs _ rfl ?_ ?_<;>intro h41
 ·obtain rfl:k=3:=by omega
  apply bP (us:=[[.int .i64 0],[.int .i64 (-1)]]) rfl;dsimp only [aD,aC];apply aA (cC [0,-1] (by simp [gM]) (by simp)) rfl;apply bP (us:=[[.int .i64 1]]) rfl;apply aA (cC [1] (by simp [gM]) (by simp)) rfl;dsimp only [aD,aC];apply bP (us:=[[sQ (ints [0,-1])],[.exact (.slice none 0 0)],[sQ (ints [1])]]) rfl;apply vn bK rfl;refine vs _ rfl ?_ ?_<;>intro h48
  ·refine QR (n:=0) (us:=[[.exact (.slice none 0 0), .bool false, .exact (.slice none 0 0)],qC 1]) (rs:=[]) (vs:=[qC 1,[.exact (.slice none 0 0), .bool false, .exact (.slice none 0 0)]]) rfl ⟨rfl,rfl⟩ (by simp) rfl (uA rfl (xD _ _ _ _ _ _)) rfl ?_;exact dA ⟨⟨aG.Sub.slice (bw6 _ _),kJ rfl,aG.Sub.same,kJ rfl,aG.Sub.slice Nc,trivial⟩,aE.Sub.same,trivial⟩
  apply vn fJ rfl;dsimp only [aD,aC];refine vs _ rfl ?_ ?_<;>intro h52
  ·exfalso;omega
  exfalso;omega
 apply vn bK rfl;refine vs _ rfl ?_ ?_<;>intro h57
 ·obtain rfl:k=4:=by omega
  apply bP (us:=[[.int .i64 0],[.int .i64 2]]) rfl;apply aA (cC [0,2] (by simp [gM]) (by simp)) rfl;dsimp only [aD,aC];apply bP (us:=[[.int .i64 1]]) rfl;apply aA (cC [1] (by simp [gM]) (by simp)) rfl;apply bP (us:=[[.exact (.slice none 0 0)],[sQ (ints [0,2])],[sQ (ints [1])]]) rfl;dsimp only [aD,aC];apply vn bK rfl;refine vs _ rfl ?_ ?_<;>intro h64
  ·exfalso;omega
  apply vn fJ rfl;refine vs _ rfl ?_ ?_<;>intro h68
  ·exfalso;omega
  exact dA ⟨⟨aG.Sub.slice (WA _ _),kJ rfl,aG.Sub.same,kJ rfl,aG.Sub.slice HA,trivial⟩,aE.Sub.same,trivial⟩
 apply vn bK rfl;dsimp only [aD,aC];refine vs _ rfl ?_ ?_<;>intro h73
 ·obtain rfl:k=5:=by omega
  apply bP (us:=[[.int .i64 1]]) rfl;apply aA (cC [1] (by simp [gM]) (by simp)) rfl;apply bP (us:=[[.int .i64 1],[.int .i64 1]]) rfl;dsimp only [aD,aC];apply aA (cC [1,1] (by simp [gM]) (by simp)) rfl;apply bP (us:=[[.exact (.slice none 0 0)],[sQ (ints [1])],[sQ (ints [1,1])]]) rfl;apply vn bK rfl;dsimp only [aD,aC];refine vs _ rfl ?_ ?_<;>intro h80
  ·exfalso;omega
  apply vn fJ rfl;refine vs _ rfl ?_ ?_<;>intro h84
  ·exfalso;omega
  exact dA ⟨⟨aG.Sub.slice (WA _ _),kJ rfl,aG.Sub.same,kJ rfl,aG.Sub.slice HA,trivial⟩,aE.Sub.same,trivial⟩
 apply vn bK rfl;refine vs _ rfl ?_ ?_<;>intro h89
 ·obtain rfl:k=6:=by omega
  apply bP (us:=[[.int .i64 0],[.int .i64 2]]) rfl;dsimp only [aD,aC];apply aA (cC [0,2] (by simp [gM]) (by simp)) rfl;apply bP (us:=[[.int .i64 1],[.int .i64 0],[.int .i64 1]]) rfl;apply aA (cC [1,0,1] (by simp [gM]) (by simp)) rfl;dsimp only [aD,aC];apply bP (us:=[[.exact (.slice none 0 0)],[sQ (ints [0,2])],[sQ (ints [1,0,1])]]) rfl;apply vn bK rfl;refine vs _ rfl ?_ ?_<;>intro h96
  ·exfalso;omega
  apply vn fJ rfl;dsimp only [aD,aC];refine vs _ rfl ?_ ?_<;>intro h100
  ·exfalso;omega
  exact dA ⟨⟨aG.Sub.slice (WA _ _),kJ rfl,aG.Sub.same,kJ rfl,aG.Sub.slice HA,trivial⟩,aE.Sub.same,trivial⟩
 apply vn bK rfl;refine vs _ rfl ?_ ?_<;>intro h105
 ·obtain rfl:k=7:=by omega
  have hnn:n*(n+1)≤40*41:=by
   have:=Int.mul_le_mul (a:=n) (b:=n+1) (c:=40) (d:=41) (by omega) (by omega) (by omega) (by omega);omega
  have hn0:0≤n*(n+1):=Int.mul_nonneg (by omega) (by omega);apply vn (aB) rfl;apply vn (tP (c:=n*(n+1)) (eE)) rfl;dsimp only [aD,aC];apply bP (us:=[[.int .i64 (n*(n+1))]]) rfl;apply aA (cC [n*(n+1)] (by simp only [gM,List.mem_singleton,forall_eq];omega) (by simp)) rfl;apply bP (us:=[[.int .i64 0],[.int .i64 (-2)]]) rfl;dsimp only [aD,aC];apply aA (cC [0,-2] (by simp [gM]) (by simp)) rfl;apply bP (us:=[[.int .i64 1],[.int .i64 0],[.int .i64 (-1)]]) rfl;apply aA (cC [1,0,-1] (by simp [gM]) (by simp)) rfl;dsimp only [aD,aC];apply bP (us:=[[sQ (ints [n*(n+1)])],[sQ (ints [0,-2])],[sQ (ints [1,0,-1])]]) rfl;apply vn bK rfl;refine vs _ rfl ?_ ?_<;>intro h116
  ·exfalso;omega
  apply vn fJ rfl;dsimp only [aD,aC];refine vs _ rfl ?_ ?_<;>intro h120
  ·refine QR (n:=0) (us:=[[.exact (.slice none 0 0), .bool false, .exact (.slice none 0 0)],qC 1]) (rs:=[]) (vs:=[qC 1,[.exact (.slice none 0 0), .bool false, .exact (.slice none 0 0)]]) rfl ⟨rfl,rfl⟩ (by simp) rfl (uA rfl (xD _ _ _ _ _ _)) rfl ?_;exact dA ⟨⟨aG.Sub.same,kJ rfl,aG.Sub.same,kJ rfl,aG.Sub.slice Nc,trivial⟩,aE.Sub.same,trivial⟩
  exfalso;omega
 apply vn bK rfl;refine vs _ rfl ?_ ?_<;>intro h125
 ·obtain rfl:k=8:=by omega
  apply vn (nE) rfl;dsimp only [aD,aC];apply bP (us:=[[.int .i64 (2*n)]]) rfl;apply aA (cC [2*n] (by simp only [gM,List.mem_singleton,forall_eq];omega) (by simp)) rfl;apply bP (us:=[[.int .i64 0],[.int .i64 (-2)]]) rfl;dsimp only [aD,aC];apply aA (cC [0,-2] (by simp [gM]) (by simp)) rfl;apply bP (us:=[[.int .i64 1]]) rfl;apply aA (cC [1] (by simp [gM]) (by simp)) rfl;dsimp only [aD,aC];apply bP (us:=[[sQ (ints [2*n])],[sQ (ints [0,-2])],[sQ (ints [1])]]) rfl;apply vn bK rfl;refine vs _ rfl ?_ ?_<;>intro h135
  ·exfalso;omega
  apply vn fJ rfl;dsimp only [aD,aC];refine vs _ rfl ?_ ?_<;>intro h139
  ·refine QR (n:=0) (us:=[[.exact (.slice none 0 0), .bool false, .exact (.slice none 0 0)],qC 1]) (rs:=[]) (vs:=[qC 1,[.exact (.slice none 0 0), .bool false, .exact (.slice none 0 0)]]) rfl ⟨rfl,rfl⟩ (by simp) rfl (uA rfl (xD _ _ _ _ _ _)) rfl ?_;exact dA ⟨⟨aG.Sub.same,kJ rfl,aG.Sub.same,kJ rfl,aG.Sub.slice Nc,trivial⟩,aE.Sub.same,trivial⟩
  exfalso;omega
 apply vn bK rfl;refine vs _ rfl ?_ ?_<;>intro h144
 ·exfalso;omega
 apply vn fJ rfl;dsimp only [aD,aC];refine vs _ rfl ?_ ?_<;>intro h148
 ·exfalso;omega
 exfalso;omega
open Go Go.Proofs Tryz Ord
def aU0:Tr:=eN 0 5 2 0 27 12 13 (dR 5 0 (some 3) 26 14 (aJ 39 [(G3 6)] [none] [15] [26] 4 true (.need (.prim [(W 7 0)] none) (.unOp .not 4 (tT 16)) 4 false (.split (.u 8 0) BH (aW .add 3 9 1 2 0 3 (.back 0 [lV 1 0,lV 9 0]))))))
def aW3:Tr:=.split (.u 4 0) aU0 (aJ 55 [(G2 0)] [none] [19] [24] 4 false (.split (.u 5 0) (aJ 39 [(.agg [(U 0 2),(U 0 3),(U 0 4)])] [none] [23] [26] 4 false (.split (.u 6 0) (cU 0 5 28 27 (aW .leq 3 29 6 7 0 4 ar8)) BH)) BH))
def aJ0:Tr:=.loop 0 [(.w (.one (.c (.k (.bool false))))),lK 0] (cU 0 5 6 27 (bO .lss 3 4 7 2 0 3 0 4 aW3))
theorem SZ:aL prog f15 (fun _=>none) [.v (some 8)]=aJ0:=by kernel_rfl
def kER (k:Nat) (n:Int):List (List RQ):=
 match k with
 | 1=>[dP [-1],dP [1]]
 | 2=>[dP [1],[],dP [1]]
 | 3=>[dP [0,-1],[],dP [1]]
 | 4=>[[],dP [0,2],dP [1]]
 | 5=>[[],dP [1],dP [1,1]]
 | 6=>[[],dP [0,2],dP [1,0,1]]
 | 7=>[dP [n*(n+1)],dP [0,-2],dP [1,0,-1]]
 | _=>[dP [2*n],dP [0,-2],dP [1]]
def kYR (k:Nat):List RQ:=
 match k with
 | 1=>[.of 1]
 | 3=>[.of 1, .nil]
 | 7=>[.of 1, .nil]
 | 8=>[.of 1, .nil]
 | _=>[.nil, .of 1]
theorem bq7 {k:Nat} (h1:1≤k) (h2:k≤8) (n:Int):fP (kER k n)=kE k n:=by
 rcases (by omega:k=1∨k=2∨k=3∨k=4∨k=5∨k=6∨k=7∨k=8) with rfl | rfl | rfl | rfl | rfl | rfl | rfl | rfl<;>simp only [fP,kER,kE,List.map_cons,List.map_nil,YB]
theorem bo4 {k:Nat} (h1:1≤k) (h2:k≤8):(kYR k).map RQ.q=kY k:=by
 rcases (by omega:k=1∨k=2∨k=3∨k=4∨k=5∨k=6∨k=7∨k=8) with rfl | rfl | rfl | rfl | rfl | rfl | rfl | rfl<;>rfl
abbrev fR (e:List (List RQ)) (c:RQ) (y:List RQ):aE:=.agg [eR e, .int .i64 c.q.num.sign,bT c.q.num.natAbs, .int .i64 (if c.z then 0 else 1),bT (if c.z then 0 else c.q.den),sR y]
theorem Hv:aY (aY aG.Sub) [[.int .i64 0, .exact (.slice none 0 0), .int .i64 0, .exact (.slice none 0 0)],rC (.of 1)] [rC .nil,rC (.of 1)]:=⟨eI,⟨aG.Sub.same,aG.Sub.same,aG.Sub.same,aG.Sub.same,trivial⟩,trivial⟩
theorem Nw:aY (aY aG.Sub) [rC (.of 1),[.int .i64 0, .exact (.slice none 0 0), .int .i64 0, .exact (.slice none 0 0)]] [rC (.of 1),rC .nil]:=⟨⟨aG.Sub.same,aG.Sub.same,aG.Sub.same,aG.Sub.same,trivial⟩,eI,trivial⟩
theorem aw1 (p q:List RQ):aY (aY aG.Sub) [[sR p],[.exact (.slice none 0 0)],[sR q]] [cR p,cR [],cR q]:=⟨⟨aG.Sub.same,trivial⟩,⟨aG.Sub.nil,trivial⟩,⟨aG.Sub.same,trivial⟩,trivial⟩
theorem Mt (p q:List RQ):aY (aY aG.Sub) [[.exact (.slice none 0 0)],[sR p],[sR q]] [cR [],cR p,cR q]:=⟨⟨aG.Sub.nil,trivial⟩,⟨aG.Sub.same,trivial⟩,⟨aG.Sub.same,trivial⟩,trivial⟩
set_option maxHeartbeats 2000000 in
theorem TI (k:Nat) (n:Int) (hk1:1≤k) (hk:k≤8) (h1:0≤n:=by omega) (h2:n≤40:=by omega):aM prog 25 [(.one (.int .u8 k):aE),(.one (.int .i64 n):aE)] (.ret [fR (kER k n) .nil (kYR k)]):=by
 refine bZ func25 UU ?_;apply aA (gN 1) rfl;apply vn bK rfl;refine vs _ rfl ?_ ?_<;>intro h2
 ·obtain rfl:k=1:=by omega
  apply bP (us:=[[.int .i64 (-1)]]) rfl;dsimp only [aD,aC];apply aA (cD [-1] (by simp [gM]) (by simp)) rfl;apply bP (us:=[[.int .i64 1]]) rfl;apply aA (cD [1] (by simp [gM]) (by simp)) rfl;dsimp only [aD,aC];apply bP (us:=[[sR (dP [-1])],[sR (dP [1])]]) rfl;apply bP (us:=[rC (.of 1)]) rfl;exact dA ⟨⟨aG.Sub.same,aG.Sub.same,rJ rfl,aG.Sub.same,rJ rfl,aG.Sub.same,trivial⟩,trivial⟩
 apply vn bK rfl;dsimp only [aD,aC];refine vs _ rfl ?_ ?_<;>intro h11
 ·obtain rfl:k=2:=by omega
  apply bP (us:=[[.int .i64 1]]) rfl;apply aA (cD [1] (by simp [gM]) (by simp)) rfl;apply bP (us:=[[.int .i64 1]]) rfl;dsimp only [aD,aC];apply aA (cD [1] (by simp [gM]) (by simp)) rfl;apply bP (us:=[[sR (dP [1])],[.exact (.slice none 0 0)],[sR (dP [1])]]) rfl;apply bP (us:=[[.int .i64 0, .exact (.slice none 0 0), .int .i64 0, .exact (.slice none 0 0)],rC (.of 1)]) rfl;exact dA ⟨⟨aG.Sub.slice (aw1 _ _),aG.Sub.same,rJ rfl,aG.Sub.same,rJ rfl,aG.Sub.slice Hv,trivial⟩,trivial⟩
 apply vn bK rfl;dsimp only [aD,aC];refine vs _ rfl ?_ ?_<;>intro h20
 ·obtain rfl:k=3:=by omega
  apply bP (us:=[[.int .i64 0],[.int .i64 (-1)]]) rfl;apply aA (cD [0,-1] (by simp [gM]) (by simp)) rfl;apply bP (us:=[[.int .i64 1]]) rfl;dsimp only [aD,aC];apply aA (cD [1] (by simp [gM]) (by simp)) rfl;apply bP (us:=[[sR (dP [0,-1])],[.exact (.slice none 0 0)],[sR (dP [1])]]) rfl;apply bP (us:=[rC (.of 1),[.int .i64 0, .exact (.slice none 0 0), .int .i64 0, .exact (.slice none 0 0)]]) rfl;exact dA ⟨⟨aG.Sub.slice (aw1 _ _),aG.Sub.same,rJ rfl,aG.Sub.same,rJ rfl,aG.Sub.slice Nw,trivial⟩,trivial⟩
 apply vn bK rfl;dsimp only [aD,aC];refine vs _ rfl ?_ ?_<;>intro h29
 ·obtain rfl:k=4:=by omega
  apply bP (us:=[[.int .i64 0],[.int .i64 2]]) rfl;apply aA (cD [0,2] (by simp [gM]) (by simp)) rfl;apply bP (us:=[[.int .i64 1]]) rfl;dsimp only [aD,aC];apply aA (cD [1] (by simp [gM]) (by simp)) rfl;apply bP (us:=[[.exact (.slice none 0 0)],[sR (dP [0,2])],[sR (dP [1])]]) rfl;apply bP (us:=[[.int .i64 0, .exact (.slice none 0 0), .int .i64 0, .exact (.slice none 0 0)],rC (.of 1)]) rfl;exact dA ⟨⟨aG.Sub.slice (Mt _ _),aG.Sub.same,rJ rfl,aG.Sub.same,rJ rfl,aG.Sub.slice Hv,trivial⟩,trivial⟩
 apply vn bK rfl;dsimp only [aD,aC];refine vs _ rfl ?_ ?_<;>intro h38
 ·obtain rfl:k=5:=by omega
  apply bP (us:=[[.int .i64 1]]) rfl;apply aA (cD [1] (by simp [gM]) (by simp)) rfl;apply bP (us:=[[.int .i64 1],[.int .i64 1]]) rfl;dsimp only [aD,aC];apply aA (cD [1,1] (by simp [gM]) (by simp)) rfl;apply bP (us:=[[.exact (.slice none 0 0)],[sR (dP [1])],[sR (dP [1,1])]]) rfl;apply bP (us:=[[.int .i64 0, .exact (.slice none 0 0), .int .i64 0, .exact (.slice none 0 0)],rC (.of 1)]) rfl;exact dA ⟨⟨aG.Sub.slice (Mt _ _),aG.Sub.same,rJ rfl,aG.Sub.same,rJ rfl,aG.Sub.slice Hv,trivial⟩,trivial⟩
 apply vn bK rfl;dsimp only [aD,aC];refine vs _ rfl ?_ ?_<;>intro h47
 ·obtain rfl:k=6:=by omega
  apply bP (us:=[[.int .i64 0],[.int .i64 2]]) rfl;apply aA (cD [0,2] (by simp [gM]) (by simp)) rfl;apply bP (us:=[[.int .i64 1],[.int .i64 0],[.int .i64 1]]) rfl;dsimp only [aD,aC];apply aA (cD [1,0,1] (by simp [gM]) (by simp)) rfl;apply bP (us:=[[.exact (.slice none 0 0)],[sR (dP [0,2])],[sR (dP [1,0,1])]]) rfl;apply bP (us:=[[.int .i64 0, .exact (.slice none 0 0), .int .i64 0, .exact (.slice none 0 0)],rC (.of 1)]) rfl;exact dA ⟨⟨aG.Sub.slice (Mt _ _),aG.Sub.same,rJ rfl,aG.Sub.same,rJ rfl,aG.Sub.slice Hv,trivial⟩,trivial⟩
 apply vn bK rfl;dsimp only [aD,aC];refine vs _ rfl ?_ ?_<;>intro h56
 ·obtain rfl:k=7:=by omega
  have hnn:n*(n+1)≤40*41:=by
   have:=Int.mul_le_mul (a:=n) (b:=n+1) (c:=40) (d:=41) (by omega) (by omega) (by omega) (by omega);omega
  have hn0:0≤n*(n+1):=Int.mul_nonneg (by omega) (by omega);apply vn (aB) rfl;apply vn (tP (c:=n*(n+1)) (eE)) rfl;apply bP (us:=[[.int .i64 (n*(n+1))]]) rfl;dsimp only [aD,aC];apply aA (cD [n*(n+1)] (by simp only [gM,List.mem_singleton,forall_eq];omega) (by simp)) rfl;apply bP (us:=[[.int .i64 0],[.int .i64 (-2)]]) rfl;apply aA (cD [0,-2] (by simp [gM]) (by simp)) rfl;dsimp only [aD,aC];apply bP (us:=[[.int .i64 1],[.int .i64 0],[.int .i64 (-1)]]) rfl;apply aA (cD [1,0,-1] (by simp [gM]) (by simp)) rfl;apply bP (us:=[[sR (dP [n*(n+1)])],[sR (dP [0,-2])],[sR (dP [1,0,-1])]]) rfl;dsimp only [aD,aC];apply bP (us:=[rC (.of 1),[.int .i64 0, .exact (.slice none 0 0), .int .i64 0, .exact (.slice none 0 0)]]) rfl;exact dA ⟨⟨aG.Sub.same,aG.Sub.same,rJ rfl,aG.Sub.same,rJ rfl,aG.Sub.slice Nw,trivial⟩,trivial⟩
 obtain rfl:k=8:=by omega
 apply vn (nE) rfl;apply bP (us:=[[.int .i64 (2*n)]]) rfl;dsimp only [aD,aC];apply aA (cD [2*n] (by simp only [gM,List.mem_singleton,forall_eq];omega) (by simp)) rfl;apply bP (us:=[[.int .i64 0],[.int .i64 (-2)]]) rfl;apply aA (cD [0,-2] (by simp [gM]) (by simp)) rfl;dsimp only [aD,aC];apply bP (us:=[[.int .i64 1]]) rfl;apply aA (cD [1] (by simp [gM]) (by simp)) rfl;apply bP (us:=[[sR (dP [2*n])],[sR (dP [0,-2])],[sR (dP [1])]]) rfl;dsimp only [aD,aC];apply bP (us:=[rC (.of 1),[.int .i64 0, .exact (.slice none 0 0), .int .i64 0, .exact (.slice none 0 0)]]) rfl;exact dA ⟨⟨aG.Sub.same,aG.Sub.same,rJ rfl,aG.Sub.same,rJ rfl,aG.Sub.slice Nw,trivial⟩,trivial⟩
abbrev sP (p:List (List bX)):aG:=.slice 1 (p.map fun l=>[sN l])
def kB (p:List (List bX)):Bool:=decide (p.length≤6∧∀ l∈p,l.length≤4∧∀ x∈l,x.BX=true)
structure InP (p:List (List bX)):Prop where
 l:p.length<140737488355328
 p:∀ l∈p,l.length<140737488355328∧∀ x∈l,x.In
set_option maxHeartbeats 1000000 in
theorem IA (p:List (List bX)) (long:Int) (hp:InP p):aM prog 55 [(.agg [sP p, .int .i64 long]:aE)] (.ret [.one (.bool (kB p))]):=by
 refine bZ func55 Hs ?_;have hpl:=hp.l;refine bB {i:Nat // i≤p.length∧∀ j l,j<i→p[j]? = some l→l.length≤4∧∀ x∈l,x.BX=true} (fun g=>[.one (.bool false), .one (.int .i64 g.1)]) (fun g=>p.length-g.1) ⟨0,bV _,fun j l h=>by omega⟩ aN.rfl (fun _=>rfl) ?_;rintro ⟨i,hi,hok⟩;dsimp only [aD,aC] at hi hok ⊢;apply vn (aU MZ (aP _)) rfl;apply vn aZ rfl;refine vs _ rfl ?_ ?_<;>intro h3
 ·obtain ⟨l,hl⟩:∃ l,p[i]? = some l:=⟨_,bI (by omega)⟩
  obtain ⟨hll,hlx⟩:=hp.p l (cI hl)
  have hbad:∀ x∈l,x.BX=false→kB p=false:=fun x hx h=>by
   unfold kB;rw [decide_eq_false_iff_not];rintro ⟨_,h2⟩;rw [(h2 l (cI hl)).2 x hx] at h;cases h
  apply vn (aV MZ hl) rfl;dsimp only [aD,aC];apply vn (bG aq7) rfl;apply vn (aU Ls (aP _)) rfl;apply vn dH rfl;dsimp only [aD,aC];refine vs _ rfl ?_ ?_<;>intro h8
  ·rw [show kB p=false by
    unfold kB;rw [decide_eq_false_iff_not];rintro ⟨_,h2⟩;have:=(h2 l (cI hl)).1;omega];exact aK rfl
  refine bB {k:Nat // k≤l.length∧∀ j x,j<k→l[j]? = some x→x.BX=true} (fun g=>[.one (.bool false), .one (.int .i64 g.1)]) (fun g=>l.length-g.1) ⟨0,bV _,fun j x h=>by omega⟩ aN.rfl (fun _=>rfl) ?_;rintro ⟨k,hk,hkok⟩;dsimp only [aD,aC] at hk hkok ⊢;apply vn (aV MZ hl) rfl;apply vn (bG aq7) rfl;apply vn (aU Ls (aP _)) rfl;dsimp only [aD,aC];apply vn aZ rfl;refine vs _ rfl ?_ ?_<;>intro h15
  ·apply vn (aV MZ hl) rfl;apply vn (bG aq7) rfl;dsimp only [aD,aC];obtain ⟨x,hx⟩:∃ x,l[k]? = some x:=⟨_,bI (by omega)⟩
   have hxl:=cI hx;have hxi:=hlx x hxl;apply vn (aV Ls hx) rfl;apply vn (bJ bd6 (by decide) (by simp) (.inl rfl)) rfl;apply vn (eP) rfl;dsimp only [aD,aC];apply vn gD rfl;refine vs _ rfl ?_ ?_<;>intro h22
   ·rw [hbad x hxl (by unfold bX.BX;rw [decide_eq_false_iff_not];omega)];exact aK rfl
   apply vn dH rfl;refine vs _ rfl ?_ ?_<;>intro h25
   ·rw [hbad x hxl (by unfold bX.BX;rw [decide_eq_false_iff_not];omega)];exact aK rfl
   apply vn aZ rfl;dsimp only [aD,aC];refine vs _ rfl ?_ ?_<;>intro h28
   ·rw [hbad x hxl (by unfold bX.BX;rw [decide_eq_false_iff_not];omega)];exact aK rfl
   apply vn dH rfl;refine vs _ rfl ?_ ?_<;>intro h31
   ·rw [hbad x hxl (by unfold bX.BX;rw [decide_eq_false_iff_not];omega)];exact aK rfl
   apply vn aZ rfl;refine vs _ rfl ?_ ?_<;>intro h34
   ·rw [hbad x hxl (by unfold bX.BX;rw [decide_eq_false_iff_not];omega)];exact aK rfl
   apply vn (aB) rfl
   exact aR rfl ⟨⟨k+1,by omega,fun j x' hj hx'=>by
    rcases Nat.lt_or_ge j k with h | h
    ·exact hkok j x' h hx'
    ·rw [show j=k by omega,hx] at hx';simp only [aO] at hx';subst hx';unfold bX.BX;rw [decide_eq_true_iff];omega⟩,aN.rfl,by show l.length-(k+1)<l.length-k;omega⟩
  apply vn (aB) rfl
  exact aR rfl ⟨⟨i+1,by omega,fun j l' hj hl'=>by
   rcases Nat.lt_or_ge j i with h | h
   ·exact hok j l' h hl'
   ·rw [show j=i by omega,hl] at hl';simp only [aO] at hl';subst hl';refine ⟨by omega,fun x hx=>?_⟩;obtain ⟨m,hm⟩:=List.getElem?_of_mem hx;exact hkok m x (by have:=(eF.1 hm).1;omega) hm⟩,aN.rfl,by show p.length-(i+1)<p.length-i;omega⟩
 apply vn (aU MZ (aP _)) rfl;dsimp only [aD,aC];apply vn eW rfl;dsimp only [aD,aC]
 rw [show kB p=decide ((p.length:Int)≤6) by
  unfold kB;rw [decide_eq_decide]
  constructor
  ·rintro ⟨h,_⟩;omega
  ·intro h;refine ⟨by omega,fun l hl=>?_⟩;obtain ⟨m,hm⟩:=List.getElem?_of_mem hl;exact hok m l (by have:=(eF.1 hm).1;omega) hm];exact aK rfl
structure bQ where
 p:List (List bX)
 long:Int
 c:bX
 y:List bX
 kind:Nat
 n:Int
abbrev caT (c:bQ):aE:=.agg [sP c.p, .int .i64 c.long, .int .i64 c.c.n, .int .i64 c.c.d, .int .u8 c.c.pow,sN c.y, .int .u8 c.kind, .int .i64 c.n]
structure bQ.In (c:bQ):Prop where
 hp:InP c.p
 hl1:-9223372036854775808≤c.long
 hl2:c.long<9223372036854775808
 hc:c.c.In
 hyl:c.y.length<140737488355328
 hy:∀ x∈c.y,x.In
 hk:c.kind<256
 hn1:-9223372036854775808≤c.n
 hn2:c.n<9223372036854775808
def bQ.small (c:bQ):Bool:=decide ((∀ x∈c.y,x.short=true)∧kB c.p=true∧c.c.short=true∧c.y.length≤6)
theorem Xm (c:bQ) (h:c.In):aM prog 15 [(caT c:aE)] (.ret [.one (.bool c.small)]):=by
 refine bZ func15 SZ ?_;have hyl:=h.hyl;refine bB {i:Nat // i≤c.y.length∧∀ j x,j<i→c.y[j]? = some x→x.short=true} (fun g=>[.one (.bool false), .one (.int .i64 g.1)]) (fun g=>c.y.length-g.1) ⟨0,bV _,fun j x h=>by omega⟩ aN.rfl (fun _=>rfl) ?_;rintro ⟨i,hi,hok⟩;dsimp only [aD,aC] at hi hok ⊢;apply vn (aU Ls (aP _)) rfl;apply vn aZ rfl;refine vs _ rfl ?_ ?_<;>intro h3
 ·obtain ⟨x,hx⟩:∃ x,c.y[i]? = some x:=⟨_,bI (by omega)⟩
  apply vn (aV Ls hx) rfl;dsimp only [aD,aC];apply vn (bJ bd6 (by decide) (by simp) (.inl rfl)) rfl;apply aA (zU x (h.hy x (cI hx))) rfl;apply vn kW rfl;dsimp only [aD,aC];refine mH (!x.short) rfl (fun h8=>?_) (fun h8=>?_)
  ·rw [show c.small=false by
    unfold bQ.small;rw [decide_eq_false_iff_not];rintro ⟨h2,_⟩;rw [h2 x (cI hx)] at h8;cases h8];exact aK rfl
  apply vn (aB) rfl
  exact aR rfl ⟨⟨i+1,by omega,fun j x' hj hx'=>by
   rcases Nat.lt_or_ge j i with h | h
   ·exact hok j x' h hx'
   ·rw [show j=i by omega,hx] at hx';simp only [aO] at hx';subst hx'
    simpa using h8⟩,aN.rfl,by show c.y.length-(i+1)<c.y.length-i;omega⟩
 have hall:∀ x∈c.y,x.short=true:=fun x hx=>by
  obtain ⟨m,hm⟩:=List.getElem?_of_mem hx;exact hok m x (by have:=(eF.1 hm).1;omega) hm
 apply aA (IA c.p c.long h.hp) rfl;refine mH (kB c.p) rfl (fun h13=>?_) (fun h13=>?_)
 ·apply aA (zU c.c h.hc) rfl;dsimp only [aD,aC];refine mH c.c.short rfl (fun h15=>?_) (fun h15=>?_)
  ·apply vn (aU Ls (aP _)) rfl;apply vn eW rfl;dsimp only [aD,aC]
   rw [show c.small=decide ((c.y.length:Int)≤6) by
    unfold bQ.small;rw [decide_eq_decide];exact ⟨fun h=>by have:=h.2.2.2;omega,fun h=>⟨hall,h13,h15,by omega⟩⟩];exact aK rfl
  rw [show c.small=false by unfold bQ.small;rw [decide_eq_false_iff_not,h15];simp];exact aK rfl
 rw [show c.small=false by unfold bQ.small;rw [decide_eq_false_iff_not,h13];simp];exact aK rfl
open Go Go.Proofs Tryz Ord
def aR7:Tr:=.need (.lit 1 [[(.u 8 0)]]) (.buildSlice 32 1 #[(0,(tT 29))]) 32 false (.need (.app 1 24 (some 2) none (some 10)) (.call ⟨.builtin .append,#[(tT 28),(tT 30)],#[32,32]⟩) 32 false (aJ 144 [(W 9 0)] [none] [33] [167] 167 false (.need (.lit 1 [[(.u 12 0)]]) (.buildSlice 44 1 #[(0,(tT 34))]) 44 false (.need (.app 1 24 (some 3) none (some 13)) (.call ⟨.builtin .append,#[(tT 32),(tT 35)],#[44,44]⟩) 44 false (aW .add 3 17 1 1 0 3 (.back 0 [lV 15 0, .row 11, .row 14]))))))
def ah6:Tr:=.need (.idx 10 (.u 12 0)) (.indexAddr 50 (tT 51) (tT 53)) 0 false (.need (.strow 10 4 (.u 12 0) 0 [(.u 14 0),(.u 14 1),(.u 14 2),(.u 14 3)]) (.store 49 (tT 57) (tT 55)) 0 false (.need (.lit 1 [[(.sr 3 15)]]) (.buildSlice 32 1 #[(0,(tT 59))]) 32 false (.need (.app 1 24 (some 2) none (some 17)) (.call ⟨.builtin .append,#[(tT 58),(tT 60)],#[32,32]⟩) 32 false (.need (.lit 1 [[(.sr 4 16)]]) (.buildSlice 44 1 #[(0,(tT 63))]) 44 false (.need (.app 1 24 (some 3) none (some 19)) (.call ⟨.builtin .append,#[(tT 62),(tT 64)],#[44,44]⟩) 44 false (.ret [(.one (.c (.sr 1 18))),(.one (.c (.sr 1 20)))]))))))
def ai9:Tr:=.need (.make [(.int .i64 0),(.slice none 0 0),(.int .i64 0),(.slice none 0 0)] 64 (.u 8 0) (.u 8 0)) (.makeSlice 50 (tT 46) (tT 46)) 50 false (aW .sub 3 49 1 8 0 3 (aW .sub 3 52 1 8 0 3 (.need (.call 68 [(WK 1)] [(some 3)]) (.call ⟨.value (.func 68),#[(.const (I3 1))],#[2]⟩) 39 true (.need (.call 50 [(WK 1)] [(some 4)]) (.call ⟨.value (.func 50),#[(.const (I3 1))],#[2]⟩) 49 true (.need (.idx 9 (.u 11 0)) (.indexAddr 40 (tT 48) (tT 50)) 0 false (.need (.strow 9 3 (.u 11 0) 0 [(.u 13 0),(.u 13 1),(.u 13 2)]) (.store 39 (tT 56) (tT 54)) 0 false ah6))))))
def aN6:Tr:=bO .lss 3 12 15 1 0 4 0 4 (.split (.u 5 0) (eN 0 0 1 0 22 21 22 (dR 6 0 none 27 23 (aJ 71 [(W 7 0)] [none,none] [24] [27] 128 false aR7))) (aW .gtr 3 38 0 0 1 4 (.split (.u 6 0) (aW .rem 3 41 50 0 1 3 (aW .add 3 42 1 7 0 3 (.need (.make [(.slice none 0 0),(.bool false),(.slice none 0 0)] 56 (.u 8 0) (.u 8 0)) (.makeSlice 40 (tT 44) (tT 44)) 40 false ai9))) (.ret [(.one (.c (.sr 1 2))),(.one (.c (.sr 1 3)))]))))
def aU9:Tr:=.loop 0 [lK 0, .nilrow, .nilrow] (cU 0 0 14 22 aN6)
theorem Kt:aL prog f57 (fun _=>none) [.v (some 2)]=aU9:=by kernel_rfl
def Pv:Tr:=.ret [(G5 7),(G6 9)]
def Yd:Tr:=aW .gtr 3 22 8 0 7 4 (.split (.u 3 0) (.need (.prim [(W 0 6),(.one (.c (.k (.int .u8 1))))] none) (.binOp .sub 5 (tT 26) (.const (.int .u8 1)) 5) 5 false (.need (.prim [(W 4 0),(.one (.c (.k (.int .u8 8))))] none) (.binOp .rem 5 (tT 27) (.const (.int .u8 8)) 5) 5 false (.need (.prim [(W 5 0),(.one (.c (.k (.int .u8 1))))] none) (.binOp .add 5 (tT 28) (.const (.int .u8 1)) 5) 5 false (aJ 18 [(W 6 0),(WK 2)] [(some 5),none] [31,32] [5,3] 56 false (aJ 25 [(W 6 0),(WK 2)] [(some 6)] [37,38] [5,3] 52 true Pv))))) (.need (.prim [(W 0 6),(.one (.c (.k (.int .u8 1))))] none) (.binOp .sub 5 (tT 26) (.const (.int .u8 1)) 5) 5 false (.need (.prim [(W 4 0),(.one (.c (.k (.int .u8 8))))] none) (.binOp .rem 5 (tT 27) (.const (.int .u8 8)) 5) 5 false (.need (.prim [(W 5 0),(.one (.c (.k (.int .u8 1))))] none) (.binOp .add 5 (tT 28) (.const (.int .u8 1)) 5) 5 false (aJ 18 [(W 6 0),(W 0 7)] [(some 5),none] [31,32] [5,3] 56 false (aJ 25 [(W 6 0),(W 0 7)] [(some 6)] [37,38] [5,3] 52 true Pv))))))
def aK0:Tr:=.split (.u 2 0) (.need (.prim [(W 0 6),(.one (.c (.k (.int .u8 1))))] none) (.binOp .sub 5 (tT 26) (.const (.int .u8 1)) 5) 5 false (.need (.prim [(W 3 0),(.one (.c (.k (.int .u8 8))))] none) (.binOp .rem 5 (tT 27) (.const (.int .u8 8)) 5) 5 false (.need (.prim [(W 4 0),(.one (.c (.k (.int .u8 1))))] none) (.binOp .add 5 (tT 28) (.const (.int .u8 1)) 5) 5 false (aJ 18 [(W 5 0),(WK 2)] [(some 5),none] [31,32] [5,3] 56 false (aJ 25 [(W 5 0),(WK 2)] [(some 6)] [37,38] [5,3] 52 true (.ret [(G5 6),(G6 8)])))))) Yd
def ba9:Tr:=.need (.prim [(W 0 6),(.one (.c (.k (.int .u8 0))))] none) (.binOp .gtr 5 (tT 15) (.const (.int .u8 0)) 5) 4 false (.split (.u 1 0) (aW .lss 3 19 0 0 7 4 aK0) (aJ 57 [(G2 0)] [none,none] [42] [24] 107 false (aJ 40 [(.agg [(U 0 2),(U 0 3),(U 0 4)])] [(some 3),(some 4)] [48] [26] 82 false (aJ 71 [(W 0 5)] [none,none] [54] [27] 128 false (.ret [(.agg [(U 2 0),(U 4 0),(U 4 1),(U 4 2),(U 6 0)]),(.agg [(U 3 0),(U 5 0),(U 5 1),(U 5 2),(U 5 3),(U 7 0)])])))))
theorem an7:aL prog f17 (fun _=>none) [.v (some 8)]=ba9:=by kernel_rfl
def mK (n:Nat):List Rat:=(List.replicate n (0:Rat)).set (n-1) 1
def Ju (n:Nat):List RQ:=(List.replicate n RQ.nil).set (n-1) (.of 1)
def Fy (p:List (List bX)) (long:Int):List (List Rat):=p.map cZ++if 0<long then [mK (long%50+1).toNat] else []
def XD (p:List (List bX)) (long:Int):List (List RQ):=p.map (fun l=>fB (rZ l))++if 0<long then [Ju (long%50+1).toNat] else []
theorem rW {α β:Type} {R:α→β→Prop} {a:α} {b:β} (h:R a b):∀ n,aY R (List.replicate n a) (List.replicate n b)
 | 0=>trivial
 | n+1=>⟨h,rW h n⟩
theorem uP {α β:Type} {R:α→β→Prop} {a:α} {b:β} (h:R a b):∀ {xs:List α} {ys:List β} (m:Nat),aY R xs ys→aY R (xs.set m a) (ys.set m b)
 | [],[],_,_=>trivial
 | _::_,_::_,0,⟨_,k⟩=>⟨h,k⟩
 | _::_,_::_,m+1,⟨j,k⟩=>⟨j,uP h m k⟩
 | [],_::_,_,k=>k.elim
 | _::_,[],_,k=>k.elim
abbrev z3:List aG:=[.exact (.slice none 0 0), .bool false, .exact (.slice none 0 0)]
abbrev z4:List aG:=[.int .i64 0, .exact (.slice none 0 0), .int .i64 0, .exact (.slice none 0 0)]
theorem YA (n:Nat):aY (aY aG.Sub) ((List.replicate n z3).set (n-1) (qC 1)) ((mK n).map qC):=by
 rw [mK,List.map_set,List.map_replicate];exact uP ⟨aG.Sub.same,aG.Sub.same,aG.Sub.same,trivial⟩ _ (rW eV n)
theorem UC (n:Nat):aY (aY aG.Sub) ((List.replicate n z4).set (n-1) (rC (.of 1))) ((Ju n).map rC):=by
 rw [Ju,List.map_set,List.map_replicate];exact uP ⟨aG.Sub.same,aG.Sub.same,aG.Sub.same,aG.Sub.same,trivial⟩ _ (rW eI n)
theorem EI {α:Type} {l:List α} {i:Nat} {x:α} (h:l[i]? = some x):l.take i ++ [x]=l.take (i+1):=by
 rw [List.take_add_one,h];rfl
theorem uG (l:List bX):(cZ l).length=l.length:=aP _
theorem It (l:List bX):(rZ l).length=l.length:=aP _
set_option maxHeartbeats 1000000 in
theorem Kc (p:List (List bX)) (long:Int) (hp:InP p) (hs:kB p=true) (hl1:-9223372036854775808≤long) (hl2:long<9223372036854775808):aM prog 57 [(.agg [sP p, .int .i64 long]:aE)] (.ret [.one (eQ (Fy p long)), .one (eR (XD p long))]):=by
 refine bZ func57 Kt ?_;have hs:=hs;unfold kB at hs;rw [decide_eq_true_iff] at hs;obtain ⟨hp6,hpx⟩:=hs;refine bB {i:Nat // i≤p.length} (fun g=>[.one (.int .i64 g.1), .rows ((p.take g.1).map fun l=>cQ (cZ l)), .rows ((p.take g.1).map fun l=>cR (fB (rZ l)))]) (fun g=>p.length-g.1) ⟨0,bV _⟩ aN.rfl (fun _=>rfl) ?_;rintro ⟨i,hi⟩;dsimp only [aD,aC] at hi ⊢;apply vn (aU MZ (aP _)) rfl;apply vn aZ rfl;refine vs _ rfl ?_ ?_<;>intro h3
 ·obtain ⟨l,hl⟩:∃ l,p[i]? = some l:=⟨_,bI (by omega)⟩
  have hlm:=cI hl;have hl4:=(hpx l hlm).1;have hti:(p.take i).length≤i:=by rw [List.length_take];omega
  apply vn (aV MZ hl) rfl;dsimp only [aD,aC];apply vn (bG aq7) rfl;apply aA (NK l (fun x hx=>(hp.p l hlm).2 x hx)) rfl;apply bP (us:=[cQ (cZ l)]) rfl;dsimp only [aD,aC];refine kK (xs:=p.take i) (x:=l) (f:=fun l=>cQ (cZ l)) rfl rfl (by omega) (by simp only [maxLen];omega) ?_;rw [EI hl];apply aA (vL (rZ l) (by rw [It];omega)) rfl;apply bP (us:=[cR (fB (rZ l))]) rfl;dsimp only [aD,aC];refine kK (xs:=p.take i) (x:=l) (f:=fun l=>cR (fB (rZ l))) rfl rfl (by omega) (by simp only [maxLen];omega) ?_;rw [EI hl];apply vn (aB) rfl;dsimp only [aD,aC];exact aR rfl ⟨⟨i+1,by omega⟩,aN.rfl,by show p.length-(i+1)<p.length-i;omega⟩
 rw [show i=p.length by omega,List.take_length];apply vn dH rfl;refine vs _ rfl ?_ ?_<;>intro h15
 ·obtain ⟨n,hn⟩:∃ n:Nat,(long%50+1).toNat=n:=⟨_,rfl⟩
  have hn1:long%50+1=(n:Int):=by omega
  have hn2:n≤50:=by omega
  have hn3:1≤n:=by omega
  apply vn (eP) rfl;apply vn (eH (c:=(n:Int)) (by rw [hn1];exact eE)) rfl;dsimp only [aD,aC];refine tQ (n:=n) (m:=n) (us:=List.replicate n z3) rfl rfl rfl (bC _) (by omega) (by simp only [maxLen];omega) ?_;refine tQ (n:=n) (m:=n) (us:=List.replicate n z4) rfl rfl rfl (bC _) (by omega) (by simp only [maxLen];omega) ?_;apply vn (aH) rfl;dsimp only [aD,aC];apply vn (aH) rfl;apply aA (nQ 1) rfl;apply aA (gN 1) rfl;dsimp only [aD,aC];refine kR rfl rfl (by omega) (by rw [List.length_replicate];omega) ?_;refine EX (ts:=List.replicate n z3) (us:=(List.replicate n z3).set (n-1) (qC 1)) rfl rfl (by omega) (cells:=z3) (by rw [show ((n:Int)-1).toNat=n-1 by omega,List.getElem?_replicate,if_pos (by omega)]) (by rw [show ((n:Int)-1).toNat=n-1 by omega];rfl) ?_;refine kR rfl rfl (by omega) (by rw [List.length_replicate];omega) ?_;refine EX (ts:=List.replicate n z4) (us:=(List.replicate n z4).set (n-1) (rC (.of 1))) rfl rfl (by omega) (cells:=z4) (by rw [show ((n:Int)-1).toNat=n-1 by omega,List.getElem?_replicate,if_pos (by omega)]) (by rw [show ((n:Int)-1).toNat=n-1 by omega];rfl) ?_;apply bP (us:=[[.slice 3 ((List.replicate n z3).set (n-1) (qC 1))]]) rfl;dsimp only [aD,aC];refine qQ (ts:=p.map fun l=>cQ (cZ l)) (us:=[[.slice 3 ((List.replicate n z3).set (n-1) (qC 1))]]) rfl rfl rfl (by simp;omega) (by simp [maxLen];omega) ?_;apply bP (us:=[[.slice 4 ((List.replicate n z4).set (n-1) (rC (.of 1)))]]) rfl;refine qQ (ts:=p.map fun l=>cR (fB (rZ l))) (us:=[[.slice 4 ((List.replicate n z4).set (n-1) (rC (.of 1)))]]) rfl rfl rfl (by simp;omega) (by simp [maxLen];omega) ?_;dsimp only [aD,aC];refine dA ⟨aG.Sub.slice ?_,aG.Sub.slice ?_,trivial⟩
  ·rw [Fy,if_pos h15,hn,List.map_append,List.map_map];exact aY.append (aY.nI (aY.nI aG.Sub.refl) _) ⟨⟨aG.Sub.slice (YA n),trivial⟩,trivial⟩
  ·rw [XD,if_pos h15,hn,List.map_append,List.map_map];exact aY.append (aY.nI (aY.nI aG.Sub.refl) _) ⟨⟨aG.Sub.slice (UC n),trivial⟩,trivial⟩
 rw [Fy,XD,if_neg h15,if_neg h15,List.append_nil,List.append_nil];refine aK ?_;rw [eQ,eR,List.map_map,List.map_map];rfl
def bQ.kk (c:bQ):Nat:=(c.kind-1)%8+1
def bQ.nn (c:bQ):Int:=if c.n<0∨8<c.n then 2 else c.n
def bQ.E (c:bQ):List (List Rat):=if 0<c.kind then kE c.kk c.nn else Fy c.p c.long
def bQ.X (c:bQ):Rat:=if 0<c.kind then 0 else c.c.v
def bQ.Y (c:bQ):List Rat:=if 0<c.kind then kY c.kk else cZ c.y
def bQ.ER (c:bQ):List (List RQ):=if 0<c.kind then kER c.kk c.nn else XD c.p c.long
def bQ.XR (c:bQ):RQ:=if 0<c.kind then .nil else .of c.c.v
def bQ.YR (c:bQ):List RQ:=if 0<c.kind then kYR c.kk else rZ c.y
theorem PO {k:Nat} {n:Int} (h1:1≤k) (h2:k≤8) (h3:0≤n:=by omega) (h4:n≤40:=by omega):kQ k n=(kE k n,kY k,0):=by
 rw [kQ,if_neg (by omega),if_neg (by omega)]
theorem af0 (c:bQ) (h:c.In) (hs:c.small=true):aM prog 17 [(caT c:aE)] (.ret [fT c.E c.X c.Y,fR c.ER c.XR c.YR]):=by
 refine bZ func17 an7 ?_;have hs':=hs;unfold bQ.small at hs';rw [decide_eq_true_iff] at hs';obtain ⟨_,hsp,_,hyl⟩:=hs';have hk:=h.hk;have hn1:=h.hn1;have hn2:=h.hn2;have hkk1:1≤c.kk:=by unfold bQ.kk;omega
 have hkk8:c.kk≤8:=by unfold bQ.kk;omega
 have hnn:0≤c.nn∧c.nn≤8:=by unfold bQ.nn;split<;>omega
 have hK:=Lo c.kk c.nn;rw [PO hkk1 hkk8] at hK;have hR:=TI c.kk c.nn hkk1 hkk8;apply vn dH rfl;refine vs _ rfl ?_ ?_<;>intro h1
 ·have hk0:0<c.kind:=by omega
  have hkki:((c.kind:Int)-1)%8+1=(c.kk:Int):=by unfold bQ.kk;omega
  rw [show c.E=kE c.kk c.nn by rw [bQ.E,if_pos hk0],show c.X=0 by rw [bQ.X,if_pos hk0],show c.Y=kY c.kk by rw [bQ.Y,if_pos hk0],show c.ER=kER c.kk c.nn by rw [bQ.ER,if_pos hk0],show c.XR=RQ.nil by rw [bQ.XR,if_pos hk0],show c.YR=kYR c.kk by rw [bQ.YR,if_pos hk0]];apply vn aZ rfl;refine vs _ rfl ?_ ?_<;>intro h3
  ·have hnnv:c.nn=2:=by rw [bQ.nn,if_pos (by omega)]
   rw [hnnv] at hK hR ⊢;apply vn (CX) rfl;dsimp only [aD,aC];apply vn (eP) rfl;apply vn (eH (c:=(c.kk:Int)) (by rw [hkki];exact Lj)) rfl;apply aA hK rfl;dsimp only [aD,aC];apply aA hR rfl;exact aK rfl
  apply vn dH rfl;refine vs _ rfl ?_ ?_<;>intro h11
  ·have hnnv:c.nn=2:=by rw [bQ.nn,if_pos (by omega)]
   rw [hnnv] at hK hR ⊢;apply vn (CX) rfl;apply vn (eP) rfl;dsimp only [aD,aC];apply vn (eH (c:=(c.kk:Int)) (by rw [hkki];exact Lj)) rfl;apply aA hK rfl;apply aA hR rfl;exact aK rfl
  have hnnv:c.nn=c.n:=by rw [bQ.nn,if_neg (by omega)]
  rw [hnnv] at hK hR ⊢;apply vn (CX) rfl;dsimp only [aD,aC];apply vn (eP) rfl;apply vn (eH (c:=(c.kk:Int)) (by rw [hkki];exact Lj)) rfl;apply aA hK rfl;dsimp only [aD,aC];apply aA hR rfl;exact aK rfl
 have hk0:¬ 0<c.kind:=by omega
 rw [show c.E=Fy c.p c.long by rw [bQ.E,if_neg hk0],show c.X=c.c.v by rw [bQ.X,if_neg hk0],show c.Y=cZ c.y by rw [bQ.Y,if_neg hk0],show c.ER=XD c.p c.long by rw [bQ.ER,if_neg hk0],show c.XR=RQ.of c.c.v by rw [bQ.XR,if_neg hk0],show c.YR=rZ c.y by rw [bQ.YR,if_neg hk0]];apply aA (Kc c.p c.long h.hp hsp h.hl1 h.hl2) rfl;apply aA (Ck c.c h.hc) rfl;apply aA (NK c.y h.hy) rfl;exact aK rfl
end Go.Sy
