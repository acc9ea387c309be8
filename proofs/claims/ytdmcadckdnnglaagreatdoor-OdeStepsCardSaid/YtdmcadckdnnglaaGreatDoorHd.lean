/- Steps. -/
import Derived.Test.YtdmcadckdnnglaaGreatDoorHc
import Derived.Test.YtdmcadckdnnglaaGreatDoorXa
import Derived.Test.YtdmcadckdnnglaaGreatDoorYa
set_option linter.unusedVariables false
set_option linter.unusedSimpArgs false
namespace Go.Sy
open Go Go.Proofs Go.RowKit Tryz Ord
attribute [local go_sem] Oper.semAt_some
def Ev:Tr:=.fail 1011
def DV:Tr:=.fail 1011
def DH:Tr:=.ret [(.one (.ref 0 [(.u 0 0)])),(.one (.ref 0 [(.u 1 0),(.u 1 1),(.u 1 2)])),(.one (.ref 0 [(.u 2 0),(.u 2 1),(.u 2 2)])),(.one (.ref 0 [(.u 3 0)]))]
def DF:Tr:=.split (.u 7 0) DV DH
def DP:Tr:=.need (.prim [(W 6 0)] none) (.unOp .not 4 (.tmp 19)) 4 false DF
def Es:Tr:=.need (.call 97 [(W 0 0),(.agg [(U 1 0),(U 1 1),(U 1 2)])] [none]) (.call ⟨.value (.func 97),#[(.tmp 17),(.tmp 18)],#[32,39]⟩) 4 true DP
def Eb:Tr:=.split (.u 5 0) Ev Es
def Ea:Tr:=.need (.prim [(W 4 0),(WK (0))] none) (.binOp .neq 55 (.tmp 14) (.const (I3 (0))) 55) 4 false Eb
def Em:Tr:=.need (.call 19 [(W 0 0)] [none]) (.call ⟨.value (.func 19),#[(.tmp 13)],#[32]⟩) 55 true Ea
theorem IQ:Ai prog 25 (fun _=>none) (gS [] (oX f59)) [(0, .v none),(1, .v (some 3)),(2, .v (some 3)),(3, .v none)] ([4,5,6,7].map ResultVar.tmp) (some 1) false=Em:=by kernel_rfl
def ai7:Tr:=.need (.call 68 [(WK 2)] [(some 3)]) (.call ⟨.value (.func 68),#[(.const (I3 2))],#[2]⟩) 39 false (aK 36 [(G3 7),(G3 8)] [(some 3)] [11,12] [39,39] 39 false (aK 38 [(G3 9),(.agg [(U 6 5),(U 6 6),(U 6 7)])] [none] [13,15] [39,39] 3 true (aU .leq 3 16 0 10 0 4 (.need (.call 130 [(W 11 0),(WK 3)] []) (.call ⟨.value (.func 130),#[(tT 17),(.const (I3 3))],#[4,55]⟩) 0 true (aK 147 [(.agg [(U 6 0),(U 6 1),(U 6 2),(U 6 3),(U 6 4),(U 6 5),(U 6 6),(U 6 7),(U 6 8)]),(G3 2),(W 3 0)] [none] [19,20,21] [185,39,3] 109 true (.fail 4))))))
def aA2:Tr:=aK 100 [(W 0 0),(G3 1)] [(some 5)] [6,7] [32,39] 171 true (aK 123 [(G5 5)] [(some 9)] [8] [171] 185 true (aK 146 [(G3 2)] [(some 3)] [10] [39] 39 false ai7))
theorem tD:aN prog f145 (fun _=>none) [.ref 1, .ref 3, .ref 3, .ref 1, .ref 1]=aA2:=by kernel_rfl
def vC:Tr:=.retr [] 13
def wE:Tr:=.need (.strow 4 1 (.k (.int .i64 (0))) 0 [(.u 12 0)]) (.store 109 (.tmp 4) (.tmp 22)) 0 false vC
def xZ:Tr:=.need (.call 147 [(.agg [(U 6 0),(U 6 1),(U 6 2),(U 6 3),(U 6 4),(U 6 5),(U 6 6),(U 6 7),(U 6 8)]),(.agg [(U 2 0),(U 2 1),(U 2 2)]),(W 3 0)] [none]) (.call ⟨.value (.func 147),#[(.tmp 19),(.tmp 20),(.tmp 21)],#[185,39,3]⟩) 109 true wE
def xH:Tr:=.need (.call 130 [(W 11 0),(WK (3))] []) (.call ⟨.value (.func 130),#[(.tmp 17),(.const (I3 (3)))],#[4,55]⟩) 0 true xZ
def xC:Tr:=.need (.prim [(W 10 0),(WK (0))] none) (.binOp .leq 3 (.tmp 16) (.const (I3 (0))) 3) 4 false xH
def vX:Tr:=.need (.call 38 [(.agg [(U 9 0),(U 9 1),(U 9 2)]),(.agg [(U 6 5),(U 6 6),(U 6 7)])] [none]) (.call ⟨.value (.func 38),#[(.tmp 13),(.tmp 15)],#[39,39]⟩) 3 true xC
def vY:Tr:=.need (.call 36 [(.agg [(U 7 0),(U 7 1),(U 7 2)]),(.agg [(U 8 0),(U 8 1),(U 8 2)])] [(some 3)]) (.call ⟨.value (.func 36),#[(.tmp 11),(.tmp 12)],#[39,39]⟩) 39 false vX
def xG:Tr:=.need (.call 68 [(WK (2))] [(some 3)]) (.call ⟨.value (.func 68),#[(.const (I3 (2)))],#[2]⟩) 39 false vY
def yC:Tr:=.need (.call 146 [(.agg [(U 2 0),(U 2 1),(U 2 2)])] [(some 3)]) (.call ⟨.value (.func 146),#[(.tmp 10)],#[39]⟩) 39 false xG
def xN:Tr:=.need (.call 123 [(.agg [(U 5 0),(U 5 1),(U 5 2),(U 5 3),(U 5 4)])] [(some 9)]) (.call ⟨.value (.func 123),#[(.tmp 8)],#[171]⟩) 185 true yC
def xM:Tr:=.need (.call 100 [(W 0 0),(.agg [(U 1 0),(U 1 1),(U 1 2)])] [(some 5)]) (.call ⟨.value (.func 100),#[(.tmp 6),(.tmp 7)],#[32,39]⟩) 171 true xN
theorem Av:Qa prog f145 (fun _=>none) [.ref 1, .ref 3, .ref 3, .ref 1] 109 1=xM:=by kernel_rfl
def az2:Tr:=aU .neq 55 14 0 4 0 4 (.split (.u 5 0) (.ret [(.one (.c (.k (.slice none 0 0)))),(WK 2)]) (aK 97 [(W 0 0),(G3 1)] [none] [17,18] [32,39] 4 true (.need (.prim [(W 6 0)] none) (.unOp .not 4 (tT 19)) 4 false (.split (.u 7 0) (.ret [(.one (.c (.k (.slice none 0 0)))),(WK 11)]) (aK 121 [(.one (.gT 145 [(.ref 0 [(.u 0 0)]),(.ref 0 [(.u 1 0),(.u 1 1),(.u 1 2)]),(.ref 0 [(.u 2 0),(.u 2 1),(.u 2 2)]),(.ref 0 [(.u 3 0)]),(.ref 0 [(.k (.slice none 0 0))])]))] [none] [21] [1] 55 true (.ret [(.one (.c (.k (.slice none 0 0)))),(W 8 0)]))))))
def ac6:Tr:=aK 19 [(W 0 0)] [none] [13] [32] 55 true az2
theorem yN:aN prog f59 (fun _=>none) [.v none, .v (some 3), .v (some 3), .v none]=ac6:=by kernel_rfl
theorem aP5 (t:Array Value) (h:t.size=25):t = #[t.getD 0 Go.undef,t.getD 1 Go.undef,t.getD 2 Go.undef,t.getD 3 Go.undef,t.getD 4 Go.undef,t.getD 5 Go.undef,t.getD 6 Go.undef,t.getD 7 Go.undef,t.getD 8 Go.undef,t.getD 9 Go.undef,t.getD 10 Go.undef,t.getD 11 Go.undef,t.getD 12 Go.undef,t.getD 13 Go.undef,t.getD 14 Go.undef,t.getD 15 Go.undef,t.getD 16 Go.undef,t.getD 17 Go.undef,t.getD 18 Go.undef,t.getD 19 Go.undef,t.getD 20 Go.undef,t.getD 21 Go.undef,t.getD 22 Go.undef,t.getD 23 Go.undef,t.getD 24 Go.undef]:=(sF t 25 h).trans rfl
theorem aE6 {M:Nat→Prop} {w:World} {q:List (List Rat)} {m:Nat} {lead aJ:Rat} {st:Int} {vs:List Value} (h:aZ M w (yE q m lead aJ st) vs):∃ u0 u1 u2 u3 u4 u5 u6 u7 u8,vs = [u0,u1,u2,u3,u4,u5,u6,u7,u8]:=aD4 h
section
variable (q:List (List Rat)) (m:Nat) (lead aJ:Rat) (st:Nat) (t:Rat) (k:Int) (Ns Bs B G BS:Nat) (goal:Rat) (out:Option Nat)
structure Zn:Prop where
 hm1:1≤m
 hk:k≤256
 hgq:mkRat 1 (2^k.toNat)*mkRat 1 (2^2)=goal
 T:JA q m lead aJ st t.abs goal (m-1) B G
 L:Dt (KY q m lead aJ st t.abs goal (m-1)) m st out
 MC:∀ N,out=some N→Ym q m lead aJ st t N B BS G
 hst15:st≤1500
 SC:∀ l,l<m→fU Bs q m lead (bK m l) Ns
 hNs:Ns≤1073741824
 hN15:1500≤Ns
 hm:m≤64
 hBs:Bs≤4294967296
 h64:64≤Bs
 hql:q.length=m+1
 hp:∀ p∈q,p.length<1048576
 hl0:lead≠0
 hw:m+bA q≤st
 hrho:∀ j,j≤2*st+1→Fit Bs (aJ^j)
def Qx (out:Option Nat):Out:=match out with
 | some n=>.ret [.one (.slice 1 (JJ q m lead aJ st t k n m))]
 | none=>.pan (LN 5)
end
theorem Nq {q:List (List Rat)} {m:Nat} {lead aJ:Rat} {st:Nat} {t:Rat} {k:Int} {Ns Bs B G BS:Nat} {goal:Rat} {out:Option Nat} (C:Zn q m lead aJ st t k Ns Bs B G BS goal out) :
  aM prog 147 [.agg (yE q m lead aJ (st:Nat)),qT t, .one (.int .i64 k)] (Qx q m lead aJ st t k out):=by
 refine ⟨bR (by kernel_rfl),fun M w vs hM hv=>?_⟩
 match vs,hv with
 | [a,tv,kv],hv=>
   obtain ⟨us,rfl,hus⟩:=hv.1;obtain ⟨u0,u1,u2,u3,u4,u5,u6,u7,u8,rfl⟩:=aE6 hus;obtain ⟨ts,rfl,hts⟩:=hv.2.1;obtain ⟨t0,t1,t2,rfl⟩:=Rd hts;have hk:kv = .int .i64 k:=hv.2.2.1.1;subst hk;refine (OO M w hM q m lead aJ st t k Ns Bs B G C.hm1 C.hk goal C.hgq C.T out C.L BS C.MC C.hst15 C.SC C.hNs C.hN15 C.hm C.hBs C.h64 C.hql C.hp C.hl0 C.hw C.hrho u0 u1 u2 u3 u4 u5 u6 u7 u8 hus t0 t1 t2 hts).mono ?_;rintro e w' ⟨hb,h⟩;refine ⟨hb,?_⟩;cases out with
   | some n=>
     obtain ⟨v,rfl,hr⟩:=h;exact ⟨[v],rfl,hr,trivial⟩
   | none=>
     subst h;exact ⟨Uo 5,rfl,⟨rfl,rfl⟩⟩
 | [],hv=>exact hv.elim
 | [_],hv=>exact hv.2.elim
 | [_,_],hv=>exact hv.2.2.elim
 | _::_::_::_::_,hv=>exact hv.2.2.2.elim
theorem GG (f:FuncId) (caps:List aH) (er:Int) (h:aM prog f (caps.map .one) (.pan (LN er))):aM prog 121 [.one (.gT f caps)] (.ret [.one (.int .i64 er)]):=by
 refine ⟨bR (by kernel_rfl),fun M w vs hM hv=>?_⟩
 match vs,hv with
 | [v],hv=>
   obtain ⟨cs,rfl,hcs⟩:=hv.1;have hB4:Below w.heap.size w (w.alloc (.cells #[.int .i64 0] 55)):=(Below.refl _ w).alloc (Nat.le_refl _) _;have hM4:dL M (w.alloc (.cells #[.int .i64 0] 55)):=⟨fun b hb=>Nat.lt_of_lt_of_le (hM.1 b hb) hB4.size,hM.2.below rfl hB4⟩
   refine (BV f cs.toArray w er (fun w'=>Below (w.alloc (.cells #[.int .i64 0] 55)).heap.size (w.alloc (.cells #[.int .i64 0] 55)) w') h.1 ?_).mono ?_
   ·refine (h.2 M _ cs hM4 (cI.tZ (hcs.mono (bZ.below hB4)))).mono ?_;rintro r w' ⟨hb,hp⟩;exact ⟨ZM hp,(hb.block _ (by rw [World.size_alloc];omega)).trans (heap_alloc_new w _),hb⟩
   ·rintro r w' ⟨rfl,w1,hb1,hg⟩;have hs1:=hb1.size;rw [World.size_alloc] at hs1;refine ⟨⟨by rw [hg.os,hb1.os,hB4.os],by rw [hg.tape,hb1.tape,hB4.tape],by rw [hg.output,hb1.output,hB4.output],by have:=hg.size;omega,fun k hk=>?_⟩,[.int .i64 er],rfl,⟨rfl,rfl⟩,trivial⟩;rw [hg.block k (by omega) (fun e=>by simp only [Option.some.injEq] at e;omega),hb1.block k (by rw [World.size_alloc];omega),hB4.block k hk]
 | [],hv=>exact hv.elim
 | _::_::_,hv=>exact hv.2.elim
theorem AD (e:List (List Rat)) (c t:Rat) (k:Int) (q:List (List Rat)) (m:Nat) (lead:Rat) (er:Int) (hat:aM prog 100 [.one (eQ e),qT c] (.ret [xA q m lead])) (hre:aM prog 123 [xA q m lead] (.pan (LN er))):aM prog 145 [(.one (.bE ([eQ e])):aF),(.one (.bE (qC c)):aF),(.one (.bE (qC t)):aF),(.one (.bE ([.int .i64 k])):aF),(.one (.bE ([.exact (.slice none 0 0)])):aF)] (.pan (LN er)):=by
 refine aD (args:=[.ref 1, .ref 3, .ref 3, .ref 1, .ref 1]) (ins:=[.ref ([eQ e]), .ref (qC c), .ref (qC t), .ref ([.int .i64 k]), .ref ([.exact (.slice none 0 0)])]) (hints:=(fun _=>none)) fo (by kernel_rfl) func145 ⟨rfl,rfl,rfl,rfl,rfl,trivial⟩ ?_;rw [tD];dsimp only [List.map,In.env,aB,aA];refine aC hat rfl ?_;dsimp only [aB,aA];exact vcp hre rfl
theorem Dl (e:List (List Rat)) (c t:Rat) (k:Int) (q:List (List Rat)) (m:Nat) (lead aJ:Rat) (st:Int) (B:Nat) (hat:aM prog 100 [.one (eQ e),qT c] (.ret [xA q m lead])) (hre:aM prog 123 [xA q m lead] (.ret [.agg (yE q m lead aJ st)])) (ht:Fit B t) (hrho:Fit B aJ) (hB:B≤1073741824) (h64:64≤B) (hno:¬ t.abs*2≤aJ):aM prog 145 [(.one (.bE ([eQ e])):aF),(.one (.bE (qC c)):aF),(.one (.bE (qC t)):aF),(.one (.bE ([.int .i64 k])):aF),(.one (.bE ([.exact (.slice none 0 0)])):aF)] (.pan (LN 3)):=by
 refine aD (args:=[.ref 1, .ref 3, .ref 3, .ref 1, .ref 1]) (ins:=[.ref ([eQ e]), .ref (qC c), .ref (qC t), .ref ([.int .i64 k]), .ref ([.exact (.slice none 0 0)])]) (hints:=(fun _=>none)) fo (by kernel_rfl) func145 ⟨rfl,rfl,rfl,rfl,rfl,trivial⟩ ?_;rw [tD];dsimp only [List.map,In.env,aB,aA];refine aC hat rfl ?_;dsimp only [aB,aA];refine aC hre rfl ?_;dsimp only [aB,aA];refine aC (qK t) rfl ?_;dsimp only [aB,aA];refine aC (jP 2 (by omega) (by omega)) rfl ?_;dsimp only [aB,aA];refine aC (dF t.abs _ B 64 (dQ ht) (Fit.int (by omega) (by omega)) (by omega)) rfl ?_;dsimp only [aB,aA];refine aC (uZ _ aJ (B+64) B ((dQ ht).mul (Fit.int (by omega) (by omega))) hrho (by omega)) rfl ?_;dsimp only [aB,aA];refine vn fV rfl ?_;dsimp only [aB,aA];rw [show decide (lE (t.abs*((2:Int):Rat)) aJ≤0)=false from decide_eq_false (fun h=>hno (fZ.1 h))];exact vcp (qQ 3) rfl
theorem Dw (e:List (List Rat)) (c t:Rat) (k:Int) (q:List (List Rat)) (m:Nat) (lead aJ:Rat) (st:Int) (B:Nat) (er:Int) (hat:aM prog 100 [.one (eQ e),qT c] (.ret [xA q m lead])) (hre:aM prog 123 [xA q m lead] (.ret [.agg (yE q m lead aJ st)])) (ht:Fit B t) (hrho:Fit B aJ) (hB:B≤1073741824) (h64:64≤B) (hyes:t.abs*2≤aJ) (hmx:aM prog 147 [.agg (yE q m lead aJ st),qT t, .one (.int .i64 k)] (.pan (LN er))):aM prog 145 [(.one (.bE ([eQ e])):aF),(.one (.bE (qC c)):aF),(.one (.bE (qC t)):aF),(.one (.bE ([.int .i64 k])):aF),(.one (.bE ([.exact (.slice none 0 0)])):aF)] (.pan (LN er)):=by
 refine aD (args:=[.ref 1, .ref 3, .ref 3, .ref 1, .ref 1]) (ins:=[.ref ([eQ e]), .ref (qC c), .ref (qC t), .ref ([.int .i64 k]), .ref ([.exact (.slice none 0 0)])]) (hints:=(fun _=>none)) fo (by kernel_rfl) func145 ⟨rfl,rfl,rfl,rfl,rfl,trivial⟩ ?_;rw [tD];dsimp only [List.map,In.env,aB,aA];refine aC hat rfl ?_;dsimp only [aB,aA];refine aC hre rfl ?_;dsimp only [aB,aA];refine aC (qK t) rfl ?_;dsimp only [aB,aA];refine aC (jP 2 (by omega) (by omega)) rfl ?_;dsimp only [aB,aA];refine aC (dF t.abs _ B 64 (dQ ht) (Fit.int (by omega) (by omega)) (by omega)) rfl ?_;dsimp only [aB,aA];refine aC (uZ _ aJ (B+64) B ((dQ ht).mul (Fit.int (by omega) (by omega))) hrho (by omega)) rfl ?_;dsimp only [aB,aA];refine vn fV rfl ?_;dsimp only [aB,aA];rw [show decide (lE (t.abs*((2:Int):Rat)) aJ≤0)=true from decide_eq_true (fZ.2 hyes)];refine aC (mD 3) rfl ?_;exact vcp hmx rfl
theorem EA (e:List (List Rat)) (c t:Rat) (k:Int) (q:List (List Rat)) (m:Nat) (lead aJ:Rat) (st:Int) (B:Nat) (R:List (List aH)) (hat:aM prog 100 [.one (eQ e),qT c] (.ret [xA q m lead])) (hre:aM prog 123 [xA q m lead] (.ret [.agg (yE q m lead aJ st)])) (ht:Fit B t) (hrho:Fit B aJ) (hB:B≤1073741824) (h64:64≤B) (hyes:t.abs*2≤aJ) (hmx:aM prog 147 [.agg (yE q m lead aJ st),qT t, .one (.int .i64 k)] (.ret [.one (.slice 1 R)])):wJ prog 145 109 [(.one (.bE ([eQ e])):aF),(.one (.bE (qC c)):aF),(.one (.bE (qC t)):aF),(.one (.bE ([.int .i64 k])):aF)] ([.exact (.slice none 0 0)]) [] ([.slice 1 R]):=by
 refine TL (a1:=[.ref 1, .ref 3, .ref 3, .ref 1]) (i1:=[.ref ([eQ e]), .ref (qC c), .ref (qC t), .ref ([.int .i64 k])]) (n:=1) (hints:=(fun _=>none)) fo func145 ⟨rfl,rfl,rfl,rfl,trivial⟩ rfl rfl ?_;rw [Av];dsimp only [List.map,In.env,aB,aA];refine aC hat rfl ?_;dsimp only [aB,aA];refine aC hre rfl ?_;dsimp only [aB,aA];refine aC (qK t) rfl ?_;dsimp only [aB,aA];refine aC (jP 2 (by omega) (by omega)) rfl ?_;dsimp only [aB,aA];refine aC (dF t.abs _ B 64 (dQ ht) (Fit.int (by omega) (by omega)) (by omega)) rfl ?_;dsimp only [aB,aA];refine aC (uZ _ aJ (B+64) B ((dQ ht).mul (Fit.int (by omega) (by omega))) hrho (by omega)) rfl ?_;dsimp only [aB,aA];refine vn fV rfl ?_;dsimp only [aB,aA];rw [show decide (lE (t.abs*((2:Int):Rat)) aJ≤0)=true from decide_eq_true (fZ.2 hyes)];refine aC (mD 3) rfl ?_;refine aC hmx rfl ?_;dsimp only [aB,aA];refine Dy (ts:=[[.exact (.slice none 0 0)]]) (us:=[[.slice 1 R]]) rfl rfl (by omega) (cells:=[.exact (.slice none 0 0)]) rfl rfl ?_;dsimp only [aB,aA];exact HP rfl rfl
theorem Iv (e:List (List Rat)) (c t:Rat) (k:Int) (hce:aM prog 19 [.one (eQ e)] (.ret [.one (.int .i64 2)])):aM prog 59 [(.one (eQ e):aF),(qT c:aF),(qT t:aF),(.one (.int .i64 k):aF)] (.ret [.one (.exact (.slice none 0 0)), .one (.int .i64 2)]):=by
 refine aD (args:=[.v none, .v (some 3), .v (some 3), .v none]) (ins:=[.v (.one (eQ e)), .v (qT c), .v (qT t), .v (.one (.int .i64 k))]) (hints:=(fun _=>none)) fo (by kernel_rfl) func59 ⟨rfl,rfl,rfl,rfl,trivial⟩ ?_;rw [yN];dsimp only [List.map,In.env,aB,aA];refine aC hce rfl ?_;dsimp only [aB,aA];refine vn gO rfl ?_;dsimp only [aB,aA];refine vs _ rfl (fun h2=>?_) (fun h2=>?_)
 ·exact aL rfl
 exact absurd (by decide) h2
theorem Jn (e:List (List Rat)) (c t:Rat) (k:Int) (hce:aM prog 19 [.one (eQ e)] (.ret [.one (.int .i64 0)])) (hrg:aM prog 97 [.one (eQ e),qT c] (.ret [.one (.bool false)])):aM prog 59 [(.one (eQ e):aF),(qT c:aF),(qT t:aF),(.one (.int .i64 k):aF)] (.ret [.one (.exact (.slice none 0 0)), .one (.int .i64 11)]):=by
 refine aD (args:=[.v none, .v (some 3), .v (some 3), .v none]) (ins:=[.v (.one (eQ e)), .v (qT c), .v (qT t), .v (.one (.int .i64 k))]) (hints:=(fun _=>none)) fo (by kernel_rfl) func59 ⟨rfl,rfl,rfl,rfl,trivial⟩ ?_;rw [yN];dsimp only [List.map,In.env,aB,aA];refine aC hce rfl ?_;dsimp only [aB,aA];refine vn gO rfl ?_;dsimp only [aB,aA];refine vs _ rfl (fun h2=>?_) (fun h2=>?_)
 ·exact absurd rfl h2
 refine aC hrg rfl ?_;dsimp only [aB,aA];refine vn gX rfl ?_;dsimp only [aB,aA];refine rA true rfl (fun _=>?_) (fun h=>by cases h);exact aL rfl
theorem sC (e:List (List Rat)) (c t:Rat) (k er:Int) (hce:aM prog 19 [.one (eQ e)] (.ret [.one (.int .i64 0)])) (hrg:aM prog 97 [.one (eQ e),qT c] (.ret [.one (.bool true)])) (hcl:aM prog 145 [.one (.bE [eQ e]), .one (.bE (qC c)), .one (.bE (qC t)), .one (.bE [.int .i64 k]), .one (.bE [.exact (.slice none 0 0)])] (.pan (LN er))):aM prog 59 [(.one (eQ e):aF),(qT c:aF),(qT t:aF),(.one (.int .i64 k):aF)] (.ret [.one (.exact (.slice none 0 0)), .one (.int .i64 er)]):=by
 refine aD (args:=[.v none, .v (some 3), .v (some 3), .v none]) (ins:=[.v (.one (eQ e)), .v (qT c), .v (qT t), .v (.one (.int .i64 k))]) (hints:=(fun _=>none)) fo (by kernel_rfl) func59 ⟨rfl,rfl,rfl,rfl,trivial⟩ ?_;rw [yN];dsimp only [List.map,In.env,aB,aA];refine aC hce rfl ?_;dsimp only [aB,aA];refine vn gO rfl ?_;dsimp only [aB,aA];refine vs _ rfl (fun h2=>?_) (fun h2=>?_)
 ·exact absurd rfl h2
 refine aC hrg rfl ?_;dsimp only [aB,aA];refine vn gX rfl ?_;dsimp only [aB,aA];refine rA false rfl (fun h=>by cases h) (fun _=>?_);refine aC (GG 145 [.bE [eQ e], .bE (qC c), .bE (qC t), .bE [.int .i64 k], .bE [.exact (.slice none 0 0)]] er hcl) rfl ?_;exact aL rfl
theorem aa3 (e:List (List Rat)) (c t:Rat) (k:Int) (hce:aM prog 19 [.one (eQ e)] (.ret [.one (.int .i64 0)])) (hrg:aM prog 97 [.one (eQ e),qT c] (.ret [.one (.bool true)])):vc prog (fun o=>jY o (.ret [.one (.bE [eQ e]), .one (.bE (qC c)), .one (.bE (qC t)), .one (.bE [.int .i64 k])])) (Ai prog 25 (fun _=>none) (gS [] (oX f59)) [(0, .v none),(1, .v (some 3)),(2, .v (some 3)),(3, .v none)] ([4,5,6,7].map ResultVar.tmp) (some 1) false) ([.v (.one (eQ e)), .v (qT c), .v (qT t), .v (.one (.int .i64 k))].map In.env) []:=by
 rw [IQ];dsimp only [List.map,In.env,aB,aA];refine aC hce rfl ?_;dsimp only [aB,aA];refine vn gO rfl ?_;dsimp only [aB,aA];refine vs _ rfl (fun h2=>?_) (fun h2=>?_)
 ·exact absurd rfl h2
 refine aC hrg rfl ?_;dsimp only [aB,aA];refine vn gX rfl ?_;dsimp only [aB,aA];refine rA false rfl (fun h=>by cases h) (fun _=>?_);exact aL rfl
set_option maxRecDepth 100000 in
set_option maxHeartbeats 1000000 in
theorem KM (M:Nat→Prop) (w:World) (hM:dL M w) (e:List (List Rat)) (c t:Rat) (k:Int) (R:List (List aH)) (hce:aM prog 19 [.one (eQ e)] (.ret [.one (.int .i64 0)])) (hrg:aM prog 97 [.one (eQ e),qT c] (.ret [.one (.bool true)]))
  (hcl:wJ prog 145 109 [.one (.bE [eQ e]), .one (.bE (qC c)), .one (.bE (qC t)), .one (.bE [.int .i64 k])] [.exact (.slice none 0 0)] [] [.slice 1 R])
  (ev c0 c1 c2 t0 t1 t2:Value) (he:(eQ e).rep M w ev) (hc:aZ M w (qC c) [c0,c1,c2]) (ht:aZ M w (qC t) [t0,t1,t2]) :
  Calls prog 59 #[ev, .agg #[c0,c1,c2], .agg #[t0,t1,t2], .int .i64 k] w fun e w'=>Below w.heap.size w w'∧∃ v,e = .returned (.tuple #[v, .int .i64 0])∧(aH.slice 1 R).rep M w' v:=by
 refine calls_of_wp func59 rfl ?_;simp only [ntmps59,List.size_toArray,List.length_cons,List.length_nil,Nat.reduceAdd,Nat.reduceSub,Array.replicate_succ,Array.replicate_zero,List.push_toArray,List.append_toArray,List.nil_append,List.cons_append]
 refine QY (n:=1) (ins:=[(0, .v none),(1, .v (some 3)),(2, .v (some 3)),(3, .v none)]) (xs:=[.v (.one (eQ e)), .v (qT c), .v (qT t), .v (.one (.int .i64 k))]) fo ⟨rfl,rfl,rfl,rfl,trivial⟩
  (aa3 e c t k hce hrg) (by kernel_rfl) hM rfl rfl ⟨he,⟨_,rfl,hc⟩,⟨_,rfl,ht⟩,⟨rfl,rfl⟩,trivial⟩ ?_ (by intro c v a' w' h;cases h)
 intro ex a' W1 rs us hrs hex hB1 hsz hdf hrun hus;cases hrs;cases ex with
 | exit id=>cases hex
 | ret=>cases hex
 | normal=>
 have huse:=tR hrun;subst huse;obtain ⟨h4,h5,h6,h7,_⟩:=hus;obtain ⟨t',ds⟩:=a';have hds:ds = []:=hdf;subst hds;have hsz:t'.size=25:=hsz;have h4:(aH.bE [eQ e]).rep M W1 (t'.getD 4 Go.undef):=h4;have h5:(aH.bE (qC c)).rep M W1 (t'.getD 5 Go.undef):=h5;have h6:(aH.bE (qC t)).rep M W1 (t'.getD 6 Go.undef):=h6;have h7:(aH.bE [.int .i64 k]).rep M W1 (t'.getD 7 Go.undef):=h7;show Code.wp _ (Dr 1 _) _ _ _;simp only [Dr];rw [aP5 t' hsz];generalize t'.getD 4 Go.undef=x4 at h4 ⊢;generalize t'.getD 5 Go.undef=x5 at h5 ⊢;generalize t'.getD 6 Go.undef=x6 at h6 ⊢;generalize t'.getD 7 Go.undef=x7 at h7 ⊢;have hmf:∀ (fn:Fn) (first cap:Array Value) (w:World),(Instr.makeFunc fn first cap).run prog w = .ok (.func fn first cap) w:=fun _ _ _ _=>rfl;obtain ⟨A,hA⟩:∃ A,W1.heap.size=A:=⟨_,rfl⟩
 obtain ⟨W2,hW2⟩:∃ W2,W1.alloc (.cells #[.slice none 0 0] 109)=W2:=⟨_,rfl⟩
 have hB2:Below W1.heap.size W1 W2:=by rw [←hW2];exact (Below.refl _ W1).alloc (Nat.le_refl _) _
 have hA2:W2.heap[A]? = some (.cells #[.slice none 0 0] 109 (0,0)):=by rw [←hW2,←hA];exact heap_alloc_new W1 _
 have hs2:W2.heap.size=A+1:=by rw [←hW2,World.size_alloc,hA]
 have hMA:¬ M A:=fun h=>by have:=hM.1 A h;have:=hB1.size;omega
 have hM1:dL M W1:=⟨fun b hb=>Nat.lt_of_lt_of_le (hM.1 b hb) hB1.size,hM.2.below rfl hB1⟩
 have hk2:bZ M W1 (fun b=>M b∨b=A) W2:=fun b o hb ho _=>by
  have hl:=(Array.getElem?_eq_some_iff.1 ho).1;exact ⟨fun h=>h.elim hb (by omega),(hB2.block b hl).trans ho⟩
 have hM2:dL (fun b=>M b∨b=A) W2:=⟨fun b hb=>by
  rcases hb with h | h
  ·have:=hM1.1 b h;omega
  ·omega,hM1.2.jD hk2⟩
 have hca:=Kd 145 (bR (by kernel_rfl)) M W2 A 109 #[.slice none 0 0] [.exact (.slice none 0 0)] [.slice 1 R] [.one (.bE [eQ e]), .one (.bE (qC c)), .one (.bE (qC t)), .one (.bE [.int .i64 k])] [x4,x5,x6,x7] 0 hM2 hMA hA2 ⟨aH.mono _ hk2 h4,aH.mono _ hk2 h5,aH.mono _ hk2 h6,aH.mono _ hk2 h7,trivial⟩ (fun _ _=>⟨⟨rfl,rfl⟩,trivial⟩) (.inr ⟨rfl,hcl⟩);simp only [aB,aA] at hca
 go_wp2_with (go_at_call 121;refine hca.mono ?_)
 rintro e w3 rfl hg us hus hrus
 obtain ⟨v,rfl⟩:∃ v,us = #[v]:=by
  have:=hrus.length;simp at this
  match us,this with
  | ⟨[v]⟩,_=>exact ⟨v,rfl⟩
 have cv:w3.cell? ⟨A,0,none⟩=some v:=aI hus rfl;have hv1:v.oneCell'=true:=hrus.one v (by simp)
 go_wp2
 have hBw:Below w.heap.size w w3:=⟨by rw [hg.os,hB2.os,hB1.os],by rw [hg.tape,hB2.tape,hB1.tape],by rw [hg.output,hB2.output,hB1.output],by have:=hg.size;have:=hB1.size;omega,fun j hj=>by
  have:=hB1.size;rw [hg.block j (by omega) (fun e=>by simp only [Option.some.injEq] at e;omega),hB2.block j (by omega),hB1.block j hj]⟩
 have hrv:(aH.slice 1 R).rep M w3 v:=aH.mono _ (fun b o hb ho _=>⟨fun h=>hb (.inl h),ho⟩) hrus.1;simp [bodyPost,results,show f59.results = #[.tmp 8, .tmp 9] from rfl,go_sem];exact ⟨hBw,hrv⟩
theorem Ij (e:List (List Rat)) (c t:Rat) (k:Int) (R:List (List aH)) (hce:aM prog 19 [.one (eQ e)] (.ret [.one (.int .i64 0)])) (hrg:aM prog 97 [.one (eQ e),qT c] (.ret [.one (.bool true)]))
  (hcl:wJ prog 145 109 [.one (.bE [eQ e]), .one (.bE (qC c)), .one (.bE (qC t)), .one (.bE [.int .i64 k])] [.exact (.slice none 0 0)] [] [.slice 1 R]) :
  aM prog 59 [.one (eQ e),qT c,qT t, .one (.int .i64 k)] (.ret [.one (.slice 1 R), .one (.int .i64 0)]):=by
 refine ⟨bR (by kernel_rfl),fun M w vs hM hv=>?_⟩
 match vs,hv with
 | [a,cv,tv,kv],hv=>
   obtain ⟨cs,rfl,hcs⟩:=hv.2.1;obtain ⟨c0,c1,c2,rfl⟩:=Rd hcs;obtain ⟨ts,rfl,hts⟩:=hv.2.2.1;obtain ⟨t0,t1,t2,rfl⟩:=Rd hts;have hk:kv = .int .i64 k:=hv.2.2.2.1.1;subst hk;refine (KM M w hM e c t k R hce hrg hcl a c0 c1 c2 t0 t1 t2 hv.1 hcs hts).mono ?_;rintro x w' ⟨hb,v,rfl,hr⟩;exact ⟨hb,[v, .int .i64 0],rfl,hr,⟨rfl,rfl⟩,trivial⟩
 | [],hv=>exact hv.elim
 | [_],hv=>exact hv.2.elim
 | [_,_],hv=>exact hv.2.2.elim
 | [_,_,_],hv=>exact hv.2.2.2.elim
 | _::_::_::_::_::_,hv=>exact hv.2.2.2.2.elim
end Go.Sy
namespace Go.Sy
open Go Go.Proofs Tryz Ord
theorem Bd.abs {D S:Nat} {q:Rat} (h:Bd D S q):Bd D S q.abs:=by
 obtain ⟨h1,h2⟩:=oM q;exact ⟨by rw [h2];exact h.1,by rw [h1,h2,Int.natAbs_natCast];exact h.2⟩
theorem NN {t:Rat} {a:List Rat} {d n N D S E T F c p b e f g B y:Nat} (hy:11+(b+g+f*N)≤y) (h0:D≠0) (h1:E≠0) (ha:∀ x∈a,Bd D S x) (ht:Bd E T t) (hT:1≤T) (hF:∀ i:Nat,i<n→(bG (i:Int) d).natAbs≤F) (hn:0<n) (hc:c≤N) (hN:N≤2^11)
  (hD:D≤2^p) (hS:S≤2^b) (hE:E≤2^e) (hTT:T≤2^f) (hFF:F≤2^g) (hB:p+e*N+(11+(b+g+f*N))<B) :
  Fit B (gP t a d n c)∧(gP t a d n c).num.natAbs≤2^y*(gP t a d n c).den:=by
 have h:=Hg h0 h1 ha ht hT hF hn c;have r1:=KS hD hE hc;have r2:=JY hS hTT hFF hc hN;refine ⟨h.fit (Nat.mul_ne_zero h0 (Nat.pos_iff_ne_zero.1 (Nat.pow_pos (Nat.pos_of_ne_zero h1)))) (Rt r1 (by omega)) ?_,Nat.le_trans h.2 (Nat.mul_le_mul_right _ (Nat.le_trans r2 (Nat.pow_le_pow_right (by omega) hy)))⟩;refine Rt (y:=(11+(b+g+f*N))+(p+e*N)) ?_ (by omega);rw [Nat.pow_add];exact Nat.mul_le_mul r2 r1
theorem NV {b aJ r:Rat} {n d B Bm:Nat} (C:mJ Bm aJ n d r) (hb:Fit B b) (h64:64≤Bm) (hn:n<1099511627776) (hd:d≤n):Fit (B+(Bm+Bm+Bm)+(64+(128+(Bm+Bm))+1)) (fX b aJ n d r):=by
 have hff:=C.ff d (Nat.le_refl _);have hfr:=C.fr (n-d) (by omega);have hfo:=C.fo n (by omega);have hsh:=C.sh (by omega) (by omega);exact (hb.mul ((hff.mul hfr).div hfo)).div ((Fit.int (by omega) (by omega)).sub hsh)
theorem Fj (h:Nat):0<bD h:=by
 have h1:=vW h
 have h2:0≤bD h:=by
  unfold bD;refine Rat.mul_nonneg (by decide +kernel) ?_;rw [Rat.mkRat_eq_div]
  exact FW (Rat.intCast_nonneg.2 (by omega)) (by
   have:=Nat.pow_pos (n:=h) (show 0<2 by omega);exact Rat.intCast_pos.2 (by omega))
 grind
theorem MK {x y:Rat} {S:Nat} (hx:x.num.natAbs≤S*x.den) (hy:y.num.natAbs≤S*y.den):(x+y).num.natAbs≤(S+S)*(x+y).den:=by
 have h1:Bd (x.den*y.den) S x:=⟨Nat.dvd_mul_right _ _,hx⟩
 have h2:Bd (x.den*y.den) S y:=⟨Nat.dvd_mul_left _ _,hy⟩
 exact (h1.add (Nat.mul_ne_zero (Nat.pos_iff_ne_zero.1 x.den_pos) (Nat.pos_iff_ne_zero.1 y.den_pos)) h2).2
def FN (en:Nat→Nat→Bool) (m n:Nat):Bool:=(List.range m).all fun l=>en l n
theorem EZ {en:Nat→Nat→Bool} {m n:Nat}:FN en m n=true↔∀ l,l<m→en l n=true:=by
 rw [FN,List.all_eq_true];exact ⟨fun h l hl=>h l (List.mem_range.2 hl),fun h l hl=>h l (List.mem_range.1 hl)⟩
def Ll (en:Nat→Nat→Bool) (m st:Nat):Option Nat:=if kP (FN en m) st (1501-st)<1501 then some (kP (FN en m) st (1501-st)) else none
theorem OA {en:Nat→Nat→Bool} {m st:Nat} (hst:st≤1500) (up:∀ l,l<m→∀ n,st≤n→n<1500→en l n=true→en l (n+1)=true):Dt en m st (Ll en m st):=by
 obtain ⟨h1,h2,h3,h4⟩:=qR (FN en m) (1501-st) st;unfold Ll;generalize kP (FN en m) st (1501-st)=N at *;refine ⟨fun n hn1 hn2=>⟨fun h=>?_,?_⟩,fun M hM=>?_,up⟩
 ·have hN:N≤n:=by
   rcases Nat.lt_or_ge n N with hlt | hge
   ·have:=h3 n hn1 hlt;rw [EZ.2 h] at this;cases this
   ·exact hge
  exact ⟨N,if_pos (by omega),hN⟩
 ·rintro ⟨M,hM,hMn⟩ l hl;split at hM
  ·rename_i hlt;simp only [Option.some.injEq] at hM;subst hM;have h5:=EZ.1 (h4 (by omega)) l hl
   have key:∀ j,N+j≤1500→en l (N+j)=true:=by
    intro j
    induction j with
    | zero=>exact fun _=>h5
    | succ j ih=>exact fun hj=>up l hl (N+j) (by omega) (by omega) (ih (by omega))
   have:=key (n-N) (by omega)
   rwa [show N+(n-N)=n by omega] at this
  ·cases hM
 ·split at hM
  ·simp only [Option.some.injEq] at hM;subst hM;exact ⟨h1,by omega⟩
  ·cases hM
def mG (k:Int):Rat:=mkRat 1 (2^k.toNat)*mkRat 1 (2^2)
def fB (E:List (List Rat)) (X aJ:Rat) (st:Nat) (t:Rat) (d:Nat) (k:Int):Option Nat:=
 Ll (KY (bH E X) (E.length-1) (aQ E X) aJ st t.abs (mG k) d) (E.length-1) st
theorem ae7:cG 999≤2^1500∧∀ m,m<5→iU m 1500≤2^45:=by decide +kernel
section
variable {E:List (List Rat)} {ER:List (List RQ)} {X:Rat} {XR:RQ}
theorem SmallX.aP3 (h:SmallX E ER X XR) (hr:iK E X) {t:Rat} (ht:Bd (cG 999) 999 t) {l n d c b:Nat} (hb:130000000≤b) (hn:n≤1500) (hn0:0<n) (hd:d<E.length-1) (hc:c≤n-d) :
  Fit 400000000 (gP t (aV (bH E X) (E.length-1) (aQ E X) (bK (E.length-1) l) n) d n c) ∧
  (gP t (aV (bH E X) (E.length-1) (aQ E X) (bK (E.length-1) l) n) d n c).num.natAbs≤2^b*(gP t (aV (bH E X) (E.length-1) (aQ E X) (bK (E.length-1) l) n) d n c).den:=by
 have hy:11+(10+80000*n+45+10*1500)≤b:=by
  have hx:80000*n≤120000000:=Nat.mul_le_mul_left 80000 hn;have hz:10*1500≤15000:=by decide
  generalize 10*1500=z at hz ⊢;generalize 80000*n=x at hx ⊢;omega
 obtain ⟨h2,h5,hld,_⟩:=hr.facts;obtain ⟨g0,g⟩:=Qr;obtain ⟨gq,gr,_,_⟩:=g (E.length-1) (by omega);obtain ⟨l9,fF⟩:=ae7;obtain ⟨Xd,hX0,hXQ,hbd⟩:=HZ (h.Qu hr l) (N:=1500) (by omega) n hn;have hXp:Xd≤2^(150000*n):=Nat.le_trans hXQ (by rw [Nat.pow_mul];exact Nat.pow_le_pow_left gq n)
 have hSp:999*eF (E.length-1) 1500 dM sM 101^n≤2^(10+80000*n):=by
  rw [Nat.pow_add,Nat.pow_mul];exact Nat.mul_le_mul (by decide) (Nat.pow_le_pow_left gr n)
 have hfz:∀ i:Nat,i<n→(bG (i:Int) d).natAbs≤iU (E.length-1) 1500:=fun i hi=>Lh (n:=i) (by omega) d (by omega) (i:Int) (by omega);exact NN (y:=b) hy (N:=1500) (c:=c) (B:=400000000) (p:=150000*n) (b:=10+80000*n) (e:=1500) (f:=10) (g:=45) hX0 (eP 999) hbd ht (by omega) hfz hn0 (by omega) (by decide) hXp hSp l9 (by decide) (fF _ (by omega)) (by omega)
structure rI (E:List (List Rat)) (X:Rat) (aJ:Rat) (st:Nat) (t:Rat) (k:Int):Prop where
 hv:eL (bH E X) (E.length-1) (aQ E X)=some (aJ,st)
 xK:st≤200
 tb:Bd (cG 999) 999 t
 tf:Fit 513 t
 t2:t.abs+t.abs≤aJ
 k256:k≤256
theorem SmallX.IX (h:SmallX E ER X XR) (hr:iK E X) {aJ t:Rat} {st:Nat} {k:Int} (S:rI E X aJ st t k) {d:Nat} (hd:d<E.length-1) :
  JA (bH E X) (E.length-1) (aQ E X) aJ st t.abs (mG k) d 100000000 200000000:=by
 obtain ⟨h2,h5,hld,_⟩:=hr.facts;obtain ⟨hh,hh62,rfl,hst,hW⟩:=dY (by omega) S.hv;have hst2:=S.xK;have hpos:=Fj hh;have hab:=Rx t;have hsmall:∀ n,st≤n→n≤1500→∀ i,i≤d→mJ 8388608 (bD hh) n i t.abs:=fun n h1 h2 i hi=>gE S.tb.abs hh62 h2 (by omega) (Nat.le_refl _);have hsh:∀ n,st≤n→n≤1500→∀ i,i≤d→cZ (bD hh) n i t.abs<1:=fun n h1 h2 i hi=>Tj hpos hab S.t2 (by omega)
 have hfb:∀ l,l<E.length-1→Fit 100000000 (rL (bH E X) (E.length-1) (aQ E X) (bD hh) st l):=fun l hl=>by
  have hs:=h.TQ hr l;have hrho:∀ j,j≤2*st+1→Fit WU (bD hh^j):=(gE S.tb.abs hh62 (n:=st) (d:=0) (by omega) (by omega) (by decide)).fo;exact (MA (fun x hx=>yF hs (by omega) hx) (by decide) (fun j hj=>hrho j (by omega)) (st:=st) (by omega) _ (Nat.le_refl _)).mono (by decide)
 refine ⟨fun n h1 h2 i hi=>gE S.tb.abs hh62 h2 (by omega) (by omega),hsh,hfb,fun l hl n h1 h2 i hi=>?_,?_,by omega,vW hh,by omega,by omega,by omega⟩
 ·exact (NV (hsmall n h1 h2 i hi) (hfb l hl) (by omega) (by omega) (by omega)).mono (by omega)
 ·exact ((qM (by have:=S.k256;omega)).mul (qM (by omega))).mono (by omega)
theorem SmallX.FX (h:SmallX E ER X XR) (hr:iK E X) {aJ t:Rat} {st:Nat} {k:Int} (S:rI E X aJ st t k) {d:Nat} (hd:d<E.length-1) :
  Dt (KY (bH E X) (E.length-1) (aQ E X) aJ st t.abs (mG k) d) (E.length-1) st (fB E X aJ st t d k):=by
 have T:=h.IX hr S hd;obtain ⟨h2,h5,hld,_⟩:=hr.facts;obtain ⟨hh,hh62,rfl,hst,hW⟩:=dY (by omega) S.hv;have hst2:=S.xK;refine OA (by omega) fun l hl n h1 h2 hen=>?_;unfold KY kU at hen ⊢;rw [List.all_eq_true] at hen ⊢;intro i hi;have hid:=List.mem_range.1 hi;have h3:=of_decide_eq_true (hen i hi);exact decide_eq_true (Rat.le_trans (Ky (Sb _ _ _ _) (Fj hh) (Rx t) (by omega) (T.sh n h1 (by omega) i (by omega))).1 h3)
theorem SmallX.ZT (h:SmallX E ER X XR) (hr:iK E X) {aJ t:Rat} {st:Nat} {k:Int} (S:rI E X aJ st t k) {N:Nat} (h1:st≤N) (h2:N≤1500) :
  Ym (bH E X) (E.length-1) (aQ E X) aJ st t N 100000000 400000000 200000000:=by
 have T:=fun d hd=>h.IX hr S (d:=d) hd;obtain ⟨hl2,h5,hld,_⟩:=hr.facts;obtain ⟨hh,hh62,rfl,hst,hW⟩:=dY (by omega) S.hv;have hst2:=S.xK;obtain ⟨bb,hbb⟩:∃ b:Nat,130000000≤b:=⟨_,Nat.le_refl _⟩
 refine ⟨fun d hd=>(T d hd).Kt N h1 h2 d (Nat.le_refl _),fun d hd=>(T d hd).sh N h1 h2 d (Nat.le_refl _),(T 0 (by omega)).fb,fun l hl d hd=>(T d hd).ft l hl N h1 h2 d (Nat.le_refl _),fun l hl x hx=>(yF (h.Gv hr l) h2 hx).mono (by decide),fun l hl d hd c hc=>(h.aP3 hr S.tb hbb h2 (by omega) hd hc).1,
  fun i hi d hd j hj=>?_,vW hh,by omega,by omega,by omega,by omega,by omega,by omega,S.tf.mono (by omega)⟩
 have hz:=mH (z:=(i:Int)) (N:=1504) j (by omega);have h2:(1504:Nat)^j≤1504^4:=Nat.pow_le_pow_right (by omega) (by omega);have h3:(1504:Nat)^4=5116716384256:=by decide
 rw [h3] at h2;exact (eA (by omega) (by omega)).mono (by omega)
theorem SmallX.aV6 (h:SmallX E ER X XR) (hr:iK E X) {aJ t:Rat} {st:Nat} {k:Int} (S:rI E X aJ st t k) :
  Zn (bH E X) (E.length-1) (aQ E X) aJ st t k 1500 Nf 100000000 200000000 400000000 (mG k) (fB E X aJ st t (E.length-1-1) k):=by
 obtain ⟨hl2,h5,hld,_⟩:=hr.facts;have T:=h.IX hr S (d:=E.length-1-1) (by omega);have L:=h.FX hr S (d:=E.length-1-1) (by omega);have hmB:=h.NY;have S':=S;obtain ⟨hh,hh62,rfl,hst,hW⟩:=dY (by omega) S.hv;have hst2:=S.xK
 exact ⟨by omega,S.k256,rfl,T,L,fun N hN=>h.ZT hr S (L.some N hN).1 (L.some N hN).2,by omega,fun l hl=>h.Gv hr l,by omega,by omega,by omega,by decide,by decide,by rw [bH,List.length_map];omega,fun p hp=>by have:=(hmB p hp).1;omega,hld,by omega,
  (gE S.tb.abs hh62 (n:=st) (d:=0) (by omega) (by omega) (by decide)).fo⟩
theorem SmallX.am5 (h:SmallX E ER X XR) (hr:iK E X) {aJ t:Rat} {st:Nat} {k:Int} (S:rI E X aJ st t k) {N:Nat} (h1:st≤N) (h2:N≤1500) {d l:Nat} (hd:d<E.length-1) (hl:l<E.length-1) :
  Fit 268435456 (Gc (bH E X) (E.length-1) (aQ E X) aJ st t k N d l)∧Fit 268435456 (Gl (bH E X) (E.length-1) (aQ E X) aJ st t k N d l):=by
 obtain ⟨hl2,h5,hld,_⟩:=hr.facts;have M:=h.ZT hr S h1 h2;have hk:=S.k256
 have hst0:0<N:=by
  obtain ⟨hh,hh62,_,hst,hW⟩:=dY (by omega) S.hv;omega
 have ho:(AE (bH E X) (E.length-1) (aQ E X) aJ st t N d l).num.natAbs≤2^200000000*(AE (bH E X) (E.length-1) (aQ E X) aJ st t N d l).den:=(Bd.ax7 (M.ft l hl d hd)).2;obtain ⟨a,ha⟩:∃ a:Nat,a=200000000:=⟨_,rfl⟩
 obtain ⟨b,hb⟩:∃ b:Nat,b=130000000:=⟨_,rfl⟩
 obtain ⟨H,hH⟩:∃ H:Nat,H=268435456:=⟨_,rfl⟩
 rw [←ha] at ho;have hs:=(h.aP3 hr S.tb (b:=b) (by omega) h2 hst0 hd (Nat.le_refl (N-d)) (l:=l)).2;rw [←hH];have hab:2^b≤2^a:=Nat.pow_le_pow_right (by omega) (by omega);have hs':=Nat.le_trans hs (Nat.mul_le_mul_right _ hab)
 have hon:(-(AE (bH E X) (E.length-1) (aQ E X) aJ st t N d l)).num.natAbs≤2^a*(-(AE (bH E X) (E.length-1) (aQ E X) aJ st t N d l)).den:=by
  show (-(AE (bH E X) (E.length-1) (aQ E X) aJ st t N d l).num).natAbs≤_;rw [Int.natAbs_neg];exact ho
 have r1:(2^a+2^a)*2^k.toNat<2^H:=by
  rw [show 2^a+2^a=2^(a+1) by rw [Nat.pow_succ];omega,←Nat.pow_add];exact Nat.pow_lt_pow_right (by omega) (by omega)
 have r2:2^k.toNat<2^H:=Nat.pow_lt_pow_right (by omega) (by omega);exact ⟨Fq (MK hs' hon) r1 r2,VX (MK hs' ho) r1 r2⟩
end
end Go.Sy
