/- Part. -/
import Derived.Test.YtdmcadckdnnglaaGreatDoorHc
set_option linter.all false
namespace Go.Sy
open Go Go.Proofs Tryz Ord
section
variable {E:List (List Rat)} {ER:List (List RQ)} {X:Rat} {XR:RQ}
end
open Go Go.Proofs Tryz Ord
abbrev aY8 (q:List (List Rat)) (m:Nat) (lead aH:Rat) (st:Nat) (t:Rat) (k:Int) (n d j:Nat):List (List aE):=(List.range j).map fun l=>ba8 (.of (Lq q m lead aH st t k n d l)) (.of (KB q m lead aH st t k n d l))
abbrev aZ3 (q:List (List Rat)) (m:Nat) (lead aH:Rat) (st:Nat) (t:Rat) (k:Int) (n i:Nat):List (List aE):=(List.range i).map fun d=>[.slice 8 (aY8 q m lead aH st t k n d m)]
open Go Go.Proofs Tryz Ord
def ZX (E:List (List Rat)) (X aH:Rat) (st:Nat) (t:Rat) (k:Int):List (List aE)×Int:=
 match kJ E X aH st t (E.length-1-1) k with
 | some N=>(aZ3 (bW E X) (E.length-1) (aZ E X) aH st t k N (E.length-1),0)
 | none=>([],1)
section
variable {E:List (List Rat)} {ER:List (List RQ)} {X:Rat} {XR:RQ}
theorem Zr (hr:kV E X) {aH t:Rat} {st:Nat} {k:Int} (hv:dN (bW E X) (E.length-1) (aZ E X)=some (aH,st)) (ht:vE t) (h2:t.abs*2≤aH) (hk:k≤256):vN E X aH st t k:=by
 have e:t.abs+t.abs=t.abs*2:=by grind
 exact ⟨hv,ht,by rw [e];exact h2,hk⟩
end
open Go Go.Proofs Tryz Ord
def ad5:Tr:=bA .lss 3 3 0 0 0 4 (.ret [(W 1 0)])
theorem XS:aL prog f273 (fun _=>none) [.v none]=ad5:=by kernel_rfl
def aA9:Tr:=.need (.call 258 [(.one (.iI 273 [])),(W 0 0)] [(some 3)]) (.call ⟨.value (.func 258),#[(.func 273),(tT 3)],#[305,40]⟩) 39 true (.ret [(G3 1)])
theorem aM0:aL prog f235 (fun _=>none) [.v none]=aA9:=by kernel_rfl
def av7:Tr:=aM 235 [(W 0 0)] [(some 3)] [3] [40] 39 false (aM 208 [(W 0 0)] [(some 3)] [5] [40] 39 true (.ret [(.agg [(U 1 0),(U 1 1),(U 1 2),(U 2 0),(U 2 1),(U 2 2)])]))
theorem Pm:aL prog f162 (fun _=>none) [.v none]=av7:=by kernel_rfl
def ac8:Tr:=.need (.callv (.u 0 0) [(.agg [(U 1 0),(U 1 1),(U 1 2)]),(.agg [(U 2 0),(U 2 1),(U 2 2)])] [(some 3)]) (.call ⟨.value (tT 7),#[(tT 9),(tT 11)],#[39,39]⟩) 39 false (.need (.callv (.u 0 0) [(.agg [(U 1 0),(U 1 1),(U 1 2)]),(.agg [(U 2 3),(U 2 4),(U 2 5)])] [(some 3)]) (.call ⟨.value (tT 13),#[(tT 15),(tT 17)],#[39,39]⟩) 39 false (.need (.callv (.u 0 0) [(.agg [(U 1 3),(U 1 4),(U 1 5)]),(.agg [(U 2 0),(U 2 1),(U 2 2)])] [(some 3)]) (.call ⟨.value (tT 19),#[(tT 21),(tT 23)],#[39,39]⟩) 39 false (.need (.callv (.u 0 0) [(.agg [(U 1 3),(U 1 4),(U 1 5)]),(.agg [(U 2 3),(U 2 4),(U 2 5)])] [(some 3)]) (.call ⟨.value (tT 25),#[(tT 27),(tT 29)],#[39,39]⟩) 39 true (.need (.lit 3 [[(.u 3 0),(.u 3 1),(.u 3 2)],[(.u 4 0),(.u 4 1),(.u 4 2)],[(.u 5 0),(.u 5 1),(.u 5 2)],[(.u 6 0),(.u 6 1),(.u 6 2)]]) (.buildSlice 40 4 #[(0,(tT 12)),(1,(tT 18)),(2,(tT 24)),(3,(tT 30))]) 40 false (aM 162 [(.one (.c (.sr 3 7)))] [(some 6)] [31] [40] 123 true (.ret [(G6 8)]))))))
theorem ak1:aL prog f156 (fun _=>none) [.v none, .v (some 6), .v (some 6)]=ac8:=by kernel_rfl
def ad9:Tr:=.need (.call 156 [(.one (.iI 36 [])),(G6 0),(G6 1)] [(some 6)]) (.call ⟨.value (.func 156),#[(.func 36),(tT 5),(tT 6)],#[224,123,123]⟩) 123 true (.ret [(G6 2)])
theorem ai3:aL prog f67 (fun _=>none) [.v (some 6), .v (some 6)]=ad9:=by kernel_rfl
def aj3:Tr:=aM 206 [(G2 1)] [none] [5] [47] 9 false (cV 2 0 6 9 (aM 136 [(G4 0)] [(some 2)] [8] [49] 47 false (aM 206 [(G2 4)] [none] [9] [47] 9 false (cV 5 0 10 9 (bM .add 3 7 11 3 0 6 0 3 (.ret [(W 7 0)]))))))
def ao1:Tr:=aM 148 [(G2 0)] [(some 2)] [4] [47] 47 false aj3
theorem ah5:aL prog f159 (fun _=>none) [.v (some 4)]=ao1:=by kernel_rfl
def at2:Tr:=.split (.u 3 0) (aM 141 [(G4 0),(G4 1)] [(some 4)] [9,10] [49,49] 49 false (aM 60 [(G4 4)] [(some 4)] [11] [49] 49 false (.need (.call 50 [(WK 1)] [(some 4)]) (.call ⟨.value (.func 50),#[(.const (I3 1))],#[2]⟩) 49 false (aM 47 [(G4 5),(G4 6)] [none] [12,13] [49,49] 3 false (bA .leq 3 14 0 7 0 4 (.ret [(W 8 0)])))))) (.ret [(tF false)])
def aC8:Tr:=aM 159 [(G4 0)] [none] [5] [49] 3 false (bA .leq 3 6 6 2 0 4 at2)
theorem Vh:aL prog f70 (fun _=>none) [.v (some 4), .v (some 4)]=aC8:=by kernel_rfl
def jD (l:List Rat):Nat→Rat
 | 0=>0
 | i+1=>if i=0∨l.getD i 0<jD l i then l.getD i 0 else jD l i
theorem CF {l:List Rat}:∀ i,i≤l.length→jD l i=0∨jD l i∈l
 | 0,_=>.inl rfl
 | i+1,h=>by
   rw [jD];split
   ·exact .inr (cS (cG (show i<l.length by omega)))
   ·exact CF i (by omega)
theorem sU {l:List Rat} {B:Nat} (h:∀ x∈l,Fit B x) (i:Nat) (hi:i≤l.length) (hB:1≤B:=by omega):Fit B (jD l i):=by
 rcases CF i hi with e | e
 ·rw [e];exact Fit.zero hB
 ·exact h _ e
theorem MK {a b:Rat}:lS a b<0↔a<b:=by
 unfold lS;by_cases h1:a<b
 ·rw [if_pos h1];exact ⟨fun h=>h1,fun h=>by omega⟩
 ·rw [if_neg h1];by_cases h2:b<a
  ·rw [if_pos h2];exact ⟨fun _=>by omega,fun h=>absurd h h1⟩
  ·rw [if_neg h2];exact ⟨fun h=>by omega,fun h=>absurd h h1⟩
theorem WX (c:Int):aN prog 273 [(.one (.int .i64 c):aF)] (.ret [.one (.bool (decide (c<0)))]):=by
 refine cM func273 XS ?_;apply vn bE rfl;exact aK rfl
theorem LN (l:List Rat) (B:Nat) (hl:∀ x∈l,Fit B x) (hB:1≤B) (hB2:B≤8589934592) (hs:l.length<1099511627776):aN prog 258 [(.one (.iI 273 []):aF),(.one (sQ l):aF)] (.ret [qT (jD l l.length)]):=by
 refine cM func258 Jc ?_;apply vn (aQ rL (aP _)) rfl;dsimp only [aA,aB];refine bF {i:Nat // i≤l.length} (fun g=>(.one (.int .i64 g.1):aF)::(qC (jD l g.1)).map .one) (fun g=>l.length-g.1) ⟨0,bR _⟩ ⟨aF.Sub.same,qP⟩ (fun _=>rfl) ?_;rintro ⟨i,hi⟩;dsimp only [aA,aB,List.map] at hi ⊢;apply vn bE rfl;dsimp only [aA,aB];refine vs _ rfl ?_ ?_<;>intro h3
 ·have hil:i<l.length:=by omega
  have hfx:=hl _ (cS (cG hil));have hfm:=sU hl i hi hB;apply vn (aW rL (cG hil) (Int.toNat_natCast i)) rfl;dsimp only [aA,aB];apply vn (bO pO (by decide) (by simp) (.inl rfl)) rfl;dsimp only [aA,aB];apply vn bQ rfl;dsimp only [aA,aB];refine vs _ rfl ?_ ?_<;>intro h7
  ·apply vn (aD) rfl
   exact aR rfl ⟨⟨i+1,by omega⟩,(by
    dsimp only;rw [jD,if_pos (.inl (by omega))];exact aO.rfl),by show l.length-(i+1)<l.length-i;omega⟩
  apply aC (wK _ _ B B hfx hfm) rfl;dsimp only [aA,aB];apply tV (f:=273) (caps:=[]) rfl (WX (lS (l.getD i 0) (jD l i))) rfl;dsimp only [aA,aB];refine vs _ rfl ?_ ?_<;>intro h12
  ·apply vn (aD) rfl
   exact aR rfl ⟨⟨i+1,by omega⟩,(by
    dsimp only;rw [jD,if_pos (.inr (MK.1 h12))];exact aO.rfl),by show l.length-(i+1)<l.length-i;omega⟩
  apply vn (aD) rfl
  exact aR rfl ⟨⟨i+1,by omega⟩,(by
   dsimp only;rw [jD,if_neg (by rintro (h | h);omega;exact h12 (MK.2 h))];exact aO.rfl),by show l.length-(i+1)<l.length-i;omega⟩
 rw [show l.length=i by omega];exact aK rfl
theorem QM (l:List Rat) (B:Nat) (hl:∀ x∈l,Fit B x) (hB:1≤B) (hB2:B≤8589934592) (hs:l.length<1099511627776):aN prog 235 [(.one (sQ l):aF)] (.ret [qT (jD l l.length)]):=by
 refine cM func235 aM0 ?_;apply aC (LN l B hl hB hB2 hs) rfl;exact aK rfl
theorem Fw (l:List Rat) (B:Nat) (hl:∀ x∈l,Fit B x) (hB:1≤B) (hB2:B≤8589934592) (hs:l.length<1099511627776):aN prog 162 [(.one (sQ l):aF)] (.ret [Cl (jD l l.length) (iK l l.length)]):=by
 refine cM func162 Pm ?_;apply aC (QM l B hl hB hB2 hs) rfl;dsimp only [aA,aB];apply aC (NH l B hl hB hB2 hs) rfl;exact aK rfl
abbrev lH (a b c d:Rat):List Rat:=[a*c,a*d,b*c,b*d]
def vM (a b c d:Rat):Rat:=jD (lH a b c d) 4
def vI (a b c d:Rat):Rat:=iK (lH a b c d) 4
theorem zX {a b c d:Rat} {A B:Nat} (ha:Fit A a) (hb:Fit A b) (hc:Fit B c) (hd:Fit B d):∀ x∈lH a b c d,Fit (A+B) x:=fun x hx=>by
 simp only [lH,List.mem_cons,List.not_mem_nil,or_false] at hx;rcases hx with rfl | rfl | rfl | rfl
 ·exact ha.mul hc
 ·exact ha.mul hd
 ·exact hb.mul hc
 ·exact hb.mul hd
theorem NN {a b c d:Rat} {A B:Nat} (h1:1≤A) (ha:Fit A a) (hb:Fit A b) (hc:Fit B c) (hd:Fit B d):Fit (A+B) (vM a b c d)∧Fit (A+B) (vI a b c d):=
 ⟨sU (zX ha hb hc hd) 4 (by simp),qI (zX ha hb hc hd) 4 (by simp)⟩
theorem ae7 (a b c d:Rat) (A B:Nat) (h1:1≤A) (ha:Fit A a) (hb:Fit A b) (hc:Fit B c) (hd:Fit B d) (h:A+B≤4294967296):aN prog 156 [(.one (.iI 36 []):aF),(Cl a b:aF),(Cl c d:aF)] (.ret [Cl (vM a b c d) (vI a b c d)]):=by
 refine cM func156 ak1 ?_;apply tV (f:=36) (caps:=[]) rfl (cY a c A B ha hc) rfl;dsimp only [aA,aB];apply tV (f:=36) (caps:=[]) rfl (cY a d A B ha hd) rfl;dsimp only [aA,aB];apply tV (f:=36) (caps:=[]) rfl (cY b c A B hb hc) rfl;dsimp only [aA,aB];apply tV (f:=36) (caps:=[]) rfl (cY b d A B hb hd) rfl;dsimp only [aA,aB];apply bL (us:=rQ (lH a b c d)) rfl;dsimp only [aA,aB];apply aC (Fw (lH a b c d) (A+B) (zX ha hb hc hd) (by omega) (by omega) (by simp)) rfl;exact aK rfl
theorem av2 (a b c d:Rat) (A B:Nat) (h1:1≤A) (ha:Fit A a) (hb:Fit A b) (hc:Fit B c) (hd:Fit B d) (h:A+B≤4294967296:=by omega):aN prog 67 [(Cl a b:aF),(Cl c d:aF)] (.ret [Cl (vM a b c d) (vI a b c d)]):=by
 refine cM func67 ai3 ?_;apply aC (ae7 a b c d A B h1 ha hb hc hd h) rfl;exact aK rfl
end Go.Sy
