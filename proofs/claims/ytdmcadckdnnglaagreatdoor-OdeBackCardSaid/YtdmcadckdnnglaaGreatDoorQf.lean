/- The reach: sums of absolute values, halved radii, doubled starts. The reach. Reach, by hand: it writes what it has found through a closure, under a deferred recover. The law's own examples. OdeChecks. An argument that reads as data, opened; a law's call shut: plain laws, of no one function.
-/
import Derived.Test.YtdmcadckdnnglaaGreatDoorQa
import Derived.Test.YtdmcadckdnnglaaGreatDoorQe
import Derived.RecoverIn
import Derived.TacticsInMore
import Derived.BigRegion
import Derived.Test.YtdmcadckdnnglaaGreatDoorPb
import Derived.Test.YtdmcadckdnnglaaGreatDoorOa
import Derived.Test.YtdmcadckdnnglaaGreatDoorCards
import Derived.Test.YtdmcadckdnnglaaGreatDoorTie
import Derived.WalkKit
import Derived.ProofKit
import Derived.OpenShut
import Derived.Deep.DeepHandedRow
import Derived.Deep.Strs
import Derived.Lib.LaidTab
set_option linter.unusedVariables false
set_option linter.unusedSimpArgs false
namespace Ord
def jU (r:List Rat) (aF:Rat):Nat→Rat
 | 0=>0
 | k+1=>jU r aF k+(r.getD k 0).abs*aF^(k+1)
def bA (h:Nat):Rat:=((4:Int):Rat)*mkRat 1 (2^h)
def fR (p:List Rat) (m i:Nat) (aF N x:Rat):Nat→Rat
 | 0=>x
 | k+1=>if i<m∨0<k then fR p m i aF N x k+(p.getD k 0).abs*aF^(m+k-i)/N^(m-i) else fR p m i aF N x k
def bK (q:List (List Rat)) (m:Nat) (aF N:Rat):Nat→Rat
 | 0=>0
 | i+1=>fR (q.getD i []) m i aF N (bK q m aF N i) (q.getD i []).length
structure aE3 (B:Nat) (q:List (List Rat)) (m:Nat) (aF:Rat) (N:Int) (L:Nat):Prop where
 fq:∀ p∈q,p.length≤L∧∀ x∈p,Fit B x
 frho:∀ j,j≤2*(m+L)+1→Fit B (aF^j)
 fN:∀ j,j≤2*m+1→Fit B ((N:Rat)^j)
 fx:∀ i k,i<q.length→k≤(q.getD i []).length→Fit B (fR (q.getD i []) m i aF N (bK q m aF N i) k)
end Ord
namespace Go.Sy
open Go Go.Proofs Tryz Ord
def WX:Tr:=aP 68 [(W 26 0)] [(some 3)] [51] [2] 39 false (bR .sub 3 53 54 0 1 4 0 3 (aP 203 [(G3 27),(W 28 0)] [(some 3)] [52,55] [39,3] 39 false (aP 207 [(G3 24),(G3 29)] [(some 3)] [47,56] [39,39] 39 true (aP 64 [(.agg [(U 13 0),(U 14 0),(U 15 0)]),(G3 30)] [(some 3)] [37,57] [39,39] 39 true (bB .add 3 25 1 12 0 3 (.back 1 [lV 32 0,lV 31 0,lV 31 1,lV 31 2]))))))
def YT:Tr:=aP 146 [(G3 18)] [(some 3)] [38] [39] 39 false (bR .add 3 41 42 0 1 12 0 3 (bR .sub 3 43 44 21 0 4 0 3 (aP 203 [(G3 1),(W 22 0)] [(some 3)] [40,45] [39,3] 39 false (aP 36 [(G3 20),(G3 23)] [(some 3)] [39,46] [39,39] 39 false (bR .sub 3 48 49 2 0 0 1 3 (bB .add 3 50 1 25 0 3 WX))))))
def MW:Tr:=.back 1 [lV 33 0,lV 32 0,lV 32 1,lV 32 2]
def Xq:Tr:=bB .add 3 50 1 26 0 3 (aP 68 [(W 27 0)] [(some 3)] [51] [2] 39 false (bR .sub 3 53 54 0 1 4 0 3 (aP 203 [(G3 28),(W 29 0)] [(some 3)] [52,55] [39,3] 39 false (aP 207 [(G3 25),(G3 30)] [(some 3)] [47,56] [39,39] 39 true (aP 64 [(.agg [(U 13 0),(U 14 0),(U 15 0)]),(G3 31)] [(some 3)] [37,57] [39,39] 39 true (bB .add 3 25 1 12 0 3 MW))))))
def Xr:Tr:=.split (.u 20 0) (aP 146 [(G3 18)] [(some 3)] [38] [39] 39 false (bR .add 3 41 42 0 1 12 0 3 (bR .sub 3 43 44 22 0 4 0 3 (aP 203 [(G3 1),(W 23 0)] [(some 3)] [40,45] [39,3] 39 false (aP 36 [(G3 21),(G3 24)] [(some 3)] [39,46] [39,39] 39 false (bR .sub 3 48 49 2 0 0 1 3 Xq)))))) (bB .add 3 25 1 12 0 3 (.back 1 [lV 21 0,lV 13 0,lV 14 0,lV 15 0]))
def aA4:Tr:=bR .lss 3 25 24 12 0 11 0 0 (.split (.u 16 0) (gE 10 0 12 0 72 23 25 (eY 17 0 (some 3) 39 28 (bR .lss 3 30 31 4 0 0 1 4 (.split (.u 19 0) YT (bB .gtr 3 34 0 12 0 4 Xr))))) (bB .add 3 18 1 4 0 3 (.back 0 [lV 17 0,lV 13 0,lV 14 0,lV 15 0])))
def al7:Tr:=.loop 0 [lK 0,lN,(.w (.one (.c (.k (.bool false))))),lN] (bR .lss 3 18 17 4 0 3 0 0 (.split (.u 8 0) (gE 0 0 4 0 31 16 18 (eY 9 0 none 72 21 (cY 10 0 23 72 (.loop 1 [lK 0,lV 5 0,lV 6 0,lV 7 0] aA4)))) (.ret [(.agg [(U 5 0),(U 6 0),(U 7 0)])])))
def ah5:Tr:=cY 0 0 16 31 al7
theorem Vy:aN prog f205 (fun _=>none) [.v (some 5), .v (some 3), .v none]=ah5:=by kernel_rfl
def Ym:Tr:=eY 26 0 (some 3) 39 36 (aP 146 [(G3 27)] [(some 3)] [39] [39] 39 false (bB .add 3 43 1 21 0 3 (aP 203 [(G3 16),(W 29 0)] [(some 3)] [42,44] [39,3] 39 false (aP 36 [(G3 28),(G3 30)] [(some 3)] [40,45] [39,39] 39 true (aP 64 [(.agg [(U 22 0),(U 23 0),(U 24 0)]),(G3 31)] [(some 3)] [38,46] [39,39] 39 true (bB .add 3 33 1 21 0 3 MW))))))
def Xy:Tr:=.need (.call 130 [(W 49 0),(WK 5)] []) (.call ⟨.value (.func 130),#[(tT 67),(.const (I3 5))],#[4,55]⟩) 0 true (aP 205 [(G5 0),(.agg [(U 45 0),(U 46 0),(U 47 0)]),(W 48 0)] [(some 3)] [69,71,73] [171,39,3] 39 false (aP 38 [(G3 50),(G3 1)] [none] [74,75] [39,39] 3 true (bB .leq 3 76 0 51 0 4 (.split (.u 52 0) (.ret [(.agg [(U 40 0),(U 41 0),(U 42 0),(U 43 0),(U 44 0),(U 45 0),(U 46 0),(U 47 0),(U 48 0)])]) (bB .mul 3 62 2 48 0 3 (.back 0 [lV 31 0,lV 32 0,lV 33 0,lV 34 0,lV 35 0,lV 36 0,lV 37 0,lV 38 0,lV 39 0,lV 40 0,lV 41 0,lV 42 0,lV 43 0,lV 44 0,lV 45 0,lV 46 0,lV 47 0,lV 53 0]))))))
def XB:Tr:=aP 38 [(G3 26),(G3 1)] [none] [51,52] [39,39] 3 true (bB .leq 3 53 0 27 0 4 (.split (.u 28 0) (aP 204 [(G5 0)] [none] [55] [171] 3 false (bR .add 3 56 58 29 0 0 1 3 (.loop 0 [lN,lK 0,lN,(.w (.one (.c (.k (.bool false))))),lN,lN,(.w (.one (.c (.k (.bool false))))),lN,lK 0,lV 3 0,lV 4 0,lV 5 0,lV 6 0,lV 7 0,lV 16 0,lV 16 1,lV 16 2,lV 30 0] (bB .leq 3 66 4096 48 0 4 Xy)))) (bB .sub 3 14 1 2 0 3 (.back 0 [lV 29 0,lV 3 0,lV 4 0,lV 5 0,lV 6 0,lV 7 0,lV 16 0,lV 16 1,lV 16 2,lV 11 0]))))
def aB7:Tr:=eY 17 0 none 72 29 (.need (.prim [(W 18 0),(WK 1)] none) (.slice 72 (tT 30) (some (.const (I3 1))) none none) 72 false (cY 19 0 31 72 (.loop 1 [lK 0,lN,(.w (.one (.c (.k (.bool false))))),lN] (bR .lss 3 33 32 21 0 20 0 0 (.split (.u 25 0) (gE 19 0 21 0 72 31 33 Ym) (aP 64 [(.agg [(U 22 0),(U 23 0),(U 24 0)]),(.agg [(U 22 0),(U 23 0),(U 24 0)])] [(some 3)] [49,50] [39,39] 39 false XB))))))
def ai1:Tr:=bB .geq 3 16 (-60) 2 0 4 (.need (.call 130 [(W 12 0),(WK 5)] []) (.call ⟨.value (.func 130),#[(tT 17),(.const (I3 5))],#[4,55]⟩) 0 true (.need (.call 68 [(WK 4)] [(some 3)]) (.call ⟨.value (.func 68),#[(.const (I3 4))],#[2]⟩) 39 false (.need (.prim [(WK 2),(W 2 0)] none) (.binOp .sub 3 (.const (I3 2)) (tT 20) 3) 3 false (aP 202 [(W 14 0)] [(some 3)] [21] [3] 39 true (aP 36 [(G3 13),(G3 15)] [(some 3)] [19,22] [39,39] 39 true (gE 0 0 0 1 31 26 28 aB7))))))
def af6:Tr:=aP 146 [(.agg [(U 0 2),(U 0 3),(U 0 4)])] [(some 3)] [12] [39] 39 true (.loop 0 [lK 2,lV 0 0,lV 0 1,lV 0 2,lV 0 3,lV 0 4,lN,(.w (.one (.c (.k (.bool false))))),lN,lK 0] ai1)
theorem Ve:aN prog f123 (fun _=>none) [.v (some 5)]=af6:=by kernel_rfl
theorem eU {B:Nat} {q:Rat} (h:Fit B q):Fit B q.abs:=by
 obtain ⟨h1,h2⟩:=kO q;exact ⟨by rw [h1];simpa using h.1,by rw [h2];exact h.2⟩
theorem uW {x:Rat} (h:x≠0):∀ j:Nat,x^j≠0
 | 0=>by rw [Rat.pow_zero];decide
 | j+1=>by
   rw [Rat.pow_succ];intro e;rcases Rat.mul_eq_zero.1 e with e | e
   ·exact uW h j e
   ·exact h e
theorem gQ {a b:Rat}:mN a b≤0↔a≤b:=by
 unfold mN;by_cases h1:a<b
 ·rw [if_pos h1];exact ⟨fun _=>by grind,fun _=>by omega⟩
 ·rw [if_neg h1];by_cases h2:b<a
  ·rw [if_pos h2];exact ⟨fun h=>by omega,fun h=>by grind⟩
  ·rw [if_neg h2];exact ⟨fun _=>by grind,fun _=>by omega⟩
set_option maxHeartbeats 1000000 in
theorem VL (q:List (List Rat)) (m:Nat) (lead aF:Rat) (n:Int) (B L:Nat) (C:aE3 B q m aF (n-m+1) L) (hql:q.length=m+1) (hm:m≤64) (hL:L≤1048576) (hn1:(m:Int)≤n) (hn2:n<1099511627776) (hB:B≤8589934592) (h64:64≤B):aK prog 205 [(xY q m lead:aG),(qT aF:aG),(.one (.int .i64 n):aG)] (.ret [qT (bK q m aF ((n-m+1:Int):Rat) q.length)]):=by
 refine aD (args:=[.v (some 5), .v (some 3), .v none]) (ins:=[.v (xY q m lead), .v (qT aF), .v (.one (.int .i64 n))]) (hints:=(fun _=>none)) fo (by kernel_rfl) func205 ⟨rfl,rfl,rfl,trivial⟩ ?_;rw [Vy];dsimp only [List.map,In.env,aA,aB];have hN0:((n-m+1:Int):Rat)≠0:=zne (by omega);refine vn (aQ KI (List.length_map _)) rfl ?_;dsimp only [aA,aB];refine bF {i:Nat // i≤q.length} (fun g=>(.one (.int .i64 g.1):aG)::(qC (bK q m aF ((n-m+1:Int):Rat) g.1)).map .one) (fun g=>q.length-g.1) ⟨0,Nat.zero_le _⟩ ⟨aG.Sub.same,qN⟩ (fun _=>rfl) ?_;rintro ⟨i,hi⟩;dsimp only [aA,aB,List.map] at hi ⊢;refine vn bE rfl ?_;dsimp only [aA,aB];refine vs _ rfl (fun h3=>?_) (fun h3=>?_)
 ·obtain ⟨p,hpi⟩:∃ p,q[i]? = some p:=⟨_,List.getElem?_eq_getElem (by omega)⟩
  have hgd:q.getD i []=p:=by rw [List.getD_eq_getElem?_getD,hpi];rfl
  obtain ⟨hpl,hfp⟩:=C.fq p (List.mem_of_getElem? hpi);have hfx:=fun k=>C.fx i k (by omega);rw [hgd] at hfx;refine vn (aY KI (by omega) (by omega) hpi) rfl ?_;dsimp only [aA,aB];refine vn (bH JX) rfl ?_;dsimp only [aA,aB];refine vn (aQ jF (List.length_map _)) rfl ?_;dsimp only [aA,aB];refine bF {k:Nat // k≤p.length} (fun g=>(.one (.int .i64 g.1):aG)::(qC (fR p m i aF ((n-m+1:Int):Rat) (bK q m aF ((n-m+1:Int):Rat) i) g.1)).map .one) (fun g=>p.length-g.1) ⟨0,Nat.zero_le _⟩ aO.rfl (fun _=>rfl) ?_;rintro ⟨k,hk⟩;dsimp only [aA,aB,List.map] at hk ⊢;refine vn bE rfl ?_;dsimp only [aA,aB];refine vs _ rfl (fun h9=>?_) (fun h9=>?_)
  ·have hkt:k<p.length:=by omega
   have hc:=eU (hfp (p.getD k 0) (List.mem_of_getElem? (cI (l:=p) hkt)));have hr:=C.frho (m+k-i) (by omega);have hNp:=C.fN (m-i) (by omega);have e1:(m:Int)+(k:Int)-(i:Int)=((m+k-i:Nat):Int):=by omega
   have e2:(m:Int)-(i:Int)=((m-i:Nat):Int):=by omega
   have hx:=hfx k (by omega);refine vn (aY jF (by omega) (Int.toNat_natCast k) (cI hkt)) rfl ?_;dsimp only [aA,aB];refine vn (bZ rZ (by decide) (by simp) (.inl rfl)) rfl ?_;dsimp only [aA,aB];refine vn bE rfl ?_;dsimp only [aA,aB];refine vs _ rfl (fun h13=>?_) (fun h13=>?_)
   ·refine aC (rA _) rfl ?_;dsimp only [aA,aB];refine vn (aE (by omega) (by omega)) rfl ?_;dsimp only [aA,aB];refine vn (aJ (by omega) (by omega)) rfl ?_;rw [e1];dsimp only [aA,aB];refine aC (iI aF (m+k-i) B (by omega) (by omega) (fun j hj=>C.frho j (by omega))) rfl ?_;dsimp only [aA,aB];refine aC (cP _ _ B B hc hr (by omega)) rfl ?_;dsimp only [aA,aB];refine vn (aJ (by omega) (by omega)) rfl ?_;dsimp only [aA,aB];refine vn (aE (by omega) (by omega)) rfl ?_;dsimp only [aA,aB];refine aC (iV (n-m+1) (by omega) (by omega)) rfl ?_;dsimp only [aA,aB];refine vn (aJ (by omega) (by omega)) rfl ?_;rw [e2];dsimp only [aA,aB];refine aC (iI _ (m-i) B (by omega) (by omega) (fun j hj=>C.fN j (by omega))) rfl ?_;dsimp only [aA,aB];refine aC (rH _ _ (B+B) B (uW hN0 _) (hc.mul hr) hNp (by omega)) rfl ?_;dsimp only [aA,aB];refine aC (kF _ _ B (B+B+B) hx ((hc.mul hr).div hNp) (by omega)) rfl ?_;dsimp only [aA,aB];refine vn (aE (by omega) (by omega)) rfl ?_;dsimp only [aA,aB]
    exact aU rfl ⟨⟨k+1,by omega⟩,(by
     dsimp only;rw [fR,if_pos (.inl (by omega))];exact aO.rfl),by show p.length-(k+1)<p.length-k;omega⟩
   refine vn eF rfl ?_;dsimp only [aA,aB];refine vs _ rfl (fun h29=>?_) (fun h29=>?_)
   ·refine aC (rA _) rfl ?_;dsimp only [aA,aB];refine vn (aE (by omega) (by omega)) rfl ?_;dsimp only [aA,aB];refine vn (aJ (by omega) (by omega)) rfl ?_;rw [e1];dsimp only [aA,aB];refine aC (iI aF (m+k-i) B (by omega) (by omega) (fun j hj=>C.frho j (by omega))) rfl ?_;dsimp only [aA,aB];refine aC (cP _ _ B B hc hr (by omega)) rfl ?_;dsimp only [aA,aB];refine vn (aJ (by omega) (by omega)) rfl ?_;dsimp only [aA,aB];refine vn (aE (by omega) (by omega)) rfl ?_;dsimp only [aA,aB];refine aC (iV (n-m+1) (by omega) (by omega)) rfl ?_;dsimp only [aA,aB];refine vn (aJ (by omega) (by omega)) rfl ?_;rw [e2];dsimp only [aA,aB];refine aC (iI _ (m-i) B (by omega) (by omega) (fun j hj=>C.fN j (by omega))) rfl ?_;dsimp only [aA,aB];refine aC (rH _ _ (B+B) B (uW hN0 _) (hc.mul hr) hNp (by omega)) rfl ?_;dsimp only [aA,aB];refine aC (kF _ _ B (B+B+B) hx ((hc.mul hr).div hNp) (by omega)) rfl ?_;dsimp only [aA,aB];refine vn (aE (by omega) (by omega)) rfl ?_;dsimp only [aA,aB]
    exact aU rfl ⟨⟨k+1,by omega⟩,(by
     dsimp only;rw [fR,if_pos (.inr (by omega))];exact aO.rfl),by show p.length-(k+1)<p.length-k;omega⟩
   refine vn (aE (by omega) (by omega)) rfl ?_;dsimp only [aA,aB]
   exact aU rfl ⟨⟨k+1,by omega⟩,(by
    dsimp only;rw [fR,if_neg (by omega)];exact aO.rfl),by show p.length-(k+1)<p.length-k;omega⟩
  refine vn (aE (by omega) (by omega)) rfl ?_;dsimp only [aA,aB]
  exact aU rfl ⟨⟨i+1,by omega⟩,(by
   dsimp only;rw [bK,hgd,show p.length=k by omega];exact aO.rfl),by show q.length-(i+1)<q.length-i;omega⟩
 rw [show q.length=i by omega];exact aL rfl
theorem Vj {E sz b T:Nat} {α:Type} {f:α→List aI} {ds:List α} {x:Operand} {ty:Nat} {y:Operand} {k:IntKind} {n:Int} {m:Nat} (h:dB prog T=some (E,sz,b)) (h0:0≤n) (hm:n.toNat=m) (hn:m≤ds.length):aZ prog (.slice T x (some y) none none) ty [.one (.slice sz (ds.map f)), .one (.int k n)] (.one (.slice sz ((ds.drop m).map f))):=by
 have:=Gv (P:=prog) (T:=T) (x:=x) (y:=y) (ty:=ty) (k:=k) (n:=n) (ts:=ds.map f) h h0 (by rw [List.length_map,hm];exact hn);rw [hm,←List.map_drop] at this;exact this
theorem mM (e:Int):aK prog 130 [.one (.bool true), .one (.int .i64 e)] (.ret []):=by
 refine aD (args:=[.v none, .v none]) (ins:=[.v (.one (.bool true)), .v (.one (.int .i64 e))]) (hints:=(fun _=>none)) fo (by kernel_rfl) func130 ⟨rfl,rfl,trivial⟩ ?_;rw [No];dsimp only [List.map,In.env,aA,aB];refine vn mL rfl ?_;dsimp only [aA,aB];refine Bt false rfl (fun h=>by cases h) (fun _=>?_);exact aL rfl
theorem vcp {P:Program} {post:Out→Prop} {f:Nat} {args:List SW} {sh:List (Option Nat)} {op:Op} {ty:Nat} {k:Tr} {τ:Env} {bk:List (List aG→Prop)} {c:aI} (hd:aK P f (args.map (oV τ)) (.pan c)) (h:post (.pan c)):vc P post (.need (.call f args sh) op ty true k) τ bk:=.inr (.inl ⟨rfl,c,hd,h⟩)
abbrev MK (e:Int):aI:=.exact (.iface 261 (.agg #[.int .i64 e]))
theorem Qm {x:Operand} {ty:Nat} (e:Int):aZ prog (.makeInterface 261 x) ty [.agg [.int .i64 e]] (.one (MK e)):=by
 intro M w ρ o ho _ hr;have hx:(aG.agg [aI.int .i64 e]).rep M w (ρ x):=AQ (x:=x) hr;obtain ⟨us,hv,hus⟩:=hx
 match us,hus with
 | [u],hus=>
   have hu:u = .int .i64 e:=hus.1.1;subst hu;have hd:(prog.underlying 261).any (fun d=>match d with | .interface _=>false | _=>true)=true:=by kernel_rfl
   refine ⟨.iface 261 (.agg #[.int .i64 e]),?_,⟨rfl,rfl⟩⟩;cases hu:prog.underlying 261 with
   | none=>rw [hu] at hd;cases hd
   | some d=>
     rw [hu] at hd;cases d<;>first | (cases hd;done) | simp [execOp,ho,hv,Instr.makeInterface,run_underlying hu]
 | [],hus=>exact hus.elim
 | _::_::_,hus=>exact hus.2.elim
theorem rP (e:Int):aK prog 130 [.one (.bool false), .one (.int .i64 e)] (.pan (MK e)):=by
 refine aD (args:=[.v none, .v none]) (ins:=[.v (.one (.bool false)), .v (.one (.int .i64 e))]) (hints:=(fun _=>none)) fo (by kernel_rfl) func130 ⟨rfl,rfl,trivial⟩ ?_;rw [No];dsimp only [List.map,In.env,aA,aB];refine vn mL rfl ?_;dsimp only [aA,aB];refine Bt true rfl (fun _=>?_) (fun h=>by cases h);refine vn (Qm e) rfl ?_;dsimp only [aA,aB];exact ⟨rfl,fun M w v h=>⟨_,_,h.1⟩⟩
abbrev kB (q:List (List Rat)) (m:Nat) (lead:Rat) (h:Nat):Prop:=jU ((q.getD m []).drop 1) (bA h) ((q.getD m []).length-1)+jU ((q.getD m []).drop 1) (bA h) ((q.getD m []).length-1)≤lead.abs
abbrev eD (q:List (List Rat)) (m:Nat) (lead:Rat) (aF:Rat) (s:Nat):Prop:=bK q m aF (((s:Int)-m+1:Int):Rat) q.length≤lead.abs
structure Ke (B:Nat) (q:List (List Rat)) (m:Nat) (lead:Rat) (L h0 s i0:Nat):Prop where
 flead:Fit B lead
 fq:∀ p∈q,p.length≤L∧∀ x∈p,Fit B x
 frho:∀ h,h≤h0→h≤62→∀ j,j≤2*L+1→Fit B (bA h^j)
 fs:∀ h,h≤h0→h≤62→∀ k,k≤L→Fit B (jU ((q.getD m []).drop 1) (bA h) k)
 fm:∀ i,i≤i0→s*2^i≤4096→aE3 B q m (bA h0) (((s*2^i:Nat):Int)-m+1) L
 fo:∀ i,i≤i0→s*2^i≤4096→Fit B (bK q m (bA h0) ((((s*2^i:Nat):Int)-m+1:Int):Rat) q.length)
theorem Vx (h:Nat):Fit (h+1) (mkRat 1 (2^h)):=by
 refine Fit.mkRat ?_ ?_ (Nat.ne_of_gt (Nat.pow_pos (by omega)))
 ·have:2^0≤2^h:=Nat.pow_le_pow_right (by omega) (Nat.zero_le _);rw [Nat.pow_succ];show (1:Nat)<_;omega
 ·exact Nat.pow_lt_pow_right (by omega) (by omega)
set_option maxHeartbeats 2000000 in
theorem FR (q:List (List Rat)) (m:Nat) (lead:Rat) (B L h0 i0:Nat) (C:Ke B q m lead L h0 (m+aV q+m) i0) (hql:q.length=m+1) (hm:m≤64) (hL:L≤1048576) (hB:B≤8589934592) (h64:64≤B) (hh:h0≤63) (hp1:1≤(q.getD m []).length) (hlow:∀ h,h<h0→¬ kB q m lead h) (hs:h0≤62→kB q m lead h0) (hst:h0≤62→∀ i,i<i0→(m+aV q+m)*2^i≤4096∧¬ eD q m lead (bA h0) ((m+aV q+m)*2^i)) (hsi:h0≤62→4096<(m+aV q+m)*2^i0∨eD q m lead (bA h0) ((m+aV q+m)*2^i0)) (hi13:i0≤13):aK prog 123 [(xY q m lead:aG)] (if h0=63∨4096<(m+aV q+m)*2^i0 then .pan (MK 5) else .ret [.agg (([eQ q, .int .i64 m]++qC lead)++qC (bA h0) ++ [.int .i64 (((m+aV q+m)*2^i0:Nat):Int)])]):=by
 refine aD (args:=[.v (some 5)]) (ins:=[.v (xY q m lead)]) (hints:=(fun _=>none)) fo (by kernel_rfl) func123 ⟨rfl,trivial⟩ ?_;rw [Ve];dsimp only [List.map,In.env,aA,aB];obtain ⟨p,hpm⟩:∃ p,q[m]? = some p:=⟨_,List.getElem?_eq_getElem (by omega)⟩
 have hgd:q.getD m []=p:=by rw [List.getD_eq_getElem?_getD,hpm];rfl
 obtain ⟨hpl,hfp⟩:=C.fq p (List.mem_of_getElem? hpm);have hfs:=C.fs;have hfl:=eU C.flead;rw [hgd] at hfs hp1;have hokr:∀ h,kB q m lead h↔jU (p.drop 1) (bA h) (p.length-1)+jU (p.drop 1) (bA h) (p.length-1)≤lead.abs:=fun h=>by rw [kB,hgd]
 have hlow:∀ h,h<h0→¬ jU (p.drop 1) (bA h) (p.length-1)+jU (p.drop 1) (bA h) (p.length-1)≤lead.abs:=fun h hh=>by rw [←hokr];exact hlow h hh
 have hs:=fun hx=>(hokr h0).1 (hs hx);refine aC (rA lead) rfl ?_;dsimp only [aA,aB]
 refine bF {h:Nat // h≤h0} (fun g=>([.one (.int .i64 (2-(g.1:Int))), .one (eQ q), .one (.int .i64 m)]:List aG)++(qC lead).map aG.one++(qC (if g.1=0 then 0 else bA (g.1-1))).map aG.one ++ [aG.one (.int .i64 0)]) (fun g=>h0-g.1) ⟨0,Nat.zero_le _⟩
  ⟨aG.Sub.same,aG.Sub.same,aG.Sub.same,aG.Sub.same,aG.Sub.same,aG.Sub.same,eV.1,eV.2.1,eV.2.2.1,aG.Sub.same,trivial⟩ (fun _=>rfl) ?_
 rintro ⟨h,hh0⟩;dsimp only [aA,aB,List.map] at hh0 ⊢;refine vn eS rfl ?_;dsimp only [aA,aB];by_cases h63:h=63
 ·rw [show decide ((-60:Int)≤2-(h:Int))=false by rw [decide_eq_false_iff_not];omega];exact vcp (rP 5) (by rw [if_pos (.inl (by omega))];rfl)
 have hh2:h≤62:=by omega
 rw [show decide ((-60:Int)≤2-(h:Int))=true by rw [decide_eq_true_iff];omega];refine aC (mM 5) rfl ?_;refine aC (iV 4 (by omega) (by omega)) rfl ?_;dsimp only [aA,aB];refine vn (aJ (by omega) (by omega)) rfl ?_;rw [show (2:Int)-(2-(h:Int))=(h:Int) by omega];dsimp only [aA,aB];refine aC (aA0 h (by omega)) rfl ?_;dsimp only [aA,aB];refine aC (cP ((4:Int):Rat) (mkRat 1 (2^h)) 64 64 (Fit.int (by omega) (by omega)) ((Vx h).mono (by omega)) (by omega)) rfl ?_;rw [show ((4:Int):Rat)*mkRat 1 (2^h)=bA h from rfl];dsimp only [aA,aB];refine vn (aY KI (by omega) (Int.toNat_natCast m) hpm) rfl ?_;dsimp only [aA,aB];refine vn (bH JX) rfl ?_;dsimp only [aA,aB];refine vn (Vj jF (by omega) (show (1:Int).toNat=1 from rfl) hp1) rfl ?_;dsimp only [aA,aB];refine vn (aQ jF (show (rQ (p.drop 1)).length=p.length-1 by rw [List.length_map,List.length_drop])) rfl ?_;dsimp only [aA,aB];refine bF {k:Nat // k≤p.length-1} (fun g=>(.one (.int .i64 g.1):aG)::(qC (jU (p.drop 1) (bA h) g.1)).map .one) (fun g=>p.length-1-g.1) ⟨0,Nat.zero_le _⟩ ⟨aG.Sub.same,qN⟩ (fun _=>rfl) ?_;rintro ⟨k,hk⟩;dsimp only [aA,aB,List.map] at hk ⊢;refine vn bE rfl ?_;dsimp only [aA,aB];refine vs _ rfl (fun h14=>?_) (fun h14=>?_)
 ·have hkt:k<(p.drop 1).length:=by rw [List.length_drop];omega
  have hc:=eU (hfp ((p.drop 1).getD k 0) (List.mem_of_mem_drop (List.mem_of_getElem? (cI (l:=p.drop 1) hkt))));refine vn (aY jF (by omega) (Int.toNat_natCast k) (cI hkt)) rfl ?_;dsimp only [aA,aB];refine vn (bZ rZ (by decide) (by simp) (.inl rfl)) rfl ?_;dsimp only [aA,aB];refine aC (rA _) rfl ?_;dsimp only [aA,aB];refine vn (aE (by omega) (by omega)) rfl ?_;dsimp only [aA,aB];refine aC (iI (bA h) (k+1) B (by omega) (by omega) (fun j hj=>C.frho h hh0 hh2 j (by omega))) rfl ?_;dsimp only [aA,aB];refine aC (cP _ _ B B hc (C.frho h hh0 hh2 (k+1) (by omega)) (by omega)) rfl ?_;dsimp only [aA,aB];refine aC (kF _ _ B (B+B) (hfs h hh0 hh2 k (by omega)) (hc.mul (C.frho h hh0 hh2 (k+1) (by omega))) (by omega)) rfl ?_;dsimp only [aA,aB];refine vn (aE (by omega) (by omega)) rfl ?_;dsimp only [aA,aB];exact aU rfl ⟨⟨k+1,by omega⟩,aO.rfl,by show p.length-1-(k+1)<p.length-1-k;omega⟩
 have hkl:p.length-1=k:=by omega
 rw [hkl] at hlow hs;refine aC (kF _ _ B B (hfs h hh0 hh2 k (by omega)) (hfs h hh0 hh2 k (by omega)) (by omega)) rfl ?_;dsimp only [aA,aB];refine aC (pV _ _ (B+B+1) B ((hfs h hh0 hh2 k (by omega)).add (hfs h hh0 hh2 k (by omega))) hfl (by omega)) rfl ?_;dsimp only [aA,aB];refine vn gW rfl ?_;dsimp only [aA,aB];refine vs _ rfl (fun h27=>?_) (fun h27=>?_)
 ·have hle:=gQ.1 h27
  have hheq:h=h0:=by
   rcases Nat.lt_or_ge h h0 with hl | hl
   ·exact (hlow h hl hle).elim
   ·omega
  subst hheq;replace hs:=hs hh2;replace hst:=hst hh2;replace hsi:=hsi hh2;have hqs:∀ p∈q,p.length<1099511627776:=fun p hp=>by have:=(C.fq p hp).1;omega
  have hdm:=qS (N:=1048576) q (fun p hp=>Nat.le_trans (C.fq p hp).1 hL);refine aC (Jk q m lead hqs (by omega) (by omega)) rfl ?_;dsimp only [aA,aB];refine vn (aE (by omega) (by omega)) rfl ?_;rw [show ((m+aV q:Nat):Int)+(m:Int)=((m+aV q+m:Nat):Int) by omega];dsimp only [aA,aB];generalize hse:m+aV q+m=s at *;refine bF {i:Nat // i≤i0} (fun g=>([.one (.exact (.slice none 0 0)), .one (.int .i64 0), .one (.exact (.slice none 0 0)), .one (.bool false), .one (.exact (.slice none 0 0)), .one (.exact (.slice none 0 0)), .one (.bool false), .one (.exact (.slice none 0 0)), .one (.int .i64 0), .one (eQ q), .one (.int .i64 m)]:List aG)++(qC lead).map aG.one++(qC (bA h)).map aG.one ++ [aG.one (.int .i64 ((s*2^g.1:Nat):Int))]) (fun g=>i0-g.1) ⟨0,Nat.zero_le _⟩ (show aO _ _ by rw [Nat.pow_zero,Nat.mul_one];exact aO.rfl) (fun _=>rfl) ?_;rintro ⟨i,hi⟩;dsimp only [aA,aB,List.map] at hi ⊢;have hpw:s*2^i≤s*2^13:=Nat.mul_le_mul_left _ (Nat.pow_le_pow_right (by omega) (by omega));have hs13:s≤1048704:=by omega
  have hsm:m≤s*2^i:=by
   have h1:1≤2^i:=Nat.pow_pos (by omega);have h2:s*1≤s*2^i:=Nat.mul_le_mul_left _ h1;omega
  obtain ⟨z,hz⟩:∃ z,s*2^i=z:=⟨_,rfl⟩
  rw [hz] at hpw hsm ⊢;refine vn gW rfl ?_;dsimp only [aA,aB];by_cases hbig:4096<z
  ·rw [show decide ((z:Int)≤4096)=false by rw [decide_eq_false_iff_not];omega];refine vcp (rP 5) ?_
   have hie:i=i0:=by
    rcases Nat.lt_or_ge i i0 with hl | hl
    ·have:=(hst i hl).1;omega
    ·omega
   subst hie;rw [if_pos (.inr (by omega))];rfl
  have hfm:=C.fm i hi (by omega);have hfo:=C.fo i hi (by omega);rw [hz] at hfm hfo;rw [show decide ((z:Int)≤4096)=true by rw [decide_eq_true_iff];omega];refine aC (mM 5) rfl ?_;refine aC (VL q m lead (bA h) (z:Int) B L hfm hql hm hL (by omega) (by omega) hB h64) rfl ?_;dsimp only [aA,aB];refine aC (pV _ _ B B hfo hfl (by omega)) rfl ?_;dsimp only [aA,aB];refine vn gW rfl ?_;dsimp only [aA,aB];refine vs _ rfl (fun h36=>?_) (fun h36=>?_)
  ·have hle2:=gQ.1 h36
   have hieq:i=i0:=by
    rcases Nat.lt_or_ge i i0 with hl | hl
    ·exact ((hst i hl).2 (by rw [eD,hz];exact hle2)).elim
    ·omega
   subst hieq;rw [if_neg (by omega),hz];exact aL rfl
  have hilt:i<i0:=by
   rcases Nat.lt_or_ge i i0 with hl | hl
   ·exact hl
   ·exfalso
    obtain rfl:i=i0:=by omega
    rw [eD,hz] at hsi;exact h36 (gQ.2 (hsi.resolve_left hbig))
  refine vn (qW (by omega) (by omega)) rfl ?_;dsimp only [aA,aB]
  exact aU rfl ⟨⟨i+1,by omega⟩,aO.of_eq (show [aG.one (.exact (.slice none 0 0)), .one (.int .i64 0), .one (.exact (.slice none 0 0)), .one (.bool false), .one (.exact (.slice none 0 0)), .one (.exact (.slice none 0 0)), .one (.bool false), .one (.exact (.slice none 0 0)), .one (.int .i64 0), .one (eQ q), .one (.int .i64 m)]++(qC lead).map aG.one++(qC (bA h)).map aG.one ++ [aG.one (.int .i64 ((z:Int)*2))]=_ by
   dsimp only;rw [Nat.pow_succ,←Nat.mul_assoc,hz];rfl),by show i0-(i+1)<i0-i;omega⟩
 have hhlt:h<h0:=by
  rcases Nat.lt_or_ge h h0 with hl | hl
  ·exact hl
  ·exfalso
   obtain rfl:h=h0:=by omega
   exact h27 (gQ.2 (hs hh2))
 refine vn (aJ (by omega) (by omega)) rfl ?_;dsimp only [aA,aB]
 exact aU rfl ⟨⟨h+1,by omega⟩,aO.of_eq (show [aG.one (.int .i64 (2-(h:Int)-1)), .one (eQ q), .one (.int .i64 m)]++(qC lead).map aG.one++(qC (bA h)).map aG.one ++ [aG.one (.int .i64 0)]=_ by
  dsimp only;rw [if_neg (by omega),Nat.add_sub_cancel,show (2:Int)-(h:Int)-1=2-((h+1:Nat):Int) by omega];rfl),by show h0-(h+1)<h0-h;omega⟩
theorem TP (q:List (List Rat)) (m:Nat) (lead:Rat) (B L h0 i0:Nat) (C:Ke B q m lead L h0 (m+aV q+m) i0) (hql:q.length=m+1) (hm:m≤64) (hL:L≤1048576) (hB:B≤8589934592) (h64:64≤B) (hh:h0≤62) (hp1:1≤(q.getD m []).length)
  (hlow:∀ h,h<h0→¬ kB q m lead h) (hs:kB q m lead h0) (hst:∀ i,i<i0→(m+aV q+m)*2^i≤4096∧¬ eD q m lead (bA h0) ((m+aV q+m)*2^i)) (hsi:eD q m lead (bA h0) ((m+aV q+m)*2^i0)) (hlim:(m+aV q+m)*2^i0≤4096) (hi13:i0≤13) :
  aK prog 123 [xY q m lead] (.ret [.agg (([eQ q, .int .i64 m]++qC lead)++qC (bA h0) ++ [.int .i64 (((m+aV q+m)*2^i0:Nat):Int)])]):=by
 have h:=FR q m lead B L h0 i0 C hql hm hL hB h64 (by omega) hp1 hlow (fun _=>hs) (fun _=>hst) (fun _=>.inr hsi) hi13;rw [if_neg (by omega)] at h;exact h
open Go Go.Proofs Go.RowKit Tryz Ord
attribute [local go_sem] Oper.semAt_some
theorem ar7 {P:Program} {W:World} {b T:Nat} {c0 c1 c2 c3 c4 c5 c6 c7 c8 u0 u1 u2 u3 u4 u5 u6 u7 u8:Value} (h:W.heap[b]? = some (.cells #[c0,c1,c2,c3,c4,c5,c6,c7,c8] T (0,0))) (o:∀ u ∈ [u0,u1,u2,u3,u4,u5,u6,u7,u8],u.oneCell'=true) :
  (((store ⟨b,0,none⟩ u0).run P W).andThen fun _ w=>((store ⟨b,1,none⟩ u1).run P w).andThen fun _ w=>((store ⟨b,2,none⟩ u2).run P w).andThen fun _ w=>((store ⟨b,3,none⟩ u3).run P w).andThen fun _ w=>((store ⟨b,4,none⟩ u4).run P w).andThen fun _ w=>((store ⟨b,5,none⟩ u5).run P w).andThen fun _ w=>((store ⟨b,6,none⟩ u6).run P w).andThen fun _ w=>((store ⟨b,7,none⟩ u7).run P w).andThen fun _ w=>(store ⟨b,8,none⟩ u8).run P w) = .ok () (W.setRow b #[u0,u1,u2,u3,u4,u5,u6,u7,u8]):=by
 have s0:(store ⟨b,0,none⟩ u0).run P W = .ok () (W.setRow b #[u0,c1,c2,c3,c4,c5,c6,c7,c8]):=by
  rw [kH h (by simp) (o _ (by simp))];rfl
 have s1:(store ⟨b,1,none⟩ u1).run P (W.setRow b #[u0,c1,c2,c3,c4,c5,c6,c7,c8]) = .ok () (W.setRow b #[u0,u1,c2,c3,c4,c5,c6,c7,c8]):=by
  rw [kH (setRow_heap W b _ _ T (0,0) h) (by simp) (o _ (by simp)),setRow_setRow];rfl
 have s2:(store ⟨b,2,none⟩ u2).run P (W.setRow b #[u0,u1,c2,c3,c4,c5,c6,c7,c8]) = .ok () (W.setRow b #[u0,u1,u2,c3,c4,c5,c6,c7,c8]):=by
  rw [kH (setRow_heap W b _ _ T (0,0) h) (by simp) (o _ (by simp)),setRow_setRow];rfl
 have s3:(store ⟨b,3,none⟩ u3).run P (W.setRow b #[u0,u1,u2,c3,c4,c5,c6,c7,c8]) = .ok () (W.setRow b #[u0,u1,u2,u3,c4,c5,c6,c7,c8]):=by
  rw [kH (setRow_heap W b _ _ T (0,0) h) (by simp) (o _ (by simp)),setRow_setRow];rfl
 have s4:(store ⟨b,4,none⟩ u4).run P (W.setRow b #[u0,u1,u2,u3,c4,c5,c6,c7,c8]) = .ok () (W.setRow b #[u0,u1,u2,u3,u4,c5,c6,c7,c8]):=by
  rw [kH (setRow_heap W b _ _ T (0,0) h) (by simp) (o _ (by simp)),setRow_setRow];rfl
 have s5:(store ⟨b,5,none⟩ u5).run P (W.setRow b #[u0,u1,u2,u3,u4,c5,c6,c7,c8]) = .ok () (W.setRow b #[u0,u1,u2,u3,u4,u5,c6,c7,c8]):=by
  rw [kH (setRow_heap W b _ _ T (0,0) h) (by simp) (o _ (by simp)),setRow_setRow];rfl
 have s6:(store ⟨b,6,none⟩ u6).run P (W.setRow b #[u0,u1,u2,u3,u4,u5,c6,c7,c8]) = .ok () (W.setRow b #[u0,u1,u2,u3,u4,u5,u6,c7,c8]):=by
  rw [kH (setRow_heap W b _ _ T (0,0) h) (by simp) (o _ (by simp)),setRow_setRow];rfl
 have s7:(store ⟨b,7,none⟩ u7).run P (W.setRow b #[u0,u1,u2,u3,u4,u5,u6,c7,c8]) = .ok () (W.setRow b #[u0,u1,u2,u3,u4,u5,u6,u7,c8]):=by
  rw [kH (setRow_heap W b _ _ T (0,0) h) (by simp) (o _ (by simp)),setRow_setRow];rfl
 have s8:(store ⟨b,8,none⟩ u8).run P (W.setRow b #[u0,u1,u2,u3,u4,u5,u6,u7,c8]) = .ok () (W.setRow b #[u0,u1,u2,u3,u4,u5,u6,u7,u8]):=by
  rw [kH (setRow_heap W b _ _ T (0,0) h) (by simp) (o _ (by simp)),setRow_setRow];rfl
 rw [s0,Result.andThen_ok,s1,Result.andThen_ok,s2,Result.andThen_ok,s3,Result.andThen_ok,s4,Result.andThen_ok,s5,Result.andThen_ok,s6,Result.andThen_ok,s7,Result.andThen_ok,s8]
theorem aF6 {M:Nat→Prop} {w:World} {a b c d e f g h i:aI} {vs:List Value} (hr:aW M w [a,b,c,d,e,f,g,h,i] vs):∃ u0 u1 u2 u3 u4 u5 u6 u7 u8,vs = [u0,u1,u2,u3,u4,u5,u6,u7,u8]:=by
 have hl:=hr.length
 match vs,hl with
 | [u0,u1,u2,u3,u4,u5,u6,u7,u8],_=>exact ⟨_,_,_,_,_,_,_,_,_,rfl⟩
theorem bb1 {M:Nat→Prop} {w:World} {a b c d e:aI} {vs:List Value} (hr:aW M w [a,b,c,d,e] vs):∃ u0 u1 u2 u3 u4,vs = [u0,u1,u2,u3,u4]:=by
 have hl:=hr.length
 match vs,hl with
 | [u0,u1,u2,u3,u4],_=>exact ⟨_,_,_,_,_,rfl⟩
theorem ay6 {M:Nat→Prop} {w:World} {cs:List aI} {vs:List Value} (h:cG M w [.agg cs] vs):∃ us,pack vs = .agg us.toArray∧aW M w cs us:=by
 match vs,h with
 | [v],h=>
   obtain ⟨us,rfl,hus⟩:=h.1;exact ⟨us,rfl,hus⟩
 | [],h=>exact h.elim
 | _::_::_,h=>exact h.2.elim
abbrev zF (q:List (List Rat)) (m:Nat) (lead aF:Rat) (st:Int):List aI:=([eQ q, .int .i64 m]++qC lead)++qC aF ++ [.int .i64 st]
set_option maxRecDepth 100000 in
set_option maxHeartbeats 400000 in
theorem Qe (M:Nat→Prop) (w:World) (hM:dK M w) (e:List (List Rat)) (c:Rat) (q:List (List Rat)) (m:Nat) (lead aF:Rat) (st:Int)
  (hat:aK prog 100 [.one (eQ e),qT c] (.ret [xY q m lead])) (hre:aK prog 123 [xY q m lead] (.ret [.agg (zF q m lead aF st)]))
  (b0 b1 A:Nat) (ev u0 u1 u2:Value) (T0 T1:Nat) (z0 z1 z2 z3 z4 z5 z6 z7 z8:Value) (h0:w.heap[b0]? = some (.cells #[ev] T0 (0,0))) (h1:w.heap[b1]? = some (.cells #[u0,u1,u2] T1 (0,0))) (hA:w.heap[A]? = some (.cells #[z0,z1,z2,z3,z4,z5,z6,z7,z8] 185 (0,0)))
  (hMA:M A) (he:(eQ e).rep M w ev) (hc:aW M w (qC c) [u0,u1,u2]) :
  Calls prog 122 #[.pointer (some ⟨b0,0,none⟩), .pointer (some ⟨b1,0,none⟩), .pointer (some ⟨A,0,none⟩)] w fun e w'=>e = .returned (.tuple #[])∧w.grownBy w' (some A) ∧
   ∃ y0 y1 y2 y3 y4 y5 y6 y7 y8,w'.heap[A]? = some (.cells #[y0,y1,y2,y3,y4,y5,y6,y7,y8] 185 (0,0))∧aW M w' (zF q m lead aF st) [y0,y1,y2,y3,y4,y5,y6,y7,y8]:=by
 refine calls_of_wp func122 rfl ?_;simp only [ntmps122,List.size_toArray,List.length_cons,List.length_nil,Nat.reduceAdd,Nat.reduceSub,Array.replicate_succ,Array.replicate_zero,List.push_toArray,List.append_toArray,List.nil_append,List.cons_append];have c0:w.cell? ⟨b0,0,none⟩=some ev:=aH h0 rfl;have d0:w.cell? ⟨b1,0,none⟩=some u0:=aH h1 rfl;have d1:w.cell? ⟨b1,1,none⟩=some u1:=aH h1 rfl;have d2:w.cell? ⟨b1,2,none⟩=some u2:=aH h1 rfl
 have k1:Calls prog 100 #[ev, .agg #[u0,u1,u2]] w fun e w'=>Below w.heap.size w w'∧∃ s0 s1 s2 s3 s4,e = .returned (.agg #[s0,s1,s2,s3,s4])∧aW M w' ([eQ q, .int .i64 m]++qC lead) [s0,s1,s2,s3,s4]:=by
  refine (hat.2 M w [ev, .agg #[u0,u1,u2]] hM ⟨he,⟨[u0,u1,u2],rfl,hc⟩,trivial⟩).mono ?_;rintro e w' ⟨hb,vs,rfl,hvs⟩;obtain ⟨us,e1,hus⟩:=ay6 hvs;obtain ⟨s0,s1,s2,s3,s4,rfl⟩:=bb1 hus;exact ⟨hb,s0,s1,s2,s3,s4,by rw [e1],hus⟩
 obtain ⟨la,hla⟩:∃ la,w.heap.size=la:=⟨_,rfl⟩
 have hAl:A<w.heap.size:=hM.1 A hMA
 go_wp2_with (go_at_call 100;refine k1.mono ?_;clear k1;rintro e w1 ⟨hb1,s0,s1,s2,s3,s4,rfl,hs⟩)
 have hM1:dK M w1:=⟨fun b hb=>Nat.lt_of_lt_of_le (hM.1 b hb) hb1.size,hM.2.below rfl hb1⟩
 refine (hre.2 M w1 [.agg #[s0,s1,s2,s3,s4]] hM1 ⟨⟨_,rfl,hs⟩,trivial⟩).mono ?_;rintro e w2 ⟨hb2,vs,rfl,hvs⟩;obtain ⟨us,e1,hus⟩:=ay6 hvs;obtain ⟨y0,y1,y2,y3,y4,y5,y6,y7,y8,rfl⟩:=aF6 hus;rw [e1];have hA2:w2.heap[A]? = some (.cells #[z0,z1,z2,z3,z4,z5,z6,z7,z8] 185 (0,0)):=(hb2.block A (Nat.lt_of_lt_of_le hAl hb1.size)).trans ((hb1.block A hAl).trans hA)
 go_wp2
 rw [ar7 hA2 hus.one]
 have hg:w.grownBy (w2.setRow A #[y0,y1,y2,y3,y4,y5,y6,y7,y8]) (some A):=by
  have hb:=hb1.trans (hb2.mono hb1.size);refine ⟨hb.os,hb.tape,hb.output,by have:=hb.size;simpa [World.setRow] using this,fun k hk hne=>?_⟩;rw [setRow_other _ _ _ _ (fun e=>hne (by rw [e]))];exact hb.block k hk
 have hk:bX M w2 M (w2.setRow A #[y0,y1,y2,y3,y4,y5,y6,y7,y8]):=fun b o hb ho _=>⟨hb,by rw [setRow_other _ _ _ _ (fun e=>hb (by rw [e];exact hMA))];exact ho⟩
 have hself:(w2.setRow A #[y0,y1,y2,y3,y4,y5,y6,y7,y8]).heap[A]? = some (.cells #[y0,y1,y2,y3,y4,y5,y6,y7,y8] 185 (0,0)):=setRow_heap _ _ _ _ _ _ hA2;generalize w2.setRow A #[y0,y1,y2,y3,y4,y5,y6,y7,y8]=w3 at *
 go_wp2
 refine bodyPost_end (results_none rfl _ _ _) rfl ?_;exact ⟨rfl,hg,y0,y1,y2,y3,y4,y5,y6,y7,y8,hself,hus.mono hk⟩
theorem My (p:Addr) (w:World) :
  CallsD prog 201 #[.pointer (some p)] .returning w fun e u' w'=>e = .returned (.tuple #[])∧u' = .returning∧w'=w:=by
 refine callsD_of_wpS func201 rfl fun c₀ cs hu=>?_;apply wpS_seq;apply wpS_region;simp [wpOpsS,go_sem,recoverD,hu,ntmps201,Exit.thenS];apply wpS_seq;apply wpS_region;simp [wpOpsS,go_sem,Exit.thenS];refine wpS_cond (t:=false) (by simp [Act.eval,Array.replicate]) ?_;simp only [Bool.false_eq_true,if_false];refine wpS_of_wp (wp_skip ?_);cases c₀
 simp_all [bodyPostS,results,show f201.results = #[] from rfl]
theorem Gm (g:FuncId) (caps:Array Value) (w:World) (Pw:World→Prop) (eg:∀ args w,(callFunc g args).run prog w = .ok (.enter g args) w)
  (h:Calls prog g caps (w.alloc (.cells #[.int .i64 0] 55)) fun e w'=>e = .returned (.tuple #[])∧w'.heap[w.heap.size]? = some (.cells #[.int .i64 0] 55 (0,0))∧Pw w') :
  Calls prog 121 #[.func (.func g) #[] caps] w fun e w'=>e = .returned (.int .i64 0)∧∃ w1,Pw w1∧w'=w1.setRow w.heap.size #[.int .i64 0]∧w1.heap[w.heap.size]? = some (.cells #[.int .i64 0] 55 (0,0)):=by
 have hmf:∀ (fn:Fn) (first cap:Array Value) (w:World),(Instr.makeFunc fn first cap).run prog w = .ok (.func fn first cap) w:=fun _ _ _ _=>rfl
 go_enter_defers func121,ntmps121
 go_wp2
 refine h.mono ?_;rintro e w1 ⟨rfl,hb,hP⟩;have cb:w1.cell? ⟨w.heap.size,0,none⟩=some (.int .i64 0):=aH hb rfl;have fb:w1.frozen? ⟨w.heap.size,0,none⟩=false:=by simp [World.frozen?,hb]
 go_wp2
 refine leaves_cons (f:=201) (args:=#[.pointer (some ⟨w.heap.size,0,none⟩)]) (by simp) (by simp [go_sem]) ?_;refine (My ⟨w.heap.size,0,none⟩ _).mono ?_;rintro e u' w'' ⟨rfl,rfl,rfl⟩;rw [setCell_eq_setRow w1 w.heap.size 0 _ _ _ _ hb,show (#[Value.int .i64 0].setIfInBounds 0 (.int .i64 0)) = #[Value.int .i64 0] from rfl];have hb2:(w1.setRow w.heap.size #[Value.int .i64 0]).heap[w.heap.size]? = some (.cells #[.int .i64 0] 55 (0,0)):=setRow_heap _ _ _ _ _ _ hb;have cb2:(w1.setRow w.heap.size #[Value.int .i64 0]).cell? ⟨w.heap.size,0,none⟩=some (.int .i64 0):=aH hb2 rfl;simp [Leaves,settle,results,show f121.results = #[.cell 2 55] from rfl,go_sem,cb2];exact ⟨w1,hP,rfl,hb⟩
set_option maxRecDepth 100000 in
set_option maxHeartbeats 400000 in
theorem Sf (M:Nat→Prop) (w:World) (hM:dK M w) (e:List (List Rat)) (c:Rat) (q:List (List Rat)) (m:Nat) (lead aF:Rat) (st:Int)
  (hce:aK prog 19 [.one (eQ e)] (.ret [.one (.int .i64 0)])) (hrg:aK prog 97 [.one (eQ e),qT c] (.ret [.one (.bool true)]))
  (hat:aK prog 100 [.one (eQ e),qT c] (.ret [xY q m lead])) (hre:aK prog 123 [xY q m lead] (.ret [.agg (zF q m lead aF st)]))
  (ev u0 u1 u2:Value) (he:(eQ e).rep M w ev) (hc:aW M w (qC c) [u0,u1,u2]) :
  Calls prog 41 #[ev, .agg #[u0,u1,u2]] w fun e w'=>Below w.heap.size w w'∧∃ y0 y1 y2,e = .returned (.tuple #[.agg #[y0,y1,y2], .int .i64 st, .int .i64 0])∧aW M w' (qC aF) [y0,y1,y2]:=by
 have hmf:∀ (fn:Fn) (first cap:Array Value) (w:World),(Instr.makeFunc fn first cap).run prog w = .ok (.func fn first cap) w:=fun _ _ _ _=>rfl;obtain ⟨n0,hn0⟩:∃ n0,w.heap.size=n0:=⟨_,rfl⟩
 obtain ⟨o0,o1,o2⟩:u0.oneCell'=true∧u1.oneCell'=true∧u2.oneCell'=true:=by have:=hc.one;exact ⟨this _ (by simp),this _ (by simp),this _ (by simp)⟩
 refine calls_of_wp func41 rfl ?_;simp only [ntmps41,List.size_toArray,List.length_cons,List.length_nil,Nat.reduceAdd,Nat.reduceSub,Array.replicate_succ,Array.replicate_zero,List.push_toArray,List.append_toArray,List.nil_append,List.cons_append]
 obtain ⟨ea,ecap,rfl,_⟩:∃ ea ecap,ev = .slice ea e.length ecap∧True:=by
  have he':=he;obtain ⟨ea,ecap,rfl,_⟩:=he';exact ⟨ea,ecap,by rw [List.length_map],trivial⟩
 obtain ⟨Wa,hWa⟩:∃ Wa,(((w.alloc (.cells #[.slice ea e.length ecap] 32)).alloc (.cells #[u0,u1,u2] 39)).alloc (.cells #[.slice none 0 0, .bool false, .slice none 0 0] 39))=Wa:=⟨_,rfl⟩
 have hsa:Wa.heap.size=n0+3:=by rw [←hWa];simp [hn0]
 have hEa:Wa.heap[n0]? = some (.cells #[.slice ea e.length ecap] 32 (0,0)):=by rw [←hWa,heap_alloc_old _ _ _ (by simp;omega),heap_alloc_old _ _ _ (by simp;omega),←hn0];exact heap_alloc_new w _
 have hCa:Wa.heap[n0+1]? = some (.cells #[u0,u1,u2] 39 (0,0)):=by
  rw [←hWa,heap_alloc_old _ _ _ (by simp;omega)];have:=heap_alloc_new (w.alloc (.cells #[.slice ea e.length ecap] 32)) (.cells #[u0,u1,u2] 39);rw [World.size_alloc,hn0] at this;exact this
 have hRa:Wa.heap[n0+2]? = some (.cells #[.slice none 0 0, .bool false, .slice none 0 0] 39 (0,0)):=by
  rw [←hWa];have:=heap_alloc_new ((w.alloc (.cells #[.slice ea e.length ecap] 32)).alloc (.cells #[u0,u1,u2] 39)) (.cells #[.slice none 0 0, .bool false, .slice none 0 0] 39);rw [World.size_alloc,World.size_alloc,hn0] at this;exact this
 have hBa:Below w.heap.size w Wa:=by
  rw [←hWa];exact (((Below.refl _ w).alloc (by omega) _).alloc (by simp) _).alloc (by simp;omega) _
 have hka:bX M w M Wa:=bX.below hBa;have hMa:dK M Wa:=⟨fun b hb=>Nat.lt_of_lt_of_le (hM.1 b hb) hBa.size,hM.2.iY hka⟩
 have he0:=he;have hc0:=hc;replace he:=aI.mono _ hka he;replace hc:=hc.mono hka;have cE:Wa.cell? ⟨n0,0,none⟩=some (.slice ea e.length ecap):=aH hEa rfl
 have k1:Calls prog 19 #[.slice ea e.length ecap] Wa fun r w'=>Below Wa.heap.size Wa w'∧r = .returned (.int .i64 0):=by
  refine (hce.2 M Wa [.slice ea e.length ecap] hMa ⟨he,trivial⟩).mono ?_;rintro r w' ⟨hb,vs,rfl,hvs⟩;obtain ⟨v,e1,hr⟩:=PQ hvs;rw [hr.1] at e1;exact ⟨hb,by rw [e1]⟩
 have k2:∀ w1,Below Wa.heap.size Wa w1→Calls prog 97 #[.slice ea e.length ecap, .agg #[u0,u1,u2]] w1 fun r w'=>Below w1.heap.size w1 w'∧r = .returned (.bool true):=by
  intro w1 hb;refine (hrg.2 M w1 [.slice ea e.length ecap, .agg #[u0,u1,u2]] ⟨fun b h=>Nat.lt_of_lt_of_le (hMa.1 b h) hb.size,hMa.2.below rfl hb⟩ ⟨aI.mono _ (bX.below hb) he,⟨_,rfl,hc.mono (bX.below hb)⟩,trivial⟩).mono ?_;rintro r w' ⟨hb,vs,rfl,hvs⟩;obtain ⟨v,e1,hr⟩:=PQ hvs;rw [hr.1] at e1;exact ⟨hb,by rw [e1]⟩
 go_wp2_with (first | (go_at_call 19;refine k1.mono ?_;clear k1;rintro r w1 ⟨hb1,rfl⟩;have cE1:w1.cell? ⟨n0,0,none⟩=some (.slice ea e.length ecap):=aH ((hb1.block n0 (by omega)).trans hEa) rfl;have cC0:w1.cell? ⟨n0+1,0,none⟩=some u0:=aH ((hb1.block (n0+1) (by omega)).trans hCa) rfl;have cC1:w1.cell? ⟨n0+1,1,none⟩=some u1:=aH ((hb1.block (n0+1) (by omega)).trans hCa) rfl;have cC2:w1.cell? ⟨n0+1,2,none⟩=some u2:=aH ((hb1.block (n0+1) (by omega)).trans hCa) rfl) | (go_at_call 97;refine (k2 _ hb1).mono ?_;clear k2;rintro r w2 ⟨hb2,rfl⟩))
 obtain ⟨A,hA⟩:∃ A,w2.heap.size=A:=⟨_,rfl⟩
 obtain ⟨W3,hW3⟩:∃ W3,w2.alloc (.cells #[.slice none 0 0, .int .i64 0, .slice none 0 0, .bool false, .slice none 0 0, .slice none 0 0, .bool false, .slice none 0 0, .int .i64 0] 185)=W3:=⟨_,rfl⟩
 have hb2':=hb1.trans (hb2.mono hb1.size);have hs2:n0+3≤A:=by have:=hb2'.size;omega
 have hs3:W3.heap.size=A+1:=by rw [←hW3,World.size_alloc,hA]
 have hA3:W3.heap[A]? = some (.cells #[.slice none 0 0, .int .i64 0, .slice none 0 0, .bool false, .slice none 0 0, .slice none 0 0, .bool false, .slice none 0 0, .int .i64 0] 185 (0,0)):=by rw [←hW3,←hA];exact heap_alloc_new w2 _
 have hB3:Below Wa.heap.size Wa W3:=by rw [←hW3];exact hb2'.alloc (by omega) _
 rw [hA,hW3];obtain ⟨W4,hW4⟩:∃ W4,W3.alloc (.cells #[.int .i64 0] 55)=W4:=⟨_,rfl⟩
 have hB4:Below Wa.heap.size Wa W4:=by rw [←hW4];exact hB3.alloc (by omega) _
 have hs4:W4.heap.size=A+2:=by rw [←hW4,World.size_alloc,hs3]
 have hA4:W4.heap[A]? = some (.cells #[.slice none 0 0, .int .i64 0, .slice none 0 0, .bool false, .slice none 0 0, .slice none 0 0, .bool false, .slice none 0 0, .int .i64 0] 185 (0,0)):=by rw [←hW4,heap_alloc_old _ _ _ (by omega)];exact hA3
 have hX4:W4.heap[W3.heap.size]? = some (.cells #[.int .i64 0] 55 (0,0)):=by rw [←hW4];exact heap_alloc_new W3 _
 have hk4:bX M w (fun b=>M b∨b=A∨b=n0+2) W4:=fun b o hb ho _=>by
  have hlt:=(Array.getElem?_eq_some_iff.1 ho).1;have h3:b<Wa.heap.size:=by omega
  exact ⟨fun h=>h.elim hb (fun h=>by omega),(hB4.block b h3).trans ((hBa.block b hlt).trans ho)⟩
 have hM4:dK (fun b=>M b∨b=A∨b=n0+2) W4:=⟨fun b h=>h.elim (fun h=>Nat.lt_of_lt_of_le (hMa.1 b h) hB4.size) (fun h=>by omega),hM.2.iY hk4⟩
 have hr1:=Qe (fun b=>M b∨b=A∨b=n0+2) W4 hM4 e c q m lead aF st hat hre n0 (n0+1) A (.slice ea e.length ecap) u0 u1 u2 _ _ _ _ _ _ _ _ _ _ _ ((hB4.block _ (by omega)).trans hEa) ((hB4.block _ (by omega)).trans hCa) hA4 (.inr (.inl rfl)) (aI.mono _ hk4 he0) (hc0.mono hk4)
 have hc1:=Gm 122 #[.pointer (some ⟨n0,0,none⟩), .pointer (some ⟨n0+1,0,none⟩), .pointer (some ⟨A,0,none⟩)] W3 (fun w'=>W4.grownBy w' (some A)∧∃ y0 y1 y2 y3 y4 y5 y6 y7 y8,w'.heap[A]? = some (.cells #[y0,y1,y2,y3,y4,y5,y6,y7,y8] 185 (0,0))∧aW (fun b=>M b∨b=A∨b=n0+2) w' (zF q m lead aF st) [y0,y1,y2,y3,y4,y5,y6,y7,y8]) (bP (by kernel_rfl)) (by
  rw [hW4];refine hr1.mono ?_;rintro r w' ⟨rfl,hg,hy⟩;exact ⟨rfl,(hg.block _ (by omega) (fun e=>by simp only [Option.some.injEq] at e;omega)).trans hX4,hg,hy⟩)
 refine hc1.mono ?_;clear hc1 hr1;rintro r w7 ⟨rfl,w6,⟨hg,y0,y1,y2,y3,y4,y5,y6,y7,y8,hA6,hy⟩,rfl,hX6⟩;obtain ⟨W7,hW7⟩:∃ W7,w6.setRow W3.heap.size #[.int .i64 0]=W7:=⟨_,rfl⟩
 have h7:∀ j,j≠A+1→W7.heap[j]? = w6.heap[j]?:=fun j hj=>by rw [←hW7,setRow_other _ _ _ _ (by omega)]
 have hA7:W7.heap[A]? = some (.cells #[y0,y1,y2,y3,y4,y5,y6,y7,y8] 185 (0,0)):=(h7 A (by omega)).trans hA6;have hs7:W7.heap.size=w6.heap.size:=by rw [←hW7];simp [World.setRow]
 have ho7:W7.os=w6.os∧W7.tape=w6.tape∧W7.output=w6.output:=by rw [←hW7];exact ⟨rfl,rfl,rfl⟩
 rw [hW7]
 have hB7:Below Wa.heap.size Wa W7:=by
  refine ⟨by rw [ho7.1,hg.os,hB4.os],by rw [ho7.2.1,hg.tape,hB4.tape],by rw [ho7.2.2,hg.output,hB4.output],by have:=hg.size;omega,fun k hk=>?_⟩;rw [h7 k (by omega),hg.block k (by omega) (fun e=>by simp only [Option.some.injEq] at e;omega),hB4.block k hk]
 have hR7:W7.heap[n0+2]? = some (.cells #[.slice none 0 0, .bool false, .slice none 0 0] 39 (0,0)):=(hB7.block _ (by omega)).trans hRa;have g5:W7.cell? ⟨A,5,none⟩=some y5:=aH hA7 rfl;have g6:W7.cell? ⟨A,6,none⟩=some y6:=aH hA7 rfl;have g7:W7.cell? ⟨A,7,none⟩=some y7:=aH hA7 rfl;have g8:W7.cell? ⟨A,8,none⟩=some (.int .i64 st):=by rw [←(show y8=_ from hy.2.2.2.2.2.2.2.2.1.1)];exact aH hA7 rfl
 have p5:y5.oneCell'=true:=hy.one _ (by simp);have p6:y6.oneCell'=true:=hy.one _ (by simp);have p7:y7.oneCell'=true:=hy.one _ (by simp);have r0:W7.cell? ⟨n0+2,0,none⟩=some (.slice none 0 0):=aH hR7 rfl;have r1:W7.cell? ⟨n0+2,1,none⟩=some (.bool false):=aH hR7 rfl;have r2:W7.cell? ⟨n0+2,2,none⟩=some (.slice none 0 0):=aH hR7 rfl;have fr:∀ j,W7.frozen? ⟨n0+2,j,none⟩=false:=fun j=>by simp [World.frozen?,hR7]
 have st3:(((store ⟨n0+1+1,0,none⟩ y5).run prog W7.drew).andThen fun _ w'=>((store ⟨n0+1+1,1,none⟩ y6).run prog w').andThen fun _ w'=>(store ⟨n0+1+1,2,none⟩ y7).run prog w') = .ok () (W7.drew.setRow (n0+2) #[y5,y6,y7]):=vS (W:=W7.drew) hR7 p5 p6 p7;have hd:W7.drew.heap=W7.heap:=rfl
 have g8':(W7.drew.setRow (n0+2) #[y5,y6,y7]).cell? ⟨A,8,none⟩=some (.int .i64 st):=by
  rw [World.cell?_of_block (w:=W7.drew) (a:=⟨A,8,none⟩) (setRow_other _ _ _ _ (show A≠n0+2 by omega))];exact g8
 go_wp2
 go_region
 have hs9:(W7.drew.setRow (n0+2) #[y5,y6,y7]).heap[n0+2]? = some (.cells #[y5,y6,y7] 39 (0,0)):=setRow_heap _ _ _ _ _ _ hR7;have hb9:Below w.heap.size w (W7.drew.setRow (n0+2) #[y5,y6,y7]):=below_setRow (hBa.trans (hB7.drew.mono hBa.size)) (by omega) _
 have hk9:bX (fun b=>M b∨b=A∨b=n0+2) w6 M (W7.drew.setRow (n0+2) #[y5,y6,y7]):=fun b o hb ho _=>by
  refine ⟨fun h=>hb (.inl h),?_⟩;rw [setRow_other _ _ _ _ (fun e=>hb (.inr (.inr e)))];show W7.heap[b]? = some o;by_cases hbx:b=A+1
  ·subst hbx;rw [hs3] at hX6 hW7;rw [hX6] at ho;rw [←ho,←hW7];exact setRow_heap _ _ _ _ _ _ hX6
  ·rw [h7 b hbx];exact ho
 generalize hW9:W7.drew.setRow (n0+2) #[y5,y6,y7]=W9 at *;have t0:W9.cell? ⟨n0+2,0,none⟩=some y5:=aH hs9 rfl;have t1:W9.cell? ⟨n0+2,1,none⟩=some y6:=aH hs9 rfl;have t2:W9.cell? ⟨n0+2,2,none⟩=some y7:=aH hs9 rfl
 go_wp2
 have hy3:aW M W9 (qC aF) [y5,y6,y7]:=(show aW (fun b=>M b∨b=A∨b=n0+2) w6 (qC aF) [y5,y6,y7] from ⟨hy.2.2.2.2.2.1,hy.2.2.2.2.2.2.1,hy.2.2.2.2.2.2.2.1,trivial⟩).mono hk9;clear hy hk9;simp [bodyPost,results,show f41.results = #[.cell 4 39, .tmp 5, .tmp 6] from rfl,go_sem,t0,t1,t2];exact ⟨hb9,y5,y6,y7,⟨rfl,rfl,rfl⟩,hy3⟩
theorem SO {M:Nat→Prop} {w:World} {a b c:aI} {vs:List Value} (hr:aW M w [a,b,c] vs):∃ u0 u1 u2,vs = [u0,u1,u2]:=by
 have hl:=hr.length
 match vs,hl with
 | [u0,u1,u2],_=>exact ⟨_,_,_,rfl⟩
theorem Ku (e:List (List Rat)) (c:Rat) (q:List (List Rat)) (m:Nat) (lead aF:Rat) (st:Int)
  (hce:aK prog 19 [.one (eQ e)] (.ret [.one (.int .i64 0)])) (hrg:aK prog 97 [.one (eQ e),qT c] (.ret [.one (.bool true)]))
  (hat:aK prog 100 [.one (eQ e),qT c] (.ret [xY q m lead])) (hre:aK prog 123 [xY q m lead] (.ret [.agg (zF q m lead aF st)])) :
  aK prog 41 [.one (eQ e),qT c] (.ret [qT aF, .one (.int .i64 st), .one (.int .i64 0)]):=by
 refine ⟨bP (by kernel_rfl),fun M w vs hM hv=>?_⟩
 match vs,hv with
 | [v,u],hv=>
   obtain ⟨us,rfl,hus⟩:=hv.2.1;obtain ⟨u0,u1,u2,rfl⟩:=SO hus;refine (Sf M w hM e c q m lead aF st hce hrg hat hre v u0 u1 u2 hv.1 hus).mono ?_;rintro r w' ⟨hb,y0,y1,y2,rfl,hy⟩;exact ⟨hb,[.agg #[y0,y1,y2], .int .i64 st, .int .i64 0],rfl,⟨_,rfl,hy⟩,⟨rfl,rfl⟩,⟨rfl,rfl⟩,trivial⟩
 | [],hv=>exact hv.elim
 | [_],hv=>exact hv.2.elim
 | _::_::_::_,hv=>exact hv.2.2.elim
end Go.Sy
namespace Go.Sy
open Go Go.Proofs Tryz Ord
def aA9:Tr:=aP 18 [(W 0 0),(W 1 0)] [(some 5),none] [8,9] [5,3] 56 false (.ret [(G5 2)])
theorem UI:aN prog f53 (fun _=>none) [.v none, .v none]=aA9:=by kernel_rfl
def rK:Tr:=.ret [(tF false)]
def YM:Tr:=bB .eql 3 48 0 21 0 4 (.split (.u 22 0) (aP 90 [(G3 4)] [none] [52] [39] 9 false (.need (.prim [(W 23 0),(.one (.c (.k (.string ⟨#[52]⟩))))] none) (.binOp .eql 9 (tT 53) (.const (.string ⟨#[52]⟩)) 9) 4 false (.split (.u 24 0) (bB .eql 3 57 4 5 0 4 (.ret [(W 25 0)])) rK))) rK)
def XT:Tr:=eY 15 0 (some 3) 39 39 (aP 90 [(G3 16)] [none] [40] [39] 9 false (.need (.prim [(W 17 0),(.one (.c (.k (.string ⟨#[49,47,49,56,48]⟩))))] none) (.binOp .eql 9 (tT 41) (.const (.string ⟨#[49,47,49,56,48]⟩)) 9) 4 false (.split (.u 18 0) (.need (.prim [(W 1 0),(WK 5)] none) (.indexAddr 40 (tT 45) (.const (I3 5))) 0 false (eY 19 0 (some 3) 39 46 (aP 35 [(G3 20)] [none] [47] [39] 3 false YM))) rK)))
def WR:Tr:=.split (.u 10 0) (.need (.prim [(W 1 0),(WK 3)] none) (.indexAddr 40 (tT 31) (.const (I3 3))) 0 false (eY 11 0 (some 3) 39 32 (aP 90 [(G3 12)] [none] [33] [39] 9 false (.need (.prim [(W 13 0),(.one (.c (.k (.string ⟨#[49,47,54]⟩))))] none) (.binOp .eql 9 (tT 34) (.const (.string ⟨#[49,47,54]⟩)) 9) 4 false (.split (.u 14 0) (.need (.prim [(W 1 0),(WK 6)] none) (.indexAddr 40 (tT 38) (.const (I3 6))) 0 false XT) rK))))) rK
def ad9:Tr:=aP 41 [(W 3 0),(.agg [tN,(tE (.bool false)),tN])] [(some 3),none,none] [13,14] [32,39] 84 false (bB .eql 55 19 0 2 0 4 (.split (.u 7 0) (bB .eql 55 22 0 6 0 4 (.split (.u 8 0) (cY 1 0 26 40 (bB .eql 3 27 7 9 0 4 WR)) rK)) rK))
def an0:Tr:=.need (.call 53 [(.one (.c (.k (.int .u8 3)))),(WK 0)] [(some 5)]) (.call ⟨.value (.func 53),#[(.const (.int .u8 3)),(.const (I3 0))],#[5,3]⟩) 42 false (.need (.call 26 [(G5 0),(WK 7)] [none,none]) (.call ⟨.value (.func 26),#[(tT 7),(.const (I3 7))],#[42,3]⟩) 66 false (.need (.call 53 [(.one (.c (.k (.int .u8 1)))),(WK 0)] [(some 5)]) (.call ⟨.value (.func 53),#[(.const (.int .u8 1)),(.const (I3 0))],#[5,3]⟩) 42 false ad9))
theorem RL:aN prog f16 (fun _=>none) []=an0:=by kernel_rfl
theorem Kz (k:Nat) (n:Int) (hk:k<256) (h1:-9223372036854775808≤n) (h2:n<9223372036854775808):aK prog 53 [(.one (.int .u8 k):aG),(.one (.int .i64 n):aG)] (.ret [fT (kG k n).1 0 (kG k n).2.1]):=by
 refine aD (args:=[.v none, .v none]) (ins:=[.v (.one (.int .u8 k)), .v (.one (.int .i64 n))]) (hints:=(fun _=>none)) fo (by kernel_rfl) func53 ⟨rfl,rfl,trivial⟩ ?_;rw [UI];dsimp only [List.map,In.env,aA,aB];refine aC (Rs k n hk h1 h2) rfl ?_;exact aL rfl
instance fitDec (B:Nat) (q:Rat):Decidable (Fit B q):=inferInstanceAs (Decidable (_∧_))
instance bdDec (D S:Nat) (q:Rat):Decidable (Bd D S q):=inferInstanceAs (Decidable (_∧_))
theorem k3:kG 3 0=([[0,-1],[],[1]],[1,0],0):=by decide +kernel
theorem k1':kG 1 0=([[-1],[1]],[1],0):=by decide +kernel
theorem mv3:bD [[0,-1],[],[1]] 0 = [[0,-1],[],[1]]:=by decide +kernel
theorem mv1:bD [[-1],[1]] 0 = [[-1],[1]]:=by decide +kernel
theorem ld3:aM [[0,-1],[],[1]] 0=1:=by decide +kernel
theorem ld1:aM [[-1],[1]] 0=1:=by decide +kernel
theorem cf3:CK [[0,-1],[],[1]] 0 [1,0] 7=([1,0,0,1/6,0,0,1/180],0):=by decide +kernel
theorem WC:gP 64 [[0,-1],[],[1]] 2 1 [1,0] 7 where
 flead:=by decide +kernel
 fy:=by decide +kernel
 fq:=by decide +kernel
 ffall:=fun n i hn hi z hz j hj=>by
  have h:=lX (z:=z) (N:=9) j (by omega);have h2:9^j≤9^2:=Nat.pow_le_pow_right (by omega) (by omega);exact Fit.int (by omega) (by omega)
 ffac:=by decide +kernel
 fa:=by decide +kernel
 fx:=by
  have h:∀ n,n<7→∀ i,i<3→∀ k,k<3→Fit 64 (inner (([[0,-1],[],[1]]:List (List Rat)).getD i []) (aR [[0,-1],[],[1]] 2 1 [1,0] n) 2 n i (outer [[0,-1],[],[1]] (aR [[0,-1],[],[1]] 2 1 [1,0] n) 2 n i) k):=by decide +kernel
  intro n i k hn _ hi hk;have hl:∀ i,i<3→(([[0,-1],[],[1]]:List (List Rat)).getD i []).length≤2:=by decide
  have:=hl i hi;exact h n hn i hi k (by omega)
theorem aE6:Ke 64 [[-1],[1]] 1 1 1 0 2 1 where
 flead:=by decide +kernel
 fq:=by decide +kernel
 frho:=by decide +kernel
 fs:=by decide +kernel
 fm:=fun i hi _=>by
  have h1:∀ i,i≤1→∀ j,j≤3→Fit 64 (((((2*2^i:Nat):Int)-(1:Nat)+1:Int):Rat)^j):=by decide +kernel
  have h2:∀ i,i≤1→∀ j,j<2→∀ k,k≤(([[-1],[1]]:List (List Rat)).getD j []).length→Fit 64 (fR (([[-1],[1]]:List (List Rat)).getD j []) 1 j (bA 0) ((((2*2^i:Nat):Int)-(1:Nat)+1:Int):Rat) (bK [[-1],[1]] 1 (bA 0) ((((2*2^i:Nat):Int)-(1:Nat)+1:Int):Rat) j) k):=by decide +kernel
  exact ⟨by decide +kernel,by decide +kernel,h1 i hi,fun j k hj hk=>h2 i hi j hj k hk⟩
 fo:=by decide +kernel
theorem au0:aK prog 123 [xY [[-1],[1]] 1 1] (.ret [.agg (zF [[-1],[1]] 1 1 4 4)]):=by
 have h:=TP [[-1],[1]] 1 1 64 1 0 1 aE6 (by decide) (by decide) (by decide) (by decide) (by decide) (by decide) (by decide) (fun h hh=>absurd hh (Nat.not_lt_zero _)) (by decide +kernel) (by decide +kernel) (by decide +kernel) (by decide +kernel) (by decide);rw [show bA 0=4 by decide +kernel,show (1+aV [[-1],[1]]+1)*2^1=4 by decide +kernel] at h;exact h
theorem aY3:Vi [[-1],[1]]:=⟨by decide,by decide +kernel⟩
theorem bd4:Vi [[0,-1],[],[1]]:=⟨by decide,by decide +kernel⟩
set_option maxHeartbeats 1000000 in
theorem jC  :aK prog 16 [] (.ret [.one (.bool true)]):=by
 refine aD (args:=[]) (ins:=[]) (hints:=(fun _=>none)) fo (by kernel_rfl) func16 trivial ?_;rw [RL];dsimp only [List.map,In.env,aA,aB];have e1:=Kz 3 0 (by omega) (by omega) (by omega);rw [k3] at e1;refine aC e1 rfl ?_;dsimp only [aA,aB];have e2:=Bj [[0,-1],[],[1]] 0 [1,0] 7 1 1 1 1 2 64 64 7 bd4 (Fit.zero (by omega)) (by decide) (by omega) (by omega) (fun _=>⟨by omega,by omega,by decide +kernel,by decide +kernel,by omega,by omega,by omega,by decide +kernel⟩) (fun _=>by rw [mv3];decide) (fun _ _ _=>⟨by rw [mv3,ld3];exact WC,by decide,by decide,by decide⟩) (by omega) (by omega);rw [cf3] at e2;refine aC e2 rfl ?_;dsimp only [aA,aB];have e3:=Kz 1 0 (by omega) (by omega) (by omega);rw [k1'] at e3;refine aC e3 rfl ?_;dsimp only [aA,aB];have hce:=gJ [[-1],[1]] (by decide) (by decide);rw [show sA [[-1],[1]]=true by decide +kernel] at hce;have hrg:=vM [[-1],[1]] 0 aY3 (by decide) (Fit.zero (by omega));rw [show qA [[-1],[1]] 0=true by decide +kernel] at hrg;have hat:=Li (e:=[[-1],[1]]) (c:=0) (D:=1) (E:=1) (S:=1) (T:=1) (K:=2) (B:=64) ⟨by omega,by omega,by decide +kernel,by decide +kernel,by omega,by omega,by omega,by decide +kernel⟩ (by decide) (by decide) (by decide +kernel);rw [mv1,ld1] at hat;refine BW (show aO [.one (eQ [[-1],[1]]), .agg [.exact (.slice none 0 0), .bool false, .exact (.slice none 0 0)]] [.one (eQ [[-1],[1]]),qT 0] from ⟨aG.Sub.same,eV,trivial⟩) (Ku [[-1],[1]] 0 [[-1],[1]] 1 1 4 4 hce hrg hat au0) rfl ?_;dsimp only [aA,aB];refine vn bW rfl ?_;dsimp only [aA,aB];refine vs _ rfl (fun h5=>?_) (fun h5=>?_)
 ·refine vn bW rfl ?_;dsimp only [aA,aB];refine vs _ rfl (fun h7=>?_) (fun h7=>?_)
  ·refine vn (aQ zZ (show (rQ [1,0,0,1/6,0,0,1/180]).length=7 from rfl)) rfl ?_;dsimp only [aA,aB];refine vn bW rfl ?_;dsimp only [aA,aB];refine vs _ rfl (fun h10=>?_) (fun h10=>?_)
   ·refine vn (aY zZ (by omega) (show (3:Int).toNat=3 from rfl) (show ([1,0,0,1/6,0,0,1/180]:List Rat)[3]? = some (1/6) from rfl)) rfl ?_;dsimp only [aA,aB];refine vn (bZ rZ (by decide) (by simp) (.inl rfl)) rfl ?_;dsimp only [aA,aB];refine aC (HE (1/6) 64 (by decide +kernel) (by omega)) rfl ?_;rw [show SK (1/6) = [49,47,54] from by decide +kernel];dsimp only [aA,aB];refine vn (KQ (b:=[49,47,54])) rfl ?_;dsimp only [aA,aB];refine vs _ rfl (fun h15=>?_) (fun h15=>?_)
    ·refine vn (aY zZ (by omega) (show (6:Int).toNat=6 from rfl) (show ([1,0,0,1/6,0,0,1/180]:List Rat)[6]? = some (1/180) from rfl)) rfl ?_;dsimp only [aA,aB];refine vn (bZ rZ (by decide) (by simp) (.inl rfl)) rfl ?_;dsimp only [aA,aB];refine aC (HE (1/180) 64 (by decide +kernel) (by omega)) rfl ?_;rw [show SK (1/180) = [49,47,49,56,48] from by decide +kernel];dsimp only [aA,aB];refine vn (KQ (b:=[49,47,49,56,48])) rfl ?_;dsimp only [aA,aB];refine vs _ rfl (fun h20=>?_) (fun h20=>?_)
     ·refine vn (aY zZ (by omega) (show (5:Int).toNat=5 from rfl) (show ([1,0,0,1/6,0,0,1/180]:List Rat)[5]? = some 0 from rfl)) rfl ?_;dsimp only [aA,aB];refine vn (bZ rZ (by decide) (by simp) (.inl rfl)) rfl ?_;dsimp only [aA,aB];refine aC (oQ 0) rfl ?_;dsimp only [aA,aB];refine vn bW rfl ?_;dsimp only [aA,aB];refine vs _ rfl (fun h25=>?_) (fun h25=>?_)
      ·refine aC (HE 4 64 (by decide +kernel) (by omega)) rfl ?_;rw [show SK 4 = [52] from by decide +kernel];dsimp only [aA,aB];refine vn (KQ (b:=[52])) rfl ?_;dsimp only [aA,aB];refine vs _ rfl (fun h28=>?_) (fun h28=>?_)
       ·refine vn bW rfl ?_;exact aL rfl
       exact (h28 (by decide)).elim
      exact (h25 (by decide)).elim
     exact (h20 (by decide)).elim
    exact (h15 (by decide)).elim
   exact (h10 (by decide)).elim
  exact (h7 (by decide)).elim
 exact (h5 (by decide)).elim
open Go Go.Proofs Tryz Ord
theorem Ad (x:Rat) (xs:List Rat):trim (x::xs)=if cW zr xs=0∧zr x=true then [] else x::trim xs:=by
 unfold trim;simp only [cW];split<;>simp
theorem Aa:∀ ps:List Rat,cW zr (trim ps)=cW zr ps
 | []=>rfl
 | x::xs=>by
   have ih:=Aa xs;rw [Ad];split
   ·rename_i h;simp only [cW];rw [if_pos h]
   ·rename_i h;simp only [cW];rw [ih]
theorem PY (ps:List Rat):trim (trim ps)=trim ps:=by
 have:=eM ps;show (trim ps).take (cW zr (trim ps))=trim ps;rw [Aa];exact List.take_of_length_le (by omega)
theorem OJ {ps:List Rat} (h:cW zr ps=0) (c:Rat):kJ ps c=0:=by
 induction ps with
 | nil=>rfl
 | cons x xs ih=>
   simp only [cW] at h;split at h
   ·rename_i h';have hx:x=0:=by simpa [zr] using h'.2
    show kJ xs c*c+x=0;rw [ih h'.1,hx];grind
   ·omega
theorem Cw (c:Rat):∀ ps:List Rat,kJ (trim ps) c=kJ ps c
 | []=>rfl
 | x::xs=>by
   have ih:=Cw c xs;rw [Ad];split
   ·rename_i h;rw [OJ (ps:=x::xs) (by simp only [cW];rw [if_pos h])];rfl
   ·show kJ (trim xs) c*c+x=kJ xs c*c+x;rw [ih]
def Fw (e e':List (List Rat)):Prop:=e.length=e'.length∧∀ (i:Nat) p p',e[i]? = some p→e'[i]? = some p'→cW zr p=cW zr p'∧∀ c,kJ p c=kJ p' c
theorem Fw.symm {e e':List (List Rat)} (h:Fw e e'):Fw e' e:=⟨h.1.symm,fun i p p' h1 h2=>⟨(h.2 i p' p h2 h1).1.symm,fun c=>((h.2 i p' p h2 h1).2 c).symm⟩⟩
theorem Fw.aP3 {e e':List (List Rat)} (h:Fw e e') (hk:sA e=true):sA e'=true:=by
 unfold sA at hk ⊢;rw [decide_eq_true_iff] at hk ⊢;obtain ⟨h1,h2,h3,h4⟩:=hk;have hl:=h.1;refine ⟨by omega,by omega,fun p hp=>?_,fun p hp=>?_⟩
 ·obtain ⟨i,hi⟩:=List.getElem?_of_mem hp;have hi2:=(List.getElem?_eq_some_iff.1 hi).1;obtain ⟨p',hp'⟩:∃ p',e[i]? = some p':=⟨_,List.getElem?_eq_getElem (by omega)⟩
  rw [←(h.2 i p' p hp' hi).1];exact h3 p' (List.mem_of_getElem? hp')
 ·rw [←hl] at hp;obtain ⟨p',hp'⟩:∃ p',e[e.length-1]? = some p':=⟨_,List.getElem?_eq_getElem (by omega)⟩
  rw [←(h.2 _ p' p hp' hp).1];exact h4 p' hp'
theorem Fw.sA {e e':List (List Rat)} (h:Fw e e'):sA e'=sA e:=by
 cases he:Go.Sy.sA e with
 | true=>exact h.aP3 he
 | false=>
   cases he':Go.Sy.sA e' with
   | false=>rfl
   | true=>rw [h.symm.aP3 he'] at he;cases he
theorem Fw.ZS {e e':List (List Rat)} (h:Fw e e') (c:Rat) (hk:qA e c=true):qA e' c=true:=by
 unfold qA at hk ⊢;rw [decide_eq_true_iff] at hk ⊢;have hl:=h.1;intro p hp;rw [←hl] at hp;have hlt:=(List.getElem?_eq_some_iff.1 hp).1;obtain ⟨p',hp'⟩:∃ p',e[e.length-1]? = some p':=⟨_,List.getElem?_eq_getElem (by omega)⟩
 rw [←(h.2 _ p' p hp' hp).2];exact hk p' hp'
theorem Fw.qA {e e':List (List Rat)} (h:Fw e e') (c:Rat):qA e' c=qA e c:=by
 cases he:Go.Sy.qA e c with
 | true=>exact h.ZS c he
 | false=>
   cases he':Go.Sy.qA e' c with
   | false=>rfl
   | true=>rw [h.symm.ZS c he'] at he;cases he
theorem Fw.okF {e e':List (List Rat)} (h:Fw e e') (c:Rat) (y:List Rat):okF e' c y=okF e c y:=by
 unfold Go.Sy.okF;rw [h.sA,h.qA,h.1]
theorem RV (l:List bO):(rS l).map RQ.q=cK l:=by
 rw [rS,cK,List.map_map];rfl
theorem XC (n:Nat):(IV n).map RQ.q=kK n:=by
 rw [IV,kK,List.map_set,List.map_replicate];rfl
theorem Ui (p:List (List bO)) (long:Int):uX (QY p long)=p.map (fun l=>trim (cK l))++if 0<long then [kK (long%50+1).toNat] else []:=by
 unfold uX QY;rw [List.map_append,List.map_map]
 congr 1
 ·refine List.map_congr_left fun l _=>?_;show (dZ (rS l)).map RQ.q=_;rw [qO,RV]
 ·split
  ·rw [List.map_cons,List.map_nil,XC]
  ·rfl
theorem YA {α:Type} (f g:α→List Rat) (hfg:∀ a,cW zr (f a)=cW zr (g a)∧∀ c,kJ (f a) c=kJ (g a) c) (l:List α) (r:List (List Rat)):Fw (l.map f++r) (l.map g++r):=by
 refine ⟨by simp,fun i p p' h1 h2=>?_⟩;rcases Nat.lt_or_ge i l.length with h | h
 ·rw [List.getElem?_append_left (by simpa using h),List.getElem?_map,List.getElem?_eq_getElem h] at h1 h2;simp only [Option.map_some,Option.some.injEq] at h1 h2;subst h1 h2;exact hfg _
 ·rw [List.getElem?_append_right (by simpa using h)] at h1 h2;rw [List.length_map] at h1 h2;rw [h1] at h2;cases h2;exact ⟨rfl,fun _=>rfl⟩
theorem aI3 (p:List (List bO)) (long:Int):Fw (Ei p long) (uX (QY p long)):=by
 rw [Ui];exact YA _ _ (fun l=>⟨(Aa _).symm,fun c=>(Cw c _).symm⟩) _ _
theorem QK (n:Nat) (hn:n≤50):(kK n).length≤64∧∀ q∈kK n,Fit 513 q:=by
 refine ⟨by simp [kK];omega,fun q hq=>?_⟩;rcases List.mem_or_eq_of_mem_set hq with h | rfl
 ·rw [(List.mem_replicate.1 h).2];exact Fit.zero (by omega)
 ·exact (fD (n:=1) (by omega) (by omega)).mono (by omega)
theorem NR {l:List bO} (hl:l.length≤4) (h:∀ x∈l,x.In):(cK l).length≤64∧∀ q∈cK l,Fit 513 q:=by
 refine ⟨by rw [tU];omega,fun q hq=>?_⟩;obtain ⟨x,hx,rfl⟩:=List.mem_map.1 hq;exact (h x hx).Xp
theorem aR3 {p:List (List bO)} {long:Int} (hp:Zo p) (hs:gC p=true):Vi (Ei p long)∧Vi (uX (QY p long)):=by
 unfold gC at hs;rw [decide_eq_true_iff] at hs;obtain ⟨h1,h2⟩:=hs;have hn:(long%50+1).toNat≤50:=by omega
 rw [Ui]
 have hr:∀ q∈(if 0<long then [kK (long%50+1).toNat] else []),q.length≤64∧∀ x∈q,Fit 513 x:=by
  intro q hq;split at hq
  ·rw [List.mem_singleton] at hq;subst hq;exact QK _ hn
  ·cases hq
 have hrl:(if 0<long then [kK (long%50+1).toNat] else []).length≤1:=by split<;>simp
 constructor
 ·refine ⟨by rw [Ei,List.length_append,List.length_map];omega,fun q hq=>?_⟩;rcases List.mem_append.1 hq with h | h
  ·obtain ⟨l,hl,rfl⟩:=List.mem_map.1 h;exact NR (h2 l hl).1 (hp.p l hl).2
  ·exact hr q h
 ·refine ⟨by rw [List.length_append,List.length_map];omega,fun q hq=>?_⟩;rcases List.mem_append.1 hq with h | h
  ·obtain ⟨l,hl,rfl⟩:=List.mem_map.1 h;obtain ⟨k1,k2⟩:=NR (h2 l hl).1 (hp.p l hl).2;exact ⟨by rw [eM];have:=gL (z:=zr) (cK l);omega,fun x hx=>k2 x (List.mem_of_mem_take hx)⟩
  ·exact hr q h
theorem VM {l:List Int} (h:qM l) (hl:l.length<8):(ints l).length<1099511627776∧∀ q∈ints l,Fit 64 q:=by
 refine ⟨by rw [ints,eM];have:=gL (z:=zr) (l.map fun n:Int=>(n:Rat));rw [List.length_map] at this;omega,fun q hq=>?_⟩;obtain ⟨n,hn,rfl⟩:=List.mem_map.1 (List.mem_of_mem_take hq);exact fD (h n hn).1 (h n hn).2
theorem aK5 {k:Nat} {n:Int} (h1:1≤k) (h2:k≤8) (h3:0≤n) (h4:n≤40):(kE k n).map trim=kE k n∧(kE k n).length≤3∧∀ p∈kE k n,p.length<1099511627776∧∀ q∈p,Fit 64 q:=by
 have hnn:n*(n+1)≤40*41:=Int.mul_le_mul (a:=n) (b:=n+1) (c:=40) (d:=41) (by omega) (by omega) (by omega) (by omega);have hn0:0≤n*(n+1):=Int.mul_nonneg (by omega) (by omega);generalize hm:n*(n+1)=m at hnn hn0;have ht:∀ l,trim (ints l)=ints l:=fun l=>PY _;have ht0:trim [] = []:=rfl;have hz:([]:List Rat).length<1099511627776∧∀ q∈([]:List Rat),Fit 64 q:=⟨by simp,by simp⟩
 rcases (by omega:k=1∨k=2∨k=3∨k=4∨k=5∨k=6∨k=7∨k=8) with rfl | rfl | rfl | rfl | rfl | rfl | rfl | rfl <;>
  refine ⟨by simp only [kE,List.map_cons,List.map_nil,ht,ht0],by simp [kE],fun p hp=>?_⟩ <;>
  simp only [kE,List.mem_cons,List.not_mem_nil,or_false] at hp <;>
  (try rw [hm] at hp) <;>
  (rcases hp with rfl | rfl | rfl<;>first | exact hz | exact VM (by intro x hx;simp only [List.mem_cons,List.not_mem_nil,or_false] at hx;omega) (by simp))
open Go Go.Proofs Go.RowKit Go.ChangeShapes Go.WideShapes Tryz
section
variable {H:Type} {enc:TypeId×Value→H} {P:Program}
def Wd (P:Program) (t:TypeId) (d:DataW H):Prop:=∀ n∈DataW.weights P t d,n≤reachBytes
theorem AY {e:TypeId}:∀ {ds:List (DataW H)} {d:DataW H},d∈ds→∀ n∈DataW.weights P e d,n∈DataW.weightsAll P e ds
 | [],_,h=>by cases h
 | x::xs,d,h=>fun n hn=>by
   rw [DataW.weightsAll];rcases List.mem_cons.1 h with rfl | h
   ·exact List.mem_append_left _ hn
   ·exact List.mem_append_right _ (AY h n hn)
theorem yG:∀ {ts:List TypeId} {ds:List (DataW H)} {j:Nat} {t:TypeId} {d:DataW H},ts[j]? = some t→ds[j]? = some d→∀ n∈DataW.weights P t d,n∈DataW.weightsEach P ts ds:=fun h1 h2=>DataW.weights_mem_each h1 h2
theorem Wd.field {t:TypeId} {fs:Array Field} {parts:List (DataW H)} (ht:P.underlying t=some (.struct fs)) (h:Wd P t (.agg parts)) {j:Nat} {f:Field} {d:DataW H} (hf:fs[j]? = some f) (hd:parts[j]? = some d):Wd P f.type d:=fun n hn=>by
 refine h n ?_;rw [DataW.weights,ht];exact yG (ts:=fs.toList.map (·.type)) (by rw [List.getElem?_map,Array.getElem?_toList,hf];rfl) hd n hn
theorem Wd.elem {t e:TypeId} {es sp:List (DataW H)} (ht:P.underlying t=some (.slice e)) (h:Wd P t (.slice es sp)) {d:DataW H} (hd:d∈es):Wd P e d:=fun n hn=>by
 refine h n ?_;rw [DataW.weights,ht];exact List.mem_cons_of_mem _ (List.mem_append_left _ (AY hd n hn))
theorem Wd.len {t e:TypeId} {es sp:List (DataW H)} (ht:P.underlying t=some (.slice e)) (h:Wd P t (.slice es sp)) (hb:0<P.bytesOf e):es.length≤reachBytes:=by
 have:=h ((es.length+sp.length)*P.bytesOf e) (by rw [DataW.weights,ht];exact List.mem_cons_self);have h2:(es.length+sp.length)*1≤(es.length+sp.length)*P.bytesOf e:=Nat.mul_le_mul_left _ hb;omega
theorem Iy {w:World} {a:Addr} {n:Nat} {cs:List Value} (h:w.cells? 0 a n=some cs) (hn:0<n):∃ b off all T fz,a=⟨b,off,none⟩∧w.heap[b]? = some (.cells all T fz):=by
 obtain ⟨_,hl,hi⟩:=World.cells?_some h;have h0:=hi 0 hn;obtain ⟨v,hv⟩:∃ v,cs[0]? = some v:=⟨_,List.getElem?_eq_getElem (by omega)⟩
 rw [hv,show a.add 0=a from rfl] at h0;unfold World.cell? at h0;obtain ⟨b,off,sp⟩:=a;dsimp only at h0;split at h0
 ·rename_i hb;cases sp with
  | some x=>simp at h0
  | none=>exact ⟨b,off,_,_,_,rfl,hb⟩
 ·cases h0
theorem JB (b off k:Nat):(⟨b,off,none⟩:Addr).add k=⟨b,off+k,none⟩:=by
 unfold Addr.add;by_cases h:k=0
 ·subst h;rfl
 ·rw [if_neg h]
theorem KN {w:World} {b off k n:Nat} {all:Array Value} {T:TypeId} {fz:Nat×Nat} {cs:List Value} (h:w.cells? 0 ((⟨b,off,none⟩:Addr).add k) n=some cs) (hb:w.heap[b]? = some (.cells all T fz)):(all.toList.drop (off+k)).take n=cs:=by
 obtain ⟨_,hl,hi⟩:=World.cells?_some h;refine List.ext_getElem? fun i=>?_;rw [List.getElem?_take];split
 ·rename_i hlt;rw [←hi i hlt,JB,JB,List.getElem?_drop];unfold World.cell?;rw [hb];simp
 ·rw [List.getElem?_eq_none (by omega)]
abbrev XX:Nat→Prop:=fun _=>False
theorem FG {w:World} {t e:TypeId} {sz:Nat} (ht:P.underlying t=some (.slice e)) (hc:P.cellsOf e=sz) (hsz:0<sz) (hb:0<P.bytesOf e) {α:Type} (f:α→List aI) (Q:α→Prop)
  (helem:∀ n cs x,DataW.trod enc P w 0 (fun _=>true) true n e cs=some x→Wd P e x.1→∃ u,Q u∧(f u).length=sz∧aW XX w (f u) cs)
  {fuel:Nat} {cs:List Value} {x:DataW H×List MemPlace} (h:DataW.trod enc P w 0 (fun _=>true) true fuel t cs=some x) (hw:Wd P t x.1) :
  ∃ (l:List α) (v:Value),cs = [v]∧(∀ u∈l,Q u)∧l.length≤reachBytes∧(aI.slice sz (l.map f)).rep XX w v:=by
 rcases Deep.open_slice ht h with ⟨rfl,rfl⟩ | ⟨a,len,cap,m,n,D,Pl,rfl,_,hle,hcm,hm,rfl,hel⟩
 ·exact ⟨[],_,rfl,by simp,by simp [reachBytes],none,0,rfl,by simp,by simp [maxLen], .inl rfl⟩
 ·rw [if_pos rfl] at hm;subst hm;have hlen:=hw.len ht hb;rw [List.length_map,List.length_range] at hlen
  obtain ⟨l,hl1,hl2⟩:=oL (fun i (u:α)=>Q u∧(f u).length=sz∧∃ cs',w.cells? 0 (a.add (i*sz)) sz=some cs'∧aW XX w (f u) cs') len fun i hi=>by
   obtain ⟨cs',h1,h2⟩:=hel i (by omega);rw [hc] at h1;obtain ⟨u,hu1,hu2,hu3⟩:=helem n cs' _ h2 (hw.elem ht (List.mem_map.2 ⟨i,List.mem_range.2 hi,rfl⟩));exact ⟨u,hu1,hu2,cs',h1,hu3⟩
  refine ⟨l,_,rfl,fun u hu=>?_,by omega,some a,m,by rw [List.length_map,hl1],by rw [List.length_map,hl1];exact hle,hcm,?_⟩
  ·obtain ⟨i,hi⟩:=List.getElem?_of_mem hu;exact (hl2 i u hi).1
  ·rcases Nat.eq_zero_or_pos len with h0 | h0
   ·left
    rw [List.eq_nil_of_length_eq_zero (hl1.trans h0)];rfl
   ·right
    obtain ⟨u,hu⟩:∃ u,l[0]? = some u:=⟨_,List.getElem?_eq_getElem (by omega)⟩
    obtain ⟨_,_,cs0,hc0,_⟩:=hl2 0 u hu;rw [Nat.zero_mul,show a.add 0=a from rfl] at hc0;obtain ⟨b,off,all,T,fz,rfl,hb'⟩:=Iy hc0 hsz;refine ⟨b,off,all,T,fz,rfl,fun h=>h,hb',fun i tt htt=>?_⟩;rw [List.getElem?_map,Option.map_eq_some_iff] at htt;obtain ⟨u,hu,rfl⟩:=htt;obtain ⟨_,hu2,cs',hc',hu3⟩:=hl2 i u hu;rw [KN hc' hb'];exact ⟨hu2,hu3⟩
end
section
variable {H:Type} {enc:TypeId×Value→H}
theorem NT:prog.cellsOf 26=3:=by kernel_rfl
theorem VC:prog.cellsOf 27=1:=by kernel_rfl
theorem XA:0<prog.bytesOf 26:=by rw [show prog.bytesOf 26=24 by kernel_rfl];decide
theorem Vs:0<prog.bytesOf 27:=by rw [show prog.bytesOf 27=24 by kernel_rfl];decide
theorem VE:prog.cellsOf 22=1:=by kernel_rfl
theorem ai5:prog.cellsOf 5=1:=by kernel_rfl
theorem ak6:prog.cellsOf 3=1:=by kernel_rfl
theorem TX:prog.cellsOf 2=1:=by kernel_rfl
set_option maxRecDepth 100000 in
theorem Jl {w:World} {n:Nat} {cs:List Value} {x:DataW H×List MemPlace} (h:DataW.trod enc prog w 0 (fun _=>true) true n 26 cs=some x):∃ u:bO,u.In∧cs = [.int .i64 u.n, .int .i64 u.d, .int .u8 u.pow]:=by
 obtain ⟨y0,y1,y2,m,rfl,hl,h0,h1,h2⟩:=Deep.trod_struct3 underlying26 h;rw [NT] at hl
 match cs,hl with
 | [v0,v1,v2],_=>
   rw [show prog.cellsOf _=1 from TX] at h0;rw [show prog.cellsOf _=1 from TX] at h1;rw [show prog.cellsOf _=1 from ai5] at h2;obtain ⟨z0,e0,_,f0⟩:=DataW.trod_int underlying2 h0;obtain ⟨z1,e1,_,f1⟩:=DataW.trod_int underlying2 h1;obtain ⟨z2,e2,_,f2⟩:=DataW.trod_int underlying5 h2;have e0':[v0] = [Value.int .i64 z0]:=e0;have e1':[v1] = [Value.int .i64 z1]:=e1;have e2':[v2] = [Value.int .u8 z2]:=e2;cases e0';cases e1';cases e2';have b0:=bounds_i64 f0;have b1:=bounds_i64 f1;have b2:=bounds_u8 f2;refine ⟨⟨z0,z1,z2.toNat⟩,⟨b0.1,by dsimp only;omega,b1.1,by dsimp only;omega,by dsimp only;omega⟩,?_⟩;rw [show ((z2.toNat:Nat):Int)=z2 by omega]
theorem Gw {w:World} {n:Nat} {cs:List Value} {x:DataW H×List MemPlace} (h:DataW.trod enc prog w 0 (fun _=>true) true n 26 cs=some x):∃ u:bO,u.In∧aW XX w (nC u) cs:=by
 obtain ⟨u,hu,rfl⟩:=Jl h;exact ⟨u,hu,⟨rfl,rfl⟩,⟨rfl,rfl⟩,⟨rfl,rfl⟩,trivial⟩
theorem OP {w:World} {n:Nat} {cs:List Value} {x:DataW H×List MemPlace} (h:DataW.trod enc prog w 0 (fun _=>true) true n 27 cs=some x) (hw:Wd prog 27 x.1) :
  ∃ (l:List bO) (v:Value),cs = [v]∧(∀ u∈l,u.In)∧l.length≤reachBytes∧(sN l).rep XX w v:=
 FG underlying27 NT (by omega) XA nC bO.In (fun n cs x hx _=>by
  obtain ⟨u,hu,rfl⟩:=Jl hx;exact ⟨u,hu,rfl,⟨rfl,rfl⟩,⟨rfl,rfl⟩,⟨rfl,rfl⟩,trivial⟩) h hw
theorem Mr {w:World} {n:Nat} {cs:List Value} {x:DataW H×List MemPlace} (h:DataW.trod enc prog w 0 (fun _=>true) true n 22 cs=some x) (hw:Wd prog 22 x.1) :
  ∃ (p:List (List bO)) (v:Value),cs = [v]∧Zo p∧(sP p).rep XX w v:=by
 obtain ⟨p,v,rfl,h1,h2,h3⟩:=FG underlying22 VC (by omega) Vs (fun l:List bO=>[sN l]) (fun l=>l.length≤reachBytes∧∀ x∈l,x.In) (fun n cs x hx hwx=>by
  obtain ⟨l,v,rfl,h1,h2,h3⟩:=OP hx hwx;exact ⟨l,⟨h2,h1⟩,rfl,h3,trivial⟩) h hw
 refine ⟨p,v,rfl,⟨Nat.lt_of_le_of_lt h2 (by decide),fun l hl=>⟨Nat.lt_of_le_of_lt (h1 l hl).1 (by decide),(h1 l hl).2⟩⟩,h3⟩
set_option maxRecDepth 100000 in
theorem Pz {w:World} {n:Nat} {cs:List Value} {x:DataW H×List MemPlace} (h:DataW.trod enc prog w 0 (fun _=>true) true n 24 cs=some x) (hw:Wd prog 24 x.1) :
  ∃ c:List (List bO)×Int,(Zo c.1 ∧ -9223372036854775808≤c.2∧c.2<9223372036854775808)∧aW XX w [sP c.1, .int .i64 c.2] cs:=by
 obtain ⟨a0,a1,k,rfl,hl,g0,g1⟩:=trod_struct2 underlying24 h;rw [(by kernel_rfl:prog.cellsOf 24=2)] at hl
 match cs,hl with
 | [v0,v1],_=>
   replace g0:DataW.trod enc prog w 0 (fun _=>true) true k 22 (List.take (prog.cellsOf 22) (List.drop 0 [v0,v1]))=some a0:=g0;replace g1:DataW.trod enc prog w 0 (fun _=>true) true k 3 (List.take (prog.cellsOf 3) (List.drop 1 [v0,v1]))=some a1:=g1;rw [VE] at g0;rw [ak6] at g1;replace g0:DataW.trod enc prog w 0 (fun _=>true) true k 22 [v0]=some a0:=g0;replace g1:DataW.trod enc prog w 0 (fun _=>true) true k 3 [v1]=some a1:=g1;have w00:Wd prog 22 a0.1:=hw.field (j:=0) underlying24 rfl rfl;obtain ⟨p,_,e0,hp,hpr⟩:=Mr g0 w00;cases e0;obtain ⟨zl,e1,_,fl⟩:=DataW.trod_int underlying3 g1;cases e1;have bl:=bounds_i64 fl;exact ⟨(p,zl),⟨hp,bl.1,by dsimp only;omega⟩,hpr,⟨rfl,rfl⟩,trivial⟩
end
section
variable {H:Type} {enc:TypeId×Value→H} {P:Program}
theorem vJ (hl:laidOutB P=true) {W W':World} {sp':Nat→Bool}:∀ {ts:List TypeId} {vs:List Value} {ds:List (DataW H)} {ps:List MemPlace},(∀ t∈ts,P.readableRec t=true∧t<P.types.size) →
  DataW.TrodAll enc P W 0 (fun _=>true) true ts vs ds ps→(∀ p∈ps,W.sameAt W' p)→(∀ p∈ps,sp' p.block=true)→DataW.TrodAll enc P W' 0 sp' true ts vs ds ps
 | [],[],[],_,_,h,_,_=>h
 | t::ts,v::vs,d::ds,_,hr,h,h1,h2=>by
   obtain ⟨p,q,k1,k2,rfl⟩:=h;refine ⟨p,q,WideElems.Trod_stays hl (hr t (by simp)).1 (hr t (by simp)).2 k1 (fun x hx=>h1 x (by simp [hx])) (fun x hx=>h2 x (by simp [hx])),vJ hl (fun t ht=>hr t (List.mem_cons_of_mem _ ht)) k2 (fun x hx=>h1 x (by simp [hx])) (fun x hx=>h2 x (by simp [hx])),rfl⟩
 | [],_::_,_,_,_,h,_,_=>h.elim
 | [],[],_::_,_,_,h,_,_=>h.elim
 | _::_,[],_,_,_,h,_,_=>h.elim
 | _::_,_::_,[],_,_,h,_,_=>h.elim
theorem LP {f:Func} {s:ChangeSpec} {apart fresh handsOn again:Bool} {W W':World} {args:Array Value} {ds gs:List (DataW H)} {before:List MemPlace} {T:TypeId}
  (hl:laidOutB P=true) (hts:∀ t∈f.params.toList,P.readableRec t=true∧t<P.types.size) (hvars:s.vars = [])
  (hW:DataW.Whole enc P f.params.toList s.vars apart W args.toList ds gs before) (hres:(s.fn H (ds++gs)).results = [.lit (.bool true)]) (hargs:(s.fn H (ds++gs)).args=ds) (hvs:(s.fn H (ds++gs)).vars = [])
  (hb:Below W.heap.size W W') (hrt:f.resultTypes = #[T]) (hT:P.underlying T=some .bool) :
  s.post enc P f apart fresh handsOn again W args (.bool true) W':=by
 have hlt:∀ p∈before,p.block<W.heap.size:=fun p hp=>hW.lt p hp;have hsame:∀ p∈before,W.sameAt W' p:=fun p hp=>hb.same (hlt p hp);obtain ⟨p,q,hA,hV,hps,hz,hn⟩:=hW;have hW:DataW.Whole enc P f.params.toList s.vars apart W args.toList ds gs before:=⟨p,q,hA,hV,hps,hz,hn⟩
 rw [hvars] at hV;obtain ⟨rfl,rfl⟩:=trodVars_none hV;rw [List.append_nil] at hps;subst hps;have ha:∀ sp:Nat→Bool,(∀ p∈before,sp p.block=true)→DataW.TrodAll enc P W' 0 sp true f.params.toList args.toList ds before:=fun sp h=>vJ hl hts hA hsame h
 have hr:∀ (b:Nat) (sp:Nat→Bool) (hd:Bool),DataW.TrodAll enc P W' b sp hd f.resultTypes.toList ((Value.bool true).resultList f.resultTypes.size) [.lit (.bool true)] []:=fun b sp hd=>by
  rw [hrt];exact trodAll_mk1 (shut_bool hT true)
 have hold:∀ p∈before,(fun b=>decide (b<W.heap.size)) p.block=true:=fun p hp=>by simpa using hlt p hp
 refine ⟨ds,[],before,[],before,[],hW,?_,?_,?_,hb.frame _,fun _=>⟨?_,_,[],before,⟨[]++before,[],trodAll_append (ha (fun _=>true) (fun _ _=>rfl)) (hr 0 (fun _=>true) true),?_,by simp,?_,?_⟩,fun p hp _=>hp⟩⟩
 ·rw [hres];exact hr _ _ _
 ·rw [hargs];exact ha _ hold
 ·rw [hvars,hvs];rfl
 ·exact ok_one hrt rfl (okWide_bool_mk hT true)
 ·rw [hvars];exact (rfl:DataW.TrodVars enc P W' (fun _=>true) [] [] [])
 ·intro b off hp;rw [hb.frozen (p:=⟨b,off,none⟩) (hlt _ hp)];exact hz b off hp
 ·exact hn
end
theorem Hq {W:World} {l:List (String×DataW Unit)} (hl:l.filter (fun x=>x.1 == "internal/strconv.uint64pow10") = [("internal/strconv.uint64pow10",Lib.tabData .u64 Lib.pow10Tab)]) (h:laidMetH prog l W):Good XX W:=by
 have h1:=h.filter (fun x=>x.1 == "internal/strconv.uint64pow10");rw [hl] at h1;have h2:laidMet prog [("internal/strconv.uint64pow10",Lib.tabData .u64 Lib.pow10Tab)] W:=h1;intro x hx;have hx:x=(0,Dr):=by simpa [Vz.tab] using hx
 subst hx;have hg:prog.globalNamed "internal/strconv.uint64pow10" = some 0:=by kernel_rfl
 have ht:=Lib.tabIs_of_head (rest:=[]) hg (by kernel_rfl:(prog.globals[0]?).map (·.type)=some 343) underlying343 underlying254 (by kernel_rfl) (by kernel_rfl) h2;unfold Lib.TabIs World.var? at ht;rw [hg] at ht;dsimp only [Option.bind_some] at ht;refine ⟨fun h=>h,?_⟩;split at ht
 ·rename_i cs T fz he;cases ht;exact ⟨T,fz,he⟩
 ·cases ht
end Go.Sy
