/- The reach: sums of absolute values, halved radii, doubled starts. The reach. Reach, by hand: it writes what it has found through a closure, under a deferred recover. The law's own examples. OdeChecks. An argument that reads as data, opened; a law's call shut: plain laws, of no one function.
-/
import Derived.Test.YtdmcadckdnnglaaGreatDoorQa
import Derived.Test.YtdmcadckdnnglaaGreatDoorQe
import Derived.RecoverIn
import Derived.TacticsInMore
import Derived.BigRegion
import Derived.Test.YtdmcadckdnnglaaGreatDoorPb
import Derived.Test.YtdmcadckdnnglaaGreatDoorOa
import Derived.Test.YtdmcadckdnnglaaGreatDoorCards
import Derived.Test.YtdmcadckdnnglaaGreatDoorTie
import Derived.WalkKit
import Derived.ProofKit
import Derived.OpenShut
import Derived.Deep.DeepHandedRow
import Derived.Deep.Strs
import Derived.Lib.LaidTab
set_option linter.unusedVariables false
set_option linter.unusedSimpArgs false
namespace Ord
def BT (r:List Rat) (fP:Rat):Nat→Rat
 | 0=>0
 | k+1=>BT r fP k+(r.getD k 0).abs*fP^(k+1)
def dL (h:Nat):Rat:=((4:Int):Rat)*mkRat 1 (2^h)
def mU (p:List Rat) (m i:Nat) (fP N x:Rat):Nat→Rat
 | 0=>x
 | k+1=>if i<m∨0<k then mU p m i fP N x k+(p.getD k 0).abs*fP^(m+k-i)/N^(m-i) else mU p m i fP N x k
def iE (q:List (List Rat)) (m:Nat) (fP N:Rat):Nat→Rat
 | 0=>0
 | i+1=>mU (q.getD i []) m i fP N (iE q m fP N i) (q.getD i []).length
structure RI (B:Nat) (q:List (List Rat)) (m:Nat) (fP:Rat) (N:Int) (L:Nat):Prop where
 fq:∀ p∈q,p.length≤L∧∀ x∈p,Fit B x
 frho:∀ j,j≤2*(m+L)+1→Fit B (fP^j)
 fN:∀ j,j≤2*m+1→Fit B ((N:Rat)^j)
 fx:∀ i k,i<q.length→k≤(q.getD i []).length→Fit B (mU (q.getD i []) m i fP N (iE q m fP N i) k)
end Ord
namespace Go.Sy
open Go Go.Proofs Tryz Ord
def MC:Tr:=aU 68 [(W 26 0)] [(some 3)] [51] [2] 39 false (cU .sub 3 53 54 0 1 4 0 3 (aU 203 [(G3 27),(W 28 0)] [(some 3)] [52,55] [39,3] 39 false (aU 207 [(G3 24),(G3 29)] [(some 3)] [47,56] [39,39] 39 true (aU 64 [(.agg [(U 13 0),(U 14 0),(U 15 0)]),(G3 30)] [(some 3)] [37,57] [39,39] 39 true (bO .add 3 25 1 12 0 3 (.back 1 [lV 32 0,lV 31 0,lV 31 1,lV 31 2]))))))
def NI:Tr:=aU 146 [(G3 18)] [(some 3)] [38] [39] 39 false (cU .add 3 41 42 0 1 12 0 3 (cU .sub 3 43 44 21 0 4 0 3 (aU 203 [(G3 1),(W 22 0)] [(some 3)] [40,45] [39,3] 39 false (aU 36 [(G3 20),(G3 23)] [(some 3)] [39,46] [39,39] 39 false (cU .sub 3 48 49 2 0 0 1 3 (bO .add 3 50 1 25 0 3 MC))))))
def Gm:Tr:=.back 1 [lV 33 0,lV 32 0,lV 32 1,lV 32 2]
def MM:Tr:=bO .add 3 50 1 26 0 3 (aU 68 [(W 27 0)] [(some 3)] [51] [2] 39 false (cU .sub 3 53 54 0 1 4 0 3 (aU 203 [(G3 28),(W 29 0)] [(some 3)] [52,55] [39,3] 39 false (aU 207 [(G3 25),(G3 30)] [(some 3)] [47,56] [39,39] 39 true (aU 64 [(.agg [(U 13 0),(U 14 0),(U 15 0)]),(G3 31)] [(some 3)] [37,57] [39,39] 39 true (bO .add 3 25 1 12 0 3 Gm))))))
def MN:Tr:=.split (.u 20 0) (aU 146 [(G3 18)] [(some 3)] [38] [39] 39 false (cU .add 3 41 42 0 1 12 0 3 (cU .sub 3 43 44 22 0 4 0 3 (aU 203 [(G3 1),(W 23 0)] [(some 3)] [40,45] [39,3] 39 false (aU 36 [(G3 21),(G3 24)] [(some 3)] [39,46] [39,39] 39 false (cU .sub 3 48 49 2 0 0 1 3 MM)))))) (bO .add 3 25 1 12 0 3 (.back 1 [lV 21 0,lV 13 0,lV 14 0,lV 15 0]))
def Rk:Tr:=cU .lss 3 25 24 12 0 11 0 0 (.split (.u 16 0) (qI 10 0 12 0 72 23 25 (oX 17 0 (some 3) 39 28 (cU .lss 3 30 31 4 0 0 1 4 (.split (.u 19 0) NI (bO .gtr 3 34 0 12 0 4 MN))))) (bO .add 3 18 1 4 0 3 (.back 0 [lV 17 0,lV 13 0,lV 14 0,lV 15 0])))
def Py:Tr:=.loop 0 [lK 0,lN,(.w (.one (.c (.k (.bool false))))),lN] (cU .lss 3 18 17 4 0 3 0 0 (.split (.u 8 0) (qI 0 0 4 0 31 16 18 (oX 9 0 none 72 21 (fX 10 0 23 72 (.loop 1 [lK 0,lV 5 0,lV 6 0,lV 7 0] Rk)))) (.ret [(.agg [(U 5 0),(U 6 0),(U 7 0)])])))
def OU:Tr:=fX 0 0 16 31 Py
theorem LQ:aO prog f205 (fun _=>none) [.v (some 5), .v (some 3), .v none]=OU:=by kernel_rfl
def Np:Tr:=oX 26 0 (some 3) 39 36 (aU 146 [(G3 27)] [(some 3)] [39] [39] 39 false (bO .add 3 43 1 21 0 3 (aU 203 [(G3 16),(W 29 0)] [(some 3)] [42,44] [39,3] 39 false (aU 36 [(G3 28),(G3 30)] [(some 3)] [40,45] [39,39] 39 true (aU 64 [(.agg [(U 22 0),(U 23 0),(U 24 0)]),(G3 31)] [(some 3)] [38,46] [39,39] 39 true (bO .add 3 33 1 21 0 3 Gm))))))
def MS:Tr:=.need (.call 130 [(W 49 0),(WK 5)] []) (.call ⟨.value (.func 130),#[(tT 67),(.const (I3 5))],#[4,55]⟩) 0 true (aU 205 [(G5 0),(.agg [(U 45 0),(U 46 0),(U 47 0)]),(W 48 0)] [(some 3)] [69,71,73] [171,39,3] 39 false (aU 38 [(G3 50),(G3 1)] [none] [74,75] [39,39] 3 true (bO .leq 3 76 0 51 0 4 (.split (.u 52 0) (.ret [(.agg [(U 40 0),(U 41 0),(U 42 0),(U 43 0),(U 44 0),(U 45 0),(U 46 0),(U 47 0),(U 48 0)])]) (bO .mul 3 62 2 48 0 3 (.back 0 [lV 31 0,lV 32 0,lV 33 0,lV 34 0,lV 35 0,lV 36 0,lV 37 0,lV 38 0,lV 39 0,lV 40 0,lV 41 0,lV 42 0,lV 43 0,lV 44 0,lV 45 0,lV 46 0,lV 47 0,lV 53 0]))))))
def MT:Tr:=aU 38 [(G3 26),(G3 1)] [none] [51,52] [39,39] 3 true (bO .leq 3 53 0 27 0 4 (.split (.u 28 0) (aU 204 [(G5 0)] [none] [55] [171] 3 false (cU .add 3 56 58 29 0 0 1 3 (.loop 0 [lN,lK 0,lN,(.w (.one (.c (.k (.bool false))))),lN,lN,(.w (.one (.c (.k (.bool false))))),lN,lK 0,lV 3 0,lV 4 0,lV 5 0,lV 6 0,lV 7 0,lV 16 0,lV 16 1,lV 16 2,lV 30 0] (bO .leq 3 66 4096 48 0 4 MS)))) (bO .sub 3 14 1 2 0 3 (.back 0 [lV 29 0,lV 3 0,lV 4 0,lV 5 0,lV 6 0,lV 7 0,lV 16 0,lV 16 1,lV 16 2,lV 11 0]))))
def Rr:Tr:=oX 17 0 none 72 29 (.need (.prim [(W 18 0),(WK 1)] none) (.slice 72 (tT 30) (some (.const (I3 1))) none none) 72 false (fX 19 0 31 72 (.loop 1 [lK 0,lN,(.w (.one (.c (.k (.bool false))))),lN] (cU .lss 3 33 32 21 0 20 0 0 (.split (.u 25 0) (qI 19 0 21 0 72 31 33 Np) (aU 64 [(.agg [(U 22 0),(U 23 0),(U 24 0)]),(.agg [(U 22 0),(U 23 0),(U 24 0)])] [(some 3)] [49,50] [39,39] 39 false MT))))))
def OZ:Tr:=bO .geq 3 16 (-60) 2 0 4 (.need (.call 130 [(W 12 0),(WK 5)] []) (.call ⟨.value (.func 130),#[(tT 17),(.const (I3 5))],#[4,55]⟩) 0 true (.need (.call 68 [(WK 4)] [(some 3)]) (.call ⟨.value (.func 68),#[(.const (I3 4))],#[2]⟩) 39 false (.need (.prim [(WK 2),(W 2 0)] none) (.binOp .sub 3 (.const (I3 2)) (tT 20) 3) 3 false (aU 202 [(W 14 0)] [(some 3)] [21] [3] 39 true (aU 36 [(G3 13),(G3 15)] [(some 3)] [19,22] [39,39] 39 true (qI 0 0 0 1 31 26 28 Rr))))))
def OF:Tr:=aU 146 [(.agg [(U 0 2),(U 0 3),(U 0 4)])] [(some 3)] [12] [39] 39 true (.loop 0 [lK 2,lV 0 0,lV 0 1,lV 0 2,lV 0 3,lV 0 4,lN,(.w (.one (.c (.k (.bool false))))),lN,lK 0] OZ)
theorem LH:aO prog f123 (fun _=>none) [.v (some 5)]=OF:=by kernel_rfl
theorem CQ {B:Nat} {q:Rat} (h:Fit B q):Fit B q.abs:=by
 obtain ⟨h1,h2⟩:=qK q;exact ⟨by rw [h1];simpa using h.1,by rw [h2];exact h.2⟩
theorem CK {x:Rat} (h:x≠0):∀ j:Nat,x^j≠0
 | 0=>by rw [Rat.pow_zero];decide
 | j+1=>by
   rw [Rat.pow_succ];intro e;rcases Rat.mul_eq_zero.1 e with e | e
   ·exact CK h j e
   ·exact h e
theorem Cr {a b:Rat}:AI a b≤0↔a≤b:=by
 unfold AI;by_cases h1:a<b
 ·rw [if_pos h1];exact ⟨fun _=>by grind,fun _=>by omega⟩
 ·rw [if_neg h1];by_cases h2:b<a
  ·rw [if_pos h2];exact ⟨fun h=>by omega,fun h=>by grind⟩
  ·rw [if_neg h2];exact ⟨fun _=>by grind,fun _=>by omega⟩
set_option maxHeartbeats 1000000 in
theorem Ma (q:List (List Rat)) (m:Nat) (lead fP:Rat) (n:Int) (B L:Nat) (C:RI B q m fP (n-m+1) L) (hql:q.length=m+1) (hm:m≤64) (hL:L≤1048576) (hn1:(m:Int)≤n) (hn2:n<1099511627776) (hB:B≤8589934592) (h64:64≤B):aJ prog 205 [(Cl q m lead:aH),(qT fP:aH),(.one (.int .i64 n):aH)] (.ret [qT (iE q m fP ((n-m+1:Int):Rat) q.length)]):=by
 refine aD (args:=[.v (some 5), .v (some 3), .v none]) (ins:=[.v (Cl q m lead), .v (qT fP), .v (.one (.int .i64 n))]) (hints:=(fun _=>none)) fo (by kernel_rfl) func205 ⟨rfl,rfl,rfl,trivial⟩ ?_;rw [LQ];dsimp only [List.map,In.env,aA,aB];have hN0:((n-m+1:Int):Rat)≠0:=UT (by omega);refine vn (aQ EE (List.length_map _)) rfl ?_;dsimp only [aA,aB];refine cJ {i:Nat // i≤q.length} (fun g=>(.one (.int .i64 g.1):aH)::(qC (iE q m fP ((n-m+1:Int):Rat) g.1)).map .one) (fun g=>q.length-g.1) ⟨0,Nat.zero_le _⟩ ⟨aH.Sub.same,xX⟩ (fun _=>rfl) ?_;rintro ⟨i,hi⟩;dsimp only [aA,aB,List.map] at hi ⊢;refine vn bX rfl ?_;dsimp only [aA,aB];refine vs _ rfl (fun h3=>?_) (fun h3=>?_)
 ·obtain ⟨p,hpi⟩:∃ p,q[i]? = some p:=⟨_,List.getElem?_eq_getElem (by omega)⟩
  have hgd:q.getD i []=p:=by rw [List.getD_eq_getElem?_getD,hpi];rfl
  obtain ⟨hpl,hfp⟩:=C.fq p (List.mem_of_getElem? hpi);have hfx:=fun k=>C.fx i k (by omega);rw [hgd] at hfx;refine vn (bE EE (by omega) (by omega) hpi) rfl ?_;dsimp only [aA,aB];refine vn (dA CB) rfl ?_;dsimp only [aA,aB];refine vn (aQ eE (List.length_map _)) rfl ?_;dsimp only [aA,aB];refine cJ {k:Nat // k≤p.length} (fun g=>(.one (.int .i64 g.1):aH)::(qC (mU p m i fP ((n-m+1:Int):Rat) (iE q m fP ((n-m+1:Int):Rat) i) g.1)).map .one) (fun g=>p.length-g.1) ⟨0,Nat.zero_le _⟩ aN.rfl (fun _=>rfl) ?_;rintro ⟨k,hk⟩;dsimp only [aA,aB,List.map] at hk ⊢;refine vn bX rfl ?_;dsimp only [aA,aB];refine vs _ rfl (fun h9=>?_) (fun h9=>?_)
  ·have hkt:k<p.length:=by omega
   have hc:=CQ (hfp (p.getD k 0) (List.mem_of_getElem? (bR (l:=p) hkt)));have hr:=C.frho (m+k-i) (by omega);have hNp:=C.fN (m-i) (by omega);have e1:(m:Int)+(k:Int)-(i:Int)=((m+k-i:Nat):Int):=by omega
   have e2:(m:Int)-(i:Int)=((m-i:Nat):Int):=by omega
   have hx:=hfx k (by omega);refine vn (bE eE (by omega) (Int.toNat_natCast k) (bR hkt)) rfl ?_;dsimp only [aA,aB];refine vn (dQ nP (by decide) (by simp) (.inl rfl)) rfl ?_;dsimp only [aA,aB];refine vn bX rfl ?_;dsimp only [aA,aB];refine vs _ rfl (fun h13=>?_) (fun h13=>?_)
   ·refine aC (BU _) rfl ?_;dsimp only [aA,aB];refine vn (aG (by omega) (by omega)) rfl ?_;dsimp only [aA,aB];refine vn (aI (by omega) (by omega)) rfl ?_;rw [e1];dsimp only [aA,aB];refine aC (mB fP (m+k-i) B (by omega) (by omega) (fun j hj=>C.frho j (by omega))) rfl ?_;dsimp only [aA,aB];refine aC (eW _ _ B B hc hr (by omega)) rfl ?_;dsimp only [aA,aB];refine vn (aI (by omega) (by omega)) rfl ?_;dsimp only [aA,aB];refine vn (aG (by omega) (by omega)) rfl ?_;dsimp only [aA,aB];refine aC (fK (n-m+1) (by omega) (by omega)) rfl ?_;dsimp only [aA,aB];refine vn (aI (by omega) (by omega)) rfl ?_;rw [e2];dsimp only [aA,aB];refine aC (mB _ (m-i) B (by omega) (by omega) (fun j hj=>C.fN j (by omega))) rfl ?_;dsimp only [aA,aB];refine aC (vD _ _ (B+B) B (CK hN0 _) (hc.mul hr) hNp (by omega)) rfl ?_;dsimp only [aA,aB];refine aC (oB _ _ B (B+B+B) hx ((hc.mul hr).div hNp) (by omega)) rfl ?_;dsimp only [aA,aB];refine vn (aG (by omega) (by omega)) rfl ?_;dsimp only [aA,aB]
    exact aV rfl ⟨⟨k+1,by omega⟩,(by
     dsimp only;rw [mU,if_pos (.inl (by omega))];exact aN.rfl),by show p.length-(k+1)<p.length-k;omega⟩
   refine vn nE rfl ?_;dsimp only [aA,aB];refine vs _ rfl (fun h29=>?_) (fun h29=>?_)
   ·refine aC (BU _) rfl ?_;dsimp only [aA,aB];refine vn (aG (by omega) (by omega)) rfl ?_;dsimp only [aA,aB];refine vn (aI (by omega) (by omega)) rfl ?_;rw [e1];dsimp only [aA,aB];refine aC (mB fP (m+k-i) B (by omega) (by omega) (fun j hj=>C.frho j (by omega))) rfl ?_;dsimp only [aA,aB];refine aC (eW _ _ B B hc hr (by omega)) rfl ?_;dsimp only [aA,aB];refine vn (aI (by omega) (by omega)) rfl ?_;dsimp only [aA,aB];refine vn (aG (by omega) (by omega)) rfl ?_;dsimp only [aA,aB];refine aC (fK (n-m+1) (by omega) (by omega)) rfl ?_;dsimp only [aA,aB];refine vn (aI (by omega) (by omega)) rfl ?_;rw [e2];dsimp only [aA,aB];refine aC (mB _ (m-i) B (by omega) (by omega) (fun j hj=>C.fN j (by omega))) rfl ?_;dsimp only [aA,aB];refine aC (vD _ _ (B+B) B (CK hN0 _) (hc.mul hr) hNp (by omega)) rfl ?_;dsimp only [aA,aB];refine aC (oB _ _ B (B+B+B) hx ((hc.mul hr).div hNp) (by omega)) rfl ?_;dsimp only [aA,aB];refine vn (aG (by omega) (by omega)) rfl ?_;dsimp only [aA,aB]
    exact aV rfl ⟨⟨k+1,by omega⟩,(by
     dsimp only;rw [mU,if_pos (.inr (by omega))];exact aN.rfl),by show p.length-(k+1)<p.length-k;omega⟩
   refine vn (aG (by omega) (by omega)) rfl ?_;dsimp only [aA,aB]
   exact aV rfl ⟨⟨k+1,by omega⟩,(by
    dsimp only;rw [mU,if_neg (by omega)];exact aN.rfl),by show p.length-(k+1)<p.length-k;omega⟩
  refine vn (aG (by omega) (by omega)) rfl ?_;dsimp only [aA,aB]
  exact aV rfl ⟨⟨i+1,by omega⟩,(by
   dsimp only;rw [iE,hgd,show p.length=k by omega];exact aN.rfl),by show q.length-(i+1)<q.length-i;omega⟩
 rw [show q.length=i by omega];exact aP rfl
theorem LL {E sz b T:Nat} {α:Type} {f:α→List aF} {ds:List α} {x:Operand} {ty:Nat} {y:Operand} {k:IntKind} {n:Int} {m:Nat} (h:dB prog T=some (E,sz,b)) (h0:0≤n) (hm:n.toNat=m) (hn:m≤ds.length):aK prog (.slice T x (some y) none none) ty [.one (.slice sz (ds.map f)), .one (.int k n)] (.one (.slice sz ((ds.drop m).map f))):=by
 have:=Ip (P:=prog) (T:=T) (x:=x) (y:=y) (ty:=ty) (k:=k) (n:=n) (ts:=ds.map f) h h0 (by rw [List.length_map,hm];exact hn);rw [hm,←List.map_drop] at this;exact this
theorem zH (e:Int):aJ prog 130 [.one (.bool true), .one (.int .i64 e)] (.ret []):=by
 refine aD (args:=[.v none, .v none]) (ins:=[.v (.one (.bool true)), .v (.one (.int .i64 e))]) (hints:=(fun _=>none)) fo (by kernel_rfl) func130 ⟨rfl,rfl,trivial⟩ ?_;rw [Gx];dsimp only [List.map,In.env,aA,aB];refine vn BH rfl ?_;dsimp only [aA,aB];refine zW false rfl (fun h=>by cases h) (fun _=>?_);exact aP rfl
theorem VA {P:Program} {post:Out→Prop} {f:Nat} {args:List SW} {sh:List (Option Nat)} {op:Op} {ty:Nat} {k:Tr} {τ:Env} {bk:List (List aH→Prop)} {c:aF} (hd:aJ P f (args.map (lX τ)) (.pan c)) (h:post (.pan c)):vc P post (.need (.call f args sh) op ty true k) τ bk:=.inr (.inl ⟨rfl,c,hd,h⟩)
abbrev Uo (e:Int):aF:=.exact (.iface 261 (.agg #[.int .i64 e]))
theorem Iy {x:Operand} {ty:Nat} (e:Int):aK prog (.makeInterface 261 x) ty [.agg [.int .i64 e]] (.one (Uo e)):=by
 intro M w ρ o ho _ hr;have hx:(aH.agg [aF.int .i64 e]).rep M w (ρ x):=Bk (x:=x) hr;obtain ⟨us,hv,hus⟩:=hx
 match us,hus with
 | [u],hus=>
   have hu:u = .int .i64 e:=hus.1.1;subst hu;have hd:(prog.underlying 261).any (fun d=>match d with | .interface _=>false | _=>true)=true:=by kernel_rfl
   refine ⟨.iface 261 (.agg #[.int .i64 e]),?_,⟨rfl,rfl⟩⟩;cases hu:prog.underlying 261 with
   | none=>rw [hu] at hd;cases hd
   | some d=>
     rw [hu] at hd;cases d<;>first | (cases hd;done) | simp [execOp,ho,hv,Instr.makeInterface,run_underlying hu]
 | [],hus=>exact hus.elim
 | _::_::_,hus=>exact hus.2.elim
theorem zQ (e:Int):aJ prog 130 [.one (.bool false), .one (.int .i64 e)] (.pan (Uo e)):=by
 refine aD (args:=[.v none, .v none]) (ins:=[.v (.one (.bool false)), .v (.one (.int .i64 e))]) (hints:=(fun _=>none)) fo (by kernel_rfl) func130 ⟨rfl,rfl,trivial⟩ ?_;rw [Gx];dsimp only [List.map,In.env,aA,aB];refine vn BH rfl ?_;dsimp only [aA,aB];refine zW true rfl (fun _=>?_) (fun h=>by cases h);refine vn (Iy e) rfl ?_;dsimp only [aA,aB];exact ⟨rfl,fun M w v h=>⟨_,_,h.1⟩⟩
abbrev BM (q:List (List Rat)) (m:Nat) (lead:Rat) (h:Nat):Prop:=BT ((q.getD m []).drop 1) (dL h) ((q.getD m []).length-1)+BT ((q.getD m []).drop 1) (dL h) ((q.getD m []).length-1)≤lead.abs
abbrev pC (q:List (List Rat)) (m:Nat) (lead:Rat) (fP:Rat) (s:Nat):Prop:=iE q m fP (((s:Int)-m+1:Int):Rat) q.length≤lead.abs
structure KQ (B:Nat) (q:List (List Rat)) (m:Nat) (lead:Rat) (L h0 s i0:Nat):Prop where
 flead:Fit B lead
 fq:∀ p∈q,p.length≤L∧∀ x∈p,Fit B x
 frho:∀ h,h≤h0→h≤62→∀ j,j≤2*L+1→Fit B (dL h^j)
 fs:∀ h,h≤h0→h≤62→∀ k,k≤L→Fit B (BT ((q.getD m []).drop 1) (dL h) k)
 fm:∀ i,i≤i0→s*2^i≤4096→RI B q m (dL h0) (((s*2^i:Nat):Int)-m+1) L
 fo:∀ i,i≤i0→s*2^i≤4096→Fit B (iE q m (dL h0) ((((s*2^i:Nat):Int)-m+1:Int):Rat) q.length)
theorem LP (h:Nat):Fit (h+1) (mkRat 1 (2^h)):=by
 refine Fit.mkRat ?_ ?_ (Nat.ne_of_gt (Nat.pow_pos (by omega)))
 ·have:2^0≤2^h:=Nat.pow_le_pow_right (by omega) (Nat.zero_le _);rw [Nat.pow_succ];show (1:Nat)<_;omega
 ·exact Nat.pow_lt_pow_right (by omega) (by omega)
set_option maxHeartbeats 2000000 in
theorem HI (q:List (List Rat)) (m:Nat) (lead:Rat) (B L h0 i0:Nat) (C:KQ B q m lead L h0 (m+cD q+m) i0) (hql:q.length=m+1) (hm:m≤64) (hL:L≤1048576) (hB:B≤8589934592) (h64:64≤B) (hh:h0≤63) (hp1:1≤(q.getD m []).length) (hlow:∀ h,h<h0→¬ BM q m lead h) (hs:h0≤62→BM q m lead h0) (hst:h0≤62→∀ i,i<i0→(m+cD q+m)*2^i≤4096∧¬ pC q m lead (dL h0) ((m+cD q+m)*2^i)) (hsi:h0≤62→4096<(m+cD q+m)*2^i0∨pC q m lead (dL h0) ((m+cD q+m)*2^i0)) (hi13:i0≤13):aJ prog 123 [(Cl q m lead:aH)] (if h0=63∨4096<(m+cD q+m)*2^i0 then .pan (Uo 5) else .ret [.agg (([eQ q, .int .i64 m]++qC lead)++qC (dL h0) ++ [.int .i64 (((m+cD q+m)*2^i0:Nat):Int)])]):=by
 refine aD (args:=[.v (some 5)]) (ins:=[.v (Cl q m lead)]) (hints:=(fun _=>none)) fo (by kernel_rfl) func123 ⟨rfl,trivial⟩ ?_;rw [LH];dsimp only [List.map,In.env,aA,aB];obtain ⟨p,hpm⟩:∃ p,q[m]? = some p:=⟨_,List.getElem?_eq_getElem (by omega)⟩
 have hgd:q.getD m []=p:=by rw [List.getD_eq_getElem?_getD,hpm];rfl
 obtain ⟨hpl,hfp⟩:=C.fq p (List.mem_of_getElem? hpm);have hfs:=C.fs;have hfl:=CQ C.flead;rw [hgd] at hfs hp1;have hokr:∀ h,BM q m lead h↔BT (p.drop 1) (dL h) (p.length-1)+BT (p.drop 1) (dL h) (p.length-1)≤lead.abs:=fun h=>by rw [BM,hgd]
 have hlow:∀ h,h<h0→¬ BT (p.drop 1) (dL h) (p.length-1)+BT (p.drop 1) (dL h) (p.length-1)≤lead.abs:=fun h hh=>by rw [←hokr];exact hlow h hh
 have hs:=fun hx=>(hokr h0).1 (hs hx);refine aC (BU lead) rfl ?_;dsimp only [aA,aB]
 refine cJ {h:Nat // h≤h0} (fun g=>([.one (.int .i64 (2-(g.1:Int))), .one (eQ q), .one (.int .i64 m)]:List aH)++(qC lead).map aH.one++(qC (if g.1=0 then 0 else dL (g.1-1))).map aH.one ++ [aH.one (.int .i64 0)]) (fun g=>h0-g.1) ⟨0,Nat.zero_le _⟩
  ⟨aH.Sub.same,aH.Sub.same,aH.Sub.same,aH.Sub.same,aH.Sub.same,aH.Sub.same,gW.1,gW.2.1,gW.2.2.1,aH.Sub.same,trivial⟩ (fun _=>rfl) ?_
 rintro ⟨h,hh0⟩;dsimp only [aA,aB,List.map] at hh0 ⊢;refine vn mK rfl ?_;dsimp only [aA,aB];by_cases h63:h=63
 ·rw [show decide ((-60:Int)≤2-(h:Int))=false by rw [decide_eq_false_iff_not];omega];exact VA (zQ 5) (by rw [if_pos (.inl (by omega))];rfl)
 have hh2:h≤62:=by omega
 rw [show decide ((-60:Int)≤2-(h:Int))=true by rw [decide_eq_true_iff];omega];refine aC (zH 5) rfl ?_;refine aC (fK 4 (by omega) (by omega)) rfl ?_;dsimp only [aA,aB];refine vn (aI (by omega) (by omega)) rfl ?_;rw [show (2:Int)-(2-(h:Int))=(h:Int) by omega];dsimp only [aA,aB];refine aC (Rh h (by omega)) rfl ?_;dsimp only [aA,aB];refine aC (eW ((4:Int):Rat) (mkRat 1 (2^h)) 64 64 (Fit.int (by omega) (by omega)) ((LP h).mono (by omega)) (by omega)) rfl ?_;rw [show ((4:Int):Rat)*mkRat 1 (2^h)=dL h from rfl];dsimp only [aA,aB];refine vn (bE EE (by omega) (Int.toNat_natCast m) hpm) rfl ?_;dsimp only [aA,aB];refine vn (dA CB) rfl ?_;dsimp only [aA,aB];refine vn (LL eE (by omega) (show (1:Int).toNat=1 from rfl) hp1) rfl ?_;dsimp only [aA,aB];refine vn (aQ eE (show (rQ (p.drop 1)).length=p.length-1 by rw [List.length_map,List.length_drop])) rfl ?_;dsimp only [aA,aB];refine cJ {k:Nat // k≤p.length-1} (fun g=>(.one (.int .i64 g.1):aH)::(qC (BT (p.drop 1) (dL h) g.1)).map .one) (fun g=>p.length-1-g.1) ⟨0,Nat.zero_le _⟩ ⟨aH.Sub.same,xX⟩ (fun _=>rfl) ?_;rintro ⟨k,hk⟩;dsimp only [aA,aB,List.map] at hk ⊢;refine vn bX rfl ?_;dsimp only [aA,aB];refine vs _ rfl (fun h14=>?_) (fun h14=>?_)
 ·have hkt:k<(p.drop 1).length:=by rw [List.length_drop];omega
  have hc:=CQ (hfp ((p.drop 1).getD k 0) (List.mem_of_mem_drop (List.mem_of_getElem? (bR (l:=p.drop 1) hkt))));refine vn (bE eE (by omega) (Int.toNat_natCast k) (bR hkt)) rfl ?_;dsimp only [aA,aB];refine vn (dQ nP (by decide) (by simp) (.inl rfl)) rfl ?_;dsimp only [aA,aB];refine aC (BU _) rfl ?_;dsimp only [aA,aB];refine vn (aG (by omega) (by omega)) rfl ?_;dsimp only [aA,aB];refine aC (mB (dL h) (k+1) B (by omega) (by omega) (fun j hj=>C.frho h hh0 hh2 j (by omega))) rfl ?_;dsimp only [aA,aB];refine aC (eW _ _ B B hc (C.frho h hh0 hh2 (k+1) (by omega)) (by omega)) rfl ?_;dsimp only [aA,aB];refine aC (oB _ _ B (B+B) (hfs h hh0 hh2 k (by omega)) (hc.mul (C.frho h hh0 hh2 (k+1) (by omega))) (by omega)) rfl ?_;dsimp only [aA,aB];refine vn (aG (by omega) (by omega)) rfl ?_;dsimp only [aA,aB];exact aV rfl ⟨⟨k+1,by omega⟩,aN.rfl,by show p.length-1-(k+1)<p.length-1-k;omega⟩
 have hkl:p.length-1=k:=by omega
 rw [hkl] at hlow hs;refine aC (oB _ _ B B (hfs h hh0 hh2 k (by omega)) (hfs h hh0 hh2 k (by omega)) (by omega)) rfl ?_;dsimp only [aA,aB];refine aC (CF _ _ (B+B+1) B ((hfs h hh0 hh2 k (by omega)).add (hfs h hh0 hh2 k (by omega))) hfl (by omega)) rfl ?_;dsimp only [aA,aB];refine vn Ej rfl ?_;dsimp only [aA,aB];refine vs _ rfl (fun h27=>?_) (fun h27=>?_)
 ·have hle:=Cr.1 h27
  have hheq:h=h0:=by
   rcases Nat.lt_or_ge h h0 with hl | hl
   ·exact (hlow h hl hle).elim
   ·omega
  subst hheq;replace hs:=hs hh2;replace hst:=hst hh2;replace hsi:=hsi hh2;have hqs:∀ p∈q,p.length<1099511627776:=fun p hp=>by have:=(C.fq p hp).1;omega
  have hdm:=BE (N:=1048576) q (fun p hp=>Nat.le_trans (C.fq p hp).1 hL);refine aC (JJ q m lead hqs (by omega) (by omega)) rfl ?_;dsimp only [aA,aB];refine vn (aG (by omega) (by omega)) rfl ?_;rw [show ((m+cD q:Nat):Int)+(m:Int)=((m+cD q+m:Nat):Int) by omega];dsimp only [aA,aB];generalize hse:m+cD q+m=s at *;refine cJ {i:Nat // i≤i0} (fun g=>([.one (.exact (.slice none 0 0)), .one (.int .i64 0), .one (.exact (.slice none 0 0)), .one (.bool false), .one (.exact (.slice none 0 0)), .one (.exact (.slice none 0 0)), .one (.bool false), .one (.exact (.slice none 0 0)), .one (.int .i64 0), .one (eQ q), .one (.int .i64 m)]:List aH)++(qC lead).map aH.one++(qC (dL h)).map aH.one ++ [aH.one (.int .i64 ((s*2^g.1:Nat):Int))]) (fun g=>i0-g.1) ⟨0,Nat.zero_le _⟩ (show aN _ _ by rw [Nat.pow_zero,Nat.mul_one];exact aN.rfl) (fun _=>rfl) ?_;rintro ⟨i,hi⟩;dsimp only [aA,aB,List.map] at hi ⊢;have hpw:s*2^i≤s*2^13:=Nat.mul_le_mul_left _ (Nat.pow_le_pow_right (by omega) (by omega));have hs13:s≤1048704:=by omega
  have hsm:m≤s*2^i:=by
   have h1:1≤2^i:=Nat.pow_pos (by omega);have h2:s*1≤s*2^i:=Nat.mul_le_mul_left _ h1;omega
  obtain ⟨z,hz⟩:∃ z,s*2^i=z:=⟨_,rfl⟩
  rw [hz] at hpw hsm ⊢;refine vn Ej rfl ?_;dsimp only [aA,aB];by_cases hbig:4096<z
  ·rw [show decide ((z:Int)≤4096)=false by rw [decide_eq_false_iff_not];omega];refine VA (zQ 5) ?_
   have hie:i=i0:=by
    rcases Nat.lt_or_ge i i0 with hl | hl
    ·have:=(hst i hl).1;omega
    ·omega
   subst hie;rw [if_pos (.inr (by omega))];rfl
  have hfm:=C.fm i hi (by omega);have hfo:=C.fo i hi (by omega);rw [hz] at hfm hfo;rw [show decide ((z:Int)≤4096)=true by rw [decide_eq_true_iff];omega];refine aC (zH 5) rfl ?_;refine aC (Ma q m lead (dL h) (z:Int) B L hfm hql hm hL (by omega) (by omega) hB h64) rfl ?_;dsimp only [aA,aB];refine aC (CF _ _ B B hfo hfl (by omega)) rfl ?_;dsimp only [aA,aB];refine vn Ej rfl ?_;dsimp only [aA,aB];refine vs _ rfl (fun h36=>?_) (fun h36=>?_)
  ·have hle2:=Cr.1 h36
   have hieq:i=i0:=by
    rcases Nat.lt_or_ge i i0 with hl | hl
    ·exact ((hst i hl).2 (by rw [pC,hz];exact hle2)).elim
    ·omega
   subst hieq;rw [if_neg (by omega),hz];exact aP rfl
  have hilt:i<i0:=by
   rcases Nat.lt_or_ge i i0 with hl | hl
   ·exact hl
   ·exfalso
    obtain rfl:i=i0:=by omega
    rw [pC,hz] at hsi;exact h36 (Cr.2 (hsi.resolve_left hbig))
  refine vn (mN (by omega) (by omega)) rfl ?_;dsimp only [aA,aB]
  exact aV rfl ⟨⟨i+1,by omega⟩,aN.of_eq (show [aH.one (.exact (.slice none 0 0)), .one (.int .i64 0), .one (.exact (.slice none 0 0)), .one (.bool false), .one (.exact (.slice none 0 0)), .one (.exact (.slice none 0 0)), .one (.bool false), .one (.exact (.slice none 0 0)), .one (.int .i64 0), .one (eQ q), .one (.int .i64 m)]++(qC lead).map aH.one++(qC (dL h)).map aH.one ++ [aH.one (.int .i64 ((z:Int)*2))]=_ by
   dsimp only;rw [Nat.pow_succ,←Nat.mul_assoc,hz];rfl),by show i0-(i+1)<i0-i;omega⟩
 have hhlt:h<h0:=by
  rcases Nat.lt_or_ge h h0 with hl | hl
  ·exact hl
  ·exfalso
   obtain rfl:h=h0:=by omega
   exact h27 (Cr.2 (hs hh2))
 refine vn (aI (by omega) (by omega)) rfl ?_;dsimp only [aA,aB]
 exact aV rfl ⟨⟨h+1,by omega⟩,aN.of_eq (show [aH.one (.int .i64 (2-(h:Int)-1)), .one (eQ q), .one (.int .i64 m)]++(qC lead).map aH.one++(qC (dL h)).map aH.one ++ [aH.one (.int .i64 0)]=_ by
  dsimp only;rw [if_neg (by omega),Nat.add_sub_cancel,show (2:Int)-(h:Int)-1=2-((h+1:Nat):Int) by omega];rfl),by show h0-(h+1)<h0-h;omega⟩
theorem KV (q:List (List Rat)) (m:Nat) (lead:Rat) (B L h0 i0:Nat) (C:KQ B q m lead L h0 (m+cD q+m) i0) (hql:q.length=m+1) (hm:m≤64) (hL:L≤1048576) (hB:B≤8589934592) (h64:64≤B) (hh:h0≤62) (hp1:1≤(q.getD m []).length)
  (hlow:∀ h,h<h0→¬ BM q m lead h) (hs:BM q m lead h0) (hst:∀ i,i<i0→(m+cD q+m)*2^i≤4096∧¬ pC q m lead (dL h0) ((m+cD q+m)*2^i)) (hsi:pC q m lead (dL h0) ((m+cD q+m)*2^i0)) (hlim:(m+cD q+m)*2^i0≤4096) (hi13:i0≤13) :
  aJ prog 123 [Cl q m lead] (.ret [.agg (([eQ q, .int .i64 m]++qC lead)++qC (dL h0) ++ [.int .i64 (((m+cD q+m)*2^i0:Nat):Int)])]):=by
 have h:=HI q m lead B L h0 i0 C hql hm hL hB h64 (by omega) hp1 hlow (fun _=>hs) (fun _=>hst) (fun _=>.inr hsi) hi13;rw [if_neg (by omega)] at h;exact h
open Go Go.Proofs Go.RowKit Tryz Ord
attribute [local go_sem] Oper.semAt_some
theorem Qr {P:Program} {W:World} {b T:Nat} {c0 c1 c2 c3 c4 c5 c6 c7 c8 u0 u1 u2 u3 u4 u5 u6 u7 u8:Value} (h:W.heap[b]? = some (.cells #[c0,c1,c2,c3,c4,c5,c6,c7,c8] T (0,0))) (o:∀ u ∈ [u0,u1,u2,u3,u4,u5,u6,u7,u8],u.oneCell'=true) :
  (((store ⟨b,0,none⟩ u0).run P W).andThen fun _ w=>((store ⟨b,1,none⟩ u1).run P w).andThen fun _ w=>((store ⟨b,2,none⟩ u2).run P w).andThen fun _ w=>((store ⟨b,3,none⟩ u3).run P w).andThen fun _ w=>((store ⟨b,4,none⟩ u4).run P w).andThen fun _ w=>((store ⟨b,5,none⟩ u5).run P w).andThen fun _ w=>((store ⟨b,6,none⟩ u6).run P w).andThen fun _ w=>((store ⟨b,7,none⟩ u7).run P w).andThen fun _ w=>(store ⟨b,8,none⟩ u8).run P w) = .ok () (W.setRow b #[u0,u1,u2,u3,u4,u5,u6,u7,u8]):=by
 have s0:(store ⟨b,0,none⟩ u0).run P W = .ok () (W.setRow b #[u0,c1,c2,c3,c4,c5,c6,c7,c8]):=by
  rw [fG h (by simp) (o _ (by simp))];rfl
 have s1:(store ⟨b,1,none⟩ u1).run P (W.setRow b #[u0,c1,c2,c3,c4,c5,c6,c7,c8]) = .ok () (W.setRow b #[u0,u1,c2,c3,c4,c5,c6,c7,c8]):=by
  rw [fG (setRow_heap W b _ _ T (0,0) h) (by simp) (o _ (by simp)),setRow_setRow];rfl
 have s2:(store ⟨b,2,none⟩ u2).run P (W.setRow b #[u0,u1,c2,c3,c4,c5,c6,c7,c8]) = .ok () (W.setRow b #[u0,u1,u2,c3,c4,c5,c6,c7,c8]):=by
  rw [fG (setRow_heap W b _ _ T (0,0) h) (by simp) (o _ (by simp)),setRow_setRow];rfl
 have s3:(store ⟨b,3,none⟩ u3).run P (W.setRow b #[u0,u1,u2,c3,c4,c5,c6,c7,c8]) = .ok () (W.setRow b #[u0,u1,u2,u3,c4,c5,c6,c7,c8]):=by
  rw [fG (setRow_heap W b _ _ T (0,0) h) (by simp) (o _ (by simp)),setRow_setRow];rfl
 have s4:(store ⟨b,4,none⟩ u4).run P (W.setRow b #[u0,u1,u2,u3,c4,c5,c6,c7,c8]) = .ok () (W.setRow b #[u0,u1,u2,u3,u4,c5,c6,c7,c8]):=by
  rw [fG (setRow_heap W b _ _ T (0,0) h) (by simp) (o _ (by simp)),setRow_setRow];rfl
 have s5:(store ⟨b,5,none⟩ u5).run P (W.setRow b #[u0,u1,u2,u3,u4,c5,c6,c7,c8]) = .ok () (W.setRow b #[u0,u1,u2,u3,u4,u5,c6,c7,c8]):=by
  rw [fG (setRow_heap W b _ _ T (0,0) h) (by simp) (o _ (by simp)),setRow_setRow];rfl
 have s6:(store ⟨b,6,none⟩ u6).run P (W.setRow b #[u0,u1,u2,u3,u4,u5,c6,c7,c8]) = .ok () (W.setRow b #[u0,u1,u2,u3,u4,u5,u6,c7,c8]):=by
  rw [fG (setRow_heap W b _ _ T (0,0) h) (by simp) (o _ (by simp)),setRow_setRow];rfl
 have s7:(store ⟨b,7,none⟩ u7).run P (W.setRow b #[u0,u1,u2,u3,u4,u5,u6,c7,c8]) = .ok () (W.setRow b #[u0,u1,u2,u3,u4,u5,u6,u7,c8]):=by
  rw [fG (setRow_heap W b _ _ T (0,0) h) (by simp) (o _ (by simp)),setRow_setRow];rfl
 have s8:(store ⟨b,8,none⟩ u8).run P (W.setRow b #[u0,u1,u2,u3,u4,u5,u6,u7,c8]) = .ok () (W.setRow b #[u0,u1,u2,u3,u4,u5,u6,u7,u8]):=by
  rw [fG (setRow_heap W b _ _ T (0,0) h) (by simp) (o _ (by simp)),setRow_setRow];rfl
 rw [s0,Result.andThen_ok,s1,Result.andThen_ok,s2,Result.andThen_ok,s3,Result.andThen_ok,s4,Result.andThen_ok,s5,Result.andThen_ok,s6,Result.andThen_ok,s7,Result.andThen_ok,s8]
theorem Uy {M:Nat→Prop} {w:World} {a b c d e f g h i:aF} {vs:List Value} (hr:aL M w [a,b,c,d,e,f,g,h,i] vs):∃ u0 u1 u2 u3 u4 u5 u6 u7 u8,vs = [u0,u1,u2,u3,u4,u5,u6,u7,u8]:=by
 have hl:=hr.length
 match vs,hl with
 | [u0,u1,u2,u3,u4,u5,u6,u7,u8],_=>exact ⟨_,_,_,_,_,_,_,_,_,rfl⟩
theorem Ti {M:Nat→Prop} {w:World} {a b c d e:aF} {vs:List Value} (hr:aL M w [a,b,c,d,e] vs):∃ u0 u1 u2 u3 u4,vs = [u0,u1,u2,u3,u4]:=by
 have hl:=hr.length
 match vs,hl with
 | [u0,u1,u2,u3,u4],_=>exact ⟨_,_,_,_,_,rfl⟩
theorem TN {M:Nat→Prop} {w:World} {cs:List aF} {vs:List Value} (h:bV M w [.agg cs] vs):∃ us,pack vs = .agg us.toArray∧aL M w cs us:=by
 match vs,h with
 | [v],h=>
   obtain ⟨us,rfl,hus⟩:=h.1;exact ⟨us,rfl,hus⟩
 | [],h=>exact h.elim
 | _::_::_,h=>exact h.2.elim
abbrev Rz (q:List (List Rat)) (m:Nat) (lead fP:Rat) (st:Int):List aF:=([eQ q, .int .i64 m]++qC lead)++qC fP ++ [.int .i64 st]
set_option maxRecDepth 100000 in
set_option maxHeartbeats 400000 in
theorem Iq (M:Nat→Prop) (w:World) (hM:cM M w) (e:List (List Rat)) (c:Rat) (q:List (List Rat)) (m:Nat) (lead fP:Rat) (st:Int)
  (hat:aJ prog 100 [.one (eQ e),qT c] (.ret [Cl q m lead])) (hre:aJ prog 123 [Cl q m lead] (.ret [.agg (Rz q m lead fP st)]))
  (b0 b1 A:Nat) (ev u0 u1 u2:Value) (T0 T1:Nat) (z0 z1 z2 z3 z4 z5 z6 z7 z8:Value) (h0:w.heap[b0]? = some (.cells #[ev] T0 (0,0))) (h1:w.heap[b1]? = some (.cells #[u0,u1,u2] T1 (0,0))) (hA:w.heap[A]? = some (.cells #[z0,z1,z2,z3,z4,z5,z6,z7,z8] 185 (0,0)))
  (hMA:M A) (he:(eQ e).rep M w ev) (hc:aL M w (qC c) [u0,u1,u2]) :
  Calls prog 122 #[.pointer (some ⟨b0,0,none⟩), .pointer (some ⟨b1,0,none⟩), .pointer (some ⟨A,0,none⟩)] w fun e w'=>e = .returned (.tuple #[])∧w.grownBy w' (some A) ∧
   ∃ y0 y1 y2 y3 y4 y5 y6 y7 y8,w'.heap[A]? = some (.cells #[y0,y1,y2,y3,y4,y5,y6,y7,y8] 185 (0,0))∧aL M w' (Rz q m lead fP st) [y0,y1,y2,y3,y4,y5,y6,y7,y8]:=by
 refine calls_of_wp func122 rfl ?_;simp only [ntmps122,List.size_toArray,List.length_cons,List.length_nil,Nat.reduceAdd,Nat.reduceSub,Array.replicate_succ,Array.replicate_zero,List.push_toArray,List.append_toArray,List.nil_append,List.cons_append];have c0:w.cell? ⟨b0,0,none⟩=some ev:=aE h0 rfl;have d0:w.cell? ⟨b1,0,none⟩=some u0:=aE h1 rfl;have d1:w.cell? ⟨b1,1,none⟩=some u1:=aE h1 rfl;have d2:w.cell? ⟨b1,2,none⟩=some u2:=aE h1 rfl
 have k1:Calls prog 100 #[ev, .agg #[u0,u1,u2]] w fun e w'=>Below w.heap.size w w'∧∃ s0 s1 s2 s3 s4,e = .returned (.agg #[s0,s1,s2,s3,s4])∧aL M w' ([eQ q, .int .i64 m]++qC lead) [s0,s1,s2,s3,s4]:=by
  refine (hat.2 M w [ev, .agg #[u0,u1,u2]] hM ⟨he,⟨[u0,u1,u2],rfl,hc⟩,trivial⟩).mono ?_;rintro e w' ⟨hb,vs,rfl,hvs⟩;obtain ⟨us,e1,hus⟩:=TN hvs;obtain ⟨s0,s1,s2,s3,s4,rfl⟩:=Ti hus;exact ⟨hb,s0,s1,s2,s3,s4,by rw [e1],hus⟩
 obtain ⟨la,hla⟩:∃ la,w.heap.size=la:=⟨_,rfl⟩
 have hAl:A<w.heap.size:=hM.1 A hMA
 go_wp2_with (go_at_call 100;refine k1.mono ?_;clear k1;rintro e w1 ⟨hb1,s0,s1,s2,s3,s4,rfl,hs⟩)
 have hM1:cM M w1:=⟨fun b hb=>Nat.lt_of_lt_of_le (hM.1 b hb) hb1.size,hM.2.below rfl hb1⟩
 refine (hre.2 M w1 [.agg #[s0,s1,s2,s3,s4]] hM1 ⟨⟨_,rfl,hs⟩,trivial⟩).mono ?_;rintro e w2 ⟨hb2,vs,rfl,hvs⟩;obtain ⟨us,e1,hus⟩:=TN hvs;obtain ⟨y0,y1,y2,y3,y4,y5,y6,y7,y8,rfl⟩:=Uy hus;rw [e1];have hA2:w2.heap[A]? = some (.cells #[z0,z1,z2,z3,z4,z5,z6,z7,z8] 185 (0,0)):=(hb2.block A (Nat.lt_of_lt_of_le hAl hb1.size)).trans ((hb1.block A hAl).trans hA)
 go_wp2
 rw [Qr hA2 hus.one]
 have hg:w.grownBy (w2.setRow A #[y0,y1,y2,y3,y4,y5,y6,y7,y8]) (some A):=by
  have hb:=hb1.trans (hb2.mono hb1.size);refine ⟨hb.os,hb.tape,hb.output,by have:=hb.size;simpa [World.setRow] using this,fun k hk hne=>?_⟩;rw [setRow_other _ _ _ _ (fun e=>hne (by rw [e]))];exact hb.block k hk
 have hk:bF M w2 M (w2.setRow A #[y0,y1,y2,y3,y4,y5,y6,y7,y8]):=fun b o hb ho _=>⟨hb,by rw [setRow_other _ _ _ _ (fun e=>hb (by rw [e];exact hMA))];exact ho⟩
 have hself:(w2.setRow A #[y0,y1,y2,y3,y4,y5,y6,y7,y8]).heap[A]? = some (.cells #[y0,y1,y2,y3,y4,y5,y6,y7,y8] 185 (0,0)):=setRow_heap _ _ _ _ _ _ hA2;generalize w2.setRow A #[y0,y1,y2,y3,y4,y5,y6,y7,y8]=w3 at *
 go_wp2
 refine bodyPost_end (results_none rfl _ _ _) rfl ?_;exact ⟨rfl,hg,y0,y1,y2,y3,y4,y5,y6,y7,y8,hself,hus.mono hk⟩
theorem FX (p:Addr) (w:World) :
  CallsD prog 201 #[.pointer (some p)] .returning w fun e u' w'=>e = .returned (.tuple #[])∧u' = .returning∧w'=w:=by
 refine callsD_of_wpS func201 rfl fun c₀ cs hu=>?_;apply wpS_seq;apply wpS_region;simp [wpOpsS,go_sem,recoverD,hu,ntmps201,Exit.thenS];apply wpS_seq;apply wpS_region;simp [wpOpsS,go_sem,Exit.thenS];refine wpS_cond (t:=false) (by simp [Act.eval,Array.replicate]) ?_;simp only [Bool.false_eq_true,if_false];refine wpS_of_wp (wp_skip ?_);cases c₀
 simp_all [bodyPostS,results,show f201.results = #[] from rfl]
theorem Ia (g:FuncId) (caps:Array Value) (w:World) (Pw:World→Prop) (eg:∀ args w,(callFunc g args).run prog w = .ok (.enter g args) w)
  (h:Calls prog g caps (w.alloc (.cells #[.int .i64 0] 55)) fun e w'=>e = .returned (.tuple #[])∧w'.heap[w.heap.size]? = some (.cells #[.int .i64 0] 55 (0,0))∧Pw w') :
  Calls prog 121 #[.func (.func g) #[] caps] w fun e w'=>e = .returned (.int .i64 0)∧∃ w1,Pw w1∧w'=w1.setRow w.heap.size #[.int .i64 0]∧w1.heap[w.heap.size]? = some (.cells #[.int .i64 0] 55 (0,0)):=by
 have hmf:∀ (fn:Fn) (first cap:Array Value) (w:World),(Instr.makeFunc fn first cap).run prog w = .ok (.func fn first cap) w:=fun _ _ _ _=>rfl
 go_enter_defers func121,ntmps121
 go_wp2
 refine h.mono ?_;rintro e w1 ⟨rfl,hb,hP⟩;have cb:w1.cell? ⟨w.heap.size,0,none⟩=some (.int .i64 0):=aE hb rfl;have fb:w1.frozen? ⟨w.heap.size,0,none⟩=false:=by simp [World.frozen?,hb]
 go_wp2
 refine leaves_cons (f:=201) (args:=#[.pointer (some ⟨w.heap.size,0,none⟩)]) (by simp) (by simp [go_sem]) ?_;refine (FX ⟨w.heap.size,0,none⟩ _).mono ?_;rintro e u' w'' ⟨rfl,rfl,rfl⟩;rw [setCell_eq_setRow w1 w.heap.size 0 _ _ _ _ hb,show (#[Value.int .i64 0].setIfInBounds 0 (.int .i64 0)) = #[Value.int .i64 0] from rfl];have hb2:(w1.setRow w.heap.size #[Value.int .i64 0]).heap[w.heap.size]? = some (.cells #[.int .i64 0] 55 (0,0)):=setRow_heap _ _ _ _ _ _ hb;have cb2:(w1.setRow w.heap.size #[Value.int .i64 0]).cell? ⟨w.heap.size,0,none⟩=some (.int .i64 0):=aE hb2 rfl;simp [Leaves,settle,results,show f121.results = #[.cell 2 55] from rfl,go_sem,cb2];exact ⟨w1,hP,rfl,hb⟩
set_option maxRecDepth 100000 in
set_option maxHeartbeats 400000 in
theorem JR (M:Nat→Prop) (w:World) (hM:cM M w) (e:List (List Rat)) (c:Rat) (q:List (List Rat)) (m:Nat) (lead fP:Rat) (st:Int)
  (hce:aJ prog 19 [.one (eQ e)] (.ret [.one (.int .i64 0)])) (hrg:aJ prog 97 [.one (eQ e),qT c] (.ret [.one (.bool true)]))
  (hat:aJ prog 100 [.one (eQ e),qT c] (.ret [Cl q m lead])) (hre:aJ prog 123 [Cl q m lead] (.ret [.agg (Rz q m lead fP st)]))
  (ev u0 u1 u2:Value) (he:(eQ e).rep M w ev) (hc:aL M w (qC c) [u0,u1,u2]) :
  Calls prog 41 #[ev, .agg #[u0,u1,u2]] w fun e w'=>Below w.heap.size w w'∧∃ y0 y1 y2,e = .returned (.tuple #[.agg #[y0,y1,y2], .int .i64 st, .int .i64 0])∧aL M w' (qC fP) [y0,y1,y2]:=by
 have hmf:∀ (fn:Fn) (first cap:Array Value) (w:World),(Instr.makeFunc fn first cap).run prog w = .ok (.func fn first cap) w:=fun _ _ _ _=>rfl;obtain ⟨n0,hn0⟩:∃ n0,w.heap.size=n0:=⟨_,rfl⟩
 obtain ⟨o0,o1,o2⟩:u0.oneCell'=true∧u1.oneCell'=true∧u2.oneCell'=true:=by have:=hc.one;exact ⟨this _ (by simp),this _ (by simp),this _ (by simp)⟩
 refine calls_of_wp func41 rfl ?_;simp only [ntmps41,List.size_toArray,List.length_cons,List.length_nil,Nat.reduceAdd,Nat.reduceSub,Array.replicate_succ,Array.replicate_zero,List.push_toArray,List.append_toArray,List.nil_append,List.cons_append]
 obtain ⟨ea,ecap,rfl,_⟩:∃ ea ecap,ev = .slice ea e.length ecap∧True:=by
  have he':=he;obtain ⟨ea,ecap,rfl,_⟩:=he';exact ⟨ea,ecap,by rw [List.length_map],trivial⟩
 obtain ⟨Wa,hWa⟩:∃ Wa,(((w.alloc (.cells #[.slice ea e.length ecap] 32)).alloc (.cells #[u0,u1,u2] 39)).alloc (.cells #[.slice none 0 0, .bool false, .slice none 0 0] 39))=Wa:=⟨_,rfl⟩
 have hsa:Wa.heap.size=n0+3:=by rw [←hWa];simp [hn0]
 have hEa:Wa.heap[n0]? = some (.cells #[.slice ea e.length ecap] 32 (0,0)):=by rw [←hWa,heap_alloc_old _ _ _ (by simp;omega),heap_alloc_old _ _ _ (by simp;omega),←hn0];exact heap_alloc_new w _
 have hCa:Wa.heap[n0+1]? = some (.cells #[u0,u1,u2] 39 (0,0)):=by
  rw [←hWa,heap_alloc_old _ _ _ (by simp;omega)];have:=heap_alloc_new (w.alloc (.cells #[.slice ea e.length ecap] 32)) (.cells #[u0,u1,u2] 39);rw [World.size_alloc,hn0] at this;exact this
 have hRa:Wa.heap[n0+2]? = some (.cells #[.slice none 0 0, .bool false, .slice none 0 0] 39 (0,0)):=by
  rw [←hWa];have:=heap_alloc_new ((w.alloc (.cells #[.slice ea e.length ecap] 32)).alloc (.cells #[u0,u1,u2] 39)) (.cells #[.slice none 0 0, .bool false, .slice none 0 0] 39);rw [World.size_alloc,World.size_alloc,hn0] at this;exact this
 have hBa:Below w.heap.size w Wa:=by
  rw [←hWa];exact (((Below.refl _ w).alloc (by omega) _).alloc (by simp) _).alloc (by simp;omega) _
 have hka:bF M w M Wa:=bF.below hBa;have hMa:cM M Wa:=⟨fun b hb=>Nat.lt_of_lt_of_le (hM.1 b hb) hBa.size,hM.2.gS hka⟩
 have he0:=he;have hc0:=hc;replace he:=aF.mono _ hka he;replace hc:=hc.mono hka;have cE:Wa.cell? ⟨n0,0,none⟩=some (.slice ea e.length ecap):=aE hEa rfl
 have k1:Calls prog 19 #[.slice ea e.length ecap] Wa fun r w'=>Below Wa.heap.size Wa w'∧r = .returned (.int .i64 0):=by
  refine (hce.2 M Wa [.slice ea e.length ecap] hMa ⟨he,trivial⟩).mono ?_;rintro r w' ⟨hb,vs,rfl,hvs⟩;obtain ⟨v,e1,hr⟩:=KS hvs;rw [hr.1] at e1;exact ⟨hb,by rw [e1]⟩
 have k2:∀ w1,Below Wa.heap.size Wa w1→Calls prog 97 #[.slice ea e.length ecap, .agg #[u0,u1,u2]] w1 fun r w'=>Below w1.heap.size w1 w'∧r = .returned (.bool true):=by
  intro w1 hb;refine (hrg.2 M w1 [.slice ea e.length ecap, .agg #[u0,u1,u2]] ⟨fun b h=>Nat.lt_of_lt_of_le (hMa.1 b h) hb.size,hMa.2.below rfl hb⟩ ⟨aF.mono _ (bF.below hb) he,⟨_,rfl,hc.mono (bF.below hb)⟩,trivial⟩).mono ?_;rintro r w' ⟨hb,vs,rfl,hvs⟩;obtain ⟨v,e1,hr⟩:=KS hvs;rw [hr.1] at e1;exact ⟨hb,by rw [e1]⟩
 go_wp2_with (first | (go_at_call 19;refine k1.mono ?_;clear k1;rintro r w1 ⟨hb1,rfl⟩;have cE1:w1.cell? ⟨n0,0,none⟩=some (.slice ea e.length ecap):=aE ((hb1.block n0 (by omega)).trans hEa) rfl;have cC0:w1.cell? ⟨n0+1,0,none⟩=some u0:=aE ((hb1.block (n0+1) (by omega)).trans hCa) rfl;have cC1:w1.cell? ⟨n0+1,1,none⟩=some u1:=aE ((hb1.block (n0+1) (by omega)).trans hCa) rfl;have cC2:w1.cell? ⟨n0+1,2,none⟩=some u2:=aE ((hb1.block (n0+1) (by omega)).trans hCa) rfl) | (go_at_call 97;refine (k2 _ hb1).mono ?_;clear k2;rintro r w2 ⟨hb2,rfl⟩))
 obtain ⟨A,hA⟩:∃ A,w2.heap.size=A:=⟨_,rfl⟩
 obtain ⟨W3,hW3⟩:∃ W3,w2.alloc (.cells #[.slice none 0 0, .int .i64 0, .slice none 0 0, .bool false, .slice none 0 0, .slice none 0 0, .bool false, .slice none 0 0, .int .i64 0] 185)=W3:=⟨_,rfl⟩
 have hb2':=hb1.trans (hb2.mono hb1.size);have hs2:n0+3≤A:=by have:=hb2'.size;omega
 have hs3:W3.heap.size=A+1:=by rw [←hW3,World.size_alloc,hA]
 have hA3:W3.heap[A]? = some (.cells #[.slice none 0 0, .int .i64 0, .slice none 0 0, .bool false, .slice none 0 0, .slice none 0 0, .bool false, .slice none 0 0, .int .i64 0] 185 (0,0)):=by rw [←hW3,←hA];exact heap_alloc_new w2 _
 have hB3:Below Wa.heap.size Wa W3:=by rw [←hW3];exact hb2'.alloc (by omega) _
 rw [hA,hW3];obtain ⟨W4,hW4⟩:∃ W4,W3.alloc (.cells #[.int .i64 0] 55)=W4:=⟨_,rfl⟩
 have hB4:Below Wa.heap.size Wa W4:=by rw [←hW4];exact hB3.alloc (by omega) _
 have hs4:W4.heap.size=A+2:=by rw [←hW4,World.size_alloc,hs3]
 have hA4:W4.heap[A]? = some (.cells #[.slice none 0 0, .int .i64 0, .slice none 0 0, .bool false, .slice none 0 0, .slice none 0 0, .bool false, .slice none 0 0, .int .i64 0] 185 (0,0)):=by rw [←hW4,heap_alloc_old _ _ _ (by omega)];exact hA3
 have hX4:W4.heap[W3.heap.size]? = some (.cells #[.int .i64 0] 55 (0,0)):=by rw [←hW4];exact heap_alloc_new W3 _
 have hk4:bF M w (fun b=>M b∨b=A∨b=n0+2) W4:=fun b o hb ho _=>by
  have hlt:=(Array.getElem?_eq_some_iff.1 ho).1;have h3:b<Wa.heap.size:=by omega
  exact ⟨fun h=>h.elim hb (fun h=>by omega),(hB4.block b h3).trans ((hBa.block b hlt).trans ho)⟩
 have hM4:cM (fun b=>M b∨b=A∨b=n0+2) W4:=⟨fun b h=>h.elim (fun h=>Nat.lt_of_lt_of_le (hMa.1 b h) hB4.size) (fun h=>by omega),hM.2.gS hk4⟩
 have hr1:=Iq (fun b=>M b∨b=A∨b=n0+2) W4 hM4 e c q m lead fP st hat hre n0 (n0+1) A (.slice ea e.length ecap) u0 u1 u2 _ _ _ _ _ _ _ _ _ _ _ ((hB4.block _ (by omega)).trans hEa) ((hB4.block _ (by omega)).trans hCa) hA4 (.inr (.inl rfl)) (aF.mono _ hk4 he0) (hc0.mono hk4)
 have hc1:=Ia 122 #[.pointer (some ⟨n0,0,none⟩), .pointer (some ⟨n0+1,0,none⟩), .pointer (some ⟨A,0,none⟩)] W3 (fun w'=>W4.grownBy w' (some A)∧∃ y0 y1 y2 y3 y4 y5 y6 y7 y8,w'.heap[A]? = some (.cells #[y0,y1,y2,y3,y4,y5,y6,y7,y8] 185 (0,0))∧aL (fun b=>M b∨b=A∨b=n0+2) w' (Rz q m lead fP st) [y0,y1,y2,y3,y4,y5,y6,y7,y8]) (bG (by kernel_rfl)) (by
  rw [hW4];refine hr1.mono ?_;rintro r w' ⟨rfl,hg,hy⟩;exact ⟨rfl,(hg.block _ (by omega) (fun e=>by simp only [Option.some.injEq] at e;omega)).trans hX4,hg,hy⟩)
 refine hc1.mono ?_;clear hc1 hr1;rintro r w7 ⟨rfl,w6,⟨hg,y0,y1,y2,y3,y4,y5,y6,y7,y8,hA6,hy⟩,rfl,hX6⟩;obtain ⟨W7,hW7⟩:∃ W7,w6.setRow W3.heap.size #[.int .i64 0]=W7:=⟨_,rfl⟩
 have h7:∀ j,j≠A+1→W7.heap[j]? = w6.heap[j]?:=fun j hj=>by rw [←hW7,setRow_other _ _ _ _ (by omega)]
 have hA7:W7.heap[A]? = some (.cells #[y0,y1,y2,y3,y4,y5,y6,y7,y8] 185 (0,0)):=(h7 A (by omega)).trans hA6;have hs7:W7.heap.size=w6.heap.size:=by rw [←hW7];simp [World.setRow]
 have ho7:W7.os=w6.os∧W7.tape=w6.tape∧W7.output=w6.output:=by rw [←hW7];exact ⟨rfl,rfl,rfl⟩
 rw [hW7]
 have hB7:Below Wa.heap.size Wa W7:=by
  refine ⟨by rw [ho7.1,hg.os,hB4.os],by rw [ho7.2.1,hg.tape,hB4.tape],by rw [ho7.2.2,hg.output,hB4.output],by have:=hg.size;omega,fun k hk=>?_⟩;rw [h7 k (by omega),hg.block k (by omega) (fun e=>by simp only [Option.some.injEq] at e;omega),hB4.block k hk]
 have hR7:W7.heap[n0+2]? = some (.cells #[.slice none 0 0, .bool false, .slice none 0 0] 39 (0,0)):=(hB7.block _ (by omega)).trans hRa;have g5:W7.cell? ⟨A,5,none⟩=some y5:=aE hA7 rfl;have g6:W7.cell? ⟨A,6,none⟩=some y6:=aE hA7 rfl;have g7:W7.cell? ⟨A,7,none⟩=some y7:=aE hA7 rfl;have g8:W7.cell? ⟨A,8,none⟩=some (.int .i64 st):=by rw [←(show y8=_ from hy.2.2.2.2.2.2.2.2.1.1)];exact aE hA7 rfl
 have p5:y5.oneCell'=true:=hy.one _ (by simp);have p6:y6.oneCell'=true:=hy.one _ (by simp);have p7:y7.oneCell'=true:=hy.one _ (by simp);have r0:W7.cell? ⟨n0+2,0,none⟩=some (.slice none 0 0):=aE hR7 rfl;have r1:W7.cell? ⟨n0+2,1,none⟩=some (.bool false):=aE hR7 rfl;have r2:W7.cell? ⟨n0+2,2,none⟩=some (.slice none 0 0):=aE hR7 rfl;have fr:∀ j,W7.frozen? ⟨n0+2,j,none⟩=false:=fun j=>by simp [World.frozen?,hR7]
 have st3:(((store ⟨n0+1+1,0,none⟩ y5).run prog W7.drew).andThen fun _ w'=>((store ⟨n0+1+1,1,none⟩ y6).run prog w').andThen fun _ w'=>(store ⟨n0+1+1,2,none⟩ y7).run prog w') = .ok () (W7.drew.setRow (n0+2) #[y5,y6,y7]):=rZ (W:=W7.drew) hR7 p5 p6 p7;have hd:W7.drew.heap=W7.heap:=rfl
 have g8':(W7.drew.setRow (n0+2) #[y5,y6,y7]).cell? ⟨A,8,none⟩=some (.int .i64 st):=by
  rw [World.cell?_of_block (w:=W7.drew) (a:=⟨A,8,none⟩) (setRow_other _ _ _ _ (show A≠n0+2 by omega))];exact g8
 go_wp2
 go_region
 have hs9:(W7.drew.setRow (n0+2) #[y5,y6,y7]).heap[n0+2]? = some (.cells #[y5,y6,y7] 39 (0,0)):=setRow_heap _ _ _ _ _ _ hR7;have hb9:Below w.heap.size w (W7.drew.setRow (n0+2) #[y5,y6,y7]):=below_setRow (hBa.trans (hB7.drew.mono hBa.size)) (by omega) _
 have hk9:bF (fun b=>M b∨b=A∨b=n0+2) w6 M (W7.drew.setRow (n0+2) #[y5,y6,y7]):=fun b o hb ho _=>by
  refine ⟨fun h=>hb (.inl h),?_⟩;rw [setRow_other _ _ _ _ (fun e=>hb (.inr (.inr e)))];show W7.heap[b]? = some o;by_cases hbx:b=A+1
  ·subst hbx;rw [hs3] at hX6 hW7;rw [hX6] at ho;rw [←ho,←hW7];exact setRow_heap _ _ _ _ _ _ hX6
  ·rw [h7 b hbx];exact ho
 generalize hW9:W7.drew.setRow (n0+2) #[y5,y6,y7]=W9 at *;have t0:W9.cell? ⟨n0+2,0,none⟩=some y5:=aE hs9 rfl;have t1:W9.cell? ⟨n0+2,1,none⟩=some y6:=aE hs9 rfl;have t2:W9.cell? ⟨n0+2,2,none⟩=some y7:=aE hs9 rfl
 go_wp2
 have hy3:aL M W9 (qC fP) [y5,y6,y7]:=(show aL (fun b=>M b∨b=A∨b=n0+2) w6 (qC fP) [y5,y6,y7] from ⟨hy.2.2.2.2.2.1,hy.2.2.2.2.2.2.1,hy.2.2.2.2.2.2.2.1,trivial⟩).mono hk9;clear hy hk9;simp [bodyPost,results,show f41.results = #[.cell 4 39, .tmp 5, .tmp 6] from rfl,go_sem,t0,t1,t2];exact ⟨hb9,y5,y6,y7,⟨rfl,rfl,rfl⟩,hy3⟩
theorem UN {M:Nat→Prop} {w:World} {a b c:aF} {vs:List Value} (hr:aL M w [a,b,c] vs):∃ u0 u1 u2,vs = [u0,u1,u2]:=by
 have hl:=hr.length
 match vs,hl with
 | [u0,u1,u2],_=>exact ⟨_,_,_,rfl⟩
theorem Ew (e:List (List Rat)) (c:Rat) (q:List (List Rat)) (m:Nat) (lead fP:Rat) (st:Int)
  (hce:aJ prog 19 [.one (eQ e)] (.ret [.one (.int .i64 0)])) (hrg:aJ prog 97 [.one (eQ e),qT c] (.ret [.one (.bool true)]))
  (hat:aJ prog 100 [.one (eQ e),qT c] (.ret [Cl q m lead])) (hre:aJ prog 123 [Cl q m lead] (.ret [.agg (Rz q m lead fP st)])) :
  aJ prog 41 [.one (eQ e),qT c] (.ret [qT fP, .one (.int .i64 st), .one (.int .i64 0)]):=by
 refine ⟨bG (by kernel_rfl),fun M w vs hM hv=>?_⟩
 match vs,hv with
 | [v,u],hv=>
   obtain ⟨us,rfl,hus⟩:=hv.2.1;obtain ⟨u0,u1,u2,rfl⟩:=UN hus;refine (JR M w hM e c q m lead fP st hce hrg hat hre v u0 u1 u2 hv.1 hus).mono ?_;rintro r w' ⟨hb,y0,y1,y2,rfl,hy⟩;exact ⟨hb,[.agg #[y0,y1,y2], .int .i64 st, .int .i64 0],rfl,⟨_,rfl,hy⟩,⟨rfl,rfl⟩,⟨rfl,rfl⟩,trivial⟩
 | [],hv=>exact hv.elim
 | [_],hv=>exact hv.2.elim
 | _::_::_::_,hv=>exact hv.2.2.elim
end Go.Sy
namespace Go.Sy
open Go Go.Proofs Tryz Ord
def Rl:Tr:=aU 18 [(W 0 0),(W 1 0)] [(some 5),none] [8,9] [5,3] 56 false (.ret [(G5 2)])
theorem Lz:aO prog f53 (fun _=>none) [.v none, .v none]=Rl:=by kernel_rfl
def mY:Tr:=.ret [(tF false)]
def NG:Tr:=bO .eql 3 48 0 21 0 4 (.split (.u 22 0) (aU 90 [(G3 4)] [none] [52] [39] 9 false (.need (.prim [(W 23 0),(.one (.c (.k (.string ⟨#[52]⟩))))] none) (.binOp .eql 9 (tT 53) (.const (.string ⟨#[52]⟩)) 9) 4 false (.split (.u 24 0) (bO .eql 3 57 4 5 0 4 (.ret [(W 25 0)])) mY))) mY)
def Nc:Tr:=oX 15 0 (some 3) 39 39 (aU 90 [(G3 16)] [none] [40] [39] 9 false (.need (.prim [(W 17 0),(.one (.c (.k (.string ⟨#[49,47,49,56,48]⟩))))] none) (.binOp .eql 9 (tT 41) (.const (.string ⟨#[49,47,49,56,48]⟩)) 9) 4 false (.split (.u 18 0) (.need (.prim [(W 1 0),(WK 5)] none) (.indexAddr 40 (tT 45) (.const (I3 5))) 0 false (oX 19 0 (some 3) 39 46 (aU 35 [(G3 20)] [none] [47] [39] 3 false NG))) mY)))
def My:Tr:=.split (.u 10 0) (.need (.prim [(W 1 0),(WK 3)] none) (.indexAddr 40 (tT 31) (.const (I3 3))) 0 false (oX 11 0 (some 3) 39 32 (aU 90 [(G3 12)] [none] [33] [39] 9 false (.need (.prim [(W 13 0),(.one (.c (.k (.string ⟨#[49,47,54]⟩))))] none) (.binOp .eql 9 (tT 34) (.const (.string ⟨#[49,47,54]⟩)) 9) 4 false (.split (.u 14 0) (.need (.prim [(W 1 0),(WK 6)] none) (.indexAddr 40 (tT 38) (.const (I3 6))) 0 false Nc) mY))))) mY
def Ox:Tr:=aU 41 [(W 3 0),(.agg [tN,(tE (.bool false)),tN])] [(some 3),none,none] [13,14] [32,39] 84 false (bO .eql 55 19 0 2 0 4 (.split (.u 7 0) (bO .eql 55 22 0 6 0 4 (.split (.u 8 0) (fX 1 0 26 40 (bO .eql 3 27 7 9 0 4 My)) mY)) mY))
def PD:Tr:=.need (.call 53 [(.one (.c (.k (.int .u8 3)))),(WK 0)] [(some 5)]) (.call ⟨.value (.func 53),#[(.const (.int .u8 3)),(.const (I3 0))],#[5,3]⟩) 42 false (.need (.call 26 [(G5 0),(WK 7)] [none,none]) (.call ⟨.value (.func 26),#[(tT 7),(.const (I3 7))],#[42,3]⟩) 66 false (.need (.call 53 [(.one (.c (.k (.int .u8 1)))),(WK 0)] [(some 5)]) (.call ⟨.value (.func 53),#[(.const (.int .u8 1)),(.const (I3 0))],#[5,3]⟩) 42 false Ox))
theorem JC:aO prog f16 (fun _=>none) []=PD:=by kernel_rfl
theorem zR (k:Nat) (n:Int) (hk:k<256) (h1:-9223372036854775808≤n) (h2:n<9223372036854775808):aJ prog 53 [(.one (.int .u8 k):aH),(.one (.int .i64 n):aH)] (.ret [fT (gC k n).1 0 (gC k n).2.1]):=by
 refine aD (args:=[.v none, .v none]) (ins:=[.v (.one (.int .u8 k)), .v (.one (.int .i64 n))]) (hints:=(fun _=>none)) fo (by kernel_rfl) func53 ⟨rfl,rfl,trivial⟩ ?_;rw [Lz];dsimp only [List.map,In.env,aA,aB];refine aC (Jl k n hk h1 h2) rfl ?_;exact aP rfl
instance fitDec (B:Nat) (q:Rat):Decidable (Fit B q):=inferInstanceAs (Decidable (_∧_))
instance bdDec (D S:Nat) (q:Rat):Decidable (Bd D S q):=inferInstanceAs (Decidable (_∧_))
theorem k3:gC 3 0=([[0,-1],[],[1]],[1,0],0):=by decide +kernel
theorem VS:gC 1 0=([[-1],[1]],[1],0):=by decide +kernel
theorem Vy:pJ [[0,-1],[],[1]] 0 = [[0,-1],[],[1]]:=by decide +kernel
theorem VX:pJ [[-1],[1]] 0 = [[-1],[1]]:=by decide +kernel
theorem VT:eD [[0,-1],[],[1]] 0=1:=by decide +kernel
theorem Wh:eD [[-1],[1]] 0=1:=by decide +kernel
theorem Wf:kQ [[0,-1],[],[1]] 0 [1,0] 7=([1,0,0,1/6,0,0,1/180],0):=by decide +kernel
theorem Mr:sB 64 [[0,-1],[],[1]] 2 1 [1,0] 7 where
 flead:=by decide +kernel
 fy:=by decide +kernel
 fq:=by decide +kernel
 ffall:=fun n i hn hi z hz j hj=>by
  have h:=oG (z:=z) (N:=9) j (by omega);have h2:9^j≤9^2:=Nat.pow_le_pow_right (by omega) (by omega);exact Fit.int (by omega) (by omega)
 ffac:=by decide +kernel
 fa:=by decide +kernel
 fx:=by
  have h:∀ n,n<7→∀ i,i<3→∀ k,k<3→Fit 64 (inner (([[0,-1],[],[1]]:List (List Rat)).getD i []) (aZ [[0,-1],[],[1]] 2 1 [1,0] n) 2 n i (outer [[0,-1],[],[1]] (aZ [[0,-1],[],[1]] 2 1 [1,0] n) 2 n i) k):=by decide +kernel
  intro n i k hn _ hi hk;have hl:∀ i,i<3→(([[0,-1],[],[1]]:List (List Rat)).getD i []).length≤2:=by decide
  have:=hl i hi;exact h n hn i hi k (by omega)
theorem RK:KQ 64 [[-1],[1]] 1 1 1 0 2 1 where
 flead:=by decide +kernel
 fq:=by decide +kernel
 frho:=by decide +kernel
 fs:=by decide +kernel
 fm:=fun i hi _=>by
  have h1:∀ i,i≤1→∀ j,j≤3→Fit 64 (((((2*2^i:Nat):Int)-(1:Nat)+1:Int):Rat)^j):=by decide +kernel
  have h2:∀ i,i≤1→∀ j,j<2→∀ k,k≤(([[-1],[1]]:List (List Rat)).getD j []).length→Fit 64 (mU (([[-1],[1]]:List (List Rat)).getD j []) 1 j (dL 0) ((((2*2^i:Nat):Int)-(1:Nat)+1:Int):Rat) (iE [[-1],[1]] 1 (dL 0) ((((2*2^i:Nat):Int)-(1:Nat)+1:Int):Rat) j) k):=by decide +kernel
  exact ⟨by decide +kernel,by decide +kernel,h1 i hi,fun j k hj hk=>h2 i hi j hj k hk⟩
 fo:=by decide +kernel
theorem QA:aJ prog 123 [Cl [[-1],[1]] 1 1] (.ret [.agg (Rz [[-1],[1]] 1 1 4 4)]):=by
 have h:=KV [[-1],[1]] 1 1 64 1 0 1 RK (by decide) (by decide) (by decide) (by decide) (by decide) (by decide) (by decide) (fun h hh=>absurd hh (Nat.not_lt_zero _)) (by decide +kernel) (by decide +kernel) (by decide +kernel) (by decide +kernel) (by decide);rw [show dL 0=4 by decide +kernel,show (1+cD [[-1],[1]]+1)*2^1=4 by decide +kernel] at h;exact h
theorem UA:LK [[-1],[1]]:=⟨by decide,by decide +kernel⟩
theorem Vv:LK [[0,-1],[],[1]]:=⟨by decide,by decide +kernel⟩
set_option maxHeartbeats 1000000 in
theorem KT  :aJ prog 16 [] (.ret [.one (.bool true)]):=by
 refine aD (args:=[]) (ins:=[]) (hints:=(fun _=>none)) fo (by kernel_rfl) func16 trivial ?_;rw [JC];dsimp only [List.map,In.env,aA,aB];have e1:=zR 3 0 (by omega) (by omega) (by omega);rw [k3] at e1;refine aC e1 rfl ?_;dsimp only [aA,aB];have e2:=nG [[0,-1],[],[1]] 0 [1,0] 7 1 1 1 1 2 64 64 7 Vv (Fit.zero (by omega)) (by decide) (by omega) (by omega) (fun _=>⟨by omega,by omega,by decide +kernel,by decide +kernel,by omega,by omega,by omega,by decide +kernel⟩) (fun _=>by rw [Vy];decide) (fun _ _ _=>⟨by rw [Vy,VT];exact Mr,by decide,by decide,by decide⟩) (by omega) (by omega);rw [Wf] at e2;refine aC e2 rfl ?_;dsimp only [aA,aB];have e3:=zR 1 0 (by omega) (by omega) (by omega);rw [VS] at e3;refine aC e3 rfl ?_;dsimp only [aA,aB];have hce:=mL [[-1],[1]] (by decide) (by decide);rw [show uE [[-1],[1]]=true by decide +kernel] at hce;have hrg:=vO [[-1],[1]] 0 UA (by decide) (Fit.zero (by omega));rw [show nR [[-1],[1]] 0=true by decide +kernel] at hrg;have hat:=JF (e:=[[-1],[1]]) (c:=0) (D:=1) (E:=1) (S:=1) (T:=1) (K:=2) (B:=64) ⟨by omega,by omega,by decide +kernel,by decide +kernel,by omega,by omega,by omega,by decide +kernel⟩ (by decide) (by decide) (by decide +kernel);rw [VX,Wh] at hat;refine vM (show aN [.one (eQ [[-1],[1]]), .agg [.exact (.slice none 0 0), .bool false, .exact (.slice none 0 0)]] [.one (eQ [[-1],[1]]),qT 0] from ⟨aH.Sub.same,gW,trivial⟩) (Ew [[-1],[1]] 0 [[-1],[1]] 1 1 4 4 hce hrg hat QA) rfl ?_;dsimp only [aA,aB];refine vn cK rfl ?_;dsimp only [aA,aB];refine vs _ rfl (fun h5=>?_) (fun h5=>?_)
 ·refine vn cK rfl ?_;dsimp only [aA,aB];refine vs _ rfl (fun h7=>?_) (fun h7=>?_)
  ·refine vn (aQ xI (show (rQ [1,0,0,1/6,0,0,1/180]).length=7 from rfl)) rfl ?_;dsimp only [aA,aB];refine vn cK rfl ?_;dsimp only [aA,aB];refine vs _ rfl (fun h10=>?_) (fun h10=>?_)
   ·refine vn (bE xI (by omega) (show (3:Int).toNat=3 from rfl) (show ([1,0,0,1/6,0,0,1/180]:List Rat)[3]? = some (1/6) from rfl)) rfl ?_;dsimp only [aA,aB];refine vn (dQ nP (by decide) (by simp) (.inl rfl)) rfl ?_;dsimp only [aA,aB];refine aC (CH (1/6) 64 (by decide +kernel) (by omega)) rfl ?_;rw [show Kg (1/6) = [49,47,54] from by decide +kernel];dsimp only [aA,aB];refine vn (EL (b:=[49,47,54])) rfl ?_;dsimp only [aA,aB];refine vs _ rfl (fun h15=>?_) (fun h15=>?_)
    ·refine vn (bE xI (by omega) (show (6:Int).toNat=6 from rfl) (show ([1,0,0,1/6,0,0,1/180]:List Rat)[6]? = some (1/180) from rfl)) rfl ?_;dsimp only [aA,aB];refine vn (dQ nP (by decide) (by simp) (.inl rfl)) rfl ?_;dsimp only [aA,aB];refine aC (CH (1/180) 64 (by decide +kernel) (by omega)) rfl ?_;rw [show Kg (1/180) = [49,47,49,56,48] from by decide +kernel];dsimp only [aA,aB];refine vn (EL (b:=[49,47,49,56,48])) rfl ?_;dsimp only [aA,aB];refine vs _ rfl (fun h20=>?_) (fun h20=>?_)
     ·refine vn (bE xI (by omega) (show (5:Int).toNat=5 from rfl) (show ([1,0,0,1/6,0,0,1/180]:List Rat)[5]? = some 0 from rfl)) rfl ?_;dsimp only [aA,aB];refine vn (dQ nP (by decide) (by simp) (.inl rfl)) rfl ?_;dsimp only [aA,aB];refine aC (kU 0) rfl ?_;dsimp only [aA,aB];refine vn cK rfl ?_;dsimp only [aA,aB];refine vs _ rfl (fun h25=>?_) (fun h25=>?_)
      ·refine aC (CH 4 64 (by decide +kernel) (by omega)) rfl ?_;rw [show Kg 4 = [52] from by decide +kernel];dsimp only [aA,aB];refine vn (EL (b:=[52])) rfl ?_;dsimp only [aA,aB];refine vs _ rfl (fun h28=>?_) (fun h28=>?_)
       ·refine vn cK rfl ?_;exact aP rfl
       exact (h28 (by decide)).elim
      exact (h25 (by decide)).elim
     exact (h20 (by decide)).elim
    exact (h15 (by decide)).elim
   exact (h10 (by decide)).elim
  exact (h7 (by decide)).elim
 exact (h5 (by decide)).elim
open Go Go.Proofs Tryz Ord
theorem Bj (x:Rat) (xs:List Rat):trim (x::xs)=if dH zr xs=0∧zr x=true then [] else x::trim xs:=by
 unfold trim;simp only [dH];split<;>simp
theorem sE:∀ ps:List Rat,dH zr (trim ps)=dH zr ps
 | []=>rfl
 | x::xs=>by
   have ih:=sE xs;rw [Bj];split
   ·rename_i h;simp only [dH];rw [if_pos h]
   ·rename_i h;simp only [dH];rw [ih]
theorem Ii (ps:List Rat):trim (trim ps)=trim ps:=by
 have:=eO ps;show (trim ps).take (dH zr (trim ps))=trim ps;rw [sE];exact List.take_of_length_le (by omega)
theorem Hr {ps:List Rat} (h:dH zr ps=0) (c:Rat):gZ ps c=0:=by
 induction ps with
 | nil=>rfl
 | cons x xs ih=>
   simp only [dH] at h;split at h
   ·rename_i h';have hx:x=0:=by simpa [zr] using h'.2
    show gZ xs c*c+x=0;rw [ih h'.1,hx];grind
   ·omega
theorem wR (c:Rat):∀ ps:List Rat,gZ (trim ps) c=gZ ps c
 | []=>rfl
 | x::xs=>by
   have ih:=wR c xs;rw [Bj];split
   ·rename_i h;rw [Hr (ps:=x::xs) (by simp only [dH];rw [if_pos h])];rfl
   ·show gZ (trim xs) c*c+x=gZ xs c*c+x;rw [ih]
def AN (e e':List (List Rat)):Prop:=e.length=e'.length∧∀ (i:Nat) p p',e[i]? = some p→e'[i]? = some p'→dH zr p=dH zr p'∧∀ c,gZ p c=gZ p' c
theorem AN.symm {e e':List (List Rat)} (h:AN e e'):AN e' e:=⟨h.1.symm,fun i p p' h1 h2=>⟨(h.2 i p' p h2 h1).1.symm,fun c=>((h.2 i p' p h2 h1).2 c).symm⟩⟩
theorem AN.Tj {e e':List (List Rat)} (h:AN e e') (hk:uE e=true):uE e'=true:=by
 unfold uE at hk ⊢;rw [decide_eq_true_iff] at hk ⊢;obtain ⟨h1,h2,h3,h4⟩:=hk;have hl:=h.1;refine ⟨by omega,by omega,fun p hp=>?_,fun p hp=>?_⟩
 ·obtain ⟨i,hi⟩:=List.getElem?_of_mem hp;have hi2:=(List.getElem?_eq_some_iff.1 hi).1;obtain ⟨p',hp'⟩:∃ p',e[i]? = some p':=⟨_,List.getElem?_eq_getElem (by omega)⟩
  rw [←(h.2 i p' p hp' hi).1];exact h3 p' (List.mem_of_getElem? hp')
 ·rw [←hl] at hp;obtain ⟨p',hp'⟩:∃ p',e[e.length-1]? = some p':=⟨_,List.getElem?_eq_getElem (by omega)⟩
  rw [←(h.2 _ p' p hp' hp).1];exact h4 p' hp'
theorem AN.uE {e e':List (List Rat)} (h:AN e e'):uE e'=uE e:=by
 cases he:Go.Sy.uE e with
 | true=>exact h.Tj he
 | false=>
   cases he':Go.Sy.uE e' with
   | false=>rfl
   | true=>rw [h.symm.Tj he'] at he;cases he
theorem AN.Oe {e e':List (List Rat)} (h:AN e e') (c:Rat) (hk:nR e c=true):nR e' c=true:=by
 unfold nR at hk ⊢;rw [decide_eq_true_iff] at hk ⊢;have hl:=h.1;intro p hp;rw [←hl] at hp;have hlt:=(List.getElem?_eq_some_iff.1 hp).1;obtain ⟨p',hp'⟩:∃ p',e[e.length-1]? = some p':=⟨_,List.getElem?_eq_getElem (by omega)⟩
 rw [←(h.2 _ p' p hp' hp).2];exact hk p' hp'
theorem AN.nR {e e':List (List Rat)} (h:AN e e') (c:Rat):nR e' c=nR e c:=by
 cases he:Go.Sy.nR e c with
 | true=>exact h.Oe c he
 | false=>
   cases he':Go.Sy.nR e' c with
   | false=>rfl
   | true=>rw [h.symm.Oe c he'] at he;cases he
theorem AN.okF {e e':List (List Rat)} (h:AN e e') (c:Rat) (y:List Rat):okF e' c y=okF e c y:=by
 unfold Go.Sy.okF;rw [h.uE,h.nR,h.1]
theorem JI (l:List cF):(DE l).map RQ.q=bT l:=by
 rw [DE,bT,List.map_map];rfl
theorem MU (n:Nat):(Jp n).map RQ.q=kR n:=by
 rw [Jp,kR,List.map_set,List.map_replicate];rfl
theorem Lh (p:List (List cF)) (long:Int):FW (Rx p long)=p.map (fun l=>trim (bT l))++if 0<long then [kR (long%50+1).toNat] else []:=by
 unfold FW Rx;rw [List.map_append,List.map_map]
 congr 1
 ·refine List.map_congr_left fun l _=>?_;show (iW (DE l)).map RQ.q=_;rw [mG,JI]
 ·split
  ·rw [List.map_cons,List.map_nil,MU]
  ·rfl
theorem Ny {α:Type} (f g:α→List Rat) (hfg:∀ a,dH zr (f a)=dH zr (g a)∧∀ c,gZ (f a) c=gZ (g a) c) (l:List α) (r:List (List Rat)):AN (l.map f++r) (l.map g++r):=by
 refine ⟨by simp,fun i p p' h1 h2=>?_⟩;rcases Nat.lt_or_ge i l.length with h | h
 ·rw [List.getElem?_append_left (by simpa using h),List.getElem?_map,List.getElem?_eq_getElem h] at h1 h2;simp only [Option.map_some,Option.some.injEq] at h1 h2;subst h1 h2;exact hfg _
 ·rw [List.getElem?_append_right (by simpa using h)] at h1 h2;rw [List.length_map] at h1 h2;rw [h1] at h2;cases h2;exact ⟨rfl,fun _=>rfl⟩
theorem Sk (p:List (List cF)) (long:Int):AN (Iw p long) (FW (Rx p long)):=by
 rw [Lh];exact Ny _ _ (fun l=>⟨(sE _).symm,fun c=>(wR c _).symm⟩) _ _
theorem IQ (n:Nat) (hn:n≤50):(kR n).length≤64∧∀ q∈kR n,Fit 513 q:=by
 refine ⟨by simp [kR];omega,fun q hq=>?_⟩;rcases List.mem_or_eq_of_mem_set hq with h | rfl
 ·rw [(List.mem_replicate.1 h).2];exact Fit.zero (by omega)
 ·exact (iA (n:=1) (by omega) (by omega)).mono (by omega)
theorem GP {l:List cF} (hl:l.length≤4) (h:∀ x∈l,x.In):(bT l).length≤64∧∀ q∈bT l,Fit 513 q:=by
 refine ⟨by rw [oT];omega,fun q hq=>?_⟩;obtain ⟨x,hx,rfl⟩:=List.mem_map.1 hq;exact (h x hx).SS
theorem TA {p:List (List cF)} {long:Int} (hp:Up p) (hs:xP p=true):LK (Iw p long)∧LK (FW (Rx p long)):=by
 unfold xP at hs;rw [decide_eq_true_iff] at hs;obtain ⟨h1,h2⟩:=hs;have hn:(long%50+1).toNat≤50:=by omega
 rw [Lh]
 have hr:∀ q∈(if 0<long then [kR (long%50+1).toNat] else []),q.length≤64∧∀ x∈q,Fit 513 x:=by
  intro q hq;split at hq
  ·rw [List.mem_singleton] at hq;subst hq;exact IQ _ hn
  ·cases hq
 have hrl:(if 0<long then [kR (long%50+1).toNat] else []).length≤1:=by split<;>simp
 constructor
 ·refine ⟨by rw [Iw,List.length_append,List.length_map];omega,fun q hq=>?_⟩;rcases List.mem_append.1 hq with h | h
  ·obtain ⟨l,hl,rfl⟩:=List.mem_map.1 h;exact GP (h2 l hl).1 (hp.p l hl).2
  ·exact hr q h
 ·refine ⟨by rw [List.length_append,List.length_map];omega,fun q hq=>?_⟩;rcases List.mem_append.1 hq with h | h
  ·obtain ⟨l,hl,rfl⟩:=List.mem_map.1 h;obtain ⟨k1,k2⟩:=GP (h2 l hl).1 (hp.p l hl).2;exact ⟨by rw [eO];have:=fE (z:=zr) (bT l);omega,fun x hx=>k2 x (List.mem_of_mem_take hx)⟩
  ·exact hr q h
theorem Mb {l:List Int} (h:mF l) (hl:l.length<8):(ints l).length<1099511627776∧∀ q∈ints l,Fit 64 q:=by
 refine ⟨by rw [ints,eO];have:=fE (z:=zr) (l.map fun n:Int=>(n:Rat));rw [List.length_map] at this;omega,fun q hq=>?_⟩;obtain ⟨n,hn,rfl⟩:=List.mem_map.1 (List.mem_of_mem_take hq);exact iA (h n hn).1 (h n hn).2
theorem SD {k:Nat} {n:Int} (h1:1≤k) (h2:k≤8) (h3:0≤n) (h4:n≤40):(kE k n).map trim=kE k n∧(kE k n).length≤3∧∀ p∈kE k n,p.length<1099511627776∧∀ q∈p,Fit 64 q:=by
 have hnn:n*(n+1)≤40*41:=Int.mul_le_mul (a:=n) (b:=n+1) (c:=40) (d:=41) (by omega) (by omega) (by omega) (by omega);have hn0:0≤n*(n+1):=Int.mul_nonneg (by omega) (by omega);generalize hm:n*(n+1)=m at hnn hn0;have ht:∀ l,trim (ints l)=ints l:=fun l=>Ii _;have ht0:trim [] = []:=rfl;have hz:([]:List Rat).length<1099511627776∧∀ q∈([]:List Rat),Fit 64 q:=⟨by simp,by simp⟩
 rcases (by omega:k=1∨k=2∨k=3∨k=4∨k=5∨k=6∨k=7∨k=8) with rfl | rfl | rfl | rfl | rfl | rfl | rfl | rfl <;>
  refine ⟨by simp only [kE,List.map_cons,List.map_nil,ht,ht0],by simp [kE],fun p hp=>?_⟩ <;>
  simp only [kE,List.mem_cons,List.not_mem_nil,or_false] at hp <;>
  (try rw [hm] at hp) <;>
  (rcases hp with rfl | rfl | rfl<;>first | exact hz | exact Mb (by intro x hx;simp only [List.mem_cons,List.not_mem_nil,or_false] at hx;omega) (by simp))
open Go Go.Proofs Go.RowKit Go.ChangeShapes Go.WideShapes Tryz
section
variable {H:Type} {enc:TypeId×Value→H} {P:Program}
def Wd (P:Program) (t:TypeId) (d:DataW H):Prop:=∀ n∈DataW.weights P t d,n≤reachBytes
theorem Ct:∀ {ts:List TypeId} {ds:List (DataW H)} {j:Nat} {t:TypeId} {d:DataW H},ts[j]? = some t→ds[j]? = some d→∀ n∈DataW.weights P t d,n∈DataW.weightsEach P ts ds:=fun h1 h2=>DataW.weights_mem_each h1 h2
theorem Wd.field {t:TypeId} {fs:Array Field} {parts:List (DataW H)} (ht:P.underlying t=some (.struct fs)) (h:Wd P t (.agg parts)) {j:Nat} {f:Field} {d:DataW H} (hf:fs[j]? = some f) (hd:parts[j]? = some d):Wd P f.type d:=fun n hn=>by
 refine h n ?_;rw [DataW.weights,ht];exact Ct (ts:=fs.toList.map (·.type)) (by rw [List.getElem?_map,Array.getElem?_toList,hf];rfl) hd n hn
theorem Wd.len {t e:TypeId} {es sp:List (DataW H)} (ht:P.underlying t=some (.slice e)) (h:Wd P t (.slice es sp)) (hb:0<P.bytesOf e):es.length≤reachBytes:=by
 have:=h ((es.length+sp.length)*P.bytesOf e) (by rw [DataW.weights,ht];exact List.mem_cons_self);have h2:(es.length+sp.length)*1≤(es.length+sp.length)*P.bytesOf e:=Nat.mul_le_mul_left _ hb;omega
abbrev VF:Nat→Prop:=fun _=>False
end
section
variable {H:Type} {enc:TypeId×Value→H}
end
section
variable {H:Type} {enc:TypeId×Value→H} {P:Program}
theorem pO (hl:laidOutB P=true) {W W':World} {sp':Nat→Bool}:∀ {ts:List TypeId} {vs:List Value} {ds:List (DataW H)} {ps:List MemPlace},(∀ t∈ts,P.readableRec t=true∧t<P.types.size) →
  DataW.TrodAll enc P W 0 (fun _=>true) true ts vs ds ps→(∀ p∈ps,W.sameAt W' p)→(∀ p∈ps,sp' p.block=true)→DataW.TrodAll enc P W' 0 sp' true ts vs ds ps
 | [],[],[],_,_,h,_,_=>h
 | t::ts,v::vs,d::ds,_,hr,h,h1,h2=>by
   obtain ⟨p,q,k1,k2,rfl⟩:=h;refine ⟨p,q,WideElems.Trod_stays hl (hr t (by simp)).1 (hr t (by simp)).2 k1 (fun x hx=>h1 x (by simp [hx])) (fun x hx=>h2 x (by simp [hx])),pO hl (fun t ht=>hr t (List.mem_cons_of_mem _ ht)) k2 (fun x hx=>h1 x (by simp [hx])) (fun x hx=>h2 x (by simp [hx])),rfl⟩
 | [],_::_,_,_,_,h,_,_=>h.elim
 | [],[],_::_,_,_,h,_,_=>h.elim
 | _::_,[],_,_,_,h,_,_=>h.elim
 | _::_,_::_,[],_,_,h,_,_=>h.elim
theorem Fx {f:Func} {s:ChangeSpec} {apart fresh handsOn again:Bool} {W W':World} {args:Array Value} {ds gs:List (DataW H)} {before:List MemPlace} {T:TypeId}
  (hl:laidOutB P=true) (hts:∀ t∈f.params.toList,P.readableRec t=true∧t<P.types.size) (hvars:s.vars = [])
  (hW:DataW.Whole enc P f.params.toList s.vars apart W args.toList ds gs before) (hres:(s.fn H (ds++gs)).results = [.lit (.bool true)]) (hargs:(s.fn H (ds++gs)).args=ds) (hvs:(s.fn H (ds++gs)).vars = [])
  (hb:Below W.heap.size W W') (hrt:f.resultTypes = #[T]) (hT:P.underlying T=some .bool) :
  s.post enc P f apart fresh handsOn again W args (.bool true) W':=by
 have hlt:∀ p∈before,p.block<W.heap.size:=fun p hp=>hW.lt p hp;have hsame:∀ p∈before,W.sameAt W' p:=fun p hp=>hb.same (hlt p hp);obtain ⟨p,q,hA,hV,hps,hz,hn⟩:=hW;have hW:DataW.Whole enc P f.params.toList s.vars apart W args.toList ds gs before:=⟨p,q,hA,hV,hps,hz,hn⟩
 rw [hvars] at hV;obtain ⟨rfl,rfl⟩:=trodVars_none hV;rw [List.append_nil] at hps;subst hps;have ha:∀ sp:Nat→Bool,(∀ p∈before,sp p.block=true)→DataW.TrodAll enc P W' 0 sp true f.params.toList args.toList ds before:=fun sp h=>pO hl hts hA hsame h
 have hr:∀ (b:Nat) (sp:Nat→Bool) (hd:Bool),DataW.TrodAll enc P W' b sp hd f.resultTypes.toList ((Value.bool true).resultList f.resultTypes.size) [.lit (.bool true)] []:=fun b sp hd=>by
  rw [hrt];exact trodAll_mk1 (shut_bool hT true)
 have hold:∀ p∈before,(fun b=>decide (b<W.heap.size)) p.block=true:=fun p hp=>by simpa using hlt p hp
 refine ⟨ds,[],before,[],before,[],hW,?_,?_,?_,hb.frame _,fun _=>⟨?_,_,[],before,⟨[]++before,[],trodAll_append (ha (fun _=>true) (fun _ _=>rfl)) (hr 0 (fun _=>true) true),?_,by simp,?_,?_⟩,fun p hp _=>hp⟩⟩
 ·rw [hres];exact hr _ _ _
 ·rw [hargs];exact ha _ hold
 ·rw [hvars,hvs];rfl
 ·exact ok_one hrt rfl (okWide_bool_mk hT true)
 ·rw [hvars];exact (rfl:DataW.TrodVars enc P W' (fun _=>true) [] [] [])
 ·intro b off hp;rw [hb.frozen (p:=⟨b,off,none⟩) (hlt _ hp)];exact hz b off hp
 ·exact hn
end
theorem Cu {W:World} {l:List (String×DataW Unit)} (hl:l.filter (fun x=>x.1 == "internal/strconv.uint64pow10") = [("internal/strconv.uint64pow10",Lib.tabData .u64 Lib.pow10Tab)]) (h:laidMetH prog l W):Good VF W:=by
 have h1:=h.filter (fun x=>x.1 == "internal/strconv.uint64pow10");rw [hl] at h1;have h2:laidMet prog [("internal/strconv.uint64pow10",Lib.tabData .u64 Lib.pow10Tab)] W:=h1;intro x hx;have hx:x=(0,yG):=by simpa [LR.Um] using hx
 subst hx;have hg:prog.globalNamed "internal/strconv.uint64pow10" = some 0:=by kernel_rfl
 have ht:=Lib.tabIs_of_head (rest:=[]) hg (by kernel_rfl:(prog.globals[0]?).map (·.type)=some 343) underlying343 underlying254 (by kernel_rfl) (by kernel_rfl) h2;unfold Lib.TabIs World.var? at ht;rw [hg] at ht;dsimp only [Option.bind_some] at ht;refine ⟨fun h=>h,?_⟩;split at ht
 ·rename_i cs T fz he;cases ht;exact ⟨T,fz,he⟩
 ·cases ht
end Go.Sy
