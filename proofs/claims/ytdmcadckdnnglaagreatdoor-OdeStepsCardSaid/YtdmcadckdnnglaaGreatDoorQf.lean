/- The reach: sums of absolute values, halved radii, doubled starts. The reach.
-/
import Derived.Test.YtdmcadckdnnglaaGreatDoorQc
import Derived.Test.YtdmcadckdnnglaaGreatDoorQe
set_option linter.unusedVariables false
set_option linter.unusedSimpArgs false
namespace Ord
def qX (r:List Rat) (aJ:Rat):Nat→Rat
 | 0=>0
 | k+1=>qX r aJ k+(r.getD k 0).abs*aJ^(k+1)
def bD (h:Nat):Rat:=((4:Int):Rat)*mkRat 1 (2^h)
def gQ (p:List Rat) (m i:Nat) (aJ N x:Rat):Nat→Rat
 | 0=>x
 | k+1=>if i<m∨0<k then gQ p m i aJ N x k+(p.getD k 0).abs*aJ^(m+k-i)/N^(m-i) else gQ p m i aJ N x k
def fI (q:List (List Rat)) (m:Nat) (aJ N:Rat):Nat→Rat
 | 0=>0
 | i+1=>gQ (q.getD i []) m i aJ N (fI q m aJ N i) (q.getD i []).length
structure aM3 (B:Nat) (q:List (List Rat)) (m:Nat) (aJ:Rat) (N:Int) (L:Nat):Prop where
 fq:∀ p∈q,p.length≤L∧∀ x∈p,Fit B x
 frho:∀ j,j≤2*(m+L)+1→Fit B (aJ^j)
 fN:∀ j,j≤2*m+1→Fit B ((N:Rat)^j)
 fx:∀ i k,i<q.length→k≤(q.getD i []).length→Fit B (gQ (q.getD i []) m i aJ N (fI q m aJ N i) k)
end Ord
namespace Go.Sy
open Go Go.Proofs Tryz Ord
def UL:Tr:=aK 68 [(W 26 0)] [(some 3)] [51] [2] 39 false (bJ .sub 3 53 54 0 1 4 0 3 (aK 203 [(G3 27),(W 28 0)] [(some 3)] [52,55] [39,3] 39 false (aK 207 [(G3 24),(G3 29)] [(some 3)] [47,56] [39,39] 39 true (aK 64 [(.agg [(U 13 0),(U 14 0),(U 15 0)]),(G3 30)] [(some 3)] [37,57] [39,39] 39 true (aU .add 3 25 1 12 0 3 (.back 1 [lV 32 0,lV 31 0,lV 31 1,lV 31 2]))))))
def XL:Tr:=aK 146 [(G3 18)] [(some 3)] [38] [39] 39 false (bJ .add 3 41 42 0 1 12 0 3 (bJ .sub 3 43 44 21 0 4 0 3 (aK 203 [(G3 1),(W 22 0)] [(some 3)] [40,45] [39,3] 39 false (aK 36 [(G3 20),(G3 23)] [(some 3)] [39,46] [39,39] 39 false (bJ .sub 3 48 49 2 0 0 1 3 (aU .add 3 50 1 25 0 3 UL))))))
def Mc:Tr:=.back 1 [lV 33 0,lV 32 0,lV 32 1,lV 32 2]
def UW:Tr:=aU .add 3 50 1 26 0 3 (aK 68 [(W 27 0)] [(some 3)] [51] [2] 39 false (bJ .sub 3 53 54 0 1 4 0 3 (aK 203 [(G3 28),(W 29 0)] [(some 3)] [52,55] [39,3] 39 false (aK 207 [(G3 25),(G3 30)] [(some 3)] [47,56] [39,39] 39 true (aK 64 [(.agg [(U 13 0),(U 14 0),(U 15 0)]),(G3 31)] [(some 3)] [37,57] [39,39] 39 true (aU .add 3 25 1 12 0 3 Mc))))))
def Yc:Tr:=.split (.u 20 0) (aK 146 [(G3 18)] [(some 3)] [38] [39] 39 false (bJ .add 3 41 42 0 1 12 0 3 (bJ .sub 3 43 44 22 0 4 0 3 (aK 203 [(G3 1),(W 23 0)] [(some 3)] [40,45] [39,3] 39 false (aK 36 [(G3 21),(G3 24)] [(some 3)] [39,46] [39,39] 39 false (bJ .sub 3 48 49 2 0 0 1 3 UW)))))) (aU .add 3 25 1 12 0 3 (.back 1 [lV 21 0,lV 13 0,lV 14 0,lV 15 0]))
def ae4:Tr:=bJ .lss 3 25 24 12 0 11 0 0 (.split (.u 16 0) (eD 10 0 12 0 72 23 25 (dI 17 0 (some 3) 39 28 (bJ .lss 3 30 31 4 0 0 1 4 (.split (.u 19 0) XL (aU .gtr 3 34 0 12 0 4 Yc))))) (aU .add 3 18 1 4 0 3 (.back 0 [lV 17 0,lV 13 0,lV 14 0,lV 15 0])))
def aa5:Tr:=.loop 0 [lK 0,lN,(.w (.one (.c (.k (.bool false))))),lN] (bJ .lss 3 18 17 4 0 3 0 0 (.split (.u 8 0) (eD 0 0 4 0 31 16 18 (dI 9 0 none 72 21 (cB 10 0 23 72 (.loop 1 [lK 0,lV 5 0,lV 6 0,lV 7 0] ae4)))) (.ret [(.agg [(U 5 0),(U 6 0),(U 7 0)])])))
def aw4:Tr:=cB 0 0 16 31 aa5
theorem Yr:aN prog f205 (fun _=>none) [.v (some 5), .v (some 3), .v none]=aw4:=by kernel_rfl
def Vm:Tr:=dI 26 0 (some 3) 39 36 (aK 146 [(G3 27)] [(some 3)] [39] [39] 39 false (aU .add 3 43 1 21 0 3 (aK 203 [(G3 16),(W 29 0)] [(some 3)] [42,44] [39,3] 39 false (aK 36 [(G3 28),(G3 30)] [(some 3)] [40,45] [39,39] 39 true (aK 64 [(.agg [(U 22 0),(U 23 0),(U 24 0)]),(G3 31)] [(some 3)] [38,46] [39,39] 39 true (aU .add 3 33 1 21 0 3 Mc))))))
def XO:Tr:=.need (.call 130 [(W 49 0),(WK 5)] []) (.call ⟨.value (.func 130),#[(tT 67),(.const (I3 5))],#[4,55]⟩) 0 true (aK 205 [(G5 0),(.agg [(U 45 0),(U 46 0),(U 47 0)]),(W 48 0)] [(some 3)] [69,71,73] [171,39,3] 39 false (aK 38 [(G3 50),(G3 1)] [none] [74,75] [39,39] 3 true (aU .leq 3 76 0 51 0 4 (.split (.u 52 0) (.ret [(.agg [(U 40 0),(U 41 0),(U 42 0),(U 43 0),(U 44 0),(U 45 0),(U 46 0),(U 47 0),(U 48 0)])]) (aU .mul 3 62 2 48 0 3 (.back 0 [lV 31 0,lV 32 0,lV 33 0,lV 34 0,lV 35 0,lV 36 0,lV 37 0,lV 38 0,lV 39 0,lV 40 0,lV 41 0,lV 42 0,lV 43 0,lV 44 0,lV 45 0,lV 46 0,lV 47 0,lV 53 0]))))))
def Xj:Tr:=aK 38 [(G3 26),(G3 1)] [none] [51,52] [39,39] 3 true (aU .leq 3 53 0 27 0 4 (.split (.u 28 0) (aK 204 [(G5 0)] [none] [55] [171] 3 false (bJ .add 3 56 58 29 0 0 1 3 (.loop 0 [lN,lK 0,lN,(.w (.one (.c (.k (.bool false))))),lN,lN,(.w (.one (.c (.k (.bool false))))),lN,lK 0,lV 3 0,lV 4 0,lV 5 0,lV 6 0,lV 7 0,lV 16 0,lV 16 1,lV 16 2,lV 30 0] (aU .leq 3 66 4096 48 0 4 XO)))) (aU .sub 3 14 1 2 0 3 (.back 0 [lV 29 0,lV 3 0,lV 4 0,lV 5 0,lV 6 0,lV 7 0,lV 16 0,lV 16 1,lV 16 2,lV 11 0]))))
def az3:Tr:=dI 17 0 none 72 29 (.need (.prim [(W 18 0),(WK 1)] none) (.slice 72 (tT 30) (some (.const (I3 1))) none none) 72 false (cB 19 0 31 72 (.loop 1 [lK 0,lN,(.w (.one (.c (.k (.bool false))))),lN] (bJ .lss 3 33 32 21 0 20 0 0 (.split (.u 25 0) (eD 19 0 21 0 72 31 33 Vm) (aK 64 [(.agg [(U 22 0),(U 23 0),(U 24 0)]),(.agg [(U 22 0),(U 23 0),(U 24 0)])] [(some 3)] [49,50] [39,39] 39 false Xj))))))
def aw5:Tr:=aU .geq 3 16 (-60) 2 0 4 (.need (.call 130 [(W 12 0),(WK 5)] []) (.call ⟨.value (.func 130),#[(tT 17),(.const (I3 5))],#[4,55]⟩) 0 true (.need (.call 68 [(WK 4)] [(some 3)]) (.call ⟨.value (.func 68),#[(.const (I3 4))],#[2]⟩) 39 false (.need (.prim [(WK 2),(W 2 0)] none) (.binOp .sub 3 (.const (I3 2)) (tT 20) 3) 3 false (aK 202 [(W 14 0)] [(some 3)] [21] [3] 39 true (aK 36 [(G3 13),(G3 15)] [(some 3)] [19,22] [39,39] 39 true (eD 0 0 0 1 31 26 28 az3))))))
def ab5:Tr:=aK 146 [(.agg [(U 0 2),(U 0 3),(U 0 4)])] [(some 3)] [12] [39] 39 true (.loop 0 [lK 2,lV 0 0,lV 0 1,lV 0 2,lV 0 3,lV 0 4,lN,(.w (.one (.c (.k (.bool false))))),lN,lK 0] aw5)
theorem PA:aN prog f123 (fun _=>none) [.v (some 5)]=ab5:=by kernel_rfl
theorem dQ {B:Nat} {q:Rat} (h:Fit B q):Fit B q.abs:=by
 obtain ⟨h1,h2⟩:=oM q;exact ⟨by rw [h1];simpa using h.1,by rw [h2];exact h.2⟩
theorem qJ {x:Rat} (h:x≠0):∀ j:Nat,x^j≠0
 | 0=>by rw [Rat.pow_zero];decide
 | j+1=>by
   rw [Rat.pow_succ];intro e;rcases Rat.mul_eq_zero.1 e with e | e
   ·exact qJ h j e
   ·exact h e
theorem fZ {a b:Rat}:lE a b≤0↔a≤b:=by
 unfold lE;by_cases h1:a<b
 ·rw [if_pos h1];exact ⟨fun _=>by grind,fun _=>by omega⟩
 ·rw [if_neg h1];by_cases h2:b<a
  ·rw [if_pos h2];exact ⟨fun h=>by omega,fun h=>by grind⟩
  ·rw [if_neg h2];exact ⟨fun _=>by grind,fun _=>by omega⟩
set_option maxHeartbeats 1000000 in
theorem YI (q:List (List Rat)) (m:Nat) (lead aJ:Rat) (n:Int) (B L:Nat) (C:aM3 B q m aJ (n-m+1) L) (hql:q.length=m+1) (hm:m≤64) (hL:L≤1048576) (hn1:(m:Int)≤n) (hn2:n<1099511627776) (hB:B≤8589934592) (h64:64≤B):aM prog 205 [(xA q m lead:aF),(qT aJ:aF),(.one (.int .i64 n):aF)] (.ret [qT (fI q m aJ ((n-m+1:Int):Rat) q.length)]):=by
 refine aD (args:=[.v (some 5), .v (some 3), .v none]) (ins:=[.v (xA q m lead), .v (qT aJ), .v (.one (.int .i64 n))]) (hints:=(fun _=>none)) fo (by kernel_rfl) func205 ⟨rfl,rfl,rfl,trivial⟩ ?_;rw [Yr];dsimp only [List.map,In.env,aB,aA];have hN0:((n-m+1:Int):Rat)≠0:=zne (by omega);refine vn (aP Kb (List.length_map _)) rfl ?_;dsimp only [aB,aA];refine bC {i:Nat // i≤q.length} (fun g=>(.one (.int .i64 g.1):aF)::(qC (fI q m aJ ((n-m+1:Int):Rat) g.1)).map .one) (fun g=>q.length-g.1) ⟨0,Nat.zero_le _⟩ ⟨aF.Sub.same,sY⟩ (fun _=>rfl) ?_;rintro ⟨i,hi⟩;dsimp only [aB,aA,List.map] at hi ⊢;refine vn bB rfl ?_;dsimp only [aB,aA];refine vs _ rfl (fun h3=>?_) (fun h3=>?_)
 ·obtain ⟨p,hpi⟩:∃ p,q[i]? = some p:=⟨_,List.getElem?_eq_getElem (by omega)⟩
  have hgd:q.getD i []=p:=by rw [List.getD_eq_getElem?_getD,hpi];rfl
  obtain ⟨hpl,hfp⟩:=C.fq p (List.mem_of_getElem? hpi);have hfx:=fun k=>C.fx i k (by omega);rw [hgd] at hfx;refine vn (aW Kb (by omega) (by omega) hpi) rfl ?_;dsimp only [aB,aA];refine vn (bF JE) rfl ?_;dsimp only [aB,aA];refine vn (aP jF (List.length_map _)) rfl ?_;dsimp only [aB,aA];refine bC {k:Nat // k≤p.length} (fun g=>(.one (.int .i64 g.1):aF)::(qC (gQ p m i aJ ((n-m+1:Int):Rat) (fI q m aJ ((n-m+1:Int):Rat) i) g.1)).map .one) (fun g=>p.length-g.1) ⟨0,Nat.zero_le _⟩ aO.rfl (fun _=>rfl) ?_;rintro ⟨k,hk⟩;dsimp only [aB,aA,List.map] at hk ⊢;refine vn bB rfl ?_;dsimp only [aB,aA];refine vs _ rfl (fun h9=>?_) (fun h9=>?_)
  ·have hkt:k<p.length:=by omega
   have hc:=dQ (hfp (p.getD k 0) (List.mem_of_getElem? (cW (l:=p) hkt)));have hr:=C.frho (m+k-i) (by omega);have hNp:=C.fN (m-i) (by omega);have e1:(m:Int)+(k:Int)-(i:Int)=((m+k-i:Nat):Int):=by omega
   have e2:(m:Int)-(i:Int)=((m-i:Nat):Int):=by omega
   have hx:=hfx k (by omega);refine vn (aW jF (by omega) (Int.toNat_natCast k) (cW hkt)) rfl ?_;dsimp only [aB,aA];refine vn (bO sS (by decide) (by simp) (.inl rfl)) rfl ?_;dsimp only [aB,aA];refine vn bB rfl ?_;dsimp only [aB,aA];refine vs _ rfl (fun h13=>?_) (fun h13=>?_)
   ·refine aC (qK _) rfl ?_;dsimp only [aB,aA];refine vn (aE (by omega) (by omega)) rfl ?_;dsimp only [aB,aA];refine vn (aG (by omega) (by omega)) rfl ?_;rw [e1];dsimp only [aB,aA];refine aC (iY aJ (m+k-i) B (by omega) (by omega) (fun j hj=>C.frho j (by omega))) rfl ?_;dsimp only [aB,aA];refine aC (dF _ _ B B hc hr (by omega)) rfl ?_;dsimp only [aB,aA];refine vn (aG (by omega) (by omega)) rfl ?_;dsimp only [aB,aA];refine vn (aE (by omega) (by omega)) rfl ?_;dsimp only [aB,aA];refine aC (jP (n-m+1) (by omega) (by omega)) rfl ?_;dsimp only [aB,aA];refine vn (aG (by omega) (by omega)) rfl ?_;rw [e2];dsimp only [aB,aA];refine aC (iY _ (m-i) B (by omega) (by omega) (fun j hj=>C.fN j (by omega))) rfl ?_;dsimp only [aB,aA];refine aC (qN _ _ (B+B) B (qJ hN0 _) (hc.mul hr) hNp (by omega)) rfl ?_;dsimp only [aB,aA];refine aC (mL _ _ B (B+B+B) hx ((hc.mul hr).div hNp) (by omega)) rfl ?_;dsimp only [aB,aA];refine vn (aE (by omega) (by omega)) rfl ?_;dsimp only [aB,aA]
    exact aR rfl ⟨⟨k+1,by omega⟩,(by
     dsimp only;rw [gQ,if_pos (.inl (by omega))];exact aO.rfl),by show p.length-(k+1)<p.length-k;omega⟩
   refine vn dB rfl ?_;dsimp only [aB,aA];refine vs _ rfl (fun h29=>?_) (fun h29=>?_)
   ·refine aC (qK _) rfl ?_;dsimp only [aB,aA];refine vn (aE (by omega) (by omega)) rfl ?_;dsimp only [aB,aA];refine vn (aG (by omega) (by omega)) rfl ?_;rw [e1];dsimp only [aB,aA];refine aC (iY aJ (m+k-i) B (by omega) (by omega) (fun j hj=>C.frho j (by omega))) rfl ?_;dsimp only [aB,aA];refine aC (dF _ _ B B hc hr (by omega)) rfl ?_;dsimp only [aB,aA];refine vn (aG (by omega) (by omega)) rfl ?_;dsimp only [aB,aA];refine vn (aE (by omega) (by omega)) rfl ?_;dsimp only [aB,aA];refine aC (jP (n-m+1) (by omega) (by omega)) rfl ?_;dsimp only [aB,aA];refine vn (aG (by omega) (by omega)) rfl ?_;rw [e2];dsimp only [aB,aA];refine aC (iY _ (m-i) B (by omega) (by omega) (fun j hj=>C.fN j (by omega))) rfl ?_;dsimp only [aB,aA];refine aC (qN _ _ (B+B) B (qJ hN0 _) (hc.mul hr) hNp (by omega)) rfl ?_;dsimp only [aB,aA];refine aC (mL _ _ B (B+B+B) hx ((hc.mul hr).div hNp) (by omega)) rfl ?_;dsimp only [aB,aA];refine vn (aE (by omega) (by omega)) rfl ?_;dsimp only [aB,aA]
    exact aR rfl ⟨⟨k+1,by omega⟩,(by
     dsimp only;rw [gQ,if_pos (.inr (by omega))];exact aO.rfl),by show p.length-(k+1)<p.length-k;omega⟩
   refine vn (aE (by omega) (by omega)) rfl ?_;dsimp only [aB,aA]
   exact aR rfl ⟨⟨k+1,by omega⟩,(by
    dsimp only;rw [gQ,if_neg (by omega)];exact aO.rfl),by show p.length-(k+1)<p.length-k;omega⟩
  refine vn (aE (by omega) (by omega)) rfl ?_;dsimp only [aB,aA]
  exact aR rfl ⟨⟨i+1,by omega⟩,(by
   dsimp only;rw [fI,hgd,show p.length=k by omega];exact aO.rfl),by show q.length-(i+1)<q.length-i;omega⟩
 rw [show q.length=i by omega];exact aL rfl
theorem Xs {E sz b T:Nat} {α:Type} {f:α→List aH} {ds:List α} {x:Operand} {ty:Nat} {y:Operand} {k:IntKind} {n:Int} {m:Nat} (h:cM prog T=some (E,sz,b)) (h0:0≤n) (hm:n.toNat=m) (hn:m≤ds.length):aX prog (.slice T x (some y) none none) ty [.one (.slice sz (ds.map f)), .one (.int k n)] (.one (.slice sz ((ds.drop m).map f))):=by
 have:=Fh (P:=prog) (T:=T) (x:=x) (y:=y) (ty:=ty) (k:=k) (n:=n) (ts:=ds.map f) h h0 (by rw [List.length_map,hm];exact hn);rw [hm,←List.map_drop] at this;exact this
theorem mD (e:Int):aM prog 130 [.one (.bool true), .one (.int .i64 e)] (.ret []):=by
 refine aD (args:=[.v none, .v none]) (ins:=[.v (.one (.bool true)), .v (.one (.int .i64 e))]) (hints:=(fun _=>none)) fo (by kernel_rfl) func130 ⟨rfl,rfl,trivial⟩ ?_;rw [Nj];dsimp only [List.map,In.env,aB,aA];refine vn gX rfl ?_;dsimp only [aB,aA];refine rA false rfl (fun h=>by cases h) (fun _=>?_);exact aL rfl
theorem vcp {P:Program} {post:Out→Prop} {f:Nat} {args:List SW} {sh:List (Option Nat)} {op:Op} {ty:Nat} {k:Tr} {τ:Env} {bk:List (List aF→Prop)} {c:aH} (hd:aM P f (args.map (oK τ)) (.pan c)) (h:post (.pan c)):vc P post (.need (.call f args sh) op ty true k) τ bk:=.inr (.inl ⟨rfl,c,hd,h⟩)
abbrev LN (e:Int):aH:=.exact (.iface 261 (.agg #[.int .i64 e]))
theorem OI {x:Operand} {ty:Nat} (e:Int):aX prog (.makeInterface 261 x) ty [.agg [.int .i64 e]] (.one (LN e)):=by
 intro M w ρ o ho _ hr;have hx:(aF.agg [aH.int .i64 e]).rep M w (ρ x):=Aa (x:=x) hr;obtain ⟨us,hv,hus⟩:=hx
 match us,hus with
 | [u],hus=>
   have hu:u = .int .i64 e:=hus.1.1;subst hu;have hd:(prog.underlying 261).any (fun d=>match d with | .interface _=>false | _=>true)=true:=by kernel_rfl
   refine ⟨.iface 261 (.agg #[.int .i64 e]),?_,⟨rfl,rfl⟩⟩;cases hu:prog.underlying 261 with
   | none=>rw [hu] at hd;cases hd
   | some d=>
     rw [hu] at hd;cases d<;>first | (cases hd;done) | simp [execOp,ho,hv,Instr.makeInterface,run_underlying hu]
 | [],hus=>exact hus.elim
 | _::_::_,hus=>exact hus.2.elim
theorem qQ (e:Int):aM prog 130 [.one (.bool false), .one (.int .i64 e)] (.pan (LN e)):=by
 refine aD (args:=[.v none, .v none]) (ins:=[.v (.one (.bool false)), .v (.one (.int .i64 e))]) (hints:=(fun _=>none)) fo (by kernel_rfl) func130 ⟨rfl,rfl,trivial⟩ ?_;rw [Nj];dsimp only [List.map,In.env,aB,aA];refine vn gX rfl ?_;dsimp only [aB,aA];refine rA true rfl (fun _=>?_) (fun h=>by cases h);refine vn (OI e) rfl ?_;dsimp only [aB,aA];exact ⟨rfl,fun M w v h=>⟨_,_,h.1⟩⟩
abbrev kI (q:List (List Rat)) (m:Nat) (lead:Rat) (h:Nat):Prop:=qX ((q.getD m []).drop 1) (bD h) ((q.getD m []).length-1)+qX ((q.getD m []).drop 1) (bD h) ((q.getD m []).length-1)≤lead.abs
abbrev eS (q:List (List Rat)) (m:Nat) (lead:Rat) (aJ:Rat) (s:Nat):Prop:=fI q m aJ (((s:Int)-m+1:Int):Rat) q.length≤lead.abs
structure Jv (B:Nat) (q:List (List Rat)) (m:Nat) (lead:Rat) (L h0 s i0:Nat):Prop where
 flead:Fit B lead
 fq:∀ p∈q,p.length≤L∧∀ x∈p,Fit B x
 frho:∀ h,h≤h0→h≤62→∀ j,j≤2*L+1→Fit B (bD h^j)
 fs:∀ h,h≤h0→h≤62→∀ k,k≤L→Fit B (qX ((q.getD m []).drop 1) (bD h) k)
 fm:∀ i,i≤i0→s*2^i≤4096→aM3 B q m (bD h0) (((s*2^i:Nat):Int)-m+1) L
 fo:∀ i,i≤i0→s*2^i≤4096→Fit B (fI q m (bD h0) ((((s*2^i:Nat):Int)-m+1:Int):Rat) q.length)
theorem XQ (h:Nat):Fit (h+1) (mkRat 1 (2^h)):=by
 refine Fit.mkRat ?_ ?_ (Nat.ne_of_gt (Nat.pow_pos (by omega)))
 ·have:2^0≤2^h:=Nat.pow_le_pow_right (by omega) (Nat.zero_le _);rw [Nat.pow_succ];show (1:Nat)<_;omega
 ·exact Nat.pow_lt_pow_right (by omega) (by omega)
set_option maxHeartbeats 2000000 in
theorem FA (q:List (List Rat)) (m:Nat) (lead:Rat) (B L h0 i0:Nat) (C:Jv B q m lead L h0 (m+bA q+m) i0) (hql:q.length=m+1) (hm:m≤64) (hL:L≤1048576) (hB:B≤8589934592) (h64:64≤B) (hh:h0≤63) (hp1:1≤(q.getD m []).length) (hlow:∀ h,h<h0→¬ kI q m lead h) (hs:h0≤62→kI q m lead h0) (hst:h0≤62→∀ i,i<i0→(m+bA q+m)*2^i≤4096∧¬ eS q m lead (bD h0) ((m+bA q+m)*2^i)) (hsi:h0≤62→4096<(m+bA q+m)*2^i0∨eS q m lead (bD h0) ((m+bA q+m)*2^i0)) (hi13:i0≤13):aM prog 123 [(xA q m lead:aF)] (if h0=63∨4096<(m+bA q+m)*2^i0 then .pan (LN 5) else .ret [.agg (([eQ q, .int .i64 m]++qC lead)++qC (bD h0) ++ [.int .i64 (((m+bA q+m)*2^i0:Nat):Int)])]):=by
 refine aD (args:=[.v (some 5)]) (ins:=[.v (xA q m lead)]) (hints:=(fun _=>none)) fo (by kernel_rfl) func123 ⟨rfl,trivial⟩ ?_;rw [PA];dsimp only [List.map,In.env,aB,aA];obtain ⟨p,hpm⟩:∃ p,q[m]? = some p:=⟨_,List.getElem?_eq_getElem (by omega)⟩
 have hgd:q.getD m []=p:=by rw [List.getD_eq_getElem?_getD,hpm];rfl
 obtain ⟨hpl,hfp⟩:=C.fq p (List.mem_of_getElem? hpm);have hfs:=C.fs;have hfl:=dQ C.flead;rw [hgd] at hfs hp1;have hokr:∀ h,kI q m lead h↔qX (p.drop 1) (bD h) (p.length-1)+qX (p.drop 1) (bD h) (p.length-1)≤lead.abs:=fun h=>by rw [kI,hgd]
 have hlow:∀ h,h<h0→¬ qX (p.drop 1) (bD h) (p.length-1)+qX (p.drop 1) (bD h) (p.length-1)≤lead.abs:=fun h hh=>by rw [←hokr];exact hlow h hh
 have hs:=fun hx=>(hokr h0).1 (hs hx);refine aC (qK lead) rfl ?_;dsimp only [aB,aA]
 refine bC {h:Nat // h≤h0} (fun g=>([.one (.int .i64 (2-(g.1:Int))), .one (eQ q), .one (.int .i64 m)]:List aF)++(qC lead).map aF.one++(qC (if g.1=0 then 0 else bD (g.1-1))).map aF.one ++ [aF.one (.int .i64 0)]) (fun g=>h0-g.1) ⟨0,Nat.zero_le _⟩
  ⟨aF.Sub.same,aF.Sub.same,aF.Sub.same,aF.Sub.same,aF.Sub.same,aF.Sub.same,iZ.1,iZ.2.1,iZ.2.2.1,aF.Sub.same,trivial⟩ (fun _=>rfl) ?_
 rintro ⟨h,hh0⟩;dsimp only [aB,aA,List.map] at hh0 ⊢;refine vn eH rfl ?_;dsimp only [aB,aA];by_cases h63:h=63
 ·rw [show decide ((-60:Int)≤2-(h:Int))=false by rw [decide_eq_false_iff_not];omega];exact vcp (qQ 5) (by rw [if_pos (.inl (by omega))];rfl)
 have hh2:h≤62:=by omega
 rw [show decide ((-60:Int)≤2-(h:Int))=true by rw [decide_eq_true_iff];omega];refine aC (mD 5) rfl ?_;refine aC (jP 4 (by omega) (by omega)) rfl ?_;dsimp only [aB,aA];refine vn (aG (by omega) (by omega)) rfl ?_;rw [show (2:Int)-(2-(h:Int))=(h:Int) by omega];dsimp only [aB,aA];refine aC (aB5 h (by omega)) rfl ?_;dsimp only [aB,aA];refine aC (dF ((4:Int):Rat) (mkRat 1 (2^h)) 64 64 (Fit.int (by omega) (by omega)) ((XQ h).mono (by omega)) (by omega)) rfl ?_;rw [show ((4:Int):Rat)*mkRat 1 (2^h)=bD h from rfl];dsimp only [aB,aA];refine vn (aW Kb (by omega) (Int.toNat_natCast m) hpm) rfl ?_;dsimp only [aB,aA];refine vn (bF JE) rfl ?_;dsimp only [aB,aA];refine vn (Xs jF (by omega) (show (1:Int).toNat=1 from rfl) hp1) rfl ?_;dsimp only [aB,aA];refine vn (aP jF (show (rQ (p.drop 1)).length=p.length-1 by rw [List.length_map,List.length_drop])) rfl ?_;dsimp only [aB,aA];refine bC {k:Nat // k≤p.length-1} (fun g=>(.one (.int .i64 g.1):aF)::(qC (qX (p.drop 1) (bD h) g.1)).map .one) (fun g=>p.length-1-g.1) ⟨0,Nat.zero_le _⟩ ⟨aF.Sub.same,sY⟩ (fun _=>rfl) ?_;rintro ⟨k,hk⟩;dsimp only [aB,aA,List.map] at hk ⊢;refine vn bB rfl ?_;dsimp only [aB,aA];refine vs _ rfl (fun h14=>?_) (fun h14=>?_)
 ·have hkt:k<(p.drop 1).length:=by rw [List.length_drop];omega
  have hc:=dQ (hfp ((p.drop 1).getD k 0) (List.mem_of_mem_drop (List.mem_of_getElem? (cW (l:=p.drop 1) hkt))));refine vn (aW jF (by omega) (Int.toNat_natCast k) (cW hkt)) rfl ?_;dsimp only [aB,aA];refine vn (bO sS (by decide) (by simp) (.inl rfl)) rfl ?_;dsimp only [aB,aA];refine aC (qK _) rfl ?_;dsimp only [aB,aA];refine vn (aE (by omega) (by omega)) rfl ?_;dsimp only [aB,aA];refine aC (iY (bD h) (k+1) B (by omega) (by omega) (fun j hj=>C.frho h hh0 hh2 j (by omega))) rfl ?_;dsimp only [aB,aA];refine aC (dF _ _ B B hc (C.frho h hh0 hh2 (k+1) (by omega)) (by omega)) rfl ?_;dsimp only [aB,aA];refine aC (mL _ _ B (B+B) (hfs h hh0 hh2 k (by omega)) (hc.mul (C.frho h hh0 hh2 (k+1) (by omega))) (by omega)) rfl ?_;dsimp only [aB,aA];refine vn (aE (by omega) (by omega)) rfl ?_;dsimp only [aB,aA];exact aR rfl ⟨⟨k+1,by omega⟩,aO.rfl,by show p.length-1-(k+1)<p.length-1-k;omega⟩
 have hkl:p.length-1=k:=by omega
 rw [hkl] at hlow hs;refine aC (mL _ _ B B (hfs h hh0 hh2 k (by omega)) (hfs h hh0 hh2 k (by omega)) (by omega)) rfl ?_;dsimp only [aB,aA];refine aC (uZ _ _ (B+B+1) B ((hfs h hh0 hh2 k (by omega)).add (hfs h hh0 hh2 k (by omega))) hfl (by omega)) rfl ?_;dsimp only [aB,aA];refine vn fV rfl ?_;dsimp only [aB,aA];refine vs _ rfl (fun h27=>?_) (fun h27=>?_)
 ·have hle:=fZ.1 h27
  have hheq:h=h0:=by
   rcases Nat.lt_or_ge h h0 with hl | hl
   ·exact (hlow h hl hle).elim
   ·omega
  subst hheq;replace hs:=hs hh2;replace hst:=hst hh2;replace hsi:=hsi hh2;have hqs:∀ p∈q,p.length<1099511627776:=fun p hp=>by have:=(C.fq p hp).1;omega
  have hdm:=pN (N:=1048576) q (fun p hp=>Nat.le_trans (C.fq p hp).1 hL);refine aC (Hz q m lead hqs (by omega) (by omega)) rfl ?_;dsimp only [aB,aA];refine vn (aE (by omega) (by omega)) rfl ?_;rw [show ((m+bA q:Nat):Int)+(m:Int)=((m+bA q+m:Nat):Int) by omega];dsimp only [aB,aA];generalize hse:m+bA q+m=s at *;refine bC {i:Nat // i≤i0} (fun g=>([.one (.exact (.slice none 0 0)), .one (.int .i64 0), .one (.exact (.slice none 0 0)), .one (.bool false), .one (.exact (.slice none 0 0)), .one (.exact (.slice none 0 0)), .one (.bool false), .one (.exact (.slice none 0 0)), .one (.int .i64 0), .one (eQ q), .one (.int .i64 m)]:List aF)++(qC lead).map aF.one++(qC (bD h)).map aF.one ++ [aF.one (.int .i64 ((s*2^g.1:Nat):Int))]) (fun g=>i0-g.1) ⟨0,Nat.zero_le _⟩ (show aO _ _ by rw [Nat.pow_zero,Nat.mul_one];exact aO.rfl) (fun _=>rfl) ?_;rintro ⟨i,hi⟩;dsimp only [aB,aA,List.map] at hi ⊢;have hpw:s*2^i≤s*2^13:=Nat.mul_le_mul_left _ (Nat.pow_le_pow_right (by omega) (by omega));have hs13:s≤1048704:=by omega
  have hsm:m≤s*2^i:=by
   have h1:1≤2^i:=Nat.pow_pos (by omega);have h2:s*1≤s*2^i:=Nat.mul_le_mul_left _ h1;omega
  obtain ⟨z,hz⟩:∃ z,s*2^i=z:=⟨_,rfl⟩
  rw [hz] at hpw hsm ⊢;refine vn fV rfl ?_;dsimp only [aB,aA];by_cases hbig:4096<z
  ·rw [show decide ((z:Int)≤4096)=false by rw [decide_eq_false_iff_not];omega];refine vcp (qQ 5) ?_
   have hie:i=i0:=by
    rcases Nat.lt_or_ge i i0 with hl | hl
    ·have:=(hst i hl).1;omega
    ·omega
   subst hie;rw [if_pos (.inr (by omega))];rfl
  have hfm:=C.fm i hi (by omega);have hfo:=C.fo i hi (by omega);rw [hz] at hfm hfo;rw [show decide ((z:Int)≤4096)=true by rw [decide_eq_true_iff];omega];refine aC (mD 5) rfl ?_;refine aC (YI q m lead (bD h) (z:Int) B L hfm hql hm hL (by omega) (by omega) hB h64) rfl ?_;dsimp only [aB,aA];refine aC (uZ _ _ B B hfo hfl (by omega)) rfl ?_;dsimp only [aB,aA];refine vn fV rfl ?_;dsimp only [aB,aA];refine vs _ rfl (fun h36=>?_) (fun h36=>?_)
  ·have hle2:=fZ.1 h36
   have hieq:i=i0:=by
    rcases Nat.lt_or_ge i i0 with hl | hl
    ·exact ((hst i hl).2 (by rw [eS,hz];exact hle2)).elim
    ·omega
   subst hieq;rw [if_neg (by omega),hz];exact aL rfl
  have hilt:i<i0:=by
   rcases Nat.lt_or_ge i i0 with hl | hl
   ·exact hl
   ·exfalso
    obtain rfl:i=i0:=by omega
    rw [eS,hz] at hsi;exact h36 (fZ.2 (hsi.resolve_left hbig))
  refine vn (pV (by omega) (by omega)) rfl ?_;dsimp only [aB,aA]
  exact aR rfl ⟨⟨i+1,by omega⟩,aO.of_eq (show [aF.one (.exact (.slice none 0 0)), .one (.int .i64 0), .one (.exact (.slice none 0 0)), .one (.bool false), .one (.exact (.slice none 0 0)), .one (.exact (.slice none 0 0)), .one (.bool false), .one (.exact (.slice none 0 0)), .one (.int .i64 0), .one (eQ q), .one (.int .i64 m)]++(qC lead).map aF.one++(qC (bD h)).map aF.one ++ [aF.one (.int .i64 ((z:Int)*2))]=_ by
   dsimp only;rw [Nat.pow_succ,←Nat.mul_assoc,hz];rfl),by show i0-(i+1)<i0-i;omega⟩
 have hhlt:h<h0:=by
  rcases Nat.lt_or_ge h h0 with hl | hl
  ·exact hl
  ·exfalso
   obtain rfl:h=h0:=by omega
   exact h27 (fZ.2 (hs hh2))
 refine vn (aG (by omega) (by omega)) rfl ?_;dsimp only [aB,aA]
 exact aR rfl ⟨⟨h+1,by omega⟩,aO.of_eq (show [aF.one (.int .i64 (2-(h:Int)-1)), .one (eQ q), .one (.int .i64 m)]++(qC lead).map aF.one++(qC (bD h)).map aF.one ++ [aF.one (.int .i64 0)]=_ by
  dsimp only;rw [if_neg (by omega),Nat.add_sub_cancel,show (2:Int)-(h:Int)-1=2-((h+1:Nat):Int) by omega];rfl),by show h0-(h+1)<h0-h;omega⟩
theorem Qn (q:List (List Rat)) (m:Nat) (lead:Rat) (B L h0 i0:Nat) (C:Jv B q m lead L h0 (m+bA q+m) i0) (hql:q.length=m+1) (hm:m≤64) (hL:L≤1048576) (hB:B≤8589934592) (h64:64≤B) (hh:h0≤62) (hp1:1≤(q.getD m []).length)
  (hlow:∀ h,h<h0→¬ kI q m lead h) (hs:kI q m lead h0) (hst:∀ i,i<i0→(m+bA q+m)*2^i≤4096∧¬ eS q m lead (bD h0) ((m+bA q+m)*2^i)) (hsi:eS q m lead (bD h0) ((m+bA q+m)*2^i0)) (hlim:(m+bA q+m)*2^i0≤4096) (hi13:i0≤13) :
  aM prog 123 [xA q m lead] (.ret [.agg (([eQ q, .int .i64 m]++qC lead)++qC (bD h0) ++ [.int .i64 (((m+bA q+m)*2^i0:Nat):Int)])]):=by
 have h:=FA q m lead B L h0 i0 C hql hm hL hB h64 (by omega) hp1 hlow (fun _=>hs) (fun _=>hst) (fun _=>.inr hsi) hi13;rw [if_neg (by omega)] at h;exact h
end Go.Sy
