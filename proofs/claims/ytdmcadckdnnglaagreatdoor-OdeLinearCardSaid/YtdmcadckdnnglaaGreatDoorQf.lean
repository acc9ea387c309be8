/- Part. -/
import Derived.Test.YtdmcadckdnnglaaGreatDoorQe
import Derived.RecoverIn
import Derived.Test.YtdmcadckdnnglaaGreatDoorCards
import Derived.Test.YtdmcadckdnnglaaGreatDoorTie
import Derived.ProofKit
import Derived.OpenShut
import Derived.Deep.DeepHandedRow
import Derived.Deep.Strs
set_option linter.all false
namespace Ord
def jZ (r:List Rat) (aH:Rat):Nat→Rat
 | 0=>0
 | k+1=>jZ r aH k+(r.getD k 0).abs*aH^(k+1)
def aY (h:Nat):Rat:=((4:Int):Rat)*mkRat 1 (2^h)
def gY (p:List Rat) (m i:Nat) (aH N x:Rat):Nat→Rat
 | 0=>x
 | k+1=>if i<m∨0<k then gY p m i aH N x k+(p.getD k 0).abs*aH^(m+k-i)/N^(m-i) else gY p m i aH N x k
def gB (q:List (List Rat)) (m:Nat) (aH N:Rat):Nat→Rat
 | 0=>0
 | i+1=>gY (q.getD i []) m i aH N (gB q m aH N i) (q.getD i []).length
structure aE8 (B:Nat) (q:List (List Rat)) (m:Nat) (aH:Rat) (N:Int) (L:Nat):Prop where
 fq:∀ p∈q,p.length≤L∧∀ x∈p,Fit B x
 frho:∀ j,j≤2*(m+L)+1→Fit B (aH^j)
 fN:∀ j,j≤2*m+1→Fit B ((N:Rat)^j)
 fx:∀ i k,i<q.length→k≤(q.getD i []).length→Fit B (gY (q.getD i []) m i aH N (gB q m aH N i) k)
end Ord
namespace Go.Sy
open Go Go.Proofs Tryz Ord
def WS:Tr:=aM 68 [(W 26 0)] [(some 3)] [51] [2] 39 false (bM .sub 3 53 54 0 1 4 0 3 (aM 203 [(G3 27),(W 28 0)] [(some 3)] [52,55] [39,3] 39 false (aM 207 [(G3 24),(G3 29)] [(some 3)] [47,56] [39,39] 39 true (aM 64 [(.agg [(U 13 0),(U 14 0),(U 15 0)]),(G3 30)] [(some 3)] [37,57] [39,39] 39 true (bA .add 3 25 1 12 0 3 (.back 1 [lV 32 0,lV 31 0,lV 31 1,lV 31 2]))))))
def YX:Tr:=aM 146 [(G3 18)] [(some 3)] [38] [39] 39 false (bM .add 3 41 42 0 1 12 0 3 (bM .sub 3 43 44 21 0 4 0 3 (aM 203 [(G3 1),(W 22 0)] [(some 3)] [40,45] [39,3] 39 false (aM 36 [(G3 20),(G3 23)] [(some 3)] [39,46] [39,39] 39 false (bM .sub 3 48 49 2 0 0 1 3 (bA .add 3 50 1 25 0 3 WS))))))
def My:Tr:=.back 1 [lV 33 0,lV 32 0,lV 32 1,lV 32 2]
def Xl:Tr:=bA .add 3 50 1 26 0 3 (aM 68 [(W 27 0)] [(some 3)] [51] [2] 39 false (bM .sub 3 53 54 0 1 4 0 3 (aM 203 [(G3 28),(W 29 0)] [(some 3)] [52,55] [39,3] 39 false (aM 207 [(G3 25),(G3 30)] [(some 3)] [47,56] [39,39] 39 true (aM 64 [(.agg [(U 13 0),(U 14 0),(U 15 0)]),(G3 31)] [(some 3)] [37,57] [39,39] 39 true (bA .add 3 25 1 12 0 3 My))))))
def Xm:Tr:=.split (.u 20 0) (aM 146 [(G3 18)] [(some 3)] [38] [39] 39 false (bM .add 3 41 42 0 1 12 0 3 (bM .sub 3 43 44 22 0 4 0 3 (aM 203 [(G3 1),(W 23 0)] [(some 3)] [40,45] [39,3] 39 false (aM 36 [(G3 21),(G3 24)] [(some 3)] [39,46] [39,39] 39 false (bM .sub 3 48 49 2 0 0 1 3 Xl)))))) (bA .add 3 25 1 12 0 3 (.back 1 [lV 21 0,lV 13 0,lV 14 0,lV 15 0]))
def aA6:Tr:=bM .lss 3 25 24 12 0 11 0 0 (.split (.u 16 0) (fP 10 0 12 0 72 23 25 (eS 17 0 (some 3) 39 28 (bM .lss 3 30 31 4 0 0 1 4 (.split (.u 19 0) YX (bA .gtr 3 34 0 12 0 4 Xm))))) (bA .add 3 18 1 4 0 3 (.back 0 [lV 17 0,lV 13 0,lV 14 0,lV 15 0])))
def al5:Tr:=.loop 0 [lK 0,lN,(.w (.one (.c (.k (.bool false))))),lN] (bM .lss 3 18 17 4 0 3 0 0 (.split (.u 8 0) (fP 0 0 4 0 31 16 18 (eS 9 0 none 72 21 (cV 10 0 23 72 (.loop 1 [lK 0,lV 5 0,lV 6 0,lV 7 0] aA6)))) (.ret [(.agg [(U 5 0),(U 6 0),(U 7 0)])])))
def ah3:Tr:=cV 0 0 16 31 al5
theorem Vl:aL prog f205 (fun _=>none) [.v (some 5), .v (some 3), .v none]=ah3:=by kernel_rfl
def Yi:Tr:=eS 26 0 (some 3) 39 36 (aM 146 [(G3 27)] [(some 3)] [39] [39] 39 false (bA .add 3 43 1 21 0 3 (aM 203 [(G3 16),(W 29 0)] [(some 3)] [42,44] [39,3] 39 false (aM 36 [(G3 28),(G3 30)] [(some 3)] [40,45] [39,39] 39 true (aM 64 [(.agg [(U 22 0),(U 23 0),(U 24 0)]),(G3 31)] [(some 3)] [38,46] [39,39] 39 true (bA .add 3 33 1 21 0 3 My))))))
def Xs:Tr:=.need (.call 130 [(W 49 0),(WK 5)] []) (.call ⟨.value (.func 130),#[(tT 67),(.const (I3 5))],#[4,55]⟩) 0 true (aM 205 [(G5 0),(.agg [(U 45 0),(U 46 0),(U 47 0)]),(W 48 0)] [(some 3)] [69,71,73] [171,39,3] 39 false (aM 38 [(G3 50),(G3 1)] [none] [74,75] [39,39] 3 true (bA .leq 3 76 0 51 0 4 (.split (.u 52 0) (.ret [(.agg [(U 40 0),(U 41 0),(U 42 0),(U 43 0),(U 44 0),(U 45 0),(U 46 0),(U 47 0),(U 48 0)])]) (bA .mul 3 62 2 48 0 3 (.back 0 [lV 31 0,lV 32 0,lV 33 0,lV 34 0,lV 35 0,lV 36 0,lV 37 0,lV 38 0,lV 39 0,lV 40 0,lV 41 0,lV 42 0,lV 43 0,lV 44 0,lV 45 0,lV 46 0,lV 47 0,lV 53 0]))))))
def Xw:Tr:=aM 38 [(G3 26),(G3 1)] [none] [51,52] [39,39] 3 true (bA .leq 3 53 0 27 0 4 (.split (.u 28 0) (aM 204 [(G5 0)] [none] [55] [171] 3 false (bM .add 3 56 58 29 0 0 1 3 (.loop 0 [lN,lK 0,lN,(.w (.one (.c (.k (.bool false))))),lN,lN,(.w (.one (.c (.k (.bool false))))),lN,lK 0,lV 3 0,lV 4 0,lV 5 0,lV 6 0,lV 7 0,lV 16 0,lV 16 1,lV 16 2,lV 30 0] (bA .leq 3 66 4096 48 0 4 Xs)))) (bA .sub 3 14 1 2 0 3 (.back 0 [lV 29 0,lV 3 0,lV 4 0,lV 5 0,lV 6 0,lV 7 0,lV 16 0,lV 16 1,lV 16 2,lV 11 0]))))
def aC1:Tr:=eS 17 0 none 72 29 (.need (.prim [(W 18 0),(WK 1)] none) (.slice 72 (tT 30) (some (.const (I3 1))) none none) 72 false (cV 19 0 31 72 (.loop 1 [lK 0,lN,(.w (.one (.c (.k (.bool false))))),lN] (bM .lss 3 33 32 21 0 20 0 0 (.split (.u 25 0) (fP 19 0 21 0 72 31 33 Yi) (aM 64 [(.agg [(U 22 0),(U 23 0),(U 24 0)]),(.agg [(U 22 0),(U 23 0),(U 24 0)])] [(some 3)] [49,50] [39,39] 39 false Xw))))))
def ai0:Tr:=bA .geq 3 16 (-60) 2 0 4 (.need (.call 130 [(W 12 0),(WK 5)] []) (.call ⟨.value (.func 130),#[(tT 17),(.const (I3 5))],#[4,55]⟩) 0 true (.need (.call 68 [(WK 4)] [(some 3)]) (.call ⟨.value (.func 68),#[(.const (I3 4))],#[2]⟩) 39 false (.need (.prim [(WK 2),(W 2 0)] none) (.binOp .sub 3 (.const (I3 2)) (tT 20) 3) 3 false (aM 202 [(W 14 0)] [(some 3)] [21] [3] 39 true (aM 36 [(G3 13),(G3 15)] [(some 3)] [19,22] [39,39] 39 true (fP 0 0 0 1 31 26 28 aC1))))))
def af1:Tr:=aM 146 [(.agg [(U 0 2),(U 0 3),(U 0 4)])] [(some 3)] [12] [39] 39 true (.loop 0 [lK 2,lV 0 0,lV 0 1,lV 0 2,lV 0 3,lV 0 4,lN,(.w (.one (.c (.k (.bool false))))),lN,lK 0] ai0)
theorem UP:aL prog f123 (fun _=>none) [.v (some 5)]=af1:=by kernel_rfl
theorem jV {B:Nat} {q:Rat} (h:Fit B q):Fit B q.abs:=by
 obtain ⟨h1,h2⟩:=lM q;exact ⟨by rw [h1];simpa using h.1,by rw [h2];exact h.2⟩
theorem uW {x:Rat} (h:x≠0):∀ j:Nat,x^j≠0
 | 0=>by rw [Rat.pow_zero];decide
 | j+1=>by
   rw [Rat.pow_succ];intro e;rcases Rat.mul_eq_zero.1 e with e | e
   ·exact uW h j e
   ·exact h e
theorem mQ {a b:Rat}:lS a b≤0↔a≤b:=by
 unfold lS;by_cases h1:a<b
 ·rw [if_pos h1];exact ⟨fun _=>by grind,fun _=>by omega⟩
 ·rw [if_neg h1];by_cases h2:b<a
  ·rw [if_pos h2];exact ⟨fun h=>by omega,fun h=>by grind⟩
  ·rw [if_neg h2];exact ⟨fun _=>by grind,fun _=>by omega⟩
set_option maxHeartbeats 1000000 in
theorem VD (q:List (List Rat)) (m:Nat) (lead aH:Rat) (n:Int) (B L:Nat) (C:aE8 B q m aH (n-m+1) L) (hql:q.length=m+1) (hm:m≤64) (hL:L≤1048576) (hB:B≤8589934592) (h64:64≤B) (hn1:(m:Int)≤n:=by omega) (hn2:n<1099511627776:=by omega):aN prog 205 [(GR q m lead:aF),(qT aH:aF),(.one (.int .i64 n):aF)] (.ret [qT (gB q m aH ((n-m+1:Int):Rat) q.length)]):=by
 refine cM func205 Vl ?_;have hN0:((n-m+1:Int):Rat)≠0:=zne (by omega);apply vn (aQ Kc (aP _)) rfl;dsimp only [aA,aB];refine bF {i:Nat // i≤q.length} (fun g=>(.one (.int .i64 g.1):aF)::(qC (gB q m aH ((n-m+1:Int):Rat) g.1)).map .one) (fun g=>q.length-g.1) ⟨0,bR _⟩ ⟨aF.Sub.same,qP⟩ (fun _=>rfl) ?_;rintro ⟨i,hi⟩;dsimp only [aA,aB,List.map] at hi ⊢;apply vn bE rfl;dsimp only [aA,aB];refine vs _ rfl ?_ ?_<;>intro h3
 ·obtain ⟨p,hpi⟩:∃ p,q[i]? = some p:=⟨_,bI (by omega)⟩
  have hgd:q.getD i []=p:=by rw [eX,hpi];rfl
  obtain ⟨hpl,hfp⟩:=C.fq p (cS hpi);have hfx:=fun k=>C.fx i k (by omega);rw [hgd] at hfx;apply vn (aW Kc hpi) rfl;dsimp only [aA,aB];apply vn (bG Jt) rfl;dsimp only [aA,aB];apply vn (aQ jT (aP _)) rfl;dsimp only [aA,aB];refine bF {k:Nat // k≤p.length} (fun g=>(.one (.int .i64 g.1):aF)::(qC (gY p m i aH ((n-m+1:Int):Rat) (gB q m aH ((n-m+1:Int):Rat) i) g.1)).map .one) (fun g=>p.length-g.1) ⟨0,bR _⟩ aO.rfl (fun _=>rfl) ?_;rintro ⟨k,hk⟩;dsimp only [aA,aB,List.map] at hk ⊢;apply vn bE rfl;dsimp only [aA,aB];refine vs _ rfl ?_ ?_<;>intro h9
  ·have hkt:k<p.length:=by omega
   have hc:=jV (hfp (p.getD k 0) (cS (cG (l:=p) hkt)));have hr:=C.frho (m+k-i) (by omega);have hNp:=C.fN (m-i) (by omega);have e1:(m:Int)+(k:Int)-(i:Int)=((m+k-i:Nat):Int):=by omega
   have e2:(m:Int)-(i:Int)=((m-i:Nat):Int):=by omega
   have hx:=hfx k (by omega);apply vn (aW jT (cG hkt) (Int.toNat_natCast k)) rfl;dsimp only [aA,aB];apply vn (bO pO (by decide) (by simp) (.inl rfl)) rfl;dsimp only [aA,aB];apply vn bE rfl;dsimp only [aA,aB];refine vs _ rfl ?_ ?_<;>intro h13
   ·apply aC (zH _) rfl;dsimp only [aA,aB];apply vn (aD) rfl;dsimp only [aA,aB];apply vn (aI) rfl;rw [e1];dsimp only [aA,aB];apply aC (iV aH (m+k-i) B (fun j hj=>C.frho j (by omega))) rfl;dsimp only [aA,aB];apply aC (cY _ _ B B hc hr) rfl;dsimp only [aA,aB];apply vn (aI) rfl;dsimp only [aA,aB];apply vn (aD) rfl;dsimp only [aA,aB];apply aC (mC (n-m+1)) rfl;dsimp only [aA,aB];apply vn (aI) rfl;rw [e2];dsimp only [aA,aB];apply aC (iV _ (m-i) B (fun j hj=>C.fN j (by omega))) rfl;dsimp only [aA,aB];apply aC (rM _ _ (B+B) B (uW hN0 _) (hc.mul hr) hNp) rfl;dsimp only [aA,aB];apply aC (kA _ _ B (B+B+B) hx ((hc.mul hr).div hNp)) rfl;dsimp only [aA,aB];apply vn (aD) rfl
    exact aR rfl ⟨⟨k+1,by omega⟩,(by
     dsimp only;rw [gY,if_pos (.inl (by omega))];exact aO.rfl),by show p.length-(k+1)<p.length-k;omega⟩
   apply vn eE rfl;dsimp only [aA,aB];refine vs _ rfl ?_ ?_<;>intro h29
   ·apply aC (zH _) rfl;dsimp only [aA,aB];apply vn (aD) rfl;dsimp only [aA,aB];apply vn (aI) rfl;rw [e1];dsimp only [aA,aB];apply aC (iV aH (m+k-i) B (fun j hj=>C.frho j (by omega))) rfl;dsimp only [aA,aB];apply aC (cY _ _ B B hc hr) rfl;dsimp only [aA,aB];apply vn (aI) rfl;dsimp only [aA,aB];apply vn (aD) rfl;dsimp only [aA,aB];apply aC (mC (n-m+1)) rfl;dsimp only [aA,aB];apply vn (aI) rfl;rw [e2];dsimp only [aA,aB];apply aC (iV _ (m-i) B (fun j hj=>C.fN j (by omega))) rfl;dsimp only [aA,aB];apply aC (rM _ _ (B+B) B (uW hN0 _) (hc.mul hr) hNp) rfl;dsimp only [aA,aB];apply aC (kA _ _ B (B+B+B) hx ((hc.mul hr).div hNp)) rfl;dsimp only [aA,aB];apply vn (aD) rfl
    exact aR rfl ⟨⟨k+1,by omega⟩,(by
     dsimp only;rw [gY,if_pos (.inr (by omega))];exact aO.rfl),by show p.length-(k+1)<p.length-k;omega⟩
   apply vn (aD) rfl
   exact aR rfl ⟨⟨k+1,by omega⟩,(by
    dsimp only;rw [gY,if_neg (by omega)];exact aO.rfl),by show p.length-(k+1)<p.length-k;omega⟩
  apply vn (aD) rfl
  exact aR rfl ⟨⟨i+1,by omega⟩,(by
   dsimp only;rw [gB,hgd,show p.length=k by omega];exact aO.rfl),by show q.length-(i+1)<q.length-i;omega⟩
 rw [show q.length=i by omega];exact aK rfl
theorem UY {E sz b T:Nat} {α:Type} {f:α→List aE} {ds:List α} {x:Operand} {ty:Nat} {y:Operand} {k:IntKind} {n:Int} {m:Nat} (h:dI prog T=some (E,sz,b)) (hm:n.toNat=m) (hn:m≤ds.length) (h0:0≤n:=by omega):aV prog (.slice T x (some y) none none) ty [.one (.slice sz (ds.map f)), .one (.int k n)] (.one (.slice sz ((ds.drop m).map f))):=by
 have:=Gb (P:=prog) (T:=T) (x:=x) (y:=y) (ty:=ty) (k:=k) (n:=n) (ts:=ds.map f) h h0 (by rw [aP,hm];exact hn);rw [hm,←List.map_drop] at this;exact this
theorem rV (e:Int):aN prog 130 [.one (.bool true), .one (.int .i64 e)] (.ret []):=by
 refine cM func130 MQ ?_;apply vn nD rfl;dsimp only [aA,aB];refine sG false rfl (fun h=>by cases h) (fun _=>?_);exact aK rfl
theorem vcp {P:Program} {post:Out→Prop} {f:Nat} {args:List SW} {sh:List (Option Nat)} {op:Op} {ty:Nat} {k:Tr} {τ:Env} {bk:List (List aF→Prop)} {c:aE} (hd:aN P f (args.map (pE τ)) (.pan c)) (h:post (.pan c)):vc P post (.need (.call f args sh) op ty true k) τ bk:=.inr (.inl ⟨rfl,c,hd,h⟩)
abbrev Qf (e:Int):aE:=.exact (.iface 261 (.agg #[.int .i64 e]))
theorem PQ {x:Operand} {ty:Nat} (e:Int):aV prog (.makeInterface 261 x) ty [.agg [.int .i64 e]] (.one (Qf e)):=by
 intro M w ρ o ho _ hr;have hx:(aF.agg [aE.int .i64 e]).rep M w (ρ x):=xU (x:=x) hr;obtain ⟨us,hv,hus⟩:=hx
 match us,hus with
 | [u],hus=>
   have hu:u = .int .i64 e:=hus.1.1;subst hu;have hd:(prog.underlying 261).any (fun d=>match d with | .interface _=>false | _=>true)=true:=by kernel_rfl
   refine ⟨.iface 261 (.agg #[.int .i64 e]),?_,⟨rfl,rfl⟩⟩;cases hu:prog.underlying 261 with
   | none=>rw [hu] at hd;cases hd
   | some d=>
     rw [hu] at hd;cases d<;>first | (cases hd;done) | simp [execOp,ho,hv,Instr.makeInterface,run_underlying hu]
 | [],hus=>exact hus.elim
 | _::_::_,hus=>exact hus.2.elim
theorem rX (e:Int):aN prog 130 [.one (.bool false), .one (.int .i64 e)] (.pan (Qf e)):=by
 refine cM func130 MQ ?_;apply vn nD rfl;dsimp only [aA,aB];refine sG true rfl (fun _=>?_) (fun h=>by cases h);apply vn (PQ e) rfl;dsimp only [aA,aB];exact ⟨rfl,fun M w v h=>⟨_,_,h.1⟩⟩
abbrev kW (q:List (List Rat)) (m:Nat) (lead:Rat) (h:Nat):Prop:=jZ ((q.getD m []).drop 1) (aY h) ((q.getD m []).length-1)+jZ ((q.getD m []).drop 1) (aY h) ((q.getD m []).length-1)≤lead.abs
abbrev fB (q:List (List Rat)) (m:Nat) (lead:Rat) (aH:Rat) (s:Nat):Prop:=gB q m aH (((s:Int)-m+1:Int):Rat) q.length≤lead.abs
structure JB (B:Nat) (q:List (List Rat)) (m:Nat) (lead:Rat) (L h0 s i0:Nat):Prop where
 flead:Fit B lead
 fq:∀ p∈q,p.length≤L∧∀ x∈p,Fit B x
 frho:∀ h,h≤h0→h≤62→∀ j,j≤2*L+1→Fit B (aY h^j)
 fs:∀ h,h≤h0→h≤62→∀ k,k≤L→Fit B (jZ ((q.getD m []).drop 1) (aY h) k)
 fm:∀ i,i≤i0→s*2^i≤4096→aE8 B q m (aY h0) (((s*2^i:Nat):Int)-m+1) L
 fo:∀ i,i≤i0→s*2^i≤4096→Fit B (gB q m (aY h0) ((((s*2^i:Nat):Int)-m+1:Int):Rat) q.length)
theorem Vk (h:Nat):Fit (h+1) (mkRat 1 (2^h)):=by
 refine Fit.mkRat ?_ ?_ (Nat.ne_of_gt (Nat.pow_pos (by omega)))
 ·have:2^0≤2^h:=Nat.pow_le_pow_right (by omega) (bR _);rw [Nat.pow_succ];show (1:Nat)<_;omega
 ·exact Nat.pow_lt_pow_right (by omega) (by omega)
set_option maxHeartbeats 2000000 in
theorem FB (q:List (List Rat)) (m:Nat) (lead:Rat) (B L h0 i0:Nat) (C:JB B q m lead L h0 (m+bD q+m) i0) (hql:q.length=m+1) (hm:m≤64) (hL:L≤1048576) (hB:B≤8589934592) (h64:64≤B) (hh:h0≤63) (hp1:1≤(q.getD m []).length) (hlow:∀ h,h<h0→¬ kW q m lead h) (hs:h0≤62→kW q m lead h0) (hst:h0≤62→∀ i,i<i0→(m+bD q+m)*2^i≤4096∧¬ fB q m lead (aY h0) ((m+bD q+m)*2^i)) (hsi:h0≤62→4096<(m+bD q+m)*2^i0∨fB q m lead (aY h0) ((m+bD q+m)*2^i0)) (hi13:i0≤13):aN prog 123 [(GR q m lead:aF)] (if h0=63∨4096<(m+bD q+m)*2^i0 then .pan (Qf 5) else .ret [.agg (([eQ q, .int .i64 m]++qC lead)++qC (aY h0) ++ [.int .i64 (((m+bD q+m)*2^i0:Nat):Int)])]):=by
 refine cM func123 UP ?_;obtain ⟨p,hpm⟩:∃ p,q[m]? = some p:=⟨_,bI (by omega)⟩
 have hgd:q.getD m []=p:=by rw [eX,hpm];rfl
 obtain ⟨hpl,hfp⟩:=C.fq p (cS hpm);have hfs:=C.fs;have hfl:=jV C.flead;rw [hgd] at hfs hp1;have hokr:∀ h,kW q m lead h↔jZ (p.drop 1) (aY h) (p.length-1)+jZ (p.drop 1) (aY h) (p.length-1)≤lead.abs:=fun h=>by rw [kW,hgd]
 have hlow:∀ h,h<h0→¬ jZ (p.drop 1) (aY h) (p.length-1)+jZ (p.drop 1) (aY h) (p.length-1)≤lead.abs:=fun h hh=>by rw [←hokr];exact hlow h hh
 have hs:=fun hx=>(hokr h0).1 (hs hx);apply aC (zH lead) rfl;dsimp only [aA,aB]
 refine bF {h:Nat // h≤h0} (fun g=>([.one (.int .i64 (2-(g.1:Int))), .one (eQ q), .one (.int .i64 m)]:List aF)++(qC lead).map aF.one++(qC (if g.1=0 then 0 else aY (g.1-1))).map aF.one ++ [aF.one (.int .i64 0)]) (fun g=>h0-g.1) ⟨0,bR _⟩
  ⟨aF.Sub.same,aF.Sub.same,aF.Sub.same,aF.Sub.same,aF.Sub.same,aF.Sub.same,fU.1,fU.2.1,fU.2.2.1,aF.Sub.same,trivial⟩ (fun _=>rfl) ?_
 rintro ⟨h,hh0⟩;dsimp only [aA,aB,List.map] at hh0 ⊢;apply vn fJ rfl;dsimp only [aA,aB];by_cases h63:h=63
 ·rw [show decide ((-60:Int)≤2-(h:Int))=false by rw [decide_eq_false_iff_not];omega];exact vcp (rX 5) (by rw [if_pos (.inl (by omega))];rfl)
 have hh2:h≤62:=by omega
 rw [show decide ((-60:Int)≤2-(h:Int))=true by rw [decide_eq_true_iff];omega];apply aC (rV 5) rfl;apply aC (mC 4) rfl;dsimp only [aA,aB];apply vn (aI) rfl;rw [show (2:Int)-(2-(h:Int))=(h:Int) by omega];dsimp only [aA,aB];apply aC (aA2 h) rfl;dsimp only [aA,aB];apply aC (cY ((4:Int):Rat) (mkRat 1 (2^h)) 64 64 (Fit.int (by omega) (by omega)) ((Vk h).mono (by omega))) rfl;rw [show ((4:Int):Rat)*mkRat 1 (2^h)=aY h from rfl];dsimp only [aA,aB];apply vn (aW Kc hpm (Int.toNat_natCast m)) rfl;dsimp only [aA,aB];apply vn (bG Jt) rfl;dsimp only [aA,aB];apply vn (UY jT (show (1:Int).toNat=1 from rfl) hp1) rfl;dsimp only [aA,aB];apply vn (aQ jT (show (rQ (p.drop 1)).length=p.length-1 by rw [aP,List.length_drop])) rfl;dsimp only [aA,aB];refine bF {k:Nat // k≤p.length-1} (fun g=>(.one (.int .i64 g.1):aF)::(qC (jZ (p.drop 1) (aY h) g.1)).map .one) (fun g=>p.length-1-g.1) ⟨0,bR _⟩ ⟨aF.Sub.same,qP⟩ (fun _=>rfl) ?_;rintro ⟨k,hk⟩;dsimp only [aA,aB,List.map] at hk ⊢;apply vn bE rfl;dsimp only [aA,aB];refine vs _ rfl ?_ ?_<;>intro h14
 ·have hkt:k<(p.drop 1).length:=by rw [List.length_drop];omega
  have hc:=jV (hfp ((p.drop 1).getD k 0) (List.mem_of_mem_drop (cS (cG (l:=p.drop 1) hkt))));apply vn (aW jT (cG hkt) (Int.toNat_natCast k)) rfl;dsimp only [aA,aB];apply vn (bO pO (by decide) (by simp) (.inl rfl)) rfl;dsimp only [aA,aB];apply aC (zH _) rfl;dsimp only [aA,aB];apply vn (aD) rfl;dsimp only [aA,aB];apply aC (iV (aY h) (k+1) B (fun j hj=>C.frho h hh0 hh2 j (by omega))) rfl;dsimp only [aA,aB];apply aC (cY _ _ B B hc (C.frho h hh0 hh2 (k+1) (by omega))) rfl;dsimp only [aA,aB];apply aC (kA _ _ B (B+B) (hfs h hh0 hh2 k (by omega)) (hc.mul (C.frho h hh0 hh2 (k+1) (by omega)))) rfl;dsimp only [aA,aB];apply vn (aD) rfl;dsimp only [aA,aB];exact aR rfl ⟨⟨k+1,by omega⟩,aO.rfl,by show p.length-1-(k+1)<p.length-1-k;omega⟩
 have hkl:p.length-1=k:=by omega
 rw [hkl] at hlow hs;apply aC (kA _ _ B B (hfs h hh0 hh2 k (by omega)) (hfs h hh0 hh2 k (by omega))) rfl;dsimp only [aA,aB];apply aC (wK _ _ (B+B+1) B ((hfs h hh0 hh2 k (by omega)).add (hfs h hh0 hh2 k (by omega))) hfl) rfl;dsimp only [aA,aB];apply vn iZ rfl;dsimp only [aA,aB];refine vs _ rfl ?_ ?_<;>intro h27
 ·have hle:=mQ.1 h27
  have hheq:h=h0:=by
   rcases Nat.lt_or_ge h h0 with hl | hl
   ·exact (hlow h hl hle).elim
   ·omega
  subst hheq;replace hs:=hs hh2;replace hst:=hst hh2;replace hsi:=hsi hh2;have hqs:∀ p∈q,p.length<1099511627776:=fun p hp=>by have:=(C.fq p hp).1;omega
  have hdm:=qX (N:=1048576) q (fun p hp=>Nat.le_trans (C.fq p hp).1 hL);apply aC (IE q m lead hqs) rfl;dsimp only [aA,aB];apply vn (aD) rfl;rw [show ((m+bD q:Nat):Int)+(m:Int)=((m+bD q+m:Nat):Int) by omega];dsimp only [aA,aB];generalize hse:m+bD q+m=s at *;refine bF {i:Nat // i≤i0} (fun g=>([.one (.exact (.slice none 0 0)), .one (.int .i64 0), .one (.exact (.slice none 0 0)), .one (.bool false), .one (.exact (.slice none 0 0)), .one (.exact (.slice none 0 0)), .one (.bool false), .one (.exact (.slice none 0 0)), .one (.int .i64 0), .one (eQ q), .one (.int .i64 m)]:List aF)++(qC lead).map aF.one++(qC (aY h)).map aF.one ++ [aF.one (.int .i64 ((s*2^g.1:Nat):Int))]) (fun g=>i0-g.1) ⟨0,bR _⟩ (show aO _ _ by rw [Nat.pow_zero,Nat.mul_one];exact aO.rfl) (fun _=>rfl) ?_;rintro ⟨i,hi⟩;dsimp only [aA,aB,List.map] at hi ⊢;have hpw:s*2^i≤s*2^13:=Nat.mul_le_mul_left _ (Nat.pow_le_pow_right (by omega) (by omega));have hs13:s≤1048704:=by omega
  have hsm:m≤s*2^i:=by
   have h1:1≤2^i:=Nat.pow_pos (by omega);have h2:s*1≤s*2^i:=Nat.mul_le_mul_left _ h1;omega
  obtain ⟨z,hz⟩:∃ z,s*2^i=z:=⟨_,rfl⟩
  rw [hz] at hpw hsm ⊢;apply vn iZ rfl;dsimp only [aA,aB];by_cases hbig:4096<z
  ·rw [show decide ((z:Int)≤4096)=false by rw [decide_eq_false_iff_not];omega];refine vcp (rX 5) ?_
   have hie:i=i0:=by
    rcases Nat.lt_or_ge i i0 with hl | hl
    ·have:=(hst i hl).1;omega
    ·omega
   subst hie;rw [if_pos (.inr (by omega))];rfl
  have hfm:=C.fm i hi (by omega);have hfo:=C.fo i hi (by omega);rw [hz] at hfm hfo;rw [show decide ((z:Int)≤4096)=true by rw [decide_eq_true_iff];omega];apply aC (rV 5) rfl;apply aC (VD q m lead (aY h) (z:Int) B L hfm hql hm hL hB h64) rfl;dsimp only [aA,aB];apply aC (wK _ _ B B hfo hfl) rfl;dsimp only [aA,aB];apply vn iZ rfl;dsimp only [aA,aB];refine vs _ rfl ?_ ?_<;>intro h36
  ·have hle2:=mQ.1 h36
   have hieq:i=i0:=by
    rcases Nat.lt_or_ge i i0 with hl | hl
    ·exact ((hst i hl).2 (by rw [fB,hz];exact hle2)).elim
    ·omega
   subst hieq;rw [if_neg (by omega),hz];exact aK rfl
  have hilt:i<i0:=by
   rcases Nat.lt_or_ge i i0 with hl | hl
   ·exact hl
   ·exfalso
    obtain rfl:i=i0:=by omega
    rw [fB,hz] at hsi;exact h36 (mQ.2 (hsi.resolve_left hbig))
  apply vn (lZ) rfl;dsimp only [aA,aB]
  exact aR rfl ⟨⟨i+1,by omega⟩,aO.of_eq (show [aF.one (.exact (.slice none 0 0)), .one (.int .i64 0), .one (.exact (.slice none 0 0)), .one (.bool false), .one (.exact (.slice none 0 0)), .one (.exact (.slice none 0 0)), .one (.bool false), .one (.exact (.slice none 0 0)), .one (.int .i64 0), .one (eQ q), .one (.int .i64 m)]++(qC lead).map aF.one++(qC (aY h)).map aF.one ++ [aF.one (.int .i64 ((z:Int)*2))]=_ by
   dsimp only;rw [Nat.pow_succ,←Nat.mul_assoc,hz];rfl),by show i0-(i+1)<i0-i;omega⟩
 have hhlt:h<h0:=by
  rcases Nat.lt_or_ge h h0 with hl | hl
  ·exact hl
  ·exfalso
   obtain rfl:h=h0:=by omega
   exact h27 (mQ.2 (hs hh2))
 apply vn (aI) rfl;dsimp only [aA,aB]
 exact aR rfl ⟨⟨h+1,by omega⟩,aO.of_eq (show [aF.one (.int .i64 (2-(h:Int)-1)), .one (eQ q), .one (.int .i64 m)]++(qC lead).map aF.one++(qC (aY h)).map aF.one ++ [aF.one (.int .i64 0)]=_ by
  dsimp only;rw [if_neg (by omega),Nat.add_sub_cancel,show (2:Int)-(h:Int)-1=2-((h+1:Nat):Int) by omega];rfl),by show h0-(h+1)<h0-h;omega⟩
theorem TD (q:List (List Rat)) (m:Nat) (lead:Rat) (B L h0 i0:Nat) (C:JB B q m lead L h0 (m+bD q+m) i0) (hql:q.length=m+1) (hm:m≤64) (hL:L≤1048576) (hB:B≤8589934592) (h64:64≤B) (hh:h0≤62) (hp1:1≤(q.getD m []).length)
  (hlow:∀ h,h<h0→¬ kW q m lead h) (hs:kW q m lead h0) (hst:∀ i,i<i0→(m+bD q+m)*2^i≤4096∧¬ fB q m lead (aY h0) ((m+bD q+m)*2^i)) (hsi:fB q m lead (aY h0) ((m+bD q+m)*2^i0)) (hlim:(m+bD q+m)*2^i0≤4096) (hi13:i0≤13) :
  aN prog 123 [GR q m lead] (.ret [.agg (([eQ q, .int .i64 m]++qC lead)++qC (aY h0) ++ [.int .i64 (((m+bD q+m)*2^i0:Nat):Int)])]):=by
 have h:=FB q m lead B L h0 i0 C hql hm hL hB h64 (by omega) hp1 hlow (fun _=>hs) (fun _=>hst) (fun _=>.inr hsi) hi13;rw [if_neg (by omega)] at h;exact h
open Go Go.Proofs Go.RowKit Tryz Ord
attribute [local go_sem] Oper.semAt_some
theorem ar7 {P:Program} {W:World} {b T:Nat} {c0 c1 c2 c3 c4 c5 c6 c7 c8 u0 u1 u2 u3 u4 u5 u6 u7 u8:Value} (h:W.heap[b]? = some (.cells #[c0,c1,c2,c3,c4,c5,c6,c7,c8] T (0,0))) (o:∀ u ∈ [u0,u1,u2,u3,u4,u5,u6,u7,u8],u.oneCell'=true) :
  (((store ⟨b,0,none⟩ u0).run P W).andThen fun _ w=>((store ⟨b,1,none⟩ u1).run P w).andThen fun _ w=>((store ⟨b,2,none⟩ u2).run P w).andThen fun _ w=>((store ⟨b,3,none⟩ u3).run P w).andThen fun _ w=>((store ⟨b,4,none⟩ u4).run P w).andThen fun _ w=>((store ⟨b,5,none⟩ u5).run P w).andThen fun _ w=>((store ⟨b,6,none⟩ u6).run P w).andThen fun _ w=>((store ⟨b,7,none⟩ u7).run P w).andThen fun _ w=>(store ⟨b,8,none⟩ u8).run P w) = .ok () (W.setRow b #[u0,u1,u2,u3,u4,u5,u6,u7,u8]):=by
 have s0:(store ⟨b,0,none⟩ u0).run P W = .ok () (W.setRow b #[u0,c1,c2,c3,c4,c5,c6,c7,c8]):=by
  rw [kH h (by simp) (o _ (by simp))];rfl
 have s1:(store ⟨b,1,none⟩ u1).run P (W.setRow b #[u0,c1,c2,c3,c4,c5,c6,c7,c8]) = .ok () (W.setRow b #[u0,u1,c2,c3,c4,c5,c6,c7,c8]):=by
  rw [kH (setRow_heap W b _ _ T (0,0) h) (by simp) (o _ (by simp)),setRow_setRow];rfl
 have s2:(store ⟨b,2,none⟩ u2).run P (W.setRow b #[u0,u1,c2,c3,c4,c5,c6,c7,c8]) = .ok () (W.setRow b #[u0,u1,u2,c3,c4,c5,c6,c7,c8]):=by
  rw [kH (setRow_heap W b _ _ T (0,0) h) (by simp) (o _ (by simp)),setRow_setRow];rfl
 have s3:(store ⟨b,3,none⟩ u3).run P (W.setRow b #[u0,u1,u2,c3,c4,c5,c6,c7,c8]) = .ok () (W.setRow b #[u0,u1,u2,u3,c4,c5,c6,c7,c8]):=by
  rw [kH (setRow_heap W b _ _ T (0,0) h) (by simp) (o _ (by simp)),setRow_setRow];rfl
 have s4:(store ⟨b,4,none⟩ u4).run P (W.setRow b #[u0,u1,u2,u3,c4,c5,c6,c7,c8]) = .ok () (W.setRow b #[u0,u1,u2,u3,u4,c5,c6,c7,c8]):=by
  rw [kH (setRow_heap W b _ _ T (0,0) h) (by simp) (o _ (by simp)),setRow_setRow];rfl
 have s5:(store ⟨b,5,none⟩ u5).run P (W.setRow b #[u0,u1,u2,u3,u4,c5,c6,c7,c8]) = .ok () (W.setRow b #[u0,u1,u2,u3,u4,u5,c6,c7,c8]):=by
  rw [kH (setRow_heap W b _ _ T (0,0) h) (by simp) (o _ (by simp)),setRow_setRow];rfl
 have s6:(store ⟨b,6,none⟩ u6).run P (W.setRow b #[u0,u1,u2,u3,u4,u5,c6,c7,c8]) = .ok () (W.setRow b #[u0,u1,u2,u3,u4,u5,u6,c7,c8]):=by
  rw [kH (setRow_heap W b _ _ T (0,0) h) (by simp) (o _ (by simp)),setRow_setRow];rfl
 have s7:(store ⟨b,7,none⟩ u7).run P (W.setRow b #[u0,u1,u2,u3,u4,u5,u6,c7,c8]) = .ok () (W.setRow b #[u0,u1,u2,u3,u4,u5,u6,u7,c8]):=by
  rw [kH (setRow_heap W b _ _ T (0,0) h) (by simp) (o _ (by simp)),setRow_setRow];rfl
 have s8:(store ⟨b,8,none⟩ u8).run P (W.setRow b #[u0,u1,u2,u3,u4,u5,u6,u7,c8]) = .ok () (W.setRow b #[u0,u1,u2,u3,u4,u5,u6,u7,u8]):=by
  rw [kH (setRow_heap W b _ _ T (0,0) h) (by simp) (o _ (by simp)),setRow_setRow];rfl
 rw [s0,Result.andThen_ok,s1,Result.andThen_ok,s2,Result.andThen_ok,s3,Result.andThen_ok,s4,Result.andThen_ok,s5,Result.andThen_ok,s6,Result.andThen_ok,s7,Result.andThen_ok,s8]
theorem aG5 {M:Nat→Prop} {w:World} {a b c d e f g h i:aE} {vs:List Value} (hr:aX M w [a,b,c,d,e,f,g,h,i] vs):∃ u0 u1 u2 u3 u4 u5 u6 u7 u8,vs = [u0,u1,u2,u3,u4,u5,u6,u7,u8]:=by
 have hl:=hr.length
 match vs,hl with
 | [u0,u1,u2,u3,u4,u5,u6,u7,u8],_=>exact ⟨_,_,_,_,_,_,_,_,_,rfl⟩
theorem aP4 {M:Nat→Prop} {w:World} {a b c d e:aE} {vs:List Value} (hr:aX M w [a,b,c,d,e] vs):∃ u0 u1 u2 u3 u4,vs = [u0,u1,u2,u3,u4]:=by
 have hl:=hr.length
 match vs,hl with
 | [u0,u1,u2,u3,u4],_=>exact ⟨_,_,_,_,_,rfl⟩
theorem ay8 {M:Nat→Prop} {w:World} {cs:List aE} {vs:List Value} (h:cT M w [.agg cs] vs):∃ us,pack vs = .agg us.toArray∧aX M w cs us:=by
 match vs,h with
 | [v],h=>
   obtain ⟨us,rfl,hus⟩:=h.1;exact ⟨us,rfl,hus⟩
 | [],h=>exact h.elim
 | _::_::_,h=>exact h.2.elim
abbrev Bn (q:List (List Rat)) (m:Nat) (lead aH:Rat) (st:Int):List aE:=([eQ q, .int .i64 m]++qC lead)++qC aH ++ [.int .i64 st]
set_option maxRecDepth 100000 in
set_option maxHeartbeats 400000 in
theorem PG (M:Nat→Prop) (w:World) (hM:eF M w) (e:List (List Rat)) (c:Rat) (q:List (List Rat)) (m:Nat) (lead aH:Rat) (st:Int)
  (hat:aN prog 100 [.one (eQ e),qT c] (.ret [GR q m lead])) (hre:aN prog 123 [GR q m lead] (.ret [.agg (Bn q m lead aH st)]))
  (b0 b1 A:Nat) (ev u0 u1 u2:Value) (T0 T1:Nat) (z0 z1 z2 z3 z4 z5 z6 z7 z8:Value) (h0:w.heap[b0]? = some (.cells #[ev] T0 (0,0))) (h1:w.heap[b1]? = some (.cells #[u0,u1,u2] T1 (0,0))) (hA:w.heap[A]? = some (.cells #[z0,z1,z2,z3,z4,z5,z6,z7,z8] 185 (0,0)))
  (hMA:M A) (he:(eQ e).rep M w ev) (hc:aX M w (qC c) [u0,u1,u2]) :
  Calls prog 122 #[.pointer (some ⟨b0,0,none⟩), .pointer (some ⟨b1,0,none⟩), .pointer (some ⟨A,0,none⟩)] w fun e w'=>e = .returned (.tuple #[])∧w.grownBy w' (some A) ∧
   ∃ y0 y1 y2 y3 y4 y5 y6 y7 y8,w'.heap[A]? = some (.cells #[y0,y1,y2,y3,y4,y5,y6,y7,y8] 185 (0,0))∧aX M w' (Bn q m lead aH st) [y0,y1,y2,y3,y4,y5,y6,y7,y8]:=by
 refine calls_of_wp func122 rfl ?_;simp only [ntmps122,List.size_toArray,List.length_cons,List.length_nil,Nat.reduceAdd,Nat.reduceSub,Array.replicate_succ,Array.replicate_zero,List.push_toArray,List.append_toArray,List.nil_append,List.cons_append];have c0:w.cell? ⟨b0,0,none⟩=some ev:=aG h0 rfl;have d0:w.cell? ⟨b1,0,none⟩=some u0:=aG h1 rfl;have d1:w.cell? ⟨b1,1,none⟩=some u1:=aG h1 rfl;have d2:w.cell? ⟨b1,2,none⟩=some u2:=aG h1 rfl
 have k1:Calls prog 100 #[ev, .agg #[u0,u1,u2]] w fun e w'=>Below w.heap.size w w'∧∃ s0 s1 s2 s3 s4,e = .returned (.agg #[s0,s1,s2,s3,s4])∧aX M w' ([eQ q, .int .i64 m]++qC lead) [s0,s1,s2,s3,s4]:=by
  refine (hat.2 M w [ev, .agg #[u0,u1,u2]] hM ⟨he,⟨[u0,u1,u2],rfl,hc⟩,trivial⟩).mono ?_;rintro e w' ⟨hb,vs,rfl,hvs⟩;obtain ⟨us,e1,hus⟩:=ay8 hvs;obtain ⟨s0,s1,s2,s3,s4,rfl⟩:=aP4 hus;exact ⟨hb,s0,s1,s2,s3,s4,by rw [e1],hus⟩
 obtain ⟨la,hla⟩:∃ la,w.heap.size=la:=⟨_,rfl⟩
 have hAl:A<w.heap.size:=hM.1 A hMA
 go_wp2_with (go_at_call 100;refine k1.mono ?_;clear k1;rintro e w1 ⟨hb1,s0,s1,s2,s3,s4,rfl,hs⟩)
 have hM1:eF M w1:=⟨fun b hb=>Nat.lt_of_lt_of_le (hM.1 b hb) hb1.size,hM.2.below rfl hb1⟩
 refine (hre.2 M w1 [.agg #[s0,s1,s2,s3,s4]] hM1 ⟨⟨_,rfl,hs⟩,trivial⟩).mono ?_;rintro e w2 ⟨hb2,vs,rfl,hvs⟩;obtain ⟨us,e1,hus⟩:=ay8 hvs;obtain ⟨y0,y1,y2,y3,y4,y5,y6,y7,y8,rfl⟩:=aG5 hus;rw [e1];have hA2:w2.heap[A]? = some (.cells #[z0,z1,z2,z3,z4,z5,z6,z7,z8] 185 (0,0)):=(hb2.block A (Nat.lt_of_lt_of_le hAl hb1.size)).trans ((hb1.block A hAl).trans hA)
 go_wp2
 rw [ar7 hA2 hus.one]
 have hg:w.grownBy (w2.setRow A #[y0,y1,y2,y3,y4,y5,y6,y7,y8]) (some A):=by
  have hb:=hb1.trans (hb2.mono hb1.size);refine ⟨hb.os,hb.tape,hb.output,by have:=hb.size;simpa [World.setRow] using this,fun k hk hne=>?_⟩;rw [setRow_other _ _ _ _ (fun e=>hne (by rw [e]))];exact hb.block k hk
 have hk:cD M w2 M (w2.setRow A #[y0,y1,y2,y3,y4,y5,y6,y7,y8]):=fun b o hb ho _=>⟨hb,by rw [setRow_other _ _ _ _ (fun e=>hb (by rw [e];exact hMA))];exact ho⟩
 have hself:(w2.setRow A #[y0,y1,y2,y3,y4,y5,y6,y7,y8]).heap[A]? = some (.cells #[y0,y1,y2,y3,y4,y5,y6,y7,y8] 185 (0,0)):=setRow_heap _ _ _ _ _ _ hA2;generalize w2.setRow A #[y0,y1,y2,y3,y4,y5,y6,y7,y8]=w3 at *
 go_wp2
 refine bodyPost_end (results_none rfl _ _ _) rfl ?_;exact ⟨rfl,hg,y0,y1,y2,y3,y4,y5,y6,y7,y8,hself,hus.mono hk⟩
theorem Mb (p:Addr) (w:World) :
  CallsD prog 201 #[.pointer (some p)] .returning w fun e u' w'=>e = .returned (.tuple #[])∧u' = .returning∧w'=w:=by
 refine callsD_of_wpS func201 rfl fun c₀ cs hu=>?_;apply wpS_seq;apply wpS_region;simp [wpOpsS,go_sem,recoverD,hu,ntmps201,Exit.thenS];apply wpS_seq;apply wpS_region;simp [wpOpsS,go_sem,Exit.thenS];refine wpS_cond (t:=false) (by simp [Act.eval,Array.replicate]) ?_;simp only [Bool.false_eq_true,if_false];refine wpS_of_wp (wp_skip ?_);cases c₀
 simp_all [bodyPostS,results,show f201.results = #[] from rfl]
theorem FU (g:FuncId) (caps:Array Value) (w:World) (Pw:World→Prop) (eg:∀ args w,(callFunc g args).run prog w = .ok (.enter g args) w)
  (h:Calls prog g caps (w.alloc (.cells #[.int .i64 0] 55)) fun e w'=>e = .returned (.tuple #[])∧w'.heap[w.heap.size]? = some (.cells #[.int .i64 0] 55 (0,0))∧Pw w') :
  Calls prog 121 #[.func (.func g) #[] caps] w fun e w'=>e = .returned (.int .i64 0)∧∃ w1,Pw w1∧w'=w1.setRow w.heap.size #[.int .i64 0]∧w1.heap[w.heap.size]? = some (.cells #[.int .i64 0] 55 (0,0)):=by
 have hmf:∀ (fn:Fn) (first cap:Array Value) (w:World),(Instr.makeFunc fn first cap).run prog w = .ok (.func fn first cap) w:=fun _ _ _ _=>rfl
 go_enter_defers func121,ntmps121
 go_wp2
 refine h.mono ?_;rintro e w1 ⟨rfl,hb,hP⟩;have cb:w1.cell? ⟨w.heap.size,0,none⟩=some (.int .i64 0):=aG hb rfl;have fb:w1.frozen? ⟨w.heap.size,0,none⟩=false:=by simp [World.frozen?,hb]
 go_wp2
 refine leaves_cons (f:=201) (args:=#[.pointer (some ⟨w.heap.size,0,none⟩)]) (by simp) (by simp [go_sem]) ?_;refine (Mb ⟨w.heap.size,0,none⟩ _).mono ?_;rintro e u' w'' ⟨rfl,rfl,rfl⟩;rw [setCell_eq_setRow w1 w.heap.size 0 _ _ _ _ hb,show (#[Value.int .i64 0].setIfInBounds 0 (.int .i64 0)) = #[Value.int .i64 0] from rfl];have hb2:(w1.setRow w.heap.size #[Value.int .i64 0]).heap[w.heap.size]? = some (.cells #[.int .i64 0] 55 (0,0)):=setRow_heap _ _ _ _ _ _ hb;have cb2:(w1.setRow w.heap.size #[Value.int .i64 0]).cell? ⟨w.heap.size,0,none⟩=some (.int .i64 0):=aG hb2 rfl;simp [Leaves,settle,results,show f121.results = #[.cell 2 55] from rfl,go_sem,cb2];exact ⟨w1,hP,rfl,hb⟩
set_option maxRecDepth 100000 in
set_option maxHeartbeats 400000 in
theorem RY (M:Nat→Prop) (w:World) (hM:eF M w) (e:List (List Rat)) (c:Rat) (q:List (List Rat)) (m:Nat) (lead aH:Rat) (st:Int)
  (hce:aN prog 19 [.one (eQ e)] (.ret [.one (.int .i64 0)])) (hrg:aN prog 97 [.one (eQ e),qT c] (.ret [.one (.bool true)]))
  (hat:aN prog 100 [.one (eQ e),qT c] (.ret [GR q m lead])) (hre:aN prog 123 [GR q m lead] (.ret [.agg (Bn q m lead aH st)]))
  (ev u0 u1 u2:Value) (he:(eQ e).rep M w ev) (hc:aX M w (qC c) [u0,u1,u2]) :
  Calls prog 41 #[ev, .agg #[u0,u1,u2]] w fun e w'=>Below w.heap.size w w'∧∃ y0 y1 y2,e = .returned (.tuple #[.agg #[y0,y1,y2], .int .i64 st, .int .i64 0])∧aX M w' (qC aH) [y0,y1,y2]:=by
 have hmf:∀ (fn:Fn) (first cap:Array Value) (w:World),(Instr.makeFunc fn first cap).run prog w = .ok (.func fn first cap) w:=fun _ _ _ _=>rfl;obtain ⟨n0,hn0⟩:∃ n0,w.heap.size=n0:=⟨_,rfl⟩
 obtain ⟨o0,o1,o2⟩:u0.oneCell'=true∧u1.oneCell'=true∧u2.oneCell'=true:=by have:=hc.one;exact ⟨this _ (by simp),this _ (by simp),this _ (by simp)⟩
 refine calls_of_wp func41 rfl ?_;simp only [ntmps41,List.size_toArray,List.length_cons,List.length_nil,Nat.reduceAdd,Nat.reduceSub,Array.replicate_succ,Array.replicate_zero,List.push_toArray,List.append_toArray,List.nil_append,List.cons_append]
 obtain ⟨ea,ecap,rfl,_⟩:∃ ea ecap,ev = .slice ea e.length ecap∧True:=by
  have he':=he;obtain ⟨ea,ecap,rfl,_⟩:=he';exact ⟨ea,ecap,by rw [aP],trivial⟩
 obtain ⟨Wa,hWa⟩:∃ Wa,(((w.alloc (.cells #[.slice ea e.length ecap] 32)).alloc (.cells #[u0,u1,u2] 39)).alloc (.cells #[.slice none 0 0, .bool false, .slice none 0 0] 39))=Wa:=⟨_,rfl⟩
 have hsa:Wa.heap.size=n0+3:=by rw [←hWa];simp [hn0]
 have hEa:Wa.heap[n0]? = some (.cells #[.slice ea e.length ecap] 32 (0,0)):=by rw [←hWa,heap_alloc_old _ _ _ (by simp;omega),heap_alloc_old _ _ _ (by simp;omega),←hn0];exact heap_alloc_new w _
 have hCa:Wa.heap[n0+1]? = some (.cells #[u0,u1,u2] 39 (0,0)):=by
  rw [←hWa,heap_alloc_old _ _ _ (by simp;omega)];have:=heap_alloc_new (w.alloc (.cells #[.slice ea e.length ecap] 32)) (.cells #[u0,u1,u2] 39);rw [World.size_alloc,hn0] at this;exact this
 have hRa:Wa.heap[n0+2]? = some (.cells #[.slice none 0 0, .bool false, .slice none 0 0] 39 (0,0)):=by
  rw [←hWa];have:=heap_alloc_new ((w.alloc (.cells #[.slice ea e.length ecap] 32)).alloc (.cells #[u0,u1,u2] 39)) (.cells #[.slice none 0 0, .bool false, .slice none 0 0] 39);rw [World.size_alloc,World.size_alloc,hn0] at this;exact this
 have hBa:Below w.heap.size w Wa:=by
  rw [←hWa];exact (((Below.refl _ w).alloc (by omega) _).alloc (by simp) _).alloc (by simp;omega) _
 have hka:cD M w M Wa:=cD.below hBa;have hMa:eF M Wa:=⟨fun b hb=>Nat.lt_of_lt_of_le (hM.1 b hb) hBa.size,hM.2.jI hka⟩
 have he0:=he;have hc0:=hc;replace he:=aE.mono _ hka he;replace hc:=hc.mono hka;have cE:Wa.cell? ⟨n0,0,none⟩=some (.slice ea e.length ecap):=aG hEa rfl
 have k1:Calls prog 19 #[.slice ea e.length ecap] Wa fun r w'=>Below Wa.heap.size Wa w'∧r = .returned (.int .i64 0):=by
  refine (hce.2 M Wa [.slice ea e.length ecap] hMa ⟨he,trivial⟩).mono ?_;rintro r w' ⟨hb,vs,rfl,hvs⟩;obtain ⟨v,e1,hr⟩:=Ps hvs;rw [hr.1] at e1;exact ⟨hb,by rw [e1]⟩
 have k2:∀ w1,Below Wa.heap.size Wa w1→Calls prog 97 #[.slice ea e.length ecap, .agg #[u0,u1,u2]] w1 fun r w'=>Below w1.heap.size w1 w'∧r = .returned (.bool true):=by
  intro w1 hb;refine (hrg.2 M w1 [.slice ea e.length ecap, .agg #[u0,u1,u2]] ⟨fun b h=>Nat.lt_of_lt_of_le (hMa.1 b h) hb.size,hMa.2.below rfl hb⟩ ⟨aE.mono _ (cD.below hb) he,⟨_,rfl,hc.mono (cD.below hb)⟩,trivial⟩).mono ?_;rintro r w' ⟨hb,vs,rfl,hvs⟩;obtain ⟨v,e1,hr⟩:=Ps hvs;rw [hr.1] at e1;exact ⟨hb,by rw [e1]⟩
 go_wp2_with (first | (go_at_call 19;refine k1.mono ?_;clear k1;rintro r w1 ⟨hb1,rfl⟩;have cE1:w1.cell? ⟨n0,0,none⟩=some (.slice ea e.length ecap):=aG ((hb1.block n0 (by omega)).trans hEa) rfl;have cC0:w1.cell? ⟨n0+1,0,none⟩=some u0:=aG ((hb1.block (n0+1) (by omega)).trans hCa) rfl;have cC1:w1.cell? ⟨n0+1,1,none⟩=some u1:=aG ((hb1.block (n0+1) (by omega)).trans hCa) rfl;have cC2:w1.cell? ⟨n0+1,2,none⟩=some u2:=aG ((hb1.block (n0+1) (by omega)).trans hCa) rfl) | (go_at_call 97;refine (k2 _ hb1).mono ?_;clear k2;rintro r w2 ⟨hb2,rfl⟩))
 obtain ⟨A,hA⟩:∃ A,w2.heap.size=A:=⟨_,rfl⟩
 obtain ⟨W3,hW3⟩:∃ W3,w2.alloc (.cells #[.slice none 0 0, .int .i64 0, .slice none 0 0, .bool false, .slice none 0 0, .slice none 0 0, .bool false, .slice none 0 0, .int .i64 0] 185)=W3:=⟨_,rfl⟩
 have hb2':=hb1.trans (hb2.mono hb1.size);have hs2:n0+3≤A:=by have:=hb2'.size;omega
 have hs3:W3.heap.size=A+1:=by rw [←hW3,World.size_alloc,hA]
 have hA3:W3.heap[A]? = some (.cells #[.slice none 0 0, .int .i64 0, .slice none 0 0, .bool false, .slice none 0 0, .slice none 0 0, .bool false, .slice none 0 0, .int .i64 0] 185 (0,0)):=by rw [←hW3,←hA];exact heap_alloc_new w2 _
 have hB3:Below Wa.heap.size Wa W3:=by rw [←hW3];exact hb2'.alloc (by omega) _
 rw [hA,hW3];obtain ⟨W4,hW4⟩:∃ W4,W3.alloc (.cells #[.int .i64 0] 55)=W4:=⟨_,rfl⟩
 have hB4:Below Wa.heap.size Wa W4:=by rw [←hW4];exact hB3.alloc (by omega) _
 have hs4:W4.heap.size=A+2:=by rw [←hW4,World.size_alloc,hs3]
 have hA4:W4.heap[A]? = some (.cells #[.slice none 0 0, .int .i64 0, .slice none 0 0, .bool false, .slice none 0 0, .slice none 0 0, .bool false, .slice none 0 0, .int .i64 0] 185 (0,0)):=by rw [←hW4,heap_alloc_old _ _ _ (by omega)];exact hA3
 have hX4:W4.heap[W3.heap.size]? = some (.cells #[.int .i64 0] 55 (0,0)):=by rw [←hW4];exact heap_alloc_new W3 _
 have hk4:cD M w (fun b=>M b∨b=A∨b=n0+2) W4:=fun b o hb ho _=>by
  have hlt:=(dH.1 ho).1;have h3:b<Wa.heap.size:=by omega
  exact ⟨fun h=>h.elim hb (fun h=>by omega),(hB4.block b h3).trans ((hBa.block b hlt).trans ho)⟩
 have hM4:eF (fun b=>M b∨b=A∨b=n0+2) W4:=⟨fun b h=>h.elim (fun h=>Nat.lt_of_lt_of_le (hMa.1 b h) hB4.size) (fun h=>by omega),hM.2.jI hk4⟩
 have hr1:=PG (fun b=>M b∨b=A∨b=n0+2) W4 hM4 e c q m lead aH st hat hre n0 (n0+1) A (.slice ea e.length ecap) u0 u1 u2 _ _ _ _ _ _ _ _ _ _ _ ((hB4.block _ (by omega)).trans hEa) ((hB4.block _ (by omega)).trans hCa) hA4 (.inr (.inl rfl)) (aE.mono _ hk4 he0) (hc0.mono hk4)
 have hc1:=FU 122 #[.pointer (some ⟨n0,0,none⟩), .pointer (some ⟨n0+1,0,none⟩), .pointer (some ⟨A,0,none⟩)] W3 (fun w'=>W4.grownBy w' (some A)∧∃ y0 y1 y2 y3 y4 y5 y6 y7 y8,w'.heap[A]? = some (.cells #[y0,y1,y2,y3,y4,y5,y6,y7,y8] 185 (0,0))∧aX (fun b=>M b∨b=A∨b=n0+2) w' (Bn q m lead aH st) [y0,y1,y2,y3,y4,y5,y6,y7,y8]) (cB (by kernel_rfl)) (by
  rw [hW4];refine hr1.mono ?_;rintro r w' ⟨rfl,hg,hy⟩;exact ⟨rfl,(hg.block _ (by omega) (fun e=>by simp only [aJ] at e;omega)).trans hX4,hg,hy⟩)
 refine hc1.mono ?_;clear hc1 hr1;rintro r w7 ⟨rfl,w6,⟨hg,y0,y1,y2,y3,y4,y5,y6,y7,y8,hA6,hy⟩,rfl,hX6⟩;obtain ⟨W7,hW7⟩:∃ W7,w6.setRow W3.heap.size #[.int .i64 0]=W7:=⟨_,rfl⟩
 have h7:∀ j,j≠A+1→W7.heap[j]? = w6.heap[j]?:=fun j hj=>by rw [←hW7,setRow_other _ _ _ _ (by omega)]
 have hA7:W7.heap[A]? = some (.cells #[y0,y1,y2,y3,y4,y5,y6,y7,y8] 185 (0,0)):=(h7 A (by omega)).trans hA6;have hs7:W7.heap.size=w6.heap.size:=by rw [←hW7];simp [World.setRow]
 have ho7:W7.os=w6.os∧W7.tape=w6.tape∧W7.output=w6.output:=by rw [←hW7];exact ⟨rfl,rfl,rfl⟩
 rw [hW7]
 have hB7:Below Wa.heap.size Wa W7:=by
  refine ⟨by rw [ho7.1,hg.os,hB4.os],by rw [ho7.2.1,hg.tape,hB4.tape],by rw [ho7.2.2,hg.output,hB4.output],by have:=hg.size;omega,fun k hk=>?_⟩;rw [h7 k (by omega),hg.block k (by omega) (fun e=>by simp only [aJ] at e;omega),hB4.block k hk]
 have hR7:W7.heap[n0+2]? = some (.cells #[.slice none 0 0, .bool false, .slice none 0 0] 39 (0,0)):=(hB7.block _ (by omega)).trans hRa;have g5:W7.cell? ⟨A,5,none⟩=some y5:=aG hA7 rfl;have g6:W7.cell? ⟨A,6,none⟩=some y6:=aG hA7 rfl;have g7:W7.cell? ⟨A,7,none⟩=some y7:=aG hA7 rfl;have g8:W7.cell? ⟨A,8,none⟩=some (.int .i64 st):=by rw [←(show y8=_ from hy.2.2.2.2.2.2.2.2.1.1)];exact aG hA7 rfl
 have p5:y5.oneCell'=true:=hy.one _ (by simp);have p6:y6.oneCell'=true:=hy.one _ (by simp);have p7:y7.oneCell'=true:=hy.one _ (by simp);have r0:W7.cell? ⟨n0+2,0,none⟩=some (.slice none 0 0):=aG hR7 rfl;have r1:W7.cell? ⟨n0+2,1,none⟩=some (.bool false):=aG hR7 rfl;have r2:W7.cell? ⟨n0+2,2,none⟩=some (.slice none 0 0):=aG hR7 rfl;have fr:∀ j,W7.frozen? ⟨n0+2,j,none⟩=false:=fun j=>by simp [World.frozen?,hR7]
 have st3:(((store ⟨n0+1+1,0,none⟩ y5).run prog W7.drew).andThen fun _ w'=>((store ⟨n0+1+1,1,none⟩ y6).run prog w').andThen fun _ w'=>(store ⟨n0+1+1,2,none⟩ y7).run prog w') = .ok () (W7.drew.setRow (n0+2) #[y5,y6,y7]):=vU (W:=W7.drew) hR7 p5 p6 p7;have hd:W7.drew.heap=W7.heap:=rfl
 have g8':(W7.drew.setRow (n0+2) #[y5,y6,y7]).cell? ⟨A,8,none⟩=some (.int .i64 st):=by
  rw [World.cell?_of_block (w:=W7.drew) (a:=⟨A,8,none⟩) (setRow_other _ _ _ _ (show A≠n0+2 by omega))];exact g8
 go_wp2
 go_region
 have hs9:(W7.drew.setRow (n0+2) #[y5,y6,y7]).heap[n0+2]? = some (.cells #[y5,y6,y7] 39 (0,0)):=setRow_heap _ _ _ _ _ _ hR7;have hb9:Below w.heap.size w (W7.drew.setRow (n0+2) #[y5,y6,y7]):=below_setRow (hBa.trans (hB7.drew.mono hBa.size)) _
 have hk9:cD (fun b=>M b∨b=A∨b=n0+2) w6 M (W7.drew.setRow (n0+2) #[y5,y6,y7]):=fun b o hb ho _=>by
  refine ⟨fun h=>hb (.inl h),?_⟩;rw [setRow_other _ _ _ _ (fun e=>hb (.inr (.inr e)))];show W7.heap[b]? = some o;by_cases hbx:b=A+1
  ·subst hbx;rw [hs3] at hX6 hW7;rw [hX6] at ho;rw [←ho,←hW7];exact setRow_heap _ _ _ _ _ _ hX6
  ·rw [h7 b hbx];exact ho
 generalize hW9:W7.drew.setRow (n0+2) #[y5,y6,y7]=W9 at *;have t0:W9.cell? ⟨n0+2,0,none⟩=some y5:=aG hs9 rfl;have t1:W9.cell? ⟨n0+2,1,none⟩=some y6:=aG hs9 rfl;have t2:W9.cell? ⟨n0+2,2,none⟩=some y7:=aG hs9 rfl
 go_wp2
 have hy3:aX M W9 (qC aH) [y5,y6,y7]:=(show aX (fun b=>M b∨b=A∨b=n0+2) w6 (qC aH) [y5,y6,y7] from ⟨hy.2.2.2.2.2.1,hy.2.2.2.2.2.2.1,hy.2.2.2.2.2.2.2.1,trivial⟩).mono hk9;clear hy hk9;simp [bodyPost,results,show f41.results = #[.cell 4 39, .tmp 5, .tmp 6] from rfl,go_sem,t0,t1,t2];exact ⟨hb9,y5,y6,y7,⟨rfl,rfl,rfl⟩,hy3⟩
theorem Xb {M:Nat→Prop} {w:World} {a b c:aE} {vs:List Value} (hr:aX M w [a,b,c] vs):∃ u0 u1 u2,vs = [u0,u1,u2]:=by
 have hl:=hr.length
 match vs,hl with
 | [u0,u1,u2],_=>exact ⟨_,_,_,rfl⟩
theorem JR (e:List (List Rat)) (c:Rat) (q:List (List Rat)) (m:Nat) (lead aH:Rat) (st:Int)
  (hce:aN prog 19 [.one (eQ e)] (.ret [.one (.int .i64 0)])) (hrg:aN prog 97 [.one (eQ e),qT c] (.ret [.one (.bool true)]))
  (hat:aN prog 100 [.one (eQ e),qT c] (.ret [GR q m lead])) (hre:aN prog 123 [GR q m lead] (.ret [.agg (Bn q m lead aH st)])) :
  aN prog 41 [.one (eQ e),qT c] (.ret [qT aH, .one (.int .i64 st), .one (.int .i64 0)]):=by
 refine ⟨cB (by kernel_rfl),fun M w vs hM hv=>?_⟩
 match vs,hv with
 | [v,u],hv=>
   obtain ⟨us,rfl,hus⟩:=hv.2.1;obtain ⟨u0,u1,u2,rfl⟩:=Xb hus;refine (RY M w hM e c q m lead aH st hce hrg hat hre v u0 u1 u2 hv.1 hus).mono ?_;rintro r w' ⟨hb,y0,y1,y2,rfl,hy⟩;exact ⟨hb,[.agg #[y0,y1,y2], .int .i64 st, .int .i64 0],rfl,⟨_,rfl,hy⟩,⟨rfl,rfl⟩,⟨rfl,rfl⟩,trivial⟩
 | [],hv=>exact hv.elim
 | [_],hv=>exact hv.2.elim
 | _::_::_::_,hv=>exact hv.2.2.elim
end Go.Sy
namespace Go.Sy
open Go Go.Proofs Tryz Ord
def aB2:Tr:=aM 18 [(W 0 0),(W 1 0)] [(some 5),none] [8,9] [5,3] 56 false (.ret [(G5 2)])
theorem Uy:aL prog f53 (fun _=>none) [.v none, .v none]=aB2:=by kernel_rfl
def rS:Tr:=.ret [(tF false)]
def YL:Tr:=bA .eql 3 48 0 21 0 4 (.split (.u 22 0) (aM 90 [(G3 4)] [none] [52] [39] 9 false (.need (.prim [(W 23 0),(.one (.c (.k (.string ⟨#[52]⟩))))] none) (.binOp .eql 9 (tT 53) (.const (.string ⟨#[52]⟩)) 9) 4 false (.split (.u 24 0) (bA .eql 3 57 4 5 0 4 (.ret [(W 25 0)])) rS))) rS)
def XP:Tr:=eS 15 0 (some 3) 39 39 (aM 90 [(G3 16)] [none] [40] [39] 9 false (.need (.prim [(W 17 0),(.one (.c (.k (.string ⟨#[49,47,49,56,48]⟩))))] none) (.binOp .eql 9 (tT 41) (.const (.string ⟨#[49,47,49,56,48]⟩)) 9) 4 false (.split (.u 18 0) (.need (.prim [(W 1 0),(WK 5)] none) (.indexAddr 40 (tT 45) (.const (I3 5))) 0 false (eS 19 0 (some 3) 39 46 (aM 35 [(G3 20)] [none] [47] [39] 3 false YL))) rS)))
def WJ:Tr:=.split (.u 10 0) (.need (.prim [(W 1 0),(WK 3)] none) (.indexAddr 40 (tT 31) (.const (I3 3))) 0 false (eS 11 0 (some 3) 39 32 (aM 90 [(G3 12)] [none] [33] [39] 9 false (.need (.prim [(W 13 0),(.one (.c (.k (.string ⟨#[49,47,54]⟩))))] none) (.binOp .eql 9 (tT 34) (.const (.string ⟨#[49,47,54]⟩)) 9) 4 false (.split (.u 14 0) (.need (.prim [(W 1 0),(WK 6)] none) (.indexAddr 40 (tT 38) (.const (I3 6))) 0 false XP) rS))))) rS
def ad1:Tr:=aM 41 [(W 3 0),(.agg [tN,(tE (.bool false)),tN])] [(some 3),none,none] [13,14] [32,39] 84 false (bA .eql 55 19 0 2 0 4 (.split (.u 7 0) (bA .eql 55 22 0 6 0 4 (.split (.u 8 0) (cV 1 0 26 40 (bA .eql 3 27 7 9 0 4 WJ)) rS)) rS))
def am8:Tr:=.need (.call 53 [(.one (.c (.k (.int .u8 3)))),(WK 0)] [(some 5)]) (.call ⟨.value (.func 53),#[(.const (.int .u8 3)),(.const (I3 0))],#[5,3]⟩) 42 false (.need (.call 26 [(G5 0),(WK 7)] [none,none]) (.call ⟨.value (.func 26),#[(tT 7),(.const (I3 7))],#[42,3]⟩) 66 false (.need (.call 53 [(.one (.c (.k (.int .u8 1)))),(WK 0)] [(some 5)]) (.call ⟨.value (.func 53),#[(.const (.int .u8 1)),(.const (I3 0))],#[5,3]⟩) 42 false ad1))
theorem RB:aL prog f16 (fun _=>none) []=am8:=by kernel_rfl
theorem JV (k:Nat) (n:Int) (hk:k<256:=by omega) (h1:-9223372036854775808≤n:=by omega) (h2:n<9223372036854775808:=by omega):aN prog 53 [(.one (.int .u8 k):aF),(.one (.int .i64 n):aF)] (.ret [fT (jN k n).1 0 (jN k n).2.1]):=by
 refine cM func53 Uy ?_;apply aC (Ij k n hk h1 h2) rfl;exact aK rfl
instance fitDec (B:Nat) (q:Rat):Decidable (Fit B q):=inferInstanceAs (Decidable (_∧_))
instance bdDec (D S:Nat) (q:Rat):Decidable (Bd D S q):=inferInstanceAs (Decidable (_∧_))
theorem k3:jN 3 0=([[0,-1],[],[1]],[1,0],0):=by decide +kernel
theorem k1':jN 1 0=([[-1],[1]],[1],0):=by decide +kernel
theorem mv3:bW [[0,-1],[],[1]] 0 = [[0,-1],[],[1]]:=by decide +kernel
theorem mv1:bW [[-1],[1]] 0 = [[-1],[1]]:=by decide +kernel
theorem ld3:aZ [[0,-1],[],[1]] 0=1:=by decide +kernel
theorem ld1:aZ [[-1],[1]] 0=1:=by decide +kernel
theorem cf3:Cs [[0,-1],[],[1]] 0 [1,0] 7=([1,0,0,1/6,0,0,1/180],0):=by decide +kernel
theorem Ww:gZ 64 [[0,-1],[],[1]] 2 1 [1,0] 7 where
 flead:=by decide +kernel
 fy:=by decide +kernel
 fq:=by decide +kernel
 ffall:=fun n i hn hi z hz j hj=>by
  have h:=mL (z:=z) (N:=9) j (by omega);have h2:9^j≤9^2:=Nat.pow_le_pow_right (by omega) (by omega);exact Fit.int (by omega) (by omega)
 ffac:=by decide +kernel
 fa:=by decide +kernel
 fx:=by
  have h:∀ n,n<7→∀ i,i<3→∀ k,k<3→Fit 64 (inner (([[0,-1],[],[1]]:List (List Rat)).getD i []) (bC [[0,-1],[],[1]] 2 1 [1,0] n) 2 n i (outer [[0,-1],[],[1]] (bC [[0,-1],[],[1]] 2 1 [1,0] n) 2 n i) k):=by decide +kernel
  intro n i k hn _ hi hk;have hl:∀ i,i<3→(([[0,-1],[],[1]]:List (List Rat)).getD i []).length≤2:=by decide
  have:=hl i hi;exact h n hn i hi k (by omega)
theorem aF3:JB 64 [[-1],[1]] 1 1 1 0 2 1 where
 flead:=by decide +kernel
 fq:=by decide +kernel
 frho:=by decide +kernel
 fs:=by decide +kernel
 fm:=fun i hi _=>by
  have h1:∀ i,i≤1→∀ j,j≤3→Fit 64 (((((2*2^i:Nat):Int)-(1:Nat)+1:Int):Rat)^j):=by decide +kernel
  have h2:∀ i,i≤1→∀ j,j<2→∀ k,k≤(([[-1],[1]]:List (List Rat)).getD j []).length→Fit 64 (gY (([[-1],[1]]:List (List Rat)).getD j []) 1 j (aY 0) ((((2*2^i:Nat):Int)-(1:Nat)+1:Int):Rat) (gB [[-1],[1]] 1 (aY 0) ((((2*2^i:Nat):Int)-(1:Nat)+1:Int):Rat) j) k):=by decide +kernel
  exact ⟨by decide +kernel,by decide +kernel,h1 i hi,fun j k hj hk=>h2 i hi j hj k hk⟩
 fo:=by decide +kernel
theorem at7:aN prog 123 [GR [[-1],[1]] 1 1] (.ret [.agg (Bn [[-1],[1]] 1 1 4 4)]):=by
 have h:=TD [[-1],[1]] 1 1 64 1 0 1 aF3 (by decide) (by decide) (by decide) (by decide) (by decide) (by decide) (by decide) (fun h hh=>absurd hh (Nat.not_lt_zero _)) (by decide +kernel) (by decide +kernel) (by decide +kernel) (by decide +kernel) (by decide);rw [show aY 0=4 by decide +kernel,show (1+bD [[-1],[1]]+1)*2^1=4 by decide +kernel] at h;exact h
theorem aZ1:UX [[-1],[1]]:=⟨by decide,by decide +kernel⟩
theorem be2:UX [[0,-1],[],[1]]:=⟨by decide,by decide +kernel⟩
set_option maxHeartbeats 1000000 in
theorem gQ  :aN prog 16 [] (.ret [.one (.bool true)]):=by
 refine cP (args:=[]) (ins:=[]) (hints:=(fun _=>none)) fo (by kernel_rfl) func16 trivial ?_;rw [RB];dsimp only [List.map,In.env,aA,aB];have e1:=JV 3 0;rw [k3] at e1;apply aC e1 rfl;dsimp only [aA,aB];have e2:=AP [[0,-1],[],[1]] 0 [1,0] 7 1 1 1 1 2 64 64 7 be2 (Fit.zero (by omega)) (by decide) (by omega) (by omega) (fun _=>⟨by omega,by omega,by decide +kernel,by decide +kernel,by omega,by omega,by omega,by decide +kernel⟩) (fun _=>by rw [mv3];decide) (fun _ _ _=>⟨by rw [mv3,ld3];exact Ww,by decide,by decide,by decide⟩) (by omega) (by omega);rw [cf3] at e2;apply aC e2 rfl;dsimp only [aA,aB];have e3:=JV 1 0;rw [k1'] at e3;apply aC e3 rfl;dsimp only [aA,aB];have hce:=qZ [[-1],[1]] (by decide) (by decide);rw [show AV [[-1],[1]]=true by decide +kernel] at hce;have hrg:=BG [[-1],[1]] 0 aZ1 (by decide) (Fit.zero (by omega));rw [show sF [[-1],[1]] 0=true by decide +kernel] at hrg;have hat:=KG (e:=[[-1],[1]]) (c:=0) (D:=1) (E:=1) (S:=1) (T:=1) (K:=2) (B:=64) ⟨by omega,by omega,by decide +kernel,by decide +kernel,by omega,by omega,by omega,by decide +kernel⟩ (by decide) (by decide) (by decide +kernel);rw [mv1,ld1] at hat;refine Gj (show aO [.one (eQ [[-1],[1]]), .agg [.exact (.slice none 0 0), .bool false, .exact (.slice none 0 0)]] [.one (eQ [[-1],[1]]),qT 0] from ⟨aF.Sub.same,fU,trivial⟩) (JR [[-1],[1]] 0 [[-1],[1]] 1 1 4 4 hce hrg hat at7) rfl ?_;dsimp only [aA,aB];apply vn bQ rfl;dsimp only [aA,aB];refine vs _ rfl ?_ ?_<;>intro h5
 ·apply vn bQ rfl;dsimp only [aA,aB];refine vs _ rfl ?_ ?_<;>intro h7
  ·apply vn (aQ rL (show (rQ [1,0,0,1/6,0,0,1/180]).length=7 from rfl)) rfl;dsimp only [aA,aB];apply vn bQ rfl;dsimp only [aA,aB];refine vs _ rfl ?_ ?_<;>intro h10
   ·apply vn (aW rL (show ([1,0,0,1/6,0,0,1/180]:List Rat)[3]? = some (1/6) from rfl) (show (3:Int).toNat=3 from rfl)) rfl;dsimp only [aA,aB];apply vn (bO pO (by decide) (by simp) (.inl rfl)) rfl;dsimp only [aA,aB];apply aC (Hn (1/6) 64 (by decide +kernel)) rfl;rw [show Sz (1/6) = [49,47,54] from by decide +kernel];dsimp only [aA,aB];apply vn (Kl (b:=[49,47,54])) rfl;dsimp only [aA,aB];refine vs _ rfl ?_ ?_<;>intro h15
    ·apply vn (aW rL (show ([1,0,0,1/6,0,0,1/180]:List Rat)[6]? = some (1/180) from rfl) (show (6:Int).toNat=6 from rfl)) rfl;dsimp only [aA,aB];apply vn (bO pO (by decide) (by simp) (.inl rfl)) rfl;dsimp only [aA,aB];apply aC (Hn (1/180) 64 (by decide +kernel)) rfl;rw [show Sz (1/180) = [49,47,49,56,48] from by decide +kernel];dsimp only [aA,aB];apply vn (Kl (b:=[49,47,49,56,48])) rfl;dsimp only [aA,aB];refine vs _ rfl ?_ ?_<;>intro h20
     ·apply vn (aW rL (show ([1,0,0,1/6,0,0,1/180]:List Rat)[5]? = some 0 from rfl) (show (5:Int).toNat=5 from rfl)) rfl;dsimp only [aA,aB];apply vn (bO pO (by decide) (by simp) (.inl rfl)) rfl;dsimp only [aA,aB];apply aC (pA 0) rfl;dsimp only [aA,aB];apply vn bQ rfl;dsimp only [aA,aB];refine vs _ rfl ?_ ?_<;>intro h25
      ·apply aC (Hn 4 64 (by decide +kernel)) rfl;rw [show Sz 4 = [52] from by decide +kernel];dsimp only [aA,aB];apply vn (Kl (b:=[52])) rfl;dsimp only [aA,aB];refine vs _ rfl ?_ ?_<;>intro h28
       ·apply vn bQ rfl;exact aK rfl
       exact (h28 (by decide)).elim
      exact (h25 (by decide)).elim
     exact (h20 (by decide)).elim
    exact (h15 (by decide)).elim
   exact (h10 (by decide)).elim
  exact (h7 (by decide)).elim
 exact (h5 (by decide)).elim
open Go Go.Proofs Tryz Ord
theorem FC (x:Rat) (xs:List Rat):trim (x::xs)=if dY zr xs=0∧zr x=true then [] else x::trim xs:=by
 unfold trim;simp only [dY];split<;>simp
theorem zQ:∀ ps:List Rat,dY zr (trim ps)=dY zr ps
 | []=>rfl
 | x::xs=>by
   have ih:=zQ xs;rw [FC];split
   ·rename_i h;simp only [dY];rw [if_pos h]
   ·rename_i h;simp only [dY];rw [ih]
theorem PB (ps:List Rat):trim (trim ps)=trim ps:=by
 have:=gR ps;show (trim ps).take (dY zr (trim ps))=trim ps;rw [zQ];exact List.take_of_length_le (by omega)
theorem Oi {ps:List Rat} (h:dY zr ps=0) (c:Rat):lF ps c=0:=by
 induction ps with
 | nil=>rfl
 | cons x xs ih=>
   simp only [dY] at h;split at h
   ·rename_i h';have hx:x=0:=by simpa [zr] using h'.2
    show lF xs c*c+x=0;rw [ih h'.1,hx];grind
   ·omega
theorem Cf (c:Rat):∀ ps:List Rat,lF (trim ps) c=lF ps c
 | []=>rfl
 | x::xs=>by
   have ih:=Cf c xs;rw [FC];split
   ·rename_i h;rw [Oi (ps:=x::xs) (by simp only [dY];rw [if_pos h])];rfl
   ·show lF (trim xs) c*c+x=lF xs c*c+x;rw [ih]
def Fa (e e':List (List Rat)):Prop:=e.length=e'.length∧∀ (i:Nat) p p',e[i]? = some p→e'[i]? = some p'→dY zr p=dY zr p'∧∀ c,lF p c=lF p' c
theorem Fa.symm {e e':List (List Rat)} (h:Fa e e'):Fa e' e:=⟨h.1.symm,fun i p p' h1 h2=>⟨(h.2 i p' p h2 h1).1.symm,fun c=>((h.2 i p' p h2 h1).2 c).symm⟩⟩
theorem Fa.aP7 {e e':List (List Rat)} (h:Fa e e') (hk:AV e=true):AV e'=true:=by
 unfold AV at hk ⊢;rw [decide_eq_true_iff] at hk ⊢;obtain ⟨h1,h2,h3,h4⟩:=hk;have hl:=h.1;refine ⟨by omega,by omega,fun p hp=>?_,fun p hp=>?_⟩
 ·obtain ⟨i,hi⟩:=List.getElem?_of_mem hp;have hi2:=(dS.1 hi).1;obtain ⟨p',hp'⟩:∃ p',e[i]? = some p':=⟨_,bI (by omega)⟩
  rw [←(h.2 i p' p hp' hi).1];exact h3 p' (cS hp')
 ·rw [←hl] at hp;obtain ⟨p',hp'⟩:∃ p',e[e.length-1]? = some p':=⟨_,bI (by omega)⟩
  rw [←(h.2 _ p' p hp' hp).1];exact h4 p' hp'
theorem Fa.AV {e e':List (List Rat)} (h:Fa e e'):AV e'=AV e:=by
 cases he:Go.Sy.AV e with
 | true=>exact h.aP7 he
 | false=>
   cases he':Go.Sy.AV e' with
   | false=>rfl
   | true=>rw [h.symm.aP7 he'] at he;cases he
theorem Fa.ZU {e e':List (List Rat)} (h:Fa e e') (c:Rat) (hk:sF e c=true):sF e' c=true:=by
 unfold sF at hk ⊢;rw [decide_eq_true_iff] at hk ⊢;have hl:=h.1;intro p hp;rw [←hl] at hp;have hlt:=(dS.1 hp).1;obtain ⟨p',hp'⟩:∃ p',e[e.length-1]? = some p':=⟨_,bI (by omega)⟩
 rw [←(h.2 _ p' p hp' hp).2];exact hk p' hp'
theorem Fa.sF {e e':List (List Rat)} (h:Fa e e') (c:Rat):sF e' c=sF e c:=by
 cases he:Go.Sy.sF e c with
 | true=>exact h.ZU c he
 | false=>
   cases he':Go.Sy.sF e' c with
   | false=>rfl
   | true=>rw [h.symm.ZU c he'] at he;cases he
theorem Fa.okF {e e':List (List Rat)} (h:Fa e e') (c:Rat) (y:List Rat):okF e' c y=okF e c y:=by
 unfold Go.Sy.okF;rw [h.AV,h.sF,h.1]
theorem RN (l:List bP):(qM l).map RQ.q=cW l:=by
 rw [qM,cW,List.map_map];rfl
theorem Xx (n:Nat):(Ip n).map RQ.q=lG n:=by
 rw [Ip,lG,List.map_set,List.map_replicate];rfl
theorem TY (p:List (List bP)) (long:Int):uY (UT p long)=p.map (fun l=>trim (cW l))++if 0<long then [lG (long%50+1).toNat] else []:=by
 unfold uY UT;rw [List.map_append,List.map_map]
 congr 1
 ·refine List.map_congr_left fun l _=>?_;show (eL (qM l)).map RQ.q=_;rw [qQ,RN]
 ·split
  ·rw [List.map_cons,List.map_nil,Xx]
  ·rfl
theorem Yz {α:Type} (f g:α→List Rat) (hfg:∀ a,dY zr (f a)=dY zr (g a)∧∀ c,lF (f a) c=lF (g a) c) (l:List α) (r:List (List Rat)):Fa (l.map f++r) (l.map g++r):=by
 refine ⟨by simp,fun i p p' h1 h2=>?_⟩;rcases Nat.lt_or_ge i l.length with h | h
 ·rw [List.getElem?_append_left (by simpa using h),cU,bI h] at h1 h2;simp only [Option.map_some,aJ] at h1 h2;subst h1 h2;exact hfg _
 ·rw [List.getElem?_append_right (by simpa using h)] at h1 h2;rw [aP] at h1 h2;rw [h1] at h2;cases h2;exact ⟨rfl,fun _=>rfl⟩
theorem aJ4 (p:List (List bP)) (long:Int):Fa (EZ p long) (uY (UT p long)):=by
 rw [TY];exact Yz _ _ (fun l=>⟨(zQ _).symm,fun c=>(Cf c _).symm⟩) _ _
theorem Qx (n:Nat) (hn:n≤50):(lG n).length≤64∧∀ q∈lG n,Fit 513 q:=by
 refine ⟨by simp [lG];omega,fun q hq=>?_⟩;rcases List.mem_or_eq_of_mem_set hq with h | rfl
 ·rw [(List.mem_replicate.1 h).2];exact Fit.zero (by omega)
 ·exact (fV (n:=1)).mono (by omega)
theorem Nu {l:List bP} (hl:l.length≤4) (h:∀ x∈l,x.In):(cW l).length≤64∧∀ q∈cW l,Fit 513 q:=by
 refine ⟨by rw [pG];omega,fun q hq=>?_⟩;obtain ⟨x,hx,rfl⟩:=gT.1 hq;exact (h x hx).Xj
theorem aR8 {p:List (List bP)} {long:Int} (hp:InP p) (hs:jO p=true):UX (EZ p long)∧UX (uY (UT p long)):=by
 unfold jO at hs;rw [decide_eq_true_iff] at hs;obtain ⟨h1,h2⟩:=hs;have hn:(long%50+1).toNat≤50:=by omega
 rw [TY]
 have hr:∀ q∈(if 0<long then [lG (long%50+1).toNat] else []),q.length≤64∧∀ x∈q,Fit 513 x:=by
  intro q hq;split at hq
  ·rw [List.mem_singleton] at hq;subst hq;exact Qx _ hn
  ·cases hq
 have hrl:(if 0<long then [lG (long%50+1).toNat] else []).length≤1:=by split<;>simp
 constructor
 ·refine ⟨by rw [EZ,fE,aP];omega,fun q hq=>?_⟩;rcases List.mem_append.1 hq with h | h
  ·obtain ⟨l,hl,rfl⟩:=gT.1 h;exact Nu (h2 l hl).1 (hp.p l hl).2
  ·exact hr q h
 ·refine ⟨by rw [fE,aP];omega,fun q hq=>?_⟩;rcases List.mem_append.1 hq with h | h
  ·obtain ⟨l,hl,rfl⟩:=gT.1 h;obtain ⟨k1,k2⟩:=Nu (h2 l hl).1 (hp.p l hl).2;exact ⟨by rw [gR];have:=gV (z:=zr) (cW l);omega,fun x hx=>k2 x (List.mem_of_mem_take hx)⟩
  ·exact hr q h
theorem VE {l:List Int} (h:fY l) (hl:l.length<8):(ints l).length<1099511627776∧∀ q∈ints l,Fit 64 q:=by
 refine ⟨by rw [ints,gR];have:=gV (z:=zr) (l.map fun n:Int=>(n:Rat));rw [aP] at this;omega,fun q hq=>?_⟩;obtain ⟨n,hn,rfl⟩:=gT.1 (List.mem_of_mem_take hq);exact fV (h n hn).1 (h n hn).2
theorem aL3 {k:Nat} {n:Int} (h1:1≤k) (h2:k≤8) (h3:0≤n) (h4:n≤40:=by omega):(kE k n).map trim=kE k n∧(kE k n).length≤3∧∀ p∈kE k n,p.length<1099511627776∧∀ q∈p,Fit 64 q:=by
 have hnn:n*(n+1)≤40*41:=Int.mul_le_mul (a:=n) (b:=n+1) (c:=40) (d:=41) (by omega) (by omega) (by omega) (by omega);have hn0:0≤n*(n+1):=Int.mul_nonneg (by omega) (by omega);generalize hm:n*(n+1)=m at hnn hn0;have ht:∀ l,trim (ints l)=ints l:=fun l=>PB _;have ht0:trim [] = []:=rfl;have hz:([]:List Rat).length<1099511627776∧∀ q∈([]:List Rat),Fit 64 q:=⟨by simp,by simp⟩
 rcases (by omega:k=1∨k=2∨k=3∨k=4∨k=5∨k=6∨k=7∨k=8) with rfl | rfl | rfl | rfl | rfl | rfl | rfl | rfl <;>
  refine ⟨by simp only [kE,List.map_cons,List.map_nil,ht,ht0],by simp [kE],fun p hp=>?_⟩ <;>
  simp only [kE,List.mem_cons,List.not_mem_nil,or_false] at hp <;>
  (try rw [hm] at hp) <;>
  (rcases hp with rfl | rfl | rfl<;>first | exact hz | exact VE (by intro x hx;simp only [List.mem_cons,List.not_mem_nil,or_false] at hx;omega) (by simp))
open Go Go.Proofs Go.RowKit Go.ChangeShapes Go.WideShapes Tryz
section
variable {H:Type} {enc:TypeId×Value→H} {P:Program}
def Wd (P:Program) (t:TypeId) (d:DataW H):Prop:=∀ n∈DataW.weights P t d,n≤reachBytes
theorem AF {e:TypeId}:∀ {ds:List (DataW H)} {d:DataW H},d∈ds→∀ n∈DataW.weights P e d,n∈DataW.weightsAll P e ds
 | [],_,h=>by cases h
 | x::xs,d,h=>fun n hn=>by
   rw [DataW.weightsAll];rcases List.mem_cons.1 h with rfl | h
   ·exact List.mem_append_left _ hn
   ·exact List.mem_append_right _ (AF h n hn)
theorem rO:∀ {ts:List TypeId} {ds:List (DataW H)} {j:Nat} {t:TypeId} {d:DataW H},ts[j]? = some t→ds[j]? = some d→∀ n∈DataW.weights P t d,n∈DataW.weightsEach P ts ds:=fun h1 h2=>DataW.weights_mem_each h1 h2
theorem Wd.field {t:TypeId} {fs:Array Field} {parts:List (DataW H)} (ht:P.underlying t=some (.struct fs)) (h:Wd P t (.agg parts)) {j:Nat} {f:Field} {d:DataW H} (hf:fs[j]? = some f) (hd:parts[j]? = some d):Wd P f.type d:=fun n hn=>by
 refine h n ?_;rw [DataW.weights,ht];exact rO (ts:=fs.toList.map (·.type)) (by rw [cU,Array.getElem?_toList,hf];rfl) hd n hn
theorem Wd.elem {t e:TypeId} {es sp:List (DataW H)} (ht:P.underlying t=some (.slice e)) (h:Wd P t (.slice es sp)) {d:DataW H} (hd:d∈es):Wd P e d:=fun n hn=>by
 refine h n ?_;rw [DataW.weights,ht];exact List.mem_cons_of_mem _ (List.mem_append_left _ (AF hd n hn))
theorem Wd.len {t e:TypeId} {es sp:List (DataW H)} (ht:P.underlying t=some (.slice e)) (h:Wd P t (.slice es sp)) (hb:0<P.bytesOf e):es.length≤reachBytes:=by
 have:=h ((es.length+sp.length)*P.bytesOf e) (by rw [DataW.weights,ht];exact List.mem_cons_self);have h2:(es.length+sp.length)*1≤(es.length+sp.length)*P.bytesOf e:=Nat.mul_le_mul_left _ hb;omega
theorem HZ {w:World} {a:Addr} {n:Nat} {cs:List Value} (h:w.cells? 0 a n=some cs) (hn:0<n):∃ b off all T fz,a=⟨b,off,none⟩∧w.heap[b]? = some (.cells all T fz):=by
 obtain ⟨_,hl,hi⟩:=World.cells?_some h;have h0:=hi 0 hn;obtain ⟨v,hv⟩:∃ v,cs[0]? = some v:=⟨_,bI (by omega)⟩
 rw [hv,show a.add 0=a from rfl] at h0;unfold World.cell? at h0;obtain ⟨b,off,sp⟩:=a;dsimp only at h0;split at h0
 ·rename_i hb;cases sp with
  | some x=>simp at h0
  | none=>exact ⟨b,off,_,_,_,rfl,hb⟩
 ·cases h0
theorem IV (b off k:Nat):(⟨b,off,none⟩:Addr).add k=⟨b,off+k,none⟩:=by
 unfold Addr.add;by_cases h:k=0
 ·subst h;rfl
 ·rw [if_neg h]
theorem Ki {w:World} {b off k n:Nat} {all:Array Value} {T:TypeId} {fz:Nat×Nat} {cs:List Value} (h:w.cells? 0 ((⟨b,off,none⟩:Addr).add k) n=some cs) (hb:w.heap[b]? = some (.cells all T fz)):(all.toList.drop (off+k)).take n=cs:=by
 obtain ⟨_,hl,hi⟩:=World.cells?_some h;refine List.ext_getElem? fun i=>?_;rw [List.getElem?_take];split
 ·rename_i hlt;rw [←hi i hlt,IV,IV,List.getElem?_drop];unfold World.cell?;rw [hb];simp
 ·rw [List.getElem?_eq_none (by omega)]
abbrev XU:Nat→Prop:=fun _=>False
theorem Fm {w:World} {t e:TypeId} {sz:Nat} (ht:P.underlying t=some (.slice e)) (hc:P.cellsOf e=sz) (hb:0<P.bytesOf e) {α:Type} (f:α→List aE) (Q:α→Prop)
  (helem:∀ n cs x,DataW.trod enc P w 0 (fun _=>true) true n e cs=some x→Wd P e x.1→∃ u,Q u∧(f u).length=sz∧aX XU w (f u) cs)
  {fuel:Nat} {cs:List Value} {x:DataW H×List MemPlace} (h:DataW.trod enc P w 0 (fun _=>true) true fuel t cs=some x) (hw:Wd P t x.1) (hsz:0<sz:=by omega) :
  ∃ (l:List α) (v:Value),cs = [v]∧(∀ u∈l,Q u)∧l.length≤reachBytes∧(aE.slice sz (l.map f)).rep XU w v:=by
 rcases Deep.open_slice ht h with ⟨rfl,rfl⟩ | ⟨a,len,cap,m,n,D,Pl,rfl,_,hle,hcm,hm,rfl,hel⟩
 ·exact ⟨[],_,rfl,by simp,by simp [reachBytes],none,0,rfl,by simp,by simp [maxLen], .inl rfl⟩
 ·rw [if_pos rfl] at hm;subst hm;have hlen:=hw.len ht hb;rw [aP,uG] at hlen
  obtain ⟨l,hl1,hl2⟩:=oU (fun i (u:α)=>Q u∧(f u).length=sz∧∃ cs',w.cells? 0 (a.add (i*sz)) sz=some cs'∧aX XU w (f u) cs') len fun i hi=>by
   obtain ⟨cs',h1,h2⟩:=hel i (by omega);rw [hc] at h1;obtain ⟨u,hu1,hu2,hu3⟩:=helem n cs' _ h2 (hw.elem ht (gT.2 ⟨i,List.mem_range.2 hi,rfl⟩));exact ⟨u,hu1,hu2,cs',h1,hu3⟩
  refine ⟨l,_,rfl,fun u hu=>?_,by omega,some a,m,by rw [aP,hl1],by rw [aP,hl1];exact hle,hcm,?_⟩
  ·obtain ⟨i,hi⟩:=List.getElem?_of_mem hu;exact (hl2 i u hi).1
  ·rcases Nat.eq_zero_or_pos len with h0 | h0
   ·left
    rw [List.eq_nil_of_length_eq_zero (hl1.trans h0)];rfl
   ·right
    obtain ⟨u,hu⟩:∃ u,l[0]? = some u:=⟨_,bI (by omega)⟩
    obtain ⟨_,_,cs0,hc0,_⟩:=hl2 0 u hu;rw [Nat.zero_mul,show a.add 0=a from rfl] at hc0;obtain ⟨b,off,all,T,fz,rfl,hb'⟩:=HZ hc0 hsz;refine ⟨b,off,all,T,fz,rfl,fun h=>h,hb',fun i tt htt=>?_⟩;rw [cU,Option.map_eq_some_iff] at htt;obtain ⟨u,hu,rfl⟩:=htt;obtain ⟨_,hu2,cs',hc',hu3⟩:=hl2 i u hu;rw [Ki hc' hb'];exact ⟨hu2,hu3⟩
end
section
variable {H:Type} {enc:TypeId×Value→H}
theorem Hc:prog.cellsOf 26=3:=by kernel_rfl
theorem Mw:prog.cellsOf 27=1:=by kernel_rfl
theorem Xv:0<prog.bytesOf 26:=by rw [show prog.bytesOf 26=24 by kernel_rfl];decide
theorem Ve:0<prog.bytesOf 27:=by rw [show prog.bytesOf 27=24 by kernel_rfl];decide
theorem Vv:prog.cellsOf 22=1:=by kernel_rfl
theorem Rt:prog.cellsOf 5=1:=by kernel_rfl
theorem RM:prog.cellsOf 3=1:=by kernel_rfl
theorem TN:prog.cellsOf 2=1:=by kernel_rfl
set_option maxRecDepth 100000 in
theorem Ct {w:World} {n:Nat} {cs:List Value} {x:DataW H×List MemPlace} (h:DataW.trod enc prog w 0 (fun _=>true) true n 26 cs=some x):∃ u:bP,u.In∧cs = [.int .i64 u.n, .int .i64 u.d, .int .u8 u.pow]:=by
 obtain ⟨y0,y1,y2,m,rfl,hl,h0,h1,h2⟩:=Deep.trod_struct3 underlying26 h;rw [Hc] at hl
 match cs,hl with
 | [v0,v1,v2],_=>
   rw [show prog.cellsOf _=1 from TN] at h0;rw [show prog.cellsOf _=1 from TN] at h1;rw [show prog.cellsOf _=1 from Rt] at h2;obtain ⟨z0,e0,_,f0⟩:=DataW.trod_int underlying2 h0;obtain ⟨z1,e1,_,f1⟩:=DataW.trod_int underlying2 h1;obtain ⟨z2,e2,_,f2⟩:=DataW.trod_int underlying5 h2;have e0':[v0] = [Value.int .i64 z0]:=e0;have e1':[v1] = [Value.int .i64 z1]:=e1;have e2':[v2] = [Value.int .u8 z2]:=e2;cases e0';cases e1';cases e2';have b0:=bounds_i64 f0;have b1:=bounds_i64 f1;have b2:=bounds_u8 f2;refine ⟨⟨z0,z1,z2.toNat⟩,⟨b0.1,by dsimp only;omega,b1.1,by dsimp only;omega,by dsimp only;omega⟩,?_⟩;rw [show ((z2.toNat:Nat):Int)=z2 by omega]
theorem Gc {w:World} {n:Nat} {cs:List Value} {x:DataW H×List MemPlace} (h:DataW.trod enc prog w 0 (fun _=>true) true n 26 cs=some x):∃ u:bP,u.In∧aX XU w (nC u) cs:=by
 obtain ⟨u,hu,rfl⟩:=Ct h;exact ⟨u,hu,⟨rfl,rfl⟩,⟨rfl,rfl⟩,⟨rfl,rfl⟩,trivial⟩
theorem zJ {w:World} {n:Nat} {cs:List Value} {x:DataW H×List MemPlace} (h:DataW.trod enc prog w 0 (fun _=>true) true n 27 cs=some x) (hw:Wd prog 27 x.1) :
  ∃ (l:List bP) (v:Value),cs = [v]∧(∀ u∈l,u.In)∧l.length≤reachBytes∧(sN l).rep XU w v:=
 Fm underlying27 Hc Xv nC bP.In (fun n cs x hx _=>by
  obtain ⟨u,hu,rfl⟩:=Ct hx;exact ⟨u,hu,rfl,⟨rfl,rfl⟩,⟨rfl,rfl⟩,⟨rfl,rfl⟩,trivial⟩) h hw
theorem LW {w:World} {n:Nat} {cs:List Value} {x:DataW H×List MemPlace} (h:DataW.trod enc prog w 0 (fun _=>true) true n 22 cs=some x) (hw:Wd prog 22 x.1) :
  ∃ (p:List (List bP)) (v:Value),cs = [v]∧InP p∧(sP p).rep XU w v:=by
 obtain ⟨p,v,rfl,h1,h2,h3⟩:=Fm underlying22 Mw Ve (fun l:List bP=>[sN l]) (fun l=>l.length≤reachBytes∧∀ x∈l,x.In) (fun n cs x hx hwx=>by
  obtain ⟨l,v,rfl,h1,h2,h3⟩:=zJ hx hwx;exact ⟨l,⟨h2,h1⟩,rfl,h3,trivial⟩) h hw
 refine ⟨p,v,rfl,⟨Nat.lt_of_le_of_lt h2 (by decide),fun l hl=>⟨Nat.lt_of_le_of_lt (h1 l hl).1 (by decide),(h1 l hl).2⟩⟩,h3⟩
set_option maxRecDepth 100000 in
theorem Om {w:World} {n:Nat} {cs:List Value} {x:DataW H×List MemPlace} (h:DataW.trod enc prog w 0 (fun _=>true) true n 29 cs=some x) (hw:Wd prog 29 x.1) :
  ∃ c:bJ,c.In∧aX XU w [sP c.p, .int .i64 c.long, .int .i64 c.c.n, .int .i64 c.c.d, .int .u8 c.c.pow,sN c.y, .int .u8 c.kind, .int .i64 c.n] cs:=by
 obtain ⟨xs,m,_,rfl,hl,hlen,hf⟩:=DataW.trod_struct underlying29 h;rw [show prog.cellsOf 29=8 by kernel_rfl] at hl
 match cs,hl,xs,hlen with
 | [v0,v1,v2,v3,v4,v5,v6,v7],_,[y0,y1,y2,y3,y4],_=>
   have h0:DataW.trod enc prog w 0 (fun _=>true) true m 24 (List.take (prog.cellsOf 24) (List.drop 0 [v0,v1,v2,v3,v4,v5,v6,v7]))=some y0:=hf 0 _ rfl;rw [(by kernel_rfl:prog.cellsOf 24=2)] at h0;replace h0:DataW.trod enc prog w 0 (fun _=>true) true m 24 [v0,v1]=some y0:=h0;have h1:DataW.trod enc prog w 0 (fun _=>true) true m 26 (List.take (prog.cellsOf 26) (List.drop 2 [v0,v1,v2,v3,v4,v5,v6,v7]))=some y1:=hf 1 _ rfl;rw [Hc] at h1;replace h1:DataW.trod enc prog w 0 (fun _=>true) true m 26 [v2,v3,v4]=some y1:=h1;have h2:DataW.trod enc prog w 0 (fun _=>true) true m 27 (List.take (prog.cellsOf 27) (List.drop 5 [v0,v1,v2,v3,v4,v5,v6,v7]))=some y2:=hf 2 _ rfl;rw [Mw] at h2;replace h2:DataW.trod enc prog w 0 (fun _=>true) true m 27 [v5]=some y2:=h2;have h3:DataW.trod enc prog w 0 (fun _=>true) true m 5 (List.take (prog.cellsOf 5) (List.drop 6 [v0,v1,v2,v3,v4,v5,v6,v7]))=some y3:=hf 3 _ rfl;rw [Rt] at h3;replace h3:DataW.trod enc prog w 0 (fun _=>true) true m 5 [v6]=some y3:=h3;have h4:DataW.trod enc prog w 0 (fun _=>true) true m 3 (List.take (prog.cellsOf 3) (List.drop 7 [v0,v1,v2,v3,v4,v5,v6,v7]))=some y4:=hf 4 _ rfl;rw [RM] at h4;replace h4:DataW.trod enc prog w 0 (fun _=>true) true m 3 [v7]=some y4:=h4;have w0:Wd prog 24 y0.1:=hw.field (j:=0) underlying29 rfl rfl;have w2:Wd prog 27 y2.1:=hw.field (j:=2) underlying29 rfl rfl;obtain ⟨a0,a1,k,rfl,_,g0,g1⟩:=trod_struct2 underlying24 h0;replace g0:DataW.trod enc prog w 0 (fun _=>true) true k 22 (List.take (prog.cellsOf 22) (List.drop 0 [v0,v1]))=some a0:=g0;replace g1:DataW.trod enc prog w 0 (fun _=>true) true k 3 (List.take (prog.cellsOf 3) (List.drop 1 [v0,v1]))=some a1:=g1;rw [Vv] at g0;rw [RM] at g1;replace g0:DataW.trod enc prog w 0 (fun _=>true) true k 22 [v0]=some a0:=g0;replace g1:DataW.trod enc prog w 0 (fun _=>true) true k 3 [v1]=some a1:=g1;have w00:Wd prog 22 a0.1:=w0.field (j:=0) underlying24 rfl rfl;obtain ⟨p,_,e0,hp,hpr⟩:=LW g0 w00;cases e0;obtain ⟨zl,e1,_,fl⟩:=DataW.trod_int underlying3 g1;cases e1;obtain ⟨u,hu,e2⟩:=Ct h1;cases e2;obtain ⟨y,_,e3,hy1,hy2,hyr⟩:=zJ h2 w2;cases e3;obtain ⟨zk,e4,_,fk⟩:=DataW.trod_int underlying5 h3;cases e4;obtain ⟨zn,e5,_,fn⟩:=DataW.trod_int underlying3 h4;cases e5;have bl:=bounds_i64 fl;have bk:=bounds_u8 fk;have bn:=bounds_i64 fn;have hrb:reachBytes<140737488355328:=by decide
   refine ⟨⟨p,zl,u,y,zk.toNat,zn⟩,⟨hp,bl.1,by dsimp only;omega,hu,by dsimp only;omega,hy1,by dsimp only;omega,bn.1,by dsimp only;omega⟩,?_⟩;have hk:((zk.toNat:Nat):Int)=zk:=by omega
   exact ⟨hpr,⟨rfl,rfl⟩,⟨rfl,rfl⟩,⟨rfl,rfl⟩,⟨rfl,rfl⟩,hyr,⟨by show Value.int .u8 zk=Value.int .u8 ((zk.toNat:Nat):Int);rw [hk],rfl⟩,⟨rfl,rfl⟩,trivial⟩
end
section
variable {H:Type} {enc:TypeId×Value→H} {P:Program}
theorem vL (hl:laidOutB P=true) {W W':World} {sp':Nat→Bool}:∀ {ts:List TypeId} {vs:List Value} {ds:List (DataW H)} {ps:List MemPlace},(∀ t∈ts,P.readableRec t=true∧t<P.types.size) →
  DataW.TrodAll enc P W 0 (fun _=>true) true ts vs ds ps→(∀ p∈ps,W.sameAt W' p)→(∀ p∈ps,sp' p.block=true)→DataW.TrodAll enc P W' 0 sp' true ts vs ds ps
 | [],[],[],_,_,h,_,_=>h
 | t::ts,v::vs,d::ds,_,hr,h,h1,h2=>by
   obtain ⟨p,q,k1,k2,rfl⟩:=h;refine ⟨p,q,WideElems.Trod_stays hl (hr t (by simp)).1 (hr t (by simp)).2 k1 (fun x hx=>h1 x (by simp [hx])) (fun x hx=>h2 x (by simp [hx])),vL hl (fun t ht=>hr t (List.mem_cons_of_mem _ ht)) k2 (fun x hx=>h1 x (by simp [hx])) (fun x hx=>h2 x (by simp [hx])),rfl⟩
 | [],_::_,_,_,_,h,_,_=>h.elim
 | [],[],_::_,_,_,h,_,_=>h.elim
 | _::_,[],_,_,_,h,_,_=>h.elim
 | _::_,_::_,[],_,_,h,_,_=>h.elim
theorem Lp {f:Func} {s:ChangeSpec} {apart fresh handsOn again:Bool} {W W':World} {args:Array Value} {ds gs:List (DataW H)} {before:List MemPlace} {T:TypeId}
  (hl:laidOutB P=true) (hts:∀ t∈f.params.toList,P.readableRec t=true∧t<P.types.size) (hvars:s.vars = [])
  (hW:DataW.Whole enc P f.params.toList s.vars apart W args.toList ds gs before) (hres:(s.fn H (ds++gs)).results = [.lit (.bool true)]) (hargs:(s.fn H (ds++gs)).args=ds) (hvs:(s.fn H (ds++gs)).vars = [])
  (hb:Below W.heap.size W W') (hrt:f.resultTypes = #[T]) (hT:P.underlying T=some .bool) :
  s.post enc P f apart fresh handsOn again W args (.bool true) W':=by
 have hlt:∀ p∈before,p.block<W.heap.size:=fun p hp=>hW.lt p hp;have hsame:∀ p∈before,W.sameAt W' p:=fun p hp=>hb.same (hlt p hp);obtain ⟨p,q,hA,hV,hps,hz,hn⟩:=hW;have hW:DataW.Whole enc P f.params.toList s.vars apart W args.toList ds gs before:=⟨p,q,hA,hV,hps,hz,hn⟩
 rw [hvars] at hV;obtain ⟨rfl,rfl⟩:=trodVars_none hV;rw [List.append_nil] at hps;subst hps;have ha:∀ sp:Nat→Bool,(∀ p∈before,sp p.block=true)→DataW.TrodAll enc P W' 0 sp true f.params.toList args.toList ds before:=fun sp h=>vL hl hts hA hsame h
 have hr:∀ (b:Nat) (sp:Nat→Bool) (hd:Bool),DataW.TrodAll enc P W' b sp hd f.resultTypes.toList ((Value.bool true).resultList f.resultTypes.size) [.lit (.bool true)] []:=fun b sp hd=>by
  rw [hrt];exact trodAll_mk1 (shut_bool hT true)
 have hold:∀ p∈before,(fun b=>decide (b<W.heap.size)) p.block=true:=fun p hp=>by simpa using hlt p hp
 refine ⟨ds,[],before,[],before,[],hW,?_,?_,?_,hb.frame _,fun _=>⟨?_,_,[],before,⟨[]++before,[],trodAll_append (ha (fun _=>true) (fun _ _=>rfl)) (hr 0 (fun _=>true) true),?_,by simp,?_,?_⟩,fun p hp _=>hp⟩⟩
 ·rw [hres];exact hr _ _ _
 ·rw [hargs];exact ha _ hold
 ·rw [hvars,hvs];rfl
 ·exact ok_one hrt rfl (okWide_bool_mk hT true)
 ·rw [hvars];exact (rfl:DataW.TrodVars enc P W' (fun _=>true) [] [] [])
 ·intro b off hp;rw [hb.frozen (p:=⟨b,off,none⟩) (hlt _ hp)];exact hz b off hp
 ·exact hn
end
theorem GZ {W:World} {l:List (String×DataW Unit)} (hl:l.filter (fun x=>x.1 == "internal/strconv.uint64pow10") = [("internal/strconv.uint64pow10",Lib.tabData .u64 Lib.pow10Tab)]) (h:laidMetH prog l W):Good XU W:=by
 have h1:=h.filter (fun x=>x.1 == "internal/strconv.uint64pow10");rw [hl] at h1;have h2:laidMet prog [("internal/strconv.uint64pow10",Lib.tabData .u64 Lib.pow10Tab)] W:=h1;intro x hx;have hx:x=(0,CY):=by simpa [Vm.tab] using hx
 subst hx;have hg:prog.globalNamed "internal/strconv.uint64pow10" = some 0:=by kernel_rfl
 have ht:=Lib.tabIs_of_head (rest:=[]) hg (by kernel_rfl:(prog.globals[0]?).map (·.type)=some 343) underlying343 underlying254 (by kernel_rfl) (by kernel_rfl) h2;unfold Lib.TabIs World.var? at ht;rw [hg] at ht;dsimp only [Option.bind_some] at ht;refine ⟨fun h=>h,?_⟩;split at ht
 ·rename_i cs T fz he;cases ht;exact ⟨T,fz,he⟩
 ·cases ht
end Go.Sy
