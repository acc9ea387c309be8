/- The coefficients: one of them; the iterator; the first of them.
-/
import Derived.Test.YtdmcadckdnnglaaGreatDoorQc
import Derived.Test.YtdmcadckdnnglaaGreatDoorSf
set_option linter.unusedVariables false
set_option linter.unusedSimpArgs false
namespace Go.Sy
open Go Go.Proofs Go.RowKit Go.Shelf Tryz Ord
theorem sY:aY aF.Sub [.one (.exact (.slice none 0 0)), .one (.bool false), .one (.exact (.slice none 0 0))] ((qC 0).map .one):=⟨iZ.1,iZ.2.1,iZ.2.2.1,trivial⟩
theorem zne {z:Int} (h:z≠0):(z:Rat)≠0:=fun e=>h (by simpa using e)
def pF:Tr:=.ret [(.agg [(U 10 0),(U 10 1),(U 10 2)])]
def oT:Tr:=.need (.call 207 [(.agg [(U 8 0),(U 8 1),(U 8 2)]),(.agg [(U 9 0),(U 9 1),(U 9 2)])] [(some 3)]) (.call ⟨.value (.func 207),#[(.tmp 23),(.tmp 26)],#[39,39]⟩) 39 true pF
def pJ:Tr:=.need (.call 209 [(W 4 0),(W 4 0)] [(some 3)]) (.call ⟨.value (.func 209),#[(.tmp 24),(.tmp 25)],#[3,3]⟩) 39 true oT
def oS:Tr:=.need (.prim [(W 7 0)] (some 3)) (.load 39 (.tmp 22)) 39 false pJ
def pC:Tr:=.need (.prim [(W 1 0),(W 4 0)] none) (.indexAddr 40 (.tmp 20) (.tmp 21)) 0 false oS
def mP:Tr:=.back 1 [(.w (W 38 0)),(.w (W 37 0)),(.w (W 37 1)),(.w (W 37 2))]
def mU:Tr:=.need (.prim [(W 21 0),(WK (1))] none) (.binOp .add 3 (.tmp 46) (.const (I3 (1))) 3) 3 false mP
def nZ:Tr:=.need (.call 167 [(.agg [(U 22 0),(U 23 0),(U 24 0)]),(.agg [(U 36 0),(U 36 1),(U 36 2)])] [(some 3)]) (.call ⟨.value (.func 167),#[(.tmp 58),(.tmp 72)],#[39,39]⟩) 39 true mU
def oA:Tr:=.need (.call 36 [(.agg [(U 33 0),(U 33 1),(U 33 2)]),(.agg [(U 35 0),(U 35 1),(U 35 2)])] [(some 3)]) (.call ⟨.value (.func 36),#[(.tmp 65),(.tmp 71)],#[39,39]⟩) 39 true nZ
def nU:Tr:=.need (.ldrow 2 (.u 34 0) 0 3 true) (.load 39 (.tmp 70)) 39 false oA
def mS:Tr:=.need (.idx 2 (.u 34 0)) (.indexAddr 40 (.tmp 66) (.tmp 69)) 0 false nU
def nJ:Tr:=.need (.prim [(W 4 0),(W 29 0)] none) (.binOp .sub 3 (.tmp 67) (.tmp 68) 3) 3 false mS
def nE:Tr:=.need (.call 36 [(.agg [(U 27 0),(U 27 1),(U 27 2)]),(.agg [(U 32 0),(U 32 1),(U 32 2)])] [(some 3)]) (.call ⟨.value (.func 36),#[(.tmp 59),(.tmp 64)],#[39,39]⟩) 39 false nJ
def nL:Tr:=.need (.call 209 [(W 31 0),(W 8 0)] [(some 3)]) (.call ⟨.value (.func 209),#[(.tmp 62),(.tmp 63)],#[3,3]⟩) 39 false nE
def mV:Tr:=.need (.prim [(W 4 0),(W 29 0)] none) (.binOp .sub 3 (.tmp 60) (.tmp 61) 3) 3 false nL
def nP:Tr:=.back 1 [(.w (W 31 0)),(.w (W 22 0)),(.w (W 23 0)),(.w (W 24 0))]
def nW:Tr:=.need (.prim [(W 21 0),(WK (1))] none) (.binOp .add 3 (.tmp 46) (.const (I3 (1))) 3) 3 false nP
def nV:Tr:=.split (.u 30 0) mV nW
def nN:Tr:=.need (.prim [(W 29 0),(WK (0))] none) (.binOp .gtr 3 (.tmp 56) (.const (I3 (0))) 3) 4 false nV
def oB:Tr:=.need (.prim [(W 28 0),(W 8 0)] none) (.binOp .sub 3 (.tmp 53) (.tmp 54) 3) 3 false nN
def nQ:Tr:=.need (.prim [(W 3 0),(W 21 0)] none) (.binOp .add 3 (.tmp 51) (.tmp 52) 3) 3 false oB
def nR:Tr:=.need (.prim [(W 26 0)] (some 3)) (.load 39 (.tmp 49)) 39 false nQ
def nY:Tr:=.need (.prim [(W 19 0),(W 21 0)] none) (.indexAddr 72 (.tmp 44) (.tmp 46)) 0 false nR
def nB:Tr:=.back 0 [(.w (W 26 0)),(.w (W 22 0)),(.w (W 23 0)),(.w (W 24 0))]
def mR:Tr:=.need (.prim [(W 8 0),(WK (1))] none) (.binOp .add 3 (.tmp 31) (.const (I3 (1))) 3) 3 false nB
def mQ:Tr:=.split (.u 25 0) nY mR
def nS:Tr:=.need (.prim [(W 21 0),(W 20 0)] none) (.binOp .lss 3 (.tmp 46) (.tmp 45) 3) 0 false mQ
def mW:Tr:=.loop 1 [(.w (WK (0))),(.w (W 9 0)),(.w (W 10 0)),(.w (W 11 0))] nS
def nA:Tr:=.need (.prim [(W 19 0)] none) (.call ⟨.builtin .len,#[(.tmp 44)],#[72]⟩) 3 false mW
def mZ:Tr:=.need (.prim [(W 14 0),(W 18 0)] none) (.slice 72 (.tmp 36) none (some (.tmp 43)) none) 72 false nA
def nK:Tr:=.need (.prim [(W 15 0),(W 17 0)] none) (.call ⟨.builtin .min,#[(.tmp 38),(.tmp 42)],#[3,3]⟩) 3 false mZ
def oC:Tr:=.need (.prim [(W 16 0),(WK (1))] none) (.binOp .add 3 (.tmp 41) (.const (I3 (1))) 3) 3 false nK
def nD:Tr:=.need (.prim [(W 4 0),(W 3 0)] none) (.binOp .sub 3 (.tmp 39) (.tmp 40) 3) 3 false oC
def mO:Tr:=.need (.prim [(W 14 0)] none) (.call ⟨.builtin .len,#[(.tmp 37)],#[72]⟩) 3 false nD
def mN:Tr:=.need (.prim [(W 13 0)] none) (.load 72 (.tmp 34)) 72 false mO
def nX:Tr:=.need (.prim [(W 0 0),(W 8 0)] none) (.indexAddr 31 (.tmp 29) (.tmp 31)) 0 false mN
def mX:Tr:=.ret [(.agg [(U 15 0),(U 15 1),(U 15 2)])]
def nH:Tr:=.need (.call 207 [(.agg [(U 9 0),(U 10 0),(U 11 0)]),(.agg [(U 14 0),(U 14 1),(U 14 2)])] [(some 3)]) (.call ⟨.value (.func 207),#[(.tmp 76),(.tmp 82)],#[39,39]⟩) 39 true mX
def nG:Tr:=.need (.call 36 [(.agg [(U 0 2),(U 0 3),(U 0 4)]),(.agg [(U 13 0),(U 13 1),(U 13 2)])] [(some 3)]) (.call ⟨.value (.func 36),#[(.tmp 78),(.tmp 81)],#[39,39]⟩) 39 true nH
def nO:Tr:=.need (.call 209 [(W 4 0),(W 3 0)] [(some 3)]) (.call ⟨.value (.func 209),#[(.tmp 79),(.tmp 80)],#[3,3]⟩) 39 false nG
def nM:Tr:=.split (.u 12 0) nX nO
def pG:Tr:=.need (.prim [(W 8 0),(W 7 0)] none) (.binOp .lss 3 (.tmp 31) (.tmp 30) 3) 0 false nM
def pD:Tr:=.loop 0 [(.w (WK (0))),(.w (.one (.c (.k (.slice none 0 0))))),(.w (.one (.c (.k (.bool false))))),(.w (.one (.c (.k (.slice none 0 0)))))] pG
def pI:Tr:=.need (.prim [(W 0 0)] none) (.call ⟨.builtin .len,#[(.tmp 29)],#[31]⟩) 3 false pD
def pK:Tr:=.split (.u 6 0) pC pI
def hJ:Tr:=.need (.prim [(W 4 0),(W 3 0)] none) (.binOp .lss 3 (.tmp 17) (.tmp 18) 3) 4 false pK
theorem qY:Tm prog f247 39=hJ:=by kernel_rfl
set_option maxHeartbeats 1000000 in
theorem al6 (q:List (List Rat)) (m:Nat) (lead:Rat) (y:List Rat) (n N B:Nat) (f0:Value) (C:fU B q m lead y N) (hn:n<N) (hN:N≤1073741824) (hm:m≤64) (hmN:m≤N) (hB:B≤8589934592) (h64:64≤B) (hql:q.length=m+1) (hyl:y.length=m) (hp:∀ p∈q,p.length<1099511627776) (hl0:lead≠0) :
  vc prog (fun o=>o = .ret [qT (gN q m lead y n (aV q m lead y n))]) hJ [.agg ([eQ q, .int .i64 m]++qC lead), .agg [sQ y], .rows (rQ (aV q m lead y n)), .one (.int .i64 m), .one (.int .i64 n), .one (.exact f0)] []:=by
 obtain ⟨a,ha⟩:∃ a,aV q m lead y n=a:=⟨_,rfl⟩
 have hal:a.length=n:=by rw [←ha,bM]
 have hfa:∀ x∈a,Fit B x:=fun x hx=>by
  rw [←ha] at hx;obtain ⟨j,hj⟩:=List.mem_iff_getElem?.1 hx;have hjn:j<n:=by have:=(List.getElem?_eq_some_iff.1 hj).1;rw [bM] at this;exact this
  have h1:=Hr q m lead y (k:=j+1) (n:=n) (by omega);have h2:(aV q m lead y (j+1))[j]? = some x:=by rw [←h1,List.getElem?_take,if_pos (by omega),hj]
  rw [aV,List.getElem?_append_right (by rw [bM];exact Nat.le_refl _),bM,Nat.sub_self] at h2;simp only [List.getElem?_cons_zero,Option.some.injEq] at h2;rw [←h2];exact C.fa j (by omega)
 have hfx:=C.fx n;rw [ha] at hfx ⊢;dsimp only [aB,aA];refine vn bB rfl ?_;dsimp only [aB,aA];refine vs _ rfl (fun h1=>?_) (fun h1=>?_)
 ·refine vn (aW CJ (by omega) (Int.toNat_natCast n) (cW (l:=y) (show n<y.length by omega))) rfl ?_;dsimp only [aB,aA];refine vn (bO sS (by decide) (by simp) (.inl rfl)) rfl ?_;dsimp only [aB,aA];refine aC (mB (n:Int) n B (by omega) (by omega) (by omega) (by omega) h64 (fun j hj=>C.ffac n (by omega) j hj)) rfl ?_;dsimp only [aB,aA];refine aC (qN (y.getD n 0) ((bG n n:Int):Rat) B B (zne (mC (Int.le_refl _))) (kH (by omega) C.fy n) (C.ffac n (by omega) n (Nat.le_refl _)) (by omega)) rfl ?_;dsimp only [aB,aA];show Out.ret _=Out.ret _;rw [gN,if_pos (show n<m by omega)];rfl
 refine vn (aP Kb (List.length_map _)) rfl ?_;dsimp only [aB,aA];have hmn:m≤n:=by omega
 refine bC {i:Nat // i≤q.length} (fun g=>(.one (.int .i64 g.1):aF)::(qC (outer q a m n g.1)).map .one) (fun g=>q.length-g.1) ⟨0,Nat.zero_le _⟩ ⟨aF.Sub.same,sY⟩ (fun _=>rfl) ?_;rintro ⟨i,hi⟩;dsimp only [aB,aA,List.map] at hi ⊢;refine vn bB rfl ?_;dsimp only [aB,aA];refine vs _ rfl (fun h10=>?_) (fun h10=>?_)
 ·obtain ⟨p,hpi⟩:∃ p,q[i]? = some p:=⟨_,List.getElem?_eq_getElem (by omega)⟩
  have hgd:q.getD i []=p:=by rw [List.getD_eq_getElem?_getD,hpi];rfl
  have hpl:=hp p (List.mem_of_getElem? hpi);have hfp:=C.fq p (List.mem_of_getElem? hpi);have hfx:=fun k=>hfx i k hn hmn (by omega);rw [hgd] at hfx;obtain ⟨t,ht⟩:∃ t,min p.length (n-m+1)=t:=⟨_,rfl⟩
  rw [ht] at hfx;have htl:(p.take t).length=t:=by rw [List.length_take];omega
  refine vn (aW Kb (by omega) (by omega) hpi) rfl ?_;dsimp only [aB,aA];refine vn (bF JE) rfl ?_;dsimp only [aB,aA];refine vn (aP jF (List.length_map _)) rfl ?_;dsimp only [aB,aA];refine vn (aG (by omega) (by omega)) rfl ?_;dsimp only [aB,aA];refine vn (aE (by omega) (by omega)) rfl ?_;dsimp only [aB,aA];refine vn (Si (k:=.i64) (a:=(p.length:Int)) (b:=(n:Int)-(m:Int)+1)) rfl ?_;rw [show min (p.length:Int) ((n:Int)-(m:Int)+1)=(t:Int) by omega];dsimp only [aB,aA];refine vn (vT jF (m:=t) (by omega) (by omega) (by omega)) rfl ?_;dsimp only [aB,aA];refine vn (aP jF (show (rQ (p.take t)).length=t by rw [List.length_map,htl])) rfl ?_;dsimp only [aB,aA];refine bC {k:Nat // k≤t} (fun g=>(.one (.int .i64 g.1):aF)::(qC (inner p a m n i (outer q a m n i) g.1)).map .one) (fun g=>t-g.1) ⟨0,Nat.zero_le _⟩ aO.rfl (fun _=>rfl) ?_;rintro ⟨k,hk⟩;dsimp only [aB,aA,List.map] at hk ⊢;refine vn bB rfl ?_;dsimp only [aB,aA];refine vs _ rfl (fun h21=>?_) (fun h21=>?_)
  ·have hkt:k<t:=by omega
   have hget:(p.take t)[k]? = some (p.getD k 0):=by rw [List.getElem?_take,if_pos hkt];exact cW (by omega)
   refine vn (aW jF (by omega) (by omega) hget) rfl ?_;dsimp only [aB,aA];refine vn (bO sS (by decide) (by simp) (.inl rfl)) rfl ?_;dsimp only [aB,aA];refine vn (aE (by omega) (by omega)) rfl ?_;dsimp only [aB,aA];refine vn (aG (by omega) (by omega)) rfl ?_;dsimp only [aB,aA];refine vn dB rfl ?_;dsimp only [aB,aA];refine vs _ rfl (fun h27=>?_) (fun h27=>?_)
   ·have hj:i<m+k:=by omega
    have hz1:((n:Int)-((m:Int)+k-i)).natAbs≤N:=by omega
    have hz3:(n:Int)-((m:Int)+k-i)<n:=by omega
    obtain ⟨d,hd⟩:∃ d:Nat,n-(m+k-i)=d:=⟨_,rfl⟩
    have hdi:(n:Int)-((m:Int)+k-i)=(d:Int):=by omega
    have hdn:d<n:=by omega
    have hcf:∀ j≤i,Fit B ((bG ((n:Int)-((m:Int)+k-i)) j:Int):Rat):=fun j hj=>C.ffall n i hn (by omega) _ hz1 j hj;have hc:=hfp (p.getD k 0) (List.mem_of_getElem? (cW (l:=p) (by omega)));refine vn (aG (by omega) (by omega)) rfl ?_;dsimp only [aB,aA];refine aC (mB _ i B (by omega) (by omega) (by omega) (by omega) h64 hcf) rfl ?_;dsimp only [aB,aA];refine aC (dF _ _ B B hc (hcf i (Nat.le_refl _)) (by omega)) rfl ?_;dsimp only [aB,aA];refine vn (aG (by omega) (by omega)) rfl ?_;dsimp only [aB,aA];refine cV rfl rfl (by omega) (by omega) ?_;refine NH (d:=a.getD d 0) rfl rfl (by omega) (show ((n:Int)-((m:Int)+k-i)).toNat=d by omega) (cW (l:=a) (by omega)) (.inl rfl) rfl ?_;dsimp only [aB,aA,Mi,List.drop,List.take];refine aC (dF _ _ (B+B) B (hc.mul (hcf i (Nat.le_refl _))) (kH (by omega) hfa d) (by omega)) rfl ?_;dsimp only [aB,aA];refine aC (Ue _ _ B (B+B+B) (hfx k (by omega)) ((hc.mul (hcf i (Nat.le_refl _))).mul (kH (by omega) hfa d)) (by omega)) rfl ?_;dsimp only [aB,aA];refine vn (aE (by omega) (by omega)) rfl ?_;dsimp only [aB,aA]
    exact aR rfl ⟨⟨k+1,by omega⟩,(by
     dsimp only;rw [inner,if_pos hj,hd];exact aO.rfl),by show t-(k+1)<t-k;omega⟩
   refine vn (aE (by omega) (by omega)) rfl ?_;dsimp only [aB,aA]
   exact aR rfl ⟨⟨k+1,by omega⟩,(by
    dsimp only;rw [inner,if_neg (by omega)];exact aO.rfl),by show t-(k+1)<t-k;omega⟩
  refine vn (aE (by omega) (by omega)) rfl ?_;dsimp only [aB,aA]
  exact aR rfl ⟨⟨i+1,by omega⟩,(by
   dsimp only;rw [outer,hgd,ht,show t=k by omega];exact aO.rfl),by show q.length-(i+1)<q.length-i;omega⟩
 have hiq:q.length=i:=by omega
 have hfx':Fit B (outer q a m n i):=by
  have:=hfx m (min (q.getD m []).length (n-m+1)) hn hmn (by omega) (Nat.le_refl _);rw [show i=m+1 by omega];exact this
 have hfm:=fun j hj=>C.ffall n m hn (Nat.le_refl _) n (by omega) j hj;refine aC (mB (n:Int) m B (by omega) (by omega) (by omega) (by omega) h64 hfm) rfl ?_;dsimp only [aB,aA];refine aC (dF lead _ B B C.flead (hfm m (Nat.le_refl _)) (by omega)) rfl ?_;dsimp only [aB,aA]
 refine aC (qN _ _ B (B+B) (fun h=>by
  rcases Rat.mul_eq_zero.1 h with h | h
  ·exact hl0 h
  ·exact zne (mC (z:=(n:Int)) (i:=m) (by omega)) h) hfx' (C.flead.mul (hfm m (Nat.le_refl _))) (by omega)) rfl ?_
 dsimp only [aB,aA];show Out.ret _=Out.ret _;rw [gN,if_neg (by omega),hiq];rfl
end Go.Sy
