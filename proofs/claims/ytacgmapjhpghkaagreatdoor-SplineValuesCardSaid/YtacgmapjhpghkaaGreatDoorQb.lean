/- Part. -/
import Derived.Test.YtacgmapjhpghkaaGreatDoorQa
set_option linter.all false
namespace Go.Sy
open Go Go.Proofs Tryz Ord
def ay3:Tr:=aU 79 [(W 0 0),(G3 2)] [(some 3)] [7,8] [98,46] 46 false (aU 79 [(W 1 0),(G3 2)] [(some 3)] [10,11] [98,46] 46 false (aU 67 [(G3 3),(G3 4)] [none] [9,12] [46,46] 3 true (bB .eql 3 13 0 5 0 4 (.ret [(W 6 0)]))))
theorem UB:aM prog f183 (fun _=>none) [.v none, .v none, .v (some 3)]=ay3:=by kernel_rfl
def aI1:Tr:=dN 0 0 3 0 28 26 27 (dA 11 0 (some 3) 46 28 (.need (.callv (.u 1 0) [(W 8 0),(W 10 0),(.agg [(U 12 0),(U 12 1),(U 12 2)])] [none]) (.call ⟨.value (tT 13),#[(tT 19),(tT 24),(tT 29)],#[98,98,46]⟩) 4 true (.need (.prim [(W 13 0)] none) (.unOp .not 4 (tT 30)) 4 false (.split (.u 14 0) (.ret [(tF false)]) (bB .add 3 11 1 3 0 3 (.back 0 [lV 2 0,lV 15 0]))))))
def aX3:Tr:=cE .lss 3 6 9 3 0 4 0 4 (.split (.u 5 0) (bB .sub 3 16 1 3 0 3 (dN 0 1 6 0 29 15 17 (dA 7 0 none 98 18 (dN 0 1 3 0 29 21 22 (dA 9 0 none 98 23 aI1))))) (.ret [(tF true)]))
def aU7:Tr:=.loop 0 [(.w (.one (.c (.k (.bool false))))),lK 1] (cL 0 1 8 29 aX3)
theorem HK:aM prog f182 (fun _=>none) [.v (some 2), .v none]=aU7:=by kernel_rfl
def XA:Tr:=.ret [(W 8 0)]
def RX:Tr:=.ret [(WK 40)]
def aK1:Tr:=.split (.u 5 0) (.need (.call 182 [(.agg [(U 3 0),(U 4 0)]),(.one (.fM 183 []))] [none]) (.call ⟨.value (.func 182),#[(tT 7),(.func 183)],#[31,224]⟩) 4 true (.need (.prim [(W 6 0)] none) (.unOp .not 4 (tT 8)) 4 false (.split (.u 7 0) (bB .sub 3 10 1 2 0 3 XA) (aU 80 [(.agg [(U 3 0),(U 4 0)])] [(some 2)] [12] [31] 31 true (bB .add 3 4 1 2 0 3 (.back 0 [lV 1 0,lV 9 0,lV 8 0,lV 8 1])))))) RX
def aV5:Tr:=.loop 0 [lK 0,lK 0,lV 0 0,lV 0 1] (bB .lss 3 4 41 2 0 4 aK1)
theorem Vw:aM prog f87 (fun _=>none) [.v (some 2)]=aV5:=by kernel_rfl
def ax2:Tr:=aU 22 [(G2 0)] [none] [5] [31] 54 true (bB .neq 54 7 0 1 0 4 (.split (.u 2 0) (.ret [(WK 0),(W 1 0)]) (aU 87 [(G2 0)] [none] [10] [31] 3 true (.ret [(W 3 0),(WK 0)]))))
theorem OL:aM prog f19 (fun _=>none) [.v (some 2)]=ax2:=by kernel_rfl
def pX (A:Nat) (ps:List (List Rat)):Prop:=∀ p∈ps,p.length≤100∧∀ a∈p,Fit A a
theorem pX.dv {A:Nat} {ps:List (List Rat)} (hA:1≤A) (h:pX A ps):pX (A+12) (pI ps):=fun p hp=>by
 obtain ⟨q,hq,rfl⟩:=eB.1 hp;have h1:=h q hq;have h2:=KJ q;exact ⟨by omega,al5 hA h1.2⟩
theorem fY {ps:List (List Rat)} {i:Nat} (h:i<ps.length:=by omega):ps.getD i []∈ps:=by
 rw [fC,bI h];exact List.getElem_mem h
theorem uR {ps:List (List Rat)} {i:Nat} (h:i<ps.length):ps[i]? = some (ps.getD i []):=by
 rw [fC,bI h];rfl
theorem PH {p:List Rat} {A:Nat} (hl:p.length≤100) (hA:A≤100000):p.length*(2*A+2)+2*A+2≤100*(2*A+2)+2*A+2:=by
 have:=Nat.mul_le_mul_right (2*A+2) hl;omega
theorem LQ {p:List Rat} {A:Nat} {x:Rat} (hl:p.length≤100) (hp:∀ a∈p,Fit A a) (hx:Fit A x) (hA:1≤A:=by omega):Fit (100*(2*A+1)+1) (dL p x):=by
 have h:=iX hA hx p hp;have:=Nat.mul_le_mul_right (2*A+1) hl;exact h.mono (by omega)
def zD (l r:List Rat) (x:Rat):Bool:=decide (dL l x=dL r x)
theorem TU (l r:List Rat) (x:Rat) (A:Nat) (hl:l.length≤100∧∀ a∈l,Fit A a) (hr:r.length≤100∧∀ a∈r,Fit A a) (hx:Fit A x) (hA1:1≤A:=by omega) (hA:A≤100000:=by omega):aN prog 183 [(.one (sQ l):aK),(.one (sQ r):aK),(qT x:aK)] (.ret [.one (.bool (zD l r x))]):=by
 refine cW func183 UB ?_;have e1:=PH hl.1 hA;have e2:=PH hr.1 hA;apply aA (pF l x A hl.2 hx hA1) rfl;apply aA (pF r x A hr.2 hx hA1) rfl;apply aA (iB _ _ _ _ (LQ hl.1 hl.2 hx hA1) (LQ hr.1 hr.2 hx hA1)) rfl;apply vn cB rfl;dsimp only [aC,aD];rw [zD,show decide (dL l x=dL r x)=decide (fL (dL l x) (dL r x)=0) by rw [decide_eq_decide];exact nJ.symm];exact aJ rfl
def ZO (c:List Rat→List Rat→Rat→Bool) (ks:List Rat) (ps:List (List Rat)):Bool:=(List.range (ps.length-1)).all fun j=>c (ps.getD j []) (ps.getD (j+1) []) (ks.getD (j+1) 0)
theorem PK {c:List Rat→List Rat→Rat→Bool} {ks:List Rat} {ps:List (List Rat)} (h:∀ j,j+1<ps.length→c (ps.getD j []) (ps.getD (j+1) []) (ks.getD (j+1) 0)=true):ZO c ks ps=true:=by
 rw [ZO,List.all_eq_true];intro j hj;exact h j (by have:=List.mem_range.1 hj;omega)
theorem Kb {c:List Rat→List Rat→Rat→Bool} {ks:List Rat} {ps:List (List Rat)} (j:Nat) (h:c (ps.getD j []) (ps.getD (j+1) []) (ks.getD (j+1) 0)=false) (hj:j+1<ps.length:=by omega):ZO c ks ps=false:=by
 cases hr:ZO c ks ps with
 | false=>rfl
 | true=>
   rw [ZO,List.all_eq_true] at hr;rw [hr j (List.mem_range.2 (by omega))] at h;cases h
theorem Hb (ks:List Rat) (ps:List (List Rat)) (g:Nat) (c:List Rat→List Rat→Rat→Bool) (hl2:ks.length<1099511627776) (hg:∀ i,i+1<ps.length→aN prog g [.one (sQ (ps.getD i [])), .one (sQ (ps.getD (i+1) [])),qT (ks.getD (i+1) 0)] (.ret [.one (.bool (c (ps.getD i []) (ps.getD (i+1) []) (ks.getD (i+1) 0)))])) (hl:ps.length≤ks.length:=by omega):aN prog 182 [(.agg [sQ ks,eQ ps]:aK),(.one (.fM g []):aK)] (.ret [.one (.bool (ZO c ks ps))]):=by
 refine cW func182 HK ?_;refine bJ {i:Nat // i≤ps.length-1∧∀ j,j<i→c (ps.getD j []) (ps.getD (j+1) []) (ks.getD (j+1) 0)=true} (fun g=>[.one (.bool false), .one (.int .i64 ((g.1:Int)+1))]) (fun g=>ps.length-1-g.1) ⟨0,cM _,fun j hj=>absurd hj (by omega)⟩ aO.rfl (fun _=>rfl) ?_;rintro ⟨i,hi,hb⟩;dsimp only [aC,aD] at hi hb ⊢;apply vn (aL jT (aH _)) rfl;apply vn bF rfl;refine vs _ rfl ?_ ?_<;>intro h3
 ·apply vn (aI (by omega) (by omega)) rfl;dsimp only [aC,aD];apply vn (aG jT (m:=i) (by omega) (by omega) (uR (show i<ps.length by omega))) rfl;apply vn (bD AA) rfl;dsimp only [aC,aD];apply vn (aG jT (m:=i+1) (by omega) (by omega) (uR (show i+1<ps.length by omega))) rfl;apply vn (bD AA) rfl;dsimp only [aC,aD];apply vn (aG bP (m:=i+1) (by omega) (by omega) (aQ (show i+1<ks.length by omega))) rfl;apply vn (aR cK (by decide) (by simp) (.inl rfl)) rfl;apply rG (f:=g) (caps:=[]) rfl (hg i (by omega)) rfl;apply vn eS rfl;dsimp only [aC,aD];refine kG (!c (ps.getD i []) (ps.getD (i+1) []) (ks.getD (i+1) 0)) rfl (fun h13=>?_) (fun h13=>?_)
  ·rw [Kb i (by simpa using h13)];exact aJ rfl
  apply vn (aB (by omega) (by omega)) rfl
  exact aY rfl ⟨⟨i+1,by omega,fun j hj=>by
   rcases Nat.lt_or_ge j i with h | h
   ·exact hb j h
   ·obtain rfl:j=i:=by omega
    simpa using h13⟩,aO.rfl,by show ps.length-1-(i+1)<ps.length-1-i;omega⟩
 rw [PK fun j hj=>hb j (by omega)];exact aJ rfl
def Uo (ps:List (List Rat)):Nat→List (List Rat)
 | 0=>ps
 | c+1=>pI (Uo ps c)
def Af (ks:List Rat) (ps:List (List Rat)):Nat→Nat→Int
 | 0,_=>40
 | f+1,c=>if ZO zD ks (Uo ps c) then Af ks ps f (c+1) else (c:Int)-1
theorem Mc (ps:List (List Rat)):∀ c,(Uo ps c).length=ps.length
 | 0=>rfl
 | c+1=>by rw [Uo,aH,Mc ps c]
theorem xR {A:Nat} {ps:List (List Rat)} (hA:1≤A) (h:pX A ps):∀ c,pX (A+12*c) (Uo ps c)
 | 0=>h
 | c+1=>by
   have:=(xR hA h c).dv (by omega)
   rwa [show A+12*(c+1)=A+12*c+12 by omega]
theorem XW (ks:List Rat) (ps:List (List Rat)) (A:Nat) (hA1:1≤A) (hA:A≤50000) (hl:ps.length≤ks.length) (hl2:ks.length<1099511627776) (hk:∀ a∈ks,Fit A a) (hp:pX A ps):aN prog 87 [(.agg [sQ ks,eQ ps]:aK)] (.ret [.one (.int .i64 (Af ks ps 41 0))]):=by
 refine cW func87 Vw ?_;refine bJ {c:Nat // c≤41∧Af ks ps 41 0=Af ks ps (41-c) c} (fun g=>[.one (.int .i64 0), .one (.int .i64 (g.1:Int)), .one (sQ ks), .one (eQ (Uo ps g.1))]) (fun g=>41-g.1) ⟨0,by omega,rfl⟩ aO.rfl (fun _=>rfl) ?_;rintro ⟨c,hc,ho⟩;have hs:=xR hA1 hp c;have hn:=Mc ps c;dsimp only [aC,aD] at hc ho ⊢;apply vn bF rfl;refine vs _ rfl ?_ ?_<;>intro h2
 ·apply aA (Hb ks (Uo ps c) 183 zD hl2 (fun i hi=>TU _ _ _ (A+12*c) (hs _ (fY)) (hs _ (fY)) ((aF hk _ hA1).mono (by omega)))) rfl;apply vn eS rfl;refine kG (!ZO zD ks (Uo ps c)) rfl (fun h5=>?_) (fun h5=>?_)
  ·apply vn (aI (by omega) (by omega)) rfl;dsimp only [aC,aD];rw [ho,show 41-c=(40-c)+1 by omega,Af,if_neg (by simpa using h5)];exact aJ rfl
  apply aA (sE ks (Uo ps c) (A+12*c) (by omega) (fun p h=>⟨by have:=(hs p h).1;omega,(hs p h).2⟩) (by omega) hl2) rfl;apply vn (aB (by omega) (by omega)) rfl;dsimp only [aC,aD];exact aY rfl ⟨⟨c+1,by omega,by rw [ho,show 41-c=(41-(c+1))+1 by omega,Af,if_pos (by simpa using h5)]⟩,aO.rfl,by show 41-(c+1)<41-c;omega⟩
 rw [ho,show 41-c=0 by omega];exact aJ rfl
open Go Go.Proofs Tryz Ord
def ad6:Tr:=dA 18 0 (some 4) 51 36 (aU 97 [(W 17 0),(G4 19)] [(some 4)] [32,37] [102,51] 51 false (aU 41 [(G4 15),(G4 20)] [none] [27,38] [51,51] 3 true (bB .neq 3 39 0 21 0 4 (.split (.u 22 0) (bB .sub 3 41 1 2 0 3 (.ret [(W 23 0)])) (bB .add 3 14 1 7 0 3 (.back 1 [lV 6 0,lV 23 0]))))))
def aL7:Tr:=dA 11 0 none 102 20 (dN 3 0 7 0 32 23 24 (dA 13 0 (some 4) 51 25 (aU 97 [(W 12 0),(G4 14)] [(some 4)] [21,26] [102,51] 51 false (dN 4 0 7 0 33 29 30 (dA 16 0 none 102 31 (dN 3 0 7 0 32 34 35 ad6))))))
def aY2:Tr:=.loop 1 [lV 1 0,lK 1] (cL 4 0 11 33 (cE .lss 3 9 12 7 0 8 0 4 (.split (.u 9 0) (bB .sub 3 18 1 7 0 3 (dN 4 0 10 0 33 17 19 aL7)) (aU 26 [(.agg [(U 3 0),(U 4 0)])] [(some 2)] [43] [35] 35 true (bB .add 3 7 1 2 0 3 (.back 0 [lV 6 0,lV 11 0,lV 10 0,lV 10 1]))))))
def aK6:Tr:=.loop 0 [lK 0,lK 0,lV 0 0,lV 0 1] (bB .leq 3 5 40 2 0 4 (.split (.u 5 0) aY2 RX))
theorem Zx:aM prog f28 (fun _=>none) [.v (some 2)]=aK6:=by kernel_rfl
theorem pX.r {A:Nat} {pr:List (List RQ)} (h:pX A (fH pr)) {p:List RQ} (hp:p∈pr):p.length≤100∧∀ a∈p,Fit A a.q:=by
 have h1:=h (p.map RQ.q) (List.mem_map_of_mem hp);rw [aH] at h1;exact ⟨h1.1,fun a ha=>h1.2 _ (List.mem_map_of_mem ha)⟩
def FN (pr:List (List RQ)):List (List RQ):=pr.map fun p=>eH ((List.range (p.length-1)).map (LU p))
def sZ (pr:List (List RQ)):Nat→List (List RQ)
 | 0=>pr
 | c+1=>FN (sZ pr c)
theorem wS (pr:List (List RQ)):∀ c,fH (sZ pr c)=Uo (fH pr) c
 | 0=>rfl
 | c+1=>by rw [sZ,FN,sK,wS pr c,Uo]
theorem Xx (pr:List (List RQ)) (c:Nat):(sZ pr c).length=pr.length:=by rw [←fE,wS,Mc,fE]
theorem wI {pr:List (List RQ)} {i:Nat} {p:List RQ} (h:pr[i]? = some p):(fH pr).getD i []=p.map RQ.q:=by rw [fC,vU h];rfl
theorem lG {kr:List RQ} {i:Nat} {a:RQ} (h:kr[i]? = some a):(kr.map RQ.q).getD i 0=a.q:=by rw [←pH,rD h]
set_option maxHeartbeats 1000000 in
theorem WO (kr:List RQ) (pr:List (List RQ)) (A:Nat) (hk:∀ a∈kr,Fit A a.q) (hp:pX A (fH pr)) (hA1:1≤A:=by omega) (hA:A≤50000:=by omega) (hl:pr.length≤kr.length:=by omega) (hl2:kr.length<1099511627776:=by omega):aN prog 28 [(.agg [sR kr,eR pr]:aK)] (.ret [.one (.int .i64 (Af (kr.map RQ.q) (fH pr) 41 0))]):=by
 refine cW func28 Zx ?_;refine bJ {c:Nat // c≤41∧Af (kr.map RQ.q) (fH pr) 41 0=Af (kr.map RQ.q) (fH pr) (41-c) c} (fun g=>[.one (.int .i64 0), .one (.int .i64 (g.1:Int)), .one (sR kr), .one (eR (sZ pr g.1))]) (fun g=>41-g.1) ⟨0,by omega,rfl⟩ aO.rfl (fun _=>rfl) ?_;rintro ⟨c,hc,ho⟩;have hs:pX (A+12*c) (fH (sZ pr c)):=by rw [wS];exact xR hA1 hp c
 have hm:=wS pr c;have hn:=Xx pr c;have hne:=fE (sZ pr c);dsimp only [aC,aD] at hc ho ⊢;apply vn iZ rfl;refine vs _ rfl ?_ ?_<;>intro h2
 ·refine bJ {i:Nat // i≤(sZ pr c).length-1∧∀ j,j<i→zD ((fH (sZ pr c)).getD j []) ((fH (sZ pr c)).getD (j+1) []) ((kr.map RQ.q).getD (j+1) 0)=true} (fun g=>[.one (.int .i64 0), .one (.int .i64 ((g.1:Int)+1))]) (fun g=>(sZ pr c).length-1-g.1) ⟨0,cM _,fun j hj=>absurd hj (by omega)⟩ aO.rfl (fun _=>rfl) ?_;rintro ⟨i,hi,hb⟩;dsimp only [aC,aD] at hi hb ⊢;apply vn (aL nP (aH _)) rfl;apply vn bF rfl;refine vs _ rfl ?_ ?_<;>intro h6
  ·apply vn (aI (by omega) (by omega)) rfl;dsimp only [aC,aD];obtain ⟨l,hpl⟩:∃ l,(sZ pr c)[i]? = some l:=⟨_,bI (by omega)⟩
   obtain ⟨r,hpr⟩:∃ r,(sZ pr c)[i+1]? = some r:=⟨_,bI (by omega)⟩
   obtain ⟨x,hx⟩:∃ x,kr[i+1]? = some x:=⟨_,bI (by omega)⟩
   have gl:=wI hpl;have gr:=wI hpr;have gx:=lG hx;have sl:=hs.r (dE hpl);have sr:=hs.r (dE hpr);have fx:Fit (A+12*c) x.q:=(hk x (dE hx)).mono (by omega);have el:l.length*(2*(A+12*c)+2)≤100*(2*(A+12*c)+2):=Nat.mul_le_mul_right _ sl.1;have er:r.length*(2*(A+12*c)+2)≤100*(2*(A+12*c)+2):=Nat.mul_le_mul_right _ sr.1;have fl:Fit (100*(2*(A+12*c)+1)+1) (dL (l.map RQ.q) x.q):=LQ (by rw [aH];exact sl.1) (fun a ha=>by obtain ⟨y,hy,rfl⟩:=eB.1 ha;exact sl.2 y hy) fx;have fr:Fit (100*(2*(A+12*c)+1)+1) (dL (r.map RQ.q) x.q):=LQ (by rw [aH];exact sr.1) (fun a ha=>by obtain ⟨y,hy,rfl⟩:=eB.1 ha;exact sr.2 y hy) fx;apply vn (aG nP (m:=i) (by omega) (by omega) hpl) rfl;apply vn (bD qY) rfl;apply vn (aG pY (m:=i+1) (by omega) (by omega) hx) rfl;apply vn (aR mG (by decide) (by simp) (.inl rfl)) rfl;dsimp only [aC,aD];apply aA (pG l x (A+12*c) sl.2 fx) rfl;apply vn (aG nP (m:=i+1) (by omega) (by omega) hpr) rfl;apply vn (bD qY) rfl;apply vn (aG pY (m:=i+1) (by omega) (by omega) hx) rfl;dsimp only [aC,aD];apply vn (aR mG (by decide) (by simp) (.inl rfl)) rfl;apply aA (pG r x (A+12*c) sr.2 fx) rfl;apply aA (xA (.of (dL (l.map RQ.q) x.q)) (.of (dL (r.map RQ.q) x.q)) _ _ fl fr) rfl;rw [RQ.lW,RQ.lW];apply vn dS rfl;dsimp only [aC,aD];refine vs _ rfl ?_ ?_<;>intro h20
   ·apply vn (aI (by omega) (by omega)) rfl;dsimp only [aC,aD]
    have hno:ZO zD (kr.map RQ.q) (Uo (fH pr) c)=false:=by
     rw [←hm];refine Kb i ?_;rw [gl,gr,gx];exact decide_eq_false (fun e=>h20 (nJ.2 e))
    rw [ho,show 41-c=(40-c)+1 by omega,Af,if_neg (by rw [hno];exact Bool.false_ne_true)];exact aJ rfl
   apply vn (aB (by omega) (by omega)) rfl
   exact aY rfl ⟨⟨i+1,by omega,fun j hj=>by
    rcases Nat.lt_or_ge j i with h | h
    ·exact hb j h
    ·obtain rfl:j=i:=by omega
     rw [gl,gr,gx];exact decide_eq_true (nJ.1 (by omega))⟩,aO.rfl,by show (sZ pr c).length-1-(i+1)<(sZ pr c).length-1-i;omega⟩
  have hyes:ZO zD (kr.map RQ.q) (Uo (fH pr) c)=true:=by
   rw [←hm];exact PK fun j hj=>hb j (by omega)
  apply aA (sL kr (sZ pr c) (A+12*c) (fun p h=>⟨by have:=(hs.r h).1;omega,(hs.r h).2⟩)) rfl;apply vn (aB (by omega) (by omega)) rfl;dsimp only [aC,aD];exact aY rfl ⟨⟨c+1,by omega,by rw [ho,show 41-c=(41-(c+1))+1 by omega,Af,if_pos hyes]⟩,aO.rfl,by show 41-(c+1)<41-c;omega⟩
 rw [ho,show 41-c=0 by omega];exact aJ rfl
open Go Go.Proofs Go.RowKit Go.Shelf Tryz Ord
attribute [local go_sem] Oper.semAt_some
section
variable (M:Nat→Prop) (w:World) (Pq:Rat→Prop)
structure PV where
 q:Rat
 u0:Value
 u1:Value
 u2:Value
 ok:Pq q
 rep:bE M w (qC q) [u0,u1,u2]
end
theorem aD0 {M:Nat→Prop} {w:World} {Pq:Rat→Prop} {v:Value} {ps:List Rat} (h:(sQ ps).rep M w v) (hp:∀ q∈ps,Pq q) :
  ∃ (ts:List (PV M w Pq)) (a:Option Addr) (cap:Nat),v = .slice a ts.length cap∧ts.map PV.q=ps∧Sl3 PV.u0 PV.u1 PV.u2 w.heap.size w v ts:=by
 obtain ⟨a,cap,rfl,hc,hm,hel⟩:=h;have hlen:(rQ ps).length=ps.length:=aH _;rcases hel with h | ⟨b,off,cs,T,fz,rfl,hb,hh,hr⟩
 ·have:ps = []:=by cases ps<;>simp_all [rQ]
  subst this;exact ⟨[],a,cap,rfl,rfl,a,cap,rfl, .inl rfl⟩
 ·obtain ⟨ts,h1,h2⟩:=mL (fun i (x:PV M w Pq)=>ps[i]? = some x.q∧w.cell? ⟨b,off+i*3,none⟩=some x.u0∧w.cell? ⟨b,off+i*3+1,none⟩=some x.u1∧w.cell? ⟨b,off+i*3+2,none⟩=some x.u2) ps.length fun i hi=>by
   obtain ⟨q,hq⟩:∃ q,ps[i]? = some q:=⟨_,bI hi⟩
   obtain ⟨_,hrep⟩:=hr i (qC q) (by rw [rQ,dP,hq];rfl)
   have hat:∀ j,j<3→((cs.toList.drop (off+i*3)).take 3)[j]? = cs[off+i*3+j]?:=fun j hj=>by
    rw [List.getElem?_take,if_pos hj,List.getElem?_drop];simp
   have hl:=hrep.length;generalize hus:(cs.toList.drop (off+i*3)).take 3=us at hrep hl hat
   match us,hrep with
   | [x0,x1,x2],hrep=>
     refine ⟨⟨q,x0,x1,x2,hp q (dE hq),hrep⟩,hq,?_,?_,?_⟩
     ·have h0:=hat 0 (by omega);rw [Nat.add_zero] at h0;exact bK hh (by rw [←h0];rfl)
     ·exact bK hh (by rw [←hat 1 (by omega)];rfl)
     ·exact bK hh (by rw [←hat 2 (by omega)];rfl)
   | [],hrep=>exact hrep.elim
   | [_],hrep=>exact hrep.2.elim
   | [_,_],hrep=>exact hrep.2.2.elim
   | _::_::_::_::_,hrep=>exact hrep.2.2.2.elim
  refine ⟨ts,_,cap,by rw [hlen,h1],?_,_,cap,by rw [hlen,h1], .inr ⟨b,off,rfl,(cU.1 hh).1,fun j v hj=>(h2 j v hj).2⟩⟩;refine List.ext_getElem? fun i=>?_;rw [dP];cases hi:ts[i]? with
  | none=>
    have:=List.getElem?_eq_none_iff.1 hi;rw [List.getElem?_eq_none_iff.2 (by omega)];rfl
  | some x=>rw [(h2 i x hi).1];rfl
def hP {M:Nat→Prop} {w:World} {Pq:Rat→Prop} (f:List Rat→Rat→List Rat) (pre:List (Nat×PV M w Pq)):List Rat:=pre.foldl (fun v c=>f v c.2.q) []
theorem ao7 {M:Nat→Prop} {w:World} {Pq:Rat→Prop} (f:List Rat→Rat→List Rat) (pre:List (Nat×PV M w Pq)) (y:Nat×PV M w Pq):hP f (pre ++ [y])=f (hP f pre) y.2.q:=by simp [hP]
theorem aD4 {M:Nat→Prop} {w:World} {Pq:Rat→Prop} {f:List Rat→Rat→List Rat} {Inv:Nat→List Rat→Prop} (h0:Inv 0 []) (hs:∀ k v c,Inv k v→Pq c→Inv (k+1) (f v c)) (pre:List (Nat×PV M w Pq)):Inv pre.length (hP f pre):=by
 have key:∀ (l:List (Nat×PV M w Pq)) (k:Nat) (v:List Rat),Inv k v→Inv (k+l.length) (l.foldl (fun v c=>f v c.2.q) v):=by
  intro l
  induction l with
  | nil=>intro k v h;exact h
  | cons y l ih=>
    intro k v h;have:=ih (k+1) (f v y.2.q) (hs k v _ h y.2.ok);rw [List.length_cons,show k+(l.length+1)=k+1+l.length by omega];exact this
 have:=key pre 0 [] h0
 rwa [Nat.zero_add] at this
theorem Rn {M:Nat→Prop} {w:World} {c:aE} {vs:List Value} (h:cD M w [.one c] vs):∃ v,pack vs=v∧c.rep M w v:=by
 match vs,h with
 | [v],h=>exact ⟨v,rfl,h.1⟩
 | [],h=>exact h.elim
 | _::_::_,h=>exact h.2.elim
set_option maxRecDepth 100000 in
set_option maxHeartbeats 1000000 in
theorem Qf (M:Nat→Prop) (w:World) (Pq:Rat→Prop) (f:List Rat→Rat→List Rat) (Inv:Nat→List Rat→Prop) (g:FuncId) (caps:List aE) (h0:Inv 0 []) (hinv:∀ k v c,Inv k v→Pq c→Inv (k+1) (f v c))
  (hM:cG M w) [Inhabited (PV M w Pq)] (a:Option Addr) (cap:Nat) (ts:List (PV M w Pq))
  (hstep:∀ k v c,k<ts.length→Inv k v→Pq c→aN prog g (.one (sQ v)::qT c::caps.map .one) (.ret [.one (sQ (f v c))]))
  (hI:Sl3 PV.u0 PV.u1 PV.u2 w.heap.size w (.slice a ts.length cap) ts) (z:Value) (hz:(sQ []).rep M w z) (cvs:List Value) (hcv:bE M w caps cvs) (hlen:ts.length<4611686018427387904:=by omega) :
  CallsIn Fence.wide 1001 prog 249 #[.slice a ts.length cap,z, .func (.func g) #[] cvs.toArray] w fun e W'=>Below w.heap.size w W'∧∃ u,e = .returned u∧(sQ (hP f (bk ts ts.length))).rep M W' u:=by
 refine callsIn_of_wp_marks func249 rfl trivial ?_ rfl;simp only [ntmps249,List.size_toArray,List.length_cons,List.length_nil,Nat.reduceAdd,Nat.reduceSub,Array.replicate_succ,Array.replicate_zero,List.push_toArray,List.append_toArray,List.nil_append,List.cons_append];generalize hL:ts.length=L at hI hlen hstep ⊢;obtain ⟨za,zl,zc,rfl⟩:∃ za zl zc,z = .slice za zl zc:=by obtain ⟨za,zc,e,_⟩:=hz;exact ⟨_,_,_,e⟩
 gi_wp2_with (refine ⟨trivial,?_⟩;gi_at_call 224;refine (PR _ _ _ _ _).mono ?_;rintro e w' ⟨rfl,rfl⟩)
 obtain ⟨n0,hn0⟩:∃ n0,w.heap.size=n0:=⟨_,rfl⟩
 obtain ⟨hM,hMg⟩:=hM;rw [hn0] at hI hM ⊢;obtain ⟨W0,hW0⟩:∃ W0,(((w.alloc (.cells #[.slice za zl zc] 98)).alloc (.cells #[.func (.func g) #[] cvs.toArray] 258)).alloc (.cells #[.slice a L cap] 98))=W0:=⟨_,rfl⟩
 have hs0:W0.heap.size=n0+3:=by rw [←hW0];simp [hn0]
 have hX0:W0.heap[n0]? = some (.cells #[.slice za zl zc] 98 (0,0)):=by rw [←hW0,heap_alloc_old _ _ _ (by simp;omega),heap_alloc_old _ _ _ (by simp;omega),←hn0];exact heap_alloc_new w _
 have hS0:W0.heap[n0+1]? = some (.cells #[.func (.func g) #[] cvs.toArray] 258 (0,0)):=by
  rw [←hW0,heap_alloc_old _ _ _ (by simp;omega)];have:=heap_alloc_new (w.alloc (.cells #[.slice za zl zc] 98)) (.cells #[.func (.func g) #[] cvs.toArray] 258);rw [World.size_alloc,hn0] at this;exact this
 have hP0:W0.heap[n0+2]? = some (.cells #[.slice a L cap] 98 (0,0)):=by
  rw [←hW0];have:=heap_alloc_new ((w.alloc (.cells #[.slice za zl zc] 98)).alloc (.cells #[.func (.func g) #[] cvs.toArray] 258)) (.cells #[.slice a L cap] 98);rw [World.size_alloc,World.size_alloc,hn0] at this;exact this
 have hB0:Below n0 w W0:=by
  rw [←hW0];exact (((Below.refl _ w).alloc (by omega) _).alloc (by simp;omega) _).alloc (by simp;omega) _
 rw [hW0]
 refine wpIn_rangeFunc_ownH (w0:=W0) rfl (by omega) (gf:=246) (lb:=#[.pointer (some ⟨n0+1+1,0,none⟩)]) rfl trivial (enters_of func246 (by kernel_rfl) rfl)
  (zR (e0:=PV.u0) (e1:=PV.u1) (e2:=PV.u2) (n0+2) n0 (.slice a L cap) ts (by omega) W0 (by omega) (by omega) (bK hP0 rfl) (hI.below hB0)) Ot (ON (by omega) (by omega)) (Below.refl _ _) (fun _=>rfl)
  (fun pre W=>Below n0 w W∧n0+3≤W.heap.size∧W.heap[n0+1]? = some (.cells #[.func (.func g) #[] cvs.toArray] 258 (0,0)) ∧
   ∃ ua ul uc,W.heap[n0]? = some (.cells #[.slice ua ul uc] 98 (0,0))∧(sQ (hP f pre)).rep (fun b=>M b∨b=n0) W (.slice ua ul uc))
  (fun _ _ _=>False) ?own (fun _=>by intro s A B row hs;exact hs.elim) ?start
  (fun y a' W=>∃ b,n0+3≤b∧a' = { tmps:=#[.slice a L cap, .slice za zl zc, .func (.func g) #[] cvs.toArray,undef, .pointer (some ⟨n0,0,none⟩), .pointer (some ⟨n0+1,0,none⟩), .slice none 0 0,undef, .pointer (some ⟨b,0,none⟩), .slice a L cap, .func (.func 246) #[] #[.pointer (some ⟨n0+1+1,0,none⟩)], .int .i64 (y.1:Int), .agg #[y.2.u0,y.2.u1,y.2.u2],undef,undef,undef,undef,undef],defers:=[] } ∧ W.heap[b]? = some (.cells #[y.2.u0,y.2.u1,y.2.u2] 46 (0,0)))
  ?ax ?assign ?body ?done ?stop
 case own=>
  rintro s A A' row ⟨h1,h2,h3,ua,ul,uc,h5,h6⟩ hg hr;have hr':∀ r,row=some r→∃ o:Obj,A.heap[r]? = some o∧o.isCells=false:=fun r e=>(hr r e).2;refine ⟨h1.grown hg (by omega) (fun k e=>by have:=(hr k e).1;omega),Nat.le_trans h2 hg.size,eD hg hr' h3 rfl,ua,ul,uc,eD hg hr' h5 rfl,aE.mono _ (fun b o hb ho hc=>⟨hb,eD hg hr' ho hc⟩) h6⟩
 case start=>
  refine ⟨hB0,by omega,hS0,za,zl,zc,hX0,aE.mono _ (fun b o hb ho hc=>?_) hz⟩;have hlt:=(cU.1 ho).1;exact ⟨fun h=>h.elim hb (by omega),(hB0.block b (by omega)).trans ho⟩
 case ax=>
  rintro y a' _ A A' row ⟨b,h1,h2,h3⟩ hg hr;exact ⟨b,h1,h2,eD hg (fun r e=>(hr r e).2) h3 rfl⟩
 case assign=>
  rintro l pre y W K ⟨h1,h2,h3,ua,ul,uc,h5,h6⟩ hK
  gi_wp2
  obtain ⟨o0,o1,o2⟩:y.2.u0.oneCell'=true∧y.2.u1.oneCell'=true∧y.2.u2.oneCell'=true:=by
   have:=y.2.rep.one;exact ⟨this _ (by simp),this _ (by simp),this _ (by simp)⟩
  have hnew:=heap_alloc_new W (.cells #[.slice none 0 0, .bool false, .slice none 0 0] 46);rw [Co hnew o0 o1 o2];obtain ⟨W',hW'⟩:∃ W',(W.alloc (.cells #[.slice none 0 0, .bool false, .slice none 0 0] 46)).setRow W.heap.size #[y.2.u0,y.2.u1,y.2.u2]=W':=⟨_,rfl⟩
  have hold:∀ k,k<W.heap.size→W'.heap[k]? = W.heap[k]?:=fun k hk=>by rw [←hW',setRow_other _ _ _ _ (by omega),heap_alloc_old _ _ _ hk]
  have hself:W'.heap[W.heap.size]? = some (.cells #[y.2.u0,y.2.u1,y.2.u2] 46 (0,0)):=by rw [←hW'];exact setRow_heap _ _ _ _ _ _ hnew
  have hbel:Below W.heap.size W W':=by rw [←hW'];exact below_setRow ((Below.refl _ W).alloc (bA _) _) (bA _) _
  have hlt:∀ {k:Nat} {o:Obj},W.heap[k]? = some o→k<W.heap.size:=fun h=>(cU.1 h).1;rw [hW']
  gi_wp2
  refine hK _ _ ⟨hbel.size,fun k o _ ho _=>(hold k (hlt ho)).trans ho⟩ ⟨hbel.mono (by omega),fun v hv=>?_⟩
   ⟨h1.trans (hbel.mono (by omega)),Nat.le_trans h2 hbel.size,(hold _ (hlt h3)).trans h3,ua,ul,uc,(hold _ (hlt h5)).trans h5,aE.mono _ (fun b o hb ho _=>⟨hb,(hold b (hlt ho)).trans ho⟩) h6⟩
   ⟨W.heap.size,by omega,rfl,hself⟩
  simp only [World.cell?,hold (n0+2) (by omega)] at hv ⊢;exact hv
 case body=>
  rintro l pre y a' W hl _ ⟨h1,h2,h3,ua,ul,uc,h5,h6⟩ ⟨b,hb,rfl,hbc⟩ hlt;have hltW:∀ {k:Nat} {o:Obj},W.heap[k]? = some o→k<W.heap.size:=fun h=>(cU.1 h).1;have c0:W.cell? ⟨n0,0,none⟩=some (.slice ua ul uc):=bK h5 rfl;have cs:W.cell? ⟨n0+1,0,none⟩=some (.func (.func g) #[] cvs.toArray):=bK h3 rfl;have cb0:W.cell? ⟨b,0,none⟩=some y.2.u0:=bK hbc rfl;have cb1:W.cell? ⟨b,1,none⟩=some y.2.u1:=bK hbc rfl;have cb2:W.cell? ⟨b,2,none⟩=some y.2.u2:=bK hbc rfl;have hM1:∀ k,(M k∨k=n0)→k<W.heap.size:=fun k h=>h.elim (fun h=>by have:=hM k h;omega) (fun h=>by omega)
  have hkeep:bO M w (fun b=>M b∨b=n0) W:=fun k o hk ho _=>by
   have hlt:=(cU.1 ho).1;exact ⟨fun h=>h.elim hk (by omega),(h1.block k (by omega)).trans ho⟩
  rw [hL] at hlt;have hdo:=hstep pre.length (hP f pre) y.2.q hlt (aD4 h0 hinv pre) y.2.ok
  have hcall:Calls prog g (Value.slice ua ul uc::Value.agg #[y.2.u0,y.2.u1,y.2.u2]::cvs).toArray W fun e w'=>Below W.heap.size W w'∧∃ va vl vc,e = .returned (.slice va vl vc)∧(sQ (hP f (pre ++ [y]))).rep (fun b=>M b∨b=n0) w' (.slice va vl vc):=by
   have h7:=hdo.2 (fun b=>M b∨b=n0) W (.slice ua ul uc :: .agg #[y.2.u0,y.2.u1,y.2.u2]::cvs) ⟨hM1,hMg.eE hkeep⟩ ⟨h6,⟨[_,_,_],rfl,y.2.rep.mono hkeep⟩,cD.wW (hcv.mono hkeep)⟩;refine h7.mono ?_;rintro e w' ⟨hb',vs,rfl,hvs⟩;rw [ao7];obtain ⟨v,e1,hr⟩:=Rn hvs;have hr':=hr;obtain ⟨va,vc,rfl,_⟩:=hr';exact ⟨hb',va,_,vc,by rw [e1],hr⟩
  have eg:∀ args w,(callFunc g args).run prog w = .ok (.enter g args) w:=hdo.1
  gi_wp2
  refine ⟨trivial,(CallsIn.inRound l (callsIn_wide.2 hcall)).mono ?_⟩;rintro e w' ⟨hbw,va,vl,vc,rfl,hvr⟩;have hbox:w'.heap[n0]? = some (.cells #[.slice ua ul uc] 98 (0,0)):=(hbw.block n0 (hltW h5)).trans h5;have d0:w'.cell? ⟨n0,0,none⟩=some (.slice ua ul uc):=bK hbox rfl;have df:w'.frozen? ⟨n0,0,none⟩=false:=by simp [World.frozen?,hbox]
  gi_wp2
  rw [setCell_eq_setRow w' n0 0 #[.slice ua ul uc] 98 (0,0) (.slice va vl vc) hbox];obtain ⟨W3,hW3⟩:∃ W3,w'.setRow n0 (#[Value.slice ua ul uc].setIfInBounds 0 (.slice va vl vc))=W3:=⟨_,rfl⟩
  have hself:W3.heap[n0]? = some (.cells #[.slice va vl vc] 98 (0,0)):=by rw [←hW3];exact setRow_heap _ _ _ _ _ _ hbox
  have hoth:∀ k,k≠n0→W3.heap[k]? = w'.heap[k]?:=fun k hk=>by rw [←hW3,setRow_other _ _ _ _ hk]
  have hold:∀ {k:Nat} {o:Obj},k≠n0→W.heap[k]? = some o→W3.heap[k]? = some o:=fun hk ho=>(hoth _ hk).trans ((hbw.block _ (hltW ho)).trans ho);have hbel:Below n0 W W3:=by rw [←hW3];exact below_setRow (hbw.mono (by omega)) (bA _) _
  rw [hW3];refine ⟨⟨hbel.size,fun k o hk ho _=>hold (by omega) ho⟩,⟨hbel,fun v hv=>?_⟩,h1.trans hbel,Nat.le_trans h2 hbel.size,hold (by omega) h3,va,vl,vc,hself,aE.mono _ (fun k o hk ho hc=>⟨hk,(hoth k fun e=>hk (.inr e)).trans ho⟩) hvr⟩;simp only [World.cell?,hoth (n0+2) (by omega),hbw.block (n0+2) (by omega)] at hv ⊢;exact hv
 case done=>
  rintro D ys W hD rfl ⟨h1,h2,h3,ua,ul,uc,h5,h6⟩ hK;have c0:W.cell? ⟨n0,0,none⟩=some (.slice ua ul uc):=bK h5 rfl
  gi_wp2
  refine ⟨by simp, .inl ⟨_,_,rfl,run_takeDeferred hK,?_⟩⟩;refine ⟨_,results_tmp rfl _ _ _,?_,⟨_,rfl,by rw [←hL];exact aE.mono _ (fun k o hk ho hc=>⟨fun h=>hk (.inl h),(World.putObj_heap_other (fun e=>by rw [e,hK] at ho;cases ho;cases hc)).trans ho⟩) h6⟩⟩;rw [←hn0] at h1;exact h1.trans (belowK_b (w:=w) (bA _) W D _ _ (by omega) hK rfl rfl)
 case stop=>
  rintro D c pre W hD _ h hK;exact h.elim
theorem bc3 {M:Nat→Prop} {w:World} {Pq:Rat→Prop} [Inhabited (PV M w Pq)] (f:List Rat→Rat→List Rat) (ts:List (PV M w Pq)):hP f (bk ts ts.length)=(ts.map PV.q).foldr (fun c v=>f v c) []:=by
 have h:hP f (bk ts ts.length)=((bk ts ts.length).map Prod.snd).foldl (fun v c=>f v c.q) []:=by rw [hP,List.foldl_map]
 rw [h,VK,List.foldl_reverse,List.foldr_map]
theorem RO (ps:List Rat) (Pq:Rat→Prop) (f:List Rat→Rat→List Rat) (Inv:Nat→List Rat→Prop) (g:FuncId) (caps:List aE) (h0:Inv 0 []) (hinv:∀ k v c,Inv k v→Pq c→Inv (k+1) (f v c))
  (hp:∀ q∈ps,Pq q) (hz:Pq 0) (hlen:ps.length<4611686018427387904)
  (hstep:∀ k v c,k<ps.length→Inv k v→Pq c→aN prog g (.one (sQ v)::qT c::caps.map .one) (.ret [.one (sQ (f v c))])) :
  aN prog 249 [.one (sQ ps), .one (sQ []), .one (.fM g caps)] (.ret [.one (sQ (ps.foldr (fun c v=>f v c) []))]):=by
 refine ⟨bM (by kernel_rfl),fun M w vs hM hv=>?_⟩
 match vs,hv with
 | [v0,v1,v2],⟨k0,k1,⟨fs,k2,hfs⟩,_⟩=>
   obtain ⟨ts,a,cap,rfl,hq,hsl⟩:=aD0 k0 hp
   haveI:Inhabited (PV M w Pq):=⟨⟨0, .slice none 0 0, .bool false, .slice none 0 0,hz,bE.sub gX ⟨⟨rfl,rfl⟩,⟨rfl,rfl⟩,⟨rfl,rfl⟩,trivial⟩⟩⟩
   subst k2;have hl:ps.length=ts.length:=by rw [←hq,aH]
   have h1:=Qf M w Pq f Inv g caps h0 hinv hM a cap ts (by rw [←hl];exact hstep) hsl v1 k1 fs hfs;rw [bc3,hq] at h1;refine ((callsIn_wide (n:=1001)).1 h1).mono ?_;rintro e w' ⟨hb,u,rfl,hr⟩;exact ⟨hb,[u],rfl,hr,trivial⟩
 | [],hv=>exact hv.elim
 | [_],hv=>exact hv.2.elim
 | [_,_],hv=>exact hv.2.2.elim
 | _::_::_::_::_,hv=>exact hv.2.2.2.elim
end Go.Sy
namespace Go.Sy
open Go Go.Proofs Tryz Ord
theorem sO (x:Rat):∀ p:List Rat,ev (trim p) x=ev p x
 | []=>rfl
 | a::p=>by
   have ih:=sO x p;unfold trim at ih ⊢;rw [kN];split
   ·rename_i h;rw [h.1,List.take_zero,fU] at ih;have ha:a=0:=by simpa [zr] using h.2
    rw [List.take_zero,fU,cZ,←ih,ha];grind
   ·rw [List.take_succ_cons,cZ,cZ,ih]
theorem kC:∀ p:List Rat,pR (trim p)
 | []=>fun a h=>by cases h
 | a::p=>by
   have ih:=kC p;unfold trim at ih ⊢;rw [kN];split
   ·intro b hb;cases hb
   ·rename_i h;intro b hb;rw [List.take_succ_cons,List.getLast?_cons] at hb;cases hl:(p.take (kN zr p)).getLast? with
    | some c=>
      rw [hl] at hb;simp only [Option.getD_some,aP] at hb;subst hb;exact ih c hl
    | none=>
      rw [hl] at hb;simp only [Option.getD_none,aP] at hb;subst hb;intro e;refine h ⟨?_,by simp [zr,e]⟩;have h1:=List.getLast?_eq_none_iff.1 hl;have h2:min (kN zr p) p.length=0:=by rw [←List.length_take,h1];rfl
      have:=fT (z:=zr) p;omega
theorem BR (x:Rat):∀ (p:List Rat) (m:Nat),p.length≤m→ev ((List.range m).map fun i=>p.getD i 0) x=ev p x
 | [],m,_=>by
   have:(List.range m).map (fun i=>([]:List Rat).getD i 0)=List.replicate m 0:=by
    apply List.ext_getElem?;intro i;rw [dP,List.getElem?_replicate];by_cases h:i<m
    ·rw [List.getElem?_range h,if_pos h];rfl
    ·rw [if_neg h,List.getElem?_eq_none (by simpa using h)];rfl
   rw [this,Qr,fU]
 | a::p,0,h=>by simp at h
 | a::p,m+1,h=>by
   rw [List.range_succ_eq_map,List.map_cons,cZ,List.map_map,cZ];have:=BR x p m (by simpa using h);rw [←this];rfl
theorem Zg (x:Rat) (f g:Nat→Rat):∀ l:List Nat,ev (l.map fun i=>f i+g i) x=ev (l.map f) x+ev (l.map g) x
 | []=>by simp only [List.map_nil,fU];grind
 | a::l=>by rw [List.map_cons,List.map_cons,List.map_cons,cZ,cZ,cZ,Zg x f g l];grind
theorem AE (x:Rat) (p q:List Rat):ev (qX p q) x=ev p x+ev q x:=by
 rw [qX,sO,Zg,BR x p _ (Nat.le_max_left _ _),BR x q _ (Nat.le_max_right _ _)]
theorem ad1 (x:Rat) (p q:List Rat):ev (jO p q) x=ev p x*ev q x:=by
 unfold jO;split
 ·rename_i h;rcases h with rfl | rfl
  ·rw [fU];grind
  ·rw [fU];grind
 ·rename_i h;have hq:0<q.length:=List.length_pos_iff.2 fun e=>h (.inr e);rw [sO,Sw p q x hq _ (bA _),List.take_length]
theorem Ec (p q:List Rat):pR (qX p q):=kC _
theorem Rf (p q:List Rat):pR (jO p q):=by
 unfold jO;split
 ·intro a h;cases h
 ·exact kC _
theorem nW {p:List Rat} {a:Rat} (h:a∈trim p):a∈p:=List.mem_of_mem_take h
theorem iW (p:List Rat):(trim p).length≤p.length:=by rw [gT];exact fT _
theorem Oo (p q:List Rat):(qX p q).length≤max p.length q.length:=by
 have:=iW ((List.range (max p.length q.length)).map fun i=>p.getD i 0+q.getD i 0);rw [aH,pN] at this;exact this
theorem aj0 {D S T:Nat} (h0:D≠0) {p q:List Rat} (hp:∀ a∈p,Bd D S a) (hq:∀ a∈q,Bd D T a):∀ a∈qX p q,Bd D (S+T) a:=fun a ha=>by
 obtain ⟨i,_,rfl⟩:=eB.1 (nW ha);exact (kW hp i).add h0 (kW hq i)
theorem zH (p q:List Rat):(jO p q).length≤if p = [] then 0 else p.length+q.length-1:=by
 unfold jO;split
 ·simp
 ·rename_i h;rw [if_neg (fun e=>h (.inl e))];have:=iW (mulL p q p.length);rw [gI] at this;exact this
theorem Sp {D E S T:Nat} (h0:D≠0) (h1:E≠0) {p q:List Rat} (hp:∀ a∈p,Bd D S a) (hq:∀ b∈q,Bd E T b):∀ x∈jO p q,Bd (D*E) (p.length*(S*T)) x:=fun x hx=>by
 unfold jO at hx;split at hx
 ·cases hx
 ·exact vP h0 h1 hp hq _ x (nW hx)
def OG (q v:List Rat) (c:Rat):List Rat:=qX (jO v q) (trim [c])
def OJ (p q:List Rat):List Rat:=p.foldr (fun c v=>OG q v c) []
def Ya (D E S T K:Nat) (k:Nat) (v:List Rat):Prop:=k≤K→v.length≤k∧∀ a∈v,Bd (D*E^k) (S*(K*T+1)^k) a
theorem Ub {D E S T K:Nat}:Ya D E S T K 0 []:=fun _=>⟨bA _,fun a h=>by cases h⟩
theorem Rt {E:Nat} (h:E≠0) (k:Nat):E^k≠0:=fun e=>h (Nat.pow_eq_zero.1 e).1
theorem UZ {D E S T K:Nat} (h0:D≠0) (h1:E≠0) {q:List Rat} (hq:∀ b∈q,Bd E T b) (hql:q.length≤2) (k:Nat) (v:List Rat) (c:Rat) (h:Ya D E S T K k v) (hc:Bd D S c):Ya D E S T K (k+1) (OG q v c):=by
 intro hk;obtain ⟨hl,hb⟩:=h (by omega);have hDk:D*E^k≠0:=Nat.mul_ne_zero h0 (Rt h1 k);have hD1:D*E^(k+1)≠0:=Nat.mul_ne_zero h0 (Rt h1 _)
 constructor
 ·have h2:=Oo (jO v q) (trim [c]);have h3:=zH v q;have h4:=iW [c];unfold OG;split at h3<;>simp at h4<;>omega
 ·have h2:=Sp hDk h1 hb hq
  have h3:∀ x∈jO v q,Bd (D*E^(k+1)) (K*T*(S*(K*T+1)^k)) x:=fun x hx=>by
   refine (h2 x hx).mono ⟨1,by rw [Nat.pow_succ,Nat.mul_one,Nat.mul_assoc]⟩ ?_;have:v.length*(S*(K*T+1)^k*T)≤K*(S*(K*T+1)^k*T):=Nat.mul_le_mul_right _ (by omega);refine Nat.le_trans this (Nat.le_of_eq ?_);rw [Nat.mul_comm (S*_) T,Nat.mul_assoc]
  have h4:∀ x∈trim [c],Bd (D*E^(k+1)) (S*(K*T+1)^k) x:=fun x hx=>by
   have:=nW hx;rw [List.mem_singleton] at this;subst this;exact hc.mono (Nat.dvd_mul_right _ _) (Nat.le_mul_of_pos_right _ (Nat.pow_pos (by omega)))
  intro a ha;refine (aj0 hD1 h3 h4 a ha).le (Nat.le_of_eq ?_);rw [Nat.pow_succ];generalize (K*T+1)^k=r;generalize K*T=u
  grind
def Dp (D E S T K:Nat):Nat:=D*E^K*E*((K+1)*((S*(K*T+1)^K+1)*(T+1)))
theorem QX {D E S T K k n:Nat} (h0:D≠0) (h1:E≠0) (hk:k≤K) (hn:n≤K):D*E^k*E*((n+1)*((S*(K*T+1)^k+1)*(T+1)))≤Dp D E S T K:=by
 unfold Dp;refine Nat.mul_le_mul (Nat.mul_le_mul_right _ (Nat.mul_le_mul_left _ (Nat.pow_le_pow_right (by omega) hk))) (Nat.mul_le_mul (by omega) (Nat.mul_le_mul_right _ ?_));have:=Nat.mul_le_mul_left S (Nat.pow_le_pow_right (n:=K*T+1) (by omega) hk);omega
def aC3:Tr:=aU 64 [(W 0 0),(W 2 0)] [none] [6,7] [98,98] 98 false (aU 251 [(G3 1)] [none] [9] [46] 98 true (aU 66 [(W 3 0),(W 4 0)] [none] [8,10] [98,98] 98 true (.ret [(W 5 0)])))
theorem Kt:aM prog f250 (fun _=>none) [.v none, .v (some 3), .ref 1]=aC3:=by kernel_rfl
def YP:Tr:=.ret [(W 2 0)]
def aL3:Tr:=.need (.call 249 [(W 0 0),(.one (.c (.k (.slice none 0 0)))),(.one (.fM 250 [(.ref 0 [(.u 1 0)])]))] [none]) (.call ⟨.value (.func 249),#[(tT 5),(.const (.slice none 0 0)),(tT 6)],#[98,98,258]⟩) 98 true YP
theorem Ry:aM prog f231 (fun _=>none) [.v none, .v none]=aL3:=by kernel_rfl
def aV6:Tr:=aU 232 [(G3 1)] [none] [6] [46] 98 true (aU 231 [(W 0 0),(W 2 0)] [none] [5,7] [98,98] 98 true (.ret [(W 3 0)]))
theorem WV:aM prog f205 (fun _=>none) [.v none, .v (some 3)]=aV6:=by kernel_rfl
theorem LY (v q:List Rat) (c:Rat) (D E S T K k B:Nat) (h0:D≠0) (h1:E≠0) (hq:∀ b∈q,Bd E T b) (hql:q.length≤2) (hv:Ya D E S T K k v) (hc:Bd D S c) (hK:K≤1073741824) (hB:B≤8589934592) (hX:Dp D E S T K<2^B) (hk:k<K:=by omega):aN prog 250 [(.one (sQ v):aK),(qT c:aK),(.one (.bL ([sQ q])):aK)] (.ret [.one (sQ (OG q v c))]):=by
 refine ZZ (ins:=[.v (.one (sQ v)), .v (qT c), .ref ([sQ q])]) func250 Kt ?_;obtain ⟨hl,hb⟩:=hv (by omega);have hDk:D*E^k≠0:=Nat.mul_ne_zero h0 (Rt h1 k);have hX1:=Nat.lt_of_le_of_lt (QX (S:=S) (T:=T) (k:=k) (n:=v.length) h0 h1 (by omega) (show v.length≤K by omega)) hX;obtain ⟨f1,f2,f3,f4⟩:=De hDk h1 hX1
 have hB1:1≤B:=by
  rcases Nat.eq_zero_or_pos B with rfl | h
  ·exfalso
   have:0<D*E^k*E*((v.length+1)*((S*(K*T+1)^k+1)*(T+1))):=Nat.mul_pos (Nat.pos_of_ne_zero (Nat.mul_ne_zero hDk h1)) (Nat.mul_pos (by omega) (Nat.mul_pos (by omega) (by omega)));omega
  ·exact h
 have hm:∀ a∈jO v q,Fit B a:=fun a ha=>by
  have:=Sp hDk h1 hb hq a ha;rcases Nat.eq_zero_or_pos v.length with h | h
  ·have:v = []:=List.eq_nil_of_length_eq_zero h;subst this;simp [jO] at ha
  ·refine f3 a (v.length-1) (by omega) (this.le (Nat.le_of_eq ?_));rw [show v.length=v.length-1+1 by omega,Nat.add_mul,Nat.one_mul,Nat.add_sub_cancel]
 have ht:∀ a∈trim [c],Fit B a:=fun a ha=>by
  have:=nW ha;rw [List.mem_singleton] at this;subst this;exact f1 _ (hc.mono (Nat.dvd_mul_right _ _) (Nat.le_mul_of_pos_right _ (Nat.pow_pos (by omega))))
 have l1:=zH v q;have l2:=iW [c];apply aA (Yz v q (D*E^k) E (S*(K*T+1)^k) T B hDk h1 hb hq hB hX1) rfl;apply aA (NP c) rfl;apply aA (Ls (jO v q) (trim [c]) B B hB1 hB1 hm ht (by omega) (by split at l1<;>omega) (by simp at l2;omega)) rfl;exact aJ rfl
theorem Qx (p q:List Rat) (D E S T K B:Nat) (h0:D≠0) (h1:E≠0) (hp:∀ a∈p,Bd D S a) (hq:∀ b∈q,Bd E T b) (hql:q.length≤2) (hpl:p.length≤K) (hK:K≤1073741824) (hB:B≤8589934592) (hX:Dp D E S T K<2^B):aN prog 231 [(.one (sQ p):aK),(.one (sQ q):aK)] (.ret [.one (sQ (OJ p q))]):=by
 refine cW func231 Ry ?_
 refine Qc (show aO [.one (sQ p), .one (.exact (.slice none 0 0)), .one (.fM 250 [.bL [sQ q]])] [.one (sQ p), .one (sQ []), .one (.fM 250 [.bL [sQ q]])] from ⟨aK.Sub.same,aE.Sub.nil,aK.Sub.same,trivial⟩)
  (RO p (Bd D S) (fun v c=>OG q v c) (Ya D E S T K) 250 [.bL [sQ q]] Ub (fun k v c hv hc=>UZ h0 h1 hq hql k v c hv hc) hp Bd.zero (by omega)
   (fun k v c hk hv hc=>LY v q c D E S T K k B h0 h1 hq hql hv hc hK hB hX)) rfl ?_
 exact aJ rfl
def QH (p:List Rat) (c:Rat):List Rat:=OJ p [c,1]
theorem VE (p:List Rat) (c:Rat) (D E S T K B:Nat) (hp:∀ a∈p,Bd D S a) (hc:Bd E T c) (hpl:p.length≤K) (hX:Dp D E S T K<2^B) (h0:D≠0:=by omega) (h1:E≠0:=by omega) (hT:1≤T:=by omega) (hK:K≤1073741824:=by omega) (hB:B≤8589934592:=by omega):aN prog 205 [(.one (sQ p):aK),(qT c:aK)] (.ret [.one (sQ (QH p c))]):=by
 refine cW func205 WV ?_;apply aA (aq9 c) rfl
 apply aA (Qx p [c,1] D E S T K B h0 h1 hp (fun b hb=>by
  rcases List.mem_cons.1 hb with rfl | hb
  ·exact hc
  ·rw [List.mem_singleton] at hb;subst hb;exact Bd.one hT) (by simp) hpl hK hB hX) rfl
 exact aJ rfl
open Go Go.Proofs Tryz Ord
theorem VU (ks:List Rat) (ps:List (List Rat)) (A:Nat) (h:hU ks ps=true) (hk:∀ a∈ks,Fit A a) (hp:pX A ps) (hA1:1≤A:=by omega) (hA:A≤50000:=by omega) (hl:ps.length≤ks.length:=by omega) (hl2:ks.length<1099511627776:=by omega):aN prog 19 [(.agg [sQ ks,eQ ps]:aK)] (.ret [.one (.int .i64 (Af ks ps 41 0)), .one (.int .i64 0)]):=by
 refine cW func19 OL ?_;have hc:=cH ks ps A hk (fun p h=>by have:=(hp p h).1;omega) hA1 hl2;rw [if_pos h] at hc;apply aA hc rfl;apply vn dS rfl;refine vs _ rfl ?_ ?_<;>intro h2
 ·exact absurd rfl h2
 apply aA (XW ks ps A hA1 hA hl hl2 hk hp) rfl;exact aJ rfl
theorem Rc (ks:List Rat) (ps:List (List Rat)) (A:Nat) (h:hU ks ps=false) (hp:∀ a∈ks,Fit A a) (hps:∀ p∈ps,p.length<1099511627776) (hA1:1≤A:=by omega) (hA:A≤1073741824:=by omega) (hl:ks.length<1099511627776:=by omega) (hs:ps.length<1099511627776:=by omega):aN prog 19 [(.agg [sQ ks,eQ ps]:aK)] (.ret [.one (.int .i64 0), .one (.int .i64 2)]):=by
 refine cW func19 OL ?_;have hc:=cH ks ps A hp hps hA1 hl hA hs;rw [if_neg (by rw [h];exact Bool.false_ne_true)] at hc;apply aA hc rfl;apply vn dS rfl;refine vs _ rfl ?_ ?_<;>intro h2
 ·exact aJ rfl
 exact absurd (show ¬ (2:Int)=0 by decide) h2
open Go Go.Proofs Tryz Ord
def aL4:Tr:=aU 83 [(W 0 0)] [none] [3] [98] 3 true (bB .eql 3 4 40 1 0 4 YP)
theorem Jf:aM prog f82 (fun _=>none) [.v none]=aL4:=by kernel_rfl
def ac0:Tr:=dN 0 0 22 0 28 48 50 (dA 23 0 (some 3) 46 51 (aU 79 [(W 21 0),(G3 24)] [(some 3)] [46,52] [98,46] 46 true (.need (.lit 1 [[(.u 21 0)]]) (.buildSlice 29 1 #[(0,(tT 56))]) 29 false (.need (.app 1 24 (some 8) none (some 26)) (.call ⟨.builtin .append,#[(tT 55),(tT 57)],#[29,29]⟩) 29 false (bB .add 3 27 1 6 0 3 (.back 0 [lV 28 0,lV 7 0, .row 27,lV 25 0,lV 25 1,lV 25 2]))))))
def ar3:Tr:=dN 0 0 6 0 28 38 39 (dA 16 0 (some 3) 46 40 (aU 79 [(W 15 0),(G3 17)] [(some 3)] [36,41] [98,46] 46 false (aU 86 [(.agg [(U 9 0),(U 10 0),(U 11 0)]),(G3 18)] [(some 3)] [35,42] [46,46] 46 true (.need (.lit 3 [[(.u 19 0),(.u 19 1),(.u 19 2)]]) (.buildSlice 98 1 #[(0,(tT 43))]) 98 false (aU 66 [(W 15 0),(.one (.c (.sr 3 20)))] [none] [34,44] [98,98] 98 true (bB .add 3 49 1 6 0 3 ac0))))))
def ay0:Tr:=cL 0 1 25 29 (.loop 0 [lK 0,lV 4 0, .nilrow,lN,(.w (.one (.c (.k (.bool false))))),lN] (cE .lss 3 27 26 6 0 5 0 0 (.split (.u 12 0) (dN 0 1 6 0 29 25 27 (dA 13 0 none 98 30 (aU 85 [(W 14 0)] [none] [32] [98] 98 true ar3))) (.ret [(.agg [(U 7 0),(.c (.sr 1 8))]),(WK 0)]))))
def aS1:Tr:=aU 22 [(G2 0)] [none] [10] [31] 54 true (bB .neq 54 12 0 1 0 4 (.split (.u 2 0) (.ret [(.agg [tN,tN]),(W 1 0)]) (.need (.call 81 [(W 0 1),(.one (.fM 82 []))] [none]) (.call ⟨.value (.func 81),#[(tT 17),(.func 82)],#[29,143]⟩) 4 true (.split (.u 3 0) (.ret [(.agg [tN,tN]),(WK 5)]) (aU 84 [(W 0 0)] [none] [21] [28] 28 true ay0)))))
theorem zG:aM prog f18 (fun _=>none) [.v (some 2)]=aS1:=by kernel_rfl
def Se (p:List Rat):Bool:=decide ((kN zr p:Int)-1=40)
theorem Ht (p:List Rat) (hs:p.length<1099511627776):aN prog 82 [(.one (sQ p):aK)] (.ret [.one (.bool (Se p))]):=by
 refine cW func82 Jf ?_;apply aA (JO p hs) rfl;apply vn cB rfl;exact aJ rfl
def My (ps:List (List Rat)) (i:Nat):List Rat:=AR (ps.getD i [])
def Jb (ks:List Rat) (ps:List (List Rat)):Nat→Rat
 | 0=>0
 | i+1=>Jb ks ps i+(dL (My ps i) (ks.getD (i+1) 0)-dL (My ps i) (ks.getD i 0))
def oY (ks:List Rat) (ps:List (List Rat)) (i:Nat):Rat:=Jb ks ps i-dL (My ps i) (ks.getD i 0)
def zV (ks:List Rat) (ps:List (List Rat)) (i:Nat):List Rat:=qX (My ps i) [oY ks ps i]
theorem Xo (ks:List Rat) (ps:List (List Rat)) (i:Nat):dL (zV ks ps i) (ks.getD (i+1) 0)=Jb ks ps (i+1):=by
 have h:=AE (ks.getD (i+1) 0) (My ps i) [oY ks ps i];have e:∀ (p:List Rat) (x:Rat),ev p x=dL p x:=fun _ _=>rfl;rw [e,e,cZ,fU] at h;rw [zV,h,Jb,oY]
 grind
theorem BB {A B:Nat} {p q:List Rat} (hA:1≤A) (hB:1≤B) (hp:∀ a∈p,Fit A a) (hq:∀ a∈q,Fit B a):∀ a∈qX p q,Fit (A+B+1) a:=by
 refine vM fun a ha=>?_;obtain ⟨i,hi,rfl⟩:=eB.1 ha;exact (aF hp i hA).add (aF hq i hB)
theorem Dr (p q:List Rat):(qX p q).length≤max p.length q.length:=by
 have h:=gT ((List.range (max p.length q.length)).map fun i=>p.getD i 0+q.getD i 0);have h2:=fT (z:=zr) ((List.range (max p.length q.length)).map fun i=>p.getD i 0+q.getD i 0);rw [qX,h]
 simpa using h2
structure iU (A:Nat) (ks:List Rat) (ps:List (List Rat)):Prop where
 hA1:1≤A
 hA:A≤1000
 hk:∀ a∈ks,Fit A a
 hp:∀ p∈ps,p.length≤9∧∀ a∈p,Fit A a
 hn:ps.length≤20
 hl:ps.length+1=ks.length
theorem Km {A:Nat} {ks:List Rat} {ps:List (List Rat)} (T:iU A ks ps) {i:Nat} (hi:i<ps.length):(My ps i).length≤10∧∀ a∈My ps i,Fit (A+12) a:=by
 have h:=T.hp _ (fY hi);have h2:=KW (ps.getD i []);exact ⟨by rw [My];omega,LW T.hA1 h.2⟩
theorem uX {A:Nat} {ks:List Rat} {ps:List (List Rat)} (T:iU A ks ps) {i:Nat} (hi:i<ps.length) (j:Nat):Fit 20251 (dL (My ps i) (ks.getD j 0)):=by
 have h:=Km T hi;have hx:Fit (A+12) (ks.getD j 0):=(aF T.hk j T.hA1).mono (by omega);have hA:=T.hA;have hm:=Nat.mul_le_mul h.1 (show 2*(A+12)+1≤2025 by omega);exact (iX (by omega) hx _ h.2).mono (by omega)
theorem wR {A:Nat} {ks:List Rat} {ps:List (List Rat)} (T:iU A ks ps):∀ i,i≤ps.length→Fit (1+i*40504) (Jb ks ps i)
 | 0,_=>Fit.zero (by omega)
 | i+1,hi=>by
   have h:=(wR T i (by omega)).add ((uX T (show i<ps.length by omega) (i+1)).sub (uX T (show i<ps.length by omega) i));exact h.mono (by rw [Nat.add_mul];omega)
theorem RJ {A:Nat} {ks:List Rat} {ps:List (List Rat)} (T:iU A ks ps) {i:Nat} (hi:i<ps.length):Fit 830333 (oY ks ps i)∧(zV ks ps i).length≤10∧∀ a∈zV ks ps i,Fit 831400 a:=by
 have h:=Km T hi;have hA:=T.hA;have hn:=T.hn;have hm:i*40504≤20*40504:=Nat.mul_le_mul_right _ (by omega);have hc:Fit 830333 (oY ks ps i):=((wR T i (by omega)).sub (uX T hi i)).mono (by omega);have hl:=Dr (My ps i) [oY ks ps i];refine ⟨hc,by rw [zV];simp at hl;omega,fun a ha=>(BB (A:=A+12) (B:=830333) (by omega) (by omega) h.2 (fun x hx=>by rw [List.mem_singleton.1 hx];exact hc) a ha).mono (by omega)⟩
theorem XZ (ks:List Rat) (ps:List (List Rat)) (i:Nat):(List.range i).map (zV ks ps) ++ [zV ks ps i]=(List.range (i+1)).map (zV ks ps):=by rw [List.range_succ,List.map_append];rfl
theorem OX (ks:List Rat) (ps:List (List Rat)) (A:Nat) (h:hU ks ps=true) (T:iU A ks ps):aN prog 18 [(.agg [sQ ks,eQ ps]:aK)] (.ret [.agg [sQ ks,eQ ((List.range ps.length).map (zV ks ps))], .one (.int .i64 0)]):=by
 refine cW func18 zG ?_;have hA:=T.hA;have hA1:=T.hA1;have hn:=T.hn;have hl:=T.hl;have hc:=cH ks ps A T.hk (fun p h=>by have:=(T.hp p h).1;omega) hA1;rw [if_pos h] at hc
 have hno:ps.any Se=false:=by
  rw [List.any_eq_false];intro p hp;have h1:=(T.hp p hp).1;have h2:=fT (z:=zr) p;rw [Se,decide_eq_false (by omega)];exact Bool.false_ne_true
 apply aA hc rfl;apply vn dS rfl;refine vs _ rfl ?_ ?_<;>intro h2
 ·exact absurd rfl h2
 apply aA (zL ps 82 Se (fun p h=>Ht p (by have:=(T.hp p h).1;omega))) rfl;rw [hno];refine kG false rfl (fun h=>by cases h) (fun _=>?_);apply aA (xB (rQ ks) (by rw [aH];omega)) rfl;dsimp only [aC,aD];apply vn (aL jT (aH _)) rfl;refine bJ {i:Nat // i≤ps.length} (fun g=>(.one (.int .i64 (g.1:Int)):aK) :: .one (sQ ks) :: .rows (((List.range g.1).map (zV ks ps)).map cQ)::(qC (Jb ks ps g.1)).map .one) (fun g=>ps.length-g.1) ⟨0,cM _⟩ ⟨aK.Sub.same,aK.Sub.same,trivial,gX.1,gX.2.1,gX.2.2.1,trivial⟩ (fun _=>rfl) ?_;rintro ⟨i,hi⟩;dsimp only [aC,aD,List.map] at hi ⊢;apply vn bF rfl;refine vs _ rfl ?_ ?_<;>intro h11
 ·have hi':i<ps.length:=by omega
  have hg:=Km T hi';obtain ⟨B8,hB8⟩:∃ B,B=830333:=⟨_,rfl⟩
  obtain ⟨B9,hB9⟩:∃ B,B=831400:=⟨_,rfl⟩
  have hpc:Fit B8 (oY ks ps i)∧(zV ks ps i).length≤10∧∀ a∈zV ks ps i,Fit B9 a:=by rw [hB8,hB9];exact RJ T hi'
  have hkf:∀ j,Fit (A+12) (ks.getD j 0):=fun j=>(aF T.hk j hA1).mono (by omega);have hsf:=wR T i (by omega);have hm:i*40504≤20*40504:=Nat.mul_le_mul_right _ (by omega);have hm2:(My ps i).length*(2*(A+12)+2)≤10*(2*(A+12)+2):=Nat.mul_le_mul_right _ hg.1;have hm3:(zV ks ps i).length*(2*B9+2)≤10*(2*B9+2):=Nat.mul_le_mul_right _ hpc.2.1;have hll:((List.range i).map (zV ks ps)).length=i:=by simp
  apply vn (aG jT (m:=i) (by omega) (Int.toNat_natCast i) (uR hi')) rfl;apply vn (bD AA) rfl;apply aA (zE (ps.getD i []) A (T.hp _ (fY hi')).2 hA1 (by have:=(T.hp _ (fY hi')).1;omega)) rfl;dsimp only [aC,aD];apply vn (aG bP (m:=i) (by omega) (Int.toNat_natCast i) (aQ (show i<ks.length by omega))) rfl;apply vn (aR cK (by decide) (by simp) (.inl rfl)) rfl;apply aA (pF (My ps i) (ks.getD i 0) (A+12) hg.2 (hkf i)) rfl;apply aA (jK (Jb ks ps i) _ _ _ hsf (uX T hi' i)) rfl;dsimp only [aC,aD];apply dJ (us:=[oY ks ps i].map qC) rfl;apply aA (Ls (My ps i) [oY ks ps i] (A+12) B8 (by omega) (by omega) hg.2 (fun x hx=>by rw [List.mem_singleton.1 hx];exact hpc.1) (by omega) (by omega) (by simp)) rfl;apply vn (aB (by omega) (by omega)) rfl;dsimp only [aC,aD];apply vn (aG bP (m:=i+1) (by omega) (by omega) (aQ (show i+1<ks.length by omega))) rfl;apply vn (aR cK (by decide) (by simp) (.inl rfl)) rfl;dsimp only [aC,aD];have hev:=pF (zV ks ps i) (ks.getD (i+1) 0) B9 hpc.2.2 ((hkf (i+1)).mono (by omega));rw [Xo] at hev;apply aA hev rfl;apply dJ (us:=[cQ (zV ks ps i)]) rfl;refine dV (xs:=(List.range i).map (zV ks ps)) (x:=zV ks ps i) (f:=cQ) rfl rfl (by omega) (by simp only [maxLen];omega) ?_;rw [XZ];apply vn (aB (by omega) (by omega)) rfl;dsimp only [aC,aD];exact aY rfl ⟨⟨i+1,by omega⟩,aO.rfl,by show ps.length-(i+1)<ps.length-i;omega⟩
 rw [show i=ps.length by omega];exact aJ rfl
open Go Go.Proofs Tryz Ord
def ab1:Tr:=dN 0 0 20 0 32 38 40 (dA 21 0 (some 4) 51 41 (aU 97 [(W 19 0),(G4 22)] [(some 4)] [36,42] [102,51] 51 true (.need (.lit 1 [[(.u 19 0)]]) (.buildSlice 33 1 #[(0,(tT 46))]) 33 false (.need (.app 1 24 (some 4) none (some 24)) (.call ⟨.builtin .append,#[(tT 45),(tT 47)],#[33,33]⟩) 33 false (bB .add 3 16 1 2 0 3 (.back 0 [lV 26 0,lV 3 0, .row 25,lV 23 0,lV 23 1,lV 23 2,lV 23 3]))))))
def ay6:Tr:=dN 0 0 2 0 32 28 29 (dA 14 0 (some 4) 51 30 (aU 97 [(W 13 0),(G4 15)] [(some 4)] [26,31] [102,51] 51 false (aU 96 [(.agg [(U 5 0),(U 6 0),(U 7 0),(U 8 0)]),(G4 16)] [(some 4)] [25,32] [51,51] 51 false (aU 95 [(G4 17)] [none] [33] [51] 102 true (aU 94 [(W 13 0),(W 18 0)] [none] [24,34] [102,102] 102 true (bB .add 3 39 1 2 0 3 ab1))))))
def aM9:Tr:=.loop 0 [lK 0,lV 0 0, .nilrow,lV 1 0,lV 1 1,lV 1 2,lV 1 3] (cL 0 1 13 33 (cE .lss 3 11 14 2 0 9 0 4 (.split (.u 10 0) (dN 0 1 2 0 33 19 20 (dA 11 0 none 102 21 (aU 93 [(W 12 0)] [none] [22] [102] 102 true ay6))) (.ret [(.agg [(U 3 0),(.c (.sr 1 4))])]))))
def aK3:Tr:=.need (.call 39 [(WK 0)] [(some 4)]) (.call ⟨.value (.func 39),#[(.const (I3 0))],#[2]⟩) 51 true aM9
theorem Pj:aM prog f27 (fun _=>none) [.v (some 2)]=aK3:=by kernel_rfl
def Wn (p:List RQ):List RQ:=eH ((List.range (p.length+1)).map (PU p))
theorem SP (p:List RQ):(Wn p).map RQ.q=AR (p.map RQ.q):=Sq p
def ZP (x:Rat):List RQ:=eH [.of x]
theorem aa3 (x:Rat):(ZP x).map RQ.q=trim [x]:=by rw [ZP,kB];rfl
def pcF (p:List RQ) (c:Rat):List RQ:=eH ((List.range (max (Wn p).length (ZP c).length)).map (HJ (Wn p) (ZP c)))
theorem aj1 (p:List RQ) (c:Rat):(pcF p c).map RQ.q=qX (AR (p.map RQ.q)) [c]:=by
 rw [pcF,Tl,SP,aa3];exact RC (Ec _ _) (Ec _ _) fun x=>by rw [AE,AE,sO]
def Jw (kr:List RQ) (pr:List (List RQ)) (i:Nat):List RQ:=pcF (pr.getD i []) (oY (kr.map RQ.q) (fH pr) i)
theorem VO (pr:List (List RQ)) (i:Nat):(fH pr).getD i []=(pr.getD i []).map RQ.q:=by
 rw [fC,fC,fH,dP];cases pr[i]? <;> rfl
theorem LN (kr:List RQ) (pr:List (List RQ)) (i:Nat):(Jw kr pr i).map RQ.q=zV (kr.map RQ.q) (fH pr) i:=by
 rw [Jw,aj1,zV,My,VO]
theorem ag4 (kr:List RQ) (pr:List (List RQ)) (n:Nat):fH ((List.range n).map (Jw kr pr))=(List.range n).map (zV (kr.map RQ.q) (fH pr)):=by
 rw [fH,List.map_map];exact List.map_congr_left fun i _=>LN kr pr i
theorem Yo (kr:List RQ) (pr:List (List RQ)) (i:Nat):(List.range i).map (Jw kr pr) ++ [Jw kr pr i]=(List.range (i+1)).map (Jw kr pr):=by rw [List.range_succ,List.map_append];rfl
theorem fO {A:Nat} {p:List RQ} (h:∀ a∈p.map RQ.q,Fit A a):∀ a∈p,Fit A a.q:=fun a ha=>h _ (List.mem_map_of_mem ha)
theorem Ps (kr:List RQ) (pr:List (List RQ)) (A:Nat) (T:iU A (kr.map RQ.q) (fH pr)):aN prog 27 [(.agg [sR kr,eR pr]:aK)] (.ret [.agg [sR kr,eR ((List.range pr.length).map (Jw kr pr))]]):=by
 refine cW func27 Pj ?_;have hA:=T.hA;have hA1:=T.hA1;have hn:=T.hn;have hl:=T.hl;rw [fE] at hn hl;rw [aH] at hl;apply aA (nO 0) rfl;refine bJ {i:Nat // i≤pr.length} (fun g=>(.one (.int .i64 (g.1:Int)):aK) :: .one (sR kr) :: .rows (((List.range g.1).map (Jw kr pr)).map cR)::(rC (.of (Jb (kr.map RQ.q) (fH pr) g.1))).map .one) (fun g=>pr.length-g.1) ⟨0,cM _⟩ aO.rfl (fun _=>rfl) ?_;rintro ⟨i,hi⟩;dsimp only [aC,aD,List.map] at hi ⊢;apply vn (aL nP (aH _)) rfl;apply vn bF rfl;refine vs _ rfl ?_ ?_<;>intro h4
 ·have hi':i<(fH pr).length:=by rw [fE];omega
  obtain ⟨p,hp⟩:∃ p,pr[i]? = some p:=⟨_,bI (by omega)⟩
  obtain ⟨k0,hk0⟩:∃ k,kr[i]? = some k:=⟨_,bI (by omega)⟩
  obtain ⟨k1,hk1⟩:∃ k,kr[i+1]? = some k:=⟨_,bI (by omega)⟩
  have e0:=lG hk0;have e1:=lG hk1;have ep:=wI hp;have epd:pr.getD i []=p:=by rw [fC,hp];rfl
  obtain ⟨B8,hB8⟩:∃ B,B=830333:=⟨_,rfl⟩
  obtain ⟨B9,hB9⟩:∃ B,B=831400:=⟨_,rfl⟩
  have hpc:Fit B8 (oY (kr.map RQ.q) (fH pr) i)∧(zV (kr.map RQ.q) (fH pr) i).length≤10∧∀ a∈zV (kr.map RQ.q) (fH pr) i,Fit B9 a:=by rw [hB8,hB9];exact RJ T hi'
  have hg:=Km T hi';have hgm:(Wn p).map RQ.q=My (fH pr) i:=by rw [SP,My,ep]
  have hgl:(Wn p).length≤10:=by rw [←aH (f:=RQ.q),hgm];exact hg.1
  have hgf:∀ a∈Wn p,Fit (A+12) a.q:=fO (by rw [hgm];exact hg.2);have hpf:=T.hp _ (fY hi');rw [ep,aH] at hpf;have hkf:∀ a∈kr,Fit (A+12) a.q:=fun a ha=>(T.hk _ (List.mem_map_of_mem ha)).mono (by omega);have hpm:=LN kr pr i;have hpl:(Jw kr pr i).length≤10:=by rw [←aH (f:=RQ.q),hpm];exact hpc.2.1
  have hpff:∀ a∈Jw kr pr i,Fit B9 a.q:=fO (by rw [hpm];exact hpc.2.2)
  have hcl:(ZP (oY (kr.map RQ.q) (fH pr) i)).length≤1:=by
   have:=fT (z:=Vj) [RQ.of (oY (kr.map RQ.q) (fH pr) i)];rw [ZP,oQ];simpa using this
  have hcf:∀ a∈ZP (oY (kr.map RQ.q) (fH pr) i),Fit B8 a.q:=fun a ha=>by
   have:=List.mem_of_mem_take ha;rw [List.mem_singleton.1 this];exact hpc.1
  have hsf:=wR T i (by rw [fE];omega);have hev0:=uX T hi' i;rw [e0] at hev0;have hm:i*40504≤20*40504:=Nat.mul_le_mul_right _ (by omega);have hm2:(Wn p).length*(2*(A+12)+2)≤10*(2*(A+12)+2):=Nat.mul_le_mul_right _ hgl;have hm3:(Jw kr pr i).length*(2*B9+2)≤10*(2*B9+2):=Nat.mul_le_mul_right _ hpl;have hll:((List.range i).map (Jw kr pr)).length=i:=by simp
  apply vn (aG nP (m:=i) (by omega) (Int.toNat_natCast i) hp) rfl;apply vn (bD qY) rfl;dsimp only [aC,aD];apply aA (zQ p A (fO hpf.2)) rfl;apply vn (aG pY (m:=i) (by omega) (Int.toNat_natCast i) hk0) rfl;apply vn (aR mG (by decide) (by simp) (.inl rfl)) rfl;dsimp only [aC,aD];have hv:=pG (Wn p) k0 (A+12) hgf (hkf _ (dE hk0));rw [hgm] at hv;apply aA hv rfl;dsimp only [aC,aD];have hs:=Xq (.of (Jb (kr.map RQ.q) (fH pr) i)) (.of (dL (My (fH pr) i) k0.q)) _ _ hsf hev0;rw [RQ.lW,RQ.lW,←e0,show Jb (kr.map RQ.q) (fH pr) i-dL (My (fH pr) i) ((kr.map RQ.q).getD i 0)=oY (kr.map RQ.q) (fH pr) i from rfl,e0] at hs;apply aA hs rfl;apply aA (Nh (.of (oY (kr.map RQ.q) (fH pr) i))) rfl;dsimp only [aC,aD];have ha:=Yt (Wn p) (ZP (oY (kr.map RQ.q) (fH pr) i)) (A+12) B8 hgf hcf;rw [show eH ((List.range (max (Wn p).length (ZP (oY (kr.map RQ.q) (fH pr) i)).length)).map (HJ (Wn p) (ZP (oY (kr.map RQ.q) (fH pr) i))))=Jw kr pr i by rw [Jw,pcF,epd]] at ha;apply aA ha rfl;apply vn (aB (by omega) (by omega)) rfl;apply vn (aG pY (m:=i+1) (by omega) (by omega) hk1) rfl;apply vn (aR mG (by decide) (by simp) (.inl rfl)) rfl;dsimp only [aC,aD];have hw:=pG (Jw kr pr i) k1 B9 hpff ((hkf _ (dE hk1)).mono (by omega));rw [hpm,←e1,Xo] at hw;apply aA hw rfl;apply dJ (us:=[cR (Jw kr pr i)]) rfl;refine dV (xs:=(List.range i).map (Jw kr pr)) (x:=Jw kr pr i) (f:=cR) rfl rfl (by omega) (by simp only [maxLen];omega) ?_;rw [Yo];apply vn (aB (by omega) (by omega)) rfl;dsimp only [aC,aD];exact aY rfl ⟨⟨i+1,by omega⟩,aO.rfl,by show pr.length-(i+1)<pr.length-i;omega⟩
 rw [show i=pr.length by omega];exact aJ rfl
open Go Go.Proofs Tryz Ord
def aI7:Tr:=dN 0 0 10 0 28 25 26 (dA 11 0 (some 3) 46 27 (.need (.callv (.u 2 0) [(.agg [(U 12 0),(U 12 1),(U 12 2)]),(.agg [(U 1 0),(U 1 1),(U 1 2)])] [none]) (.call ⟨.value (tT 24),#[(tT 28),(tT 29)],#[46,46]⟩) 3 true (bB .lss 3 30 0 13 0 4 (.split (.u 14 0) (bB .add 3 32 1 10 0 3 (.back 0 [lV 15 0,lV 5 0])) (.back 0 [lV 4 0,lV 10 0])))))
def ao5:Tr:=cE .lss 3 36 37 4 0 3 0 4 (.split (.u 7 0) (dN 0 0 4 0 28 41 42 (dA 8 0 (some 3) 46 43 (.need (.callv (.u 2 0) [(.agg [(U 9 0),(U 9 1),(U 9 2)]),(.agg [(U 1 0),(U 1 1),(U 1 2)])] [none]) (.call ⟨.value (tT 40),#[(tT 44),(tT 45)],#[46,46]⟩) 3 false (bB .eql 3 46 0 10 0 4 (.ret [(W 4 0),(W 11 0)]))))) (.ret [(W 4 0),(tF false)]))
def aT7:Tr:=.loop 0 [lK 0,lV 3 0] (cE .lss 3 15 16 4 0 5 0 4 (.split (.u 6 0) (cE .add 3 18 19 4 0 5 0 3 (.need (.prim [(W 7 0)] none) (.convert 3 251 (tT 20)) 251 false (.need (.prim [(W 8 0),(.one (.c (.k (.int .u64 1))))] none) (.binOp .shr 251 (tT 21) (.const (.int .u64 1)) 251) 251 false (.need (.prim [(W 9 0)] none) (.convert 251 3 (tT 22)) 3 false aI7)))) ao5))
def aT6:Tr:=cL 0 0 12 28 aT7
theorem sY:aM prog f176 (fun _=>none) [.v none, .v (some 3), .v none]=aT6:=by kernel_rfl
def aA1:Tr:=.need (.call 176 [(W 0 0),(G3 1),(.one (.fM 67 []))] [none,none]) (.call ⟨.value (.func 176),#[(tT 9),(tT 10),(.func 67)],#[28,46,220]⟩) 218 false (.need (.prim [(W 3 0)] none) (.unOp .not 4 (tT 14)) 4 false (.split (.u 4 0) (bB .sub 3 16 1 2 0 3 (cL 0 1 20 29 (bB .sub 3 21 1 6 0 3 (.need (.prim [(W 5 0),(W 7 0)] none) (.call ⟨.builtin .min,#[(tT 18),(tT 22)],#[3,3]⟩) 3 false XA)))) (cL 0 1 20 29 (bB .sub 3 21 1 5 0 3 (.need (.prim [(W 2 0),(W 6 0)] none) (.call ⟨.builtin .min,#[(tT 18),(tT 22)],#[3,3]⟩) 3 false (.ret [(W 7 0)]))))))
theorem ZF:aM prog f78 (fun _=>none) [.v (some 2), .v (some 3)]=aA1:=by kernel_rfl
def YV:Tr:=.ret [(.agg [tN,(tE (.bool false)),tN]),(WK 11)]
def an1:Tr:=bB .gtr 3 30 0 12 0 4 (.split (.u 13 0) YV (aU 78 [(G2 0),(G3 1)] [none] [36,37] [31,46] 3 false (dN 0 1 14 0 29 35 38 (dA 15 0 none 98 39 (aU 79 [(W 16 0),(G3 1)] [(some 3)] [40,41] [98,46] 46 true (.ret [(G3 17),(WK 0)]))))))
def aV0:Tr:=bB .lss 3 18 0 6 0 4 (.split (.u 7 0) YV (cL 0 0 25 28 (bB .sub 3 26 1 8 0 3 (dN 0 0 9 0 28 23 27 (dA 10 0 (some 3) 46 28 (aU 67 [(G3 1),(G3 11)] [none] [21,29] [46,46] 3 false an1))))))
def ax9:Tr:=aU 22 [(G2 0)] [none] [7] [31] 54 true (bB .neq 54 9 0 2 0 4 (.split (.u 3 0) (.ret [(.agg [tN,(tE (.bool false)),tN]),(W 2 0)]) (.need (.prim [(W 0 0),(WK 0)] none) (.indexAddr 28 (tT 15) (.const (I3 0))) 0 false (dA 4 0 (some 3) 46 16 (aU 67 [(G3 1),(G3 5)] [none] [13,17] [46,46] 3 false aV0)))))
theorem ZA:aM prog f16 (fun _=>none) [.v (some 2), .v (some 3)]=ax9:=by kernel_rfl
def ad3:Tr:=.split (.u 20 0) (bB .eql 3 42 0 14 0 4 (.split (.u 21 0) (dN 0 1 5 0 33 48 49 (dA 22 0 none 102 50 (aU 97 [(W 23 0),(G4 1)] [(some 4)] [51,52] [102,51] 51 true (.ret [(G4 24),(tF true)])))) (bB .add 3 16 1 5 0 3 (.back 0 [lV 4 0,lV 22 0,lV 6 0,lV 7 0,lV 8 0,lV 9 0])))) (bB .add 3 16 1 5 0 3 (.back 0 [lV 4 0,lV 21 0,lV 6 0,lV 7 0,lV 8 0,lV 9 0]))
def ap9:Tr:=.split (.u 18 0) (bB .lss 3 35 0 14 0 4 (.split (.u 19 0) (dN 0 1 5 0 33 48 49 (dA 20 0 none 102 50 (aU 97 [(W 21 0),(G4 1)] [(some 4)] [51,52] [102,51] 51 true (.ret [(G4 22),(tF true)])))) (cE .eql 3 38 39 5 0 3 0 4 ad3))) (bB .add 3 16 1 5 0 3 (.back 0 [lV 4 0,lV 19 0,lV 6 0,lV 7 0,lV 8 0,lV 9 0]))
def ax5:Tr:=dN 0 0 11 0 32 20 22 (dA 12 0 (some 4) 51 23 (aU 41 [(G4 1),(G4 13)] [none] [18,24] [51,51] 3 true (dN 0 0 5 0 32 28 29 (dA 15 0 (some 4) 51 30 (aU 41 [(G4 1),(G4 16)] [none] [26,31] [51,51] 3 false (bB .geq 3 32 0 17 0 4 ap9))))))
def aS7:Tr:=cL 0 1 10 33 (bB .sub 3 11 1 2 0 3 (.loop 0 [(.w (.one (.c (.k (.bool false))))),lK 0,lK 0,lN,lK 0,lN] (cE .leq 3 13 14 5 0 3 0 4 (.split (.u 10 0) (bB .add 3 21 1 5 0 3 ax5) (.need (.call 39 [(WK 0)] [(some 4)]) (.call ⟨.value (.func 39),#[(.const (I3 0))],#[2]⟩) 51 true (.ret [(G4 11),(tF false)]))))))
theorem at1:aM prog f31 (fun _=>none) [.v (some 2), .v (some 4)]=aS7:=by kernel_rfl
theorem GO (ks:List Rat) (ps:List (List Rat)) (A:Nat) (h:hU ks ps=false) (hp:∀ a∈ks,Fit A a) (hps:∀ p∈ps,p.length<1099511627776) (hA1:1≤A:=by omega) (hA:A≤1073741824:=by omega) (hl:ks.length<1099511627776:=by omega) (hs:ps.length<1099511627776:=by omega):aN prog 18 [(.agg [sQ ks,eQ ps]:aK)] (.ret [.agg [sQ [],eQ []], .one (.int .i64 2)]):=by
 refine cW func18 zG ?_;have hc:=cH ks ps A hp hps hA1 hl hA hs;rw [if_neg (by rw [h];exact Bool.false_ne_true)] at hc;apply aA hc rfl;apply vn dS rfl;refine vs _ rfl ?_ ?_<;>intro h2
 ·exact eM ⟨⟨aE.Sub.nil,aE.Sub.nil,trivial⟩,aK.Sub.same,trivial⟩
 exact absurd (show ¬ (2:Int)=0 by decide) h2
theorem aO6 {P:Program} {T U ty:TypeId} {x y:Operand} {k yk:IntKind} {a:Int} (hk:1≤k.bits):bC P (.binOp .shr T x y U) ty [.one (.int k a), .one (.int yk 1)] (.one (.int k (a/2))):=by
 intro M w ρ o ho _ hr;obtain ⟨hx,hy⟩:=pP hr;have hx:ρ x = .int k a∧_:=hx;have hy:ρ y = .int yk 1∧_:=hy;refine ⟨.int k (a/2),?_,⟨rfl,rfl⟩⟩
 have hg:(eqGuard .shr T x y (.int k a) (.int yk 1)).run P w = .ok () w:=by
  unfold eqGuard;simp
 have hm:min (1:Int).toNat k.bits=1:=by show min 1 _=1;omega
 have hf:a.fdiv (2^1)=a/2:=by rw [Int.fdiv_eq_ediv_of_nonneg _ (by decide)];rfl
 simp only [execOp,ho,hx.1,hy.1,Sem.run_bind,hg,Result.andThen_ok,binOp,Op.shift,show ¬ ((1:Int)<0) by decide,if_false,hm,hf,Sem.run_pure]
theorem sW (l:List Rat) (x:Rat) (A:Nat) (hA1:1≤A) (hA:A≤1073741824) (hl:l.length<1099511627776) (hp:∀ a∈l,Fit A a) (hx:Fit A x) (hr:jS true l=true):aN prog 176 [(.one (sQ l):aK),(qT x:aK),(.one (.fM 67 []):aK)] (.ret [.one (.int .i64 (sU l x:Int)), .one (.bool (decide (sU l x<l.length∧l.getD (sU l x) 0=x)))]):=by
 refine cW func176 sY ?_;apply vn (aL bP (aH _)) rfl;refine bJ {g:Nat×Nat // g.1≤g.2∧g.2≤l.length∧(∀ k,k<g.1→l.getD k 0<x)∧(∀ k,g.2≤k→k<l.length→x≤l.getD k 0)} (fun g=>[.one (.int .i64 (g.1.1:Int)), .one (.int .i64 (g.1.2:Int))]) (fun g=>g.1.2-g.1.1) ⟨(0,l.length),cM _,bA _,fun k h=>absurd h (by omega),fun k h h2=>absurd h2 (by omega)⟩ aO.rfl (fun _=>rfl) ?_;rintro ⟨⟨i,j⟩,hij,hj,hlo,hhi⟩;dsimp only [aC,aD] at hij hj hlo hhi ⊢;apply vn bF rfl;refine vs _ rfl ?_ ?_<;>intro h3
 ·apply vn (aB (by omega) (by omega)) rfl;apply vn (nZ ⟨_,un3⟩ at2) rfl;apply vn (aO6 (by decide)) rfl;rw [show ((i:Int)+(j:Int))/2=(((i+j)/2:Nat):Int) by omega];dsimp only [aC,aD];apply vn (qP ⟨_,at2⟩ un3) rfl;dsimp only [aC,aD];apply vn (aG bP (m:=(i+j)/2) (by omega) (by omega) (aQ (show (i+j)/2<l.length by omega))) rfl;apply vn (aR cK (by decide) (by simp) (.inl rfl)) rfl;apply rG (f:=67) (caps:=[]) rfl (iB _ _ A A (aF hp _ hA1) hx) rfl;apply vn bF rfl;dsimp only [aC,aD];refine vs _ rfl ?_ ?_<;>intro h12
  ·apply vn (aB (by omega) (by omega)) rfl;dsimp only [aC,aD];exact aY rfl ⟨⟨((i+j)/2+1,j),by show (i+j)/2+1≤j;omega,hj,fun k hk=>Std.lt_of_le_of_lt (Ef hr (show k≤(i+j)/2 by have:k<(i+j)/2+1:=hk;omega)) (gV.1 h12),hhi⟩,aO.rfl,by show j-((i+j)/2+1)<j-i;omega⟩
  exact aY rfl ⟨⟨(i,(i+j)/2),by show i≤(i+j)/2;omega,by show (i+j)/2≤l.length;omega,hlo,fun k hk hk2=>Rat.le_trans (Rat.not_lt.1 fun e=>h12 (gV.2 e)) (Ef hr (show (i+j)/2≤k from hk) hk2)⟩,aO.rfl,by show (i+j)/2-i<j-i;omega⟩
 obtain rfl:i=j:=by omega
 have hlow:sU l x=i:=AX hlo (fun h=>hhi i (bA _) h) hj;rw [hlow];apply vn bF rfl;refine vs _ rfl ?_ ?_<;>intro h17
 ·apply vn (aG bP (m:=i) (by omega) (Int.toNat_natCast i) (aQ (show i<l.length by omega))) rfl;apply vn (aR cK (by decide) (by simp) (.inl rfl)) rfl;apply rG (f:=67) (caps:=[]) rfl (iB _ _ A A (aF hp _ hA1) hx) rfl;dsimp only [aC,aD];apply vn cB rfl;dsimp only [aC,aD];rw [show decide (i<l.length∧l.getD i 0=x)=decide (fL (l.getD i 0) x=0) by rw [decide_eq_decide];exact ⟨fun h=>nJ.2 h.2,fun h=>⟨by omega,nJ.1 h⟩⟩];exact aJ rfl
 rw [decide_eq_false (show ¬ (i<l.length∧l.getD i 0=x) by omega)];exact aJ rfl
theorem WI (ks:List Rat) (ps:List (List Rat)) (x:Rat) (A:Nat) (hA1:1≤A) (hp:∀ a∈ks,Fit A a) (hx:Fit A x) (hr:jS true ks=true) (hn:ps.length+1=ks.length) (hA:A≤1073741824:=by omega) (hl:ks.length<1099511627776:=by omega):aN prog 78 [(.agg [sQ ks,eQ ps]:aK),(qT x:aK)] (.ret [.one (.int .i64 (tR ks ps.length x))]):=by
 refine cW func78 ZF ?_;have hlow:sU ks x≤ks.length:=List.findIdx_le_length;apply aA (sW ks x A hA1 hA hl hp hx hr) rfl;apply vn eS rfl;refine kG (!decide (sU ks x<ks.length∧ks.getD (sU ks x) 0=x)) rfl (fun h2=>?_) (fun h2=>?_)
 ·apply vn (aI (by omega) (by omega)) rfl;apply vn (aL jT (aH _)) rfl;dsimp only [aC,aD];apply vn (aI (by omega) (by omega)) rfl;apply vn Td rfl;dsimp only [aC,aD];rw [Bool.not_eq_true'] at h2;rw [tR,if_neg (of_decide_eq_false h2)];exact aJ rfl
 apply vn (aL jT (aH _)) rfl;apply vn (aI (by omega) (by omega)) rfl;apply vn Td rfl;dsimp only [aC,aD];rw [Bool.not_eq_false'] at h2;rw [tR,if_pos (of_decide_eq_true h2)];exact aJ rfl
def Mw (ks:List Rat) (x:Rat):Prop:=ks.getD 0 0≤x∧x≤ks.getD (ks.length-1) 0
theorem YK {l:List Rat} {n:Nat} {x:Rat} (hn:n+1=l.length) (h:Mw l x) (hn0:1≤n:=by omega):∃ i,i<n∧l.getD i 0≤x∧(x<l.getD (i+1) 0∨(i+1=n∧x=l.getD (i+1) 0)):=by
 refine Classical.byContradiction fun hne=>?_
 have key:∀ i,i≤n→l.getD i 0≤x:=by
  intro i
  induction i with
  | zero=>intro _;exact h.1
  | succ i ih=>
    intro hi;refine Rat.not_lt.1 fun e=>hne ⟨i,by omega,ih (by omega), .inl e⟩
 have h1:=key n (bA _);have h2:=h.2;rw [show l.length-1=n by omega] at h2;exact hne ⟨n-1,by omega,key (n-1) (by omega), .inr ⟨by omega,by rw [show n-1+1=n by omega];exact Std.le_antisymm h2 h1⟩⟩
theorem kA {ks:List Rat} {ps:List (List Rat)} (h:hU ks ps=true):2≤ks.length∧ks.length≤60∧jS true ks=true∧ps.length+1=ks.length∧ps.any nG=false:=by
 simp only [hU,Bool.and_eq_true,decide_eq_true_eq] at h;obtain ⟨h1,h2,h3,h4,h5⟩:=h;exact ⟨h1,h2,h3,h4,by simpa using h5⟩
def Vl (ks:List Rat) (ps:List (List Rat)) (x:Rat):Rat:=dL (ps.getD (tR ks ps.length x).toNat []) x
theorem NL {ks:List Rat} {n:Nat} {x:Rat} (hr:jS true ks=true) (hn:n+1=ks.length) (h:Mw ks x) (hn0:1≤n:=by omega):∃ i:Nat,i<n∧tR ks n x=i:=by
 obtain ⟨i,hi,h1,h2⟩:=YK hn h hn0;exact ⟨i,hi,JX hr hn hi h1 h2⟩
theorem br2 (ks:List Rat) (ps:List (List Rat)) (x:Rat) (A:Nat) (h:hU ks ps=true) (T:iU A ks ps) (hx:Fit A x) (hin:Mw ks x):aN prog 16 [(.agg [sQ ks,eQ ps]:aK),(qT x:aK)] (.ret [qT (Vl ks ps x), .one (.int .i64 0)]):=by
 refine cW func16 ZA ?_;have hA:=T.hA;have hA1:=T.hA1;have hn:=T.hn;have hl:=T.hl;obtain ⟨hk2,hk60,hr,hpk,_⟩:=kA h;obtain ⟨i,hi,hpi⟩:=NL hr hpk hin;have hc:=cH ks ps A T.hk (fun p h=>by have:=(T.hp p h).1;omega) hA1;rw [if_pos h] at hc;apply aA hc rfl;apply vn dS rfl;refine vs _ rfl ?_ ?_<;>intro h2
 ·exact absurd rfl h2
 apply vn (aG bP (m:=0) (by omega) rfl (aQ (show 0<ks.length by omega))) rfl;apply vn (aR cK (by decide) (by simp) (.inl rfl)) rfl;dsimp only [aC,aD];apply aA (iB _ _ A A hx (aF T.hk _ hA1)) rfl;apply vn bF rfl;refine vs _ rfl ?_ ?_<;>intro h8
 ·exact absurd (gV.1 h8) (Rat.not_lt.2 hin.1)
 apply vn (aL bP (aH _)) rfl;apply vn (aI (by omega) (by omega)) rfl;dsimp only [aC,aD];apply vn (aG bP (m:=ks.length-1) (by omega) (by omega) (aQ (show ks.length-1<ks.length by omega))) rfl;apply vn (aR cK (by decide) (by simp) (.inl rfl)) rfl;apply aA (iB _ _ A A hx (aF T.hk _ hA1)) rfl;apply vn eF rfl;dsimp only [aC,aD];refine vs _ rfl ?_ ?_<;>intro h16
 ·exact absurd (AM.1 h16) (Rat.not_lt.2 hin.2)
 apply aA (WI ks ps x A hA1 T.hk hx hr hpk) rfl;rw [hpi];apply vn (aG jT (m:=i) (by omega) (Int.toNat_natCast i) (uR hi)) rfl;apply vn (bD AA) rfl;dsimp only [aC,aD];have hpe:=T.hp _ (fY hi);have hm:(ps.getD i []).length*(2*A+2)≤9*(2*A+2):=Nat.mul_le_mul_right _ hpe.1;apply aA (pF (ps.getD i []) x A hpe.2 hx hA1) rfl;dsimp only [aC,aD];rw [Vl,hpi,Int.toNat_natCast];exact aJ rfl
theorem WC (ks:List Rat) (ps:List (List Rat)) (x:Rat) (A:Nat) (h:hU ks ps=true) (T:iU A ks ps) (hx:Fit A x) (hin:¬ Mw ks x):aN prog 16 [(.agg [sQ ks,eQ ps]:aK),(qT x:aK)] (.ret [qT 0, .one (.int .i64 11)]):=by
 refine cW func16 ZA ?_;have hA:=T.hA;have hA1:=T.hA1;have hn:=T.hn;have hl:=T.hl;obtain ⟨hk2,hk60,hr,hpk,_⟩:=kA h;have hc:=cH ks ps A T.hk (fun p h=>by have:=(T.hp p h).1;omega) hA1;rw [if_pos h] at hc;apply aA hc rfl;apply vn dS rfl;refine vs _ rfl ?_ ?_<;>intro h2
 ·exact absurd rfl h2
 apply vn (aG bP (m:=0) (by omega) rfl (aQ (show 0<ks.length by omega))) rfl;apply vn (aR cK (by decide) (by simp) (.inl rfl)) rfl;dsimp only [aC,aD];apply aA (iB _ _ A A hx (aF T.hk _ hA1)) rfl;apply vn bF rfl;refine vs _ rfl ?_ ?_<;>intro h8
 ·exact eM ⟨gX,aK.Sub.same,trivial⟩
 apply vn (aL bP (aH _)) rfl;apply vn (aI (by omega) (by omega)) rfl;dsimp only [aC,aD];apply vn (aG bP (m:=ks.length-1) (by omega) (by omega) (aQ (show ks.length-1<ks.length by omega))) rfl;apply vn (aR cK (by decide) (by simp) (.inl rfl)) rfl;apply aA (iB _ _ A A hx (aF T.hk _ hA1)) rfl;apply vn eF rfl;dsimp only [aC,aD];refine vs _ rfl ?_ ?_<;>intro h16
 ·exact eM ⟨gX,aK.Sub.same,trivial⟩
 exact absurd ⟨Rat.not_lt.1 fun e=>h8 (gV.2 e),Rat.not_lt.1 fun e=>h16 (AM.2 e)⟩ hin
theorem ar6 (ks:List Rat) (ps:List (List Rat)) (x:Rat) (A:Nat) (h:hU ks ps=false) (hp:∀ a∈ks,Fit A a) (hps:∀ p∈ps,p.length<1099511627776) (hA1:1≤A:=by omega) (hA:A≤1073741824:=by omega) (hl:ks.length<1099511627776:=by omega) (hs:ps.length<1099511627776:=by omega):aN prog 16 [(.agg [sQ ks,eQ ps]:aK),(qT x:aK)] (.ret [qT 0, .one (.int .i64 2)]):=by
 refine cW func16 ZA ?_;have hc:=cH ks ps A hp hps hA1 hl hA hs;rw [if_neg (by rw [h];exact Bool.false_ne_true)] at hc;apply aA hc rfl;apply vn dS rfl;refine vs _ rfl ?_ ?_<;>intro h2
 ·exact eM ⟨gX,aK.Sub.same,trivial⟩
 exact absurd (show ¬ (2:Int)=0 by decide) h2
def XX (l:List Rat) (n:Nat) (x:Rat) (i:Nat):Prop:=l.getD i 0≤x∧(x<l.getD (i+1) 0∨(i+1=n∧x=l.getD (i+1) 0))
theorem VN {l:List Rat} {n:Nat} {x:Rat} (hr:jS true l=true) (hn:n+1=l.length) {i:Nat} (hi:i<n) (h:XX l n x i):Mw l x:=by
 refine ⟨Rat.le_trans (Ef hr (cM i)) h.1,?_⟩;rcases h.2 with h2 | ⟨h2,h3⟩
 ·exact Rat.le_trans (Rat.le_of_lt h2) (Ef hr)
 ·rw [h3,show l.length-1=i+1 by omega];exact Rat.le_refl
set_option maxHeartbeats 1000000 in
theorem bf3 (kr:List RQ) (pr:List (List RQ)) (x:RQ) (A:Nat) (h:hU (kr.map RQ.q) (fH pr)=true) (T:iU A (kr.map RQ.q) (fH pr)) (hx:Fit A x.q) (hin:Mw (kr.map RQ.q) x.q):aN prog 31 [(.agg [sR kr,eR pr]:aK),(oK x:aK)] (.ret [oK (.of (Vl (kr.map RQ.q) (fH pr) x.q)), .one (.bool true)]):=by
 refine cW func31 at1 ?_;have hA:=T.hA;have hA1:=T.hA1;have hn:=T.hn;have hl:=T.hl;obtain ⟨hk2,hk60,hr,hpk,_⟩:=kA h;rw [fE] at hn hl hpk;rw [aH] at hl hk2 hk60
 have hhit:∀ i,i<pr.length→XX (kr.map RQ.q) pr.length x.q i→Vl (kr.map RQ.q) (fH pr) x.q=dL ((fH pr).getD i []) x.q:=fun i hi hh=>by
  rw [Vl,fE,JX hr hpk hi hh.1 hh.2,Int.toNat_natCast]
 apply vn (aL nP (aH _)) rfl;apply vn (aI (by omega) (by omega)) rfl;refine bJ {i:Nat // i≤pr.length∧∀ j,j<i→¬ XX (kr.map RQ.q) pr.length x.q j} (fun g=>[.one (.bool false), .one (.int .i64 (g.1:Int)), .one (.int .i64 0), .one (.exact (.slice none 0 0)), .one (.int .i64 0), .one (.exact (.slice none 0 0))]) (fun g=>pr.length-g.1) ⟨0,cM _,fun j hj=>absurd hj (by omega)⟩ aO.rfl (fun _=>rfl) ?_;rintro ⟨i,hi,hno⟩;dsimp only [aC,aD] at hi hno ⊢;apply vn iZ rfl;refine vs _ rfl ?_ ?_<;>intro h4
 ·have hi':i<pr.length:=by omega
  obtain ⟨p,hp⟩:∃ p,pr[i]? = some p:=⟨_,bI (by omega)⟩
  obtain ⟨k0,hk0⟩:∃ k,kr[i]? = some k:=⟨_,bI (by omega)⟩
  obtain ⟨k1,hk1⟩:∃ k,kr[i+1]? = some k:=⟨_,bI (by omega)⟩
  have e0:=lG hk0;have e1:=lG hk1;have ep:=wI hp;have hpf:=T.hp _ (fY (i:=i) (ps:=fH pr) (by rw [fE];omega));rw [ep,aH] at hpf;have hkf:∀ a∈kr,Fit A a.q:=fun a ha=>T.hk _ (List.mem_map_of_mem ha);have hm:p.length*(2*A+2)≤9*(2*A+2):=Nat.mul_le_mul_right _ hpf.1;have hev:=pG p x A (fO hpf.2) hx hA1;apply vn (aB (by omega) (by omega)) rfl;apply vn (aG pY (m:=i+1) (by omega) (by omega) hk1) rfl;apply vn (aR mG (by decide) (by simp) (.inl rfl)) rfl;dsimp only [aC,aD];apply aA (xA x k1 A A hx (hkf _ (dE hk1))) rfl;apply vn (aG pY (m:=i) (by omega) (Int.toNat_natCast i) hk0) rfl;apply vn (aR mG (by decide) (by simp) (.inl rfl)) rfl;apply aA (xA x k0 A A hx (hkf _ (dE hk0))) rfl;dsimp only [aC,aD];apply vn gZ rfl;dsimp only [aC,aD];have hge:(0:Int)≤fL x.q k0.q→k0.q≤x.q:=fun h=>Rat.not_lt.1 fun e=>by have:=gV.2 e;omega
  have hnext:¬ XX (kr.map RQ.q) pr.length x.q i→∀ j,j<i+1→¬ XX (kr.map RQ.q) pr.length x.q j:=fun h j hj=>by
   rcases Nat.lt_or_ge j i with h1 | h1
   ·exact hno j h1
   ·obtain rfl:j=i:=by omega
    exact h
  refine vs _ rfl ?_ ?_<;>intro h13
  ·apply vn bF rfl;refine vs _ rfl ?_ ?_<;>intro h15
   ·apply vn (aG nP (m:=i) (by omega) (Int.toNat_natCast i) hp) rfl;apply vn (bD qY) rfl;apply aA hev rfl;dsimp only [aC,aD];rw [hhit i hi' ⟨by rw [e0];exact hge h13, .inl (by rw [e1];exact gV.1 h15)⟩,ep];exact aJ rfl
   apply vn cB rfl;refine vs _ rfl ?_ ?_<;>intro h21
   ·apply vn cB rfl;refine vs _ rfl ?_ ?_<;>intro h23
    ·apply vn (aG nP (m:=i) (by omega) (Int.toNat_natCast i) hp) rfl;apply vn (bD qY) rfl;dsimp only [aC,aD];apply aA hev rfl;dsimp only [aC,aD];rw [hhit i hi' ⟨by rw [e0];exact hge h13, .inr ⟨by omega,by rw [e1];exact nJ.1 h23⟩⟩,ep];exact aJ rfl
    apply vn (aB (by omega) (by omega)) rfl
    exact aY rfl ⟨⟨i+1,by omega,hnext fun hh=>by
     rcases hh.2 with h2 | ⟨_,h2⟩
     ·rw [e1] at h2;exact h15 (gV.2 h2)
     ·rw [e1] at h2;exact h23 (nJ.2 h2)⟩,aO.rfl,by show pr.length-(i+1)<pr.length-i;omega⟩
   apply vn (aB (by omega) (by omega)) rfl
   exact aY rfl ⟨⟨i+1,by omega,hnext fun hh=>by
    rcases hh.2 with h2 | ⟨h3,h2⟩
    ·rw [e1] at h2;exact h15 (gV.2 h2)
    ·omega⟩,aO.rfl,by show pr.length-(i+1)<pr.length-i;omega⟩
  apply vn (aB (by omega) (by omega)) rfl
  exact aY rfl ⟨⟨i+1,by omega,hnext fun hh=>by
   have:=hh.1;rw [e0] at this;exact h13 (by have h4:¬ fL x.q k0.q<0:=fun e=>Rat.not_lt.2 this (gV.1 e);omega)⟩,aO.rfl,by show pr.length-(i+1)<pr.length-i;omega⟩
 obtain ⟨j,hj,hh⟩:=YK hpk hin;exact absurd hh (hno j (by omega))
set_option maxHeartbeats 1000000 in
theorem VZ (kr:List RQ) (pr:List (List RQ)) (x:RQ) (A:Nat) (h:hU (kr.map RQ.q) (fH pr)=true) (T:iU A (kr.map RQ.q) (fH pr)) (hx:Fit A x.q) (hin:¬ Mw (kr.map RQ.q) x.q):aN prog 31 [(.agg [sR kr,eR pr]:aK),(oK x:aK)] (.ret [oK (.of ((0:Int):Rat)), .one (.bool false)]):=by
 refine cW func31 at1 ?_;have hA:=T.hA;have hA1:=T.hA1;have hn:=T.hn;have hl:=T.hl;obtain ⟨hk2,hk60,hr,hpk,_⟩:=kA h;rw [fE] at hn hl hpk;rw [aH] at hl hk2 hk60;apply vn (aL nP (aH _)) rfl;apply vn (aI (by omega) (by omega)) rfl;refine bJ {i:Nat // i≤pr.length} (fun g=>[.one (.bool false), .one (.int .i64 (g.1:Int)), .one (.int .i64 0), .one (.exact (.slice none 0 0)), .one (.int .i64 0), .one (.exact (.slice none 0 0))]) (fun g=>pr.length-g.1) ⟨0,cM _⟩ aO.rfl (fun _=>rfl) ?_;rintro ⟨i,hi⟩;dsimp only [aC,aD] at hi ⊢;apply vn iZ rfl;refine vs _ rfl ?_ ?_<;>intro h4
 ·have hi':i<pr.length:=by omega
  obtain ⟨k0,hk0⟩:∃ k,kr[i]? = some k:=⟨_,bI (by omega)⟩
  obtain ⟨k1,hk1⟩:∃ k,kr[i+1]? = some k:=⟨_,bI (by omega)⟩
  have e0:=lG hk0;have e1:=lG hk1;have hkf:∀ a∈kr,Fit A a.q:=fun a ha=>T.hk _ (List.mem_map_of_mem ha);apply vn (aB (by omega) (by omega)) rfl;apply vn (aG pY (m:=i+1) (by omega) (by omega) hk1) rfl;apply vn (aR mG (by decide) (by simp) (.inl rfl)) rfl;dsimp only [aC,aD];apply aA (xA x k1 A A hx (hkf _ (dE hk1))) rfl;apply vn (aG pY (m:=i) (by omega) (Int.toNat_natCast i) hk0) rfl;apply vn (aR mG (by decide) (by simp) (.inl rfl)) rfl;apply aA (xA x k0 A A hx (hkf _ (dE hk0))) rfl;dsimp only [aC,aD];apply vn gZ rfl;dsimp only [aC,aD];have hge:(0:Int)≤fL x.q k0.q→k0.q≤x.q:=fun h=>Rat.not_lt.1 fun e=>by have:=gV.2 e;omega
  refine vs _ rfl ?_ ?_<;>intro h13
  ·apply vn bF rfl;refine vs _ rfl ?_ ?_<;>intro h15
   ·exact absurd (VN hr hpk hi' ⟨by rw [e0];exact hge h13, .inl (by rw [e1];exact gV.1 h15)⟩) hin
   apply vn cB rfl;refine vs _ rfl ?_ ?_<;>intro h21
   ·apply vn cB rfl;refine vs _ rfl ?_ ?_<;>intro h23
    ·exact absurd (VN hr hpk hi' ⟨by rw [e0];exact hge h13, .inr ⟨by omega,by rw [e1];exact nJ.1 h23⟩⟩) hin
    apply vn (aB (by omega) (by omega)) rfl;dsimp only [aC,aD];exact aY rfl ⟨⟨i+1,by omega⟩,aO.rfl,by show pr.length-(i+1)<pr.length-i;omega⟩
   apply vn (aB (by omega) (by omega)) rfl;dsimp only [aC,aD];exact aY rfl ⟨⟨i+1,by omega⟩,aO.rfl,by show pr.length-(i+1)<pr.length-i;omega⟩
  apply vn (aB (by omega) (by omega)) rfl;dsimp only [aC,aD];exact aY rfl ⟨⟨i+1,by omega⟩,aO.rfl,by show pr.length-(i+1)<pr.length-i;omega⟩
 apply aA (nO 0) rfl;exact aJ rfl
end Go.Sy
