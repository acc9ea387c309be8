/- Part. -/
import Derived.Test.YtacgmapjhpghkaaGreatDoorWe
set_option linter.all false
namespace Go.Sy
open Go Go.Proofs Tryz Ord
def bt2:Tr:=pD 99 0 0 1 0 2 0 3 0 4 0 5 0 6 0 7 4 6 (.need (.call 75 [(WK 1),(WK 2)] [(some 4)]) (.call ⟨.value (.func 75),#[(.const (I3 1)),(.const (I3 2))],#[2,2]⟩) 51 true (pD 77 1 1 1 1 2 1 3 2 0 2 1 2 2 2 3 7 8 (pA 3 3 1 3 2 3 3)))
theorem ak7:aV prog f117 ck [.v (some 8)]=bt2:=by kernel_rfl
def Wm:Tr:=hx173Q 
def bs2:Tr:=fO 56 [(G4 1)] [none] [5] [51] 3 true (eB 2 0 0 3 6 (aR 3 0 Wm (ta 39 1 4 2 51 (pD 151 4 4 1 4 2 4 3 1 0 1 1 1 2 1 3 9 10 (fO 115 [(W 0 0),(G4 5)] [none] [8,11] [102,51] 102 true (cH 6))))))
theorem aM0:aV prog f190 ck [.v none,.v (some 4)]=bs2:=by kernel_rfl
def bL8:Tr:=al 0 0 5 32 (eH 2 1 0 3 6 7 (dp 3 1 8 (cH 4)))
theorem Xn:aV prog f38 ck [.v none,.v none]=bL8:=by kernel_rfl
def bC6:Tr:=bW 10 4 51 25 (yJ 3 11 21 26 (iC 12 0 0 3 27 (aR 13 0 (pI 39 1 4 2 51 (fO 95 [(G4 14)] [none] [30] [51] 102 true (cH 15))) Wm)))
def bE9:Tr:=bA 0 0 1 0 32 13 14 (bW 5 4 51 15 (yJ 6 3 16 17 (iC 7 0 0 3 18 (aR 8 0 (ao 1 1 3 23 (bA 0 0 9 0 32 22 24 bC6)) Wm))))
def bh9:Tr:=UJ 101 16 33 74 80 102 102 102 (ao 1 1 3 84 (dp 2 1 86 (fO 116 [(W 0 0),(W 35 0),(W 36 0),(G4 3)] [none] [83,85,87,88] [32,3,3,51] 102 false (gR 101 31 0 37 82 89 102 102 102 (gR 94 34 0 38 81 90 102 102 102 (cH 39))))))
def be9:Tr:=ao 1 1 3 68 (bA 0 0 27 0 32 67 69 (bW 28 4 51 70 (pD 96 26 26 1 26 2 26 3 29 0 29 1 29 2 29 3 66 71 (fO 190 [(.one (.c (.sr 4 22))),(G4 30)] [none] [59,72] [102,51] 102 true (dp 2 1 77 (fO 116 [(W 0 0),(W 1 0),(W 32 0),(G4 3)] [none] [75,76,78,79] [32,3,3,51] 102 false bh9))))))
def bg9:Tr:=bW 19 4 51 56 (ta 39 (-1) 4 2 51 (aD0 20 21 57 58 (fF 1 2 3 61 62 (ao 23 1 3 63 (bA 0 0 24 0 32 60 64 (bW 25 4 51 65 be9))))))
def aP7:Tr:=bA 0 0 1 0 32 45 46 (bW 13 4 51 47 (pD 96 12 12 1 12 2 12 3 14 0 14 1 14 2 14 3 44 48 (fO 190 [(.one (.c (.sr 4 9))),(G4 15)] [none] [38,49] [102,51] 102 true (fF 1 2 3 52 53 (ao 17 1 3 54 (bA 0 0 18 0 32 51 55 bg9))))))
def be6:Tr:=bW 5 4 51 34 (pT 185 6 4 35 51 (ta 39 1 4 2 51 (aD0 7 8 36 37 (fF 1 2 3 40 41 (bA 0 0 10 0 32 39 42 (bW 11 4 51 43 aP7))))))
def bx2:Tr:=eB 2 0 0 3 11 (aR 4 0 bE9 (bA 0 0 1 0 32 32 33 be6))
theorem an5:aV prog f116 ck [.v none,.v none,.v none,.v (some 4)]=bx2:=by kernel_rfl
def raF(p:List RQ)(b:RQ):List RQ:=if b.q=0 then[]else VW p (.of (((1:Int):Rat)/b.q))
theorem QA(p:List RQ)(k:RQ):(VW p k).map RQ.q=wi (p.map RQ.q) k.q:=YN p k
theorem Zm(p q:List RQ):(adF p q).map RQ.q=kH (p.map RQ.q) (q.map RQ.q):=ad5 p q
theorem tG(p:List RQ)(b:RQ):(raF p b).map RQ.q=gV (p.map RQ.q) b.q:=by
 unfold raF gV;split
 ·rfl
 ·rw[QA];rfl
theorem Qe{A:Nat}{l:List RQ}{L:List Rat}(h:l.map RQ.q=L)(hf:∀a∈L,Fit A a):∀a∈l,Fit A a.q:=fun a ha=>hf _ (h▸tH ha)
theorem XN{l:List RQ}{L:List Rat}(h:l.map RQ.q=L):l.length=L.length:=by rw[<-h,aI]
theorem fN(t:List RQ)(i:Nat):(t.map RQ.q).getD i 0=(t.getD i RQ.nil).q:=(wK t i).symm
theorem bf{t:List RQ}{i:Nat}(h:i<t.length):t[i]?=some (t.getD i RQ.nil):=by rw[fQ,bQ h];rfl
theorem af{A:Nat}{t:List RQ}(h:∀a∈t,Fit A a.q)(i:Nat)(hA:1<=A:=by omega):Fit A (t.getD i RQ.nil).q:=wJ hA h i
theorem aj3(a b:RQ)(A B:Nat)(ha:Fit A a.q)(hb:Fit B b.q)(hA:1<=A)(h:A+B<=1000000000:=by omega):aU prog 117 [(.agg (rC a++rC b):aN)] (.ret [qw (.of ((a.q+b.q)*(((1:Int):Rat)/((2:Int):Rat))))]):=by
 refine dL func117 ak7 ?_;apply aA (uG a b A B ha hb);apply aA (az2 1 2);apply aA (uJ _ _ (A+B+1) 124 (ha.add hb) ((Fit.int (n:=1) (B:=62) (by omega) (by omega)).div (Fit.int (n:=2) (B:=62) (by omega) (by omega))));exact aL
theorem TL(p:List RQ)(b:RQ)(A B:Nat)(hA1:1<=A)(hl:p.length<1099511627776)(hp:∀a∈p,Fit A a.q)(hb:Fit B b.q)(hA:A+(62+B)<=1073741824):aU prog 190 [(.one (sR p):aN),(qw b:aN)] (.ret [.one (sR (raF p b))]):=by
 refine dL func190 aM0 ?_;apply aA (Zv _);apply vn bj;refine vs _ rfl ?_ ?_<;>intro h2
 ·rw[raF,aK (sign_zero.1 ‹_›)];exact fK ⟨aC.Sub.nil,trivial⟩
 apply aA (jd 1);apply aA (MN (.of ((1:Int):Rat)) b 62 B (fun h=>‹¬_› (sign_zero.2 h)) (Fit.int (n:=1) (by omega) (by omega)) hb);dsimp only[aE,aF];apply aA (ER p (.of (((1:Int):Rat)/b.q)) A (62+B) hp ((Fit.int (n:=1) (by omega) (by omega)).div hb) hl hA);dsimp only[aE,aF];rw[raF,aG fun h=>‹¬_› (sign_zero.2 h)];exact aL
theorem td(t:List RQ)(d:Nat)(hs:t.length<1099511627776:=by omega)(hd:d<1099511627776:=by omega):aU prog 38 [(.one (sR t):aN),(.one (.int .i64 (d:Int)):aN)] (.ret [.one (.int .i64 ((t.length:Int)-(d:Int)-1))]):=by
 refine dL func38 Xn ?_;apply vn (aP eG (aI _));apply vn (aH (by omega) (by omega));apply vn (aH (by omega) (by omega));exact aL
def rA(t:List RQ)(x:Rat):Nat->Nat->List RQ
 | 0,j=>if(t.getD j .nil).q<x/\x<(t.getD (j+1) .nil).q then kY [.of ((1:Int):Rat)]else[]
 | e+1,j=>adF (Si (raF [.of (-(t.getD j .nil).q),.of ((1:Int):Rat)] (.of ((t.getD (j+(e+1)) .nil).q-(t.getD j .nil).q))) (rA t x e j) (rA t x e j).length) (Si (raF [t.getD (j+(e+1)+1) .nil,.of ((-1:Int):Rat)] (.of ((t.getD (j+(e+1)+1) .nil).q-(t.getD (j+1) .nil).q))) (rA t x e (j+1)) (rA t x e (j+1)).length)
theorem mP{kn:List Rat}{k:Nat}:∀(e:Nat){j:Nat},k<j\/j+e<k->jn kn k e j=[]
 | 0,j,h=>by rw[jn,aG (by omega)]
 | e+1,j,h=>by rw[jn,aK (by omega)]
theorem wb(p:List Rat):fP p []=[]:=by rw[fP,aK (.inr rfl)]
theorem ZD{l:List Rat}(h:gT false l=true):∀(d i:Nat),i+d<l.length->l.getD i 0<=l.getD (i+d) 0
 | 0,i,_=>Rat.le_refl
 | d+1,i,hi=>by
   have h1:=ZD h d i (by omega);have h2:=zn h (i+d)
   have h3:l.getD (i+d) 0<=l.getD (i+d+1) 0:=by
    unfold iV at h2;have h2:l.getD (i+d) 0<l.getD (i+d+1) 0\/l.getD (i+d) 0=l.getD (i+d+1) 0:=by simpa using h2
    exact h2.elim sq fun h=>h▸Rat.le_refl
   exact Rat.le_trans h1 h3
theorem dS{l:List Rat}(h:gT false l=true){i j:Nat}(hij:i<=j)(hj:j<l.length:=by omega):l.getD i 0<=l.getD j 0:=by
 have:=ZD h (j-i) i (by omega)
 rwa[show i+(j-i)=j by omega]at this
theorem ax7{a b c:Rat}(h1:a<b)(h2:b<=c)(h3:c<a):False:=by grind
theorem si{t:List RQ}{x:Rat}{k:Nat}(hr:gT false (t.map RQ.q)=true)(h1:(t.getD k .nil).q<x)(h2:x<(t.getD (k+1) .nil).q)(hk:k+1<t.length):∀(e j:Nat),j+e+1<t.length->(rA t x e j).map RQ.q=jn (t.map RQ.q) k e j
 | 0,j,hj=>by
   rw[rA,jn];have hlt:(t.map RQ.q).length=t.length:=aI _;by_cases e:j=k
   ·subst e;rw[aK ⟨h1,h2⟩,aK rfl,pH];rfl
   ·rw[aG e,aG]
    ·rfl
    ·rintro⟨k1,k2⟩;rcases Nat.lt_or_gt_of_ne e with h | h
     ·have:=dS hr (show j+1<=k by omega);rw[fN,fN]at this;exact ax7 k2 this h1
     ·have:=dS hr (show k+1<=j by omega);rw[fN,fN]at this;exact ax7 h2 this k1
 | e+1,j,hj=>by
   have i1:=si hr h1 h2 hk e j (by omega);have i2:=si hr h1 h2 hk e (j+1) (by omega);rw[rA,Zm,ZO,ZO,tG,tG,i1,i2];by_cases h:k<j\/j+(e+1)<k
   ·rw[mP e (show k<j\/j+e<k by omega),mP e (show k<j+1\/j+1+e<k by omega),wb,wb,mP (e+1) h];rfl
   ·rw[jn,aG h,fN,fN,fN,fN];rfl
theorem Mc(t:List RQ)(x:RQ)(k j e A:Nat)(hA1:1<=A)(hk:∀a∈t,Fit A a.q)(hx:Fit (A+A+200) x.q)(hs:t.length<1000000)(hA2:A<=100000)(hA:lj A e<=200000)(hr:gT false (t.map RQ.q)=true)(hx1:(t.getD k .nil).q<x.q)(hx2:x.q<(t.getD (k+1) .nil).q)(hk1:k+1<t.length)(hj:j+e+1<t.length)(he:e<=60)(ih:∀e' j',e=e'+1->j'=j\/j'=j+1->aU prog 116 [.one (sR t),.one (.int .i64 (j':Int)),.one (.int .i64 (e':Int)),qw x] (.ret [.one (sR (rA t x.q e' j'))])):aU prog 116 [(.one (sR t):aN),(.one (.int .i64 (j:Int)):aN),(.one (.int .i64 (e:Int)):aN),(qw x:aN)] (.ret [.one (sR (rA t x.q e j))]):=by
 refine dL func116 an5 ?_;have hb0:=AA A e;apply vn bj;refine vs _ rfl ?_ ?_<;>intro h1
 ·obtain rfl:e=0:=by omega
  apply vn (aJ (f:=rC) eG (m:=j) (by omega) (av j) (bf (show j<t.length by omega)));apply vn (aQ gB (by decide) (by simp) (.inl rfl));apply aA (jw _ _ A (A+A+200) (af hk _ hA1) hx);dsimp only[aE,aF];apply vn aj;refine vs _ rfl ?_ ?_<;>intro h6
  ·apply vn (aB (by omega) (by omega));dsimp only[aE,aF];apply vn (aJ (f:=rC) eG (m:=j+1) (by omega) (by omega) (bf (show j+1<t.length by omega)));apply vn (aQ gB (by decide) (by simp) (.inl rfl));apply aA (jw _ _ (A+A+200) A hx (af hk _ hA1));apply vn aj;dsimp only[aE,aF];refine vs _ rfl ?_ ?_<;>intro h12
   ·apply aA (jd 1);apply aA (Td _);dsimp only[aE,aF];rw[show rA t x.q 0 j=kY [.of ((1:Int):Rat)] by rw[rA,aK ⟨iD.1 ‹_›,iD.1 ‹_›⟩]];exact aL
   rw[show rA t x.q 0 j=[] by rw[rA,aG fun h=>‹¬_› (iD.2 h.2)]];exact fK ⟨aC.Sub.nil,trivial⟩
  rw[show rA t x.q 0 j=[] by rw[rA,aG fun h=>‹¬_› (iD.2 h.1)]];exact fK ⟨aC.Sub.nil,trivial⟩
 obtain⟨e,rfl⟩:∃e',e=e'+1:=⟨e-1,by omega⟩
 have hx':=hA;rw[lj]at hx';have hpos:=AA A e;have h9:=kd (lj A e) (show 0<e+2 by omega)
 have hK:∀a∈t.map RQ.q,Fit A a:=fun a ha=>by
  obtain⟨b,hb,rfl⟩:=dH.1 ha;exact hk b hb
 have m1:=si hr hx1 hx2 hk1 e j (by omega);have m2:=si hr hx1 hx2 hk1 e (j+1) (by omega);have f1:=Qe m1 (jV hA1 hK k e j);have f2:=Qe m2 (jV hA1 hK k e (j+1));have l1:(rA t x.q e j).length<=e+1:=by rw[XN m1];exact jZ _ _ _ _
 have l2:(rA t x.q e (j+1)).length<=e+1:=by rw[XN m2];exact jZ _ _ _ _
 have g1:∀a∈raF [.of (-(t.getD j .nil).q),.of ((1:Int):Rat)] (.of ((t.getD (j+(e+1)) .nil).q-(t.getD j .nil).q)),Fit (3*A+130) a.q:=Qe (tG _ _) (by have:=Qk hA1 hK e j;rw[fN,fN]at this;exact this);have g2:∀a∈raF [t.getD (j+(e+1)+1) .nil,.of ((-1:Int):Rat)] (.of ((t.getD (j+(e+1)+1) .nil).q-(t.getD (j+1) .nil).q)),Fit (3*A+130) a.q:=Qe (tG _ _) (by have:=Ou hA1 hK e j;rw[fN,fN]at this;exact this);have k1:(raF [.of (-(t.getD j .nil).q),.of ((1:Int):Rat)] (.of ((t.getD (j+(e+1)) .nil).q-(t.getD j .nil).q))).length<=2:=by rw[XN (tG _ _)];exact jj
 have k2:(raF [t.getD (j+(e+1)+1) .nil,.of ((-1:Int):Rat)] (.of ((t.getD (j+(e+1)+1) .nil).q-(t.getD (j+1) .nil).q))).length<=2:=by rw[XN (tG _ _)];exact jj
 have n1:=zR (show 1<=3*A+130 by omega) hpos g1 f1 (rA t x.q e j).length;have n2:=zR (show 1<=3*A+130 by omega) hpos g2 f2 (rA t x.q e (j+1)).length;have q1:=zG (raF [.of (-(t.getD j .nil).q),.of ((1:Int):Rat)] (.of ((t.getD (j+(e+1)) .nil).q-(t.getD j .nil).q))) (rA t x.q e j) (rA t x.q e j).length;have q2:=zG (raF [t.getD (j+(e+1)+1) .nil,.of ((-1:Int):Rat)] (.of ((t.getD (j+(e+1)+1) .nil).q-(t.getD (j+1) .nil).q))) (rA t x.q e (j+1)) (rA t x.q e (j+1)).length;have w1:=cN (3*A+130+lj A e+1) (show(rA t x.q e j).length<=61 by omega);have w2:=cN (3*A+130+lj A e+1) (show(rA t x.q e (j+1)).length<=61 by omega);apply vn (aJ (f:=rC) eG (m:=j) (by omega) (av j) (bf (show j<t.length by omega)));apply vn (aQ gB (by decide) (by simp) (.inl rfl));apply aA (aA2 _);apply aA (jd 1);dsimp only[aE,aF];apply eL (us:=rR [.of (-(t.getD j .nil).q),.of ((1:Int):Rat)]);apply vn (aB (by omega) (by omega));dsimp only[aE,aF];apply vn (aJ (f:=rC) eG (m:=j+(e+1)) (by omega) (by omega) (bf (show j+(e+1)<t.length by omega)));apply vn (aQ gB (by decide) (by simp) (.inl rfl));dsimp only[aE,aF];apply vn (aJ (f:=rC) eG (m:=j) (by omega) (av j) (bf (show j<t.length by omega)));apply vn (aQ gB (by decide) (by simp) (.inl rfl));apply aA (aB1 _ _ A A (af hk _ hA1) (af hk _ hA1));apply aA (TL [.of (-(t.getD j .nil).q),.of ((1:Int):Rat)] (.of ((t.getD (j+(e+1)) .nil).q-(t.getD j .nil).q)) (A+62) (A+A+1) (by omega) (by simp) (Qe rfl (pL (af hk j hA1).neg (Fit.int (by omega) (by omega)))) ((af hk _ hA1).sub (af hk _ hA1)) (by omega));dsimp only[aE,aF];apply vn (aB (by omega) (by omega));apply vn (aB (by omega) (by omega));dsimp only[aE,aF];apply vn (aJ (f:=rC) eG (m:=j+(e+1)+1) (by omega) (by omega) (bf (show j+(e+1)+1<t.length by omega)));apply vn (aQ gB (by decide) (by simp) (.inl rfl));apply aA (jd (-1));apply eL (us:=rR [t.getD (j+(e+1)+1) .nil,.of ((-1:Int):Rat)]);dsimp only[aE,aF];apply vn (aB (by omega) (by omega));apply vn (aB (by omega) (by omega));dsimp only[aE,aF];apply vn (aJ (f:=rC) eG (m:=j+(e+1)+1) (by omega) (by omega) (bf (show j+(e+1)+1<t.length by omega)));apply vn (aQ gB (by decide) (by simp) (.inl rfl));apply vn (aB (by omega) (by omega));dsimp only[aE,aF];apply vn (aJ (f:=rC) eG (m:=j+1) (by omega) (by omega) (bf (show j+1<t.length by omega)));apply vn (aQ gB (by decide) (by simp) (.inl rfl));apply aA (aB1 _ _ A A (af hk _ hA1) (af hk _ hA1));apply aA (TL [t.getD (j+(e+1)+1) .nil,.of ((-1:Int):Rat)] (.of ((t.getD (j+(e+1)+1) .nil).q-(t.getD (j+1) .nil).q)) (A+62) (A+A+1) (by omega) (by simp) (Qe rfl (pL (af hk _ hA1) (Fit.int (by omega) (by omega)))) ((af hk _ hA1).sub (af hk _ hA1)) (by omega));dsimp only[aE,aF];apply vn (aH (by omega) (by omega));dsimp only[aE,aF];rw[show((e+1:Nat):Int)-1=(e:Int) by omega];apply aA (ih e j rfl (.inl rfl));apply aA (aM5 _ _ (3*A+130) (lj A e) hpos g1 f1);apply vn (aB (by omega) (by omega));dsimp only[aE,aF];rw[show((j:Int)+1)=((j+1:Nat):Int) by omega];apply vn (aH (by omega) (by omega));dsimp only[aE,aF];rw[show((e+1:Nat):Int)-1=(e:Int) by omega];apply aA (ih e (j+1) rfl (.inr rfl));apply aA (aM5 _ _ (3*A+130) (lj A e) hpos g2 f2);apply aA (XO _ _ (1+(rA t x.q e j).length*(3*A+130+lj A e+1)) (1+(rA t x.q e (j+1)).length*(3*A+130+lj A e+1)) n1 n2);dsimp only[aE,aF];rw[rA];exact aL
theorem CQ(t:List RQ)(x:RQ)(k A:Nat)(hA1:1<=A)(hA2:A<=100000)(hk:∀a∈t,Fit A a.q)(hx:Fit (A+A+200) x.q)(hs:t.length<1000000)(hr:gT false (t.map RQ.q)=true)(h1:(t.getD k .nil).q<x.q)(h2:x.q<(t.getD (k+1) .nil).q)(hk1:k+1<t.length):∀(e j:Nat),lj A e<=200000->j+e+1<t.length->e<=60->aU prog 116 [.one (sR t),.one (.int .i64 (j:Int)),.one (.int .i64 (e:Int)),qw x] (.ret [.one (sR (rA t x.q e j))])
 | 0,j,hA,hj,he=>Mc t x k j 0 A hA1 hk hx hs hA2 hA hr h1 h2 hk1 hj he (fun e' j' h _=>by omega)
 | e+1,j,hA,hj,he=>Mc t x k j (e+1) A hA1 hk hx hs hA2 hA hr h1 h2 hk1 hj he fun e' j' h hj'=>by
   obtain rfl:e'=e:=by omega
   have hx:=hA;rw[lj]at hx;have h9:=kd (lj A e') (show 0<e'+2 by omega);exact CQ t x k A hA1 hA2 hk ‹_› hs hr h1 h2 hk1 e' j' (by omega) (by omega) (by omega)
def aS2:Tr:=fO 116 [(W 0 0),(W 18 0),(W 1 0),(G4 26)] [none] [42,43,44,55] [32,3,3,51] 102 false (bA 2 0 18 0 32 57 58 (bW 28 4 51 59 (fO 115 [(W 27 0),(G4 29)] [none] [56,60] [102,51] 102 true (gR 94 17 0 30 41 61 102 102 102 (ao 18 1 3 39 (iY 1 31 32))))))
def ba2:Tr:=bW 21 4 51 67 (ju 22 32 68 (fH 4 64 6 23 64 69 32 (vH 17 33 74 (fH 1 24 7 25 73 75 33 (ao 5 1 3 21 (uM 27 24 26))))))
def aR0:Tr:=aR 20 0 (bA 0 0 5 0 32 45 46 (bW 21 4 51 47 (ao 5 1 3 50 (bA 0 0 23 0 32 49 51 (bW 24 4 51 52 (fO 117 [(.agg [(U 22 0),(U 22 1),(U 22 2),(U 22 3),(U 25 0),(U 25 1),(U 25 2),(U 25 3)])] [(some 4)] [54] [154] 51 false aS2)))))) (bA 0 0 5 0 32 65 66 ba2)
def aR7:Tr:=bW 13 4 51 30 (fO 41 [(G4 11),(G4 14)] [none] [26,31] [51,51] 3 true (eB 15 0 0 3 32 (aR 16 0 (ao 5 1 3 21 (uM 17 6 7)) (.loop 1 [lN,lK 0] (gR 38 0 0 1 35 36 32 3 3 (dD 18 0 19 3 34 37 4 aR0))))))
def bu6:Tr:=aR 9 0 (bA 0 0 5 0 32 23 24 (bW 10 4 51 25 (ao 5 1 3 28 (bA 0 0 12 0 32 27 29 aR7)))) (eH 4 1 0 3 81 82 (bA 0 0 10 0 32 80 83 (bW 11 4 51 84 (ju 12 32 85 (fH 4 64 6 13 79 86 32 (aE0 4 14 7))))))
def bO8:Tr:=al 0 0 12 32 (dp 3 1 13 (.loop 0 [lV 1 0,.nilrow,.nilrow] (eH 4 1 0 3 17 18 (dD 5 0 8 3 16 19 4 bu6))))
theorem Xf:aV prog f40 ck [.v none,.v none,.v none]=bO8:=by kernel_rfl
def nK(t:List RQ)(k:Nat):Rat:=((t.getD k .nil).q+(t.getD (k+1) .nil).q)*(((1:Int):Rat)/((2:Int):Rat))
theorem aK6{a b:Rat}(h:a<b):a<(a+b)*(((1:Int):Rat)/((2:Int):Rat))/\(a+b)*(((1:Int):Rat)/((2:Int):Rat))<b:=by
 have e:((1:Int):Rat)/((2:Int):Rat)=1/2:=rfl;rw[e]
 constructor<;>grind
def VO(t c:List RQ)(x:Rat)(d:Nat):Nat->List RQ
 | 0=>[]
 | n+1=>adF (VO t c x d n) (VW (rA t x d n) (c.getD n .nil))
theorem VJ{p:List Rat}(h:lz p):kH p []=p:=uR (uI _ _) h fun x=>by rw[jx];show ev p x+0=ev p x;grind
theorem Bn(kn:List Rat)(d:Nat)(cf:List Rat)(i lo:Nat):∀n,lz (rN kn d cf i lo n)
 | 0=>by intro b hb;cases hb
 | n+1=>by rw[gv];exact uI _ _
theorem ad2(k:Rat):wi [] k=[]:=rfl
theorem VM{kn cf:List Rat}{d k:Nat}:∀n,n+d<=k->rN kn d cf k 0 n=[]
 | 0,_=>rfl
 | n+1,h=>by rw[gv,VM n (by omega),mP d (show k<0+n\/0+n+d<k by omega),ad2,VJ (by intro b hb;cases hb)]
theorem Ty{kn cf:List Rat}{d k:Nat}:∀n,rN kn d cf k 0 (k-d+n)=rN kn d cf k (k-d) n
 | 0=>by
   rw[bq];by_cases h:d<=k
   ·rw[VM (k-d) (by omega)];rfl
   ·rw[show k-d=0 by omega]
 | n+1=>by rw[<-jA,gv,gv,Ty n,bM]
theorem aA1{kn cf:List Rat}{d k lo:Nat}:∀m n,k<lo+n->rN kn d cf k lo (n+m)=rN kn d cf k lo n
 | 0,n,_=>rfl
 | m+1,n,h=>by rw[<-jA,gv,mP d (show k<lo+(n+m)\/lo+(n+m)+d<k by omega),ad2,VJ (Bn _ _ _ _ _ _),aA1 m n h]
theorem bg8{kn cf:List Rat}{d k:Nat}(hk:k+d+1<kn.length)(hd:d<=k):rN kn d cf k 0 (kn.length-d-1)=nW kn d cf k:=by
 have h1:=Ty (kn:=kn) (cf:=cf) (d:=d) (k:=k) ((min k (kn.length-d-1-1)+1-(k-d))+(kn.length-d-1-1-k));rw[show k-d+((min k (kn.length-d-1-1)+1-(k-d))+(kn.length-d-1-1-k))=kn.length-d-1 by omega]at h1;rw[h1,aA1 _ _ (by omega)];rfl
theorem Sb{t c:List RQ}{x:Rat}{k d:Nat}(hr:gT false (t.map RQ.q)=true)(h1:(t.getD k .nil).q<x)(h2:x<(t.getD (k+1) .nil).q)(hk:k+1<t.length):∀n,n+d<t.length->(VO t c x d n).map RQ.q=rN (t.map RQ.q) d (c.map RQ.q) k 0 n
 | 0,_=>rfl
 | n+1,hn=>by
   rw[VO,gv,Zm,QA,Sb hr h1 h2 hk n (by omega),si hr h1 h2 hk d n (by omega),bM,fN]
abbrev yr(t:List RQ)(d i:Nat):List Nat:=oJ (t.map RQ.q) d i
theorem AU(t c:List RQ)(d A:Nat)(hk:∀a∈t,Fit A a.q)(hc:∀a∈c,Fit A a.q)(hs:t.length<=60)(h2:2*d+2<=t.length)(hcl:c.length=t.length-d-1)(hr:gT false (t.map RQ.q)=true)(hA:lj A d<=200000)(hA1:1<=A:=by omega)(hA2:A<=100000:=by omega):aU prog 40 [(.one (sR t):aN),(.one (.int .i64 (d:Int)):aN),(.one (sR c):aN)] (.ret [.agg [sR ((yr t d (t.length-1-d)).map (fun k=>t.getD k .nil)++[t.getD (t.length-1-d) .nil]),eR ((yr t d (t.length-1-d)).map fun k=>VO t c (nK t k) d (t.length-d-1))]]):=by
 refine dL func40 Xf ?_
 have hK:∀a∈t.map RQ.q,Fit A a:=fun a ha=>by
  obtain⟨b,hb,rfl⟩:=dH.1 ha;exact hk b hb
 have hC:∀a∈c.map RQ.q,Fit A a:=fun a ha=>by
  obtain⟨b,hb,rfl⟩:=dH.1 ha;exact hc b hb
 have hb1:=AA A d;apply vn (aP eG (aI _));apply vn (aH (by omega) (by omega));refine bE {i:Nat // d<=i/\i<=t.length-1-d} (fun g=>[.one (.int .i64 (g.1:Int)),.rows (rR ((yr t d g.1).map fun k=>t.getD k .nil)),.rows (((yr t d g.1).map fun k=>VO t c (nK t k) d (t.length-d-1)).map cR)]) (fun g=>t.length-g.1) ⟨d,aa _,by omega⟩ (by dsimp only;rw[yr,vF];exact aZ.rfl) (fun _=>rfl) ?_;rintro⟨i,hdi,hi⟩;dsimp only[aE,aF]at hdi hi|-;have hnl:=vG (t.map RQ.q) d i;have hm1:((yr t d i).map fun k=>t.getD k .nil).length<=i:=by rw[aI];exact hnl
 have hm2:((yr t d i).map fun k=>VO t c (nK t k) d (t.length-d-1)).length<=i:=by rw[aI];exact hnl
 apply vn (aH (by omega) (by omega));apply vn aj;refine vs _ rfl ?_ ?_<;>intro h5
 ·apply vn (aJ (f:=rC) eG (m:=i) (by omega) (av i) (bf (show i<t.length by omega)));apply vn (aQ gB (by decide) (by simp) (.inl rfl));dsimp only[aE,aF];apply vn (aB (by omega) (by omega));dsimp only[aE,aF];apply vn (aJ (f:=rC) eG (m:=i+1) (by omega) (by omega) (bf (show i+1<t.length by omega)));apply vn (aQ gB (by decide) (by simp) (.inl rfl));apply aA (jw _ _ A A (af hk _ hA1) (af hk _ hA1));apply vn bj;dsimp only[aE,aF];refine vs _ rfl ?_ ?_<;>intro h13
  ·have heq:=gL.1 ‹_›;apply vn (aB (by omega) (by omega));dsimp only[aE,aF];rw[show yr t d i=yr t d (i+1)from(wV (by rintro⟨_,h⟩;rw[fN,fN]at h;exact h heq)).symm];exact ab rfl ⟨⟨i+1,by omega,by omega⟩,aZ.rfl,by show t.length-(i+1)<t.length-i;omega⟩
  have hne:(t.getD i .nil).q≠(t.getD (i+1) .nil).q:=fun h=>‹¬_› (gL.2 h)
  have hlt:(t.getD i .nil).q<(t.getD (i+1) .nil).q:=by
   have:=dS hr (show i<=i+1 by omega) (by rw[aI];omega);rw[fN,fN]at this;exact Rat.not_le.1 fun h=>hne (Rat.le_antisymm this h)
  obtain⟨x1,x2⟩:(t.getD i .nil).q<nK t i/\nK t i<(t.getD (i+1) .nil).q:=aK6 hlt;have hxf:Fit (A+A+200) (nK t i):=(((af hk i hA1).add (af hk (i+1) hA1)).mul ((Fit.int (n:=1) (B:=62) (by omega) (by omega)).div (Fit.int (n:=2) (B:=62) (by omega) (by omega)))).mono (by omega);refine bE {n:Nat // n<=t.length-d-1} (fun g=>[.one (sR (VO t c (nK t i) d g.1)),.one (.int .i64 (g.1:Int))]) (fun g=>t.length-d-1-g.1) ⟨0,cz _⟩ ⟨aC.Sub.nil,.inl rfl,trivial⟩ (fun _=>rfl) ?_;rintro⟨n,hn⟩;dsimp only[aE,aF]at hn|-;have hcm:=Sb (c:=c) hr x1 x2 (show i+1<t.length by omega) n (show n+d<t.length by omega);have hcf:=Qe hcm (wU hA1 hK hC d i 0 hb1 n);have hcn:(VO t c (nK t i) d n).length<=d+1:=by rw[XN hcm];exact vY _ _ _ _ _ _
  have hnb:n*(lj A d+A+1)<=60*(lj A d+A+1):=cN _ (by omega);apply aA (td t d);apply vn aj;refine vs _ rfl ?_ ?_<;>intro h19
  ·have hlt':n<c.length:=by omega
   have hmm:=si hr x1 x2 (show i+1<t.length by omega) d n (show n+d+1<t.length by omega);have hmf:=Qe hmm (jV hA1 hK i d n);have hml:(rA t (nK t i) d n).length<=d+1:=by rw[XN hmm];exact jZ _ _ _ _
   have hsm:=QA (rA t (nK t i) d n) (c.getD n .nil);have hsf:∀a∈VW (rA t (nK t i) d n) (c.getD n .nil),Fit (lj A d+A) a.q:=QG hb1 hmf (af hc n hA1);have hsl:=PE (rA t (nK t i) d n) (c.getD n .nil);apply vn (aJ (f:=rC) eG (m:=i) (by omega) (av i) (bf (show i<t.length by omega)));apply vn (aQ gB (by decide) (by simp) (.inl rfl));dsimp only[aE,aF];apply vn (aB (by omega) (by omega));dsimp only[aE,aF];apply vn (aJ (f:=rC) eG (m:=i+1) (by omega) (by omega) (bf (show i+1<t.length by omega)));apply vn (aQ gB (by decide) (by simp) (.inl rfl));apply aA (aj3 (t.getD i .nil) (t.getD (i+1) .nil) A A (af hk _ hA1) (af hk _ hA1) hA1);apply aA (CQ t (.of (nK t i)) i A hA1 hA2 hk hxf (by omega) hr x1 x2 (by omega) d n hA (by omega) (by omega));dsimp only[aE,aF];apply vn (aJ (f:=rC) eG (m:=n) (by omega) (av n) (bf hlt'));apply vn (aQ gB (by decide) (by simp) (.inl rfl));apply aA (ER (rA t (nK t i) d n) (c.getD n .nil) (lj A d) A hmf (af hc n hA1));apply aA (XO (VO t c (nK t i) d n) (VW (rA t (nK t i) d n) (c.getD n .nil)) (1+n*(lj A d+A+1)) (lj A d+A) hcf hsf);dsimp only[aE,aF];apply vn (aB (by omega) (by omega));dsimp only[aE,aF];exact ab rfl ⟨⟨n+1,by omega⟩,⟨.inl (by rw[VO];rfl),.inl rfl,trivial⟩,by show t.length-d-1-(n+1)<t.length-d-1-n;omega⟩
  obtain rfl:n=t.length-d-1:=by omega
  apply vn (aJ (f:=rC) eG (m:=i) (by omega) (av i) (bf (show i<t.length by omega)));apply vn (aQ gB (by decide) (by simp) (.inl rfl));apply eL (us:=[rC (t.getD i .nil)]);refine iE (xs:=(yr t d i).map fun k=>t.getD k .nil) (x:=t.getD i .nil) (f:=rC) rfl rfl (by omega) (by simp only[maxLen];omega) ?_;dsimp only[aE,aF];apply eL (us:=[cR (VO t c (nK t i) d (t.length-d-1))]);refine iE (xs:=(yr t d i).map fun k=>VO t c (nK t k) d (t.length-d-1)) (x:=VO t c (nK t i) d (t.length-d-1)) (f:=cR) rfl rfl (by omega) (by simp only[maxLen];omega) ?_;rw[show(yr t d i).map (fun k=>t.getD k .nil)++[t.getD i .nil]=(yr t d (i+1)).map fun k=>t.getD k .nil by rw[yr,yr,oy ⟨hdi,by rw[fN,fN];exact hne⟩,bt];rfl,show(yr t d i).map (fun k=>VO t c (nK t k) d (t.length-d-1))++[VO t c (nK t i) d (t.length-d-1)]=(yr t d (i+1)).map fun k=>VO t c (nK t k) d (t.length-d-1) by rw[yr,yr,oy ⟨hdi,by rw[fN,fN];exact hne⟩,bt];rfl];apply vn (aB (by omega) (by omega));dsimp only[aE,aF];exact ab rfl ⟨⟨i+1,by omega,by omega⟩,aZ.rfl,by show t.length-(i+1)<t.length-i;omega⟩
 obtain rfl:i=t.length-1-d:=by omega
 apply vn (aH (by omega) (by omega));dsimp only[aE,aF];apply vn (aJ (f:=rC) eG (m:=t.length-1-d) (by omega) (by omega) (bf (show t.length-1-d<t.length by omega)));apply vn (aQ gB (by decide) (by simp) (.inl rfl));apply eL (us:=[rC (t.getD (t.length-1-d) .nil)]);refine iE (xs:=(yr t d (t.length-1-d)).map fun k=>t.getD k .nil) (x:=t.getD (t.length-1-d) .nil) (f:=rC) rfl rfl (by omega) (by simp only[maxLen];omega) ?_;exact aL
def uA:Tr:=hx154Q 
def bg6:Tr:=bA 0 0 21 0 32 44 48 (bW 22 4 51 49 (fO 41 [(G4 19),(G4 23)] [none] [43,50] [51,51] 3 true (eB 24 0 0 3 51 (aR 25 0 uA (ao 13 1 3 38 (iY 0 12 26))))))
def bg2:Tr:=bW 29 4 51 73 (eH 19 1 0 3 76 77 (bA 0 0 31 0 32 75 78 (bW 32 4 51 79 (yJ 30 33 74 80 (iC 34 0 0 3 81 (cH 35))))))
def aW1:Tr:=bW 23 4 51 63 (yJ 21 24 59 64 (iC 25 0 0 3 65 (aR 26 0 (eH 19 1 0 3 69 70 (dp 27 1 71 (bA 0 0 28 0 32 68 72 bg2))) uA)))
def bi6:Tr:=aR 17 0 (bA 0 0 13 0 32 40 41 (bW 18 4 51 42 (fF 13 1 3 45 46 (ao 20 1 3 47 bg6)))) (al 0 0 53 32 (dp 18 1 54 (bA 0 0 1 0 32 56 57 (bW 20 4 51 58 (ao 1 1 3 61 (bA 0 0 22 0 32 60 62 aW1))))))
def aW3:Tr:=kL 10 0 28 (aR 11 0 uA (xj 0 (fF 13 1 3 31 32 (ao 14 1 3 33 (al 0 0 35 32 (dD 15 0 16 3 34 36 4 bi6))))))
def bu3:Tr:=ao 5 2 3 17 (dD 4 0 6 3 15 18 4 (aR 7 0 uA (al 0 0 22 32 (qS .gtr 3 23 60 8 0 4 (aR 9 0 uA (aF1 60 27 32 aW3))))))
def bO6:Tr:=iC 1 0 0 3 7 (aR 2 0 uA (qS .gtr 3 10 5 1 0 4 (aR 3 0 uA (al 0 0 14 32 (ax4 16 bu3)))))
theorem Ig:aV prog f37 ck [.v none,.v none]=bO6:=by kernel_rfl
def aN0:Tr:=Wt 2
def bu7:Tr:=aR 5 0 aN0 (al 2 0 19 28 (fO 104 [(G2 3)] [none] [21] [157] 3 false (oe .neq 3 20 22 6 0 7 0 4 (aR 8 0 aN0 (fO 105 [(G2 3),(W 2 0)] [(some 2)] [26,27] [157,28] 31 true (.ret [(G2 9),(WK 0)]))))))
def bL2:Tr:=UC 103 0 1 0 2 11 12 28 3 158 (kL 4 0 16 bu7)
theorem Fl:aV prog f35 ck [.v none,.v none,.v none]=bL2:=by kernel_rfl
def im(kn:List Rat)(z:Int):Prop:=0<=z/\EZ kn z.toNat
noncomputable instance (kn:List Rat) (z:Int):Decidable (im kn z):=Classical.propDecidable _
theorem im.of{kn:List Rat}{d:Nat}(h:im kn (d:Int)):EZ kn d:=h.2
theorem qc(kn:List Rat)(z:Int)(A:Nat)(hA1:1<=A)(hA:A<=1073741824)(hk:∀a∈kn,Fit A a)(hs:kn.length<1099511627776)(hz:-9223372036854775808<=z/\z<9223372036854775808):aU prog 103 [(.one (sQ kn):aN),(.one (.int .i64 z):aN)] (.ret [.agg [sQ kn,.int .i64 z],.one (.bool (decide (im kn z)))]):=by
 refine dL func103 LP ?_;apply vn aj;refine vs _ rfl ?_ ?_<;>intro h1
 ·rw[cE (show ¬im kn z from fun h=>by have:=h.1;omega)];exact aL
 apply vn fB;refine vs _ rfl ?_ ?_<;>intro h4
 ·rw[cE (show ¬im kn z from fun h=>by have:=h.1;have:=h.2.hd;omega)];exact aL
 obtain⟨d,rfl⟩:∃d:Nat,z=(d:Int):=⟨z.toNat,by omega⟩
 apply vn (aP ay (aI _));apply vn pN;dsimp only[aE,aF];apply vn (aB (by omega) (by omega));apply vn aj;refine vs _ rfl ?_ ?_<;>intro h10
 ·rw[cE (show ¬im kn d from fun h=>by have:=h.of.h2;omega)];exact aL
 apply vn (aP ay (aI _));apply vn fB;dsimp only[aE,aF];refine vs _ rfl ?_ ?_<;>intro h14
 ·rw[cE (show ¬im kn d from fun h=>by have:=h.of.hs;omega)];exact aL
 apply aA (qU kn false A hk hA1 hA);rw[<-Bool.decide_eq_true (b:=gT false kn)];apply vn mn;refine vs _ rfl ?_ ?_<;>intro h18
 ·rw[cE (show ¬im kn d from fun h=>absurd h.of.hr ‹_›)];exact aL
 have hris:gT false kn=true:=oA.1 ‹_›;apply vn (aB (by omega) (by omega));refine bE {j:Nat // d+1<=j/\j<=kn.length/\∀i,d+1<=i->i<j->kn.getD i 0≠kn.getD (i-d-1) 0} (fun g=>[.one (.bool false),.one (.int .i64 (g.1:Int)),.one (.exact (.slice none 0 0)),.one (.int .i64 0)]) (fun g=>kn.length-g.1) ⟨d+1,aa _,by omega,fun i h1 h2=>by omega⟩ aZ.rfl (fun _=>rfl) ?_;rintro⟨j,hj1,hj2,hj3⟩;dsimp only[aE,aF]at hj1 hj2 hj3|-;apply vn (aP ay (aI _));apply vn aj;refine vs _ rfl ?_ ?_<;>intro h24
 ·apply vn (aJ ay (m:=j) (by omega) (av j) (aX (show j<kn.length by omega)));apply vn (aQ cM (by decide) (by simp) (.inl rfl));dsimp only[aE,aF];apply vn (aH (by omega) (by omega));apply vn (aH (by omega) (by omega));dsimp only[aE,aF];apply vn (aJ ay (m:=j-d-1) (by omega) (by omega) (aX (show j-d-1<kn.length by omega)));apply vn (aQ cM (by decide) (by simp) (.inl rfl));apply aA (jH _ _ A A (aD hk _ hA1) (aD hk _ hA1));apply vn bj;dsimp only[aE,aF];refine vs _ rfl ?_ ?_<;>intro h33
  ·rw[cE (show ¬im kn d from fun h=>h.of.hm j hj1 (by omega) (gL.1 ‹_›))];exact aL
  apply vn (aB (by omega) (by omega))
  exact ab rfl ⟨⟨j+1,by omega,by omega,fun i h1 h2=>by
   by_cases e:i<j
   ·exact hj3 i h1 e
   ·obtain rfl:i=j:=by omega
    exact fun h=>‹¬ef (kn.getD i 0) (kn.getD (i-d-1) 0)=0› (gL.2 h)⟩,aZ.rfl,by show kn.length-(j+1)<kn.length-j;omega⟩
 apply vn (aP ay (aI _));apply vn (aH (by omega) (by omega));apply vn (aH (by omega) (by omega));dsimp only[aE,aF];apply vn (aJ ay (m:=d) (by omega) (av d) (aX (show d<kn.length by omega)));apply vn (aQ cM (by decide) (by simp) (.inl rfl));apply vn (aB (by omega) (by omega));dsimp only[aE,aF];apply vn (aJ ay (m:=d+1) (by omega) (by omega) (aX (show d+1<kn.length by omega)));apply vn (aQ cM (by decide) (by simp) (.inl rfl));apply aA (jH _ _ A A (aD hk _ hA1) (aD hk _ hA1));apply vn aj;dsimp only[aE,aF];refine vs _ rfl ?_ ?_<;>intro h47
 ·apply vn (aH (by omega) (by omega));dsimp only[aE,aF];apply vn (aJ ay (m:=kn.length-1-d-1) (by omega) (by omega) (aX (show kn.length-1-d-1<kn.length by omega)));apply vn (aQ cM (by decide) (by simp) (.inl rfl));dsimp only[aE,aF];apply vn (aJ ay (m:=kn.length-1-d) (by omega) (by omega) (aX (show kn.length-1-d<kn.length by omega)));apply vn (aQ cM (by decide) (by simp) (.inl rfl));apply aA (jH _ _ A A (aD hk _ hA1) (aD hk _ hA1));apply vn aj;dsimp only[aE,aF];rw[kF.2 (show ef (kn.getD (kn.length-1-d-1) 0) (kn.getD (kn.length-1-d) 0)<0↔im kn d from⟨fun h=>⟨by omega,⟨by omega,by omega,by omega,hris,fun i h1 h2=>hj3 i h1 (by omega),‹_›,h⟩⟩,fun h=>h.of.hl⟩)];exact aL
 rw[cE (show ¬im kn d from fun h=>‹¬ef (kn.getD d 0) (kn.getD (d+1) 0)<0› h.of.hf)];exact aL
theorem GF(t:List RQ)(z:Int)(A:Nat)(hk:∀a∈t,Fit A a.q)(hs:t.length<1099511627776)(hz:-9223372036854775808<=z/\z<9223372036854775808)(hA1:1<=A:=by omega)(hA:A<=1073741824:=by omega):aU prog 37 [(.one (sR t):aN),(.one (.int .i64 z):aN)] (.ret [.one (.bool (decide (im (t.map RQ.q) z)))]):=by
 refine dL func37 Ig ?_;have hlm:(t.map RQ.q).length=t.length:=aI _;apply vn aj;refine vs _ rfl ?_ ?_<;>intro h1
 ·rw[cE (show ¬im (t.map RQ.q) z from fun h=>by have:=h.1;omega)];exact aL
 apply vn fB;refine vs _ rfl ?_ ?_<;>intro h4
 ·rw[cE (show ¬im (t.map RQ.q) z from fun h=>by have:=h.1;have:=h.2.hd;omega)];exact aL
 obtain⟨d,rfl⟩:∃d:Nat,z=(d:Int):=⟨z.toNat,by omega⟩
 apply vn (aP eG (aI _));apply vn pN;dsimp only[aE,aF];apply vn (aB (by omega) (by omega));apply vn aj;refine vs _ rfl ?_ ?_<;>intro h10
 ·rw[cE (show ¬im (t.map RQ.q) d from fun h=>by have:=h.of.h2;omega)];exact aL
 apply vn (aP eG (aI _));apply vn fB;dsimp only[aE,aF];refine vs _ rfl ?_ ?_<;>intro h14
 ·rw[cE (show ¬im (t.map RQ.q) d from fun h=>by have:=h.of.hs;omega)];exact aL
 apply aA (aD1 t false A hk hA);rw[<-Bool.decide_eq_true (b:=gT false (t.map RQ.q))];apply vn mn;refine vs _ rfl ?_ ?_<;>intro h18
 ·rw[cE (show ¬im (t.map RQ.q) d from fun h=>absurd h.of.hr ‹_›)];exact aL
 have hris:gT false (t.map RQ.q)=true:=oA.1 ‹_›;refine bE {j:Nat // j+d+1<=t.length/\∀i,i<j->(t.getD i .nil).q≠(t.getD (i+d+1) .nil).q} (fun g=>[.one (.bool false),.one (.int .i64 (g.1:Int))]) (fun g=>t.length-g.1) ⟨0,by omega,fun i h=>by omega⟩ aZ.rfl (fun _=>rfl) ?_;rintro⟨j,hj2,hj3⟩;dsimp only[aE,aF]at hj2 hj3|-;apply vn (aB (by omega) (by omega));apply vn (aB (by omega) (by omega));apply vn (aP eG (aI _));apply vn aj;dsimp only[aE,aF];refine vs _ rfl ?_ ?_<;>intro h25
 ·apply vn (aJ (f:=rC) eG (m:=j) (by omega) (av j) (bf (show j<t.length by omega)));apply vn (aQ gB (by decide) (by simp) (.inl rfl));apply vn (aB (by omega) (by omega));apply vn (aB (by omega) (by omega));dsimp only[aE,aF];apply vn (aJ (f:=rC) eG (m:=j+d+1) (by omega) (by omega) (bf (show j+d+1<t.length by omega)));apply vn (aQ gB (by decide) (by simp) (.inl rfl));apply aA (jw _ _ A A (af hk _ hA1) (af hk _ hA1));apply vn bj;dsimp only[aE,aF];refine vs _ rfl ?_ ?_<;>intro h34
  ·rw[cE (show ¬im (t.map RQ.q) d from fun h=>h.of.hm (j+d+1) (by omega) (by omega) (by rw[show j+d+1-d-1=j by omega,fN,fN];exact(gL.1 ‹_›).symm))];exact aL
  apply vn (aB (by omega) (by omega))
  exact ab rfl ⟨⟨j+1,by omega,fun i h2=>by
   by_cases e:i<j
   ·exact hj3 i e
   ·obtain rfl:i=j:=by omega
    exact fun h=>‹¬ef (t.getD i RQ.nil).q (t.getD (i+d+1) RQ.nil).q=0› (gL.2 h)⟩,aZ.rfl,by show t.length-(j+1)<t.length-j;omega⟩
 apply vn (aP eG (aI _));apply vn (aH (by omega) (by omega));dsimp only[aE,aF];apply vn (aJ (f:=rC) eG (m:=d) (by omega) (av d) (bf (show d<t.length by omega)));apply vn (aQ gB (by decide) (by simp) (.inl rfl));apply vn (aB (by omega) (by omega));dsimp only[aE,aF];apply vn (aJ (f:=rC) eG (m:=d+1) (by omega) (by omega) (bf (show d+1<t.length by omega)));apply vn (aQ gB (by decide) (by simp) (.inl rfl));apply aA (jw _ _ A A (af hk _ hA1) (af hk _ hA1));apply vn aj;dsimp only[aE,aF];refine vs _ rfl ?_ ?_<;>intro h47
 ·apply vn (aH (by omega) (by omega));apply vn (aH (by omega) (by omega));dsimp only[aE,aF];apply vn (aJ (f:=rC) eG (m:=t.length-1-d-1) (by omega) (by omega) (bf (show t.length-1-d-1<t.length by omega)));apply vn (aQ gB (by decide) (by simp) (.inl rfl));apply vn (aH (by omega) (by omega));dsimp only[aE,aF];apply vn (aJ (f:=rC) eG (m:=t.length-1-d) (by omega) (by omega) (bf (show t.length-1-d<t.length by omega)));apply vn (aQ gB (by decide) (by simp) (.inl rfl));apply aA (jw _ _ A A (af hk _ hA1) (af hk _ hA1));apply vn aj;dsimp only[aE,aF]
  rw[kF.2 (show ef (t.getD (t.length-1-d-1) RQ.nil).q (t.getD (t.length-1-d) RQ.nil).q<0↔im (t.map RQ.q) d from⟨fun h=>⟨by omega,⟨by omega,by omega,by omega,hris,fun i h1 h2=>by
   have:=hj3 (i-d-1) (by omega);rw[show i-d-1+d+1=i by omega]at this;rw[fN,fN];exact kI this,by rw[fN,fN];assumption,by rw[hlm,fN,fN];exact h⟩⟩,fun h=>by have:=h.of.hl;rw[hlm,fN,fN]at this;exact this⟩)];exact aL
 rw[cE (show ¬im (t.map RQ.q) d from fun h=>‹¬ef (t.getD d RQ.nil).q (t.getD (d+1) RQ.nil).q<0› (by have:=h.of.hf;rw[fN,fN]at this;exact this))];exact aL
abbrev cg7(kn cf:List Rat)(d:Nat):aN:=.agg [sQ ((oJ kn d (kn.length-1-d)).map (fun t=>kn.getD t 0)++[kn.getD (kn.length-1-d) 0]),eQ ((oJ kn d (kn.length-1-d)).map (nW kn d cf))]
theorem Wz(kn cf:List Rat)(d A:Nat)(hk:∀a∈kn,Fit A a)(hc:∀a∈cf,Fit A a)(F:EZ kn d)(hcl:cf.length=kn.length-d-1)(hA1:1<=A:=by omega)(hA:lj A d+A<=1000000:=by omega):aU prog 35 [(.one (sQ kn):aN),(.one (.int .i64 (d:Int)):aN),(.one (sQ cf):aN)] (.ret [cg7 kn cf d,.one (.int .i64 0)]):=by
 refine dL func35 Fl ?_;have hs:=F.hs;have hd:=F.hd;have h2:=F.h2;apply aA (pJ kn d A hk F hA1);apply vn gQ;refine jm false rfl (fun h=>by cases h) (fun _=>?_);apply vn (aP ay (aI _));apply aA (gC kn d);dsimp only[aE,aF];apply vn fC;refine vs _ rfl ?_ ?_<;>intro h7
 ·exfalso;omega
 apply aA (Bm kn cf d A hk hc hcl hA hA1 h2);exact aL
abbrev bX0:aN:=.agg [sQ [],eQ []]
theorem wQ(kn cf:List Rat)(z:Int)(A:Nat)(hA1:1<=A)(hA:A<=1073741824)(hk:∀a∈kn,Fit A a)(hs:kn.length<1099511627776)(hcs:cf.length<1099511627776)(hz:-9223372036854775808<=z/\z<9223372036854775808)(hno:¬(im kn z/\(cf.length:Int)=(kn.length:Int)-z-1)):aU prog 35 [(.one (sQ kn):aN),(.one (.int .i64 z):aN),(.one (sQ cf):aN)] (.ret [bX0,.one (.int .i64 2)]):=by
 refine dL func35 Fl ?_;apply aA (qc kn z A hA1 hA hk hs hz);apply vn mn;refine vs _ rfl ?_ ?_<;>intro h2
 ·exact fK ⟨⟨aC.Sub.nil,aC.Sub.nil,trivial⟩,aC.Sub.same,trivial⟩
 have hF:im kn z:=oA.1 ‹_›;obtain⟨d,rfl⟩:∃d:Nat,z=(d:Int):=⟨z.toNat,by have:=hF.1;omega⟩
 have hFs:=hF.of.hs;have hFd:=hF.of.hd;apply vn (aP ay (aI _));apply aA (gC kn d);dsimp only[aE,aF];apply vn fC;rw[bV (show(cf.length:Int)≠(kn.length:Int)-(d:Int)-1 from fun h=>hno ⟨hF,h⟩)];refine jm true rfl (fun _=>?_) (fun h=>by cases h);exact fK ⟨⟨aC.Sub.nil,aC.Sub.nil,trivial⟩,aC.Sub.same,trivial⟩
theorem AP(kn:List Rat)(z i:Int)(A:Nat)(hA1:1<=A)(hA:A<=1073741824)(hk:∀a∈kn,Fit A a)(hs:kn.length<1099511627776)(hz:-9223372036854775808<=z/\z<9223372036854775808)(hno:¬(im kn z/\0<=i/\i<(kn.length:Int)-z-1)):aU prog 34 [(.one (sQ kn):aN),(.one (.int .i64 z):aN),(.one (.int .i64 i):aN)] (.ret [bX0,.one (.int .i64 (if im kn z then 3 else 2))]):=by
 refine dL func34 Vr ?_;apply aA (qc kn z A hA1 hA hk hs hz);apply vn mn;refine vs _ rfl ?_ ?_<;>intro h2
 ·rw[aG (show ¬im kn z from ‹_›)];exact fK ⟨⟨aC.Sub.nil,aC.Sub.nil,trivial⟩,aC.Sub.same,trivial⟩
 have hF:im kn z:=oA.1 ‹_›;obtain⟨d,rfl⟩:∃d:Nat,z=(d:Int):=⟨z.toNat,by have:=hF.1;omega⟩
 have hFs:=hF.of.hs;have hFd:=hF.of.hd;apply vn aj;refine vs _ rfl ?_ ?_<;>intro h5
 ·rw[aK hF];exact fK ⟨⟨aC.Sub.nil,aC.Sub.nil,trivial⟩,aC.Sub.same,trivial⟩
 apply aA (gC kn d);dsimp only[aE,aF];apply vn iI;rw[bV (show(kn.length:Int)-(d:Int)-1<=i from mc.1 fun h=>hno ⟨hF,by omega,h⟩)];refine jm true rfl (fun _=>?_) (fun h=>by cases h);rw[aK hF];exact fK ⟨⟨aC.Sub.nil,aC.Sub.nil,trivial⟩,aC.Sub.same,trivial⟩
end Go.Sy
