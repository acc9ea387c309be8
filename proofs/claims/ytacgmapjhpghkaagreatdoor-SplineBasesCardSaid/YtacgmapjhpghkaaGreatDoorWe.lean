/- Part. -/
import Derived.Test.YtacgmapjhpghkaaGreatDoorWd
set_option linter.all false
namespace Go.Sy
open Go Go.Proofs Tryz Ord
def bM3:Tr:=bA 0 0 1 0 205 12 13 (dh 5 2 14 (nL 63 6 3 15 2 46 (wM 7 28 16 (fH 3 56 2 8 11 17 28 (ao 1 1 3 9 (gq 0 10 9))))))
def bp6:Tr:=xr (al 0 0 6 205 (dD 1 0 3 3 5 7 4 (aR 4 0 bM3 (nP 3 2))))
theorem bc1:aV prog f71 ck [.v none]=bp6:=by kernel_rfl
def MT:Tr:=hx173Q 
def bL4:Tr:=EK 23 1 5 3 (eB 2 0 0 3 6 (aR 3 0 MT (ta 113 1 3 3 46 (jN 112 4 4 1 4 2 1 9 10 (fO 125 [(W 0 0),(G3 5)] [none] [8,11] [98,46] 98 true (cH 6))))))
theorem aT8:aV prog f228 ck [.v none,.v (some 3)]=bL4:=by kernel_rfl
def bc4:Tr:=fO 228 [(.one (.c (.sr 3 27))),(G3 35)] [none] [66,79] [98,46] 98 false (ao 1 1 3 82 (dp 2 1 84 (fO 188 [(G3 0),(W 37 0),(W 38 0)] [none] [81,83,85] [228,3,3] 98 true (gR 64 36 0 39 80 86 98 98 98 (gR 66 21 0 40 88 89 98 98 98 (cH 41))))))
def bi0:Tr:=ao 28 1 3 70 (bA 0 0 29 0 28 67 71 (bW 30 3 46 72 (ao 1 1 3 75 (bA 0 0 32 0 28 74 76 (bW 33 3 46 77 (pE 86 31 31 1 31 2 34 73 78 bc4))))))
def bc2:Tr:=fF 1 2 3 59 60 (ao 22 1 3 61 (bA 0 0 23 0 28 58 62 (bW 24 3 46 63 (ta 113 (-1) 3 3 46 (az1 25 26 64 65 (fF 1 2 3 68 69 bi0))))))
def aT4:Tr:=bA 0 0 1 0 28 46 47 (bW 15 3 46 48 (pE 86 14 14 1 14 2 16 45 49 (fO 228 [(.one (.c (.sr 3 11))),(G3 17)] [none] [39,50] [98,46] 98 false (dp 2 1 54 (fO 188 [(G3 0),(W 1 0),(W 19 0)] [none] [52,53,55] [228,3,3] 98 true (gR 64 18 0 20 51 56 98 98 98 bc2))))))
def aQ1:Tr:=bW 7 3 46 35 (rD 65 8 3 36 46 (ta 113 1 3 3 46 (az1 9 10 37 38 (fF 1 2 3 41 42 (bA 0 0 12 0 28 40 43 (bW 13 3 46 44 aT4))))))
def bF8:Tr:=aR 3 0 (oe .eql 3 12 14 1 0 0 2 4 (aR 4 0 (pI 113 1 3 3 46 (wM 5 98 16 (nP 3 6))) MT)) (dD 0 2 1 3 22 23 4 (aR 4 0 MT (fF 1 2 3 28 29 (oe .gtr 3 27 30 0 2 5 0 4 (aR 6 0 MT (bA 0 0 1 0 28 33 34 aQ1))))))
def bD1:Tr:=eB 2 0 0 3 10 bF8
theorem ah4:aV prog f188 ck [.v (some 3),.v none,.v none]=bD1:=by kernel_rfl
def aL3:Tr:=cH 3
def bL7:Tr:=al 0 0 4 28 (eH 1 0 1 3 5 7 (dp 2 1 8 aL3))
theorem WC:aV prog f104 ck [.v (some 2)]=bL7:=by kernel_rfl
def bs6:Tr:=bA 0 0 0 1 28 4 6 (bW 1 3 46 7 (kZ 2 2 2))
theorem aL0:aV prog f107 ck [.v (some 2)]=bs6:=by kernel_rfl
def bp7:Tr:=al 0 0 6 28 (dp 1 1 7 (eH 2 0 1 3 8 10 (bA 0 0 3 0 28 4 11 (bW 4 3 46 12 (kZ 5 5 2)))))
theorem aW0:aV prog f108 ck [.v (some 2)]=bp7:=by kernel_rfl
def bF1:Tr:=LO 104 0 6 157 3 (ab2 2 28 7 (pI 113 1 3 3 46 (cF 3 1 28 9 10 (Zi 3 1 4 12 11 (nP 3 5)))))
theorem aC4:aV prog f106 ck [.v (some 2),.v none]=bF1:=by kernel_rfl
def uL:Tr:=.ret [(.agg [(U 0 0),(U 1 0)]),(tF false)]
def bf6:Tr:=bA 0 0 22 0 28 49 53 (bW 23 3 46 54 (fO 67 [(G3 20),(G3 24)] [none] [48,55] [46,46] 3 true (eB 25 0 0 3 56 (aR 26 0 uL (ao 14 1 3 43 (Ng 13 27 15 0 16 0))))))
def bd3:Tr:=bA 0 0 29 0 28 77 79 (bW 30 3 46 80 (bA 0 0 21 0 28 82 83 (bW 32 3 46 84 (fO 67 [(G3 31),(G3 33)] [none] [81,85] [46,46] 3 false (iC 34 0 0 3 86 (.ret [(.agg [(U 0 0),(U 1 0)]),(W 35 0)]))))))
def aW5:Tr:=ao 1 1 3 70 (bA 0 0 24 0 28 69 71 (bW 25 3 46 72 (fO 67 [(G3 23),(G3 26)] [none] [68,73] [46,46] 3 false (iC 27 0 0 3 74 (aR 28 0 (dp 21 1 78 bd3) uL)))))
def aZ6:Tr:=dD 14 0 17 3 39 41 4 (aR 18 0 (bA 0 0 14 0 28 45 46 (bW 19 3 46 47 (eH 14 1 0 3 50 51 (dp 21 1 52 bf6)))) (al 0 0 59 28 (dp 19 1 60 (eH 20 1 0 3 61 62 (bA 0 0 1 0 28 65 66 (bW 22 3 46 67 aW5))))))
def aR6:Tr:=aR 9 0 uL (aF1 90 32 28 (kL 10 0 33 (aR 11 0 uL (ao 1 1 3 37 (.loop 0 [(.w (.one (.c (.k (.bool false))))),lV 12 0,lN,lK 0] (al 0 0 40 28 aZ6))))))
def bO7:Tr:=al 0 0 19 28 (ax4 21 (ao 5 2 3 22 (dD 4 0 6 3 20 23 4 (aR 7 0 uL (al 0 0 27 28 (qS .gtr 3 28 60 8 0 4 aR6))))))
def bN5:Tr:=iC 1 0 0 3 12 (aR 2 0 uL (qS .gtr 3 15 5 1 0 4 (aR 3 0 uL bO7)))
theorem LP:aV prog f103 ck [.v none,.v none]=bN5:=by kernel_rfl
theorem Vj{sz:Nat}{us ts:List (List aC)}(h:ak (ak aC.Sub) us ts):(aC.slice sz us).Sub (.slice sz ts):=by
 refine .inr ⟨fun M w v h=>by obtain⟨a,cap,rfl,_⟩:=h;exact⟨_,_,_,rfl⟩,fun M w v hv=>?_⟩;obtain⟨a,cap,rfl,hc,hm,he⟩:=hv;have hl:=h.length;refine⟨a,cap,by rw[hl],by omega,hm,?_⟩;rcases he with he | ⟨b,off,cs,T,fz,rfl,h1,h2,h3⟩
 ·exact .inl (zk.1 (by rw[<-hl,he];rfl))
 ·refine .inr ⟨b,off,cs,T,fz,rfl,h1,h2,fun i t ht=>?_⟩;obtain⟨u,hu⟩:∃u,us[i]?=some u:=⟨_,bQ (by have:=(dM.1 ht).1;omega)⟩
  obtain⟨t',ht',hs⟩:=h.get i u hu;rw[ht]at ht';cases ht';obtain⟨g1,g2⟩:=h3 i u hu;exact⟨by rw[<-g1];exact hs.length.symm,ai.sub hs g2⟩
abbrev zI(z:Int):List aC:=[.int .i64 z]
theorem aS1(zs:List Int)(hz:∀z∈zs,-9223372036854775808<=z/\z<9223372036854775808)(hs:zs.length<1099511627776):aU prog 71 [(.one (.slice 1 (zs.map zI)):aN)] (.ret [.one (sQ (zs.map fun(z:Int)=>(z:Rat)))]):=by
 refine dL func71 bc1 ?_;refine bE {i:Nat // i<=zs.length} (fun g=>[.one (.int .i64 (g.1:Int)),.rows (rQ ((zs.take g.1).map fun(z:Int)=>(z:Rat)))]) (fun g=>zs.length-g.1) ⟨0,cz _⟩ aZ.rfl (fun _=>rfl) ?_;rintro⟨i,hi⟩;dsimp only[aE,aF]at hi|-;have htl:((zs.take i).map fun(z:Int)=>(z:Rat)).length=i:=by rw[aI,bK];omega
 apply vn (aP bn5 (aI _));apply vn aj;refine vs _ rfl ?_ ?_<;>intro h3
 ·obtain⟨z,hz'⟩:∃z,zs[i]?=some z:=⟨_,bQ (by omega)⟩
  have hzb:=hz z (ei hz');apply vn (aJ (f:=zI) bn5 (m:=i) (by omega) (av i) hz');apply vn (bg ag2);dsimp only[aE,aF];apply aA (AV z hzb.1 hzb.2);apply eL (us:=[qC (z:Rat)]);refine iE (xs:=(zs.take i).map fun(z:Int)=>(z:Rat)) (x:=(z:Rat)) (f:=qC) rfl rfl (by omega) (by simp only[maxLen];omega) ?_;rw[show(zs.take i).map (fun(z:Int)=>(z:Rat))++[(z:Rat)]=(zs.take (i+1)).map fun(z:Int)=>(z:Rat) by rw[ma,hz',bt];rfl];apply vn (aB (by omega) (by omega));dsimp only[aE,aF];exact ab rfl ⟨⟨i+1,by omega⟩,aZ.rfl,by show zs.length-(i+1)<zs.length-i;omega⟩
 rw[dP (show zs.length<=i by omega)];exact aL
def gV(p:List Rat)(q:Rat):List Rat:=if q=0 then[]else wi p (((1:Int):Rat)/q)
theorem ac1(p:List Rat)(q:Rat)(A B:Nat)(hl:p.length<1099511627776)(hp:∀a∈p,Fit A a)(hq:Fit B q)(hA1:1<=A:=by omega)(hA:A+B<=17179869000:=by omega):aU prog 228 [(.one (sQ p):aN),(qT q:aN)] (.ret [.one (sQ (gV p q))]):=by
 refine dL func228 aT8 ?_;apply aA (lM _);apply vn bj;refine vs _ rfl ?_ ?_<;>intro h2
 ·rw[gV,aK (sign_zero.1 ‹_›)];exact fK ⟨aC.Sub.nil,trivial⟩
 apply aA (ee 1);apply aA (oS _ _ 62 B (Fit.int (by omega) (by omega)) hq);rw[pj];dsimp only[aE,aF];apply aA (Uk _ _ A (62+B) hA1 hl hp ((Fit.int (by omega) (by omega)).div hq));dsimp only[aE,aF];rw[show wi p (((1:Int):Rat)/q)=gV p q by rw[gV,aG fun h=>‹¬_› (sign_zero.2 h)]];exact aL
theorem gC(kn:List Rat)(d:Nat)(hs:kn.length<1099511627776:=by omega)(hd:d<1099511627776:=by omega):aU prog 104 [(.agg [sQ kn,.int .i64 (d:Int)]:aN)] (.ret [.one (.int .i64 ((kn.length:Int)-(d:Int)-1))]):=by
 refine dL func104 WC ?_;apply vn (aP ay (aI _));apply vn (aH (by omega) (by omega));apply vn (aH (by omega) (by omega));exact aL
theorem yw(kn:List Rat)(d:Nat)(hs:kn.length<1099511627776:=by omega)(hd:d<kn.length:=by omega):aU prog 108 [(.agg [sQ kn,.int .i64 (d:Int)]:aN)] (.ret [qT (kn.getD (kn.length-1-d) 0)]):=by
 refine dL func108 aW0 ?_;apply vn (aP ay (aI _));apply vn (aH (by omega) (by omega));apply vn (aH (by omega) (by omega));dsimp only[aE,aF];apply vn (aJ ay (m:=kn.length-1-d) (by omega) (by omega) (aX (show kn.length-1-d<kn.length by omega)));apply vn (aQ cM (by decide) (by simp) (.inl rfl));exact aL
theorem az4(kn:List Rat)(d i:Nat)(hs:kn.length<1099511627776:=by omega)(hd:d+1<=kn.length:=by omega)(hi:i<kn.length-d-1:=by omega):aU prog 106 [(.agg [sQ kn,.int .i64 (d:Int)]:aN),(.one (.int .i64 (i:Int)):aN)] (.ret [.one (sQ ((List.replicate (kn.length-d-1) 0).set i ((1:Int):Rat)))]):=by
 refine dL func106 aC4 ?_;apply aA (gC kn d hs);rw[show(kn.length:Int)-(d:Int)-1=((kn.length-d-1:Nat):Int) by omega];refine ri (n:=kn.length-d-1) (m:=kn.length-d-1) (us:=List.replicate (kn.length-d-1) z3) rfl rfl rfl (aa _) (by omega) (by simp only[maxLen];omega) ?_;apply aA (ee 1);refine qV rfl rfl (by omega) (by rw[eX];omega) ?_;refine Mf (ts:=List.replicate (kn.length-d-1) z3) (us:=(List.replicate (kn.length-d-1) z3).set i (qC ((1:Int):Rat))) rfl rfl (by omega) (cells:=z3) (by rw[av,vQ,aK (by omega)]) (by rw[av];rfl) ?_;dsimp only[aE,aF];refine fK ⟨Vj ?_,trivial⟩;rw[rQ,sf,nq];exact uu ⟨aC.Sub.same,aC.Sub.same,aC.Sub.same,trivial⟩ i (rb nA _)
def jn(kn:List Rat)(i:Nat):Nat->Nat->List Rat
 | 0,j=>if j=i then[((1:Int):Rat)]else[]
 | e+1,j=>if i<j\/j+(e+1)<i then[]else
   kH (fP (gV [-(kn.getD j 0),((1:Int):Rat)] (kn.getD (j+(e+1)) 0-kn.getD j 0)) (jn kn i e j)) (fP (gV [kn.getD (j+(e+1)+1) 0,((-1:Int):Rat)] (kn.getD (j+(e+1)+1) 0-kn.getD (j+1) 0)) (jn kn i e (j+1)))
def lj(A:Nat):Nat->Nat
 | 0=>62
 | e+1=>2*((3*A+130)*3+lj A e*(e+2)+7)+1
theorem jj{p:List Rat}{q:Rat}:(gV p q).length<=p.length:=by
 unfold gV;split
 ·exact cz _
 ·exact aq (jk _) (by rw[aI,oh];exact aa _)
theorem Mm{A B:Nat}{p:List Rat}{q:Rat}(hA:1<=A)(hp:∀a∈p,Fit A a)(hq:Fit B q):∀a∈gV p q,Fit (A+(62+B)) a:=by
 intro a ha;unfold gV at ha;split at ha
 ·cases ha
 ·have h:=ov ha;obtain⟨i,_,rfl⟩:=dH.1 h;exact(aD hp i hA).mul ((Fit.int (n:=1) (B:=62) (by omega) (by omega)).div hq)
theorem jZ(kn:List Rat)(i:Nat):∀e j,(jn kn i e j).length<=e+1
 | 0,j=>by unfold jn;split<;>simp
 | e+1,j=>by
   unfold jn;split
   ·exact cz _
   ·have h1:=sM (gV [-(kn.getD j 0),((1:Int):Rat)] (kn.getD (j+(e+1)) 0-kn.getD j 0)) (jn kn i e j);have h2:=sM (gV [kn.getD (j+(e+1)+1) 0,((-1:Int):Rat)] (kn.getD (j+(e+1)+1) 0-kn.getD (j+1) 0)) (jn kn i e (j+1));have h3:=jZ kn i e j;have h4:=jZ kn i e (j+1);have h5:=jj (p:=[-(kn.getD j 0),((1:Int):Rat)]) (q:=kn.getD (j+(e+1)) 0-kn.getD j 0);have h6:=jj (p:=[kn.getD (j+(e+1)+1) 0,((-1:Int):Rat)]) (q:=kn.getD (j+(e+1)+1) 0-kn.getD (j+1) 0);simp only[an,bo]at h5 h6;exact aq (Uq _ _) (by omega)
theorem pL{A:Nat}{a b:Rat}(ha:Fit A a)(hb:Fit 62 b):∀x∈[a,b],Fit (A+62) x:=fun x hx=>by
 rcases ez.1 hx with rfl | hx
 ·exact ha.mono (by omega)
 ·rw[ed.1 hx];exact hb.mono (by omega)
section
variable{A:Nat}{kn:List Rat}(hA1:1<=A)(hk:∀a∈kn,Fit A a)
include hA1 hk
theorem Qk(e j:Nat):∀a∈gV [-(kn.getD j 0),((1:Int):Rat)] (kn.getD (j+(e+1)) 0-kn.getD j 0),Fit (3*A+130) a:=fun a ha=>
 (Mm (by omega) (pL (aD hk j hA1).neg (Fit.int (by omega) (by omega))) ((aD hk _ hA1).sub (aD hk _ hA1)) a ha).mono (by omega)
theorem Ou(e j:Nat):∀a∈gV [kn.getD (j+(e+1)+1) 0,((-1:Int):Rat)] (kn.getD (j+(e+1)+1) 0-kn.getD (j+1) 0),Fit (3*A+130) a:=fun a ha=>
 (Mm (by omega) (pL (aD hk _ hA1) (Fit.int (by omega) (by omega))) ((aD hk _ hA1).sub (aD hk _ hA1)) a ha).mono (by omega)
theorem jV(i:Nat):∀e j,∀a∈jn kn i e j,Fit (lj A e) a
 | 0,j=>by
   intro a ha;unfold jn at ha;split at ha
   ·rw[ed.1 ha];exact(Fit.int (n:=1) (B:=62) (by omega) (by omega):Fit 62 _)
   ·cases ha
 | e+1,j=>by
   intro a ha;unfold jn at ha;split at ha
   ·cases ha
   ·have h3:=jZ kn i e j;have h4:=jZ kn i e (j+1);have h5:=jj (p:=[-(kn.getD j 0),((1:Int):Rat)]) (q:=kn.getD (j+(e+1)) 0-kn.getD j 0);have h6:=jj (p:=[kn.getD (j+(e+1)+1) 0,((-1:Int):Rat)]) (q:=kn.getD (j+(e+1)+1) 0-kn.getD (j+1) 0);simp only[an,bo]at h5 h6
    have m1:∀a∈fP (gV [-(kn.getD j 0),((1:Int):Rat)] (kn.getD (j+(e+1)) 0-kn.getD j 0)) (jn kn i e j),Fit ((3*A+130)*3+lj A e*(e+2)+7) a:=fun a ha=>(rz (Qk hA1 hk e j) (jV i e j) (by omega) a ha).mono (by
     have:=dr (3*A+130) (show(gV [-(kn.getD j 0),((1:Int):Rat)] (kn.getD (j+(e+1)) 0-kn.getD j 0)).length+1<=3 by omega);have:=dr (lj A e) (show(jn kn i e j).length+1<=e+2 by omega);omega)
    have m2:∀a∈fP (gV [kn.getD (j+(e+1)+1) 0,((-1:Int):Rat)] (kn.getD (j+(e+1)+1) 0-kn.getD (j+1) 0)) (jn kn i e (j+1)),Fit ((3*A+130)*3+lj A e*(e+2)+7) a:=fun a ha=>(rz (Ou hA1 hk e j) (jV i e (j+1)) (by omega) a ha).mono (by
     have:=dr (3*A+130) (show(gV [kn.getD (j+(e+1)+1) 0,((-1:Int):Rat)] (kn.getD (j+(e+1)+1) 0-kn.getD (j+1) 0)).length+1<=3 by omega);have:=dr (lj A e) (show(jn kn i e (j+1)).length+1<=e+2 by omega);omega)
    exact(SE (by omega) (by omega) m1 m2 a ha).mono (by rw[lj];omega)
end
theorem LW(kn:List Rat)(d i j e A:Nat)(hA1:1<=A)(hk:∀a∈kn,Fit A a)(hs:kn.length<1000000000)(hA:lj A e<=1000000000)(hij:i<1000000000)(he:e<=60)(hj:e=0\/j+e+1<kn.length)(hj2:j<1000000000)(ih:∀e' j',e=e'+1->j'=j\/j'=j+1->aU prog 188 [.agg [sQ kn,.int .i64 (d:Int),.int .i64 (i:Int)],.one (.int .i64 (j':Int)),.one (.int .i64 (e':Int))] (.ret [.one (sQ (jn kn i e' j'))])):aU prog 188 [(.agg [sQ kn,.int .i64 (d:Int),.int .i64 (i:Int)]:aN),(.one (.int .i64 (j:Int)):aN),(.one (.int .i64 (e:Int)):aN)] (.ret [.one (sQ (jn kn i e j))]):=by
 refine dL func188 ah4 ?_;apply vn bj;refine vs _ rfl ?_ ?_<;>intro h1
 ·obtain rfl:e=0:=by omega
  apply vn bj;refine vs _ rfl ?_ ?_<;>intro h3
  ·apply aA (ee 1);apply eL (us:=[qC ((1:Int):Rat)]);dsimp only[aE,aF];rw[show jn kn i 0 j=[((1:Int):Rat)] by rw[jn,aK (by omega)]];exact aL
  rw[show jn kn i 0 j=[] by rw[jn,aG (by omega)]];exact fK ⟨aC.Sub.nil,trivial⟩
 obtain⟨e,rfl⟩:∃e',e=e'+1:=⟨e-1,by omega⟩
 have hb1:=Qk hA1 hk e j;have hb2:=Ou hA1 hk e j;have hl3:=jZ kn i e j;have hl4:=jZ kn i e (j+1);have hl5:=jj (p:=[-(kn.getD j 0),((1:Int):Rat)]) (q:=kn.getD (j+(e+1)) 0-kn.getD j 0);have hl6:=jj (p:=[kn.getD (j+(e+1)+1) 0,((-1:Int):Rat)]) (q:=kn.getD (j+(e+1)+1) 0-kn.getD (j+1) 0);simp only[an,bo]at hl5 hl6;have hx:=hA;rw[lj]at hx;have hq1:=dr (3*A+130) (show(gV [-(kn.getD j 0),((1:Int):Rat)] (kn.getD (j+(e+1)) 0-kn.getD j 0)).length+1<=3 by omega);have hq2:=dr (lj A e) (show(jn kn i e j).length+1<=e+2 by omega);have hq3:=dr (3*A+130) (show(gV [kn.getD (j+(e+1)+1) 0,((-1:Int):Rat)] (kn.getD (j+(e+1)+1) 0-kn.getD (j+1) 0)).length+1<=3 by omega);have hq4:=dr (lj A e) (show(jn kn i e (j+1)).length+1<=e+2 by omega);apply vn aj;refine vs _ rfl ?_ ?_<;>intro h9
 ·rw[show jn kn i (e+1) j=[] by rw[jn,aK (by omega)]];exact fK ⟨aC.Sub.nil,trivial⟩
 apply vn (aB (by omega) (by omega));apply vn fB;refine vs _ rfl ?_ ?_<;>intro h13
 ·rw[show jn kn i (e+1) j=[] by rw[jn,aK (by omega)]];exact fK ⟨aC.Sub.nil,trivial⟩
 apply vn (aJ ay (m:=j) (by omega) (av j) (aX (show j<kn.length by omega)));dsimp only[aE,aF];apply vn (aQ cM (by decide) (by simp) (.inl rfl));apply aA (Xz _);apply aA (ee 1);apply eL (us:=rQ [-(kn.getD j 0),((1:Int):Rat)]);dsimp only[aE,aF];apply vn (aB (by omega) (by omega));dsimp only[aE,aF];apply vn (aJ ay (m:=j+(e+1)) (by omega) (by omega) (aX (show j+(e+1)<kn.length by omega)));apply vn (aQ cM (by decide) (by simp) (.inl rfl));dsimp only[aE,aF];apply vn (aJ ay (m:=j) (by omega) (av j) (aX (show j<kn.length by omega)));apply vn (aQ cM (by decide) (by simp) (.inl rfl));apply aA (kq _ _ A A (aD hk _ hA1) (aD hk _ hA1));apply aA (ac1 _ _ (A+62) (A+A+1) (by simp) (pL (aD hk j hA1).neg (Fit.int (by omega) (by omega))) ((aD hk _ hA1).sub (aD hk _ hA1)));dsimp only[aE,aF];apply vn (aH (by omega) (by omega));dsimp only[aE,aF];rw[show((e+1:Nat):Int)-1=(e:Int) by omega];apply aA (ih e j rfl (.inl rfl));apply aA (NS _ _ (3*A+130) (lj A e) hb1 (jV hA1 hk i e j));apply vn (aB (by omega) (by omega));apply vn (aB (by omega) (by omega));dsimp only[aE,aF];apply vn (aJ ay (m:=j+(e+1)+1) (by omega) (by omega) (aX (show j+(e+1)+1<kn.length by omega)));apply vn (aQ cM (by decide) (by simp) (.inl rfl));apply aA (ee (-1));apply eL (us:=rQ [kn.getD (j+(e+1)+1) 0,((-1:Int):Rat)]);dsimp only[aE,aF];apply vn (aB (by omega) (by omega));apply vn (aB (by omega) (by omega));dsimp only[aE,aF];apply vn (aJ ay (m:=j+(e+1)+1) (by omega) (by omega) (aX (show j+(e+1)+1<kn.length by omega)));apply vn (aQ cM (by decide) (by simp) (.inl rfl));apply vn (aB (by omega) (by omega));dsimp only[aE,aF];apply vn (aJ ay (m:=j+1) (by omega) (by omega) (aX (show j+1<kn.length by omega)));apply vn (aQ cM (by decide) (by simp) (.inl rfl));apply aA (kq _ _ A A (aD hk _ hA1) (aD hk _ hA1));apply aA (ac1 _ _ (A+62) (A+A+1) (by simp) (pL (aD hk _ hA1) (Fit.int (by omega) (by omega))) ((aD hk _ hA1).sub (aD hk _ hA1)));dsimp only[aE,aF];apply vn (aB (by omega) (by omega));dsimp only[aE,aF];rw[show((j:Int)+1)=((j+1:Nat):Int) by omega];apply vn (aH (by omega) (by omega));dsimp only[aE,aF];rw[show((e+1:Nat):Int)-1=(e:Int) by omega];apply aA (ih e (j+1) rfl (.inr rfl));apply aA (NS _ _ (3*A+130) (lj A e) hb2 (jV hA1 hk i e (j+1)));dsimp only[aE,aF];apply aA (Xy _ _ _ _ (fun a ha=>(rz hb1 (jV hA1 hk i e j) (by omega) a ha).mono (by omega)) (fun a ha=>(rz hb2 (jV hA1 hk i e (j+1)) (by omega) a ha).mono (by omega)) (eh (sM _ _) (by omega)) (show 1<=(3*A+130)*3+lj A e*(e+2)+7 by omega) (show 1<=(3*A+130)*3+lj A e*(e+2)+7 by omega) (eh (sM _ _) (by omega)));dsimp only[aE,aF];rw[show jn kn i (e+1) j=_ by rw[jn,aG (by omega)]];exact aL
theorem Ba(kn:List Rat)(d i A:Nat)(hA1:1<=A)(hk:∀a∈kn,Fit A a)(hs:kn.length<1000000000)(hij:i<1000000000):∀(e j:Nat),lj A e<=1000000000->e<=60->(e=0\/j+e+1<kn.length)->j<999999900-e->aU prog 188 [.agg [sQ kn,.int .i64 (d:Int),.int .i64 (i:Int)],.one (.int .i64 (j:Int)),.one (.int .i64 (e:Int))] (.ret [.one (sQ (jn kn i e j))])
 | 0,j,hA,he,hj,hj2=>LW kn d i j 0 A hA1 hk hs hA hij he hj (by omega) fun e' j' h=>by omega
 | e+1,j,hA,he,hj,hj2=>LW kn d i j (e+1) A hA1 hk hs hA hij he hj (by omega) fun e' j' h hj'=>by
   obtain rfl:e'=e:=by omega
   have hx:=hA;rw[lj]at hx;have h9:=kd (lj A e') (show 0<e'+2 by omega);exact Ba kn d i A hA1 hk hs hij e' j' (by omega) (by omega) (by omega) (by omega)
def be1:Tr:=fO 188 [(.agg [(U 0 0),(U 0 1),(U 2 0)]),(W 19 0),(W 0 1)] [none] [55,56,59] [228,3,3] 98 false (bA 1 0 19 0 28 61 62 (bW 25 3 46 63 (fO 125 [(W 24 0),(G3 26)] [none] [60,64] [98,46] 98 true (gR 66 18 0 27 54 65 98 98 98 (ao 19 1 3 52 (iY 1 28 29))))))
def aV7:Tr:=bW 24 3 46 72 (wM 25 28 73 (fH 3 56 3 26 68 74 28 (vH 18 29 78 (fH 1 24 4 28 77 79 29 (ao 2 1 3 21 (uM 30 27 29))))))
def ba4:Tr:=.loop 1 [lN,lV 17 0] (fO 104 [(G2 0)] [none] [47] [157] 3 false (dp 20 1 48 (.need (.prim [(W 2 0),(W 21 0)] none) (.call ⟨.builtin .min,#[(tT 45),(tT 49)],#[3,3]⟩) 3 false (oe .leq 3 44 50 19 0 22 0 4 (aR 23 0 be1 (bA 0 0 2 0 28 70 71 aV7))))))
def bH4:Tr:=bA 0 0 11 0 28 29 31 (bW 12 3 46 32 (fO 67 [(G3 10),(G3 13)] [none] [27,33] [46,46] 3 true (eB 14 0 0 3 34 (aR 15 0 (ao 2 1 3 21 (uM 16 3 4)) (eH 2 0 1 3 39 41 (ay1 16 42 ba4))))))
def bJ2:Tr:=eH 6 0 1 3 16 18 (dD 2 0 7 3 12 19 4 (aR 8 0 (bA 0 0 2 0 28 24 25 (bW 9 3 46 26 (ao 2 1 3 30 bH4))) (fO 108 [(G2 0)] [(some 3)] [85] [157] 46 true (wM 9 28 86 (fH 3 56 3 10 84 87 28 (aE0 3 11 4))))))
def bL1:Tr:=.loop 0 [lV 0 1,.nilrow,.nilrow] (al 0 0 14 28 (dp 5 1 15 bJ2))
theorem Yu:aV prog f105 ck [.v (some 2),.v none]=bL1:=by kernel_rfl
theorem ac7{A B:Nat}{p:List Rat}{k:Rat}(hA:1<=A)(hp:∀a∈p,Fit A a)(hk:Fit B k):∀a∈wi p k,Fit (A+B) a:=by
 intro a ha;obtain⟨i,_,rfl⟩:=dH.1 (ov ha);exact(aD hp i hA).mul hk
theorem aa2(p:List Rat)(k:Rat):(wi p k).length<=p.length:=aq (jk _) (by rw[aI,oh];exact aa _)
def rN(kn:List Rat)(d:Nat)(cf:List Rat)(i lo n:Nat):List Rat:=(List.range n).foldl (fun acc t=>kH acc (wi (jn kn i d (lo+t)) (cf.getD (lo+t) 0))) []
theorem gv(kn:List Rat)(d:Nat)(cf:List Rat)(i lo n:Nat):rN kn d cf i lo (n+1)=kH (rN kn d cf i lo n) (wi (jn kn i d (lo+n)) (cf.getD (lo+n) 0)):=by
 rw[rN,gx,List.foldl_append];rfl
theorem vY(kn:List Rat)(d:Nat)(cf:List Rat)(i lo:Nat):∀n,(rN kn d cf i lo n).length<=d+1
 | 0=>cz _
 | n+1=>by
   rw[gv];have h1:=vY kn d cf i lo n;have h2:=aa2 (jn kn i d (lo+n)) (cf.getD (lo+n) 0);have h3:=jZ kn i d (lo+n);exact aq (Uq _ _) (by omega)
theorem wU{A:Nat}{kn cf:List Rat}(hA1:1<=A)(hk:∀a∈kn,Fit A a)(hc:∀a∈cf,Fit A a)(d i lo:Nat)(hb:1<=lj A d):∀n,∀a∈rN kn d cf i lo n,Fit (1+n*(lj A d+A+1)) a
 | 0=>fun a ha=>by cases ha
 | n+1=>fun a ha=>by
   rw[gv]at ha;exact(SE (by omega) (by omega) (wU hA1 hk hc d i lo hb n) (ac7 hb (jV hA1 hk i d (lo+n)) (aD hc (lo+n) hA1)) a ha).mono (by rw[bX];omega)
def nW(kn:List Rat)(d:Nat)(cf:List Rat)(i:Nat):List Rat:=rN kn d cf i (i-d) (min i (kn.length-d-1-1)+1-(i-d))
def oJ(kn:List Rat)(d i:Nat):List Nat:=(List.range i).filter fun t=>decide (d<=t/\kn.getD t 0≠kn.getD (t+1) 0)
theorem wV{kn:List Rat}{d i:Nat}(h:¬(d<=i/\kn.getD i 0≠kn.getD (i+1) 0)):oJ kn d (i+1)=oJ kn d i:=by
 rw[oJ,gx,Rs,ae6 (by simpa using h)];simp[oJ]
theorem oy{kn:List Rat}{d i:Nat}(h:d<=i/\kn.getD i 0≠kn.getD (i+1) 0):oJ kn d (i+1)=oJ kn d i++[i]:=by
 rw[oJ,gx,Rs,Zs (by simpa using h)];simp[oJ]
theorem vG(kn:List Rat)(d i:Nat):(oJ kn d i).length<=i:=by
 have:=sV (fun t=>decide (d<=t/\kn.getD t 0≠kn.getD (t+1) 0)) (List.range i);rw[oh]at this;exact this
theorem vF(kn:List Rat)(d:Nat):oJ kn d d=[]:=by
 rw[oJ,List.filter_eq_nil_iff];intro t ht;have:=fL.1 ht;simp;omega
theorem AA(A:Nat):∀e,1<=lj A e
 | 0=>by simp[lj]
 | e+1=>by rw[lj];omega
theorem gL{a b:Rat}:ef a b=0↔a=b:=by
 unfold ef;split
 ·rename_i h;constructor
  ·intro h';cases h'
  ·rintro rfl;exact absurd h (mS)
 ·split
  ·rename_i h1 h;constructor
   ·intro h';cases h'
   ·rintro rfl;exact absurd h (mS)
  ·rename_i h1 h2;exact⟨fun _=>Rat.le_antisymm (fu.1 h2) (fu.1 h1),fun _=>rfl⟩
theorem Bm(kn cf:List Rat)(d A:Nat)(hk:∀a∈kn,Fit A a)(hc:∀a∈cf,Fit A a)(hcl:cf.length=kn.length-d-1)(hA:lj A d+A<=1000000)(hA1:1<=A:=by omega)(h2:2*d+2<=kn.length:=by omega)(hs:kn.length<1000000:=by omega)(hd:d<=60:=by omega):aU prog 105 [(.agg [sQ kn,.int .i64 (d:Int)]:aN),(.one (sQ cf):aN)] (.ret [.agg [sQ ((oJ kn d (kn.length-1-d)).map (fun t=>kn.getD t 0)++[kn.getD (kn.length-1-d) 0]),eQ ((oJ kn d (kn.length-1-d)).map (nW kn d cf))]]):=by
 refine dL func105 Yu ?_;have hb1:=AA A d;refine bE {i:Nat // d<=i/\i<=kn.length-1-d} (fun g=>[.one (.int .i64 (g.1:Int)),.rows (rQ ((oJ kn d g.1).map fun t=>kn.getD t 0)),.rows (((oJ kn d g.1).map (nW kn d cf)).map cQ)]) (fun g=>kn.length-g.1) ⟨d,aa _,by omega⟩ (by dsimp only;rw[vF];exact aZ.rfl) (fun _=>rfl) ?_;rintro⟨i,hdi,hi⟩;dsimp only[aE,aF]at hdi hi|-;have hnl:=vG kn d i;have hm1:((oJ kn d i).map fun t=>kn.getD t 0).length<=i:=by rw[aI];exact hnl
 have hm2:((oJ kn d i).map (nW kn d cf)).length<=i:=by rw[aI];exact hnl
 apply vn (aP ay (aI _));apply vn (aH (by omega) (by omega));apply vn (aH (by omega) (by omega));apply vn aj;dsimp only[aE,aF];refine vs _ rfl ?_ ?_<;>intro h5
 ·apply vn (aJ ay (m:=i) (by omega) (av i) (aX (show i<kn.length by omega)));apply vn (aQ cM (by decide) (by simp) (.inl rfl));apply vn (aB (by omega) (by omega));dsimp only[aE,aF];apply vn (aJ ay (m:=i+1) (by omega) (by omega) (aX (show i+1<kn.length by omega)));apply vn (aQ cM (by decide) (by simp) (.inl rfl));apply aA (jH _ _ A A (aD hk _ hA1) (aD hk _ hA1));apply vn bj;dsimp only[aE,aF];refine vs _ rfl ?_ ?_<;>intro h13
  ·have heq:=gL.1 ‹_›;apply vn (aB (by omega) (by omega));dsimp only[aE,aF];rw[<-wV (kn:=kn) (d:=d) (i:=i) (by rintro⟨_,h⟩;exact h heq)];exact ab rfl ⟨⟨i+1,by omega,by omega⟩,aZ.rfl,by show kn.length-(i+1)<kn.length-i;omega⟩
  have hne:kn.getD i 0≠kn.getD (i+1) 0:=fun h=>‹¬_› (gL.2 h);apply vn (aH (by omega) (by omega));apply vn aM3;dsimp only[aE,aF];rw[show max ((i:Int)-(d:Int)) 0=((i-d:Nat):Int) by omega];refine bE {n:Nat // n<=min i (kn.length-d-1-1)+1-(i-d)} (fun g=>[.one (sQ (rN kn d cf i (i-d) g.1)),.one (.int .i64 ((i-d+g.1:Nat):Int))]) (fun g=>min i (kn.length-d-1-1)+1-(i-d)-g.1) ⟨0,cz _⟩ ⟨aC.Sub.nil,.inl rfl,trivial⟩ (fun _=>rfl) ?_;rintro⟨n,hn⟩;dsimp only[aE,aF]at hn|-;have hcf:=wU hA1 hk hc d i (i-d) hb1 n;have hcn:=vY kn d cf i (i-d) n;have hnb:n*(lj A d+A+1)<=100*(lj A d+A+1):=cN _ (by omega);apply aA (gC kn d);apply vn (aH (by omega) (by omega));apply vn bm9;apply vn jO;dsimp only[aE,aF];refine vs _ rfl ?_ ?_<;>intro h23
  ·have hlt:i-d+n<cf.length:=by omega
   apply aA (Ba kn d i A hA1 hk (by omega) (by omega) d (i-d+n) (by omega) (by omega) (by omega) (by omega));apply vn (aJ ay (m:=i-d+n) (by omega) (av _) (aX hlt));apply vn (aQ cM (by decide) (by simp) (.inl rfl));apply aA (Uk _ _ (lj A d) A hb1 (eh (jZ _ _ _ _) (by omega)) (jV hA1 hk i d _) (aD hc _ hA1));dsimp only[aE,aF];apply aA (Xy _ _ (1+n*(lj A d+A+1)) (lj A d+A) hcf (ac7 hb1 (jV hA1 hk i d _) (aD hc _ hA1)) (eh (aq (aa2 _ _) (jZ _ _ _ _)) (by omega)));rw[<-gv];apply vn (aB (by omega) (by omega));dsimp only[aE,aF];exact ab rfl ⟨⟨n+1,by omega⟩,⟨.inl rfl,.inl (by rw[show((i-d+(n+1):Nat):Int)=((i-d+n:Nat):Int)+1 by omega];rfl),trivial⟩,by show min i (kn.length-d-1-1)+1-(i-d)-(n+1)<min i (kn.length-d-1-1)+1-(i-d)-n;omega⟩
  rw[show rN kn d cf i (i-d) n=nW kn d cf i by rw[nW,show n=min i (kn.length-d-1-1)+1-(i-d) by omega]];apply vn (aJ ay (m:=i) (by omega) (av i) (aX (show i<kn.length by omega)));apply vn (aQ cM (by decide) (by simp) (.inl rfl));apply eL (us:=[qC (kn.getD i 0)]);refine iE (xs:=(oJ kn d i).map fun t=>kn.getD t 0) (x:=kn.getD i 0) (f:=qC) rfl rfl (by omega) (by simp only[maxLen];omega) ?_;dsimp only[aE,aF];apply eL (us:=[cQ (nW kn d cf i)]);refine iE (xs:=(oJ kn d i).map (nW kn d cf)) (x:=nW kn d cf i) (f:=cQ) rfl rfl (by omega) (by simp only[maxLen];omega) ?_;rw[show(oJ kn d i).map (fun t=>kn.getD t 0)++[kn.getD i 0]=(oJ kn d (i+1)).map fun t=>kn.getD t 0 by rw[oy ⟨hdi,hne⟩,bt];rfl,show(oJ kn d i).map (nW kn d cf)++[nW kn d cf i]=(oJ kn d (i+1)).map (nW kn d cf) by rw[oy ⟨hdi,hne⟩,bt];rfl];apply vn (aB (by omega) (by omega));dsimp only[aE,aF];exact ab rfl ⟨⟨i+1,by omega,by omega⟩,aZ.rfl,by show kn.length-(i+1)<kn.length-i;omega⟩
 obtain rfl:i=kn.length-1-d:=by omega
 apply aA (yw kn d);apply eL (us:=[qC (kn.getD (kn.length-1-d) 0)]);refine iE (xs:=(oJ kn d (kn.length-1-d)).map fun t=>kn.getD t 0) (x:=kn.getD (kn.length-1-d) 0) (f:=qC) rfl rfl (by omega) (by simp only[maxLen];omega) ?_;exact aL
def aJ0:Tr:=Wt 2
def aH3:Tr:=Wt 3
def bt3:Tr:=aR 6 0 aH3 (fO 104 [(G2 3)] [none] [25] [157] 3 false (oe .geq 3 24 26 2 0 7 0 4 (aR 8 0 aH3 (fO 106 [(G2 3),(W 2 0)] [none] [31,32] [157,3] 28 true (fO 105 [(G2 3),(W 9 0)] [(some 2)] [30,33] [157,28] 31 true (.ret [(G2 10),(WK 0)]))))))
def bM0:Tr:=UC 103 0 1 0 2 11 12 28 3 158 (kL 4 0 17 (aR 5 0 aJ0 (iC 2 0 0 3 21 bt3)))
theorem Vr:aV prog f34 ck [.v none,.v none,.v none]=bM0:=by kernel_rfl
structure EZ(kn:List Rat)(d:Nat):Prop where
 hs:kn.length<=60
 hd:d<=5
 h2:2*d+2<=kn.length
 hr:gT false kn=true
 hm:∀j,d+1<=j->j<kn.length->kn.getD j 0≠kn.getD (j-d-1) 0
 hf:ef (kn.getD d 0) (kn.getD (d+1) 0)<0
 hl:ef (kn.getD (kn.length-1-d-1) 0) (kn.getD (kn.length-1-d) 0)<0
theorem pJ(kn:List Rat)(d A:Nat)(hk:∀a∈kn,Fit A a)(F:EZ kn d)(hA1:1<=A:=by omega)(hA:A<=1073741824:=by omega):aU prog 103 [(.one (sQ kn):aN),(.one (.int .i64 (d:Int)):aN)] (.ret [.agg [sQ kn,.int .i64 (d:Int)],.one (.bool true)]):=by
 refine dL func103 LP ?_;have hs:=F.hs;have hd:=F.hd;have h2:=F.h2;apply vn aj;refine vs _ rfl ?_ ?_<;>intro h1
 ·exfalso;omega
 apply vn fB;refine vs _ rfl ?_ ?_<;>intro h4
 ·exfalso;omega
 apply vn (aP ay (aI _));apply vn pN;dsimp only[aE,aF];apply vn (aB (by omega) (by omega));apply vn aj;refine vs _ rfl ?_ ?_<;>intro h10
 ·exfalso;omega
 apply vn (aP ay (aI _));apply vn fB;dsimp only[aE,aF];refine vs _ rfl ?_ ?_<;>intro h14
 ·exfalso;omega
 apply aA (qU kn false A hk hA1 hA);rw[F.hr];apply vn gQ;refine jm false rfl (fun h=>by cases h) (fun _=>?_);apply vn (aB (by omega) (by omega));refine bE {j:Nat // d+1<=j/\j<=kn.length} (fun g=>[.one (.bool false),.one (.int .i64 (g.1:Int)),.one (.exact (.slice none 0 0)),.one (.int .i64 0)]) (fun g=>kn.length-g.1) ⟨d+1,aa _,by omega⟩ aZ.rfl (fun _=>rfl) ?_;rintro⟨j,hj1,hj2⟩;dsimp only[aE,aF]at hj1 hj2|-;apply vn (aP ay (aI _));apply vn aj;refine vs _ rfl ?_ ?_<;>intro h24
 ·apply vn (aJ ay (m:=j) (by omega) (av j) (aX (show j<kn.length by omega)));apply vn (aQ cM (by decide) (by simp) (.inl rfl));dsimp only[aE,aF];apply vn (aH (by omega) (by omega));apply vn (aH (by omega) (by omega));dsimp only[aE,aF];apply vn (aJ ay (m:=j-d-1) (by omega) (by omega) (aX (show j-d-1<kn.length by omega)));apply vn (aQ cM (by decide) (by simp) (.inl rfl));apply aA (jH _ _ A A (aD hk _ hA1) (aD hk _ hA1));apply vn bj;dsimp only[aE,aF];refine vs _ rfl ?_ ?_<;>intro h33
  ·exact absurd (gL.1 ‹_›) (F.hm j hj1 (by omega))
  apply vn (aB (by omega) (by omega));dsimp only[aE,aF];exact ab rfl ⟨⟨j+1,by omega,by omega⟩,aZ.rfl,by show kn.length-(j+1)<kn.length-j;omega⟩
 apply vn (aP ay (aI _));apply vn (aH (by omega) (by omega));apply vn (aH (by omega) (by omega));dsimp only[aE,aF];apply vn (aJ ay (m:=d) (by omega) (av d) (aX (show d<kn.length by omega)));apply vn (aQ cM (by decide) (by simp) (.inl rfl));apply vn (aB (by omega) (by omega));dsimp only[aE,aF];apply vn (aJ ay (m:=d+1) (by omega) (by omega) (aX (show d+1<kn.length by omega)));apply vn (aQ cM (by decide) (by simp) (.inl rfl));apply aA (jH _ _ A A (aD hk _ hA1) (aD hk _ hA1));apply vn aj;dsimp only[aE,aF];refine vs _ rfl ?_ ?_<;>intro h47
 ·apply vn (aH (by omega) (by omega));dsimp only[aE,aF];apply vn (aJ ay (m:=kn.length-1-d-1) (by omega) (by omega) (aX (show kn.length-1-d-1<kn.length by omega)));apply vn (aQ cM (by decide) (by simp) (.inl rfl));dsimp only[aE,aF];apply vn (aJ ay (m:=kn.length-1-d) (by omega) (by omega) (aX (show kn.length-1-d<kn.length by omega)));apply vn (aQ cM (by decide) (by simp) (.inl rfl));apply aA (jH _ _ A A (aD hk _ hA1) (aD hk _ hA1));apply vn aj;dsimp only[aE,aF];rw[bV F.hl];exact aL
 exact absurd F.hf ‹_›
def Gy(kn:List Rat)(d i:Nat):List Rat:=(List.replicate (kn.length-d-1) 0).set i ((1:Int):Rat)
theorem as9{A:Nat}{kn:List Rat}{d i:Nat}(hA:62<=A):∀a∈Gy kn d i,Fit A a:=fun a ha=>by
 rcases oB ha with h | rfl
 ·rw[(jW.1 h).2];exact Fit.zero (by omega)
 ·exact(Fit.int (n:=1) (B:=62) (by omega) (by omega)).mono hA
theorem TC(kn:List Rat)(d i A:Nat)(hA1:62<=A)(hk:∀a∈kn,Fit A a)(F:EZ kn d)(hi:i<kn.length-d-1)(hA:lj A d+A<=1000000):aU prog 34 [(.one (sQ kn):aN),(.one (.int .i64 (d:Int)):aN),(.one (.int .i64 (i:Int)):aN)] (.ret [.agg [sQ ((oJ kn d (kn.length-1-d)).map (fun t=>kn.getD t 0)++[kn.getD (kn.length-1-d) 0]),eQ ((oJ kn d (kn.length-1-d)).map (nW kn d (Gy kn d i)))],.one (.int .i64 0)]):=by
 refine dL func34 Vr ?_;have hs:=F.hs;have hd:=F.hd;have h2:=F.h2;apply aA (pJ kn d A hk F);apply vn gQ;refine jm false rfl (fun h=>by cases h) (fun _=>?_);apply vn aj;refine vs _ rfl ?_ ?_<;>intro h5
 ·exfalso;omega
 apply aA (gC kn d);dsimp only[aE,aF];apply vn iI;refine vs _ rfl ?_ ?_<;>intro h9
 ·exfalso;omega
 apply aA (az4 kn d i);apply aA (Bm kn (Gy kn d i) d A hk (as9 hA1) (by rw[Gy,bJ,eX]) hA);exact aL
def bM6:Tr:=gR 129 0 0 1 6 7 28 28 4 (kL 2 0 8 (aR 3 0 aJ0 (Bj 130 0 1 0 2 11 12 28 28 31 (.ret [(G2 4),(WK 0)]))))
theorem WM:aV prog f49 ck [.v none,.v none]=bM6:=by kernel_rfl
def bJ1:Tr:=fO 67 [(G3 0),(G3 1)] [none] [4,5] [46,46] 3 true (eB 2 0 0 3 6 aL3)
theorem Tb:aV prog f109 ck [.v (some 3),.ref 3]=bJ1:=by kernel_rfl
def Ky:Tr:=.ret [(W 3 0)]
def Iy:Tr:=.need (.prim [(W 2 0),(WK (0))] none) (.binOp .gtr 3 (.tmp 6) (.const (I3 (0))) 3) 4 false Ky
def Hj:Tr:=.need (.call 67 [(.agg [(U 0 0),(U 0 1),(U 0 2)]),(.agg [(U 1 0),(U 1 1),(U 1 2)])] [none]) (.call ⟨.value (.func 67),#[(.tmp 4),(.tmp 5)],#[46,46]⟩) 3 true Iy
theorem Vq:aV prog f111 ck [.v (some 3),.ref 3]=Hj:=by kernel_rfl
theorem WL(x y sol:List Rat)(A B:Nat)(hA1:1<=A)(hA:A<=10000000)(hx:∀a∈x,Fit A a)(hy:∀a∈y,Fit A a)(hsf:∀a∈sol,Fit A a)(hs:x.length<549755813000)(h2:2<=x.length)(hxy:y.length=x.length)(hxs:sol.length=x.length)(hgv:QT x y=true)(hT:Mh x.length (x.length+1) B (qq x y))(hB:1<=B)(hg:∀k,k<=x.length->gA B k<=1000000000)(hsol:lu (qq x y)=some sol)(hsh:∀i,i+1<x.length->aU prog 205 [.one (sQ (cvP x y sol i)),qT (-(x.getD i 0))] (.ret [.one (sQ (yo x y sol i))])):aU prog 49 [(.one (sQ x):aN),(.one (sQ y):aN)] (.ret [.agg (yY x ((List.range (x.length-1)).map (yo x y sol))),.one (.int .i64 0)]):=by
 refine dL func49 WM ?_;apply aA (Tv x y A hx hA1);rw[hgv];apply vn gQ;refine jm false rfl (fun h=>by cases h) (fun _=>?_);apply aA (Yo x y sol A B hA1 hA hx hy hsf hs h2 hxy hxs hT hB hg hsol hsh);exact aL
end Go.Sy
