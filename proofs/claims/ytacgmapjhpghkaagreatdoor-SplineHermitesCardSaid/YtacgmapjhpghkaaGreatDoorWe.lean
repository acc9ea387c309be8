/- Part. -/
import Derived.Test.YtacgmapjhpghkaaGreatDoorWd
set_option linter.all false
namespace Go.Sy
open Go Go.Proofs Tryz Ord
def bF5:Tr:=fJ 0 0 1 0 205 12 13 (di 5 2 14 (oy 63 6 3 15 2 46 (yb 7 28 16 (jw 3 56 2 8 11 17 28 (ba 1 1 3 9 (qf 0 10 9))))))
def bl4:Tr:=.loop 0 [lK 0,.nilrow] (aw 0 0 6 205 (dw 1 0 3 3 5 7 4 (aQ 4 0 bF5 (qa 3 2))))
theorem aX5:aV prog f71 dE [.v none]=bl4:=by kernel_rfl
def MX:Tr:=hx215Q 
def bE7:Tr:=Gz 23 1 5 3 (gQ 2 0 0 3 6 (aQ 3 0 MX (LB 1 (kz 112 4 4 1 4 2 1 9 10 (gS 125 [(W 0 0),(G3 5)] [none] [8,11] [98,46] 98 true (cD 6))))))
theorem aP9:aV prog f228 dE [.v none,.v (some 3)]=bE7:=by kernel_rfl
def aX9:Tr:=gS 228 [(.one (.c (.sr 3 27))),(G3 35)] [none] [66,79] [98,46] 98 false (ba 1 1 3 82 (fS 2 1 84 (gS 188 [(G3 0),(W 37 0),(W 38 0)] [none] [81,83,85] [228,3,3] 98 true (jB 64 36 0 39 80 86 98 98 98 (jB 66 21 0 40 88 89 98 98 98 (cD 41))))))
def bd3:Tr:=ba 28 1 3 70 (fJ 0 0 29 0 28 67 71 (dj 30 3 46 72 (ba 1 1 3 75 (fJ 0 0 32 0 28 74 76 (dj 33 3 46 77 (tY 86 31 31 1 31 2 34 73 78 aX9))))))
def aX6:Tr:=fw 1 2 3 59 60 (ba 22 1 3 61 (fJ 0 0 23 0 28 58 62 (dj 24 3 46 63 (LB (-1) (aG4 25 26 64 65 (fw 1 2 3 68 69 bd3))))))
def aP8:Tr:=fJ 0 0 1 0 28 46 47 (dj 15 3 46 48 (tY 86 14 14 1 14 2 16 45 49 (gS 228 [(.one (.c (.sr 3 11))),(G3 17)] [none] [39,50] [98,46] 98 false (fS 2 1 54 (gS 188 [(G3 0),(W 1 0),(W 19 0)] [none] [52,53,55] [228,3,3] 98 true (jB 64 18 0 20 51 56 98 98 98 aX6))))))
def aM7:Tr:=dj 7 3 46 35 (rX 65 8 3 36 46 (LB 1 (aG4 9 10 37 38 (fw 1 2 3 41 42 (fJ 0 0 12 0 28 40 43 (dj 13 3 46 44 aP8))))))
def bA1:Tr:=aQ 3 0 (rn .eql 3 12 14 1 0 0 2 4 (aQ 4 0 (tS 113 1 3 3 46 (yb 5 98 16 (qa 3 6))) MX)) (dw 0 2 1 3 22 23 4 (aQ 4 0 MX (fw 1 2 3 28 29 (rn .gtr 3 27 30 0 2 5 0 4 (aQ 6 0 MX (fJ 0 0 1 0 28 33 34 aM7))))))
def bx5:Tr:=gQ 2 0 0 3 10 bA1
theorem ad4:aV prog f188 dE [.v (some 3),.v none,.v none]=bx5:=by kernel_rfl
def aH9:Tr:=cD 3
def bF0:Tr:=aw 0 0 4 28 (gN 1 0 1 3 5 7 (fS 2 1 8 aH9))
theorem Wk:aV prog f104 dE [.v (some 2)]=bF0:=by kernel_rfl
def bo1:Tr:=fJ 0 0 0 1 28 4 6 (dj 1 3 46 7 (lD 2 2 2))
theorem aH6:aV prog f107 dE [.v (some 2)]=bo1:=by kernel_rfl
def bl5:Tr:=aw 0 0 6 28 (fS 1 1 7 (gN 2 0 1 3 8 10 (fJ 0 0 3 0 28 4 11 (dj 4 3 46 12 (lD 5 5 2)))))
theorem aS3:aV prog f108 dE [.v (some 2)]=bl5:=by kernel_rfl
def bz5:Tr:=LG 104 0 6 157 3 (aq9 2 28 7 (tS 113 1 3 3 46 (cW 3 1 28 9 10 (VW 3 1 4 12 11 (qa 3 5)))))
theorem ay5:aV prog f106 dE [.v (some 2),.v none]=bz5:=by kernel_rfl
def uJ:Tr:=.ret [(.agg [(U 0 0),(U 1 0)]),(tF false)]
def bb2:Tr:=fJ 0 0 22 0 28 49 53 (dj 23 3 46 54 (UD 20 24 48 55 (gQ 25 0 0 3 56 (aQ 26 0 uJ (ba 14 1 3 43 (Fx 13 27 15 0 16 0))))))
def aY8:Tr:=fJ 0 0 29 0 28 77 79 (dj 30 3 46 80 (fJ 0 0 21 0 28 82 83 (dj 32 3 46 84 (gS 67 [(G3 31),(G3 33)] [none] [81,85] [46,46] 3 false (ju 34 0 0 3 86 (.ret [(.agg [(U 0 0),(U 1 0)]),(W 35 0)]))))))
def aS6:Tr:=ba 1 1 3 70 (fJ 0 0 24 0 28 69 71 (dj 25 3 46 72 (gS 67 [(G3 23),(G3 26)] [none] [68,73] [46,46] 3 false (ju 27 0 0 3 74 (aQ 28 0 (fS 21 1 78 aY8) uJ)))))
def aV4:Tr:=dw 14 0 17 3 39 41 4 (aQ 18 0 (fJ 0 0 14 0 28 45 46 (dj 19 3 46 47 (gN 14 1 0 3 50 51 (fS 21 1 52 bb2)))) (aw 0 0 59 28 (fS 19 1 60 (gN 20 1 0 3 61 62 (fJ 0 0 1 0 28 65 66 (dj 22 3 46 67 aS6))))))
def aO4:Tr:=aQ 9 0 uJ (.need (.call 90 [(W 0 0),(tF false)] [none]) (.call ⟨.value (.func 90),#[(tT 32),(.const (.bool false))],#[28,4]⟩) 4 false (oW 10 0 33 (aQ 11 0 uJ (ba 1 1 3 37 (.loop 0 [(.w (.one (.c (.k (.bool false))))),lV 12 0,lN,lK 0] (aw 0 0 40 28 aV4))))))
def bH5:Tr:=aw 0 0 19 28 (.need (.prim [(WK 2),(W 1 0)] none) (.binOp .mul 3 (.const (I3 2)) (tT 21) 3) 3 false (ba 5 2 3 22 (dw 4 0 6 3 20 23 4 (aQ 7 0 uJ (aw 0 0 27 28 (jQ 8 0 60 3 28 aO4))))))
def bG7:Tr:=ju 1 0 0 3 12 (aQ 2 0 uJ (jQ 1 0 5 3 15 (aQ 3 0 uJ bH5)))
theorem ai5:aV prog f103 dE [.v none,.v none]=bG7:=by kernel_rfl
theorem UN{sz:Nat}{us ts:List (List aC)}(h:aj (aj aC.Sub) us ts):(aC.slice sz us).Sub (.slice sz ts):=by
 refine .inr ⟨fun M w v h=>by obtain⟨a,cap,rfl,_⟩:=h;exact⟨_,_,_,rfl⟩,fun M w v hv=>?_⟩;obtain⟨a,cap,rfl,hc,hm,he⟩:=hv;have hl:=h.length;refine⟨a,cap,by rw[hl],by omega,hm,?_⟩;rcases he with he | ⟨b,off,cs,T,fz,rfl,h1,h2,h3⟩
 ·exact .inl (vf.1 (by rw[<-hl,he];rfl))
 ·refine .inr ⟨b,off,cs,T,fz,rfl,h1,h2,fun i t ht=>?_⟩;obtain⟨u,hu⟩:∃u,us[i]?=some u:=⟨_,bB (by have:=(bg.1 ht).1;omega)⟩
  obtain⟨t',ht',hs⟩:=h.get i u hu;rw[ht]at ht';cases ht';obtain⟨g1,g2⟩:=h3 i u hu;exact⟨by rw[<-g1];exact hs.length.symm,ah.sub hs g2⟩
abbrev zI(z:Int):List aC:=[.int .i64 z]
theorem aO7(zs:List Int)(hz:∀z∈zs,-9223372036854775808<=z/\z<9223372036854775808)(hs:zs.length<1099511627776):aW prog 71 [(.one (.slice 1 (zs.map zI)):aK)] (.ret [.one (sQ (zs.map fun(z:Int)=>(z:Rat)))]):=by
 refine eB func71 aX5 ?_;refine bG {i:Nat // i<=zs.length} (fun g=>[.one (.int .i64 (g.1:Int)),.rows (rQ ((zs.take g.1).map fun(z:Int)=>(z:Rat)))]) (fun g=>zs.length-g.1) ⟨0,cL _⟩ aX.rfl (fun _=>rfl) ?_;rintro⟨i,hi⟩;dsimp only[aF,aG]at hi|-;have htl:((zs.take i).map fun(z:Int)=>(z:Rat)).length=i:=by rw[aJ,bL];omega
 apply vn (aR bi8 (aJ _));apply vn an;refine vs _ rfl ?_ ?_<;>intro h3
 ·obtain⟨z,hz'⟩:∃z,zs[i]?=some z:=⟨_,bB (by omega)⟩
  have hzb:=hz z (cq hz');apply vn (aN (f:=zI) bi8 (m:=i) (by omega) (al i) hz');apply vn (bO ag2);dsimp only[aF,aG];apply aA (Br z hzb.1 hzb.2);apply fB (us:=[qC (z:Rat)]);refine js (xs:=(zs.take i).map fun(z:Int)=>(z:Rat)) (x:=(z:Rat)) (f:=qC) rfl rfl (by omega) (by simp only[maxLen];omega) ?_;rw[show(zs.take i).map (fun(z:Int)=>(z:Rat))++[(z:Rat)]=(zs.take (i+1)).map fun(z:Int)=>(z:Rat) by rw[jb,hz',cP];rfl];apply vn (aB (by omega) (by omega));dsimp only[aF,aG];exact af rfl ⟨⟨i+1,by omega⟩,aX.rfl,by show zs.length-(i+1)<zs.length-i;omega⟩
 rw[dD (show zs.length<=i by omega)];exact aM
def jt(p:List Rat)(q:Rat):List Rat:=if q=0 then[]else yU p (((1:Int):Rat)/q)
theorem ZT(p:List Rat)(q:Rat)(A B:Nat)(hl:p.length<1099511627776)(hp:∀a∈p,Fit A a)(hq:Fit B q)(hA1:1<=A:=by omega)(hA:A+B<=17179869000:=by omega):aW prog 228 [(.one (sQ p):aK),(qT q:aK)] (.ret [.one (sQ (jt p q))]):=by
 refine eB func228 aP9 ?_;apply aA (lY _);apply vn cF;refine vs _ rfl ?_ ?_<;>intro h2
 ·rw[jt,aD (sign_zero.1 ‹_›)];exact jG ⟨aC.Sub.nil,trivial⟩
 apply aA (eH 1);apply aA (mj _ _ 62 B (Fit.int (by omega) (by omega)) hq);rw[nr];dsimp only[aF,aG];apply aA (DH _ _ A (62+B) hA1 hp ((Fit.int (by omega) (by omega)).div hq) hl);dsimp only[aF,aG];rw[show yU p (((1:Int):Rat)/q)=jt p q by rw[jt,aH fun h=>‹¬_› (sign_zero.2 h)]];exact aM
theorem qH(kn:List Rat)(d:Nat)(hs:kn.length<1099511627776:=by omega)(hd:d<1099511627776:=by omega):aW prog 104 [(.agg [sQ kn,.int .i64 (d:Int)]:aK)] (.ret [.one (.int .i64 ((kn.length:Int)-(d:Int)-1))]):=by
 refine eB func104 Wk ?_;apply vn (aR bK (aJ _));apply vn (aO (by omega) (by omega));apply vn (aO (by omega) (by omega));exact aM
theorem Yn(kn:List Rat)(d:Nat)(hs:kn.length<1099511627776:=by omega)(hd:d<kn.length:=by omega):aW prog 108 [(.agg [sQ kn,.int .i64 (d:Int)]:aK)] (.ret [qT (kn.getD (kn.length-1-d) 0)]):=by
 refine eB func108 aS3 ?_;apply vn (aR bK (aJ _));apply vn (aO (by omega) (by omega));apply vn (aO (by omega) (by omega));dsimp only[aF,aG];apply vn (aN bK (m:=kn.length-1-d) (by omega) (by omega) (aZ (show kn.length-1-d<kn.length by omega)));apply vn (ab cn (by decide) (by simp) (.inl rfl));exact aM
theorem aw0(kn:List Rat)(d i:Nat)(hs:kn.length<1099511627776:=by omega)(hd:d+1<=kn.length:=by omega)(hi:i<kn.length-d-1:=by omega):aW prog 106 [(.agg [sQ kn,.int .i64 (d:Int)]:aK),(.one (.int .i64 (i:Int)):aK)] (.ret [.one (sQ ((List.replicate (kn.length-d-1) 0).set i ((1:Int):Rat)))]):=by
 refine eB func106 ay5 ?_;apply aA (qH kn d hs);rw[show(kn.length:Int)-(d:Int)-1=((kn.length-d-1:Nat):Int) by omega];refine tQ (n:=kn.length-d-1) (m:=kn.length-d-1) (us:=List.replicate (kn.length-d-1) z3) rfl rfl rfl (aY _) (by omega) (by simp only[maxLen];omega) ?_;apply aA (eH 1);refine qw rfl rfl (by omega) (by rw[fV];omega) ?_;refine Rd (ts:=List.replicate (kn.length-d-1) z3) (us:=(List.replicate (kn.length-d-1) z3).set i (qC ((1:Int):Rat))) rfl rfl (by omega) (cells:=z3) (by rw[al,Ao,aD (by omega)]) (by rw[al];rfl) ?_;dsimp only[aF,aG];refine jG ⟨UN ?_,trivial⟩;rw[rQ,qD,sx];exact Cq ⟨aC.Sub.same,aC.Sub.same,aC.Sub.same,trivial⟩ i (vQ nI _)
def tV(kn:List Rat)(i:Nat):Nat->Nat->List Rat
 | 0,j=>if j=i then[((1:Int):Rat)]else[]
 | e+1,j=>if i<j\/j+(e+1)<i then[]else
   kq (en (jt [-(kn.getD j 0),((1:Int):Rat)] (kn.getD (j+(e+1)) 0-kn.getD j 0)) (tV kn i e j)) (en (jt [kn.getD (j+(e+1)+1) 0,((-1:Int):Rat)] (kn.getD (j+(e+1)+1) 0-kn.getD (j+1) 0)) (tV kn i e (j+1)))
def ud(A:Nat):Nat->Nat
 | 0=>62
 | e+1=>2*((3*A+130)*3+ud A e*(e+2)+7)+1
theorem mo{p:List Rat}{q:Rat}:(jt p q).length<=p.length:=by
 unfold jt;split
 ·exact cL _
 ·exact bF (jv _) (by rw[aJ,lM];exact aY _)
theorem ME{A B:Nat}{p:List Rat}{q:Rat}(hA:1<=A)(hp:∀a∈p,Fit A a)(hq:Fit B q):∀a∈jt p q,Fit (A+(62+B)) a:=by
 intro a ha;unfold jt at ha;split at ha
 ·cases ha
 ·have h:=lp ha;obtain⟨i,_,rfl⟩:=dn.1 h;exact(aE hp i hA).mul ((Fit.int (n:=1) (B:=62) (by omega) (by omega)).div hq)
theorem ml(kn:List Rat)(i:Nat):∀e j,(tV kn i e j).length<=e+1
 | 0,j=>by unfold tV;split<;>simp
 | e+1,j=>by
   unfold tV;split
   ·exact cL _
   ·have h1:=pN (jt [-(kn.getD j 0),((1:Int):Rat)] (kn.getD (j+(e+1)) 0-kn.getD j 0)) (tV kn i e j);have h2:=pN (jt [kn.getD (j+(e+1)+1) 0,((-1:Int):Rat)] (kn.getD (j+(e+1)+1) 0-kn.getD (j+1) 0)) (tV kn i e (j+1));have h3:=ml kn i e j;have h4:=ml kn i e (j+1);have h5:=mo (p:=[-(kn.getD j 0),((1:Int):Rat)]) (q:=kn.getD (j+(e+1)) 0-kn.getD j 0);have h6:=mo (p:=[kn.getD (j+(e+1)+1) 0,((-1:Int):Rat)]) (q:=kn.getD (j+(e+1)+1) 0-kn.getD (j+1) 0);simp only[ak,bX]at h5 h6;exact bF (vq _ _) (by omega)
theorem wU{A:Nat}{a b:Rat}(ha:Fit A a)(hb:Fit 62 b):∀x∈[a,b],Fit (A+62) x:=fun x hx=>by
 rcases eU.1 hx with rfl | hx
 ·exact ha.mono (by omega)
 ·rw[dR.1 hx];exact hb.mono (by omega)
section
variable{A:Nat}{kn:List Rat}(hA1:1<=A)(hk:∀a∈kn,Fit A a)
include hA1 hk
theorem ZL(e j:Nat):∀a∈jt [-(kn.getD j 0),((1:Int):Rat)] (kn.getD (j+(e+1)) 0-kn.getD j 0),Fit (3*A+130) a:=fun a ha=>
 (ME (by omega) (wU (aE hk j hA1).neg (Fit.int (by omega) (by omega))) ((aE hk _ hA1).sub (aE hk _ hA1)) a ha).mono (by omega)
theorem YZ(e j:Nat):∀a∈jt [kn.getD (j+(e+1)+1) 0,((-1:Int):Rat)] (kn.getD (j+(e+1)+1) 0-kn.getD (j+1) 0),Fit (3*A+130) a:=fun a ha=>
 (ME (by omega) (wU (aE hk _ hA1) (Fit.int (by omega) (by omega))) ((aE hk _ hA1).sub (aE hk _ hA1)) a ha).mono (by omega)
theorem me(i:Nat):∀e j,∀a∈tV kn i e j,Fit (ud A e) a
 | 0,j=>by
   intro a ha;unfold tV at ha;split at ha
   ·rw[dR.1 ha];exact(Fit.int (n:=1) (B:=62) (by omega) (by omega):Fit 62 _)
   ·cases ha
 | e+1,j=>by
   intro a ha;unfold tV at ha;split at ha
   ·cases ha
   ·have h3:=ml kn i e j;have h4:=ml kn i e (j+1);have h5:=mo (p:=[-(kn.getD j 0),((1:Int):Rat)]) (q:=kn.getD (j+(e+1)) 0-kn.getD j 0);have h6:=mo (p:=[kn.getD (j+(e+1)+1) 0,((-1:Int):Rat)]) (q:=kn.getD (j+(e+1)+1) 0-kn.getD (j+1) 0);simp only[ak,bX]at h5 h6
    have m1:∀a∈en (jt [-(kn.getD j 0),((1:Int):Rat)] (kn.getD (j+(e+1)) 0-kn.getD j 0)) (tV kn i e j),Fit ((3*A+130)*3+ud A e*(e+2)+7) a:=fun a ha=>(re (ZL hA1 hk e j) (me i e j) (by omega) a ha).mono (by
     have:=dF (3*A+130) (show(jt [-(kn.getD j 0),((1:Int):Rat)] (kn.getD (j+(e+1)) 0-kn.getD j 0)).length+1<=3 by omega);have:=dF (ud A e) (show(tV kn i e j).length+1<=e+2 by omega);omega)
    have m2:∀a∈en (jt [kn.getD (j+(e+1)+1) 0,((-1:Int):Rat)] (kn.getD (j+(e+1)+1) 0-kn.getD (j+1) 0)) (tV kn i e (j+1)),Fit ((3*A+130)*3+ud A e*(e+2)+7) a:=fun a ha=>(re (YZ hA1 hk e j) (me i e (j+1)) (by omega) a ha).mono (by
     have:=dF (3*A+130) (show(jt [kn.getD (j+(e+1)+1) 0,((-1:Int):Rat)] (kn.getD (j+(e+1)+1) 0-kn.getD (j+1) 0)).length+1<=3 by omega);have:=dF (ud A e) (show(tV kn i e (j+1)).length+1<=e+2 by omega);omega)
    exact(RT (by omega) (by omega) m1 m2 a ha).mono (by rw[ud];omega)
end
theorem Mr(kn:List Rat)(d i j e A:Nat)(hA1:1<=A)(hk:∀a∈kn,Fit A a)(hs:kn.length<1000000000)(hA:ud A e<=1000000000)(hij:i<1000000000)(he:e<=60)(hj:e=0\/j+e+1<kn.length)(hj2:j<1000000000)(ih:∀e' j',e=e'+1->j'=j\/j'=j+1->aW prog 188 [.agg [sQ kn,.int .i64 (d:Int),.int .i64 (i:Int)],.one (.int .i64 (j':Int)),.one (.int .i64 (e':Int))] (.ret [.one (sQ (tV kn i e' j'))])):aW prog 188 [(.agg [sQ kn,.int .i64 (d:Int),.int .i64 (i:Int)]:aK),(.one (.int .i64 (j:Int)):aK),(.one (.int .i64 (e:Int)):aK)] (.ret [.one (sQ (tV kn i e j))]):=by
 refine eB func188 ad4 ?_;apply vn cF;refine vs _ rfl ?_ ?_<;>intro h1
 ·obtain rfl:e=0:=by omega
  apply vn cF;refine vs _ rfl ?_ ?_<;>intro h3
  ·apply aA (eH 1);apply fB (us:=[qC ((1:Int):Rat)]);dsimp only[aF,aG];rw[show tV kn i 0 j=[((1:Int):Rat)] by rw[tV,aD (by omega)]];exact aM
  rw[show tV kn i 0 j=[] by rw[tV,aH (by omega)]];exact jG ⟨aC.Sub.nil,trivial⟩
 obtain⟨e,rfl⟩:∃e',e=e'+1:=⟨e-1,by omega⟩
 have hb1:=ZL hA1 hk e j;have hb2:=YZ hA1 hk e j;have hl3:=ml kn i e j;have hl4:=ml kn i e (j+1);have hl5:=mo (p:=[-(kn.getD j 0),((1:Int):Rat)]) (q:=kn.getD (j+(e+1)) 0-kn.getD j 0);have hl6:=mo (p:=[kn.getD (j+(e+1)+1) 0,((-1:Int):Rat)]) (q:=kn.getD (j+(e+1)+1) 0-kn.getD (j+1) 0);simp only[ak,bX]at hl5 hl6;have hx:=hA;rw[ud]at hx;have hq1:=dF (3*A+130) (show(jt [-(kn.getD j 0),((1:Int):Rat)] (kn.getD (j+(e+1)) 0-kn.getD j 0)).length+1<=3 by omega);have hq2:=dF (ud A e) (show(tV kn i e j).length+1<=e+2 by omega);have hq3:=dF (3*A+130) (show(jt [kn.getD (j+(e+1)+1) 0,((-1:Int):Rat)] (kn.getD (j+(e+1)+1) 0-kn.getD (j+1) 0)).length+1<=3 by omega);have hq4:=dF (ud A e) (show(tV kn i e (j+1)).length+1<=e+2 by omega);apply vn an;refine vs _ rfl ?_ ?_<;>intro h9
 ·rw[show tV kn i (e+1) j=[] by rw[tV,aD (by omega)]];exact jG ⟨aC.Sub.nil,trivial⟩
 apply vn (aB (by omega) (by omega));apply vn fC;refine vs _ rfl ?_ ?_<;>intro h13
 ·rw[show tV kn i (e+1) j=[] by rw[tV,aD (by omega)]];exact jG ⟨aC.Sub.nil,trivial⟩
 apply vn (aN bK (m:=j) (by omega) (al j) (aZ (show j<kn.length by omega)));dsimp only[aF,aG];apply vn (ab cn (by decide) (by simp) (.inl rfl));apply aA (Pp _);apply aA (eH 1);apply fB (us:=rQ [-(kn.getD j 0),((1:Int):Rat)]);dsimp only[aF,aG];apply vn (aB (by omega) (by omega));dsimp only[aF,aG];apply vn (aN bK (m:=j+(e+1)) (by omega) (by omega) (aZ (show j+(e+1)<kn.length by omega)));apply vn (ab cn (by decide) (by simp) (.inl rfl));dsimp only[aF,aG];apply vn (aN bK (m:=j) (by omega) (al j) (aZ (show j<kn.length by omega)));apply vn (ab cn (by decide) (by simp) (.inl rfl));apply aA (kO _ _ A A (aE hk _ hA1) (aE hk _ hA1));apply aA (ZT _ _ (A+62) (A+A+1) (by simp) (wU (aE hk j hA1).neg (Fit.int (by omega) (by omega))) ((aE hk _ hA1).sub (aE hk _ hA1)));dsimp only[aF,aG];apply vn (aO (by omega) (by omega));dsimp only[aF,aG];rw[show((e+1:Nat):Int)-1=(e:Int) by omega];apply aA (ih e j rfl (.inl rfl));apply aA (NP _ _ (3*A+130) (ud A e) hb1 (me hA1 hk i e j));apply vn (aB (by omega) (by omega));apply vn (aB (by omega) (by omega));dsimp only[aF,aG];apply vn (aN bK (m:=j+(e+1)+1) (by omega) (by omega) (aZ (show j+(e+1)+1<kn.length by omega)));apply vn (ab cn (by decide) (by simp) (.inl rfl));apply aA (eH (-1));apply fB (us:=rQ [kn.getD (j+(e+1)+1) 0,((-1:Int):Rat)]);dsimp only[aF,aG];apply vn (aB (by omega) (by omega));apply vn (aB (by omega) (by omega));dsimp only[aF,aG];apply vn (aN bK (m:=j+(e+1)+1) (by omega) (by omega) (aZ (show j+(e+1)+1<kn.length by omega)));apply vn (ab cn (by decide) (by simp) (.inl rfl));apply vn (aB (by omega) (by omega));dsimp only[aF,aG];apply vn (aN bK (m:=j+1) (by omega) (by omega) (aZ (show j+1<kn.length by omega)));apply vn (ab cn (by decide) (by simp) (.inl rfl));apply aA (kO _ _ A A (aE hk _ hA1) (aE hk _ hA1));apply aA (ZT _ _ (A+62) (A+A+1) (by simp) (wU (aE hk _ hA1) (Fit.int (by omega) (by omega))) ((aE hk _ hA1).sub (aE hk _ hA1)));dsimp only[aF,aG];apply vn (aB (by omega) (by omega));dsimp only[aF,aG];rw[show((j:Int)+1)=((j+1:Nat):Int) by omega];apply vn (aO (by omega) (by omega));dsimp only[aF,aG];rw[show((e+1:Nat):Int)-1=(e:Int) by omega];apply aA (ih e (j+1) rfl (.inr rfl));apply aA (NP _ _ (3*A+130) (ud A e) hb2 (me hA1 hk i e (j+1)));dsimp only[aF,aG];apply aA (Pn _ _ _ _ (fun a ha=>(re hb1 (me hA1 hk i e j) (by omega) a ha).mono (by omega)) (fun a ha=>(re hb2 (me hA1 hk i e (j+1)) (by omega) a ha).mono (by omega)) (dV (pN _ _) (by omega)) (show 1<=(3*A+130)*3+ud A e*(e+2)+7 by omega) (show 1<=(3*A+130)*3+ud A e*(e+2)+7 by omega) (dV (pN _ _) (by omega)));dsimp only[aF,aG];rw[show tV kn i (e+1) j=_ by rw[tV,aH (by omega)]];exact aM
theorem BB(kn:List Rat)(d i A:Nat)(hA1:1<=A)(hk:∀a∈kn,Fit A a)(hs:kn.length<1000000000)(hij:i<1000000000):∀(e j:Nat),ud A e<=1000000000->e<=60->(e=0\/j+e+1<kn.length)->j<999999900-e->aW prog 188 [.agg [sQ kn,.int .i64 (d:Int),.int .i64 (i:Int)],.one (.int .i64 (j:Int)),.one (.int .i64 (e:Int))] (.ret [.one (sQ (tV kn i e j))])
 | 0,j,hA,he,hj,hj2=>Mr kn d i j 0 A hA1 hk hs hA hij he hj (by omega) fun e' j' h=>by omega
 | e+1,j,hA,he,hj,hj2=>Mr kn d i j (e+1) A hA1 hk hs hA hij he hj (by omega) fun e' j' h hj'=>by
   obtain rfl:e'=e:=by omega
   have hx:=hA;rw[ud]at hx;have h9:=mH (ud A e') (show 0<e'+2 by omega);exact BB kn d i A hA1 hk hs hij e' j' (by omega) (by omega) (by omega) (by omega)
def aZ6:Tr:=gS 188 [(.agg [(U 0 0),(U 0 1),(U 2 0)]),(W 19 0),(W 0 1)] [none] [55,56,59] [228,3,3] 98 false (fJ 1 0 19 0 28 61 62 (dj 25 3 46 63 (gS 125 [(W 24 0),(G3 26)] [none] [60,64] [98,46] 98 true (jB 66 18 0 27 54 65 98 98 98 (ba 19 1 3 52 (jS 1 28 29))))))
def aS1:Tr:=dj 24 3 46 72 (yb 25 28 73 (jw 3 56 3 26 68 74 28 (ym 18 29 78 (jw 1 24 4 28 77 79 29 (ba 2 1 3 21 (uX 0 30 27 29))))))
def aV8:Tr:=.loop 1 [lN,lV 17 0] (gS 104 [(G2 0)] [none] [47] [157] 3 false (fS 20 1 48 (.need (.prim [(W 2 0),(W 21 0)] none) (.call ⟨.builtin .min,#[(tT 45),(tT 49)],#[3,3]⟩) 3 false (rn .leq 3 44 50 19 0 22 0 4 (aQ 23 0 aZ6 (fJ 0 0 2 0 28 70 71 aS1))))))
def bB6:Tr:=fJ 0 0 11 0 28 29 31 (dj 12 3 46 32 (UD 10 13 27 33 (gQ 14 0 0 3 34 (aQ 15 0 (ba 2 1 3 21 (uX 0 16 3 4)) (gN 2 0 1 3 39 41 (ap0 16 42 aV8))))))
def bD0:Tr:=gN 6 0 1 3 16 18 (dw 2 0 7 3 12 19 4 (aQ 8 0 (fJ 0 0 2 0 28 24 25 (dj 9 3 46 26 (ba 2 1 3 30 bB6))) (gS 108 [(G2 0)] [(some 3)] [85] [157] 46 true (yb 9 28 86 (jw 3 56 3 10 84 87 28 (.ret [(.agg [(.c (.sr 3 11)),(.c (.sr 1 4))])]))))))
def bE5:Tr:=.loop 0 [lV 0 1,.nilrow,.nilrow] (aw 0 0 14 28 (fS 5 1 15 bD0))
theorem XZ:aV prog f105 dE [.v (some 2),.v none]=bE5:=by kernel_rfl
theorem Qx{A B:Nat}{p:List Rat}{k:Rat}(hA:1<=A)(hp:∀a∈p,Fit A a)(hk:Fit B k):∀a∈yU p k,Fit (A+B) a:=by
 intro a ha;obtain⟨i,_,rfl⟩:=dn.1 (lp ha);exact(aE hp i hA).mul hk
theorem wE(p:List Rat)(k:Rat):(yU p k).length<=p.length:=bF (jv _) (by rw[aJ,lM];exact aY _)
def Ss(kn:List Rat)(d:Nat)(cf:List Rat)(i lo n:Nat):List Rat:=(List.range n).foldl (fun acc t=>kq acc (yU (tV kn i d (lo+t)) (cf.getD (lo+t) 0))) []
theorem xu(kn:List Rat)(d:Nat)(cf:List Rat)(i lo n:Nat):Ss kn d cf i lo (n+1)=kq (Ss kn d cf i lo n) (yU (tV kn i d (lo+n)) (cf.getD (lo+n) 0)):=by
 rw[Ss,gu,List.foldl_append];rfl
theorem TR(kn:List Rat)(d:Nat)(cf:List Rat)(i lo:Nat):∀n,(Ss kn d cf i lo n).length<=d+1
 | 0=>cL _
 | n+1=>by
   rw[xu];have h1:=TR kn d cf i lo n;have h2:=wE (tV kn i d (lo+n)) (cf.getD (lo+n) 0);have h3:=ml kn i d (lo+n);exact bF (vq _ _) (by omega)
theorem Vh{A:Nat}{kn cf:List Rat}(hA1:1<=A)(hk:∀a∈kn,Fit A a)(hc:∀a∈cf,Fit A a)(d i lo:Nat)(hb:1<=ud A d):∀n,∀a∈Ss kn d cf i lo n,Fit (1+n*(ud A d+A+1)) a
 | 0=>fun a ha=>by cases ha
 | n+1=>fun a ha=>by
   rw[xu]at ha;exact(RT (by omega) (by omega) (Vh hA1 hk hc d i lo hb n) (Qx hb (me hA1 hk i d (lo+n)) (aE hc (lo+n) hA1)) a ha).mono (by rw[bf];omega)
def xi(kn:List Rat)(d:Nat)(cf:List Rat)(i:Nat):List Rat:=Ss kn d cf i (i-d) (min i (kn.length-d-1-1)+1-(i-d))
def wx(kn:List Rat)(d i:Nat):List Nat:=(List.range i).filter fun t=>decide (d<=t/\kn.getD t 0≠kn.getD (t+1) 0)
theorem aI4{kn:List Rat}{d i:Nat}(h:¬(d<=i/\kn.getD i 0≠kn.getD (i+1) 0)):wx kn d (i+1)=wx kn d i:=by
 rw[wx,gu,PB,ZN (by simpa using h)];simp[wx]
theorem Sw{kn:List Rat}{d i:Nat}(h:d<=i/\kn.getD i 0≠kn.getD (i+1) 0):wx kn d (i+1)=wx kn d i++[i]:=by
 rw[wx,gu,PB,Yq (by simpa using h)];simp[wx]
theorem aQ9(kn:List Rat)(d i:Nat):(wx kn d i).length<=i:=by
 have:=sF (fun t=>decide (d<=t/\kn.getD t 0≠kn.getD (t+1) 0)) (List.range i);rw[lM]at this;exact this
theorem au3(kn:List Rat)(d:Nat):wx kn d d=[]:=by
 rw[wx,List.filter_eq_nil_iff];intro t ht;have:=gE.1 ht;simp;omega
theorem bd6(A:Nat):∀e,1<=ud A e
 | 0=>by simp[ud]
 | e+1=>by rw[ud];omega
theorem xr{a b:Rat}:gy a b=0↔a=b:=by
 unfold gy;split
 ·rename_i h;constructor
  ·intro h';cases h'
  ·rintro rfl;exact absurd h (qZ)
 ·split
  ·rename_i h1 h;constructor
   ·intro h';cases h'
   ·rintro rfl;exact absurd h (qZ)
  ·rename_i h1 h2;exact⟨fun _=>Rat.le_antisymm (lU.1 h2) (lU.1 h1),fun _=>rfl⟩
theorem VV(kn cf:List Rat)(d A:Nat)(hk:∀a∈kn,Fit A a)(hc:∀a∈cf,Fit A a)(hcl:cf.length=kn.length-d-1)(hA:ud A d+A<=10000)(hA1:1<=A:=by omega)(hs:kn.length<1000000:=by omega)(hd:d<=60:=by omega)(h2:2*d+2<=kn.length:=by omega):aW prog 105 [(.agg [sQ kn,.int .i64 (d:Int)]:aK),(.one (sQ cf):aK)] (.ret [.agg [sQ ((wx kn d (kn.length-1-d)).map (fun t=>kn.getD t 0)++[kn.getD (kn.length-1-d) 0]),eQ ((wx kn d (kn.length-1-d)).map (xi kn d cf))]]):=by
 refine eB func105 XZ ?_;have hb1:=bd6 A d;refine bG {i:Nat // d<=i/\i<=kn.length-1-d} (fun g=>[.one (.int .i64 (g.1:Int)),.rows (rQ ((wx kn d g.1).map fun t=>kn.getD t 0)),.rows (((wx kn d g.1).map (xi kn d cf)).map cQ)]) (fun g=>kn.length-g.1) ⟨d,aY _,by omega⟩ (by dsimp only;rw[au3];exact aX.rfl) (fun _=>rfl) ?_;rintro⟨i,hdi,hi⟩;dsimp only[aF,aG]at hdi hi|-;have hnl:=aQ9 kn d i;have hm1:((wx kn d i).map fun t=>kn.getD t 0).length<=i:=by rw[aJ];exact hnl
 have hm2:((wx kn d i).map (xi kn d cf)).length<=i:=by rw[aJ];exact hnl
 apply vn (aR bK (aJ _));apply vn (aO (by omega) (by omega));apply vn (aO (by omega) (by omega));apply vn an;dsimp only[aF,aG];refine vs _ rfl ?_ ?_<;>intro h5
 ·apply vn (aN bK (m:=i) (by omega) (al i) (aZ (show i<kn.length by omega)));apply vn (ab cn (by decide) (by simp) (.inl rfl));apply vn (aB (by omega) (by omega));dsimp only[aF,aG];apply vn (aN bK (m:=i+1) (by omega) (by omega) (aZ (show i+1<kn.length by omega)));apply vn (ab cn (by decide) (by simp) (.inl rfl));apply aA (ot _ _ A A (aE hk _ hA1) (aE hk _ hA1));apply vn cF;dsimp only[aF,aG];refine vs _ rfl ?_ ?_<;>intro h13
  ·have heq:=xr.1 ‹_›;apply vn (aB (by omega) (by omega));dsimp only[aF,aG];rw[<-aI4 (kn:=kn) (d:=d) (i:=i) (by rintro⟨_,h⟩;exact h heq)];exact af rfl ⟨⟨i+1,by omega,by omega⟩,aX.rfl,by show kn.length-(i+1)<kn.length-i;omega⟩
  have hne:kn.getD i 0≠kn.getD (i+1) 0:=fun h=>‹¬_› (xr.2 h);apply vn (aO (by omega) (by omega));apply vn aI8;dsimp only[aF,aG];rw[show max ((i:Int)-(d:Int)) 0=((i-d:Nat):Int) by omega];refine bG {n:Nat // n<=min i (kn.length-d-1-1)+1-(i-d)} (fun g=>[.one (sQ (Ss kn d cf i (i-d) g.1)),.one (.int .i64 ((i-d+g.1:Nat):Int))]) (fun g=>min i (kn.length-d-1-1)+1-(i-d)-g.1) ⟨0,cL _⟩ ⟨aC.Sub.nil,.inl rfl,trivial⟩ (fun _=>rfl) ?_;rintro⟨n,hn⟩;dsimp only[aF,aG]at hn|-;have hcf:=Vh hA1 hk hc d i (i-d) hb1 n;have hcn:=TR kn d cf i (i-d) n;have hnb:n*(ud A d+A+1)<=100*(ud A d+A+1):=bu _ (by omega);apply aA (qH kn d);apply vn (aO (by omega) (by omega));apply vn bi0;apply vn qp;dsimp only[aF,aG];refine vs _ rfl ?_ ?_<;>intro h23
  ·have hlt:i-d+n<cf.length:=by omega
   apply aA (BB kn d i A hA1 hk (by omega) (by omega) d (i-d+n) (by omega) (by omega) (by omega) (by omega));apply vn (aN bK (m:=i-d+n) (by omega) (al _) (aZ hlt));apply vn (ab cn (by decide) (by simp) (.inl rfl));apply aA (DH _ _ (ud A d) A hb1 (me hA1 hk i d _) (aE hc _ hA1) (dV (ml _ _ _ _) (by omega)));dsimp only[aF,aG];apply aA (Pn _ _ (1+n*(ud A d+A+1)) (ud A d+A) hcf (Qx hb1 (me hA1 hk i d _) (aE hc _ hA1)) (dV (bF (wE _ _) (ml _ _ _ _)) (by omega)));rw[<-xu];apply vn (aB (by omega) (by omega));dsimp only[aF,aG];exact af rfl ⟨⟨n+1,by omega⟩,⟨.inl rfl,.inl (by rw[show((i-d+(n+1):Nat):Int)=((i-d+n:Nat):Int)+1 by omega];rfl),trivial⟩,by show min i (kn.length-d-1-1)+1-(i-d)-(n+1)<min i (kn.length-d-1-1)+1-(i-d)-n;omega⟩
  rw[show Ss kn d cf i (i-d) n=xi kn d cf i by rw[xi,show n=min i (kn.length-d-1-1)+1-(i-d) by omega]];apply vn (aN bK (m:=i) (by omega) (al i) (aZ (show i<kn.length by omega)));apply vn (ab cn (by decide) (by simp) (.inl rfl));apply fB (us:=[qC (kn.getD i 0)]);refine js (xs:=(wx kn d i).map fun t=>kn.getD t 0) (x:=kn.getD i 0) (f:=qC) rfl rfl (by omega) (by simp only[maxLen];omega) ?_;dsimp only[aF,aG];apply fB (us:=[cQ (xi kn d cf i)]);refine js (xs:=(wx kn d i).map (xi kn d cf)) (x:=xi kn d cf i) (f:=cQ) rfl rfl (by omega) (by simp only[maxLen];omega) ?_;rw[show(wx kn d i).map (fun t=>kn.getD t 0)++[kn.getD i 0]=(wx kn d (i+1)).map fun t=>kn.getD t 0 by rw[Sw ⟨hdi,hne⟩,cP];rfl,show(wx kn d i).map (xi kn d cf)++[xi kn d cf i]=(wx kn d (i+1)).map (xi kn d cf) by rw[Sw ⟨hdi,hne⟩,cP];rfl];apply vn (aB (by omega) (by omega));dsimp only[aF,aG];exact af rfl ⟨⟨i+1,by omega,by omega⟩,aX.rfl,by show kn.length-(i+1)<kn.length-i;omega⟩
 obtain rfl:i=kn.length-1-d:=by omega
 apply aA (Yn kn d);apply fB (us:=[qC (kn.getD (kn.length-1-d) 0)]);refine js (xs:=(wx kn d (kn.length-1-d)).map fun t=>kn.getD t 0) (x:=kn.getD (kn.length-1-d) 0) (f:=qC) rfl rfl (by omega) (by simp only[maxLen];omega) ?_;exact aM
def aF4:Tr:=.ret [(.agg [tN,tN]),(WK 2)]
def aD5:Tr:=.ret [(.agg [tN,tN]),(WK 3)]
def bo6:Tr:=aQ 6 0 aD5 (gS 104 [(G2 3)] [none] [25] [157] 3 false (rn .geq 3 24 26 2 0 7 0 4 (aQ 8 0 aD5 (gS 106 [(G2 3),(W 2 0)] [none] [31,32] [157,3] 28 true (gS 105 [(G2 3),(W 9 0)] [(some 2)] [30,33] [157,28] 31 true (.ret [(G2 10),(WK 0)]))))))
def bF3:Tr:=gS 103 [(W 0 0),(W 1 0)] [(some 2),none] [11,12] [28,3] 158 false (oW 4 0 17 (aQ 5 0 aF4 (ju 2 0 0 3 21 bo6)))
theorem aF9:aV prog f34 dE [.v none,.v none,.v none]=bF3:=by kernel_rfl
structure Fra(kn:List Rat)(d:Nat):Prop where
 hs:kn.length<=60
 hd:d<=5
 h2:2*d+2<=kn.length
 hr:nW false kn=true
 hm:∀j,d+1<=j->j<kn.length->kn.getD j 0≠kn.getD (j-d-1) 0
 hf:gy (kn.getD d 0) (kn.getD (d+1) 0)<0
 hl:gy (kn.getD (kn.length-1-d-1) 0) (kn.getD (kn.length-1-d) 0)<0
theorem Mj(kn:List Rat)(d A:Nat)(hk:∀a∈kn,Fit A a)(F:Fra kn d)(hA1:1<=A:=by omega)(hA:A<=1073741824:=by omega):aW prog 103 [(.one (sQ kn):aK),(.one (.int .i64 (d:Int)):aK)] (.ret [.agg [sQ kn,.int .i64 (d:Int)],.one (.bool true)]):=by
 refine eB func103 ai5 ?_;have hs:=F.hs;have hd:=F.hd;have h2:=F.h2;apply vn an;refine vs _ rfl ?_ ?_<;>intro h1
 ·exfalso;omega
 apply vn fC;refine vs _ rfl ?_ ?_<;>intro h4
 ·exfalso;omega
 apply vn (aR bK (aJ _));apply vn xx;dsimp only[aF,aG];apply vn (aB (by omega) (by omega));apply vn an;refine vs _ rfl ?_ ?_<;>intro h10
 ·exfalso;omega
 apply vn (aR bK (aJ _));apply vn fC;dsimp only[aF,aG];refine vs _ rfl ?_ ?_<;>intro h14
 ·exfalso;omega
 apply aA (uR kn false A hk hA1 hA);rw[F.hr];apply vn ru;refine tK false rfl (fun h=>by cases h) (fun _=>?_);apply vn (aB (by omega) (by omega));refine bG {j:Nat // d+1<=j/\j<=kn.length} (fun g=>[.one (.bool false),.one (.int .i64 (g.1:Int)),.one (.exact (.slice none 0 0)),.one (.int .i64 0)]) (fun g=>kn.length-g.1) ⟨d+1,aY _,by omega⟩ aX.rfl (fun _=>rfl) ?_;rintro⟨j,hj1,hj2⟩;dsimp only[aF,aG]at hj1 hj2|-;apply vn (aR bK (aJ _));apply vn an;refine vs _ rfl ?_ ?_<;>intro h24
 ·apply vn (aN bK (m:=j) (by omega) (al j) (aZ (show j<kn.length by omega)));apply vn (ab cn (by decide) (by simp) (.inl rfl));dsimp only[aF,aG];apply vn (aO (by omega) (by omega));apply vn (aO (by omega) (by omega));dsimp only[aF,aG];apply vn (aN bK (m:=j-d-1) (by omega) (by omega) (aZ (show j-d-1<kn.length by omega)));apply vn (ab cn (by decide) (by simp) (.inl rfl));apply aA (ot _ _ A A (aE hk _ hA1) (aE hk _ hA1));apply vn cF;dsimp only[aF,aG];refine vs _ rfl ?_ ?_<;>intro h33
  ·exact absurd (xr.1 ‹_›) (F.hm j hj1 (by omega))
  apply vn (aB (by omega) (by omega));dsimp only[aF,aG];exact af rfl ⟨⟨j+1,by omega,by omega⟩,aX.rfl,by show kn.length-(j+1)<kn.length-j;omega⟩
 apply vn (aR bK (aJ _));apply vn (aO (by omega) (by omega));apply vn (aO (by omega) (by omega));dsimp only[aF,aG];apply vn (aN bK (m:=d) (by omega) (al d) (aZ (show d<kn.length by omega)));apply vn (ab cn (by decide) (by simp) (.inl rfl));apply vn (aB (by omega) (by omega));dsimp only[aF,aG];apply vn (aN bK (m:=d+1) (by omega) (by omega) (aZ (show d+1<kn.length by omega)));apply vn (ab cn (by decide) (by simp) (.inl rfl));apply aA (ot _ _ A A (aE hk _ hA1) (aE hk _ hA1));apply vn an;dsimp only[aF,aG];refine vs _ rfl ?_ ?_<;>intro h47
 ·apply vn (aO (by omega) (by omega));dsimp only[aF,aG];apply vn (aN bK (m:=kn.length-1-d-1) (by omega) (by omega) (aZ (show kn.length-1-d-1<kn.length by omega)));apply vn (ab cn (by decide) (by simp) (.inl rfl));dsimp only[aF,aG];apply vn (aN bK (m:=kn.length-1-d) (by omega) (by omega) (aZ (show kn.length-1-d<kn.length by omega)));apply vn (ab cn (by decide) (by simp) (.inl rfl));apply aA (ot _ _ A A (aE hk _ hA1) (aE hk _ hA1));apply vn an;dsimp only[aF,aG];rw[cS F.hl];exact aM
 exact absurd F.hf ‹_›
def aq8(kn:List Rat)(d i:Nat):List Rat:=(List.replicate (kn.length-d-1) 0).set i ((1:Int):Rat)
theorem aq1{A:Nat}{kn:List Rat}{d i:Nat}(hA:62<=A):∀a∈aq8 kn d i,Fit A a:=fun a ha=>by
 rcases oT ha with h | rfl
 ·rw[(jg.1 h).2];exact Fit.zero (by omega)
 ·exact(Fit.int (n:=1) (B:=62) (by omega) (by omega)).mono hA
theorem at2(kn:List Rat)(d i A:Nat)(hA1:62<=A)(hk:∀a∈kn,Fit A a)(F:Fra kn d)(hi:i<kn.length-d-1)(hA:ud A d+A<=10000):aW prog 34 [(.one (sQ kn):aK),(.one (.int .i64 (d:Int)):aK),(.one (.int .i64 (i:Int)):aK)] (.ret [.agg [sQ ((wx kn d (kn.length-1-d)).map (fun t=>kn.getD t 0)++[kn.getD (kn.length-1-d) 0]),eQ ((wx kn d (kn.length-1-d)).map (xi kn d (aq8 kn d i)))],.one (.int .i64 0)]):=by
 refine eB func34 aF9 ?_;have hs:=F.hs;have hd:=F.hd;have h2:=F.h2;apply aA (Mj kn d A hk F);apply vn ru;refine tK false rfl (fun h=>by cases h) (fun _=>?_);apply vn an;refine vs _ rfl ?_ ?_<;>intro h5
 ·exfalso;omega
 apply aA (qH kn d);dsimp only[aF,aG];apply vn jy;refine vs _ rfl ?_ ?_<;>intro h9
 ·exfalso;omega
 apply aA (aw0 kn d i);apply aA (VV kn (aq8 kn d i) d A hk (aq1 hA1) (by rw[aq8,bH,fV]) hA);exact aM
def bF7:Tr:=jB 129 0 0 1 6 7 28 28 4 (oW 2 0 8 (aQ 3 0 aF4 (Ml 130 0 1 0 2 11 12 28 28 31 (.ret [(G2 4),(WK 0)]))))
theorem Wp:aV prog f49 dE [.v none,.v none]=bF7:=by kernel_rfl
def bC9:Tr:=UD 0 1 4 5 (gQ 2 0 0 3 6 aH9)
theorem Sn:aV prog f109 dE [.v (some 3),.ref 3]=bC9:=by kernel_rfl
def KX:Tr:=.ret [(W 3 0)]
def Jy:Tr:=.need (.prim [(W 2 0),(WK (0))] none) (.binOp .gtr 3 (.tmp 6) (.const (I3 (0))) 3) 4 false KX
def Iw:Tr:=.need (.call 67 [(.agg [(U 0 0),(U 0 1),(U 0 2)]),(.agg [(U 1 0),(U 1 1),(U 1 2)])] [none]) (.call ⟨.value (.func 67),#[(.tmp 4),(.tmp 5)],#[46,46]⟩) 3 true Jy
theorem UW:aV prog f111 dE [.v (some 3),.ref 3]=Iw:=by kernel_rfl
theorem Wo(x y sol:List Rat)(A B:Nat)(hA1:1<=A)(hA:A<=10000000)(hx:∀a∈x,Fit A a)(hy:∀a∈y,Fit A a)(hsf:∀a∈sol,Fit A a)(hs:x.length<549755813000)(h2:2<=x.length)(hxy:y.length=x.length)(hxs:sol.length=x.length)(hgv:Qt x y=true)(hT:yM x.length (x.length+1) B (qo x y))(hB:1<=B)(hg:∀k,k<=x.length->gA B k<=1000000000)(hsol:il (qo x y)=some sol)(hsh:∀i,i+1<x.length->aW prog 205 [.one (sQ (cvP x y sol i)),qT (-(x.getD i 0))] (.ret [.one (sQ (zV x y sol i))])):aW prog 49 [(.one (sQ x):aK),(.one (sQ y):aK)] (.ret [.agg (zD x ((List.range (x.length-1)).map (zV x y sol))),.one (.int .i64 0)]):=by
 refine eB func49 Wp ?_;apply aA (SN x y A hx hA1);rw[hgv];apply vn ru;refine tK false rfl (fun h=>by cases h) (fun _=>?_);apply aA (XU x y sol A B hA1 hA hx hy hsf hs h2 hxy hxs hT hB hg hsol hsh);exact aM
end Go.Sy
