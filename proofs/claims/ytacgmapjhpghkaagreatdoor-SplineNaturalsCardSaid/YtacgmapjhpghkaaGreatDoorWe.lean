/- Part. -/
import Derived.Test.YtacgmapjhpghkaaGreatDoorWd
set_option linter.all false
namespace Go.Sy
open Go Go.Proofs Tryz Ord
def ca9:Tr:=gW 0 0 1 0 205 12 13 (eZ 5 2 14 (qy 63 6 3 15 2 46 (Pm 7 28 16 (oa 3 56 2 8 11 17 28 (cT 1 1 3 9 (sk 0 10 9))))))
def bE5:Tr:=.loop 0 [lK 0,.nilrow] (bL 0 0 6 205 (fN 1 0 3 3 5 7 4 (aY 4 0 ca9 (qV 3 2))))
def bq6:af prog f71 dV [.v none]=bE5:=aS
def PT:Tr:=hx221Q 
def ca1:Tr:=CO 23 1 5 3 (ir 2 0 0 3 6 (aY 3 0 PT (tq 1 (kv 112 4 4 1 4 2 1 9 10 (gO 125 [(W 0 0),(G3 5)] [none] [8,11] [98,46] 98 true (cd 6))))))
def bi4:af prog f228 dV [.v none,.v (some 3)]=ca1:=aS
def br0:Tr:=gO 228 [(.one (.c (.sr 3 27))),(G3 35)] [none] [66,79] [98,46] 98 false (cT 1 1 3 82 (en 2 1 84 (gO 188 [(G3 0),(W 37 0),(W 38 0)] [none] [81,83,85] [228,3,3] 98 true (iK 64 36 0 39 80 86 98 98 98 (iK 66 21 0 40 88 89 98 98 98 (cd 41))))))
def bw2:Tr:=cT 28 1 3 70 (gW 0 0 29 0 28 67 71 (di 30 3 46 72 (cT 1 1 3 75 (gW 0 0 32 0 28 74 76 (di 33 3 46 77 (mh 86 31 31 1 31 2 34 73 78 br0))))))
def bq7:Tr:=dw 1 2 3 59 60 (cT 22 1 3 61 (gW 0 0 23 0 28 58 62 (di 24 3 46 63 (tq (-1) (al7 25 26 98 64 65 (dw 1 2 3 68 69 bw2))))))
def bi3:Tr:=gW 0 0 1 0 28 46 47 (di 15 3 46 48 (mh 86 14 14 1 14 2 16 45 49 (gO 228 [(.one (.c (.sr 3 11))),(G3 17)] [none] [39,50] [98,46] 98 false (en 2 1 54 (gO 188 [(G3 0),(W 1 0),(W 19 0)] [none] [52,53,55] [228,3,3] 98 true (iK 64 18 0 20 51 56 98 98 98 bq7))))))
def be9:Tr:=di 7 3 46 35 (tc 65 8 3 36 46 (tq 1 (al7 9 10 98 37 38 (dw 1 2 3 41 42 (gW 0 0 12 0 28 40 43 (di 13 3 46 44 bi3))))))
def bU5:Tr:=aY 3 0 (ss .eql 3 12 14 1 0 0 2 4 (aY 4 0 (yF 113 1 3 3 46 (Pm 5 98 16 (qV 3 6))) PT)) (fN 0 2 1 3 22 23 4 (aY 4 0 PT (dw 1 2 3 28 29 (ss .gtr 3 27 30 0 2 5 0 4 (aY 6 0 PT (gW 0 0 1 0 28 33 34 be9))))))
def bR7:Tr:=ir 2 0 0 3 10 bU5
def av7:af prog f188 dV [.v (some 3),.v none,.v none]=bR7:=aS
def aZ3:Tr:=cd 3
def ca5:Tr:=bL 0 0 4 28 (iG 1 0 1 3 5 7 (en 2 1 8 aZ3))
def Zr:af prog f104 dV [.v (some 2)]=ca5:=aS
def bH6:Tr:=gW 0 0 0 1 28 4 6 (di 1 3 46 7 (mD 2 2 2))
def aZ0:af prog f107 dV [.v (some 2)]=bH6:=aS
def bE6:Tr:=bL 0 0 6 28 (en 1 1 7 (iG 2 0 1 3 8 10 (gW 0 0 3 0 28 4 11 (di 4 3 46 12 (mD 5 5 2)))))
def bk8:af prog f108 dV [.v (some 2)]=bE6:=aS
def bT8:Tr:=OH 104 0 6 157 3 (aY6 2 28 7 (yF 113 1 3 3 46 (ei 3 1 28 9 10 (We 3 1 4 12 11 (qV 3 5)))))
def aP6:af prog f106 dV [.v (some 2),.v none]=bT8:=aS
def vw:Tr:=.ret [(.agg [(U 0 0),(U 1 0)]),(tF false)]
def bu4:Tr:=gW 0 0 22 0 28 49 53 (di 23 3 46 54 (gO 67 [(G3 20),(G3 24)] [none] [48,55] [46,46] 3 true (ir 25 0 0 3 56 (aY 26 0 vw (cT 14 1 3 43 (TV 13 27 15 0 16 0))))))
def br9:Tr:=gW 0 0 29 0 28 77 79 (di 30 3 46 80 (gW 0 0 21 0 28 82 83 (di 32 3 46 84 (gO 67 [(G3 31),(G3 33)] [none] [81,85] [46,46] 3 false (jy 34 0 0 3 86 (.ret [(.agg [(U 0 0),(U 1 0)]),(W 35 0)]))))))
def bl2:Tr:=cT 1 1 3 70 (gW 0 0 24 0 28 69 71 (di 25 3 46 72 (gO 67 [(G3 23),(G3 26)] [none] [68,73] [46,46] 3 false (jy 27 0 0 3 74 (aY 28 0 (en 21 1 78 br9) vw)))))
def bo3:Tr:=fN 14 0 17 3 39 41 4 (aY 18 0 (gW 0 0 14 0 28 45 46 (di 19 3 46 47 (iG 14 1 0 3 50 51 (en 21 1 52 bu4)))) (bL 0 0 59 28 (en 19 1 60 (iG 20 1 0 3 61 62 (gW 0 0 1 0 28 65 66 (di 22 3 46 67 bl2))))))
def bg8:Tr:=aY 9 0 vw (.need (.call 90 [(W 0 0),(tF false)] [none]) (.call ⟨.value (.func 90),#[(tT 32),(.const (.bool false))],#[28,4]⟩) 4 false (jU 10 0 33 (aY 11 0 vw (cT 1 1 3 37 (.loop 0 [(.w (.one (.c (.k (.bool false))))),lV 12 0,lN,lK 0] (bL 0 0 40 28 bo3))))))
def cd5:Tr:=bL 0 0 19 28 (Zu 2 21 (cT 5 2 3 22 (fN 4 0 6 3 20 23 4 (aY 7 0 vw (bL 0 0 27 28 (uj .gtr 3 28 60 8 0 4 bg8))))))
def cc4:Tr:=jy 1 0 0 3 12 (aY 2 0 vw (uj .gtr 3 15 5 1 0 4 (aY 3 0 vw cd5)))
def aA3:af prog f103 dV [.v none,.v none]=cc4:=aS
def GI{sz:Nat}{us ts:List (List aC)}(h:az (az aC.Sub) us ts):(aC.slice sz us).Sub (.slice sz ts):=by
 refine .inr ⟨fun M w v h=>by obtain⟨a,cap,rfl,_⟩:=h;exact⟨_,_,_,rfl⟩,fun M w v hv=>?_⟩;obtain⟨a,cap,rfl,hc,hm,he⟩:=hv;have hl:=h.length;refine⟨a,cap,by rw[hl],O,hm,?_⟩;rcases he with he | ⟨b,off,cs,T,fz,rfl,h1,h2,h3⟩
 .exact .inl (BW.1 (by rw[<-hl,he];rfl))
 .refine .inr ⟨b,off,cs,T,fz,rfl,h1,h2,fun i t ht=>?_⟩;obtain⟨u,hu⟩:∃u,us[i]?=some u:=⟨_,bM (by have:=(cL.1 ht).1;omega)⟩
  obtain⟨t',ht',hs⟩:=h.get i u hu;rw[ht]at ht';cases ht';obtain⟨g1,g2⟩:=h3 i u hu;exact⟨by rw[<-g1];exact hs.length.symm,an.sub hs g2⟩
abbrev zI(z:Int):List aC:=[.int .i64 z]
def bh2(zs:List Int)(hz:∀z∈zs,-9223372036854775808<=z/\z<9223372036854775808)(hs:zs.length<1099511627776):aX prog 71 [(.one (.slice 1 (zs.map zI)):aQ)] (.ret [.one (sQ (zs.map fun(z:Int)=>(z:Rat)))]):=by
 refine eD func71 bq6 ?_;refine bZ {i:Nat // i<=zs.length} (fun g=>[.one (.int .i64 (g.1:Int)),.rows (rQ ((zs.take g.1).map fun(z:Int)=>(z:Rat)))]) (fun g=>zs.length-g.1) ⟨0,dM _⟩ ai.rfl (fun _=>rfl) ?_;rintro⟨i,hi⟩;dsimp only[aU,aV]at hi|-;have htl:((zs.take i).map fun(z:Int)=>(z:Rat)).length=i:=by rw[aL,bh];omega
 apply vn (ae bC1 (aL _));apply vn bO;refine l4 ?_ ?_<;>intro h3
 .obtain⟨z,hz'⟩:∃z,zs[i]?=some z:=⟨_,bM O⟩
  have hzb:=hz z (dc hz');apply vn (aN (f:=zI) bC1 (m:=i) O (bI i) hz');apply vn (bq ag2);apply aA (CT z hzb.1 hzb.2);apply et (us:=[qC (z:Rat)]);refine kq (xs:=(zs.take i).map fun(z:Int)=>(z:Rat)) (x:=(z:Rat)) (f:=qC) rfl rfl O (by simp only[maxLen];omega) ?_;rw[show(zs.take i).map (fun(z:Int)=>(z:Rat))++[(z:Rat)]=(zs.take (i+1)).map fun(z:Int)=>(z:Rat) by rw[nq,hz',cG];rfl];apply vn (aB O O);dsimp only[aU,aV];exact aq rfl ⟨⟨i+1,O⟩,ai.rfl,by show zs.length-(i+1)<zs.length-i;omega⟩
 rw[dL (show zs.length<=i by omega)];exact aR
def ku(p:c4)(q:Rat):List Rat:=if q=0 then[]else Vw p (((1:Int):Rat)/q)
def ar2(p:c4)(q:Rat)(A B:Nat)(hl:p.length<1099511627776)(hp:∀a∈p,Fit A a)(hq:Fit B q)(hA1:1<=A:=by omega)(hA:A+B<=17179869000:=by omega):aX prog 228 [(.one (sQ p):aQ),(qT q:aQ)] (.ret [.one (sQ (ku p q))]):=by
 refine eD func228 bi4 ?_;apply aA (mV _);apply vn cW;refine l4 ?_ ?_<;>intro h2
 .rw[ku,aF (sign_zero.1 ‹_›)];exact gj ⟨aC.Sub.nil,trivial⟩
 apply aA (dp 1);apply aA (qP _ _ 62 B (Fit.int O O) hq);rw[re];apply aA (Xe _ _ A (62+B) hA1 hl hp ((Fit.int O O).div hq));dsimp only[aU,aV];rw[show Vw p (((1:Int):Rat)/q)=ku p q by rw[ku,aG fun h=>‹¬_› (sign_zero.2 h)]];exact aR
def sC(kn:c4)(d:Nat)(hs:kn.length<1099511627776:=by omega)(hd:d<1099511627776:=by omega):aX prog 104 [(.agg [sQ kn,.int .i64 (d:Int)]:aQ)] (.ret [.one (.int .i64 ((kn.length:Int)-(d:Int)-1))]):=by
 refine eD func104 Zr ?_;apply vn (ae bX (aL _));apply vn (aI O O);apply vn (aI O O);exact aR
def ah9(kn:c4)(d:Nat)(hs:kn.length<1099511627776:=by omega)(hd:d<kn.length:=by omega):aX prog 108 [(.agg [sQ kn,.int .i64 (d:Int)]:aQ)] (.ret [qT (kn.getD (kn.length-1-d) 0)]):=by
 refine eD func108 bk8 ?_;apply vn (ae bX (aL _));apply vn (aI O O);apply vn (aI O O);dsimp only[aU,aV];apply vn (aN bX (m:=kn.length-1-d) O O (aa (show kn.length-1-d<kn.length by omega)));apply vn (ab cb bY aT (.inl rfl));exact aR
def aN4(kn:c4)(d i:Nat)(hs:kn.length<1099511627776:=by omega)(hd:d+1<=kn.length:=by omega)(hi:i<kn.length-d-1:=by omega):aX prog 106 [(.agg [sQ kn,.int .i64 (d:Int)]:aQ),(.one (.int .i64 (i:Int)):aQ)] (.ret [.one (sQ ((List.replicate (kn.length-d-1) 0).set i ((1:Int):Rat)))]):=by
 refine eD func106 aP6 ?_;apply aA (sC kn d hs);rw[show(kn.length:Int)-(d:Int)-1=((kn.length-d-1:Nat):Int) by omega];refine tf (n:=kn.length-d-1) (m:=kn.length-d-1) (us:=List.replicate (kn.length-d-1) z3) rfl rfl rfl (ah _) O (by simp only[maxLen];omega) ?_;apply aA (dp 1);refine tC rfl rfl O (by rw[dU];omega) ?_;refine NM (ts:=List.replicate (kn.length-d-1) z3) (us:=(List.replicate (kn.length-d-1) z3).set i (qC ((1:Int):Rat))) rfl rfl O (cells:=z3) (by rw[bI,wy,aF O]) (by rw[bI];rfl) ?_;dsimp only[aU,aV];refine gj ⟨GI ?_,trivial⟩;rw[rQ,pR,qQ];exact DR ⟨aC.Sub.same,aC.Sub.same,aC.Sub.same,trivial⟩ i (tZ nO _)
def vH(kn:c4)(i:Nat):Nat->Nat->List Rat
 | 0,j=>if j=i then[((1:Int):Rat)]else[]
 | e+1,j=>if i<j\/j+(e+1)<i then[]else
   pA (gk (ku [-(kn.getD j 0),((1:Int):Rat)] (kn.getD (j+(e+1)) 0-kn.getD j 0)) (vH kn i e j)) (gk (ku [kn.getD (j+(e+1)+1) 0,((-1:Int):Rat)] (kn.getD (j+(e+1)+1) 0-kn.getD (j+1) 0)) (vH kn i e (j+1)))
def wH(A:Nat):Nat->Nat
 | 0=>62
 | e+1=>2*((3*A+130)*3+wH A e*(e+2)+7)+1
def oJ{p:c4}{q:Rat}:(ku p q).length<=p.length:=by
 unfold ku;split
 .exact dM _
 .exact bG (jV _) (by rw[aL,nL];exact ah _)
def Pw{A B:Nat}{p:c4}{q:Rat}(hA:1<=A)(hp:∀a∈p,Fit A a)(hq:Fit B q):∀a∈ku p q,Fit (A+(62+B)) a:=by
 intro a ha;unfold ku at ha;split at ha
 .cases ha
 .have h:=mj ha;obtain⟨i,_,rfl⟩:=dm.1 h;exact(aD hp i hA).mul ((Fit.int (n:=1) (B:=62) O O).div hq)
theorem oE(kn:c4)(i:Nat):∀e j,(vH kn i e j).length<=e+1
 | 0,j=>by unfold vH;split<;>simp
 | e+1,j=>by
   unfold vH;split
   .exact dM _
   .have h1:=uD (ku [-(kn.getD j 0),((1:Int):Rat)] (kn.getD (j+(e+1)) 0-kn.getD j 0)) (vH kn i e j);have h2:=uD (ku [kn.getD (j+(e+1)+1) 0,((-1:Int):Rat)] (kn.getD (j+(e+1)+1) 0-kn.getD (j+1) 0)) (vH kn i e (j+1));have h3:=oE kn i e j;have h4:=oE kn i e (j+1);have h5:=oJ (p:=[-(kn.getD j 0),((1:Int):Rat)]) (q:=kn.getD (j+(e+1)) 0-kn.getD j 0);have h6:=oJ (p:=[kn.getD (j+(e+1)+1) 0,((-1:Int):Rat)]) (q:=kn.getD (j+(e+1)+1) 0-kn.getD (j+1) 0);simp only[bB,bu]at h5 h6;exact bG (Xm _ _) O
def xy{A:Nat}{a b:Rat}(ha:Fit A a)(hb:Fit 62 b):∀x∈[a,b],Fit (A+62) x:=fun x hx=>by
 rcases cp.1 hx with rfl | hx
 .exact ha.mono O
 .rw[da.1 hx];exact hb.mono O
section
variable{A:Nat}{kn:c4}(hA1:1<=A)(hk:∀a∈kn,Fit A a)
include hA1 hk
def aq2(e j:Nat):∀a∈ku [-(kn.getD j 0),((1:Int):Rat)] (kn.getD (j+(e+1)) 0-kn.getD j 0),Fit (3*A+130) a:=fun a ha=>
 (Pw O (xy (aD hk j hA1).neg (Fit.int O O)) ((aD hk _ hA1).sub (aD hk _ hA1)) a ha).mono O
def al5(e j:Nat):∀a∈ku [kn.getD (j+(e+1)+1) 0,((-1:Int):Rat)] (kn.getD (j+(e+1)+1) 0-kn.getD (j+1) 0),Fit (3*A+130) a:=fun a ha=>
 (Pw O (xy (aD hk _ hA1) (Fit.int O O)) ((aD hk _ hA1).sub (aD hk _ hA1)) a ha).mono O
theorem nr(i:Nat):∀e j,∀a∈vH kn i e j,Fit (wH A e) a
 | 0,j=>by
   intro a ha;unfold vH at ha;split at ha
   .rw[da.1 ha];exact(Fit.int (n:=1) (B:=62) O O:Fit 62 _)
   .cases ha
 | e+1,j=>by
   intro a ha;unfold vH at ha;split at ha
   .cases ha
   .have h3:=oE kn i e j;have h4:=oE kn i e (j+1);have h5:=oJ (p:=[-(kn.getD j 0),((1:Int):Rat)]) (q:=kn.getD (j+(e+1)) 0-kn.getD j 0);have h6:=oJ (p:=[kn.getD (j+(e+1)+1) 0,((-1:Int):Rat)]) (q:=kn.getD (j+(e+1)+1) 0-kn.getD (j+1) 0);simp only[bB,bu]at h5 h6
    have m1:∀a∈gk (ku [-(kn.getD j 0),((1:Int):Rat)] (kn.getD (j+(e+1)) 0-kn.getD j 0)) (vH kn i e j),Fit ((3*A+130)*3+wH A e*(e+2)+7) a:=fun a ha=>(tp (aq2 hA1 hk e j) (nr i e j) O a ha).mono (by
     have:=dz (3*A+130) (show(ku [-(kn.getD j 0),((1:Int):Rat)] (kn.getD (j+(e+1)) 0-kn.getD j 0)).length+1<=3 by omega);have:=dz (wH A e) (show(vH kn i e j).length+1<=e+2 by omega);omega)
    have m2:∀a∈gk (ku [kn.getD (j+(e+1)+1) 0,((-1:Int):Rat)] (kn.getD (j+(e+1)+1) 0-kn.getD (j+1) 0)) (vH kn i e (j+1)),Fit ((3*A+130)*3+wH A e*(e+2)+7) a:=fun a ha=>(tp (al5 hA1 hk e j) (nr i e (j+1)) O a ha).mono (by
     have:=dz (3*A+130) (show(ku [kn.getD (j+(e+1)+1) 0,((-1:Int):Rat)] (kn.getD (j+(e+1)+1) 0-kn.getD (j+1) 0)).length+1<=3 by omega);have:=dz (wH A e) (show(vH kn i e (j+1)).length+1<=e+2 by omega);omega)
    exact(Vn O O m1 m2 a ha).mono (by rw[wH];omega)
end
def Pg(kn:c4)(d i j e A:Nat)(hA1:1<=A)(hk:∀a∈kn,Fit A a)(hs:kn.length<1000000000)(hA:wH A e<=1000000000)(hij:i<1000000000)(he:e<=60)(hj:e=0\/j+e+1<kn.length)(hj2:j<1000000000)(ih:∀e' j',e=e'+1->j'=j\/j'=j+1->aX prog 188 [.agg [sQ kn,.int .i64 (d:Int),.int .i64 (i:Int)],.one (.int .i64 (j':Int)),.one (.int .i64 (e':Int))] (.ret [.one (sQ (vH kn i e' j'))])):aX prog 188 [(.agg [sQ kn,.int .i64 (d:Int),.int .i64 (i:Int)]:aQ),(.one (.int .i64 (j:Int)):aQ),(.one (.int .i64 (e:Int)):aQ)] (.ret [.one (sQ (vH kn i e j))]):=by
 refine eD func188 av7 ?_;apply vn cW;refine l4 ?_ ?_<;>intro h1
 .obtain rfl:e=0:=O
  apply vn cW;refine l4 ?_ ?_<;>intro h3
  .apply aA (dp 1);apply et (us:=[qC ((1:Int):Rat)]);dsimp only[aU,aV];rw[show vH kn i 0 j=[((1:Int):Rat)] by rw[vH,aF O]];exact aR
  rw[show vH kn i 0 j=[] by rw[vH,aG O]];exact gj ⟨aC.Sub.nil,trivial⟩
 obtain⟨e,rfl⟩:∃e',e=e'+1:=⟨e-1,O⟩
 have hb1:=aq2 hA1 hk e j;have hb2:=al5 hA1 hk e j;have hl3:=oE kn i e j;have hl4:=oE kn i e (j+1);have hl5:=oJ (p:=[-(kn.getD j 0),((1:Int):Rat)]) (q:=kn.getD (j+(e+1)) 0-kn.getD j 0);have hl6:=oJ (p:=[kn.getD (j+(e+1)+1) 0,((-1:Int):Rat)]) (q:=kn.getD (j+(e+1)+1) 0-kn.getD (j+1) 0);simp only[bB,bu]at hl5 hl6;have hx:=hA;rw[wH]at hx;have hq1:=dz (3*A+130) (show(ku [-(kn.getD j 0),((1:Int):Rat)] (kn.getD (j+(e+1)) 0-kn.getD j 0)).length+1<=3 by omega);have hq2:=dz (wH A e) (show(vH kn i e j).length+1<=e+2 by omega);have hq3:=dz (3*A+130) (show(ku [kn.getD (j+(e+1)+1) 0,((-1:Int):Rat)] (kn.getD (j+(e+1)+1) 0-kn.getD (j+1) 0)).length+1<=3 by omega);have hq4:=dz (wH A e) (show(vH kn i e (j+1)).length+1<=e+2 by omega);apply vn bO;refine l4 ?_ ?_<;>intro h9
 .rw[show vH kn i (e+1) j=[] by rw[vH,aF O]];exact gj ⟨aC.Sub.nil,trivial⟩
 apply vn (aB O O);apply vn jD;refine l4 ?_ ?_<;>intro h13
 .rw[show vH kn i (e+1) j=[] by rw[vH,aF O]];exact gj ⟨aC.Sub.nil,trivial⟩
 apply vn (aN bX (m:=j) O (bI j) (aa (show j<kn.length by omega)));apply vn (ab cb bY aT (.inl rfl));apply aA (ZW _);apply aA (dp 1);apply et (us:=rQ [-(kn.getD j 0),((1:Int):Rat)]);dsimp only[aU,aV];apply vn (aB O O);dsimp only[aU,aV];apply vn (aN bX (m:=j+(e+1)) O O (aa (show j+(e+1)<kn.length by omega)));apply vn (ab cb bY aT (.inl rfl));dsimp only[aU,aV];apply vn (aN bX (m:=j) O (bI j) (aa (show j<kn.length by omega)));apply vn (ab cb bY aT (.inl rfl));apply aA (lZ _ _ A A (aD hk _ hA1) (aD hk _ hA1));apply aA (ar2 _ _ (A+62) (A+A+1) aT (xy (aD hk j hA1).neg (Fit.int O O)) ((aD hk _ hA1).sub (aD hk _ hA1)));apply vn (aI O O);dsimp only[aU,aV];rw[show((e+1:Nat):Int)-1=(e:Int) by omega];apply aA (ih e j rfl (.inl rfl));apply aA (QD _ _ (3*A+130) (wH A e) hb1 (nr hA1 hk i e j));apply vn (aB O O);apply vn (aB O O);dsimp only[aU,aV];apply vn (aN bX (m:=j+(e+1)+1) O O (aa (show j+(e+1)+1<kn.length by omega)));apply vn (ab cb bY aT (.inl rfl));apply aA (dp (-1));apply et (us:=rQ [kn.getD (j+(e+1)+1) 0,((-1:Int):Rat)]);apply vn (aB O O);apply vn (aB O O);dsimp only[aU,aV];apply vn (aN bX (m:=j+(e+1)+1) O O (aa (show j+(e+1)+1<kn.length by omega)));apply vn (ab cb bY aT (.inl rfl));apply vn (aB O O);dsimp only[aU,aV];apply vn (aN bX (m:=j+1) O O (aa (show j+1<kn.length by omega)));apply vn (ab cb bY aT (.inl rfl));apply aA (lZ _ _ A A (aD hk _ hA1) (aD hk _ hA1));apply aA (ar2 _ _ (A+62) (A+A+1) aT (xy (aD hk _ hA1) (Fit.int O O)) ((aD hk _ hA1).sub (aD hk _ hA1)));apply vn (aB O O);dsimp only[aU,aV];rw[show((j:Int)+1)=((j+1:Nat):Int) by omega];apply vn (aI O O);dsimp only[aU,aV];rw[show((e+1:Nat):Int)-1=(e:Int) by omega];apply aA (ih e (j+1) rfl (.inr rfl));apply aA (QD _ _ (3*A+130) (wH A e) hb2 (nr hA1 hk i e (j+1)));dsimp only[aU,aV];apply aA (ZV _ _ _ _ (fun a ha=>(tp hb1 (nr hA1 hk i e j) O a ha).mono O) (fun a ha=>(tp hb2 (nr hA1 hk i e (j+1)) O a ha).mono O) (fM (uD _ _) O) (show 1<=(3*A+130)*3+wH A e*(e+2)+7 by omega) (show 1<=(3*A+130)*3+wH A e*(e+2)+7 by omega) (fM (uD _ _) O));dsimp only[aU,aV];rw[show vH kn i (e+1) j=_ by rw[vH,aG O]];exact aR
theorem Da(kn:c4)(d i A:Nat)(hA1:1<=A)(hk:∀a∈kn,Fit A a)(hs:kn.length<1000000000)(hij:i<1000000000):∀(e j:Nat),wH A e<=1000000000->e<=60->(e=0\/j+e+1<kn.length)->j<999999900-e->aX prog 188 [.agg [sQ kn,.int .i64 (d:Int),.int .i64 (i:Int)],.one (.int .i64 (j:Int)),.one (.int .i64 (e:Int))] (.ret [.one (sQ (vH kn i e j))])
 | 0,j,hA,he,hj,hj2=>Pg kn d i j 0 A hA1 hk hs hA hij he hj O fun e' j' h=>O
 | e+1,j,hA,he,hj,hj2=>Pg kn d i j (e+1) A hA1 hk hs hA hij he hj O fun e' j' h hj'=>by
   obtain rfl:e'=e:=O
   have hx:=hA;rw[wH]at hx;have h9:=ma (wH A e') (show 0<e'+2 by omega);exact Da kn d i A hA1 hk hs hij e' j' O O O O
def bt1:Tr:=gO 188 [(.agg [(U 0 0),(U 0 1),(U 2 0)]),(W 19 0),(W 0 1)] [none] [55,56,59] [228,3,3] 98 false (gW 1 0 19 0 28 61 62 (di 25 3 46 63 (gO 125 [(W 24 0),(G3 26)] [none] [60,64] [98,46] 98 true (iK 66 18 0 27 54 65 98 98 98 (cT 19 1 3 52 (lh 1 28 29))))))
def bk6:Tr:=di 24 3 46 72 (Pm 25 28 73 (oa 3 56 3 26 68 74 28 (Ak 18 29 78 (oa 1 24 4 28 77 79 29 (cT 2 1 3 21 (EI 30 27 29))))))
def bo9:Tr:=.loop 1 [lN,lV 17 0] (Ai 104 0 47 157 3 (en 20 1 48 (.need (.prim [(W 2 0),(W 21 0)] none) (.call ⟨.builtin .min,#[(tT 45),(tT 49)],#[3,3]⟩) 3 false (ss .leq 3 44 50 19 0 22 0 4 (aY 23 0 bt1 (gW 0 0 2 0 28 70 71 bk6))))))
def bW1:Tr:=gW 0 0 11 0 28 29 31 (di 12 3 46 32 (gO 67 [(G3 10),(G3 13)] [none] [27,33] [46,46] 3 true (ir 14 0 0 3 34 (aY 15 0 (cT 2 1 3 21 (EI 16 3 4)) (iG 2 0 1 3 39 41 (aV9 16 42 bo9))))))
def bY0:Tr:=iG 6 0 1 3 16 18 (fN 2 0 7 3 12 19 4 (aY 8 0 (gW 0 0 2 0 28 24 25 (di 9 3 46 26 (cT 2 1 3 30 bW1))) (gO 108 [(G2 0)] [(some 3)] [85] [157] 46 true (Pm 9 28 86 (oa 3 56 3 10 84 87 28 (.ret [(.agg [(.c (.sr 3 11)),(.c (.sr 1 4))])]))))))
def bZ9:Tr:=.loop 0 [lV 0 1,.nilrow,.nilrow] (bL 0 0 14 28 (en 5 1 15 bY0))
def ag0:af prog f105 dV [.v (some 2),.v none]=bZ9:=aS
def ar7{A B:Nat}{p:c4}{k:Rat}(hA:1<=A)(hp:∀a∈p,Fit A a)(hk:Fit B k):∀a∈Vw p k,Fit (A+B) a:=by
 intro a ha;obtain⟨i,_,rfl⟩:=dm.1 (mj ha);exact(aD hp i hA).mul hk
def ap0(p:c4)(k:Rat):(Vw p k).length<=p.length:=bG (jV _) (by rw[aL,nL];exact ah _)
def VN(kn:c4)(d:Nat)(cf:c4)(i lo n:Nat):List Rat:=(List.range n).foldl (fun acc t=>pA acc (Vw (vH kn i d (lo+t)) (cf.getD (lo+t) 0))) []
def zP(kn:c4)(d:Nat)(cf:c4)(i lo n:Nat):VN kn d cf i lo (n+1)=pA (VN kn d cf i lo n) (Vw (vH kn i d (lo+n)) (cf.getD (lo+n) 0)):=by
 rw[VN,gy,List.foldl_append];rfl
theorem Xi(kn:c4)(d:Nat)(cf:c4)(i lo:Nat):∀n,(VN kn d cf i lo n).length<=d+1
 | 0=>dM _
 | n+1=>by
   rw[zP];have h1:=Xi kn d cf i lo n;have h2:=ap0 (vH kn i d (lo+n)) (cf.getD (lo+n) 0);have h3:=oE kn i d (lo+n);exact bG (Xm _ _) O
theorem Yr{A:Nat}{kn cf:c4}(hA1:1<=A)(hk:∀a∈kn,Fit A a)(hc:∀a∈cf,Fit A a)(d i lo:Nat)(hb:1<=wH A d):∀n,∀a∈VN kn d cf i lo n,Fit (1+n*(wH A d+A+1)) a
 | 0=>fun a ha=>by cases ha
 | n+1=>fun a ha=>by
   rw[zP]at ha;exact(Vn O O (Yr hA1 hk hc d i lo hb n) (ar7 hb (nr hA1 hk i d (lo+n)) (aD hc (lo+n) hA1)) a ha).mono (by rw[bt];omega)
def zA(kn:c4)(d:Nat)(cf:c4)(i:Nat):List Rat:=VN kn d cf i (i-d) (min i (kn.length-d-1-1)+1-(i-d))
def yR(kn:c4)(d i:Nat):List Nat:=(List.range i).filter fun t=>decide (d<=t/\kn.getD t 0≠kn.getD (t+1) 0)
def aZ8{kn:c4}{d i:Nat}(h:¬(d<=i/\kn.getD i 0≠kn.getD (i+1) 0)):yR kn d (i+1)=yR kn d i:=by
 rw[yR,gy,TB,aj3 (by simpa using h)];simp[yR]
def VR{kn:c4}{d i:Nat}(h:d<=i/\kn.getD i 0≠kn.getD (i+1) 0):yR kn d (i+1)=yR kn d i++[i]:=by
 rw[yR,gy,TB,ai1 (by simpa using h)];simp[yR]
def bj4(kn:c4)(d i:Nat):(yR kn d i).length<=i:=by
 have:=uT (fun t=>decide (d<=t/\kn.getD t 0≠kn.getD (t+1) 0)) (List.range i);rw[nL]at this;exact this
def aL5(kn:c4)(d:Nat):yR kn d d=[]:=by
 rw[yR,List.filter_eq_nil_iff];intro t ht;have:=fO.1 ht;simp;omega
theorem bw8(A:Nat):∀e,1<=wH A e
 | 0=>by simp[wH]
 | e+1=>by rw[wH];omega
def zM{a b:Rat}:jM a b=0↔a=b:=by
 unfold jM;split
 .rename_i h;constructor
  .intro h';cases h'
  .rintro rfl;exact absurd h (sS)
 .split
  .rename_i h1 h;constructor
   .intro h';cases h'
   .rintro rfl;exact absurd h (sS)
  .rename_i h1 h2;exact⟨fun _=>Rat.le_antisymm (kQ.1 h2) (kQ.1 h1),fun _=>rfl⟩
def Zg(kn cf:c4)(d A:Nat)(hk:∀a∈kn,Fit A a)(hc:∀a∈cf,Fit A a)(hcl:cf.length=kn.length-d-1)(hA:wH A d+A<=1000000)(hA1:1<=A:=by omega)(hs:kn.length<1000000:=by omega)(hd:d<=60:=by omega)(h2:2*d+2<=kn.length:=by omega):aX prog 105 [(.agg [sQ kn,.int .i64 (d:Int)]:aQ),(.one (sQ cf):aQ)] (.ret [.agg [sQ ((yR kn d (kn.length-1-d)).map (fun t=>kn.getD t 0)++[kn.getD (kn.length-1-d) 0]),eQ ((yR kn d (kn.length-1-d)).map (zA kn d cf))]]):=by
 refine eD func105 ag0 ?_;have hb1:=bw8 A d;refine bZ {i:Nat // d<=i/\i<=kn.length-1-d} (fun g=>[.one (.int .i64 (g.1:Int)),.rows (rQ ((yR kn d g.1).map fun t=>kn.getD t 0)),.rows (((yR kn d g.1).map (zA kn d cf)).map cQ)]) (fun g=>kn.length-g.1) ⟨d,ah _,O⟩ (by dsimp only;rw[aL5];exact ai.rfl) (fun _=>rfl) ?_;rintro⟨i,hdi,hi⟩;dsimp only[aU,aV]at hdi hi|-;have hnl:=bj4 kn d i;have hm1:((yR kn d i).map fun t=>kn.getD t 0).length<=i:=by rw[aL];exact hnl
 have hm2:((yR kn d i).map (zA kn d cf)).length<=i:=by rw[aL];exact hnl
 apply vn (ae bX (aL _));apply vn (aI O O);apply vn (aI O O);apply vn bO;refine l4 ?_ ?_<;>intro h5
 .apply vn (aN bX (m:=i) O (bI i) (aa (show i<kn.length by omega)));apply vn (ab cb bY aT (.inl rfl));apply vn (aB O O);dsimp only[aU,aV];apply vn (aN bX (m:=i+1) O O (aa (show i+1<kn.length by omega)));apply vn (ab cb bY aT (.inl rfl));apply aA (ou _ _ A A (aD hk _ hA1) (aD hk _ hA1));apply vn cW;refine l4 ?_ ?_<;>intro h13
  .have heq:=zM.1 ‹_›;apply vn (aB O O);dsimp only[aU,aV];rw[<-aZ8 (kn:=kn) (d:=d) (i:=i) (by rintro⟨_,h⟩;exact h heq)];exact aq rfl ⟨⟨i+1,O,O⟩,ai.rfl,by show kn.length-(i+1)<kn.length-i;omega⟩
  have hne:kn.getD i 0≠kn.getD (i+1) 0:=fun h=>‹¬_› (zM.2 h);apply vn (aI O O);apply vn ba8;dsimp only[aU,aV];rw[show max ((i:Int)-(d:Int)) 0=((i-d:Nat):Int) by omega];refine bZ {n:Nat // n<=min i (kn.length-d-1-1)+1-(i-d)} (fun g=>[.one (sQ (VN kn d cf i (i-d) g.1)),.one (.int .i64 ((i-d+g.1:Nat):Int))]) (fun g=>min i (kn.length-d-1-1)+1-(i-d)-g.1) ⟨0,dM _⟩ ⟨aC.Sub.nil,.inl rfl,trivial⟩ (fun _=>rfl) ?_;rintro⟨n,hn⟩;dsimp only[aU,aV]at hn|-;have hcf:=Yr hA1 hk hc d i (i-d) hb1 n;have hcn:=Xi kn d cf i (i-d) n;have hnb:n*(wH A d+A+1)<=100*(wH A d+A+1):=cY _ O;apply aA (sC kn d);apply vn (aI O O);apply vn bB1;apply vn nR;refine l4 ?_ ?_<;>intro h23
  .have hlt:i-d+n<cf.length:=O
   apply aA (Da kn d i A hA1 hk O O d (i-d+n) O O O O);apply vn (aN bX (m:=i-d+n) O (bI _) (aa hlt));apply vn (ab cb bY aT (.inl rfl));apply aA (Xe _ _ (wH A d) A hb1 (fM (oE _ _ _ _) O) (nr hA1 hk i d _) (aD hc _ hA1));dsimp only[aU,aV];apply aA (ZV _ _ (1+n*(wH A d+A+1)) (wH A d+A) hcf (ar7 hb1 (nr hA1 hk i d _) (aD hc _ hA1)) (fM (bG (ap0 _ _) (oE _ _ _ _)) O));rw[<-zP];apply vn (aB O O);dsimp only[aU,aV];exact aq rfl ⟨⟨n+1,O⟩,⟨.inl rfl,.inl (by rw[show((i-d+(n+1):Nat):Int)=((i-d+n:Nat):Int)+1 by omega];rfl),trivial⟩,by show min i (kn.length-d-1-1)+1-(i-d)-(n+1)<min i (kn.length-d-1-1)+1-(i-d)-n;omega⟩
  rw[show VN kn d cf i (i-d) n=zA kn d cf i by rw[zA,show n=min i (kn.length-d-1-1)+1-(i-d) by omega]];apply vn (aN bX (m:=i) O (bI i) (aa (show i<kn.length by omega)));apply vn (ab cb bY aT (.inl rfl));apply et (us:=[qC (kn.getD i 0)]);refine kq (xs:=(yR kn d i).map fun t=>kn.getD t 0) (x:=kn.getD i 0) (f:=qC) rfl rfl O (by simp only[maxLen];omega) ?_;apply et (us:=[cQ (zA kn d cf i)]);refine kq (xs:=(yR kn d i).map (zA kn d cf)) (x:=zA kn d cf i) (f:=cQ) rfl rfl O (by simp only[maxLen];omega) ?_;rw[show(yR kn d i).map (fun t=>kn.getD t 0)++[kn.getD i 0]=(yR kn d (i+1)).map fun t=>kn.getD t 0 by rw[VR ⟨hdi,hne⟩,cG];rfl,show(yR kn d i).map (zA kn d cf)++[zA kn d cf i]=(yR kn d (i+1)).map (zA kn d cf) by rw[VR ⟨hdi,hne⟩,cG];rfl];apply vn (aB O O);dsimp only[aU,aV];exact aq rfl ⟨⟨i+1,O,O⟩,ai.rfl,by show kn.length-(i+1)<kn.length-i;omega⟩
 obtain rfl:i=kn.length-1-d:=O
 apply aA (ah9 kn d);apply et (us:=[qC (kn.getD (kn.length-1-d) 0)]);refine kq (xs:=(yR kn d (kn.length-1-d)).map fun t=>kn.getD t 0) (x:=kn.getD (kn.length-1-d) 0) (f:=qC) rfl rfl O (by simp only[maxLen];omega) ?_;exact aR
def aX3:Tr:=RI 2
def aV3:Tr:=RI 3
def bI1:Tr:=aY 6 0 aV3 (Ai 104 3 25 157 3 (ss .geq 3 24 26 2 0 7 0 4 (aY 8 0 aV3 (gO 106 [(G2 3),(W 2 0)] [none] [31,32] [157,3] 28 true (gO 105 [(G2 3),(W 9 0)] [(some 2)] [30,33] [157,28] 31 true (RN 10))))))
def ca7:Tr:=Ww 103 0 1 0 2 11 12 28 3 158 (jU 4 0 17 (aY 5 0 aX3 (jy 2 0 0 3 21 bI1)))
def aX6:af prog f34 dV [.v none,.v none,.v none]=ca7:=aS
structure Fra(kn:c4)(d:Nat):Prop where
 hs:kn.length<=60
 hd:d<=5
 h2:2*d+2<=kn.length
 hr:kj false kn=true
 hm:∀j,d+1<=j->j<kn.length->kn.getD j 0≠kn.getD (j-d-1) 0
 hf:jM (kn.getD d 0) (kn.getD (d+1) 0)<0
 hl:jM (kn.getD (kn.length-1-d-1) 0) (kn.getD (kn.length-1-d) 0)<0
def Pa(kn:c4)(d A:Nat)(hk:∀a∈kn,Fit A a)(F:Fra kn d)(hA1:1<=A:=by omega)(hA:A<=1073741824:=by omega):aX prog 103 [(.one (sQ kn):aQ),(.one (.int .i64 (d:Int)):aQ)] (.ret [.agg [sQ kn,.int .i64 (d:Int)],.one (.bool true)]):=by
 refine eD func103 aA3 ?_;have hs:=F.hs;have hd:=F.hd;have h2:=F.h2;apply vn bO;refine l4 ?_ ?_<;>intro h1
 .exfalso;omega
 apply vn jD;refine l4 ?_ ?_<;>intro h4
 .exfalso;omega
 apply vn (ae bX (aL _));apply vn lD;apply vn (aB O O);apply vn bO;refine l4 ?_ ?_<;>intro h10
 .exfalso;omega
 apply vn (ae bX (aL _));apply vn jD;dsimp only[aU,aV];refine l4 ?_ ?_<;>intro h14
 .exfalso;omega
 apply aA (wD kn false A hk hA1 hA);rw[F.hr];apply vn fk;refine nI false rfl (fun h=>by cases h) (fun _=>?_);apply vn (aB O O);refine bZ {j:Nat // d+1<=j/\j<=kn.length} (fun g=>[.one (.bool false),.one (.int .i64 (g.1:Int)),.one (.exact (.slice none 0 0)),.one (.int .i64 0)]) (fun g=>kn.length-g.1) ⟨d+1,ah _,O⟩ ai.rfl (fun _=>rfl) ?_;rintro⟨j,hj1,hj2⟩;dsimp only[aU,aV]at hj1 hj2|-;apply vn (ae bX (aL _));apply vn bO;refine l4 ?_ ?_<;>intro h24
 .apply vn (aN bX (m:=j) O (bI j) (aa (show j<kn.length by omega)));apply vn (ab cb bY aT (.inl rfl));apply vn (aI O O);apply vn (aI O O);dsimp only[aU,aV];apply vn (aN bX (m:=j-d-1) O O (aa (show j-d-1<kn.length by omega)));apply vn (ab cb bY aT (.inl rfl));apply aA (ou _ _ A A (aD hk _ hA1) (aD hk _ hA1));apply vn cW;refine l4 ?_ ?_<;>intro h33
  .exact absurd (zM.1 ‹_›) (F.hm j hj1 O)
  apply vn (aB O O);dsimp only[aU,aV];exact aq rfl ⟨⟨j+1,O,O⟩,ai.rfl,by show kn.length-(j+1)<kn.length-j;omega⟩
 apply vn (ae bX (aL _));apply vn (aI O O);apply vn (aI O O);dsimp only[aU,aV];apply vn (aN bX (m:=d) O (bI d) (aa (show d<kn.length by omega)));apply vn (ab cb bY aT (.inl rfl));apply vn (aB O O);dsimp only[aU,aV];apply vn (aN bX (m:=d+1) O O (aa (show d+1<kn.length by omega)));apply vn (ab cb bY aT (.inl rfl));apply aA (ou _ _ A A (aD hk _ hA1) (aD hk _ hA1));apply vn bO;refine l4 ?_ ?_<;>intro h47
 .apply vn (aI O O);dsimp only[aU,aV];apply vn (aN bX (m:=kn.length-1-d-1) O O (aa (show kn.length-1-d-1<kn.length by omega)));apply vn (ab cb bY aT (.inl rfl));dsimp only[aU,aV];apply vn (aN bX (m:=kn.length-1-d) O O (aa (show kn.length-1-d<kn.length by omega)));apply vn (ab cb bY aT (.inl rfl));apply aA (ou _ _ A A (aD hk _ hA1) (aD hk _ hA1));apply vn bO;dsimp only[aU,aV];rw[bz F.hl];exact aR
 exact absurd F.hf ‹_›
def aI2(kn:c4)(d i:Nat):List Rat:=(List.replicate (kn.length-d-1) 0).set i ((1:Int):Rat)
def aH5{A:Nat}{kn:c4}{d i:Nat}(hA:62<=A):∀a∈aI2 kn d i,Fit A a:=fun a ha=>by
 rcases pU ha with h | rfl
 .rw[(kL.1 h).2];exact Fit.zero O
 .exact(Fit.int (n:=1) (B:=62) O O).mono hA
def aK6(kn:c4)(d i A:Nat)(hA1:62<=A)(hk:∀a∈kn,Fit A a)(F:Fra kn d)(hi:i<kn.length-d-1)(hA:wH A d+A<=1000000):aX prog 34 [(.one (sQ kn):aQ),(.one (.int .i64 (d:Int)):aQ),(.one (.int .i64 (i:Int)):aQ)] (.ret [.agg [sQ ((yR kn d (kn.length-1-d)).map (fun t=>kn.getD t 0)++[kn.getD (kn.length-1-d) 0]),eQ ((yR kn d (kn.length-1-d)).map (zA kn d (aI2 kn d i)))],.one (.int .i64 0)]):=by
 refine eD func34 aX6 ?_;have hs:=F.hs;have hd:=F.hd;have h2:=F.h2;apply aA (Pa kn d A hk F);apply vn fk;refine nI false rfl (fun h=>by cases h) (fun _=>?_);apply vn bO;refine l4 ?_ ?_<;>intro h5
 .exfalso;omega
 apply aA (sC kn d);apply vn kz;refine l4 ?_ ?_<;>intro h9
 .exfalso;omega
 apply aA (aN4 kn d i);apply aA (Zg kn (aI2 kn d i) d A hk (aH5 hA1) (by rw[aI2,al,dU]) hA);exact aR
def cb5:Tr:=iK 129 0 0 1 6 7 28 28 4 (jU 2 0 8 (aY 3 0 aX3 (Pk 130 0 1 0 2 11 12 28 28 31 (RN 4))))
def DY:af prog f49 dV [.v none,.v none]=cb5:=aS
def bX9:Tr:=gO 67 [(G3 0),(G3 1)] [none] [4,5] [46,46] 3 true (ir 2 0 0 3 6 aZ3)
def VI:af prog f109 dV [.v (some 3),.ref 3]=bX9:=aS
def NO:Tr:=.ret [(W 3 0)]
def Lh:Tr:=.need (.prim [(W 2 0),(WK (0))] none) (.binOp .gtr 3 (.tmp 6) (.const (I3 (0))) 3) 4 false NO
def JO:Tr:=.need (.call 67 [(.agg [(U 0 0),(U 0 1),(U 0 2)]),(.agg [(U 1 0),(U 1 1),(U 1 2)])] [none]) (.call ⟨.value (.func 67),#[(.tmp 4),(.tmp 5)],#[46,46]⟩) 3 true Lh
def Yh:af prog f111 dV [.v (some 3),.ref 3]=JO:=aS
def DX(x y sol:c4)(A B:Nat)(hA1:1<=A)(hA:A<=10000000)(hx:∀a∈x,Fit A a)(hy:∀a∈y,Fit A a)(hsf:∀a∈sol,Fit A a)(hs:x.length<549755813000)(h2:2<=x.length)(hxy:y.length=x.length)(hxs:sol.length=x.length)(hgv:mM x y=true)(hT:vL x.length (x.length+1) B (nA x y))(hB:1<=B)(hg:∀k,k<=x.length->gA B k<=1000000000)(hsol:fQ (nA x y)=some sol)(hsh:∀i,i+1<x.length->aX prog 205 [.one (sQ (cvP x y sol i)),qT (-(x.getD i 0))] (.ret [.one (sQ (jG x y sol i))])):aX prog 49 [(.one (sQ x):aQ),(.one (sQ y):aQ)] (.ret [.agg (tA x ((List.range (x.length-1)).map (jG x y sol))),.one (.int .i64 0)]):=by
 refine eD func49 DY ?_;apply aA (oX x y A hx hA1);rw[hgv];apply vn fk;refine nI false rfl (fun h=>by cases h) (fun _=>?_);apply aA (af4 x y sol A B hA1 hA hx hy hsf hs h2 hxy hxs hT hB hg hsol hsh);exact aR
end Go.Sy
