/- Part. -/
import Derived.Test.YtacgmapjhpghkaaGreatDoorYb
set_option linter.all false
namespace Go.Sy
open Go Go.Proofs Tryz Ord
def aS8:Tr:=ao 43 1 3 92 (.need (.prim [(W 1 0),(W 42 0),(W 44 0)] none) (.slice 32 (tT 87) (some (tT 89)) (some (tT 93)) none) 32 false (Bj 121 41 45 0 4 86 94 102 32 51 (ju 46 32 95 (fH 4 64 15 47 81 96 32 (ao 14 1 3 40 (.back 2 [(.w (.one (.c (.k (.bool true))))),lV 49 0,.row 48]))))))
def aP4:Tr:=yJ 34 37 71 77 (qS .leq 3 78 0 38 0 4 (aR 39 0 (bA 0 1 14 0 33 83 84 (dh 40 102 85 (ao 3 1 3 88 (fF 3 2 3 90 91 aS8)))) (ao 14 1 3 40 (qi 2 13 40 15))))
def be0:Tr:=aR 31 0 (ao 8 1 3 68 (bA 1 0 32 0 32 67 69 (bW 33 4 51 70 (ao 14 1 3 74 (bA 0 0 35 0 32 73 75 (bW 36 4 51 76 aP4)))))) (ao 14 1 3 40 (qi 2 13 32 15))
def aT7:Tr:=aR 25 0 (bA 0 0 14 0 32 55 56 (bW 26 4 51 57 (bA 1 0 8 0 32 59 60 (bW 28 4 51 61 (yJ 27 29 58 62 (qS .leq 3 63 0 30 0 4 be0)))))) (ao 14 1 3 40 (qi 2 13 26 15))
def aU5:Tr:=bA 1 0 8 0 32 42 43 (bW 19 4 51 44 (ao 8 1 3 47 (bA 1 0 21 0 32 46 48 (bW 22 4 51 49 (yJ 20 23 45 50 (iC 24 0 0 3 51 aT7))))))
def bb6:Tr:=al 0 1 33 33 (dD 14 0 16 3 31 34 4 (aR 17 0 (kL 13 0 37 (aR 18 0 aU5 (ao 8 1 3 29 (qi 1 13 19 15)))) (ao 8 1 3 29 (qi 1 13 18 15))))
def bF3:Tr:=fF 3 2 3 21 22 (oe .leq 3 20 23 8 0 10 0 4 (aR 11 0 (kL 7 0 26 (aR 12 0 (.loop 2 [lV 7 0,lK 0,.row 9] bb6) (ao 3 1 3 17 (gq 0 13 9)))) (ao 3 1 3 17 (gq 0 12 9))))
def bw0:Tr:=xr (gR 38 1 0 2 13 14 32 3 3 (dD 3 0 5 3 12 15 4 (aR 6 0 (aw4 3 4 bF3) (nP 4 4))))
theorem XT:aV prog f44 ck [.v (some 2),.v none,.v none]=bw0:=by kernel_rfl
theorem ah9{E sz b T ty:Nat}{α:Type}{f:α->List aC}{ds:List α}{x y z:Operand}{k k':IntKind}{l h:Nat}(he:dY prog T=some (E,sz,b))(h1:l<=h:=by omega)(h2:h<=ds.length:=by omega):ah prog (.slice T x (some y) (some z) none) ty [.one (.slice sz (ds.map f)),.one (.int k (l:Int)),.one (.int k' (h:Int))] (.one (.slice sz (((ds.take h).drop l).map f))):=by
 have:=WH (x:=x) (y:=y) (z:=z) (ty:=ty) (k:=k) (k':=k') (ts:=ds.map f) he h1 (by rw[aI];exact h2);rw[<-jB,<-kC]at this;exact this
def okN(kr t:List RQ)(j k:Nat):Prop:=(t.getD j .nil).q<(t.getD (j+1) .nil).q/\(kr.getD k .nil).q<=(t.getD j .nil).q/\(t.getD (j+1) .nil).q<=(kr.getD (k+1) .nil).q
def wT(v:Nat->Rat)(n:Nat):List RQ:=(List.range n).map fun i=>.of (v i)
theorem En(v:Nat->Rat)(n:Nat):(wT v n).length=n:=by simp[wT]
theorem al6(v:Nat->Rat)(n:Nat):wT v n++[.of (v n)]=wT v (n+1):=by rw[wT,wT,gx,bt];rfl
def nB(i:Nat)(b:Bool):Nat:=if b then i+1 else i
theorem WV(kr t:List RQ)(pr:List (List RQ))(d P A:Nat)(v:Nat->Rat)(hk:∀a∈kr,Fit A a.q)(ht:∀a∈t,Fit A a.q)(hp:∀p∈pr,p.length<=1000/\∀a∈p,Fit P a.q)(hkl:kr.length=pr.length+1)(hval:∀i j k p,i+d+1<t.length->i<=j->j<=i+d->pr[k]?=some p->okN kr t j k->Ps p ((t.take (i+d+1)).drop (i+1)) (((t.take (i+d+1)).drop (i+1)).length+1)=v i)(hex:∀i,i+d+1<t.length->∃j k,i<=j/\j<=i+d/\k<pr.length/\okN kr t j k)(hP1:1<=P:=by omega)(hA1:1<=A:=by omega)(hA:A<=1000000:=by omega)(hl:t.length<=100:=by omega)(hd:d<=50:=by omega)(hdt:d+1<=t.length:=by omega)(hpl:pr.length<=100:=by omega)(hb:60*(P+FB A d+8000)<=1000000000:=by omega):aU prog 44 [(.agg [sR kr,eR pr]:aN),(.one (sR t):aN),(.one (.int .i64 (d:Int)):aN)] (.ret [.one (sR (wT v (t.length-d-1)))]):=by
 refine dL func44 XT ?_;refine bE {i:Nat // i<=t.length-d-1} (fun g=>[.one (.int .i64 (g.1:Int)),.rows (rR (wT v g.1))]) (fun g=>t.length-d-1-g.1) ⟨0,cz _⟩ aZ.rfl (fun _=>rfl) ?_;rintro⟨i,hi⟩;dsimp only[aE,aF]at hi|-;apply aA (td t d);apply vn aj;refine vs _ rfl ?_ ?_<;>intro h3
 ·have hi':i+d+1<t.length:=by omega
  refine bE {g:Bool×Nat // i<=g.2/\g.2<=i+d+1/\(g.1=false->∀j k,i<=j->j<g.2->k<pr.length->¬okN kr t j k)} (fun g=>[.one (.bool (decide (g.1.1=true))),.one (.int .i64 (g.1.2:Int)),.rows (rR (wT v (nB i g.1.1)))]) (fun g=>i+d+2-g.1.2) ⟨(false,i),aa _,by omega,fun _ j k h1 h2=>by omega⟩ aZ.rfl (fun _=>rfl) ?_;rintro⟨⟨b,j⟩,hij,hji,hno⟩;dsimp only[aE,aF]at hij hji hno|-;apply vn (aB (by omega) (by omega));apply vn jO;refine vs _ rfl ?_ ?_<;>intro h7
  ·apply vn mn;refine vs _ rfl ?_ ?_<;>intro h9
   ·have hbf:b=false:=by cases b<;>simp_all
    subst hbf;have hjl:j<=i+d:=by omega
    refine bE {g:Bool×Nat // g.2<=pr.length/\(g.1=false->∀k,k<g.2->¬okN kr t j k)} (fun g=>[.one (.bool (decide (g.1.1=true))),.one (.int .i64 (g.1.2:Int)),.rows (rR (wT v (nB i g.1.1)))]) (fun g=>pr.length+1-g.1.2) ⟨(false,0),cz _,fun _ k h=>by omega⟩ aZ.rfl (fun _=>rfl) ?_;rintro⟨⟨b,k⟩,hkp,hno2⟩;dsimp only[aE,aF]at hkp hno2|-;apply vn (aP bh7 (aI _));apply vn aj;refine vs _ rfl ?_ ?_<;>intro h13
    ·apply vn mn;refine vs _ rfl ?_ ?_<;>intro h15
     ·have hbf:b=false:=by cases b<;>simp_all
      subst hbf;have hk':k<pr.length:=by omega
      obtain⟨p,hpk⟩:∃p,pr[k]?=some p:=⟨_,bQ hk'⟩
      have hmore:¬okN kr t j k->∀q,q<k+1->¬okN kr t j q:=fun h q hq=>by
       by_cases e:q=k
       ·rw[e];exact h
       ·exact hno2 rfl q (by omega)
      apply vn (aJ (f:=rC) eG (m:=j) (by omega) (av j) (bf (show j<t.length by omega)));dsimp only[aE,aF];apply vn (aQ gB (by decide) (by simp) (.inl rfl));apply vn (aB (by omega) (by omega));dsimp only[aE,aF];apply vn (aJ (f:=rC) eG (m:=j+1) (by omega) (by omega) (bf (show j+1<t.length by omega)));apply vn (aQ gB (by decide) (by simp) (.inl rfl));apply aA (jw _ _ A A (by first | exact af ht _ hA1 | exact af hk _ hA1) (by first | exact af ht _ hA1 | exact af hk _ hA1));apply vn aj;dsimp only[aE,aF];refine vs _ rfl ?_ ?_<;>intro h23
      ·apply vn (aJ (f:=rC) eG (m:=k) (by omega) (av k) (bf (show k<kr.length by omega)));apply vn (aQ gB (by decide) (by simp) (.inl rfl));dsimp only[aE,aF];apply vn (aJ (f:=rC) eG (m:=j) (by omega) (av j) (bf (show j<t.length by omega)));apply vn (aQ gB (by decide) (by simp) (.inl rfl));apply aA (jw _ _ A A (by first | exact af ht _ hA1 | exact af hk _ hA1) (by first | exact af ht _ hA1 | exact af hk _ hA1));apply vn jO;dsimp only[aE,aF];refine vs _ rfl ?_ ?_<;>intro h30
       ·apply vn (aB (by omega) (by omega));dsimp only[aE,aF];apply vn (aJ (f:=rC) eG (m:=j+1) (by omega) (by omega) (bf (show j+1<t.length by omega)));apply vn (aQ gB (by decide) (by simp) (.inl rfl));apply vn (aB (by omega) (by omega));dsimp only[aE,aF];apply vn (aJ (f:=rC) eG (m:=k+1) (by omega) (by omega) (bf (show k+1<kr.length by omega)));apply vn (aQ gB (by decide) (by simp) (.inl rfl));apply aA (jw _ _ A A (by first | exact af ht _ hA1 | exact af hk _ hA1) (by first | exact af ht _ hA1 | exact af hk _ hA1));apply vn jO;dsimp only[aE,aF];refine vs _ rfl ?_ ?_<;>intro h39
        ·have hok:okN kr t j k:=⟨iD.1 ‹_›,nI.1 ‹_›,nI.1 ‹_›⟩
         obtain⟨u,hu⟩:∃u,(t.take (i+d+1)).drop (i+1)=u:=⟨_,rfl⟩
         have hul:u.length=d:=by rw[<-hu,cW,bK];omega
         have huf:∀a∈u,Fit A a.q:=fun a ha=>ht a (iL (lP (hu▸ha)));have hv:=hval i j k p hi' hij hjl hpk hok;rw[hu]at hv;obtain⟨hpn,hpf⟩:=hp p (ei hpk);apply vn (aJ (f:=cR) bh7 (m:=k) (by omega) (av k) hpk);apply vn (bg bk8);apply vn (aB (by omega) (by omega));dsimp only[aE,aF];rw[show((i:Int)+1)=((i+1:Nat):Int) by omega];apply vn (aB (by omega) (by omega));apply vn (aB (by omega) (by omega));dsimp only[aE,aF];rw[show((i:Int)+(d:Int)+1)=((i+d+1:Nat):Int) by omega];apply vn (ah9 (f:=rC) (ds:=t) eG (l:=i+1) (h:=i+d+1));rw[hu];apply aA (aG5 p u P A hP1 hA1 hA hpf huf hpn (by rw[hul];exact hb)) rfl;rw[hv];apply eL (us:=[rC (.of (v i))]);refine iE (xs:=wT v i) (x:=.of (v i)) (f:=rC) rfl rfl (by rw[En];omega) (by rw[En];simp only[maxLen];omega) ?_;rw[al6];dsimp only[aE,aF];apply vn (aB (by omega) (by omega));dsimp only[aE,aF];exact ab rfl ⟨⟨(true,k+1),by omega,fun h=>by cases h⟩,aZ.rfl,by show pr.length+1-(k+1)<pr.length+1-k;omega⟩
        apply vn (aB (by omega) (by omega));dsimp only[aE,aF];exact ab rfl ⟨⟨(false,k+1),by omega,fun _=>hmore fun h=>‹¬_› (nI.2 h.2.2)⟩,aZ.rfl,by show pr.length+1-(k+1)<pr.length+1-k;omega⟩
       apply vn (aB (by omega) (by omega));dsimp only[aE,aF];exact ab rfl ⟨⟨(false,k+1),by omega,fun _=>hmore fun h=>‹¬_› (nI.2 h.2.1)⟩,aZ.rfl,by show pr.length+1-(k+1)<pr.length+1-k;omega⟩
      apply vn (aB (by omega) (by omega));dsimp only[aE,aF];exact ab rfl ⟨⟨(false,k+1),by omega,fun _=>hmore fun h=>‹¬_› (iD.2 h.1)⟩,aZ.rfl,by show pr.length+1-(k+1)<pr.length+1-k;omega⟩
     have hbt:b=true:=by cases b<;>simp_all
     subst hbt;apply vn (aB (by omega) (by omega));dsimp only[aE,aF];exact ab rfl ⟨⟨(true,j+1),by omega,by omega,fun h=>by cases h⟩,aZ.rfl,by show i+d+2-(j+1)<i+d+2-j;omega⟩
    apply vn (aB (by omega) (by omega))
    exact ab rfl ⟨⟨(b,j+1),by omega,by omega,fun hb j' k' h1 h2 h3=>by
     by_cases e:j'=j
     ·rw[e];exact hno2 hb k' (by omega)
     ·exact hno rfl j' k' h1 (by omega) h3⟩,aZ.rfl,by show i+d+2-(j+1)<i+d+2-j;omega⟩
   have hbt:b=true:=by cases b<;>simp_all
   subst hbt;apply vn (aB (by omega) (by omega));dsimp only[aE,aF];exact ab rfl ⟨⟨i+1,by omega⟩,aZ.rfl,by show t.length-d-1-(i+1)<t.length-d-1-i;omega⟩
  have hbt:b=true:=by
   cases b with
   | true=>rfl
   | false=>
     obtain⟨j',k',h1,h2,h3,h4⟩:=hex i hi';exact absurd h4 (hno rfl j' k' h1 (by omega) h3)
  subst hbt;apply vn (aB (by omega) (by omega));dsimp only[aE,aF];exact ab rfl ⟨⟨i+1,by omega⟩,aZ.rfl,by show t.length-d-1-(i+1)<t.length-d-1-i;omega⟩
 rw[show i=t.length-d-1 by omega];exact aL
def as8:Tr:=Xx 2
def Zx:Tr:=Xx 11
def bi2:Tr:=bA 0 0 20 0 28 52 54 (bW 22 3 46 56 (.need (.call 109 [(G3 23),(.one (.ref 0 [(.u 3 0),(.u 3 1),(.u 3 2)]))] [none]) (.call ⟨.value (tT 58),#[(tT 59)],#[46]⟩) 4 true (aR 24 0 (ao 19 1 3 61 (ao 20 1 3 54 (iY 0 25 26))) (ao 20 1 3 54 (iY 0 19 25)))))
def ZW:Tr:=Xx 5
def aR8:Tr:=dp 27 1 136 (bA 2 0 34 0 28 135 137 (bW 35 3 46 138 (wM 36 28 139 (fH 3 56 28 37 134 140 28 (ao 27 1 3 75 (gq 0 39 38))))))
def aT9:Tr:=pE 86 50 50 1 50 2 43 108 109 (pE 76 49 49 1 49 2 51 107 110 (jN 88 46 46 1 46 2 52 102 111 (wM 53 28 112 (fH 3 56 28 54 96 113 28 (ao 27 1 3 75 (gq 0 56 55))))))
def bi4:Tr:=bA 2 0 27 0 28 97 98 (bW 44 3 46 99 (pE 76 45 45 1 45 2 43 100 101 (dp 27 1 104 (bA 2 0 47 0 28 103 105 (bW 48 3 46 106 (ta 113 1 3 3 46 aT9))))))
def ba0:Tr:=fF 27 1 3 85 86 (bA 0 0 37 0 28 84 87 (bW 38 3 46 88 (bA 0 0 27 0 28 90 91 (bW 40 3 46 92 (jN 86 39 39 1 39 2 41 89 93 (jN 112 36 36 1 36 2 42 83 94 bi4))))))
def bc7:Tr:=aR 31 0 (bA 2 0 27 0 28 122 123 (bW 32 3 46 124 (wM 33 28 125 (fH 3 56 28 34 121 126 28 (ao 27 1 3 75 (gq 0 36 35)))))) (eH 17 19 0 3 130 131 (oe .gtr 3 129 132 27 0 32 0 4 (aR 33 0 aR8 (bA 0 0 27 0 28 79 80 (bW 34 3 46 81 (pE 86 3 3 1 3 2 35 78 82 ba0))))))
def aY6:Tr:=cF 36 37 28 153 155 (Zi 36 37 3 157 156 (ao 17 2 3 159 (.need (.prim [(.one (.c (.sr 3 38))),(W 39 0)] none) (.slice 28 (tT 158) (some (tT 160)) none none) 28 false (ao 17 1 3 163 (Xl 41 28 162 164 (.fail 8))))))
def aV9:Tr:=al 0 0 143 28 (ao 30 1 3 144 (ab2 31 28 145 (ao 17 1 3 149 (Ly 33 28 148 150 (Xg 32 46 3 34 147 151 28 (ao 17 1 3 154 aY6))))))
def aX8:Tr:=al 2 0 72 28 (ao 25 1 3 73 (xr (dD 27 0 26 3 75 74 4 (aR 29 0 (eH 17 1 0 3 117 118 (oe .leq 3 116 119 27 0 30 0 4 bc7)) aV9))))
def bd2:Tr:=dD 20 0 18 3 54 53 0 (aR 21 0 bi2 (oe .gtr 3 64 65 19 0 1 0 4 (aR 22 0 ZW (al 0 0 68 28 (eB 23 0 60 3 69 (aR 24 0 ZW aX8))))))
def bc6:Tr:=fO 67 [(G3 3),(G3 13)] [none] [41,43] [46,46] 3 false (nG 14 0 44 (aR 15 0 Zx (fO 110 [(W 0 0),(.one (.gp 111 [(.ref 0 [(.u 3 0),(.u 3 1),(.u 3 2)])]))] [none] [48,49] [28,162] 3 true (dp 16 1 50 (al 0 0 52 28 (xf bd2))))))
def br3:Tr:=oe .neq 3 30 32 7 0 8 0 4 (aR 9 0 as8 (Lg 107 4 3 36 157 46 (fO 67 [(G3 3),(G3 10)] [none] [35,37] [46,46] 3 false (qS .leq 3 38 0 11 0 4 (aR 12 0 Zx (Lg 108 4 3 42 157 46 bc6))))))
def bM1:Tr:=UC 103 0 1 0 2 21 22 28 3 158 (kL 5 0 26 (aR 6 0 as8 (al 2 0 29 28 (fO 104 [(G2 4)] [none] [31] [157] 3 false br3))))
theorem xh:aV prog f36 ck [.v none,.v none,.v none,.v (some 3)]=bM1:=by kernel_rfl
theorem bz4{kn:List Rat}{d:Nat}{x:Rat}(F:EZ kn d)(h1:kn.getD d 0<x)(h2:x<kn.getD (kn.length-1-d) 0):∃k,kh (fun a=>decide (0<ef a x)) kn 0=((k+1:Nat):Int)/\Add kn x k d:=by
 have hl:=F.h2;have hx:∀a:Rat,decide (0<ef a x)=true↔x<a:=fun a=>by rw[mH];exact zd
 rw[wu];cases hf:kn.findIdx? (fun a=>decide (0<ef a x))with
 | none=>
   have:=List.findIdx?_eq_none_iff.1 hf (kn.getD (kn.length-1-d) 0) (ei (aX));rw[(hx _).2 h2]at this;cases this
 | some f=>
   obtain⟨hfl,e1,e2⟩:=ad3.1 hf
   have hb:∀i,i<f->kn.getD i 0<=x:=fun i hi=>by
    have:=e2 i hi;rw[hx]at this;rw[fQ,bQ (by omega)];exact fu.1 this
   have ha:x<kn.getD f 0:=by
    rw[hx]at e1;rw[fQ,bQ hfl];exact e1
   have hfd:d<f:=by
    refine Decidable.byContradiction fun h=>?_
    have:=dS F.hr (show f<=d by omega)
    grind
   have hfe:f<=kn.length-1-d:=by
    refine Decidable.byContradiction fun h=>?_
    have:=hb (kn.length-1-d) (by omega)
    grind
   refine⟨f-1,?_,F.hr,hb (f-1) (by omega),by rw[show f-1+1=f by omega];exact ha,by omega,by omega⟩;show((0+f:Nat):Int)=_;rw[show 0+f=f-1+1 by omega]
theorem Ck(kn cf:List Rat)(x:Rat)(z:Int)(A:Nat)(hA1:1<=A)(hA:A<=1073741824)(hk:∀a∈kn,Fit A a)(hs:kn.length<1099511627776)(hcs:cf.length<1099511627776)(hz:-9223372036854775808<=z/\z<9223372036854775808)(hno:¬(im kn z/\(cf.length:Int)=(kn.length:Int)-z-1)):aU prog 36 [(.one (sQ kn):aN),(.one (.int .i64 z):aN),(.one (sQ cf):aN),(qT x:aN)] (.ret [.one (sQ []),.one (sQ []),.one (.int .i64 2)]):=by
 refine dL func36 xh ?_;apply aA (qc kn z A hA1 hA hk hs hz);apply vn mn;refine vs _ rfl ?_ ?_<;>intro h2
 ·exact fK ⟨aC.Sub.nil,aC.Sub.nil,aC.Sub.same,trivial⟩
 have hF:im kn z:=oA.1 ‹_›;obtain⟨d,rfl⟩:∃d:Nat,z=(d:Int):=⟨z.toNat,by have:=hF.1;omega⟩
 have hFs:=hF.of.hs;have hFd:=hF.of.hd;apply vn (aP ay (aI _));apply aA (gC kn d);dsimp only[aE,aF];apply vn fC;rw[bV (show(cf.length:Int)≠(kn.length:Int)-(d:Int)-1 from fun h=>hno ⟨hF,h⟩)];refine jm true rfl (fun _=>?_) (fun h=>by cases h);exact fK ⟨aC.Sub.nil,aC.Sub.nil,aC.Sub.same,trivial⟩
theorem Xe(kn cf:List Rat)(x:Rat)(d A:Nat)(hk:∀a∈kn,Fit A a)(hx:Fit A x)(F:EZ kn d)(hcl:cf.length=kn.length-d-1)(hno:¬(kn.getD d 0<x/\x<kn.getD (kn.length-1-d) 0))(hA1:1<=A:=by omega)(hA:A<=1000000:=by omega):aU prog 36 [(.one (sQ kn):aN),(.one (.int .i64 (d:Int)):aN),(.one (sQ cf):aN),(qT x:aN)] (.ret [.one (sQ []),.one (sQ []),.one (.int .i64 11)]):=by
 refine dL func36 xh ?_;have hs:=F.hs;have hd:=F.hd;have h2:=F.h2;apply aA (pJ kn d A hk F);apply vn gQ;refine jm false rfl (fun h=>by cases h) (fun _=>?_);apply vn (aP ay (aI _));apply aA (gC kn d);dsimp only[aE,aF];apply vn fC;refine vs _ rfl ?_ ?_<;>intro h7
 ·exfalso;omega
 apply aA (Dn kn d);apply aA (jH _ _ A A hx (aD hk _));apply vn jO;dsimp only[aE,aF];refine vs _ rfl ?_ ?_<;>intro h12
 ·exact fK ⟨aC.Sub.nil,aC.Sub.nil,aC.Sub.same,trivial⟩
 apply aA (yw kn d);apply aA (jH _ _ A A hx (aD hk _));apply vn iI;rw[bV (show(0:Int)<=ef x (kn.getD (kn.length-1-d) 0)from mc.1 fun h=>hno ⟨Rat.not_le.1 fun h'=>‹¬_› (nI.2 h'),iD.1 h⟩)];refine jm true rfl (fun _=>?_) (fun h=>by cases h);exact fK ⟨aC.Sub.nil,aC.Sub.nil,aC.Sub.same,trivial⟩
theorem Yb(kn cf:List Rat)(x:Rat)(d k A:Nat)(hk:∀a∈kn,Fit A a)(hx:Fit A x)(F:EZ kn d)(hcl:cf.length=kn.length-d-1)(hx1:kn.getD d 0<x)(hx2:x<kn.getD (kn.length-1-d) 0)(hat:kh (fun a=>decide (0<ef a x)) kn 0=((k+1:Nat):Int))(hno:d<mulN kn x kn.length\/kn.length=60)(hA1:1<=A:=by omega)(hA:A<=1000000:=by omega)(hkl:k<kn.length:=by omega):aU prog 36 [(.one (sQ kn):aN),(.one (.int .i64 (d:Int)):aN),(.one (sQ cf):aN),(qT x:aN)] (.ret [.one (sQ []),.one (sQ []),.one (.int .i64 5)]):=by
 refine dL func36 xh ?_;have hs:=F.hs;have hd:=F.hd;have h2:=F.h2;apply aA (pJ kn d A hk F);apply vn gQ;refine jm false rfl (fun h=>by cases h) (fun _=>?_);apply vn (aP ay (aI _));apply aA (gC kn d);dsimp only[aE,aF];apply vn fC;refine vs _ rfl ?_ ?_<;>intro h7
 ·exfalso;omega
 apply aA (Dn kn d);apply aA (jH _ _ A A hx (aD hk _));apply vn jO;dsimp only[aE,aF];refine vs _ rfl ?_ ?_<;>intro h12
 ·exact absurd (nI.1 ‹_›) (Rat.not_le.2 hx1)
 apply aA (yw kn d);apply aA (jH _ _ A A hx (aD hk _));apply vn iI;refine vs _ rfl ?_ ?_<;>intro h17
 ·exact absurd (iD.2 hx2) (mc.2 ‹_›)
 apply aA (vu kn 111 [.aw (qC x)] (fun a=>decide (0<ef a x)) (fun p hp=>yE p x A A (hk p hp) hx) (by omega));rw[hat];dsimp only[aE,aF];apply vn (aH (by omega) (by omega));dsimp only[aE,aF];rw[show((k+1:Nat):Int)-1=(k:Int) by omega];apply vn (aP ay (aI _));refine bE {i:Nat // i<=kn.length} (fun g=>[.one (.int .i64 (mulN kn x g.1:Int)),.one (.int .i64 (g.1:Int))]) (fun g=>kn.length-g.1) ⟨0,cz _⟩ aZ.rfl (fun _=>rfl) ?_;rintro⟨i,hi⟩;dsimp only[aE,aF]at hi|-;have hml:=Sg kn x i;apply vn aj;refine vs _ rfl ?_ ?_<;>intro h24
 ·have hi':i<kn.length:=by omega
  have hmn:=mg (kn:=kn) (x:=x) hi';apply vn (aJ ay (m:=i) (by omega) (av i) (aX hi'));apply vn (aQ cM (by decide) (by simp) (.inl rfl));apply aA (yG _ x A A (aD hk _) hx);dsimp only[aE,aF];refine vs _ rfl ?_ ?_<;>intro h28
  ·apply vn (aB (by omega) (by omega));apply vn (aB (by omega) (by omega));dsimp only[aE,aF];exact ab rfl ⟨⟨i+1,by omega⟩,⟨.inl (by rw[hmn,aK ‹_›];rfl),.inl rfl,trivial⟩,by show kn.length-(i+1)<kn.length-i;omega⟩
  apply vn (aB (by omega) (by omega));dsimp only[aE,aF];exact ab rfl ⟨⟨i+1,by omega⟩,⟨.inl (by rw[hmn,aG ‹¬_›];rfl),.inl rfl,trivial⟩,by show kn.length-(i+1)<kn.length-i;omega⟩
 obtain rfl:i=kn.length:=by omega
 apply vn fB;refine vs _ rfl ?_ ?_<;>intro h35
 ·exact fK ⟨aC.Sub.nil,aC.Sub.nil,aC.Sub.same,trivial⟩
 apply vn (aP ay (aI _));apply vn bj;rw[bV (show(kn.length:Int)=60 by omega)];refine jm true rfl (fun _=>?_) (fun h=>by cases h);exact fK ⟨aC.Sub.nil,aC.Sub.nil,aC.Sub.same,trivial⟩
end Go.Sy
