/- Part. -/
import Derived.Test.YtacgmapjhpghkaaGreatDoorNb
set_option linter.all false
set_option maxHeartbeats 2000000
namespace Go.Sy
open Go Go.Proofs Tryz Ord
def Yk:Tr:=cH 1
def bW4:Tr:=aR 3 0 (re 1 0 0 47 7 (dh 4 3 8 (eB 5 0 0 3 9 (aR 6 0 (aI0 1 47 12 (.back 0 [lV 7 0])) Yk)))) Yk
def bQ3:Tr:=BR 0 (al 1 0 3 47 (qS .gtr 3 4 0 2 0 4 bW4))
theorem aE5:aV prog f229 ck [.v none]=bQ3:=by kernel_rfl
def ce9:Tr:=mz 229 1 5 47 47 (al 2 0 7 47 (eB 3 0 0 3 8 (aR 4 0 (.ret [(.agg [(tE (.int .i64 0)),tN])]) (lx 0 0 2 0))))
theorem ba3:aV prog f189 ck [.v none,.v none]=ce9:=by kernel_rfl
def bR6:Tr:=iC 5 0 0 3 12 (aR 6 0 (WD 5 3 14 (vH 7 47 16 (fH 1 8 8 3 17 18 47 (qS .quo 2 20 32768 2 0 2 (gq 0 10 9))))) (vH 5 47 16 (fH 1 8 7 3 17 18 47 (qS .quo 2 20 32768 2 0 2 (gq 0 9 8)))))
def bn6:Tr:=qS .rem 2 10 32768 2 0 2 bR6
def aB4:Tr:=lx 5 0 5 1
def bT0:Tr:=iC 0 0 0 2 6 (aR 1 0 (Yt (my 2 0 2 8 (aR 4 0 bn6 (aA8 (-1) aB4)))) (Yt (my 2 0 2 8 (aR 4 0 bn6 (aA8 1 aB4)))))
theorem aX3:aV prog f114 ck [.v none]=bT0:=by kernel_rfl
def bm8:Tr:=og (-1)
def bm5:Tr:=og 1
def bB7:Tr:=dh 14 3 33 (bA 1 0 6 0 47 35 36 (dh 16 3 37 (oe .gtr 3 34 38 15 0 17 0 4 (aR 18 0 bm5 (ao 6 1 3 20 (iY 0 5 19))))))
def bo6:Tr:=bA 0 0 6 0 47 22 23 (dh 9 3 24 (bA 1 0 6 0 47 26 27 (dh 11 3 28 (dD 10 0 12 3 25 29 4 (aR 13 0 bm8 (bA 0 0 6 0 47 31 32 bB7))))))
def as2:Tr:=og 0
def ch6:Tr:=al 1 0 8 47 (oe .neq 3 7 9 2 0 3 0 4 (aR 4 0 (al 0 0 11 47 (al 1 0 13 47 (dD 5 0 6 3 12 14 4 (aR 7 0 bm8 bm5)))) (xf (al 0 0 17 47 (dD 6 0 7 3 16 18 4 (aR 8 0 bo6 as2))))))
def ci1:Tr:=al 0 0 6 47 ch6
theorem aE7:aV prog f227 ck [.v none,.v none]=ci1:=by kernel_rfl
def bT1:Tr:=aR 3 0 as2 (al 0 0 10 47 (dp 4 1 11 (eH 5 1 0 3 12 13 (bA 0 0 6 0 47 9 14 (dh 7 3 15 (cH 8))))))
def cf6:Tr:=al 0 0 6 47 (oe .geq 3 5 7 1 0 2 0 4 bT1)
theorem aG7:aV prog f248 ck [.v none,.v none]=cf6:=by kernel_rfl
def bj2:Tr:=cH 5
def bV4:Tr:=al 0 0 5 47 (al 1 0 7 47 (oe .gtr 3 6 8 2 0 3 0 4 (aR 4 0 (al 0 0 10 47 bj2) (al 1 0 12 47 bj2))))
theorem WQ:aV prog f247 ck [.v none,.v none]=bV4:=by kernel_rfl
def by9:Tr:=dp 16 32768 40 (dp 4 1 43 (eH 19 7 0 3 44 45 (cF 8 20 47 42 46 (fR 8 20 18 3 48 47 (ao 7 1 3 21 (OB 1 22 21))))))
def bD4:Tr:=aR 17 0 by9 (dp 4 1 43 (eH 18 7 0 3 44 45 (cF 8 19 47 42 46 (fR 8 19 16 3 48 47 (ao 7 1 3 21 (OB (-1) 21 20))))))
def bF5:Tr:=dp 14 32768 40 (dp 4 1 43 (eH 18 7 0 3 44 45 (cF 8 19 47 42 46 (fR 8 19 17 3 48 47 (ao 7 1 3 21 (OB 1 21 20))))))
def bO4:Tr:=aR 16 0 bF5 (dp 4 1 43 (eH 17 7 0 3 44 45 (cF 8 18 47 42 46 (fR 8 18 14 3 48 47 (ao 7 1 3 21 (OB 0 20 19))))))
def ck6:Tr:=oe .mul 3 26 29 2 0 11 0 3 (fF 10 12 3 25 30 (fF 13 6 3 31 32 (iC 14 0 0 3 34 (aR 15 0 (ao 14 32768 3 36 (nG 16 32768 38 bD4)) (nG 14 32768 38 bO4)))))
def bS1:Tr:=ao 3 1 3 14 (aN6 (.loop 0 [lK 0,lK 0,.row 5] (dD 7 0 4 3 18 19 4 (aR 9 0 (UJ 248 0 7 23 24 47 3 3 (UJ 248 1 7 27 28 47 3 3 ck6)) (uW 229 1 8 49 47 (cH 10))))))
def bW6:Tr:=gR 247 0 0 1 12 13 47 47 3 bS1
theorem aY0:aV prog f226 ck [.v none,.v none,.v none]=bW6:=by kernel_rfl
def bV3:Tr:=WD 0 3 4 (lx 1 0 0 1)
theorem bb0:aV prog f217 ck [.v (some 2)]=bV3:=by kernel_rfl
def Ye:Tr:=lx 8 0 8 1
def bZ4:Tr:=oe .eql 3 14 16 0 0 1 0 4 (aR 4 0 (vz 0 1 1 1 1 21 23 (Bj 189 0 5 0 2 19 24 3 47 49 (lx 6 0 6 1))) (gR 227 0 1 1 27 29 47 47 3 (nG 5 0 30 (aR 6 0 (vz 0 1 1 1 (-1) 35 37 (Bj 189 0 7 0 2 33 38 3 47 49 Ye)) (vz 1 1 0 1 (-1) 43 45 (Bj 189 1 7 0 2 41 46 3 47 49 Ye))))))
def bR0:Tr:=eB 0 0 0 3 6 (aR 2 0 (lx 1 0 1 1) (eB 1 0 0 3 10 (aR 3 0 (lx 0 0 0 1) bZ4)))
theorem aQ4:aV prog f187 ck [.v (some 2),.v (some 2)]=bR0:=by kernel_rfl
def cd7:Tr:=fO 217 [(G2 1)] [(some 2)] [6] [49] 49 true (qv 187 0 2 2 5 7 49 (lx 3 0 3 1))
theorem aY9:aV prog f191 ck [.v (some 2),.v (some 2)]=cd7:=by kernel_rfl
def bw4:Tr:=ao 27 1 3 58 (qS .rem 3 60 32768 26 0 3 (cF 15 28 47 55 59 (fR 15 28 29 3 62 61 (qS .quo 3 63 32768 26 0 3 (dp 14 1 32 (qi 1 31 32 30))))))
def bG5:Tr:=dh 20 3 44 (bA 1 1 14 0 47 47 48 (dh 22 3 49 (oe .mul 3 45 50 21 0 23 0 3 (fF 19 24 3 40 51 (fF 25 13 3 52 53 (fF 8 14 3 56 57 bw4))))))
def bv3:Tr:=nG 14 0 30 (aR 16 0 (fF 8 14 3 35 36 (ao 17 1 3 37 (cF 15 18 47 34 38 (nN 15 18 3 39 (bA 0 1 8 0 47 42 43 bG5))))) (cF 15 8 47 65 66 (fR 15 8 13 3 68 67 (dp 8 1 24 (gq 0 18 17)))))
def cf4:Tr:=dp 6 1 20 (.loop 0 [lV 7 0,.row 5] (nG 8 0 22 (aR 10 0 (al 1 1 27 47 (dp 11 1 28 (.loop 1 [lK 0,lV 12 0,.row 9] bv3))) (oe .mul 3 70 72 0 0 1 0 3 (fO 189 [(W 11 0),(.one (.c (.sr 1 9)))] [(some 2)] [73,74] [3,47] 49 true (lx 12 0 12 1))))))
def ca4:Tr:=al 0 1 11 47 (al 1 1 14 47 (fF 2 3 3 12 15 (aN6 (al 0 1 19 47 cf4))))
theorem aV2:aV prog f119 ck [.v (some 2),.v (some 2)]=ca4:=by kernel_rfl
def bZ3:Tr:=qv 191 0 1 2 5 6 49 (cH 2)
theorem bf0:aV prog f118 ck [.v (some 2),.v (some 2)]=bZ3:=by kernel_rfl
abbrev rB(ds:List Nat):List (List aC):=ds.map fun(d:Nat)=>[aC.int .i64 (d:Int)]
abbrev sB(ds:List Nat):aC:=.slice 1 (rB ds)
abbrev bT(n:Nat):aC:=sB (bd n)
abbrev zC(z:Int):List aC:=[.int .i64 z.sign,bT z.natAbs]
abbrev zT(z:Int):aN:=.agg (zC z)
theorem au4:DB 32768 []:=fun d hd=>by cases hd
theorem aO4{n:Nat}(h:n=0):aC.Sub (.exact (.slice none 0 0)) (bT n):=by
 subst h;rw[bT,Au];exact aC.Sub.nil
theorem sliceB{ds:List Nat}{x:Operand}{ty:Nat}{y:Operand}{k:IntKind}{n:Int}{m:Nat}(hm:n.toNat=m)(h0:0<=n:=by omega)(hn:m<=ds.length:=by omega):ah prog (.slice 47 x (some y) none none) ty [.one (sB ds),.one (.int k n)] (.one (sB (ds.drop m))):=by
 have:=Me (P:=prog) (T:=47) (x:=x) (y:=y) (ty:=ty) (k:=k) (n:=n) (ts:=rB ds) fT h0 (by rw[aI,hm];exact hn);rw[hm,rB,<-kC]at this;exact this
theorem bg4{ds:List Nat}{x:Operand}{ty:Nat}{y:Operand}{k:IntKind}{n:Int}{m:Nat}(h0:0<=n:=by omega)(hm:n.toNat=m:=by omega)(hn:m<=ds.length:=by omega):ah prog (.slice 47 x none (some y) none) ty [.one (sB ds),.one (.int k n)] (.one (sB (ds.take m))):=by
 have:=xS (P:=prog) (T:=47) (x:=x) (y:=y) (ty:=ty) (k:=k) (n:=n) (ts:=rB ds) fT h0 (by rw[aI,hm];exact hn);rw[hm,rB,<-jB]at this;exact this
theorem rf(ds:List Nat)(hd:DB 32768 ds)(hs:ds.length<4611686018427387904:=by omega):aU prog 229 [(.one (sB ds):aN)] (.ret [.one (bT (bv ds))]):=by
 refine dL func229 aE5 ?_;refine bE {xs:List Nat // DB 32768 xs/\bv xs=bv ds/\xs.length<=ds.length} (fun g=>[.one (sB g.1)]) (fun g=>g.1.length) ⟨ds,hd,rfl,aa _⟩ aZ.rfl (fun _=>rfl) ?_;rintro⟨xs,hx,hv,hl⟩;dsimp only[aE,aF]at hx hv hl|-;apply vn (aP fT (aI _));apply vn fB;refine vs _ rfl ?_ ?_<;>intro h3
 ·obtain⟨d,hget⟩:∃d,xs[0]?=some d:=⟨_,bQ (by omega)⟩
  apply vn (aJ fT (by omega) (by omega) hget);apply vn (bg ag3);dsimp only[aE,aF];apply vn bj;refine vs _ rfl ?_ ?_<;>intro h7
  ·apply vn (sliceB rfl)
   exact ab rfl ⟨⟨xs.drop 1,hx.drop 1,by
    have h7:d=0:=by omega
    rw[<-hv,aj4 hget,h7,eu,bq],by show(xs.drop 1).length<=_;rw[cW];omega⟩,aZ.rfl,by show(xs.drop 1).length<xs.length;rw[cW];omega⟩
  have e:bd (bv ds)=xs:=by
   rw[<-hv];refine bY5 hx fun d' h'=>?_;rw[Zw,hget]at h';simp only[aW]at h';subst h';omega
  rw[bT,e];exact aL
 have e:bd (bv ds)=xs:=by
  have:xs=[]:=eV (by omega);rw[<-hv,this];exact Au
 rw[bT,e];exact aL
theorem gb(s z:Int)(ds:List Nat)(hd:DB 32768 ds)(h1:z.natAbs=bv ds)(h2:bv ds≠0->z.sign=s)(hs:ds.length<4611686018427387904:=by omega):aU prog 189 [(.one (.int .i64 s):aN),(.one (sB ds):aN)] (.ret [zT z]):=by
 refine dL func189 ba3 ?_;have hlen:(bd (bv ds)).length=0↔bv ds=0:=by rw[zk,CU]
 have hl2:(bd (bv ds)).length<=ds.length:=jq (VR hd);apply aA (rf ds hd hs);apply vn (aP fT (aI _));apply vn bj;refine vs _ rfl ?_ ?_<;>intro h3
 ·have hz:z=0:=by
   have:=hlen.1 (by omega);omega
  subst hz;exact fK ⟨⟨aC.Sub.same,aO4 rfl,trivial⟩,trivial⟩
 refine aL ?_;rw[<-h2 (fun h=>h3 (by have:=hlen.2 h;omega)),<-h1];rfl
theorem Sw{ds:List Nat}{m n:Nat}(hm:m≠0)(h:bv ds+32768^ds.length*m=n)(hn:n<18446744073709551616:=by omega):ds.length<=4:=by
 rcases fY ds.length 5 with h1 | h1
 ·omega
 ·have h2:32768^5<=32768^ds.length:=hU (by omega) h1;have h3:32768^ds.length<=32768^ds.length*m:=kd _ (by omega);omega
theorem xa{ds:List Nat}{m n:Nat}(h:bv ds+32768^ds.length*m=n):bv (m%32768::ds)+32768^(m%32768::ds).length*(m/32768)=n:=by
 rw[zJ,an,bh,jA,eW,<-ep,lS];exact h
theorem neg_tmod{m:Nat}:(-(m:Int)).tmod 32768=-((m%32768:Nat):Int):=by rw[Int.neg_tmod,qM (by omega)];omega
theorem neg_tdiv{m:Nat}:(-(m:Int)).tdiv 32768=-((m/32768:Nat):Int):=by rw[Int.neg_tdiv,oa (by omega)];omega
theorem ns(n:Int)(h1:-9223372036854775808<=n:=by omega)(h2:n<9223372036854775808:=by omega):aU prog 114 [(.one (.int .i64 n):aN)] (.ret [zT n]):=by
 refine dL func114 aX3 ?_;apply vn aj;refine vs _ rfl (fun h1=>?_) (fun h1'=>?_)
 ·refine bE {g:Nat×List Nat // bv g.2+32768^g.2.length*g.1=n.natAbs/\DB 32768 g.2/\g.1<=9223372036854775808/\g.2.length<=5} (fun g=>[.one (.int .i64 (-(g.1.1:Int))),.rows (rB g.1.2)]) (fun g=>g.1.1) ⟨(n.natAbs,[]),by simp[bv,val],au4,by show n.natAbs<=_;omega,by simp⟩ ⟨aN.Sub.of_eq (congrArg (fun q=>aN.one (aC.int .i64 q)) (by show n=-((n.natAbs:Nat):Int);omega)),aN.Sub.same,trivial⟩ (fun _=>rfl) ?_;rintro⟨⟨m,ds⟩,hv,hd,hm,hl⟩;dsimp only[aE,aF]at hv hd hm hl|-;apply vn fC;refine vs _ rfl ?_ ?_<;>intro h4
  ·have hm0:m≠0:=by omega
   have hl4:=Sw hm0 hv
   have hd2:DB 32768 (m%32768::ds):=fun d hd'=>by
    rcases ez.1 hd' with rfl | hd'
    ·omega
    ·exact hd d hd'
   apply vn (CK (c:=-((m%32768:Nat):Int)) (by decide) neg_tmod);apply vn aj;refine vs _ rfl ?_ ?_<;>intro h7
   ·apply vn Ls;dsimp only[aE,aF];refine eL (us:=rB [m%32768]) (by show[[aC.int .i64 _]]=[[aC.int .i64 _]];congr 3;omega) ?_;refine uH (ts:=rB [m%32768]) (us:=rB ds) (vs:=rB (m%32768::ds)) rfl rfl rfl (by simp;omega) (by simp[maxLen];omega) ?_;apply vn (pK (c:=-((m/32768:Nat):Int)) (by decide) (by rw[neg_tdiv];exact gK)) rfl;dsimp only[aE,aF];exact ab rfl ⟨⟨(m/32768,m%32768::ds),xa hv,hd2,by show m/32768<=_;omega,by show ds.length+1<=5;omega⟩,aZ.rfl,by show m/32768<m;omega⟩
   refine eL (us:=rB [m%32768]) (by show[[aC.int .i64 _]]=[[aC.int .i64 _]];congr 3;omega) ?_;refine uH (ts:=rB [m%32768]) (us:=rB ds) (vs:=rB (m%32768::ds)) rfl rfl rfl (by simp;omega) (by simp[maxLen];omega) ?_;apply vn (pK (c:=-((m/32768:Nat):Int)) (by decide) (by rw[neg_tdiv];exact gK)) rfl;dsimp only[aE,aF];exact ab rfl ⟨⟨(m/32768,m%32768::ds),xa hv,hd2,by show m/32768<=_;omega,by show ds.length+1<=5;omega⟩,aZ.rfl,by show m/32768<m;omega⟩
  have hm0:m=0:=by omega
  subst hm0;rw[eu,bq]at hv;apply aA (gb (-1) n ds hd hv.symm (fun _=>ny h1));exact aL
 refine bE {g:Nat×List Nat // bv g.2+32768^g.2.length*g.1=n.natAbs/\DB 32768 g.2/\g.1<=9223372036854775808/\g.2.length<=5/\g.1<9223372036854775808} (fun g=>[.one (.int .i64 (g.1.1:Int)),.rows (rB g.1.2)]) (fun g=>g.1.1) ⟨(n.natAbs,[]),by simp[bv,val],au4,by show n.natAbs<=_;omega,by simp,by show n.natAbs<_;omega⟩ ⟨aN.Sub.of_eq (congrArg (fun q=>aN.one (aC.int .i64 q)) (by show n=((n.natAbs:Nat):Int);omega)),aN.Sub.same,trivial⟩ (fun _=>rfl) ?_;rintro⟨⟨m,ds⟩,hv,hd,hm,hl,hmm⟩;dsimp only[aE,aF]at hv hd hm hl hmm|-;apply vn fC;refine vs _ rfl ?_ ?_<;>intro h21
 ·have hm0:m≠0:=by omega
  have hl4:=Sw hm0 hv
  have hd2:DB 32768 (m%32768::ds):=fun d hd'=>by
   rcases ez.1 hd' with rfl | hd'
   ·omega
   ·exact hd d hd'
  apply vn mX;apply vn aj;refine vs _ rfl ?_ ?_<;>intro h24
  ·exfalso;omega
  refine eL (us:=rB [m%32768]) (by show[[aC.int .i64 _]]=[[aC.int .i64 _]];congr 3) ?_;dsimp only[aE,aF];refine uH (ts:=rB [m%32768]) (us:=rB ds) (vs:=rB (m%32768::ds)) rfl rfl rfl (by simp;omega) (by simp[maxLen];omega) ?_;apply vn xL;dsimp only[aE,aF];exact ab rfl ⟨⟨(m/32768,m%32768::ds),xa hv,hd2,by show m/32768<=_;omega,by show ds.length+1<=5;omega,by show m/32768<_;omega⟩,aZ.rfl,by show m/32768<m;omega⟩
 have hm0:m=0:=by omega
 subst hm0;rw[eu,bq]at hv;apply aA (gb 1 n ds hd hv.symm (fun h=>gD (by omega)));exact aL
theorem Tc{xs ys:List Nat}(hx:DB 32768 xs){i x y:Nat}(hl:xs.length=ys.length)(hi:xs[i]?=some x)(hj:ys[i]?=some y)(ht:xs.take i=ys.take i)(hxy:x<y:=by omega):bv xs<bv ys:=by
 have e:∀(zs:List Nat)(z:Nat),zs[i]?=some z->bv zs=bv (zs.take i)*32768^(zs.length-i)+(bv (zs.drop (i+1))+32768^(zs.length-(i+1))*z):=fun zs z hz=>by
  have hlt:i<zs.length:=(dM.1 hz).1
  conv=>lhs;rw[<-mW i zs]
  rw[ao3,cW]
  congr 1
  rw[jE hlt,(dM.1 hz).2,zJ,cW]
 rw[e xs x hi,e ys y hj,ht,hl];have h1:=VR (hx.drop (i+1));rw[cW,hl]at h1;have h2:32768^(ys.length-(i+1))*(x+1)<=32768^(ys.length-(i+1))*y:=dr _ hxy;rw[ep,dZ]at h2;omega
theorem tv{a b:Nat}(h:(bd a).length<(bd b).length:=by omega):a<b:=by
 rcases fY a b with h1 | h1
 ·exact h1
 ·have:=fj h1;omega
theorem pF(a b:Nat)(hs:(bd a).length+(bd b).length<1099511627776:=by omega):aU prog 227 [(.one (bT a):aN),(.one (bT b):aN)] (.ret [.one (.int .i64 (fM a b))]):=by
 refine dL func227 aE7 ?_;apply vn (aP fT (aI _));apply vn (aP fT (aI _));apply vn fC;refine vs _ rfl ?_ ?_<;>intro h3
 ·apply vn (aP fT (aI _));dsimp only[aE,aF];apply vn (aP fT (aI _));apply vn aj;refine vs _ rfl ?_ ?_<;>intro h7
  ·rw[sa (by have:=tv (a:=a) (b:=b);omega)];exact aL
  rw[tL (by have:=tv (a:=b) (b:=a);omega)];exact aL
 have hlen:(bd a).length=(bd b).length:=by omega
 refine bE {i:Nat // i<=(bd a).length/\(bd a).take i=(bd b).take i} (fun g=>[.one (.int .i64 0),.one (.int .i64 g.1)]) (fun g=>(bd a).length-g.1) ⟨0,cz _,rfl⟩ aZ.rfl (fun _=>rfl) ?_;rintro⟨i,hi,ht⟩;dsimp only[aE,aF]at hi ht|-;apply vn (aP fT (aI _));apply vn aj;refine vs _ rfl ?_ ?_<;>intro h13
 ·obtain⟨x,hx⟩:∃x,(bd a)[i]?=some x:=⟨_,bQ (by omega)⟩
  obtain⟨y,hy⟩:∃y,(bd b)[i]?=some y:=⟨_,bQ (by omega)⟩
  apply vn (aJ fT (by omega) (by omega) hx);apply vn (bg ag3);dsimp only[aE,aF];apply vn (aJ fT (by omega) (by omega) hy);apply vn (bg ag3);apply vn aj;refine vs _ rfl ?_ ?_<;>intro h19
  ·have:=Tc (jD a) hlen hx hy ht;rw[gP,gP]at this;rw[sa (by omega)];exact aL
  apply vn (aJ fT (by omega) (by omega) hx);dsimp only[aE,aF];apply vn (bg ag3);apply vn (aJ fT (by omega) (by omega) hy);apply vn (bg ag3);apply vn fB;dsimp only[aE,aF];refine vs _ rfl ?_ ?_<;>intro h26
  ·have:=Tc (jD b) hlen.symm hy hx ht.symm;rw[gP,gP]at this;rw[tL (by omega)];exact aL
  apply vn (aB (by omega) (by omega));dsimp only[aE,aF];exact ab rfl ⟨⟨i+1,by omega,by rw[take_succ hx,take_succ hy,ht,show x=y by omega]⟩,aZ.rfl,by show(bd a).length-(i+1)<(bd a).length-i;omega⟩
 have hie:i=(bd a).length:=by omega
 subst hie
 have e:bd a=bd b:=by
  rw[gw,dP (by omega)]at ht;exact ht
 have:a=b:=by rw[<-gP a,e,gP]
 rw[this,zq];exact aL
theorem Be(n i:Nat)(hs:(bd n).length<1099511627776:=by omega)(hi:i<4611686018427387904:=by omega):aU prog 248 [(.one (bT n):aN),(.one (.int .i64 i):aN)] (.ret [.one (.int .i64 ((n/32768^i%32768:Nat):Int))]):=by
 refine dL func248 aG7 ?_;have hdg:=SG n i;apply vn (aP fT (aI _));apply vn iI;refine vs _ rfl ?_ ?_<;>intro h2
 ·rw[eZ.2 (by rw[eO];omega)]at hdg;rw[<-hdg];exact aL
 apply vn (aP fT (aI _));apply vn (aH (by omega) (by omega));dsimp only[aE,aF];apply vn (aH (by omega) (by omega));dsimp only[aE,aF];obtain⟨d,hd⟩:∃d,(bd n).reverse[i]?=some d:=⟨_,bQ (by rw[eO];omega)⟩
 have hd2:(bd n)[(bd n).length-1-i]?=some d:=by rw[zQ];exact hd
 rw[hd]at hdg;apply vn (aJ fT (by omega) (by omega) hd2);apply vn (bg ag3);dsimp only[aE,aF];rw[<-hdg];exact aL
theorem Xp(a b:Nat):aU prog 247 [(.one (bT a):aN),(.one (bT b):aN)] (.ret [.one (.int .i64 ((max (bd a).length (bd b).length:Nat):Int))]):=by
 refine dL func247 WQ ?_;apply vn (aP fT (aI _));apply vn (aP fT (aI _));apply vn fB;refine vs _ rfl ?_ ?_<;>intro h3
 ·apply vn (aP fT (aI _));dsimp only[aE,aF];refine aL ?_;show[aN.one (aC.int .i64 _)]=[aN.one (aC.int .i64 _)]
  congr 3;omega
 apply vn (aP fT (aI _));dsimp only[aE,aF];refine aL ?_;show[aN.one (aC.int .i64 _)]=[aN.one (aC.int .i64 _)]
 congr 3;omega
theorem val_rev(n:Nat):val 32768 (bd n).reverse=n:=gP n
theorem Tw(n i:Nat):(bd n).reverse[i]?.getD 0=n/32768^i%32768:=SG n i
theorem lE(a b r:Nat)(k:Int)(hk:k=1\/k=-1)(qj:(bd b).length<274877906944:=by omega)(hr:(r:Int)=a+k*b:=by omega)(hs:(bd a).length<274877906944:=by omega):aU prog 226 [(.one (bT a):aN),(.one (bT b):aN),(.one (.int .i64 k):aN)] (.ret [.one (bT r)]):=by
 refine dL func226 aY0 ?_;obtain⟨n,hn⟩:∃n,max (bd a).length (bd b).length+1=n:=⟨_,rfl⟩
 have hrl:r<32768^n:=by
  have h1:=Cd a;have h2:=Cd b;have h3:32768^(bd a).length<=32768^(n-1):=hU (by omega) (by omega);have h4:32768^(bd b).length<=32768^(n-1):=hU (by omega) (by omega);have h5:32768^n=32768^(n-1)*32768:=by rw[<-bh];congr 1;omega
  rcases hk with rfl | rfl<;>omega
 apply aA (Xp a b);apply vn (aB (by omega) (by omega));dsimp only[aE,aF];refine AO (n:=n) (f:=fun d:Nat=>[aC.int .i64 (d:Int)]) 0 rfl rfl (by omega) rfl (by omega) (by simp only[maxLen];omega) ?_;refine bE {g:Nat×Int×List Nat // FU 32768 (bd a).reverse (bd b).reverse n k g.1 g.2.1 g.2.2} (fun g=>[.one (.int .i64 g.1.2.1),.one (.int .i64 g.1.1),.rows (rB g.1.2.2.reverse)]) (fun g=>n-g.1.1) ⟨(0,0,List.replicate n 0),FU.init (by omega) _ _ _ _⟩ ⟨aN.Sub.same,aN.Sub.same,aN.Sub.of_eq (by rw[af4];rfl),trivial⟩ (fun _=>rfl) ?_;rintro⟨⟨i,c,os⟩,hI⟩;dsimp only[aE,aF]at hI|-;have hil:=hI.le;have hol:=hI.len;have hc0:=hI.c0;have hc1:=hI.c1;apply vn aj;refine vs _ rfl ?_ ?_<;>intro h5
 ·obtain⟨x,hx⟩:∃x,a/32768^i%32768=x:=⟨_,rfl⟩
  obtain⟨y,hy⟩:∃y,b/32768^i%32768=y:=⟨_,rfl⟩
  have hxB:x<32768:=by rw[<-hx];exact dU _ (by omega)
  have hyB:y<32768:=by rw[<-hy];exact dU _ (by omega)
  have hcall1:=Be a i;have hcall2:=Be b i;rw[hx]at hcall1;rw[hy]at hcall2
  have hnext:∀(z:Nat)(c':Int),z<32768->-1<=c'->c'<=1->(z:Int)+32768*c'=x+k*y+c->FU 32768 (bd a).reverse (bd b).reverse n k (i+1) c' (os.set i z):=fun z c' h1 h2 h3 h4=>
   hI.next (by omega) (by rw[Tw,hx]) (by rw[Tw,hy]) h2 h3 h1 h4
  have hst:∀z,os.reverse.set (n-1-i) z=(os.set i z).reverse:=fun z=>by rw[<-hol];exact RK (by omega)
  obtain⟨o0,hgo⟩:∃o0,os.reverse[n-1-i]?=some o0:=⟨_,bQ (by rw[eO];omega)⟩
  have hky:k*y=y\/k*y=-(y:Int):=by rcases hk with rfl | rfl<;>simp
  generalize hkyv:k*(y:Int)=ky at hnext hky;apply aA hcall1;apply aA hcall2;apply vn (ur (c:=ky) (by rw[hkyv];exact gK)) rfl;dsimp only[aE,aF];apply vn (aB (by omega) (by omega));apply vn (aB (by omega) (by omega));apply vn aj;refine vs _ rfl ?_ ?_<;>intro h12
  ·apply vn (aB (by omega) (by omega));dsimp only[aE,aF];apply vn iI;refine vs _ rfl ?_ ?_<;>intro h15
   ·exfalso;omega
   apply vn (aH (by omega) (by omega));apply vn (aH (by omega) (by omega));refine br rfl rfl (by omega) (by rw[eO];omega) ?_;refine iJ (d':=(x+ky+c+32768).toNat) rfl rfl (by omega) (by omega) hgo (by show[aC.int .i64 _]=[aC.int .i64 _];congr 2;omega) ?_;rw[hst];dsimp only[aE,aF];apply vn (aB (by omega) (by omega));dsimp only[aE,aF];exact ab rfl ⟨⟨(i+1,-1,os.set i (x+ky+c+32768).toNat),hnext _ (-1) (by omega) (by omega) (by omega) (by omega)⟩,aZ.rfl,by show n-(i+1)<n-i;omega⟩
  apply vn iI;refine vs _ rfl ?_ ?_<;>intro h30
  ·apply vn (aH (by omega) (by omega));apply vn (aH (by omega) (by omega));apply vn (aH (by omega) (by omega));dsimp only[aE,aF];refine br rfl rfl (by omega) (by rw[eO];omega) ?_;refine iJ (d':=(x+ky+c-32768).toNat) rfl rfl (by omega) (by omega) hgo (by show[aC.int .i64 _]=[aC.int .i64 _];congr 2;omega) ?_;rw[hst];apply vn (aB (by omega) (by omega));dsimp only[aE,aF];exact ab rfl ⟨⟨(i+1,1,os.set i (x+ky+c-32768).toNat),hnext _ 1 (by omega) (by omega) (by omega) (by omega)⟩,aZ.rfl,by show n-(i+1)<n-i;omega⟩
  apply vn (aH (by omega) (by omega));apply vn (aH (by omega) (by omega));refine br rfl rfl (by omega) (by rw[eO];omega) ?_;refine iJ (d':=(x+ky+c).toNat) rfl rfl (by omega) (by omega) hgo (by show[aC.int .i64 _]=[aC.int .i64 _];congr 2;omega) ?_;rw[hst];apply vn (aB (by omega) (by omega));dsimp only[aE,aF];exact ab rfl ⟨⟨(i+1,0,os.set i (x+ky+c).toNat),hnext _ 0 (by omega) (by omega) (by omega) (by omega)⟩,aZ.rfl,by show n-(i+1)<n-i;omega⟩
 have hie:i=n:=by omega
 subst hie;have hf:=hI.fin (by omega) (by rw[eO];omega) (by rw[eO];omega) (r:=r) (by rw[val_rev,val_rev];exact hr) hrl;apply aA (rf os.reverse hI.dg.rev (by rw[eO];omega)) rfl;dsimp only[aE,aF];refine aL ?_;rw[<-hf,bv,oM];rfl
theorem zu(z:Int):-1<=z.sign/\z.sign<=1:=by rcases cp z with⟨_,e⟩ | ⟨_,e⟩ | ⟨_,e⟩<;>omega
theorem AB(z:Int):aU prog 217 [(zT z:aN)] (.ret [zT (-z)]):=by
 refine dL func217 bb0 ?_;have:=zu z;apply vn Ls;dsimp only[aE,aF];refine aL ?_;show[aN.agg [.int .i64 (-z.sign),bT z.natAbs]]=[zT (-z)];rw[zT,zC,Int.sign_neg,gi]
theorem bB9{a b:Nat}:(bd (a+b)).length<=max (bd a).length (bd b).length+1:=by
 apply jq;have h1:=Cd a;have h2:=Cd b;have h3:32768^(bd a).length<=32768^(max (bd a).length (bd b).length):=hU (by omega) (by omega);have h4:32768^(bd b).length<=32768^(max (bd a).length (bd b).length):=hU (by omega) (by omega);rw[bh];omega
theorem YL(x y:Int)(hx:(bd x.natAbs).length<137438953472)(hy:(bd y.natAbs).length<137438953472):aU prog 187 [(zT x:aN),(zT y:aN)] (.ret [zT (x+y)]):=by
 refine dL func187 aQ4 ?_;have hx0:=cp x;have hy0:=cp y
 have hl:∀n,n<=x.natAbs+y.natAbs->(bd n).length<274877906944:=fun n hn=>by
  have h1:=fj hn;have h2:=bB9 (a:=x.natAbs) (b:=y.natAbs);omega
 apply vn bj;refine vs _ rfl ?_ ?_<;>intro h1
 ·rw[show x=0 by omega,Int.zero_add];exact aL
 apply vn bj;refine vs _ rfl ?_ ?_<;>intro h4
 ·rw[show y=0 by omega,Int.add_zero];exact aL
 apply vn bj;refine vs _ rfl ?_ ?_<;>intro h7
 ·apply aA (lE x.natAbs y.natAbs (x.natAbs+y.natAbs) 1 (.inl rfl));dsimp only[aE,aF]
  apply aA (gb x.sign (x+y) _ (jD _) (by rw[gP];omega) (fun _=>by
   rcases hx0 with⟨h,e⟩ | ⟨h,e⟩ | ⟨h,e⟩
   ·rw[e];exact ny (by omega)
   ·omega
   ·rw[e];exact gD (by omega)) (by have:=hl _ (aa _);omega)) rfl
  exact aL
 apply aA (pF x.natAbs y.natAbs);apply vn iI;dsimp only[aE,aF]
 have hci:(0<=fM (x.natAbs:Int) (y.natAbs:Int))↔y.natAbs<=x.natAbs:=by
  have:=rM (a:=(x.natAbs:Int)) (b:=(y.natAbs:Int));omega
 refine vs _ rfl ?_ ?_<;>intro h13
 ·apply aA (lE x.natAbs y.natAbs (x.natAbs-y.natAbs) (-1) (.inr rfl))
  apply aA (gb x.sign (x+y) _ (jD _) (by rw[gP];omega) (fun hne=>by
   rw[gP]at hne;rcases hx0 with⟨h,e⟩ | ⟨h,e⟩ | ⟨h,e⟩
   ·rw[e];exact ny (by omega)
   ·omega
   ·rw[e];exact gD (by omega)) (by have:=hl (x.natAbs-y.natAbs) (by omega);omega)) rfl
  exact aL
 apply aA (lE y.natAbs x.natAbs (y.natAbs-x.natAbs) (-1) (.inr rfl))
 apply aA (gb y.sign (x+y) _ (jD _) (by rw[gP];omega) (fun hne=>by
  rw[gP]at hne;rcases hy0 with⟨h,e⟩ | ⟨h,e⟩ | ⟨h,e⟩
  ·rw[e];exact ny (by omega)
  ·omega
  ·rw[e];exact gD (by omega)) (by have:=hl (y.natAbs-x.natAbs) (by omega);omega)) rfl
 exact aL
theorem bb3(x y:Int)(hx:(bd x.natAbs).length<137438953472)(hy:(bd y.natAbs).length<137438953472):aU prog 191 [(zT x:aN),(zT y:aN)] (.ret [zT (x-y)]):=by
 refine dL func191 aY9 ?_;apply aA (AB y);apply aA (YL x (-y) hx (by rw[gi];exact hy)) rfl;rw[<-Int.sub_eq_add_neg];exact aL
theorem aN5(x y:Int):(x-y).sign=fM x y:=by
 unfold fM;rcases cp (x-y)with⟨h,e⟩ | ⟨h,e⟩ | ⟨h,e⟩<;>rw[e]
 ·rw[aK (by omega)]
 ·rw[aG (by omega),aG (by omega)]
 ·rw[aG (by omega),aK (by omega)]
theorem aP3(x y:Int)(hx:(bd x.natAbs).length<137438953472)(hy:(bd y.natAbs).length<137438953472):aU prog 118 [(zT x:aN),(zT y:aN)] (.ret [.one (.int .i64 (fM x y))]):=by
 refine dL func118 bf0 ?_;apply aA (bb3 x y hx hy);dsimp only[aE,aF];rw[<-aN5];exact aL
theorem ae2{n la i:Nat}(h:la=(bd n).length)(hi:i<la:=by omega):∃d,(bd n)[la-1-i]?=some d/\(bd n).reverse[i]?=some d/\d<32768:=by
 subst h;have hd:(bd n).reverse[i]?=some ((bd n).reverse[i]'(by rw[eO];exact hi)):=bQ _;exact⟨_,by rw[zQ hi];exact hd,hd,(jD n).rev.get hd⟩
theorem kG(x y:Int)(hs:(bd x.natAbs).length+(bd y.natAbs).length<274877906944:=by omega):aU prog 119 [(zT x:aN),(zT y:aN)] (.ret [zT (x*y)]):=by
 refine dL func119 aV2 ?_;obtain⟨la,hla⟩:∃n,(bd x.natAbs).length=n:=⟨_,rfl⟩
 obtain⟨lb,hlb⟩:∃n,(bd y.natAbs).length=n:=⟨_,rfl⟩
 have hra:(bd x.natAbs).reverse.length=la:=by rw[eO,hla]
 have hrb:(bd y.natAbs).reverse.length=lb:=by rw[eO,hlb]
 have hsx:=zu x;have hsy:=zu y;apply vn (aP fT (aI _));apply vn (aP fT (aI _));apply vn (aB (by omega) (by omega));dsimp only[aE,aF];rw[hla,hlb];refine AO (n:=la+lb) (f:=fun d:Nat=>[aC.int .i64 (d:Int)]) 0 rfl rfl (by omega) rfl (by omega) (by simp only[maxLen];omega) ?_;apply vn (aP fT (aI _));apply vn (aH (by omega) (by omega));dsimp only[aE,aF];rw[hla];refine bE {g:Nat×List Nat // GV 32768 (bd x.natAbs).reverse (bd y.natAbs).reverse g.1 g.2} (fun g=>[.one (.int .i64 ((la:Int)-1-g.1.1)),.rows (rB g.1.2.reverse)]) (fun g=>la-g.1.1) ⟨(0,List.replicate (la+lb) 0),by have:=GV.init (B:=32768) (by omega) (bd x.natAbs).reverse (bd y.natAbs).reverse;rw[hra,hrb]at this;exact this⟩ ⟨aN.Sub.of_eq (congrArg (fun q=>aN.one (aC.int .i64 q)) (by show(la:Int)-1=(la:Int)-1-((0:Nat):Int);omega)),aN.Sub.of_eq (by rw[af4];rfl),trivial⟩ (fun _=>rfl) ?_;rintro⟨⟨i,os⟩,hO⟩;dsimp only[aE,aF]at hO|-;have hil:=hO.le;rw[hra]at hil;apply vn iI;refine vs _ rfl ?_ ?_<;>intro h8
 ·apply vn (aP fT (aI _));obtain⟨d,hd1,hd2,hd3⟩:=ae2 (n:=x.natAbs) (la:=la) (i:=i) hla.symm;dsimp only[aE,aF];apply vn (aH (by omega) (by omega));dsimp only[aE,aF];rw[hlb];refine bE {g:Nat×Nat×List Nat // BIn 32768 (bd x.natAbs).reverse (bd y.natAbs).reverse i d (val 32768 ((bd x.natAbs).reverse.take i)*val 32768 (bd y.natAbs).reverse) g.1 g.2.1 g.2.2} (fun g=>[.one (.int .i64 g.1.2.1),.one (.int .i64 ((lb:Int)-1-g.1.1)),.rows (rB g.1.2.2.reverse)]) (fun g=>lb-g.1.1) ⟨(0,0,os),hO.inn (by omega)⟩ ⟨aN.Sub.same,aN.Sub.of_eq (congrArg (fun q=>aN.one (aC.int .i64 q)) (by show(lb:Int)-1=(lb:Int)-1-((0:Nat):Int);omega)),aN.Sub.same,trivial⟩ (fun _=>rfl) ?_;rintro⟨⟨k,c,os2⟩,hI⟩;dsimp only[aE,aF]at hI|-;have hkl:=hI.le;have hol:=hI.len;have hc1:=hI.c1;rw[hrb]at hkl;rw[hra,hrb]at hol;apply vn iI;refine vs _ rfl ?_ ?_<;>intro h13
  ·apply vn (aB (by omega) (by omega));apply vn (aB (by omega) (by omega));dsimp only[aE,aF];obtain⟨e,he1,Sj,he3⟩:=ae2 (n:=y.natAbs) (la:=lb) (i:=k) hlb.symm;obtain⟨o,ho2⟩:∃o,os2[i+k]?=some o:=⟨_,bQ (by omega)⟩
   have ho1:os2.reverse[la+lb-1-(i+k)]?=some o:=by
    have:=zQ (ds:=os2.reverse) (i:=i+k) (by rw[eO];omega);rw[oM,eO,hol]at this;rw[this];exact ho2
   have hoB:=hI.dg.get ho2;have hde:d*e<=32767*32767:=iA (by omega) (by omega);have hst:∀z,os2.reverse.set (la+lb-1-(i+k)) z=(os2.set (i+k) z).reverse:=fun z=>by rw[<-hol];exact RK (by omega)
   obtain⟨w,hw⟩:∃w,c+(d*e+o)=w:=⟨_,rfl⟩
   have hN:=hI.next (z:=w%32768) (c':=w/32768) (by rw[hrb];omega) Sj ho2 (by omega) (by omega) (by omega);refine br rfl rfl (by omega) (by rw[eO];omega) ?_;refine oD rfl rfl (by omega) (by omega) ho1 rfl ?_;apply vn (aJ fT (by omega) (by omega) hd1);apply vn (bg ag3);apply vn (aJ fT (by omega) (by omega) he1);dsimp only[aE,aF];apply vn (bg ag3);apply vn (ur (c:=((d*e:Nat):Int)) (by rw[<-iG];exact gK)) rfl;apply vn (aB (by omega) (by omega));dsimp only[aE,aF];apply vn (fS (c:=(w:Int)) (by rw[show(o:Int)+((d*e:Nat):Int)+(c:Int)=(w:Int) by omega];exact gK)) rfl;apply vn (aB (by omega) (by omega));apply vn (aB (by omega) (by omega));apply vn mX;dsimp only[aE,aF];refine br rfl rfl (by omega) (by rw[eO];omega) ?_;refine iJ (d':=w%32768) rfl rfl (by omega) (by omega) ho1 rfl ?_;rw[hst];apply vn xL;apply vn (aH (by omega) (by omega));dsimp only[aE,aF];exact ab rfl ⟨⟨(k+1,w/32768,os2.set (i+k) (w%32768)),hN⟩,⟨aN.Sub.same,aN.Sub.of_eq (congrArg (fun q=>aN.one (aC.int .i64 q)) (by show(lb:Int)-1-(k:Int)-1=(lb:Int)-1-((k+1:Nat):Int);omega)),aN.Sub.same,trivial⟩,by show lb-(k+1)<lb-k;omega⟩
  have hke:k=lb:=by omega
  subst hke;obtain⟨o,ho2⟩:∃o,os2[i+k]?=some o:=⟨_,bQ (by omega)⟩
  have ho1:os2.reverse[la+k-1-(i+k)]?=some o:=by
   have:=zQ (ds:=os2.reverse) (i:=i+k) (by rw[eO];omega);rw[oM,eO,hol]at this;rw[this];exact ho2
  have hst:∀z,os2.reverse.set (la+k-1-(i+k)) z=(os2.set (i+k) z).reverse:=fun z=>by rw[<-hol];exact RK (by omega)
  have hN:GV 32768 (bd x.natAbs).reverse (bd y.natAbs).reverse (i+1) (os2.set (i+k) c):=by
   have:=hI;rw[<-hrb]at this|-;exact this.out hd2
  refine br rfl rfl (by omega) (by rw[eO];omega) ?_;refine iJ (d':=c) rfl rfl (by omega) (by omega) ho1 rfl ?_;rw[hst];apply vn (aH (by omega) (by omega));dsimp only[aE,aF];exact ab rfl ⟨⟨(i+1,os2.set (i+k) c),hN⟩,⟨aN.Sub.of_eq (congrArg (fun q=>aN.one (aC.int .i64 q)) (by show(la:Int)-1-(i:Int)-1=(la:Int)-1-((i+1:Nat):Int);omega)),aN.Sub.same,trivial⟩,by show la-(i+1)<la-i;omega⟩
 have hie:i=la:=by omega
 subst hie
 have hf:val 32768 os=x.natAbs*y.natAbs:=by
  have:=hO;rw[<-hra]at this;have:=this.fin;rw[val_rev,val_rev]at this;exact this
 have hol:=hO.len;rw[hra,hrb]at hol;have hmul:x.sign*y.sign=(x*y).sign:=(Int.sign_mul x y).symm;have hsb:=zu (x*y);apply vn (ur (c:=(x*y).sign) (by rw[hmul];exact gK)) rfl;apply aA (gb (x*y).sign (x*y) os.reverse hO.dg.rev (by rw[bv,oM,hf,dn]) (fun _=>rfl) (by rw[eO];omega)) rfl;exact aL
def bl4:Tr:=iY 0 10 11
def bX7:Tr:=aR 5 0 (qS .mul 3 14 32768 3 0 3 (dp 1 1 17 (eH 7 4 0 3 18 19 (gR 248 0 0 8 16 20 47 3 3 (fF 6 9 3 15 21 (ao 4 1 3 12 bl4)))))) (cH 3)
def ci2:Tr:=xf (dD 4 0 2 3 9 10 4 bX7)
theorem aN4:aV prog f260 ck [.v none,.v none,.v none]=ci2:=by kernel_rfl
def bB5:Tr:=.loop 0 [lV 14 0,lV 10 0] (gR 227 15 0 1 46 47 47 47 3 (nG 17 0 48 (aR 18 0 (vz 15 0 1 0 (-1) 50 51 (ao 16 1 3 53 (iY 0 19 20))) (Cf 16 15))))
def bq4:Tr:=.loop 0 [lV 0 0,lV 10 0] (gR 227 12 0 1 46 47 47 47 3 (nG 14 0 48 (aR 15 0 (vz 12 0 1 0 (-1) 50 51 (ao 13 1 3 53 (iY 0 16 17))) (Cf 13 12))))
def ar0:Tr:=qS .gtr 3 36 0 10 0 4 (aR 11 0 (Lt 114 10 2 39 49 (at1 12 (vz 0 0 13 1 (-1) 38 44 bB5))) bq4)
def bV9:Tr:=qS .leq 3 14 3 2 0 4 (aR 5 0 (ao 2 1 3 17 (ao 2 1 3 19 (fO 260 [(W 0 0),(W 6 0),(W 7 0)] [none] [16,18,20] [47,3,3] 3 false (fO 260 [(W 1 0),(W 2 0),(W 2 0)] [none] [22,23,24] [47,3,3] 3 true (oe .quo 3 21 25 8 0 9 0 3 ar0))))) (ao 2 1 3 28 (au7 0 6 4 27 29 (au7 1 2 3 31 32 (ao 8 1 3 33 (oe .quo 3 30 34 7 0 9 0 3 ar0))))))
def bs8:Tr:=.loop 0 [lV 8 0,lK 0] (gR 227 9 0 1 46 47 47 47 3 (nG 11 0 48 (aR 12 0 (vz 9 0 1 0 (-1) 50 51 (ao 10 1 3 53 (iY 0 13 14))) (Cf 10 9))))
def bN1:Tr:=aR 5 0 (fO 114 [(WK 0)] [(some 2)] [39] [2] 49 false (at1 6 (vz 0 0 7 1 (-1) 38 44 bs8))) (.loop 0 [lV 0 0,lK 0] (gR 227 6 0 1 46 47 47 47 3 (nG 8 0 48 (aR 9 0 (vz 6 0 1 0 (-1) 50 51 (ao 7 1 3 53 bl4)) (Cf 7 6)))))
def ch0:Tr:=al 1 0 8 47 (al 0 0 10 47 (oe .geq 3 11 12 3 0 2 0 4 (aR 4 0 bV9 (.need (.prim [(WK 0),(WK 0)] none) (.binOp .gtr 3 (tT 36) (.const (I3 0)) 3) 4 false bN1))))
theorem av8:aV prog f241 ck [.v none,.v none]=ch0:=by kernel_rfl
def bC3:Tr:=fH 1 8 17 20 33 38 47 (uW 229 1 21 39 47 (rj 241 22 0 1 42 43 271 (vH 23 47 48 (fH 1 8 14 25 47 49 47 (ao 13 1 3 30 (qi 0 24 27 26))))))
def bC9:Tr:=al 0 0 27 47 (dD 13 0 15 3 26 28 4 (aR 16 0 (YI 1 8 12 32 47 (bA 0 0 13 0 47 34 35 (dh 18 3 36 (vH 19 47 37 bC3)))) (yC 229 14 51 47 47 (Cf 17 12))))
def cb4:Tr:=dp 5 1 18 (Ly 6 47 16 19 (YI 1 8 7 20 47 (uW 229 1 8 21 47 (al 1 0 23 47 (dp 10 1 24 (.loop 0 [lV 9 0,lV 11 0,.nilrow] bC9))))))
def cj5:Tr:=al 0 0 10 47 (al 1 0 12 47 (dD 2 0 3 3 11 13 4 (aR 4 0 (.ret [(.one (.c (.k (.slice none 0 0)))),(W 0 0)]) (al 1 0 17 47 cb4))))
theorem bf7:aV prog f219 ck [.v none,.v none]=cj5:=by kernel_rfl
def bZ2:Tr:=aR 4 0 (qS .mul 3 11 32768 1 0 3 (bA 0 0 2 0 47 13 14 (dh 6 3 15 (fF 5 7 3 12 16 (ao 2 1 3 9 (iY 0 8 9)))))) Yk
def ck9:Tr:=xf (al 0 0 6 47 (dD 2 0 3 3 5 7 4 bZ2))
theorem ap6:aV prog f225 ck [.v none]=ck9:=by kernel_rfl
def bA0:Tr:=Cv 225 2 26 47 3 (mz 225 3 28 47 3 (.loop 1 [lV 12 0,lV 13 0] (my 15 0 3 30 (aR 16 0 (oe .rem 3 33 34 14 0 15 0 3 (iY 1 15 17)) (nL 114 14 2 36 2 49 (lx 17 0 17 1))))))
def cc5:Tr:=qS .leq 3 19 4 8 0 4 (aR 9 0 (al 3 0 22 47 (qS .leq 3 23 4 10 0 4 (aR 11 0 bA0 (rj 219 2 0 3 39 40 247 (Ng 3 13 4 0 5 0))))) (rj 219 2 0 3 39 40 247 (Ng 3 11 4 0 5 0)))
def ch4:Tr:=.loop 0 [lV 0 1,lV 1 1,lK 0,lN] (al 3 0 15 47 (qS .gtr 3 16 0 6 0 4 (aR 7 0 (al 2 0 18 47 cc5) (Tx 2 46 Ye))))
theorem aV8:aV prog f218 ck [.v (some 2),.v (some 2)]=ch4:=by kernel_rfl
theorem Wa{m long i:Nat}(h:i<long:=by omega):m/32768^(long-i)*32768+m/32768^(long-1-i)%32768=m/32768^(long-(i+1)):=by
 have e:m/32768^(long-i)=m/32768^(long-(i+1))/32768:=by
  rw[lq,<-bh];congr 2;omega
 rw[e,show long-1-i=long-(i+1) by omega];have:=Oe (m/32768^(long-(i+1))) 32768;omega
theorem um{m long i:Nat}(h:i<=long)(hm:m<32768^long):m/32768^(long-i)<32768^i:=by
 rw[jf (ej (by omega)),<-eP,show i+(long-i)=long by omega];exact hm
theorem Yp{i:Nat}(h:i<=4:=by omega):32768^i<=1152921504606846976:=by
 have:=hU (n:=32768) (by omega) h;rw[show(32768:Nat)^4=1152921504606846976 by decide]at this;exact this
theorem vS(m long k:Nat)(hm:m<32768^long)(hk:k<=long:=by omega)(hk4:k<=4:=by omega)(hl:long<1099511627776:=by omega)(hs:(bd m).length<1099511627776:=by omega):aU prog 260 [(.one (bT m):aN),(.one (.int .i64 long):aN),(.one (.int .i64 k):aN)] (.ret [.one (.int .i64 ((m/32768^(long-k):Nat):Int))]):=by
 refine dL func260 aN4 ?_;refine bE {i:Nat // i<=k} (fun g=>[.one (.int .i64 ((m/32768^(long-g.1):Nat):Int)),.one (.int .i64 g.1)]) (fun g=>k-g.1) ⟨0,cz _⟩ ⟨aN.Sub.of_eq (congrArg (fun q:Nat=>aN.one (aC.int .i64 (q:Int))) (by show 0=m/32768^long;rw[fA hm])),aN.Sub.same,trivial⟩ (fun _=>rfl) ?_;rintro⟨i,hi⟩;dsimp only[aE,aF]at hi|-;apply vn aj;refine vs _ rfl ?_ ?_<;>intro h2
 ·have hx:=um (m:=m) (i:=i) (long:=long) (by omega) hm;have hp:=Yp (i:=i);have hstep:=Wa (m:=m) (long:=long) (i:=i);have hlt:=um (m:=m) (i:=i+1) (long:=long) (by omega) hm;have hp2:=Yp (i:=i+1);generalize m/32768^(long-i)=x at *;generalize hy:m/32768^(long-(i+1))=y at *;apply vn pN;apply vn (aH (by omega) (by omega));dsimp only[aE,aF];apply vn (oN (c:=((long-1-i:Nat):Int)) (by rw[show((long:Int)-1-(i:Int))=((long-1-i:Nat):Int) by omega];exact gK)) rfl;apply aA (Be m (long-1-i) hs);generalize m/32768^(long-1-i)%32768=d at *;dsimp only[aE,aF];apply vn (fS (c:=(y:Int)) (by rw[show(x:Int)*32768+(d:Int)=(y:Int) by omega];exact gK)) rfl;apply vn (aB (by omega) (by omega));dsimp only[aE,aF];exact ab rfl ⟨⟨i+1,by omega⟩,⟨aN.Sub.of_eq (congrArg (fun q:Nat=>aN.one (aC.int .i64 (q:Int))) hy.symm),aN.Sub.same,trivial⟩,by show k-(i+1)<k-i;omega⟩
 rw[show k=i by omega];exact aL
theorem XK{d:Nat}(h:0<d):zT (d:Int)=.agg [.int .i64 1,bT d]:=by
 rw[zT,zC,gD (by omega)];rfl
theorem aH8{r d m:Nat}:r/32768^m/(d/32768^m+1)*d<=r:=by
 have hp:0<32768^m:=ej (by omega)
 have h1:d<=(d/32768^m+1)*32768^m:=by
  rw[cD];exact mE (ad9 d hp)
 calc r/32768^m/(d/32768^m+1)*d<=r/32768^m/(d/32768^m+1)*((d/32768^m+1)*32768^m):=dr _ h1
  _=r/32768^m/(d/32768^m+1)*(d/32768^m+1)*32768^m:=(eW _ _ _).symm
  _<=r/32768^m*32768^m:=cN _ (qQ _ _)
  _<=r:=qQ _ _
theorem aM4(r d:Nat)(hd:0<d)(hr:r<d*32768)(hs:(bd d).length<34359738368:=by omega):aU prog 241 [(.one (bT r):aN),(.one (bT d):aN)] (.ret [.one (.int .i64 ((r/d:Nat):Int)),.one (bT (r%d))]):=by
 refine dL func241 av8 ?_;have hdl:=Cd d
 have hrl:r<32768^((bd d).length+1):=by
  rw[bh];exact NY hr (tB hdl (by omega))
 have hrs:=jq hrl;have hle:∀q,q<=r->(bd q).length<=(bd d).length+1:=fun q hq=>aq (fj hq) hrs
 have hdn:0<(bd d).length:=by
  rcases ia (bd d).length with h | h
  ·have:=CU.1 (eV h);omega
  ·exact h
 have hqB:r/d<32768:=by rw[jf hd,cD];exact hr
 have hkd:∀k,k*d<=r->k<32768:=fun k hk=>by
  have:k<=r/d:=by rw[wc hd];exact hk
  omega
 have hfin:∀r' k,r'+k*d=r->r'<d->k=r/d/\r'=r%d:=fun r' k h1 h2=>xR (by rw[<-h1,cD]) h2
 have hah:∀r':Nat,(0<=fM (r':Int) (d:Int))↔d<=r':=fun r'=>by
  have:=rM (a:=(r':Int)) (b:=(d:Int));omega
 apply vn (aP fT (aI _));apply vn (aP fT (aI _));apply vn iI;refine vs _ rfl ?_ ?_<;>intro h3
 ·apply vn jO;dsimp only[aE,aF];refine vs _ rfl ?_ ?_<;>intro h5
  ·apply vn (aB (by omega) (by omega));apply vn (aB (by omega) (by omega));apply aA (vS r ((bd d).length+1) ((bd d).length+1) hrl (aa _));rw[fU,pW,nw];apply aA (vS d (bd d).length (bd d).length hdl (aa _));rw[fU,pW,nw];dsimp only[aE,aF];obtain⟨k,hk⟩:∃k,r/d=k:=⟨_,rfl⟩
   have hk1:k*d<=r:=by rw[<-hk];exact qQ _ _
   have hk2:=hkd k hk1;apply vn (pK (c:=(k:Int)) (by omega) (by rw[oa (oO _),<-zE,hk];exact gK)) rfl;apply vn fB;refine vs _ rfl ?_ ?_<;>intro h12
   ·have hm:=kG (k:Int) (d:Int) (by
     rw[cU,cU];have:(bd k).length<=1:=jq (by omega);omega)
    rw[XK hd,show(k:Int)*(d:Int)=((k*d:Nat):Int) by rw[iG]]at hm;apply aA (ns k);apply aA hm;dsimp only[aE,aF];apply aA (lE r (k*d) (r-k*d) (-1) (.inr rfl) (by have:=hle _ hk1;omega)) rfl;dsimp only[aE,aF];refine bE {g:Nat×Nat // g.1+g.2*d=r} (fun g=>[.one (bT g.1.1),.one (.int .i64 g.1.2)]) (fun g=>g.1.1) ⟨(r-k*d,k),by show r-k*d+k*d=r;omega⟩ aZ.rfl (fun _=>rfl) ?_;rintro⟨⟨r',k'⟩,hg⟩;dsimp only[aE,aF]at hg|-;have hk3:=hkd k' (by omega);have hr3:=hle r' (by omega);apply aA (pF r' d);apply vn iI;refine vs _ rfl ?_ ?_<;>intro h19
    ·have hdr:d<=r':=(hah r').1 (by assumption);apply aA (lE r' d (r'-d) (-1) (.inr rfl));apply vn (aB (by omega) (by omega));dsimp only[aE,aF];exact ab rfl ⟨⟨(r'-d,k'+1),by show r'-d+(k'+1)*d=r;rw[bX];omega⟩,aZ.rfl,by show r'-d<r';omega⟩
    have hdr:r'<d:=by
     rcases fY r' d with h | h
     ·exact h
     ·exact absurd ((hah r').2 h) (by assumption)
    obtain⟨e1,e2⟩:=hfin r' k' hg hdr;rw[<-e1,<-e2];exact aL
   refine bE {g:Nat×Nat // g.1+g.2*d=r} (fun g=>[.one (bT g.1.1),.one (.int .i64 g.1.2)]) (fun g=>g.1.1) ⟨(r,0),by omega⟩ ⟨aN.Sub.same,aN.Sub.of_eq (congrArg (fun q:Nat=>aN.one (aC.int .i64 (q:Int))) (by show k=0;omega)),trivial⟩ (fun _=>rfl) ?_;rintro⟨⟨r',k'⟩,hg⟩;dsimp only[aE,aF]at hg|-;have hk3:=hkd k' (by omega);have hr3:=hle r' (by omega);apply aA (pF r' d);apply vn iI;refine vs _ rfl ?_ ?_<;>intro h27
   ·have hdr:d<=r':=(hah r').1 (by assumption);apply aA (lE r' d (r'-d) (-1) (.inr rfl));apply vn (aB (by omega) (by omega));dsimp only[aE,aF];exact ab rfl ⟨⟨(r'-d,k'+1),by show r'-d+(k'+1)*d=r;rw[bX];omega⟩,aZ.rfl,by show r'-d<r';omega⟩
   have hdr:r'<d:=by
    rcases fY r' d with h | h
    ·exact h
    ·exact absurd ((hah r').2 h) (by assumption)
   obtain⟨e1,e2⟩:=hfin r' k' hg hdr;rw[<-e1,<-e2];exact aL
  apply vn (aB (by omega) (by omega));apply aA (vS r ((bd d).length+1) 4 hrl);apply aA (vS d (bd d).length 3 hdl);rw[show(bd d).length+1-4=(bd d).length-3 by omega];have hd3:=um (m:=d) (long:=(bd d).length) (i:=3) (by omega) hdl;have hr4:=um (m:=r) (long:=(bd d).length+1) (i:=4) (by omega) hrl;rw[show(bd d).length+1-4=(bd d).length-3 by omega]at hr4;have hp3:=Yp (i:=3);have hp4:=Yp (i:=4);have hk1:=aH8 (r:=r) (d:=d) (m:=(bd d).length-3);generalize r/32768^((bd d).length-3)=rt at *;generalize d/32768^((bd d).length-3)=dt at *;obtain⟨k,hk⟩:∃k,rt/(dt+1)=k:=⟨_,rfl⟩
  rw[hk]at hk1;have hk2:=hkd k hk1;apply vn (aB (by omega) (by omega));dsimp only[aE,aF];apply vn (pK (c:=(k:Int)) (by omega) (by rw[oa (oO _),show((dt:Int)+1)=((dt+1:Nat):Int) by omega,<-zE,hk];exact gK)) rfl;apply vn fB;refine vs _ rfl ?_ ?_<;>intro h38
  ·have hm:=kG (k:Int) (d:Int) (by
    rw[cU,cU];have:(bd k).length<=1:=jq (by omega);omega)
   rw[XK hd,show(k:Int)*(d:Int)=((k*d:Nat):Int) by rw[iG]]at hm;apply aA (ns k);apply aA hm;dsimp only[aE,aF];apply aA (lE r (k*d) (r-k*d) (-1) (.inr rfl) (by have:=hle _ hk1;omega)) rfl;dsimp only[aE,aF];refine bE {g:Nat×Nat // g.1+g.2*d=r} (fun g=>[.one (bT g.1.1),.one (.int .i64 g.1.2)]) (fun g=>g.1.1) ⟨(r-k*d,k),by show r-k*d+k*d=r;omega⟩ aZ.rfl (fun _=>rfl) ?_;rintro⟨⟨r',k'⟩,hg⟩;dsimp only[aE,aF]at hg|-;have hk3:=hkd k' (by omega);have hr3:=hle r' (by omega);apply aA (pF r' d);apply vn iI;refine vs _ rfl ?_ ?_<;>intro h45
   ·have hdr:d<=r':=(hah r').1 (by assumption);apply aA (lE r' d (r'-d) (-1) (.inr rfl));apply vn (aB (by omega) (by omega));dsimp only[aE,aF];exact ab rfl ⟨⟨(r'-d,k'+1),by show r'-d+(k'+1)*d=r;rw[bX];omega⟩,aZ.rfl,by show r'-d<r';omega⟩
   have hdr:r'<d:=by
    rcases fY r' d with h | h
    ·exact h
    ·exact absurd ((hah r').2 h) (by assumption)
   obtain⟨e1,e2⟩:=hfin r' k' hg hdr;rw[<-e1,<-e2];exact aL
  refine bE {g:Nat×Nat // g.1+g.2*d=r} (fun g=>[.one (bT g.1.1),.one (.int .i64 g.1.2)]) (fun g=>g.1.1) ⟨(r,0),by omega⟩ ⟨aN.Sub.same,aN.Sub.of_eq (congrArg (fun q:Nat=>aN.one (aC.int .i64 (q:Int))) (by show k=0;omega)),trivial⟩ (fun _=>rfl) ?_;rintro⟨⟨r',k'⟩,hg⟩;dsimp only[aE,aF]at hg|-;have hk3:=hkd k' (by omega);have hr3:=hle r' (by omega);apply aA (pF r' d);apply vn iI;refine vs _ rfl ?_ ?_<;>intro h53
  ·have hdr:d<=r':=(hah r').1 (by assumption);apply aA (lE r' d (r'-d) (-1) (.inr rfl));apply vn (aB (by omega) (by omega));dsimp only[aE,aF];exact ab rfl ⟨⟨(r'-d,k'+1),by show r'-d+(k'+1)*d=r;rw[bX];omega⟩,aZ.rfl,by show r'-d<r';omega⟩
  have hdr:r'<d:=by
   rcases fY r' d with h | h
   ·exact h
   ·exact absurd ((hah r').2 h) (by assumption)
  obtain⟨e1,e2⟩:=hfin r' k' hg hdr;rw[<-e1,<-e2];exact aL
 apply vn fB;refine vs _ rfl ?_ ?_<;>intro h59
 ·exfalso;omega
 refine bE {g:Nat×Nat // g.1+g.2*d=r} (fun g=>[.one (bT g.1.1),.one (.int .i64 g.1.2)]) (fun g=>g.1.1) ⟨(r,0),by omega⟩ aZ.rfl (fun _=>rfl) ?_;rintro⟨⟨r',k'⟩,hg⟩;dsimp only[aE,aF]at hg|-;have hk3:=hkd k' (by omega);have hr3:=hle r' (by omega);apply aA (pF r' d);apply vn iI;refine vs _ rfl ?_ ?_<;>intro h74
 ·have hdr:d<=r':=(hah r').1 (by assumption);apply aA (lE r' d (r'-d) (-1) (.inr rfl));apply vn (aB (by omega) (by omega));dsimp only[aE,aF];exact ab rfl ⟨⟨(r'-d,k'+1),by show r'-d+(k'+1)*d=r;rw[bX];omega⟩,aZ.rfl,by show r'-d<r';omega⟩
 have hdr:r'<d:=by
  rcases fY r' d with h | h
  ·exact h
  ·exact absurd ((hah r').2 h) (by assumption)
 obtain⟨e1,e2⟩:=hfin r' k' hg hdr;rw[<-e1,<-e2];exact aL
theorem kN(a d:Nat)(hd:0<d:=by omega)(hs:(bd a).length+(bd d).length<34359738368:=by omega):aU prog 219 [(.one (bT a):aN),(.one (bT d):aN)] (.ret [.one (bT (a/d)),.one (bT (a%d))]):=by
 refine dL func219 bf7 ?_
 have hdn:0<(bd d).length:=by
  rcases ia (bd d).length with h | h
  ·have:=CU.1 (eV h);omega
  ·exact h
 apply vn (aP fT (aI _));apply vn (aP fT (aI _));apply vn aj;refine vs _ rfl ?_ ?_<;>intro h3
 ·have had:=tv (a:=a) (b:=d);refine fK ⟨aO4 (fA had),?_,trivial⟩;rw[ew had];exact aC.Sub.same
 apply vn (aP fT (aI _));dsimp only[aE,aF];apply vn (aH (by omega) (by omega));apply vn (bg4 (m:=(bd d).length-1));refine uH (ts:=[]) (us:=rB ((bd a).take ((bd d).length-1))) (vs:=rB ((bd a).take ((bd d).length-1))) rfl (.inr aC.Sub.same) rfl (by simp;omega) (by simp[maxLen];omega) ?_;apply aA (rf ((bd a).take ((bd d).length-1)) ((jD a).take _) (by rw[bK];omega)) rfl;dsimp only[aE,aF];apply vn (aP fT (aI _));apply vn (aH (by omega) (by omega));dsimp only[aE,aF]
 refine bE {g:Nat×Nat×List Nat // (bd d).length-1<=g.1/\g.1<=(bd a).length/\bv ((bd a).take g.1)=g.2.1+d*bv g.2.2/\g.2.1<d/\DB 32768 g.2.2/\g.2.2.length<=g.1} (fun g=>[.one (bT g.1.2.1),.one (.int .i64 g.1.1),.rows (rB g.1.2.2)]) (fun g=>(bd a).length-g.1.1) ⟨((bd d).length-1,bv ((bd a).take ((bd d).length-1)),[]),aa _,by show(bd d).length-1<=_;omega,by simp[bv,val],by
  have h1:=VR ((jD a).take ((bd d).length-1));rw[bK,dQ (by omega)]at h1;exact cj h1 (cf3 (by omega)),au4,cz _⟩ ⟨aN.Sub.same,aN.Sub.of_eq (congrArg (fun q=>aN.one (aC.int .i64 q)) (by show((bd d).length:Int)-1=(((bd d).length-1:Nat):Int);omega)),aN.Sub.same,trivial⟩ (fun _=>rfl) ?_
 rintro⟨⟨i,R,qs⟩,hi1,hi2,hv,hR,hq,hql⟩;dsimp only[aE,aF]at hi1 hi2 hv hR hq hql|-;have hRl:=fj (mE hR);apply vn (aP fT (aI _));apply vn aj;refine vs _ rfl ?_ ?_<;>intro h15
 ·obtain⟨x,hx⟩:∃x,(bd a)[i]?=some x:=⟨_,bQ (by omega)⟩
  have hxB:=(jD a).get hx;refine uH (ts:=[]) (us:=rB (bd R)) (vs:=rB (bd R)) rfl (.inr aC.Sub.same) rfl (by simp;omega) (by simp[maxLen];omega) ?_;apply vn (aJ fT (by omega) (by omega) hx);dsimp only[aE,aF];apply vn (bg ag3);apply eL (us:=rB [x]);refine uH (ts:=rB (bd R)) (us:=rB [x]) (vs:=rB (bd R++[x])) rfl rfl (by rw[rB,rB,rB,<-bt]) (by simp;omega) (by simp[maxLen];omega) ?_;dsimp only[aE,aF];have hdb:DB 32768 (bd R++[x]):=(jD R).append (fun y hy=>by simp at hy;omega);apply aA (rf (bd R++[x]) hdb (by simp;omega)) rfl;rw[Am,gP]
  apply aA (aM4 (R*32768+x) d hd (by
   have:(R+1)*32768<=d*32768:=cN _ hR;omega)) rfl
  have hmd:=lS (R*32768+x) d
  have hqB:(R*32768+x)/d<32768:=by
   rw[jf hd,cD];have:(R+1)*32768<=d*32768:=cN _ hR;omega
  have hRm:=dU (R*32768+x) hd;generalize (R*32768+x)/d=k at *;generalize (R*32768+x)%d=R' at *;apply eL (us:=rB [k]);refine uH (ts:=rB qs) (us:=rB [k]) (vs:=rB (qs++[k])) rfl rfl (by rw[rB,rB,rB,<-bt]) (by simp;omega) (by simp[maxLen];omega) ?_;dsimp only[aE,aF];apply vn (aB (by omega) (by omega));dsimp only[aE,aF]
  exact ab rfl ⟨⟨(i+1,R',qs++[k]),by show _<=i+1;omega,by show i+1<=_;omega,by
   show bv ((bd a).take (i+1))=R'+d*bv (qs++[k]);rw[take_succ hx,Am,Am,hv,ep,bX,<-eW];omega,hRm,hq.append (fun y hy=>by simp at hy;omega),by show(qs++[k]).length<=i+1;simp;omega⟩,aZ.rfl,by show(bd a).length-(i+1)<(bd a).length-i;omega⟩
 have hie:i=(bd a).length:=by omega
 subst hie;rw[gw,gP]at hv;obtain⟨e1,e2⟩:=xR hv hR;apply aA (rf qs hq);dsimp only[aE,aF];rw[<-e1,<-e2];exact aL
theorem BD(m:Nat)(hm:(bd m).length<=4:=by omega):aU prog 225 [(.one (bT m):aN)] (.ret [.one (.int .i64 m)]):=by
 refine dL func225 ap6 ?_;refine bE {i:Nat // i<=(bd m).length} (fun g=>[.one (.int .i64 (bv ((bd m).take g.1):Nat)),.one (.int .i64 g.1)]) (fun g=>(bd m).length-g.1) ⟨0,cz _⟩ aZ.rfl (fun _=>rfl) ?_;rintro⟨i,hi⟩;dsimp only[aE,aF]at hi|-;apply vn (aP fT (aI _));apply vn aj;refine vs _ rfl ?_ ?_<;>intro h3
 ·obtain⟨x,hx⟩:∃x,(bd m)[i]?=some x:=⟨_,bQ (by omega)⟩
  have hxB:=(jD m).get hx;have hb:=VR ((jD m).take i);rw[bK,dQ hi]at hb;have hp:=Yp (i:=i);have hb2:=VR ((jD m).take (i+1));rw[bK,dQ (by omega)]at hb2;have hp2:=Yp (i:=i+1);have hsn:bv ((bd m).take (i+1))=bv ((bd m).take i)*32768+x:=by rw[take_succ hx,Am]
  generalize bv ((bd m).take i)=y at *;apply vn pN;apply vn (aJ fT (by omega) (by omega) hx);dsimp only[aE,aF];apply vn (bg ag3);apply vn (aB (by omega) (by omega));apply vn (aB (by omega) (by omega));dsimp only[aE,aF];exact ab rfl ⟨⟨i+1,by omega⟩,⟨aN.Sub.of_eq (congrArg (fun q:Int=>aN.one (aC.int .i64 q)) (by show(y:Int)*32768+x=((bv ((bd m).take (i+1)):Nat):Int);omega)),aN.Sub.same,trivial⟩,by show(bd m).length-(i+1)<(bd m).length-i;omega⟩
 rw[show i=(bd m).length by omega,gw,gP];exact aL
theorem YO(x y:Int)(hs:(bd x.natAbs).length<17179869184:=by omega)(qj:(bd y.natAbs).length<17179869184:=by omega):aU prog 218 [(zT x:aN),(zT y:aN)] (.ret [zT ((Nat.gcd x.natAbs y.natAbs:Nat):Int)]):=by
 refine dL func218 aV8 ?_;refine bE {p:Nat×Nat // Nat.gcd p.1 p.2=Nat.gcd x.natAbs y.natAbs/\(bd p.1).length<17179869184/\(bd p.2).length<17179869184} (fun p=>[.one (bT p.1.1),.one (bT p.1.2),.one (.int .i64 0),.one (.exact (.slice none 0 0))]) (fun p=>p.1.2) ⟨(x.natAbs,y.natAbs),rfl,hs,qj⟩ aZ.rfl (fun _=>rfl) ?_;rintro⟨⟨a,b⟩,hg,ha,hb⟩;dsimp only[aE,aF]at hg ha hb|-;have hbz:(bd b).length=0↔b=0:=by rw[zk,CU]
 have hml:=fj (sn a b);apply vn (aP fT (aI _));apply vn fB;refine vs _ rfl ?_ ?_<;>intro h3
 ·have hb0:0<b:=by
   rcases ia b with h | h
   ·have:=hbz.2 h;omega
   ·exact h
  apply vn (aP fT (aI _));apply vn jO;dsimp only[aE,aF];refine vs _ rfl ?_ ?_<;>intro h6
  ·apply vn (aP fT (aI _));apply vn jO;refine vs _ rfl ?_ ?_<;>intro h9
   ·have h4:∀n,(bd n).length<=4->n<1152921504606846976:=fun n hn=>cj (Cd n) (Yp hn);have ha4:=h4 a (by omega);have hb4:=h4 b (by omega);apply aA (BD a);apply aA (BD b);dsimp only[aE,aF];refine bE {p:Nat×Nat // Nat.gcd p.1 p.2=Nat.gcd x.natAbs y.natAbs/\p.1<1152921504606846976/\p.2<1152921504606846976} (fun p=>[.one (.int .i64 p.1.1),.one (.int .i64 p.1.2)]) (fun p=>p.1.2) ⟨(a,b),hg,ha4,hb4⟩ aZ.rfl (fun _=>rfl) ?_;rintro⟨⟨p,q⟩,hpq,hp,hq⟩;dsimp only[aE,aF]at hpq hp hq|-;apply vn fC;refine vs _ rfl ?_ ?_<;>intro h14
    ·apply vn (CK (c:=((p%q:Nat):Int)) (by omega) (by rw[qM (oO _),<-QN]));exact ab rfl ⟨⟨(q,p%q),by rw[<-hpq,jY p q,sk q p,jY],hq,eh (sn _ _) hp⟩,aZ.rfl,dU _ (by omega)⟩
    have hq0:q=0:=by omega
    subst hq0;rw[zH]at hpq;apply aA (ns p);dsimp only[aE,aF];rw[<-hpq];exact aL
   apply aA (kN a b hb0);dsimp only[aE,aF];exact ab rfl ⟨⟨(b,a%b),by rw[<-hg,jY a b,sk b a,jY],hb,by show(bd (a%b)).length<_;omega⟩,aZ.rfl,dU _ hb0⟩
  apply aA (kN a b hb0);dsimp only[aE,aF];exact ab rfl ⟨⟨(b,a%b),by rw[<-hg,jY a b,sk b a,jY],hb,by show(bd (a%b)).length<_;omega⟩,aZ.rfl,dU _ hb0⟩
 have hb0:b=0:=hbz.1 (by omega);subst hb0;rw[zH]at hg;apply aA (gb 1 (a:Int) (bd a) (jD _) (by rw[gP];rfl) (fun hne=>by rw[gP]at hne;exact gD (by omega))) rfl;dsimp only[aE,aF];rw[<-hg];exact aL
def ch9:Tr:=eB 0 2 0 3 5 (aR 1 0 (pI 114 1 2 2 49 (lx 2 0 2 1)) (lx 0 2 0 3))
theorem bK5:aV prog f120 ck [.v (some 4)]=ch9:=by kernel_rfl
def bL6:Tr:=eB 9 0 1 3 28 (aR 10 0 (pA 3 3 1 4 0 4 1) (rj 219 3 1 5 36 38 247 (rj 219 4 1 5 44 46 247 (VD 189 3 11 2 51 52 3 47 49 (Tx 13 54 (pA 15 15 1 16 0 16 1))))))
def ca6:Tr:=eB 6 0 1 3 22 (aR 7 0 (re 5 1 0 47 26 (dh 8 3 27 bL6)) (rj 219 3 1 5 36 38 247 (rj 219 4 1 5 44 46 247 (VD 189 3 8 2 51 52 3 47 49 (Tx 10 54 (pA 12 12 1 13 0 13 1))))))
def bF7:Tr:=eB 7 0 1 3 28 (aR 8 0 (pA 0 0 1 1 0 1 1) (rj 219 0 1 3 36 38 247 (rj 219 1 1 3 44 46 247 (VD 189 0 9 2 51 52 3 47 49 (Tx 11 54 (pA 13 13 1 14 0 14 1))))))
def bo8:Tr:=eB 4 0 1 3 22 (aR 5 0 (re 3 1 0 47 26 (dh 6 3 27 bF7)) (rj 219 0 1 3 36 38 247 (rj 219 1 1 3 44 46 247 (VD 189 0 6 2 51 52 3 47 49 (Tx 8 54 (pA 10 10 1 11 0 11 1))))))
def bY2:Tr:=iC 1 0 0 3 11 (aR 2 0 (Lg 217 0 2 13 49 49 (fO 217 [(G2 1)] [(some 2)] [15] [49] 49 true (qv 218 3 4 2 17 18 49 (al 5 1 21 47 ca6)))) (qv 218 0 1 2 17 18 49 (al 3 1 21 47 bo8)))
theorem ar1:aV prog f173 ck [.v (some 2),.v (some 2)]=bY2:=by kernel_rfl
def bk4:Tr:=pA 1 1 1 2 0 2 1
def ce1:Tr:=nL 114 0 2 3 2 49 (pI 114 1 2 2 49 bk4)
theorem bw6:aV prog f39 ck [.v none]=ce1:=by kernel_rfl
def bY9:Tr:=Lt 114 0 2 5 49 (nL 114 1 2 7 2 49 (qv 173 2 3 4 6 8 51 (pA 4 4 1 4 2 4 3)))
theorem ck2:aV prog f75 ck [.v none,.v none]=bY9:=by kernel_rfl
def bW3:Tr:=vP 119 1 4 11 13 49 (vP 187 3 5 9 14 49 (pT 120 0 2 16 49 (pT 120 1 2 18 49 (qv 119 7 8 2 17 19 49 (qv 173 6 9 4 15 20 51 (pA 10 10 1 10 2 10 3))))))
def bQ5:Tr:=pT 120 1 2 7 49 (vP 119 0 2 6 8 49 (pT 120 0 2 12 49 bW3))
theorem bN4:aV prog f99 ck [.v (some 4),.v (some 4)]=bQ5:=by kernel_rfl
def ca7:Tr:=fO 185 [(G4 1)] [(some 4)] [6] [51] 51 true (pD 99 0 0 1 0 2 0 3 2 0 2 1 2 2 2 3 5 7 (pA 3 3 1 3 2 3 3))
theorem bN2:aV prog f96 ck [.v (some 4),.v (some 4)]=ca7:=by kernel_rfl
def bn0:Tr:=pA 6 6 1 6 2 6 3
def ck7:Tr:=vP 119 0 1 6 8 49 (pT 120 0 2 10 49 (pT 120 1 2 12 49 (qv 119 3 4 2 11 13 49 (qv 173 2 5 4 9 14 51 bn0))))
theorem bC4:aV prog f77 ck [.v (some 4),.v (some 4)]=ck7:=by kernel_rfl
def bS2:Tr:=pT 120 1 2 7 49 (vP 119 0 2 6 8 49 (pT 120 0 2 10 49 (qv 119 4 1 2 11 13 49 (qv 173 3 5 4 9 14 51 bn0))))
theorem br1:aV prog f151 ck [.v (some 4),.v (some 4)]=bS2:=by kernel_rfl
def cg6:Tr:=Lg 217 0 2 4 49 49 (fO 120 [(G4 0)] [(some 2)] [6] [51] 49 true bk4)
theorem bJ3:aV prog f185 ck [.v (some 4)]=cg6:=by kernel_rfl
def bU8:Tr:=pT 120 1 2 7 49 (vP 119 0 2 6 8 49 (pT 120 0 2 12 49 (qv 119 1 4 2 11 13 49 (fO 118 [(G2 3),(G2 5)] [none] [9,14] [49,49] 3 true (cH 6)))))
theorem bN9:aV prog f41 ck [.v (some 4),.v (some 4)]=bU8:=by kernel_rfl
def bY4:Tr:=cH 0
theorem aU3:aV prog f56 ck [.v (some 4)]=bY4:=by kernel_rfl
structure RQ where
 q:Rat
 z:Bool
 h:z=true->q=0
def RQ.of(q:Rat):RQ:=⟨q,false,fun h=>by cases h⟩
def RQ.nil:RQ:=⟨0,true,fun _=>rfl⟩
abbrev rC(a:RQ):List aC:=[.int .i64 a.q.num.sign,bT a.q.num.natAbs,.int .i64 (if a.z then 0 else 1),bT (if a.z then 0 else a.q.den)]
abbrev qw(a:RQ):aN:=.agg (rC a)
theorem RQ.Pv(q:Rat):(RQ.of q).q=q:=rfl
theorem bz9(q:Rat):zT (q.den:Int)=.agg [.int .i64 1,bT q.den]:=XK q.den_pos
theorem cc0:ak aC.Sub [.int .i64 0,.exact (.slice none 0 0),.int .i64 0,.exact (.slice none 0 0)] (rC RQ.nil):=⟨aC.Sub.same,aO4 rfl,aC.Sub.same,aO4 rfl,trivial⟩
theorem lD(a:RQ):aU prog 120 [(qw a:aN)] (.ret [zT (a.q.den:Int)]):=by
 refine dL func120 bK5 ?_;apply vn bj;refine vs _ rfl ?_ ?_<;>intro h1
 ·have ha:a.z=true:=by cases h:a.z<;>simp_all
  have hq:=a.h ha;apply aA (ns 1);dsimp only[aE,aF];rw[hq];exact aL
 have ha:a.z=false:=by cases h:a.z<;>simp_all
 refine aL ?_;rw[bz9];show[aN.agg [.int .i64 (if a.z then 0 else 1),bT (if a.z then 0 else a.q.den)]]=_;rw[ha];rfl
theorem gd{n B:Nat}(h:n<2^B):(bd n).length<=B:=jq (cj h (qO (by omega) B))
def tS(n d:Int):Rat:=mkRat (if d<0 then -n else n) d.natAbs
theorem bf5{z:Int}{d:Nat}(hd:d≠0:=by omega):(mkRat z d).num=z/((z.natAbs.gcd d:Nat):Int)/\(mkRat z d).den=d/z.natAbs.gcd d/\(mkRat z d).num.natAbs=z.natAbs/z.natAbs.gcd d/\(mkRat z d).num.sign=z.sign:=by
 obtain⟨h1,h2⟩:=aB8 (z:=z) hd;have hg:0<z.natAbs.gcd d:=uZ _ (by omega);have hgz:z≠0->z.natAbs.gcd d<=z.natAbs:=fun h=>Nat.gcd_le_left _ (by omega)
 have h3:(mkRat z d).num.natAbs=z.natAbs/z.natAbs.gcd d:=by
  rw[h1];generalize z.natAbs/z.natAbs.gcd d=t;split<;>omega
 refine⟨?_,h2,h3,?_⟩
 ·rw[<-zz hd,zm hd]
 ·rcases cp z with⟨h,e⟩ | ⟨h,e⟩ | ⟨h,e⟩
  ·rw[e,h1,bV h,aK rfl];have:=mQ (hgz (by omega)) hg;exact ny (by omega)
  ·rw[e];subst h;rw[Rat.zero_mkRat];rfl
  ·rw[e,h1,cE (by omega),aG (by simp)];have:=mQ (hgz (by omega)) hg;exact gD (by omega)
theorem uh{g:Nat}(h:(bd g).length=1){x:Nat}(hx:(bd g)[0]?=some x):g=x:=by
 match hb:bd g,h with
 | [y],_=>
   rw[hb]at hx;simp only[lp,aW]at hx;subst hx;rw[<-gP g,hb,zJ];simp[bv,val]
theorem yK{q:Rat}:qw (RQ.of q)=.agg [.int .i64 q.num.sign,bT q.num.natAbs,.int .i64 1,bT q.den]:=rfl
theorem wP(n d:Int)(hd:d≠0)(qj:(bd d.natAbs).length<8589934592:=by omega)(hs:(bd n.natAbs).length<8589934592:=by omega):aU prog 173 [(zT n:aN),(zT d:aN)] (.ret [qw (.of (tS n d))]):=by
 refine dL func173 ar1 ?_;have hsd:=cp d
 have key:∀m:Int,m.natAbs=n.natAbs->tS n d=mkRat m d.natAbs->(tS n d).den=d.natAbs/Nat.gcd n.natAbs d.natAbs/\(tS n d).num.natAbs=n.natAbs/Nat.gcd n.natAbs d.natAbs/\(tS n d).num.sign=m.sign:=fun m hm e=>by
  have:=bf5 (z:=m) (d:=d.natAbs);rw[hm]at this;rw[e];exact⟨this.2.1,this.2.2.1,this.2.2.2⟩
 have hg:0<Nat.gcd n.natAbs d.natAbs:=uZ _ (by omega);have hgd:Nat.gcd n.natAbs d.natAbs<=d.natAbs:=Nat.gcd_le_right _ (by omega);have hgl:=fj hgd;have hdg:=mQ hgd hg;have hnl:=fj (pZ n.natAbs (Nat.gcd n.natAbs d.natAbs));have hdl:=fj (pZ d.natAbs (Nat.gcd n.natAbs d.natAbs));apply vn aj;refine vs _ rfl ?_ ?_<;>intro h1
 ·have hd0:d<0:=by rcases hsd with⟨h,e⟩ | ⟨h,e⟩ | ⟨h,e⟩<;>omega
  have hR:tS n d=mkRat (-n) d.natAbs:=by rw[tS,aK hd0]
  obtain⟨k1,k2,k3⟩:=key (-n) (gi n) hR;generalize tS n d=q at *;apply aA (AB n);apply aA (AB d);dsimp only[aE,aF];have hc:=YO (-n) (-d) (by rw[gi];omega) (by rw[gi];omega);rw[gi,gi]at hc;apply aA hc;generalize hG:Nat.gcd n.natAbs d.natAbs=g at *;apply vn (aP fT (aI _));apply vn bj;refine vs _ rfl ?_ ?_<;>intro h7
  ·obtain⟨x,hx⟩:∃x,(bd g)[0]?=some x:=⟨_,bQ (by rw[cU]at h7;omega)⟩
   apply vn (aJ fT (by omega) (by omega) (show(bd ((g:Int)).natAbs)[0]?=some x from hx));dsimp only[aE,aF];apply vn (bg ag3);apply vn bj;refine vs _ rfl ?_ ?_<;>intro h11
   ·have hg1:g=1:=by
     have:=uh (g:=g) (by rw[cU]at h7;omega) hx;omega
    rw[hg1,nw]at k1 k2;refine aL ?_;rw[yK,k3,k2,k1];show[aN.agg [.int .i64 (-n).sign,bT (-n).natAbs,.int .i64 (-d).sign,bT (-d).natAbs]]=_;rw[gi,gi,gD (show 0 < -d by omega)]
   have ho1:=kN n.natAbs g hg;have ho2:=kN d.natAbs g hg;rw[<-k2]at ho1 hnl;rw[<-k1]at ho2 hdl hdg;have hn':(-n).natAbs=n.natAbs:=gi n;have hd':(-d).natAbs=d.natAbs:=gi d;rw[<-hn']at ho1;rw[<-hd']at ho2;apply aA ho1;apply aA ho2;dsimp only[aE,aF];apply aA (gb (-n).sign q.num _ (jD _) (by rw[gP]) (fun _=>k3));apply aA (gb 1 (q.den:Int) _ (jD _) (by rw[gP];rfl) (fun _=>gD (by omega))) rfl;dsimp only[aE,aF];refine aL ?_;rw[yK];show[aN.agg [.int .i64 q.num.sign,bT q.num.natAbs,.int .i64 (q.den:Int).sign,bT (q.den:Int).natAbs]]=_;rw[gD (show(0:Int)<q.den by omega),cU]
  have ho1:=kN n.natAbs g hg;have ho2:=kN d.natAbs g hg;rw[<-k2]at ho1 hnl;rw[<-k1]at ho2 hdl hdg;have hn':(-n).natAbs=n.natAbs:=gi n;have hd':(-d).natAbs=d.natAbs:=gi d;rw[<-hn']at ho1;rw[<-hd']at ho2;apply aA ho1;apply aA ho2;apply aA (gb (-n).sign q.num _ (jD _) (by rw[gP]) (fun _=>k3));apply aA (gb 1 (q.den:Int) _ (jD _) (by rw[gP];rfl) (fun _=>gD (by omega))) rfl;dsimp only[aE,aF];refine aL ?_;rw[yK];show[aN.agg [.int .i64 q.num.sign,bT q.num.natAbs,.int .i64 (q.den:Int).sign,bT (q.den:Int).natAbs]]=_;rw[gD (show(0:Int)<q.den by omega),cU]
 have hd0:0<d:=by rcases hsd with⟨h,e⟩ | ⟨h,e⟩ | ⟨h,e⟩<;>omega
 have hR:tS n d=mkRat n d.natAbs:=by rw[tS,aG (by omega)]
 obtain⟨k1,k2,k3⟩:=key n rfl hR;generalize tS n d=q at *;have hc:=YO n d;apply aA hc;generalize hG:Nat.gcd n.natAbs d.natAbs=g at *;apply vn (aP fT (aI _));apply vn bj;refine vs _ rfl ?_ ?_<;>intro h26
 ·obtain⟨x,hx⟩:∃x,(bd g)[0]?=some x:=⟨_,bQ (by rw[cU]at h26;omega)⟩
  apply vn (aJ fT (by omega) (by omega) (show(bd ((g:Int)).natAbs)[0]?=some x from hx));dsimp only[aE,aF];apply vn (bg ag3);apply vn bj;refine vs _ rfl ?_ ?_<;>intro h30
  ·have hg1:g=1:=by
    have:=uh (g:=g) (by rw[cU]at h26;omega) hx;omega
   rw[hg1,nw]at k1 k2;refine aL ?_;rw[yK,k3,k2,k1];show[aN.agg [.int .i64 n.sign,bT n.natAbs,.int .i64 d.sign,bT d.natAbs]]=_;rw[gD (show 0<d by omega)]
  have ho1:=kN n.natAbs g hg;have ho2:=kN d.natAbs g hg;rw[<-k2]at ho1 hnl;rw[<-k1]at ho2 hdl hdg;apply aA ho1;apply aA ho2;dsimp only[aE,aF];apply aA (gb n.sign q.num _ (jD _) (by rw[gP]) (fun _=>k3));apply aA (gb 1 (q.den:Int) _ (jD _) (by rw[gP];rfl) (fun _=>gD (by omega))) rfl;dsimp only[aE,aF];refine aL ?_;rw[yK];show[aN.agg [.int .i64 q.num.sign,bT q.num.natAbs,.int .i64 (q.den:Int).sign,bT (q.den:Int).natAbs]]=_;rw[gD (show(0:Int)<q.den by omega),cU]
 have ho1:=kN n.natAbs g hg;have ho2:=kN d.natAbs g hg;rw[<-k2]at ho1 hnl;rw[<-k1]at ho2 hdl hdg;apply aA ho1;apply aA ho2;apply aA (gb n.sign q.num _ (jD _) (by rw[gP]) (fun _=>k3));apply aA (gb 1 (q.den:Int) _ (jD _) (by rw[gP];rfl) (fun _=>gD (by omega))) rfl;dsimp only[aE,aF];refine aL ?_;rw[yK];show[aN.agg [.int .i64 q.num.sign,bT q.num.natAbs,.int .i64 (q.den:Int).sign,bT (q.den:Int).natAbs]]=_;rw[gD (show(0:Int)<q.den by omega),cU]
theorem VL{n:Int}{d:Nat}:tS n (d:Int)=mkRat n d:=by
 rw[tS,aG (by omega),cU]
theorem UQ{a b:Rat}(hb:b≠0):tS (a.num*(b.den:Int)) ((a.den:Int)*b.num)=a/b:=by
 have hn:b.num≠0:=fun e=>hb (lL.1 e);have ha:=a.den_pos;rw[<-aC6 hb,tS,dn,cU];by_cases h:b.num<0
 ·rw[aK (Int.mul_neg_of_pos_of_neg (by omega) h),bV h,aK rfl,Int.mul_neg]
 ·rw[aG (by have:=Int.mul_nonneg (show(0:Int)<=a.den by omega) (show 0<=b.num by omega);omega),cE h,aG (by simp)]
theorem bg0{n d:Int}(hd:d≠0):tS n d=(n:Rat)/(d:Rat):=by
 have h:=UQ (a:=(n:Rat)) (b:=(d:Rat)) (by rw[Ne,<-lL,sU];exact hd);rw[sU,sU,zp,zp]at h;rw[<-h];congr 1<;>omega
theorem Fit.bd{B:Nat}{q:Rat}(h:Fit B q):(bd q.num.natAbs).length<=B/\(bd q.den).length<=B:=⟨gd h.1,gd h.2⟩
theorem jd(n:Int)(h1:-9223372036854775808<=n:=by omega)(h2:n<9223372036854775808:=by omega):aU prog 39 [(.one (.int .i64 n):aN)] (.ret [qw (.of (n:Rat))]):=by
 refine dL func39 bw6 ?_;apply aA (ns n h1 h2);apply aA (ns 1);dsimp only[aE,aF];rw[yK,sU,zp];exact aL
theorem az2(n d:Int)(h1:-9223372036854775808<=n:=by omega)(h2:n<9223372036854775808:=by omega)(hd:d≠0:=by omega)(h3:-9223372036854775808<=d:=by omega)(h4:d<9223372036854775808:=by omega):aU prog 75 [(.one (.int .i64 n):aN),(.one (.int .i64 d):aN)] (.ret [qw (.of ((n:Rat)/(d:Rat)))]):=by
 refine dL func75 ck2 ?_;apply aA (ns n h1 h2);apply aA (ns d h3 h4);dsimp only[aE,aF];have hn:=gd (n:=n.natAbs) (B:=64) (by omega);have hdd:=gd (n:=d.natAbs) (B:=64) (by omega);apply aA (wP n d hd);rw[bg0 hd];exact aL
theorem aA2(a:RQ):aU prog 185 [(qw a:aN)] (.ret [qw (.of (-a.q))]):=by
 refine dL func185 bJ3 ?_;apply aA (AB a.q.num);apply aA (lD a);dsimp only[aE,aF];refine aL ?_;rw[yK,zj,Ax];show[aN.agg [.int .i64 (-a.q.num).sign,bT (-a.q.num).natAbs,.int .i64 (a.q.den:Int).sign,bT (a.q.den:Int).natAbs]]=_;have:=a.q.den_pos;rw[gD (show(0:Int)<a.q.den by omega),cU]
theorem Zv(a:RQ):aU prog 56 [(qw a:aN)] (.ret [.one (.int .i64 a.q.num.sign)]):=by
 refine dL func56 aU3 ?_;exact aL
theorem uJ(a b:RQ)(A B:Nat)(ha:Fit A a.q)(hb:Fit B b.q)(h:A+B<=4294967296:=by omega):aU prog 77 [(qw a:aN),(qw b:aN)] (.ret [qw (.of (a.q*b.q))]):=by
 refine dL func77 bC4 ?_;obtain⟨ha1,ha2⟩:=Fit.bd ha;obtain⟨hb1,hb2⟩:=Fit.bd hb;have hn:=gd (bL ha.1 hb.1);have hd:=gd (bL ha.2 hb.2);have hpa:=a.q.den_pos;have hpb:=b.q.den_pos;apply aA (kG a.q.num b.q.num);apply aA (lD a);apply aA (lD b);apply aA (kG (a.q.den:Int) (b.q.den:Int) (by rw[cU,cU];omega)) rfl;rw[<-iG];dsimp only[aE,aF];apply aA (wP _ ((a.q.den*b.q.den:Nat):Int) (by have:=iw hpa hpb;omega) (by rw[cU];omega) (by rw[dn];omega)) rfl;rw[VL,<-Rc];exact aL
theorem uG(a b:RQ)(A B:Nat)(ha:Fit A a.q)(hb:Fit B b.q)(h:A+B<=4294967296:=by omega):aU prog 99 [(qw a:aN),(qw b:aN)] (.ret [qw (.of (a.q+b.q))]):=by
 refine dL func99 bN4 ?_;obtain⟨ha1,ha2⟩:=Fit.bd ha;obtain⟨hb1,hb2⟩:=Fit.bd hb;have hn1:=gd (bL ha.1 hb.2);have hn2:=gd (bL hb.1 ha.2);have hd:=gd (bL ha.2 hb.2);have hpa:=a.q.den_pos;have hpb:=b.q.den_pos
 have hsum:(bd (a.q.num*(b.q.den:Int)+b.q.num*(a.q.den:Int)).natAbs).length<=A+B+1:=by
  apply gd;have h1:=bL ha.1 hb.2;have h2:=bL hb.1 ha.2;rw[gG B A]at h2;rw[bh];refine eh (yy _ _) ?_;rw[dn,dn,cU,cU];omega
 apply aA (lD b);apply aA (kG a.q.num (b.q.den:Int) (by rw[cU];omega)) rfl;apply aA (lD a);apply aA (kG b.q.num (a.q.den:Int) (by rw[cU];omega)) rfl;dsimp only[aE,aF];apply aA (YL _ _ (by rw[dn,cU];omega) (by rw[dn,cU];omega)) rfl;apply aA (lD a);apply aA (lD b);apply aA (kG (a.q.den:Int) (b.q.den:Int) (by rw[cU,cU];omega)) rfl;rw[<-iG a.q.den b.q.den];dsimp only[aE,aF];apply aA (wP _ ((a.q.den*b.q.den:Nat):Int) (by have:=iw hpa hpb;omega) (by rw[cU];omega)) rfl;rw[VL,<-Rz];exact aL
theorem aB1(a b:RQ)(A B:Nat)(ha:Fit A a.q)(hb:Fit B b.q)(h:A+B<=4294967296:=by omega):aU prog 96 [(qw a:aN),(qw b:aN)] (.ret [qw (.of (a.q-b.q))]):=by
 refine dL func96 bN2 ?_;apply aA (aA2 b);apply aA (uG a (.of (-b.q)) A B ha hb.neg h);rw[RQ.Pv,<-zB];exact aL
theorem MN(a b:RQ)(A B:Nat)(hb0:b.q≠0)(ha:Fit A a.q)(hb:Fit B b.q)(h:A+B<=4294967296:=by omega):aU prog 151 [(qw a:aN),(qw b:aN)] (.ret [qw (.of (a.q/b.q))]):=by
 refine dL func151 br1 ?_;obtain⟨ha1,ha2⟩:=Fit.bd ha;obtain⟨hb1,hb2⟩:=Fit.bd hb;have hn:=gd (bL ha.1 hb.2);have hd:=gd (bL ha.2 hb.1);have hpa:=a.q.den_pos;have hnb:b.q.num≠0:=fun e=>hb0 (lL.1 e);apply aA (lD b);apply aA (kG a.q.num (b.q.den:Int) (by rw[cU];omega)) rfl;apply aA (lD a);apply aA (kG (a.q.den:Int) b.q.num (by rw[cU];omega)) rfl;dsimp only[aE,aF];apply aA (wP _ _ (Int.mul_ne_zero (by omega) hnb) (by rw[dn,cU];omega) (by rw[dn,cU];omega)) rfl;rw[UQ hb0];exact aL
theorem jw(a b:RQ)(A B:Nat)(ha:Fit A a.q)(hb:Fit B b.q)(h:A+B<=4294967296:=by omega):aU prog 41 [(qw a:aN),(qw b:aN)] (.ret [.one (.int .i64 (ef a.q b.q))]):=by
 refine dL func41 bN9 ?_;obtain⟨ha1,ha2⟩:=Fit.bd ha;obtain⟨hb1,hb2⟩:=Fit.bd hb;have hn1:=gd (bL ha.1 hb.2);have hn2:=gd (bL hb.1 ha.2);apply aA (lD b);apply aA (kG a.q.num (b.q.den:Int) (by rw[cU];omega)) rfl;apply aA (lD a);apply aA (kG b.q.num (a.q.den:Int) (by rw[cU];omega)) rfl;dsimp only[aE,aF];apply aA (aP3 _ _ (by rw[dn,cU];omega) (by rw[dn,cU];omega)) rfl;rw[<-xN];exact aL
end Go.Sy
