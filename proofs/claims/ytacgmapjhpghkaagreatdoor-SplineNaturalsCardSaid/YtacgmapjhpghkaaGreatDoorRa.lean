/- Part. -/
import Derived.Test.YtacgmapjhpghkaaGreatDoorNb
set_option linter.all false
set_option maxHeartbeats 2000000
namespace Go.Sy
open Go Go.Proofs Tryz Ord
def af1:Tr:=cd 1
def cl1:Tr:=aY 3 0 (nE 1 0 0 47 7 (eZ 4 3 8 (ir 5 0 0 3 9 (aY 6 0 (aK2 1 47 12 (.back 0 [lV 7 0])) af1)))) af1
def cf0:Tr:=Ed 0 (bL 1 0 3 47 (uj .gtr 3 4 0 2 0 4 cl1))
def aR8:af prog f229 dV [.v none]=cf0:=aS
def cu2:Tr:=mw 229 1 5 47 47 (bL 2 0 7 47 (ir 3 0 0 3 8 (aY 4 0 (.ret [(.agg [(tE (.int .i64 0)),tN])]) (nS 0 0 2 0))))
def bo6:af prog f189 dV [.v none,.v none]=cu2:=aS
def cg2:Tr:=jy 5 0 0 3 12 (aY 6 0 (Zt 5 3 14 (Ak 7 47 16 (oa 1 8 8 3 17 18 47 (uj .quo 2 20 32768 2 0 2 (sk 0 10 9))))) (Ak 5 47 16 (oa 1 8 7 3 17 18 47 (uj .quo 2 20 32768 2 0 2 (sk 0 9 8)))))
def bC2:Tr:=uj .rem 2 10 32768 2 0 2 cg2
def aO5:Tr:=nS 5 0 5 1
def ch6:Tr:=jy 0 0 0 2 6 (aY 1 0 (ae3 (lS 2 0 2 8 (aY 4 0 bC2 (aQ7 (-1) aO5)))) (ae3 (lS 2 0 2 8 (aY 4 0 bC2 (aQ7 1 aO5)))))
def bm5:af prog f114 dV [.v none]=ch6:=aS
def bA9:Tr:=qe (-1)
def bA5:Tr:=qe 1
def bQ3:Tr:=eZ 14 3 33 (gW 1 0 6 0 47 35 36 (eZ 16 3 37 (ss .gtr 3 34 38 15 0 17 0 4 (aY 18 0 bA5 (cT 6 1 3 20 (lh 0 5 19))))))
def bD4:Tr:=gW 0 0 6 0 47 22 23 (eZ 9 3 24 (gW 1 0 6 0 47 26 27 (eZ 11 3 28 (fN 10 0 12 3 25 29 4 (aY 13 0 bA9 (gW 0 0 6 0 47 31 32 bQ3))))))
def aG8:Tr:=qe 0
def cw8:Tr:=bL 1 0 8 47 (ss .neq 3 7 9 2 0 3 0 4 (aY 4 0 (bL 0 0 11 47 (bL 1 0 13 47 (fN 5 0 6 3 12 14 4 (aY 7 0 bA9 bA5)))) (Eg (bL 0 0 17 47 (fN 6 0 7 3 16 18 4 (aY 8 0 bD4 aG8))))))
def cx5:Tr:=bL 0 0 6 47 cw8
def aS0:af prog f227 dV [.v none,.v none]=cx5:=aS
def ch7:Tr:=aY 3 0 aG8 (bL 0 0 10 47 (en 4 1 11 (iG 5 1 0 3 12 13 (gW 0 0 6 0 47 9 14 (eZ 7 3 15 (cd 8))))))
def cu8:Tr:=bL 0 0 6 47 (ss .geq 3 5 7 1 0 2 0 4 ch7)
def aU6:af prog f248 dV [.v none,.v none]=cu8:=aS
def bx7:Tr:=cd 5
def ck2:Tr:=bL 0 0 5 47 (bL 1 0 7 47 (ss .gtr 3 6 8 2 0 3 0 4 (aY 4 0 (bL 0 0 10 47 bx7) (bL 1 0 12 47 bx7))))
def Zz:af prog f247 dV [.v none,.v none]=ck2:=aS
def bN3:Tr:=en 16 32768 40 (en 4 1 43 (iG 19 7 0 3 44 45 (ei 8 20 47 42 46 (gE 8 20 18 3 48 47 (cT 7 1 3 21 (Rj 1 22 21))))))
def bS2:Tr:=aY 17 0 bN3 (en 4 1 43 (iG 18 7 0 3 44 45 (ei 8 19 47 42 46 (gE 8 19 16 3 48 47 (cT 7 1 3 21 (Rj (-1) 21 20))))))
def bU2:Tr:=en 14 32768 40 (en 4 1 43 (iG 18 7 0 3 44 45 (ei 8 19 47 42 46 (gE 8 19 17 3 48 47 (cT 7 1 3 21 (Rj 1 21 20))))))
def cd1:Tr:=aY 16 0 bU2 (en 4 1 43 (iG 17 7 0 3 44 45 (ei 8 18 47 42 46 (gE 8 18 14 3 48 47 (cT 7 1 3 21 (Rj 0 20 19))))))
def cA6:Tr:=ss .mul 3 26 29 2 0 11 0 3 (dw 10 12 3 25 30 (dw 13 6 3 31 32 (jy 14 0 0 3 34 (aY 15 0 (cT 14 32768 3 36 (oh 16 32768 38 bS2)) (oh 14 32768 38 cd1)))))
def cg8:Tr:=cT 3 1 3 14 (aM7 (.loop 0 [lK 0,lK 0,.row 5] (fN 7 0 4 3 18 19 4 (aY 9 0 (FZ 248 0 7 23 24 47 3 3 (FZ 248 1 7 27 28 47 3 3 cA6)) (Dj 229 1 8 49 47 (cd 10))))))
def cl2:Tr:=iK 247 0 0 1 12 13 47 47 3 cg8
def bn1:af prog f226 dV [.v none,.v none,.v none]=cl2:=aS
def ck1:Tr:=Zt 0 3 4 (nS 1 0 0 1)
def bp3:af prog f217 dV [.v (some 2)]=ck1:=aS
def ae2:Tr:=nS 8 0 8 1
def co1:Tr:=ss .eql 3 14 16 0 0 1 0 4 (aY 4 0 (xG 0 1 1 1 1 21 23 (Pk 189 0 5 0 2 19 24 3 47 49 (nS 6 0 6 1))) (iK 227 0 1 1 27 29 47 47 3 (oh 5 0 30 (aY 6 0 (xG 0 1 1 1 (-1) 35 37 (Pk 189 0 7 0 2 33 38 3 47 49 ae2)) (xG 1 1 0 1 (-1) 43 45 (Pk 189 1 7 0 2 41 46 3 47 49 ae2))))))
def cf8:Tr:=ir 0 0 0 3 6 (aY 2 0 (nS 1 0 1 1) (ir 1 0 0 3 10 (aY 3 0 (nS 0 0 0 1) co1)))
def bf3:af prog f187 dV [.v (some 2),.v (some 2)]=cf8:=aS
def cs7:Tr:=gO 217 [(G2 1)] [(some 2)] [6] [49] 49 true (sj 187 0 2 2 5 7 49 (nS 3 0 3 1))
def bn5:af prog f191 dV [.v (some 2),.v (some 2)]=cs7:=aS
def bK9:Tr:=cT 27 1 3 58 (uj .rem 3 60 32768 26 0 3 (ei 15 28 47 55 59 (gE 15 28 29 3 62 61 (uj .quo 3 63 32768 26 0 3 (en 14 1 32 (vY 1 31 32 30))))))
def bV3:Tr:=eZ 20 3 44 (gW 1 1 14 0 47 47 48 (eZ 22 3 49 (ss .mul 3 45 50 21 0 23 0 3 (dw 19 24 3 40 51 (dw 25 13 3 52 53 (dw 8 14 3 56 57 bK9))))))
def bK1:Tr:=oh 14 0 30 (aY 16 0 (dw 8 14 3 35 36 (cT 17 1 3 37 (ei 15 18 47 34 38 (ot 15 18 3 39 (gW 0 1 8 0 47 42 43 bV3))))) (ei 15 8 47 65 66 (gE 15 8 13 3 68 67 (en 8 1 24 (sk 0 18 17)))))
def cu6:Tr:=en 6 1 20 (.loop 0 [lV 7 0,.row 5] (oh 8 0 22 (aY 10 0 (bL 1 1 27 47 (en 11 1 28 (.loop 1 [lK 0,lV 12 0,.row 9] bK1))) (ss .mul 3 70 72 0 0 1 0 3 (gO 189 [(W 11 0),(.one (.c (.sr 1 9)))] [(some 2)] [73,74] [3,47] 49 true (nS 12 0 12 1))))))
def cp0:Tr:=bL 0 1 11 47 (bL 1 1 14 47 (dw 2 3 3 12 15 (aM7 (bL 0 1 19 47 cu6))))
def bk0:af prog f119 dV [.v (some 2),.v (some 2)]=cp0:=aS
def co0:Tr:=sj 191 0 1 2 5 6 49 (cd 2)
def bt8:af prog f118 dV [.v (some 2),.v (some 2)]=co0:=aS
abbrev rB(ds:c7):List (List aC):=ds.map fun(d:Nat)=>[aC.int .i64 (d:Int)]
abbrev sB(ds:c7):aC:=.slice 1 (rB ds)
abbrev bT(n:Nat):aC:=sB (bd n)
abbrev zC(z:Int):List aC:=[.int .i64 z.sign,bT z.natAbs]
abbrev zT(z:Int):aQ:=.agg (zC z)
def aI8:DB 32768 []:=fun d hd=>by cases hd
def bd2{n:Nat}(h:n=0):aC.Sub (.exact (.slice none 0 0)) (bT n):=by
 subst h;rw[bT,Cr];exact aC.Sub.nil
def sliceB{ds:c7}{x:j6}{ty:Nat}{y:j6}{k:IntKind}{n:Int}{m:Nat}(hm:n.toNat=m)(h0:0<=n:=by omega)(hn:m<=ds.length:=by omega):ao prog (.slice 47 x (some y) none none) ty [.one (sB ds),.one (.int k n)] (.one (sB (ds.drop m))):=by
 have:=Po (P:=prog) (T:=47) (x:=x) (y:=y) (ty:=ty) (k:=k) (n:=n) (ts:=rB ds) gG h0 (by rw[aL,hm];exact hn);rw[hm,rB,<-mX]at this;exact this
def bv2{ds:c7}{x:j6}{ty:Nat}{y:j6}{k:IntKind}{n:Int}{m:Nat}(h0:0<=n:=by omega)(hm:n.toNat=m:=by omega)(hn:m<=ds.length:=by omega):ao prog (.slice 47 x none (some y) none) ty [.one (sB ds),.one (.int k n)] (.one (sB (ds.take m))):=by
 have:=zE (P:=prog) (T:=47) (x:=x) (y:=y) (ty:=ty) (k:=k) (n:=n) (ts:=rB ds) gG h0 (by rw[aL,hm];exact hn);rw[hm,rB,<-kD]at this;exact this
def td(ds:c7)(hd:DB 32768 ds)(hs:ds.length<4611686018427387904:=by omega):aX prog 229 [(.one (sB ds):aQ)] (.ret [.one (bT (bv ds))]):=by
 refine eD func229 aR8 ?_;refine bZ {xs:List Nat // DB 32768 xs/\bv xs=bv ds/\xs.length<=ds.length} (fun g=>[.one (sB g.1)]) (fun g=>g.1.length) ⟨ds,hd,rfl,ah _⟩ ai.rfl (fun _=>rfl) ?_;rintro⟨xs,hx,hv,hl⟩;dsimp only[aU,aV]at hx hv hl|-;apply vn (ae gG (aL _));apply vn jD;refine l4 ?_ ?_<;>intro h3
 .obtain⟨d,hget⟩:∃d,xs[0]?=some d:=⟨_,bM O⟩
  apply vn (aN gG O O hget);apply vn (bq ag3);apply vn cW;refine l4 ?_ ?_<;>intro h7
  .apply vn (sliceB rfl)
   exact aq rfl ⟨⟨xs.drop 1,hx.drop 1,by
    have h7:d=0:=O
    rw[<-hv,ax6 hget,h7,eo,cV],by show(xs.drop 1).length<=_;rw[dF];omega⟩,ai.rfl,by show(xs.drop 1).length<xs.length;rw[dF];omega⟩
  have e:bd (bv ds)=xs:=by
   rw[<-hv];refine cm9 hx fun d' h'=>?_;rw[al3,hget]at h';simp only[aZ]at h';subst h';omega
  rw[bT,e];exact aR
 have e:bd (bv ds)=xs:=by
  have:xs=[]:=ep O;rw[<-hv,this];exact Cr
 rw[bT,e];exact aR
def iW(s z:Int)(ds:c7)(hd:DB 32768 ds)(h1:z.natAbs=bv ds)(h2:bv ds≠0->z.sign=s)(hs:ds.length<4611686018427387904:=by omega):aX prog 189 [(.one (.int .i64 s):aQ),(.one (sB ds):aQ)] (.ret [zT z]):=by
 refine eD func189 bo6 ?_;have hlen:(bd (bv ds)).length=0↔bv ds=0:=by rw[BW,Fo]
 have hl2:(bd (bv ds)).length<=ds.length:=lE (YH hd);apply aA (td ds hd hs);apply vn (ae gG (aL _));apply vn cW;refine l4 ?_ ?_<;>intro h3
 .have hz:z=0:=by
   have:=hlen.1 O;omega
  subst hz;exact gj ⟨⟨aC.Sub.same,bd2 rfl,trivial⟩,trivial⟩
 refine aR ?_;rw[<-h2 (fun h=>h3 (by have:=hlen.2 h;omega)),<-h1];rfl
def Vh{ds:c7}{m n:Nat}(hm:m≠0)(h:bv ds+32768^ds.length*m=n)(hn:n<18446744073709551616:=by omega):ds.length<=4:=by
 rcases gP ds.length 5 with h1 | h1
 .omega
 .have h2:32768^5<=32768^ds.length:=gI O h1;have h3:32768^ds.length<=32768^ds.length*m:=ma _ O;omega
def zU{ds:c7}{m n:Nat}(h:bv ds+32768^ds.length*m=n):bv (m%32768::ds)+32768^(m%32768::ds).length*(m/32768)=n:=by
 rw[Bv,bB,bw,lf,ej,<-dr,mf];exact h
def neg_tmod{m:Nat}:(-(m:Int)).tmod 32768=-((m%32768:Nat):Int):=by rw[Int.neg_tmod,sa O];omega
def neg_tdiv{m:Nat}:(-(m:Int)).tdiv 32768=-((m/32768:Nat):Int):=by rw[Int.neg_tdiv,qa O];omega
def pW(n:Int)(h1:-9223372036854775808<=n:=by omega)(h2:n<9223372036854775808:=by omega):aX prog 114 [(.one (.int .i64 n):aQ)] (.ret [zT n]):=by
 refine eD func114 bm5 ?_;apply vn bO;refine vs _ rfl (fun h1=>?_) (fun h1'=>?_)
 .refine bZ {g:Nat×List Nat // bv g.2+32768^g.2.length*g.1=n.natAbs/\DB 32768 g.2/\g.1<=9223372036854775808/\g.2.length<=5} (fun g=>[.one (.int .i64 (-(g.1.1:Int))),.rows (rB g.1.2)]) (fun g=>g.1.1) ⟨(n.natAbs,[]),by simp[bv,val],aI8,by show n.natAbs<=_;omega,aT⟩ ⟨aQ.Sub.of_eq (congrArg (fun q=>aQ.one (aC.int .i64 q)) (by show n=-((n.natAbs:Nat):Int);omega)),aQ.Sub.same,trivial⟩ (fun _=>rfl) ?_;rintro⟨⟨m,ds⟩,hv,hd,hm,hl⟩;dsimp only[aU,aV]at hv hd hm hl|-;apply vn iC;refine l4 ?_ ?_<;>intro h4
  .have hm0:m≠0:=O
   have hl4:=Vh hm0 hv
   have hd2:DB 32768 (m%32768::ds):=fun d hd'=>by
    rcases cp.1 hd' with rfl | hd'
    .omega
    .exact hd d hd'
   apply vn (Ff (c:=-((m%32768:Nat):Int)) bY neg_tmod);apply vn bO;refine l4 ?_ ?_<;>intro h7
   .apply vn OM;dsimp only[aU,aV];refine et (us:=rB [m%32768]) (by show[[aC.int .i64 _]]=[[aC.int .i64 _]];congr 3;omega) ?_;refine qc (ts:=rB [m%32768]) (us:=rB ds) (vs:=rB (m%32768::ds)) rfl rfl rfl b6 (by simp[maxLen];omega) ?_;apply vn (rG (c:=-((m/32768:Nat):Int)) bY (by rw[neg_tdiv];exact gz)) rfl;dsimp only[aU,aV];exact aq rfl ⟨⟨(m/32768,m%32768::ds),zU hv,hd2,by show m/32768<=_;omega,by show ds.length+1<=5;omega⟩,ai.rfl,by show m/32768<m;omega⟩
   refine et (us:=rB [m%32768]) (by show[[aC.int .i64 _]]=[[aC.int .i64 _]];congr 3;omega) ?_;refine qc (ts:=rB [m%32768]) (us:=rB ds) (vs:=rB (m%32768::ds)) rfl rfl rfl b6 (by simp[maxLen];omega) ?_;apply vn (rG (c:=-((m/32768:Nat):Int)) bY (by rw[neg_tdiv];exact gz)) rfl;dsimp only[aU,aV];exact aq rfl ⟨⟨(m/32768,m%32768::ds),zU hv,hd2,by show m/32768<=_;omega,by show ds.length+1<=5;omega⟩,ai.rfl,by show m/32768<m;omega⟩
  have hm0:m=0:=O
  subst hm0;rw[eo,cV]at hv;apply aA (iW (-1) n ds hd hv.symm (fun _=>qD h1));exact aR
 refine bZ {g:Nat×List Nat // bv g.2+32768^g.2.length*g.1=n.natAbs/\DB 32768 g.2/\g.1<=9223372036854775808/\g.2.length<=5/\g.1<9223372036854775808} (fun g=>[.one (.int .i64 (g.1.1:Int)),.rows (rB g.1.2)]) (fun g=>g.1.1) ⟨(n.natAbs,[]),by simp[bv,val],aI8,by show n.natAbs<=_;omega,aT,by show n.natAbs<_;omega⟩ ⟨aQ.Sub.of_eq (congrArg (fun q=>aQ.one (aC.int .i64 q)) (by show n=((n.natAbs:Nat):Int);omega)),aQ.Sub.same,trivial⟩ (fun _=>rfl) ?_;rintro⟨⟨m,ds⟩,hv,hd,hm,hl,hmm⟩;dsimp only[aU,aV]at hv hd hm hl hmm|-;apply vn iC;refine l4 ?_ ?_<;>intro h21
 .have hm0:m≠0:=O
  have hl4:=Vh hm0 hv
  have hd2:DB 32768 (m%32768::ds):=fun d hd'=>by
   rcases cp.1 hd' with rfl | hd'
   .omega
   .exact hd d hd'
  apply vn nz;apply vn bO;refine l4 ?_ ?_<;>intro h24
  .exfalso;omega
  refine et (us:=rB [m%32768]) (by show[[aC.int .i64 _]]=[[aC.int .i64 _]];congr 3) ?_;refine qc (ts:=rB [m%32768]) (us:=rB ds) (vs:=rB (m%32768::ds)) rfl rfl rfl b6 (by simp[maxLen];omega) ?_;apply vn yp;dsimp only[aU,aV];exact aq rfl ⟨⟨(m/32768,m%32768::ds),zU hv,hd2,by show m/32768<=_;omega,by show ds.length+1<=5;omega,by show m/32768<_;omega⟩,ai.rfl,by show m/32768<m;omega⟩
 have hm0:m=0:=O
 subst hm0;rw[eo,cV]at hv;apply aA (iW 1 n ds hd hv.symm (fun h=>gZ O));exact aR
def VJ{xs ys:c7}(hx:DB 32768 xs){i x y:Nat}(hl:xs.length=ys.length)(hi:xs[i]?=some x)(hj:ys[i]?=some y)(ht:xs.take i=ys.take i)(hxy:x<y:=by omega):bv xs<bv ys:=by
 have e:∀(zs:c7)(z:Nat),zs[i]?=some z->bv zs=bv (zs.take i)*32768^(zs.length-i)+(bv (zs.drop (i+1))+32768^(zs.length-(i+1))*z):=fun zs z hz=>by
  have hlt:i<zs.length:=(cL.1 hz).1
  conv=>lhs;rw[<-oA i zs]
  rw[aC3,dF]
  congr 1
  rw[jW hlt,(cL.1 hz).2,Bv,dF]
 rw[e xs x hi,e ys y hj,ht,hl];have h1:=YH (hx.drop (i+1));rw[dF,hl]at h1;have h2:32768^(ys.length-(i+1))*(x+1)<=32768^(ys.length-(i+1))*y:=dz _ hxy;rw[dr,eG]at h2;omega
def ve{a b:Nat}(h:(bd a).length<(bd b).length:=by omega):a<b:=by
 rcases gP a b with h1 | h1
 .exact h1
 .have:=gR h1;omega
def qw(a b:Nat)(hs:(bd a).length+(bd b).length<1099511627776:=by omega):aX prog 227 [(.one (bT a):aQ),(.one (bT b):aQ)] (.ret [.one (.int .i64 (gD a b))]):=by
 refine eD func227 aS0 ?_;apply vn (ae gG (aL _));apply vn (ae gG (aL _));apply vn iC;refine l4 ?_ ?_<;>intro h3
 .apply vn (ae gG (aL _));apply vn (ae gG (aL _));apply vn bO;refine l4 ?_ ?_<;>intro h7
  .rw[uM (by have:=ve (a:=a) (b:=b);omega)];exact aR
  rw[ui (by have:=ve (a:=b) (b:=a);omega)];exact aR
 have hlen:(bd a).length=(bd b).length:=O
 refine bZ {i:Nat // i<=(bd a).length/\(bd a).take i=(bd b).take i} (fun g=>[.one (.int .i64 0),.one (.int .i64 g.1)]) (fun g=>(bd a).length-g.1) ⟨0,dM _,rfl⟩ ai.rfl (fun _=>rfl) ?_;rintro⟨i,hi,ht⟩;dsimp only[aU,aV]at hi ht|-;apply vn (ae gG (aL _));apply vn bO;refine l4 ?_ ?_<;>intro h13
 .obtain⟨x,hx⟩:∃x,(bd a)[i]?=some x:=⟨_,bM O⟩
  obtain⟨y,hy⟩:∃y,(bd b)[i]?=some y:=⟨_,bM O⟩
  apply vn (aN gG O O hx);apply vn (bq ag3);apply vn (aN gG O O hy);apply vn (bq ag3);apply vn bO;refine l4 ?_ ?_<;>intro h19
  .have:=VJ (jo a) hlen hx hy ht;rw[iD,iD]at this;rw[uM O];exact aR
  apply vn (aN gG O O hx);dsimp only[aU,aV];apply vn (bq ag3);apply vn (aN gG O O hy);apply vn (bq ag3);apply vn jD;refine l4 ?_ ?_<;>intro h26
  .have:=VJ (jo b) hlen.symm hy hx ht.symm;rw[iD,iD]at this;rw[ui O];exact aR
  apply vn (aB O O);dsimp only[aU,aV];exact aq rfl ⟨⟨i+1,O,by rw[take_succ hx,take_succ hy,ht,show x=y by omega]⟩,ai.rfl,by show(bd a).length-(i+1)<(bd a).length-i;omega⟩
 have hie:i=(bd a).length:=O
 subst hie
 have e:bd a=bd b:=by
  rw[jC,dL O]at ht;exact ht
 have:a=b:=by rw[<-iD a,e,iD]
 rw[this,BU];exact aR
def Dd(n i:Nat)(hs:(bd n).length<1099511627776:=by omega)(hi:i<4611686018427387904:=by omega):aX prog 248 [(.one (bT n):aQ),(.one (.int .i64 i):aQ)] (.ret [.one (.int .i64 ((n/32768^i%32768:Nat):Int))]):=by
 refine eD func248 aU6 ?_;have hdg:=Vq n i;apply vn (ae gG (aL _));apply vn kz;refine l4 ?_ ?_<;>intro h2
 .rw[fA.2 (by rw[fF];omega)]at hdg;rw[<-hdg];exact aR
 apply vn (ae gG (aL _));apply vn (aI O O);apply vn (aI O O);dsimp only[aU,aV];obtain⟨d,hd⟩:∃d,(bd n).reverse[i]?=some d:=⟨_,bM (by rw[fF];omega)⟩
 have hd2:(bd n)[(bd n).length-1-i]?=some d:=by rw[BE];exact hd
 rw[hd]at hdg;apply vn (aN gG O O hd2);apply vn (bq ag3);dsimp only[aU,aV];rw[<-hdg];exact aR
def ZN(a b:Nat):aX prog 247 [(.one (bT a):aQ),(.one (bT b):aQ)] (.ret [.one (.int .i64 ((max (bd a).length (bd b).length:Nat):Int))]):=by
 refine eD func247 Zz ?_;apply vn (ae gG (aL _));apply vn (ae gG (aL _));apply vn jD;refine l4 ?_ ?_<;>intro h3
 .apply vn (ae gG (aL _));dsimp only[aU,aV];refine aR ?_;show[aQ.one (aC.int .i64 _)]=[aQ.one (aC.int .i64 _)]
  congr 3;omega
 apply vn (ae gG (aL _));dsimp only[aU,aV];refine aR ?_;show[aQ.one (aC.int .i64 _)]=[aQ.one (aC.int .i64 _)]
 congr 3;omega
def val_rev(n:Nat):val 32768 (bd n).reverse=n:=iD n
def Wh(n i:Nat):(bd n).reverse[i]?.getD 0=n/32768^i%32768:=Vq n i
def mP(a b r:Nat)(k:Int)(hk:k=1\/k=-1)(oz:(bd b).length<274877906944:=by omega)(hr:(r:Int)=a+k*b:=by omega)(hs:(bd a).length<274877906944:=by omega):aX prog 226 [(.one (bT a):aQ),(.one (bT b):aQ),(.one (.int .i64 k):aQ)] (.ret [.one (bT r)]):=by
 refine eD func226 bn1 ?_;obtain⟨n,hn⟩:∃n,max (bd a).length (bd b).length+1=n:=⟨_,rfl⟩
 have hrl:r<32768^n:=by
  have h1:=Eo a;have h2:=Eo b;have h3:32768^(bd a).length<=32768^(n-1):=gI O O;have h4:32768^(bd b).length<=32768^(n-1):=gI O O;have h5:32768^n=32768^(n-1)*32768:=by rw[<-bw];congr 1;omega
  rcases hk with rfl | rfl<;>omega
 apply aA (ZN a b);apply vn (aB O O);dsimp only[aU,aV];refine CN (n:=n) (f:=fun d:Nat=>[aC.int .i64 (d:Int)]) 0 rfl rfl O rfl O (by simp only[maxLen];omega) ?_;refine bZ {g:Nat×Int×List Nat // Ii 32768 (bd a).reverse (bd b).reverse n k g.1 g.2.1 g.2.2} (fun g=>[.one (.int .i64 g.1.2.1),.one (.int .i64 g.1.1),.rows (rB g.1.2.2.reverse)]) (fun g=>n-g.1.1) ⟨(0,0,List.replicate n 0),Ii.init O _ _ _ _⟩ ⟨aQ.Sub.same,aQ.Sub.same,aQ.Sub.of_eq (by rw[aq4];rfl),trivial⟩ (fun _=>rfl) ?_;rintro⟨⟨i,c,os⟩,hI⟩;dsimp only[aU,aV]at hI|-;have hil:=hI.le;have hol:=hI.len;have hc0:=hI.c0;have hc1:=hI.c1;apply vn bO;refine l4 ?_ ?_<;>intro h5
 .obtain⟨x,hx⟩:∃x,a/32768^i%32768=x:=⟨_,rfl⟩
  obtain⟨y,hy⟩:∃y,b/32768^i%32768=y:=⟨_,rfl⟩
  have hxB:x<32768:=by rw[<-hx];exact eC _ O
  have hyB:y<32768:=by rw[<-hy];exact eC _ O
  have hcall1:=Dd a i;have hcall2:=Dd b i;rw[hx]at hcall1;rw[hy]at hcall2
  have hnext:∀(z:Nat)(c':Int),z<32768->-1<=c'->c'<=1->(z:Int)+32768*c'=x+k*y+c->Ii 32768 (bd a).reverse (bd b).reverse n k (i+1) c' (os.set i z):=fun z c' h1 h2 h3 h4=>
   hI.next O (by rw[Wh,hx]) (by rw[Wh,hy]) h2 h3 h1 h4
  have hst:∀z,os.reverse.set (n-1-i) z=(os.set i z).reverse:=fun z=>by rw[<-hol];exact Ur O
  obtain⟨o0,hgo⟩:∃o0,os.reverse[n-1-i]?=some o0:=⟨_,bM (by rw[fF];omega)⟩
  have hky:k*y=y\/k*y=-(y:Int):=by rcases hk with rfl | rfl<;>simp
  generalize hkyv:k*(y:Int)=ky at hnext hky;apply aA hcall1;apply aA hcall2;apply vn (wi (c:=ky) (by rw[hkyv];exact gz)) rfl;apply vn (aB O O);apply vn (aB O O);apply vn bO;refine l4 ?_ ?_<;>intro h12
  .apply vn (aB O O);dsimp only[aU,aV];apply vn kz;refine l4 ?_ ?_<;>intro h15
   .exfalso;omega
   apply vn (aI O O);apply vn (aI O O);refine bo rfl rfl O (by rw[fF];omega) ?_;refine gL (d':=(x+ky+c+32768).toNat) rfl rfl O O hgo (by show[aC.int .i64 _]=[aC.int .i64 _];congr 2;omega) ?_;rw[hst];apply vn (aB O O);dsimp only[aU,aV];exact aq rfl ⟨⟨(i+1,-1,os.set i (x+ky+c+32768).toNat),hnext _ (-1) O O O O⟩,ai.rfl,by show n-(i+1)<n-i;omega⟩
  apply vn kz;refine l4 ?_ ?_<;>intro h30
  .apply vn (aI O O);apply vn (aI O O);apply vn (aI O O);refine bo rfl rfl O (by rw[fF];omega) ?_;refine gL (d':=(x+ky+c-32768).toNat) rfl rfl O O hgo (by show[aC.int .i64 _]=[aC.int .i64 _];congr 2;omega) ?_;rw[hst];apply vn (aB O O);dsimp only[aU,aV];exact aq rfl ⟨⟨(i+1,1,os.set i (x+ky+c-32768).toNat),hnext _ 1 O O O O⟩,ai.rfl,by show n-(i+1)<n-i;omega⟩
  apply vn (aI O O);apply vn (aI O O);refine bo rfl rfl O (by rw[fF];omega) ?_;refine gL (d':=(x+ky+c).toNat) rfl rfl O O hgo (by show[aC.int .i64 _]=[aC.int .i64 _];congr 2;omega) ?_;rw[hst];apply vn (aB O O);dsimp only[aU,aV];exact aq rfl ⟨⟨(i+1,0,os.set i (x+ky+c).toNat),hnext _ 0 O O O O⟩,ai.rfl,by show n-(i+1)<n-i;omega⟩
 have hie:i=n:=O
 subst hie;have hf:=hI.fin O (by rw[fF];omega) (by rw[fF];omega) (r:=r) (by rw[val_rev,val_rev];exact hr) hrl;apply aA (td os.reverse hI.dg.rev (by rw[fF];omega)) rfl;dsimp only[aU,aV];refine aR ?_;rw[<-hf,bv,qG];rfl
def BX(z:Int):-1<=z.sign/\z.sign<=1:=by rcases dS z with⟨_,e⟩ | ⟨_,e⟩ | ⟨_,e⟩<;>omega
def CB(z:Int):aX prog 217 [(zT z:aQ)] (.ret [zT (-z)]):=by
 refine eD func217 bp3 ?_;have:=BX z;apply vn OM;dsimp only[aU,aV];refine aR ?_;show[aQ.agg [.int .i64 (-z.sign),bT z.natAbs]]=[zT (-z)];rw[zT,zC,Int.sign_neg,iY]
def bQ5{a b:Nat}:(bd (a+b)).length<=max (bd a).length (bd b).length+1:=by
 apply lE;have h1:=Eo a;have h2:=Eo b;have h3:32768^(bd a).length<=32768^(max (bd a).length (bd b).length):=gI O O;have h4:32768^(bd b).length<=32768^(max (bd a).length (bd b).length):=gI O O;rw[bw];omega
def ai2(x y:Int)(hx:(bd x.natAbs).length<137438953472)(hy:(bd y.natAbs).length<137438953472):aX prog 187 [(zT x:aQ),(zT y:aQ)] (.ret [zT (x+y)]):=by
 refine eD func187 bf3 ?_;have hx0:=dS x;have hy0:=dS y
 have hl:∀n,n<=x.natAbs+y.natAbs->(bd n).length<274877906944:=fun n hn=>by
  have h1:=gR hn;have h2:=bQ5 (a:=x.natAbs) (b:=y.natAbs);omega
 apply vn cW;refine l4 ?_ ?_<;>intro h1
 .rw[show x=0 by omega,Int.zero_add];exact aR
 apply vn cW;refine l4 ?_ ?_<;>intro h4
 .rw[show y=0 by omega,Int.add_zero];exact aR
 apply vn cW;refine l4 ?_ ?_<;>intro h7
 .apply aA (mP x.natAbs y.natAbs (x.natAbs+y.natAbs) 1 (.inl rfl))
  apply aA (iW x.sign (x+y) _ (jo _) (by rw[iD];omega) (fun _=>by
   rcases hx0 with⟨h,e⟩ | ⟨h,e⟩ | ⟨h,e⟩
   .rw[e];exact qD O
   .omega
   .rw[e];exact gZ O) (by have:=hl _ (ah _);omega)) rfl
  exact aR
 apply aA (qw x.natAbs y.natAbs);apply vn kz;dsimp only[aU,aV]
 have hci:(0<=gD (x.natAbs:Int) (y.natAbs:Int))↔y.natAbs<=x.natAbs:=by
  have:=tR (a:=(x.natAbs:Int)) (b:=(y.natAbs:Int));omega
 refine l4 ?_ ?_<;>intro h13
 .apply aA (mP x.natAbs y.natAbs (x.natAbs-y.natAbs) (-1) (.inr rfl))
  apply aA (iW x.sign (x+y) _ (jo _) (by rw[iD];omega) (fun hne=>by
   rw[iD]at hne;rcases hx0 with⟨h,e⟩ | ⟨h,e⟩ | ⟨h,e⟩
   .rw[e];exact qD O
   .omega
   .rw[e];exact gZ O) (by have:=hl (x.natAbs-y.natAbs) O;omega)) rfl
  exact aR
 apply aA (mP y.natAbs x.natAbs (y.natAbs-x.natAbs) (-1) (.inr rfl))
 apply aA (iW y.sign (x+y) _ (jo _) (by rw[iD];omega) (fun hne=>by
  rw[iD]at hne;rcases hy0 with⟨h,e⟩ | ⟨h,e⟩ | ⟨h,e⟩
  .rw[e];exact qD O
  .omega
  .rw[e];exact gZ O) (by have:=hl (y.natAbs-x.natAbs) O;omega)) rfl
 exact aR
def bp7(x y:Int)(hx:(bd x.natAbs).length<137438953472)(hy:(bd y.natAbs).length<137438953472):aX prog 191 [(zT x:aQ),(zT y:aQ)] (.ret [zT (x-y)]):=by
 refine eD func191 bn5 ?_;apply aA (CB y);apply aA (ai2 x (-y) hx (by rw[iY];exact hy)) rfl;rw[<-Int.sub_eq_add_neg];exact aR
def bc2(x y:Int):(x-y).sign=gD x y:=by
 unfold gD;rcases dS (x-y)with⟨h,e⟩ | ⟨h,e⟩ | ⟨h,e⟩<;>rw[e]
 .rw[aF O]
 .rw[aG O,aG O]
 .rw[aG O,aF O]
def be0(x y:Int)(hx:(bd x.natAbs).length<137438953472)(hy:(bd y.natAbs).length<137438953472):aX prog 118 [(zT x:aQ),(zT y:aQ)] (.ret [.one (.int .i64 (gD x y))]):=by
 refine eD func118 bt8 ?_;apply aA (bp7 x y hx hy);dsimp only[aU,aV];rw[<-bc2];exact aR
def at0{n la i:Nat}(h:la=(bd n).length)(hi:i<la:=by omega):∃d,(bd n)[la-1-i]?=some d/\(bd n).reverse[i]?=some d/\d<32768:=by
 subst h;have hd:(bd n).reverse[i]?=some ((bd n).reverse[i]'(by rw[fF];exact hi)):=bM _;exact⟨_,by rw[BE hi];exact hd,hd,(jo n).rev.get hd⟩
def lX(x y:Int)(hs:(bd x.natAbs).length+(bd y.natAbs).length<274877906944:=by omega):aX prog 119 [(zT x:aQ),(zT y:aQ)] (.ret [zT (x*y)]):=by
 refine eD func119 bk0 ?_;obtain⟨la,hla⟩:∃n,(bd x.natAbs).length=n:=⟨_,rfl⟩
 obtain⟨lb,hlb⟩:∃n,(bd y.natAbs).length=n:=⟨_,rfl⟩
 have hra:(bd x.natAbs).reverse.length=la:=by rw[fF,hla]
 have hrb:(bd y.natAbs).reverse.length=lb:=by rw[fF,hlb]
 have hsx:=BX x;have hsy:=BX y;apply vn (ae gG (aL _));apply vn (ae gG (aL _));apply vn (aB O O);dsimp only[aU,aV];rw[hla,hlb];refine CN (n:=la+lb) (f:=fun d:Nat=>[aC.int .i64 (d:Int)]) 0 rfl rfl O rfl O (by simp only[maxLen];omega) ?_;apply vn (ae gG (aL _));apply vn (aI O O);dsimp only[aU,aV];rw[hla];refine bZ {g:Nat×List Nat // JD 32768 (bd x.natAbs).reverse (bd y.natAbs).reverse g.1 g.2} (fun g=>[.one (.int .i64 ((la:Int)-1-g.1.1)),.rows (rB g.1.2.reverse)]) (fun g=>la-g.1.1) ⟨(0,List.replicate (la+lb) 0),by have:=JD.init (B:=32768) O (bd x.natAbs).reverse (bd y.natAbs).reverse;rw[hra,hrb]at this;exact this⟩ ⟨aQ.Sub.of_eq (congrArg (fun q=>aQ.one (aC.int .i64 q)) (by show(la:Int)-1=(la:Int)-1-((0:Nat):Int);omega)),aQ.Sub.of_eq (by rw[aq4];rfl),trivial⟩ (fun _=>rfl) ?_;rintro⟨⟨i,os⟩,hO⟩;dsimp only[aU,aV]at hO|-;have hil:=hO.le;rw[hra]at hil;apply vn kz;refine l4 ?_ ?_<;>intro h8
 .apply vn (ae gG (aL _));obtain⟨d,hd1,hd2,hd3⟩:=at0 (n:=x.natAbs) (la:=la) (i:=i) hla.symm;dsimp only[aU,aV];apply vn (aI O O);dsimp only[aU,aV];rw[hlb];refine bZ {g:Nat×Nat×List Nat // BIn 32768 (bd x.natAbs).reverse (bd y.natAbs).reverse i d (val 32768 ((bd x.natAbs).reverse.take i)*val 32768 (bd y.natAbs).reverse) g.1 g.2.1 g.2.2} (fun g=>[.one (.int .i64 g.1.2.1),.one (.int .i64 ((lb:Int)-1-g.1.1)),.rows (rB g.1.2.2.reverse)]) (fun g=>lb-g.1.1) ⟨(0,0,os),hO.inn O⟩ ⟨aQ.Sub.same,aQ.Sub.of_eq (congrArg (fun q=>aQ.one (aC.int .i64 q)) (by show(lb:Int)-1=(lb:Int)-1-((0:Nat):Int);omega)),aQ.Sub.same,trivial⟩ (fun _=>rfl) ?_;rintro⟨⟨k,c,os2⟩,hI⟩;dsimp only[aU,aV]at hI|-;have hkl:=hI.le;have hol:=hI.len;have hc1:=hI.c1;rw[hrb]at hkl;rw[hra,hrb]at hol;apply vn kz;refine l4 ?_ ?_<;>intro h13
  .apply vn (aB O O);apply vn (aB O O);dsimp only[aU,aV];obtain⟨e,he1,UW,he3⟩:=at0 (n:=y.natAbs) (la:=lb) (i:=k) hlb.symm;obtain⟨o,ho2⟩:∃o,os2[i+k]?=some o:=⟨_,bM O⟩
   have ho1:os2.reverse[la+lb-1-(i+k)]?=some o:=by
    have:=BE (ds:=os2.reverse) (i:=i+k) (by rw[fF];omega);rw[qG,fF,hol]at this;rw[this];exact ho2
   have hoB:=hI.dg.get ho2;have hde:d*e<=32767*32767:=fP O O;have hst:∀z,os2.reverse.set (la+lb-1-(i+k)) z=(os2.set (i+k) z).reverse:=fun z=>by rw[<-hol];exact Ur O
   obtain⟨w,hw⟩:∃w,c+(d*e+o)=w:=⟨_,rfl⟩
   have hN:=hI.next (z:=w%32768) (c':=w/32768) (by rw[hrb];omega) UW ho2 O O O;refine bo rfl rfl O (by rw[fF];omega) ?_;refine nQ rfl rfl O O ho1 rfl ?_;apply vn (aN gG O O hd1);apply vn (bq ag3);apply vn (aN gG O O he1);apply vn (bq ag3);apply vn (wi (c:=((d*e:Nat):Int)) (by rw[<-jH];exact gz)) rfl;apply vn (aB O O);dsimp only[aU,aV];apply vn (gF (c:=(w:Int)) (by rw[show(o:Int)+((d*e:Nat):Int)+(c:Int)=(w:Int) by omega];exact gz)) rfl;apply vn (aB O O);apply vn (aB O O);apply vn nz;refine bo rfl rfl O (by rw[fF];omega) ?_;refine gL (d':=w%32768) rfl rfl O O ho1 rfl ?_;rw[hst];apply vn yp;apply vn (aI O O);dsimp only[aU,aV];exact aq rfl ⟨⟨(k+1,w/32768,os2.set (i+k) (w%32768)),hN⟩,⟨aQ.Sub.same,aQ.Sub.of_eq (congrArg (fun q=>aQ.one (aC.int .i64 q)) (by show(lb:Int)-1-(k:Int)-1=(lb:Int)-1-((k+1:Nat):Int);omega)),aQ.Sub.same,trivial⟩,by show lb-(k+1)<lb-k;omega⟩
  have hke:k=lb:=O
  subst hke;obtain⟨o,ho2⟩:∃o,os2[i+k]?=some o:=⟨_,bM O⟩
  have ho1:os2.reverse[la+k-1-(i+k)]?=some o:=by
   have:=BE (ds:=os2.reverse) (i:=i+k) (by rw[fF];omega);rw[qG,fF,hol]at this;rw[this];exact ho2
  have hst:∀z,os2.reverse.set (la+k-1-(i+k)) z=(os2.set (i+k) z).reverse:=fun z=>by rw[<-hol];exact Ur O
  have hN:JD 32768 (bd x.natAbs).reverse (bd y.natAbs).reverse (i+1) (os2.set (i+k) c):=by
   have:=hI;rw[<-hrb]at this|-;exact this.out hd2
  refine bo rfl rfl O (by rw[fF];omega) ?_;refine gL (d':=c) rfl rfl O O ho1 rfl ?_;rw[hst];apply vn (aI O O);dsimp only[aU,aV];exact aq rfl ⟨⟨(i+1,os2.set (i+k) c),hN⟩,⟨aQ.Sub.of_eq (congrArg (fun q=>aQ.one (aC.int .i64 q)) (by show(la:Int)-1-(i:Int)-1=(la:Int)-1-((i+1:Nat):Int);omega)),aQ.Sub.same,trivial⟩,by show la-(i+1)<la-i;omega⟩
 have hie:i=la:=O
 subst hie
 have hf:val 32768 os=x.natAbs*y.natAbs:=by
  have:=hO;rw[<-hra]at this;have:=this.fin;rw[val_rev,val_rev]at this;exact this
 have hol:=hO.len;rw[hra,hrb]at hol;have hmul:x.sign*y.sign=(x*y).sign:=(Int.sign_mul x y).symm;have hsb:=BX (x*y);apply vn (wi (c:=(x*y).sign) (by rw[hmul];exact gz)) rfl;apply aA (iW (x*y).sign (x*y) os.reverse hO.dg.rev (by rw[bv,qG,hf,eA]) (fun _=>rfl) (by rw[fF];omega)) rfl;exact aR
def bz6:Tr:=lh 0 10 11
def cm2:Tr:=aY 5 0 (uj .mul 3 14 32768 3 0 3 (en 1 1 17 (iG 7 4 0 3 18 19 (iK 248 0 0 8 16 20 47 3 3 (dw 6 9 3 15 21 (cT 4 1 3 12 bz6)))))) (cd 3)
def cx6:Tr:=Eg (fN 4 0 2 3 9 10 4 cm2)
def bb9:af prog f260 dV [.v none,.v none,.v none]=cx6:=aS
def bQ1:Tr:=.loop 0 [lV 14 0,lV 10 0] (iK 227 15 0 1 46 47 47 47 3 (oh 17 0 48 (aY 18 0 (xG 15 0 1 0 (-1) 50 51 (cT 16 1 3 53 (lh 0 19 20))) (ER 16 15))))
def bF3:Tr:=.loop 0 [lV 0 0,lV 10 0] (iK 227 12 0 1 46 47 47 47 3 (oh 14 0 48 (aY 15 0 (xG 12 0 1 0 (-1) 50 51 (cT 13 1 3 53 (lh 0 16 17))) (ER 13 12))))
def aF3:Tr:=uj .gtr 3 36 0 10 0 4 (aY 11 0 (OF 114 10 2 39 49 (aV2 12 (xG 0 0 13 1 (-1) 38 44 bQ1))) bF3)
def ck5:Tr:=uj .leq 3 14 3 2 0 4 (aY 5 0 (cT 2 1 3 17 (cT 2 1 3 19 (gO 260 [(W 0 0),(W 6 0),(W 7 0)] [none] [16,18,20] [47,3,3] 3 false (gO 260 [(W 1 0),(W 2 0),(W 2 0)] [none] [22,23,24] [47,3,3] 3 true (ss .quo 3 21 25 8 0 9 0 3 aF3))))) (cT 2 1 3 28 (aS5 0 6 4 27 29 (aS5 1 2 3 31 32 (cT 8 1 3 33 (ss .quo 3 30 34 7 0 9 0 3 aF3))))))
def bH8:Tr:=.loop 0 [lV 8 0,lK 0] (iK 227 9 0 1 46 47 47 47 3 (oh 11 0 48 (aY 12 0 (xG 9 0 1 0 (-1) 50 51 (cT 10 1 3 53 (lh 0 13 14))) (ER 10 9))))
def cc0:Tr:=aY 5 0 (gO 114 [(WK 0)] [(some 2)] [39] [2] 49 false (aV2 6 (xG 0 0 7 1 (-1) 38 44 bH8))) (.loop 0 [lV 0 0,lK 0] (iK 227 6 0 1 46 47 47 47 3 (oh 8 0 48 (aY 9 0 (xG 6 0 1 0 (-1) 50 51 (cT 7 1 3 53 bz6)) (ER 7 6)))))
def cw2:Tr:=bL 1 0 8 47 (bL 0 0 10 47 (ss .geq 3 11 12 3 0 2 0 4 (aY 4 0 ck5 (.need (.prim [(WK 0),(WK 0)] none) (.binOp .gtr 3 (tT 36) (.const (I3 0)) 3) 4 false cc0))))
def aJ9:af prog f241 dV [.v none,.v none]=cw2:=aS
def bR0:Tr:=oa 1 8 17 20 33 38 47 (Dj 229 1 21 39 47 (tG 241 22 0 1 42 43 271 (Ak 23 47 48 (oa 1 8 14 25 47 49 47 (cT 13 1 3 30 (vY 0 24 27 26))))))
def bR5:Tr:=bL 0 0 27 47 (fN 13 0 15 3 26 28 4 (aY 16 0 (XR 1 8 12 32 47 (gW 0 0 13 0 47 34 35 (eZ 18 3 36 (Ak 19 47 37 bR0)))) (Av 229 14 51 47 47 (ER 17 12))))
def cp8:Tr:=en 5 1 18 (Ye 6 47 16 19 (XR 1 8 7 20 47 (Dj 229 1 8 21 47 (bL 1 0 23 47 (en 10 1 24 (.loop 0 [lV 9 0,lV 11 0,.nilrow] bR5))))))
def cz1:Tr:=bL 0 0 10 47 (bL 1 0 12 47 (fN 2 0 3 3 11 13 4 (aY 4 0 (.ret [(.one (.c (.k (.slice none 0 0)))),(W 0 0)]) (bL 1 0 17 47 cp8))))
def bu7:af prog f219 dV [.v none,.v none]=cz1:=aS
def cn8:Tr:=aY 4 0 (uj .mul 3 11 32768 1 0 3 (gW 0 0 2 0 47 13 14 (eZ 6 3 15 (dw 5 7 3 12 16 (cT 2 1 3 9 (lh 0 8 9)))))) af1
def cB1:Tr:=Eg (bL 0 0 6 47 (fN 2 0 3 3 5 7 4 cn8))
def aD7:af prog f225 dV [.v none]=cB1:=aS
def bO6:Tr:=xQ 225 2 26 47 3 (mw 225 3 28 47 3 (.loop 1 [lV 12 0,lV 13 0] (lS 15 0 3 30 (aY 16 0 (ss .rem 3 33 34 14 0 15 0 3 (lh 1 15 17)) (qy 114 14 2 36 2 49 (nS 17 0 17 1))))))
def cr3:Tr:=uj .leq 3 19 4 8 0 4 (aY 9 0 (bL 3 0 22 47 (uj .leq 3 23 4 10 0 4 (aY 11 0 bO6 (tG 219 2 0 3 39 40 247 (TV 3 13 4 0 5 0))))) (tG 219 2 0 3 39 40 247 (TV 3 11 4 0 5 0)))
def cw6:Tr:=.loop 0 [lV 0 1,lV 1 1,lK 0,lN] (bL 3 0 15 47 (uj .gtr 3 16 0 6 0 4 (aY 7 0 (bL 2 0 18 47 cr3) (VZ 2 46 ae2))))
def bk7:af prog f218 dV [.v (some 2),.v (some 2)]=cw6:=aS
def YR{m long i:Nat}(h:i<long:=by omega):m/32768^(long-i)*32768+m/32768^(long-1-i)%32768=m/32768^(long-(i+1)):=by
 have e:m/32768^(long-i)=m/32768^(long-(i+1))/32768:=by
  rw[nK,<-bw];congr 2;omega
 rw[e,show long-1-i=long-(i+1) by omega];have:=QM (m/32768^(long-(i+1))) 32768;omega
def wb{m long i:Nat}(h:i<=long)(hm:m<32768^long):m/32768^(long-i)<32768^i:=by
 rw[kZ (ez O),<-eK,show i+(long-i)=long by omega];exact hm
def af6{i:Nat}(h:i<=4:=by omega):32768^i<=1152921504606846976:=by
 have:=gI (n:=32768) O h;rw[show(32768:Nat)^4=1152921504606846976 by decide]at this;exact this
def xK(m long k:Nat)(hm:m<32768^long)(hk:k<=long:=by omega)(hk4:k<=4:=by omega)(hl:long<1099511627776:=by omega)(hs:(bd m).length<1099511627776:=by omega):aX prog 260 [(.one (bT m):aQ),(.one (.int .i64 long):aQ),(.one (.int .i64 k):aQ)] (.ret [.one (.int .i64 ((m/32768^(long-k):Nat):Int))]):=by
 refine eD func260 bb9 ?_;refine bZ {i:Nat // i<=k} (fun g=>[.one (.int .i64 ((m/32768^(long-g.1):Nat):Int)),.one (.int .i64 g.1)]) (fun g=>k-g.1) ⟨0,dM _⟩ ⟨aQ.Sub.of_eq (congrArg (fun q:Nat=>aQ.one (aC.int .i64 (q:Int))) (by show 0=m/32768^long;rw[fR hm])),aQ.Sub.same,trivial⟩ (fun _=>rfl) ?_;rintro⟨i,hi⟩;dsimp only[aU,aV]at hi|-;apply vn bO;refine l4 ?_ ?_<;>intro h2
 .have hx:=wb (m:=m) (i:=i) (long:=long) O hm;have hp:=af6 (i:=i);have hstep:=YR (m:=m) (long:=long) (i:=i);have hlt:=wb (m:=m) (i:=i+1) (long:=long) O hm;have hp2:=af6 (i:=i+1);generalize m/32768^(long-i)=x at *;generalize hy:m/32768^(long-(i+1))=y at *;apply vn lD;apply vn (aI O O);dsimp only[aU,aV];apply vn (qJ (c:=((long-1-i:Nat):Int)) (by rw[show((long:Int)-1-(i:Int))=((long-1-i:Nat):Int) by omega];exact gz)) rfl;apply aA (Dd m (long-1-i) hs);generalize m/32768^(long-1-i)%32768=d at *;dsimp only[aU,aV];apply vn (gF (c:=(y:Int)) (by rw[show(x:Int)*32768+(d:Int)=(y:Int) by omega];exact gz)) rfl;apply vn (aB O O);dsimp only[aU,aV];exact aq rfl ⟨⟨i+1,O⟩,⟨aQ.Sub.of_eq (congrArg (fun q:Nat=>aQ.one (aC.int .i64 (q:Int))) hy.symm),aQ.Sub.same,trivial⟩,by show k-(i+1)<k-i;omega⟩
 rw[show k=i by omega];exact aR
def ab2{d:Nat}(h:0<d):zT (d:Int)=.agg [.int .i64 1,bT d]:=by
 rw[zT,zC,gZ O];rfl
def aV8{r d m:Nat}:r/32768^m/(d/32768^m+1)*d<=r:=by
 have hp:0<32768^m:=ez O
 have h1:d<=(d/32768^m+1)*32768^m:=by
  rw[cN];exact mW (ao2 d hp)
 calc r/32768^m/(d/32768^m+1)*d<=r/32768^m/(d/32768^m+1)*((d/32768^m+1)*32768^m):=dz _ h1
  _=r/32768^m/(d/32768^m+1)*(d/32768^m+1)*32768^m:=(ej _ _ _).symm
  _<=r/32768^m*32768^m:=cY _ (rO _ _)
  _<=r:=rO _ _
def bb1(r d:Nat)(hd:0<d)(hr:r<d*32768)(hs:(bd d).length<34359738368:=by omega):aX prog 241 [(.one (bT r):aQ),(.one (bT d):aQ)] (.ret [.one (.int .i64 ((r/d:Nat):Int)),.one (bT (r%d))]):=by
 refine eD func241 aJ9 ?_;have hdl:=Eo d
 have hrl:r<32768^((bd d).length+1):=by
  rw[bw];exact Qc hr (sZ hdl O)
 have hrs:=lE hrl;have hle:∀q,q<=r->(bd q).length<=(bd d).length+1:=fun q hq=>bG (gR hq) hrs
 have hdn:0<(bd d).length:=by
  rcases ju (bd d).length with h | h
  .have:=Fo.1 (ep h);omega
  .exact h
 have hqB:r/d<32768:=by rw[kZ hd,cN];exact hr
 have hkd:∀k,k*d<=r->k<32768:=fun k hk=>by
  have:k<=r/d:=by rw[wk hd];exact hk
  omega
 have hfin:∀r' k,r'+k*d=r->r'<d->k=r/d/\r'=r%d:=fun r' k h1 h2=>yz (by rw[<-h1,cN]) h2
 have hah:∀r':Nat,(0<=gD (r':Int) (d:Int))↔d<=r':=fun r'=>by
  have:=tR (a:=(r':Int)) (b:=(d:Int));omega
 apply vn (ae gG (aL _));apply vn (ae gG (aL _));apply vn kz;refine l4 ?_ ?_<;>intro h3
 .apply vn nR;refine l4 ?_ ?_<;>intro h5
  .apply vn (aB O O);apply vn (aB O O);apply aA (xK r ((bd d).length+1) ((bd d).length+1) hrl (ah _));rw[fE,sG,pK];apply aA (xK d (bd d).length (bd d).length hdl (ah _));rw[fE,sG,pK];dsimp only[aU,aV];obtain⟨k,hk⟩:∃k,r/d=k:=⟨_,rfl⟩
   have hk1:k*d<=r:=by rw[<-hk];exact rO _ _
   have hk2:=hkd k hk1;apply vn (rG (c:=(k:Int)) O (by rw[qa (qN _),<-BF,hk];exact gz)) rfl;apply vn jD;refine l4 ?_ ?_<;>intro h12
   .have hm:=lX (k:Int) (d:Int) (by
     rw[bj,bj];have:(bd k).length<=1:=lE O;omega)
    rw[ab2 hd,show(k:Int)*(d:Int)=((k*d:Nat):Int) by rw[jH]]at hm;apply aA (pW k);apply aA hm;apply aA (mP r (k*d) (r-k*d) (-1) (.inr rfl) (by have:=hle _ hk1;omega)) rfl;dsimp only[aU,aV];refine bZ {g:Nat×Nat // g.1+g.2*d=r} (fun g=>[.one (bT g.1.1),.one (.int .i64 g.1.2)]) (fun g=>g.1.1) ⟨(r-k*d,k),by show r-k*d+k*d=r;omega⟩ ai.rfl (fun _=>rfl) ?_;rintro⟨⟨r',k'⟩,hg⟩;dsimp only[aU,aV]at hg|-;have hk3:=hkd k' O;have hr3:=hle r' O;apply aA (qw r' d);apply vn kz;refine l4 ?_ ?_<;>intro h19
    .have hdr:d<=r':=(hah r').1 b8;apply aA (mP r' d (r'-d) (-1) (.inr rfl));apply vn (aB O O);dsimp only[aU,aV];exact aq rfl ⟨⟨(r'-d,k'+1),by show r'-d+(k'+1)*d=r;rw[bt];omega⟩,ai.rfl,by show r'-d<r';omega⟩
    have hdr:r'<d:=by
     rcases gP r' d with h | h
     .exact h
     .exact absurd ((hah r').2 h) b8
    obtain⟨e1,e2⟩:=hfin r' k' hg hdr;rw[<-e1,<-e2];exact aR
   refine bZ {g:Nat×Nat // g.1+g.2*d=r} (fun g=>[.one (bT g.1.1),.one (.int .i64 g.1.2)]) (fun g=>g.1.1) ⟨(r,0),O⟩ ⟨aQ.Sub.same,aQ.Sub.of_eq (congrArg (fun q:Nat=>aQ.one (aC.int .i64 (q:Int))) (by show k=0;omega)),trivial⟩ (fun _=>rfl) ?_;rintro⟨⟨r',k'⟩,hg⟩;dsimp only[aU,aV]at hg|-;have hk3:=hkd k' O;have hr3:=hle r' O;apply aA (qw r' d);apply vn kz;refine l4 ?_ ?_<;>intro h27
   .have hdr:d<=r':=(hah r').1 b8;apply aA (mP r' d (r'-d) (-1) (.inr rfl));apply vn (aB O O);dsimp only[aU,aV];exact aq rfl ⟨⟨(r'-d,k'+1),by show r'-d+(k'+1)*d=r;rw[bt];omega⟩,ai.rfl,by show r'-d<r';omega⟩
   have hdr:r'<d:=by
    rcases gP r' d with h | h
    .exact h
    .exact absurd ((hah r').2 h) b8
   obtain⟨e1,e2⟩:=hfin r' k' hg hdr;rw[<-e1,<-e2];exact aR
  apply vn (aB O O);apply aA (xK r ((bd d).length+1) 4 hrl);apply aA (xK d (bd d).length 3 hdl);rw[show(bd d).length+1-4=(bd d).length-3 by omega];have hd3:=wb (m:=d) (long:=(bd d).length) (i:=3) O hdl;have hr4:=wb (m:=r) (long:=(bd d).length+1) (i:=4) O hrl;rw[show(bd d).length+1-4=(bd d).length-3 by omega]at hr4;have hp3:=af6 (i:=3);have hp4:=af6 (i:=4);have hk1:=aV8 (r:=r) (d:=d) (m:=(bd d).length-3);generalize r/32768^((bd d).length-3)=rt at *;generalize d/32768^((bd d).length-3)=dt at *;obtain⟨k,hk⟩:∃k,rt/(dt+1)=k:=⟨_,rfl⟩
  rw[hk]at hk1;have hk2:=hkd k hk1;apply vn (aB O O);dsimp only[aU,aV];apply vn (rG (c:=(k:Int)) O (by rw[qa (qN _),show((dt:Int)+1)=((dt+1:Nat):Int) by omega,<-BF,hk];exact gz)) rfl;apply vn jD;refine l4 ?_ ?_<;>intro h38
  .have hm:=lX (k:Int) (d:Int) (by
    rw[bj,bj];have:(bd k).length<=1:=lE O;omega)
   rw[ab2 hd,show(k:Int)*(d:Int)=((k*d:Nat):Int) by rw[jH]]at hm;apply aA (pW k);apply aA hm;apply aA (mP r (k*d) (r-k*d) (-1) (.inr rfl) (by have:=hle _ hk1;omega)) rfl;dsimp only[aU,aV];refine bZ {g:Nat×Nat // g.1+g.2*d=r} (fun g=>[.one (bT g.1.1),.one (.int .i64 g.1.2)]) (fun g=>g.1.1) ⟨(r-k*d,k),by show r-k*d+k*d=r;omega⟩ ai.rfl (fun _=>rfl) ?_;rintro⟨⟨r',k'⟩,hg⟩;dsimp only[aU,aV]at hg|-;have hk3:=hkd k' O;have hr3:=hle r' O;apply aA (qw r' d);apply vn kz;refine l4 ?_ ?_<;>intro h45
   .have hdr:d<=r':=(hah r').1 b8;apply aA (mP r' d (r'-d) (-1) (.inr rfl));apply vn (aB O O);dsimp only[aU,aV];exact aq rfl ⟨⟨(r'-d,k'+1),by show r'-d+(k'+1)*d=r;rw[bt];omega⟩,ai.rfl,by show r'-d<r';omega⟩
   have hdr:r'<d:=by
    rcases gP r' d with h | h
    .exact h
    .exact absurd ((hah r').2 h) b8
   obtain⟨e1,e2⟩:=hfin r' k' hg hdr;rw[<-e1,<-e2];exact aR
  refine bZ {g:Nat×Nat // g.1+g.2*d=r} (fun g=>[.one (bT g.1.1),.one (.int .i64 g.1.2)]) (fun g=>g.1.1) ⟨(r,0),O⟩ ⟨aQ.Sub.same,aQ.Sub.of_eq (congrArg (fun q:Nat=>aQ.one (aC.int .i64 (q:Int))) (by show k=0;omega)),trivial⟩ (fun _=>rfl) ?_;rintro⟨⟨r',k'⟩,hg⟩;dsimp only[aU,aV]at hg|-;have hk3:=hkd k' O;have hr3:=hle r' O;apply aA (qw r' d);apply vn kz;refine l4 ?_ ?_<;>intro h53
  .have hdr:d<=r':=(hah r').1 b8;apply aA (mP r' d (r'-d) (-1) (.inr rfl));apply vn (aB O O);dsimp only[aU,aV];exact aq rfl ⟨⟨(r'-d,k'+1),by show r'-d+(k'+1)*d=r;rw[bt];omega⟩,ai.rfl,by show r'-d<r';omega⟩
  have hdr:r'<d:=by
   rcases gP r' d with h | h
   .exact h
   .exact absurd ((hah r').2 h) b8
  obtain⟨e1,e2⟩:=hfin r' k' hg hdr;rw[<-e1,<-e2];exact aR
 apply vn jD;refine l4 ?_ ?_<;>intro h59
 .exfalso;omega
 refine bZ {g:Nat×Nat // g.1+g.2*d=r} (fun g=>[.one (bT g.1.1),.one (.int .i64 g.1.2)]) (fun g=>g.1.1) ⟨(r,0),O⟩ ai.rfl (fun _=>rfl) ?_;rintro⟨⟨r',k'⟩,hg⟩;dsimp only[aU,aV]at hg|-;have hk3:=hkd k' O;have hr3:=hle r' O;apply aA (qw r' d);apply vn kz;refine l4 ?_ ?_<;>intro h74
 .have hdr:d<=r':=(hah r').1 b8;apply aA (mP r' d (r'-d) (-1) (.inr rfl));apply vn (aB O O);dsimp only[aU,aV];exact aq rfl ⟨⟨(r'-d,k'+1),by show r'-d+(k'+1)*d=r;rw[bt];omega⟩,ai.rfl,by show r'-d<r';omega⟩
 have hdr:r'<d:=by
  rcases gP r' d with h | h
  .exact h
  .exact absurd ((hah r').2 h) b8
 obtain⟨e1,e2⟩:=hfin r' k' hg hdr;rw[<-e1,<-e2];exact aR
def lp(a d:Nat)(hd:0<d:=by omega)(hs:(bd a).length+(bd d).length<34359738368:=by omega):aX prog 219 [(.one (bT a):aQ),(.one (bT d):aQ)] (.ret [.one (bT (a/d)),.one (bT (a%d))]):=by
 refine eD func219 bu7 ?_
 have hdn:0<(bd d).length:=by
  rcases ju (bd d).length with h | h
  .have:=Fo.1 (ep h);omega
  .exact h
 apply vn (ae gG (aL _));apply vn (ae gG (aL _));apply vn bO;refine l4 ?_ ?_<;>intro h3
 .have had:=ve (a:=a) (b:=d);refine gj ⟨bd2 (fR had),?_,trivial⟩;rw[fL had];exact aC.Sub.same
 apply vn (ae gG (aL _));apply vn (aI O O);apply vn (bv2 (m:=(bd d).length-1));refine qc (ts:=[]) (us:=rB ((bd a).take ((bd d).length-1))) (vs:=rB ((bd a).take ((bd d).length-1))) rfl (.inr aC.Sub.same) rfl b6 (by simp[maxLen];omega) ?_;apply aA (td ((bd a).take ((bd d).length-1)) ((jo a).take _) (by rw[bh];omega)) rfl;dsimp only[aU,aV];apply vn (ae gG (aL _));apply vn (aI O O);dsimp only[aU,aV]
 refine bZ {g:Nat×Nat×List Nat // (bd d).length-1<=g.1/\g.1<=(bd a).length/\bv ((bd a).take g.1)=g.2.1+d*bv g.2.2/\g.2.1<d/\DB 32768 g.2.2/\g.2.2.length<=g.1} (fun g=>[.one (bT g.1.2.1),.one (.int .i64 g.1.1),.rows (rB g.1.2.2)]) (fun g=>(bd a).length-g.1.1) ⟨((bd d).length-1,bv ((bd a).take ((bd d).length-1)),[]),ah _,by show(bd d).length-1<=_;omega,by simp[bv,val],by
  have h1:=YH ((jo a).take ((bd d).length-1));rw[bh,de O]at h1;exact cM h1 (cu5 O),aI8,dM _⟩ ⟨aQ.Sub.same,aQ.Sub.of_eq (congrArg (fun q=>aQ.one (aC.int .i64 q)) (by show((bd d).length:Int)-1=(((bd d).length-1:Nat):Int);omega)),aQ.Sub.same,trivial⟩ (fun _=>rfl) ?_
 rintro⟨⟨i,R,qs⟩,hi1,hi2,hv,hR,hq,hql⟩;dsimp only[aU,aV]at hi1 hi2 hv hR hq hql|-;have hRl:=gR (mW hR);apply vn (ae gG (aL _));apply vn bO;refine l4 ?_ ?_<;>intro h15
 .obtain⟨x,hx⟩:∃x,(bd a)[i]?=some x:=⟨_,bM O⟩
  have hxB:=(jo a).get hx;refine qc (ts:=[]) (us:=rB (bd R)) (vs:=rB (bd R)) rfl (.inr aC.Sub.same) rfl b6 (by simp[maxLen];omega) ?_;apply vn (aN gG O O hx);apply vn (bq ag3);apply et (us:=rB [x]);refine qc (ts:=rB (bd R)) (us:=rB [x]) (vs:=rB (bd R++[x])) rfl rfl (by rw[rB,rB,rB,<-cG]) b6 (by simp[maxLen];omega) ?_;dsimp only[aU,aV];have hdb:DB 32768 (bd R++[x]):=(jo R).append (fun y hy=>by simp at hy;omega);apply aA (td (bd R++[x]) hdb b6) rfl;rw[Co,iD]
  apply aA (bb1 (R*32768+x) d hd (by
   have:(R+1)*32768<=d*32768:=cY _ hR;omega)) rfl
  have hmd:=mf (R*32768+x) d
  have hqB:(R*32768+x)/d<32768:=by
   rw[kZ hd,cN];have:(R+1)*32768<=d*32768:=cY _ hR;omega
  have hRm:=eC (R*32768+x) hd;generalize (R*32768+x)/d=k at *;generalize (R*32768+x)%d=R' at *;apply et (us:=rB [k]);refine qc (ts:=rB qs) (us:=rB [k]) (vs:=rB (qs++[k])) rfl rfl (by rw[rB,rB,rB,<-cG]) b6 (by simp[maxLen];omega) ?_;apply vn (aB O O);dsimp only[aU,aV]
  exact aq rfl ⟨⟨(i+1,R',qs++[k]),by show _<=i+1;omega,by show i+1<=_;omega,by
   show bv ((bd a).take (i+1))=R'+d*bv (qs++[k]);rw[take_succ hx,Co,Co,hv,dr,bt,<-ej];omega,hRm,hq.append (fun y hy=>by simp at hy;omega),by show(qs++[k]).length<=i+1;simp;omega⟩,ai.rfl,by show(bd a).length-(i+1)<(bd a).length-i;omega⟩
 have hie:i=(bd a).length:=O
 subst hie;rw[jC,iD]at hv;obtain⟨e1,e2⟩:=yz hv hR;apply aA (td qs hq);dsimp only[aU,aV];rw[<-e1,<-e2];exact aR
def DE(m:Nat)(hm:(bd m).length<=4:=by omega):aX prog 225 [(.one (bT m):aQ)] (.ret [.one (.int .i64 m)]):=by
 refine eD func225 aD7 ?_;refine bZ {i:Nat // i<=(bd m).length} (fun g=>[.one (.int .i64 (bv ((bd m).take g.1):Nat)),.one (.int .i64 g.1)]) (fun g=>(bd m).length-g.1) ⟨0,dM _⟩ ai.rfl (fun _=>rfl) ?_;rintro⟨i,hi⟩;dsimp only[aU,aV]at hi|-;apply vn (ae gG (aL _));apply vn bO;refine l4 ?_ ?_<;>intro h3
 .obtain⟨x,hx⟩:∃x,(bd m)[i]?=some x:=⟨_,bM O⟩
  have hxB:=(jo m).get hx;have hb:=YH ((jo m).take i);rw[bh,de hi]at hb;have hp:=af6 (i:=i);have hb2:=YH ((jo m).take (i+1));rw[bh,de O]at hb2;have hp2:=af6 (i:=i+1);have hsn:bv ((bd m).take (i+1))=bv ((bd m).take i)*32768+x:=by rw[take_succ hx,Co]
  generalize bv ((bd m).take i)=y at *;apply vn lD;apply vn (aN gG O O hx);apply vn (bq ag3);apply vn (aB O O);apply vn (aB O O);dsimp only[aU,aV];exact aq rfl ⟨⟨i+1,O⟩,⟨aQ.Sub.of_eq (congrArg (fun q:Int=>aQ.one (aC.int .i64 q)) (by show(y:Int)*32768+x=((bv ((bd m).take (i+1)):Nat):Int);omega)),aQ.Sub.same,trivial⟩,by show(bd m).length-(i+1)<(bd m).length-i;omega⟩
 rw[show i=(bd m).length by omega,jC,iD];exact aR
def ai5(x y:Int)(hs:(bd x.natAbs).length<17179869184:=by omega)(oz:(bd y.natAbs).length<17179869184:=by omega):aX prog 218 [(zT x:aQ),(zT y:aQ)] (.ret [zT ((Nat.gcd x.natAbs y.natAbs:Nat):Int)]):=by
 refine eD func218 bk7 ?_;refine bZ {p:Nat×Nat // Nat.gcd p.1 p.2=Nat.gcd x.natAbs y.natAbs/\(bd p.1).length<17179869184/\(bd p.2).length<17179869184} (fun p=>[.one (bT p.1.1),.one (bT p.1.2),.one (.int .i64 0),.one (.exact (.slice none 0 0))]) (fun p=>p.1.2) ⟨(x.natAbs,y.natAbs),rfl,hs,oz⟩ ai.rfl (fun _=>rfl) ?_;rintro⟨⟨a,b⟩,hg,ha,hb⟩;dsimp only[aU,aV]at hg ha hb|-;have hbz:(bd b).length=0↔b=0:=by rw[BW,Fo]
 have hml:=gR (ug a b);apply vn (ae gG (aL _));apply vn jD;refine l4 ?_ ?_<;>intro h3
 .have hb0:0<b:=by
   rcases ju b with h | h
   .have:=hbz.2 h;omega
   .exact h
  apply vn (ae gG (aL _));apply vn nR;refine l4 ?_ ?_<;>intro h6
  .apply vn (ae gG (aL _));apply vn nR;refine l4 ?_ ?_<;>intro h9
   .have h4:∀n,(bd n).length<=4->n<1152921504606846976:=fun n hn=>cM (Eo n) (af6 hn);have ha4:=h4 a O;have hb4:=h4 b O;apply aA (DE a);apply aA (DE b);dsimp only[aU,aV];refine bZ {p:Nat×Nat // Nat.gcd p.1 p.2=Nat.gcd x.natAbs y.natAbs/\p.1<1152921504606846976/\p.2<1152921504606846976} (fun p=>[.one (.int .i64 p.1.1),.one (.int .i64 p.1.2)]) (fun p=>p.1.2) ⟨(a,b),hg,ha4,hb4⟩ ai.rfl (fun _=>rfl) ?_;rintro⟨⟨p,q⟩,hpq,hp,hq⟩;dsimp only[aU,aV]at hpq hp hq|-;apply vn iC;refine l4 ?_ ?_<;>intro h14
    .apply vn (Ff (c:=((p%q:Nat):Int)) O (by rw[sa (qN _),<-TC]));exact aq rfl ⟨⟨(q,p%q),by rw[<-hpq,kM p q,uN q p,kM],hq,fM (ug _ _) hp⟩,ai.rfl,eC _ O⟩
    have hq0:q=0:=O
    subst hq0;rw[Ce]at hpq;apply aA (pW p);dsimp only[aU,aV];rw[<-hpq];exact aR
   apply aA (lp a b hb0);dsimp only[aU,aV];exact aq rfl ⟨⟨(b,a%b),by rw[<-hg,kM a b,uN b a,kM],hb,by show(bd (a%b)).length<_;omega⟩,ai.rfl,eC _ hb0⟩
  apply aA (lp a b hb0);dsimp only[aU,aV];exact aq rfl ⟨⟨(b,a%b),by rw[<-hg,kM a b,uN b a,kM],hb,by show(bd (a%b)).length<_;omega⟩,ai.rfl,eC _ hb0⟩
 have hb0:b=0:=hbz.1 O;subst hb0;rw[Ce]at hg;apply aA (iW 1 (a:Int) (bd a) (jo _) (by rw[iD];rfl) (fun hne=>by rw[iD]at hne;exact gZ O)) rfl;dsimp only[aU,aV];rw[<-hg];exact aR
def cx2:Tr:=ir 0 2 0 3 5 (aY 1 0 (yF 114 1 2 2 49 (nS 2 0 2 1)) (nS 0 2 0 3))
def bZ3:af prog f120 dV [.v (some 4)]=cx2:=aS
def ca4:Tr:=ir 9 0 1 3 28 (aY 10 0 (si 3 3 1 4 0 4 1) (tG 219 3 1 5 36 38 247 (tG 219 4 1 5 44 46 247 (WC 189 3 11 2 51 52 3 47 49 (VZ 13 54 (si 15 15 1 16 0 16 1))))))
def cp2:Tr:=ir 6 0 1 3 22 (aY 7 0 (nE 5 1 0 47 26 (eZ 8 3 27 ca4)) (tG 219 3 1 5 36 38 247 (tG 219 4 1 5 44 46 247 (WC 189 3 8 2 51 52 3 47 49 (VZ 10 54 (si 12 12 1 13 0 13 1))))))
def bU4:Tr:=ir 7 0 1 3 28 (aY 8 0 (si 0 0 1 1 0 1 1) (tG 219 0 1 3 36 38 247 (tG 219 1 1 3 44 46 247 (WC 189 0 9 2 51 52 3 47 49 (VZ 11 54 (si 13 13 1 14 0 14 1))))))
def bD6:Tr:=ir 4 0 1 3 22 (aY 5 0 (nE 3 1 0 47 26 (eZ 6 3 27 bU4)) (tG 219 0 1 3 36 38 247 (tG 219 1 1 3 44 46 247 (WC 189 0 6 2 51 52 3 47 49 (VZ 8 54 (si 10 10 1 11 0 11 1))))))
def cm5:Tr:=jy 1 0 0 3 11 (aY 2 0 (gO 217 [(G2 0)] [(some 2)] [13] [49] 49 false (gO 217 [(G2 1)] [(some 2)] [15] [49] 49 true (sj 218 3 4 2 17 18 49 (bL 5 1 21 47 cp2)))) (sj 218 0 1 2 17 18 49 (bL 3 1 21 47 bD6)))
def aF4:af prog f173 dV [.v (some 2),.v (some 2)]=cm5:=aS
def by6:Tr:=si 1 1 1 2 0 2 1
def ct2:Tr:=qy 114 0 2 3 2 49 (yF 114 1 2 2 49 by6)
def bL1:af prog f39 dV [.v none]=ct2:=aS
def cn3:Tr:=OF 114 0 2 5 49 (qy 114 1 2 7 2 49 (sj 173 2 3 4 6 8 51 (si 4 4 1 4 2 4 3)))
def cA2:af prog f75 dV [.v none,.v none]=cn3:=aS
def ck8:Tr:=xt 119 1 4 11 13 49 (xt 187 3 5 9 14 49 (sf 0 16 (sf 1 18 (sj 119 7 8 2 17 19 49 (sj 173 6 9 4 15 20 51 (si 10 10 1 10 2 10 3))))))
def cf2:Tr:=sf 1 7 (xt 119 0 2 6 8 49 (sf 0 12 ck8))
def cc3:af prog f99 dV [.v (some 4),.v (some 4)]=cf2:=aS
def cp4:Tr:=gO 185 [(G4 1)] [(some 4)] [6] [51] 51 true (Aq 99 0 0 1 0 2 0 3 2 2 1 2 2 2 3 5 7 (si 3 3 1 3 2 3 3))
def cc1:af prog f96 dV [.v (some 4),.v (some 4)]=cp4:=aS
def bB3:Tr:=si 6 6 1 6 2 6 3
def cA7:Tr:=xt 119 0 1 6 8 49 (sf 0 10 (sf 1 12 (sj 119 3 4 2 11 13 49 (sj 173 2 5 4 9 14 51 bB3))))
def bR1:af prog f77 dV [.v (some 4),.v (some 4)]=cA7:=aS
def cg9:Tr:=sf 1 7 (xt 119 0 2 6 8 49 (sf 0 10 (sj 119 4 1 2 11 13 49 (sj 173 3 5 4 9 14 51 bB3))))
def bG0:af prog f151 dV [.v (some 4),.v (some 4)]=cg9:=aS
def cv9:Tr:=gO 217 [(G2 0)] [(some 2)] [4] [49] 49 false (gO 120 [(G4 0)] [(some 2)] [6] [51] 49 true by6)
def bY1:af prog f185 dV [.v (some 4)]=cv9:=aS
def cj6:Tr:=sf 1 7 (xt 119 0 2 6 8 49 (sf 0 12 (sj 119 1 4 2 11 13 49 (gO 118 [(G2 3),(G2 5)] [none] [9,14] [49,49] 3 true (cd 6)))))
def cc6:af prog f41 dV [.v (some 4),.v (some 4)]=cj6:=aS
def cm7:Tr:=cd 0
def bi8:af prog f56 dV [.v (some 4)]=cm7:=aS
structure RQ where
 q:Rat
 z:Bool
 h:z=true->q=0
def RQ.of(q:Rat):RQ:=⟨q,false,fun h=>by cases h⟩
def RQ.nil:RQ:=⟨0,true,fun _=>rfl⟩
abbrev rC(a:RQ):List aC:=[.int .i64 a.q.num.sign,bT a.q.num.natAbs,.int .i64 (if a.z then 0 else 1),bT (if a.z then 0 else a.q.den)]
abbrev jl(a:RQ):aQ:=.agg (rC a)
def RQ.KT(q:Rat):(RQ.of q).q=q:=rfl
def bO4(q:Rat):zT (q.den:Int)=.agg [.int .i64 1,bT q.den]:=ab2 q.den_pos
def cq5:az aC.Sub [.int .i64 0,.exact (.slice none 0 0),.int .i64 0,.exact (.slice none 0 0)] (rC RQ.nil):=⟨aC.Sub.same,bd2 rfl,aC.Sub.same,bd2 rfl,trivial⟩
def mO(a:RQ):aX prog 120 [(jl a:aQ)] (.ret [zT (a.q.den:Int)]):=by
 refine eD func120 bZ3 ?_;apply vn cW;refine l4 ?_ ?_<;>intro h1
 .have ha:a.z=true:=by cases h:a.z<;>simp_all
  have hq:=a.h ha;apply aA (pW 1);dsimp only[aU,aV];rw[hq];exact aR
 have ha:a.z=false:=by cases h:a.z<;>simp_all
 refine aR ?_;rw[bO4];show[aQ.agg [.int .i64 (if a.z then 0 else 1),bT (if a.z then 0 else a.q.den)]]=_;rw[ha];rfl
def ib{n B:Nat}(h:n<2^B):(bd n).length<=B:=lE (cM h (sL O B))
def ux(n d:Int):Rat:=mkRat (if d<0 then -n else n) d.natAbs
def bu3{z:Int}{d:Nat}(hd:d≠0:=by omega):(mkRat z d).num=z/((z.natAbs.gcd d:Nat):Int)/\(mkRat z d).den=d/z.natAbs.gcd d/\(mkRat z d).num.natAbs=z.natAbs/z.natAbs.gcd d/\(mkRat z d).num.sign=z.sign:=by
 obtain⟨h1,h2⟩:=aO9 (z:=z) hd;have hg:0<z.natAbs.gcd d:=wO _ O;have hgz:z≠0->z.natAbs.gcd d<=z.natAbs:=fun h=>Nat.gcd_le_left _ O
 have h3:(mkRat z d).num.natAbs=z.natAbs/z.natAbs.gcd d:=by
  rw[h1];generalize z.natAbs/z.natAbs.gcd d=t;split<;>omega
 refine⟨?_,h2,h3,?_⟩
 .rw[<-Cp hd,Cl hd]
 .rcases dS z with⟨h,e⟩ | ⟨h,e⟩ | ⟨h,e⟩
  .rw[e,h1,bz h,aF rfl];have:=oC (hgz O) hg;exact qD O
  .rw[e];subst h;rw[Rat.zero_mkRat];rfl
  .rw[e,h1,dn O,aG aT];have:=oC (hgz O) hg;exact gZ O
def wT{g:Nat}(h:(bd g).length=1){x:Nat}(hx:(bd g)[0]?=some x):g=x:=by
 match hb:bd g,h with
 | [y],_=>
   rw[hb]at hx;simp only[nJ,aZ]at hx;subst hx;rw[<-iD g,hb,Bv];simp[bv,val]
def Ad{q:Rat}:jl (RQ.of q)=.agg [.int .i64 q.num.sign,bT q.num.natAbs,.int .i64 1,bT q.den]:=rfl
def yB(n d:Int)(hd:d≠0)(oz:(bd d.natAbs).length<8589934592:=by omega)(hs:(bd n.natAbs).length<8589934592:=by omega):aX prog 173 [(zT n:aQ),(zT d:aQ)] (.ret [jl (.of (ux n d))]):=by
 refine eD func173 aF4 ?_;have hsd:=dS d
 have key:∀m:Int,m.natAbs=n.natAbs->ux n d=mkRat m d.natAbs->(ux n d).den=d.natAbs/Nat.gcd n.natAbs d.natAbs/\(ux n d).num.natAbs=n.natAbs/Nat.gcd n.natAbs d.natAbs/\(ux n d).num.sign=m.sign:=fun m hm e=>by
  have:=bu3 (z:=m) (d:=d.natAbs);rw[hm]at this;rw[e];exact⟨this.2.1,this.2.2.1,this.2.2.2⟩
 have hg:0<Nat.gcd n.natAbs d.natAbs:=wO _ O;have hgd:Nat.gcd n.natAbs d.natAbs<=d.natAbs:=Nat.gcd_le_right _ O;have hgl:=gR hgd;have hdg:=oC hgd hg;have hnl:=gR (rm n.natAbs (Nat.gcd n.natAbs d.natAbs));have hdl:=gR (rm d.natAbs (Nat.gcd n.natAbs d.natAbs));apply vn bO;refine l4 ?_ ?_<;>intro h1
 .have hd0:d<0:=by rcases hsd with⟨h,e⟩ | ⟨h,e⟩ | ⟨h,e⟩<;>omega
  have hR:ux n d=mkRat (-n) d.natAbs:=by rw[ux,aF hd0]
  obtain⟨k1,k2,k3⟩:=key (-n) (iY n) hR;generalize ux n d=q at *;apply aA (CB n);apply aA (CB d);dsimp only[aU,aV];have hc:=ai5 (-n) (-d) (by rw[iY];omega) (by rw[iY];omega);rw[iY,iY]at hc;apply aA hc;generalize hG:Nat.gcd n.natAbs d.natAbs=g at *;apply vn (ae gG (aL _));apply vn cW;refine l4 ?_ ?_<;>intro h7
  .obtain⟨x,hx⟩:∃x,(bd g)[0]?=some x:=⟨_,bM (by rw[bj]at h7;omega)⟩
   apply vn (aN gG O O (show(bd ((g:Int)).natAbs)[0]?=some x from hx));apply vn (bq ag3);apply vn cW;refine l4 ?_ ?_<;>intro h11
   .have hg1:g=1:=by
     have:=wT (g:=g) (by rw[bj]at h7;omega) hx;omega
    rw[hg1,pK]at k1 k2;refine aR ?_;rw[Ad,k3,k2,k1];show[aQ.agg [.int .i64 (-n).sign,bT (-n).natAbs,.int .i64 (-d).sign,bT (-d).natAbs]]=_;rw[iY,iY,gZ (show 0 < -d by omega)]
   have ho1:=lp n.natAbs g hg;have ho2:=lp d.natAbs g hg;rw[<-k2]at ho1 hnl;rw[<-k1]at ho2 hdl hdg;have hn':(-n).natAbs=n.natAbs:=iY n;have hd':(-d).natAbs=d.natAbs:=iY d;rw[<-hn']at ho1;rw[<-hd']at ho2;apply aA ho1;apply aA ho2;dsimp only[aU,aV];apply aA (iW (-n).sign q.num _ (jo _) (by rw[iD]) (fun _=>k3));apply aA (iW 1 (q.den:Int) _ (jo _) (by rw[iD];rfl) (fun _=>gZ O)) rfl;dsimp only[aU,aV];refine aR ?_;rw[Ad];show[aQ.agg [.int .i64 q.num.sign,bT q.num.natAbs,.int .i64 (q.den:Int).sign,bT (q.den:Int).natAbs]]=_;rw[gZ (show(0:Int)<q.den by omega),bj]
  have ho1:=lp n.natAbs g hg;have ho2:=lp d.natAbs g hg;rw[<-k2]at ho1 hnl;rw[<-k1]at ho2 hdl hdg;have hn':(-n).natAbs=n.natAbs:=iY n;have hd':(-d).natAbs=d.natAbs:=iY d;rw[<-hn']at ho1;rw[<-hd']at ho2;apply aA ho1;apply aA ho2;apply aA (iW (-n).sign q.num _ (jo _) (by rw[iD]) (fun _=>k3));apply aA (iW 1 (q.den:Int) _ (jo _) (by rw[iD];rfl) (fun _=>gZ O)) rfl;dsimp only[aU,aV];refine aR ?_;rw[Ad];show[aQ.agg [.int .i64 q.num.sign,bT q.num.natAbs,.int .i64 (q.den:Int).sign,bT (q.den:Int).natAbs]]=_;rw[gZ (show(0:Int)<q.den by omega),bj]
 have hd0:0<d:=by rcases hsd with⟨h,e⟩ | ⟨h,e⟩ | ⟨h,e⟩<;>omega
 have hR:ux n d=mkRat n d.natAbs:=by rw[ux,aG O]
 obtain⟨k1,k2,k3⟩:=key n rfl hR;generalize ux n d=q at *;have hc:=ai5 n d;apply aA hc;generalize hG:Nat.gcd n.natAbs d.natAbs=g at *;apply vn (ae gG (aL _));apply vn cW;refine l4 ?_ ?_<;>intro h26
 .obtain⟨x,hx⟩:∃x,(bd g)[0]?=some x:=⟨_,bM (by rw[bj]at h26;omega)⟩
  apply vn (aN gG O O (show(bd ((g:Int)).natAbs)[0]?=some x from hx));apply vn (bq ag3);apply vn cW;refine l4 ?_ ?_<;>intro h30
  .have hg1:g=1:=by
    have:=wT (g:=g) (by rw[bj]at h26;omega) hx;omega
   rw[hg1,pK]at k1 k2;refine aR ?_;rw[Ad,k3,k2,k1];show[aQ.agg [.int .i64 n.sign,bT n.natAbs,.int .i64 d.sign,bT d.natAbs]]=_;rw[gZ (show 0<d by omega)]
  have ho1:=lp n.natAbs g hg;have ho2:=lp d.natAbs g hg;rw[<-k2]at ho1 hnl;rw[<-k1]at ho2 hdl hdg;apply aA ho1;apply aA ho2;dsimp only[aU,aV];apply aA (iW n.sign q.num _ (jo _) (by rw[iD]) (fun _=>k3));apply aA (iW 1 (q.den:Int) _ (jo _) (by rw[iD];rfl) (fun _=>gZ O)) rfl;dsimp only[aU,aV];refine aR ?_;rw[Ad];show[aQ.agg [.int .i64 q.num.sign,bT q.num.natAbs,.int .i64 (q.den:Int).sign,bT (q.den:Int).natAbs]]=_;rw[gZ (show(0:Int)<q.den by omega),bj]
 have ho1:=lp n.natAbs g hg;have ho2:=lp d.natAbs g hg;rw[<-k2]at ho1 hnl;rw[<-k1]at ho2 hdl hdg;apply aA ho1;apply aA ho2;apply aA (iW n.sign q.num _ (jo _) (by rw[iD]) (fun _=>k3));apply aA (iW 1 (q.den:Int) _ (jo _) (by rw[iD];rfl) (fun _=>gZ O)) rfl;dsimp only[aU,aV];refine aR ?_;rw[Ad];show[aQ.agg [.int .i64 q.num.sign,bT q.num.natAbs,.int .i64 (q.den:Int).sign,bT (q.den:Int).natAbs]]=_;rw[gZ (show(0:Int)<q.den by omega),bj]
def YC{n:Int}{d:Nat}:ux n (d:Int)=mkRat n d:=by
 rw[ux,aG O,bj]
def XK{a b:Rat}(hb:b≠0):ux (a.num*(b.den:Int)) ((a.den:Int)*b.num)=a/b:=by
 have hn:b.num≠0:=fun e=>hb (mR.1 e);have ha:=a.den_pos;rw[<-aP9 hb,ux,eA,bj];by_cases h:b.num<0
 .rw[aF (Int.mul_neg_of_pos_of_neg O h),bz h,aF rfl,Int.mul_neg]
 .rw[aG (by have:=Int.mul_nonneg (show(0:Int)<=a.den by omega) (show 0<=b.num by omega);omega),dn h,aG aT]
def bv0{n d:Int}(hd:d≠0):ux n d=(n:Rat)/(d:Rat):=by
 have h:=XK (a:=(n:Rat)) (b:=(d:Rat)) (by rw[Ne,<-mR,uf];exact hd);rw[uf,uf,Cv,Cv]at h;rw[<-h];congr 1<;>omega
def Fit.bd{B:Nat}{q:Rat}(h:Fit B q):(bd q.num.natAbs).length<=B/\(bd q.den).length<=B:=⟨ib h.1,ib h.2⟩
def sP(n:Int)(h1:-9223372036854775808<=n:=by omega)(h2:n<9223372036854775808:=by omega):aX prog 39 [(.one (.int .i64 n):aQ)] (.ret [jl (.of (n:Rat))]):=by
 refine eD func39 bL1 ?_;apply aA (pW n h1 h2);apply aA (pW 1);dsimp only[aU,aV];rw[Ad,uf,Cv];exact aR
def by9(n d:Int)(h1:-9223372036854775808<=n)(h2:n<9223372036854775808)(hd:d≠0:=by omega)(h3:-9223372036854775808<=d:=by omega)(h4:d<9223372036854775808:=by omega):aX prog 75 [(.one (.int .i64 n):aQ),(.one (.int .i64 d):aQ)] (.ret [jl (.of ((n:Rat)/(d:Rat)))]):=by
 refine eD func75 cA2 ?_;apply aA (pW n h1 h2);apply aA (pW d h3 h4);dsimp only[aU,aV];have hn:=ib (n:=n.natAbs) (B:=64) O;have hdd:=ib (n:=d.natAbs) (B:=64) O;apply aA (yB n d hd);rw[bv0 hd];exact aR
def bO2(a:RQ):aX prog 185 [(jl a:aQ)] (.ret [jl (.of (-a.q))]):=by
 refine eD func185 bY1 ?_;apply aA (CB a.q.num);apply aA (mO a);dsimp only[aU,aV];refine aR ?_;rw[Ad,Bo,Cn];show[aQ.agg [.int .i64 (-a.q.num).sign,bT (-a.q.num).natAbs,.int .i64 (a.q.den:Int).sign,bT (a.q.den:Int).natAbs]]=_;have:=a.q.den_pos;rw[gZ (show(0:Int)<a.q.den by omega),bj]
def BK(a:RQ):aX prog 56 [(jl a:aQ)] (.ret [.one (.int .i64 a.q.num.sign)]):=by
 refine eD func56 bi8 ?_;exact aR
def zO(a b:RQ)(A B:Nat)(ha:Fit A a.q)(hb:Fit B b.q)(h:A+B<=4294967296:=by omega):aX prog 77 [(jl a:aQ),(jl b:aQ)] (.ret [jl (.of (a.q*b.q))]):=by
 refine eD func77 bR1 ?_;obtain⟨ha1,ha2⟩:=Fit.bd ha;obtain⟨hb1,hb2⟩:=Fit.bd hb;have hn:=ib (ba ha.1 hb.1);have hd:=ib (ba ha.2 hb.2);have hpa:=a.q.den_pos;have hpb:=b.q.den_pos;apply aA (lX a.q.num b.q.num);apply aA (mO a);apply aA (mO b);apply aA (lX (a.q.den:Int) (b.q.den:Int) (by rw[bj,bj];omega)) rfl;rw[<-jH];apply aA (yB _ ((a.q.den*b.q.den:Nat):Int) (by have:=jJ hpa hpb;omega) (by rw[bj];omega) (by rw[eA];omega)) rfl;rw[YC,<-QG];exact aR
def aa3(a b:RQ)(A B:Nat)(ha:Fit A a.q)(hb:Fit B b.q)(h:A+B<=4294967296:=by omega):aX prog 99 [(jl a:aQ),(jl b:aQ)] (.ret [jl (.of (a.q+b.q))]):=by
 refine eD func99 cc3 ?_;obtain⟨ha1,ha2⟩:=Fit.bd ha;obtain⟨hb1,hb2⟩:=Fit.bd hb;have hn1:=ib (ba ha.1 hb.2);have hn2:=ib (ba hb.1 ha.2);have hd:=ib (ba ha.2 hb.2);have hpa:=a.q.den_pos;have hpb:=b.q.den_pos
 have hsum:(bd (a.q.num*(b.q.den:Int)+b.q.num*(a.q.den:Int)).natAbs).length<=A+B+1:=by
  apply ib;have h1:=ba ha.1 hb.2;have h2:=ba hb.1 ha.2;rw[gp B A]at h2;rw[bw];refine fM (Cx _ _) ?_;rw[eA,eA,bj,bj];omega
 apply aA (mO b);apply aA (lX a.q.num (b.q.den:Int) (by rw[bj];omega)) rfl;apply aA (mO a);apply aA (lX b.q.num (a.q.den:Int) (by rw[bj];omega)) rfl;apply aA (ai2 _ _ (by rw[eA,bj];omega) (by rw[eA,bj];omega)) rfl;apply aA (mO a);apply aA (mO b);apply aA (lX (a.q.den:Int) (b.q.den:Int) (by rw[bj,bj];omega)) rfl;rw[<-jH a.q.den b.q.den];dsimp only[aU,aV];apply aA (yB _ ((a.q.den*b.q.den:Nat):Int) (by have:=jJ hpa hpb;omega) (by rw[bj];omega)) rfl;rw[YC,<-SA];exact aR
def bO8(a b:RQ)(A B:Nat)(ha:Fit A a.q)(hb:Fit B b.q)(h:A+B<=4294967296:=by omega):aX prog 96 [(jl a:aQ),(jl b:aQ)] (.ret [jl (.of (a.q-b.q))]):=by
 refine eD func96 cc1 ?_;apply aA (bO2 b);apply aA (aa3 a (.of (-b.q)) A B ha hb.neg h);rw[RQ.KT,<-Cc];exact aR
def aF6(a b:RQ)(A B:Nat)(hb0:b.q≠0)(ha:Fit A a.q)(hb:Fit B b.q)(h:A+B<=4294967296):aX prog 151 [(jl a:aQ),(jl b:aQ)] (.ret [jl (.of (a.q/b.q))]):=by
 refine eD func151 bG0 ?_;obtain⟨ha1,ha2⟩:=Fit.bd ha;obtain⟨hb1,hb2⟩:=Fit.bd hb;have hn:=ib (ba ha.1 hb.2);have hd:=ib (ba ha.2 hb.1);have hpa:=a.q.den_pos;have hnb:b.q.num≠0:=fun e=>hb0 (mR.1 e);apply aA (mO b);apply aA (lX a.q.num (b.q.den:Int) (by rw[bj];omega)) rfl;apply aA (mO a);apply aA (lX (a.q.den:Int) b.q.num (by rw[bj];omega)) rfl;apply aA (yB _ _ (TK O hnb) (by rw[eA,bj];omega) (by rw[eA,bj];omega)) rfl;rw[XK hb0];exact aR
def aD5(a b:RQ)(A B:Nat)(ha:Fit A a.q)(hb:Fit B b.q)(h:A+B<=4294967296:=by omega):aX prog 41 [(jl a:aQ),(jl b:aQ)] (.ret [.one (.int .i64 (jM a.q b.q))]):=by
 refine eD func41 cc6 ?_;obtain⟨ha1,ha2⟩:=Fit.bd ha;obtain⟨hb1,hb2⟩:=Fit.bd hb;have hn1:=ib (ba ha.1 hb.2);have hn2:=ib (ba hb.1 ha.2);apply aA (mO b);apply aA (lX a.q.num (b.q.den:Int) (by rw[bj];omega)) rfl;apply aA (mO a);apply aA (lX b.q.num (a.q.den:Int) (by rw[bj];omega)) rfl;apply aA (be0 _ _ (by rw[eA,bj];omega) (by rw[eA,bj];omega)) rfl;rw[<-yq];exact aR
end Go.Sy
