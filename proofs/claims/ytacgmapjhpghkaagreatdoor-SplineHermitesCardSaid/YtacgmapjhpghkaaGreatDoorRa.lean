/- Part. -/
import Derived.Test.YtacgmapjhpghkaaGreatDoorNb
set_option linter.all false
set_option maxHeartbeats 2000000
namespace Go.Sy
open Go Go.Proofs Tryz Ord
def XR:Tr:=cD 1
def bP5:Tr:=aQ 3 0 (rh 1 0 0 47 7 (di 4 3 8 (gQ 5 0 0 3 9 (aQ 6 0 (aA0 1 47 12 (.back 0 [lV 7 0])) XR)))) XR
def bJ6:Tr:=Eb 0 (aw 1 0 3 47 (jQ 2 0 0 3 4 bP5))
theorem aA6:aV prog f229 dE [.v none]=bJ6:=by kernel_rfl
def bX3:Tr:=ku 229 1 5 47 47 (aw 2 0 7 47 (gQ 3 0 0 3 8 (aQ 4 0 (.ret [(.agg [(tE (.int .i64 0)),tN])]) (mJ 0 0 2 0))))
theorem aV7:aV prog f189 dE [.v none,.v none]=bX3:=by kernel_rfl
def bK7:Tr:=ju 5 0 0 3 12 (aQ 6 0 (WB 5 3 14 (ym 7 47 16 (jw 1 8 8 3 17 18 47 (Qn .quo 2 20 32768 2 0 2 (qf 0 10 9))))) (ym 5 47 16 (jw 1 8 7 3 17 18 47 (Qn .quo 2 20 32768 2 0 2 (qf 0 9 8)))))
def bi9:Tr:=Qn .rem 2 10 32768 2 0 2 bK7
def ax2:Tr:=mJ 5 0 5 1
def bM1:Tr:=ju 0 0 0 2 6 (aQ 1 0 (WC (nS 2 0 2 8 (aQ 4 0 bi9 (ax6 (-1) ax2)))) (WC (nS 2 0 2 8 (aQ 4 0 bi9 (ax6 1 ax2)))))
theorem aT3:aV prog f114 dE [.v none]=bM1:=by kernel_rfl
def bh9:Tr:=oi (-1)
def bh6:Tr:=oi 1
def bw3:Tr:=di 14 3 33 (fJ 1 0 6 0 47 35 36 (di 16 3 37 (rn .gtr 3 34 38 15 0 17 0 4 (aQ 18 0 bh6 (ba 6 1 3 20 (jS 0 5 19))))))
def bk3:Tr:=fJ 0 0 6 0 47 22 23 (di 9 3 24 (fJ 1 0 6 0 47 26 27 (di 11 3 28 (dw 10 0 12 3 25 29 4 (aQ 13 0 bh9 (fJ 0 0 6 0 47 31 32 bw3))))))
def ap2:Tr:=oi 0
def bZ8:Tr:=aw 1 0 8 47 (rn .neq 3 7 9 2 0 3 0 4 (aQ 4 0 (aw 0 0 11 47 (aw 1 0 13 47 (dw 5 0 6 3 12 14 4 (aQ 7 0 bh9 bh6)))) (yF (aw 0 0 17 47 (dw 6 0 7 3 16 18 4 (aQ 8 0 bk3 ap2))))))
def ca5:Tr:=aw 0 0 6 47 bZ8
theorem aA9:aV prog f227 dE [.v none,.v none]=ca5:=by kernel_rfl
def bM2:Tr:=aQ 3 0 ap2 (aw 0 0 10 47 (fS 4 1 11 (gN 5 1 0 3 12 13 (fJ 0 0 6 0 47 9 14 (di 7 3 15 (cD 8))))))
def bX9:Tr:=aw 0 0 6 47 (rn .geq 3 5 7 1 0 2 0 4 bM2)
theorem aD1:aV prog f248 dE [.v none,.v none]=bX9:=by kernel_rfl
def be8:Tr:=cD 5
def bO7:Tr:=aw 0 0 5 47 (aw 1 0 7 47 (rn .gtr 3 6 8 2 0 3 0 4 (aQ 4 0 (aw 0 0 10 47 be8) (aw 1 0 12 47 be8))))
theorem Ws:aV prog f247 dE [.v none,.v none]=bO7:=by kernel_rfl
def bt7:Tr:=fS 16 32768 40 (fS 4 1 43 (gN 19 7 0 3 44 45 (cW 8 20 47 42 46 (fE 8 20 18 3 48 47 (ba 7 1 3 21 (QA 1 22 21))))))
def bx9:Tr:=aQ 17 0 bt7 (fS 4 1 43 (gN 18 7 0 3 44 45 (cW 8 19 47 42 46 (fE 8 19 16 3 48 47 (ba 7 1 3 21 (QA (-1) 21 20))))))
def bz8:Tr:=fS 14 32768 40 (fS 4 1 43 (gN 18 7 0 3 44 45 (cW 8 19 47 42 46 (fE 8 19 17 3 48 47 (ba 7 1 3 21 (QA 1 21 20))))))
def bH4:Tr:=aQ 16 0 bz8 (fS 4 1 43 (gN 17 7 0 3 44 45 (cW 8 18 47 42 46 (fE 8 18 14 3 48 47 (ba 7 1 3 21 (QA 0 20 19))))))
def cd4:Tr:=rn .mul 3 26 29 2 0 11 0 3 (fw 10 12 3 25 30 (fw 13 6 3 31 32 (ju 14 0 0 3 34 (aQ 15 0 (ba 14 32768 3 36 (nL 16 32768 38 bx9)) (nL 14 32768 38 bH4)))))
def bL2:Tr:=ba 3 1 3 14 (aB5 (.loop 0 [lK 0,lK 0,.row 5] (dw 7 0 4 3 18 19 4 (aQ 9 0 (DN 248 0 7 23 24 47 3 3 (DN 248 1 7 27 28 47 3 3 cd4)) (Gg 229 1 8 49 47 (cD 10))))))
def bP6:Tr:=jB 247 0 0 1 12 13 47 47 3 bL2
theorem aT9:aV prog f226 dE [.v none,.v none,.v none]=bP6:=by kernel_rfl
def bO6:Tr:=WB 0 3 4 (mJ 1 0 0 1)
theorem aW3:aV prog f217 dE [.v (some 2)]=bO6:=by kernel_rfl
def XN:Tr:=mJ 8 0 8 1
def bS1:Tr:=rn .eql 3 14 16 0 0 1 0 4 (aQ 4 0 (vT 0 1 1 1 1 21 23 (Ml 189 0 5 0 2 19 24 3 47 49 (mJ 6 0 6 1))) (jB 227 0 1 1 27 29 47 47 3 (nL 5 0 30 (aQ 6 0 (vT 0 1 1 1 (-1) 35 37 (Ml 189 0 7 0 2 33 38 3 47 49 XN)) (vT 1 1 0 1 (-1) 43 45 (Ml 189 1 7 0 2 41 46 3 47 49 XN))))))
def bK3:Tr:=gQ 0 0 0 3 6 (aQ 2 0 (mJ 1 0 1 1) (gQ 1 0 0 3 10 (aQ 3 0 (mJ 0 0 0 1) bS1)))
theorem aN0:aV prog f187 dE [.v (some 2),.v (some 2)]=bK3:=by kernel_rfl
def bW1:Tr:=gS 217 [(G2 1)] [(some 2)] [6] [49] 49 true (qc 187 0 2 2 5 7 49 (mJ 3 0 3 1))
theorem aU5:aV prog f191 dE [.v (some 2),.v (some 2)]=bW1:=by kernel_rfl
def br0:Tr:=ba 27 1 3 58 (Qn .rem 3 60 32768 26 0 3 (cW 15 28 47 55 59 (fE 15 28 29 3 62 61 (Qn .quo 3 63 32768 26 0 3 (fS 14 1 32 (tn 1 31 32 30))))))
def bA8:Tr:=di 20 3 44 (fJ 1 1 14 0 47 47 48 (di 22 3 49 (rn .mul 3 45 50 21 0 23 0 3 (fw 19 24 3 40 51 (fw 25 13 3 52 53 (fw 8 14 3 56 57 br0))))))
def bq2:Tr:=nL 14 0 30 (aQ 16 0 (fw 8 14 3 35 36 (ba 17 1 3 37 (cW 15 18 47 34 38 (nP 15 18 3 39 (fJ 0 1 8 0 47 42 43 bA8))))) (cW 15 8 47 65 66 (fE 15 8 13 3 68 67 (fS 8 1 24 (qf 0 18 17)))))
def bX6:Tr:=fS 6 1 20 (.loop 0 [lV 7 0,.row 5] (nL 8 0 22 (aQ 10 0 (aw 1 1 27 47 (fS 11 1 28 (.loop 1 [lK 0,lV 12 0,.row 9] bq2))) (rn .mul 3 70 72 0 0 1 0 3 (gS 189 [(W 11 0),(.one (.c (.sr 1 9)))] [(some 2)] [73,74] [3,47] 49 true (mJ 12 0 12 1))))))
def bT0:Tr:=aw 0 1 11 47 (aw 1 1 14 47 (fw 2 3 3 12 15 (aB5 (aw 0 1 19 47 bX6))))
theorem aR3:aV prog f119 dE [.v (some 2),.v (some 2)]=bT0:=by kernel_rfl
def bS0:Tr:=qc 191 0 1 2 5 6 49 (cD 2)
theorem ba5:aV prog f118 dE [.v (some 2),.v (some 2)]=bS0:=by kernel_rfl
abbrev rB(ds:List Nat):List (List aC):=ds.map fun(d:Nat)=>[aC.int .i64 (d:Int)]
abbrev sB(ds:List Nat):aC:=.slice 1 (rB ds)
abbrev bT(n:Nat):aC:=sB (bd n)
abbrev zC(z:Int):List aC:=[.int .i64 z.sign,bT z.natAbs]
abbrev zT(z:Int):aK:=.agg (zC z)
theorem ar4:DB 32768 []:=fun d hd=>by cases hd
theorem aL1{n:Nat}(h:n=0):aC.Sub (.exact (.slice none 0 0)) (bT n):=by
 subst h;rw[bT,AU];exact aC.Sub.nil
theorem sliceB{ds:List Nat}{x:Operand}{ty:Nat}{y:Operand}{k:IntKind}{n:Int}{m:Nat}(hm:n.toNat=m)(h0:0<=n:=by omega)(hn:m<=ds.length:=by omega):ai prog (.slice 47 x (some y) none none) ty [.one (sB ds),.one (.int k n)] (.one (sB (ds.drop m))):=by
 have:=My (P:=prog) (T:=47) (x:=x) (y:=y) (ty:=ty) (k:=k) (n:=n) (ts:=rB ds) fG h0 (by rw[aJ,hm];exact hn);rw[hm,rB,<-oY]at this;exact this
theorem bc0{ds:List Nat}{x:Operand}{ty:Nat}{y:Operand}{k:IntKind}{n:Int}{m:Nat}(h0:0<=n:=by omega)(hm:n.toNat=m:=by omega)(hn:m<=ds.length:=by omega):ai prog (.slice 47 x none (some y) none) ty [.one (sB ds),.one (.int k n)] (.one (sB (ds.take m))):=by
 have:=xl (P:=prog) (T:=47) (x:=x) (y:=y) (ty:=ty) (k:=k) (n:=n) (ts:=rB ds) fG h0 (by rw[aJ,hm];exact hn);rw[hm,rB,<-lX]at this;exact this
theorem rS(ds:List Nat)(hd:DB 32768 ds)(hs:ds.length<4611686018427387904:=by omega):aW prog 229 [(.one (sB ds):aK)] (.ret [.one (bT (bv ds))]):=by
 refine eB func229 aA6 ?_;refine bG {xs:List Nat // DB 32768 xs/\bv xs=bv ds/\xs.length<=ds.length} (fun g=>[.one (sB g.1)]) (fun g=>g.1.length) ⟨ds,hd,rfl,aY _⟩ aX.rfl (fun _=>rfl) ?_;rintro⟨xs,hx,hv,hl⟩;dsimp only[aF,aG]at hx hv hl|-;apply vn (aR fG (aJ _));apply vn fC;refine vs _ rfl ?_ ?_<;>intro h3
 ·obtain⟨d,hget⟩:∃d,xs[0]?=some d:=⟨_,bB (by omega)⟩
  apply vn (aN fG (by omega) (by omega) hget);apply vn (bO ag3);dsimp only[aF,aG];apply vn cF;refine vs _ rfl ?_ ?_<;>intro h7
  ·apply vn (sliceB rfl)
   exact af rfl ⟨⟨xs.drop 1,hx.drop 1,by
    have h7:d=0:=by omega
    rw[<-hv,af1 hget,h7,ee,cC],by show(xs.drop 1).length<=_;rw[cj];omega⟩,aX.rfl,by show(xs.drop 1).length<xs.length;rw[cj];omega⟩
  have e:bd (bv ds)=xs:=by
   rw[<-hv];refine bR1 hx fun d' h'=>?_;rw[ZU,hget]at h';simp only[aU]at h';subst h';omega
  rw[bT,e];exact aM
 have e:bd (bv ds)=xs:=by
  have:xs=[]:=eO (by omega);rw[<-hv,this];exact AU
 rw[bT,e];exact aM
theorem gd(s z:Int)(ds:List Nat)(hd:DB 32768 ds)(h1:z.natAbs=bv ds)(h2:bv ds≠0->z.sign=s)(hs:ds.length<4611686018427387904:=by omega):aW prog 189 [(.one (.int .i64 s):aK),(.one (sB ds):aK)] (.ret [zT z]):=by
 refine eB func189 aV7 ?_;have hlen:(bd (bv ds)).length=0↔bv ds=0:=by rw[vf,DR]
 have hl2:(bd (bv ds)).length<=ds.length:=jz (Vw hd);apply aA (rS ds hd hs);apply vn (aR fG (aJ _));apply vn cF;refine vs _ rfl ?_ ?_<;>intro h3
 ·have hz:z=0:=by
   have:=hlen.1 (by omega);omega
  subst hz;exact jG ⟨⟨aC.Sub.same,aL1 rfl,trivial⟩,trivial⟩
 refine aM ?_;rw[<-h2 (fun h=>h3 (by have:=hlen.2 h;omega)),<-h1];rfl
theorem RN{ds:List Nat}{m n:Nat}(hm:m≠0)(h:bv ds+32768^ds.length*m=n)(hn:n<18446744073709551616:=by omega):ds.length<=4:=by
 rcases fL ds.length 5 with h1 | h1
 ·omega
 ·have h2:32768^5<=32768^ds.length:=ey (by omega) h1;have h3:32768^ds.length<=32768^ds.length*m:=mH _ (by omega);omega
theorem xy{ds:List Nat}{m n:Nat}(h:bv ds+32768^ds.length*m=n):bv (m%32768::ds)+32768^(m%32768::ds).length*(m/32768)=n:=by
 rw[zk,ak,bW,kP,eP,<-eY,lh];exact h
theorem neg_tmod{m:Nat}:(-(m:Int)).tmod 32768=-((m%32768:Nat):Int):=by rw[Int.neg_tmod,qV (by omega)];omega
theorem neg_tdiv{m:Nat}:(-(m:Int)).tdiv 32768=-((m/32768:Nat):Int):=by rw[Int.neg_tdiv,oq (by omega)];omega
theorem oF(n:Int)(h1:-9223372036854775808<=n:=by omega)(h2:n<9223372036854775808:=by omega):aW prog 114 [(.one (.int .i64 n):aK)] (.ret [zT n]):=by
 refine eB func114 aT3 ?_;apply vn an;refine vs _ rfl (fun h1=>?_) (fun h1'=>?_)
 ·refine bG {g:Nat×List Nat // bv g.2+32768^g.2.length*g.1=n.natAbs/\DB 32768 g.2/\g.1<=9223372036854775808/\g.2.length<=5} (fun g=>[.one (.int .i64 (-(g.1.1:Int))),.rows (rB g.1.2)]) (fun g=>g.1.1) ⟨(n.natAbs,[]),by simp[bv,val],ar4,by show n.natAbs<=_;omega,by simp⟩ ⟨aK.Sub.of_eq (congrArg (fun q=>aK.one (aC.int .i64 q)) (by show n=-((n.natAbs:Nat):Int);omega)),aK.Sub.same,trivial⟩ (fun _=>rfl) ?_;rintro⟨⟨m,ds⟩,hv,hd,hm,hl⟩;dsimp only[aF,aG]at hv hd hm hl|-;apply vn gW;refine vs _ rfl ?_ ?_<;>intro h4
  ·have hm0:m≠0:=by omega
   have hl4:=RN hm0 hv
   have hd2:DB 32768 (m%32768::ds):=fun d hd'=>by
    rcases eU.1 hd' with rfl | hd'
    ·omega
    ·exact hd d hd'
   apply vn (DA (c:=-((m%32768:Nat):Int)) (by decide) neg_tmod);apply vn an;refine vs _ rfl ?_ ?_<;>intro h7
   ·apply vn LR;dsimp only[aF,aG];refine fB (us:=rB [m%32768]) (by show[[aC.int .i64 _]]=[[aC.int .i64 _]];congr 3;omega) ?_;refine wO (ts:=rB [m%32768]) (us:=rB ds) (vs:=rB (m%32768::ds)) rfl rfl rfl (by simp;omega) (by simp[maxLen];omega) ?_;apply vn (pJ (c:=-((m/32768:Nat):Int)) (by decide) (by rw[neg_tdiv];exact gI)) rfl;dsimp only[aF,aG];exact af rfl ⟨⟨(m/32768,m%32768::ds),xy hv,hd2,by show m/32768<=_;omega,by show ds.length+1<=5;omega⟩,aX.rfl,by show m/32768<m;omega⟩
   refine fB (us:=rB [m%32768]) (by show[[aC.int .i64 _]]=[[aC.int .i64 _]];congr 3;omega) ?_;refine wO (ts:=rB [m%32768]) (us:=rB ds) (vs:=rB (m%32768::ds)) rfl rfl rfl (by simp;omega) (by simp[maxLen];omega) ?_;apply vn (pJ (c:=-((m/32768:Nat):Int)) (by decide) (by rw[neg_tdiv];exact gI)) rfl;dsimp only[aF,aG];exact af rfl ⟨⟨(m/32768,m%32768::ds),xy hv,hd2,by show m/32768<=_;omega,by show ds.length+1<=5;omega⟩,aX.rfl,by show m/32768<m;omega⟩
  have hm0:m=0:=by omega
  subst hm0;rw[ee,cC]at hv;apply aA (gd (-1) n ds hd hv.symm (fun _=>oK h1));exact aM
 refine bG {g:Nat×List Nat // bv g.2+32768^g.2.length*g.1=n.natAbs/\DB 32768 g.2/\g.1<=9223372036854775808/\g.2.length<=5/\g.1<9223372036854775808} (fun g=>[.one (.int .i64 (g.1.1:Int)),.rows (rB g.1.2)]) (fun g=>g.1.1) ⟨(n.natAbs,[]),by simp[bv,val],ar4,by show n.natAbs<=_;omega,by simp,by show n.natAbs<_;omega⟩ ⟨aK.Sub.of_eq (congrArg (fun q=>aK.one (aC.int .i64 q)) (by show n=((n.natAbs:Nat):Int);omega)),aK.Sub.same,trivial⟩ (fun _=>rfl) ?_;rintro⟨⟨m,ds⟩,hv,hd,hm,hl,hmm⟩;dsimp only[aF,aG]at hv hd hm hl hmm|-;apply vn gW;refine vs _ rfl ?_ ?_<;>intro h21
 ·have hm0:m≠0:=by omega
  have hl4:=RN hm0 hv
  have hd2:DB 32768 (m%32768::ds):=fun d hd'=>by
   rcases eU.1 hd' with rfl | hd'
   ·omega
   ·exact hd d hd'
  apply vn mf;apply vn an;refine vs _ rfl ?_ ?_<;>intro h24
  ·exfalso;omega
  refine fB (us:=rB [m%32768]) (by show[[aC.int .i64 _]]=[[aC.int .i64 _]];congr 3) ?_;dsimp only[aF,aG];refine wO (ts:=rB [m%32768]) (us:=rB ds) (vs:=rB (m%32768::ds)) rfl rfl rfl (by simp;omega) (by simp[maxLen];omega) ?_;apply vn xZ;dsimp only[aF,aG];exact af rfl ⟨⟨(m/32768,m%32768::ds),xy hv,hd2,by show m/32768<=_;omega,by show ds.length+1<=5;omega,by show m/32768<_;omega⟩,aX.rfl,by show m/32768<m;omega⟩
 have hm0:m=0:=by omega
 subst hm0;rw[ee,cC]at hv;apply aA (gd 1 n ds hd hv.symm (fun h=>fZ (by omega)));exact aM
theorem So{xs ys:List Nat}(hx:DB 32768 xs){i x y:Nat}(hl:xs.length=ys.length)(hi:xs[i]?=some x)(hj:ys[i]?=some y)(ht:xs.take i=ys.take i)(hxy:x<y:=by omega):bv xs<bv ys:=by
 have e:∀(zs:List Nat)(z:Nat),zs[i]?=some z->bv zs=bv (zs.take i)*32768^(zs.length-i)+(bv (zs.drop (i+1))+32768^(zs.length-(i+1))*z):=fun zs z hz=>by
  have hlt:i<zs.length:=(bg.1 hz).1
  conv=>lhs;rw[<-mW i zs]
  rw[ak8,cj]
  congr 1
  rw[iG hlt,(bg.1 hz).2,zk,cj]
 rw[e xs x hi,e ys y hj,ht,hl];have h1:=Vw (hx.drop (i+1));rw[cj,hl]at h1;have h2:32768^(ys.length-(i+1))*(x+1)<=32768^(ys.length-(i+1))*y:=dF _ hxy;rw[eY,de]at h2;omega
theorem tu{a b:Nat}(h:(bd a).length<(bd b).length:=by omega):a<b:=by
 rcases fL a b with h1 | h1
 ·exact h1
 ·have:=fT h1;omega
theorem pH(a b:Nat)(hs:(bd a).length+(bd b).length<1099511627776:=by omega):aW prog 227 [(.one (bT a):aK),(.one (bT b):aK)] (.ret [.one (.int .i64 (fA a b))]):=by
 refine eB func227 aA9 ?_;apply vn (aR fG (aJ _));apply vn (aR fG (aJ _));apply vn gW;refine vs _ rfl ?_ ?_<;>intro h3
 ·apply vn (aR fG (aJ _));dsimp only[aF,aG];apply vn (aR fG (aJ _));apply vn an;refine vs _ rfl ?_ ?_<;>intro h7
  ·rw[sL (by have:=tu (a:=a) (b:=b);omega)];exact aM
  rw[sn (by have:=tu (a:=b) (b:=a);omega)];exact aM
 have hlen:(bd a).length=(bd b).length:=by omega
 refine bG {i:Nat // i<=(bd a).length/\(bd a).take i=(bd b).take i} (fun g=>[.one (.int .i64 0),.one (.int .i64 g.1)]) (fun g=>(bd a).length-g.1) ⟨0,cL _,rfl⟩ aX.rfl (fun _=>rfl) ?_;rintro⟨i,hi,ht⟩;dsimp only[aF,aG]at hi ht|-;apply vn (aR fG (aJ _));apply vn an;refine vs _ rfl ?_ ?_<;>intro h13
 ·obtain⟨x,hx⟩:∃x,(bd a)[i]?=some x:=⟨_,bB (by omega)⟩
  obtain⟨y,hy⟩:∃y,(bd b)[i]?=some y:=⟨_,bB (by omega)⟩
  apply vn (aN fG (by omega) (by omega) hx);apply vn (bO ag3);dsimp only[aF,aG];apply vn (aN fG (by omega) (by omega) hy);apply vn (bO ag3);apply vn an;refine vs _ rfl ?_ ?_<;>intro h19
  ·have:=So (jF a) hlen hx hy ht;rw[gL,gL]at this;rw[sL (by omega)];exact aM
  apply vn (aN fG (by omega) (by omega) hx);dsimp only[aF,aG];apply vn (bO ag3);apply vn (aN fG (by omega) (by omega) hy);apply vn (bO ag3);apply vn fC;dsimp only[aF,aG];refine vs _ rfl ?_ ?_<;>intro h26
  ·have:=So (jF b) hlen.symm hy hx ht.symm;rw[gL,gL]at this;rw[sn (by omega)];exact aM
  apply vn (aB (by omega) (by omega));dsimp only[aF,aG];exact af rfl ⟨⟨i+1,by omega,by rw[take_succ hx,take_succ hy,ht,show x=y by omega]⟩,aX.rfl,by show(bd a).length-(i+1)<(bd a).length-i;omega⟩
 have hie:i=(bd a).length:=by omega
 subst hie
 have e:bd a=bd b:=by
  rw[gH,dD (by omega)]at ht;exact ht
 have:a=b:=by rw[<-gL a,e,gL]
 rw[this,Ak];exact aM
theorem BG(n i:Nat)(hs:(bd n).length<1099511627776:=by omega)(hi:i<4611686018427387904:=by omega):aW prog 248 [(.one (bT n):aK),(.one (.int .i64 i):aK)] (.ret [.one (.int .i64 ((n/32768^i%32768:Nat):Int))]):=by
 refine eB func248 aD1 ?_;have hdg:=RV n i;apply vn (aR fG (aJ _));apply vn jy;refine vs _ rfl ?_ ?_<;>intro h2
 ·rw[eX.2 (by rw[eW];omega)]at hdg;rw[<-hdg];exact aM
 apply vn (aR fG (aJ _));apply vn (aO (by omega) (by omega));dsimp only[aF,aG];apply vn (aO (by omega) (by omega));dsimp only[aF,aG];obtain⟨d,hd⟩:∃d,(bd n).reverse[i]?=some d:=⟨_,bB (by rw[eW];omega)⟩
 have hd2:(bd n)[(bd n).length-1-i]?=some d:=by rw[zy];exact hd
 rw[hd]at hdg;apply vn (aN fG (by omega) (by omega) hd2);apply vn (bO ag3);dsimp only[aF,aG];rw[<-hdg];exact aM
theorem WN(a b:Nat):aW prog 247 [(.one (bT a):aK),(.one (bT b):aK)] (.ret [.one (.int .i64 ((max (bd a).length (bd b).length:Nat):Int))]):=by
 refine eB func247 Ws ?_;apply vn (aR fG (aJ _));apply vn (aR fG (aJ _));apply vn fC;refine vs _ rfl ?_ ?_<;>intro h3
 ·apply vn (aR fG (aJ _));dsimp only[aF,aG];refine aM ?_;show[aK.one (aC.int .i64 _)]=[aK.one (aC.int .i64 _)]
  congr 3;omega
 apply vn (aR fG (aJ _));dsimp only[aF,aG];refine aM ?_;show[aK.one (aC.int .i64 _)]=[aK.one (aC.int .i64 _)]
 congr 3;omega
theorem val_rev(n:Nat):val 32768 (bd n).reverse=n:=gL n
theorem SP(n i:Nat):(bd n).reverse[i]?.getD 0=n/32768^i%32768:=RV n i
theorem lQ(a b r:Nat)(k:Int)(hk:k=1\/k=-1)(xJ:(bd b).length<274877906944:=by omega)(hr:(r:Int)=a+k*b:=by omega)(hs:(bd a).length<274877906944:=by omega):aW prog 226 [(.one (bT a):aK),(.one (bT b):aK),(.one (.int .i64 k):aK)] (.ret [.one (bT r)]):=by
 refine eB func226 aT9 ?_;obtain⟨n,hn⟩:∃n,max (bd a).length (bd b).length+1=n:=⟨_,rfl⟩
 have hrl:r<32768^n:=by
  have h1:=CM a;have h2:=CM b;have h3:32768^(bd a).length<=32768^(n-1):=ey (by omega) (by omega);have h4:32768^(bd b).length<=32768^(n-1):=ey (by omega) (by omega);have h5:32768^n=32768^(n-1)*32768:=by rw[<-bW];congr 1;omega
  rcases hk with rfl | rfl<;>omega
 apply aA (WN a b);apply vn (aB (by omega) (by omega));dsimp only[aF,aG];refine Bn (n:=n) (f:=fun d:Nat=>[aC.int .i64 (d:Int)]) 0 rfl rfl (by omega) rfl (by omega) (by simp only[maxLen];omega) ?_;refine bG {g:Nat×Int×List Nat // Hw 32768 (bd a).reverse (bd b).reverse n k g.1 g.2.1 g.2.2} (fun g=>[.one (.int .i64 g.1.2.1),.one (.int .i64 g.1.1),.rows (rB g.1.2.2.reverse)]) (fun g=>n-g.1.1) ⟨(0,0,List.replicate n 0),Hw.init (by omega) _ _ _ _⟩ ⟨aK.Sub.same,aK.Sub.same,aK.Sub.of_eq (by rw[ZQ];rfl),trivial⟩ (fun _=>rfl) ?_;rintro⟨⟨i,c,os⟩,hI⟩;dsimp only[aF,aG]at hI|-;have hil:=hI.le;have hol:=hI.len;have hc0:=hI.c0;have hc1:=hI.c1;apply vn an;refine vs _ rfl ?_ ?_<;>intro h5
 ·obtain⟨x,hx⟩:∃x,a/32768^i%32768=x:=⟨_,rfl⟩
  obtain⟨y,hy⟩:∃y,b/32768^i%32768=y:=⟨_,rfl⟩
  have hxB:x<32768:=by rw[<-hx];exact dY _ (by omega)
  have hyB:y<32768:=by rw[<-hy];exact dY _ (by omega)
  have hcall1:=BG a i;have hcall2:=BG b i;rw[hx]at hcall1;rw[hy]at hcall2
  have hnext:∀(z:Nat)(c':Int),z<32768->-1<=c'->c'<=1->(z:Int)+32768*c'=x+k*y+c->Hw 32768 (bd a).reverse (bd b).reverse n k (i+1) c' (os.set i z):=fun z c' h1 h2 h3 h4=>
   hI.next (by omega) (by rw[SP,hx]) (by rw[SP,hy]) h2 h3 h1 h4
  have hst:∀z,os.reverse.set (n-1-i) z=(os.set i z).reverse:=fun z=>by rw[<-hol];exact Re (by omega)
  obtain⟨o0,hgo⟩:∃o0,os.reverse[n-1-i]?=some o0:=⟨_,bB (by rw[eW];omega)⟩
  have hky:k*y=y\/k*y=-(y:Int):=by rcases hk with rfl | rfl<;>simp
  generalize hkyv:k*(y:Int)=ky at hnext hky;apply aA hcall1;apply aA hcall2;apply vn (uz (c:=ky) (by rw[hkyv];exact gI)) rfl;dsimp only[aF,aG];apply vn (aB (by omega) (by omega));apply vn (aB (by omega) (by omega));apply vn an;refine vs _ rfl ?_ ?_<;>intro h12
  ·apply vn (aB (by omega) (by omega));dsimp only[aF,aG];apply vn jy;refine vs _ rfl ?_ ?_<;>intro h15
   ·exfalso;omega
   apply vn (aO (by omega) (by omega));apply vn (aO (by omega) (by omega));refine bq rfl rfl (by omega) (by rw[eW];omega) ?_;refine iD (d':=(x+ky+c+32768).toNat) rfl rfl (by omega) (by omega) hgo (by show[aC.int .i64 _]=[aC.int .i64 _];congr 2;omega) ?_;rw[hst];dsimp only[aF,aG];apply vn (aB (by omega) (by omega));dsimp only[aF,aG];exact af rfl ⟨⟨(i+1,-1,os.set i (x+ky+c+32768).toNat),hnext _ (-1) (by omega) (by omega) (by omega) (by omega)⟩,aX.rfl,by show n-(i+1)<n-i;omega⟩
  apply vn jy;refine vs _ rfl ?_ ?_<;>intro h30
  ·apply vn (aO (by omega) (by omega));apply vn (aO (by omega) (by omega));apply vn (aO (by omega) (by omega));dsimp only[aF,aG];refine bq rfl rfl (by omega) (by rw[eW];omega) ?_;refine iD (d':=(x+ky+c-32768).toNat) rfl rfl (by omega) (by omega) hgo (by show[aC.int .i64 _]=[aC.int .i64 _];congr 2;omega) ?_;rw[hst];apply vn (aB (by omega) (by omega));dsimp only[aF,aG];exact af rfl ⟨⟨(i+1,1,os.set i (x+ky+c-32768).toNat),hnext _ 1 (by omega) (by omega) (by omega) (by omega)⟩,aX.rfl,by show n-(i+1)<n-i;omega⟩
  apply vn (aO (by omega) (by omega));apply vn (aO (by omega) (by omega));refine bq rfl rfl (by omega) (by rw[eW];omega) ?_;refine iD (d':=(x+ky+c).toNat) rfl rfl (by omega) (by omega) hgo (by show[aC.int .i64 _]=[aC.int .i64 _];congr 2;omega) ?_;rw[hst];apply vn (aB (by omega) (by omega));dsimp only[aF,aG];exact af rfl ⟨⟨(i+1,0,os.set i (x+ky+c).toNat),hnext _ 0 (by omega) (by omega) (by omega) (by omega)⟩,aX.rfl,by show n-(i+1)<n-i;omega⟩
 have hie:i=n:=by omega
 subst hie;have hf:=hI.fin (by omega) (by rw[eW];omega) (by rw[eW];omega) (r:=r) (by rw[val_rev,val_rev];exact hr) hrl;apply aA (rS os.reverse hI.dg.rev (by rw[eW];omega)) rfl;dsimp only[aF,aG];refine aM ?_;rw[<-hf,bv,oU];rfl
theorem An(z:Int):-1<=z.sign/\z.sign<=1:=by rcases cp z with⟨_,e⟩ | ⟨_,e⟩ | ⟨_,e⟩<;>omega
theorem Bb(z:Int):aW prog 217 [(zT z:aK)] (.ret [zT (-z)]):=by
 refine eB func217 aW3 ?_;have:=An z;apply vn LR;dsimp only[aF,aG];refine aM ?_;show[aK.agg [.int .i64 (-z.sign),bT z.natAbs]]=[zT (-z)];rw[zT,zC,Int.sign_neg,gX]
theorem bw4{a b:Nat}:(bd (a+b)).length<=max (bd a).length (bd b).length+1:=by
 apply jz;have h1:=CM a;have h2:=CM b;have h3:32768^(bd a).length<=32768^(max (bd a).length (bd b).length):=ey (by omega) (by omega);have h4:32768^(bd b).length<=32768^(max (bd a).length (bd b).length):=ey (by omega) (by omega);rw[bW];omega
theorem Yp(x y:Int)(hx:(bd x.natAbs).length<137438953472)(hy:(bd y.natAbs).length<137438953472):aW prog 187 [(zT x:aK),(zT y:aK)] (.ret [zT (x+y)]):=by
 refine eB func187 aN0 ?_;have hx0:=cp x;have hy0:=cp y
 have hl:∀n,n<=x.natAbs+y.natAbs->(bd n).length<274877906944:=fun n hn=>by
  have h1:=fT hn;have h2:=bw4 (a:=x.natAbs) (b:=y.natAbs);omega
 apply vn cF;refine vs _ rfl ?_ ?_<;>intro h1
 ·rw[show x=0 by omega,Int.zero_add];exact aM
 apply vn cF;refine vs _ rfl ?_ ?_<;>intro h4
 ·rw[show y=0 by omega,Int.add_zero];exact aM
 apply vn cF;refine vs _ rfl ?_ ?_<;>intro h7
 ·apply aA (lQ x.natAbs y.natAbs (x.natAbs+y.natAbs) 1 (.inl rfl));dsimp only[aF,aG]
  apply aA (gd x.sign (x+y) _ (jF _) (by rw[gL];omega) (fun _=>by
   rcases hx0 with⟨h,e⟩ | ⟨h,e⟩ | ⟨h,e⟩
   ·rw[e];exact oK (by omega)
   ·omega
   ·rw[e];exact fZ (by omega)) (by have:=hl _ (aY _);omega)) rfl
  exact aM
 apply aA (pH x.natAbs y.natAbs);apply vn jy;dsimp only[aF,aG]
 have hci:(0<=fA (x.natAbs:Int) (y.natAbs:Int))↔y.natAbs<=x.natAbs:=by
  have:=rJ (a:=(x.natAbs:Int)) (b:=(y.natAbs:Int));omega
 refine vs _ rfl ?_ ?_<;>intro h13
 ·apply aA (lQ x.natAbs y.natAbs (x.natAbs-y.natAbs) (-1) (.inr rfl))
  apply aA (gd x.sign (x+y) _ (jF _) (by rw[gL];omega) (fun hne=>by
   rw[gL]at hne;rcases hx0 with⟨h,e⟩ | ⟨h,e⟩ | ⟨h,e⟩
   ·rw[e];exact oK (by omega)
   ·omega
   ·rw[e];exact fZ (by omega)) (by have:=hl (x.natAbs-y.natAbs) (by omega);omega)) rfl
  exact aM
 apply aA (lQ y.natAbs x.natAbs (y.natAbs-x.natAbs) (-1) (.inr rfl))
 apply aA (gd y.sign (x+y) _ (jF _) (by rw[gL];omega) (fun hne=>by
  rw[gL]at hne;rcases hy0 with⟨h,e⟩ | ⟨h,e⟩ | ⟨h,e⟩
  ·rw[e];exact oK (by omega)
  ·omega
  ·rw[e];exact fZ (by omega)) (by have:=hl (y.natAbs-x.natAbs) (by omega);omega)) rfl
 exact aM
theorem aW7(x y:Int)(hx:(bd x.natAbs).length<137438953472)(hy:(bd y.natAbs).length<137438953472):aW prog 191 [(zT x:aK),(zT y:aK)] (.ret [zT (x-y)]):=by
 refine eB func191 aU5 ?_;apply aA (Bb y);apply aA (Yp x (-y) hx (by rw[gX];exact hy)) rfl;rw[<-Int.sub_eq_add_neg];exact aM
theorem aJ9(x y:Int):(x-y).sign=fA x y:=by
 unfold fA;rcases cp (x-y)with⟨h,e⟩ | ⟨h,e⟩ | ⟨h,e⟩<;>rw[e]
 ·rw[aD (by omega)]
 ·rw[aH (by omega),aH (by omega)]
 ·rw[aH (by omega),aD (by omega)]
theorem aL7(x y:Int)(hx:(bd x.natAbs).length<137438953472)(hy:(bd y.natAbs).length<137438953472):aW prog 118 [(zT x:aK),(zT y:aK)] (.ret [.one (.int .i64 (fA x y))]):=by
 refine eB func118 ba5 ?_;apply aA (aW7 x y hx hy);dsimp only[aF,aG];rw[<-aJ9];exact aM
theorem aa7{n la i:Nat}(h:la=(bd n).length)(hi:i<la:=by omega):∃d,(bd n)[la-1-i]?=some d/\(bd n).reverse[i]?=some d/\d<32768:=by
 subst h;have hd:(bd n).reverse[i]?=some ((bd n).reverse[i]'(by rw[eW];exact hi)):=bB _;exact⟨_,by rw[zy hi];exact hd,hd,(jF n).rev.get hd⟩
theorem kN(x y:Int)(hs:(bd x.natAbs).length+(bd y.natAbs).length<274877906944:=by omega):aW prog 119 [(zT x:aK),(zT y:aK)] (.ret [zT (x*y)]):=by
 refine eB func119 aR3 ?_;obtain⟨la,hla⟩:∃n,(bd x.natAbs).length=n:=⟨_,rfl⟩
 obtain⟨lb,hlb⟩:∃n,(bd y.natAbs).length=n:=⟨_,rfl⟩
 have hra:(bd x.natAbs).reverse.length=la:=by rw[eW,hla]
 have hrb:(bd y.natAbs).reverse.length=lb:=by rw[eW,hlb]
 have hsx:=An x;have hsy:=An y;apply vn (aR fG (aJ _));apply vn (aR fG (aJ _));apply vn (aB (by omega) (by omega));dsimp only[aF,aG];rw[hla,hlb];refine Bn (n:=la+lb) (f:=fun d:Nat=>[aC.int .i64 (d:Int)]) 0 rfl rfl (by omega) rfl (by omega) (by simp only[maxLen];omega) ?_;apply vn (aR fG (aJ _));apply vn (aO (by omega) (by omega));dsimp only[aF,aG];rw[hla];refine bG {g:Nat×List Nat // Il 32768 (bd x.natAbs).reverse (bd y.natAbs).reverse g.1 g.2} (fun g=>[.one (.int .i64 ((la:Int)-1-g.1.1)),.rows (rB g.1.2.reverse)]) (fun g=>la-g.1.1) ⟨(0,List.replicate (la+lb) 0),by have:=Il.init (B:=32768) (by omega) (bd x.natAbs).reverse (bd y.natAbs).reverse;rw[hra,hrb]at this;exact this⟩ ⟨aK.Sub.of_eq (congrArg (fun q=>aK.one (aC.int .i64 q)) (by show(la:Int)-1=(la:Int)-1-((0:Nat):Int);omega)),aK.Sub.of_eq (by rw[ZQ];rfl),trivial⟩ (fun _=>rfl) ?_;rintro⟨⟨i,os⟩,hO⟩;dsimp only[aF,aG]at hO|-;have hil:=hO.le;rw[hra]at hil;apply vn jy;refine vs _ rfl ?_ ?_<;>intro h8
 ·apply vn (aR fG (aJ _));obtain⟨d,hd1,hd2,hd3⟩:=aa7 (n:=x.natAbs) (la:=la) (i:=i) hla.symm;dsimp only[aF,aG];apply vn (aO (by omega) (by omega));dsimp only[aF,aG];rw[hlb];refine bG {g:Nat×Nat×List Nat // BIn 32768 (bd x.natAbs).reverse (bd y.natAbs).reverse i d (val 32768 ((bd x.natAbs).reverse.take i)*val 32768 (bd y.natAbs).reverse) g.1 g.2.1 g.2.2} (fun g=>[.one (.int .i64 g.1.2.1),.one (.int .i64 ((lb:Int)-1-g.1.1)),.rows (rB g.1.2.2.reverse)]) (fun g=>lb-g.1.1) ⟨(0,0,os),hO.inn (by omega)⟩ ⟨aK.Sub.same,aK.Sub.of_eq (congrArg (fun q=>aK.one (aC.int .i64 q)) (by show(lb:Int)-1=(lb:Int)-1-((0:Nat):Int);omega)),aK.Sub.same,trivial⟩ (fun _=>rfl) ?_;rintro⟨⟨k,c,os2⟩,hI⟩;dsimp only[aF,aG]at hI|-;have hkl:=hI.le;have hol:=hI.len;have hc1:=hI.c1;rw[hrb]at hkl;rw[hra,hrb]at hol;apply vn jy;refine vs _ rfl ?_ ?_<;>intro h13
  ·apply vn (aB (by omega) (by omega));apply vn (aB (by omega) (by omega));dsimp only[aF,aG];obtain⟨e,he1,RD,he3⟩:=aa7 (n:=y.natAbs) (la:=lb) (i:=k) hlb.symm;obtain⟨o,ho2⟩:∃o,os2[i+k]?=some o:=⟨_,bB (by omega)⟩
   have ho1:os2.reverse[la+lb-1-(i+k)]?=some o:=by
    have:=zy (ds:=os2.reverse) (i:=i+k) (by rw[eW];omega);rw[oU,eW,hol]at this;rw[this];exact ho2
   have hoB:=hI.dg.get ho2;have hde:d*e<=32767*32767:=eD (by omega) (by omega);have hst:∀z,os2.reverse.set (la+lb-1-(i+k)) z=(os2.set (i+k) z).reverse:=fun z=>by rw[<-hol];exact Re (by omega)
   obtain⟨w,hw⟩:∃w,c+(d*e+o)=w:=⟨_,rfl⟩
   have hN:=hI.next (z:=w%32768) (c':=w/32768) (by rw[hrb];omega) RD ho2 (by omega) (by omega) (by omega);refine bq rfl rfl (by omega) (by rw[eW];omega) ?_;refine mL rfl rfl (by omega) (by omega) ho1 rfl ?_;apply vn (aN fG (by omega) (by omega) hd1);apply vn (bO ag3);apply vn (aN fG (by omega) (by omega) he1);dsimp only[aF,aG];apply vn (bO ag3);apply vn (uz (c:=((d*e:Nat):Int)) (by rw[<-iI];exact gI)) rfl;apply vn (aB (by omega) (by omega));dsimp only[aF,aG];apply vn (fF (c:=(w:Int)) (by rw[show(o:Int)+((d*e:Nat):Int)+(c:Int)=(w:Int) by omega];exact gI)) rfl;apply vn (aB (by omega) (by omega));apply vn (aB (by omega) (by omega));apply vn mf;dsimp only[aF,aG];refine bq rfl rfl (by omega) (by rw[eW];omega) ?_;refine iD (d':=w%32768) rfl rfl (by omega) (by omega) ho1 rfl ?_;rw[hst];apply vn xZ;apply vn (aO (by omega) (by omega));dsimp only[aF,aG];exact af rfl ⟨⟨(k+1,w/32768,os2.set (i+k) (w%32768)),hN⟩,⟨aK.Sub.same,aK.Sub.of_eq (congrArg (fun q=>aK.one (aC.int .i64 q)) (by show(lb:Int)-1-(k:Int)-1=(lb:Int)-1-((k+1:Nat):Int);omega)),aK.Sub.same,trivial⟩,by show lb-(k+1)<lb-k;omega⟩
  have hke:k=lb:=by omega
  subst hke;obtain⟨o,ho2⟩:∃o,os2[i+k]?=some o:=⟨_,bB (by omega)⟩
  have ho1:os2.reverse[la+k-1-(i+k)]?=some o:=by
   have:=zy (ds:=os2.reverse) (i:=i+k) (by rw[eW];omega);rw[oU,eW,hol]at this;rw[this];exact ho2
  have hst:∀z,os2.reverse.set (la+k-1-(i+k)) z=(os2.set (i+k) z).reverse:=fun z=>by rw[<-hol];exact Re (by omega)
  have hN:Il 32768 (bd x.natAbs).reverse (bd y.natAbs).reverse (i+1) (os2.set (i+k) c):=by
   have:=hI;rw[<-hrb]at this|-;exact this.out hd2
  refine bq rfl rfl (by omega) (by rw[eW];omega) ?_;refine iD (d':=c) rfl rfl (by omega) (by omega) ho1 rfl ?_;rw[hst];apply vn (aO (by omega) (by omega));dsimp only[aF,aG];exact af rfl ⟨⟨(i+1,os2.set (i+k) c),hN⟩,⟨aK.Sub.of_eq (congrArg (fun q=>aK.one (aC.int .i64 q)) (by show(la:Int)-1-(i:Int)-1=(la:Int)-1-((i+1:Nat):Int);omega)),aK.Sub.same,trivial⟩,by show la-(i+1)<la-i;omega⟩
 have hie:i=la:=by omega
 subst hie
 have hf:val 32768 os=x.natAbs*y.natAbs:=by
  have:=hO;rw[<-hra]at this;have:=this.fin;rw[val_rev,val_rev]at this;exact this
 have hol:=hO.len;rw[hra,hrb]at hol;have hmul:x.sign*y.sign=(x*y).sign:=(Int.sign_mul x y).symm;have hsb:=An (x*y);apply vn (uz (c:=(x*y).sign) (by rw[hmul];exact gI)) rfl;apply aA (gd (x*y).sign (x*y) os.reverse hO.dg.rev (by rw[bv,oU,hf,eC]) (fun _=>rfl) (by rw[eW];omega)) rfl;exact aM
def bg8:Tr:=jS 0 10 11
def bQ4:Tr:=aQ 5 0 (Qn .mul 3 14 32768 3 0 3 (fS 1 1 17 (gN 7 4 0 3 18 19 (jB 248 0 0 8 16 20 47 3 3 (fw 6 9 3 15 21 (ba 4 1 3 12 bg8)))))) (cD 3)
def ca6:Tr:=yF (dw 4 0 2 3 9 10 4 bQ4)
theorem aJ8:aV prog f260 dE [.v none,.v none,.v none]=ca6:=by kernel_rfl
def bw1:Tr:=.loop 0 [lV 14 0,lV 10 0] (jB 227 15 0 1 46 47 47 47 3 (nL 17 0 48 (aQ 18 0 (vT 15 0 1 0 (-1) 50 51 (ba 16 1 3 53 (jS 0 19 20))) (CG 16 15))))
def bm2:Tr:=.loop 0 [lV 0 0,lV 10 0] (jB 227 12 0 1 46 47 47 47 3 (nL 14 0 48 (aQ 15 0 (vT 12 0 1 0 (-1) 50 51 (ba 13 1 3 53 (jS 0 16 17))) (CG 13 12))))
def an7:Tr:=jQ 10 0 0 3 36 (aQ 11 0 (Uq 114 10 2 39 49 (bi4 12 (vT 0 0 13 1 (-1) 38 44 bw1))) bm2)
def bP0:Tr:=Qn .leq 3 14 3 2 0 4 (aQ 5 0 (ba 2 1 3 17 (ba 2 1 3 19 (gS 260 [(W 0 0),(W 6 0),(W 7 0)] [none] [16,18,20] [47,3,3] 3 false (gS 260 [(W 1 0),(W 2 0),(W 2 0)] [none] [22,23,24] [47,3,3] 3 true (rn .quo 3 21 25 8 0 9 0 3 an7))))) (ba 2 1 3 28 (aK2 0 6 4 27 29 (aK2 1 2 3 31 32 (ba 8 1 3 33 (rn .quo 3 30 34 7 0 9 0 3 an7))))))
def bo3:Tr:=xa 0 8 (jB 227 9 0 1 46 47 47 47 3 (nL 11 0 48 (aQ 12 0 (vT 9 0 1 0 (-1) 50 51 (ba 10 1 3 53 (jS 0 13 14))) (CG 10 9))))
def bG3:Tr:=aQ 5 0 (gS 114 [(WK 0)] [(some 2)] [39] [2] 49 false (bi4 6 (vT 0 0 7 1 (-1) 38 44 bo3))) (xa 0 0 (jB 227 6 0 1 46 47 47 47 3 (nL 8 0 48 (aQ 9 0 (vT 6 0 1 0 (-1) 50 51 (ba 7 1 3 53 bg8)) (CG 7 6)))))
def bZ3:Tr:=aw 1 0 8 47 (aw 0 0 10 47 (rn .geq 3 11 12 3 0 2 0 4 (aQ 4 0 bP0 (.need (.prim [(WK 0),(WK 0)] none) (.binOp .gtr 3 (tT 36) (.const (I3 0)) 3) 4 false bG3))))
theorem as6:aV prog f241 dE [.v none,.v none]=bZ3:=by kernel_rfl
def bw8:Tr:=jw 1 8 17 20 33 38 47 (Gg 229 1 21 39 47 (ri 241 22 0 1 42 43 271 (ym 23 47 48 (jw 1 8 14 25 47 49 47 (ba 13 1 3 30 (tn 0 24 27 26))))))
def bx3:Tr:=aw 0 0 27 47 (dw 13 0 15 3 26 28 4 (aQ 16 0 (Za 1 8 12 32 47 (fJ 0 0 13 0 47 34 35 (di 18 3 36 (ym 19 47 37 bw8)))) (qn 229 1 14 51 47 47 (CG 17 12))))
def bT7:Tr:=fS 5 1 18 (Mg 6 47 16 19 (Za 1 8 7 20 47 (Gg 229 1 8 21 47 (aw 1 0 23 47 (fS 10 1 24 (.loop 0 [lV 9 0,lV 11 0,.nilrow] bx3))))))
def cc4:Tr:=aw 0 0 10 47 (aw 1 0 12 47 (dw 2 0 3 3 11 13 4 (aQ 4 0 (.ret [(.one (.c (.k (.slice none 0 0)))),(W 0 0)]) (aw 1 0 17 47 bT7))))
theorem bb5:aV prog f219 dE [.v none,.v none]=cc4:=by kernel_rfl
def bR9:Tr:=aQ 4 0 (Qn .mul 3 11 32768 1 0 3 (fJ 0 0 2 0 47 13 14 (di 6 3 15 (fw 5 7 3 12 16 (ba 2 1 3 9 (jS 0 8 9)))))) XR
def cd8:Tr:=yF (aw 0 0 6 47 (dw 2 0 3 3 5 7 4 bR9))
theorem am1:aV prog f225 dE [.v none]=cd8:=by kernel_rfl
def bu8:Tr:=yW 225 2 26 47 3 (ku 225 3 28 47 3 (.loop 1 [lV 12 0,lV 13 0] (nS 15 0 3 30 (aQ 16 0 (rn .rem 3 33 34 14 0 15 0 3 (jS 1 15 17)) (oy 114 14 2 36 2 49 (mJ 17 0 17 1))))))
def bV1:Tr:=Qn .leq 3 19 4 8 0 4 (aQ 9 0 (aw 3 0 22 47 (Qn .leq 3 23 4 10 0 4 (aQ 11 0 bu8 (ri 219 2 0 3 39 40 247 (Fx 3 13 4 0 5 0))))) (ri 219 2 0 3 39 40 247 (Fx 3 11 4 0 5 0)))
def bZ6:Tr:=.loop 0 [lV 0 1,lV 1 1,lK 0,lN] (aw 3 0 15 47 (jQ 6 0 0 3 16 (aQ 7 0 (aw 2 0 18 47 bV1) (UE 2 46 XN))))
theorem aS2:aV prog f218 dE [.v (some 2),.v (some 2)]=bZ6:=by kernel_rfl
theorem VE{m long i:Nat}(h:i<long:=by omega):m/32768^(long-i)*32768+m/32768^(long-1-i)%32768=m/32768^(long-(i+1)):=by
 have e:m/32768^(long-i)=m/32768^(long-(i+1))/32768:=by
  rw[mG,<-bW];congr 2;omega
 rw[e,show long-1-i=long-(i+1) by omega];have:=Pm (m/32768^(long-(i+1))) 32768;omega
theorem uu{m long i:Nat}(h:i<=long)(hm:m<32768^long):m/32768^(long-i)<32768^i:=by
 rw[jl (dZ (by omega)),<-bz,show i+(long-i)=long by omega];exact hm
theorem XW{i:Nat}(h:i<=4:=by omega):32768^i<=1152921504606846976:=by
 have:=ey (n:=32768) (by omega) h;rw[show(32768:Nat)^4=1152921504606846976 by decide]at this;exact this
theorem vZ(m long k:Nat)(hm:m<32768^long)(hk:k<=long:=by omega)(hk4:k<=4:=by omega)(hl:long<1099511627776:=by omega)(hs:(bd m).length<1099511627776:=by omega):aW prog 260 [(.one (bT m):aK),(.one (.int .i64 long):aK),(.one (.int .i64 k):aK)] (.ret [.one (.int .i64 ((m/32768^(long-k):Nat):Int))]):=by
 refine eB func260 aJ8 ?_;refine bG {i:Nat // i<=k} (fun g=>[.one (.int .i64 ((m/32768^(long-g.1):Nat):Int)),.one (.int .i64 g.1)]) (fun g=>k-g.1) ⟨0,cL _⟩ ⟨aK.Sub.of_eq (congrArg (fun q:Nat=>aK.one (aC.int .i64 (q:Int))) (by show 0=m/32768^long;rw[ec hm])),aK.Sub.same,trivial⟩ (fun _=>rfl) ?_;rintro⟨i,hi⟩;dsimp only[aF,aG]at hi|-;apply vn an;refine vs _ rfl ?_ ?_<;>intro h2
 ·have hx:=uu (m:=m) (i:=i) (long:=long) (by omega) hm;have hp:=XW (i:=i);have hstep:=VE (m:=m) (long:=long) (i:=i);have hlt:=uu (m:=m) (i:=i+1) (long:=long) (by omega) hm;have hp2:=XW (i:=i+1);generalize m/32768^(long-i)=x at *;generalize hy:m/32768^(long-(i+1))=y at *;apply vn xx;apply vn (aO (by omega) (by omega));dsimp only[aF,aG];apply vn (oX (c:=((long-1-i:Nat):Int)) (by rw[show((long:Int)-1-(i:Int))=((long-1-i:Nat):Int) by omega];exact gI)) rfl;apply aA (BG m (long-1-i) hs);generalize m/32768^(long-1-i)%32768=d at *;dsimp only[aF,aG];apply vn (fF (c:=(y:Int)) (by rw[show(x:Int)*32768+(d:Int)=(y:Int) by omega];exact gI)) rfl;apply vn (aB (by omega) (by omega));dsimp only[aF,aG];exact af rfl ⟨⟨i+1,by omega⟩,⟨aK.Sub.of_eq (congrArg (fun q:Nat=>aK.one (aC.int .i64 (q:Int))) hy.symm),aK.Sub.same,trivial⟩,by show k-(i+1)<k-i;omega⟩
 rw[show k=i by omega];exact aM
theorem Xj{d:Nat}(h:0<d):zT (d:Int)=.agg [.int .i64 1,bT d]:=by
 rw[zT,zC,fZ (by omega)];rfl
theorem aE0{r d m:Nat}:r/32768^m/(d/32768^m+1)*d<=r:=by
 have hp:0<32768^m:=dZ (by omega)
 have h1:d<=(d/32768^m+1)*32768^m:=by
  rw[bo];exact iJ (ZD d hp)
 calc r/32768^m/(d/32768^m+1)*d<=r/32768^m/(d/32768^m+1)*((d/32768^m+1)*32768^m):=dF _ h1
  _=r/32768^m/(d/32768^m+1)*(d/32768^m+1)*32768^m:=(eP _ _ _).symm
  _<=r/32768^m*32768^m:=bu _ (pb _ _)
  _<=r:=pb _ _
theorem aJ0(r d:Nat)(hd:0<d)(hr:r<d*32768)(hs:(bd d).length<34359738368:=by omega):aW prog 241 [(.one (bT r):aK),(.one (bT d):aK)] (.ret [.one (.int .i64 ((r/d:Nat):Int)),.one (bT (r%d))]):=by
 refine eB func241 as6 ?_;have hdl:=CM d
 have hrl:r<32768^((bd d).length+1):=by
  rw[bW];exact MJ hr (sS hdl (by omega))
 have hrs:=jz hrl;have hle:∀q,q<=r->(bd q).length<=(bd d).length+1:=fun q hq=>bF (fT hq) hrs
 have hdn:0<(bd d).length:=by
  rcases ic (bd d).length with h | h
  ·have:=DR.1 (eO h);omega
  ·exact h
 have hqB:r/d<32768:=by rw[jl hd,bo];exact hr
 have hkd:∀k,k*d<=r->k<32768:=fun k hk=>by
  have:k<=r/d:=by rw[wo hd];exact hk
  omega
 have hfin:∀r' k,r'+k*d=r->r'<d->k=r/d/\r'=r%d:=fun r' k h1 h2=>xh (by rw[<-h1,bo]) h2
 have hah:∀r':Nat,(0<=fA (r':Int) (d:Int))↔d<=r':=fun r'=>by
  have:=rJ (a:=(r':Int)) (b:=(d:Int));omega
 apply vn (aR fG (aJ _));apply vn (aR fG (aJ _));apply vn jy;refine vs _ rfl ?_ ?_<;>intro h3
 ·apply vn qp;dsimp only[aF,aG];refine vs _ rfl ?_ ?_<;>intro h5
  ·apply vn (aB (by omega) (by omega));apply vn (aB (by omega) (by omega));apply aA (vZ r ((bd d).length+1) ((bd d).length+1) hrl (aY _));rw[eV,pa,oD];apply aA (vZ d (bd d).length (bd d).length hdl (aY _));rw[eV,pa,oD];dsimp only[aF,aG];obtain⟨k,hk⟩:∃k,r/d=k:=⟨_,rfl⟩
   have hk1:k*d<=r:=by rw[<-hk];exact pb _ _
   have hk2:=hkd k hk1;apply vn (pJ (c:=(k:Int)) (by omega) (by rw[oq (oZ _),<-Au,hk];exact gI)) rfl;apply vn fC;refine vs _ rfl ?_ ?_<;>intro h12
   ·have hm:=kN (k:Int) (d:Int) (by
     rw[cX,cX];have:(bd k).length<=1:=jz (by omega);omega)
    rw[Xj hd,show(k:Int)*(d:Int)=((k*d:Nat):Int) by rw[iI]]at hm;apply aA (oF k);apply aA hm;dsimp only[aF,aG];apply aA (lQ r (k*d) (r-k*d) (-1) (.inr rfl) (by have:=hle _ hk1;omega)) rfl;dsimp only[aF,aG];refine bG {g:Nat×Nat // g.1+g.2*d=r} (fun g=>[.one (bT g.1.1),.one (.int .i64 g.1.2)]) (fun g=>g.1.1) ⟨(r-k*d,k),by show r-k*d+k*d=r;omega⟩ aX.rfl (fun _=>rfl) ?_;rintro⟨⟨r',k'⟩,hg⟩;dsimp only[aF,aG]at hg|-;have hk3:=hkd k' (by omega);have hr3:=hle r' (by omega);apply aA (pH r' d);apply vn jy;refine vs _ rfl ?_ ?_<;>intro h19
    ·have hdr:d<=r':=(hah r').1 (by assumption);apply aA (lQ r' d (r'-d) (-1) (.inr rfl));apply vn (aB (by omega) (by omega));dsimp only[aF,aG];exact af rfl ⟨⟨(r'-d,k'+1),by show r'-d+(k'+1)*d=r;rw[bf];omega⟩,aX.rfl,by show r'-d<r';omega⟩
    have hdr:r'<d:=by
     rcases fL r' d with h | h
     ·exact h
     ·exact absurd ((hah r').2 h) (by assumption)
    obtain⟨e1,e2⟩:=hfin r' k' hg hdr;rw[<-e1,<-e2];exact aM
   refine bG {g:Nat×Nat // g.1+g.2*d=r} (fun g=>[.one (bT g.1.1),.one (.int .i64 g.1.2)]) (fun g=>g.1.1) ⟨(r,0),by omega⟩ ⟨aK.Sub.same,aK.Sub.of_eq (congrArg (fun q:Nat=>aK.one (aC.int .i64 (q:Int))) (by show k=0;omega)),trivial⟩ (fun _=>rfl) ?_;rintro⟨⟨r',k'⟩,hg⟩;dsimp only[aF,aG]at hg|-;have hk3:=hkd k' (by omega);have hr3:=hle r' (by omega);apply aA (pH r' d);apply vn jy;refine vs _ rfl ?_ ?_<;>intro h27
   ·have hdr:d<=r':=(hah r').1 (by assumption);apply aA (lQ r' d (r'-d) (-1) (.inr rfl));apply vn (aB (by omega) (by omega));dsimp only[aF,aG];exact af rfl ⟨⟨(r'-d,k'+1),by show r'-d+(k'+1)*d=r;rw[bf];omega⟩,aX.rfl,by show r'-d<r';omega⟩
   have hdr:r'<d:=by
    rcases fL r' d with h | h
    ·exact h
    ·exact absurd ((hah r').2 h) (by assumption)
   obtain⟨e1,e2⟩:=hfin r' k' hg hdr;rw[<-e1,<-e2];exact aM
  apply vn (aB (by omega) (by omega));apply aA (vZ r ((bd d).length+1) 4 hrl);apply aA (vZ d (bd d).length 3 hdl);rw[show(bd d).length+1-4=(bd d).length-3 by omega];have hd3:=uu (m:=d) (long:=(bd d).length) (i:=3) (by omega) hdl;have hr4:=uu (m:=r) (long:=(bd d).length+1) (i:=4) (by omega) hrl;rw[show(bd d).length+1-4=(bd d).length-3 by omega]at hr4;have hp3:=XW (i:=3);have hp4:=XW (i:=4);have hk1:=aE0 (r:=r) (d:=d) (m:=(bd d).length-3);generalize r/32768^((bd d).length-3)=rt at *;generalize d/32768^((bd d).length-3)=dt at *;obtain⟨k,hk⟩:∃k,rt/(dt+1)=k:=⟨_,rfl⟩
  rw[hk]at hk1;have hk2:=hkd k hk1;apply vn (aB (by omega) (by omega));dsimp only[aF,aG];apply vn (pJ (c:=(k:Int)) (by omega) (by rw[oq (oZ _),show((dt:Int)+1)=((dt+1:Nat):Int) by omega,<-Au,hk];exact gI)) rfl;apply vn fC;refine vs _ rfl ?_ ?_<;>intro h38
  ·have hm:=kN (k:Int) (d:Int) (by
    rw[cX,cX];have:(bd k).length<=1:=jz (by omega);omega)
   rw[Xj hd,show(k:Int)*(d:Int)=((k*d:Nat):Int) by rw[iI]]at hm;apply aA (oF k);apply aA hm;dsimp only[aF,aG];apply aA (lQ r (k*d) (r-k*d) (-1) (.inr rfl) (by have:=hle _ hk1;omega)) rfl;dsimp only[aF,aG];refine bG {g:Nat×Nat // g.1+g.2*d=r} (fun g=>[.one (bT g.1.1),.one (.int .i64 g.1.2)]) (fun g=>g.1.1) ⟨(r-k*d,k),by show r-k*d+k*d=r;omega⟩ aX.rfl (fun _=>rfl) ?_;rintro⟨⟨r',k'⟩,hg⟩;dsimp only[aF,aG]at hg|-;have hk3:=hkd k' (by omega);have hr3:=hle r' (by omega);apply aA (pH r' d);apply vn jy;refine vs _ rfl ?_ ?_<;>intro h45
   ·have hdr:d<=r':=(hah r').1 (by assumption);apply aA (lQ r' d (r'-d) (-1) (.inr rfl));apply vn (aB (by omega) (by omega));dsimp only[aF,aG];exact af rfl ⟨⟨(r'-d,k'+1),by show r'-d+(k'+1)*d=r;rw[bf];omega⟩,aX.rfl,by show r'-d<r';omega⟩
   have hdr:r'<d:=by
    rcases fL r' d with h | h
    ·exact h
    ·exact absurd ((hah r').2 h) (by assumption)
   obtain⟨e1,e2⟩:=hfin r' k' hg hdr;rw[<-e1,<-e2];exact aM
  refine bG {g:Nat×Nat // g.1+g.2*d=r} (fun g=>[.one (bT g.1.1),.one (.int .i64 g.1.2)]) (fun g=>g.1.1) ⟨(r,0),by omega⟩ ⟨aK.Sub.same,aK.Sub.of_eq (congrArg (fun q:Nat=>aK.one (aC.int .i64 (q:Int))) (by show k=0;omega)),trivial⟩ (fun _=>rfl) ?_;rintro⟨⟨r',k'⟩,hg⟩;dsimp only[aF,aG]at hg|-;have hk3:=hkd k' (by omega);have hr3:=hle r' (by omega);apply aA (pH r' d);apply vn jy;refine vs _ rfl ?_ ?_<;>intro h53
  ·have hdr:d<=r':=(hah r').1 (by assumption);apply aA (lQ r' d (r'-d) (-1) (.inr rfl));apply vn (aB (by omega) (by omega));dsimp only[aF,aG];exact af rfl ⟨⟨(r'-d,k'+1),by show r'-d+(k'+1)*d=r;rw[bf];omega⟩,aX.rfl,by show r'-d<r';omega⟩
  have hdr:r'<d:=by
   rcases fL r' d with h | h
   ·exact h
   ·exact absurd ((hah r').2 h) (by assumption)
  obtain⟨e1,e2⟩:=hfin r' k' hg hdr;rw[<-e1,<-e2];exact aM
 apply vn fC;refine vs _ rfl ?_ ?_<;>intro h59
 ·exfalso;omega
 refine bG {g:Nat×Nat // g.1+g.2*d=r} (fun g=>[.one (bT g.1.1),.one (.int .i64 g.1.2)]) (fun g=>g.1.1) ⟨(r,0),by omega⟩ aX.rfl (fun _=>rfl) ?_;rintro⟨⟨r',k'⟩,hg⟩;dsimp only[aF,aG]at hg|-;have hk3:=hkd k' (by omega);have hr3:=hle r' (by omega);apply aA (pH r' d);apply vn jy;refine vs _ rfl ?_ ?_<;>intro h74
 ·have hdr:d<=r':=(hah r').1 (by assumption);apply aA (lQ r' d (r'-d) (-1) (.inr rfl));apply vn (aB (by omega) (by omega));dsimp only[aF,aG];exact af rfl ⟨⟨(r'-d,k'+1),by show r'-d+(k'+1)*d=r;rw[bf];omega⟩,aX.rfl,by show r'-d<r';omega⟩
 have hdr:r'<d:=by
  rcases fL r' d with h | h
  ·exact h
  ·exact absurd ((hah r').2 h) (by assumption)
 obtain⟨e1,e2⟩:=hfin r' k' hg hdr;rw[<-e1,<-e2];exact aM
theorem kZ(a d:Nat)(hd:0<d:=by omega)(hs:(bd a).length+(bd d).length<34359738368:=by omega):aW prog 219 [(.one (bT a):aK),(.one (bT d):aK)] (.ret [.one (bT (a/d)),.one (bT (a%d))]):=by
 refine eB func219 bb5 ?_
 have hdn:0<(bd d).length:=by
  rcases ic (bd d).length with h | h
  ·have:=DR.1 (eO h);omega
  ·exact h
 apply vn (aR fG (aJ _));apply vn (aR fG (aJ _));apply vn an;refine vs _ rfl ?_ ?_<;>intro h3
 ·have had:=tu (a:=a) (b:=d);refine jG ⟨aL1 (ec had),?_,trivial⟩;rw[ed had];exact aC.Sub.same
 apply vn (aR fG (aJ _));dsimp only[aF,aG];apply vn (aO (by omega) (by omega));apply vn (bc0 (m:=(bd d).length-1));refine wO (ts:=[]) (us:=rB ((bd a).take ((bd d).length-1))) (vs:=rB ((bd a).take ((bd d).length-1))) rfl (.inr aC.Sub.same) rfl (by simp;omega) (by simp[maxLen];omega) ?_;apply aA (rS ((bd a).take ((bd d).length-1)) ((jF a).take _) (by rw[bL];omega)) rfl;dsimp only[aF,aG];apply vn (aR fG (aJ _));apply vn (aO (by omega) (by omega));dsimp only[aF,aG]
 refine bG {g:Nat×Nat×List Nat // (bd d).length-1<=g.1/\g.1<=(bd a).length/\bv ((bd a).take g.1)=g.2.1+d*bv g.2.2/\g.2.1<d/\DB 32768 g.2.2/\g.2.2.length<=g.1} (fun g=>[.one (bT g.1.2.1),.one (.int .i64 g.1.1),.rows (rB g.1.2.2)]) (fun g=>(bd a).length-g.1.1) ⟨((bd d).length-1,bv ((bd a).take ((bd d).length-1)),[]),aY _,by show(bd d).length-1<=_;omega,by simp[bv,val],by
  have h1:=Vw ((jF a).take ((bd d).length-1));rw[bL,dM (by omega)]at h1;exact br h1 (bX5 (by omega)),ar4,cL _⟩ ⟨aK.Sub.same,aK.Sub.of_eq (congrArg (fun q=>aK.one (aC.int .i64 q)) (by show((bd d).length:Int)-1=(((bd d).length-1:Nat):Int);omega)),aK.Sub.same,trivial⟩ (fun _=>rfl) ?_
 rintro⟨⟨i,R,qs⟩,hi1,hi2,hv,hR,hq,hql⟩;dsimp only[aF,aG]at hi1 hi2 hv hR hq hql|-;have hRl:=fT (iJ hR);apply vn (aR fG (aJ _));apply vn an;refine vs _ rfl ?_ ?_<;>intro h15
 ·obtain⟨x,hx⟩:∃x,(bd a)[i]?=some x:=⟨_,bB (by omega)⟩
  have hxB:=(jF a).get hx;refine wO (ts:=[]) (us:=rB (bd R)) (vs:=rB (bd R)) rfl (.inr aC.Sub.same) rfl (by simp;omega) (by simp[maxLen];omega) ?_;apply vn (aN fG (by omega) (by omega) hx);dsimp only[aF,aG];apply vn (bO ag3);apply fB (us:=rB [x]);refine wO (ts:=rB (bd R)) (us:=rB [x]) (vs:=rB (bd R++[x])) rfl rfl (by rw[rB,rB,rB,<-cP]) (by simp;omega) (by simp[maxLen];omega) ?_;dsimp only[aF,aG];have hdb:DB 32768 (bd R++[x]):=(jF R).append (fun y hy=>by simp at hy;omega);apply aA (rS (bd R++[x]) hdb (by simp;omega)) rfl;rw[AO,gL]
  apply aA (aJ0 (R*32768+x) d hd (by
   have:(R+1)*32768<=d*32768:=bu _ hR;omega)) rfl
  have hmd:=lh (R*32768+x) d
  have hqB:(R*32768+x)/d<32768:=by
   rw[jl hd,bo];have:(R+1)*32768<=d*32768:=bu _ hR;omega
  have hRm:=dY (R*32768+x) hd;generalize (R*32768+x)/d=k at *;generalize (R*32768+x)%d=R' at *;apply fB (us:=rB [k]);refine wO (ts:=rB qs) (us:=rB [k]) (vs:=rB (qs++[k])) rfl rfl (by rw[rB,rB,rB,<-cP]) (by simp;omega) (by simp[maxLen];omega) ?_;dsimp only[aF,aG];apply vn (aB (by omega) (by omega));dsimp only[aF,aG]
  exact af rfl ⟨⟨(i+1,R',qs++[k]),by show _<=i+1;omega,by show i+1<=_;omega,by
   show bv ((bd a).take (i+1))=R'+d*bv (qs++[k]);rw[take_succ hx,AO,AO,hv,eY,bf,<-eP];omega,hRm,hq.append (fun y hy=>by simp at hy;omega),by show(qs++[k]).length<=i+1;simp;omega⟩,aX.rfl,by show(bd a).length-(i+1)<(bd a).length-i;omega⟩
 have hie:i=(bd a).length:=by omega
 subst hie;rw[gH,gL]at hv;obtain⟨e1,e2⟩:=xh hv hR;apply aA (rS qs hq);dsimp only[aF,aG];rw[<-e1,<-e2];exact aM
theorem Ci(m:Nat)(hm:(bd m).length<=4:=by omega):aW prog 225 [(.one (bT m):aK)] (.ret [.one (.int .i64 m)]):=by
 refine eB func225 am1 ?_;refine bG {i:Nat // i<=(bd m).length} (fun g=>[.one (.int .i64 (bv ((bd m).take g.1):Nat)),.one (.int .i64 g.1)]) (fun g=>(bd m).length-g.1) ⟨0,cL _⟩ aX.rfl (fun _=>rfl) ?_;rintro⟨i,hi⟩;dsimp only[aF,aG]at hi|-;apply vn (aR fG (aJ _));apply vn an;refine vs _ rfl ?_ ?_<;>intro h3
 ·obtain⟨x,hx⟩:∃x,(bd m)[i]?=some x:=⟨_,bB (by omega)⟩
  have hxB:=(jF m).get hx;have hb:=Vw ((jF m).take i);rw[bL,dM hi]at hb;have hp:=XW (i:=i);have hb2:=Vw ((jF m).take (i+1));rw[bL,dM (by omega)]at hb2;have hp2:=XW (i:=i+1);have hsn:bv ((bd m).take (i+1))=bv ((bd m).take i)*32768+x:=by rw[take_succ hx,AO]
  generalize bv ((bd m).take i)=y at *;apply vn xx;apply vn (aN fG (by omega) (by omega) hx);dsimp only[aF,aG];apply vn (bO ag3);apply vn (aB (by omega) (by omega));apply vn (aB (by omega) (by omega));dsimp only[aF,aG];exact af rfl ⟨⟨i+1,by omega⟩,⟨aK.Sub.of_eq (congrArg (fun q:Int=>aK.one (aC.int .i64 q)) (by show(y:Int)*32768+x=((bv ((bd m).take (i+1)):Nat):Int);omega)),aK.Sub.same,trivial⟩,by show(bd m).length-(i+1)<(bd m).length-i;omega⟩
 rw[show i=(bd m).length by omega,gH,gL];exact aM
theorem Yu(x y:Int)(hs:(bd x.natAbs).length<17179869184:=by omega)(xJ:(bd y.natAbs).length<17179869184:=by omega):aW prog 218 [(zT x:aK),(zT y:aK)] (.ret [zT ((Nat.gcd x.natAbs y.natAbs:Nat):Int)]):=by
 refine eB func218 aS2 ?_;refine bG {p:Nat×Nat // Nat.gcd p.1 p.2=Nat.gcd x.natAbs y.natAbs/\(bd p.1).length<17179869184/\(bd p.2).length<17179869184} (fun p=>[.one (bT p.1.1),.one (bT p.1.2),.one (.int .i64 0),.one (.exact (.slice none 0 0))]) (fun p=>p.1.2) ⟨(x.natAbs,y.natAbs),rfl,hs,xJ⟩ aX.rfl (fun _=>rfl) ?_;rintro⟨⟨a,b⟩,hg,ha,hb⟩;dsimp only[aF,aG]at hg ha hb|-;have hbz:(bd b).length=0↔b=0:=by rw[vf,DR]
 have hml:=fT (sC a b);apply vn (aR fG (aJ _));apply vn fC;refine vs _ rfl ?_ ?_<;>intro h3
 ·have hb0:0<b:=by
   rcases ic b with h | h
   ·have:=hbz.2 h;omega
   ·exact h
  apply vn (aR fG (aJ _));apply vn qp;dsimp only[aF,aG];refine vs _ rfl ?_ ?_<;>intro h6
  ·apply vn (aR fG (aJ _));apply vn qp;refine vs _ rfl ?_ ?_<;>intro h9
   ·have h4:∀n,(bd n).length<=4->n<1152921504606846976:=fun n hn=>br (CM n) (XW hn);have ha4:=h4 a (by omega);have hb4:=h4 b (by omega);apply aA (Ci a);apply aA (Ci b);dsimp only[aF,aG];refine bG {p:Nat×Nat // Nat.gcd p.1 p.2=Nat.gcd x.natAbs y.natAbs/\p.1<1152921504606846976/\p.2<1152921504606846976} (fun p=>[.one (.int .i64 p.1.1),.one (.int .i64 p.1.2)]) (fun p=>p.1.2) ⟨(a,b),hg,ha4,hb4⟩ aX.rfl (fun _=>rfl) ?_;rintro⟨⟨p,q⟩,hpq,hp,hq⟩;dsimp only[aF,aG]at hpq hp hq|-;apply vn gW;refine vs _ rfl ?_ ?_<;>intro h14
    ·apply vn (DA (c:=((p%q:Nat):Int)) (by omega) (by rw[qV (oZ _),<-Rf]));exact af rfl ⟨⟨(q,p%q),by rw[<-hpq,ja p q,se q p,ja],hq,dV (sC _ _) hp⟩,aX.rfl,dY _ (by omega)⟩
    have hq0:q=0:=by omega
    subst hq0;rw[AA]at hpq;apply aA (oF p);dsimp only[aF,aG];rw[<-hpq];exact aM
   apply aA (kZ a b hb0);dsimp only[aF,aG];exact af rfl ⟨⟨(b,a%b),by rw[<-hg,ja a b,se b a,ja],hb,by show(bd (a%b)).length<_;omega⟩,aX.rfl,dY _ hb0⟩
  apply aA (kZ a b hb0);dsimp only[aF,aG];exact af rfl ⟨⟨(b,a%b),by rw[<-hg,ja a b,se b a,ja],hb,by show(bd (a%b)).length<_;omega⟩,aX.rfl,dY _ hb0⟩
 have hb0:b=0:=hbz.1 (by omega);subst hb0;rw[AA]at hg;apply aA (gd 1 (a:Int) (bd a) (jF _) (by rw[gL];rfl) (fun hne=>by rw[gL]at hne;exact fZ (by omega))) rfl;dsimp only[aF,aG];rw[<-hg];exact aM
def ca2:Tr:=gQ 0 2 0 3 5 (aQ 1 0 (tS 114 1 2 2 49 (mJ 2 0 2 1)) (mJ 0 2 0 3))
theorem bE1:aV prog f120 dE [.v (some 4)]=ca2:=by kernel_rfl
def bE9:Tr:=gQ 9 0 1 3 28 (aQ 10 0 (qg 3 3 1 4 0 4 1) (ri 219 3 1 5 36 38 247 (ri 219 4 1 5 44 46 247 (Tp 189 3 11 2 51 52 3 47 49 (UE 13 54 (qg 15 15 1 16 0 16 1))))))
def bT2:Tr:=gQ 6 0 1 3 22 (aQ 7 0 (rh 5 1 0 47 26 (di 8 3 27 bE9)) (ri 219 3 1 5 36 38 247 (ri 219 4 1 5 44 46 247 (Tp 189 3 8 2 51 52 3 47 49 (UE 10 54 (qg 12 12 1 13 0 13 1))))))
def bA0:Tr:=gQ 7 0 1 3 28 (aQ 8 0 (qg 0 0 1 1 0 1 1) (ri 219 0 1 3 36 38 247 (ri 219 1 1 3 44 46 247 (Tp 189 0 9 2 51 52 3 47 49 (UE 11 54 (qg 13 13 1 14 0 14 1))))))
def bk6:Tr:=gQ 4 0 1 3 22 (aQ 5 0 (rh 3 1 0 47 26 (di 6 3 27 bA0)) (ri 219 0 1 3 36 38 247 (ri 219 1 1 3 44 46 247 (Tp 189 0 6 2 51 52 3 47 49 (UE 8 54 (qg 10 10 1 11 0 11 1))))))
def bQ7:Tr:=ju 1 0 0 3 11 (aQ 2 0 (gS 217 [(G2 0)] [(some 2)] [13] [49] 49 false (gS 217 [(G2 1)] [(some 2)] [15] [49] 49 true (qc 218 3 4 2 17 18 49 (aw 5 1 21 47 bT2)))) (qc 218 0 1 2 17 18 49 (aw 3 1 21 47 bk6)))
theorem an9:aV prog f173 dE [.v (some 2),.v (some 2)]=bQ7:=by kernel_rfl
def bf7:Tr:=qg 1 1 1 2 0 2 1
def bW6:Tr:=oy 114 0 2 3 2 49 (tS 114 1 2 2 49 bf7)
theorem br2:aV prog f39 dE [.v none]=bW6:=by kernel_rfl
def bR5:Tr:=Uq 114 0 2 5 49 (oy 114 1 2 7 2 49 (qc 173 2 3 4 6 8 51 (qg 4 4 1 4 2 4 3)))
theorem cd1:aV prog f75 dE [.v none,.v none]=bR5:=by kernel_rfl
def bP3:Tr:=vJ 119 1 4 11 13 49 (vJ 187 3 5 9 14 49 (qu 0 16 (qu 1 18 (qc 119 7 8 2 17 19 49 (qc 173 6 9 4 15 20 51 (qg 10 10 1 10 2 10 3))))))
def bJ8:Tr:=qu 1 7 (vJ 119 0 2 6 8 49 (qu 0 12 bP3))
theorem bG6:aV prog f99 dE [.v (some 4),.v (some 4)]=bJ8:=by kernel_rfl
def bT3:Tr:=gS 185 [(G4 1)] [(some 4)] [6] [51] 51 true (LS 99 0 0 1 0 2 0 3 2 2 1 2 2 2 3 5 7 (qg 3 3 1 3 2 3 3))
theorem bG4:aV prog f96 dE [.v (some 4),.v (some 4)]=bT3:=by kernel_rfl
def bi1:Tr:=qg 6 6 1 6 2 6 3
def cd5:Tr:=vJ 119 0 1 6 8 49 (qu 0 10 (qu 1 12 (qc 119 3 4 2 11 13 49 (qc 173 2 5 4 9 14 51 bi1))))
theorem bw9:aV prog f77 dE [.v (some 4),.v (some 4)]=cd5:=by kernel_rfl
def bL4:Tr:=qu 1 7 (vJ 119 0 2 6 8 49 (qu 0 10 (qc 119 4 1 2 11 13 49 (qc 173 3 5 4 9 14 51 bi1))))
theorem bm8:aV prog f151 dE [.v (some 4),.v (some 4)]=bL4:=by kernel_rfl
def bZ0:Tr:=gS 217 [(G2 0)] [(some 2)] [4] [49] 49 false (gS 120 [(G4 0)] [(some 2)] [6] [51] 49 true bf7)
theorem bD1:aV prog f185 dE [.v (some 4)]=bZ0:=by kernel_rfl
def bO1:Tr:=qu 1 7 (vJ 119 0 2 6 8 49 (qu 0 12 (qc 119 1 4 2 11 13 49 (gS 118 [(G2 3),(G2 5)] [none] [9,14] [49,49] 3 true (cD 6)))))
theorem bG9:aV prog f41 dE [.v (some 4),.v (some 4)]=bO1:=by kernel_rfl
def bQ9:Tr:=cD 0
theorem aQ3:aV prog f56 dE [.v (some 4)]=bQ9:=by kernel_rfl
structure RQ where
 q:Rat
 z:Bool
 h:z=true->q=0
def RQ.of(q:Rat):RQ:=⟨q,false,fun h=>by cases h⟩
def RQ.nil:RQ:=⟨0,true,fun _=>rfl⟩
abbrev rC(a:RQ):List aC:=[.int .i64 a.q.num.sign,bT a.q.num.natAbs,.int .i64 (if a.z then 0 else 1),bT (if a.z then 0 else a.q.den)]
abbrev mB(a:RQ):aK:=.agg (rC a)
theorem RQ.Jn(q:Rat):(RQ.of q).q=q:=rfl
theorem bu6(q:Rat):zT (q.den:Int)=.agg [.int .i64 1,bT q.den]:=Xj q.den_pos
theorem ch1:aj aC.Sub [.int .i64 0,.exact (.slice none 0 0),.int .i64 0,.exact (.slice none 0 0)] (rC RQ.nil):=⟨aC.Sub.same,aL1 rfl,aC.Sub.same,aL1 rfl,trivial⟩
theorem lO(a:RQ):aW prog 120 [(mB a:aK)] (.ret [zT (a.q.den:Int)]):=by
 refine eB func120 bE1 ?_;apply vn cF;refine vs _ rfl ?_ ?_<;>intro h1
 ·have ha:a.z=true:=by cases h:a.z<;>simp_all
  have hq:=a.h ha;apply aA (oF 1);dsimp only[aF,aG];rw[hq];exact aM
 have ha:a.z=false:=by cases h:a.z<;>simp_all
 refine aM ?_;rw[bu6];show[aK.agg [.int .i64 (if a.z then 0 else 1),bT (if a.z then 0 else a.q.den)]]=_;rw[ha];rfl
theorem gk{n B:Nat}(h:n<2^B):(bd n).length<=B:=jz (br h (nu (by omega) B))
def tH(n d:Int):Rat:=mkRat (if d<0 then -n else n) d.natAbs
theorem bb1{z:Int}{d:Nat}(hd:d≠0:=by omega):(mkRat z d).num=z/((z.natAbs.gcd d:Nat):Int)/\(mkRat z d).den=d/z.natAbs.gcd d/\(mkRat z d).num.natAbs=z.natAbs/z.natAbs.gcd d/\(mkRat z d).num.sign=z.sign:=by
 obtain⟨h1,h2⟩:=ax7 (z:=z) hd;have hg:0<z.natAbs.gcd d:=vV _ (by omega);have hgz:z≠0->z.natAbs.gcd d<=z.natAbs:=fun h=>Nat.gcd_le_left _ (by omega)
 have h3:(mkRat z d).num.natAbs=z.natAbs/z.natAbs.gcd d:=by
  rw[h1];generalize z.natAbs/z.natAbs.gcd d=t;split<;>omega
 refine⟨?_,h2,h3,?_⟩
 ·rw[<-Aw hd,Aj hd]
 ·rcases cp z with⟨h,e⟩ | ⟨h,e⟩ | ⟨h,e⟩
  ·rw[e,h1,cS h,aD rfl];have:=mO (hgz (by omega)) hg;exact oK (by omega)
  ·rw[e];subst h;rw[Rat.zero_mkRat];rfl
  ·rw[e,h1,dh (by omega),aH (by simp)];have:=mO (hgz (by omega)) hg;exact fZ (by omega)
theorem um{g:Nat}(h:(bd g).length=1){x:Nat}(hx:(bd g)[0]?=some x):g=x:=by
 match hb:bd g,h with
 | [y],_=>
   rw[hb]at hx;simp only[mI,aU]at hx;subst hx;rw[<-gL g,hb,zk];simp[bv,val]
theorem yh{q:Rat}:mB (RQ.of q)=.agg [.int .i64 q.num.sign,bT q.num.natAbs,.int .i64 1,bT q.den]:=rfl
theorem wW(n d:Int)(hd:d≠0)(xJ:(bd d.natAbs).length<8589934592:=by omega)(hs:(bd n.natAbs).length<8589934592:=by omega):aW prog 173 [(zT n:aK),(zT d:aK)] (.ret [mB (.of (tH n d))]):=by
 refine eB func173 an9 ?_;have hsd:=cp d
 have key:∀m:Int,m.natAbs=n.natAbs->tH n d=mkRat m d.natAbs->(tH n d).den=d.natAbs/Nat.gcd n.natAbs d.natAbs/\(tH n d).num.natAbs=n.natAbs/Nat.gcd n.natAbs d.natAbs/\(tH n d).num.sign=m.sign:=fun m hm e=>by
  have:=bb1 (z:=m) (d:=d.natAbs);rw[hm]at this;rw[e];exact⟨this.2.1,this.2.2.1,this.2.2.2⟩
 have hg:0<Nat.gcd n.natAbs d.natAbs:=vV _ (by omega);have hgd:Nat.gcd n.natAbs d.natAbs<=d.natAbs:=Nat.gcd_le_right _ (by omega);have hgl:=fT hgd;have hdg:=mO hgd hg;have hnl:=fT (qX n.natAbs (Nat.gcd n.natAbs d.natAbs));have hdl:=fT (qX d.natAbs (Nat.gcd n.natAbs d.natAbs));apply vn an;refine vs _ rfl ?_ ?_<;>intro h1
 ·have hd0:d<0:=by rcases hsd with⟨h,e⟩ | ⟨h,e⟩ | ⟨h,e⟩<;>omega
  have hR:tH n d=mkRat (-n) d.natAbs:=by rw[tH,aD hd0]
  obtain⟨k1,k2,k3⟩:=key (-n) (gX n) hR;generalize tH n d=q at *;apply aA (Bb n);apply aA (Bb d);dsimp only[aF,aG];have hc:=Yu (-n) (-d) (by rw[gX];omega) (by rw[gX];omega);rw[gX,gX]at hc;apply aA hc;generalize hG:Nat.gcd n.natAbs d.natAbs=g at *;apply vn (aR fG (aJ _));apply vn cF;refine vs _ rfl ?_ ?_<;>intro h7
  ·obtain⟨x,hx⟩:∃x,(bd g)[0]?=some x:=⟨_,bB (by rw[cX]at h7;omega)⟩
   apply vn (aN fG (by omega) (by omega) (show(bd ((g:Int)).natAbs)[0]?=some x from hx));dsimp only[aF,aG];apply vn (bO ag3);apply vn cF;refine vs _ rfl ?_ ?_<;>intro h11
   ·have hg1:g=1:=by
     have:=um (g:=g) (by rw[cX]at h7;omega) hx;omega
    rw[hg1,oD]at k1 k2;refine aM ?_;rw[yh,k3,k2,k1];show[aK.agg [.int .i64 (-n).sign,bT (-n).natAbs,.int .i64 (-d).sign,bT (-d).natAbs]]=_;rw[gX,gX,fZ (show 0 < -d by omega)]
   have ho1:=kZ n.natAbs g hg;have ho2:=kZ d.natAbs g hg;rw[<-k2]at ho1 hnl;rw[<-k1]at ho2 hdl hdg;have hn':(-n).natAbs=n.natAbs:=gX n;have hd':(-d).natAbs=d.natAbs:=gX d;rw[<-hn']at ho1;rw[<-hd']at ho2;apply aA ho1;apply aA ho2;dsimp only[aF,aG];apply aA (gd (-n).sign q.num _ (jF _) (by rw[gL]) (fun _=>k3));apply aA (gd 1 (q.den:Int) _ (jF _) (by rw[gL];rfl) (fun _=>fZ (by omega))) rfl;dsimp only[aF,aG];refine aM ?_;rw[yh];show[aK.agg [.int .i64 q.num.sign,bT q.num.natAbs,.int .i64 (q.den:Int).sign,bT (q.den:Int).natAbs]]=_;rw[fZ (show(0:Int)<q.den by omega),cX]
  have ho1:=kZ n.natAbs g hg;have ho2:=kZ d.natAbs g hg;rw[<-k2]at ho1 hnl;rw[<-k1]at ho2 hdl hdg;have hn':(-n).natAbs=n.natAbs:=gX n;have hd':(-d).natAbs=d.natAbs:=gX d;rw[<-hn']at ho1;rw[<-hd']at ho2;apply aA ho1;apply aA ho2;apply aA (gd (-n).sign q.num _ (jF _) (by rw[gL]) (fun _=>k3));apply aA (gd 1 (q.den:Int) _ (jF _) (by rw[gL];rfl) (fun _=>fZ (by omega))) rfl;dsimp only[aF,aG];refine aM ?_;rw[yh];show[aK.agg [.int .i64 q.num.sign,bT q.num.natAbs,.int .i64 (q.den:Int).sign,bT (q.den:Int).natAbs]]=_;rw[fZ (show(0:Int)<q.den by omega),cX]
 have hd0:0<d:=by rcases hsd with⟨h,e⟩ | ⟨h,e⟩ | ⟨h,e⟩<;>omega
 have hR:tH n d=mkRat n d.natAbs:=by rw[tH,aH (by omega)]
 obtain⟨k1,k2,k3⟩:=key n rfl hR;generalize tH n d=q at *;have hc:=Yu n d;apply aA hc;generalize hG:Nat.gcd n.natAbs d.natAbs=g at *;apply vn (aR fG (aJ _));apply vn cF;refine vs _ rfl ?_ ?_<;>intro h26
 ·obtain⟨x,hx⟩:∃x,(bd g)[0]?=some x:=⟨_,bB (by rw[cX]at h26;omega)⟩
  apply vn (aN fG (by omega) (by omega) (show(bd ((g:Int)).natAbs)[0]?=some x from hx));dsimp only[aF,aG];apply vn (bO ag3);apply vn cF;refine vs _ rfl ?_ ?_<;>intro h30
  ·have hg1:g=1:=by
    have:=um (g:=g) (by rw[cX]at h26;omega) hx;omega
   rw[hg1,oD]at k1 k2;refine aM ?_;rw[yh,k3,k2,k1];show[aK.agg [.int .i64 n.sign,bT n.natAbs,.int .i64 d.sign,bT d.natAbs]]=_;rw[fZ (show 0<d by omega)]
  have ho1:=kZ n.natAbs g hg;have ho2:=kZ d.natAbs g hg;rw[<-k2]at ho1 hnl;rw[<-k1]at ho2 hdl hdg;apply aA ho1;apply aA ho2;dsimp only[aF,aG];apply aA (gd n.sign q.num _ (jF _) (by rw[gL]) (fun _=>k3));apply aA (gd 1 (q.den:Int) _ (jF _) (by rw[gL];rfl) (fun _=>fZ (by omega))) rfl;dsimp only[aF,aG];refine aM ?_;rw[yh];show[aK.agg [.int .i64 q.num.sign,bT q.num.natAbs,.int .i64 (q.den:Int).sign,bT (q.den:Int).natAbs]]=_;rw[fZ (show(0:Int)<q.den by omega),cX]
 have ho1:=kZ n.natAbs g hg;have ho2:=kZ d.natAbs g hg;rw[<-k2]at ho1 hnl;rw[<-k1]at ho2 hdl hdg;apply aA ho1;apply aA ho2;apply aA (gd n.sign q.num _ (jF _) (by rw[gL]) (fun _=>k3));apply aA (gd 1 (q.den:Int) _ (jF _) (by rw[gL];rfl) (fun _=>fZ (by omega))) rfl;dsimp only[aF,aG];refine aM ?_;rw[yh];show[aK.agg [.int .i64 q.num.sign,bT q.num.natAbs,.int .i64 (q.den:Int).sign,bT (q.den:Int).natAbs]]=_;rw[fZ (show(0:Int)<q.den by omega),cX]
theorem Vq{n:Int}{d:Nat}:tH n (d:Int)=mkRat n d:=by
 rw[tH,aH (by omega),cX]
theorem Uw{a b:Rat}(hb:b≠0):tH (a.num*(b.den:Int)) ((a.den:Int)*b.num)=a/b:=by
 have hn:b.num≠0:=fun e=>hb (lT.1 e);have ha:=a.den_pos;rw[<-ay7 hb,tH,eC,cX];by_cases h:b.num<0
 ·rw[aD (Int.mul_neg_of_pos_of_neg (by omega) h),cS h,aD rfl,Int.mul_neg]
 ·rw[aH (by have:=Int.mul_nonneg (show(0:Int)<=a.den by omega) (show 0<=b.num by omega);omega),dh h,aH (by simp)]
theorem bb8{n d:Int}(hd:d≠0):tH n d=(n:Rat)/(d:Rat):=by
 have h:=Uw (a:=(n:Rat)) (b:=(d:Rat)) (by rw[Ne,<-lT,sY];exact hd);rw[sY,sY,AF,AF]at h;rw[<-h];congr 1<;>omega
theorem Fit.bd{B:Nat}{q:Rat}(h:Fit B q):(bd q.num.natAbs).length<=B/\(bd q.den).length<=B:=⟨gk h.1,gk h.2⟩
theorem PW(n:Int)(h1:-9223372036854775808<=n:=by omega)(h2:n<9223372036854775808:=by omega):aW prog 39 [(.one (.int .i64 n):aK)] (.ret [mB (.of (n:Rat))]):=by
 refine eB func39 br2 ?_;apply aA (oF n h1 h2);apply aA (oF 1);dsimp only[aF,aG];rw[yh,sY,AF];exact aM
theorem bg1(n d:Int)(h1:-9223372036854775808<=n)(h2:n<9223372036854775808)(hd:d≠0:=by omega)(h3:-9223372036854775808<=d:=by omega)(h4:d<9223372036854775808:=by omega):aW prog 75 [(.one (.int .i64 n):aK),(.one (.int .i64 d):aK)] (.ret [mB (.of ((n:Rat)/(d:Rat)))]):=by
 refine eB func75 cd1 ?_;apply aA (oF n h1 h2);apply aA (oF d h3 h4);dsimp only[aF,aG];have hn:=gk (n:=n.natAbs) (B:=64) (by omega);have hdd:=gk (n:=d.natAbs) (B:=64) (by omega);apply aA (wW n d hd);rw[bb8 hd];exact aM
theorem bu4(a:RQ):aW prog 185 [(mB a:aK)] (.ret [mB (.of (-a.q))]):=by
 refine eB func185 bD1 ?_;apply aA (Bb a.q.num);apply aA (lO a);dsimp only[aF,aG];refine aM ?_;rw[yh,zm,AD];show[aK.agg [.int .i64 (-a.q.num).sign,bT (-a.q.num).natAbs,.int .i64 (a.q.den:Int).sign,bT (a.q.den:Int).natAbs]]=_;have:=a.q.den_pos;rw[fZ (show(0:Int)<a.q.den by omega),cX]
theorem Oy(a:RQ):aW prog 56 [(mB a:aK)] (.ret [.one (.int .i64 a.q.num.sign)]):=by
 refine eB func56 aQ3 ?_;exact aM
theorem ES(a b:RQ)(A B:Nat)(ha:Fit A a.q)(hb:Fit B b.q)(h:A+B<=4294967296:=by omega):aW prog 77 [(mB a:aK),(mB b:aK)] (.ret [mB (.of (a.q*b.q))]):=by
 refine eB func77 bw9 ?_;obtain⟨ha1,ha2⟩:=Fit.bd ha;obtain⟨hb1,hb2⟩:=Fit.bd hb;have hn:=gk (bM ha.1 hb.1);have hd:=gk (bM ha.2 hb.2);have hpa:=a.q.den_pos;have hpb:=b.q.den_pos;apply aA (kN a.q.num b.q.num);apply aA (lO a);apply aA (lO b);apply aA (kN (a.q.den:Int) (b.q.den:Int) (by rw[cX,cX];omega)) rfl;rw[<-iI];dsimp only[aF,aG];apply aA (wW _ ((a.q.den*b.q.den:Nat):Int) (by have:=jA hpa hpb;omega) (by rw[cX];omega) (by rw[eC];omega)) rfl;rw[Vq,<-Nu];exact aM
theorem aA2(a b:RQ)(A B:Nat)(ha:Fit A a.q)(hb:Fit B b.q)(h:A+B<=4294967296:=by omega):aW prog 99 [(mB a:aK),(mB b:aK)] (.ret [mB (.of (a.q+b.q))]):=by
 refine eB func99 bG6 ?_;obtain⟨ha1,ha2⟩:=Fit.bd ha;obtain⟨hb1,hb2⟩:=Fit.bd hb;have hn1:=gk (bM ha.1 hb.2);have hn2:=gk (bM hb.1 ha.2);have hd:=gk (bM ha.2 hb.2);have hpa:=a.q.den_pos;have hpb:=b.q.den_pos
 have hsum:(bd (a.q.num*(b.q.den:Int)+b.q.num*(a.q.den:Int)).natAbs).length<=A+B+1:=by
  apply gk;have h1:=bM ha.1 hb.2;have h2:=bM hb.1 ha.2;rw[gD B A]at h2;rw[bW];refine dV (AR _ _) ?_;rw[eC,eC,cX,cX];omega
 apply aA (lO b);apply aA (kN a.q.num (b.q.den:Int) (by rw[cX];omega)) rfl;apply aA (lO a);apply aA (kN b.q.num (a.q.den:Int) (by rw[cX];omega)) rfl;dsimp only[aF,aG];apply aA (Yp _ _ (by rw[eC,cX];omega) (by rw[eC,cX];omega)) rfl;apply aA (lO a);apply aA (lO b);apply aA (kN (a.q.den:Int) (b.q.den:Int) (by rw[cX,cX];omega)) rfl;rw[<-iI a.q.den b.q.den];dsimp only[aF,aG];apply aA (wW _ ((a.q.den*b.q.den:Nat):Int) (by have:=jA hpa hpb;omega) (by rw[cX];omega)) rfl;rw[Vq,<-Ru];exact aM
theorem bv0(a b:RQ)(A B:Nat)(ha:Fit A a.q)(hb:Fit B b.q)(h:A+B<=4294967296:=by omega):aW prog 96 [(mB a:aK),(mB b:aK)] (.ret [mB (.of (a.q-b.q))]):=by
 refine eB func96 bG4 ?_;apply aA (bu4 b);apply aA (aA2 a (.of (-b.q)) A B ha hb.neg h);rw[RQ.Jn,<-Af];exact aM
theorem ao1(a b:RQ)(A B:Nat)(hb0:b.q≠0)(ha:Fit A a.q)(hb:Fit B b.q)(h:A+B<=4294967296):aW prog 151 [(mB a:aK),(mB b:aK)] (.ret [mB (.of (a.q/b.q))]):=by
 refine eB func151 bm8 ?_;obtain⟨ha1,ha2⟩:=Fit.bd ha;obtain⟨hb1,hb2⟩:=Fit.bd hb;have hn:=gk (bM ha.1 hb.2);have hd:=gk (bM ha.2 hb.1);have hpa:=a.q.den_pos;have hnb:b.q.num≠0:=fun e=>hb0 (lT.1 e);apply aA (lO b);apply aA (kN a.q.num (b.q.den:Int) (by rw[cX];omega)) rfl;apply aA (lO a);apply aA (kN (a.q.den:Int) b.q.num (by rw[cX];omega)) rfl;dsimp only[aF,aG];apply aA (wW _ _ (Int.mul_ne_zero (by omega) hnb) (by rw[eC,cX];omega) (by rw[eC,cX];omega)) rfl;rw[Uw hb0];exact aM
theorem bj9(a b:RQ)(A B:Nat)(ha:Fit A a.q)(hb:Fit B b.q)(h:A+B<=4294967296:=by omega):aW prog 41 [(mB a:aK),(mB b:aK)] (.ret [.one (.int .i64 (gy a.q b.q))]):=by
 refine eB func41 bG9 ?_;obtain⟨ha1,ha2⟩:=Fit.bd ha;obtain⟨hb1,hb2⟩:=Fit.bd hb;have hn1:=gk (bM ha.1 hb.2);have hn2:=gk (bM hb.1 ha.2);apply aA (lO b);apply aA (kN a.q.num (b.q.den:Int) (by rw[cX];omega)) rfl;apply aA (lO a);apply aA (kN b.q.num (a.q.den:Int) (by rw[cX];omega)) rfl;dsimp only[aF,aG];apply aA (aL7 _ _ (by rw[eC,cX];omega) (by rw[eC,cX];omega)) rfl;rw[<-xd];exact aM
end Go.Sy
