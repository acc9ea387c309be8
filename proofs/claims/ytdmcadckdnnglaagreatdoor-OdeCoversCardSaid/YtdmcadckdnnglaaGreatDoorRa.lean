/- Part. -/
import Derived.Test.YtdmcadckdnnglaaGreatDoorNb
set_option linter.all false
set_option maxHeartbeats 2000000
namespace Go.Sy
open Go Go.Proofs Tryz Ord
def Rd:Tr:=bI 1
def bw5:Tr:=aH 3 0 (oZ 1 0 0 45 7 (bm 4 3 8 (eH 5 0 0 3 9 (aH 6 0 (Qc 1 45 12 (.back 0 [lV 7 0])) Rd)))) Rd
def bM5:Tr:=Fc 0 (au 1 0 3 45 (fL 2 0 0 3 4 bw5))
def ZW:aM prog f260 bZ [.v none]=bM5:=by kernel_rfl
def bJ7:Tr:=qt 260 1 5 45 45 (au 2 0 7 45 (eH 3 0 0 3 8 (aH 4 0 (.ret [(.agg [(tE (.int .i64 0)),tN])]) (kh 0 0 2 0))))
def aA2:aM prog f211 bZ [.v none,.v none]=bJ7:=by kernel_rfl
def by1:Tr:=iJ 5 0 0 3 12 (aH 6 0 (PU 5 3 14 (pa 7 45 16 (gU 1 8 8 3 17 18 45 (qA .quo 2 20 32768 2 0 2 (jV 0 10 9))))) (pa 5 45 16 (gU 1 8 7 3 17 18 45 (qA .quo 2 20 32768 2 0 2 (jV 0 9 8)))))
def aK9:Tr:=qA .rem 2 10 32768 2 0 2 by1
def ae4:Tr:=kh 5 0 5 1
def bA8:Tr:=iJ 0 0 0 2 6 (aH 1 0 (RP (lP 2 2 8 (aH 4 0 aK9 (ah1 (-1) ae4)))) (RP (lP 2 2 8 (aH 4 0 aK9 (ah1 1 ae4)))))
def aw8:aM prog f139 bZ [.v none]=bA8:=by kernel_rfl
def aP5:Tr:=qQ (-1)
def aL6:Tr:=qQ 1
def bl5:Tr:=bm 14 3 33 (gb 1 0 6 0 45 35 36 (bm 16 3 37 (uW .gtr 3 34 38 15 0 17 0 4 (aH 18 0 aL6 (bD 6 1 3 20 (jj 0 5 19))))))
def aR8:Tr:=gb 0 0 6 0 45 22 23 (bm 9 3 24 (gb 1 0 6 0 45 26 27 (bm 11 3 28 (cU 10 12 0 3 25 29 4 (aH 13 0 aP5 (gb 0 0 6 0 45 31 32 bl5))))))
def ak2:Tr:=qQ 0
def bw6:Tr:=au 1 0 8 45 (uW .neq 3 7 9 2 0 3 0 4 (aH 4 0 (au 0 0 11 45 (au 1 0 13 45 (cU 5 6 0 3 12 14 4 (aH 7 0 aP5 aL6)))) (ym (au 0 0 17 45 (cU 6 7 0 3 16 18 4 (aH 8 0 aR8 ak2))))))
def bB4:Tr:=au 0 0 6 45 bw6
def ZY:aM prog f215 bZ [.v none,.v none]=bB4:=by kernel_rfl
def bv0:Tr:=aH 3 0 ak2 (au 0 0 10 45 (fP 4 1 11 (da 5 0 1 0 3 12 13 (gb 0 0 6 0 45 9 14 (bm 7 3 15 (bI 8))))))
def bA6:Tr:=au 0 0 6 45 (uW .geq 3 5 7 1 0 2 0 4 bv0)
def ab9:aM prog f263 bZ [.v none,.v none]=bA6:=by kernel_rfl
def aL0:Tr:=bI 5
def bv5:Tr:=au 0 0 5 45 (au 1 0 7 45 (uW .gtr 3 6 8 2 0 3 0 4 (aH 4 0 (au 0 0 10 45 aL0) (au 1 0 12 45 aL0))))
def Qf:aM prog f262 bZ [.v none,.v none]=bv5:=by kernel_rfl
def bn3:Tr:=fP 16 32768 40 (fP 4 1 43 (da 19 0 7 0 3 44 45 (dL 8 20 45 42 46 (ec 8 20 18 3 48 47 (bD 7 1 3 21 (KX 1 22 21))))))
def aT6:Tr:=aH 17 0 bn3 (fP 4 1 43 (da 18 0 7 0 3 44 45 (dL 8 19 45 42 46 (ec 8 19 16 3 48 47 (bD 7 1 3 21 (KX (-1) 21 20))))))
def bp7:Tr:=fP 14 32768 40 (fP 4 1 43 (da 18 0 7 0 3 44 45 (dL 8 19 45 42 46 (ec 8 19 17 3 48 47 (bD 7 1 3 21 (KX 1 21 20))))))
def aZ9:Tr:=aH 16 0 bp7 (fP 4 1 43 (da 17 0 7 0 3 44 45 (dL 8 18 45 42 46 (ec 8 18 14 3 48 47 (bD 7 1 3 21 (KX 0 20 19))))))
def bG4:Tr:=uW .mul 3 26 29 2 0 11 0 3 (fG 10 0 12 0 3 25 30 (fG 13 0 6 0 3 31 32 (iJ 14 0 0 3 34 (aH 15 0 (bD 14 32768 3 36 (qA .geq 3 38 32768 16 0 4 aT6)) (qA .geq 3 38 32768 14 0 4 aZ9)))))
def bG7:Tr:=bD 3 1 3 14 (XY (.loop 0 [lK 0,lK 0,.row 5] (cU 7 4 0 3 18 19 4 (aH 9 0 (dV 263 [(W 0 0),(W 7 0)] [none] [23,24] [45,3] 3 false (dV 263 [(W 1 0),(W 7 0)] [none] [27,28] [45,3] 3 false bG4)) (kB 260 1 8 49 45 45 (bI 10))))))
def bH9:Tr:=oL 262 0 0 1 12 13 45 45 3 bG7
def ax5:aM prog f214 bZ [.v none,.v none,.v none]=bH9:=by kernel_rfl
def aL3:Tr:=kh 1 0 0 1
def bF0:Tr:=PU 0 3 4 aL3
def aA8:aM prog f183 bZ [.v (some 2)]=bF0:=by kernel_rfl
def bE4:Tr:=uW .mul 3 4 6 0 0 0 0 3 aL3
def aI1:aM prog f148 bZ [.v (some 2)]=bE4:=by kernel_rfl
def QH:Tr:=kh 8 0 8 1
def bL3:Tr:=uW .eql 3 14 16 0 0 1 0 4 (aH 4 0 (vh 0 1 1 1 1 21 23 (Il 211 0 5 0 2 19 24 3 45 47 (kh 6 0 6 1))) (oL 215 0 1 1 27 29 45 45 3 (qA .geq 3 30 0 5 0 4 (aH 6 0 (vh 0 1 1 1 (-1) 35 37 (Il 211 0 7 0 2 33 38 3 45 47 QH)) (vh 1 1 0 1 (-1) 43 45 (Il 211 1 7 0 2 41 46 3 45 47 QH))))))
def bM7:Tr:=eH 0 0 0 3 6 (aH 2 0 (kh 1 0 1 1) (eH 1 0 0 3 10 (aH 3 0 (kh 0 0 0 1) bL3)))
def an8:aM prog f138 bZ [.v (some 2),.v (some 2)]=bM7:=by kernel_rfl
def bL4:Tr:=dV 183 [(G2 1)] [(some 2)] [6] [47] 47 true (qz 138 0 2 2 5 7 47 (kh 3 0 3 1))
def ay6:aM prog f210 bZ [.v (some 2),.v (some 2)]=bL4:=by kernel_rfl
def aS3:Tr:=bD 27 1 3 58 (qA .rem 3 60 32768 26 0 3 (dL 15 28 45 55 59 (ec 15 28 29 3 62 61 (qA .quo 3 63 32768 26 0 3 (fP 14 1 32 (yo 1 31 32 30))))))
def bh8:Tr:=bm 20 3 44 (gb 1 1 14 0 45 47 48 (bm 22 3 49 (uW .mul 3 45 50 21 0 23 0 3 (fG 19 0 24 0 3 40 51 (fG 25 0 13 0 3 52 53 (fG 8 0 14 0 3 56 57 aS3))))))
def be2:Tr:=qA .geq 3 30 0 14 0 4 (aH 16 0 (fG 8 0 14 0 3 35 36 (bD 17 1 3 37 (dL 15 18 45 34 38 (lQ 15 18 3 39 (gb 0 1 8 0 45 42 43 bh8))))) (dL 15 8 45 65 66 (ec 15 8 13 3 68 67 (fP 8 1 24 (jV 0 18 17)))))
def bF6:Tr:=fP 6 1 20 (.loop 0 [lV 7 0,.row 5] (qA .geq 3 22 0 8 0 4 (aH 10 0 (au 1 1 27 45 (fP 11 1 28 (.loop 1 [lK 0,lV 12 0,.row 9] be2))) (uW .mul 3 70 72 0 0 1 0 3 (dV 211 [(W 11 0),(.one (.c (.sr 1 9)))] [(some 2)] [73,74] [3,45] 47 true (kh 12 0 12 1))))))
def bO2:Tr:=au 0 1 11 45 (au 1 1 14 45 (fG 2 0 3 0 3 12 15 (XY (au 0 1 19 45 bF6))))
def au1:aM prog f135 bZ [.v (some 2),.v (some 2)]=bO2:=by kernel_rfl
def bP5:Tr:=qz 210 0 1 2 5 6 47 (bI 2)
def aF2:aM prog f134 bZ [.v (some 2),.v (some 2)]=bP5:=by kernel_rfl
abbrev rB(ds:List Nat):List (List aE):=ds.map fun(d:Nat)=>[aE.int .i64 (d:Int)]
abbrev sB(ds:List Nat):aE:=.slice 1 (rB ds)
abbrev bT(n:Nat):aE:=sB (bd n)
abbrev zC(z:Int):List aE:=[.int .i64 z.sign,bT z.natAbs]
abbrev zT(z:Int):aG:=.agg (zC z)
def XV:DB 32768 []:=fun d hd=>by cases hd
def pV{n:Nat}(h:n=0):aE.Sub (.exact (.slice none 0 0)) (bT n):=by
 subst h;rw[bT,Cl];exact aE.Sub.nil
def sliceB{ds:List Nat}{x:Operand}{ty:Nat}{y:Operand}{k:IntKind}{n:Int}{m:Nat}(hm:n.toNat=m)(h0:0<=n:=by omega)(hn:m<=ds.length:=by omega):af prog (.slice 45 x (some y) none none) ty [.one (sB ds),.one (.int k n)] (.one (sB (ds.drop m))):=by
 have:=Ji (P:=prog) (T:=45) (x:=x) (y:=y) (ty:=ty) (k:=k) (n:=n) (ts:=rB ds) ef h0 (by rw[aR,hm];exact hn);rw[hm,rB,<-oG]at this;exact this
def aH0{ds:List Nat}{x:Operand}{ty:Nat}{y:Operand}{k:IntKind}{n:Int}{m:Nat}(h0:0<=n:=by omega)(hm:n.toNat=m:=by omega)(hn:m<=ds.length:=by omega):af prog (.slice 45 x none (some y) none) ty [.one (sB ds),.one (.int k n)] (.one (sB (ds.take m))):=by
 have:=IE (P:=prog) (T:=45) (x:=x) (y:=y) (ty:=ty) (k:=k) (n:=n) (ts:=rB ds) ef h0 (by rw[aR,hm];exact hn);rw[hm,rB,<-lx]at this;exact this
def sF(ds:List Nat)(hd:DB 32768 ds)(hs:ds.length<4611686018427387904:=by omega):aL prog 260 [(.one (sB ds):aG)] (.ret [.one (bT (bv ds))]):=by
 refine bw func260 ZW ?_;refine ao {xs:List Nat // DB 32768 xs/\bv xs=bv ds/\xs.length<=ds.length} (fun g=>[.one (sB g.1)]) (fun g=>g.1.length) ⟨ds,hd,rfl,aY _⟩ aQ.rfl (fun _=>rfl) ?_;rintro⟨xs,hx,hv,hl⟩;dsimp only[aO,aP]at hx hv hl|-;apply vn (aU ef (aR _));apply vn dZ;refine vs _ rfl ?_ ?_<;>intro h3
 ·obtain⟨d,hget⟩:∃d,xs[0]?=some d:=⟨_,ay O⟩
  apply vn (aZ ef hget);apply vn (av Uv);apply vn bK;refine vs _ rfl ?_ ?_<;>intro h7
  ·apply vn (sliceB rfl)
   exact aW rfl ⟨⟨xs.drop 1,hx.drop 1,by
    have h7:d=0:=O
    rw[<-hv,Vp hget,h7,Nat.mul_zero,Nat.add_zero],by show(xs.drop 1).length<=_;rw[dA];omega⟩,aQ.rfl,by show(xs.drop 1).length<xs.length;rw[dA];omega⟩
  have e:bd (bv ds)=xs:=by
   rw[<-hv];refine bD1 hx fun d' h'=>?_;rw[List.head?_eq_getElem?,hget]at h';simp only[aI]at h';subst h';omega
  rw[bT,e];exact aK
 have e:bd (bv ds)=xs:=by
  have:xs=[]:=fu O;rw[<-hv,this];exact Cl
 rw[bT,e];exact aK
def gA(s z:Int)(ds:List Nat)(hd:DB 32768 ds)(h1:z.natAbs=bv ds)(h2:bv ds≠0->z.sign=s)(hs:ds.length<4611686018427387904:=by omega):aL prog 211 [(.one (.int .i64 s):aG),(.one (sB ds):aG)] (.ret [zT z]):=by
 refine bw func211 aA2 ?_;have hlen:(bd (bv ds)).length=0↔bv ds=0:=by rw[KA,Ef]
 have hl2:(bd (bv ds)).length<=ds.length:=jL (Pn hd);apply aA (sF ds hd hs);apply vn (aU ef (aR _));apply vn bK;refine vs _ rfl ?_ ?_<;>intro h3
 ·have hz:z=0:=by
   have:=hlen.1 O;omega
  subst hz;exact dJ ⟨⟨aE.Sub.same,pV rfl,trivial⟩,trivial⟩
 refine aK ?_;rw[<-h2 (fun h=>h3 (by have:=hlen.2 h;omega)),<-h1];rfl
def Mv{ds:List Nat}{m n:Nat}(hm:m≠0)(h:bv ds+32768^ds.length*m=n)(hn:n<18446744073709551616:=by omega):ds.length<=4:=by
 rcases Nat.lt_or_ge ds.length 5 with h1 | h1
 ·omega
 ·have h2:32768^5<=32768^ds.length:=Nat.pow_le_pow_right O h1;have h3:32768^ds.length<=32768^ds.length*m:=Nat.le_mul_of_pos_right _ O;omega
def yn{ds:List Nat}{m n:Nat}(h:bv ds+32768^ds.length*m=n):bv (m%32768::ds)+32768^(m%32768::ds).length*(m/32768)=n:=by
 rw[BC,List.length_cons,Nat.pow_succ,Nat.add_assoc,Nat.mul_assoc,<-Nat.mul_add,Nat.mod_add_div];exact h
def neg_tmod{m:Nat}:(-(m:Int)).tmod 32768=-((m%32768:Nat):Int):=by rw[Int.neg_tmod,uZ O];omega
def neg_tdiv{m:Nat}:(-(m:Int)).tdiv 32768=-((m/32768:Nat):Int):=by rw[Int.neg_tdiv,pI O];omega
def oM(n:Int)(h1:-9223372036854775808<=n:=by omega)(h2:n<9223372036854775808:=by omega):aL prog 139 [(.one (.int .i64 n):aG)] (.ret [zT n]):=by
 refine bw func139 aw8 ?_;apply vn ak;refine vs _ rfl (fun h1=>?_) (fun h1'=>?_)
 ·refine ao {g:Nat×List Nat // bv g.2+32768^g.2.length*g.1=n.natAbs/\DB 32768 g.2/\g.1<=9223372036854775808/\g.2.length<=5} (fun g=>[.one (.int .i64 (-(g.1.1:Int))),.rows (rB g.1.2)]) (fun g=>g.1.1) ⟨(n.natAbs,[]),by simp[bv,val],XV,by show n.natAbs<=_;omega,by simp⟩ ⟨aG.Sub.of_eq (congrArg (fun q=>aG.one (aE.int .i64 q)) (by show n=-((n.natAbs:Nat):Int);omega)),aG.Sub.same,trivial⟩ (fun _=>rfl) ?_;rintro⟨⟨m,ds⟩,hv,hd,hm,hl⟩;dsimp only[aO,aP]at hv hd hm hl|-;apply vn gN;refine vs _ rfl ?_ ?_<;>intro h4
  ·have hm0:m≠0:=O
   have hl4:=Mv hm0 hv
   have hd2:DB 32768 (m%32768::ds):=fun d hd'=>by
    rcases List.mem_cons.1 hd' with rfl | hd'
    ·omega
    ·exact hd d hd'
   apply vn (Ea (c:=-((m%32768:Nat):Int)) (by decide) neg_tmod);apply vn ak;refine vs _ rfl ?_ ?_<;>intro h7
   ·apply vn It;dsimp only[aO,aP];refine bF (us:=rB [m%32768]) (by show[[aE.int .i64 _]]=[[aE.int .i64 _]];congr 3;omega) ?_;refine pK (ts:=rB [m%32768]) (us:=rB ds) (vs:=rB (m%32768::ds)) rfl rfl rfl (by simp;omega) (by simp[maxLen];omega) ?_;apply vn (py (c:=-((m/32768:Nat):Int)) (by decide) (by rw[neg_tdiv];exact dj)) rfl;dsimp only[aO,aP];exact aW rfl ⟨⟨(m/32768,m%32768::ds),yn hv,hd2,by show m/32768<=_;omega,by show ds.length+1<=5;omega⟩,aQ.rfl,by show m/32768<m;omega⟩
   refine bF (us:=rB [m%32768]) (by show[[aE.int .i64 _]]=[[aE.int .i64 _]];congr 3;omega) ?_;refine pK (ts:=rB [m%32768]) (us:=rB ds) (vs:=rB (m%32768::ds)) rfl rfl rfl (by simp;omega) (by simp[maxLen];omega) ?_;apply vn (py (c:=-((m/32768:Nat):Int)) (by decide) (by rw[neg_tdiv];exact dj)) rfl;dsimp only[aO,aP];exact aW rfl ⟨⟨(m/32768,m%32768::ds),yn hv,hd2,by show m/32768<=_;omega,by show ds.length+1<=5;omega⟩,aQ.rfl,by show m/32768<m;omega⟩
  have hm0:m=0:=O
  subst hm0;rw[Nat.mul_zero,Nat.add_zero]at hv;apply aA (gA (-1) n ds hd hv.symm (fun _=>vB h1));exact aK
 refine ao {g:Nat×List Nat // bv g.2+32768^g.2.length*g.1=n.natAbs/\DB 32768 g.2/\g.1<=9223372036854775808/\g.2.length<=5/\g.1<9223372036854775808} (fun g=>[.one (.int .i64 (g.1.1:Int)),.rows (rB g.1.2)]) (fun g=>g.1.1) ⟨(n.natAbs,[]),by simp[bv,val],XV,by show n.natAbs<=_;omega,by simp,by show n.natAbs<_;omega⟩ ⟨aG.Sub.of_eq (congrArg (fun q=>aG.one (aE.int .i64 q)) (by show n=((n.natAbs:Nat):Int);omega)),aG.Sub.same,trivial⟩ (fun _=>rfl) ?_;rintro⟨⟨m,ds⟩,hv,hd,hm,hl,hmm⟩;dsimp only[aO,aP]at hv hd hm hl hmm|-;apply vn gN;refine vs _ rfl ?_ ?_<;>intro h21
 ·have hm0:m≠0:=O
  have hl4:=Mv hm0 hv
  have hd2:DB 32768 (m%32768::ds):=fun d hd'=>by
   rcases List.mem_cons.1 hd' with rfl | hd'
   ·omega
   ·exact hd d hd'
  apply vn dd;apply vn ak;refine vs _ rfl ?_ ?_<;>intro h24
  ·exfalso;omega
  refine bF (us:=rB [m%32768]) (by show[[aE.int .i64 _]]=[[aE.int .i64 _]];congr 3) ?_;refine pK (ts:=rB [m%32768]) (us:=rB ds) (vs:=rB (m%32768::ds)) rfl rfl rfl (by simp;omega) (by simp[maxLen];omega) ?_;apply vn iD;dsimp only[aO,aP];exact aW rfl ⟨⟨(m/32768,m%32768::ds),yn hv,hd2,by show m/32768<=_;omega,by show ds.length+1<=5;omega,by show m/32768<_;omega⟩,aQ.rfl,by show m/32768<m;omega⟩
 have hm0:m=0:=O
 subst hm0;rw[Nat.mul_zero,Nat.add_zero]at hv;apply aA (gA 1 n ds hd hv.symm (fun h=>eM O));exact aK
def MT{xs ys:List Nat}(hx:DB 32768 xs){i x y:Nat}(hl:xs.length=ys.length)(hi:xs[i]?=some x)(hj:ys[i]?=some y)(ht:xs.take i=ys.take i)(hxy:x<y:=by omega):bv xs<bv ys:=by
 have e:∀(zs:List Nat)(z:Nat),zs[i]?=some z->bv zs=bv (zs.take i)*32768^(zs.length-i)+(bv (zs.drop (i+1))+32768^(zs.length-(i+1))*z):=fun zs z hz=>by
  have hlt:i<zs.length:=(dn.1 hz).1
  conv=>lhs;rw[<-qc i zs]
  rw[Wn,dA]
  congr 1
  rw[pC hlt,(dn.1 hz).2,BC,dA]
 rw[e xs x hi,e ys y hj,ht,hl];have h1:=Pn (hx.drop (i+1));rw[dA,hl]at h1;have h2:32768^(ys.length-(i+1))*(x+1)<=32768^(ys.length-(i+1))*y:=Nat.mul_le_mul_left _ hxy;rw[Nat.mul_add,Nat.mul_one]at h2;omega
def uu{a b:Nat}(h:(bd a).length<(bd b).length:=by omega):a<b:=by
 rcases Nat.lt_or_ge a b with h1 | h1
 ·exact h1
 ·have:=fB h1;omega
def ph(a b:Nat)(hs:(bd a).length+(bd b).length<1099511627776:=by omega):aL prog 215 [(.one (bT a):aG),(.one (bT b):aG)] (.ret [.one (.int .i64 (eY a b))]):=by
 refine bw func215 ZY ?_;apply vn (aU ef (aR _));apply vn (aU ef (aR _));apply vn gN;refine vs _ rfl ?_ ?_<;>intro h3
 ·apply vn (aU ef (aR _));apply vn (aU ef (aR _));apply vn ak;refine vs _ rfl ?_ ?_<;>intro h7
  ·rw[tJ (by have:=uu (a:=a) (b:=b);omega)];exact aK
  rw[te (by have:=uu (a:=b) (b:=a);omega)];exact aK
 have hlen:(bd a).length=(bd b).length:=O
 refine ao {i:Nat // i<=(bd a).length/\(bd a).take i=(bd b).take i} (fun g=>[.one (.int .i64 0),.one (.int .i64 g.1)]) (fun g=>(bd a).length-g.1) ⟨0,bO _,rfl⟩ aQ.rfl (fun _=>rfl) ?_;rintro⟨i,hi,ht⟩;dsimp only[aO,aP]at hi ht|-;apply vn (aU ef (aR _));apply vn ak;refine vs _ rfl ?_ ?_<;>intro h13
 ·obtain⟨x,hx⟩:∃x,(bd a)[i]?=some x:=⟨_,ay O⟩
  obtain⟨y,hy⟩:∃y,(bd b)[i]?=some y:=⟨_,ay O⟩
  apply vn (aZ ef hx);apply vn (av Uv);apply vn (aZ ef hy);apply vn (av Uv);apply vn ak;refine vs _ rfl ?_ ?_<;>intro h19
  ·have:=MT (iP a) hlen hx hy ht;rw[fV,fV]at this;rw[tJ O];exact aK
  apply vn (aZ ef hx);dsimp only[aO,aP];apply vn (av Uv);apply vn (aZ ef hy);apply vn (av Uv);apply vn dZ;refine vs _ rfl ?_ ?_<;>intro h26
  ·have:=MT (iP b) hlen.symm hy hx ht.symm;rw[fV,fV]at this;rw[te O];exact aK
  apply vn aC;dsimp only[aO,aP];exact aW rfl ⟨⟨i+1,O,by rw[take_succ hx,take_succ hy,ht,show x=y by omega]⟩,aQ.rfl,by show(bd a).length-(i+1)<(bd a).length-i;omega⟩
 have hie:i=(bd a).length:=O
 subst hie
 have e:bd a=bd b:=by
  rw[List.take_length,List.take_of_length_le O]at ht;exact ht
 have:a=b:=by rw[<-fV a,e,fV]
 rw[this,BV];exact aK
def CL(n i:Nat)(hs:(bd n).length<1099511627776:=by omega)(hi:i<4611686018427387904:=by omega):aL prog 263 [(.one (bT n):aG),(.one (.int .i64 i):aG)] (.ret [.one (.int .i64 ((n/32768^i%32768:Nat):Int))]):=by
 refine bw func263 ab9 ?_;have hdg:=MG n i;apply vn (aU ef (aR _));apply vn fO;refine vs _ rfl ?_ ?_<;>intro h2
 ·rw[List.getElem?_eq_none_iff.2 (by rw[List.length_reverse];omega)]at hdg;rw[<-hdg];exact aK
 apply vn (aU ef (aR _));apply vn aJ;apply vn aJ;dsimp only[aO,aP];obtain⟨d,hd⟩:∃d,(bd n).reverse[i]?=some d:=⟨_,ay (by rw[List.length_reverse];omega)⟩
 have hd2:(bd n)[(bd n).length-1-i]?=some d:=by rw[BK];exact hd
 rw[hd]at hdg;apply vn (aZ ef hd2);apply vn (av Uv);dsimp only[aO,aP];rw[<-hdg];exact aK
def QE(a b:Nat):aL prog 262 [(.one (bT a):aG),(.one (bT b):aG)] (.ret [.one (.int .i64 ((max (bd a).length (bd b).length:Nat):Int))]):=by
 refine bw func262 Qf ?_;apply vn (aU ef (aR _));apply vn (aU ef (aR _));apply vn dZ;refine vs _ rfl ?_ ?_<;>intro h3
 ·apply vn (aU ef (aR _));dsimp only[aO,aP];refine aK ?_;show[aG.one (aE.int .i64 _)]=[aG.one (aE.int .i64 _)]
  congr 3;omega
 apply vn (aU ef (aR _));dsimp only[aO,aP];refine aK ?_;show[aG.one (aE.int .i64 _)]=[aG.one (aE.int .i64 _)]
 congr 3;omega
def val_rev(n:Nat):val 32768 (bd n).reverse=n:=fV n
def Nh(n i:Nat):(bd n).reverse[i]?.getD 0=n/32768^i%32768:=MG n i
def kP(a b r:Nat)(k:Int)(hk:k=1\/k=-1)(hs2:(bd b).length<274877906944:=by omega)(hr:(r:Int)=a+k*b:=by omega)(hs:(bd a).length<274877906944:=by omega):aL prog 214 [(.one (bT a):aG),(.one (bT b):aG),(.one (.int .i64 k):aG)] (.ret [.one (bT r)]):=by
 refine bw func214 ax5 ?_;obtain⟨n,hn⟩:∃n,max (bd a).length (bd b).length+1=n:=⟨_,rfl⟩
 have hrl:r<32768^n:=by
  have h1:=Dy a;have h2:=Dy b;have h3:32768^(bd a).length<=32768^(n-1):=Nat.pow_le_pow_right O O;have h4:32768^(bd b).length<=32768^(n-1):=Nat.pow_le_pow_right O O;have h5:32768^n=32768^(n-1)*32768:=by rw[<-Nat.pow_succ];congr 1;omega
  rcases hk with rfl | rfl<;>omega
 apply aA (QE a b);apply vn aC;dsimp only[aO,aP];refine CA (n:=n) (f:=fun d:Nat=>[aE.int .i64 (d:Int)]) 0 rfl rfl O rfl O (by simp only[maxLen];omega) ?_;refine ao {g:Nat×Int×List Nat // Gn 32768 (bd a).reverse (bd b).reverse n k g.1 g.2.1 g.2.2} (fun g=>[.one (.int .i64 g.1.2.1),.one (.int .i64 g.1.1),.rows (rB g.1.2.2.reverse)]) (fun g=>n-g.1.1) ⟨(0,0,List.replicate n 0),Gn.init O _ _ _ _⟩ ⟨aG.Sub.same,aG.Sub.same,aG.Sub.of_eq (by rw[List.reverse_replicate];rfl),trivial⟩ (fun _=>rfl) ?_;rintro⟨⟨i,c,os⟩,hI⟩;dsimp only[aO,aP]at hI|-;have hil:=hI.le;have hol:=hI.len;have hc0:=hI.c0;have hc1:=hI.c1;apply vn ak;refine vs _ rfl ?_ ?_<;>intro h5
 ·obtain⟨x,hx⟩:∃x,a/32768^i%32768=x:=⟨_,rfl⟩
  obtain⟨y,hy⟩:∃y,b/32768^i%32768=y:=⟨_,rfl⟩
  have hxB:x<32768:=by rw[<-hx];exact Nat.mod_lt _ O
  have hyB:y<32768:=by rw[<-hy];exact Nat.mod_lt _ O
  have hcall1:=CL a i;have hcall2:=CL b i;rw[hx]at hcall1;rw[hy]at hcall2
  have hnext:∀(z:Nat)(c':Int),z<32768->-1<=c'->c'<=1->(z:Int)+32768*c'=x+k*y+c->Gn 32768 (bd a).reverse (bd b).reverse n k (i+1) c' (os.set i z):=fun z c' h1 h2 h3 h4=>
   hI.next O (by rw[Nh,hx]) (by rw[Nh,hy]) h2 h3 h1 h4
  have hst:∀z,os.reverse.set (n-1-i) z=(os.set i z).reverse:=fun z=>by rw[<-hol];exact LS O
  obtain⟨o0,hgo⟩:∃o0,os.reverse[n-1-i]?=some o0:=⟨_,ay (by rw[List.length_reverse];omega)⟩
  have hky:k*y=y\/k*y=-(y:Int):=by rcases hk with rfl | rfl<;>simp
  generalize hkyv:k*(y:Int)=ky at hnext hky;apply aA hcall1;apply aA hcall2;apply vn (qu (c:=ky) (by rw[hkyv];exact dj)) rfl;apply vn aC;apply vn aC;apply vn ak;refine vs _ rfl ?_ ?_<;>intro h12
  ·apply vn aC;dsimp only[aO,aP];apply vn fO;refine vs _ rfl ?_ ?_<;>intro h15
   ·exfalso;omega
   apply vn aJ;apply vn aJ;refine cy rfl rfl O (by rw[List.length_reverse];omega) ?_;refine mY (d':=(x+ky+c+32768).toNat) rfl rfl O O hgo (by show[aE.int .i64 _]=[aE.int .i64 _];congr 2;omega) ?_;rw[hst];apply vn aC;dsimp only[aO,aP];exact aW rfl ⟨⟨(i+1,-1,os.set i (x+ky+c+32768).toNat),hnext _ (-1) O O O O⟩,aQ.rfl,by show n-(i+1)<n-i;omega⟩
  apply vn fO;refine vs _ rfl ?_ ?_<;>intro h30
  ·apply vn aJ;apply vn aJ;apply vn aJ;refine cy rfl rfl O (by rw[List.length_reverse];omega) ?_;refine mY (d':=(x+ky+c-32768).toNat) rfl rfl O O hgo (by show[aE.int .i64 _]=[aE.int .i64 _];congr 2;omega) ?_;rw[hst];apply vn aC;dsimp only[aO,aP];exact aW rfl ⟨⟨(i+1,1,os.set i (x+ky+c-32768).toNat),hnext _ 1 O O O O⟩,aQ.rfl,by show n-(i+1)<n-i;omega⟩
  apply vn aJ;apply vn aJ;refine cy rfl rfl O (by rw[List.length_reverse];omega) ?_;refine mY (d':=(x+ky+c).toNat) rfl rfl O O hgo (by show[aE.int .i64 _]=[aE.int .i64 _];congr 2;omega) ?_;rw[hst];apply vn aC;dsimp only[aO,aP];exact aW rfl ⟨⟨(i+1,0,os.set i (x+ky+c).toNat),hnext _ 0 O O O O⟩,aQ.rfl,by show n-(i+1)<n-i;omega⟩
 have hie:i=n:=O
 subst hie;have hf:=hI.fin O (by rw[List.length_reverse];omega) (by rw[List.length_reverse];omega) (r:=r) (by rw[val_rev,val_rev];exact hr) hrl;apply aA (sF os.reverse hI.dg.rev (by rw[List.length_reverse];omega)) rfl;dsimp only[aO,aP];refine aK ?_;rw[<-hf,bv,List.reverse_reverse];rfl
def BW(z:Int):-1<=z.sign/\z.sign<=1:=by rcases bu z with⟨_,e⟩ | ⟨_,e⟩ | ⟨_,e⟩<;>omega
def Cq(z:Int):aL prog 183 [(zT z:aG)] (.ret [zT (-z)]):=by
 refine bw func183 aA8 ?_;have:=BW z;apply vn It;dsimp only[aO,aP];refine aK ?_;show[aG.agg [.int .i64 (-z.sign),bT z.natAbs]]=[zT (-z)];rw[zT,zC,Int.sign_neg,Int.natAbs_neg]
def Sa(z:Int):aL prog 148 [(zT z:aG)] (.ret [zT (z.natAbs:Int)]):=by
 refine bw func148 aI1 ?_
 apply vn (qu (c:=((z.natAbs:Nat):Int).sign) (by
  rcases bu z with⟨h,e⟩ | ⟨h,e⟩ | ⟨h,e⟩<;>rw[e]
  ·rw[eM O];exact dj
  ·rw[h];exact dj
  ·rw[eM O];exact dj)) rfl
 exact aK
def bf2{a b:Nat}:(bd (a+b)).length<=max (bd a).length (bd b).length+1:=by
 apply jL;have h1:=Dy a;have h2:=Dy b;have h3:32768^(bd a).length<=32768^(max (bd a).length (bd b).length):=Nat.pow_le_pow_right O O;have h4:32768^(bd b).length<=32768^(max (bd a).length (bd b).length):=Nat.pow_le_pow_right O O;rw[Nat.pow_succ];omega
def Sd(x y:Int)(hx:(bd x.natAbs).length<137438953472)(hy:(bd y.natAbs).length<137438953472):aL prog 138 [(zT x:aG),(zT y:aG)] (.ret [zT (x+y)]):=by
 refine bw func138 an8 ?_;have hx0:=bu x;have hy0:=bu y
 have hl:∀n,n<=x.natAbs+y.natAbs->(bd n).length<274877906944:=fun n hn=>by
  have h1:=fB hn;have h2:=bf2 (a:=x.natAbs) (b:=y.natAbs);omega
 apply vn bK;refine vs _ rfl ?_ ?_<;>intro h1
 ·rw[show x=0 by omega,Int.zero_add];exact aK
 apply vn bK;refine vs _ rfl ?_ ?_<;>intro h4
 ·rw[show y=0 by omega,Int.add_zero];exact aK
 apply vn bK;refine vs _ rfl ?_ ?_<;>intro h7
 ·apply aA (kP x.natAbs y.natAbs (x.natAbs+y.natAbs) 1 (.inl rfl))
  apply aA (gA x.sign (x+y) _ (iP _) (by rw[fV];omega) (fun _=>by
   rcases hx0 with⟨h,e⟩ | ⟨h,e⟩ | ⟨h,e⟩
   ·rw[e];exact vB O
   ·omega
   ·rw[e];exact eM O) (by have:=hl _ (aY _);omega)) rfl
  exact aK
 apply aA (ph x.natAbs y.natAbs);apply vn fO;dsimp only[aO,aP]
 have hci:(0<=eY (x.natAbs:Int) (y.natAbs:Int))↔y.natAbs<=x.natAbs:=by
  have:=rY (a:=(x.natAbs:Int)) (b:=(y.natAbs:Int));omega
 refine vs _ rfl ?_ ?_<;>intro h13
 ·apply aA (kP x.natAbs y.natAbs (x.natAbs-y.natAbs) (-1) (.inr rfl))
  apply aA (gA x.sign (x+y) _ (iP _) (by rw[fV];omega) (fun hne=>by
   rw[fV]at hne;rcases hx0 with⟨h,e⟩ | ⟨h,e⟩ | ⟨h,e⟩
   ·rw[e];exact vB O
   ·omega
   ·rw[e];exact eM O) (by have:=hl (x.natAbs-y.natAbs) O;omega)) rfl
  exact aK
 apply aA (kP y.natAbs x.natAbs (y.natAbs-x.natAbs) (-1) (.inr rfl))
 apply aA (gA y.sign (x+y) _ (iP _) (by rw[fV];omega) (fun hne=>by
  rw[fV]at hne;rcases hy0 with⟨h,e⟩ | ⟨h,e⟩ | ⟨h,e⟩
  ·rw[e];exact vB O
  ·omega
  ·rw[e];exact eM O) (by have:=hl (y.natAbs-x.natAbs) O;omega)) rfl
 exact aK
def aB3(x y:Int)(hx:(bd x.natAbs).length<137438953472)(hy:(bd y.natAbs).length<137438953472):aL prog 210 [(zT x:aG),(zT y:aG)] (.ret [zT (x-y)]):=by
 refine bw func210 ay6 ?_;apply aA (Cq y);apply aA (Sd x (-y) hx (by rw[Int.natAbs_neg];exact hy)) rfl;rw[<-Int.sub_eq_add_neg];exact aK
def ak4(x y:Int):(x-y).sign=eY x y:=by
 unfold eY;rcases bu (x-y)with⟨h,e⟩ | ⟨h,e⟩ | ⟨h,e⟩<;>rw[e]
 ·rw[if_pos O]
 ·rw[if_neg O,if_neg O]
 ·rw[if_neg O,if_pos O]
def am9(x y:Int)(hx:(bd x.natAbs).length<137438953472)(hy:(bd y.natAbs).length<137438953472):aL prog 134 [(zT x:aG),(zT y:aG)] (.ret [.one (.int .i64 (eY x y))]):=by
 refine bw func134 aF2 ?_;apply aA (aB3 x y hx hy);dsimp only[aO,aP];rw[<-ak4];exact aK
def Un{n la i:Nat}(h:la=(bd n).length)(hi:i<la:=by omega):∃d,(bd n)[la-1-i]?=some d/\(bd n).reverse[i]?=some d/\d<32768:=by
 subst h;have hd:(bd n).reverse[i]?=some ((bd n).reverse[i]'(by rw[List.length_reverse];exact hi)):=ay _;exact⟨_,by rw[BK hi];exact hd,hd,(iP n).rev.get hd⟩
def jd(x y:Int)(hs:(bd x.natAbs).length+(bd y.natAbs).length<274877906944:=by omega):aL prog 135 [(zT x:aG),(zT y:aG)] (.ret [zT (x*y)]):=by
 refine bw func135 au1 ?_;obtain⟨la,hla⟩:∃n,(bd x.natAbs).length=n:=⟨_,rfl⟩
 obtain⟨lb,hlb⟩:∃n,(bd y.natAbs).length=n:=⟨_,rfl⟩
 have hra:(bd x.natAbs).reverse.length=la:=by rw[List.length_reverse,hla]
 have hrb:(bd y.natAbs).reverse.length=lb:=by rw[List.length_reverse,hlb]
 have hsx:=BW x;have hsy:=BW y;apply vn (aU ef (aR _));apply vn (aU ef (aR _));apply vn aC;dsimp only[aO,aP];rw[hla,hlb];refine CA (n:=la+lb) (f:=fun d:Nat=>[aE.int .i64 (d:Int)]) 0 rfl rfl O rfl O (by simp only[maxLen];omega) ?_;apply vn (aU ef (aR _));apply vn aJ;dsimp only[aO,aP];rw[hla];refine ao {g:Nat×List Nat // GJ 32768 (bd x.natAbs).reverse (bd y.natAbs).reverse g.1 g.2} (fun g=>[.one (.int .i64 ((la:Int)-1-g.1.1)),.rows (rB g.1.2.reverse)]) (fun g=>la-g.1.1) ⟨(0,List.replicate (la+lb) 0),by have:=GJ.init (B:=32768) O (bd x.natAbs).reverse (bd y.natAbs).reverse;rw[hra,hrb]at this;exact this⟩ ⟨aG.Sub.of_eq (congrArg (fun q=>aG.one (aE.int .i64 q)) (by show(la:Int)-1=(la:Int)-1-((0:Nat):Int);omega)),aG.Sub.of_eq (by rw[List.reverse_replicate];rfl),trivial⟩ (fun _=>rfl) ?_;rintro⟨⟨i,os⟩,hO⟩;dsimp only[aO,aP]at hO|-;have hil:=hO.le;rw[hra]at hil;apply vn fO;refine vs _ rfl ?_ ?_<;>intro h8
 ·apply vn (aU ef (aR _));obtain⟨d,hd1,hd2,hd3⟩:=Un (n:=x.natAbs) (la:=la) (i:=i) hla.symm;dsimp only[aO,aP];apply vn aJ;dsimp only[aO,aP];rw[hlb];refine ao {g:Nat×Nat×List Nat // BIn 32768 (bd x.natAbs).reverse (bd y.natAbs).reverse i d (val 32768 ((bd x.natAbs).reverse.take i)*val 32768 (bd y.natAbs).reverse) g.1 g.2.1 g.2.2} (fun g=>[.one (.int .i64 g.1.2.1),.one (.int .i64 ((lb:Int)-1-g.1.1)),.rows (rB g.1.2.2.reverse)]) (fun g=>lb-g.1.1) ⟨(0,0,os),hO.inn O⟩ ⟨aG.Sub.same,aG.Sub.of_eq (congrArg (fun q=>aG.one (aE.int .i64 q)) (by show(lb:Int)-1=(lb:Int)-1-((0:Nat):Int);omega)),aG.Sub.same,trivial⟩ (fun _=>rfl) ?_;rintro⟨⟨k,c,os2⟩,hI⟩;dsimp only[aO,aP]at hI|-;have hkl:=hI.le;have hol:=hI.len;have hc1:=hI.c1;rw[hrb]at hkl;rw[hra,hrb]at hol;apply vn fO;refine vs _ rfl ?_ ?_<;>intro h13
  ·apply vn aC;apply vn aC;dsimp only[aO,aP];obtain⟨e,he1,he2,he3⟩:=Un (n:=y.natAbs) (la:=lb) (i:=k) hlb.symm;obtain⟨o,ho2⟩:∃o,os2[i+k]?=some o:=⟨_,ay O⟩
   have ho1:os2.reverse[la+lb-1-(i+k)]?=some o:=by
    have:=BK (ds:=os2.reverse) (i:=i+k) (by rw[List.length_reverse];omega);rw[List.reverse_reverse,List.length_reverse,hol]at this;rw[this];exact ho2
   have hoB:=hI.dg.get ho2;have hde:d*e<=32767*32767:=cV O O;have hst:∀z,os2.reverse.set (la+lb-1-(i+k)) z=(os2.set (i+k) z).reverse:=fun z=>by rw[<-hol];exact LS O
   obtain⟨w,hw⟩:∃w,c+(d*e+o)=w:=⟨_,rfl⟩
   have hN:=hI.next (z:=w%32768) (c':=w/32768) (by rw[hrb];omega) he2 ho2 O O O;refine cy rfl rfl O (by rw[List.length_reverse];omega) ?_;refine pr rfl rfl O O ho1 rfl ?_;apply vn (aZ ef hd1);apply vn (av Uv);apply vn (aZ ef he1);apply vn (av Uv);apply vn (qu (c:=((d*e:Nat):Int)) (by rw[<-Int.natCast_mul];exact dj)) rfl;apply vn aC;dsimp only[aO,aP];apply vn (dp (c:=(w:Int)) (by rw[show(o:Int)+((d*e:Nat):Int)+(c:Int)=(w:Int) by omega];exact dj)) rfl;apply vn aC;apply vn aC;apply vn dd;refine cy rfl rfl O (by rw[List.length_reverse];omega) ?_;refine mY (d':=w%32768) rfl rfl O O ho1 rfl ?_;rw[hst];apply vn iD;apply vn aJ;dsimp only[aO,aP];exact aW rfl ⟨⟨(k+1,w/32768,os2.set (i+k) (w%32768)),hN⟩,⟨aG.Sub.same,aG.Sub.of_eq (congrArg (fun q=>aG.one (aE.int .i64 q)) (by show(lb:Int)-1-(k:Int)-1=(lb:Int)-1-((k+1:Nat):Int);omega)),aG.Sub.same,trivial⟩,by show lb-(k+1)<lb-k;omega⟩
  have hke:k=lb:=O
  subst hke;obtain⟨o,ho2⟩:∃o,os2[i+k]?=some o:=⟨_,ay O⟩
  have ho1:os2.reverse[la+k-1-(i+k)]?=some o:=by
   have:=BK (ds:=os2.reverse) (i:=i+k) (by rw[List.length_reverse];omega);rw[List.reverse_reverse,List.length_reverse,hol]at this;rw[this];exact ho2
  have hst:∀z,os2.reverse.set (la+k-1-(i+k)) z=(os2.set (i+k) z).reverse:=fun z=>by rw[<-hol];exact LS O
  have hN:GJ 32768 (bd x.natAbs).reverse (bd y.natAbs).reverse (i+1) (os2.set (i+k) c):=by
   have:=hI;rw[<-hrb]at this|-;exact this.out hd2
  refine cy rfl rfl O (by rw[List.length_reverse];omega) ?_;refine mY (d':=c) rfl rfl O O ho1 rfl ?_;rw[hst];apply vn aJ;dsimp only[aO,aP];exact aW rfl ⟨⟨(i+1,os2.set (i+k) c),hN⟩,⟨aG.Sub.of_eq (congrArg (fun q=>aG.one (aE.int .i64 q)) (by show(la:Int)-1-(i:Int)-1=(la:Int)-1-((i+1:Nat):Int);omega)),aG.Sub.same,trivial⟩,by show la-(i+1)<la-i;omega⟩
 have hie:i=la:=O
 subst hie
 have hf:val 32768 os=x.natAbs*y.natAbs:=by
  have:=hO;rw[<-hra]at this;have:=this.fin;rw[val_rev,val_rev]at this;exact this
 have hol:=hO.len;rw[hra,hrb]at hol;have hmul:x.sign*y.sign=(x*y).sign:=(Int.sign_mul x y).symm;have hsb:=BW (x*y);apply vn (qu (c:=(x*y).sign) (by rw[hmul];exact dj)) rfl;apply aA (gA (x*y).sign (x*y) os.reverse hO.dg.rev (by rw[bv,List.reverse_reverse,hf,Int.natAbs_mul]) (fun _=>rfl) (by rw[List.length_reverse];omega)) rfl;exact aK
def aO4:Tr:=jj 0 10 11
def by2:Tr:=aH 5 0 (qA .mul 3 14 32768 3 0 3 (fP 1 1 17 (da 7 0 4 0 3 18 19 (oL 263 0 0 8 16 20 45 3 3 (fG 6 0 9 0 3 15 21 (bD 4 1 3 12 aO4)))))) (bI 3)
def bL6:Tr:=ym (cU 4 2 0 3 9 10 4 by2)
def ak1:aM prog f284 bZ [.v none,.v none,.v none]=bL6:=by kernel_rfl
def bk9:Tr:=.loop 0 [lV 14 0,lV 10 0] (oL 215 15 0 1 46 47 45 45 3 (qA .geq 3 48 0 17 0 4 (aH 18 0 (vh 15 0 1 0 (-1) 50 51 (bD 16 1 3 53 (jj 0 19 20))) (xr 16 15))))
def aV5:Tr:=.loop 0 [lV 0 0,lV 10 0] (oL 215 12 0 1 46 47 45 45 3 (qA .geq 3 48 0 14 0 4 (aH 15 0 (vh 12 0 1 0 (-1) 50 51 (bD 13 1 3 53 (jj 0 16 17))) (xr 13 12))))
def ah0:Tr:=fL 10 0 0 3 36 (aH 11 0 (uM 139 10 2 39 2 47 (XA 12 (vh 0 0 13 1 (-1) 38 44 bk9))) aV5)
def bI3:Tr:=jb 2 0 3 3 14 (aH 5 0 (bD 2 1 3 17 (bD 2 1 3 19 (dV 284 [(W 0 0),(W 6 0),(W 7 0)] [none] [16,18,20] [45,3,3] 3 false (dV 284 [(W 1 0),(W 2 0),(W 2 0)] [none] [22,23,24] [45,3,3] 3 true (uW .quo 3 21 25 8 0 9 0 3 ah0))))) (bD 2 1 3 28 (ad2 0 6 4 27 29 (ad2 1 2 3 31 32 (bD 8 1 3 33 (uW .quo 3 30 34 7 0 9 0 3 ah0))))))
def be5:Tr:=.loop 0 [lV 8 0,lK 0] (oL 215 9 0 1 46 47 45 45 3 (qA .geq 3 48 0 11 0 4 (aH 12 0 (vh 9 0 1 0 (-1) 50 51 (bD 10 1 3 53 (jj 0 13 14))) (xr 10 9))))
def aX7:Tr:=aH 5 0 (dV 139 [(WK 0)] [(some 2)] [39] [2] 47 false (XA 6 (vh 0 0 7 1 (-1) 38 44 be5))) (.loop 0 [lV 0 0,lK 0] (oL 215 6 0 1 46 47 45 45 3 (qA .geq 3 48 0 8 0 4 (aH 9 0 (vh 6 0 1 0 (-1) 50 51 (bD 7 1 3 53 aO4)) (xr 7 6)))))
def bM3:Tr:=au 1 0 8 45 (au 0 0 10 45 (uW .geq 3 11 12 3 0 2 0 4 (aH 4 0 bI3 (.need (.prim [(WK 0),(WK 0)] none) (.binOp .gtr 3 (tT 36) (.const (I3 0)) 3) 4 false aX7))))
def Yg:aM prog f261 bZ [.v none,.v none]=bM3:=by kernel_rfl
def be8:Tr:=gU 1 8 17 20 33 38 45 (kB 260 1 21 39 45 45 (sd 261 22 0 1 42 43 311 (pa 23 45 48 (gU 1 8 14 25 47 49 45 (bD 13 1 3 30 (yo 0 24 27 26))))))
def aV3:Tr:=au 0 0 27 45 (cU 13 15 0 3 26 28 4 (aH 16 0 (RX 1 8 12 32 45 (gb 0 0 13 0 45 34 35 (bm 18 3 36 (pa 19 45 37 be8)))) (ed 260 14 51 45 45 (xr 17 12))))
def bF2:Tr:=fP 5 1 18 (CT 6 45 16 19 (RX 1 8 7 20 45 (kB 260 1 8 21 45 45 (au 1 0 23 45 (fP 10 1 24 (.loop 0 [lV 9 0,lV 11 0,.nilrow] aV3))))))
def bC6:Tr:=au 0 0 10 45 (au 1 0 12 45 (cU 2 3 0 3 11 13 4 (aH 4 0 (.ret [(.one (.c (.k (.slice none 0 0)))),(W 0 0)]) (au 1 0 17 45 bF2))))
def aG3:aM prog f213 bZ [.v none,.v none]=bC6:=by kernel_rfl
def bx4:Tr:=aH 4 0 (qA .mul 3 11 32768 1 0 3 (gb 0 0 2 0 45 13 14 (bm 6 3 15 (fG 5 0 7 0 3 12 16 (bD 2 1 3 9 (jj 0 8 9)))))) Rd
def bD8:Tr:=ym (au 0 0 6 45 (cU 2 3 0 3 5 7 4 bx4))
def WE:aM prog f257 bZ [.v none]=bD8:=by kernel_rfl
def bi8:Tr:=xX 257 2 26 45 3 (qt 257 3 28 45 3 (.loop 1 [lV 12 0,lV 13 0] (lP 15 3 30 (aH 16 0 (uW .rem 3 33 34 14 0 15 0 3 (jj 1 15 17)) (lZ 139 14 2 36 2 47 (kh 17 0 17 1))))))
def bJ8:Tr:=jb 8 0 4 3 19 (aH 9 0 (au 3 0 22 45 (jb 10 0 4 3 23 (aH 11 0 bi8 (sd 213 2 0 3 39 40 269 (uL 0 3 13 4 0 5 0))))) (sd 213 2 0 3 39 40 269 (uL 0 3 11 4 0 5 0)))
def bv1:Tr:=.loop 0 [lV 0 1,lV 1 1,lK 0,lN] (au 3 0 15 45 (fL 6 0 0 3 16 (aH 7 0 (au 2 0 18 45 bJ8) (MM 2 46 QH))))
def au9:aM prog f212 bZ [.v (some 2),.v (some 2)]=bv1:=by kernel_rfl
def Py{m long i:Nat}(h:i<long:=by omega):m/32768^(long-i)*32768+m/32768^(long-1-i)%32768=m/32768^(long-(i+1)):=by
 have e:m/32768^(long-i)=m/32768^(long-(i+1))/32768:=by
  rw[Nat.div_div_eq_div_mul,<-Nat.pow_succ];congr 2;omega
 rw[e,show long-1-i=long-(i+1) by omega];have:=BP (m/32768^(long-(i+1))) 32768;omega
def wB{m long i:Nat}(h:i<=long)(hm:m<32768^long):m/32768^(long-i)<32768^i:=by
 rw[Nat.div_lt_iff_lt_mul (Nat.pow_pos O),<-Nat.pow_add,show i+(long-i)=long by omega];exact hm
def RE{i:Nat}(h:i<=4:=by omega):32768^i<=1152921504606846976:=by
 have:=Nat.pow_le_pow_right (n:=32768) O h;rw[show(32768:Nat)^4=1152921504606846976 by decide]at this;exact this
def wi(m long k:Nat)(hm:m<32768^long)(hk:k<=long:=by omega)(hk4:k<=4:=by omega)(hl:long<1099511627776:=by omega)(hs:(bd m).length<1099511627776:=by omega):aL prog 284 [(.one (bT m):aG),(.one (.int .i64 long):aG),(.one (.int .i64 k):aG)] (.ret [.one (.int .i64 ((m/32768^(long-k):Nat):Int))]):=by
 refine bw func284 ak1 ?_;refine ao {i:Nat // i<=k} (fun g=>[.one (.int .i64 ((m/32768^(long-g.1):Nat):Int)),.one (.int .i64 g.1)]) (fun g=>k-g.1) ⟨0,bO _⟩ ⟨aG.Sub.of_eq (congrArg (fun q:Nat=>aG.one (aE.int .i64 (q:Int))) (by show 0=m/32768^long;rw[Nat.div_eq_of_lt hm])),aG.Sub.same,trivial⟩ (fun _=>rfl) ?_;rintro⟨i,hi⟩;dsimp only[aO,aP]at hi|-;apply vn ak;refine vs _ rfl ?_ ?_<;>intro h2
 ·have hx:=wB (m:=m) (i:=i) (long:=long) O hm;have hp:=RE (i:=i);have hstep:=Py (m:=m) (long:=long) (i:=i);have hlt:=wB (m:=m) (i:=i+1) (long:=long) O hm;have hp2:=RE (i:=i+1);generalize m/32768^(long-i)=x at *;generalize hy:m/32768^(long-(i+1))=y at *;apply vn mK;apply vn aJ;dsimp only[aO,aP];apply vn (mv (c:=((long-1-i:Nat):Int)) (by rw[show((long:Int)-1-(i:Int))=((long-1-i:Nat):Int) by omega];exact dj)) rfl;apply aA (CL m (long-1-i) hs);generalize m/32768^(long-1-i)%32768=d at *;dsimp only[aO,aP];apply vn (dp (c:=(y:Int)) (by rw[show(x:Int)*32768+(d:Int)=(y:Int) by omega];exact dj)) rfl;apply vn aC;dsimp only[aO,aP];exact aW rfl ⟨⟨i+1,O⟩,⟨aG.Sub.of_eq (congrArg (fun q:Nat=>aG.one (aE.int .i64 (q:Int))) hy.symm),aG.Sub.same,trivial⟩,by show k-(i+1)<k-i;omega⟩
 rw[show k=i by omega];exact aK
def QY{d:Nat}(h:0<d):zT (d:Int)=.agg [.int .i64 1,bT d]:=by
 rw[zT,zC,eM O];rfl
def ad0{r d m:Nat}:r/32768^m/(d/32768^m+1)*d<=r:=by
 have hp:0<32768^m:=Nat.pow_pos O
 have h1:d<=(d/32768^m+1)*32768^m:=by
  rw[Nat.mul_comm];exact kR (Nat.lt_mul_div_succ d hp)
 calc r/32768^m/(d/32768^m+1)*d<=r/32768^m/(d/32768^m+1)*((d/32768^m+1)*32768^m):=Nat.mul_le_mul_left _ h1
  _=r/32768^m/(d/32768^m+1)*(d/32768^m+1)*32768^m:=(Nat.mul_assoc _ _ _).symm
  _<=r/32768^m*32768^m:=Nat.mul_le_mul_right _ (Nat.div_mul_le_self _ _)
  _<=r:=Nat.div_mul_le_self _ _
def ai5(r d:Nat)(hd:0<d)(hr:r<d*32768)(hs:(bd d).length<34359738368:=by omega):aL prog 261 [(.one (bT r):aG),(.one (bT d):aG)] (.ret [.one (.int .i64 ((r/d:Nat):Int)),.one (bT (r%d))]):=by
 refine bw func261 Yg ?_;have hdl:=Dy d
 have hrl:r<32768^((bd d).length+1):=by
  rw[Nat.pow_succ];exact Nat.lt_trans hr (yK hdl O)
 have hrs:=jL hrl;have hle:∀q,q<=r->(bd q).length<=(bd d).length+1:=fun q hq=>Nat.le_trans (fB hq) hrs
 have hdn:0<(bd d).length:=by
  rcases Nat.eq_zero_or_pos (bd d).length with h | h
  ·have:=Ef.1 (fu h);omega
  ·exact h
 have hqB:r/d<32768:=by rw[Nat.div_lt_iff_lt_mul hd,Nat.mul_comm];exact hr
 have hkd:∀k,k*d<=r->k<32768:=fun k hk=>by
  have:k<=r/d:=by rw[Nat.le_div_iff_mul_le hd];exact hk
  omega
 have hfin:∀r' k,r'+k*d=r->r'<d->k=r/d/\r'=r%d:=fun r' k h1 h2=>ya (by rw[<-h1,Nat.mul_comm]) h2
 have hah:∀r':Nat,(0<=eY (r':Int) (d:Int))↔d<=r':=fun r'=>by
  have:=rY (a:=(r':Int)) (b:=(d:Int));omega
 apply vn (aU ef (aR _));apply vn (aU ef (aR _));apply vn fO;refine vs _ rfl ?_ ?_<;>intro h3
 ·apply vn iO;refine vs _ rfl ?_ ?_<;>intro h5
  ·apply vn aC;apply vn aC;apply aA (wi r ((bd d).length+1) ((bd d).length+1) hrl (aY _));rw[iY,Nat.pow_zero,oc];apply aA (wi d (bd d).length (bd d).length hdl (aY _));rw[iY,Nat.pow_zero,oc];dsimp only[aO,aP];obtain⟨k,hk⟩:∃k,r/d=k:=⟨_,rfl⟩
   have hk1:k*d<=r:=by rw[<-hk];exact Nat.div_mul_le_self _ _
   have hk2:=hkd k hk1;apply vn (py (c:=(k:Int)) O (by rw[pI (oh _),<-wY,hk];exact dj)) rfl;apply vn dZ;refine vs _ rfl ?_ ?_<;>intro h12
   ·have hm:=jd (k:Int) (d:Int) (by
     rw[Int.natAbs_natCast,Int.natAbs_natCast];have:(bd k).length<=1:=jL O;omega)
    rw[QY hd,show(k:Int)*(d:Int)=((k*d:Nat):Int) by rw[Int.natCast_mul]]at hm;apply aA (oM k);apply aA hm;apply aA (kP r (k*d) (r-k*d) (-1) (.inr rfl) (by have:=hle _ hk1;omega)) rfl;dsimp only[aO,aP];refine ao {g:Nat×Nat // g.1+g.2*d=r} (fun g=>[.one (bT g.1.1),.one (.int .i64 g.1.2)]) (fun g=>g.1.1) ⟨(r-k*d,k),by show r-k*d+k*d=r;omega⟩ aQ.rfl (fun _=>rfl) ?_;rintro⟨⟨r',k'⟩,hg⟩;dsimp only[aO,aP]at hg|-;have hk3:=hkd k' O;have hr3:=hle r' O;apply aA (ph r' d);apply vn fO;refine vs _ rfl ?_ ?_<;>intro h19
    ·have hdr:d<=r':=(hah r').1 (by assumption);apply aA (kP r' d (r'-d) (-1) (.inr rfl));apply vn aC;dsimp only[aO,aP];exact aW rfl ⟨⟨(r'-d,k'+1),by show r'-d+(k'+1)*d=r;rw[Nat.add_mul];omega⟩,aQ.rfl,by show r'-d<r';omega⟩
    have hdr:r'<d:=by
     rcases Nat.lt_or_ge r' d with h | h
     ·exact h
     ·exact absurd ((hah r').2 h) (by assumption)
    obtain⟨e1,e2⟩:=hfin r' k' hg hdr;rw[<-e1,<-e2];exact aK
   refine ao {g:Nat×Nat // g.1+g.2*d=r} (fun g=>[.one (bT g.1.1),.one (.int .i64 g.1.2)]) (fun g=>g.1.1) ⟨(r,0),O⟩ ⟨aG.Sub.same,aG.Sub.of_eq (congrArg (fun q:Nat=>aG.one (aE.int .i64 (q:Int))) (by show k=0;omega)),trivial⟩ (fun _=>rfl) ?_;rintro⟨⟨r',k'⟩,hg⟩;dsimp only[aO,aP]at hg|-;have hk3:=hkd k' O;have hr3:=hle r' O;apply aA (ph r' d);apply vn fO;refine vs _ rfl ?_ ?_<;>intro h27
   ·have hdr:d<=r':=(hah r').1 (by assumption);apply aA (kP r' d (r'-d) (-1) (.inr rfl));apply vn aC;dsimp only[aO,aP];exact aW rfl ⟨⟨(r'-d,k'+1),by show r'-d+(k'+1)*d=r;rw[Nat.add_mul];omega⟩,aQ.rfl,by show r'-d<r';omega⟩
   have hdr:r'<d:=by
    rcases Nat.lt_or_ge r' d with h | h
    ·exact h
    ·exact absurd ((hah r').2 h) (by assumption)
   obtain⟨e1,e2⟩:=hfin r' k' hg hdr;rw[<-e1,<-e2];exact aK
  apply vn aC;apply aA (wi r ((bd d).length+1) 4 hrl);apply aA (wi d (bd d).length 3 hdl);rw[show(bd d).length+1-4=(bd d).length-3 by omega];have hd3:=wB (m:=d) (long:=(bd d).length) (i:=3) O hdl;have hr4:=wB (m:=r) (long:=(bd d).length+1) (i:=4) O hrl;rw[show(bd d).length+1-4=(bd d).length-3 by omega]at hr4;have hp3:=RE (i:=3);have hp4:=RE (i:=4);have hk1:=ad0 (r:=r) (d:=d) (m:=(bd d).length-3);generalize r/32768^((bd d).length-3)=rt at *;generalize d/32768^((bd d).length-3)=dt at *;obtain⟨k,hk⟩:∃k,rt/(dt+1)=k:=⟨_,rfl⟩
  rw[hk]at hk1;have hk2:=hkd k hk1;apply vn aC;dsimp only[aO,aP];apply vn (py (c:=(k:Int)) O (by rw[pI (oh _),show((dt:Int)+1)=((dt+1:Nat):Int) by omega,<-wY,hk];exact dj)) rfl;apply vn dZ;refine vs _ rfl ?_ ?_<;>intro h38
  ·have hm:=jd (k:Int) (d:Int) (by
    rw[Int.natAbs_natCast,Int.natAbs_natCast];have:(bd k).length<=1:=jL O;omega)
   rw[QY hd,show(k:Int)*(d:Int)=((k*d:Nat):Int) by rw[Int.natCast_mul]]at hm;apply aA (oM k);apply aA hm;apply aA (kP r (k*d) (r-k*d) (-1) (.inr rfl) (by have:=hle _ hk1;omega)) rfl;dsimp only[aO,aP];refine ao {g:Nat×Nat // g.1+g.2*d=r} (fun g=>[.one (bT g.1.1),.one (.int .i64 g.1.2)]) (fun g=>g.1.1) ⟨(r-k*d,k),by show r-k*d+k*d=r;omega⟩ aQ.rfl (fun _=>rfl) ?_;rintro⟨⟨r',k'⟩,hg⟩;dsimp only[aO,aP]at hg|-;have hk3:=hkd k' O;have hr3:=hle r' O;apply aA (ph r' d);apply vn fO;refine vs _ rfl ?_ ?_<;>intro h45
   ·have hdr:d<=r':=(hah r').1 (by assumption);apply aA (kP r' d (r'-d) (-1) (.inr rfl));apply vn aC;dsimp only[aO,aP];exact aW rfl ⟨⟨(r'-d,k'+1),by show r'-d+(k'+1)*d=r;rw[Nat.add_mul];omega⟩,aQ.rfl,by show r'-d<r';omega⟩
   have hdr:r'<d:=by
    rcases Nat.lt_or_ge r' d with h | h
    ·exact h
    ·exact absurd ((hah r').2 h) (by assumption)
   obtain⟨e1,e2⟩:=hfin r' k' hg hdr;rw[<-e1,<-e2];exact aK
  refine ao {g:Nat×Nat // g.1+g.2*d=r} (fun g=>[.one (bT g.1.1),.one (.int .i64 g.1.2)]) (fun g=>g.1.1) ⟨(r,0),O⟩ ⟨aG.Sub.same,aG.Sub.of_eq (congrArg (fun q:Nat=>aG.one (aE.int .i64 (q:Int))) (by show k=0;omega)),trivial⟩ (fun _=>rfl) ?_;rintro⟨⟨r',k'⟩,hg⟩;dsimp only[aO,aP]at hg|-;have hk3:=hkd k' O;have hr3:=hle r' O;apply aA (ph r' d);apply vn fO;refine vs _ rfl ?_ ?_<;>intro h53
  ·have hdr:d<=r':=(hah r').1 (by assumption);apply aA (kP r' d (r'-d) (-1) (.inr rfl));apply vn aC;dsimp only[aO,aP];exact aW rfl ⟨⟨(r'-d,k'+1),by show r'-d+(k'+1)*d=r;rw[Nat.add_mul];omega⟩,aQ.rfl,by show r'-d<r';omega⟩
  have hdr:r'<d:=by
   rcases Nat.lt_or_ge r' d with h | h
   ·exact h
   ·exact absurd ((hah r').2 h) (by assumption)
  obtain⟨e1,e2⟩:=hfin r' k' hg hdr;rw[<-e1,<-e2];exact aK
 apply vn dZ;refine vs _ rfl ?_ ?_<;>intro h59
 ·exfalso;omega
 refine ao {g:Nat×Nat // g.1+g.2*d=r} (fun g=>[.one (bT g.1.1),.one (.int .i64 g.1.2)]) (fun g=>g.1.1) ⟨(r,0),O⟩ aQ.rfl (fun _=>rfl) ?_;rintro⟨⟨r',k'⟩,hg⟩;dsimp only[aO,aP]at hg|-;have hk3:=hkd k' O;have hr3:=hle r' O;apply aA (ph r' d);apply vn fO;refine vs _ rfl ?_ ?_<;>intro h74
 ·have hdr:d<=r':=(hah r').1 (by assumption);apply aA (kP r' d (r'-d) (-1) (.inr rfl));apply vn aC;dsimp only[aO,aP];exact aW rfl ⟨⟨(r'-d,k'+1),by show r'-d+(k'+1)*d=r;rw[Nat.add_mul];omega⟩,aQ.rfl,by show r'-d<r';omega⟩
 have hdr:r'<d:=by
  rcases Nat.lt_or_ge r' d with h | h
  ·exact h
  ·exact absurd ((hah r').2 h) (by assumption)
 obtain⟨e1,e2⟩:=hfin r' k' hg hdr;rw[<-e1,<-e2];exact aK
def jn(a d:Nat)(hd:0<d:=by omega)(hs:(bd a).length+(bd d).length<34359738368:=by omega):aL prog 213 [(.one (bT a):aG),(.one (bT d):aG)] (.ret [.one (bT (a/d)),.one (bT (a%d))]):=by
 refine bw func213 aG3 ?_
 have hdn:0<(bd d).length:=by
  rcases Nat.eq_zero_or_pos (bd d).length with h | h
  ·have:=Ef.1 (fu h);omega
  ·exact h
 apply vn (aU ef (aR _));apply vn (aU ef (aR _));apply vn ak;refine vs _ rfl ?_ ?_<;>intro h3
 ·have had:=uu (a:=a) (b:=d);refine dJ ⟨pV (Nat.div_eq_of_lt had),?_,trivial⟩;rw[Nat.mod_eq_of_lt had];exact aE.Sub.same
 apply vn (aU ef (aR _));apply vn aJ;apply vn (aH0 (m:=(bd d).length-1));refine pK (ts:=[]) (us:=rB ((bd a).take ((bd d).length-1))) (vs:=rB ((bd a).take ((bd d).length-1))) rfl (.inr aE.Sub.same) rfl (by simp;omega) (by simp[maxLen];omega) ?_;apply aA (sF ((bd a).take ((bd d).length-1)) ((iP a).take _) (by rw[List.length_take];omega)) rfl;dsimp only[aO,aP];apply vn (aU ef (aR _));apply vn aJ;dsimp only[aO,aP]
 refine ao {g:Nat×Nat×List Nat // (bd d).length-1<=g.1/\g.1<=(bd a).length/\bv ((bd a).take g.1)=g.2.1+d*bv g.2.2/\g.2.1<d/\DB 32768 g.2.2/\g.2.2.length<=g.1} (fun g=>[.one (bT g.1.2.1),.one (.int .i64 g.1.1),.rows (rB g.1.2.2)]) (fun g=>(bd a).length-g.1.1) ⟨((bd d).length-1,bv ((bd a).take ((bd d).length-1)),[]),aY _,by show(bd d).length-1<=_;omega,by simp[bv,val],by
  have h1:=Pn ((iP a).take ((bd d).length-1));rw[List.length_take,Nat.min_eq_left O]at h1;exact Nat.lt_of_lt_of_le h1 (bJ5 O),XV,bO _⟩ ⟨aG.Sub.same,aG.Sub.of_eq (congrArg (fun q=>aG.one (aE.int .i64 q)) (by show((bd d).length:Int)-1=(((bd d).length-1:Nat):Int);omega)),aG.Sub.same,trivial⟩ (fun _=>rfl) ?_
 rintro⟨⟨i,R,qs⟩,hi1,hi2,hv,hR,hq,hql⟩;dsimp only[aO,aP]at hi1 hi2 hv hR hq hql|-;have hRl:=fB (kR hR);apply vn (aU ef (aR _));apply vn ak;refine vs _ rfl ?_ ?_<;>intro h15
 ·obtain⟨x,hx⟩:∃x,(bd a)[i]?=some x:=⟨_,ay O⟩
  have hxB:=(iP a).get hx;refine pK (ts:=[]) (us:=rB (bd R)) (vs:=rB (bd R)) rfl (.inr aE.Sub.same) rfl (by simp;omega) (by simp[maxLen];omega) ?_;apply vn (aZ ef hx);apply vn (av Uv);apply bF (us:=rB [x]);refine pK (ts:=rB (bd R)) (us:=rB [x]) (vs:=rB (bd R++[x])) rfl rfl (by rw[rB,rB,rB,<-eG]) (by simp;omega) (by simp[maxLen];omega) ?_;dsimp only[aO,aP];have hdb:DB 32768 (bd R++[x]):=(iP R).append (fun y hy=>by simp at hy;omega);apply aA (sF (bd R++[x]) hdb (by simp;omega)) rfl;rw[Ch,fV]
  apply aA (ai5 (R*32768+x) d hd (by
   have:(R+1)*32768<=d*32768:=Nat.mul_le_mul_right _ hR;omega)) rfl
  have hmd:=Nat.mod_add_div (R*32768+x) d
  have hqB:(R*32768+x)/d<32768:=by
   rw[Nat.div_lt_iff_lt_mul hd,Nat.mul_comm];have:(R+1)*32768<=d*32768:=Nat.mul_le_mul_right _ hR;omega
  have hRm:=Nat.mod_lt (R*32768+x) hd;generalize (R*32768+x)/d=k at *;generalize (R*32768+x)%d=R' at *;apply bF (us:=rB [k]);refine pK (ts:=rB qs) (us:=rB [k]) (vs:=rB (qs++[k])) rfl rfl (by rw[rB,rB,rB,<-eG]) (by simp;omega) (by simp[maxLen];omega) ?_;apply vn aC;dsimp only[aO,aP]
  exact aW rfl ⟨⟨(i+1,R',qs++[k]),by show _<=i+1;omega,by show i+1<=_;omega,by
   show bv ((bd a).take (i+1))=R'+d*bv (qs++[k]);rw[take_succ hx,Ch,Ch,hv,Nat.mul_add,Nat.add_mul,<-Nat.mul_assoc];omega,hRm,hq.append (fun y hy=>by simp at hy;omega),by show(qs++[k]).length<=i+1;simp;omega⟩,aQ.rfl,by show(bd a).length-(i+1)<(bd a).length-i;omega⟩
 have hie:i=(bd a).length:=O
 subst hie;rw[List.take_length,fV]at hv;obtain⟨e1,e2⟩:=ya hv hR;apply aA (sF qs hq);dsimp only[aO,aP];rw[<-e1,<-e2];exact aK
def Dp(m:Nat)(hm:(bd m).length<=4:=by omega):aL prog 257 [(.one (bT m):aG)] (.ret [.one (.int .i64 m)]):=by
 refine bw func257 WE ?_;refine ao {i:Nat // i<=(bd m).length} (fun g=>[.one (.int .i64 (bv ((bd m).take g.1):Nat)),.one (.int .i64 g.1)]) (fun g=>(bd m).length-g.1) ⟨0,bO _⟩ aQ.rfl (fun _=>rfl) ?_;rintro⟨i,hi⟩;dsimp only[aO,aP]at hi|-;apply vn (aU ef (aR _));apply vn ak;refine vs _ rfl ?_ ?_<;>intro h3
 ·obtain⟨x,hx⟩:∃x,(bd m)[i]?=some x:=⟨_,ay O⟩
  have hxB:=(iP m).get hx;have hb:=Pn ((iP m).take i);rw[List.length_take,Nat.min_eq_left hi]at hb;have hp:=RE (i:=i);have hb2:=Pn ((iP m).take (i+1));rw[List.length_take,Nat.min_eq_left O]at hb2;have hp2:=RE (i:=i+1);have hsn:bv ((bd m).take (i+1))=bv ((bd m).take i)*32768+x:=by rw[take_succ hx,Ch]
  generalize bv ((bd m).take i)=y at *;apply vn mK;apply vn (aZ ef hx);apply vn (av Uv);apply vn aC;apply vn aC;dsimp only[aO,aP];exact aW rfl ⟨⟨i+1,O⟩,⟨aG.Sub.of_eq (congrArg (fun q:Int=>aG.one (aE.int .i64 q)) (by show(y:Int)*32768+x=((bv ((bd m).take (i+1)):Nat):Int);omega)),aG.Sub.same,trivial⟩,by show(bd m).length-(i+1)<(bd m).length-i;omega⟩
 rw[show i=(bd m).length by omega,List.take_length,fV];exact aK
def Sg(x y:Int)(hs:(bd x.natAbs).length<17179869184:=by omega)(hs2:(bd y.natAbs).length<17179869184:=by omega):aL prog 212 [(zT x:aG),(zT y:aG)] (.ret [zT ((Nat.gcd x.natAbs y.natAbs:Nat):Int)]):=by
 refine bw func212 au9 ?_;refine ao {p:Nat×Nat // Nat.gcd p.1 p.2=Nat.gcd x.natAbs y.natAbs/\(bd p.1).length<17179869184/\(bd p.2).length<17179869184} (fun p=>[.one (bT p.1.1),.one (bT p.1.2),.one (.int .i64 0),.one (.exact (.slice none 0 0))]) (fun p=>p.1.2) ⟨(x.natAbs,y.natAbs),rfl,hs,hs2⟩ aQ.rfl (fun _=>rfl) ?_;rintro⟨⟨a,b⟩,hg,ha,hb⟩;dsimp only[aO,aP]at hg ha hb|-;have hbz:(bd b).length=0↔b=0:=by rw[KA,Ef]
 have hml:=fB (tc a b);apply vn (aU ef (aR _));apply vn dZ;refine vs _ rfl ?_ ?_<;>intro h3
 ·have hb0:0<b:=by
   rcases Nat.eq_zero_or_pos b with h | h
   ·have:=hbz.2 h;omega
   ·exact h
  apply vn (aU ef (aR _));apply vn iO;refine vs _ rfl ?_ ?_<;>intro h6
  ·apply vn (aU ef (aR _));apply vn iO;refine vs _ rfl ?_ ?_<;>intro h9
   ·have h4:∀n,(bd n).length<=4->n<1152921504606846976:=fun n hn=>Nat.lt_of_lt_of_le (Dy n) (RE hn);have ha4:=h4 a O;have hb4:=h4 b O;apply aA (Dp a);apply aA (Dp b);dsimp only[aO,aP];refine ao {p:Nat×Nat // Nat.gcd p.1 p.2=Nat.gcd x.natAbs y.natAbs/\p.1<1152921504606846976/\p.2<1152921504606846976} (fun p=>[.one (.int .i64 p.1.1),.one (.int .i64 p.1.2)]) (fun p=>p.1.2) ⟨(a,b),hg,ha4,hb4⟩ aQ.rfl (fun _=>rfl) ?_;rintro⟨⟨p,q⟩,hpq,hp,hq⟩;dsimp only[aO,aP]at hpq hp hq|-;apply vn gN;refine vs _ rfl ?_ ?_<;>intro h14
    ·apply vn (Ea (c:=((p%q:Nat):Int)) O (by rw[uZ (oh _),<-Kr]));exact aW rfl ⟨⟨(q,p%q),by rw[<-hpq,iu p q,tG q p,iu],hq,Nat.lt_of_le_of_lt (tc _ _) hp⟩,aQ.rfl,Nat.mod_lt _ O⟩
    have hq0:q=0:=O
    subst hq0;rw[BX]at hpq;apply aA (oM p);dsimp only[aO,aP];rw[<-hpq];exact aK
   apply aA (jn a b hb0);dsimp only[aO,aP];exact aW rfl ⟨⟨(b,a%b),by rw[<-hg,iu a b,tG b a,iu],hb,by show(bd (a%b)).length<_;omega⟩,aQ.rfl,Nat.mod_lt _ hb0⟩
  apply aA (jn a b hb0);dsimp only[aO,aP];exact aW rfl ⟨⟨(b,a%b),by rw[<-hg,iu a b,tG b a,iu],hb,by show(bd (a%b)).length<_;omega⟩,aQ.rfl,Nat.mod_lt _ hb0⟩
 have hb0:b=0:=hbz.1 O;subst hb0;rw[BX]at hg;apply aA (gA 1 (a:Int) (bd a) (iP _) (by rw[fV];rfl) (fun hne=>by rw[fV]at hne;exact eM O)) rfl;dsimp only[aO,aP];rw[<-hg];exact aK
def bF3:Tr:=eH 0 2 0 3 5 (aH 1 0 (lX 139 1 2 2 47 (kh 2 0 2 1)) (kh 0 2 0 3))
def bp1:aM prog f136 bZ [.v (some 4)]=bF3:=by kernel_rfl
def bb5:Tr:=eH 9 0 1 3 28 (aH 10 0 (oE 3 4 0 1) (sd 213 3 1 5 36 38 269 (sd 213 4 1 5 44 46 269 (HN 211 3 11 2 51 52 3 45 47 (MM 13 54 (oE 15 16 0 1))))))
def bK7:Tr:=eH 6 0 1 3 22 (aH 7 0 (oZ 5 1 0 45 26 (bm 8 3 27 bb5)) (sd 213 3 1 5 36 38 269 (sd 213 4 1 5 44 46 269 (HN 211 3 8 2 51 52 3 45 47 (MM 10 54 (oE 12 13 0 1))))))
def bb9:Tr:=eH 7 0 1 3 28 (aH 8 0 (oE 0 1 0 1) (sd 213 0 1 3 36 38 269 (sd 213 1 1 3 44 46 269 (HN 211 0 9 2 51 52 3 45 47 (MM 11 54 (oE 13 14 0 1))))))
def bn8:Tr:=eH 4 0 1 3 22 (aH 5 0 (oZ 3 1 0 45 26 (bm 6 3 27 bb9)) (sd 213 0 1 3 36 38 269 (sd 213 1 1 3 44 46 269 (HN 211 0 6 2 51 52 3 45 47 (MM 8 54 (oE 10 11 0 1))))))
def bP3:Tr:=iJ 1 0 0 3 11 (aH 2 0 (Mb 183 13 (dV 183 [(G2 1)] [(some 2)] [15] [47] 47 true (qz 212 3 4 2 17 18 47 (au 5 1 21 45 bK7)))) (qz 212 0 1 2 17 18 47 (au 3 1 21 45 bn8)))
def Xe:aM prog f137 bZ [.v (some 2),.v (some 2)]=bP3:=by kernel_rfl
def aK3:Tr:=oE 1 2 0 1
def bw8:Tr:=lZ 139 0 2 3 2 47 (lX 139 1 2 2 47 aK3)
def aY7:aM prog f50 bZ [.v none]=bw8:=by kernel_rfl
def bK8:Tr:=uM 139 0 2 5 2 47 (lZ 139 1 2 7 2 47 (qz 137 2 3 4 6 8 49 (oE 4 4 2 3)))
def bO9:aM prog f79 bZ [.v none,.v none]=bK8:=by kernel_rfl
def bO6:Tr:=xU 135 1 4 11 13 47 (xU 138 3 5 9 14 47 (nA 136 0 2 16 47 (nA 136 1 2 18 47 (qz 135 7 8 2 17 19 47 (qz 137 6 9 4 15 20 49 (oE 10 10 2 3))))))
def bz9:Tr:=nA 136 1 2 7 47 (xU 135 0 2 6 8 47 (nA 136 0 2 12 47 bO6))
def bs2:aM prog f48 bZ [.v (some 4),.v (some 4)]=bz9:=by kernel_rfl
def bC9:Tr:=dV 105 [(G4 1)] [(some 4)] [6] [49] 49 true (jv 48 0 0 1 0 2 0 3 2 5 7 (oE 3 3 2 3))
def bs1:aM prog f141 bZ [.v (some 4),.v (some 4)]=bC9:=by kernel_rfl
def aM9:Tr:=oE 6 6 2 3
def bN9:Tr:=xU 135 0 1 6 8 47 (nA 136 0 2 10 47 (nA 136 1 2 12 47 (qz 135 3 4 2 11 13 47 (qz 137 2 5 4 9 14 49 aM9))))
def bg1:aM prog f104 bZ [.v (some 4),.v (some 4)]=bN9:=by kernel_rfl
def bu6:Tr:=nA 136 1 2 7 47 (xU 135 0 2 6 8 47 (nA 136 0 2 10 47 (qz 135 4 1 2 11 13 47 (qz 137 3 5 4 9 14 49 aM9))))
def aT5:aM prog f102 bZ [.v (some 4),.v (some 4)]=bu6:=by kernel_rfl
def aL9:Tr:=dV 136 [(G4 0)] [(some 2)] [6] [49] 47 true aK3
def bz1:Tr:=Mb 183 4 aL9
def bn4:aM prog f105 bZ [.v (some 4)]=bz1:=by kernel_rfl
def bH2:Tr:=Mb 148 4 aL9
def bi0:aM prog f60 bZ [.v (some 4)]=bH2:=by kernel_rfl
def bM0:Tr:=nA 136 1 2 7 47 (xU 135 0 2 6 8 47 (nA 136 0 2 12 47 (qz 135 1 4 2 11 13 47 (dV 134 [(G2 3),(G2 5)] [none] [9,14] [47,47] 3 true (bI 6)))))
def bs3:aM prog f47 bZ [.v (some 4),.v (some 4)]=bM0:=by kernel_rfl
def bA4:Tr:=bI 0
def as8:aM prog f46 bZ [.v (some 4)]=bA4:=by kernel_rfl
structure RQ where
 q:Rat
 z:Bool
 h:z=true->q=0
def RQ.of(q:Rat):RQ:=⟨q,false,fun h=>by cases h⟩
def RQ.nil:RQ:=⟨0,true,fun _=>rfl⟩
abbrev rC(a:RQ):List aE:=[.int .i64 a.q.num.sign,bT a.q.num.natAbs,.int .i64 (if a.z then 0 else 1),bT (if a.z then 0 else a.q.den)]
abbrev lT(a:RQ):aG:=.agg (rC a)
def RQ.ZD(q:Rat):(RQ.of q).q=q:=rfl
def bc9(q:Rat):zT (q.den:Int)=.agg [.int .i64 1,bT q.den]:=QY q.den_pos
def xD:ae aE.Sub [.int .i64 0,.exact (.slice none 0 0),.int .i64 0,.exact (.slice none 0 0)] (rC RQ.nil):=⟨aE.Sub.same,pV rfl,aE.Sub.same,pV rfl,trivial⟩
def kN(a:RQ):aL prog 136 [(lT a:aG)] (.ret [zT (a.q.den:Int)]):=by
 refine bw func136 bp1 ?_;apply vn bK;refine vs _ rfl ?_ ?_<;>intro h1
 ·have ha:a.z=true:=by cases h:a.z<;>simp_all
  have hq:=a.h ha;apply aA (oM 1);dsimp only[aO,aP];rw[hq];exact aK
 have ha:a.z=false:=by cases h:a.z<;>simp_all
 refine aK ?_;rw[bc9];show[aG.agg [.int .i64 (if a.z then 0 else 1),bT (if a.z then 0 else a.q.den)]]=_;rw[ha];rfl
def gD{n B:Nat}(h:n<2^B):(bd n).length<=B:=jL (Nat.lt_of_lt_of_le h (eP O B))
def uD(n d:Int):Rat:=mkRat (if d<0 then -n else n) d.natAbs
def aF4{z:Int}{d:Nat}(hd:d≠0:=by omega):(mkRat z d).num=z/((z.natAbs.gcd d:Nat):Int)/\(mkRat z d).den=d/z.natAbs.gcd d/\(mkRat z d).num.natAbs=z.natAbs/z.natAbs.gcd d/\(mkRat z d).num.sign=z.sign:=by
 obtain⟨h1,h2⟩:=Zv (z:=z) hd;have hg:0<z.natAbs.gcd d:=Bq _ O;have hgz:z≠0->z.natAbs.gcd d<=z.natAbs:=fun h=>Nat.gcd_le_left _ O
 have h3:(mkRat z d).num.natAbs=z.natAbs/z.natAbs.gcd d:=by
  rw[h1];generalize z.natAbs/z.natAbs.gcd d=t;split<;>omega
 refine⟨?_,h2,h3,?_⟩
 ·rw[<-Rat.normalize_eq_mkRat hd,Rat.normalize_eq hd]
 ·rcases bu z with⟨h,e⟩ | ⟨h,e⟩ | ⟨h,e⟩
  ·rw[e,h1,iV h,if_pos rfl];have:=Nat.div_pos (hgz O) hg;exact vB O
  ·rw[e];subst h;rw[Rat.zero_mkRat];rfl
  ·rw[e,h1,mO O,if_neg (by simp)];have:=Nat.div_pos (hgz O) hg;exact eM O
def vr{g:Nat}(h:(bd g).length=1){x:Nat}(hx:(bd g)[0]?=some x):g=x:=by
 match hb:bd g,h with
 | [y],_=>
   rw[hb]at hx;simp only[List.getElem?_cons_zero,aI]at hx;subst hx;rw[<-fV g,hb,BC];simp[bv,val]
def wu{q:Rat}:lT (RQ.of q)=.agg [.int .i64 q.num.sign,bT q.num.natAbs,.int .i64 1,bT q.den]:=rfl
def xQ(n d:Int)(hd:d≠0)(hs2:(bd d.natAbs).length<8589934592:=by omega)(hs:(bd n.natAbs).length<8589934592:=by omega):aL prog 137 [(zT n:aG),(zT d:aG)] (.ret [lT (.of (uD n d))]):=by
 refine bw func137 Xe ?_;have hsd:=bu d
 have key:∀m:Int,m.natAbs=n.natAbs->uD n d=mkRat m d.natAbs->(uD n d).den=d.natAbs/Nat.gcd n.natAbs d.natAbs/\(uD n d).num.natAbs=n.natAbs/Nat.gcd n.natAbs d.natAbs/\(uD n d).num.sign=m.sign:=fun m hm e=>by
  have:=aF4 (z:=m) (d:=d.natAbs);rw[hm]at this;rw[e];exact⟨this.2.1,this.2.2.1,this.2.2.2⟩
 have hg:0<Nat.gcd n.natAbs d.natAbs:=Bq _ O;have hgd:Nat.gcd n.natAbs d.natAbs<=d.natAbs:=Nat.gcd_le_right _ O;have hgl:=fB hgd;have hdg:=Nat.div_pos hgd hg;have hnl:=fB (Nat.div_le_self n.natAbs (Nat.gcd n.natAbs d.natAbs));have hdl:=fB (Nat.div_le_self d.natAbs (Nat.gcd n.natAbs d.natAbs));apply vn ak;refine vs _ rfl ?_ ?_<;>intro h1
 ·have hd0:d<0:=by rcases hsd with⟨h,e⟩ | ⟨h,e⟩ | ⟨h,e⟩<;>omega
  have hR:uD n d=mkRat (-n) d.natAbs:=by rw[uD,if_pos hd0]
  obtain⟨k1,k2,k3⟩:=key (-n) (Int.natAbs_neg n) hR;generalize uD n d=q at *;apply aA (Cq n);apply aA (Cq d);dsimp only[aO,aP];have hc:=Sg (-n) (-d) (by rw[Int.natAbs_neg];omega) (by rw[Int.natAbs_neg];omega);rw[Int.natAbs_neg,Int.natAbs_neg]at hc;apply aA hc;generalize hG:Nat.gcd n.natAbs d.natAbs=g at *;apply vn (aU ef (aR _));apply vn bK;refine vs _ rfl ?_ ?_<;>intro h7
  ·obtain⟨x,hx⟩:∃x,(bd g)[0]?=some x:=⟨_,ay (by rw[Int.natAbs_natCast]at h7;omega)⟩
   apply vn (aZ ef (show(bd ((g:Int)).natAbs)[0]?=some x from hx));apply vn (av Uv);apply vn bK;refine vs _ rfl ?_ ?_<;>intro h11
   ·have hg1:g=1:=by
     have:=vr (g:=g) (by rw[Int.natAbs_natCast]at h7;omega) hx;omega
    rw[hg1,oc]at k1 k2;refine aK ?_;rw[wu,k3,k2,k1];show[aG.agg [.int .i64 (-n).sign,bT (-n).natAbs,.int .i64 (-d).sign,bT (-d).natAbs]]=_;rw[Int.natAbs_neg,Int.natAbs_neg,eM (show 0 < -d by omega)]
   have ho1:=jn n.natAbs g hg;have ho2:=jn d.natAbs g hg;rw[<-k2]at ho1 hnl;rw[<-k1]at ho2 hdl hdg;have hn':(-n).natAbs=n.natAbs:=Int.natAbs_neg n;have hd':(-d).natAbs=d.natAbs:=Int.natAbs_neg d;rw[<-hn']at ho1;rw[<-hd']at ho2;apply aA ho1;apply aA ho2;dsimp only[aO,aP];apply aA (gA (-n).sign q.num _ (iP _) (by rw[fV]) (fun _=>k3));apply aA (gA 1 (q.den:Int) _ (iP _) (by rw[fV];rfl) (fun _=>eM O)) rfl;dsimp only[aO,aP];refine aK ?_;rw[wu];show[aG.agg [.int .i64 q.num.sign,bT q.num.natAbs,.int .i64 (q.den:Int).sign,bT (q.den:Int).natAbs]]=_;rw[eM (show(0:Int)<q.den by omega),Int.natAbs_natCast]
  have ho1:=jn n.natAbs g hg;have ho2:=jn d.natAbs g hg;rw[<-k2]at ho1 hnl;rw[<-k1]at ho2 hdl hdg;have hn':(-n).natAbs=n.natAbs:=Int.natAbs_neg n;have hd':(-d).natAbs=d.natAbs:=Int.natAbs_neg d;rw[<-hn']at ho1;rw[<-hd']at ho2;apply aA ho1;apply aA ho2;apply aA (gA (-n).sign q.num _ (iP _) (by rw[fV]) (fun _=>k3));apply aA (gA 1 (q.den:Int) _ (iP _) (by rw[fV];rfl) (fun _=>eM O)) rfl;dsimp only[aO,aP];refine aK ?_;rw[wu];show[aG.agg [.int .i64 q.num.sign,bT q.num.natAbs,.int .i64 (q.den:Int).sign,bT (q.den:Int).natAbs]]=_;rw[eM (show(0:Int)<q.den by omega),Int.natAbs_natCast]
 have hd0:0<d:=by rcases hsd with⟨h,e⟩ | ⟨h,e⟩ | ⟨h,e⟩<;>omega
 have hR:uD n d=mkRat n d.natAbs:=by rw[uD,if_neg O]
 obtain⟨k1,k2,k3⟩:=key n rfl hR;generalize uD n d=q at *;have hc:=Sg n d;apply aA hc;generalize hG:Nat.gcd n.natAbs d.natAbs=g at *;apply vn (aU ef (aR _));apply vn bK;refine vs _ rfl ?_ ?_<;>intro h26
 ·obtain⟨x,hx⟩:∃x,(bd g)[0]?=some x:=⟨_,ay (by rw[Int.natAbs_natCast]at h26;omega)⟩
  apply vn (aZ ef (show(bd ((g:Int)).natAbs)[0]?=some x from hx));apply vn (av Uv);apply vn bK;refine vs _ rfl ?_ ?_<;>intro h30
  ·have hg1:g=1:=by
    have:=vr (g:=g) (by rw[Int.natAbs_natCast]at h26;omega) hx;omega
   rw[hg1,oc]at k1 k2;refine aK ?_;rw[wu,k3,k2,k1];show[aG.agg [.int .i64 n.sign,bT n.natAbs,.int .i64 d.sign,bT d.natAbs]]=_;rw[eM (show 0<d by omega)]
  have ho1:=jn n.natAbs g hg;have ho2:=jn d.natAbs g hg;rw[<-k2]at ho1 hnl;rw[<-k1]at ho2 hdl hdg;apply aA ho1;apply aA ho2;dsimp only[aO,aP];apply aA (gA n.sign q.num _ (iP _) (by rw[fV]) (fun _=>k3));apply aA (gA 1 (q.den:Int) _ (iP _) (by rw[fV];rfl) (fun _=>eM O)) rfl;dsimp only[aO,aP];refine aK ?_;rw[wu];show[aG.agg [.int .i64 q.num.sign,bT q.num.natAbs,.int .i64 (q.den:Int).sign,bT (q.den:Int).natAbs]]=_;rw[eM (show(0:Int)<q.den by omega),Int.natAbs_natCast]
 have ho1:=jn n.natAbs g hg;have ho2:=jn d.natAbs g hg;rw[<-k2]at ho1 hnl;rw[<-k1]at ho2 hdl hdg;apply aA ho1;apply aA ho2;apply aA (gA n.sign q.num _ (iP _) (by rw[fV]) (fun _=>k3));apply aA (gA 1 (q.den:Int) _ (iP _) (by rw[fV];rfl) (fun _=>eM O)) rfl;dsimp only[aO,aP];refine aK ?_;rw[wu];show[aG.agg [.int .i64 q.num.sign,bT q.num.natAbs,.int .i64 (q.den:Int).sign,bT (q.den:Int).natAbs]]=_;rw[eM (show(0:Int)<q.den by omega),Int.natAbs_natCast]
def Pe{n:Int}{d:Nat}:uD n (d:Int)=mkRat n d:=by
 rw[uD,if_neg O,Int.natAbs_natCast]
def Om{a b:Rat}(hb:b≠0):uD (a.num*(b.den:Int)) ((a.den:Int)*b.num)=a/b:=by
 have hn:b.num≠0:=fun e=>hb (Rat.num_eq_zero.1 e);have ha:=a.den_pos;rw[<-ZF hb,uD,Int.natAbs_mul,Int.natAbs_natCast];by_cases h:b.num<0
 ·rw[if_pos (Int.mul_neg_of_pos_of_neg O h),iV h,if_pos rfl,Int.mul_neg]
 ·rw[if_neg (by have:=qV (show(0:Int)<=a.den by omega) (show 0<=b.num by omega);omega),mO h,if_neg (by simp)]
def aG7{n d:Int}(hd:d≠0):uD n d=(n:Rat)/(d:Rat):=by
 have h:=Om (a:=(n:Rat)) (b:=(d:Rat)) (by rw[Ne,<-Rat.num_eq_zero,Rat.num_intCast];exact hd);rw[Rat.num_intCast,Rat.num_intCast,Rat.den_intCast,Rat.den_intCast]at h;rw[<-h];congr 1<;>omega
def Fit.bd{B:Nat}{q:Rat}(h:Fit B q):(bd q.num.natAbs).length<=B/\(bd q.den).length<=B:=⟨gD h.1,gD h.2⟩
def lG(n:Int)(h1:-9223372036854775808<=n:=by omega)(h2:n<9223372036854775808:=by omega):aL prog 50 [(.one (.int .i64 n):aG)] (.ret [lT (.of (n:Rat))]):=by
 refine bw func50 aY7 ?_;apply aA (oM n h1 h2);apply aA (oM 1);dsimp only[aO,aP];rw[wu,Rat.num_intCast,Rat.den_intCast];exact aK
def YY(n d:Int)(h1:-9223372036854775808<=n:=by omega)(h2:n<9223372036854775808:=by omega)(hd:d≠0:=by omega)(h3:-9223372036854775808<=d:=by omega)(h4:d<9223372036854775808:=by omega):aL prog 79 [(.one (.int .i64 n):aG),(.one (.int .i64 d):aG)] (.ret [lT (.of ((n:Rat)/(d:Rat)))]):=by
 refine bw func79 bO9 ?_;apply aA (oM n h1 h2);apply aA (oM d h3 h4);dsimp only[aO,aP];have hn:=gD (n:=n.natAbs) (B:=64) O;have hdd:=gD (n:=d.natAbs) (B:=64) O;apply aA (xQ n d hd);rw[aG7 hd];exact aK
def bc7(a:RQ):aL prog 105 [(lT a:aG)] (.ret [lT (.of (-a.q))]):=by
 refine bw func105 bn4 ?_;apply aA (Cq a.q.num);apply aA (kN a);dsimp only[aO,aP];refine aK ?_;rw[wu,Rat.neg_num,Rat.neg_den];show[aG.agg [.int .i64 (-a.q.num).sign,bT (-a.q.num).natAbs,.int .i64 (a.q.den:Int).sign,bT (a.q.den:Int).natAbs]]=_;have:=a.q.den_pos;rw[eM (show(0:Int)<a.q.den by omega),Int.natAbs_natCast]
def Cs(a:RQ):aL prog 60 [(lT a:aG)] (.ret [lT (.of a.q.abs)]):=by
 refine bw func60 bi0 ?_;apply aA (Sa a.q.num);apply aA (kN a);dsimp only[aO,aP];refine aK ?_;rw[wu,(lg a.q).1,(lg a.q).2];show[aG.agg [.int .i64 ((a.q.num.natAbs:Nat):Int).sign,bT ((a.q.num.natAbs:Nat):Int).natAbs,.int .i64 (a.q.den:Int).sign,bT (a.q.den:Int).natAbs]]=_;have:=a.q.den_pos;rw[eM (show(0:Int)<a.q.den by omega)];simp only[Int.natAbs_natCast]
def at5(a:RQ):aL prog 46 [(lT a:aG)] (.ret [.one (.int .i64 a.q.num.sign)]):=by
 refine bw func46 as8 ?_;exact aK
def sX(a b:RQ)(A B:Nat)(ha:Fit A a.q)(hb:Fit B b.q)(h:A+B<=4294967296:=by omega):aL prog 104 [(lT a:aG),(lT b:aG)] (.ret [lT (.of (a.q*b.q))]):=by
 refine bw func104 bg1 ?_;obtain⟨ha1,ha2⟩:=Fit.bd ha;obtain⟨hb1,hb2⟩:=Fit.bd hb;have hn:=gD (az ha.1 hb.1);have hd:=gD (az ha.2 hb.2);have hpa:=a.q.den_pos;have hpb:=b.q.den_pos;apply aA (jd a.q.num b.q.num);apply aA (kN a);apply aA (kN b);apply aA (jd (a.q.den:Int) (b.q.den:Int) (by rw[Int.natAbs_natCast,Int.natAbs_natCast];omega)) rfl;rw[<-Int.natCast_mul];apply aA (xQ _ ((a.q.den*b.q.den:Nat):Int) (by have:=Nat.mul_pos hpa hpb;omega) (by rw[Int.natAbs_natCast];omega) (by rw[Int.natAbs_mul];omega)) rfl;rw[Pe,<-Rat.mul_def'];exact aK
def sV(a b:RQ)(A B:Nat)(ha:Fit A a.q)(hb:Fit B b.q)(h:A+B<=4294967296:=by omega):aL prog 48 [(lT a:aG),(lT b:aG)] (.ret [lT (.of (a.q+b.q))]):=by
 refine bw func48 bs2 ?_;obtain⟨ha1,ha2⟩:=Fit.bd ha;obtain⟨hb1,hb2⟩:=Fit.bd hb;have hn1:=gD (az ha.1 hb.2);have hn2:=gD (az hb.1 ha.2);have hd:=gD (az ha.2 hb.2);have hpa:=a.q.den_pos;have hpb:=b.q.den_pos
 have hsum:(bd (a.q.num*(b.q.den:Int)+b.q.num*(a.q.den:Int)).natAbs).length<=A+B+1:=by
  apply gD;have h1:=az ha.1 hb.2;have h2:=az hb.1 ha.2;rw[Nat.add_comm B A]at h2;rw[Nat.pow_succ];refine Nat.lt_of_le_of_lt (Int.natAbs_add_le _ _) ?_;rw[Int.natAbs_mul,Int.natAbs_mul,Int.natAbs_natCast,Int.natAbs_natCast];omega
 apply aA (kN b);apply aA (jd a.q.num (b.q.den:Int) (by rw[Int.natAbs_natCast];omega)) rfl;apply aA (kN a);apply aA (jd b.q.num (a.q.den:Int) (by rw[Int.natAbs_natCast];omega)) rfl;apply aA (Sd _ _ (by rw[Int.natAbs_mul,Int.natAbs_natCast];omega) (by rw[Int.natAbs_mul,Int.natAbs_natCast];omega)) rfl;apply aA (kN a);apply aA (kN b);apply aA (jd (a.q.den:Int) (b.q.den:Int) (by rw[Int.natAbs_natCast,Int.natAbs_natCast];omega)) rfl;rw[<-Int.natCast_mul a.q.den b.q.den];dsimp only[aO,aP];apply aA (xQ _ ((a.q.den*b.q.den:Nat):Int) (by have:=Nat.mul_pos hpa hpb;omega) (by rw[Int.natAbs_natCast];omega)) rfl;rw[Pe,<-Rat.add_def'];exact aK
def bd2(a b:RQ)(A B:Nat)(ha:Fit A a.q)(hb:Fit B b.q)(h:A+B<=4294967296:=by omega):aL prog 141 [(lT a:aG),(lT b:aG)] (.ret [lT (.of (a.q-b.q))]):=by
 refine bw func141 bs1 ?_;apply aA (bc7 b);apply aA (sV a (.of (-b.q)) A B ha hb.neg h);rw[RQ.ZD,<-Rat.sub_eq_add_neg];exact aK
def Xj(a b:RQ)(A B:Nat)(hb0:b.q≠0)(ha:Fit A a.q)(hb:Fit B b.q)(h:A+B<=4294967296:=by omega):aL prog 102 [(lT a:aG),(lT b:aG)] (.ret [lT (.of (a.q/b.q))]):=by
 refine bw func102 aT5 ?_;obtain⟨ha1,ha2⟩:=Fit.bd ha;obtain⟨hb1,hb2⟩:=Fit.bd hb;have hn:=gD (az ha.1 hb.2);have hd:=gD (az ha.2 hb.1);have hpa:=a.q.den_pos;have hnb:b.q.num≠0:=fun e=>hb0 (Rat.num_eq_zero.1 e);apply aA (kN b);apply aA (jd a.q.num (b.q.den:Int) (by rw[Int.natAbs_natCast];omega)) rfl;apply aA (kN a);apply aA (jd (a.q.den:Int) b.q.num (by rw[Int.natAbs_natCast];omega)) rfl;apply aA (xQ _ _ (Int.mul_ne_zero O hnb) (by rw[Int.natAbs_mul,Int.natAbs_natCast];omega) (by rw[Int.natAbs_mul,Int.natAbs_natCast];omega)) rfl;rw[Om hb0];exact aK
def Px(a b:RQ)(A B:Nat)(ha:Fit A a.q)(hb:Fit B b.q)(h:A+B<=4294967296:=by omega):aL prog 47 [(lT a:aG),(lT b:aG)] (.ret [.one (.int .i64 (ku a.q b.q))]):=by
 refine bw func47 bs3 ?_;obtain⟨ha1,ha2⟩:=Fit.bd ha;obtain⟨hb1,hb2⟩:=Fit.bd hb;have hn1:=gD (az ha.1 hb.2);have hn2:=gD (az hb.1 ha.2);apply aA (kN b);apply aA (jd a.q.num (b.q.den:Int) (by rw[Int.natAbs_natCast];omega)) rfl;apply aA (kN a);apply aA (jd b.q.num (a.q.den:Int) (by rw[Int.natAbs_natCast];omega)) rfl;apply aA (am9 _ _ (by rw[Int.natAbs_mul,Int.natAbs_natCast];omega) (by rw[Int.natAbs_mul,Int.natAbs_natCast];omega)) rfl;rw[<-yV];exact aK
end Go.Sy
