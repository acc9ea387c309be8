/- Part. -/
import Derived.Test.YtdmcadckdnnglaaGreatDoorNb
set_option linter.all false
set_option maxHeartbeats 2000000
namespace Go.Sy
open Go Go.Proofs Tryz Ord
def XP:Tr:=cC 1
def cj6:Tr:=aJ 3 0 (mr 1 0 0 45 7 (cq 4 3 8 (gd 5 0 0 3 9 (aJ 6 0 (Yi 1 45 12 (.back 0 [lV 7 0])) XP)))) XP
def cA2:Tr:=ID 0 (bD 1 0 3 45 (ia 2 0 0 3 4 cj6))
def aL4:aO prog f260 cT [.v none]=cA2:=aT
def cx3:Tr:=vC 260 1 5 45 45 (bD 2 0 7 45 (gd 3 0 0 3 8 (aJ 4 0 (.ret [.agg [tE (.int .i64 0),tN]]) (oD 0 0 2 0))))
def bm5:aO prog f211 cT [.v none,.v none]=cx3:=aT
def cl0:Tr:=kp 5 0 0 3 12 (aJ 6 0 (Xg 5 3 14 (tM 7 45 16 (jk 1 8 8 3 17 18 45 (FX .quo 2 20 32768 2 0 2 (mL 0 10 9))))) (tM 5 45 16 (jk 1 8 7 3 17 18 45 (FX .quo 2 20 32768 2 0 2 (mL 0 9 8)))))
def bx4:Tr:=FX .rem 2 10 32768 2 0 2 cl0
def aQ8:Tr:=oD 5 0 5 1
def co0:Tr:=kp 0 0 0 2 6 (aJ 1 0 (WZ (oK 2 2 8 (aJ 4 0 bx4 (az1 (-1) aQ8)))) (WZ (oK 2 2 8 (aJ 4 0 bx4 (az1 1 aQ8)))))
def bi5:aO prog f139 cT [.v none]=co0:=aT
def bC3:Tr:=ur (-1)
def by1:Tr:=ur 1
def bY7:Tr:=cq 14 3 33 (jL 1 0 6 0 45 35 36 (cq 16 3 37 (yH .gtr 3 34 38 15 0 17 0 4 (aJ 18 0 by1 (bX 6 1 3 20 (kA 0 5 19))))))
def bE7:Tr:=jL 0 0 6 0 45 22 23 (cq 9 3 24 (jL 1 0 6 0 45 26 27 (cq 11 3 28 (dW 10 12 0 3 25 29 4 (aJ 13 0 bC3 (jL 0 0 6 0 45 31 32 bY7))))))
def aW1:Tr:=ur 0
def cj7:Tr:=bD 1 0 8 45 (yH .neq 3 7 9 2 0 3 0 4 (aJ 4 0 (bD 0 0 11 45 (bD 1 0 13 45 (dW 5 6 0 3 12 14 4 (aJ 7 0 bC3 by1)))) (Cw (bD 0 0 17 45 (dW 6 7 0 3 16 18 4 (aJ 8 0 bE7 aW1))))))
def co6:Tr:=bD 0 0 6 45 cj7
def aL6:aO prog f215 cT [.v none,.v none]=co6:=aT
def ci2:Tr:=aJ 3 0 aW1 (bD 0 0 10 45 (iJ 4 1 11 (ez 5 0 1 0 3 12 13 (jL 0 0 6 0 45 9 14 (cq 7 3 15 (cC 8))))))
def cn8:Tr:=bD 0 0 6 45 (yH .geq 3 5 7 1 0 2 0 4 ci2)
def aO0:aO prog f263 cT [.v none,.v none]=cn8:=aT
def bx5:Tr:=cC 5
def ci7:Tr:=bD 0 0 5 45 (bD 1 0 7 45 (yH .gtr 3 6 8 2 0 3 0 4 (aJ 4 0 (bD 0 0 10 45 bx5) (bD 1 0 12 45 bx5))))
def WN:aO prog f262 cT [.v none,.v none]=ci7:=aT
def ca5:Tr:=iJ 16 32768 40 (iJ 4 1 43 (ez 19 0 7 0 3 44 45 (eV 8 20 45 42 46 (gT 8 20 18 3 48 47 (bX 7 1 3 21 (QN 1 22 21))))))
def bH0:Tr:=aJ 17 0 ca5 (iJ 4 1 43 (ez 18 0 7 0 3 44 45 (eV 8 19 45 42 46 (gT 8 19 16 3 48 47 (bX 7 1 3 21 (QN (-1) 21 20))))))
def cd1:Tr:=iJ 14 32768 40 (iJ 4 1 43 (ez 18 0 7 0 3 44 45 (eV 8 19 45 42 46 (gT 8 19 17 3 48 47 (bX 7 1 3 21 (QN 1 21 20))))))
def bN1:Tr:=aJ 16 0 cd1 (iJ 4 1 43 (ez 17 0 7 0 3 44 45 (eV 8 18 45 42 46 (gT 8 18 14 3 48 47 (bX 7 1 3 21 (QN 0 20 19))))))
def ct6:Tr:=yH .mul 3 26 29 2 0 11 0 3 (dh 10 0 12 0 3 25 30 (dh 13 0 6 0 3 31 32 (kp 14 0 0 3 34 (aJ 15 0 (bX 14 32768 3 36 (my 16 0 32768 3 38 bH0)) (my 14 0 32768 3 38 bN1)))))
def ct9:Tr:=bX 3 1 3 14 (az9 (.loop 0 [lK 0,lK 0,.row 5] (dW 7 4 0 3 18 19 4 (aJ 9 0 (eO 263 [W 0 0,W 7 0] [none] [23,24] [45,3] 3 false (eO 263 [W 1 0,W 7 0] [none] [27,28] [45,3] 3 false ct6)) (mz 260 1 8 49 45 45 (cC 10))))))
def cv2:Tr:=rz 262 0 0 1 12 13 45 45 3 ct9
def bj4:aO prog f214 cT [.v none,.v none,.v none]=cv2:=aT
def bx8:Tr:=oD 1 0 0 1
def cs2:Tr:=Xg 0 3 4 bx8
def bn0:aO prog f183 cT [.v (some 2)]=cs2:=aT
def cr5:Tr:=yH .mul 3 4 6 0 0 0 0 3 bx8
def bu3:aO prog f148 cT [.v (some 2)]=cr5:=aT
def Xx:Tr:=oD 8 0 8 1
def cy9:Tr:=yH .eql 3 14 16 0 0 1 0 4 (aJ 4 0 (Bb 0 1 1 1 1 21 23 (OM 211 0 5 0 2 19 24 3 45 47 (oD 6 0 6 1))) (rz 215 0 1 1 27 29 45 45 3 (my 5 0 0 3 30 (aJ 6 0 (Bb 0 1 1 1 (-1) 35 37 (OM 211 0 7 0 2 33 38 3 45 47 Xx)) (Bb 1 1 0 1 (-1) 43 45 (OM 211 1 7 0 2 41 46 3 45 47 Xx))))))
def cA4:Tr:=gd 0 0 0 3 6 (aJ 2 0 (oD 1 0 1 1) (gd 1 0 0 3 10 (aJ 3 0 (oD 0 0 0 1) cy9)))
def aZ3:aO prog f138 cT [.v (some 2),.v (some 2)]=cA4:=aT
def cz0:Tr:=eO 183 [G2 1] [some 2] [6] [47] 47 true (uw 138 0 2 2 5 7 47 (oD 3 0 3 1))
def bk8:aO prog f210 cT [.v (some 2),.v (some 2)]=cz0:=aT
def bF2:Tr:=bX 27 1 3 58 (FX .rem 3 60 32768 26 0 3 (eV 15 28 45 55 59 (gT 15 28 29 3 62 61 (FX .quo 3 63 32768 26 0 3 (iJ 14 1 32 (BV 1 31 32 30))))))
def bV1:Tr:=cq 20 3 44 (jL 1 1 14 0 45 47 48 (cq 22 3 49 (yH .mul 3 45 50 21 0 23 0 3 (dh 19 0 24 0 3 40 51 (dh 25 0 13 0 3 52 53 (dh 8 0 14 0 3 56 57 bF2))))))
def bR5:Tr:=my 14 0 0 3 30 (aJ 16 0 (dh 8 0 14 0 3 35 36 (bX 17 1 3 37 (eV 15 18 45 34 38 (oq 15 18 3 39 (jL 0 1 8 0 45 42 43 bV1))))) (eV 15 8 45 65 66 (gT 15 8 13 3 68 67 (iJ 8 1 24 (mL 0 18 17)))))
def cs8:Tr:=iJ 6 1 20 (.loop 0 [lV 7 0,.row 5] (my 8 0 0 3 22 (aJ 10 0 (bD 1 1 27 45 (iJ 11 1 28 (.loop 1 [lK 0,lV 12 0,.row 9] bR5))) (yH .mul 3 70 72 0 0 1 0 3 (eO 211 [W 11 0,.one (.c (.sr 1 9))] [some 2] [73,74] [3,45] 47 true (oD 12 0 12 1))))))
def cC3:Tr:=bD 0 1 11 45 (bD 1 1 14 45 (dh 2 0 3 0 3 12 15 (az9 (bD 0 1 19 45 cs8))))
def bf4:aO prog f135 cT [.v (some 2),.v (some 2)]=cC3:=aT
def cD6:Tr:=uw 210 0 1 2 5 6 47 (cC 2)
def br2:aO prog f134 cT [.v (some 2),.v (some 2)]=cD6:=aT
abbrev rB(ds:j3):List (List aE):=ds.map fun(d:Nat)=>[aE.int .i64 (d:Int)]
abbrev sB(ds:j3):aE:=.slice 1 (rB ds)
abbrev bT(n:Nat):aE:=sB (bd n)
abbrev zC(z:Int):List aE:=[.int .i64 z.sign,bT z.natAbs]
abbrev zT(z:Int):aF:=.agg (zC z)
def aA0:DB 32768 []:=fun d hd=>by cases hd
def tG{n:Nat}(h:n=0):aE.Sub (.exact (.slice none 0 0)) (bT n):=by
 subst h;rw[bT,Gg];exact aE.Sub.nil
def sliceB{ds:j3}{x:n8}{ty:Nat}{y:n8}{k:IntKind}{n:Int}{m:Nat}(hm:n.toNat=m)(h0:0<=n:=by omega)(hn:m<=ds.length:=by omega):aq prog (.slice 45 x (some y) none none) ty [.one (sB ds),.one (.int k n)] (.one (sB (ds.drop m))):=by
 have:=PJ (P:=prog) (T:=45) (x:=x) (y:=y) (ty:=ty) (k:=k) (n:=n) (ts:=rB ds) gZ h0 (by rw[aX,hm];exact hn);rw[hm,rB,<-rL]at this;exact this
def bt2{ds:j3}{x:n8}{ty:Nat}{y:n8}{k:IntKind}{n:Int}{m:Nat}(h0:0<=n:=by omega)(hm:n.toNat=m:=by omega)(hn:m<=ds.length:=by omega):aq prog (.slice 45 x none (some y) none) ty [.one (sB ds),.one (.int k n)] (.one (sB (ds.take m))):=by
 have:=Pg (P:=prog) (T:=45) (x:=x) (y:=y) (ty:=ty) (k:=k) (n:=n) (ts:=rB ds) gZ h0 (by rw[aX,hm];exact hn);rw[hm,rB,<-ou]at this;exact this
def vx(ds:j3)(hd:DB 32768 ds)(hs:ds.length<4611686018427387904:=by omega):aK prog 260 [(.one (sB ds):aF)] (.ret [.one (bT (bv ds))]):=by
 refine dB func260 aL4 ?_;refine bC {xs:List Nat // DB 32768 xs/\bv xs=bv ds/\xs.length<=ds.length} (fun g=>[.one (sB g.1)]) (fun g=>g.1.length) ⟨ds,hd,rfl,ah _⟩ aR.rfl (fun _=>rfl) ?_;rintro⟨xs,hx,hv,hl⟩;dsimp only[aP,aQ]at hx hv hl|-;apply vn (aZ gZ (aX _));refine uS fL ?_ ?_<;>intro h3
 .obtain⟨d,hget⟩:∃d,xs[0]?=some d:=⟨_,bU O⟩
  apply vn (aY gZ hget);apply vn (bI YF);refine uS bA ?_ ?_<;>intro h7
  .apply vn (sliceB rfl)
   exact aa rfl ⟨⟨xs.drop 1,hx.drop 1,by
    have h7:d=0:=O
    rw[<-hv,am6 hget,h7,fu,cu],by show(xs.drop 1).length<=_;rw[dw];omega⟩,aR.rfl,by show(xs.drop 1).length<xs.length;rw[dw];omega⟩
  have e:bd (bv ds)=xs:=by
   rw[<-hv];refine cq4 hx fun d' h'=>?_;rw[YS,hget]at h';simp only[aM]at h';subst h';omega
  rw[bT,e];exact aN
 have e:bd (bv ds)=xs:=by
  have:xs=[]:=ij O;rw[<-hv,this];exact Gg
 rw[bT,e];exact aN
def jG(s z:Int)(ds:j3)(hd:DB 32768 ds)(h1:z.natAbs=bv ds)(h2:bv ds≠0->z.sign=s)(hs:ds.length<4611686018427387904:=by omega):aK prog 211 [(.one (.int .i64 s):aF),(.one (sB ds):aF)] (.ret [zT z]):=by
 refine dB func211 bm5 ?_;have hlen:(bd (bv ds)).length=0↔bv ds=0:=by rw[Ro,Jb]
 have hl2:(bd (bv ds)).length<=ds.length:=mA (VW hd);apply aA (vx ds hd hs);apply vn (aZ gZ (aX _));refine uS bA ?_ ?_<;>intro h3
 .have hz:z=0:=by
   have:=hlen.1 O;omega
  subst hz;exact eD ⟨⟨aE.Sub.same,tG rfl,trivial⟩,trivial⟩
 refine aN ?_;rw[<-h2 (fun h=>h3 (by have:=hlen.2 h;omega)),<-h1];rfl
def Ta{ds:j3}{m n:Nat}(hm:m≠0)(h:bv ds+32768^ds.length*m=n)(hn:n<18446744073709551616:=by omega):ds.length<=4:=by
 rcases bG ds.length 5 with h1 | h1
 .omega
 .have h2:32768^5<=32768^ds.length:=cB O h1;have h3:32768^ds.length<=32768^ds.length*m:=dn _ O;omega
def CA{ds:j3}{m n:Nat}(h:bv ds+32768^ds.length*m=n):bv (m%32768::ds)+32768^(m%32768::ds).length*(m/32768)=n:=by
 rw[Ff,bm,bF,jF,dC,<-fO,nj];exact h
def neg_tmod{m:Nat}:(-(m:Int)).tmod 32768=-((m%32768:Nat):Int):=by rw[Int.neg_tmod,uP O];omega
def neg_tdiv{m:Nat}:(-(m:Int)).tdiv 32768=-((m/32768:Nat):Int):=by rw[Int.neg_tdiv,nY O];omega
def rk(n:Int)(h1:-9223372036854775808<=n:=by omega)(h2:n<9223372036854775808:=by omega):aK prog 139 [(.one (.int .i64 n):aF)] (.ret [zT n]):=by
 refine dB func139 bi5 ?_;apply vn az;refine vs _ rfl (fun h1=>?_) (fun h1'=>?_)
 .refine bC {g:Nat×List Nat // bv g.2+32768^g.2.length*g.1=n.natAbs/\DB 32768 g.2/\g.1<=9223372036854775808/\g.2.length<=5} (fun g=>[.one (.int .i64 (-(g.1.1:Int))),.rows (rB g.1.2)]) (fun g=>g.1.1) ⟨(n.natAbs,[]),by simp[bv,val],aA0,by show n.natAbs<=_;omega,bY⟩ ⟨aF.Sub.of_eq (congrArg (fun q=>aF.one (aE.int .i64 q)) (by show n=-((n.natAbs:Nat):Int);omega)),aF.Sub.same,trivial⟩ (fun _=>rfl) ?_;rintro⟨⟨m,ds⟩,hv,hd,hm,hl⟩;dsimp only[aP,aQ]at hv hd hm hl|-;refine uS jA ?_ ?_<;>intro h4
  .have hm0:m≠0:=O
   have hl4:=Ta hm0 hv
   have hd2:DB 32768 (m%32768::ds):=fun d hd'=>by
    rcases ee.1 hd' with rfl | hd'
    .omega
    .exact hd d hd'
   apply vn (IM (c:=-((m%32768:Nat):Int)) dO neg_tmod);refine uS az ?_ ?_<;>intro h7
   .apply vn OT;dsimp only[aP,aQ];refine bh (us:=rB [m%32768]) (by show[[aE.int .i64 _]]=[[aE.int .i64 _]];congr 3;omega) ?_;refine su (ts:=rB [m%32768]) (us:=rB ds) (vs:=rB (m%32768::ds)) rfl rfl rfl iF (by simp[maxLen];omega) ?_;apply vn (te (c:=-((m/32768:Nat):Int)) dO (by rw[neg_tdiv];exact fG)) rfl;dsimp only[aP,aQ];exact aa rfl ⟨⟨(m/32768,m%32768::ds),CA hv,hd2,by show m/32768<=_;omega,by show ds.length+1<=5;omega⟩,aR.rfl,by show m/32768<m;omega⟩
   refine bh (us:=rB [m%32768]) (by show[[aE.int .i64 _]]=[[aE.int .i64 _]];congr 3;omega) ?_;refine su (ts:=rB [m%32768]) (us:=rB ds) (vs:=rB (m%32768::ds)) rfl rfl rfl iF (by simp[maxLen];omega) ?_;apply vn (te (c:=-((m/32768:Nat):Int)) dO (by rw[neg_tdiv];exact fG)) rfl;dsimp only[aP,aQ];exact aa rfl ⟨⟨(m/32768,m%32768::ds),CA hv,hd2,by show m/32768<=_;omega,by show ds.length+1<=5;omega⟩,aR.rfl,by show m/32768<m;omega⟩
  have hm0:m=0:=O
  subst hm0;rw[fu,cu]at hv;apply aA (jG (-1) n ds hd hv.symm (fun _=>pP h1));exact aN
 refine bC {g:Nat×List Nat // bv g.2+32768^g.2.length*g.1=n.natAbs/\DB 32768 g.2/\g.1<=9223372036854775808/\g.2.length<=5/\g.1<9223372036854775808} (fun g=>[.one (.int .i64 (g.1.1:Int)),.rows (rB g.1.2)]) (fun g=>g.1.1) ⟨(n.natAbs,[]),by simp[bv,val],aA0,by show n.natAbs<=_;omega,bY,by show n.natAbs<_;omega⟩ ⟨aF.Sub.of_eq (congrArg (fun q=>aF.one (aE.int .i64 q)) (by show n=((n.natAbs:Nat):Int);omega)),aF.Sub.same,trivial⟩ (fun _=>rfl) ?_;rintro⟨⟨m,ds⟩,hv,hd,hm,hl,hmm⟩;dsimp only[aP,aQ]at hv hd hm hl hmm|-;refine uS jA ?_ ?_<;>intro h21
 .have hm0:m≠0:=O
  have hl4:=Ta hm0 hv
  have hd2:DB 32768 (m%32768::ds):=fun d hd'=>by
   rcases ee.1 hd' with rfl | hd'
   .omega
   .exact hd d hd'
  apply vn gR;refine uS az ?_ ?_<;>intro h24
  .exfalso;omega
  refine bh (us:=rB [m%32768]) (by show[[aE.int .i64 _]]=[[aE.int .i64 _]];congr 3) ?_;refine su (ts:=rB [m%32768]) (us:=rB ds) (vs:=rB (m%32768::ds)) rfl rfl rfl iF (by simp[maxLen];omega) ?_;apply vn kW;dsimp only[aP,aQ];exact aa rfl ⟨⟨(m/32768,m%32768::ds),CA hv,hd2,by show m/32768<=_;omega,by show ds.length+1<=5;omega,by show m/32768<_;omega⟩,aR.rfl,by show m/32768<m;omega⟩
 have hm0:m=0:=O
 subst hm0;rw[fu,cu]at hv;apply aA (jG 1 n ds hd hv.symm (fun h=>fY O));exact aN
def Tz{xs ys:j3}(hx:DB 32768 xs){i x y:Nat}(hl:xs.length=ys.length)(hi:xs[i]?=some x)(hj:ys[i]?=some y)(ht:xs.take i=ys.take i)(hxy:x<y:=by omega):bv xs<bv ys:=by
 have e:∀(zs:j3)(z:Nat),zs[i]?=some z->bv zs=bv (zs.take i)*32768^(zs.length-i)+(bv (zs.drop (i+1))+32768^(zs.length-(i+1))*z):=fun zs z hz=>by
  have hlt:i<zs.length:=(fK.1 hz).1
  conv=>lhs;rw[<-pQ i zs]
  rw[as0,dw]
  congr 1
  rw[ow hlt,(fK.1 hz).2,Ff,dw]
 rw[e xs x hi,e ys y hj,ht,hl];have h1:=VW (hx.drop (i+1));rw[dw,hl]at h1;have h2:32768^(ys.length-(i+1))*(x+1)<=32768^(ys.length-(i+1))*y:=cd _ hxy;rw[fO,dc]at h2;omega
def yX{a b:Nat}(h:(bd a).length<(bd b).length:=by omega):a<b:=by
 rcases bG a b with h1 | h1
 .exact h1
 .have:=iD h1;omega
def tR(a b:Nat)(hs:(bd a).length+(bd b).length<1099511627776:=by omega):aK prog 215 [(.one (bT a):aF),(.one (bT b):aF)] (.ret [.one (.int .i64 (gS a b))]):=by
 refine dB func215 aL6 ?_;apply vn (aZ gZ (aX _));apply vn (aZ gZ (aX _));refine uS jA ?_ ?_<;>intro h3
 .apply vn (aZ gZ (aX _));apply vn (aZ gZ (aX _));refine uS az ?_ ?_<;>intro h7
  .rw[wj (by have:=yX (a:=a) (b:=b);omega)];exact aN
  rw[xS (by have:=yX (a:=b) (b:=a);omega)];exact aN
 have hlen:(bd a).length=(bd b).length:=O
 refine bC {i:Nat // i<=(bd a).length/\(bd a).take i=(bd b).take i} (fun g=>[.one (.int .i64 0),.one (.int .i64 g.1)]) (fun g=>(bd a).length-g.1) ⟨0,cG _,rfl⟩ aR.rfl (fun _=>rfl) ?_;rintro⟨i,hi,ht⟩;dsimp only[aP,aQ]at hi ht|-;apply vn (aZ gZ (aX _));refine uS az ?_ ?_<;>intro h13
 .obtain⟨x,hx⟩:∃x,(bd a)[i]?=some x:=⟨_,bU O⟩
  obtain⟨y,hy⟩:∃y,(bd b)[i]?=some y:=⟨_,bU O⟩
  apply vn (aY gZ hx);apply vn (bI YF);apply vn (aY gZ hy);apply vn (bI YF);refine uS az ?_ ?_<;>intro h19
  .have:=Tz (kr a) hlen hx hy ht;rw[il,il]at this;rw[wj O];exact aN
  apply vn (aY gZ hx);dsimp only[aP,aQ];apply vn (bI YF);apply vn (aY gZ hy);apply vn (bI YF);refine uS fL ?_ ?_<;>intro h26
  .have:=Tz (kr b) hlen.symm hy hx ht.symm;rw[il,il]at this;rw[xS O];exact aN
  apply vn aC;dsimp only[aP,aQ];exact aa rfl ⟨⟨i+1,O,by rw[take_succ hx,take_succ hy,ht,show x=y by omega]⟩,aR.rfl,by show(bd a).length-(i+1)<(bd a).length-i;omega⟩
 have hie:i=(bd a).length:=O
 subst hie
 have e:bd a=bd b:=by
  rw[eW,cU O]at ht;exact ht
 have:a=b:=by rw[<-il a,e,il]
 rw[this,FE];exact aN
def GU(n i:Nat)(hs:(bd n).length<1099511627776:=by omega)(hi:i<4611686018427387904:=by omega):aK prog 263 [(.one (bT n):aF),(.one (.int .i64 i):aF)] (.ret [.one (.int .i64 ((n/32768^i%32768:Nat):Int))]):=by
 refine dB func263 aO0 ?_;have hdg:=Tm n i;apply vn (aZ gZ (aX _));refine uS gW ?_ ?_<;>intro h2
 .rw[gm.2 (by rw[fV];omega)]at hdg;rw[<-hdg];exact aN
 apply vn (aZ gZ (aX _));apply vn aL;apply vn aL;dsimp only[aP,aQ];obtain⟨d,hd⟩:∃d,(bd n).reverse[i]?=some d:=⟨_,bU (by rw[fV];omega)⟩
 have hd2:(bd n)[(bd n).length-1-i]?=some d:=by rw[Fm];exact hd
 rw[hd]at hdg;apply vn (aY gZ hd2);apply vn (bI YF);dsimp only[aP,aQ];rw[<-hdg];exact aN
def Xu(a b:Nat):aK prog 262 [(.one (bT a):aF),(.one (bT b):aF)] (.ret [.one (.int .i64 ((max (bd a).length (bd b).length:Nat):Int))]):=by
 refine dB func262 WN ?_;apply vn (aZ gZ (aX _));apply vn (aZ gZ (aX _));refine uS fL ?_ ?_<;>intro h3
 .apply vn (aZ gZ (aX _));dsimp only[aP,aQ];refine aN ?_;show[aF.one (aE.int .i64 _)]=[aF.one (aE.int .i64 _)]
  congr 3;omega
 apply vn (aZ gZ (aX _));dsimp only[aP,aQ];refine aN ?_;show[aF.one (aE.int .i64 _)]=[aF.one (aE.int .i64 _)]
 congr 3;omega
def val_rev(n:Nat):val 32768 (bd n).reverse=n:=il n
def TR(n i:Nat):(bd n).reverse[i]?.getD 0=n/32768^i%32768:=Tm n i
def nS(a b r:Nat)(k:Int)(hk:k=1\/k=-1)(hs2:(bd b).length<274877906944:=by omega)(hr:(r:Int)=a+k*b:=by omega)(hs:(bd a).length<274877906944:=by omega):aK prog 214 [(.one (bT a):aF),(.one (bT b):aF),(.one (.int .i64 k):aF)] (.ret [.one (bT r)]):=by
 refine dB func214 bj4 ?_;obtain⟨n,hn⟩:∃n,max (bd a).length (bd b).length+1=n:=⟨_,rfl⟩
 have hrl:r<32768^n:=by
  have h1:=HS a;have h2:=HS b;have h3:32768^(bd a).length<=32768^(n-1):=cB O O;have h4:32768^(bd b).length<=32768^(n-1):=cB O O;have h5:32768^n=32768^(n-1)*32768:=by rw[<-bF];congr 1;omega
  rcases hk with rfl | rfl<;>omega
 apply aA (Xu a b);apply vn aC;dsimp only[aP,aQ];refine GD (n:=n) (f:=fun d:Nat=>[aE.int .i64 (d:Int)]) 0 rfl rfl O rfl O (by simp only[maxLen];omega) ?_;refine bC {g:Nat×Int×List Nat // Mc 32768 (bd a).reverse (bd b).reverse n k g.1 g.2.1 g.2.2} (fun g=>[.one (.int .i64 g.1.2.1),.one (.int .i64 g.1.1),.rows (rB g.1.2.2.reverse)]) (fun g=>n-g.1.1) ⟨(0,0,List.replicate n 0),Mc.init O _ _ _ _⟩ ⟨aF.Sub.same,aF.Sub.same,aF.Sub.of_eq (by rw[ah7];rfl),trivial⟩ (fun _=>rfl) ?_;rintro⟨⟨i,c,os⟩,hI⟩;dsimp only[aP,aQ]at hI|-;have hil:=hI.le;have hol:=hI.len;have hc0:=hI.c0;have hc1:=hI.c1;refine uS az ?_ ?_<;>intro h5
 .obtain⟨x,hx⟩:∃x,a/32768^i%32768=x:=⟨_,rfl⟩
  obtain⟨y,hy⟩:∃y,b/32768^i%32768=y:=⟨_,rfl⟩
  have hxB:x<32768:=by rw[<-hx];exact eK _ O
  have hyB:y<32768:=by rw[<-hy];exact eK _ O
  have hcall1:=GU a i;have hcall2:=GU b i;rw[hx]at hcall1;rw[hy]at hcall2
  have hnext:∀(z:Nat)(c':Int),z<32768->-1<=c'->c'<=1->(z:Int)+32768*c'=x+k*y+c->Mc 32768 (bd a).reverse (bd b).reverse n k (i+1) c' (os.set i z):=fun z c' h1 h2 h3 h4=>
   hI.next O (by rw[TR,hx]) (by rw[TR,hy]) h2 h3 h1 h4
  have hst:∀z,os.reverse.set (n-1-i) z=(os.set i z).reverse:=fun z=>by rw[<-hol];exact Sq O
  obtain⟨o0,hgo⟩:∃o0,os.reverse[n-1-i]?=some o0:=⟨_,bU (by rw[fV];omega)⟩
  have hky:k*y=y\/k*y=-(y:Int):=by rcases hk with rfl | rfl<;>simp
  generalize hkyv:k*(y:Int)=ky at hnext hky;apply aA hcall1;apply aA hcall2;apply vn (uv (c:=ky) (by rw[hkyv];exact fG)) rfl;apply vn aC;apply vn aC;refine uS az ?_ ?_<;>intro h12
  .apply vn aC;dsimp only[aP,aQ];refine uS gW ?_ ?_<;>intro h15
   .exfalso;omega
   apply vn aL;apply vn aL;refine dz rfl rfl O (by rw[fV];omega) ?_;refine qA (d':=(x+ky+c+32768).toNat) rfl rfl O O hgo (by show[aE.int .i64 _]=[aE.int .i64 _];congr 2;omega) ?_;rw[hst];apply vn aC;dsimp only[aP,aQ];exact aa rfl ⟨⟨(i+1,-1,os.set i (x+ky+c+32768).toNat),hnext _ (-1) O O O O⟩,aR.rfl,by show n-(i+1)<n-i;omega⟩
  refine uS gW ?_ ?_<;>intro h30
  .apply vn aL;apply vn aL;apply vn aL;refine dz rfl rfl O (by rw[fV];omega) ?_;refine qA (d':=(x+ky+c-32768).toNat) rfl rfl O O hgo (by show[aE.int .i64 _]=[aE.int .i64 _];congr 2;omega) ?_;rw[hst];apply vn aC;dsimp only[aP,aQ];exact aa rfl ⟨⟨(i+1,1,os.set i (x+ky+c-32768).toNat),hnext _ 1 O O O O⟩,aR.rfl,by show n-(i+1)<n-i;omega⟩
  apply vn aL;apply vn aL;refine dz rfl rfl O (by rw[fV];omega) ?_;refine qA (d':=(x+ky+c).toNat) rfl rfl O O hgo (by show[aE.int .i64 _]=[aE.int .i64 _];congr 2;omega) ?_;rw[hst];apply vn aC;dsimp only[aP,aQ];exact aa rfl ⟨⟨(i+1,0,os.set i (x+ky+c).toNat),hnext _ 0 O O O O⟩,aR.rfl,by show n-(i+1)<n-i;omega⟩
 have hie:i=n:=O
 subst hie;have hf:=hI.fin O (by rw[fV];omega) (by rw[fV];omega) (r:=r) (by rw[val_rev,val_rev];exact hr) hrl;apply aA (vx os.reverse hI.dg.rev (by rw[fV];omega)) rfl;dsimp only[aP,aQ];refine aN ?_;rw[<-hf,bv,sK];rfl
def FF(z:Int):-1<=z.sign/\z.sign<=1:=by rcases dG z with⟨_,e⟩ | ⟨_,e⟩ | ⟨_,e⟩<;>omega
def Gs(z:Int):aK prog 183 [(zT z:aF)] (.ret [zT (-z)]):=by
 refine dB func183 bn0 ?_;have:=FF z;apply vn OT;dsimp only[aP,aQ];refine aN ?_;show[aF.agg [.int .i64 (-z.sign),bT z.natAbs]]=[zT (-z)];rw[zT,zC,Int.sign_neg,iC]
def YQ(z:Int):aK prog 148 [(zT z:aF)] (.ret [zT (z.natAbs:Int)]):=by
 refine dB func148 bu3 ?_
 apply vn (uv (c:=((z.natAbs:Nat):Int).sign) (by
  rcases dG z with⟨h,e⟩ | ⟨h,e⟩ | ⟨h,e⟩<;>rw[e]
  .rw[fY O];exact fG
  .rw[h];exact fG
  .rw[fY O];exact fG)) rfl
 exact aN
def bS5{a b:Nat}:(bd (a+b)).length<=max (bd a).length (bd b).length+1:=by
 apply mA;have h1:=HS a;have h2:=HS b;have h3:32768^(bd a).length<=32768^(max (bd a).length (bd b).length):=cB O O;have h4:32768^(bd b).length<=32768^(max (bd a).length (bd b).length):=cB O O;rw[bF];omega
def YW(x y:Int)(hx:(bd x.natAbs).length<137438953472)(hy:(bd y.natAbs).length<137438953472):aK prog 138 [(zT x:aF),(zT y:aF)] (.ret [zT (x+y)]):=by
 refine dB func138 aZ3 ?_;have hx0:=dG x;have hy0:=dG y
 have hl:∀n,n<=x.natAbs+y.natAbs->(bd n).length<274877906944:=fun n hn=>by
  have h1:=iD hn;have h2:=bS5 (a:=x.natAbs) (b:=y.natAbs);omega
 refine uS bA ?_ ?_<;>intro h1
 .rw[show x=0 by omega,Int.zero_add];exact aN
 refine uS bA ?_ ?_<;>intro h4
 .rw[show y=0 by omega,Int.add_zero];exact aN
 refine uS bA ?_ ?_<;>intro h7
 .apply aA (nS x.natAbs y.natAbs (x.natAbs+y.natAbs) 1 (.inl rfl))
  apply aA (jG x.sign (x+y) _ (kr _) (by rw[il];omega) (fun _=>by
   rcases hx0 with⟨h,e⟩ | ⟨h,e⟩ | ⟨h,e⟩
   .rw[e];exact pP O
   .omega
   .rw[e];exact fY O) (by have:=hl _ (ah _);omega)) rfl
  exact aN
 apply aA (tR x.natAbs y.natAbs);apply vn gW;dsimp only[aP,aQ]
 have hci:(0<=gS (x.natAbs:Int) (y.natAbs:Int))↔y.natAbs<=x.natAbs:=by
  have:=vY (a:=(x.natAbs:Int)) (b:=(y.natAbs:Int));omega
 refine p8 ?_ ?_<;>intro h13
 .apply aA (nS x.natAbs y.natAbs (x.natAbs-y.natAbs) (-1) (.inr rfl))
  apply aA (jG x.sign (x+y) _ (kr _) (by rw[il];omega) (fun hne=>by
   rw[il]at hne;rcases hx0 with⟨h,e⟩ | ⟨h,e⟩ | ⟨h,e⟩
   .rw[e];exact pP O
   .omega
   .rw[e];exact fY O) (by have:=hl (x.natAbs-y.natAbs) O;omega)) rfl
  exact aN
 apply aA (nS y.natAbs x.natAbs (y.natAbs-x.natAbs) (-1) (.inr rfl))
 apply aA (jG y.sign (x+y) _ (kr _) (by rw[il];omega) (fun hne=>by
  rw[il]at hne;rcases hy0 with⟨h,e⟩ | ⟨h,e⟩ | ⟨h,e⟩
  .rw[e];exact pP O
  .omega
  .rw[e];exact fY O) (by have:=hl (y.natAbs-x.natAbs) O;omega)) rfl
 exact aN
def bn6(x y:Int)(hx:(bd x.natAbs).length<137438953472)(hy:(bd y.natAbs).length<137438953472):aK prog 210 [(zT x:aF),(zT y:aF)] (.ret [zT (x-y)]):=by
 refine dB func210 bk8 ?_;apply aA (Gs y);apply aA (YW x (-y) hx (by rw[iC];exact hy)) rfl;rw[<-Int.sub_eq_add_neg];exact aN
def aW2(x y:Int):(x-y).sign=gS x y:=by
 unfold gS;rcases dG (x-y)with⟨h,e⟩ | ⟨h,e⟩ | ⟨h,e⟩<;>rw[e]
 .rw[aI O]
 .rw[aD O,aD O]
 .rw[aD O,aI O]
def aY4(x y:Int)(hx:(bd x.natAbs).length<137438953472)(hy:(bd y.natAbs).length<137438953472):aK prog 134 [(zT x:aF),(zT y:aF)] (.ret [.one (.int .i64 (gS x y))]):=by
 refine dB func134 br2 ?_;apply aA (bn6 x y hx hy);dsimp only[aP,aQ];rw[<-aW2];exact aN
def ag7{n la i:Nat}(h:la=(bd n).length)(hi:i<la:=by omega):∃d,(bd n)[la-1-i]?=some d/\(bd n).reverse[i]?=some d/\d<32768:=by
 subst h;have hd:(bd n).reverse[i]?=some ((bd n).reverse[i]'(by rw[fV];exact hi)):=bU _;exact⟨_,by rw[Fm hi];exact hd,hd,(kr n).rev.get hd⟩
def mS(x y:Int)(hs:(bd x.natAbs).length+(bd y.natAbs).length<274877906944:=by omega):aK prog 135 [(zT x:aF),(zT y:aF)] (.ret [zT (x*y)]):=by
 refine dB func135 bf4 ?_;obtain⟨la,hla⟩:∃n,(bd x.natAbs).length=n:=⟨_,rfl⟩
 obtain⟨lb,hlb⟩:∃n,(bd y.natAbs).length=n:=⟨_,rfl⟩
 have hra:(bd x.natAbs).reverse.length=la:=by rw[fV,hla]
 have hrb:(bd y.natAbs).reverse.length=lb:=by rw[fV,hlb]
 have hsx:=FF x;have hsy:=FF y;apply vn (aZ gZ (aX _));apply vn (aZ gZ (aX _));apply vn aC;dsimp only[aP,aQ];rw[hla,hlb];refine GD (n:=la+lb) (f:=fun d:Nat=>[aE.int .i64 (d:Int)]) 0 rfl rfl O rfl O (by simp only[maxLen];omega) ?_;apply vn (aZ gZ (aX _));apply vn aL;dsimp only[aP,aQ];rw[hla];refine bC {g:Nat×List Nat // MK 32768 (bd x.natAbs).reverse (bd y.natAbs).reverse g.1 g.2} (fun g=>[.one (.int .i64 ((la:Int)-1-g.1.1)),.rows (rB g.1.2.reverse)]) (fun g=>la-g.1.1) ⟨(0,List.replicate (la+lb) 0),by have:=MK.init (B:=32768) O (bd x.natAbs).reverse (bd y.natAbs).reverse;rw[hra,hrb]at this;exact this⟩ ⟨aF.Sub.of_eq (congrArg (fun q=>aF.one (aE.int .i64 q)) (by show(la:Int)-1=(la:Int)-1-((0:Nat):Int);omega)),aF.Sub.of_eq (by rw[ah7];rfl),trivial⟩ (fun _=>rfl) ?_;rintro⟨⟨i,os⟩,hO⟩;dsimp only[aP,aQ]at hO|-;have hil:=hO.le;rw[hra]at hil;refine uS gW ?_ ?_<;>intro h8
 .apply vn (aZ gZ (aX _));obtain⟨d,hd1,hd2,hd3⟩:=ag7 (n:=x.natAbs) (la:=la) (i:=i) hla.symm;dsimp only[aP,aQ];apply vn aL;dsimp only[aP,aQ];rw[hlb];refine bC {g:Nat×Nat×List Nat // BIn 32768 (bd x.natAbs).reverse (bd y.natAbs).reverse i d (val 32768 ((bd x.natAbs).reverse.take i)*val 32768 (bd y.natAbs).reverse) g.1 g.2.1 g.2.2} (fun g=>[.one (.int .i64 g.1.2.1),.one (.int .i64 ((lb:Int)-1-g.1.1)),.rows (rB g.1.2.2.reverse)]) (fun g=>lb-g.1.1) ⟨(0,0,os),hO.inn O⟩ ⟨aF.Sub.same,aF.Sub.of_eq (congrArg (fun q=>aF.one (aE.int .i64 q)) (by show(lb:Int)-1=(lb:Int)-1-((0:Nat):Int);omega)),aF.Sub.same,trivial⟩ (fun _=>rfl) ?_;rintro⟨⟨k,c,os2⟩,hI⟩;dsimp only[aP,aQ]at hI|-;have hkl:=hI.le;have hol:=hI.len;have hc1:=hI.c1;rw[hrb]at hkl;rw[hra,hrb]at hol;refine uS gW ?_ ?_<;>intro h13
  .apply vn aC;apply vn aC;dsimp only[aP,aQ];obtain⟨e,he1,he2,he3⟩:=ag7 (n:=y.natAbs) (la:=lb) (i:=k) hlb.symm;obtain⟨o,ho2⟩:∃o,os2[i+k]?=some o:=⟨_,bU O⟩
   have ho1:os2.reverse[la+lb-1-(i+k)]?=some o:=by
    have:=Fm (ds:=os2.reverse) (i:=i+k) (by rw[fV];omega);rw[sK,fV,hol]at this;rw[this];exact ho2
   have hoB:=hI.dg.get ho2;have hde:d*e<=32767*32767:=dE O O;have hst:∀z,os2.reverse.set (la+lb-1-(i+k)) z=(os2.set (i+k) z).reverse:=fun z=>by rw[<-hol];exact Sq O
   obtain⟨w,hw⟩:∃w,c+(d*e+o)=w:=⟨_,rfl⟩
   have hN:=hI.next (z:=w%32768) (c':=w/32768) (by rw[hrb];omega) he2 ho2 O O O;refine dz rfl rfl O (by rw[fV];omega) ?_;refine tZ rfl rfl O O ho1 rfl ?_;apply vn (aY gZ hd1);apply vn (bI YF);apply vn (aY gZ he1);apply vn (bI YF);apply vn (uv (c:=((d*e:Nat):Int)) (by rw[<-iK];exact fG)) rfl;apply vn aC;dsimp only[aP,aQ];apply vn (fP (c:=(w:Int)) (by rw[show(o:Int)+((d*e:Nat):Int)+(c:Int)=(w:Int) by omega];exact fG)) rfl;apply vn aC;apply vn aC;apply vn gR;refine dz rfl rfl O (by rw[fV];omega) ?_;refine qA (d':=w%32768) rfl rfl O O ho1 rfl ?_;rw[hst];apply vn kW;apply vn aL;dsimp only[aP,aQ];exact aa rfl ⟨⟨(k+1,w/32768,os2.set (i+k) (w%32768)),hN⟩,⟨aF.Sub.same,aF.Sub.of_eq (congrArg (fun q=>aF.one (aE.int .i64 q)) (by show(lb:Int)-1-(k:Int)-1=(lb:Int)-1-((k+1:Nat):Int);omega)),aF.Sub.same,trivial⟩,by show lb-(k+1)<lb-k;omega⟩
  have hke:k=lb:=O
  subst hke;obtain⟨o,ho2⟩:∃o,os2[i+k]?=some o:=⟨_,bU O⟩
  have ho1:os2.reverse[la+k-1-(i+k)]?=some o:=by
   have:=Fm (ds:=os2.reverse) (i:=i+k) (by rw[fV];omega);rw[sK,fV,hol]at this;rw[this];exact ho2
  have hst:∀z,os2.reverse.set (la+k-1-(i+k)) z=(os2.set (i+k) z).reverse:=fun z=>by rw[<-hol];exact Sq O
  have hN:MK 32768 (bd x.natAbs).reverse (bd y.natAbs).reverse (i+1) (os2.set (i+k) c):=by
   have:=hI;rw[<-hrb]at this|-;exact this.out hd2
  refine dz rfl rfl O (by rw[fV];omega) ?_;refine qA (d':=c) rfl rfl O O ho1 rfl ?_;rw[hst];apply vn aL;dsimp only[aP,aQ];exact aa rfl ⟨⟨(i+1,os2.set (i+k) c),hN⟩,⟨aF.Sub.of_eq (congrArg (fun q=>aF.one (aE.int .i64 q)) (by show(la:Int)-1-(i:Int)-1=(la:Int)-1-((i+1:Nat):Int);omega)),aF.Sub.same,trivial⟩,by show la-(i+1)<la-i;omega⟩
 have hie:i=la:=O
 subst hie
 have hf:val 32768 os=x.natAbs*y.natAbs:=by
  have:=hO;rw[<-hra]at this;have:=this.fin;rw[val_rev,val_rev]at this;exact this
 have hol:=hO.len;rw[hra,hrb]at hol;have hmul:x.sign*y.sign=(x*y).sign:=(Int.sign_mul x y).symm;have hsb:=FF (x*y);apply vn (uv (c:=(x*y).sign) (by rw[hmul];exact fG)) rfl;apply aA (jG (x*y).sign (x*y) os.reverse hO.dg.rev (by rw[bv,sK,hf,dx]) (fun _=>rfl) (by rw[fV];omega)) rfl;exact aN
def bB1:Tr:=kA 0 10 11
def cl1:Tr:=aJ 5 0 (FX .mul 3 14 32768 3 0 3 (iJ 1 1 17 (ez 7 0 4 0 3 18 19 (rz 263 0 0 8 16 20 45 3 3 (dh 6 0 9 0 3 15 21 (bX 4 1 3 12 bB1)))))) (cC 3)
def cz2:Tr:=Cw (dW 4 2 0 3 9 10 4 cl1)
def aW0:aO prog f284 cT [.v none,.v none,.v none]=cz2:=aT
def bY1:Tr:=.loop 0 [lV 14 0,lV 10 0] (rz 215 15 0 1 46 47 45 45 3 (my 17 0 0 3 48 (aJ 18 0 (Bb 15 0 1 0 (-1) 50 51 (bX 16 1 3 53 (kA 0 19 20))) (CH 16 15))))
def bI7:Tr:=.loop 0 [lV 0 0,lV 10 0] (rz 215 12 0 1 46 47 45 45 3 (my 14 0 0 3 48 (aJ 15 0 (Bb 12 0 1 0 (-1) 50 51 (bX 13 1 3 53 (kA 0 16 17))) (CH 13 12))))
def aT1:Tr:=ia 10 0 0 3 36 (aJ 11 0 (yF 139 10 2 39 2 47 (aH5 12 (Bb 0 0 13 1 (-1) 38 44 bY1))) bI7)
def cv6:Tr:=ju 2 0 3 3 14 (aJ 5 0 (bX 2 1 3 17 (bX 2 1 3 19 (eO 284 [W 0 0,W 6 0,W 7 0] [none] [16,18,20] [45,3,3] 3 false (eO 284 [W 1 0,W 2 0,W 2 0] [none] [22,23,24] [45,3,3] 3 true (yH .quo 3 21 25 8 0 9 0 3 aT1))))) (bX 2 1 3 28 (aM4 0 6 4 27 29 (aM4 1 2 3 31 32 (bX 8 1 3 33 (yH .quo 3 30 34 7 0 9 0 3 aT1))))))
def bR8:Tr:=.loop 0 [lV 8 0,lK 0] (rz 215 9 0 1 46 47 45 45 3 (my 11 0 0 3 48 (aJ 12 0 (Bb 9 0 1 0 (-1) 50 51 (bX 10 1 3 53 (kA 0 13 14))) (CH 10 9))))
def bK8:Tr:=aJ 5 0 (eO 139 [WK 0] [some 2] [39] [2] 47 false (aH5 6 (Bb 0 0 7 1 (-1) 38 44 bR8))) (.loop 0 [lV 0 0,lK 0] (rz 215 6 0 1 46 47 45 45 3 (my 8 0 0 3 48 (aJ 9 0 (Bb 6 0 1 0 (-1) 50 51 (bX 7 1 3 53 bB1)) (CH 7 6)))))
def cz9:Tr:=bD 1 0 8 45 (bD 0 0 10 45 (yH .geq 3 11 12 3 0 2 0 4 (aJ 4 0 cv6 (.need (.prim [WK 0,WK 0] none) (.binOp .gtr 3 (tT 36) (.const (I3 0)) 3) 4 false bK8))))
def aB5:aO prog f261 cT [.v none,.v none]=cz9:=aT
def bS1:Tr:=jk 1 8 17 20 33 38 45 (mz 260 1 21 39 45 45 (wO 261 22 0 1 42 43 311 (tM 23 45 48 (jk 1 8 14 25 47 49 45 (bX 13 1 3 30 (BV 0 24 27 26))))))
def bI5:Tr:=bD 0 0 27 45 (dW 13 15 0 3 26 28 4 (aJ 16 0 (Zx 1 8 12 32 45 (jL 0 0 13 0 45 34 35 (cq 18 3 36 (tM 19 45 37 bS1)))) (gU 260 14 51 45 45 (CH 17 12))))
def cs4:Tr:=iJ 5 1 18 (Ij 6 45 16 19 (Zx 1 8 7 20 45 (mz 260 1 8 21 45 45 (bD 1 0 23 45 (iJ 10 1 24 (.loop 0 [lV 9 0,lV 11 0,.nilrow] bI5))))))
def cp9:Tr:=bD 0 0 10 45 (bD 1 0 12 45 (dW 2 3 0 3 11 13 4 (aJ 4 0 (aH0 0) (bD 1 0 17 45 cs4))))
def bs5:aO prog f213 cT [.v none,.v none]=cp9:=aT
def ck3:Tr:=aJ 4 0 (FX .mul 3 11 32768 1 0 3 (jL 0 0 2 0 45 13 14 (cq 6 3 15 (dh 5 0 7 0 3 12 16 (bX 2 1 3 9 (kA 0 8 9)))))) XP
def cq9:Tr:=Cw (bD 0 0 6 45 (dW 2 3 0 3 5 7 4 ck3))
def at2:aO prog f257 cT [.v none]=cq9:=aT
def bW2:Tr:=Dt 257 2 26 45 3 (vC 257 3 28 45 3 (.loop 1 [lV 12 0,lV 13 0] (oK 15 3 30 (aJ 16 0 (yH .rem 3 33 34 14 0 15 0 3 (kA 1 15 17)) (oh 139 14 2 36 2 47 (oD 17 0 17 1))))))
def cx4:Tr:=ju 8 0 4 3 19 (aJ 9 0 (bD 3 0 22 45 (ju 10 0 4 3 23 (aJ 11 0 bW2 (wO 213 2 0 3 39 40 269 (xx 0 3 13 4 0 5 0))))) (wO 213 2 0 3 39 40 269 (xx 0 3 11 4 0 5 0)))
def ci3:Tr:=.loop 0 [lV 0 1,lV 1 1,lK 0,lN] (bD 3 0 15 45 (ia 6 0 0 3 16 (aJ 7 0 (bD 2 0 18 45 cx4) (Tt 2 46 Xx))))
def bg5:aO prog f212 cT [.v (some 2),.v (some 2)]=ci3:=aT
def Wf{m long i:Nat}(h:i<long:=by omega):m/32768^(long-i)*32768+m/32768^(long-1-i)%32768=m/32768^(long-(i+1)):=by
 have e:m/32768^(long-i)=m/32768^(long-(i+1))/32768:=by
  rw[mW,<-bF];congr 2;omega
 rw[e,show long-1-i=long-(i+1) by omega];have:=Fk (m/32768^(long-(i+1))) 32768;omega
def zm{m long i:Nat}(h:i<=long)(hm:m<32768^long):m/32768^(long-i)<32768^i:=by
 rw[lh (aw O),<-eH,show i+(long-i)=long by omega];exact hm
def Yt{i:Nat}(h:i<=4:=by omega):32768^i<=1152921504606846976:=by
 have:=cB (n:=32768) O h;rw[show(32768:Nat)^4=1152921504606846976 by decide]at this;exact this
def Av(m long k:Nat)(hm:m<32768^long)(hk:k<=long:=by omega)(hk4:k<=4:=by omega)(hl:long<1099511627776:=by omega)(hs:(bd m).length<1099511627776:=by omega):aK prog 284 [(.one (bT m):aF),(.one (.int .i64 long):aF),(.one (.int .i64 k):aF)] (.ret [.one (.int .i64 ((m/32768^(long-k):Nat):Int))]):=by
 refine dB func284 aW0 ?_;refine bC {i:Nat // i<=k} (fun g=>[.one (.int .i64 ((m/32768^(long-g.1):Nat):Int)),.one (.int .i64 g.1)]) (fun g=>k-g.1) ⟨0,cG _⟩ ⟨aF.Sub.of_eq (congrArg (fun q:Nat=>aF.one (aE.int .i64 (q:Int))) (by show 0=m/32768^long;rw[gj hm])),aF.Sub.same,trivial⟩ (fun _=>rfl) ?_;rintro⟨i,hi⟩;dsimp only[aP,aQ]at hi|-;refine uS az ?_ ?_<;>intro h2
 .have hx:=zm (m:=m) (i:=i) (long:=long) O hm;have hp:=Yt (i:=i);have hstep:=Wf (m:=m) (long:=long) (i:=i);have hlt:=zm (m:=m) (i:=i+1) (long:=long) O hm;have hp2:=Yt (i:=i+1);generalize m/32768^(long-i)=x at *;generalize hy:m/32768^(long-(i+1))=y at *;apply vn pb;apply vn aL;dsimp only[aP,aQ];apply vn (qQ (c:=((long-1-i:Nat):Int)) (by rw[show((long:Int)-1-(i:Int))=((long-1-i:Nat):Int) by omega];exact fG)) rfl;apply aA (GU m (long-1-i) hs);generalize m/32768^(long-1-i)%32768=d at *;dsimp only[aP,aQ];apply vn (fP (c:=(y:Int)) (by rw[show(x:Int)*32768+(d:Int)=(y:Int) by omega];exact fG)) rfl;apply vn aC;dsimp only[aP,aQ];exact aa rfl ⟨⟨i+1,O⟩,⟨aF.Sub.of_eq (congrArg (fun q:Nat=>aF.one (aE.int .i64 (q:Int))) hy.symm),aF.Sub.same,trivial⟩,by show k-(i+1)<k-i;omega⟩
 rw[show k=i by omega];exact aN
def XM{d:Nat}(h:0<d):zT (d:Int)=.agg [.int .i64 1,bT d]:=by
 rw[zT,zC,fY O];rfl
def aP2{r d m:Nat}:r/32768^m/(d/32768^m+1)*d<=r:=by
 have hp:0<32768^m:=aw O
 have h1:d<=(d/32768^m+1)*32768^m:=by
  rw[cD];exact na (af0 d hp)
 calc r/32768^m/(d/32768^m+1)*d<=r/32768^m/(d/32768^m+1)*((d/32768^m+1)*32768^m):=cd _ h1
  _=r/32768^m/(d/32768^m+1)*(d/32768^m+1)*32768^m:=(dC _ _ _).symm
  _<=r/32768^m*32768^m:=cg _ (uC _ _)
  _<=r:=uC _ _
def aU6(r d:Nat)(hd:0<d)(hr:r<d*32768)(hs:(bd d).length<34359738368:=by omega):aK prog 261 [(.one (bT r):aF),(.one (bT d):aF)] (.ret [.one (.int .i64 ((r/d:Nat):Int)),.one (bT (r%d))]):=by
 refine dB func261 aB5 ?_;have hdl:=HS d
 have hrl:r<32768^((bd d).length+1):=by
  rw[bF];exact PR hr (xG hdl O)
 have hrs:=mA hrl;have hle:∀q,q<=r->(bd q).length<=(bd d).length+1:=fun q hq=>an (iD hq) hrs
 have hdn:0<(bd d).length:=by
  rcases iI (bd d).length with h | h
  .have:=Jb.1 (ij h);omega
  .exact h
 have hqB:r/d<32768:=by rw[lh hd,cD];exact hr
 have hkd:∀k,k*d<=r->k<32768:=fun k hk=>by
  have:k<=r/d:=by rw[Aq hd];exact hk
  omega
 have hfin:∀r' k,r'+k*d=r->r'<d->k=r/d/\r'=r%d:=fun r' k h1 h2=>Cm (by rw[<-h1,cD]) h2
 have hah:∀r':Nat,(0<=gS (r':Int) (d:Int))↔d<=r':=fun r'=>by
  have:=vY (a:=(r':Int)) (b:=(d:Int));omega
 apply vn (aZ gZ (aX _));apply vn (aZ gZ (aX _));refine uS gW ?_ ?_<;>intro h3
 .refine uS iQ ?_ ?_<;>intro h5
  .apply vn aC;apply vn aC;apply aA (Av r ((bd d).length+1) ((bd d).length+1) hrl (ah _));rw[jj,jt,rO];apply aA (Av d (bd d).length (bd d).length hdl (ah _));rw[jj,jt,rO];dsimp only[aP,aQ];obtain⟨k,hk⟩:∃k,r/d=k:=⟨_,rfl⟩
   have hk1:k*d<=r:=by rw[<-hk];exact uC _ _
   have hk2:=hkd k hk1;apply vn (te (c:=(k:Int)) O (by rw[nY (sG _),<-Bi,hk];exact fG)) rfl;refine uS fL ?_ ?_<;>intro h12
   .have hm:=mS (k:Int) (d:Int) (by
     rw[cH,cH];have:(bd k).length<=1:=mA O;omega)
    rw[XM hd,show(k:Int)*(d:Int)=((k*d:Nat):Int) by rw[iK]]at hm;apply aA (rk k);apply aA hm;apply aA (nS r (k*d) (r-k*d) (-1) (.inr rfl) (by have:=hle _ hk1;omega)) rfl;dsimp only[aP,aQ];refine bC {g:Nat×Nat // g.1+g.2*d=r} (fun g=>[.one (bT g.1.1),.one (.int .i64 g.1.2)]) (fun g=>g.1.1) ⟨(r-k*d,k),by show r-k*d+k*d=r;omega⟩ aR.rfl (fun _=>rfl) ?_;rintro⟨⟨r',k'⟩,hg⟩;dsimp only[aP,aQ]at hg|-;have hk3:=hkd k' O;have hr3:=hle r' O;apply aA (tR r' d);refine uS gW ?_ ?_<;>intro h19
    .have hdr:d<=r':=(hah r').1 iS;apply aA (nS r' d (r'-d) (-1) (.inr rfl));apply vn aC;dsimp only[aP,aQ];exact aa rfl ⟨⟨(r'-d,k'+1),by show r'-d+(k'+1)*d=r;rw[ba];omega⟩,aR.rfl,by show r'-d<r';omega⟩
    have hdr:r'<d:=by
     rcases bG r' d with h | h
     .exact h
     .exact absurd ((hah r').2 h) iS
    obtain⟨e1,e2⟩:=hfin r' k' hg hdr;rw[<-e1,<-e2];exact aN
   refine bC {g:Nat×Nat // g.1+g.2*d=r} (fun g=>[.one (bT g.1.1),.one (.int .i64 g.1.2)]) (fun g=>g.1.1) ⟨(r,0),O⟩ ⟨aF.Sub.same,aF.Sub.of_eq (congrArg (fun q:Nat=>aF.one (aE.int .i64 (q:Int))) (by show k=0;omega)),trivial⟩ (fun _=>rfl) ?_;rintro⟨⟨r',k'⟩,hg⟩;dsimp only[aP,aQ]at hg|-;have hk3:=hkd k' O;have hr3:=hle r' O;apply aA (tR r' d);refine uS gW ?_ ?_<;>intro h27
   .have hdr:d<=r':=(hah r').1 iS;apply aA (nS r' d (r'-d) (-1) (.inr rfl));apply vn aC;dsimp only[aP,aQ];exact aa rfl ⟨⟨(r'-d,k'+1),by show r'-d+(k'+1)*d=r;rw[ba];omega⟩,aR.rfl,by show r'-d<r';omega⟩
   have hdr:r'<d:=by
    rcases bG r' d with h | h
    .exact h
    .exact absurd ((hah r').2 h) iS
   obtain⟨e1,e2⟩:=hfin r' k' hg hdr;rw[<-e1,<-e2];exact aN
  apply vn aC;apply aA (Av r ((bd d).length+1) 4 hrl);apply aA (Av d (bd d).length 3 hdl);rw[show(bd d).length+1-4=(bd d).length-3 by omega];have hd3:=zm (m:=d) (long:=(bd d).length) (i:=3) O hdl;have hr4:=zm (m:=r) (long:=(bd d).length+1) (i:=4) O hrl;rw[show(bd d).length+1-4=(bd d).length-3 by omega]at hr4;have hp3:=Yt (i:=3);have hp4:=Yt (i:=4);have hk1:=aP2 (r:=r) (d:=d) (m:=(bd d).length-3);generalize r/32768^((bd d).length-3)=rt at *;generalize d/32768^((bd d).length-3)=dt at *;obtain⟨k,hk⟩:∃k,rt/(dt+1)=k:=⟨_,rfl⟩
  rw[hk]at hk1;have hk2:=hkd k hk1;apply vn aC;dsimp only[aP,aQ];apply vn (te (c:=(k:Int)) O (by rw[nY (sG _),show((dt:Int)+1)=((dt+1:Nat):Int) by omega,<-Bi,hk];exact fG)) rfl;refine uS fL ?_ ?_<;>intro h38
  .have hm:=mS (k:Int) (d:Int) (by
    rw[cH,cH];have:(bd k).length<=1:=mA O;omega)
   rw[XM hd,show(k:Int)*(d:Int)=((k*d:Nat):Int) by rw[iK]]at hm;apply aA (rk k);apply aA hm;apply aA (nS r (k*d) (r-k*d) (-1) (.inr rfl) (by have:=hle _ hk1;omega)) rfl;dsimp only[aP,aQ];refine bC {g:Nat×Nat // g.1+g.2*d=r} (fun g=>[.one (bT g.1.1),.one (.int .i64 g.1.2)]) (fun g=>g.1.1) ⟨(r-k*d,k),by show r-k*d+k*d=r;omega⟩ aR.rfl (fun _=>rfl) ?_;rintro⟨⟨r',k'⟩,hg⟩;dsimp only[aP,aQ]at hg|-;have hk3:=hkd k' O;have hr3:=hle r' O;apply aA (tR r' d);refine uS gW ?_ ?_<;>intro h45
   .have hdr:d<=r':=(hah r').1 iS;apply aA (nS r' d (r'-d) (-1) (.inr rfl));apply vn aC;dsimp only[aP,aQ];exact aa rfl ⟨⟨(r'-d,k'+1),by show r'-d+(k'+1)*d=r;rw[ba];omega⟩,aR.rfl,by show r'-d<r';omega⟩
   have hdr:r'<d:=by
    rcases bG r' d with h | h
    .exact h
    .exact absurd ((hah r').2 h) iS
   obtain⟨e1,e2⟩:=hfin r' k' hg hdr;rw[<-e1,<-e2];exact aN
  refine bC {g:Nat×Nat // g.1+g.2*d=r} (fun g=>[.one (bT g.1.1),.one (.int .i64 g.1.2)]) (fun g=>g.1.1) ⟨(r,0),O⟩ ⟨aF.Sub.same,aF.Sub.of_eq (congrArg (fun q:Nat=>aF.one (aE.int .i64 (q:Int))) (by show k=0;omega)),trivial⟩ (fun _=>rfl) ?_;rintro⟨⟨r',k'⟩,hg⟩;dsimp only[aP,aQ]at hg|-;have hk3:=hkd k' O;have hr3:=hle r' O;apply aA (tR r' d);refine uS gW ?_ ?_<;>intro h53
  .have hdr:d<=r':=(hah r').1 iS;apply aA (nS r' d (r'-d) (-1) (.inr rfl));apply vn aC;dsimp only[aP,aQ];exact aa rfl ⟨⟨(r'-d,k'+1),by show r'-d+(k'+1)*d=r;rw[ba];omega⟩,aR.rfl,by show r'-d<r';omega⟩
  have hdr:r'<d:=by
   rcases bG r' d with h | h
   .exact h
   .exact absurd ((hah r').2 h) iS
  obtain⟨e1,e2⟩:=hfin r' k' hg hdr;rw[<-e1,<-e2];exact aN
 refine uS fL ?_ ?_<;>intro h59
 .exfalso;omega
 refine bC {g:Nat×Nat // g.1+g.2*d=r} (fun g=>[.one (bT g.1.1),.one (.int .i64 g.1.2)]) (fun g=>g.1.1) ⟨(r,0),O⟩ aR.rfl (fun _=>rfl) ?_;rintro⟨⟨r',k'⟩,hg⟩;dsimp only[aP,aQ]at hg|-;have hk3:=hkd k' O;have hr3:=hle r' O;apply aA (tR r' d);refine uS gW ?_ ?_<;>intro h74
 .have hdr:d<=r':=(hah r').1 iS;apply aA (nS r' d (r'-d) (-1) (.inr rfl));apply vn aC;dsimp only[aP,aQ];exact aa rfl ⟨⟨(r'-d,k'+1),by show r'-d+(k'+1)*d=r;rw[ba];omega⟩,aR.rfl,by show r'-d<r';omega⟩
 have hdr:r'<d:=by
  rcases bG r' d with h | h
  .exact h
  .exact absurd ((hah r').2 h) iS
 obtain⟨e1,e2⟩:=hfin r' k' hg hdr;rw[<-e1,<-e2];exact aN
def mf(a d:Nat)(hd:0<d:=by omega)(hs:(bd a).length+(bd d).length<34359738368:=by omega):aK prog 213 [(.one (bT a):aF),(.one (bT d):aF)] (.ret [.one (bT (a/d)),.one (bT (a%d))]):=by
 refine dB func213 bs5 ?_
 have hdn:0<(bd d).length:=by
  rcases iI (bd d).length with h | h
  .have:=Jb.1 (ij h);omega
  .exact h
 apply vn (aZ gZ (aX _));apply vn (aZ gZ (aX _));refine uS az ?_ ?_<;>intro h3
 .have had:=yX (a:=a) (b:=d);refine eD ⟨tG (gj had),?_,trivial⟩;rw[gk had];exact aE.Sub.same
 apply vn (aZ gZ (aX _));apply vn aL;apply vn (bt2 (m:=(bd d).length-1));refine su (ts:=[]) (us:=rB ((bd a).take ((bd d).length-1))) (vs:=rB ((bd a).take ((bd d).length-1))) rfl (.inr aE.Sub.same) rfl iF (by simp[maxLen];omega) ?_;apply aA (vx ((bd a).take ((bd d).length-1)) ((kr a).take _) (by rw[bP];omega)) rfl;dsimp only[aP,aQ];apply vn (aZ gZ (aX _));apply vn aL;dsimp only[aP,aQ]
 refine bC {g:Nat×Nat×List Nat // (bd d).length-1<=g.1/\g.1<=(bd a).length/\bv ((bd a).take g.1)=g.2.1+d*bv g.2.2/\g.2.1<d/\DB 32768 g.2.2/\g.2.2.length<=g.1} (fun g=>[.one (bT g.1.2.1),.one (.int .i64 g.1.1),.rows (rB g.1.2.2)]) (fun g=>(bd a).length-g.1.1) ⟨((bd d).length-1,bv ((bd a).take ((bd d).length-1)),[]),ah _,by show(bd d).length-1<=_;omega,by simp[bv,val],by
  have h1:=VW ((kr a).take ((bd d).length-1));rw[bP,ek O]at h1;exact bt h1 (cw8 O),aA0,cG _⟩ ⟨aF.Sub.same,aF.Sub.of_eq (congrArg (fun q=>aF.one (aE.int .i64 q)) (by show((bd d).length:Int)-1=(((bd d).length-1:Nat):Int);omega)),aF.Sub.same,trivial⟩ (fun _=>rfl) ?_
 rintro⟨⟨i,R,qs⟩,hi1,hi2,hv,hR,hq,hql⟩;dsimp only[aP,aQ]at hi1 hi2 hv hR hq hql|-;have hRl:=iD (na hR);apply vn (aZ gZ (aX _));refine uS az ?_ ?_<;>intro h15
 .obtain⟨x,hx⟩:∃x,(bd a)[i]?=some x:=⟨_,bU O⟩
  have hxB:=(kr a).get hx;refine su (ts:=[]) (us:=rB (bd R)) (vs:=rB (bd R)) rfl (.inr aE.Sub.same) rfl iF (by simp[maxLen];omega) ?_;apply vn (aY gZ hx);apply vn (bI YF);apply bh (us:=rB [x]);refine su (ts:=rB (bd R)) (us:=rB [x]) (vs:=rB (bd R++[x])) rfl rfl (by rw[rB,rB,rB,<-ep]) iF (by simp[maxLen];omega) ?_;dsimp only[aP,aQ];have hdb:DB 32768 (bd R++[x]):=(kr R).append (fun y hy=>by simp at hy;omega);apply aA (vx (bd R++[x]) hdb iF) rfl;rw[Gc,il]
  apply aA (aU6 (R*32768+x) d hd (by
   have:(R+1)*32768<=d*32768:=cg _ hR;omega)) rfl
  have hmd:=nj (R*32768+x) d
  have hqB:(R*32768+x)/d<32768:=by
   rw[lh hd,cD];have:(R+1)*32768<=d*32768:=cg _ hR;omega
  have hRm:=eK (R*32768+x) hd;generalize (R*32768+x)/d=k at *;generalize (R*32768+x)%d=R' at *;apply bh (us:=rB [k]);refine su (ts:=rB qs) (us:=rB [k]) (vs:=rB (qs++[k])) rfl rfl (by rw[rB,rB,rB,<-ep]) iF (by simp[maxLen];omega) ?_;apply vn aC;dsimp only[aP,aQ]
  exact aa rfl ⟨⟨(i+1,R',qs++[k]),by show _<=i+1;omega,by show i+1<=_;omega,by
   show bv ((bd a).take (i+1))=R'+d*bv (qs++[k]);rw[take_succ hx,Gc,Gc,hv,fO,ba,<-dC];omega,hRm,hq.append (fun y hy=>by simp at hy;omega),by show(qs++[k]).length<=i+1;simp;omega⟩,aR.rfl,by show(bd a).length-(i+1)<(bd a).length-i;omega⟩
 have hie:i=(bd a).length:=O
 subst hie;rw[eW,il]at hv;obtain⟨e1,e2⟩:=Cm hv hR;apply aA (vx qs hq);dsimp only[aP,aQ];rw[<-e1,<-e2];exact aN
def HB(m:Nat)(hm:(bd m).length<=4:=by omega):aK prog 257 [(.one (bT m):aF)] (.ret [.one (.int .i64 m)]):=by
 refine dB func257 at2 ?_;refine bC {i:Nat // i<=(bd m).length} (fun g=>[.one (.int .i64 (bv ((bd m).take g.1):Nat)),.one (.int .i64 g.1)]) (fun g=>(bd m).length-g.1) ⟨0,cG _⟩ aR.rfl (fun _=>rfl) ?_;rintro⟨i,hi⟩;dsimp only[aP,aQ]at hi|-;apply vn (aZ gZ (aX _));refine uS az ?_ ?_<;>intro h3
 .obtain⟨x,hx⟩:∃x,(bd m)[i]?=some x:=⟨_,bU O⟩
  have hxB:=(kr m).get hx;have hb:=VW ((kr m).take i);rw[bP,ek hi]at hb;have hp:=Yt (i:=i);have hb2:=VW ((kr m).take (i+1));rw[bP,ek O]at hb2;have hp2:=Yt (i:=i+1);have hsn:bv ((bd m).take (i+1))=bv ((bd m).take i)*32768+x:=by rw[take_succ hx,Gc]
  generalize bv ((bd m).take i)=y at *;apply vn pb;apply vn (aY gZ hx);apply vn (bI YF);apply vn aC;apply vn aC;dsimp only[aP,aQ];exact aa rfl ⟨⟨i+1,O⟩,⟨aF.Sub.of_eq (congrArg (fun q:Int=>aF.one (aE.int .i64 q)) (by show(y:Int)*32768+x=((bv ((bd m).take (i+1)):Nat):Int);omega)),aF.Sub.same,trivial⟩,by show(bd m).length-(i+1)<(bd m).length-i;omega⟩
 rw[show i=(bd m).length by omega,eW,il];exact aN
def YY(x y:Int)(hs:(bd x.natAbs).length<17179869184:=by omega)(hs2:(bd y.natAbs).length<17179869184:=by omega):aK prog 212 [(zT x:aF),(zT y:aF)] (.ret [zT ((Nat.gcd x.natAbs y.natAbs:Nat):Int)]):=by
 refine dB func212 bg5 ?_;refine bC {p:Nat×Nat // Nat.gcd p.1 p.2=Nat.gcd x.natAbs y.natAbs/\(bd p.1).length<17179869184/\(bd p.2).length<17179869184} (fun p=>[.one (bT p.1.1),.one (bT p.1.2),.one (.int .i64 0),.one (.exact (.slice none 0 0))]) (fun p=>p.1.2) ⟨(x.natAbs,y.natAbs),rfl,hs,hs2⟩ aR.rfl (fun _=>rfl) ?_;rintro⟨⟨a,b⟩,hg,ha,hb⟩;dsimp only[aP,aQ]at hg ha hb|-;have hbz:(bd b).length=0↔b=0:=by rw[Ro,Jb]
 have hml:=iD (xX a b);apply vn (aZ gZ (aX _));refine uS fL ?_ ?_<;>intro h3
 .have hb0:0<b:=by
   rcases iI b with h | h
   .have:=hbz.2 h;omega
   .exact h
  apply vn (aZ gZ (aX _));refine uS iQ ?_ ?_<;>intro h6
  .apply vn (aZ gZ (aX _));refine uS iQ ?_ ?_<;>intro h9
   .have h4:∀n,(bd n).length<=4->n<1152921504606846976:=fun n hn=>bt (HS n) (Yt hn);have ha4:=h4 a O;have hb4:=h4 b O;apply aA (HB a);apply aA (HB b);dsimp only[aP,aQ];refine bC {p:Nat×Nat // Nat.gcd p.1 p.2=Nat.gcd x.natAbs y.natAbs/\p.1<1152921504606846976/\p.2<1152921504606846976} (fun p=>[.one (.int .i64 p.1.1),.one (.int .i64 p.1.2)]) (fun p=>p.1.2) ⟨(a,b),hg,ha4,hb4⟩ aR.rfl (fun _=>rfl) ?_;rintro⟨⟨p,q⟩,hpq,hp,hq⟩;dsimp only[aP,aQ]at hpq hp hq|-;refine uS jA ?_ ?_<;>intro h14
    .apply vn (IM (c:=((p%q:Nat):Int)) O (by rw[uP (sG _),<-PU]));exact aa rfl ⟨⟨(q,p%q),by rw[<-hpq,lR p q,xF q p,lR],hq,cV (xX _ _) hp⟩,aR.rfl,eK _ O⟩
    have hq0:q=0:=O
    subst hq0;rw[FW]at hpq;apply aA (rk p);dsimp only[aP,aQ];rw[<-hpq];exact aN
   apply aA (mf a b hb0);dsimp only[aP,aQ];exact aa rfl ⟨⟨(b,a%b),by rw[<-hg,lR a b,xF b a,lR],hb,by show(bd (a%b)).length<_;omega⟩,aR.rfl,eK _ hb0⟩
  apply aA (mf a b hb0);dsimp only[aP,aQ];exact aa rfl ⟨⟨(b,a%b),by rw[<-hg,lR a b,xF b a,lR],hb,by show(bd (a%b)).length<_;omega⟩,aR.rfl,eK _ hb0⟩
 have hb0:b=0:=hbz.1 O;subst hb0;rw[FW]at hg;apply aA (jG 1 (a:Int) (bd a) (kr _) (by rw[il];rfl) (fun hne=>by rw[il]at hne;exact fY O)) rfl;dsimp only[aP,aQ];rw[<-hg];exact aN
def cs5:Tr:=gd 0 2 0 3 5 (aJ 1 0 (og 139 1 2 2 47 (oD 2 0 2 1)) (oD 0 2 0 3))
def cc5:aO prog f136 cT [.v (some 4)]=cs5:=aT
def bO6:Tr:=gd 9 0 1 3 28 (aJ 10 0 (ru 3 4 0 1) (wO 213 3 1 5 36 38 269 (wO 213 4 1 5 44 46 269 (Om 211 3 11 2 51 52 3 45 47 (Tt 13 54 (ru 15 16 0 1))))))
def cy3:Tr:=gd 6 0 1 3 22 (aJ 7 0 (mr 5 1 0 45 26 (cq 8 3 27 bO6)) (wO 213 3 1 5 36 38 269 (wO 213 4 1 5 44 46 269 (Om 211 3 8 2 51 52 3 45 47 (Tt 10 54 (ru 12 13 0 1))))))
def bP0:Tr:=gd 7 0 1 3 28 (aJ 8 0 (ru 0 1 0 1) (wO 213 0 1 3 36 38 269 (wO 213 1 1 3 44 46 269 (Om 211 0 9 2 51 52 3 45 47 (Tt 11 54 (ru 13 14 0 1))))))
def ca9:Tr:=gd 4 0 1 3 22 (aJ 5 0 (mr 3 1 0 45 26 (cq 6 3 27 bP0)) (wO 213 0 1 3 36 38 269 (wO 213 1 1 3 44 46 269 (Om 211 0 6 2 51 52 3 45 47 (Tt 8 54 (ru 10 11 0 1))))))
def cD4:Tr:=kp 1 0 0 3 11 (aJ 2 0 (RW 183 13 (eO 183 [G2 1] [some 2] [15] [47] 47 true (uw 212 3 4 2 17 18 47 (bD 5 1 21 45 cy3)))) (uw 212 0 1 2 17 18 47 (bD 3 1 21 45 ca9)))
def av6:aO prog f137 cT [.v (some 2),.v (some 2)]=cD4:=aT
def bw8:Tr:=ru 1 2 0 1
def cj8:Tr:=oh 139 0 2 3 2 47 (og 139 1 2 2 47 bw8)
def bL8:aO prog f50 cT [.v none]=cj8:=aT
def cy4:Tr:=yF 139 0 2 5 2 47 (oh 139 1 2 7 2 47 (uw 137 2 3 4 6 8 49 (ru 4 4 2 3)))
def cD0:aO prog f79 cT [.v none,.v none]=cy4:=aT
def cC7:Tr:=zP 135 1 4 11 13 47 (zP 138 3 5 9 14 47 (ot 136 0 2 16 47 (ot 136 1 2 18 47 (uw 135 7 8 2 17 19 47 (uw 137 6 9 4 15 20 49 (ru 10 10 2 3))))))
def cm9:Tr:=ot 136 1 2 7 47 (zP 135 0 2 6 8 47 (ot 136 0 2 12 47 cC7))
def cf6:aO prog f48 cT [.v (some 4),.v (some 4)]=cm9:=aT
def cq2:Tr:=eO 105 [G4 1] [some 4] [6] [49] 49 true (nE 48 0 0 1 0 2 0 3 2 5 7 (ru 3 3 2 3))
def cf5:aO prog f141 cT [.v (some 4),.v (some 4)]=cq2:=aT
def bz5:Tr:=ru 6 6 2 3
def cB6:Tr:=zP 135 0 1 6 8 47 (ot 136 0 2 10 47 (ot 136 1 2 12 47 (uw 135 3 4 2 11 13 47 (uw 137 2 5 4 9 14 49 bz5))))
def bT4:aO prog f104 cT [.v (some 4),.v (some 4)]=cB6:=aT
def ch9:Tr:=ot 136 1 2 7 47 (zP 135 0 2 6 8 47 (ot 136 0 2 10 47 (uw 135 4 1 2 11 13 47 (uw 137 3 5 4 9 14 49 bz5))))
def bG9:aO prog f102 cT [.v (some 4),.v (some 4)]=ch9:=aT
def by4:Tr:=eO 136 [G4 0] [some 2] [6] [49] 47 true bw8
def cm0:Tr:=RW 183 4 by4
def ca6:aO prog f105 cT [.v (some 4)]=cm0:=aT
def cu4:Tr:=RW 148 4 by4
def bV3:aO prog f60 cT [.v (some 4)]=cu4:=aT
def cz6:Tr:=ot 136 1 2 7 47 (zP 135 0 2 6 8 47 (ot 136 0 2 12 47 (uw 135 1 4 2 11 13 47 (eO 134 [G2 3,G2 5] [none] [9,14] [47,47] 3 true (cC 6)))))
def cf7:aO prog f47 cT [.v (some 4),.v (some 4)]=cz6:=aT
def cn6:Tr:=cC 0
def be3:aO prog f46 cT [.v (some 4)]=cn6:=aT
structure RQ where
 q:Rat
 z:Bool
 h:z=true->q=0
def RQ.of(q:Rat):RQ:=⟨q,false,fun h=>by cases h⟩
def RQ.nil:RQ:=⟨0,true,fun _=>rfl⟩
abbrev rC(a:RQ):List aE:=[.int .i64 a.q.num.sign,bT a.q.num.natAbs,.int .i64 (if a.z then 0 else 1),bT (if a.z then 0 else a.q.den)]
abbrev oU(a:RQ):aF:=.agg (rC a)
def RQ.aJ2(q:Rat):(RQ.of q).q=q:=rfl
def bQ2(q:Rat):zT (q.den:Int)=.agg [.int .i64 1,bT q.den]:=XM q.den_pos
def AQ:au aE.Sub [.int .i64 0,.exact (.slice none 0 0),.int .i64 0,.exact (.slice none 0 0)] (rC RQ.nil):=⟨aE.Sub.same,tG rfl,aE.Sub.same,tG rfl,trivial⟩
def nQ(a:RQ):aK prog 136 [(oU a:aF)] (.ret [zT (a.q.den:Int)]):=by
 refine dB func136 cc5 ?_;refine uS bA ?_ ?_<;>intro h1
 .have ha:a.z=true:=by cases h:a.z<;>simp_all
  have hq:=a.h ha;apply aA (rk 1);dsimp only[aP,aQ];rw[hq];exact aN
 have ha:a.z=false:=by cases h:a.z<;>simp_all
 refine aN ?_;rw[bQ2];show[aF.agg [.int .i64 (if a.z then 0 else 1),bT (if a.z then 0 else a.q.den)]]=_;rw[ha];rfl
def jM{n B:Nat}(h:n<2^B):(bd n).length<=B:=mA (bt h (gN O B))
def xk(n d:Int):Rat:=mkRat (if d<0 then -n else n) d.natAbs
def br6{z:Int}{d:Nat}(hd:d≠0:=by omega):(mkRat z d).num=z/((z.natAbs.gcd d:Nat):Int)/\(mkRat z d).den=d/z.natAbs.gcd d/\(mkRat z d).num.natAbs=z.natAbs/z.natAbs.gcd d/\(mkRat z d).num.sign=z.sign:=by
 obtain⟨h1,h2⟩:=aI4 (z:=z) hd;have hg:0<z.natAbs.gcd d:=An _ O;have hgz:z≠0->z.natAbs.gcd d<=z.natAbs:=fun h=>Nat.gcd_le_left _ O
 have h3:(mkRat z d).num.natAbs=z.natAbs/z.natAbs.gcd d:=by
  rw[h1];generalize z.natAbs/z.natAbs.gcd d=t;split<;>omega
 refine⟨?_,h2,h3,?_⟩
 .rw[<-Fv hd,Gi hd]
 .rcases dG z with⟨h,e⟩ | ⟨h,e⟩ | ⟨h,e⟩
  .rw[e,h1,gJ h,aI rfl];have:=sF (hgz O) hg;exact pP O
  .rw[e];subst h;rw[Rat.zero_mkRat];rfl
  .rw[e,h1,ej O,aD bY];have:=sF (hgz O) hg;exact fY O
def zd{g:Nat}(h:(bd g).length=1){x:Nat}(hx:(bd g)[0]?=some x):g=x:=by
 match hb:bd g,h with
 | [y],_=>
   rw[hb]at hx;simp only[nL,aM]at hx;subst hx;rw[<-il g,hb,Ff];simp[bv,val]
def AH{q:Rat}:oU (RQ.of q)=.agg [.int .i64 q.num.sign,bT q.num.natAbs,.int .i64 1,bT q.den]:=rfl
def Be(n d:Int)(hd:d≠0)(hs2:(bd d.natAbs).length<8589934592:=by omega)(hs:(bd n.natAbs).length<8589934592:=by omega):aK prog 137 [(zT n:aF),(zT d:aF)] (.ret [oU (.of (xk n d))]):=by
 refine dB func137 av6 ?_;have hsd:=dG d
 have key:∀m:Int,m.natAbs=n.natAbs->xk n d=mkRat m d.natAbs->(xk n d).den=d.natAbs/Nat.gcd n.natAbs d.natAbs/\(xk n d).num.natAbs=n.natAbs/Nat.gcd n.natAbs d.natAbs/\(xk n d).num.sign=m.sign:=fun m hm e=>by
  have:=br6 (z:=m) (d:=d.natAbs);rw[hm]at this;rw[e];exact⟨this.2.1,this.2.2.1,this.2.2.2⟩
 have hg:0<Nat.gcd n.natAbs d.natAbs:=An _ O;have hgd:Nat.gcd n.natAbs d.natAbs<=d.natAbs:=Nat.gcd_le_right _ O;have hgl:=iD hgd;have hdg:=sF hgd hg;have hnl:=iD (oA n.natAbs (Nat.gcd n.natAbs d.natAbs));have hdl:=iD (oA d.natAbs (Nat.gcd n.natAbs d.natAbs));refine uS az ?_ ?_<;>intro h1
 .have hd0:d<0:=by rcases hsd with⟨h,e⟩ | ⟨h,e⟩ | ⟨h,e⟩<;>omega
  have hR:xk n d=mkRat (-n) d.natAbs:=by rw[xk,aI hd0]
  obtain⟨k1,k2,k3⟩:=key (-n) (iC n) hR;generalize xk n d=q at *;apply aA (Gs n);apply aA (Gs d);dsimp only[aP,aQ];have hc:=YY (-n) (-d) (by rw[iC];omega) (by rw[iC];omega);rw[iC,iC]at hc;apply aA hc;generalize hG:Nat.gcd n.natAbs d.natAbs=g at *;apply vn (aZ gZ (aX _));refine uS bA ?_ ?_<;>intro h7
  .obtain⟨x,hx⟩:∃x,(bd g)[0]?=some x:=⟨_,bU (by rw[cH]at h7;omega)⟩
   apply vn (aY gZ (show(bd ((g:Int)).natAbs)[0]?=some x from hx));apply vn (bI YF);refine uS bA ?_ ?_<;>intro h11
   .have hg1:g=1:=by
     have:=zd (g:=g) (by rw[cH]at h7;omega) hx;omega
    rw[hg1,rO]at k1 k2;refine aN ?_;rw[AH,k3,k2,k1];show[aF.agg [.int .i64 (-n).sign,bT (-n).natAbs,.int .i64 (-d).sign,bT (-d).natAbs]]=_;rw[iC,iC,fY (show 0 < -d by omega)]
   have ho1:=mf n.natAbs g hg;have ho2:=mf d.natAbs g hg;rw[<-k2]at ho1 hnl;rw[<-k1]at ho2 hdl hdg;have hn':(-n).natAbs=n.natAbs:=iC n;have hd':(-d).natAbs=d.natAbs:=iC d;rw[<-hn']at ho1;rw[<-hd']at ho2;apply aA ho1;apply aA ho2;dsimp only[aP,aQ];apply aA (jG (-n).sign q.num _ (kr _) (by rw[il]) (fun _=>k3));apply aA (jG 1 (q.den:Int) _ (kr _) (by rw[il];rfl) (fun _=>fY O)) rfl;dsimp only[aP,aQ];refine aN ?_;rw[AH];show[aF.agg [.int .i64 q.num.sign,bT q.num.natAbs,.int .i64 (q.den:Int).sign,bT (q.den:Int).natAbs]]=_;rw[fY (show(0:Int)<q.den by omega),cH]
  have ho1:=mf n.natAbs g hg;have ho2:=mf d.natAbs g hg;rw[<-k2]at ho1 hnl;rw[<-k1]at ho2 hdl hdg;have hn':(-n).natAbs=n.natAbs:=iC n;have hd':(-d).natAbs=d.natAbs:=iC d;rw[<-hn']at ho1;rw[<-hd']at ho2;apply aA ho1;apply aA ho2;apply aA (jG (-n).sign q.num _ (kr _) (by rw[il]) (fun _=>k3));apply aA (jG 1 (q.den:Int) _ (kr _) (by rw[il];rfl) (fun _=>fY O)) rfl;dsimp only[aP,aQ];refine aN ?_;rw[AH];show[aF.agg [.int .i64 q.num.sign,bT q.num.natAbs,.int .i64 (q.den:Int).sign,bT (q.den:Int).natAbs]]=_;rw[fY (show(0:Int)<q.den by omega),cH]
 have hd0:0<d:=by rcases hsd with⟨h,e⟩ | ⟨h,e⟩ | ⟨h,e⟩<;>omega
 have hR:xk n d=mkRat n d.natAbs:=by rw[xk,aD O]
 obtain⟨k1,k2,k3⟩:=key n rfl hR;generalize xk n d=q at *;have hc:=YY n d;apply aA hc;generalize hG:Nat.gcd n.natAbs d.natAbs=g at *;apply vn (aZ gZ (aX _));refine uS bA ?_ ?_<;>intro h26
 .obtain⟨x,hx⟩:∃x,(bd g)[0]?=some x:=⟨_,bU (by rw[cH]at h26;omega)⟩
  apply vn (aY gZ (show(bd ((g:Int)).natAbs)[0]?=some x from hx));apply vn (bI YF);refine uS bA ?_ ?_<;>intro h30
  .have hg1:g=1:=by
    have:=zd (g:=g) (by rw[cH]at h26;omega) hx;omega
   rw[hg1,rO]at k1 k2;refine aN ?_;rw[AH,k3,k2,k1];show[aF.agg [.int .i64 n.sign,bT n.natAbs,.int .i64 d.sign,bT d.natAbs]]=_;rw[fY (show 0<d by omega)]
  have ho1:=mf n.natAbs g hg;have ho2:=mf d.natAbs g hg;rw[<-k2]at ho1 hnl;rw[<-k1]at ho2 hdl hdg;apply aA ho1;apply aA ho2;dsimp only[aP,aQ];apply aA (jG n.sign q.num _ (kr _) (by rw[il]) (fun _=>k3));apply aA (jG 1 (q.den:Int) _ (kr _) (by rw[il];rfl) (fun _=>fY O)) rfl;dsimp only[aP,aQ];refine aN ?_;rw[AH];show[aF.agg [.int .i64 q.num.sign,bT q.num.natAbs,.int .i64 (q.den:Int).sign,bT (q.den:Int).natAbs]]=_;rw[fY (show(0:Int)<q.den by omega),cH]
 have ho1:=mf n.natAbs g hg;have ho2:=mf d.natAbs g hg;rw[<-k2]at ho1 hnl;rw[<-k1]at ho2 hdl hdg;apply aA ho1;apply aA ho2;apply aA (jG n.sign q.num _ (kr _) (by rw[il]) (fun _=>k3));apply aA (jG 1 (q.den:Int) _ (kr _) (by rw[il];rfl) (fun _=>fY O)) rfl;dsimp only[aP,aQ];refine aN ?_;rw[AH];show[aF.agg [.int .i64 q.num.sign,bT q.num.natAbs,.int .i64 (q.den:Int).sign,bT (q.den:Int).natAbs]]=_;rw[fY (show(0:Int)<q.den by omega),cH]
def VN{n:Int}{d:Nat}:xk n (d:Int)=mkRat n d:=by
 rw[xk,aD O,cH]
def UZ{a b:Rat}(hb:b≠0):xk (a.num*(b.den:Int)) ((a.den:Int)*b.num)=a/b:=by
 have hn:b.num≠0:=fun e=>hb (lM.1 e);have ha:=a.den_pos;rw[<-aJ5 hb,xk,dx,cH];by_cases h:b.num<0
 .rw[aI (Int.mul_neg_of_pos_of_neg O h),gJ h,aI rfl,Int.mul_neg]
 .rw[aD (by have:=tw (show(0:Int)<=a.den by omega) (show 0<=b.num by omega);omega),ej h,aD bY]
def bs9{n d:Int}(hd:d≠0):xk n d=(n:Rat)/(d:Rat):=by
 have h:=UZ (a:=(n:Rat)) (b:=(d:Rat)) (by rw[Ne,<-lM,jB];exact hd);rw[jB,jB,pF,pF]at h;rw[<-h];congr 1<;>omega
def Fit.bd{B:Nat}{q:Rat}(h:Fit B q):(bd q.num.natAbs).length<=B/\(bd q.den).length<=B:=⟨jM h.1,jM h.2⟩
def nN(n:Int)(h1:-9223372036854775808<=n:=by omega)(h2:n<9223372036854775808:=by omega):aK prog 50 [(.one (.int .i64 n):aF)] (.ret [oU (.of (n:Rat))]):=by
 refine dB func50 bL8 ?_;apply aA (rk n h1 h2);apply aA (rk 1);dsimp only[aP,aQ];rw[AH,jB,pF];exact aN
def aF7(n d:Int)(h1:-9223372036854775808<=n:=by omega)(h2:n<9223372036854775808:=by omega)(hd:d≠0:=by omega)(h3:-9223372036854775808<=d:=by omega)(h4:d<9223372036854775808:=by omega):aK prog 79 [(.one (.int .i64 n):aF),(.one (.int .i64 d):aF)] (.ret [oU (.of ((n:Rat)/(d:Rat)))]):=by
 refine dB func79 cD0 ?_;apply aA (rk n h1 h2);apply aA (rk d h3 h4);dsimp only[aP,aQ];have hn:=jM (n:=n.natAbs) (B:=64) O;have hdd:=jM (n:=d.natAbs) (B:=64) O;apply aA (Be n d hd);rw[bs9 hd];exact aN
def bP9(a:RQ):aK prog 105 [(oU a:aF)] (.ret [oU (.of (-a.q))]):=by
 refine dB func105 ca6 ?_;apply aA (Gs a.q.num);apply aA (nQ a);dsimp only[aP,aQ];refine aN ?_;rw[AH,Gq,Ft];show[aF.agg [.int .i64 (-a.q.num).sign,bT (-a.q.num).natAbs,.int .i64 (a.q.den:Int).sign,bT (a.q.den:Int).natAbs]]=_;have:=a.q.den_pos;rw[fY (show(0:Int)<a.q.den by omega),cH]
def BF(a:RQ):aK prog 60 [(oU a:aF)] (.ret [oU (.of a.q.abs)]):=by
 refine dB func60 bV3 ?_;apply aA (YQ a.q.num);apply aA (nQ a);dsimp only[aP,aQ];refine aN ?_;rw[AH,(ov a.q).1,(ov a.q).2];show[aF.agg [.int .i64 ((a.q.num.natAbs:Nat):Int).sign,bT ((a.q.num.natAbs:Nat):Int).natAbs,.int .i64 (a.q.den:Int).sign,bT (a.q.den:Int).natAbs]]=_;have:=a.q.den_pos;rw[fY (show(0:Int)<a.q.den by omega)];simp only[cH]
def bf0(a:RQ):aK prog 46 [(oU a:aF)] (.ret [.one (.int .i64 a.q.num.sign)]):=by
 refine dB func46 be3 ?_;exact aN
def ud(a b:RQ)(A B:Nat)(ha:Fit A a.q)(hb:Fit B b.q)(h:A+B<=4294967296:=by omega):aK prog 104 [(oU a:aF),(oU b:aF)] (.ret [oU (.of (a.q*b.q))]):=by
 refine dB func104 bT4 ?_;obtain⟨ha1,ha2⟩:=Fit.bd ha;obtain⟨hb1,hb2⟩:=Fit.bd hb;have hn:=jM (bR ha.1 hb.1);have hd:=jM (bR ha.2 hb.2);have hpa:=a.q.den_pos;have hpb:=b.q.den_pos;apply aA (mS a.q.num b.q.num);apply aA (nQ a);apply aA (nQ b);apply aA (mS (a.q.den:Int) (b.q.den:Int) (by rw[cH,cH];omega)) rfl;rw[<-iK];apply aA (Be _ ((a.q.den*b.q.den:Nat):Int) (by have:=dN hpa hpb;omega) (by rw[cH];omega) (by rw[dx];omega)) rfl;rw[VN,<-FY];exact aN
def wG(a b:RQ)(A B:Nat)(ha:Fit A a.q)(hb:Fit B b.q)(h:A+B<=4294967296:=by omega):aK prog 48 [(oU a:aF),(oU b:aF)] (.ret [oU (.of (a.q+b.q))]):=by
 refine dB func48 cf6 ?_;obtain⟨ha1,ha2⟩:=Fit.bd ha;obtain⟨hb1,hb2⟩:=Fit.bd hb;have hn1:=jM (bR ha.1 hb.2);have hn2:=jM (bR hb.1 ha.2);have hd:=jM (bR ha.2 hb.2);have hpa:=a.q.den_pos;have hpb:=b.q.den_pos
 have hsum:(bd (a.q.num*(b.q.den:Int)+b.q.num*(a.q.den:Int)).natAbs).length<=A+B+1:=by
  apply jM;have h1:=bR ha.1 hb.2;have h2:=bR hb.1 ha.2;rw[iB B A]at h2;rw[bF];refine cV (FG _ _) ?_;rw[dx,dx,cH,cH];omega
 apply aA (nQ b);apply aA (mS a.q.num (b.q.den:Int) (by rw[cH];omega)) rfl;apply aA (nQ a);apply aA (mS b.q.num (a.q.den:Int) (by rw[cH];omega)) rfl;apply aA (YW _ _ (by rw[dx,cH];omega) (by rw[dx,cH];omega)) rfl;apply aA (nQ a);apply aA (nQ b);apply aA (mS (a.q.den:Int) (b.q.den:Int) (by rw[cH,cH];omega)) rfl;rw[<-iK a.q.den b.q.den];dsimp only[aP,aQ];apply aA (Be _ ((a.q.den*b.q.den:Nat):Int) (by have:=dN hpa hpb;omega) (by rw[cH];omega)) rfl;rw[VN,<-RM];exact aN
def aH8(a b:RQ)(A B:Nat)(ha:Fit A a.q)(hb:Fit B b.q)(h:A+B<=4294967296:=by omega):aK prog 141 [(oU a:aF),(oU b:aF)] (.ret [oU (.of (a.q-b.q))]):=by
 refine dB func141 cf5 ?_;apply aA (bP9 b);apply aA (wG a (.of (-b.q)) A B ha hb.neg h);rw[RQ.aJ2,<-AJ];exact aN
def av9(a b:RQ)(A B:Nat)(hb0:b.q≠0)(ha:Fit A a.q)(hb:Fit B b.q)(h:A+B<=4294967296:=by omega):aK prog 102 [(oU a:aF),(oU b:aF)] (.ret [oU (.of (a.q/b.q))]):=by
 refine dB func102 bG9 ?_;obtain⟨ha1,ha2⟩:=Fit.bd ha;obtain⟨hb1,hb2⟩:=Fit.bd hb;have hn:=jM (bR ha.1 hb.2);have hd:=jM (bR ha.2 hb.1);have hpa:=a.q.den_pos;have hnb:b.q.num≠0:=fun e=>hb0 (lM.1 e);apply aA (nQ b);apply aA (mS a.q.num (b.q.den:Int) (by rw[cH];omega)) rfl;apply aA (nQ a);apply aA (mS (a.q.den:Int) b.q.num (by rw[cH];omega)) rfl;apply aA (Be _ _ (Int.mul_ne_zero O hnb) (by rw[dx,cH];omega) (by rw[dx,cH];omega)) rfl;rw[UZ hb0];exact aN
def PQ(a b:RQ)(A B:Nat)(ha:Fit A a.q)(hb:Fit B b.q)(h:A+B<=4294967296:=by omega):aK prog 47 [(oU a:aF),(oU b:aF)] (.ret [.one (.int .i64 (mF a.q b.q))]):=by
 refine dB func47 cf7 ?_;obtain⟨ha1,ha2⟩:=Fit.bd ha;obtain⟨hb1,hb2⟩:=Fit.bd hb;have hn1:=jM (bR ha.1 hb.2);have hn2:=jM (bR hb.1 ha.2);apply aA (nQ b);apply aA (mS a.q.num (b.q.den:Int) (by rw[cH];omega)) rfl;apply aA (nQ a);apply aA (mS b.q.num (a.q.den:Int) (by rw[cH];omega)) rfl;apply aA (aY4 _ _ (by rw[dx,cH];omega) (by rw[dx,cH];omega)) rfl;rw[<-Ch];exact aN
end Go.Sy
