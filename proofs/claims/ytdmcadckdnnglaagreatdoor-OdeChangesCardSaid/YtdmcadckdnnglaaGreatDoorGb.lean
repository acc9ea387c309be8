/- Part. -/
import Derived.Test.YtdmcadckdnnglaaGreatDoorYa
set_option linter.all false
namespace Go.Sy
open Go Go.Proofs Tryz Ord
def bL0:Tr:=ag5 0 40 6 (og 68 1 3 2 39 (eV 2 1 40 8 9 (OO 2 1 3 11 10 (yU 3 4))))
def bd3:aO prog f266 cT [.v none,.v none]=bL0:=aT
def ab(n i:Nat):List Rat:=(List.replicate n 0).set i 1
def bd4(n i:Nat):au (au aE.Sub) ((List.replicate n z3).set i (qC 1)) ((ab n i).map qC):=by
 rw[ab,xj,rn];exact zt ⟨aE.Sub.same,aE.Sub.same,aE.Sub.same,trivial⟩ _ (vr fg n)
def bv9(n i:Nat)(hi:i<n)(hn:n<=64):aK prog 266 [(.one (.int .i64 n):aF),(.one (.int .i64 i):aF)] (.ret [.one (sQ (ab n i))]):=by
 refine dB func266 bd3 ?_;refine vz (n:=n) (m:=n) (us:=List.replicate n z3) rfl rfl rfl (ah _) O (by simp only[maxLen];omega) ?_;apply aA (ph 1);refine qP rfl rfl O (by rw[lH];omega) ?_;refine BE (ts:=List.replicate n z3) (us:=(List.replicate n z3).set i (qC 1)) rfl rfl O (cells:=z3) (by rw[bV,Bn,aI O]) (by rw[bV];rfl) ?_;exact eD ⟨aE.Sub.slice (bd4 n i),trivial⟩
def PC(n i:Nat):(ab n i).length=n:=by simp[ab]
def cg9:Tr:=aJ 8 0 (eO 133 [W 0 0,W 2 0,W 7 0,G3 3] [some 3] [13,14,15,16] [194,3,3,39] 39 false (eO 38 [G3 9,G3 4] [none] [17,18] [39,39] 3 true (ia 10 0 0 3 19 (aJ 11 0 (hx137Q ) (bX 7 1 3 10 (kA 0 6 12)))))) (.ret [tF true])
def bX3:Tr:=bX 1 1 3 8 (Rm (dW 7 5 0 3 10 9 4 cg9))
def Wv:aO prog f267 cT [.v none,.ref 1,.ref 1,.ref 3,.ref 3]=bX3:=aT
def nh(b aB:Rat)(n:Nat)(r goal:Rat)(d:Nat):Bool:=(List.range (d+1)).all fun i=>decide (fM b aB n i r<=goal)
set_option maxHeartbeats 1000000 in
def Xj(a0 a1 a2 a3 a4:aE)(aB:Rat)(st:Int)(y a:j1)(b:Rat)(n d:Nat)(r goal:Rat)(B G:Nat)(C:∀i,i<=d->oj B aB n i r)(hn:n<1099511627776)(hd:d<=n)(h0:aB≠0)(hb:Fit B b)(hB:B<=1073741824)(h64:64<=B)(hs1:∀i,i<=d->cP aB n i r<1)(hgf:Fit G goal)(hG:G<=1073741824)(htf:∀i,i<=d->Fit G (fM b aB n i r)):aK prog 267 [(.one (.aW (Zi [a0,a1,a2,a3,a4] aB st y a b)):aF),(.one (.aW ([.int .i64 d])):aF),(.one (.aW ([.int .i64 n])):aF),(.one (.aW (qC r)):aF),(.one (.aW (qC goal)):aF)] (.ret [.one (.bool (nh b aB n r goal d))]):=by
 refine dvr (ins:=[.v (.one (.aW (Zi [a0,a1,a2,a3,a4] aB st y a b))),.ref ([.int .i64 d]),.ref ([.int .i64 n]),.ref (qC r),.ref (qC goal)]) func267 Wv ?_;apply vn aC;refine bC {i:Nat // i<=d+1/\∀j,j<i->fM b aB n j r<=goal} (fun g=>[.one (.bool false),.one (.int .i64 g.1)]) (fun g=>d+1-g.1) ⟨0,cG _,fun j hj=>O⟩ aR.rfl (fun _=>rfl) ?_;rintro⟨i,hi,hle⟩;dsimp only[aP,aQ]at hi hle|-;refine uS az ?_ ?_<;>intro h3
 .apply aA (EX a0 a1 a2 a3 a4 aB st y a b n i r B (C i O) h0 hb (hs1 i O) hn h64);apply aA (ma _ _ G G (htf i O) hgf);refine uS fL ?_ ?_<;>intro h7
  .rw[show nh b aB n r goal d=false from by
    rw[nh,List.all_eq_false];exact⟨i,gO.2 O,by rw[fH];exact fun h=>absurd (ic.2 h) O⟩];exact aN
  apply vn aC
  exact aa rfl ⟨⟨i+1,O,fun j hj=>by
   rcases bG j i with h | h
   .exact hle j h
   .rw[show j=i by omega];exact ic.1 O⟩,aR.rfl,by show d+1-(i+1)<d+1-i;omega⟩
 rw[show nh b aB n r goal d=true from by
  rw[nh,gM];exact fun j hj=>gJ (hle j (by rw[gO]at hj;omega))];exact aN
def bY5:Tr:=yQ 0 0 0 1 2
def cJ8:aO prog f227 cT [.v (some 3)]=bY5:=aT
def ba9(a:Rat):aK prog 227 [(qT a:aF)] (.ret [kP a a]):=by
 refine dB func227 cJ8 ?_;exact aN
def bb6(n l:Nat):∀q∈ab n l,Bd (fZ 999) 999 q:=fun q hq=>by
 rcases xC hq with h | rfl
 .rw[(pC.1 h).2];exact Bd.zero
 .exact Bd.one O
section
variable{E:j0}{ER:List (List RQ)}{X:Rat}{XR:RQ}
def SmallX.ag0(h:SmallX E ER X XR)(hr:jO E X)(l:Nat):bG0 (aV E X) (E.length-1) (aG E X) (ab (E.length-1) l) (dX X) sM (fZ 999) 999 101:=by
 obtain⟨h2,h5,hld,_⟩:=hr.facts;have hm:=h.bv3;obtain⟨p,hp,hp0⟩:=uE hld;exact⟨zN X,tp _,bK5,O,O,hm,(hm p (cj hp)).2 _ (cj hp0),hld,bb6 _ _,by rw[aV,aX];omega⟩
def SmallX.stU(h:SmallX E ER X XR)(hr:jO E X)(l:Nat){N:Nat}(hN:N<=4096)(h8:8<=N):jy (bN N) (aV E X) (E.length-1) (aG E X) (ab (E.length-1) l) N:=by
 have h5:=hr.facts.2.1;exact am1 (h.ag0 hr l) (cd8 h.xb hN _)
def UP:Nat:=bN 4096
def SmallX.FO(h:SmallX E ER X XR)(hr:jO E X)(l:Nat):jy UP (aV E X) (E.length-1) (aG E X) (ab (E.length-1) l) 4096:=h.stU hr l O O
end
section
variable{E:j0}{ER:List (List RQ)}{X:Rat}{XR:RQ}
end
def ta{x y p q:Rat}(hp:0<p)(hq:0<q)(h:x*q<=y*p):x/p<=y/q:=by
 have hp0:p≠0:=e9
 have hq0:q≠0:=e9
 have h1:x/p*p=x:=di hp0;have h2:y/q*q=y:=di hq0;refine wq (c:=p*q) ?_ (FB hp hq);have e1:p*q*(x/p)=x*q:=by rw[show p*q*(x/p)=x/p*p*q by grind,h1]
 have e2:p*q*(y/q)=y*p:=by rw[show p*q*(y/q)=y/q*q*p by grind,h2]
 rw[e1,e2];exact h
def oZ{x p:Rat}(hx:0<=x)(hp:0<p):0<=x/p:=by
 have:=ta (x:=0) (y:=x) hp hp (by rw[pO];exact af hx e9)
 rwa[show(0:Rat)/p=0 by grind]at this
theorem Pr(z:Int):∀d:Nat,bB (z+1) d*(z+1-d)=bB z d*(z+1)
 | 0=>by simp[bB]
 | d+1=>by
   have ih:=Pr z d
   rw[bB,bB,ih,show bB z d*(z+1)*(z+1-((d+1:Nat):Int))=bB z d*(z-d)*(z+1) by
    rw[show z+1-((d+1:Nat):Int)=z-d by omega,zX,zX,xZ (z+1)]]
theorem zx{n:Nat}:∀d:Nat,d<=n->0<=bB (n:Int) d
 | 0,_=>by simp[bB]
 | d+1,h=>by
   rw[bB];exact tw (zx d O) O
def LU(aB:Rat)(n d:Nat)(r:Rat):Rat:=((bB n d:Int):Rat)*r^(n-d)/aB^n
def YP{aB r:Rat}{n d:Nat}(h0:0<aB)(hd:d<=n):LU aB (n+1) d r=LU aB n d r*cP aB n d r:=by
 have hp:aB^n≠0:=by have:=dk (n:=n) h0;grind
 have hq:aB≠0:=e9
 have hz:((((n:Int)+1-d:Int)):Rat)≠0:=am4 O
 have e:(((bB ((n+1:Nat):Int) d:Int)):Rat)*((((n:Int)+1-d:Int)):Rat)=((bB n d:Int):Rat)*((((n:Int)+1:Int)):Rat):=by
  rw[<-uj,<-uj,<-Pr];rfl
 unfold LU cP;rw[show n+1-d=(n-d)+1 by omega,bE,bE];generalize (((bB ((n+1:Nat):Int) d:Int)):Rat)=f1 at *;generalize ((bB n d:Int):Rat)=f0 at *;generalize ((((n:Int)+1-d:Int)):Rat)=z at *;generalize ((((n:Int)+1:Int)):Rat)=w at *;generalize aB^n=p at *;generalize r^(n-d)=q at *;have e2:f1=f0*w/z:=e9
 rw[e2];grind
def KM{aB r:Rat}{n d:Nat}(h0:0<aB)(hr:0<=r)(hd:d<=n):cP aB ((n+1:Nat):Int) d r<=cP aB n d r/\0<=cP aB n d r:=by
 have hz1:(0:Rat)<((((n+1:Nat):Int)+1-d:Int):Rat):=rZ.2 O;have hz0:(0:Rat)<(((n:Int)+1-d:Int):Rat):=rZ.2 O;have hq:=oZ hr h0;refine⟨?_,?_⟩
 .unfold cP;refine eL (ta hz1 hz0 ?_) hq;rw[<-uj,<-uj];refine rP.2 ?_
  have h1:(((n+1:Nat):Int)+1)*((n:Int)+1-d)=((n:Int)+2)*((n:Int)+1)-((n:Int)+2)*d:=by
   rw[show((n+1:Nat):Int)+1=(n:Int)+2 by omega,Int.mul_sub]
  have h2:((n:Int)+1)*(((n+1:Nat):Int)+1-d)=((n:Int)+2)*((n:Int)+1)-((n:Int)+1)*d:=by
   rw[show((n+1:Nat):Int)+1=(n:Int)+2 by omega,Int.mul_sub,xZ ((n:Int)+1) ((n:Int)+2)]
  rw[h1,h2];have h3:((n:Int)+2)*d=((n:Int)+1)*d+d:=by rw[show(n:Int)+2=(n:Int)+1+1 by omega,Fp ((n:Int)+1) 1,Fw]
  omega
 .unfold cP;exact af (oZ (uH.2 O) hz0) hq
def uW{b aB r:Rat}{n d:Nat}(hb:0<=b)(h0:0<aB)(hr:0<=r)(h1:cP aB n d r<1)(hd:d<=n:=by omega):fM b aB (n+1) d r<=fM b aB n d r/\cP aB ((n+1:Nat):Int) d r<1:=by
 obtain⟨hs,hs0⟩:=KM (d:=d) h0 hr hd;have hu:=YP (r:=r) h0 hd;have hu0:0<=LU aB n d r:=oZ (af (uH.2 (zx d hd)) (Fe hr)) (dk h0);have hbu:=af hb hu0;refine⟨?_,e9⟩;have t1:fM b aB (n+1) d r=b*LU aB (n+1) d r/(((1:Int):Rat)-cP aB ((n+1:Nat):Int) d r):=rfl;have t0:fM b aB n d r=b*LU aB n d r/(((1:Int):Rat)-cP aB n d r):=rfl;rw[t1,t0,hu];have one:((1:Int):Rat)=1:=iN
 rw[one];generalize cP aB ((n+1:Nat):Int) d r=s1 at *;generalize cP aB n d r=s0 at *;generalize LU aB n d r=u at *;refine ta e9 e9 ?_
 have k1:b*(u*s0)<=b*u:=by
  have:=eC (a:=s0) (b:=1) (c:=b*u) e9 hbu
  grind
 have k2:0<=1-s0:=e9
 have k3:=eL k1 k2;have k4:=eC (a:=1-s0) (b:=1-s1) (c:=b*u) e9 hbu
 grind
end Go.Sy
