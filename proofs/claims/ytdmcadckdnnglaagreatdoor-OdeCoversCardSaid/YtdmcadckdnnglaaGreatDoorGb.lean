/- Part. -/
import Derived.Test.YtdmcadckdnnglaaGreatDoorYa
set_option linter.all false
namespace Go.Sy
open Go Go.Proofs Tryz Ord
def aX9:Tr:=SH 0 40 6 (lX 68 1 3 2 39 (dL 2 1 40 8 9 (Io 2 1 3 11 10 (uw 3 4))))
def ar6:aM prog f266 bZ [.v none,.v none]=aX9:=by kernel_rfl
def aX(n i:Nat):List Rat:=(List.replicate n 0).set i 1
def ar8(n i:Nat):ae (ae aE.Sub) ((List.replicate n z3).set i (qC 1)) ((aX n i).map qC):=by
 rw[aX,tZ,sK];exact wF ⟨aE.Sub.same,aE.Sub.same,aE.Sub.same,trivial⟩ _ (sA db n)
def aJ5(n i:Nat)(hi:i<n)(hn:n<=64):aL prog 266 [(.one (.int .i64 n):aG),(.one (.int .i64 i):aG)] (.ret [.one (sQ (aX n i))]):=by
 refine bw func266 ar6 ?_;refine sJ (n:=n) (m:=n) (us:=List.replicate n z3) rfl rfl rfl (aY _) O (by simp only[maxLen];omega) ?_;apply aA (mN 1);refine mq rfl rfl O (by rw[my];omega) ?_;refine yx (ts:=List.replicate n z3) (us:=(List.replicate n z3).set i (qC 1)) rfl rfl O (cells:=z3) (by rw[cS,wc,if_pos O]) (by rw[cS];rfl) ?_;exact dJ ⟨aE.Sub.slice (ar8 n i),trivial⟩
def bk8:Tr:=dV 43 [(W 0 0),(G4 1)] [(some 4),none] [8,9] [44,49] 87 false (jb 3 0 24 3 13 (bI 4))
def YX:aM prog f58 bZ [.v none,.v (some 4)]=bk8:=by kernel_rfl
def Jd(n i:Nat):(aX n i).length=n:=by simp[aX]
def bt6:Tr:=aH 8 0 (dV 133 [(W 0 0),(W 2 0),(W 7 0),(G3 3)] [(some 3)] [13,14,15,16] [194,3,3,39] 39 false (dV 38 [(G3 9),(G3 4)] [none] [17,18] [39,39] 3 true (fL 10 0 0 3 19 (aH 11 0 (hx163Q ) (bD 7 1 3 10 (jj 0 6 12)))))) (.ret [(tF true)])
def bj9:Tr:=bD 1 1 3 8 (Qj (cU 7 5 0 3 10 9 4 bt6))
def PO:aM prog f267 bZ [.v none,.ref 1,.ref 1,.ref 3,.ref 3]=bj9:=by kernel_rfl
def lp(b aB:Rat)(n:Nat)(r goal:Rat)(d:Nat):Bool:=(List.range (d+1)).all fun i=>decide (eI b aB n i r<=goal)
set_option maxHeartbeats 1000000 in
def Qx(a0 a1 a2 a3 a4:aE)(aB:Rat)(st:Int)(y a:List Rat)(b:Rat)(n d:Nat)(r goal:Rat)(B G:Nat)(C:∀i,i<=d->lS B aB n i r)(hn:n<1099511627776)(hd:d<=n)(h0:aB≠0)(hb:Fit B b)(hB:B<=1073741824)(h64:64<=B)(hs1:∀i,i<=d->bh aB n i r<1)(hgf:Fit G goal)(hG:G<=1073741824)(htf:∀i,i<=d->Fit G (eI b aB n i r)):aL prog 267 [(.one (.aj (SX [a0,a1,a2,a3,a4] aB st y a b)):aG),(.one (.aj ([.int .i64 d])):aG),(.one (.aj ([.int .i64 n])):aG),(.one (.aj (qC r)):aG),(.one (.aj (qC goal)):aG)] (.ret [.one (.bool (lp b aB n r goal d))]):=by
 refine dvr (ins:=[.v (.one (.aj (SX [a0,a1,a2,a3,a4] aB st y a b))),.ref ([.int .i64 d]),.ref ([.int .i64 n]),.ref (qC r),.ref (qC goal)]) func267 PO ?_;apply vn aC;refine ao {i:Nat // i<=d+1/\∀j,j<i->eI b aB n j r<=goal} (fun g=>[.one (.bool false),.one (.int .i64 g.1)]) (fun g=>d+1-g.1) ⟨0,bO _,fun j hj=>O⟩ aQ.rfl (fun _=>rfl) ?_;rintro⟨i,hi,hle⟩;dsimp only[aO,aP]at hi hle|-;apply vn ak;refine vs _ rfl ?_ ?_<;>intro h3
 ·apply aA (Br a0 a1 a2 a3 a4 aB st y a b n i r B (C i O) h0 hb (hs1 i O) hn h64);apply aA (pN _ _ G G (htf i O) hgf);apply vn dZ;refine vs _ rfl ?_ ?_<;>intro h7
  ·rw[show lp b aB n r goal d=false from by
    rw[lp,List.all_eq_false];exact⟨i,jk.2 O,by rw[dx];exact fun h=>absurd (kM.2 h) O⟩];exact aK
  apply vn aC
  exact aW rfl ⟨⟨i+1,O,fun j hj=>by
   rcases Nat.lt_or_ge j i with h | h
   ·exact hle j h
   ·rw[show j=i by omega];exact kM.1 O⟩,aQ.rfl,by show d+1-(i+1)<d+1-i;omega⟩
 rw[show lp b aB n r goal d=true from by
  rw[lp,fS];exact fun j hj=>iV (hle j (by rw[jk]at hj;omega))];exact aK
def bl3:Tr:=vD 0 0 0 1 2
def bV9:aM prog f227 bZ [.v (some 3)]=bl3:=by kernel_rfl
def aU9(a:Rat):aL prog 227 [(qT a:aG)] (.ret [ow a a]):=by
 refine bw func227 bV9 ?_;exact aK
def ad1(E:List (List Rat))(ER:List (List RQ))(X:Rat)(XR:RQ)(h:SmallX E ER X XR)(hr:gT E X):aL prog 58 [(.one (eR ER):aG),(lT XR:aG)] (.ret [.one (.bool (decide ((jW E X).2<=24)))]):=by
 refine bw func58 YX ?_;apply aA (JO h hr);apply vn iO;dsimp only[aO,aP];rw[show decide (((jW E X).2:Int)<=24)=decide ((jW E X).2<=24) by rw[lE];omega];exact aK
def aq1(n l:Nat):∀q∈aX n l,Bd (eC 999) 999 q:=fun q hq=>by
 rcases List.mem_or_eq_of_mem_set hq with h | rfl
 ·rw[(List.mem_replicate.1 h).2];exact Bd.zero
 ·exact Bd.one O
section
variable{E:List (List Rat)}{ER:List (List RQ)}{X:Rat}{XR:RQ}
def SmallX.Uj(h:SmallX E ER X XR)(hr:gT E X)(l:Nat):aS8 (aV E X) (E.length-1) (aF E X) (aX (E.length-1) l) (dX X) sM (eC 999) 999 101:=by
 obtain⟨h2,h5,hld,_⟩:=hr.facts;have hm:=h.aJ0;obtain⟨p,hp,hp0⟩:=qK hld;exact⟨vg X,qH _,aX4,O,O,hm,(hm p (bc hp)).2 _ (bc hp0),hld,aq1 _ _,by rw[aV,aR];omega⟩
def SmallX.stU(h:SmallX E ER X XR)(hr:gT E X)(l:Nat){N:Nat}(hN:N<=4096)(h8:8<=N):gm (bN N) (aV E X) (E.length-1) (aF E X) (aX (E.length-1) l) N:=by
 have h5:=hr.facts.2.1;exact Vl (h.Uj hr l) (bq5 h.xb hN _)
def Oe:Nat:=bN 4096
def SmallX.Cd(h:SmallX E ER X XR)(hr:gT E X)(l:Nat):gm Oe (aV E X) (E.length-1) (aF E X) (aX (E.length-1) l) 4096:=h.stU hr l O O
end
section
variable{E:List (List Rat)}{ER:List (List RQ)}{X:Rat}{XR:RQ}
end
def pv{x y p q:Rat}(hp:0<p)(hq:0<q)(h:x*q<=y*p):x/p<=y/q:=by
 have hp0:p≠0:=by grind
 have hq0:q≠0:=by grind
 have h1:x/p*p=x:=pH hp0;have h2:y/q*q=y:=pH hq0;refine aX6 (c:=p*q) ?_ (Rat.mul_pos hp hq);have e1:p*q*(x/p)=x*q:=by rw[show p*q*(x/p)=x/p*p*q by grind,h1]
 have e2:p*q*(y/q)=y*p:=by rw[show p*q*(y/q)=y/q*q*p by grind,h2]
 rw[e1,e2];exact h
def lH{x p:Rat}(hx:0<=x)(hp:0<p):0<=x/p:=by
 have:=pv (x:=0) (y:=x) hp hp (by rw[LH];exact gX hx (by grind))
 rwa[show(0:Rat)/p=0 by grind]at this
theorem IP(z:Int):∀d:Nat,aq (z+1) d*(z+1-d)=aq z d*(z+1)
 | 0=>by simp[aq]
 | d+1=>by
   have ih:=IP z d
   rw[aq,aq,ih,show aq z d*(z+1)*(z+1-((d+1:Nat):Int))=aq z d*(z-d)*(z+1) by
    rw[show z+1-((d+1:Nat):Int)=z-d by omega,Int.mul_assoc,Int.mul_assoc,Cc (z+1)]]
theorem wH{n:Nat}:∀d:Nat,d<=n->0<=aq (n:Int) d
 | 0,_=>by simp[aq]
 | d+1,h=>by
   rw[aq];exact qV (wH d O) O
def Gj(aB:Rat)(n d:Nat)(r:Rat):Rat:=((aq n d:Int):Rat)*r^(n-d)/aB^n
def RZ{aB r:Rat}{n d:Nat}(h0:0<aB)(hd:d<=n):Gj aB (n+1) d r=Gj aB n d r*bh aB n d r:=by
 have hp:aB^n≠0:=by have:=rn (n:=n) h0;grind
 have hq:aB≠0:=by grind
 have hz:((((n:Int)+1-d:Int)):Rat)≠0:=Vn O
 have e:(((aq ((n+1:Nat):Int) d:Int)):Rat)*((((n:Int)+1-d:Int)):Rat)=((aq n d:Int):Rat)*((((n:Int)+1:Int)):Rat):=by
  rw[<-tM,<-tM,<-IP];rfl
 unfold Gj bh;rw[show n+1-d=(n-d)+1 by omega,gM,gM];generalize (((aq ((n+1:Nat):Int) d:Int)):Rat)=f1 at *;generalize ((aq n d:Int):Rat)=f0 at *;generalize ((((n:Int)+1-d:Int)):Rat)=z at *;generalize ((((n:Int)+1:Int)):Rat)=w at *;generalize aB^n=p at *;generalize r^(n-d)=q at *;have e2:f1=f0*w/z:=by grind
 rw[e2];grind
def Ft{aB r:Rat}{n d:Nat}(h0:0<aB)(hr:0<=r)(hd:d<=n):bh aB ((n+1:Nat):Int) d r<=bh aB n d r/\0<=bh aB n d r:=by
 have hz1:(0:Rat)<((((n+1:Nat):Int)+1-d:Int):Rat):=oQ.2 O;have hz0:(0:Rat)<(((n:Int)+1-d:Int):Rat):=oQ.2 O;have hq:=lH hr h0;refine⟨?_,?_⟩
 ·unfold bh;refine HS (pv hz1 hz0 ?_) hq;rw[<-tM,<-tM];refine PR.2 ?_
  have h1:(((n+1:Nat):Int)+1)*((n:Int)+1-d)=((n:Int)+2)*((n:Int)+1)-((n:Int)+2)*d:=by
   rw[show((n+1:Nat):Int)+1=(n:Int)+2 by omega,Int.mul_sub]
  have h2:((n:Int)+1)*(((n+1:Nat):Int)+1-d)=((n:Int)+2)*((n:Int)+1)-((n:Int)+1)*d:=by
   rw[show((n+1:Nat):Int)+1=(n:Int)+2 by omega,Int.mul_sub,Cc ((n:Int)+1) ((n:Int)+2)]
  rw[h1,h2];have h3:((n:Int)+2)*d=((n:Int)+1)*d+d:=by rw[show(n:Int)+2=(n:Int)+1+1 by omega,JY ((n:Int)+1) 1,Cn]
  omega
 ·unfold bh;exact gX (lH (qJ.2 O) hz0) hq
def qf{b aB r:Rat}{n d:Nat}(hb:0<=b)(h0:0<aB)(hr:0<=r)(h1:bh aB n d r<1)(hd:d<=n:=by omega):eI b aB (n+1) d r<=eI b aB n d r/\bh aB ((n+1:Nat):Int) d r<1:=by
 obtain⟨hs,hs0⟩:=Ft (d:=d) h0 hr hd;have hu:=RZ (r:=r) h0 hd;have hu0:0<=Gj aB n d r:=lH (gX (qJ.2 (wH d hd)) (Bw hr)) (rn h0);have hbu:=gX hb hu0;refine⟨?_,by grind⟩;have t1:eI b aB (n+1) d r=b*Gj aB (n+1) d r/(((1:Int):Rat)-bh aB ((n+1:Nat):Int) d r):=rfl;have t0:eI b aB n d r=b*Gj aB n d r/(((1:Int):Rat)-bh aB n d r):=rfl;rw[t1,t0,hu];have one:((1:Int):Rat)=1:=by decide +kernel
 rw[one];generalize bh aB ((n+1:Nat):Int) d r=s1 at *;generalize bh aB n d r=s0 at *;generalize Gj aB n d r=u at *;refine pv (by grind) (by grind) ?_
 have k1:b*(u*s0)<=b*u:=by
  have:=qF (a:=s0) (b:=1) (c:=b*u) (by grind) hbu
  grind
 have k2:0<=1-s0:=by grind
 have k3:=HS k1 k2;have k4:=qF (a:=1-s0) (b:=1-s1) (c:=b*u) (by grind) hbu
 grind
end Go.Sy
