/- Part. -/
import Derived.Test.YtacgmapjhpghkaaGreatDoorQb
set_option linter.all false
namespace Go.Sy
open Go Go.Proofs Tryz Ord
def aY7:Tr:=fJ 0 0 6 0 28 40 41 (dj 19 3 46 42 (gS 79 [(W 14 0),(G3 20)] [(some 3)] [38,43] [98,46] 46 false (kz 86 18 18 1 18 2 21 37 44 (kz 88 7 8 0 9 0 22 29 45 (ba 6 1 3 20 (Fx 24 23 23 1 23 2))))))
def aU2:Tr:=di 11 98 23 (jB 64 12 0 12 25 26 98 98 98 (ku 85 13 27 98 98 (ba 6 1 3 33 (fJ 0 0 15 0 28 32 34 (dj 16 3 46 35 (gS 79 [(W 14 0),(G3 17)] [(some 3)] [30,36] [98,46] 46 false aY7))))))
def bC0:Tr:=gS 80 [(G2 0)] [(some 2)] [15] [31] 31 false (gS 80 [(G2 3)] [(some 2)] [16] [31] 31 false (aw 4 1 18 29 (.loop 0 [lK 0,lN,(.w (.one (.c (.k (.bool false))))),lN] (dw 6 0 5 3 20 19 0 (aQ 10 0 (fJ 4 1 6 0 29 18 20 aU2) (.ret [(.agg [(U 7 0),(U 8 0),(U 9 0)]),(WK 0)]))))))
def bp2:Tr:=LG 22 0 9 31 54 (nS 1 0 54 11 (aQ 2 0 (.ret [(.agg [tN,(tE (.bool false)),tN]),(W 1 0)]) bC0))
theorem bc8:aV prog f20 dE [.v (some 2)]=bp2:=by kernel_rfl
theorem XX{A:Nat}:∀{p:List Rat},(∀a∈p,Fit A a)->∃D,D≠0/\D<=2^(A*p.length)/\∀a∈p,Bd D (2^A-1) a
 | [],_=>⟨1,by omega,mb,fun a h=>by cases h⟩
 | x::p,h=>by
   obtain⟨D,h0,hD,hb⟩:=XX (p:=p) fun a ha=>h a (dS _ ha);have hx:=h x dJ;have hden:=x.den_pos;refine⟨x.den*D,eh (by omega) h0,?_,fun a ha=>?_⟩
   ·rw[ak,eY,de,gD,bz];exact eD (iJ hx.2) hD
   ·rcases eU.1 ha with rfl | ha
    ·refine⟨qQ _ _,bF ?_ (mH _ hden)⟩;have:=hx.1;omega
    ·exact(hb a ha).mono (AN _ _) (aY _)
theorem Mz{A B:Nat}{p q:List Rat}(hp:∀a∈p,Fit A a)(hq:∀a∈q,Fit B a)(hl:p.length<=100) :
  ∃D E,D≠0/\E≠0/\(∀a∈p,Bd D (2^A-1) a)/\(∀a∈q,Bd E (2^B-1) a)/\D*E*((p.length+1)*((2^A-1+1)*(2^B-1+1)))<2^(A*(p.length+1)+B*(q.length+1)+7):=by
 obtain⟨D,h0,hD,h1⟩:=XX hp;obtain⟨E,h2,hE,h3⟩:=XX hq;refine⟨D,E,h0,h2,h1,h3,?_⟩;have ha:=AQ A;have hb:=AQ B;rw[Ar ha,Ar hb,show A*(p.length+1)+B*(q.length+1)+7=(A*p.length+B*q.length)+(7+(A+B)) by rw[eY,eY];omega,bz,bz 2 (A*p.length),bz 2 7,bz 2 A];refine Nat.mul_lt_mul_of_le_of_lt (eD hD hE) ?_ (jA (AQ _) (AQ _));exact Nat.mul_lt_mul_of_lt_of_le (by show _<128;omega) (aY _) (jA ha hb)
theorem NP(p q:List Rat)(A B:Nat)(hp:∀a∈p,Fit A a)(hq:∀a∈q,Fit B a)(hl:p.length<=100:=by omega)(hl2:q.length<=100:=by omega)(hB:A*(p.length+1)+B*(q.length+1)+7<=8589934592:=by omega):aW prog 64 [.one (sQ p),.one (sQ q)] (.ret [.one (sQ (en p q))]):=by
 obtain⟨D,E,h0,h1,h2,h3,h4⟩:=Mz hp hq hl;exact Xw p q D E _ _ _ h0 h1 h2 h3 h4 hB
theorem re{A B:Nat}{p q:List Rat}(hp:∀a∈p,Fit A a)(hq:∀a∈q,Fit B a)(hl:p.length<=100):∀a∈en p q,Fit (A*(p.length+1)+B*(q.length+1)+7) a:=by
 intro a ha;unfold en at ha;split at ha
 ·cases ha
 ·rename_i hne;obtain⟨D,E,h0,h1,h2,h3,h4⟩:=Mz hp hq hl;obtain⟨_,_,f3,_⟩:=DC h0 h1 h4;have hpos:0<p.length:=ZR.2 fun e=>hne (.inl e);refine f3 a (p.length-1) (by omega) ?_;have hb:=vX h0 h1 h2 h3 p.length a (jH ha);generalize (2^A-1)*(2^B-1)=X at hb|-
  rwa[show(p.length-1)*X+X=p.length*X by rw[<-sy,show(p.length-1).succ=p.length by omega]]
theorem pN(p q:List Rat):(en p q).length<=p.length+q.length-1:=by
 unfold en;split
 ·simp
 ·have h:=ir (mulL p q p.length);have h2:=kg (z:=zr) (mulL p q p.length);rw[iQ]at h2;rw[h];exact h2
theorem ay1(p:List RQ):(lz p).length<=p.length:=by rw[No];exact kg p
theorem vQ{α β:Type}{R:α->β->Prop}{a:α}{b:β}(h:R a b):∀n,aj R (List.replicate n a) (List.replicate n b)
 | 0=>trivial
 | n+1=>⟨h,vQ h n⟩
def Xe(ps:List (List Rat))(i:Nat):List Rat:=en ((yD (yD ps)).getD i []) ((yD (yD ps)).getD i [])
def bnI(ks:List Rat)(ps:List (List Rat))(i:Nat):Rat:=gG (Zw (Xe ps i)) (ks.getD (i+1) 0)-gG (Zw (Xe ps i)) (ks.getD i 0)
def Mq(ks:List Rat)(ps:List (List Rat)):Nat->Rat
 | 0=>0
 | i+1=>Mq ks ps i+bnI ks ps i
theorem bf4{A:Nat}{ks:List Rat}{ps:List (List Rat)}(T:RU A ks ps):∀p∈yD (yD ps),p.length<=9/\∀a∈p,Fit (A+24) a:=fun p hp=>by
 have h0:VN A ps:=fun q hq=>⟨by have:=(T.hp q hq).1;omega,(T.hp q hq).2⟩
 have h2:=((h0.dv T.hA1).dv (by omega)) p hp;refine⟨?_,fun a ha=>(h2.2 a ha).mono (by omega)⟩;obtain⟨q,hq,rfl⟩:=dn.1 hp;obtain⟨r,hr,rfl⟩:=dn.1 hq;have h3:=vA r;have h4:=vA (nX r);have h5:=(T.hp r hr).1;omega
theorem bh7{A:Nat}{ks:List Rat}{ps:List (List Rat)}(T:RU A ks ps){i:Nat}(hi:i<ps.length):(Xe ps i).length<=17/\∀a∈Xe ps i,Fit 20488 a:=by
 have h:=bf4 T _ (TG (ps:=yD (yD ps)) (i:=i) (by simpa using hi));have hA:=T.hA;refine⟨by have:=pN ((yD (yD ps)).getD i []) ((yD (yD ps)).getD i []);rw[Xe];omega,fun a ha=>?_⟩;have hm:(A+24)*(((yD (yD ps)).getD i []).length+1)<=1024*10:=eD (by omega) (by omega);exact(re h.2 h.2 (by omega) a ha).mono (by omega)
theorem bg4{A:Nat}{ks:List Rat}{ps:List (List Rat)}(T:RU A ks ps){i:Nat}(hi:i<ps.length):(Zw (Xe ps i)).length<=18/\(∀a∈Zw (Xe ps i),Fit 20500 a)/\∀j,Fit 738100 (gG (Zw (Xe ps i)) (ks.getD j 0)):=by
 have h:=bh7 T hi;have hl:=aQ8 (Xe ps i);have hf:=ba2 (A:=20488) (by omega) h.2;refine⟨by omega,hf,fun j=>?_⟩;have hA:=T.hA;obtain⟨F,hF⟩:∃F,F=20500:=⟨_,rfl⟩
 replace hf:∀a∈Zw (Xe ps i),Fit F a:=by rw[hF];exact hf
 have hx:Fit F (ks.getD j 0):=(aE T.hk j T.hA1).mono (by omega);have hm:(Zw (Xe ps i)).length*(2*F+1)<=18*(2*F+1):=bu _ (by omega);exact(sW (by omega) hx _ hf).mono (by omega)
theorem Vc{A:Nat}{ks:List Rat}{ps:List (List Rat)}(T:RU A ks ps):∀i,i<=ps.length->Fit (1+i*1476202) (Mq ks ps i)
 | 0,_=>Fit.zero (by omega)
 | i+1,hi=>by
   have h:=bg4 T (show i<ps.length by omega);have h2:=(Vc T i (by omega)).add ((h.2.2 (i+1)).sub (h.2.2 i));exact h2.mono (by rw[bf];omega)
theorem aS7(ks:List Rat)(ps:List (List Rat))(A:Nat)(h:Tl ks ps=true)(T:RU A ks ps):aW prog 20 [(.agg [sQ ks,eQ ps]:aK)] (.ret [qT (Mq ks ps ps.length),.one (.int .i64 0)]):=by
 refine eB func20 bc8 ?_;have hA:=T.hA;have hA1:=T.hA1;have hn:=T.hn;have hl:=T.hl;have hc:=Dp ks ps A T.hk hA1 (fun p h=>by have:=(T.hp p h).1;omega);rw[aD h]at hc;have h0:VN A ps:=fun q hq=>⟨by have:=(T.hp q hq).1;omega,(T.hp q hq).2⟩
 have h1:=h0.dv hA1;apply aA hc;apply vn gW;refine vs _ rfl ?_ ?_<;>intro h2
 ·exact absurd rfl h2
 apply aA (LH ks ps A (by omega) (fun p h=>⟨by have:=(h0 p h).1;omega,(h0 p h).2⟩) hA1) rfl;apply aA (LH ks (yD ps) (A+12) (by rw[aJ];omega) (fun p h=>⟨by have:=(h1 p h).1;omega,(h1 p h).2⟩)) rfl;dsimp only[aF,aG];apply vn (aR yO (n:=ps.length) (by simp));refine bG {i:Nat // i<=ps.length} (fun g=>(.one (.int .i64 (g.1:Int)):aK)::(qC (Mq ks ps g.1)).map .one) (fun g=>ps.length-g.1) ⟨0,cL _⟩ ⟨aK.Sub.same,nI.1,nI.2.1,nI.2.2.1,trivial⟩ (fun _=>rfl) ?_;rintro⟨i,hi⟩;dsimp only[aF,aG,List.map]at hi|-;apply vn an;refine vs _ rfl ?_ ?_<;>intro h9
 ·have hi':i<ps.length:=by omega
  obtain⟨F1,hF1⟩:∃F,F=20488:=⟨_,rfl⟩
  obtain⟨F2,hF2⟩:∃F,F=20500:=⟨_,rfl⟩
  obtain⟨F3,hF3⟩:∃F,F=738100:=⟨_,rfl⟩
  have hb:=bg4 T hi';have hs:=bh7 T hi';rw[<-hF2,<-hF3]at hb;rw[<-hF1]at hs;have hd:=bf4 T _ (TG (ps:=yD (yD ps)) (i:=i) (by simpa using hi'));have hbf:=Vc T i (by omega);have hm:i*1476202<=20*1476202:=bu _ (by omega);have hm1:(A+24)*(((yD (yD ps)).getD i []).length+1)<=1024*10:=eD (by omega) (by omega);have hm2:(Zw (Xe ps i)).length*(2*F2+2)<=18*(2*F2+2):=bu _ hb.1;have hkf:∀j,Fit F2 (ks.getD j 0):=fun j=>(aE T.hk j hA1).mono (by omega);apply vn (aN yO (m:=i) (by omega) (al i) (aM1 (ps:=yD (yD ps)) (by simpa using hi')));apply vn (bO aj2);apply aA (NP _ _ (A+24) (A+24) hd.2 hd.2);dsimp only[aF,aG];apply aA (TE (Xe ps i) F1 hs.2);apply vn (aB (by omega) (by omega));dsimp only[aF,aG];apply vn (aN bK (m:=i+1) (by omega) (by omega) (aZ (show i+1<ks.length by omega)));apply vn (ab cn (by decide) (by simp) (.inl rfl));apply aA (Aq (Zw (Xe ps i)) (ks.getD (i+1) 0) F2 hb.2.1 (hkf _));dsimp only[aF,aG];apply vn (aN bK (m:=i) (by omega) (al i) (aZ (show i<ks.length by omega)));apply vn (ab cn (by decide) (by simp) (.inl rfl));apply aA (Aq (Zw (Xe ps i)) (ks.getD i 0) F2 hb.2.1 (hkf _));apply aA (kO _ _ _ _ (hb.2.2 (i+1)) (hb.2.2 i));dsimp only[aF,aG];apply aA (pZ (Mq ks ps i) (bnI ks ps i) _ _ hbf ((hb.2.2 (i+1)).sub (hb.2.2 i)));apply vn (aB (by omega) (by omega));dsimp only[aF,aG];exact af rfl ⟨⟨i+1,by omega⟩,aX.rfl,by show ps.length-(i+1)<ps.length-i;omega⟩
 rw[show ps.length=i by omega];exact aM
def Cm:Tr:=hx143Q 
def aO3:Tr:=aQ 11 0 Cm (jQ 7 1 999999 2 33 (aQ 12 0 Cm (ju 7 1 (-999999) 2 38 (aQ 13 0 Cm (ba 3 1 3 11 (jS 0 2 14))))))
def bE8:Tr:=dj 6 3 27 15 (au6 7 18 (.need (.prim [(W 8 0),(.one (.c (.k (.int .u8 0))))] none) (.binOp .neq 5 (tT 19) (.const (.int .u8 0)) 5) 4 false (aQ 9 0 Cm (jQ 7 0 999999 2 23 (aQ 10 0 Cm (ju 7 0 (-999999) 2 28 aO3))))))
def bF8:Tr:=Wq 0 (aw 0 0 8 22 (dw 3 0 4 3 7 9 4 (aQ 5 0 (fJ 0 0 3 0 22 13 14 bE8) (aw 0 0 41 22 (rn .leq 3 42 43 6 0 1 0 4 (cD 7))))))
theorem bb0:aV prog f13 dE [.v none,.v none]=bF8:=by kernel_rfl
def bm7:Tr:=ku 126 1 6 102 102 (jB 43 0 0 2 5 7 28 32 4 (cD 3))
theorem bc9:aV prog f46 dE [.v none,.v none]=bm7:=by kernel_rfl
def eo.av7(x:eo):Bool:=decide (x.pow%4=0/\x.n<=999999/\-999999<=x.n/\x.d<=999999/\-999999<=x.d)
def qh(l:List eo)(m:Int):Bool:=l.all eo.av7&&decide ((l.length:Int)<=m)
theorem aD6{x:eo}(h:x.av7=true):Fit 40 x.v:=by
 have h:=wa h;have e:x.v=x.b:=by rw[eo.v,h.1,jc,ns,AL]
 rw[e,eo.b];refine(Fit.int (B:=20) (by omega) (by have:(2:Nat)^20=1048576:=rfl;omega)).div (C:=20) ?_;split
 ·exact Fit.int (by omega) (by decide)
 ·exact Fit.int (by omega) (by have:(2:Nat)^20=1048576:=rfl;omega)
theorem at7{l:List eo}{m:Int}(h:qh l m=true):(l.length:Int)<=m:=by
 rw[qh,bR,jd]at h;exact h.2
theorem Ys(l:List eo)(m:Int)(hs:l.length<140737488355328):aW prog 13 [(.one (sN l):aK),(.one (.int .i64 m):aK)] (.ret [.one (.bool (qh l m))]):=by
 refine eB func13 bb0 ?_
 have hno:∀(i:Nat)(x:eo),l[i]?=some x->x.av7=false->qh l m=false:=fun i x hx hf=>by
  rw[qh,Bool.and_eq_false_iff];exact .inl (by rw[List.all_eq_false];exact⟨x,cq hx,by rw[hf];exact Bool.false_ne_true⟩)
 refine bG {i:Nat // i<=l.length/\∀(j:Nat)(x:eo),j<i->l[j]?=some x->x.av7=true} (fun g=>[.one (.bool false),.one (.int .i64 (g.1:Int))]) (fun g=>l.length-g.1) ⟨0,cL _,fun j x hj=>absurd hj (by omega)⟩ aX.rfl (fun _=>rfl) ?_;rintro⟨i,hi,hb⟩;dsimp only[aF,aG]at hi hb|-;apply vn (aR aH5 (aJ _));apply vn an;refine vs _ rfl ?_ ?_<;>intro h3
 ·obtain⟨x,hx⟩:∃x,l[i]?=some x:=⟨_,bB (by omega)⟩
  apply vn (aN aH5 (by omega) (by omega) hx);apply vn (ab aZ7 (by decide) (by simp) (.inl rfl));dsimp only[aF,aG];apply vn mf;apply vn gW;refine vs _ rfl ?_ ?_<;>intro h8
  ·rw[hno i x hx (dh (by rintro⟨a1,a2,a3,a4,a5⟩;omega))];exact aM
  apply vn fC;refine vs _ rfl ?_ ?_<;>intro h11
  ·rw[hno i x hx (dh (by rintro⟨a1,a2,a3,a4,a5⟩;omega))];exact aM
  apply vn an;dsimp only[aF,aG];refine vs _ rfl ?_ ?_<;>intro h14
  ·rw[hno i x hx (dh (by rintro⟨a1,a2,a3,a4,a5⟩;omega))];exact aM
  apply vn fC;refine vs _ rfl ?_ ?_<;>intro h17
  ·rw[hno i x hx (dh (by rintro⟨a1,a2,a3,a4,a5⟩;omega))];exact aM
  apply vn an;refine vs _ rfl ?_ ?_<;>intro h20
  ·rw[hno i x hx (dh (by rintro⟨a1,a2,a3,a4,a5⟩;omega))];exact aM
  apply vn (aB (by omega) (by omega))
  exact af rfl ⟨⟨i+1,by omega,fun j y hj hy=>by
   rcases fL j i with h | h
   ·exact hb j y h hy
   ·obtain rfl:j=i:=by omega
    rw[hx]at hy;obtain rfl:=bh hy;exact cS ⟨by omega,by omega,by omega,by omega,by omega⟩⟩,aX.rfl,by show l.length-(i+1)<l.length-i;omega⟩
 apply vn (aR aH5 (aJ _));dsimp only[aF,aG];apply vn qp;dsimp only[aF,aG]
 rw[qh,show l.all eo.av7=true by
  rw[eu];intro x hx;obtain⟨j,hj,rfl⟩:=Al.1 hx;exact hb j _ (by omega) (bB hj)];exact aM
theorem ba9(p:List Rat)(q:List RQ)(B:Nat)(hp:∀a∈p,Fit B a)(hq:∀a∈q,Fit B a.q)(he:p=trim (q.map RQ.q))(hB:B<=34359738360:=by omega)(hs:p.length<1099511627776:=by omega)(xJ:q.length<1099511627776:=by omega):aW prog 46 [(.one (sQ p):aK),(.one (sR q):aK)] (.ret [.one (.bool true)]):=by
 refine eB func46 bc9 ?_;apply aA (QE q xJ);dsimp only[aF,aG];have ha:=ap5 p (lz q) B hp (fun a h=>hq a (jH h)) hB hs (by have:=ay1 q;omega);rw[xj,cS he]at ha;apply aA ha;exact aM
theorem an5(l:List eo):(ye l).map RQ.q=cE l:=by
 rw[ye,cE,ef];apply jJ;intro x _;exact RQ.Jn _
end Go.Sy
