/- Part. -/
import Derived.Test.YtacgmapjhpghkaaGreatDoorQb
set_option linter.all false
namespace Go.Sy
open Go Go.Proofs Tryz Ord
def br6:Tr:=gW 0 0 6 0 28 40 41 (di 19 3 46 42 (gO 79 [(W 14 0),(G3 20)] [(some 3)] [38,43] [98,46] 46 false (kv 86 18 18 1 18 2 21 37 44 (kv 88 7 8 0 9 0 22 29 45 (cT 6 1 3 20 (TV 24 23 23 1 23 2))))))
def bn4:Tr:=eZ 11 98 23 (iK 64 12 0 12 25 26 98 98 98 (mw 85 13 27 98 98 (cT 6 1 3 33 (gW 0 0 15 0 28 32 34 (di 16 3 46 35 (gO 79 [(W 14 0),(G3 17)] [(some 3)] [30,36] [98,46] 46 false br6))))))
def bW7:Tr:=gO 80 [(G2 0)] [(some 2)] [15] [31] 31 false (gO 80 [(G2 3)] [(some 2)] [16] [31] 31 false (bL 4 1 18 29 (.loop 0 [lK 0,lN,(.w (.one (.c (.k (.bool false))))),lN] (fN 6 0 5 3 20 19 0 (aY 10 0 (gW 4 1 6 0 29 18 20 bn4) (.ret [(.agg [(U 7 0),(U 8 0),(U 9 0)]),(WK 0)]))))))
def bI8:Tr:=OH 22 0 9 31 54 (lS 1 0 54 11 (aY 2 0 (.ret [(.agg [tN,(tE (.bool false)),tN]),(W 1 0)]) bW7))
def bv6:af prog f20 dV [.v (some 2)]=bI8:=aS
theorem af8{A:Nat}:∀{p:c4},(∀a∈p,Fit A a)->∃D,D≠0/\D<=2^(A*p.length)/\∀a∈p,Bd D (2^A-1) a
 | [],_=>⟨1,O,yH,fun a h=>by cases h⟩
 | x::p,h=>by
   obtain⟨D,h0,hD,hb⟩:=af8 (p:=p) fun a ha=>h a (cg _ ha);have hx:=h x cE;have hden:=x.den_pos;refine⟨x.den*D,kE O h0,?_,fun a ha=>?_⟩
   .rw[bB,dr,eG,gp,eK];exact fP (mW hx.2) hD
   .rcases cp.1 ha with rfl | ha
    .refine⟨uY _ _,bG ?_ (ma _ hden)⟩;have:=hx.1;omega
    .exact(hb a ha).mono (Bt _ _) (ah _)
def Pt{A B:Nat}{p q:c4}(hp:∀a∈p,Fit A a)(hq:∀a∈q,Fit B a)(hl:p.length<=100) :
  ∃D E,D≠0/\E≠0/\(∀a∈p,Bd D (2^A-1) a)/\(∀a∈q,Bd E (2^B-1) a)/\D*E*((p.length+1)*((2^A-1+1)*(2^B-1+1)))<2^(A*(p.length+1)+B*(q.length+1)+7):=by
 obtain⟨D,h0,hD,h1⟩:=af8 hp;obtain⟨E,h2,hE,h3⟩:=af8 hq;refine⟨D,E,h0,h2,h1,h3,?_⟩;have ha:=pX A;have hb:=pX B;rw[BS ha,BS hb,show A*(p.length+1)+B*(q.length+1)+7=(A*p.length+B*q.length)+(7+(A+B)) by rw[dr,dr];omega,eK,eK 2 (A*p.length),eK 2 7,eK 2 A];refine Nat.mul_lt_mul_of_le_of_lt (fP hD hE) ?_ (jJ (pX _) (pX _));exact Nat.mul_lt_mul_of_lt_of_le (by show _<128;omega) (ah _) (jJ ha hb)
def QD(p q:c4)(A B:Nat)(hp:∀a∈p,Fit A a)(hq:∀a∈q,Fit B a)(hl:p.length<=100:=by omega)(hl2:q.length<=100:=by omega)(hB:A*(p.length+1)+B*(q.length+1)+7<=8589934592:=by omega):aX prog 64 [.one (sQ p),.one (sQ q)] (.ret [.one (sQ (gk p q))]):=by
 obtain⟨D,E,h0,h1,h2,h3,h4⟩:=Pt hp hq hl;exact aU9 p q D E _ _ _ h0 h1 h2 h3 hB h4
def tp{A B:Nat}{p q:c4}(hp:∀a∈p,Fit A a)(hq:∀a∈q,Fit B a)(hl:p.length<=100):∀a∈gk p q,Fit (A*(p.length+1)+B*(q.length+1)+7) a:=by
 intro a ha;unfold gk at ha;split at ha
 .cases ha
 .rename_i hne;obtain⟨D,E,h0,h1,h2,h3,h4⟩:=Pt hp hq hl;obtain⟨_,_,f3,_⟩:=Fg h0 h1 h4;have hpos:0<p.length:=ar8.2 fun e=>hne (.inl e);refine f3 a (p.length-1) O ?_;have hb:=xJ h0 h1 h2 h3 p.length a (mL ha);generalize (2^A-1)*(2^B-1)=X at hb|-
  rwa[show(p.length-1)*X+X=p.length*X by rw[<-uP,show(p.length-1).succ=p.length by omega]]
def uD(p q:c4):(gk p q).length<=p.length+q.length-1:=by
 unfold gk;split
 .simp
 .have h:=iO (mulL p q p.length);have h2:=kR (z:=zr) (mulL p q p.length);rw[jR]at h2;rw[h];exact h2
def aP3(p:List RQ):(rA p).length<=p.length:=by rw[Qh];exact kR p
theorem tZ{α β:Type}{R:α->β->Prop}{a:α}{b:β}(h:R a b):∀n,az R (List.replicate n a) (List.replicate n b)
 | 0=>trivial
 | n+1=>⟨h,tZ h n⟩
def sqP(ps:b9)(i:Nat):List Rat:=gk ((zY (zY ps)).getD i []) ((zY (zY ps)).getD i [])
def bnI(ks:c4)(ps:b9)(i:Nat):Rat:=jk (igL (sqP ps i)) (ks.getD (i+1) 0)-jk (igL (sqP ps i)) (ks.getD i 0)
def Pf(ks:c4)(ps:b9):Nat->Rat
 | 0=>0
 | i+1=>Pf ks ps i+bnI ks ps i
def by3{A:Nat}{ks:c4}{ps:b9}(T:Vp A ks ps):∀p∈zY (zY ps),p.length<=9/\∀a∈p,Fit (A+24) a:=fun p hp=>by
 have h0:YZ A ps:=fun q hq=>⟨by have:=(T.hp q hq).1;omega,(T.hp q hq).2⟩
 have h2:=((h0.dv T.hA1).dv O) p hp;refine⟨?_,fun a ha=>(h2.2 a ha).mono O⟩;obtain⟨q,hq,rfl⟩:=dm.1 hp;obtain⟨r,hr,rfl⟩:=dm.1 hq;have h3:=wj r;have h4:=wj (mU r);have h5:=(T.hp r hr).1;omega
def bA7{A:Nat}{ks:c4}{ps:b9}(T:Vp A ks ps){i:Nat}(hi:i<ps.length):(sqP ps i).length<=17/\∀a∈sqP ps i,Fit 20488 a:=by
 have h:=by3 T _ (WV (ps:=zY (zY ps)) (i:=i) (by simpa using hi));have hA:=T.hA;refine⟨by have:=uD ((zY (zY ps)).getD i []) ((zY (zY ps)).getD i []);rw[sqP];omega,fun a ha=>?_⟩;have hm:(A+24)*(((zY (zY ps)).getD i []).length+1)<=1024*10:=fP O O;exact(tp h.2 h.2 O a ha).mono O
def bz3{A:Nat}{ks:c4}{ps:b9}(T:Vp A ks ps){i:Nat}(hi:i<ps.length):(igL (sqP ps i)).length<=18/\(∀a∈igL (sqP ps i),Fit 20500 a)/\∀j,Fit 738100 (jk (igL (sqP ps i)) (ks.getD j 0)):=by
 have h:=bA7 T hi;have hl:=bj3 (sqP ps i);have hf:=bt6 (A:=20488) O h.2;refine⟨O,hf,fun j=>?_⟩;have hA:=T.hA;obtain⟨F,hF⟩:∃F,F=20500:=⟨_,rfl⟩
 replace hf:∀a∈igL (sqP ps i),Fit F a:=by rw[hF];exact hf
 have hx:Fit F (ks.getD j 0):=(aD T.hk j T.hA1).mono O;have hm:(igL (sqP ps i)).length*(2*F+1)<=18*(2*F+1):=cY _ O;exact(yn O hx _ hf).mono O
theorem Yn{A:Nat}{ks:c4}{ps:b9}(T:Vp A ks ps):∀i,i<=ps.length->Fit (1+i*1476202) (Pf ks ps i)
 | 0,_=>Fit.zero O
 | i+1,hi=>by
   have h:=bz3 T (show i<ps.length by omega);have h2:=(Yn T i O).add ((h.2.2 (i+1)).sub (h.2.2 i));exact h2.mono (by rw[bt];omega)
def bl3(ks:c4)(ps:b9)(A:Nat)(h:Wy ks ps=true)(T:Vp A ks ps):aX prog 20 [(.agg [sQ ks,eQ ps]:aQ)] (.ret [qT (Pf ks ps ps.length),.one (.int .i64 0)]):=by
 refine eD func20 bv6 ?_;have hA:=T.hA;have hA1:=T.hA1;have hn:=T.hn;have hl:=T.hl;have hc:=ES ks ps A T.hk hA1 (fun p h=>by have:=(T.hp p h).1;omega);rw[aF h]at hc;have h0:YZ A ps:=fun q hq=>⟨by have:=(T.hp q hq).1;omega,(T.hp q hq).2⟩
 have h1:=h0.dv hA1;apply aA hc;apply vn iC;refine l4 ?_ ?_<;>intro h2
 .exact absurd rfl h2
 apply aA (Oz ks ps A O (fun p h=>⟨by have:=(h0 p h).1;omega,(h0 p h).2⟩) hA1) rfl;apply aA (Oz ks (zY ps) (A+12) (by rw[aL];omega) (fun p h=>⟨by have:=(h1 p h).1;omega,(h1 p h).2⟩)) rfl;apply vn (ae uE (n:=ps.length) aT);refine bZ {i:Nat // i<=ps.length} (fun g=>(.one (.int .i64 (g.1:Int)):aQ)::(qC (Pf ks ps g.1)).map .one) (fun g=>ps.length-g.1) ⟨0,dM _⟩ ⟨aQ.Sub.same,nO.1,nO.2.1,nO.2.2.1,trivial⟩ (fun _=>rfl) ?_;rintro⟨i,hi⟩;dsimp only[aU,aV,List.map]at hi|-;apply vn bO;refine l4 ?_ ?_<;>intro h9
 .have hi':i<ps.length:=O
  obtain⟨F1,hF1⟩:∃F,F=20488:=⟨_,rfl⟩
  obtain⟨F2,hF2⟩:∃F,F=20500:=⟨_,rfl⟩
  obtain⟨F3,hF3⟩:∃F,F=738100:=⟨_,rfl⟩
  have hb:=bz3 T hi';have hs:=bA7 T hi';rw[<-hF2,<-hF3]at hb;rw[<-hF1]at hs;have hd:=by3 T _ (WV (ps:=zY (zY ps)) (i:=i) (by simpa using hi'));have hbf:=Yn T i O;have hm:i*1476202<=20*1476202:=cY _ O;have hm1:(A+24)*(((zY (zY ps)).getD i []).length+1)<=1024*10:=fP O O;have hm2:(igL (sqP ps i)).length*(2*F2+2)<=18*(2*F2+2):=cY _ hb.1;have hkf:∀j,Fit F2 (ks.getD j 0):=fun j=>(aD T.hk j hA1).mono O;apply vn (aN uE (m:=i) O (bI i) (be3 (ps:=zY (zY ps)) (by simpa using hi')));apply vn (bq ae1);apply aA (QD _ _ (A+24) (A+24) hd.2 hd.2);apply aA (WS (sqP ps i) F1 hs.2);apply vn (aB O O);dsimp only[aU,aV];apply vn (aN bX (m:=i+1) O O (aa (show i+1<ks.length by omega)));apply vn (ab cb bY aT (.inl rfl));apply aA (ao7 (igL (sqP ps i)) (ks.getD (i+1) 0) F2 hb.2.1 (hkf _));dsimp only[aU,aV];apply vn (aN bX (m:=i) O (bI i) (aa (show i<ks.length by omega)));apply vn (ab cb bY aT (.inl rfl));apply aA (ao7 (igL (sqP ps i)) (ks.getD i 0) F2 hb.2.1 (hkf _));apply aA (lZ _ _ _ _ (hb.2.2 (i+1)) (hb.2.2 i));apply aA (oV (Pf ks ps i) (bnI ks ps i) _ _ hbf ((hb.2.2 (i+1)).sub (hb.2.2 i)));apply vn (aB O O);dsimp only[aU,aV];exact aq rfl ⟨⟨i+1,O⟩,ai.rfl,by show ps.length-(i+1)<ps.length-i;omega⟩
 rw[show ps.length=i by omega];exact aR
def tS:Tr:=hx128Q 
def bg7:Tr:=aY 11 0 tS (uj .gtr 2 33 999999 7 1 4 (aY 12 0 tS (jy 7 1 (-999999) 2 38 (aY 13 0 tS (cT 3 1 3 11 (lh 0 2 14))))))
def ca3:Tr:=di 6 3 27 15 (aU1 7 18 (.need (.prim [(W 8 0),(.one (.c (.k (.int .u8 0))))] none) (.binOp .neq 5 (tT 19) (.const (.int .u8 0)) 5) 4 false (aY 9 0 tS (uj .gtr 2 23 999999 7 0 4 (aY 10 0 tS (jy 7 0 (-999999) 2 28 bg7))))))
def cb6:Tr:=FF 0 (bL 0 0 8 22 (fN 3 0 4 3 7 9 4 (aY 5 0 (gW 0 0 3 0 22 13 14 ca3) (bL 0 0 41 22 (ss .leq 3 42 43 6 0 1 0 4 (cd 7))))))
def bu2:af prog f13 dV [.v none,.v none]=cb6:=aS
def bF9:Tr:=mw 126 1 6 102 102 (iK 43 0 0 2 5 7 28 32 4 (cd 3))
def bv8:af prog f46 dV [.v none,.v none]=bF9:=aS
def be8:Tr:=gW 1 1 8 0 33 34 35 (eZ 13 102 36 (iK 46 12 0 14 32 37 98 102 4 (jU 15 0 38 (aY 16 0 tS (cT 8 1 3 26 (lh 0 7 17))))))
def bK3:Tr:=aY 6 0 tS (FF 0 (bL 0 1 23 29 (fN 8 0 9 3 21 24 4 (aY 10 0 (gW 0 1 8 0 29 29 30 (eZ 11 98 31 be8)) (.ret [(tF true)])))))
def bD7:Tr:=FZ 43 0 1 7 9 28 32 4 (jU 2 0 10 (aY 3 0 tS (bL 0 1 14 29 (bL 1 1 17 33 (ss .neq 3 15 18 4 0 5 0 4 bK3)))))
def bd4:af prog f25 dV [.v (some 2),.v (some 2)]=bD7:=aS
def bW6:Tr:=bL 0 0 4 28 (bL 0 1 7 29 (dw 1 2 3 5 8 (ir 3 0 0 3 9 (cd 4))))
def ba5:af prog f24 dV [.v (some 2)]=bW6:=aS
def eO.aM9(x:eO):Bool:=decide (x.pow%4=0/\x.n<=999999/\-999999<=x.n/\x.d<=999999/\-999999<=x.d)
def iM(l:List eO)(m:Int):Bool:=l.all eO.aM9&&decide ((l.length:Int)<=m)
def aV4{x:eO}(h:x.aM9=true):Fit 40 x.v:=by
 have h:=wU h;have e:x.v=x.b:=by rw[eO.v,h.1,kO,qO,Tv]
 rw[e,eO.b];refine(Fit.int (B:=20) O (by have:(2:Nat)^20=1048576:=rfl;omega)).div (C:=20) ?_;split
 .exact Fit.int O bY
 .exact Fit.int O (by have:(2:Nat)^20=1048576:=rfl;omega)
def qu{l:List eO}{m:Int}(h:iM l m=true):(l.length:Int)<=m:=by
 rw[iM,bR,jr]at h;exact h.2
def rU(l:List eO)(m:Int)(hs:l.length<140737488355328):aX prog 13 [(.one (sN l):aQ),(.one (.int .i64 m):aQ)] (.ret [.one (.bool (iM l m))]):=by
 refine eD func13 bu2 ?_
 have hno:∀(i:Nat)(x:eO),l[i]?=some x->x.aM9=false->iM l m=false:=fun i x hx hf=>by
  rw[iM,SF];exact .inl (by rw[List.all_eq_false];exact⟨x,dc hx,by rw[hf];exact Bool.false_ne_true⟩)
 refine bZ {i:Nat // i<=l.length/\∀(j:Nat)(x:eO),j<i->l[j]?=some x->x.aM9=true} (fun g=>[.one (.bool false),.one (.int .i64 (g.1:Int))]) (fun g=>l.length-g.1) ⟨0,dM _,fun j x hj=>absurd hj O⟩ ai.rfl (fun _=>rfl) ?_;rintro⟨i,hi,hb⟩;dsimp only[aU,aV]at hi hb|-;apply vn (ae Ud (aL _));apply vn bO;refine l4 ?_ ?_<;>intro h3
 .obtain⟨x,hx⟩:∃x,l[i]?=some x:=⟨_,bM O⟩
  apply vn (aN Ud O O hx);apply vn (ab cv5 bY aT (.inl rfl));apply vn nz;apply vn iC;refine l4 ?_ ?_<;>intro h8
  .rw[hno i x hx (dn (by rintro⟨a1,a2,a3,a4,a5⟩;omega))];exact aR
  apply vn jD;refine l4 ?_ ?_<;>intro h11
  .rw[hno i x hx (dn (by rintro⟨a1,a2,a3,a4,a5⟩;omega))];exact aR
  apply vn bO;dsimp only[aU,aV];refine l4 ?_ ?_<;>intro h14
  .rw[hno i x hx (dn (by rintro⟨a1,a2,a3,a4,a5⟩;omega))];exact aR
  apply vn jD;refine l4 ?_ ?_<;>intro h17
  .rw[hno i x hx (dn (by rintro⟨a1,a2,a3,a4,a5⟩;omega))];exact aR
  apply vn bO;refine l4 ?_ ?_<;>intro h20
  .rw[hno i x hx (dn (by rintro⟨a1,a2,a3,a4,a5⟩;omega))];exact aR
  apply vn (aB O O)
  exact aq rfl ⟨⟨i+1,O,fun j y hj hy=>by
   rcases gP j i with h | h
   .exact hb j y h hy
   .obtain rfl:j=i:=O
    rw[hx]at hy;obtain rfl:=cI hy;exact bz ⟨O,O,O,O,O⟩⟩,ai.rfl,by show l.length-(i+1)<l.length-i;omega⟩
 apply vn (ae Ud (aL _));apply vn nR;dsimp only[aU,aV]
 rw[iM,show l.all eO.aM9=true by
  rw[fS];intro x hx;obtain⟨j,hj,rfl⟩:=lu.1 hx;exact hb j _ O (bM hj)];exact aR
def bu1(p:c4)(q:List RQ)(B:Nat)(hp:∀a∈p,Fit B a)(hq:∀a∈q,Fit B a.q)(hB:B<=34359738360)(hs:p.length<1099511627776)(oz:q.length<1099511627776)(he:p=trim (q.map RQ.q)):aX prog 46 [(.one (sQ p):aQ),(.one (sR q):aQ)] (.ret [.one (.bool true)]):=by
 refine eD func46 bv8 ?_;apply aA (TS q oz);dsimp only[aU,aV];have ha:=VE p (rA q) B hp (fun a h=>hq a (mL h)) hB (by have:=aP3 q;omega) hs;rw[zB,bz he]at ha;apply aA ha;exact aR
def anyS:aC where
 rep:=fun _ _ v=>∃a l k,v=.slice a l k
 mono:=fun _ h=>h
 one:=fun h=>by obtain⟨a,l,k,rfl⟩:=h;rfl
def kF:(aC.exact (.slice none 0 0)).Sub anyS:=.inr ⟨fun M w v h=>⟨_,_,_,h.1⟩,fun M w v h=>⟨_,_,_,h.1⟩⟩
def fe(l:List eO):(ec l).map RQ.q=au l:=by
 rw[ec,au,ey];apply kY;intro x _;exact RQ.KT _
def br8(ks:c4)(ps:b9)(kr:List RQ)(pr:List (List RQ))(B:Nat)(h1:ks=kr.map RQ.q)(h2:ps=(eqR pr).map trim)(hk:∀a∈kr,Fit B a.q)(hp:∀p∈pr,p.length<1099511627776/\∀a∈p,Fit B a.q)(oz:pr.length<1099511627776)(hB:B<=34359738360:=by omega)(hs:kr.length<1099511627776:=by omega):aX prog 25 [(.agg [sQ ks,eQ ps]:aQ),(.agg [sR kr,eR pr]:aQ)] (.ret [.one (.bool true)]):=by
 refine eD func25 bd4 ?_;have hl:ks.length=kr.length:=by rw[h1,aL]
 have hl2:ps.length=pr.length:=by rw[h2,aL,bh0]
 have ha:=VE ks kr B (fun a h=>by rw[h1]at h;obtain⟨b,hb,rfl⟩:=dm.1 h;exact hk b hb) hk hB hs;rw[bz h1]at ha;apply aA ha;apply vn fk;refine nI false rfl (fun h=>by cases h) (fun _=>?_);apply vn (ae uE (aL _));apply vn (ae cz3 (aL _));apply vn iC;refine l4 ?_ ?_<;>intro h7
 .omega
 refine bZ {i:Nat // i<=ps.length} (fun g=>[.one (.bool false),.one (.int .i64 (g.1:Int))]) (fun g=>ps.length-g.1) ⟨0,dM _⟩ ai.rfl (fun _=>rfl) ?_;rintro⟨i,hi⟩;dsimp only[aU,aV]at hi|-;apply vn (ae uE (aL _));apply vn bO;refine l4 ?_ ?_<;>intro h12
 .obtain⟨q,hq⟩:∃q,pr[i]?=some q:=⟨_,bM O⟩
  have hp1:ps[i]?=some (trim (q.map RQ.q)):=by rw[h2,dR,bm9 hq];rfl
  have hqq:=hp q (dc hq);apply vn (aN uE O O hp1);apply vn (bq ae1);apply vn (aN cz3 O O hq);apply vn (bq cn5);apply aA (bu1 (trim (q.map RQ.q)) q B (ta fun a h=>by obtain⟨b,hb,rfl⟩:=dm.1 h;exact hqq.2 b hb) hqq.2 hB (by have:=iO (q.map RQ.q);have h3:=kR (z:=zr) (q.map RQ.q);rw[aL]at h3;omega) hqq.1 rfl) rfl;apply vn fk;dsimp only[aU,aV];refine nI false rfl (fun h=>by cases h) (fun _=>?_);apply vn (aB O O);dsimp only[aU,aV];exact aq rfl ⟨⟨i+1,O⟩,ai.rfl,by show ps.length-(i+1)<ps.length-i;omega⟩
 exact aR
def tu  :aX prog 24 [(.agg [sQ [],eQ []]:aQ)] (.ret [.one (.bool true)]):=by
 refine eD func24 ba5 ?_;apply vn (ae bX (n:=0) rfl);apply vn (ae uE (n:=0) rfl);apply vn (aB O O);apply vn cW;exact aR
end Go.Sy
