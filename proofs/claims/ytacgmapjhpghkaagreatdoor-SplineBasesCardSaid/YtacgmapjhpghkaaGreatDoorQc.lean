/- Part. -/
import Derived.Test.YtacgmapjhpghkaaGreatDoorQb
set_option linter.all false
namespace Go.Sy
open Go Go.Proofs Tryz Ord
def bd0:Tr:=bA 0 0 6 0 28 40 41 (bW 19 3 46 42 (fO 79 [(W 14 0),(G3 20)] [(some 3)] [38,43] [98,46] 46 false (jN 86 18 18 1 18 2 21 37 44 (jN 88 7 8 0 9 0 22 29 45 (ao 6 1 3 20 (Ng 24 23 23 1 23 2))))))
def aY4:Tr:=dh 11 98 23 (gR 64 12 0 12 25 26 98 98 98 (mz 85 13 27 98 98 (ao 6 1 3 33 (bA 0 0 15 0 28 32 34 (bW 16 3 46 35 (fO 79 [(W 14 0),(G3 17)] [(some 3)] [30,36] [98,46] 46 false bd0))))))
def bH8:Tr:=Lg 80 0 2 15 31 31 (Lg 80 3 2 16 31 31 (al 4 1 18 29 (.loop 0 [lK 0,lN,(.w (.one (.c (.k (.bool false))))),lN] (dD 6 0 5 3 20 19 0 (aR 10 0 (bA 4 1 6 0 29 18 20 aY4) (.ret [(.agg [(U 7 0),(U 8 0),(U 9 0)]),(WK 0)]))))))
def bu0:Tr:=LO 22 0 9 31 54 (my 1 0 54 11 (aR 2 0 (.ret [(.agg [tN,(tE (.bool false)),tN]),(W 1 0)]) bH8))
theorem bh3:aV prog f20 ck [.v (some 2)]=bu0:=by kernel_rfl
theorem Yr{A:Nat}:∀{p:List Rat},(∀a∈p,Fit A a)->∃D,D≠0/\D<=2^(A*p.length)/\∀a∈p,Bd D (2^A-1) a
 | [],_=>⟨1,by omega,vA,fun a h=>by cases h⟩
 | x::p,h=>by
   obtain⟨D,h0,hD,hb⟩:=Yr (p:=p) fun a ha=>h a (dc _ ha);have hx:=h x dV;have hden:=x.den_pos;refine⟨x.den*D,lG (by omega) h0,?_,fun a ha=>?_⟩
   ·rw[an,ep,dZ,gG,eP];exact iA (mE hx.2) hD
   ·rcases ez.1 ha with rfl | ha
    ·refine⟨Af _ _,aq ?_ (kd _ hden)⟩;have:=hx.1;omega
    ·exact(hb a ha).mono (MC _ _) (aa _)
theorem Mj{A B:Nat}{p q:List Rat}(hp:∀a∈p,Fit A a)(hq:∀a∈q,Fit B a)(hl:p.length<=100) :
  ∃D E,D≠0/\E≠0/\(∀a∈p,Bd D (2^A-1) a)/\(∀a∈q,Bd E (2^B-1) a)/\D*E*((p.length+1)*((2^A-1+1)*(2^B-1+1)))<2^(A*(p.length+1)+B*(q.length+1)+7):=by
 obtain⟨D,h0,hD,h1⟩:=Yr hp;obtain⟨E,h2,hE,h3⟩:=Yr hq;refine⟨D,E,h0,h2,h1,h3,?_⟩;have ha:=Aj A;have hb:=Aj B;rw[zZ ha,zZ hb,show A*(p.length+1)+B*(q.length+1)+7=(A*p.length+B*q.length)+(7+(A+B)) by rw[ep,ep];omega,eP,eP 2 (A*p.length),eP 2 7,eP 2 A];refine Nat.mul_lt_mul_of_le_of_lt (iA hD hE) ?_ (iw (Aj _) (Aj _));exact Nat.mul_lt_mul_of_lt_of_le (by show _<128;omega) (aa _) (iw ha hb)
theorem NS(p q:List Rat)(A B:Nat)(hp:∀a∈p,Fit A a)(hq:∀a∈q,Fit B a)(hl:p.length<=100:=by omega)(hl2:q.length<=100:=by omega)(hB:A*(p.length+1)+B*(q.length+1)+7<=8589934592:=by omega):aU prog 64 [.one (sQ p),.one (sQ q)] (.ret [.one (sQ (fP p q))]):=by
 obtain⟨D,E,h0,h1,h2,h3,h4⟩:=Mj hp hq hl;exact aH0 p q D E _ _ _ h0 h1 h2 h3 hB h4
theorem rz{A B:Nat}{p q:List Rat}(hp:∀a∈p,Fit A a)(hq:∀a∈q,Fit B a)(hl:p.length<=100):∀a∈fP p q,Fit (A*(p.length+1)+B*(q.length+1)+7) a:=by
 intro a ha;unfold fP at ha;split at ha
 ·cases ha
 ·rename_i hne;obtain⟨D,E,h0,h1,h2,h3,h4⟩:=Mj hp hq hl;obtain⟨_,_,f3,_⟩:=CM h0 h1 h4;have hpos:0<p.length:=YJ.2 fun e=>hne (.inl e);refine f3 a (p.length-1) (by omega) ?_;have hb:=vR h0 h1 h2 h3 p.length a (iL ha);generalize (2^A-1)*(2^B-1)=X at hb|-
  rwa[show(p.length-1)*X+X=p.length*X by rw[<-PD,show(p.length-1).succ=p.length by omega]]
theorem sM(p q:List Rat):(fP p q).length<=p.length+q.length-1:=by
 unfold fP;split
 ·simp
 ·have h:=gX (mulL p q p.length);have h2:=jX (z:=zr) (mulL p q p.length);rw[iO]at h2;rw[h];exact h2
def adF(p q:List RQ):List RQ:=kY ((List.range (max p.length q.length)).map (Qo p q))
def VW(p:List RQ)(k:RQ):List RQ:=kY ((List.range p.length).map (scR p k))
def Si(p q:List RQ):Nat->List RQ
 | 0=>[]
 | i+1=>adF (Si p q i) (List.replicate i .nil++VW p (q.getD i .nil))
theorem Dc(p:List RQ):(kY p).length<=p.length:=by rw[Nn];exact jX p
theorem PE(p:List RQ)(k:RQ):(VW p k).length<=p.length:=by have:=Dc ((List.range p.length).map (scR p k));simpa[VW]using this
theorem aZ4(p q:List RQ):(adF p q).length<=max p.length q.length:=by have:=Dc ((List.range (max p.length q.length)).map (Qo p q));simpa[adF]using this
theorem QG{A B:Nat}{p:List RQ}{k:RQ}(hA:1<=A)(hp:∀a∈p,Fit A a.q)(hk:Fit B k.q):∀a∈VW p k,Fit (A+B) a.q:=fun a ha=>by
 obtain⟨i,hi,rfl⟩:=dH.1 (iL ha);exact(wJ hA hp i).mul hk
theorem aS5{A B:Nat}{p q:List RQ}(hA:1<=A)(hB:1<=B)(hp:∀a∈p,Fit A a.q)(hq:∀a∈q,Fit B a.q):∀a∈adF p q,Fit (A+B+1) a.q:=fun a ha=>by
 obtain⟨i,hi,rfl⟩:=dH.1 (iL ha);exact(wJ hA hp i).add (wJ hB hq i)
theorem zG(p q:List RQ):∀i,(Si p q i).length<=i+p.length
 | 0=>by simp[Si]
 | i+1=>by
   have h1:=zG p q i;have h2:=aZ4 (Si p q i) (List.replicate i .nil++VW p (q.getD i .nil));have h3:=PE p (q.getD i .nil);rw[cJ,eX]at h2;rw[Si];omega
theorem at6{A:Nat}{p:List RQ}(i:Nat)(hp:∀a∈p,Fit A a.q)(hA:1<=A:=by omega):∀a∈List.replicate i RQ.nil++p,Fit A a.q:=fun a ha=>by
 rcases fI.1 ha with h | h
 ·rw[(jW.1 h).2];exact Fit.zero hA
 ·exact hp a h
theorem aq8{B:Nat}{q:List RQ}(hB:1<=B)(hq:∀a∈q,Fit B a.q)(i:Nat):Fit B (q.getD i .nil).q:=wJ hB hq i
theorem zR{A B:Nat}{p q:List RQ}(hA:1<=A)(hB:1<=B)(hp:∀a∈p,Fit A a.q)(hq:∀a∈q,Fit B a.q):∀i,∀a∈Si p q i,Fit (1+i*(A+B+1)) a.q
 | 0,a,h=>by cases h
 | i+1,a,h=>by
   have h1:=zR hA hB hp hq i;have h2:=at6 i (QG hA hp (aq8 hB hq i));exact(aS5 (by omega) (by omega) h1 h2 a h).mono (by rw[bX];omega)
theorem rb{α β:Type}{R:α->β->Prop}{a:α}{b:β}(h:R a b):∀n,ak R (List.replicate n a) (List.replicate n b)
 | 0=>trivial
 | n+1=>⟨h,rb h n⟩
theorem ag9(n:Nat)(us:List RQ):ak (ak aC.Sub) (List.replicate n [.int .i64 0,.exact (.slice none 0 0),.int .i64 0,.exact (.slice none 0 0)]++us.map rC) ((List.replicate n RQ.nil++us).map rC):=by
 rw[bt,nq];exact ak.append (rb cc0 n) (ak.tq (ak.tq aC.Sub.refl) _)
theorem aM5(p q:List RQ)(A B:Nat)(hB:1<=B)(hp:∀a∈p,Fit A a.q)(hq:∀a∈q,Fit B a.q)(hA:1<=A:=by omega)(hs:p.length<=1000:=by omega)(qj:q.length<=1000:=by omega)(hAB:A+B<=500000:=by omega):aU prog 101 [(.one (sR p):aN),(.one (sR q):aN)] (.ret [.one (sR (Si p q q.length))]):=by
 refine dL func101 bI9 ?_;refine bE {i:Nat // i<=q.length} (fun g=>[.one (sR (Si p q g.1)),.one (.int .i64 (g.1:Int))]) (fun g=>q.length-g.1) ⟨0,cz _⟩ ⟨aC.Sub.nil,aN.Sub.same,trivial⟩ (fun _=>rfl) ?_;rintro⟨i,hi⟩;dsimp only[aE,aF]at hi|-;apply vn (aP jv (aI _));apply vn aj;refine vs _ rfl ?_ ?_<;>intro h3
 ·obtain⟨x,hx⟩:∃x,q[i]?=some x:=⟨_,bQ (by omega)⟩
  have hat:q.getD i .nil=x:=by rw[fQ,hx];rfl
  have hfx:=hq x (ei hx);have hml:=zG p q i;have hsl:=PE p x;have hmf:=zR hA hB hp hq i;have hm:i*(A+B+1)<=1000*(A+B+1):=cN _ (by omega);have hlen:(List.replicate i ([.int .i64 0,.exact (.slice none 0 0),.int .i64 0,.exact (.slice none 0 0)]:List aC)++(VW p x).map rC).length=i+(VW p x).length:=by rw[cJ,eX,aI]
  refine ri (n:=i) (m:=i) (us:=List.replicate i [.int .i64 0,.exact (.slice none 0 0),.int .i64 0,.exact (.slice none 0 0)]) rfl rfl rfl (aa _) (by omega) (by simp only[maxLen];omega) ?_;apply vn (aJ jv (m:=i) (by omega) (av i) hx);dsimp only[aE,aF];apply vn (aQ gB (by decide) (by simp) (.inl rfl));apply aA (ER p x A B hp hfx);refine uH (ts:=List.replicate i [.int .i64 0,.exact (.slice none 0 0),.int .i64 0,.exact (.slice none 0 0)]) (us:=(VW p x).map rC) (vs:=List.replicate i [.int .i64 0,.exact (.slice none 0 0),.int .i64 0,.exact (.slice none 0 0)]++(VW p x).map rC) rfl (.inr aC.Sub.same) rfl (by rw[hlen];omega) (by rw[hlen];simp only[maxLen];omega) ?_;dsimp only[aE,aF];refine Mv (show aZ _ [.one (sR (Si p q i)),.one (sR (List.replicate i .nil++VW p x))]from⟨aN.Sub.same,aC.Sub.slice (ag9 i _),trivial⟩) (XO _ _ (1+i*(A+B+1)) (A+B) hmf (at6 i (QG hA hp hfx)) (by rw[cJ,eX];omega)) rfl ?_;apply vn (aB (by omega) (by omega));dsimp only[aE,aF];exact ab rfl ⟨⟨i+1,by omega⟩,aZ.of_eq (by dsimp only;rw[Si,hat];rfl),by show q.length-(i+1)<q.length-i;omega⟩
 rw[show q.length=i by omega];exact aL
theorem sL(p:List Rat)(k x:Rat):ev (wi p k) x=ev p x*k:=by
 rw[wi,lW,<-Fu]
 congr 1
 apply List.ext_getElem
 ·simp
 ·intro i h1 h2;simp only[List.getElem_map,List.getElem_range,scI];rw[fQ,bQ (by simpa using h2)];rfl
theorem aD2(p q:List RQ)(x:Rat):∀i,i<=q.length->ev ((Si p q i).map RQ.q) x=ev (p.map RQ.q) x*ev ((q.map RQ.q).take i) x
 | 0,_=>by simp[Si,ec]
 | i+1,hi=>by
   have ih:=aD2 p q x i (by omega);obtain⟨a,ha⟩:∃a,q[i]?=some a:=⟨_,bQ (by omega)⟩
   have hat:q.getD i .nil=a:=by rw[fQ,ha];rfl
   have hma:(q.map RQ.q)[i]?=some a.q:=by rw[cn,ha];rfl
   rw[Si,adF,ad5,jx,ih,bt,nq,wj,eX,show RQ.nil.q=0 from rfl,WA,pk hma,VW,YN,sL,hat]
   grind
theorem ah0(p q:List RQ):∀i,lz ((Si p q i).map RQ.q)
 | 0=>fun a h=>by cases h
 | i+1=>by rw[Si,adF,pH];exact gj _
theorem ZO(p q:List RQ):(Si p q q.length).map RQ.q=fP (p.map RQ.q) (q.map RQ.q):=
 uR (ah0 p q _) (DU _ _) fun x=>by rw[aD2 p q x _ (aa _),mK,dP (by simp)]
def XF(ps:List (List Rat))(i:Nat):List Rat:=fP ((xk (xk ps)).getD i []) ((xk (xk ps)).getD i [])
def bnI(ks:List Rat)(ps:List (List Rat))(i:Nat):Rat:=tX (ZU (XF ps i)) (ks.getD (i+1) 0)-tX (ZU (XF ps i)) (ks.getD i 0)
def LU(ks:List Rat)(ps:List (List Rat)):Nat->Rat
 | 0=>0
 | i+1=>LU ks ps i+bnI ks ps i
theorem bk1{A:Nat}{ks:List Rat}{ps:List (List Rat)}(T:SF A ks ps):∀p∈xk (xk ps),p.length<=9/\∀a∈p,Fit (A+24) a:=fun p hp=>by
 have h0:Wl A ps:=fun q hq=>⟨by have:=(T.hp q hq).1;omega,(T.hp q hq).2⟩
 have h2:=((h0.dv T.hA1).dv (by omega)) p hp;refine⟨?_,fun a ha=>(h2.2 a ha).mono (by omega)⟩;obtain⟨q,hq,rfl⟩:=dH.1 hp;obtain⟨r,hr,rfl⟩:=dH.1 hq;have h3:=zM r;have h4:=zM (ly r);have h5:=(T.hp r hr).1;omega
theorem bm6{A:Nat}{ks:List Rat}{ps:List (List Rat)}(T:SF A ks ps){i:Nat}(hi:i<ps.length):(XF ps i).length<=17/\∀a∈XF ps i,Fit 20488 a:=by
 have h:=bk1 T _ (Ud (ps:=xk (xk ps)) (i:=i) (by simpa using hi));have hA:=T.hA;refine⟨by have:=sM ((xk (xk ps)).getD i []) ((xk (xk ps)).getD i []);rw[XF];omega,fun a ha=>?_⟩;have hm:(A+24)*(((xk (xk ps)).getD i []).length+1)<=1024*10:=iA (by omega) (by omega);exact(rz h.2 h.2 (by omega) a ha).mono (by omega)
theorem bl0{A:Nat}{ks:List Rat}{ps:List (List Rat)}(T:SF A ks ps){i:Nat}(hi:i<ps.length):(ZU (XF ps i)).length<=18/\(∀a∈ZU (XF ps i),Fit 20500 a)/\∀j,Fit 738100 (tX (ZU (XF ps i)) (ks.getD j 0)):=by
 have h:=bm6 T hi;have hl:=aU8 (XF ps i);have hf:=be7 (A:=20488) (by omega) h.2;refine⟨by omega,hf,fun j=>?_⟩;have hA:=T.hA;obtain⟨F,hF⟩:∃F,F=20500:=⟨_,rfl⟩
 replace hf:∀a∈ZU (XF ps i),Fit F a:=by rw[hF];exact hf
 have hx:Fit F (ks.getD j 0):=(aD T.hk j T.hA1).mono (by omega);have hm:(ZU (XF ps i)).length*(2*F+1)<=18*(2*F+1):=cN _ (by omega);exact(Lu (by omega) hx _ hf).mono (by omega)
theorem Vu{A:Nat}{ks:List Rat}{ps:List (List Rat)}(T:SF A ks ps):∀i,i<=ps.length->Fit (1+i*1476202) (LU ks ps i)
 | 0,_=>Fit.zero (by omega)
 | i+1,hi=>by
   have h:=bl0 T (show i<ps.length by omega);have h2:=(Vu T i (by omega)).add ((h.2.2 (i+1)).sub (h.2.2 i));exact h2.mono (by rw[bX];omega)
theorem aW6(ks:List Rat)(ps:List (List Rat))(A:Nat)(h:TN ks ps=true)(T:SF A ks ps):aU prog 20 [(.agg [sQ ks,eQ ps]:aN)] (.ret [qT (LU ks ps ps.length),.one (.int .i64 0)]):=by
 refine dL func20 bh3 ?_;have hA:=T.hA;have hA1:=T.hA1;have hn:=T.hn;have hl:=T.hl;have hc:=CA ks ps A T.hk hA1 (fun p h=>by have:=(T.hp p h).1;omega);rw[aK h]at hc;have h0:Wl A ps:=fun q hq=>⟨by have:=(T.hp q hq).1;omega,(T.hp q hq).2⟩
 have h1:=h0.dv hA1;apply aA hc;apply vn fC;refine vs _ rfl ?_ ?_<;>intro h2
 ·exact absurd rfl h2
 apply aA (Lj ks ps A (by omega) (fun p h=>⟨by have:=(h0 p h).1;omega,(h0 p h).2⟩) hA1) rfl;apply aA (Lj ks (xk ps) (A+12) (by rw[aI];omega) (fun p h=>⟨by have:=(h1 p h).1;omega,(h1 p h).2⟩)) rfl;dsimp only[aE,aF];apply vn (aP sO (n:=ps.length) (by simp));refine bE {i:Nat // i<=ps.length} (fun g=>(.one (.int .i64 (g.1:Int)):aN)::(qC (LU ks ps g.1)).map .one) (fun g=>ps.length-g.1) ⟨0,cz _⟩ ⟨aN.Sub.same,nA.1,nA.2.1,nA.2.2.1,trivial⟩ (fun _=>rfl) ?_;rintro⟨i,hi⟩;dsimp only[aE,aF,List.map]at hi|-;apply vn aj;refine vs _ rfl ?_ ?_<;>intro h9
 ·have hi':i<ps.length:=by omega
  obtain⟨F1,hF1⟩:∃F,F=20488:=⟨_,rfl⟩
  obtain⟨F2,hF2⟩:∃F,F=20500:=⟨_,rfl⟩
  obtain⟨F3,hF3⟩:∃F,F=738100:=⟨_,rfl⟩
  have hb:=bl0 T hi';have hs:=bm6 T hi';rw[<-hF2,<-hF3]at hb;rw[<-hF1]at hs;have hd:=bk1 T _ (Ud (ps:=xk (xk ps)) (i:=i) (by simpa using hi'));have hbf:=Vu T i (by omega);have hm:i*1476202<=20*1476202:=cN _ (by omega);have hm1:(A+24)*(((xk (xk ps)).getD i []).length+1)<=1024*10:=iA (by omega) (by omega);have hm2:(ZU (XF ps i)).length*(2*F2+2)<=18*(2*F2+2):=cN _ hb.1;have hkf:∀j,Fit F2 (ks.getD j 0):=fun j=>(aD T.hk j hA1).mono (by omega);apply vn (aJ sO (m:=i) (by omega) (av i) (aP6 (ps:=xk (xk ps)) (by simpa using hi')));apply vn (bg Yd);apply aA (NS _ _ (A+24) (A+24) hd.2 hd.2);dsimp only[aE,aF];apply aA (Ua (XF ps i) F1 hs.2);apply vn (aB (by omega) (by omega));dsimp only[aE,aF];apply vn (aJ ay (m:=i+1) (by omega) (by omega) (aX (show i+1<ks.length by omega)));apply vn (aQ cM (by decide) (by simp) (.inl rfl));apply aA (aa0 (ZU (XF ps i)) (ks.getD (i+1) 0) F2 hb.2.1 (hkf _));dsimp only[aE,aF];apply vn (aJ ay (m:=i) (by omega) (av i) (aX (show i<ks.length by omega)));apply vn (aQ cM (by decide) (by simp) (.inl rfl));apply aA (aa0 (ZU (XF ps i)) (ks.getD i 0) F2 hb.2.1 (hkf _));apply aA (kq _ _ _ _ (hb.2.2 (i+1)) (hb.2.2 i));dsimp only[aE,aF];apply aA (ph (LU ks ps i) (bnI ks ps i) _ _ hbf ((hb.2.2 (i+1)).sub (hb.2.2 i)));apply vn (aB (by omega) (by omega));dsimp only[aE,aF];exact ab rfl ⟨⟨i+1,by omega⟩,aZ.rfl,by show ps.length-(i+1)<ps.length-i;omega⟩
 rw[show ps.length=i by omega];exact aL
def rU:Tr:=hx154Q 
def aR4:Tr:=aR 11 0 rU (qS .gtr 2 33 999999 7 1 4 (aR 12 0 rU (iC 7 1 (-999999) 2 38 (aR 13 0 rU (ao 3 1 3 11 (iY 0 2 14))))))
def bL5:Tr:=bW 6 3 27 15 (aw5 7 18 (.need (.prim [(W 8 0),(.one (.c (.k (.int .u8 0))))] none) (.binOp .neq 5 (tT 19) (.const (.int .u8 0)) 5) 4 false (aR 9 0 rU (qS .gtr 2 23 999999 7 0 4 (aR 10 0 rU (iC 7 0 (-999999) 2 28 aR4))))))
def bM7:Tr:=xj 0 (al 0 0 8 22 (dD 3 0 4 3 7 9 4 (aR 5 0 (bA 0 0 3 0 22 13 14 bL5) (al 0 0 41 22 (oe .leq 3 42 43 6 0 1 0 4 (cH 7))))))
theorem bf4:aV prog f13 ck [.v none,.v none]=bM7:=by kernel_rfl
def br0:Tr:=mz 126 1 6 102 102 (gR 43 0 0 2 5 7 28 32 4 (cH 3))
theorem bh4:aV prog f46 ck [.v none,.v none]=br0:=by kernel_rfl
def aQ0:Tr:=bA 1 1 8 0 33 34 35 (dh 13 102 36 (gR 46 12 0 14 32 37 98 102 4 (kL 15 0 38 (aR 16 0 rU (ao 8 1 3 26 (iY 0 7 17))))))
def bv5:Tr:=aR 6 0 rU (xj 0 (al 0 1 23 29 (dD 8 0 9 3 21 24 4 (aR 10 0 (bA 0 1 8 0 29 29 30 (dh 11 98 31 aQ0)) (.ret [(tF true)])))))
def bo9:Tr:=UJ 43 0 1 7 9 28 32 4 (kL 2 0 10 (aR 3 0 rU (al 0 1 14 29 (al 1 1 17 33 (oe .neq 3 15 18 4 0 5 0 4 bv5)))))
theorem aO6:aV prog f25 ck [.v (some 2),.v (some 2)]=bo9:=by kernel_rfl
def bH7:Tr:=al 0 0 4 28 (al 0 1 7 29 (fF 1 2 3 5 8 (eB 3 0 0 3 9 (cH 4))))
theorem aM2:aV prog f24 ck [.v (some 2)]=bH7:=by kernel_rfl
def de.ay8(x:de):Bool:=decide (x.pow%4=0/\x.n<=999999/\-999999<=x.n/\x.d<=999999/\-999999<=x.d)
def jl(l:List de)(m:Int):Bool:=l.all de.ay8&&decide ((l.length:Int)<=m)
theorem aH4{x:de}(h:x.ay8=true):Fit 40 x.v:=by
 have h:=qG h;have e:x.v=x.b:=by rw[de.v,h.1,lR,ss,vD]
 rw[e,de.b];refine(Fit.int (B:=20) (by omega) (by have:(2:Nat)^20=1048576:=rfl;omega)).div (C:=20) ?_;split
 ·exact Fit.int (by omega) (by decide)
 ·exact Fit.int (by omega) (by have:(2:Nat)^20=1048576:=rfl;omega)
theorem TE{l:List de}{m:Int}(h:jl l m=true):(l.length:Int)<=m:=by
 rw[jl,bR,mH]at h;exact h.2
theorem mF(l:List de)(m:Int)(hs:l.length<140737488355328):aU prog 13 [(.one (sN l):aN),(.one (.int .i64 m):aN)] (.ret [.one (.bool (jl l m))]):=by
 refine dL func13 bf4 ?_
 have hno:∀(i:Nat)(x:de),l[i]?=some x->x.ay8=false->jl l m=false:=fun i x hx hf=>by
  rw[jl,Bool.and_eq_false_iff];exact .inl (by rw[List.all_eq_false];exact⟨x,ei hx,by rw[hf];exact Bool.false_ne_true⟩)
 refine bE {i:Nat // i<=l.length/\∀(j:Nat)(x:de),j<i->l[j]?=some x->x.ay8=true} (fun g=>[.one (.bool false),.one (.int .i64 (g.1:Int))]) (fun g=>l.length-g.1) ⟨0,cz _,fun j x hj=>absurd hj (by omega)⟩ aZ.rfl (fun _=>rfl) ?_;rintro⟨i,hi,hb⟩;dsimp only[aE,aF]at hi hb|-;apply vn (aP Yq (aI _));apply vn aj;refine vs _ rfl ?_ ?_<;>intro h3
 ·obtain⟨x,hx⟩:∃x,l[i]?=some x:=⟨_,bQ (by omega)⟩
  apply vn (aJ Yq (by omega) (by omega) hx);apply vn (aQ cg4 (by decide) (by simp) (.inl rfl));dsimp only[aE,aF];apply vn mX;apply vn fC;refine vs _ rfl ?_ ?_<;>intro h8
  ·rw[hno i x hx (cE (by rintro⟨a1,a2,a3,a4,a5⟩;omega))];exact aL
  apply vn fB;refine vs _ rfl ?_ ?_<;>intro h11
  ·rw[hno i x hx (cE (by rintro⟨a1,a2,a3,a4,a5⟩;omega))];exact aL
  apply vn aj;dsimp only[aE,aF];refine vs _ rfl ?_ ?_<;>intro h14
  ·rw[hno i x hx (cE (by rintro⟨a1,a2,a3,a4,a5⟩;omega))];exact aL
  apply vn fB;refine vs _ rfl ?_ ?_<;>intro h17
  ·rw[hno i x hx (cE (by rintro⟨a1,a2,a3,a4,a5⟩;omega))];exact aL
  apply vn aj;refine vs _ rfl ?_ ?_<;>intro h20
  ·rw[hno i x hx (cE (by rintro⟨a1,a2,a3,a4,a5⟩;omega))];exact aL
  apply vn (aB (by omega) (by omega))
  exact ab rfl ⟨⟨i+1,by omega,fun j y hj hy=>by
   rcases fY j i with h | h
   ·exact hb j y h hy
   ·obtain rfl:j=i:=by omega
    rw[hx]at hy;obtain rfl:=dA hy;exact bV ⟨by omega,by omega,by omega,by omega,by omega⟩⟩,aZ.rfl,by show l.length-(i+1)<l.length-i;omega⟩
 apply vn (aP Yq (aI _));dsimp only[aE,aF];apply vn jO;dsimp only[aE,aF]
 rw[jl,show l.all de.ay8=true by
  rw[er];intro x hx;obtain⟨j,hj,rfl⟩:=QH.1 hx;exact hb j _ (by omega) (bQ hj)];exact aL
theorem bf3(p:List Rat)(q:List RQ)(B:Nat)(hp:∀a∈p,Fit B a)(hq:∀a∈q,Fit B a.q)(hB:B<=34359738360)(hs:p.length<1099511627776)(qj:q.length<1099511627776)(he:p=trim (q.map RQ.q)):aU prog 46 [(.one (sQ p):aN),(.one (sR q):aN)] (.ret [.one (.bool true)]):=by
 refine dL func46 bh4 ?_;apply aA (Aq q qj);dsimp only[aE,aF];have ha:=ow p (kY q) B hp (fun a h=>hq a (iL h)) hs (by have:=Dc q;omega) hB;rw[pH,bV he]at ha;apply aA ha;exact aL
theorem oq(l:List de):(kX l).map RQ.q=cP l:=by
 rw[kX,cP,et];apply fW;intro x _;exact RQ.Pv _
theorem bd1(ks:List Rat)(ps:List (List Rat))(kr:List RQ)(pr:List (List RQ))(B:Nat)(h1:ks=kr.map RQ.q)(h2:ps=(eqR pr).map trim)(hk:∀a∈kr,Fit B a.q)(hp:∀p∈pr,p.length<1099511627776/\∀a∈p,Fit B a.q)(hs:kr.length<1099511627776)(qj:pr.length<1099511627776)(hB:B<=34359738360:=by omega):aU prog 25 [(.agg [sQ ks,eQ ps]:aN),(.agg [sR kr,eR pr]:aN)] (.ret [.one (.bool true)]):=by
 refine dL func25 aO6 ?_;have hl:ks.length=kr.length:=by rw[h1,aI]
 have hl2:ps.length=pr.length:=by rw[h2,aI,aS0]
 have ha:=ow ks kr B (fun a h=>by rw[h1]at h;obtain⟨b,hb,rfl⟩:=dH.1 h;exact hk b hb) hk (by omega) hs hB;rw[bV h1]at ha;apply aA ha;apply vn gQ;refine jm false rfl (fun h=>by cases h) (fun _=>?_);apply vn (aP sO (aI _));apply vn (aP bh7 (aI _));dsimp only[aE,aF];apply vn fC;refine vs _ rfl ?_ ?_<;>intro h7
 ·omega
 refine bE {i:Nat // i<=ps.length} (fun g=>[.one (.bool false),.one (.int .i64 (g.1:Int))]) (fun g=>ps.length-g.1) ⟨0,cz _⟩ aZ.rfl (fun _=>rfl) ?_;rintro⟨i,hi⟩;dsimp only[aE,aF]at hi|-;apply vn (aP sO (aI _));apply vn aj;refine vs _ rfl ?_ ?_<;>intro h12
 ·obtain⟨q,hq⟩:∃q,pr[i]?=some q:=⟨_,bQ (by omega)⟩
  have hp1:ps[i]?=some (trim (q.map RQ.q)):=by rw[h2,cn,aX6 hq];rfl
  have hqq:=hp q (ei hq);apply vn (aJ sO (by omega) (by omega) hp1);apply vn (bg Yd);dsimp only[aE,aF];apply vn (aJ bh7 (by omega) (by omega) hq);apply vn (bg bk8);apply aA (bf3 (trim (q.map RQ.q)) q B (vM fun a h=>by obtain⟨b,hb,rfl⟩:=dH.1 h;exact hqq.2 b hb) hqq.2 hB (by have:=gX (q.map RQ.q);have h3:=jX (z:=zr) (q.map RQ.q);rw[aI]at h3;omega) hqq.1 rfl) rfl;apply vn gQ;dsimp only[aE,aF];refine jm false rfl (fun h=>by cases h) (fun _=>?_);apply vn (aB (by omega) (by omega));dsimp only[aE,aF];exact ab rfl ⟨⟨i+1,by omega⟩,aZ.rfl,by show ps.length-(i+1)<ps.length-i;omega⟩
 exact aL
theorem wF  :aU prog 24 [(.agg [sQ [],eQ []]:aN)] (.ret [.one (.bool true)]):=by
 refine dL func24 aM2 ?_;apply vn (aP ay (n:=0) rfl);apply vn (aP sO (n:=0) rfl);apply vn (aB (by omega) (by omega));apply vn bj;exact aL
end Go.Sy
