/- Part. -/
import Derived.Test.YtacgmapjhpghkaaGreatDoorPb
set_option linter.all false
namespace Go.Sy
open Go Go.Proofs Tryz Ord
def cg0:Tr:=dD 4 0 3 3 11 10 0 (aR 6 0 (.need (.callv (.u 1 0) [(W 4 0)] [(some 3)]) (.call ⟨.value (tT 16),#[(tT 17)],#[3]⟩) 46 true (cF 5 4 98 14 15 (Zi 5 4 7 19 18 (ao 4 1 3 11 (gq 0 9 8))))) (uW 157 3 5 21 98 (cH 7)))
def cd6:Tr:=ab2 0 98 7 (uz 2 9 98 (Ed 0 2 cg0))
theorem aV1:aV prog f159 ck [.v none,.v none]=cd6:=by kernel_rfl
def as6:Tr:=kZ 5 5 2
def bm2:Tr:=.ret [(.agg [tN,(tE (.bool false)),tN])]
def cg3:Tr:=al 0 0 6 98 (dD 1 0 2 3 5 7 4 (aR 3 0 (bA 0 0 1 0 98 9 10 (bW 4 3 46 11 as6)) bm2))
theorem bV6:aV prog f161 ck [.v none,.v none]=cg3:=by kernel_rfl
def bR7:Tr:=VD 161 1 0 3 5 6 98 3 46 (Bj 161 2 0 0 3 8 9 98 3 46 (jN 88 3 3 1 3 2 4 7 10 as6))
theorem aK9:aV prog f160 ck [.v none,.ref 1,.ref 1]=bR7:=by kernel_rfl
def cc8:Tr:=al 0 0 5 98 (al 1 0 7 98 (.need (.prim [(W 2 0),(W 3 0)] none) (.call ⟨.builtin .max,#[(tT 6),(tT 8)],#[3,3]⟩) 3 false (fO 159 [(W 4 0),(.one (.gp 160 [(.ref 0 [(.u 0 0)]),(.ref 0 [(.u 1 0)])]))] [none] [9,10] [3,165] 98 true (cH 5))))
theorem by2:aV prog f66 ck [.v none,.v none]=cc8:=by kernel_rfl
def ci4:Tr:=bA 1 0 0 0 98 5 6 (bW 3 3 46 7 (jN 76 4 4 1 4 2 2 8 9 as6))
theorem Xt:aV prog f194 ck [.v none,.ref 1,.ref 3]=ci4:=by kernel_rfl
def aq9:Tr:=cH 3
def ck4:Tr:=al 0 0 5 98 (fO 159 [(W 2 0),(.one (.gp 194 [(.ref 0 [(.u 0 0)]),(.ref 0 [(.u 1 0),(.u 1 1),(.u 1 2)])]))] [none] [6,7] [3,165] 98 true aq9)
theorem aq6:aV prog f125 ck [.v none,.v (some 3)]=ck4:=by kernel_rfl
def av2:Tr:=hx173Q 
def bJ7:Tr:=OM 21 26 3 46 50 (jN 76 16 16 1 16 2 24 52 53 (jN 88 27 27 1 27 2 28 51 54 (cF 21 25 98 42 45 (Zi 21 25 29 56 55 (ao 20 1 3 37 (gq 1 31 30))))))
def bE8:Tr:=dD 20 0 19 3 37 36 0 (aR 22 0 (bA 1 0 20 0 98 35 37 (bW 23 3 46 40 (fF 12 20 3 43 44 (fF 12 20 3 47 48 (cF 21 26 98 46 49 bJ7))))) (ao 12 1 3 27 (gq 0 23 21)))
def bs7:Tr:=bA 0 0 12 0 98 25 27 (bW 15 3 46 30 (EK 23 16 32 3 (eB 17 0 0 3 33 (aR 18 0 (ao 12 1 3 27 (gq 0 19 13)) (al 1 0 35 98 (Ed 1 13 bE8))))))
def bE4:Tr:=ab2 9 98 23 (al 0 0 25 98 (Ed 0 10 (dD 12 0 11 3 27 26 0 (aR 14 0 bs7 (uW 157 3 13 59 98 (cH 15))))))
def bU9:Tr:=al 1 0 14 98 (eB 4 0 0 3 15 (aR 5 0 av2 (al 0 0 18 98 (al 1 0 20 98 (fF 6 7 3 19 21 (dp 8 1 22 bE4))))))
def bT8:Tr:=al 0 0 10 98 (eB 2 0 0 3 11 (aR 3 0 av2 bU9))
theorem bp1:aV prog f64 ck [.v none,.v none]=bT8:=by kernel_rfl
def cb6:Tr:=pI 63 1 3 2 46 (az1 0 1 3 4 (nP 3 2))
theorem be4:aV prog f232 ck [.v (some 3)]=cb6:=by kernel_rfl
def YK:Tr:=cH 2
def bX4:Tr:=wM 0 98 3 (uW 157 3 1 4 98 YK)
theorem Sp:aV prog f251 ck [.v (some 3)]=bX4:=by kernel_rfl
theorem am2(n:Nat):ak (ak aC.Sub) (List.replicate n [.exact (.slice none 0 0),.bool false,.exact (.slice none 0 0)]) (rQ (List.replicate n 0)):=by
 induction n with
 | zero=>trivial
 | succ n ih=>rw[jU,jU];exact⟨nA,ih⟩
theorem aC5(n:Nat):aN.Sub (.rows (List.replicate n [.exact (.slice none 0 0),.bool false,.exact (.slice none 0 0)])) (.rows (rQ (List.replicate n 0))):=am2 n
def part(f:Nat->Rat)(n i:Nat):List Rat:=(List.range i).map f++List.replicate (n-i) 0
theorem UX{f:Nat->Rat}{n i:Nat}(h:i<=n):(part f n i).length=n:=by simp[part];omega
theorem Ug{f:Nat->Rat}{n i:Nat}(h:i<n):(part f n i).set i (f i)=part f n (i+1):=by
 rw[part,part,gx,bt,RJ _ _ (by simp)];rw[show n-i=(n-(i+1))+1 by omega,jU];simp
theorem Av(n:Nat)(g:Nat)(caps:List aC)(f:Nat->Rat)(hf:∀i,i<n->aU prog g (.one (.int .i64 (i:Int))::caps.map .one) (.ret [qT (f i)]))(hn:n<1099511627776):aU prog 159 [(.one (.int .i64 n):aN),(.one (.gp g caps):aN)] (.ret [.one (sQ (trim ((List.range n).map f)))]):=by
 refine dL func159 aV1 ?_;refine ri (n:=n) (m:=n) rfl rfl rfl (aa _) (by omega) (by simp only[maxLen];omega) ?_;refine Hl rfl (eX) ?_;refine bE {i:Nat // i<=n} (fun g=>[.one (.int .i64 g.1),.rows (rQ (part f n g.1))]) (fun g=>n-g.1) ⟨0,cz _⟩ ⟨aN.Sub.same,aC5 n,trivial⟩ (fun _=>rfl) ?_;rintro⟨i,hi⟩;dsimp only[aE,aF]at hi|-;have hpl:=UX (f:=f) hi;apply vn aj;refine vs _ rfl ?_ ?_<;>intro h4
 ·apply Dt (f:=g) (caps:=caps) rfl (hf i (by omega)) rfl;refine br rfl rfl (by omega) (by first | omega | (rw[bJ];omega)) ?_;obtain⟨q,hq⟩:∃q,(part f n i)[i]?=some q:=⟨_,bQ (by omega)⟩
  refine iJ (f:=qC) (d':=f i) rfl rfl (by omega) (av i) hq rfl ?_;rw[Ug (by omega)];apply vn (aB (by omega) (by omega));dsimp only[aE,aF];exact ab rfl ⟨⟨i+1,by omega⟩,aZ.rfl,by show n-(i+1)<n-i;omega⟩
 have hin:i=n:=by omega
 subst hin;rw[show part f i i=(List.range i).map f by simp[part]];apply aA (Az ((List.range i).map f) (by rw[aI,oh];omega)) rfl;exact aL
theorem bl6(p:List Rat)(i:Nat)(hi:i<4611686018427387904):aU prog 161 [(.one (sQ p):aN),(.one (.int .i64 i):aN)] (.ret [qT (p.getD i 0)]):=by
 refine dL func161 bV6 ?_;apply vn (aP kg (aI _));apply vn aj;refine vs _ rfl ?_ ?_<;>intro h2
 ·have hlt:i<p.length:=by omega
  apply vn (aJ kg (by omega) (av i) (aX hlt));apply vn (aQ cM (by decide) (by simp) (.inl rfl));exact aL
 rw[show p.getD i 0=0 by rw[fQ,iR (by omega)];rfl];exact fK ⟨nA,trivial⟩
theorem aD{A:Nat}{l:List Rat}(h:∀a∈l,Fit A a)(i:Nat)(hA:1<=A:=by omega):Fit A (l.getD i 0):=by
 rw[fQ];cases hi:l[i]? with
 | none=>exact Fit.zero hA
 | some a=>exact h a (ei hi)
theorem aF9(p q:List Rat)(i A B:Nat)(hA:1<=A)(hB:1<=B)(hp:∀a∈p,Fit A a)(hq:∀b∈q,Fit B b)(h:A+B<=34359738368)(hi:i<4611686018427387904:=by omega):aU prog 160 [(.one (.int .i64 i):aN),(.one (.aw ([sQ p])):aN),(.one (.aw ([sQ q])):aN)] (.ret [qT (p.getD i 0+q.getD i 0)]):=by
 refine dvr (ins:=[.v (.one (.int .i64 i)),.ref ([sQ p]),.ref ([sQ q])]) func160 aK9 ?_;apply aA (bl6 p i hi);apply aA (bl6 q i hi);apply aA (ph _ _ A B (aD hp i hA) (aD hq i hB) h);exact aL
def kH(p q:List Rat):List Rat:=trim ((List.range (max p.length q.length)).map fun i=>p.getD i 0+q.getD i 0)
theorem Xy(p q:List Rat)(A B:Nat)(hp:∀a∈p,Fit A a)(hq:∀b∈q,Fit B b)(hql:q.length<1099511627776)(hA:1<=A:=by omega)(hB:1<=B:=by omega)(hpl:p.length<1099511627776:=by omega)(h:A+B<=34359738368:=by omega):aU prog 66 [(.one (sQ p):aN),(.one (sQ q):aN)] (.ret [.one (sQ (kH p q))]):=by
 refine dL func66 by2 ?_;apply vn (aP kg (aI _));apply vn (aP kg (aI _));apply vn (aM3 (k:=.i64) (a:=(p.length:Int)) (b:=(q.length:Int)));rw[show max (p.length:Int) (q.length:Int)=((max p.length q.length:Nat):Int) by omega];apply aA (Av (max p.length q.length) 160 [.aw [sQ p],.aw [sQ q]] (fun i=>p.getD i 0+q.getD i 0) (fun i hi=>aF9 p q i A B hA hB hp hq h) (by omega));exact aL
def fP(p q:List Rat):List Rat:=if p=[]\/q=[]then[]else trim (mulL p q p.length)
set_option maxHeartbeats 1000000 in
theorem aH0(p q:List Rat)(D E S T B:Nat)(h0:D≠0)(h1:E≠0)(hp:∀a∈p,Bd D S a)(hq:∀b∈q,Bd E T b)(hB:B<=8589934592)(hX:D*E*((p.length+1)*((S+1)*(T+1)))<2^B)(hpl:p.length<=549755813888:=by omega)(hql:q.length<=549755813888:=by omega):aU prog 64 [(.one (sQ p):aN),(.one (sQ q):aN)] (.ret [.one (sQ (fP p q))]):=by
 refine dL func64 bp1 ?_;obtain⟨f1,f2,f3,f4⟩:=CM h0 h1 hX;apply vn (aP kg (aI _));apply vn bj;refine vs _ rfl ?_ ?_<;>intro h2
 ·have hp0:p=[]:=eV (by omega);rw[fP,aK (.inl hp0)];exact fK ⟨aC.Sub.nil,trivial⟩
 apply vn (aP kg (aI _));apply vn bj;dsimp only[aE,aF];refine vs _ rfl ?_ ?_<;>intro h6
 ·have hq0:q=[]:=eV (by omega);rw[fP,aK (.inr hq0)];exact fK ⟨aC.Sub.nil,trivial⟩
 have hp0:0<p.length:=by omega
 have hq0:0<q.length:=by omega
 rw[fP,aG (fun h=>h.elim (fun h=>by rw[h]at hp0;simp at hp0) fun h=>by rw[h]at hq0;simp at hq0)];obtain⟨n,hn⟩:∃n:Nat,(p.length:Int)+(q.length:Int)-1=(n:Int):=⟨p.length+q.length-1,by omega⟩
 have hn':p.length+q.length-1=n:=by omega
 apply vn (aP kg (aI _));apply vn (aP kg (aI _));apply vn (aB (by omega) (by omega));apply vn (aH (by omega) (by omega));rw[hn];dsimp only[aE,aF];refine ri (n:=n) (m:=n) rfl rfl rfl (aa _) (by omega) (by simp only[maxLen];omega) ?_;apply vn (aP kg (aI _));dsimp only[aE,aF];refine bE {i:Nat // i<=p.length} (fun g=>[.one (.int .i64 g.1),.rows (rQ (mulL p q g.1))]) (fun g=>p.length-g.1) ⟨0,cz _⟩ ⟨aN.Sub.same,by show aN.Sub _ (.rows (rQ (mulL p q 0)));rw[mulL,hn'];exact aC5 n,trivial⟩ (fun _=>rfl) ?_;rintro⟨i,hi⟩;dsimp only[aE,aF]at hi|-;apply vn aj;refine vs _ rfl ?_ ?_<;>intro h16
 ·apply vn (aJ kg (by omega) (av i) (aX (show i<p.length by omega)));apply vn (aQ cM (by decide) (by simp) (.inl rfl));apply aA (lM _);dsimp only[aE,aF];apply vn bj;refine vs _ rfl ?_ ?_<;>intro h21
  ·have hz:p.getD i 0=0:=sign_zero.1 h21;apply vn (aB (by omega) (by omega));dsimp only[aE,aF];exact ab rfl ⟨⟨i+1,by omega⟩,(by dsimp only;rw[mulL,aK hz];exact aZ.rfl),by show p.length-(i+1)<p.length-i;omega⟩
  have hz:¬p.getD i 0=0:=fun h=>h21 (sign_zero.2 h);have ho:=vR h0 h1 hp hq i;have hi2:i<p.length:=by omega
  apply vn (aP kg (aI _));refine bE {k:Nat // k<=q.length} (fun g=>[.one (.int .i64 g.1),.rows (rQ (iK (p.getD i 0) q i (mulL p q i) g.1))]) (fun g=>q.length-g.1) ⟨0,cz _⟩ aZ.rfl (fun _=>rfl) ?_;rintro⟨k,hk⟩;dsimp only[aE,aF]at hk|-;apply vn aj;refine vs _ rfl ?_ ?_<;>intro h27
  ·have hk2:k<q.length:=by omega
   have hrow:=De h0 h1 (mJ hp i) hq ho k (i:=i);have hrl:(iK (p.getD i 0) q i (mulL p q i) k).length=n:=by rw[lT,iO,hn']
   have hget:=aX (l:=iK (p.getD i 0) q i (mulL p q i) k) (i:=i+k);have hfo:Fit B ((iK (p.getD i 0) q i (mulL p q i) k).getD (i+k) 0):=f3 _ i hi2 (hrow _ (ei hget));apply vn (aJ kg (by omega) (av k) (aX hk2));apply vn (aQ cM (by decide) (by simp) (.inl rfl));apply vn (aB (by omega) (by omega));dsimp only[aE,aF];apply vn (aB (by omega) (by omega));refine br rfl rfl (by omega) (by omega) ?_;refine Kj rfl rfl (by omega) (show((i:Int)+(k:Int)).toNat=i+k by omega) hget (.inl rfl) rfl ?_;dsimp only[aE,aF,Yi,List.drop,List.take];apply aA (jJ _ _ B B (f1 _ (mJ hp i)) (f2 _ (mJ hq k)));apply aA (ph _ _ B B hfo (f4 _ ((mJ hp i).mul h0 h1 (mJ hq k))));refine br rfl rfl (by omega) (by omega) ?_;refine iJ (f:=qC) (d':=(iK (p.getD i 0) q i (mulL p q i) k).getD (i+k) 0+p.getD i 0*q.getD k 0) rfl rfl (by omega) (show((i:Int)+(k:Int)).toNat=i+k by omega) hget rfl ?_;apply vn (aB (by omega) (by omega));dsimp only[aE,aF];exact ab rfl ⟨⟨k+1,by omega⟩,aZ.rfl,by show q.length-(k+1)<q.length-k;omega⟩
  apply vn (aB (by omega) (by omega))
  exact ab rfl ⟨⟨i+1,by omega⟩,(by
   dsimp only;rw[mulL,aG hz,show q.length=k by omega];exact aZ.rfl),by show p.length-(i+1)<p.length-i;omega⟩
 rw[show p.length=i by omega];apply aA (Az _ (by rw[iO];omega)) rfl;exact aL
theorem bh5(c:Rat):aU prog 232 [(qT c:aN)] (.ret [.one (sQ [c,1])]):=by
 refine dL func232 be4 ?_;apply aA (AV 1);apply eL rfl;exact aL
theorem TH(c:Rat):aU prog 251 [(qT c:aN)] (.ret [.one (sQ (trim [c]))]):=by
 refine dL func251 Sp ?_;apply eL rfl;apply aA (Az [c] (by simp));exact aL
def bl2:Tr:=cH 4
def bZ1:Tr:=aR 5 0 (bA 0 0 4 0 29 12 13 (dh 6 98 14 (.need (.callv (.u 1 0) [(W 7 0)] [none]) (.call ⟨.value (tT 11),#[(tT 15)],#[98]⟩) 4 true (aR 8 0 bl2 (ao 4 1 3 8 (iY 0 3 9)))))) (og (-1))
def bY3:Tr:=al 0 0 6 29 (xf (dD 4 0 2 3 8 7 0 bZ1))
theorem at0:aV prog f179 ck [.v none,.v none]=bY3:=by kernel_rfl
def ci7:Tr:=gR 179 0 0 1 5 6 29 143 3 (nG 2 0 7 aq9)
theorem Ss:aV prog f81 ck [.v none,.v none]=ci7:=by kernel_rfl
def ae0:Tr:=hx154Q 
def bw3:Tr:=bA 1 0 6 0 32 21 22 (bW 11 4 51 23 (fO 29 [(G3 10),(G4 12)] [none] [20,24] [46,51] 4 true (kL 13 0 25 (aR 14 0 ae0 (ao 6 1 3 15 (iY 0 5 15))))))
def YE:Tr:=.ret [(tF true)]
def bW1:Tr:=aR 4 0 ae0 (xj 0 (al 0 0 12 28 (dD 6 0 7 3 11 13 4 (aR 8 0 (bA 0 0 6 0 28 17 18 (bW 9 3 46 19 bw3)) YE))))
def cj4:Tr:=al 0 0 6 28 (al 1 0 8 32 (oe .neq 3 7 9 2 0 3 0 4 bW1))
theorem aH5:aV prog f43 ck [.v none,.v none]=cj4:=by kernel_rfl
abbrev cQ(p:List Rat):List aC:=[sQ p]
abbrev cR(p:List RQ):List aC:=[sR p]
abbrev eQ(e:List (List Rat)):aC:=.slice 1 (e.map cQ)
abbrev eR(e:List (List RQ)):aC:=.slice 1 (e.map cR)
def kh{α:Type}(c:α->Bool):List α->Nat->Int
 | [],_=>-1
 | x::xs,i=>if c x then(i:Int)else kh c xs (i+1)
theorem Uv{α:Type}(c:α->Bool):∀(l:List α)(i:Nat),decide (0<=kh c l i)=l.any c
 | [],i=>rfl
 | x::xs,i=>by
   simp only[kh,List.any_cons];split
   ·rename_i h;rw[h];simp
   ·rename_i h;rw[Uv c xs (i+1)];simp[h]
theorem aJ2(e:List (List Rat))(g:Nat)(c:List Rat->Bool)(hc:∀p∈e,aU prog g [.one (sQ p)] (.ret [.one (.bool (c p))]))(hs:e.length<1099511627776):aU prog 179 [(.one (eQ e):aN),(.one (.gp g []):aN)] (.ret [.one (.int .i64 (kh c e 0))]):=by
 refine dL func179 at0 ?_;apply vn (aP sO (aI _));refine bE {i:Nat // i<=e.length/\kh c e 0=kh c (e.drop i) i} (fun g=>[.one (.int .i64 0),.one (.int .i64 g.1)]) (fun g=>e.length-g.1) ⟨0,cz _,rfl⟩ aZ.rfl (fun _=>rfl) ?_;rintro⟨i,hi,hf⟩;dsimp only[aE,aF]at hi hf|-;apply vn aj;refine vs _ rfl ?_ ?_<;>intro h3
 ·obtain⟨p,hp⟩:∃p,e[i]?=some p:=⟨_,bQ (by omega)⟩
  have hdrop:e.drop i=p::e.drop (i+1):=by
   rw[jE (by omega),(dM.1 hp).2]
  rw[hdrop,kh]at hf;apply vn (aJ sO (by omega) (by omega) hp);apply vn (bg Yd);apply Dt (f:=g) (caps:=[]) rfl (hc p (ei hp)) rfl;dsimp only[aE,aF];refine jm (c p) rfl (fun h7=>?_) (fun h7=>?_)
  ·rw[hf,aK h7];exact aL
  apply vn (aB (by omega) (by omega));dsimp only[aE,aF];exact ab rfl ⟨⟨i+1,by omega,by rw[hf,aG (by simp[h7])]⟩,aZ.rfl,by show e.length-(i+1)<e.length-i;omega⟩
 rw[hf,lI (by omega),kh];exact aL
theorem UH(e:List (List Rat))(g:Nat)(c:List Rat->Bool)(hc:∀p∈e,aU prog g [.one (sQ p)] (.ret [.one (.bool (c p))]))(hs:e.length<1099511627776):aU prog 81 [(.one (eQ e):aN),(.one (.gp g []):aN)] (.ret [.one (.bool (e.any c))]):=by
 refine dL func81 Ss ?_;apply aA (aJ2 e g c hc hs);apply vn iI;dsimp only[aE,aF];rw[<-Uv c e 0];exact aL
theorem Lu{B:Nat}(hB:1<=B){c:Rat}(hc:Fit B c):∀ps:List Rat,(∀q∈ps,Fit B q)->Fit (ps.length*(2*B+1)+1) (tX ps c)
 | [],_=>Fit.zero (by omega)
 | a::ps,h=>by
   have ih:=Lu hB hc ps (fun q hq=>h q (dc _ hq));have:=(ih.mul hc).add (h a dV);refine this.mono ?_;rw[an,bX];omega
def eqR(e:List (List RQ)):List (List Rat):=e.map fun p=>p.map RQ.q
theorem aX6{e:List (List RQ)}{i:Nat}{p:List RQ}(h:e[i]?=some p):(eqR e)[i]?=some (p.map RQ.q):=by rw[eqR,cn,h];rfl
theorem aS0(e:List (List RQ)):(eqR e).length=e.length:=aI _
theorem at5{α β:Type}{f:β->α}{a:List α}{b:List β}(hl:a.length=b.length)(h:∀(i:Nat)(x:α)(y:β),a[i]?=some x->b[i]?=some y->x=f y):a=b.map f:=by
 apply fJ;intro i;rw[cn];by_cases hi:i<a.length
 ·have hx:a[i]?=some a[i]:=bQ hi;have hy:b[i]?=some (b[i]'(by omega)):=bQ (by omega);rw[hx,hy,h i _ _ hx hy];rfl
 ·rw[eZ.2 (by omega),eZ.2 (by omega)];rfl
theorem ow(a:List Rat)(b:List RQ)(B:Nat)(ha:∀q∈a,Fit B q)(hb:∀q∈b,Fit B q.q)(hs:a.length<1099511627776)(qj:b.length<1099511627776:=by omega)(hB:B<=34359738360:=by omega):aU prog 43 [(.one (sQ a):aN),(.one (sR b):aN)] (.ret [.one (.bool (decide (a=b.map RQ.q)))]):=by
 refine dL func43 aH5 ?_;apply vn (aP ay (aI _));apply vn (aP eG (aI _));apply vn fC;refine vs _ rfl ?_ ?_<;>intro h3
 ·rw[cE (fun e=>by have:=congrArg List.length e;rw[aI]at this;omega)];exact aL
 have hlen:a.length=b.length:=by omega
 refine bE {i:Nat // i<=a.length/\∀j x y,j<i->a[j]?=some x->b[j]?=some y->x=y.q} (fun g=>[.one (.bool false),.one (.int .i64 g.1)]) (fun g=>a.length-g.1) ⟨0,cz _,fun j x y h=>by omega⟩ aZ.rfl (fun _=>rfl) ?_;rintro⟨i,hi,he⟩;dsimp only[aE,aF]at hi he|-;apply vn (aP ay (aI _));apply vn aj;refine vs _ rfl ?_ ?_<;>intro h8
 ·obtain⟨x,hx⟩:∃x,a[i]?=some x:=⟨_,bQ (by omega)⟩
  obtain⟨y,hy⟩:∃y,b[i]?=some y:=⟨_,bQ (by omega)⟩
  apply vn (aJ ay (by omega) (by omega) hx);apply vn (aQ cM (by decide) (by simp) (.inl rfl));dsimp only[aE,aF];apply vn (aJ eG (by omega) (by omega) hy);apply vn (aQ gB (by decide) (by simp) (.inl rfl));apply aA (aW9 x y B (ha x (ei hx)) (hb y (ei hy)) hB);apply vn mn;dsimp only[aE,aF];refine vs _ rfl ?_ ?_<;>intro h15
  ·rw[cE (fun e=>h15 (by
    rw[e,cn,hy]at hx
    simpa using hx.symm))];exact aL
  apply vn (aB (by omega) (by omega))
  exact ab rfl ⟨⟨i+1,by omega,fun j x' y' hj hx' hy'=>by
   rcases fY j i with h | h
   ·exact he j x' y' h hx' hy'
   ·rw[show j=i by omega]at hx' hy';rw[hx]at hx';rw[hy]at hy';simp only[aW]at hx' hy';subst hx' hy';exact Decidable.of_not_not h15⟩,aZ.rfl,by show a.length-(i+1)<a.length-i;omega⟩
 rw[bV (at5 hlen fun j x y hx hy=>he j x y (by have:=(dM.1 hx).1;omega) hx hy)];exact aL
def bk3:Tr:=fO 165 [(G3 0),(G3 1)] [(some 3),none] [8,9] [46,46] 55 false (kZ 2 2 2)
theorem bb7:aV prog f181 ck [.v (some 3),.v (some 3)]=bk3:=by kernel_rfl
def bk6:Tr:=kZ 7 7 2
def bT3:Tr:=ao 0 1 3 5 (bA 1 0 2 0 98 4 6 (bW 3 3 46 7 (ao 0 1 3 9 (nL 63 5 3 10 2 46 (jN 76 4 4 1 4 2 6 8 11 bk6)))))
theorem UL:aV prog f193 ck [.v none,.ref 1]=bT3:=by kernel_rfl
def bW8:Tr:=al 0 0 3 98 (dp 1 1 4 (ay1 2 5 (fO 159 [(W 3 0),(.one (.gp 193 [(.ref 0 [(.u 0 0)])]))] [none] [6,7] [3,165] 98 true bl2)))
theorem ah7:aV prog f124 ck [.v none]=bW8:=by kernel_rfl
def bY6:Tr:=eB 0 0 0 3 4 (aR 2 0 bm2 (dp 0 1 8 (bA 1 0 3 0 98 7 9 (bW 4 3 46 10 (nL 63 0 3 12 2 46 (jN 181 5 5 1 5 2 6 11 13 bk6))))))
theorem IX:aV prog f180 ck [.v none,.ref 1]=bY6:=by kernel_rfl
def bY7:Tr:=al 0 0 3 98 (ao 1 1 3 4 (fO 159 [(W 2 0),(.one (.gp 180 [(.ref 0 [(.u 0 0)])]))] [none] [5,6] [3,165] 98 true aq9))
theorem Th:aV prog f85 ck [.v none]=bY7:=by kernel_rfl
def cf2:Tr:=bA 0 0 2 0 102 14 15 (bW 6 4 51 16 (pD 77 7 7 1 7 2 7 3 1 0 1 1 1 2 1 3 17 18 (ju 8 102 19 (fH 4 64 3 9 13 20 102 (ao 2 1 3 11 (gq 0 11 10))))))
def bU4:Tr:=xr (al 0 0 8 102 (dD 2 0 4 3 7 9 4 (aR 5 0 cf2 (uW 126 4 3 22 102 (cH 6)))))
theorem aE3:aV prog f115 ck [.v none,.v (some 4)]=bU4:=by kernel_rfl
def ch8:Tr:=ju 0 102 3 (uW 126 4 1 4 102 YK)
theorem UZ:aV prog f95 ck [.v (some 4)]=ch8:=by kernel_rfl
def VU(a b:Rat):Rat:=if b=0 then 0 else a/b
theorem aQ6(a b:Rat)(A B:Nat)(ha:Fit A a)(hb:Fit B b)(h:A+B<=34359738368:=by omega):aU prog 181 [(qT a:aN),(qT b:aN)] (.ret [qT (VU a b)]):=by
 refine dL func181 bb7 ?_;apply aA (Ym a b A B ha hb h);exact aL
def dvI(p:List Rat)(i:Nat):Rat:=p.getD (i+1) 0*(((i:Int)+1:Int):Rat)
def ly(p:List Rat):List Rat:=trim ((List.range (p.length-1)).map (dvI p))
theorem UM(p:List Rat)(i A:Nat)(hA1:1<=A)(hl:p.length<1099511627776)(hp:∀a∈p,Fit A a)(hA:A<=34359738000)(hi:i+1<p.length:=by omega):aU prog 193 [(.one (.int .i64 i):aN),(.one (.aw ([sQ p])):aN)] (.ret [qT (dvI p i)]):=by
 refine dvr (ins:=[.v (.one (.int .i64 i)),.ref ([sQ p])]) func193 UL ?_;apply vn (aB (by omega) (by omega));dsimp only[aE,aF];apply vn (aJ kg (by omega) (show((i:Int)+1).toNat=i+1 by omega) (aX hi));apply vn (aQ cM (by decide) (by simp) (.inl rfl));apply vn (aB (by omega) (by omega));apply aA (AV ((i:Int)+1));dsimp only[aE,aF];apply aA (jJ (p.getD (i+1) 0) (((i:Int)+1:Int):Rat) A 62 (aD hp (i+1) hA1) (Fit.int (by omega) (by omega)));exact aL
theorem aj1(p:List Rat)(A:Nat)(hA1:1<=A)(hl:p.length<1099511627776)(hp:∀a∈p,Fit A a)(hA:A<=34359738000:=by omega):aU prog 124 [(.one (sQ p):aN)] (.ret [.one (sQ (ly p))]):=by
 refine dL func124 ah7 ?_;apply vn (aP kg (aI _));apply vn (aH (by omega) (by omega));apply vn (aM3 (k:=.i64) (a:=(p.length:Int)-1) (b:=0));rw[show max ((p.length:Int)-1) 0=((p.length-1:Nat):Int) by omega];apply aA (Av (p.length-1) 193 [.aw [sQ p]] (dvI p) (fun i hi=>UM p i A hA1 hl hp hA) (by omega));exact aL
def igI(p:List Rat)(i:Nat):Rat:=if i=0 then 0 else VU (p.getD (i-1) 0) ((i:Int):Rat)
def ZU(p:List Rat):List Rat:=trim ((List.range (p.length+1)).map (igI p))
theorem Jr(p:List Rat)(i A:Nat)(hA1:1<=A)(hi:i<p.length+1)(hp:∀a∈p,Fit A a)(hA:A<=34359738000)(hl:p.length<1099511627776:=by omega):aU prog 180 [(.one (.int .i64 i):aN),(.one (.aw ([sQ p])):aN)] (.ret [qT (igI p i)]):=by
 refine dvr (ins:=[.v (.one (.int .i64 i)),.ref ([sQ p])]) func180 IX ?_;apply vn bj;refine vs _ rfl ?_ ?_<;>intro h1
 ·rw[igI,aK (by omega)];exact fK ⟨nA,trivial⟩
 apply vn (aH (by omega) (by omega));dsimp only[aE,aF];apply vn (aJ kg (m:=i-1) (by omega) (by omega) (aX (show i-1<p.length by omega)));apply vn (aQ cM (by decide) (by simp) (.inl rfl));apply aA (AV (i:Int));apply aA (aQ6 (p.getD (i-1) 0) ((i:Int):Rat) A 62 (aD hp (i-1) hA1) (Fit.int (by omega) (by omega)));dsimp only[aE,aF];rw[igI,aG (by omega)];exact aL
theorem Ua(p:List Rat)(A:Nat)(hp:∀a∈p,Fit A a)(hA1:1<=A:=by omega)(hl:p.length<1099511627000:=by omega)(hA:A<=34359738000:=by omega):aU prog 85 [(.one (sQ p):aN)] (.ret [.one (sQ (ZU p))]):=by
 refine dL func85 Th ?_;apply vn (aP kg (aI _));apply vn (aB (by omega) (by omega));apply aA (Av (p.length+1) 180 [.aw [sQ p]] (igI p) (fun i hi=>Jr p i A hA1 hi hp hA) (by omega));exact aL
def scI(p:List Rat)(k:Rat)(i:Nat):Rat:=p.getD i 0*k
def wi(p:List Rat)(k:Rat):List Rat:=trim ((List.range p.length).map (scI p k))
theorem XS(p:List Rat)(k:Rat)(i A B:Nat)(hA1:1<=A)(hi:i<p.length)(hl:p.length<1099511627776)(hp:∀a∈p,Fit A a)(hk:Fit B k)(hA:A+B<=34359738000):aU prog 194 [(.one (.int .i64 i):aN),(.one (.aw ([sQ p])):aN),(.one (.aw (qC k)):aN)] (.ret [qT (scI p k i)]):=by
 refine dvr (ins:=[.v (.one (.int .i64 i)),.ref ([sQ p]),.ref (qC k)]) func194 Xt ?_;apply vn (aJ kg (by omega) (av i) (aX hi));apply vn (aQ cM (by decide) (by simp) (.inl rfl));apply aA (jJ (p.getD i 0) k A B (aD hp i hA1) hk);exact aL
theorem Uk(p:List Rat)(k:Rat)(A B:Nat)(hA1:1<=A)(hl:p.length<1099511627776)(hp:∀a∈p,Fit A a)(hk:Fit B k)(hA:A+B<=34359738000:=by omega):aU prog 125 [(.one (sQ p):aN),(qT k:aN)] (.ret [.one (sQ (wi p k))]):=by
 refine dL func125 aq6 ?_;apply vn (aP kg (aI _));apply aA (Av p.length 194 [.aw [sQ p],.aw (qC k)] (scI p k) (fun i hi=>XS p k i A B hA1 hi hl hp hk hA) (by omega));exact aL
def FD(p:List RQ)(i:Nat):Rat:=(p.getD i RQ.nil).q
theorem Dl{p:List RQ}{i:Nat}{a:RQ}(h:p[i]?=some a):FD p i=a.q:=by rw[FD,fQ,h];rfl
theorem wK(p:List RQ)(i:Nat):FD p i=(p.map RQ.q).getD i 0:=by
 rw[FD,fQ,fQ,cn];cases p[i]? <;> rfl
def scR(p:List RQ)(k:RQ)(i:Nat):RQ:=.of (FD p i*k.q)
theorem ER(p:List RQ)(k:RQ)(A B:Nat)(hp:∀a∈p,Fit A a.q)(hk:Fit B k.q)(hl:p.length<1099511627776:=by omega)(hA:A+B<=1073741824:=by omega):aU prog 115 [(.one (sR p):aN),(qw k:aN)] (.ret [.one (sR (kY ((List.range p.length).map (scR p k))))]):=by
 refine dL func115 aE3 ?_;refine bE {i:Nat // i<=p.length} (fun g=>[.one (.int .i64 (g.1:Int)),.rows (rR ((List.range g.1).map (scR p k)))]) (fun g=>p.length-g.1) ⟨0,cz _⟩ aZ.rfl (fun _=>rfl) ?_;rintro⟨i,hi⟩;dsimp only[aE,aF]at hi|-;apply vn (aP jv (aI _));apply vn aj;refine vs _ rfl ?_ ?_<;>intro h3
 ·obtain⟨a,ha⟩:∃a,p[i]?=some a:=⟨_,bQ (by omega)⟩
  have hra:=Dl ha;have hll:((List.range i).map (scR p k)).length=i:=by simp
  apply vn (aJ jv (by omega) (by omega) ha);apply vn (aQ gB (by decide) (by simp) (.inl rfl));dsimp only[aE,aF];apply aA (uJ a k A B (hp a (ei ha)) hk);rw[<-hra];apply eL (us:=[rC (scR p k i)]);refine iE (xs:=(List.range i).map (scR p k)) (x:=scR p k i) (f:=rC) rfl rfl (by omega) (by simp only[maxLen];omega) ?_;rw[show(List.range i).map (scR p k)++[scR p k i]=(List.range (i+1)).map (scR p k) by rw[gx,bt];rfl];apply vn (aB (by omega) (by omega));dsimp only[aE,aF];exact ab rfl ⟨⟨i+1,by omega⟩,aZ.rfl,by show p.length-(i+1)<p.length-i;omega⟩
 rw[show i=p.length by omega];apply aA (Aq _ (by rw[aI,oh];omega)) rfl;exact aL
theorem YN(p:List RQ)(k:RQ):(kY ((List.range p.length).map (scR p k))).map RQ.q=wi (p.map RQ.q) k.q:=by
 rw[pH,wi,et,aI]
 congr 1
 apply fW;intro i _;show FD p i*_=_;rw[wK];rfl
theorem Td(k:RQ):aU prog 95 [(qw k:aN)] (.ret [.one (sR (kY [k]))]):=by
 refine dL func95 UZ ?_;apply eL (us:=[rC k]);apply aA (Aq [k] (by simp));exact aL
def bK1:Tr:=bA 1 0 2 0 102 36 37 (bW 14 4 51 38 (pD 99 11 11 1 11 2 11 3 15 0 15 1 15 2 15 3 35 39 (ju 16 102 42 (fH 4 64 3 17 41 43 102 (ao 2 1 3 18 (gq 0 19 18))))))
def aN2:Tr:=fH 4 64 3 14 41 43 102 (ao 2 1 3 18 (gq 0 16 15))
def bW5:Tr:=bA 0 0 2 0 102 26 27 (bW 9 4 51 28 (pD 99 6 6 1 6 2 6 3 10 0 10 1 10 2 10 3 25 29 (al 1 0 32 102 (dD 2 0 12 3 31 33 4 (aR 13 0 bK1 (ju 11 102 42 aN2))))))
def by6:Tr:=al 1 0 32 102 (dD 2 0 9 3 31 33 4 (aR 10 0 (bA 1 0 2 0 102 36 37 (bW 11 4 51 38 (pD 99 6 6 1 6 2 6 3 12 0 12 1 12 2 12 3 35 39 (ju 13 102 42 aN2)))) (ju 6 102 42 (fH 4 64 3 11 41 43 102 (ao 2 1 3 18 (gq 0 13 12))))))
def bv8:Tr:=bA 1 0 2 0 102 36 37 (bW 16 4 51 38 (pD 99 13 13 1 13 2 13 3 17 0 17 1 17 2 17 3 35 39 (ju 18 102 42 (fH 4 64 3 19 41 43 102 (ao 2 1 3 18 (gq 0 21 20))))))
def az7:Tr:=fH 4 64 3 16 41 43 102 (ao 2 1 3 18 (gq 0 18 17))
def by5:Tr:=bA 0 0 2 0 102 26 27 (bW 11 4 51 28 (pD 99 8 8 1 8 2 8 3 12 0 12 1 12 2 12 3 25 29 (al 1 0 32 102 (dD 2 0 14 3 31 33 4 (aR 15 0 bv8 (ju 13 102 42 az7))))))
def bI5:Tr:=al 1 0 32 102 (dD 2 0 11 3 31 33 4 (aR 12 0 (bA 1 0 2 0 102 36 37 (bW 13 4 51 38 (pD 99 8 8 1 8 2 8 3 14 0 14 1 14 2 14 3 35 39 (ju 15 102 42 az7)))) (ju 8 102 42 (fH 4 64 3 13 41 43 102 (ao 2 1 3 18 (gq 0 15 14))))))
def bF2:Tr:=al 1 0 14 102 (dD 2 0 6 3 13 15 4 (aR 7 0 (pI 39 0 4 2 51 (al 0 0 22 102 (dD 2 0 9 3 21 23 4 (aR 10 0 by5 bI5)))) (uW 126 4 3 45 102 (cH 8))))
def ce3:Tr:=al 0 0 9 102 (dD 2 0 4 3 8 10 4 (aR 5 0 (pI 39 0 4 2 51 (al 0 0 22 102 (dD 2 0 7 3 21 23 4 (aR 8 0 bW5 by6)))) bF2))
def bW0:Tr:=xr ce3
theorem bt8:aV prog f94 ck [.v none,.v none]=bW0:=by kernel_rfl
def bx9:Tr:=bA 1 0 3 0 102 17 18 (bW 7 4 51 19 (fO 115 [(W 0 0),(G4 8)] [none] [16,20] [102,51] 102 false (TI 4 64 6 9 15 21 102 (fO 94 [(W 2 0),(.one (.c (.sr 4 10)))] [none] [13,22] [102,102] 102 true (ao 3 1 3 11 (iY 0 11 12))))))
def bM4:Tr:=.loop 0 [lN,lK 0] (al 1 0 8 102 (dD 3 0 4 3 7 9 4 (aR 5 0 (.need (.make [(.int .i64 0),(.slice none 0 0),(.int .i64 0),(.slice none 0 0)] 64 (.u 3 0) (.u 3 0)) (.makeSlice 102 (tT 14) (tT 14)) 102 false bx9) YK)))
theorem bI9:aV prog f101 ck [.v none,.v none]=bM4:=by kernel_rfl
theorem SK{p:List RQ}{i:Nat}(h:p.length<=i:=by omega):FD p i=0:=by rw[FD,fQ,iR h];rfl
theorem wJ{A:Nat}{p:List RQ}(hA:1<=A)(h:∀a∈p,Fit A a.q)(i:Nat):Fit A (FD p i):=by
 rw[FD,fQ];cases hi:p[i]? with
 | none=>exact Fit.zero hA
 | some a=>exact h a (ei hi)
def Qo(p q:List RQ)(i:Nat):RQ:=.of (FD p i+FD q i)
theorem XJ{p q:List RQ}{i:Nat}{x:Rat}(h:x=FD p i+FD q i):RQ.of x=Qo p q i:=by rw[h];rfl
theorem CL(p q:List RQ)(i:Nat):(List.range i).map (Qo p q)++[Qo p q i]=(List.range (i+1)).map (Qo p q):=by rw[gx,bt];rfl
theorem XO(p q:List RQ)(A B:Nat)(hp:∀a∈p,Fit A a.q)(hq:∀a∈q,Fit B a.q)(hl2:q.length<1099511627776:=by omega)(hA1:1<=A:=by omega)(hB1:1<=B:=by omega)(hl:p.length<1099511627776:=by omega)(hA:A+B<=1073741824:=by omega):aU prog 94 [(.one (sR p):aN),(.one (sR q):aN)] (.ret [.one (sR (kY ((List.range (max p.length q.length)).map (Qo p q))))]):=by
 refine dL func94 bt8 ?_;have f0:Fit 1 ((0:Int):Rat):=Fit.int (by omega) (by omega);refine bE {i:Nat // i<=max p.length q.length} (fun g=>[.one (.int .i64 (g.1:Int)),.rows (rR ((List.range g.1).map (Qo p q)))]) (fun g=>max p.length q.length-g.1) ⟨0,cz _⟩ aZ.rfl (fun _=>rfl) ?_;rintro⟨i,hi⟩;dsimp only[aE,aF]at hi|-;have hll:((List.range i).map (Qo p q)).length=i:=by simp
 apply vn (aP jv (aI _));apply vn aj;refine vs _ rfl ?_ ?_<;>intro h3
 ·apply aA (jd 0);apply vn (aP jv (aI _));dsimp only[aE,aF];apply vn aj;refine vs _ rfl ?_ ?_<;>intro h7
  ·obtain⟨a,ha⟩:∃a,p[i]?=some a:=⟨_,bQ (by omega)⟩
   have hra:=Dl ha;have hfa:=hp a (ei ha);apply vn (aJ jv (by omega) (by omega) ha);apply vn (aQ gB (by decide) (by simp) (.inl rfl));apply aA (uG (.of ((0:Int):Rat)) a 1 A f0 hfa);dsimp only[aE,aF];apply vn (aP jv (aI _));apply vn aj;refine vs _ rfl ?_ ?_<;>intro h13
   ·obtain⟨b,hb⟩:∃b,q[i]?=some b:=⟨_,bQ (by omega)⟩
    have hrb:=Dl hb;have hfb:=hq b (ei hb);apply vn (aJ jv (by omega) (by omega) hb);apply vn (aQ gB (by decide) (by simp) (.inl rfl));dsimp only[aE,aF];apply aA (uG (.of (((0:Int):Rat)+a.q)) b (1+A+1) B (f0.add hfa) hfb);rw[XJ (show(RQ.of (((0:Int):Rat)+a.q)).q+b.q=FD p i+FD q i by rw[hra,hrb,RQ.Pv,show((0:Int):Rat)=0 from rfl];grind)];apply eL (us:=[rC (Qo p q i)]);refine iE (xs:=(List.range i).map (Qo p q)) (x:=Qo p q i) (f:=rC) rfl rfl (by omega) (by simp only[maxLen];omega) ?_;rw[CL];apply vn (aB (by omega) (by omega));dsimp only[aE,aF];exact ab rfl ⟨⟨i+1,by omega⟩,aZ.rfl,by show max p.length q.length-(i+1)<max p.length q.length-i;omega⟩
   rw[XJ (show(RQ.of ((0:Int):Rat)).q+a.q=FD p i+FD q i by rw[hra,SK (p:=q),RQ.Pv,show((0:Int):Rat)=0 from rfl];grind)];apply eL (us:=[rC (Qo p q i)]);refine iE (xs:=(List.range i).map (Qo p q)) (x:=Qo p q i) (f:=rC) rfl rfl (by omega) (by simp only[maxLen];omega) ?_;rw[CL];apply vn (aB (by omega) (by omega));dsimp only[aE,aF];exact ab rfl ⟨⟨i+1,by omega⟩,aZ.rfl,by show max p.length q.length-(i+1)<max p.length q.length-i;omega⟩
  exfalso;omega
 apply vn (aP jv (aI _));apply vn aj;refine vs _ rfl ?_ ?_<;>intro h41
 ·apply aA (jd 0);apply vn (aP jv (aI _));dsimp only[aE,aF];apply vn aj;refine vs _ rfl ?_ ?_<;>intro h45
  ·exfalso;omega
  apply vn (aP jv (aI _));apply vn aj;refine vs _ rfl ?_ ?_<;>intro h65
  ·obtain⟨b,hb⟩:∃b,q[i]?=some b:=⟨_,bQ (by omega)⟩
   have hrb:=Dl hb;have hfb:=hq b (ei hb);apply vn (aJ jv (by omega) (by omega) hb);dsimp only[aE,aF];apply vn (aQ gB (by decide) (by simp) (.inl rfl));apply aA (uG (.of ((0:Int):Rat)) b 1 B f0 hfb);rw[XJ (show(RQ.of ((0:Int):Rat)).q+b.q=FD p i+FD q i by rw[hrb,SK (p:=p),RQ.Pv,show((0:Int):Rat)=0 from rfl])];apply eL (us:=[rC (Qo p q i)]);refine iE (xs:=(List.range i).map (Qo p q)) (x:=Qo p q i) (f:=rC) rfl rfl (by omega) (by simp only[maxLen];omega) ?_;rw[CL];dsimp only[aE,aF];apply vn (aB (by omega) (by omega));dsimp only[aE,aF];exact ab rfl ⟨⟨i+1,by omega⟩,aZ.rfl,by show max p.length q.length-(i+1)<max p.length q.length-i;omega⟩
  exfalso;omega
 rw[show i=max p.length q.length by omega];apply aA (Aq _ (by rw[aI,oh];omega)) rfl;exact aL
theorem ad5(p q:List RQ):(kY ((List.range (max p.length q.length)).map (Qo p q))).map RQ.q=kH (p.map RQ.q) (q.map RQ.q):=by
 rw[pH,kH,et,aI,aI]
 congr 1
 apply fW;intro i _;show FD p i+FD q i=_;rw[wK,wK]
theorem ZJ{a b:Rat}{A B:Nat}(ha:Fit A a)(hb:Fit B b)(hA:1<=A:=by omega):Fit (A+B) (VU a b):=by
 unfold VU;split
 ·exact Fit.zero (by omega)
 ·exact ha.div hb
theorem vM{A:Nat}{p:List Rat}(h:∀a∈p,Fit A a):∀a∈trim p,Fit A a:=fun a ha=>h a (iL ha)
theorem be7{A:Nat}{p:List Rat}(hA:1<=A)(h:∀a∈p,Fit A a)(hl:p.length<=1000:=by omega):∀a∈ZU p,Fit (A+12) a:=by
 refine vM fun a ha=>?_;obtain⟨i,hi,rfl⟩:=dH.1 ha;have hi:=fL.1 hi;rw[igI];split
 ·exact Fit.zero (by omega)
 ·exact ZJ (aD h _ hA) (Fit.int (by omega) (by omega)) hA
theorem aU8(p:List Rat):(ZU p).length<=p.length+1:=by
 have h:=gX ((List.range (p.length+1)).map (igI p));have h2:=jX (z:=zr) ((List.range (p.length+1)).map (igI p));rw[ZU,h]
 simpa using h2
theorem ab4{A:Nat}{p:List Rat}(hA:1<=A)(h:∀a∈p,Fit A a)(hl:p.length<=1000:=by omega):∀a∈ly p,Fit (A+12) a:=by
 refine vM fun a ha=>?_;obtain⟨i,hi,rfl⟩:=dH.1 ha;have hi:=fL.1 hi;exact(aD h _ hA).mul (Fit.int (by omega) (by omega))
theorem zM(p:List Rat):(ly p).length<=p.length-1:=by
 have h:=gX ((List.range (p.length-1)).map (dvI p));have h2:=jX (z:=zr) ((List.range (p.length-1)).map (dvI p));rw[ly,h]
 simpa using h2
def iV(st:Bool)(a b:Rat):Bool:=decide (a<b) || (!st&&decide (a=b))
def gT(st:Bool)(l:List Rat):Bool:=(List.range (l.length-1)).all fun i=>iV st (l.getD i 0) (l.getD (i+1) 0)
theorem an1{st:Bool}{l:List Rat}(h:∀i,i+1<l.length->iV st (l.getD i 0) (l.getD (i+1) 0)=true):gT st l=true:=by
 rw[gT,er];intro i hi;exact h i (by have:=fL.1 hi;omega)
theorem zn{st:Bool}{l:List Rat}(h:gT st l=true)(i:Nat)(hi:i+1<l.length:=by omega):iV st (l.getD i 0) (l.getD (i+1) 0)=true:=by
 rw[gT,er]at h;exact h i (fL.2 (by omega))
theorem Ww{st:Bool}{l:List Rat}(i:Nat)(hi:i+1<l.length)(h:iV st (l.getD i 0) (l.getD (i+1) 0)=false):gT st l=false:=by
 cases hr:gT st l with
 | false=>rfl
 | true=>rw[zn hr i hi]at h;cases h
theorem aq1{l:List Rat}(h:gT true l=true):∀(d i:Nat),i+d+1<l.length->l.getD i 0<l.getD (i+d+1) 0
 | 0,i,hi=>by
   have:=zn h i hi
   simpa[iV]using this
 | d+1,i,hi=>by
   have h1:=aq1 h d i (by omega);have h2:=zn h (i+d+1);have h3:l.getD (i+d+1) 0<l.getD (i+d+1+1) 0:=by simpa[iV]using h2
   exact Std.lt_trans h1 h3
theorem bg5{l:List Rat}(h:gT true l=true){i j:Nat}(hij:i<j)(hj:j<l.length):l.getD i 0<l.getD j 0:=by
 have:=aq1 h (j-i-1) i (by omega)
 rwa[show i+(j-i-1)+1=j by omega]at this
theorem aP2:aV prog f112 ck [.v (some 3),.v (some 3)]=bk3:=by kernel_rfl
def bG6:Tr:=nL 63 0 3 3 2 46 (kZ 1 1 2)
theorem aC2:aV prog f113 ck [.v none]=bG6:=by kernel_rfl
def Zz:Tr:=qS .gtr 3 23 0 11 0 4 (aR 12 0 ae0 (aR 1 0 (eB 11 0 0 3 28 (aR 13 0 ae0 (ao 3 1 3 11 (iY 0 2 14)))) (ao 3 1 3 11 (iY 0 2 13))))
def bC2:Tr:=aR 5 0 (dp 3 1 14 (bA 0 0 6 0 28 13 15 (bW 7 3 46 16 (bA 0 0 3 0 28 18 19 (bW 9 3 46 20 (fO 67 [(G3 8),(G3 10)] [none] [17,21] [46,46] 3 true Zz)))))) YE
def bz5:Tr:=xj 1 (al 0 0 8 28 (dD 3 0 4 3 7 9 4 bC2))
theorem Xw:aV prog f90 ck [.v none,.v none]=bz5:=by kernel_rfl
def bu4:Tr:=aR 5 0 (dp 3 1 14 (bA 0 0 6 0 32 13 15 (bW 7 4 51 16 (bA 0 0 3 0 32 18 19 (bW 9 4 51 20 (fO 41 [(G4 8),(G4 10)] [none] [17,21] [51,51] 3 true Zz)))))) YE
def bK7:Tr:=xj 1 (al 0 0 8 32 (dD 3 0 4 3 7 9 4 bu4))
theorem av4:aV prog f60 ck [.v none,.v none]=bK7:=by kernel_rfl
def bo4:Tr:=mz 83 0 3 98 3 (qS .gtr 3 4 40 1 0 4 YK)
theorem xg:aV prog f89 ck [.v none]=bo4:=by kernel_rfl
def Br:Tr:=og 2
def aZ5:Tr:=al 0 0 25 28 (dp 8 1 26 (oe .neq 3 23 27 7 0 9 0 4 (aR 10 0 Br (fO 81 [(W 0 1),(.one (.gp 89 []))] [none] [32,33] [29,143] 4 true (aR 11 0 Br (og 0))))))
def bC0:Tr:=al 0 0 10 28 (qS .gtr 3 11 60 3 0 4 (aR 4 0 Br (.need (.call 90 [(W 0 0),(tF true)] [none]) (.call ⟨.value (.func 90),#[(tT 16),(.const (.bool true))],#[28,4]⟩) 4 false (kL 5 0 17 (aR 6 0 Br (al 0 1 22 29 aZ5))))))
def bK0:Tr:=al 0 0 5 28 (iC 1 0 2 3 6 (aR 2 0 Br bC0))
theorem EG:aV prog f22 ck [.v (some 2)]=bK0:=by kernel_rfl
theorem oS(a b:Rat)(A B:Nat)(ha:Fit A a)(hb:Fit B b)(h:A+B<=34359738368:=by omega):aU prog 112 [(qT a:aN),(qT b:aN)] (.ret [qT (VU a b)]):=by
 refine dL func112 aP2 ?_;apply aA (Ym a b A B ha hb h);exact aL
theorem ee(n:Int)(h1:-9223372036854775808<=n:=by omega)(h2:n<9223372036854775808:=by omega):aU prog 113 [(.one (.int .i64 n):aN)] (.ret [qT (n:Rat)]):=by
 refine dL func113 aC2 ?_;apply aA (AV n h1 h2);exact aL
theorem nI{a b:Rat}:ef a b<=0↔a<=b:=by
 unfold ef;by_cases h1:a<b
 ·rw[aK h1];exact⟨fun _=>by grind,fun _=>by omega⟩
 ·rw[aG h1];by_cases h2:b<a
  ·rw[aK h2];exact⟨fun h=>by omega,fun h=>by grind⟩
  ·rw[aG h2];exact⟨fun _=>by grind,fun _=>by omega⟩
theorem iD{a b:Rat}:ef a b<0↔a<b:=by
 unfold ef;by_cases h1:a<b
 ·rw[aK h1];exact⟨fun h=>h1,fun h=>by omega⟩
 ·rw[aG h1];by_cases h2:b<a
  ·rw[aK h2];exact⟨fun _=>by omega,fun h=>absurd h h1⟩
  ·rw[aG h2];exact⟨fun h=>by omega,fun h=>absurd h h1⟩
theorem zd{a b:Rat}:ef a b>0↔b<a:=by
 have:=nI (a:=a) (b:=b)
 constructor
 ·intro h;have h2:¬a<=b:=fun e=>by have:=this.2 e;omega
  grind
 ·intro h;have h2:¬ef a b<=0:=fun e=>by have:=this.1 e;grind
  omega
theorem au0{a b:Rat}:ef a b=0↔a=b:=by
 have h1:=@zd a b;have h2:=@iD a b
 constructor
 ·intro h;have e1:¬b<a:=fun h'=>by have:=h1.2 h';omega
  have e2:¬a<b:=fun h'=>by have:=h2.2 h';omega
  exact Std.le_antisymm (fu.1 e1) (fu.1 e2)
 ·intro h;subst h;have e1:¬0<ef a a:=fun h'=>mS (h1.1 h');have e2:¬ef a a<0:=fun h'=>mS (h2.1 h');omega
theorem ac0{st:Bool}{a b:Rat}(h:0<ef a b):iV st a b=false:=by
 have h:=zd.1 h;have h1:¬a<b:=fun h'=>mS (Std.lt_trans h h');have h2:¬a=b:=fun e=>by rw[e]at h;exact mS h
 simp[iV,h1,h2]
theorem step_eq{a b:Rat}(h:ef a b=0):iV true a b=false:=by
 have h:=au0.1 h;subst h;have h1:¬a<a:=mS;simp[iV,h1]
theorem uo{st:Bool}{a b:Rat}(h:¬0<ef a b)(h0:st=true->¬ef a b=0):iV st a b=true:=by
 rcases NJ (ef a b) 0 with h1 | h1 | h1
 ·have:=iD.1 h1;simp[iV,this]
 ·have h2:st=false:=by cases st;rfl;exact absurd h1 (h0 rfl)
  have:=au0.1 h1;simp[iV,this,h2]
 ·exact absurd h1 h
def Pp(st:Bool)(l:List Rat)(i:Nat):Prop:=1<=i/\i<=max l.length 1/\∀j,j+1<i->iV st (l.getD j 0) (l.getD (j+1) 0)=true
theorem Pp.next{st:Bool}{l:List Rat}{i:Nat}(h:Pp st l i)(hi:i<l.length)(hs:iV st (l.getD (i-1) 0) (l.getD i 0)=true):Pp st l (i+1):=
 ⟨by omega,by omega,fun j hj=>by
  have h1:=h.1;rcases fY (j+1) i with h2 | h2
  ·exact h.2.2 j h2
  ·obtain rfl:j=i-1:=by omega
   rwa[show i-1+1=i by omega]⟩
theorem Pp.no{st:Bool}{l:List Rat}{i:Nat}(h:Pp st l i)(hi:i<l.length)(hs:iV st (l.getD (i-1) 0) (l.getD i 0)=false):gT st l=false:=
 Ww (i-1) (by have:=h.1;omega) (by rwa[show i-1+1=i by have:=h.1;omega])
theorem Pp.all{st:Bool}{l:List Rat}{i:Nat}(h:Pp st l i)(hi:¬i<l.length):gT st l=true:=
 an1 fun j hj=>h.2.2 j (by have:=h.1;omega)
theorem qU(l:List Rat)(st:Bool)(A:Nat)(hp:∀a∈l,Fit A a)(hA1:1<=A)(hA:A<=1073741824)(hl:l.length<1099511627776:=by omega):aU prog 90 [(.one (sQ l):aN),(.one (.exact (.bool st)):aN)] (.ret [.one (.bool (gT st l))]):=by
 refine dL func90 Xw ?_;refine bE {i:Nat // Pp st l i} (fun g=>[.one (.bool false),.one (.int .i64 (g.1:Int))]) (fun g=>l.length+1-g.1) ⟨1,by omega,by omega,fun j hj=>by omega⟩ aZ.rfl (fun _=>rfl) ?_;rintro⟨i,hi⟩;have hi1:=hi.1;dsimp only[aE,aF]at|-;apply vn (aP ay (aI _));apply vn aj;refine vs _ rfl ?_ ?_<;>intro h3
 ·apply vn (aH (by omega) (by omega));dsimp only[aE,aF];apply vn (aJ ay (m:=i-1) (by omega) (by omega) (aX (show i-1<l.length by omega)));apply vn (aQ cM (by decide) (by simp) (.inl rfl));dsimp only[aE,aF];apply vn (aJ ay (m:=i) (by omega) (av i) (aX (show i<l.length by omega)));apply vn (aQ cM (by decide) (by simp) (.inl rfl));apply aA (jH (l.getD (i-1) 0) (l.getD i 0) A A (aD hp _ hA1) (aD hp _ hA1));apply vn fB;dsimp only[aE,aF];refine vs _ rfl ?_ ?_<;>intro h11
  ·rw[hi.no (by omega) (ac0 h11)];exact aL
  refine jm st rfl (fun h13=>?_) (fun h13=>?_)
  ·apply vn bj;refine vs _ rfl ?_ ?_<;>intro h15
   ·subst h13;rw[hi.no (by omega) (step_eq h15)];exact aL
   apply vn (aB (by omega) (by omega));dsimp only[aE,aF];exact ab rfl ⟨⟨i+1,hi.next (by omega) (uo h11 fun _=>h15)⟩,aZ.rfl,by show l.length+1-(i+1)<l.length+1-i;omega⟩
  apply vn (aB (by omega) (by omega));dsimp only[aE,aF];exact ab rfl ⟨⟨i+1,hi.next (by omega) (uo h11 fun h=>by rw[h13]at h;cases h)⟩,aZ.rfl,by show l.length+1-(i+1)<l.length+1-i;omega⟩
 rw[hi.all (by omega)];exact aL
theorem aD1(l:List RQ)(st:Bool)(A:Nat)(hp:∀a∈l,Fit A a.q)(hA:A<=1073741824)(hl:l.length<1099511627776:=by omega):aU prog 60 [(.one (sR l):aN),(.one (.exact (.bool st)):aN)] (.ret [.one (.bool (gT st (l.map RQ.q)))]):=by
 refine dL func60 av4 ?_;have hlm:(l.map RQ.q).length=l.length:=aI _;have hg:∀i a,l[i]?=some a->(l.map RQ.q).getD i 0=a.q:=fun i a h=>by rw[<-wK,Dl h]
 refine bE {i:Nat // Pp st (l.map RQ.q) i} (fun g=>[.one (.bool false),.one (.int .i64 (g.1:Int))]) (fun g=>l.length+1-g.1) ⟨1,by omega,by omega,fun j hj=>by omega⟩ aZ.rfl (fun _=>rfl) ?_;rintro⟨i,hi⟩;have hi1:=hi.1;dsimp only[aE,aF]at|-;apply vn (aP eG (aI _));apply vn aj;refine vs _ rfl ?_ ?_<;>intro h3
 ·apply vn (aH (by omega) (by omega));dsimp only[aE,aF];obtain⟨a,ha⟩:∃a,l[i-1]?=some a:=⟨_,bQ (by omega)⟩
  obtain⟨b,hb⟩:∃b,l[i]?=some b:=⟨_,bQ (by omega)⟩
  have ea:=hg _ _ ha;have eb:=hg _ _ hb;apply vn (aJ eG (m:=i-1) (by omega) (by omega) ha);apply vn (aQ gB (by decide) (by simp) (.inl rfl));apply vn (aJ eG (m:=i) (by omega) (av i) hb);apply vn (aQ gB (by decide) (by simp) (.inl rfl));dsimp only[aE,aF];apply aA (jw a b A A (hp a (ei ha)) (hp b (ei hb)));rw[<-ea,<-eb];apply vn fB;refine vs _ rfl ?_ ?_<;>intro h11
  ·rw[hi.no (by omega) (ac0 h11)];exact aL
  refine jm st rfl (fun h13=>?_) (fun h13=>?_)
  ·apply vn bj;refine vs _ rfl ?_ ?_<;>intro h15
   ·subst h13;rw[hi.no (by omega) (step_eq h15)];exact aL
   apply vn (aB (by omega) (by omega));dsimp only[aE,aF];exact ab rfl ⟨⟨i+1,hi.next (by omega) (uo h11 fun _=>h15)⟩,aZ.rfl,by show l.length+1-(i+1)<l.length+1-i;omega⟩
  apply vn (aB (by omega) (by omega));dsimp only[aE,aF];exact ab rfl ⟨⟨i+1,hi.next (by omega) (uo h11 fun h=>by rw[h13]at h;cases h)⟩,aZ.rfl,by show l.length+1-(i+1)<l.length+1-i;omega⟩
 rw[hi.all (by omega)];exact aL
def aO7(p:List Rat):Bool:=decide ((nX zr p:Int)-1>40)
theorem xX(p:List Rat)(hs:p.length<1099511627776):aU prog 89 [(.one (sQ p):aN)] (.ret [.one (.bool (aO7 p))]):=by
 refine dL func89 xg ?_;apply aA (ak6 p hs);apply vn fB;exact aL
def TN(ks:List Rat)(ps:List (List Rat)):Bool:=decide (2<=ks.length)&&(decide (ks.length<=60)&&(gT true ks&&(decide (ps.length+1=ks.length) && !ps.any aO7)))
theorem CA(ks:List Rat)(ps:List (List Rat))(A:Nat)(hp:∀a∈ks,Fit A a)(hA1:1<=A)(hps:∀p∈ps,p.length<1099511627776)(hl:ks.length<1099511627776:=by omega)(hA:A<=1073741824:=by omega)(hs:ps.length<1099511627776:=by omega):aU prog 22 [(.agg [sQ ks,eQ ps]:aN)] (.ret [.one (.int .i64 (if TN ks ps then 0 else 2))]):=by
 refine dL func22 EG ?_;apply vn (aP ay (aI _));apply vn aj;refine vs _ rfl ?_ ?_<;>intro h2
 ·rw[TN,cE (by omega)];exact aL
 apply vn (aP ay (aI _));apply vn fB;dsimp only[aE,aF];refine vs _ rfl ?_ ?_<;>intro h6
 ·rw[TN,bV (show 2<=ks.length by omega),cE (by omega)];exact aL
 apply aA (qU ks true A hp hA1 hA hl);apply vn gQ;refine jm (!gT true ks) rfl (fun h10=>?_) (fun h10=>?_)
 ·rw[TN,bV (show 2<=ks.length by omega),bV (show ks.length<=60 by omega),show gT true ks=false by simpa using h10];exact aL
 apply vn (aP sO (aI _));apply vn (aP ay (aI _));dsimp only[aE,aF];apply vn (aH (by omega) (by omega));apply vn fC;refine vs _ rfl ?_ ?_<;>intro h16
 ·rw[TN,bV (show 2<=ks.length by omega),bV (show ks.length<=60 by omega),show gT true ks=true by simpa using h10,cE (by omega)];exact aL
 apply aA (UH ps 89 aO7 (fun p h=>xX p (hps p h)) hs);refine jm (ps.any aO7) rfl (fun h19=>?_) (fun h19=>?_)
 ·rw[TN,bV (show 2<=ks.length by omega),bV (show ks.length<=60 by omega),show gT true ks=true by simpa using h10,bV (show ps.length+1=ks.length by omega),h19];exact aL
 rw[TN,bV (show 2<=ks.length by omega),bV (show ks.length<=60 by omega),show gT true ks=true by simpa using h10,bV (show ps.length+1=ks.length by omega),h19];exact aL
def bE7:Tr:=aJ8 28 (aR 1 0 av2 (aq3 28 (TI 3 56 2 0 5 6 28 (nP 3 3))))
theorem Lf:aV prog f84 ck [.v none]=bE7:=by kernel_rfl
def bw1:Tr:=bA 0 1 3 0 29 11 13 (dh 7 98 15 (mz 124 8 19 98 98 (vH 9 29 20 (fH 1 24 5 10 18 21 29 (ao 3 1 3 13 (qi 0 12 4 11))))))
def bq5:Tr:=mz 84 0 7 28 28 (al 0 1 11 29 (.loop 0 [lK 0,lV 1 0,.nilrow] (dD 3 0 2 3 13 12 0 (aR 6 0 bw1 (aJ3 4 5)))))
theorem al2:aV prog f80 ck [.v (some 2)]=bq5:=by kernel_rfl
theorem XL(ts:List (List aC))(hs:ts.length<1099511627776):aU prog 84 [(.one (.nnS 3 ts):aN)] (.ret [.one (.slice 3 ts)]):=by
 refine dL func84 Lf ?_;apply vn (aG6 ay);refine jm false rfl (fun h=>by cases h) (fun _=>?_);apply eL (us:=[]);refine uH (ts:=[]) (us:=ts) (vs:=ts) rfl (.inr aC.Sub.nn) rfl (by omega) (by simp only[maxLen];omega) ?_;exact aL
theorem Wy  :aU prog 84 [(.one .aB2:aN)] (.ret [.one (.slice 3 [])]):=by
 refine dL func84 Lf ?_;apply vn (aK0 ay);refine jm true rfl (fun _=>?_) (fun h=>by cases h);exact fK ⟨aC.Sub.nil,trivial⟩
theorem KT(ts:List (List aC))(hs:ts.length<1099511627776):aU prog 84 [.one (.slice 3 ts)] (.ret [.one (.slice 3 ts)]):=
 Dr (fun e=>by subst e;exact Wy) (XL ts hs)
abbrev xk(ps:List (List Rat)):List (List Rat):=ps.map ly
theorem Lj(ks:List Rat)(ps:List (List Rat))(A:Nat)(hs:ps.length<1099511627776)(hps:∀p∈ps,p.length<1099511627776/\∀a∈p,Fit A a)(hA1:1<=A:=by omega)(hA:A<=1073741824:=by omega)(hl:ks.length<1099511627776:=by omega):aU prog 80 [(.agg [sQ ks,eQ ps]:aN)] (.ret [.agg [sQ ks,eQ (xk ps)]]):=by
 refine dL func80 al2 ?_;apply aA (KT (rQ ks) (by rw[aI];exact hl)) rfl;apply vn (aP sO (aI _));refine bE {i:Nat // i<=ps.length} (fun g=>[.one (.int .i64 (g.1:Int)),.one (sQ ks),.rows ((xk (ps.take g.1)).map cQ)]) (fun g=>ps.length-g.1) ⟨0,cz _⟩ aZ.rfl (fun _=>rfl) ?_;rintro⟨i,hi⟩;dsimp only[aE,aF]at hi|-;apply vn aj;refine vs _ rfl ?_ ?_<;>intro h4
 ·obtain⟨p,hp⟩:∃p,ps[i]?=some p:=⟨_,bQ (by omega)⟩
  have hpp:=hps p (ei hp);have hll:(xk (ps.take i)).length<=i:=by simp;omega
  apply vn (aJ sO (by omega) (by omega) hp);apply vn (bg Yd);apply aA (aj1 p A hA1 hpp.1 hpp.2);dsimp only[aE,aF];apply eL (us:=[cQ (ly p)]);refine iE (xs:=xk (ps.take i)) (x:=ly p) (f:=cQ) rfl rfl (by omega) (by simp only[maxLen];omega) ?_;rw[xF (f:=ly) hp];apply vn (aB (by omega) (by omega));dsimp only[aE,aF];exact ab rfl ⟨⟨i+1,by omega⟩,aZ.rfl,by show ps.length-(i+1)<ps.length-i;omega⟩
 rw[show i=ps.length by omega,gw];exact aL
end Go.Sy
