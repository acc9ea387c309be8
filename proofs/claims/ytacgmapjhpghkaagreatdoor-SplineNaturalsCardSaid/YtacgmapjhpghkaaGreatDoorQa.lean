/- Part. -/
import Derived.Test.YtacgmapjhpghkaaGreatDoorPb
set_option linter.all false
namespace Go.Sy
open Go Go.Proofs Tryz Ord
def cv1:Tr:=fN 4 0 3 3 11 10 0 (aY 6 0 (.need (.callv (.u 1 0) [(W 4 0)] [(some 3)]) (.call ⟨.value (tT 16),#[(tT 17)],#[3]⟩) 46 true (ei 5 4 98 14 15 (We 5 4 7 19 18 (cT 4 1 3 11 (sk 0 9 8))))) (Dj 157 3 5 21 98 (cd 7)))
def cs6:Tr:=aY6 0 98 7 (OG 2 9 98 (Es 0 2 cv1))
def bj9:af prog f159 dV [.v none,.v none]=cs6:=aS
def aH2:Tr:=mD 5 5 2
def bA3:Tr:=.ret [(.agg [tN,(tE (.bool false)),tN])]
def cv4:Tr:=bL 0 0 6 98 (fN 1 0 2 3 5 7 4 (aY 3 0 (gW 0 0 1 0 98 9 10 (di 4 3 46 11 aH2)) bA3))
def ck4:af prog f161 dV [.v none,.v none]=cv4:=aS
def cg4:Tr:=WC 161 1 0 3 5 6 98 3 46 (Pk 161 2 0 0 3 8 9 98 3 46 (kv 88 3 3 1 3 2 4 7 10 aH2))
def aY8:af prog f160 dV [.v none,.ref 1,.ref 1]=cg4:=aS
def bB7:Tr:=cd 5
def cr5:Tr:=bL 0 0 5 98 (bL 1 0 7 98 (.need (.prim [(W 2 0),(W 3 0)] none) (.call ⟨.builtin .max,#[(tT 6),(tT 8)],#[3,3]⟩) 3 false (gO 159 [(W 4 0),(.one (.gv 160 [(.ref 0 [(.u 0 0)]),(.ref 0 [(.u 1 0)])]))] [none] [9,10] [3,165] 98 true bB7)))
def bM8:af prog f66 dV [.v none,.v none]=cr5:=aS
def cx9:Tr:=gW 1 0 0 0 98 5 6 (di 3 3 46 7 (kv 76 4 4 1 4 2 2 8 9 aH2))
def ZQ:af prog f194 dV [.v none,.ref 1,.ref 3]=cx9:=aS
def aF2:Tr:=cd 3
def cA5:Tr:=bL 0 0 5 98 (gO 159 [(W 2 0),(.one (.gv 194 [(.ref 0 [(.u 0 0)]),(.ref 0 [(.u 1 0),(.u 1 1),(.u 1 2)])]))] [none] [6,7] [3,165] 98 true aF2)
def aF0:af prog f125 dV [.v none,.v (some 3)]=cA5:=aS
def aJ5:Tr:=hx221Q 
def bY7:Tr:=Qd 21 26 3 46 50 (kv 76 16 16 1 16 2 24 52 53 (kv 88 27 27 1 27 2 28 51 54 (ei 21 25 98 42 45 (We 21 25 29 56 55 (cT 20 1 3 37 (sk 1 31 30))))))
def bT5:Tr:=fN 20 0 19 3 37 36 0 (aY 22 0 (gW 1 0 20 0 98 35 37 (di 23 3 46 40 (dw 12 20 3 43 44 (dw 12 20 3 47 48 (ei 21 26 98 46 49 bY7))))) (cT 12 1 3 27 (sk 0 23 21)))
def bH7:Tr:=gW 0 0 12 0 98 25 27 (di 15 3 46 30 (CO 23 16 32 3 (ir 17 0 0 3 33 (aY 18 0 (cT 12 1 3 27 (sk 0 19 13)) (bL 1 0 35 98 (Es 1 13 bT5))))))
def bT1:Tr:=aY6 9 98 23 (bL 0 0 25 98 (Es 0 10 (fN 12 0 11 3 27 26 0 (aY 14 0 bH7 (Dj 157 3 13 59 98 (cd 15))))))
def cj7:Tr:=bL 1 0 14 98 (ir 4 0 0 3 15 (aY 5 0 aJ5 (bL 0 0 18 98 (bL 1 0 20 98 (dw 6 7 3 19 21 (en 8 1 22 bT1))))))
def ci6:Tr:=bL 0 0 10 98 (ir 2 0 0 3 11 (aY 3 0 aJ5 cj7))
def bD8:af prog f64 dV [.v none,.v none]=ci6:=aS
def cq1:Tr:=yF 63 1 3 2 46 (al7 0 1 98 3 4 (qV 3 2))
def bt4:af prog f232 dV [.v (some 3)]=cq1:=aS
def bx3:Tr:=cd 2
def cl8:Tr:=Pm 0 98 3 (Dj 157 3 1 4 98 bx3)
def Vc:af prog f251 dV [.v (some 3)]=cl8:=aS
def aA4(n:Nat):az (az aC.Sub) (List.replicate n [.exact (.slice none 0 0),.bool false,.exact (.slice none 0 0)]) (rQ (List.replicate n 0)):=by
 induction n with
 | zero=>trivial
 | succ n ih=>rw[kP,kP];exact⟨nO,ih⟩
def aP8(n:Nat):aQ.Sub (.rows (List.replicate n [.exact (.slice none 0 0),.bool false,.exact (.slice none 0 0)])) (.rows (rQ (List.replicate n 0))):=aA4 n
def part(f:c8)(n i:Nat):List Rat:=(List.range i).map f++List.replicate (n-i) 0
def XO{f:c8}{n i:Nat}(h:i<=n):(part f n i).length=n:=by simp[part];omega
def WZ{f:c8}{n i:Nat}(h:i<n):(part f n i).set i (f i)=part f n (i+1):=by
 rw[part,part,gy,cG,Sc _ _ aT];rw[show n-i=(n-(i+1))+1 by omega,kP];simp
def Cs(n:Nat)(g:Nat)(caps:List aC)(f:c8)(hf:∀i,i<n->aX prog g (.one (.int .i64 (i:Int))::caps.map .one) (.ret [qT (f i)]))(hn:n<1099511627776):aX prog 159 [(.one (.int .i64 n):aQ),(.one (.gv g caps):aQ)] (.ret [.one (sQ (trim ((List.range n).map f)))]):=by
 refine eD func159 bj9 ?_;refine tf (n:=n) (m:=n) rfl rfl rfl (ah _) O (by simp only[maxLen];omega) ?_;refine Wt rfl (dU) ?_;refine bZ {i:Nat // i<=n} (fun g=>[.one (.int .i64 g.1),.rows (rQ (part f n g.1))]) (fun g=>n-g.1) ⟨0,dM _⟩ ⟨aQ.Sub.same,aP8 n,trivial⟩ (fun _=>rfl) ?_;rintro⟨i,hi⟩;dsimp only[aU,aV]at hi|-;have hpl:=XO (f:=f) hi;apply vn bO;refine l4 ?_ ?_<;>intro h4
 .apply FL (f:=g) (caps:=caps) rfl (hf i O) rfl;refine bo rfl rfl O (by first | omega | (rw[al];omega)) ?_;obtain⟨q,hq⟩:∃q,(part f n i)[i]?=some q:=⟨_,bM O⟩
  refine gL (f:=qC) (d':=f i) rfl rfl O (bI i) hq rfl ?_;rw[WZ O];apply vn (aB O O);dsimp only[aU,aV];exact aq rfl ⟨⟨i+1,O⟩,ai.rfl,by show n-(i+1)<n-i;omega⟩
 have hin:i=n:=O
 subst hin;rw[show part f i i=(List.range i).map f by simp[part]];apply aA (CA ((List.range i).map f) (by rw[aL,nL];omega)) rfl;exact aR
def bz9(p:c4)(i:Nat)(hi:i<4611686018427387904):aX prog 161 [(.one (sQ p):aQ),(.one (.int .i64 i):aQ)] (.ret [qT (p.getD i 0)]):=by
 refine eD func161 ck4 ?_;apply vn (ae mG (aL _));apply vn bO;refine l4 ?_ ?_<;>intro h2
 .have hlt:i<p.length:=O
  apply vn (aN mG O (bI i) (aa hlt));apply vn (ab cb bY aT (.inl rfl));exact aR
 rw[show p.getD i 0=0 by rw[fI,jQ O];rfl];exact gj ⟨nO,trivial⟩
def aD{A:Nat}{l:c4}(h:∀a∈l,Fit A a)(i:Nat)(hA:1<=A:=by omega):Fit A (l.getD i 0):=by
 rw[fI];cases hi:l[i]? with
 | none=>exact Fit.zero hA
 | some a=>exact h a (dc hi)
def aT7(p q:c4)(i A B:Nat)(hA:1<=A)(hB:1<=B)(hp:∀a∈p,Fit A a)(hq:∀b∈q,Fit B b)(h:A+B<=34359738368)(hi:i<4611686018427387904:=by omega):aX prog 160 [(.one (.int .i64 i):aQ),(.one (.aw ([sQ p])):aQ),(.one (.aw ([sQ q])):aQ)] (.ret [qT (p.getD i 0+q.getD i 0)]):=by
 refine dvr (ins:=[.v (.one (.int .i64 i)),.ref ([sQ p]),.ref ([sQ q])]) func160 aY8 ?_;apply aA (bz9 p i hi);apply aA (bz9 q i hi);apply aA (oV _ _ A B (aD hp i hA) (aD hq i hB) h);exact aR
def pA(p q:c4):List Rat:=trim ((List.range (max p.length q.length)).map fun i=>p.getD i 0+q.getD i 0)
def ZV(p q:c4)(A B:Nat)(hp:∀a∈p,Fit A a)(hq:∀b∈q,Fit B b)(hql:q.length<1099511627776)(hA:1<=A:=by omega)(hB:1<=B:=by omega)(hpl:p.length<1099511627776:=by omega)(h:A+B<=34359738368:=by omega):aX prog 66 [(.one (sQ p):aQ),(.one (sQ q):aQ)] (.ret [.one (sQ (pA p q))]):=by
 refine eD func66 bM8 ?_;apply vn (ae mG (aL _));apply vn (ae mG (aL _));apply vn (ba8 (k:=.i64) (a:=(p.length:Int)) (b:=(q.length:Int)));rw[show max (p.length:Int) (q.length:Int)=((max p.length q.length:Nat):Int) by omega];apply aA (Cs (max p.length q.length) 160 [.aw [sQ p],.aw [sQ q]] (fun i=>p.getD i 0+q.getD i 0) (fun i hi=>aT7 p q i A B hA hB hp hq h) O);exact aR
def gk(p q:c4):List Rat:=if p=[]\/q=[]then[]else trim (mulL p q p.length)
set_option maxHeartbeats 1000000 in
def aU9(p q:c4)(D E S T B:Nat)(h0:D≠0)(h1:E≠0)(hp:∀a∈p,Bd D S a)(hq:∀b∈q,Bd E T b)(hB:B<=8589934592)(hX:D*E*((p.length+1)*((S+1)*(T+1)))<2^B)(hpl:p.length<=549755813888:=by omega)(hql:q.length<=549755813888:=by omega):aX prog 64 [(.one (sQ p):aQ),(.one (sQ q):aQ)] (.ret [.one (sQ (gk p q))]):=by
 refine eD func64 bD8 ?_;obtain⟨f1,f2,f3,f4⟩:=Fg h0 h1 hX;apply vn (ae mG (aL _));apply vn cW;refine l4 ?_ ?_<;>intro h2
 .have hp0:p=[]:=ep O;rw[gk,aF (.inl hp0)];exact gj ⟨aC.Sub.nil,trivial⟩
 apply vn (ae mG (aL _));apply vn cW;refine l4 ?_ ?_<;>intro h6
 .have hq0:q=[]:=ep O;rw[gk,aF (.inr hq0)];exact gj ⟨aC.Sub.nil,trivial⟩
 have hp0:0<p.length:=O
 have hq0:0<q.length:=O
 rw[gk,aG (fun h=>h.elim (fun h=>by rw[h]at hp0;simp at hp0) fun h=>by rw[h]at hq0;simp at hq0)];obtain⟨n,hn⟩:∃n:Nat,(p.length:Int)+(q.length:Int)-1=(n:Int):=⟨p.length+q.length-1,O⟩
 have hn':p.length+q.length-1=n:=O
 apply vn (ae mG (aL _));apply vn (ae mG (aL _));apply vn (aB O O);apply vn (aI O O);rw[hn];dsimp only[aU,aV];refine tf (n:=n) (m:=n) rfl rfl rfl (ah _) O (by simp only[maxLen];omega) ?_;apply vn (ae mG (aL _));dsimp only[aU,aV];refine bZ {i:Nat // i<=p.length} (fun g=>[.one (.int .i64 g.1),.rows (rQ (mulL p q g.1))]) (fun g=>p.length-g.1) ⟨0,dM _⟩ ⟨aQ.Sub.same,by show aQ.Sub _ (.rows (rQ (mulL p q 0)));rw[mulL,hn'];exact aP8 n,trivial⟩ (fun _=>rfl) ?_;rintro⟨i,hi⟩;dsimp only[aU,aV]at hi|-;apply vn bO;refine l4 ?_ ?_<;>intro h16
 .apply vn (aN mG O (bI i) (aa (show i<p.length by omega)));apply vn (ab cb bY aT (.inl rfl));apply aA (mV _);apply vn cW;refine l4 ?_ ?_<;>intro h21
  .have hz:p.getD i 0=0:=sign_zero.1 h21;apply vn (aB O O);dsimp only[aU,aV];exact aq rfl ⟨⟨i+1,O⟩,(by dsimp only;rw[mulL,aF hz];exact ai.rfl),by show p.length-(i+1)<p.length-i;omega⟩
  have hz:¬p.getD i 0=0:=fun h=>h21 (sign_zero.2 h);have ho:=xJ h0 h1 hp hq i;have hi2:i<p.length:=O
  apply vn (ae mG (aL _));refine bZ {k:Nat // k<=q.length} (fun g=>[.one (.int .i64 g.1),.rows (rQ (jP (p.getD i 0) q i (mulL p q i) g.1))]) (fun g=>q.length-g.1) ⟨0,dM _⟩ ai.rfl (fun _=>rfl) ?_;rintro⟨k,hk⟩;dsimp only[aU,aV]at hk|-;apply vn bO;refine l4 ?_ ?_<;>intro h27
  .have hk2:k<q.length:=O
   have hrow:=Fy h0 h1 (lR hp i) hq ho k (i:=i);have hrl:(jP (p.getD i 0) q i (mulL p q i) k).length=n:=by rw[mb,jR,hn']
   have hget:=aa (l:=jP (p.getD i 0) q i (mulL p q i) k) (i:=i+k);have hfo:Fit B ((jP (p.getD i 0) q i (mulL p q i) k).getD (i+k) 0):=f3 _ i hi2 (hrow _ (dc hget));apply vn (aN mG O (bI k) (aa hk2));apply vn (ab cb bY aT (.inl rfl));apply vn (aB O O);apply vn (aB O O);refine bo rfl rfl O O ?_;refine Nv rfl rfl O (show((i:Int)+(k:Int)).toNat=i+k by omega) hget (.inl rfl) rfl ?_;dsimp only[aU,aV,mkS,List.drop,List.take];apply aA (ig _ _ B B (f1 _ (lR hp i)) (f2 _ (lR hq k)));apply aA (oV _ _ B B hfo (f4 _ ((lR hp i).mul h0 h1 (lR hq k))));refine bo rfl rfl O O ?_;refine gL (f:=qC) (d':=(jP (p.getD i 0) q i (mulL p q i) k).getD (i+k) 0+p.getD i 0*q.getD k 0) rfl rfl O (show((i:Int)+(k:Int)).toNat=i+k by omega) hget rfl ?_;apply vn (aB O O);dsimp only[aU,aV];exact aq rfl ⟨⟨k+1,O⟩,ai.rfl,by show q.length-(k+1)<q.length-k;omega⟩
  apply vn (aB O O)
  exact aq rfl ⟨⟨i+1,O⟩,(by
   dsimp only;rw[mulL,aG hz,show q.length=k by omega];exact ai.rfl),by show p.length-(i+1)<p.length-i;omega⟩
 rw[show p.length=i by omega];apply aA (CA _ (by rw[jR];omega)) rfl;exact aR
def bv9(c:Rat):aX prog 232 [(qT c:aQ)] (.ret [.one (sQ [c,1])]):=by
 refine eD func232 bt4 ?_;apply aA (CT 1);apply et rfl;exact aR
def Wr(c:Rat):aX prog 251 [(qT c:aQ)] (.ret [.one (sQ (trim [c]))]):=by
 refine eD func251 Vc ?_;apply et rfl;apply aA (CA [c] aT);exact aR
def bz5:Tr:=cd 4
def cn6:Tr:=aY 5 0 (gW 0 0 4 0 29 12 13 (eZ 6 98 14 (.need (.callv (.u 1 0) [(W 7 0)] [none]) (.call ⟨.value (tT 11),#[(tT 15)],#[98]⟩) 4 true (aY 8 0 bz5 (cT 4 1 3 8 (lh 0 3 9)))))) (qe (-1))
def cm6:Tr:=bL 0 0 6 29 (Eg (fN 4 0 2 3 8 7 0 cn6))
def aH6:af prog f179 dV [.v none,.v none]=cm6:=aS
def cy2:Tr:=iK 179 0 0 1 5 6 29 143 3 (oh 2 0 7 aF2)
def Vf:af prog f81 dV [.v none,.v none]=cy2:=aS
def ci4:Tr:=gW 0 0 4 0 102 17 18 (di 15 4 51 19 (Aq 77 16 16 1 16 2 16 3 9 10 0 11 0 12 0 20 21 (Aq 99 5 6 0 7 0 8 0 17 17 1 17 2 17 3 16 22 (Aq 77 9 10 0 11 0 12 0 1 1 1 1 2 1 3 24 25 (cT 4 1 3 14 (.back 0 [lV 20 0,lV 18 0,lV 18 1,lV 18 2,lV 18 3,lV 19 0,lV 19 1,lV 19 2,lV 19 3]))))))
def ci3:Tr:=yF 39 0 4 2 51 (yF 39 1 4 2 51 (.loop 0 [lK 0,lV 2 0,lV 2 1,lV 2 2,lV 2 3,lV 3 0,lV 3 1,lV 3 2,lV 3 3] (bL 0 0 11 102 (fN 4 0 13 3 10 12 4 (aY 14 0 ci4 (si 5 6 0 7 0 8 0))))))
def bl0:af prog f97 dV [.v none,.v (some 4)]=ci3:=aS
def as9:Tr:=hx128Q 
def bK8:Tr:=gW 1 0 6 0 32 21 22 (di 11 4 51 23 (gO 29 [(G3 10),(G4 12)] [none] [20,24] [46,51] 4 true (jU 13 0 25 (aY 14 0 as9 (cT 6 1 3 15 (lh 0 5 15))))))
def ah0:Tr:=.ret [(tF true)]
def ck6:Tr:=aY 4 0 as9 (FF 0 (bL 0 0 12 28 (fN 6 0 7 3 11 13 4 (aY 8 0 (gW 0 0 6 0 28 17 18 (di 9 3 46 19 bK8)) ah0))))
def cy9:Tr:=bL 0 0 6 28 (bL 1 0 8 32 (ss .neq 3 7 9 2 0 3 0 4 ck6))
def aV5:af prog f43 dV [.v none,.v none]=cy9:=aS
abbrev cQ(p:c4):List aC:=[sQ p]
abbrev cR(p:List RQ):List aC:=[sR p]
abbrev eQ(e:b9):aC:=.slice 1 (e.map cQ)
abbrev eR(e:List (List RQ)):aC:=.slice 1 (e.map cR)
def nG{α:Type}(c:α->Bool):List α->Nat->Int
 | [],_=>-1
 | x::xs,i=>if c x then(i:Int)else nG c xs (i+1)
theorem Xq{α:Type}(c:α->Bool):∀(l:List α)(i:Nat),decide (0<=nG c l i)=l.any c
 | [],i=>rfl
 | x::xs,i=>by
   simp only[nG,List.any_cons];split
   .rename_i h;rw[h];simp
   .rename_i h;rw[Xq c xs (i+1)];simp[h]
def aX5(e:b9)(g:Nat)(c:List Rat->Bool)(hc:∀p∈e,aX prog g [.one (sQ p)] (.ret [.one (.bool (c p))]))(hs:e.length<1099511627776):aX prog 179 [(.one (eQ e):aQ),(.one (.gv g []):aQ)] (.ret [.one (.int .i64 (nG c e 0))]):=by
 refine eD func179 aH6 ?_;apply vn (ae uE (aL _));refine bZ {i:Nat // i<=e.length/\nG c e 0=nG c (e.drop i) i} (fun g=>[.one (.int .i64 0),.one (.int .i64 g.1)]) (fun g=>e.length-g.1) ⟨0,dM _,rfl⟩ ai.rfl (fun _=>rfl) ?_;rintro⟨i,hi,hf⟩;dsimp only[aU,aV]at hi hf|-;apply vn bO;refine l4 ?_ ?_<;>intro h3
 .obtain⟨p,hp⟩:∃p,e[i]?=some p:=⟨_,bM O⟩
  have hdrop:e.drop i=p::e.drop (i+1):=by
   rw[jW O,(cL.1 hp).2]
  rw[hdrop,nG]at hf;apply vn (aN uE O O hp);apply vn (bq ae1);apply FL (f:=g) (caps:=[]) rfl (hc p (dc hp)) rfl;refine nI (c p) rfl (fun h7=>?_) (fun h7=>?_)
  .rw[hf,aF h7];exact aR
  apply vn (aB O O);dsimp only[aU,aV];exact aq rfl ⟨⟨i+1,O,by rw[hf,aG (by simp[h7])]⟩,ai.rfl,by show e.length-(i+1)<e.length-i;omega⟩
 rw[hf,mY O,nG];exact aR
def XA(e:b9)(g:Nat)(c:List Rat->Bool)(hc:∀p∈e,aX prog g [.one (sQ p)] (.ret [.one (.bool (c p))]))(hs:e.length<1099511627776):aX prog 81 [(.one (eQ e):aQ),(.one (.gv g []):aQ)] (.ret [.one (.bool (e.any c))]):=by
 refine eD func81 Vf ?_;apply aA (aX5 e g c hc hs);apply vn kz;dsimp only[aU,aV];rw[<-Xq c e 0];exact aR
def ab6(ps:c4)(a c:Rat):jk (ps++[a]) c=jk ps c+a*c^ps.length:=by
 unfold jk;rw[List.foldr_append]
 have key:∀(ps:c4)(s:Rat),List.foldr (fun a v=>v*c+a) s ps=List.foldr (fun a v=>v*c+a) 0 ps+s*c^ps.length:=by
  intro ps
  induction ps with
  | nil=>intro s;simp only[List.foldr_nil,bu,qO];grind
  | cons x ps ih=>intro s;simp only[Ra,bB,kO];rw[ih s];grind
 rw[key]
 congr 1
 simp only[Ra,List.foldr_nil]
 grind
theorem yn{B:Nat}(hB:1<=B){c:Rat}(hc:Fit B c):∀ps:List Rat,(∀q∈ps,Fit B q)->Fit (ps.length*(2*B+1)+1) (jk ps c)
 | [],_=>Fit.zero O
 | a::ps,h=>by
   have ih:=yn hB hc ps (fun q hq=>h q (cg _ hq));have:=(ih.mul hc).add (h a cE);refine this.mono ?_;rw[bB,bt];omega
def bp6(ps:List RQ)(c:RQ)(B:Nat)(hp:∀q∈ps,Fit B q.q)(hc:Fit B c.q)(hB:1<=B:=by omega)(hl:ps.length*(2*B+2)<=1073741824:=by omega)(hs:ps.length<=1073741824:=by omega)(hB2:B<=1048576:=by omega):aX prog 97 [(.one (sR ps):aQ),(jl c:aQ)] (.ret [jl (.of (jk (ps.map RQ.q) c.q))]):=by
 refine eD func97 bl0 ?_
 have hmap:∀q∈ps.map RQ.q,Fit B q:=fun q hq=>by
  obtain⟨a,ha,rfl⟩:=dm.1 hq;exact hp a ha
 apply aA (sP 0);apply aA (sP 1)
 refine bZ {i:Nat // i<=ps.length} (fun g=>[.one (.int .i64 g.1),.one (.int .i64 (jk ((ps.map RQ.q).take g.1) c.q).num.sign),.one (bT (jk ((ps.map RQ.q).take g.1) c.q).num.natAbs),.one (.int .i64 1),.one (bT (jk ((ps.map RQ.q).take g.1) c.q).den),.one (.int .i64 (c.q^g.1).num.sign),.one (bT (c.q^g.1).num.natAbs),.one (.int .i64 1),.one (bT (c.q^g.1).den)]) (fun g=>ps.length-g.1) ⟨0,dM _⟩ (by
  simp only[jI,qO];exact ai.rfl) (fun _=>rfl) ?_
 rintro⟨i,hi⟩;dsimp only[aU,aV]at hi|-;apply vn (ae zk (aL _));apply vn bO;refine l4 ?_ ?_<;>intro h5
 .obtain⟨a,ha⟩:∃a,ps[i]?=some a:=⟨_,bM O⟩
  have hma:(ps.map RQ.q)[i]?=some a.q:=by rw[dR,ha];rfl
  have hfa:=hp a (dc ha);have hfi:=hc.pow hB i;have hlen:((ps.map RQ.q).take i).length=i:=b6
  have hfe:=yn hB hc ((ps.map RQ.q).take i) (fun q hq=>hmap q (mL hq));rw[hlen]at hfe;have hib:i*(2*B+2)<=1073741824:=bG (cY _ hi) hl;have hib2:i*(2*B+2)=i*(2*B+1)+i:=by rw[show 2*B+2=(2*B+1)+1 by omega,dr i (2*B+1) 1,eG]
  have hib3:B*i<=i*(2*B+1):=by rw[cN];exact dz _ O
  have hsn:jk ((ps.map RQ.q).take (i+1)) c.q=jk ((ps.map RQ.q).take i) c.q+a.q*c.q^i:=by
   rw[nq,hma];show jk (_++[a.q]) c.q=_;rw[ab6,hlen]
  apply vn (aN zk O O ha);apply vn (ab nH bY aT (.inl rfl));dsimp only[aU,aV];have hm:=zO a (.of (c.q^i)) _ _ hfa hfi;apply aA hm;dsimp only[aU,aV];have tI:=aa3 (.of (jk ((ps.map RQ.q).take i) c.q)) (.of (a.q*(RQ.of (c.q^i)).q)) _ _ hfe (hfa.mul hfi);rw[RQ.KT,RQ.KT,RQ.KT,<-hsn]at tI;apply aA tI;dsimp only[aU,aV];have hm2:=zO (.of (c.q^i)) c _ _ hfi hc;rw[RQ.KT,<-kO]at hm2;apply aA hm2;apply vn (aB O O);dsimp only[aU,aV];exact aq rfl ⟨⟨i+1,O⟩,ai.rfl,by show ps.length-(i+1)<ps.length-i;omega⟩
 rw[show i=ps.length by omega];have e:(ps.map RQ.q).take ps.length=ps.map RQ.q:=dL aT;rw[e];exact aR
def eqR(e:List (List RQ)):List (List Rat):=e.map fun p=>p.map RQ.q
def bm9{e:List (List RQ)}{i:Nat}{p:List RQ}(h:e[i]?=some p):(eqR e)[i]?=some (p.map RQ.q):=by rw[eqR,dR,h];rfl
def bh0(e:List (List RQ)):(eqR e).length=e.length:=aL _
def aI1{α β:Type}{f:β->α}{a:List α}{b:List β}(hl:a.length=b.length)(h:∀(i:Nat)(x:α)(y:β),a[i]?=some x->b[i]?=some y->x=f y):a=b.map f:=by
 apply gU;intro i;rw[dR];by_cases hi:i<a.length
 .have hx:a[i]?=some a[i]:=bM hi;have hy:b[i]?=some (b[i]' O):=bM O;rw[hx,hy,h i _ _ hx hy];rfl
 .rw[fA.2 O,fA.2 O];rfl
def VE(a:c4)(b:List RQ)(B:Nat)(ha:∀q∈a,Fit B q)(hb:∀q∈b,Fit B q.q)(hB:B<=34359738360)(oz:b.length<1099511627776)(hs:a.length<1099511627776:=by omega):aX prog 43 [(.one (sQ a):aQ),(.one (sR b):aQ)] (.ret [.one (.bool (decide (a=b.map RQ.q)))]):=by
 refine eD func43 aV5 ?_;apply vn (ae bX (aL _));apply vn (ae jK (aL _));apply vn iC;refine l4 ?_ ?_<;>intro h3
 .rw[dn (fun e=>by have:=congrArg List.length e;rw[aL]at this;omega)];exact aR
 have hlen:a.length=b.length:=O
 refine bZ {i:Nat // i<=a.length/\∀j x y,j<i->a[j]?=some x->b[j]?=some y->x=y.q} (fun g=>[.one (.bool false),.one (.int .i64 g.1)]) (fun g=>a.length-g.1) ⟨0,dM _,fun j x y h=>O⟩ ai.rfl (fun _=>rfl) ?_;rintro⟨i,hi,he⟩;dsimp only[aU,aV]at hi he|-;apply vn (ae bX (aL _));apply vn bO;refine l4 ?_ ?_<;>intro h8
 .obtain⟨x,hx⟩:∃x,a[i]?=some x:=⟨_,bM O⟩
  obtain⟨y,hy⟩:∃y,b[i]?=some y:=⟨_,bM O⟩
  apply vn (aN bX O O hx);apply vn (ab cb bY aT (.inl rfl));apply vn (aN jK O O hy);apply vn (ab nH bY aT (.inl rfl));apply aA (bl7 x y B (ha x (dc hx)) (hb y (dc hy)) hB);apply vn zo;dsimp only[aU,aV];refine l4 ?_ ?_<;>intro h15
  .rw[dn (fun e=>h15 (by
    rw[e,dR,hy]at hx
    simpa using hx.symm))];exact aR
  apply vn (aB O O)
  exact aq rfl ⟨⟨i+1,O,fun j x' y' hj hx' hy'=>by
   rcases gP j i with h | h
   .exact he j x' y' h hx' hy'
   .rw[show j=i by omega]at hx' hy';rw[hx]at hx';rw[hy]at hy';simp only[aZ]at hx' hy';subst hx' hy';exact Decidable.of_not_not h15⟩,ai.rfl,by show a.length-(i+1)<a.length-i;omega⟩
 rw[bz (aI1 hlen fun j x y hx hy=>he j x y (by have:=(cL.1 hx).1;omega) hx hy)];exact aR
def by5:Tr:=gO 165 [(G3 0),(G3 1)] [(some 3),none] [8,9] [46,46] 55 false (mD 2 2 2)
def bq3:af prog f181 dV [.v (some 3),.v (some 3)]=by5:=aS
def by8:Tr:=mD 7 7 2
def ch9:Tr:=cT 0 1 3 5 (gW 1 0 2 0 98 4 6 (di 3 3 46 7 (cT 0 1 3 9 (qy 63 5 3 10 2 46 (kv 76 4 4 1 4 2 6 8 11 by8)))))
def XF:af prog f193 dV [.v none,.ref 1]=ch9:=aS
def cl4:Tr:=bL 0 0 3 98 (en 1 1 4 (aV9 2 5 (gO 159 [(W 3 0),(.one (.gv 193 [(.ref 0 [(.u 0 0)])]))] [none] [6,7] [3,165] 98 true bz5)))
def aw0:af prog f124 dV [.v none]=cl4:=aS
def cn0:Tr:=ir 0 0 0 3 4 (aY 2 0 bA3 (en 0 1 8 (gW 1 0 3 0 98 7 9 (di 4 3 46 10 (qy 63 0 3 12 2 46 (kv 181 5 5 1 5 2 6 11 13 by8))))))
def LC:af prog f180 dV [.v none,.ref 1]=cn0:=aS
def cn1:Tr:=bL 0 0 3 98 (cT 1 1 3 4 (gO 159 [(W 2 0),(.one (.gv 180 [(.ref 0 [(.u 0 0)])]))] [none] [5,6] [3,165] 98 true aF2))
def VP:af prog f85 dV [.v none]=cn1:=aS
def cx7:Tr:=di 5 4 51 14 (OF 39 1 4 16 51 (Aq 77 6 6 1 6 2 6 3 7 7 1 7 2 7 3 15 17 (ah2 8 102 18 (oa 4 64 2 9 11 19 102 (cT 1 1 3 9 (sk 0 11 10))))))
def cx1:Tr:=.loop 0 [lK 1,.nilrow] (bL 0 0 6 102 (fN 1 0 3 3 5 7 4 (aY 4 0 (gW 0 0 1 0 102 12 13 cx7) (Dj 126 4 2 21 102 bB7))))
def ay9:af prog f92 dV [.v none]=cx1:=aS
def Va(a b:Rat):Rat:=if b=0 then 0 else a/b
def bf6(a b:Rat)(A B:Nat)(ha:Fit A a)(hb:Fit B b)(h:A+B<=34359738368:=by omega):aX prog 181 [(qT a:aQ),(qT b:aQ)] (.ret [qT (Va a b)]):=by
 refine eD func181 bq3 ?_;apply aA (af2 a b A B ha hb h);exact aR
def dvI(p:c4)(i:Nat):Rat:=p.getD (i+1) 0*(((i:Int)+1:Int):Rat)
def mU(p:c4):List Rat:=trim ((List.range (p.length-1)).map (dvI p))
def XG(p:c4)(i A:Nat)(hA1:1<=A)(hl:p.length<1099511627776)(hp:∀a∈p,Fit A a)(hA:A<=34359738000)(hi:i+1<p.length:=by omega):aX prog 193 [(.one (.int .i64 i):aQ),(.one (.aw ([sQ p])):aQ)] (.ret [qT (dvI p i)]):=by
 refine dvr (ins:=[.v (.one (.int .i64 i)),.ref ([sQ p])]) func193 XF ?_;apply vn (aB O O);dsimp only[aU,aV];apply vn (aN mG O (show((i:Int)+1).toNat=i+1 by omega) (aa hi));apply vn (ab cb bY aT (.inl rfl));apply vn (aB O O);apply aA (CT ((i:Int)+1));apply aA (ig (p.getD (i+1) 0) (((i:Int)+1:Int):Rat) A 62 (aD hp (i+1) hA1) (Fit.int O O));exact aR
def ax4(p:c4)(A:Nat)(hA1:1<=A)(hl:p.length<1099511627776)(hp:∀a∈p,Fit A a)(hA:A<=34359738000:=by omega):aX prog 124 [(.one (sQ p):aQ)] (.ret [.one (sQ (mU p))]):=by
 refine eD func124 aw0 ?_;apply vn (ae mG (aL _));apply vn (aI O O);apply vn (ba8 (k:=.i64) (a:=(p.length:Int)-1) (b:=0));rw[show max ((p.length:Int)-1) 0=((p.length-1:Nat):Int) by omega];apply aA (Cs (p.length-1) 193 [.aw [sQ p]] (dvI p) (fun i hi=>XG p i A hA1 hl hp hA) O);exact aR
def igI(p:c4)(i:Nat):Rat:=if i=0 then 0 else Va (p.getD (i-1) 0) ((i:Int):Rat)
def igL(p:c4):List Rat:=trim ((List.range (p.length+1)).map (igI p))
def Me(p:c4)(i A:Nat)(hA1:1<=A)(hi:i<p.length+1)(hp:∀a∈p,Fit A a)(hA:A<=34359738000)(hl:p.length<1099511627776:=by omega):aX prog 180 [(.one (.int .i64 i):aQ),(.one (.aw ([sQ p])):aQ)] (.ret [qT (igI p i)]):=by
 refine dvr (ins:=[.v (.one (.int .i64 i)),.ref ([sQ p])]) func180 LC ?_;apply vn cW;refine l4 ?_ ?_<;>intro h1
 .rw[igI,aF O];exact gj ⟨nO,trivial⟩
 apply vn (aI O O);dsimp only[aU,aV];apply vn (aN mG (m:=i-1) O O (aa (show i-1<p.length by omega)));apply vn (ab cb bY aT (.inl rfl));apply aA (CT (i:Int));apply aA (bf6 (p.getD (i-1) 0) ((i:Int):Rat) A 62 (aD hp (i-1) hA1) (Fit.int O O));dsimp only[aU,aV];rw[igI,aG O];exact aR
def WS(p:c4)(A:Nat)(hp:∀a∈p,Fit A a)(hA1:1<=A:=by omega)(hl:p.length<1099511627000:=by omega)(hA:A<=34359738000:=by omega):aX prog 85 [(.one (sQ p):aQ)] (.ret [.one (sQ (igL p))]):=by
 refine eD func85 VP ?_;apply vn (ae mG (aL _));apply vn (aB O O);apply aA (Cs (p.length+1) 180 [.aw [sQ p]] (igI p) (fun i hi=>Me p i A hA1 hi hp hA) O);exact aR
def scI(p:c4)(k:Rat)(i:Nat):Rat:=p.getD i 0*k
def Vw(p:c4)(k:Rat):List Rat:=trim ((List.range p.length).map (scI p k))
def ac5(p:c4)(k:Rat)(i A B:Nat)(hA1:1<=A)(hi:i<p.length)(hl:p.length<1099511627776)(hp:∀a∈p,Fit A a)(hk:Fit B k)(hA:A+B<=34359738000):aX prog 194 [(.one (.int .i64 i):aQ),(.one (.aw ([sQ p])):aQ),(.one (.aw (qC k)):aQ)] (.ret [qT (scI p k i)]):=by
 refine dvr (ins:=[.v (.one (.int .i64 i)),.ref ([sQ p]),.ref (qC k)]) func194 ZQ ?_;apply vn (aN mG O (bI i) (aa hi));apply vn (ab cb bY aT (.inl rfl));apply aA (ig (p.getD i 0) k A B (aD hp i hA1) hk);exact aR
def Xe(p:c4)(k:Rat)(A B:Nat)(hA1:1<=A)(hl:p.length<1099511627776)(hp:∀a∈p,Fit A a)(hk:Fit B k)(hA:A+B<=34359738000:=by omega):aX prog 125 [(.one (sQ p):aQ),(qT k:aQ)] (.ret [.one (sQ (Vw p k))]):=by
 refine eD func125 aF0 ?_;apply vn (ae mG (aL _));apply aA (Cs p.length 194 [.aw [sQ p],.aw (qC k)] (scI p k) (fun i hi=>ac5 p k i A B hA1 hi hl hp hk hA) O);exact aR
def rAt(p:List RQ)(i:Nat):Rat:=(p.getD i RQ.nil).q
def aP7{p:List RQ}{i:Nat}{a:RQ}(h:p[i]?=some a):rAt p i=a.q:=by rw[rAt,fI,h];rfl
def ar1(p:List RQ)(i:Nat):rAt p i=(p.map RQ.q).getD i 0:=by
 rw[rAt,fI,fI,dR];cases p[i]? <;> rfl
def dvR(p:List RQ)(i:Nat):RQ:=.of (rAt p (i+1)*(((i:Int)+1:Int):Rat))
def aA2(p:List RQ)(A:Nat)(hp:∀a∈p,Fit A a.q)(hl:p.length<1099511627776:=by omega)(hA:A<=1073741824:=by omega):aX prog 92 [(.one (sR p):aQ)] (.ret [.one (sR (rA ((List.range (p.length-1)).map (dvR p))))]):=by
 refine eD func92 ay9 ?_;refine bZ {i:Nat // i<=p.length-1} (fun g=>[.one (.int .i64 ((g.1:Int)+1)),.rows (rR ((List.range g.1).map (dvR p)))]) (fun g=>p.length-1-g.1) ⟨0,dM _⟩ ai.rfl (fun _=>rfl) ?_;rintro⟨i,hi⟩;dsimp only[aU,aV]at hi|-;apply vn (ae zk (aL _));apply vn bO;refine l4 ?_ ?_<;>intro h3
 .obtain⟨a,ha⟩:∃a,p[i+1]?=some a:=⟨_,bM O⟩
  have hra:=aP7 ha;have hll:((List.range i).map (dvR p)).length=i:=aT
  apply vn (aN zk O (show((i:Int)+1).toNat=i+1 by omega) ha);apply vn (ab nH bY aT (.inl rfl));apply aA (sP ((i:Int)+1));apply aA (zO a (.of (((i:Int)+1:Int):Rat)) A 62 (hp a (dc ha)) (Fit.int O O));rw[RQ.KT,<-hra];apply et (us:=[rC (dvR p i)]);refine kq (xs:=(List.range i).map (dvR p)) (x:=dvR p i) (f:=rC) rfl rfl O (by simp only[maxLen];omega) ?_;rw[show(List.range i).map (dvR p)++[dvR p i]=(List.range (i+1)).map (dvR p) by rw[gy,cG];rfl];dsimp only[aU,aV];apply vn (aB O O);dsimp only[aU,aV];exact aq rfl ⟨⟨i+1,O⟩,ai.rfl,by show p.length-1-(i+1)<p.length-1-i;omega⟩
 rw[show i=p.length-1 by omega];apply aA (TS _ (by rw[aL,nL];omega)) rfl;exact aR
def be1(p:List RQ):(rA ((List.range (p.length-1)).map (dvR p))).map RQ.q=mU (p.map RQ.q):=by
 rw[zB,mU,ey,aL]
 congr 1
 apply kY;intro i _;show rAt p (i+1)*_=_;rw[ar1];rfl
def an2{a b:Rat}{A B:Nat}(ha:Fit A a)(hb:Fit B b)(hA:1<=A:=by omega):Fit (A+B) (Va a b):=by
 unfold Va;split
 .exact Fit.zero O
 .exact ha.div hb
def ta{A:Nat}{p:c4}(h:∀a∈p,Fit A a):∀a∈trim p,Fit A a:=fun a ha=>h a (mL ha)
def bt6{A:Nat}{p:c4}(hA:1<=A)(h:∀a∈p,Fit A a)(hl:p.length<=1000:=by omega):∀a∈igL p,Fit (A+12) a:=by
 refine ta fun a ha=>?_;obtain⟨i,hi,rfl⟩:=dm.1 ha;have hi:=fO.1 hi;rw[igI];split
 .exact Fit.zero O
 .exact an2 (aD h _ hA) (Fit.int O O) hA
def bj3(p:c4):(igL p).length<=p.length+1:=by
 have h:=iO ((List.range (p.length+1)).map (igI p));have h2:=kR (z:=zr) ((List.range (p.length+1)).map (igI p));rw[igL,h]
 simpa using h2
def Td{A:Nat}{p:c4}(hA:1<=A)(h:∀a∈p,Fit A a)(hl:p.length<=1000):∀a∈mU p,Fit (A+12) a:=by
 refine ta fun a ha=>?_;obtain⟨i,hi,rfl⟩:=dm.1 ha;have hi:=fO.1 hi;exact(aD h _ hA).mul (Fit.int O O)
def wj(p:c4):(mU p).length<=p.length-1:=by
 have h:=iO ((List.range (p.length-1)).map (dvI p));have h2:=kR (z:=zr) ((List.range (p.length-1)).map (dvI p));rw[mU,h]
 simpa using h2
def jt(st:Bool)(a b:Rat):Bool:=decide (a<b) || (!st&&decide (a=b))
def kj(st:Bool)(l:c4):Bool:=(List.range (l.length-1)).all fun i=>jt st (l.getD i 0) (l.getD (i+1) 0)
def aB3{st:Bool}{l:c4}(h:∀i,i+1<l.length->jt st (l.getD i 0) (l.getD (i+1) 0)=true):kj st l=true:=by
 rw[kj,fS];intro i hi;exact h i (by have:=fO.1 hi;omega)
def RW{st:Bool}{l:c4}(h:kj st l=true)(i:Nat)(hi:i+1<l.length:=by omega):jt st (l.getD i 0) (l.getD (i+1) 0)=true:=by
 rw[kj,fS]at h;exact h i (fO.2 O)
def Zj{st:Bool}{l:c4}(i:Nat)(hi:i+1<l.length)(h:jt st (l.getD i 0) (l.getD (i+1) 0)=false):kj st l=false:=by
 cases hr:kj st l with
 | false=>rfl
 | true=>rw[RW hr i hi]at h;cases h
theorem aE5{l:c4}(h:kj true l=true):∀(d i:Nat),i+d+1<l.length->l.getD i 0<l.getD (i+d+1) 0
 | 0,i,hi=>by
   have:=RW h i hi
   simpa[jt]using this
 | d+1,i,hi=>by
   have h1:=aE5 h d i O;have h2:=RW h (i+d+1);have h3:l.getD (i+d+1) 0<l.getD (i+d+1+1) 0:=by simpa[jt]using h2
   exact Std.lt_trans h1 h3
def as5{l:c4}(h:kj true l=true){i j:Nat}(hij:i<j)(hj:j<l.length):l.getD i 0<l.getD j 0:=by
 have:=aE5 h (j-i-1) i O
 rwa[show i+(j-i-1)+1=j by omega]at this
def bd9:af prog f112 dV [.v (some 3),.v (some 3)]=by5:=aS
def bV4:Tr:=qy 63 0 3 3 2 46 (mD 1 1 2)
def aP5:af prog f113 dV [.v none]=bV4:=aS
def am1:Tr:=uj .gtr 3 23 0 11 0 4 (aY 12 0 as9 (aY 1 0 (ir 11 0 0 3 28 (aY 13 0 as9 (cT 3 1 3 11 (lh 0 2 14)))) (cT 3 1 3 11 (lh 0 2 13))))
def bQ9:Tr:=aY 5 0 (en 3 1 14 (gW 0 0 6 0 28 13 15 (di 7 3 46 16 (gW 0 0 3 0 28 18 19 (di 9 3 46 20 (gO 67 [(G3 8),(G3 10)] [none] [17,21] [46,46] 3 true am1)))))) ah0
def bN9:Tr:=FF 1 (bL 0 0 8 28 (fN 3 0 4 3 7 9 4 bQ9))
def ZU:af prog f90 dV [.v none,.v none]=bN9:=aS
def bJ3:Tr:=aY 5 0 (en 3 1 14 (gW 0 0 6 0 32 13 15 (di 7 4 51 16 (gW 0 0 3 0 32 18 19 (di 9 4 51 20 (gO 41 [(G4 8),(G4 10)] [none] [17,21] [51,51] 3 true am1)))))) ah0
def bZ6:Tr:=FF 1 (bL 0 0 8 32 (fN 3 0 4 3 7 9 4 bJ3))
def aJ7:af prog f60 dV [.v none,.v none]=bZ6:=aS
def bD1:Tr:=mw 83 0 3 98 3 (uj .gtr 3 4 40 1 0 4 bx3)
def zW:af prog f89 dV [.v none]=bD1:=aS
def Dt:Tr:=qe 2
def bo2:Tr:=bL 0 0 25 28 (en 8 1 26 (ss .neq 3 23 27 7 0 9 0 4 (aY 10 0 Dt (gO 81 [(W 0 1),(.one (.gv 89 []))] [none] [32,33] [29,143] 4 true (aY 11 0 Dt (qe 0))))))
def bQ7:Tr:=bL 0 0 10 28 (uj .gtr 3 11 60 3 0 4 (aY 4 0 Dt (.need (.call 90 [(W 0 0),(tF true)] [none]) (.call ⟨.value (.func 90),#[(tT 16),(.const (.bool true))],#[28,4]⟩) 4 false (jU 5 0 17 (aY 6 0 Dt (bL 0 1 22 29 bo2))))))
def bZ0:Tr:=bL 0 0 5 28 (jy 1 0 2 3 6 (aY 2 0 Dt bQ7))
def Hb:af prog f22 dV [.v (some 2)]=bZ0:=aS
def qP(a b:Rat)(A B:Nat)(ha:Fit A a)(hb:Fit B b)(h:A+B<=34359738368:=by omega):aX prog 112 [(qT a:aQ),(qT b:aQ)] (.ret [qT (Va a b)]):=by
 refine eD func112 bd9 ?_;apply aA (af2 a b A B ha hb h);exact aR
def dp(n:Int)(h1:-9223372036854775808<=n:=by omega)(h2:n<9223372036854775808:=by omega):aX prog 113 [(.one (.int .i64 n):aQ)] (.ret [qT (n:Rat)]):=by
 refine eD func113 aP5 ?_;apply aA (CT n h1 h2);exact aR
def bR8{a b:Rat}:jM a b<=0↔a<=b:=by
 unfold jM;by_cases h1:a<b
 .rw[aF h1];exact⟨fun _=>b5,fun _=>O⟩
 .rw[aG h1];by_cases h2:b<a
  .rw[aF h2];exact⟨fun h=>O,fun h=>b5⟩
  .rw[aG h2];exact⟨fun _=>b5,fun _=>O⟩
def ak8{a b:Rat}:jM a b<0↔a<b:=by
 unfold jM;by_cases h1:a<b
 .rw[aF h1];exact⟨fun h=>h1,fun h=>O⟩
 .rw[aG h1];by_cases h2:b<a
  .rw[aF h2];exact⟨fun _=>O,fun h=>absurd h h1⟩
  .rw[aG h2];exact⟨fun h=>O,fun h=>absurd h h1⟩
def al9{a b:Rat}:jM a b>0↔b<a:=by
 have:=bR8 (a:=a) (b:=b)
 constructor
 .intro h;have h2:¬a<=b:=fun e=>by have:=this.2 e;omega
  grind
 .intro h;have h2:¬jM a b<=0:=fun e=>by have:=this.1 e;grind
  omega
def ya{a b:Rat}:jM a b=0↔a=b:=by
 have h1:=@al9 a b;have h2:=@ak8 a b
 constructor
 .intro h;have e1:¬b<a:=fun h'=>by have:=h1.2 h';omega
  have e2:¬a<b:=fun h'=>by have:=h2.2 h';omega
  exact Std.le_antisymm (kQ.1 e1) (kQ.1 e2)
 .intro h;subst h;have e1:¬0<jM a a:=fun h'=>sS (h1.1 h');have e2:¬jM a a<0:=fun h'=>sS (h2.1 h');omega
def ar0{st:Bool}{a b:Rat}(h:0<jM a b):jt st a b=false:=by
 have h:=al9.1 h;have h1:¬a<b:=fun h'=>sS (Std.lt_trans h h');have h2:¬a=b:=fun e=>by rw[e]at h;exact sS h
 simp[jt,h1,h2]
def step_eq{a b:Rat}(h:jM a b=0):jt true a b=false:=by
 have h:=ya.1 h;subst h;have h1:¬a<a:=sS;simp[jt,h1]
def wc{st:Bool}{a b:Rat}(h:¬0<jM a b)(h0:st=true->¬jM a b=0):jt st a b=true:=by
 rcases Sw (jM a b) 0 with h1 | h1 | h1
 .have:=ak8.1 h1;simp[jt,this]
 .have h2:st=false:=by cases st;rfl;exact absurd h1 (h0 rfl)
  have:=ya.1 h1;simp[jt,this,h2]
 .exact absurd h1 h
def Sf(st:Bool)(l:c4)(i:Nat):Prop:=1<=i/\i<=max l.length 1/\∀j,j+1<i->jt st (l.getD j 0) (l.getD (j+1) 0)=true
def Sf.next{st:Bool}{l:c4}{i:Nat}(h:Sf st l i)(hi:i<l.length)(hs:jt st (l.getD (i-1) 0) (l.getD i 0)=true):Sf st l (i+1):=
 ⟨O,O,fun j hj=>by
  have h1:=h.1;rcases gP (j+1) i with h2 | h2
  .exact h.2.2 j h2
  .obtain rfl:j=i-1:=O
   rwa[show i-1+1=i by omega]⟩
def Sf.no{st:Bool}{l:c4}{i:Nat}(h:Sf st l i)(hi:i<l.length)(hs:jt st (l.getD (i-1) 0) (l.getD i 0)=false):kj st l=false:=
 Zj (i-1) (by have:=h.1;omega) (by rwa[show i-1+1=i by have:=h.1;omega])
def Sf.all{st:Bool}{l:c4}{i:Nat}(h:Sf st l i)(hi:¬i<l.length):kj st l=true:=
 aB3 fun j hj=>h.2.2 j (by have:=h.1;omega)
def wD(l:c4)(st:Bool)(A:Nat)(hp:∀a∈l,Fit A a)(hA1:1<=A)(hA:A<=1073741824)(hl:l.length<1099511627776:=by omega):aX prog 90 [(.one (sQ l):aQ),(.one (.exact (.bool st)):aQ)] (.ret [.one (.bool (kj st l))]):=by
 refine eD func90 ZU ?_;refine bZ {i:Nat // Sf st l i} (fun g=>[.one (.bool false),.one (.int .i64 (g.1:Int))]) (fun g=>l.length+1-g.1) ⟨1,O,O,fun j hj=>O⟩ ai.rfl (fun _=>rfl) ?_;rintro⟨i,hi⟩;have hi1:=hi.1;dsimp only[aU,aV]at|-;apply vn (ae bX (aL _));apply vn bO;refine l4 ?_ ?_<;>intro h3
 .apply vn (aI O O);dsimp only[aU,aV];apply vn (aN bX (m:=i-1) O O (aa (show i-1<l.length by omega)));apply vn (ab cb bY aT (.inl rfl));dsimp only[aU,aV];apply vn (aN bX (m:=i) O (bI i) (aa (show i<l.length by omega)));apply vn (ab cb bY aT (.inl rfl));apply aA (ou (l.getD (i-1) 0) (l.getD i 0) A A (aD hp _ hA1) (aD hp _ hA1));apply vn jD;refine l4 ?_ ?_<;>intro h11
  .rw[hi.no O (ar0 h11)];exact aR
  refine nI st rfl (fun h13=>?_) (fun h13=>?_)
  .apply vn cW;refine l4 ?_ ?_<;>intro h15
   .subst h13;rw[hi.no O (step_eq h15)];exact aR
   apply vn (aB O O);dsimp only[aU,aV];exact aq rfl ⟨⟨i+1,hi.next O (wc h11 fun _=>h15)⟩,ai.rfl,by show l.length+1-(i+1)<l.length+1-i;omega⟩
  apply vn (aB O O);dsimp only[aU,aV];exact aq rfl ⟨⟨i+1,hi.next O (wc h11 fun h=>by rw[h13]at h;cases h)⟩,ai.rfl,by show l.length+1-(i+1)<l.length+1-i;omega⟩
 rw[hi.all O];exact aR
def aQ5(l:List RQ)(st:Bool)(A:Nat)(hl:l.length<1099511627776)(hp:∀a∈l,Fit A a.q)(hA:A<=1073741824):aX prog 60 [(.one (sR l):aQ),(.one (.exact (.bool st)):aQ)] (.ret [.one (.bool (kj st (l.map RQ.q)))]):=by
 refine eD func60 aJ7 ?_;have hlm:(l.map RQ.q).length=l.length:=aL _;have hg:∀i a,l[i]?=some a->(l.map RQ.q).getD i 0=a.q:=fun i a h=>by rw[<-ar1,aP7 h]
 refine bZ {i:Nat // Sf st (l.map RQ.q) i} (fun g=>[.one (.bool false),.one (.int .i64 (g.1:Int))]) (fun g=>l.length+1-g.1) ⟨1,O,O,fun j hj=>O⟩ ai.rfl (fun _=>rfl) ?_;rintro⟨i,hi⟩;have hi1:=hi.1;dsimp only[aU,aV]at|-;apply vn (ae jK (aL _));apply vn bO;refine l4 ?_ ?_<;>intro h3
 .apply vn (aI O O);dsimp only[aU,aV];obtain⟨a,ha⟩:∃a,l[i-1]?=some a:=⟨_,bM O⟩
  obtain⟨b,hb⟩:∃b,l[i]?=some b:=⟨_,bM O⟩
  have ea:=hg _ _ ha;have eb:=hg _ _ hb;apply vn (aN jK (m:=i-1) O O ha);apply vn (ab nH bY aT (.inl rfl));apply vn (aN jK (m:=i) O (bI i) hb);apply vn (ab nH bY aT (.inl rfl));apply aA (aD5 a b A A (hp a (dc ha)) (hp b (dc hb)));rw[<-ea,<-eb];apply vn jD;refine l4 ?_ ?_<;>intro h11
  .rw[hi.no O (ar0 h11)];exact aR
  refine nI st rfl (fun h13=>?_) (fun h13=>?_)
  .apply vn cW;refine l4 ?_ ?_<;>intro h15
   .subst h13;rw[hi.no O (step_eq h15)];exact aR
   apply vn (aB O O);dsimp only[aU,aV];exact aq rfl ⟨⟨i+1,hi.next O (wc h11 fun _=>h15)⟩,ai.rfl,by show l.length+1-(i+1)<l.length+1-i;omega⟩
  apply vn (aB O O);dsimp only[aU,aV];exact aq rfl ⟨⟨i+1,hi.next O (wc h11 fun h=>by rw[h13]at h;cases h)⟩,ai.rfl,by show l.length+1-(i+1)<l.length+1-i;omega⟩
 rw[hi.all O];exact aR
def bd5(p:c4):Bool:=decide ((pC zr p:Int)-1>40)
def zN(p:c4)(hs:p.length<1099511627776):aX prog 89 [(.one (sQ p):aQ)] (.ret [.one (.bool (bd5 p))]):=by
 refine eD func89 zW ?_;apply aA (ay5 p hs);apply vn jD;exact aR
def Wy(ks:c4)(ps:b9):Bool:=decide (2<=ks.length)&&(decide (ks.length<=60)&&(kj true ks&&(decide (ps.length+1=ks.length) && !ps.any bd5)))
def ES(ks:c4)(ps:b9)(A:Nat)(hp:∀a∈ks,Fit A a)(hA1:1<=A)(hps:∀p∈ps,p.length<1099511627776)(hl:ks.length<1099511627776:=by omega)(hA:A<=1073741824:=by omega)(hs:ps.length<1099511627776:=by omega):aX prog 22 [(.agg [sQ ks,eQ ps]:aQ)] (.ret [.one (.int .i64 (if Wy ks ps then 0 else 2))]):=by
 refine eD func22 Hb ?_;apply vn (ae bX (aL _));apply vn bO;refine l4 ?_ ?_<;>intro h2
 .rw[Wy,dn O];exact aR
 apply vn (ae bX (aL _));apply vn jD;refine l4 ?_ ?_<;>intro h6
 .rw[Wy,bz (show 2<=ks.length by omega),dn O];exact aR
 apply aA (wD ks true A hp hA1 hA hl);apply vn fk;refine nI (!kj true ks) rfl (fun h10=>?_) (fun h10=>?_)
 .rw[Wy,bz (show 2<=ks.length by omega),bz (show ks.length<=60 by omega),show kj true ks=false by simpa using h10];exact aR
 apply vn (ae uE (aL _));apply vn (ae bX (aL _));dsimp only[aU,aV];apply vn (aI O O);apply vn iC;refine l4 ?_ ?_<;>intro h16
 .rw[Wy,bz (show 2<=ks.length by omega),bz (show ks.length<=60 by omega),show kj true ks=true by simpa using h10,dn O];exact aR
 apply aA (XA ps 89 bd5 (fun p h=>zN p (hps p h)) hs);refine nI (ps.any bd5) rfl (fun h19=>?_) (fun h19=>?_)
 .rw[Wy,bz (show 2<=ks.length by omega),bz (show ks.length<=60 by omega),show kj true ks=true by simpa using h10,bz (show ps.length+1=ks.length by omega),h19];exact aR
 rw[Wy,bz (show 2<=ks.length by omega),bz (show ks.length<=60 by omega),show kj true ks=true by simpa using h10,bz (show ps.length+1=ks.length by omega),h19];exact aR
def bT4:Tr:=aH4 28 (aY 1 0 aJ5 (aZ9 28 (aR3 28 (qV 3 3))))
def Ow:af prog f84 dV [.v none]=bT4:=aS
def bK6:Tr:=gW 0 1 3 0 29 11 13 (eZ 7 98 15 (mw 124 8 19 98 98 (Ak 9 29 20 (oa 1 24 5 10 18 21 29 (cT 3 1 3 13 (vY 0 12 4 11))))))
def bF4:Tr:=mw 84 0 7 28 28 (bL 0 1 11 29 (.loop 0 [lK 0,lV 1 0,.nilrow] (fN 3 0 2 3 13 12 0 (aY 6 0 bK6 (bb6 4 5)))))
def az2:af prog f80 dV [.v (some 2)]=bF4:=aS
def ab7(ts:List (List aC))(hs:ts.length<1099511627776):aX prog 84 [(.one (.nnS 3 ts):aQ)] (.ret [.one (.slice 3 ts)]):=by
 refine eD func84 Ow ?_;apply vn (aU5 bX);refine nI false rfl (fun h=>by cases h) (fun _=>?_);apply et (us:=[]);refine qc (ts:=[]) (us:=ts) (vs:=ts) rfl (.inr aC.Sub.nn) rfl O (by simp only[maxLen];omega) ?_;exact aR
def Zm  :aX prog 84 [(.one .aO4:aQ)] (.ret [.one (.slice 3 [])]):=by
 refine eD func84 Ow ?_;apply vn (aY0 bX);refine nI true rfl (fun _=>?_) (fun h=>by cases h);exact gj ⟨aC.Sub.nil,trivial⟩
def Oi(ts:List (List aC))(hs:ts.length<1099511627776):aX prog 84 [.one (.slice 3 ts)] (.ret [.one (.slice 3 ts)]):=
 FJ (fun e=>by subst e;exact Zm) (ab7 ts hs)
abbrev zY(ps:b9):List (List Rat):=ps.map mU
def Oz(ks:c4)(ps:b9)(A:Nat)(hs:ps.length<1099511627776)(hps:∀p∈ps,p.length<1099511627776/\∀a∈p,Fit A a)(hA1:1<=A:=by omega)(hA:A<=1073741824:=by omega)(hl:ks.length<1099511627776:=by omega):aX prog 80 [(.agg [sQ ks,eQ ps]:aQ)] (.ret [.agg [sQ ks,eQ (zY ps)]]):=by
 refine eD func80 az2 ?_;apply aA (Oi (rQ ks) (by rw[aL];exact hl)) rfl;apply vn (ae uE (aL _));refine bZ {i:Nat // i<=ps.length} (fun g=>[.one (.int .i64 (g.1:Int)),.one (sQ ks),.rows ((zY (ps.take g.1)).map cQ)]) (fun g=>ps.length-g.1) ⟨0,dM _⟩ ai.rfl (fun _=>rfl) ?_;rintro⟨i,hi⟩;dsimp only[aU,aV]at hi|-;apply vn bO;refine l4 ?_ ?_<;>intro h4
 .obtain⟨p,hp⟩:∃p,ps[i]?=some p:=⟨_,bM O⟩
  have hpp:=hps p (dc hp);have hll:(zY (ps.take i)).length<=i:=b6
  apply vn (aN uE O O hp);apply vn (bq ae1);apply aA (ax4 p A hA1 hpp.1 hpp.2);apply et (us:=[cQ (mU p)]);refine kq (xs:=zY (ps.take i)) (x:=mU p) (f:=cQ) rfl rfl O (by simp only[maxLen];omega) ?_;rw[ye (f:=mU) hp];apply vn (aB O O);dsimp only[aU,aV];exact aq rfl ⟨⟨i+1,O⟩,ai.rfl,by show ps.length-(i+1)<ps.length-i;omega⟩
 rw[show i=ps.length by omega,jC];exact aR
end Go.Sy
