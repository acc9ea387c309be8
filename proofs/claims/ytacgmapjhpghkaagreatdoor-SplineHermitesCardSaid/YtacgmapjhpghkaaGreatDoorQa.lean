/- Part. -/
import Derived.Test.YtacgmapjhpghkaaGreatDoorPb
set_option linter.all false
namespace Go.Sy
open Go Go.Proofs Tryz Ord
def bY3:Tr:=dw 4 0 3 3 11 10 0 (aQ 6 0 (.need (.callv (.u 1 0) [(W 4 0)] [(some 3)]) (.call ⟨.value (tT 16),#[(tT 17)],#[3]⟩) 46 true (cW 5 4 98 14 15 (VW 5 4 7 19 18 (ba 4 1 3 11 (qf 0 9 8))))) (Gg 157 3 5 21 98 (cD 7)))
def bW0:Tr:=aq9 0 98 7 (GZ 2 9 98 (QR 0 2 bY3))
theorem aR2:aV prog f159 dE [.v none,.v none]=bW0:=by kernel_rfl
def ap8:Tr:=lD 5 5 2
def bh4:Tr:=.ret [(.agg [tN,(tE (.bool false)),tN])]
def bY6:Tr:=aw 0 0 6 98 (dw 1 0 2 3 5 7 4 (aQ 3 0 (fJ 0 0 1 0 98 9 10 (dj 4 3 46 11 ap8)) bh4))
theorem bO9:aV prog f161 dE [.v none,.v none]=bY6:=by kernel_rfl
def bK9:Tr:=Tp 161 1 0 3 5 6 98 3 46 (Ml 161 2 0 0 3 8 9 98 3 46 (kz 88 3 3 1 3 2 4 7 10 ap8))
theorem aH4:aV prog f160 dE [.v none,.ref 1,.ref 1]=bK9:=by kernel_rfl
def bi6:Tr:=cD 5
def bV3:Tr:=aw 0 0 5 98 (aw 1 0 7 98 (.need (.prim [(W 2 0),(W 3 0)] none) (.call ⟨.builtin .max,#[(tT 6),(tT 8)],#[3,3]⟩) 3 false (gS 159 [(W 4 0),(.one (.gU 160 [(.ref 0 [(.u 0 0)]),(.ref 0 [(.u 1 0)])]))] [none] [9,10] [3,165] 98 true bi6)))
theorem bt2:aV prog f66 dE [.v none,.v none]=bV3:=by kernel_rfl
def ca9:Tr:=fJ 1 0 0 0 98 5 6 (dj 3 3 46 7 (kz 76 4 4 1 4 2 2 8 9 ap8))
theorem WS:aV prog f194 dE [.v none,.ref 1,.ref 3]=ca9:=by kernel_rfl
def an6:Tr:=cD 3
def cd3:Tr:=aw 0 0 5 98 (gS 159 [(W 2 0),(.one (.gU 194 [(.ref 0 [(.u 0 0)]),(.ref 0 [(.u 1 0),(.u 1 1),(.u 1 2)])]))] [none] [6,7] [3,165] 98 true an6)
theorem an3:aV prog f125 dE [.v none,.v (some 3)]=cd3:=by kernel_rfl
def as2:Tr:=hx215Q 
def bD5:Tr:=.need (.ldrow 21 (.u 26 0) 0 3 true) (.load 46 (tT 50)) 46 false (kz 76 16 16 1 16 2 24 52 53 (kz 88 27 27 1 27 2 28 51 54 (cW 21 25 98 42 45 (VW 21 25 29 56 55 (ba 20 1 3 37 (qf 1 31 30))))))
def bz1:Tr:=dw 20 0 19 3 37 36 0 (aQ 22 0 (fJ 1 0 20 0 98 35 37 (dj 23 3 46 40 (fw 12 20 3 43 44 (fw 12 20 3 47 48 (cW 21 26 98 46 49 bD5))))) (ba 12 1 3 27 (qf 0 23 21)))
def bo2:Tr:=fJ 0 0 12 0 98 25 27 (dj 15 3 46 30 (Gz 23 16 32 3 (gQ 17 0 0 3 33 (aQ 18 0 (ba 12 1 3 27 (qf 0 19 13)) (aw 1 0 35 98 (QR 1 13 bz1))))))
def by7:Tr:=aq9 9 98 23 (aw 0 0 25 98 (QR 0 10 (dw 12 0 11 3 27 26 0 (aQ 14 0 bo2 (Gg 157 3 13 59 98 (cD 15))))))
def bO2:Tr:=aw 1 0 14 98 (gQ 4 0 0 3 15 (aQ 5 0 as2 (aw 0 0 18 98 (aw 1 0 20 98 (fw 6 7 3 19 21 (fS 8 1 22 by7))))))
def bN2:Tr:=aw 0 0 10 98 (gQ 2 0 0 3 11 (aQ 3 0 as2 bO2))
theorem bk8:aV prog f64 dE [.v none,.v none]=bN2:=by kernel_rfl
def bU0:Tr:=tS 63 1 3 2 46 (aG4 0 1 3 4 (qa 3 2))
theorem ba0:aV prog f232 dE [.v (some 3)]=bU0:=by kernel_rfl
def be3:Tr:=cD 2
def bQ2:Tr:=yb 0 98 3 (Gg 157 3 1 4 98 be3)
theorem RI:aV prog f251 dE [.v (some 3)]=bQ2:=by kernel_rfl
theorem ai6(n:Nat):aj (aj aC.Sub) (List.replicate n [.exact (.slice none 0 0),.bool false,.exact (.slice none 0 0)]) (rQ (List.replicate n 0)):=by
 induction n with
 | zero=>trivial
 | succ n ih=>rw[jV,jV];exact⟨nI,ih⟩
theorem ay6(n:Nat):aK.Sub (.rows (List.replicate n [.exact (.slice none 0 0),.bool false,.exact (.slice none 0 0)])) (.rows (rQ (List.replicate n 0))):=ai6 n
def part(f:Nat->Rat)(n i:Nat):List Rat:=(List.range i).map f++List.replicate (n-i) 0
theorem UB{f:Nat->Rat}{n i:Nat}(h:i<=n):(part f n i).length=n:=by simp[part];omega
theorem TJ{f:Nat->Rat}{n i:Nat}(h:i<n):(part f n i).set i (f i)=part f n (i+1):=by
 rw[part,part,gu,cP,OX _ _ (by simp)];rw[show n-i=(n-(i+1))+1 by omega,jV];simp
theorem AV(n:Nat)(g:Nat)(caps:List aC)(f:Nat->Rat)(hf:∀i,i<n->aW prog g (.one (.int .i64 (i:Int))::caps.map .one) (.ret [qT (f i)]))(hn:n<1099511627776):aW prog 159 [(.one (.int .i64 n):aK),(.one (.gU g caps):aK)] (.ret [.one (sQ (trim ((List.range n).map f)))]):=by
 refine eB func159 aR2 ?_;refine tQ (n:=n) (m:=n) rfl rfl rfl (aY _) (by omega) (by simp only[maxLen];omega) ?_;refine Oi rfl (fV) ?_;refine bG {i:Nat // i<=n} (fun g=>[.one (.int .i64 g.1),.rows (rQ (part f n g.1))]) (fun g=>n-g.1) ⟨0,cL _⟩ ⟨aK.Sub.same,ay6 n,trivial⟩ (fun _=>rfl) ?_;rintro⟨i,hi⟩;dsimp only[aF,aG]at hi|-;have hpl:=UB (f:=f) hi;apply vn an;refine vs _ rfl ?_ ?_<;>intro h4
 ·apply xk (f:=g) (caps:=caps) rfl (hf i (by omega)) rfl;refine bq rfl rfl (by omega) (by first | omega | (rw[bH];omega)) ?_;obtain⟨q,hq⟩:∃q,(part f n i)[i]?=some q:=⟨_,bB (by omega)⟩
  refine iD (f:=qC) (d':=f i) rfl rfl (by omega) (al i) hq rfl ?_;rw[TJ (by omega)];apply vn (aB (by omega) (by omega));dsimp only[aF,aG];exact af rfl ⟨⟨i+1,by omega⟩,aX.rfl,by show n-(i+1)<n-i;omega⟩
 have hin:i=n:=by omega
 subst hin;rw[show part f i i=(List.range i).map f by simp[part]];apply aA (Ba ((List.range i).map f) (by rw[aJ,lM];omega)) rfl;exact aM
theorem bh0(p:List Rat)(i:Nat)(hi:i<4611686018427387904):aW prog 161 [(.one (sQ p):aK),(.one (.int .i64 i):aK)] (.ret [qT (p.getD i 0)]):=by
 refine eB func161 bO9 ?_;apply vn (aR jj (aJ _));apply vn an;refine vs _ rfl ?_ ?_<;>intro h2
 ·have hlt:i<p.length:=by omega
  apply vn (aN jj (by omega) (al i) (aZ hlt));apply vn (ab cn (by decide) (by simp) (.inl rfl));exact aM
 rw[show p.getD i 0=0 by rw[ew,gj (by omega)];rfl];exact jG ⟨nI,trivial⟩
theorem aE{A:Nat}{l:List Rat}(h:∀a∈l,Fit A a)(i:Nat)(hA:1<=A:=by omega):Fit A (l.getD i 0):=by
 rw[ew];cases hi:l[i]? with
 | none=>exact Fit.zero hA
 | some a=>exact h a (cq hi)
theorem aC1(p q:List Rat)(i A B:Nat)(hA:1<=A)(hB:1<=B)(hp:∀a∈p,Fit A a)(hq:∀b∈q,Fit B b)(h:A+B<=34359738368)(hi:i<4611686018427387904:=by omega):aW prog 160 [(.one (.int .i64 i):aK),(.one (.aq ([sQ p])):aK),(.one (.aq ([sQ q])):aK)] (.ret [qT (p.getD i 0+q.getD i 0)]):=by
 refine dvr (ins:=[.v (.one (.int .i64 i)),.ref ([sQ p]),.ref ([sQ q])]) func160 aH4 ?_;apply aA (bh0 p i hi);apply aA (bh0 q i hi);apply aA (pZ _ _ A B (aE hp i hA) (aE hq i hB) h);exact aM
def kq(p q:List Rat):List Rat:=trim ((List.range (max p.length q.length)).map fun i=>p.getD i 0+q.getD i 0)
theorem Pn(p q:List Rat)(A B:Nat)(hp:∀a∈p,Fit A a)(hq:∀b∈q,Fit B b)(hql:q.length<1099511627776)(hA:1<=A:=by omega)(hB:1<=B:=by omega)(hpl:p.length<1099511627776:=by omega)(h:A+B<=34359738368:=by omega):aW prog 66 [(.one (sQ p):aK),(.one (sQ q):aK)] (.ret [.one (sQ (kq p q))]):=by
 refine eB func66 bt2 ?_;apply vn (aR jj (aJ _));apply vn (aR jj (aJ _));apply vn (aI8 (k:=.i64) (a:=(p.length:Int)) (b:=(q.length:Int)));rw[show max (p.length:Int) (q.length:Int)=((max p.length q.length:Nat):Int) by omega];apply aA (AV (max p.length q.length) 160 [.aq [sQ p],.aq [sQ q]] (fun i=>p.getD i 0+q.getD i 0) (fun i hi=>aC1 p q i A B hA hB hp hq h) (by omega));exact aM
def en(p q:List Rat):List Rat:=if p=[]\/q=[]then[]else trim (mulL p q p.length)
set_option maxHeartbeats 1000000 in
theorem Xw(p q:List Rat)(D E S T B:Nat)(h0:D≠0)(h1:E≠0)(hp:∀a∈p,Bd D S a)(hq:∀b∈q,Bd E T b)(hX:D*E*((p.length+1)*((S+1)*(T+1)))<2^B)(hB:B<=8589934592:=by omega)(hpl:p.length<=549755813888:=by omega)(hql:q.length<=549755813888:=by omega):aW prog 64 [(.one (sQ p):aK),(.one (sQ q):aK)] (.ret [.one (sQ (en p q))]):=by
 refine eB func64 bk8 ?_;obtain⟨f1,f2,f3,f4⟩:=DC h0 h1 hX;apply vn (aR jj (aJ _));apply vn cF;refine vs _ rfl ?_ ?_<;>intro h2
 ·have hp0:p=[]:=eO (by omega);rw[en,aD (.inl hp0)];exact jG ⟨aC.Sub.nil,trivial⟩
 apply vn (aR jj (aJ _));apply vn cF;dsimp only[aF,aG];refine vs _ rfl ?_ ?_<;>intro h6
 ·have hq0:q=[]:=eO (by omega);rw[en,aD (.inr hq0)];exact jG ⟨aC.Sub.nil,trivial⟩
 have hp0:0<p.length:=by omega
 have hq0:0<q.length:=by omega
 rw[en,aH (fun h=>h.elim (fun h=>by rw[h]at hp0;simp at hp0) fun h=>by rw[h]at hq0;simp at hq0)];obtain⟨n,hn⟩:∃n:Nat,(p.length:Int)+(q.length:Int)-1=(n:Int):=⟨p.length+q.length-1,by omega⟩
 have hn':p.length+q.length-1=n:=by omega
 apply vn (aR jj (aJ _));apply vn (aR jj (aJ _));apply vn (aB (by omega) (by omega));apply vn (aO (by omega) (by omega));rw[hn];dsimp only[aF,aG];refine tQ (n:=n) (m:=n) rfl rfl rfl (aY _) (by omega) (by simp only[maxLen];omega) ?_;apply vn (aR jj (aJ _));dsimp only[aF,aG];refine bG {i:Nat // i<=p.length} (fun g=>[.one (.int .i64 g.1),.rows (rQ (mulL p q g.1))]) (fun g=>p.length-g.1) ⟨0,cL _⟩ ⟨aK.Sub.same,by show aK.Sub _ (.rows (rQ (mulL p q 0)));rw[mulL,hn'];exact ay6 n,trivial⟩ (fun _=>rfl) ?_;rintro⟨i,hi⟩;dsimp only[aF,aG]at hi|-;apply vn an;refine vs _ rfl ?_ ?_<;>intro h16
 ·apply vn (aN jj (by omega) (al i) (aZ (show i<p.length by omega)));apply vn (ab cn (by decide) (by simp) (.inl rfl));apply aA (lY _);dsimp only[aF,aG];apply vn cF;refine vs _ rfl ?_ ?_<;>intro h21
  ·have hz:p.getD i 0=0:=sign_zero.1 h21;apply vn (aB (by omega) (by omega));dsimp only[aF,aG];exact af rfl ⟨⟨i+1,by omega⟩,(by dsimp only;rw[mulL,aD hz];exact aX.rfl),by show p.length-(i+1)<p.length-i;omega⟩
  have hz:¬p.getD i 0=0:=fun h=>h21 (sign_zero.2 h);have ho:=vX h0 h1 hp hq i;have hi2:i<p.length:=by omega
  apply vn (aR jj (aJ _));refine bG {k:Nat // k<=q.length} (fun g=>[.one (.int .i64 g.1),.rows (rQ (iO (p.getD i 0) q i (mulL p q i) g.1))]) (fun g=>q.length-g.1) ⟨0,cL _⟩ aX.rfl (fun _=>rfl) ?_;rintro⟨k,hk⟩;dsimp only[aF,aG]at hk|-;apply vn an;refine vs _ rfl ?_ ?_<;>intro h27
  ·have hk2:k<q.length:=by omega
   have hrow:=Ef h0 h1 (kK hp i) hq ho k (i:=i);have hrl:(iO (p.getD i 0) q i (mulL p q i) k).length=n:=by rw[lg,iQ,hn']
   have hget:=aZ (l:=iO (p.getD i 0) q i (mulL p q i) k) (i:=i+k);have hfo:Fit B ((iO (p.getD i 0) q i (mulL p q i) k).getD (i+k) 0):=f3 _ i hi2 (hrow _ (cq hget));apply vn (aN jj (by omega) (al k) (aZ hk2));apply vn (ab cn (by decide) (by simp) (.inl rfl));apply vn (aB (by omega) (by omega));dsimp only[aF,aG];apply vn (aB (by omega) (by omega));refine bq rfl rfl (by omega) (by omega) ?_;refine Vm rfl rfl (by omega) (show((i:Int)+(k:Int)).toNat=i+k by omega) hget (.inl rfl) rfl ?_;dsimp only[aF,aG,mkS,List.drop,List.take];apply aA (jM _ _ B B (f1 _ (kK hp i)) (f2 _ (kK hq k)));apply aA (pZ _ _ B B hfo (f4 _ ((kK hp i).mul h0 h1 (kK hq k))));refine bq rfl rfl (by omega) (by omega) ?_;refine iD (f:=qC) (d':=(iO (p.getD i 0) q i (mulL p q i) k).getD (i+k) 0+p.getD i 0*q.getD k 0) rfl rfl (by omega) (show((i:Int)+(k:Int)).toNat=i+k by omega) hget rfl ?_;apply vn (aB (by omega) (by omega));dsimp only[aF,aG];exact af rfl ⟨⟨k+1,by omega⟩,aX.rfl,by show q.length-(k+1)<q.length-k;omega⟩
  apply vn (aB (by omega) (by omega))
  exact af rfl ⟨⟨i+1,by omega⟩,(by
   dsimp only;rw[mulL,aH hz,show q.length=k by omega];exact aX.rfl),by show p.length-(i+1)<p.length-i;omega⟩
 rw[show p.length=i by omega];apply aA (Ba _ (by rw[iQ];omega)) rfl;exact aM
theorem bd0(c:Rat):aW prog 232 [(qT c:aK)] (.ret [.one (sQ [c,1])]):=by
 refine eB func232 ba0 ?_;apply aA (Br 1);apply fB rfl;exact aM
theorem Tc(c:Rat):aW prog 251 [(qT c:aK)] (.ret [.one (sQ (trim [c]))]):=by
 refine eB func251 RI ?_;apply fB rfl;apply aA (Ba [c] (by simp));exact aM
def bg6:Tr:=cD 4
def bR7:Tr:=aQ 5 0 (fJ 0 0 4 0 29 12 13 (di 6 98 14 (.need (.callv (.u 1 0) [(W 7 0)] [none]) (.call ⟨.value (tT 11),#[(tT 15)],#[98]⟩) 4 true (aQ 8 0 bg6 (ba 4 1 3 8 (jS 0 3 9)))))) (oi (-1))
def bQ8:Tr:=aw 0 0 6 29 (yF (dw 4 0 2 3 8 7 0 bR7))
theorem aq3:aV prog f179 dE [.v none,.v none]=bQ8:=by kernel_rfl
def cb5:Tr:=jB 179 0 0 1 5 6 29 143 3 (nL 2 0 7 an6)
theorem RL:aV prog f81 dE [.v none,.v none]=cb5:=by kernel_rfl
def bN0:Tr:=fJ 0 0 4 0 102 17 18 (dj 15 4 51 19 (LS 77 16 16 1 16 2 16 3 9 10 0 11 0 12 0 20 21 (LS 99 5 6 0 7 0 8 0 17 17 1 17 2 17 3 16 22 (LS 77 9 10 0 11 0 12 0 1 1 1 1 2 1 3 24 25 (ba 4 1 3 14 (.back 0 [lV 20 0,lV 18 0,lV 18 1,lV 18 2,lV 18 3,lV 19 0,lV 19 1,lV 19 2,lV 19 3]))))))
def bM9:Tr:=tS 39 0 4 2 51 (tS 39 1 4 2 51 (.loop 0 [lK 0,lV 2 0,lV 2 1,lV 2 2,lV 2 3,lV 3 0,lV 3 1,lV 3 2,lV 3 3] (aw 0 0 11 102 (dw 4 0 13 3 10 12 4 (aQ 14 0 bN0 (qg 5 6 0 7 0 8 0))))))
theorem aS4:aV prog f97 dE [.v none,.v (some 4)]=bM9:=by kernel_rfl
def aa6:Tr:=hx143Q 
def bq9:Tr:=fJ 1 0 6 0 32 21 22 (dj 11 4 51 23 (gS 29 [(G3 10),(G4 12)] [none] [20,24] [46,51] 4 true (oW 13 0 25 (aQ 14 0 aa6 (ba 6 1 3 15 (jS 0 5 15))))))
def aK1:Tr:=.ret [(tF true)]
def bP1:Tr:=aQ 4 0 aa6 (Wq 0 (aw 0 0 12 28 (dw 6 0 7 3 11 13 4 (aQ 8 0 (fJ 0 0 6 0 28 17 18 (dj 9 3 46 19 bq9)) aK1))))
def cc2:Tr:=aw 0 0 6 28 (aw 1 0 8 32 (rn .neq 3 7 9 2 0 3 0 4 bP1))
theorem aD7:aV prog f43 dE [.v none,.v none]=cc2:=by kernel_rfl
abbrev cQ(p:List Rat):List aC:=[sQ p]
abbrev cR(p:List RQ):List aC:=[sR p]
abbrev eQ(e:List (List Rat)):aC:=.slice 1 (e.map cQ)
abbrev eR(e:List (List RQ)):aC:=.slice 1 (e.map cR)
def kC{α:Type}(c:α->Bool):List α->Nat->Int
 | [],_=>-1
 | x::xs,i=>if c x then(i:Int)else kC c xs (i+1)
theorem El{α:Type}(c:α->Bool):∀(l:List α)(i:Nat),decide (0<=kC c l i)=l.any c
 | [],i=>rfl
 | x::xs,i=>by
   simp only[kC,List.any_cons];split
   ·rename_i h;rw[h];simp
   ·rename_i h;rw[El c xs (i+1)];simp[h]
theorem aF8(e:List (List Rat))(g:Nat)(c:List Rat->Bool)(hc:∀p∈e,aW prog g [.one (sQ p)] (.ret [.one (.bool (c p))]))(hs:e.length<1099511627776):aW prog 179 [(.one (eQ e):aK),(.one (.gU g []):aK)] (.ret [.one (.int .i64 (kC c e 0))]):=by
 refine eB func179 aq3 ?_;apply vn (aR yO (aJ _));refine bG {i:Nat // i<=e.length/\kC c e 0=kC c (e.drop i) i} (fun g=>[.one (.int .i64 0),.one (.int .i64 g.1)]) (fun g=>e.length-g.1) ⟨0,cL _,rfl⟩ aX.rfl (fun _=>rfl) ?_;rintro⟨i,hi,hf⟩;dsimp only[aF,aG]at hi hf|-;apply vn an;refine vs _ rfl ?_ ?_<;>intro h3
 ·obtain⟨p,hp⟩:∃p,e[i]?=some p:=⟨_,bB (by omega)⟩
  have hdrop:e.drop i=p::e.drop (i+1):=by
   rw[iG (by omega),(bg.1 hp).2]
  rw[hdrop,kC]at hf;apply vn (aN yO (by omega) (by omega) hp);apply vn (bO aj2);apply xk (f:=g) (caps:=[]) rfl (hc p (cq hp)) rfl;dsimp only[aF,aG];refine tK (c p) rfl (fun h7=>?_) (fun h7=>?_)
  ·rw[hf,aD h7];exact aM
  apply vn (aB (by omega) (by omega));dsimp only[aF,aG];exact af rfl ⟨⟨i+1,by omega,by rw[hf,aH (by simp[h7])]⟩,aX.rfl,by show e.length-(i+1)<e.length-i;omega⟩
 rw[hf,kV (by omega),kC];exact aM
theorem Uj(e:List (List Rat))(g:Nat)(c:List Rat->Bool)(hc:∀p∈e,aW prog g [.one (sQ p)] (.ret [.one (.bool (c p))]))(hs:e.length<1099511627776):aW prog 81 [(.one (eQ e):aK),(.one (.gU g []):aK)] (.ret [.one (.bool (e.any c))]):=by
 refine eB func81 RL ?_;apply aA (aF8 e g c hc hs);apply vn jy;dsimp only[aF,aG];rw[<-El c e 0];exact aM
theorem Xn(ps:List Rat)(a c:Rat):gG (ps++[a]) c=gG ps c+a*c^ps.length:=by
 unfold gG;rw[List.foldr_append]
 have key:∀(ps:List Rat)(s:Rat),List.foldr (fun a v=>v*c+a) s ps=List.foldr (fun a v=>v*c+a) 0 ps+s*c^ps.length:=by
  intro ps
  induction ps with
  | nil=>intro s;simp only[List.foldr_nil,bX,ns];grind
  | cons x ps ih=>intro s;simp only[List.foldr_cons,ak,jc];rw[ih s];grind
 rw[key]
 congr 1
 simp only[List.foldr_cons,List.foldr_nil]
 grind
theorem sW{B:Nat}(hB:1<=B){c:Rat}(hc:Fit B c):∀ps:List Rat,(∀q∈ps,Fit B q)->Fit (ps.length*(2*B+1)+1) (gG ps c)
 | [],_=>Fit.zero (by omega)
 | a::ps,h=>by
   have ih:=sW hB hc ps (fun q hq=>h q (dS _ hq));have:=(ih.mul hc).add (h a dJ);refine this.mono ?_;rw[ak,bf];omega
theorem aW6(ps:List RQ)(c:RQ)(B:Nat)(hp:∀q∈ps,Fit B q.q)(hc:Fit B c.q)(hB:1<=B:=by omega)(hl:ps.length*(2*B+2)<=1073741824:=by omega)(hs:ps.length<=1073741824:=by omega)(hB2:B<=1048576:=by omega):aW prog 97 [(.one (sR ps):aK),(mB c:aK)] (.ret [mB (.of (gG (ps.map RQ.q) c.q))]):=by
 refine eB func97 aS4 ?_
 have hmap:∀q∈ps.map RQ.q,Fit B q:=fun q hq=>by
  obtain⟨a,ha,rfl⟩:=dn.1 hq;exact hp a ha
 apply aA (PW 0);apply aA (PW 1)
 refine bG {i:Nat // i<=ps.length} (fun g=>[.one (.int .i64 g.1),.one (.int .i64 (gG ((ps.map RQ.q).take g.1) c.q).num.sign),.one (bT (gG ((ps.map RQ.q).take g.1) c.q).num.natAbs),.one (.int .i64 1),.one (bT (gG ((ps.map RQ.q).take g.1) c.q).den),.one (.int .i64 (c.q^g.1).num.sign),.one (bT (c.q^g.1).num.natAbs),.one (.int .i64 1),.one (bT (c.q^g.1).den)]) (fun g=>ps.length-g.1) ⟨0,cL _⟩ (by
  simp only[iK,ns];exact aX.rfl) (fun _=>rfl) ?_
 rintro⟨i,hi⟩;dsimp only[aF,aG]at hi|-;apply vn (aR yP (aJ _));apply vn an;refine vs _ rfl ?_ ?_<;>intro h5
 ·obtain⟨a,ha⟩:∃a,ps[i]?=some a:=⟨_,bB (by omega)⟩
  have hma:(ps.map RQ.q)[i]?=some a.q:=by rw[cU,ha];rfl
  have hfa:=hp a (cq ha);have hfi:=hc.pow hB i;have hlen:((ps.map RQ.q).take i).length=i:=by simp;omega
  have hfe:=sW hB hc ((ps.map RQ.q).take i) (fun q hq=>hmap q (jH hq));rw[hlen]at hfe;have hib:i*(2*B+2)<=1073741824:=bF (bu _ hi) hl;have hib2:i*(2*B+2)=i*(2*B+1)+i:=by rw[show 2*B+2=(2*B+1)+1 by omega,eY i (2*B+1) 1,de]
  have hib3:B*i<=i*(2*B+1):=by rw[bo];exact dF _ (by omega)
  have hsn:gG ((ps.map RQ.q).take (i+1)) c.q=gG ((ps.map RQ.q).take i) c.q+a.q*c.q^i:=by
   rw[jb,hma];show gG (_++[a.q]) c.q=_;rw[Xn,hlen]
  apply vn (aN yP (by omega) (by omega) ha);apply vn (ab Iz (by decide) (by simp) (.inl rfl));dsimp only[aF,aG];have hm:=ES a (.of (c.q^i)) _ _ hfa hfi;apply aA hm;dsimp only[aF,aG];have tO:=aA2 (.of (gG ((ps.map RQ.q).take i) c.q)) (.of (a.q*(RQ.of (c.q^i)).q)) _ _ hfe (hfa.mul hfi);rw[RQ.Jn,RQ.Jn,RQ.Jn,<-hsn]at tO;apply aA tO;dsimp only[aF,aG];have hm2:=ES (.of (c.q^i)) c _ _ hfi hc;rw[RQ.Jn,<-jc]at hm2;apply aA hm2;apply vn (aB (by omega) (by omega));dsimp only[aF,aG];exact af rfl ⟨⟨i+1,by omega⟩,aX.rfl,by show ps.length-(i+1)<ps.length-i;omega⟩
 rw[show i=ps.length by omega];have e:(ps.map RQ.q).take ps.length=ps.map RQ.q:=dD (by simp);rw[e];exact aM
def eqR(e:List (List RQ)):List (List Rat):=e.map fun p=>p.map RQ.q
theorem aq7{α β:Type}{f:β->α}{a:List α}{b:List β}(hl:a.length=b.length)(h:∀(i:Nat)(x:α)(y:β),a[i]?=some x->b[i]?=some y->x=f y):a=b.map f:=by
 apply fH;intro i;rw[cU];by_cases hi:i<a.length
 ·have hx:a[i]?=some a[i]:=bB hi;have hy:b[i]?=some (b[i]'(by omega)):=bB (by omega);rw[hx,hy,h i _ _ hx hy];rfl
 ·rw[eX.2 (by omega),eX.2 (by omega)];rfl
theorem ap5(a:List Rat)(b:List RQ)(B:Nat)(ha:∀q∈a,Fit B q)(hb:∀q∈b,Fit B q.q)(hB:B<=34359738360)(hs:a.length<1099511627776)(xJ:b.length<1099511627776):aW prog 43 [(.one (sQ a):aK),(.one (sR b):aK)] (.ret [.one (.bool (decide (a=b.map RQ.q)))]):=by
 refine eB func43 aD7 ?_;apply vn (aR bK (aJ _));apply vn (aR rb (aJ _));apply vn gW;refine vs _ rfl ?_ ?_<;>intro h3
 ·rw[dh (fun e=>by have:=congrArg List.length e;rw[aJ]at this;omega)];exact aM
 have hlen:a.length=b.length:=by omega
 refine bG {i:Nat // i<=a.length/\∀j x y,j<i->a[j]?=some x->b[j]?=some y->x=y.q} (fun g=>[.one (.bool false),.one (.int .i64 g.1)]) (fun g=>a.length-g.1) ⟨0,cL _,fun j x y h=>by omega⟩ aX.rfl (fun _=>rfl) ?_;rintro⟨i,hi,he⟩;dsimp only[aF,aG]at hi he|-;apply vn (aR bK (aJ _));apply vn an;refine vs _ rfl ?_ ?_<;>intro h8
 ·obtain⟨x,hx⟩:∃x,a[i]?=some x:=⟨_,bB (by omega)⟩
  obtain⟨y,hy⟩:∃y,b[i]?=some y:=⟨_,bB (by omega)⟩
  apply vn (aN bK (by omega) (by omega) hx);apply vn (ab cn (by decide) (by simp) (.inl rfl));dsimp only[aF,aG];apply vn (aN rb (by omega) (by omega) hy);apply vn (ab Iz (by decide) (by simp) (.inl rfl));apply aA (aS9 x y B (ha x (cq hx)) (hb y (cq hy)) hB);apply vn yS;dsimp only[aF,aG];refine vs _ rfl ?_ ?_<;>intro h15
  ·rw[dh (fun e=>h15 (by
    rw[e,cU,hy]at hx
    simpa using hx.symm))];exact aM
  apply vn (aB (by omega) (by omega))
  exact af rfl ⟨⟨i+1,by omega,fun j x' y' hj hx' hy'=>by
   rcases fL j i with h | h
   ·exact he j x' y' h hx' hy'
   ·rw[show j=i by omega]at hx' hy';rw[hx]at hx';rw[hy]at hy';simp only[aU]at hx' hy';subst hx' hy';exact Decidable.of_not_not h15⟩,aX.rfl,by show a.length-(i+1)<a.length-i;omega⟩
 rw[cS (aq7 hlen fun j x y hx hy=>he j x y (by have:=(bg.1 hx).1;omega) hx hy)];exact aM
def bf6:Tr:=gS 165 [(G3 0),(G3 1)] [(some 3),none] [8,9] [46,46] 55 false (lD 2 2 2)
theorem aX1:aV prog f181 dE [.v (some 3),.v (some 3)]=bf6:=by kernel_rfl
def bf9:Tr:=lD 7 7 2
def bM4:Tr:=ba 0 1 3 5 (fJ 1 0 2 0 98 4 6 (dj 3 3 46 7 (ba 0 1 3 9 (oy 63 5 3 10 2 46 (kz 76 4 4 1 4 2 6 8 11 bf9)))))
theorem Uo:aV prog f193 dE [.v none,.ref 1]=bM4:=by kernel_rfl
def bP7:Tr:=aw 0 0 3 98 (fS 1 1 4 (ap0 2 5 (gS 159 [(W 3 0),(.one (.gU 193 [(.ref 0 [(.u 0 0)])]))] [none] [6,7] [3,165] 98 true bg6)))
theorem ad7:aV prog f124 dE [.v none]=bP7:=by kernel_rfl
def bR2:Tr:=gQ 0 0 0 3 4 (aQ 2 0 bh4 (fS 0 1 8 (fJ 1 0 3 0 98 7 9 (dj 4 3 46 10 (oy 63 0 3 12 2 46 (kz 181 5 5 1 5 2 6 11 13 bf9))))))
theorem JI:aV prog f180 dE [.v none,.ref 1]=bR2:=by kernel_rfl
def bR3:Tr:=aw 0 0 3 98 (ba 1 1 3 4 (gS 159 [(W 2 0),(.one (.gU 180 [(.ref 0 [(.u 0 0)])]))] [none] [5,6] [3,165] 98 true an6))
theorem Su:aV prog f85 dE [.v none]=bR3:=by kernel_rfl
def ca7:Tr:=dj 5 4 51 14 (Uq 39 1 4 16 51 (LS 77 6 6 1 6 2 6 3 7 7 1 7 2 7 3 15 17 (LN 8 8 3 102 18 (jw 4 64 2 9 11 19 102 (ba 1 1 3 9 (qf 0 11 10))))))
def ca1:Tr:=.loop 0 [lK 1,.nilrow] (aw 0 0 6 102 (dw 1 0 3 3 5 7 4 (aQ 4 0 (fJ 0 0 1 0 102 12 13 ca7) (Gg 126 4 2 21 102 bi6))))
theorem ah1:aV prog f92 dE [.v none]=ca1:=by kernel_rfl
def RC(a b:Rat):Rat:=if b=0 then 0 else a/b
theorem aN2(a b:Rat)(A B:Nat)(ha:Fit A a)(hb:Fit B b)(h:A+B<=34359738368:=by omega):aW prog 181 [(qT a:aK),(qT b:aK)] (.ret [qT (RC a b)]):=by
 refine eB func181 aX1 ?_;apply aA (XS a b A B ha hb h);exact aM
def dvI(p:List Rat)(i:Nat):Rat:=p.getD (i+1) 0*(((i:Int)+1:Int):Rat)
def nX(p:List Rat):List Rat:=trim ((List.range (p.length-1)).map (dvI p))
theorem Up(p:List Rat)(i A:Nat)(hA1:1<=A)(hl:p.length<1099511627776)(hp:∀a∈p,Fit A a)(hA:A<=34359738000)(hi:i+1<p.length:=by omega):aW prog 193 [(.one (.int .i64 i):aK),(.one (.aq ([sQ p])):aK)] (.ret [qT (dvI p i)]):=by
 refine dvr (ins:=[.v (.one (.int .i64 i)),.ref ([sQ p])]) func193 Uo ?_;apply vn (aB (by omega) (by omega));dsimp only[aF,aG];apply vn (aN jj (by omega) (show((i:Int)+1).toNat=i+1 by omega) (aZ hi));apply vn (ab cn (by decide) (by simp) (.inl rfl));apply vn (aB (by omega) (by omega));apply aA (Br ((i:Int)+1));dsimp only[aF,aG];apply aA (jM (p.getD (i+1) 0) (((i:Int)+1:Int):Rat) A 62 (aE hp (i+1) hA1) (Fit.int (by omega) (by omega)));exact aM
theorem xS(p:List Rat)(A:Nat)(hp:∀a∈p,Fit A a)(hA1:1<=A:=by omega)(hl:p.length<1099511627776:=by omega)(hA:A<=34359738000:=by omega):aW prog 124 [(.one (sQ p):aK)] (.ret [.one (sQ (nX p))]):=by
 refine eB func124 ad7 ?_;apply vn (aR jj (aJ _));apply vn (aO (by omega) (by omega));apply vn (aI8 (k:=.i64) (a:=(p.length:Int)-1) (b:=0));rw[show max ((p.length:Int)-1) 0=((p.length-1:Nat):Int) by omega];apply aA (AV (p.length-1) 193 [.aq [sQ p]] (dvI p) (fun i hi=>Up p i A hA1 hl hp hA) (by omega));exact aM
def igI(p:List Rat)(i:Nat):Rat:=if i=0 then 0 else RC (p.getD (i-1) 0) ((i:Int):Rat)
def Zw(p:List Rat):List Rat:=trim ((List.range (p.length+1)).map (igI p))
theorem Ka(p:List Rat)(i A:Nat)(hA1:1<=A)(hi:i<p.length+1)(hp:∀a∈p,Fit A a)(hA:A<=34359738000)(hl:p.length<1099511627776:=by omega):aW prog 180 [(.one (.int .i64 i):aK),(.one (.aq ([sQ p])):aK)] (.ret [qT (igI p i)]):=by
 refine dvr (ins:=[.v (.one (.int .i64 i)),.ref ([sQ p])]) func180 JI ?_;apply vn cF;refine vs _ rfl ?_ ?_<;>intro h1
 ·rw[igI,aD (by omega)];exact jG ⟨nI,trivial⟩
 apply vn (aO (by omega) (by omega));dsimp only[aF,aG];apply vn (aN jj (m:=i-1) (by omega) (by omega) (aZ (show i-1<p.length by omega)));apply vn (ab cn (by decide) (by simp) (.inl rfl));apply aA (Br (i:Int));apply aA (aN2 (p.getD (i-1) 0) ((i:Int):Rat) A 62 (aE hp (i-1) hA1) (Fit.int (by omega) (by omega)));dsimp only[aF,aG];rw[igI,aH (by omega)];exact aM
theorem TE(p:List Rat)(A:Nat)(hp:∀a∈p,Fit A a)(hA1:1<=A:=by omega)(hl:p.length<1099511627000:=by omega)(hA:A<=34359738000:=by omega):aW prog 85 [(.one (sQ p):aK)] (.ret [.one (sQ (Zw p))]):=by
 refine eB func85 Su ?_;apply vn (aR jj (aJ _));apply vn (aB (by omega) (by omega));apply aA (AV (p.length+1) 180 [.aq [sQ p]] (igI p) (fun i hi=>Ka p i A hA1 hi hp hA) (by omega));exact aM
def scI(p:List Rat)(k:Rat)(i:Nat):Rat:=p.getD i 0*k
def yU(p:List Rat)(k:Rat):List Rat:=trim ((List.range p.length).map (scI p k))
theorem Xv(p:List Rat)(k:Rat)(i A B:Nat)(hA1:1<=A)(hi:i<p.length)(hl:p.length<1099511627776)(hp:∀a∈p,Fit A a)(hk:Fit B k)(hA:A+B<=34359738000):aW prog 194 [(.one (.int .i64 i):aK),(.one (.aq ([sQ p])):aK),(.one (.aq (qC k)):aK)] (.ret [qT (scI p k i)]):=by
 refine dvr (ins:=[.v (.one (.int .i64 i)),.ref ([sQ p]),.ref (qC k)]) func194 WS ?_;apply vn (aN jj (by omega) (al i) (aZ hi));apply vn (ab cn (by decide) (by simp) (.inl rfl));apply aA (jM (p.getD i 0) k A B (aE hp i hA1) hk);exact aM
theorem DH(p:List Rat)(k:Rat)(A B:Nat)(hA1:1<=A)(hp:∀a∈p,Fit A a)(hk:Fit B k)(hl:p.length<1099511627776:=by omega)(hA:A+B<=34359738000:=by omega):aW prog 125 [(.one (sQ p):aK),(qT k:aK)] (.ret [.one (sQ (yU p k))]):=by
 refine eB func125 an3 ?_;apply vn (aR jj (aJ _));apply aA (AV p.length 194 [.aq [sQ p],.aq (qC k)] (scI p k) (fun i hi=>Xv p k i A B hA1 hi hl hp hk hA) (by omega));exact aM
def rAt(p:List RQ)(i:Nat):Rat:=(p.getD i RQ.nil).q
theorem bv8{p:List RQ}{i:Nat}{a:RQ}(h:p[i]?=some a):rAt p i=a.q:=by rw[rAt,ew,h];rfl
theorem aY4(p:List RQ)(i:Nat):rAt p i=(p.map RQ.q).getD i 0:=by
 rw[rAt,ew,ew,cU];cases p[i]? <;> rfl
def dvR(p:List RQ)(i:Nat):RQ:=.of (rAt p (i+1)*(((i:Int)+1:Int):Rat))
theorem ai2(p:List RQ)(A:Nat)(hp:∀a∈p,Fit A a.q)(hl:p.length<1099511627776:=by omega)(hA:A<=1073741824:=by omega):aW prog 92 [(.one (sR p):aK)] (.ret [.one (sR (lz ((List.range (p.length-1)).map (dvR p))))]):=by
 refine eB func92 ah1 ?_;refine bG {i:Nat // i<=p.length-1} (fun g=>[.one (.int .i64 ((g.1:Int)+1)),.rows (rR ((List.range g.1).map (dvR p)))]) (fun g=>p.length-1-g.1) ⟨0,cL _⟩ aX.rfl (fun _=>rfl) ?_;rintro⟨i,hi⟩;dsimp only[aF,aG]at hi|-;apply vn (aR yP (aJ _));apply vn an;refine vs _ rfl ?_ ?_<;>intro h3
 ·obtain⟨a,ha⟩:∃a,p[i+1]?=some a:=⟨_,bB (by omega)⟩
  have hra:=bv8 ha;have hll:((List.range i).map (dvR p)).length=i:=by simp
  apply vn (aN yP (by omega) (show((i:Int)+1).toNat=i+1 by omega) ha);apply vn (ab Iz (by decide) (by simp) (.inl rfl));dsimp only[aF,aG];apply aA (PW ((i:Int)+1));apply aA (ES a (.of (((i:Int)+1:Int):Rat)) A 62 (hp a (cq ha)) (Fit.int (by omega) (by omega)));rw[RQ.Jn,<-hra];apply fB (us:=[rC (dvR p i)]);refine js (xs:=(List.range i).map (dvR p)) (x:=dvR p i) (f:=rC) rfl rfl (by omega) (by simp only[maxLen];omega) ?_;rw[show(List.range i).map (dvR p)++[dvR p i]=(List.range (i+1)).map (dvR p) by rw[gu,cP];rfl];dsimp only[aF,aG];apply vn (aB (by omega) (by omega));dsimp only[aF,aG];exact af rfl ⟨⟨i+1,by omega⟩,aX.rfl,by show p.length-1-(i+1)<p.length-1-i;omega⟩
 rw[show i=p.length-1 by omega];apply aA (QE _ (by rw[aJ,lM];omega)) rfl;exact aM
theorem aL8(p:List RQ):(lz ((List.range (p.length-1)).map (dvR p))).map RQ.q=nX (p.map RQ.q):=by
 rw[xj,nX,ef,aJ]
 congr 1
 apply jJ;intro i _;show rAt p (i+1)*_=_;rw[aY4];rfl
theorem OT{a b:Rat}{A B:Nat}(ha:Fit A a)(hb:Fit B b)(hA:1<=A:=by omega):Fit (A+B) (RC a b):=by
 unfold RC;split
 ·exact Fit.zero (by omega)
 ·exact ha.div hb
theorem Dk{A:Nat}{p:List Rat}(h:∀a∈p,Fit A a):∀a∈trim p,Fit A a:=fun a ha=>h a (jH ha)
theorem ba2{A:Nat}{p:List Rat}(hA:1<=A)(h:∀a∈p,Fit A a)(hl:p.length<=1000:=by omega):∀a∈Zw p,Fit (A+12) a:=by
 refine Dk fun a ha=>?_;obtain⟨i,hi,rfl⟩:=dn.1 ha;have hi:=gE.1 hi;rw[igI];split
 ·exact Fit.zero (by omega)
 ·exact OT (aE h _ hA) (Fit.int (by omega) (by omega)) hA
theorem aQ8(p:List Rat):(Zw p).length<=p.length+1:=by
 have h:=ir ((List.range (p.length+1)).map (igI p));have h2:=kg (z:=zr) ((List.range (p.length+1)).map (igI p));rw[Zw,h]
 simpa using h2
theorem PU{A:Nat}{p:List Rat}(hA:1<=A)(h:∀a∈p,Fit A a)(hl:p.length<=1000):∀a∈nX p,Fit (A+12) a:=by
 refine Dk fun a ha=>?_;obtain⟨i,hi,rfl⟩:=dn.1 ha;have hi:=gE.1 hi;exact(aE h _ hA).mul (Fit.int (by omega) (by omega))
theorem vA(p:List Rat):(nX p).length<=p.length-1:=by
 have h:=ir ((List.range (p.length-1)).map (dvI p));have h2:=kg (z:=zr) ((List.range (p.length-1)).map (dvI p));rw[nX,h]
 simpa using h2
def jI(st:Bool)(a b:Rat):Bool:=decide (a<b) || (!st&&decide (a=b))
def nW(st:Bool)(l:List Rat):Bool:=(List.range (l.length-1)).all fun i=>jI st (l.getD i 0) (l.getD (i+1) 0)
theorem aj7{st:Bool}{l:List Rat}(h:∀i,i+1<l.length->jI st (l.getD i 0) (l.getD (i+1) 0)=true):nW st l=true:=by
 rw[nW,eu];intro i hi;exact h i (by have:=gE.1 hi;omega)
theorem OY{st:Bool}{l:List Rat}(h:nW st l=true)(i:Nat)(hi:i+1<l.length:=by omega):jI st (l.getD i 0) (l.getD (i+1) 0)=true:=by
 rw[nW,eu]at h;exact h i (gE.2 (by omega))
theorem VZ{st:Bool}{l:List Rat}(i:Nat)(hi:i+1<l.length)(h:jI st (l.getD i 0) (l.getD (i+1) 0)=false):nW st l=false:=by
 cases hr:nW st l with
 | false=>rfl
 | true=>rw[OY hr i hi]at h;cases h
theorem am9{l:List Rat}(h:nW true l=true):∀(d i:Nat),i+d+1<l.length->l.getD i 0<l.getD (i+d+1) 0
 | 0,i,hi=>by
   have:=OY h i hi
   simpa[jI]using this
 | d+1,i,hi=>by
   have h1:=am9 h d i (by omega);have h2:=OY h (i+d+1);have h3:l.getD (i+d+1) 0<l.getD (i+d+1+1) 0:=by simpa[jI]using h2
   exact Std.lt_trans h1 h3
theorem bc1{l:List Rat}(h:nW true l=true){i j:Nat}(hij:i<j)(hj:j<l.length):l.getD i 0<l.getD j 0:=by
 have:=am9 h (j-i-1) i (by omega)
 rwa[show i+(j-i-1)+1=j by omega]at this
theorem aL6:aV prog f112 dE [.v (some 3),.v (some 3)]=bf6:=by kernel_rfl
def bA9:Tr:=oy 63 0 3 3 2 46 (lD 1 1 2)
theorem ay3:aV prog f113 dE [.v none]=bA9:=by kernel_rfl
def aR6:Tr:=jQ 11 0 0 3 23 (aQ 12 0 aa6 (aQ 1 0 (gQ 11 0 0 3 28 (aQ 13 0 aa6 (ba 3 1 3 11 (jS 0 2 14)))) (ba 3 1 3 11 (jS 0 2 13))))
def bw7:Tr:=aQ 5 0 (fS 3 1 14 (fJ 0 0 6 0 28 13 15 (dj 7 3 46 16 (fJ 0 0 3 0 28 18 19 (dj 9 3 46 20 (UD 8 10 17 21 aR6)))))) aK1
def bu1:Tr:=Wq 1 (aw 0 0 8 28 (dw 3 0 4 3 7 9 4 bw7))
theorem WV:aV prog f90 dE [.v none,.v none]=bu1:=by kernel_rfl
def bk0:Tr:=ku 83 0 3 98 3 (jQ 1 0 40 3 4 be3)
theorem yB:aV prog f89 dE [.v none]=bk0:=by kernel_rfl
def BW:Tr:=oi 2
def aV2:Tr:=aw 0 0 25 28 (fS 8 1 26 (rn .neq 3 23 27 7 0 9 0 4 (aQ 10 0 BW (gS 81 [(W 0 1),(.one (.gU 89 []))] [none] [32,33] [29,143] 4 true (aQ 11 0 BW (oi 0))))))
def bw5:Tr:=aw 0 0 10 28 (jQ 3 0 60 3 11 (aQ 4 0 BW (.need (.call 90 [(W 0 0),(tF true)] [none]) (.call ⟨.value (.func 90),#[(tT 16),(.const (.bool true))],#[28,4]⟩) 4 false (oW 5 0 17 (aQ 6 0 BW (aw 0 1 22 29 aV2))))))
def bD8:Tr:=aw 0 0 5 28 (ju 1 0 2 3 6 (aQ 2 0 BW bw5))
theorem Gd:aV prog f22 dE [.v (some 2)]=bD8:=by kernel_rfl
theorem mj(a b:Rat)(A B:Nat)(ha:Fit A a)(hb:Fit B b)(h:A+B<=34359738368:=by omega):aW prog 112 [(qT a:aK),(qT b:aK)] (.ret [qT (RC a b)]):=by
 refine eB func112 aL6 ?_;apply aA (XS a b A B ha hb h);exact aM
theorem eH(n:Int)(h1:-9223372036854775808<=n:=by omega)(h2:n<9223372036854775808:=by omega):aW prog 113 [(.one (.int .i64 n):aK)] (.ret [qT (n:Rat)]):=by
 refine eB func113 ay3 ?_;apply aA (Br n h1 h2);exact aM
theorem bx6{a b:Rat}:gy a b<=0↔a<=b:=by
 unfold gy;by_cases h1:a<b
 ·rw[aD h1];exact⟨fun _=>by grind,fun _=>by omega⟩
 ·rw[aH h1];by_cases h2:b<a
  ·rw[aD h2];exact⟨fun h=>by omega,fun h=>by grind⟩
  ·rw[aH h2];exact⟨fun _=>by grind,fun _=>by omega⟩
theorem YS{a b:Rat}:gy a b<0↔a<b:=by
 unfold gy;by_cases h1:a<b
 ·rw[aD h1];exact⟨fun h=>h1,fun h=>by omega⟩
 ·rw[aH h1];by_cases h2:b<a
  ·rw[aD h2];exact⟨fun _=>by omega,fun h=>absurd h h1⟩
  ·rw[aH h2];exact⟨fun h=>by omega,fun h=>absurd h h1⟩
theorem Zc{a b:Rat}:gy a b>0↔b<a:=by
 have:=bx6 (a:=a) (b:=b)
 constructor
 ·intro h;have h2:¬a<=b:=fun e=>by have:=this.2 e;omega
  grind
 ·intro h;have h2:¬gy a b<=0:=fun e=>by have:=this.1 e;grind
  omega
theorem Nr{a b:Rat}:gy a b=0↔a=b:=by
 have h1:=@Zc a b;have h2:=@YS a b
 constructor
 ·intro h;have e1:¬b<a:=fun h'=>by have:=h1.2 h';omega
  have e2:¬a<b:=fun h'=>by have:=h2.2 h';omega
  exact Std.le_antisymm (lU.1 e1) (lU.1 e2)
 ·intro h;subst h;have e1:¬0<gy a a:=fun h'=>qZ (h1.1 h');have e2:¬gy a a<0:=fun h'=>qZ (h2.1 h');omega
theorem aY3{st:Bool}{a b:Rat}(h:0<gy a b):jI st a b=false:=by
 have h:=Zc.1 h;have h1:¬a<b:=fun h'=>qZ (Std.lt_trans h h');have h2:¬a=b:=fun e=>by rw[e]at h;exact qZ h
 simp[jI,h1,h2]
theorem step_eq{a b:Rat}(h:gy a b=0):jI true a b=false:=by
 have h:=Nr.1 h;subst h;have h1:¬a<a:=qZ;simp[jI,h1]
theorem SF{st:Bool}{a b:Rat}(h:¬0<gy a b)(h0:st=true->¬gy a b=0):jI st a b=true:=by
 rcases Qg (gy a b) 0 with h1 | h1 | h1
 ·have:=YS.1 h1;simp[jI,this]
 ·have h2:st=false:=by cases st;rfl;exact absurd h1 (h0 rfl)
  have:=Nr.1 h1;simp[jI,this,h2]
 ·exact absurd h1 h
def TV(st:Bool)(l:List Rat)(i:Nat):Prop:=1<=i/\i<=max l.length 1/\∀j,j+1<i->jI st (l.getD j 0) (l.getD (j+1) 0)=true
theorem TV.next{st:Bool}{l:List Rat}{i:Nat}(h:TV st l i)(hi:i<l.length)(hs:jI st (l.getD (i-1) 0) (l.getD i 0)=true):TV st l (i+1):=
 ⟨by omega,by omega,fun j hj=>by
  have h1:=h.1;rcases fL (j+1) i with h2 | h2
  ·exact h.2.2 j h2
  ·obtain rfl:j=i-1:=by omega
   rwa[show i-1+1=i by omega]⟩
theorem TV.no{st:Bool}{l:List Rat}{i:Nat}(h:TV st l i)(hi:i<l.length)(hs:jI st (l.getD (i-1) 0) (l.getD i 0)=false):nW st l=false:=
 VZ (i-1) (by have:=h.1;omega) (by rwa[show i-1+1=i by have:=h.1;omega])
theorem TV.all{st:Bool}{l:List Rat}{i:Nat}(h:TV st l i)(hi:¬i<l.length):nW st l=true:=
 aj7 fun j hj=>h.2.2 j (by have:=h.1;omega)
theorem uR(l:List Rat)(st:Bool)(A:Nat)(hp:∀a∈l,Fit A a)(hA1:1<=A)(hA:A<=1073741824)(hl:l.length<1099511627776:=by omega):aW prog 90 [(.one (sQ l):aK),(.one (.exact (.bool st)):aK)] (.ret [.one (.bool (nW st l))]):=by
 refine eB func90 WV ?_;refine bG {i:Nat // TV st l i} (fun g=>[.one (.bool false),.one (.int .i64 (g.1:Int))]) (fun g=>l.length+1-g.1) ⟨1,by omega,by omega,fun j hj=>by omega⟩ aX.rfl (fun _=>rfl) ?_;rintro⟨i,hi⟩;have hi1:=hi.1;dsimp only[aF,aG]at|-;apply vn (aR bK (aJ _));apply vn an;refine vs _ rfl ?_ ?_<;>intro h3
 ·apply vn (aO (by omega) (by omega));dsimp only[aF,aG];apply vn (aN bK (m:=i-1) (by omega) (by omega) (aZ (show i-1<l.length by omega)));apply vn (ab cn (by decide) (by simp) (.inl rfl));dsimp only[aF,aG];apply vn (aN bK (m:=i) (by omega) (al i) (aZ (show i<l.length by omega)));apply vn (ab cn (by decide) (by simp) (.inl rfl));apply aA (ot (l.getD (i-1) 0) (l.getD i 0) A A (aE hp _ hA1) (aE hp _ hA1));apply vn fC;dsimp only[aF,aG];refine vs _ rfl ?_ ?_<;>intro h11
  ·rw[hi.no (by omega) (aY3 h11)];exact aM
  refine tK st rfl (fun h13=>?_) (fun h13=>?_)
  ·apply vn cF;refine vs _ rfl ?_ ?_<;>intro h15
   ·subst h13;rw[hi.no (by omega) (step_eq h15)];exact aM
   apply vn (aB (by omega) (by omega));dsimp only[aF,aG];exact af rfl ⟨⟨i+1,hi.next (by omega) (SF h11 fun _=>h15)⟩,aX.rfl,by show l.length+1-(i+1)<l.length+1-i;omega⟩
  apply vn (aB (by omega) (by omega));dsimp only[aF,aG];exact af rfl ⟨⟨i+1,hi.next (by omega) (SF h11 fun h=>by rw[h13]at h;cases h)⟩,aX.rfl,by show l.length+1-(i+1)<l.length+1-i;omega⟩
 rw[hi.all (by omega)];exact aM
def aL3(p:List Rat):Bool:=decide ((nZ zr p:Int)-1>40)
theorem xt(p:List Rat)(hs:p.length<1099511627776):aW prog 89 [(.one (sQ p):aK)] (.ret [.one (.bool (aL3 p))]):=by
 refine eB func89 yB ?_;apply aA (ag7 p hs);apply vn fC;exact aM
def Tl(ks:List Rat)(ps:List (List Rat)):Bool:=decide (2<=ks.length)&&(decide (ks.length<=60)&&(nW true ks&&(decide (ps.length+1=ks.length) && !ps.any aL3)))
theorem Dp(ks:List Rat)(ps:List (List Rat))(A:Nat)(hp:∀a∈ks,Fit A a)(hA1:1<=A)(hps:∀p∈ps,p.length<1099511627776)(hl:ks.length<1099511627776:=by omega)(hA:A<=1073741824:=by omega)(hs:ps.length<1099511627776:=by omega):aW prog 22 [(.agg [sQ ks,eQ ps]:aK)] (.ret [.one (.int .i64 (if Tl ks ps then 0 else 2))]):=by
 refine eB func22 Gd ?_;apply vn (aR bK (aJ _));apply vn an;refine vs _ rfl ?_ ?_<;>intro h2
 ·rw[Tl,dh (by omega)];exact aM
 apply vn (aR bK (aJ _));apply vn fC;dsimp only[aF,aG];refine vs _ rfl ?_ ?_<;>intro h6
 ·rw[Tl,cS (show 2<=ks.length by omega),dh (by omega)];exact aM
 apply aA (uR ks true A hp hA1 hA hl);apply vn ru;refine tK (!nW true ks) rfl (fun h10=>?_) (fun h10=>?_)
 ·rw[Tl,cS (show 2<=ks.length by omega),cS (show ks.length<=60 by omega),show nW true ks=false by simpa using h10];exact aM
 apply vn (aR yO (aJ _));apply vn (aR bK (aJ _));dsimp only[aF,aG];apply vn (aO (by omega) (by omega));apply vn gW;refine vs _ rfl ?_ ?_<;>intro h16
 ·rw[Tl,cS (show 2<=ks.length by omega),cS (show ks.length<=60 by omega),show nW true ks=true by simpa using h10,dh (by omega)];exact aM
 apply aA (Uj ps 89 aL3 (fun p h=>xt p (hps p h)) hs);refine tK (ps.any aL3) rfl (fun h19=>?_) (fun h19=>?_)
 ·rw[Tl,cS (show 2<=ks.length by omega),cS (show ks.length<=60 by omega),show nW true ks=true by simpa using h10,cS (show ps.length+1=ks.length by omega),h19];exact aM
 rw[Tl,cS (show 2<=ks.length by omega),cS (show ks.length<=60 by omega),show nW true ks=true by simpa using h10,cS (show ps.length+1=ks.length by omega),h19];exact aM
def bz0:Tr:=am7 28 (aQ 1 0 as2 (au9 28 (aI9 28 (qa 3 3))))
theorem LD:aV prog f84 dE [.v none]=bz0:=by kernel_rfl
def bq7:Tr:=fJ 0 1 3 0 29 11 13 (di 7 98 15 (ku 124 8 19 98 98 (ym 9 29 20 (jw 1 24 5 10 18 21 29 (ba 3 1 3 13 (tn 0 12 4 11))))))
def bm3:Tr:=ku 84 0 7 28 28 (aw 0 1 11 29 (.loop 0 [lK 0,lV 1 0,.nilrow] (dw 3 0 2 3 13 12 0 (aQ 6 0 bq7 (aw9 4 5)))))
theorem ah4:aV prog f80 dE [.v (some 2)]=bm3:=by kernel_rfl
theorem Xo(ts:List (List aC))(hs:ts.length<1099511627776):aW prog 84 [(.one (.nnS 3 ts):aK)] (.ret [.one (.slice 3 ts)]):=by
 refine eB func84 LD ?_;apply vn (aD0 bK);refine tK false rfl (fun h=>by cases h) (fun _=>?_);apply fB (us:=[]);refine wO (ts:=[]) (us:=ts) (vs:=ts) rfl (.inr aC.Sub.nn) rfl (by omega) (by simp only[maxLen];omega) ?_;exact aM
theorem Wc  :aW prog 84 [(.one .ax0:aK)] (.ret [.one (.slice 3 [])]):=by
 refine eB func84 LD ?_;apply vn (aG5 bK);refine tK true rfl (fun _=>?_) (fun h=>by cases h);exact jG ⟨aC.Sub.nil,trivial⟩
theorem Lo(ts:List (List aC))(hs:ts.length<1099511627776):aW prog 84 [.one (.slice 3 ts)] (.ret [.one (.slice 3 ts)]):=
 Et (fun e=>by subst e;exact Wc) (Xo ts hs)
abbrev yD(ps:List (List Rat)):List (List Rat):=ps.map nX
theorem LH(ks:List Rat)(ps:List (List Rat))(A:Nat)(hs:ps.length<1099511627776)(hps:∀p∈ps,p.length<1099511627776/\∀a∈p,Fit A a)(hA1:1<=A:=by omega)(hA:A<=1073741824:=by omega)(hl:ks.length<1099511627776:=by omega):aW prog 80 [(.agg [sQ ks,eQ ps]:aK)] (.ret [.agg [sQ ks,eQ (yD ps)]]):=by
 refine eB func80 ah4 ?_;apply aA (Lo (rQ ks) (by rw[aJ];exact hl)) rfl;apply vn (aR yO (aJ _));refine bG {i:Nat // i<=ps.length} (fun g=>[.one (.int .i64 (g.1:Int)),.one (sQ ks),.rows ((yD (ps.take g.1)).map cQ)]) (fun g=>ps.length-g.1) ⟨0,cL _⟩ aX.rfl (fun _=>rfl) ?_;rintro⟨i,hi⟩;dsimp only[aF,aG]at hi|-;apply vn an;refine vs _ rfl ?_ ?_<;>intro h4
 ·obtain⟨p,hp⟩:∃p,ps[i]?=some p:=⟨_,bB (by omega)⟩
  have hpp:=hps p (cq hp);have hll:(yD (ps.take i)).length<=i:=by simp;omega
  apply vn (aN yO (by omega) (by omega) hp);apply vn (bO aj2);apply aA (xS p A hpp.2 hA1 hpp.1);dsimp only[aF,aG];apply fB (us:=[cQ (nX p)]);refine js (xs:=yD (ps.take i)) (x:=nX p) (f:=cQ) rfl rfl (by omega) (by simp only[maxLen];omega) ?_;rw[sU (f:=nX) hp];apply vn (aB (by omega) (by omega));dsimp only[aF,aG];exact af rfl ⟨⟨i+1,by omega⟩,aX.rfl,by show ps.length-(i+1)<ps.length-i;omega⟩
 rw[show i=ps.length by omega,gH];exact aM
end Go.Sy
