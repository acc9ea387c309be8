/- Part. -/
import Derived.Test.YtdmcadckdnnglaaGreatDoorQe
import Derived.RecoverIn
import Derived.Test.YtdmcadckdnnglaaGreatDoorCards
import Derived.Test.YtdmcadckdnnglaaGreatDoorTie
import Derived.ProofKit
import Derived.OpenShut
import Derived.Deep.DeepHandedRow
import Derived.Deep.Strs
set_option linter.all false
set_option maxHeartbeats 2000000
set_option maxRecDepth 100000
namespace Ord
def jR(r:j1)(aB:Rat):Nat->Rat
 | 0=>0
 | k+1=>jR r aB k+(r.getD k 0).abs*aB^(k+1)
def ae(h:Nat):Rat:=((4:Int):Rat)*mkRat 1 (2^h)
def je(p:j1)(m i:Nat)(aB N x:Rat):Nat->Rat
 | 0=>x
 | k+1=>if i<m\/0<k then je p m i aB N x k+(p.getD k 0).abs*aB^(m+k-i)/N^(m-i)else je p m i aB N x k
def bO(q:j0)(m:Nat)(aB N:Rat):Nat->Rat
 | 0=>0
 | i+1=>je (q.getD i []) m i aB N (bO q m aB N i) (q.getD i []).length
structure ci5(B:Nat)(q:j0)(m:Nat)(aB:Rat)(N:Int)(L:Nat):Prop where
 fq:∀p∈q,p.length<=L/\∀x∈p,Fit B x
 frho:∀j,j<=2*(m+L)+1->Fit B (aB^j)
 fN:∀j,j<=2*m+1->Fit B ((N:Rat)^j)
 fx:∀i k,i<q.length->k<=(q.getD i []).length->Fit B (je (q.getD i []) m i aB N (bO q m aB N i) k)
end Ord
namespace Go.Sy
def FT:=@Go.bounds_i64
open Go Go.Proofs Tryz Ord
def bi2:Tr:=yF 68 26 3 51 2 39 (ez 0 1 4 0 3 53 54 (AM 203 27 28 52 55 (lZ 207 24 0 24 1 24 2 29 0 29 1 29 2 47 56 (lZ 64 13 0 14 0 15 0 30 0 30 1 30 2 37 57 (bX 12 1 3 25 (xx 1 32 31 31 1 31 2))))))
def bu4:Tr:=mv 146 18 3 38 39 (dh 0 1 12 0 3 41 42 (ez 21 0 4 0 3 43 44 (AM 203 1 22 40 45 (yD 36 20 20 1 20 2 23 23 1 23 2 39 46 (ez 2 0 0 1 3 48 49 (bX 25 1 3 50 bi2))))))
def Zj:Tr:=xx 1 33 32 32 1 32 2
def bk3:Tr:=bX 26 1 3 50 (yF 68 27 3 51 2 39 (ez 0 1 4 0 3 53 54 (AM 203 28 29 52 55 (lZ 207 25 0 25 1 25 2 30 0 30 1 30 2 47 56 (lZ 64 13 0 14 0 15 0 31 0 31 1 31 2 37 57 (bX 12 1 3 25 Zj))))))
def bk4:Tr:=aJ 20 0 (mv 146 18 3 38 39 (dh 0 1 12 0 3 41 42 (ez 22 0 4 0 3 43 44 (AM 203 1 23 40 45 (yD 36 21 21 1 21 2 24 24 1 24 2 39 46 (ez 2 0 0 1 3 48 49 bk3)))))) (bX 12 1 3 25 (xx 1 21 13 14 0 15 0))
def ce4:Tr:=dW 12 11 0 3 25 24 0 (aJ 16 0 (jL 10 0 12 0 72 23 25 (dK 17 3 39 28 (dW 4 0 1 3 30 31 4 (aJ 19 0 bu4 (ia 12 0 0 3 34 bk4))))) (bX 4 1 3 18 (xx 0 17 13 14 0 15 0)))
def bO1:Tr:=XT 0 (dW 4 3 0 3 18 17 0 (aJ 8 0 (jL 0 0 4 0 31 16 18 (cq 9 72 21 (bD 10 0 23 72 (.loop 1 [lK 0,lV 5 0,lV 6 0,lV 7 0] ce4)))) (iz 5 6 0 7 0)))
def bJ5:Tr:=bD 0 0 16 31 bO1
def aY6:aO prog f205 cT [.v (some 5),.v (some 3),.v none]=bJ5:=aT
def bq2:Tr:=dK 26 3 39 36 (mv 146 27 3 39 39 (bX 21 1 3 43 (AM 203 16 29 42 44 (lZ 36 28 0 28 1 28 2 30 0 30 1 30 2 40 45 (lZ 64 22 0 23 0 24 0 31 0 31 1 31 2 38 46 (bX 21 1 3 33 Zj))))))
def bl2:Tr:=YD 49 67 (eO 205 [G5 0,.agg [U 45 0,U 46 0,U 47 0],W 48 0] [some 3] [69,71,73] [171,39,3] 39 false (eO 38 [G3 50,G3 1] [none] [74,75] [39,39] 3 true (ju 51 0 0 3 76 (aJ 52 0 (.ret [.agg [U 40 0,U 41 0,U 42 0,U 43 0,U 44 0,U 45 0,U 46 0,U 47 0,U 48 0]]) (FX .mul 3 62 2 48 0 3 (.back 0 [lV 31 0,lV 32 0,lV 33 0,lV 34 0,lV 35 0,lV 36 0,lV 37 0,lV 38 0,lV 39 0,lV 40 0,lV 41 0,lV 42 0,lV 43 0,lV 44 0,lV 45 0,lV 46 0,lV 47 0,lV 53 0]))))))
def bl7:Tr:=eO 38 [G3 26,G3 1] [none] [51,52] [39,39] 3 true (ju 27 0 0 3 53 (aJ 28 0 (eO 204 [G5 0] [none] [55] [171] 3 false (dh 29 0 0 1 3 56 58 (.loop 0 [lN,lK 0,lN,.w (.one (.c (.k (.bool false)))),lN,lN,.w (.one (.c (.k (.bool false)))),lN,lK 0,lV 3 0,lV 4 0,lV 5 0,lV 6 0,lV 7 0,lV 16 0,lV 16 1,lV 16 2,lV 30 0] (ju 48 0 4096 3 66 bl2)))) (iJ 2 1 14 (.back 0 [lV 29 0,lV 3 0,lV 4 0,lV 5 0,lV 6 0,lV 7 0,lV 16 0,lV 16 1,lV 16 2,lV 11 0]))))
def cg0:Tr:=cq 17 72 29 (Yi 18 72 30 (bD 19 0 31 72 (XT 1 (dW 21 20 0 3 33 32 0 (aJ 25 0 (jL 19 0 21 0 72 31 33 bq2) (yD 64 22 23 0 24 0 22 23 0 24 0 49 50 bl7))))))
def bK3:Tr:=my 2 0 (-60) 3 16 (YD 12 17 (Dc 68 4 3 39 (.need (.prim [WK 2,W 2 0] none) (.binOp .sub 3 (.const (I3 2)) (tT 20) 3) 3 false (oh 202 14 3 21 3 39 (lZ 36 13 0 13 1 13 2 15 0 15 1 15 2 19 22 (jL 0 0 0 1 31 26 28 cg0))))))
def bH6:Tr:=Pk 146 0 2 3 4 3 12 39 (.loop 0 [lK 2,lV 0 0,lV 0 1,lV 0 2,lV 0 3,lV 0 4,lN,.w (.one (.c (.k (.bool false)))),lN,lK 0] bK3)
def aW5:aO prog f123 cT [.v (some 5)]=bH6:=aT
def lQ{B:Nat}{q:Rat}(h:Fit B q):Fit B q.abs:=by
 obtain⟨h1,h2⟩:=ov q;exact⟨by rw[h1];simpa using h.1,by rw[h2];exact h.2⟩
theorem xe{x:Rat}(h:x≠0):∀j:Nat,x^j≠0
 | 0=>by rw[bQ];decide
 | j+1=>by
   rw[bE];intro e;rcases nk.1 e with e | e
   .exact xe h j e
   .exact h e
def ic{a b:Rat}:mF a b<=0↔a<=b:=by
 unfold mF;by_cases h1:a<b
 .rw[aI h1];exact⟨fun _=>e9,fun _=>O⟩
 .rw[aD h1];by_cases h2:b<a
  .rw[aI h2];exact⟨fun h=>O,fun h=>e9⟩
  .rw[aD h2];exact⟨fun _=>e9,fun _=>O⟩
def bb1(q:j0)(m:Nat)(lead aB:Rat)(n:Int)(B L:Nat)(C:ci5 B q m aB (n-m+1) L)(hql:q.length=m+1)(hm:m<=64)(hL:L<=1048576)(hB:B<=8589934592)(h64:64<=B)(hn1:(m:Int)<=n:=by omega)(hn2:n<1099511627776:=by omega):aK prog 205 [(Cl q m lead:aF),(qT aB:aF),(.one (.int .i64 n):aF)] (.ret [qT (bO q m aB ((n-m+1:Int):Rat) q.length)]):=by
 refine dB func205 aY6 ?_;have hN0:((n-m+1:Int):Rat)≠0:=zne O;apply vn (aZ We (aX _));refine bC {i:Nat // i<=q.length} (fun g=>(.one (.int .i64 g.1):aF)::(qC (bO q m aB ((n-m+1:Int):Rat) g.1)).map .one) (fun g=>q.length-g.1) ⟨0,cG _⟩ ⟨aF.Sub.same,tX⟩ (fun _=>rfl) ?_;rintro⟨i,hi⟩;dsimp only[aP,aQ,List.map]at hi|-;refine uS az ?_ ?_<;>intro h3
 .obtain⟨p,hpi⟩:∃p,q[i]?=some p:=⟨_,bU O⟩
  have hgd:q.getD i []=p:=by rw[dp,hpi];rfl
  obtain⟨hpl,hfp⟩:=C.fq p (cj hpi);have hfx:=fun k=>C.fx i k O;rw[hgd]at hfx;apply vn (aY We hpi);apply vn (bI Vf);apply vn (aZ mh (aX _));refine bC {k:Nat // k<=p.length} (fun g=>(.one (.int .i64 g.1):aF)::(qC (je p m i aB ((n-m+1:Int):Rat) (bO q m aB ((n-m+1:Int):Rat) i) g.1)).map .one) (fun g=>p.length-g.1) ⟨0,cG _⟩ aR.rfl (fun _=>rfl) ?_;rintro⟨k,hk⟩;dsimp only[aP,aQ,List.map]at hk|-;refine uS az ?_ ?_<;>intro h9
  .have hkt:k<p.length:=O
   have hc:=lQ (hfp (p.getD k 0) (cj (cS (l:=p) hkt)));have hr:=C.frho (m+k-i) O;have hNp:=C.fN (m-i) O;have e1:(m:Int)+(k:Int)-(i:Int)=((m+k-i:Nat):Int):=O
   have e2:(m:Int)-(i:Int)=((m-i:Nat):Int):=O
   have hx:=hfx k O;apply vn (aY mh (cS hkt) (bV k));apply vn (ay mq dO bY (.inl rfl));refine uS az ?_ ?_<;>intro h13
   .apply aA (BN _);apply vn aC;apply vn aL;rw[e1];apply aA (kU aB (m+k-i) B (fun j hj=>C.frho j O));dsimp only[aP,aQ];apply aA (cr _ _ B B hc hr);apply vn aL;apply vn aC;apply aA (ph (n-m+1));apply vn aL;rw[e2];apply aA (kU _ (m-i) B (fun j hj=>C.fN j O));apply aA (uO _ _ (B+B) B (xe hN0 _) (hc.mul hr) hNp);apply aA (lU _ _ B (B+B+B) hx ((hc.mul hr).div hNp));dsimp only[aP,aQ];apply vn aC
    exact aa rfl ⟨⟨k+1,O⟩,(by
     dsimp only;rw[je,aI (.inl O)];exact aR.rfl),by show p.length-(k+1)<p.length-k;omega⟩
   refine uS fL ?_ ?_<;>intro h29
   .apply aA (BN _);apply vn aC;apply vn aL;rw[e1];apply aA (kU aB (m+k-i) B (fun j hj=>C.frho j O));apply aA (cr _ _ B B hc hr);apply vn aL;apply vn aC;dsimp only[aP,aQ];apply aA (ph (n-m+1));apply vn aL;rw[e2];apply aA (kU _ (m-i) B (fun j hj=>C.fN j O));apply aA (uO _ _ (B+B) B (xe hN0 _) (hc.mul hr) hNp);apply aA (lU _ _ B (B+B+B) hx ((hc.mul hr).div hNp));apply vn aC
    exact aa rfl ⟨⟨k+1,O⟩,(by
     dsimp only;rw[je,aI (.inr O)];exact aR.rfl),by show p.length-(k+1)<p.length-k;omega⟩
   apply vn aC
   exact aa rfl ⟨⟨k+1,O⟩,(by
    dsimp only;rw[je,aD O];exact aR.rfl),by show p.length-(k+1)<p.length-k;omega⟩
  apply vn aC
  exact aa rfl ⟨⟨i+1,O⟩,(by
   dsimp only;rw[bO,hgd,show p.length=k by omega];exact aR.rfl),by show q.length-(i+1)<q.length-i;omega⟩
 rw[show q.length=i by omega];exact aN
def aX2{E sz b T:Nat}{α:Type}{f:α->List aE}{ds:List α}{x:n8}{ty:Nat}{y:n8}{k:IntKind}{n:Int}{m:Nat}(h:eP prog T=some (E,sz,b))(hm:n.toNat=m)(hn:m<=ds.length)(h0:0<=n:=by omega):aq prog (.slice T x (some y) none none) ty [.one (.slice sz (ds.map f)),.one (.int k n)] (.one (.slice sz ((ds.drop m).map f))):=by
 have:=PJ (P:=prog) (T:=T) (x:=x) (y:=y) (ty:=ty) (k:=k) (n:=n) (ts:=ds.map f) h h0 (by rw[aX,hm];exact hn);rw[hm,<-rL]at this;exact this
def nP(e:Int):aK prog 130 [.one (.bool true),.one (.int .i64 e)] (.ret []):=by
 refine dB func130 ZO ?_;apply vn jW;refine lw ?_;exact aN
def vcp{P:n7}{post:Out->Prop}{f:Nat}{args:List SW}{sh:List (Option Nat)}{op:Op}{ty:Nat}{k:Tr}{τ:Env}{bk:List (List aF->Prop)}{c:aE}(hd:aK P f (args.map (qI τ)) (.pan c))(h:post (.pan c)):vc P post (.need (.call f args sh) op ty true k) τ bk:=.inr (.inl ⟨rfl,c,hd,h⟩)
abbrev zI(e:Int):aE:=.exact (.iface 261 (.agg #[.int .i64 e]))
def as4{x:n8}{ty:Nat}(e:Int):aq prog (.makeInterface 261 x) ty [.agg [.int .i64 e]] (.one (zI e)):=by
 intro M w ρ o ho _ hr;have hx:(aF.agg [aE.int .i64 e]).rep M w (ρ x):=Ar (x:=x) hr;obtain⟨us,hv,hus⟩:=hx
 match us,hus with
 | [u],hus=>
   have hu:u=.int .i64 e:=hus.1.1;subst hu;have hd:(prog.underlying 261).any (fun d=>match d with | .interface _=>false | _=>true)=true:=aT
   refine⟨.iface 261 (.agg #[.int .i64 e]),?_,⟨rfl,rfl⟩⟩;cases hu:prog.underlying 261 with
   | none=>rw[hu]at hd;cases hd
   | some d=>
     rw[hu]at hd;cases d<;>first | (cases hd;done) | simp[execOp,ho,hv,Instr.makeInterface,fB hu]
 | [],hus=>exact hus.elim
 | _::_::_,hus=>exact hus.2.elim
def ll(e:Int):aK prog 130 [.one (.bool false),.one (.int .i64 e)] (.pan (zI e)):=by
 refine dB func130 ZO ?_;apply vn jW;refine ut ?_;apply vn (as4 e);dsimp only[aP,aQ];exact⟨rfl,fun M w v h=>⟨_,_,h.1⟩⟩
abbrev oS(q:j0)(m:Nat)(lead:Rat)(h:Nat):Prop:=jR ((q.getD m []).drop 1) (ae h) ((q.getD m []).length-1)+jR ((q.getD m []).drop 1) (ae h) ((q.getD m []).length-1)<=lead.abs
abbrev gP(q:j0)(m:Nat)(lead:Rat)(aB:Rat)(s:Nat):Prop:=bO q m aB (((s:Int)-m+1:Int):Rat) q.length<=lead.abs
structure Vn(B:Nat)(q:j0)(m:Nat)(lead:Rat)(L h0 s i0:Nat):Prop where
 flead:Fit B lead
 fq:∀p∈q,p.length<=L/\∀x∈p,Fit B x
 frho:∀h,h<=h0->h<=62->∀j,j<=2*L+1->Fit B (ae h^j)
 fs:∀h,h<=h0->h<=62->∀k,k<=L->Fit B (jR ((q.getD m []).drop 1) (ae h) k)
 fm:∀i,i<=i0->s*2^i<=4096->ci5 B q m (ae h0) (((s*2^i:Nat):Int)-m+1) L
 fo:∀i,i<=i0->s*2^i<=4096->Fit B (bO q m (ae h0) ((((s*2^i:Nat):Int)-m+1:Int):Rat) q.length)
def aY5(h:Nat):Fit (h+1) (mkRat 1 (2^h)):=by
 refine Fit.mkRat ?_ ?_ (Nat.ne_of_gt (aw O))
 .have:2^0<=2^h:=cB O (cG _);rw[bF];show(1:Nat)<_;omega
 .exact mZ O O
def OW(q:j0)(m:Nat)(lead:Rat)(B L h0 i0:Nat)(C:Vn B q m lead L h0 (m+aj q+m) i0)(hql:q.length=m+1)(hm:m<=64)(hL:L<=1048576)(hB:B<=8589934592)(h64:64<=B)(hh:h0<=63)(hp1:1<=(q.getD m []).length)(hlow:∀h,h<h0->¬oS q m lead h)(hs:h0<=62->oS q m lead h0)(hst:h0<=62->∀i,i<i0->(m+aj q+m)*2^i<=4096/\¬gP q m lead (ae h0) ((m+aj q+m)*2^i))(hsi:h0<=62->4096<(m+aj q+m)*2^i0\/gP q m lead (ae h0) ((m+aj q+m)*2^i0))(hi13:i0<=13):aK prog 123 [(Cl q m lead:aF)] (if h0=63\/4096<(m+aj q+m)*2^i0 then .pan (zI 5)else .ret [.agg (([eQ q,.int .i64 m]++qC lead)++qC (ae h0)++[.int .i64 (((m+aj q+m)*2^i0:Nat):Int)])]):=by
 refine dB func123 aW5 ?_;obtain⟨p,hpm⟩:∃p,q[m]?=some p:=⟨_,bU O⟩
 have hgd:q.getD m []=p:=by rw[dp,hpm];rfl
 obtain⟨hpl,hfp⟩:=C.fq p (cj hpm);have hfs:=C.fs;have hfl:=lQ C.flead;rw[hgd]at hfs hp1;have hokr:∀h,oS q m lead h↔jR (p.drop 1) (ae h) (p.length-1)+jR (p.drop 1) (ae h) (p.length-1)<=lead.abs:=fun h=>by rw[oS,hgd]
 have hlow:∀h,h<h0->¬jR (p.drop 1) (ae h) (p.length-1)+jR (p.drop 1) (ae h) (p.length-1)<=lead.abs:=fun h hh=>by rw[<-hokr];exact hlow h hh
 have hs:=fun hx=>(hokr h0).1 (hs hx);apply aA (BN lead)
 refine bC {h:Nat // h<=h0} (fun g=>([.one (.int .i64 (2-(g.1:Int))),.one (eQ q),.one (.int .i64 m)]:List aF)++(qC lead).map aF.one++(qC (if g.1=0 then 0 else ae (g.1-1))).map aF.one++[aF.one (.int .i64 0)]) (fun g=>h0-g.1) ⟨0,cG _⟩
  ⟨aF.Sub.same,aF.Sub.same,aF.Sub.same,aF.Sub.same,aF.Sub.same,aF.Sub.same,fg.1,fg.2.1,fg.2.2.1,aF.Sub.same,trivial⟩ (fun _=>rfl) ?_
 rintro⟨h,hh0⟩;dsimp only[aP,aQ,List.map]at hh0|-;apply vn gW;dsimp only[aP,aQ];by_cases h63:h=63
 .rw[show decide ((-60:Int)<=2-(h:Int))=false by rw[jJ];omega];exact vcp (ll 5) (by rw[aI (.inl O)];rfl)
 have hh2:h<=62:=O
 rw[show decide ((-60:Int)<=2-(h:Int))=true by rw[fH];omega];apply aA (nP 5);apply aA (ph 4);apply vn aL;rw[show(2:Int)-(2-(h:Int))=(h:Int) by omega];apply aA (CG h);apply aA (cr ((4:Int):Rat) (mkRat 1 (2^h)) 64 64 (Fit.int O O) ((aY5 h).mono O));rw[show((4:Int):Rat)*mkRat 1 (2^h)=ae h from rfl];apply vn (aY We hpm (bV m));apply vn (bI Vf);dsimp only[aP,aQ];apply vn (aX2 mh (show(1:Int).toNat=1 from rfl) hp1);dsimp only[aP,aQ];apply vn (aZ mh (show(rQ (p.drop 1)).length=p.length-1 by rw[aX,dw]));refine bC {k:Nat // k<=p.length-1} (fun g=>(.one (.int .i64 g.1):aF)::(qC (jR (p.drop 1) (ae h) g.1)).map .one) (fun g=>p.length-1-g.1) ⟨0,cG _⟩ ⟨aF.Sub.same,tX⟩ (fun _=>rfl) ?_;rintro⟨k,hk⟩;dsimp only[aP,aQ,List.map]at hk|-;refine uS az ?_ ?_<;>intro h14
 .have hkt:k<(p.drop 1).length:=by rw[dw];omega
  have hc:=lQ (hfp ((p.drop 1).getD k 0) (uA (cj (cS (l:=p.drop 1) hkt))));apply vn (aY mh (cS hkt) (bV k));apply vn (ay mq dO bY (.inl rfl));apply aA (BN _);apply vn aC;apply aA (kU (ae h) (k+1) B (fun j hj=>C.frho h hh0 hh2 j O));apply aA (cr _ _ B B hc (C.frho h hh0 hh2 (k+1) O));apply aA (lU _ _ B (B+B) (hfs h hh0 hh2 k O) (hc.mul (C.frho h hh0 hh2 (k+1) O)));dsimp only[aP,aQ];apply vn aC;dsimp only[aP,aQ];exact aa rfl ⟨⟨k+1,O⟩,aR.rfl,by show p.length-1-(k+1)<p.length-1-k;omega⟩
 have hkl:p.length-1=k:=O
 rw[hkl]at hlow hs;apply aA (lU _ _ B B (hfs h hh0 hh2 k O) (hfs h hh0 hh2 k O));apply aA (ma _ _ (B+B+1) B ((hfs h hh0 hh2 k O).add (hfs h hh0 hh2 k O)) hfl);refine uS iQ ?_ ?_<;>intro h27
 .have hle:=ic.1 h27
  have hheq:h=h0:=by
   rcases bG h h0 with hl | hl
   .exact(hlow h hl hle).elim
   .omega
  subst hheq;replace hs:=hs hh2;replace hst:=hst hh2;replace hsi:=hsi hh2;have hqs:∀p∈q,p.length<1099511627776:=fun p hp=>by have:=(C.fq p hp).1;omega
  have hdm:=td (N:=1048576) q (fun p hp=>an (C.fq p hp).1 hL);apply aA (Uh q m lead hqs);apply vn aC;rw[show((m+aj q:Nat):Int)+(m:Int)=((m+aj q+m:Nat):Int) by omega];dsimp only[aP,aQ];generalize hse:m+aj q+m=s at *;refine bC {i:Nat // i<=i0} (fun g=>([.one (.exact (.slice none 0 0)),.one (.int .i64 0),.one (.exact (.slice none 0 0)),.one (.bool false),.one (.exact (.slice none 0 0)),.one (.exact (.slice none 0 0)),.one (.bool false),.one (.exact (.slice none 0 0)),.one (.int .i64 0),.one (eQ q),.one (.int .i64 m)]:List aF)++(qC lead).map aF.one++(qC (ae h)).map aF.one++[aF.one (.int .i64 ((s*2^g.1:Nat):Int))]) (fun g=>i0-g.1) ⟨0,cG _⟩ (show aR _ _ by rw[jt,dc];exact aR.rfl) (fun _=>rfl) ?_;rintro⟨i,hi⟩;dsimp only[aP,aQ,List.map]at hi|-;have hpw:s*2^i<=s*2^13:=cd _ (cB O O);have hs13:s<=1048704:=O
  have hsm:m<=s*2^i:=by
   have h1:1<=2^i:=aw O;have h2:s*1<=s*2^i:=cd _ h1;omega
  obtain⟨z,hz⟩:∃z,s*2^i=z:=⟨_,rfl⟩
  rw[hz]at hpw hsm|-;apply vn iQ;dsimp only[aP,aQ];by_cases hbig:4096<z
  .rw[show decide ((z:Int)<=4096)=false by rw[jJ];omega];refine vcp (ll 5) ?_
   have hie:i=i0:=by
    rcases bG i i0 with hl | hl
    .have:=(hst i hl).1;omega
    .omega
   subst hie;rw[aI (.inr O)];rfl
  have hfm:=C.fm i hi O;have hfo:=C.fo i hi O;rw[hz]at hfm hfo;rw[show decide ((z:Int)<=4096)=true by rw[fH];omega];apply aA (nP 5);apply aA (bb1 q m lead (ae h) (z:Int) B L hfm hql hm hL hB h64);apply aA (ma _ _ B B hfo hfl);refine uS iQ ?_ ?_<;>intro h36
  .have hle2:=ic.1 h36
   have hieq:i=i0:=by
    rcases bG i i0 with hl | hl
    .exact((hst i hl).2 (by rw[gP,hz];exact hle2)).elim
    .omega
   subst hieq;rw[aD O,hz];exact aN
  have hilt:i<i0:=by
   rcases bG i i0 with hl | hl
   .exact hl
   .exfalso
    obtain rfl:i=i0:=O
    rw[gP,hz]at hsi;exact h36 (ic.2 (hsi.resolve_left hbig))
  apply vn pb;dsimp only[aP,aQ]
  exact aa rfl ⟨⟨i+1,O⟩,aR.of_eq (show[aF.one (.exact (.slice none 0 0)),.one (.int .i64 0),.one (.exact (.slice none 0 0)),.one (.bool false),.one (.exact (.slice none 0 0)),.one (.exact (.slice none 0 0)),.one (.bool false),.one (.exact (.slice none 0 0)),.one (.int .i64 0),.one (eQ q),.one (.int .i64 m)]++(qC lead).map aF.one++(qC (ae h)).map aF.one++[aF.one (.int .i64 ((z:Int)*2))]=_ by
   dsimp only;rw[bF,<-dC,hz];rfl),by show i0-(i+1)<i0-i;omega⟩
 have hhlt:h<h0:=by
  rcases bG h h0 with hl | hl
  .exact hl
  .exfalso
   obtain rfl:h=h0:=O
   exact h27 (ic.2 (hs hh2))
 apply vn aL;dsimp only[aP,aQ]
 exact aa rfl ⟨⟨h+1,O⟩,aR.of_eq (show[aF.one (.int .i64 (2-(h:Int)-1)),.one (eQ q),.one (.int .i64 m)]++(qC lead).map aF.one++(qC (ae h)).map aF.one++[aF.one (.int .i64 0)]=_ by
  dsimp only;rw[aD O,ny,show(2:Int)-(h:Int)-1=2-((h+1:Nat):Int) by omega];rfl),by show h0-(h+1)<h0-h;omega⟩
def aP1(q:j0)(m:Nat)(lead:Rat)(B L h0 i0:Nat)(C:Vn B q m lead L h0 (m+aj q+m) i0)(hql:q.length=m+1)(hm:m<=64)(hL:L<=1048576)(hB:B<=8589934592)(h64:64<=B)(hh:h0<=62)(hp1:1<=(q.getD m []).length)
  (hlow:∀h,h<h0->¬oS q m lead h) (hs:oS q m lead h0) (hst:∀i,i<i0->(m+aj q+m)*2^i<=4096/\¬gP q m lead (ae h0) ((m+aj q+m)*2^i)) (hsi:gP q m lead (ae h0) ((m+aj q+m)*2^i0)) (hlim:(m+aj q+m)*2^i0<=4096) (hi13:i0<=13) :
  aK prog 123 [Cl q m lead] (.ret [.agg (([eQ q,.int .i64 m]++qC lead)++qC (ae h0)++[.int .i64 (((m+aj q+m)*2^i0:Nat):Int)])]):=by
 have h:=OW q m lead B L h0 i0 C hql hm hL hB h64 O hp1 hlow (fun _=>hs) (fun _=>hst) (fun _=>.inr hsi) hi13;rw[aD O]at h;exact h
open Go Go.Proofs Go.RowKit Tryz Ord
attribute [local go_sem] Oper.semAt_some
def bU9{P:n7}{W:World}{b T:Nat}{c0 c1 c2 c3 c4 c5 c6 c7 c8 u0 u1 u2 u3 u4 u5 u6 u7 u8:Value}(h:W.heap[b]?=some (.cells #[c0,c1,c2,c3,c4,c5,c6,c7,c8] T (0,0)))(o:∀u∈[u0,u1,u2,u3,u4,u5,u6,u7,u8],u.oneCell'=true) :
  (((store ⟨b,0,none⟩ u0).run P W).andThen fun _ w=>((store ⟨b,1,none⟩ u1).run P w).andThen fun _ w=>((store ⟨b,2,none⟩ u2).run P w).andThen fun _ w=>((store ⟨b,3,none⟩ u3).run P w).andThen fun _ w=>((store ⟨b,4,none⟩ u4).run P w).andThen fun _ w=>((store ⟨b,5,none⟩ u5).run P w).andThen fun _ w=>((store ⟨b,6,none⟩ u6).run P w).andThen fun _ w=>((store ⟨b,7,none⟩ u7).run P w).andThen fun _ w=>(store ⟨b,8,none⟩ u8).run P w)=.ok () (W.setRow b #[u0,u1,u2,u3,u4,u5,u6,u7,u8]):=by
 have s0:(store ⟨b,0,none⟩ u0).run P W=.ok () (W.setRow b #[u0,c1,c2,c3,c4,c5,c6,c7,c8]):=by
  rw[nO h bY (o _ bY)];rfl
 have s1:(store ⟨b,1,none⟩ u1).run P (W.setRow b #[u0,c1,c2,c3,c4,c5,c6,c7,c8])=.ok () (W.setRow b #[u0,u1,c2,c3,c4,c5,c6,c7,c8]):=by
  rw[nO (dP W b _ _ T (0,0) h) bY (o _ bY),nq];rfl
 have s2:(store ⟨b,2,none⟩ u2).run P (W.setRow b #[u0,u1,c2,c3,c4,c5,c6,c7,c8])=.ok () (W.setRow b #[u0,u1,u2,c3,c4,c5,c6,c7,c8]):=by
  rw[nO (dP W b _ _ T (0,0) h) bY (o _ bY),nq];rfl
 have s3:(store ⟨b,3,none⟩ u3).run P (W.setRow b #[u0,u1,u2,c3,c4,c5,c6,c7,c8])=.ok () (W.setRow b #[u0,u1,u2,u3,c4,c5,c6,c7,c8]):=by
  rw[nO (dP W b _ _ T (0,0) h) bY (o _ bY),nq];rfl
 have s4:(store ⟨b,4,none⟩ u4).run P (W.setRow b #[u0,u1,u2,u3,c4,c5,c6,c7,c8])=.ok () (W.setRow b #[u0,u1,u2,u3,u4,c5,c6,c7,c8]):=by
  rw[nO (dP W b _ _ T (0,0) h) bY (o _ bY),nq];rfl
 have s5:(store ⟨b,5,none⟩ u5).run P (W.setRow b #[u0,u1,u2,u3,u4,c5,c6,c7,c8])=.ok () (W.setRow b #[u0,u1,u2,u3,u4,u5,c6,c7,c8]):=by
  rw[nO (dP W b _ _ T (0,0) h) bY (o _ bY),nq];rfl
 have s6:(store ⟨b,6,none⟩ u6).run P (W.setRow b #[u0,u1,u2,u3,u4,u5,c6,c7,c8])=.ok () (W.setRow b #[u0,u1,u2,u3,u4,u5,u6,c7,c8]):=by
  rw[nO (dP W b _ _ T (0,0) h) bY (o _ bY),nq];rfl
 have s7:(store ⟨b,7,none⟩ u7).run P (W.setRow b #[u0,u1,u2,u3,u4,u5,u6,c7,c8])=.ok () (W.setRow b #[u0,u1,u2,u3,u4,u5,u6,u7,c8]):=by
  rw[nO (dP W b _ _ T (0,0) h) bY (o _ bY),nq];rfl
 have s8:(store ⟨b,8,none⟩ u8).run P (W.setRow b #[u0,u1,u2,u3,u4,u5,u6,u7,c8])=.ok () (W.setRow b #[u0,u1,u2,u3,u4,u5,u6,u7,u8]):=by
  rw[nO (dP W b _ _ T (0,0) h) bY (o _ bY),nq];rfl
 rw[s0,gA,s1,gA,s2,gA,s3,gA,s4,gA,s5,gA,s6,gA,s7,gA,s8]
def ck1{M:j2}{w:World}{a b c d e f g h i:aE}{vs:n5}(hr:ai M w [a,b,c,d,e,f,g,h,i] vs):∃u0 u1 u2 u3 u4 u5 u6 u7 u8,vs=[u0,u1,u2,u3,u4,u5,u6,u7,u8]:=by
 have hl:=hr.length
 match vs,hl with
 | [u0,u1,u2,u3,u4,u5,u6,u7,u8],_=>exact⟨_,_,_,_,_,_,_,_,_,rfl⟩
def aM5{M:j2}{w:World}{a b c d e:aE}{vs:n5}(hr:ai M w [a,b,c,d,e] vs):∃u0 u1 u2 u3 u4,vs=[u0,u1,u2,u3,u4]:=by
 have hl:=hr.length
 match vs,hl with
 | [u0,u1,u2,u3,u4],_=>exact⟨_,_,_,_,_,rfl⟩
def cc7{M:j2}{w:World}{cs:List aE}{vs:n5}(h:cW M w [.agg cs] vs):∃us,pack vs=.agg us.toArray/\ai M w cs us:=by
 match vs,h with
 | [v],h=>
   obtain⟨us,rfl,hus⟩:=h.1;exact⟨us,rfl,hus⟩
 | [],h=>exact h.elim
 | _::_::_,h=>exact h.2.elim
abbrev zJ(q:j0)(m:Nat)(lead aB:Rat)(st:Int):List aE:=([eQ q,.int .i64 m]++qC lead)++qC aB++[.int .i64 st]
def ar5(M:j2)(w:World)(hM:cX M w)(e:j0)(c:Rat)(q:j0)(m:Nat)(lead aB:Rat)(st:Int)
  (hat:aK prog 100 [.one (eQ e),qT c] (.ret [Cl q m lead])) (hre:aK prog 123 [Cl q m lead] (.ret [.agg (zJ q m lead aB st)]))
  (b0 b1 A:Nat) (ev u0 u1 u2:Value) (T0 T1:Nat) (z0 z1 z2 z3 z4 z5 z6 z7 z8:Value) (h0:w.heap[b0]?=some (.cells #[ev] T0 (0,0))) (h1:w.heap[b1]?=some (.cells #[u0,u1,u2] T1 (0,0))) (hA:w.heap[A]?=some (.cells #[z0,z1,z2,z3,z4,z5,z6,z7,z8] 185 (0,0)))
  (hMA:M A) (he:(eQ e).rep M w ev) (hc:ai M w (qC c) [u0,u1,u2]) :
  Calls prog 122 #[.pointer (some ⟨b0,0,none⟩),.pointer (some ⟨b1,0,none⟩),.pointer (some ⟨A,0,none⟩)] w fun e w'=>e=.returned (.tuple #[])/\w.grownBy w' (some A) /\
   ∃y0 y1 y2 y3 y4 y5 y6 y7 y8,w'.heap[A]?=some (.cells #[y0,y1,y2,y3,y4,y5,y6,y7,y8] 185 (0,0))/\ai M w' (zJ q m lead aB st) [y0,y1,y2,y3,y4,y5,y6,y7,y8]:=by
 refine jn func122 rfl ?_;simp only[ntmps122,ed,bm,ck,Nat.reduceAdd,Nat.reduceSub,fX,fW,fS,fU,List.nil_append,List.cons_append];have c0:w.cell? ⟨b0,0,none⟩=some ev:=aH h0 rfl;have d0:w.cell? ⟨b1,0,none⟩=some u0:=aH h1 rfl;have d1:w.cell? ⟨b1,1,none⟩=some u1:=aH h1 rfl;have d2:w.cell? ⟨b1,2,none⟩=some u2:=aH h1 rfl
 have k1:Calls prog 100 #[ev,.agg #[u0,u1,u2]] w fun e w'=>Below w.heap.size w w'/\∃s0 s1 s2 s3 s4,e=.returned (.agg #[s0,s1,s2,s3,s4])/\ai M w' ([eQ q,.int .i64 m]++qC lead) [s0,s1,s2,s3,s4]:=by
  refine(hat.2 M w [ev,.agg #[u0,u1,u2]] hM ⟨he,⟨[u0,u1,u2],rfl,hc⟩,trivial⟩).mono ?_;rintro e w' ⟨hb,vs,rfl,hvs⟩;obtain⟨us,e1,hus⟩:=cc7 hvs;obtain⟨s0,s1,s2,s3,s4,rfl⟩:=aM5 hus;exact⟨hb,s0,s1,s2,s3,s4,by rw[e1],hus⟩
 obtain⟨la,hla⟩:∃la,w.heap.size=la:=⟨_,rfl⟩
 have hAl:A<w.heap.size:=hM.1 A hMA
 go_wp2_with (go_at_call 100;refine k1.mono ?_;clear k1;rintro e w1 ⟨hb1,s0,s1,s2,s3,s4,rfl,hs⟩)
 have hM1:cX M w1:=⟨fun b hb=>bt (hM.1 b hb) hb1.size,hM.2.below rfl hb1⟩
 refine(hre.2 M w1 [.agg #[s0,s1,s2,s3,s4]] hM1 ⟨⟨_,rfl,hs⟩,trivial⟩).mono ?_;rintro e w2 ⟨hb2,vs,rfl,hvs⟩;obtain⟨us,e1,hus⟩:=cc7 hvs;obtain⟨y0,y1,y2,y3,y4,y5,y6,y7,y8,rfl⟩:=ck1 hus;rw[e1];have hA2:w2.heap[A]?=some (.cells #[z0,z1,z2,z3,z4,z5,z6,z7,z8] 185 (0,0)):=(hb2.block A (bt hAl hb1.size)).trans ((hb1.block A hAl).trans hA)
 go_wp2
 rw[bU9 hA2 hus.one]
 have hg:w.grownBy (w2.setRow A #[y0,y1,y2,y3,y4,y5,y6,y7,y8]) (some A):=by
  have hb:=hb1.trans (hb2.mono hb1.size);refine⟨hb.os,hb.tape,hb.output,by have:=hb.size;simpa[World.setRow]using this,fun k hk hne=>?_⟩;rw[du _ _ _ _ (fun e=>hne (by rw[e]))];exact hb.block k hk
 have hk:bq M w2 M (w2.setRow A #[y0,y1,y2,y3,y4,y5,y6,y7,y8]):=fun b o hb ho _=>⟨hb,by rw[du _ _ _ _ (fun e=>hb (by rw[e];exact hMA))];exact ho⟩
 have hself:(w2.setRow A #[y0,y1,y2,y3,y4,y5,y6,y7,y8]).heap[A]?=some (.cells #[y0,y1,y2,y3,y4,y5,y6,y7,y8] 185 (0,0)):=dP _ _ _ _ _ _ hA2;generalize w2.setRow A #[y0,y1,y2,y3,y4,y5,y6,y7,y8]=w3 at *
 go_wp2
 refine bodyPost_end (Fz rfl _ _ _) rfl ?_;exact⟨rfl,hg,y0,y1,y2,y3,y4,y5,y6,y7,y8,hself,hus.mono hk⟩
def YH(p:Addr)(w:World) :
  CallsD prog 201 #[.pointer (some p)] .returning w fun e u' w'=>e=.returned (.tuple #[])/\u'=.returning/\w'=w:=by
 refine callsD_of_wpS func201 rfl fun c₀ cs hu=>?_;apply wpS_seq;apply Gf;simp[wpOpsS,go_sem,recoverD,hu,ntmps201,Exit.thenS];apply wpS_seq;apply Gf;simp[wpOpsS,go_sem,Exit.thenS];refine wpS_cond (t:=false) (by simp[Act.eval,Array.replicate]) ?_;simp only[eF,bu];refine wpS_of_wp (wp_skip ?_);cases c₀
 simp_all[bodyPostS,results,show f201.results=#[]from rfl]
def AC(fn:Fn)(first cap:l7)(w:World):(Instr.makeFunc fn first cap).run prog w=.ok (.func fn first cap) w:=rfl
def Py(g:FuncId)(caps:l7)(w:World)(Pw:World->Prop)(eg:∀args w,(callFunc g args).run prog w=.ok (.enter g args) w)
  (h:Calls prog g caps (w.alloc (.cells #[.int .i64 0] 55)) fun e w'=>e=.returned (.tuple #[])/\w'.heap[w.heap.size]?=some (.cells #[.int .i64 0] 55 (0,0))/\Pw w') :
  Calls prog 121 #[.func (.func g) #[] caps] w fun e w'=>e=.returned (.int .i64 0)/\∃w1,Pw w1/\w'=w1.setRow w.heap.size #[.int .i64 0]/\w1.heap[w.heap.size]?=some (.cells #[.int .i64 0] 55 (0,0)):=by
 have hmf:=AC
 go_enter_defers func121,ntmps121
 go_wp2
 refine h.mono ?_;rintro e w1 ⟨rfl,hb,hP⟩;have cb:w1.cell? ⟨w.heap.size,0,none⟩=some (.int .i64 0):=aH hb rfl;have fb:w1.frozen? ⟨w.heap.size,0,none⟩=false:=by simp[World.frozen?,hb]
 go_wp2
 refine leaves_cons (f:=201) (args:=#[.pointer (some ⟨w.heap.size,0,none⟩)]) bY (by simp[go_sem]) ?_;refine(YH ⟨w.heap.size,0,none⟩ _).mono ?_;rintro e u' w'' ⟨rfl,rfl,rfl⟩;rw[xM w1 w.heap.size 0 _ _ _ _ hb,show(#[Value.int .i64 0].setIfInBounds 0 (.int .i64 0))=#[Value.int .i64 0]from rfl];have hb2:(w1.setRow w.heap.size #[Value.int .i64 0]).heap[w.heap.size]?=some (.cells #[.int .i64 0] 55 (0,0)):=dP _ _ _ _ _ _ hb;have cb2:(w1.setRow w.heap.size #[Value.int .i64 0]).cell? ⟨w.heap.size,0,none⟩=some (.int .i64 0):=aH hb2 rfl;simp[Leaves,settle,results,show f121.results=#[.cell 2 55]from rfl,go_sem,cb2];exact⟨w1,hP,rfl,hb⟩
def aF1(M:j2)(w:World)(hM:cX M w)(e:j0)(c:Rat)(q:j0)(m:Nat)(lead aB:Rat)(st:Int)
  (hce:aK prog 19 [.one (eQ e)] (.ret [.one (.int .i64 0)])) (hrg:aK prog 97 [.one (eQ e),qT c] (.ret [.one (.bool true)]))
  (hat:aK prog 100 [.one (eQ e),qT c] (.ret [Cl q m lead])) (hre:aK prog 123 [Cl q m lead] (.ret [.agg (zJ q m lead aB st)]))
  (ev u0 u1 u2:Value) (he:(eQ e).rep M w ev) (hc:ai M w (qC c) [u0,u1,u2]) :
  Calls prog 41 #[ev,.agg #[u0,u1,u2]] w fun e w'=>Below w.heap.size w w'/\∃y0 y1 y2,e=.returned (.tuple #[.agg #[y0,y1,y2],.int .i64 st,.int .i64 0])/\ai M w' (qC aB) [y0,y1,y2]:=by
 have hmf:=AC;obtain⟨n0,hn0⟩:∃n0,w.heap.size=n0:=⟨_,rfl⟩
 obtain⟨o0,o1,o2⟩:u0.oneCell'=true/\u1.oneCell'=true/\u2.oneCell'=true:=by have:=hc.one;exact⟨this _ bY,this _ bY,this _ bY⟩
 refine jn func41 rfl ?_;simp only[ntmps41,ed,bm,ck,Nat.reduceAdd,Nat.reduceSub,fX,fW,fS,fU,List.nil_append,List.cons_append]
 obtain⟨ea,ecap,rfl,_⟩:∃ea ecap,ev=.slice ea e.length ecap/\True:=by
  have he':=he;obtain⟨ea,ecap,rfl,_⟩:=he';exact⟨ea,ecap,by rw[aX],trivial⟩
 obtain⟨Wa,hWa⟩:∃Wa,(((w.alloc (.cells #[.slice ea e.length ecap] 32)).alloc (.cells #[u0,u1,u2] 39)).alloc (.cells #[.slice none 0 0,.bool false,.slice none 0 0] 39))=Wa:=⟨_,rfl⟩
 have hsa:Wa.heap.size=n0+3:=by rw[<-hWa];simp[hn0]
 have hEa:Wa.heap[n0]?=some (.cells #[.slice ea e.length ecap] 32 (0,0)):=by rw[<-hWa,bJ _ _ _ iF,bJ _ _ _ iF,<-hn0];exact bc w _
 have hCa:Wa.heap[n0+1]?=some (.cells #[u0,u1,u2] 39 (0,0)):=by
  rw[<-hWa,bJ _ _ _ iF];have:=bc (w.alloc (.cells #[.slice ea e.length ecap] 32)) (.cells #[u0,u1,u2] 39);rw[br,hn0]at this;exact this
 have hRa:Wa.heap[n0+2]?=some (.cells #[.slice none 0 0,.bool false,.slice none 0 0] 39 (0,0)):=by
  rw[<-hWa];have:=bc ((w.alloc (.cells #[.slice ea e.length ecap] 32)).alloc (.cells #[u0,u1,u2] 39)) (.cells #[.slice none 0 0,.bool false,.slice none 0 0] 39);rw[br,br,hn0]at this;exact this
 have hBa:Below w.heap.size w Wa:=by
  rw[<-hWa];exact(((cz _ w).alloc O _).alloc bY _).alloc iF _
 have hka:bq M w M Wa:=bq.below hBa;have hMa:cX M Wa:=⟨fun b hb=>bt (hM.1 b hb) hBa.size,hM.2.jc hka⟩
 have he0:=he;have hc0:=hc;replace he:=aE.mono _ hka he;replace hc:=hc.mono hka;have cE:Wa.cell? ⟨n0,0,none⟩=some (.slice ea e.length ecap):=aH hEa rfl
 have k1:Calls prog 19 #[.slice ea e.length ecap] Wa fun r w'=>Below Wa.heap.size Wa w'/\r=.returned (.int .i64 0):=by
  refine(hce.2 M Wa [.slice ea e.length ecap] hMa ⟨he,trivial⟩).mono ?_;rintro r w' ⟨hb,vs,rfl,hvs⟩;obtain⟨v,e1,hr⟩:=ap7 hvs;rw[hr.1]at e1;exact⟨hb,by rw[e1]⟩
 have k2:∀w1,Below Wa.heap.size Wa w1->Calls prog 97 #[.slice ea e.length ecap,.agg #[u0,u1,u2]] w1 fun r w'=>Below w1.heap.size w1 w'/\r=.returned (.bool true):=by
  intro w1 hb;refine(hrg.2 M w1 [.slice ea e.length ecap,.agg #[u0,u1,u2]] ⟨fun b h=>bt (hMa.1 b h) hb.size,hMa.2.below rfl hb⟩ ⟨aE.mono _ (bq.below hb) he,⟨_,rfl,hc.mono (bq.below hb)⟩,trivial⟩).mono ?_;rintro r w' ⟨hb,vs,rfl,hvs⟩;obtain⟨v,e1,hr⟩:=ap7 hvs;rw[hr.1]at e1;exact⟨hb,by rw[e1]⟩
 go_wp2_with (first | (go_at_call 19;refine k1.mono ?_;clear k1;rintro r w1 ⟨hb1,rfl⟩;have cE1:w1.cell? ⟨n0,0,none⟩=some (.slice ea e.length ecap):=aH ((hb1.block n0 O).trans hEa) rfl;have cC0:w1.cell? ⟨n0+1,0,none⟩=some u0:=aH ((hb1.block (n0+1) O).trans hCa) rfl;have cC1:w1.cell? ⟨n0+1,1,none⟩=some u1:=aH ((hb1.block (n0+1) O).trans hCa) rfl;have cC2:w1.cell? ⟨n0+1,2,none⟩=some u2:=aH ((hb1.block (n0+1) O).trans hCa) rfl) | (go_at_call 97;refine(k2 _ hb1).mono ?_;clear k2;rintro r w2 ⟨hb2,rfl⟩))
 obtain⟨A,hA⟩:∃A,w2.heap.size=A:=⟨_,rfl⟩
 obtain⟨W3,hW3⟩:∃W3,w2.alloc (.cells #[.slice none 0 0,.int .i64 0,.slice none 0 0,.bool false,.slice none 0 0,.slice none 0 0,.bool false,.slice none 0 0,.int .i64 0] 185)=W3:=⟨_,rfl⟩
 have hb2':=hb1.trans (hb2.mono hb1.size);have hs2:n0+3<=A:=by have:=hb2'.size;omega
 have hs3:W3.heap.size=A+1:=by rw[<-hW3,br,hA]
 have hA3:W3.heap[A]?=some (.cells #[.slice none 0 0,.int .i64 0,.slice none 0 0,.bool false,.slice none 0 0,.slice none 0 0,.bool false,.slice none 0 0,.int .i64 0] 185 (0,0)):=by rw[<-hW3,<-hA];exact bc w2 _
 have hB3:Below Wa.heap.size Wa W3:=by rw[<-hW3];exact hb2'.alloc O _
 rw[hA,hW3];obtain⟨W4,hW4⟩:∃W4,W3.alloc (.cells #[.int .i64 0] 55)=W4:=⟨_,rfl⟩
 have hB4:Below Wa.heap.size Wa W4:=by rw[<-hW4];exact hB3.alloc O _
 have hs4:W4.heap.size=A+2:=by rw[<-hW4,br,hs3]
 have hA4:W4.heap[A]?=some (.cells #[.slice none 0 0,.int .i64 0,.slice none 0 0,.bool false,.slice none 0 0,.slice none 0 0,.bool false,.slice none 0 0,.int .i64 0] 185 (0,0)):=by rw[<-hW4,bJ _ _ _ O];exact hA3
 have hX4:W4.heap[W3.heap.size]?=some (.cells #[.int .i64 0] 55 (0,0)):=by rw[<-hW4];exact bc W3 _
 have hk4:bq M w (fun b=>M b\/b=A\/b=n0+2) W4:=fun b o hb ho _=>by
  have hlt:=(cf.1 ho).1;have h3:b<Wa.heap.size:=O
  exact⟨fun h=>h.elim hb (fun h=>O),(hB4.block b h3).trans ((hBa.block b hlt).trans ho)⟩
 have hM4:cX (fun b=>M b\/b=A\/b=n0+2) W4:=⟨fun b h=>h.elim (fun h=>bt (hMa.1 b h) hB4.size) (fun h=>O),hM.2.jc hk4⟩
 have hr1:=ar5 (fun b=>M b\/b=A\/b=n0+2) W4 hM4 e c q m lead aB st hat hre n0 (n0+1) A (.slice ea e.length ecap) u0 u1 u2 _ _ _ _ _ _ _ _ _ _ _ ((hB4.block _ O).trans hEa) ((hB4.block _ O).trans hCa) hA4 (.inr (.inl rfl)) (aE.mono _ hk4 he0) (hc0.mono hk4)
 have hc1:=Py 122 #[.pointer (some ⟨n0,0,none⟩),.pointer (some ⟨n0+1,0,none⟩),.pointer (some ⟨A,0,none⟩)] W3 (fun w'=>W4.grownBy w' (some A)/\∃y0 y1 y2 y3 y4 y5 y6 y7 y8,w'.heap[A]?=some (.cells #[y0,y1,y2,y3,y4,y5,y6,y7,y8] 185 (0,0))/\ai (fun b=>M b\/b=A\/b=n0+2) w' (zJ q m lead aB st) [y0,y1,y2,y3,y4,y5,y6,y7,y8]) (bM aT) (by
  rw[hW4];refine hr1.mono ?_;rintro r w' ⟨rfl,hg,hy⟩;exact⟨rfl,(hg.block _ O (fun e=>by simp only[aM]at e;omega)).trans hX4,hg,hy⟩)
 refine hc1.mono ?_;clear hc1 hr1;rintro r w7 ⟨rfl,w6,⟨hg,y0,y1,y2,y3,y4,y5,y6,y7,y8,hA6,hy⟩,rfl,hX6⟩;obtain⟨W7,hW7⟩:∃W7,w6.setRow W3.heap.size #[.int .i64 0]=W7:=⟨_,rfl⟩
 have h7:∀j,j≠A+1->W7.heap[j]?=w6.heap[j]?:=fun j hj=>by rw[<-hW7,du _ _ _ _ O]
 have hA7:W7.heap[A]?=some (.cells #[y0,y1,y2,y3,y4,y5,y6,y7,y8] 185 (0,0)):=(h7 A O).trans hA6;have hs7:W7.heap.size=w6.heap.size:=by rw[<-hW7];simp[World.setRow]
 have ho7:W7.os=w6.os/\W7.tape=w6.tape/\W7.output=w6.output:=by rw[<-hW7];exact⟨rfl,rfl,rfl⟩
 rw[hW7]
 have hB7:Below Wa.heap.size Wa W7:=by
  refine⟨by rw[ho7.1,hg.os,hB4.os],by rw[ho7.2.1,hg.tape,hB4.tape],by rw[ho7.2.2,hg.output,hB4.output],by have:=hg.size;omega,fun k hk=>?_⟩;rw[h7 k O,hg.block k O (fun e=>by simp only[aM]at e;omega),hB4.block k hk]
 have hR7:W7.heap[n0+2]?=some (.cells #[.slice none 0 0,.bool false,.slice none 0 0] 39 (0,0)):=(hB7.block _ O).trans hRa;have g5:W7.cell? ⟨A,5,none⟩=some y5:=aH hA7 rfl;have g6:W7.cell? ⟨A,6,none⟩=some y6:=aH hA7 rfl;have g7:W7.cell? ⟨A,7,none⟩=some y7:=aH hA7 rfl;have g8:W7.cell? ⟨A,8,none⟩=some (.int .i64 st):=by rw[<-(show y8=_ from hy.2.2.2.2.2.2.2.2.1.1)];exact aH hA7 rfl
 have p5:y5.oneCell'=true:=hy.one _ bY;have p6:y6.oneCell'=true:=hy.one _ bY;have p7:y7.oneCell'=true:=hy.one _ bY;have r0:W7.cell? ⟨n0+2,0,none⟩=some (.slice none 0 0):=aH hR7 rfl;have r1:W7.cell? ⟨n0+2,1,none⟩=some (.bool false):=aH hR7 rfl;have r2:W7.cell? ⟨n0+2,2,none⟩=some (.slice none 0 0):=aH hR7 rfl;have fr:∀j,W7.frozen? ⟨n0+2,j,none⟩=false:=fun j=>by simp[World.frozen?,hR7]
 have st3:(((store ⟨n0+1+1,0,none⟩ y5).run prog W7.drew).andThen fun _ w'=>((store ⟨n0+1+1,1,none⟩ y6).run prog w').andThen fun _ w'=>(store ⟨n0+1+1,2,none⟩ y7).run prog w')=.ok () (W7.drew.setRow (n0+2) #[y5,y6,y7]):=yW (W:=W7.drew) hR7 p5 p6 p7;have hd:W7.drew.heap=W7.heap:=rfl
 have g8':(W7.drew.setRow (n0+2) #[y5,y6,y7]).cell? ⟨A,8,none⟩=some (.int .i64 st):=by
  rw[FC (w:=W7.drew) (a:=⟨A,8,none⟩) (du _ _ _ _ (show A≠n0+2 by omega))];exact g8
 go_wp2
 go_region
 have hs9:(W7.drew.setRow (n0+2) #[y5,y6,y7]).heap[n0+2]?=some (.cells #[y5,y6,y7] 39 (0,0)):=dP _ _ _ _ _ _ hR7;have hb9:Below w.heap.size w (W7.drew.setRow (n0+2) #[y5,y6,y7]):=below_setRow (hBa.trans (hB7.drew.mono hBa.size)) _
 have hk9:bq (fun b=>M b\/b=A\/b=n0+2) w6 M (W7.drew.setRow (n0+2) #[y5,y6,y7]):=fun b o hb ho _=>by
  refine⟨fun h=>hb (.inl h),?_⟩;rw[du _ _ _ _ (fun e=>hb (.inr (.inr e)))];show W7.heap[b]?=some o;by_cases hbx:b=A+1
  .subst hbx;rw[hs3]at hX6 hW7;rw[hX6]at ho;rw[<-ho,<-hW7];exact dP _ _ _ _ _ _ hX6
  .rw[h7 b hbx];exact ho
 generalize hW9:W7.drew.setRow (n0+2) #[y5,y6,y7]=W9 at *;have t0:W9.cell? ⟨n0+2,0,none⟩=some y5:=aH hs9 rfl;have t1:W9.cell? ⟨n0+2,1,none⟩=some y6:=aH hs9 rfl;have t2:W9.cell? ⟨n0+2,2,none⟩=some y7:=aH hs9 rfl
 go_wp2
 have hy3:ai M W9 (qC aB) [y5,y6,y7]:=(show ai (fun b=>M b\/b=A\/b=n0+2) w6 (qC aB) [y5,y6,y7]from⟨hy.2.2.2.2.2.1,hy.2.2.2.2.2.2.1,hy.2.2.2.2.2.2.2.1,trivial⟩).mono hk9;clear hy hk9;simp[bodyPost,results,show f41.results=#[.cell 4 39,.tmp 5,.tmp 6]from rfl,go_sem,t0,t1,t2];exact⟨hb9,y5,y6,y7,⟨rfl,rfl,rfl⟩,hy3⟩
def aI9{M:j2}{w:World}{a b c:aE}{vs:n5}(hr:ai M w [a,b,c] vs):∃u0 u1 u2,vs=[u0,u1,u2]:=by
 have hl:=hr.length
 match vs,hl with
 | [u0,u1,u2],_=>exact⟨_,_,_,rfl⟩
def VI(e:j0)(c:Rat)(q:j0)(m:Nat)(lead aB:Rat)(st:Int)
  (hce:aK prog 19 [.one (eQ e)] (.ret [.one (.int .i64 0)])) (hrg:aK prog 97 [.one (eQ e),qT c] (.ret [.one (.bool true)]))
  (hat:aK prog 100 [.one (eQ e),qT c] (.ret [Cl q m lead])) (hre:aK prog 123 [Cl q m lead] (.ret [.agg (zJ q m lead aB st)])) :
  aK prog 41 [.one (eQ e),qT c] (.ret [qT aB,.one (.int .i64 st),.one (.int .i64 0)]):=by
 refine⟨bM aT,fun M w vs hM hv=>?_⟩
 match vs,hv with
 | [v,u],hv=>
   obtain⟨us,rfl,hus⟩:=hv.2.1;obtain⟨u0,u1,u2,rfl⟩:=aI9 hus;refine(aF1 M w hM e c q m lead aB st hce hrg hat hre v u0 u1 u2 hv.1 hus).mono ?_;rintro r w' ⟨hb,y0,y1,y2,rfl,hy⟩;exact⟨hb,[.agg #[y0,y1,y2],.int .i64 st,.int .i64 0],rfl,⟨_,rfl,hy⟩,⟨rfl,rfl⟩,⟨rfl,rfl⟩,trivial⟩
 | [],hv=>exact hv.elim
 | [_],hv=>exact hv.2.elim
 | _::_::_::_,hv=>exact hv.2.2.elim
end Go.Sy
namespace Go.Sy
open Go Go.Proofs Tryz Ord
def cf0:Tr:=eO 18 [W 0 0,W 1 0] [some 5,none] [8,9] [5,3] 56 false (.ret [G5 2])
def aV0:aO prog f53 cT [.v none,.v none]=cf0:=aT
def ub:Tr:=hx137Q 
def bt3:Tr:=gd 21 0 0 3 48 (aJ 22 0 (tk 90 4 0 1 2 52 39 9 (.need (.prim [W 23 0,.one (.c (.k (.string ⟨#[52]⟩)))] none) (.binOp .eql 9 (tT 53) (.const (.string ⟨#[52]⟩)) 9) 4 false (aJ 24 0 (gd 5 0 4 3 57 (cC 25)) ub))) ub)
def bn9:Tr:=dK 15 3 39 39 (tk 90 16 0 1 2 40 39 9 (.need (.prim [W 17 0,.one (.c (.k (.string ⟨#[49,47,49,56,48]⟩)))] none) (.binOp .eql 9 (tT 41) (.const (.string ⟨#[49,47,49,56,48]⟩)) 9) 4 false (aJ 18 0 (mr 1 0 5 40 45 (dK 19 3 39 46 (tk 35 20 0 1 2 47 39 3 bt3))) ub)))
def bh5:Tr:=aJ 10 0 (mr 1 0 3 40 31 (dK 11 3 39 32 (tk 90 12 0 1 2 33 39 9 (.need (.prim [W 13 0,.one (.c (.k (.string ⟨#[49,47,54]⟩)))] none) (.binOp .eql 9 (tT 34) (.const (.string ⟨#[49,47,54]⟩)) 9) 4 false (aJ 14 0 (mr 1 0 6 40 38 bn9) ub))))) ub
def bF0:Tr:=eO 41 [W 3 0,.agg [tN,tE (.bool false),tN]] [some 3,none,none] [13,14] [32,39] 84 false (gd 2 0 0 55 19 (aJ 7 0 (gd 6 0 0 55 22 (aJ 8 0 (bD 1 0 26 40 (gd 9 0 7 3 27 bh5)) ub)) ub))
def bP8:Tr:=ax5 3 (.need (.call 26 [G5 0,WK 7] [none,none]) (D5 26 #[tT 7,.const (I3 7)] #[42,3]) 66 false (ax5 1 bF0))
def aC3:aO prog f16 cT []=bP8:=aT
def VR(k:Nat)(n:Int)(hk:k<256:=by omega)(h1:-9223372036854775808<=n:=by omega)(h2:n<9223372036854775808:=by omega):aK prog 53 [(.one (.int .u8 k):aF),(.one (.int .i64 n):aF)] (.ret [fT (mU k n).1 0 (mU k n).2.1]):=by
 refine dB func53 aV0 ?_;apply aA (TG k n hk h1 h2);exact aN
instance fitDec (B:Nat) (q:Rat):Decidable (Fit B q):=inferInstanceAs (Decidable (_/\_))
instance bdDec (D S:Nat) (q:Rat):Decidable (Bd D S q):=inferInstanceAs (Decidable (_/\_))
def k3:mU 3 0=([[0,-1],[],[1]],[1,0],0):=iN
def k1':mU 1 0=([[-1],[1]],[1],0):=iN
def mv3:aV [[0,-1],[],[1]] 0=[[0,-1],[],[1]]:=iN
def mv1:aV [[-1],[1]] 0=[[-1],[1]]:=iN
def ld3:aG [[0,-1],[],[1]] 0=1:=iN
def ld1:aG [[-1],[1]] 0=1:=iN
def cf3:Ir [[0,-1],[],[1]] 0 [1,0] 7=([1,0,0,1/6,0,0,1/180],0):=iN
def bf9:jy 64 [[0,-1],[],[1]] 2 1 [1,0] 7 where
 flead:=iN
 fy:=iN
 fq:=iN
 ffall:=fun n i hn hi z hz j hj=>by
  have h:=pz (z:=z) (N:=9) j O;have h2:9^j<=9^2:=cB O O;exact Fit.int O O
 ffac:=iN
 fa:=iN
 fx:=by
  have h:∀n,n<7->∀i,i<3->∀k,k<3->Fit 64 (inner (([[0,-1],[],[1]]:List (List Rat)).getD i []) (aU [[0,-1],[],[1]] 2 1 [1,0] n) 2 n i (outer [[0,-1],[],[1]] (aU [[0,-1],[],[1]] 2 1 [1,0] n) 2 n i) k):=iN
  intro n i k hn _ hi hk;have hl:∀i,i<3->(([[0,-1],[],[1]]:List (List Rat)).getD i []).length<=2:=dO
  have:=hl i hi;exact h n hn i hi k O
def cj0:Vn 64 [[-1],[1]] 1 1 1 0 2 1 where
 flead:=iN
 fq:=iN
 frho:=iN
 fs:=iN
 fm:=fun i hi _=>by
  have h1:∀i,i<=1->∀j,j<=3->Fit 64 (((((2*2^i:Nat):Int)-(1:Nat)+1:Int):Rat)^j):=iN
  have h2:∀i,i<=1->∀j,j<2->∀k,k<=(([[-1],[1]]:List (List Rat)).getD j []).length->Fit 64 (je (([[-1],[1]]:List (List Rat)).getD j []) 1 j (ae 0) ((((2*2^i:Nat):Int)-(1:Nat)+1:Int):Rat) (bO [[-1],[1]] 1 (ae 0) ((((2*2^i:Nat):Int)-(1:Nat)+1:Int):Rat) j) k):=iN
  exact⟨iN,iN,h1 i hi,fun j k hj hk=>h2 i hi j hj k hk⟩
 fo:=iN
def bX2:aK prog 123 [Cl [[-1],[1]] 1 1] (.ret [.agg (zJ [[-1],[1]] 1 1 4 4)]):=by
 have h:=aP1 [[-1],[1]] 1 1 64 1 0 1 cj0 dO dO dO dO dO dO dO (fun h hh=>absurd hh (pG _)) iN iN iN iN dO;rw[show ae 0=4 by decide +kernel,show(1+aj [[-1],[1]]+1)*2^1=4 by decide +kernel]at h;exact h
def cF4:EqS [[-1],[1]]:=⟨dO,iN⟩
def cL0:EqS [[0,-1],[],[1]]:=⟨dO,iN⟩
def jV  :aK prog 16 [] (.ret [.one (.bool true)]):=by
 refine dQ (args:=[]) (ins:=[]) (hints:=(fun _=>none)) fo aT func16 trivial ?_;rw[aC3];dsimp only[List.map,In.env,aP,aQ];have e1:=VR 3 0;rw[k3]at e1;apply aA e1;dsimp only[aP,aQ];have e2:=DD [[0,-1],[],[1]] 0 [1,0] 7 1 1 1 1 2 64 64 7 cL0 (Fit.zero O) dO O O (fun _=>⟨O,O,iN,iN,O,O,O,iN⟩) (fun _=>by rw[mv3];decide) (fun _ _ _=>⟨by rw[mv3,ld3];exact bf9,dO,dO,dO⟩) O O;rw[cf3]at e2;apply aA e2;dsimp only[aP,aQ];have e3:=VR 1 0;rw[k1']at e3;apply aA e3;dsimp only[aP,aQ];have hce:=tg [[-1],[1]] dO dO;rw[show DU [[-1],[1]]=true by decide +kernel]at hce;have hrg:=GJ [[-1],[1]] 0 cF4 dO (Fit.zero O);rw[show vH [[-1],[1]] 0=true by decide +kernel]at hrg;have hat:=WM (e:=[[-1],[1]]) (c:=0) (D:=1) (E:=1) (S:=1) (T:=1) (K:=2) (B:=64) ⟨O,O,iN,iN,O,O,O,iN⟩ dO dO iN;rw[mv1,ld1]at hat;refine pg (show aR [.one (eQ [[-1],[1]]),.agg [.exact (.slice none 0 0),.bool false,.exact (.slice none 0 0)]] [.one (eQ [[-1],[1]]),qT 0]from⟨aF.Sub.same,fg,trivial⟩) (VI [[-1],[1]] 0 [[-1],[1]] 1 1 4 4 hce hrg hat bX2) rfl ?_;refine uS bA ?_ ?_<;>intro h5
 .refine uS bA ?_ ?_<;>intro h7
  .apply vn (aZ vv (show(rQ [1,0,0,1/6,0,0,1/180]).length=7 from rfl));refine uS bA ?_ ?_<;>intro h10
   .apply vn (aY vv (show([1,0,0,1/6,0,0,1/180]:List Rat)[3]?=some (1/6)from rfl) (show(3:Int).toNat=3 from rfl));apply vn (ay mq dO bY (.inl rfl));apply aA (HE (1/6) iN iN iN iN);rw[show aI6 (1/6)=[49,47,54]from by decide +kernel];dsimp only[aP,aQ];apply vn (Wm (b:=[49,47,54]));refine p8 ?_ ?_<;>intro h15
    .apply vn (aY vv (show([1,0,0,1/6,0,0,1/180]:List Rat)[6]?=some (1/180)from rfl) (show(6:Int).toNat=6 from rfl));apply vn (ay mq dO bY (.inl rfl));apply aA (HE (1/180) iN iN iN iN);rw[show aI6 (1/180)=[49,47,49,56,48]from by decide +kernel];apply vn (Wm (b:=[49,47,49,56,48]));refine p8 ?_ ?_<;>intro h20
     .apply vn (aY vv (show([1,0,0,1/6,0,0,1/180]:List Rat)[5]?=some 0 from rfl) (show(5:Int).toNat=5 from rfl));apply vn (ay mq dO bY (.inl rfl));apply aA (gQ 0);dsimp only[aP,aQ];refine uS bA ?_ ?_<;>intro h25
      .apply aA (HE 4 iN iN iN iN);rw[show aI6 4=[52]from by decide +kernel];apply vn (Wm (b:=[52]));refine p8 ?_ ?_<;>intro h28
       .apply vn bA;exact aN
       exact(h28 dO).elim
      exact(h25 dO).elim
     exact(h20 dO).elim
    exact(h15 dO).elim
   exact(h10 dO).elim
  exact(h7 dO).elim
 exact(h5 dO).elim
def OX(x:Rat)(xs:j1):trim (x::xs)=if eE zr xs=0/\zr x=true then[]else x::trim xs:=by
 unfold trim;simp only[eE];split<;>simp
theorem Cd:∀ps:List Rat,eE zr (trim ps)=eE zr ps
 | []=>rfl
 | x::xs=>by
   have ih:=Cd xs;rw[OX];split
   .rename_i h;simp only[eE];rw[aI h]
   .rename_i h;simp only[eE];rw[ih]
def aq8(ps:j1):trim (trim ps)=trim ps:=by
 have:=kL ps;show(trim ps).take (eE zr (trim ps))=trim ps;rw[Cd];exact cU O
def aj8{ps:j1}(h:eE zr ps=0)(c:Rat):od ps c=0:=by
 induction ps with
 | nil=>rfl
 | cons x xs ih=>
   simp only[eE]at h;split at h
   .rename_i h';have hx:x=0:=by simpa[zr]using h'.2
    show od xs c*c+x=0;rw[ih h'.1,hx];grind
   .omega
theorem HA(c:Rat):∀ps:List Rat,od (trim ps) c=od ps c
 | []=>rfl
 | x::xs=>by
   have ih:=HA c xs;rw[OX];split
   .rename_i h;rw[aj8 (ps:=x::xs) (by simp only[eE];rw[aI h])];rfl
   .show od (trim xs) c*c+x=od xs c*c+x;rw[ih]
def Oh(e e':j0):Prop:=e.length=e'.length/\∀(i:Nat)p p',e[i]?=some p->e'[i]?=some p'->eE zr p=eE zr p'/\∀c,od p c=od p' c
def Oh.symm{e e':j0}(h:Oh e e'):Oh e' e:=⟨h.1.symm,fun i p p' h1 h2=>⟨(h.2 i p' p h2 h1).1.symm,fun c=>((h.2 i p' p h2 h1).2 c).symm⟩⟩
def Oh.cu5{e e':j0}(h:Oh e e')(hk:DU e=true):DU e'=true:=by
 unfold DU at hk|-;rw[fH]at hk|-;obtain⟨h1,h2,h3,h4⟩:=hk;have hl:=h.1;refine⟨O,O,fun p hp=>?_,fun p hp=>?_⟩
 .obtain⟨i,hi⟩:=xO hp;have hi2:=(fK.1 hi).1;obtain⟨p',hp'⟩:∃p',e[i]?=some p':=⟨_,bU O⟩
  rw[<-(h.2 i p' p hp' hi).1];exact h3 p' (cj hp')
 .rw[<-hl]at hp;obtain⟨p',hp'⟩:∃p',e[e.length-1]?=some p':=⟨_,bU O⟩
  rw[<-(h.2 _ p' p hp' hp).1];exact h4 p' hp'
def Oh.DU{e e':j0}(h:Oh e e'):DU e'=DU e:=by
 cases he:Go.Sy.DU e with
 | true=>exact h.cu5 he
 | false=>
   cases he':Go.Sy.DU e' with
   | false=>rfl
   | true=>rw[h.symm.cu5 he']at he;cases he
def Oh.bA6{e e':j0}(h:Oh e e')(c:Rat)(hk:vH e c=true):vH e' c=true:=by
 unfold vH at hk|-;rw[fH]at hk|-;have hl:=h.1;intro p hp;rw[<-hl]at hp;have hlt:=(fK.1 hp).1;obtain⟨p',hp'⟩:∃p',e[e.length-1]?=some p':=⟨_,bU O⟩
 rw[<-(h.2 _ p' p hp' hp).2];exact hk p' hp'
def Oh.vH{e e':j0}(h:Oh e e')(c:Rat):vH e' c=vH e c:=by
 cases he:Go.Sy.vH e c with
 | true=>exact h.bA6 c he
 | false=>
   cases he':Go.Sy.vH e' c with
   | false=>rfl
   | true=>rw[h.symm.bA6 c he']at he;cases he
def Oh.okF{e e':j0}(h:Oh e e')(c:Rat)(y:j1):okF e' c y=okF e c y:=by
 unfold Go.Sy.okF;rw[h.DU,h.vH,h.1]
def aD9(l:List bz):(tS l).map RQ.q=dY l:=by
 rw[tS,dY,eG];rfl
def bl8(n:Nat):(TN n).map RQ.q=oi n:=by
 rw[TN,oi,xj,rn];rfl
def aS0(p:List (List bz))(long:Int):xh (eRQ p long)=p.map (fun l=>trim (dY l))++if 0<long then[oi (long%50+1).toNat]else[]:=by
 unfold xh eRQ;rw[ep,eG]
 congr 1
 .refine mG fun l _=>?_;show(gI (tS l)).map RQ.q=_;rw[tY,aD9]
 .split
  .rw[dy,jD,bl8]
  .rfl
def bs2{α:Type}(f g:α->List Rat)(hfg:∀a,eE zr (f a)=eE zr (g a)/\∀c,od (f a) c=od (g a) c)(l:List α)(r:j0):Oh (l.map f++r) (l.map g++r):=by
 refine⟨bY,fun i p p' h1 h2=>?_⟩;rcases bG i l.length with h | h
 .rw[et (by simpa using h),dS,bU h]at h1 h2;simp only[eS,aM]at h1 h2;subst h1 h2;exact hfg _
 .rw[jP (by simpa using h)]at h1 h2;rw[aX]at h1 h2;rw[h1]at h2;cases h2;exact⟨rfl,fun _=>rfl⟩
def cn1(p:List (List bz))(long:Int):Oh (Oe p long) (xh (eRQ p long)):=by
 rw[aS0];exact bs2 _ _ (fun l=>⟨(Cd _).symm,fun c=>(HA c _).symm⟩) _ _
def av7(n:Nat)(hn:n<=50):(oi n).length<=64/\∀q∈oi n,Fit 513 q:=by
 refine⟨by simp[oi];omega,fun q hq=>?_⟩;rcases xC hq with h | rfl
 .rw[(pC.1 h).2];exact Fit.zero O
 .exact(iU (n:=1)).mono O
def ad8{l:List bz}(hl:l.length<=4)(h:∀x∈l,x.In):(dY l).length<=64/\∀q∈dY l,Fit 513 q:=by
 refine⟨by rw[wJ];omega,fun q hq=>?_⟩;obtain⟨x,hx,rfl⟩:=jf.1 hq;exact(h x hx).bk0
def cw7{p:List (List bz)}{long:Int}(hp:InP p)(hs:mV p=true):EqS (Oe p long)/\EqS (xh (eRQ p long)):=by
 unfold mV at hs;rw[fH]at hs;obtain⟨h1,h2⟩:=hs;have hn:(long%50+1).toNat<=50:=O
 rw[aS0]
 have hr:∀q∈(if 0<long then[oi (long%50+1).toNat]else[]),q.length<=64/\∀x∈q,Fit 513 x:=by
  intro q hq;split at hq
  .rw[eo]at hq;subst hq;exact av7 _ hn
  .cases hq
 have hrl:(if 0<long then[oi (long%50+1).toNat]else[]).length<=1:=by split<;>simp
 constructor
 .refine⟨by rw[Oe,gK,aX];omega,fun q hq=>?_⟩;rcases iM.1 hq with h | h
  .obtain⟨l,hl,rfl⟩:=jf.1 h;exact ad8 (h2 l hl).1 (hp.p l hl).2
  .exact hr q h
 .refine⟨by rw[gK,aX];omega,fun q hq=>?_⟩;rcases iM.1 hq with h | h
  .obtain⟨l,hl,rfl⟩:=jf.1 h;obtain⟨k1,k2⟩:=ad8 (h2 l hl).1 (hp.p l hl).2;exact⟨by rw[kL];have:=kg (z:=zr) (dY l);omega,fun x hx=>k2 x (jg hx)⟩
  .exact hr q h
def bb3{l:k7}(h:jH l)(hl:l.length<8):(ints l).length<1099511627776/\∀q∈ints l,Fit 64 q:=by
 refine⟨by rw[ints,kL];have:=kg (z:=zr) (l.map fun n:Int=>(n:Rat));rw[aX]at this;omega,fun q hq=>?_⟩;obtain⟨n,hn,rfl⟩:=jf.1 (jg hq);exact iU (h n hn).1 (h n hn).2
def cp5{k:Nat}{n:Int}(h1:1<=k)(h2:k<=8)(h3:0<=n)(h4:n<=40:=by omega):(kE k n).map trim=kE k n/\(kE k n).length<=3/\∀p∈kE k n,p.length<1099511627776/\∀q∈p,Fit 64 q:=by
 have hnn:n*(n+1)<=40*41:=FZ (a:=n) (b:=n+1) (c:=40) (d:=41) O O O O;have hn0:0<=n*(n+1):=tw O O;generalize hm:n*(n+1)=m at hnn hn0;have ht:∀l,trim (ints l)=ints l:=fun l=>aq8 _;have ht0:trim []=[]:=rfl;have hz:([]:List Rat).length<1099511627776/\∀q∈([]:List Rat),Fit 64 q:=⟨bY,bY⟩
 rcases(by omega:k=1\/k=2\/k=3\/k=4\/k=5\/k=6\/k=7\/k=8)with rfl | rfl | rfl | rfl | rfl | rfl | rfl | rfl <;>
  refine⟨by simp only[kE,dy,jD,ht,ht0],by simp[kE],fun p hp=>?_⟩ <;>
  simp only[kE,ee,jm,jr]at hp <;>
  (try rw[hm]at hp) <;>
  (rcases hp with rfl | rfl | rfl<;>first | exact hz | exact bb3 (by intro x hx;simp only[ee,jm,jr]at hx;omega) bY)
open Go Go.Proofs Go.RowKit Go.ChangeShapes Go.WideShapes Tryz
section
variable{H:Type}{enc:TypeId×Value->H}{P:n7}
def Wd(P:n7)(t:TypeId)(d:DataW H):Prop:=∀n∈DataW.weights P t d,n<=reachBytes
theorem Dk{e:TypeId}:∀{ds:List (DataW H)}{d:DataW H},d∈ds->∀n∈DataW.weights P e d,n∈DataW.weightsAll P e ds
 | [],_,h=>by cases h
 | x::xs,d,h=>fun n hn=>by
   rw[DataW.weightsAll];rcases ee.1 h with rfl | h
   .exact ji _ hn
   .exact kO _ (Dk h n hn)
def uY:∀{ts:List TypeId}{ds:List (DataW H)}{j:Nat}{t:TypeId}{d:DataW H},ts[j]?=some t->ds[j]?=some d->∀n∈DataW.weights P t d,n∈DataW.weightsEach P ts ds:=fun h1 h2=>DataW.weights_mem_each h1 h2
def Wd.field{t:TypeId}{fs:Array Field}{parts:List (DataW H)}(ht:P.underlying t=some (.struct fs))(h:Wd P t (.agg parts)){j:Nat}{f:Field}{d:DataW H}(hf:fs[j]?=some f)(hd:parts[j]?=some d):Wd P f.type d:=fun n hn=>by
 refine h n ?_;rw[DataW.weights,ht];exact uY (ts:=fs.toList.map (·.type)) (by rw[dS,tz,hf];rfl) hd n hn
def Wd.elem{t e:TypeId}{es sp:List (DataW H)}(ht:P.underlying t=some (.slice e))(h:Wd P t (.slice es sp)){d:DataW H}(hd:d∈es):Wd P e d:=fun n hn=>by
 refine h n ?_;rw[DataW.weights,ht];exact fj _ (ji _ (Dk hd n hn))
def Wd.len{t e:TypeId}{es sp:List (DataW H)}(ht:P.underlying t=some (.slice e))(h:Wd P t (.slice es sp))(hb:0<P.bytesOf e):es.length<=reachBytes:=by
 have:=h ((es.length+sp.length)*P.bytesOf e) (by rw[DataW.weights,ht];exact gG);have h2:(es.length+sp.length)*1<=(es.length+sp.length)*P.bytesOf e:=cd _ hb;omega
def Tv{w:World}{a:Addr}{n:Nat}{cs:n5}(h:w.cells? 0 a n=some cs)(hn:0<n):∃b off all T fz,a=⟨b,off,none⟩/\w.heap[b]?=some (.cells all T fz):=by
 obtain⟨_,hl,hi⟩:=World.cells?_some h;have h0:=hi 0 hn;obtain⟨v,hv⟩:∃v,cs[0]?=some v:=⟨_,bU O⟩
 rw[hv,show a.add 0=a from rfl]at h0;unfold World.cell? at h0;obtain⟨b,off,sp⟩:=a;dsimp only at h0;split at h0
 .rename_i hb;cases sp with
  | some x=>simp at h0
  | none=>exact⟨b,off,_,_,_,rfl,hb⟩
 .cases h0
def UB(b off k:Nat):(⟨b,off,none⟩:Addr).add k=⟨b,off+k,none⟩:=by
 unfold Addr.add;by_cases h:k=0
 .subst h;rfl
 .rw[aD h]
def Wj{w:World}{b off k n:Nat}{all:l7}{T:TypeId}{fz:Nat×Nat}{cs:n5}(h:w.cells? 0 ((⟨b,off,none⟩:Addr).add k) n=some cs)(hb:w.heap[b]?=some (.cells all T fz)):(all.toList.drop (off+k)).take n=cs:=by
 obtain⟨_,hl,hi⟩:=World.cells?_some h;refine kd fun i=>?_;rw[fi];split
 .rename_i hlt;rw[<-hi i hlt,UB,UB,kH];unfold World.cell?;rw[hb];simp
 .rw[gE O]
abbrev noM:Nat->Prop:=fun _=>False
def OB{w:World}{t e:TypeId}{sz:Nat}(ht:P.underlying t=some (.slice e))(hc:P.cellsOf e=sz)(hb:0<P.bytesOf e){α:Type}(f:α->List aE)(Q:α->Prop)
  (helem:∀n cs x,DataW.trod enc P w 0 (fun _=>true) true n e cs=some x->Wd P e x.1->∃u,Q u/\(f u).length=sz/\ai noM w (f u) cs)
  {fuel:Nat} {cs:n5} {x:DataW H×List MemPlace} (h:DataW.trod enc P w 0 (fun _=>true) true fuel t cs=some x) (hw:Wd P t x.1) (hsz:0<sz:=by omega) :
  ∃(l:List α)(v:Value),cs=[v]/\(∀u∈l,Q u)/\l.length<=reachBytes/\(aE.slice sz (l.map f)).rep noM w v:=by
 rcases Deep.open_slice ht h with⟨rfl,rfl⟩ | ⟨a,len,cap,m,n,D,Pl,rfl,_,hle,hcm,hm,rfl,hel⟩
 .exact⟨[],_,rfl,bY,by simp[reachBytes],none,0,rfl,bY,by simp[maxLen],.inl rfl⟩
 .rw[aI rfl]at hm;subst hm;have hlen:=hw.len ht hb;rw[aX,pT]at hlen
  obtain⟨l,hl1,hl2⟩:=rU (fun i (u:α)=>Q u/\(f u).length=sz/\∃cs',w.cells? 0 (a.add (i*sz)) sz=some cs'/\ai noM w (f u) cs') len fun i hi=>by
   obtain⟨cs',h1,h2⟩:=hel i O;rw[hc]at h1;obtain⟨u,hu1,hu2,hu3⟩:=helem n cs' _ h2 (hw.elem ht (jf.2 ⟨i,gO.2 hi,rfl⟩));exact⟨u,hu1,hu2,cs',h1,hu3⟩
  refine⟨l,_,rfl,fun u hu=>?_,O,some a,m,by rw[aX,hl1],by rw[aX,hl1];exact hle,hcm,?_⟩
  .obtain⟨i,hi⟩:=xO hu;exact(hl2 i u hi).1
  .rcases iI len with h0 | h0
   .left
    rw[ij (hl1.trans h0)];rfl
   .right
    obtain⟨u,hu⟩:∃u,l[0]?=some u:=⟨_,bU O⟩
    obtain⟨_,_,cs0,hc0,_⟩:=hl2 0 u hu;rw[nV,show a.add 0=a from rfl]at hc0;obtain⟨b,off,all,T,fz,rfl,hb'⟩:=Tv hc0 hsz;refine⟨b,off,all,T,fz,rfl,fun h=>h,hb',fun i tt htt=>?_⟩;rw[dS,Sl]at htt;obtain⟨u,hu,rfl⟩:=htt;obtain⟨_,hu2,cs',hc',hu3⟩:=hl2 i u hu;rw[Wj hc' hb'];exact⟨hu2,hu3⟩
end
section
variable{H:Type}{enc:TypeId×Value->H}
def AW:prog.cellsOf 26=3:=aT
def Zf:prog.cellsOf 27=1:=aT
def bl5:0<prog.bytesOf 26:=by rw[show prog.bytesOf 26=24 by kernel_rfl];decide
def aX9:0<prog.bytesOf 27:=by rw[show prog.bytesOf 27=24 by kernel_rfl];decide
def aZ9:prog.cellsOf 22=1:=aT
def aB4:prog.cellsOf 5=1:=aT
def aD8:prog.cellsOf 3=1:=aT
def aQ6:prog.cellsOf 2=1:=aT
def Ak{w:World}{n:Nat}{cs:n5}{x:DataW H×List MemPlace}(h:DataW.trod enc prog w 0 (fun _=>true) true n 26 cs=some x):∃u:bz,u.In/\cs=[.int .i64 u.n,.int .i64 u.d,.int .u8 u.pow]:=by
 obtain⟨y0,y1,y2,m,rfl,hl,h0,h1,h2⟩:=Deep.trod_struct3 underlying26 h;rw[AW]at hl
 match cs,hl with
 | [v0,v1,v2],_=>
   rw[show prog.cellsOf _=1 from aQ6]at h0;rw[show prog.cellsOf _=1 from aQ6]at h1;rw[show prog.cellsOf _=1 from aB4]at h2;obtain⟨z0,e0,_,f0⟩:=xI underlying2 h0;obtain⟨z1,e1,_,f1⟩:=xI underlying2 h1;obtain⟨z2,e2,_,f2⟩:=xI underlying5 h2;have e0':[v0]=[Value.int .i64 z0]:=e0;have e1':[v1]=[Value.int .i64 z1]:=e1;have e2':[v2]=[Value.int .u8 z2]:=e2;cases e0';cases e1';cases e2';have b0:=FT f0;have b1:=FT f1;have b2:=bounds_u8 f2;refine⟨⟨z0,z1,z2.toNat⟩,⟨b0.1,by dsimp only;omega,b1.1,by dsimp only;omega,by dsimp only;omega⟩,?_⟩;rw[show((z2.toNat:Nat):Int)=z2 by omega]
def az2{w:World}{n:Nat}{cs:n5}{x:DataW H×List MemPlace}(h:DataW.trod enc prog w 0 (fun _=>true) true n 147 cs=some x):∃u:bz×bz,(u.1.In/\u.2.In)/\ai noM w (nC u.1++nC u.2) cs:=by
 obtain⟨a0,a1,k,rfl,hl,g0,g1⟩:=trod_struct2 underlying147 h;rw[(by kernel_rfl:prog.cellsOf 147=6)]at hl
 match cs,hl with
 | [v0,v1,v2,v3,v4,v5],_=>
   replace g0:DataW.trod enc prog w 0 (fun _=>true) true k 26 (List.take (prog.cellsOf 26) (List.drop 0 [v0,v1,v2,v3,v4,v5]))=some a0:=g0;replace g1:DataW.trod enc prog w 0 (fun _=>true) true k 26 (List.take (prog.cellsOf 26) (List.drop 3 [v0,v1,v2,v3,v4,v5]))=some a1:=g1;rw[AW]at g0;rw[AW]at g1;replace g0:DataW.trod enc prog w 0 (fun _=>true) true k 26 [v0,v1,v2]=some a0:=g0;replace g1:DataW.trod enc prog w 0 (fun _=>true) true k 26 [v3,v4,v5]=some a1:=g1;obtain⟨u0,hu0,e0⟩:=Ak g0;cases e0;obtain⟨u1,hu1,e1⟩:=Ak g1;cases e1;exact⟨(u0,u1),⟨hu0,hu1⟩,⟨rfl,rfl⟩,⟨rfl,rfl⟩,⟨rfl,rfl⟩,⟨rfl,rfl⟩,⟨rfl,rfl⟩,⟨rfl,rfl⟩,trivial⟩
def OE{w:World}{n:Nat}{cs:n5}{x:DataW H×List MemPlace}(h:DataW.trod enc prog w 0 (fun _=>true) true n 27 cs=some x)(hw:Wd prog 27 x.1) :
  ∃(l:List bz)(v:Value),cs=[v]/\(∀u∈l,u.In)/\l.length<=reachBytes/\(sN l).rep noM w v:=
 OB underlying27 AW bl5 nC bz.In (fun n cs x hx _=>by
  obtain⟨u,hu,rfl⟩:=Ak hx;exact⟨u,hu,rfl,⟨rfl,rfl⟩,⟨rfl,rfl⟩,⟨rfl,rfl⟩,trivial⟩) h hw
def Yy{w:World}{n:Nat}{cs:n5}{x:DataW H×List MemPlace}(h:DataW.trod enc prog w 0 (fun _=>true) true n 22 cs=some x)(hw:Wd prog 22 x.1) :
  ∃(p:List (List bz))(v:Value),cs=[v]/\InP p/\(sP p).rep noM w v:=by
 obtain⟨p,v,rfl,h1,h2,h3⟩:=OB underlying22 Zf aX9 (fun l:List bz=>[sN l]) (fun l=>l.length<=reachBytes/\∀x∈l,x.In) (fun n cs x hx hwx=>by
  obtain⟨l,v,rfl,h1,h2,h3⟩:=OE hx hwx;exact⟨l,⟨h2,h1⟩,rfl,h3,trivial⟩) h hw
 refine⟨p,v,rfl,⟨cV h2 dO,fun l hl=>⟨cV (h1 l hl).1 dO,(h1 l hl).2⟩⟩,h3⟩
def ak4{w:World}{n:Nat}{cs:n5}{x:DataW H×List MemPlace}(h:DataW.trod enc prog w 0 (fun _=>true) true n 29 cs=some x)(hw:Wd prog 29 x.1) :
  ∃c:bL,c.In/\ai noM w [sP c.p,.int .i64 c.long,.int .i64 c.c.n,.int .i64 c.c.d,.int .u8 c.c.pow,sN c.y,.int .u8 c.kind,.int .i64 c.n] cs:=by
 obtain⟨xs,m,_,rfl,hl,hlen,hf⟩:=DataW.trod_struct underlying29 h;rw[show prog.cellsOf 29=8 by kernel_rfl]at hl
 match cs,hl,xs,hlen with
 | [v0,v1,v2,v3,v4,v5,v6,v7],_,[y0,y1,y2,y3,y4],_=>
   have h0:DataW.trod enc prog w 0 (fun _=>true) true m 24 (List.take (prog.cellsOf 24) (List.drop 0 [v0,v1,v2,v3,v4,v5,v6,v7]))=some y0:=hf 0 _ rfl;rw[(by kernel_rfl:prog.cellsOf 24=2)]at h0;replace h0:DataW.trod enc prog w 0 (fun _=>true) true m 24 [v0,v1]=some y0:=h0;have h1:DataW.trod enc prog w 0 (fun _=>true) true m 26 (List.take (prog.cellsOf 26) (List.drop 2 [v0,v1,v2,v3,v4,v5,v6,v7]))=some y1:=hf 1 _ rfl;rw[AW]at h1;replace h1:DataW.trod enc prog w 0 (fun _=>true) true m 26 [v2,v3,v4]=some y1:=h1;have h2:DataW.trod enc prog w 0 (fun _=>true) true m 27 (List.take (prog.cellsOf 27) (List.drop 5 [v0,v1,v2,v3,v4,v5,v6,v7]))=some y2:=hf 2 _ rfl;rw[Zf]at h2;replace h2:DataW.trod enc prog w 0 (fun _=>true) true m 27 [v5]=some y2:=h2;have h3:DataW.trod enc prog w 0 (fun _=>true) true m 5 (List.take (prog.cellsOf 5) (List.drop 6 [v0,v1,v2,v3,v4,v5,v6,v7]))=some y3:=hf 3 _ rfl;rw[aB4]at h3;replace h3:DataW.trod enc prog w 0 (fun _=>true) true m 5 [v6]=some y3:=h3;have h4:DataW.trod enc prog w 0 (fun _=>true) true m 3 (List.take (prog.cellsOf 3) (List.drop 7 [v0,v1,v2,v3,v4,v5,v6,v7]))=some y4:=hf 4 _ rfl;rw[aD8]at h4;replace h4:DataW.trod enc prog w 0 (fun _=>true) true m 3 [v7]=some y4:=h4;have w0:Wd prog 24 y0.1:=hw.field (j:=0) underlying29 rfl rfl;have w2:Wd prog 27 y2.1:=hw.field (j:=2) underlying29 rfl rfl;obtain⟨a0,a1,k,rfl,_,g0,g1⟩:=trod_struct2 underlying24 h0;replace g0:DataW.trod enc prog w 0 (fun _=>true) true k 22 (List.take (prog.cellsOf 22) (List.drop 0 [v0,v1]))=some a0:=g0;replace g1:DataW.trod enc prog w 0 (fun _=>true) true k 3 (List.take (prog.cellsOf 3) (List.drop 1 [v0,v1]))=some a1:=g1;rw[aZ9]at g0;rw[aD8]at g1;replace g0:DataW.trod enc prog w 0 (fun _=>true) true k 22 [v0]=some a0:=g0;replace g1:DataW.trod enc prog w 0 (fun _=>true) true k 3 [v1]=some a1:=g1;have w00:Wd prog 22 a0.1:=w0.field (j:=0) underlying24 rfl rfl;obtain⟨p,_,e0,hp,hpr⟩:=Yy g0 w00;cases e0;obtain⟨zl,e1,_,fl⟩:=xI underlying3 g1;cases e1;obtain⟨u,hu,e2⟩:=Ak h1;cases e2;obtain⟨y,_,e3,hy1,hy2,hyr⟩:=OE h2 w2;cases e3;obtain⟨zk,e4,_,fk⟩:=xI underlying5 h3;cases e4;obtain⟨zn,e5,_,fn⟩:=xI underlying3 h4;cases e5;have bl:=FT fl;have bk:=bounds_u8 fk;have bn:=FT fn;have hrb:reachBytes<140737488355328:=dO
   refine⟨⟨p,zl,u,y,zk.toNat,zn⟩,⟨hp,bl.1,by dsimp only;omega,hu,by dsimp only;omega,hy1,by dsimp only;omega,bn.1,by dsimp only;omega⟩,?_⟩;have hk:((zk.toNat:Nat):Int)=zk:=O
   exact⟨hpr,⟨rfl,rfl⟩,⟨rfl,rfl⟩,⟨rfl,rfl⟩,⟨rfl,rfl⟩,hyr,⟨by show Value.int .u8 zk=Value.int .u8 ((zk.toNat:Nat):Int);rw[hk],rfl⟩,⟨rfl,rfl⟩,trivial⟩
end
section
variable{H:Type}{enc:TypeId×Value->H}{P:n7}
def yG(hl:laidOutB P=true){W W':World}{sp':j7}:∀{ts:List TypeId}{vs:n5}{ds:List (DataW H)}{ps:List MemPlace},(∀t∈ts,P.readableRec t=true/\t<P.types.size) ->
  DataW.TrodAll enc P W 0 (fun _=>true) true ts vs ds ps->(∀p∈ps,W.sameAt W' p)->(∀p∈ps,sp' p.block=true)->DataW.TrodAll enc P W' 0 sp' true ts vs ds ps
 | [],[],[],_,_,h,_,_=>h
 | t::ts,v::vs,d::ds,_,hr,h,h1,h2=>by
   obtain⟨p,q,k1,k2,rfl⟩:=h;refine⟨p,q,WideElems.Trod_stays hl (hr t bY).1 (hr t bY).2 k1 (fun x hx=>h1 x (by simp[hx])) (fun x hx=>h2 x (by simp[hx])),yG hl (fun t ht=>hr t (fj _ ht)) k2 (fun x hx=>h1 x (by simp[hx])) (fun x hx=>h2 x (by simp[hx])),rfl⟩
 | [],_::_,_,_,_,h,_,_=>h.elim
 | [],[],_::_,_,_,h,_,_=>h.elim
 | _::_,[],_,_,_,h,_,_=>h.elim
 | _::_,_::_,[],_,_,h,_,_=>h.elim
def XK{f:Func}{s:ChangeSpec}{apart fresh handsOn again:Bool}{W W':World}{args:l7}{ds gs:List (DataW H)}{before:List MemPlace}{T:TypeId}
  (hl:laidOutB P=true) (hts:∀t∈f.params.toList,P.readableRec t=true/\t<P.types.size) (hvars:s.vars=[])
  (hW:DataW.Whole enc P f.params.toList s.vars apart W args.toList ds gs before) (hres:(s.fn H (ds++gs)).results=[.lit (.bool true)]) (hargs:(s.fn H (ds++gs)).args=ds) (hvs:(s.fn H (ds++gs)).vars=[])
  (hb:Below W.heap.size W W') (hrt:f.resultTypes=#[T]) (hT:P.underlying T=some .bool) :
  s.post enc P f apart fresh handsOn again W args (.bool true) W':=by
 have hlt:∀p∈before,p.block<W.heap.size:=fun p hp=>hW.lt p hp;have hsame:∀p∈before,W.sameAt W' p:=fun p hp=>hb.same (hlt p hp);obtain⟨p,q,hA,hV,hps,hz,hn⟩:=hW;have hW:DataW.Whole enc P f.params.toList s.vars apart W args.toList ds gs before:=⟨p,q,hA,hV,hps,hz,hn⟩
 rw[hvars]at hV;obtain⟨rfl,rfl⟩:=trodVars_none hV;rw[dD]at hps;subst hps;have ha:∀sp:Nat->Bool,(∀p∈before,sp p.block=true)->DataW.TrodAll enc P W' 0 sp true f.params.toList args.toList ds before:=fun sp h=>yG hl hts hA hsame h
 have hr:∀(b:Nat)(sp:j7)(hd:Bool),DataW.TrodAll enc P W' b sp hd f.resultTypes.toList ((Value.bool true).resultList f.resultTypes.size) [.lit (.bool true)] []:=fun b sp hd=>by
  rw[hrt];exact trodAll_mk1 (shut_bool hT true)
 have hold:∀p∈before,(fun b=>decide (b<W.heap.size)) p.block=true:=fun p hp=>by simpa using hlt p hp
 refine⟨ds,[],before,[],before,[],hW,?_,?_,?_,hb.frame _,fun _=>⟨?_,_,[],before,⟨[]++before,[],trodAll_append (ha (fun _=>true) (fun _ _=>rfl)) (hr 0 (fun _=>true) true),?_,bY,?_,?_⟩,fun p hp _=>hp⟩⟩
 .rw[hres];exact hr _ _ _
 .rw[hargs];exact ha _ hold
 .rw[hvars,hvs];rfl
 .exact ok_one hrt rfl (okWide_bool_mk hT true)
 .rw[hvars];exact(rfl:DataW.TrodVars enc P W' (fun _=>true) [] [] [])
 .intro b off hp;rw[hb.frozen (p:=⟨b,off,none⟩) (hlt _ hp)];exact hz b off hp
 .exact hn
end
def RE{W:World}{l:List (String×DataW Unit)}(hl:l.filter (fun x=>x.1 == "internal/strconv.uint64pow10")=[("internal/strconv.uint64pow10",Lib.tabData .u64 Lib.pow10Tab)])(h:laidMetH prog l W):Good noM W:=by
 have h1:=h.filter (fun x=>x.1 == "internal/strconv.uint64pow10");rw[hl]at h1;have h2:laidMet prog [("internal/strconv.uint64pow10",Lib.tabData .u64 Lib.pow10Tab)] W:=h1;intro x hx;have hx:x=(0,JL):=by simpa[aZ0.tab]using hx
 subst hx;have hg:prog.globalNamed "internal/strconv.uint64pow10" = some 0:=aT
 have ht:=Lib.tabIs_of_head (rest:=[]) hg (by kernel_rfl:(prog.globals[0]?).map (·.type)=some 343) underlying343 underlying254 aT aT h2;unfold Lib.TabIs World.var? at ht;rw[hg]at ht;dsimp only[Option.bind_some]at ht;refine⟨fun h=>h,?_⟩;split at ht
 .rename_i cs T fz he;cases ht;exact⟨T,fz,he⟩
 .cases ht
end Go.Sy
