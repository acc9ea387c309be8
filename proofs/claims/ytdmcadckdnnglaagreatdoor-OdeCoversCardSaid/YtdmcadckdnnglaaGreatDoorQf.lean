/- Part. -/
import Derived.Test.YtdmcadckdnnglaaGreatDoorQe
import Derived.RecoverIn
import Derived.Test.YtdmcadckdnnglaaGreatDoorCards
import Derived.Test.YtdmcadckdnnglaaGreatDoorTie
import Derived.ProofKit
import Derived.OpenShut
import Derived.Deep.DeepHandedRow
import Derived.Deep.Strs
set_option linter.all false
set_option maxHeartbeats 2000000
set_option maxRecDepth 100000
namespace Ord
def gJ(r:List Rat)(aB:Rat):Nat->Rat
 | 0=>0
 | k+1=>gJ r aB k+(r.getD k 0).abs*aB^(k+1)
def ah(h:Nat):Rat:=((4:Int):Rat)*mkRat 1 (2^h)
def gR(p:List Rat)(m i:Nat)(aB N x:Rat):Nat->Rat
 | 0=>x
 | k+1=>if i<m\/0<k then gR p m i aB N x k+(p.getD k 0).abs*aB^(m+k-i)/N^(m-i)else gR p m i aB N x k
def bC(q:List (List Rat))(m:Nat)(aB N:Rat):Nat->Rat
 | 0=>0
 | i+1=>gR (q.getD i []) m i aB N (bC q m aB N i) (q.getD i []).length
structure bv3(B:Nat)(q:List (List Rat))(m:Nat)(aB:Rat)(N:Int)(L:Nat):Prop where
 fq:∀p∈q,p.length<=L/\∀x∈p,Fit B x
 frho:∀j,j<=2*(m+L)+1->Fit B (aB^j)
 fN:∀j,j<=2*m+1->Fit B ((N:Rat)^j)
 fx:∀i k,i<q.length->k<=(q.getD i []).length->Fit B (gR (q.getD i []) m i aB N (bC q m aB N i) k)
end Ord
namespace Go.Sy
def xI:=@Go.bounds_i64
open Go Go.Proofs Tryz Ord
def aw5:Tr:=uM 68 26 3 51 2 39 (da 0 1 4 0 3 53 54 (xZ 203 27 28 52 55 (iQ 207 24 0 24 1 24 2 29 0 29 1 29 2 47 56 (iQ 64 13 0 14 0 15 0 30 0 30 1 30 2 37 57 (bD 12 1 3 25 (uL 1 32 31 31 1 31 2))))))
def aI2:Tr:=jw 146 18 3 38 39 (fG 0 1 12 0 3 41 42 (da 21 0 4 0 3 43 44 (xZ 203 1 22 40 45 (uQ 36 20 20 1 20 2 23 23 1 23 2 39 46 (da 2 0 0 1 3 48 49 (bD 25 1 3 50 aw5))))))
def Sr:Tr:=uL 1 33 32 32 1 32 2
def ay2:Tr:=bD 26 1 3 50 (uM 68 27 3 51 2 39 (da 0 1 4 0 3 53 54 (xZ 203 28 29 52 55 (iQ 207 25 0 25 1 25 2 30 0 30 1 30 2 47 56 (iQ 64 13 0 14 0 15 0 31 0 31 1 31 2 37 57 (bD 12 1 3 25 Sr))))))
def ay3:Tr:=aH 20 0 (jw 146 18 3 38 39 (fG 0 1 12 0 3 41 42 (da 22 0 4 0 3 43 44 (xZ 203 1 23 40 45 (uQ 36 21 21 1 21 2 24 24 1 24 2 39 46 (da 2 0 0 1 3 48 49 ay2)))))) (bD 12 1 3 25 (uL 1 21 13 14 0 15 0))
def br1:Tr:=cU 12 11 0 3 25 24 0 (aH 16 0 (gb 10 0 12 0 72 23 25 (dB 17 3 39 28 (cU 4 0 1 3 30 31 4 (aH 19 0 aI2 (fL 12 0 0 3 34 ay3))))) (bD 4 1 3 18 (uL 0 17 13 14 0 15 0)))
def ba9:Tr:=Rw 0 (cU 4 3 0 3 18 17 0 (aH 8 0 (gb 0 0 4 0 31 16 18 (bm 9 72 21 (au 10 0 23 72 (.loop 1 [lK 0,lV 5 0,lV 6 0,lV 7 0] br1)))) (fW 5 6 0 7 0)))
def aW4:Tr:=au 0 0 16 31 ba9
def an1:aM prog f205 bZ [.v (some 5),.v (some 3),.v none]=aW4:=by kernel_rfl
def aE2:Tr:=dB 26 3 39 36 (jw 146 27 3 39 39 (bD 21 1 3 43 (xZ 203 16 29 42 44 (iQ 36 28 0 28 1 28 2 30 0 30 1 30 2 40 45 (iQ 64 22 0 23 0 24 0 31 0 31 1 31 2 38 46 (bD 21 1 3 33 Sr))))))
def az1:Tr:=QN 49 67 (dV 205 [(G5 0),(.agg [(U 45 0),(U 46 0),(U 47 0)]),(W 48 0)] [(some 3)] [69,71,73] [171,39,3] 39 false (dV 38 [(G3 50),(G3 1)] [none] [74,75] [39,39] 3 true (jb 51 0 0 3 76 (aH 52 0 (.ret [(.agg [(U 40 0),(U 41 0),(U 42 0),(U 43 0),(U 44 0),(U 45 0),(U 46 0),(U 47 0),(U 48 0)])]) (qA .mul 3 62 2 48 0 3 (.back 0 [lV 31 0,lV 32 0,lV 33 0,lV 34 0,lV 35 0,lV 36 0,lV 37 0,lV 38 0,lV 39 0,lV 40 0,lV 41 0,lV 42 0,lV 43 0,lV 44 0,lV 45 0,lV 46 0,lV 47 0,lV 53 0]))))))
def az5:Tr:=dV 38 [(G3 26),(G3 1)] [none] [51,52] [39,39] 3 true (jb 27 0 0 3 53 (aH 28 0 (dV 204 [(G5 0)] [none] [55] [171] 3 false (fG 29 0 0 1 3 56 58 (.loop 0 [lN,lK 0,lN,(.w (.one (.c (.k (.bool false))))),lN,lN,(.w (.one (.c (.k (.bool false))))),lN,lK 0,lV 3 0,lV 4 0,lV 5 0,lV 6 0,lV 7 0,lV 16 0,lV 16 1,lV 16 2,lV 30 0] (jb 48 0 4096 3 66 az1)))) (fP 2 1 14 (.back 0 [lV 29 0,lV 3 0,lV 4 0,lV 5 0,lV 6 0,lV 7 0,lV 16 0,lV 16 1,lV 16 2,lV 11 0]))))
def bs7:Tr:=bm 17 72 29 (Qc 18 72 30 (au 19 0 31 72 (Rw 1 (cU 21 20 0 3 33 32 0 (aH 25 0 (gb 19 0 21 0 72 31 33 aE2) (uQ 64 22 23 0 24 0 22 23 0 24 0 49 50 az5))))))
def aX2:Tr:=qA .geq 3 16 (-60) 2 0 4 (QN 12 17 (DR 68 4 3 39 (.need (.prim [(WK 2),(W 2 0)] none) (.binOp .sub 3 (.const (I3 2)) (tT 20) 3) 3 false (lZ 202 14 3 21 3 39 (iQ 36 13 0 13 1 13 2 15 0 15 1 15 2 19 22 (gb 0 0 0 1 31 26 28 bs7))))))
def aU3:Tr:=IJ 146 0 2 3 4 3 12 39 (.loop 0 [lK 2,lV 0 0,lV 0 1,lV 0 2,lV 0 3,lV 0 4,lN,(.w (.one (.c (.k (.bool false))))),lN,lK 0] aX2)
def ak7:aM prog f123 bZ [.v (some 5)]=aU3:=by kernel_rfl
def js{B:Nat}{q:Rat}(h:Fit B q):Fit B q.abs:=by
 obtain⟨h1,h2⟩:=lg q;exact⟨by rw[h1];simpa using h.1,by rw[h2];exact h.2⟩
theorem tq{x:Rat}(h:x≠0):∀j:Nat,x^j≠0
 | 0=>by rw[ej];decide
 | j+1=>by
   rw[gM];intro e;rcases wM.1 e with e | e
   ·exact tq h j e
   ·exact h e
def kM{a b:Rat}:ku a b<=0↔a<=b:=by
 unfold ku;by_cases h1:a<b
 ·rw[if_pos h1];exact⟨fun _=>by grind,fun _=>O⟩
 ·rw[if_neg h1];by_cases h2:b<a
  ·rw[if_pos h2];exact⟨fun h=>O,fun h=>by grind⟩
  ·rw[if_neg h2];exact⟨fun _=>by grind,fun _=>O⟩
def ap6(q:List (List Rat))(m:Nat)(lead aB:Rat)(n:Int)(B L:Nat)(C:bv3 B q m aB (n-m+1) L)(hql:q.length=m+1)(hm:m<=64)(hL:L<=1048576)(hB:B<=8589934592)(h64:64<=B)(hn1:(m:Int)<=n:=by omega)(hn2:n<1099511627776:=by omega):aL prog 205 [(yZ q m lead:aG),(qT aB:aG),(.one (.int .i64 n):aG)] (.ret [qT (bC q m aB ((n-m+1:Int):Rat) q.length)]):=by
 refine bw func205 an1 ?_;have hN0:((n-m+1:Int):Rat)≠0:=zne O;apply vn (aU Pv (aR _));refine ao {i:Nat // i<=q.length} (fun g=>(.one (.int .i64 g.1):aG)::(qC (bC q m aB ((n-m+1:Int):Rat) g.1)).map .one) (fun g=>q.length-g.1) ⟨0,bO _⟩ ⟨aG.Sub.same,pn⟩ (fun _=>rfl) ?_;rintro⟨i,hi⟩;dsimp only[aO,aP,List.map]at hi|-;apply vn ak;refine vs _ rfl ?_ ?_<;>intro h3
 ·obtain⟨p,hpi⟩:∃p,q[i]?=some p:=⟨_,ay O⟩
  have hgd:q.getD i []=p:=by rw[cu,hpi];rfl
  obtain⟨hpl,hfp⟩:=C.fq p (bc hpi);have hfx:=fun k=>C.fx i k O;rw[hgd]at hfx;apply vn (aZ Pv hpi);apply vn (av Ov);apply vn (aU jq (aR _));refine ao {k:Nat // k<=p.length} (fun g=>(.one (.int .i64 g.1):aG)::(qC (gR p m i aB ((n-m+1:Int):Rat) (bC q m aB ((n-m+1:Int):Rat) i) g.1)).map .one) (fun g=>p.length-g.1) ⟨0,bO _⟩ aQ.rfl (fun _=>rfl) ?_;rintro⟨k,hk⟩;dsimp only[aO,aP,List.map]at hk|-;apply vn ak;refine vs _ rfl ?_ ?_<;>intro h9
  ·have hkt:k<p.length:=O
   have hc:=js (hfp (p.getD k 0) (bc (bX (l:=p) hkt)));have hr:=C.frho (m+k-i) O;have hNp:=C.fN (m-i) O;have e1:(m:Int)+(k:Int)-(i:Int)=((m+k-i:Nat):Int):=O
   have e2:(m:Int)-(i:Int)=((m-i:Nat):Int):=O
   have hx:=hfx k O;apply vn (aZ jq (bX hkt) (cS k));apply vn (bB ov (by decide) (by simp) (.inl rfl));apply vn ak;refine vs _ rfl ?_ ?_<;>intro h13
   ·apply aA (yD _);apply vn aC;apply vn aJ;rw[e1];apply aA (iC aB (m+k-i) B (fun j hj=>C.frho j O));dsimp only[aO,aP];apply aA (bg _ _ B B hc hr);apply vn aJ;apply vn aC;apply aA (mN (n-m+1));apply vn aJ;rw[e2];apply aA (iC _ (m-i) B (fun j hj=>C.fN j O));apply aA (qa _ _ (B+B) B (tq hN0 _) (hc.mul hr) hNp);apply aA (iU _ _ B (B+B+B) hx ((hc.mul hr).div hNp));dsimp only[aO,aP];apply vn aC
    exact aW rfl ⟨⟨k+1,O⟩,(by
     dsimp only;rw[gR,if_pos (.inl O)];exact aQ.rfl),by show p.length-(k+1)<p.length-k;omega⟩
   apply vn dZ;refine vs _ rfl ?_ ?_<;>intro h29
   ·apply aA (yD _);apply vn aC;apply vn aJ;rw[e1];apply aA (iC aB (m+k-i) B (fun j hj=>C.frho j O));apply aA (bg _ _ B B hc hr);apply vn aJ;apply vn aC;dsimp only[aO,aP];apply aA (mN (n-m+1));apply vn aJ;rw[e2];apply aA (iC _ (m-i) B (fun j hj=>C.fN j O));apply aA (qa _ _ (B+B) B (tq hN0 _) (hc.mul hr) hNp);apply aA (iU _ _ B (B+B+B) hx ((hc.mul hr).div hNp));apply vn aC
    exact aW rfl ⟨⟨k+1,O⟩,(by
     dsimp only;rw[gR,if_pos (.inr O)];exact aQ.rfl),by show p.length-(k+1)<p.length-k;omega⟩
   apply vn aC
   exact aW rfl ⟨⟨k+1,O⟩,(by
    dsimp only;rw[gR,if_neg O];exact aQ.rfl),by show p.length-(k+1)<p.length-k;omega⟩
  apply vn aC
  exact aW rfl ⟨⟨i+1,O⟩,(by
   dsimp only;rw[bC,hgd,show p.length=k by omega];exact aQ.rfl),by show q.length-(i+1)<q.length-i;omega⟩
 rw[show q.length=i by omega];exact aK
def al4{E sz b T:Nat}{α:Type}{f:α->List aE}{ds:List α}{x:Operand}{ty:Nat}{y:Operand}{k:IntKind}{n:Int}{m:Nat}(h:dI prog T=some (E,sz,b))(hm:n.toNat=m)(hn:m<=ds.length)(h0:0<=n:=by omega):af prog (.slice T x (some y) none none) ty [.one (.slice sz (ds.map f)),.one (.int k n)] (.one (.slice sz ((ds.drop m).map f))):=by
 have:=Ji (P:=prog) (T:=T) (x:=x) (y:=y) (ty:=ty) (k:=k) (n:=n) (ts:=ds.map f) h h0 (by rw[aR,hm];exact hn);rw[hm,<-oG]at this;exact this
def mw(e:Int):aL prog 130 [.one (.bool true),.one (.int .i64 e)] (.ret []):=by
 refine bw func130 SY ?_;apply vn lf;refine lR false rfl (fun h=>by cases h) (fun _=>?_);exact aK
def vcp{P:Program}{post:Out->Prop}{f:Nat}{args:List SW}{sh:List (Option Nat)}{op:Op}{ty:Nat}{k:Tr}{τ:Env}{bk:List (List aG->Prop)}{c:aE}(hd:aL P f (args.map (oW τ)) (.pan c))(h:post (.pan c)):vc P post (.need (.call f args sh) op ty true k) τ bk:=.inr (.inl ⟨rfl,c,hd,h⟩)
abbrev CD(e:Int):aE:=.exact (.iface 261 (.agg #[.int .i64 e]))
def Wt{x:Operand}{ty:Nat}(e:Int):af prog (.makeInterface 261 x) ty [.agg [.int .i64 e]] (.one (CD e)):=by
 intro M w ρ o ho _ hr;have hx:(aG.agg [aE.int .i64 e]).rep M w (ρ x):=wh (x:=x) hr;obtain⟨us,hv,hus⟩:=hx
 match us,hus with
 | [u],hus=>
   have hu:u=.int .i64 e:=hus.1.1;subst hu;have hd:(prog.underlying 261).any (fun d=>match d with | .interface _=>false | _=>true)=true:=by kernel_rfl
   refine⟨.iface 261 (.agg #[.int .i64 e]),?_,⟨rfl,rfl⟩⟩;cases hu:prog.underlying 261 with
   | none=>rw[hu]at hd;cases hd
   | some d=>
     rw[hu]at hd;cases d<;>first | (cases hd;done) | simp[execOp,ho,hv,Instr.makeInterface,dy hu]
 | [],hus=>exact hus.elim
 | _::_::_,hus=>exact hus.2.elim
def mz(e:Int):aL prog 130 [.one (.bool false),.one (.int .i64 e)] (.pan (CD e)):=by
 refine bw func130 SY ?_;apply vn lf;refine lR true rfl (fun _=>?_) (fun h=>by cases h);apply vn (Wt e);dsimp only[aO,aP];exact⟨rfl,fun M w v h=>⟨_,_,h.1⟩⟩
abbrev ks(q:List (List Rat))(m:Nat)(lead:Rat)(h:Nat):Prop:=gJ ((q.getD m []).drop 1) (ah h) ((q.getD m []).length-1)+gJ ((q.getD m []).drop 1) (ah h) ((q.getD m []).length-1)<=lead.abs
abbrev eX(q:List (List Rat))(m:Nat)(lead:Rat)(aB:Rat)(s:Nat):Prop:=bC q m aB (((s:Int)-m+1:Int):Rat) q.length<=lead.abs
structure OD(B:Nat)(q:List (List Rat))(m:Nat)(lead:Rat)(L h0 s i0:Nat):Prop where
 flead:Fit B lead
 fq:∀p∈q,p.length<=L/\∀x∈p,Fit B x
 frho:∀h,h<=h0->h<=62->∀j,j<=2*L+1->Fit B (ah h^j)
 fs:∀h,h<=h0->h<=62->∀k,k<=L->Fit B (gJ ((q.getD m []).drop 1) (ah h) k)
 fm:∀i,i<=i0->s*2^i<=4096->bv3 B q m (ah h0) (((s*2^i:Nat):Int)-m+1) L
 fo:∀i,i<=i0->s*2^i<=4096->Fit B (bC q m (ah h0) ((((s*2^i:Nat):Int)-m+1:Int):Rat) q.length)
def an0(h:Nat):Fit (h+1) (mkRat 1 (2^h)):=by
 refine Fit.mkRat ?_ ?_ (Nat.ne_of_gt (Nat.pow_pos O))
 ·have:2^0<=2^h:=Nat.pow_le_pow_right O (bO _);rw[Nat.pow_succ];show(1:Nat)<_;omega
 ·exact mP O O
def Iu(q:List (List Rat))(m:Nat)(lead:Rat)(B L h0 i0:Nat)(C:OD B q m lead L h0 (m+aa q+m) i0)(hql:q.length=m+1)(hm:m<=64)(hL:L<=1048576)(hB:B<=8589934592)(h64:64<=B)(hh:h0<=63)(hp1:1<=(q.getD m []).length)(hlow:∀h,h<h0->¬ks q m lead h)(hs:h0<=62->ks q m lead h0)(hst:h0<=62->∀i,i<i0->(m+aa q+m)*2^i<=4096/\¬eX q m lead (ah h0) ((m+aa q+m)*2^i))(hsi:h0<=62->4096<(m+aa q+m)*2^i0\/eX q m lead (ah h0) ((m+aa q+m)*2^i0))(hi13:i0<=13):aL prog 123 [(yZ q m lead:aG)] (if h0=63\/4096<(m+aa q+m)*2^i0 then .pan (CD 5)else .ret [.agg (([eQ q,.int .i64 m]++qC lead)++qC (ah h0)++[.int .i64 (((m+aa q+m)*2^i0:Nat):Int)])]):=by
 refine bw func123 ak7 ?_;obtain⟨p,hpm⟩:∃p,q[m]?=some p:=⟨_,ay O⟩
 have hgd:q.getD m []=p:=by rw[cu,hpm];rfl
 obtain⟨hpl,hfp⟩:=C.fq p (bc hpm);have hfs:=C.fs;have hfl:=js C.flead;rw[hgd]at hfs hp1;have hokr:∀h,ks q m lead h↔gJ (p.drop 1) (ah h) (p.length-1)+gJ (p.drop 1) (ah h) (p.length-1)<=lead.abs:=fun h=>by rw[ks,hgd]
 have hlow:∀h,h<h0->¬gJ (p.drop 1) (ah h) (p.length-1)+gJ (p.drop 1) (ah h) (p.length-1)<=lead.abs:=fun h hh=>by rw[<-hokr];exact hlow h hh
 have hs:=fun hx=>(hokr h0).1 (hs hx);apply aA (yD lead)
 refine ao {h:Nat // h<=h0} (fun g=>([.one (.int .i64 (2-(g.1:Int))),.one (eQ q),.one (.int .i64 m)]:List aG)++(qC lead).map aG.one++(qC (if g.1=0 then 0 else ah (g.1-1))).map aG.one++[aG.one (.int .i64 0)]) (fun g=>h0-g.1) ⟨0,bO _⟩
  ⟨aG.Sub.same,aG.Sub.same,aG.Sub.same,aG.Sub.same,aG.Sub.same,aG.Sub.same,db.1,db.2.1,db.2.2.1,aG.Sub.same,trivial⟩ (fun _=>rfl) ?_
 rintro⟨h,hh0⟩;dsimp only[aO,aP,List.map]at hh0|-;apply vn fO;dsimp only[aO,aP];by_cases h63:h=63
 ·rw[show decide ((-60:Int)<=2-(h:Int))=false by rw[fj];omega];exact vcp (mz 5) (by rw[if_pos (.inl O)];rfl)
 have hh2:h<=62:=O
 rw[show decide ((-60:Int)<=2-(h:Int))=true by rw[dx];omega];apply aA (mw 5);apply aA (mN 4);apply vn aJ;rw[show(2:Int)-(2-(h:Int))=(h:Int) by omega];apply aA (yt h);apply aA (bg ((4:Int):Rat) (mkRat 1 (2^h)) 64 64 (Fit.int O O) ((an0 h).mono O));rw[show((4:Int):Rat)*mkRat 1 (2^h)=ah h from rfl];apply vn (aZ Pv hpm (cS m));apply vn (av Ov);dsimp only[aO,aP];apply vn (al4 jq (show(1:Int).toNat=1 from rfl) hp1);dsimp only[aO,aP];apply vn (aU jq (show(rQ (p.drop 1)).length=p.length-1 by rw[aR,dA]));refine ao {k:Nat // k<=p.length-1} (fun g=>(.one (.int .i64 g.1):aG)::(qC (gJ (p.drop 1) (ah h) g.1)).map .one) (fun g=>p.length-1-g.1) ⟨0,bO _⟩ ⟨aG.Sub.same,pn⟩ (fun _=>rfl) ?_;rintro⟨k,hk⟩;dsimp only[aO,aP,List.map]at hk|-;apply vn ak;refine vs _ rfl ?_ ?_<;>intro h14
 ·have hkt:k<(p.drop 1).length:=by rw[dA];omega
  have hc:=js (hfp ((p.drop 1).getD k 0) (List.mem_of_mem_drop (bc (bX (l:=p.drop 1) hkt))));apply vn (aZ jq (bX hkt) (cS k));apply vn (bB ov (by decide) (by simp) (.inl rfl));apply aA (yD _);apply vn aC;apply aA (iC (ah h) (k+1) B (fun j hj=>C.frho h hh0 hh2 j O));apply aA (bg _ _ B B hc (C.frho h hh0 hh2 (k+1) O));apply aA (iU _ _ B (B+B) (hfs h hh0 hh2 k O) (hc.mul (C.frho h hh0 hh2 (k+1) O)));dsimp only[aO,aP];apply vn aC;dsimp only[aO,aP];exact aW rfl ⟨⟨k+1,O⟩,aQ.rfl,by show p.length-1-(k+1)<p.length-1-k;omega⟩
 have hkl:p.length-1=k:=O
 rw[hkl]at hlow hs;apply aA (iU _ _ B B (hfs h hh0 hh2 k O) (hfs h hh0 hh2 k O));apply aA (pN _ _ (B+B+1) B ((hfs h hh0 hh2 k O).add (hfs h hh0 hh2 k O)) hfl);apply vn iO;refine vs _ rfl ?_ ?_<;>intro h27
 ·have hle:=kM.1 h27
  have hheq:h=h0:=by
   rcases Nat.lt_or_ge h h0 with hl | hl
   ·exact(hlow h hl hle).elim
   ·omega
  subst hheq;replace hs:=hs hh2;replace hst:=hst hh2;replace hsi:=hsi hh2;have hqs:∀p∈q,p.length<1099511627776:=fun p hp=>by have:=(C.fq p hp).1;omega
  have hdm:=px (N:=1048576) q (fun p hp=>Nat.le_trans (C.fq p hp).1 hL);apply aA (Nw q m lead hqs);apply vn aC;rw[show((m+aa q:Nat):Int)+(m:Int)=((m+aa q+m:Nat):Int) by omega];dsimp only[aO,aP];generalize hse:m+aa q+m=s at *;refine ao {i:Nat // i<=i0} (fun g=>([.one (.exact (.slice none 0 0)),.one (.int .i64 0),.one (.exact (.slice none 0 0)),.one (.bool false),.one (.exact (.slice none 0 0)),.one (.exact (.slice none 0 0)),.one (.bool false),.one (.exact (.slice none 0 0)),.one (.int .i64 0),.one (eQ q),.one (.int .i64 m)]:List aG)++(qC lead).map aG.one++(qC (ah h)).map aG.one++[aG.one (.int .i64 ((s*2^g.1:Nat):Int))]) (fun g=>i0-g.1) ⟨0,bO _⟩ (show aQ _ _ by rw[Nat.pow_zero,Nat.mul_one];exact aQ.rfl) (fun _=>rfl) ?_;rintro⟨i,hi⟩;dsimp only[aO,aP,List.map]at hi|-;have hpw:s*2^i<=s*2^13:=Nat.mul_le_mul_left _ (Nat.pow_le_pow_right O O);have hs13:s<=1048704:=O
  have hsm:m<=s*2^i:=by
   have h1:1<=2^i:=Nat.pow_pos O;have h2:s*1<=s*2^i:=Nat.mul_le_mul_left _ h1;omega
  obtain⟨z,hz⟩:∃z,s*2^i=z:=⟨_,rfl⟩
  rw[hz]at hpw hsm|-;apply vn iO;dsimp only[aO,aP];by_cases hbig:4096<z
  ·rw[show decide ((z:Int)<=4096)=false by rw[fj];omega];refine vcp (mz 5) ?_
   have hie:i=i0:=by
    rcases Nat.lt_or_ge i i0 with hl | hl
    ·have:=(hst i hl).1;omega
    ·omega
   subst hie;rw[if_pos (.inr O)];rfl
  have hfm:=C.fm i hi O;have hfo:=C.fo i hi O;rw[hz]at hfm hfo;rw[show decide ((z:Int)<=4096)=true by rw[dx];omega];apply aA (mw 5);apply aA (ap6 q m lead (ah h) (z:Int) B L hfm hql hm hL hB h64);apply aA (pN _ _ B B hfo hfl);apply vn iO;refine vs _ rfl ?_ ?_<;>intro h36
  ·have hle2:=kM.1 h36
   have hieq:i=i0:=by
    rcases Nat.lt_or_ge i i0 with hl | hl
    ·exact((hst i hl).2 (by rw[eX,hz];exact hle2)).elim
    ·omega
   subst hieq;rw[if_neg O,hz];exact aK
  have hilt:i<i0:=by
   rcases Nat.lt_or_ge i i0 with hl | hl
   ·exact hl
   ·exfalso
    obtain rfl:i=i0:=O
    rw[eX,hz]at hsi;exact h36 (kM.2 (hsi.resolve_left hbig))
  apply vn mK;dsimp only[aO,aP]
  exact aW rfl ⟨⟨i+1,O⟩,aQ.of_eq (show[aG.one (.exact (.slice none 0 0)),.one (.int .i64 0),.one (.exact (.slice none 0 0)),.one (.bool false),.one (.exact (.slice none 0 0)),.one (.exact (.slice none 0 0)),.one (.bool false),.one (.exact (.slice none 0 0)),.one (.int .i64 0),.one (eQ q),.one (.int .i64 m)]++(qC lead).map aG.one++(qC (ah h)).map aG.one++[aG.one (.int .i64 ((z:Int)*2))]=_ by
   dsimp only;rw[Nat.pow_succ,<-Nat.mul_assoc,hz];rfl),by show i0-(i+1)<i0-i;omega⟩
 have hhlt:h<h0:=by
  rcases Nat.lt_or_ge h h0 with hl | hl
  ·exact hl
  ·exfalso
   obtain rfl:h=h0:=O
   exact h27 (kM.2 (hs hh2))
 apply vn aJ;dsimp only[aO,aP]
 exact aW rfl ⟨⟨h+1,O⟩,aQ.of_eq (show[aG.one (.int .i64 (2-(h:Int)-1)),.one (eQ q),.one (.int .i64 m)]++(qC lead).map aG.one++(qC (ah h)).map aG.one++[aG.one (.int .i64 0)]=_ by
  dsimp only;rw[if_neg O,Nat.add_sub_cancel,show(2:Int)-(h:Int)-1=2-((h+1:Nat):Int) by omega];rfl),by show h0-(h+1)<h0-h;omega⟩
def ac9(q:List (List Rat))(m:Nat)(lead:Rat)(B L h0 i0:Nat)(C:OD B q m lead L h0 (m+aa q+m) i0)(hql:q.length=m+1)(hm:m<=64)(hL:L<=1048576)(hB:B<=8589934592)(h64:64<=B)(hh:h0<=62)(hp1:1<=(q.getD m []).length)
  (hlow:∀h,h<h0->¬ks q m lead h) (hs:ks q m lead h0) (hst:∀i,i<i0->(m+aa q+m)*2^i<=4096/\¬eX q m lead (ah h0) ((m+aa q+m)*2^i)) (hsi:eX q m lead (ah h0) ((m+aa q+m)*2^i0)) (hlim:(m+aa q+m)*2^i0<=4096) (hi13:i0<=13) :
  aL prog 123 [yZ q m lead] (.ret [.agg (([eQ q,.int .i64 m]++qC lead)++qC (ah h0)++[.int .i64 (((m+aa q+m)*2^i0:Nat):Int)])]):=by
 have h:=Iu q m lead B L h0 i0 C hql hm hL hB h64 O hp1 hlow (fun _=>hs) (fun _=>hst) (fun _=>.inr hsi) hi13;rw[if_neg O]at h;exact h
open Go Go.Proofs Go.RowKit Tryz Ord
attribute [local go_sem] Oper.semAt_some
def bh6{P:Program}{W:World}{b T:Nat}{c0 c1 c2 c3 c4 c5 c6 c7 c8 u0 u1 u2 u3 u4 u5 u6 u7 u8:Value}(h:W.heap[b]?=some (.cells #[c0,c1,c2,c3,c4,c5,c6,c7,c8] T (0,0)))(o:∀u∈[u0,u1,u2,u3,u4,u5,u6,u7,u8],u.oneCell'=true) :
  (((store ⟨b,0,none⟩ u0).run P W).andThen fun _ w=>((store ⟨b,1,none⟩ u1).run P w).andThen fun _ w=>((store ⟨b,2,none⟩ u2).run P w).andThen fun _ w=>((store ⟨b,3,none⟩ u3).run P w).andThen fun _ w=>((store ⟨b,4,none⟩ u4).run P w).andThen fun _ w=>((store ⟨b,5,none⟩ u5).run P w).andThen fun _ w=>((store ⟨b,6,none⟩ u6).run P w).andThen fun _ w=>((store ⟨b,7,none⟩ u7).run P w).andThen fun _ w=>(store ⟨b,8,none⟩ u8).run P w)=.ok () (W.setRow b #[u0,u1,u2,u3,u4,u5,u6,u7,u8]):=by
 have s0:(store ⟨b,0,none⟩ u0).run P W=.ok () (W.setRow b #[u0,c1,c2,c3,c4,c5,c6,c7,c8]):=by
  rw[gE h (by simp) (o _ (by simp))];rfl
 have s1:(store ⟨b,1,none⟩ u1).run P (W.setRow b #[u0,c1,c2,c3,c4,c5,c6,c7,c8])=.ok () (W.setRow b #[u0,u1,c2,c3,c4,c5,c6,c7,c8]):=by
  rw[gE (cJ W b _ _ T (0,0) h) (by simp) (o _ (by simp)),jF];rfl
 have s2:(store ⟨b,2,none⟩ u2).run P (W.setRow b #[u0,u1,c2,c3,c4,c5,c6,c7,c8])=.ok () (W.setRow b #[u0,u1,u2,c3,c4,c5,c6,c7,c8]):=by
  rw[gE (cJ W b _ _ T (0,0) h) (by simp) (o _ (by simp)),jF];rfl
 have s3:(store ⟨b,3,none⟩ u3).run P (W.setRow b #[u0,u1,u2,c3,c4,c5,c6,c7,c8])=.ok () (W.setRow b #[u0,u1,u2,u3,c4,c5,c6,c7,c8]):=by
  rw[gE (cJ W b _ _ T (0,0) h) (by simp) (o _ (by simp)),jF];rfl
 have s4:(store ⟨b,4,none⟩ u4).run P (W.setRow b #[u0,u1,u2,u3,c4,c5,c6,c7,c8])=.ok () (W.setRow b #[u0,u1,u2,u3,u4,c5,c6,c7,c8]):=by
  rw[gE (cJ W b _ _ T (0,0) h) (by simp) (o _ (by simp)),jF];rfl
 have s5:(store ⟨b,5,none⟩ u5).run P (W.setRow b #[u0,u1,u2,u3,u4,c5,c6,c7,c8])=.ok () (W.setRow b #[u0,u1,u2,u3,u4,u5,c6,c7,c8]):=by
  rw[gE (cJ W b _ _ T (0,0) h) (by simp) (o _ (by simp)),jF];rfl
 have s6:(store ⟨b,6,none⟩ u6).run P (W.setRow b #[u0,u1,u2,u3,u4,u5,c6,c7,c8])=.ok () (W.setRow b #[u0,u1,u2,u3,u4,u5,u6,c7,c8]):=by
  rw[gE (cJ W b _ _ T (0,0) h) (by simp) (o _ (by simp)),jF];rfl
 have s7:(store ⟨b,7,none⟩ u7).run P (W.setRow b #[u0,u1,u2,u3,u4,u5,u6,c7,c8])=.ok () (W.setRow b #[u0,u1,u2,u3,u4,u5,u6,u7,c8]):=by
  rw[gE (cJ W b _ _ T (0,0) h) (by simp) (o _ (by simp)),jF];rfl
 have s8:(store ⟨b,8,none⟩ u8).run P (W.setRow b #[u0,u1,u2,u3,u4,u5,u6,u7,c8])=.ok () (W.setRow b #[u0,u1,u2,u3,u4,u5,u6,u7,u8]):=by
  rw[gE (cJ W b _ _ T (0,0) h) (by simp) (o _ (by simp)),jF];rfl
 rw[s0,dK,s1,dK,s2,dK,s3,dK,s4,dK,s5,dK,s6,dK,s7,dK,s8]
def bx2{M:Nat->Prop}{w:World}{a b c d e f g h i:aE}{vs:List Value}(hr:ab M w [a,b,c,d,e,f,g,h,i] vs):∃u0 u1 u2 u3 u4 u5 u6 u7 u8,vs=[u0,u1,u2,u3,u4,u5,u6,u7,u8]:=by
 have hl:=hr.length
 match vs,hl with
 | [u0,u1,u2,u3,u4,u5,u6,u7,u8],_=>exact⟨_,_,_,_,_,_,_,_,_,rfl⟩
def aB0{M:Nat->Prop}{w:World}{a b c d e:aE}{vs:List Value}(hr:ab M w [a,b,c,d,e] vs):∃u0 u1 u2 u3 u4,vs=[u0,u1,u2,u3,u4]:=by
 have hl:=hr.length
 match vs,hl with
 | [u0,u1,u2,u3,u4],_=>exact⟨_,_,_,_,_,rfl⟩
def bp3{M:Nat->Prop}{w:World}{cs:List aE}{vs:List Value}(h:cG M w [.agg cs] vs):∃us,pack vs=.agg us.toArray/\ab M w cs us:=by
 match vs,h with
 | [v],h=>
   obtain⟨us,rfl,hus⟩:=h.1;exact⟨us,rfl,hus⟩
 | [],h=>exact h.elim
 | _::_::_,h=>exact h.2.elim
abbrev vb(q:List (List Rat))(m:Nat)(lead aB:Rat)(st:Int):List aE:=([eQ q,.int .i64 m]++qC lead)++qC aB++[.int .i64 st]
def Wh(M:Nat->Prop)(w:World)(hM:cX M w)(e:List (List Rat))(c:Rat)(q:List (List Rat))(m:Nat)(lead aB:Rat)(st:Int)
  (hat:aL prog 100 [.one (eQ e),qT c] (.ret [yZ q m lead])) (hre:aL prog 123 [yZ q m lead] (.ret [.agg (vb q m lead aB st)]))
  (b0 b1 A:Nat) (ev u0 u1 u2:Value) (T0 T1:Nat) (z0 z1 z2 z3 z4 z5 z6 z7 z8:Value) (h0:w.heap[b0]?=some (.cells #[ev] T0 (0,0))) (h1:w.heap[b1]?=some (.cells #[u0,u1,u2] T1 (0,0))) (hA:w.heap[A]?=some (.cells #[z0,z1,z2,z3,z4,z5,z6,z7,z8] 185 (0,0)))
  (hMA:M A) (he:(eQ e).rep M w ev) (hc:ab M w (qC c) [u0,u1,u2]) :
  Calls prog 122 #[.pointer (some ⟨b0,0,none⟩),.pointer (some ⟨b1,0,none⟩),.pointer (some ⟨A,0,none⟩)] w fun e w'=>e=.returned (.tuple #[])/\w.grownBy w' (some A) /\
   ∃y0 y1 y2 y3 y4 y5 y6 y7 y8,w'.heap[A]?=some (.cells #[y0,y1,y2,y3,y4,y5,y6,y7,y8] 185 (0,0))/\ab M w' (vb q m lead aB st) [y0,y1,y2,y3,y4,y5,y6,y7,y8]:=by
 refine iE func122 rfl ?_;simp only[ntmps122,dW,List.length_cons,bq,Nat.reduceAdd,Nat.reduceSub,dw,dv,du,dz,List.nil_append,List.cons_append];have c0:w.cell? ⟨b0,0,none⟩=some ev:=aD h0 rfl;have d0:w.cell? ⟨b1,0,none⟩=some u0:=aD h1 rfl;have d1:w.cell? ⟨b1,1,none⟩=some u1:=aD h1 rfl;have d2:w.cell? ⟨b1,2,none⟩=some u2:=aD h1 rfl
 have k1:Calls prog 100 #[ev,.agg #[u0,u1,u2]] w fun e w'=>Below w.heap.size w w'/\∃s0 s1 s2 s3 s4,e=.returned (.agg #[s0,s1,s2,s3,s4])/\ab M w' ([eQ q,.int .i64 m]++qC lead) [s0,s1,s2,s3,s4]:=by
  refine(hat.2 M w [ev,.agg #[u0,u1,u2]] hM ⟨he,⟨[u0,u1,u2],rfl,hc⟩,trivial⟩).mono ?_;rintro e w' ⟨hb,vs,rfl,hvs⟩;obtain⟨us,e1,hus⟩:=bp3 hvs;obtain⟨s0,s1,s2,s3,s4,rfl⟩:=aB0 hus;exact⟨hb,s0,s1,s2,s3,s4,by rw[e1],hus⟩
 obtain⟨la,hla⟩:∃la,w.heap.size=la:=⟨_,rfl⟩
 have hAl:A<w.heap.size:=hM.1 A hMA
 go_wp2_with (go_at_call 100;refine k1.mono ?_;clear k1;rintro e w1 ⟨hb1,s0,s1,s2,s3,s4,rfl,hs⟩)
 have hM1:cX M w1:=⟨fun b hb=>Nat.lt_of_lt_of_le (hM.1 b hb) hb1.size,hM.2.below rfl hb1⟩
 refine(hre.2 M w1 [.agg #[s0,s1,s2,s3,s4]] hM1 ⟨⟨_,rfl,hs⟩,trivial⟩).mono ?_;rintro e w2 ⟨hb2,vs,rfl,hvs⟩;obtain⟨us,e1,hus⟩:=bp3 hvs;obtain⟨y0,y1,y2,y3,y4,y5,y6,y7,y8,rfl⟩:=bx2 hus;rw[e1];have hA2:w2.heap[A]?=some (.cells #[z0,z1,z2,z3,z4,z5,z6,z7,z8] 185 (0,0)):=(hb2.block A (Nat.lt_of_lt_of_le hAl hb1.size)).trans ((hb1.block A hAl).trans hA)
 go_wp2
 rw[bh6 hA2 hus.one]
 have hg:w.grownBy (w2.setRow A #[y0,y1,y2,y3,y4,y5,y6,y7,y8]) (some A):=by
  have hb:=hb1.trans (hb2.mono hb1.size);refine⟨hb.os,hb.tape,hb.output,by have:=hb.size;simpa[World.setRow]using this,fun k hk hne=>?_⟩;rw[dC _ _ _ _ (fun e=>hne (by rw[e]))];exact hb.block k hk
 have hk:bP M w2 M (w2.setRow A #[y0,y1,y2,y3,y4,y5,y6,y7,y8]):=fun b o hb ho _=>⟨hb,by rw[dC _ _ _ _ (fun e=>hb (by rw[e];exact hMA))];exact ho⟩
 have hself:(w2.setRow A #[y0,y1,y2,y3,y4,y5,y6,y7,y8]).heap[A]?=some (.cells #[y0,y1,y2,y3,y4,y5,y6,y7,y8] 185 (0,0)):=cJ _ _ _ _ _ _ hA2;generalize w2.setRow A #[y0,y1,y2,y3,y4,y5,y6,y7,y8]=w3 at *
 go_wp2
 refine bodyPost_end (Bt rfl _ _ _) rfl ?_;exact⟨rfl,hg,y0,y1,y2,y3,y4,y5,y6,y7,y8,hself,hus.mono hk⟩
def RR(p:Addr)(w:World) :
  CallsD prog 201 #[.pointer (some p)] .returning w fun e u' w'=>e=.returned (.tuple #[])/\u'=.returning/\w'=w:=by
 refine callsD_of_wpS func201 rfl fun c₀ cs hu=>?_;apply wpS_seq;apply wpS_region;simp[wpOpsS,go_sem,recoverD,hu,ntmps201,Exit.thenS];apply wpS_seq;apply wpS_region;simp[wpOpsS,go_sem,Exit.thenS];refine wpS_cond (t:=false) (by simp[Act.eval,Array.replicate]) ?_;simp only[dH,bf];refine wpS_of_wp (wp_skip ?_);cases c₀
 simp_all[bodyPostS,results,show f201.results=#[]from rfl]
def IZ(g:FuncId)(caps:Array Value)(w:World)(Pw:World->Prop)(eg:∀args w,(callFunc g args).run prog w=.ok (.enter g args) w)
  (h:Calls prog g caps (w.alloc (.cells #[.int .i64 0] 55)) fun e w'=>e=.returned (.tuple #[])/\w'.heap[w.heap.size]?=some (.cells #[.int .i64 0] 55 (0,0))/\Pw w') :
  Calls prog 121 #[.func (.func g) #[] caps] w fun e w'=>e=.returned (.int .i64 0)/\∃w1,Pw w1/\w'=w1.setRow w.heap.size #[.int .i64 0]/\w1.heap[w.heap.size]?=some (.cells #[.int .i64 0] 55 (0,0)):=by
 have hmf:∀(fn:Fn)(first cap:Array Value)(w:World),(Instr.makeFunc fn first cap).run prog w=.ok (.func fn first cap) w:=fun _ _ _ _=>rfl
 go_enter_defers func121,ntmps121
 go_wp2
 refine h.mono ?_;rintro e w1 ⟨rfl,hb,hP⟩;have cb:w1.cell? ⟨w.heap.size,0,none⟩=some (.int .i64 0):=aD hb rfl;have fb:w1.frozen? ⟨w.heap.size,0,none⟩=false:=by simp[World.frozen?,hb]
 go_wp2
 refine leaves_cons (f:=201) (args:=#[.pointer (some ⟨w.heap.size,0,none⟩)]) (by simp) (by simp[go_sem]) ?_;refine(RR ⟨w.heap.size,0,none⟩ _).mono ?_;rintro e u' w'' ⟨rfl,rfl,rfl⟩;rw[tn w1 w.heap.size 0 _ _ _ _ hb,show(#[Value.int .i64 0].setIfInBounds 0 (.int .i64 0))=#[Value.int .i64 0]from rfl];have hb2:(w1.setRow w.heap.size #[Value.int .i64 0]).heap[w.heap.size]?=some (.cells #[.int .i64 0] 55 (0,0)):=cJ _ _ _ _ _ _ hb;have cb2:(w1.setRow w.heap.size #[Value.int .i64 0]).cell? ⟨w.heap.size,0,none⟩=some (.int .i64 0):=aD hb2 rfl;simp[Leaves,settle,results,show f121.results=#[.cell 2 55]from rfl,go_sem,cb2];exact⟨w1,hP,rfl,hb⟩
def YT(M:Nat->Prop)(w:World)(hM:cX M w)(e:List (List Rat))(c:Rat)(q:List (List Rat))(m:Nat)(lead aB:Rat)(st:Int)
  (hce:aL prog 19 [.one (eQ e)] (.ret [.one (.int .i64 0)])) (hrg:aL prog 97 [.one (eQ e),qT c] (.ret [.one (.bool true)]))
  (hat:aL prog 100 [.one (eQ e),qT c] (.ret [yZ q m lead])) (hre:aL prog 123 [yZ q m lead] (.ret [.agg (vb q m lead aB st)]))
  (ev u0 u1 u2:Value) (he:(eQ e).rep M w ev) (hc:ab M w (qC c) [u0,u1,u2]) :
  Calls prog 41 #[ev,.agg #[u0,u1,u2]] w fun e w'=>Below w.heap.size w w'/\∃y0 y1 y2,e=.returned (.tuple #[.agg #[y0,y1,y2],.int .i64 st,.int .i64 0])/\ab M w' (qC aB) [y0,y1,y2]:=by
 have hmf:∀(fn:Fn)(first cap:Array Value)(w:World),(Instr.makeFunc fn first cap).run prog w=.ok (.func fn first cap) w:=fun _ _ _ _=>rfl;obtain⟨n0,hn0⟩:∃n0,w.heap.size=n0:=⟨_,rfl⟩
 obtain⟨o0,o1,o2⟩:u0.oneCell'=true/\u1.oneCell'=true/\u2.oneCell'=true:=by have:=hc.one;exact⟨this _ (by simp),this _ (by simp),this _ (by simp)⟩
 refine iE func41 rfl ?_;simp only[ntmps41,dW,List.length_cons,bq,Nat.reduceAdd,Nat.reduceSub,dw,dv,du,dz,List.nil_append,List.cons_append]
 obtain⟨ea,ecap,rfl,_⟩:∃ea ecap,ev=.slice ea e.length ecap/\True:=by
  have he':=he;obtain⟨ea,ecap,rfl,_⟩:=he';exact⟨ea,ecap,by rw[aR],trivial⟩
 obtain⟨Wa,hWa⟩:∃Wa,(((w.alloc (.cells #[.slice ea e.length ecap] 32)).alloc (.cells #[u0,u1,u2] 39)).alloc (.cells #[.slice none 0 0,.bool false,.slice none 0 0] 39))=Wa:=⟨_,rfl⟩
 have hsa:Wa.heap.size=n0+3:=by rw[<-hWa];simp[hn0]
 have hEa:Wa.heap[n0]?=some (.cells #[.slice ea e.length ecap] 32 (0,0)):=by rw[<-hWa,bM _ _ _ (by simp;omega),bM _ _ _ (by simp;omega),<-hn0];exact bG w _
 have hCa:Wa.heap[n0+1]?=some (.cells #[u0,u1,u2] 39 (0,0)):=by
  rw[<-hWa,bM _ _ _ (by simp;omega)];have:=bG (w.alloc (.cells #[.slice ea e.length ecap] 32)) (.cells #[u0,u1,u2] 39);rw[bL,hn0]at this;exact this
 have hRa:Wa.heap[n0+2]?=some (.cells #[.slice none 0 0,.bool false,.slice none 0 0] 39 (0,0)):=by
  rw[<-hWa];have:=bG ((w.alloc (.cells #[.slice ea e.length ecap] 32)).alloc (.cells #[u0,u1,u2] 39)) (.cells #[.slice none 0 0,.bool false,.slice none 0 0] 39);rw[bL,bL,hn0]at this;exact this
 have hBa:Below w.heap.size w Wa:=by
  rw[<-hWa];exact(((cF _ w).alloc O _).alloc (by simp) _).alloc (by simp;omega) _
 have hka:bP M w M Wa:=bP.below hBa;have hMa:cX M Wa:=⟨fun b hb=>Nat.lt_of_lt_of_le (hM.1 b hb) hBa.size,hM.2.gj hka⟩
 have he0:=he;have hc0:=hc;replace he:=aE.mono _ hka he;replace hc:=hc.mono hka;have cE:Wa.cell? ⟨n0,0,none⟩=some (.slice ea e.length ecap):=aD hEa rfl
 have k1:Calls prog 19 #[.slice ea e.length ecap] Wa fun r w'=>Below Wa.heap.size Wa w'/\r=.returned (.int .i64 0):=by
  refine(hce.2 M Wa [.slice ea e.length ecap] hMa ⟨he,trivial⟩).mono ?_;rintro r w' ⟨hb,vs,rfl,hvs⟩;obtain⟨v,e1,hr⟩:=VR hvs;rw[hr.1]at e1;exact⟨hb,by rw[e1]⟩
 have k2:∀w1,Below Wa.heap.size Wa w1->Calls prog 97 #[.slice ea e.length ecap,.agg #[u0,u1,u2]] w1 fun r w'=>Below w1.heap.size w1 w'/\r=.returned (.bool true):=by
  intro w1 hb;refine(hrg.2 M w1 [.slice ea e.length ecap,.agg #[u0,u1,u2]] ⟨fun b h=>Nat.lt_of_lt_of_le (hMa.1 b h) hb.size,hMa.2.below rfl hb⟩ ⟨aE.mono _ (bP.below hb) he,⟨_,rfl,hc.mono (bP.below hb)⟩,trivial⟩).mono ?_;rintro r w' ⟨hb,vs,rfl,hvs⟩;obtain⟨v,e1,hr⟩:=VR hvs;rw[hr.1]at e1;exact⟨hb,by rw[e1]⟩
 go_wp2_with (first | (go_at_call 19;refine k1.mono ?_;clear k1;rintro r w1 ⟨hb1,rfl⟩;have cE1:w1.cell? ⟨n0,0,none⟩=some (.slice ea e.length ecap):=aD ((hb1.block n0 O).trans hEa) rfl;have cC0:w1.cell? ⟨n0+1,0,none⟩=some u0:=aD ((hb1.block (n0+1) O).trans hCa) rfl;have cC1:w1.cell? ⟨n0+1,1,none⟩=some u1:=aD ((hb1.block (n0+1) O).trans hCa) rfl;have cC2:w1.cell? ⟨n0+1,2,none⟩=some u2:=aD ((hb1.block (n0+1) O).trans hCa) rfl) | (go_at_call 97;refine(k2 _ hb1).mono ?_;clear k2;rintro r w2 ⟨hb2,rfl⟩))
 obtain⟨A,hA⟩:∃A,w2.heap.size=A:=⟨_,rfl⟩
 obtain⟨W3,hW3⟩:∃W3,w2.alloc (.cells #[.slice none 0 0,.int .i64 0,.slice none 0 0,.bool false,.slice none 0 0,.slice none 0 0,.bool false,.slice none 0 0,.int .i64 0] 185)=W3:=⟨_,rfl⟩
 have hb2':=hb1.trans (hb2.mono hb1.size);have hs2:n0+3<=A:=by have:=hb2'.size;omega
 have hs3:W3.heap.size=A+1:=by rw[<-hW3,bL,hA]
 have hA3:W3.heap[A]?=some (.cells #[.slice none 0 0,.int .i64 0,.slice none 0 0,.bool false,.slice none 0 0,.slice none 0 0,.bool false,.slice none 0 0,.int .i64 0] 185 (0,0)):=by rw[<-hW3,<-hA];exact bG w2 _
 have hB3:Below Wa.heap.size Wa W3:=by rw[<-hW3];exact hb2'.alloc O _
 rw[hA,hW3];obtain⟨W4,hW4⟩:∃W4,W3.alloc (.cells #[.int .i64 0] 55)=W4:=⟨_,rfl⟩
 have hB4:Below Wa.heap.size Wa W4:=by rw[<-hW4];exact hB3.alloc O _
 have hs4:W4.heap.size=A+2:=by rw[<-hW4,bL,hs3]
 have hA4:W4.heap[A]?=some (.cells #[.slice none 0 0,.int .i64 0,.slice none 0 0,.bool false,.slice none 0 0,.slice none 0 0,.bool false,.slice none 0 0,.int .i64 0] 185 (0,0)):=by rw[<-hW4,bM _ _ _ O];exact hA3
 have hX4:W4.heap[W3.heap.size]?=some (.cells #[.int .i64 0] 55 (0,0)):=by rw[<-hW4];exact bG W3 _
 have hk4:bP M w (fun b=>M b\/b=A\/b=n0+2) W4:=fun b o hb ho _=>by
  have hlt:=(cK.1 ho).1;have h3:b<Wa.heap.size:=O
  exact⟨fun h=>h.elim hb (fun h=>O),(hB4.block b h3).trans ((hBa.block b hlt).trans ho)⟩
 have hM4:cX (fun b=>M b\/b=A\/b=n0+2) W4:=⟨fun b h=>h.elim (fun h=>Nat.lt_of_lt_of_le (hMa.1 b h) hB4.size) (fun h=>O),hM.2.gj hk4⟩
 have hr1:=Wh (fun b=>M b\/b=A\/b=n0+2) W4 hM4 e c q m lead aB st hat hre n0 (n0+1) A (.slice ea e.length ecap) u0 u1 u2 _ _ _ _ _ _ _ _ _ _ _ ((hB4.block _ O).trans hEa) ((hB4.block _ O).trans hCa) hA4 (.inr (.inl rfl)) (aE.mono _ hk4 he0) (hc0.mono hk4)
 have hc1:=IZ 122 #[.pointer (some ⟨n0,0,none⟩),.pointer (some ⟨n0+1,0,none⟩),.pointer (some ⟨A,0,none⟩)] W3 (fun w'=>W4.grownBy w' (some A)/\∃y0 y1 y2 y3 y4 y5 y6 y7 y8,w'.heap[A]?=some (.cells #[y0,y1,y2,y3,y4,y5,y6,y7,y8] 185 (0,0))/\ab (fun b=>M b\/b=A\/b=n0+2) w' (vb q m lead aB st) [y0,y1,y2,y3,y4,y5,y6,y7,y8]) (bJ (by kernel_rfl)) (by
  rw[hW4];refine hr1.mono ?_;rintro r w' ⟨rfl,hg,hy⟩;exact⟨rfl,(hg.block _ O (fun e=>by simp only[aI]at e;omega)).trans hX4,hg,hy⟩)
 refine hc1.mono ?_;clear hc1 hr1;rintro r w7 ⟨rfl,w6,⟨hg,y0,y1,y2,y3,y4,y5,y6,y7,y8,hA6,hy⟩,rfl,hX6⟩;obtain⟨W7,hW7⟩:∃W7,w6.setRow W3.heap.size #[.int .i64 0]=W7:=⟨_,rfl⟩
 have h7:∀j,j≠A+1->W7.heap[j]?=w6.heap[j]?:=fun j hj=>by rw[<-hW7,dC _ _ _ _ O]
 have hA7:W7.heap[A]?=some (.cells #[y0,y1,y2,y3,y4,y5,y6,y7,y8] 185 (0,0)):=(h7 A O).trans hA6;have hs7:W7.heap.size=w6.heap.size:=by rw[<-hW7];simp[World.setRow]
 have ho7:W7.os=w6.os/\W7.tape=w6.tape/\W7.output=w6.output:=by rw[<-hW7];exact⟨rfl,rfl,rfl⟩
 rw[hW7]
 have hB7:Below Wa.heap.size Wa W7:=by
  refine⟨by rw[ho7.1,hg.os,hB4.os],by rw[ho7.2.1,hg.tape,hB4.tape],by rw[ho7.2.2,hg.output,hB4.output],by have:=hg.size;omega,fun k hk=>?_⟩;rw[h7 k O,hg.block k O (fun e=>by simp only[aI]at e;omega),hB4.block k hk]
 have hR7:W7.heap[n0+2]?=some (.cells #[.slice none 0 0,.bool false,.slice none 0 0] 39 (0,0)):=(hB7.block _ O).trans hRa;have g5:W7.cell? ⟨A,5,none⟩=some y5:=aD hA7 rfl;have g6:W7.cell? ⟨A,6,none⟩=some y6:=aD hA7 rfl;have g7:W7.cell? ⟨A,7,none⟩=some y7:=aD hA7 rfl;have g8:W7.cell? ⟨A,8,none⟩=some (.int .i64 st):=by rw[<-(show y8=_ from hy.2.2.2.2.2.2.2.2.1.1)];exact aD hA7 rfl
 have p5:y5.oneCell'=true:=hy.one _ (by simp);have p6:y6.oneCell'=true:=hy.one _ (by simp);have p7:y7.oneCell'=true:=hy.one _ (by simp);have r0:W7.cell? ⟨n0+2,0,none⟩=some (.slice none 0 0):=aD hR7 rfl;have r1:W7.cell? ⟨n0+2,1,none⟩=some (.bool false):=aD hR7 rfl;have r2:W7.cell? ⟨n0+2,2,none⟩=some (.slice none 0 0):=aD hR7 rfl;have fr:∀j,W7.frozen? ⟨n0+2,j,none⟩=false:=fun j=>by simp[World.frozen?,hR7]
 have st3:(((store ⟨n0+1+1,0,none⟩ y5).run prog W7.drew).andThen fun _ w'=>((store ⟨n0+1+1,1,none⟩ y6).run prog w').andThen fun _ w'=>(store ⟨n0+1+1,2,none⟩ y7).run prog w')=.ok () (W7.drew.setRow (n0+2) #[y5,y6,y7]):=ur (W:=W7.drew) hR7 p5 p6 p7;have hd:W7.drew.heap=W7.heap:=rfl
 have g8':(W7.drew.setRow (n0+2) #[y5,y6,y7]).cell? ⟨A,8,none⟩=some (.int .i64 st):=by
  rw[wZ (w:=W7.drew) (a:=⟨A,8,none⟩) (dC _ _ _ _ (show A≠n0+2 by omega))];exact g8
 go_wp2
 go_region
 have hs9:(W7.drew.setRow (n0+2) #[y5,y6,y7]).heap[n0+2]?=some (.cells #[y5,y6,y7] 39 (0,0)):=cJ _ _ _ _ _ _ hR7;have hb9:Below w.heap.size w (W7.drew.setRow (n0+2) #[y5,y6,y7]):=below_setRow (hBa.trans (hB7.drew.mono hBa.size)) _
 have hk9:bP (fun b=>M b\/b=A\/b=n0+2) w6 M (W7.drew.setRow (n0+2) #[y5,y6,y7]):=fun b o hb ho _=>by
  refine⟨fun h=>hb (.inl h),?_⟩;rw[dC _ _ _ _ (fun e=>hb (.inr (.inr e)))];show W7.heap[b]?=some o;by_cases hbx:b=A+1
  ·subst hbx;rw[hs3]at hX6 hW7;rw[hX6]at ho;rw[<-ho,<-hW7];exact cJ _ _ _ _ _ _ hX6
  ·rw[h7 b hbx];exact ho
 generalize hW9:W7.drew.setRow (n0+2) #[y5,y6,y7]=W9 at *;have t0:W9.cell? ⟨n0+2,0,none⟩=some y5:=aD hs9 rfl;have t1:W9.cell? ⟨n0+2,1,none⟩=some y6:=aD hs9 rfl;have t2:W9.cell? ⟨n0+2,2,none⟩=some y7:=aD hs9 rfl
 go_wp2
 have hy3:ab M W9 (qC aB) [y5,y6,y7]:=(show ab (fun b=>M b\/b=A\/b=n0+2) w6 (qC aB) [y5,y6,y7]from⟨hy.2.2.2.2.2.1,hy.2.2.2.2.2.2.1,hy.2.2.2.2.2.2.2.1,trivial⟩).mono hk9;clear hy hk9;simp[bodyPost,results,show f41.results=#[.cell 4 39,.tmp 5,.tmp 6]from rfl,go_sem,t0,t1,t2];exact⟨hb9,y5,y6,y7,⟨rfl,rfl,rfl⟩,hy3⟩
def ZA{M:Nat->Prop}{w:World}{a b c:aE}{vs:List Value}(hr:ab M w [a,b,c] vs):∃u0 u1 u2,vs=[u0,u1,u2]:=by
 have hl:=hr.length
 match vs,hl with
 | [u0,u1,u2],_=>exact⟨_,_,_,rfl⟩
def OX(e:List (List Rat))(c:Rat)(q:List (List Rat))(m:Nat)(lead aB:Rat)(st:Int)
  (hce:aL prog 19 [.one (eQ e)] (.ret [.one (.int .i64 0)])) (hrg:aL prog 97 [.one (eQ e),qT c] (.ret [.one (.bool true)]))
  (hat:aL prog 100 [.one (eQ e),qT c] (.ret [yZ q m lead])) (hre:aL prog 123 [yZ q m lead] (.ret [.agg (vb q m lead aB st)])) :
  aL prog 41 [.one (eQ e),qT c] (.ret [qT aB,.one (.int .i64 st),.one (.int .i64 0)]):=by
 refine⟨bJ (by kernel_rfl),fun M w vs hM hv=>?_⟩
 match vs,hv with
 | [v,u],hv=>
   obtain⟨us,rfl,hus⟩:=hv.2.1;obtain⟨u0,u1,u2,rfl⟩:=ZA hus;refine(YT M w hM e c q m lead aB st hce hrg hat hre v u0 u1 u2 hv.1 hus).mono ?_;rintro r w' ⟨hb,y0,y1,y2,rfl,hy⟩;exact⟨hb,[.agg #[y0,y1,y2],.int .i64 st,.int .i64 0],rfl,⟨_,rfl,hy⟩,⟨rfl,rfl⟩,⟨rfl,rfl⟩,trivial⟩
 | [],hv=>exact hv.elim
 | [_],hv=>exact hv.2.elim
 | _::_::_::_,hv=>exact hv.2.2.elim
end Go.Sy
namespace Go.Sy
open Go Go.Proofs Tryz Ord
def br7:Tr:=No 18 0 1 0 5 8 9 5 3 56 (.ret [(G5 2)])
def ai8:aM prog f53 bZ [.v none,.v none]=br7:=by kernel_rfl
def qh:Tr:=hx163Q 
def aH1:Tr:=eH 21 0 0 3 48 (aH 22 0 (uP 90 4 0 1 2 52 39 9 (.need (.prim [(W 23 0),(.one (.c (.k (.string ⟨#[52]⟩))))] none) (.binOp .eql 9 (tT 53) (.const (.string ⟨#[52]⟩)) 9) 4 false (aH 24 0 (eH 5 0 4 3 57 (bI 25)) qh))) qh)
def aB6:Tr:=dB 15 3 39 39 (uP 90 16 0 1 2 40 39 9 (.need (.prim [(W 17 0),(.one (.c (.k (.string ⟨#[49,47,49,56,48]⟩))))] none) (.binOp .eql 9 (tT 41) (.const (.string ⟨#[49,47,49,56,48]⟩)) 9) 4 false (aH 18 0 (oZ 1 0 5 40 45 (dB 19 3 39 46 (uP 35 20 0 1 2 47 39 3 aH1))) qh)))
def av8:Tr:=aH 10 0 (oZ 1 0 3 40 31 (dB 11 3 39 32 (uP 90 12 0 1 2 33 39 9 (.need (.prim [(W 13 0),(.one (.c (.k (.string ⟨#[49,47,54]⟩))))] none) (.binOp .eql 9 (tT 34) (.const (.string ⟨#[49,47,54]⟩)) 9) 4 false (aH 14 0 (oZ 1 0 6 40 38 aB6) qh))))) qh
def aS1:Tr:=dV 41 [(W 3 0),(.agg [tN,(tE (.bool false)),tN])] [(some 3),none,none] [13,14] [32,39] 84 false (eH 2 0 0 55 19 (aH 7 0 (eH 6 0 0 55 22 (aH 8 0 (au 1 0 26 40 (eH 9 0 7 3 27 av8)) qh)) qh))
def bc6:Tr:=ab1 3 (.need (.call 26 [(G5 0),(WK 7)] [none,none]) (.call ⟨.value (.func 26),#[(tT 7),(.const (I3 7))],#[42,3]⟩) 66 false (ab1 1 aS1))
def Yo:aM prog f16 bZ []=bc6:=by kernel_rfl
def Pg(k:Nat)(n:Int)(hk:k<256:=by omega)(h1:-9223372036854775808<=n:=by omega)(h2:n<9223372036854775808:=by omega):aL prog 53 [(.one (.int .u8 k):aG),(.one (.int .i64 n):aG)] (.ret [fT (je k n).1 0 (je k n).2.1]):=by
 refine bw func53 ai8 ?_;apply aA (MZ k n hk h1 h2);exact aK
instance fitDec (B:Nat) (q:Rat):Decidable (Fit B q):=inferInstanceAs (Decidable (_/\_))
instance bdDec (D S:Nat) (q:Rat):Decidable (Bd D S q):=inferInstanceAs (Decidable (_/\_))
def k3:je 3 0=([[0,-1],[],[1]],[1,0],0):=by decide +kernel
def k1':je 1 0=([[-1],[1]],[1],0):=by decide +kernel
def mv3:aV [[0,-1],[],[1]] 0=[[0,-1],[],[1]]:=by decide +kernel
def mv1:aV [[-1],[1]] 0=[[-1],[1]]:=by decide +kernel
def ld3:aF [[0,-1],[],[1]] 0=1:=by decide +kernel
def ld1:aF [[-1],[1]] 0=1:=by decide +kernel
def cf3:DN [[0,-1],[],[1]] 0 [1,0] 7=([1,0,0,1/6,0,0,1/180],0):=by decide +kernel
def au6:gm 64 [[0,-1],[],[1]] 2 1 [1,0] 7 where
 flead:=by decide +kernel
 fy:=by decide +kernel
 fq:=by decide +kernel
 ffall:=fun n i hn hi z hz j hj=>by
  have h:=mX (z:=z) (N:=9) j O;have h2:9^j<=9^2:=Nat.pow_le_pow_right O O;exact Fit.int O O
 ffac:=by decide +kernel
 fa:=by decide +kernel
 fx:=by
  have h:∀n,n<7->∀i,i<3->∀k,k<3->Fit 64 (inner (([[0,-1],[],[1]]:List (List Rat)).getD i []) (aN [[0,-1],[],[1]] 2 1 [1,0] n) 2 n i (outer [[0,-1],[],[1]] (aN [[0,-1],[],[1]] 2 1 [1,0] n) 2 n i) k):=by decide +kernel
  intro n i k hn _ hi hk;have hl:∀i,i<3->(([[0,-1],[],[1]]:List (List Rat)).getD i []).length<=2:=by decide
  have:=hl i hi;exact h n hn i hi k O
def bv9:OD 64 [[-1],[1]] 1 1 1 0 2 1 where
 flead:=by decide +kernel
 fq:=by decide +kernel
 frho:=by decide +kernel
 fs:=by decide +kernel
 fm:=fun i hi _=>by
  have h1:∀i,i<=1->∀j,j<=3->Fit 64 (((((2*2^i:Nat):Int)-(1:Nat)+1:Int):Rat)^j):=by decide +kernel
  have h2:∀i,i<=1->∀j,j<2->∀k,k<=(([[-1],[1]]:List (List Rat)).getD j []).length->Fit 64 (gR (([[-1],[1]]:List (List Rat)).getD j []) 1 j (ah 0) ((((2*2^i:Nat):Int)-(1:Nat)+1:Int):Rat) (bC [[-1],[1]] 1 (ah 0) ((((2*2^i:Nat):Int)-(1:Nat)+1:Int):Rat) j) k):=by decide +kernel
  exact⟨by decide +kernel,by decide +kernel,h1 i hi,fun j k hj hk=>h2 i hi j hj k hk⟩
 fo:=by decide +kernel
def bj8:aL prog 123 [yZ [[-1],[1]] 1 1] (.ret [.agg (vb [[-1],[1]] 1 1 4 4)]):=by
 have h:=ac9 [[-1],[1]] 1 1 64 1 0 1 bv9 (by decide) (by decide) (by decide) (by decide) (by decide) (by decide) (by decide) (fun h hh=>absurd hh (oJ _)) (by decide +kernel) (by decide +kernel) (by decide +kernel) (by decide +kernel) (by decide);rw[show ah 0=4 by decide +kernel,show(1+aa [[-1],[1]]+1)*2^1=4 by decide +kernel]at h;exact h
def bR5:EqS [[-1],[1]]:=⟨by decide,by decide +kernel⟩
def bX2:EqS [[0,-1],[],[1]]:=⟨by decide,by decide +kernel⟩
def dR  :aL prog 16 [] (.ret [.one (.bool true)]):=by
 refine cI (args:=[]) (ins:=[]) (hints:=(fun _=>none)) fo (by kernel_rfl) func16 trivial ?_;rw[Yo];dsimp only[List.map,In.env,aO,aP];have e1:=Pg 3 0;rw[k3]at e1;apply aA e1;dsimp only[aO,aP];have e2:=zq [[0,-1],[],[1]] 0 [1,0] 7 1 1 1 1 2 64 64 7 bX2 (Fit.zero O) (by decide) O O (fun _=>⟨O,O,by decide +kernel,by decide +kernel,O,O,O,by decide +kernel⟩) (fun _=>by rw[mv3];decide) (fun _ _ _=>⟨by rw[mv3,ld3];exact au6,by decide,by decide,by decide⟩) O O;rw[cf3]at e2;apply aA e2;dsimp only[aO,aP];have e3:=Pg 1 0;rw[k1']at e3;apply aA e3;dsimp only[aO,aP];have hce:=pz [[-1],[1]] (by decide) (by decide);rw[show Aj [[-1],[1]]=true by decide +kernel]at hce;have hrg:=CF [[-1],[1]] 0 bR5 (by decide) (Fit.zero O);rw[show rH [[-1],[1]] 0=true by decide +kernel]at hrg;have hat:=Qe (e:=[[-1],[1]]) (c:=0) (D:=1) (E:=1) (S:=1) (T:=1) (K:=2) (B:=64) ⟨O,O,by decide +kernel,by decide +kernel,O,O,O,by decide +kernel⟩ (by decide) (by decide) (by decide +kernel);rw[mv1,ld1]at hat;refine Jq (show aQ [.one (eQ [[-1],[1]]),.agg [.exact (.slice none 0 0),.bool false,.exact (.slice none 0 0)]] [.one (eQ [[-1],[1]]),qT 0]from⟨aG.Sub.same,db,trivial⟩) (OX [[-1],[1]] 0 [[-1],[1]] 1 1 4 4 hce hrg hat bj8) rfl ?_;apply vn bK;refine vs _ rfl ?_ ?_<;>intro h5
 ·apply vn bK;refine vs _ rfl ?_ ?_<;>intro h7
  ·apply vn (aU sD (show(rQ [1,0,0,1/6,0,0,1/180]).length=7 from rfl));apply vn bK;refine vs _ rfl ?_ ?_<;>intro h10
   ·apply vn (aZ sD (show([1,0,0,1/6,0,0,1/180]:List Rat)[3]?=some (1/6)from rfl) (show(3:Int).toNat=3 from rfl));apply vn (bB ov (by decide) (by simp) (.inl rfl));apply aA (LA (1/6) 64 (by decide +kernel));rw[show Zx (1/6)=[49,47,54]from by decide +kernel];dsimp only[aO,aP];apply vn (PF (b:=[49,47,54]));refine vs _ rfl ?_ ?_<;>intro h15
    ·apply vn (aZ sD (show([1,0,0,1/6,0,0,1/180]:List Rat)[6]?=some (1/180)from rfl) (show(6:Int).toNat=6 from rfl));apply vn (bB ov (by decide) (by simp) (.inl rfl));apply aA (LA (1/180) 64 (by decide +kernel));rw[show Zx (1/180)=[49,47,49,56,48]from by decide +kernel];apply vn (PF (b:=[49,47,49,56,48]));refine vs _ rfl ?_ ?_<;>intro h20
     ·apply vn (aZ sD (show([1,0,0,1/6,0,0,1/180]:List Rat)[5]?=some 0 from rfl) (show(5:Int).toNat=5 from rfl));apply vn (bB ov (by decide) (by simp) (.inl rfl));apply aA (oN 0);dsimp only[aO,aP];apply vn bK;refine vs _ rfl ?_ ?_<;>intro h25
      ·apply aA (LA 4 64 (by decide +kernel));rw[show Zx 4=[52]from by decide +kernel];apply vn (PF (b:=[52]));refine vs _ rfl ?_ ?_<;>intro h28
       ·apply vn bK;exact aK
       exact(h28 (by decide)).elim
      exact(h25 (by decide)).elim
     exact(h20 (by decide)).elim
    exact(h15 (by decide)).elim
   exact(h10 (by decide)).elim
  exact(h7 (by decide)).elim
 exact(h5 (by decide)).elim
def Iv(x:Rat)(xs:List Rat):trim (x::xs)=if cz zr xs=0/\zr x=true then[]else x::trim xs:=by
 unfold trim;simp only[cz];split<;>simp
theorem yR:∀ps:List Rat,cz zr (trim ps)=cz zr ps
 | []=>rfl
 | x::xs=>by
   have ih:=yR xs;rw[Iv];split
   ·rename_i h;simp only[cz];rw[if_pos h]
   ·rename_i h;simp only[cz];rw[ih]
def VZ(ps:List Rat):trim (trim ps)=trim ps:=by
 have:=gz ps;show(trim ps).take (cz zr (trim ps))=trim ps;rw[yR];exact List.take_of_length_le O
def UN{ps:List Rat}(h:cz zr ps=0)(c:Rat):lM ps c=0:=by
 induction ps with
 | nil=>rfl
 | cons x xs ih=>
   simp only[cz]at h;split at h
   ·rename_i h';have hx:x=0:=by simpa[zr]using h'.2
    show lM xs c*c+x=0;rw[ih h'.1,hx];grind
   ·omega
theorem Dn(c:Rat):∀ps:List Rat,lM (trim ps) c=lM ps c
 | []=>rfl
 | x::xs=>by
   have ih:=Dn c xs;rw[Iv];split
   ·rename_i h;rw[UN (ps:=x::xs) (by simp only[cz];rw[if_pos h])];rfl
   ·show lM (trim xs) c*c+x=lM xs c*c+x;rw[ih]
def HJ(e e':List (List Rat)):Prop:=e.length=e'.length/\∀(i:Nat)p p',e[i]?=some p->e'[i]?=some p'->cz zr p=cz zr p'/\∀c,lM p c=lM p' c
def HJ.symm{e e':List (List Rat)}(h:HJ e e'):HJ e' e:=⟨h.1.symm,fun i p p' h1 h2=>⟨(h.2 i p' p h2 h1).1.symm,fun c=>((h.2 i p' p h2 h1).2 c).symm⟩⟩
def HJ.bH3{e e':List (List Rat)}(h:HJ e e')(hk:Aj e=true):Aj e'=true:=by
 unfold Aj at hk|-;rw[dx]at hk|-;obtain⟨h1,h2,h3,h4⟩:=hk;have hl:=h.1;refine⟨O,O,fun p hp=>?_,fun p hp=>?_⟩
 ·obtain⟨i,hi⟩:=uB hp;have hi2:=(dn.1 hi).1;obtain⟨p',hp'⟩:∃p',e[i]?=some p':=⟨_,ay O⟩
  rw[<-(h.2 i p' p hp' hi).1];exact h3 p' (bc hp')
 ·rw[<-hl]at hp;obtain⟨p',hp'⟩:∃p',e[e.length-1]?=some p':=⟨_,ay O⟩
  rw[<-(h.2 _ p' p hp' hp).1];exact h4 p' hp'
def HJ.Aj{e e':List (List Rat)}(h:HJ e e'):Aj e'=Aj e:=by
 cases he:Go.Sy.Aj e with
 | true=>exact h.bH3 he
 | false=>
   cases he':Go.Sy.Aj e' with
   | false=>rfl
   | true=>rw[h.symm.bH3 he']at he;cases he
def HJ.aN9{e e':List (List Rat)}(h:HJ e e')(c:Rat)(hk:rH e c=true):rH e' c=true:=by
 unfold rH at hk|-;rw[dx]at hk|-;have hl:=h.1;intro p hp;rw[<-hl]at hp;have hlt:=(dn.1 hp).1;obtain⟨p',hp'⟩:∃p',e[e.length-1]?=some p':=⟨_,ay O⟩
 rw[<-(h.2 _ p' p hp' hp).2];exact hk p' hp'
def HJ.rH{e e':List (List Rat)}(h:HJ e e')(c:Rat):rH e' c=rH e c:=by
 cases he:Go.Sy.rH e c with
 | true=>exact h.aN9 c he
 | false=>
   cases he':Go.Sy.rH e' c with
   | false=>rfl
   | true=>rw[h.symm.aN9 c he']at he;cases he
def HJ.okF{e e':List (List Rat)}(h:HJ e e')(c:Rat)(y:List Rat):okF e' c y=okF e c y:=by
 unfold Go.Sy.okF;rw[h.Aj,h.rH,h.1]
def YH(l:List bH):(pj l).map RQ.q=cT l:=by
 rw[pj,cT,eU];rfl
def az6(n:Nat):(Ng n).map RQ.q=lO n:=by
 rw[Ng,lO,tZ,sK];rfl
def af7(p:List (List bH))(long:Int):uA (eRQ p long)=p.map (fun l=>trim (cT l))++if 0<long then[lO (long%50+1).toNat]else[]:=by
 unfold uA eRQ;rw[eG,eU]
 congr 1
 ·refine mc fun l _=>?_;show(eS (pj l)).map RQ.q=_;rw[pq,YH]
 ·split
  ·rw[dY,lI,az6]
  ·rfl
def aG0{α:Type}(f g:α->List Rat)(hfg:∀a,cz zr (f a)=cz zr (g a)/\∀c,lM (f a) c=lM (g a) c)(l:List α)(r:List (List Rat)):HJ (l.map f++r) (l.map g++r):=by
 refine⟨by simp,fun i p p' h1 h2=>?_⟩;rcases Nat.lt_or_ge i l.length with h | h
 ·rw[fJ (by simpa using h),cC,ay h]at h1 h2;simp only[cf,aI]at h1 h2;subst h1 h2;exact hfg _
 ·rw[fX (by simpa using h)]at h1 h2;rw[aR]at h1 h2;rw[h1]at h2;cases h2;exact⟨rfl,fun _=>rfl⟩
def bA1(p:List (List bH))(long:Int):HJ (HH p long) (uA (eRQ p long)):=by
 rw[af7];exact aG0 _ _ (fun l=>⟨(yR _).symm,fun c=>(Dn c _).symm⟩) _ _
def Xg(n:Nat)(hn:n<=50):(lO n).length<=64/\∀q∈lO n,Fit 513 q:=by
 refine⟨by simp[lO];omega,fun q hq=>?_⟩;rcases List.mem_or_eq_of_mem_set hq with h | rfl
 ·rw[(List.mem_replicate.1 h).2];exact Fit.zero O
 ·exact(eW (n:=1)).mono O
def TQ{l:List bH}(hl:l.length<=4)(h:∀x∈l,x.In):(cT l).length<=64/\∀q∈cT l,Fit 513 q:=by
 refine⟨by rw[sZ];omega,fun q hq=>?_⟩;obtain⟨x,hx,rfl⟩:=gn.1 hq;exact(h x hx).ay0
def bJ4{p:List (List bH)}{long:Int}(hp:InP p)(hs:jf p=true):EqS (HH p long)/\EqS (uA (eRQ p long)):=by
 unfold jf at hs;rw[dx]at hs;obtain⟨h1,h2⟩:=hs;have hn:(long%50+1).toNat<=50:=O
 rw[af7]
 have hr:∀q∈(if 0<long then[lO (long%50+1).toNat]else[]),q.length<=64/\∀x∈q,Fit 513 x:=by
  intro q hq;split at hq
  ·rw[fH]at hq;subst hq;exact Xg _ hn
  ·cases hq
 have hrl:(if 0<long then[lO (long%50+1).toNat]else[]).length<=1:=by split<;>simp
 constructor
 ·refine⟨by rw[HH,eZ,aR];omega,fun q hq=>?_⟩;rcases List.mem_append.1 hq with h | h
  ·obtain⟨l,hl,rfl⟩:=gn.1 h;exact TQ (h2 l hl).1 (hp.p l hl).2
  ·exact hr q h
 ·refine⟨by rw[eZ,aR];omega,fun q hq=>?_⟩;rcases List.mem_append.1 hq with h | h
  ·obtain⟨l,hl,rfl⟩:=gn.1 h;obtain⟨k1,k2⟩:=TQ (h2 l hl).1 (hp.p l hl).2;exact⟨by rw[gz];have:=iI (z:=zr) (cT l);omega,fun x hx=>k2 x (List.mem_of_mem_take hx)⟩
  ·exact hr q h
def ap7{l:List Int}(h:gC l)(hl:l.length<8):(ints l).length<1099511627776/\∀q∈ints l,Fit 64 q:=by
 refine⟨by rw[ints,gz];have:=iI (z:=zr) (l.map fun n:Int=>(n:Rat));rw[aR]at this;omega,fun q hq=>?_⟩;obtain⟨n,hn,rfl⟩:=gn.1 (List.mem_of_mem_take hq);exact eW (h n hn).1 (h n hn).2
def bC2{k:Nat}{n:Int}(h1:1<=k)(h2:k<=8)(h3:0<=n)(h4:n<=40:=by omega):(kE k n).map trim=kE k n/\(kE k n).length<=3/\∀p∈kE k n,p.length<1099511627776/\∀q∈p,Fit 64 q:=by
 have hnn:n*(n+1)<=40*41:=Ci (a:=n) (b:=n+1) (c:=40) (d:=41) O O O O;have hn0:0<=n*(n+1):=qV O O;generalize hm:n*(n+1)=m at hnn hn0;have ht:∀l,trim (ints l)=ints l:=fun l=>VZ _;have ht0:trim []=[]:=rfl;have hz:([]:List Rat).length<1099511627776/\∀q∈([]:List Rat),Fit 64 q:=⟨by simp,by simp⟩
 rcases(by omega:k=1\/k=2\/k=3\/k=4\/k=5\/k=6\/k=7\/k=8)with rfl | rfl | rfl | rfl | rfl | rfl | rfl | rfl <;>
  refine⟨by simp only[kE,dY,lI,ht,ht0],by simp[kE],fun p hp=>?_⟩ <;>
  simp only[kE,List.mem_cons,ja,gY]at hp <;>
  (try rw[hm]at hp) <;>
  (rcases hp with rfl | rfl | rfl<;>first | exact hz | exact ap7 (by intro x hx;simp only[List.mem_cons,ja,gY]at hx;omega) (by simp))
open Go Go.Proofs Go.RowKit Go.ChangeShapes Go.WideShapes Tryz
section
variable{H:Type}{enc:TypeId×Value->H}{P:Program}
def Wd(P:Program)(t:TypeId)(d:DataW H):Prop:=∀n∈DataW.weights P t d,n<=reachBytes
theorem zV{e:TypeId}:∀{ds:List (DataW H)}{d:DataW H},d∈ds->∀n∈DataW.weights P e d,n∈DataW.weightsAll P e ds
 | [],_,h=>by cases h
 | x::xs,d,h=>fun n hn=>by
   rw[DataW.weightsAll];rcases List.mem_cons.1 h with rfl | h
   ·exact gS _ hn
   ·exact kD _ (zV h n hn)
def qg:∀{ts:List TypeId}{ds:List (DataW H)}{j:Nat}{t:TypeId}{d:DataW H},ts[j]?=some t->ds[j]?=some d->∀n∈DataW.weights P t d,n∈DataW.weightsEach P ts ds:=fun h1 h2=>DataW.weights_mem_each h1 h2
def Wd.field{t:TypeId}{fs:Array Field}{parts:List (DataW H)}(ht:P.underlying t=some (.struct fs))(h:Wd P t (.agg parts)){j:Nat}{f:Field}{d:DataW H}(hf:fs[j]?=some f)(hd:parts[j]?=some d):Wd P f.type d:=fun n hn=>by
 refine h n ?_;rw[DataW.weights,ht];exact qg (ts:=fs.toList.map (·.type)) (by rw[cC,vK,hf];rfl) hd n hn
def Wd.elem{t e:TypeId}{es sp:List (DataW H)}(ht:P.underlying t=some (.slice e))(h:Wd P t (.slice es sp)){d:DataW H}(hd:d∈es):Wd P e d:=fun n hn=>by
 refine h n ?_;rw[DataW.weights,ht];exact List.mem_cons_of_mem _ (gS _ (zV hd n hn))
def Wd.len{t e:TypeId}{es sp:List (DataW H)}(ht:P.underlying t=some (.slice e))(h:Wd P t (.slice es sp))(hb:0<P.bytesOf e):es.length<=reachBytes:=by
 have:=h ((es.length+sp.length)*P.bytesOf e) (by rw[DataW.weights,ht];exact List.mem_cons_self);have h2:(es.length+sp.length)*1<=(es.length+sp.length)*P.bytesOf e:=Nat.mul_le_mul_left _ hb;omega
def MP{w:World}{a:Addr}{n:Nat}{cs:List Value}(h:w.cells? 0 a n=some cs)(hn:0<n):∃b off all T fz,a=⟨b,off,none⟩/\w.heap[b]?=some (.cells all T fz):=by
 obtain⟨_,hl,hi⟩:=World.cells?_some h;have h0:=hi 0 hn;obtain⟨v,hv⟩:∃v,cs[0]?=some v:=⟨_,ay O⟩
 rw[hv,show a.add 0=a from rfl]at h0;unfold World.cell? at h0;obtain⟨b,off,sp⟩:=a;dsimp only at h0;split at h0
 ·rename_i hb;cases sp with
  | some x=>simp at h0
  | none=>exact⟨b,off,_,_,_,rfl,hb⟩
 ·cases h0
def NP(b off k:Nat):(⟨b,off,none⟩:Addr).add k=⟨b,off+k,none⟩:=by
 unfold Addr.add;by_cases h:k=0
 ·subst h;rfl
 ·rw[if_neg h]
def PC{w:World}{b off k n:Nat}{all:Array Value}{T:TypeId}{fz:Nat×Nat}{cs:List Value}(h:w.cells? 0 ((⟨b,off,none⟩:Addr).add k) n=some cs)(hb:w.heap[b]?=some (.cells all T fz)):(all.toList.drop (off+k)).take n=cs:=by
 obtain⟨_,hl,hi⟩:=World.cells?_some h;refine List.ext_getElem? fun i=>?_;rw[eo];split
 ·rename_i hlt;rw[<-hi i hlt,NP,NP,List.getElem?_drop];unfold World.cell?;rw[hb];simp
 ·rw[fD O]
abbrev noM:Nat->Prop:=fun _=>False
def HY{w:World}{t e:TypeId}{sz:Nat}(ht:P.underlying t=some (.slice e))(hc:P.cellsOf e=sz)(hb:0<P.bytesOf e){α:Type}(f:α->List aE)(Q:α->Prop)
  (helem:∀n cs x,DataW.trod enc P w 0 (fun _=>true) true n e cs=some x->Wd P e x.1->∃u,Q u/\(f u).length=sz/\ab noM w (f u) cs)
  {fuel:Nat} {cs:List Value} {x:DataW H×List MemPlace} (h:DataW.trod enc P w 0 (fun _=>true) true fuel t cs=some x) (hw:Wd P t x.1) (hsz:0<sz:=by omega) :
  ∃(l:List α)(v:Value),cs=[v]/\(∀u∈l,Q u)/\l.length<=reachBytes/\(aE.slice sz (l.map f)).rep noM w v:=by
 rcases Deep.open_slice ht h with⟨rfl,rfl⟩ | ⟨a,len,cap,m,n,D,Pl,rfl,_,hle,hcm,hm,rfl,hel⟩
 ·exact⟨[],_,rfl,by simp,by simp[reachBytes],none,0,rfl,by simp,by simp[maxLen],.inl rfl⟩
 ·rw[if_pos rfl]at hm;subst hm;have hlen:=hw.len ht hb;rw[aR,mA]at hlen
  obtain⟨l,hl1,hl2⟩:=oF (fun i (u:α)=>Q u/\(f u).length=sz/\∃cs',w.cells? 0 (a.add (i*sz)) sz=some cs'/\ab noM w (f u) cs') len fun i hi=>by
   obtain⟨cs',h1,h2⟩:=hel i O;rw[hc]at h1;obtain⟨u,hu1,hu2,hu3⟩:=helem n cs' _ h2 (hw.elem ht (gn.2 ⟨i,jk.2 hi,rfl⟩));exact⟨u,hu1,hu2,cs',h1,hu3⟩
  refine⟨l,_,rfl,fun u hu=>?_,O,some a,m,by rw[aR,hl1],by rw[aR,hl1];exact hle,hcm,?_⟩
  ·obtain⟨i,hi⟩:=uB hu;exact(hl2 i u hi).1
  ·rcases Nat.eq_zero_or_pos len with h0 | h0
   ·left
    rw[fu (hl1.trans h0)];rfl
   ·right
    obtain⟨u,hu⟩:∃u,l[0]?=some u:=⟨_,ay O⟩
    obtain⟨_,_,cs0,hc0,_⟩:=hl2 0 u hu;rw[oV,show a.add 0=a from rfl]at hc0;obtain⟨b,off,all,T,fz,rfl,hb'⟩:=MP hc0 hsz;refine⟨b,off,all,T,fz,rfl,fun h=>h,hb',fun i tt htt=>?_⟩;rw[cC,Lv]at htt;obtain⟨u,hu,rfl⟩:=htt;obtain⟨_,hu2,cs',hc',hu3⟩:=hl2 i u hu;rw[PC hc' hb'];exact⟨hu2,hu3⟩
end
section
variable{H:Type}{enc:TypeId×Value->H}
def xK:prog.cellsOf 26=3:=by kernel_rfl
def Sn:prog.cellsOf 27=1:=by kernel_rfl
def az4:0<prog.bytesOf 26:=by rw[show prog.bytesOf 26=24 by kernel_rfl];decide
def am3:0<prog.bytesOf 27:=by rw[show prog.bytesOf 27=24 by kernel_rfl];decide
def ao3:prog.cellsOf 22=1:=by kernel_rfl
def Yf:prog.cellsOf 5=1:=by kernel_rfl
def YG:prog.cellsOf 3=1:=by kernel_rfl
def ae1:prog.cellsOf 2=1:=by kernel_rfl
def wX{w:World}{n:Nat}{cs:List Value}{x:DataW H×List MemPlace}(h:DataW.trod enc prog w 0 (fun _=>true) true n 26 cs=some x):∃u:bH,u.In/\cs=[.int .i64 u.n,.int .i64 u.d,.int .u8 u.pow]:=by
 obtain⟨y0,y1,y2,m,rfl,hl,h0,h1,h2⟩:=Deep.trod_struct3 underlying26 h;rw[xK]at hl
 match cs,hl with
 | [v0,v1,v2],_=>
   rw[show prog.cellsOf _=1 from ae1]at h0;rw[show prog.cellsOf _=1 from ae1]at h1;rw[show prog.cellsOf _=1 from Yf]at h2;obtain⟨z0,e0,_,f0⟩:=tY underlying2 h0;obtain⟨z1,e1,_,f1⟩:=tY underlying2 h1;obtain⟨z2,e2,_,f2⟩:=tY underlying5 h2;have e0':[v0]=[Value.int .i64 z0]:=e0;have e1':[v1]=[Value.int .i64 z1]:=e1;have e2':[v2]=[Value.int .u8 z2]:=e2;cases e0';cases e1';cases e2';have b0:=xI f0;have b1:=xI f1;have b2:=bounds_u8 f2;refine⟨⟨z0,z1,z2.toNat⟩,⟨b0.1,by dsimp only;omega,b1.1,by dsimp only;omega,by dsimp only;omega⟩,?_⟩;rw[show((z2.toNat:Nat):Int)=z2 by omega]
def XN{w:World}{n:Nat}{cs:List Value}{x:DataW H×List MemPlace}(h:DataW.trod enc prog w 0 (fun _=>true) true n 147 cs=some x):∃u:bH×bH,(u.1.In/\u.2.In)/\ab noM w (nC u.1++nC u.2) cs:=by
 obtain⟨a0,a1,k,rfl,hl,g0,g1⟩:=trod_struct2 underlying147 h;rw[(by kernel_rfl:prog.cellsOf 147=6)]at hl
 match cs,hl with
 | [v0,v1,v2,v3,v4,v5],_=>
   replace g0:DataW.trod enc prog w 0 (fun _=>true) true k 26 (List.take (prog.cellsOf 26) (List.drop 0 [v0,v1,v2,v3,v4,v5]))=some a0:=g0;replace g1:DataW.trod enc prog w 0 (fun _=>true) true k 26 (List.take (prog.cellsOf 26) (List.drop 3 [v0,v1,v2,v3,v4,v5]))=some a1:=g1;rw[xK]at g0;rw[xK]at g1;replace g0:DataW.trod enc prog w 0 (fun _=>true) true k 26 [v0,v1,v2]=some a0:=g0;replace g1:DataW.trod enc prog w 0 (fun _=>true) true k 26 [v3,v4,v5]=some a1:=g1;obtain⟨u0,hu0,e0⟩:=wX g0;cases e0;obtain⟨u1,hu1,e1⟩:=wX g1;cases e1;exact⟨(u0,u1),⟨hu0,hu1⟩,⟨rfl,rfl⟩,⟨rfl,rfl⟩,⟨rfl,rfl⟩,⟨rfl,rfl⟩,⟨rfl,rfl⟩,⟨rfl,rfl⟩,trivial⟩
def Ib{w:World}{n:Nat}{cs:List Value}{x:DataW H×List MemPlace}(h:DataW.trod enc prog w 0 (fun _=>true) true n 27 cs=some x)(hw:Wd prog 27 x.1) :
  ∃(l:List bH)(v:Value),cs=[v]/\(∀u∈l,u.In)/\l.length<=reachBytes/\(sN l).rep noM w v:=
 HY underlying27 xK az4 nC bH.In (fun n cs x hx _=>by
  obtain⟨u,hu,rfl⟩:=wX hx;exact⟨u,hu,rfl,⟨rfl,rfl⟩,⟨rfl,rfl⟩,⟨rfl,rfl⟩,trivial⟩) h hw
def RI{w:World}{n:Nat}{cs:List Value}{x:DataW H×List MemPlace}(h:DataW.trod enc prog w 0 (fun _=>true) true n 22 cs=some x)(hw:Wd prog 22 x.1) :
  ∃(p:List (List bH))(v:Value),cs=[v]/\InP p/\(sP p).rep noM w v:=by
 obtain⟨p,v,rfl,h1,h2,h3⟩:=HY underlying22 Sn am3 (fun l:List bH=>[sN l]) (fun l=>l.length<=reachBytes/\∀x∈l,x.In) (fun n cs x hx hwx=>by
  obtain⟨l,v,rfl,h1,h2,h3⟩:=Ib hx hwx;exact⟨l,⟨h2,h1⟩,rfl,h3,trivial⟩) h hw
 refine⟨p,v,rfl,⟨Nat.lt_of_le_of_lt h2 (by decide),fun l hl=>⟨Nat.lt_of_le_of_lt (h1 l hl).1 (by decide),(h1 l hl).2⟩⟩,h3⟩
def UX{w:World}{n:Nat}{cs:List Value}{x:DataW H×List MemPlace}(h:DataW.trod enc prog w 0 (fun _=>true) true n 29 cs=some x)(hw:Wd prog 29 x.1) :
  ∃c:bA,c.In/\ab noM w [sP c.p,.int .i64 c.long,.int .i64 c.c.n,.int .i64 c.c.d,.int .u8 c.c.pow,sN c.y,.int .u8 c.kind,.int .i64 c.n] cs:=by
 obtain⟨xs,m,_,rfl,hl,hlen,hf⟩:=DataW.trod_struct underlying29 h;rw[show prog.cellsOf 29=8 by kernel_rfl]at hl
 match cs,hl,xs,hlen with
 | [v0,v1,v2,v3,v4,v5,v6,v7],_,[y0,y1,y2,y3,y4],_=>
   have h0:DataW.trod enc prog w 0 (fun _=>true) true m 24 (List.take (prog.cellsOf 24) (List.drop 0 [v0,v1,v2,v3,v4,v5,v6,v7]))=some y0:=hf 0 _ rfl;rw[(by kernel_rfl:prog.cellsOf 24=2)]at h0;replace h0:DataW.trod enc prog w 0 (fun _=>true) true m 24 [v0,v1]=some y0:=h0;have h1:DataW.trod enc prog w 0 (fun _=>true) true m 26 (List.take (prog.cellsOf 26) (List.drop 2 [v0,v1,v2,v3,v4,v5,v6,v7]))=some y1:=hf 1 _ rfl;rw[xK]at h1;replace h1:DataW.trod enc prog w 0 (fun _=>true) true m 26 [v2,v3,v4]=some y1:=h1;have h2:DataW.trod enc prog w 0 (fun _=>true) true m 27 (List.take (prog.cellsOf 27) (List.drop 5 [v0,v1,v2,v3,v4,v5,v6,v7]))=some y2:=hf 2 _ rfl;rw[Sn]at h2;replace h2:DataW.trod enc prog w 0 (fun _=>true) true m 27 [v5]=some y2:=h2;have h3:DataW.trod enc prog w 0 (fun _=>true) true m 5 (List.take (prog.cellsOf 5) (List.drop 6 [v0,v1,v2,v3,v4,v5,v6,v7]))=some y3:=hf 3 _ rfl;rw[Yf]at h3;replace h3:DataW.trod enc prog w 0 (fun _=>true) true m 5 [v6]=some y3:=h3;have h4:DataW.trod enc prog w 0 (fun _=>true) true m 3 (List.take (prog.cellsOf 3) (List.drop 7 [v0,v1,v2,v3,v4,v5,v6,v7]))=some y4:=hf 4 _ rfl;rw[YG]at h4;replace h4:DataW.trod enc prog w 0 (fun _=>true) true m 3 [v7]=some y4:=h4;have w0:Wd prog 24 y0.1:=hw.field (j:=0) underlying29 rfl rfl;have w2:Wd prog 27 y2.1:=hw.field (j:=2) underlying29 rfl rfl;obtain⟨a0,a1,k,rfl,_,g0,g1⟩:=trod_struct2 underlying24 h0;replace g0:DataW.trod enc prog w 0 (fun _=>true) true k 22 (List.take (prog.cellsOf 22) (List.drop 0 [v0,v1]))=some a0:=g0;replace g1:DataW.trod enc prog w 0 (fun _=>true) true k 3 (List.take (prog.cellsOf 3) (List.drop 1 [v0,v1]))=some a1:=g1;rw[ao3]at g0;rw[YG]at g1;replace g0:DataW.trod enc prog w 0 (fun _=>true) true k 22 [v0]=some a0:=g0;replace g1:DataW.trod enc prog w 0 (fun _=>true) true k 3 [v1]=some a1:=g1;have w00:Wd prog 22 a0.1:=w0.field (j:=0) underlying24 rfl rfl;obtain⟨p,_,e0,hp,hpr⟩:=RI g0 w00;cases e0;obtain⟨zl,e1,_,fl⟩:=tY underlying3 g1;cases e1;obtain⟨u,hu,e2⟩:=wX h1;cases e2;obtain⟨y,_,e3,hy1,hy2,hyr⟩:=Ib h2 w2;cases e3;obtain⟨zk,e4,_,fk⟩:=tY underlying5 h3;cases e4;obtain⟨zn,e5,_,fn⟩:=tY underlying3 h4;cases e5;have bl:=xI fl;have bk:=bounds_u8 fk;have bn:=xI fn;have hrb:reachBytes<140737488355328:=by decide
   refine⟨⟨p,zl,u,y,zk.toNat,zn⟩,⟨hp,bl.1,by dsimp only;omega,hu,by dsimp only;omega,hy1,by dsimp only;omega,bn.1,by dsimp only;omega⟩,?_⟩;have hk:((zk.toNat:Nat):Int)=zk:=O
   exact⟨hpr,⟨rfl,rfl⟩,⟨rfl,rfl⟩,⟨rfl,rfl⟩,⟨rfl,rfl⟩,hyr,⟨by show Value.int .u8 zk=Value.int .u8 ((zk.toNat:Nat):Int);rw[hk],rfl⟩,⟨rfl,rfl⟩,trivial⟩
end
section
variable{H:Type}{enc:TypeId×Value->H}{P:Program}
def uV(hl:laidOutB P=true){W W':World}{sp':Nat->Bool}:∀{ts:List TypeId}{vs:List Value}{ds:List (DataW H)}{ps:List MemPlace},(∀t∈ts,P.readableRec t=true/\t<P.types.size) ->
  DataW.TrodAll enc P W 0 (fun _=>true) true ts vs ds ps->(∀p∈ps,W.sameAt W' p)->(∀p∈ps,sp' p.block=true)->DataW.TrodAll enc P W' 0 sp' true ts vs ds ps
 | [],[],[],_,_,h,_,_=>h
 | t::ts,v::vs,d::ds,_,hr,h,h1,h2=>by
   obtain⟨p,q,k1,k2,rfl⟩:=h;refine⟨p,q,WideElems.Trod_stays hl (hr t (by simp)).1 (hr t (by simp)).2 k1 (fun x hx=>h1 x (by simp[hx])) (fun x hx=>h2 x (by simp[hx])),uV hl (fun t ht=>hr t (List.mem_cons_of_mem _ ht)) k2 (fun x hx=>h1 x (by simp[hx])) (fun x hx=>h2 x (by simp[hx])),rfl⟩
 | [],_::_,_,_,_,h,_,_=>h.elim
 | [],[],_::_,_,_,h,_,_=>h.elim
 | _::_,[],_,_,_,h,_,_=>h.elim
 | _::_,_::_,[],_,_,h,_,_=>h.elim
def QU{f:Func}{s:ChangeSpec}{apart fresh handsOn again:Bool}{W W':World}{args:Array Value}{ds gs:List (DataW H)}{before:List MemPlace}{T:TypeId}
  (hl:laidOutB P=true) (hts:∀t∈f.params.toList,P.readableRec t=true/\t<P.types.size) (hvars:s.vars=[])
  (hW:DataW.Whole enc P f.params.toList s.vars apart W args.toList ds gs before) (hres:(s.fn H (ds++gs)).results=[.lit (.bool true)]) (hargs:(s.fn H (ds++gs)).args=ds) (hvs:(s.fn H (ds++gs)).vars=[])
  (hb:Below W.heap.size W W') (hrt:f.resultTypes=#[T]) (hT:P.underlying T=some .bool) :
  s.post enc P f apart fresh handsOn again W args (.bool true) W':=by
 have hlt:∀p∈before,p.block<W.heap.size:=fun p hp=>hW.lt p hp;have hsame:∀p∈before,W.sameAt W' p:=fun p hp=>hb.same (hlt p hp);obtain⟨p,q,hA,hV,hps,hz,hn⟩:=hW;have hW:DataW.Whole enc P f.params.toList s.vars apart W args.toList ds gs before:=⟨p,q,hA,hV,hps,hz,hn⟩
 rw[hvars]at hV;obtain⟨rfl,rfl⟩:=trodVars_none hV;rw[cM]at hps;subst hps;have ha:∀sp:Nat->Bool,(∀p∈before,sp p.block=true)->DataW.TrodAll enc P W' 0 sp true f.params.toList args.toList ds before:=fun sp h=>uV hl hts hA hsame h
 have hr:∀(b:Nat)(sp:Nat->Bool)(hd:Bool),DataW.TrodAll enc P W' b sp hd f.resultTypes.toList ((Value.bool true).resultList f.resultTypes.size) [.lit (.bool true)] []:=fun b sp hd=>by
  rw[hrt];exact trodAll_mk1 (shut_bool hT true)
 have hold:∀p∈before,(fun b=>decide (b<W.heap.size)) p.block=true:=fun p hp=>by simpa using hlt p hp
 refine⟨ds,[],before,[],before,[],hW,?_,?_,?_,hb.frame _,fun _=>⟨?_,_,[],before,⟨[]++before,[],trodAll_append (ha (fun _=>true) (fun _ _=>rfl)) (hr 0 (fun _=>true) true),?_,by simp,?_,?_⟩,fun p hp _=>hp⟩⟩
 ·rw[hres];exact hr _ _ _
 ·rw[hargs];exact ha _ hold
 ·rw[hvars,hvs];rfl
 ·exact ok_one hrt rfl (okWide_bool_mk hT true)
 ·rw[hvars];exact(rfl:DataW.TrodVars enc P W' (fun _=>true) [] [] [])
 ·intro b off hp;rw[hb.frozen (p:=⟨b,off,none⟩) (hlt _ hp)];exact hz b off hp
 ·exact hn
end
def Lc{W:World}{l:List (String×DataW Unit)}(hl:l.filter (fun x=>x.1 == "internal/strconv.uint64pow10")=[("internal/strconv.uint64pow10",Lib.tabData .u64 Lib.pow10Tab)])(h:laidMetH prog l W):Good noM W:=by
 have h1:=h.filter (fun x=>x.1 == "internal/strconv.uint64pow10");rw[hl]at h1;have h2:laidMet prog [("internal/strconv.uint64pow10",Lib.tabData .u64 Lib.pow10Tab)] W:=h1;intro x hx;have hx:x=(0,EH):=by simpa[an3.tab]using hx
 subst hx;have hg:prog.globalNamed "internal/strconv.uint64pow10" = some 0:=by kernel_rfl
 have ht:=Lib.tabIs_of_head (rest:=[]) hg (by kernel_rfl:(prog.globals[0]?).map (·.type)=some 343) underlying343 underlying254 (by kernel_rfl) (by kernel_rfl) h2;unfold Lib.TabIs World.var? at ht;rw[hg]at ht;dsimp only[Option.bind_some]at ht;refine⟨fun h=>h,?_⟩;split at ht
 ·rename_i cs T fz he;cases ht;exact⟨T,fz,he⟩
 ·cases ht
end Go.Sy
