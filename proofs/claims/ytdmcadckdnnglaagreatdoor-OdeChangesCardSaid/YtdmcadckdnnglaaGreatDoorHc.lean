/- Part. -/
import Derived.Test.YtdmcadckdnnglaaGreatDoorHa
set_option linter.all false
set_option maxHeartbeats 2000000
namespace Go.Sy
open Go Go.Proofs Go.RowKit Tryz Ord
attribute [local go_sem] Oper.semAt_some
def KA:Tr:=.back 2 [.w (W 30 0),.w (W 29 0),.w (W 29 1),.w (W 29 2)]
def Kf:Tr:=.need (.prim [W 16 0,WK (1)] none) (.binOp .sub 3 (.tmp 46) (.const (I3 (1))) 3) 3 false KA
def Ld:Tr:=.need (.call 64 [.agg [U 21 0,U 21 1,U 21 2],.agg [U 28 0,U 28 1,U 28 2]] [some 3]) (D5 64 #[.tmp 50,.tmp 61] #[39,39]) 39 true Kf
def Iv:Tr:=.need (.call 36 [.agg [U 26 0,U 26 1,U 26 2],.agg [U 27 0,U 27 1,U 27 2]] [some 3]) (D5 36 #[.tmp 57,.tmp 60] #[39,39]) 39 true Ld
def Lc:Tr:=.need (.call 209 [W 16 0,W 6 0] [some 3]) (D5 209 #[.tmp 58,.tmp 59] #[3,3]) 39 false Iv
def Hq:Tr:=.need (.prim [W 25 0] (some 3)) (.load 39 (.tmp 56)) 39 false Lc
def Le:Tr:=.need (.prim [W 24 0,W 16 0] none) (.indexAddr 40 (.tmp 54) (.tmp 55)) 0 false Hq
def KN:Tr:=.need (.prim [W 23 0] none) (.load 40 (.tmp 53)) 40 false Le
def Kw:Tr:=.need (.prim [W 22 0] none) (.fieldAddr 266 (.tmp 52) 2) 0 false KN
def Hr:Tr:=.need (.prim [W 14 0] none) (.nilCheck (.tmp 51)) 0 false Kw
def Hw:Tr:=.need (.call 36 [.agg [U 17 0,U 18 0,U 19 0],.agg [U 2 0,U 2 1,U 2 2]] [some 3]) (D5 36 #[.tmp 48,.tmp 49] #[39,39]) 39 false Hr
def JA:Tr:=.back 1 [.w (W 28 0),.row 27]
def GX:Tr:=.need (.prim [W 10 0,WK (1)] none) (.binOp .add 3 (.tmp 37) (.const (I3 (1))) 3) 3 false JA
def JX:Tr:=.need (.app 6 112 (some 11) none (some 26)) (.call ⟨.builtin .append,#[.tmp 63,.tmp 75],#[118,118]⟩) 118 false GX
def Kn:Tr:=.need (.lit 6 [[.u 25 0,.u 25 1,.u 25 2,.u 25 3,.u 25 4,.u 25 5]]) (.buildSlice 118 1 #[(0,.tmp 74)]) 118 false JX
def Kk:Tr:=.need (.call 229 [.agg [U 24 0,U 24 1,U 24 2,U 24 3,U 24 4,U 24 5],W 0 0] [some 6]) (D5 229 #[.tmp 72,.tmp 73] #[123,3]) 123 true Kn
def Lw:Tr:=.need (.call 66 [.agg [U 21 0,U 21 1,U 21 2,U 21 3,U 21 4,U 21 5],.agg [U 23 0,U 23 1,U 23 2,U 23 3,U 23 4,U 23 5]] [some 6]) (D5 66 #[.tmp 65,.tmp 71] #[123,123]) 123 false Kk
def Jo:Tr:=.need (.call 228 [.agg [U 22 0,U 22 1,U 22 2]] [some 6]) (D5 228 #[.tmp 70] #[39]) 123 false Lw
def Ji:Tr:=.need (.call 133 [W 14 0,W 5 0,W 6 0,.agg [U 4 0,U 4 1,U 4 2]] [some 3]) (D5 133 #[.tmp 66,.tmp 67,.tmp 68,.tmp 69] #[194,3,3,39]) 39 false Jo
def JS:Tr:=.need (.call 227 [.agg [U 17 0,U 18 0,U 19 0]] [some 6]) (D5 227 #[.tmp 64] #[39]) 123 false Ji
def LD:Tr:=.split (.u 20 0) Hw JS
def Ic:Tr:=.need (.prim [W 16 0,W 6 0] none) (.binOp .geq 3 (.tmp 43) (.tmp 44) 3) 4 false LD
def Lu:Tr:=.loop 2 [.w (W 15 0),.w (.one (.c (.k (.slice none 0 0)))),.w (.one (.c (.k (.bool false)))),.w (.one (.c (.k (.slice none 0 0))))] Ic
def NT:Tr:=.need (.prim [W 5 0,WK (1)] none) (.binOp .sub 3 (.tmp 41) (.const (I3 (1))) 3) 3 false Lu
def NI:Tr:=.need (.prim [W 13 0] none) (.load 194 (.tmp 39)) 194 false NT
def Mp:Tr:=.need (.prim [W 3 0,W 10 0] none) (.indexAddr 276 (.tmp 35) (.tmp 37)) 0 false NI
def LF:Tr:=.back 0 [.w (W 15 0),.row 14]
def Lg:Tr:=.need (.prim [W 6 0,WK (1)] none) (.binOp .add 3 (.tmp 32) (.const (I3 (1))) 3) 3 false LF
def Je:Tr:=.need (.app 1 24 (some 7) none (some 13)) (.call ⟨.builtin .append,#[.tmp 78,.tmp 80],#[109,109]⟩) 109 false Lg
def Ke:Tr:=.need (.lit 1 [[.sr 6 11]]) (.buildSlice 109 1 #[(0,.tmp 79)]) 109 false Je
def Mh:Tr:=.split (.u 12 0) Mp Ke
def Ng:Tr:=.need (.prim [W 10 0,W 9 0] none) (.binOp .lss 3 (.tmp 37) (.tmp 36) 3) 0 false Mh
def MV:Tr:=.loop 1 [.w (WK (0)),.nilrow] Ng
def Mq:Tr:=.need (.prim [W 3 0] none) (.call ⟨.builtin .len,#[.tmp 35],#[276]⟩) 3 false MV
def It:Tr:=.ret [.one (.c (.sr 1 7))]
def Nt:Tr:=.split (.u 8 0) Mq It
def Nv:Tr:=.need (.prim [W 6 0,W 1 1] none) (.binOp .lss 3 (.tmp 32) (.tmp 31) 3) 4 false Nt
def MM:Tr:=.loop 0 [.w (WK (0)),.nilrow] Nv
def Vl:lG prog 84 (fun _=>none) (cJ [1,1,1,1] (dJ f147)) [(2,.v none),(3,.ref 9),(4,.ref 3),(7,.v none),(8,.ref 3),(9,.v none)] f147.results.toList none true=MM:=aT
def jl(t:Rat)(a:j1)(d n:Nat):Nat->Rat
 | 0=>0
 | c+1=>jl t a d n c*t+a.getD (n-1-c) 0*((bB ((n-1-c:Nat):Int) d:Int):Rat)
def bD0(q:j0)(m:Nat)(lead:Rat)(t:Rat)(n d l:Nat):Rat:=jl t (aU q m lead (ab m l) n) d n (n-d)
def Cn(q:j0)(m:Nat)(lead aB:Rat)(st:Nat)(t:Rat)(n d l:Nat):Rat:=fM (lX q m lead aB st l) aB n d t.abs
def RC(q:j0)(m:Nat)(lead aB:Rat)(st:Nat)(t:Rat)(k:Int)(n d l:Nat):Rat:=oJ (bD0 q m lead t n d l + -(Cn q m lead aB st t n d l)) k.toNat
def QA(q:j0)(m:Nat)(lead aB:Rat)(st:Nat)(t:Rat)(k:Int)(n d l:Nat):Rat:=ZA (bD0 q m lead t n d l+Cn q m lead aB st t n d l) k.toNat
abbrev br7(q:j0)(m:Nat)(lead aB:Rat)(st:Nat)(t:Rat)(k:Int)(n d j:Nat):List (List aE):=(List.range j).map fun l=>cM (RC q m lead aB st t k n d l) (QA q m lead aB st t k n d l)
abbrev an6(q:j0)(m:Nat)(lead aB:Rat)(st:Nat)(t:Rat)(k:Int)(n i:Nat):List (List aE):=(List.range i).map fun d=>[.slice 6 (br7 q m lead aB st t k n d m)]
structure bp7(q:j0)(m:Nat)(lead aB:Rat)(st:Nat)(t:Rat)(n B BS G:Nat):Prop where
 BT:∀d,d<m->oj B aB n d t.abs
 sh:∀d,d<m->cP aB n d t.abs<1
 fb:∀l,l<m->Fit B (lX q m lead aB st l)
 ft:∀l,l<m->∀d,d<m->Fit G (Cn q m lead aB st t n d l)
 fc:∀l,l<m->∀x∈aU q m lead (ab m l) n,Fit BS x
 fs:∀l,l<m->∀d,d<m->∀c,c<=n-d->Fit BS (jl t (aU q m lead (ab m l) n) d n c)
 ff:∀i,i<n->∀d,d<m->∀j,j<=d->Fit B ((bB (i:Int) j:Int):Rat)
 h0:aB≠0
 hB:B<=1073741824
 h64:64<=B
 hBS:BS<=1073741824
 hG:G<=1073741824
 n15:n<=1073741824
 mn:m<=n
 ft1:Fit B t
def cf9(q:j0)(m:Nat)(lead aB:Rat)(st:Nat)(t:Rat)(k:Int)(n B BS G:Nat)(C:bp7 q m lead aB st t n B BS G)(hm:m<=64)(hk:k<=256):vc prog (fun o=>ey o (.ret [.one (.slice 1 (an6 q m lead aB st t k n m))])) (lG prog 84 (fun _=>none) (cJ [1,1,1,1] (dJ f147)) [(2,.v none),(3,.ref 9),(4,.ref 3),(7,.v none),(8,.ref 3),(9,.v none)] f147.results.toList none true) ([.v (.one (.int .i64 k)),.ref (zJ q m lead aB (st:Nat)),.ref (qC t),.v (.one (.slice 1 ((List.range m).map fun l=>[.aW (jv q m lead aB st n l)]))),.ref (qC t.abs),.v (.one (.int .i64 n))].map In.env) []:=by
 rw[Vl];dsimp only[List.map,In.env,aP,aQ];obtain⟨hmn,hn15,hB,h64,hBS,hG,h0⟩:=(⟨C.mn,C.n15,C.hB,C.h64,C.hBS,C.hG,C.h0⟩:m<=n/\n<=1073741824/\B<=1073741824/\64<=B/\BS<=1073741824/\G<=1073741824/\aB≠0)
 refine bC {d:Nat // d<=m} (fun g=>[.one (.int .i64 g.1),.rows (an6 q m lead aB st t k n g.1)]) (fun g=>m-g.1) ⟨0,cG _⟩ aR.rfl (fun _=>rfl) ?_;rintro⟨d,hd⟩;dsimp only[aP,aQ]at hd|-;refine uS az ?_ ?_<;>intro h2
 .apply vn (aZ Ok (aX _));rw[pT];dsimp only[aP,aQ];have hdm:d<m:=O
  refine bC {l:Nat // l<=m} (fun g=>[.one (.int .i64 g.1),.rows (br7 q m lead aB st t k n d g.1)]) (fun g=>m-g.1) ⟨0,cG _⟩ aR.rfl (fun _=>rfl) ?_;rintro⟨l,hl⟩;dsimp only[aP,aQ]at hl|-;refine uS az ?_ ?_<;>intro h6
  .have hlm:l<m:=O
   have hrl:(List.range m)[l]?=some l:=jd hlm;apply vn (aY Ok hrl (bV l));apply vn (bI aS7);apply vn aL;dsimp only[aP,aQ];have hal:=bg q m lead (ab m l) n;have hfs:=C.fs l hlm d hdm;have hfc:=C.fc l hlm
   refine bC {c:Nat // c<=n-d} (fun g=>(.one (.int .i64 ((n:Int)-1-(g.1:Int))):aF)::(qC (jl t (aU q m lead (ab m l) n) d n g.1)).map .one) (fun g=>n-d-g.1) ⟨0,cG _⟩ (by
    rw[show(n:Int)-1-((0:Nat):Int)=(n:Int)-1 by omega];exact⟨aF.Sub.same,tX⟩) (fun _=>rfl) ?_
   rintro⟨c,hc⟩;dsimp only[aP,aQ,List.map]at hc|-;refine uS gW ?_ ?_<;>intro h12
   .have hci:c<n-d:=O
    obtain⟨i,hi⟩:∃i,n-1-c=i:=⟨_,rfl⟩
    have hii:(n:Int)-1-(c:Int)=(i:Int):=O
    have hia:i<(aU q m lead (ab m l) n).length:=O
    have hfx:=hfc _ (cj (cS hia));have hff:=C.ff i O d hdm;apply aA (cr _ _ BS B (hfs c hc) C.ft1);apply vn PM;apply vn (jE Qo dO);apply vn (t:=.one (sQ (aU q m lead (ab m l) n))) (ay bO3 dO (by exact nZ (cG _)) (.inr rfl));dsimp only[aP,aQ];apply vn (aY vv (cS hia) (show((n:Int)-1-(c:Int)).toNat=i by omega));apply vn (ay mq dO bY (.inl rfl));dsimp only[aP,aQ];rw[hii];apply aA (lT (i:Int) d B h64 hff);apply aA (cr _ _ BS B hfx (hff d (ah _)));apply aA (lU _ _ (BS+B) (BS+B) ((hfs c hc).mul C.ft1) (hfx.mul (hff d (ah _))));rw[show jl t (aU q m lead (ab m l) n) d n c*t+(aU q m lead (ab m l) n).getD i 0*((bB (i:Int) d:Int):Rat)=jl t (aU q m lead (ab m l) n) d n (c+1) by rw[jl,hi]];apply vn aL;dsimp only[aP,aQ];exact aa rfl ⟨⟨c+1,O⟩,aR.of_eq (by dsimp only;rw[show(n:Int)-1-((c+1:Nat):Int)=(i:Int)-1 by omega];rfl),by show n-d-(c+1)<n-d-c;omega⟩
   have hcd:c=n-d:=O
   subst hcd;apply aA (ba9 (jl t (aU q m lead (ab m l) n) d n (n-d)));apply aA (EX (eQ q) (.int .i64 m) (dT lead.num.natAbs) (.bool (decide (lead.num<0))) (dT (lead.den-1)) aB st (ab m l) (aU q m lead (ab m l) n) (lX q m lead aB st l) n d t.abs B (C.BT d hdm) h0 (C.fb l hlm) (C.sh d hdm));apply aA (xL (fM (lX q m lead aB st l) aB n d t.abs));dsimp only[aP,aQ];have hft:=C.ft l hlm d hdm;apply aA (wS (jl t (aU q m lead (ab m l) n) d n (n-d)) (jl t (aU q m lead (ab m l) n) d n (n-d)) (-(Cn q m lead aB st t n d l)) (Cn q m lead aB st t n d l) BS G (hfs _ (ah _)) (hfs _ (ah _)) hft.neg hft);apply aA (PX _ _ k (BS+G+1) hk ((hfs _ (ah _)).add hft.neg) ((hfs _ (ah _)).add hft));rw[show oJ (jl t (aU q m lead (ab m l) n) d n (n-d) + -(Cn q m lead aB st t n d l)) k.toNat=RC q m lead aB st t k n d l from rfl,show ZA (jl t (aU q m lead (ab m l) n) d n (n-d)+Cn q m lead aB st t n d l) k.toNat=QA q m lead aB st t k n d l from rfl];apply bh (us:=[cM (RC q m lead aB st t k n d l) (QA q m lead aB st t k n d l)]);refine rW (xs:=List.range l) (x:=l) (f:=fun l=>cM (RC q m lead aB st t k n d l) (QA q m lead aB st t k n d l)) rfl rfl (by rw[pT];omega) (by rw[pT];simp only[maxLen];omega) ?_;rw[<-ml];apply vn aC;dsimp only[aP,aQ];exact aa rfl ⟨⟨l+1,O⟩,aR.rfl,by show m-(l+1)<m-l;omega⟩
  obtain rfl:l=m:=O
  apply bh (us:=[[.slice 6 (br7 q l lead aB st t k n d l)]]);refine rW (xs:=List.range d) (x:=d) (f:=fun d=>[.slice 6 (br7 q l lead aB st t k n d l)]) rfl rfl (by rw[pT];omega) (by rw[pT];simp only[maxLen];omega) ?_;rw[<-ml];apply vn aC;dsimp only[aP,aQ];exact aa rfl ⟨⟨d+1,O⟩,aR.rfl,by show l-(d+1)<l-d;omega⟩
 obtain rfl:d=m:=O
 exact aN
def Halt(p:Prop):Prop:=p
def OG{M:j2}{n0 m:Nat}{W:World}{C:Nat->List aE}{bv:Value}{ps:j3}(I:qH M n0 W C bv ps)(hpl:ps.length=m)(hM:∀k,M k->k<n0):(aE.slice 1 ((List.range m).map fun l=>[aE.aW (C l)])).rep M W bv:=by
 have hkM:bq (vI M ps bv) W M W:=fun b o hb ho _=>⟨fun h=>hb (.inl (.inl h)),ho⟩
 rcases I.sl.2 with⟨rfl,h⟩ | ⟨g,cap,cur,rfl,h2,h3,h4,h5,h6,h7⟩
 .obtain rfl:m=0:=O
  exact⟨none,0,rfl,ah _,by simp[maxLen],.inl rfl⟩
 .rw[hpl,dc]at h7;refine⟨some ⟨g,0,none⟩,cap,by rw[aX,pT,hpl],by rw[aX,pT];omega,h5,.inr ⟨g,0,cur,194,(0,0),rfl,fun h=>by have:=hM g h;omega,h3,fun i t ht=>?_⟩⟩;rw[dS]at ht
  have hi:i<m:=by
   rcases bG i m with h | h
   .exact h
   .rw[gE (by rw[pT];exact h)]at ht;cases ht
  rw[jd hi]at ht;simp only[eS,aM]at ht;subst ht;obtain⟨b,hb⟩:∃b,ps[i]?=some b:=⟨_,bU O⟩
  have hc:cur.toList[i]?=some (.pointer (some ⟨b,0,none⟩)):=by
   have h:(cur.toList.take m)[i]?=some (.pointer (some ⟨b,0,none⟩)):=by rw[h7,dS,hb];rfl
   rwa[fi,aI hi]at h
  have hd:(cur.toList.drop (0+i*1)).take 1=[.pointer (some ⟨b,0,none⟩)]:=by
   obtain⟨h8,h9⟩:=fK.1 hc;rw[bw,dc,ow h8,h9];rfl
  obtain⟨us,hu,hr⟩:=I.cells i b hb;refine⟨rfl,?_⟩;rw[hd];refine⟨⟨b,0,us,266,(0,0),rfl,fun h=>by have:=hM b h;have:=(I.lo b (cj hb)).1;omega,hu,?_⟩,trivial⟩;rw[gF,cU (np hr.length.symm)];exact hr.mono hkM
set_option maxRecDepth 100000 in
def ak9(M:j2)(w:World)(hM:cX M w)(q:j0)(m:Nat)(lead aB:Rat)(st:Nat)(t:Rat)(k:Int)(Ns Bs B G:Nat)(hm1:1<=m)(hk:k<=256)(goal:Rat)(hgq:mkRat 1 (2^k.toNat)*mkRat 1 (2^2)=goal)
  (T:Dd q m lead aB st t.abs goal (m-1) B G) (out:Option Nat) (L:yM (QC q m lead aB st t.abs goal (m-1)) m st out) (BS:Nat) (MC:∀N,out=some N->bp7 q m lead aB st t N B BS G)
  (hst15:st<=Ns) (SC:∀l,l<m->jy Bs q m lead (ab m l) Ns) (hNs:Ns<=1073741824) (hN15:1500<=Ns) (hm:m<=64) (hBs:Bs<=4294967296) (h64:64<=Bs) (hql:q.length=m+1) (hp:∀p∈q,p.length<1048576) (hl0:lead≠0) (hw:m+aj q<=st) (hrho:∀j,j<=2*st+1->Fit Bs (aB^j))
  (u0 u1 u2 u3 u4 u5 u6 u7 u8:Value) (ha:ai M w (zJ q m lead aB (st:Nat)) [u0,u1,u2,u3,u4,u5,u6,u7,u8]) (t0 t1 t2:Value) (ht:ai M w (qC t) [t0,t1,t2]) :
  Calls prog 147 #[.agg #[u0,u1,u2,u3,u4,u5,u6,u7,u8],.agg #[t0,t1,t2],.int .i64 k] w fun e w'=>Below w.heap.size w w'/\match out with
   | some n=>∃v,e=.returned v/\(aE.slice 1 (an6 q m lead aB st t k n m)).rep M w' v
   | none=>e=.panicked [{ v:=LR 5,recovered:=false }]:=by
 obtain⟨o0,o1,o2,o3,o4,o5,o6,o7,o8⟩:u0.oneCell'=true/\u1.oneCell'=true/\u2.oneCell'=true/\u3.oneCell'=true/\u4.oneCell'=true/\u5.oneCell'=true/\u6.oneCell'=true/\u7.oneCell'=true/\u8.oneCell'=true:=by
  have:=ha.one;exact⟨this _ bY,this _ bY,this _ bY,this _ bY,this _ bY,this _ bY,this _ bY,this _ bY,this _ bY⟩
 obtain⟨p0,p1,p2⟩:t0.oneCell'=true/\t1.oneCell'=true/\t2.oneCell'=true:=by have:=ht.one;exact⟨this _ bY,this _ bY,this _ bY⟩
 have e1:u1=.int .i64 m:=ha.2.1.1;subst e1;refine jn func147 rfl ?_;simp only[ntmps147,ed,bm,ck,Nat.reduceAdd,Nat.reduceSub,fX,fW,fS,fU,List.nil_append,List.cons_append];obtain⟨n0,hn0⟩:∃n0,w.heap.size=n0:=⟨_,rfl⟩
 obtain⟨W1,hW1⟩:∃W1,(w.alloc (.cells #[u0,.int .i64 m,u2,u3,u4,u5,u6,u7,u8] 185)).alloc (.cells #[t0,t1,t2] 39)=W1:=⟨_,rfl⟩
 have hs1:W1.heap.size=n0+2:=by rw[<-hW1];simp[hn0]
 have hB1:Below w.heap.size w W1:=by rw[<-hW1];exact((cz _ w).alloc (ah _) _).alloc bY _
 have hA1:W1.heap[n0]?=some (.cells #[u0,.int .i64 m,u2,u3,u4,u5,u6,u7,u8] 185 (0,0)):=by rw[<-hW1,bJ _ _ _ iF,<-hn0];exact bc w _
 have hT1:W1.heap[n0+1]?=some (.cells #[t0,t1,t2] 39 (0,0)):=by
  rw[<-hW1];have:=bc (w.alloc (.cells #[u0,.int .i64 m,u2,u3,u4,u5,u6,u7,u8] 185)) (.cells #[t0,t1,t2] 39)
  rwa[br,hn0]at this
 have hM1:cX M W1:=⟨fun b hb=>bt (hM.1 b hb) hB1.size,hM.2.below rfl hB1⟩
 have ha1:=ha.mono (bq.below hB1);have hbas:=TH M W1 hM1 q m lead aB st Ns Bs SC hNs hm hBs h64 hql hp hl0 hw hrho u0 (.int .i64 m) u2 u3 u4 u5 u6 u7 u8 ha1;have c0:W1.cell? ⟨n0,0,none⟩=some u0:=aH hA1 rfl;have c1:W1.cell? ⟨n0,1,none⟩=some (.int .i64 m):=aH hA1 rfl;have c2:W1.cell? ⟨n0,2,none⟩=some u2:=aH hA1 rfl;have c3:W1.cell? ⟨n0,3,none⟩=some u3:=aH hA1 rfl;have c4:W1.cell? ⟨n0,4,none⟩=some u4:=aH hA1 rfl;have c5:W1.cell? ⟨n0,5,none⟩=some u5:=aH hA1 rfl;have c6:W1.cell? ⟨n0,6,none⟩=some u6:=aH hA1 rfl;have c7:W1.cell? ⟨n0,7,none⟩=some u7:=aH hA1 rfl;have c8:W1.cell? ⟨n0,8,none⟩=some u8:=aH hA1 rfl
 go_wp2_with (go_at_call 225;refine hbas.mono ?_)
 rintro e w2 ⟨bv,ps,rfl,hpl,hb2,I⟩;have hB2:Below w.heap.size w w2:=hB1.trans (hb2.mono hB1.size);have hf2:=I.QO hM1 (ah _) hb2;have hw2:=hb2.size
 have hlt:∀b,vI M ps bv b->M b\/n0+2<=b:=by
  rintro b ((h | h) | h)
  .exact .inl h
  .exact .inr (by have:=(I.lo b h).1;omega)
  .exact .inr (by have:=(I.sl.lt b h).1;omega)
 have hk2:bq M w (vI M ps bv) w2:=fun b o hb ho _=>by
  have hl:=(cf.1 ho).1;exact⟨fun h=>(hlt b h).elim hb O,(hB2.block b hl).trans ho⟩
 have hA2:w2.heap[n0]?=some (.cells #[u0,.int .i64 m,u2,u3,u4,u5,u6,u7,u8] 185 (0,0)):=(hb2.block n0 O).trans hA1;have hT2:w2.heap[n0+1]?=some (.cells #[t0,t1,t2] 39 (0,0)):=(hb2.block (n0+1) O).trans hT1
 have hba:Calls prog 146 #[.agg #[t0,t1,t2]] w2 fun e w'=>Below w2.heap.size w2 w'/\∃r0 r1 r2,e=.returned (.agg #[r0,r1,r2])/\ai (vI M ps bv) w' (qC t.abs) [r0,r1,r2]:=by
  refine((BN t).2 (vI M ps bv) w2 [.agg #[t0,t1,t2]] hf2 ⟨⟨_,rfl,ht.mono hk2⟩,trivial⟩).mono ?_;rintro e w' ⟨hb,vs,rfl,hvs⟩;obtain⟨us,e1,hus⟩:=cc7 hvs;obtain⟨g0,g1,g2,rfl⟩:=aI9 hus;exact⟨hb,g0,g1,g2,by rw[e1],hus⟩
 have d0:w2.cell? ⟨n0+1,0,none⟩=some t0:=aH hT2 rfl;have d1:w2.cell? ⟨n0+1,1,none⟩=some t1:=aH hT2 rfl;have d2:w2.cell? ⟨n0+1,2,none⟩=some t2:=aH hT2 rfl
 go_wp2_with (go_at_call 146;refine hba.mono ?_)
 rintro e w3 ⟨hb3,r0,r1,r2,rfl,hr3⟩;obtain⟨x0,x1,x2⟩:r0.oneCell'=true/\r1.oneCell'=true/\r2.oneCell'=true:=by have:=hr3.one;exact⟨this _ bY,this _ bY,this _ bY⟩
 have hA3:w3.heap[n0]?=some (.cells #[u0,.int .i64 m,u2,u3,u4,u5,u6,u7,u8] 185 (0,0)):=(hb3.block n0 O).trans hA2
 go_wp2
 have hnew:=bc w3 (.cells #[.slice none 0 0,.bool false,.slice none 0 0] 39);rw[yW hnew x0 x1 x2];obtain⟨w4,hw4⟩:∃w4,(w3.alloc (.cells #[.slice none 0 0,.bool false,.slice none 0 0] 39)).setRow w3.heap.size #[r0,r1,r2]=w4:=⟨_,rfl⟩
 have hB34:Below w3.heap.size w3 w4:=by rw[<-hw4];exact below_setRow ((cz _ w3).alloc (ah _) _) _ (ah _)
 have hR4:w4.heap[w3.heap.size]?=some (.cells #[r0,r1,r2] 39 (0,0)):=by rw[<-hw4];exact dP _ _ _ _ _ _ hnew
 have hw3:=hb3.size;have hA4:w4.heap[n0]?=some (.cells #[u0,.int .i64 m,u2,u3,u4,u5,u6,u7,u8] 185 (0,0)):=(hB34.block n0 O).trans hA3;have hT4:w4.heap[n0+1]?=some (.cells #[t0,t1,t2] 39 (0,0)):=(hB34.block (n0+1) O).trans ((hb3.block (n0+1) O).trans hT2);have hB24:Below w2.heap.size w2 w4:=hb3.trans (hB34.mono hb3.size);have hB14:Below W1.heap.size W1 w4:=hb2.trans (hB24.mono hb2.size);have hter:=Ux Ns Bs M W1 w4 hM1 hB14 q m lead aB st t.abs (m-1) k B G bv ps hm1 hk goal hgq T out L ((I.grow hb3).grow hB34) hpl hst15 SC hNs hN15 hm hBs h64 hql hp hl0 r0 r1 r2 (hr3.mono (bq.below hB34));rw[show(((m-1:Nat)):Int)=(m:Int)-1 by omega]at hter;have q0:w4.cell? ⟨w3.heap.size,0,none⟩=some r0:=aH hR4 rfl;have q1:w4.cell? ⟨w3.heap.size,1,none⟩=some r1:=aH hR4 rfl;have q2:w4.cell? ⟨w3.heap.size,2,none⟩=some r2:=aH hR4 rfl;have q3:w4.cell? ⟨n0,1,none⟩=some (.int .i64 m):=aH hA4 rfl;rw[hw4]
 go_wp2_with (go_at_call 226;refine hter.mono ?_)
 .rename_i KK K2 out1 L1 N L2 QQ hKK hK2;rintro e w5 rfl tu I5;have hww4:=hB24.size;have hps:∀b∈ps,n0+2<=b:=fun b hb=>by have:=(I.lo b hb).1;omega
  have hB5:Below w.heap.size w w5:=tu.low (hB1.trans (hB14.mono hB1.size)) O (fun b hb=>by have:=hps b hb;omega);have hM5:cX M w5:=⟨fun b hb=>bt (hM.1 b hb) hB5.size,hM.2.below rfl hB5⟩
  have hn5:∀j,j<n0+2->j ∉ ps:=fun j hj h=>by have:=hps j h;omega
  have hA5:w5.heap[n0]?=some (.cells #[u0,.int .i64 m,u2,u3,u4,u5,u6,u7,u8] 185 (0,0)):=(tu.block n0 O (hn5 _ O)).trans hA4;have hT5:w5.heap[n0+1]?=some (.cells #[t0,t1,t2] 39 (0,0)):=(tu.block (n0+1) O (hn5 _ O)).trans hT4;have hR5:w5.heap[w3.heap.size]?=some (.cells #[r0,r1,r2] 39 (0,0)):=(tu.block w3.heap.size (by rw[<-hw4];simp[World.setRow]) (fun h=>by have:=(I.lo _ h).2;omega)).trans hR4;have hr4:=hr3.mono (bq.below hB34);have hk45:bq (vI M ps bv) w4 M w5:=fun b o hb ho _=>⟨fun h=>hb (.inl (.inl h)),(tu.block b (cf.1 ho).1 (fun h=>hb (.inl (.inr h)))).trans ho⟩
  have hKH:Halt _:=hKK;clear hKK
  go_wp2
  refine hKH _ _ ?_
  refine bo7 (N:=84) (ins:=[(2,.v none),(3,.ref 9),(4,.ref 3),(7,.v none),(8,.ref 3),(9,.v none)]) (xs:=[.v (.one (.int .i64 k)),.ref (zJ q m lead aB (st:Nat)),.ref (qC t),.v (.one (.slice 1 ((List.range m).map fun l=>[.aW (jv q m lead aB st N l)]))),.ref (qC t.abs),.v (.one (.int .i64 N))]) fo ⟨rfl,rfl,rfl,rfl,rfl,rfl,trivial⟩
   (cf9 q m lead aB st t k N B BS G (MC N rfl) hm hk) aT hM5 rfl rfl
   ⟨⟨rfl,rfl⟩,⟨n0,0,_,_,_,rfl,fun h=>by have:=hM.1 _ h;omega,hA5,ha.mono (bq.below hB5)⟩,⟨n0+1,0,_,_,_,rfl,fun h=>by have:=hM.1 _ h;omega,hT5,ht.mono (bq.below hB5)⟩,OG I5 hpl (fun k h=>by have:=hM.1 k h;omega),⟨w3.heap.size,0,_,_,_,rfl,fun h=>by have:=hM.1 _ h;omega,hR5,hr4.mono hk45⟩,⟨rfl,rfl⟩,trivial⟩ ?_ (by intro c v a' w' h;cases h)
  intro e a' w' rs us hrs hex hB hsz hdf hrun hus;cases hrs
  have key:a'.defers=[]/\∃v,(results f147 a'.tmps).run prog w'=.ok v w'/\(Below w.heap.size w w'/\∃v',Ending.returned v=.returned v'/\(aE.slice 1 (an6 q m lead aB st t k N m)).rep M w' v'):=by
   obtain⟨v,hv,hrep⟩:=ap7 hus;exact⟨hdf,_,ly f147 a'.tmps us hrun,hB5.trans (hB.mono hB5.size),v,by rw[hv],hrep⟩
  cases e with
  | normal=>exact key
  | ret=>exact key
  | exit id=>cases hex
 .rintro e w5 rfl hb5;exact⟨rfl,hB1.trans (hb5.mono O),rfl⟩
end Go.Sy
namespace Go.Sy
open Go Go.Proofs Tryz Ord
def bh2{q:Rat}{S k:Nat}(h:q.num.natAbs<=S*q.den):(VZ (q*nI k)).natAbs<=S*2^k:=by
 rw[bl3];obtain⟨p,hp⟩:∃p:Nat,2^k=p:=⟨_,rfl⟩
 rw[hp];have hd:(0:Int)<(q.den:Int):=by have:=q.den_pos;omega
 have h1:q.num<=(S:Int)*(q.den:Int):=by have:(q.num.natAbs:Int)<=((S*q.den:Nat):Int):=by exact_mod_cast h
                                        rw[iK]at this;omega
 have h2:-((S:Int)*(q.den:Int))<=q.num:=by have:(q.num.natAbs:Int)<=((S*q.den:Nat):Int):=by exact_mod_cast h
                                           rw[iK]at this;omega
 have hp0:(0:Int)<=(p:Int):=Rl _
 have h3:q.num*(p:Int)<=(S:Int)*(p:Int)*(q.den:Int):=by
  have:=ZT h1 hp0;rw[Int.mul_right_comm]at this;exact this
 have h4:-((S:Int)*(p:Int))*(q.den:Int)<=q.num*(p:Int):=by
  have:=ZT h2 hp0;rw[uV,Int.mul_right_comm]at this;rw[uV];exact this
 have h5:q.num*(p:Int)/(q.den:Int)<=(S:Int)*(p:Int):=by
  have:=Int.ediv_le_ediv hd h3
  rwa[ZW _ O]at this
 have h6:-((S:Int)*(p:Int))<=q.num*(p:Int)/(q.den:Int):=by
  have:=Int.ediv_le_ediv hd h4
  rwa[ZW _ O]at this
 have h7:(((S*p:Nat)):Int)=(S:Int)*(p:Int):=iK _ _;omega
def Ct{q:Rat}{S k H:Nat}(h:q.num.natAbs<=S*q.den)(h1:S*2^k<2^H)(h2:2^k<2^H):Fit H (oJ q k):=by
 have e:oJ q k=mkRat (VZ (q*nI k)) (2^k):=by rw[oJ,uJ,uJ];grind
 rw[e];exact Fit.mkRat (cV (bh2 h) h1) h2 (gL.1 (aw O))
def ag4{q:Rat}{S k H:Nat}(h:q.num.natAbs<=S*q.den)(h1:S*2^k<2^H)(h2:2^k<2^H):Fit H (ZA q k):=by
 rw[<-at4];exact(Ct (q:=-q) (by show(-q.num).natAbs<=S*q.den;rw[iC];exact h) h1 h2).neg
theorem UL{t:Rat}{a:j1}{d n D S E T F:Nat}(h0:D≠0)(h1:E≠0)(ha:∀x∈a,Bd D S x)(ht:Bd E T t)(hT:1<=T)(hF:∀i:Nat,i<n->(bB (i:Int) d).natAbs<=F)(hn:0<n):∀c,Bd (D*E^c) (c*(S*F*T^c)) (jl t a d n c)
 | 0=>Bd.zero
 | c+1=>by
   have ih:=UL h0 h1 ha ht hT hF hn c;have hE:E^c≠0:=gL.1 (aw (iR h1));have hm:=ih.mul (da h0 hE) h1 ht;have hx:=(lI ha (n-1-c)).mul h0 (E:=1) O (Bd.int (hF (n-1-c) O));rw[jl];have e1:D*E^c*E=D*E^(c+1):=by rw[bF,dC]
   have e2:c*(S*F*T^c)*T=c*(S*F*T^(c+1)):=by rw[bF,dC,dC (S*F)]
   rw[e1,e2]at hm;have hx':=hx.mono (E:=D*E^(c+1)) (T:=S*F*T^(c+1)) (by rw[dc];exact nX _ _) (dn _ (aw hT));have:=hm.add (da h0 (gL.1 (aw (iR h1)))) hx';rw[ba,cZ];exact this
def Yg{D E c n a e:Nat}(hD:D<=2^a)(hE:E<=2^e)(hc:c<=n):D*E^c<=2^(a+e*n):=by
 rw[eH,kX];exact dE hD (an (gN hE c) (cB (aw O) hc))
def WU{S T F c n b f g:Nat}(hS:S<=2^b)(hT:T<=2^f)(hF:F<=2^g)(hc:c<=n)(hn:n<=2^11):c*(S*F*T^c)<=2^(11+(b+g+f*n)):=by
 rw[eH 2 11,eH 2 (b+g),eH 2 b,kX];exact dE (an hc hn) (dE (dE hS hF) (an (gN hT c) (cB (aw O) hc)))
def Ry{x y B:Nat}(h:x<=2^y)(hB:y<B:=by omega):x<2^B:=cV h (mZ O hB)
def aY1(a b:Rat):a<=lA [a,b] 2:=by
 have h1:lA [a,b] 1=a:=by rw[lA,aI (.inl rfl)];rfl
 rw[lA,h1];split
 .rename_i h;rcases h with h | h
  .omega
  .exact pD h
 .exact ak
theorem Ql(a:j1)(aB:Rat)(n0:Nat):∀k,0<=MG a aB n0 k
 | 0=>by show(0:Rat)<=0;grind
 | k+1=>by
   have ih:=Ql a aB n0 k;rw[MG];exact bH ih (aY1 _ _)
def aV4{b aB r:Rat}{n d:Nat}(hb:0<=b)(h0:0<aB)(hr:0<=r)(h1:cP aB n d r<1)(hd:d<=n:=by omega):0<=fM b aB n d r:=by
 have hu0:0<=LU aB n d r:=oZ (af (uH.2 (zx d hd)) (Fe hr)) (dk h0);have one:((1:Int):Rat)=1:=iN
 show 0<=b*LU aB n d r/(((1:Int):Rat)-cP aB n d r);rw[one];exact oZ (af hb hu0) e9
def ze{aB r:Rat}{n d:Nat}(h0:0<aB)(hr:0<=r)(h2:r+r<=aB)(hd:2*d<n+1:=by omega):cP aB n d r<1:=by
 unfold cP;have hz:(0:Rat)<(((n:Int)+1-d:Int):Rat):=rZ.2 O;have hw:(0:Rat)<(((n:Int)+1:Int):Rat):=rZ.2 O
 have hlt:(((n:Int)+1:Int):Rat)<(((n:Int)+1-d:Int):Rat)+(((n:Int)+1-d:Int):Rat):=by
  rw[<-Rat.intCast_add];exact Rat.intCast_lt_intCast.2 O
 generalize (((n:Int)+1-d:Int):Rat)=z at *;generalize (((n:Int)+1:Int):Rat)=w at *;have hz0:z≠0:=e9
 have hr0:aB≠0:=e9
 have e:w/z*(r/aB)=(w*r)/(z*aB):=by
  have h1:w/z*z=w:=di hz0;have h2:r/aB*aB=r:=di hr0;have hzr:z*aB≠0:=fun e=>(nk.1 e).elim hz0 hr0;have h3:w*r/(z*aB)*(z*aB)=w*r:=di hzr;have h4:w/z*(r/aB)*(z*aB)=w*r:=by rw[show w/z*(r/aB)*(z*aB)=(w/z*z)*(r/aB*aB) by grind,h1,h2]
  have h5:(w/z*(r/aB)-w*r/(z*aB))*(z*aB)=0:=e9
  rcases nk.1 h5 with h6 | h6
  .grind
  .exact(hzr h6).elim
 rw[e];have hzr:0<z*aB:=FB hz h0
 have key:w*r<z*aB:=by
  have k1:w*r<=w*(r+r)/2:=e9
  rcases Classical.em (r=0)with h | h
  .subst h;grind
  .have hrp:0<r:=e9
   have k2:=ai1 hlt hrp;have k3:z*(r+r)<=z*aB:=eC h2 e9
   grind
 have h7:w*r/(z*aB)*(z*aB)=w*r:=di e9;rcases Classical.em (w*r/(z*aB)<1)with h | h
 .exact h
 .have h8:1<=w*r/(z*aB):=e9
  have h9:=eL h8 (by grind:0<=z*aB)
  grind
def sU(t:Rat):0<=t.abs:=by
 obtain⟨h1,h2⟩:=ov t;refine QJ.1 ?_;rw[h1];omega
open Go Go.Proofs Go.RowKit Tryz Ord
attribute [local go_sem] Oper.semAt_some
def bx3{M:j2}{w:World}{q:j0}{m:Nat}{lead aB:Rat}{st:Int}{vs:n5}(h:ai M w (zJ q m lead aB st) vs):∃u0 u1 u2 u3 u4 u5 u6 u7 u8,vs=[u0,u1,u2,u3,u4,u5,u6,u7,u8]:=ck1 h
section
variable(q:j0)(m:Nat)(lead aB:Rat)(st:Nat)(t:Rat)(k:Int)(Ns Bs B G BS:Nat)(goal:Rat)(out:Option Nat)
structure by0:Prop where
 hm1:1<=m
 hk:k<=256
 hgq:mkRat 1 (2^k.toNat)*mkRat 1 (2^2)=goal
 T:Dd q m lead aB st t.abs goal (m-1) B G
 L:yM (QC q m lead aB st t.abs goal (m-1)) m st out
 MC:∀N,out=some N->bp7 q m lead aB st t N B BS G
 hst15:st<=Ns
 SC:∀l,l<m->jy Bs q m lead (ab m l) Ns
 hNs:Ns<=1073741824
 hN15:1500<=Ns
 hm:m<=64
 hBs:Bs<=4294967296
 h64:64<=Bs
 hql:q.length=m+1
 hp:∀p∈q,p.length<1048576
 hl0:lead≠0
 hw:m+aj q<=st
 hrho:∀j,j<=2*st+1->Fit Bs (aB^j)
def WQ(out:Option Nat):Out:=match out with
 | some n=>.ret [.one (.slice 1 (an6 q m lead aB st t k n m))]
 | none=>.pan (zI 5)
end
def Po{q:j0}{m:Nat}{lead aB:Rat}{st:Nat}{t:Rat}{k:Int}{Ns Bs B G BS:Nat}{goal:Rat}{out:Option Nat}(C:by0 q m lead aB st t k Ns Bs B G BS goal out) :
  aK prog 147 [.agg (zJ q m lead aB (st:Nat)),qT t,.one (.int .i64 k)] (WQ q m lead aB st t k out):=by
 refine⟨bM aT,fun M w vs hM hv=>?_⟩
 match vs,hv with
 | [a,tv,kv],hv=>
   obtain⟨us,rfl,hus⟩:=hv.1;obtain⟨u0,u1,u2,u3,u4,u5,u6,u7,u8,rfl⟩:=bx3 hus;obtain⟨ts,rfl,hts⟩:=hv.2.1;obtain⟨t0,t1,t2,rfl⟩:=aI9 hts;have hk:kv=.int .i64 k:=hv.2.2.1.1;subst hk;refine(ak9 M w hM q m lead aB st t k Ns Bs B G C.hm1 C.hk goal C.hgq C.T out C.L BS C.MC C.hst15 C.SC C.hNs C.hN15 C.hm C.hBs C.h64 C.hql C.hp C.hl0 C.hw C.hrho u0 u1 u2 u3 u4 u5 u6 u7 u8 hus t0 t1 t2 hts).mono ?_;rintro e w' ⟨hb,h⟩;refine⟨hb,?_⟩;cases out with
   | some n=>
     obtain⟨v,rfl,hr⟩:=h;exact⟨[v],rfl,hr,trivial⟩
   | none=>
     subst h;exact⟨LR 5,rfl,⟨rfl,rfl⟩⟩
 | [],hv=>exact hv.elim
 | [_],hv=>exact hv.2.elim
 | [_,_],hv=>exact hv.2.2.elim
 | _::_::_::_::_,hv=>exact hv.2.2.2.elim
def Ss(f:FuncId)(caps:List aE)(er:Int)(h:aK prog f (caps.map .one) (.pan (zI er))):aK prog 121 [.one (.lp f caps)] (.ret [.one (.int .i64 er)]):=by
 refine⟨bM aT,fun M w vs hM hv=>?_⟩
 match vs,hv with
 | [v],hv=>
   obtain⟨cs,rfl,hcs⟩:=hv.1;have hB4:Below w.heap.size w (w.alloc (.cells #[.int .i64 0] 55)):=(cz _ w).alloc (ah _) _;have hM4:cX M (w.alloc (.cells #[.int .i64 0] 55)):=⟨fun b hb=>bt (hM.1 b hb) hB4.size,hM.2.below rfl hB4⟩
   refine(Hf f cs.toArray w er (fun w'=>Below (w.alloc (.cells #[.int .i64 0] 55)).heap.size (w.alloc (.cells #[.int .i64 0] 55)) w') h.1 ?_).mono ?_
   .refine(h.2 M _ cs hM4 (cW.xi (hcs.mono (bq.below hB4)))).mono ?_;rintro r w' ⟨hb,hp⟩;exact⟨bE0 hp,(hb.block _ (by rw[br];omega)).trans (bc w _),hb⟩
   .rintro r w' ⟨rfl,w1,hb1,hg⟩;have hs1:=hb1.size;rw[br]at hs1;refine⟨⟨by rw[hg.os,hb1.os,hB4.os],by rw[hg.tape,hb1.tape,hB4.tape],by rw[hg.output,hb1.output,hB4.output],by have:=hg.size;omega,fun k hk=>?_⟩,[.int .i64 er],rfl,⟨rfl,rfl⟩,trivial⟩;rw[hg.block k O (fun e=>by simp only[aM]at e;omega),hb1.block k (by rw[br];omega),hB4.block k hk]
 | [],hv=>exact hv.elim
 | _::_::_,hv=>exact hv.2.elim
end Go.Sy
namespace Go.Sy
open Go Go.Proofs Tryz Ord
def Bd.abs{D S:Nat}{q:Rat}(h:Bd D S q):Bd D S q.abs:=by
 obtain⟨h1,h2⟩:=ov q;exact⟨by rw[h2];exact h.1,by rw[h1,h2,cH];exact h.2⟩
def Pt{t:Rat}{a:j1}{d n N D S E T F c p b e f g B y:Nat}(hy:11+(b+g+f*N)<=y)(h0:D≠0)(h1:E≠0)(ha:∀x∈a,Bd D S x)(ht:Bd E T t)(hT:1<=T)(hF:∀i:Nat,i<n->(bB (i:Int) d).natAbs<=F)(hn:0<n)(hc:c<=N)(hN:N<=2^11)
  (hD:D<=2^p) (hS:S<=2^b) (hE:E<=2^e) (hTT:T<=2^f) (hFF:F<=2^g) (hB:p+e*N+(11+(b+g+f*N))<B:=by omega) :
  Fit B (jl t a d n c)/\(jl t a d n c).num.natAbs<=2^y*(jl t a d n c).den:=by
 have h:=UL h0 h1 ha ht hT hF hn c;have r1:=Yg hD hE hc;have r2:=WU hS hTT hFF hc hN;refine⟨h.fit (da h0 (gL.1 (aw (iR h1)))) (Ry r1) ?_,an h.2 (cg _ (an r2 (cB O hy)))⟩;refine Ry (y:=(11+(b+g+f*N))+(p+e*N)) ?_;rw[eH];exact dE r2 r1
def Pj{b aB r:Rat}{n d B Bm:Nat}(C:oj Bm aB n d r)(hb:Fit B b)(h64:64<=Bm:=by omega)(hn:n<1099511627776:=by omega)(hd:d<=n:=by omega):Fit (B+(Bm+Bm+Bm)+(64+(128+(Bm+Bm))+1)) (fM b aB n d r):=by
 have hff:=C.ff d (ah _);have hfr:=C.fr (n-d) O;have hfo:=C.fo n O;have hsh:=C.sh O O;exact(hb.mul ((hff.mul hfr).div hfo)).div ((Fit.int O O).sub hsh)
def jZ(h:Nat):0<ae h:=by
 have h1:=vg h
 have h2:0<=ae h:=by
  unfold ae;refine af iN ?_;rw[uJ]
  exact oZ (uH.2 O) (by
   have:=aw (n:=h) (show 0<2 by omega);exact rZ.2 O)
 grind
def ZR{x y:Rat}{S:Nat}(hx:x.num.natAbs<=S*x.den)(hy:y.num.natAbs<=S*y.den):(x+y).num.natAbs<=(S+S)*(x+y).den:=by
 have h1:Bd (x.den*y.den) S x:=⟨nX _ _,hx⟩
 have h2:Bd (x.den*y.den) S y:=⟨rV _ _,hy⟩
 exact(h1.add (da (gL.1 x.den_pos) (gL.1 y.den_pos)) h2).2
def yA(en:Nat->Nat->Bool)(m n:Nat):Bool:=(List.range m).all fun l=>en l n
def BO{en:Nat->Nat->Bool}{m n:Nat}:yA en m n=true↔∀l,l<m->en l n=true:=by
 rw[yA,gM];exact⟨fun h l hl=>h l (gO.2 hl),fun h l hl=>h l (gO.1 hl)⟩
def BW(en:Nat->Nat->Bool)(m st:Nat):Option Nat:=if oo (yA en m) st (1501-st)<1501 then some (oo (yA en m) st (1501-st))else none
def Pv{en:Nat->Nat->Bool}{m st:Nat}(up:∀l,l<m->∀n,st<=n->n<1500->en l n=true->en l (n+1)=true):yM en m st (BW en m st):=by
 obtain⟨h1,h2,h3,h4⟩:=lS (yA en m) (1501-st) st;unfold BW;generalize oo (yA en m) st (1501-st)=N at *;refine⟨fun n hn1 hn2=>⟨fun h=>?_,?_⟩,fun M hM=>?_,up⟩
 .have hN:N<=n:=by
   rcases bG n N with hlt | hge
   .have:=h3 n hn1 hlt;rw[BO.2 h]at this;cases this
   .exact hge
  exact⟨N,aI O,hN⟩
 .rintro⟨M,hM,hMn⟩ l hl;split at hM
  .rename_i hlt;simp only[aM]at hM;subst hM;have h5:=BO.1 (h4 O) l hl
   have key:∀j,N+j<=1500->en l (N+j)=true:=by
    intro j
    induction j with
    | zero=>exact fun _=>h5
    | succ j ih=>exact fun hj=>up l hl (N+j) O O (ih O)
   have:=key (n-N) O
   rwa[show N+(n-N)=n by omega]at this
  .cases hM
 .split at hM
  .simp only[aM]at hM;subst hM;exact⟨h1,O⟩
  .cases hM
def nG(k:Int):Rat:=mkRat 1 (2^k.toNat)*mkRat 1 (2^2)
def ew(E:j0)(X aB:Rat)(st:Nat)(t:Rat)(d:Nat)(k:Int):Option Nat:=
 BW (QC (aV E X) (E.length-1) (aG E X) aB st t.abs (nG k) d) (E.length-1) st
def bX1:∀m,m<5->ki m 1500<=2^45:=iN
section
variable{E:j0}{ER:List (List RQ)}{X:Rat}{XR:RQ}
def SmallX.cl5(h:SmallX E ER X XR)(hr:jO E X){t:Rat}(ht:vJ t){l n d c b:Nat}(hb:11300000<=b)(hn:n<=1500)(hn0:0<n)(hd:d<E.length-1)(hc:c<=n-d) :
  Fit 400000000 (jl t (aU (aV E X) (E.length-1) (aG E X) (ab (E.length-1) l) n) d n c) /\
  (jl t (aU (aV E X) (E.length-1) (aG E X) (ab (E.length-1) l) n) d n c).num.natAbs<=2^b*(jl t (aU (aV E X) (E.length-1) (aG E X) (ab (E.length-1) l) n) d n c).den:=by
 have hy:11+(10+7500*n+45+12*1500)<=b:=by
  have hx:7500*n<=11250000:=cd 7500 hn;have hz:12*1500<=18000:=dO
  generalize 12*1500=z at hz|-;generalize 7500*n=x at hx|-;omega
 obtain⟨h2,h5,hld,_⟩:=hr.facts;obtain⟨g0,g⟩:=Zh h.xb (N:=1500) dO;obtain⟨gq,gr⟩:=g (E.length-1) O;have fF:=bX1;obtain⟨Xd,hX0,hXQ,hbd⟩:=Ab (h.ag0 hr l) (N:=1500) O n hn;have hXp:Xd<=2^(14000*n):=an hXQ (by rw[kX];exact gN gq n)
 have hSp:999*fJ (E.length-1) 1500 (dX X) sM 101^n<=2^(10+7500*n):=by
  rw[eH,kX];exact dE (show 999<=2^10 by decide) (gN gr n)
 have hfz:∀i:Nat,i<n->(bB (i:Int) d).natAbs<=ki (E.length-1) 1500:=fun i hi=>XB (n:=i) O d O (i:Int) O;exact Pt (y:=b) hy (N:=1500) (c:=c) (B:=400000000) (p:=14000*n) (b:=10+7500*n) (e:=200) (f:=12) (g:=45) hX0 (lY t) hbd ht.bd O hfz hn0 O dO hXp hSp ht.d dO (fF _ O)
structure oQ(E:j0)(X:Rat)(aB:Rat)(st:Nat)(t:Rat)(k:Int):Prop where
 hv:bp (aV E X) (E.length-1) (aG E X)=some (aB,st)
 tb:vJ t
 t2:t.abs+t.abs<=aB
 k256:k<=256
def oQ.tf{E:j0}{X aB:Rat}{st:Nat}{t:Rat}{k:Int}(S:oQ E X aB st t k):Fit 513 t:=S.tb.fit.mono O
def SmallX.aV9(h:SmallX E ER X XR)(hr:jO E X){aB t:Rat}{st:Nat}{k:Int}(S:oQ E X aB st t k){d:Nat}(hd:d<E.length-1) :
  Dd (aV E X) (E.length-1) (aG E X) aB st t.abs (nG k) d 200000000 300000000:=by
 obtain⟨h2,h5,hld,_⟩:=hr.facts;obtain⟨hh,hh62,rfl,hst,hW⟩:=ef S.hv;have hpos:=jZ hh;have hab:=sU t;have hsmall:∀n,st<=n->n<=max 1500 st->∀i,i<=d->oj 2097152 (ae hh) n i t.abs:=fun n h1 h2 i hi=>fI S.tb.abs hh62 O O (ah _);have hsh:∀n,st<=n->n<=max 1500 st->∀i,i<=d->cP (ae hh) n i t.abs<1:=fun n h1 h2 i hi=>ze hpos hab S.t2
 have hfb:∀l,l<E.length-1->Fit 200000000 (lX (aV E X) (E.length-1) (aG E X) (ae hh) st l):=fun l hl=>by
  have hs:=h.FO hr l;have hrho:∀j,j<=2*st+1->Fit (UP) (ae hh^j):=(fI S.tb.abs hh62 (n:=st) (d:=0) O O dO).fo;exact(RT (fun x hx=>KH hs O hx) dO (fun j hj=>hrho j O) (st:=st) O _ (ah _)).mono dO
 refine⟨fun n h1 h2 i hi=>fI S.tb.abs hh62,hsh,hfb,fun l hl n h1 h2 i hi=>?_,?_,O,O,vg hh,O,O,O⟩
 .exact(Pj (hsmall n h1 h2 i hi) (hfb l hl)).mono O
 .exact((gu (by have:=S.k256;omega)).mul (gu O)).mono O
def SmallX.az4(h:SmallX E ER X XR)(hr:jO E X){aB t:Rat}{st:Nat}{k:Int}(S:oQ E X aB st t k){d:Nat}(hd:d<E.length-1) :
  yM (QC (aV E X) (E.length-1) (aG E X) aB st t.abs (nG k) d) (E.length-1) st (ew E X aB st t d k):=by
 have T:=h.aV9 hr S hd;obtain⟨h2,h5,hld,_⟩:=hr.facts;obtain⟨hh,hh62,rfl,hst,hW⟩:=ef S.hv;refine Pv fun l hl n h1 h2 hen=>?_;unfold QC nh at hen|-;rw[gM]at hen|-;intro i hi;have hid:=gO.1 hi;have h3:=gi (hen i hi);exact gJ (bH (uW (Ql _ _ _ _) (jZ hh) (sU t) (T.sh n h1 O i O)).1 h3)
def SmallX.cx8(h:SmallX E ER X XR)(hr:jO E X){aB t:Rat}{st:Nat}{k:Int}(S:oQ E X aB st t k){N:Nat}(h1:st<=N)(h2:N<=1500) :
  bp7 (aV E X) (E.length-1) (aG E X) aB st t N 200000000 400000000 300000000:=by
 have T:=fun d hd=>h.aV9 hr S (d:=d) hd;obtain⟨hl2,h5,hld,_⟩:=hr.facts;obtain⟨hh,hh62,rfl,hst,hW⟩:=ef S.hv;obtain⟨bb,hbb⟩:∃b:Nat,11300000<=b:=⟨_,ah _⟩
 refine⟨fun d hd=>(T d hd).BT N h1 O d (ah _),fun d hd=>(T d hd).sh N h1 O d (ah _),(T 0 O).fb,fun l hl d hd=>(T d hd).ft l hl N h1 O d (ah _),fun l hl x hx=>(KH (h.FO hr l) O hx).mono dO,fun l hl d hd c hc=>(h.cl5 hr S.tb hbb h2 O hd hc).1,
  fun i hi d hd j hj=>?_,vg hh,O,O,O,O,O,O,S.tf.mono O⟩
 have hz:=pz (z:=(i:Int)) (N:=1504) j O;have h2:(1504:Nat)^j<=1504^4:=cB O O;have h3:(1504:Nat)^4=5116716384256:=dO
 rw[h3]at h2;exact(iU).mono O
def SmallX.at0(h:SmallX E ER X XR)(hr:jO E X){aB t:Rat}{st:Nat}{k:Int}(S:oQ E X aB st t k) :
  by0 (aV E X) (E.length-1) (aG E X) aB st t k 4096 (UP) 200000000 300000000 400000000 (nG k) (ew E X aB st t (E.length-1-1) k):=by
 obtain⟨hl2,h5,hld,_⟩:=hr.facts;have T:=h.aV9 hr S (d:=E.length-1-1) O;have L:=h.az4 hr S (d:=E.length-1-1) O;have hmB:=h.bv3;have S':=S;obtain⟨hh,hh62,rfl,hst,hW⟩:=ef S.hv
 exact⟨O,S.k256,rfl,T,L,fun N hN=>h.cx8 hr S (L.some N hN).1 (L.some N hN).2,O,fun l hl=>h.FO hr l,O,O,O,dO,dO,by rw[aV,aX];omega,fun p hp=>by have:=(hmB p hp).1;omega,hld,O,
  (fI S.tb.abs hh62 (n:=st) (d:=0) O O dO).fo⟩
def Xb{x:Rat}(h0:0<=x)(h1:x<=1):x.num.natAbs<=1*x.den:=by
 have h2:=QJ.2 h0;rw[Ay]at h1;rw[show(1:Rat).num=1 from rfl,show(1:Rat).den=1 from rfl]at h1;omega
def as9(k:Int):nG k<=1:=by
 have h1:∀n:Nat,mkRat 1 (2^n)<=1/\0<=mkRat 1 (2^n):=fun n=>by
  have hp:0<2^n:=aw O;rw[uJ];have h0:(0:Rat)<(((2^n:Nat):Int):Rat):=rZ.2 O;have h3:(((1:Int)):Rat)<=(((2^n:Nat):Int):Rat):=rP.2 O;have e1:((1:Int):Rat)=1:=iN
  refine⟨?_,oZ (by rw[e1];decide +kernel) h0⟩;have:=ta (x:=((1:Int):Rat)) (y:=1) (p:=(((2^n:Nat):Int):Rat)) (q:=1) h0 iN (by rw[Rat.mul_one,kZ];exact h3)
  rwa[show(1:Rat)/1=1 by decide +kernel]at this
 unfold nG;have:=eL (h1 k.toNat).1 (h1 2).2;rw[kZ]at this;exact bH this (h1 2).1
def SmallX.QT(h:SmallX E ER X XR)(hr:jO E X){aB t:Rat}{st:Nat}{k:Int}(S:oQ E X aB st t k){N:Nat}(hN:ew E X aB st t (E.length-1-1) k=some N){d l:Nat}(hd:d<E.length-1)(hl:l<E.length-1) :
  Fit 12000000 (RC (aV E X) (E.length-1) (aG E X) aB st t k N d l)/\Fit 12000000 (QA (aV E X) (E.length-1) (aG E X) aB st t k N d l):=by
 obtain⟨hl2,h5,hld,_⟩:=hr.facts;have L:=h.az4 hr S (d:=E.length-1-1) O;obtain⟨h1,h2⟩:=L.some N hN;have M:=h.cx8 hr S h1 h2;have hk:=S.k256;have S':=S;obtain⟨hh,hh62,rfl,hst,hW⟩:=ef S.hv;have hst0:0<N:=O
 have hen:=(L.iff N h1 h2).2 ⟨N,hN,ah _⟩ l hl
 have hoff:Cn (aV E X) (E.length-1) (aG E X) (ae hh) st t N d l<=nG k:=by
  unfold QC nh at hen;rw[gM]at hen;exact gi (hen d (gO.2 O))
 have hoff0:0<=Cn (aV E X) (E.length-1) (aG E X) (ae hh) st t N d l:=aV4 (Ql _ _ _ _) (jZ hh) (sU t) (M.sh d hd);have ho0:=Xb hoff0 (bH hoff (as9 k));obtain⟨b,hb⟩:∃b:Nat,b=11300000:=⟨_,rfl⟩
 obtain⟨H,hH⟩:∃H:Nat,H=12000000:=⟨_,rfl⟩
 have hs':=(h.cl5 hr S.tb (b:=b) O h2 hst0 hd (ah (N-d)) (l:=l)).2;rw[<-hH];have h1b:1<=2^b:=aw O;have ho:=an ho0 (cg _ h1b)
 have hon:(-(Cn (aV E X) (E.length-1) (aG E X) (ae hh) st t N d l)).num.natAbs<=2^b*(-(Cn (aV E X) (E.length-1) (aG E X) (ae hh) st t N d l)).den:=by
  show(-(Cn (aV E X) (E.length-1) (aG E X) (ae hh) st t N d l).num).natAbs<=_;rw[iC];exact ho
 have r1:(2^b+2^b)*2^k.toNat<2^H:=by
  rw[show 2^b+2^b=2^(b+1) by rw[bF];omega,<-eH];exact mZ O O
 have r2:2^k.toNat<2^H:=mZ O O;exact⟨Ct (ZR hs' hon) r1 r2,ag4 (ZR hs' ho) r1 r2⟩
end
end Go.Sy
