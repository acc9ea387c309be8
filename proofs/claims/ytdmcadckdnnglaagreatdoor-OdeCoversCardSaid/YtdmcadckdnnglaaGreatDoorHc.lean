/- Part. -/
import Derived.Test.YtdmcadckdnnglaaGreatDoorHa
set_option linter.all false
set_option maxHeartbeats 2000000
namespace Go.Sy
open Go Go.Proofs Go.RowKit Tryz Ord
attribute [local go_sem] Oper.semAt_some
def Fl:Tr:=.back 2 [(.w (W 30 0)),(.w (W 29 0)),(.w (W 29 1)),(.w (W 29 2))]
def ET:Tr:=.need (.prim [(W 16 0),(WK (1))] none) (.binOp .sub 3 (.tmp 46) (.const (I3 (1))) 3) 3 false Fl
def FF:Tr:=.need (.call 64 [(.agg [(U 21 0),(U 21 1),(U 21 2)]),(.agg [(U 28 0),(U 28 1),(U 28 2)])] [(some 3)]) (.call ⟨.value (.func 64),#[(.tmp 50),(.tmp 61)],#[39,39]⟩) 39 true ET
def DS:Tr:=.need (.call 36 [(.agg [(U 26 0),(U 26 1),(U 26 2)]),(.agg [(U 27 0),(U 27 1),(U 27 2)])] [(some 3)]) (.call ⟨.value (.func 36),#[(.tmp 57),(.tmp 60)],#[39,39]⟩) 39 true FF
def FE:Tr:=.need (.call 209 [(W 16 0),(W 6 0)] [(some 3)]) (.call ⟨.value (.func 209),#[(.tmp 58),(.tmp 59)],#[3,3]⟩) 39 false DS
def De:Tr:=.need (.prim [(W 25 0)] (some 3)) (.load 39 (.tmp 56)) 39 false FE
def FG:Tr:=.need (.prim [(W 24 0),(W 16 0)] none) (.indexAddr 40 (.tmp 54) (.tmp 55)) 0 false De
def Fu:Tr:=.need (.prim [(W 23 0)] none) (.load 40 (.tmp 53)) 40 false FG
def Fi:Tr:=.need (.prim [(W 22 0)] none) (.fieldAddr 266 (.tmp 52) 2) 0 false Fu
def Df:Tr:=.need (.prim [(W 14 0)] none) (.nilCheck (.tmp 51)) 0 false Fi
def Di:Tr:=.need (.call 36 [(.agg [(U 17 0),(U 18 0),(U 19 0)]),(.agg [(U 2 0),(U 2 1),(U 2 2)])] [(some 3)]) (.call ⟨.value (.func 36),#[(.tmp 48),(.tmp 49)],#[39,39]⟩) 39 false Df
def EA:Tr:=.back 1 [(.w (W 28 0)),(.row 27)]
def CO:Tr:=.need (.prim [(W 10 0),(WK (1))] none) (.binOp .add 3 (.tmp 37) (.const (I3 (1))) 3) 3 false EA
def EL:Tr:=.need (.app 6 112 (some 11) none (some 26)) (.call ⟨.builtin .append,#[(.tmp 63),(.tmp 75)],#[118,118]⟩) 118 false CO
def Fa:Tr:=.need (.lit 6 [[(.u 25 0),(.u 25 1),(.u 25 2),(.u 25 3),(.u 25 4),(.u 25 5)]]) (.buildSlice 118 1 #[(0,(.tmp 74))]) 118 false EL
def EX:Tr:=.need (.call 229 [(.agg [(U 24 0),(U 24 1),(U 24 2),(U 24 3),(U 24 4),(U 24 5)]),(W 0 0)] [(some 6)]) (.call ⟨.value (.func 229),#[(.tmp 72),(.tmp 73)],#[123,3]⟩) 123 true Fa
def FR:Tr:=.need (.call 66 [(.agg [(U 21 0),(U 21 1),(U 21 2),(U 21 3),(U 21 4),(U 21 5)]),(.agg [(U 23 0),(U 23 1),(U 23 2),(U 23 3),(U 23 4),(U 23 5)])] [(some 6)]) (.call ⟨.value (.func 66),#[(.tmp 65),(.tmp 71)],#[123,123]⟩) 123 false EX
def Ep:Tr:=.need (.call 228 [(.agg [(U 22 0),(U 22 1),(U 22 2)])] [(some 6)]) (.call ⟨.value (.func 228),#[(.tmp 70)],#[39]⟩) 123 false FR
def Em:Tr:=.need (.call 133 [(W 14 0),(W 5 0),(W 6 0),(.agg [(U 4 0),(U 4 1),(U 4 2)])] [(some 3)]) (.call ⟨.value (.func 133),#[(.tmp 66),(.tmp 67),(.tmp 68),(.tmp 69)],#[194,3,3,39]⟩) 39 false Ep
def EK:Tr:=.need (.call 227 [(.agg [(U 17 0),(U 18 0),(U 19 0)])] [(some 6)]) (.call ⟨.value (.func 227),#[(.tmp 64)],#[39]⟩) 123 false Em
def Ga:Tr:=.split (.u 20 0) Di EK
def DG:Tr:=.need (.prim [(W 16 0),(W 6 0)] none) (.binOp .geq 3 (.tmp 43) (.tmp 44) 3) 4 false Ga
def FP:Tr:=.loop 2 [(.w (W 15 0)),(.w (.one (.c (.k (.slice none 0 0))))),(.w (.one (.c (.k (.bool false))))),(.w (.one (.c (.k (.slice none 0 0)))))] DG
def Hw:Tr:=.need (.prim [(W 5 0),(WK (1))] none) (.binOp .sub 3 (.tmp 41) (.const (I3 (1))) 3) 3 false FP
def Ho:Tr:=.need (.prim [(W 13 0)] none) (.load 194 (.tmp 39)) 194 false Hw
def Gv:Tr:=.need (.prim [(W 3 0),(W 10 0)] none) (.indexAddr 276 (.tmp 35) (.tmp 37)) 0 false Ho
def Gb:Tr:=.back 0 [(.w (W 15 0)),(.row 14)]
def FI:Tr:=.need (.prim [(W 6 0),(WK (1))] none) (.binOp .add 3 (.tmp 32) (.const (I3 (1))) 3) 3 false Gb
def Eh:Tr:=.need (.app 1 24 (some 7) none (some 13)) (.call ⟨.builtin .append,#[(.tmp 78),(.tmp 80)],#[109,109]⟩) 109 false FI
def ES:Tr:=.need (.lit 1 [[(.sr 6 11)]]) (.buildSlice 109 1 #[(0,(.tmp 79))]) 109 false Eh
def Gs:Tr:=.split (.u 12 0) Gv ES
def GX:Tr:=.need (.prim [(W 10 0),(W 9 0)] none) (.binOp .lss 3 (.tmp 37) (.tmp 36) 3) 0 false Gs
def GQ:Tr:=.loop 1 [(.w (WK (0))),.nilrow] GX
def Gw:Tr:=.need (.prim [(W 3 0)] none) (.call ⟨.builtin .len,#[(.tmp 35)],#[276]⟩) 3 false GQ
def DP:Tr:=.ret [(.one (.c (.sr 1 7)))]
def He:Tr:=.split (.u 8 0) Gw DP
def Hf:Tr:=.need (.prim [(W 6 0),(W 1 1)] none) (.binOp .lss 3 (.tmp 32) (.tmp 31) 3) 4 false He
def GL:Tr:=.loop 0 [(.w (WK (0))),.nilrow] Hf
def OB:kr prog 84 (fun _=>none) (cd [1,1,1,1] (dr f147)) [(2,.v none),(3,.ref 9),(4,.ref 3),(7,.v none),(8,.ref 3),(9,.v none)] f147.results.toList none true=GL:=by kernel_rfl
def gV(t:Rat)(a:List Rat)(d n:Nat):Nat->Rat
 | 0=>0
 | c+1=>gV t a d n c*t+a.getD (n-1-c) 0*((aq ((n-1-c:Nat):Int) d:Int):Rat)
def aQ2(q:List (List Rat))(m:Nat)(lead:Rat)(t:Rat)(n d l:Nat):Rat:=gV t (aN q m lead (aX m l) n) d n (n-d)
def yc(q:List (List Rat))(m:Nat)(lead aB:Rat)(st:Nat)(t:Rat)(n d l:Nat):Rat:=eI (jQ q m lead aB st l) aB n d t.abs
def KY(q:List (List Rat))(m:Nat)(lead aB:Rat)(st:Nat)(t:Rat)(k:Int)(n d l:Nat):Rat:=ki (aQ2 q m lead t n d l + -(yc q m lead aB st t n d l)) k.toNat
def JS(q:List (List Rat))(m:Nat)(lead aB:Rat)(st:Nat)(t:Rat)(k:Int)(n d l:Nat):Rat:=SK (aQ2 q m lead t n d l+yc q m lead aB st t n d l) k.toNat
abbrev aF5(q:List (List Rat))(m:Nat)(lead aB:Rat)(st:Nat)(t:Rat)(k:Int)(n d j:Nat):List (List aE):=(List.range j).map fun l=>dG (KY q m lead aB st t k n d l) (JS q m lead aB st t k n d l)
abbrev Vx(q:List (List Rat))(m:Nat)(lead aB:Rat)(st:Nat)(t:Rat)(k:Int)(n i:Nat):List (List aE):=(List.range i).map fun d=>[.slice 6 (aF5 q m lead aB st t k n d m)]
structure aD7(q:List (List Rat))(m:Nat)(lead aB:Rat)(st:Nat)(t:Rat)(n B BS G:Nat):Prop where
 yH:∀d,d<m->lS B aB n d t.abs
 sh:∀d,d<m->bh aB n d t.abs<1
 fb:∀l,l<m->Fit B (jQ q m lead aB st l)
 ft:∀l,l<m->∀d,d<m->Fit G (yc q m lead aB st t n d l)
 fc:∀l,l<m->∀x∈aN q m lead (aX m l) n,Fit BS x
 fs:∀l,l<m->∀d,d<m->∀c,c<=n-d->Fit BS (gV t (aN q m lead (aX m l) n) d n c)
 ff:∀i,i<n->∀d,d<m->∀j,j<=d->Fit B ((aq (i:Int) j:Int):Rat)
 h0:aB≠0
 hB:B<=1073741824
 h64:64<=B
 hBS:BS<=1073741824
 hG:G<=1073741824
 n15:n<=1073741824
 mn:m<=n
 ft1:Fit B t
def bs6(q:List (List Rat))(m:Nat)(lead aB:Rat)(st:Nat)(t:Rat)(k:Int)(n B BS G:Nat)(C:aD7 q m lead aB st t n B BS G)(hm:m<=64)(hk:k<=256):vc prog (fun o=>ep o (.ret [.one (.slice 1 (Vx q m lead aB st t k n m))])) (kr prog 84 (fun _=>none) (cd [1,1,1,1] (dr f147)) [(2,.v none),(3,.ref 9),(4,.ref 3),(7,.v none),(8,.ref 3),(9,.v none)] f147.results.toList none true) ([.v (.one (.int .i64 k)),.ref (vb q m lead aB (st:Nat)),.ref (qC t),.v (.one (.slice 1 ((List.range m).map fun l=>[.aj (ga q m lead aB st n l)]))),.ref (qC t.abs),.v (.one (.int .i64 n))].map In.env) []:=by
 rw[OB];dsimp only[List.map,In.env,aO,aP];obtain⟨hmn,hn15,hB,h64,hBS,hG,h0⟩:=(⟨C.mn,C.n15,C.hB,C.h64,C.hBS,C.hG,C.h0⟩:m<=n/\n<=1073741824/\B<=1073741824/\64<=B/\BS<=1073741824/\G<=1073741824/\aB≠0)
 refine ao {d:Nat // d<=m} (fun g=>[.one (.int .i64 g.1),.rows (Vx q m lead aB st t k n g.1)]) (fun g=>m-g.1) ⟨0,bO _⟩ aQ.rfl (fun _=>rfl) ?_;rintro⟨d,hd⟩;dsimp only[aO,aP]at hd|-;apply vn ak;refine vs _ rfl ?_ ?_<;>intro h2
 ·apply vn (aU HL (aR _));rw[mA];dsimp only[aO,aP];have hdm:d<m:=O
  refine ao {l:Nat // l<=m} (fun g=>[.one (.int .i64 g.1),.rows (aF5 q m lead aB st t k n d g.1)]) (fun g=>m-g.1) ⟨0,bO _⟩ aQ.rfl (fun _=>rfl) ?_;rintro⟨l,hl⟩;dsimp only[aO,aP]at hl|-;apply vn ak;refine vs _ rfl ?_ ?_<;>intro h6
  ·have hlm:l<m:=O
   have hrl:(List.range m)[l]?=some l:=gv hlm;apply vn (aZ HL hrl (cS l));apply vn (av ag6);apply vn aJ;dsimp only[aO,aP];have hal:=bE q m lead (aX m l) n;have hfs:=C.fs l hlm d hdm;have hfc:=C.fc l hlm
   refine ao {c:Nat // c<=n-d} (fun g=>(.one (.int .i64 ((n:Int)-1-(g.1:Int))):aG)::(qC (gV t (aN q m lead (aX m l) n) d n g.1)).map .one) (fun g=>n-d-g.1) ⟨0,bO _⟩ (by
    rw[show(n:Int)-1-((0:Nat):Int)=(n:Int)-1 by omega];exact⟨aG.Sub.same,pn⟩) (fun _=>rfl) ?_
   rintro⟨c,hc⟩;dsimp only[aO,aP,List.map]at hc|-;apply vn fO;refine vs _ rfl ?_ ?_<;>intro h12
   ·have hci:c<n-d:=O
    obtain⟨i,hi⟩:∃i,n-1-c=i:=⟨_,rfl⟩
    have hii:(n:Int)-1-(c:Int)=(i:Int):=O
    have hia:i<(aN q m lead (aX m l) n).length:=O
    have hfx:=hfc _ (bc (bX hia));have hff:=C.ff i O d hdm;apply aA (bg _ _ BS B (hfs c hc) C.ft1);apply vn Jm;apply vn (lk JK (by decide));apply vn (t:=.one (sQ (aN q m lead (aX m l) n))) (bB bb1 (by decide) (by exact Nat.succ_le_succ (bO _)) (.inr rfl));dsimp only[aO,aP];apply vn (aZ sD (bX hia) (show((n:Int)-1-(c:Int)).toNat=i by omega));apply vn (bB ov (by decide) (by simp) (.inl rfl));dsimp only[aO,aP];rw[hii];apply aA (iv (i:Int) d B h64 hff);apply aA (bg _ _ BS B hfx (hff d (aY _)));apply aA (iU _ _ (BS+B) (BS+B) ((hfs c hc).mul C.ft1) (hfx.mul (hff d (aY _))));rw[show gV t (aN q m lead (aX m l) n) d n c*t+((aN q m lead (aX m l) n)).getD i 0*((aq (i:Int) d:Int):Rat)=gV t (aN q m lead (aX m l) n) d n (c+1) by rw[gV,hi]];apply vn aJ;dsimp only[aO,aP];exact aW rfl ⟨⟨c+1,O⟩,aQ.of_eq (by dsimp only;rw[show(n:Int)-1-((c+1:Nat):Int)=(i:Int)-1 by omega];rfl),by show n-d-(c+1)<n-d-c;omega⟩
   have hcd:c=n-d:=O
   subst hcd;apply aA (aU9 (gV t (aN q m lead (aX m l) n) d n (n-d)));apply aA (Br (eQ q) (.int .i64 m) (dT lead.num.natAbs) (.bool (decide (lead.num<0))) (dT (lead.den-1)) aB st (aX m l) (aN q m lead (aX m l) n) (jQ q m lead aB st l) n d t.abs B (C.yH d hdm) h0 (C.fb l hlm) (C.sh d hdm));apply aA (ta (eI (jQ q m lead aB st l) aB n d t.abs));dsimp only[aO,aP];have hft:=C.ft l hlm d hdm;apply aA (sn (gV t (aN q m lead (aX m l) n) d n (n-d)) (gV t (aN q m lead (aX m l) n) d n (n-d)) (-(yc q m lead aB st t n d l)) (yc q m lead aB st t n d l) BS G (hfs _ (aY _)) (hfs _ (aY _)) hft.neg hft);apply aA (Jv _ _ k (BS+G+1) hk ((hfs _ (aY _)).add hft.neg) ((hfs _ (aY _)).add hft));rw[show ki (gV t (aN q m lead (aX m l) n) d n (n-d) + -(yc q m lead aB st t n d l)) k.toNat=KY q m lead aB st t k n d l from rfl,show SK (gV t (aN q m lead (aX m l) n) d n (n-d)+yc q m lead aB st t n d l) k.toNat=JS q m lead aB st t k n d l from rfl];apply bF (us:=[dG (KY q m lead aB st t k n d l) (JS q m lead aB st t k n d l)]);refine oH (xs:=List.range l) (x:=l) (f:=fun l=>dG (KY q m lead aB st t k n d l) (JS q m lead aB st t k n d l)) rfl rfl (by rw[mA];omega) (by rw[mA];simp only[maxLen];omega) ?_;rw[<-mM];apply vn aC;dsimp only[aO,aP];exact aW rfl ⟨⟨l+1,O⟩,aQ.rfl,by show m-(l+1)<m-l;omega⟩
  obtain rfl:l=m:=O
  apply bF (us:=[[.slice 6 (aF5 q l lead aB st t k n d l)]]);refine oH (xs:=List.range d) (x:=d) (f:=fun d=>[.slice 6 (aF5 q l lead aB st t k n d l)]) rfl rfl (by rw[mA];omega) (by rw[mA];simp only[maxLen];omega) ?_;rw[<-mM];apply vn aC;dsimp only[aO,aP];exact aW rfl ⟨⟨d+1,O⟩,aQ.rfl,by show l-(d+1)<l-d;omega⟩
 obtain rfl:d=m:=O
 exact aK
def Halt(p:Prop):Prop:=p
def Ie{M:Nat->Prop}{n0 m:Nat}{W:World}{C:Nat->List aE}{bv:Value}{ps:List Nat}(I:mf M n0 W C bv ps)(hpl:ps.length=m)(hM:∀k,M k->k<n0):(aE.slice 1 ((List.range m).map fun l=>[aE.aj (C l)])).rep M W bv:=by
 have hkM:bP (rI M ps bv) W M W:=fun b o hb ho _=>⟨fun h=>hb (.inl (.inl h)),ho⟩
 rcases I.sl.2 with⟨rfl,h⟩ | ⟨g,cap,cur,rfl,h2,h3,h4,h5,h6,h7⟩
 ·obtain rfl:m=0:=O
  exact⟨none,0,rfl,aY _,by simp[maxLen],.inl rfl⟩
 ·rw[hpl,Nat.mul_one]at h7;refine⟨some ⟨g,0,none⟩,cap,by rw[aR,mA,hpl],by rw[aR,mA];omega,h5,.inr ⟨g,0,cur,194,(0,0),rfl,fun h=>by have:=hM g h;omega,h3,fun i t ht=>?_⟩⟩;rw[cC]at ht
  have hi:i<m:=by
   rcases Nat.lt_or_ge i m with h | h
   ·exact h
   ·rw[fD (by rw[mA];exact h)]at ht;cases ht
  rw[gv hi]at ht;simp only[cf,aI]at ht;subst ht;obtain⟨b,hb⟩:∃b,ps[i]?=some b:=⟨_,ay O⟩
  have hc:cur.toList[i]?=some (.pointer (some ⟨b,0,none⟩)):=by
   have h:(cur.toList.take m)[i]?=some (.pointer (some ⟨b,0,none⟩)):=by rw[h7,cC,hb];rfl
   rwa[eo,if_pos hi]at h
  have hd:(cur.toList.drop (0+i*1)).take 1=[.pointer (some ⟨b,0,none⟩)]:=by
   obtain⟨h8,h9⟩:=dn.1 hc;rw[Nat.zero_add,Nat.mul_one,pC h8,h9];rfl
  obtain⟨us,hu,hr⟩:=I.cells i b hb;refine⟨rfl,?_⟩;rw[hd];refine⟨⟨b,0,us,266,(0,0),rfl,fun h=>by have:=hM b h;have:=(I.lo b (bc hb)).1;omega,hu,?_⟩,trivial⟩;rw[eF,List.take_of_length_le (oU hr.length.symm)];exact hr.mono hkM
set_option maxRecDepth 100000 in
def Va(M:Nat->Prop)(w:World)(hM:cX M w)(q:List (List Rat))(m:Nat)(lead aB:Rat)(st:Nat)(t:Rat)(k:Int)(Ns Bs B G:Nat)(hm1:1<=m)(hk:k<=256)(goal:Rat)(hgq:mkRat 1 (2^k.toNat)*mkRat 1 (2^2)=goal)
  (T:zM q m lead aB st t.abs goal (m-1) B G) (out:Option Nat) (L:uf (Ps q m lead aB st t.abs goal (m-1)) m st out) (BS:Nat) (MC:∀N,out=some N->aD7 q m lead aB st t N B BS G)
  (hst15:st<=Ns) (SC:∀l,l<m->gm Bs q m lead (aX m l) Ns) (hNs:Ns<=1073741824) (hN15:1500<=Ns) (hm:m<=64) (hBs:Bs<=4294967296) (h64:64<=Bs) (hql:q.length=m+1) (hp:∀p∈q,p.length<1048576) (hl0:lead≠0) (hw:m+aa q<=st) (hrho:∀j,j<=2*st+1->Fit Bs (aB^j))
  (u0 u1 u2 u3 u4 u5 u6 u7 u8:Value) (ha:ab M w (vb q m lead aB (st:Nat)) [u0,u1,u2,u3,u4,u5,u6,u7,u8]) (t0 t1 t2:Value) (ht:ab M w (qC t) [t0,t1,t2]) :
  Calls prog 147 #[.agg #[u0,u1,u2,u3,u4,u5,u6,u7,u8],.agg #[t0,t1,t2],.int .i64 k] w fun e w'=>Below w.heap.size w w'/\match out with
   | some n=>∃v,e=.returned v/\(aE.slice 1 (Vx q m lead aB st t k n m)).rep M w' v
   | none=>e=.panicked [{ v:=QS 5,recovered:=false }]:=by
 obtain⟨o0,o1,o2,o3,o4,o5,o6,o7,o8⟩:u0.oneCell'=true/\u1.oneCell'=true/\u2.oneCell'=true/\u3.oneCell'=true/\u4.oneCell'=true/\u5.oneCell'=true/\u6.oneCell'=true/\u7.oneCell'=true/\u8.oneCell'=true:=by
  have:=ha.one;exact⟨this _ (by simp),this _ (by simp),this _ (by simp),this _ (by simp),this _ (by simp),this _ (by simp),this _ (by simp),this _ (by simp),this _ (by simp)⟩
 obtain⟨p0,p1,p2⟩:t0.oneCell'=true/\t1.oneCell'=true/\t2.oneCell'=true:=by have:=ht.one;exact⟨this _ (by simp),this _ (by simp),this _ (by simp)⟩
 have e1:u1=.int .i64 m:=ha.2.1.1;subst e1;refine iE func147 rfl ?_;simp only[ntmps147,dW,List.length_cons,bq,Nat.reduceAdd,Nat.reduceSub,dw,dv,du,dz,List.nil_append,List.cons_append];obtain⟨n0,hn0⟩:∃n0,w.heap.size=n0:=⟨_,rfl⟩
 obtain⟨W1,hW1⟩:∃W1,(w.alloc (.cells #[u0,.int .i64 m,u2,u3,u4,u5,u6,u7,u8] 185)).alloc (.cells #[t0,t1,t2] 39)=W1:=⟨_,rfl⟩
 have hs1:W1.heap.size=n0+2:=by rw[<-hW1];simp[hn0]
 have hB1:Below w.heap.size w W1:=by rw[<-hW1];exact((cF _ w).alloc (aY _) _).alloc (by simp) _
 have hA1:W1.heap[n0]?=some (.cells #[u0,.int .i64 m,u2,u3,u4,u5,u6,u7,u8] 185 (0,0)):=by rw[<-hW1,bM _ _ _ (by simp;omega),<-hn0];exact bG w _
 have hT1:W1.heap[n0+1]?=some (.cells #[t0,t1,t2] 39 (0,0)):=by
  rw[<-hW1];have:=bG (w.alloc (.cells #[u0,.int .i64 m,u2,u3,u4,u5,u6,u7,u8] 185)) (.cells #[t0,t1,t2] 39)
  rwa[bL,hn0]at this
 have hM1:cX M W1:=⟨fun b hb=>Nat.lt_of_lt_of_le (hM.1 b hb) hB1.size,hM.2.below rfl hB1⟩
 have ha1:=ha.mono (bP.below hB1);have hbas:=Na M W1 hM1 q m lead aB st Ns Bs SC hNs hm hBs h64 hql hp hl0 hw hrho u0 (.int .i64 m) u2 u3 u4 u5 u6 u7 u8 ha1;have c0:W1.cell? ⟨n0,0,none⟩=some u0:=aD hA1 rfl;have c1:W1.cell? ⟨n0,1,none⟩=some (.int .i64 m):=aD hA1 rfl;have c2:W1.cell? ⟨n0,2,none⟩=some u2:=aD hA1 rfl;have c3:W1.cell? ⟨n0,3,none⟩=some u3:=aD hA1 rfl;have c4:W1.cell? ⟨n0,4,none⟩=some u4:=aD hA1 rfl;have c5:W1.cell? ⟨n0,5,none⟩=some u5:=aD hA1 rfl;have c6:W1.cell? ⟨n0,6,none⟩=some u6:=aD hA1 rfl;have c7:W1.cell? ⟨n0,7,none⟩=some u7:=aD hA1 rfl;have c8:W1.cell? ⟨n0,8,none⟩=some u8:=aD hA1 rfl
 go_wp2_with (go_at_call 225;refine hbas.mono ?_)
 rintro e w2 ⟨bv,ps,rfl,hpl,hb2,I⟩;have hB2:Below w.heap.size w w2:=hB1.trans (hb2.mono hB1.size);have hf2:=I.Kf hM1 (aY _) hb2;have hw2:=hb2.size
 have hlt:∀b,rI M ps bv b->M b\/n0+2<=b:=by
  rintro b ((h | h) | h)
  ·exact .inl h
  ·exact .inr (by have:=(I.lo b h).1;omega)
  ·exact .inr (by have:=(I.sl.lt b h).1;omega)
 have hk2:bP M w (rI M ps bv) w2:=fun b o hb ho _=>by
  have hl:=(cK.1 ho).1;exact⟨fun h=>(hlt b h).elim hb O,(hB2.block b hl).trans ho⟩
 have hA2:w2.heap[n0]?=some (.cells #[u0,.int .i64 m,u2,u3,u4,u5,u6,u7,u8] 185 (0,0)):=(hb2.block n0 O).trans hA1;have hT2:w2.heap[n0+1]?=some (.cells #[t0,t1,t2] 39 (0,0)):=(hb2.block (n0+1) O).trans hT1
 have hba:Calls prog 146 #[.agg #[t0,t1,t2]] w2 fun e w'=>Below w2.heap.size w2 w'/\∃r0 r1 r2,e=.returned (.agg #[r0,r1,r2])/\ab (rI M ps bv) w' (qC t.abs) [r0,r1,r2]:=by
  refine((yD t).2 (rI M ps bv) w2 [.agg #[t0,t1,t2]] hf2 ⟨⟨_,rfl,ht.mono hk2⟩,trivial⟩).mono ?_;rintro e w' ⟨hb,vs,rfl,hvs⟩;obtain⟨us,e1,hus⟩:=bp3 hvs;obtain⟨g0,g1,g2,rfl⟩:=ZA hus;exact⟨hb,g0,g1,g2,by rw[e1],hus⟩
 have d0:w2.cell? ⟨n0+1,0,none⟩=some t0:=aD hT2 rfl;have d1:w2.cell? ⟨n0+1,1,none⟩=some t1:=aD hT2 rfl;have d2:w2.cell? ⟨n0+1,2,none⟩=some t2:=aD hT2 rfl
 go_wp2_with (go_at_call 146;refine hba.mono ?_)
 rintro e w3 ⟨hb3,r0,r1,r2,rfl,hr3⟩;obtain⟨x0,x1,x2⟩:r0.oneCell'=true/\r1.oneCell'=true/\r2.oneCell'=true:=by have:=hr3.one;exact⟨this _ (by simp),this _ (by simp),this _ (by simp)⟩
 have hA3:w3.heap[n0]?=some (.cells #[u0,.int .i64 m,u2,u3,u4,u5,u6,u7,u8] 185 (0,0)):=(hb3.block n0 O).trans hA2
 go_wp2
 have hnew:=bG w3 (.cells #[.slice none 0 0,.bool false,.slice none 0 0] 39);rw[ur hnew x0 x1 x2];obtain⟨w4,hw4⟩:∃w4,(w3.alloc (.cells #[.slice none 0 0,.bool false,.slice none 0 0] 39)).setRow w3.heap.size #[r0,r1,r2]=w4:=⟨_,rfl⟩
 have hB34:Below w3.heap.size w3 w4:=by rw[<-hw4];exact below_setRow ((cF _ w3).alloc (aY _) _) _ (aY _)
 have hR4:w4.heap[w3.heap.size]?=some (.cells #[r0,r1,r2] 39 (0,0)):=by rw[<-hw4];exact cJ _ _ _ _ _ _ hnew
 have hw3:=hb3.size;have hA4:w4.heap[n0]?=some (.cells #[u0,.int .i64 m,u2,u3,u4,u5,u6,u7,u8] 185 (0,0)):=(hB34.block n0 O).trans hA3;have hT4:w4.heap[n0+1]?=some (.cells #[t0,t1,t2] 39 (0,0)):=(hB34.block (n0+1) O).trans ((hb3.block (n0+1) O).trans hT2);have hB24:Below w2.heap.size w2 w4:=hb3.trans (hB34.mono hb3.size);have hB14:Below W1.heap.size W1 w4:=hb2.trans (hB24.mono hb2.size);have hter:=NL Ns Bs M W1 w4 hM1 hB14 q m lead aB st t.abs (m-1) k B G bv ps hm1 hk goal hgq T out L ((I.grow hb3).grow hB34) hpl hst15 SC hNs hN15 hm hBs h64 hql hp hl0 r0 r1 r2 (hr3.mono (bP.below hB34));rw[show(((m-1:Nat)):Int)=(m:Int)-1 by omega]at hter;have q0:w4.cell? ⟨w3.heap.size,0,none⟩=some r0:=aD hR4 rfl;have q1:w4.cell? ⟨w3.heap.size,1,none⟩=some r1:=aD hR4 rfl;have q2:w4.cell? ⟨w3.heap.size,2,none⟩=some r2:=aD hR4 rfl;have q3:w4.cell? ⟨n0,1,none⟩=some (.int .i64 m):=aD hA4 rfl;rw[hw4]
 go_wp2_with (go_at_call 226;refine hter.mono ?_)
 ·rename_i KK K2 out1 L1 N L2 QQ hKK hK2;rintro e w5 rfl tu I5;have hww4:=hB24.size;have hps:∀b∈ps,n0+2<=b:=fun b hb=>by have:=(I.lo b hb).1;omega
  have hB5:Below w.heap.size w w5:=tu.low (hB1.trans (hB14.mono hB1.size)) O (fun b hb=>by have:=hps b hb;omega);have hM5:cX M w5:=⟨fun b hb=>Nat.lt_of_lt_of_le (hM.1 b hb) hB5.size,hM.2.below rfl hB5⟩
  have hn5:∀j,j<n0+2->j ∉ ps:=fun j hj h=>by have:=hps j h;omega
  have hA5:w5.heap[n0]?=some (.cells #[u0,.int .i64 m,u2,u3,u4,u5,u6,u7,u8] 185 (0,0)):=(tu.block n0 O (hn5 _ O)).trans hA4;have hT5:w5.heap[n0+1]?=some (.cells #[t0,t1,t2] 39 (0,0)):=(tu.block (n0+1) O (hn5 _ O)).trans hT4;have hR5:w5.heap[w3.heap.size]?=some (.cells #[r0,r1,r2] 39 (0,0)):=(tu.block w3.heap.size (by rw[<-hw4];simp[World.setRow]) (fun h=>by have:=(I.lo _ h).2;omega)).trans hR4;have hr4:=hr3.mono (bP.below hB34);have hk45:bP (rI M ps bv) w4 M w5:=fun b o hb ho _=>⟨fun h=>hb (.inl (.inl h)),(tu.block b (cK.1 ho).1 (fun h=>hb (.inl (.inr h)))).trans ho⟩
  have hKH:Halt _:=hKK;clear hKK
  go_wp2
  refine hKH _ _ ?_
  refine aC7 (N:=84) (ins:=[(2,.v none),(3,.ref 9),(4,.ref 3),(7,.v none),(8,.ref 3),(9,.v none)]) (xs:=[.v (.one (.int .i64 k)),.ref (vb q m lead aB (st:Nat)),.ref (qC t),.v (.one (.slice 1 ((List.range m).map fun l=>[.aj (ga q m lead aB st N l)]))),.ref (qC t.abs),.v (.one (.int .i64 N))]) fo ⟨rfl,rfl,rfl,rfl,rfl,rfl,trivial⟩
   (bs6 q m lead aB st t k N B BS G (MC N rfl) hm hk) (by kernel_rfl) hM5 rfl rfl
   ⟨⟨rfl,rfl⟩,⟨n0,0,_,_,_,rfl,fun h=>by have:=hM.1 _ h;omega,hA5,ha.mono (bP.below hB5)⟩,⟨n0+1,0,_,_,_,rfl,fun h=>by have:=hM.1 _ h;omega,hT5,ht.mono (bP.below hB5)⟩,Ie I5 hpl (fun k h=>by have:=hM.1 k h;omega),⟨w3.heap.size,0,_,_,_,rfl,fun h=>by have:=hM.1 _ h;omega,hR5,hr4.mono hk45⟩,⟨rfl,rfl⟩,trivial⟩ ?_ (by intro c v a' w' h;cases h)
  intro e a' w' rs us hrs hex hB hsz hdf hrun hus;cases hrs
  have key:a'.defers=[]/\∃v,(results f147 a'.tmps).run prog w'=.ok v w'/\(Below w.heap.size w w'/\∃v',Ending.returned v=.returned v'/\(aE.slice 1 (Vx q m lead aB st t k N m)).rep M w' v'):=by
   obtain⟨v,hv,hrep⟩:=VR hus;exact⟨hdf,_,jH f147 a'.tmps us hrun,hB5.trans (hB.mono hB5.size),v,by rw[hv],hrep⟩
  cases e with
  | normal=>exact key
  | ret=>exact key
  | exit id=>cases hex
 ·rintro e w5 rfl hb5;exact⟨rfl,hB1.trans (hb5.mono O),rfl⟩
end Go.Sy
namespace Go.Sy
open Go Go.Proofs Tryz Ord
def av5{q:Rat}{S k:Nat}(h:q.num.natAbs<=S*q.den):(Pt (q*kF k)).natAbs<=S*2^k:=by
 rw[az2];obtain⟨p,hp⟩:∃p:Nat,2^k=p:=⟨_,rfl⟩
 rw[hp];have hd:(0:Int)<(q.den:Int):=by have:=q.den_pos;omega
 have h1:q.num<=(S:Int)*(q.den:Int):=by have:(q.num.natAbs:Int)<=((S*q.den:Nat):Int):=by exact_mod_cast h
                                        rw[Int.natCast_mul]at this;omega
 have h2:-((S:Int)*(q.den:Int))<=q.num:=by have:(q.num.natAbs:Int)<=((S*q.den:Nat):Int):=by exact_mod_cast h
                                           rw[Int.natCast_mul]at this;omega
 have hp0:(0:Int)<=(p:Int):=LI _
 have h3:q.num*(p:Int)<=(S:Int)*(p:Int)*(q.den:Int):=by
  have:=SI h1 hp0;rw[Int.mul_right_comm]at this;exact this
 have h4:-((S:Int)*(p:Int))*(q.den:Int)<=q.num*(p:Int):=by
  have:=SI h2 hp0;rw[qo,Int.mul_right_comm]at this;rw[qo];exact this
 have h5:q.num*(p:Int)/(q.den:Int)<=(S:Int)*(p:Int):=by
  have:=Int.ediv_le_ediv hd h3
  rwa[Int.mul_ediv_cancel _ O]at this
 have h6:-((S:Int)*(p:Int))<=q.num*(p:Int)/(q.den:Int):=by
  have:=Int.ediv_le_ediv hd h4
  rwa[Int.mul_ediv_cancel _ O]at this
 have h7:(((S*p:Nat)):Int)=(S:Int)*(p:Int):=Int.natCast_mul _ _;omega
def yi{q:Rat}{S k H:Nat}(h:q.num.natAbs<=S*q.den)(h1:S*2^k<2^H)(h2:2^k<2^H):Fit H (ki q k):=by
 have e:ki q k=mkRat (Pt (q*kF k)) (2^k):=by rw[ki,qm,qm];grind
 rw[e];exact Fit.mkRat (Nat.lt_of_le_of_lt (av5 h) h1) h2 (eV.1 (Nat.pow_pos O))
def Uk{q:Rat}{S k H:Nat}(h:q.num.natAbs<=S*q.den)(h1:S*2^k<2^H)(h2:2^k<2^H):Fit H (SK q k):=by
 rw[<-WH];exact(yi (q:=-q) (by show(-q.num).natAbs<=S*q.den;rw[Int.natAbs_neg];exact h) h1 h2).neg
theorem NZ{t:Rat}{a:List Rat}{d n D S E T F:Nat}(h0:D≠0)(h1:E≠0)(ha:∀x∈a,Bd D S x)(ht:Bd E T t)(hT:1<=T)(hF:∀i:Nat,i<n->(aq (i:Int) d).natAbs<=F)(hn:0<n):∀c,Bd (D*E^c) (c*(S*F*T^c)) (gV t a d n c)
 | 0=>Bd.zero
 | c+1=>by
   have ih:=NZ h0 h1 ha ht hT hF hn c;have hE:E^c≠0:=eV.1 (Nat.pow_pos (pQ h1));have hm:=ih.mul (Nat.mul_ne_zero h0 hE) h1 ht;have hx:=(ij ha (n-1-c)).mul h0 (E:=1) O (Bd.int (hF (n-1-c) O));rw[gV];have e1:D*E^c*E=D*E^(c+1):=by rw[Nat.pow_succ,Nat.mul_assoc]
   have e2:c*(S*F*T^c)*T=c*(S*F*T^(c+1)):=by rw[Nat.pow_succ,Nat.mul_assoc,Nat.mul_assoc (S*F)]
   rw[e1,e2]at hm;have hx':=hx.mono (E:=D*E^(c+1)) (T:=S*F*T^(c+1)) (by rw[Nat.mul_one];exact qL _ _) (Nat.le_mul_of_pos_right _ (Nat.pow_pos hT));have:=hm.add (Nat.mul_ne_zero h0 (eV.1 (Nat.pow_pos (pQ h1)))) hx';rw[Nat.add_mul,Nat.one_mul];exact this
def Rv{D E c n a e:Nat}(hD:D<=2^a)(hE:E<=2^e)(hc:c<=n):D*E^c<=2^(a+e*n):=by
 rw[Nat.pow_add,iA];exact cV hD (Nat.le_trans (eP hE c) (Nat.pow_le_pow_right (Nat.pow_pos O) hc))
def Qm{S T F c n b f g:Nat}(hS:S<=2^b)(hT:T<=2^f)(hF:F<=2^g)(hc:c<=n)(hn:n<=2^11):c*(S*F*T^c)<=2^(11+(b+g+f*n)):=by
 rw[Nat.pow_add 2 11,Nat.pow_add 2 (b+g),Nat.pow_add 2 b,iA];exact cV (Nat.le_trans hc hn) (cV (cV hS hF) (Nat.le_trans (eP hT c) (Nat.pow_le_pow_right (Nat.pow_pos O) hc)))
def KS{x y B:Nat}(h:x<=2^y)(hB:y<B:=by omega):x<2^B:=Nat.lt_of_le_of_lt h (mP O hB)
def am6(a b:Rat):a<=gZ [a,b] 2:=by
 have h1:gZ [a,b] 1=a:=by rw[gZ,if_pos (.inl rfl)];rfl
 rw[gZ,h1];split
 ·rename_i h;rcases h with h | h
  ·omega
  ·exact vk h
 ·exact cr
theorem JI(a:List Rat)(aB:Rat)(n0:Nat):∀k,0<=JW a aB n0 k
 | 0=>by show(0:Rat)<=0;grind
 | k+1=>by
   have ih:=JI a aB n0 k;rw[JW];exact cq ih (am6 _ _)
def aj4{b aB r:Rat}{n d:Nat}(hb:0<=b)(h0:0<aB)(hr:0<=r)(h1:bh aB n d r<1)(hd:d<=n:=by omega):0<=eI b aB n d r:=by
 have hu0:0<=Gj aB n d r:=lH (gX (qJ.2 (wH d hd)) (Bw hr)) (rn h0);have one:((1:Int):Rat)=1:=by decide +kernel
 show 0<=b*Gj aB n d r/(((1:Int):Rat)-bh aB n d r);rw[one];exact lH (gX hb hu0) (by grind)
def vu{aB r:Rat}{n d:Nat}(h0:0<aB)(hr:0<=r)(h2:r+r<=aB)(hd:2*d<n+1:=by omega):bh aB n d r<1:=by
 unfold bh;have hz:(0:Rat)<(((n:Int)+1-d:Int):Rat):=oQ.2 O;have hw:(0:Rat)<(((n:Int)+1:Int):Rat):=oQ.2 O
 have hlt:(((n:Int)+1:Int):Rat)<(((n:Int)+1-d:Int):Rat)+(((n:Int)+1-d:Int):Rat):=by
  rw[<-Rat.intCast_add];exact Rat.intCast_lt_intCast.2 O
 generalize (((n:Int)+1-d:Int):Rat)=z at *;generalize (((n:Int)+1:Int):Rat)=w at *;have hz0:z≠0:=by grind
 have hr0:aB≠0:=by grind
 have e:w/z*(r/aB)=(w*r)/(z*aB):=by
  have h1:w/z*z=w:=pH hz0;have h2:r/aB*aB=r:=pH hr0;have hzr:z*aB≠0:=fun e=>(wM.1 e).elim hz0 hr0;have h3:w*r/(z*aB)*(z*aB)=w*r:=pH hzr;have h4:w/z*(r/aB)*(z*aB)=w*r:=by rw[show w/z*(r/aB)*(z*aB)=(w/z*z)*(r/aB*aB) by grind,h1,h2]
  have h5:(w/z*(r/aB)-w*r/(z*aB))*(z*aB)=0:=by grind
  rcases wM.1 h5 with h6 | h6
  ·grind
  ·exact(hzr h6).elim
 rw[e];have hzr:0<z*aB:=Rat.mul_pos hz h0
 have key:w*r<z*aB:=by
  have k1:w*r<=w*(r+r)/2:=by grind
  rcases Classical.em (r=0)with h | h
  ·subst h;grind
  ·have hrp:0<r:=by grind
   have k2:=at2 hlt hrp;have k3:z*(r+r)<=z*aB:=qF h2 (by grind)
   grind
 have h7:w*r/(z*aB)*(z*aB)=w*r:=pH (by grind);rcases Classical.em (w*r/(z*aB)<1)with h | h
 ·exact h
 ·have h8:1<=w*r/(z*aB):=by grind
  have h9:=HS h8 (by grind:0<=z*aB)
  grind
def rL(t:Rat):0<=t.abs:=by
 obtain⟨h1,h2⟩:=lg t;refine KT.1 ?_;rw[h1];omega
open Go Go.Proofs Go.RowKit Tryz Ord
attribute [local go_sem] Oper.semAt_some
def aK8{M:Nat->Prop}{w:World}{q:List (List Rat)}{m:Nat}{lead aB:Rat}{st:Int}{vs:List Value}(h:ab M w (vb q m lead aB st) vs):∃u0 u1 u2 u3 u4 u5 u6 u7 u8,vs=[u0,u1,u2,u3,u4,u5,u6,u7,u8]:=bx2 h
section
variable(q:List (List Rat))(m:Nat)(lead aB:Rat)(st:Nat)(t:Rat)(k:Int)(Ns Bs B G BS:Nat)(goal:Rat)(out:Option Nat)
structure aL5:Prop where
 hm1:1<=m
 hk:k<=256
 hgq:mkRat 1 (2^k.toNat)*mkRat 1 (2^2)=goal
 T:zM q m lead aB st t.abs goal (m-1) B G
 L:uf (Ps q m lead aB st t.abs goal (m-1)) m st out
 MC:∀N,out=some N->aD7 q m lead aB st t N B BS G
 hst15:st<=Ns
 SC:∀l,l<m->gm Bs q m lead (aX m l) Ns
 hNs:Ns<=1073741824
 hN15:1500<=Ns
 hm:m<=64
 hBs:Bs<=4294967296
 h64:64<=Bs
 hql:q.length=m+1
 hp:∀p∈q,p.length<1048576
 hl0:lead≠0
 hw:m+aa q<=st
 hrho:∀j,j<=2*st+1->Fit Bs (aB^j)
def Qh(out:Option Nat):Out:=match out with
 | some n=>.ret [.one (.slice 1 (Vx q m lead aB st t k n m))]
 | none=>.pan (CD 5)
end
def IL{q:List (List Rat)}{m:Nat}{lead aB:Rat}{st:Nat}{t:Rat}{k:Int}{Ns Bs B G BS:Nat}{goal:Rat}{out:Option Nat}(C:aL5 q m lead aB st t k Ns Bs B G BS goal out) :
  aL prog 147 [.agg (vb q m lead aB (st:Nat)),qT t,.one (.int .i64 k)] (Qh q m lead aB st t k out):=by
 refine⟨bJ (by kernel_rfl),fun M w vs hM hv=>?_⟩
 match vs,hv with
 | [a,tv,kv],hv=>
   obtain⟨us,rfl,hus⟩:=hv.1;obtain⟨u0,u1,u2,u3,u4,u5,u6,u7,u8,rfl⟩:=aK8 hus;obtain⟨ts,rfl,hts⟩:=hv.2.1;obtain⟨t0,t1,t2,rfl⟩:=ZA hts;have hk:kv=.int .i64 k:=hv.2.2.1.1;subst hk;refine(Va M w hM q m lead aB st t k Ns Bs B G C.hm1 C.hk goal C.hgq C.T out C.L BS C.MC C.hst15 C.SC C.hNs C.hN15 C.hm C.hBs C.h64 C.hql C.hp C.hl0 C.hw C.hrho u0 u1 u2 u3 u4 u5 u6 u7 u8 hus t0 t1 t2 hts).mono ?_;rintro e w' ⟨hb,h⟩;refine⟨hb,?_⟩;cases out with
   | some n=>
     obtain⟨v,rfl,hr⟩:=h;exact⟨[v],rfl,hr,trivial⟩
   | none=>
     subst h;exact⟨QS 5,rfl,⟨rfl,rfl⟩⟩
 | [],hv=>exact hv.elim
 | [_],hv=>exact hv.2.elim
 | [_,_],hv=>exact hv.2.2.elim
 | _::_::_::_::_,hv=>exact hv.2.2.2.elim
end Go.Sy
namespace Go.Sy
open Go Go.Proofs Tryz Ord
def Bd.abs{D S:Nat}{q:Rat}(h:Bd D S q):Bd D S q.abs:=by
 obtain⟨h1,h2⟩:=lg q;exact⟨by rw[h2];exact h.1,by rw[h1,h2,Int.natAbs_natCast];exact h.2⟩
def IU{t:Rat}{a:List Rat}{d n N D S E T F c p b e f g B y:Nat}(hy:11+(b+g+f*N)<=y)(h0:D≠0)(h1:E≠0)(ha:∀x∈a,Bd D S x)(ht:Bd E T t)(hT:1<=T)(hF:∀i:Nat,i<n->(aq (i:Int) d).natAbs<=F)(hn:0<n)(hc:c<=N)(hN:N<=2^11)
  (hD:D<=2^p) (hS:S<=2^b) (hE:E<=2^e) (hTT:T<=2^f) (hFF:F<=2^g) (hB:p+e*N+(11+(b+g+f*N))<B:=by omega) :
  Fit B (gV t a d n c)/\(gV t a d n c).num.natAbs<=2^y*(gV t a d n c).den:=by
 have h:=NZ h0 h1 ha ht hT hF hn c;have r1:=Rv hD hE hc;have r2:=Qm hS hTT hFF hc hN;refine⟨h.fit (Nat.mul_ne_zero h0 (eV.1 (Nat.pow_pos (pQ h1)))) (KS r1) ?_,Nat.le_trans h.2 (Nat.mul_le_mul_right _ (Nat.le_trans r2 (Nat.pow_le_pow_right O hy)))⟩;refine KS (y:=(11+(b+g+f*N))+(p+e*N)) ?_;rw[Nat.pow_add];exact cV r2 r1
def II{b aB r:Rat}{n d B Bm:Nat}(C:lS Bm aB n d r)(hb:Fit B b)(h64:64<=Bm:=by omega)(hn:n<1099511627776:=by omega)(hd:d<=n:=by omega):Fit (B+(Bm+Bm+Bm)+(64+(128+(Bm+Bm))+1)) (eI b aB n d r):=by
 have hff:=C.ff d (aY _);have hfr:=C.fr (n-d) O;have hfo:=C.fo n O;have hsh:=C.sh O O;exact(hb.mul ((hff.mul hfr).div hfo)).div ((Fit.int O O).sub hsh)
def jI(h:Nat):0<ah h:=by
 have h1:=rh h
 have h2:0<=ah h:=by
  unfold ah;refine gX (by decide +kernel) ?_;rw[qm]
  exact lH (qJ.2 O) (by
   have:=Nat.pow_pos (n:=h) (show 0<2 by omega);exact oQ.2 O)
 grind
def Tb{x y:Rat}{S:Nat}(hx:x.num.natAbs<=S*x.den)(hy:y.num.natAbs<=S*y.den):(x+y).num.natAbs<=(S+S)*(x+y).den:=by
 have h1:Bd (x.den*y.den) S x:=⟨qL _ _,hx⟩
 have h2:Bd (x.den*y.den) S y:=⟨tj _ _,hy⟩
 exact(h1.add (Nat.mul_ne_zero (eV.1 x.den_pos) (eV.1 y.den_pos)) h2).2
def zN(en:Nat->Nat->Bool)(m n:Nat):Bool:=(List.range m).all fun l=>en l n
def HZ{en:Nat->Nat->Bool}{m n:Nat}:zN en m n=true↔∀l,l<m->en l n=true:=by
 rw[zN,fS];exact⟨fun h l hl=>h l (jk.2 hl),fun h l hl=>h l (jk.1 hl)⟩
def DC(en:Nat->Nat->Bool)(m st:Nat):Option Nat:=if lY (zN en m) st (1501-st)<1501 then some (lY (zN en m) st (1501-st))else none
def IW{en:Nat->Nat->Bool}{m st:Nat}(up:∀l,l<m->∀n,st<=n->n<1500->en l n=true->en l (n+1)=true):uf en m st (DC en m st):=by
 obtain⟨h1,h2,h3,h4⟩:=kC (zN en m) (1501-st) st;unfold DC;generalize lY (zN en m) st (1501-st)=N at *;refine⟨fun n hn1 hn2=>⟨fun h=>?_,?_⟩,fun M hM=>?_,up⟩
 ·have hN:N<=n:=by
   rcases Nat.lt_or_ge n N with hlt | hge
   ·have:=h3 n hn1 hlt;rw[HZ.2 h]at this;cases this
   ·exact hge
  exact⟨N,if_pos O,hN⟩
 ·rintro⟨M,hM,hMn⟩ l hl;split at hM
  ·rename_i hlt;simp only[aI]at hM;subst hM;have h5:=HZ.1 (h4 O) l hl
   have key:∀j,N+j<=1500->en l (N+j)=true:=by
    intro j
    induction j with
    | zero=>exact fun _=>h5
    | succ j ih=>exact fun hj=>up l hl (N+j) O O (ih O)
   have:=key (n-N) O
   rwa[show N+(n-N)=n by omega]at this
  ·cases hM
 ·split at hM
  ·simp only[aI]at hM;subst hM;exact⟨h1,O⟩
  ·cases hM
def qD(k:Int):Rat:=mkRat 1 (2^k.toNat)*mkRat 1 (2^2)
def dm(E:List (List Rat))(X aB:Rat)(st:Nat)(t:Rat)(d:Nat)(k:Int):Option Nat:=
 DC (Ps (aV E X) (E.length-1) (aF E X) aB st t.abs (qD k) d) (E.length-1) st
def bj7:∀m,m<5->iK m 1500<=2^45:=by decide +kernel
section
variable{E:List (List Rat)}{ER:List (List RQ)}{X:Rat}{XR:RQ}
def SmallX.by6(h:SmallX E ER X XR)(hr:gT E X){t:Rat}(ht:rK t){l n d c b:Nat}(hb:11300000<=b)(hn:n<=1500)(hn0:0<n)(hd:d<E.length-1)(hc:c<=n-d) :
  Fit 400000000 (gV t (aN (aV E X) (E.length-1) (aF E X) (aX (E.length-1) l) n) d n c) /\
  (gV t (aN (aV E X) (E.length-1) (aF E X) (aX (E.length-1) l) n) d n c).num.natAbs<=2^b*(gV t (aN (aV E X) (E.length-1) (aF E X) (aX (E.length-1) l) n) d n c).den:=by
 have hy:11+(10+7500*n+45+12*1500)<=b:=by
  have hx:7500*n<=11250000:=Nat.mul_le_mul_left 7500 hn;have hz:12*1500<=18000:=by decide
  generalize 12*1500=z at hz|-;generalize 7500*n=x at hx|-;omega
 obtain⟨h2,h5,hld,_⟩:=hr.facts;obtain⟨g0,g⟩:=Sq h.xb (N:=1500) (by decide);obtain⟨gq,gr⟩:=g (E.length-1) O;have fF:=bj7;obtain⟨Xd,hX0,hXQ,hbd⟩:=wN (h.Uj hr l) (N:=1500) O n hn;have hXp:Xd<=2^(14000*n):=Nat.le_trans hXQ (by rw[iA];exact eP gq n)
 have hSp:999*dk (E.length-1) 1500 (dX X) sM 101^n<=2^(10+7500*n):=by
  rw[Nat.pow_add,iA];exact cV (show 999<=2^10 by decide) (eP gr n)
 have hfz:∀i:Nat,i<n->(aq (i:Int) d).natAbs<=iK (E.length-1) 1500:=fun i hi=>QK (n:=i) O d O (i:Int) O;exact IU (y:=b) hy (N:=1500) (c:=c) (B:=400000000) (p:=14000*n) (b:=10+7500*n) (e:=200) (f:=12) (g:=45) hX0 (iy t) hbd ht.bd O hfz hn0 O (by decide) hXp hSp ht.d (by decide) (fF _ O)
structure kq(E:List (List Rat))(X:Rat)(aB:Rat)(st:Nat)(t:Rat)(k:Int):Prop where
 hv:ba (aV E X) (E.length-1) (aF E X)=some (aB,st)
 tb:rK t
 t2:t.abs+t.abs<=aB
 k256:k<=256
def kq.tf{E:List (List Rat)}{X aB:Rat}{st:Nat}{t:Rat}{k:Int}(S:kq E X aB st t k):Fit 513 t:=S.tb.fit.mono O
def SmallX.ak0(h:SmallX E ER X XR)(hr:gT E X){aB t:Rat}{st:Nat}{k:Int}(S:kq E X aB st t k){d:Nat}(hd:d<E.length-1) :
  zM (aV E X) (E.length-1) (aF E X) aB st t.abs (qD k) d 200000000 300000000:=by
 obtain⟨h2,h5,hld,_⟩:=hr.facts;obtain⟨hh,hh62,rfl,hst,hW⟩:=eO S.hv;have hpos:=jI hh;have hab:=rL t;have hsmall:∀n,st<=n->n<=max 1500 st->∀i,i<=d->lS 2097152 (ah hh) n i t.abs:=fun n h1 h2 i hi=>eJ S.tb.abs hh62 O O (aY _);have hsh:∀n,st<=n->n<=max 1500 st->∀i,i<=d->bh (ah hh) n i t.abs<1:=fun n h1 h2 i hi=>vu hpos hab S.t2
 have hfb:∀l,l<E.length-1->Fit 200000000 (jQ (aV E X) (E.length-1) (aF E X) (ah hh) st l):=fun l hl=>by
  have hs:=h.Cd hr l;have hrho:∀j,j<=2*st+1->Fit (Oe) (ah hh^j):=(eJ S.tb.abs hh62 (n:=st) (d:=0) O O (by decide)).fo;exact(Ls (fun x hx=>Fq hs O hx) (by decide) (fun j hj=>hrho j O) (st:=st) O _ (aY _)).mono (by decide)
 refine⟨fun n h1 h2 i hi=>eJ S.tb.abs hh62,hsh,hfb,fun l hl n h1 h2 i hi=>?_,?_,O,O,rh hh,O,O,O⟩
 ·exact(II (hsmall n h1 h2 i hi) (hfb l hl)).mono O
 ·exact((eu (by have:=S.k256;omega)).mul (eu O)).mono O
def SmallX.XP(h:SmallX E ER X XR)(hr:gT E X){aB t:Rat}{st:Nat}{k:Int}(S:kq E X aB st t k){d:Nat}(hd:d<E.length-1) :
  uf (Ps (aV E X) (E.length-1) (aF E X) aB st t.abs (qD k) d) (E.length-1) st (dm E X aB st t d k):=by
 have T:=h.ak0 hr S hd;obtain⟨h2,h5,hld,_⟩:=hr.facts;obtain⟨hh,hh62,rfl,hst,hW⟩:=eO S.hv;refine IW fun l hl n h1 h2 hen=>?_;unfold Ps lp at hen|-;rw[fS]at hen|-;intro i hi;have hid:=jk.1 hi;have h3:=oP (hen i hi);exact iV (cq (qf (JI _ _ _ _) (jI hh) (rL t) (T.sh n h1 O i O)).1 h3)
def SmallX.bK2(h:SmallX E ER X XR)(hr:gT E X){aB t:Rat}{st:Nat}{k:Int}(S:kq E X aB st t k){N:Nat}(h1:st<=N)(h2:N<=1500) :
  aD7 (aV E X) (E.length-1) (aF E X) aB st t N 200000000 400000000 300000000:=by
 have T:=fun d hd=>h.ak0 hr S (d:=d) hd;obtain⟨hl2,h5,hld,_⟩:=hr.facts;obtain⟨hh,hh62,rfl,hst,hW⟩:=eO S.hv;obtain⟨bb,hbb⟩:∃b:Nat,11300000<=b:=⟨_,aY _⟩
 refine⟨fun d hd=>(T d hd).yH N h1 O d (aY _),fun d hd=>(T d hd).sh N h1 O d (aY _),(T 0 O).fb,fun l hl d hd=>(T d hd).ft l hl N h1 O d (aY _),fun l hl x hx=>(Fq (h.Cd hr l) O hx).mono (by decide),fun l hl d hd c hc=>(h.by6 hr S.tb hbb h2 O hd hc).1,
  fun i hi d hd j hj=>?_,rh hh,O,O,O,O,O,O,S.tf.mono O⟩
 have hz:=mX (z:=(i:Int)) (N:=1504) j O;have h2:(1504:Nat)^j<=1504^4:=Nat.pow_le_pow_right O O;have h3:(1504:Nat)^4=5116716384256:=by decide
 rw[h3]at h2;exact(eW).mono O
def SmallX.WC(h:SmallX E ER X XR)(hr:gT E X){aB t:Rat}{st:Nat}{k:Int}(S:kq E X aB st t k) :
  aL5 (aV E X) (E.length-1) (aF E X) aB st t k 4096 (Oe) 200000000 300000000 400000000 (qD k) (dm E X aB st t (E.length-1-1) k):=by
 obtain⟨hl2,h5,hld,_⟩:=hr.facts;have T:=h.ak0 hr S (d:=E.length-1-1) O;have L:=h.XP hr S (d:=E.length-1-1) O;have hmB:=h.aJ0;have S':=S;obtain⟨hh,hh62,rfl,hst,hW⟩:=eO S.hv
 exact⟨O,S.k256,rfl,T,L,fun N hN=>h.bK2 hr S (L.some N hN).1 (L.some N hN).2,O,fun l hl=>h.Cd hr l,O,O,O,by decide,by decide,by rw[aV,aR];omega,fun p hp=>by have:=(hmB p hp).1;omega,hld,O,
  (eJ S.tb.abs hh62 (n:=st) (d:=0) O O (by decide)).fo⟩
def Qr{x:Rat}(h0:0<=x)(h1:x<=1):x.num.natAbs<=1*x.den:=by
 have h2:=KT.2 h0;rw[wx]at h1;rw[show(1:Rat).num=1 from rfl,show(1:Rat).den=1 from rfl]at h1;omega
def WB(k:Int):qD k<=1:=by
 have h1:∀n:Nat,mkRat 1 (2^n)<=1/\0<=mkRat 1 (2^n):=fun n=>by
  have hp:0<2^n:=Nat.pow_pos O;rw[qm];have h0:(0:Rat)<(((2^n:Nat):Int):Rat):=oQ.2 O;have h3:(((1:Int)):Rat)<=(((2^n:Nat):Int):Rat):=PR.2 O;have e1:((1:Int):Rat)=1:=by decide +kernel
  refine⟨?_,lH (by rw[e1];decide +kernel) h0⟩;have:=pv (x:=((1:Int):Rat)) (y:=1) (p:=(((2^n:Nat):Int):Rat)) (q:=1) h0 (by decide +kernel) (by rw[Rat.mul_one,iB];exact h3)
  rwa[show(1:Rat)/1=1 by decide +kernel]at this
 unfold qD;have:=HS (h1 k.toNat).1 (h1 2).2;rw[iB]at this;exact cq this (h1 2).1
def SmallX.Kg(h:SmallX E ER X XR)(hr:gT E X){aB t:Rat}{st:Nat}{k:Int}(S:kq E X aB st t k){N:Nat}(hN:dm E X aB st t (E.length-1-1) k=some N){d l:Nat}(hd:d<E.length-1)(hl:l<E.length-1) :
  Fit 12000000 (KY (aV E X) (E.length-1) (aF E X) aB st t k N d l)/\Fit 12000000 (JS (aV E X) (E.length-1) (aF E X) aB st t k N d l):=by
 obtain⟨hl2,h5,hld,_⟩:=hr.facts;have L:=h.XP hr S (d:=E.length-1-1) O;obtain⟨h1,h2⟩:=L.some N hN;have M:=h.bK2 hr S h1 h2;have hk:=S.k256;have S':=S;obtain⟨hh,hh62,rfl,hst,hW⟩:=eO S.hv;have hst0:0<N:=O
 have hen:=(L.iff N h1 h2).2 ⟨N,hN,aY _⟩ l hl
 have hoff:yc (aV E X) (E.length-1) (aF E X) (ah hh) st t N d l<=qD k:=by
  unfold Ps lp at hen;rw[fS]at hen;exact oP (hen d (jk.2 O))
 have hoff0:0<=yc (aV E X) (E.length-1) (aF E X) (ah hh) st t N d l:=aj4 (JI _ _ _ _) (jI hh) (rL t) (M.sh d hd);have ho0:=Qr hoff0 (cq hoff (WB k));obtain⟨b,hb⟩:∃b:Nat,b=11300000:=⟨_,rfl⟩
 obtain⟨H,hH⟩:∃H:Nat,H=12000000:=⟨_,rfl⟩
 have hs':=(h.by6 hr S.tb (b:=b) O h2 hst0 hd (aY (N-d)) (l:=l)).2;rw[<-hH];have h1b:1<=2^b:=Nat.pow_pos O;have ho:=Nat.le_trans ho0 (Nat.mul_le_mul_right _ h1b)
 have hon:(-(yc (aV E X) (E.length-1) (aF E X) (ah hh) st t N d l)).num.natAbs<=2^b*(-(yc (aV E X) (E.length-1) (aF E X) (ah hh) st t N d l)).den:=by
  show(-(yc (aV E X) (E.length-1) (aF E X) (ah hh) st t N d l).num).natAbs<=_;rw[Int.natAbs_neg];exact ho
 have r1:(2^b+2^b)*2^k.toNat<2^H:=by
  rw[show 2^b+2^b=2^(b+1) by rw[Nat.pow_succ];omega,<-Nat.pow_add];exact mP O O
 have r2:2^k.toNat<2^H:=mP O O;exact⟨yi (Tb hs' hon) r1 r2,Uk (Tb hs' ho) r1 r2⟩
end
end Go.Sy
