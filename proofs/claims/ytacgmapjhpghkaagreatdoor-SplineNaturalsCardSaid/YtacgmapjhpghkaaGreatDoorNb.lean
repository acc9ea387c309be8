/- Part. -/
import Derived.Test.YtacgmapjhpghkaaGreatDoorNa
import Derived.RangeFuncBox
import Derived.Shelf.Abstract
import Derived.WalkKit
import Derived.OwnWalkIn
import Derived.TacticsInMore
import Derived.LoopNIn
import Derived.LoopIn
set_option linter.all false
set_option maxHeartbeats 2000000
set_option maxRecDepth 100000
namespace Go.Sy
def RM:=@Go.wpIn_rangeFunc_ownF
def uV:=@Go.belowK_b
def PQ:=@Go.grownBy_setCell'
def wL:=@Go.Proofs.enters_of
open Go Go.Proofs Tryz Ord
def bR6:Tr:=ei 20 8 40 51 52 (ot 20 8 237 53 (iG 21 15 0 237 54 55 (ei 20 8 40 51 52 (gE 20 8 22 237 57 56 (cT 8 1 3 19 (sn 1 24 23))))))
def bG9:Tr:=ei 9 8 40 51 52 (ot 9 8 237 53 (iG 18 15 0 237 54 55 (ei 9 8 40 51 52 (gE 9 8 19 237 57 56 (cT 8 1 3 19 (sn 0 21 20))))))
def bS8:Tr:=fN 16 0 15 237 40 41 4 (aY 17 0 (ei 9 8 40 45 46 (ot 9 8 237 47 (YV 18 1000000000 48 (ei 9 8 40 43 44 (gE 9 8 19 237 50 49 bR6))))) bG9)
def bS6:Tr:=ei 18 8 40 51 52 (ot 18 8 237 53 (iG 19 7 0 237 54 55 (ei 18 8 40 51 52 (gE 18 8 20 237 57 56 (cT 8 1 3 19 (sn 1 22 21))))))
def bK5:Tr:=ei 9 8 40 51 52 (ot 9 8 237 53 (iG 16 7 0 237 54 55 (ei 9 8 40 51 52 (gE 9 8 17 237 57 56 (cT 8 1 3 19 (sn 0 19 18))))))
def bW3:Tr:=fN 14 0 7 237 40 41 4 (aY 15 0 (ei 9 8 40 45 46 (ot 9 8 237 47 (YV 16 1000000000 48 (ei 9 8 40 43 44 (gE 9 8 17 237 50 49 bS6))))) bK5)
def ck3:Tr:=fN 8 0 11 3 23 26 4 (aY 12 0 (gW 1 0 8 0 40 30 31 (eZ 13 237 32 (dw 7 14 237 28 33 (ei 9 8 40 37 38 (ot 9 8 237 39 bS8))))) (aG1 7 0 35 (aY 13 0 (al2 9 59 (tW 14)) (ei 9 8 40 37 38 (ot 9 8 237 39 bW3)))))
def cr8:Tr:=aX1 3 0 13 15 (OG 5 17 40 (TN 5 (fN 8 0 6 3 19 18 0 (aY 10 0 (bL 1 0 25 40 ck3) (al2 9 59 (tW 11))))))
def cy5:Tr:=bL 0 0 10 40 (DP 2 11 cr8)
def bG5:af prog f223 dV [.v (some 1),.v (some 1)]=cy5:=aS
def bH1:Tr:=aY 23 0 (cT 21 1000000000 2 44 (iI 24 2 237 48 (ei 7 6 40 46 47 (gE 7 6 25 237 50 49 (cT 6 1 3 13 (Ru 22 1 27 26)))))) (iI 21 2 237 48 (ei 7 6 40 46 47 (gE 7 6 24 237 50 49 (cT 6 1 3 13 (Ru 22 0 26 25)))))
def bD0:Tr:=iI 16 237 2 32 (at6 15 34 (iI 18 236 2 35 (iG 17 19 0 2 33 36 (iG 20 5 0 2 37 38 (ap7 15 40 (jy 21 0 0 2 42 bH1))))))
def cp7:Tr:=gW 1 0 6 0 40 22 23 (eZ 11 237 24 (iI 12 237 236 25 (ss .mul 236 21 26 2 0 13 0 236 (dw 4 14 236 20 27 (ei 7 6 40 29 30 (ot 7 6 237 31 bD0))))))
def bK4:Tr:=aY 18 0 (cT 16 1000000000 2 44 (iI 19 2 237 48 (ei 7 6 40 46 47 (gE 7 6 20 237 50 49 (cT 6 1 3 13 (Ru 17 1 22 21)))))) (iI 16 2 237 48 (ei 7 6 40 46 47 (gE 7 6 19 237 50 49 (cT 6 1 3 13 (Ru 17 0 21 20)))))
def bI7:Tr:=iI 11 237 2 32 (at6 4 34 (iI 13 236 2 35 (iG 12 14 0 2 33 36 (iG 15 5 0 2 37 38 (ap7 4 40 (jy 16 0 0 2 42 bK4))))))
def cq9:Tr:=fN 6 0 3 3 13 12 0 (aY 8 0 (bL 1 0 17 40 (fN 6 0 9 3 16 18 4 (aY 10 0 cp7 (ei 7 6 40 29 30 (ot 7 6 237 31 bI7))))) (lS 5 0 2 52 (.retr [(W 9 0)] 7)))
def cv0:Tr:=OG 0 11 40 (.loop 0 [(.w (.one (.c (.k (.int .u64 0))))),lK 0,lK 0,.row 0] cq9)
def ag8:vA prog f244 (fun _=>none) [.lent 237 1,.v none,.v none]=cv0:=aS
def bS4:Tr:=am0 13 29 (aY 14 0 (ai7 13 31 (ei 5 4 40 33 34 (gE 5 4 15 237 36 35 (cT 4 1 3 10 (sn 1 17 16))))) (ei 5 4 40 33 34 (gE 5 4 13 237 36 35 (cT 4 1 3 10 (sn 0 16 15)))))
def bE1:Tr:=am0 8 29 (aY 11 0 (ai7 8 31 (ei 5 4 40 33 34 (gE 5 4 12 237 36 35 (cT 4 1 3 10 (sn 1 14 13))))) (ei 5 4 40 33 34 (gE 5 4 8 237 36 35 (cT 4 1 3 10 (sn 0 13 12)))))
def cj5:Tr:=dw 7 3 237 16 17 (bL 1 0 20 40 (fN 4 0 9 3 19 21 4 (aY 10 0 (gW 1 0 4 0 40 24 25 (eZ 11 237 26 (dw 8 12 237 23 27 bS4))) bE1)))
def co3:Tr:=OG 0 8 40 (TN 0 (fN 4 0 2 3 10 9 0 (aY 6 0 (ei 5 4 40 13 14 (ot 5 4 237 15 cj5)) (.need (.prim [(W 3 0),(.one (.c (.k (.int .u32 0))))] none) (.binOp .neq 237 (tT 38) (.const (.int .u32 0)) 237) 4 false (.retr [(W 7 0)] 5)))))
def ag6:vA prog f245 (fun _=>none) [.lent 237 1,.v none]=co3:=aS
structure UU(xs ys:c7)(i b:Nat)(os:c7):Prop where
 h:ki 1000000000 xs ys 1 i 0 b os
def UU.init{xs:c7}(hx:Dg xs)(ys:c7):UU xs ys 0 0 xs:=⟨ki.init hx ys 1⟩
def UU.next{xs ys os:c7}{i b x y z b':Nat}(h:UU xs ys i b os)(hx:xs[i]?=some x)(hy:ys[i]?.getD 0=y)(hyB:y<1000000000)(hz:z<1000000000)(hb:b'<=1)(he:z+y+b=x+1000000000*b') :
  UU xs ys (i+1) b' (os.set i z):=by
 have:=h.h.next O O hx hy hyB hz hb (by rw[bW,ee,fL hyB];exact he);rw[bW,ee,fR hyB]at this;exact⟨this⟩
def UU.fin{xs ys os:c7}{i b:Nat}(h:UU xs ys i b os)(hle:lv ys<=lv xs)(he:b=0/\ys.length<=i\/i=xs.length/\ys.length<=xs.length):lv os+lv ys=lv xs:=by
 have h1:=h.h.eq;rw[ee,bW]at h1;rcases he with⟨rfl,hl⟩ | ⟨rfl,hl⟩
 .rw[eo,cV,dL hl]at h1
  have e:∀l:List Nat,i<=l.length->lv l=lv (l.take i)+1000000000^i*lv (l.drop i):=fun l hl=>by
   conv=>lhs;rw[<-oA i l]
   rw[uk,bh,de hl]
  rw[e os (by rw[h.h.len];exact h.h.le),e xs h.h.le,h.h.rest];simp only[lv]at h1|-;omega
 .rw[dL (by rw[h.h.len];omega),jC,dL hl]at h1;have h2:=DB.lt O h.h.dg;rw[h.h.len]at h2;have hb:=h.h.b1;rcases(by omega:b=0\/b=1)with rfl | rfl
  .show val _ os+val _ ys=val _ xs;omega
  .have hle:val 1000000000 ys<=val 1000000000 xs:=hle;omega
def pj{a b:Nat}(h:a<=b):(dg a).length<=(dg b).length:=mA (fM h (mz O b))
def RH(a b:Nat)(hab:b<=a:=by omega)(ha:0<a:=by omega)(hs:(dg a).length<1099511627776:=by omega):aX prog 223 [(mT a:aQ),(mT b:aQ)] (.ret [mT (a-b)]):=by
 refine eD func223 bG5 ?_;have hlen:=pj hab;have hane:dg a≠[]:=fun e=>by have:=yj.1 e;omega
 apply vn (ae eY (aL _));dsimp only[aU,aV];refine CN (f:=fun d:Nat=>[aC.int .u32 (d:Int)]) 0 rfl rfl rfl rfl O (by simp only[maxLen];omega) ?_;refine aG4 (xs:=dg a) (ws:=dg a) (fun _=>rfl) rfl rfl eY aT (by simpa using hane) aT ?_;refine Wt rfl (aL _) ?_;refine bZ {g:Nat×Nat×List Nat // UU (dg a) (dg b) g.1 g.2.1 g.2.2} (fun g=>[.one (.int .u32 g.1.2.1),.one (.int .i64 g.1.1),.rows (rT g.1.2.2)]) (fun g=>(dg a).length-g.1.1) ⟨(0,0,dg a),UU.init (mC a) _⟩ ai.rfl (fun _=>rfl) ?_;rintro⟨⟨i,c,os⟩,hI⟩;dsimp only[aU,aV]at hI|-;have hol:=hI.h.len;have hil:=hI.h.le;have hc:=hI.h.b1;have hle:lv (dg b)<=lv (dg a):=by rw[jX,jX];exact hab
 have fin:(c=0/\(dg b).length<=i\/i=(dg a).length/\(dg b).length<=(dg a).length)->lv os=a-b:=fun h=>by
  have:=hI.fin hle h;rw[jX,jX]at this;omega
 apply vn bO;refine l4 ?_ ?_<;>intro h6
 .have hx:(dg a)[i]?=some ((dg a)[i]' O):=bM O;generalize (dg a)[i]' O=x at hx;have hxB:=(mC a).get hx;have ho:=hI.h.get hx;apply vn (ae eY (aL _));apply vn bO;refine l4 ?_ ?_<;>intro h9
  .have hy:(dg b)[i]?=some ((dg b)[i]' O):=bM O;generalize (dg b)[i]' O=y at hy;have hyB:=(mC b).get hy;apply vn (aN eY O O hy);apply vn (bq xj);apply vn oK;refine bo rfl rfl O (by first | omega | (rw[al];omega)) ?_;refine nQ rfl rfl O O ho rfl ?_;apply vn bO;dsimp only[aU,aV];refine l4 ?_ ?_<;>intro h16
   .refine bo rfl rfl O (by first | omega | (rw[al];omega)) ?_;refine nQ rfl rfl O O ho rfl ?_;apply vn oK;refine bo rfl rfl O (by first | omega | (rw[al];omega)) ?_;refine gL (d':=x+1000000000) rfl rfl O O ho rfl ?_;refine bo rfl rfl O (by first | omega | (rw[al];omega)) ?_;refine Nv (d:=x+1000000000) rfl rfl O O (lj O) (.inr rfl) rfl ?_;apply vn oO;refine bo rfl rfl O (by first | omega | (rw[al];omega)) ?_;refine gL (d:=x+1000000000) (d':=x+1000000000-(y+c)) rfl rfl O O (lj O) ?_ ?_
    .show[aC.int .u32 _]=[aC.int .u32 _]
     congr 2;omega
    rw[Si];apply vn (aB O O);dsimp only[aU,aV];exact aq rfl ⟨⟨(i+1,1,os.set i (x+1000000000-(y+c))),hI.next (b':=1) (z:=x+1000000000-(y+c)) hx (by rw[hy];rfl) hyB O O O⟩,ai.rfl,by show(dg a).length-(i+1)<(dg a).length-i;omega⟩
   refine bo rfl rfl O (by first | omega | (rw[al];omega)) ?_;refine nQ rfl rfl O O ho rfl ?_;apply vn oO;refine bo rfl rfl O (by first | omega | (rw[al];omega)) ?_;refine gL (d':=x-(y+c)) rfl rfl O O ho ?_ ?_
   .show[aC.int .u32 _]=[aC.int .u32 _]
    congr 2;omega
   apply vn (aB O O);dsimp only[aU,aV];exact aq rfl ⟨⟨(i+1,0,os.set i (x-(y+c))),hI.next (b':=0) (z:=x-(y+c)) hx (by rw[hy];rfl) hyB O O O⟩,ai.rfl,by show(dg a).length-(i+1)<(dg a).length-i;omega⟩
  apply vn cW;refine l4 ?_ ?_<;>intro h37
  .apply aA (kx os hI.h.dg);dsimp only[aU,aV];refine aR ?_;rw[fin (.inl O)];rfl
  have hnone:(dg b)[i]?=none:=fA.2 O;refine bo rfl rfl O (by first | omega | (rw[al];omega)) ?_;refine nQ rfl rfl O O ho rfl ?_;apply vn bO;refine l4 ?_ ?_<;>intro h43
  .refine bo rfl rfl O (by first | omega | (rw[al];omega)) ?_;refine nQ rfl rfl O O ho rfl ?_;apply vn oK;refine bo rfl rfl O (by first | omega | (rw[al];omega)) ?_;refine gL (d':=x+1000000000) rfl rfl O O ho rfl ?_;refine bo rfl rfl O (by first | omega | (rw[al];omega)) ?_;refine Nv (d:=x+1000000000) rfl rfl O O (lj O) (.inr rfl) rfl ?_;apply vn oO;refine bo rfl rfl O (by first | omega | (rw[al];omega)) ?_;refine gL (d:=x+1000000000) (d':=x+1000000000-c) rfl rfl O O (lj O) ?_ ?_
   .show[aC.int .u32 _]=[aC.int .u32 _]
    congr 2;omega
   rw[Si];dsimp only[aU,aV];apply vn (aB O O);dsimp only[aU,aV];exact aq rfl ⟨⟨(i+1,1,os.set i (x+1000000000-c)),hI.next (b':=1) (z:=x+1000000000-c) (y:=0) hx (by rw[hnone];rfl) O O O O⟩,ai.rfl,by show(dg a).length-(i+1)<(dg a).length-i;omega⟩
  refine bo rfl rfl O (by first | omega | (rw[al];omega)) ?_;refine nQ rfl rfl O O ho rfl ?_;apply vn oO;refine bo rfl rfl O (by first | omega | (rw[al];omega)) ?_;refine gL (d':=x-c) rfl rfl O O ho ?_ ?_
  .show[aC.int .u32 _]=[aC.int .u32 _]
   congr 2;omega
  apply vn (aB O O);dsimp only[aU,aV];exact aq rfl ⟨⟨(i+1,0,os.set i (x-c)),hI.next (b':=0) (z:=x-c) (y:=0) hx (by rw[hnone];rfl) O O O O⟩,ai.rfl,by show(dg a).length-(i+1)<(dg a).length-i;omega⟩
 apply aA (kx os hI.h.dg);dsimp only[aU,aV];refine aR ?_;rw[fin (.inr ⟨O,hlen⟩)];rfl
def aj6{b:Nat}{p:Prop}[Decidable p](h:b=if p then 1 else 0):decide ((b:Int)≠0)=decide p:=by
 subst h;by_cases hp:p<;>simp[hp]
def ZH(xs ys:c7)(t:Nat)(hx:Dg xs)(hy:Dg ys)(ht:t<1000000000)(hl:ys.length<xs.length)(hs:xs.length<1099511627776):kI prog 244 237 1 [] [(.one (.slice 1 (rT ys)):aQ),(.one (.int .u64 t):aQ)] (rT xs) [.one (.bool (decide (lv xs<t*lv ys)))] (rT (pd 1000000000 xs.length (lv xs+1000000000^xs.length*(if lv xs<t*lv ys then 1 else 0)-t*lv ys))):=by
 refine mi (a1:=[]) (a2:=[.v none,.v none]) (i1:=[]) (i2:=[.v (.one (.slice 1 (rT ys))),.v (.one (.int .u64 t))]) (hints:=(fun _=>none)) fo aS func244 trivial ⟨rfl,rfl,trivial⟩ aS ?_ ?_ ?_ ?_
 .first | (simp[rT];done) | (intro t ht;obtain⟨a,_,rfl⟩:=dm.1 ht;rfl)
 .first | (simp[rT];done) | (intro t ht;obtain⟨a,_,rfl⟩:=dm.1 ht;rfl)
 .first | (simp[rT];done) | (intro t ht;obtain⟨a,_,rfl⟩:=dm.1 ht;rfl)
 dsimp only[aU,aV];rw[ag8];dsimp only[List.map,In.env,aU,aV];refine Wt rfl (aL _) ?_;refine bZ {g:Nat×Nat×Nat×List Nat // ki 1000000000 xs ys t g.1 g.2.1 g.2.2.1 g.2.2.2} (fun g=>[.one (.int .u64 g.1.2.1),.one (.int .i64 g.1.2.2.1),.one (.int .i64 g.1.1),.rows (rT g.1.2.2.2)]) (fun g=>xs.length-g.1.1) ⟨(0,0,0,xs),ki.init hx _ _⟩ ai.rfl (fun _=>rfl) ?_;rintro⟨⟨i,c,b,os⟩,hI⟩;dsimp only[aU,aV]at hI|-;have hol:=hI.len;have hil:=hI.le;have hc:=hI.c1;have hb:=hI.b1;apply vn bO;refine l4 ?_ ?_<;>intro h3
 .have hgx:xs[i]?=some (xs[i]' O):=bM O;generalize xs[i]' O=x at hgx;have hxB:=hx.get hgx;have ho:=hI.get hgx;apply vn (ae eY (aL _));apply vn bO;refine l4 ?_ ?_<;>intro h6
  .have hgy:ys[i]?=some (ys[i]' O):=bM O;generalize ys[i]' O=y at hgy;have hyB:=hy.get hgy;have hty:t*y<=999999999*999999999:=fP O O;obtain⟨w,hw⟩:∃w,c+t*y=w:=⟨_,rfl⟩
   have hwB:w<1000000000*1000000000:=O
   have hm:∀z b':Nat,z<1000000000->b'<=1->z+w%1000000000+b=x+1000000000*b'->ki 1000000000 xs ys t (i+1) (w/1000000000) b' (os.set i z):=fun z b' h1 h2 h3=>by
    have:=hI.next O ht hgx (by rw[hgy];rfl) hyB h1 h2 (by rw[hw];exact h3);rw[hw]at this;exact this
   apply vn (aN eY O O hgy);apply vn (bq xj);apply vn (tU ⟨_,jZ⟩ jx);apply vn (wi (c:=((t*y:Nat):Int)) (by rw[<-jH,tV]<;>omega)) rfl;apply vn (gF (c:=(w:Int)) (by rw[tV]<;>omega)) rfl;dsimp only[aU,aV];refine bo rfl rfl O (by first | omega | (rw[al];omega)) ?_;refine nQ rfl rfl O O ho rfl ?_;apply vn (wm ⟨_,jZ⟩ un2);apply vn nz;apply vn (wm ⟨_,jx⟩ un2);apply vn (aI O O);apply vn (aI O O);apply vn OE;apply vn bO;dsimp only[aU,aV];refine l4 ?_ ?_<;>intro h21
   .apply vn (aB O O);apply vn (qh ⟨_,un2⟩ jZ);refine bo rfl rfl O (by first | omega | (rw[al];omega)) ?_;refine gL (d':=x+1000000000-w%1000000000-b) rfl rfl O O ho ?_ ?_
    .show[aC.int .u32 _]=[aC.int .u32 _]
     congr 2;omega
    apply vn (aB O O);dsimp only[aU,aV];exact aq rfl ⟨⟨(i+1,w/1000000000,1,os.set i (x+1000000000-w%1000000000-b)),hm _ 1 O O O⟩,ai.rfl,by show xs.length-(i+1)<xs.length-i;omega⟩
   apply vn (qh ⟨_,un2⟩ jZ);refine bo rfl rfl O (by first | omega | (rw[al];omega)) ?_;refine gL (d':=x-w%1000000000-b) rfl rfl O O ho ?_ ?_
   .show[aC.int .u32 _]=[aC.int .u32 _]
    congr 2;omega
   apply vn (aB O O);dsimp only[aU,aV];exact aq rfl ⟨⟨(i+1,w/1000000000,0,os.set i (x-w%1000000000-b)),hm _ 0 O O O⟩,ai.rfl,by show xs.length-(i+1)<xs.length-i;omega⟩
  have hnone:ys[i]?=none:=fA.2 O
  have hm:∀z b':Nat,z<1000000000->b'<=1->z+c%1000000000+b=x+1000000000*b'->ki 1000000000 xs ys t (i+1) (c/1000000000) b' (os.set i z):=fun z b' h1 h2 h3=>by
   have:=hI.next (y:=0) O ht hgx (by rw[hnone];rfl) O h1 h2 (by rw[eo,cV];exact h3);rw[eo,cV]at this;exact this
  refine bo rfl rfl O (by first | omega | (rw[al];omega)) ?_;refine nQ rfl rfl O O ho rfl ?_;apply vn (wm ⟨_,jZ⟩ un2);apply vn nz;apply vn (wm ⟨_,jx⟩ un2);apply vn (aI O O);apply vn (aI O O);apply vn OE;apply vn bO;dsimp only[aU,aV];refine l4 ?_ ?_<;>intro h42
  .apply vn (aB O O);apply vn (qh ⟨_,un2⟩ jZ);refine bo rfl rfl O (by first | omega | (rw[al];omega)) ?_;refine gL (d':=x+1000000000-c%1000000000-b) rfl rfl O O ho ?_ ?_
   .show[aC.int .u32 _]=[aC.int .u32 _]
    congr 2;omega
   apply vn (aB O O);dsimp only[aU,aV];exact aq rfl ⟨⟨(i+1,c/1000000000,1,os.set i (x+1000000000-c%1000000000-b)),hm _ 1 O O O⟩,ai.rfl,by show xs.length-(i+1)<xs.length-i;omega⟩
  apply vn (qh ⟨_,un2⟩ jZ);refine bo rfl rfl O (by first | omega | (rw[al];omega)) ?_;refine gL (d':=x-c%1000000000-b) rfl rfl O O ho ?_ ?_
  .show[aC.int .u32 _]=[aC.int .u32 _]
   congr 2;omega
  apply vn (aB O O);dsimp only[aU,aV];exact aq rfl ⟨⟨(i+1,c/1000000000,0,os.set i (x-c%1000000000-b)),hm _ 0 O O O⟩,ai.rfl,by show xs.length-(i+1)<xs.length-i;omega⟩
 apply vn iC;dsimp only[aU,aV];have hie:i=xs.length:=O
 subst hie;obtain⟨hb1,ho1⟩:=hI.fin O hx hl;rw[hb1]at ho1;exact kA (by rw[<-show rT os=rT _ from congrArg rT ho1];rfl) (congrArg (fun q=>[aQ.one (.bool q)]) (aj6 hb1))
structure Hy(xs ys:c7)(i c:Nat)(os:c7):Prop where
 le:i<=xs.length
 c1:c<=1
 len:os.length=xs.length
 dg:DB 1000000000 os
 rest:os.drop i=xs.drop i
 eq:lv (os.take i)+1000000000^i*c=lv (xs.take i)+lv (ys.take i)
def Hy.init{xs:c7}(hx:Dg xs)(ys:c7):Hy xs ys 0 0 xs:=⟨dM _,O,rfl,hx,rfl,by simp[lv,val]⟩
def Hy.get{xs ys os:c7}{i c x:Nat}(h:Hy xs ys i c os)(hx:xs[i]?=some x):os[i]?=some x:=by
 have:=congrArg (fun l=>l[0]?) h.rest;simp only[fG,cV]at this;rw[this,hx]
def Hy.next{xs ys os:c7}{i c x y c' z:Nat}(h:Hy xs ys i c os)(hx:xs[i]?=some x)(hy:ys[i]?.getD 0=y)(hz:z<1000000000)(hc:c'<=1)(he:z+1000000000*c'=x+c+y):Hy xs ys (i+1) c' (os.set i z):=by
 have hi:i<xs.length:=(cL.1 hx).1;refine⟨hi,hc,by rw[al];exact h.len,h.dg.set hz,?_,?_⟩
 .rw[Cf O];have:=congrArg (List.drop 1) h.rest
  simpa[gu]using this
 .have h1:=h.eq;have h2:=congrArg (fun q=>1000000000^i*q) he;have e1:lv ((os.set i z).take (i+1))=lv (os.take i)+1000000000^i*z:=nZ (by rw[h.len];exact hi);have e2:lv (xs.take (i+1))=lv (xs.take i)+1000000000^i*x:=iv hx;have e3:lv (ys.take (i+1))=lv (ys.take i)+1000000000^i*y:=lQ hy;rw[e1,e2,e3,bw,ej];simp only[dr]at h2;omega
def Hy.fin{xs ys os:c7}{c:Nat}(h:Hy xs ys xs.length c os)(hl:ys.length<xs.length) :
  c=(if 1000000000^xs.length<=lv xs+lv ys then 1 else 0)/\os=pd 1000000000 xs.length (lv xs+lv ys-1000000000^xs.length*c):=by
 have h1:=h.eq;rw[dL (by rw[h.len];omega),jC,dL O]at h1;have h2:lv os<_:=DB.lt O h.dg;rw[h.len]at h2;have hc:=h.c1
 constructor
 .split<;>rcases(by omega:c=0\/c=1)with rfl | rfl<;>omega
 .refine Xr O h.dg h.len ?_;show lv os=_;omega
def ag1(xs ys:c7)(hx:Dg xs)(hy:Dg ys)(hl:ys.length<xs.length)(hs:xs.length<1099511627776):kI prog 245 237 1 [] [(.one (.slice 1 (rT ys)):aQ)] (rT xs) [.one (.bool (decide (1000000000^xs.length<=lv xs+lv ys)))] (rT (pd 1000000000 xs.length (lv xs+lv ys-1000000000^xs.length*(if 1000000000^xs.length<=lv xs+lv ys then 1 else 0)))):=by
 refine mi (a1:=[]) (a2:=[.v none]) (i1:=[]) (i2:=[.v (.one (.slice 1 (rT ys)))]) (hints:=(fun _=>none)) fo aS func245 trivial ⟨rfl,trivial⟩ aS ?_ ?_ ?_ ?_
 .first | (simp[rT];done) | (intro t ht;obtain⟨a,_,rfl⟩:=dm.1 ht;rfl)
 .first | (simp[rT];done) | (intro t ht;obtain⟨a,_,rfl⟩:=dm.1 ht;rfl)
 .first | (simp[rT];done) | (intro t ht;obtain⟨a,_,rfl⟩:=dm.1 ht;rfl)
 dsimp only[aU,aV];rw[ag6];dsimp only[List.map,In.env,aU,aV];refine Wt rfl (aL _) ?_;refine bZ {g:Nat×Nat×List Nat // Hy xs ys g.1 g.2.1 g.2.2} (fun g=>[.one (.int .u32 g.1.2.1),.one (.int .i64 g.1.1),.rows (rT g.1.2.2)]) (fun g=>xs.length-g.1.1) ⟨(0,0,xs),Hy.init hx _⟩ ai.rfl (fun _=>rfl) ?_;rintro⟨⟨i,c,os⟩,hI⟩;dsimp only[aU,aV]at hI|-;have hol:=hI.len;have hil:=hI.le;have hc:=hI.c1;apply vn bO;refine l4 ?_ ?_<;>intro h3
 .have hgx:xs[i]?=some (xs[i]' O):=bM O;generalize xs[i]' O=x at hgx;have hxB:=hx.get hgx;have ho:=hI.get hgx;refine bo rfl rfl O (by first | omega | (rw[al];omega)) ?_;refine nQ rfl rfl O O ho rfl ?_;apply vn oK;apply vn (ae eY (aL _));apply vn bO;refine l4 ?_ ?_<;>intro h9
  .have hgy:ys[i]?=some (ys[i]' O):=bM O;generalize ys[i]' O=y at hgy;have hyB:=hy.get hgy;apply vn (aN eY O O hgy);apply vn (bq xj);apply vn oK;dsimp only[aU,aV];apply vn kz;refine l4 ?_ ?_<;>intro h14
   .apply vn oO;refine bo rfl rfl O (by first | omega | (rw[al];omega)) ?_;refine gL (d':=x+c+y-1000000000) rfl rfl O O ho ?_ ?_
    .show[aC.int .u32 _]=[aC.int .u32 _]
     congr 2;omega
    apply vn (aB O O);dsimp only[aU,aV];exact aq rfl ⟨⟨(i+1,1,os.set i (x+c+y-1000000000)),hI.next (z:=x+c+y-1000000000) (c':=1) (y:=y) hgx (by rw[hgy];rfl) O O O⟩,ai.rfl,by show xs.length-(i+1)<xs.length-i;omega⟩
   refine bo rfl rfl O (by first | omega | (rw[al];omega)) ?_;refine gL (d':=x+c+y) rfl rfl O O ho ?_ ?_
   .show[aC.int .u32 _]=[aC.int .u32 _]
    congr 2
   apply vn (aB O O);dsimp only[aU,aV];exact aq rfl ⟨⟨(i+1,0,os.set i (x+c+y)),hI.next (z:=x+c+y) (c':=0) (y:=y) hgx (by rw[hgy];rfl) O O O⟩,ai.rfl,by show xs.length-(i+1)<xs.length-i;omega⟩
  have hnone:ys[i]?=none:=fA.2 O;apply vn kz;refine l4 ?_ ?_<;>intro h25
  .apply vn oO;refine bo rfl rfl O (by first | omega | (rw[al];omega)) ?_;refine gL (d':=x+c-1000000000) rfl rfl O O ho ?_ ?_
   .show[aC.int .u32 _]=[aC.int .u32 _]
    congr 2;omega
   apply vn (aB O O);dsimp only[aU,aV];exact aq rfl ⟨⟨(i+1,1,os.set i (x+c-1000000000)),hI.next (z:=x+c-1000000000) (c':=1) (y:=0) hgx (by rw[hnone];rfl) O O O⟩,ai.rfl,by show xs.length-(i+1)<xs.length-i;omega⟩
  refine bo rfl rfl O (by first | omega | (rw[al];omega)) ?_;refine gL (d':=x+c) rfl rfl O O ho ?_ ?_
  .show[aC.int .u32 _]=[aC.int .u32 _]
   congr 2
  apply vn (aB O O);dsimp only[aU,aV];exact aq rfl ⟨⟨(i+1,0,os.set i (x+c)),hI.next (z:=x+c) (c':=0) (y:=0) hgx (by rw[hnone];rfl) O O O⟩,ai.rfl,by show xs.length-(i+1)<xs.length-i;omega⟩
 apply vn iC;dsimp only[aU,aV];have hie:i=xs.length:=O
 subst hie;obtain⟨hb1,ho1⟩:=hI.fin hl;rw[hb1]at ho1;exact kA (by rw[<-show rT os=rT _ from congrArg rT ho1];rfl) (congrArg (fun q=>[aQ.one (.bool q)]) (aj6 hb1))
def bL3:Tr:=jU 52 0 120 (aY 55 0 (.need (.rop 54 237 1 (some ((.u 27 0),(.u 47 0))) [] [(W 14 0)] [none]) (.call ⟨.value (.func 245),#[(tT 124),(tT 125)],#[40,40]⟩) 4 true (.need (.prim [(W 53 0),(.one (.c (.k (.int .u64 1))))] none) (.binOp .sub 236 (tT 122) (.const (.int .u64 1)) 236) 236 false (vY 1 56 58 57))) (iI 53 236 237 129 (ei 28 27 40 127 128 (gE 28 27 56 237 131 130 (en 27 1 77 (EI 58 57 54))))))
def bR2:Tr:=.need (.rop 29 237 1 (some ((.u 27 0),(.u 47 0))) [] [(W 14 0),(W 45 0)] [none]) (.call ⟨.value (.func 244),#[(tT 116),(tT 117),(tT 118)],#[40,40,236]⟩) 4 true (aY 50 0 (.loop 1 [(.w (.one (.c (.k (.bool false))))),lV 45 0,.row 51] bL3) (iI 45 236 237 129 (ei 28 27 40 127 128 (gE 28 27 52 237 131 130 (en 27 1 77 (EI 54 53 51))))))
def bI5:Tr:=ss .quo 236 96 102 39 0 43 0 236 (.need (.prim [(W 44 0),(.one (.c (.k (.int .u64 999999999))))] none) (.call ⟨.builtin .min,#[(tT 103),(.const (.int .u64 999999999))],#[236,236]⟩) 236 false (dw 27 15 3 107 108 (cT 46 1 3 109 (dw 27 15 3 111 112 (cT 48 1 3 113 (.need (.view 29 (.u 27 0) (.u 47 0) (.u 49 0)) (.slice 40 (tT 105) (some (tT 106)) (some (tT 110)) (some (tT 114))) 40 false bR2))))))
def bU7:Tr:=ot 29 36 237 92 (iI 37 237 236 93 (dw 34 38 236 86 94 (en 15 1 98 (gW 14 0 40 0 40 97 99 (eZ 41 237 100 (iI 42 237 236 101 bI5))))))
def bX8:Tr:=ei 29 31 40 79 82 (ot 29 31 237 83 (iI 32 237 236 84 (aN8 33 85 (dw 27 15 3 88 89 (en 35 1 90 (ei 29 36 40 87 91 bU7))))))
def bO3:Tr:=.loop 0 [lV 26 0,.row 24,.row 21] (oh 27 0 75 (aY 30 0 (dw 27 15 3 80 81 bX8) (ZC 29 133 (Yk 31 13 134 135 (ZC 28 139 (.ret [(G1 34),(G1 32)]))))))
def bF0:Tr:=qg 162 0 0 13 62 63 (aX1 18 19 61 65 (OG 21 67 40 (iG 22 15 0 3 68 69 (DP 23 70 (OG 24 72 40 (en 25 1 73 bO3))))))
def cd0:Tr:=iI 11 237 236 47 (qy 206 12 1 48 236 42 (qg 162 1 0 13 50 51 (bL 14 0 54 40 (bL 0 0 57 40 (cT 16 1 3 58 (DP 17 59 bF0))))))
def cg5:Tr:=aY 5 0 (nE 1 0 0 40 32 (eZ 6 237 33 (gO 243 [(G1 0),(W 7 0)] [(some 1),(some 1)] [30,34] [42,237] 249 true (.ret [(G1 8),(G1 9)])))) (bL 1 0 41 40 (en 6 1 42 (gW 1 0 7 0 40 39 43 (eZ 8 237 44 (YV 9 1 45 (.need (.prim [(.one (.c (.k (.int .u32 1000000000)))),(W 10 0)] none) (.binOp .quo 237 (.const (.int .u32 1000000000)) (tT 46) 237) 237 false cd0))))))
def co9:Tr:=gO 164 [(G1 0),(G1 1)] [none] [19,20] [42,42] 3 true (jy 2 0 0 3 21 (aY 3 0 (.ret [(.agg [tN]),(G1 0)]) (bL 1 0 27 40 (ir 4 0 1 3 28 cg5))))
def aN0:af prog f222 dV [.v (some 1),.v (some 1)]=co9:=aS
def tR{a b:Int}:gD a b<0↔a<b:=by unfold gD;split<;>(try split)<;>omega
def aP0{n:Nat}(h:n=0):aC.Sub (.exact (.slice none 0 0)) (dT n):=by
 subst h;have:dg 0=[]:=dj _;rw[dT,this];exact aC.Sub.nil
def vo{n:Nat}(h0:0<n:=by omega)(h:n<1000000000:=by omega):dg n=[n]:=by
 rw[dg,gQ,fL h,fR h,dj]
def Ep{n k:Nat}(h:n<1000000000^k):(dg n).length<=k:=mA h
def Pd(n:Nat):n<1000000000^(dg n).length:=mz O n
def aF7{n:Nat}(h:n≠0:=by omega):1000000000^((dg n).length-1)<=n:=ix O h
def aI4{n i:Nat}(h:i<(dg n).length:=by omega):(dg n)[i]?=some (n/1000000000^i%1000000000):=by
 have e:(dg n)[i]?=(pd 1000000000 (dg n).length n)[i]?:=congrArg (fun l:List Nat=>l[i]?) (an6 n);rw[e,DA _ h]
def Yf{n:Nat}(h:0<n):1000000000^(n-1)*1000000000=1000000000^n:=by
 obtain⟨k,rfl⟩:∃k,n=k+1:=⟨n-1,O⟩
 rw[lW,bw]
def bY5{r1 r2 vt:Nat}(h1:r1<1000000000)(h2:r2<1000000000):(r1*1000000000+r2)/vt<1000000000000000000:=
 fM (rm _ _) O
def aH8(q:Nat):min (q:Int) 999999999=((min q 999999999:Nat):Int):=O
def ah6{n:Nat}(h:n<1000000000):(n:Int)<4294967296:=O
def aG9{n:Nat}(h:n<1000000000000000000):(n:Int)<18446744073709551616:=O
def qN(n:Nat):(0:Int)<=(n:Int):=Int.natCast_nonneg _
def bC3(i:Nat):((i+1:Nat):Int)-1-1=(i:Int)-1:=O
def bU8{P:j5}{T U ty:Nat}{x y:j6}{a b:Nat}{a':Int}(ha':a'=a)(hb:0<b)(hc:(a/b:Nat)<1000000000000000000):ao P (.binOp .quo T x y U) ty [.one (.int .u64 a'),.one (.int .u64 b)] (.one (.int .u64 ((a/b:Nat):Int))):=by
 subst ha';exact rG O (by rw[qa (qN _),<-BF,tV (qN _) (aG9 hc)])
def bp1(a b:Nat)(hb0:0<b)(hb:b<1000000000)(hs:(dg a).length<549755813888):aX prog 222 [(mT a:aQ),(mT b:aQ)] (.ret [mT (a/b),mT (a%b)]):=by
 refine eD func222 aN0 ?_;have e1:=vo hb0 hb;apply aA (uQ a b (by rw[e1];simp;omega)) rfl;apply vn bO;dsimp only[aU,aV];rw[show decide (gD (a:Int) (b:Int)<0)=decide (a<b) by rw[nh,tR];omega];refine l4 ?_ ?_<;>intro h2
 .refine gj ⟨⟨aP0 (fR h2),trivial⟩,⟨?_,trivial⟩,trivial⟩;rw[fL h2];exact aC.Sub.same
 apply vn (ae eY (aL _));apply vn cW;refine l4 ?_ ?_<;>intro h6
 .apply vn (aN eY O O (show(dg b)[0]?=some b by rw[e1];rfl)) rfl;apply vn (bq xj);apply aA (Vg a b hb0 hb);exact aR
 exact absurd (by rw[e1];simp) h6
structure Xv(S V L m n:Nat)(os:c7)(R:Nat):Prop where
 le:n<=m
 len:os.length=m
 dg:Dg os
 eq:S=R+V*1000000000^n*lv (os.drop n)
 lt:R/1000000000^n<V
 fit:R<1000000000^L
def Xv.next{S V L m n R g:Nat}{os:c7}(h:Xv S V L m (n+1) os R)(hV:0<V)(hg:g=R/1000000000^n/V) :
  Xv S V L m n (os.set n g) (R%1000000000^n+1000000000^n*(R/1000000000^n%V)):=by
 obtain⟨h1,h2,h3,h4⟩:=HK (B:=1000000000) O hV h.eq h.lt;have hn:=h.le;have hlen:=h.len;subst hg;refine⟨O,by rw[al];exact hlen,h.dg.set h2,?_,h4,?_⟩
 .rw[Un (x:=R/1000000000^n/V) (by rw[lj O]),Cf O];exact h3
 .refine fM ?_ h.fit;have:=mf R (1000000000^n);have h5:=dz (1000000000^n) (ug (R/1000000000^n) V);omega
def gbv(W X V:Nat)(p:Bool×Nat):Nat:=if p.1 then X%V else X+W-p.2*V
def bY4{R i nv:Nat}(hnv:0<nv)(h:R/1000000000^(i+nv)<1000000000):R/1000000000^(i+nv)%1000000000*1000000000+R/1000000000^(i+nv-1)%1000000000=R/1000000000^i/1000000000^(nv-1):=by
 rw[fL h,nK,<-eK,show i+(nv-1)=i+nv-1 by omega]
 have e:R/1000000000^(i+nv)=R/1000000000^(i+nv-1)/1000000000:=by
  rw[nK,<-bw];congr 2;omega
 rw[e];have:=QM (R/1000000000^(i+nv-1)) 1000000000;omega
def av2{b s top:Nat}(hs0:0<s)(hs:s*(top+1)<=1000000000)(htop:top=b/1000000000^((dg b).length-1))(hb:b≠0:=by omega):(dg (b*s)).length=(dg b).length:=by
 have hp:0<1000000000^((dg b).length-1):=ez O
 have hl:0<(dg b).length:=by
  rcases ju (dg b).length with h | h
  .exact(hb (yj.1 (ep h))).elim
  .exact h
 apply xk
 .apply Ep
  have h1:b<(top+1)*1000000000^((dg b).length-1):=by
   rw[htop,cN];exact ao2 b hp
  calc b*s<(top+1)*1000000000^((dg b).length-1)*s:=sZ h1 hs0
   _=s*(top+1)*1000000000^((dg b).length-1):=by simp only[cN,nu,ej]
   _<=1000000000*1000000000^((dg b).length-1):=cY _ hs
   _=1000000000^(dg b).length:=by rw[cN,<-bw];congr 1;omega
 .exact pj (ma b hs0)
def SD(a b:Nat)(hb0:0<b)(hs:(dg a).length+(dg b).length<274877906944:=by omega):aX prog 222 [(mT a:aQ),(mT b:aQ)] (.ret [mT (a/b),mT (a%b)]):=by
 refine eD func222 aN0 ?_;apply aA (uQ a b);apply vn bO;dsimp only[aU,aV];rw[show decide (gD (a:Int) (b:Int)<0)=decide (a<b) by rw[nh,tR];omega];refine l4 ?_ ?_<;>intro h2
 .refine gj ⟨⟨aP0 (fR h2),trivial⟩,⟨?_,trivial⟩,trivial⟩;rw[fL h2];exact aC.Sub.same
 have hbl:0<(dg b).length:=by
  rcases ju (dg b).length with h | h
  .exact(Nat.ne_of_gt hb0 (yj.1 (ep h))).elim
  .exact h
 have hlen:=pj (wY h2);apply vn (ae eY (aL _));apply vn cW;refine l4 ?_ ?_<;>intro h6
 .have hb:b<1000000000:=by
   have:=Pd b;rw[show(dg b).length=1 by omega]at this;omega
  have e1:=vo hb0 hb;apply vn (aN eY O O (show(dg b)[0]?=some b by rw[e1];rfl)) rfl;apply vn (bq xj);apply aA (Vg a b hb0 hb);exact aR
 obtain⟨top,htop⟩:∃t,(dg b)[(dg b).length-1]?=some t:=⟨_,bM O⟩
 have htB:=(mC b).get htop
 have htv:top=b/1000000000^((dg b).length-1):=by
  have h1:=aI4 (n:=b) (i:=(dg b).length-1);rw[htop]at h1;simp only[aZ]at h1;rw[h1,fL];rw[kZ (ez O),cN,Yf hbl];exact Pd b
 have ht0:0<top:=by
  rw[htv];exact oC aF7 (ez O)
 obtain⟨s,hs'⟩:∃s,1000000000/(top+1)=s:=⟨_,rfl⟩
 have hsle:s*(top+1)<=1000000000:=by rw[<-hs'];exact rO _ _
 have hs0:0<s:=by rw[<-hs'];exact oC O O
 have hsB:s<1000000000:=by
  rw[<-hs'];exact sO O O
 have hvl:=av2 hs0 hsle htv;apply vn (ae eY (aL _));apply vn (aI O O);apply vn (aN eY O O htop);apply vn (bq xj);dsimp only[aU,aV];apply vn oK;dsimp only[aU,aV];apply vn (rG (c:=(s:Int)) O (by rw[qa O,show((1000000000:Int)/((top:Int)+1))=((1000000000/(top+1):Nat):Int) by simp,hs',ze]<;>omega)) rfl;apply vn (tU ⟨_,jZ⟩ jx);apply aA (pa s);apply aA (pN b s (by rw[vo hs0 hsB];simp;omega)) rfl;obtain⟨V,hV⟩:∃V,b*s=V:=⟨_,rfl⟩
 obtain⟨S,hS⟩:∃S,a*s=S:=⟨_,rfl⟩
 rw[hV]at hvl|-;have hV0:0<V:=by rw[<-hV];exact jJ hb0 hs0
 apply vn (ae eY (aL _));apply vn (ae eY (aL _));apply vn (aB O O);dsimp only[aU,aV];refine CN (n:=(dg a).length+1) (f:=fun d:Nat=>[aC.int .u32 (d:Int)]) 0 rfl rfl O rfl O (by simp only[maxLen];omega) ?_;apply aA (pN a s (by rw[vo hs0 hsB];simp;omega)) rfl;rw[hS]
 have hSlt:S<1000000000^((dg a).length+1):=by
  rw[<-hS,bw];exact Nat.mul_lt_mul'' (Pd a) hsB
 have hSle:=Ep hSlt
 have hSV:S<V*1000000000^((dg a).length+1-(dg b).length):=by
  rw[<-hS,<-hV];have h1:=Pd a;have h2:=aF7 (n:=b)
  have h3:1000000000^(dg a).length<=b*1000000000^((dg a).length+1-(dg b).length):=by
   refine bG (ud ?_) (cY _ h2);rw[<-eK];congr 1;omega
  calc a*s<b*1000000000^((dg a).length+1-(dg b).length)*s:=sZ (cM h1 h3) hs0
   _=_:=by simp only[cN,nu,ej]
 obtain⟨L,hL⟩:∃L,(dg a).length+1=L:=⟨_,rfl⟩
 rw[hL]at hSlt hSle hSV;dsimp only[aU,aV];refine aG4 (xs:=dg S) (zs:=List.replicate ((dg a).length+1) 0) (ws:=pd 1000000000 L S) (fun _=>rfl) rfl rfl eY b6 aT (Xr O ((DB.mI O S).append ((DB.rep O _).drop _)) (by simp only[cF,dF,dU];show(dg S).length+_=_;omega) (by rw[an0,kX,aj2];show lv (dg S)+_=_;rw[jX,eo,cV])) ?_;refine Wt (n:=L) rfl aT ?_;apply vn (aI O O);dsimp only[aU,aV];refine CN (n:=L-(dg b).length) (f:=fun d:Nat=>[aC.int .u32 (d:Int)]) 0 rfl rfl (by rw[hvl];omega) rfl O (by simp only[maxLen];omega) ?_;refine Wt (n:=L-(dg b).length) rfl aT ?_;apply vn (aI O O);dsimp only[aU,aV];obtain⟨m,hm⟩:∃m,L-(dg b).length=m:=⟨_,rfl⟩
 rw[hm]at hSV|-;rw[hvl];obtain⟨nv,hnv⟩:∃n,(dg b).length=n:=⟨_,rfl⟩
 rw[hnv]at hvl htv htop hbl hlen hm hs|-;refine bZ {g:Nat×List Nat×Nat // Xv S V L m g.1 g.2.1 g.2.2} (fun g=>[.one (.int .i64 ((g.1.1:Int)-1)),.rows (rT g.1.2.1),.rows (rT (pd 1000000000 L g.1.2.2))]) (fun g=>g.1.1) ⟨(m,List.replicate m 0,S),⟨ah _,aT,Dg.rep _,by simp[lv,val],by rw[kZ (ez O)];exact hSV,hSlt⟩⟩ ai.rfl (fun _=>rfl) ?_;rintro⟨⟨n,os,R⟩,hI⟩;dsimp only[aU,aV]at hI|-;have hnm:=hI.le;have hol:=hI.len;have hfit:=hI.fit;have hLs:L<549755813888:=O
 have hnvL:nv<L:=O
 apply vn kz;refine l4 ?_ ?_<;>intro h33
 .clear htop htB htv ht0 hs' hsle hSV hSlt hSle hs hlen hL hnv h2 h6 hS hV hsB hs0;obtain⟨i,rfl⟩:∃i,n=i+1:=⟨n-1,O⟩
  obtain⟨hX1,hX2,_,_⟩:=HK (B:=1000000000) O hV0 hI.eq hI.lt;obtain⟨X,hX⟩:∃X,R/1000000000^i=X:=⟨_,rfl⟩
  have hVlt:V<1000000000^nv:=by rw[<-hvl];exact Pd V
  have hXlt:X<1000000000^(nv+1):=by
   rw[bw,<-hX];exact Qc hX1 (sZ hVlt O)
  have hRtop:R/1000000000^(i+(nv+1))=0:=by
   rw[eK,<-nK,hX];exact fR hXlt
  have hRnv:R/1000000000^(i+nv)<1000000000:=by
   rw[eK,<-nK,hX,kZ (ez O),cN,<-bw];exact hXlt
  have htwo:=bY4 hbl hRnv;rw[hX]at htwo hX1 hX2;obtain⟨r1,hr1⟩:∃r,R/1000000000^(i+nv)%1000000000=r:=⟨_,rfl⟩
  obtain⟨r2,hr2⟩:∃r,R/1000000000^(i+nv-1)%1000000000=r:=⟨_,rfl⟩
  have hr1B:r1<1000000000:=by rw[<-hr1];exact eC _ O
  have hr2B:r2<1000000000:=by rw[<-hr2];exact eC _ O
  have hg1:(pd 1000000000 L R)[i+nv]?=some r1:=by rw[DA _ O,hr1]
  have hg2:(pd 1000000000 L R)[i+nv-1]?=some r2:=by rw[DA _ O,hr2]
  rw[hr1,hr2]at htwo;obtain⟨vt,hvt⟩:∃t,V/1000000000^(nv-1)=t:=⟨_,rfl⟩
  have hvtB:vt<1000000000:=by
   rw[<-hvt,kZ (ez O),cN,Yf hbl];exact hVlt
  have hvt0:0<vt:=by
   have:=aF7 (n:=V);rw[hvl]at this;rw[<-hvt];exact oC this (ez O)
  have hgv:(dg V)[nv-1]?=some vt:=by
   rw[aI4,hvt,fL hvtB]
  obtain⟨g,hg⟩:∃g,min ((r1*1000000000+r2)/vt) 999999999=g:=⟨_,rfl⟩
  have hgB:g<1000000000:=by rw[<-hg];exact fM (Nat.min_le_right _ _) bY
  have hgq:X/V<=g:=by
   rw[<-hg];have h1:=aL8 (B:=1000000000) (X:=X) (V:=V) (n:=nv-1) (by rw[hvt];exact hvt0);rw[hvt,<-htwo]at h1;exact Nat.le_min.2 ⟨h1,Nat.le_of_lt_succ hX2⟩
  have hpdl:(pd 1000000000 L R).length=L:=fU _ _;apply vn (aB O O);refine bo rfl rfl O (by rw[fU];omega) ?_;refine nQ rfl rfl O O hg1 rfl ?_;apply vn (tU ⟨_,jZ⟩ jx);apply vn aA1;apply vn (aB O O);apply vn (aI O O);refine bo rfl rfl O (by rw[fU];omega) ?_;refine nQ rfl rfl O O hg2 rfl ?_;dsimp only[aU,aV];apply vn (tU ⟨_,jZ⟩ jx);apply vn aw3;apply vn (aI O O);apply vn (aN eY O O hgv);apply vn (bq xj);apply vn (tU ⟨_,jZ⟩ jx);apply vn (bU8 (a:=r1*1000000000+r2) (by rw[Int.natCast_add,jH];rfl) hvt0 (bY5 hr1B hr2B)) rfl;apply vn bB1;dsimp only[aU,aV];rw[aH8,hg];apply vn (aB O O);apply vn (aB O O);apply vn (aB O O);apply vn (aB O O);dsimp only[aU,aV];refine cu3 (n:=i) (m:=i+nv+1) rfl (by show aC.int .i64 _=aC.int .i64 _;congr 1;omega) (by show aC.int .i64 _=aC.int .i64 _;congr 1;omega) (by show aC.int .i64 _=aC.int .i64 _;congr 1;omega) O b6 ?_
  have hgV:g*V<1000000000^(nv+1):=by
   rw[bw,cN (1000000000^nv)];exact cM (sZ (by omega:g<1000000000) hV0) (dz _ (mW hVlt))
  have hview:∀Y,Y<1000000000^(nv+1)->((rT (pd 1000000000 L (R%1000000000^i+1000000000^i*Y))).take (i+nv+1)).drop i=rT (pd 1000000000 (nv+1) Y):=by
   intro Y hY;rw[rT,rT,<-kD,<-mX,QK _ O,Uj,show i+nv+1-i=nv+1 by omega]
   congr 2
   rw[pn _ _ (ez O),fR (eC _ (ez O)),bW]
  have hfitY:∀Y,Y<1000000000^(nv+1)->R%1000000000^i+1000000000^i*Y<1000000000^L:=by
   intro Y hY;have h1:R%1000000000^i<1000000000^i:=eC _ (ez O);have h2:1000000000^i*(Y+1)<=1000000000^i*1000000000^(nv+1):=dz _ hY;rw[<-eK]at h2;have h3:1000000000^(i+(nv+1))<=1000000000^L:=gI O O;rw[dr,eG]at h2;omega
  have hput:∀Y Z,Y<1000000000^(nv+1)->Z<1000000000^(nv+1)->(rT (pd 1000000000 L (R%1000000000^i+1000000000^i*Y))).take i++rT (pd 1000000000 (nv+1) Z)++(rT (pd 1000000000 L (R%1000000000^i+1000000000^i*Y))).drop (i+(rT (pd 1000000000 (nv+1) Y)).length)=rT (pd 1000000000 L (R%1000000000^i+1000000000^i*Z)):=by
   intro Y Z hY hZ;have hp:0<1000000000^i:=ez O;have hm:R%1000000000^i<1000000000^i:=eC _ hp;rw[dA,fU,rT,rT,rT,<-kD,<-mX,<-cG,<-cG,ay1 (hfitY Y hY) hZ]
   have e:(R%1000000000^i+1000000000^i*Y)/1000000000^(i+(nv+1))=0:=by
    rw[eK 1000000000 i,<-nK,pn _ _ hp,fR hm,bW];exact fR hY
   rw[e,uR,fL hm,eo,cV]
  have hRX:R=R%1000000000^i+1000000000^i*X:=by rw[<-hX];exact(mf _ _).symm
  have hsub:=ZH (pd 1000000000 (nv+1) X) (dg V) g (GS O _ _) (mC V) hgB (by rw[fU];omega) (by rw[fU];omega);have hlvX:∀Y,Y<1000000000^(nv+1)->lv (pd 1000000000 (nv+1) Y)=Y:=fun Y hY=>by rw[lv,yk,fL hY]
  rw[hlvX X hXlt,jX,fU]at hsub
  have hgive:∀Y,Y<1000000000^(nv+1)->kI prog 245 237 1 [] [.one (.slice 1 (rT (dg V)))] (rT (pd 1000000000 (nv+1) Y)) [.one (.bool (decide (1000000000^(nv+1)<=Y+V)))] (rT (pd 1000000000 (nv+1) (Y+V-1000000000^(nv+1)*(if 1000000000^(nv+1)<=Y+V then 1 else 0)))):=by
   intro Y hY;have h1:=ag1 (pd 1000000000 (nv+1) Y) (dg V) (GS O _ _) (mC V) (by rw[fU];omega) (by rw[fU];omega);rw[hlvX Y hY,jX,fU]at h1;exact h1
  have hok:os[i]?=some (os[i]' O):=bM O;have hVB:V<1000000000^(nv+1):=cM hVlt (gI O O);have hXV:X%V<1000000000^(nv+1):=Qc (eC _ hV0) hVB
  have hN:Xv S V L m i (os.set i (X/V)) (R%1000000000^i+1000000000^i*(X%V)):=by
   have:=hI.next hV0 rfl;rw[hX]at this;exact this
  clear hI htwo hg hr1 hr2 hg1 hg2 hvt hgv hvt0 hvtB hX hRnv hRtop hr1B hr2B hpdl hlvX hfit
  refine bw1 (n:=i) (vs:=rT (pd 1000000000 L (R%1000000000^i+1000000000^i*(X+1000000000^(nv+1)*(if X<g*V then 1 else 0)-g*V)))) (ts:=rT (pd 1000000000 L R)) (us:=rT (pd 1000000000 (nv+1) X)) rfl ⟨.i64,.i64,i+nv+1,(by show aC.int .i64 _=aC.int .i64 _;congr 1;omega),(by show aC.int .i64 _=aC.int .i64 _;congr 1;omega),O,b6,by rw[<-hview X hXlt,<-hRX]⟩ (by simp[pd]) rfl (WE rfl hsub) (by
   conv=>lhs;rw[hRX]
   exact hput X _ hXlt (by split<;>omega)) ?_
  refine l4 ?_ ?_<;>intro h57
  .refine bZ {p:Bool×Nat // if p.1 then p.2=X/V else X<p.2*V/\p.2<1000000000} (fun p=>[.one (.bool p.1.1),.one (.int .u64 p.1.2),.rows (rT (pd 1000000000 L (R%1000000000^i+1000000000^i*gbv (1000000000^(nv+1)) X V p.1)))]) (fun p=>if p.1.1 then 0 else p.1.2+1) ⟨(false,g),by simp only[eN,ck];exact⟨h57,hgB⟩⟩ ⟨aQ.Sub.same,aQ.Sub.same,aQ.Sub.of_eq (congrArg (fun y=>aQ.rows (rT (pd 1000000000 L (R%1000000000^i+1000000000^i*y)))) (by simp only[gbv,eN,ck];rw[aF h57,eG])),trivial⟩ (fun _=>rfl) ?_;rintro⟨⟨made,g'⟩,hp⟩;dsimp only[aU,aV]at hp|-;apply vn fk;refine nI (!made) rfl (fun h60=>?_) (fun h60=>?_)
   .have hmd:made=false:=by simpa using h60
    subst hmd;simp only[eN,ck]at hp
    have hgV':g'*V<1000000000^(nv+1):=by
     rw[bw,cN (1000000000^nv)];exact cM (sZ (by omega:g'<1000000000) hV0) (dz _ (mW hVlt))
    have hg0:0<g':=by
     rcases ju g' with h | h
     .rw[h]at hp;omega
     .exact h
    have hgm:(g'-1)*V+V=g'*V:=by
     obtain⟨k,rfl⟩:∃k,g'=k+1:=⟨g'-1,O⟩
     rw[lW,bt,ee]
    obtain⟨W,hW⟩:∃W,1000000000^(nv+1)=W:=⟨_,rfl⟩
    have hYe:gbv W X V (false,g')=X+W-g'*V:=by simp[gbv]
    have hnew:X+W-g'*V+V-W*(if W<=X+W-g'*V+V then 1 else 0)=gbv W X V (decide (W<=X+W-g'*V+V),g'-1):=by
     rw[hW]at hgV' hXlt;by_cases hc:W<=X+W-g'*V+V
     .rw[aF hc,eG];simp only[gbv,hc,pV,bg];have hq:X/V=g'-1:=yL hV0 (by rw[show g'-1+1=g' by omega];exact hp.1);have h1:=mf X V;rw[hq,cN]at h1;omega
     .rw[aG hc,eo];simp only[gbv,hc,nm,eN,ck];omega
    rw[hW]at hview hput hgive hXlt hgV';have hYlt:X+W-g'*V<W:=O
    have hput1:=hput (X+W-g'*V) (X+W-g'*V+V-W*(if W<=X+W-g'*V+V then 1 else 0)) hYlt (by split<;>omega);rw[hnew]at hput1;rw[hW,hYe];refine bw1 (n:=i) (ts:=rT (pd 1000000000 L (R%1000000000^i+1000000000^i*(X+W-g'*V)))) (us:=rT (pd 1000000000 (nv+1) (X+W-g'*V))) (us':=rT (pd 1000000000 (nv+1) (gbv W X V (decide (W<=X+W-g'*V+V),g'-1)))) rfl ⟨.i64,.i64,i+nv+1,(by show aC.int .i64 _=aC.int .i64 _;congr 1;omega),(by show aC.int .i64 _=aC.int .i64 _;congr 1;omega),O,b6,(hview _ hYlt).symm⟩ (by simp[pd]) rfl (WE rfl (hnew▸hgive _ hYlt)) hput1 ?_;apply vn aB6;dsimp only[aU,aV];have hg1':(g':Int)-1=((g'-1:Nat):Int):=by clear hN hput hview hgive hfitY;omega
    refine aq rfl ⟨⟨(decide (W<=X+W-g'*V+V),g'-1),?_⟩,⟨aQ.Sub.same,aQ.Sub.of_eq (congrArg (fun q=>aQ.one (aC.int .u64 q)) hg1'),aQ.Sub.of_eq ?_,trivial⟩,?_⟩
    .by_cases hc:W<=X+W-g'*V+V
     .simp only[hc,pV,bg];exact(yL hV0 (by rw[show g'-1+1=g' by omega];exact hp.1)).symm
     .simp only[hc,nm,eN,ck];omega
    .dsimp only;rfl
    .dsimp only;by_cases hc:W<=X+W-g'*V+V
     .simp[hc]
     .simp[hc];omega
   have hmd:made=true:=by simpa using h60
   subst hmd;simp only[bg]at hp;subst hp;simp only[gbv,bg];apply vn (qh ⟨_,jx⟩ jZ (qN _) (ah6 hX2));refine bo rfl rfl O O ?_;refine gL (d':=X/V) rfl rfl O O hok rfl ?_;apply vn (aI O O);dsimp only[aU,aV];exact aq rfl ⟨⟨(i,os.set i (X/V),R%1000000000^i+1000000000^i*(X%V)),hN⟩,⟨aQ.Sub.of_eq (congrArg (fun q=>aQ.one (aC.int .i64 q)) (bC3 i)),aQ.Sub.same,aQ.Sub.same,trivial⟩,by show i<i+1;omega⟩
  have hq:X/V=g:=xk hgq (by rw[wk hV0];omega)
  have hmod:X+1000000000^(nv+1)*(if X<g*V then 1 else 0)-g*V=X%V:=by
   rw[aG h57,eo,cV];have h1:=mf X V;rw[hq,cN]at h1;omega
  rw[hmod];rw[hq]at hN;apply vn (qh ⟨_,jx⟩ jZ (qN _) (ah6 hgB));refine bo rfl rfl O O ?_;refine gL (d':=g) rfl rfl O O hok rfl ?_;apply vn (aI O O);dsimp only[aU,aV];exact aq rfl ⟨⟨(i,os.set i g,R%1000000000^i+1000000000^i*(X%V)),hN⟩,⟨aQ.Sub.of_eq (congrArg (fun q=>aQ.one (aC.int .i64 q)) (bC3 i)),aQ.Sub.same,aQ.Sub.same,trivial⟩,by show i<i+1;omega⟩
 have hn0:n=0:=O
 subst hn0;have heq:=hI.eq;have hlt:=hI.lt;rw[gd,sG,eG]at heq;rw[sG,pK]at hlt;obtain⟨hQ,hR⟩:=yz heq hlt;have hQ2:lv os=a/b:=by rw[hQ,<-hS,<-hV,Nat.mul_div_mul_right _ _ hs0]
 have hR2:R=a%b*s:=by rw[hR,<-hS,<-hV,Nat.mul_mod_mul_right]
 apply aA (kx (pd 1000000000 L R) (GS O _ _) (by rw[fU];omega)) rfl;rw[show lv (pd 1000000000 L R)=R by rw[lv,yk,fL hfit]];apply aA (bp1 R s hs0 hsB (by have:=Ep hfit;omega)) rfl;apply aA (kx os hI.dg);dsimp only[aU,aV];refine aR ?_;rw[hQ2,hR2,Nat.mul_div_cancel _ hs0];rfl
open Go Go.Proofs Go.RowKit Go.Shelf Tryz Ord
attribute [local go_sem] Oper.semAt_some
section
variable{α:Type}[Inhabited α]{enc:α->Value}
def bk(vs:List α)(k:Nat):List (Nat×α):=(List.range k).map fun j=>(vs.length-1-j,vs[vs.length-1-j]?.getD default)
def SO(vs:List α)(k:Nat):bk vs (k+1)=bk vs k++[(vs.length-1-k,vs[vs.length-1-k]?.getD default)]:=by simp[bk,gy]
def OB(vs:List α)(k:Nat):(bk vs k).length=k:=by simp[bk]
def KpB(n₀ Bs:Nat)(A B:World):Prop:=Below n₀ A B/\∀v,A.cell? ⟨Bs,0,none⟩=some v->B.cell? ⟨Bs,0,none⟩=some v
def aA8(l Bs n₀ b off cap:Nat)(vs:List α)(hlen:vs.length<4611686018427387904)(hb:b<n₀)(J Jx:List (Nat×α)->World->Prop)
  (hY:∀pre x W,J pre W->pre.length<vs.length->YieldAt Fence.wide (1000-1) prog l #[.int .i64 (x.1:Int),enc x.2] W fun e W'=>
   (e=.returned (.bool true)/\J (pre++[x]) W'/\KpB n₀ Bs W W')\/(e=.returned (.bool false)/\Jx (pre++[x]) W'))
  (W:World) (hBs:W.cell? ⟨Bs,0,none⟩=some (.slice (some ⟨b,off,none⟩) vs.length cap)) (hc:∀j v,vs[j]?=some v->W.cell? ⟨b,off+j,none⟩=some (enc v)) (h0:J [] W) :
  CallsIn Fence.wide 1000 prog 237 #[.func (.yield l) #[] #[],.pointer (some ⟨Bs,0,none⟩)] W fun e W'=>(∃v,e=.returned v) /\
   ((∃ys,ys=bk vs vs.length/\J ys W')\/(∃pre,(∃k,k<=vs.length/\pre=bk vs k)/\Jx pre W')):=by
 refine jF func237 rfl trivial ?_ rfl;simp only[ntmps237,cq,bB,bu,Nat.reduceAdd,Nat.reduceSub,eE,eF,eJ,eI,List.nil_append,List.cons_append];obtain⟨N,hN⟩:∃N,vs.length=N:=⟨_,rfl⟩
 rw[hN]at hBs hY hlen|-
 gi_wp2
 gi_loopw [3] (fun i wr=>∃k:Nat,k<=N/\i=.int .i64 ((N:Int)-1-k)/\J (bk vs k) wr/\Below n₀ W wr/\wr.cell? ⟨Bs,0,none⟩=some (.slice (some ⟨b,off,none⟩) N cap))
  (fun i _=>(intOf i+1).toNat)
 case atStart=>exact⟨0,dM _,aT,h0,cS _ _,hBs⟩
 case round=>
  obtain⟨k,hk,rfl,hJs,hnx,hBx⟩:=hrel;have hmeas:(intOf (.int .i64 ((N:Int)-1-k))+1).toNat=N-k:=by simp[intOf];omega
  by_cases hlt:k<N
  .have hv:vs[N-1-k]?=some (vs[N-1-k]?.getD default):=by rw[bM O];rfl
   have hcx:wr.cell? ⟨b,off+(N-1-k),none⟩=some (enc (vs[N-1-k]?.getD default)):=(hnx.cell (p:=⟨b,off+(N-1-k),none⟩) hb).trans (hc _ _ hv);obtain⟨fn,tmps,assign,body,hy,hR⟩:=hY _ (N-1-k,vs[N-1-k]?.getD default) wr hJs (by rw[OB];exact hlt);generalize hx:vs[N-1-k]?.getD default=x at hy hR hcx;have hsucc:bk vs (k+1)=bk vs k++[(N-1-k,x)]:=by rw[SO,hN,hx]
   have e1:(N:Int)-1-k=((N-1-k:Nat):Int):=O
   have hn1:N-1-k<N:=O
   have e2:(wr.cell? ⟨b,off+(N-1-k),none⟩)=some (enc x):=hcx;rw[e1]
   gi_wp2
   refine hR.mono ?_;rintro e W3 (⟨rfl,hJ3,hk3⟩ | ⟨rfl,hJx3⟩)
   .gi_wp2
    go_roundw
    case rel=>exact⟨k+1,O,by congr 1;omega,by rw[hsucc];exact hJ3,hnx.trans hk3.1,hk3.2 _ hBx⟩
    case measure=>simp[intOf]
   .gi_wp2
    refine gB (BZ rfl _ _ _) rfl ?_;exact⟨⟨_,rfl⟩,.inr ⟨_,⟨k+1,O,rfl⟩,by rw[hsucc];exact hJx3⟩⟩
  .obtain rfl:k=N:=O
   gi_wp2
   go_end0
   exact⟨⟨_,rfl⟩,.inl ⟨_,rfl,hJs⟩⟩
def Zd{α:Type}(l Bs:Nat)(a:j9)(cap:Nat)(J:List (Nat×α)->World->Prop)(W:World)(hBs:W.cell? ⟨Bs,0,none⟩=some (.slice a 0 cap))(h0:J [] W) :
  CallsIn Fence.wide 1000 prog 237 #[.func (.yield l) #[] #[],.pointer (some ⟨Bs,0,none⟩)] W fun e W'=>(∃v,e=.returned v)/\J [] W':=by
 refine jF func237 rfl trivial ?_ rfl;simp only[ntmps237,cq,bB,bu,Nat.reduceAdd,Nat.reduceSub,eE,eF,eJ,eI,List.nil_append,List.cons_append]
 gi_wp2
 gi_loopw [3] (fun i wr=>i=.int .i64 (-1)/\J [] wr) (fun _ _=>0)
 case atStart=>exact⟨rfl,h0⟩
 case round=>
  obtain⟨rfl,hJs⟩:=hrel
  gi_wp2
  go_end0
  exact⟨⟨_,rfl⟩,hJs⟩
def CF(n:Nat)(a:j9)(len cap:Nat)(w:World) :
  CallsIn Fence.wide n prog 215 #[.slice a len cap] w fun e w'=>e=.returned (.func (.func 237) #[] #[.pointer (some ⟨w.heap.size,0,none⟩)])/\w'=w.alloc (.cells #[.slice a len cap] 40):=by
 refine jF func215 rfl trivial ?_ rfl;simp only[ntmps215,cq,bB,bu,Nat.reduceAdd,Nat.reduceSub,eE,eF,eJ,eI,List.nil_append,List.cons_append]
 gi_wp2
 go_ret
 exact⟨rfl,rfl⟩
def Sl1(enc:α->Value)(n₀:Nat)(W:World)(sv:Value)(vs:List α):Prop:=
 ∃a cap,sv=.slice a vs.length cap/\(vs=[]\/∃b off,a=some ⟨b,off,none⟩/\b<n₀/\∀j v,vs[j]?=some v->W.cell? ⟨b,off+j,none⟩=some (enc v))
def Sl1.below{α:Type}{enc:α->Value}{n₀:Nat}{A B:World}(h:Below n₀ A B){sv:Value}{vs:List α}:Sl1 enc n₀ A sv vs->Sl1 enc n₀ B sv vs:=by
 rintro⟨a,cap,e,rfl | ⟨b,off,rfl,hb,hc⟩⟩
 .exact⟨a,cap,e,.inl rfl⟩
 .exact⟨_,cap,e,.inr ⟨b,off,rfl,hb,fun j v hj=>(h.cell (p:=⟨b,off+j,none⟩) hb).trans (hc j v hj)⟩⟩
def tn(Bs n₀:Nat)(sv:Value)(vs:List α)(hlen:vs.length<4611686018427387904)(w:World)(hBs:Bs<w.heap.size)(hn₀:n₀<=w.heap.size)
  (hc:w.cell? ⟨Bs,0,none⟩=some sv) (hI:Sl1 enc n₀ w sv vs) :
  SeqStopsK Fence.wide 1000 prog 237 #[.pointer (some ⟨Bs,0,none⟩)] (fun x:Nat×α=>#[Value.int .i64 (x.1:Int),enc x.2]) (KpB n₀ Bs) (fun ys=>ys=bk vs vs.length) (fun pre=>∃k,k<=vs.length/\pre=bk vs k) vs.length w:=fun l J Jx W hW _ _ hY h0=>by
 have hc':=(hW.cell (p:=⟨Bs,0,none⟩) hBs).trans hc;obtain⟨a,cap,rfl,rfl | ⟨b,off,rfl,hb,hcs⟩⟩:=hI.below (hW.mono hn₀)
 .exact(Zd (α:=α) l Bs a cap J W hc' h0).mono fun e W' ⟨he,hj⟩=>⟨he,.inl ⟨_,rfl,hj⟩⟩
 .exact(aA8 (enc:=enc) l Bs n₀ b off cap vs hlen hb J Jx hY W hc' hcs h0)
def Xd{n₀ Bs:Nat}{A B C:World}(h:KpB n₀ Bs A B)(k:KpB n₀ Bs B C):KpB n₀ Bs A C:=⟨h.1.trans k.1,fun v hv=>k.2 v (h.2 v hv)⟩
def XB{n₀ Bs:Nat}{w:World}(hn:n₀<=w.heap.size)(hB:Bs<w.heap.size)(W:World)(l:Nat)(o o':Obj)(hl:w.heap.size<=l)(h:W.heap[l]?=some o)(h1:o.isCells=false)(h2:o.isWalk=false):KpB n₀ Bs W (W.putObj l o'):=
 ⟨uV hn W l o o' hl h h1 h2,fun v hv=>by
  have e:(W.putObj l o').heap[Bs]?=W.heap[Bs]?:=mE O;simp only[World.cell?,e]at hv|-;exact hv⟩
end
def wv(pre:List (Nat×Int)):Int:=pre.foldl (fun n x=>IntKind.u64.wrap (IntKind.u64.wrap (n*1000000000)+IntKind.u64.wrap x.2)) 0
def bn2(pre:List (Nat×Int))(x:Nat×Int):wv (pre++[x])=IntKind.u64.wrap (IntKind.u64.wrap (wv pre*1000000000)+IntKind.u64.wrap x.2):=by simp[wv]
def aQ9{n:Nat}(hn:n<1000000000000000000):wv (bk ((dg n).map (fun d:Nat=>(d:Int))) (dg n).length)=(n:Int):=by
 have hl:(dg n).length<=2:=Ep O;have hv:=jX n;have hd:=mC n;generalize dg n=ds at hl hv hd
 match ds,hl with
 | [],_=>simp[lv,val]at hv;subst hv;simp[bk,wv]
 | [a],_=>
   have ha:=hd a aT;simp[lv,val]at hv;simp[bk,wv,gy];simp only[sd];omega
 | [a,b],_=>
   have ha:=hd a aT;have hb:=hd b aT;simp[lv,val]at hv;simp[bk,wv,gy];simp only[sd];omega
def ap4{M:c6}{w:World}{v:Value}{ds:c7}(h:(aC.slice 1 (rT ds)).rep M w v):Sl1 (fun d:Int=>Value.int .u32 d) w.heap.size w v (ds.map (fun d:Nat=>(d:Int))):=by
 obtain⟨a,cap,rfl,hc,hm,hel⟩:=h;refine⟨a,cap,aT,?_⟩;rcases hel with h | ⟨b,off,cs,T,fz,rfl,hb,hh,hr⟩
 .left
  have:ds=[]:=by cases ds<;>simp_all
  subst this;rfl
 .refine .inr ⟨b,off,rfl,(cJ.1 hh).1,fun j v hj=>?_⟩;rw[dR]at hj;cases hd:ds[j]? with
  | none=>rw[hd]at hj;simp at hj
  | some d=>
    rw[hd]at hj;simp only[cZ,aZ]at hj;subst hj;obtain⟨_,hrep⟩:=hr j _ (qZ hd);rw[eG]at hrep;have hl:=hrep.length
    have hlt:off+j<cs.toList.length:=by
     simp only[bB,bu,bh,dF]at hl;omega
    rw[jW hlt,mS,jI]at hrep;have h1:cs.toList[off+j]=.int .u32 d:=hrep.1.1;simp only[World.cell?,hh];rw[Array.getElem_toList]at h1;simp[h1,ra (show off+j<cs.size by simpa using hlt)]
def bp2(a:j9)(cap:Nat)(vs:List Int)(hlen:vs.length<4611686018427387904)(w:World)(hI:Sl1 (fun d:Int=>Value.int .u32 d) w.heap.size w (.slice a vs.length cap) vs) :
  CallsIn Fence.wide 1001 prog 242 #[.agg #[.slice a vs.length cap]] w fun e W'=>e=.returned (.int .u64 (wv (bk vs vs.length)))/\Below w.heap.size w W':=by
 refine rS func242 rfl trivial ?_ rfl;simp only[ntmps242,cq,bB,bu,Nat.reduceAdd,Nat.reduceSub,eE,eF,eJ,eI,List.nil_append,List.cons_append];generalize hL:vs.length=L at hI hlen|-
 gi_wp2_with (refine⟨trivial,?_⟩;gi_at_call 215;refine(CF _ _ _ _ _).mono ?_;rintro e w' ⟨rfl,rfl⟩)
 have bN:=Boxed.new (w.alloc (.cells #[.slice a L cap] 42)) 236 (.int .u64 0);have bS:=Boxed.new ((w.alloc (.cells #[.slice a L cap] 42)).alloc (.cells #[.int .u64 0] 236)) 40 (.slice a L cap);simp only[cz]at bN bS;have hB0:Below w.heap.size w (((w.alloc (.cells #[.slice a L cap] 42)).alloc (.cells #[.int .u64 0] 236)).alloc (.cells #[.slice a L cap] 40)):=(((cS _ w).alloc (ah _) _).alloc aT _).alloc b6 _;obtain⟨W0,hW0⟩:∃W0,(((w.alloc (.cells #[.slice a L cap] 42)).alloc (.cells #[.int .u64 0] 236)).alloc (.cells #[.slice a L cap] 40))=W0:=⟨_,rfl⟩
 have hs0:W0.heap.size=w.heap.size+3:=by rw[<-hW0];simp
 have bN':=bN.alloc (.cells #[.slice a L cap] 40);rw[hW0]at hB0 bS bN' |-
 refine RM (w0:=W0) rfl O (gf:=237) (lb:=#[.pointer (some ⟨w.heap.size+1+1,0,none⟩)]) rfl trivial (wL func237 aS rfl)
  (tn (enc:=fun d:Int=>Value.int .u32 d) (w.heap.size+1+1) w.heap.size (.slice a L cap) vs O W0 O O bS.cell (hI.below hB0)) Xd (XB O O) (cS _ _) (fun _=>rfl)
  (fun pre W=>(W.cell? ⟨w.heap.size+1,0,none⟩=some (.int .u64 (wv pre))/\W.frozen? ⟨w.heap.size+1,0,none⟩=false)/\Below w.heap.size w W)
  (fun _ _ _=>False)
  (OwnFrom.and (Own.from (fun s A B row hs hg hr=>⟨cell_kept hs.1 hg hr,(frozen_kept hs.1 hg hr).trans hs.2⟩) _) (ownFrom_below (ah _) O))
  (fun _=>by intro s A B row hs;exact hs.elim)
  ⟨⟨bN'.cell,bN'.frozen⟩,hB0⟩
  (fun x=>{ tmps:=#[.agg #[.slice a L cap],.pointer (some ⟨w.heap.size,0,none⟩),.int .u64 0,.pointer (some ⟨w.heap.size+1,0,none⟩),undef,.int .u32 x.2,.pointer (some ⟨w.heap.size,0,none⟩),.slice a L cap,.func (.func 237) #[] #[.pointer (some ⟨w.heap.size+1+1,0,none⟩)],.int .i64 (x.1:Int),.int .u32 x.2,undef,undef,undef,undef,undef,undef],defers:=[] }) ?assign ?body ?done ?stop
 case assign=>
  intro l x W K hK
  gi_wp2
  exact hK
 case body=>
  rintro l pre x W ⟨⟨hcr,hfr⟩,hB⟩ _
  gi_wp2
  refine⟨KeepsOthers.setCell _ _ _,⟨(cS w.heap.size W).setCell (p:=⟨w.heap.size+1,0,none⟩) aT _,fun v hv=>?_⟩,⟨?_,by rw[World.frozen?_setCell];exact hfr⟩,hB.setCell (p:=⟨w.heap.size+1,0,none⟩) aT _⟩
  .refine Eq.trans (World.cell?_setCell_other _ _ _ _ ?_) hv;simp
  .rw[bn2];exact World.cell?_setCell_same' _ _ _ (by rw[hcr];rfl)
 case done=>
  rintro D ys W hD rfl ⟨⟨hcr,hfr⟩,hB⟩ hK
  gi_wp2
  refine⟨aT,.inl ⟨_,_,rfl,sV hK,?_⟩⟩;exact⟨_,kN rfl _ _ _,rfl,hB.trans (uV (w:=w) (ah _) W D _ _ O hK rfl rfl)⟩
 case stop=>
  rintro D c pre W hD _ h hK;exact h.elim
def bb4(n:Nat)(hn:n<1000000000000000000):aX prog 242 [mT n] (.ret [.one (.int .u64 n)]):=by
 refine⟨ay aS,fun M w vs hM hv=>?_⟩
 match vs,hv with
 | [v],hv=>
   obtain⟨⟨us,rfl,hus⟩,_⟩:=hv
   match us,hus with
   | [u],hus=>
     have hsl:=ap4 hus.1;obtain⟨a,cap,rfl,hel⟩:=hsl;have hl:((dg n).map (fun d:Nat=>(d:Int))).length=(dg n).length:=aL _
     have hlen:(dg n).length<4611686018427387904:=by
      have h2:(dg n).length<=2:=Ep (by rw[show(1000000000:Nat)^2=1000000000000000000 by decide];exact hn);omega
     have h1:=bp2 a cap ((dg n).map (fun d:Nat=>(d:Int))) (by rw[hl];exact hlen) w ⟨a,cap,rfl,hel⟩;rw[hl,aQ9 hn]at h1;have h2:Calls prog 242 #[.agg #[.slice a (dg n).length cap]] w _:=(bC (n:=1001)).1 h1;rw[hl];show Calls prog 242 #[.agg #[.slice a (dg n).length cap]] w _;refine h2.mono ?_;rintro e w' ⟨rfl,hb⟩;exact⟨hb,[.int .u64 n],rfl,⟨rfl,rfl⟩,trivial⟩
   | [],hus=>exact hus.elim
   | _::_::_,hus=>exact hus.2.elim
 | [],hv=>exact hv.elim
 | _::_::_,hv=>exact hv.2.elim
end Go.Sy
namespace Go.Sy
open Go Go.Proofs Tryz Ord
def cb8:Tr:=gO 242 [(G1 2)] [none] [22] [42] 236 false (EG 242 3 0 24 236 (.loop 1 [lV 11 0,lV 12 0] (.need (.prim [(W 14 0),(.one (.c (.k (.int .u64 0))))] none) (.binOp .neq 236 (tT 26) (.const (.int .u64 0)) 236) 4 false (aY 15 0 (ss .rem 236 29 30 13 0 14 0 236 (lh 1 14 16)) (qy 206 13 1 32 236 42 (tW 16))))))
def cj3:Tr:=uj .leq 3 14 2 7 0 4 (aY 8 0 (bL 3 0 18 40 (uj .leq 3 19 2 9 0 4 (aY 10 0 cb8 (Yk 2 3 35 36 (.back 0 [lV 3 0,lV 12 0,lV 4 0]))))) (Yk 2 3 35 36 (.back 0 [lV 3 0,lV 10 0,lV 4 0])))
def aZ6:Tr:=tW 2
def cr2:Tr:=.loop 0 [lV 0 0,lV 1 0,lN] (EG 172 3 0 9 4 (jU 5 0 10 (aY 6 0 (bL 2 0 13 40 cj3) aZ6)))
def aN5:af prog f220 dV [.v (some 1),.v (some 1)]=cr2:=aS
def aD4:Tr:=nS 4 0 4 1
def cm4:Tr:=ss .neq 4 6 8 0 1 1 1 4 (qg 162 0 0 1 11 13 (al1 2 0 3 9 14 aD4))
def bP8:af prog f175 dV [.v (some 2),.v (some 2)]=cm4:=aS
def aI5:Tr:=nS 6 0 6 1
def cB2:Tr:=ss .eql 4 7 9 0 1 1 1 4 (aY 2 0 (qg 209 0 0 1 14 16 (al1 0 1 3 12 17 aD4)) (gO 164 [(G1 0),(G1 1)] [none] [21,23] [42,42] 3 true (jy 3 0 0 3 24 (aY 4 0 (qg 223 1 0 0 29 31 (al1 1 1 5 27 32 aI5)) (qg 223 0 0 1 37 39 (al1 0 1 5 35 40 aI5))))))
def bN2:af prog f184 dV [.v (some 2),.v (some 2)]=cB2:=aS
def ct8:Tr:=jy 0 0 0 2 3 (aY 1 0 (iI 0 2 236 5 (Zt 2 236 6 (qy 206 3 1 7 236 42 (.need (.call 158 [(tF true),(G1 4)] [(some 2)]) (.call ⟨.value (.func 158),#[(.const (.bool true)),(tT 8)],#[4,42]⟩) 44 true (nS 5 0 5 1))))) (iI 0 2 236 10 (qy 206 2 1 11 236 42 (.need (.call 158 [(tF false),(G1 3)] [(some 2)]) (.call ⟨.value (.func 158),#[(.const (.bool false)),(tT 12)],#[4,42]⟩) 44 true aD4))))
def bh6:af prog f156 dV [.v none]=ct8:=aS
def kB{n B:Nat}(h:n<2^B):(dg n).length<=B:=
 Ep (cM h (sL O B))
def aj8{n:Nat}(h:(dg n).length<=2:=by omega):n<1000000000000000000:=by
 have h1:=Pd n;have h2:1000000000^(dg n).length<=1000000000^2:=gI O h;rw[show(1000000000:Nat)^2=1000000000000000000 by decide]at h2;omega
def bM6(n:Nat):aX prog 221 [(mT n:aQ)] (.ret [.one (.bool (decide (n=1)))]):=by
 refine eD func221 bJ7 ?_;apply vn (ae eY (aL _));apply vn cW;refine l4 ?_ ?_<;>intro h2
 .obtain⟨d,hd⟩:∃d,dg n=[d]:=by
   match h:dg n with
   | [d]=>exact⟨d,rfl⟩
   | []=>rw[h]at h2;simp at h2
   | _::_::_=>rw[h]at h2;simp at h2;omega
  have hv:=jX n;rw[hd]at hv;apply vn (aN eY O O (show(dg n)[0]?=some d by rw[hd];rfl)) rfl;apply vn (bq xj);apply vn cW;dsimp only[aU,aV];refine aR ?_;have hv:d=n:=by simpa[lv,val]using hv
  subst hv;show[aQ.one (.bool (decide ((d:Int)=1)))]=_;have e:((d:Int)=1)↔d=1:=O
  simp only[e]
 refine aR ?_
 have:¬n=1:=fun e=>by
  subst e;rw[vo]at h2;exact h2 rfl
 simp[this];rfl
def aJ6(a b:Nat)(hs:(dg (max a b)).length<137438953472):aX prog 220 [(mT a:aQ),(mT b:aQ)] (.ret [mT (Nat.gcd a b)]):=by
 refine eD func220 aN5 ?_;refine bZ {p:Nat×Nat // Nat.gcd p.1 p.2=Nat.gcd a b/\p.1<=max a b/\p.2<=max a b} (fun p=>[.one (dT p.1.1),.one (dT p.1.2),.one (.exact (.slice none 0 0))]) (fun p=>p.1.2) ⟨(a,b),rfl,O,O⟩ ai.rfl (fun _=>rfl) ?_;rintro⟨⟨x,y⟩,hg,hx,hy⟩;dsimp only[aU,aV]at hg hx hy|-;have hxl:=pj hx;have hyl:=pj hy;apply aA (vQ y);apply vn zo;refine l4 ?_ ?_<;>intro h3
 .have hy0:0<y:=O
  apply vn (ae eY (aL _));apply vn nR;refine l4 ?_ ?_<;>intro h6
  .apply vn (ae eY (aL _));apply vn nR;refine l4 ?_ ?_<;>intro h9
   .apply aA (bb4 x (aj8));apply aA (bb4 y (aj8));dsimp only[aU,aV];have hx18:=aj8 (n:=x);have hy18:=aj8 (n:=y);clear hxl hyl;refine bZ {p:Nat×Nat // Nat.gcd p.1 p.2=Nat.gcd a b/\p.1<1000000000000000000/\p.2<1000000000000000000} (fun p=>[.one (.int .u64 p.1.1),.one (.int .u64 p.1.2)]) (fun p=>p.1.2) ⟨(x,y),hg,hx18,hy18⟩ ai.rfl (fun _=>rfl) ?_;rintro⟨⟨p,q⟩,hpq,hp,hq⟩;dsimp only[aU,aV]at hpq hp hq|-;apply vn iC;refine l4 ?_ ?_<;>intro h14
    .apply vn (Ff (c:=((p%q:Nat):Int)) O (by rw[sa (qN _),<-TC]));exact aq rfl ⟨⟨(q,p%q),by rw[<-hpq,kM p q,uN q p,kM],hq,fM (ug _ _) hp⟩,ai.rfl,eC _ O⟩
    have hq0:q=0:=O
    subst hq0;rw[Ce]at hpq;apply aA (pa p);dsimp only[aU,aV];rw[hpq];exact aR
   apply aA (SD x y hy0);exact aq rfl ⟨⟨(y,x%y),by rw[<-hg,kM x y,uN y x,kM],hy,bG (ug _ _) hx⟩,ai.rfl,eC _ hy0⟩
  apply aA (SD x y hy0);exact aq rfl ⟨⟨(y,x%y),by rw[<-hg,kM x y,uN y x,kM],hy,bG (ug _ _) hx⟩,ai.rfl,eC _ hy0⟩
 have hy0:y=0:=O
 subst hy0;rw[Ce]at hg;rw[hg];exact aR
def ci2:Tr:=aY 4 0 (Yk 0 2 15 16 (Yk 1 2 22 23 (aq1 0 1 5 28 30 (aX7 (qg 223 7 0 10 32 33 (mD 9 11 0)))))) (aq1 0 1 0 28 30 (aX7 (qg 223 1 0 6 32 33 (mD 5 7 0))))
def cr6:Tr:=qg 220 0 0 1 7 8 (EG 221 2 0 10 4 (jU 3 0 11 ci2))
def bn0:af prog f174 dV [.v (some 2),.v (some 1)]=cr6:=aS
def ch3:Tr:=.need (.call 206 [(.one (.c (.k (.int .u64 1))))] [(some 1)]) (.call ⟨.value (.func 206),#[(.const (.int .u64 1))],#[236]⟩) 42 true (qg 209 0 2 1 4 5 aZ6)
def aC0:af prog f163 dV [.v (some 3)]=ch3:=aS
def ci1:Tr:=.ret [(.agg [(U 0 0),(U 0 1),tN])]
def bw4:af prog f155 dV [.v (some 2)]=ci1:=aS
def cn4:Tr:=qy 156 0 2 3 2 44 (gO 155 [(G2 1)] [(some 3)] [4] [44] 46 true (mD 2 2 2))
def cp9:af prog f63 dV [.v none]=cn4:=aS
def ct0:Tr:=OH 91 0 4 44 3 (cd 1)
def bu8:af prog f23 dV [.v (some 3)]=ct0:=aS
def cf4:Tr:=jU 0 1 5 (aq1 1 0 0 6 9 (mD 2 0 2))
def bX2:af prog f65 dV [.v (some 3)]=cf4:=aS
def cy7:Tr:=.need (.call 158 [(tF false),(G1 0)] [(some 2)]) (.call ⟨.value (.func 158),#[(.const (.bool false)),(tT 5)],#[4,42]⟩) 44 false (mD 1 0 2)
def bT2:af prog f168 dV [.v (some 3)]=cy7:=aS
def cg6:Tr:=gO 163 [(G3 1)] [(some 1)] [9] [46] 42 true (gO 175 [(G2 0),(.agg [(U 3 0),(tE (.bool false))])] [(some 2)] [12,14] [44,44] 44 false (gO 175 [(G2 1),(.agg [(U 2 0),(tE (.bool false))])] [(some 2)] [17,19] [44,44] 44 false (xt 184 4 5 15 20 44 (qg 162 2 0 3 22 23 (gO 174 [(G2 6),(G1 7)] [(some 3)] [21,24] [44,42] 46 true (mD 8 8 2))))))
def ce9:Tr:=tc 163 0 1 7 42 cg6
def bL7:af prog f88 dV [.v (some 3),.v (some 3)]=ce9:=aS
def cy3:Tr:=gO 65 [(G3 1)] [(some 3)] [6] [46] 46 true (kv 88 0 0 1 0 2 2 5 7 (mD 3 3 2))
def cb7:af prog f86 dV [.v (some 3),.v (some 3)]=cy3:=aS
def cx3:Tr:=xt 175 0 1 6 8 44 (tc 163 0 1 10 42 (tc 163 1 1 12 42 (qg 162 3 0 4 11 13 (gO 174 [(G2 2),(G1 5)] [(some 3)] [9,14] [44,42] 46 true (mD 6 6 2)))))
def bU6:af prog f76 dV [.v (some 3),.v (some 3)]=cx3:=aS
def cp1:Tr:=tc 163 1 1 10 42 (aq1 1 1 2 9 11 (xt 175 0 3 6 12 44 (tc 163 0 1 14 42 (qg 162 5 0 1 15 18 (gO 174 [(G2 4),(G1 6)] [(some 3)] [13,19] [44,42] 46 true (mD 7 7 2))))))
def bq0:af prog f212 dV [.v (some 3),.v (some 3)]=cp1:=aS
def ck0:Tr:=CO 23 1 6 3 (ir 2 0 0 3 7 (aY 3 0 (.ret [(.agg [tN,(tE (.bool false)),tN]),(WK 9)]) (kv 212 0 0 1 0 2 1 10 11 (.ret [(G3 4),(WK 0)]))))
def bV6:af prog f165 dV [.v (some 3),.v (some 3)]=ck0:=aS
def cz7:Tr:=OF 63 0 3 6 46 (OF 63 1 3 8 46 (gO 165 [(G3 2),(G3 3)] [(some 3),none] [7,9] [46,46] 55 true (.ret [(G3 4),(W 5 0)])))
def cE7:af prog f72 dV [.v none,.v none]=cz7:=aS
def bW0:Tr:=tc 163 1 1 31 42 (gO 162 [(G1 0),(G1 7)] [(some 1)] [30,32] [42,42] 42 false (tc 163 0 1 37 42 (gO 162 [(G1 1),(G1 9)] [(some 1)] [36,38] [42,42] 42 false (gO 164 [(G1 8),(G1 10)] [none] [33,39] [42,42] 3 true (ss .mul 3 27 40 6 0 11 0 3 (cd 12))))))
def cA0:Tr:=ir 2 0 0 3 15 (aY 5 0 (iG 2 3 0 3 18 19 (iG 2 3 0 3 21 22 (uj .quo 3 23 2 7 0 3 (iG 6 8 0 3 20 24 (cd 9))))) (OU 23 0 26 3 bW0))
def cj4:Tr:=ss .neq 3 11 12 2 0 3 0 4 (aY 4 0 (iG 2 3 0 3 18 19 (iG 2 3 0 3 21 22 (uj .quo 3 23 2 6 0 3 (iG 5 7 0 3 20 24 (cd 8))))) cA0)
def ch8:Tr:=OU 23 0 7 3 (CO 23 1 9 3 cj4)
def bX4:af prog f67 dV [.v (some 3),.v (some 3)]=ch8:=aS
def Rx(x y:Int)(hs:(dg x.natAbs).length+(dg y.natAbs).length<1099511627776:=by omega):aX prog 175 [(iT x:aQ),(iT y:aQ)] (.ret [iT (x*y)]):=by
 refine eD func175 bP8 ?_;apply vn (bL4 un4);apply aA (pN _ _ hs)
 apply aA (jT _ _ (x*y) (by
  rw[<-eA];have hsg:(x*y).natAbs=x.natAbs*y.natAbs:=eA _ _;by_cases h1:x<0<;>by_cases h2:y<0<;>simp only[h1,h2,pV,nm,ne_eq,not_true_eq_false,not_false_eq_true,Bool.true_eq_false,eN,bg,ck]
  .have:=Int.mul_pos_of_neg_of_neg h1 h2;omega
  .have:=Int.mul_nonpos_of_nonpos_of_nonneg (Int.le_of_lt h1) (yO.1 h2);omega
  .have:=Int.mul_nonpos_of_nonneg_of_nonpos (yO.1 h1) (Int.le_of_lt h2);omega
  .have:=Int.mul_nonneg (yO.1 h1) (yO.1 h2);omega)) rfl
 exact aR
def bO0(x y:Int)(hs:(dg x.natAbs).length+(dg y.natAbs).length<1099511627776):aX prog 184 [(iT x:aQ),(iT y:aQ)] (.ret [iT (x+y)]):=by
 refine eD func184 bN2 ?_;apply vn (bO1 un4);refine l4 ?_ ?_<;>intro h1
 .have h1:x<0↔y<0:=by simpa using h1
  apply aA (aU8 _ _ hs);apply aA (jT _ _ (x+y) (by by_cases h2:x<0<;>simp only[h2,pV,nm,eN,bg,ck]<;>omega)) rfl;exact aR
 have h1:¬(x<0↔y<0):=by simpa using h1
 apply aA (uQ _ _ hs);apply vn bO;dsimp only[aU,aV];rw[show decide (gD (x.natAbs:Int) (y.natAbs:Int)<0)=decide (x.natAbs<y.natAbs) by rw[nh,tR];omega];refine l4 ?_ ?_<;>intro h7
 .apply aA (RH _ _);apply aA (jT _ _ (x+y) (by by_cases h2:y<0<;>simp only[h2,pV,nm,eN,bg,ck]<;>omega)) rfl;exact aR
 apply aA (RH _ _);apply aA (jT _ _ (x+y) (by by_cases h2:x<0<;>simp only[h2,pV,nm,eN,bg,ck]<;>omega)) rfl;exact aR
def be6(n:Int)(h1:-9223372036854775808<=n)(h2:n<9223372036854775808):aX prog 156 [(.one (.int .i64 n):aQ)] (.ret [iT n]):=by
 refine eD func156 bh6 ?_;apply vn bO;refine l4 ?_ ?_<;>intro h1
 .apply vn (kh ⟨_,un2⟩ jx (c:=n+18446744073709551616) (by rw[sd];omega)) rfl;apply vn (bx6 (c:=((n.natAbs:Nat):Int)) (by rw[sd];omega)) rfl;apply aA (pa _);apply aA (jT true _ n (by rw[aF rfl];omega)) rfl;exact aR
 apply vn (kh ⟨_,un2⟩ jx (c:=((n.natAbs:Nat):Int)) (by rw[sd];omega)) rfl;apply aA (pa _);apply aA (jT false _ n (by rw[aG aT];omega)) rfl;exact aR
abbrev qC(q:Rat):List aC:=[dT q.num.natAbs,.bool (decide (q.num<0)),dT (q.den-1)]
abbrev qT(q:Rat):aQ:=.agg (qC q)
def nO:az aC.Sub [.exact (.slice none 0 0),.bool false,.exact (.slice none 0 0)] (qC 0):=⟨aP0 rfl,aC.Sub.same,aP0 rfl,trivial⟩
def aO9{z:Int}{d:Nat}(hd:d≠0:=by omega):(mkRat z d).num=(if decide (z<0)=true then -((z.natAbs/z.natAbs.gcd d:Nat):Int)else((z.natAbs/z.natAbs.gcd d:Nat):Int))/\(mkRat z d).den=d/z.natAbs.gcd d:=by
 rw[<-Cp hd,Cl hd];refine⟨?_,rfl⟩;show z/_=_;have hg:0<z.natAbs.gcd d:=wO _ O;have hdv:(((z.natAbs.gcd d:Nat)):Int)∣z:=PY.2 (TG _ _);have h1:=Int.natAbs_ediv_of_dvd hdv;rw[bj]at h1;by_cases h:z<0
 .rw[bz h,aF rfl,<-h1];have:=Int.ediv_neg_of_neg_of_pos h (b:=((z.natAbs.gcd d:Nat):Int)) O;omega
 .rw[dn h,aG aT,<-h1];have:=Rz (yO.1 h) (b:=((z.natAbs.gcd d:Nat):Int)) O;omega
def TA(z:Int)(d:Nat)(hd:0<d)(hs:(dg z.natAbs).length+(dg d).length<137438953472:=by omega):aX prog 174 [(iT z:aQ),(mT d:aQ)] (.ret [qT (mkRat z d)]):=by
 refine eD func174 bn0 ?_;have hg:0<z.natAbs.gcd d:=wO _ hd;have hgd:z.natAbs.gcd d<=d:=Nat.gcd_le_right _ hd;have hgl:=pj hgd;obtain⟨hm1,hm2⟩:=aO9 (z:=z) (d:=d);have hq:0<d/z.natAbs.gcd d:=oC hgd hg;have hql:=pj (rm d (z.natAbs.gcd d));have hone:(dg 1).length=1:=by rw[vo];rfl
 generalize hG:z.natAbs.gcd d=g at *
 apply aA (aJ6 _ _ (by
  rcases Nat.le_total z.natAbs d with h | h
  .rw[Nat.max_eq_right h];omega
  .rw[Nat.max_eq_left h];omega)) rfl
 rw[hG];apply aA (bM6 _);apply vn zo;refine l4 ?_ ?_<;>intro h3
 .apply aA (SD _ _ hg);apply aA (SD _ _ hg);apply aA (jT _ _ (mkRat z d).num hm1);apply aA (pa 1);apply aA (RH _ _ hq hq);rw[<-hm2];exact aR
 have hg1:g=1:=by simpa using h3
 subst hg1;rw[pK]at hm1 hm2;apply aA (jT _ _ (mkRat z d).num hm1);dsimp only[aU,aV];apply aA (pa 1);apply aA (RH _ _ hd hd);dsimp only[aU,aV];refine aR ?_;show[aQ.agg [dT _,.bool _,dT (d-1)]]=[aQ.agg [_,_,dT ((mkRat z d).den-1)]];rw[hm2]
def gJ(q:Rat)(h:(dg q.den).length<1099511627775:=by omega):aX prog 163 [(qT q:aQ)] (.ret [mT q.den]):=by
 refine eD func163 aC0 ?_;have hp:=q.den_pos;have hl:=pj (Nat.sub_le q.den 1);have hone:(dg 1).length=1:=by rw[vo];rfl
 apply aA (pa 1);apply aA (aU8 _ _);rw[show q.den-1+1=q.den by omega];exact aR
def bo0(z:Int):aX prog 155 [(iT z:aQ)] (.ret [qT (z:Rat)]):=by
 refine eD func155 bw4 ?_;exact gj ⟨⟨aC.Sub.same,aC.Sub.same,aP0 rfl,trivial⟩,trivial⟩
def CT(n:Int)(h1:-9223372036854775808<=n:=by omega)(h2:n<9223372036854775808:=by omega):aX prog 63 [(.one (.int .i64 n):aQ)] (.ret [qT (n:Rat)]):=by
 refine eD func63 cp9 ?_;apply aA (be6 _ h1 h2);apply aA (bo0 _);exact aR
def mV(q:Rat):aX prog 23 [(qT q:aQ)] (.ret [.one (.int .i64 q.num.sign)]):=by
 refine eD func23 bu8 ?_;apply aA (bs8 _);exact aR
def Fit.dl{B:Nat}{q:Rat}(h:Fit B q):(dg q.num.natAbs).length<=B/\(dg q.den).length<=B:=⟨kB h.1,kB h.2⟩
def ZW(q:Rat):aX prog 65 [(qT q:aQ)] (.ret [qT (-q)]):=by
 refine eD func65 bX2 ?_;apply vn zo
 apply aA (jT _ _ (-q).num (by
  rw[Bo];by_cases h:q.num<0<;>simp only[h,not_true_eq_false,not_false_eq_true,pV,nm,eN,bg,ck]<;>omega)) rfl
 dsimp only[aU,aV];refine aR ?_;show[qT _]=_;simp only[qT,qC,Cn]
def Bq(q:Rat):q.abs.num=(q.num.natAbs:Int)/\q.abs.den=q.den:=by
 unfold Rat.abs;have h:=SQ (q:=q);split
 .rename_i h0;have:=h.2 h0;exact⟨O,rfl⟩
 .rename_i h0;have:¬0<=q.num:=fun e=>h0 (h.1 e);exact⟨by rw[Bo];omega,Cn _⟩
def bG4(q:Rat):aX prog 168 [(qT q:aQ)] (.ret [qT q.abs]):=by
 refine eD func168 bT2 ?_;apply aA (jT false _ (q.abs).num (by rw[aG aT];exact(Bq q).1)) rfl;dsimp only[aU,aV];refine aR ?_;show[aQ.agg [dT q.abs.num.natAbs,.bool (decide (q.abs.num<0)),dT (q.den-1)]]=[qT q.abs];simp only[qT,qC,(Bq q).2]
def ig(a b:Rat)(A B:Nat)(ha:Fit A a)(hb:Fit B b)(h:A+B<=34359738368:=by omega):aX prog 76 [(qT a:aQ),(qT b:aQ)] (.ret [qT (a*b)]):=by
 refine eD func76 bU6 ?_;obtain⟨ha1,ha2⟩:=Fit.dl ha;obtain⟨hb1,hb2⟩:=Fit.dl hb;have hn:=kB (ba ha.1 hb.1);have hd:=kB (ba ha.2 hb.2);apply aA (Rx _ _);apply aA (gJ a);apply aA (gJ b);apply aA (pN _ _);apply aA (TA _ _ (jJ a.den_pos b.den_pos) (by rw[eA];omega)) rfl;rw[<-QG];exact aR
def oV(a b:Rat)(A B:Nat)(ha:Fit A a)(hb:Fit B b)(h:A+B<=34359738368:=by omega):aX prog 88 [(qT a:aQ),(qT b:aQ)] (.ret [qT (a+b)]):=by
 refine eD func88 bL7 ?_;obtain⟨ha1,ha2⟩:=Fit.dl ha;obtain⟨hb1,hb2⟩:=Fit.dl hb;have hn1:=kB (ba ha.1 hb.2);have hn2:=kB (ba hb.1 ha.2);have hd:=kB (ba ha.2 hb.2)
 have hsum:(dg (a.num*(b.den:Int)+b.num*(a.den:Int)).natAbs).length<=A+B+1:=by
  apply kB;have h1:=ba ha.1 hb.2;have h2:=ba hb.1 ha.2;rw[gp B A]at h2;rw[bw];refine fM (Cx _ _) ?_;rw[eA,eA,bj,bj];omega
 apply aA (gJ a);apply aA (gJ b);apply aA (Rx a.num (b.den:Int) (by rw[bj];omega)) rfl;apply aA (Rx b.num (a.den:Int) (by rw[bj];omega)) rfl;apply aA (bO0 _ _ (by rw[eA,eA,bj,bj];omega)) rfl;apply aA (pN _ _);apply aA (TA _ _ (jJ a.den_pos b.den_pos));rw[<-SA];exact aR
def lZ(a b:Rat)(A B:Nat)(ha:Fit A a)(hb:Fit B b)(h:A+B<=34359738368:=by omega):aX prog 86 [(qT a:aQ),(qT b:aQ)] (.ret [qT (a-b)]):=by
 refine eD func86 cb7 ?_;apply aA (ZW b);apply aA (oV a (-b) A B ha hb.neg h);rw[<-Cc];exact aR
def aP9{a b:Rat}(hb:b≠0):mkRat (a.num*(if decide (b.num<0)=true then -(b.den:Int)else b.den)) (a.den*b.num.natAbs)=a/b:=by
 have hn:b.num≠0:=fun e=>hb (mR.1 e)
 have e:b⁻¹=mkRat (if decide (b.num<0)=true then -(b.den:Int)else b.den) b.num.natAbs:=by
  rw[Rat.inv_def];by_cases h:b.num<0
  .rw[bz h,aF rfl]
   conv=>lhs;rw[show b.num=-((b.num.natAbs:Nat):Int) by omega]
   rw[Rat.divInt_neg',Rat.divInt_ofNat]
  .rw[dn h,aG aT]
   conv=>lhs;rw[show b.num=((b.num.natAbs:Nat):Int) by omega]
   rw[Rat.divInt_ofNat]
 rw[Qj,e]
 conv=>rhs;rw[<-Rat.mkRat_self a]
 rw[as1]
def bh7(a b:Rat)(A B:Nat)(hb0:b≠0)(ha:Fit A a)(hb:Fit B b)(h:A+B<=34359738368):aX prog 212 [(qT a:aQ),(qT b:aQ)] (.ret [qT (a/b)]):=by
 refine eD func212 bq0 ?_;obtain⟨ha1,ha2⟩:=Fit.dl ha;obtain⟨hb1,hb2⟩:=Fit.dl hb;have hn:b.num≠0:=fun e=>hb0 (mR.1 e);have hn1:=kB (ba ha.1 hb.2);have hd:=kB (ba ha.2 hb.1);obtain⟨z,hz⟩:∃z:Int,(if decide (b.num<0)=true then -(b.den:Int)else b.den)=z:=⟨_,rfl⟩
 have hza:z.natAbs=b.den:=by rw[<-hz];split<;>simp
 apply aA (gJ b);apply aA (jT _ _ z hz.symm);apply aA (Rx a.num z (by rw[hza];omega)) rfl;apply aA (gJ a);apply aA (pN _ _);apply aA (TA _ _ (jJ a.den_pos O) (by rw[eA,hza];omega)) rfl;rw[<-hz,aP9 hb0];exact aR
def sign_zero{q:Rat}:q.num.sign=0↔q=0:=by rw[Cm,mR]
def af2(a b:Rat)(A B:Nat)(ha:Fit A a)(hb:Fit B b)(h:A+B<=34359738368:=by omega):aX prog 165 [(qT a:aQ),(qT b:aQ)] (.ret [qT (if b=0 then 0 else a/b),.one (.int .i64 (if b=0 then 9 else 0))]):=by
 refine eD func165 bV6 ?_;apply aA (mV b);apply vn cW;refine l4 ?_ ?_<;>intro h2
 .have h2:b=0:=sign_zero.1 h2;rw[aF h2,aF h2];exact gj ⟨nO,aQ.Sub.same,trivial⟩
 have h2:¬b=0:=fun e=>h2 (sign_zero.2 e);rw[aG h2,aG h2];apply aA (bh7 a b A B h2 ha hb h);exact aR
def uJ{n:Int}(h1:-9223372036854775808<=n:=by omega)(h2:n<9223372036854775808:=by omega):Fit 64 (n:Rat):=Fit.int O O
def bS0(n d:Int)(h1:-9223372036854775808<=n:=by omega)(h2:n<9223372036854775808:=by omega)(h3:-9223372036854775808<=d:=by omega)(h4:d<9223372036854775808:=by omega):aX prog 72 [(.one (.int .i64 n):aQ),(.one (.int .i64 d):aQ)] (.ret [qT (if d=0 then 0 else(n:Rat)/(d:Rat)),.one (.int .i64 (if d=0 then 9 else 0))]):=by
 refine eD func72 cE7 ?_
 have e:((d:Rat)=0)↔d=0:=by
  rw[<-mR,uf]
 have hd:=af2 (n:Rat) (d:Rat) 64 64 (uJ h1 h2) (uJ h3 h4);simp only[e]at hd;apply aA (CT n h1 h2);apply aA (CT d h3 h4);apply aA hd;exact aR
def jM(a b:Rat):Int:=if a<b then -1 else if b<a then 1 else 0
def yq(a b:Rat):jM a b=gD (a.num*b.den) (b.num*a.den):=by
 unfold jM gD;simp only[Rat.lt_iff]
def dS(z:Int):(z<0/\z.sign=-1)\/(z=0/\z.sign=0)\/(0<z/\z.sign=1):=by
 rcases Sw z 0 with h | h | h
 .exact .inl ⟨h,qD h⟩
 .exact .inr (.inl ⟨h,by rw[h];rfl⟩)
 .exact .inr (.inr ⟨h,gZ h⟩)
def ar6{a b:Rat}(h:a.num.sign≠b.num.sign\/a.num.sign=0):jM a b=a.num.sign-b.num.sign-(a.num.sign-b.num.sign).tdiv 2:=by
 rw[yq];have ha:=a.den_pos;have hb:=b.den_pos
 have key:∀(x:Int)(d:Nat),0<d->(x<0->x*(d:Int)<0)/\(x=0->x*(d:Int)=0)/\(0<x->0<x*(d:Int)):=fun x d hd=>
  ⟨fun h=>Int.mul_neg_of_neg_of_pos h O,fun h=>by rw[h,Int.zero_mul],fun h=>Int.mul_pos h O⟩
 obtain⟨k1,k2,k3⟩:=key a.num b.den hb;obtain⟨l1,l2,l3⟩:=key b.num a.den ha
 rcases dS a.num with⟨h1,e1⟩ | ⟨h1,e1⟩ | ⟨h1,e1⟩<;>rcases dS b.num with⟨h2,e2⟩ | ⟨h2,e2⟩ | ⟨h2,e2⟩<;>rw[e1,e2]at h|- <;> simp only[gD]<;>(try (exfalso;revert h;decide)) <;>
  (first
   | have i1:=k1 h1
   | have i1:=k2 h1
   | have i1:=k3 h1) <;>
  (first
   | have i2:=l1 h2
   | have i2:=l2 h2
   | have i2:=l3 h2) <;>
  (first
   | (rw[aF O];rfl)
   | (rw[aG O,aF O];rfl)
   | (rw[aG O,aG O];rfl))
def bu9{a b:Rat}(h0:a.num.sign≠0)(h:a.num.sign=b.num.sign:=by omega):jM a b=a.num.sign*gD ((a.num.natAbs*b.den:Nat):Int) ((b.num.natAbs*a.den:Nat):Int):=by
 rw[yq];rcases dS a.num with⟨h1,e1⟩ | ⟨h1,e1⟩ | ⟨h1,e1⟩
 .have h2:b.num<0:=by
   rcases dS b.num with⟨h2,e2⟩ | ⟨h2,e2⟩ | ⟨h2,e2⟩
   .exact h2
   .omega
   .omega
  have ea:a.num*(b.den:Int)=-((a.num.natAbs*b.den:Nat):Int):=by
   rw[jH,<-Int.neg_mul];congr 1;omega
  have eb:b.num*(a.den:Int)=-((b.num.natAbs*a.den:Nat):Int):=by
   rw[jH,<-Int.neg_mul];congr 1;omega
  rw[e1,ea,eb];generalize ((a.num.natAbs*b.den:Nat):Int)=p;generalize ((b.num.natAbs*a.den:Nat):Int)=q;unfold gD;split<;>(try split)<;>(try split)<;>(try split)<;>omega
 .omega
 .have h2:0<b.num:=by
   rcases dS b.num with⟨h2,e2⟩ | ⟨h2,e2⟩ | ⟨h2,e2⟩
   .omega
   .omega
   .exact h2
  have ea:a.num*(b.den:Int)=((a.num.natAbs*b.den:Nat):Int):=by
   rw[jH];congr 1;omega
  have eb:b.num*(a.den:Int)=((b.num.natAbs*a.den:Nat):Int):=by
   rw[jH];congr 1;omega
  rw[e1,ea,eb,Int.one_mul]
def ou(a b:Rat)(A B:Nat)(ha:Fit A a)(hb:Fit B b)(h:A+B<=34359738368:=by omega):aX prog 67 [(qT a:aQ),(qT b:aQ)] (.ret [.one (.int .i64 (jM a b))]):=by
 refine eD func67 bX4 ?_;obtain⟨ha1,ha2⟩:=Fit.dl ha;obtain⟨hb1,hb2⟩:=Fit.dl hb;have hn1:=kB (ba ha.1 hb.2);have hn2:=kB (ba hb.1 ha.2);have hsa:-1<=a.num.sign/\a.num.sign<=1:=by rcases dS a.num with⟨_,e⟩ | ⟨_,e⟩ | ⟨_,e⟩<;>omega
 have hsb:-1<=b.num.sign/\b.num.sign<=1:=by rcases dS b.num with⟨_,e⟩ | ⟨_,e⟩ | ⟨_,e⟩<;>omega
 have htd:-1<=(a.num.sign-b.num.sign).tdiv 2/\(a.num.sign-b.num.sign).tdiv 2<=1:=by
  rcases dS a.num with⟨_,e⟩ | ⟨_,e⟩ | ⟨_,e⟩<;>rcases dS b.num with⟨_,e2⟩ | ⟨_,e2⟩ | ⟨_,e2⟩<;>rw[e,e2]<;>decide
 apply aA (mV a);apply aA (mV b);apply vn iC;refine l4 ?_ ?_<;>intro h3
 .apply vn (aI O O);apply vn (aI O O);apply vn (rG (c:=(a.num.sign-b.num.sign).tdiv 2) bY (gz));apply vn (aI O O);dsimp only[aU,aV];rw[ar6 (.inl h3)];exact aR
 apply vn cW;refine l4 ?_ ?_<;>intro h10
 .apply vn (aI O O);apply vn (aI O O);apply vn (rG (c:=(a.num.sign-b.num.sign).tdiv 2) bY (gz));apply vn (aI O O);dsimp only[aU,aV];rw[ar6 (.inr h10)];exact aR
 apply aA (mV a);apply aA (gJ b);apply aA (pN _ _);apply aA (gJ a);apply aA (pN _ _);apply aA (uQ _ _);dsimp only[aU,aV]
 have hci:-1<=gD ((a.num.natAbs*b.den:Nat):Int) ((b.num.natAbs*a.den:Nat):Int)/\gD ((a.num.natAbs*b.den:Nat):Int) ((b.num.natAbs*a.den:Nat):Int)<=1:=by
  unfold gD;split<;>(try split)<;>omega
 rw[bu9 h10];generalize gD ((a.num.natAbs*b.den:Nat):Int) ((b.num.natAbs*a.den:Nat):Int)=c at hci|-;generalize a.num.sign=s at hsa h10|-
 apply vn (wi (c:=s*c) (by
  rcases(by omega:s=-1\/s=1)with rfl | rfl
  .exact gz
  .exact gz)) rfl
 exact aR
end Go.Sy
