/- Part. -/
import Derived.Test.YtacgmapjhpghkaaGreatDoorNa
import Derived.RangeFuncBox
import Derived.Shelf.Abstract
import Derived.WalkKit
import Derived.OwnWalkIn
import Derived.TacticsInMore
import Derived.LoopNIn
import Derived.LoopIn
set_option linter.all false
set_option maxHeartbeats 2000000
set_option maxRecDepth 100000
namespace Go.Sy
def Pg:=@Go.wpIn_rangeFunc_ownF
def sx:=@Go.belowK_b
def Qb:=@Go.grownBy_setCell'
def vy:=@Go.Proofs.enters_of
open Go Go.Proofs Tryz Ord
def bD0:Tr:=cF 20 8 40 51 52 (nN 20 8 237 53 (eH 21 15 0 237 54 55 (cF 20 8 40 51 52 (fR 20 8 22 237 57 56 (ao 8 1 3 19 (qn 1 24 23))))))
def br8:Tr:=cF 9 8 40 51 52 (nN 9 8 237 53 (eH 18 15 0 237 54 55 (cF 9 8 40 51 52 (fR 9 8 19 237 57 56 (ao 8 1 3 19 (qn 0 21 20))))))
def bE1:Tr:=dD 16 0 15 237 40 41 4 (aR 17 0 (cF 9 8 40 45 46 (nN 9 8 237 47 (Wi 18 1000000000 48 (cF 9 8 40 43 44 (fR 9 8 19 237 50 49 bD0))))) br8)
def bD9:Tr:=cF 18 8 40 51 52 (nN 18 8 237 53 (eH 19 7 0 237 54 55 (cF 18 8 40 51 52 (fR 18 8 20 237 57 56 (ao 8 1 3 19 (qn 1 22 21))))))
def bv7:Tr:=cF 9 8 40 51 52 (nN 9 8 237 53 (eH 16 7 0 237 54 55 (cF 9 8 40 51 52 (fR 9 8 17 237 57 56 (ao 8 1 3 19 (qn 0 19 18))))))
def bH5:Tr:=dD 14 0 7 237 40 41 4 (aR 15 0 (cF 9 8 40 45 46 (nN 9 8 237 47 (Wi 16 1000000000 48 (cF 9 8 40 43 44 (fR 9 8 17 237 50 49 bD9))))) bv7)
def bV5:Tr:=dD 8 0 11 3 23 26 4 (aR 12 0 (bA 1 0 8 0 40 30 31 (dh 13 237 32 (fF 7 14 237 28 33 (cF 9 8 40 37 38 (nN 9 8 237 39 bE1))))) (ar6 7 0 35 (aR 13 0 (Zr 9 59 (rY 14)) (cF 9 8 40 37 38 (nN 9 8 237 39 bH5)))))
def cd2:Tr:=Xg 3 237 1 0 13 15 40 (uz 5 17 40 (My 5 (dD 8 0 6 3 19 18 0 (aR 10 0 (al 1 0 25 40 bV5) (Zr 9 59 (rY 11))))))
def cj0:Tr:=al 0 0 10 40 (BN 2 11 cd2)
theorem br5:aV prog f223 ck [.v (some 1),.v (some 1)]=cj0:=by kernel_rfl
def bs0:Tr:=aR 23 0 (ao 21 1000000000 2 44 (gJ 24 2 237 48 (cF 7 6 40 46 47 (fR 7 6 25 237 50 49 (ao 6 1 3 13 (Pz 22 1 27 26)))))) (gJ 21 2 237 48 (cF 7 6 40 46 47 (fR 7 6 24 237 50 49 (ao 6 1 3 13 (Pz 22 0 26 25)))))
def bo3:Tr:=gJ 16 237 2 32 (ad4 15 34 (gJ 18 236 2 35 (eH 17 19 0 2 33 36 (eH 20 5 0 2 37 38 (YR 15 40 (iC 21 0 0 2 42 bs0))))))
def cb3:Tr:=bA 1 0 6 0 40 22 23 (dh 11 237 24 (gJ 12 237 236 25 (oe .mul 236 21 26 2 0 13 0 236 (fF 4 14 236 20 27 (cF 7 6 40 29 30 (nN 7 6 237 31 bo3))))))
def bv6:Tr:=aR 18 0 (ao 16 1000000000 2 44 (gJ 19 2 237 48 (cF 7 6 40 46 47 (fR 7 6 20 237 50 49 (ao 6 1 3 13 (Pz 17 1 22 21)))))) (gJ 16 2 237 48 (cF 7 6 40 46 47 (fR 7 6 19 237 50 49 (ao 6 1 3 13 (Pz 17 0 21 20)))))
def bt9:Tr:=gJ 11 237 2 32 (ad4 4 34 (gJ 13 236 2 35 (eH 12 14 0 2 33 36 (eH 15 5 0 2 37 38 (YR 4 40 (iC 16 0 0 2 42 bv6))))))
def cc2:Tr:=dD 6 0 3 3 13 12 0 (aR 8 0 (al 1 0 17 40 (dD 6 0 9 3 16 18 4 (aR 10 0 cb3 (cF 7 6 40 29 30 (nN 7 6 237 31 bt9))))) (my 5 0 2 52 (.retr [(W 9 0)] 7)))
def cf9:Tr:=uz 0 11 40 (.loop 0 [(.w (.one (.c (.k (.int .u64 0))))),lK 0,lK 0,.row 0] cc2)
theorem YD:xt prog f244 (fun _=>none) [.lent 237 1,.v none,.v none]=cf9:=by kernel_rfl
def bD6:Tr:=aa5 13 29 (aR 14 0 (ac8 13 31 (cF 5 4 40 33 34 (fR 5 4 15 237 36 35 (ao 4 1 3 10 (qn 1 17 16))))) (cF 5 4 40 33 34 (fR 5 4 13 237 36 35 (ao 4 1 3 10 (qn 0 16 15)))))
def bp2:Tr:=aa5 8 29 (aR 11 0 (ac8 8 31 (cF 5 4 40 33 34 (fR 5 4 12 237 36 35 (ao 4 1 3 10 (qn 1 14 13))))) (cF 5 4 40 33 34 (fR 5 4 8 237 36 35 (ao 4 1 3 10 (qn 0 13 12)))))
def bU7:Tr:=fF 7 3 237 16 17 (al 1 0 20 40 (dD 4 0 9 3 19 21 4 (aR 10 0 (bA 1 0 4 0 40 24 25 (dh 11 237 26 (fF 8 12 237 23 27 bD6))) bp2)))
def bZ6:Tr:=uz 0 8 40 (My 0 (dD 4 0 2 3 10 9 0 (aR 6 0 (cF 5 4 40 13 14 (nN 5 4 237 15 bU7)) (.need (.prim [(W 3 0),(.one (.c (.k (.int .u32 0))))] none) (.binOp .neq 237 (tT 38) (.const (.int .u32 0)) 237) 4 false (.retr [(W 7 0)] 5)))))
theorem Yx:xt prog f245 (fun _=>none) [.lent 237 1,.v none]=bZ6:=by kernel_rfl
structure Sh(xs ys:List Nat)(i b:Nat)(os:List Nat):Prop where
 h:jh 1000000000 xs ys 1 i 0 b os
theorem Sh.init{xs:List Nat}(hx:Dg xs)(ys:List Nat):Sh xs ys 0 0 xs:=⟨jh.init hx ys 1⟩
theorem Sh.next{xs ys os:List Nat}{i b x y z b':Nat}(h:Sh xs ys i b os)(hx:xs[i]?=some x)(hy:ys[i]?.getD 0=y)(hyB:y<1000000000)(hz:z<1000000000)(hb:b'<=1)(he:z+y+b=x+1000000000*b') :
  Sh xs ys (i+1) b' (os.set i z):=by
 have:=h.h.next (by omega) (by omega) hx hy hyB hz hb (by rw[bM,eN,ew hyB];exact he);rw[bM,eN,fA hyB]at this;exact⟨this⟩
theorem Sh.fin{xs ys os:List Nat}{i b:Nat}(h:Sh xs ys i b os)(hle:lv ys<=lv xs)(he:b=0/\ys.length<=i\/i=xs.length/\ys.length<=xs.length):lv os+lv ys=lv xs:=by
 have h1:=h.h.eq;rw[eN,bM]at h1;rcases he with⟨rfl,hl⟩ | ⟨rfl,hl⟩
 ·rw[eu,bq,dP hl]at h1
  have e:∀l:List Nat,i<=l.length->lv l=lv (l.take i)+1000000000^i*lv (l.drop i):=fun l hl=>by
   conv=>lhs;rw[<-mW i l]
   rw[tM,bK,dQ hl]
  rw[e os (by rw[h.h.len];exact h.h.le),e xs h.h.le,h.h.rest];simp only[lv]at h1|-;omega
 ·rw[dP (by rw[h.h.len];omega),gw,dP hl]at h1;have h2:=DB.lt (by omega) h.h.dg;rw[h.h.len]at h2;have hb:=h.h.b1;rcases(by omega:b=0\/b=1)with rfl | rfl
  ·show val _ os+val _ ys=val _ xs;omega
  ·have hle:val 1000000000 ys<=val 1000000000 xs:=hle;omega
theorem oC{a b:Nat}(h:a<=b):(dg a).length<=(dg b).length:=kQ (eh h (lh (by omega) b))
theorem OS(a b:Nat)(hab:b<=a:=by omega)(ha:0<a:=by omega)(hs:(dg a).length<1099511627776:=by omega):aU prog 223 [(mT a:aN),(mT b:aN)] (.ret [mT (a-b)]):=by
 refine dL func223 br5 ?_;have hlen:=oC hab;have hane:dg a≠[]:=fun e=>by have:=xI.1 e;omega
 apply vn (aP eC (aI _));dsimp only[aE,aF];refine AO (f:=fun d:Nat=>[aC.int .u32 (d:Int)]) 0 rfl rfl rfl rfl (by omega) (by simp only[maxLen];omega) ?_;refine ar9 (xs:=dg a) (ws:=dg a) (fun _=>rfl) rfl rfl eC (by simp) (by simpa using hane) (by simp) ?_;refine Hl rfl (aI _) ?_;refine bE {g:Nat×Nat×List Nat // Sh (dg a) (dg b) g.1 g.2.1 g.2.2} (fun g=>[.one (.int .u32 g.1.2.1),.one (.int .i64 g.1.1),.rows (rT g.1.2.2)]) (fun g=>(dg a).length-g.1.1) ⟨(0,0,dg a),Sh.init (kW a) _⟩ aZ.rfl (fun _=>rfl) ?_;rintro⟨⟨i,c,os⟩,hI⟩;dsimp only[aE,aF]at hI|-;have hol:=hI.h.len;have hil:=hI.h.le;have hc:=hI.h.b1;have hle:lv (dg b)<=lv (dg a):=by rw[iX,iX];exact hab
 have fin:(c=0/\(dg b).length<=i\/i=(dg a).length/\(dg b).length<=(dg a).length)->lv os=a-b:=fun h=>by
  have:=hI.fin hle h;rw[iX,iX]at this;omega
 apply vn aj;refine vs _ rfl ?_ ?_<;>intro h6
 ·have hx:(dg a)[i]?=some ((dg a)[i]'(by omega)):=bQ (by omega);generalize (dg a)[i]'(by omega)=x at hx;have hxB:=(kW a).get hx;have ho:=hI.h.get hx;apply vn (aP eC (aI _));apply vn aj;refine vs _ rfl ?_ ?_<;>intro h9
  ·have hy:(dg b)[i]?=some ((dg b)[i]'(by omega)):=bQ (by omega);generalize (dg b)[i]'(by omega)=y at hy;have hyB:=(kW b).get hy;apply vn (aJ eC (by omega) (by omega) hy);dsimp only[aE,aF];apply vn (bg vr);apply vn mf;refine br rfl rfl (by omega) (by first | omega | (rw[bJ];omega)) ?_;refine oD rfl rfl (by omega) (by omega) ho rfl ?_;apply vn aj;dsimp only[aE,aF];refine vs _ rfl ?_ ?_<;>intro h16
   ·refine br rfl rfl (by omega) (by first | omega | (rw[bJ];omega)) ?_;refine oD rfl rfl (by omega) (by omega) ho rfl ?_;apply vn mf;refine br rfl rfl (by omega) (by first | omega | (rw[bJ];omega)) ?_;refine iJ (d':=x+1000000000) rfl rfl (by omega) (by omega) ho rfl ?_;refine br rfl rfl (by omega) (by first | omega | (rw[bJ];omega)) ?_;refine Kj (d:=x+1000000000) rfl rfl (by omega) (by omega) (lk (by omega)) (.inr rfl) rfl ?_;dsimp only[aE,aF];apply vn ml;refine br rfl rfl (by omega) (by first | omega | (rw[bJ];omega)) ?_;refine iJ (d:=x+1000000000) (d':=x+1000000000-(y+c)) rfl rfl (by omega) (by omega) (lk (by omega)) ?_ ?_
    ·show[aC.int .u32 _]=[aC.int .u32 _]
     congr 2;omega
    rw[List.set_set];apply vn (aB (by omega) (by omega));dsimp only[aE,aF];exact ab rfl ⟨⟨(i+1,1,os.set i (x+1000000000-(y+c))),hI.next (b':=1) (z:=x+1000000000-(y+c)) hx (by rw[hy];rfl) hyB (by omega) (by omega) (by omega)⟩,aZ.rfl,by show(dg a).length-(i+1)<(dg a).length-i;omega⟩
   refine br rfl rfl (by omega) (by first | omega | (rw[bJ];omega)) ?_;refine oD rfl rfl (by omega) (by omega) ho rfl ?_;apply vn ml;refine br rfl rfl (by omega) (by first | omega | (rw[bJ];omega)) ?_;refine iJ (d':=x-(y+c)) rfl rfl (by omega) (by omega) ho ?_ ?_
   ·show[aC.int .u32 _]=[aC.int .u32 _]
    congr 2;omega
   apply vn (aB (by omega) (by omega));dsimp only[aE,aF];exact ab rfl ⟨⟨(i+1,0,os.set i (x-(y+c))),hI.next (b':=0) (z:=x-(y+c)) hx (by rw[hy];rfl) hyB (by omega) (by omega) (by omega)⟩,aZ.rfl,by show(dg a).length-(i+1)<(dg a).length-i;omega⟩
  apply vn bj;refine vs _ rfl ?_ ?_<;>intro h37
  ·apply aA (jo os hI.h.dg);dsimp only[aE,aF];refine aL ?_;rw[fin (.inl (by omega))];rfl
  have hnone:(dg b)[i]?=none:=eZ.2 (by omega);refine br rfl rfl (by omega) (by first | omega | (rw[bJ];omega)) ?_;refine oD rfl rfl (by omega) (by omega) ho rfl ?_;apply vn aj;refine vs _ rfl ?_ ?_<;>intro h43
  ·refine br rfl rfl (by omega) (by first | omega | (rw[bJ];omega)) ?_;refine oD rfl rfl (by omega) (by omega) ho rfl ?_;apply vn mf;dsimp only[aE,aF];refine br rfl rfl (by omega) (by first | omega | (rw[bJ];omega)) ?_;refine iJ (d':=x+1000000000) rfl rfl (by omega) (by omega) ho rfl ?_;refine br rfl rfl (by omega) (by first | omega | (rw[bJ];omega)) ?_;refine Kj (d:=x+1000000000) rfl rfl (by omega) (by omega) (lk (by omega)) (.inr rfl) rfl ?_;apply vn ml;refine br rfl rfl (by omega) (by first | omega | (rw[bJ];omega)) ?_;refine iJ (d:=x+1000000000) (d':=x+1000000000-c) rfl rfl (by omega) (by omega) (lk (by omega)) ?_ ?_
   ·show[aC.int .u32 _]=[aC.int .u32 _]
    congr 2;omega
   rw[List.set_set];dsimp only[aE,aF];apply vn (aB (by omega) (by omega));dsimp only[aE,aF];exact ab rfl ⟨⟨(i+1,1,os.set i (x+1000000000-c)),hI.next (b':=1) (z:=x+1000000000-c) (y:=0) hx (by rw[hnone];rfl) (by omega) (by omega) (by omega) (by omega)⟩,aZ.rfl,by show(dg a).length-(i+1)<(dg a).length-i;omega⟩
  refine br rfl rfl (by omega) (by first | omega | (rw[bJ];omega)) ?_;refine oD rfl rfl (by omega) (by omega) ho rfl ?_;apply vn ml;refine br rfl rfl (by omega) (by first | omega | (rw[bJ];omega)) ?_;refine iJ (d':=x-c) rfl rfl (by omega) (by omega) ho ?_ ?_
  ·show[aC.int .u32 _]=[aC.int .u32 _]
   congr 2;omega
  apply vn (aB (by omega) (by omega));dsimp only[aE,aF];exact ab rfl ⟨⟨(i+1,0,os.set i (x-c)),hI.next (b':=0) (z:=x-c) (y:=0) hx (by rw[hnone];rfl) (by omega) (by omega) (by omega) (by omega)⟩,aZ.rfl,by show(dg a).length-(i+1)<(dg a).length-i;omega⟩
 apply aA (jo os hI.h.dg);dsimp only[aE,aF];refine aL ?_;rw[fin (.inr ⟨by omega,hlen⟩)];rfl
theorem Zb{b:Nat}{p:Prop}[Decidable p](h:b=if p then 1 else 0):decide ((b:Int)≠0)=decide p:=by
 subst h;by_cases hp:p<;>simp[hp]
theorem Xc(xs ys:List Nat)(t:Nat)(hx:Dg xs)(hy:Dg ys)(ht:t<1000000000)(hl:ys.length<xs.length)(hs:xs.length<1099511627776):lO prog 244 237 1 [] [(.one (.slice 1 (rT ys)):aN),(.one (.int .u64 t):aN)] (rT xs) [.one (.bool (decide (lv xs<t*lv ys)))] (rT (pd 1000000000 xs.length (lv xs+1000000000^xs.length*(if lv xs<t*lv ys then 1 else 0)-t*lv ys))):=by
 refine ou (a1:=[]) (a2:=[.v none,.v none]) (i1:=[]) (i2:=[.v (.one (.slice 1 (rT ys))),.v (.one (.int .u64 t))]) (hints:=(fun _=>none)) fo (by kernel_rfl) func244 trivial ⟨rfl,rfl,trivial⟩ (by kernel_rfl) ?_ ?_ ?_ ?_
 ·first | (simp[rT];done) | (intro t ht;obtain⟨a,_,rfl⟩:=dH.1 ht;rfl)
 ·first | (simp[rT];done) | (intro t ht;obtain⟨a,_,rfl⟩:=dH.1 ht;rfl)
 ·first | (simp[rT];done) | (intro t ht;obtain⟨a,_,rfl⟩:=dH.1 ht;rfl)
 dsimp only[aE,aF];rw[YD];dsimp only[List.map,In.env,aE,aF];refine Hl rfl (aI _) ?_;refine bE {g:Nat×Nat×Nat×List Nat // jh 1000000000 xs ys t g.1 g.2.1 g.2.2.1 g.2.2.2} (fun g=>[.one (.int .u64 g.1.2.1),.one (.int .i64 g.1.2.2.1),.one (.int .i64 g.1.1),.rows (rT g.1.2.2.2)]) (fun g=>xs.length-g.1.1) ⟨(0,0,0,xs),jh.init hx _ _⟩ aZ.rfl (fun _=>rfl) ?_;rintro⟨⟨i,c,b,os⟩,hI⟩;dsimp only[aE,aF]at hI|-;have hol:=hI.len;have hil:=hI.le;have hc:=hI.c1;have hb:=hI.b1;apply vn aj;refine vs _ rfl ?_ ?_<;>intro h3
 ·have hgx:xs[i]?=some (xs[i]'(by omega)):=bQ (by omega);generalize xs[i]'(by omega)=x at hgx;have hxB:=hx.get hgx;have ho:=hI.get hgx;apply vn (aP eC (aI _));apply vn aj;refine vs _ rfl ?_ ?_<;>intro h6
  ·have hgy:ys[i]?=some (ys[i]'(by omega)):=bQ (by omega);generalize ys[i]'(by omega)=y at hgy;have hyB:=hy.get hgy;have hty:t*y<=999999999*999999999:=iA (by omega) (by omega);obtain⟨w,hw⟩:∃w,c+t*y=w:=⟨_,rfl⟩
   have hwB:w<1000000000*1000000000:=by omega
   have hm:∀z b':Nat,z<1000000000->b'<=1->z+w%1000000000+b=x+1000000000*b'->jh 1000000000 xs ys t (i+1) (w/1000000000) b' (os.set i z):=fun z b' h1 h2 h3=>by
    have:=hI.next (by omega) ht hgx (by rw[hgy];rfl) hyB h1 h2 (by rw[hw];exact h3);rw[hw]at this;exact this
   apply vn (aJ eC (by omega) (by omega) hgy);dsimp only[aE,aF];apply vn (bg vr);apply vn (rV ⟨_,ib⟩ jL);apply vn (ur (c:=((t*y:Nat):Int)) (by rw[<-iG,rW]<;>omega)) rfl;apply vn (fS (c:=(w:Int)) (by rw[rW]<;>omega)) rfl;dsimp only[aE,aF];refine br rfl rfl (by omega) (by first | omega | (rw[bJ];omega)) ?_;refine oD rfl rfl (by omega) (by omega) ho rfl ?_;apply vn (uv ⟨_,ib⟩ un2);apply vn mX;apply vn (uv ⟨_,jL⟩ un2);dsimp only[aE,aF];apply vn (aH (by omega) (by omega));apply vn (aH (by omega) (by omega));apply vn Ln;apply vn aj;dsimp only[aE,aF];refine vs _ rfl ?_ ?_<;>intro h21
   ·apply vn (aB (by omega) (by omega));apply vn (oj ⟨_,un2⟩ ib);refine br rfl rfl (by omega) (by first | omega | (rw[bJ];omega)) ?_;refine iJ (d':=x+1000000000-w%1000000000-b) rfl rfl (by omega) (by omega) ho ?_ ?_
    ·show[aC.int .u32 _]=[aC.int .u32 _]
     congr 2;omega
    apply vn (aB (by omega) (by omega));dsimp only[aE,aF];exact ab rfl ⟨⟨(i+1,w/1000000000,1,os.set i (x+1000000000-w%1000000000-b)),hm _ 1 (by omega) (by omega) (by omega)⟩,aZ.rfl,by show xs.length-(i+1)<xs.length-i;omega⟩
   apply vn (oj ⟨_,un2⟩ ib);refine br rfl rfl (by omega) (by first | omega | (rw[bJ];omega)) ?_;refine iJ (d':=x-w%1000000000-b) rfl rfl (by omega) (by omega) ho ?_ ?_
   ·show[aC.int .u32 _]=[aC.int .u32 _]
    congr 2;omega
   apply vn (aB (by omega) (by omega));dsimp only[aE,aF];exact ab rfl ⟨⟨(i+1,w/1000000000,0,os.set i (x-w%1000000000-b)),hm _ 0 (by omega) (by omega) (by omega)⟩,aZ.rfl,by show xs.length-(i+1)<xs.length-i;omega⟩
  have hnone:ys[i]?=none:=eZ.2 (by omega)
  have hm:∀z b':Nat,z<1000000000->b'<=1->z+c%1000000000+b=x+1000000000*b'->jh 1000000000 xs ys t (i+1) (c/1000000000) b' (os.set i z):=fun z b' h1 h2 h3=>by
   have:=hI.next (y:=0) (by omega) ht hgx (by rw[hnone];rfl) (by omega) h1 h2 (by rw[eu,bq];exact h3);rw[eu,bq]at this;exact this
  refine br rfl rfl (by omega) (by first | omega | (rw[bJ];omega)) ?_;refine oD rfl rfl (by omega) (by omega) ho rfl ?_;apply vn (uv ⟨_,ib⟩ un2);apply vn mX;apply vn (uv ⟨_,jL⟩ un2);dsimp only[aE,aF];apply vn (aH (by omega) (by omega));apply vn (aH (by omega) (by omega));apply vn Ln;apply vn aj;dsimp only[aE,aF];refine vs _ rfl ?_ ?_<;>intro h42
  ·apply vn (aB (by omega) (by omega));apply vn (oj ⟨_,un2⟩ ib);refine br rfl rfl (by omega) (by first | omega | (rw[bJ];omega)) ?_;refine iJ (d':=x+1000000000-c%1000000000-b) rfl rfl (by omega) (by omega) ho ?_ ?_
   ·show[aC.int .u32 _]=[aC.int .u32 _]
    congr 2;omega
   apply vn (aB (by omega) (by omega));dsimp only[aE,aF];exact ab rfl ⟨⟨(i+1,c/1000000000,1,os.set i (x+1000000000-c%1000000000-b)),hm _ 1 (by omega) (by omega) (by omega)⟩,aZ.rfl,by show xs.length-(i+1)<xs.length-i;omega⟩
  apply vn (oj ⟨_,un2⟩ ib);refine br rfl rfl (by omega) (by first | omega | (rw[bJ];omega)) ?_;refine iJ (d':=x-c%1000000000-b) rfl rfl (by omega) (by omega) ho ?_ ?_
  ·show[aC.int .u32 _]=[aC.int .u32 _]
   congr 2;omega
  apply vn (aB (by omega) (by omega));dsimp only[aE,aF];exact ab rfl ⟨⟨(i+1,c/1000000000,0,os.set i (x-c%1000000000-b)),hm _ 0 (by omega) (by omega) (by omega)⟩,aZ.rfl,by show xs.length-(i+1)<xs.length-i;omega⟩
 apply vn fC;dsimp only[aE,aF];have hie:i=xs.length:=by omega
 subst hie;obtain⟨hb1,ho1⟩:=hI.fin (by omega) hx hl;rw[hb1]at ho1;exact mA (by rw[<-show rT os=rT _ from congrArg rT ho1];rfl) (congrArg (fun q=>[aN.one (.bool q)]) (Zb hb1))
structure Fj(xs ys:List Nat)(i c:Nat)(os:List Nat):Prop where
 le:i<=xs.length
 c1:c<=1
 len:os.length=xs.length
 dg:DB 1000000000 os
 rest:os.drop i=xs.drop i
 eq:lv (os.take i)+1000000000^i*c=lv (xs.take i)+lv (ys.take i)
theorem Fj.init{xs:List Nat}(hx:Dg xs)(ys:List Nat):Fj xs ys 0 0 xs:=⟨cz _,by omega,rfl,hx,rfl,by simp[lv,val]⟩
theorem Fj.get{xs ys os:List Nat}{i c x:Nat}(h:Fj xs ys i c os)(hx:xs[i]?=some x):os[i]?=some x:=by
 have:=congrArg (fun l=>l[0]?) h.rest;simp only[eo,bq]at this;rw[this,hx]
theorem Fj.next{xs ys os:List Nat}{i c x y c' z:Nat}(h:Fj xs ys i c os)(hx:xs[i]?=some x)(hy:ys[i]?.getD 0=y)(hz:z<1000000000)(hc:c'<=1)(he:z+1000000000*c'=x+c+y):Fj xs ys (i+1) c' (os.set i z):=by
 have hi:i<xs.length:=(dM.1 hx).1;refine⟨hi,hc,by rw[bJ];exact h.len,h.dg.set hz,?_,?_⟩
 ·rw[Ad (by omega)];have:=congrArg (List.drop 1) h.rest
  simpa[gF]using this
 ·have h1:=h.eq;have h2:=congrArg (fun q=>1000000000^i*q) he;have e1:lv ((os.set i z).take (i+1))=lv (os.take i)+1000000000^i*z:=mI (by rw[h.len];exact hi);have e2:lv (xs.take (i+1))=lv (xs.take i)+1000000000^i*x:=gu hx;have e3:lv (ys.take (i+1))=lv (ys.take i)+1000000000^i*y:=kB hy;rw[e1,e2,e3,bh,eW];simp only[ep]at h2;omega
theorem Fj.fin{xs ys os:List Nat}{c:Nat}(h:Fj xs ys xs.length c os)(hl:ys.length<xs.length) :
  c=(if 1000000000^xs.length<=lv xs+lv ys then 1 else 0)/\os=pd 1000000000 xs.length (lv xs+lv ys-1000000000^xs.length*c):=by
 have h1:=h.eq;rw[dP (by rw[h.len];omega),gw,dP (by omega)]at h1;have h2:lv os<_:=DB.lt (by omega) h.dg;rw[h.len]at h2;have hc:=h.c1
 constructor
 ·split<;>rcases(by omega:c=0\/c=1)with rfl | rfl<;>omega
 ·refine Uw (by omega) h.dg h.len ?_;show lv os=_;omega
theorem Yv(xs ys:List Nat)(hx:Dg xs)(hy:Dg ys)(hl:ys.length<xs.length)(hs:xs.length<1099511627776):lO prog 245 237 1 [] [(.one (.slice 1 (rT ys)):aN)] (rT xs) [.one (.bool (decide (1000000000^xs.length<=lv xs+lv ys)))] (rT (pd 1000000000 xs.length (lv xs+lv ys-1000000000^xs.length*(if 1000000000^xs.length<=lv xs+lv ys then 1 else 0)))):=by
 refine ou (a1:=[]) (a2:=[.v none]) (i1:=[]) (i2:=[.v (.one (.slice 1 (rT ys)))]) (hints:=(fun _=>none)) fo (by kernel_rfl) func245 trivial ⟨rfl,trivial⟩ (by kernel_rfl) ?_ ?_ ?_ ?_
 ·first | (simp[rT];done) | (intro t ht;obtain⟨a,_,rfl⟩:=dH.1 ht;rfl)
 ·first | (simp[rT];done) | (intro t ht;obtain⟨a,_,rfl⟩:=dH.1 ht;rfl)
 ·first | (simp[rT];done) | (intro t ht;obtain⟨a,_,rfl⟩:=dH.1 ht;rfl)
 dsimp only[aE,aF];rw[Yx];dsimp only[List.map,In.env,aE,aF];refine Hl rfl (aI _) ?_;refine bE {g:Nat×Nat×List Nat // Fj xs ys g.1 g.2.1 g.2.2} (fun g=>[.one (.int .u32 g.1.2.1),.one (.int .i64 g.1.1),.rows (rT g.1.2.2)]) (fun g=>xs.length-g.1.1) ⟨(0,0,xs),Fj.init hx _⟩ aZ.rfl (fun _=>rfl) ?_;rintro⟨⟨i,c,os⟩,hI⟩;dsimp only[aE,aF]at hI|-;have hol:=hI.len;have hil:=hI.le;have hc:=hI.c1;apply vn aj;refine vs _ rfl ?_ ?_<;>intro h3
 ·have hgx:xs[i]?=some (xs[i]'(by omega)):=bQ (by omega);generalize xs[i]'(by omega)=x at hgx;have hxB:=hx.get hgx;have ho:=hI.get hgx;refine br rfl rfl (by omega) (by first | omega | (rw[bJ];omega)) ?_;refine oD rfl rfl (by omega) (by omega) ho rfl ?_;apply vn mf;apply vn (aP eC (aI _));dsimp only[aE,aF];apply vn aj;refine vs _ rfl ?_ ?_<;>intro h9
  ·have hgy:ys[i]?=some (ys[i]'(by omega)):=bQ (by omega);generalize ys[i]'(by omega)=y at hgy;have hyB:=hy.get hgy;apply vn (aJ eC (by omega) (by omega) hgy);apply vn (bg vr);apply vn mf;dsimp only[aE,aF];apply vn iI;refine vs _ rfl ?_ ?_<;>intro h14
   ·apply vn ml;refine br rfl rfl (by omega) (by first | omega | (rw[bJ];omega)) ?_;refine iJ (d':=x+c+y-1000000000) rfl rfl (by omega) (by omega) ho ?_ ?_
    ·show[aC.int .u32 _]=[aC.int .u32 _]
     congr 2;omega
    apply vn (aB (by omega) (by omega));dsimp only[aE,aF];exact ab rfl ⟨⟨(i+1,1,os.set i (x+c+y-1000000000)),hI.next (z:=x+c+y-1000000000) (c':=1) (y:=y) hgx (by rw[hgy];rfl) (by omega) (by omega) (by omega)⟩,aZ.rfl,by show xs.length-(i+1)<xs.length-i;omega⟩
   refine br rfl rfl (by omega) (by first | omega | (rw[bJ];omega)) ?_;refine iJ (d':=x+c+y) rfl rfl (by omega) (by omega) ho ?_ ?_
   ·show[aC.int .u32 _]=[aC.int .u32 _]
    congr 2
   apply vn (aB (by omega) (by omega));dsimp only[aE,aF];exact ab rfl ⟨⟨(i+1,0,os.set i (x+c+y)),hI.next (z:=x+c+y) (c':=0) (y:=y) hgx (by rw[hgy];rfl) (by omega) (by omega) (by omega)⟩,aZ.rfl,by show xs.length-(i+1)<xs.length-i;omega⟩
  have hnone:ys[i]?=none:=eZ.2 (by omega);apply vn iI;refine vs _ rfl ?_ ?_<;>intro h25
  ·apply vn ml;refine br rfl rfl (by omega) (by first | omega | (rw[bJ];omega)) ?_;refine iJ (d':=x+c-1000000000) rfl rfl (by omega) (by omega) ho ?_ ?_
   ·show[aC.int .u32 _]=[aC.int .u32 _]
    congr 2;omega
   apply vn (aB (by omega) (by omega));dsimp only[aE,aF];exact ab rfl ⟨⟨(i+1,1,os.set i (x+c-1000000000)),hI.next (z:=x+c-1000000000) (c':=1) (y:=0) hgx (by rw[hnone];rfl) (by omega) (by omega) (by omega)⟩,aZ.rfl,by show xs.length-(i+1)<xs.length-i;omega⟩
  refine br rfl rfl (by omega) (by first | omega | (rw[bJ];omega)) ?_;refine iJ (d':=x+c) rfl rfl (by omega) (by omega) ho ?_ ?_
  ·show[aC.int .u32 _]=[aC.int .u32 _]
   congr 2
  apply vn (aB (by omega) (by omega));dsimp only[aE,aF];exact ab rfl ⟨⟨(i+1,0,os.set i (x+c)),hI.next (z:=x+c) (c':=0) (y:=0) hgx (by rw[hnone];rfl) (by omega) (by omega) (by omega)⟩,aZ.rfl,by show xs.length-(i+1)<xs.length-i;omega⟩
 apply vn fC;dsimp only[aE,aF];have hie:i=xs.length:=by omega
 subst hie;obtain⟨hb1,ho1⟩:=hI.fin hl;rw[hb1]at ho1;exact mA (by rw[<-show rT os=rT _ from congrArg rT ho1];rfl) (congrArg (fun q=>[aN.one (.bool q)]) (Zb hb1))
def bw8:Tr:=kL 52 0 120 (aR 55 0 (.need (.rop 54 237 1 (some ((.u 27 0),(.u 47 0))) [] [(W 14 0)] [none]) (.call ⟨.value (.func 245),#[(tT 124),(tT 125)],#[40,40]⟩) 4 true (.need (.prim [(W 53 0),(.one (.c (.k (.int .u64 1))))] none) (.binOp .sub 236 (tT 122) (.const (.int .u64 1)) 236) 236 false (qi 1 56 58 57))) (gJ 53 236 237 129 (cF 28 27 40 127 128 (fR 28 27 56 237 131 130 (dp 27 1 77 (uM 58 57 54))))))
def bC5:Tr:=.need (.rop 29 237 1 (some ((.u 27 0),(.u 47 0))) [] [(W 14 0),(W 45 0)] [none]) (.call ⟨.value (.func 244),#[(tT 116),(tT 117),(tT 118)],#[40,40,236]⟩) 4 true (aR 50 0 (aw4 45 51 bw8) (gJ 45 236 237 129 (cF 28 27 40 127 128 (fR 28 27 52 237 131 130 (dp 27 1 77 (uM 54 53 51))))))
def bt6:Tr:=oe .quo 236 96 102 39 0 43 0 236 (.need (.prim [(W 44 0),(.one (.c (.k (.int .u64 999999999))))] none) (.call ⟨.builtin .min,#[(tT 103),(.const (.int .u64 999999999))],#[236,236]⟩) 236 false (fF 27 15 3 107 108 (ao 46 1 3 109 (fF 27 15 3 111 112 (ao 48 1 3 113 (.need (.view 29 (.u 27 0) (.u 47 0) (.u 49 0)) (.slice 40 (tT 105) (some (tT 106)) (some (tT 110)) (some (tT 114))) 40 false bC5))))))
def bG1:Tr:=nN 29 36 237 92 (gJ 37 237 236 93 (fF 34 38 236 86 94 (dp 15 1 98 (bA 14 0 40 0 40 97 99 (dh 41 237 100 (gJ 42 237 236 101 bt6))))))
def bJ0:Tr:=cF 29 31 40 79 82 (nN 29 31 237 83 (gJ 32 237 236 84 (aG2 33 85 (fF 27 15 3 88 89 (dp 35 1 90 (cF 29 36 40 87 91 bG1))))))
def bz8:Tr:=.loop 0 [lV 26 0,.row 24,.row 21] (nG 27 0 75 (aR 30 0 (fF 27 15 3 80 81 bJ0) (WT 29 133 (Vz 31 13 134 135 (WT 28 139 (.ret [(G1 34),(G1 32)]))))))
def bq1:Tr:=pC 162 0 0 13 62 63 (Xg 18 237 1 19 61 65 40 (uz 21 67 40 (eH 22 15 0 3 68 69 (BN 23 70 (uz 24 72 40 (dp 25 1 73 bz8))))))
def bO3:Tr:=gJ 11 237 236 47 (nL 206 12 1 48 236 42 (pC 162 1 0 13 50 51 (al 14 0 54 40 (al 0 0 57 40 (ao 16 1 3 58 (BN 17 59 bq1))))))
def bR8:Tr:=aR 5 0 (re 1 0 0 40 32 (dh 6 237 33 (fO 243 [(G1 0),(W 7 0)] [(some 1),(some 1)] [30,34] [42,237] 249 true (.ret [(G1 8),(G1 9)])))) (al 1 0 41 40 (dp 6 1 42 (bA 1 0 7 0 40 39 43 (dh 8 237 44 (Wi 9 1 45 (.need (.prim [(.one (.c (.k (.int .u32 1000000000)))),(W 10 0)] none) (.binOp .quo 237 (.const (.int .u32 1000000000)) (tT 46) 237) 237 false bO3))))))
def ca3:Tr:=fO 164 [(G1 0),(G1 1)] [none] [19,20] [42,42] 3 true (iC 2 0 0 3 21 (aR 3 0 (.ret [(.agg [tN]),(G1 0)]) (al 1 0 27 40 (eB 4 0 1 3 28 bR8))))
theorem ay9:aV prog f222 ck [.v (some 1),.v (some 1)]=ca3:=by kernel_rfl
theorem rM{a b:Int}:fM a b<0↔a<b:=by unfold fM;split<;>(try split)<;>omega
theorem aB9{n:Nat}(h:n=0):aC.Sub (.exact (.slice none 0 0)) (dT n):=by
 subst h;have:dg 0=[]:=dJ _;rw[dT,this];exact aC.Sub.nil
theorem uD{n:Nat}(h0:0<n:=by omega)(h:n<1000000000:=by omega):dg n=[n]:=by
 rw[dg,ff,ew h,fA h,dJ]
theorem Ce{n k:Nat}(h:n<1000000000^k):(dg n).length<=k:=kQ h
theorem LN(n:Nat):n<1000000000^(dg n).length:=lh (by omega) n
theorem ar3{n:Nat}(h:n≠0:=by omega):1000000000^((dg n).length-1)<=n:=gy (by omega) h
theorem at7{n i:Nat}(h:i<(dg n).length:=by omega):(dg n)[i]?=some (n/1000000000^i%1000000000):=by
 have e:(dg n)[i]?=(pd 1000000000 (dg n).length n)[i]?:=congrArg (fun l:List Nat=>l[i]?) (ZN n);rw[e,BA _ h]
theorem Vo{n:Nat}(h:0<n):1000000000^(n-1)*1000000000=1000000000^n:=by
 obtain⟨k,rfl⟩:∃k,n=k+1:=⟨n-1,by omega⟩
 rw[jS,bh]
theorem bJ5{r1 r2 vt:Nat}(h1:r1<1000000000)(h2:r2<1000000000):(r1*1000000000+r2)/vt<1000000000000000000:=
 eh (pZ _ _) (by omega)
theorem at2(q:Nat):min (q:Int) 999999999=((min q 999999999:Nat):Int):=by omega
theorem YG{n:Nat}(h:n<1000000000):(n:Int)<4294967296:=by omega
theorem as3{n:Nat}(h:n<1000000000000000000):(n:Int)<18446744073709551616:=by omega
theorem oO(n:Nat):(0:Int)<=(n:Int):=Int.natCast_nonneg _
theorem bn7(i:Nat):((i+1:Nat):Int)-1-1=(i:Int)-1:=by omega
theorem bG2{P:Program}{T U ty:Nat}{x y:Operand}{a b:Nat}{a':Int}(ha':a'=a)(hb:0<b)(hc:(a/b:Nat)<1000000000000000000):ah P (.binOp .quo T x y U) ty [.one (.int .u64 a'),.one (.int .u64 b)] (.one (.int .u64 ((a/b:Nat):Int))):=by
 subst ha';exact pK (by omega) (by rw[oa (oO _),<-zE,rW (oO _) (as3 hc)])
theorem ba8(a b:Nat)(hb0:0<b)(hb:b<1000000000)(hs:(dg a).length<549755813888):aU prog 222 [(mT a:aN),(mT b:aN)] (.ret [mT (a/b),mT (a%b)]):=by
 refine dL func222 ay9 ?_;have e1:=uD hb0 hb;apply aA (sd a b (by rw[e1];simp;omega)) rfl;apply vn aj;dsimp only[aE,aF];rw[show decide (fM (a:Int) (b:Int)<0)=decide (a<b) by rw[kF,rM];omega];refine vs _ rfl ?_ ?_<;>intro h2
 ·refine fK ⟨⟨aB9 (fA h2),trivial⟩,⟨?_,trivial⟩,trivial⟩;rw[ew h2];exact aC.Sub.same
 apply vn (aP eC (aI _));apply vn bj;refine vs _ rfl ?_ ?_<;>intro h6
 ·apply vn (aJ eC (by omega) (by omega) (show(dg b)[0]?=some b by rw[e1];rfl)) rfl;apply vn (bg vr);dsimp only[aE,aF];apply aA (Su a b hb0 hb);exact aL
 exact absurd (by rw[e1];simp) h6
structure UB(S V L m n:Nat)(os:List Nat)(R:Nat):Prop where
 le:n<=m
 len:os.length=m
 dg:Dg os
 eq:S=R+V*1000000000^n*lv (os.drop n)
 lt:R/1000000000^n<V
 fit:R<1000000000^L
theorem UB.next{S V L m n R g:Nat}{os:List Nat}(h:UB S V L m (n+1) os R)(hV:0<V)(hg:g=R/1000000000^n/V) :
  UB S V L m n (os.set n g) (R%1000000000^n+1000000000^n*(R/1000000000^n%V)):=by
 obtain⟨h1,h2,h3,h4⟩:=Fw (B:=1000000000) (by omega) hV h.eq h.lt;have hn:=h.le;have hlen:=h.len;subst hg;refine⟨by omega,by rw[bJ];exact hlen,h.dg.set h2,?_,h4,?_⟩
 ·rw[RC (x:=R/1000000000^n/V) (by rw[lk (by omega)]),Ad (by omega)];exact h3
 ·refine eh ?_ h.fit;have:=lS R (1000000000^n);have h5:=dr (1000000000^n) (sn (R/1000000000^n) V);omega
def gbv(W X V:Nat)(p:Bool×Nat):Nat:=if p.1 then X%V else X+W-p.2*V
theorem bJ4{R i nv:Nat}(hnv:0<nv)(h:R/1000000000^(i+nv)<1000000000):R/1000000000^(i+nv)%1000000000*1000000000+R/1000000000^(i+nv-1)%1000000000=R/1000000000^i/1000000000^(nv-1):=by
 rw[ew h,lq,<-eP,show i+(nv-1)=i+nv-1 by omega]
 have e:R/1000000000^(i+nv)=R/1000000000^(i+nv-1)/1000000000:=by
  rw[lq,<-bh];congr 2;omega
 rw[e];have:=Oe (R/1000000000^(i+nv-1)) 1000000000;omega
theorem ag7{b s top:Nat}(hs0:0<s)(hs:s*(top+1)<=1000000000)(htop:top=b/1000000000^((dg b).length-1))(hb:b≠0:=by omega):(dg (b*s)).length=(dg b).length:=by
 have hp:0<1000000000^((dg b).length-1):=ej (by omega)
 have hl:0<(dg b).length:=by
  rcases ia (dg b).length with h | h
  ·exact(hb (xI.1 (eV h))).elim
  ·exact h
 apply Aa
 ·apply Ce
  have h1:b<(top+1)*1000000000^((dg b).length-1):=by
   rw[htop,cD];exact ad9 b hp
  calc b*s<(top+1)*1000000000^((dg b).length-1)*s:=tB h1 hs0
   _=s*(top+1)*1000000000^((dg b).length-1):=by simp only[cD,mL,eW]
   _<=1000000000*1000000000^((dg b).length-1):=cN _ hs
   _=1000000000^(dg b).length:=by rw[cD,<-bh];congr 1;omega
 ·exact oC (kd b hs0)
theorem PH(a b:Nat)(hb0:0<b)(hs:(dg a).length+(dg b).length<274877906944:=by omega):aU prog 222 [(mT a:aN),(mT b:aN)] (.ret [mT (a/b),mT (a%b)]):=by
 refine dL func222 ay9 ?_;apply aA (sd a b);apply vn aj;dsimp only[aE,aF];rw[show decide (fM (a:Int) (b:Int)<0)=decide (a<b) by rw[kF,rM];omega];refine vs _ rfl ?_ ?_<;>intro h2
 ·refine fK ⟨⟨aB9 (fA h2),trivial⟩,⟨?_,trivial⟩,trivial⟩;rw[ew h2];exact aC.Sub.same
 have hbl:0<(dg b).length:=by
  rcases ia (dg b).length with h | h
  ·exact(Nat.ne_of_gt hb0 (xI.1 (eV h))).elim
  ·exact h
 have hlen:=oC (zy h2);apply vn (aP eC (aI _));apply vn bj;refine vs _ rfl ?_ ?_<;>intro h6
 ·have hb:b<1000000000:=by
   have:=LN b;rw[show(dg b).length=1 by omega]at this;omega
  have e1:=uD hb0 hb;apply vn (aJ eC (by omega) (by omega) (show(dg b)[0]?=some b by rw[e1];rfl)) rfl;apply vn (bg vr);dsimp only[aE,aF];apply aA (Su a b hb0 hb);exact aL
 obtain⟨top,htop⟩:∃t,(dg b)[(dg b).length-1]?=some t:=⟨_,bQ (by omega)⟩
 have htB:=(kW b).get htop
 have htv:top=b/1000000000^((dg b).length-1):=by
  have h1:=at7 (n:=b) (i:=(dg b).length-1);rw[htop]at h1;simp only[aW]at h1;rw[h1,ew];rw[jf (ej (by omega)),cD,Vo hbl];exact LN b
 have ht0:0<top:=by
  rw[htv];exact mQ ar3 (ej (by omega))
 obtain⟨s,hs'⟩:∃s,1000000000/(top+1)=s:=⟨_,rfl⟩
 have hsle:s*(top+1)<=1000000000:=by rw[<-hs'];exact qQ _ _
 have hs0:0<s:=by rw[<-hs'];exact mQ (by omega) (by omega)
 have hsB:s<1000000000:=by
  rw[<-hs'];exact qY (by omega) (by omega)
 have hvl:=ag7 hs0 hsle htv;apply vn (aP eC (aI _));apply vn (aH (by omega) (by omega));apply vn (aJ eC (by omega) (by omega) htop);apply vn (bg vr);dsimp only[aE,aF];apply vn mf;dsimp only[aE,aF];apply vn (pK (c:=(s:Int)) (by omega) (by rw[oa (by omega),show((1000000000:Int)/((top:Int)+1))=((1000000000/(top+1):Nat):Int) by simp,hs',xl]<;>omega)) rfl;apply vn (rV ⟨_,ib⟩ jL);apply aA (nu s);apply aA (nj b s (by rw[uD hs0 hsB];simp;omega)) rfl;obtain⟨V,hV⟩:∃V,b*s=V:=⟨_,rfl⟩
 obtain⟨S,hS⟩:∃S,a*s=S:=⟨_,rfl⟩
 rw[hV]at hvl|-;have hV0:0<V:=by rw[<-hV];exact iw hb0 hs0
 dsimp only[aE,aF];apply vn (aP eC (aI _));apply vn (aP eC (aI _));apply vn (aB (by omega) (by omega));dsimp only[aE,aF];refine AO (n:=(dg a).length+1) (f:=fun d:Nat=>[aC.int .u32 (d:Int)]) 0 rfl rfl (by omega) rfl (by omega) (by simp only[maxLen];omega) ?_;apply aA (nj a s (by rw[uD hs0 hsB];simp;omega)) rfl;rw[hS]
 have hSlt:S<1000000000^((dg a).length+1):=by
  rw[<-hS,bh];exact Nat.mul_lt_mul'' (LN a) hsB
 have hSle:=Ce hSlt
 have hSV:S<V*1000000000^((dg a).length+1-(dg b).length):=by
  rw[<-hS,<-hV];have h1:=LN a;have h2:=ar3 (n:=b)
  have h3:1000000000^(dg a).length<=b*1000000000^((dg a).length+1-(dg b).length):=by
   refine aq (su ?_) (cN _ h2);rw[<-eP];congr 1;omega
  calc a*s<b*1000000000^((dg a).length+1-(dg b).length)*s:=tB (cj h1 h3) hs0
   _=_:=by simp only[cD,mL,eW]
 obtain⟨L,hL⟩:∃L,(dg a).length+1=L:=⟨_,rfl⟩
 rw[hL]at hSlt hSle hSV;dsimp only[aE,aF];refine ar9 (xs:=dg S) (zs:=List.replicate ((dg a).length+1) 0) (ws:=pd 1000000000 L S) (fun _=>rfl) rfl rfl eC (by simp;omega) (by simp) (Uw (by omega) ((DB.kj (by omega) S).append ((DB.rep (by omega) _).drop _)) (by simp only[cJ,cW,eX];show(dg S).length+_=_;omega) (by rw[ab8,jb,YU];show lv (dg S)+_=_;rw[iX,eu,bq])) ?_;refine Hl (n:=L) rfl (by simp) ?_;apply vn (aH (by omega) (by omega));dsimp only[aE,aF];refine AO (n:=L-(dg b).length) (f:=fun d:Nat=>[aC.int .u32 (d:Int)]) 0 rfl rfl (by rw[hvl];omega) rfl (by omega) (by simp only[maxLen];omega) ?_;refine Hl (n:=L-(dg b).length) rfl (by simp) ?_;apply vn (aH (by omega) (by omega));dsimp only[aE,aF];obtain⟨m,hm⟩:∃m,L-(dg b).length=m:=⟨_,rfl⟩
 rw[hm]at hSV|-;rw[hvl];obtain⟨nv,hnv⟩:∃n,(dg b).length=n:=⟨_,rfl⟩
 rw[hnv]at hvl htv htop hbl hlen hm hs|-;refine bE {g:Nat×List Nat×Nat // UB S V L m g.1 g.2.1 g.2.2} (fun g=>[.one (.int .i64 ((g.1.1:Int)-1)),.rows (rT g.1.2.1),.rows (rT (pd 1000000000 L g.1.2.2))]) (fun g=>g.1.1) ⟨(m,List.replicate m 0,S),⟨aa _,by simp,Dg.rep _,by simp[lv,val],by rw[jf (ej (by omega))];exact hSV,hSlt⟩⟩ aZ.rfl (fun _=>rfl) ?_;rintro⟨⟨n,os,R⟩,hI⟩;dsimp only[aE,aF]at hI|-;have hnm:=hI.le;have hol:=hI.len;have hfit:=hI.fit;have hLs:L<549755813888:=by omega
 have hnvL:nv<L:=by omega
 apply vn iI;refine vs _ rfl ?_ ?_<;>intro h33
 ·clear htop htB htv ht0 hs' hsle hSV hSlt hSle hs hlen hL hnv h2 h6 hS hV hsB hs0;obtain⟨i,rfl⟩:∃i,n=i+1:=⟨n-1,by omega⟩
  obtain⟨hX1,hX2,_,_⟩:=Fw (B:=1000000000) (by omega) hV0 hI.eq hI.lt;obtain⟨X,hX⟩:∃X,R/1000000000^i=X:=⟨_,rfl⟩
  have hVlt:V<1000000000^nv:=by rw[<-hvl];exact LN V
  have hXlt:X<1000000000^(nv+1):=by
   rw[bh,<-hX];exact NY hX1 (tB hVlt (by omega))
  have hRtop:R/1000000000^(i+(nv+1))=0:=by
   rw[eP,<-lq,hX];exact fA hXlt
  have hRnv:R/1000000000^(i+nv)<1000000000:=by
   rw[eP,<-lq,hX,jf (ej (by omega)),cD,<-bh];exact hXlt
  have htwo:=bJ4 hbl hRnv;rw[hX]at htwo hX1 hX2;obtain⟨r1,hr1⟩:∃r,R/1000000000^(i+nv)%1000000000=r:=⟨_,rfl⟩
  obtain⟨r2,hr2⟩:∃r,R/1000000000^(i+nv-1)%1000000000=r:=⟨_,rfl⟩
  have hr1B:r1<1000000000:=by rw[<-hr1];exact dU _ (by omega)
  have hr2B:r2<1000000000:=by rw[<-hr2];exact dU _ (by omega)
  have hg1:(pd 1000000000 L R)[i+nv]?=some r1:=by rw[BA _ (by omega),hr1]
  have hg2:(pd 1000000000 L R)[i+nv-1]?=some r2:=by rw[BA _ (by omega),hr2]
  rw[hr1,hr2]at htwo;obtain⟨vt,hvt⟩:∃t,V/1000000000^(nv-1)=t:=⟨_,rfl⟩
  have hvtB:vt<1000000000:=by
   rw[<-hvt,jf (ej (by omega)),cD,Vo hbl];exact hVlt
  have hvt0:0<vt:=by
   have:=ar3 (n:=V);rw[hvl]at this;rw[<-hvt];exact mQ this (ej (by omega))
  have hgv:(dg V)[nv-1]?=some vt:=by
   rw[at7,hvt,ew hvtB]
  obtain⟨g,hg⟩:∃g,min ((r1*1000000000+r2)/vt) 999999999=g:=⟨_,rfl⟩
  have hgB:g<1000000000:=by rw[<-hg];exact eh (Nat.min_le_right _ _) (by decide)
  have hgq:X/V<=g:=by
   rw[<-hg];have h1:=ax8 (B:=1000000000) (X:=X) (V:=V) (n:=nv-1) (by rw[hvt];exact hvt0);rw[hvt,<-htwo]at h1;exact Nat.le_min.2 ⟨h1,Nat.le_of_lt_succ hX2⟩
  have hpdl:(pd 1000000000 L R).length=L:=fE _ _;apply vn (aB (by omega) (by omega));refine br rfl rfl (by omega) (by rw[fE];omega) ?_;refine oD rfl rfl (by omega) (by omega) hg1 rfl ?_;apply vn (rV ⟨_,ib⟩ jL);dsimp only[aE,aF];apply vn al9;apply vn (aB (by omega) (by omega));apply vn (aH (by omega) (by omega));refine br rfl rfl (by omega) (by rw[fE];omega) ?_;refine oD rfl rfl (by omega) (by omega) hg2 rfl ?_;dsimp only[aE,aF];apply vn (rV ⟨_,ib⟩ jL);apply vn ai2;apply vn (aH (by omega) (by omega));apply vn (aJ eC (by omega) (by omega) hgv);dsimp only[aE,aF];apply vn (bg vr);apply vn (rV ⟨_,ib⟩ jL);apply vn (bG2 (a:=r1*1000000000+r2) (by rw[Int.natCast_add,iG];rfl) hvt0 (bJ5 hr1B hr2B)) rfl;apply vn bm9;dsimp only[aE,aF];rw[at2,hg];apply vn (aB (by omega) (by omega));apply vn (aB (by omega) (by omega));apply vn (aB (by omega) (by omega));apply vn (aB (by omega) (by omega));dsimp only[aE,aF];refine cf1 (n:=i) (m:=i+nv+1) rfl (by show aC.int .i64 _=aC.int .i64 _;congr 1;omega) (by show aC.int .i64 _=aC.int .i64 _;congr 1;omega) (by show aC.int .i64 _=aC.int .i64 _;congr 1;omega) (by omega) (by simp;omega) ?_
  have hgV:g*V<1000000000^(nv+1):=by
   rw[bh,cD (1000000000^nv)];exact cj (tB (by omega:g<1000000000) hV0) (dr _ (mE hVlt))
  have hview:∀Y,Y<1000000000^(nv+1)->((rT (pd 1000000000 L (R%1000000000^i+1000000000^i*Y))).take (i+nv+1)).drop i=rT (pd 1000000000 (nv+1) Y):=by
   intro Y hY;rw[rT,rT,<-jB,<-kC,NZ _ (by omega),RA,show i+nv+1-i=nv+1 by omega]
   congr 2
   rw[nt _ _ (ej (by omega)),fA (dU _ (ej (by omega))),bM]
  have hfitY:∀Y,Y<1000000000^(nv+1)->R%1000000000^i+1000000000^i*Y<1000000000^L:=by
   intro Y hY;have h1:R%1000000000^i<1000000000^i:=dU _ (ej (by omega));have h2:1000000000^i*(Y+1)<=1000000000^i*1000000000^(nv+1):=dr _ hY;rw[<-eP]at h2;have h3:1000000000^(i+(nv+1))<=1000000000^L:=hU (by omega) (by omega);rw[ep,dZ]at h2;omega
  have hput:∀Y Z,Y<1000000000^(nv+1)->Z<1000000000^(nv+1)->(rT (pd 1000000000 L (R%1000000000^i+1000000000^i*Y))).take i++rT (pd 1000000000 (nv+1) Z)++(rT (pd 1000000000 L (R%1000000000^i+1000000000^i*Y))).drop (i+(rT (pd 1000000000 (nv+1) Y)).length)=rT (pd 1000000000 L (R%1000000000^i+1000000000^i*Z)):=by
   intro Y Z hY hZ;have hp:0<1000000000^i:=ej (by omega);have hm:R%1000000000^i<1000000000^i:=dU _ hp;rw[cY,fE,rT,rT,rT,<-jB,<-kC,<-bt,<-bt,ak0 (hfitY Y hY) hZ]
   have e:(R%1000000000^i+1000000000^i*Y)/1000000000^(i+(nv+1))=0:=by
    rw[eP 1000000000 i,<-lq,nt _ _ hp,fA hm,bM];exact fA hY
   rw[e,se,ew hm,eu,bq]
  have hRX:R=R%1000000000^i+1000000000^i*X:=by rw[<-hX];exact(lS _ _).symm
  have hsub:=Xc (pd 1000000000 (nv+1) X) (dg V) g (Ez (by omega) _ _) (kW V) hgB (by rw[fE];omega) (by rw[fE];omega);have hlvX:∀Y,Y<1000000000^(nv+1)->lv (pd 1000000000 (nv+1) Y)=Y:=fun Y hY=>by rw[lv,xJ,ew hY]
  rw[hlvX X hXlt,iX,fE]at hsub
  have hgive:∀Y,Y<1000000000^(nv+1)->lO prog 245 237 1 [] [.one (.slice 1 (rT (dg V)))] (rT (pd 1000000000 (nv+1) Y)) [.one (.bool (decide (1000000000^(nv+1)<=Y+V)))] (rT (pd 1000000000 (nv+1) (Y+V-1000000000^(nv+1)*(if 1000000000^(nv+1)<=Y+V then 1 else 0)))):=by
   intro Y hY;have h1:=Yv (pd 1000000000 (nv+1) Y) (dg V) (Ez (by omega) _ _) (kW V) (by rw[fE];omega) (by rw[fE];omega);rw[hlvX Y hY,iX,fE]at h1;exact h1
  have hok:os[i]?=some (os[i]'(by omega)):=bQ (by omega);have hVB:V<1000000000^(nv+1):=cj hVlt (hU (by omega) (by omega));have hXV:X%V<1000000000^(nv+1):=NY (dU _ hV0) hVB
  have hN:UB S V L m i (os.set i (X/V)) (R%1000000000^i+1000000000^i*(X%V)):=by
   have:=hI.next hV0 rfl;rw[hX]at this;exact this
  clear hI htwo hg hr1 hr2 hg1 hg2 hvt hgv hvt0 hvtB hX hRnv hRtop hr1B hr2B hpdl hlvX hfit
  refine bh8 (n:=i) (vs:=rT (pd 1000000000 L (R%1000000000^i+1000000000^i*(X+1000000000^(nv+1)*(if X<g*V then 1 else 0)-g*V)))) (ts:=rT (pd 1000000000 L R)) (us:=rT (pd 1000000000 (nv+1) X)) rfl ⟨.i64,.i64,i+nv+1,(by show aC.int .i64 _=aC.int .i64 _;congr 1;omega),(by show aC.int .i64 _=aC.int .i64 _;congr 1;omega),by omega,by simp;omega,by rw[<-hview X hXlt,<-hRX]⟩ (by simp[pd]) rfl (TS rfl hsub) (by
   conv=>lhs;rw[hRX]
   exact hput X _ hXlt (by split<;>omega)) ?_
  refine vs _ rfl ?_ ?_<;>intro h57
  ·refine bE {p:Bool×Nat // if p.1 then p.2=X/V else X<p.2*V/\p.2<1000000000} (fun p=>[.one (.bool p.1.1),.one (.int .u64 p.1.2),.rows (rT (pd 1000000000 L (R%1000000000^i+1000000000^i*gbv (1000000000^(nv+1)) X V p.1)))]) (fun p=>if p.1.1 then 0 else p.1.2+1) ⟨(false,g),by simp only[dy,cS];exact⟨h57,hgB⟩⟩ ⟨aN.Sub.same,aN.Sub.same,aN.Sub.of_eq (congrArg (fun y=>aN.rows (rT (pd 1000000000 L (R%1000000000^i+1000000000^i*y)))) (by simp only[gbv,dy,cS];rw[aK h57,dZ])),trivial⟩ (fun _=>rfl) ?_;rintro⟨⟨made,g'⟩,hp⟩;dsimp only[aE,aF]at hp|-;apply vn gQ;refine jm (!made) rfl (fun h60=>?_) (fun h60=>?_)
   ·have hmd:made=false:=by simpa using h60
    subst hmd;simp only[dy,cS]at hp
    have hgV':g'*V<1000000000^(nv+1):=by
     rw[bh,cD (1000000000^nv)];exact cj (tB (by omega:g'<1000000000) hV0) (dr _ (mE hVlt))
    have hg0:0<g':=by
     rcases ia g' with h | h
     ·rw[h]at hp;omega
     ·exact h
    have hgm:(g'-1)*V+V=g'*V:=by
     obtain⟨k,rfl⟩:∃k,g'=k+1:=⟨g'-1,by omega⟩
     rw[jS,bX,eN]
    obtain⟨W,hW⟩:∃W,1000000000^(nv+1)=W:=⟨_,rfl⟩
    have hYe:gbv W X V (false,g')=X+W-g'*V:=by simp[gbv]
    have hnew:X+W-g'*V+V-W*(if W<=X+W-g'*V+V then 1 else 0)=gbv W X V (decide (W<=X+W-g'*V+V),g'-1):=by
     rw[hW]at hgV' hXlt;by_cases hc:W<=X+W-g'*V+V
     ·rw[aK hc,dZ];simp only[gbv,hc,oP,bz];have hq:X/V=g'-1:=wa hV0 (by rw[show g'-1+1=g' by omega];exact hp.1);have h1:=lS X V;rw[hq,cD]at h1;omega
     ·rw[aG hc,eu];simp only[gbv,hc,mY,dy,cS];omega
    rw[hW]at hview hput hgive hXlt hgV';have hYlt:X+W-g'*V<W:=by omega
    have hput1:=hput (X+W-g'*V) (X+W-g'*V+V-W*(if W<=X+W-g'*V+V then 1 else 0)) hYlt (by split<;>omega);rw[hnew]at hput1;rw[hW,hYe];refine bh8 (n:=i) (ts:=rT (pd 1000000000 L (R%1000000000^i+1000000000^i*(X+W-g'*V)))) (us:=rT (pd 1000000000 (nv+1) (X+W-g'*V))) (us':=rT (pd 1000000000 (nv+1) (gbv W X V (decide (W<=X+W-g'*V+V),g'-1)))) rfl ⟨.i64,.i64,i+nv+1,(by show aC.int .i64 _=aC.int .i64 _;congr 1;omega),(by show aC.int .i64 _=aC.int .i64 _;congr 1;omega),by omega,by simp;omega,(hview _ hYlt).symm⟩ (by simp[pd]) rfl (TS rfl (hnew▸hgive _ hYlt)) hput1 ?_;apply vn an4;dsimp only[aE,aF];have hg1':(g':Int)-1=((g'-1:Nat):Int):=by clear hN hput hview hgive hfitY;omega
    refine ab rfl ⟨⟨(decide (W<=X+W-g'*V+V),g'-1),?_⟩,⟨aN.Sub.same,aN.Sub.of_eq (congrArg (fun q=>aN.one (aC.int .u64 q)) hg1'),aN.Sub.of_eq ?_,trivial⟩,?_⟩
    ·by_cases hc:W<=X+W-g'*V+V
     ·simp only[hc,oP,bz];exact(wa hV0 (by rw[show g'-1+1=g' by omega];exact hp.1)).symm
     ·simp only[hc,mY,dy,cS];omega
    ·dsimp only;rfl
    ·dsimp only;by_cases hc:W<=X+W-g'*V+V
     ·simp[hc]
     ·simp[hc];omega
   have hmd:made=true:=by simpa using h60
   subst hmd;simp only[bz]at hp;subst hp;simp only[gbv,bz];apply vn (oj ⟨_,jL⟩ ib (oO _) (YG hX2));refine br rfl rfl (by omega) (by omega) ?_;refine iJ (d':=X/V) rfl rfl (by omega) (by omega) hok rfl ?_;apply vn (aH (by omega) (by omega));dsimp only[aE,aF];exact ab rfl ⟨⟨(i,os.set i (X/V),R%1000000000^i+1000000000^i*(X%V)),hN⟩,⟨aN.Sub.of_eq (congrArg (fun q=>aN.one (aC.int .i64 q)) (bn7 i)),aN.Sub.same,aN.Sub.same,trivial⟩,by show i<i+1;omega⟩
  have hq:X/V=g:=Aa hgq (by rw[wc hV0];omega)
  have hmod:X+1000000000^(nv+1)*(if X<g*V then 1 else 0)-g*V=X%V:=by
   rw[aG h57,eu,bq];have h1:=lS X V;rw[hq,cD]at h1;omega
  rw[hmod];rw[hq]at hN;apply vn (oj ⟨_,jL⟩ ib (oO _) (YG hgB));refine br rfl rfl (by omega) (by omega) ?_;refine iJ (d':=g) rfl rfl (by omega) (by omega) hok rfl ?_;apply vn (aH (by omega) (by omega));dsimp only[aE,aF];exact ab rfl ⟨⟨(i,os.set i g,R%1000000000^i+1000000000^i*(X%V)),hN⟩,⟨aN.Sub.of_eq (congrArg (fun q=>aN.one (aC.int .i64 q)) (bn7 i)),aN.Sub.same,aN.Sub.same,trivial⟩,by show i<i+1;omega⟩
 have hn0:n=0:=by omega
 subst hn0;have heq:=hI.eq;have hlt:=hI.lt;rw[ga,pW,dZ]at heq;rw[pW,nw]at hlt;obtain⟨hQ,hR⟩:=xR heq hlt;have hQ2:lv os=a/b:=by rw[hQ,<-hS,<-hV,Nat.mul_div_mul_right _ _ hs0]
 have hR2:R=a%b*s:=by rw[hR,<-hS,<-hV,Nat.mul_mod_mul_right]
 apply aA (jo (pd 1000000000 L R) (Ez (by omega) _ _) (by rw[fE];omega)) rfl;rw[show lv (pd 1000000000 L R)=R by rw[lv,xJ,ew hfit]];apply aA (ba8 R s hs0 hsB (by have:=Ce hfit;omega)) rfl;apply aA (jo os hI.dg);dsimp only[aE,aF];refine aL ?_;rw[hQ2,hR2,Nat.mul_div_cancel _ hs0];rfl
open Go Go.Proofs Go.RowKit Go.Shelf Tryz Ord
attribute [local go_sem] Oper.semAt_some
section
variable{α:Type}[Inhabited α]{enc:α->Value}
def bk(vs:List α)(k:Nat):List (Nat×α):=(List.range k).map fun j=>(vs.length-1-j,vs[vs.length-1-j]?.getD default)
theorem PW(vs:List α)(k:Nat):bk vs (k+1)=bk vs k++[(vs.length-1-k,vs[vs.length-1-k]?.getD default)]:=by simp[bk,gx]
theorem Lk(vs:List α)(k:Nat):(bk vs k).length=k:=by simp[bk]
def KpB(n₀ Bs:Nat)(A B:World):Prop:=Below n₀ A B/\∀v,A.cell? ⟨Bs,0,none⟩=some v->B.cell? ⟨Bs,0,none⟩=some v
theorem am4(l Bs n₀ b off cap:Nat)(vs:List α)(hlen:vs.length<4611686018427387904)(hb:b<n₀)(J Jx:List (Nat×α)->World->Prop)
  (hY:∀pre x W,J pre W->pre.length<vs.length->YieldAt Fence.wide (1000-1) prog l #[.int .i64 (x.1:Int),enc x.2] W fun e W'=>
   (e=.returned (.bool true)/\J (pre++[x]) W'/\KpB n₀ Bs W W')\/(e=.returned (.bool false)/\Jx (pre++[x]) W'))
  (W:World) (hBs:W.cell? ⟨Bs,0,none⟩=some (.slice (some ⟨b,off,none⟩) vs.length cap)) (hc:∀j v,vs[j]?=some v->W.cell? ⟨b,off+j,none⟩=some (enc v)) (h0:J [] W) :
  CallsIn Fence.wide 1000 prog 237 #[.func (.yield l) #[] #[],.pointer (some ⟨Bs,0,none⟩)] W fun e W'=>(∃v,e=.returned v) /\
   ((∃ys,ys=bk vs vs.length/\J ys W')\/(∃pre,(∃k,k<=vs.length/\pre=bk vs k)/\Jx pre W')):=by
 refine iH func237 rfl trivial ?_ rfl;simp only[ntmps237,cw,an,bo,Nat.reduceAdd,Nat.reduceSub,dx,dk,du,di,List.nil_append,List.cons_append];obtain⟨N,hN⟩:∃N,vs.length=N:=⟨_,rfl⟩
 rw[hN]at hBs hY hlen|-
 gi_wp2
 gi_loopw [3] (fun i wr=>∃k:Nat,k<=N/\i=.int .i64 ((N:Int)-1-k)/\J (bk vs k) wr/\Below n₀ W wr/\wr.cell? ⟨Bs,0,none⟩=some (.slice (some ⟨b,off,none⟩) N cap))
  (fun i _=>(intOf i+1).toNat)
 case atStart=>exact⟨0,cz _,by simp,h0,cu _ _,hBs⟩
 case round=>
  obtain⟨k,hk,rfl,hJs,hnx,hBx⟩:=hrel;have hmeas:(intOf (.int .i64 ((N:Int)-1-k))+1).toNat=N-k:=by simp[intOf];omega
  by_cases hlt:k<N
  ·have hv:vs[N-1-k]?=some (vs[N-1-k]?.getD default):=by rw[bQ (by omega)];rfl
   have hcx:wr.cell? ⟨b,off+(N-1-k),none⟩=some (enc (vs[N-1-k]?.getD default)):=(hnx.cell (p:=⟨b,off+(N-1-k),none⟩) hb).trans (hc _ _ hv);obtain⟨fn,tmps,assign,body,hy,hR⟩:=hY _ (N-1-k,vs[N-1-k]?.getD default) wr hJs (by rw[Lk];exact hlt);generalize hx:vs[N-1-k]?.getD default=x at hy hR hcx;have hsucc:bk vs (k+1)=bk vs k++[(N-1-k,x)]:=by rw[PW,hN,hx]
   have e1:(N:Int)-1-k=((N-1-k:Nat):Int):=by omega
   have hn1:N-1-k<N:=by omega
   have e2:(wr.cell? ⟨b,off+(N-1-k),none⟩)=some (enc x):=hcx;rw[e1]
   gi_wp2
   refine hR.mono ?_;rintro e W3 (⟨rfl,hJ3,hk3⟩ | ⟨rfl,hJx3⟩)
   ·gi_wp2
    go_roundw
    case rel=>exact⟨k+1,by omega,by congr 1;omega,by rw[hsucc];exact hJ3,hnx.trans hk3.1,hk3.2 _ hBx⟩
    case measure=>simp[intOf]
   ·gi_wp2
    refine gZ (Aw rfl _ _ _) rfl ?_;exact⟨⟨_,rfl⟩,.inr ⟨_,⟨k+1,by omega,rfl⟩,by rw[hsucc];exact hJx3⟩⟩
  ·obtain rfl:k=N:=by omega
   gi_wp2
   go_end0
   exact⟨⟨_,rfl⟩,.inl ⟨_,rfl,hJs⟩⟩
theorem Wq{α:Type}(l Bs:Nat)(a:Option Addr)(cap:Nat)(J:List (Nat×α)->World->Prop)(W:World)(hBs:W.cell? ⟨Bs,0,none⟩=some (.slice a 0 cap))(h0:J [] W) :
  CallsIn Fence.wide 1000 prog 237 #[.func (.yield l) #[] #[],.pointer (some ⟨Bs,0,none⟩)] W fun e W'=>(∃v,e=.returned v)/\J [] W':=by
 refine iH func237 rfl trivial ?_ rfl;simp only[ntmps237,cw,an,bo,Nat.reduceAdd,Nat.reduceSub,dx,dk,du,di,List.nil_append,List.cons_append]
 gi_wp2
 gi_loopw [3] (fun i wr=>i=.int .i64 (-1)/\J [] wr) (fun _ _=>0)
 case atStart=>exact⟨rfl,h0⟩
 case round=>
  obtain⟨rfl,hJs⟩:=hrel
  gi_wp2
  go_end0
  exact⟨⟨_,rfl⟩,hJs⟩
theorem AE(n:Nat)(a:Option Addr)(len cap:Nat)(w:World) :
  CallsIn Fence.wide n prog 215 #[.slice a len cap] w fun e w'=>e=.returned (.func (.func 237) #[] #[.pointer (some ⟨w.heap.size,0,none⟩)])/\w'=w.alloc (.cells #[.slice a len cap] 40):=by
 refine iH func215 rfl trivial ?_ rfl;simp only[ntmps215,cw,an,bo,Nat.reduceAdd,Nat.reduceSub,dx,dk,du,di,List.nil_append,List.cons_append]
 gi_wp2
 go_ret
 exact⟨rfl,rfl⟩
def Sl1(enc:α->Value)(n₀:Nat)(W:World)(sv:Value)(vs:List α):Prop:=
 ∃a cap,sv=.slice a vs.length cap/\(vs=[]\/∃b off,a=some ⟨b,off,none⟩/\b<n₀/\∀j v,vs[j]?=some v->W.cell? ⟨b,off+j,none⟩=some (enc v))
theorem Sl1.below{α:Type}{enc:α->Value}{n₀:Nat}{A B:World}(h:Below n₀ A B){sv:Value}{vs:List α}:Sl1 enc n₀ A sv vs->Sl1 enc n₀ B sv vs:=by
 rintro⟨a,cap,e,rfl | ⟨b,off,rfl,hb,hc⟩⟩
 ·exact⟨a,cap,e,.inl rfl⟩
 ·exact⟨_,cap,e,.inr ⟨b,off,rfl,hb,fun j v hj=>(h.cell (p:=⟨b,off+j,none⟩) hb).trans (hc j v hj)⟩⟩
theorem ru(Bs n₀:Nat)(sv:Value)(vs:List α)(hlen:vs.length<4611686018427387904)(w:World)(hBs:Bs<w.heap.size)(hn₀:n₀<=w.heap.size)
  (hc:w.cell? ⟨Bs,0,none⟩=some sv) (hI:Sl1 enc n₀ w sv vs) :
  SeqStopsK Fence.wide 1000 prog 237 #[.pointer (some ⟨Bs,0,none⟩)] (fun x:Nat×α=>#[Value.int .i64 (x.1:Int),enc x.2]) (KpB n₀ Bs) (fun ys=>ys=bk vs vs.length) (fun pre=>∃k,k<=vs.length/\pre=bk vs k) vs.length w:=fun l J Jx W hW _ _ hY h0=>by
 have hc':=(hW.cell (p:=⟨Bs,0,none⟩) hBs).trans hc;obtain⟨a,cap,rfl,rfl | ⟨b,off,rfl,hb,hcs⟩⟩:=hI.below (hW.mono hn₀)
 ·exact(Wq (α:=α) l Bs a cap J W hc' h0).mono fun e W' ⟨he,hj⟩=>⟨he,.inl ⟨_,rfl,hj⟩⟩
 ·exact(am4 (enc:=enc) l Bs n₀ b off cap vs hlen hb J Jx hY W hc' hcs h0)
theorem Uj{n₀ Bs:Nat}{A B C:World}(h:KpB n₀ Bs A B)(k:KpB n₀ Bs B C):KpB n₀ Bs A C:=⟨h.1.trans k.1,fun v hv=>k.2 v (h.2 v hv)⟩
theorem UI{n₀ Bs:Nat}{w:World}(hn:n₀<=w.heap.size)(hB:Bs<w.heap.size)(W:World)(l:Nat)(o o':Obj)(hl:w.heap.size<=l)(h:W.heap[l]?=some o)(h1:o.isCells=false)(h2:o.isWalk=false):KpB n₀ Bs W (W.putObj l o'):=
 ⟨sx hn W l o o' hl h h1 h2,fun v hv=>by
  have e:(W.putObj l o').heap[Bs]?=W.heap[Bs]?:=kz (by omega);simp only[World.cell?,e]at hv|-;exact hv⟩
end
def wv(pre:List (Nat×Int)):Int:=pre.foldl (fun n x=>IntKind.u64.wrap (IntKind.u64.wrap (n*1000000000)+IntKind.u64.wrap x.2)) 0
theorem aY1(pre:List (Nat×Int))(x:Nat×Int):wv (pre++[x])=IntKind.u64.wrap (IntKind.u64.wrap (wv pre*1000000000)+IntKind.u64.wrap x.2):=by simp[wv]
theorem aD6{n:Nat}(hn:n<1000000000000000000):wv (bk ((dg n).map (fun d:Nat=>(d:Int))) (dg n).length)=(n:Int):=by
 have hl:(dg n).length<=2:=Ce (by omega);have hv:=iX n;have hd:=kW n;generalize dg n=ds at hl hv hd
 match ds,hl with
 | [],_=>simp[lv,val]at hv;subst hv;simp[bk,wv]
 | [a],_=>
   have ha:=hd a (by simp);simp[lv,val]at hv;simp[bk,wv,gx];simp only[qJ];omega
 | [a,b],_=>
   have ha:=hd a (by simp);have hb:=hd b (by simp);simp[lv,val]at hv;simp[bk,wv,gx];simp only[qJ];omega
theorem aa3{M:Nat->Prop}{w:World}{v:Value}{ds:List Nat}(h:(aC.slice 1 (rT ds)).rep M w v):Sl1 (fun d:Int=>Value.int .u32 d) w.heap.size w v (ds.map (fun d:Nat=>(d:Int))):=by
 obtain⟨a,cap,rfl,hc,hm,hel⟩:=h;refine⟨a,cap,by simp,?_⟩;rcases hel with h | ⟨b,off,cs,T,fz,rfl,hb,hh,hr⟩
 ·left
  have:ds=[]:=by cases ds<;>simp_all
  subst this;rfl
 ·refine .inr ⟨b,off,rfl,(cZ.1 hh).1,fun j v hj=>?_⟩;rw[cn]at hj;cases hd:ds[j]? with
  | none=>rw[hd]at hj;simp at hj
  | some d=>
    rw[hd]at hj;simp only[cK,aW]at hj;subst hj;obtain⟨_,hrep⟩:=hr j _ (od hd);rw[dZ]at hrep;have hl:=hrep.length
    have hlt:off+j<cs.toList.length:=by
     simp only[an,bo,bK,cW]at hl;omega
    rw[jE hlt,mZ,iy]at hrep;have h1:cs.toList[off+j]=.int .u32 d:=hrep.1.1;simp only[World.cell?,hh];rw[Array.getElem_toList]at h1;simp[h1,tC (show off+j<cs.size by simpa using hlt)]
theorem ba9(a:Option Addr)(cap:Nat)(vs:List Int)(hlen:vs.length<4611686018427387904)(w:World)(hI:Sl1 (fun d:Int=>Value.int .u32 d) w.heap.size w (.slice a vs.length cap) vs) :
  CallsIn Fence.wide 1001 prog 242 #[.agg #[.slice a vs.length cap]] w fun e W'=>e=.returned (.int .u64 (wv (bk vs vs.length)))/\Below w.heap.size w W':=by
 refine qE func242 rfl trivial ?_ rfl;simp only[ntmps242,cw,an,bo,Nat.reduceAdd,Nat.reduceSub,dx,dk,du,di,List.nil_append,List.cons_append];generalize hL:vs.length=L at hI hlen|-
 gi_wp2_with (refine⟨trivial,?_⟩;gi_at_call 215;refine(AE _ _ _ _ _).mono ?_;rintro e w' ⟨rfl,rfl⟩)
 have bN:=Boxed.new (w.alloc (.cells #[.slice a L cap] 42)) 236 (.int .u64 0);have bS:=Boxed.new ((w.alloc (.cells #[.slice a L cap] 42)).alloc (.cells #[.int .u64 0] 236)) 40 (.slice a L cap);simp only[cy]at bN bS;have hB0:Below w.heap.size w (((w.alloc (.cells #[.slice a L cap] 42)).alloc (.cells #[.int .u64 0] 236)).alloc (.cells #[.slice a L cap] 40)):=(((cu _ w).alloc (aa _) _).alloc (by simp) _).alloc (by simp;omega) _;obtain⟨W0,hW0⟩:∃W0,(((w.alloc (.cells #[.slice a L cap] 42)).alloc (.cells #[.int .u64 0] 236)).alloc (.cells #[.slice a L cap] 40))=W0:=⟨_,rfl⟩
 have hs0:W0.heap.size=w.heap.size+3:=by rw[<-hW0];simp
 have bN':=bN.alloc (.cells #[.slice a L cap] 40);rw[hW0]at hB0 bS bN' |-
 refine Pg (w0:=W0) rfl (by omega) (gf:=237) (lb:=#[.pointer (some ⟨w.heap.size+1+1,0,none⟩)]) rfl trivial (vy func237 (by kernel_rfl) rfl)
  (ru (enc:=fun d:Int=>Value.int .u32 d) (w.heap.size+1+1) w.heap.size (.slice a L cap) vs (by omega) W0 (by omega) (by omega) bS.cell (hI.below hB0)) Uj (UI (by omega) (by omega)) (cu _ _) (fun _=>rfl)
  (fun pre W=>(W.cell? ⟨w.heap.size+1,0,none⟩=some (.int .u64 (wv pre))/\W.frozen? ⟨w.heap.size+1,0,none⟩=false)/\Below w.heap.size w W)
  (fun _ _ _=>False)
  (OwnFrom.and (Own.from (fun s A B row hs hg hr=>⟨cell_kept hs.1 hg hr,(frozen_kept hs.1 hg hr).trans hs.2⟩) _) (ownFrom_below (aa _) (by omega)))
  (fun _=>by intro s A B row hs;exact hs.elim)
  ⟨⟨bN'.cell,bN'.frozen⟩,hB0⟩
  (fun x=>{ tmps:=#[.agg #[.slice a L cap],.pointer (some ⟨w.heap.size,0,none⟩),.int .u64 0,.pointer (some ⟨w.heap.size+1,0,none⟩),undef,.int .u32 x.2,.pointer (some ⟨w.heap.size,0,none⟩),.slice a L cap,.func (.func 237) #[] #[.pointer (some ⟨w.heap.size+1+1,0,none⟩)],.int .i64 (x.1:Int),.int .u32 x.2,undef,undef,undef,undef,undef,undef],defers:=[] }) ?assign ?body ?done ?stop
 case assign=>
  intro l x W K hK
  gi_wp2
  exact hK
 case body=>
  rintro l pre x W ⟨⟨hcr,hfr⟩,hB⟩ _
  gi_wp2
  refine⟨KeepsOthers.setCell _ _ _,⟨(cu w.heap.size W).setCell (p:=⟨w.heap.size+1,0,none⟩) (by simp) _,fun v hv=>?_⟩,⟨?_,by rw[World.frozen?_setCell];exact hfr⟩,hB.setCell (p:=⟨w.heap.size+1,0,none⟩) (by simp) _⟩
  ·refine Eq.trans (World.cell?_setCell_other _ _ _ _ ?_) hv;simp
  ·rw[aY1];exact World.cell?_setCell_same' _ _ _ (by rw[hcr];rfl)
 case done=>
  rintro D ys W hD rfl ⟨⟨hcr,hfr⟩,hB⟩ hK
  gi_wp2
  refine⟨by simp,.inl ⟨_,_,rfl,qF hK,?_⟩⟩;exact⟨_,jP rfl _ _ _,rfl,hB.trans (sx (w:=w) (aa _) W D _ _ (by omega) hK rfl rfl)⟩
 case stop=>
  rintro D c pre W hD _ h hK;exact h.elim
theorem aN1(n:Nat)(hn:n<1000000000000000000):aU prog 242 [mT n] (.ret [.one (.int .u64 n)]):=by
 refine⟨bC (by kernel_rfl),fun M w vs hM hv=>?_⟩
 match vs,hv with
 | [v],hv=>
   obtain⟨⟨us,rfl,hus⟩,_⟩:=hv
   match us,hus with
   | [u],hus=>
     have hsl:=aa3 hus.1;obtain⟨a,cap,rfl,hel⟩:=hsl;have hl:((dg n).map (fun d:Nat=>(d:Int))).length=(dg n).length:=aI _
     have hlen:(dg n).length<4611686018427387904:=by
      have h2:(dg n).length<=2:=Ce (by rw[show(1000000000:Nat)^2=1000000000000000000 by decide];exact hn);omega
     have h1:=ba9 a cap ((dg n).map (fun d:Nat=>(d:Int))) (by rw[hl];exact hlen) w ⟨a,cap,rfl,hel⟩;rw[hl,aD6 hn]at h1;have h2:Calls prog 242 #[.agg #[.slice a (dg n).length cap]] w _:=(au (n:=1001)).1 h1;rw[hl];show Calls prog 242 #[.agg #[.slice a (dg n).length cap]] w _;refine h2.mono ?_;rintro e w' ⟨rfl,hb⟩;exact⟨hb,[.int .u64 n],rfl,⟨rfl,rfl⟩,trivial⟩
   | [],hus=>exact hus.elim
   | _::_::_,hus=>exact hus.2.elim
 | [],hv=>exact hv.elim
 | _::_::_,hv=>exact hv.2.elim
end Go.Sy
namespace Go.Sy
open Go Go.Proofs Tryz Ord
def bM9:Tr:=fO 242 [(G1 2)] [none] [22] [42] 236 false (Cc 242 3 0 24 236 (.loop 1 [lV 11 0,lV 12 0] (.need (.prim [(W 14 0),(.one (.c (.k (.int .u64 0))))] none) (.binOp .neq 236 (tT 26) (.const (.int .u64 0)) 236) 4 false (aR 15 0 (oe .rem 236 29 30 13 0 14 0 236 (iY 1 14 16)) (nL 206 13 1 32 236 42 (rY 16))))))
def bU3:Tr:=qS .leq 3 14 2 7 0 4 (aR 8 0 (al 3 0 18 40 (qS .leq 3 19 2 9 0 4 (aR 10 0 bM9 (Vz 2 3 35 36 (.back 0 [lV 3 0,lV 12 0,lV 4 0]))))) (Vz 2 3 35 36 (.back 0 [lV 3 0,lV 10 0,lV 4 0])))
def aL6:Tr:=rY 2
def cc4:Tr:=.loop 0 [lV 0 0,lV 1 0,lN] (Cc 172 3 0 9 4 (kL 5 0 10 (aR 6 0 (al 2 0 13 40 bU3) aL6)))
theorem az5:aV prog f220 ck [.v (some 1),.v (some 1)]=cc4:=by kernel_rfl
def ap5:Tr:=lx 4 0 4 1
def bX8:Tr:=oe .neq 4 6 8 0 1 1 1 4 (pC 162 0 0 1 11 13 (YT 2 0 3 9 14 ap5))
theorem bB2:aV prog f175 ck [.v (some 2),.v (some 2)]=bX8:=by kernel_rfl
def au1:Tr:=lx 6 0 6 1
def cl0:Tr:=oe .eql 4 7 9 0 1 1 1 4 (aR 2 0 (pC 209 0 0 1 14 16 (YT 0 1 3 12 17 ap5)) (fO 164 [(G1 0),(G1 1)] [none] [21,23] [42,42] 3 true (iC 3 0 0 3 24 (aR 4 0 (pC 223 1 0 0 29 31 (YT 1 1 5 27 32 au1)) (pC 223 0 0 1 37 39 (YT 0 1 5 35 40 au1))))))
theorem by8:aV prog f184 ck [.v (some 2),.v (some 2)]=cl0:=by kernel_rfl
def ce7:Tr:=iC 0 0 0 2 3 (aR 1 0 (gJ 0 2 236 5 (WD 2 236 6 (nL 206 3 1 7 236 42 (.need (.call 158 [(tF true),(G1 4)] [(some 2)]) (.call ⟨.value (.func 158),#[(.const (.bool true)),(tT 8)],#[4,42]⟩) 44 true (lx 5 0 5 1))))) (gJ 0 2 236 10 (nL 206 2 1 11 236 42 (.need (.call 158 [(tF false),(G1 3)] [(some 2)]) (.call ⟨.value (.func 158),#[(.const (.bool false)),(tT 12)],#[4,42]⟩) 44 true ap5))))
theorem aS7:aV prog f156 ck [.v none]=ce7:=by kernel_rfl
theorem jQ{n B:Nat}(h:n<2^B):(dg n).length<=B:=
 Ce (cj h (qO (by omega) B))
theorem Zd{n:Nat}(h:(dg n).length<=2:=by omega):n<1000000000000000000:=by
 have h1:=LN n;have h2:1000000000^(dg n).length<=1000000000^2:=hU (by omega) h;rw[show(1000000000:Nat)^2=1000000000000000000 by decide]at h2;omega
theorem by0(n:Nat):aU prog 221 [(mT n:aN)] (.ret [.one (.bool (decide (n=1)))]):=by
 refine dL func221 bu9 ?_;apply vn (aP eC (aI _));apply vn bj;refine vs _ rfl ?_ ?_<;>intro h2
 ·obtain⟨d,hd⟩:∃d,dg n=[d]:=by
   match h:dg n with
   | [d]=>exact⟨d,rfl⟩
   | []=>rw[h]at h2;simp at h2
   | _::_::_=>rw[h]at h2;simp at h2;omega
  have hv:=iX n;rw[hd]at hv;apply vn (aJ eC (by omega) (by omega) (show(dg n)[0]?=some d by rw[hd];rfl)) rfl;apply vn (bg vr);dsimp only[aE,aF];apply vn bj;dsimp only[aE,aF];refine aL ?_;have hv:d=n:=by simpa[lv,val]using hv
  subst hv;show[aN.one (.bool (decide ((d:Int)=1)))]=_;have e:((d:Int)=1)↔d=1:=by omega
  simp only[e]
 refine aL ?_
 have:¬n=1:=fun e=>by
  subst e;rw[uD]at h2;exact h2 rfl
 simp[this];rfl
theorem av3(a b:Nat)(hs:(dg (max a b)).length<137438953472):aU prog 220 [(mT a:aN),(mT b:aN)] (.ret [mT (Nat.gcd a b)]):=by
 refine dL func220 az5 ?_;refine bE {p:Nat×Nat // Nat.gcd p.1 p.2=Nat.gcd a b/\p.1<=max a b/\p.2<=max a b} (fun p=>[.one (dT p.1.1),.one (dT p.1.2),.one (.exact (.slice none 0 0))]) (fun p=>p.1.2) ⟨(a,b),rfl,by omega,by omega⟩ aZ.rfl (fun _=>rfl) ?_;rintro⟨⟨x,y⟩,hg,hx,hy⟩;dsimp only[aE,aF]at hg hx hy|-;have hxl:=oC hx;have hyl:=oC hy;apply aA (te y);apply vn mn;refine vs _ rfl ?_ ?_<;>intro h3
 ·have hy0:0<y:=by omega
  apply vn (aP eC (aI _));apply vn jO;dsimp only[aE,aF];refine vs _ rfl ?_ ?_<;>intro h6
  ·apply vn (aP eC (aI _));apply vn jO;refine vs _ rfl ?_ ?_<;>intro h9
   ·apply aA (aN1 x (Zd));apply aA (aN1 y (Zd));dsimp only[aE,aF];have hx18:=Zd (n:=x);have hy18:=Zd (n:=y);clear hxl hyl;refine bE {p:Nat×Nat // Nat.gcd p.1 p.2=Nat.gcd a b/\p.1<1000000000000000000/\p.2<1000000000000000000} (fun p=>[.one (.int .u64 p.1.1),.one (.int .u64 p.1.2)]) (fun p=>p.1.2) ⟨(x,y),hg,hx18,hy18⟩ aZ.rfl (fun _=>rfl) ?_;rintro⟨⟨p,q⟩,hpq,hp,hq⟩;dsimp only[aE,aF]at hpq hp hq|-;apply vn fC;refine vs _ rfl ?_ ?_<;>intro h14
    ·apply vn (CK (c:=((p%q:Nat):Int)) (by omega) (by rw[qM (oO _),<-QN]));exact ab rfl ⟨⟨(q,p%q),by rw[<-hpq,jY p q,sk q p,jY],hq,eh (sn _ _) hp⟩,aZ.rfl,dU _ (by omega)⟩
    have hq0:q=0:=by omega
    subst hq0;rw[zH]at hpq;apply aA (nu p);dsimp only[aE,aF];rw[hpq];exact aL
   apply aA (PH x y hy0);exact ab rfl ⟨⟨(y,x%y),by rw[<-hg,jY x y,sk y x,jY],hy,aq (sn _ _) hx⟩,aZ.rfl,dU _ hy0⟩
  apply aA (PH x y hy0);exact ab rfl ⟨⟨(y,x%y),by rw[<-hg,jY x y,sk y x,jY],hy,aq (sn _ _) hx⟩,aZ.rfl,dU _ hy0⟩
 have hy0:y=0:=by omega
 subst hy0;rw[zH]at hg;rw[hg];exact aL
structure bl7(a n:Nat)(k x y:Nat):Prop where
 eq:y*x^k=a^n
 z:a=0->x=0
 x1:k≠0->x<=max 1 (a^n)
 y1:y<=max 1 (a^n)
theorem bl7.mk'{a n k x y:Nat}(hn:n≠0)(eq:y*x^k=a^n)(z:a=0->x=0)(hy:x=0->y<=1):bl7 a n k x y:=by
 have hk:∀t,0<t->t<=x->0<x^k:=fun t h1 h2=>ej (by omega);refine⟨eq,z,fun h0=>?_,?_⟩
 ·rcases ia x with hx | hx
  ·omega
  ·rcases ia y with hy0 | hy0
   ·rw[hy0,lX]at eq;have:=z (Nat.eq_zero_of_not_pos fun ha=>by have:=ej (n:=n) ha;omega);omega
   ·have h1:x<=x^k:=Nat.le_self_pow h0 x;have h2:x^k<=y*x^k:=zV _ hy0;omega
 ·rcases ia x with hx | hx
  ·have:=hy hx;omega
  ·have h2:y<=y*x^k:=kd _ (ej hx);omega
def bT5:Tr:=aR 4 0 (Vz 0 2 15 16 (Vz 1 2 22 23 (ae3 0 1 5 28 30 (aJ5 (pC 223 7 0 10 32 33 (kZ 9 11 0)))))) (ae3 0 1 0 28 30 (aJ5 (pC 223 1 0 6 32 33 (kZ 5 7 0))))
def cc9:Tr:=pC 220 0 0 1 7 8 (Cc 221 2 0 10 4 (kL 3 0 11 bT5))
theorem aX9:aV prog f174 ck [.v (some 2),.v (some 1)]=cc9:=by kernel_rfl
def bS6:Tr:=.need (.call 206 [(.one (.c (.k (.int .u64 1))))] [(some 1)]) (.call ⟨.value (.func 206),#[(.const (.int .u64 1))],#[236]⟩) 42 true (pC 209 0 2 1 4 5 aL6)
theorem an9:aV prog f163 ck [.v (some 3)]=bS6:=by kernel_rfl
def bT4:Tr:=.ret [(.agg [(U 0 0),(U 0 1),tN])]
theorem bi1:aV prog f155 ck [.v (some 2)]=bT4:=by kernel_rfl
def bZ0:Tr:=nL 156 0 2 3 2 44 (fO 155 [(G2 1)] [(some 3)] [4] [44] 46 true (kZ 2 2 2))
theorem cb5:aV prog f63 ck [.v none]=bZ0:=by kernel_rfl
def ce0:Tr:=LO 91 0 4 44 3 (cH 1)
theorem bf8:aV prog f23 ck [.v (some 3)]=ce0:=by kernel_rfl
def bQ8:Tr:=kL 0 1 5 (ae3 1 0 0 6 9 (kZ 2 0 2))
theorem bI4:aV prog f65 ck [.v (some 3)]=bQ8:=by kernel_rfl
def cj2:Tr:=.need (.call 158 [(tF false),(G1 0)] [(some 2)]) (.call ⟨.value (.func 158),#[(.const (.bool false)),(tT 5)],#[4,42]⟩) 44 false (kZ 1 0 2)
theorem bE5:aV prog f168 ck [.v (some 3)]=cj2:=by kernel_rfl
def bR9:Tr:=fO 163 [(G3 1)] [(some 1)] [9] [46] 42 true (fO 175 [(G2 0),(.agg [(U 3 0),(tE (.bool false))])] [(some 2)] [12,14] [44,44] 44 false (fO 175 [(G2 1),(.agg [(U 2 0),(tE (.bool false))])] [(some 2)] [17,19] [44,44] 44 false (vP 184 4 5 15 20 44 (pC 162 2 0 3 22 23 (fO 174 [(G2 6),(G1 7)] [(some 3)] [21,24] [44,42] 46 true (kZ 8 8 2))))))
def bQ2:Tr:=rD 163 0 1 7 42 bR9
theorem bx1:aV prog f88 ck [.v (some 3),.v (some 3)]=bQ2:=by kernel_rfl
def ci8:Tr:=fO 65 [(G3 1)] [(some 3)] [6] [46] 46 true (jN 88 0 0 1 0 2 2 5 7 (kZ 3 3 2))
theorem bM8:aV prog f86 ck [.v (some 3),.v (some 3)]=ci8:=by kernel_rfl
def ci0:Tr:=vP 175 0 1 6 8 44 (rD 163 0 1 10 42 (rD 163 1 1 12 42 (pC 162 3 0 4 11 13 (fO 174 [(G2 2),(G1 5)] [(some 3)] [9,14] [44,42] 46 true (kZ 6 6 2)))))
theorem bF9:aV prog f76 ck [.v (some 3),.v (some 3)]=ci0:=by kernel_rfl
def ca5:Tr:=rD 163 1 1 10 42 (ae3 1 1 2 9 11 (vP 175 0 3 6 12 44 (rD 163 0 1 14 42 (pC 162 5 0 1 15 18 (fO 174 [(G2 4),(G1 6)] [(some 3)] [13,19] [44,42] 46 true (kZ 7 7 2))))))
theorem bb5:aV prog f212 ck [.v (some 3),.v (some 3)]=ca5:=by kernel_rfl
def bV2:Tr:=EK 23 1 6 3 (eB 2 0 0 3 7 (aR 3 0 (.ret [(.agg [tN,(tE (.bool false)),tN]),(WK 9)]) (jN 212 0 0 1 0 2 1 10 11 (.ret [(G3 4),(WK 0)]))))
theorem bG8:aV prog f165 ck [.v (some 3),.v (some 3)]=bV2:=by kernel_rfl
def cj8:Tr:=Lt 63 0 3 6 46 (Lt 63 1 3 8 46 (fO 165 [(G3 2),(G3 3)] [(some 3),none] [7,9] [46,46] 55 true (.ret [(G3 4),(W 5 0)])))
theorem co4:aV prog f72 ck [.v none,.v none]=cj8:=by kernel_rfl
def bH3:Tr:=rD 163 1 1 31 42 (fO 162 [(G1 0),(G1 7)] [(some 1)] [30,32] [42,42] 42 false (rD 163 0 1 37 42 (fO 162 [(G1 1),(G1 9)] [(some 1)] [36,38] [42,42] 42 false (fO 164 [(G1 8),(G1 10)] [none] [33,39] [42,42] 3 true (oe .mul 3 27 40 6 0 11 0 3 (cH 12))))))
def ck1:Tr:=eB 2 0 0 3 15 (aR 5 0 (eH 2 3 0 3 18 19 (eH 2 3 0 3 21 22 (qS .quo 3 23 2 7 0 3 (eH 6 8 0 3 20 24 (cH 9))))) (Lq 23 0 26 3 bH3))
def bU6:Tr:=oe .neq 3 11 12 2 0 3 0 4 (aR 4 0 (eH 2 3 0 3 18 19 (eH 2 3 0 3 21 22 (qS .quo 3 23 2 6 0 3 (eH 5 7 0 3 20 24 (cH 8))))) ck1)
def bT2:Tr:=Lq 23 0 7 3 (EK 23 1 9 3 bU6)
theorem bI6:aV prog f67 ck [.v (some 3),.v (some 3)]=bT2:=by kernel_rfl
theorem OD(x y:Int)(hs:(dg x.natAbs).length+(dg y.natAbs).length<1099511627776:=by omega):aU prog 175 [(iT x:aN),(iT y:aN)] (.ret [iT (x*y)]):=by
 refine dL func175 bB2 ?_;apply vn (bw9 un4);apply aA (nj _ _ hs)
 apply aA (iQ _ _ (x*y) (by
  rw[<-dn];have hsg:(x*y).natAbs=x.natAbs*y.natAbs:=dn _ _;by_cases h1:x<0<;>by_cases h2:y<0<;>simp only[h1,h2,oP,mY,ne_eq,not_true_eq_false,not_false_eq_true,Bool.true_eq_false,dy,bz,cS]
  ·have:=Int.mul_pos_of_neg_of_neg h1 h2;omega
  ·have:=Int.mul_nonpos_of_nonpos_of_nonneg (Int.le_of_lt h1) (mc.1 h2);omega
  ·have:=Int.mul_nonpos_of_nonneg_of_nonpos (mc.1 h1) (Int.le_of_lt h2);omega
  ·have:=Int.mul_nonneg (mc.1 h1) (mc.1 h2);omega)) rfl
 exact aL
theorem bz6(x y:Int)(hs:(dg x.natAbs).length+(dg y.natAbs).length<1099511627776):aU prog 184 [(iT x:aN),(iT y:aN)] (.ret [iT (x+y)]):=by
 refine dL func184 by8 ?_;apply vn (bz7 un4);refine vs _ rfl ?_ ?_<;>intro h1
 ·have h1:x<0↔y<0:=by simpa using h1
  apply aA (aG9 _ _ hs);apply aA (iQ _ _ (x+y) (by by_cases h2:x<0<;>simp only[h2,oP,mY,dy,bz,cS]<;>omega)) rfl;exact aL
 have h1:¬(x<0↔y<0):=by simpa using h1
 apply aA (sd _ _ hs);apply vn aj;dsimp only[aE,aF];rw[show decide (fM (x.natAbs:Int) (y.natAbs:Int)<0)=decide (x.natAbs<y.natAbs) by rw[kF,rM];omega];refine vs _ rfl ?_ ?_<;>intro h7
 ·apply aA (OS _ _);apply aA (iQ _ _ (x+y) (by by_cases h2:y<0<;>simp only[h2,oP,mY,dy,bz,cS]<;>omega)) rfl;exact aL
 apply aA (OS _ _);apply aA (iQ _ _ (x+y) (by by_cases h2:x<0<;>simp only[h2,oP,mY,dy,bz,cS]<;>omega)) rfl;exact aL
theorem aP9(n:Int)(h1:-9223372036854775808<=n)(h2:n<9223372036854775808):aU prog 156 [(.one (.int .i64 n):aN)] (.ret [iT n]):=by
 refine dL func156 aS7 ?_;apply vn aj;refine vs _ rfl ?_ ?_<;>intro h1
 ·apply vn (jg ⟨_,un2⟩ jL (c:=n+18446744073709551616) (by rw[qJ];omega)) rfl;apply vn (bj1 (c:=((n.natAbs:Nat):Int)) (by rw[qJ];omega)) rfl;apply aA (nu _);dsimp only[aE,aF];apply aA (iQ true _ n (by rw[aK rfl];omega)) rfl;exact aL
 apply vn (jg ⟨_,un2⟩ jL (c:=((n.natAbs:Nat):Int)) (by rw[qJ];omega)) rfl;apply aA (nu _);apply aA (iQ false _ n (by rw[aG (by simp)];omega)) rfl;exact aL
abbrev qC(q:Rat):List aC:=[dT q.num.natAbs,.bool (decide (q.num<0)),dT (q.den-1)]
abbrev qT(q:Rat):aN:=.agg (qC q)
theorem nA:ak aC.Sub [.exact (.slice none 0 0),.bool false,.exact (.slice none 0 0)] (qC 0):=⟨aB9 rfl,aC.Sub.same,aB9 rfl,trivial⟩
theorem aB8{z:Int}{d:Nat}(hd:d≠0:=by omega):(mkRat z d).num=(if decide (z<0)=true then -((z.natAbs/z.natAbs.gcd d:Nat):Int)else((z.natAbs/z.natAbs.gcd d:Nat):Int))/\(mkRat z d).den=d/z.natAbs.gcd d:=by
 rw[<-zz hd,zm hd];refine⟨?_,rfl⟩;show z/_=_;have hg:0<z.natAbs.gcd d:=uZ _ (by omega);have hdv:(((z.natAbs.gcd d:Nat)):Int)∣z:=Qt.2 (NM _ _);have h1:=Int.natAbs_ediv_of_dvd hdv;rw[cU]at h1;by_cases h:z<0
 ·rw[bV h,aK rfl,<-h1];have:=Int.ediv_neg_of_neg_of_pos h (b:=((z.natAbs.gcd d:Nat):Int)) (by omega);omega
 ·rw[cE h,aG (by simp),<-h1];have:=RX (mc.1 h) (b:=((z.natAbs.gcd d:Nat):Int)) (by omega);omega
theorem QD(z:Int)(d:Nat)(hd:0<d)(hs:(dg z.natAbs).length+(dg d).length<137438953472:=by omega):aU prog 174 [(iT z:aN),(mT d:aN)] (.ret [qT (mkRat z d)]):=by
 refine dL func174 aX9 ?_;have hg:0<z.natAbs.gcd d:=uZ _ hd;have hgd:z.natAbs.gcd d<=d:=Nat.gcd_le_right _ hd;have hgl:=oC hgd;obtain⟨hm1,hm2⟩:=aB8 (z:=z) (d:=d);have hq:0<d/z.natAbs.gcd d:=mQ hgd hg;have hql:=oC (pZ d (z.natAbs.gcd d));have hone:(dg 1).length=1:=by rw[uD];rfl
 generalize hG:z.natAbs.gcd d=g at *
 apply aA (av3 _ _ (by
  rcases Nat.le_total z.natAbs d with h | h
  ·rw[Nat.max_eq_right h];omega
  ·rw[Nat.max_eq_left h];omega)) rfl
 rw[hG];apply aA (by0 _);apply vn mn;refine vs _ rfl ?_ ?_<;>intro h3
 ·apply aA (PH _ _ hg);dsimp only[aE,aF];apply aA (PH _ _ hg);apply aA (iQ _ _ (mkRat z d).num hm1);apply aA (nu 1);apply aA (OS _ _ hq hq);rw[<-hm2];exact aL
 have hg1:g=1:=by simpa using h3
 subst hg1;rw[nw]at hm1 hm2;apply aA (iQ _ _ (mkRat z d).num hm1);dsimp only[aE,aF];apply aA (nu 1);apply aA (OS _ _ hd hd);dsimp only[aE,aF];refine aL ?_;show[aN.agg [dT _,.bool _,dT (d-1)]]=[aN.agg [_,_,dT ((mkRat z d).den-1)]];rw[hm2]
theorem fX(q:Rat)(h:(dg q.den).length<1099511627775:=by omega):aU prog 163 [(qT q:aN)] (.ret [mT q.den]):=by
 refine dL func163 an9 ?_;have hp:=q.den_pos;have hl:=oC (Nat.sub_le q.den 1);have hone:(dg 1).length=1:=by rw[uD];rfl
 apply aA (nu 1);apply aA (aG9 _ _);rw[show q.den-1+1=q.den by omega];exact aL
theorem aZ2(z:Int):aU prog 155 [(iT z:aN)] (.ret [qT (z:Rat)]):=by
 refine dL func155 bi1 ?_;exact fK ⟨⟨aC.Sub.same,aC.Sub.same,aB9 rfl,trivial⟩,trivial⟩
theorem AV(n:Int)(h1:-9223372036854775808<=n:=by omega)(h2:n<9223372036854775808:=by omega):aU prog 63 [(.one (.int .i64 n):aN)] (.ret [qT (n:Rat)]):=by
 refine dL func63 cb5 ?_;apply aA (aP9 _ h1 h2);apply aA (aZ2 _);exact aL
theorem lM(q:Rat):aU prog 23 [(qT q:aN)] (.ret [.one (.int .i64 q.num.sign)]):=by
 refine dL func23 bf8 ?_;apply aA (bd9 _);exact aL
theorem Fit.dl{B:Nat}{q:Rat}(h:Fit B q):(dg q.num.natAbs).length<=B/\(dg q.den).length<=B:=⟨jQ h.1,jQ h.2⟩
theorem Xz(q:Rat):aU prog 65 [(qT q:aN)] (.ret [qT (-q)]):=by
 refine dL func65 bI4 ?_;apply vn mn
 apply aA (iQ _ _ (-q).num (by
  rw[zj];by_cases h:q.num<0<;>simp only[h,not_true_eq_false,not_false_eq_true,oP,mY,dy,bz,cS]<;>omega)) rfl
 dsimp only[aE,aF];refine aL ?_;show[qT _]=_;simp only[qT,qC,Ax]
theorem zA(q:Rat):q.abs.num=(q.num.natAbs:Int)/\q.abs.den=q.den:=by
 unfold Rat.abs;have h:=QM (q:=q);split
 ·rename_i h0;have:=h.2 h0;exact⟨by omega,rfl⟩
 ·rename_i h0;have:¬0<=q.num:=fun e=>h0 (h.1 e);exact⟨by rw[zj];omega,Ax _⟩
theorem br4(q:Rat):aU prog 168 [(qT q:aN)] (.ret [qT q.abs]):=by
 refine dL func168 bE5 ?_;apply aA (iQ false _ (q.abs).num (by rw[aG (by simp)];exact(zA q).1)) rfl;dsimp only[aE,aF];refine aL ?_;show[aN.agg [dT q.abs.num.natAbs,.bool (decide (q.abs.num<0)),dT (q.den-1)]]=[qT q.abs];simp only[qT,qC,(zA q).2]
theorem jJ(a b:Rat)(A B:Nat)(ha:Fit A a)(hb:Fit B b)(h:A+B<=34359738368:=by omega):aU prog 76 [(qT a:aN),(qT b:aN)] (.ret [qT (a*b)]):=by
 refine dL func76 bF9 ?_;obtain⟨ha1,ha2⟩:=Fit.dl ha;obtain⟨hb1,hb2⟩:=Fit.dl hb;have hn:=jQ (bL ha.1 hb.1);have hd:=jQ (bL ha.2 hb.2);apply aA (OD _ _);apply aA (fX a);apply aA (fX b);apply aA (nj _ _);dsimp only[aE,aF];apply aA (QD _ _ (iw a.den_pos b.den_pos) (by rw[dn];omega)) rfl;rw[<-Rc];exact aL
theorem ph(a b:Rat)(A B:Nat)(ha:Fit A a)(hb:Fit B b)(h:A+B<=34359738368:=by omega):aU prog 88 [(qT a:aN),(qT b:aN)] (.ret [qT (a+b)]):=by
 refine dL func88 bx1 ?_;obtain⟨ha1,ha2⟩:=Fit.dl ha;obtain⟨hb1,hb2⟩:=Fit.dl hb;have hn1:=jQ (bL ha.1 hb.2);have hn2:=jQ (bL hb.1 ha.2);have hd:=jQ (bL ha.2 hb.2)
 have hsum:(dg (a.num*(b.den:Int)+b.num*(a.den:Int)).natAbs).length<=A+B+1:=by
  apply jQ;have h1:=bL ha.1 hb.2;have h2:=bL hb.1 ha.2;rw[gG B A]at h2;rw[bh];refine eh (yy _ _) ?_;rw[dn,dn,cU,cU];omega
 apply aA (fX a);apply aA (fX b);apply aA (OD a.num (b.den:Int) (by rw[cU];omega)) rfl;apply aA (OD b.num (a.den:Int) (by rw[cU];omega)) rfl;dsimp only[aE,aF];apply aA (bz6 _ _ (by rw[dn,dn,cU,cU];omega)) rfl;apply aA (nj _ _);apply aA (QD _ _ (iw a.den_pos b.den_pos));rw[<-Rz];exact aL
theorem kq(a b:Rat)(A B:Nat)(ha:Fit A a)(hb:Fit B b)(h:A+B<=34359738368:=by omega):aU prog 86 [(qT a:aN),(qT b:aN)] (.ret [qT (a-b)]):=by
 refine dL func86 bM8 ?_;apply aA (Xz b);apply aA (ph a (-b) A B ha hb.neg h);rw[<-zB];exact aL
theorem aC6{a b:Rat}(hb:b≠0):mkRat (a.num*(if decide (b.num<0)=true then -(b.den:Int)else b.den)) (a.den*b.num.natAbs)=a/b:=by
 have hn:b.num≠0:=fun e=>hb (lL.1 e)
 have e:b⁻¹=mkRat (if decide (b.num<0)=true then -(b.den:Int)else b.den) b.num.natAbs:=by
  rw[Rat.inv_def];by_cases h:b.num<0
  ·rw[bV h,aK rfl]
   conv=>lhs;rw[show b.num=-((b.num.natAbs:Nat):Int) by omega]
   rw[Rat.divInt_neg',Rat.divInt_ofNat]
  ·rw[cE h,aG (by simp)]
   conv=>lhs;rw[show b.num=((b.num.natAbs:Nat):Int) by omega]
   rw[Rat.divInt_ofNat]
 rw[pa,e]
 conv=>rhs;rw[<-Rat.mkRat_self a]
 rw[ZH]
theorem aS9(a b:Rat)(A B:Nat)(hb0:b≠0)(ha:Fit A a)(hb:Fit B b)(h:A+B<=34359738368):aU prog 212 [(qT a:aN),(qT b:aN)] (.ret [qT (a/b)]):=by
 refine dL func212 bb5 ?_;obtain⟨ha1,ha2⟩:=Fit.dl ha;obtain⟨hb1,hb2⟩:=Fit.dl hb;have hn:b.num≠0:=fun e=>hb0 (lL.1 e);have hn1:=jQ (bL ha.1 hb.2);have hd:=jQ (bL ha.2 hb.1);obtain⟨z,hz⟩:∃z:Int,(if decide (b.num<0)=true then -(b.den:Int)else b.den)=z:=⟨_,rfl⟩
 have hza:z.natAbs=b.den:=by rw[<-hz];split<;>simp
 apply aA (fX b);apply aA (iQ _ _ z hz.symm);apply aA (OD a.num z (by rw[hza];omega)) rfl;apply aA (fX a);dsimp only[aE,aF];apply aA (nj _ _);apply aA (QD _ _ (iw a.den_pos (by omega)) (by rw[dn,hza];omega)) rfl;rw[<-hz,aC6 hb0];exact aL
theorem sign_zero{q:Rat}:q.num.sign=0↔q=0:=by rw[Ae,lL]
theorem Ym(a b:Rat)(A B:Nat)(ha:Fit A a)(hb:Fit B b)(h:A+B<=34359738368:=by omega):aU prog 165 [(qT a:aN),(qT b:aN)] (.ret [qT (if b=0 then 0 else a/b),.one (.int .i64 (if b=0 then 9 else 0))]):=by
 refine dL func165 bG8 ?_;apply aA (lM b);apply vn bj;refine vs _ rfl ?_ ?_<;>intro h2
 ·have h2:b=0:=sign_zero.1 h2;rw[aK h2,aK h2];exact fK ⟨nA,aN.Sub.same,trivial⟩
 have h2:¬b=0:=fun e=>h2 (sign_zero.2 e);rw[aG h2,aG h2];apply aA (aS9 a b A B h2 ha hb h);exact aL
theorem sX{n:Int}(h1:-9223372036854775808<=n:=by omega)(h2:n<9223372036854775808:=by omega):Fit 64 (n:Rat):=Fit.int (by omega) (by omega)
theorem bD3(n d:Int)(h1:-9223372036854775808<=n:=by omega)(h2:n<9223372036854775808:=by omega)(h3:-9223372036854775808<=d:=by omega)(h4:d<9223372036854775808:=by omega):aU prog 72 [(.one (.int .i64 n):aN),(.one (.int .i64 d):aN)] (.ret [qT (if d=0 then 0 else(n:Rat)/(d:Rat)),.one (.int .i64 (if d=0 then 9 else 0))]):=by
 refine dL func72 co4 ?_
 have e:((d:Rat)=0)↔d=0:=by
  rw[<-lL,sU]
 have hd:=Ym (n:Rat) (d:Rat) 64 64 (sX h1 h2) (sX h3 h4);simp only[e]at hd;apply aA (AV n h1 h2);apply aA (AV d h3 h4);apply aA hd;exact aL
def ef(a b:Rat):Int:=if a<b then -1 else if b<a then 1 else 0
theorem xN(a b:Rat):ef a b=fM (a.num*b.den) (b.num*a.den):=by
 unfold ef fM;simp only[Rat.lt_iff]
theorem cp(z:Int):(z<0/\z.sign=-1)\/(z=0/\z.sign=0)\/(0<z/\z.sign=1):=by
 rcases NJ z 0 with h | h | h
 ·exact .inl ⟨h,ny h⟩
 ·exact .inr (.inl ⟨h,by rw[h];rfl⟩)
 ·exact .inr (.inr ⟨h,gD h⟩)
theorem ac5{a b:Rat}(h:a.num.sign≠b.num.sign\/a.num.sign=0):ef a b=a.num.sign-b.num.sign-(a.num.sign-b.num.sign).tdiv 2:=by
 rw[xN];have ha:=a.den_pos;have hb:=b.den_pos
 have key:∀(x:Int)(d:Nat),0<d->(x<0->x*(d:Int)<0)/\(x=0->x*(d:Int)=0)/\(0<x->0<x*(d:Int)):=fun x d hd=>
  ⟨fun h=>Int.mul_neg_of_neg_of_pos h (by omega),fun h=>by rw[h,Int.zero_mul],fun h=>Int.mul_pos h (by omega)⟩
 obtain⟨k1,k2,k3⟩:=key a.num b.den hb;obtain⟨l1,l2,l3⟩:=key b.num a.den ha
 rcases cp a.num with⟨h1,e1⟩ | ⟨h1,e1⟩ | ⟨h1,e1⟩<;>rcases cp b.num with⟨h2,e2⟩ | ⟨h2,e2⟩ | ⟨h2,e2⟩<;>rw[e1,e2]at h|- <;> simp only[fM]<;>(try (exfalso;revert h;decide)) <;>
  (first
   | have i1:=k1 h1
   | have i1:=k2 h1
   | have i1:=k3 h1) <;>
  (first
   | have i2:=l1 h2
   | have i2:=l2 h2
   | have i2:=l3 h2) <;>
  (first
   | (rw[aK (by omega)];rfl)
   | (rw[aG (by omega),aK (by omega)];rfl)
   | (rw[aG (by omega),aG (by omega)];rfl))
theorem bf9{a b:Rat}(h0:a.num.sign≠0)(h:a.num.sign=b.num.sign:=by omega):ef a b=a.num.sign*fM ((a.num.natAbs*b.den:Nat):Int) ((b.num.natAbs*a.den:Nat):Int):=by
 rw[xN];rcases cp a.num with⟨h1,e1⟩ | ⟨h1,e1⟩ | ⟨h1,e1⟩
 ·have h2:b.num<0:=by
   rcases cp b.num with⟨h2,e2⟩ | ⟨h2,e2⟩ | ⟨h2,e2⟩
   ·exact h2
   ·omega
   ·omega
  have ea:a.num*(b.den:Int)=-((a.num.natAbs*b.den:Nat):Int):=by
   rw[iG,<-Int.neg_mul];congr 1;omega
  have eb:b.num*(a.den:Int)=-((b.num.natAbs*a.den:Nat):Int):=by
   rw[iG,<-Int.neg_mul];congr 1;omega
  rw[e1,ea,eb];generalize ((a.num.natAbs*b.den:Nat):Int)=p;generalize ((b.num.natAbs*a.den:Nat):Int)=q;unfold fM;split<;>(try split)<;>(try split)<;>(try split)<;>omega
 ·omega
 ·have h2:0<b.num:=by
   rcases cp b.num with⟨h2,e2⟩ | ⟨h2,e2⟩ | ⟨h2,e2⟩
   ·omega
   ·omega
   ·exact h2
  have ea:a.num*(b.den:Int)=((a.num.natAbs*b.den:Nat):Int):=by
   rw[iG];congr 1;omega
  have eb:b.num*(a.den:Int)=((b.num.natAbs*a.den:Nat):Int):=by
   rw[iG];congr 1;omega
  rw[e1,ea,eb,Int.one_mul]
theorem jH(a b:Rat)(A B:Nat)(ha:Fit A a)(hb:Fit B b)(h:A+B<=34359738368:=by omega):aU prog 67 [(qT a:aN),(qT b:aN)] (.ret [.one (.int .i64 (ef a b))]):=by
 refine dL func67 bI6 ?_;obtain⟨ha1,ha2⟩:=Fit.dl ha;obtain⟨hb1,hb2⟩:=Fit.dl hb;have hn1:=jQ (bL ha.1 hb.2);have hn2:=jQ (bL hb.1 ha.2);have hsa:-1<=a.num.sign/\a.num.sign<=1:=by rcases cp a.num with⟨_,e⟩ | ⟨_,e⟩ | ⟨_,e⟩<;>omega
 have hsb:-1<=b.num.sign/\b.num.sign<=1:=by rcases cp b.num with⟨_,e⟩ | ⟨_,e⟩ | ⟨_,e⟩<;>omega
 have htd:-1<=(a.num.sign-b.num.sign).tdiv 2/\(a.num.sign-b.num.sign).tdiv 2<=1:=by
  rcases cp a.num with⟨_,e⟩ | ⟨_,e⟩ | ⟨_,e⟩<;>rcases cp b.num with⟨_,e2⟩ | ⟨_,e2⟩ | ⟨_,e2⟩<;>rw[e,e2]<;>decide
 apply aA (lM a);apply aA (lM b);apply vn fC;refine vs _ rfl ?_ ?_<;>intro h3
 ·apply vn (aH (by omega) (by omega));dsimp only[aE,aF];apply vn (aH (by omega) (by omega));apply vn (pK (c:=(a.num.sign-b.num.sign).tdiv 2) (by decide) (gK));apply vn (aH (by omega) (by omega));dsimp only[aE,aF];rw[ac5 (.inl h3)];exact aL
 apply vn bj;refine vs _ rfl ?_ ?_<;>intro h10
 ·apply vn (aH (by omega) (by omega));apply vn (aH (by omega) (by omega));apply vn (pK (c:=(a.num.sign-b.num.sign).tdiv 2) (by decide) (gK));dsimp only[aE,aF];apply vn (aH (by omega) (by omega));dsimp only[aE,aF];rw[ac5 (.inr h10)];exact aL
 apply aA (lM a);apply aA (fX b);apply aA (nj _ _);apply aA (fX a);dsimp only[aE,aF];apply aA (nj _ _);apply aA (sd _ _);dsimp only[aE,aF]
 have hci:-1<=fM ((a.num.natAbs*b.den:Nat):Int) ((b.num.natAbs*a.den:Nat):Int)/\fM ((a.num.natAbs*b.den:Nat):Int) ((b.num.natAbs*a.den:Nat):Int)<=1:=by
  unfold fM;split<;>(try split)<;>omega
 rw[bf9 h10];generalize fM ((a.num.natAbs*b.den:Nat):Int) ((b.num.natAbs*a.den:Nat):Int)=c at hci|-;generalize a.num.sign=s at hsa h10|-
 apply vn (ur (c:=s*c) (by
  rcases(by omega:s=-1\/s=1)with rfl | rfl
  ·exact gK
  ·exact gK)) rfl
 exact aL
end Go.Sy
