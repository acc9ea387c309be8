/- Part. -/
import Derived.Test.YtacgmapjhpghkaaGreatDoorNa
import Derived.RangeFuncBox
import Derived.Shelf.Abstract
import Derived.WalkKit
import Derived.OwnWalkIn
import Derived.TacticsInMore
import Derived.LoopNIn
import Derived.LoopIn
set_option linter.all false
set_option maxHeartbeats 2000000
set_option maxRecDepth 100000
namespace Go.Sy
def Rm:=@Go.wpIn_rangeFunc_ownF
def su:=@Go.belowK_b
def Qv:=@Go.grownBy_setCell'
def wF:=@Go.Proofs.enters_of
open Go Go.Proofs Tryz Ord
def bx4:Tr:=cW 20 8 40 51 52 (nP 20 8 237 53 (gN 21 15 0 237 54 55 (cW 20 8 40 51 52 (fE 20 8 22 237 57 56 (ba 8 1 3 19 (qi 1 24 23))))))
def bn5:Tr:=cW 9 8 40 51 52 (nP 9 8 237 53 (gN 18 15 0 237 54 55 (cW 9 8 40 51 52 (fE 9 8 19 237 57 56 (ba 8 1 3 19 (qi 0 21 20))))))
def by4:Tr:=dw 16 0 15 237 40 41 4 (aQ 17 0 (cW 9 8 40 45 46 (nP 9 8 237 47 (au1 18 1000000000 48 (cW 9 8 40 43 44 (fE 9 8 19 237 50 49 bx4))))) bn5)
def by3:Tr:=cW 18 8 40 51 52 (nP 18 8 237 53 (gN 19 7 0 237 54 55 (cW 18 8 40 51 52 (fE 18 8 20 237 57 56 (ba 8 1 3 19 (qi 1 22 21))))))
def bq5:Tr:=cW 9 8 40 51 52 (nP 9 8 237 53 (gN 16 7 0 237 54 55 (cW 9 8 40 51 52 (fE 9 8 17 237 57 56 (ba 8 1 3 19 (qi 0 19 18))))))
def bB7:Tr:=dw 14 0 7 237 40 41 4 (aQ 15 0 (cW 9 8 40 45 46 (nP 9 8 237 47 (au1 16 1000000000 48 (cW 9 8 40 43 44 (fE 9 8 17 237 50 49 by3))))) bq5)
def bO8:Tr:=dw 8 0 11 3 23 26 4 (aQ 12 0 (fJ 1 0 8 0 40 30 31 (di 13 237 32 (fw 7 14 237 28 33 (cW 9 8 40 37 38 (nP 9 8 237 39 by4))))) (aH2 7 0 35 (aQ 13 0 (ZE 9 59 (rm 14)) (cW 9 8 40 37 38 (nP 9 8 237 39 bB7)))))
def bV6:Tr:=aq2 3 0 13 15 (GZ 5 17 40 (Om 5 (dw 8 0 6 3 19 18 0 (aQ 10 0 (aw 1 0 25 40 bO8) (ZE 9 59 (rm 11))))))
def cb8:Tr:=aw 0 0 10 40 (CL 2 11 bV6)
theorem bn2:aV prog f223 dE [.v (some 1),.v (some 1)]=cb8:=by kernel_rfl
def bn7:Tr:=aQ 23 0 (ba 21 1000000000 2 44 (gF 24 2 237 48 (cW 7 6 40 46 47 (fE 7 6 25 237 50 49 (ba 6 1 3 13 (Ni 22 1 27 26)))))) (gF 21 2 237 48 (cW 7 6 40 46 47 (fE 7 6 24 237 50 49 (ba 6 1 3 13 (Ni 22 0 26 25)))))
def bj7:Tr:=gF 16 237 2 32 (Zd 15 34 (gF 18 236 2 35 (gN 17 19 0 2 33 36 (gN 20 5 0 2 37 38 (Yx 15 40 (ju 21 0 0 2 42 bn7))))))
def bT6:Tr:=fJ 1 0 6 0 40 22 23 (di 11 237 24 (gF 12 237 236 25 (rn .mul 236 21 26 2 0 13 0 236 (fw 4 14 236 20 27 (cW 7 6 40 29 30 (nP 7 6 237 31 bj7))))))
def bq4:Tr:=aQ 18 0 (ba 16 1000000000 2 44 (gF 19 2 237 48 (cW 7 6 40 46 47 (fE 7 6 20 237 50 49 (ba 6 1 3 13 (Ni 17 1 22 21)))))) (gF 16 2 237 48 (cW 7 6 40 46 47 (fE 7 6 19 237 50 49 (ba 6 1 3 13 (Ni 17 0 21 20)))))
def bp1:Tr:=gF 11 237 2 32 (Zd 4 34 (gF 13 236 2 35 (gN 12 14 0 2 33 36 (gN 15 5 0 2 37 38 (Yx 4 40 (ju 16 0 0 2 42 bq4))))))
def bU7:Tr:=dw 6 0 3 3 13 12 0 (aQ 8 0 (aw 1 0 17 40 (dw 6 0 9 3 16 18 4 (aQ 10 0 bT6 (cW 7 6 40 29 30 (nP 7 6 237 31 bp1))))) (nS 5 0 2 52 (.retr [(W 9 0)] 7)))
def bY2:Tr:=GZ 0 11 40 (.loop 0 [(.w (.one (.c (.k (.int .u64 0))))),lK 0,lK 0,.row 0] bU7)
theorem Yf:yQ prog f244 (fun _=>none) [.lent 237 1,.v none,.v none]=bY2:=by kernel_rfl
def by1:Tr:=ZY 13 29 (aQ 14 0 (Zj 13 31 (cW 5 4 40 33 34 (fE 5 4 15 237 36 35 (ba 4 1 3 10 (qi 1 17 16))))) (cW 5 4 40 33 34 (fE 5 4 13 237 36 35 (ba 4 1 3 10 (qi 0 16 15)))))
def bl0:Tr:=ZY 8 29 (aQ 11 0 (Zj 8 31 (cW 5 4 40 33 34 (fE 5 4 12 237 36 35 (ba 4 1 3 10 (qi 1 14 13))))) (cW 5 4 40 33 34 (fE 5 4 8 237 36 35 (ba 4 1 3 10 (qi 0 13 12)))))
def bO0:Tr:=fw 7 3 237 16 17 (aw 1 0 20 40 (dw 4 0 9 3 19 21 4 (aQ 10 0 (fJ 1 0 4 0 40 24 25 (di 11 237 26 (fw 8 12 237 23 27 by1))) bl0)))
def bS3:Tr:=GZ 0 8 40 (Om 0 (dw 4 0 2 3 10 9 0 (aQ 6 0 (cW 5 4 40 13 14 (nP 5 4 237 15 bO0)) (.need (.prim [(W 3 0),(.one (.c (.k (.int .u32 0))))] none) (.binOp .neq 237 (tT 38) (.const (.int .u32 0)) 237) 4 false (.retr [(W 7 0)] 5)))))
theorem Yd:yQ prog f245 (fun _=>none) [.lent 237 1,.v none]=bS3:=by kernel_rfl
structure RB(xs ys:List Nat)(i b:Nat)(os:List Nat):Prop where
 h:jq 1000000000 xs ys 1 i 0 b os
theorem RB.init{xs:List Nat}(hx:Dg xs)(ys:List Nat):RB xs ys 0 0 xs:=⟨jq.init hx ys 1⟩
theorem RB.next{xs ys os:List Nat}{i b x y z b':Nat}(h:RB xs ys i b os)(hx:xs[i]?=some x)(hy:ys[i]?.getD 0=y)(hyB:y<1000000000)(hz:z<1000000000)(hb:b'<=1)(he:z+y+b=x+1000000000*b') :
  RB xs ys (i+1) b' (os.set i z):=by
 have:=h.h.next (by omega) (by omega) hx hy hyB hz hb (by rw[bI,dy,ed hyB];exact he);rw[bI,dy,ec hyB]at this;exact⟨this⟩
theorem RB.fin{xs ys os:List Nat}{i b:Nat}(h:RB xs ys i b os)(hle:lv ys<=lv xs)(he:b=0/\ys.length<=i\/i=xs.length/\ys.length<=xs.length):lv os+lv ys=lv xs:=by
 have h1:=h.h.eq;rw[dy,bI]at h1;rcases he with⟨rfl,hl⟩ | ⟨rfl,hl⟩
 ·rw[ee,cC,dD hl]at h1
  have e:∀l:List Nat,i<=l.length->lv l=lv (l.take i)+1000000000^i*lv (l.drop i):=fun l hl=>by
   conv=>lhs;rw[<-mW i l]
   rw[so,bL,dM hl]
  rw[e os (by rw[h.h.len];exact h.h.le),e xs h.h.le,h.h.rest];simp only[lv]at h1|-;omega
 ·rw[dD (by rw[h.h.len];omega),gH,dD hl]at h1;have h2:=DB.lt (by omega) h.h.dg;rw[h.h.len]at h2;have hb:=h.h.b1;rcases(by omega:b=0\/b=1)with rfl | rfl
  ·show val _ os+val _ ys=val _ xs;omega
  ·have hle:val 1000000000 ys<=val 1000000000 xs:=hle;omega
theorem oM{a b:Nat}(h:a<=b):(dg a).length<=(dg b).length:=kj (dV h (mA (by omega) b))
theorem OP(a b:Nat)(hab:b<=a:=by omega)(ha:0<a:=by omega)(hs:(dg a).length<1099511627776:=by omega):aW prog 223 [(mT a:aK),(mT b:aK)] (.ret [mT (a-b)]):=by
 refine eB func223 bn2 ?_;have hlen:=oM hab;have hane:dg a≠[]:=fun e=>by have:=xR.1 e;omega
 apply vn (aR eG (aJ _));dsimp only[aF,aG];refine Bn (f:=fun d:Nat=>[aC.int .u32 (d:Int)]) 0 rfl rfl rfl rfl (by omega) (by simp only[maxLen];omega) ?_;refine ao7 (xs:=dg a) (ws:=dg a) (fun _=>rfl) rfl rfl eG (by simp) (by simpa using hane) (by simp) ?_;refine Oi rfl (aJ _) ?_;refine bG {g:Nat×Nat×List Nat // RB (dg a) (dg b) g.1 g.2.1 g.2.2} (fun g=>[.one (.int .u32 g.1.2.1),.one (.int .i64 g.1.1),.rows (rT g.1.2.2)]) (fun g=>(dg a).length-g.1.1) ⟨(0,0,dg a),RB.init (kv a) _⟩ aX.rfl (fun _=>rfl) ?_;rintro⟨⟨i,c,os⟩,hI⟩;dsimp only[aF,aG]at hI|-;have hol:=hI.h.len;have hil:=hI.h.le;have hc:=hI.h.b1;have hle:lv (dg b)<=lv (dg a):=by rw[iX,iX];exact hab
 have fin:(c=0/\(dg b).length<=i\/i=(dg a).length/\(dg b).length<=(dg a).length)->lv os=a-b:=fun h=>by
  have:=hI.fin hle h;rw[iX,iX]at this;omega
 apply vn an;refine vs _ rfl ?_ ?_<;>intro h6
 ·have hx:(dg a)[i]?=some ((dg a)[i]'(by omega)):=bB (by omega);generalize (dg a)[i]'(by omega)=x at hx;have hxB:=(kv a).get hx;have ho:=hI.h.get hx;apply vn (aR eG (aJ _));apply vn an;refine vs _ rfl ?_ ?_<;>intro h9
  ·have hy:(dg b)[i]?=some ((dg b)[i]'(by omega)):=bB (by omega);generalize (dg b)[i]'(by omega)=y at hy;have hyB:=(kv b).get hy;apply vn (aN eG (by omega) (by omega) hy);dsimp only[aF,aG];apply vn (bO wJ);apply vn mq;refine bq rfl rfl (by omega) (by first | omega | (rw[bH];omega)) ?_;refine mL rfl rfl (by omega) (by omega) ho rfl ?_;apply vn an;dsimp only[aF,aG];refine vs _ rfl ?_ ?_<;>intro h16
   ·refine bq rfl rfl (by omega) (by first | omega | (rw[bH];omega)) ?_;refine mL rfl rfl (by omega) (by omega) ho rfl ?_;apply vn mq;refine bq rfl rfl (by omega) (by first | omega | (rw[bH];omega)) ?_;refine iD (d':=x+1000000000) rfl rfl (by omega) (by omega) ho rfl ?_;refine bq rfl rfl (by omega) (by first | omega | (rw[bH];omega)) ?_;refine Vm (d:=x+1000000000) rfl rfl (by omega) (by omega) (iV (by omega)) (.inr rfl) rfl ?_;dsimp only[aF,aG];apply vn my;refine bq rfl rfl (by omega) (by first | omega | (rw[bH];omega)) ?_;refine iD (d:=x+1000000000) (d':=x+1000000000-(y+c)) rfl rfl (by omega) (by omega) (iV (by omega)) ?_ ?_
    ·show[aC.int .u32 _]=[aC.int .u32 _]
     congr 2;omega
    rw[Nk];apply vn (aB (by omega) (by omega));dsimp only[aF,aG];exact af rfl ⟨⟨(i+1,1,os.set i (x+1000000000-(y+c))),hI.next (b':=1) (z:=x+1000000000-(y+c)) hx (by rw[hy];rfl) hyB (by omega) (by omega) (by omega)⟩,aX.rfl,by show(dg a).length-(i+1)<(dg a).length-i;omega⟩
   refine bq rfl rfl (by omega) (by first | omega | (rw[bH];omega)) ?_;refine mL rfl rfl (by omega) (by omega) ho rfl ?_;apply vn my;refine bq rfl rfl (by omega) (by first | omega | (rw[bH];omega)) ?_;refine iD (d':=x-(y+c)) rfl rfl (by omega) (by omega) ho ?_ ?_
   ·show[aC.int .u32 _]=[aC.int .u32 _]
    congr 2;omega
   apply vn (aB (by omega) (by omega));dsimp only[aF,aG];exact af rfl ⟨⟨(i+1,0,os.set i (x-(y+c))),hI.next (b':=0) (z:=x-(y+c)) hx (by rw[hy];rfl) hyB (by omega) (by omega) (by omega)⟩,aX.rfl,by show(dg a).length-(i+1)<(dg a).length-i;omega⟩
  apply vn cF;refine vs _ rfl ?_ ?_<;>intro h37
  ·apply aA (jx os hI.h.dg);dsimp only[aF,aG];refine aM ?_;rw[fin (.inl (by omega))];rfl
  have hnone:(dg b)[i]?=none:=eX.2 (by omega);refine bq rfl rfl (by omega) (by first | omega | (rw[bH];omega)) ?_;refine mL rfl rfl (by omega) (by omega) ho rfl ?_;apply vn an;refine vs _ rfl ?_ ?_<;>intro h43
  ·refine bq rfl rfl (by omega) (by first | omega | (rw[bH];omega)) ?_;refine mL rfl rfl (by omega) (by omega) ho rfl ?_;apply vn mq;dsimp only[aF,aG];refine bq rfl rfl (by omega) (by first | omega | (rw[bH];omega)) ?_;refine iD (d':=x+1000000000) rfl rfl (by omega) (by omega) ho rfl ?_;refine bq rfl rfl (by omega) (by first | omega | (rw[bH];omega)) ?_;refine Vm (d:=x+1000000000) rfl rfl (by omega) (by omega) (iV (by omega)) (.inr rfl) rfl ?_;apply vn my;refine bq rfl rfl (by omega) (by first | omega | (rw[bH];omega)) ?_;refine iD (d:=x+1000000000) (d':=x+1000000000-c) rfl rfl (by omega) (by omega) (iV (by omega)) ?_ ?_
   ·show[aC.int .u32 _]=[aC.int .u32 _]
    congr 2;omega
   rw[Nk];dsimp only[aF,aG];apply vn (aB (by omega) (by omega));dsimp only[aF,aG];exact af rfl ⟨⟨(i+1,1,os.set i (x+1000000000-c)),hI.next (b':=1) (z:=x+1000000000-c) (y:=0) hx (by rw[hnone];rfl) (by omega) (by omega) (by omega) (by omega)⟩,aX.rfl,by show(dg a).length-(i+1)<(dg a).length-i;omega⟩
  refine bq rfl rfl (by omega) (by first | omega | (rw[bH];omega)) ?_;refine mL rfl rfl (by omega) (by omega) ho rfl ?_;apply vn my;refine bq rfl rfl (by omega) (by first | omega | (rw[bH];omega)) ?_;refine iD (d':=x-c) rfl rfl (by omega) (by omega) ho ?_ ?_
  ·show[aC.int .u32 _]=[aC.int .u32 _]
   congr 2;omega
  apply vn (aB (by omega) (by omega));dsimp only[aF,aG];exact af rfl ⟨⟨(i+1,0,os.set i (x-c)),hI.next (b':=0) (z:=x-c) (y:=0) hx (by rw[hnone];rfl) (by omega) (by omega) (by omega) (by omega)⟩,aX.rfl,by show(dg a).length-(i+1)<(dg a).length-i;omega⟩
 apply aA (jx os hI.h.dg);dsimp only[aF,aG];refine aM ?_;rw[fin (.inr ⟨by omega,hlen⟩)];rfl
theorem YG{b:Nat}{p:Prop}[Decidable p](h:b=if p then 1 else 0):decide ((b:Int)≠0)=decide p:=by
 subst h;by_cases hp:p<;>simp[hp]
theorem WD(xs ys:List Nat)(t:Nat)(hx:Dg xs)(hy:Dg ys)(ht:t<1000000000)(hl:ys.length<xs.length)(hs:xs.length<1099511627776):lf prog 244 237 1 [] [(.one (.slice 1 (rT ys)):aK),(.one (.int .u64 t):aK)] (rT xs) [.one (.bool (decide (lv xs<t*lv ys)))] (rT (pd 1000000000 xs.length (lv xs+1000000000^xs.length*(if lv xs<t*lv ys then 1 else 0)-t*lv ys))):=by
 refine pB (a1:=[]) (a2:=[.v none,.v none]) (i1:=[]) (i2:=[.v (.one (.slice 1 (rT ys))),.v (.one (.int .u64 t))]) (hints:=(fun _=>none)) fo (by kernel_rfl) func244 trivial ⟨rfl,rfl,trivial⟩ (by kernel_rfl) ?_ ?_ ?_ ?_
 ·first | (simp[rT];done) | (intro t ht;obtain⟨a,_,rfl⟩:=dn.1 ht;rfl)
 ·first | (simp[rT];done) | (intro t ht;obtain⟨a,_,rfl⟩:=dn.1 ht;rfl)
 ·first | (simp[rT];done) | (intro t ht;obtain⟨a,_,rfl⟩:=dn.1 ht;rfl)
 dsimp only[aF,aG];rw[Yf];dsimp only[List.map,In.env,aF,aG];refine Oi rfl (aJ _) ?_;refine bG {g:Nat×Nat×Nat×List Nat // jq 1000000000 xs ys t g.1 g.2.1 g.2.2.1 g.2.2.2} (fun g=>[.one (.int .u64 g.1.2.1),.one (.int .i64 g.1.2.2.1),.one (.int .i64 g.1.1),.rows (rT g.1.2.2.2)]) (fun g=>xs.length-g.1.1) ⟨(0,0,0,xs),jq.init hx _ _⟩ aX.rfl (fun _=>rfl) ?_;rintro⟨⟨i,c,b,os⟩,hI⟩;dsimp only[aF,aG]at hI|-;have hol:=hI.len;have hil:=hI.le;have hc:=hI.c1;have hb:=hI.b1;apply vn an;refine vs _ rfl ?_ ?_<;>intro h3
 ·have hgx:xs[i]?=some (xs[i]'(by omega)):=bB (by omega);generalize xs[i]'(by omega)=x at hgx;have hxB:=hx.get hgx;have ho:=hI.get hgx;apply vn (aR eG (aJ _));apply vn an;refine vs _ rfl ?_ ?_<;>intro h6
  ·have hgy:ys[i]?=some (ys[i]'(by omega)):=bB (by omega);generalize ys[i]'(by omega)=y at hgy;have hyB:=hy.get hgy;have hty:t*y<=999999999*999999999:=eD (by omega) (by omega);obtain⟨w,hw⟩:∃w,c+t*y=w:=⟨_,rfl⟩
   have hwB:w<1000000000*1000000000:=by omega
   have hm:∀z b':Nat,z<1000000000->b'<=1->z+w%1000000000+b=x+1000000000*b'->jq 1000000000 xs ys t (i+1) (w/1000000000) b' (os.set i z):=fun z b' h1 h2 h3=>by
    have:=hI.next (by omega) ht hgx (by rw[hgy];rfl) hyB h1 h2 (by rw[hw];exact h3);rw[hw]at this;exact this
   apply vn (aN eG (by omega) (by omega) hgy);dsimp only[aF,aG];apply vn (bO wJ);apply vn (rM ⟨_,ia⟩ jP);apply vn (uz (c:=((t*y:Nat):Int)) (by rw[<-iI,rN]<;>omega)) rfl;apply vn (fF (c:=(w:Int)) (by rw[rN]<;>omega)) rfl;dsimp only[aF,aG];refine bq rfl rfl (by omega) (by first | omega | (rw[bH];omega)) ?_;refine mL rfl rfl (by omega) (by omega) ho rfl ?_;apply vn (vB ⟨_,ia⟩ un2);apply vn mf;apply vn (vB ⟨_,jP⟩ un2);dsimp only[aF,aG];apply vn (aO (by omega) (by omega));apply vn (aO (by omega) (by omega));apply vn LM;apply vn an;dsimp only[aF,aG];refine vs _ rfl ?_ ?_<;>intro h21
   ·apply vn (aB (by omega) (by omega));apply vn (ox ⟨_,un2⟩ ia);refine bq rfl rfl (by omega) (by first | omega | (rw[bH];omega)) ?_;refine iD (d':=x+1000000000-w%1000000000-b) rfl rfl (by omega) (by omega) ho ?_ ?_
    ·show[aC.int .u32 _]=[aC.int .u32 _]
     congr 2;omega
    apply vn (aB (by omega) (by omega));dsimp only[aF,aG];exact af rfl ⟨⟨(i+1,w/1000000000,1,os.set i (x+1000000000-w%1000000000-b)),hm _ 1 (by omega) (by omega) (by omega)⟩,aX.rfl,by show xs.length-(i+1)<xs.length-i;omega⟩
   apply vn (ox ⟨_,un2⟩ ia);refine bq rfl rfl (by omega) (by first | omega | (rw[bH];omega)) ?_;refine iD (d':=x-w%1000000000-b) rfl rfl (by omega) (by omega) ho ?_ ?_
   ·show[aC.int .u32 _]=[aC.int .u32 _]
    congr 2;omega
   apply vn (aB (by omega) (by omega));dsimp only[aF,aG];exact af rfl ⟨⟨(i+1,w/1000000000,0,os.set i (x-w%1000000000-b)),hm _ 0 (by omega) (by omega) (by omega)⟩,aX.rfl,by show xs.length-(i+1)<xs.length-i;omega⟩
  have hnone:ys[i]?=none:=eX.2 (by omega)
  have hm:∀z b':Nat,z<1000000000->b'<=1->z+c%1000000000+b=x+1000000000*b'->jq 1000000000 xs ys t (i+1) (c/1000000000) b' (os.set i z):=fun z b' h1 h2 h3=>by
   have:=hI.next (y:=0) (by omega) ht hgx (by rw[hnone];rfl) (by omega) h1 h2 (by rw[ee,cC];exact h3);rw[ee,cC]at this;exact this
  refine bq rfl rfl (by omega) (by first | omega | (rw[bH];omega)) ?_;refine mL rfl rfl (by omega) (by omega) ho rfl ?_;apply vn (vB ⟨_,ia⟩ un2);apply vn mf;apply vn (vB ⟨_,jP⟩ un2);dsimp only[aF,aG];apply vn (aO (by omega) (by omega));apply vn (aO (by omega) (by omega));apply vn LM;apply vn an;dsimp only[aF,aG];refine vs _ rfl ?_ ?_<;>intro h42
  ·apply vn (aB (by omega) (by omega));apply vn (ox ⟨_,un2⟩ ia);refine bq rfl rfl (by omega) (by first | omega | (rw[bH];omega)) ?_;refine iD (d':=x+1000000000-c%1000000000-b) rfl rfl (by omega) (by omega) ho ?_ ?_
   ·show[aC.int .u32 _]=[aC.int .u32 _]
    congr 2;omega
   apply vn (aB (by omega) (by omega));dsimp only[aF,aG];exact af rfl ⟨⟨(i+1,c/1000000000,1,os.set i (x+1000000000-c%1000000000-b)),hm _ 1 (by omega) (by omega) (by omega)⟩,aX.rfl,by show xs.length-(i+1)<xs.length-i;omega⟩
  apply vn (ox ⟨_,un2⟩ ia);refine bq rfl rfl (by omega) (by first | omega | (rw[bH];omega)) ?_;refine iD (d':=x-c%1000000000-b) rfl rfl (by omega) (by omega) ho ?_ ?_
  ·show[aC.int .u32 _]=[aC.int .u32 _]
   congr 2;omega
  apply vn (aB (by omega) (by omega));dsimp only[aF,aG];exact af rfl ⟨⟨(i+1,c/1000000000,0,os.set i (x-c%1000000000-b)),hm _ 0 (by omega) (by omega) (by omega)⟩,aX.rfl,by show xs.length-(i+1)<xs.length-i;omega⟩
 apply vn gW;dsimp only[aF,aG];have hie:i=xs.length:=by omega
 subst hie;obtain⟨hb1,ho1⟩:=hI.fin (by omega) hx hl;rw[hb1]at ho1;exact mC (by rw[<-show rT os=rT _ from congrArg rT ho1];rfl) (congrArg (fun q=>[aK.one (.bool q)]) (YG hb1))
structure GQ(xs ys:List Nat)(i c:Nat)(os:List Nat):Prop where
 le:i<=xs.length
 c1:c<=1
 len:os.length=xs.length
 dg:DB 1000000000 os
 rest:os.drop i=xs.drop i
 eq:lv (os.take i)+1000000000^i*c=lv (xs.take i)+lv (ys.take i)
theorem GQ.init{xs:List Nat}(hx:Dg xs)(ys:List Nat):GQ xs ys 0 0 xs:=⟨cL _,by omega,rfl,hx,rfl,by simp[lv,val]⟩
theorem GQ.get{xs ys os:List Nat}{i c x:Nat}(h:GQ xs ys i c os)(hx:xs[i]?=some x):os[i]?=some x:=by
 have:=congrArg (fun l=>l[0]?) h.rest;simp only[er,cC]at this;rw[this,hx]
theorem GQ.next{xs ys os:List Nat}{i c x y c' z:Nat}(h:GQ xs ys i c os)(hx:xs[i]?=some x)(hy:ys[i]?.getD 0=y)(hz:z<1000000000)(hc:c'<=1)(he:z+1000000000*c'=x+c+y):GQ xs ys (i+1) c' (os.set i z):=by
 have hi:i<xs.length:=(bg.1 hx).1;refine⟨hi,hc,by rw[bH];exact h.len,h.dg.set hz,?_,?_⟩
 ·rw[zq (by omega)];have:=congrArg (List.drop 1) h.rest
  simpa[fP]using this
 ·have h1:=h.eq;have h2:=congrArg (fun q=>1000000000^i*q) he;have e1:lv ((os.set i z).take (i+1))=lv (os.take i)+1000000000^i*z:=mU (by rw[h.len];exact hi);have e2:lv (xs.take (i+1))=lv (xs.take i)+1000000000^i*x:=gz hx;have e3:lv (ys.take (i+1))=lv (ys.take i)+1000000000^i*y:=kH hy;rw[e1,e2,e3,bW,eP];simp only[eY]at h2;omega
theorem GQ.fin{xs ys os:List Nat}{c:Nat}(h:GQ xs ys xs.length c os)(hl:ys.length<xs.length) :
  c=(if 1000000000^xs.length<=lv xs+lv ys then 1 else 0)/\os=pd 1000000000 xs.length (lv xs+lv ys-1000000000^xs.length*c):=by
 have h1:=h.eq;rw[dD (by rw[h.len];omega),gH,dD (by omega)]at h1;have h2:lv os<_:=DB.lt (by omega) h.dg;rw[h.len]at h2;have hc:=h.c1
 constructor
 ·split<;>rcases(by omega:c=0\/c=1)with rfl | rfl<;>omega
 ·refine TX (by omega) h.dg h.len ?_;show lv os=_;omega
theorem Ya(xs ys:List Nat)(hx:Dg xs)(hy:Dg ys)(hl:ys.length<xs.length)(hs:xs.length<1099511627776):lf prog 245 237 1 [] [(.one (.slice 1 (rT ys)):aK)] (rT xs) [.one (.bool (decide (1000000000^xs.length<=lv xs+lv ys)))] (rT (pd 1000000000 xs.length (lv xs+lv ys-1000000000^xs.length*(if 1000000000^xs.length<=lv xs+lv ys then 1 else 0)))):=by
 refine pB (a1:=[]) (a2:=[.v none]) (i1:=[]) (i2:=[.v (.one (.slice 1 (rT ys)))]) (hints:=(fun _=>none)) fo (by kernel_rfl) func245 trivial ⟨rfl,trivial⟩ (by kernel_rfl) ?_ ?_ ?_ ?_
 ·first | (simp[rT];done) | (intro t ht;obtain⟨a,_,rfl⟩:=dn.1 ht;rfl)
 ·first | (simp[rT];done) | (intro t ht;obtain⟨a,_,rfl⟩:=dn.1 ht;rfl)
 ·first | (simp[rT];done) | (intro t ht;obtain⟨a,_,rfl⟩:=dn.1 ht;rfl)
 dsimp only[aF,aG];rw[Yd];dsimp only[List.map,In.env,aF,aG];refine Oi rfl (aJ _) ?_;refine bG {g:Nat×Nat×List Nat // GQ xs ys g.1 g.2.1 g.2.2} (fun g=>[.one (.int .u32 g.1.2.1),.one (.int .i64 g.1.1),.rows (rT g.1.2.2)]) (fun g=>xs.length-g.1.1) ⟨(0,0,xs),GQ.init hx _⟩ aX.rfl (fun _=>rfl) ?_;rintro⟨⟨i,c,os⟩,hI⟩;dsimp only[aF,aG]at hI|-;have hol:=hI.len;have hil:=hI.le;have hc:=hI.c1;apply vn an;refine vs _ rfl ?_ ?_<;>intro h3
 ·have hgx:xs[i]?=some (xs[i]'(by omega)):=bB (by omega);generalize xs[i]'(by omega)=x at hgx;have hxB:=hx.get hgx;have ho:=hI.get hgx;refine bq rfl rfl (by omega) (by first | omega | (rw[bH];omega)) ?_;refine mL rfl rfl (by omega) (by omega) ho rfl ?_;apply vn mq;apply vn (aR eG (aJ _));dsimp only[aF,aG];apply vn an;refine vs _ rfl ?_ ?_<;>intro h9
  ·have hgy:ys[i]?=some (ys[i]'(by omega)):=bB (by omega);generalize ys[i]'(by omega)=y at hgy;have hyB:=hy.get hgy;apply vn (aN eG (by omega) (by omega) hgy);apply vn (bO wJ);apply vn mq;dsimp only[aF,aG];apply vn jy;refine vs _ rfl ?_ ?_<;>intro h14
   ·apply vn my;refine bq rfl rfl (by omega) (by first | omega | (rw[bH];omega)) ?_;refine iD (d':=x+c+y-1000000000) rfl rfl (by omega) (by omega) ho ?_ ?_
    ·show[aC.int .u32 _]=[aC.int .u32 _]
     congr 2;omega
    apply vn (aB (by omega) (by omega));dsimp only[aF,aG];exact af rfl ⟨⟨(i+1,1,os.set i (x+c+y-1000000000)),hI.next (z:=x+c+y-1000000000) (c':=1) (y:=y) hgx (by rw[hgy];rfl) (by omega) (by omega) (by omega)⟩,aX.rfl,by show xs.length-(i+1)<xs.length-i;omega⟩
   refine bq rfl rfl (by omega) (by first | omega | (rw[bH];omega)) ?_;refine iD (d':=x+c+y) rfl rfl (by omega) (by omega) ho ?_ ?_
   ·show[aC.int .u32 _]=[aC.int .u32 _]
    congr 2
   apply vn (aB (by omega) (by omega));dsimp only[aF,aG];exact af rfl ⟨⟨(i+1,0,os.set i (x+c+y)),hI.next (z:=x+c+y) (c':=0) (y:=y) hgx (by rw[hgy];rfl) (by omega) (by omega) (by omega)⟩,aX.rfl,by show xs.length-(i+1)<xs.length-i;omega⟩
  have hnone:ys[i]?=none:=eX.2 (by omega);apply vn jy;refine vs _ rfl ?_ ?_<;>intro h25
  ·apply vn my;refine bq rfl rfl (by omega) (by first | omega | (rw[bH];omega)) ?_;refine iD (d':=x+c-1000000000) rfl rfl (by omega) (by omega) ho ?_ ?_
   ·show[aC.int .u32 _]=[aC.int .u32 _]
    congr 2;omega
   apply vn (aB (by omega) (by omega));dsimp only[aF,aG];exact af rfl ⟨⟨(i+1,1,os.set i (x+c-1000000000)),hI.next (z:=x+c-1000000000) (c':=1) (y:=0) hgx (by rw[hnone];rfl) (by omega) (by omega) (by omega)⟩,aX.rfl,by show xs.length-(i+1)<xs.length-i;omega⟩
  refine bq rfl rfl (by omega) (by first | omega | (rw[bH];omega)) ?_;refine iD (d':=x+c) rfl rfl (by omega) (by omega) ho ?_ ?_
  ·show[aC.int .u32 _]=[aC.int .u32 _]
   congr 2
  apply vn (aB (by omega) (by omega));dsimp only[aF,aG];exact af rfl ⟨⟨(i+1,0,os.set i (x+c)),hI.next (z:=x+c) (c':=0) (y:=0) hgx (by rw[hnone];rfl) (by omega) (by omega) (by omega)⟩,aX.rfl,by show xs.length-(i+1)<xs.length-i;omega⟩
 apply vn gW;dsimp only[aF,aG];have hie:i=xs.length:=by omega
 subst hie;obtain⟨hb1,ho1⟩:=hI.fin hl;rw[hb1]at ho1;exact mC (by rw[<-show rT os=rT _ from congrArg rT ho1];rfl) (congrArg (fun q=>[aK.one (.bool q)]) (YG hb1))
def br5:Tr:=oW 52 0 120 (aQ 55 0 (.need (.rop 54 237 1 (some ((.u 27 0),(.u 47 0))) [] [(W 14 0)] [none]) (.call ⟨.value (.func 245),#[(tT 124),(tT 125)],#[40,40]⟩) 4 true (.need (.prim [(W 53 0),(.one (.c (.k (.int .u64 1))))] none) (.binOp .sub 236 (tT 122) (.const (.int .u64 1)) 236) 236 false (tn 1 56 58 57))) (gF 53 236 237 129 (cW 28 27 40 127 128 (fE 28 27 56 237 131 130 (fS 27 1 77 (uX 0 58 57 54))))))
def bx0:Tr:=.need (.rop 29 237 1 (some ((.u 27 0),(.u 47 0))) [] [(W 14 0),(W 45 0)] [none]) (.call ⟨.value (.func 244),#[(tT 116),(tT 117),(tT 118)],#[40,40,236]⟩) 4 true (aQ 50 0 (.loop 1 [(.w (.one (.c (.k (.bool false))))),lV 45 0,.row 51] br5) (gF 45 236 237 129 (cW 28 27 40 127 128 (fE 28 27 52 237 131 130 (fS 27 1 77 (uX 0 54 53 51))))))
def bo9:Tr:=rn .quo 236 96 102 39 0 43 0 236 (.need (.prim [(W 44 0),(.one (.c (.k (.int .u64 999999999))))] none) (.call ⟨.builtin .min,#[(tT 103),(.const (.int .u64 999999999))],#[236,236]⟩) 236 false (fw 27 15 3 107 108 (ba 46 1 3 109 (fw 27 15 3 111 112 (ba 48 1 3 113 (.need (.view 29 (.u 27 0) (.u 47 0) (.u 49 0)) (.slice 40 (tT 105) (some (tT 106)) (some (tT 110)) (some (tT 114))) 40 false bx0))))))
def bA4:Tr:=nP 29 36 237 92 (gF 37 237 236 93 (fw 34 38 236 86 94 (fS 15 1 98 (fJ 14 0 40 0 40 97 99 (di 41 237 100 (gF 42 237 236 101 bo9))))))
def bC8:Tr:=cW 29 31 40 79 82 (nP 29 31 237 83 (gF 32 237 236 84 (aG1 33 85 (fw 27 15 3 88 89 (fS 35 1 90 (cW 29 36 40 87 91 bA4))))))
def bu5:Tr:=.loop 0 [lV 26 0,.row 24,.row 21] (nL 27 0 75 (aQ 30 0 (fw 27 15 3 80 81 bC8) (Wg 29 133 (Th 31 13 134 135 (Wg 28 139 (.ret [(G1 34),(G1 32)]))))))
def bl8:Tr:=ow 162 0 0 13 62 63 (aq2 18 19 61 65 (GZ 21 67 40 (gN 22 15 0 3 68 69 (CL 23 70 (GZ 24 72 40 (fS 25 1 73 bu5))))))
def bH2:Tr:=gF 11 237 236 47 (oy 206 12 1 48 236 42 (ow 162 1 0 13 50 51 (aw 14 0 54 40 (aw 0 0 57 40 (ba 16 1 3 58 (CL 17 59 bl8))))))
def bL0:Tr:=aQ 5 0 (rh 1 0 0 40 32 (di 6 237 33 (gS 243 [(G1 0),(W 7 0)] [(some 1),(some 1)] [30,34] [42,237] 249 true (.ret [(G1 8),(G1 9)])))) (aw 1 0 41 40 (fS 6 1 42 (fJ 1 0 7 0 40 39 43 (di 8 237 44 (au1 9 1 45 (.need (.prim [(.one (.c (.k (.int .u32 1000000000)))),(W 10 0)] none) (.binOp .quo 237 (.const (.int .u32 1000000000)) (tT 46) 237) 237 false bH2))))))
def bS9:Tr:=gS 164 [(G1 0),(G1 1)] [none] [19,20] [42,42] 3 true (ju 2 0 0 3 21 (aQ 3 0 (.ret [(.agg [tN]),(G1 0)]) (aw 1 0 27 40 (gQ 4 0 1 3 28 bL0))))
theorem av8:aV prog f222 dE [.v (some 1),.v (some 1)]=bS9:=by kernel_rfl
theorem rJ{a b:Int}:fA a b<0↔a<b:=by unfold fA;split<;>(try split)<;>omega
theorem ax8{n:Nat}(h:n=0):aC.Sub (.exact (.slice none 0 0)) (dT n):=by
 subst h;have:dg 0=[]:=dN _;rw[dT,this];exact aC.Sub.nil
theorem uF{n:Nat}(h0:0<n:=by omega)(h:n<1000000000:=by omega):dg n=[n]:=by
 rw[dg,fR,ed h,ec h,dN]
theorem CN{n k:Nat}(h:n<1000000000^k):(dg n).length<=k:=kj h
theorem Mn(n:Nat):n<1000000000^(dg n).length:=mA (by omega) n
theorem ao2{n:Nat}(h:n≠0:=by omega):1000000000^((dg n).length-1)<=n:=iA (by omega) h
theorem ar0{n i:Nat}(h:i<(dg n).length:=by omega):(dg n)[i]?=some (n/1000000000^i%1000000000):=by
 have e:(dg n)[i]?=(pd 1000000000 (dg n).length n)[i]?:=congrArg (fun l:List Nat=>l[i]?) (Zq n);rw[e,Cf _ h]
theorem UT{n:Nat}(h:0<n):1000000000^(n-1)*1000000000=1000000000^n:=by
 obtain⟨k,rfl⟩:∃k,n=k+1:=⟨n-1,by omega⟩
 rw[kU,bW]
theorem bD3{r1 r2 vt:Nat}(h1:r1<1000000000)(h2:r2<1000000000):(r1*1000000000+r2)/vt<1000000000000000000:=
 dV (qX _ _) (by omega)
theorem aq5(q:Nat):min (q:Int) 999999999=((min q 999999999:Nat):Int):=by omega
theorem Yj{n:Nat}(h:n<1000000000):(n:Int)<4294967296:=by omega
theorem ap4{n:Nat}(h:n<1000000000000000000):(n:Int)<18446744073709551616:=by omega
theorem oZ(n:Nat):(0:Int)<=(n:Int):=Int.natCast_nonneg _
theorem bj0(i:Nat):((i+1:Nat):Int)-1-1=(i:Int)-1:=by omega
theorem bA5{P:Program}{T U ty:Nat}{x y:Operand}{a b:Nat}{a':Int}(ha':a'=a)(hb:0<b)(hc:(a/b:Nat)<1000000000000000000):ai P (.binOp .quo T x y U) ty [.one (.int .u64 a'),.one (.int .u64 b)] (.one (.int .u64 ((a/b:Nat):Int))):=by
 subst ha';exact pJ (by omega) (by rw[oq (oZ _),<-Au,rN (oZ _) (ap4 hc)])
theorem aW1(a b:Nat)(hb0:0<b)(hb:b<1000000000)(hs:(dg a).length<549755813888):aW prog 222 [(mT a:aK),(mT b:aK)] (.ret [mT (a/b),mT (a%b)]):=by
 refine eB func222 av8 ?_;have e1:=uF hb0 hb;apply aA (sM a b (by rw[e1];simp;omega)) rfl;apply vn an;dsimp only[aF,aG];rw[show decide (fA (a:Int) (b:Int)<0)=decide (a<b) by rw[jZ,rJ];omega];refine vs _ rfl ?_ ?_<;>intro h2
 ·refine jG ⟨⟨ax8 (ec h2),trivial⟩,⟨?_,trivial⟩,trivial⟩;rw[ed h2];exact aC.Sub.same
 apply vn (aR eG (aJ _));apply vn cF;refine vs _ rfl ?_ ?_<;>intro h6
 ·apply vn (aN eG (by omega) (by omega) (show(dg b)[0]?=some b by rw[e1];rfl)) rfl;apply vn (bO wJ);dsimp only[aF,aG];apply aA (RM a b hb0 hb);exact aM
 exact absurd (by rw[e1];simp) h6
structure Ub(S V L m n:Nat)(os:List Nat)(R:Nat):Prop where
 le:n<=m
 len:os.length=m
 dg:Dg os
 eq:S=R+V*1000000000^n*lv (os.drop n)
 lt:R/1000000000^n<V
 fit:R<1000000000^L
theorem Ub.next{S V L m n R g:Nat}{os:List Nat}(h:Ub S V L m (n+1) os R)(hV:0<V)(hg:g=R/1000000000^n/V) :
  Ub S V L m n (os.set n g) (R%1000000000^n+1000000000^n*(R/1000000000^n%V)):=by
 obtain⟨h1,h2,h3,h4⟩:=Hd (B:=1000000000) (by omega) hV h.eq h.lt;have hn:=h.le;have hlen:=h.len;subst hg;refine⟨by omega,by rw[bH];exact hlen,h.dg.set h2,?_,h4,?_⟩
 ·rw[QY (x:=R/1000000000^n/V) (by rw[iV (by omega)]),zq (by omega)];exact h3
 ·refine dV ?_ h.fit;have:=lh R (1000000000^n);have h5:=dF (1000000000^n) (sC (R/1000000000^n) V);omega
def gbv(W X V:Nat)(p:Bool×Nat):Nat:=if p.1 then X%V else X+W-p.2*V
theorem bD2{R i nv:Nat}(hnv:0<nv)(h:R/1000000000^(i+nv)<1000000000):R/1000000000^(i+nv)%1000000000*1000000000+R/1000000000^(i+nv-1)%1000000000=R/1000000000^i/1000000000^(nv-1):=by
 rw[ed h,mG,<-bz,show i+(nv-1)=i+nv-1 by omega]
 have e:R/1000000000^(i+nv)=R/1000000000^(i+nv-1)/1000000000:=by
  rw[mG,<-bW];congr 2;omega
 rw[e];have:=Pm (R/1000000000^(i+nv-1)) 1000000000;omega
theorem ad0{b s top:Nat}(hs0:0<s)(hs:s*(top+1)<=1000000000)(htop:top=b/1000000000^((dg b).length-1))(hb:b≠0:=by omega):(dg (b*s)).length=(dg b).length:=by
 have hp:0<1000000000^((dg b).length-1):=dZ (by omega)
 have hl:0<(dg b).length:=by
  rcases ic (dg b).length with h | h
  ·exact(hb (xR.1 (eO h))).elim
  ·exact h
 apply we
 ·apply CN
  have h1:b<(top+1)*1000000000^((dg b).length-1):=by
   rw[htop,bo];exact ZD b hp
  calc b*s<(top+1)*1000000000^((dg b).length-1)*s:=sS h1 hs0
   _=s*(top+1)*1000000000^((dg b).length-1):=by simp only[bo,ma,eP]
   _<=1000000000*1000000000^((dg b).length-1):=bu _ hs
   _=1000000000^(dg b).length:=by rw[bo,<-bW];congr 1;omega
 ·exact oM (mH b hs0)
theorem Py(a b:Nat)(hb0:0<b)(hs:(dg a).length+(dg b).length<274877906944:=by omega):aW prog 222 [(mT a:aK),(mT b:aK)] (.ret [mT (a/b),mT (a%b)]):=by
 refine eB func222 av8 ?_;apply aA (sM a b);apply vn an;dsimp only[aF,aG];rw[show decide (fA (a:Int) (b:Int)<0)=decide (a<b) by rw[jZ,rJ];omega];refine vs _ rfl ?_ ?_<;>intro h2
 ·refine jG ⟨⟨ax8 (ec h2),trivial⟩,⟨?_,trivial⟩,trivial⟩;rw[ed h2];exact aC.Sub.same
 have hbl:0<(dg b).length:=by
  rcases ic (dg b).length with h | h
  ·exact(Nat.ne_of_gt hb0 (xR.1 (eO h))).elim
  ·exact h
 have hlen:=oM (wN h2);apply vn (aR eG (aJ _));apply vn cF;refine vs _ rfl ?_ ?_<;>intro h6
 ·have hb:b<1000000000:=by
   have:=Mn b;rw[show(dg b).length=1 by omega]at this;omega
  have e1:=uF hb0 hb;apply vn (aN eG (by omega) (by omega) (show(dg b)[0]?=some b by rw[e1];rfl)) rfl;apply vn (bO wJ);dsimp only[aF,aG];apply aA (RM a b hb0 hb);exact aM
 obtain⟨top,htop⟩:∃t,(dg b)[(dg b).length-1]?=some t:=⟨_,bB (by omega)⟩
 have htB:=(kv b).get htop
 have htv:top=b/1000000000^((dg b).length-1):=by
  have h1:=ar0 (n:=b) (i:=(dg b).length-1);rw[htop]at h1;simp only[aU]at h1;rw[h1,ed];rw[jl (dZ (by omega)),bo,UT hbl];exact Mn b
 have ht0:0<top:=by
  rw[htv];exact mO ao2 (dZ (by omega))
 obtain⟨s,hs'⟩:∃s,1000000000/(top+1)=s:=⟨_,rfl⟩
 have hsle:s*(top+1)<=1000000000:=by rw[<-hs'];exact pb _ _
 have hs0:0<s:=by rw[<-hs'];exact mO (by omega) (by omega)
 have hsB:s<1000000000:=by
  rw[<-hs'];exact qR (by omega) (by omega)
 have hvl:=ad0 hs0 hsle htv;apply vn (aR eG (aJ _));apply vn (aO (by omega) (by omega));apply vn (aN eG (by omega) (by omega) htop);apply vn (bO wJ);dsimp only[aF,aG];apply vn mq;dsimp only[aF,aG];apply vn (pJ (c:=(s:Int)) (by omega) (by rw[oq (by omega),show((1000000000:Int)/((top:Int)+1))=((1000000000/(top+1):Nat):Int) by simp,hs',yG]<;>omega)) rfl;apply vn (rM ⟨_,ia⟩ jP);apply aA (oH s);apply aA (oA b s (by rw[uF hs0 hsB];simp;omega)) rfl;obtain⟨V,hV⟩:∃V,b*s=V:=⟨_,rfl⟩
 obtain⟨S,hS⟩:∃S,a*s=S:=⟨_,rfl⟩
 rw[hV]at hvl|-;have hV0:0<V:=by rw[<-hV];exact jA hb0 hs0
 dsimp only[aF,aG];apply vn (aR eG (aJ _));apply vn (aR eG (aJ _));apply vn (aB (by omega) (by omega));dsimp only[aF,aG];refine Bn (n:=(dg a).length+1) (f:=fun d:Nat=>[aC.int .u32 (d:Int)]) 0 rfl rfl (by omega) rfl (by omega) (by simp only[maxLen];omega) ?_;apply aA (oA a s (by rw[uF hs0 hsB];simp;omega)) rfl;rw[hS]
 have hSlt:S<1000000000^((dg a).length+1):=by
  rw[<-hS,bW];exact Nat.mul_lt_mul'' (Mn a) hsB
 have hSle:=CN hSlt
 have hSV:S<V*1000000000^((dg a).length+1-(dg b).length):=by
  rw[<-hS,<-hV];have h1:=Mn a;have h2:=ao2 (n:=b)
  have h3:1000000000^(dg a).length<=b*1000000000^((dg a).length+1-(dg b).length):=by
   refine bF (sX ?_) (bu _ h2);rw[<-bz];congr 1;omega
  calc a*s<b*1000000000^((dg a).length+1-(dg b).length)*s:=sS (br h1 h3) hs0
   _=_:=by simp only[bo,ma,eP]
 obtain⟨L,hL⟩:∃L,(dg a).length+1=L:=⟨_,rfl⟩
 rw[hL]at hSlt hSle hSV;dsimp only[aF,aG];refine ao7 (xs:=dg S) (zs:=List.replicate ((dg a).length+1) 0) (ws:=pd 1000000000 L S) (fun _=>rfl) rfl rfl eG (by simp;omega) (by simp) (TX (by omega) ((DB.lG (by omega) S).append ((DB.rep (by omega) _).drop _)) (by simp only[cK,cj,fV];show(dg S).length+_=_;omega) (by rw[aa9,jk,Yz];show lv (dg S)+_=_;rw[iX,ee,cC])) ?_;refine Oi (n:=L) rfl (by simp) ?_;apply vn (aO (by omega) (by omega));dsimp only[aF,aG];refine Bn (n:=L-(dg b).length) (f:=fun d:Nat=>[aC.int .u32 (d:Int)]) 0 rfl rfl (by rw[hvl];omega) rfl (by omega) (by simp only[maxLen];omega) ?_;refine Oi (n:=L-(dg b).length) rfl (by simp) ?_;apply vn (aO (by omega) (by omega));dsimp only[aF,aG];obtain⟨m,hm⟩:∃m,L-(dg b).length=m:=⟨_,rfl⟩
 rw[hm]at hSV|-;rw[hvl];obtain⟨nv,hnv⟩:∃n,(dg b).length=n:=⟨_,rfl⟩
 rw[hnv]at hvl htv htop hbl hlen hm hs|-;refine bG {g:Nat×List Nat×Nat // Ub S V L m g.1 g.2.1 g.2.2} (fun g=>[.one (.int .i64 ((g.1.1:Int)-1)),.rows (rT g.1.2.1),.rows (rT (pd 1000000000 L g.1.2.2))]) (fun g=>g.1.1) ⟨(m,List.replicate m 0,S),⟨aY _,by simp,Dg.rep _,by simp[lv,val],by rw[jl (dZ (by omega))];exact hSV,hSlt⟩⟩ aX.rfl (fun _=>rfl) ?_;rintro⟨⟨n,os,R⟩,hI⟩;dsimp only[aF,aG]at hI|-;have hnm:=hI.le;have hol:=hI.len;have hfit:=hI.fit;have hLs:L<549755813888:=by omega
 have hnvL:nv<L:=by omega
 apply vn jy;refine vs _ rfl ?_ ?_<;>intro h33
 ·clear htop htB htv ht0 hs' hsle hSV hSlt hSle hs hlen hL hnv h2 h6 hS hV hsB hs0;obtain⟨i,rfl⟩:∃i,n=i+1:=⟨n-1,by omega⟩
  obtain⟨hX1,hX2,_,_⟩:=Hd (B:=1000000000) (by omega) hV0 hI.eq hI.lt;obtain⟨X,hX⟩:∃X,R/1000000000^i=X:=⟨_,rfl⟩
  have hVlt:V<1000000000^nv:=by rw[<-hvl];exact Mn V
  have hXlt:X<1000000000^(nv+1):=by
   rw[bW,<-hX];exact MJ hX1 (sS hVlt (by omega))
  have hRtop:R/1000000000^(i+(nv+1))=0:=by
   rw[bz,<-mG,hX];exact ec hXlt
  have hRnv:R/1000000000^(i+nv)<1000000000:=by
   rw[bz,<-mG,hX,jl (dZ (by omega)),bo,<-bW];exact hXlt
  have htwo:=bD2 hbl hRnv;rw[hX]at htwo hX1 hX2;obtain⟨r1,hr1⟩:∃r,R/1000000000^(i+nv)%1000000000=r:=⟨_,rfl⟩
  obtain⟨r2,hr2⟩:∃r,R/1000000000^(i+nv-1)%1000000000=r:=⟨_,rfl⟩
  have hr1B:r1<1000000000:=by rw[<-hr1];exact dY _ (by omega)
  have hr2B:r2<1000000000:=by rw[<-hr2];exact dY _ (by omega)
  have hg1:(pd 1000000000 L R)[i+nv]?=some r1:=by rw[Cf _ (by omega),hr1]
  have hg2:(pd 1000000000 L R)[i+nv-1]?=some r2:=by rw[Cf _ (by omega),hr2]
  rw[hr1,hr2]at htwo;obtain⟨vt,hvt⟩:∃t,V/1000000000^(nv-1)=t:=⟨_,rfl⟩
  have hvtB:vt<1000000000:=by
   rw[<-hvt,jl (dZ (by omega)),bo,UT hbl];exact hVlt
  have hvt0:0<vt:=by
   have:=ao2 (n:=V);rw[hvl]at this;rw[<-hvt];exact mO this (dZ (by omega))
  have hgv:(dg V)[nv-1]?=some vt:=by
   rw[ar0,hvt,ed hvtB]
  obtain⟨g,hg⟩:∃g,min ((r1*1000000000+r2)/vt) 999999999=g:=⟨_,rfl⟩
  have hgB:g<1000000000:=by rw[<-hg];exact dV (Nat.min_le_right _ _) (by decide)
  have hgq:X/V<=g:=by
   rw[<-hg];have h1:=au5 (B:=1000000000) (X:=X) (V:=V) (n:=nv-1) (by rw[hvt];exact hvt0);rw[hvt,<-htwo]at h1;exact Nat.le_min.2 ⟨h1,Nat.le_of_lt_succ hX2⟩
  have hpdl:(pd 1000000000 L R).length=L:=ei _ _;apply vn (aB (by omega) (by omega));refine bq rfl rfl (by omega) (by rw[ei];omega) ?_;refine mL rfl rfl (by omega) (by omega) hg1 rfl ?_;apply vn (rM ⟨_,ia⟩ jP);dsimp only[aF,aG];apply vn ai1;apply vn (aB (by omega) (by omega));apply vn (aO (by omega) (by omega));refine bq rfl rfl (by omega) (by rw[ei];omega) ?_;refine mL rfl rfl (by omega) (by omega) hg2 rfl ?_;dsimp only[aF,aG];apply vn (rM ⟨_,ia⟩ jP);apply vn ae1;apply vn (aO (by omega) (by omega));apply vn (aN eG (by omega) (by omega) hgv);dsimp only[aF,aG];apply vn (bO wJ);apply vn (rM ⟨_,ia⟩ jP);apply vn (bA5 (a:=r1*1000000000+r2) (by rw[Int.natCast_add,iI];rfl) hvt0 (bD3 hr1B hr2B)) rfl;apply vn bi0;dsimp only[aF,aG];rw[aq5,hg];apply vn (aB (by omega) (by omega));apply vn (aB (by omega) (by omega));apply vn (aB (by omega) (by omega));apply vn (aB (by omega) (by omega));dsimp only[aF,aG];refine bX4 (n:=i) (m:=i+nv+1) rfl (by show aC.int .i64 _=aC.int .i64 _;congr 1;omega) (by show aC.int .i64 _=aC.int .i64 _;congr 1;omega) (by show aC.int .i64 _=aC.int .i64 _;congr 1;omega) (by omega) (by simp;omega) ?_
  have hgV:g*V<1000000000^(nv+1):=by
   rw[bW,bo (1000000000^nv)];exact br (sS (by omega:g<1000000000) hV0) (dF _ (iJ hVlt))
  have hview:∀Y,Y<1000000000^(nv+1)->((rT (pd 1000000000 L (R%1000000000^i+1000000000^i*Y))).take (i+nv+1)).drop i=rT (pd 1000000000 (nv+1) Y):=by
   intro Y hY;rw[rT,rT,<-lX,<-oY,NX _ (by omega),QU,show i+nv+1-i=nv+1 by omega]
   congr 2
   rw[oN _ _ (dZ (by omega)),ec (dY _ (dZ (by omega))),bI]
  have hfitY:∀Y,Y<1000000000^(nv+1)->R%1000000000^i+1000000000^i*Y<1000000000^L:=by
   intro Y hY;have h1:R%1000000000^i<1000000000^i:=dY _ (dZ (by omega));have h2:1000000000^i*(Y+1)<=1000000000^i*1000000000^(nv+1):=dF _ hY;rw[<-bz]at h2;have h3:1000000000^(i+(nv+1))<=1000000000^L:=ey (by omega) (by omega);rw[eY,de]at h2;omega
  have hput:∀Y Z,Y<1000000000^(nv+1)->Z<1000000000^(nv+1)->(rT (pd 1000000000 L (R%1000000000^i+1000000000^i*Y))).take i++rT (pd 1000000000 (nv+1) Z)++(rT (pd 1000000000 L (R%1000000000^i+1000000000^i*Y))).drop (i+(rT (pd 1000000000 (nv+1) Y)).length)=rT (pd 1000000000 L (R%1000000000^i+1000000000^i*Z)):=by
   intro Y Z hY hZ;have hp:0<1000000000^i:=dZ (by omega);have hm:R%1000000000^i<1000000000^i:=dY _ hp;rw[cZ,ei,rT,rT,rT,<-lX,<-oY,<-cP,<-cP,af7 (hfitY Y hY) hZ]
   have e:(R%1000000000^i+1000000000^i*Y)/1000000000^(i+(nv+1))=0:=by
    rw[bz 1000000000 i,<-mG,oN _ _ hp,ec hm,bI];exact ec hY
   rw[e,sV,ed hm,ee,cC]
  have hRX:R=R%1000000000^i+1000000000^i*X:=by rw[<-hX];exact(lh _ _).symm
  have hsub:=WD (pd 1000000000 (nv+1) X) (dg V) g (FV (by omega) _ _) (kv V) hgB (by rw[ei];omega) (by rw[ei];omega);have hlvX:∀Y,Y<1000000000^(nv+1)->lv (pd 1000000000 (nv+1) Y)=Y:=fun Y hY=>by rw[lv,xU,ed hY]
  rw[hlvX X hXlt,iX,ei]at hsub
  have hgive:∀Y,Y<1000000000^(nv+1)->lf prog 245 237 1 [] [.one (.slice 1 (rT (dg V)))] (rT (pd 1000000000 (nv+1) Y)) [.one (.bool (decide (1000000000^(nv+1)<=Y+V)))] (rT (pd 1000000000 (nv+1) (Y+V-1000000000^(nv+1)*(if 1000000000^(nv+1)<=Y+V then 1 else 0)))):=by
   intro Y hY;have h1:=Ya (pd 1000000000 (nv+1) Y) (dg V) (FV (by omega) _ _) (kv V) (by rw[ei];omega) (by rw[ei];omega);rw[hlvX Y hY,iX,ei]at h1;exact h1
  have hok:os[i]?=some (os[i]'(by omega)):=bB (by omega);have hVB:V<1000000000^(nv+1):=br hVlt (ey (by omega) (by omega));have hXV:X%V<1000000000^(nv+1):=MJ (dY _ hV0) hVB
  have hN:Ub S V L m i (os.set i (X/V)) (R%1000000000^i+1000000000^i*(X%V)):=by
   have:=hI.next hV0 rfl;rw[hX]at this;exact this
  clear hI htwo hg hr1 hr2 hg1 hg2 hvt hgv hvt0 hvtB hX hRnv hRtop hr1B hr2B hpdl hlvX hfit
  refine bd2 (n:=i) (vs:=rT (pd 1000000000 L (R%1000000000^i+1000000000^i*(X+1000000000^(nv+1)*(if X<g*V then 1 else 0)-g*V)))) (ts:=rT (pd 1000000000 L R)) (us:=rT (pd 1000000000 (nv+1) X)) rfl ⟨.i64,.i64,i+nv+1,(by show aC.int .i64 _=aC.int .i64 _;congr 1;omega),(by show aC.int .i64 _=aC.int .i64 _;congr 1;omega),by omega,by simp;omega,by rw[<-hview X hXlt,<-hRX]⟩ (by simp[pd]) rfl (Tt rfl hsub) (by
   conv=>lhs;rw[hRX]
   exact hput X _ hXlt (by split<;>omega)) ?_
  refine vs _ rfl ?_ ?_<;>intro h57
  ·refine bG {p:Bool×Nat // if p.1 then p.2=X/V else X<p.2*V/\p.2<1000000000} (fun p=>[.one (.bool p.1.1),.one (.int .u64 p.1.2),.rows (rT (pd 1000000000 L (R%1000000000^i+1000000000^i*gbv (1000000000^(nv+1)) X V p.1)))]) (fun p=>if p.1.1 then 0 else p.1.2+1) ⟨(false,g),by simp only[dm,cN];exact⟨h57,hgB⟩⟩ ⟨aK.Sub.same,aK.Sub.same,aK.Sub.of_eq (congrArg (fun y=>aK.rows (rT (pd 1000000000 L (R%1000000000^i+1000000000^i*y)))) (by simp only[gbv,dm,cN];rw[aD h57,de])),trivial⟩ (fun _=>rfl) ?_;rintro⟨⟨made,g'⟩,hp⟩;dsimp only[aF,aG]at hp|-;apply vn ru;refine tK (!made) rfl (fun h60=>?_) (fun h60=>?_)
   ·have hmd:made=false:=by simpa using h60
    subst hmd;simp only[dm,cN]at hp
    have hgV':g'*V<1000000000^(nv+1):=by
     rw[bW,bo (1000000000^nv)];exact br (sS (by omega:g'<1000000000) hV0) (dF _ (iJ hVlt))
    have hg0:0<g':=by
     rcases ic g' with h | h
     ·rw[h]at hp;omega
     ·exact h
    have hgm:(g'-1)*V+V=g'*V:=by
     obtain⟨k,rfl⟩:∃k,g'=k+1:=⟨g'-1,by omega⟩
     rw[kU,bf,dy]
    obtain⟨W,hW⟩:∃W,1000000000^(nv+1)=W:=⟨_,rfl⟩
    have hYe:gbv W X V (false,g')=X+W-g'*V:=by simp[gbv]
    have hnew:X+W-g'*V+V-W*(if W<=X+W-g'*V+V then 1 else 0)=gbv W X V (decide (W<=X+W-g'*V+V),g'-1):=by
     rw[hW]at hgV' hXlt;by_cases hc:W<=X+W-g'*V+V
     ·rw[aD hc,de];simp only[gbv,hc,oV,bP];have hq:X/V=g'-1:=wk hV0 (by rw[show g'-1+1=g' by omega];exact hp.1);have h1:=lh X V;rw[hq,bo]at h1;omega
     ·rw[aH hc,ee];simp only[gbv,hc,mX,dm,cN];omega
    rw[hW]at hview hput hgive hXlt hgV';have hYlt:X+W-g'*V<W:=by omega
    have hput1:=hput (X+W-g'*V) (X+W-g'*V+V-W*(if W<=X+W-g'*V+V then 1 else 0)) hYlt (by split<;>omega);rw[hnew]at hput1;rw[hW,hYe];refine bd2 (n:=i) (ts:=rT (pd 1000000000 L (R%1000000000^i+1000000000^i*(X+W-g'*V)))) (us:=rT (pd 1000000000 (nv+1) (X+W-g'*V))) (us':=rT (pd 1000000000 (nv+1) (gbv W X V (decide (W<=X+W-g'*V+V),g'-1)))) rfl ⟨.i64,.i64,i+nv+1,(by show aC.int .i64 _=aC.int .i64 _;congr 1;omega),(by show aC.int .i64 _=aC.int .i64 _;congr 1;omega),by omega,by simp;omega,(hview _ hYlt).symm⟩ (by simp[pd]) rfl (Tt rfl (hnew▸hgive _ hYlt)) hput1 ?_;apply vn ak0;dsimp only[aF,aG];have hg1':(g':Int)-1=((g'-1:Nat):Int):=by clear hN hput hview hgive hfitY;omega
    refine af rfl ⟨⟨(decide (W<=X+W-g'*V+V),g'-1),?_⟩,⟨aK.Sub.same,aK.Sub.of_eq (congrArg (fun q=>aK.one (aC.int .u64 q)) hg1'),aK.Sub.of_eq ?_,trivial⟩,?_⟩
    ·by_cases hc:W<=X+W-g'*V+V
     ·simp only[hc,oV,bP];exact(wk hV0 (by rw[show g'-1+1=g' by omega];exact hp.1)).symm
     ·simp only[hc,mX,dm,cN];omega
    ·dsimp only;rfl
    ·dsimp only;by_cases hc:W<=X+W-g'*V+V
     ·simp[hc]
     ·simp[hc];omega
   have hmd:made=true:=by simpa using h60
   subst hmd;simp only[bP]at hp;subst hp;simp only[gbv,bP];apply vn (ox ⟨_,jP⟩ ia (oZ _) (Yj hX2));refine bq rfl rfl (by omega) (by omega) ?_;refine iD (d':=X/V) rfl rfl (by omega) (by omega) hok rfl ?_;apply vn (aO (by omega) (by omega));dsimp only[aF,aG];exact af rfl ⟨⟨(i,os.set i (X/V),R%1000000000^i+1000000000^i*(X%V)),hN⟩,⟨aK.Sub.of_eq (congrArg (fun q=>aK.one (aC.int .i64 q)) (bj0 i)),aK.Sub.same,aK.Sub.same,trivial⟩,by show i<i+1;omega⟩
  have hq:X/V=g:=we hgq (by rw[wo hV0];omega)
  have hmod:X+1000000000^(nv+1)*(if X<g*V then 1 else 0)-g*V=X%V:=by
   rw[aH h57,ee,cC];have h1:=lh X V;rw[hq,bo]at h1;omega
  rw[hmod];rw[hq]at hN;apply vn (ox ⟨_,jP⟩ ia (oZ _) (Yj hgB));refine bq rfl rfl (by omega) (by omega) ?_;refine iD (d':=g) rfl rfl (by omega) (by omega) hok rfl ?_;apply vn (aO (by omega) (by omega));dsimp only[aF,aG];exact af rfl ⟨⟨(i,os.set i g,R%1000000000^i+1000000000^i*(X%V)),hN⟩,⟨aK.Sub.of_eq (congrArg (fun q=>aK.one (aC.int .i64 q)) (bj0 i)),aK.Sub.same,aK.Sub.same,trivial⟩,by show i<i+1;omega⟩
 have hn0:n=0:=by omega
 subst hn0;have heq:=hI.eq;have hlt:=hI.lt;rw[gi,pa,de]at heq;rw[pa,oD]at hlt;obtain⟨hQ,hR⟩:=xh heq hlt;have hQ2:lv os=a/b:=by rw[hQ,<-hS,<-hV,Nat.mul_div_mul_right _ _ hs0]
 have hR2:R=a%b*s:=by rw[hR,<-hS,<-hV,Nat.mul_mod_mul_right]
 apply aA (jx (pd 1000000000 L R) (FV (by omega) _ _) (by rw[ei];omega)) rfl;rw[show lv (pd 1000000000 L R)=R by rw[lv,xU,ed hfit]];apply aA (aW1 R s hs0 hsB (by have:=CN hfit;omega)) rfl;apply aA (jx os hI.dg);dsimp only[aF,aG];refine aM ?_;rw[hQ2,hR2,Nat.mul_div_cancel _ hs0];rfl
open Go Go.Proofs Go.RowKit Go.Shelf Tryz Ord
attribute [local go_sem] Oper.semAt_some
section
variable{α:Type}[Inhabited α]{enc:α->Value}
def bk(vs:List α)(k:Nat):List (Nat×α):=(List.range k).map fun j=>(vs.length-1-j,vs[vs.length-1-j]?.getD default)
theorem PK(vs:List α)(k:Nat):bk vs (k+1)=bk vs k++[(vs.length-1-k,vs[vs.length-1-k]?.getD default)]:=by simp[bk,gu]
theorem LI(vs:List α)(k:Nat):(bk vs k).length=k:=by simp[bk]
def KpB(n₀ Bs:Nat)(A B:World):Prop:=Below n₀ A B/\∀v,A.cell? ⟨Bs,0,none⟩=some v->B.cell? ⟨Bs,0,none⟩=some v
theorem aj0(l Bs n₀ b off cap:Nat)(vs:List α)(hlen:vs.length<4611686018427387904)(hb:b<n₀)(J Jx:List (Nat×α)->World->Prop)
  (hY:∀pre x W,J pre W->pre.length<vs.length->YieldAt Fence.wide (1000-1) prog l #[.int .i64 (x.1:Int),enc x.2] W fun e W'=>
   (e=.returned (.bool true)/\J (pre++[x]) W'/\KpB n₀ Bs W W')\/(e=.returned (.bool false)/\Jx (pre++[x]) W'))
  (W:World) (hBs:W.cell? ⟨Bs,0,none⟩=some (.slice (some ⟨b,off,none⟩) vs.length cap)) (hc:∀j v,vs[j]?=some v->W.cell? ⟨b,off+j,none⟩=some (enc v)) (h0:J [] W) :
  CallsIn Fence.wide 1000 prog 237 #[.func (.yield l) #[] #[],.pointer (some ⟨Bs,0,none⟩)] W fun e W'=>(∃v,e=.returned v) /\
   ((∃ys,ys=bk vs vs.length/\J ys W')\/(∃pre,(∃k,k<=vs.length/\pre=bk vs k)/\Jx pre W')):=by
 refine iM func237 rfl trivial ?_ rfl;simp only[ntmps237,cb,ak,bX,Nat.reduceAdd,Nat.reduceSub,dk,dp,du,dr,List.nil_append,List.cons_append];obtain⟨N,hN⟩:∃N,vs.length=N:=⟨_,rfl⟩
 rw[hN]at hBs hY hlen|-
 gi_wp2
 gi_loopw [3] (fun i wr=>∃k:Nat,k<=N/\i=.int .i64 ((N:Int)-1-k)/\J (bk vs k) wr/\Below n₀ W wr/\wr.cell? ⟨Bs,0,none⟩=some (.slice (some ⟨b,off,none⟩) N cap))
  (fun i _=>(intOf i+1).toNat)
 case atStart=>exact⟨0,cL _,by simp,h0,cM _ _,hBs⟩
 case round=>
  obtain⟨k,hk,rfl,hJs,hnx,hBx⟩:=hrel;have hmeas:(intOf (.int .i64 ((N:Int)-1-k))+1).toNat=N-k:=by simp[intOf];omega
  by_cases hlt:k<N
  ·have hv:vs[N-1-k]?=some (vs[N-1-k]?.getD default):=by rw[bB (by omega)];rfl
   have hcx:wr.cell? ⟨b,off+(N-1-k),none⟩=some (enc (vs[N-1-k]?.getD default)):=(hnx.cell (p:=⟨b,off+(N-1-k),none⟩) hb).trans (hc _ _ hv);obtain⟨fn,tmps,assign,body,hy,hR⟩:=hY _ (N-1-k,vs[N-1-k]?.getD default) wr hJs (by rw[LI];exact hlt);generalize hx:vs[N-1-k]?.getD default=x at hy hR hcx;have hsucc:bk vs (k+1)=bk vs k++[(N-1-k,x)]:=by rw[PK,hN,hx]
   have e1:(N:Int)-1-k=((N-1-k:Nat):Int):=by omega
   have hn1:N-1-k<N:=by omega
   have e2:(wr.cell? ⟨b,off+(N-1-k),none⟩)=some (enc x):=hcx;rw[e1]
   gi_wp2
   refine hR.mono ?_;rintro e W3 (⟨rfl,hJ3,hk3⟩ | ⟨rfl,hJx3⟩)
   ·gi_wp2
    go_roundw
    case rel=>exact⟨k+1,by omega,by congr 1;omega,by rw[hsucc];exact hJ3,hnx.trans hk3.1,hk3.2 _ hBx⟩
    case measure=>simp[intOf]
   ·gi_wp2
    refine gC (zx rfl _ _ _) rfl ?_;exact⟨⟨_,rfl⟩,.inr ⟨_,⟨k+1,by omega,rfl⟩,by rw[hsucc];exact hJx3⟩⟩
  ·obtain rfl:k=N:=by omega
   gi_wp2
   go_end0
   exact⟨⟨_,rfl⟩,.inl ⟨_,rfl,hJs⟩⟩
theorem VR{α:Type}(l Bs:Nat)(a:Option Addr)(cap:Nat)(J:List (Nat×α)->World->Prop)(W:World)(hBs:W.cell? ⟨Bs,0,none⟩=some (.slice a 0 cap))(h0:J [] W) :
  CallsIn Fence.wide 1000 prog 237 #[.func (.yield l) #[] #[],.pointer (some ⟨Bs,0,none⟩)] W fun e W'=>(∃v,e=.returned v)/\J [] W':=by
 refine iM func237 rfl trivial ?_ rfl;simp only[ntmps237,cb,ak,bX,Nat.reduceAdd,Nat.reduceSub,dk,dp,du,dr,List.nil_append,List.cons_append]
 gi_wp2
 gi_loopw [3] (fun i wr=>i=.int .i64 (-1)/\J [] wr) (fun _ _=>0)
 case atStart=>exact⟨rfl,h0⟩
 case round=>
  obtain⟨rfl,hJs⟩:=hrel
  gi_wp2
  go_end0
  exact⟨⟨_,rfl⟩,hJs⟩
theorem Be(n:Nat)(a:Option Addr)(len cap:Nat)(w:World) :
  CallsIn Fence.wide n prog 215 #[.slice a len cap] w fun e w'=>e=.returned (.func (.func 237) #[] #[.pointer (some ⟨w.heap.size,0,none⟩)])/\w'=w.alloc (.cells #[.slice a len cap] 40):=by
 refine iM func215 rfl trivial ?_ rfl;simp only[ntmps215,cb,ak,bX,Nat.reduceAdd,Nat.reduceSub,dk,dp,du,dr,List.nil_append,List.cons_append]
 gi_wp2
 go_ret
 exact⟨rfl,rfl⟩
def Sl1(enc:α->Value)(n₀:Nat)(W:World)(sv:Value)(vs:List α):Prop:=
 ∃a cap,sv=.slice a vs.length cap/\(vs=[]\/∃b off,a=some ⟨b,off,none⟩/\b<n₀/\∀j v,vs[j]?=some v->W.cell? ⟨b,off+j,none⟩=some (enc v))
theorem Sl1.below{α:Type}{enc:α->Value}{n₀:Nat}{A B:World}(h:Below n₀ A B){sv:Value}{vs:List α}:Sl1 enc n₀ A sv vs->Sl1 enc n₀ B sv vs:=by
 rintro⟨a,cap,e,rfl | ⟨b,off,rfl,hb,hc⟩⟩
 ·exact⟨a,cap,e,.inl rfl⟩
 ·exact⟨_,cap,e,.inr ⟨b,off,rfl,hb,fun j v hj=>(h.cell (p:=⟨b,off+j,none⟩) hb).trans (hc j v hj)⟩⟩
theorem ra(Bs n₀:Nat)(sv:Value)(vs:List α)(hlen:vs.length<4611686018427387904)(w:World)(hBs:Bs<w.heap.size)(hn₀:n₀<=w.heap.size)
  (hc:w.cell? ⟨Bs,0,none⟩=some sv) (hI:Sl1 enc n₀ w sv vs) :
  SeqStopsK Fence.wide 1000 prog 237 #[.pointer (some ⟨Bs,0,none⟩)] (fun x:Nat×α=>#[Value.int .i64 (x.1:Int),enc x.2]) (KpB n₀ Bs) (fun ys=>ys=bk vs vs.length) (fun pre=>∃k,k<=vs.length/\pre=bk vs k) vs.length w:=fun l J Jx W hW _ _ hY h0=>by
 have hc':=(hW.cell (p:=⟨Bs,0,none⟩) hBs).trans hc;obtain⟨a,cap,rfl,rfl | ⟨b,off,rfl,hb,hcs⟩⟩:=hI.below (hW.mono hn₀)
 ·exact(VR (α:=α) l Bs a cap J W hc' h0).mono fun e W' ⟨he,hj⟩=>⟨he,.inl ⟨_,rfl,hj⟩⟩
 ·exact(aj0 (enc:=enc) l Bs n₀ b off cap vs hlen hb J Jx hY W hc' hcs h0)
theorem TN{n₀ Bs:Nat}{A B C:World}(h:KpB n₀ Bs A B)(k:KpB n₀ Bs B C):KpB n₀ Bs A C:=⟨h.1.trans k.1,fun v hv=>k.2 v (h.2 v hv)⟩
theorem Uk{n₀ Bs:Nat}{w:World}(hn:n₀<=w.heap.size)(hB:Bs<w.heap.size)(W:World)(l:Nat)(o o':Obj)(hl:w.heap.size<=l)(h:W.heap[l]?=some o)(h1:o.isCells=false)(h2:o.isWalk=false):KpB n₀ Bs W (W.putObj l o'):=
 ⟨su hn W l o o' hl h h1 h2,fun v hv=>by
  have e:(W.putObj l o').heap[Bs]?=W.heap[Bs]?:=lH (by omega);simp only[World.cell?,e]at hv|-;exact hv⟩
end
def wv(pre:List (Nat×Int)):Int:=pre.foldl (fun n x=>IntKind.u64.wrap (IntKind.u64.wrap (n*1000000000)+IntKind.u64.wrap x.2)) 0
theorem aU0(pre:List (Nat×Int))(x:Nat×Int):wv (pre++[x])=IntKind.u64.wrap (IntKind.u64.wrap (wv pre*1000000000)+IntKind.u64.wrap x.2):=by simp[wv]
theorem az6{n:Nat}(hn:n<1000000000000000000):wv (bk ((dg n).map (fun d:Nat=>(d:Int))) (dg n).length)=(n:Int):=by
 have hl:(dg n).length<=2:=CN (by omega);have hv:=iX n;have hd:=kv n;generalize dg n=ds at hl hv hd
 match ds,hl with
 | [],_=>simp[lv,val]at hv;subst hv;simp[bk,wv]
 | [a],_=>
   have ha:=hd a (by simp);simp[lv,val]at hv;simp[bk,wv,gu];simp only[qF];omega
 | [a,b],_=>
   have ha:=hd a (by simp);have hb:=hd b (by simp);simp[lv,val]at hv;simp[bk,wv,gu];simp only[qF];omega
theorem ZC{M:Nat->Prop}{w:World}{v:Value}{ds:List Nat}(h:(aC.slice 1 (rT ds)).rep M w v):Sl1 (fun d:Int=>Value.int .u32 d) w.heap.size w v (ds.map (fun d:Nat=>(d:Int))):=by
 obtain⟨a,cap,rfl,hc,hm,hel⟩:=h;refine⟨a,cap,by simp,?_⟩;rcases hel with h | ⟨b,off,cs,T,fz,rfl,hb,hh,hr⟩
 ·left
  have:ds=[]:=by cases ds<;>simp_all
  subst this;rfl
 ·refine .inr ⟨b,off,rfl,(bt.1 hh).1,fun j v hj=>?_⟩;rw[cU]at hj;cases hd:ds[j]? with
  | none=>rw[hd]at hj;simp at hj
  | some d=>
    rw[hd]at hj;simp only[cJ,aU]at hj;subst hj;obtain⟨_,hrep⟩:=hr j _ (oo hd);rw[de]at hrep;have hl:=hrep.length
    have hlt:off+j<cs.toList.length:=by
     simp only[ak,bX,bL,cj]at hl;omega
    rw[iG hlt,lS,iK]at hrep;have h1:cs.toList[off+j]=.int .u32 d:=hrep.1.1;simp only[World.cell?,hh];rw[Array.getElem_toList]at h1;simp[h1,qP (show off+j<cs.size by simpa using hlt)]
theorem aW2(a:Option Addr)(cap:Nat)(vs:List Int)(hlen:vs.length<4611686018427387904)(w:World)(hI:Sl1 (fun d:Int=>Value.int .u32 d) w.heap.size w (.slice a vs.length cap) vs) :
  CallsIn Fence.wide 1001 prog 242 #[.agg #[.slice a vs.length cap]] w fun e W'=>e=.returned (.int .u64 (wv (bk vs vs.length)))/\Below w.heap.size w W':=by
 refine qN func242 rfl trivial ?_ rfl;simp only[ntmps242,cb,ak,bX,Nat.reduceAdd,Nat.reduceSub,dk,dp,du,dr,List.nil_append,List.cons_append];generalize hL:vs.length=L at hI hlen|-
 gi_wp2_with (refine⟨trivial,?_⟩;gi_at_call 215;refine(Be _ _ _ _ _).mono ?_;rintro e w' ⟨rfl,rfl⟩)
 have bN:=Boxed.new (w.alloc (.cells #[.slice a L cap] 42)) 236 (.int .u64 0);have bS:=Boxed.new ((w.alloc (.cells #[.slice a L cap] 42)).alloc (.cells #[.int .u64 0] 236)) 40 (.slice a L cap);simp only[cw]at bN bS;have hB0:Below w.heap.size w (((w.alloc (.cells #[.slice a L cap] 42)).alloc (.cells #[.int .u64 0] 236)).alloc (.cells #[.slice a L cap] 40)):=(((cM _ w).alloc (aY _) _).alloc (by simp) _).alloc (by simp;omega) _;obtain⟨W0,hW0⟩:∃W0,(((w.alloc (.cells #[.slice a L cap] 42)).alloc (.cells #[.int .u64 0] 236)).alloc (.cells #[.slice a L cap] 40))=W0:=⟨_,rfl⟩
 have hs0:W0.heap.size=w.heap.size+3:=by rw[<-hW0];simp
 have bN':=bN.alloc (.cells #[.slice a L cap] 40);rw[hW0]at hB0 bS bN' |-
 refine Rm (w0:=W0) rfl (by omega) (gf:=237) (lb:=#[.pointer (some ⟨w.heap.size+1+1,0,none⟩)]) rfl trivial (wF func237 (by kernel_rfl) rfl)
  (ra (enc:=fun d:Int=>Value.int .u32 d) (w.heap.size+1+1) w.heap.size (.slice a L cap) vs (by omega) W0 (by omega) (by omega) bS.cell (hI.below hB0)) TN (Uk (by omega) (by omega)) (cM _ _) (fun _=>rfl)
  (fun pre W=>(W.cell? ⟨w.heap.size+1,0,none⟩=some (.int .u64 (wv pre))/\W.frozen? ⟨w.heap.size+1,0,none⟩=false)/\Below w.heap.size w W)
  (fun _ _ _=>False)
  (OwnFrom.and (Own.from (fun s A B row hs hg hr=>⟨cell_kept hs.1 hg hr,(frozen_kept hs.1 hg hr).trans hs.2⟩) _) (ownFrom_below (aY _) (by omega)))
  (fun _=>by intro s A B row hs;exact hs.elim)
  ⟨⟨bN'.cell,bN'.frozen⟩,hB0⟩
  (fun x=>{ tmps:=#[.agg #[.slice a L cap],.pointer (some ⟨w.heap.size,0,none⟩),.int .u64 0,.pointer (some ⟨w.heap.size+1,0,none⟩),undef,.int .u32 x.2,.pointer (some ⟨w.heap.size,0,none⟩),.slice a L cap,.func (.func 237) #[] #[.pointer (some ⟨w.heap.size+1+1,0,none⟩)],.int .i64 (x.1:Int),.int .u32 x.2,undef,undef,undef,undef,undef,undef],defers:=[] }) ?assign ?body ?done ?stop
 case assign=>
  intro l x W K hK
  gi_wp2
  exact hK
 case body=>
  rintro l pre x W ⟨⟨hcr,hfr⟩,hB⟩ _
  gi_wp2
  refine⟨KeepsOthers.setCell _ _ _,⟨(cM w.heap.size W).setCell (p:=⟨w.heap.size+1,0,none⟩) (by simp) _,fun v hv=>?_⟩,⟨?_,by rw[World.frozen?_setCell];exact hfr⟩,hB.setCell (p:=⟨w.heap.size+1,0,none⟩) (by simp) _⟩
  ·refine Eq.trans (World.cell?_setCell_other _ _ _ _ ?_) hv;simp
  ·rw[aU0];exact World.cell?_setCell_same' _ _ _ (by rw[hcr];rfl)
 case done=>
  rintro D ys W hD rfl ⟨⟨hcr,hfr⟩,hB⟩ hK
  gi_wp2
  refine⟨by simp,.inl ⟨_,_,rfl,pQ hK,?_⟩⟩;exact⟨_,je rfl _ _ _,rfl,hB.trans (su (w:=w) (aY _) W D _ _ (by omega) hK rfl rfl)⟩
 case stop=>
  rintro D c pre W hD _ h hK;exact h.elim
theorem aJ4(n:Nat)(hn:n<1000000000000000000):aW prog 242 [mT n] (.ret [.one (.int .u64 n)]):=by
 refine⟨bA (by kernel_rfl),fun M w vs hM hv=>?_⟩
 match vs,hv with
 | [v],hv=>
   obtain⟨⟨us,rfl,hus⟩,_⟩:=hv
   match us,hus with
   | [u],hus=>
     have hsl:=ZC hus.1;obtain⟨a,cap,rfl,hel⟩:=hsl;have hl:((dg n).map (fun d:Nat=>(d:Int))).length=(dg n).length:=aJ _
     have hlen:(dg n).length<4611686018427387904:=by
      have h2:(dg n).length<=2:=CN (by rw[show(1000000000:Nat)^2=1000000000000000000 by decide];exact hn);omega
     have h1:=aW2 a cap ((dg n).map (fun d:Nat=>(d:Int))) (by rw[hl];exact hlen) w ⟨a,cap,rfl,hel⟩;rw[hl,az6 hn]at h1;have h2:Calls prog 242 #[.agg #[.slice a (dg n).length cap]] w _:=(ay (n:=1001)).1 h1;rw[hl];show Calls prog 242 #[.agg #[.slice a (dg n).length cap]] w _;refine h2.mono ?_;rintro e w' ⟨rfl,hb⟩;exact⟨hb,[.int .u64 n],rfl,⟨rfl,rfl⟩,trivial⟩
   | [],hus=>exact hus.elim
   | _::_::_,hus=>exact hus.2.elim
 | [],hv=>exact hv.elim
 | _::_::_,hv=>exact hv.2.elim
end Go.Sy
namespace Go.Sy
open Go Go.Proofs Tryz Ord
def bG1:Tr:=gS 242 [(G1 2)] [none] [22] [42] 236 false (Gr 242 3 0 24 236 (.loop 1 [lV 11 0,lV 12 0] (.need (.prim [(W 14 0),(.one (.c (.k (.int .u64 0))))] none) (.binOp .neq 236 (tT 26) (.const (.int .u64 0)) 236) 4 false (aQ 15 0 (rn .rem 236 29 30 13 0 14 0 236 (jS 1 14 16)) (oy 206 13 1 32 236 42 (rm 16))))))
def bN8:Tr:=Qn .leq 3 14 2 7 0 4 (aQ 8 0 (aw 3 0 18 40 (Qn .leq 3 19 2 9 0 4 (aQ 10 0 bG1 (Th 2 3 35 36 (Qo 0 3 12 4))))) (Th 2 3 35 36 (Qo 0 3 10 4)))
def aI2:Tr:=rm 2
def bV0:Tr:=.loop 0 [lV 0 0,lV 1 0,lN] (Gr 172 3 0 9 4 (oW 5 0 10 (aQ 6 0 (aw 2 0 13 40 bN8) aI2)))
theorem aw1:aV prog f220 dE [.v (some 1),.v (some 1)]=bV0:=by kernel_rfl
def al8:Tr:=mJ 4 0 4 1
def bQ6:Tr:=rn .neq 4 6 8 0 1 1 1 4 (ow 162 0 0 1 11 13 (YN 2 0 3 9 14 al8))
theorem bv9:aV prog f175 dE [.v (some 2),.v (some 2)]=bQ6:=by kernel_rfl
def ar1:Tr:=mJ 6 0 6 1
def cd9:Tr:=rn .eql 4 7 9 0 1 1 1 4 (aQ 2 0 (ow 209 0 0 1 14 16 (YN 0 1 3 12 17 al8)) (gS 164 [(G1 0),(G1 1)] [none] [21,23] [42,42] 3 true (ju 3 0 0 3 24 (aQ 4 0 (ow 223 1 0 0 29 31 (YN 1 1 5 27 32 ar1)) (ow 223 0 0 1 37 39 (YN 0 1 5 35 40 ar1))))))
theorem bt6:aV prog f184 dE [.v (some 2),.v (some 2)]=cd9:=by kernel_rfl
def bX1:Tr:=ju 0 0 0 2 3 (aQ 1 0 (gF 0 2 236 5 (WB 2 236 6 (oy 206 3 1 7 236 42 (.need (.call 158 [(tF true),(G1 4)] [(some 2)]) (.call ⟨.value (.func 158),#[(.const (.bool true)),(tT 8)],#[4,42]⟩) 44 true (mJ 5 0 5 1))))) (gF 0 2 236 10 (oy 206 2 1 11 236 42 (.need (.call 158 [(tF false),(G1 3)] [(some 2)]) (.call ⟨.value (.func 158),#[(.const (.bool false)),(tT 12)],#[4,42]⟩) 44 true al8))))
theorem aP2:aV prog f156 dE [.v none]=bX1:=by kernel_rfl
theorem jT{n B:Nat}(h:n<2^B):(dg n).length<=B:=
 CN (br h (nu (by omega) B))
theorem YI{n:Nat}(h:(dg n).length<=2:=by omega):n<1000000000000000000:=by
 have h1:=Mn n;have h2:1000000000^(dg n).length<=1000000000^2:=ey (by omega) h;rw[show(1000000000:Nat)^2=1000000000000000000 by decide]at h2;omega
theorem bt0(n:Nat):aW prog 221 [(mT n:aK)] (.ret [.one (.bool (decide (n=1)))]):=by
 refine eB func221 bp8 ?_;apply vn (aR eG (aJ _));apply vn cF;refine vs _ rfl ?_ ?_<;>intro h2
 ·obtain⟨d,hd⟩:∃d,dg n=[d]:=by
   match h:dg n with
   | [d]=>exact⟨d,rfl⟩
   | []=>rw[h]at h2;simp at h2
   | _::_::_=>rw[h]at h2;simp at h2;omega
  have hv:=iX n;rw[hd]at hv;apply vn (aN eG (by omega) (by omega) (show(dg n)[0]?=some d by rw[hd];rfl)) rfl;apply vn (bO wJ);dsimp only[aF,aG];apply vn cF;dsimp only[aF,aG];refine aM ?_;have hv:d=n:=by simpa[lv,val]using hv
  subst hv;show[aK.one (.bool (decide ((d:Int)=1)))]=_;have e:((d:Int)=1)↔d=1:=by omega
  simp only[e]
 refine aM ?_
 have:¬n=1:=fun e=>by
  subst e;rw[uF]at h2;exact h2 rfl
 simp[this];rfl
theorem as3(a b:Nat)(hs:(dg (max a b)).length<137438953472):aW prog 220 [(mT a:aK),(mT b:aK)] (.ret [mT (Nat.gcd a b)]):=by
 refine eB func220 aw1 ?_;refine bG {p:Nat×Nat // Nat.gcd p.1 p.2=Nat.gcd a b/\p.1<=max a b/\p.2<=max a b} (fun p=>[.one (dT p.1.1),.one (dT p.1.2),.one (.exact (.slice none 0 0))]) (fun p=>p.1.2) ⟨(a,b),rfl,by omega,by omega⟩ aX.rfl (fun _=>rfl) ?_;rintro⟨⟨x,y⟩,hg,hx,hy⟩;dsimp only[aF,aG]at hg hx hy|-;have hxl:=oM hx;have hyl:=oM hy;apply aA (ta y);apply vn yS;refine vs _ rfl ?_ ?_<;>intro h3
 ·have hy0:0<y:=by omega
  apply vn (aR eG (aJ _));apply vn qp;dsimp only[aF,aG];refine vs _ rfl ?_ ?_<;>intro h6
  ·apply vn (aR eG (aJ _));apply vn qp;refine vs _ rfl ?_ ?_<;>intro h9
   ·apply aA (aJ4 x (YI));apply aA (aJ4 y (YI));dsimp only[aF,aG];have hx18:=YI (n:=x);have hy18:=YI (n:=y);clear hxl hyl;refine bG {p:Nat×Nat // Nat.gcd p.1 p.2=Nat.gcd a b/\p.1<1000000000000000000/\p.2<1000000000000000000} (fun p=>[.one (.int .u64 p.1.1),.one (.int .u64 p.1.2)]) (fun p=>p.1.2) ⟨(x,y),hg,hx18,hy18⟩ aX.rfl (fun _=>rfl) ?_;rintro⟨⟨p,q⟩,hpq,hp,hq⟩;dsimp only[aF,aG]at hpq hp hq|-;apply vn gW;refine vs _ rfl ?_ ?_<;>intro h14
    ·apply vn (DA (c:=((p%q:Nat):Int)) (by omega) (by rw[qV (oZ _),<-Rf]));exact af rfl ⟨⟨(q,p%q),by rw[<-hpq,ja p q,se q p,ja],hq,dV (sC _ _) hp⟩,aX.rfl,dY _ (by omega)⟩
    have hq0:q=0:=by omega
    subst hq0;rw[AA]at hpq;apply aA (oH p);dsimp only[aF,aG];rw[hpq];exact aM
   apply aA (Py x y hy0);exact af rfl ⟨⟨(y,x%y),by rw[<-hg,ja x y,se y x,ja],hy,bF (sC _ _) hx⟩,aX.rfl,dY _ hy0⟩
  apply aA (Py x y hy0);exact af rfl ⟨⟨(y,x%y),by rw[<-hg,ja x y,se y x,ja],hy,bF (sC _ _) hx⟩,aX.rfl,dY _ hy0⟩
 have hy0:y=0:=by omega
 subst hy0;rw[AA]at hg;rw[hg];exact aM
structure bh1(a n:Nat)(k x y:Nat):Prop where
 eq:y*x^k=a^n
 z:a=0->x=0
 x1:k≠0->x<=max 1 (a^n)
 y1:y<=max 1 (a^n)
theorem bh1.mk'{a n k x y:Nat}(hn:n≠0)(eq:y*x^k=a^n)(z:a=0->x=0)(hy:x=0->y<=1):bh1 a n k x y:=by
 have hk:∀t,0<t->t<=x->0<x^k:=fun t h1 h2=>dZ (by omega);refine⟨eq,z,fun h0=>?_,?_⟩
 ·rcases ic x with hx | hx
  ·omega
  ·rcases ic y with hy0 | hy0
   ·rw[hy0,mZ]at eq;have:=z (Nat.eq_zero_of_not_pos fun ha=>by have:=dZ (n:=n) ha;omega);omega
   ·have h1:x<=x^k:=Nat.le_self_pow h0 x;have h2:x^k<=y*x^k:=AB _ hy0;omega
 ·rcases ic x with hx | hx
  ·have:=hy hx;omega
  ·have h2:y<=y*x^k:=mH _ (dZ hx);omega
def bM7:Tr:=aQ 4 0 (Th 0 2 15 16 (Th 1 2 22 23 (ZI 0 1 5 28 30 (aC8 (ow 223 7 0 10 32 33 (lD 9 11 0)))))) (ZI 0 1 0 28 30 (aC8 (ow 223 1 0 6 32 33 (lD 5 7 0))))
def bV4:Tr:=ow 220 0 0 1 7 8 (Gr 221 2 0 10 4 (oW 3 0 11 bM7))
theorem aT8:aV prog f174 dE [.v (some 2),.v (some 1)]=bV4:=by kernel_rfl
def bL8:Tr:=.need (.call 206 [(.one (.c (.k (.int .u64 1))))] [(some 1)]) (.call ⟨.value (.func 206),#[(.const (.int .u64 1))],#[236]⟩) 42 true (ow 209 0 2 1 4 5 aI2)
theorem ak5:aV prog f163 dE [.v (some 3)]=bL8:=by kernel_rfl
def bM6:Tr:=.ret [(.agg [(U 0 0),(U 0 1),tN])]
theorem bd4:aV prog f155 dE [.v (some 2)]=bM6:=by kernel_rfl
def bR6:Tr:=oy 156 0 2 3 2 44 (gS 155 [(G2 1)] [(some 3)] [4] [44] 46 true (lD 2 2 2))
theorem bT8:aV prog f63 dE [.v none]=bR6:=by kernel_rfl
def bW4:Tr:=LG 91 0 4 44 3 (cD 1)
theorem bb6:aV prog f23 dE [.v (some 3)]=bW4:=by kernel_rfl
def bK0:Tr:=oW 0 1 5 (ZI 1 0 0 6 9 (lD 2 0 2))
theorem bC5:aV prog f65 dE [.v (some 3)]=bK0:=by kernel_rfl
def cc0:Tr:=.need (.call 158 [(tF false),(G1 0)] [(some 2)]) (.call ⟨.value (.func 158),#[(.const (.bool false)),(tT 5)],#[4,42]⟩) 44 false (lD 1 0 2)
theorem by8:aV prog f168 dE [.v (some 3)]=cc0:=by kernel_rfl
def bL1:Tr:=gS 163 [(G3 1)] [(some 1)] [9] [46] 42 true (gS 175 [(G2 0),(.agg [(U 3 0),(tE (.bool false))])] [(some 2)] [12,14] [44,44] 44 false (gS 175 [(G2 1),(.agg [(U 2 0),(tE (.bool false))])] [(some 2)] [17,19] [44,44] 44 false (vJ 184 4 5 15 20 44 (ow 162 2 0 3 22 23 (gS 174 [(G2 6),(G1 7)] [(some 3)] [21,24] [44,42] 46 true (lD 8 8 2))))))
def bJ5:Tr:=rX 163 0 1 7 42 bL1
theorem br8:aV prog f88 dE [.v (some 3),.v (some 3)]=bJ5:=by kernel_rfl
def cb6:Tr:=gS 65 [(G3 1)] [(some 3)] [6] [46] 46 true (kz 88 0 0 1 0 2 2 5 7 (lD 3 3 2))
theorem bF9:aV prog f86 dE [.v (some 3),.v (some 3)]=cb6:=by kernel_rfl
def ca3:Tr:=vJ 175 0 1 6 8 44 (rX 163 0 1 10 42 (rX 163 1 1 12 42 (ow 162 3 0 4 11 13 (gS 174 [(G2 2),(G1 5)] [(some 3)] [9,14] [44,42] 46 true (lD 6 6 2)))))
theorem bA2:aV prog f76 dE [.v (some 3),.v (some 3)]=ca3:=by kernel_rfl
def bT1:Tr:=rX 163 1 1 10 42 (ZI 1 1 2 9 11 (vJ 175 0 3 6 12 44 (rX 163 0 1 14 42 (ow 162 5 0 1 15 18 (gS 174 [(G2 4),(G1 6)] [(some 3)] [13,19] [44,42] 46 true (lD 7 7 2))))))
theorem aX0:aV prog f212 dE [.v (some 3),.v (some 3)]=bT1:=by kernel_rfl
def bO5:Tr:=Gz 23 1 6 3 (gQ 2 0 0 3 7 (aQ 3 0 (.ret [(.agg [tN,(tE (.bool false)),tN]),(WK 9)]) (kz 212 0 0 1 0 2 1 10 11 (.ret [(G3 4),(WK 0)]))))
theorem bB1:aV prog f165 dE [.v (some 3),.v (some 3)]=bO5:=by kernel_rfl
def cc8:Tr:=Uq 63 0 3 6 46 (Uq 63 1 3 8 46 (gS 165 [(G3 2),(G3 3)] [(some 3),none] [7,9] [46,46] 55 true (.ret [(G3 4),(W 5 0)])))
theorem ch5:aV prog f72 dE [.v none,.v none]=cc8:=by kernel_rfl
def bB5:Tr:=rX 163 1 1 31 42 (gS 162 [(G1 0),(G1 7)] [(some 1)] [30,32] [42,42] 42 false (rX 163 0 1 37 42 (gS 162 [(G1 1),(G1 9)] [(some 1)] [36,38] [42,42] 42 false (gS 164 [(G1 8),(G1 10)] [none] [33,39] [42,42] 3 true (rn .mul 3 27 40 6 0 11 0 3 (cD 12))))))
def cd0:Tr:=gQ 2 0 0 3 15 (aQ 5 0 (gN 2 3 0 3 18 19 (gN 2 3 0 3 21 22 (Qn .quo 3 23 2 7 0 3 (gN 6 8 0 3 20 24 (cD 9))))) (Mc 23 0 26 3 bB5))
def bN9:Tr:=rn .neq 3 11 12 2 0 3 0 4 (aQ 4 0 (gN 2 3 0 3 18 19 (gN 2 3 0 3 21 22 (Qn .quo 3 23 2 6 0 3 (gN 5 7 0 3 20 24 (cD 8))))) cd0)
def bM3:Tr:=Mc 23 0 7 3 (Gz 23 1 9 3 bN9)
theorem bC6:aV prog f67 dE [.v (some 3),.v (some 3)]=bM3:=by kernel_rfl
theorem OG(x y:Int)(hs:(dg x.natAbs).length+(dg y.natAbs).length<1099511627776:=by omega):aW prog 175 [(iT x:aK),(iT y:aK)] (.ret [iT (x*y)]):=by
 refine eB func175 bv9 ?_;apply vn (br6 un4);apply aA (oA _ _ hs)
 apply aA (iU _ _ (x*y) (by
  rw[<-eC];have hsg:(x*y).natAbs=x.natAbs*y.natAbs:=eC _ _;by_cases h1:x<0<;>by_cases h2:y<0<;>simp only[h1,h2,oV,mX,ne_eq,not_true_eq_false,not_false_eq_true,Bool.true_eq_false,dm,bP,cN]
  ·have:=Int.mul_pos_of_neg_of_neg h1 h2;omega
  ·have:=Int.mul_nonpos_of_nonpos_of_nonneg (Int.le_of_lt h1) (ux.1 h2);omega
  ·have:=Int.mul_nonpos_of_nonneg_of_nonpos (ux.1 h1) (Int.le_of_lt h2);omega
  ·have:=Int.mul_nonneg (ux.1 h1) (ux.1 h2);omega)) rfl
 exact aM
theorem bu2(x y:Int)(hs:(dg x.natAbs).length+(dg y.natAbs).length<1099511627776):aW prog 184 [(iT x:aK),(iT y:aK)] (.ret [iT (x+y)]):=by
 refine eB func184 bt6 ?_;apply vn (bu3 un4);refine vs _ rfl ?_ ?_<;>intro h1
 ·have h1:x<0↔y<0:=by simpa using h1
  apply aA (aD3 _ _ hs);apply aA (iU _ _ (x+y) (by by_cases h2:x<0<;>simp only[h2,oV,mX,dm,bP,cN]<;>omega)) rfl;exact aM
 have h1:¬(x<0↔y<0):=by simpa using h1
 apply aA (sM _ _ hs);apply vn an;dsimp only[aF,aG];rw[show decide (fA (x.natAbs:Int) (y.natAbs:Int)<0)=decide (x.natAbs<y.natAbs) by rw[jZ,rJ];omega];refine vs _ rfl ?_ ?_<;>intro h7
 ·apply aA (OP _ _);apply aA (iU _ _ (x+y) (by by_cases h2:y<0<;>simp only[h2,oV,mX,dm,bP,cN]<;>omega)) rfl;exact aM
 apply aA (OP _ _);apply aA (iU _ _ (x+y) (by by_cases h2:x<0<;>simp only[h2,oV,mX,dm,bP,cN]<;>omega)) rfl;exact aM
theorem aM4(n:Int)(h1:-9223372036854775808<=n)(h2:n<9223372036854775808):aW prog 156 [(.one (.int .i64 n):aK)] (.ret [iT n]):=by
 refine eB func156 aP2 ?_;apply vn an;refine vs _ rfl ?_ ?_<;>intro h1
 ·apply vn (jo ⟨_,un2⟩ jP (c:=n+18446744073709551616) (by rw[qF];omega)) rfl;apply vn (be7 (c:=((n.natAbs:Nat):Int)) (by rw[qF];omega)) rfl;apply aA (oH _);dsimp only[aF,aG];apply aA (iU true _ n (by rw[aD rfl];omega)) rfl;exact aM
 apply vn (jo ⟨_,un2⟩ jP (c:=((n.natAbs:Nat):Int)) (by rw[qF];omega)) rfl;apply aA (oH _);apply aA (iU false _ n (by rw[aH (by simp)];omega)) rfl;exact aM
abbrev qC(q:Rat):List aC:=[dT q.num.natAbs,.bool (decide (q.num<0)),dT (q.den-1)]
abbrev qT(q:Rat):aK:=.agg (qC q)
theorem nI:aj aC.Sub [.exact (.slice none 0 0),.bool false,.exact (.slice none 0 0)] (qC 0):=⟨ax8 rfl,aC.Sub.same,ax8 rfl,trivial⟩
theorem ax7{z:Int}{d:Nat}(hd:d≠0:=by omega):(mkRat z d).num=(if decide (z<0)=true then -((z.natAbs/z.natAbs.gcd d:Nat):Int)else((z.natAbs/z.natAbs.gcd d:Nat):Int))/\(mkRat z d).den=d/z.natAbs.gcd d:=by
 rw[<-Aw hd,Aj hd];refine⟨?_,rfl⟩;show z/_=_;have hg:0<z.natAbs.gcd d:=vV _ (by omega);have hdv:(((z.natAbs.gcd d:Nat)):Int)∣z:=QH.2 (Pu _ _);have h1:=Int.natAbs_ediv_of_dvd hdv;rw[cX]at h1;by_cases h:z<0
 ·rw[cS h,aD rfl,<-h1];have:=Int.ediv_neg_of_neg_of_pos h (b:=((z.natAbs.gcd d:Nat):Int)) (by omega);omega
 ·rw[dh h,aH (by simp),<-h1];have:=Po (ux.1 h) (b:=((z.natAbs.gcd d:Nat):Int)) (by omega);omega
theorem Ql(z:Int)(d:Nat)(hd:0<d)(hs:(dg z.natAbs).length+(dg d).length<137438953472:=by omega):aW prog 174 [(iT z:aK),(mT d:aK)] (.ret [qT (mkRat z d)]):=by
 refine eB func174 aT8 ?_;have hg:0<z.natAbs.gcd d:=vV _ hd;have hgd:z.natAbs.gcd d<=d:=Nat.gcd_le_right _ hd;have hgl:=oM hgd;obtain⟨hm1,hm2⟩:=ax7 (z:=z) (d:=d);have hq:0<d/z.natAbs.gcd d:=mO hgd hg;have hql:=oM (qX d (z.natAbs.gcd d));have hone:(dg 1).length=1:=by rw[uF];rfl
 generalize hG:z.natAbs.gcd d=g at *
 apply aA (as3 _ _ (by
  rcases Nat.le_total z.natAbs d with h | h
  ·rw[Nat.max_eq_right h];omega
  ·rw[Nat.max_eq_left h];omega)) rfl
 rw[hG];apply aA (bt0 _);apply vn yS;refine vs _ rfl ?_ ?_<;>intro h3
 ·apply aA (Py _ _ hg);dsimp only[aF,aG];apply aA (Py _ _ hg);apply aA (iU _ _ (mkRat z d).num hm1);apply aA (oH 1);apply aA (OP _ _ hq hq);rw[<-hm2];exact aM
 have hg1:g=1:=by simpa using h3
 subst hg1;rw[oD]at hm1 hm2;apply aA (iU _ _ (mkRat z d).num hm1);dsimp only[aF,aG];apply aA (oH 1);apply aA (OP _ _ hd hd);dsimp only[aF,aG];refine aM ?_;show[aK.agg [dT _,.bool _,dT (d-1)]]=[aK.agg [_,_,dT ((mkRat z d).den-1)]];rw[hm2]
theorem fK(q:Rat)(h:(dg q.den).length<1099511627775:=by omega):aW prog 163 [(qT q:aK)] (.ret [mT q.den]):=by
 refine eB func163 ak5 ?_;have hp:=q.den_pos;have hl:=oM (Nat.sub_le q.den 1);have hone:(dg 1).length=1:=by rw[uF];rfl
 apply aA (oH 1);apply aA (aD3 _ _);rw[show q.den-1+1=q.den by omega];exact aM
theorem aV0(z:Int):aW prog 155 [(iT z:aK)] (.ret [qT (z:Rat)]):=by
 refine eB func155 bd4 ?_;exact jG ⟨⟨aC.Sub.same,aC.Sub.same,ax8 rfl,trivial⟩,trivial⟩
theorem Br(n:Int)(h1:-9223372036854775808<=n:=by omega)(h2:n<9223372036854775808:=by omega):aW prog 63 [(.one (.int .i64 n):aK)] (.ret [qT (n:Rat)]):=by
 refine eB func63 bT8 ?_;apply aA (aM4 _ h1 h2);apply aA (aV0 _);exact aM
theorem lY(q:Rat):aW prog 23 [(qT q:aK)] (.ret [.one (.int .i64 q.num.sign)]):=by
 refine eB func23 bb6 ?_;apply aA (aZ5 _);exact aM
theorem Fit.dl{B:Nat}{q:Rat}(h:Fit B q):(dg q.num.natAbs).length<=B/\(dg q.den).length<=B:=⟨jT h.1,jT h.2⟩
theorem Pp(q:Rat):aW prog 65 [(qT q:aK)] (.ret [qT (-q)]):=by
 refine eB func65 bC5 ?_;apply vn yS
 apply aA (iU _ _ (-q).num (by
  rw[zm];by_cases h:q.num<0<;>simp only[h,not_true_eq_false,not_false_eq_true,oV,mX,dm,bP,cN]<;>omega)) rfl
 dsimp only[aF,aG];refine aM ?_;show[qT _]=_;simp only[qT,qC,AD]
theorem ze(q:Rat):q.abs.num=(q.num.natAbs:Int)/\q.abs.den=q.den:=by
 unfold Rat.abs;have h:=NY (q:=q);split
 ·rename_i h0;have:=h.2 h0;exact⟨by omega,rfl⟩
 ·rename_i h0;have:¬0<=q.num:=fun e=>h0 (h.1 e);exact⟨by rw[zm];omega,AD _⟩
theorem bn0(q:Rat):aW prog 168 [(qT q:aK)] (.ret [qT q.abs]):=by
 refine eB func168 by8 ?_;apply aA (iU false _ (q.abs).num (by rw[aH (by simp)];exact(ze q).1)) rfl;dsimp only[aF,aG];refine aM ?_;show[aK.agg [dT q.abs.num.natAbs,.bool (decide (q.abs.num<0)),dT (q.den-1)]]=[qT q.abs];simp only[qT,qC,(ze q).2]
theorem jM(a b:Rat)(A B:Nat)(ha:Fit A a)(hb:Fit B b)(h:A+B<=34359738368:=by omega):aW prog 76 [(qT a:aK),(qT b:aK)] (.ret [qT (a*b)]):=by
 refine eB func76 bA2 ?_;obtain⟨ha1,ha2⟩:=Fit.dl ha;obtain⟨hb1,hb2⟩:=Fit.dl hb;have hn:=jT (bM ha.1 hb.1);have hd:=jT (bM ha.2 hb.2);apply aA (OG _ _);apply aA (fK a);apply aA (fK b);apply aA (oA _ _);dsimp only[aF,aG];apply aA (Ql _ _ (jA a.den_pos b.den_pos) (by rw[eC];omega)) rfl;rw[<-Nu];exact aM
theorem pZ(a b:Rat)(A B:Nat)(ha:Fit A a)(hb:Fit B b)(h:A+B<=34359738368:=by omega):aW prog 88 [(qT a:aK),(qT b:aK)] (.ret [qT (a+b)]):=by
 refine eB func88 br8 ?_;obtain⟨ha1,ha2⟩:=Fit.dl ha;obtain⟨hb1,hb2⟩:=Fit.dl hb;have hn1:=jT (bM ha.1 hb.2);have hn2:=jT (bM hb.1 ha.2);have hd:=jT (bM ha.2 hb.2)
 have hsum:(dg (a.num*(b.den:Int)+b.num*(a.den:Int)).natAbs).length<=A+B+1:=by
  apply jT;have h1:=bM ha.1 hb.2;have h2:=bM hb.1 ha.2;rw[gD B A]at h2;rw[bW];refine dV (AR _ _) ?_;rw[eC,eC,cX,cX];omega
 apply aA (fK a);apply aA (fK b);apply aA (OG a.num (b.den:Int) (by rw[cX];omega)) rfl;apply aA (OG b.num (a.den:Int) (by rw[cX];omega)) rfl;dsimp only[aF,aG];apply aA (bu2 _ _ (by rw[eC,eC,cX,cX];omega)) rfl;apply aA (oA _ _);apply aA (Ql _ _ (jA a.den_pos b.den_pos));rw[<-Ru];exact aM
theorem kO(a b:Rat)(A B:Nat)(ha:Fit A a)(hb:Fit B b)(h:A+B<=34359738368:=by omega):aW prog 86 [(qT a:aK),(qT b:aK)] (.ret [qT (a-b)]):=by
 refine eB func86 bF9 ?_;apply aA (Pp b);apply aA (pZ a (-b) A B ha hb.neg h);rw[<-Af];exact aM
theorem ay7{a b:Rat}(hb:b≠0):mkRat (a.num*(if decide (b.num<0)=true then -(b.den:Int)else b.den)) (a.den*b.num.natAbs)=a/b:=by
 have hn:b.num≠0:=fun e=>hb (lT.1 e)
 have e:b⁻¹=mkRat (if decide (b.num<0)=true then -(b.den:Int)else b.den) b.num.natAbs:=by
  rw[Rat.inv_def];by_cases h:b.num<0
  ·rw[cS h,aD rfl]
   conv=>lhs;rw[show b.num=-((b.num.natAbs:Nat):Int) by omega]
   rw[Rat.divInt_neg',Rat.divInt_ofNat]
  ·rw[dh h,aH (by simp)]
   conv=>lhs;rw[show b.num=((b.num.natAbs:Nat):Int) by omega]
   rw[Rat.divInt_ofNat]
 rw[vg,e]
 conv=>rhs;rw[<-Rat.mkRat_self a]
 rw[Zf]
theorem aP3(a b:Rat)(A B:Nat)(hb0:b≠0)(ha:Fit A a)(hb:Fit B b)(h:A+B<=34359738368):aW prog 212 [(qT a:aK),(qT b:aK)] (.ret [qT (a/b)]):=by
 refine eB func212 aX0 ?_;obtain⟨ha1,ha2⟩:=Fit.dl ha;obtain⟨hb1,hb2⟩:=Fit.dl hb;have hn:b.num≠0:=fun e=>hb0 (lT.1 e);have hn1:=jT (bM ha.1 hb.2);have hd:=jT (bM ha.2 hb.1);obtain⟨z,hz⟩:∃z:Int,(if decide (b.num<0)=true then -(b.den:Int)else b.den)=z:=⟨_,rfl⟩
 have hza:z.natAbs=b.den:=by rw[<-hz];split<;>simp
 apply aA (fK b);apply aA (iU _ _ z hz.symm);apply aA (OG a.num z (by rw[hza];omega)) rfl;apply aA (fK a);dsimp only[aF,aG];apply aA (oA _ _);apply aA (Ql _ _ (jA a.den_pos (by omega)) (by rw[eC,hza];omega)) rfl;rw[<-hz,ay7 hb0];exact aM
theorem sign_zero{q:Rat}:q.num.sign=0↔q=0:=by rw[zh,lT]
theorem XS(a b:Rat)(A B:Nat)(ha:Fit A a)(hb:Fit B b)(h:A+B<=34359738368:=by omega):aW prog 165 [(qT a:aK),(qT b:aK)] (.ret [qT (if b=0 then 0 else a/b),.one (.int .i64 (if b=0 then 9 else 0))]):=by
 refine eB func165 bB1 ?_;apply aA (lY b);apply vn cF;refine vs _ rfl ?_ ?_<;>intro h2
 ·have h2:b=0:=sign_zero.1 h2;rw[aD h2,aD h2];exact jG ⟨nI,aK.Sub.same,trivial⟩
 have h2:¬b=0:=fun e=>h2 (sign_zero.2 e);rw[aH h2,aH h2];apply aA (aP3 a b A B h2 ha hb h);exact aM
theorem sG{n:Int}(h1:-9223372036854775808<=n:=by omega)(h2:n<9223372036854775808:=by omega):Fit 64 (n:Rat):=Fit.int (by omega) (by omega)
theorem bx8(n d:Int)(h1:-9223372036854775808<=n:=by omega)(h2:n<9223372036854775808:=by omega)(h3:-9223372036854775808<=d:=by omega)(h4:d<9223372036854775808:=by omega):aW prog 72 [(.one (.int .i64 n):aK),(.one (.int .i64 d):aK)] (.ret [qT (if d=0 then 0 else(n:Rat)/(d:Rat)),.one (.int .i64 (if d=0 then 9 else 0))]):=by
 refine eB func72 ch5 ?_
 have e:((d:Rat)=0)↔d=0:=by
  rw[<-lT,sY]
 have hd:=XS (n:Rat) (d:Rat) 64 64 (sG h1 h2) (sG h3 h4);simp only[e]at hd;apply aA (Br n h1 h2);apply aA (Br d h3 h4);apply aA hd;exact aM
def gy(a b:Rat):Int:=if a<b then -1 else if b<a then 1 else 0
theorem xd(a b:Rat):gy a b=fA (a.num*b.den) (b.num*a.den):=by
 unfold gy fA;simp only[Rat.lt_iff]
theorem cp(z:Int):(z<0/\z.sign=-1)\/(z=0/\z.sign=0)\/(0<z/\z.sign=1):=by
 rcases Qg z 0 with h | h | h
 ·exact .inl ⟨h,oK h⟩
 ·exact .inr (.inl ⟨h,by rw[h];rfl⟩)
 ·exact .inr (.inr ⟨h,fZ h⟩)
theorem ZX{a b:Rat}(h:a.num.sign≠b.num.sign\/a.num.sign=0):gy a b=a.num.sign-b.num.sign-(a.num.sign-b.num.sign).tdiv 2:=by
 rw[xd];have ha:=a.den_pos;have hb:=b.den_pos
 have key:∀(x:Int)(d:Nat),0<d->(x<0->x*(d:Int)<0)/\(x=0->x*(d:Int)=0)/\(0<x->0<x*(d:Int)):=fun x d hd=>
  ⟨fun h=>Int.mul_neg_of_neg_of_pos h (by omega),fun h=>by rw[h,Int.zero_mul],fun h=>Int.mul_pos h (by omega)⟩
 obtain⟨k1,k2,k3⟩:=key a.num b.den hb;obtain⟨l1,l2,l3⟩:=key b.num a.den ha
 rcases cp a.num with⟨h1,e1⟩ | ⟨h1,e1⟩ | ⟨h1,e1⟩<;>rcases cp b.num with⟨h2,e2⟩ | ⟨h2,e2⟩ | ⟨h2,e2⟩<;>rw[e1,e2]at h|- <;> simp only[fA]<;>(try (exfalso;revert h;decide)) <;>
  (first
   | have i1:=k1 h1
   | have i1:=k2 h1
   | have i1:=k3 h1) <;>
  (first
   | have i2:=l1 h2
   | have i2:=l2 h2
   | have i2:=l3 h2) <;>
  (first
   | (rw[aD (by omega)];rfl)
   | (rw[aH (by omega),aD (by omega)];rfl)
   | (rw[aH (by omega),aH (by omega)];rfl))
theorem bb7{a b:Rat}(h0:a.num.sign≠0)(h:a.num.sign=b.num.sign:=by omega):gy a b=a.num.sign*fA ((a.num.natAbs*b.den:Nat):Int) ((b.num.natAbs*a.den:Nat):Int):=by
 rw[xd];rcases cp a.num with⟨h1,e1⟩ | ⟨h1,e1⟩ | ⟨h1,e1⟩
 ·have h2:b.num<0:=by
   rcases cp b.num with⟨h2,e2⟩ | ⟨h2,e2⟩ | ⟨h2,e2⟩
   ·exact h2
   ·omega
   ·omega
  have ea:a.num*(b.den:Int)=-((a.num.natAbs*b.den:Nat):Int):=by
   rw[iI,<-Int.neg_mul];congr 1;omega
  have eb:b.num*(a.den:Int)=-((b.num.natAbs*a.den:Nat):Int):=by
   rw[iI,<-Int.neg_mul];congr 1;omega
  rw[e1,ea,eb];generalize ((a.num.natAbs*b.den:Nat):Int)=p;generalize ((b.num.natAbs*a.den:Nat):Int)=q;unfold fA;split<;>(try split)<;>(try split)<;>(try split)<;>omega
 ·omega
 ·have h2:0<b.num:=by
   rcases cp b.num with⟨h2,e2⟩ | ⟨h2,e2⟩ | ⟨h2,e2⟩
   ·omega
   ·omega
   ·exact h2
  have ea:a.num*(b.den:Int)=((a.num.natAbs*b.den:Nat):Int):=by
   rw[iI];congr 1;omega
  have eb:b.num*(a.den:Int)=((b.num.natAbs*a.den:Nat):Int):=by
   rw[iI];congr 1;omega
  rw[e1,ea,eb,Int.one_mul]
theorem ot(a b:Rat)(A B:Nat)(ha:Fit A a)(hb:Fit B b)(h:A+B<=34359738368:=by omega):aW prog 67 [(qT a:aK),(qT b:aK)] (.ret [.one (.int .i64 (gy a b))]):=by
 refine eB func67 bC6 ?_;obtain⟨ha1,ha2⟩:=Fit.dl ha;obtain⟨hb1,hb2⟩:=Fit.dl hb;have hn1:=jT (bM ha.1 hb.2);have hn2:=jT (bM hb.1 ha.2);have hsa:-1<=a.num.sign/\a.num.sign<=1:=by rcases cp a.num with⟨_,e⟩ | ⟨_,e⟩ | ⟨_,e⟩<;>omega
 have hsb:-1<=b.num.sign/\b.num.sign<=1:=by rcases cp b.num with⟨_,e⟩ | ⟨_,e⟩ | ⟨_,e⟩<;>omega
 have htd:-1<=(a.num.sign-b.num.sign).tdiv 2/\(a.num.sign-b.num.sign).tdiv 2<=1:=by
  rcases cp a.num with⟨_,e⟩ | ⟨_,e⟩ | ⟨_,e⟩<;>rcases cp b.num with⟨_,e2⟩ | ⟨_,e2⟩ | ⟨_,e2⟩<;>rw[e,e2]<;>decide
 apply aA (lY a);apply aA (lY b);apply vn gW;refine vs _ rfl ?_ ?_<;>intro h3
 ·apply vn (aO (by omega) (by omega));dsimp only[aF,aG];apply vn (aO (by omega) (by omega));apply vn (pJ (c:=(a.num.sign-b.num.sign).tdiv 2) (by decide) (gI));apply vn (aO (by omega) (by omega));dsimp only[aF,aG];rw[ZX (.inl h3)];exact aM
 apply vn cF;refine vs _ rfl ?_ ?_<;>intro h10
 ·apply vn (aO (by omega) (by omega));apply vn (aO (by omega) (by omega));apply vn (pJ (c:=(a.num.sign-b.num.sign).tdiv 2) (by decide) (gI));dsimp only[aF,aG];apply vn (aO (by omega) (by omega));dsimp only[aF,aG];rw[ZX (.inr h10)];exact aM
 apply aA (lY a);apply aA (fK b);apply aA (oA _ _);apply aA (fK a);dsimp only[aF,aG];apply aA (oA _ _);apply aA (sM _ _);dsimp only[aF,aG]
 have hci:-1<=fA ((a.num.natAbs*b.den:Nat):Int) ((b.num.natAbs*a.den:Nat):Int)/\fA ((a.num.natAbs*b.den:Nat):Int) ((b.num.natAbs*a.den:Nat):Int)<=1:=by
  unfold fA;split<;>(try split)<;>omega
 rw[bb7 h10];generalize fA ((a.num.natAbs*b.den:Nat):Int) ((b.num.natAbs*a.den:Nat):Int)=c at hci|-;generalize a.num.sign=s at hsa h10|-
 apply vn (uz (c:=s*c) (by
  rcases(by omega:s=-1\/s=1)with rfl | rfl
  ·exact gI
  ·exact gI)) rfl
 exact aM
end Go.Sy
