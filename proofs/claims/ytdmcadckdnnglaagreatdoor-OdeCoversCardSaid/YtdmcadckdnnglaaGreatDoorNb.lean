/- Part. -/
import Derived.Test.YtdmcadckdnnglaaGreatDoorNa
import Derived.RangeFuncBox
import Derived.Shelf.Abstract
import Derived.WalkKit
import Derived.OwnWalkIn
import Derived.TacticsInMore
import Derived.LoopNIn
import Derived.LoopIn
set_option linter.all false
set_option maxHeartbeats 2000000
set_option maxRecDepth 100000
namespace Go.Sy
def tz:=@Go.belowK_b
open Go Go.Proofs Tryz Ord
def bg7:Tr:=dL 20 8 33 51 52 (lQ 20 8 255 53 (da 21 0 15 0 255 54 55 (dL 20 8 33 51 52 (ec 20 8 22 255 57 56 (bD 8 1 3 19 (qv 1 24 23))))))
def aU7:Tr:=dL 9 8 33 51 52 (lQ 9 8 255 53 (da 18 0 15 0 255 54 55 (dL 9 8 33 51 52 (ec 9 8 19 255 57 56 (bD 8 1 3 19 (qv 0 21 20))))))
def bh3:Tr:=cU 16 15 0 255 40 41 4 (aH 17 0 (dL 9 8 33 45 46 (lQ 9 8 255 47 (RA 18 1000000000 48 (dL 9 8 33 43 44 (ec 9 8 19 255 50 49 bg7))))) aU7)
def bh2:Tr:=dL 18 8 33 51 52 (lQ 18 8 255 53 (da 19 0 7 0 255 54 55 (dL 18 8 33 51 52 (ec 18 8 20 255 57 56 (bD 8 1 3 19 (qv 1 22 21))))))
def aY2:Tr:=dL 9 8 33 51 52 (lQ 9 8 255 53 (da 16 0 7 0 255 54 55 (dL 9 8 33 51 52 (ec 9 8 17 255 57 56 (bD 8 1 3 19 (qv 0 19 18))))))
def bl1:Tr:=cU 14 7 0 255 40 41 4 (aH 15 0 (dL 9 8 33 45 46 (lQ 9 8 255 47 (RA 16 1000000000 48 (dL 9 8 33 43 44 (ec 9 8 17 255 50 49 bh2))))) aY2)
def bA9:Tr:=cU 8 11 0 3 23 26 4 (aH 12 0 (gb 1 0 8 0 33 30 31 (bm 13 255 32 (fG 7 0 14 0 255 28 33 (dL 9 8 33 37 38 (lQ 9 8 255 39 bh3))))) (RM 7 0 35 (aH 13 0 (wO 197 1 9 1 59 33 35 (pR 14)) (dL 9 8 33 37 38 (lQ 9 8 255 39 bl1)))))
def bH4:Tr:=aj3 3 0 13 15 (uk 5 17 33 (LB 5 (cU 8 6 0 3 19 18 0 (aH 10 0 (au 1 0 25 33 bA9) (wO 197 1 9 1 59 33 35 (pR 11))))))
def bN6:Tr:=au 0 0 10 33 (EB 2 11 bH4)
def aU4:aM prog f194 bZ [.v (some 1),.v (some 1)]=bN6:=by kernel_rfl
def aV0:Tr:=aH 23 0 (bD 21 1000000000 2 44 (fM 24 2 255 48 (dL 7 6 33 46 47 (ec 7 6 25 255 50 49 (bD 6 1 3 13 (Kn 22 1 27 26)))))) (fM 21 2 255 48 (dL 7 6 33 46 47 (ec 7 6 24 255 50 49 (bD 6 1 3 13 (Kn 22 0 26 25)))))
def aP7:Tr:=fM 16 255 2 32 (JH 15 34 (fM 18 254 2 35 (da 17 0 19 0 2 33 36 (da 20 0 5 0 2 37 38 (LC 15 40 (iJ 21 0 0 2 42 aV0))))))
def bF8:Tr:=gb 1 0 6 0 33 22 23 (bm 11 255 24 (fM 12 255 254 25 (uW .mul 254 21 26 2 0 13 0 254 (fG 4 0 14 0 254 20 27 (dL 7 6 33 29 30 (lQ 7 6 255 31 aP7))))))
def aY0:Tr:=aH 18 0 (bD 16 1000000000 2 44 (fM 19 2 255 48 (dL 7 6 33 46 47 (ec 7 6 20 255 50 49 (bD 6 1 3 13 (Kn 17 1 22 21)))))) (fM 16 2 255 48 (dL 7 6 33 46 47 (ec 7 6 19 255 50 49 (bD 6 1 3 13 (Kn 17 0 21 20)))))
def aW3:Tr:=fM 11 255 2 32 (JH 4 34 (fM 13 254 2 35 (da 12 0 14 0 2 33 36 (da 15 0 5 0 2 37 38 (LC 4 40 (iJ 16 0 0 2 42 aY0))))))
def bG5:Tr:=cU 6 3 0 3 13 12 0 (aH 8 0 (au 1 0 17 33 (cU 6 9 0 3 16 18 4 (aH 10 0 bF8 (dL 7 6 33 29 30 (lQ 7 6 255 31 aW3))))) (lP 5 2 52 (.retr [(W 9 0)] 7)))
def bK0:Tr:=uk 0 11 33 (.loop 0 [(.w (.one (.c (.k (.int .u64 0))))),lK 0,lK 0,.row 0] bG5)
def RS:Mm prog f251 (fun _=>none) [.lent 255 1,.v none,.v none]=bK0:=by kernel_rfl
def bh1:Tr:=JE 13 29 (aH 14 0 (Jt 13 31 (dL 5 4 33 33 34 (ec 5 4 15 255 36 35 (bD 4 1 3 10 (qv 1 17 16))))) (dL 5 4 33 33 34 (ec 5 4 13 255 36 35 (bD 4 1 3 10 (qv 0 16 15)))))
def aQ9:Tr:=JE 8 29 (aH 11 0 (Jt 8 31 (dL 5 4 33 33 34 (ec 5 4 12 255 36 35 (bD 4 1 3 10 (qv 1 14 13))))) (dL 5 4 33 33 34 (ec 5 4 8 255 36 35 (bD 4 1 3 10 (qv 0 13 12)))))
def bz8:Tr:=fG 7 0 3 0 255 16 17 (au 1 0 20 33 (cU 4 9 0 3 19 21 4 (aH 10 0 (gb 1 0 4 0 33 24 25 (bm 11 255 26 (fG 8 0 12 0 255 23 27 bh1))) aQ9)))
def bE6:Tr:=uk 0 8 33 (LB 0 (cU 4 2 0 3 10 9 0 (aH 6 0 (dL 5 4 33 13 14 (lQ 5 4 255 15 bz8)) (.need (.prim [(W 3 0),(.one (.c (.k (.int .u32 0))))] none) (.binOp .neq 255 (tT 38) (.const (.int .u32 0)) 255) 4 false (.retr [(W 7 0)] 5)))))
def RN:Mm prog f252 (fun _=>none) [.lent 255 1,.v none]=bE6:=by kernel_rfl
structure Md(xs ys:List Nat)(i b:Nat)(os:List Nat):Prop where
 h:jE 1000000000 xs ys 1 i 0 b os
def Md.init{xs:List Nat}(hx:Dg xs)(ys:List Nat):Md xs ys 0 0 xs:=⟨jE.init hx ys 1⟩
def Md.next{xs ys os:List Nat}{i b x y z b':Nat}(h:Md xs ys i b os)(hx:xs[i]?=some x)(hy:ys[i]?.getD 0=y)(hyB:y<1000000000)(hz:z<1000000000)(hb:b'<=1)(he:z+y+b=x+1000000000*b') :
  Md xs ys (i+1) b' (os.set i z):=by
 have:=h.h.next O O hx hy hyB hz hb (by rw[Nat.zero_add,Nat.one_mul,Nat.mod_eq_of_lt hyB];exact he);rw[Nat.zero_add,Nat.one_mul,Nat.div_eq_of_lt hyB]at this;exact⟨this⟩
def Md.fin{xs ys os:List Nat}{i b:Nat}(h:Md xs ys i b os)(hle:lv ys<=lv xs)(he:b=0/\ys.length<=i\/i=xs.length/\ys.length<=xs.length):lv os+lv ys=lv xs:=by
 have h1:=h.h.eq;rw[Nat.one_mul,Nat.zero_add]at h1;rcases he with⟨rfl,hl⟩ | ⟨rfl,hl⟩
 ·rw[Nat.mul_zero,Nat.add_zero,List.take_of_length_le hl]at h1
  have e:∀l:List Nat,i<=l.length->lv l=lv (l.take i)+1000000000^i*lv (l.drop i):=fun l hl=>by
   conv=>lhs;rw[<-qc i l]
   rw[tg,List.length_take,Nat.min_eq_left hl]
  rw[e os (by rw[h.h.len];exact h.h.le),e xs h.h.le,h.h.rest];simp only[lv]at h1|-;omega
 ·rw[List.take_of_length_le (by rw[h.h.len];omega),List.take_length,List.take_of_length_le hl]at h1;have h2:=DB.lt O h.h.dg;rw[h.h.len]at h2;have hb:=h.h.b1;rcases(by omega:b=0\/b=1)with rfl | rfl
  ·show val _ os+val _ ys=val _ xs;omega
  ·have hle:val 1000000000 ys<=val 1000000000 xs:=hle;omega
def lq{a b:Nat}(h:a<=b):(dg a).length<=(dg b).length:=jt (Nat.lt_of_le_of_lt h (kn O b))
def Kx(a b:Nat)(hab:b<=a:=by omega)(ha:0<a:=by omega)(hs:(dg a).length<1099511627776:=by omega):aL prog 194 [(mT a:aG),(mT b:aG)] (.ret [mT (a-b)]):=by
 refine bw func194 aU4 ?_;have hlen:=lq hab;have hane:dg a≠[]:=fun e=>by have:=yN.1 e;omega
 apply vn (aU dS (aR _));dsimp only[aO,aP];refine CA (f:=fun d:Nat=>[aE.int .u32 (d:Int)]) 0 rfl rfl rfl rfl O (by simp only[maxLen];omega) ?_;refine Xq (xs:=dg a) (ws:=dg a) (fun _=>rfl) rfl rfl dS (by simp) (by simpa using hane) (by simp) ?_;refine Qk rfl (aR _) ?_;refine ao {g:Nat×Nat×List Nat // Md (dg a) (dg b) g.1 g.2.1 g.2.2} (fun g=>[.one (.int .u32 g.1.2.1),.one (.int .i64 g.1.1),.rows (rT g.1.2.2)]) (fun g=>(dg a).length-g.1.1) ⟨(0,0,dg a),Md.init (ke a) _⟩ aQ.rfl (fun _=>rfl) ?_;rintro⟨⟨i,c,os⟩,hI⟩;dsimp only[aO,aP]at hI|-;have hol:=hI.h.len;have hil:=hI.h.le;have hc:=hI.h.b1;have hle:lv (dg b)<=lv (dg a):=by rw[gw,gw];exact hab
 have fin:(c=0/\(dg b).length<=i\/i=(dg a).length/\(dg b).length<=(dg a).length)->lv os=a-b:=fun h=>by
  have:=hI.fin hle h;rw[gw,gw]at this;omega
 apply vn ak;refine vs _ rfl ?_ ?_<;>intro h6
 ·have hx:(dg a)[i]?=some ((dg a)[i]' O):=ay O;generalize (dg a)[i]' O=x at hx;have hxB:=(ke a).get hx;have ho:=hI.h.get hx;apply vn (aU dS (aR _));apply vn ak;refine vs _ rfl ?_ ?_<;>intro h9
  ·have hy:(dg b)[i]?=some ((dg b)[i]' O):=ay O;generalize (dg b)[i]' O=y at hy;have hyB:=(ke b).get hy;apply vn (aZ dS hy);apply vn (av xW);apply vn mD;refine cy rfl rfl O (by first | omega | (rw[List.length_set];omega)) ?_;refine pr rfl rfl O O ho rfl ?_;apply vn ak;dsimp only[aO,aP];refine vs _ rfl ?_ ?_<;>intro h16
   ·refine cy rfl rfl O (by first | omega | (rw[List.length_set];omega)) ?_;refine pr rfl rfl O O ho rfl ?_;apply vn mD;refine cy rfl rfl O (by first | omega | (rw[List.length_set];omega)) ?_;refine mY (d':=x+1000000000) rfl rfl O O ho rfl ?_;refine cy rfl rfl O (by first | omega | (rw[List.length_set];omega)) ?_;refine Wj (d:=x+1000000000) rfl rfl O O (vU O) (.inr rfl) rfl ?_;apply vn mL;refine cy rfl rfl O (by first | omega | (rw[List.length_set];omega)) ?_;refine mY (d:=x+1000000000) (d':=x+1000000000-(y+c)) rfl rfl O O (vU O) ?_ ?_
    ·show[aE.int .u32 _]=[aE.int .u32 _]
     congr 2;omega
    rw[List.set_set];apply vn aC;dsimp only[aO,aP];exact aW rfl ⟨⟨(i+1,1,os.set i (x+1000000000-(y+c))),hI.next (b':=1) (z:=x+1000000000-(y+c)) hx (by rw[hy];rfl) hyB O O O⟩,aQ.rfl,by show(dg a).length-(i+1)<(dg a).length-i;omega⟩
   refine cy rfl rfl O (by first | omega | (rw[List.length_set];omega)) ?_;refine pr rfl rfl O O ho rfl ?_;apply vn mL;refine cy rfl rfl O (by first | omega | (rw[List.length_set];omega)) ?_;refine mY (d':=x-(y+c)) rfl rfl O O ho ?_ ?_
   ·show[aE.int .u32 _]=[aE.int .u32 _]
    congr 2;omega
   apply vn aC;dsimp only[aO,aP];exact aW rfl ⟨⟨(i+1,0,os.set i (x-(y+c))),hI.next (b':=0) (z:=x-(y+c)) hx (by rw[hy];rfl) hyB O O O⟩,aQ.rfl,by show(dg a).length-(i+1)<(dg a).length-i;omega⟩
  apply vn bK;refine vs _ rfl ?_ ?_<;>intro h37
  ·apply aA (jK os hI.h.dg);dsimp only[aO,aP];refine aK ?_;rw[fin (.inl O)];rfl
  have hnone:(dg b)[i]?=none:=List.getElem?_eq_none_iff.2 O;refine cy rfl rfl O (by first | omega | (rw[List.length_set];omega)) ?_;refine pr rfl rfl O O ho rfl ?_;apply vn ak;refine vs _ rfl ?_ ?_<;>intro h43
  ·refine cy rfl rfl O (by first | omega | (rw[List.length_set];omega)) ?_;refine pr rfl rfl O O ho rfl ?_;apply vn mD;refine cy rfl rfl O (by first | omega | (rw[List.length_set];omega)) ?_;refine mY (d':=x+1000000000) rfl rfl O O ho rfl ?_;refine cy rfl rfl O (by first | omega | (rw[List.length_set];omega)) ?_;refine Wj (d:=x+1000000000) rfl rfl O O (vU O) (.inr rfl) rfl ?_;apply vn mL;refine cy rfl rfl O (by first | omega | (rw[List.length_set];omega)) ?_;refine mY (d:=x+1000000000) (d':=x+1000000000-c) rfl rfl O O (vU O) ?_ ?_
   ·show[aE.int .u32 _]=[aE.int .u32 _]
    congr 2;omega
   rw[List.set_set];dsimp only[aO,aP];apply vn aC;dsimp only[aO,aP];exact aW rfl ⟨⟨(i+1,1,os.set i (x+1000000000-c)),hI.next (b':=1) (z:=x+1000000000-c) (y:=0) hx (by rw[hnone];rfl) O O O O⟩,aQ.rfl,by show(dg a).length-(i+1)<(dg a).length-i;omega⟩
  refine cy rfl rfl O (by first | omega | (rw[List.length_set];omega)) ?_;refine pr rfl rfl O O ho rfl ?_;apply vn mL;refine cy rfl rfl O (by first | omega | (rw[List.length_set];omega)) ?_;refine mY (d':=x-c) rfl rfl O O ho ?_ ?_
  ·show[aE.int .u32 _]=[aE.int .u32 _]
   congr 2;omega
  apply vn aC;dsimp only[aO,aP];exact aW rfl ⟨⟨(i+1,0,os.set i (x-c)),hI.next (b':=0) (z:=x-c) (y:=0) hx (by rw[hnone];rfl) O O O O⟩,aQ.rfl,by show(dg a).length-(i+1)<(dg a).length-i;omega⟩
 apply aA (jK os hI.h.dg);dsimp only[aO,aP];refine aK ?_;rw[fin (.inr ⟨O,hlen⟩)];rfl
def Sw{b:Nat}{p:Prop}[Decidable p](h:b=if p then 1 else 0):decide ((b:Int)≠0)=decide p:=by
 subst h;by_cases hp:p<;>simp[hp]
def Qv(xs ys:List Nat)(t:Nat)(hx:Dg xs)(hy:Dg ys)(ht:t<1000000000)(hl:ys.length<xs.length)(hs:xs.length<1099511627776):tU prog 251 255 1 [] [(.one (.slice 1 (rT ys)):aG),(.one (.int .u64 t):aG)] (rT xs) [.one (.bool (decide (lv xs<t*lv ys)))] (rT (pd 1000000000 xs.length (lv xs+1000000000^xs.length*(if lv xs<t*lv ys then 1 else 0)-t*lv ys))):=by
 refine CK (a1:=[]) (a2:=[.v none,.v none]) (i1:=[]) (i2:=[.v (.one (.slice 1 (rT ys))),.v (.one (.int .u64 t))]) (hints:=(fun _=>none)) fo (by kernel_rfl) func251 trivial ⟨rfl,rfl,trivial⟩ (by kernel_rfl) ?_ ?_ ?_ ?_
 ·simp[rT]
 ·simp[rT]
 ·simp[rT]
 dsimp only[aO,aP];rw[RS];dsimp only[List.map,In.env,aO,aP];refine Qk rfl (aR _) ?_;refine ao {g:Nat×Nat×Nat×List Nat // jE 1000000000 xs ys t g.1 g.2.1 g.2.2.1 g.2.2.2} (fun g=>[.one (.int .u64 g.1.2.1),.one (.int .i64 g.1.2.2.1),.one (.int .i64 g.1.1),.rows (rT g.1.2.2.2)]) (fun g=>xs.length-g.1.1) ⟨(0,0,0,xs),jE.init hx _ _⟩ aQ.rfl (fun _=>rfl) ?_;rintro⟨⟨i,c,b,os⟩,hI⟩;dsimp only[aO,aP]at hI|-;have hol:=hI.len;have hil:=hI.le;have hc:=hI.c1;have hb:=hI.b1;apply vn ak;refine vs _ rfl ?_ ?_<;>intro h3
 ·have hgx:xs[i]?=some (xs[i]' O):=ay O;generalize xs[i]' O=x at hgx;have hxB:=hx.get hgx;have ho:=hI.get hgx;apply vn (aU dS (aR _));apply vn ak;refine vs _ rfl ?_ ?_<;>intro h6
  ·have hgy:ys[i]?=some (ys[i]' O):=ay O;generalize ys[i]' O=y at hgy;have hyB:=hy.get hgy;have hty:t*y<=999999999*999999999:=cV O O;obtain⟨w,hw⟩:∃w,c+t*y=w:=⟨_,rfl⟩
   have hwB:w<1000000000*1000000000:=O
   have hm:∀z b':Nat,z<1000000000->b'<=1->z+w%1000000000+b=x+1000000000*b'->jE 1000000000 xs ys t (i+1) (w/1000000000) b' (os.set i z):=fun z b' h1 h2 h3=>by
    have:=hI.next O ht hgx (by rw[hgy];rfl) hyB h1 h2 (by rw[hw];exact h3);rw[hw]at this;exact this
   apply vn (aZ dS hgy);apply vn (av xW);apply vn (rk ⟨_,gx⟩ ia);apply vn (qu (c:=((t*y:Nat):Int)) (by rw[<-Int.natCast_mul,rl]<;>omega)) rfl;apply vn (dp (c:=(w:Int)) (by rw[rl]<;>omega)) rfl;dsimp only[aO,aP];refine cy rfl rfl O (by first | omega | (rw[List.length_set];omega)) ?_;refine pr rfl rfl O O ho rfl ?_;apply vn (ri ⟨_,gx⟩ YD);apply vn dd;apply vn (ri ⟨_,ia⟩ YD);apply vn aJ;apply vn aJ;apply vn Im;apply vn ak;dsimp only[aO,aP];refine vs _ rfl ?_ ?_<;>intro h21
   ·apply vn aC;apply vn (pU ⟨_,YD⟩ gx);refine cy rfl rfl O (by first | omega | (rw[List.length_set];omega)) ?_;refine mY (d':=x+1000000000-w%1000000000-b) rfl rfl O O ho ?_ ?_
    ·show[aE.int .u32 _]=[aE.int .u32 _]
     congr 2;omega
    apply vn aC;dsimp only[aO,aP];exact aW rfl ⟨⟨(i+1,w/1000000000,1,os.set i (x+1000000000-w%1000000000-b)),hm _ 1 O O O⟩,aQ.rfl,by show xs.length-(i+1)<xs.length-i;omega⟩
   apply vn (pU ⟨_,YD⟩ gx);refine cy rfl rfl O (by first | omega | (rw[List.length_set];omega)) ?_;refine mY (d':=x-w%1000000000-b) rfl rfl O O ho ?_ ?_
   ·show[aE.int .u32 _]=[aE.int .u32 _]
    congr 2;omega
   apply vn aC;dsimp only[aO,aP];exact aW rfl ⟨⟨(i+1,w/1000000000,0,os.set i (x-w%1000000000-b)),hm _ 0 O O O⟩,aQ.rfl,by show xs.length-(i+1)<xs.length-i;omega⟩
  have hnone:ys[i]?=none:=List.getElem?_eq_none_iff.2 O
  have hm:∀z b':Nat,z<1000000000->b'<=1->z+c%1000000000+b=x+1000000000*b'->jE 1000000000 xs ys t (i+1) (c/1000000000) b' (os.set i z):=fun z b' h1 h2 h3=>by
   have:=hI.next (y:=0) O ht hgx (by rw[hnone];rfl) O h1 h2 (by rw[Nat.mul_zero,Nat.add_zero];exact h3);rw[Nat.mul_zero,Nat.add_zero]at this;exact this
  refine cy rfl rfl O (by first | omega | (rw[List.length_set];omega)) ?_;refine pr rfl rfl O O ho rfl ?_;apply vn (ri ⟨_,gx⟩ YD);apply vn dd;apply vn (ri ⟨_,ia⟩ YD);apply vn aJ;apply vn aJ;apply vn Im;apply vn ak;dsimp only[aO,aP];refine vs _ rfl ?_ ?_<;>intro h42
  ·apply vn aC;apply vn (pU ⟨_,YD⟩ gx);refine cy rfl rfl O (by first | omega | (rw[List.length_set];omega)) ?_;refine mY (d':=x+1000000000-c%1000000000-b) rfl rfl O O ho ?_ ?_
   ·show[aE.int .u32 _]=[aE.int .u32 _]
    congr 2;omega
   apply vn aC;dsimp only[aO,aP];exact aW rfl ⟨⟨(i+1,c/1000000000,1,os.set i (x+1000000000-c%1000000000-b)),hm _ 1 O O O⟩,aQ.rfl,by show xs.length-(i+1)<xs.length-i;omega⟩
  apply vn (pU ⟨_,YD⟩ gx);refine cy rfl rfl O (by first | omega | (rw[List.length_set];omega)) ?_;refine mY (d':=x-c%1000000000-b) rfl rfl O O ho ?_ ?_
  ·show[aE.int .u32 _]=[aE.int .u32 _]
   congr 2;omega
  apply vn aC;dsimp only[aO,aP];exact aW rfl ⟨⟨(i+1,c/1000000000,0,os.set i (x-c%1000000000-b)),hm _ 0 O O O⟩,aQ.rfl,by show xs.length-(i+1)<xs.length-i;omega⟩
 apply vn gN;dsimp only[aO,aP];have hie:i=xs.length:=O
 subst hie;obtain⟨hb1,ho1⟩:=hI.fin O hx hl;rw[hb1]at ho1;exact xH (by rw[<-show rT os=rT _ from congrArg rT ho1];rfl) (congrArg (fun q=>[aG.one (.bool q)]) (Sw hb1))
structure FX(xs ys:List Nat)(i c:Nat)(os:List Nat):Prop where
 le:i<=xs.length
 c1:c<=1
 len:os.length=xs.length
 dg:DB 1000000000 os
 rest:os.drop i=xs.drop i
 eq:lv (os.take i)+1000000000^i*c=lv (xs.take i)+lv (ys.take i)
def FX.init{xs:List Nat}(hx:Dg xs)(ys:List Nat):FX xs ys 0 0 xs:=⟨bO _,O,rfl,hx,rfl,by simp[lv,val]⟩
def FX.get{xs ys os:List Nat}{i c x:Nat}(h:FX xs ys i c os)(hx:xs[i]?=some x):os[i]?=some x:=by
 have:=congrArg (fun l=>l[0]?) h.rest;simp only[List.getElem?_drop,Nat.add_zero]at this;rw[this,hx]
def FX.next{xs ys os:List Nat}{i c x y c' z:Nat}(h:FX xs ys i c os)(hx:xs[i]?=some x)(hy:ys[i]?.getD 0=y)(hz:z<1000000000)(hc:c'<=1)(he:z+1000000000*c'=x+c+y):FX xs ys (i+1) c' (os.set i z):=by
 have hi:i<xs.length:=(dn.1 hx).1;refine⟨hi,hc,by rw[List.length_set];exact h.len,h.dg.set hz,?_,?_⟩
 ·rw[List.drop_set_of_lt O];have:=congrArg (List.drop 1) h.rest
  simpa[List.drop_drop]using this
 ·have h1:=h.eq;have h2:=congrArg (fun q=>1000000000^i*q) he;have e1:lv ((os.set i z).take (i+1))=lv (os.take i)+1000000000^i*z:=lj (by rw[h.len];exact hi);have e2:lv (xs.take (i+1))=lv (xs.take i)+1000000000^i*x:=gP hx;have e3:lv (ys.take (i+1))=lv (ys.take i)+1000000000^i*y:=jU hy;rw[e1,e2,e3,Nat.pow_succ,Nat.mul_assoc];simp only[Nat.mul_add]at h2;omega
def FX.fin{xs ys os:List Nat}{c:Nat}(h:FX xs ys xs.length c os)(hl:ys.length<xs.length) :
  c=(if 1000000000^xs.length<=lv xs+lv ys then 1 else 0)/\os=pd 1000000000 xs.length (lv xs+lv ys-1000000000^xs.length*c):=by
 have h1:=h.eq;rw[List.take_of_length_le (by rw[h.len];omega),List.take_length,List.take_of_length_le O]at h1;have h2:lv os<_:=DB.lt O h.dg;rw[h.len]at h2;have hc:=h.c1
 constructor
 ·split<;>rcases(by omega:c=0\/c=1)with rfl | rfl<;>omega
 ·refine NV O h.dg h.len ?_;show lv os=_;omega
def RK(xs ys:List Nat)(hx:Dg xs)(hy:Dg ys)(hl:ys.length<xs.length)(hs:xs.length<1099511627776):tU prog 252 255 1 [] [(.one (.slice 1 (rT ys)):aG)] (rT xs) [.one (.bool (decide (1000000000^xs.length<=lv xs+lv ys)))] (rT (pd 1000000000 xs.length (lv xs+lv ys-1000000000^xs.length*(if 1000000000^xs.length<=lv xs+lv ys then 1 else 0)))):=by
 refine CK (a1:=[]) (a2:=[.v none]) (i1:=[]) (i2:=[.v (.one (.slice 1 (rT ys)))]) (hints:=(fun _=>none)) fo (by kernel_rfl) func252 trivial ⟨rfl,trivial⟩ (by kernel_rfl) ?_ ?_ ?_ ?_
 ·simp[rT]
 ·simp[rT]
 ·simp[rT]
 dsimp only[aO,aP];rw[RN];dsimp only[List.map,In.env,aO,aP];refine Qk rfl (aR _) ?_;refine ao {g:Nat×Nat×List Nat // FX xs ys g.1 g.2.1 g.2.2} (fun g=>[.one (.int .u32 g.1.2.1),.one (.int .i64 g.1.1),.rows (rT g.1.2.2)]) (fun g=>xs.length-g.1.1) ⟨(0,0,xs),FX.init hx _⟩ aQ.rfl (fun _=>rfl) ?_;rintro⟨⟨i,c,os⟩,hI⟩;dsimp only[aO,aP]at hI|-;have hol:=hI.len;have hil:=hI.le;have hc:=hI.c1;apply vn ak;refine vs _ rfl ?_ ?_<;>intro h3
 ·have hgx:xs[i]?=some (xs[i]' O):=ay O;generalize xs[i]' O=x at hgx;have hxB:=hx.get hgx;have ho:=hI.get hgx;refine cy rfl rfl O (by first | omega | (rw[List.length_set];omega)) ?_;refine pr rfl rfl O O ho rfl ?_;apply vn mD;apply vn (aU dS (aR _));apply vn ak;refine vs _ rfl ?_ ?_<;>intro h9
  ·have hgy:ys[i]?=some (ys[i]' O):=ay O;generalize ys[i]' O=y at hgy;have hyB:=hy.get hgy;apply vn (aZ dS hgy);apply vn (av xW);apply vn mD;dsimp only[aO,aP];apply vn fO;refine vs _ rfl ?_ ?_<;>intro h14
   ·apply vn mL;refine cy rfl rfl O (by first | omega | (rw[List.length_set];omega)) ?_;refine mY (d':=x+c+y-1000000000) rfl rfl O O ho ?_ ?_
    ·show[aE.int .u32 _]=[aE.int .u32 _]
     congr 2;omega
    apply vn aC;dsimp only[aO,aP];exact aW rfl ⟨⟨(i+1,1,os.set i (x+c+y-1000000000)),hI.next (z:=x+c+y-1000000000) (c':=1) (y:=y) hgx (by rw[hgy];rfl) O O O⟩,aQ.rfl,by show xs.length-(i+1)<xs.length-i;omega⟩
   refine cy rfl rfl O (by first | omega | (rw[List.length_set];omega)) ?_;refine mY (d':=x+c+y) rfl rfl O O ho ?_ ?_
   ·show[aE.int .u32 _]=[aE.int .u32 _]
    congr 2
   apply vn aC;dsimp only[aO,aP];exact aW rfl ⟨⟨(i+1,0,os.set i (x+c+y)),hI.next (z:=x+c+y) (c':=0) (y:=y) hgx (by rw[hgy];rfl) O O O⟩,aQ.rfl,by show xs.length-(i+1)<xs.length-i;omega⟩
  have hnone:ys[i]?=none:=List.getElem?_eq_none_iff.2 O;apply vn fO;refine vs _ rfl ?_ ?_<;>intro h25
  ·apply vn mL;refine cy rfl rfl O (by first | omega | (rw[List.length_set];omega)) ?_;refine mY (d':=x+c-1000000000) rfl rfl O O ho ?_ ?_
   ·show[aE.int .u32 _]=[aE.int .u32 _]
    congr 2;omega
   apply vn aC;dsimp only[aO,aP];exact aW rfl ⟨⟨(i+1,1,os.set i (x+c-1000000000)),hI.next (z:=x+c-1000000000) (c':=1) (y:=0) hgx (by rw[hnone];rfl) O O O⟩,aQ.rfl,by show xs.length-(i+1)<xs.length-i;omega⟩
  refine cy rfl rfl O (by first | omega | (rw[List.length_set];omega)) ?_;refine mY (d':=x+c) rfl rfl O O ho ?_ ?_
  ·show[aE.int .u32 _]=[aE.int .u32 _]
   congr 2
  apply vn aC;dsimp only[aO,aP];exact aW rfl ⟨⟨(i+1,0,os.set i (x+c)),hI.next (z:=x+c) (c':=0) (y:=0) hgx (by rw[hnone];rfl) O O O⟩,aQ.rfl,by show xs.length-(i+1)<xs.length-i;omega⟩
 apply vn gN;dsimp only[aO,aP];have hie:i=xs.length:=O
 subst hie;obtain⟨hb1,ho1⟩:=hI.fin hl;rw[hb1]at ho1;exact xH (by rw[<-show rT os=rT _ from congrArg rT ho1];rfl) (congrArg (fun q=>[aG.one (.bool q)]) (Sw hb1))
def aY9:Tr:=jX 52 0 120 (aH 55 0 (.need (.rop 54 255 1 (some ((.u 27 0),(.u 47 0))) [] [(W 14 0)] [none]) (.call ⟨.value (.func 252),#[(tT 124),(tT 125)],#[33,33]⟩) 4 true (.need (.prim [(W 53 0),(.one (.c (.k (.int .u64 1))))] none) (.binOp .sub 254 (tT 122) (.const (.int .u64 1)) 254) 254 false (yo 1 56 58 57))) (fM 53 254 255 129 (dL 28 27 33 127 128 (ec 28 27 56 255 131 130 (fP 27 1 77 (LK 58 57 54))))))
def bg2:Tr:=.need (.rop 29 255 1 (some ((.u 27 0),(.u 47 0))) [] [(W 14 0),(W 45 0)] [none]) (.call ⟨.value (.func 251),#[(tT 116),(tT 117),(tT 118)],#[33,33,254]⟩) 4 true (aH 50 0 (.loop 1 [(.w (.one (.c (.k (.bool false))))),lV 45 0,.row 51] aY9) (fM 45 254 255 129 (dL 28 27 33 127 128 (ec 28 27 52 255 131 130 (fP 27 1 77 (LK 54 53 51))))))
def aW1:Tr:=uW .quo 254 96 102 39 0 43 0 254 (.need (.prim [(W 44 0),(.one (.c (.k (.int .u64 999999999))))] none) (.call ⟨.builtin .min,#[(tT 103),(.const (.int .u64 999999999))],#[254,254]⟩) 254 false (fG 27 0 15 0 3 107 108 (bD 46 1 3 109 (fG 27 0 15 0 3 111 112 (bD 48 1 3 113 (.need (.view 29 (.u 27 0) (.u 47 0) (.u 49 0)) (.slice 33 (tT 105) (some (tT 106)) (some (tT 110)) (some (tT 114))) 33 false bg2))))))
def bj4:Tr:=lQ 29 36 255 92 (fM 37 255 254 93 (fG 34 0 38 0 254 86 94 (fP 15 1 98 (gb 14 0 40 0 33 97 99 (bm 41 255 100 (fM 42 255 254 101 aW1))))))
def bm7:Tr:=dL 29 31 33 79 82 (lQ 29 31 255 83 (fM 32 255 254 84 (Zj 33 85 (fG 27 0 15 0 3 88 89 (fP 35 1 90 (dL 29 36 33 87 91 bj4))))))
def bc8:Tr:=.loop 0 [lV 26 0,.row 24,.row 21] (qA .geq 3 75 0 27 0 4 (aH 30 0 (fG 27 0 15 0 3 80 81 bm7) (Js 197 1 29 133 33 35 (IY 31 13 134 135 (Js 197 1 28 139 33 35 (.ret [(G1 34),(G1 32)]))))))
def aR5:Tr:=kz 118 0 0 13 62 63 (aj3 18 19 61 65 (uk 21 67 33 (da 22 0 15 0 3 68 69 (EB 23 70 (uk 24 72 33 (fP 25 1 73 bc8))))))
def bs9:Tr:=fM 11 255 254 47 (lZ 195 12 1 48 254 35 (kz 118 1 0 13 50 51 (au 14 0 54 33 (au 0 0 57 33 (bD 16 1 3 58 (EB 17 59 aR5))))))
def bw4:Tr:=aH 5 0 (oZ 1 0 0 33 32 (bm 6 255 33 (dV 250 [(G1 0),(W 7 0)] [(some 1),(some 1)] [30,34] [35,255] 251 true (.ret [(G1 8),(G1 9)])))) (au 1 0 41 33 (fP 6 1 42 (gb 1 0 7 0 33 39 43 (bm 8 255 44 (RA 9 1 45 (.need (.prim [(.one (.c (.k (.int .u32 1000000000)))),(W 10 0)] none) (.binOp .quo 255 (.const (.int .u32 1000000000)) (tT 46) 255) 255 false bs9))))))
def bP7:Tr:=dV 119 [(G1 0),(G1 1)] [none] [19,20] [35,35] 3 true (iJ 2 0 0 3 21 (aH 3 0 (.ret [(.agg [tN]),(G1 0)]) (au 1 0 27 33 (eH 4 0 1 3 28 bw4))))
def YV:aM prog f193 bZ [.v (some 1),.v (some 1)]=bP7:=by kernel_rfl
def rY{a b:Int}:eY a b<0↔a<b:=by unfold eY;split<;>(try split)<;>omega
def jh{n:Nat}(h:n=0):aE.Sub (.exact (.slice none 0 0)) (dT n):=by
 subst h;have:dg 0=[]:=ck _;rw[dT,this];exact aE.Sub.nil
def pE{n:Nat}(h0:0<n:=by omega)(h:n<1000000000:=by omega):dg n=[n]:=by
 rw[dg,fU,Nat.mod_eq_of_lt h,Nat.div_eq_of_lt h,ck]
def Dz{n k:Nat}(h:n<1000000000^k):(dg n).length<=k:=jt h
def IX(n:Nat):n<1000000000^(dg n).length:=kn O n
def Xm{n:Nat}(h:n≠0:=by omega):1000000000^((dg n).length-1)<=n:=gQ O h
def XT{n i:Nat}(h:i<(dg n).length:=by omega):(dg n)[i]?=some (n/1000000000^i%1000000000):=by
 have e:(dg n)[i]?=(pd 1000000000 (dg n).length n)[i]?:=congrArg (fun l:List Nat=>l[i]?) (Tu n);rw[e,Dk _ h]
def OI{n:Nat}(h:0<n):1000000000^(n-1)*1000000000=1000000000^n:=by
 obtain⟨k,rfl⟩:∃k,n=k+1:=⟨n-1,O⟩
 rw[Nat.add_sub_cancel,Nat.pow_succ]
def bo1{r1 r2 vt:Nat}(h1:r1<1000000000)(h2:r2<1000000000):(r1*1000000000+r2)/vt<1000000000000000000:=
 Nat.lt_of_le_of_lt (Nat.div_le_self _ _) O
def XM(q:Nat):min (q:Int) 999999999=((min q 999999999:Nat):Int):=O
def RW{n:Nat}(h:n<1000000000):(n:Int)<4294967296:=O
def Xx{n:Nat}(h:n<1000000000000000000):(n:Int)<18446744073709551616:=O
def oh(n:Nat):(0:Int)<=(n:Int):=LI _
def aO9(i:Nat):((i+1:Nat):Int)-1-1=(i:Int)-1:=O
def bj6{P:Program}{T U ty:Nat}{x y:Operand}{a b:Nat}{a':Int}(ha':a'=a)(hb:0<b)(hc:(a/b:Nat)<1000000000000000000):af P (.binOp .quo T x y U) ty [.one (.int .u64 a'),.one (.int .u64 b)] (.one (.int .u64 ((a/b:Nat):Int))):=by
 subst ha';exact py O (by rw[pI (oh _),<-wY,rl (oh _) (Xx hc)])
def aA6(a b:Nat)(hb0:0<b)(hb:b<1000000000)(hs:(dg a).length<549755813888):aL prog 193 [(mT a:aG),(mT b:aG)] (.ret [mT (a/b),mT (a%b)]):=by
 refine bw func193 YV ?_;have e1:=pE hb0 hb;apply aA (tL a b (by rw[e1];simp;omega)) rfl;apply vn ak;dsimp only[aO,aP];rw[show decide (eY (a:Int) (b:Int)<0)=decide (a<b) by rw[lE,rY];omega];refine vs _ rfl ?_ ?_<;>intro h2
 ·refine dJ ⟨⟨jh (Nat.div_eq_of_lt h2),trivial⟩,⟨?_,trivial⟩,trivial⟩;rw[Nat.mod_eq_of_lt h2];exact aE.Sub.same
 apply vn (aU dS (aR _));apply vn bK;refine vs _ rfl ?_ ?_<;>intro h6
 ·apply vn (aZ dS (show(dg b)[0]?=some b by rw[e1];rfl)) rfl;apply vn (av xW);apply aA (Mq a b hb0 hb);exact aK
 exact absurd (by rw[e1];simp) h6
structure NY(S V L m n:Nat)(os:List Nat)(R:Nat):Prop where
 le:n<=m
 len:os.length=m
 dg:Dg os
 eq:S=R+V*1000000000^n*lv (os.drop n)
 lt:R/1000000000^n<V
 fit:R<1000000000^L
def NY.next{S V L m n R g:Nat}{os:List Nat}(h:NY S V L m (n+1) os R)(hV:0<V)(hg:g=R/1000000000^n/V) :
  NY S V L m n (os.set n g) (R%1000000000^n+1000000000^n*(R/1000000000^n%V)):=by
 obtain⟨h1,h2,h3,h4⟩:=Gf (B:=1000000000) O hV h.eq h.lt;have hn:=h.le;have hlen:=h.len;subst hg;refine⟨O,by rw[List.length_set];exact hlen,h.dg.set h2,?_,h4,?_⟩
 ·rw[LQ (x:=R/1000000000^n/V) (by rw[vU O]),List.drop_set_of_lt O];exact h3
 ·refine Nat.lt_of_le_of_lt ?_ h.fit;have:=Nat.mod_add_div R (1000000000^n);have h5:=Nat.mul_le_mul_left (1000000000^n) (tc (R/1000000000^n) V);omega
def gbv(W X V:Nat)(p:Bool×Nat):Nat:=if p.1 then X%V else X+W-p.2*V
def bn7{R i nv:Nat}(hnv:0<nv)(h:R/1000000000^(i+nv)<1000000000):R/1000000000^(i+nv)%1000000000*1000000000+R/1000000000^(i+nv-1)%1000000000=R/1000000000^i/1000000000^(nv-1):=by
 rw[Nat.mod_eq_of_lt h,Nat.div_div_eq_div_mul,<-Nat.pow_add,show i+(nv-1)=i+nv-1 by omega]
 have e:R/1000000000^(i+nv)=R/1000000000^(i+nv-1)/1000000000:=by
  rw[Nat.div_div_eq_div_mul,<-Nat.pow_succ];congr 2;omega
 rw[e];have:=BP (R/1000000000^(i+nv-1)) 1000000000;omega
def UL{b s top:Nat}(hs0:0<s)(hs:s*(top+1)<=1000000000)(htop:top=b/1000000000^((dg b).length-1))(hb:b≠0:=by omega):(dg (b*s)).length=(dg b).length:=by
 have hp:0<1000000000^((dg b).length-1):=Nat.pow_pos O
 have hl:0<(dg b).length:=by
  rcases Nat.eq_zero_or_pos (dg b).length with h | h
  ·exact(hb (yN.1 (fu h))).elim
  ·exact h
 apply Nat.le_antisymm
 ·apply Dz
  have h1:b<(top+1)*1000000000^((dg b).length-1):=by
   rw[htop,Nat.mul_comm];exact Nat.lt_mul_div_succ b hp
  calc b*s<(top+1)*1000000000^((dg b).length-1)*s:=yK h1 hs0
   _=s*(top+1)*1000000000^((dg b).length-1):=by simp only[Nat.mul_comm,Nat.mul_left_comm,Nat.mul_assoc]
   _<=1000000000*1000000000^((dg b).length-1):=Nat.mul_le_mul_right _ hs
   _=1000000000^(dg b).length:=by rw[Nat.mul_comm,<-Nat.pow_succ];congr 1;omega
 ·exact lq (Nat.le_mul_of_pos_right b hs0)
def ED(a b:Nat)(hb0:0<b)(hs:(dg a).length+(dg b).length<274877906944:=by omega):aL prog 193 [(mT a:aG),(mT b:aG)] (.ret [mT (a/b),mT (a%b)]):=by
 refine bw func193 YV ?_;apply aA (tL a b);apply vn ak;dsimp only[aO,aP];rw[show decide (eY (a:Int) (b:Int)<0)=decide (a<b) by rw[lE,rY];omega];refine vs _ rfl ?_ ?_<;>intro h2
 ·refine dJ ⟨⟨jh (Nat.div_eq_of_lt h2),trivial⟩,⟨?_,trivial⟩,trivial⟩;rw[Nat.mod_eq_of_lt h2];exact aE.Sub.same
 have hbl:0<(dg b).length:=by
  rcases Nat.eq_zero_or_pos (dg b).length with h | h
  ·exact(Nat.ne_of_gt hb0 (yN.1 (fu h))).elim
  ·exact h
 have hlen:=lq (Cf h2);apply vn (aU dS (aR _));apply vn bK;refine vs _ rfl ?_ ?_<;>intro h6
 ·have hb:b<1000000000:=by
   have:=IX b;rw[show(dg b).length=1 by omega]at this;omega
  have e1:=pE hb0 hb;apply vn (aZ dS (show(dg b)[0]?=some b by rw[e1];rfl)) rfl;apply vn (av xW);apply aA (Mq a b hb0 hb);exact aK
 obtain⟨top,htop⟩:∃t,(dg b)[(dg b).length-1]?=some t:=⟨_,ay O⟩
 have htB:=(ke b).get htop
 have htv:top=b/1000000000^((dg b).length-1):=by
  have h1:=XT (n:=b) (i:=(dg b).length-1);rw[htop]at h1;simp only[aI]at h1;rw[h1,Nat.mod_eq_of_lt];rw[Nat.div_lt_iff_lt_mul (Nat.pow_pos O),Nat.mul_comm,OI hbl];exact IX b
 have ht0:0<top:=by
  rw[htv];exact Nat.div_pos (Xm) (Nat.pow_pos O)
 obtain⟨s,hs'⟩:∃s,1000000000/(top+1)=s:=⟨_,rfl⟩
 have hsle:s*(top+1)<=1000000000:=by rw[<-hs'];exact Nat.div_mul_le_self _ _
 have hs0:0<s:=by rw[<-hs'];exact Nat.div_pos O O
 have hsB:s<1000000000:=by
  rw[<-hs'];exact Nat.div_lt_self O O
 have hvl:=UL hs0 hsle htv;apply vn (aU dS (aR _));apply vn aJ;apply vn (aZ dS htop);apply vn (av xW);dsimp only[aO,aP];apply vn mD;dsimp only[aO,aP];apply vn (py (c:=(s:Int)) O (by rw[pI O,show((1000000000:Int)/((top:Int)+1))=((1000000000/(top+1):Nat):Int) by simp,hs',yr]<;>omega)) rfl;apply vn (rk ⟨_,gx⟩ ia);apply aA (im s);apply aA (jZ b s (by rw[pE hs0 hsB];simp;omega)) rfl;obtain⟨V,hV⟩:∃V,b*s=V:=⟨_,rfl⟩
 obtain⟨S,hS⟩:∃S,a*s=S:=⟨_,rfl⟩
 rw[hV]at hvl|-;have hV0:0<V:=by rw[<-hV];exact Nat.mul_pos hb0 hs0
 apply vn (aU dS (aR _));apply vn (aU dS (aR _));apply vn aC;dsimp only[aO,aP];refine CA (n:=(dg a).length+1) (f:=fun d:Nat=>[aE.int .u32 (d:Int)]) 0 rfl rfl O rfl O (by simp only[maxLen];omega) ?_;apply aA (jZ a s (by rw[pE hs0 hsB];simp;omega)) rfl;rw[hS]
 have hSlt:S<1000000000^((dg a).length+1):=by
  rw[<-hS,Nat.pow_succ];exact Nat.mul_lt_mul'' (IX a) hsB
 have hSle:=Dz hSlt
 have hSV:S<V*1000000000^((dg a).length+1-(dg b).length):=by
  rw[<-hS,<-hV];have h1:=IX a;have h2:=Xm (n:=b)
  have h3:1000000000^(dg a).length<=b*1000000000^((dg a).length+1-(dg b).length):=by
   refine Nat.le_trans (oU ?_) (Nat.mul_le_mul_right _ h2);rw[<-Nat.pow_add];congr 1;omega
  calc a*s<b*1000000000^((dg a).length+1-(dg b).length)*s:=yK (Nat.lt_of_lt_of_le h1 h3) hs0
   _=_:=by simp only[Nat.mul_comm,Nat.mul_left_comm,Nat.mul_assoc]
 obtain⟨L,hL⟩:∃L,(dg a).length+1=L:=⟨_,rfl⟩
 rw[hL]at hSlt hSle hSV;dsimp only[aO,aP];refine Xq (xs:=dg S) (zs:=List.replicate ((dg a).length+1) 0) (ws:=pd 1000000000 L S) (fun _=>rfl) rfl rfl dS (by simp;omega) (by simp) (NV O ((DB.kK O S).append ((DB.rep O _).drop _)) (by simp only[eZ,dA,my];show(dg S).length+_=_;omega) (by rw[List.drop_replicate,iw,So];show lv (dg S)+_=_;rw[gw,Nat.mul_zero,Nat.add_zero])) ?_;refine Qk (n:=L) rfl (by simp) ?_;apply vn aJ;dsimp only[aO,aP];refine CA (n:=L-(dg b).length) (f:=fun d:Nat=>[aE.int .u32 (d:Int)]) 0 rfl rfl (by rw[hvl];omega) rfl O (by simp only[maxLen];omega) ?_;refine Qk (n:=L-(dg b).length) rfl (by simp) ?_;apply vn aJ;dsimp only[aO,aP];obtain⟨m,hm⟩:∃m,L-(dg b).length=m:=⟨_,rfl⟩
 rw[hm]at hSV|-;rw[hvl];obtain⟨nv,hnv⟩:∃n,(dg b).length=n:=⟨_,rfl⟩
 rw[hnv]at hvl htv htop hbl hlen hm hs|-;refine ao {g:Nat×List Nat×Nat // NY S V L m g.1 g.2.1 g.2.2} (fun g=>[.one (.int .i64 ((g.1.1:Int)-1)),.rows (rT g.1.2.1),.rows (rT (pd 1000000000 L g.1.2.2))]) (fun g=>g.1.1) ⟨(m,List.replicate m 0,S),⟨aY _,by simp,Dg.rep _,by simp[lv,val],by rw[Nat.div_lt_iff_lt_mul (Nat.pow_pos O)];exact hSV,hSlt⟩⟩ aQ.rfl (fun _=>rfl) ?_;rintro⟨⟨n,os,R⟩,hI⟩;dsimp only[aO,aP]at hI|-;have hnm:=hI.le;have hol:=hI.len;have hfit:=hI.fit;have hLs:L<549755813888:=O
 have hnvL:nv<L:=O
 apply vn fO;refine vs _ rfl ?_ ?_<;>intro h33
 ·clear htop htB htv ht0 hs' hsle hSV hSlt hSle hs hlen hL hnv h2 h6 hS hV hsB hs0;obtain⟨i,rfl⟩:∃i,n=i+1:=⟨n-1,O⟩
  obtain⟨hX1,hX2,_,_⟩:=Gf (B:=1000000000) O hV0 hI.eq hI.lt;obtain⟨X,hX⟩:∃X,R/1000000000^i=X:=⟨_,rfl⟩
  have hVlt:V<1000000000^nv:=by rw[<-hvl];exact IX V
  have hXlt:X<1000000000^(nv+1):=by
   rw[Nat.pow_succ,<-hX];exact Nat.lt_trans hX1 (yK hVlt O)
  have hRtop:R/1000000000^(i+(nv+1))=0:=by
   rw[Nat.pow_add,<-Nat.div_div_eq_div_mul,hX];exact Nat.div_eq_of_lt hXlt
  have hRnv:R/1000000000^(i+nv)<1000000000:=by
   rw[Nat.pow_add,<-Nat.div_div_eq_div_mul,hX,Nat.div_lt_iff_lt_mul (Nat.pow_pos O),Nat.mul_comm,<-Nat.pow_succ];exact hXlt
  have htwo:=bn7 hbl hRnv;rw[hX]at htwo hX1 hX2;obtain⟨r1,hr1⟩:∃r,R/1000000000^(i+nv)%1000000000=r:=⟨_,rfl⟩
  obtain⟨r2,hr2⟩:∃r,R/1000000000^(i+nv-1)%1000000000=r:=⟨_,rfl⟩
  have hr1B:r1<1000000000:=by rw[<-hr1];exact Nat.mod_lt _ O
  have hr2B:r2<1000000000:=by rw[<-hr2];exact Nat.mod_lt _ O
  have hg1:(pd 1000000000 L R)[i+nv]?=some r1:=by rw[Dk _ O,hr1]
  have hg2:(pd 1000000000 L R)[i+nv-1]?=some r2:=by rw[Dk _ O,hr2]
  rw[hr1,hr2]at htwo;obtain⟨vt,hvt⟩:∃t,V/1000000000^(nv-1)=t:=⟨_,rfl⟩
  have hvtB:vt<1000000000:=by
   rw[<-hvt,Nat.div_lt_iff_lt_mul (Nat.pow_pos O),Nat.mul_comm,OI hbl];exact hVlt
  have hvt0:0<vt:=by
   have:=Xm (n:=V);rw[hvl]at this;rw[<-hvt];exact Nat.div_pos this (Nat.pow_pos O)
  have hgv:(dg V)[nv-1]?=some vt:=by
   rw[XT,hvt,Nat.mod_eq_of_lt hvtB]
  obtain⟨g,hg⟩:∃g,min ((r1*1000000000+r2)/vt) 999999999=g:=⟨_,rfl⟩
  have hgB:g<1000000000:=by rw[<-hg];exact Nat.lt_of_le_of_lt (Nat.min_le_right _ _) (by decide)
  have hgq:X/V<=g:=by
   rw[<-hg];have h1:=YK (B:=1000000000) (X:=X) (V:=V) (n:=nv-1) (by rw[hvt];exact hvt0);rw[hvt,<-htwo]at h1;exact Nat.le_min.2 ⟨h1,Nat.le_of_lt_succ hX2⟩
  have hpdl:(pd 1000000000 L R).length=L:=eK _ _;apply vn aC;refine cy rfl rfl O (by rw[eK];omega) ?_;refine pr rfl rfl O O hg1 rfl ?_;apply vn (rk ⟨_,gx⟩ ia);apply vn VP;apply vn aC;apply vn aJ;refine cy rfl rfl O (by rw[eK];omega) ?_;refine pr rfl rfl O O hg2 rfl ?_;dsimp only[aO,aP];apply vn (rk ⟨_,gx⟩ ia);apply vn Ve;apply vn aJ;apply vn (aZ dS hgv);apply vn (av xW);apply vn (rk ⟨_,gx⟩ ia);apply vn (bj6 (a:=r1*1000000000+r2) (by rw[Int.natCast_add,Int.natCast_mul];rfl) hvt0 (bo1 hr1B hr2B)) rfl;apply vn ad3;dsimp only[aO,aP];rw[XM,hg];apply vn aC;apply vn aC;apply vn aC;apply vn aC;dsimp only[aO,aP];refine bJ3 (n:=i) (m:=i+nv+1) rfl (by show aE.int .i64 _=aE.int .i64 _;congr 1;omega) (by show aE.int .i64 _=aE.int .i64 _;congr 1;omega) (by show aE.int .i64 _=aE.int .i64 _;congr 1;omega) O (by simp;omega) ?_
  have hgV:g*V<1000000000^(nv+1):=by
   rw[Nat.pow_succ,Nat.mul_comm (1000000000^nv)];exact Nat.lt_of_lt_of_le (yK (by omega:g<1000000000) hV0) (Nat.mul_le_mul_left _ (kR hVlt))
  have hview:∀Y,Y<1000000000^(nv+1)->((rT (pd 1000000000 L (R%1000000000^i+1000000000^i*Y))).take (i+nv+1)).drop i=rT (pd 1000000000 (nv+1) Y):=by
   intro Y hY;rw[rT,rT,<-lx,<-oG,Ka _ O,LO,show i+nv+1-i=nv+1 by omega]
   congr 2
   rw[Nat.add_mul_div_left _ _ (Nat.pow_pos O),Nat.div_eq_of_lt (Nat.mod_lt _ (Nat.pow_pos O)),Nat.zero_add]
  have hfitY:∀Y,Y<1000000000^(nv+1)->R%1000000000^i+1000000000^i*Y<1000000000^L:=by
   intro Y hY;have h1:R%1000000000^i<1000000000^i:=Nat.mod_lt _ (Nat.pow_pos O);have h2:1000000000^i*(Y+1)<=1000000000^i*1000000000^(nv+1):=Nat.mul_le_mul_left _ hY;rw[<-Nat.pow_add]at h2;have h3:1000000000^(i+(nv+1))<=1000000000^L:=Nat.pow_le_pow_right O O;rw[Nat.mul_add,Nat.mul_one]at h2;omega
  have hput:∀Y Z,Y<1000000000^(nv+1)->Z<1000000000^(nv+1)->(rT (pd 1000000000 L (R%1000000000^i+1000000000^i*Y))).take i++rT (pd 1000000000 (nv+1) Z)++(rT (pd 1000000000 L (R%1000000000^i+1000000000^i*Y))).drop (i+(rT (pd 1000000000 (nv+1) Y)).length)=rT (pd 1000000000 L (R%1000000000^i+1000000000^i*Z)):=by
   intro Y Z hY hZ;have hp:0<1000000000^i:=Nat.pow_pos O;have hm:R%1000000000^i<1000000000^i:=Nat.mod_lt _ hp;rw[br,eK,rT,rT,rT,<-lx,<-oG,<-eG,<-eG,Vw (hfitY Y hY) hZ]
   have e:(R%1000000000^i+1000000000^i*Y)/1000000000^(i+(nv+1))=0:=by
    rw[Nat.pow_add 1000000000 i,<-Nat.div_div_eq_div_mul,Nat.add_mul_div_left _ _ hp,Nat.div_eq_of_lt hm,Nat.zero_add];exact Nat.div_eq_of_lt hY
   rw[e,Nat.add_mul_mod_self_left,Nat.mod_eq_of_lt hm,Nat.mul_zero,Nat.add_zero]
  have hRX:R=R%1000000000^i+1000000000^i*X:=by rw[<-hX];exact(Nat.mod_add_div _ _).symm
  have hsub:=Qv (pd 1000000000 (nv+1) X) (dg V) g (FD O _ _) (ke V) hgB (by rw[eK];omega) (by rw[eK];omega);have hlvX:∀Y,Y<1000000000^(nv+1)->lv (pd 1000000000 (nv+1) Y)=Y:=fun Y hY=>by rw[lv,yQ,Nat.mod_eq_of_lt hY]
  rw[hlvX X hXlt,gw,eK]at hsub
  have hgive:∀Y,Y<1000000000^(nv+1)->tU prog 252 255 1 [] [.one (.slice 1 (rT (dg V)))] (rT (pd 1000000000 (nv+1) Y)) [.one (.bool (decide (1000000000^(nv+1)<=Y+V)))] (rT (pd 1000000000 (nv+1) (Y+V-1000000000^(nv+1)*(if 1000000000^(nv+1)<=Y+V then 1 else 0)))):=by
   intro Y hY;have h1:=RK (pd 1000000000 (nv+1) Y) (dg V) (FD O _ _) (ke V) (by rw[eK];omega) (by rw[eK];omega);rw[hlvX Y hY,gw,eK]at h1;exact h1
  have hok:os[i]?=some (os[i]' O):=ay O;have hVB:V<1000000000^(nv+1):=Nat.lt_of_lt_of_le hVlt (Nat.pow_le_pow_right O O);have hXV:X%V<1000000000^(nv+1):=Nat.lt_trans (Nat.mod_lt _ hV0) hVB
  have hN:NY S V L m i (os.set i (X/V)) (R%1000000000^i+1000000000^i*(X%V)):=by
   have:=hI.next hV0 rfl;rw[hX]at this;exact this
  clear hI htwo hg hr1 hr2 hg1 hg2 hvt hgv hvt0 hvtB hX hRnv hRtop hr1B hr2B hpdl hlvX hfit
  refine Wo (n:=i) (vs:=rT (pd 1000000000 L (R%1000000000^i+1000000000^i*(X+1000000000^(nv+1)*(if X<g*V then 1 else 0)-g*V)))) (ts:=rT (pd 1000000000 L R)) (us:=rT (pd 1000000000 (nv+1) X)) rfl ⟨.i64,.i64,i+nv+1,(by show aE.int .i64 _=aE.int .i64 _;congr 1;omega),(by show aE.int .i64 _=aE.int .i64 _;congr 1;omega),O,by simp;omega,by rw[<-hview X hXlt,<-hRX]⟩ (by simp[pd]) rfl (sC rfl hsub) (by
   conv=>lhs;rw[hRX]
   exact hput X _ hXlt (by split<;>omega)) ?_
  refine vs _ rfl ?_ ?_<;>intro h57
  ·refine ao {p:Bool×Nat // if p.1 then p.2=X/V else X<p.2*V/\p.2<1000000000} (fun p=>[.one (.bool p.1.1),.one (.int .u64 p.1.2),.rows (rT (pd 1000000000 L (R%1000000000^i+1000000000^i*gbv (1000000000^(nv+1)) X V p.1)))]) (fun p=>if p.1.1 then 0 else p.1.2+1) ⟨(false,g),by simp only[dH,bf];exact⟨h57,hgB⟩⟩ ⟨aG.Sub.same,aG.Sub.same,aG.Sub.of_eq (congrArg (fun y=>aG.rows (rT (pd 1000000000 L (R%1000000000^i+1000000000^i*y)))) (by simp only[gbv,dH,bf];rw[if_pos h57,Nat.mul_one])),trivial⟩ (fun _=>rfl) ?_;rintro⟨⟨made,g'⟩,hp⟩;dsimp only[aO,aP]at hp|-;apply vn lf;refine lR (!made) rfl (fun h60=>?_) (fun h60=>?_)
   ·have hmd:made=false:=by simpa using h60
    subst hmd;simp only[dH,bf]at hp
    have hgV':g'*V<1000000000^(nv+1):=by
     rw[Nat.pow_succ,Nat.mul_comm (1000000000^nv)];exact Nat.lt_of_lt_of_le (yK (by omega:g'<1000000000) hV0) (Nat.mul_le_mul_left _ (kR hVlt))
    have hg0:0<g':=by
     rcases Nat.eq_zero_or_pos g' with h | h
     ·rw[h]at hp;omega
     ·exact h
    have hgm:(g'-1)*V+V=g'*V:=by
     obtain⟨k,rfl⟩:∃k,g'=k+1:=⟨g'-1,O⟩
     rw[Nat.add_sub_cancel,Nat.add_mul,Nat.one_mul]
    obtain⟨W,hW⟩:∃W,1000000000^(nv+1)=W:=⟨_,rfl⟩
    have hYe:gbv W X V (false,g')=X+W-g'*V:=by simp[gbv]
    have hnew:X+W-g'*V+V-W*(if W<=X+W-g'*V+V then 1 else 0)=gbv W X V (decide (W<=X+W-g'*V+V),g'-1):=by
     rw[hW]at hgV' hXlt;by_cases hc:W<=X+W-g'*V+V
     ·rw[if_pos hc,Nat.mul_one];simp only[gbv,hc,oC,bR];have hq:X/V=g'-1:=xh hV0 (by rw[show g'-1+1=g' by omega];exact hp.1);have h1:=Nat.mod_add_div X V;rw[hq,Nat.mul_comm]at h1;omega
     ·rw[if_neg hc,Nat.mul_zero];simp only[gbv,hc,lr,dH,bf];omega
    rw[hW]at hview hput hgive hXlt hgV';have hYlt:X+W-g'*V<W:=O
    have hput1:=hput (X+W-g'*V) (X+W-g'*V+V-W*(if W<=X+W-g'*V+V then 1 else 0)) hYlt (by split<;>omega);rw[hnew]at hput1;rw[hW,hYe];refine Wo (n:=i) (ts:=rT (pd 1000000000 L (R%1000000000^i+1000000000^i*(X+W-g'*V)))) (us:=rT (pd 1000000000 (nv+1) (X+W-g'*V))) (us':=rT (pd 1000000000 (nv+1) (gbv W X V (decide (W<=X+W-g'*V+V),g'-1)))) rfl ⟨.i64,.i64,i+nv+1,(by show aE.int .i64 _=aE.int .i64 _;congr 1;omega),(by show aE.int .i64 _=aE.int .i64 _;congr 1;omega),O,by simp;omega,(hview _ hYlt).symm⟩ (by simp[pd]) rfl (sC rfl (hnew▸hgive _ hYlt)) hput1 ?_;apply vn Wf;dsimp only[aO,aP];have hg1':(g':Int)-1=((g'-1:Nat):Int):=by clear hN hput hview hgive hfitY;omega
    refine aW rfl ⟨⟨(decide (W<=X+W-g'*V+V),g'-1),?_⟩,⟨aG.Sub.same,aG.Sub.of_eq (congrArg (fun q=>aG.one (aE.int .u64 q)) hg1'),aG.Sub.of_eq ?_,trivial⟩,?_⟩
    ·by_cases hc:W<=X+W-g'*V+V
     ·simp only[hc,oC,bR];exact(xh hV0 (by rw[show g'-1+1=g' by omega];exact hp.1)).symm
     ·simp only[hc,lr,dH,bf];omega
    ·dsimp only;rfl
    ·dsimp only;by_cases hc:W<=X+W-g'*V+V
     ·simp[hc]
     ·simp[hc];omega
   have hmd:made=true:=by simpa using h60
   subst hmd;simp only[bR]at hp;subst hp;simp only[gbv,bR];apply vn (pU ⟨_,ia⟩ gx (oh _) (RW hX2));refine cy rfl rfl O O ?_;refine mY (d':=X/V) rfl rfl O O hok rfl ?_;apply vn aJ;dsimp only[aO,aP];exact aW rfl ⟨⟨(i,os.set i (X/V),R%1000000000^i+1000000000^i*(X%V)),hN⟩,⟨aG.Sub.of_eq (congrArg (fun q=>aG.one (aE.int .i64 q)) (aO9 i)),aG.Sub.same,aG.Sub.same,trivial⟩,by show i<i+1;omega⟩
  have hq:X/V=g:=Nat.le_antisymm hgq (by rw[Nat.le_div_iff_mul_le hV0];omega)
  have hmod:X+1000000000^(nv+1)*(if X<g*V then 1 else 0)-g*V=X%V:=by
   rw[if_neg h57,Nat.mul_zero,Nat.add_zero];have h1:=Nat.mod_add_div X V;rw[hq,Nat.mul_comm]at h1;omega
  rw[hmod];rw[hq]at hN;apply vn (pU ⟨_,ia⟩ gx (oh _) (RW hgB));refine cy rfl rfl O O ?_;refine mY (d':=g) rfl rfl O O hok rfl ?_;apply vn aJ;dsimp only[aO,aP];exact aW rfl ⟨⟨(i,os.set i g,R%1000000000^i+1000000000^i*(X%V)),hN⟩,⟨aG.Sub.of_eq (congrArg (fun q=>aG.one (aE.int .i64 q)) (aO9 i)),aG.Sub.same,aG.Sub.same,trivial⟩,by show i<i+1;omega⟩
 have hn0:n=0:=O
 subst hn0;have heq:=hI.eq;have hlt:=hI.lt;rw[eF,Nat.pow_zero,Nat.mul_one]at heq;rw[Nat.pow_zero,oc]at hlt;obtain⟨hQ,hR⟩:=ya heq hlt;have hQ2:lv os=a/b:=by rw[hQ,<-hS,<-hV,Nat.mul_div_mul_right _ _ hs0]
 have hR2:R=a%b*s:=by rw[hR,<-hS,<-hV,Nat.mul_mod_mul_right]
 apply aA (jK (pd 1000000000 L R) (FD O _ _) (by rw[eK];omega)) rfl;rw[show lv (pd 1000000000 L R)=R by rw[lv,yQ,Nat.mod_eq_of_lt hfit]];apply aA (aA6 R s hs0 hsB (by have:=Dz hfit;omega)) rfl;apply aA (jK os hI.dg);dsimp only[aO,aP];refine aK ?_;rw[hQ2,hR2,Nat.mul_div_cancel _ hs0];rfl
open Go Go.Proofs Go.RowKit Go.Shelf Tryz Ord
attribute [local go_sem] Oper.semAt_some
section
variable{α:Type}[Inhabited α]{enc:α->Value}
def bk(vs:List α)(k:Nat):List (Nat×α):=(List.range k).map fun j=>(vs.length-1-j,vs[vs.length-1-j]?.getD default)
def La(vs:List α)(k:Nat):bk vs (k+1)=bk vs k++[(vs.length-1-k,vs[vs.length-1-k]?.getD default)]:=by simp[bk,mM]
def Ih(vs:List α)(k:Nat):(bk vs k).length=k:=by simp[bk]
def KpB(n₀ Bs:Nat)(A B:World):Prop:=Below n₀ A B/\∀v,A.cell? ⟨Bs,0,none⟩=some v->B.cell? ⟨Bs,0,none⟩=some v
def VV(l Bs n₀ b off cap:Nat)(vs:List α)(hlen:vs.length<4611686018427387904)(hb:b<n₀)(J Jx:List (Nat×α)->World->Prop)
  (hY:∀pre x W,J pre W->pre.length<vs.length->YieldAt Fence.wide (1000-1) prog l #[.int .i64 (x.1:Int),enc x.2] W fun e W'=>
   (e=.returned (.bool true)/\J (pre++[x]) W'/\KpB n₀ Bs W W')\/(e=.returned (.bool false)/\Jx (pre++[x]) W'))
  (W:World) (hBs:W.cell? ⟨Bs,0,none⟩=some (.slice (some ⟨b,off,none⟩) vs.length cap)) (hc:∀j v,vs[j]?=some v->W.cell? ⟨b,off+j,none⟩=some (enc v)) (h0:J [] W) :
  CallsIn Fence.wide 1000 prog 274 #[.func (.yield l) #[] #[],.pointer (some ⟨Bs,0,none⟩)] W fun e W'=>(∃v,e=.returned v) /\
   ((∃ys,ys=bk vs vs.length/\J ys W')\/(∃pre,(∃k,k<=vs.length/\pre=bk vs k)/\Jx pre W')):=by
 refine kV func274 rfl trivial ?_ rfl;simp only[ntmps274,dW,List.length_cons,bq,Nat.reduceAdd,Nat.reduceSub,dw,dv,du,dz,List.nil_append,List.cons_append];obtain⟨N,hN⟩:∃N,vs.length=N:=⟨_,rfl⟩
 rw[hN]at hBs hY hlen|-
 gi_wp2
 gi_loopw [3] (fun i wr=>∃k:Nat,k<=N/\i=.int .i64 ((N:Int)-1-k)/\J (bk vs k) wr/\Below n₀ W wr/\wr.cell? ⟨Bs,0,none⟩=some (.slice (some ⟨b,off,none⟩) N cap))
  (fun i _=>(intOf i+1).toNat)
 case atStart=>exact⟨0,bO _,by simp,h0,cF _ _,hBs⟩
 case round=>
  obtain⟨k,hk,rfl,hJs,hnx,hBx⟩:=hrel;have hmeas:(intOf (.int .i64 ((N:Int)-1-k))+1).toNat=N-k:=by simp[intOf];omega
  by_cases hlt:k<N
  ·have hv:vs[N-1-k]?=some (vs[N-1-k]?.getD default):=by rw[ay O];rfl
   have hcx:wr.cell? ⟨b,off+(N-1-k),none⟩=some (enc (vs[N-1-k]?.getD default)):=(hnx.cell (p:=⟨b,off+(N-1-k),none⟩) hb).trans (hc _ _ hv);obtain⟨fn,tmps,assign,body,hy,hR⟩:=hY _ (N-1-k,vs[N-1-k]?.getD default) wr hJs (by rw[Ih];exact hlt);generalize hx:vs[N-1-k]?.getD default=x at hy hR hcx;have hsucc:bk vs (k+1)=bk vs k++[(N-1-k,x)]:=by rw[La,hN,hx]
   have e1:(N:Int)-1-k=((N-1-k:Nat):Int):=O
   have hn1:N-1-k<N:=O
   have e2:(wr.cell? ⟨b,off+(N-1-k),none⟩)=some (enc x):=hcx;rw[e1]
   gi_wp2
   refine hR.mono ?_;rintro e W3 (⟨rfl,hJ3,hk3⟩ | ⟨rfl,hJx3⟩)
   ·gi_wp2
    go_roundw
    case rel=>exact⟨k+1,O,by congr 1;omega,by rw[hsucc];exact hJ3,hnx.trans hk3.1,hk3.2 _ hBx⟩
    case measure=>simp[intOf]
   ·gi_wp2
    refine bodyPost_ret (Bt rfl _ _ _) rfl ?_;exact⟨⟨_,rfl⟩,.inr ⟨_,⟨k+1,O,rfl⟩,by rw[hsucc];exact hJx3⟩⟩
  ·obtain rfl:k=N:=O
   gi_wp2
   go_end0
   exact⟨⟨_,rfl⟩,.inl ⟨_,rfl,hJs⟩⟩
def PD{α:Type}(l Bs:Nat)(a:Option Addr)(cap:Nat)(J:List (Nat×α)->World->Prop)(W:World)(hBs:W.cell? ⟨Bs,0,none⟩=some (.slice a 0 cap))(h0:J [] W) :
  CallsIn Fence.wide 1000 prog 274 #[.func (.yield l) #[] #[],.pointer (some ⟨Bs,0,none⟩)] W fun e W'=>(∃v,e=.returned v)/\J [] W':=by
 refine kV func274 rfl trivial ?_ rfl;simp only[ntmps274,dW,List.length_cons,bq,Nat.reduceAdd,Nat.reduceSub,dw,dv,du,dz,List.nil_append,List.cons_append]
 gi_wp2
 gi_loopw [3] (fun i wr=>i=.int .i64 (-1)/\J [] wr) (fun _ _=>0)
 case atStart=>exact⟨rfl,h0⟩
 case round=>
  obtain⟨rfl,hJs⟩:=hrel
  gi_wp2
  go_end0
  exact⟨⟨_,rfl⟩,hJs⟩
def Mi(n:Nat)(a:Option Addr)(len cap:Nat)(w:World) :
  CallsIn Fence.wide n prog 240 #[.slice a len cap] w fun e w'=>e=.returned (.func (.func 274) #[] #[.pointer (some ⟨w.heap.size,0,none⟩)])/\w'=w.alloc (.cells #[.slice a len cap] 33):=by
 refine kV func240 rfl trivial ?_ rfl;simp only[ntmps240,dW,List.length_cons,bq,Nat.reduceAdd,Nat.reduceSub,dw,dv,du,dz,List.nil_append,List.cons_append]
 gi_wp2
 go_ret
 exact⟨rfl,rfl⟩
def Sl1(enc:α->Value)(n₀:Nat)(W:World)(sv:Value)(vs:List α):Prop:=
 ∃a cap,sv=.slice a vs.length cap/\(vs=[]\/∃b off,a=some ⟨b,off,none⟩/\b<n₀/\∀j v,vs[j]?=some v->W.cell? ⟨b,off+j,none⟩=some (enc v))
def Sl1.below{α:Type}{enc:α->Value}{n₀:Nat}{A B:World}(h:Below n₀ A B){sv:Value}{vs:List α}:Sl1 enc n₀ A sv vs->Sl1 enc n₀ B sv vs:=by
 rintro⟨a,cap,e,rfl | ⟨b,off,rfl,hb,hc⟩⟩
 ·exact⟨a,cap,e,.inl rfl⟩
 ·exact⟨_,cap,e,.inr ⟨b,off,rfl,hb,fun j v hj=>(h.cell (p:=⟨b,off+j,none⟩) hb).trans (hc j v hj)⟩⟩
def zR(Bs n₀:Nat)(sv:Value)(vs:List α)(hlen:vs.length<4611686018427387904)(w:World)(hBs:Bs<w.heap.size)(hn₀:n₀<=w.heap.size)
  (hc:w.cell? ⟨Bs,0,none⟩=some sv) (hI:Sl1 enc n₀ w sv vs) :
  SeqStopsK Fence.wide 1000 prog 274 #[.pointer (some ⟨Bs,0,none⟩)] (fun x:Nat×α=>#[Value.int .i64 (x.1:Int),enc x.2]) (KpB n₀ Bs) (fun ys=>ys=bk vs vs.length) (fun pre=>∃k,k<=vs.length/\pre=bk vs k) vs.length w:=fun l J Jx W hW _ _ hY h0=>by
 have hc':=(hW.cell (p:=⟨Bs,0,none⟩) hBs).trans hc;obtain⟨a,cap,rfl,rfl | ⟨b,off,rfl,hb,hcs⟩⟩:=hI.below (hW.mono hn₀)
 ·exact(PD (α:=α) l Bs a cap J W hc' h0).mono fun e W' ⟨he,hj⟩=>⟨he,.inl ⟨_,rfl,hj⟩⟩
 ·exact(VV (enc:=enc) l Bs n₀ b off cap vs hlen hb J Jx hY W hc' hcs h0)
def Tp{n₀ Bs:Nat}{A B C:World}(h:KpB n₀ Bs A B)(k:KpB n₀ Bs B C):KpB n₀ Bs A C:=⟨h.1.trans k.1,fun v hv=>k.2 v (h.2 v hv)⟩
def TN{n₀ Bs:Nat}{w:World}(hn:n₀<=w.heap.size)(hB:Bs<w.heap.size)(W:World)(l:Nat)(o o':Obj)(hl:w.heap.size<=l)(h:W.heap[l]?=some o)(h1:o.isCells=false)(h2:o.isWalk=false):KpB n₀ Bs W (W.putObj l o'):=
 ⟨tz hn W l o o' hl h h1 h2,fun v hv=>by
  have e:(W.putObj l o').heap[Bs]?=W.heap[Bs]?:=su O;simp only[World.cell?,e]at hv|-;exact hv⟩
end
def wv(pre:List (Nat×Int)):Int:=pre.foldl (fun n x=>IntKind.u64.wrap (IntKind.u64.wrap (n*1000000000)+IntKind.u64.wrap x.2)) 0
def ax4(pre:List (Nat×Int))(x:Nat×Int):wv (pre++[x])=IntKind.u64.wrap (IntKind.u64.wrap (wv pre*1000000000)+IntKind.u64.wrap x.2):=by simp[wv]
def ZM{n:Nat}(hn:n<1000000000000000000):wv (bk ((dg n).map (fun d:Nat=>(d:Int))) (dg n).length)=(n:Int):=by
 have hl:(dg n).length<=2:=Dz O;have hv:=gw n;have hd:=ke n;generalize dg n=ds at hl hv hd
 match ds,hl with
 | [],_=>simp[lv,val]at hv;subst hv;simp[bk,wv]
 | [a],_=>
   have ha:=hd a (by simp);simp[lv,val]at hv;simp[bk,wv,mM];simp only[qY];omega
 | [a,b],_=>
   have ha:=hd a (by simp);have hb:=hd b (by simp);simp[lv,val]at hv;simp[bk,wv,mM];simp only[qY];omega
def ZQ{M:Nat->Prop}{w:World}{v:Value}{ds:List Nat}(h:(aE.slice 1 (rT ds)).rep M w v):Sl1 (fun d:Int=>Value.int .u32 d) w.heap.size w v (ds.map (fun d:Nat=>(d:Int))):=by
 obtain⟨a,cap,rfl,hc,hm,hel⟩:=h;refine⟨a,cap,by simp,?_⟩;rcases hel with h | ⟨b,off,cs,T,fz,rfl,hb,hh,hr⟩
 ·left
  have:ds=[]:=by cases ds<;>simp_all
  subst this;rfl
 ·refine .inr ⟨b,off,rfl,(cK.1 hh).1,fun j v hj=>?_⟩;rw[cC]at hj;cases hd:ds[j]? with
  | none=>rw[hd]at hj;simp at hj
  | some d=>
    rw[hd]at hj;simp only[cf,aI]at hj;subst hj;obtain⟨_,hrep⟩:=hr j _ (pF hd);rw[Nat.mul_one]at hrep;have hl:=hrep.length
    have hlt:off+j<cs.toList.length:=by
     simp only[List.length_cons,bq,List.length_take,dA]at hl;omega
    rw[pC hlt,List.take_succ_cons,ma]at hrep;have h1:cs.toList[off+j]=.int .u32 d:=hrep.1.1;simp only[World.cell?,hh];rw[Array.getElem_toList]at h1;simp[h1,Kv (show off+j<cs.size by simpa using hlt)]
def aA7(a:Option Addr)(cap:Nat)(vs:List Int)(hlen:vs.length<4611686018427387904)(w:World)(hI:Sl1 (fun d:Int=>Value.int .u32 d) w.heap.size w (.slice a vs.length cap) vs) :
  CallsIn Fence.wide 1001 prog 249 #[.agg #[.slice a vs.length cap]] w fun e W'=>e=.returned (.int .u64 (wv (bk vs vs.length)))/\Below w.heap.size w W':=by
 refine xE func249 rfl trivial ?_ rfl;simp only[ntmps249,dW,List.length_cons,bq,Nat.reduceAdd,Nat.reduceSub,dw,dv,du,dz,List.nil_append,List.cons_append];generalize hL:vs.length=L at hI hlen|-
 gi_wp2_with (refine⟨trivial,?_⟩;gi_at_call 240;refine(Mi _ _ _ _ _).mono ?_;rintro e w' ⟨rfl,rfl⟩)
 have bN:=Boxed.new (w.alloc (.cells #[.slice a L cap] 35)) 254 (.int .u64 0);have bS:=Boxed.new ((w.alloc (.cells #[.slice a L cap] 35)).alloc (.cells #[.int .u64 0] 254)) 33 (.slice a L cap);simp only[bL]at bN bS;have hB0:Below w.heap.size w (((w.alloc (.cells #[.slice a L cap] 35)).alloc (.cells #[.int .u64 0] 254)).alloc (.cells #[.slice a L cap] 33)):=(((cF _ w).alloc (aY _) _).alloc (by simp) _).alloc (by simp;omega) _;obtain⟨W0,hW0⟩:∃W0,(((w.alloc (.cells #[.slice a L cap] 35)).alloc (.cells #[.int .u64 0] 254)).alloc (.cells #[.slice a L cap] 33))=W0:=⟨_,rfl⟩
 have hs0:W0.heap.size=w.heap.size+3:=by rw[<-hW0];simp
 have bN':=bN.alloc (.cells #[.slice a L cap] 33);rw[hW0]at hB0 bS bN' |-
 refine wpIn_rangeFunc_ownF (w0:=W0) rfl O (gf:=274) (lb:=#[.pointer (some ⟨w.heap.size+1+1,0,none⟩)]) rfl trivial (enters_of func274 (by kernel_rfl) rfl)
  (zR (enc:=fun d:Int=>Value.int .u32 d) (w.heap.size+1+1) w.heap.size (.slice a L cap) vs O W0 O O bS.cell (hI.below hB0)) Tp (TN O O) (cF _ _) (fun _=>rfl)
  (fun pre W=>(W.cell? ⟨w.heap.size+1,0,none⟩=some (.int .u64 (wv pre))/\W.frozen? ⟨w.heap.size+1,0,none⟩=false)/\Below w.heap.size w W)
  (fun _ _ _=>False)
  (OwnFrom.and (Own.from (fun s A B row hs hg hr=>⟨cell_kept hs.1 hg hr,(frozen_kept hs.1 hg hr).trans hs.2⟩) _) (ownFrom_below (aY _) O))
  (fun _=>by intro s A B row hs;exact hs.elim)
  ⟨⟨bN'.cell,bN'.frozen⟩,hB0⟩
  (fun x=>{ tmps:=#[.agg #[.slice a L cap],.pointer (some ⟨w.heap.size,0,none⟩),.int .u64 0,.pointer (some ⟨w.heap.size+1,0,none⟩),undef,.int .u32 x.2,.pointer (some ⟨w.heap.size,0,none⟩),.slice a L cap,.func (.func 274) #[] #[.pointer (some ⟨w.heap.size+1+1,0,none⟩)],.int .i64 (x.1:Int),.int .u32 x.2,undef,undef,undef,undef,undef,undef],defers:=[] }) ?assign ?body ?done ?stop
 case assign=>
  intro l x W K hK
  gi_wp2
  exact hK
 case body=>
  rintro l pre x W ⟨⟨hcr,hfr⟩,hB⟩ _
  gi_wp2
  refine⟨KeepsOthers.setCell _ _ _,⟨(cF w.heap.size W).setCell (p:=⟨w.heap.size+1,0,none⟩) (by simp) _,fun v hv=>?_⟩,⟨?_,by rw[World.frozen?_setCell];exact hfr⟩,hB.setCell (p:=⟨w.heap.size+1,0,none⟩) (by simp) _⟩
  ·refine Eq.trans (World.cell?_setCell_other _ _ _ _ ?_) hv;simp
  ·rw[ax4];exact World.cell?_setCell_same' _ _ _ (by rw[hcr];rfl)
 case done=>
  rintro D ys W hD rfl ⟨⟨hcr,hfr⟩,hB⟩ hK
  gi_wp2
  refine⟨by simp,.inl ⟨_,_,rfl,wP hK,?_⟩⟩;exact⟨_,Cb rfl _ _ _,rfl,hB.trans (tz (w:=w) (aY _) W D _ _ O hK rfl rfl)⟩
 case stop=>
  rintro D c pre W hD _ h hK;exact h.elim
def aj8(n:Nat)(hn:n<1000000000000000000):aL prog 249 [mT n] (.ret [.one (.int .u64 n)]):=by
 refine⟨bJ (by kernel_rfl),fun M w vs hM hv=>?_⟩
 match vs,hv with
 | [v],hv=>
   obtain⟨⟨us,rfl,hus⟩,_⟩:=hv
   match us,hus with
   | [u],hus=>
     have hsl:=ZQ hus.1;obtain⟨a,cap,rfl,hel⟩:=hsl;have hl:((dg n).map (fun d:Nat=>(d:Int))).length=(dg n).length:=aR _
     have hlen:(dg n).length<4611686018427387904:=by
      have h2:(dg n).length<=2:=Dz (by rw[show(1000000000:Nat)^2=1000000000000000000 by decide];exact hn);omega
     have h1:=aA7 a cap ((dg n).map (fun d:Nat=>(d:Int))) (by rw[hl];exact hlen) w ⟨a,cap,rfl,hel⟩;rw[hl,ZM hn]at h1;have h2:Calls prog 249 #[.agg #[.slice a (dg n).length cap]] w _:=(iR (n:=1001)).1 h1;rw[hl];show Calls prog 249 #[.agg #[.slice a (dg n).length cap]] w _;refine h2.mono ?_;rintro e w' ⟨rfl,hb⟩;exact⟨hb,[.int .u64 n],rfl,⟨rfl,rfl⟩,trivial⟩
   | [],hus=>exact hus.elim
   | _::_::_,hus=>exact hus.2.elim
 | [],hv=>exact hv.elim
 | _::_::_,hv=>exact hv.2.elim
end Go.Sy
namespace Go.Sy
open Go Go.Proofs Tryz Ord
def br9:Tr:=DJ 249 2 22 254 (DM 249 3 0 24 254 (.loop 1 [lV 11 0,lV 12 0] (.need (.prim [(W 14 0),(.one (.c (.k (.int .u64 0))))] none) (.binOp .neq 254 (tT 26) (.const (.int .u64 0)) 254) 4 false (aH 15 0 (uW .rem 254 29 30 13 0 14 0 254 (jj 1 14 16)) (lZ 195 13 1 32 254 35 (pR 16))))))
def bz5:Tr:=jb 7 0 2 3 14 (aH 8 0 (au 3 0 18 33 (jb 9 0 2 3 19 (aH 10 0 br9 (IY 2 3 35 36 (sW 0 3 12 4))))) (IY 2 3 35 36 (sW 0 3 10 4)))
def ah6:Tr:=pR 2
def bG8:Tr:=.loop 0 [lV 0 0,lV 1 0,lN] (DM 179 3 0 9 4 (jX 5 0 10 (aH 6 0 (au 2 0 13 33 bz5) ah6)))
def Za:aM prog f191 bZ [.v (some 1),.v (some 1)]=bG8:=by kernel_rfl
def bJ6:Tr:=aH 8 0 (kz 118 5 0 4 14 15 (fL 3 0 1 3 17 (aH 10 0 (kz 118 4 0 4 19 20 (qA .quo 3 9 2 3 0 3 (sW 0 12 11 9))) (qA .quo 3 9 2 3 0 3 (sW 0 11 4 9))))) (fL 3 0 1 3 17 (aH 9 0 (kz 118 4 0 4 19 20 (qA .quo 3 9 2 3 0 3 (sW 0 11 10 5))) (qA .quo 3 9 2 3 0 3 (sW 0 10 4 5))))
def bC4:Tr:=PY (.loop 0 [lV 1 0,lV 0 0,lV 2 0] (fL 3 0 0 3 7 (aH 6 0 (qA .rem 3 11 2 3 0 3 (eH 7 0 1 3 12 bJ6)) (pR 5))))
def ao6:aM prog f282 bZ [.v (some 1),.v none]=bC4:=by kernel_rfl
def Up:Tr:=kh 4 0 4 1
def bP6:Tr:=uW .neq 4 6 8 0 1 1 1 4 (kz 118 0 0 1 11 13 (Dm 2 0 3 9 14 Up))
def be7:aM prog f116 bZ [.v (some 2),.v (some 2)]=bP6:=by kernel_rfl
def Qo:Tr:=kh 6 0 6 1
def bI9:Tr:=uW .eql 4 7 9 0 1 1 1 4 (aH 2 0 (kz 196 0 0 1 14 16 (Dm 0 1 3 12 17 Up)) (dV 119 [(G1 0),(G1 1)] [none] [21,23] [35,35] 3 true (iJ 3 0 0 3 24 (aH 4 0 (kz 194 1 0 0 29 31 (Dm 1 1 5 27 32 Qo)) (kz 194 0 0 1 37 39 (Dm 0 1 5 35 40 Qo))))))
def bb0:aM prog f154 bZ [.v (some 2),.v (some 2)]=bI9:=by kernel_rfl
def bD3:Tr:=DJ 179 3 17 4 (jX 4 0 18 (aH 5 0 (PY (kz 196 2 0 6 21 22 (Dm 0 1 7 25 26 (kh 8 0 8 1)))) (Dm 0 1 2 25 26 Qo)))
def bH1:Tr:=IY 0 1 9 10 (aH 0 1 bD3 (Dm 0 1 2 25 26 Up))
def aa2:aM prog f294 bZ [.v (some 2),.v (some 1)]=bH1:=by kernel_rfl
def bx3:Tr:=iJ 0 0 0 2 3 (aH 1 0 (fM 0 2 254 5 (PU 2 254 6 (lZ 195 3 1 7 254 35 (.need (.call 155 [(tF true),(G1 4)] [(some 2)]) (.call ⟨.value (.func 155),#[(.const (.bool true)),(tT 8)],#[4,35]⟩) 37 true (kh 5 0 5 1))))) (fM 0 2 254 10 (lZ 195 2 1 11 254 35 (.need (.call 155 [(tF false),(G1 3)] [(some 2)]) (.call ⟨.value (.func 155),#[(.const (.bool false)),(tT 12)],#[4,35]⟩) 37 true Up))))
def aq7:aM prog f158 bZ [.v none]=bx3:=by kernel_rfl
def fi{n B:Nat}(h:n<2^B):(dg n).length<=B:=
 Dz (Nat.lt_of_lt_of_le h (eP O B))
def SA{n:Nat}(h:(dg n).length<=2:=by omega):n<1000000000000000000:=by
 have h1:=IX n;have h2:1000000000^(dg n).length<=1000000000^2:=Nat.pow_le_pow_right O h;rw[show(1000000000:Nat)^2=1000000000000000000 by decide]at h2;omega
def ba1(n:Nat):aL prog 192 [(mT n:aG)] (.ret [.one (.bool (decide (n=1)))]):=by
 refine bw func192 aX3 ?_;apply vn (aU dS (aR _));apply vn bK;refine vs _ rfl ?_ ?_<;>intro h2
 ·obtain⟨d,hd⟩:∃d,dg n=[d]:=by
   match h:dg n with
   | [d]=>exact⟨d,rfl⟩
   | []=>rw[h]at h2;simp at h2
   | _::_::_=>rw[h]at h2;simp at h2;omega
  have hv:=gw n;rw[hd]at hv;apply vn (aZ dS (show(dg n)[0]?=some d by rw[hd];rfl)) rfl;apply vn (av xW);apply vn bK;dsimp only[aO,aP];refine aK ?_;have hv:d=n:=by simpa[lv,val]using hv
  subst hv;show[aG.one (.bool (decide ((d:Int)=1)))]=_;have e:((d:Int)=1)↔d=1:=O
  simp only[e]
 refine aK ?_
 have:¬n=1:=fun e=>by
  subst e;rw[pE]at h2;exact h2 rfl
 simp[this];rfl
def Yc(a b:Nat)(hs:(dg (max a b)).length<137438953472):aL prog 191 [(mT a:aG),(mT b:aG)] (.ret [mT (Nat.gcd a b)]):=by
 refine bw func191 Za ?_;refine ao {p:Nat×Nat // Nat.gcd p.1 p.2=Nat.gcd a b/\p.1<=max a b/\p.2<=max a b} (fun p=>[.one (dT p.1.1),.one (dT p.1.2),.one (.exact (.slice none 0 0))]) (fun p=>p.1.2) ⟨(a,b),rfl,O,O⟩ aQ.rfl (fun _=>rfl) ?_;rintro⟨⟨x,y⟩,hg,hx,hy⟩;dsimp only[aO,aP]at hg hx hy|-;have hxl:=lq hx;have hyl:=lq hy;apply aA (xt y);apply vn HQ;refine vs _ rfl ?_ ?_<;>intro h3
 ·have hy0:0<y:=O
  apply vn (aU dS (aR _));apply vn iO;refine vs _ rfl ?_ ?_<;>intro h6
  ·apply vn (aU dS (aR _));apply vn iO;refine vs _ rfl ?_ ?_<;>intro h9
   ·apply aA (aj8 x (SA));apply aA (aj8 y (SA));dsimp only[aO,aP];have hx18:=SA (n:=x);have hy18:=SA (n:=y);clear hxl hyl;refine ao {p:Nat×Nat // Nat.gcd p.1 p.2=Nat.gcd a b/\p.1<1000000000000000000/\p.2<1000000000000000000} (fun p=>[.one (.int .u64 p.1.1),.one (.int .u64 p.1.2)]) (fun p=>p.1.2) ⟨(x,y),hg,hx18,hy18⟩ aQ.rfl (fun _=>rfl) ?_;rintro⟨⟨p,q⟩,hpq,hp,hq⟩;dsimp only[aO,aP]at hpq hp hq|-;apply vn gN;refine vs _ rfl ?_ ?_<;>intro h14
    ·apply vn (Ea (c:=((p%q:Nat):Int)) O (by rw[uZ (oh _),<-Kr]));exact aW rfl ⟨⟨(q,p%q),by rw[<-hpq,iu p q,tG q p,iu],hq,Nat.lt_of_le_of_lt (tc _ _) hp⟩,aQ.rfl,Nat.mod_lt _ O⟩
    have hq0:q=0:=O
    subst hq0;rw[BX]at hpq;apply aA (im p);dsimp only[aO,aP];rw[hpq];exact aK
   apply aA (ED x y hy0);exact aW rfl ⟨⟨(y,x%y),by rw[<-hg,iu x y,tG y x,iu],hy,Nat.le_trans (tc _ _) hx⟩,aQ.rfl,Nat.mod_lt _ hy0⟩
  apply aA (ED x y hy0);exact aW rfl ⟨⟨(y,x%y),by rw[<-hg,iu x y,tG y x,iu],hy,Nat.le_trans (tc _ _) hx⟩,aQ.rfl,Nat.mod_lt _ hy0⟩
 have hy0:y=0:=O
 subst hy0;rw[BX]at hg;rw[hg];exact aK
def Of{a B n:Nat}(h:a<2^B)(hB:1<=B):a^n<2^(B*n+1):=by
 rw[Nat.pow_succ,iA];have h1:a^n<=(2^B)^n:=eP (kR h) n;have h2:0<(2^B)^n:=Nat.pow_pos (Nat.pow_pos O);omega
structure IK(a n:Nat)(k x y:Nat):Prop where
 eq:y*x^k=a^n
 z:a=0->x=0
 x1:k≠0->x<=max 1 (a^n)
 y1:y<=max 1 (a^n)
def IK.mk'{a n k x y:Nat}(hn:n≠0)(eq:y*x^k=a^n)(z:a=0->x=0)(hy:x=0->y<=1):IK a n k x y:=by
 have hk:∀t,0<t->t<=x->0<x^k:=fun t h1 h2=>Nat.pow_pos O;refine⟨eq,z,fun h0=>?_,?_⟩
 ·rcases Nat.eq_zero_or_pos x with hx | hx
  ·omega
  ·rcases Nat.eq_zero_or_pos y with hy0 | hy0
   ·rw[hy0,oV]at eq;have:=z (Nat.eq_zero_of_not_pos fun ha=>by have:=Nat.pow_pos (n:=n) ha;omega);omega
   ·have h1:x<=x^k:=Nat.le_self_pow h0 x;have h2:x^k<=y*x^k:=Nat.le_mul_of_pos_left _ hy0;omega
 ·rcases Nat.eq_zero_or_pos x with hx | hx
  ·have:=hy hx;omega
  ·have h2:y<=y*x^k:=Nat.le_mul_of_pos_right _ (Nat.pow_pos hx);omega
def Tt(a n:Nat)(B:Nat)(hB:1<=B:=by omega)(ha:a<2^B:=by omega)(hn:n<1099511627776:=by omega)(hs:B*n<137438953472:=by omega):aL prog 282 [(mT a:aG),(.one (.int .i64 n):aG)] (.ret [mT (a^n)]):=by
 refine bw func282 ao6 ?_
 have hbd:∀j,j<=max 1 (a^n)->(dg j).length<=B*n+1:=fun j hj=>fi (by
  have h1:=Of (n:=n) ha hB;have h2:2^1<=2^(B*n+1):=Nat.pow_le_pow_right O O;omega)
 apply aA (im 1);dsimp only[aO,aP];refine ao {p:Nat×Nat×Nat // IK a n p.1 p.2.1 p.2.2/\(p.1≠0->n≠0)/\(p.2.1=0->p.2.2<=1)/\p.1<=n} (fun p=>[.one (.int .i64 p.1.1),.one (dT p.1.2.1),.one (dT p.1.2.2)]) (fun p=>p.1.1) ⟨(n,a,1),⟨by simp,fun h=>h,fun h=>by have:=Nat.le_self_pow h a;show a<=max 1 (a^n);exact Nat.le_trans this (JF _ _),Nat.le_max_left _ _⟩,fun h=>h,fun _=>aY _,aY _⟩ aQ.rfl (fun _=>rfl) ?_;rintro⟨⟨k,x,y⟩,hI,hn0,hy1,hkn⟩;dsimp only[aO,aP]at hI hn0 hy1 hkn|-;have hyl:=hbd y hI.y1;apply vn dZ;refine vs _ rfl ?_ ?_<;>intro h3
 ·have hk0:k≠0:=O
  have hnn:=hn0 hk0;have hxl:=hbd x (hI.x1 hk0)
  have hev:k%2=0->y*(x*x)^(k/2)=a^n:=fun h=>by
   rw[<-hI.eq,<-Nat.pow_two,<-iA];congr 2;omega
  have hod:k%2=1->y*x*(x*x)^(k/2)=a^n:=fun h=>by
   rw[<-hI.eq,<-Nat.pow_two,<-iA,Nat.mul_assoc,<-Nat.pow_succ'];congr 2;omega
  have hz2:a=0->x*x=0:=fun h=>by rw[hI.z h]
  have hx2:x*x=0->x=0:=fun h=>by rcases Nat.mul_eq_zero.1 h with h | h<;>exact h
  have hyx2:x=0->y*x<=1:=fun h=>by rw[h];omega
  apply vn dd;apply vn bK;refine vs _ rfl ?_ ?_<;>intro h6
  ·apply aA (jZ y x);apply vn dZ;refine vs _ rfl ?_ ?_<;>intro h9
   ·apply aA (jZ x x);apply vn iD;dsimp only[aO,aP];exact aW rfl ⟨⟨(k/2,x*x,y*x),IK.mk' hnn (hod O) hz2 (hyx2 ∘ hx2),fun _=>hnn,hyx2 ∘ hx2,by show k/2<=n;omega⟩,aQ.rfl,by show k/2<k;omega⟩
   apply vn iD;dsimp only[aO,aP];have hk1:k=1:=O
   subst hk1;exact aW rfl ⟨⟨(1/2,x,y*x),IK.mk' hnn (by have:=hI.eq;rw[Ki]at this;simpa using this) hI.z hyx2,fun _=>hnn,hyx2,by show 1/2<=n;omega⟩,aQ.rfl,by show 1/2<1;omega⟩
  apply vn dZ;refine vs _ rfl ?_ ?_<;>intro h16
  ·apply aA (jZ x x);apply vn iD;dsimp only[aO,aP];exact aW rfl ⟨⟨(k/2,x*x,y),IK.mk' hnn (hev O) hz2 (fun h=>hy1 (hx2 h)),fun _=>hnn,fun h=>hy1 (hx2 h),by show k/2<=n;omega⟩,aQ.rfl,by show k/2<k;omega⟩
  exfalso;omega
 have hk0:k=0:=O
 subst hk0;have:=hI.eq;rw[Nat.pow_zero,Nat.mul_one]at this;rw[this];exact aK
def bz7:Tr:=aH 4 0 (IY 0 2 15 16 (IY 1 2 22 23 (Lr 0 1 5 28 30 (Pz 1 (kz 194 7 0 10 32 33 (fW 9 9 1 11 0)))))) (Lr 0 1 0 28 30 (Pz 1 (kz 194 1 0 6 32 33 (fW 5 5 1 7 0))))
def by3:Tr:=kz 191 0 0 1 7 8 (DM 192 2 0 10 4 (jX 3 0 11 bz7))
def ax3:aM prog f115 bZ [.v (some 2),.v (some 1)]=by3:=by kernel_rfl
def bE1:Tr:=PY (kz 196 0 2 1 4 5 ah6)
def Wk:aM prog f117 bZ [.v (some 3)]=bE1:=by kernel_rfl
def bI2:Tr:=.ret [(.agg [(U 0 0),(U 0 1),tN])]
def aJ4:aM prog f157 bZ [.v (some 2)]=bI2:=by kernel_rfl
def bv2:Tr:=lZ 158 0 2 3 2 37 (dV 157 [(G2 1)] [(some 3)] [4] [37] 39 true (fW 2 2 1 2 2))
def bF9:aM prog f68 bZ [.v none]=bv2:=by kernel_rfl
def bN8:Tr:=.need (.prim [(W 0 0),(W 1 0)] none) (.call ⟨.builtin .min,#[(tT 5),(tT 6)],#[3,3]⟩) 3 false (.need (.prim [(WK 0),(W 2 0)] none) (.call ⟨.builtin .max,#[(.const (I3 0)),(tT 7)],#[3,3]⟩) 3 false (bI 3))
def Yq:aM prog f283 bZ [.v none,.v none]=bN8:=by kernel_rfl
def bu7:Tr:=dV 114 [(G2 0)] [none] [4] [37] 3 true (bI 1)
def aG4:aM prog f35 bZ [.v (some 3)]=bu7:=by kernel_rfl
def bN3:Tr:=jX 0 1 5 (Lr 1 0 0 6 9 (fW 2 2 1 0 2))
def bl9:aM prog f65 bZ [.v (some 3)]=bN3:=by kernel_rfl
def bM4:Tr:=.need (.call 155 [(tF false),(G1 0)] [(some 2)]) (.call ⟨.value (.func 155),#[(.const (.bool false)),(tT 5)],#[4,35]⟩) 37 false (fW 1 1 1 0 2)
def bh5:aM prog f146 bZ [.v (some 3)]=bM4:=by kernel_rfl
def bP1:Tr:=IJ 117 1 0 1 2 1 9 35 (dV 116 [(G2 0),(.agg [(U 3 0),(tE (.bool false))])] [(some 2)] [12,14] [37,37] 37 false (dV 116 [(G2 1),(.agg [(U 2 0),(tE (.bool false))])] [(some 2)] [17,19] [37,37] 37 false (xU 154 4 5 15 20 37 (kz 118 2 0 3 22 23 (Pk 115 6 7 3 21 24 39 (fW 8 8 1 8 2))))))
def bF1:Tr:=jw 117 0 1 7 35 bP1
def aZ1:aM prog f64 bZ [.v (some 3),.v (some 3)]=bF1:=by kernel_rfl
def bA5:Tr:=IJ 65 1 0 1 2 3 6 39 (iQ 64 0 0 0 1 0 2 2 0 2 1 2 2 5 7 (fW 3 3 1 3 2))
def br8:aM prog f167 bZ [.v (some 3),.v (some 3)]=bA5:=by kernel_rfl
def bO7:Tr:=xU 116 0 1 6 8 37 (jw 117 0 1 10 35 (jw 117 1 1 12 35 (kz 118 3 0 4 11 13 (Pk 115 2 5 3 9 14 39 (fW 6 6 1 6 2)))))
def bj2:aM prog f36 bZ [.v (some 3),.v (some 3)]=bO7:=by kernel_rfl
def by0:Tr:=jw 117 1 1 10 35 (Lr 1 1 2 9 11 (xU 116 0 3 6 12 37 (jw 117 0 1 14 35 (kz 118 5 0 1 15 18 (Pk 115 4 6 3 13 19 39 (fW 7 7 1 7 2))))))
def aB4:aM prog f255 bZ [.v (some 3),.v (some 3)]=by0:=by kernel_rfl
def bu9:Tr:=DH 35 1 6 39 3 (eH 2 0 0 3 7 (aH 3 0 (.ret [(.agg [tN,(tE (.bool false)),tN]),(WK 9)]) (iQ 255 0 0 0 1 0 2 1 0 1 1 1 2 10 11 (.ret [(G3 4),(WK 0)]))))
def bk5:aM prog f200 bZ [.v (some 3),.v (some 3)]=bu9:=by kernel_rfl
def bJ1:Tr:=uM 68 0 3 6 2 39 (uM 68 1 3 8 2 39 (dV 200 [(G3 2),(G3 3)] [(some 3),none] [7,9] [39,39] 90 true (.ret [(G3 4),(W 5 0)])))
def bU3:aM prog f120 bZ [.v none,.v none]=bJ1:=by kernel_rfl
def bg8:Tr:=jw 117 1 1 31 35 (dV 118 [(G1 0),(G1 7)] [(some 1)] [30,32] [35,35] 35 false (jw 117 0 1 37 35 (dV 118 [(G1 1),(G1 9)] [(some 1)] [36,38] [35,35] 35 false (dV 119 [(G1 8),(G1 10)] [none] [33,39] [35,35] 3 true (uW .mul 3 27 40 6 0 11 0 3 (bI 12))))))
def bE0:Tr:=eH 2 0 0 3 15 (aH 5 0 (da 2 0 3 0 3 18 19 (da 2 0 3 0 3 21 22 (qA .quo 3 23 2 7 0 3 (da 6 0 8 0 3 20 24 (bI 9))))) (uP 35 0 0 1 2 26 39 3 bg8))
def bE7:Tr:=uW .neq 3 11 12 2 0 3 0 4 (aH 4 0 (da 2 0 3 0 3 18 19 (da 2 0 3 0 3 21 22 (qA .quo 3 23 2 6 0 3 (da 5 0 7 0 3 20 24 (bI 8))))) bE0)
def bx7:Tr:=uP 35 0 0 1 2 7 39 3 (DH 35 1 9 39 3 bE7)
def bm0:aM prog f38 bZ [.v (some 3),.v (some 3)]=bx7:=by kernel_rfl
def Kq(x y:Int)(hs:(dg x.natAbs).length+(dg y.natAbs).length<1099511627776:=by omega):aL prog 116 [(iT x:aG),(iT y:aG)] (.ret [iT (x*y)]):=by
 refine bw func116 be7 ?_;apply vn (aZ0 un4);apply aA (jZ _ _ hs)
 apply aA (ew _ _ (x*y) (by
  rw[<-Int.natAbs_mul];have hsg:(x*y).natAbs=x.natAbs*y.natAbs:=Int.natAbs_mul _ _;by_cases h1:x<0<;>by_cases h2:y<0<;>simp only[h1,h2,oC,lr,ne_eq,not_true_eq_false,not_false_eq_true,Bool.true_eq_false,dH,bR,bf]
  ·have:=Int.mul_pos_of_neg_of_neg h1 h2;omega
  ·have:=Int.mul_nonpos_of_nonpos_of_nonneg (Int.le_of_lt h1) (tR.1 h2);omega
  ·have:=Int.mul_nonpos_of_nonneg_of_nonpos (tR.1 h1) (Int.le_of_lt h2);omega
  ·have:=qV (tR.1 h1) (tR.1 h2);omega)) rfl
 exact aK
def bc3(x y:Int)(hs:(dg x.natAbs).length+(dg y.natAbs).length<1099511627776):aL prog 154 [(iT x:aG),(iT y:aG)] (.ret [iT (x+y)]):=by
 refine bw func154 bb0 ?_;apply vn (bc5 un4);refine vs _ rfl ?_ ?_<;>intro h1
 ·have h1:x<0↔y<0:=by simpa using h1
  apply aA (Rj _ _ hs);apply aA (ew _ _ (x+y) (by by_cases h2:x<0<;>simp only[h2,oC,lr,dH,bR,bf]<;>omega)) rfl;exact aK
 have h1:¬(x<0↔y<0):=by simpa using h1
 apply aA (tL _ _ hs);apply vn ak;dsimp only[aO,aP];rw[show decide (eY (x.natAbs:Int) (y.natAbs:Int)<0)=decide (x.natAbs<y.natAbs) by rw[lE,rY];omega];refine vs _ rfl ?_ ?_<;>intro h7
 ·apply aA (Kx _ _);apply aA (ew _ _ (x+y) (by by_cases h2:y<0<;>simp only[h2,oC,lr,dH,bR,bf]<;>omega)) rfl;exact aK
 apply aA (Kx _ _);apply aA (ew _ _ (x+y) (by by_cases h2:x<0<;>simp only[h2,oC,lr,dH,bR,bf]<;>omega)) rfl;exact aK
def EZ(x:Int)(d:Nat)(hd:0<d):x/(d:Int)=if x<0 then(if x.natAbs%d=0 then -((x.natAbs/d:Nat):Int)else -((x.natAbs/d+1:Nat):Int))else((x.natAbs/d:Nat):Int):=by
 by_cases h:x<0
 ·rw[if_pos h];have hx:x=-(x.natAbs:Int):=O
  generalize x.natAbs=n at hx;subst hx;have h1:=BP n d;split
  ·rename_i h0;have:(n:Int)=(d:Int)*((n/d:Nat):Int):=by rw[<-Int.natCast_mul];omega
   conv=>lhs;rw[this]
   rw[<-Int.mul_neg,Int.mul_ediv_cancel_left _ O]
  ·rename_i h0;have h2:=Nat.mod_lt n hd;rw[Int.ediv_eq_iff_of_pos O];have e1:((n:Nat):Int)=(d:Int)*((n/d:Nat):Int)+((n%d:Nat):Int):=by rw[<-Int.natCast_mul];omega
   generalize n/d=q at *;generalize n%d=r at *
   constructor
   ·rw[e1];simp only[Int.natCast_add,Int.mul_add,Int.neg_add,JY,qo,Int.natCast_one,Cn];rw[Cc (q:Int)];omega
   ·rw[e1];simp only[Int.natCast_add,Int.mul_add,Int.neg_add,JY,qo,Int.natCast_one,Cn];rw[Cc (q:Int)];omega
 ·rw[if_neg h,wY]
  congr 1;omega
def Zu(x:Int)(d:Nat)(hd:0<d)(hs:(dg x.natAbs).length+(dg d).length<274877906944:=by omega):aL prog 294 [(iT x:aG),(mT d:aG)] (.ret [iT (x/(d:Int))]):=by
 refine bw func294 aa2 ?_;have hle:=lq (Nat.div_le_self x.natAbs d);apply aA (ED _ _ hd);refine vs _ rfl ?_ ?_<;>intro h1
 ·apply aA (xt _);apply vn HQ;refine vs _ rfl ?_ ?_<;>intro h4
  ·apply aA (im 1);apply aA (Rj _ _ (by rw[pE (n:=1)];simp;omega)) rfl;apply aA (ew _ _ (x/(d:Int)) (by rw[EZ x d hd,if_pos h1,if_neg h4,iV h1,if_pos rfl]));exact aK
  apply aA (ew _ _ (x/(d:Int)) (by rw[EZ x d hd,if_pos h1,if_pos (by simpa using h4),iV h1,if_pos rfl]));exact aK
 apply aA (ew _ _ (x/(d:Int)) (by rw[EZ x d hd,if_neg h1,mO h1,if_neg (by simp)]));exact aK
def JA(n:Int)(h1:-9223372036854775808<=n:=by omega)(h2:n<9223372036854775808:=by omega):aL prog 158 [(.one (.int .i64 n):aG)] (.ret [iT n]):=by
 refine bw func158 aq7 ?_;apply vn ak;refine vs _ rfl ?_ ?_<;>intro h1
 ·apply vn (jD ⟨_,YD⟩ ia (c:=n+18446744073709551616) (by rw[qY];omega)) rfl;apply vn (aK4 (c:=((n.natAbs:Nat):Int)) (by rw[qY];omega)) rfl;apply aA (im _);apply aA (ew true _ n (by rw[if_pos rfl];omega)) rfl;exact aK
 apply vn (jD ⟨_,YD⟩ ia (c:=((n.natAbs:Nat):Int)) (by rw[qY];omega)) rfl;apply aA (im _);apply aA (ew false _ n (by rw[if_neg (by simp)];omega)) rfl;exact aK
abbrev qC(q:Rat):List aE:=[dT q.num.natAbs,.bool (decide (q.num<0)),dT (q.den-1)]
abbrev qT(q:Rat):aG:=.agg (qC q)
def db:ae aE.Sub [.exact (.slice none 0 0),.bool false,.exact (.slice none 0 0)] (qC 0):=⟨jh rfl,aE.Sub.same,jh rfl,trivial⟩
def Zv{z:Int}{d:Nat}(hd:d≠0:=by omega):(mkRat z d).num=(if decide (z<0)=true then -((z.natAbs/z.natAbs.gcd d:Nat):Int)else((z.natAbs/z.natAbs.gcd d:Nat):Int))/\(mkRat z d).den=d/z.natAbs.gcd d:=by
 rw[<-Rat.normalize_eq_mkRat hd,Rat.normalize_eq hd];refine⟨?_,rfl⟩;show z/_=_;have hg:0<z.natAbs.gcd d:=Bq _ O;have hdv:(((z.natAbs.gcd d:Nat)):Int)∣z:=Int.ofNat_dvd_left.2 (Nat.gcd_dvd_left _ _);have h1:=Int.natAbs_ediv_of_dvd hdv;rw[Int.natAbs_natCast]at h1;by_cases h:z<0
 ·rw[iV h,if_pos rfl,<-h1];have:=Int.ediv_neg_of_neg_of_pos h (b:=((z.natAbs.gcd d:Nat):Int)) O;omega
 ·rw[mO h,if_neg (by simp),<-h1];have:=KQ (tR.1 h) (b:=((z.natAbs.gcd d:Nat):Int)) O;omega
def xM(z:Int)(d:Nat)(hd:0<d)(hs:(dg z.natAbs).length+(dg d).length<137438953472:=by omega):aL prog 115 [(iT z:aG),(mT d:aG)] (.ret [qT (mkRat z d)]):=by
 refine bw func115 ax3 ?_;have hg:0<z.natAbs.gcd d:=Bq _ hd;have hgd:z.natAbs.gcd d<=d:=Nat.gcd_le_right _ hd;have hgl:=lq hgd;obtain⟨hm1,hm2⟩:=Zv (z:=z) (d:=d);have hq:0<d/z.natAbs.gcd d:=Nat.div_pos hgd hg;have hql:=lq (Nat.div_le_self d (z.natAbs.gcd d));have hone:(dg 1).length=1:=by rw[pE];rfl
 generalize hG:z.natAbs.gcd d=g at *
 apply aA (Yc _ _ (by
  rcases am7 z.natAbs d with h | h
  ·rw[Nat.max_eq_right h];omega
  ·rw[Nat.max_eq_left h];omega)) rfl
 rw[hG];apply aA (ba1 _);apply vn HQ;refine vs _ rfl ?_ ?_<;>intro h3
 ·apply aA (ED _ _ hg);apply aA (ED _ _ hg);apply aA (ew _ _ (mkRat z d).num hm1);apply aA (im 1);apply aA (Kx _ _ hq hq);rw[<-hm2];exact aK
 have hg1:g=1:=by simpa using h3
 subst hg1;rw[oc]at hm1 hm2;apply aA (ew _ _ (mkRat z d).num hm1);dsimp only[aO,aP];apply aA (im 1);apply aA (Kx _ _ hd hd);dsimp only[aO,aP];refine aK ?_;show[aG.agg [dT _,.bool _,dT (d-1)]]=[aG.agg [_,_,dT ((mkRat z d).den-1)]];rw[hm2]
def fZ(q:Rat)(h:(dg q.den).length<1099511627775:=by omega):aL prog 117 [(qT q:aG)] (.ret [mT q.den]):=by
 refine bw func117 Wk ?_;have hp:=q.den_pos;have hl:=lq (Nat.sub_le q.den 1);have hone:(dg 1).length=1:=by rw[pE];rfl
 apply aA (im 1);apply aA (Rj _ _);rw[show q.den-1+1=q.den by omega];exact aK
def KU(z:Int):aL prog 157 [(iT z:aG)] (.ret [qT (z:Rat)]):=by
 refine bw func157 aJ4 ?_;exact dJ ⟨⟨aE.Sub.same,aE.Sub.same,jh rfl,trivial⟩,trivial⟩
def mN(n:Int)(h1:-9223372036854775808<=n:=by omega)(h2:n<9223372036854775808:=by omega):aL prog 68 [(.one (.int .i64 n):aG)] (.ret [qT (n:Rat)]):=by
 refine bw func68 bF9 ?_;apply aA (JA _ h1 h2);apply aA (KU _);exact aK
def Nf(n m:Int):aL prog 283 [(.one (.int .i64 n):aG),(.one (.int .i64 m):aG)] (.ret [.one (.int .i64 (max 0 (min n m)))]):=by
 refine bw func283 Yq ?_;apply vn ad3;apply vn ai2;exact aK
def oN(q:Rat):aL prog 35 [(qT q:aG)] (.ret [.one (.int .i64 q.num.sign)]):=by
 refine bw func35 aG4 ?_;apply aA (aE0 _);exact aK
def Fit.dl{B:Nat}{q:Rat}(h:Fit B q):(dg q.num.natAbs).length<=B/\(dg q.den).length<=B:=⟨fi h.1,fi h.2⟩
def Eo(q:Rat):aL prog 65 [(qT q:aG)] (.ret [qT (-q)]):=by
 refine bw func65 bl9 ?_;apply vn HQ
 apply aA (ew _ _ (-q).num (by
  rw[Rat.neg_num];by_cases h:q.num<0<;>simp only[h,not_true_eq_false,not_false_eq_true,oC,lr,dH,bR,bf]<;>omega)) rfl
 dsimp only[aO,aP];refine aK ?_;show[qT _]=_;simp only[qT,qC,Rat.neg_den]
def lg(q:Rat):q.abs.num=(q.num.natAbs:Int)/\q.abs.den=q.den:=by
 unfold Rat.abs;have h:=KT (q:=q);split
 ·rename_i h0;have:=h.2 h0;exact⟨O,rfl⟩
 ·rename_i h0;have:¬0<=q.num:=fun e=>h0 (h.1 e);exact⟨by rw[Rat.neg_num];omega,Rat.neg_den _⟩
def yD(q:Rat):aL prog 146 [(qT q:aG)] (.ret [qT q.abs]):=by
 refine bw func146 bh5 ?_;apply aA (ew false _ (q.abs).num (by rw[if_neg (by simp)];exact(lg q).1)) rfl;dsimp only[aO,aP];refine aK ?_;show[aG.agg [dT q.abs.num.natAbs,.bool (decide (q.abs.num<0)),dT (q.den-1)]]=[qT q.abs];simp only[qT,qC,(lg q).2]
def bg(a b:Rat)(A B:Nat)(ha:Fit A a)(hb:Fit B b)(h:A+B<=34359738368:=by omega):aL prog 36 [(qT a:aG),(qT b:aG)] (.ret [qT (a*b)]):=by
 refine bw func36 bj2 ?_;obtain⟨ha1,ha2⟩:=Fit.dl ha;obtain⟨hb1,hb2⟩:=Fit.dl hb;have hn:=fi (az ha.1 hb.1);have hd:=fi (az ha.2 hb.2);apply aA (Kq _ _);apply aA (fZ a);apply aA (fZ b);apply aA (jZ _ _);apply aA (xM _ _ (Nat.mul_pos a.den_pos b.den_pos) (by rw[Int.natAbs_mul];omega)) rfl;rw[<-Rat.mul_def'];exact aK
def iU(a b:Rat)(A B:Nat)(ha:Fit A a)(hb:Fit B b)(h:A+B<=34359738368:=by omega):aL prog 64 [(qT a:aG),(qT b:aG)] (.ret [qT (a+b)]):=by
 refine bw func64 aZ1 ?_;obtain⟨ha1,ha2⟩:=Fit.dl ha;obtain⟨hb1,hb2⟩:=Fit.dl hb;have hn1:=fi (az ha.1 hb.2);have hn2:=fi (az hb.1 ha.2);have hd:=fi (az ha.2 hb.2)
 have hsum:(dg (a.num*(b.den:Int)+b.num*(a.den:Int)).natAbs).length<=A+B+1:=by
  apply fi;have h1:=az ha.1 hb.2;have h2:=az hb.1 ha.2;rw[Nat.add_comm B A]at h2;rw[Nat.pow_succ];refine Nat.lt_of_le_of_lt (Int.natAbs_add_le _ _) ?_;rw[Int.natAbs_mul,Int.natAbs_mul,Int.natAbs_natCast,Int.natAbs_natCast];omega
 apply aA (fZ a);apply aA (fZ b);apply aA (Kq a.num (b.den:Int) (by rw[Int.natAbs_natCast];omega)) rfl;apply aA (Kq b.num (a.den:Int) (by rw[Int.natAbs_natCast];omega)) rfl;apply aA (bc3 _ _ (by rw[Int.natAbs_mul,Int.natAbs_mul,Int.natAbs_natCast,Int.natAbs_natCast];omega)) rfl;apply aA (jZ _ _);apply aA (xM _ _ (Nat.mul_pos a.den_pos b.den_pos));rw[<-Rat.add_def'];exact aK
def KE(a b:Rat)(A B:Nat)(ha:Fit A a)(hb:Fit B b)(h:A+B<=34359738368:=by omega):aL prog 167 [(qT a:aG),(qT b:aG)] (.ret [qT (a-b)]):=by
 refine bw func167 br8 ?_;apply aA (Eo b);apply aA (iU a (-b) A B ha hb.neg h);rw[<-Rat.sub_eq_add_neg];exact aK
def ZF{a b:Rat}(hb:b≠0):mkRat (a.num*(if decide (b.num<0)=true then -(b.den:Int)else b.den)) (a.den*b.num.natAbs)=a/b:=by
 have hn:b.num≠0:=fun e=>hb (Rat.num_eq_zero.1 e)
 have e:b⁻¹=mkRat (if decide (b.num<0)=true then -(b.den:Int)else b.den) b.num.natAbs:=by
  rw[Rat.inv_def];by_cases h:b.num<0
  ·rw[iV h,if_pos rfl]
   conv=>lhs;rw[show b.num=-((b.num.natAbs:Nat):Int) by omega]
   rw[Rat.divInt_neg',Rat.divInt_ofNat]
  ·rw[mO h,if_neg (by simp)]
   conv=>lhs;rw[show b.num=((b.num.natAbs:Nat):Int) by omega]
   rw[Rat.divInt_ofNat]
 rw[Rat.div_def,e]
 conv=>rhs;rw[<-Rat.mkRat_self a]
 rw[Su]
def aq8(a b:Rat)(A B:Nat)(hb0:b≠0)(ha:Fit A a)(hb:Fit B b)(h:A+B<=34359738368):aL prog 255 [(qT a:aG),(qT b:aG)] (.ret [qT (a/b)]):=by
 refine bw func255 aB4 ?_;obtain⟨ha1,ha2⟩:=Fit.dl ha;obtain⟨hb1,hb2⟩:=Fit.dl hb;have hn:b.num≠0:=fun e=>hb0 (Rat.num_eq_zero.1 e);have hn1:=fi (az ha.1 hb.2);have hd:=fi (az ha.2 hb.1);obtain⟨z,hz⟩:∃z:Int,(if decide (b.num<0)=true then -(b.den:Int)else b.den)=z:=⟨_,rfl⟩
 have hza:z.natAbs=b.den:=by rw[<-hz];split<;>simp
 apply aA (fZ b);apply aA (ew _ _ z hz.symm);apply aA (Kq a.num z (by rw[hza];omega)) rfl;apply aA (fZ a);apply aA (jZ _ _);apply aA (xM _ _ (Nat.mul_pos a.den_pos O) (by rw[Int.natAbs_mul,hza];omega)) rfl;rw[<-hz,ZF hb0];exact aK
def sign_zero{q:Rat}:q.num.sign=0↔q=0:=by rw[Ck,Rat.num_eq_zero]
def af8(a b:Rat)(A B:Nat)(ha:Fit A a)(hb:Fit B b)(h:A+B<=34359738368:=by omega):aL prog 200 [(qT a:aG),(qT b:aG)] (.ret [qT (if b=0 then 0 else a/b),.one (.int .i64 (if b=0 then 9 else 0))]):=by
 refine bw func200 bk5 ?_;apply aA (oN b);apply vn bK;refine vs _ rfl ?_ ?_<;>intro h2
 ·have h2:b=0:=sign_zero.1 h2;rw[if_pos h2,if_pos h2];exact dJ ⟨db,aG.Sub.same,trivial⟩
 have h2:¬b=0:=fun e=>h2 (sign_zero.2 e);rw[if_neg h2,if_neg h2];apply aA (aq8 a b A B h2 ha hb h);exact aK
def eW{n:Int}(h1:-9223372036854775808<=n:=by omega)(h2:n<9223372036854775808:=by omega):Fit 64 (n:Rat):=Fit.int O O
def aA5(n d:Int)(h1:-9223372036854775808<=n:=by omega)(h2:n<9223372036854775808:=by omega)(h3:-9223372036854775808<=d:=by omega)(h4:d<9223372036854775808:=by omega):aL prog 120 [(.one (.int .i64 n):aG),(.one (.int .i64 d):aG)] (.ret [qT (if d=0 then 0 else(n:Rat)/(d:Rat)),.one (.int .i64 (if d=0 then 9 else 0))]):=by
 refine bw func120 bU3 ?_
 have e:((d:Rat)=0)↔d=0:=by
  rw[<-Rat.num_eq_zero,Rat.num_intCast]
 have hd:=af8 (n:Rat) (d:Rat) 64 64 (eW h1 h2) (eW h3 h4);simp only[e]at hd;apply aA (mN n h1 h2);apply aA (mN d h3 h4);apply aA hd;exact aK
def ku(a b:Rat):Int:=if a<b then -1 else if b<a then 1 else 0
def yV(a b:Rat):ku a b=eY (a.num*b.den) (b.num*a.den):=by
 unfold ku eY;simp only[Rat.lt_iff]
def bu(z:Int):(z<0/\z.sign=-1)\/(z=0/\z.sign=0)\/(0<z/\z.sign=1):=by
 rcases Int.lt_trichotomy z 0 with h | h | h
 ·exact .inl ⟨h,vB h⟩
 ·exact .inr (.inl ⟨h,by rw[h];rfl⟩)
 ·exact .inr (.inr ⟨h,eM h⟩)
def Uc{a b:Rat}(h:a.num.sign≠b.num.sign\/a.num.sign=0):ku a b=a.num.sign-b.num.sign-(a.num.sign-b.num.sign).tdiv 2:=by
 rw[yV];have ha:=a.den_pos;have hb:=b.den_pos
 have key:∀(x:Int)(d:Nat),0<d->(x<0->x*(d:Int)<0)/\(x=0->x*(d:Int)=0)/\(0<x->0<x*(d:Int)):=fun x d hd=>
  ⟨fun h=>Int.mul_neg_of_neg_of_pos h O,fun h=>by rw[h,Int.zero_mul],fun h=>Int.mul_pos h O⟩
 obtain⟨k1,k2,k3⟩:=key a.num b.den hb;obtain⟨l1,l2,l3⟩:=key b.num a.den ha
 rcases bu a.num with⟨h1,e1⟩ | ⟨h1,e1⟩ | ⟨h1,e1⟩<;>rcases bu b.num with⟨h2,e2⟩ | ⟨h2,e2⟩ | ⟨h2,e2⟩<;>rw[e1,e2]at h|- <;> simp only[eY]<;>(try (exfalso;revert h;decide)) <;>
  (first
   | have i1:=k1 h1
   | have i1:=k2 h1
   | have i1:=k3 h1) <;>
  (first
   | have i2:=l1 h2
   | have i2:=l2 h2
   | have i2:=l3 h2) <;>
  (first
   | (rw[if_pos O];rfl)
   | (rw[if_neg O,if_pos O];rfl)
   | (rw[if_neg O,if_neg O];rfl))
def aG6{a b:Rat}(h0:a.num.sign≠0)(h:a.num.sign=b.num.sign:=by omega):ku a b=a.num.sign*eY ((a.num.natAbs*b.den:Nat):Int) ((b.num.natAbs*a.den:Nat):Int):=by
 rw[yV];rcases bu a.num with⟨h1,e1⟩ | ⟨h1,e1⟩ | ⟨h1,e1⟩
 ·have h2:b.num<0:=by
   rcases bu b.num with⟨h2,e2⟩ | ⟨h2,e2⟩ | ⟨h2,e2⟩
   ·exact h2
   ·omega
   ·omega
  have ea:a.num*(b.den:Int)=-((a.num.natAbs*b.den:Nat):Int):=by
   rw[Int.natCast_mul,<-qo];congr 1;omega
  have eb:b.num*(a.den:Int)=-((b.num.natAbs*a.den:Nat):Int):=by
   rw[Int.natCast_mul,<-qo];congr 1;omega
  rw[e1,ea,eb];generalize ((a.num.natAbs*b.den:Nat):Int)=p;generalize ((b.num.natAbs*a.den:Nat):Int)=q;unfold eY;split<;>(try split)<;>(try split)<;>(try split)<;>omega
 ·omega
 ·have h2:0<b.num:=by
   rcases bu b.num with⟨h2,e2⟩ | ⟨h2,e2⟩ | ⟨h2,e2⟩
   ·omega
   ·omega
   ·exact h2
  have ea:a.num*(b.den:Int)=((a.num.natAbs*b.den:Nat):Int):=by
   rw[Int.natCast_mul];congr 1;omega
  have eb:b.num*(a.den:Int)=((b.num.natAbs*a.den:Nat):Int):=by
   rw[Int.natCast_mul];congr 1;omega
  rw[e1,ea,eb,Cn]
def pN(a b:Rat)(A B:Nat)(ha:Fit A a)(hb:Fit B b)(h:A+B<=34359738368:=by omega):aL prog 38 [(qT a:aG),(qT b:aG)] (.ret [.one (.int .i64 (ku a b))]):=by
 refine bw func38 bm0 ?_;obtain⟨ha1,ha2⟩:=Fit.dl ha;obtain⟨hb1,hb2⟩:=Fit.dl hb;have hn1:=fi (az ha.1 hb.2);have hn2:=fi (az hb.1 ha.2);have hsa:-1<=a.num.sign/\a.num.sign<=1:=by rcases bu a.num with⟨_,e⟩ | ⟨_,e⟩ | ⟨_,e⟩<;>omega
 have hsb:-1<=b.num.sign/\b.num.sign<=1:=by rcases bu b.num with⟨_,e⟩ | ⟨_,e⟩ | ⟨_,e⟩<;>omega
 have htd:-1<=(a.num.sign-b.num.sign).tdiv 2/\(a.num.sign-b.num.sign).tdiv 2<=1:=by
  rcases bu a.num with⟨_,e⟩ | ⟨_,e⟩ | ⟨_,e⟩<;>rcases bu b.num with⟨_,e2⟩ | ⟨_,e2⟩ | ⟨_,e2⟩<;>rw[e,e2]<;>decide
 apply aA (oN a);apply aA (oN b);apply vn gN;refine vs _ rfl ?_ ?_<;>intro h3
 ·apply vn aJ;apply vn aJ;apply vn (py (c:=(a.num.sign-b.num.sign).tdiv 2) (by decide) (dj));apply vn aJ;dsimp only[aO,aP];rw[Uc (.inl h3)];exact aK
 apply vn bK;refine vs _ rfl ?_ ?_<;>intro h10
 ·apply vn aJ;apply vn aJ;apply vn (py (c:=(a.num.sign-b.num.sign).tdiv 2) (by decide) (dj));apply vn aJ;dsimp only[aO,aP];rw[Uc (.inr h10)];exact aK
 apply aA (oN a);apply aA (fZ b);apply aA (jZ _ _);apply aA (fZ a);apply aA (jZ _ _);apply aA (tL _ _);dsimp only[aO,aP]
 have hci:-1<=eY ((a.num.natAbs*b.den:Nat):Int) ((b.num.natAbs*a.den:Nat):Int)/\eY ((a.num.natAbs*b.den:Nat):Int) ((b.num.natAbs*a.den:Nat):Int)<=1:=by
  unfold eY;split<;>(try split)<;>omega
 rw[aG6 h10];generalize eY ((a.num.natAbs*b.den:Nat):Int) ((b.num.natAbs*a.den:Nat):Int)=c at hci|-;generalize a.num.sign=s at hsa h10|-
 apply vn (qu (c:=s*c) (by
  rcases(by omega:s=-1\/s=1)with rfl | rfl
  ·exact dj
  ·exact dj)) rfl
 exact aK
end Go.Sy
