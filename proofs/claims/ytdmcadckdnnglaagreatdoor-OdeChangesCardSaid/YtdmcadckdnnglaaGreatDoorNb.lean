/- Part. -/
import Derived.Test.YtdmcadckdnnglaaGreatDoorNa
import Derived.RangeFuncBox
import Derived.Shelf.Abstract
import Derived.WalkKit
import Derived.OwnWalkIn
import Derived.TacticsInMore
import Derived.LoopNIn
import Derived.LoopIn
set_option linter.all false
set_option maxHeartbeats 2000000
set_option maxRecDepth 100000
namespace Go.Sy
def xU:=@Go.belowK_b
def Gf:=@Go.wpS_region
def AN:=@Go.Proofs.enters_of
open Go Go.Proofs Tryz Ord
theorem D6{p:Prop}(h:p:=by first|omega|(rw[List.length_set];omega)):p:=h
def bT9:Tr:=eV 20 8 33 51 52 (oq 20 8 255 53 (ez 21 0 15 0 255 54 55 (eV 20 8 33 51 52 (gT 20 8 22 255 57 56 (bX 8 1 3 19 (vE 1 24 23))))))
def bI0:Tr:=eV 9 8 33 51 52 (oq 9 8 255 53 (ez 18 0 15 0 255 54 55 (eV 9 8 33 51 52 (gT 9 8 19 255 57 56 (bX 8 1 3 19 (vE 0 21 20))))))
def bU6:Tr:=dW 16 15 0 255 40 41 4 (aJ 17 0 (eV 9 8 33 45 46 (oq 9 8 255 47 (Yo 18 1000000000 48 (eV 9 8 33 43 44 (gT 9 8 19 255 50 49 bT9))))) bI0)
def bU5:Tr:=eV 18 8 33 51 52 (oq 18 8 255 53 (ez 19 0 7 0 255 54 55 (eV 18 8 33 51 52 (gT 18 8 20 255 57 56 (bX 8 1 3 19 (vE 1 22 21))))))
def bL3:Tr:=eV 9 8 33 51 52 (oq 9 8 255 53 (ez 16 0 7 0 255 54 55 (eV 9 8 33 51 52 (gT 9 8 17 255 57 56 (bX 8 1 3 19 (vE 0 19 18))))))
def bY3:Tr:=dW 14 7 0 255 40 41 4 (aJ 15 0 (eV 9 8 33 45 46 (oq 9 8 255 47 (Yo 16 1000000000 48 (eV 9 8 33 43 44 (gT 9 8 17 255 50 49 bU5))))) bL3)
def co1:Tr:=dW 8 11 0 3 23 26 4 (aJ 12 0 (jL 1 0 8 0 33 30 31 (cq 13 255 32 (dh 7 0 14 0 255 28 33 (eV 9 8 33 37 38 (oq 9 8 255 39 bU6))))) (Xo 7 0 35 (aJ 13 0 (Dh 197 1 9 1 59 33 35 (sV 14)) (eV 9 8 33 37 38 (oq 9 8 255 39 bY3)))))
def cu6:Tr:=aD7 3 0 13 15 (yS 5 17 33 (Qz 5 (dW 8 6 0 3 19 18 0 (aJ 10 0 (bD 1 0 25 33 co1) (Dh 197 1 9 1 59 33 35 (sV 11))))))
def cB3:Tr:=bD 0 0 10 33 (JB 2 11 cu6)
def bH7:aO prog f194 cT [.v (some 1),.v (some 1)]=cB3:=aT
def bI2:Tr:=aJ 23 0 (bX 21 1000000000 2 44 (ig 24 2 255 48 (eV 7 6 33 46 47 (gT 7 6 25 255 50 49 (bX 6 1 3 13 (Qs 22 1 27 26)))))) (ig 21 2 255 48 (eV 7 6 33 46 47 (gT 7 6 24 255 50 49 (bX 6 1 3 13 (Qs 22 0 26 25)))))
def bC5:Tr:=ig 16 255 2 32 (Sd 15 34 (ig 18 254 2 35 (ez 17 0 19 0 2 33 36 (ez 20 0 5 0 2 37 38 (Qh 15 40 (kp 21 0 0 2 42 bI2))))))
def ct0:Tr:=jL 1 0 6 0 33 22 23 (cq 11 255 24 (ig 12 255 254 25 (yH .mul 254 21 26 2 0 13 0 254 (dh 4 0 14 0 254 20 27 (eV 7 6 33 29 30 (oq 7 6 255 31 bC5))))))
def bL1:Tr:=aJ 18 0 (bX 16 1000000000 2 44 (ig 19 2 255 48 (eV 7 6 33 46 47 (gT 7 6 20 255 50 49 (bX 6 1 3 13 (Qs 17 1 22 21)))))) (ig 16 2 255 48 (eV 7 6 33 46 47 (gT 7 6 19 255 50 49 (bX 6 1 3 13 (Qs 17 0 21 20)))))
def bJ4:Tr:=ig 11 255 2 32 (Sd 4 34 (ig 13 254 2 35 (ez 12 0 14 0 2 33 36 (ez 15 0 5 0 2 37 38 (Qh 4 40 (kp 16 0 0 2 42 bL1))))))
def ct7:Tr:=dW 6 3 0 3 13 12 0 (aJ 8 0 (bD 1 0 17 33 (dW 6 9 0 3 16 18 4 (aJ 10 0 ct0 (eV 7 6 33 29 30 (oq 7 6 255 31 bJ4))))) (oK 5 2 52 (.retr [W 9 0] 7)))
def cx6:Tr:=yS 0 11 33 (.loop 0 [.w (.one (.c (.k (.int .u64 0)))),lK 0,lK 0,.row 0] ct7)
def YI:SP prog f251 (fun _=>none) [.lent 255 1,.v none,.v none]=cx6:=aT
def bU4:Tr:=PT 13 29 (aJ 14 0 (Za 13 31 (eV 5 4 33 33 34 (gT 5 4 15 255 36 35 (bX 4 1 3 10 (vE 1 17 16))))) (eV 5 4 33 33 34 (gT 5 4 13 255 36 35 (bX 4 1 3 10 (vE 0 16 15)))))
def bD7:Tr:=PT 8 29 (aJ 11 0 (Za 8 31 (eV 5 4 33 33 34 (gT 5 4 12 255 36 35 (bX 4 1 3 10 (vE 1 14 13))))) (eV 5 4 33 33 34 (gT 5 4 8 255 36 35 (bX 4 1 3 10 (vE 0 13 12)))))
def cm7:Tr:=dh 7 0 3 0 255 16 17 (bD 1 0 20 33 (dW 4 9 0 3 19 21 4 (aJ 10 0 (jL 1 0 4 0 33 24 25 (cq 11 255 26 (dh 8 0 12 0 255 23 27 bU4))) bD7)))
def cr6:Tr:=yS 0 8 33 (Qz 0 (dW 4 2 0 3 10 9 0 (aJ 6 0 (eV 5 4 33 13 14 (oq 5 4 255 15 cm7)) (.need (.prim [W 3 0,.one (.c (.k (.int .u32 0)))] none) (.binOp .neq 255 (tT 38) (.const (.int .u32 0)) 255) 4 false (.retr [W 7 0] 5)))))
def YE:SP prog f252 (fun _=>none) [.lent 255 1,.v none]=cr6:=aT
structure SF(xs ys:j3)(i b:Nat)(os:j3):Prop where
 h:lk 1000000000 xs ys 1 i 0 b os
def SF.init{xs:j3}(hx:Dg xs)(ys:j3):SF xs ys 0 0 xs:=⟨lk.init hx ys 1⟩
def SF.next{xs ys os:j3}{i b x y z b':Nat}(h:SF xs ys i b os)(hx:xs[i]?=some x)(hy:ys[i]?.getD 0=y)(hyB:y<1000000000)(hz:z<1000000000)(hb:b'<=1)(he:z+y+b=x+1000000000*b') :
  SF xs ys (i+1) b' (os.set i z):=by
 have:=h.h.next O O hx hy hyB hz hb (by rw[bw,cZ,gk hyB];exact he);rw[bw,cZ,gj hyB]at this;exact⟨this⟩
def SF.fin{xs ys os:j3}{i b:Nat}(h:SF xs ys i b os)(hle:lv ys<=lv xs)(he:b=0/\ys.length<=i\/i=xs.length/\ys.length<=xs.length):lv os+lv ys=lv xs:=by
 have h1:=h.h.eq;rw[cZ,bw]at h1;rcases he with⟨rfl,hl⟩ | ⟨rfl,hl⟩
 .rw[fu,cu,cU hl]at h1
  have e:∀l:List Nat,i<=l.length->lv l=lv (l.take i)+1000000000^i*lv (l.drop i):=fun l hl=>by
   conv=>lhs;rw[<-pQ i l]
   rw[xT,bP,ek hl]
  rw[e os (by rw[h.h.len];exact h.h.le),e xs h.h.le,h.h.rest];simp only[lv]at h1|-;omega
 .rw[cU (by rw[h.h.len];omega),eW,cU hl]at h1;have h2:=DB.lt O h.h.dg;rw[h.h.len]at h2;have hb:=h.h.b1;rcases(by omega:b=0\/b=1)with rfl | rfl
  .show val _ os+val _ ys=val _ xs;omega
  .have hle:val 1000000000 ys<=val 1000000000 xs:=hle;omega
def pK{a b:Nat}(h:a<=b):(dg a).length<=(dg b).length:=mo (cV h (oN O b))
def Rh(a b:Nat)(hab:b<=a:=by omega)(ha:0<a:=by omega)(hs:(dg a).length<1099511627776:=by omega):aK prog 194 [(mT a:aF),(mT b:aF)] (.ret [mT (a-b)]):=by
 refine dB func194 bH7 ?_;have hlen:=pK hab;have hane:dg a≠[]:=fun e=>by have:=QU.1 e;omega
 apply vn (aZ ec (aX _));dsimp only[aP,aQ];refine GD (f:=fun d:Nat=>[aE.int .u32 (d:Int)]) 0 rfl rfl rfl rfl O (by simp only[maxLen];omega) ?_;refine aw8 (xs:=dg a) (ws:=dg a) (fun _=>rfl) rfl rfl ec bY (by simpa using hane) bY ?_;refine WT rfl (aX _) ?_;refine bC {g:Nat×Nat×List Nat // SF (dg a) (dg b) g.1 g.2.1 g.2.2} (fun g=>[.one (.int .u32 g.1.2.1),.one (.int .i64 g.1.1),.rows (rT g.1.2.2)]) (fun g=>(dg a).length-g.1.1) ⟨(0,0,dg a),SF.init (oH a) _⟩ aR.rfl (fun _=>rfl) ?_;rintro⟨⟨i,c,os⟩,hI⟩;dsimp only[aP,aQ]at hI|-;have hol:=hI.h.len;have hil:=hI.h.le;have hc:=hI.h.b1;have hle:lv (dg b)<=lv (dg a):=by rw[km,km];exact hab
 have fin:(c=0/\(dg b).length<=i\/i=(dg a).length/\(dg b).length<=(dg a).length)->lv os=a-b:=fun h=>by
  have:=hI.fin hle h;rw[km,km]at this;omega
 refine uS az ?_ ?_<;>intro h6
 .have hx:(dg a)[i]?=some ((dg a)[i]' O):=bU O;generalize (dg a)[i]' O=x at hx;have hxB:=(oH a).get hx;have ho:=hI.h.get hx;apply vn (aZ ec (aX _));refine uS az ?_ ?_<;>intro h9
  .have hy:(dg b)[i]?=some ((dg b)[i]' O):=bU O;generalize (dg b)[i]' O=y at hy;have hyB:=(oH b).get hy;apply vn (aY ec hy);apply vn (bI Bl);apply vn pW;refine dz rfl rfl O D6 ?_;refine tZ rfl rfl O O ho rfl ?_;apply vn az;dsimp only[aP,aQ];refine p8 ?_ ?_<;>intro h16
   .refine dz rfl rfl O D6 ?_;refine tZ rfl rfl O O ho rfl ?_;apply vn pW;refine dz rfl rfl O D6 ?_;refine qA (d':=x+1000000000) rfl rfl O O ho rfl ?_;refine dz rfl rfl O D6 ?_;refine ar6 (d:=x+1000000000) rfl rfl O O (uf O) (.inr rfl) rfl ?_;apply vn pf;refine dz rfl rfl O D6 ?_;refine qA (d:=x+1000000000) (d':=x+1000000000-(y+c)) rfl rfl O O (uf O) ?_ ?_
    .show[aE.int .u32 _]=[aE.int .u32 _]
     congr 2;omega
    rw[List.set_set];apply vn aC;dsimp only[aP,aQ];exact aa rfl ⟨⟨(i+1,1,os.set i (x+1000000000-(y+c))),hI.next (b':=1) (z:=x+1000000000-(y+c)) hx (by rw[hy];rfl) hyB O O O⟩,aR.rfl,by show(dg a).length-(i+1)<(dg a).length-i;omega⟩
   refine dz rfl rfl O D6 ?_;refine tZ rfl rfl O O ho rfl ?_;apply vn pf;refine dz rfl rfl O D6 ?_;refine qA (d':=x-(y+c)) rfl rfl O O ho ?_ ?_
   .show[aE.int .u32 _]=[aE.int .u32 _]
    congr 2;omega
   apply vn aC;dsimp only[aP,aQ];exact aa rfl ⟨⟨(i+1,0,os.set i (x-(y+c))),hI.next (b':=0) (z:=x-(y+c)) hx (by rw[hy];rfl) hyB O O O⟩,aR.rfl,by show(dg a).length-(i+1)<(dg a).length-i;omega⟩
  refine uS bA ?_ ?_<;>intro h37
  .apply aA (lz os hI.h.dg);dsimp only[aP,aQ];refine aN ?_;rw[fin (.inl O)];rfl
  have hnone:(dg b)[i]?=none:=gm.2 O;refine dz rfl rfl O D6 ?_;refine tZ rfl rfl O O ho rfl ?_;refine uS az ?_ ?_<;>intro h43
  .refine dz rfl rfl O D6 ?_;refine tZ rfl rfl O O ho rfl ?_;apply vn pW;refine dz rfl rfl O D6 ?_;refine qA (d':=x+1000000000) rfl rfl O O ho rfl ?_;refine dz rfl rfl O D6 ?_;refine ar6 (d:=x+1000000000) rfl rfl O O (uf O) (.inr rfl) rfl ?_;apply vn pf;refine dz rfl rfl O D6 ?_;refine qA (d:=x+1000000000) (d':=x+1000000000-c) rfl rfl O O (uf O) ?_ ?_
   .show[aE.int .u32 _]=[aE.int .u32 _]
    congr 2;omega
   rw[List.set_set];dsimp only[aP,aQ];apply vn aC;dsimp only[aP,aQ];exact aa rfl ⟨⟨(i+1,1,os.set i (x+1000000000-c)),hI.next (b':=1) (z:=x+1000000000-c) (y:=0) hx (by rw[hnone];rfl) O O O O⟩,aR.rfl,by show(dg a).length-(i+1)<(dg a).length-i;omega⟩
  refine dz rfl rfl O D6 ?_;refine tZ rfl rfl O O ho rfl ?_;apply vn pf;refine dz rfl rfl O D6 ?_;refine qA (d':=x-c) rfl rfl O O ho ?_ ?_
  .show[aE.int .u32 _]=[aE.int .u32 _]
   congr 2;omega
  apply vn aC;dsimp only[aP,aQ];exact aa rfl ⟨⟨(i+1,0,os.set i (x-c)),hI.next (b':=0) (z:=x-c) (y:=0) hx (by rw[hnone];rfl) O O O O⟩,aR.rfl,by show(dg a).length-(i+1)<(dg a).length-i;omega⟩
 apply aA (lz os hI.h.dg);dsimp only[aP,aQ];refine aN ?_;rw[fin (.inr ⟨O,hlen⟩)];rfl
def Zo{b:Nat}{p:Prop}[Decidable p](h:b=if p then 1 else 0):decide ((b:Int)≠0)=decide p:=by
 subst h;by_cases hp:p<;>simp[hp]
def Xh(xs ys:j3)(t:Nat)(hx:Dg xs)(hy:Dg ys)(ht:t<1000000000)(hl:ys.length<xs.length)(hs:xs.length<1099511627776):xE prog 251 255 1 [] [(.one (.slice 1 (rT ys)):aF),(.one (.int .u64 t):aF)] (rT xs) [.one (.bool (decide (lv xs<t*lv ys)))] (rT (pd 1000000000 xs.length (lv xs+1000000000^xs.length*(if lv xs<t*lv ys then 1 else 0)-t*lv ys))):=by
 refine GQ (a1:=[]) (a2:=[.v none,.v none]) (i1:=[]) (i2:=[.v (.one (.slice 1 (rT ys))),.v (.one (.int .u64 t))]) (hints:=(fun _=>none)) fo aT func251 trivial ⟨rfl,rfl,trivial⟩ aT ?_ ?_ ?_ ?_
 .simp[rT]
 .simp[rT]
 .simp[rT]
 dsimp only[aP,aQ];rw[YI];dsimp only[List.map,In.env,aP,aQ];refine WT rfl (aX _) ?_;refine bC {g:Nat×Nat×Nat×List Nat // lk 1000000000 xs ys t g.1 g.2.1 g.2.2.1 g.2.2.2} (fun g=>[.one (.int .u64 g.1.2.1),.one (.int .i64 g.1.2.2.1),.one (.int .i64 g.1.1),.rows (rT g.1.2.2.2)]) (fun g=>xs.length-g.1.1) ⟨(0,0,0,xs),lk.init hx _ _⟩ aR.rfl (fun _=>rfl) ?_;rintro⟨⟨i,c,b,os⟩,hI⟩;dsimp only[aP,aQ]at hI|-;have hol:=hI.len;have hil:=hI.le;have hc:=hI.c1;have hb:=hI.b1;refine uS az ?_ ?_<;>intro h3
 .have hgx:xs[i]?=some (xs[i]' O):=bU O;generalize xs[i]' O=x at hgx;have hxB:=hx.get hgx;have ho:=hI.get hgx;apply vn (aZ ec (aX _));refine uS az ?_ ?_<;>intro h6
  .have hgy:ys[i]?=some (ys[i]' O):=bU O;generalize ys[i]' O=y at hgy;have hyB:=hy.get hgy;have hty:t*y<=999999999*999999999:=dE O O;obtain⟨w,hw⟩:∃w,c+t*y=w:=⟨_,rfl⟩
   have hwB:w<1000000000*1000000000:=O
   have hm:∀z b':Nat,z<1000000000->b'<=1->z+w%1000000000+b=x+1000000000*b'->lk 1000000000 xs ys t (i+1) (w/1000000000) b' (os.set i z):=fun z b' h1 h2 h3=>by
    have:=hI.next O ht hgx (by rw[hgy];rfl) hyB h1 h2 (by rw[hw];exact h3);rw[hw]at this;exact this
   apply vn (aY ec hgy);apply vn (bI Bl);apply vn (vj ⟨_,kI⟩ lB);apply vn (uv (c:=((t*y:Nat):Int)) (by rw[<-iK,vk]<;>omega)) rfl;apply vn (fP (c:=(w:Int)) D8) rfl;dsimp only[aP,aQ];refine dz rfl rfl O D6 ?_;refine tZ rfl rfl O O ho rfl ?_;apply vn (zw ⟨_,kI⟩ un2);apply vn gR;apply vn (zw ⟨_,lB⟩ un2);apply vn aL;apply vn aL;apply vn ON;apply vn az;dsimp only[aP,aQ];refine p8 ?_ ?_<;>intro h21
   .apply vn aC;apply vn (tD ⟨_,un2⟩ kI);refine dz rfl rfl O D6 ?_;refine qA (d':=x+1000000000-w%1000000000-b) rfl rfl O O ho ?_ ?_
    .show[aE.int .u32 _]=[aE.int .u32 _]
     congr 2;omega
    apply vn aC;dsimp only[aP,aQ];exact aa rfl ⟨⟨(i+1,w/1000000000,1,os.set i (x+1000000000-w%1000000000-b)),hm _ 1 O O O⟩,aR.rfl,by show xs.length-(i+1)<xs.length-i;omega⟩
   apply vn (tD ⟨_,un2⟩ kI);refine dz rfl rfl O D6 ?_;refine qA (d':=x-w%1000000000-b) rfl rfl O O ho ?_ ?_
   .show[aE.int .u32 _]=[aE.int .u32 _]
    congr 2;omega
   apply vn aC;dsimp only[aP,aQ];exact aa rfl ⟨⟨(i+1,w/1000000000,0,os.set i (x-w%1000000000-b)),hm _ 0 O O O⟩,aR.rfl,by show xs.length-(i+1)<xs.length-i;omega⟩
  have hnone:ys[i]?=none:=gm.2 O
  have hm:∀z b':Nat,z<1000000000->b'<=1->z+c%1000000000+b=x+1000000000*b'->lk 1000000000 xs ys t (i+1) (c/1000000000) b' (os.set i z):=fun z b' h1 h2 h3=>by
   have:=hI.next (y:=0) O ht hgx (by rw[hnone];rfl) O h1 h2 (by rw[fu,cu];exact h3);rw[fu,cu]at this;exact this
  refine dz rfl rfl O D6 ?_;refine tZ rfl rfl O O ho rfl ?_;apply vn (zw ⟨_,kI⟩ un2);apply vn gR;apply vn (zw ⟨_,lB⟩ un2);apply vn aL;apply vn aL;apply vn ON;apply vn az;dsimp only[aP,aQ];refine p8 ?_ ?_<;>intro h42
  .apply vn aC;apply vn (tD ⟨_,un2⟩ kI);refine dz rfl rfl O D6 ?_;refine qA (d':=x+1000000000-c%1000000000-b) rfl rfl O O ho ?_ ?_
   .show[aE.int .u32 _]=[aE.int .u32 _]
    congr 2;omega
   apply vn aC;dsimp only[aP,aQ];exact aa rfl ⟨⟨(i+1,c/1000000000,1,os.set i (x+1000000000-c%1000000000-b)),hm _ 1 O O O⟩,aR.rfl,by show xs.length-(i+1)<xs.length-i;omega⟩
  apply vn (tD ⟨_,un2⟩ kI);refine dz rfl rfl O D6 ?_;refine qA (d':=x-c%1000000000-b) rfl rfl O O ho ?_ ?_
  .show[aE.int .u32 _]=[aE.int .u32 _]
   congr 2;omega
  apply vn aC;dsimp only[aP,aQ];exact aa rfl ⟨⟨(i+1,c/1000000000,0,os.set i (x-c%1000000000-b)),hm _ 0 O O O⟩,aR.rfl,by show xs.length-(i+1)<xs.length-i;omega⟩
 apply vn jA;dsimp only[aP,aQ];have hie:i=xs.length:=O
 subst hie;obtain⟨hb1,ho1⟩:=hI.fin O hx hl;rw[hb1]at ho1;exact yC (by rw[<-show rT os=rT _ from congrArg rT ho1];rfl) (congrArg (fun q=>[aF.one (.bool q)]) (Zo hb1))
structure LC(xs ys:j3)(i c:Nat)(os:j3):Prop where
 le:i<=xs.length
 c1:c<=1
 len:os.length=xs.length
 dg:DB 1000000000 os
 rest:os.drop i=xs.drop i
 eq:lv (os.take i)+1000000000^i*c=lv (xs.take i)+lv (ys.take i)
def LC.init{xs:j3}(hx:Dg xs)(ys:j3):LC xs ys 0 0 xs:=⟨cG _,O,rfl,hx,rfl,by simp[lv,val]⟩
def LC.get{xs ys os:j3}{i c x:Nat}(h:LC xs ys i c os)(hx:xs[i]?=some x):os[i]?=some x:=by
 have:=congrArg (fun l=>l[0]?) h.rest;simp only[kH,cu]at this;rw[this,hx]
def LC.next{xs ys os:j3}{i c x y c' z:Nat}(h:LC xs ys i c os)(hx:xs[i]?=some x)(hy:ys[i]?.getD 0=y)(hz:z<1000000000)(hc:c'<=1)(he:z+1000000000*c'=x+c+y):LC xs ys (i+1) c' (os.set i z):=by
 have hi:i<xs.length:=(fK.1 hx).1;refine⟨hi,hc,by rw[cI];exact h.len,h.dg.set hz,?_,?_⟩
 .rw[Ga O];have:=congrArg (List.drop 1) h.rest
  simpa[iX]using this
 .have h1:=h.eq;have h2:=congrArg (fun q=>1000000000^i*q) he;have e1:lv ((os.set i z).take (i+1))=lv (os.take i)+1000000000^i*z:=oy (by rw[h.len];exact hi);have e2:lv (xs.take (i+1))=lv (xs.take i)+1000000000^i*x:=jY hx;have e3:lv (ys.take (i+1))=lv (ys.take i)+1000000000^i*y:=mK hy;rw[e1,e2,e3,bF,dC];simp only[fO]at h2;omega
def LC.fin{xs ys os:j3}{c:Nat}(h:LC xs ys xs.length c os)(hl:ys.length<xs.length) :
  c=(if 1000000000^xs.length<=lv xs+lv ys then 1 else 0)/\os=pd 1000000000 xs.length (lv xs+lv ys-1000000000^xs.length*c):=by
 have h1:=h.eq;rw[cU (by rw[h.len];omega),eW,cU O]at h1;have h2:lv os<_:=DB.lt O h.dg;rw[h.len]at h2;have hc:=h.c1
 constructor
 .split<;>rcases(by omega:c=0\/c=1)with rfl | rfl<;>omega
 .refine UH O h.dg h.len ?_;show lv os=_;omega
def YB(xs ys:j3)(hx:Dg xs)(hy:Dg ys)(hl:ys.length<xs.length)(hs:xs.length<1099511627776):xE prog 252 255 1 [] [(.one (.slice 1 (rT ys)):aF)] (rT xs) [.one (.bool (decide (1000000000^xs.length<=lv xs+lv ys)))] (rT (pd 1000000000 xs.length (lv xs+lv ys-1000000000^xs.length*(if 1000000000^xs.length<=lv xs+lv ys then 1 else 0)))):=by
 refine GQ (a1:=[]) (a2:=[.v none]) (i1:=[]) (i2:=[.v (.one (.slice 1 (rT ys)))]) (hints:=(fun _=>none)) fo aT func252 trivial ⟨rfl,trivial⟩ aT ?_ ?_ ?_ ?_
 .simp[rT]
 .simp[rT]
 .simp[rT]
 dsimp only[aP,aQ];rw[YE];dsimp only[List.map,In.env,aP,aQ];refine WT rfl (aX _) ?_;refine bC {g:Nat×Nat×List Nat // LC xs ys g.1 g.2.1 g.2.2} (fun g=>[.one (.int .u32 g.1.2.1),.one (.int .i64 g.1.1),.rows (rT g.1.2.2)]) (fun g=>xs.length-g.1.1) ⟨(0,0,xs),LC.init hx _⟩ aR.rfl (fun _=>rfl) ?_;rintro⟨⟨i,c,os⟩,hI⟩;dsimp only[aP,aQ]at hI|-;have hol:=hI.len;have hil:=hI.le;have hc:=hI.c1;refine uS az ?_ ?_<;>intro h3
 .have hgx:xs[i]?=some (xs[i]' O):=bU O;generalize xs[i]' O=x at hgx;have hxB:=hx.get hgx;have ho:=hI.get hgx;refine dz rfl rfl O D6 ?_;refine tZ rfl rfl O O ho rfl ?_;apply vn pW;apply vn (aZ ec (aX _));refine uS az ?_ ?_<;>intro h9
  .have hgy:ys[i]?=some (ys[i]' O):=bU O;generalize ys[i]' O=y at hgy;have hyB:=hy.get hgy;apply vn (aY ec hgy);apply vn (bI Bl);apply vn pW;dsimp only[aP,aQ];refine uS gW ?_ ?_<;>intro h14
   .apply vn pf;refine dz rfl rfl O D6 ?_;refine qA (d':=x+c+y-1000000000) rfl rfl O O ho ?_ ?_
    .show[aE.int .u32 _]=[aE.int .u32 _]
     congr 2;omega
    apply vn aC;dsimp only[aP,aQ];exact aa rfl ⟨⟨(i+1,1,os.set i (x+c+y-1000000000)),hI.next (z:=x+c+y-1000000000) (c':=1) (y:=y) hgx (by rw[hgy];rfl) O O O⟩,aR.rfl,by show xs.length-(i+1)<xs.length-i;omega⟩
   refine dz rfl rfl O D6 ?_;refine qA (d':=x+c+y) rfl rfl O O ho ?_ ?_
   .show[aE.int .u32 _]=[aE.int .u32 _]
    congr 2
   apply vn aC;dsimp only[aP,aQ];exact aa rfl ⟨⟨(i+1,0,os.set i (x+c+y)),hI.next (z:=x+c+y) (c':=0) (y:=y) hgx (by rw[hgy];rfl) O O O⟩,aR.rfl,by show xs.length-(i+1)<xs.length-i;omega⟩
  have hnone:ys[i]?=none:=gm.2 O;refine uS gW ?_ ?_<;>intro h25
  .apply vn pf;refine dz rfl rfl O D6 ?_;refine qA (d':=x+c-1000000000) rfl rfl O O ho ?_ ?_
   .show[aE.int .u32 _]=[aE.int .u32 _]
    congr 2;omega
   apply vn aC;dsimp only[aP,aQ];exact aa rfl ⟨⟨(i+1,1,os.set i (x+c-1000000000)),hI.next (z:=x+c-1000000000) (c':=1) (y:=0) hgx (by rw[hnone];rfl) O O O⟩,aR.rfl,by show xs.length-(i+1)<xs.length-i;omega⟩
  refine dz rfl rfl O D6 ?_;refine qA (d':=x+c) rfl rfl O O ho ?_ ?_
  .show[aE.int .u32 _]=[aE.int .u32 _]
   congr 2
  apply vn aC;dsimp only[aP,aQ];exact aa rfl ⟨⟨(i+1,0,os.set i (x+c)),hI.next (z:=x+c) (c':=0) (y:=0) hgx (by rw[hnone];rfl) O O O⟩,aR.rfl,by show xs.length-(i+1)<xs.length-i;omega⟩
 apply vn jA;dsimp only[aP,aQ];have hie:i=xs.length:=O
 subst hie;obtain⟨hb1,ho1⟩:=hI.fin hl;rw[hb1]at ho1;exact yC (by rw[<-show rT os=rT _ from congrArg rT ho1];rfl) (congrArg (fun q=>[aF.one (.bool q)]) (Zo hb1))
def bM0:Tr:=kq 52 0 120 (aJ 55 0 (.need (.rop 54 255 1 (some (.u 27 0,.u 47 0)) [] [W 14 0] [none]) (D5 252 #[tT 124,tT 125] #[33,33]) 4 true (.need (.prim [W 53 0,.one (.c (.k (.int .u64 1)))] none) (.binOp .sub 254 (tT 122) (.const (.int .u64 1)) 254) 254 false (BV 1 56 58 57))) (ig 53 254 255 129 (eV 28 27 33 127 128 (gT 28 27 56 255 131 130 (iJ 27 1 77 (SA 58 57 54))))))
def bT5:Tr:=.need (.rop 29 255 1 (some (.u 27 0,.u 47 0)) [] [W 14 0,W 45 0] [none]) (D5 251 #[tT 116,tT 117,tT 118] #[33,33,254]) 4 true (aJ 50 0 (.loop 1 [.w (.one (.c (.k (.bool false)))),lV 45 0,.row 51] bM0) (ig 45 254 255 129 (eV 28 27 33 127 128 (gT 28 27 52 255 131 130 (iJ 27 1 77 (SA 54 53 51))))))
def bJ2:Tr:=yH .quo 254 96 102 39 0 43 0 254 (.need (.prim [W 44 0,.one (.c (.k (.int .u64 999999999)))] none) (.call ⟨.builtin .min,#[tT 103,.const (.int .u64 999999999)],#[254,254]⟩) 254 false (dh 27 0 15 0 3 107 108 (bX 46 1 3 109 (dh 27 0 15 0 3 111 112 (bX 48 1 3 113 (.need (.view 29 (.u 27 0) (.u 47 0) (.u 49 0)) (.slice 33 (tT 105) (some (tT 106)) (some (tT 110)) (some (tT 114))) 33 false bT5))))))
def bW8:Tr:=oq 29 36 255 92 (ig 37 255 254 93 (dh 34 0 38 0 254 86 94 (iJ 15 1 98 (jL 14 0 40 0 33 97 99 (cq 41 255 100 (ig 42 255 254 101 bJ2))))))
def bZ9:Tr:=eV 29 31 33 79 82 (oq 29 31 255 83 (ig 32 255 254 84 (ax2 33 85 (dh 27 0 15 0 3 88 89 (iJ 35 1 90 (eV 29 36 33 87 91 bW8))))))
def bQ1:Tr:=.loop 0 [lV 26 0,.row 24,.row 21] (my 27 0 0 3 75 (aJ 30 0 (dh 27 0 15 0 3 80 81 bZ9) (Wt 29 133 (OU 31 13 134 135 (Wt 28 139 (.ret [G1 34,G1 32]))))))
def bE4:Tr:=oF 118 0 0 13 62 63 (aD7 18 19 61 65 (yS 21 67 33 (ez 22 0 15 0 3 68 69 (JB 23 70 (yS 24 72 33 (iJ 25 1 73 bQ1))))))
def cg2:Tr:=ig 11 255 254 47 (oh 195 12 1 48 254 35 (oF 118 1 0 13 50 51 (bD 14 0 54 33 (bD 0 0 57 33 (bX 16 1 3 58 (JB 17 59 bE4))))))
def cj5:Tr:=aJ 5 0 (mr 1 0 0 33 32 (cq 6 255 33 (eO 250 [G1 0,W 7 0] [some 1,some 1] [30,34] [35,255] 251 true (.ret [G1 8,G1 9])))) (bD 1 0 41 33 (iJ 6 1 42 (jL 1 0 7 0 33 39 43 (cq 8 255 44 (Yo 9 1 45 (.need (.prim [.one (.c (.k (.int .u32 1000000000))),W 10 0] none) (.binOp .quo 255 (.const (.int .u32 1000000000)) (tT 46) 255) 255 false cg2))))))
def cD8:Tr:=eO 119 [G1 0,G1 1] [none] [19,20] [35,35] 3 true (kp 2 0 0 3 21 (aJ 3 0 (.ret [.agg [tN],G1 0]) (bD 1 0 27 33 (gd 4 0 1 3 28 cj5))))
def aF3:aO prog f193 cT [.v (some 1),.v (some 1)]=cD8:=aT
def vY{a b:Int}:gS a b<0↔a<b:=by unfold gS;split<;>(try split)<;>omega
def mX{n:Nat}(h:n=0):aE.Sub (.exact (.slice none 0 0)) (dT n):=by
 subst h;have:dg 0=[]:=eN _;rw[dT,this];exact aE.Sub.nil
def sj{n:Nat}(h0:0<n:=by omega)(h:n<1000000000:=by omega):dg n=[n]:=by
 rw[dg,jU,gk h,gj h,eN]
def HT{n k:Nat}(h:n<1000000000^k):(dg n).length<=k:=mo h
def Px(n:Nat):n<1000000000^(dg n).length:=oN O n
def aw4{n:Nat}(h:n≠0:=by omega):1000000000^((dg n).length-1)<=n:=jb O h
def az7{n i:Nat}(h:i<(dg n).length:=by omega):(dg n)[i]?=some (n/1000000000^i%1000000000):=by
 have e:(dg n)[i]?=(pd 1000000000 (dg n).length n)[i]?:=congrArg (fun l:List Nat=>l[i]?) (aa9 n);rw[e,Hy _ h]
def Vs{n:Nat}(h:0<n):1000000000^(n-1)*1000000000=1000000000^n:=by
 obtain⟨k,rfl⟩:∃k,n=k+1:=⟨n-1,O⟩
 rw[ny,bF]
def cb5{r1 r2 vt:Nat}(h1:r1<1000000000)(h2:r2<1000000000):(r1*1000000000+r2)/vt<1000000000000000000:=
 cV (oA _ _) O
def az0(q:Nat):min (q:Int) 999999999=((min q 999999999:Nat):Int):=O
def YM{n:Nat}(h:n<1000000000):(n:Int)<4294967296:=O
def ax7{n:Nat}(h:n<1000000000000000000):(n:Int)<18446744073709551616:=O
def sG(n:Nat):(0:Int)<=(n:Int):=Rl _
def bB6(i:Nat):((i+1:Nat):Int)-1-1=(i:Int)-1:=O
def bW9{P:n7}{T U ty:Nat}{x y:n8}{a b:Nat}{a':Int}(ha':a'=a)(hb:0<b)(hc:(a/b:Nat)<1000000000000000000):aq P (.binOp .quo T x y U) ty [.one (.int .u64 a'),.one (.int .u64 b)] (.one (.int .u64 ((a/b:Nat):Int))):=by
 subst ha';exact te O (by rw[nY (sG _),<-Bi,vk (sG _) (ax7 hc)])
def bm8(a b:Nat)(hb0:0<b)(hb:b<1000000000)(hs:(dg a).length<549755813888):aK prog 193 [(mT a:aF),(mT b:aF)] (.ret [mT (a/b),mT (a%b)]):=by
 refine dB func193 aF3 ?_;have e1:=sj hb0 hb;apply aA (wm a b (by rw[e1];simp;omega)) rfl;apply vn az;dsimp only[aP,aQ];rw[show decide (gS (a:Int) (b:Int)<0)=decide (a<b) by rw[kV,vY];omega];refine p8 ?_ ?_<;>intro h2
 .refine eD ⟨⟨mX (gj h2),trivial⟩,⟨?_,trivial⟩,trivial⟩;rw[gk h2];exact aE.Sub.same
 apply vn (aZ ec (aX _));refine uS bA ?_ ?_<;>intro h6
 .apply vn (aY ec (show(dg b)[0]?=some b by rw[e1];rfl)) rfl;apply vn (bI Bl);apply aA (SU a b hb0 hb);exact aN
 exact absurd (by rw[e1];simp) h6
structure UK(S V L m n:Nat)(os:j3)(R:Nat):Prop where
 le:n<=m
 len:os.length=m
 dg:Dg os
 eq:S=R+V*1000000000^n*lv (os.drop n)
 lt:R/1000000000^n<V
 fit:R<1000000000^L
def UK.next{S V L m n R g:Nat}{os:j3}(h:UK S V L m (n+1) os R)(hV:0<V)(hg:g=R/1000000000^n/V) :
  UK S V L m n (os.set n g) (R%1000000000^n+1000000000^n*(R/1000000000^n%V)):=by
 obtain⟨h1,h2,h3,h4⟩:=LO (B:=1000000000) O hV h.eq h.lt;have hn:=h.le;have hlen:=h.len;subst hg;refine⟨O,by rw[cI];exact hlen,h.dg.set h2,?_,h4,?_⟩
 .rw[Sn (x:=R/1000000000^n/V) (by rw[uf O]),Ga O];exact h3
 .refine cV ?_ h.fit;have:=nj R (1000000000^n);have h5:=cd (1000000000^n) (xX (R/1000000000^n) V);omega
def gbv(W X V:Nat)(p:Bool×Nat):Nat:=if p.1 then X%V else X+W-p.2*V
def ca8{R i nv:Nat}(hnv:0<nv)(h:R/1000000000^(i+nv)<1000000000):R/1000000000^(i+nv)%1000000000*1000000000+R/1000000000^(i+nv-1)%1000000000=R/1000000000^i/1000000000^(nv-1):=by
 rw[gk h,mW,<-eH,show i+(nv-1)=i+nv-1 by omega]
 have e:R/1000000000^(i+nv)=R/1000000000^(i+nv-1)/1000000000:=by
  rw[mW,<-bF];congr 2;omega
 rw[e];have:=Fk (R/1000000000^(i+nv-1)) 1000000000;omega
def aj5{b s top:Nat}(hs0:0<s)(hs:s*(top+1)<=1000000000)(htop:top=b/1000000000^((dg b).length-1))(hb:b≠0:=by omega):(dg (b*s)).length=(dg b).length:=by
 have hp:0<1000000000^((dg b).length-1):=aw O
 have hl:0<(dg b).length:=by
  rcases iI (dg b).length with h | h
  .exact(hb (QU.1 (ij h))).elim
  .exact h
 apply Qe
 .apply HT
  have h1:b<(top+1)*1000000000^((dg b).length-1):=by
   rw[htop,cD];exact af0 b hp
  calc b*s<(top+1)*1000000000^((dg b).length-1)*s:=xG h1 hs0
   _=s*(top+1)*1000000000^((dg b).length-1):=by simp only[cD,ns,dC]
   _<=1000000000*1000000000^((dg b).length-1):=cg _ hs
   _=1000000000^(dg b).length:=by rw[cD,<-bF];congr 1;omega
 .exact pK (dn b hs0)
def JC(a b:Nat)(hb0:0<b)(hs:(dg a).length+(dg b).length<274877906944:=by omega):aK prog 193 [(mT a:aF),(mT b:aF)] (.ret [mT (a/b),mT (a%b)]):=by
 refine dB func193 aF3 ?_;apply aA (wm a b);apply vn az;dsimp only[aP,aQ];rw[show decide (gS (a:Int) (b:Int)<0)=decide (a<b) by rw[kV,vY];omega];refine p8 ?_ ?_<;>intro h2
 .refine eD ⟨⟨mX (gj h2),trivial⟩,⟨?_,trivial⟩,trivial⟩;rw[gk h2];exact aE.Sub.same
 have hbl:0<(dg b).length:=by
  rcases iI (dg b).length with h | h
  .exact(Nat.ne_of_gt hb0 (QU.1 (ij h))).elim
  .exact h
 have hlen:=pK (zi h2);apply vn (aZ ec (aX _));refine uS bA ?_ ?_<;>intro h6
 .have hb:b<1000000000:=by
   have:=Px b;rw[show(dg b).length=1 by omega]at this;omega
  have e1:=sj hb0 hb;apply vn (aY ec (show(dg b)[0]?=some b by rw[e1];rfl)) rfl;apply vn (bI Bl);apply aA (SU a b hb0 hb);exact aN
 obtain⟨top,htop⟩:∃t,(dg b)[(dg b).length-1]?=some t:=⟨_,bU O⟩
 have htB:=(oH b).get htop
 have htv:top=b/1000000000^((dg b).length-1):=by
  have h1:=az7 (n:=b) (i:=(dg b).length-1);rw[htop]at h1;simp only[aM]at h1;rw[h1,gk];rw[lh (aw O),cD,Vs hbl];exact Px b
 have ht0:0<top:=by
  rw[htv];exact sF aw4 (aw O)
 obtain⟨s,hs'⟩:∃s,1000000000/(top+1)=s:=⟨_,rfl⟩
 have hsle:s*(top+1)<=1000000000:=by rw[<-hs'];exact uC _ _
 have hs0:0<s:=by rw[<-hs'];exact sF O O
 have hsB:s<1000000000:=by
  rw[<-hs'];exact uX O O
 have hvl:=aj5 hs0 hsle htv;apply vn (aZ ec (aX _));apply vn aL;apply vn (aY ec htop);apply vn (bI Bl);dsimp only[aP,aQ];apply vn pW;dsimp only[aP,aQ];apply vn (te (c:=(s:Int)) O (by rw[nY O,show((1000000000:Int)/((top:Int)+1))=((1000000000/(top+1):Nat):Int) by simp,hs',CF]<;>omega)) rfl;apply vn (vj ⟨_,kI⟩ lB);apply aA (lP s);apply aA (mQ b s (by rw[sj hs0 hsB];simp;omega)) rfl;obtain⟨V,hV⟩:∃V,b*s=V:=⟨_,rfl⟩
 obtain⟨S,hS⟩:∃S,a*s=S:=⟨_,rfl⟩
 rw[hV]at hvl|-;have hV0:0<V:=by rw[<-hV];exact dN hb0 hs0
 apply vn (aZ ec (aX _));apply vn (aZ ec (aX _));apply vn aC;dsimp only[aP,aQ];refine GD (n:=(dg a).length+1) (f:=fun d:Nat=>[aE.int .u32 (d:Int)]) 0 rfl rfl O rfl O (by simp only[maxLen];omega) ?_;apply aA (mQ a s (by rw[sj hs0 hsB];simp;omega)) rfl;rw[hS]
 have hSlt:S<1000000000^((dg a).length+1):=by
  rw[<-hS,bF];exact Nat.mul_lt_mul'' (Px a) hsB
 have hSle:=HT hSlt
 have hSV:S<V*1000000000^((dg a).length+1-(dg b).length):=by
  rw[<-hS,<-hV];have h1:=Px a;have h2:=aw4 (n:=b)
  have h3:1000000000^(dg a).length<=b*1000000000^((dg a).length+1-(dg b).length):=by
   refine an (np ?_) (cg _ h2);rw[<-eH];congr 1;omega
  calc a*s<b*1000000000^((dg a).length+1-(dg b).length)*s:=xG (bt h1 h3) hs0
   _=_:=by simp only[cD,ns,dC]
 obtain⟨L,hL⟩:∃L,(dg a).length+1=L:=⟨_,rfl⟩
 rw[hL]at hSlt hSle hSV;dsimp only[aP,aQ];refine aw8 (xs:=dg S) (zs:=List.replicate ((dg a).length+1) 0) (ws:=pd 1000000000 L S) (fun _=>rfl) rfl rfl ec iF bY (UH O ((DB.oW O S).append ((DB.rep O _).drop _)) (by simp only[gK,dw,lH];show(dg S).length+_=_;omega) (by rw[List.drop_replicate,lW,Zg];show lv (dg S)+_=_;rw[km,fu,cu])) ?_;refine WT (n:=L) rfl bY ?_;apply vn aL;dsimp only[aP,aQ];refine GD (n:=L-(dg b).length) (f:=fun d:Nat=>[aE.int .u32 (d:Int)]) 0 rfl rfl (by rw[hvl];omega) rfl O (by simp only[maxLen];omega) ?_;refine WT (n:=L-(dg b).length) rfl bY ?_;apply vn aL;dsimp only[aP,aQ];obtain⟨m,hm⟩:∃m,L-(dg b).length=m:=⟨_,rfl⟩
 rw[hm]at hSV|-;rw[hvl];obtain⟨nv,hnv⟩:∃n,(dg b).length=n:=⟨_,rfl⟩
 rw[hnv]at hvl htv htop hbl hlen hm hs|-;refine bC {g:Nat×List Nat×Nat // UK S V L m g.1 g.2.1 g.2.2} (fun g=>[.one (.int .i64 ((g.1.1:Int)-1)),.rows (rT g.1.2.1),.rows (rT (pd 1000000000 L g.1.2.2))]) (fun g=>g.1.1) ⟨(m,List.replicate m 0,S),⟨ah _,bY,Dg.rep _,by simp[lv,val],by rw[lh (aw O)];exact hSV,hSlt⟩⟩ aR.rfl (fun _=>rfl) ?_;rintro⟨⟨n,os,R⟩,hI⟩;dsimp only[aP,aQ]at hI|-;have hnm:=hI.le;have hol:=hI.len;have hfit:=hI.fit;have hLs:L<549755813888:=O
 have hnvL:nv<L:=O
 refine uS gW ?_ ?_<;>intro h33
 .clear htop htB htv ht0 hs' hsle hSV hSlt hSle hs hlen hL hnv h2 h6 hS hV hsB hs0;obtain⟨i,rfl⟩:∃i,n=i+1:=⟨n-1,O⟩
  obtain⟨hX1,hX2,_,_⟩:=LO (B:=1000000000) O hV0 hI.eq hI.lt;obtain⟨X,hX⟩:∃X,R/1000000000^i=X:=⟨_,rfl⟩
  have hVlt:V<1000000000^nv:=by rw[<-hvl];exact Px V
  have hXlt:X<1000000000^(nv+1):=by
   rw[bF,<-hX];exact PR hX1 (xG hVlt O)
  have hRtop:R/1000000000^(i+(nv+1))=0:=by
   rw[eH,<-mW,hX];exact gj hXlt
  have hRnv:R/1000000000^(i+nv)<1000000000:=by
   rw[eH,<-mW,hX,lh (aw O),cD,<-bF];exact hXlt
  have htwo:=ca8 hbl hRnv;rw[hX]at htwo hX1 hX2;obtain⟨r1,hr1⟩:∃r,R/1000000000^(i+nv)%1000000000=r:=⟨_,rfl⟩
  obtain⟨r2,hr2⟩:∃r,R/1000000000^(i+nv-1)%1000000000=r:=⟨_,rfl⟩
  have hr1B:r1<1000000000:=by rw[<-hr1];exact eK _ O
  have hr2B:r2<1000000000:=by rw[<-hr2];exact eK _ O
  have hg1:(pd 1000000000 L R)[i+nv]?=some r1:=by rw[Hy _ O,hr1]
  have hg2:(pd 1000000000 L R)[i+nv-1]?=some r2:=by rw[Hy _ O,hr2]
  rw[hr1,hr2]at htwo;obtain⟨vt,hvt⟩:∃t,V/1000000000^(nv-1)=t:=⟨_,rfl⟩
  have hvtB:vt<1000000000:=by
   rw[<-hvt,lh (aw O),cD,Vs hbl];exact hVlt
  have hvt0:0<vt:=by
   have:=aw4 (n:=V);rw[hvl]at this;rw[<-hvt];exact sF this (aw O)
  have hgv:(dg V)[nv-1]?=some vt:=by
   rw[az7,hvt,gk hvtB]
  obtain⟨g,hg⟩:∃g,min ((r1*1000000000+r2)/vt) 999999999=g:=⟨_,rfl⟩
  have hgB:g<1000000000:=by rw[<-hg];exact cV (Nat.min_le_right _ _) dO
  have hgq:X/V<=g:=by
   rw[<-hg];have h1:=aE2 (B:=1000000000) (X:=X) (V:=V) (n:=nv-1) (by rw[hvt];exact hvt0);rw[hvt,<-htwo]at h1;exact Nat.le_min.2 ⟨h1,Nat.le_of_lt_succ hX2⟩
  have hpdl:(pd 1000000000 L R).length=L:=gB _ _;apply vn aC;refine dz rfl rfl O (by rw[gB];omega) ?_;refine tZ rfl rfl O O hg1 rfl ?_;apply vn (vj ⟨_,kI⟩ lB);apply vn ap5;apply vn aC;apply vn aL;refine dz rfl rfl O (by rw[gB];omega) ?_;refine tZ rfl rfl O O hg2 rfl ?_;dsimp only[aP,aQ];apply vn (vj ⟨_,kI⟩ lB);apply vn al4;apply vn aL;apply vn (aY ec hgv);apply vn (bI Bl);apply vn (vj ⟨_,kI⟩ lB);apply vn (bW9 (a:=r1*1000000000+r2) (by rw[EZ,iK];rfl) hvt0 (cb5 hr1B hr2B)) rfl;apply vn aP6;dsimp only[aP,aQ];rw[az0,hg];apply vn aC;apply vn aC;apply vn aC;apply vn aC;dsimp only[aP,aQ];refine cw6 (n:=i) (m:=i+nv+1) rfl (by show aE.int .i64 _=aE.int .i64 _;congr 1;omega) (by show aE.int .i64 _=aE.int .i64 _;congr 1;omega) (by show aE.int .i64 _=aE.int .i64 _;congr 1;omega) O iF ?_
  have hgV:g*V<1000000000^(nv+1):=by
   rw[bF,cD (1000000000^nv)];exact bt (xG (by omega:g<1000000000) hV0) (cd _ (na hVlt))
  have hview:∀Y,Y<1000000000^(nv+1)->((rT (pd 1000000000 L (R%1000000000^i+1000000000^i*Y))).take (i+nv+1)).drop i=rT (pd 1000000000 (nv+1) Y):=by
   intro Y hY;rw[rT,rT,<-ou,<-rL,QL _ O,Sk,show i+nv+1-i=nv+1 by omega]
   congr 2
   rw[uk _ _ (aw O),gj (eK _ (aw O)),bw]
  have hfitY:∀Y,Y<1000000000^(nv+1)->R%1000000000^i+1000000000^i*Y<1000000000^L:=by
   intro Y hY;have h1:R%1000000000^i<1000000000^i:=eK _ (aw O);have h2:1000000000^i*(Y+1)<=1000000000^i*1000000000^(nv+1):=cd _ hY;rw[<-eH]at h2;have h3:1000000000^(i+(nv+1))<=1000000000^L:=cB O O;rw[fO,dc]at h2;omega
  have hput:∀Y Z,Y<1000000000^(nv+1)->Z<1000000000^(nv+1)->(rT (pd 1000000000 L (R%1000000000^i+1000000000^i*Y))).take i++rT (pd 1000000000 (nv+1) Z)++(rT (pd 1000000000 L (R%1000000000^i+1000000000^i*Y))).drop (i+(rT (pd 1000000000 (nv+1) Y)).length)=rT (pd 1000000000 L (R%1000000000^i+1000000000^i*Z)):=by
   intro Y Z hY hZ;have hp:0<1000000000^i:=aw O;have hm:R%1000000000^i<1000000000^i:=eK _ hp;rw[dA,gB,rT,rT,rT,<-ou,<-rL,<-ep,<-ep,an5 (hfitY Y hY) hZ]
   have e:(R%1000000000^i+1000000000^i*Y)/1000000000^(i+(nv+1))=0:=by
    rw[eH 1000000000 i,<-mW,uk _ _ hp,gj hm,bw];exact gj hY
   rw[e,Bv,gk hm,fu,cu]
  have hRX:R=R%1000000000^i+1000000000^i*X:=by rw[<-hX];exact(nj _ _).symm
  have hsub:=Xh (pd 1000000000 (nv+1) X) (dg V) g (KY O _ _) (oH V) hgB (by rw[gB];omega) (by rw[gB];omega);have hlvX:∀Y,Y<1000000000^(nv+1)->lv (pd 1000000000 (nv+1) Y)=Y:=fun Y hY=>by rw[lv,Cc,gk hY]
  rw[hlvX X hXlt,km,gB]at hsub
  have hgive:∀Y,Y<1000000000^(nv+1)->xE prog 252 255 1 [] [.one (.slice 1 (rT (dg V)))] (rT (pd 1000000000 (nv+1) Y)) [.one (.bool (decide (1000000000^(nv+1)<=Y+V)))] (rT (pd 1000000000 (nv+1) (Y+V-1000000000^(nv+1)*(if 1000000000^(nv+1)<=Y+V then 1 else 0)))):=by
   intro Y hY;have h1:=YB (pd 1000000000 (nv+1) Y) (dg V) (KY O _ _) (oH V) (by rw[gB];omega) (by rw[gB];omega);rw[hlvX Y hY,km,gB]at h1;exact h1
  have hok:os[i]?=some (os[i]' O):=bU O;have hVB:V<1000000000^(nv+1):=bt hVlt (cB O O);have hXV:X%V<1000000000^(nv+1):=PR (eK _ hV0) hVB
  have hN:UK S V L m i (os.set i (X/V)) (R%1000000000^i+1000000000^i*(X%V)):=by
   have:=hI.next hV0 rfl;rw[hX]at this;exact this
  clear hI htwo hg hr1 hr2 hg1 hg2 hvt hgv hvt0 hvtB hX hRnv hRtop hr1B hr2B hpdl hlvX hfit
  refine as1 (n:=i) (vs:=rT (pd 1000000000 L (R%1000000000^i+1000000000^i*(X+1000000000^(nv+1)*(if X<g*V then 1 else 0)-g*V)))) (ts:=rT (pd 1000000000 L R)) (us:=rT (pd 1000000000 (nv+1) X)) rfl ⟨.i64,.i64,i+nv+1,(by show aE.int .i64 _=aE.int .i64 _;congr 1;omega),(by show aE.int .i64 _=aE.int .i64 _;congr 1;omega),O,iF,by rw[<-hview X hXlt,<-hRX]⟩ (by simp[pd]) rfl (vu rfl hsub) (by
   conv=>lhs;rw[hRX]
   exact hput X _ hXlt (by split<;>omega)) ?_
  refine p8 ?_ ?_<;>intro h57
  .refine bC {p:Bool×Nat // if p.1 then p.2=X/V else X<p.2*V/\p.2<1000000000} (fun p=>[.one (.bool p.1.1),.one (.int .u64 p.1.2),.rows (rT (pd 1000000000 L (R%1000000000^i+1000000000^i*gbv (1000000000^(nv+1)) X V p.1)))]) (fun p=>if p.1.1 then 0 else p.1.2+1) ⟨(false,g),by simp only[eF,bu];exact⟨h57,hgB⟩⟩ ⟨aF.Sub.same,aF.Sub.same,aF.Sub.of_eq (congrArg (fun y=>aF.rows (rT (pd 1000000000 L (R%1000000000^i+1000000000^i*y)))) (by simp only[gbv,eF,bu];rw[aI h57,dc])),trivial⟩ (fun _=>rfl) ?_;rintro⟨⟨made,g'⟩,hp⟩;dsimp only[aP,aQ]at hp|-;apply vn jW;refine gn (!made) rfl (fun h60=>?_) (fun h60=>?_)
   .have hmd:made=false:=by simpa using h60
    subst hmd;simp only[eF,bu]at hp
    have hgV':g'*V<1000000000^(nv+1):=by
     rw[bF,cD (1000000000^nv)];exact bt (xG (by omega:g'<1000000000) hV0) (cd _ (na hVlt))
    have hg0:0<g':=by
     rcases iI g' with h | h
     .rw[h]at hp;omega
     .exact h
    have hgm:(g'-1)*V+V=g'*V:=by
     obtain⟨k,rfl⟩:∃k,g'=k+1:=⟨g'-1,O⟩
     rw[ny,ba,cZ]
    obtain⟨W,hW⟩:∃W,1000000000^(nv+1)=W:=⟨_,rfl⟩
    have hYe:gbv W X V (false,g')=X+W-g'*V:=by simp[gbv]
    have hnew:X+W-g'*V+V-W*(if W<=X+W-g'*V+V then 1 else 0)=gbv W X V (decide (W<=X+W-g'*V+V),g'-1):=by
     rw[hW]at hgV' hXlt;by_cases hc:W<=X+W-g'*V+V
     .rw[aI hc,dc];simp only[gbv,hc,sH,bZ];have hq:X/V=g'-1:=Br hV0 (by rw[show g'-1+1=g' by omega];exact hp.1);have h1:=nj X V;rw[hq,cD]at h1;omega
     .rw[aD hc,fu];simp only[gbv,hc,oz,eF,bu];omega
    rw[hW]at hview hput hgive hXlt hgV';have hYlt:X+W-g'*V<W:=O
    have hput1:=hput (X+W-g'*V) (X+W-g'*V+V-W*(if W<=X+W-g'*V+V then 1 else 0)) hYlt (by split<;>omega);rw[hnew]at hput1;rw[hW,hYe];refine as1 (n:=i) (ts:=rT (pd 1000000000 L (R%1000000000^i+1000000000^i*(X+W-g'*V)))) (us:=rT (pd 1000000000 (nv+1) (X+W-g'*V))) (us':=rT (pd 1000000000 (nv+1) (gbv W X V (decide (W<=X+W-g'*V+V),g'-1)))) rfl ⟨.i64,.i64,i+nv+1,(by show aE.int .i64 _=aE.int .i64 _;congr 1;omega),(by show aE.int .i64 _=aE.int .i64 _;congr 1;omega),O,iF,(hview _ hYlt).symm⟩ (by simp[pd]) rfl (vu rfl (hnew▸hgive _ hYlt)) hput1 ?_;apply vn ar3;dsimp only[aP,aQ];have hg1':(g':Int)-1=((g'-1:Nat):Int):=by clear hN hput hview hgive hfitY;omega
    refine aa rfl ⟨⟨(decide (W<=X+W-g'*V+V),g'-1),?_⟩,⟨aF.Sub.same,aF.Sub.of_eq (congrArg (fun q=>aF.one (aE.int .u64 q)) hg1'),aF.Sub.of_eq ?_,trivial⟩,?_⟩
    .by_cases hc:W<=X+W-g'*V+V
     .simp only[hc,sH,bZ];exact(Br hV0 (by rw[show g'-1+1=g' by omega];exact hp.1)).symm
     .simp only[hc,oz,eF,bu];omega
    .dsimp only;rfl
    .dsimp only;by_cases hc:W<=X+W-g'*V+V
     .simp[hc]
     .simp[hc];omega
   have hmd:made=true:=by simpa using h60
   subst hmd;simp only[bZ]at hp;subst hp;simp only[gbv,bZ];apply vn (tD ⟨_,lB⟩ kI (sG _) (YM hX2));refine dz rfl rfl O O ?_;refine qA (d':=X/V) rfl rfl O O hok rfl ?_;apply vn aL;dsimp only[aP,aQ];exact aa rfl ⟨⟨(i,os.set i (X/V),R%1000000000^i+1000000000^i*(X%V)),hN⟩,⟨aF.Sub.of_eq (congrArg (fun q=>aF.one (aE.int .i64 q)) (bB6 i)),aF.Sub.same,aF.Sub.same,trivial⟩,by show i<i+1;omega⟩
  have hq:X/V=g:=Qe hgq (by rw[Aq hV0];omega)
  have hmod:X+1000000000^(nv+1)*(if X<g*V then 1 else 0)-g*V=X%V:=by
   rw[aD h57,fu,cu];have h1:=nj X V;rw[hq,cD]at h1;omega
  rw[hmod];rw[hq]at hN;apply vn (tD ⟨_,lB⟩ kI (sG _) (YM hgB));refine dz rfl rfl O O ?_;refine qA (d':=g) rfl rfl O O hok rfl ?_;apply vn aL;dsimp only[aP,aQ];exact aa rfl ⟨⟨(i,os.set i g,R%1000000000^i+1000000000^i*(X%V)),hN⟩,⟨aF.Sub.of_eq (congrArg (fun q=>aF.one (aE.int .i64 q)) (bB6 i)),aF.Sub.same,aF.Sub.same,trivial⟩,by show i<i+1;omega⟩
 have hn0:n=0:=O
 subst hn0;have heq:=hI.eq;have hlt:=hI.lt;rw[gF,jt,dc]at heq;rw[jt,rO]at hlt;obtain⟨hQ,hR⟩:=Cm heq hlt;have hQ2:lv os=a/b:=by rw[hQ,<-hS,<-hV,Nat.mul_div_mul_right _ _ hs0]
 have hR2:R=a%b*s:=by rw[hR,<-hS,<-hV,Nat.mul_mod_mul_right]
 apply aA (lz (pd 1000000000 L R) (KY O _ _) (by rw[gB];omega)) rfl;rw[show lv (pd 1000000000 L R)=R by rw[lv,Cc,gk hfit]];apply aA (bm8 R s hs0 hsB (by have:=HT hfit;omega)) rfl;apply aA (lz os hI.dg);dsimp only[aP,aQ];refine aN ?_;rw[hQ2,hR2,Nat.mul_div_cancel _ hs0];rfl
open Go Go.Proofs Go.RowKit Go.Shelf Tryz Ord
attribute [local go_sem] Oper.semAt_some
section
variable{α:Type}[Inhabited α]{enc:α->Value}
def bk(vs:List α)(k:Nat):List (Nat×α):=(List.range k).map fun j=>(vs.length-1-j,vs[vs.length-1-j]?.getD default)
def ad3(vs:List α)(k:Nat):bk vs (k+1)=bk vs k++[(vs.length-1-k,vs[vs.length-1-k]?.getD default)]:=by simp[bk,ml]
def OI(vs:List α)(k:Nat):(bk vs k).length=k:=by simp[bk]
def KpB(n₀ Bs:Nat)(A B:World):Prop:=Below n₀ A B/\∀v,A.cell? ⟨Bs,0,none⟩=some v->B.cell? ⟨Bs,0,none⟩=some v
def aq0(l Bs n₀ b off cap:Nat)(vs:List α)(hlen:vs.length<4611686018427387904)(hb:b<n₀)(J Jx:List (Nat×α)->World->Prop)
  (hY:∀pre x W,J pre W->pre.length<vs.length->YieldAt Fence.wide (1000-1) prog l #[.int .i64 (x.1:Int),enc x.2] W fun e W'=>
   (e=.returned (.bool true)/\J (pre++[x]) W'/\KpB n₀ Bs W W')\/(e=.returned (.bool false)/\Jx (pre++[x]) W'))
  (W:World) (hBs:W.cell? ⟨Bs,0,none⟩=some (.slice (some ⟨b,off,none⟩) vs.length cap)) (hc:∀j v,vs[j]?=some v->W.cell? ⟨b,off+j,none⟩=some (enc v)) (h0:J [] W) :
  CallsIn Fence.wide 1000 prog 274 #[.func (.yield l) #[] #[],.pointer (some ⟨Bs,0,none⟩)] W fun e W'=>(∃v,e=.returned v) /\
   ((∃ys,ys=bk vs vs.length/\J ys W')\/(∃pre,(∃k,k<=vs.length/\pre=bk vs k)/\Jx pre W')):=by
 refine pA func274 rfl trivial ?_ rfl;simp only[ntmps274,ed,bm,ck,Nat.reduceAdd,Nat.reduceSub,fX,fW,fS,fU,List.nil_append,List.cons_append];obtain⟨N,hN⟩:∃N,vs.length=N:=⟨_,rfl⟩
 rw[hN]at hBs hY hlen|-
 gi_wp2
 gi_loopw [3] (fun i wr=>∃k:Nat,k<=N/\i=.int .i64 ((N:Int)-1-k)/\J (bk vs k) wr/\Below n₀ W wr/\wr.cell? ⟨Bs,0,none⟩=some (.slice (some ⟨b,off,none⟩) N cap))
  (fun i _=>(intOf i+1).toNat)
 case atStart=>exact⟨0,cG _,bY,h0,cz _ _,hBs⟩
 case round=>
  obtain⟨k,hk,rfl,hJs,hnx,hBx⟩:=hrel;have hmeas:(intOf (.int .i64 ((N:Int)-1-k))+1).toNat=N-k:=by simp[intOf];omega
  by_cases hlt:k<N
  .have hv:vs[N-1-k]?=some (vs[N-1-k]?.getD default):=by rw[bU O];rfl
   have hcx:wr.cell? ⟨b,off+(N-1-k),none⟩=some (enc (vs[N-1-k]?.getD default)):=(hnx.cell (p:=⟨b,off+(N-1-k),none⟩) hb).trans (hc _ _ hv);obtain⟨fn,tmps,assign,body,hy,hR⟩:=hY _ (N-1-k,vs[N-1-k]?.getD default) wr hJs (by rw[OI];exact hlt);generalize hx:vs[N-1-k]?.getD default=x at hy hR hcx;have hsucc:bk vs (k+1)=bk vs k++[(N-1-k,x)]:=by rw[ad3,hN,hx]
   have e1:(N:Int)-1-k=((N-1-k:Nat):Int):=O
   have hn1:N-1-k<N:=O
   have e2:(wr.cell? ⟨b,off+(N-1-k),none⟩)=some (enc x):=hcx;rw[e1]
   gi_wp2
   refine hR.mono ?_;rintro e W3 (⟨rfl,hJ3,hk3⟩ | ⟨rfl,hJx3⟩)
   .gi_wp2
    go_roundw
    case rel=>exact⟨k+1,O,by congr 1;omega,by rw[hsucc];exact hJ3,hnx.trans hk3.1,hk3.2 _ hBx⟩
    case measure=>simp[intOf]
   .gi_wp2
    refine Sj (Fz rfl _ _ _) rfl ?_;exact⟨⟨_,rfl⟩,.inr ⟨_,⟨k+1,O,rfl⟩,by rw[hsucc];exact hJx3⟩⟩
  .obtain rfl:k=N:=O
   gi_wp2
   go_end0
   exact⟨⟨_,rfl⟩,.inl ⟨_,rfl,hJs⟩⟩
def Wk{α:Type}(l Bs:Nat)(a:o9)(cap:Nat)(J:List (Nat×α)->World->Prop)(W:World)(hBs:W.cell? ⟨Bs,0,none⟩=some (.slice a 0 cap))(h0:J [] W) :
  CallsIn Fence.wide 1000 prog 274 #[.func (.yield l) #[] #[],.pointer (some ⟨Bs,0,none⟩)] W fun e W'=>(∃v,e=.returned v)/\J [] W':=by
 refine pA func274 rfl trivial ?_ rfl;simp only[ntmps274,ed,bm,ck,Nat.reduceAdd,Nat.reduceSub,fX,fW,fS,fU,List.nil_append,List.cons_append]
 gi_wp2
 gi_loopw [3] (fun i wr=>i=.int .i64 (-1)/\J [] wr) (fun _ _=>0)
 case atStart=>exact⟨rfl,h0⟩
 case round=>
  obtain⟨rfl,hJs⟩:=hrel
  gi_wp2
  go_end0
  exact⟨⟨_,rfl⟩,hJs⟩
def SK(n:Nat)(a:o9)(len cap:Nat)(w:World) :
  CallsIn Fence.wide n prog 240 #[.slice a len cap] w fun e w'=>e=.returned (.func (.func 274) #[] #[.pointer (some ⟨w.heap.size,0,none⟩)])/\w'=w.alloc (.cells #[.slice a len cap] 33):=by
 refine pA func240 rfl trivial ?_ rfl;simp only[ntmps240,ed,bm,ck,Nat.reduceAdd,Nat.reduceSub,fX,fW,fS,fU,List.nil_append,List.cons_append]
 gi_wp2
 go_ret
 exact⟨rfl,rfl⟩
def Sl1(enc:α->Value)(n₀:Nat)(W:World)(sv:Value)(vs:List α):Prop:=
 ∃a cap,sv=.slice a vs.length cap/\(vs=[]\/∃b off,a=some ⟨b,off,none⟩/\b<n₀/\∀j v,vs[j]?=some v->W.cell? ⟨b,off+j,none⟩=some (enc v))
def Sl1.below{α:Type}{enc:α->Value}{n₀:Nat}{A B:World}(h:Below n₀ A B){sv:Value}{vs:List α}:Sl1 enc n₀ A sv vs->Sl1 enc n₀ B sv vs:=by
 rintro⟨a,cap,e,rfl | ⟨b,off,rfl,hb,hc⟩⟩
 .exact⟨a,cap,e,.inl rfl⟩
 .exact⟨_,cap,e,.inr ⟨b,off,rfl,hb,fun j v hj=>(h.cell (p:=⟨b,off+j,none⟩) hb).trans (hc j v hj)⟩⟩
def Di(Bs n₀:Nat)(sv:Value)(vs:List α)(hlen:vs.length<4611686018427387904)(w:World)(hBs:Bs<w.heap.size)(hn₀:n₀<=w.heap.size)
  (hc:w.cell? ⟨Bs,0,none⟩=some sv) (hI:Sl1 enc n₀ w sv vs) :
  SeqStopsK Fence.wide 1000 prog 274 #[.pointer (some ⟨Bs,0,none⟩)] (fun x:Nat×α=>#[Value.int .i64 (x.1:Int),enc x.2]) (KpB n₀ Bs) (fun ys=>ys=bk vs vs.length) (fun pre=>∃k,k<=vs.length/\pre=bk vs k) vs.length w:=fun l J Jx W hW _ _ hY h0=>by
 have hc':=(hW.cell (p:=⟨Bs,0,none⟩) hBs).trans hc;obtain⟨a,cap,rfl,rfl | ⟨b,off,rfl,hb,hcs⟩⟩:=hI.below (hW.mono hn₀)
 .exact(Wk (α:=α) l Bs a cap J W hc' h0).mono fun e W' ⟨he,hj⟩=>⟨he,.inl ⟨_,rfl,hj⟩⟩
 .exact(aq0 (enc:=enc) l Bs n₀ b off cap vs hlen hb J Jx hY W hc' hcs h0)
def aa6{n₀ Bs:Nat}{A B C:World}(h:KpB n₀ Bs A B)(k:KpB n₀ Bs B C):KpB n₀ Bs A C:=⟨h.1.trans k.1,fun v hv=>k.2 v (h.2 v hv)⟩
def ad4{n₀ Bs:Nat}{w:World}(hn:n₀<=w.heap.size)(hB:Bs<w.heap.size)(W:World)(l:Nat)(o o':Obj)(hl:w.heap.size<=l)(h:W.heap[l]?=some o)(h1:o.isCells=false)(h2:o.isWalk=false):KpB n₀ Bs W (W.putObj l o'):=
 ⟨xU hn W l o o' hl h h1 h2,fun v hv=>by
  have e:(W.putObj l o').heap[Bs]?=W.heap[Bs]?:=sE O;simp only[World.cell?,e]at hv|-;exact hv⟩
end
def wv(pre:List (Nat×Int)):Int:=pre.foldl (fun n x=>IntKind.u64.wrap (IntKind.u64.wrap (n*1000000000)+IntKind.u64.wrap x.2)) 0
def bj5(pre:List (Nat×Int))(x:Nat×Int):wv (pre++[x])=IntKind.u64.wrap (IntKind.u64.wrap (wv pre*1000000000)+IntKind.u64.wrap x.2):=by simp[wv]
def aK2{n:Nat}(hn:n<1000000000000000000):wv (bk ((dg n).map (fun d:Nat=>(d:Int))) (dg n).length)=(n:Int):=by
 have hl:(dg n).length<=2:=HT O;have hv:=km n;have hd:=oH n;generalize dg n=ds at hl hv hd
 match ds,hl with
 | [],_=>simp[lv,val]at hv;subst hv;simp[bk,wv]
 | [a],_=>
   have ha:=hd a bY;simp[lv,val]at hv;simp[bk,wv,ml];simp only[uQ];omega
 | [a,b],_=>
   have ha:=hd a bY;have hb:=hd b bY;simp[lv,val]at hv;simp[bk,wv,ml];simp only[uQ];omega
def bz9{M:j2}{w:World}{v:Value}{ds:j3}(h:(aE.slice 1 (rT ds)).rep M w v):Sl1 (fun d:Int=>Value.int .u32 d) w.heap.size w v (ds.map (fun d:Nat=>(d:Int))):=by
 obtain⟨a,cap,rfl,hc,hm,hel⟩:=h;refine⟨a,cap,bY,?_⟩;rcases hel with h | ⟨b,off,cs,T,fz,rfl,hb,hh,hr⟩
 .left
  have:ds=[]:=by cases ds<;>simp_all
  subst this;rfl
 .refine .inr ⟨b,off,rfl,(cf.1 hh).1,fun j v hj=>?_⟩;rw[dS]at hj;cases hd:ds[j]? with
  | none=>rw[hd]at hj;simp at hj
  | some d=>
    rw[hd]at hj;simp only[eS,aM]at hj;subst hj;obtain⟨_,hrep⟩:=hr j _ (sk hd);rw[dc]at hrep;have hl:=hrep.length
    have hlt:off+j<cs.toList.length:=by
     simp only[bm,ck,bP,dw]at hl;omega
    rw[ow hlt,pN,kR]at hrep;have h1:cs.toList[off+j]=.int .u32 d:=hrep.1.1;simp only[World.cell?,hh];rw[Array.getElem_toList]at h1;simp[h1,wg (show off+j<cs.size by simpa using hlt)]
def bm9(a:o9)(cap:Nat)(vs:k7)(hlen:vs.length<4611686018427387904)(w:World)(hI:Sl1 (fun d:Int=>Value.int .u32 d) w.heap.size w (.slice a vs.length cap) vs) :
  CallsIn Fence.wide 1001 prog 249 #[.agg #[.slice a vs.length cap]] w fun e W'=>e=.returned (.int .u64 (wv (bk vs vs.length)))/\Below w.heap.size w W':=by
 refine Ae func249 rfl trivial ?_ rfl;simp only[ntmps249,ed,bm,ck,Nat.reduceAdd,Nat.reduceSub,fX,fW,fS,fU,List.nil_append,List.cons_append];generalize hL:vs.length=L at hI hlen|-
 gi_wp2_with (refine⟨trivial,?_⟩;gi_at_call 240;refine(SK _ _ _ _ _).mono ?_;rintro e w' ⟨rfl,rfl⟩)
 have bN:=Boxed.new (w.alloc (.cells #[.slice a L cap] 35)) 254 (.int .u64 0);have bS:=Boxed.new ((w.alloc (.cells #[.slice a L cap] 35)).alloc (.cells #[.int .u64 0] 254)) 33 (.slice a L cap);simp only[br]at bN bS;have hB0:Below w.heap.size w (((w.alloc (.cells #[.slice a L cap] 35)).alloc (.cells #[.int .u64 0] 254)).alloc (.cells #[.slice a L cap] 33)):=(((cz _ w).alloc (ah _) _).alloc bY _).alloc iF _;obtain⟨W0,hW0⟩:∃W0,(((w.alloc (.cells #[.slice a L cap] 35)).alloc (.cells #[.int .u64 0] 254)).alloc (.cells #[.slice a L cap] 33))=W0:=⟨_,rfl⟩
 have hs0:W0.heap.size=w.heap.size+3:=by rw[<-hW0];simp
 have bN':=bN.alloc (.cells #[.slice a L cap] 33);rw[hW0]at hB0 bS bN' |-
 refine wpIn_rangeFunc_ownF (w0:=W0) rfl O (gf:=274) (lb:=#[.pointer (some ⟨w.heap.size+1+1,0,none⟩)]) rfl trivial (AN func274 aT rfl)
  (Di (enc:=fun d:Int=>Value.int .u32 d) (w.heap.size+1+1) w.heap.size (.slice a L cap) vs O W0 O O bS.cell (hI.below hB0)) aa6 (ad4 O O) (cz _ _) (fun _=>rfl)
  (fun pre W=>(W.cell? ⟨w.heap.size+1,0,none⟩=some (.int .u64 (wv pre))/\W.frozen? ⟨w.heap.size+1,0,none⟩=false)/\Below w.heap.size w W)
  (fun _ _ _=>False)
  (OwnFrom.and (Own.from (fun s A B row hs hg hr=>⟨cell_kept hs.1 hg hr,(frozen_kept hs.1 hg hr).trans hs.2⟩) _) (ownFrom_below (ah _) O))
  (fun _=>by intro s A B row hs;exact hs.elim)
  ⟨⟨bN'.cell,bN'.frozen⟩,hB0⟩
  (fun x=>{ tmps:=#[.agg #[.slice a L cap],.pointer (some ⟨w.heap.size,0,none⟩),.int .u64 0,.pointer (some ⟨w.heap.size+1,0,none⟩),undef,.int .u32 x.2,.pointer (some ⟨w.heap.size,0,none⟩),.slice a L cap,.func (.func 274) #[] #[.pointer (some ⟨w.heap.size+1+1,0,none⟩)],.int .i64 (x.1:Int),.int .u32 x.2,undef,undef,undef,undef,undef,undef],defers:=[] }) ?assign ?body ?done ?stop
 case assign=>
  intro l x W K hK
  gi_wp2
  exact hK
 case body=>
  rintro l pre x W ⟨⟨hcr,hfr⟩,hB⟩ _
  gi_wp2
  refine⟨KeepsOthers.setCell _ _ _,⟨(cz w.heap.size W).setCell (p:=⟨w.heap.size+1,0,none⟩) bY _,fun v hv=>?_⟩,⟨?_,by rw[World.frozen?_setCell];exact hfr⟩,hB.setCell (p:=⟨w.heap.size+1,0,none⟩) bY _⟩
  .refine Eq.trans (World.cell?_setCell_other _ _ _ _ ?_) hv;simp
  .rw[bj5];exact World.cell?_setCell_same' _ _ _ (by rw[hcr];rfl)
 case done=>
  rintro D ys W hD rfl ⟨⟨hcr,hfr⟩,hB⟩ hK
  gi_wp2
  refine⟨bY,.inl ⟨_,_,rfl,AA hK,?_⟩⟩;exact⟨_,Gk rfl _ _ _,rfl,hB.trans (xU (w:=w) (ah _) W D _ _ O hK rfl rfl)⟩
 case stop=>
  rintro D c pre W hD _ h hK;exact h.elim
def aV7(n:Nat)(hn:n<1000000000000000000):aK prog 249 [mT n] (.ret [.one (.int .u64 n)]):=by
 refine⟨bM aT,fun M w vs hM hv=>?_⟩
 match vs,hv with
 | [v],hv=>
   obtain⟨⟨us,rfl,hus⟩,_⟩:=hv
   match us,hus with
   | [u],hus=>
     have hsl:=bz9 hus.1;obtain⟨a,cap,rfl,hel⟩:=hsl;have hl:((dg n).map (fun d:Nat=>(d:Int))).length=(dg n).length:=aX _
     have hlen:(dg n).length<4611686018427387904:=by
      have h2:(dg n).length<=2:=HT (by rw[show(1000000000:Nat)^2=1000000000000000000 by decide];exact hn);omega
     have h1:=bm9 a cap ((dg n).map (fun d:Nat=>(d:Int))) (by rw[hl];exact hlen) w ⟨a,cap,rfl,hel⟩;rw[hl,aK2 hn]at h1;have h2:Calls prog 249 #[.agg #[.slice a (dg n).length cap]] w _:=(lO (n:=1001)).1 h1;rw[hl];show Calls prog 249 #[.agg #[.slice a (dg n).length cap]] w _;refine h2.mono ?_;rintro e w' ⟨rfl,hb⟩;exact⟨hb,[.int .u64 n],rfl,⟨rfl,rfl⟩,trivial⟩
   | [],hus=>exact hus.elim
   | _::_::_,hus=>exact hus.2.elim
 | [],hv=>exact hv.elim
 | _::_::_,hv=>exact hv.2.elim
end Go.Sy
namespace Go.Sy
open Go Go.Proofs Tryz Ord
def cf2:Tr:=Ih 249 2 22 254 (Im 249 3 0 24 254 (.loop 1 [lV 11 0,lV 12 0] (.need (.prim [W 14 0,.one (.c (.k (.int .u64 0)))] none) (.binOp .neq 254 (tT 26) (.const (.int .u64 0)) 254) 4 false (aJ 15 0 (yH .rem 254 29 30 13 0 14 0 254 (kA 1 14 16)) (oh 195 13 1 32 254 35 (sV 16))))))
def cm4:Tr:=ju 7 0 2 3 14 (aJ 8 0 (bD 3 0 18 33 (ju 9 0 2 3 19 (aJ 10 0 cf2 (OU 2 3 35 36 (vM 0 3 12 4))))) (OU 2 3 35 36 (vM 0 3 10 4)))
def aT7:Tr:=sV 2
def cu0:Tr:=.loop 0 [lV 0 0,lV 1 0,lN] (Im 179 3 0 9 4 (kq 5 0 10 (aJ 6 0 (bD 2 0 13 33 cm4) aT7)))
def aF9:aO prog f191 cT [.v (some 1),.v (some 1)]=cu0:=aT
def cw9:Tr:=aJ 8 0 (oF 118 5 0 4 14 15 (ia 3 0 1 3 17 (aJ 10 0 (oF 118 4 0 4 19 20 (FX .quo 3 9 2 3 0 3 (vM 0 12 11 9))) (FX .quo 3 9 2 3 0 3 (vM 0 11 4 9))))) (ia 3 0 1 3 17 (aJ 9 0 (oF 118 4 0 4 19 20 (FX .quo 3 9 2 3 0 3 (vM 0 11 10 5))) (FX .quo 3 9 2 3 0 3 (vM 0 10 4 5))))
def cp7:Tr:=Xs (.loop 0 [lV 1 0,lV 0 0,lV 2 0] (ia 3 0 0 3 7 (aJ 6 0 (FX .rem 3 11 2 3 0 3 (gd 7 0 1 3 12 cw9)) (sV 5))))
def ba3:aO prog f282 cT [.v (some 1),.v none]=cp7:=aT
def ag9:Tr:=oD 4 0 4 1
def cD7:Tr:=yH .neq 4 6 8 0 1 1 1 4 (oF 118 0 0 1 11 13 (Il 2 0 3 9 14 ag9))
def bS0:aO prog f116 cT [.v (some 2),.v (some 2)]=cD7:=aT
def WY:Tr:=oD 6 0 6 1
def cw2:Tr:=yH .eql 4 7 9 0 1 1 1 4 (aJ 2 0 (oF 196 0 0 1 14 16 (Il 0 1 3 12 17 ag9)) (eO 119 [G1 0,G1 1] [none] [21,23] [35,35] 3 true (kp 3 0 0 3 24 (aJ 4 0 (oF 194 1 0 0 29 31 (Il 1 1 5 27 32 WY)) (oF 194 0 0 1 37 39 (Il 0 1 5 35 40 WY))))))
def bO2:aO prog f154 cT [.v (some 2),.v (some 2)]=cw2:=aT
def cq6:Tr:=Ih 179 3 17 4 (kq 4 0 18 (aJ 5 0 (Xs (oF 196 2 0 6 21 22 (Il 0 1 7 25 26 (oD 8 0 8 1)))) (Il 0 1 2 25 26 WY)))
def cu3:Tr:=OU 0 1 9 10 (aJ 0 1 cq6 (Il 0 1 2 25 26 ag9))
def aL9:aO prog f294 cT [.v (some 2),.v (some 1)]=cu3:=aT
def ck2:Tr:=kp 0 0 0 2 3 (aJ 1 0 (ig 0 2 254 5 (Xg 2 254 6 (oh 195 3 1 7 254 35 (.need (.call 155 [tF true,G1 4] [some 2]) (D5 155 #[.const (.bool true),tT 8] #[4,35]) 37 true (oD 5 0 5 1))))) (ig 0 2 254 10 (oh 195 2 1 11 254 35 (.need (.call 155 [tF false,G1 3] [some 2]) (D5 155 #[.const (.bool false),tT 12] #[4,35]) 37 true ag9))))
def bc4:aO prog f158 cT [.v none]=ck2:=aT
def jC{n B:Nat}(h:n<2^B):(dg n).length<=B:=
 HT (bt h (gN O B))
def Zr{n:Nat}(h:(dg n).length<=2:=by omega):n<1000000000000000000:=by
 have h1:=Px n;have h2:1000000000^(dg n).length<=1000000000^2:=cB O h;rw[show(1000000000:Nat)^2=1000000000000000000 by decide]at h2;omega
def bN3(n:Nat):aK prog 192 [(mT n:aF)] (.ret [.one (.bool (decide (n=1)))]):=by
 refine dB func192 bK4 ?_;apply vn (aZ ec (aX _));refine uS bA ?_ ?_<;>intro h2
 .obtain⟨d,hd⟩:∃d,dg n=[d]:=by
   match h:dg n with
   | [d]=>exact⟨d,rfl⟩
   | []=>rw[h]at h2;simp at h2
   | _::_::_=>rw[h]at h2;simp at h2;omega
  have hv:=km n;rw[hd]at hv;apply vn (aY ec (show(dg n)[0]?=some d by rw[hd];rfl)) rfl;apply vn (bI Bl);apply vn bA;dsimp only[aP,aQ];refine aN ?_;have hv:d=n:=by simpa[lv,val]using hv
  subst hv;show[aF.one (.bool (decide ((d:Int)=1)))]=_;have e:((d:Int)=1)↔d=1:=O
  simp only[e]
 refine aN ?_
 have:¬n=1:=fun e=>by
  subst e;rw[sj]at h2;exact h2 rfl
 simp[this];rfl
def aA9(a b:Nat)(hs:(dg (max a b)).length<137438953472):aK prog 191 [(mT a:aF),(mT b:aF)] (.ret [mT (Nat.gcd a b)]):=by
 refine dB func191 aF9 ?_;refine bC {p:Nat×Nat // Nat.gcd p.1 p.2=Nat.gcd a b/\p.1<=max a b/\p.2<=max a b} (fun p=>[.one (dT p.1.1),.one (dT p.1.2),.one (.exact (.slice none 0 0))]) (fun p=>p.1.2) ⟨(a,b),rfl,O,O⟩ aR.rfl (fun _=>rfl) ?_;rintro⟨⟨x,y⟩,hg,hx,hy⟩;dsimp only[aP,aQ]at hg hx hy|-;have hxl:=pK hx;have hyl:=pK hy;apply aA (BG y);refine uS Oo ?_ ?_<;>intro h3
 .have hy0:0<y:=O
  apply vn (aZ ec (aX _));refine uS iQ ?_ ?_<;>intro h6
  .apply vn (aZ ec (aX _));refine uS iQ ?_ ?_<;>intro h9
   .apply aA (aV7 x (Zr));apply aA (aV7 y (Zr));dsimp only[aP,aQ];have hx18:=Zr (n:=x);have hy18:=Zr (n:=y);clear hxl hyl;refine bC {p:Nat×Nat // Nat.gcd p.1 p.2=Nat.gcd a b/\p.1<1000000000000000000/\p.2<1000000000000000000} (fun p=>[.one (.int .u64 p.1.1),.one (.int .u64 p.1.2)]) (fun p=>p.1.2) ⟨(x,y),hg,hx18,hy18⟩ aR.rfl (fun _=>rfl) ?_;rintro⟨⟨p,q⟩,hpq,hp,hq⟩;dsimp only[aP,aQ]at hpq hp hq|-;refine uS jA ?_ ?_<;>intro h14
    .apply vn (IM (c:=((p%q:Nat):Int)) O (by rw[uP (sG _),<-PU]));exact aa rfl ⟨⟨(q,p%q),by rw[<-hpq,lR p q,xF q p,lR],hq,cV (xX _ _) hp⟩,aR.rfl,eK _ O⟩
    have hq0:q=0:=O
    subst hq0;rw[FW]at hpq;apply aA (lP p);dsimp only[aP,aQ];rw[hpq];exact aN
   apply aA (JC x y hy0);exact aa rfl ⟨⟨(y,x%y),by rw[<-hg,lR x y,xF y x,lR],hy,an (xX _ _) hx⟩,aR.rfl,eK _ hy0⟩
  apply aA (JC x y hy0);exact aa rfl ⟨⟨(y,x%y),by rw[<-hg,lR x y,xF y x,lR],hy,an (xX _ _) hx⟩,aR.rfl,eK _ hy0⟩
 have hy0:y=0:=O
 subst hy0;rw[FW]at hg;rw[hg];exact aN
def UQ{a B n:Nat}(h:a<2^B)(hB:1<=B):a^n<2^(B*n+1):=by
 rw[bF,kX];have h1:a^n<=(2^B)^n:=gN (na h) n;have h2:0<(2^B)^n:=aw (aw O);omega
structure Pn(a n:Nat)(k x y:Nat):Prop where
 eq:y*x^k=a^n
 z:a=0->x=0
 x1:k≠0->x<=max 1 (a^n)
 y1:y<=max 1 (a^n)
def Pn.mk'{a n k x y:Nat}(hn:n≠0)(eq:y*x^k=a^n)(z:a=0->x=0)(hy:x=0->y<=1):Pn a n k x y:=by
 have hk:∀t,0<t->t<=x->0<x^k:=fun t h1 h2=>aw O;refine⟨eq,z,fun h0=>?_,?_⟩
 .rcases iI x with hx | hx
  .omega
  .rcases iI y with hy0 | hy0
   .rw[hy0,nV]at eq;have:=z (Nat.eq_zero_of_not_pos fun ha=>by have:=aw (n:=n) ha;omega);omega
   .have h1:x<=x^k:=Nat.le_self_pow h0 x;have h2:x^k<=y*x^k:=jh _ hy0;omega
 .rcases iI x with hx | hx
  .have:=hy hx;omega
  .have h2:y<=y*x^k:=dn _ (aw hx);omega
def aa8(a n:Nat)(B:Nat)(hB:1<=B:=by omega)(ha:a<2^B:=by omega)(hn:n<1099511627776:=by omega)(hs:B*n<137438953472:=by omega):aK prog 282 [(mT a:aF),(.one (.int .i64 n):aF)] (.ret [mT (a^n)]):=by
 refine dB func282 ba3 ?_
 have hbd:∀j,j<=max 1 (a^n)->(dg j).length<=B*n+1:=fun j hj=>jC (by
  have h1:=UQ (n:=n) ha hB;have h2:2^1<=2^(B*n+1):=cB O O;omega)
 apply aA (lP 1);dsimp only[aP,aQ];refine bC {p:Nat×Nat×Nat // Pn a n p.1 p.2.1 p.2.2/\(p.1≠0->n≠0)/\(p.2.1=0->p.2.2<=1)/\p.1<=n} (fun p=>[.one (.int .i64 p.1.1),.one (dT p.1.2.1),.one (dT p.1.2.2)]) (fun p=>p.1.1) ⟨(n,a,1),⟨bY,fun h=>h,fun h=>by have:=Nat.le_self_pow h a;show a<=max 1 (a^n);exact an this (Rw _ _),Nat.le_max_left _ _⟩,fun h=>h,fun _=>ah _,ah _⟩ aR.rfl (fun _=>rfl) ?_;rintro⟨⟨k,x,y⟩,hI,hn0,hy1,hkn⟩;dsimp only[aP,aQ]at hI hn0 hy1 hkn|-;have hyl:=hbd y hI.y1;refine uS fL ?_ ?_<;>intro h3
 .have hk0:k≠0:=O
  have hnn:=hn0 hk0;have hxl:=hbd x (hI.x1 hk0)
  have hev:k%2=0->y*(x*x)^(k/2)=a^n:=fun h=>by
   rw[<-hI.eq,<-Nat.pow_two,<-kX];congr 2;omega
  have hod:k%2=1->y*x*(x*x)^(k/2)=a^n:=fun h=>by
   rw[<-hI.eq,<-Nat.pow_two,<-kX,dC,<-Nat.pow_succ'];congr 2;omega
  have hz2:a=0->x*x=0:=fun h=>by rw[hI.z h]
  have hx2:x*x=0->x=0:=fun h=>by rcases Nat.mul_eq_zero.1 h with h | h<;>exact h
  have hyx2:x=0->y*x<=1:=fun h=>by rw[h];omega
  apply vn gR;refine uS bA ?_ ?_<;>intro h6
  .apply aA (mQ y x);refine uS fL ?_ ?_<;>intro h9
   .apply aA (mQ x x);apply vn kW;dsimp only[aP,aQ];exact aa rfl ⟨⟨(k/2,x*x,y*x),Pn.mk' hnn (hod O) hz2 (hyx2 ∘ hx2),fun _=>hnn,hyx2 ∘ hx2,by show k/2<=n;omega⟩,aR.rfl,by show k/2<k;omega⟩
   apply vn kW;dsimp only[aP,aQ];have hk1:k=1:=O
   subst hk1;exact aa rfl ⟨⟨(1/2,x,y*x),Pn.mk' hnn (by have:=hI.eq;rw[zZ]at this;simpa using this) hI.z hyx2,fun _=>hnn,hyx2,by show 1/2<=n;omega⟩,aR.rfl,by show 1/2<1;omega⟩
  refine uS fL ?_ ?_<;>intro h16
  .apply aA (mQ x x);apply vn kW;dsimp only[aP,aQ];exact aa rfl ⟨⟨(k/2,x*x,y),Pn.mk' hnn (hev O) hz2 (fun h=>hy1 (hx2 h)),fun _=>hnn,fun h=>hy1 (hx2 h),by show k/2<=n;omega⟩,aR.rfl,by show k/2<k;omega⟩
  exfalso;omega
 have hk0:k=0:=O
 subst hk0;have:=hI.eq;rw[jt,dc]at this;rw[this];exact aN
def cm6:Tr:=aJ 4 0 (OU 0 2 15 16 (OU 1 2 22 23 (RS 0 1 5 28 30 (Yf 1 (oF 194 7 0 10 32 33 (iz 9 9 1 11 0)))))) (RS 0 1 0 28 30 (Yf 1 (oF 194 1 0 6 32 33 (iz 5 5 1 7 0))))
def cl2:Tr:=oF 191 0 0 1 7 8 (Im 192 2 0 10 4 (kq 3 0 11 cm6))
def bj3:aO prog f115 cT [.v (some 2),.v (some 1)]=cl2:=aT
def cr2:Tr:=Xs (oF 196 0 2 1 4 5 aT7)
def ar7:aO prog f117 cT [.v (some 3)]=cr2:=aT
def cv5:Tr:=.ret [.agg [U 0 0,U 0 1,tN]]
def bv7:aO prog f157 cT [.v (some 2)]=cv5:=aT
def ci4:Tr:=oh 158 0 2 3 2 37 (eO 157 [G2 1] [some 3] [4] [37] 39 true (iz 2 2 1 2 2))
def ct1:aO prog f68 cT [.v none]=ci4:=aT
def cB5:Tr:=.need (.prim [W 0 0,W 1 0] none) (.call ⟨.builtin .min,#[tT 5,tT 6],#[3,3]⟩) 3 false (.need (.prim [WK 0,W 2 0] none) (.call ⟨.builtin .max,#[.const (I3 0),tT 7],#[3,3]⟩) 3 false (cC 3))
def aC7:aO prog f283 cT [.v none,.v none]=cB5:=aT
def ci0:Tr:=eO 114 [G2 0] [none] [4] [37] 3 true (cC 1)
def bs6:aO prog f35 cT [.v (some 3)]=ci0:=aT
def cB0:Tr:=kq 0 1 5 (RS 1 0 0 6 9 (iz 2 2 1 0 2))
def bZ1:aO prog f65 cT [.v (some 3)]=cB0:=aT
def cA0:Tr:=.need (.call 155 [tF false,G1 0] [some 2]) (D5 155 #[.const (.bool false),tT 5] #[4,35]) 37 false (iz 1 1 1 0 2)
def bU8:aO prog f146 cT [.v (some 3)]=cA0:=aT
def cD2:Tr:=Pk 117 1 0 1 2 1 9 35 (eO 116 [G2 0,.agg [U 3 0,tE (.bool false)]] [some 2] [12,14] [37,37] 37 false (eO 116 [G2 1,.agg [U 2 0,tE (.bool false)]] [some 2] [17,19] [37,37] 37 false (zP 154 4 5 15 20 37 (oF 118 2 0 3 22 23 (TP 115 6 7 3 21 24 39 (iz 8 8 1 8 2))))))
def cs3:Tr:=mv 117 0 1 7 35 cD2
def bM3:aO prog f64 cT [.v (some 3),.v (some 3)]=cs3:=aT
def cn7:Tr:=Pk 65 1 0 1 2 3 6 39 (lZ 64 0 0 0 1 0 2 2 0 2 1 2 2 5 7 (iz 3 3 1 3 2))
def cf1:aO prog f167 cT [.v (some 3),.v (some 3)]=cn7:=aT
def cC8:Tr:=zP 116 0 1 6 8 37 (mv 117 0 1 10 35 (mv 117 1 1 12 35 (oF 118 3 0 4 11 13 (TP 115 2 5 3 9 14 39 (iz 6 6 1 6 2)))))
def bW6:aO prog f36 cT [.v (some 3),.v (some 3)]=cC8:=aT
def ck9:Tr:=mv 117 1 1 10 35 (RS 1 1 2 9 11 (zP 116 0 3 6 12 37 (mv 117 0 1 14 35 (oF 118 5 0 1 15 18 (TP 115 4 6 3 13 19 39 (iz 7 7 1 7 2))))))
def bn7:aO prog f255 cT [.v (some 3),.v (some 3)]=ck9:=aT
def ci1:Tr:=vD 35 1 0 1 2 6 39 3 (gd 2 0 0 3 7 (aJ 3 0 (.ret [.agg [tN,tE (.bool false),tN],WK 9]) (lZ 255 0 0 0 1 0 2 1 0 1 1 1 2 10 11 (.ret [G3 4,WK 0]))))
def bX8:aO prog f200 cT [.v (some 3),.v (some 3)]=ci1:=aT
def cw4:Tr:=yF 68 0 3 6 2 39 (yF 68 1 3 8 2 39 (eO 200 [G3 2,G3 3] [some 3,none] [7,9] [39,39] 90 true (.ret [G3 4,W 5 0])))
def cI2:aO prog f120 cT [.v none,.v none]=cw4:=aT
def bU1:Tr:=mv 117 1 1 31 35 (eO 118 [G1 0,G1 7] [some 1] [30,32] [35,35] 35 false (mv 117 0 1 37 35 (eO 118 [G1 1,G1 9] [some 1] [36,38] [35,35] 35 false (eO 119 [G1 8,G1 10] [none] [33,39] [35,35] 3 true (yH .mul 3 27 40 6 0 11 0 3 (cC 12))))))
def cr1:Tr:=gd 2 0 0 3 15 (aJ 5 0 (ez 2 0 3 0 3 18 19 (ez 2 0 3 0 3 21 22 (FX .quo 3 23 2 7 0 3 (ez 6 0 8 0 3 20 24 (cC 9))))) (tk 35 0 0 1 2 26 39 3 bU1))
def cr7:Tr:=yH .neq 3 11 12 2 0 3 0 4 (aJ 4 0 (ez 2 0 3 0 3 18 19 (ez 2 0 3 0 3 21 22 (FX .quo 3 23 2 6 0 3 (ez 5 0 7 0 3 20 24 (cC 8))))) cr1)
def ck6:Tr:=tk 35 0 0 1 2 7 39 3 (vD 35 1 0 1 2 9 39 3 cr7)
def bZ2:aO prog f38 cT [.v (some 3),.v (some 3)]=ck6:=aT
def Re(x y:Int)(hs:(dg x.natAbs).length+(dg y.natAbs).length<1099511627776:=by omega):aK prog 116 [(iT x:aF),(iT y:aF)] (.ret [iT (x*y)]):=by
 refine dB func116 bS0 ?_;apply vn (bM1 un4);apply aA (mQ _ _ hs)
 apply aA (gw _ _ (x*y) (by
  rw[<-dx];have hsg:(x*y).natAbs=x.natAbs*y.natAbs:=dx _ _;by_cases h1:x<0<;>by_cases h2:y<0<;>simp only[h1,h2,sH,oz,ne_eq,not_true_eq_false,not_false_eq_true,Bool.true_eq_false,eF,bZ,bu]
  .have:=Int.mul_pos_of_neg_of_neg h1 h2;omega
  .have:=Int.mul_nonpos_of_nonpos_of_nonneg (Int.le_of_lt h1) (xH.1 h2);omega
  .have:=Int.mul_nonpos_of_nonneg_of_nonpos (xH.1 h1) (Int.le_of_lt h2);omega
  .have:=tw (xH.1 h1) (xH.1 h2);omega)) rfl
 exact aN
def bP5(x y:Int)(hs:(dg x.natAbs).length+(dg y.natAbs).length<1099511627776):aK prog 154 [(iT x:aF),(iT y:aF)] (.ret [iT (x+y)]):=by
 refine dB func154 bO2 ?_;apply vn (bP7 un4);refine p8 ?_ ?_<;>intro h1
 .have h1:x<0↔y<0:=by simpa using h1
  apply aA (XX _ _ hs);apply aA (gw _ _ (x+y) (by by_cases h2:x<0<;>simp only[h2,sH,oz,eF,bZ,bu]<;>omega)) rfl;exact aN
 have h1:¬(x<0↔y<0):=by simpa using h1
 apply aA (wm _ _ hs);apply vn az;dsimp only[aP,aQ];rw[show decide (gS (x.natAbs:Int) (y.natAbs:Int)<0)=decide (x.natAbs<y.natAbs) by rw[kV,vY];omega];refine p8 ?_ ?_<;>intro h7
 .apply aA (Rh _ _);apply aA (gw _ _ (x+y) (by by_cases h2:y<0<;>simp only[h2,sH,oz,eF,bZ,bu]<;>omega)) rfl;exact aN
 apply aA (Rh _ _);apply aA (gw _ _ (x+y) (by by_cases h2:x<0<;>simp only[h2,sH,oz,eF,bZ,bu]<;>omega)) rfl;exact aN
def Km(x:Int)(d:Nat)(hd:0<d):x/(d:Int)=if x<0 then(if x.natAbs%d=0 then -((x.natAbs/d:Nat):Int)else -((x.natAbs/d+1:Nat):Int))else((x.natAbs/d:Nat):Int):=by
 by_cases h:x<0
 .rw[aI h];have hx:x=-(x.natAbs:Int):=O
  generalize x.natAbs=n at hx;subst hx;have h1:=Fk n d;split
  .rename_i h0;have:(n:Int)=(d:Int)*((n/d:Nat):Int):=by rw[<-iK];omega
   conv=>lhs;rw[this]
   rw[<-Int.mul_neg,QP _ O]
  .rename_i h0;have h2:=eK n hd;rw[Int.ediv_eq_iff_of_pos O];have e1:((n:Nat):Int)=(d:Int)*((n/d:Nat):Int)+((n%d:Nat):Int):=by rw[<-iK];omega
   generalize n/d=q at *;generalize n%d=r at *
   constructor
   .rw[e1];simp only[EZ,QF,Int.neg_add,Fp,uV,Int.natCast_one,Fw];rw[xZ (q:Int)];omega
   .rw[e1];simp only[EZ,QF,Int.neg_add,Fp,uV,Int.natCast_one,Fw];rw[xZ (q:Int)];omega
 .rw[aD h,Bi]
  congr 1;omega
def aI3(x:Int)(d:Nat)(hd:0<d)(hs:(dg x.natAbs).length+(dg d).length<274877906944:=by omega):aK prog 294 [(iT x:aF),(mT d:aF)] (.ret [iT (x/(d:Int))]):=by
 refine dB func294 aL9 ?_;have hle:=pK (oA x.natAbs d);apply aA (JC _ _ hd);refine p8 ?_ ?_<;>intro h1
 .apply aA (BG _);refine uS Oo ?_ ?_<;>intro h4
  .apply aA (lP 1);apply aA (XX _ _ (by rw[sj (n:=1)];simp;omega)) rfl;apply aA (gw _ _ (x/(d:Int)) (by rw[Km x d hd,aI h1,aD h4,gJ h1,aI rfl]));exact aN
  apply aA (gw _ _ (x/(d:Int)) (by rw[Km x d hd,aI h1,aI (by simpa using h4),gJ h1,aI rfl]));exact aN
 apply aA (gw _ _ (x/(d:Int)) (by rw[Km x d hd,aD h1,ej h1,aD bY]));exact aN
def Qb(n:Int)(h1:-9223372036854775808<=n:=by omega)(h2:n<9223372036854775808:=by omega):aK prog 158 [(.one (.int .i64 n):aF)] (.ret [iT n]):=by
 refine dB func158 bc4 ?_;refine uS az ?_ ?_<;>intro h1
 .apply vn (lj ⟨_,un2⟩ lB (c:=n+18446744073709551616) (by rw[uQ];omega)) rfl;apply vn (bw9 (c:=((n.natAbs:Nat):Int)) (by rw[uQ];omega)) rfl;apply aA (lP _);apply aA (gw true _ n (by rw[aI rfl];omega)) rfl;exact aN
 apply vn (lj ⟨_,un2⟩ lB (c:=((n.natAbs:Nat):Int)) (by rw[uQ];omega)) rfl;apply aA (lP _);apply aA (gw false _ n (by rw[aD bY];omega)) rfl;exact aN
abbrev qC(q:Rat):List aE:=[dT q.num.natAbs,.bool (decide (q.num<0)),dT (q.den-1)]
abbrev qT(q:Rat):aF:=.agg (qC q)
def fg:au aE.Sub [.exact (.slice none 0 0),.bool false,.exact (.slice none 0 0)] (qC 0):=⟨mX rfl,aE.Sub.same,mX rfl,trivial⟩
def aI4{z:Int}{d:Nat}(hd:d≠0:=by omega):(mkRat z d).num=(if decide (z<0)=true then -((z.natAbs/z.natAbs.gcd d:Nat):Int)else((z.natAbs/z.natAbs.gcd d:Nat):Int))/\(mkRat z d).den=d/z.natAbs.gcd d:=by
 rw[<-Fv hd,Gi hd];refine⟨?_,rfl⟩;show z/_=_;have hg:0<z.natAbs.gcd d:=An _ O;have hdv:(((z.natAbs.gcd d:Nat)):Int)∣z:=Sr.2 (RY _ _);have h1:=Int.natAbs_ediv_of_dvd hdv;rw[cH]at h1;by_cases h:z<0
 .rw[gJ h,aI rfl,<-h1];have:=Int.ediv_neg_of_neg_of_pos h (b:=((z.natAbs.gcd d:Nat):Int)) O;omega
 .rw[ej h,aD bY,<-h1];have:=QZ (xH.1 h) (b:=((z.natAbs.gcd d:Nat):Int)) O;omega
def AY(z:Int)(d:Nat)(hd:0<d)(hs:(dg z.natAbs).length+(dg d).length<137438953472:=by omega):aK prog 115 [(iT z:aF),(mT d:aF)] (.ret [qT (mkRat z d)]):=by
 refine dB func115 bj3 ?_;have hg:0<z.natAbs.gcd d:=An _ hd;have hgd:z.natAbs.gcd d<=d:=Nat.gcd_le_right _ hd;have hgl:=pK hgd;obtain⟨hm1,hm2⟩:=aI4 (z:=z) (d:=d);have hq:0<d/z.natAbs.gcd d:=sF hgd hg;have hql:=pK (oA d (z.natAbs.gcd d));have hone:(dg 1).length=1:=by rw[sj];rfl
 generalize hG:z.natAbs.gcd d=g at *
 apply aA (aA9 _ _ (by
  rcases FL z.natAbs d with h | h
  .rw[Nat.max_eq_right h];omega
  .rw[Nat.max_eq_left h];omega)) rfl
 rw[hG];apply aA (bN3 _);refine uS Oo ?_ ?_<;>intro h3
 .apply aA (JC _ _ hg);apply aA (JC _ _ hg);apply aA (gw _ _ (mkRat z d).num hm1);apply aA (lP 1);apply aA (Rh _ _ hq hq);rw[<-hm2];exact aN
 have hg1:g=1:=by simpa using h3
 subst hg1;rw[rO]at hm1 hm2;apply aA (gw _ _ (mkRat z d).num hm1);dsimp only[aP,aQ];apply aA (lP 1);apply aA (Rh _ _ hd hd);dsimp only[aP,aQ];refine aN ?_;show[aF.agg [dT _,.bool _,dT (d-1)]]=[aF.agg [_,_,dT ((mkRat z d).den-1)]];rw[hm2]
def iw(q:Rat)(h:(dg q.den).length<1099511627775:=by omega):aK prog 117 [(qT q:aF)] (.ret [mT q.den]):=by
 refine dB func117 ar7 ?_;have hp:=q.den_pos;have hl:=pK (Nat.sub_le q.den 1);have hone:(dg 1).length=1:=by rw[sj];rfl
 apply aA (lP 1);apply aA (XX _ _);rw[show q.den-1+1=q.den by omega];exact aN
def Rz(z:Int):aK prog 157 [(iT z:aF)] (.ret [qT (z:Rat)]):=by
 refine dB func157 bv7 ?_;exact eD ⟨⟨aE.Sub.same,aE.Sub.same,mX rfl,trivial⟩,trivial⟩
def ph(n:Int)(h1:-9223372036854775808<=n:=by omega)(h2:n<9223372036854775808:=by omega):aK prog 68 [(.one (.int .i64 n):aF)] (.ret [qT (n:Rat)]):=by
 refine dB func68 ct1 ?_;apply aA (Qb _ h1 h2);apply aA (Rz _);exact aN
def TM(n m:Int):aK prog 283 [(.one (.int .i64 n):aF),(.one (.int .i64 m):aF)] (.ret [.one (.int .i64 (max 0 (min n m)))]):=by
 refine dB func283 aC7 ?_;apply vn aP6;apply vn aU3;exact aN
def gQ(q:Rat):aK prog 35 [(qT q:aF)] (.ret [.one (.int .i64 q.num.sign)]):=by
 refine dB func35 bs6 ?_;apply aA (bq1 _);exact aN
def Fit.dl{B:Nat}{q:Rat}(h:Fit B q):(dg q.num.natAbs).length<=B/\(dg q.den).length<=B:=⟨jC h.1,jC h.2⟩
def Jm(q:Rat):aK prog 65 [(qT q:aF)] (.ret [qT (-q)]):=by
 refine dB func65 bZ1 ?_;apply vn Oo
 apply aA (gw _ _ (-q).num (by
  rw[Gq];by_cases h:q.num<0<;>simp only[h,not_true_eq_false,not_false_eq_true,sH,oz,eF,bZ,bu]<;>omega)) rfl
 dsimp only[aP,aQ];refine aN ?_;show[qT _]=_;simp only[qT,qC,Ft]
def ov(q:Rat):q.abs.num=(q.num.natAbs:Int)/\q.abs.den=q.den:=by
 unfold Rat.abs;have h:=QJ (q:=q);split
 .rename_i h0;have:=h.2 h0;exact⟨O,rfl⟩
 .rename_i h0;have:¬0<=q.num:=fun e=>h0 (h.1 e);exact⟨by rw[Gq];omega,Ft _⟩
def BN(q:Rat):aK prog 146 [(qT q:aF)] (.ret [qT q.abs]):=by
 refine dB func146 bU8 ?_;apply aA (gw false _ (q.abs).num (by rw[aD bY];exact(ov q).1)) rfl;dsimp only[aP,aQ];refine aN ?_;show[aF.agg [dT q.abs.num.natAbs,.bool (decide (q.abs.num<0)),dT (q.den-1)]]=[qT q.abs];simp only[qT,qC,(ov q).2]
def cr(a b:Rat)(A B:Nat)(ha:Fit A a)(hb:Fit B b)(h:A+B<=34359738368:=by omega):aK prog 36 [(qT a:aF),(qT b:aF)] (.ret [qT (a*b)]):=by
 refine dB func36 bW6 ?_;obtain⟨ha1,ha2⟩:=Fit.dl ha;obtain⟨hb1,hb2⟩:=Fit.dl hb;have hn:=jC (bR ha.1 hb.1);have hd:=jC (bR ha.2 hb.2);apply aA (Re _ _);apply aA (iw a);apply aA (iw b);apply aA (mQ _ _);apply aA (AY _ _ (dN a.den_pos b.den_pos) (by rw[dx];omega)) rfl;rw[<-FY];exact aN
def lU(a b:Rat)(A B:Nat)(ha:Fit A a)(hb:Fit B b)(h:A+B<=34359738368:=by omega):aK prog 64 [(qT a:aF),(qT b:aF)] (.ret [qT (a+b)]):=by
 refine dB func64 bM3 ?_;obtain⟨ha1,ha2⟩:=Fit.dl ha;obtain⟨hb1,hb2⟩:=Fit.dl hb;have hn1:=jC (bR ha.1 hb.2);have hn2:=jC (bR hb.1 ha.2);have hd:=jC (bR ha.2 hb.2)
 have hsum:(dg (a.num*(b.den:Int)+b.num*(a.den:Int)).natAbs).length<=A+B+1:=by
  apply jC;have h1:=bR ha.1 hb.2;have h2:=bR hb.1 ha.2;rw[iB B A]at h2;rw[bF];refine cV (FG _ _) ?_;rw[dx,dx,cH,cH];omega
 apply aA (iw a);apply aA (iw b);apply aA (Re a.num (b.den:Int) (by rw[cH];omega)) rfl;apply aA (Re b.num (a.den:Int) (by rw[cH];omega)) rfl;apply aA (bP5 _ _ (by rw[dx,dx,cH,cH];omega)) rfl;apply aA (mQ _ _);apply aA (AY _ _ (dN a.den_pos b.den_pos));rw[<-RM];exact aN
def Rp(a b:Rat)(A B:Nat)(ha:Fit A a)(hb:Fit B b)(h:A+B<=34359738368:=by omega):aK prog 167 [(qT a:aF),(qT b:aF)] (.ret [qT (a-b)]):=by
 refine dB func167 cf1 ?_;apply aA (Jm b);apply aA (lU a (-b) A B ha hb.neg h);rw[<-AJ];exact aN
def aJ5{a b:Rat}(hb:b≠0):mkRat (a.num*(if decide (b.num<0)=true then -(b.den:Int)else b.den)) (a.den*b.num.natAbs)=a/b:=by
 have hn:b.num≠0:=fun e=>hb (lM.1 e)
 have e:b⁻¹=mkRat (if decide (b.num<0)=true then -(b.den:Int)else b.den) b.num.natAbs:=by
  rw[Rat.inv_def];by_cases h:b.num<0
  .rw[gJ h,aI rfl]
   conv=>lhs;rw[show b.num=-((b.num.natAbs:Nat):Int) by omega]
   rw[Rat.divInt_neg',Rat.divInt_ofNat]
  .rw[ej h,aD bY]
   conv=>lhs;rw[show b.num=((b.num.natAbs:Nat):Int) by omega]
   rw[Rat.divInt_ofNat]
 rw[eJ,e]
 conv=>rhs;rw[<-Rat.mkRat_self a]
 rw[Sz]
def bc5(a b:Rat)(A B:Nat)(hb0:b≠0)(ha:Fit A a)(hb:Fit B b)(h:A+B<=34359738368):aK prog 255 [(qT a:aF),(qT b:aF)] (.ret [qT (a/b)]):=by
 refine dB func255 bn7 ?_;obtain⟨ha1,ha2⟩:=Fit.dl ha;obtain⟨hb1,hb2⟩:=Fit.dl hb;have hn:b.num≠0:=fun e=>hb0 (lM.1 e);have hn1:=jC (bR ha.1 hb.2);have hd:=jC (bR ha.2 hb.1);obtain⟨z,hz⟩:∃z:Int,(if decide (b.num<0)=true then -(b.den:Int)else b.den)=z:=⟨_,rfl⟩
 have hza:z.natAbs=b.den:=by rw[<-hz];split<;>simp
 apply aA (iw b);apply aA (gw _ _ z hz.symm);apply aA (Re a.num z (by rw[hza];omega)) rfl;apply aA (iw a);apply aA (mQ _ _);apply aA (AY _ _ (dN a.den_pos O) (by rw[dx,hza];omega)) rfl;rw[<-hz,aJ5 hb0];exact aN
def sign_zero{q:Rat}:q.num.sign=0↔q=0:=by rw[Bk,lM]
def aS1(a b:Rat)(A B:Nat)(ha:Fit A a)(hb:Fit B b)(h:A+B<=34359738368:=by omega):aK prog 200 [(qT a:aF),(qT b:aF)] (.ret [qT (if b=0 then 0 else a/b),.one (.int .i64 (if b=0 then 9 else 0))]):=by
 refine dB func200 bX8 ?_;apply aA (gQ b);refine uS bA ?_ ?_<;>intro h2
 .have h2:b=0:=sign_zero.1 h2;rw[aI h2,aI h2];exact eD ⟨fg,aF.Sub.same,trivial⟩
 have h2:¬b=0:=fun e=>h2 (sign_zero.2 e);rw[aD h2,aD h2];apply aA (bc5 a b A B h2 ha hb h);exact aN
def iU{n:Int}(h1:-9223372036854775808<=n:=by omega)(h2:n<9223372036854775808:=by omega):Fit 64 (n:Rat):=Fit.int O O
def bU0(n d:Int)(h1:-9223372036854775808<=n:=by omega)(h2:n<9223372036854775808:=by omega)(h3:-9223372036854775808<=d:=by omega)(h4:d<9223372036854775808:=by omega):aK prog 120 [(.one (.int .i64 n):aF),(.one (.int .i64 d):aF)] (.ret [qT (if d=0 then 0 else(n:Rat)/(d:Rat)),.one (.int .i64 (if d=0 then 9 else 0))]):=by
 refine dB func120 cI2 ?_
 have e:((d:Rat)=0)↔d=0:=by
  rw[<-lM,jB]
 have hd:=aS1 (n:Rat) (d:Rat) 64 64 (iU h1 h2) (iU h3 h4);simp only[e]at hd;apply aA (ph n h1 h2);apply aA (ph d h3 h4);apply aA hd;exact aN
def mF(a b:Rat):Int:=if a<b then -1 else if b<a then 1 else 0
def Ch(a b:Rat):mF a b=gS (a.num*b.den) (b.num*a.den):=by
 unfold mF gS;simp only[Rat.lt_iff]
def dG(z:Int):(z<0/\z.sign=-1)\/(z=0/\z.sign=0)\/(0<z/\z.sign=1):=by
 rcases Sw z 0 with h | h | h
 .exact .inl ⟨h,pP h⟩
 .exact .inr (.inl ⟨h,by rw[h];rfl⟩)
 .exact .inr (.inr ⟨h,fY h⟩)
def af5{a b:Rat}(h:a.num.sign≠b.num.sign\/a.num.sign=0):mF a b=a.num.sign-b.num.sign-(a.num.sign-b.num.sign).tdiv 2:=by
 rw[Ch];have ha:=a.den_pos;have hb:=b.den_pos
 have key:∀(x:Int)(d:Nat),0<d->(x<0->x*(d:Int)<0)/\(x=0->x*(d:Int)=0)/\(0<x->0<x*(d:Int)):=fun x d hd=>
  ⟨fun h=>Int.mul_neg_of_neg_of_pos h O,fun h=>by rw[h,Int.zero_mul],fun h=>Int.mul_pos h O⟩
 obtain⟨k1,k2,k3⟩:=key a.num b.den hb;obtain⟨l1,l2,l3⟩:=key b.num a.den ha
 rcases dG a.num with⟨h1,e1⟩ | ⟨h1,e1⟩ | ⟨h1,e1⟩<;>rcases dG b.num with⟨h2,e2⟩ | ⟨h2,e2⟩ | ⟨h2,e2⟩<;>rw[e1,e2]at h|- <;> simp only[gS]<;>(try (exfalso;revert h;decide)) <;>
  (first
   | have i1:=k1 h1
   | have i1:=k2 h1
   | have i1:=k3 h1) <;>
  (first
   | have i2:=l1 h2
   | have i2:=l2 h2
   | have i2:=l3 h2) <;>
  (first
   | (rw[aI O];rfl)
   | (rw[aD O,aI O];rfl)
   | (rw[aD O,aD O];rfl))
def bs8{a b:Rat}(h0:a.num.sign≠0)(h:a.num.sign=b.num.sign:=by omega):mF a b=a.num.sign*gS ((a.num.natAbs*b.den:Nat):Int) ((b.num.natAbs*a.den:Nat):Int):=by
 rw[Ch];rcases dG a.num with⟨h1,e1⟩ | ⟨h1,e1⟩ | ⟨h1,e1⟩
 .have h2:b.num<0:=by
   rcases dG b.num with⟨h2,e2⟩ | ⟨h2,e2⟩ | ⟨h2,e2⟩
   .exact h2
   .omega
   .omega
  have ea:a.num*(b.den:Int)=-((a.num.natAbs*b.den:Nat):Int):=by
   rw[iK,<-uV];congr 1;omega
  have eb:b.num*(a.den:Int)=-((b.num.natAbs*a.den:Nat):Int):=by
   rw[iK,<-uV];congr 1;omega
  rw[e1,ea,eb];generalize ((a.num.natAbs*b.den:Nat):Int)=p;generalize ((b.num.natAbs*a.den:Nat):Int)=q;unfold gS;split<;>(try split)<;>(try split)<;>(try split)<;>omega
 .omega
 .have h2:0<b.num:=by
   rcases dG b.num with⟨h2,e2⟩ | ⟨h2,e2⟩ | ⟨h2,e2⟩
   .omega
   .omega
   .exact h2
  have ea:a.num*(b.den:Int)=((a.num.natAbs*b.den:Nat):Int):=by
   rw[iK];congr 1;omega
  have eb:b.num*(a.den:Int)=((b.num.natAbs*a.den:Nat):Int):=by
   rw[iK];congr 1;omega
  rw[e1,ea,eb,Fw]
def ma(a b:Rat)(A B:Nat)(ha:Fit A a)(hb:Fit B b)(h:A+B<=34359738368:=by omega):aK prog 38 [(qT a:aF),(qT b:aF)] (.ret [.one (.int .i64 (mF a b))]):=by
 refine dB func38 bZ2 ?_;obtain⟨ha1,ha2⟩:=Fit.dl ha;obtain⟨hb1,hb2⟩:=Fit.dl hb;have hn1:=jC (bR ha.1 hb.2);have hn2:=jC (bR hb.1 ha.2);have hsa:-1<=a.num.sign/\a.num.sign<=1:=by rcases dG a.num with⟨_,e⟩ | ⟨_,e⟩ | ⟨_,e⟩<;>omega
 have hsb:-1<=b.num.sign/\b.num.sign<=1:=by rcases dG b.num with⟨_,e⟩ | ⟨_,e⟩ | ⟨_,e⟩<;>omega
 have htd:-1<=(a.num.sign-b.num.sign).tdiv 2/\(a.num.sign-b.num.sign).tdiv 2<=1:=by
  rcases dG a.num with⟨_,e⟩ | ⟨_,e⟩ | ⟨_,e⟩<;>rcases dG b.num with⟨_,e2⟩ | ⟨_,e2⟩ | ⟨_,e2⟩<;>rw[e,e2]<;>decide
 apply aA (gQ a);apply aA (gQ b);refine uS jA ?_ ?_<;>intro h3
 .apply vn aL;apply vn aL;apply vn (te (c:=(a.num.sign-b.num.sign).tdiv 2) dO (fG));apply vn aL;dsimp only[aP,aQ];rw[af5 (.inl h3)];exact aN
 refine uS bA ?_ ?_<;>intro h10
 .apply vn aL;apply vn aL;apply vn (te (c:=(a.num.sign-b.num.sign).tdiv 2) dO (fG));apply vn aL;dsimp only[aP,aQ];rw[af5 (.inr h10)];exact aN
 apply aA (gQ a);apply aA (iw b);apply aA (mQ _ _);apply aA (iw a);apply aA (mQ _ _);apply aA (wm _ _);dsimp only[aP,aQ]
 have hci:-1<=gS ((a.num.natAbs*b.den:Nat):Int) ((b.num.natAbs*a.den:Nat):Int)/\gS ((a.num.natAbs*b.den:Nat):Int) ((b.num.natAbs*a.den:Nat):Int)<=1:=by
  unfold gS;split<;>(try split)<;>omega
 rw[bs8 h10];generalize gS ((a.num.natAbs*b.den:Nat):Int) ((b.num.natAbs*a.den:Nat):Int)=c at hci|-;generalize a.num.sign=s at hsa h10|-
 apply vn (uv (c:=s*c) (by
  rcases(by omega:s=-1\/s=1)with rfl | rfl
  .exact fG
  .exact fG)) rfl
 exact aN
end Go.Sy
