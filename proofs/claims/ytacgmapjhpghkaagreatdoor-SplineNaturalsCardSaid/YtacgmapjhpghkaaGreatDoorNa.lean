/- Part. -/
import Derived.Test.YtacgmapjhpghkaaGreatDoorFa
import Derived.Test.YtacgmapjhpghkaaGreatDoorPa
set_option linter.all false
set_option maxHeartbeats 1000000
namespace Go.Sy
open Go Go.Proofs Tryz Ord
abbrev rT(ds:c7):List (List aC):=ds.map fun(d:Nat)=>[aC.int .u32 (d:Int)]
abbrev dg(n:Nat):List Nat:=mI 1000000000 n
abbrev lv(ds:c7):Nat:=val 1000000000 ds
abbrev dT(n:Nat):aC:=.slice 1 (rT (dg n))
abbrev mT(n:Nat):aQ:=.agg [dT n]
def Dg(ds:c7):Prop:=∀d∈ds,d<1000000000
def ze{n:Int}(h0:0<=n)(h:n<4294967296):IntKind.u32.wrap n=n:=by rw[IntKind.wrap_u32];omega
def tV{n:Int}(h0:0<=n)(h:n<18446744073709551616):IntKind.u64.wrap n=n:=by rw[sd];omega
def pB{n:Int}(h0:-9223372036854775808<=n)(h:n<9223372036854775808):IntKind.i64.wrap n=n:=by rw[IntKind.wrap_i64];omega
def qZ{ds:c7}{i d:Nat}(h:ds[i]?=some d):(rT ds)[i]?=some [aC.int .u32 (d:Int)]:=by
 rw[dR,h];rfl
def mH{ds:c7}{i x:Nat}:(rT ds).set i [aC.int .u32 (x:Int)]=rT (ds.set i x):=by
 rw[rT,rT,pR]
def dA{ds:c7}:(rT ds).length=ds.length:=aL _
def yj{n:Nat}:dg n=[]↔n=0:=by
 constructor
 .intro h;by_cases hn:n=0
  .exact hn
  .rw[dg,gQ O hn]at h;cases h
 .rintro rfl;exact dj _
def mC(n:Nat):Dg (dg n):=Bw n
def jX(n:Nat):lv (dg n)=n:=xC O n
def Dg.take{ds:c7}(h:Dg ds)(n:Nat):Dg (ds.take n):=fun d hd=>h d (mL hd)
def Dg.set{ds:c7}(h:Dg ds){i x:Nat}(hx:x<1000000000):Dg (ds.set i x):=fun d hd=>by
 rcases pU hd with hd | rfl
 .exact h d hd
 .exact hx
def Dg.get{ds:c7}(h:Dg ds){i d:Nat}(hd:ds[i]?=some d):d<1000000000:=h d (dc hd)
def PZ{ds:c7}{i d:Nat}(h:ds[i]?=some d):ds.take (i+1)=ds.take i++[d]:=by
 rw[nq,h];rfl
def uk(xs ys:c7):lv (xs++ys)=lv xs+1000000000^xs.length*lv ys:=kX _ _ _
def bK7(d:Nat):lv [d]=d:=by simp[lv,val]
def gM{ds:c7}{i d:Nat}(h:ds[i]?=some d):lv (ds.take (i+1))=lv (ds.take i)+1000000000^i*d:=by
 have hi:i<ds.length:=(cL.1 h).1;rw[PZ h,uk,bK7,bh,de O]
def th{os:c7}{i x:Nat}(h:i<os.length):lv ((os.set i x).take (i+1))=lv (os.take i)+1000000000^i*x:=by
 rw[gM (d:=x) (by simp[h])];rw[al8 (ah i)]
def Sm{n:Nat}:List.replicate n ([Value.int .u32 0].map aC.exact)=rT (List.replicate n 0):=by
 rw[rT,qQ];rfl
def Dg.rep(n:Nat):Dg (List.replicate n 0):=fun d hd=>by
 obtain⟨_,rfl⟩:=kL.1 hd;decide
abbrev dl(n:Nat):Nat:=(dg n).length
def MN{ds:c7}{T ty:TypeId}{x y:j6}{k:IntKind}{n:Int}{d:Nat}(h:dZ prog T=some (237,1,4))(hd:ds[n.toNat]?=some d)(h0:0<=n:=by omega) :
  ao prog (.indexAddr T x y) ty [.one (.slice 1 (rT ds)),.one (.int k n)] (.one (.aw [aC.int .u32 (d:Int)])):=ak1 h (qZ hd) h0
def KD{ty:TypeId}{x:j6}{d:Int}:ao prog (.load 237 x) ty [.one (.aw [aC.int .u32 d])] (.one (.int .u32 d)):=ab (n:=1) xj bY aT (.inr rfl)
def cG1:Tr:=en 2 1 10 (gW 0 0 4 0 40 9 11 (eZ 5 237 12 (aG1 6 0 13 (aY 7 0 (en 2 1 16 (.back 0 [lV 8 0])) (bb7 (tW 8))))))
def cF1:Tr:=bL 0 0 4 40 (Ed 1 (uj .gtr 3 6 0 2 0 4 (aY 3 0 cG1 (bb7 (tW 4)))))
def aw4:af prog f208 dV [.v none]=cF1:=aS
def kx(ds:c7)(hd:Dg ds)(hl:ds.length<4611686018427387904:=by omega):aX prog 208 [.one (.slice 1 (rT ds))] (.ret [mT (lv ds)]):=by
 refine dh (args:=[.v none]) (ins:=[.v (.one (.slice 1 (rT ds)))]) (hints:=fun _=>none) fo aS func208 ⟨rfl,trivial⟩ ?_;rw[aw4];apply vn (ae eY dA);refine bZ {n:Nat // n<=ds.length/\lv (ds.take n)=lv ds} (fun g=>[.one (.int .i64 g.1)]) (fun g=>g.1) ⟨ds.length,ah _,by rw[jC]⟩ ai.rfl (fun _=>rfl) ?_;rintro⟨n,hn,hv⟩;dsimp only
 have fin:∀τ:Env,(n=0\/∃d,ds[n-1]?=some d/\d≠0)->(rT ds).take n=rT (dg (lv ds)):=by
  intro τ h;rw[rT,rT,<-kD]
  congr 1
  rw[<-hv,dg,lv,Vm O _ (hd.take n)];intro d hlast;rcases h with rfl | ⟨d',hd',hne⟩
  .simp at hlast
  .rw[ak9,bh,de hn,eh]at hlast;split at hlast
   .rw[hd']at hlast;simp at hlast;omega
   .cases hlast
 apply vn Wa;refine l4 ?_ ?_<;>intro h
 .have hlt:n-1<ds.length:=O
  have hget:ds[n-1]?=some (ds[n-1]'hlt):=bM hlt;generalize ds[n-1]'hlt=d at hget;apply vn (qJ (c:=((n-1:Nat):Int)) (by rw[pB]<;>omega)) rfl;apply vn (MN eY (by simpa using hget));apply vn KD;apply vn aW2;refine l4 ?_ ?_<;>intro h2
  .apply vn (qJ (c:=((n-1:Nat):Int)) (by rw[pB]<;>omega)) rfl;refine aq rfl ⟨⟨n-1,O,?_⟩,ai.rfl,?_⟩
   .have hd0:d=0:=O
    subst hd0;have:=gM hget;rw[eo,show n-1+1=n by omega]at this;exact(this.symm.trans hv)
   .show n-1<n;omega
  .apply vn (FB eY (by simpa using hn));refine aR ?_;exact congrArg (fun x=>[aQ.agg [aC.slice 1 x]]) (fin [] (.inr ⟨d,hget,O⟩))
 .apply vn (FB eY (by simpa using hn));refine aR ?_;exact congrArg (fun x=>[aQ.agg [aC.slice 1 x]]) (fin [] (.inl O))
def cf9:Tr:=am0 20 46 (aY 21 0 (ai7 20 48 (ei 11 10 40 50 51 (gE 11 10 22 237 53 52 (cT 10 1 3 26 (sn 1 24 23))))) (ei 11 10 40 50 51 (gE 11 10 20 237 53 52 (cT 10 1 3 26 (sn 0 23 22)))))
def bA4:Tr:=eZ 18 237 43 (dw 15 19 237 39 44 cf9)
def bC6:Tr:=am0 15 46 (aY 18 0 (ai7 15 48 (ei 11 10 40 50 51 (gE 11 10 19 237 53 52 (cT 10 1 3 26 (sn 1 21 20))))) (ei 11 10 40 50 51 (gE 11 10 15 237 53 52 (cT 10 1 3 26 (sn 0 20 19)))))
def cl9:Tr:=gW 1 0 10 0 40 24 26 (eZ 13 237 29 (dw 14 9 237 31 32 (bL 0 0 36 40 (fN 10 0 16 3 34 37 4 (aY 17 0 (gW 0 0 10 0 40 41 42 bA4) bC6)))))
def by1:Tr:=ei 11 13 40 55 58 (gE 11 13 9 237 60 59 (al2 14 61 (tW 15)))
def cE0:Tr:=cT 5 1 3 20 (DP 6 21 (bL 1 0 24 40 (TN 7 (fN 10 0 8 3 26 25 0 (aY 12 0 cl9 (bL 1 0 57 40 by1))))))
def cj2:Tr:=gW 0 0 10 0 40 24 26 (eZ 13 237 29 (dw 14 9 237 31 32 (bL 1 0 36 40 (fN 10 0 16 3 34 37 4 (aY 17 0 (gW 1 0 10 0 40 41 42 bA4) bC6)))))
def cl5:Tr:=cT 5 1 3 20 (DP 6 21 (bL 0 0 24 40 (TN 7 (fN 10 0 8 3 26 25 0 (aY 12 0 cj2 (bL 0 0 57 40 by1))))))
def cF9:Tr:=bL 0 0 10 40 (bL 1 0 13 40 (fN 2 0 3 3 11 14 4 (aY 4 0 (bL 1 0 19 40 cE0) (bL 0 0 19 40 cl5))))
def bN0:af prog f209 dV [.v (some 1),.v (some 1)]=cF9:=aS
structure sF(xs ys:c7)(i c:Nat)(os:c7):Prop where
 le:i<=xs.length
 c1:c<=1
 len:os.length=xs.length+1
 dg:Dg os
 eq:lv (os.take i)+1000000000^i*c=lv (xs.take i)+lv (ys.take i)
def sF.init(xs ys:c7):sF xs ys 0 0 (List.replicate (xs.length+1) 0):=⟨dM _,O,aT,Dg.rep _,by simp[lv,val]⟩
def sF.next{xs ys os:c7}{i c x y c' z:Nat}(h:sF xs ys i c os)(hi:i<xs.length)(hx:xs[i]?=some x)(hy:ys[i]?.getD 0=y)(hc:c'<=1)(hz:z<1000000000)(he:z+1000000000*c'=x+c+y):sF xs ys (i+1) c' (os.set i z):=by
 refine⟨hi,hc,by rw[al];exact h.len,h.dg.set hz,?_⟩;rw[th (by rw[h.len];omega),gM hx,bw]
 have hb:lv (ys.take (i+1))=lv (ys.take i)+1000000000^i*y:=by
  cases hbi:ys[i]? with
  | some d=>rw[hbi]at hy;simp only[gH]at hy;subst hy;exact gM hbi
  | none=>
    rw[hbi]at hy;simp only[BH]at hy;subst hy;have:=fA.1 hbi;rw[dL O,dL O];omega
 rw[hb];have h1:=h.eq;have h2:=congrArg (fun t=>1000000000^i*t) he;simp only[dr]at h2;rw[ej];omega
def sF.fin{xs ys os:c7}{c:Nat}{n:Nat}(h:sF xs ys xs.length c os)(hle:ys.length<=xs.length)(he:lv xs+lv ys=n):lv (os.set xs.length c)=n:=by
 have h1:=th (os:=os) (i:=xs.length) (x:=c) (by rw[h.len];omega);rw[dL (by rw[al,h.len];omega)]at h1;have h2:=h.eq;rw[jC,dL hle]at h2;omega
def aU8(a b:Nat)(hs:(dg a).length+(dg b).length<1099511627776:=by omega):aX prog 209 [mT a,mT b] (.ret [mT (a+b)]):=by
 refine dh (args:=[.v (some 1),.v (some 1)]) (ins:=[.v (mT a),.v (mT b)]) (hints:=fun _=>none) fo aS func209 ⟨rfl,rfl,trivial⟩ ?_;rw[bN0];dsimp only[List.map,In.env];apply vn (ae eY dA);apply vn (ae eY dA);apply vn vD;refine l4 ?_ ?_<;>intro hab
 .skip
  apply vn (ae eY dA);apply vn (gF (c:=(((dg b).length+1:Nat):Int)) (by rw[pB]<;>omega)) rfl;refine tf (n:=(dg b).length+1) (m:=(dg b).length+1) rfl rfl Sm (ah _) O (by simp[maxLen];omega) ?_;apply vn (ae eY dA);refine bZ {g:Nat×Nat×List Nat // sF (dg b) (dg a) g.1 g.2.1 g.2.2} (fun g=>[.one (.int .u32 g.1.2.1),.one (.int .i64 g.1.1),.rows (rT g.1.2.2)]) (fun g=>(dg b).length-g.1.1) ⟨(0,0,List.replicate ((dg b).length+1) 0),sF.init _ _⟩ ai.rfl (fun _=>rfl) ?_;rintro⟨⟨i,c,os⟩,hI⟩;dsimp only[aU,aV]at hI|-;apply vn vD;refine l4 ?_ ?_<;>intro h
  .have hlt:i<(dg b).length:=O
   have hget:(dg b)[i]?=some ((dg b)[i]'hlt):=bM hlt;generalize (dg b)[i]'hlt=x at hget;have hx:=(mC b).get hget;have hc:=hI.c1;have hol:i<os.length:=by rw[hI.len];omega
   have hog:(rT os)[((i:Int)).toNat]?=some [aC.int .u32 ((os[i]'hol:Nat):Int)]:=qZ aT;apply vn (MN eY (by simpa using hget));apply vn KD;apply vn (gF (c:=((x+c:Nat):Int)) (by rw[ze]<;>omega)) rfl;apply vn (ae eY dA);apply vn vD;refine l4 ?_ ?_<;>intro h1
   .have hlt1:i<(dg a).length:=O
    have hget1:(dg a)[i]?=some ((dg a)[i]'hlt1):=bM hlt1;generalize (dg a)[i]'hlt1=y at hget1;have hy:=(mC a).get hget1;apply vn (MN eY (by simpa using hget1));apply vn KD;dsimp only[aU,aV];apply vn (gF (c:=((x+c+y:Nat):Int)) (by rw[ze]<;>omega)) rfl;apply vn HE;refine l4 ?_ ?_<;>intro h2
    .apply vn (qJ (c:=((x+c+y-1000000000:Nat):Int)) (by rw[ze]<;>omega)) rfl;refine tC (ts:=rT os) rfl rfl O (by rw[dA];omega) ?_;refine NM (ts:=rT os) (us:=rT (os.set i (x+c+y-1000000000))) rfl rfl O hog mH ?_;apply vn (gF (c:=((i+1:Nat):Int)) (by rw[pB]<;>omega)) rfl;dsimp only[aU,aV];have hN:sF _ _ (i+1) 1 (os.set i (x+c+y-1000000000)):=hI.next (y:=y) hlt hget (by rw[hget1];rfl) O O O;exact aq rfl ⟨⟨(i+1,1,os.set i (x+c+y-1000000000)),hN⟩,ai.rfl,by show(dg b).length-(i+1)<(dg b).length-i;omega⟩
    .refine tC (ts:=rT os) rfl rfl O (by rw[dA];omega) ?_;refine NM (ts:=rT os) (us:=rT (os.set i (x+c+y))) rfl rfl O hog mH ?_;apply vn (gF (c:=((i+1:Nat):Int)) (by rw[pB]<;>omega)) rfl;dsimp only[aU,aV];have hN:sF _ _ (i+1) 0 (os.set i (x+c+y)):=hI.next (y:=y) hlt hget (by rw[hget1];rfl) O O O;exact aq rfl ⟨⟨(i+1,0,os.set i (x+c+y)),hN⟩,ai.rfl,by show(dg b).length-(i+1)<(dg b).length-i;omega⟩
   .have hget1:(dg a)[i]?=none:=jQ O;apply vn HE;refine l4 ?_ ?_<;>intro h2
    .apply vn (qJ (c:=((x+c-1000000000:Nat):Int)) (by rw[ze]<;>omega)) rfl;refine tC (ts:=rT os) rfl rfl O (by rw[dA];omega) ?_;refine NM (ts:=rT os) (us:=rT (os.set i (x+c-1000000000))) rfl rfl O hog mH ?_;apply vn (gF (c:=((i+1:Nat):Int)) (by rw[pB]<;>omega)) rfl;dsimp only[aU,aV];have hN:sF _ _ (i+1) 1 (os.set i (x+c-1000000000)):=hI.next (y:=0) hlt hget (by rw[hget1];rfl) O O O;exact aq rfl ⟨⟨(i+1,1,os.set i (x+c-1000000000)),hN⟩,ai.rfl,by show(dg b).length-(i+1)<(dg b).length-i;omega⟩
    .refine tC (ts:=rT os) rfl rfl O (by rw[dA];omega) ?_;refine NM (ts:=rT os) (us:=rT (os.set i (x+c))) rfl rfl O hog mH ?_;apply vn (gF (c:=((i+1:Nat):Int)) (by rw[pB]<;>omega)) rfl;dsimp only[aU,aV];have hN:sF _ _ (i+1) 0 (os.set i (x+c)):=hI.next (y:=0) hlt hget (by rw[hget1];rfl) O O O;exact aq rfl ⟨⟨(i+1,0,os.set i (x+c)),hN⟩,ai.rfl,by show(dg b).length-(i+1)<(dg b).length-i;omega⟩
  .have hie:i=(dg b).length:=by have:=hI.le;omega
   subst hie;have hol:(dg b).length<os.length:=by rw[hI.len];omega
   have hog:(rT os)[(((dg b).length:Int)).toNat]?=some [aC.int .u32 ((os[(dg b).length]'hol:Nat):Int)]:=qZ aT;apply vn (ae eY dA);refine tC (ts:=rT os) rfl rfl O (by rw[dA];omega) ?_;refine NM (ts:=rT os) (us:=rT (os.set ((dg b).length) c)) rfl rfl O hog mH ?_;apply aA (kx (os.set ((dg b).length) c) (hI.dg.set (by have:=hI.c1;omega)) (by rw[al,hI.len];omega)) rfl;dsimp only[aU,aV];refine aR ?_;rw[hI.fin (n:=a+b) O (by rw[jX,jX]<;>omega)];rfl
 .skip
  apply vn (ae eY dA);apply vn (gF (c:=(((dg a).length+1:Nat):Int)) (by rw[pB]<;>omega)) rfl;refine tf (n:=(dg a).length+1) (m:=(dg a).length+1) rfl rfl Sm (ah _) O (by simp[maxLen];omega) ?_;apply vn (ae eY dA);refine bZ {g:Nat×Nat×List Nat // sF (dg a) (dg b) g.1 g.2.1 g.2.2} (fun g=>[.one (.int .u32 g.1.2.1),.one (.int .i64 g.1.1),.rows (rT g.1.2.2)]) (fun g=>(dg a).length-g.1.1) ⟨(0,0,List.replicate ((dg a).length+1) 0),sF.init _ _⟩ ai.rfl (fun _=>rfl) ?_;rintro⟨⟨i,c,os⟩,hI⟩;dsimp only[aU,aV]at hI|-;apply vn vD;refine l4 ?_ ?_<;>intro h
  .have hlt:i<(dg a).length:=O
   have hget:(dg a)[i]?=some ((dg a)[i]'hlt):=bM hlt;generalize (dg a)[i]'hlt=x at hget;have hx:=(mC a).get hget;have hc:=hI.c1;have hol:i<os.length:=by rw[hI.len];omega
   have hog:(rT os)[((i:Int)).toNat]?=some [aC.int .u32 ((os[i]'hol:Nat):Int)]:=qZ aT;apply vn (MN eY (by simpa using hget));apply vn KD;apply vn (gF (c:=((x+c:Nat):Int)) (by rw[ze]<;>omega)) rfl;apply vn (ae eY dA);apply vn vD;refine l4 ?_ ?_<;>intro h1
   .have hlt1:i<(dg b).length:=O
    have hget1:(dg b)[i]?=some ((dg b)[i]'hlt1):=bM hlt1;generalize (dg b)[i]'hlt1=y at hget1;have hy:=(mC b).get hget1;apply vn (MN eY (by simpa using hget1));apply vn KD;dsimp only[aU,aV];apply vn (gF (c:=((x+c+y:Nat):Int)) (by rw[ze]<;>omega)) rfl;apply vn HE;refine l4 ?_ ?_<;>intro h2
    .apply vn (qJ (c:=((x+c+y-1000000000:Nat):Int)) (by rw[ze]<;>omega)) rfl;refine tC (ts:=rT os) rfl rfl O (by rw[dA];omega) ?_;refine NM (ts:=rT os) (us:=rT (os.set i (x+c+y-1000000000))) rfl rfl O hog mH ?_;apply vn (gF (c:=((i+1:Nat):Int)) (by rw[pB]<;>omega)) rfl;dsimp only[aU,aV];have hN:sF _ _ (i+1) 1 (os.set i (x+c+y-1000000000)):=hI.next (y:=y) hlt hget (by rw[hget1];rfl) O O O;exact aq rfl ⟨⟨(i+1,1,os.set i (x+c+y-1000000000)),hN⟩,ai.rfl,by show(dg a).length-(i+1)<(dg a).length-i;omega⟩
    .refine tC (ts:=rT os) rfl rfl O (by rw[dA];omega) ?_;refine NM (ts:=rT os) (us:=rT (os.set i (x+c+y))) rfl rfl O hog mH ?_;apply vn (gF (c:=((i+1:Nat):Int)) (by rw[pB]<;>omega)) rfl;dsimp only[aU,aV];have hN:sF _ _ (i+1) 0 (os.set i (x+c+y)):=hI.next (y:=y) hlt hget (by rw[hget1];rfl) O O O;exact aq rfl ⟨⟨(i+1,0,os.set i (x+c+y)),hN⟩,ai.rfl,by show(dg a).length-(i+1)<(dg a).length-i;omega⟩
   .have hget1:(dg b)[i]?=none:=jQ O;apply vn HE;refine l4 ?_ ?_<;>intro h2
    .apply vn (qJ (c:=((x+c-1000000000:Nat):Int)) (by rw[ze]<;>omega)) rfl;refine tC (ts:=rT os) rfl rfl O (by rw[dA];omega) ?_;refine NM (ts:=rT os) (us:=rT (os.set i (x+c-1000000000))) rfl rfl O hog mH ?_;apply vn (gF (c:=((i+1:Nat):Int)) (by rw[pB]<;>omega)) rfl;dsimp only[aU,aV];have hN:sF _ _ (i+1) 1 (os.set i (x+c-1000000000)):=hI.next (y:=0) hlt hget (by rw[hget1];rfl) O O O;exact aq rfl ⟨⟨(i+1,1,os.set i (x+c-1000000000)),hN⟩,ai.rfl,by show(dg a).length-(i+1)<(dg a).length-i;omega⟩
    .refine tC (ts:=rT os) rfl rfl O (by rw[dA];omega) ?_;refine NM (ts:=rT os) (us:=rT (os.set i (x+c))) rfl rfl O hog mH ?_;apply vn (gF (c:=((i+1:Nat):Int)) (by rw[pB]<;>omega)) rfl;dsimp only[aU,aV];have hN:sF _ _ (i+1) 0 (os.set i (x+c)):=hI.next (y:=0) hlt hget (by rw[hget1];rfl) O O O;exact aq rfl ⟨⟨(i+1,0,os.set i (x+c)),hN⟩,ai.rfl,by show(dg a).length-(i+1)<(dg a).length-i;omega⟩
  .have hie:i=(dg a).length:=by have:=hI.le;omega
   subst hie;have hol:(dg a).length<os.length:=by rw[hI.len];omega
   have hog:(rT os)[(((dg a).length:Int)).toNat]?=some [aC.int .u32 ((os[(dg a).length]'hol:Nat):Int)]:=qZ aT;apply vn (ae eY dA);refine tC (ts:=rT os) rfl rfl O (by rw[dA];omega) ?_;refine NM (ts:=rT os) (us:=rT (os.set ((dg a).length) c)) rfl rfl O hog mH ?_;apply aA (kx (os.set ((dg a).length) c) (hI.dg.set (by have:=hI.c1;omega)) (by rw[al,hI.len];omega)) rfl;dsimp only[aU,aV];refine aR ?_;rw[hI.fin (n:=a+b) O (by rw[jX,jX]<;>omega)];rfl
def cD6:Tr:=bL 0 0 4 40 (ir 1 0 0 3 5 (cd 2))
def bO9:af prog f172 dV [.v (some 1)]=cD6:=aS
def cC8:Tr:=aY 3 0 (at6 1 9 (iI 4 236 237 10 (Ak 5 40 11 (oa 1 4 2 6 8 12 40 (ap7 1 6 (sk 0 8 7)))))) (.ret [(.agg [(.c (.sr 1 2))])])
def cE9:Tr:=ae3 (.need (.prim [(W 1 0),(.one (.c (.k (.int .u64 0))))] none) (.binOp .gtr 236 (tT 4) (.const (.int .u64 0)) 236) 4 false cC8)
def bx2:af prog f206 dV [.v none]=cE9:=aS
def cE6:Tr:=aY 0 0 (gO 172 [(G1 1)] [none] [8] [42] 4 false (jU 2 0 9 (nS 1 0 3 0))) (.ret [(.agg [(U 1 0),(tE (.bool false))])])
def aR9:af prog f158 dV [.v none,.v (some 1)]=cE6:=aS
def bo4:Tr:=qe 0
def bl1:Tr:=qe (-1)
def bd1:Tr:=qe 1
def cE3:Tr:=EG 172 0 0 5 4 (aY 1 0 bo4 (aY 0 1 bl1 bd1))
def bn3:af prog f91 dV [.v (some 2)]=cE3:=aS
def vQ(n:Nat):aX prog 172 [mT n] (.ret [.one (.bool (decide (n=0)))]):=by
 refine dh (args:=[.v (some 1)]) (ins:=[.v (mT n)]) (hints:=fun _=>none) fo aS func172 ⟨rfl,trivial⟩ ?_;rw[bO9];apply vn (ae eY rfl);apply vn aW2;refine aR ?_;show[aQ.one (.bool (decide (_=(0:Int))))]=_
 have h:((rT (dg n)).length:Int)=0↔n=0:=by
  rw[dA,<-yj];cases dg n<;>simp;omega
 simp only[h]
def pa(n:Nat)(h:n<18446744073709551616:=by omega):aX prog 206 [.one (.int .u64 n)] (.ret [mT n]):=by
 refine dh (args:=[.v none]) (ins:=[.v (.one (.int .u64 n))]) (hints:=fun _=>none) fo aS func206 ⟨rfl,trivial⟩ ?_;rw[bx2];have hlen:(dg n).length<=3:=mA;refine bZ {p:Nat×List Nat // p.2++dg p.1=dg n/\p.1<=n} (fun g=>[.one (.int .u64 g.1.1),.rows (rT g.1.2)]) (fun g=>g.1.1) ⟨(n,[]),aT⟩ ai.rfl (fun _=>rfl) ?_;rintro⟨⟨k,ds⟩,hinv,hle⟩;dsimp only[List.map,In.env,aU,aV]at hinv hle|-;have hds:ds.length<=3:=by have:=congrArg List.length hinv;simp at this;omega
 apply vn Wa;refine l4 ?_ ?_<;>intro hk
 .apply vn (Ff (c:=((k%1000000000:Nat):Int)) bY (by rw[sa O];omega)) rfl;apply vn (kh ⟨_,jx⟩ jZ (c:=((k%1000000000:Nat):Int)) (ze O O));apply et (us:=rT [k%1000000000]);refine qc (ts:=rT ds) (us:=rT [k%1000000000]) (vs:=rT (ds++[k%1000000000])) rfl rfl List.map_append.symm b6 (by simp[maxLen];omega) ?_;apply vn (rG (c:=((k/1000000000:Nat):Int)) bY (by rw[qa O,tV O O];omega)) rfl;refine aq rfl ⟨⟨(k/1000000000,ds++[k%1000000000]),?_,?_⟩,?_,?_⟩
  .have:k≠0:=O
   rw[<-hinv,dg,dg,gQ (n:=k) O this];simp
  .show k/1000000000<=n;omega
  .exact ai.rfl
  .show k/1000000000<k;omega
 .have:k=0:=O
  subst this;refine aR ?_;have e:dg 0=[]:=dj _;rw[e,cB]at hinv;subst hinv;rfl
abbrev iT(z:Int):aQ:=.agg [dT z.natAbs,.bool (decide (z<0))]
def jT(m:Bool)(n:Nat)(z:Int)(hz:z=if m then -(n:Int)else n):aX prog 158 [.one (.bool m),mT n] (.ret [iT z]):=by
 refine dh (args:=[.v none,.v (some 1)]) (ins:=[.v (.one (.bool m)),.v (mT n)]) (hints:=fun _=>none) fo aS func158 ⟨rfl,rfl,trivial⟩ ?_;rw[aR9];have ha:z.natAbs=n:=by subst hz;cases m<;>simp
 refine nI m rfl (fun hm=>?_) (fun hm=>?_)
 .subst hm;apply aA (vQ n);apply vn fk;refine aR ?_;have:(!decide (n=0))=decide (z<0):=by subst hz;simp;by_cases h:n=0<;>simp[h]<;>omega
  show[aQ.agg [dT n,.bool (!decide (n=0))]]=_;rw[this,iT,ha]
 .subst hm;refine aR ?_;have:false=decide (z<0):=by subst hz;simp
  show[aQ.agg [dT n,.bool false]]=_;rw[this,iT,ha]
def ci5:Tr:=at6 26 54 (iI 28 236 237 55 (ap7 26 57 (ei 15 27 40 50 53 (gE 15 27 29 237 59 56 (cT 14 1 3 30 (vY 1 30 32 31))))))
def ch4:Tr:=dw 7 14 3 42 43 (ei 15 22 40 41 44 (ot 15 22 237 45 (iI 23 237 236 46 (dw 21 24 236 40 47 (dw 13 25 236 35 48 (dw 7 14 3 51 52 ci5))))))
def cy0:Tr:=bL 1 0 64 40 (dw 7 17 3 62 65 (iI 13 236 237 67 (ei 15 18 40 61 66 (gE 15 18 19 237 69 68 (cT 7 1 3 22 (sk 0 21 20))))))
def cs9:Tr:=fN 14 0 12 3 30 29 0 (aY 16 0 (gW 1 0 14 0 40 28 30 (eZ 17 237 33 (iI 11 237 236 36 (iI 18 237 236 38 (ss .mul 236 37 39 19 0 20 0 236 ch4))))) cy0)
def cG6:Tr:=Es 0 5 (fN 7 0 6 3 22 21 0 (aY 9 0 (gW 0 0 7 0 40 20 22 (eZ 10 237 25 (bL 1 0 28 40 (.loop 1 [(.w (.one (.c (.k (.int .u64 0))))),lK 0,.row 8] cs9)))) (al2 8 71 (tW 10))))
def cF2:Tr:=bL 0 0 12 40 (bL 1 0 15 40 (dw 2 3 3 13 16 (DP 4 17 (bL 0 0 20 40 cG6))))
def bl8:af prog f162 dV [.v (some 1),.v (some 1)]=cF2:=aS
def bY6{os:c7}{j z old n:Nat}(hj:os[j]?=some old)(hjn:j<n:=by omega):lv ((os.set j z).take n)+1000000000^j*old=lv (os.take n)+1000000000^j*z:=by
 have hlt:j<os.length:=(cL.1 hj).1
 have key:∀(os:c7)(j n:Nat),os[j]?=some old->j<n->lv ((os.set j z).take n)+1000000000^j*old=lv (os.take n)+1000000000^j*z:=by
  intro os
  induction os with
  | nil=>intro j n h;simp at h
  | cons d os ih=>
    intro j n h hn;obtain⟨m,rfl⟩:∃m,n=m+1:=⟨n-1,O⟩
    cases j with
    | zero=>
      simp only[nJ,aZ]at h;subst h;simp only[ub,mS,lv,val];omega
    | succ j=>
      have:=ih j m (by simpa using h) O;simp only[CC,mS,lv,val,bw]at this|-;have h1:1000000000^j*1000000000*old=1000000000*(1000000000^j*old):=by rw[BP,cN]
      have h2:1000000000^j*1000000000*z=1000000000*(1000000000^j*z):=by rw[BP,cN]
      rw[h1,h2];omega
 exact key os j n hj hjn
def bs0(n:Nat):lv (List.replicate n 0)=0:=by
 induction n with
 | zero=>rfl
 | succ n ih=>rw[kP,lv,val];simp only[lv]at ih;rw[ih]
structure Uo(xs ys:c7)(i:Nat)(os:c7):Prop where
 le:i<=xs.length
 len:os.length=xs.length+ys.length
 dg:Dg os
 eq:lv (os.take (i+ys.length))=lv (xs.take i)*lv ys
structure TIn(xs ys:c7)(i x T k c:Nat)(os:c7):Prop where
 le:k<=ys.length
 len:os.length=xs.length+ys.length
 dg:Dg os
 c1:c<1000000000
 eq:lv (os.take (i+ys.length))+1000000000^(i+k)*c=T+x*(1000000000^i*lv (ys.take k))
def Uo.init(xs ys:c7):Uo xs ys 0 (List.replicate (xs.length+ys.length) 0):=⟨dM _,aT,Dg.rep _,by
 rw[as7,bs0];simp[lv,val]⟩
def Uo.inn{xs ys os:c7}{i x:Nat}(h:Uo xs ys i os):TIn xs ys i x (lv (xs.take i)*lv ys) 0 0 os:=⟨dM _,h.len,h.dg,O,by rw[h.eq];simp[lv,val]⟩
def TIn.next{xs ys os:c7}{i x T k c y old z c':Nat}(h:TIn xs ys i x T k c os)(hi:i<xs.length)(hk:k<ys.length)(hx:x<1000000000)(hy:ys[k]?=some y)(ho:os[i+k]?=some old)(hz:z<1000000000)(hc:c'<1000000000)(he:z+1000000000*c'=c+(x*y+old)) :
  TIn xs ys i x T (k+1) c' (os.set (i+k) z):=by
 refine⟨hk,by rw[al];exact h.len,h.dg.set hz,hc,?_⟩;have h1:=bY6 (z:=z) (n:=i+ys.length) ho;have h2:=congrArg (fun t=>1000000000^(i+k)*t) he;have h3:=h.eq;rw[gM hy];simp only[dr]at h2|-;have e1:1000000000^(i+(k+1))*c'=1000000000^(i+k)*(1000000000*c'):=by rw[<-lf,bw,ej]
 have e2:x*(1000000000^i*(1000000000^k*y))=1000000000^(i+k)*(x*y):=by rw[eK];simp only[nu,ej]
 rw[e1,e2];omega
def TIn.out{xs ys os:c7}{i x c:Nat}(h:TIn xs ys i x (lv (xs.take i)*lv ys) ys.length c os)(hx:xs[i]?=some x):Uo xs ys (i+1) (os.set (i+ys.length) c):=by
 have hi:i<xs.length:=(cL.1 hx).1;refine⟨hi,by rw[al];exact h.len,h.dg.set h.c1,?_⟩;have h3:=h.eq;rw[jC]at h3;rw[show i+1+ys.length=i+ys.length+1 by omega,th (by rw[h.len];omega),gM hx,h3,bt]
 congr 1
 rw[nu,<-ej]
def Uo.fin{xs ys os:c7}(h:Uo xs ys xs.length os):lv os=lv xs*lv ys:=by
 have:=h.eq;rw[dL (by rw[h.len];omega),jC]at this;exact this
def pN(a b:Nat)(hs:(dg a).length+(dg b).length<1099511627776:=by omega):aX prog 162 [mT a,mT b] (.ret [mT (a*b)]):=by
 refine dh (args:=[.v (some 1),.v (some 1)]) (ins:=[.v (mT a),.v (mT b)]) (hints:=fun _=>none) fo aS func162 ⟨rfl,rfl,trivial⟩ ?_;rw[bl8];dsimp only[List.map,In.env];apply vn (ae eY dA);apply vn (ae eY dA);apply vn (gF (c:=(((dg a).length+(dg b).length:Nat):Int)) (by rw[pB]<;>omega)) rfl;refine tf (n:=(dg a).length+(dg b).length) (m:=(dg a).length+(dg b).length) rfl rfl Sm (ah _) O (by simp[maxLen];omega) ?_;apply vn (ae eY dA);refine bZ {g:Nat×List Nat // Uo (dg a) (dg b) g.1 g.2} (fun g=>[.one (.int .i64 g.1.1),.rows (rT g.1.2)]) (fun g=>(dg a).length-g.1.1) ⟨(0,List.replicate ((dg a).length+(dg b).length) 0),Uo.init _ _⟩ ai.rfl (fun _=>rfl) ?_;rintro⟨⟨i,os⟩,hO⟩;dsimp only[aU,aV]at hO|-;apply vn vD;refine l4 ?_ ?_<;>intro h
 .have hlt:i<(dg a).length:=O
  have hget:(dg a)[i]?=some ((dg a)[i]'hlt):=bM hlt;generalize (dg a)[i]'hlt=x at hget;have hx:=(mC a).get hget;apply vn (MN eY (by simpa using hget));apply vn KD;apply vn (ae eY dA);refine bZ {g:Nat×Nat×List Nat // TIn (dg a) (dg b) i x (lv ((dg a).take i)*lv (dg b)) g.1 g.2.1 g.2.2} (fun g=>[.one (.int .u64 g.1.2.1),.one (.int .i64 g.1.1),.rows (rT g.1.2.2)]) (fun g=>(dg b).length-g.1.1) ⟨(0,0,os),hO.inn⟩ ai.rfl (fun _=>rfl) ?_;rintro⟨⟨k,c,os2⟩,hI⟩;dsimp only[aU,aV]at hI|-;have hc:=hI.c1;apply vn vD;refine l4 ?_ ?_<;>intro h1
  .have hlk:k<(dg b).length:=O
   have hgk:(dg b)[k]?=some ((dg b)[k]'hlk):=bM hlk;generalize (dg b)[k]'hlk=y at hgk;have hy:=(mC b).get hgk;have hol:i+k<os2.length:=by rw[hI.len];omega
   have hok:os2[i+k]?=some (os2[i+k]'hol):=bM hol;generalize os2[i+k]'hol=old at hok;have hold:=hI.dg.get hok;have hxy:x*y<=999999999*999999999:=fP O O;apply vn (MN eY (by simpa using hgk));apply vn KD;apply vn (kh ⟨_,jZ⟩ jx (c:=(x:Int)) (by rw[tV]<;>omega)) rfl;apply vn (kh ⟨_,jZ⟩ jx (c:=(y:Int)) (by rw[tV]<;>omega)) rfl;apply vn (wi (c:=((x*y:Nat):Int)) (by rw[<-jH,tV]<;>omega)) rfl;apply vn (gF (c:=((i+k:Nat):Int)) (by rw[pB]<;>omega)) rfl;refine tC (ts:=rT os2) rfl rfl O (by rw[dA];omega) ?_;refine vld (ts:=rT os2) (cells:=[aC.int .u32 (old:Int)]) (t:=.one (.int .u32 (old:Int))) rfl rfl O (qZ (by rw[bI];exact hok)) (.inr rfl) rfl ?_;dsimp only[aU,aV];apply vn (kh ⟨_,jZ⟩ jx (c:=(old:Int)) (by rw[tV]<;>omega)) rfl;apply vn (gF (c:=((x*y+old:Nat):Int)) (by rw[tV]<;>omega)) rfl;apply vn (gF (c:=((c+(x*y+old):Nat):Int)) (by rw[tV]<;>omega)) rfl;dsimp only[aU,aV];generalize oz:c+(x*y+old)=w;have hw:w<1000000000*1000000000:=O
   apply vn (gF (c:=((i+k:Nat):Int)) (by rw[pB]<;>omega)) rfl;apply vn (Ff (c:=((w%1000000000:Nat):Int)) bY (by rw[sa O];omega)) rfl;apply vn (kh ⟨_,jx⟩ jZ (c:=((w%1000000000:Nat):Int)) (by rw[ze]<;>omega)) rfl;apply vn (rG (c:=((w/1000000000:Nat):Int)) bY (by rw[qa O,tV]<;>omega)) rfl;refine tC (ts:=rT os2) rfl rfl O (by rw[dA];omega) ?_;refine NM (ts:=rT os2) (us:=rT (os2.set (i+k) (w%1000000000))) rfl rfl O (qZ (by rw[bI];exact hok)) mH ?_;apply vn (gF (c:=((k+1:Nat):Int)) (by rw[pB]<;>omega)) rfl;dsimp only[aU,aV];have hN:TIn (dg a) (dg b) i x (lv ((dg a).take i)*lv (dg b)) (k+1) (w/1000000000) (os2.set (i+k) (w%1000000000)):=hI.next hlt hlk hx hgk hok O O O;exact aq rfl ⟨⟨(k+1,w/1000000000,os2.set (i+k) (w%1000000000)),hN⟩,ai.rfl,by show(dg b).length-(k+1)<(dg b).length-k;omega⟩
  .have hke:k=(dg b).length:=by have:=hI.le;omega
   subst hke;have hol:i+(dg b).length<os2.length:=by rw[hI.len];omega
   have hok:os2[i+(dg b).length]?=some (os2[i+(dg b).length]'hol):=bM hol;apply vn (ae eY dA);apply vn (gF (c:=((i+(dg b).length:Nat):Int)) (by rw[pB]<;>omega)) rfl;apply vn (kh ⟨_,jx⟩ jZ (c:=(c:Int)) (by rw[ze]<;>omega)) rfl;refine tC (ts:=rT os2) rfl rfl O (by rw[dA];omega) ?_;refine NM (ts:=rT os2) (us:=rT (os2.set (i+(dg b).length) c)) rfl rfl O (qZ (by rw[bI];exact hok)) mH ?_;apply vn (gF (c:=((i+1:Nat):Int)) (by rw[pB]<;>omega)) rfl;dsimp only[aU,aV];exact aq rfl ⟨⟨(i+1,os2.set (i+(dg b).length) c),hI.out hget⟩,ai.rfl,by show(dg a).length-(i+1)<(dg a).length-i;omega⟩
 .have hie:i=(dg a).length:=by have:=hO.le;omega
  subst hie;apply aA (kx os hO.dg (by rw[hO.len];omega)) rfl;dsimp only[aU,aV];refine aR ?_;have hf:=hO.fin;rw[jX,jX]at hf;rw[hf];rfl
def cu9:Tr:=cd 1
def cC4:Tr:=ss .neq 3 3 4 0 0 0 0 4 cu9
def ZZ:af prog f233 dV [.v none]=cC4:=aS
def cC6:Tr:=ss .neq 237 3 4 0 0 0 0 4 cu9
def YU:af prog f234 dV [.v none]=cC6:=aS
def cz2:Tr:=aY 3 0 bo4 bl1
def bB8:Tr:=aY 5 0 bd1 bo4
def cD1:Tr:=mw 233 0 7 3 4 (mw 233 1 9 3 4 (aY 2 0 cz2 (aY 3 0 bd1 (fN 0 0 1 3 14 15 4 (aY 4 0 bl1 (ss .gtr 3 17 18 0 0 1 0 4 bB8))))))
def ba2:af prog f210 dV [.v none,.v none]=cD1:=aS
def cw7:Tr:=mw 234 0 7 237 4 (mw 234 1 9 237 4 (aY 2 0 cz2 (aY 3 0 bd1 (fN 0 0 1 237 14 15 4 (aY 4 0 bl1 (ss .gtr 237 17 18 0 0 1 0 4 bB8))))))
def aH1:af prog f211 dV [.v none,.v none]=cw7:=aS
def bT0:Tr:=gW 1 0 9 0 40 32 33 (eZ 13 237 34 (iK 211 12 0 14 30 35 237 237 3 (lS 15 0 3 37 (aY 16 0 (cd 15) (en 9 1 24 (lh 0 8 17))))))
def cj0:Tr:=bL 0 0 19 40 (en 6 1 20 (.loop 0 [lK 0,lV 7 0] (oh 9 0 22 (aY 10 0 (gW 0 0 9 0 40 27 28 (eZ 11 237 29 bT0)) bo4))))
def ch2:Tr:=bL 0 0 9 40 (bL 1 0 12 40 (iK 210 2 0 3 10 13 3 3 3 (lS 4 0 3 15 (aY 5 0 (cd 4) cj0))))
def aw2:af prog f164 dV [.v (some 1),.v (some 1)]=ch2:=aS
def cc7:Tr:=iI 16 236 237 35 (iI 1 237 236 38 (ss .rem 236 37 39 14 0 18 0 236 (ei 8 7 40 30 31 (gE 8 7 17 237 41 36 (en 7 1 19 (vY 0 19 21 20))))))
def cA3:Tr:=aN8 6 21 (gW 0 0 7 0 40 24 25 (eZ 11 237 26 (iI 12 237 236 27 (dw 10 13 236 22 28 (iI 1 237 236 33 (ss .quo 236 32 34 14 0 15 0 236 cc7))))))
def cq6:Tr:=en 4 1 15 (.loop 0 [(.w (.one (.c (.k (.int .u64 0))))),lV 5 0,.row 3] (oh 7 0 17 (aY 9 0 cA3 (ZC 8 42 (qy 206 6 1 44 236 42 (.ret [(G1 10),(G1 11)]))))))
def cr9:Tr:=bL 0 0 10 40 (DP 2 11 (bL 0 0 14 40 cq6))
def aU0:af prog f243 dV [.v (some 1),.v none]=cr9:=aS
def cn2:Tr:=bL 0 0 4 40 (ir 1 0 1 3 5 (aY 2 0 (nE 0 0 0 40 9 (eZ 3 237 10 (aG1 4 1 11 (cd 5)))) (hx128Q )))
def bJ7:af prog f221 dV [.v (some 1)]=cn2:=aS
def gD(x y:Int):Int:=if x<y then -1 else if y<x then 1 else 0
def Fa(x:Int):aX prog 233 [.one (.int .i64 x)] (.ret [.one (.bool false)]):=by
 refine dh (args:=[.v none]) (ins:=[.v (.one (.int .i64 x))]) (hints:=fun _=>none) fo aS func233 ⟨rfl,trivial⟩ ?_;rw[ZZ];apply vn WR;refine aR ?_;show[aQ.one (.bool (!decide (x=x)))]=_;simp
def aQ3(x y:Int):aX prog 210 [.one (.int .i64 x),.one (.int .i64 y)] (.ret [.one (.int .i64 (gD x y))]):=by
 refine dh (args:=[.v none,.v none]) (ins:=[.v (.one (.int .i64 x)),.v (.one (.int .i64 y))]) (hints:=fun _=>none) fo aS func210 ⟨rfl,rfl,trivial⟩ ?_;rw[ba2];apply aA (Fa x);apply aA (Fa y);refine nI false rfl (fun h=>by cases h) (fun _=>?_);refine nI false rfl (fun h=>by cases h) (fun _=>?_);apply vn vD;refine l4 ?_ ?_<;>intro h
 .refine aR ?_;rw[gD,aF h];rfl
 .apply vn Wa;refine l4 ?_ ?_<;>intro h2
  .refine aR ?_;rw[gD,aG h,aF h2];rfl
  .refine aR ?_;rw[gD,aG h,aG h2];rfl
def Fm(x:Int):aX prog 234 [.one (.int .u32 x)] (.ret [.one (.bool false)]):=by
 refine dh (args:=[.v none]) (ins:=[.v (.one (.int .u32 x))]) (hints:=fun _=>none) fo aS func234 ⟨rfl,trivial⟩ ?_;rw[YU];apply vn WR;refine aR ?_;show[aQ.one (.bool (!decide (x=x)))]=_;simp
def aM8(x y:Int):aX prog 211 [.one (.int .u32 x),.one (.int .u32 y)] (.ret [.one (.int .i64 (gD x y))]):=by
 refine dh (args:=[.v none,.v none]) (ins:=[.v (.one (.int .u32 x)),.v (.one (.int .u32 y))]) (hints:=fun _=>none) fo aS func211 ⟨rfl,rfl,trivial⟩ ?_;rw[aH1];apply aA (Fm x);apply aA (Fm y);refine nI false rfl (fun h=>by cases h) (fun _=>?_);refine nI false rfl (fun h=>by cases h) (fun _=>?_);apply vn vD;refine l4 ?_ ?_<;>intro h
 .refine aR ?_;rw[gD,aF h];rfl
 .apply vn Wa;refine l4 ?_ ?_<;>intro h2
  .refine aR ?_;rw[gD,aG h,aF h2];rfl
  .refine aR ?_;rw[gD,aG h,aG h2];rfl
def bs8(z:Int):aX prog 91 [iT z] (.ret [.one (.int .i64 z.sign)]):=by
 refine dh (args:=[.v (some 2)]) (ins:=[.v (iT z)]) (hints:=fun _=>none) fo aS func91 ⟨rfl,trivial⟩ ?_;rw[bn3];apply aA (vQ z.natAbs);refine l4 ?_ ?_<;>intro h
 .refine aR ?_;have:z.sign=0:=by rw[Cm];omega
  rw[this];rfl
 .refine l4 ?_ ?_<;>intro h2
  .refine aR ?_;rw[qD h2];rfl
  .refine aR ?_;rw[gZ O];rfl
def wM{xs ys:c7}(hx:Dg xs)(hlen:xs.length=ys.length){i x y:Nat}(hi:xs[i]?=some x)(hj:ys[i]?=some y)(hd:xs.drop (i+1)=ys.drop (i+1))(hxy:x<y):lv xs<lv ys:=by
 have hil:i<xs.length:=(cL.1 hi).1
 have e1:lv xs=lv (xs.take (i+1))+1000000000^(i+1)*lv (xs.drop (i+1)):=by
  conv=>lhs;rw[<-oA (i+1) xs]
  rw[uk,bh,de O]
 have e2:lv ys=lv (ys.take (i+1))+1000000000^(i+1)*lv (ys.drop (i+1)):=by
  conv=>lhs;rw[<-oA (i+1) ys]
  rw[uk,bh,de O]
 rw[e1,e2,hd,gM hi,gM hj]
 have h1:lv (xs.take i)<1000000000^i:=by
  have:=Zo (B:=1000000000) O (xs.take i) (hx.take i);rw[bh,de O]at this;exact this
 have h2:1000000000^i*(x+1)<=1000000000^i*y:=dz _ hxy;rw[dr,eG]at h2;omega
def xw{a b:Nat}(h:(dg a).length<(dg b).length):a<b:=by
 have hb:b≠0:=by rintro rfl;rw[show dg 0=[]from dj _]at h;simp at h
 have h1:=mz (B:=1000000000) O a;have h2:=ix (B:=1000000000) O hb;have h3:1000000000^(dg a).length<=1000000000^((dg b).length-1):=gI O O;exact cM h1 (bG h3 h2)
def uM{a b:Int}(h:a<b):gD a b=-1:=aF h
def ui{a b:Int}(h:b<a):gD a b=1:=by rw[gD,aG O,aF h]
def BU(a:Int):gD a a=0:=by rw[gD,aG O,aG O]
def Oq{a b:Int}:gD a b=0↔a=b:=by
 unfold gD;constructor
 .intro h;split at h
  .cases h
  .split at h
   .cases h
   .omega
 .rintro rfl;simp
def uQ(a b:Nat)(hs:(dg a).length+(dg b).length<1099511627776:=by omega):aX prog 164 [mT a,mT b] (.ret [.one (.int .i64 (gD a b))]):=by
 refine dh (args:=[.v (some 1),.v (some 1)]) (ins:=[.v (mT a),.v (mT b)]) (hints:=fun _=>none) fo aS func164 ⟨rfl,rfl,trivial⟩ ?_;rw[aw2];dsimp only[List.map,In.env];apply vn (ae eY dA);apply vn (ae eY dA);apply aA (aQ3 _ _);apply vn WR;refine nI (!decide (gD ((dg a).length:Int) ((dg b).length:Int)=0)) rfl (fun h=>?_) (fun h=>?_)
 .refine aR ?_;have hne:¬gD ((dg a).length:Int) ((dg b).length:Int)=0:=by simpa using h
  have:gD ((dg a).length:Int) ((dg b).length:Int)=gD a b:=by
   rcases Nat.lt_trichotomy (dg a).length (dg b).length with hl | hl | hl
   .rw[uM O,uM (by have:=xw hl;omega)]
   .rw[hl]at hne;exact absurd (BU _) hne
   .rw[ui O,ui (by have:=xw hl;omega)]
  rw[<-this];rfl
 .have he:(dg a).length=(dg b).length:=by
   have:gD ((dg a).length:Int) ((dg b).length:Int)=0:=by simpa using h
   have:=Oq.1 this;omega
  apply vn (ae eY dA);apply vn (qJ (c:=((dg a).length:Int)-1) (by rw[pB]<;>omega)) rfl;refine bZ {n:Nat // n<=(dg a).length/\(dg a).drop n=(dg b).drop n} (fun g=>[.one (.int .i64 0),.one (.int .i64 ((g.1:Int)-1))]) (fun g=>g.1) ⟨(dg a).length,ah _,by rw[BQ,he,BQ]⟩ ai.rfl (fun _=>rfl) ?_;rintro⟨n,hn,hdr⟩;dsimp only[aU,aV];apply vn HE;refine l4 ?_ ?_<;>intro h1
  .have hla:n-1<(dg a).length:=O
   have hlb:n-1<(dg b).length:=O
   have hga:(dg a)[n-1]?=some ((dg a)[n-1]'hla):=bM hla;have hgb:(dg b)[n-1]?=some ((dg b)[n-1]'hlb):=bM hlb;generalize hxe:(dg a)[n-1]'hla=x at hga;generalize hye:(dg b)[n-1]'hlb=y at hgb;have htn:((n:Int)-1).toNat=n-1:=O
   have hdr':(dg a).drop (n-1+1)=(dg b).drop (n-1+1):=by rw[show n-1+1=n by omega];exact hdr
   apply vn (MN eY (by rw[htn];exact hga)) rfl;apply vn KD;apply vn (MN eY (by rw[htn];exact hgb)) rfl;apply vn KD;apply aA (aM8 _ _);apply vn WR;refine nI (!decide (gD (x:Int) (y:Int)=0)) rfl (fun h2=>?_) (fun h2=>?_)
   .refine aR ?_;have hne:¬gD (x:Int) (y:Int)=0:=by simpa using h2
    have:gD (x:Int) (y:Int)=gD a b:=by
     rcases Nat.lt_trichotomy x y with hl | hl | hl
     .have:=wM (mC a) he hga hgb hdr' hl;rw[jX,jX]at this;rw[uM O,uM O]
     .subst hl;exact absurd (BU _) hne
     .have:=wM (mC b) he.symm hgb hga hdr'.symm hl;rw[jX,jX]at this;rw[ui O,ui O]
    rw[<-this];rfl
   .have hxy:x=y:=by
     have:gD (x:Int) (y:Int)=0:=by simpa using h2
     have:=Oq.1 this;omega
    apply vn (qJ (c:=((n-1:Nat):Int)-1) (by rw[pB]<;>omega)) rfl;dsimp only[aU,aV];refine aq rfl ⟨⟨n-1,O,?_⟩,ai.rfl,by show n-1<n;omega⟩;rw[jW hla,jW hlb,hxe,hye,hxy,hdr']
  .have hn0:n=0:=O
   subst hn0;refine aR ?_;rw[gd,gd]at hdr;have:a=b:=by have:=congrArg lv hdr;rwa[jX,jX]at this
   subst this;exact congrArg (fun x=>[aQ.one (aC.int .i64 x)]) (BU (a:Int)).symm
def Un{xs:c7}{i x:Nat}(h:xs[i]?=some x):lv (xs.drop i)=x+1000000000*lv (xs.drop (i+1)):=by
 have hi:i<xs.length:=(cL.1 h).1;rw[jW hi,(cL.1 h).2];rfl
structure PH(xs:c7)(d n r:Nat)(os:c7):Prop where
 le:n<=xs.length
 len:os.length=xs.length
 dg:Dg os
 r1:r<d
 eq:lv (os.drop n)*d+r=lv (xs.drop n)
def PH.init(xs:c7){d:Nat}(hd:0<d):PH xs d xs.length 0 (List.replicate xs.length 0):=⟨ah _,aT,Dg.rep _,hd,by simp[lv,val]⟩
def PH.next{xs os:c7}{d n r x:Nat}(h:PH xs d (n+1) r os)(hd:d<1000000000)(hx:xs[n]?=some x)(hx1:x<1000000000):PH xs d n ((r*1000000000+x)%d) (os.set n ((r*1000000000+x)/d)):=by
 have hd0:0<d:=by have:=h.r1;omega
 have hq:(r*1000000000+x)/d<1000000000:=by
  rw[kZ hd0];have h1:=h.r1;have:(r+1)*1000000000<=d*1000000000:=cY _ h1;rw[bt]at this;rw[cN 1000000000 d];omega
 have hl:=h.le;have hlen:=h.len;refine⟨O,by rw[al];exact hlen,h.dg.set hq,eC _ hd0,?_⟩
 have hs:(os.set n ((r*1000000000+x)/d))[n]?=some ((r*1000000000+x)/d):=by
  rw[lj O]
 rw[Un hs,Un hx,Cf O,<-h.eq];have h1:=QM (r*1000000000+x) d;rw[cN d]at h1;simp only[bt,dr,ej];omega
def PH.fin{xs os:c7}{d r:Nat}(h:PH xs d 0 r os):lv os=lv xs/d/\r=lv xs%d:=by
 have h1:=h.eq;rw[gd,gd]at h1;have h2:=h.r1;have e:lv xs=r+d*lv os:=by rw[<-h1,cN];omega
 constructor
 .rw[e,pn _ _ O,fR h2,bW]
 .rw[e,uR,fL h2]
def Vg(a d:Nat)(hd0:0<d)(hd:d<1000000000)(hs:(dg a).length<1099511627776:=by omega):aX prog 243 [mT a,.one (.int .u32 d)] (.ret [mT (a/d),mT (a%d)]):=by
 refine dh (args:=[.v (some 1),.v none]) (ins:=[.v (mT a),.v (.one (.int .u32 d))]) (hints:=fun _=>none) fo aS func243 ⟨rfl,rfl,trivial⟩ ?_;rw[aU0];dsimp only[List.map,In.env];apply vn (ae eY dA);refine tf (n:=(dg a).length) (m:=(dg a).length) rfl rfl Sm (ah _) O (by simp[maxLen];omega) ?_;apply vn (ae eY dA);apply vn (qJ (c:=((dg a).length:Int)-1) (by rw[pB]<;>omega)) rfl;refine bZ {g:Nat×Nat×List Nat // PH (dg a) d g.1 g.2.1 g.2.2} (fun g=>[.one (.int .u64 g.1.2.1),.one (.int .i64 ((g.1.1:Int)-1)),.rows (rT g.1.2.2)]) (fun g=>g.1.1) ⟨((dg a).length,0,List.replicate (dg a).length 0),PH.init _ hd0⟩ ai.rfl (fun _=>rfl) ?_;rintro⟨⟨n,r,os⟩,hI⟩;dsimp only[aU,aV]at hI|-;have hr1:=hI.r1;have hln:=hI.le;apply vn HE;refine l4 ?_ ?_<;>intro h1
 .obtain⟨m,rfl⟩:∃m,n=m+1:=⟨n-1,O⟩
  have hlt:m<(dg a).length:=O
  have hget:(dg a)[m]?=some ((dg a)[m]'hlt):=bM hlt;generalize (dg a)[m]'hlt=x at hget;have hx:=(mC a).get hget;have hol:m<os.length:=by rw[hI.len];omega
  have hok:os[m]?=some (os[m]'hol):=bM hol;have htn:(((m+1:Nat):Int)-1).toNat=m:=O
  apply vn (wi (c:=((r*1000000000:Nat):Int)) (by rw[tV]<;>omega)) rfl;apply vn (MN eY (by rw[htn];exact hget)) rfl;apply vn KD;apply vn (kh ⟨_,jZ⟩ jx (c:=(x:Int)) (by rw[tV]<;>omega)) rfl;apply vn (gF (c:=((r*1000000000+x:Nat):Int)) (by rw[tV]<;>omega)) rfl;dsimp only[aU,aV];have hN:=hI.next hd hget hx;have hqd:=hN.dg.get (i:=m) (d:=(r*1000000000+x)/d) (lj O);have hrd:=hN.r1;generalize hw:r*1000000000+x=w at hN hqd hrd|-;generalize hq:w/d=q at hN hqd;generalize hm:w%d=rr at hN hrd;apply vn (kh ⟨_,jZ⟩ jx (c:=(d:Int)) (by rw[tV]<;>omega)) rfl;apply vn (rG (c:=(q:Int)) O (by rw[qa O,<-BF,hq,tV]<;>omega)) rfl;apply vn (kh ⟨_,jx⟩ jZ (c:=(q:Int)) (by rw[ze]<;>omega)) rfl;apply vn (kh ⟨_,jZ⟩ jx (c:=(d:Int)) (by rw[tV]<;>omega)) rfl;apply vn (Ff (c:=(rr:Int)) O (by rw[sa O,<-TC,hm]));refine tC (ts:=rT os) rfl rfl O (by rw[dA];omega) ?_;refine NM (ts:=rT os) (us:=rT (os.set m q)) rfl rfl O (qZ (by rw[htn];exact hok)) (by rw[htn];exact mH) ?_;apply vn (qJ (c:=(m:Int)-1) (by rw[pB]<;>omega)) rfl;dsimp only[aU,aV];exact aq rfl ⟨⟨(m,rr,os.set m q),hN⟩,ai.rfl,by show m<m+1;omega⟩
 .have hn0:n=0:=O
  subst hn0;obtain⟨hf1,hf2⟩:=hI.fin;rw[jX]at hf1 hf2;apply aA (kx os hI.dg (by rw[hI.len];omega)) rfl;apply aA (pa r);dsimp only[aU,aV];refine aR ?_;rw[hf1,<-hf2];rfl
end Go.Sy
