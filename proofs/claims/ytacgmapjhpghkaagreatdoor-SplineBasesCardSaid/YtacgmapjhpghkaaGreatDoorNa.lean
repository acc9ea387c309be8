/- Part. -/
import Derived.Test.YtacgmapjhpghkaaGreatDoorFa
import Derived.Test.YtacgmapjhpghkaaGreatDoorPa
set_option linter.all false
set_option maxHeartbeats 1000000
namespace Go.Sy
open Go Go.Proofs Tryz Ord
abbrev rT(ds:List Nat):List (List aC):=ds.map fun(d:Nat)=>[aC.int .u32 (d:Int)]
abbrev dg(n:Nat):List Nat:=kj 1000000000 n
abbrev lv(ds:List Nat):Nat:=val 1000000000 ds
abbrev dT(n:Nat):aC:=.slice 1 (rT (dg n))
abbrev mT(n:Nat):aN:=.agg [dT n]
def Dg(ds:List Nat):Prop:=∀d∈ds,d<1000000000
theorem xl{n:Int}(h0:0<=n)(h:n<4294967296):IntKind.u32.wrap n=n:=by rw[IntKind.wrap_u32];omega
theorem rW{n:Int}(h0:0<=n)(h:n<18446744073709551616):IntKind.u64.wrap n=n:=by rw[qJ];omega
theorem nV{n:Int}(h0:-9223372036854775808<=n)(h:n<9223372036854775808):IntKind.i64.wrap n=n:=by rw[IntKind.wrap_i64];omega
theorem od{ds:List Nat}{i d:Nat}(h:ds[i]?=some d):(rT ds)[i]?=some [aC.int .u32 (d:Int)]:=by
 rw[cn,h];rfl
theorem ki{ds:List Nat}{i x:Nat}:(rT ds).set i [aC.int .u32 (x:Int)]=rT (ds.set i x):=by
 rw[rT,rT,sf]
theorem cY{ds:List Nat}:(rT ds).length=ds.length:=aI _
theorem xI{n:Nat}:dg n=[]↔n=0:=by
 constructor
 ·intro h;by_cases hn:n=0
  ·exact hn
  ·rw[dg,ff (by omega) hn]at h;cases h
 ·rintro rfl;exact dJ _
theorem kW(n:Nat):Dg (dg n):=zK n
theorem iX(n:Nat):lv (dg n)=n:=vJ (by omega) n
theorem Dg.take{ds:List Nat}(h:Dg ds)(n:Nat):Dg (ds.take n):=fun d hd=>h d (iL hd)
theorem Dg.set{ds:List Nat}(h:Dg ds){i x:Nat}(hx:x<1000000000):Dg (ds.set i x):=fun d hd=>by
 rcases oB hd with hd | rfl
 ·exact h d hd
 ·exact hx
theorem Dg.get{ds:List Nat}(h:Dg ds){i d:Nat}(hd:ds[i]?=some d):d<1000000000:=h d (ei hd)
theorem Na{ds:List Nat}{i d:Nat}(h:ds[i]?=some d):ds.take (i+1)=ds.take i++[d]:=by
 rw[ma,h];rfl
theorem tM(xs ys:List Nat):lv (xs++ys)=lv xs+1000000000^xs.length*lv ys:=jb _ _ _
theorem bw2(d:Nat):lv [d]=d:=by simp[lv,val]
theorem fe{ds:List Nat}{i d:Nat}(h:ds[i]?=some d):lv (ds.take (i+1))=lv (ds.take i)+1000000000^i*d:=by
 have hi:i<ds.length:=(dM.1 h).1;rw[Na h,tM,bw2,bK,dQ (by omega)]
theorem rl{os:List Nat}{i x:Nat}(h:i<os.length):lv ((os.set i x).take (i+1))=lv (os.take i)+1000000000^i*x:=by
 rw[fe (d:=x) (by simp[h])];rw[YW (aa i)]
theorem Px{n:Nat}:List.replicate n ([Value.int .u32 0].map aC.exact)=rT (List.replicate n 0):=by
 rw[rT,nq];rfl
theorem Dg.rep(n:Nat):Dg (List.replicate n 0):=fun d hd=>by
 obtain⟨_,rfl⟩:=jW.1 hd;decide
abbrev dl(n:Nat):Nat:=(dg n).length
theorem JN{ds:List Nat}{T ty:TypeId}{x y:Operand}{k:IntKind}{n:Int}{d:Nat}(h:dY prog T=some (237,1,4))(hd:ds[n.toNat]?=some d)(h0:0<=n:=by omega) :
  ah prog (.indexAddr T x y) ty [.one (.slice 1 (rT ds)),.one (.int k n)] (.one (.aw [aC.int .u32 (d:Int)])):=Zh h (od hd) h0
theorem HM{ty:TypeId}{x:Operand}{d:Int}:ah prog (.load 237 x) ty [.one (.aw [aC.int .u32 d])] (.one (.int .u32 d)):=aQ (n:=1) vr (by decide) (by simp) (.inr rfl)
def cp7:Tr:=dp 2 1 10 (bA 0 0 4 0 40 9 11 (dh 5 237 12 (ar6 6 0 13 (aR 7 0 (dp 2 1 16 (.back 0 [lV 8 0])) (aF4 (rY 8))))))
def co8:Tr:=al 0 0 4 40 (BR 1 (qS .gtr 3 6 0 2 0 4 (aR 3 0 cp7 (aF4 (rY 4)))))
theorem ai3:aV prog f208 ck [.v none]=co8:=by kernel_rfl
theorem jo(ds:List Nat)(hd:Dg ds)(hl:ds.length<4611686018427387904:=by omega):aU prog 208 [.one (.slice 1 (rT ds))] (.ret [mT (lv ds)]):=by
 refine dF (args:=[.v none]) (ins:=[.v (.one (.slice 1 (rT ds)))]) (hints:=fun _=>none) fo (by kernel_rfl) func208 ⟨rfl,trivial⟩ ?_;rw[ai3];apply vn (aP eC cY);refine bE {n:Nat // n<=ds.length/\lv (ds.take n)=lv ds} (fun g=>[.one (.int .i64 g.1)]) (fun g=>g.1) ⟨ds.length,aa _,by rw[gw]⟩ aZ.rfl (fun _=>rfl) ?_;rintro⟨n,hn,hv⟩;dsimp only
 have fin:∀τ:Env,(n=0\/∃d,ds[n-1]?=some d/\d≠0)->(rT ds).take n=rT (dg (lv ds)):=by
  intro τ h;rw[rT,rT,<-jB]
  congr 1
  rw[<-hv,dg,lv,SB (by omega) _ (hd.take n)];intro d hlast;rcases h with rfl | ⟨d',hd',hne⟩
  ·simp at hlast
  ·rw[ac6,bK,dQ hn,dm]at hlast;split at hlast
   ·rw[hd']at hlast;simp at hlast;omega
   ·cases hlast
 apply vn Tt;refine vs _ rfl ?_ ?_<;>intro h
 ·have hlt:n-1<ds.length:=by omega
  have hget:ds[n-1]?=some (ds[n-1]'hlt):=bQ hlt;generalize ds[n-1]'hlt=d at hget;apply vn (oN (c:=((n-1:Nat):Int)) (by rw[nV]<;>omega)) rfl;apply vn (JN eC (by simpa using hget));apply vn HM;apply vn aI2;refine vs _ rfl ?_ ?_<;>intro h2
  ·apply vn (oN (c:=((n-1:Nat):Int)) (by rw[nV]<;>omega)) rfl;refine ab rfl ⟨⟨n-1,by omega,?_⟩,aZ.rfl,?_⟩
   ·have hd0:d=0:=by omega
    subst hd0;have:=fe hget;rw[eu,show n-1+1=n by omega]at this;exact(this.symm.trans hv)
   ·show n-1<n;omega
  ·apply vn (Di eC (by simpa using hn));refine aL ?_;exact congrArg (fun x=>[aN.agg [aC.slice 1 x]]) (fin [] (.inr ⟨d,hget,by omega⟩))
 ·apply vn (Di eC (by simpa using hn));refine aL ?_;exact congrArg (fun x=>[aN.agg [aC.slice 1 x]]) (fin [] (.inl (by omega)))
def bR3:Tr:=aa5 20 46 (aR 21 0 (ac8 20 48 (cF 11 10 40 50 51 (fR 11 10 22 237 53 52 (ao 10 1 3 26 (qn 1 24 23))))) (cF 11 10 40 50 51 (fR 11 10 20 237 53 52 (ao 10 1 3 26 (qn 0 23 22)))))
def bm3:Tr:=dh 18 237 43 (fF 15 19 237 39 44 bR3)
def bn9:Tr:=aa5 15 46 (aR 18 0 (ac8 15 48 (cF 11 10 40 50 51 (fR 11 10 19 237 53 52 (ao 10 1 3 26 (qn 1 21 20))))) (cF 11 10 40 50 51 (fR 11 10 15 237 53 52 (ao 10 1 3 26 (qn 0 20 19)))))
def bX6:Tr:=bA 1 0 10 0 40 24 26 (dh 13 237 29 (fF 14 9 237 31 32 (al 0 0 36 40 (dD 10 0 16 3 34 37 4 (aR 17 0 (bA 0 0 10 0 40 41 42 bm3) bn9)))))
def bj9:Tr:=cF 11 13 40 55 58 (fR 11 13 9 237 60 59 (Zr 14 61 (rY 15)))
def cn7:Tr:=ao 5 1 3 20 (BN 6 21 (al 1 0 24 40 (My 7 (dD 10 0 8 3 26 25 0 (aR 12 0 bX6 (al 1 0 57 40 bj9))))))
def bU2:Tr:=bA 0 0 10 0 40 24 26 (dh 13 237 29 (fF 14 9 237 31 32 (al 1 0 36 40 (dD 10 0 16 3 34 37 4 (aR 17 0 (bA 1 0 10 0 40 41 42 bm3) bn9)))))
def bW9:Tr:=ao 5 1 3 20 (BN 6 21 (al 0 0 24 40 (My 7 (dD 10 0 8 3 26 25 0 (aR 12 0 bU2 (al 0 0 57 40 bj9))))))
def cp6:Tr:=al 0 0 10 40 (al 1 0 13 40 (dD 2 0 3 3 11 14 4 (aR 4 0 (al 1 0 19 40 cn7) (al 0 0 19 40 bW9))))
theorem by4:aV prog f209 ck [.v (some 1),.v (some 1)]=cp6:=by kernel_rfl
structure qN(xs ys:List Nat)(i c:Nat)(os:List Nat):Prop where
 le:i<=xs.length
 c1:c<=1
 len:os.length=xs.length+1
 dg:Dg os
 eq:lv (os.take i)+1000000000^i*c=lv (xs.take i)+lv (ys.take i)
theorem qN.init(xs ys:List Nat):qN xs ys 0 0 (List.replicate (xs.length+1) 0):=⟨cz _,by omega,by simp,Dg.rep _,by simp[lv,val]⟩
theorem qN.next{xs ys os:List Nat}{i c x y c' z:Nat}(h:qN xs ys i c os)(hi:i<xs.length)(hx:xs[i]?=some x)(hy:ys[i]?.getD 0=y)(hc:c'<=1)(hz:z<1000000000)(he:z+1000000000*c'=x+c+y):qN xs ys (i+1) c' (os.set i z):=by
 refine⟨hi,hc,by rw[bJ];exact h.len,h.dg.set hz,?_⟩;rw[rl (by rw[h.len];omega),fe hx,bh]
 have hb:lv (ys.take (i+1))=lv (ys.take i)+1000000000^i*y:=by
  cases hbi:ys[i]? with
  | some d=>rw[hbi]at hy;simp only[gO]at hy;subst hy;exact fe hbi
  | none=>
    rw[hbi]at hy;simp only[Nk]at hy;subst hy;have:=eZ.1 hbi;rw[dP (by omega),dP (by omega)];omega
 rw[hb];have h1:=h.eq;have h2:=congrArg (fun t=>1000000000^i*t) he;simp only[ep]at h2;rw[eW];omega
theorem qN.fin{xs ys os:List Nat}{c:Nat}{n:Nat}(h:qN xs ys xs.length c os)(hle:ys.length<=xs.length)(he:lv xs+lv ys=n):lv (os.set xs.length c)=n:=by
 have h1:=rl (os:=os) (i:=xs.length) (x:=c) (by rw[h.len];omega);rw[dP (by rw[bJ,h.len];omega)]at h1;have h2:=h.eq;rw[gw,dP hle]at h2;omega
theorem aG9(a b:Nat)(hs:(dg a).length+(dg b).length<1099511627776:=by omega):aU prog 209 [mT a,mT b] (.ret [mT (a+b)]):=by
 refine dF (args:=[.v (some 1),.v (some 1)]) (ins:=[.v (mT a),.v (mT b)]) (hints:=fun _=>none) fo (by kernel_rfl) func209 ⟨rfl,rfl,trivial⟩ ?_;rw[by4];dsimp only[List.map,In.env];apply vn (aP eC cY);apply vn (aP eC cY);apply vn tW;refine vs _ rfl ?_ ?_<;>intro hab
 ·skip
  apply vn (aP eC cY);dsimp only[aE,aF];apply vn (fS (c:=(((dg b).length+1:Nat):Int)) (by rw[nV]<;>omega)) rfl;refine ri (n:=(dg b).length+1) (m:=(dg b).length+1) rfl rfl Px (aa _) (by omega) (by simp[maxLen];omega) ?_;apply vn (aP eC cY);refine bE {g:Nat×Nat×List Nat // qN (dg b) (dg a) g.1 g.2.1 g.2.2} (fun g=>[.one (.int .u32 g.1.2.1),.one (.int .i64 g.1.1),.rows (rT g.1.2.2)]) (fun g=>(dg b).length-g.1.1) ⟨(0,0,List.replicate ((dg b).length+1) 0),qN.init _ _⟩ aZ.rfl (fun _=>rfl) ?_;rintro⟨⟨i,c,os⟩,hI⟩;dsimp only[aE,aF]at hI|-;apply vn tW;refine vs _ rfl ?_ ?_<;>intro h
  ·have hlt:i<(dg b).length:=by omega
   have hget:(dg b)[i]?=some ((dg b)[i]'hlt):=bQ hlt;generalize (dg b)[i]'hlt=x at hget;have hx:=(kW b).get hget;have hc:=hI.c1;have hol:i<os.length:=by rw[hI.len];omega
   have hog:(rT os)[((i:Int)).toNat]?=some [aC.int .u32 ((os[i]'hol:Nat):Int)]:=od (by simp);apply vn (JN eC (by simpa using hget));apply vn HM;apply vn (fS (c:=((x+c:Nat):Int)) (by rw[xl]<;>omega)) rfl;dsimp only[aE,aF];apply vn (aP eC cY);apply vn tW;refine vs _ rfl ?_ ?_<;>intro h1
   ·have hlt1:i<(dg a).length:=by omega
    have hget1:(dg a)[i]?=some ((dg a)[i]'hlt1):=bQ hlt1;generalize (dg a)[i]'hlt1=y at hget1;have hy:=(kW a).get hget1;apply vn (JN eC (by simpa using hget1));apply vn HM;dsimp only[aE,aF];apply vn (fS (c:=((x+c+y:Nat):Int)) (by rw[xl]<;>omega)) rfl;apply vn Fq;refine vs _ rfl ?_ ?_<;>intro h2
    ·apply vn (oN (c:=((x+c+y-1000000000:Nat):Int)) (by rw[xl]<;>omega)) rfl;refine qV (ts:=rT os) rfl rfl (by omega) (by rw[cY];omega) ?_;refine Mf (ts:=rT os) (us:=rT (os.set i (x+c+y-1000000000))) rfl rfl (by omega) hog ki ?_;dsimp only[aE,aF];apply vn (fS (c:=((i+1:Nat):Int)) (by rw[nV]<;>omega)) rfl;dsimp only[aE,aF];have hN:qN _ _ (i+1) 1 (os.set i (x+c+y-1000000000)):=hI.next (y:=y) hlt hget (by rw[hget1];rfl) (by omega) (by omega) (by omega);exact ab rfl ⟨⟨(i+1,1,os.set i (x+c+y-1000000000)),hN⟩,aZ.rfl,by show(dg b).length-(i+1)<(dg b).length-i;omega⟩
    ·refine qV (ts:=rT os) rfl rfl (by omega) (by rw[cY];omega) ?_;refine Mf (ts:=rT os) (us:=rT (os.set i (x+c+y))) rfl rfl (by omega) hog ki ?_;apply vn (fS (c:=((i+1:Nat):Int)) (by rw[nV]<;>omega)) rfl;dsimp only[aE,aF];have hN:qN _ _ (i+1) 0 (os.set i (x+c+y)):=hI.next (y:=y) hlt hget (by rw[hget1];rfl) (by omega) (by omega) (by omega);exact ab rfl ⟨⟨(i+1,0,os.set i (x+c+y)),hN⟩,aZ.rfl,by show(dg b).length-(i+1)<(dg b).length-i;omega⟩
   ·have hget1:(dg a)[i]?=none:=iR (by omega);apply vn Fq;refine vs _ rfl ?_ ?_<;>intro h2
    ·apply vn (oN (c:=((x+c-1000000000:Nat):Int)) (by rw[xl]<;>omega)) rfl;refine qV (ts:=rT os) rfl rfl (by omega) (by rw[cY];omega) ?_;refine Mf (ts:=rT os) (us:=rT (os.set i (x+c-1000000000))) rfl rfl (by omega) hog ki ?_;apply vn (fS (c:=((i+1:Nat):Int)) (by rw[nV]<;>omega)) rfl;dsimp only[aE,aF];have hN:qN _ _ (i+1) 1 (os.set i (x+c-1000000000)):=hI.next (y:=0) hlt hget (by rw[hget1];rfl) (by omega) (by omega) (by omega);exact ab rfl ⟨⟨(i+1,1,os.set i (x+c-1000000000)),hN⟩,aZ.rfl,by show(dg b).length-(i+1)<(dg b).length-i;omega⟩
    ·refine qV (ts:=rT os) rfl rfl (by omega) (by rw[cY];omega) ?_;refine Mf (ts:=rT os) (us:=rT (os.set i (x+c))) rfl rfl (by omega) hog ki ?_;apply vn (fS (c:=((i+1:Nat):Int)) (by rw[nV]<;>omega)) rfl;dsimp only[aE,aF];have hN:qN _ _ (i+1) 0 (os.set i (x+c)):=hI.next (y:=0) hlt hget (by rw[hget1];rfl) (by omega) (by omega) (by omega);exact ab rfl ⟨⟨(i+1,0,os.set i (x+c)),hN⟩,aZ.rfl,by show(dg b).length-(i+1)<(dg b).length-i;omega⟩
  ·have hie:i=(dg b).length:=by have:=hI.le;omega
   subst hie;have hol:(dg b).length<os.length:=by rw[hI.len];omega
   have hog:(rT os)[(((dg b).length:Int)).toNat]?=some [aC.int .u32 ((os[(dg b).length]'hol:Nat):Int)]:=od (by simp);apply vn (aP eC cY);refine qV (ts:=rT os) rfl rfl (by omega) (by rw[cY];omega) ?_;refine Mf (ts:=rT os) (us:=rT (os.set ((dg b).length) c)) rfl rfl (by omega) hog ki ?_;apply aA (jo (os.set ((dg b).length) c) (hI.dg.set (by have:=hI.c1;omega)) (by rw[bJ,hI.len];omega)) rfl;dsimp only[aE,aF];refine aL ?_;rw[hI.fin (n:=a+b) (by omega) (by rw[iX,iX]<;>omega)];rfl
 ·skip
  apply vn (aP eC cY);apply vn (fS (c:=(((dg a).length+1:Nat):Int)) (by rw[nV]<;>omega)) rfl;refine ri (n:=(dg a).length+1) (m:=(dg a).length+1) rfl rfl Px (aa _) (by omega) (by simp[maxLen];omega) ?_;apply vn (aP eC cY);dsimp only[aE,aF];refine bE {g:Nat×Nat×List Nat // qN (dg a) (dg b) g.1 g.2.1 g.2.2} (fun g=>[.one (.int .u32 g.1.2.1),.one (.int .i64 g.1.1),.rows (rT g.1.2.2)]) (fun g=>(dg a).length-g.1.1) ⟨(0,0,List.replicate ((dg a).length+1) 0),qN.init _ _⟩ aZ.rfl (fun _=>rfl) ?_;rintro⟨⟨i,c,os⟩,hI⟩;dsimp only[aE,aF]at hI|-;apply vn tW;refine vs _ rfl ?_ ?_<;>intro h
  ·have hlt:i<(dg a).length:=by omega
   have hget:(dg a)[i]?=some ((dg a)[i]'hlt):=bQ hlt;generalize (dg a)[i]'hlt=x at hget;have hx:=(kW a).get hget;have hc:=hI.c1;have hol:i<os.length:=by rw[hI.len];omega
   have hog:(rT os)[((i:Int)).toNat]?=some [aC.int .u32 ((os[i]'hol:Nat):Int)]:=od (by simp);apply vn (JN eC (by simpa using hget));apply vn HM;apply vn (fS (c:=((x+c:Nat):Int)) (by rw[xl]<;>omega)) rfl;dsimp only[aE,aF];apply vn (aP eC cY);apply vn tW;refine vs _ rfl ?_ ?_<;>intro h1
   ·have hlt1:i<(dg b).length:=by omega
    have hget1:(dg b)[i]?=some ((dg b)[i]'hlt1):=bQ hlt1;generalize (dg b)[i]'hlt1=y at hget1;have hy:=(kW b).get hget1;apply vn (JN eC (by simpa using hget1));apply vn HM;dsimp only[aE,aF];apply vn (fS (c:=((x+c+y:Nat):Int)) (by rw[xl]<;>omega)) rfl;apply vn Fq;refine vs _ rfl ?_ ?_<;>intro h2
    ·apply vn (oN (c:=((x+c+y-1000000000:Nat):Int)) (by rw[xl]<;>omega)) rfl;refine qV (ts:=rT os) rfl rfl (by omega) (by rw[cY];omega) ?_;refine Mf (ts:=rT os) (us:=rT (os.set i (x+c+y-1000000000))) rfl rfl (by omega) hog ki ?_;dsimp only[aE,aF];apply vn (fS (c:=((i+1:Nat):Int)) (by rw[nV]<;>omega)) rfl;dsimp only[aE,aF];have hN:qN _ _ (i+1) 1 (os.set i (x+c+y-1000000000)):=hI.next (y:=y) hlt hget (by rw[hget1];rfl) (by omega) (by omega) (by omega);exact ab rfl ⟨⟨(i+1,1,os.set i (x+c+y-1000000000)),hN⟩,aZ.rfl,by show(dg a).length-(i+1)<(dg a).length-i;omega⟩
    ·refine qV (ts:=rT os) rfl rfl (by omega) (by rw[cY];omega) ?_;refine Mf (ts:=rT os) (us:=rT (os.set i (x+c+y))) rfl rfl (by omega) hog ki ?_;apply vn (fS (c:=((i+1:Nat):Int)) (by rw[nV]<;>omega)) rfl;dsimp only[aE,aF];have hN:qN _ _ (i+1) 0 (os.set i (x+c+y)):=hI.next (y:=y) hlt hget (by rw[hget1];rfl) (by omega) (by omega) (by omega);exact ab rfl ⟨⟨(i+1,0,os.set i (x+c+y)),hN⟩,aZ.rfl,by show(dg a).length-(i+1)<(dg a).length-i;omega⟩
   ·have hget1:(dg b)[i]?=none:=iR (by omega);apply vn Fq;refine vs _ rfl ?_ ?_<;>intro h2
    ·apply vn (oN (c:=((x+c-1000000000:Nat):Int)) (by rw[xl]<;>omega)) rfl;refine qV (ts:=rT os) rfl rfl (by omega) (by rw[cY];omega) ?_;refine Mf (ts:=rT os) (us:=rT (os.set i (x+c-1000000000))) rfl rfl (by omega) hog ki ?_;apply vn (fS (c:=((i+1:Nat):Int)) (by rw[nV]<;>omega)) rfl;dsimp only[aE,aF];have hN:qN _ _ (i+1) 1 (os.set i (x+c-1000000000)):=hI.next (y:=0) hlt hget (by rw[hget1];rfl) (by omega) (by omega) (by omega);exact ab rfl ⟨⟨(i+1,1,os.set i (x+c-1000000000)),hN⟩,aZ.rfl,by show(dg a).length-(i+1)<(dg a).length-i;omega⟩
    ·refine qV (ts:=rT os) rfl rfl (by omega) (by rw[cY];omega) ?_;refine Mf (ts:=rT os) (us:=rT (os.set i (x+c))) rfl rfl (by omega) hog ki ?_;apply vn (fS (c:=((i+1:Nat):Int)) (by rw[nV]<;>omega)) rfl;dsimp only[aE,aF];have hN:qN _ _ (i+1) 0 (os.set i (x+c)):=hI.next (y:=0) hlt hget (by rw[hget1];rfl) (by omega) (by omega) (by omega);exact ab rfl ⟨⟨(i+1,0,os.set i (x+c)),hN⟩,aZ.rfl,by show(dg a).length-(i+1)<(dg a).length-i;omega⟩
  ·have hie:i=(dg a).length:=by have:=hI.le;omega
   subst hie;have hol:(dg a).length<os.length:=by rw[hI.len];omega
   have hog:(rT os)[(((dg a).length:Int)).toNat]?=some [aC.int .u32 ((os[(dg a).length]'hol:Nat):Int)]:=od (by simp);apply vn (aP eC cY);refine qV (ts:=rT os) rfl rfl (by omega) (by rw[cY];omega) ?_;refine Mf (ts:=rT os) (us:=rT (os.set ((dg a).length) c)) rfl rfl (by omega) hog ki ?_;apply aA (jo (os.set ((dg a).length) c) (hI.dg.set (by have:=hI.c1;omega)) (by rw[bJ,hI.len];omega)) rfl;dsimp only[aE,aF];refine aL ?_;rw[hI.fin (n:=a+b) (by omega) (by rw[iX,iX]<;>omega)];rfl
def cn3:Tr:=al 0 0 4 40 (eB 1 0 0 3 5 (cH 2))
theorem bA2:aV prog f172 ck [.v (some 1)]=cn3:=by kernel_rfl
def cm5:Tr:=aR 3 0 (ad4 1 9 (gJ 4 236 237 10 (vH 5 40 11 (fH 1 4 2 6 8 12 40 (YR 1 6 (gq 0 8 7)))))) (.ret [(.agg [(.c (.sr 1 2))])])
def co6:Tr:=Yt (.need (.prim [(W 1 0),(.one (.c (.k (.int .u64 0))))] none) (.binOp .gtr 236 (tT 4) (.const (.int .u64 0)) 236) 4 false cm5)
theorem bi8:aV prog f206 ck [.v none]=co6:=by kernel_rfl
def co3:Tr:=aR 0 0 (fO 172 [(G1 1)] [none] [8] [42] 4 false (kL 2 0 9 (lx 1 0 3 0))) (.ret [(.agg [(U 1 0),(tE (.bool false))])])
theorem aE6:aV prog f158 ck [.v none,.v (some 1)]=co3:=by kernel_rfl
def aZ9:Tr:=og 0
def aW2:Tr:=og (-1)
def aO3:Tr:=og 1
def co0:Tr:=Cc 172 0 0 5 4 (aR 1 0 aZ9 (aR 0 1 aW2 aO3))
theorem aY2:aV prog f91 ck [.v (some 2)]=co0:=by kernel_rfl
theorem te(n:Nat):aU prog 172 [mT n] (.ret [.one (.bool (decide (n=0)))]):=by
 refine dF (args:=[.v (some 1)]) (ins:=[.v (mT n)]) (hints:=fun _=>none) fo (by kernel_rfl) func172 ⟨rfl,trivial⟩ ?_;rw[bA2];apply vn (aP eC rfl);apply vn aI2;refine aL ?_;show[aN.one (.bool (decide (_=(0:Int))))]=_
 have h:((rT (dg n)).length:Int)=0↔n=0:=by
  rw[cY,<-xI];cases dg n<;>simp;omega
 simp only[h]
theorem nu(n:Nat)(h:n<18446744073709551616:=by omega):aU prog 206 [.one (.int .u64 n)] (.ret [mT n]):=by
 refine dF (args:=[.v none]) (ins:=[.v (.one (.int .u64 n))]) (hints:=fun _=>none) fo (by kernel_rfl) func206 ⟨rfl,trivial⟩ ?_;rw[bi8];have hlen:(dg n).length<=3:=kQ;refine bE {p:Nat×List Nat // p.2++dg p.1=dg n/\p.1<=n} (fun g=>[.one (.int .u64 g.1.1),.rows (rT g.1.2)]) (fun g=>g.1.1) ⟨(n,[]),by simp⟩ aZ.rfl (fun _=>rfl) ?_;rintro⟨⟨k,ds⟩,hinv,hle⟩;dsimp only[List.map,In.env,aE,aF]at hinv hle|-;have hds:ds.length<=3:=by have:=congrArg List.length hinv;simp at this;omega
 apply vn Tt;refine vs _ rfl ?_ ?_<;>intro hk
 ·apply vn (CK (c:=((k%1000000000:Nat):Int)) (by decide) (by rw[qM (by omega)];omega)) rfl;apply vn (jg ⟨_,jL⟩ ib (c:=((k%1000000000:Nat):Int)) (xl (by omega) (by omega)));apply eL (us:=rT [k%1000000000]);refine uH (ts:=rT ds) (us:=rT [k%1000000000]) (vs:=rT (ds++[k%1000000000])) rfl rfl List.map_append.symm (by simp;omega) (by simp[maxLen];omega) ?_;apply vn (pK (c:=((k/1000000000:Nat):Int)) (by decide) (by rw[oa (by omega),rW (by omega) (by omega)];omega)) rfl;refine ab rfl ⟨⟨(k/1000000000,ds++[k%1000000000]),?_,?_⟩,?_,?_⟩
  ·have:k≠0:=by omega
   rw[<-hinv,dg,dg,ff (n:=k) (by omega) this];simp
  ·show k/1000000000<=n;omega
  ·exact aZ.rfl
  ·show k/1000000000<k;omega
 ·have:k=0:=by omega
  subst this;refine aL ?_;have e:dg 0=[]:=dJ _;rw[e,bw]at hinv;subst hinv;rfl
abbrev iT(z:Int):aN:=.agg [dT z.natAbs,.bool (decide (z<0))]
theorem iQ(m:Bool)(n:Nat)(z:Int)(hz:z=if m then -(n:Int)else n):aU prog 158 [.one (.bool m),mT n] (.ret [iT z]):=by
 refine dF (args:=[.v none,.v (some 1)]) (ins:=[.v (.one (.bool m)),.v (mT n)]) (hints:=fun _=>none) fo (by kernel_rfl) func158 ⟨rfl,rfl,trivial⟩ ?_;rw[aE6];have ha:z.natAbs=n:=by subst hz;cases m<;>simp
 refine jm m rfl (fun hm=>?_) (fun hm=>?_)
 ·subst hm;apply aA (te n);apply vn gQ;refine aL ?_;have:(!decide (n=0))=decide (z<0):=by subst hz;simp;by_cases h:n=0<;>simp[h]<;>omega
  show[aN.agg [dT n,.bool (!decide (n=0))]]=_;rw[this,iT,ha]
 ·subst hm;refine aL ?_;have:false=decide (z<0):=by subst hz;simp
  show[aN.agg [dT n,.bool false]]=_;rw[this,iT,ha]
def bT6:Tr:=ad4 26 54 (gJ 28 236 237 55 (YR 26 57 (cF 15 27 40 50 53 (fR 15 27 29 237 59 56 (ao 14 1 3 30 (qi 1 30 32 31))))))
def bS8:Tr:=fF 7 14 3 42 43 (cF 15 22 40 41 44 (nN 15 22 237 45 (gJ 23 237 236 46 (fF 21 24 236 40 47 (fF 13 25 236 35 48 (fF 7 14 3 51 52 bT6))))))
def ci5:Tr:=al 1 0 64 40 (fF 7 17 3 62 65 (gJ 13 236 237 67 (cF 15 18 40 61 66 (fR 15 18 19 237 69 68 (ao 7 1 3 22 (gq 0 21 20))))))
def cd9:Tr:=dD 14 0 12 3 30 29 0 (aR 16 0 (bA 1 0 14 0 40 28 30 (dh 17 237 33 (gJ 11 237 236 36 (gJ 18 237 236 38 (oe .mul 236 37 39 19 0 20 0 236 bS8))))) ci5)
def cq2:Tr:=Ed 0 5 (dD 7 0 6 3 22 21 0 (aR 9 0 (bA 0 0 7 0 40 20 22 (dh 10 237 25 (al 1 0 28 40 (.loop 1 [(.w (.one (.c (.k (.int .u64 0))))),lK 0,.row 8] cd9)))) (Zr 8 71 (rY 10))))
def co9:Tr:=al 0 0 12 40 (al 1 0 15 40 (fF 2 3 3 13 16 (BN 4 17 (al 0 0 20 40 cq2))))
theorem aX0:aV prog f162 ck [.v (some 1),.v (some 1)]=co9:=by kernel_rfl
theorem bJ6{os:List Nat}{j z old n:Nat}(hj:os[j]?=some old)(hjn:j<n:=by omega):lv ((os.set j z).take n)+1000000000^j*old=lv (os.take n)+1000000000^j*z:=by
 have hlt:j<os.length:=(dM.1 hj).1
 have key:∀(os:List Nat)(j n:Nat),os[j]?=some old->j<n->lv ((os.set j z).take n)+1000000000^j*old=lv (os.take n)+1000000000^j*z:=by
  intro os
  induction os with
  | nil=>intro j n h;simp at h
  | cons d os ih=>
    intro j n h hn;obtain⟨m,rfl⟩:∃m,n=m+1:=⟨n-1,by omega⟩
    cases j with
    | zero=>
      simp only[lp,aW]at h;subst h;simp only[so,mZ,lv,val];omega
    | succ j=>
      have:=ih j m (by simpa using h) (by omega);simp only[ze,mZ,lv,val,bh]at this|-;have h1:1000000000^j*1000000000*old=1000000000*(1000000000^j*old):=by rw[Ao,cD]
      have h2:1000000000^j*1000000000*z=1000000000*(1000000000^j*z):=by rw[Ao,cD]
      rw[h1,h2];omega
 exact key os j n hj hjn
theorem bd4(n:Nat):lv (List.replicate n 0)=0:=by
 induction n with
 | zero=>rfl
 | succ n ih=>rw[jU,lv,val];simp only[lv]at ih;rw[ih]
structure RE(xs ys:List Nat)(i:Nat)(os:List Nat):Prop where
 le:i<=xs.length
 len:os.length=xs.length+ys.length
 dg:Dg os
 eq:lv (os.take (i+ys.length))=lv (xs.take i)*lv ys
structure TIn(xs ys:List Nat)(i x T k c:Nat)(os:List Nat):Prop where
 le:k<=ys.length
 len:os.length=xs.length+ys.length
 dg:Dg os
 c1:c<1000000000
 eq:lv (os.take (i+ys.length))+1000000000^(i+k)*c=T+x*(1000000000^i*lv (ys.take k))
theorem RE.init(xs ys:List Nat):RE xs ys 0 (List.replicate (xs.length+ys.length) 0):=⟨cz _,by simp,Dg.rep _,by
 rw[ac2,bd4];simp[lv,val]⟩
theorem RE.inn{xs ys os:List Nat}{i x:Nat}(h:RE xs ys i os):TIn xs ys i x (lv (xs.take i)*lv ys) 0 0 os:=⟨cz _,h.len,h.dg,by omega,by rw[h.eq];simp[lv,val]⟩
theorem TIn.next{xs ys os:List Nat}{i x T k c y old z c':Nat}(h:TIn xs ys i x T k c os)(hi:i<xs.length)(hk:k<ys.length)(hx:x<1000000000)(hy:ys[k]?=some y)(ho:os[i+k]?=some old)(hz:z<1000000000)(hc:c'<1000000000)(he:z+1000000000*c'=c+(x*y+old)) :
  TIn xs ys i x T (k+1) c' (os.set (i+k) z):=by
 refine⟨hk,by rw[bJ];exact h.len,h.dg.set hz,hc,?_⟩;have h1:=bJ6 (z:=z) (n:=i+ys.length) ho;have h2:=congrArg (fun t=>1000000000^(i+k)*t) he;have h3:=h.eq;rw[fe hy];simp only[ep]at h2|-;have e1:1000000000^(i+(k+1))*c'=1000000000^(i+k)*(1000000000*c'):=by rw[<-jA,bh,eW]
 have e2:x*(1000000000^i*(1000000000^k*y))=1000000000^(i+k)*(x*y):=by rw[eP];simp only[mL,eW]
 rw[e1,e2];omega
theorem TIn.out{xs ys os:List Nat}{i x c:Nat}(h:TIn xs ys i x (lv (xs.take i)*lv ys) ys.length c os)(hx:xs[i]?=some x):RE xs ys (i+1) (os.set (i+ys.length) c):=by
 have hi:i<xs.length:=(dM.1 hx).1;refine⟨hi,by rw[bJ];exact h.len,h.dg.set h.c1,?_⟩;have h3:=h.eq;rw[gw]at h3;rw[show i+1+ys.length=i+ys.length+1 by omega,rl (by rw[h.len];omega),fe hx,h3,bX]
 congr 1
 rw[mL,<-eW]
theorem RE.fin{xs ys os:List Nat}(h:RE xs ys xs.length os):lv os=lv xs*lv ys:=by
 have:=h.eq;rw[dP (by rw[h.len];omega),gw]at this;exact this
theorem nj(a b:Nat)(hs:(dg a).length+(dg b).length<1099511627776:=by omega):aU prog 162 [mT a,mT b] (.ret [mT (a*b)]):=by
 refine dF (args:=[.v (some 1),.v (some 1)]) (ins:=[.v (mT a),.v (mT b)]) (hints:=fun _=>none) fo (by kernel_rfl) func162 ⟨rfl,rfl,trivial⟩ ?_;rw[aX0];dsimp only[List.map,In.env];apply vn (aP eC cY);apply vn (aP eC cY);apply vn (fS (c:=(((dg a).length+(dg b).length:Nat):Int)) (by rw[nV]<;>omega)) rfl;refine ri (n:=(dg a).length+(dg b).length) (m:=(dg a).length+(dg b).length) rfl rfl Px (aa _) (by omega) (by simp[maxLen];omega) ?_;dsimp only[aE,aF];apply vn (aP eC cY);refine bE {g:Nat×List Nat // RE (dg a) (dg b) g.1 g.2} (fun g=>[.one (.int .i64 g.1.1),.rows (rT g.1.2)]) (fun g=>(dg a).length-g.1.1) ⟨(0,List.replicate ((dg a).length+(dg b).length) 0),RE.init _ _⟩ aZ.rfl (fun _=>rfl) ?_;rintro⟨⟨i,os⟩,hO⟩;dsimp only[aE,aF]at hO|-;apply vn tW;refine vs _ rfl ?_ ?_<;>intro h
 ·have hlt:i<(dg a).length:=by omega
  have hget:(dg a)[i]?=some ((dg a)[i]'hlt):=bQ hlt;generalize (dg a)[i]'hlt=x at hget;have hx:=(kW a).get hget;apply vn (JN eC (by simpa using hget));apply vn HM;apply vn (aP eC cY);dsimp only[aE,aF];refine bE {g:Nat×Nat×List Nat // TIn (dg a) (dg b) i x (lv ((dg a).take i)*lv (dg b)) g.1 g.2.1 g.2.2} (fun g=>[.one (.int .u64 g.1.2.1),.one (.int .i64 g.1.1),.rows (rT g.1.2.2)]) (fun g=>(dg b).length-g.1.1) ⟨(0,0,os),hO.inn⟩ aZ.rfl (fun _=>rfl) ?_;rintro⟨⟨k,c,os2⟩,hI⟩;dsimp only[aE,aF]at hI|-;have hc:=hI.c1;apply vn tW;refine vs _ rfl ?_ ?_<;>intro h1
  ·have hlk:k<(dg b).length:=by omega
   have hgk:(dg b)[k]?=some ((dg b)[k]'hlk):=bQ hlk;generalize (dg b)[k]'hlk=y at hgk;have hy:=(kW b).get hgk;have hol:i+k<os2.length:=by rw[hI.len];omega
   have hok:os2[i+k]?=some (os2[i+k]'hol):=bQ hol;generalize os2[i+k]'hol=old at hok;have hold:=hI.dg.get hok;have hxy:x*y<=999999999*999999999:=iA (by omega) (by omega);apply vn (JN eC (by simpa using hgk));apply vn HM;apply vn (jg ⟨_,ib⟩ jL (c:=(x:Int)) (by rw[rW]<;>omega)) rfl;dsimp only[aE,aF];apply vn (jg ⟨_,ib⟩ jL (c:=(y:Int)) (by rw[rW]<;>omega)) rfl;apply vn (ur (c:=((x*y:Nat):Int)) (by rw[<-iG,rW]<;>omega)) rfl;apply vn (fS (c:=((i+k:Nat):Int)) (by rw[nV]<;>omega)) rfl;refine qV (ts:=rT os2) rfl rfl (by omega) (by rw[cY];omega) ?_;refine vld (ts:=rT os2) (cells:=[aC.int .u32 (old:Int)]) (t:=.one (.int .u32 (old:Int))) rfl rfl (by omega) (od (by rw[av];exact hok)) (.inr rfl) rfl ?_;dsimp only[aE,aF];apply vn (jg ⟨_,ib⟩ jL (c:=(old:Int)) (by rw[rW]<;>omega)) rfl;apply vn (fS (c:=((x*y+old:Nat):Int)) (by rw[rW]<;>omega)) rfl;apply vn (fS (c:=((c+(x*y+old):Nat):Int)) (by rw[rW]<;>omega)) rfl;dsimp only[aE,aF];generalize qj:c+(x*y+old)=w;have hw:w<1000000000*1000000000:=by omega
   apply vn (fS (c:=((i+k:Nat):Int)) (by rw[nV]<;>omega)) rfl;apply vn (CK (c:=((w%1000000000:Nat):Int)) (by decide) (by rw[qM (by omega)];omega)) rfl;apply vn (jg ⟨_,jL⟩ ib (c:=((w%1000000000:Nat):Int)) (by rw[xl]<;>omega)) rfl;apply vn (pK (c:=((w/1000000000:Nat):Int)) (by decide) (by rw[oa (by omega),rW]<;>omega)) rfl;dsimp only[aE,aF];refine qV (ts:=rT os2) rfl rfl (by omega) (by rw[cY];omega) ?_;refine Mf (ts:=rT os2) (us:=rT (os2.set (i+k) (w%1000000000))) rfl rfl (by omega) (od (by rw[av];exact hok)) ki ?_;apply vn (fS (c:=((k+1:Nat):Int)) (by rw[nV]<;>omega)) rfl;dsimp only[aE,aF];have hN:TIn (dg a) (dg b) i x (lv ((dg a).take i)*lv (dg b)) (k+1) (w/1000000000) (os2.set (i+k) (w%1000000000)):=hI.next hlt hlk hx hgk hok (by omega) (by omega) (by omega);exact ab rfl ⟨⟨(k+1,w/1000000000,os2.set (i+k) (w%1000000000)),hN⟩,aZ.rfl,by show(dg b).length-(k+1)<(dg b).length-k;omega⟩
  ·have hke:k=(dg b).length:=by have:=hI.le;omega
   subst hke;have hol:i+(dg b).length<os2.length:=by rw[hI.len];omega
   have hok:os2[i+(dg b).length]?=some (os2[i+(dg b).length]'hol):=bQ hol;apply vn (aP eC cY);apply vn (fS (c:=((i+(dg b).length:Nat):Int)) (by rw[nV]<;>omega)) rfl;apply vn (jg ⟨_,jL⟩ ib (c:=(c:Int)) (by rw[xl]<;>omega)) rfl;refine qV (ts:=rT os2) rfl rfl (by omega) (by rw[cY];omega) ?_;refine Mf (ts:=rT os2) (us:=rT (os2.set (i+(dg b).length) c)) rfl rfl (by omega) (od (by rw[av];exact hok)) ki ?_;dsimp only[aE,aF];apply vn (fS (c:=((i+1:Nat):Int)) (by rw[nV]<;>omega)) rfl;dsimp only[aE,aF];exact ab rfl ⟨⟨(i+1,os2.set (i+(dg b).length) c),hI.out hget⟩,aZ.rfl,by show(dg a).length-(i+1)<(dg a).length-i;omega⟩
 ·have hie:i=(dg a).length:=by have:=hO.le;omega
  subst hie;apply aA (jo os hO.dg (by rw[hO.len];omega)) rfl;dsimp only[aE,aF];refine aL ?_;have hf:=hO.fin;rw[iX,iX]at hf;rw[hf];rfl
def cf7:Tr:=cH 1
def cl9:Tr:=oe .neq 3 3 4 0 0 0 0 4 cf7
theorem XA:aV prog f233 ck [.v none]=cl9:=by kernel_rfl
def cm3:Tr:=oe .neq 237 3 4 0 0 0 0 4 cf7
theorem Wh:aV prog f234 ck [.v none]=cm3:=by kernel_rfl
def cj6:Tr:=aR 3 0 aZ9 aW2
def bn4:Tr:=aR 5 0 aO3 aZ9
def cm8:Tr:=mz 233 0 7 3 4 (mz 233 1 9 3 4 (aR 2 0 cj6 (aR 3 0 aO3 (dD 0 0 1 3 14 15 4 (aR 4 0 aW2 (oe .gtr 3 17 18 0 0 1 0 4 bn4))))))
theorem aL9:aV prog f210 ck [.v none,.v none]=cm8:=by kernel_rfl
def ch5:Tr:=mz 234 0 7 237 4 (mz 234 1 9 237 4 (aR 2 0 cj6 (aR 3 0 aO3 (dD 0 0 1 237 14 15 4 (aR 4 0 aW2 (oe .gtr 237 17 18 0 0 1 0 4 bn4))))))
theorem as5:aV prog f211 ck [.v none,.v none]=ch5:=by kernel_rfl
def bE3:Tr:=bA 1 0 9 0 40 32 33 (dh 13 237 34 (gR 211 12 0 14 30 35 237 237 3 (my 15 0 3 37 (aR 16 0 (cH 15) (dp 9 1 24 (iY 0 8 17))))))
def bU1:Tr:=al 0 0 19 40 (dp 6 1 20 (.loop 0 [lK 0,lV 7 0] (nG 9 0 22 (aR 10 0 (bA 0 0 9 0 40 27 28 (dh 11 237 29 bE3)) aZ9))))
def bS5:Tr:=al 0 0 9 40 (al 1 0 12 40 (gR 210 2 0 3 10 13 3 3 3 (my 4 0 3 15 (aR 5 0 (cH 4) bU1))))
theorem ai1:aV prog f164 ck [.v (some 1),.v (some 1)]=bS5:=by kernel_rfl
def bO1:Tr:=gJ 16 236 237 35 (gJ 1 237 236 38 (oe .rem 236 37 39 14 0 18 0 236 (cF 8 7 40 30 31 (fR 8 7 17 237 41 36 (dp 7 1 19 (qi 0 19 21 20))))))
def ck3:Tr:=aG2 6 21 (bA 0 0 7 0 40 24 25 (dh 11 237 26 (gJ 12 237 236 27 (fF 10 13 236 22 28 (gJ 1 237 236 33 (oe .quo 236 32 34 14 0 15 0 236 bO1))))))
def cc1:Tr:=dp 4 1 15 (.loop 0 [(.w (.one (.c (.k (.int .u64 0))))),lV 5 0,.row 3] (nG 7 0 17 (aR 9 0 ck3 (WT 8 42 (nL 206 6 1 44 236 42 (.ret [(G1 10),(G1 11)]))))))
def cd3:Tr:=al 0 0 10 40 (BN 2 11 (al 0 0 14 40 cc1))
theorem aG1:aV prog f243 ck [.v (some 1),.v none]=cd3:=by kernel_rfl
def bY8:Tr:=al 0 0 4 40 (eB 1 0 1 3 5 (aR 2 0 (re 0 0 0 40 9 (dh 3 237 10 (ar6 4 1 11 (cH 5)))) (hx154Q )))
theorem bu9:aV prog f221 ck [.v (some 1)]=bY8:=by kernel_rfl
def fM(x y:Int):Int:=if x<y then -1 else if y<x then 1 else 0
theorem CG(x:Int):aU prog 233 [.one (.int .i64 x)] (.ret [.one (.bool false)]):=by
 refine dF (args:=[.v none]) (ins:=[.v (.one (.int .i64 x))]) (hints:=fun _=>none) fo (by kernel_rfl) func233 ⟨rfl,trivial⟩ ?_;rw[XA];apply vn TZ;refine aL ?_;show[aN.one (.bool (!decide (x=x)))]=_;simp
theorem aC9(x y:Int):aU prog 210 [.one (.int .i64 x),.one (.int .i64 y)] (.ret [.one (.int .i64 (fM x y))]):=by
 refine dF (args:=[.v none,.v none]) (ins:=[.v (.one (.int .i64 x)),.v (.one (.int .i64 y))]) (hints:=fun _=>none) fo (by kernel_rfl) func210 ⟨rfl,rfl,trivial⟩ ?_;rw[aL9];apply aA (CG x);apply aA (CG y);refine jm false rfl (fun h=>by cases h) (fun _=>?_);refine jm false rfl (fun h=>by cases h) (fun _=>?_);apply vn tW;refine vs _ rfl ?_ ?_<;>intro h
 ·refine aL ?_;rw[fM,aK h];rfl
 ·apply vn Tt;refine vs _ rfl ?_ ?_<;>intro h2
  ·refine aL ?_;rw[fM,aG h,aK h2];rfl
  ·refine aL ?_;rw[fM,aG h,aG h2];rfl
theorem CT(x:Int):aU prog 234 [.one (.int .u32 x)] (.ret [.one (.bool false)]):=by
 refine dF (args:=[.v none]) (ins:=[.v (.one (.int .u32 x))]) (hints:=fun _=>none) fo (by kernel_rfl) func234 ⟨rfl,trivial⟩ ?_;rw[Wh];apply vn TZ;refine aL ?_;show[aN.one (.bool (!decide (x=x)))]=_;simp
theorem ay7(x y:Int):aU prog 211 [.one (.int .u32 x),.one (.int .u32 y)] (.ret [.one (.int .i64 (fM x y))]):=by
 refine dF (args:=[.v none,.v none]) (ins:=[.v (.one (.int .u32 x)),.v (.one (.int .u32 y))]) (hints:=fun _=>none) fo (by kernel_rfl) func211 ⟨rfl,rfl,trivial⟩ ?_;rw[as5];apply aA (CT x);apply aA (CT y);refine jm false rfl (fun h=>by cases h) (fun _=>?_);refine jm false rfl (fun h=>by cases h) (fun _=>?_);apply vn tW;refine vs _ rfl ?_ ?_<;>intro h
 ·refine aL ?_;rw[fM,aK h];rfl
 ·apply vn Tt;refine vs _ rfl ?_ ?_<;>intro h2
  ·refine aL ?_;rw[fM,aG h,aK h2];rfl
  ·refine aL ?_;rw[fM,aG h,aG h2];rfl
theorem bd9(z:Int):aU prog 91 [iT z] (.ret [.one (.int .i64 z.sign)]):=by
 refine dF (args:=[.v (some 2)]) (ins:=[.v (iT z)]) (hints:=fun _=>none) fo (by kernel_rfl) func91 ⟨rfl,trivial⟩ ?_;rw[aY2];apply aA (te z.natAbs);refine vs _ rfl ?_ ?_<;>intro h
 ·refine aL ?_;have:z.sign=0:=by rw[Ae];omega
  rw[this];rfl
 ·refine vs _ rfl ?_ ?_<;>intro h2
  ·refine aL ?_;rw[ny h2];rfl
  ·refine aL ?_;rw[gD (by omega)];rfl
theorem uX{xs ys:List Nat}(hx:Dg xs)(hlen:xs.length=ys.length){i x y:Nat}(hi:xs[i]?=some x)(hj:ys[i]?=some y)(hd:xs.drop (i+1)=ys.drop (i+1))(hxy:x<y):lv xs<lv ys:=by
 have hil:i<xs.length:=(dM.1 hi).1
 have e1:lv xs=lv (xs.take (i+1))+1000000000^(i+1)*lv (xs.drop (i+1)):=by
  conv=>lhs;rw[<-mW (i+1) xs]
  rw[tM,bK,dQ (by omega)]
 have e2:lv ys=lv (ys.take (i+1))+1000000000^(i+1)*lv (ys.drop (i+1)):=by
  conv=>lhs;rw[<-mW (i+1) ys]
  rw[tM,bK,dQ (by omega)]
 rw[e1,e2,hd,fe hi,fe hj]
 have h1:lv (xs.take i)<1000000000^i:=by
  have:=WB (B:=1000000000) (by omega) (xs.take i) (hx.take i);rw[bK,dQ (by omega)]at this;exact this
 have h2:1000000000^i*(x+1)<=1000000000^i*y:=dr _ hxy;rw[ep,dZ]at h2;omega
theorem wH{a b:Nat}(h:(dg a).length<(dg b).length):a<b:=by
 have hb:b≠0:=by rintro rfl;rw[show dg 0=[]from dJ _]at h;simp at h
 have h1:=lh (B:=1000000000) (by omega) a;have h2:=gy (B:=1000000000) (by omega) hb;have h3:1000000000^(dg a).length<=1000000000^((dg b).length-1):=hU (by omega) (by omega);exact cj h1 (aq h3 h2)
theorem sa{a b:Int}(h:a<b):fM a b=-1:=aK h
theorem tL{a b:Int}(h:b<a):fM a b=1:=by rw[fM,aG (by omega),aK h]
theorem zq(a:Int):fM a a=0:=by rw[fM,aG (by omega),aG (by omega)]
theorem KZ{a b:Int}:fM a b=0↔a=b:=by
 unfold fM;constructor
 ·intro h;split at h
  ·cases h
  ·split at h
   ·cases h
   ·omega
 ·rintro rfl;simp
theorem sd(a b:Nat)(hs:(dg a).length+(dg b).length<1099511627776:=by omega):aU prog 164 [mT a,mT b] (.ret [.one (.int .i64 (fM a b))]):=by
 refine dF (args:=[.v (some 1),.v (some 1)]) (ins:=[.v (mT a),.v (mT b)]) (hints:=fun _=>none) fo (by kernel_rfl) func164 ⟨rfl,rfl,trivial⟩ ?_;rw[ai1];dsimp only[List.map,In.env];apply vn (aP eC cY);apply vn (aP eC cY);apply aA (aC9 _ _);apply vn TZ;dsimp only[aE,aF];refine jm (!decide (fM ((dg a).length:Int) ((dg b).length:Int)=0)) rfl (fun h=>?_) (fun h=>?_)
 ·refine aL ?_;have hne:¬fM ((dg a).length:Int) ((dg b).length:Int)=0:=by simpa using h
  have:fM ((dg a).length:Int) ((dg b).length:Int)=fM a b:=by
   rcases tI (dg a).length (dg b).length with hl | hl | hl
   ·rw[sa (by omega),sa (by have:=wH hl;omega)]
   ·rw[hl]at hne;exact absurd (zq _) hne
   ·rw[tL (by omega),tL (by have:=wH hl;omega)]
  rw[<-this];rfl
 ·have he:(dg a).length=(dg b).length:=by
   have:fM ((dg a).length:Int) ((dg b).length:Int)=0:=by simpa using h
   have:=KZ.1 this;omega
  apply vn (aP eC cY);apply vn (oN (c:=((dg a).length:Int)-1) (by rw[nV]<;>omega)) rfl;refine bE {n:Nat // n<=(dg a).length/\(dg a).drop n=(dg b).drop n} (fun g=>[.one (.int .i64 0),.one (.int .i64 ((g.1:Int)-1))]) (fun g=>g.1) ⟨(dg a).length,aa _,by rw[Ar,he,Ar]⟩ aZ.rfl (fun _=>rfl) ?_;rintro⟨n,hn,hdr⟩;dsimp only[aE,aF];apply vn Fq;refine vs _ rfl ?_ ?_<;>intro h1
  ·have hla:n-1<(dg a).length:=by omega
   have hlb:n-1<(dg b).length:=by omega
   have hga:(dg a)[n-1]?=some ((dg a)[n-1]'hla):=bQ hla;have hgb:(dg b)[n-1]?=some ((dg b)[n-1]'hlb):=bQ hlb;generalize hxe:(dg a)[n-1]'hla=x at hga;generalize hye:(dg b)[n-1]'hlb=y at hgb;have htn:((n:Int)-1).toNat=n-1:=by omega
   have hdr':(dg a).drop (n-1+1)=(dg b).drop (n-1+1):=by rw[show n-1+1=n by omega];exact hdr
   apply vn (JN eC (by rw[htn];exact hga)) rfl;apply vn HM;apply vn (JN eC (by rw[htn];exact hgb)) rfl;dsimp only[aE,aF];apply vn HM;apply aA (ay7 _ _);apply vn TZ;refine jm (!decide (fM (x:Int) (y:Int)=0)) rfl (fun h2=>?_) (fun h2=>?_)
   ·refine aL ?_;have hne:¬fM (x:Int) (y:Int)=0:=by simpa using h2
    have:fM (x:Int) (y:Int)=fM a b:=by
     rcases tI x y with hl | hl | hl
     ·have:=uX (kW a) he hga hgb hdr' hl;rw[iX,iX]at this;rw[sa (by omega),sa (by omega)]
     ·subst hl;exact absurd (zq _) hne
     ·have:=uX (kW b) he.symm hgb hga hdr'.symm hl;rw[iX,iX]at this;rw[tL (by omega),tL (by omega)]
    rw[<-this];rfl
   ·have hxy:x=y:=by
     have:fM (x:Int) (y:Int)=0:=by simpa using h2
     have:=KZ.1 this;omega
    apply vn (oN (c:=((n-1:Nat):Int)-1) (by rw[nV]<;>omega)) rfl;dsimp only[aE,aF];refine ab rfl ⟨⟨n-1,by omega,?_⟩,aZ.rfl,by show n-1<n;omega⟩;rw[jE hla,jE hlb,hxe,hye,hxy,hdr']
  ·have hn0:n=0:=by omega
   subst hn0;refine aL ?_;rw[ga,ga]at hdr;have:a=b:=by have:=congrArg lv hdr;rwa[iX,iX]at this
   subst this;exact congrArg (fun x=>[aN.one (aC.int .i64 x)]) (zq (a:Int)).symm
theorem RC{xs:List Nat}{i x:Nat}(h:xs[i]?=some x):lv (xs.drop i)=x+1000000000*lv (xs.drop (i+1)):=by
 have hi:i<xs.length:=(dM.1 h).1;rw[jE hi,(dM.1 h).2];rfl
structure MF(xs:List Nat)(d n r:Nat)(os:List Nat):Prop where
 le:n<=xs.length
 len:os.length=xs.length
 dg:Dg os
 r1:r<d
 eq:lv (os.drop n)*d+r=lv (xs.drop n)
theorem MF.init(xs:List Nat){d:Nat}(hd:0<d):MF xs d xs.length 0 (List.replicate xs.length 0):=⟨aa _,by simp,Dg.rep _,hd,by simp[lv,val]⟩
theorem MF.next{xs os:List Nat}{d n r x:Nat}(h:MF xs d (n+1) r os)(hd:d<1000000000)(hx:xs[n]?=some x)(hx1:x<1000000000):MF xs d n ((r*1000000000+x)%d) (os.set n ((r*1000000000+x)/d)):=by
 have hd0:0<d:=by have:=h.r1;omega
 have hq:(r*1000000000+x)/d<1000000000:=by
  rw[jf hd0];have h1:=h.r1;have:(r+1)*1000000000<=d*1000000000:=cN _ h1;rw[bX]at this;rw[cD 1000000000 d];omega
 have hl:=h.le;have hlen:=h.len;refine⟨by omega,by rw[bJ];exact hlen,h.dg.set hq,dU _ hd0,?_⟩
 have hs:(os.set n ((r*1000000000+x)/d))[n]?=some ((r*1000000000+x)/d):=by
  rw[lk (by omega)]
 rw[RC hs,RC hx,Ad (by omega),<-h.eq];have h1:=Oe (r*1000000000+x) d;rw[cD d]at h1;simp only[bX,ep,eW];omega
theorem MF.fin{xs os:List Nat}{d r:Nat}(h:MF xs d 0 r os):lv os=lv xs/d/\r=lv xs%d:=by
 have h1:=h.eq;rw[ga,ga]at h1;have h2:=h.r1;have e:lv xs=r+d*lv os:=by rw[<-h1,cD];omega
 constructor
 ·rw[e,nt _ _ (by omega),fA h2,bM]
 ·rw[e,se,ew h2]
theorem Su(a d:Nat)(hd0:0<d)(hd:d<1000000000)(hs:(dg a).length<1099511627776:=by omega):aU prog 243 [mT a,.one (.int .u32 d)] (.ret [mT (a/d),mT (a%d)]):=by
 refine dF (args:=[.v (some 1),.v none]) (ins:=[.v (mT a),.v (.one (.int .u32 d))]) (hints:=fun _=>none) fo (by kernel_rfl) func243 ⟨rfl,rfl,trivial⟩ ?_;rw[aG1];dsimp only[List.map,In.env];apply vn (aP eC cY);refine ri (n:=(dg a).length) (m:=(dg a).length) rfl rfl Px (aa _) (by omega) (by simp[maxLen];omega) ?_;apply vn (aP eC cY);apply vn (oN (c:=((dg a).length:Int)-1) (by rw[nV]<;>omega)) rfl;dsimp only[aE,aF];refine bE {g:Nat×Nat×List Nat // MF (dg a) d g.1 g.2.1 g.2.2} (fun g=>[.one (.int .u64 g.1.2.1),.one (.int .i64 ((g.1.1:Int)-1)),.rows (rT g.1.2.2)]) (fun g=>g.1.1) ⟨((dg a).length,0,List.replicate (dg a).length 0),MF.init _ hd0⟩ aZ.rfl (fun _=>rfl) ?_;rintro⟨⟨n,r,os⟩,hI⟩;dsimp only[aE,aF]at hI|-;have hr1:=hI.r1;have hln:=hI.le;apply vn Fq;refine vs _ rfl ?_ ?_<;>intro h1
 ·obtain⟨m,rfl⟩:∃m,n=m+1:=⟨n-1,by omega⟩
  have hlt:m<(dg a).length:=by omega
  have hget:(dg a)[m]?=some ((dg a)[m]'hlt):=bQ hlt;generalize (dg a)[m]'hlt=x at hget;have hx:=(kW a).get hget;have hol:m<os.length:=by rw[hI.len];omega
  have hok:os[m]?=some (os[m]'hol):=bQ hol;have htn:(((m+1:Nat):Int)-1).toNat=m:=by omega
  apply vn (ur (c:=((r*1000000000:Nat):Int)) (by rw[rW]<;>omega)) rfl;apply vn (JN eC (by rw[htn];exact hget)) rfl;apply vn HM;dsimp only[aE,aF];apply vn (jg ⟨_,ib⟩ jL (c:=(x:Int)) (by rw[rW]<;>omega)) rfl;apply vn (fS (c:=((r*1000000000+x:Nat):Int)) (by rw[rW]<;>omega)) rfl;dsimp only[aE,aF];have hN:=hI.next hd hget hx;have hqd:=hN.dg.get (i:=m) (d:=(r*1000000000+x)/d) (lk (by omega));have hrd:=hN.r1;generalize hw:r*1000000000+x=w at hN hqd hrd|-;generalize hq:w/d=q at hN hqd;generalize hm:w%d=rr at hN hrd;apply vn (jg ⟨_,ib⟩ jL (c:=(d:Int)) (by rw[rW]<;>omega)) rfl;apply vn (pK (c:=(q:Int)) (by omega) (by rw[oa (by omega),<-zE,hq,rW]<;>omega)) rfl;apply vn (jg ⟨_,jL⟩ ib (c:=(q:Int)) (by rw[xl]<;>omega)) rfl;apply vn (jg ⟨_,ib⟩ jL (c:=(d:Int)) (by rw[rW]<;>omega)) rfl;dsimp only[aE,aF];apply vn (CK (c:=(rr:Int)) (by omega) (by rw[qM (by omega),<-QN,hm]));refine qV (ts:=rT os) rfl rfl (by omega) (by rw[cY];omega) ?_;refine Mf (ts:=rT os) (us:=rT (os.set m q)) rfl rfl (by omega) (od (by rw[htn];exact hok)) (by rw[htn];exact ki) ?_;apply vn (oN (c:=(m:Int)-1) (by rw[nV]<;>omega)) rfl;dsimp only[aE,aF];exact ab rfl ⟨⟨(m,rr,os.set m q),hN⟩,aZ.rfl,by show m<m+1;omega⟩
 ·have hn0:n=0:=by omega
  subst hn0;obtain⟨hf1,hf2⟩:=hI.fin;rw[iX]at hf1 hf2;apply aA (jo os hI.dg (by rw[hI.len];omega)) rfl;apply aA (nu r);dsimp only[aE,aF];refine aL ?_;rw[hf1,<-hf2];rfl
end Go.Sy
