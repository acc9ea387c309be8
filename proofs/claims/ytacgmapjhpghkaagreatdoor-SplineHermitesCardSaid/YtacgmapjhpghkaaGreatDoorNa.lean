/- Part. -/
import Derived.Test.YtacgmapjhpghkaaGreatDoorFa
import Derived.Test.YtacgmapjhpghkaaGreatDoorPa
set_option linter.all false
set_option maxHeartbeats 1000000
namespace Go.Sy
open Go Go.Proofs Tryz Ord
abbrev rT(ds:List Nat):List (List aC):=ds.map fun(d:Nat)=>[aC.int .u32 (d:Int)]
abbrev dg(n:Nat):List Nat:=lG 1000000000 n
abbrev lv(ds:List Nat):Nat:=val 1000000000 ds
abbrev dT(n:Nat):aC:=.slice 1 (rT (dg n))
abbrev mT(n:Nat):aK:=.agg [dT n]
def Dg(ds:List Nat):Prop:=∀d∈ds,d<1000000000
theorem yG{n:Int}(h0:0<=n)(h:n<4294967296):IntKind.u32.wrap n=n:=by rw[IntKind.wrap_u32];omega
theorem rN{n:Int}(h0:0<=n)(h:n<18446744073709551616):IntKind.u64.wrap n=n:=by rw[qF];omega
theorem nY{n:Int}(h0:-9223372036854775808<=n)(h:n<9223372036854775808):IntKind.i64.wrap n=n:=by rw[IntKind.wrap_i64];omega
theorem oo{ds:List Nat}{i d:Nat}(h:ds[i]?=some d):(rT ds)[i]?=some [aC.int .u32 (d:Int)]:=by
 rw[cU,h];rfl
theorem lF{ds:List Nat}{i x:Nat}:(rT ds).set i [aC.int .u32 (x:Int)]=rT (ds.set i x):=by
 rw[rT,rT,qD]
theorem cZ{ds:List Nat}:(rT ds).length=ds.length:=aJ _
theorem xR{n:Nat}:dg n=[]↔n=0:=by
 constructor
 ·intro h;by_cases hn:n=0
  ·exact hn
  ·rw[dg,fR (by omega) hn]at h;cases h
 ·rintro rfl;exact dN _
theorem kv(n:Nat):Dg (dg n):=zo n
theorem iX(n:Nat):lv (dg n)=n:=vM (by omega) n
theorem Dg.take{ds:List Nat}(h:Dg ds)(n:Nat):Dg (ds.take n):=fun d hd=>h d (jH hd)
theorem Dg.set{ds:List Nat}(h:Dg ds){i x:Nat}(hx:x<1000000000):Dg (ds.set i x):=fun d hd=>by
 rcases oT hd with hd | rfl
 ·exact h d hd
 ·exact hx
theorem Dg.get{ds:List Nat}(h:Dg ds){i d:Nat}(hd:ds[i]?=some d):d<1000000000:=h d (cq hd)
theorem Nc{ds:List Nat}{i d:Nat}(h:ds[i]?=some d):ds.take (i+1)=ds.take i++[d]:=by
 rw[jb,h];rfl
theorem so(xs ys:List Nat):lv (xs++ys)=lv xs+1000000000^xs.length*lv ys:=jk _ _ _
theorem bq8(d:Nat):lv [d]=d:=by simp[lv,val]
theorem fO{ds:List Nat}{i d:Nat}(h:ds[i]?=some d):lv (ds.take (i+1))=lv (ds.take i)+1000000000^i*d:=by
 have hi:i<ds.length:=(bg.1 h).1;rw[Nc h,so,bq8,bL,dM (by omega)]
theorem rW{os:List Nat}{i x:Nat}(h:i<os.length):lv ((os.set i x).take (i+1))=lv (os.take i)+1000000000^i*x:=by
 rw[fO (d:=x) (by simp[h])];rw[YA (aY i)]
theorem Pj{n:Nat}:List.replicate n ([Value.int .u32 0].map aC.exact)=rT (List.replicate n 0):=by
 rw[rT,sx];rfl
theorem Dg.rep(n:Nat):Dg (List.replicate n 0):=fun d hd=>by
 obtain⟨_,rfl⟩:=jg.1 hd;decide
abbrev dl(n:Nat):Nat:=(dg n).length
theorem Ku{ds:List Nat}{T ty:TypeId}{x y:Operand}{k:IntKind}{n:Int}{d:Nat}(h:dB prog T=some (237,1,4))(hd:ds[n.toNat]?=some d)(h0:0<=n:=by omega) :
  ai prog (.indexAddr T x y) ty [.one (.slice 1 (rT ds)),.one (.int k n)] (.one (.aq [aC.int .u32 (d:Int)])):=YM h (oo hd) h0
theorem Jb{ty:TypeId}{x:Operand}{d:Int}:ai prog (.load 237 x) ty [.one (.aq [aC.int .u32 d])] (.one (.int .u32 d)):=ab (n:=1) wJ (by decide) (by simp) (.inr rfl)
def ci9:Tr:=fS 2 1 10 (fJ 0 0 4 0 40 9 11 (di 5 237 12 (aH2 6 0 13 (aQ 7 0 (fS 2 1 16 (.back 0 [lV 8 0])) (aC6 (rm 8))))))
def ch9:Tr:=aw 0 0 4 40 (Eb 1 (jQ 2 0 0 3 6 (aQ 3 0 ci9 (aC6 (rm 4)))))
theorem ae2:aV prog f208 dE [.v none]=ch9:=by kernel_rfl
theorem jx(ds:List Nat)(hd:Dg ds)(hl:ds.length<4611686018427387904:=by omega):aW prog 208 [.one (.slice 1 (rT ds))] (.ret [mT (lv ds)]):=by
 refine dK (args:=[.v none]) (ins:=[.v (.one (.slice 1 (rT ds)))]) (hints:=fun _=>none) fo (by kernel_rfl) func208 ⟨rfl,trivial⟩ ?_;rw[ae2];apply vn (aR eG cZ);refine bG {n:Nat // n<=ds.length/\lv (ds.take n)=lv ds} (fun g=>[.one (.int .i64 g.1)]) (fun g=>g.1) ⟨ds.length,aY _,by rw[gH]⟩ aX.rfl (fun _=>rfl) ?_;rintro⟨n,hn,hv⟩;dsimp only
 have fin:∀τ:Env,(n=0\/∃d,ds[n-1]?=some d/\d≠0)->(rT ds).take n=rT (dg (lv ds)):=by
  intro τ h;rw[rT,rT,<-lX]
  congr 1
  rw[<-hv,dg,lv,RS (by omega) _ (hd.take n)];intro d hlast;rcases h with rfl | ⟨d',hd',hne⟩
  ·simp at hlast
  ·rw[YX,bL,dM hn,dq]at hlast;split at hlast
   ·rw[hd']at hlast;simp at hlast;omega
   ·cases hlast
 apply vn SI;refine vs _ rfl ?_ ?_<;>intro h
 ·have hlt:n-1<ds.length:=by omega
  have hget:ds[n-1]?=some (ds[n-1]'hlt):=bB hlt;generalize ds[n-1]'hlt=d at hget;apply vn (oX (c:=((n-1:Nat):Int)) (by rw[nY]<;>omega)) rfl;apply vn (Ku eG (by simpa using hget));apply vn Jb;apply vn aE3;refine vs _ rfl ?_ ?_<;>intro h2
  ·apply vn (oX (c:=((n-1:Nat):Int)) (by rw[nY]<;>omega)) rfl;refine af rfl ⟨⟨n-1,by omega,?_⟩,aX.rfl,?_⟩
   ·have hd0:d=0:=by omega
    subst hd0;have:=fO hget;rw[ee,show n-1+1=n by omega]at this;exact(this.symm.trans hv)
   ·show n-1<n;omega
  ·apply vn (Ei eG (by simpa using hn));refine aM ?_;exact congrArg (fun x=>[aK.agg [aC.slice 1 x]]) (fin [] (.inr ⟨d,hget,by omega⟩))
 ·apply vn (Ei eG (by simpa using hn));refine aM ?_;exact congrArg (fun x=>[aK.agg [aC.slice 1 x]]) (fin [] (.inl (by omega)))
def bK4:Tr:=ZY 20 46 (aQ 21 0 (Zj 20 48 (cW 11 10 40 50 51 (fE 11 10 22 237 53 52 (ba 10 1 3 26 (qi 1 24 23))))) (cW 11 10 40 50 51 (fE 11 10 20 237 53 52 (ba 10 1 3 26 (qi 0 23 22)))))
def bh5:Tr:=di 18 237 43 (fw 15 19 237 39 44 bK4)
def bj3:Tr:=ZY 15 46 (aQ 18 0 (Zj 15 48 (cW 11 10 40 50 51 (fE 11 10 19 237 53 52 (ba 10 1 3 26 (qi 1 21 20))))) (cW 11 10 40 50 51 (fE 11 10 15 237 53 52 (ba 10 1 3 26 (qi 0 20 19)))))
def bQ3:Tr:=fJ 1 0 10 0 40 24 26 (di 13 237 29 (fw 14 9 237 31 32 (aw 0 0 36 40 (dw 10 0 16 3 34 37 4 (aQ 17 0 (fJ 0 0 10 0 40 41 42 bh5) bj3)))))
def bf2:Tr:=cW 11 13 40 55 58 (fE 11 13 9 237 60 59 (ZE 14 61 (rm 15)))
def cg7:Tr:=ba 5 1 3 20 (CL 6 21 (aw 1 0 24 40 (Om 7 (dw 10 0 8 3 26 25 0 (aQ 12 0 bQ3 (aw 1 0 57 40 bf2))))))
def bN7:Tr:=fJ 0 0 10 0 40 24 26 (di 13 237 29 (fw 14 9 237 31 32 (aw 1 0 36 40 (dw 10 0 16 3 34 37 4 (aQ 17 0 (fJ 1 0 10 0 40 41 42 bh5) bj3)))))
def bP9:Tr:=ba 5 1 3 20 (CL 6 21 (aw 0 0 24 40 (Om 7 (dw 10 0 8 3 26 25 0 (aQ 12 0 bN7 (aw 0 0 57 40 bf2))))))
def ci8:Tr:=aw 0 0 10 40 (aw 1 0 13 40 (dw 2 0 3 3 11 14 4 (aQ 4 0 (aw 1 0 19 40 cg7) (aw 0 0 19 40 bP9))))
theorem bt4:aV prog f209 dE [.v (some 1),.v (some 1)]=ci8:=by kernel_rfl
structure qL(xs ys:List Nat)(i c:Nat)(os:List Nat):Prop where
 le:i<=xs.length
 c1:c<=1
 len:os.length=xs.length+1
 dg:Dg os
 eq:lv (os.take i)+1000000000^i*c=lv (xs.take i)+lv (ys.take i)
theorem qL.init(xs ys:List Nat):qL xs ys 0 0 (List.replicate (xs.length+1) 0):=⟨cL _,by omega,by simp,Dg.rep _,by simp[lv,val]⟩
theorem qL.next{xs ys os:List Nat}{i c x y c' z:Nat}(h:qL xs ys i c os)(hi:i<xs.length)(hx:xs[i]?=some x)(hy:ys[i]?.getD 0=y)(hc:c'<=1)(hz:z<1000000000)(he:z+1000000000*c'=x+c+y):qL xs ys (i+1) c' (os.set i z):=by
 refine⟨hi,hc,by rw[bH];exact h.len,h.dg.set hz,?_⟩;rw[rW (by rw[h.len];omega),fO hx,bW]
 have hb:lv (ys.take (i+1))=lv (ys.take i)+1000000000^i*y:=by
  cases hbi:ys[i]? with
  | some d=>rw[hbi]at hy;simp only[fY]at hy;subst hy;exact fO hbi
  | none=>
    rw[hbi]at hy;simp only[OS]at hy;subst hy;have:=eX.1 hbi;rw[dD (by omega),dD (by omega)];omega
 rw[hb];have h1:=h.eq;have h2:=congrArg (fun t=>1000000000^i*t) he;simp only[eY]at h2;rw[eP];omega
theorem qL.fin{xs ys os:List Nat}{c:Nat}{n:Nat}(h:qL xs ys xs.length c os)(hle:ys.length<=xs.length)(he:lv xs+lv ys=n):lv (os.set xs.length c)=n:=by
 have h1:=rW (os:=os) (i:=xs.length) (x:=c) (by rw[h.len];omega);rw[dD (by rw[bH,h.len];omega)]at h1;have h2:=h.eq;rw[gH,dD hle]at h2;omega
theorem aD3(a b:Nat)(hs:(dg a).length+(dg b).length<1099511627776:=by omega):aW prog 209 [mT a,mT b] (.ret [mT (a+b)]):=by
 refine dK (args:=[.v (some 1),.v (some 1)]) (ins:=[.v (mT a),.v (mT b)]) (hints:=fun _=>none) fo (by kernel_rfl) func209 ⟨rfl,rfl,trivial⟩ ?_;rw[bt4];dsimp only[List.map,In.env];apply vn (aR eG cZ);apply vn (aR eG cZ);apply vn tP;refine vs _ rfl ?_ ?_<;>intro hab
 ·skip
  apply vn (aR eG cZ);dsimp only[aF,aG];apply vn (fF (c:=(((dg b).length+1:Nat):Int)) (by rw[nY]<;>omega)) rfl;refine tQ (n:=(dg b).length+1) (m:=(dg b).length+1) rfl rfl Pj (aY _) (by omega) (by simp[maxLen];omega) ?_;apply vn (aR eG cZ);refine bG {g:Nat×Nat×List Nat // qL (dg b) (dg a) g.1 g.2.1 g.2.2} (fun g=>[.one (.int .u32 g.1.2.1),.one (.int .i64 g.1.1),.rows (rT g.1.2.2)]) (fun g=>(dg b).length-g.1.1) ⟨(0,0,List.replicate ((dg b).length+1) 0),qL.init _ _⟩ aX.rfl (fun _=>rfl) ?_;rintro⟨⟨i,c,os⟩,hI⟩;dsimp only[aF,aG]at hI|-;apply vn tP;refine vs _ rfl ?_ ?_<;>intro h
  ·have hlt:i<(dg b).length:=by omega
   have hget:(dg b)[i]?=some ((dg b)[i]'hlt):=bB hlt;generalize (dg b)[i]'hlt=x at hget;have hx:=(kv b).get hget;have hc:=hI.c1;have hol:i<os.length:=by rw[hI.len];omega
   have hog:(rT os)[((i:Int)).toNat]?=some [aC.int .u32 ((os[i]'hol:Nat):Int)]:=oo (by simp);apply vn (Ku eG (by simpa using hget));apply vn Jb;apply vn (fF (c:=((x+c:Nat):Int)) (by rw[yG]<;>omega)) rfl;dsimp only[aF,aG];apply vn (aR eG cZ);apply vn tP;refine vs _ rfl ?_ ?_<;>intro h1
   ·have hlt1:i<(dg a).length:=by omega
    have hget1:(dg a)[i]?=some ((dg a)[i]'hlt1):=bB hlt1;generalize (dg a)[i]'hlt1=y at hget1;have hy:=(kv a).get hget1;apply vn (Ku eG (by simpa using hget1));apply vn Jb;dsimp only[aF,aG];apply vn (fF (c:=((x+c+y:Nat):Int)) (by rw[yG]<;>omega)) rfl;apply vn GX;refine vs _ rfl ?_ ?_<;>intro h2
    ·apply vn (oX (c:=((x+c+y-1000000000:Nat):Int)) (by rw[yG]<;>omega)) rfl;refine qw (ts:=rT os) rfl rfl (by omega) (by rw[cZ];omega) ?_;refine Rd (ts:=rT os) (us:=rT (os.set i (x+c+y-1000000000))) rfl rfl (by omega) hog lF ?_;dsimp only[aF,aG];apply vn (fF (c:=((i+1:Nat):Int)) (by rw[nY]<;>omega)) rfl;dsimp only[aF,aG];have hN:qL _ _ (i+1) 1 (os.set i (x+c+y-1000000000)):=hI.next (y:=y) hlt hget (by rw[hget1];rfl) (by omega) (by omega) (by omega);exact af rfl ⟨⟨(i+1,1,os.set i (x+c+y-1000000000)),hN⟩,aX.rfl,by show(dg b).length-(i+1)<(dg b).length-i;omega⟩
    ·refine qw (ts:=rT os) rfl rfl (by omega) (by rw[cZ];omega) ?_;refine Rd (ts:=rT os) (us:=rT (os.set i (x+c+y))) rfl rfl (by omega) hog lF ?_;apply vn (fF (c:=((i+1:Nat):Int)) (by rw[nY]<;>omega)) rfl;dsimp only[aF,aG];have hN:qL _ _ (i+1) 0 (os.set i (x+c+y)):=hI.next (y:=y) hlt hget (by rw[hget1];rfl) (by omega) (by omega) (by omega);exact af rfl ⟨⟨(i+1,0,os.set i (x+c+y)),hN⟩,aX.rfl,by show(dg b).length-(i+1)<(dg b).length-i;omega⟩
   ·have hget1:(dg a)[i]?=none:=gj (by omega);apply vn GX;refine vs _ rfl ?_ ?_<;>intro h2
    ·apply vn (oX (c:=((x+c-1000000000:Nat):Int)) (by rw[yG]<;>omega)) rfl;refine qw (ts:=rT os) rfl rfl (by omega) (by rw[cZ];omega) ?_;refine Rd (ts:=rT os) (us:=rT (os.set i (x+c-1000000000))) rfl rfl (by omega) hog lF ?_;apply vn (fF (c:=((i+1:Nat):Int)) (by rw[nY]<;>omega)) rfl;dsimp only[aF,aG];have hN:qL _ _ (i+1) 1 (os.set i (x+c-1000000000)):=hI.next (y:=0) hlt hget (by rw[hget1];rfl) (by omega) (by omega) (by omega);exact af rfl ⟨⟨(i+1,1,os.set i (x+c-1000000000)),hN⟩,aX.rfl,by show(dg b).length-(i+1)<(dg b).length-i;omega⟩
    ·refine qw (ts:=rT os) rfl rfl (by omega) (by rw[cZ];omega) ?_;refine Rd (ts:=rT os) (us:=rT (os.set i (x+c))) rfl rfl (by omega) hog lF ?_;apply vn (fF (c:=((i+1:Nat):Int)) (by rw[nY]<;>omega)) rfl;dsimp only[aF,aG];have hN:qL _ _ (i+1) 0 (os.set i (x+c)):=hI.next (y:=0) hlt hget (by rw[hget1];rfl) (by omega) (by omega) (by omega);exact af rfl ⟨⟨(i+1,0,os.set i (x+c)),hN⟩,aX.rfl,by show(dg b).length-(i+1)<(dg b).length-i;omega⟩
  ·have hie:i=(dg b).length:=by have:=hI.le;omega
   subst hie;have hol:(dg b).length<os.length:=by rw[hI.len];omega
   have hog:(rT os)[(((dg b).length:Int)).toNat]?=some [aC.int .u32 ((os[(dg b).length]'hol:Nat):Int)]:=oo (by simp);apply vn (aR eG cZ);refine qw (ts:=rT os) rfl rfl (by omega) (by rw[cZ];omega) ?_;refine Rd (ts:=rT os) (us:=rT (os.set ((dg b).length) c)) rfl rfl (by omega) hog lF ?_;apply aA (jx (os.set ((dg b).length) c) (hI.dg.set (by have:=hI.c1;omega)) (by rw[bH,hI.len];omega)) rfl;dsimp only[aF,aG];refine aM ?_;rw[hI.fin (n:=a+b) (by omega) (by rw[iX,iX]<;>omega)];rfl
 ·skip
  apply vn (aR eG cZ);apply vn (fF (c:=(((dg a).length+1:Nat):Int)) (by rw[nY]<;>omega)) rfl;refine tQ (n:=(dg a).length+1) (m:=(dg a).length+1) rfl rfl Pj (aY _) (by omega) (by simp[maxLen];omega) ?_;apply vn (aR eG cZ);dsimp only[aF,aG];refine bG {g:Nat×Nat×List Nat // qL (dg a) (dg b) g.1 g.2.1 g.2.2} (fun g=>[.one (.int .u32 g.1.2.1),.one (.int .i64 g.1.1),.rows (rT g.1.2.2)]) (fun g=>(dg a).length-g.1.1) ⟨(0,0,List.replicate ((dg a).length+1) 0),qL.init _ _⟩ aX.rfl (fun _=>rfl) ?_;rintro⟨⟨i,c,os⟩,hI⟩;dsimp only[aF,aG]at hI|-;apply vn tP;refine vs _ rfl ?_ ?_<;>intro h
  ·have hlt:i<(dg a).length:=by omega
   have hget:(dg a)[i]?=some ((dg a)[i]'hlt):=bB hlt;generalize (dg a)[i]'hlt=x at hget;have hx:=(kv a).get hget;have hc:=hI.c1;have hol:i<os.length:=by rw[hI.len];omega
   have hog:(rT os)[((i:Int)).toNat]?=some [aC.int .u32 ((os[i]'hol:Nat):Int)]:=oo (by simp);apply vn (Ku eG (by simpa using hget));apply vn Jb;apply vn (fF (c:=((x+c:Nat):Int)) (by rw[yG]<;>omega)) rfl;dsimp only[aF,aG];apply vn (aR eG cZ);apply vn tP;refine vs _ rfl ?_ ?_<;>intro h1
   ·have hlt1:i<(dg b).length:=by omega
    have hget1:(dg b)[i]?=some ((dg b)[i]'hlt1):=bB hlt1;generalize (dg b)[i]'hlt1=y at hget1;have hy:=(kv b).get hget1;apply vn (Ku eG (by simpa using hget1));apply vn Jb;dsimp only[aF,aG];apply vn (fF (c:=((x+c+y:Nat):Int)) (by rw[yG]<;>omega)) rfl;apply vn GX;refine vs _ rfl ?_ ?_<;>intro h2
    ·apply vn (oX (c:=((x+c+y-1000000000:Nat):Int)) (by rw[yG]<;>omega)) rfl;refine qw (ts:=rT os) rfl rfl (by omega) (by rw[cZ];omega) ?_;refine Rd (ts:=rT os) (us:=rT (os.set i (x+c+y-1000000000))) rfl rfl (by omega) hog lF ?_;dsimp only[aF,aG];apply vn (fF (c:=((i+1:Nat):Int)) (by rw[nY]<;>omega)) rfl;dsimp only[aF,aG];have hN:qL _ _ (i+1) 1 (os.set i (x+c+y-1000000000)):=hI.next (y:=y) hlt hget (by rw[hget1];rfl) (by omega) (by omega) (by omega);exact af rfl ⟨⟨(i+1,1,os.set i (x+c+y-1000000000)),hN⟩,aX.rfl,by show(dg a).length-(i+1)<(dg a).length-i;omega⟩
    ·refine qw (ts:=rT os) rfl rfl (by omega) (by rw[cZ];omega) ?_;refine Rd (ts:=rT os) (us:=rT (os.set i (x+c+y))) rfl rfl (by omega) hog lF ?_;apply vn (fF (c:=((i+1:Nat):Int)) (by rw[nY]<;>omega)) rfl;dsimp only[aF,aG];have hN:qL _ _ (i+1) 0 (os.set i (x+c+y)):=hI.next (y:=y) hlt hget (by rw[hget1];rfl) (by omega) (by omega) (by omega);exact af rfl ⟨⟨(i+1,0,os.set i (x+c+y)),hN⟩,aX.rfl,by show(dg a).length-(i+1)<(dg a).length-i;omega⟩
   ·have hget1:(dg b)[i]?=none:=gj (by omega);apply vn GX;refine vs _ rfl ?_ ?_<;>intro h2
    ·apply vn (oX (c:=((x+c-1000000000:Nat):Int)) (by rw[yG]<;>omega)) rfl;refine qw (ts:=rT os) rfl rfl (by omega) (by rw[cZ];omega) ?_;refine Rd (ts:=rT os) (us:=rT (os.set i (x+c-1000000000))) rfl rfl (by omega) hog lF ?_;apply vn (fF (c:=((i+1:Nat):Int)) (by rw[nY]<;>omega)) rfl;dsimp only[aF,aG];have hN:qL _ _ (i+1) 1 (os.set i (x+c-1000000000)):=hI.next (y:=0) hlt hget (by rw[hget1];rfl) (by omega) (by omega) (by omega);exact af rfl ⟨⟨(i+1,1,os.set i (x+c-1000000000)),hN⟩,aX.rfl,by show(dg a).length-(i+1)<(dg a).length-i;omega⟩
    ·refine qw (ts:=rT os) rfl rfl (by omega) (by rw[cZ];omega) ?_;refine Rd (ts:=rT os) (us:=rT (os.set i (x+c))) rfl rfl (by omega) hog lF ?_;apply vn (fF (c:=((i+1:Nat):Int)) (by rw[nY]<;>omega)) rfl;dsimp only[aF,aG];have hN:qL _ _ (i+1) 0 (os.set i (x+c)):=hI.next (y:=0) hlt hget (by rw[hget1];rfl) (by omega) (by omega) (by omega);exact af rfl ⟨⟨(i+1,0,os.set i (x+c)),hN⟩,aX.rfl,by show(dg a).length-(i+1)<(dg a).length-i;omega⟩
  ·have hie:i=(dg a).length:=by have:=hI.le;omega
   subst hie;have hol:(dg a).length<os.length:=by rw[hI.len];omega
   have hog:(rT os)[(((dg a).length:Int)).toNat]?=some [aC.int .u32 ((os[(dg a).length]'hol:Nat):Int)]:=oo (by simp);apply vn (aR eG cZ);refine qw (ts:=rT os) rfl rfl (by omega) (by rw[cZ];omega) ?_;refine Rd (ts:=rT os) (us:=rT (os.set ((dg a).length) c)) rfl rfl (by omega) hog lF ?_;apply aA (jx (os.set ((dg a).length) c) (hI.dg.set (by have:=hI.c1;omega)) (by rw[bH,hI.len];omega)) rfl;dsimp only[aF,aG];refine aM ?_;rw[hI.fin (n:=a+b) (by omega) (by rw[iX,iX]<;>omega)];rfl
def cg4:Tr:=aw 0 0 4 40 (gQ 1 0 0 3 5 (cD 2))
theorem bv1:aV prog f172 dE [.v (some 1)]=cg4:=by kernel_rfl
def cf5:Tr:=aQ 3 0 (Zd 1 9 (gF 4 236 237 10 (ym 5 40 11 (jw 1 4 2 6 8 12 40 (Yx 1 6 (qf 0 8 7)))))) (.ret [(.agg [(.c (.sr 1 2))])])
def ch7:Tr:=WC (.need (.prim [(W 1 0),(.one (.c (.k (.int .u64 0))))] none) (.binOp .gtr 236 (tT 4) (.const (.int .u64 0)) 236) 4 false cf5)
theorem be2:aV prog f206 dE [.v none]=ch7:=by kernel_rfl
def ch4:Tr:=aQ 0 0 (gS 172 [(G1 1)] [none] [8] [42] 4 false (oW 2 0 9 (mJ 1 0 3 0))) (.ret [(.agg [(U 1 0),(tE (.bool false))])])
theorem aA7:aV prog f158 dE [.v none,.v (some 1)]=ch4:=by kernel_rfl
def aV5:Tr:=oi 0
def aS5:Tr:=oi (-1)
def aL0:Tr:=oi 1
def ch0:Tr:=Gr 172 0 0 5 4 (aQ 1 0 aV5 (aQ 0 1 aS5 aL0))
theorem aU1:aV prog f91 dE [.v (some 2)]=ch0:=by kernel_rfl
theorem ta(n:Nat):aW prog 172 [mT n] (.ret [.one (.bool (decide (n=0)))]):=by
 refine dK (args:=[.v (some 1)]) (ins:=[.v (mT n)]) (hints:=fun _=>none) fo (by kernel_rfl) func172 ⟨rfl,trivial⟩ ?_;rw[bv1];apply vn (aR eG rfl);apply vn aE3;refine aM ?_;show[aK.one (.bool (decide (_=(0:Int))))]=_
 have h:((rT (dg n)).length:Int)=0↔n=0:=by
  rw[cZ,<-xR];cases dg n<;>simp;omega
 simp only[h]
theorem oH(n:Nat)(h:n<18446744073709551616:=by omega):aW prog 206 [.one (.int .u64 n)] (.ret [mT n]):=by
 refine dK (args:=[.v none]) (ins:=[.v (.one (.int .u64 n))]) (hints:=fun _=>none) fo (by kernel_rfl) func206 ⟨rfl,trivial⟩ ?_;rw[be2];have hlen:(dg n).length<=3:=kj;refine bG {p:Nat×List Nat // p.2++dg p.1=dg n/\p.1<=n} (fun g=>[.one (.int .u64 g.1.1),.rows (rT g.1.2)]) (fun g=>g.1.1) ⟨(n,[]),by simp⟩ aX.rfl (fun _=>rfl) ?_;rintro⟨⟨k,ds⟩,hinv,hle⟩;dsimp only[List.map,In.env,aF,aG]at hinv hle|-;have hds:ds.length<=3:=by have:=congrArg List.length hinv;simp at this;omega
 apply vn SI;refine vs _ rfl ?_ ?_<;>intro hk
 ·apply vn (DA (c:=((k%1000000000:Nat):Int)) (by decide) (by rw[qV (by omega)];omega)) rfl;apply vn (jo ⟨_,jP⟩ ia (c:=((k%1000000000:Nat):Int)) (yG (by omega) (by omega)));apply fB (us:=rT [k%1000000000]);refine wO (ts:=rT ds) (us:=rT [k%1000000000]) (vs:=rT (ds++[k%1000000000])) rfl rfl List.map_append.symm (by simp;omega) (by simp[maxLen];omega) ?_;apply vn (pJ (c:=((k/1000000000:Nat):Int)) (by decide) (by rw[oq (by omega),rN (by omega) (by omega)];omega)) rfl;refine af rfl ⟨⟨(k/1000000000,ds++[k%1000000000]),?_,?_⟩,?_,?_⟩
  ·have:k≠0:=by omega
   rw[<-hinv,dg,dg,fR (n:=k) (by omega) this];simp
  ·show k/1000000000<=n;omega
  ·exact aX.rfl
  ·show k/1000000000<k;omega
 ·have:k=0:=by omega
  subst this;refine aM ?_;have e:dg 0=[]:=dN _;rw[e,bj]at hinv;subst hinv;rfl
abbrev iT(z:Int):aK:=.agg [dT z.natAbs,.bool (decide (z<0))]
theorem iU(m:Bool)(n:Nat)(z:Int)(hz:z=if m then -(n:Int)else n):aW prog 158 [.one (.bool m),mT n] (.ret [iT z]):=by
 refine dK (args:=[.v none,.v (some 1)]) (ins:=[.v (.one (.bool m)),.v (mT n)]) (hints:=fun _=>none) fo (by kernel_rfl) func158 ⟨rfl,rfl,trivial⟩ ?_;rw[aA7];have ha:z.natAbs=n:=by subst hz;cases m<;>simp
 refine tK m rfl (fun hm=>?_) (fun hm=>?_)
 ·subst hm;apply aA (ta n);apply vn ru;refine aM ?_;have:(!decide (n=0))=decide (z<0):=by subst hz;simp;by_cases h:n=0<;>simp[h]<;>omega
  show[aK.agg [dT n,.bool (!decide (n=0))]]=_;rw[this,iT,ha]
 ·subst hm;refine aM ?_;have:false=decide (z<0):=by subst hz;simp
  show[aK.agg [dT n,.bool false]]=_;rw[this,iT,ha]
def bN1:Tr:=Zd 26 54 (gF 28 236 237 55 (Yx 26 57 (cW 15 27 40 50 53 (fE 15 27 29 237 59 56 (ba 14 1 3 30 (tn 1 30 32 31))))))
def bL9:Tr:=fw 7 14 3 42 43 (cW 15 22 40 41 44 (nP 15 22 237 45 (gF 23 237 236 46 (fw 21 24 236 40 47 (fw 13 25 236 35 48 (fw 7 14 3 51 52 bN1))))))
def cb3:Tr:=aw 1 0 64 40 (fw 7 17 3 62 65 (gF 13 236 237 67 (cW 15 18 40 61 66 (fE 15 18 19 237 69 68 (ba 7 1 3 22 (qf 0 21 20))))))
def bW3:Tr:=dw 14 0 12 3 30 29 0 (aQ 16 0 (fJ 1 0 14 0 40 28 30 (di 17 237 33 (gF 11 237 236 36 (gF 18 237 236 38 (rn .mul 236 37 39 19 0 20 0 236 bL9))))) cb3)
def cj4:Tr:=QR 0 5 (dw 7 0 6 3 22 21 0 (aQ 9 0 (fJ 0 0 7 0 40 20 22 (di 10 237 25 (aw 1 0 28 40 (.loop 1 [(.w (.one (.c (.k (.int .u64 0))))),lK 0,.row 8] bW3)))) (ZE 8 71 (rm 10))))
def ci0:Tr:=aw 0 0 12 40 (aw 1 0 15 40 (fw 2 3 3 13 16 (CL 4 17 (aw 0 0 20 40 cj4))))
theorem aT0:aV prog f162 dE [.v (some 1),.v (some 1)]=ci0:=by kernel_rfl
theorem bD4{os:List Nat}{j z old n:Nat}(hj:os[j]?=some old)(hjn:j<n:=by omega):lv ((os.set j z).take n)+1000000000^j*old=lv (os.take n)+1000000000^j*z:=by
 have hlt:j<os.length:=(bg.1 hj).1
 have key:∀(os:List Nat)(j n:Nat),os[j]?=some old->j<n->lv ((os.set j z).take n)+1000000000^j*old=lv (os.take n)+1000000000^j*z:=by
  intro os
  induction os with
  | nil=>intro j n h;simp at h
  | cons d os ih=>
    intro j n h hn;obtain⟨m,rfl⟩:∃m,n=m+1:=⟨n-1,by omega⟩
    cases j with
    | zero=>
      simp only[mI,aU]at h;subst h;simp only[qb,lS,lv,val];omega
    | succ j=>
      have:=ih j m (by simpa using h) (by omega);simp only[vP,lS,lv,val,bW]at this|-;have h1:1000000000^j*1000000000*old=1000000000*(1000000000^j*old):=by rw[zd,bo]
      have h2:1000000000^j*1000000000*z=1000000000*(1000000000^j*z):=by rw[zd,bo]
      rw[h1,h2];omega
 exact key os j n hj hjn
theorem aY9(n:Nat):lv (List.replicate n 0)=0:=by
 induction n with
 | zero=>rfl
 | succ n ih=>rw[jV,lv,val];simp only[lv]at ih;rw[ih]
structure QZ(xs ys:List Nat)(i:Nat)(os:List Nat):Prop where
 le:i<=xs.length
 len:os.length=xs.length+ys.length
 dg:Dg os
 eq:lv (os.take (i+ys.length))=lv (xs.take i)*lv ys
structure TIn(xs ys:List Nat)(i x T k c:Nat)(os:List Nat):Prop where
 le:k<=ys.length
 len:os.length=xs.length+ys.length
 dg:Dg os
 c1:c<1000000000
 eq:lv (os.take (i+ys.length))+1000000000^(i+k)*c=T+x*(1000000000^i*lv (ys.take k))
theorem QZ.init(xs ys:List Nat):QZ xs ys 0 (List.replicate (xs.length+ys.length) 0):=⟨cL _,by simp,Dg.rep _,by
 rw[YQ,aY9];simp[lv,val]⟩
theorem QZ.inn{xs ys os:List Nat}{i x:Nat}(h:QZ xs ys i os):TIn xs ys i x (lv (xs.take i)*lv ys) 0 0 os:=⟨cL _,h.len,h.dg,by omega,by rw[h.eq];simp[lv,val]⟩
theorem TIn.next{xs ys os:List Nat}{i x T k c y old z c':Nat}(h:TIn xs ys i x T k c os)(hi:i<xs.length)(hk:k<ys.length)(hx:x<1000000000)(hy:ys[k]?=some y)(ho:os[i+k]?=some old)(hz:z<1000000000)(hc:c'<1000000000)(he:z+1000000000*c'=c+(x*y+old)) :
  TIn xs ys i x T (k+1) c' (os.set (i+k) z):=by
 refine⟨hk,by rw[bH];exact h.len,h.dg.set hz,hc,?_⟩;have h1:=bD4 (z:=z) (n:=i+ys.length) ho;have h2:=congrArg (fun t=>1000000000^(i+k)*t) he;have h3:=h.eq;rw[fO hy];simp only[eY]at h2|-;have e1:1000000000^(i+(k+1))*c'=1000000000^(i+k)*(1000000000*c'):=by rw[<-kP,bW,eP]
 have e2:x*(1000000000^i*(1000000000^k*y))=1000000000^(i+k)*(x*y):=by rw[bz];simp only[ma,eP]
 rw[e1,e2];omega
theorem TIn.out{xs ys os:List Nat}{i x c:Nat}(h:TIn xs ys i x (lv (xs.take i)*lv ys) ys.length c os)(hx:xs[i]?=some x):QZ xs ys (i+1) (os.set (i+ys.length) c):=by
 have hi:i<xs.length:=(bg.1 hx).1;refine⟨hi,by rw[bH];exact h.len,h.dg.set h.c1,?_⟩;have h3:=h.eq;rw[gH]at h3;rw[show i+1+ys.length=i+ys.length+1 by omega,rW (by rw[h.len];omega),fO hx,h3,bf]
 congr 1
 rw[ma,<-eP]
theorem QZ.fin{xs ys os:List Nat}(h:QZ xs ys xs.length os):lv os=lv xs*lv ys:=by
 have:=h.eq;rw[dD (by rw[h.len];omega),gH]at this;exact this
theorem oA(a b:Nat)(hs:(dg a).length+(dg b).length<1099511627776:=by omega):aW prog 162 [mT a,mT b] (.ret [mT (a*b)]):=by
 refine dK (args:=[.v (some 1),.v (some 1)]) (ins:=[.v (mT a),.v (mT b)]) (hints:=fun _=>none) fo (by kernel_rfl) func162 ⟨rfl,rfl,trivial⟩ ?_;rw[aT0];dsimp only[List.map,In.env];apply vn (aR eG cZ);apply vn (aR eG cZ);apply vn (fF (c:=(((dg a).length+(dg b).length:Nat):Int)) (by rw[nY]<;>omega)) rfl;refine tQ (n:=(dg a).length+(dg b).length) (m:=(dg a).length+(dg b).length) rfl rfl Pj (aY _) (by omega) (by simp[maxLen];omega) ?_;dsimp only[aF,aG];apply vn (aR eG cZ);refine bG {g:Nat×List Nat // QZ (dg a) (dg b) g.1 g.2} (fun g=>[.one (.int .i64 g.1.1),.rows (rT g.1.2)]) (fun g=>(dg a).length-g.1.1) ⟨(0,List.replicate ((dg a).length+(dg b).length) 0),QZ.init _ _⟩ aX.rfl (fun _=>rfl) ?_;rintro⟨⟨i,os⟩,hO⟩;dsimp only[aF,aG]at hO|-;apply vn tP;refine vs _ rfl ?_ ?_<;>intro h
 ·have hlt:i<(dg a).length:=by omega
  have hget:(dg a)[i]?=some ((dg a)[i]'hlt):=bB hlt;generalize (dg a)[i]'hlt=x at hget;have hx:=(kv a).get hget;apply vn (Ku eG (by simpa using hget));apply vn Jb;apply vn (aR eG cZ);dsimp only[aF,aG];refine bG {g:Nat×Nat×List Nat // TIn (dg a) (dg b) i x (lv ((dg a).take i)*lv (dg b)) g.1 g.2.1 g.2.2} (fun g=>[.one (.int .u64 g.1.2.1),.one (.int .i64 g.1.1),.rows (rT g.1.2.2)]) (fun g=>(dg b).length-g.1.1) ⟨(0,0,os),hO.inn⟩ aX.rfl (fun _=>rfl) ?_;rintro⟨⟨k,c,os2⟩,hI⟩;dsimp only[aF,aG]at hI|-;have hc:=hI.c1;apply vn tP;refine vs _ rfl ?_ ?_<;>intro h1
  ·have hlk:k<(dg b).length:=by omega
   have hgk:(dg b)[k]?=some ((dg b)[k]'hlk):=bB hlk;generalize (dg b)[k]'hlk=y at hgk;have hy:=(kv b).get hgk;have hol:i+k<os2.length:=by rw[hI.len];omega
   have hok:os2[i+k]?=some (os2[i+k]'hol):=bB hol;generalize os2[i+k]'hol=old at hok;have hold:=hI.dg.get hok;have hxy:x*y<=999999999*999999999:=eD (by omega) (by omega);apply vn (Ku eG (by simpa using hgk));apply vn Jb;apply vn (jo ⟨_,ia⟩ jP (c:=(x:Int)) (by rw[rN]<;>omega)) rfl;dsimp only[aF,aG];apply vn (jo ⟨_,ia⟩ jP (c:=(y:Int)) (by rw[rN]<;>omega)) rfl;apply vn (uz (c:=((x*y:Nat):Int)) (by rw[<-iI,rN]<;>omega)) rfl;apply vn (fF (c:=((i+k:Nat):Int)) (by rw[nY]<;>omega)) rfl;refine qw (ts:=rT os2) rfl rfl (by omega) (by rw[cZ];omega) ?_;refine vld (ts:=rT os2) (cells:=[aC.int .u32 (old:Int)]) (t:=.one (.int .u32 (old:Int))) rfl rfl (by omega) (oo (by rw[al];exact hok)) (.inr rfl) rfl ?_;dsimp only[aF,aG];apply vn (jo ⟨_,ia⟩ jP (c:=(old:Int)) (by rw[rN]<;>omega)) rfl;apply vn (fF (c:=((x*y+old:Nat):Int)) (by rw[rN]<;>omega)) rfl;apply vn (fF (c:=((c+(x*y+old):Nat):Int)) (by rw[rN]<;>omega)) rfl;dsimp only[aF,aG];generalize xJ:c+(x*y+old)=w;have hw:w<1000000000*1000000000:=by omega
   apply vn (fF (c:=((i+k:Nat):Int)) (by rw[nY]<;>omega)) rfl;apply vn (DA (c:=((w%1000000000:Nat):Int)) (by decide) (by rw[qV (by omega)];omega)) rfl;apply vn (jo ⟨_,jP⟩ ia (c:=((w%1000000000:Nat):Int)) (by rw[yG]<;>omega)) rfl;apply vn (pJ (c:=((w/1000000000:Nat):Int)) (by decide) (by rw[oq (by omega),rN]<;>omega)) rfl;dsimp only[aF,aG];refine qw (ts:=rT os2) rfl rfl (by omega) (by rw[cZ];omega) ?_;refine Rd (ts:=rT os2) (us:=rT (os2.set (i+k) (w%1000000000))) rfl rfl (by omega) (oo (by rw[al];exact hok)) lF ?_;apply vn (fF (c:=((k+1:Nat):Int)) (by rw[nY]<;>omega)) rfl;dsimp only[aF,aG];have hN:TIn (dg a) (dg b) i x (lv ((dg a).take i)*lv (dg b)) (k+1) (w/1000000000) (os2.set (i+k) (w%1000000000)):=hI.next hlt hlk hx hgk hok (by omega) (by omega) (by omega);exact af rfl ⟨⟨(k+1,w/1000000000,os2.set (i+k) (w%1000000000)),hN⟩,aX.rfl,by show(dg b).length-(k+1)<(dg b).length-k;omega⟩
  ·have hke:k=(dg b).length:=by have:=hI.le;omega
   subst hke;have hol:i+(dg b).length<os2.length:=by rw[hI.len];omega
   have hok:os2[i+(dg b).length]?=some (os2[i+(dg b).length]'hol):=bB hol;apply vn (aR eG cZ);apply vn (fF (c:=((i+(dg b).length:Nat):Int)) (by rw[nY]<;>omega)) rfl;apply vn (jo ⟨_,jP⟩ ia (c:=(c:Int)) (by rw[yG]<;>omega)) rfl;refine qw (ts:=rT os2) rfl rfl (by omega) (by rw[cZ];omega) ?_;refine Rd (ts:=rT os2) (us:=rT (os2.set (i+(dg b).length) c)) rfl rfl (by omega) (oo (by rw[al];exact hok)) lF ?_;dsimp only[aF,aG];apply vn (fF (c:=((i+1:Nat):Int)) (by rw[nY]<;>omega)) rfl;dsimp only[aF,aG];exact af rfl ⟨⟨(i+1,os2.set (i+(dg b).length) c),hI.out hget⟩,aX.rfl,by show(dg a).length-(i+1)<(dg a).length-i;omega⟩
 ·have hie:i=(dg a).length:=by have:=hO.le;omega
  subst hie;apply aA (jx os hO.dg (by rw[hO.len];omega)) rfl;dsimp only[aF,aG];refine aM ?_;have hf:=hO.fin;rw[iX,iX]at hf;rw[hf];rfl
def bY0:Tr:=cD 1
def cf1:Tr:=rn .neq 3 3 4 0 0 0 0 4 bY0
theorem WY:aV prog f233 dE [.v none]=cf1:=by kernel_rfl
def cf3:Tr:=rn .neq 237 3 4 0 0 0 0 4 bY0
theorem VI:aV prog f234 dE [.v none]=cf3:=by kernel_rfl
def cc5:Tr:=aQ 3 0 aV5 aS5
def bi7:Tr:=aQ 5 0 aL0 aV5
def cf8:Tr:=ku 233 0 7 3 4 (ku 233 1 9 3 4 (aQ 2 0 cc5 (aQ 3 0 aL0 (dw 0 0 1 3 14 15 4 (aQ 4 0 aS5 (rn .gtr 3 17 18 0 0 1 0 4 bi7))))))
theorem aI6:aV prog f210 dE [.v none,.v none]=cf8:=by kernel_rfl
def bZ7:Tr:=ku 234 0 7 237 4 (ku 234 1 9 237 4 (aQ 2 0 cc5 (aQ 3 0 aL0 (dw 0 0 1 237 14 15 4 (aQ 4 0 aS5 (rn .gtr 237 17 18 0 0 1 0 4 bi7))))))
theorem ap7:aV prog f211 dE [.v none,.v none]=bZ7:=by kernel_rfl
def by6:Tr:=fJ 1 0 9 0 40 32 33 (di 13 237 34 (jB 211 12 0 14 30 35 237 237 3 (nS 15 0 3 37 (aQ 16 0 (cD 15) (fS 9 1 24 (jS 0 8 17))))))
def bN6:Tr:=aw 0 0 19 40 (fS 6 1 20 (.loop 0 [lK 0,lV 7 0] (nL 9 0 22 (aQ 10 0 (fJ 0 0 9 0 40 27 28 (di 11 237 29 by6)) aV5))))
def bL7:Tr:=aw 0 0 9 40 (aw 1 0 12 40 (jB 210 2 0 3 10 13 3 3 3 (nS 4 0 3 15 (aQ 5 0 (cD 4) bN6))))
theorem ae0:aV prog f164 dE [.v (some 1),.v (some 1)]=bL7:=by kernel_rfl
def bH0:Tr:=gF 16 236 237 35 (gF 1 237 236 38 (rn .rem 236 37 39 14 0 18 0 236 (cW 8 7 40 30 31 (fE 8 7 17 237 41 36 (fS 7 1 19 (tn 0 19 21 20))))))
def cd2:Tr:=aG1 6 21 (fJ 0 0 7 0 40 24 25 (di 11 237 26 (gF 12 237 236 27 (fw 10 13 236 22 28 (gF 1 237 236 33 (rn .quo 236 32 34 14 0 15 0 236 bH0))))))
def bU4:Tr:=fS 4 1 15 (.loop 0 [(.w (.one (.c (.k (.int .u64 0))))),lV 5 0,.row 3] (nL 7 0 17 (aQ 9 0 cd2 (Wg 8 42 (oy 206 6 1 44 236 42 (.ret [(G1 10),(G1 11)]))))))
def bV7:Tr:=aw 0 0 10 40 (CL 2 11 (aw 0 0 14 40 bU4))
theorem aC5:aV prog f243 dE [.v (some 1),.v none]=bV7:=by kernel_rfl
def bR4:Tr:=aw 0 0 4 40 (gQ 1 0 1 3 5 (aQ 2 0 (rh 0 0 0 40 9 (di 3 237 10 (aH2 4 1 11 (cD 5)))) (hx143Q )))
theorem bp8:aV prog f221 dE [.v (some 1)]=bR4:=by kernel_rfl
def fA(x y:Int):Int:=if x<y then -1 else if y<x then 1 else 0
theorem Dw(x:Int):aW prog 233 [.one (.int .i64 x)] (.ret [.one (.bool false)]):=by
 refine dK (args:=[.v none]) (ins:=[.v (.one (.int .i64 x))]) (hints:=fun _=>none) fo (by kernel_rfl) func233 ⟨rfl,trivial⟩ ?_;rw[WY];apply vn TD;refine aM ?_;show[aK.one (.bool (!decide (x=x)))]=_;simp
theorem az2(x y:Int):aW prog 210 [.one (.int .i64 x),.one (.int .i64 y)] (.ret [.one (.int .i64 (fA x y))]):=by
 refine dK (args:=[.v none,.v none]) (ins:=[.v (.one (.int .i64 x)),.v (.one (.int .i64 y))]) (hints:=fun _=>none) fo (by kernel_rfl) func210 ⟨rfl,rfl,trivial⟩ ?_;rw[aI6];apply aA (Dw x);apply aA (Dw y);refine tK false rfl (fun h=>by cases h) (fun _=>?_);refine tK false rfl (fun h=>by cases h) (fun _=>?_);apply vn tP;refine vs _ rfl ?_ ?_<;>intro h
 ·refine aM ?_;rw[fA,aD h];rfl
 ·apply vn SI;refine vs _ rfl ?_ ?_<;>intro h2
  ·refine aM ?_;rw[fA,aH h,aD h2];rfl
  ·refine aM ?_;rw[fA,aH h,aH h2];rfl
theorem DQ(x:Int):aW prog 234 [.one (.int .u32 x)] (.ret [.one (.bool false)]):=by
 refine dK (args:=[.v none]) (ins:=[.v (.one (.int .u32 x))]) (hints:=fun _=>none) fo (by kernel_rfl) func234 ⟨rfl,trivial⟩ ?_;rw[VI];apply vn TD;refine aM ?_;show[aK.one (.bool (!decide (x=x)))]=_;simp
theorem av6(x y:Int):aW prog 211 [.one (.int .u32 x),.one (.int .u32 y)] (.ret [.one (.int .i64 (fA x y))]):=by
 refine dK (args:=[.v none,.v none]) (ins:=[.v (.one (.int .u32 x)),.v (.one (.int .u32 y))]) (hints:=fun _=>none) fo (by kernel_rfl) func211 ⟨rfl,rfl,trivial⟩ ?_;rw[ap7];apply aA (DQ x);apply aA (DQ y);refine tK false rfl (fun h=>by cases h) (fun _=>?_);refine tK false rfl (fun h=>by cases h) (fun _=>?_);apply vn tP;refine vs _ rfl ?_ ?_<;>intro h
 ·refine aM ?_;rw[fA,aD h];rfl
 ·apply vn SI;refine vs _ rfl ?_ ?_<;>intro h2
  ·refine aM ?_;rw[fA,aH h,aD h2];rfl
  ·refine aM ?_;rw[fA,aH h,aH h2];rfl
theorem aZ5(z:Int):aW prog 91 [iT z] (.ret [.one (.int .i64 z.sign)]):=by
 refine dK (args:=[.v (some 2)]) (ins:=[.v (iT z)]) (hints:=fun _=>none) fo (by kernel_rfl) func91 ⟨rfl,trivial⟩ ?_;rw[aU1];apply aA (ta z.natAbs);refine vs _ rfl ?_ ?_<;>intro h
 ·refine aM ?_;have:z.sign=0:=by rw[zh];omega
  rw[this];rfl
 ·refine vs _ rfl ?_ ?_<;>intro h2
  ·refine aM ?_;rw[oK h2];rfl
  ·refine aM ?_;rw[fZ (by omega)];rfl
theorem uf{xs ys:List Nat}(hx:Dg xs)(hlen:xs.length=ys.length){i x y:Nat}(hi:xs[i]?=some x)(hj:ys[i]?=some y)(hd:xs.drop (i+1)=ys.drop (i+1))(hxy:x<y):lv xs<lv ys:=by
 have hil:i<xs.length:=(bg.1 hi).1
 have e1:lv xs=lv (xs.take (i+1))+1000000000^(i+1)*lv (xs.drop (i+1)):=by
  conv=>lhs;rw[<-mW (i+1) xs]
  rw[so,bL,dM (by omega)]
 have e2:lv ys=lv (ys.take (i+1))+1000000000^(i+1)*lv (ys.drop (i+1)):=by
  conv=>lhs;rw[<-mW (i+1) ys]
  rw[so,bL,dM (by omega)]
 rw[e1,e2,hd,fO hi,fO hj]
 have h1:lv (xs.take i)<1000000000^i:=by
  have:=Wh (B:=1000000000) (by omega) (xs.take i) (hx.take i);rw[bL,dM (by omega)]at this;exact this
 have h2:1000000000^i*(x+1)<=1000000000^i*y:=dF _ hxy;rw[eY,de]at h2;omega
theorem wS{a b:Nat}(h:(dg a).length<(dg b).length):a<b:=by
 have hb:b≠0:=by rintro rfl;rw[show dg 0=[]from dN _]at h;simp at h
 have h1:=mA (B:=1000000000) (by omega) a;have h2:=iA (B:=1000000000) (by omega) hb;have h3:1000000000^(dg a).length<=1000000000^((dg b).length-1):=ey (by omega) (by omega);exact br h1 (bF h3 h2)
theorem sL{a b:Int}(h:a<b):fA a b=-1:=aD h
theorem sn{a b:Int}(h:b<a):fA a b=1:=by rw[fA,aH (by omega),aD h]
theorem Ak(a:Int):fA a a=0:=by rw[fA,aH (by omega),aH (by omega)]
theorem Ly{a b:Int}:fA a b=0↔a=b:=by
 unfold fA;constructor
 ·intro h;split at h
  ·cases h
  ·split at h
   ·cases h
   ·omega
 ·rintro rfl;simp
theorem sM(a b:Nat)(hs:(dg a).length+(dg b).length<1099511627776:=by omega):aW prog 164 [mT a,mT b] (.ret [.one (.int .i64 (fA a b))]):=by
 refine dK (args:=[.v (some 1),.v (some 1)]) (ins:=[.v (mT a),.v (mT b)]) (hints:=fun _=>none) fo (by kernel_rfl) func164 ⟨rfl,rfl,trivial⟩ ?_;rw[ae0];dsimp only[List.map,In.env];apply vn (aR eG cZ);apply vn (aR eG cZ);apply aA (az2 _ _);apply vn TD;dsimp only[aF,aG];refine tK (!decide (fA ((dg a).length:Int) ((dg b).length:Int)=0)) rfl (fun h=>?_) (fun h=>?_)
 ·refine aM ?_;have hne:¬fA ((dg a).length:Int) ((dg b).length:Int)=0:=by simpa using h
  have:fA ((dg a).length:Int) ((dg b).length:Int)=fA a b:=by
   rcases Pa (dg a).length (dg b).length with hl | hl | hl
   ·rw[sL (by omega),sL (by have:=wS hl;omega)]
   ·rw[hl]at hne;exact absurd (Ak _) hne
   ·rw[sn (by omega),sn (by have:=wS hl;omega)]
  rw[<-this];rfl
 ·have he:(dg a).length=(dg b).length:=by
   have:fA ((dg a).length:Int) ((dg b).length:Int)=0:=by simpa using h
   have:=Ly.1 this;omega
  apply vn (aR eG cZ);apply vn (oX (c:=((dg a).length:Int)-1) (by rw[nY]<;>omega)) rfl;refine bG {n:Nat // n<=(dg a).length/\(dg a).drop n=(dg b).drop n} (fun g=>[.one (.int .i64 0),.one (.int .i64 ((g.1:Int)-1))]) (fun g=>g.1) ⟨(dg a).length,aY _,by rw[Ay,he,Ay]⟩ aX.rfl (fun _=>rfl) ?_;rintro⟨n,hn,hdr⟩;dsimp only[aF,aG];apply vn GX;refine vs _ rfl ?_ ?_<;>intro h1
  ·have hla:n-1<(dg a).length:=by omega
   have hlb:n-1<(dg b).length:=by omega
   have hga:(dg a)[n-1]?=some ((dg a)[n-1]'hla):=bB hla;have hgb:(dg b)[n-1]?=some ((dg b)[n-1]'hlb):=bB hlb;generalize hxe:(dg a)[n-1]'hla=x at hga;generalize hye:(dg b)[n-1]'hlb=y at hgb;have htn:((n:Int)-1).toNat=n-1:=by omega
   have hdr':(dg a).drop (n-1+1)=(dg b).drop (n-1+1):=by rw[show n-1+1=n by omega];exact hdr
   apply vn (Ku eG (by rw[htn];exact hga)) rfl;apply vn Jb;apply vn (Ku eG (by rw[htn];exact hgb)) rfl;dsimp only[aF,aG];apply vn Jb;apply aA (av6 _ _);apply vn TD;refine tK (!decide (fA (x:Int) (y:Int)=0)) rfl (fun h2=>?_) (fun h2=>?_)
   ·refine aM ?_;have hne:¬fA (x:Int) (y:Int)=0:=by simpa using h2
    have:fA (x:Int) (y:Int)=fA a b:=by
     rcases Pa x y with hl | hl | hl
     ·have:=uf (kv a) he hga hgb hdr' hl;rw[iX,iX]at this;rw[sL (by omega),sL (by omega)]
     ·subst hl;exact absurd (Ak _) hne
     ·have:=uf (kv b) he.symm hgb hga hdr'.symm hl;rw[iX,iX]at this;rw[sn (by omega),sn (by omega)]
    rw[<-this];rfl
   ·have hxy:x=y:=by
     have:fA (x:Int) (y:Int)=0:=by simpa using h2
     have:=Ly.1 this;omega
    apply vn (oX (c:=((n-1:Nat):Int)-1) (by rw[nY]<;>omega)) rfl;dsimp only[aF,aG];refine af rfl ⟨⟨n-1,by omega,?_⟩,aX.rfl,by show n-1<n;omega⟩;rw[iG hla,iG hlb,hxe,hye,hxy,hdr']
  ·have hn0:n=0:=by omega
   subst hn0;refine aM ?_;rw[gi,gi]at hdr;have:a=b:=by have:=congrArg lv hdr;rwa[iX,iX]at this
   subst this;exact congrArg (fun x=>[aK.one (aC.int .i64 x)]) (Ak (a:Int)).symm
theorem QY{xs:List Nat}{i x:Nat}(h:xs[i]?=some x):lv (xs.drop i)=x+1000000000*lv (xs.drop (i+1)):=by
 have hi:i<xs.length:=(bg.1 h).1;rw[iG hi,(bg.1 h).2];rfl
structure MP(xs:List Nat)(d n r:Nat)(os:List Nat):Prop where
 le:n<=xs.length
 len:os.length=xs.length
 dg:Dg os
 r1:r<d
 eq:lv (os.drop n)*d+r=lv (xs.drop n)
theorem MP.init(xs:List Nat){d:Nat}(hd:0<d):MP xs d xs.length 0 (List.replicate xs.length 0):=⟨aY _,by simp,Dg.rep _,hd,by simp[lv,val]⟩
theorem MP.next{xs os:List Nat}{d n r x:Nat}(h:MP xs d (n+1) r os)(hd:d<1000000000)(hx:xs[n]?=some x)(hx1:x<1000000000):MP xs d n ((r*1000000000+x)%d) (os.set n ((r*1000000000+x)/d)):=by
 have hd0:0<d:=by have:=h.r1;omega
 have hq:(r*1000000000+x)/d<1000000000:=by
  rw[jl hd0];have h1:=h.r1;have:(r+1)*1000000000<=d*1000000000:=bu _ h1;rw[bf]at this;rw[bo 1000000000 d];omega
 have hl:=h.le;have hlen:=h.len;refine⟨by omega,by rw[bH];exact hlen,h.dg.set hq,dY _ hd0,?_⟩
 have hs:(os.set n ((r*1000000000+x)/d))[n]?=some ((r*1000000000+x)/d):=by
  rw[iV (by omega)]
 rw[QY hs,QY hx,zq (by omega),<-h.eq];have h1:=Pm (r*1000000000+x) d;rw[bo d]at h1;simp only[bf,eY,eP];omega
theorem MP.fin{xs os:List Nat}{d r:Nat}(h:MP xs d 0 r os):lv os=lv xs/d/\r=lv xs%d:=by
 have h1:=h.eq;rw[gi,gi]at h1;have h2:=h.r1;have e:lv xs=r+d*lv os:=by rw[<-h1,bo];omega
 constructor
 ·rw[e,oN _ _ (by omega),ec h2,bI]
 ·rw[e,sV,ed h2]
theorem RM(a d:Nat)(hd0:0<d)(hd:d<1000000000)(hs:(dg a).length<1099511627776:=by omega):aW prog 243 [mT a,.one (.int .u32 d)] (.ret [mT (a/d),mT (a%d)]):=by
 refine dK (args:=[.v (some 1),.v none]) (ins:=[.v (mT a),.v (.one (.int .u32 d))]) (hints:=fun _=>none) fo (by kernel_rfl) func243 ⟨rfl,rfl,trivial⟩ ?_;rw[aC5];dsimp only[List.map,In.env];apply vn (aR eG cZ);refine tQ (n:=(dg a).length) (m:=(dg a).length) rfl rfl Pj (aY _) (by omega) (by simp[maxLen];omega) ?_;apply vn (aR eG cZ);apply vn (oX (c:=((dg a).length:Int)-1) (by rw[nY]<;>omega)) rfl;dsimp only[aF,aG];refine bG {g:Nat×Nat×List Nat // MP (dg a) d g.1 g.2.1 g.2.2} (fun g=>[.one (.int .u64 g.1.2.1),.one (.int .i64 ((g.1.1:Int)-1)),.rows (rT g.1.2.2)]) (fun g=>g.1.1) ⟨((dg a).length,0,List.replicate (dg a).length 0),MP.init _ hd0⟩ aX.rfl (fun _=>rfl) ?_;rintro⟨⟨n,r,os⟩,hI⟩;dsimp only[aF,aG]at hI|-;have hr1:=hI.r1;have hln:=hI.le;apply vn GX;refine vs _ rfl ?_ ?_<;>intro h1
 ·obtain⟨m,rfl⟩:∃m,n=m+1:=⟨n-1,by omega⟩
  have hlt:m<(dg a).length:=by omega
  have hget:(dg a)[m]?=some ((dg a)[m]'hlt):=bB hlt;generalize (dg a)[m]'hlt=x at hget;have hx:=(kv a).get hget;have hol:m<os.length:=by rw[hI.len];omega
  have hok:os[m]?=some (os[m]'hol):=bB hol;have htn:(((m+1:Nat):Int)-1).toNat=m:=by omega
  apply vn (uz (c:=((r*1000000000:Nat):Int)) (by rw[rN]<;>omega)) rfl;apply vn (Ku eG (by rw[htn];exact hget)) rfl;apply vn Jb;dsimp only[aF,aG];apply vn (jo ⟨_,ia⟩ jP (c:=(x:Int)) (by rw[rN]<;>omega)) rfl;apply vn (fF (c:=((r*1000000000+x:Nat):Int)) (by rw[rN]<;>omega)) rfl;dsimp only[aF,aG];have hN:=hI.next hd hget hx;have hqd:=hN.dg.get (i:=m) (d:=(r*1000000000+x)/d) (iV (by omega));have hrd:=hN.r1;generalize hw:r*1000000000+x=w at hN hqd hrd|-;generalize hq:w/d=q at hN hqd;generalize hm:w%d=rr at hN hrd;apply vn (jo ⟨_,ia⟩ jP (c:=(d:Int)) (by rw[rN]<;>omega)) rfl;apply vn (pJ (c:=(q:Int)) (by omega) (by rw[oq (by omega),<-Au,hq,rN]<;>omega)) rfl;apply vn (jo ⟨_,jP⟩ ia (c:=(q:Int)) (by rw[yG]<;>omega)) rfl;apply vn (jo ⟨_,ia⟩ jP (c:=(d:Int)) (by rw[rN]<;>omega)) rfl;dsimp only[aF,aG];apply vn (DA (c:=(rr:Int)) (by omega) (by rw[qV (by omega),<-Rf,hm]));refine qw (ts:=rT os) rfl rfl (by omega) (by rw[cZ];omega) ?_;refine Rd (ts:=rT os) (us:=rT (os.set m q)) rfl rfl (by omega) (oo (by rw[htn];exact hok)) (by rw[htn];exact lF) ?_;apply vn (oX (c:=(m:Int)-1) (by rw[nY]<;>omega)) rfl;dsimp only[aF,aG];exact af rfl ⟨⟨(m,rr,os.set m q),hN⟩,aX.rfl,by show m<m+1;omega⟩
 ·have hn0:n=0:=by omega
  subst hn0;obtain⟨hf1,hf2⟩:=hI.fin;rw[iX]at hf1 hf2;apply aA (jx os hI.dg (by rw[hI.len];omega)) rfl;apply aA (oH r);dsimp only[aF,aG];refine aM ?_;rw[hf1,<-hf2];rfl
end Go.Sy
