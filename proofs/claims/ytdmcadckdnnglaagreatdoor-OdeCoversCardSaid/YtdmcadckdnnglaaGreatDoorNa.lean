/- Part. -/
import Derived.Test.YtdmcadckdnnglaaGreatDoorFa
import Derived.Test.YtdmcadckdnnglaaGreatDoorPa
set_option linter.all false
set_option maxHeartbeats 1000000
namespace Go.Sy
open Go Go.Proofs Tryz Ord
abbrev rT(ds:List Nat):List (List aE):=ds.map fun(d:Nat)=>[aE.int .u32 (d:Int)]
abbrev dg(n:Nat):List Nat:=kK 1000000000 n
abbrev lv(ds:List Nat):Nat:=val 1000000000 ds
abbrev dT(n:Nat):aE:=.slice 1 (rT (dg n))
abbrev mT(n:Nat):aG:=.agg [dT n]
def Dg(ds:List Nat):Prop:=∀d∈ds,d<1000000000
def yr{n:Int}(h0:0<=n)(h:n<4294967296):IntKind.u32.wrap n=n:=by rw[IntKind.wrap_u32];omega
def rl{n:Int}(h0:0<=n)(h:n<18446744073709551616):IntKind.u64.wrap n=n:=by rw[qY];omega
def nS{n:Int}(h0:-9223372036854775808<=n)(h:n<9223372036854775808):IntKind.i64.wrap n=n:=by rw[IntKind.wrap_i64];omega
def pF{ds:List Nat}{i d:Nat}(h:ds[i]?=some d):(rT ds)[i]?=some [aE.int .u32 (d:Int)]:=by
 rw[cC,h];rfl
def kJ{ds:List Nat}{i x:Nat}:(rT ds).set i [aE.int .u32 (x:Int)]=rT (ds.set i x):=by
 rw[rT,rT,tZ]
def br{ds:List Nat}:(rT ds).length=ds.length:=aR _
def yN{n:Nat}:dg n=[]↔n=0:=by
 constructor
 ·intro h;by_cases hn:n=0
  ·exact hn
  ·rw[dg,fU O hn]at h;cases h
 ·rintro rfl;exact ck _
def ke(n:Nat):Dg (dg n):=BD n
def gw(n:Nat):lv (dg n)=n:=wV O n
def Dg.take{ds:List Nat}(h:Dg ds)(n:Nat):Dg (ds.take n):=fun d hd=>h d (List.mem_of_mem_take hd)
def Dg.set{ds:List Nat}(h:Dg ds){i x:Nat}(hx:x<1000000000):Dg (ds.set i x):=fun d hd=>by
 rcases List.mem_or_eq_of_mem_set hd with hd | rfl
 ·exact h d hd
 ·exact hx
def Dg.get{ds:List Nat}(h:Dg ds){i d:Nat}(hd:ds[i]?=some d):d<1000000000:=h d (bc hd)
def JG{ds:List Nat}{i d:Nat}(h:ds[i]?=some d):ds.take (i+1)=ds.take i++[d]:=by
 rw[List.take_add_one,h];rfl
def tg(xs ys:List Nat):lv (xs++ys)=lv xs+1000000000^xs.length*lv ys:=iw _ _ _
def aY4(d:Nat):lv [d]=d:=by simp[lv,val]
def fA{ds:List Nat}{i d:Nat}(h:ds[i]?=some d):lv (ds.take (i+1))=lv (ds.take i)+1000000000^i*d:=by
 have hi:i<ds.length:=(dn.1 h).1;rw[JG h,tg,aY4,List.length_take,Nat.min_eq_left O]
def sL{os:List Nat}{i x:Nat}(h:i<os.length):lv ((os.set i x).take (i+1))=lv (os.take i)+1000000000^i*x:=by
 rw[fA (d:=x) (by simp[h])];rw[List.take_set_of_le (aY i)]
def KR{n:Nat}:List.replicate n ([Value.int .u32 0].map aE.exact)=rT (List.replicate n 0):=by
 rw[rT,sK];rfl
def Dg.rep(n:Nat):Dg (List.replicate n 0):=fun d hd=>by
 obtain⟨_,rfl⟩:=List.mem_replicate.1 hd;decide
abbrev dl(n:Nat):Nat:=(dg n).length
def Hs{ds:List Nat}{T ty:TypeId}{x y:Operand}{k:IntKind}{n:Int}{d:Nat}(h:dI prog T=some (255,1,4))(hd:ds[n.toNat]?=some d)(h0:0<=n:=by omega) :
  af prog (.indexAddr T x y) ty [.one (.slice 1 (rT ds)),.one (.int k n)] (.one (.aj [aE.int .u32 (d:Int)])):=aL1 h h0 (pF hd)
def GU{ty:TypeId}{x:Operand}{d:Int}:af prog (.load 255 x) ty [.one (.aj [aE.int .u32 d])] (.one (.int .u32 d)):=bB (n:=1) xW (by decide) (by simp) (.inr rfl)
def bW4:Tr:=fP 2 1 10 (gb 0 0 4 0 33 9 11 (bm 5 255 12 (RM 6 0 13 (aH 7 0 (fP 2 1 16 (.back 0 [lV 8 0])) (ah5 (pR 8))))))
def bU9:Tr:=au 0 0 4 33 (Fc 1 (fL 2 0 0 3 6 (aH 3 0 bW4 (ah5 (pR 4)))))
def Vf:aM prog f197 bZ [.v none]=bU9:=by kernel_rfl
def jK(ds:List Nat)(hd:Dg ds)(hl:ds.length<4611686018427387904:=by omega):aL prog 197 [.one (.slice 1 (rT ds))] (.ret [mT (lv ds)]):=by
 refine cI (args:=[.v none]) (ins:=[.v (.one (.slice 1 (rT ds)))]) (hints:=fun _=>none) fo (by kernel_rfl) func197 ⟨rfl,trivial⟩ ?_;rw[Vf];apply vn (aU dS br);refine ao {n:Nat // n<=ds.length/\lv (ds.take n)=lv ds} (fun g=>[.one (.int .i64 g.1)]) (fun g=>g.1) ⟨ds.length,aY _,by rw[List.take_length]⟩ aQ.rfl (fun _=>rfl) ?_;rintro⟨n,hn,hv⟩;dsimp only
 have fin:∀τ:Env,(n=0\/∃d,ds[n-1]?=some d/\d≠0)->(rT ds).take n=rT (dg (lv ds)):=by
  intro τ h;rw[rT,rT,<-lx]
  congr 1
  rw[<-hv,dg,lv,MB O _ (hd.take n)];intro d hlast;rcases h with rfl | ⟨d',hd',hne⟩
  ·simp at hlast
  ·rw[TL,List.length_take,Nat.min_eq_left hn,eo]at hlast;split at hlast
   ·rw[hd']at hlast;simp at hlast;omega
   ·cases hlast
 apply vn Nd;refine vs _ rfl ?_ ?_<;>intro h
 ·have hlt:n-1<ds.length:=O
  have hget:ds[n-1]?=some (ds[n-1]'hlt):=ay hlt;generalize ds[n-1]'hlt=d at hget;apply vn (mv (c:=((n-1:Nat):Int)) (by rw[nS]<;>omega)) rfl;apply vn (Hs dS (by simpa using hget));apply vn GU;apply vn ad7;refine vs _ rfl ?_ ?_<;>intro h2
  ·apply vn (mv (c:=((n-1:Nat):Int)) (by rw[nS]<;>omega)) rfl;refine aW rfl ⟨⟨n-1,O,?_⟩,aQ.rfl,?_⟩
   ·have hd0:d=0:=O
    subst hd0;have:=fA hget;rw[Nat.mul_zero,show n-1+1=n by omega]at this;exact(this.symm.trans hv)
   ·show n-1<n;omega
  ·apply vn (El dS (by simpa using hn));refine aK ?_;exact congrArg (fun x=>[aG.agg [aE.slice 1 x]]) (fin [] (.inr ⟨d,hget,O⟩))
 ·apply vn (El dS (by simpa using hn));refine aK ?_;exact congrArg (fun x=>[aG.agg [aE.slice 1 x]]) (fin [] (.inl O))
def bv7:Tr:=JE 20 46 (aH 21 0 (Jt 20 48 (dL 11 10 33 50 51 (ec 11 10 22 255 53 52 (bD 10 1 3 26 (qv 1 24 23))))) (dL 11 10 33 50 51 (ec 11 10 20 255 53 52 (bD 10 1 3 26 (qv 0 23 22)))))
def aN8:Tr:=bm 18 255 43 (fG 15 0 19 0 255 39 44 bv7)
def aP4:Tr:=JE 15 46 (aH 18 0 (Jt 15 48 (dL 11 10 33 50 51 (ec 11 10 19 255 53 52 (bD 10 1 3 26 (qv 1 21 20))))) (dL 11 10 33 50 51 (ec 11 10 15 255 53 52 (bD 10 1 3 26 (qv 0 20 19)))))
def bC1:Tr:=gb 1 0 10 0 33 24 26 (bm 13 255 29 (fG 14 0 9 0 255 31 32 (au 0 0 36 33 (cU 10 16 0 3 34 37 4 (aH 17 0 (gb 0 0 10 0 33 41 42 aN8) aP4)))))
def aL7:Tr:=dL 11 13 33 55 58 (ec 11 13 9 255 60 59 (wO 197 1 14 1 61 33 35 (pR 15)))
def bT5:Tr:=bD 5 1 3 20 (EB 6 21 (au 1 0 24 33 (LB 7 (cU 10 8 0 3 26 25 0 (aH 12 0 bC1 (au 1 0 57 33 aL7))))))
def bz4:Tr:=gb 0 0 10 0 33 24 26 (bm 13 255 29 (fG 14 0 9 0 255 31 32 (au 1 0 36 33 (cU 10 16 0 3 34 37 4 (aH 17 0 (gb 1 0 10 0 33 41 42 aN8) aP4)))))
def bB6:Tr:=bD 5 1 3 20 (EB 6 21 (au 0 0 24 33 (LB 7 (cU 10 8 0 3 26 25 0 (aH 12 0 bz4 (au 0 0 57 33 aL7))))))
def bW1:Tr:=au 0 0 10 33 (au 1 0 13 33 (cU 2 3 0 3 11 14 4 (aH 4 0 (au 1 0 19 33 bT5) (au 0 0 19 33 bB6))))
def ba5:aM prog f196 bZ [.v (some 1),.v (some 1)]=bW1:=by kernel_rfl
structure qe(xs ys:List Nat)(i c:Nat)(os:List Nat):Prop where
 le:i<=xs.length
 c1:c<=1
 len:os.length=xs.length+1
 dg:Dg os
 eq:lv (os.take i)+1000000000^i*c=lv (xs.take i)+lv (ys.take i)
def qe.init(xs ys:List Nat):qe xs ys 0 0 (List.replicate (xs.length+1) 0):=⟨bO _,O,by simp,Dg.rep _,by simp[lv,val]⟩
def qe.next{xs ys os:List Nat}{i c x y c' z:Nat}(h:qe xs ys i c os)(hi:i<xs.length)(hx:xs[i]?=some x)(hy:ys[i]?.getD 0=y)(hc:c'<=1)(hz:z<1000000000)(he:z+1000000000*c'=x+c+y):qe xs ys (i+1) c' (os.set i z):=by
 refine⟨hi,hc,by rw[List.length_set];exact h.len,h.dg.set hz,?_⟩;rw[sL (by rw[h.len];omega),fA hx,Nat.pow_succ]
 have hb:lv (ys.take (i+1))=lv (ys.take i)+1000000000^i*y:=by
  cases hbi:ys[i]? with
  | some d=>rw[hbi]at hy;simp only[ei]at hy;subst hy;exact fA hbi
  | none=>
    rw[hbi]at hy;simp only[Option.getD_none]at hy;subst hy;have:=List.getElem?_eq_none_iff.1 hbi;rw[List.take_of_length_le O,List.take_of_length_le O];omega
 rw[hb];have h1:=h.eq;have h2:=congrArg (fun t=>1000000000^i*t) he;simp only[Nat.mul_add]at h2;rw[Nat.mul_assoc];omega
def qe.fin{xs ys os:List Nat}{c:Nat}{n:Nat}(h:qe xs ys xs.length c os)(hle:ys.length<=xs.length)(he:lv xs+lv ys=n):lv (os.set xs.length c)=n:=by
 have h1:=sL (os:=os) (i:=xs.length) (x:=c) (by rw[h.len];omega);rw[List.take_of_length_le (by rw[List.length_set,h.len];omega)]at h1;have h2:=h.eq;rw[List.take_length,List.take_of_length_le hle]at h2;omega
def Rj(a b:Nat)(hs:(dg a).length+(dg b).length<1099511627776:=by omega):aL prog 196 [mT a,mT b] (.ret [mT (a+b)]):=by
 refine cI (args:=[.v (some 1),.v (some 1)]) (ins:=[.v (mT a),.v (mT b)]) (hints:=fun _=>none) fo (by kernel_rfl) func196 ⟨rfl,rfl,trivial⟩ ?_;rw[ba5];dsimp only[List.map,In.env];apply vn (aU dS br);apply vn (aU dS br);apply vn uN;refine vs _ rfl ?_ ?_<;>intro hab
 ·skip
  apply vn (aU dS br);apply vn (dp (c:=(((dg b).length+1:Nat):Int)) (by rw[nS]<;>omega)) rfl;refine sJ (n:=(dg b).length+1) (m:=(dg b).length+1) rfl rfl KR (aY _) O (by simp[maxLen];omega) ?_;apply vn (aU dS br);refine ao {g:Nat×Nat×List Nat // qe (dg b) (dg a) g.1 g.2.1 g.2.2} (fun g=>[.one (.int .u32 g.1.2.1),.one (.int .i64 g.1.1),.rows (rT g.1.2.2)]) (fun g=>(dg b).length-g.1.1) ⟨(0,0,List.replicate ((dg b).length+1) 0),qe.init _ _⟩ aQ.rfl (fun _=>rfl) ?_;rintro⟨⟨i,c,os⟩,hI⟩;dsimp only[aO,aP]at hI|-;apply vn uN;refine vs _ rfl ?_ ?_<;>intro h
  ·have hlt:i<(dg b).length:=O
   have hget:(dg b)[i]?=some ((dg b)[i]'hlt):=ay hlt;generalize (dg b)[i]'hlt=x at hget;have hx:=(ke b).get hget;have hc:=hI.c1;have hol:i<os.length:=by rw[hI.len];omega
   have hog:(rT os)[((i:Int)).toNat]?=some [aE.int .u32 ((os[i]'hol:Nat):Int)]:=pF (by simp);apply vn (Hs dS (by simpa using hget));apply vn GU;apply vn (dp (c:=((x+c:Nat):Int)) (by rw[yr]<;>omega)) rfl;apply vn (aU dS br);apply vn uN;refine vs _ rfl ?_ ?_<;>intro h1
   ·have hlt1:i<(dg a).length:=O
    have hget1:(dg a)[i]?=some ((dg a)[i]'hlt1):=ay hlt1;generalize (dg a)[i]'hlt1=y at hget1;have hy:=(ke a).get hget1;apply vn (Hs dS (by simpa using hget1));apply vn GU;dsimp only[aO,aP];apply vn (dp (c:=((x+c+y:Nat):Int)) (by rw[yr]<;>omega)) rfl;apply vn Gd;refine vs _ rfl ?_ ?_<;>intro h2
    ·apply vn (mv (c:=((x+c+y-1000000000:Nat):Int)) (by rw[yr]<;>omega)) rfl;refine mq (ts:=rT os) rfl rfl O (by rw[br];omega) ?_;refine yx (ts:=rT os) (us:=rT (os.set i (x+c+y-1000000000))) rfl rfl O hog kJ ?_;apply vn (dp (c:=((i+1:Nat):Int)) (by rw[nS]<;>omega)) rfl;dsimp only[aO,aP];have hN:qe _ _ (i+1) 1 (os.set i (x+c+y-1000000000)):=hI.next (y:=y) hlt hget (by rw[hget1];rfl) O O O;exact aW rfl ⟨⟨(i+1,1,os.set i (x+c+y-1000000000)),hN⟩,aQ.rfl,by show(dg b).length-(i+1)<(dg b).length-i;omega⟩
    ·refine mq (ts:=rT os) rfl rfl O (by rw[br];omega) ?_;refine yx (ts:=rT os) (us:=rT (os.set i (x+c+y))) rfl rfl O hog kJ ?_;apply vn (dp (c:=((i+1:Nat):Int)) (by rw[nS]<;>omega)) rfl;dsimp only[aO,aP];have hN:qe _ _ (i+1) 0 (os.set i (x+c+y)):=hI.next (y:=y) hlt hget (by rw[hget1];rfl) O O O;exact aW rfl ⟨⟨(i+1,0,os.set i (x+c+y)),hN⟩,aQ.rfl,by show(dg b).length-(i+1)<(dg b).length-i;omega⟩
   ·have hget1:(dg a)[i]?=none:=fD O;apply vn Gd;refine vs _ rfl ?_ ?_<;>intro h2
    ·apply vn (mv (c:=((x+c-1000000000:Nat):Int)) (by rw[yr]<;>omega)) rfl;refine mq (ts:=rT os) rfl rfl O (by rw[br];omega) ?_;refine yx (ts:=rT os) (us:=rT (os.set i (x+c-1000000000))) rfl rfl O hog kJ ?_;apply vn (dp (c:=((i+1:Nat):Int)) (by rw[nS]<;>omega)) rfl;dsimp only[aO,aP];have hN:qe _ _ (i+1) 1 (os.set i (x+c-1000000000)):=hI.next (y:=0) hlt hget (by rw[hget1];rfl) O O O;exact aW rfl ⟨⟨(i+1,1,os.set i (x+c-1000000000)),hN⟩,aQ.rfl,by show(dg b).length-(i+1)<(dg b).length-i;omega⟩
    ·refine mq (ts:=rT os) rfl rfl O (by rw[br];omega) ?_;refine yx (ts:=rT os) (us:=rT (os.set i (x+c))) rfl rfl O hog kJ ?_;apply vn (dp (c:=((i+1:Nat):Int)) (by rw[nS]<;>omega)) rfl;dsimp only[aO,aP];have hN:qe _ _ (i+1) 0 (os.set i (x+c)):=hI.next (y:=0) hlt hget (by rw[hget1];rfl) O O O;exact aW rfl ⟨⟨(i+1,0,os.set i (x+c)),hN⟩,aQ.rfl,by show(dg b).length-(i+1)<(dg b).length-i;omega⟩
  ·have hie:i=(dg b).length:=by have:=hI.le;omega
   subst hie;have hol:(dg b).length<os.length:=by rw[hI.len];omega
   have hog:(rT os)[(((dg b).length:Int)).toNat]?=some [aE.int .u32 ((os[(dg b).length]'hol:Nat):Int)]:=pF (by simp);apply vn (aU dS br);refine mq (ts:=rT os) rfl rfl O (by rw[br];omega) ?_;refine yx (ts:=rT os) (us:=rT (os.set ((dg b).length) c)) rfl rfl O hog kJ ?_;apply aA (jK (os.set ((dg b).length) c) (hI.dg.set (by have:=hI.c1;omega)) (by rw[List.length_set,hI.len];omega)) rfl;dsimp only[aO,aP];refine aK ?_;rw[hI.fin (n:=a+b) O (by rw[gw,gw]<;>omega)];rfl
 ·skip
  apply vn (aU dS br);apply vn (dp (c:=(((dg a).length+1:Nat):Int)) (by rw[nS]<;>omega)) rfl;refine sJ (n:=(dg a).length+1) (m:=(dg a).length+1) rfl rfl KR (aY _) O (by simp[maxLen];omega) ?_;apply vn (aU dS br);refine ao {g:Nat×Nat×List Nat // qe (dg a) (dg b) g.1 g.2.1 g.2.2} (fun g=>[.one (.int .u32 g.1.2.1),.one (.int .i64 g.1.1),.rows (rT g.1.2.2)]) (fun g=>(dg a).length-g.1.1) ⟨(0,0,List.replicate ((dg a).length+1) 0),qe.init _ _⟩ aQ.rfl (fun _=>rfl) ?_;rintro⟨⟨i,c,os⟩,hI⟩;dsimp only[aO,aP]at hI|-;apply vn uN;refine vs _ rfl ?_ ?_<;>intro h
  ·have hlt:i<(dg a).length:=O
   have hget:(dg a)[i]?=some ((dg a)[i]'hlt):=ay hlt;generalize (dg a)[i]'hlt=x at hget;have hx:=(ke a).get hget;have hc:=hI.c1;have hol:i<os.length:=by rw[hI.len];omega
   have hog:(rT os)[((i:Int)).toNat]?=some [aE.int .u32 ((os[i]'hol:Nat):Int)]:=pF (by simp);apply vn (Hs dS (by simpa using hget));apply vn GU;apply vn (dp (c:=((x+c:Nat):Int)) (by rw[yr]<;>omega)) rfl;apply vn (aU dS br);apply vn uN;refine vs _ rfl ?_ ?_<;>intro h1
   ·have hlt1:i<(dg b).length:=O
    have hget1:(dg b)[i]?=some ((dg b)[i]'hlt1):=ay hlt1;generalize (dg b)[i]'hlt1=y at hget1;have hy:=(ke b).get hget1;apply vn (Hs dS (by simpa using hget1));apply vn GU;dsimp only[aO,aP];apply vn (dp (c:=((x+c+y:Nat):Int)) (by rw[yr]<;>omega)) rfl;apply vn Gd;refine vs _ rfl ?_ ?_<;>intro h2
    ·apply vn (mv (c:=((x+c+y-1000000000:Nat):Int)) (by rw[yr]<;>omega)) rfl;refine mq (ts:=rT os) rfl rfl O (by rw[br];omega) ?_;refine yx (ts:=rT os) (us:=rT (os.set i (x+c+y-1000000000))) rfl rfl O hog kJ ?_;apply vn (dp (c:=((i+1:Nat):Int)) (by rw[nS]<;>omega)) rfl;dsimp only[aO,aP];have hN:qe _ _ (i+1) 1 (os.set i (x+c+y-1000000000)):=hI.next (y:=y) hlt hget (by rw[hget1];rfl) O O O;exact aW rfl ⟨⟨(i+1,1,os.set i (x+c+y-1000000000)),hN⟩,aQ.rfl,by show(dg a).length-(i+1)<(dg a).length-i;omega⟩
    ·refine mq (ts:=rT os) rfl rfl O (by rw[br];omega) ?_;refine yx (ts:=rT os) (us:=rT (os.set i (x+c+y))) rfl rfl O hog kJ ?_;apply vn (dp (c:=((i+1:Nat):Int)) (by rw[nS]<;>omega)) rfl;dsimp only[aO,aP];have hN:qe _ _ (i+1) 0 (os.set i (x+c+y)):=hI.next (y:=y) hlt hget (by rw[hget1];rfl) O O O;exact aW rfl ⟨⟨(i+1,0,os.set i (x+c+y)),hN⟩,aQ.rfl,by show(dg a).length-(i+1)<(dg a).length-i;omega⟩
   ·have hget1:(dg b)[i]?=none:=fD O;apply vn Gd;refine vs _ rfl ?_ ?_<;>intro h2
    ·apply vn (mv (c:=((x+c-1000000000:Nat):Int)) (by rw[yr]<;>omega)) rfl;refine mq (ts:=rT os) rfl rfl O (by rw[br];omega) ?_;refine yx (ts:=rT os) (us:=rT (os.set i (x+c-1000000000))) rfl rfl O hog kJ ?_;apply vn (dp (c:=((i+1:Nat):Int)) (by rw[nS]<;>omega)) rfl;dsimp only[aO,aP];have hN:qe _ _ (i+1) 1 (os.set i (x+c-1000000000)):=hI.next (y:=0) hlt hget (by rw[hget1];rfl) O O O;exact aW rfl ⟨⟨(i+1,1,os.set i (x+c-1000000000)),hN⟩,aQ.rfl,by show(dg a).length-(i+1)<(dg a).length-i;omega⟩
    ·refine mq (ts:=rT os) rfl rfl O (by rw[br];omega) ?_;refine yx (ts:=rT os) (us:=rT (os.set i (x+c))) rfl rfl O hog kJ ?_;apply vn (dp (c:=((i+1:Nat):Int)) (by rw[nS]<;>omega)) rfl;dsimp only[aO,aP];have hN:qe _ _ (i+1) 0 (os.set i (x+c)):=hI.next (y:=0) hlt hget (by rw[hget1];rfl) O O O;exact aW rfl ⟨⟨(i+1,0,os.set i (x+c)),hN⟩,aQ.rfl,by show(dg a).length-(i+1)<(dg a).length-i;omega⟩
  ·have hie:i=(dg a).length:=by have:=hI.le;omega
   subst hie;have hol:(dg a).length<os.length:=by rw[hI.len];omega
   have hog:(rT os)[(((dg a).length:Int)).toNat]?=some [aE.int .u32 ((os[(dg a).length]'hol:Nat):Int)]:=pF (by simp);apply vn (aU dS br);refine mq (ts:=rT os) rfl rfl O (by rw[br];omega) ?_;refine yx (ts:=rT os) (us:=rT (os.set ((dg a).length) c)) rfl rfl O hog kJ ?_;apply aA (jK (os.set ((dg a).length) c) (hI.dg.set (by have:=hI.c1;omega)) (by rw[List.length_set,hI.len];omega)) rfl;dsimp only[aO,aP];refine aK ?_;rw[hI.fin (n:=a+b) O (by rw[gw,gw]<;>omega)];rfl
def bT0:Tr:=au 0 0 4 33 (eH 1 0 0 3 5 (bI 2))
def bd3:aM prog f179 bZ [.v (some 1)]=bT0:=by kernel_rfl
def bS0:Tr:=aH 3 0 (JH 1 9 (fM 4 254 255 10 (pa 5 33 11 (gU 1 4 2 6 8 12 33 (LC 1 6 (jV 0 8 7)))))) (.ret [(.agg [(.c (.sr 1 2))])])
def bU6:Tr:=RP (.need (.prim [(W 1 0),(.one (.c (.k (.int .u64 0))))] none) (.binOp .gtr 254 (tT 4) (.const (.int .u64 0)) 254) 4 false bS0)
def aK1:aM prog f195 bZ [.v none]=bU6:=by kernel_rfl
def bU2:Tr:=aH 0 0 (DJ 179 1 8 4 (jX 2 0 9 (kh 1 0 3 0))) (.ret [(.agg [(U 1 0),(tE (.bool false))])])
def ZX:aM prog f155 bZ [.v none,.v (some 1)]=bU2:=by kernel_rfl
def az7:Tr:=qQ 0
def av3:Tr:=qQ (-1)
def al7:Tr:=qQ 1
def bT8:Tr:=DM 179 0 0 5 4 (aH 1 0 az7 (aH 0 1 av3 al7))
def ax7:aM prog f114 bZ [.v (some 2)]=bT8:=by kernel_rfl
def xt(n:Nat):aL prog 179 [mT n] (.ret [.one (.bool (decide (n=0)))]):=by
 refine cI (args:=[.v (some 1)]) (ins:=[.v (mT n)]) (hints:=fun _=>none) fo (by kernel_rfl) func179 ⟨rfl,trivial⟩ ?_;rw[bd3];apply vn (aU dS rfl);apply vn ad7;refine aK ?_;show[aG.one (.bool (decide (_=(0:Int))))]=_
 have h:((rT (dg n)).length:Int)=0↔n=0:=by
  rw[br,<-yN];cases dg n<;>simp;omega
 simp only[h]
def im(n:Nat)(h:n<18446744073709551616:=by omega):aL prog 195 [.one (.int .u64 n)] (.ret [mT n]):=by
 refine cI (args:=[.v none]) (ins:=[.v (.one (.int .u64 n))]) (hints:=fun _=>none) fo (by kernel_rfl) func195 ⟨rfl,trivial⟩ ?_;rw[aK1];have hlen:(dg n).length<=3:=jt;refine ao {p:Nat×List Nat // p.2++dg p.1=dg n/\p.1<=n} (fun g=>[.one (.int .u64 g.1.1),.rows (rT g.1.2)]) (fun g=>g.1.1) ⟨(n,[]),by simp⟩ aQ.rfl (fun _=>rfl) ?_;rintro⟨⟨k,ds⟩,hinv,hle⟩;dsimp only[List.map,In.env,aO,aP]at hinv hle|-;have hds:ds.length<=3:=by have:=congrArg List.length hinv;simp at this;omega
 apply vn Nd;refine vs _ rfl ?_ ?_<;>intro hk
 ·apply vn (Ea (c:=((k%1000000000:Nat):Int)) (by decide) (by rw[uZ O];omega)) rfl;apply vn (jD ⟨_,ia⟩ gx (c:=((k%1000000000:Nat):Int)) (yr O O));apply bF (us:=rT [k%1000000000]);refine pK (ts:=rT ds) (us:=rT [k%1000000000]) (vs:=rT (ds++[k%1000000000])) rfl rfl List.map_append.symm (by simp;omega) (by simp[maxLen];omega) ?_;apply vn (py (c:=((k/1000000000:Nat):Int)) (by decide) (by rw[pI O,rl O O];omega)) rfl;refine aW rfl ⟨⟨(k/1000000000,ds++[k%1000000000]),?_,?_⟩,?_,?_⟩
  ·have:k≠0:=O
   rw[<-hinv,dg,dg,fU (n:=k) O this];simp
  ·show k/1000000000<=n;omega
  ·exact aQ.rfl
  ·show k/1000000000<k;omega
 ·have:k=0:=O
  subst this;refine aK ?_;have e:dg 0=[]:=ck _;rw[e,cM]at hinv;subst hinv;rfl
abbrev iT(z:Int):aG:=.agg [dT z.natAbs,.bool (decide (z<0))]
def ew(m:Bool)(n:Nat)(z:Int)(hz:z=if m then -(n:Int)else n):aL prog 155 [.one (.bool m),mT n] (.ret [iT z]):=by
 refine cI (args:=[.v none,.v (some 1)]) (ins:=[.v (.one (.bool m)),.v (mT n)]) (hints:=fun _=>none) fo (by kernel_rfl) func155 ⟨rfl,rfl,trivial⟩ ?_;rw[ZX];have ha:z.natAbs=n:=by subst hz;cases m<;>simp
 refine lR m rfl (fun hm=>?_) (fun hm=>?_)
 ·subst hm;apply aA (xt n);apply vn lf;refine aK ?_;have:(!decide (n=0))=decide (z<0):=by subst hz;simp;by_cases h:n=0<;>simp[h]<;>omega
  show[aG.agg [dT n,.bool (!decide (n=0))]]=_;rw[this,iT,ha]
 ·subst hm;refine aK ?_;have:false=decide (z<0):=by subst hz;simp
  show[aG.agg [dT n,.bool false]]=_;rw[this,iT,ha]
def by9:Tr:=JH 26 54 (fM 28 254 255 55 (LC 26 57 (dL 15 27 33 50 53 (ec 15 27 29 255 59 56 (bD 14 1 3 30 (yo 1 30 32 31))))))
def bx5:Tr:=fG 7 0 14 0 3 42 43 (dL 15 22 33 41 44 (lQ 15 22 255 45 (fM 23 255 254 46 (fG 21 0 24 0 254 40 47 (fG 13 0 25 0 254 35 48 (fG 7 0 14 0 3 51 52 by9))))))
def bN0:Tr:=au 1 0 64 33 (fG 7 0 17 0 3 62 65 (fM 13 254 255 67 (dL 15 18 33 61 66 (ec 15 18 19 255 69 68 (bD 7 1 3 22 (jV 0 21 20))))))
def bI1:Tr:=cU 14 12 0 3 30 29 0 (aH 16 0 (gb 1 0 14 0 33 28 30 (bm 17 255 33 (fM 11 255 254 36 (fM 18 255 254 38 (uW .mul 254 37 39 19 0 20 0 254 bx5))))) bN0)
def bW9:Tr:=LM 0 5 (cU 7 6 0 3 22 21 0 (aH 9 0 (gb 0 0 7 0 33 20 22 (bm 10 255 25 (au 1 0 28 33 (.loop 1 [(.w (.one (.c (.k (.int .u64 0))))),lK 0,.row 8] bI1)))) (wO 197 1 8 1 71 33 35 (pR 10))))
def bV0:Tr:=au 0 0 12 33 (au 1 0 15 33 (fG 2 0 3 0 3 13 16 (EB 4 17 (au 0 0 20 33 bW9))))
def av9:aM prog f118 bZ [.v (some 1),.v (some 1)]=bV0:=by kernel_rfl
def bo2{os:List Nat}{j z old n:Nat}(hj:os[j]?=some old)(hjn:j<n:=by omega):lv ((os.set j z).take n)+1000000000^j*old=lv (os.take n)+1000000000^j*z:=by
 have hlt:j<os.length:=(dn.1 hj).1
 have key:∀(os:List Nat)(j n:Nat),os[j]?=some old->j<n->lv ((os.set j z).take n)+1000000000^j*old=lv (os.take n)+1000000000^j*z:=by
  intro os
  induction os with
  | nil=>intro j n h;simp at h
  | cons d os ih=>
    intro j n h hn;obtain⟨m,rfl⟩:∃m,n=m+1:=⟨n-1,O⟩
    cases j with
    | zero=>
      simp only[List.getElem?_cons_zero,aI]at h;subst h;simp only[List.set_cons_zero,List.take_succ_cons,lv,val];omega
    | succ j=>
      have:=ih j m (by simpa using h) O;simp only[List.set_cons_succ,List.take_succ_cons,lv,val,Nat.pow_succ]at this|-;have h1:1000000000^j*1000000000*old=1000000000*(1000000000^j*old):=by rw[Nat.mul_right_comm,Nat.mul_comm]
      have h2:1000000000^j*1000000000*z=1000000000*(1000000000^j*z):=by rw[Nat.mul_right_comm,Nat.mul_comm]
      rw[h1,h2];omega
 exact key os j n hj hjn
def aD2(n:Nat):lv (List.replicate n 0)=0:=by
 induction n with
 | zero=>rfl
 | succ n ih=>rw[List.replicate_succ,lv,val];simp only[lv]at ih;rw[ih]
structure LR(xs ys:List Nat)(i:Nat)(os:List Nat):Prop where
 le:i<=xs.length
 len:os.length=xs.length+ys.length
 dg:Dg os
 eq:lv (os.take (i+ys.length))=lv (xs.take i)*lv ys
structure TIn(xs ys:List Nat)(i x T k c:Nat)(os:List Nat):Prop where
 le:k<=ys.length
 len:os.length=xs.length+ys.length
 dg:Dg os
 c1:c<1000000000
 eq:lv (os.take (i+ys.length))+1000000000^(i+k)*c=T+x*(1000000000^i*lv (ys.take k))
def LR.init(xs ys:List Nat):LR xs ys 0 (List.replicate (xs.length+ys.length) 0):=⟨bO _,by simp,Dg.rep _,by
 rw[List.take_replicate,aD2];simp[lv,val]⟩
def LR.inn{xs ys os:List Nat}{i x:Nat}(h:LR xs ys i os):TIn xs ys i x (lv (xs.take i)*lv ys) 0 0 os:=⟨bO _,h.len,h.dg,O,by rw[h.eq];simp[lv,val]⟩
def TIn.next{xs ys os:List Nat}{i x T k c y old z c':Nat}(h:TIn xs ys i x T k c os)(hi:i<xs.length)(hk:k<ys.length)(hx:x<1000000000)(hy:ys[k]?=some y)(ho:os[i+k]?=some old)(hz:z<1000000000)(hc:c'<1000000000)(he:z+1000000000*c'=c+(x*y+old)) :
  TIn xs ys i x T (k+1) c' (os.set (i+k) z):=by
 refine⟨hk,by rw[List.length_set];exact h.len,h.dg.set hz,hc,?_⟩;have h1:=bo2 (z:=z) (n:=i+ys.length) ho;have h2:=congrArg (fun t=>1000000000^(i+k)*t) he;have h3:=h.eq;rw[fA hy];simp only[Nat.mul_add]at h2|-;have e1:1000000000^(i+(k+1))*c'=1000000000^(i+k)*(1000000000*c'):=by rw[<-Nat.add_assoc,Nat.pow_succ,Nat.mul_assoc]
 have e2:x*(1000000000^i*(1000000000^k*y))=1000000000^(i+k)*(x*y):=by rw[Nat.pow_add];simp only[Nat.mul_left_comm,Nat.mul_assoc]
 rw[e1,e2];omega
def TIn.out{xs ys os:List Nat}{i x c:Nat}(h:TIn xs ys i x (lv (xs.take i)*lv ys) ys.length c os)(hx:xs[i]?=some x):LR xs ys (i+1) (os.set (i+ys.length) c):=by
 have hi:i<xs.length:=(dn.1 hx).1;refine⟨hi,by rw[List.length_set];exact h.len,h.dg.set h.c1,?_⟩;have h3:=h.eq;rw[List.take_length]at h3;rw[show i+1+ys.length=i+ys.length+1 by omega,sL (by rw[h.len];omega),fA hx,h3,Nat.add_mul]
 congr 1
 rw[Nat.mul_left_comm,<-Nat.mul_assoc]
def LR.fin{xs ys os:List Nat}(h:LR xs ys xs.length os):lv os=lv xs*lv ys:=by
 have:=h.eq;rw[List.take_of_length_le (by rw[h.len];omega),List.take_length]at this;exact this
def jZ(a b:Nat)(hs:(dg a).length+(dg b).length<1099511627776:=by omega):aL prog 118 [mT a,mT b] (.ret [mT (a*b)]):=by
 refine cI (args:=[.v (some 1),.v (some 1)]) (ins:=[.v (mT a),.v (mT b)]) (hints:=fun _=>none) fo (by kernel_rfl) func118 ⟨rfl,rfl,trivial⟩ ?_;rw[av9];dsimp only[List.map,In.env];apply vn (aU dS br);apply vn (aU dS br);apply vn (dp (c:=(((dg a).length+(dg b).length:Nat):Int)) (by rw[nS]<;>omega)) rfl;refine sJ (n:=(dg a).length+(dg b).length) (m:=(dg a).length+(dg b).length) rfl rfl KR (aY _) O (by simp[maxLen];omega) ?_;apply vn (aU dS br);refine ao {g:Nat×List Nat // LR (dg a) (dg b) g.1 g.2} (fun g=>[.one (.int .i64 g.1.1),.rows (rT g.1.2)]) (fun g=>(dg a).length-g.1.1) ⟨(0,List.replicate ((dg a).length+(dg b).length) 0),LR.init _ _⟩ aQ.rfl (fun _=>rfl) ?_;rintro⟨⟨i,os⟩,hO⟩;dsimp only[aO,aP]at hO|-;apply vn uN;refine vs _ rfl ?_ ?_<;>intro h
 ·have hlt:i<(dg a).length:=O
  have hget:(dg a)[i]?=some ((dg a)[i]'hlt):=ay hlt;generalize (dg a)[i]'hlt=x at hget;have hx:=(ke a).get hget;apply vn (Hs dS (by simpa using hget));apply vn GU;apply vn (aU dS br);refine ao {g:Nat×Nat×List Nat // TIn (dg a) (dg b) i x (lv ((dg a).take i)*lv (dg b)) g.1 g.2.1 g.2.2} (fun g=>[.one (.int .u64 g.1.2.1),.one (.int .i64 g.1.1),.rows (rT g.1.2.2)]) (fun g=>(dg b).length-g.1.1) ⟨(0,0,os),hO.inn⟩ aQ.rfl (fun _=>rfl) ?_;rintro⟨⟨k,c,os2⟩,hI⟩;dsimp only[aO,aP]at hI|-;have hc:=hI.c1;apply vn uN;refine vs _ rfl ?_ ?_<;>intro h1
  ·have hlk:k<(dg b).length:=O
   have hgk:(dg b)[k]?=some ((dg b)[k]'hlk):=ay hlk;generalize (dg b)[k]'hlk=y at hgk;have hy:=(ke b).get hgk;have hol:i+k<os2.length:=by rw[hI.len];omega
   have hok:os2[i+k]?=some (os2[i+k]'hol):=ay hol;generalize os2[i+k]'hol=old at hok;have hold:=hI.dg.get hok;have hxy:x*y<=999999999*999999999:=cV O O;apply vn (Hs dS (by simpa using hgk));apply vn GU;apply vn (jD ⟨_,gx⟩ ia (c:=(x:Int)) (by rw[rl]<;>omega)) rfl;apply vn (jD ⟨_,gx⟩ ia (c:=(y:Int)) (by rw[rl]<;>omega)) rfl;apply vn (qu (c:=((x*y:Nat):Int)) (by rw[<-Int.natCast_mul,rl]<;>omega)) rfl;apply vn (dp (c:=((i+k:Nat):Int)) (by rw[nS]<;>omega)) rfl;refine mq (ts:=rT os2) rfl rfl O (by rw[br];omega) ?_;refine vld (ts:=rT os2) (cells:=[aE.int .u32 (old:Int)]) (t:=.one (.int .u32 (old:Int))) rfl rfl O (pF (by rw[cS];exact hok)) (.inr rfl) rfl ?_;dsimp only[aO,aP];apply vn (jD ⟨_,gx⟩ ia (c:=(old:Int)) (by rw[rl]<;>omega)) rfl;apply vn (dp (c:=((x*y+old:Nat):Int)) (by rw[rl]<;>omega)) rfl;apply vn (dp (c:=((c+(x*y+old):Nat):Int)) (by rw[rl]<;>omega)) rfl;dsimp only[aO,aP];generalize hs2:c+(x*y+old)=w;have hw:w<1000000000*1000000000:=O
   apply vn (dp (c:=((i+k:Nat):Int)) (by rw[nS]<;>omega)) rfl;apply vn (Ea (c:=((w%1000000000:Nat):Int)) (by decide) (by rw[uZ O];omega)) rfl;apply vn (jD ⟨_,ia⟩ gx (c:=((w%1000000000:Nat):Int)) (by rw[yr]<;>omega)) rfl;apply vn (py (c:=((w/1000000000:Nat):Int)) (by decide) (by rw[pI O,rl]<;>omega)) rfl;refine mq (ts:=rT os2) rfl rfl O (by rw[br];omega) ?_;refine yx (ts:=rT os2) (us:=rT (os2.set (i+k) (w%1000000000))) rfl rfl O (pF (by rw[cS];exact hok)) kJ ?_;apply vn (dp (c:=((k+1:Nat):Int)) (by rw[nS]<;>omega)) rfl;dsimp only[aO,aP];have hN:TIn (dg a) (dg b) i x (lv ((dg a).take i)*lv (dg b)) (k+1) (w/1000000000) (os2.set (i+k) (w%1000000000)):=hI.next hlt hlk hx hgk hok O O O;exact aW rfl ⟨⟨(k+1,w/1000000000,os2.set (i+k) (w%1000000000)),hN⟩,aQ.rfl,by show(dg b).length-(k+1)<(dg b).length-k;omega⟩
  ·have hke:k=(dg b).length:=by have:=hI.le;omega
   subst hke;have hol:i+(dg b).length<os2.length:=by rw[hI.len];omega
   have hok:os2[i+(dg b).length]?=some (os2[i+(dg b).length]'hol):=ay hol;apply vn (aU dS br);apply vn (dp (c:=((i+(dg b).length:Nat):Int)) (by rw[nS]<;>omega)) rfl;apply vn (jD ⟨_,ia⟩ gx (c:=(c:Int)) (by rw[yr]<;>omega)) rfl;refine mq (ts:=rT os2) rfl rfl O (by rw[br];omega) ?_;refine yx (ts:=rT os2) (us:=rT (os2.set (i+(dg b).length) c)) rfl rfl O (pF (by rw[cS];exact hok)) kJ ?_;apply vn (dp (c:=((i+1:Nat):Int)) (by rw[nS]<;>omega)) rfl;dsimp only[aO,aP];exact aW rfl ⟨⟨(i+1,os2.set (i+(dg b).length) c),hI.out hget⟩,aQ.rfl,by show(dg a).length-(i+1)<(dg a).length-i;omega⟩
 ·have hie:i=(dg a).length:=by have:=hO.le;omega
  subst hie;apply aA (jK os hO.dg (by rw[hO.len];omega)) rfl;dsimp only[aO,aP];refine aK ?_;have hf:=hO.fin;rw[gw,gw]at hf;rw[hf];rfl
def bJ9:Tr:=bI 1
def bR3:Tr:=uW .neq 3 3 4 0 0 0 0 4 bJ9
def QR:aM prog f253 bZ [.v none]=bR3:=by kernel_rfl
def bR6:Tr:=uW .neq 255 3 4 0 0 0 0 4 bJ9
def PA:aM prog f254 bZ [.v none]=bR6:=by kernel_rfl
def bO4:Tr:=aH 3 0 az7 av3
def aO7:Tr:=aH 5 0 al7 az7
def bS3:Tr:=qt 253 0 7 3 4 (qt 253 1 9 3 4 (aH 2 0 bO4 (aH 3 0 al7 (cU 0 1 0 3 14 15 4 (aH 4 0 av3 (uW .gtr 3 17 18 0 0 1 0 4 aO7))))))
def ah9:aM prog f198 bZ [.v none,.v none]=bS3:=by kernel_rfl
def bL7:Tr:=qt 254 0 7 255 4 (qt 254 1 9 255 4 (aH 2 0 bO4 (aH 3 0 al7 (cU 0 1 0 255 14 15 4 (aH 4 0 av3 (uW .gtr 255 17 18 0 0 1 0 4 aO7))))))
def XB:aM prog f199 bZ [.v none,.v none]=bL7:=by kernel_rfl
def bh4:Tr:=gb 1 0 9 0 33 32 33 (bm 13 255 34 (oL 199 12 0 14 30 35 255 255 3 (lP 15 3 37 (aH 16 0 (bI 15) (fP 9 1 24 (jj 0 8 17))))))
def bz3:Tr:=au 0 0 19 33 (fP 6 1 20 (.loop 0 [lK 0,lV 7 0] (qA .geq 3 22 0 9 0 4 (aH 10 0 (gb 0 0 9 0 33 27 28 (bm 11 255 29 bh4)) az7))))
def bx1:Tr:=au 0 0 9 33 (au 1 0 12 33 (oL 198 2 0 3 10 13 3 3 3 (lP 4 3 15 (aH 5 0 (bI 4) bz3))))
def Vd:aM prog f119 bZ [.v (some 1),.v (some 1)]=bx1:=by kernel_rfl
def bs4:Tr:=fM 16 254 255 35 (fM 1 255 254 38 (uW .rem 254 37 39 14 0 18 0 254 (dL 8 7 33 30 31 (ec 8 7 17 255 41 36 (fP 7 1 19 (yo 0 19 21 20))))))
def bP0:Tr:=Zj 6 21 (gb 0 0 7 0 33 24 25 (bm 11 255 26 (fM 12 255 254 27 (fG 10 0 13 0 254 22 28 (fM 1 255 254 33 (uW .quo 254 32 34 14 0 15 0 254 bs4))))))
def bG2:Tr:=fP 4 1 15 (.loop 0 [(.w (.one (.c (.k (.int .u64 0))))),lV 5 0,.row 3] (qA .geq 3 17 0 7 0 4 (aH 9 0 bP0 (Js 197 1 8 42 33 35 (lZ 195 6 1 44 254 35 (.ret [(G1 10),(G1 11)]))))))
def bH5:Tr:=au 0 0 10 33 (EB 2 11 (au 0 0 14 33 bG2))
def ab0:aM prog f250 bZ [.v (some 1),.v none]=bH5:=by kernel_rfl
def bD7:Tr:=au 0 0 4 33 (eH 1 0 1 3 5 (aH 2 0 (oZ 0 0 0 33 9 (bm 3 255 10 (RM 4 1 11 (bI 5)))) (hx163Q )))
def aX3:aM prog f192 bZ [.v (some 1)]=bD7:=by kernel_rfl
def eY(x y:Int):Int:=if x<y then -1 else if y<x then 1 else 0
def DZ(x:Int):aL prog 253 [.one (.int .i64 x)] (.ret [.one (.bool false)]):=by
 refine cI (args:=[.v none]) (ins:=[.v (.one (.int .i64 x))]) (hints:=fun _=>none) fo (by kernel_rfl) func253 ⟨rfl,trivial⟩ ?_;rw[QR];apply vn NC;refine aK ?_;show[aG.one (.bool (!decide (x=x)))]=_;simp
def ZI(x y:Int):aL prog 198 [.one (.int .i64 x),.one (.int .i64 y)] (.ret [.one (.int .i64 (eY x y))]):=by
 refine cI (args:=[.v none,.v none]) (ins:=[.v (.one (.int .i64 x)),.v (.one (.int .i64 y))]) (hints:=fun _=>none) fo (by kernel_rfl) func198 ⟨rfl,rfl,trivial⟩ ?_;rw[ah9];apply aA (DZ x);apply aA (DZ y);refine lR false rfl (fun h=>by cases h) (fun _=>?_);refine lR false rfl (fun h=>by cases h) (fun _=>?_);apply vn uN;refine vs _ rfl ?_ ?_<;>intro h
 ·refine aK ?_;rw[eY,if_pos h];rfl
 ·apply vn Nd;refine vs _ rfl ?_ ?_<;>intro h2
  ·refine aK ?_;rw[eY,if_neg h,if_pos h2];rfl
  ·refine aK ?_;rw[eY,if_neg h,if_neg h2];rfl
def Ee(x:Int):aL prog 254 [.one (.int .u32 x)] (.ret [.one (.bool false)]):=by
 refine cI (args:=[.v none]) (ins:=[.v (.one (.int .u32 x))]) (hints:=fun _=>none) fo (by kernel_rfl) func254 ⟨rfl,trivial⟩ ?_;rw[PA];apply vn NC;refine aK ?_;show[aG.one (.bool (!decide (x=x)))]=_;simp
def YS(x y:Int):aL prog 199 [.one (.int .u32 x),.one (.int .u32 y)] (.ret [.one (.int .i64 (eY x y))]):=by
 refine cI (args:=[.v none,.v none]) (ins:=[.v (.one (.int .u32 x)),.v (.one (.int .u32 y))]) (hints:=fun _=>none) fo (by kernel_rfl) func199 ⟨rfl,rfl,trivial⟩ ?_;rw[XB];apply aA (Ee x);apply aA (Ee y);refine lR false rfl (fun h=>by cases h) (fun _=>?_);refine lR false rfl (fun h=>by cases h) (fun _=>?_);apply vn uN;refine vs _ rfl ?_ ?_<;>intro h
 ·refine aK ?_;rw[eY,if_pos h];rfl
 ·apply vn Nd;refine vs _ rfl ?_ ?_<;>intro h2
  ·refine aK ?_;rw[eY,if_neg h,if_pos h2];rfl
  ·refine aK ?_;rw[eY,if_neg h,if_neg h2];rfl
def aE0(z:Int):aL prog 114 [iT z] (.ret [.one (.int .i64 z.sign)]):=by
 refine cI (args:=[.v (some 2)]) (ins:=[.v (iT z)]) (hints:=fun _=>none) fo (by kernel_rfl) func114 ⟨rfl,trivial⟩ ?_;rw[ax7];apply aA (xt z.natAbs);refine vs _ rfl ?_ ?_<;>intro h
 ·refine aK ?_;have:z.sign=0:=by rw[Ck];omega
  rw[this];rfl
 ·refine vs _ rfl ?_ ?_<;>intro h2
  ·refine aK ?_;rw[vB h2];rfl
  ·refine aK ?_;rw[eM O];rfl
def vj{xs ys:List Nat}(hx:Dg xs)(hlen:xs.length=ys.length){i x y:Nat}(hi:xs[i]?=some x)(hj:ys[i]?=some y)(hd:xs.drop (i+1)=ys.drop (i+1))(hxy:x<y):lv xs<lv ys:=by
 have hil:i<xs.length:=(dn.1 hi).1
 have e1:lv xs=lv (xs.take (i+1))+1000000000^(i+1)*lv (xs.drop (i+1)):=by
  conv=>lhs;rw[<-qc (i+1) xs]
  rw[tg,List.length_take,Nat.min_eq_left O]
 have e2:lv ys=lv (ys.take (i+1))+1000000000^(i+1)*lv (ys.drop (i+1)):=by
  conv=>lhs;rw[<-qc (i+1) ys]
  rw[tg,List.length_take,Nat.min_eq_left O]
 rw[e1,e2,hd,fA hi,fA hj]
 have h1:lv (xs.take i)<1000000000^i:=by
  have:=PQ (B:=1000000000) O (xs.take i) (hx.take i);rw[List.length_take,Nat.min_eq_left O]at this;exact this
 have h2:1000000000^i*(x+1)<=1000000000^i*y:=Nat.mul_le_mul_left _ hxy;rw[Nat.mul_add,Nat.mul_one]at h2;omega
def xL{a b:Nat}(h:(dg a).length<(dg b).length):a<b:=by
 have hb:b≠0:=by rintro rfl;rw[show dg 0=[]from ck _]at h;simp at h
 have h1:=kn (B:=1000000000) O a;have h2:=gQ (B:=1000000000) O hb;have h3:1000000000^(dg a).length<=1000000000^((dg b).length-1):=Nat.pow_le_pow_right O O;exact Nat.lt_of_lt_of_le h1 (Nat.le_trans h3 h2)
def tJ{a b:Int}(h:a<b):eY a b=-1:=if_pos h
def te{a b:Int}(h:b<a):eY a b=1:=by rw[eY,if_neg O,if_pos h]
def BV(a:Int):eY a a=0:=by rw[eY,if_neg O,if_neg O]
def HW{a b:Int}:eY a b=0↔a=b:=by
 unfold eY;constructor
 ·intro h;split at h
  ·cases h
  ·split at h
   ·cases h
   ·omega
 ·rintro rfl;simp
def tL(a b:Nat)(hs:(dg a).length+(dg b).length<1099511627776:=by omega):aL prog 119 [mT a,mT b] (.ret [.one (.int .i64 (eY a b))]):=by
 refine cI (args:=[.v (some 1),.v (some 1)]) (ins:=[.v (mT a),.v (mT b)]) (hints:=fun _=>none) fo (by kernel_rfl) func119 ⟨rfl,rfl,trivial⟩ ?_;rw[Vd];dsimp only[List.map,In.env];apply vn (aU dS br);apply vn (aU dS br);apply aA (ZI _ _);apply vn NC;refine lR (!decide (eY ((dg a).length:Int) ((dg b).length:Int)=0)) rfl (fun h=>?_) (fun h=>?_)
 ·refine aK ?_;have hne:¬eY ((dg a).length:Int) ((dg b).length:Int)=0:=by simpa using h
  have:eY ((dg a).length:Int) ((dg b).length:Int)=eY a b:=by
   rcases Nat.lt_trichotomy (dg a).length (dg b).length with hl | hl | hl
   ·rw[tJ O,tJ (by have:=xL hl;omega)]
   ·rw[hl]at hne;exact absurd (BV _) hne
   ·rw[te O,te (by have:=xL hl;omega)]
  rw[<-this];rfl
 ·have he:(dg a).length=(dg b).length:=by
   have:eY ((dg a).length:Int) ((dg b).length:Int)=0:=by simpa using h
   have:=HW.1 this;omega
  apply vn (aU dS br);apply vn (mv (c:=((dg a).length:Int)-1) (by rw[nS]<;>omega)) rfl;refine ao {n:Nat // n<=(dg a).length/\(dg a).drop n=(dg b).drop n} (fun g=>[.one (.int .i64 0),.one (.int .i64 ((g.1:Int)-1))]) (fun g=>g.1) ⟨(dg a).length,aY _,by rw[KL,he,KL]⟩ aQ.rfl (fun _=>rfl) ?_;rintro⟨n,hn,hdr⟩;dsimp only[aO,aP];apply vn Gd;refine vs _ rfl ?_ ?_<;>intro h1
  ·have hla:n-1<(dg a).length:=O
   have hlb:n-1<(dg b).length:=O
   have hga:(dg a)[n-1]?=some ((dg a)[n-1]'hla):=ay hla;have hgb:(dg b)[n-1]?=some ((dg b)[n-1]'hlb):=ay hlb;generalize hxe:(dg a)[n-1]'hla=x at hga;generalize hye:(dg b)[n-1]'hlb=y at hgb;have htn:((n:Int)-1).toNat=n-1:=O
   have hdr':(dg a).drop (n-1+1)=(dg b).drop (n-1+1):=by rw[show n-1+1=n by omega];exact hdr
   apply vn (Hs dS (by rw[htn];exact hga)) rfl;apply vn GU;apply vn (Hs dS (by rw[htn];exact hgb)) rfl;apply vn GU;apply aA (YS _ _);apply vn NC;refine lR (!decide (eY (x:Int) (y:Int)=0)) rfl (fun h2=>?_) (fun h2=>?_)
   ·refine aK ?_;have hne:¬eY (x:Int) (y:Int)=0:=by simpa using h2
    have:eY (x:Int) (y:Int)=eY a b:=by
     rcases Nat.lt_trichotomy x y with hl | hl | hl
     ·have:=vj (ke a) he hga hgb hdr' hl;rw[gw,gw]at this;rw[tJ O,tJ O]
     ·subst hl;exact absurd (BV _) hne
     ·have:=vj (ke b) he.symm hgb hga hdr'.symm hl;rw[gw,gw]at this;rw[te O,te O]
    rw[<-this];rfl
   ·have hxy:x=y:=by
     have:eY (x:Int) (y:Int)=0:=by simpa using h2
     have:=HW.1 this;omega
    apply vn (mv (c:=((n-1:Nat):Int)-1) (by rw[nS]<;>omega)) rfl;dsimp only[aO,aP];refine aW rfl ⟨⟨n-1,O,?_⟩,aQ.rfl,by show n-1<n;omega⟩;rw[pC hla,pC hlb,hxe,hye,hxy,hdr']
  ·have hn0:n=0:=O
   subst hn0;refine aK ?_;rw[eF,eF]at hdr;have:a=b:=by have:=congrArg lv hdr;rwa[gw,gw]at this
   subst this;exact congrArg (fun x=>[aG.one (aE.int .i64 x)]) (BV (a:Int)).symm
def LQ{xs:List Nat}{i x:Nat}(h:xs[i]?=some x):lv (xs.drop i)=x+1000000000*lv (xs.drop (i+1)):=by
 have hi:i<xs.length:=(dn.1 h).1;rw[pC hi,(dn.1 h).2];rfl
structure Jw(xs:List Nat)(d n r:Nat)(os:List Nat):Prop where
 le:n<=xs.length
 len:os.length=xs.length
 dg:Dg os
 r1:r<d
 eq:lv (os.drop n)*d+r=lv (xs.drop n)
def Jw.init(xs:List Nat){d:Nat}(hd:0<d):Jw xs d xs.length 0 (List.replicate xs.length 0):=⟨aY _,by simp,Dg.rep _,hd,by simp[lv,val]⟩
def Jw.next{xs os:List Nat}{d n r x:Nat}(h:Jw xs d (n+1) r os)(hd:d<1000000000)(hx:xs[n]?=some x)(hx1:x<1000000000):Jw xs d n ((r*1000000000+x)%d) (os.set n ((r*1000000000+x)/d)):=by
 have hd0:0<d:=by have:=h.r1;omega
 have hq:(r*1000000000+x)/d<1000000000:=by
  rw[Nat.div_lt_iff_lt_mul hd0];have h1:=h.r1;have:(r+1)*1000000000<=d*1000000000:=Nat.mul_le_mul_right _ h1;rw[Nat.add_mul]at this;rw[Nat.mul_comm 1000000000 d];omega
 have hl:=h.le;have hlen:=h.len;refine⟨O,by rw[List.length_set];exact hlen,h.dg.set hq,Nat.mod_lt _ hd0,?_⟩
 have hs:(os.set n ((r*1000000000+x)/d))[n]?=some ((r*1000000000+x)/d):=by
  rw[vU O]
 rw[LQ hs,LQ hx,List.drop_set_of_lt O,<-h.eq];have h1:=BP (r*1000000000+x) d;rw[Nat.mul_comm d]at h1;simp only[Nat.add_mul,Nat.mul_add,Nat.mul_assoc];omega
def Jw.fin{xs os:List Nat}{d r:Nat}(h:Jw xs d 0 r os):lv os=lv xs/d/\r=lv xs%d:=by
 have h1:=h.eq;rw[eF,eF]at h1;have h2:=h.r1;have e:lv xs=r+d*lv os:=by rw[<-h1,Nat.mul_comm];omega
 constructor
 ·rw[e,Nat.add_mul_div_left _ _ O,Nat.div_eq_of_lt h2,Nat.zero_add]
 ·rw[e,Nat.add_mul_mod_self_left,Nat.mod_eq_of_lt h2]
def Mq(a d:Nat)(hd0:0<d)(hd:d<1000000000)(hs:(dg a).length<1099511627776:=by omega):aL prog 250 [mT a,.one (.int .u32 d)] (.ret [mT (a/d),mT (a%d)]):=by
 refine cI (args:=[.v (some 1),.v none]) (ins:=[.v (mT a),.v (.one (.int .u32 d))]) (hints:=fun _=>none) fo (by kernel_rfl) func250 ⟨rfl,rfl,trivial⟩ ?_;rw[ab0];dsimp only[List.map,In.env];apply vn (aU dS br);refine sJ (n:=(dg a).length) (m:=(dg a).length) rfl rfl KR (aY _) O (by simp[maxLen];omega) ?_;apply vn (aU dS br);apply vn (mv (c:=((dg a).length:Int)-1) (by rw[nS]<;>omega)) rfl;refine ao {g:Nat×Nat×List Nat // Jw (dg a) d g.1 g.2.1 g.2.2} (fun g=>[.one (.int .u64 g.1.2.1),.one (.int .i64 ((g.1.1:Int)-1)),.rows (rT g.1.2.2)]) (fun g=>g.1.1) ⟨((dg a).length,0,List.replicate (dg a).length 0),Jw.init _ hd0⟩ aQ.rfl (fun _=>rfl) ?_;rintro⟨⟨n,r,os⟩,hI⟩;dsimp only[aO,aP]at hI|-;have hr1:=hI.r1;have hln:=hI.le;apply vn Gd;refine vs _ rfl ?_ ?_<;>intro h1
 ·obtain⟨m,rfl⟩:∃m,n=m+1:=⟨n-1,O⟩
  have hlt:m<(dg a).length:=O
  have hget:(dg a)[m]?=some ((dg a)[m]'hlt):=ay hlt;generalize (dg a)[m]'hlt=x at hget;have hx:=(ke a).get hget;have hol:m<os.length:=by rw[hI.len];omega
  have hok:os[m]?=some (os[m]'hol):=ay hol;have htn:(((m+1:Nat):Int)-1).toNat=m:=O
  apply vn (qu (c:=((r*1000000000:Nat):Int)) (by rw[rl]<;>omega)) rfl;apply vn (Hs dS (by rw[htn];exact hget)) rfl;apply vn GU;apply vn (jD ⟨_,gx⟩ ia (c:=(x:Int)) (by rw[rl]<;>omega)) rfl;apply vn (dp (c:=((r*1000000000+x:Nat):Int)) (by rw[rl]<;>omega)) rfl;dsimp only[aO,aP];have hN:=hI.next hd hget hx;have hqd:=hN.dg.get (i:=m) (d:=(r*1000000000+x)/d) (vU O);have hrd:=hN.r1;generalize hw:r*1000000000+x=w at hN hqd hrd|-;generalize hq:w/d=q at hN hqd;generalize hm:w%d=rr at hN hrd;apply vn (jD ⟨_,gx⟩ ia (c:=(d:Int)) (by rw[rl]<;>omega)) rfl;apply vn (py (c:=(q:Int)) O (by rw[pI O,<-wY,hq,rl]<;>omega)) rfl;apply vn (jD ⟨_,ia⟩ gx (c:=(q:Int)) (by rw[yr]<;>omega)) rfl;apply vn (jD ⟨_,gx⟩ ia (c:=(d:Int)) (by rw[rl]<;>omega)) rfl;apply vn (Ea (c:=(rr:Int)) O (by rw[uZ O,<-Kr,hm]));refine mq (ts:=rT os) rfl rfl O (by rw[br];omega) ?_;refine yx (ts:=rT os) (us:=rT (os.set m q)) rfl rfl O (pF (by rw[htn];exact hok)) (by rw[htn];exact kJ) ?_;apply vn (mv (c:=(m:Int)-1) (by rw[nS]<;>omega)) rfl;dsimp only[aO,aP];exact aW rfl ⟨⟨(m,rr,os.set m q),hN⟩,aQ.rfl,by show m<m+1;omega⟩
 ·have hn0:n=0:=O
  subst hn0;obtain⟨hf1,hf2⟩:=hI.fin;rw[gw]at hf1 hf2;apply aA (jK os hI.dg (by rw[hI.len];omega)) rfl;apply aA (im r);dsimp only[aO,aP];refine aK ?_;rw[hf1,<-hf2];rfl
end Go.Sy
