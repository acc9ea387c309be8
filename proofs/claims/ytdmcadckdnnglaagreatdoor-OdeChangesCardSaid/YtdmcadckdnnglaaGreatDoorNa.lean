/- Part. -/
import Derived.Test.YtdmcadckdnnglaaGreatDoorFa
import Derived.Test.YtdmcadckdnnglaaGreatDoorPa
set_option linter.all false
set_option maxHeartbeats 1000000
namespace Go.Sy
open Go Go.Proofs Tryz Ord
abbrev rT(ds:j3):List (List aE):=ds.map fun(d:Nat)=>[aE.int .u32 (d:Int)]
abbrev dg(n:Nat):List Nat:=oW 1000000000 n
abbrev lv(ds:j3):Nat:=val 1000000000 ds
abbrev dT(n:Nat):aE:=.slice 1 (rT (dg n))
abbrev mT(n:Nat):aF:=.agg [dT n]
def Dg(ds:j3):Prop:=∀d∈ds,d<1000000000
def CF{n:Int}(h0:0<=n)(h:n<4294967296):IntKind.u32.wrap n=n:=by rw[IntKind.wrap_u32];omega
def vk{n:Int}(h0:0<=n)(h:n<18446744073709551616):IntKind.u64.wrap n=n:=by rw[uQ];omega
theorem D8{p:Prop}(h:p:=by rw[vk]<;>omega):p:=h
def qi{n:Int}(h0:-9223372036854775808<=n)(h:n<9223372036854775808):IntKind.i64.wrap n=n:=by rw[IntKind.wrap_i64];omega
theorem D7{p:Prop}(h:p:=by rw[qi]<;>omega):p:=h
def sk{ds:j3}{i d:Nat}(h:ds[i]?=some d):(rT ds)[i]?=some [aE.int .u32 (d:Int)]:=by
 rw[dS,h];rfl
def nJ{ds:j3}{i x:Nat}:(rT ds).set i [aE.int .u32 (x:Int)]=rT (ds.set i x):=by
 rw[rT,rT,xj]
def dA{ds:j3}:(rT ds).length=ds.length:=aX _
def QU{n:Nat}:dg n=[]↔n=0:=by
 constructor
 .intro h;by_cases hn:n=0
  .exact hn
  .rw[dg,jU O hn]at h;cases h
 .rintro rfl;exact eN _
def oH(n:Nat):Dg (dg n):=Fh n
def km(n:Nat):lv (dg n)=n:=Aj O n
def Dg.take{ds:j3}(h:Dg ds)(n:Nat):Dg (ds.take n):=fun d hd=>h d (jg hd)
def Dg.set{ds:j3}(h:Dg ds){i x:Nat}(hx:x<1000000000):Dg (ds.set i x):=fun d hd=>by
 rcases xC hd with hd | rfl
 .exact h d hd
 .exact hx
def Dg.get{ds:j3}(h:Dg ds){i d:Nat}(hd:ds[i]?=some d):d<1000000000:=h d (cj hd)
def Qk{ds:j3}{i d:Nat}(h:ds[i]?=some d):ds.take (i+1)=ds.take i++[d]:=by
 rw[nm,h];rfl
def xT(xs ys:j3):lv (xs++ys)=lv xs+1000000000^xs.length*lv ys:=lW _ _ _
def bL5(d:Nat):lv [d]=d:=by simp[lv,val]
def gz{ds:j3}{i d:Nat}(h:ds[i]?=some d):lv (ds.take (i+1))=lv (ds.take i)+1000000000^i*d:=by
 have hi:i<ds.length:=(fK.1 h).1;rw[Qk h,xT,bL5,bP,ek O]
def wB{os:j3}{i x:Nat}(h:i<os.length):lv ((os.set i x).take (i+1))=lv (os.take i)+1000000000^i*x:=by
 rw[gz (d:=x) (by simp[h])];rw[ai2 (ah i)]
def Rv{n:Nat}:List.replicate n ([Value.int .u32 0].map aE.exact)=rT (List.replicate n 0):=by
 rw[rT,rn];rfl
def Dg.rep(n:Nat):Dg (List.replicate n 0):=fun d hd=>by
 obtain⟨_,rfl⟩:=pC.1 hd;decide
abbrev dl(n:Nat):Nat:=(dg n).length
def NO{ds:j3}{T ty:TypeId}{x y:n8}{k:IntKind}{n:Int}{d:Nat}(h:eP prog T=some (255,1,4))(hd:ds[n.toNat]?=some d)(h0:0<=n:=by omega) :
  aq prog (.indexAddr T x y) ty [.one (.slice 1 (rT ds)),.one (.int k n)] (.one (.aW [aE.int .u32 (d:Int)])):=bx6 h h0 (sk hd)
def MZ{ty:TypeId}{x:n8}{d:Int}:aq prog (.load 255 x) ty [.one (.aW [aE.int .u32 d])] (.one (.int .u32 d)):=ay (n:=1) Bl dO bY (.inr rfl)
def cK3:Tr:=iJ 2 1 10 (jL 0 0 4 0 33 9 11 (cq 5 255 12 (Xo 6 0 13 (aJ 7 0 (iJ 2 1 16 (.back 0 [lV 8 0])) (aG8 (sV 8))))))
def cI8:Tr:=bD 0 0 4 33 (ID 1 (ia 2 0 0 3 6 (aJ 3 0 cK3 (aG8 (sV 4)))))
def al5:aO prog f197 cT [.v none]=cI8:=aT
def lz(ds:j3)(hd:Dg ds)(hl:ds.length<4611686018427387904:=by omega):aK prog 197 [.one (.slice 1 (rT ds))] (.ret [mT (lv ds)]):=by
 refine dQ (args:=[.v none]) (ins:=[.v (.one (.slice 1 (rT ds)))]) (hints:=fun _=>none) fo aT func197 ⟨rfl,trivial⟩ ?_;rw[al5];apply vn (aZ ec dA);refine bC {n:Nat // n<=ds.length/\lv (ds.take n)=lv ds} (fun g=>[.one (.int .i64 g.1)]) (fun g=>g.1) ⟨ds.length,ah _,by rw[eW]⟩ aR.rfl (fun _=>rfl) ?_;rintro⟨n,hn,hv⟩;dsimp only
 have fin:∀τ:Env,(n=0\/∃d,ds[n-1]?=some d/\d≠0)->(rT ds).take n=rT (dg (lv ds)):=by
  intro τ h;rw[rT,rT,<-ou]
  congr 1
  rw[<-hv,dg,lv,Ti O _ (hd.take n)];intro d hlast;rcases h with rfl | ⟨d',hd',hne⟩
  .simp at hlast
  .rw[List.getLast?_eq_getElem?,bP,ek hn,fi]at hlast;split at hlast
   .rw[hd']at hlast;simp at hlast;omega
   .cases hlast
 refine uS TL ?_ ?_<;>intro h
 .have hlt:n-1<ds.length:=O
  have hget:ds[n-1]?=some (ds[n-1]'hlt):=bU hlt;generalize ds[n-1]'hlt=d at hget;apply vn (qQ (c:=((n-1:Nat):Int)) D7) rfl;apply vn (NO ec (by simpa using hget));apply vn MZ;apply vn aQ0;refine p8 ?_ ?_<;>intro h2
  .apply vn (qQ (c:=((n-1:Nat):Int)) D7) rfl;refine aa rfl ⟨⟨n-1,O,?_⟩,aR.rfl,?_⟩
   .have hd0:d=0:=O
    subst hd0;have:=gz hget;rw[fu,show n-1+1=n by omega]at this;exact(this.symm.trans hv)
   .show n-1<n;omega
  .apply vn (Jh ec (by simpa using hn));refine aN ?_;exact congrArg (fun x=>[aF.agg [aE.slice 1 x]]) (fin [] (.inr ⟨d,hget,O⟩))
 .apply vn (Jh ec (by simpa using hn));refine aN ?_;exact congrArg (fun x=>[aF.agg [aE.slice 1 x]]) (fin [] (.inl O))
def ci9:Tr:=PT 20 46 (aJ 21 0 (Za 20 48 (eV 11 10 33 50 51 (gT 11 10 22 255 53 52 (bX 10 1 3 26 (vE 1 24 23))))) (eV 11 10 33 50 51 (gT 11 10 20 255 53 52 (bX 10 1 3 26 (vE 0 23 22)))))
def bA5:Tr:=cq 18 255 43 (dh 15 0 19 0 255 39 44 ci9)
def bC1:Tr:=PT 15 46 (aJ 18 0 (Za 15 48 (eV 11 10 33 50 51 (gT 11 10 19 255 53 52 (bX 10 1 3 26 (vE 1 21 20))))) (eV 11 10 33 50 51 (gT 11 10 15 255 53 52 (bX 10 1 3 26 (vE 0 20 19)))))
def cp4:Tr:=jL 1 0 10 0 33 24 26 (cq 13 255 29 (dh 14 0 9 0 255 31 32 (bD 0 0 36 33 (dW 10 16 0 3 34 37 4 (aJ 17 0 (jL 0 0 10 0 33 41 42 bA5) bC1)))))
def by2:Tr:=eV 11 13 33 55 58 (gT 11 13 9 255 60 59 (Dh 197 1 14 1 61 33 35 (sV 15)))
def cH4:Tr:=bX 5 1 3 20 (JB 6 21 (bD 1 0 24 33 (Qz 7 (dW 10 8 0 3 26 25 0 (aJ 12 0 cp4 (bD 1 0 57 33 by2))))))
def cm3:Tr:=jL 0 0 10 0 33 24 26 (cq 13 255 29 (dh 14 0 9 0 255 31 32 (bD 1 0 36 33 (dW 10 16 0 3 34 37 4 (aJ 17 0 (jL 1 0 10 0 33 41 42 bA5) bC1)))))
def co8:Tr:=bX 5 1 3 20 (JB 6 21 (bD 0 0 24 33 (Qz 7 (dW 10 8 0 3 26 25 0 (aJ 12 0 cm3 (bD 0 0 57 33 by2))))))
def cK0:Tr:=bD 0 0 10 33 (bD 1 0 13 33 (dW 2 3 0 3 11 14 4 (aJ 4 0 (bD 1 0 19 33 cH4) (bD 0 0 19 33 co8))))
def bN7:aO prog f196 cT [.v (some 1),.v (some 1)]=cK0:=aT
structure uU(xs ys:j3)(i c:Nat)(os:j3):Prop where
 le:i<=xs.length
 c1:c<=1
 len:os.length=xs.length+1
 dg:Dg os
 eq:lv (os.take i)+1000000000^i*c=lv (xs.take i)+lv (ys.take i)
def uU.init(xs ys:j3):uU xs ys 0 0 (List.replicate (xs.length+1) 0):=⟨cG _,O,bY,Dg.rep _,by simp[lv,val]⟩
def uU.next{xs ys os:j3}{i c x y c' z:Nat}(h:uU xs ys i c os)(hi:i<xs.length)(hx:xs[i]?=some x)(hy:ys[i]?.getD 0=y)(hc:c'<=1)(hz:z<1000000000)(he:z+1000000000*c'=x+c+y):uU xs ys (i+1) c' (os.set i z):=by
 refine⟨hi,hc,by rw[cI];exact h.len,h.dg.set hz,?_⟩;rw[wB (by rw[h.len];omega),gz hx,bF]
 have hb:lv (ys.take (i+1))=lv (ys.take i)+1000000000^i*y:=by
  cases hbi:ys[i]? with
  | some d=>rw[hbi]at hy;simp only[ib]at hy;subst hy;exact gz hbi
  | none=>
    rw[hbi]at hy;simp only[Gm]at hy;subst hy;have:=gm.1 hbi;rw[cU O,cU O];omega
 rw[hb];have h1:=h.eq;have h2:=congrArg (fun t=>1000000000^i*t) he;simp only[fO]at h2;rw[dC];omega
def uU.fin{xs ys os:j3}{c:Nat}{n:Nat}(h:uU xs ys xs.length c os)(hle:ys.length<=xs.length)(he:lv xs+lv ys=n):lv (os.set xs.length c)=n:=by
 have h1:=wB (os:=os) (i:=xs.length) (x:=c) (by rw[h.len];omega);rw[cU (by rw[cI,h.len];omega)]at h1;have h2:=h.eq;rw[eW,cU hle]at h2;omega
def XX(a b:Nat)(hs:(dg a).length+(dg b).length<1099511627776:=by omega):aK prog 196 [mT a,mT b] (.ret [mT (a+b)]):=by
 refine dQ (args:=[.v (some 1),.v (some 1)]) (ins:=[.v (mT a),.v (mT b)]) (hints:=fun _=>none) fo aT func196 ⟨rfl,rfl,trivial⟩ ?_;rw[bN7];dsimp only[List.map,In.env];apply vn (aZ ec dA);apply vn (aZ ec dA);refine uS xy ?_ ?_<;>intro hab
 .skip
  apply vn (aZ ec dA);apply vn (fP (c:=(((dg b).length+1:Nat):Int)) D7) rfl;refine vz (n:=(dg b).length+1) (m:=(dg b).length+1) rfl rfl Rv (ah _) O (by simp[maxLen];omega) ?_;apply vn (aZ ec dA);refine bC {g:Nat×Nat×List Nat // uU (dg b) (dg a) g.1 g.2.1 g.2.2} (fun g=>[.one (.int .u32 g.1.2.1),.one (.int .i64 g.1.1),.rows (rT g.1.2.2)]) (fun g=>(dg b).length-g.1.1) ⟨(0,0,List.replicate ((dg b).length+1) 0),uU.init _ _⟩ aR.rfl (fun _=>rfl) ?_;rintro⟨⟨i,c,os⟩,hI⟩;dsimp only[aP,aQ]at hI|-;refine uS xy ?_ ?_<;>intro h
  .have hlt:i<(dg b).length:=O
   have hget:(dg b)[i]?=some ((dg b)[i]'hlt):=bU hlt;generalize (dg b)[i]'hlt=x at hget;have hx:=(oH b).get hget;have hc:=hI.c1;have hol:i<os.length:=by rw[hI.len];omega
   have hog:(rT os)[((i:Int)).toNat]?=some [aE.int .u32 ((os[i]'hol:Nat):Int)]:=sk bY;apply vn (NO ec (by simpa using hget));apply vn MZ;apply vn (fP (c:=((x+c:Nat):Int)) (by rw[CF]<;>omega)) rfl;apply vn (aZ ec dA);refine uS xy ?_ ?_<;>intro h1
   .have hlt1:i<(dg a).length:=O
    have hget1:(dg a)[i]?=some ((dg a)[i]'hlt1):=bU hlt1;generalize (dg a)[i]'hlt1=y at hget1;have hy:=(oH a).get hget1;apply vn (NO ec (by simpa using hget1));apply vn MZ;dsimp only[aP,aQ];apply vn (fP (c:=((x+c+y:Nat):Int)) (by rw[CF]<;>omega)) rfl;refine uS LH ?_ ?_<;>intro h2
    .apply vn (qQ (c:=((x+c+y-1000000000:Nat):Int)) (by rw[CF]<;>omega)) rfl;refine qP (ts:=rT os) rfl rfl O (by rw[dA];omega) ?_;refine BE (ts:=rT os) (us:=rT (os.set i (x+c+y-1000000000))) rfl rfl O hog nJ ?_;apply vn (fP (c:=((i+1:Nat):Int)) D7) rfl;dsimp only[aP,aQ];have hN:uU _ _ (i+1) 1 (os.set i (x+c+y-1000000000)):=hI.next (y:=y) hlt hget (by rw[hget1];rfl) O O O;exact aa rfl ⟨⟨(i+1,1,os.set i (x+c+y-1000000000)),hN⟩,aR.rfl,by show(dg b).length-(i+1)<(dg b).length-i;omega⟩
    .refine qP (ts:=rT os) rfl rfl O (by rw[dA];omega) ?_;refine BE (ts:=rT os) (us:=rT (os.set i (x+c+y))) rfl rfl O hog nJ ?_;apply vn (fP (c:=((i+1:Nat):Int)) D7) rfl;dsimp only[aP,aQ];have hN:uU _ _ (i+1) 0 (os.set i (x+c+y)):=hI.next (y:=y) hlt hget (by rw[hget1];rfl) O O O;exact aa rfl ⟨⟨(i+1,0,os.set i (x+c+y)),hN⟩,aR.rfl,by show(dg b).length-(i+1)<(dg b).length-i;omega⟩
   .have hget1:(dg a)[i]?=none:=gE O;refine uS LH ?_ ?_<;>intro h2
    .apply vn (qQ (c:=((x+c-1000000000:Nat):Int)) (by rw[CF]<;>omega)) rfl;refine qP (ts:=rT os) rfl rfl O (by rw[dA];omega) ?_;refine BE (ts:=rT os) (us:=rT (os.set i (x+c-1000000000))) rfl rfl O hog nJ ?_;apply vn (fP (c:=((i+1:Nat):Int)) D7) rfl;dsimp only[aP,aQ];have hN:uU _ _ (i+1) 1 (os.set i (x+c-1000000000)):=hI.next (y:=0) hlt hget (by rw[hget1];rfl) O O O;exact aa rfl ⟨⟨(i+1,1,os.set i (x+c-1000000000)),hN⟩,aR.rfl,by show(dg b).length-(i+1)<(dg b).length-i;omega⟩
    .refine qP (ts:=rT os) rfl rfl O (by rw[dA];omega) ?_;refine BE (ts:=rT os) (us:=rT (os.set i (x+c))) rfl rfl O hog nJ ?_;apply vn (fP (c:=((i+1:Nat):Int)) D7) rfl;dsimp only[aP,aQ];have hN:uU _ _ (i+1) 0 (os.set i (x+c)):=hI.next (y:=0) hlt hget (by rw[hget1];rfl) O O O;exact aa rfl ⟨⟨(i+1,0,os.set i (x+c)),hN⟩,aR.rfl,by show(dg b).length-(i+1)<(dg b).length-i;omega⟩
  .have hie:i=(dg b).length:=by have:=hI.le;omega
   subst hie;have hol:(dg b).length<os.length:=by rw[hI.len];omega
   have hog:(rT os)[(((dg b).length:Int)).toNat]?=some [aE.int .u32 ((os[(dg b).length]'hol:Nat):Int)]:=sk bY;apply vn (aZ ec dA);refine qP (ts:=rT os) rfl rfl O (by rw[dA];omega) ?_;refine BE (ts:=rT os) (us:=rT (os.set ((dg b).length) c)) rfl rfl O hog nJ ?_;apply aA (lz (os.set ((dg b).length) c) (hI.dg.set (by have:=hI.c1;omega)) (by rw[cI,hI.len];omega)) rfl;dsimp only[aP,aQ];refine aN ?_;rw[hI.fin (n:=a+b) O (by rw[km,km]<;>omega)];rfl
 .skip
  apply vn (aZ ec dA);apply vn (fP (c:=(((dg a).length+1:Nat):Int)) D7) rfl;refine vz (n:=(dg a).length+1) (m:=(dg a).length+1) rfl rfl Rv (ah _) O (by simp[maxLen];omega) ?_;apply vn (aZ ec dA);refine bC {g:Nat×Nat×List Nat // uU (dg a) (dg b) g.1 g.2.1 g.2.2} (fun g=>[.one (.int .u32 g.1.2.1),.one (.int .i64 g.1.1),.rows (rT g.1.2.2)]) (fun g=>(dg a).length-g.1.1) ⟨(0,0,List.replicate ((dg a).length+1) 0),uU.init _ _⟩ aR.rfl (fun _=>rfl) ?_;rintro⟨⟨i,c,os⟩,hI⟩;dsimp only[aP,aQ]at hI|-;refine uS xy ?_ ?_<;>intro h
  .have hlt:i<(dg a).length:=O
   have hget:(dg a)[i]?=some ((dg a)[i]'hlt):=bU hlt;generalize (dg a)[i]'hlt=x at hget;have hx:=(oH a).get hget;have hc:=hI.c1;have hol:i<os.length:=by rw[hI.len];omega
   have hog:(rT os)[((i:Int)).toNat]?=some [aE.int .u32 ((os[i]'hol:Nat):Int)]:=sk bY;apply vn (NO ec (by simpa using hget));apply vn MZ;apply vn (fP (c:=((x+c:Nat):Int)) (by rw[CF]<;>omega)) rfl;apply vn (aZ ec dA);refine uS xy ?_ ?_<;>intro h1
   .have hlt1:i<(dg b).length:=O
    have hget1:(dg b)[i]?=some ((dg b)[i]'hlt1):=bU hlt1;generalize (dg b)[i]'hlt1=y at hget1;have hy:=(oH b).get hget1;apply vn (NO ec (by simpa using hget1));apply vn MZ;dsimp only[aP,aQ];apply vn (fP (c:=((x+c+y:Nat):Int)) (by rw[CF]<;>omega)) rfl;refine uS LH ?_ ?_<;>intro h2
    .apply vn (qQ (c:=((x+c+y-1000000000:Nat):Int)) (by rw[CF]<;>omega)) rfl;refine qP (ts:=rT os) rfl rfl O (by rw[dA];omega) ?_;refine BE (ts:=rT os) (us:=rT (os.set i (x+c+y-1000000000))) rfl rfl O hog nJ ?_;apply vn (fP (c:=((i+1:Nat):Int)) D7) rfl;dsimp only[aP,aQ];have hN:uU _ _ (i+1) 1 (os.set i (x+c+y-1000000000)):=hI.next (y:=y) hlt hget (by rw[hget1];rfl) O O O;exact aa rfl ⟨⟨(i+1,1,os.set i (x+c+y-1000000000)),hN⟩,aR.rfl,by show(dg a).length-(i+1)<(dg a).length-i;omega⟩
    .refine qP (ts:=rT os) rfl rfl O (by rw[dA];omega) ?_;refine BE (ts:=rT os) (us:=rT (os.set i (x+c+y))) rfl rfl O hog nJ ?_;apply vn (fP (c:=((i+1:Nat):Int)) D7) rfl;dsimp only[aP,aQ];have hN:uU _ _ (i+1) 0 (os.set i (x+c+y)):=hI.next (y:=y) hlt hget (by rw[hget1];rfl) O O O;exact aa rfl ⟨⟨(i+1,0,os.set i (x+c+y)),hN⟩,aR.rfl,by show(dg a).length-(i+1)<(dg a).length-i;omega⟩
   .have hget1:(dg b)[i]?=none:=gE O;refine uS LH ?_ ?_<;>intro h2
    .apply vn (qQ (c:=((x+c-1000000000:Nat):Int)) (by rw[CF]<;>omega)) rfl;refine qP (ts:=rT os) rfl rfl O (by rw[dA];omega) ?_;refine BE (ts:=rT os) (us:=rT (os.set i (x+c-1000000000))) rfl rfl O hog nJ ?_;apply vn (fP (c:=((i+1:Nat):Int)) D7) rfl;dsimp only[aP,aQ];have hN:uU _ _ (i+1) 1 (os.set i (x+c-1000000000)):=hI.next (y:=0) hlt hget (by rw[hget1];rfl) O O O;exact aa rfl ⟨⟨(i+1,1,os.set i (x+c-1000000000)),hN⟩,aR.rfl,by show(dg a).length-(i+1)<(dg a).length-i;omega⟩
    .refine qP (ts:=rT os) rfl rfl O (by rw[dA];omega) ?_;refine BE (ts:=rT os) (us:=rT (os.set i (x+c))) rfl rfl O hog nJ ?_;apply vn (fP (c:=((i+1:Nat):Int)) D7) rfl;dsimp only[aP,aQ];have hN:uU _ _ (i+1) 0 (os.set i (x+c)):=hI.next (y:=0) hlt hget (by rw[hget1];rfl) O O O;exact aa rfl ⟨⟨(i+1,0,os.set i (x+c)),hN⟩,aR.rfl,by show(dg a).length-(i+1)<(dg a).length-i;omega⟩
  .have hie:i=(dg a).length:=by have:=hI.le;omega
   subst hie;have hol:(dg a).length<os.length:=by rw[hI.len];omega
   have hog:(rT os)[(((dg a).length:Int)).toNat]?=some [aE.int .u32 ((os[(dg a).length]'hol:Nat):Int)]:=sk bY;apply vn (aZ ec dA);refine qP (ts:=rT os) rfl rfl O (by rw[dA];omega) ?_;refine BE (ts:=rT os) (us:=rT (os.set ((dg a).length) c)) rfl rfl O hog nJ ?_;apply aA (lz (os.set ((dg a).length) c) (hI.dg.set (by have:=hI.c1;omega)) (by rw[cI,hI.len];omega)) rfl;dsimp only[aP,aQ];refine aN ?_;rw[hI.fin (n:=a+b) O (by rw[km,km]<;>omega)];rfl
def cG8:Tr:=bD 0 0 4 33 (gd 1 0 0 3 5 (cC 2))
def bQ6:aO prog f179 cT [.v (some 1)]=cG8:=aT
def cF9:Tr:=aJ 3 0 (Sd 1 9 (ig 4 254 255 10 (tM 5 33 11 (jk 1 4 2 6 8 12 33 (Qh 1 6 (mL 0 8 7)))))) (.ret [.agg [.c (.sr 1 2)]])
def cI5:Tr:=WZ (.need (.prim [W 1 0,.one (.c (.k (.int .u64 0)))] none) (.binOp .gtr 254 (tT 4) (.const (.int .u64 0)) 254) 4 false cF9)
def bw6:aO prog f195 cT [.v none]=cI5:=aT
def cI1:Tr:=aJ 0 0 (Ih 179 1 8 4 (kq 2 0 9 (oD 1 0 3 0))) (.ret [.agg [U 1 0,tE (.bool false)]])
def aL5:aO prog f155 cT [.v none,.v (some 1)]=cI1:=aT
def bl9:Tr:=ur 0
def bh0:Tr:=ur (-1)
def aX3:Tr:=ur 1
def cH7:Tr:=Im 179 0 0 5 4 (aJ 1 0 bl9 (aJ 0 1 bh0 aX3))
def bj7:aO prog f114 cT [.v (some 2)]=cH7:=aT
def BG(n:Nat):aK prog 179 [mT n] (.ret [.one (.bool (decide (n=0)))]):=by
 refine dQ (args:=[.v (some 1)]) (ins:=[.v (mT n)]) (hints:=fun _=>none) fo aT func179 ⟨rfl,trivial⟩ ?_;rw[bQ6];apply vn (aZ ec rfl);apply vn aQ0;refine aN ?_;show[aF.one (.bool (decide (_=(0:Int))))]=_
 have h:((rT (dg n)).length:Int)=0↔n=0:=by
  rw[dA,<-QU];cases dg n<;>simp;omega
 simp only[h]
def lP(n:Nat)(h:n<18446744073709551616:=by omega):aK prog 195 [.one (.int .u64 n)] (.ret [mT n]):=by
 refine dQ (args:=[.v none]) (ins:=[.v (.one (.int .u64 n))]) (hints:=fun _=>none) fo aT func195 ⟨rfl,trivial⟩ ?_;rw[bw6];have hlen:(dg n).length<=3:=mo;refine bC {p:Nat×List Nat // p.2++dg p.1=dg n/\p.1<=n} (fun g=>[.one (.int .u64 g.1.1),.rows (rT g.1.2)]) (fun g=>g.1.1) ⟨(n,[]),bY⟩ aR.rfl (fun _=>rfl) ?_;rintro⟨⟨k,ds⟩,hinv,hle⟩;dsimp only[List.map,In.env,aP,aQ]at hinv hle|-;have hds:ds.length<=3:=by have:=congrArg List.length hinv;simp at this;omega
 refine uS TL ?_ ?_<;>intro hk
 .apply vn (IM (c:=((k%1000000000:Nat):Int)) dO (by rw[uP O];omega)) rfl;apply vn (lj ⟨_,lB⟩ kI (c:=((k%1000000000:Nat):Int)) (CF O O));apply bh (us:=rT [k%1000000000]);refine su (ts:=rT ds) (us:=rT [k%1000000000]) (vs:=rT (ds++[k%1000000000])) rfl rfl List.map_append.symm iF (by simp[maxLen];omega) ?_;apply vn (te (c:=((k/1000000000:Nat):Int)) dO (by rw[nY O,vk O O];omega)) rfl;refine aa rfl ⟨⟨(k/1000000000,ds++[k%1000000000]),?_,?_⟩,?_,?_⟩
  .have:k≠0:=O
   rw[<-hinv,dg,dg,jU (n:=k) O this];simp
  .show k/1000000000<=n;omega
  .exact aR.rfl
  .show k/1000000000<k;omega
 .have:k=0:=O
  subst this;refine aN ?_;have e:dg 0=[]:=eN _;rw[e,dD]at hinv;subst hinv;rfl
abbrev iT(z:Int):aF:=.agg [dT z.natAbs,.bool (decide (z<0))]
def gw(m:Bool)(n:Nat)(z:Int)(hz:z=if m then -(n:Int)else n):aK prog 155 [.one (.bool m),mT n] (.ret [iT z]):=by
 refine dQ (args:=[.v none,.v (some 1)]) (ins:=[.v (.one (.bool m)),.v (mT n)]) (hints:=fun _=>none) fo aT func155 ⟨rfl,rfl,trivial⟩ ?_;rw[aL5];have ha:z.natAbs=n:=by subst hz;cases m<;>simp
 refine gn m rfl (fun hm=>?_) (fun hm=>?_)
 .subst hm;apply aA (BG n);apply vn jW;refine aN ?_;have:(!decide (n=0))=decide (z<0):=by subst hz;simp;by_cases h:n=0<;>simp[h]<;>omega
  show[aF.agg [dT n,.bool (!decide (n=0))]]=_;rw[this,iT,ha]
 .subst hm;refine aN ?_;have:false=decide (z<0):=by subst hz;simp
  show[aF.agg [dT n,.bool false]]=_;rw[this,iT,ha]
def cl8:Tr:=Sd 26 54 (ig 28 254 255 55 (Qh 26 57 (eV 15 27 33 50 53 (gT 15 27 29 255 59 56 (bX 14 1 3 30 (BV 1 30 32 31))))))
def ck4:Tr:=dh 7 0 14 0 3 42 43 (eV 15 22 33 41 44 (oq 15 22 255 45 (ig 23 255 254 46 (dh 21 0 24 0 254 40 47 (dh 13 0 25 0 254 35 48 (dh 7 0 14 0 3 51 52 cl8))))))
def cA7:Tr:=bD 1 0 64 33 (dh 7 0 17 0 3 62 65 (ig 13 254 255 67 (eV 15 18 33 61 66 (gT 15 18 19 255 69 68 (bX 7 1 3 22 (mL 0 21 20))))))
def cv4:Tr:=dW 14 12 0 3 30 29 0 (aJ 16 0 (jL 1 0 14 0 33 28 30 (cq 17 255 33 (ig 11 255 254 36 (ig 18 255 254 38 (yH .mul 254 37 39 19 0 20 0 254 ck4))))) cA7)
def cK8:Tr:=Sb 0 5 (dW 7 6 0 3 22 21 0 (aJ 9 0 (jL 0 0 7 0 33 20 22 (cq 10 255 25 (bD 1 0 28 33 (.loop 1 [.w (.one (.c (.k (.int .u64 0)))),lK 0,.row 8] cv4)))) (Dh 197 1 8 1 71 33 35 (sV 10))))
def cI9:Tr:=bD 0 0 12 33 (bD 1 0 15 33 (dh 2 0 3 0 3 13 16 (JB 4 17 (bD 0 0 20 33 cK8))))
def bh6:aO prog f118 cT [.v (some 1),.v (some 1)]=cI9:=aT
def cb6{os:j3}{j z old n:Nat}(hj:os[j]?=some old)(hjn:j<n:=by omega):lv ((os.set j z).take n)+1000000000^j*old=lv (os.take n)+1000000000^j*z:=by
 have hlt:j<os.length:=(fK.1 hj).1
 have key:∀(os:j3)(j n:Nat),os[j]?=some old->j<n->lv ((os.set j z).take n)+1000000000^j*old=lv (os.take n)+1000000000^j*z:=by
  intro os
  induction os with
  | nil=>intro j n h;simp at h
  | cons d os ih=>
    intro j n h hn;obtain⟨m,rfl⟩:∃m,n=m+1:=⟨n-1,O⟩
    cases j with
    | zero=>
      simp only[nL,aM]at h;subst h;simp only[AG,pN,lv,val];omega
    | succ j=>
      have:=ih j m (by simpa using h) O;simp only[AD,pN,lv,val,bF]at this|-;have h1:1000000000^j*1000000000*old=1000000000*(1000000000^j*old):=by rw[FQ,cD]
      have h2:1000000000^j*1000000000*z=1000000000*(1000000000^j*z):=by rw[FQ,cD]
      rw[h1,h2];omega
 exact key os j n hj hjn
def bp2(n:Nat):lv (List.replicate n 0)=0:=by
 induction n with
 | zero=>rfl
 | succ n ih=>rw[nw,lv,val];simp only[lv]at ih;rw[ih]
structure So(xs ys:j3)(i:Nat)(os:j3):Prop where
 le:i<=xs.length
 len:os.length=xs.length+ys.length
 dg:Dg os
 eq:lv (os.take (i+ys.length))=lv (xs.take i)*lv ys
structure TIn(xs ys:j3)(i x T k c:Nat)(os:j3):Prop where
 le:k<=ys.length
 len:os.length=xs.length+ys.length
 dg:Dg os
 c1:c<1000000000
 eq:lv (os.take (i+ys.length))+1000000000^(i+k)*c=T+x*(1000000000^i*lv (ys.take k))
def So.init(xs ys:j3):So xs ys 0 (List.replicate (xs.length+ys.length) 0):=⟨cG _,bY,Dg.rep _,by
 rw[Zn,bp2];simp[lv,val]⟩
def So.inn{xs ys os:j3}{i x:Nat}(h:So xs ys i os):TIn xs ys i x (lv (xs.take i)*lv ys) 0 0 os:=⟨cG _,h.len,h.dg,O,by rw[h.eq];simp[lv,val]⟩
def TIn.next{xs ys os:j3}{i x T k c y old z c':Nat}(h:TIn xs ys i x T k c os)(hi:i<xs.length)(hk:k<ys.length)(hx:x<1000000000)(hy:ys[k]?=some y)(ho:os[i+k]?=some old)(hz:z<1000000000)(hc:c'<1000000000)(he:z+1000000000*c'=c+(x*y+old)) :
  TIn xs ys i x T (k+1) c' (os.set (i+k) z):=by
 refine⟨hk,by rw[cI];exact h.len,h.dg.set hz,hc,?_⟩;have h1:=cb6 (z:=z) (n:=i+ys.length) ho;have h2:=congrArg (fun t=>1000000000^(i+k)*t) he;have h3:=h.eq;rw[gz hy];simp only[fO]at h2|-;have e1:1000000000^(i+(k+1))*c'=1000000000^(i+k)*(1000000000*c'):=by rw[<-jF,bF,dC]
 have e2:x*(1000000000^i*(1000000000^k*y))=1000000000^(i+k)*(x*y):=by rw[eH];simp only[ns,dC]
 rw[e1,e2];omega
def TIn.out{xs ys os:j3}{i x c:Nat}(h:TIn xs ys i x (lv (xs.take i)*lv ys) ys.length c os)(hx:xs[i]?=some x):So xs ys (i+1) (os.set (i+ys.length) c):=by
 have hi:i<xs.length:=(fK.1 hx).1;refine⟨hi,by rw[cI];exact h.len,h.dg.set h.c1,?_⟩;have h3:=h.eq;rw[eW]at h3;rw[show i+1+ys.length=i+ys.length+1 by omega,wB (by rw[h.len];omega),gz hx,h3,ba]
 congr 1
 rw[ns,<-dC]
def So.fin{xs ys os:j3}(h:So xs ys xs.length os):lv os=lv xs*lv ys:=by
 have:=h.eq;rw[cU (by rw[h.len];omega),eW]at this;exact this
def mQ(a b:Nat)(hs:(dg a).length+(dg b).length<1099511627776:=by omega):aK prog 118 [mT a,mT b] (.ret [mT (a*b)]):=by
 refine dQ (args:=[.v (some 1),.v (some 1)]) (ins:=[.v (mT a),.v (mT b)]) (hints:=fun _=>none) fo aT func118 ⟨rfl,rfl,trivial⟩ ?_;rw[bh6];dsimp only[List.map,In.env];apply vn (aZ ec dA);apply vn (aZ ec dA);apply vn (fP (c:=(((dg a).length+(dg b).length:Nat):Int)) D7) rfl;refine vz (n:=(dg a).length+(dg b).length) (m:=(dg a).length+(dg b).length) rfl rfl Rv (ah _) O (by simp[maxLen];omega) ?_;apply vn (aZ ec dA);refine bC {g:Nat×List Nat // So (dg a) (dg b) g.1 g.2} (fun g=>[.one (.int .i64 g.1.1),.rows (rT g.1.2)]) (fun g=>(dg a).length-g.1.1) ⟨(0,List.replicate ((dg a).length+(dg b).length) 0),So.init _ _⟩ aR.rfl (fun _=>rfl) ?_;rintro⟨⟨i,os⟩,hO⟩;dsimp only[aP,aQ]at hO|-;refine uS xy ?_ ?_<;>intro h
 .have hlt:i<(dg a).length:=O
  have hget:(dg a)[i]?=some ((dg a)[i]'hlt):=bU hlt;generalize (dg a)[i]'hlt=x at hget;have hx:=(oH a).get hget;apply vn (NO ec (by simpa using hget));apply vn MZ;apply vn (aZ ec dA);refine bC {g:Nat×Nat×List Nat // TIn (dg a) (dg b) i x (lv ((dg a).take i)*lv (dg b)) g.1 g.2.1 g.2.2} (fun g=>[.one (.int .u64 g.1.2.1),.one (.int .i64 g.1.1),.rows (rT g.1.2.2)]) (fun g=>(dg b).length-g.1.1) ⟨(0,0,os),hO.inn⟩ aR.rfl (fun _=>rfl) ?_;rintro⟨⟨k,c,os2⟩,hI⟩;dsimp only[aP,aQ]at hI|-;have hc:=hI.c1;refine uS xy ?_ ?_<;>intro h1
  .have hlk:k<(dg b).length:=O
   have hgk:(dg b)[k]?=some ((dg b)[k]'hlk):=bU hlk;generalize (dg b)[k]'hlk=y at hgk;have hy:=(oH b).get hgk;have hol:i+k<os2.length:=by rw[hI.len];omega
   have hok:os2[i+k]?=some (os2[i+k]'hol):=bU hol;generalize os2[i+k]'hol=old at hok;have hold:=hI.dg.get hok;have hxy:x*y<=999999999*999999999:=dE O O;apply vn (NO ec (by simpa using hgk));apply vn MZ;apply vn (lj ⟨_,kI⟩ lB (c:=(x:Int)) D8) rfl;apply vn (lj ⟨_,kI⟩ lB (c:=(y:Int)) D8) rfl;apply vn (uv (c:=((x*y:Nat):Int)) (by rw[<-iK,vk]<;>omega)) rfl;apply vn (fP (c:=((i+k:Nat):Int)) D7) rfl;refine qP (ts:=rT os2) rfl rfl O (by rw[dA];omega) ?_;refine vld (ts:=rT os2) (cells:=[aE.int .u32 (old:Int)]) (t:=.one (.int .u32 (old:Int))) rfl rfl O (sk (by rw[bV];exact hok)) (.inr rfl) rfl ?_;dsimp only[aP,aQ];apply vn (lj ⟨_,kI⟩ lB (c:=(old:Int)) D8) rfl;apply vn (fP (c:=((x*y+old:Nat):Int)) D8) rfl;apply vn (fP (c:=((c+(x*y+old):Nat):Int)) D8) rfl;dsimp only[aP,aQ];generalize hs2:c+(x*y+old)=w;have hw:w<1000000000*1000000000:=O
   apply vn (fP (c:=((i+k:Nat):Int)) D7) rfl;apply vn (IM (c:=((w%1000000000:Nat):Int)) dO (by rw[uP O];omega)) rfl;apply vn (lj ⟨_,lB⟩ kI (c:=((w%1000000000:Nat):Int)) (by rw[CF]<;>omega)) rfl;apply vn (te (c:=((w/1000000000:Nat):Int)) dO (by rw[nY O,vk]<;>omega)) rfl;refine qP (ts:=rT os2) rfl rfl O (by rw[dA];omega) ?_;refine BE (ts:=rT os2) (us:=rT (os2.set (i+k) (w%1000000000))) rfl rfl O (sk (by rw[bV];exact hok)) nJ ?_;apply vn (fP (c:=((k+1:Nat):Int)) D7) rfl;dsimp only[aP,aQ];have hN:TIn (dg a) (dg b) i x (lv ((dg a).take i)*lv (dg b)) (k+1) (w/1000000000) (os2.set (i+k) (w%1000000000)):=hI.next hlt hlk hx hgk hok O O O;exact aa rfl ⟨⟨(k+1,w/1000000000,os2.set (i+k) (w%1000000000)),hN⟩,aR.rfl,by show(dg b).length-(k+1)<(dg b).length-k;omega⟩
  .have hke:k=(dg b).length:=by have:=hI.le;omega
   subst hke;have hol:i+(dg b).length<os2.length:=by rw[hI.len];omega
   have hok:os2[i+(dg b).length]?=some (os2[i+(dg b).length]'hol):=bU hol;apply vn (aZ ec dA);apply vn (fP (c:=((i+(dg b).length:Nat):Int)) D7) rfl;apply vn (lj ⟨_,lB⟩ kI (c:=(c:Int)) (by rw[CF]<;>omega)) rfl;refine qP (ts:=rT os2) rfl rfl O (by rw[dA];omega) ?_;refine BE (ts:=rT os2) (us:=rT (os2.set (i+(dg b).length) c)) rfl rfl O (sk (by rw[bV];exact hok)) nJ ?_;apply vn (fP (c:=((i+1:Nat):Int)) D7) rfl;dsimp only[aP,aQ];exact aa rfl ⟨⟨(i+1,os2.set (i+(dg b).length) c),hI.out hget⟩,aR.rfl,by show(dg a).length-(i+1)<(dg a).length-i;omega⟩
 .have hie:i=(dg a).length:=by have:=hO.le;omega
  subst hie;apply aA (lz os hO.dg (by rw[hO.len];omega)) rfl;dsimp only[aP,aQ];refine aN ?_;have hf:=hO.fin;rw[km,km]at hf;rw[hf];rfl
def cx5:Tr:=cC 1
def cF2:Tr:=yH .neq 3 3 4 0 0 0 0 4 cx5
def XH:aO prog f253 cT [.v none]=cF2:=aT
def cF5:Tr:=yH .neq 255 3 4 0 0 0 0 4 cx5
def Wg:aO prog f254 cT [.v none]=cF5:=aT
def cC5:Tr:=aJ 3 0 bl9 bh0
def bB4:Tr:=aJ 5 0 aX3 bl9
def cG2:Tr:=vC 253 0 7 3 4 (vC 253 1 9 3 4 (aJ 2 0 cC5 (aJ 3 0 aX3 (dW 0 1 0 3 14 15 4 (aJ 4 0 bh0 (yH .gtr 3 17 18 0 0 1 0 4 bB4))))))
def aU0:aO prog f198 cT [.v none,.v none]=cG2:=aT
def cz3:Tr:=vC 254 0 7 255 4 (vC 254 1 9 255 4 (aJ 2 0 cC5 (aJ 3 0 aX3 (dW 0 1 0 255 14 15 4 (aJ 4 0 bh0 (yH .gtr 255 17 18 0 0 1 0 4 bB4))))))
def ay0:aO prog f199 cT [.v none,.v none]=cz3:=aT
def bU7:Tr:=jL 1 0 9 0 33 32 33 (cq 13 255 34 (rz 199 12 0 14 30 35 255 255 3 (oK 15 3 37 (aJ 16 0 (cC 15) (iJ 9 1 24 (kA 0 8 17))))))
def cm2:Tr:=bD 0 0 19 33 (iJ 6 1 20 (.loop 0 [lK 0,lV 7 0] (my 9 0 0 3 22 (aJ 10 0 (jL 0 0 9 0 33 27 28 (cq 11 255 29 bU7)) bl9))))
def ck0:Tr:=bD 0 0 9 33 (bD 1 0 12 33 (rz 198 2 0 3 10 13 3 3 3 (oK 4 3 15 (aJ 5 0 (cC 4) cm2))))
def al3:aO prog f119 cT [.v (some 1),.v (some 1)]=ck0:=aT
def cf8:Tr:=ig 16 254 255 35 (ig 1 255 254 38 (yH .rem 254 37 39 14 0 18 0 254 (eV 8 7 33 30 31 (gT 8 7 17 255 41 36 (iJ 7 1 19 (BV 0 19 21 20))))))
def cD1:Tr:=ax2 6 21 (jL 0 0 7 0 33 24 25 (cq 11 255 26 (ig 12 255 254 27 (dh 10 0 13 0 254 22 28 (ig 1 255 254 33 (yH .quo 254 32 34 14 0 15 0 254 cf8))))))
def ct4:Tr:=iJ 4 1 15 (.loop 0 [.w (.one (.c (.k (.int .u64 0)))),lV 5 0,.row 3] (my 7 0 0 3 17 (aJ 9 0 cD1 (Wt 8 42 (oh 195 6 1 44 254 35 (.ret [G1 10,G1 11]))))))
def cu7:Tr:=bD 0 0 10 33 (JB 2 11 (bD 0 0 14 33 ct4))
def aN2:aO prog f250 cT [.v (some 1),.v none]=cu7:=aT
def cq8:Tr:=bD 0 0 4 33 (gd 1 0 1 3 5 (aJ 2 0 (mr 0 0 0 33 9 (cq 3 255 10 (Xo 4 1 11 (cC 5)))) (hx137Q )))
def bK4:aO prog f192 cT [.v (some 1)]=cq8:=aT
def gS(x y:Int):Int:=if x<y then -1 else if y<x then 1 else 0
def II(x:Int):aK prog 253 [.one (.int .i64 x)] (.ret [.one (.bool false)]):=by
 refine dQ (args:=[.v none]) (ins:=[.v (.one (.int .i64 x))]) (hints:=fun _=>none) fo aT func253 ⟨rfl,trivial⟩ ?_;rw[XH];apply vn Uo;refine aN ?_;show[aF.one (.bool (!decide (x=x)))]=_;simp
def aJ8(x y:Int):aK prog 198 [.one (.int .i64 x),.one (.int .i64 y)] (.ret [.one (.int .i64 (gS x y))]):=by
 refine dQ (args:=[.v none,.v none]) (ins:=[.v (.one (.int .i64 x)),.v (.one (.int .i64 y))]) (hints:=fun _=>none) fo aT func198 ⟨rfl,rfl,trivial⟩ ?_;rw[aU0];apply aA (II x);apply aA (II y);refine lw ?_;refine lw ?_;refine uS xy ?_ ?_<;>intro h
 .refine aN ?_;rw[gS,aI h];rfl
 .refine uS TL ?_ ?_<;>intro h2
  .refine aN ?_;rw[gS,aD h,aI h2];rfl
  .refine aN ?_;rw[gS,aD h,aD h2];rfl
def Ja(x:Int):aK prog 254 [.one (.int .u32 x)] (.ret [.one (.bool false)]):=by
 refine dQ (args:=[.v none]) (ins:=[.v (.one (.int .u32 x))]) (hints:=fun _=>none) fo aT func254 ⟨rfl,trivial⟩ ?_;rw[Wg];apply vn Uo;refine aN ?_;show[aF.one (.bool (!decide (x=x)))]=_;simp
def aF0(x y:Int):aK prog 199 [.one (.int .u32 x),.one (.int .u32 y)] (.ret [.one (.int .i64 (gS x y))]):=by
 refine dQ (args:=[.v none,.v none]) (ins:=[.v (.one (.int .u32 x)),.v (.one (.int .u32 y))]) (hints:=fun _=>none) fo aT func199 ⟨rfl,rfl,trivial⟩ ?_;rw[ay0];apply aA (Ja x);apply aA (Ja y);refine lw ?_;refine lw ?_;refine uS xy ?_ ?_<;>intro h
 .refine aN ?_;rw[gS,aI h];rfl
 .refine uS TL ?_ ?_<;>intro h2
  .refine aN ?_;rw[gS,aD h,aI h2];rfl
  .refine aN ?_;rw[gS,aD h,aD h2];rfl
def bq1(z:Int):aK prog 114 [iT z] (.ret [.one (.int .i64 z.sign)]):=by
 refine dQ (args:=[.v (some 2)]) (ins:=[.v (iT z)]) (hints:=fun _=>none) fo aT func114 ⟨rfl,trivial⟩ ?_;rw[bj7];apply aA (BG z.natAbs);refine p8 ?_ ?_<;>intro h
 .refine aN ?_;have:z.sign=0:=by rw[Bk];omega
  rw[this];rfl
 .refine p8 ?_ ?_<;>intro h2
  .refine aN ?_;rw[pP h2];rfl
  .refine aN ?_;rw[fY O];rfl
def zQ{xs ys:j3}(hx:Dg xs)(hlen:xs.length=ys.length){i x y:Nat}(hi:xs[i]?=some x)(hj:ys[i]?=some y)(hd:xs.drop (i+1)=ys.drop (i+1))(hxy:x<y):lv xs<lv ys:=by
 have hil:i<xs.length:=(fK.1 hi).1
 have e1:lv xs=lv (xs.take (i+1))+1000000000^(i+1)*lv (xs.drop (i+1)):=by
  conv=>lhs;rw[<-pQ (i+1) xs]
  rw[xT,bP,ek O]
 have e2:lv ys=lv (ys.take (i+1))+1000000000^(i+1)*lv (ys.drop (i+1)):=by
  conv=>lhs;rw[<-pQ (i+1) ys]
  rw[xT,bP,ek O]
 rw[e1,e2,hd,gz hi,gz hj]
 have h1:lv (xs.take i)<1000000000^i:=by
  have:=Wy (B:=1000000000) O (xs.take i) (hx.take i);rw[bP,ek O]at this;exact this
 have h2:1000000000^i*(x+1)<=1000000000^i*y:=cd _ hxy;rw[fO,dc]at h2;omega
def AX{a b:Nat}(h:(dg a).length<(dg b).length):a<b:=by
 have hb:b≠0:=by rintro rfl;rw[show dg 0=[]from eN _]at h;simp at h
 have h1:=oN (B:=1000000000) O a;have h2:=jb (B:=1000000000) O hb;have h3:1000000000^(dg a).length<=1000000000^((dg b).length-1):=cB O O;exact bt h1 (an h3 h2)
def wj{a b:Int}(h:a<b):gS a b=-1:=aI h
def xS{a b:Int}(h:b<a):gS a b=1:=by rw[gS,aD O,aI h]
def FE(a:Int):gS a a=0:=by rw[gS,aD O,aD O]
def Ow{a b:Int}:gS a b=0↔a=b:=by
 unfold gS;constructor
 .intro h;split at h
  .cases h
  .split at h
   .cases h
   .omega
 .rintro rfl;simp
def wm(a b:Nat)(hs:(dg a).length+(dg b).length<1099511627776:=by omega):aK prog 119 [mT a,mT b] (.ret [.one (.int .i64 (gS a b))]):=by
 refine dQ (args:=[.v (some 1),.v (some 1)]) (ins:=[.v (mT a),.v (mT b)]) (hints:=fun _=>none) fo aT func119 ⟨rfl,rfl,trivial⟩ ?_;rw[al3];dsimp only[List.map,In.env];apply vn (aZ ec dA);apply vn (aZ ec dA);apply aA (aJ8 _ _);apply vn Uo;refine gn (!decide (gS ((dg a).length:Int) ((dg b).length:Int)=0)) rfl (fun h=>?_) (fun h=>?_)
 .refine aN ?_;have hne:¬gS ((dg a).length:Int) ((dg b).length:Int)=0:=by simpa using h
  have:gS ((dg a).length:Int) ((dg b).length:Int)=gS a b:=by
   rcases Nat.lt_trichotomy (dg a).length (dg b).length with hl | hl | hl
   .rw[wj O,wj (by have:=AX hl;omega)]
   .rw[hl]at hne;exact absurd (FE _) hne
   .rw[xS O,xS (by have:=AX hl;omega)]
  rw[<-this];rfl
 .have he:(dg a).length=(dg b).length:=by
   have:gS ((dg a).length:Int) ((dg b).length:Int)=0:=by simpa using h
   have:=Ow.1 this;omega
  apply vn (aZ ec dA);apply vn (qQ (c:=((dg a).length:Int)-1) D7) rfl;refine bC {n:Nat // n<=(dg a).length/\(dg a).drop n=(dg b).drop n} (fun g=>[.one (.int .i64 0),.one (.int .i64 ((g.1:Int)-1))]) (fun g=>g.1) ⟨(dg a).length,ah _,by rw[Rx,he,Rx]⟩ aR.rfl (fun _=>rfl) ?_;rintro⟨n,hn,hdr⟩;dsimp only[aP,aQ];refine uS LH ?_ ?_<;>intro h1
  .have hla:n-1<(dg a).length:=O
   have hlb:n-1<(dg b).length:=O
   have hga:(dg a)[n-1]?=some ((dg a)[n-1]'hla):=bU hla;have hgb:(dg b)[n-1]?=some ((dg b)[n-1]'hlb):=bU hlb;generalize hxe:(dg a)[n-1]'hla=x at hga;generalize hye:(dg b)[n-1]'hlb=y at hgb;have htn:((n:Int)-1).toNat=n-1:=O
   have hdr':(dg a).drop (n-1+1)=(dg b).drop (n-1+1):=by rw[show n-1+1=n by omega];exact hdr
   apply vn (NO ec (by rw[htn];exact hga)) rfl;apply vn MZ;apply vn (NO ec (by rw[htn];exact hgb)) rfl;apply vn MZ;apply aA (aF0 _ _);apply vn Uo;refine gn (!decide (gS (x:Int) (y:Int)=0)) rfl (fun h2=>?_) (fun h2=>?_)
   .refine aN ?_;have hne:¬gS (x:Int) (y:Int)=0:=by simpa using h2
    have:gS (x:Int) (y:Int)=gS a b:=by
     rcases Nat.lt_trichotomy x y with hl | hl | hl
     .have:=zQ (oH a) he hga hgb hdr' hl;rw[km,km]at this;rw[wj O,wj O]
     .subst hl;exact absurd (FE _) hne
     .have:=zQ (oH b) he.symm hgb hga hdr'.symm hl;rw[km,km]at this;rw[xS O,xS O]
    rw[<-this];rfl
   .have hxy:x=y:=by
     have:gS (x:Int) (y:Int)=0:=by simpa using h2
     have:=Ow.1 this;omega
    apply vn (qQ (c:=((n-1:Nat):Int)-1) D7) rfl;dsimp only[aP,aQ];refine aa rfl ⟨⟨n-1,O,?_⟩,aR.rfl,by show n-1<n;omega⟩;rw[ow hla,ow hlb,hxe,hye,hxy,hdr']
  .have hn0:n=0:=O
   subst hn0;refine aN ?_;rw[gF,gF]at hdr;have:a=b:=by have:=congrArg lv hdr;rwa[km,km]at this
   subst this;exact congrArg (fun x=>[aF.one (aE.int .i64 x)]) (FE (a:Int)).symm
def Sn{xs:j3}{i x:Nat}(h:xs[i]?=some x):lv (xs.drop i)=x+1000000000*lv (xs.drop (i+1)):=by
 have hi:i<xs.length:=(fK.1 h).1;rw[ow hi,(fK.1 h).2];rfl
structure PZ(xs:j3)(d n r:Nat)(os:j3):Prop where
 le:n<=xs.length
 len:os.length=xs.length
 dg:Dg os
 r1:r<d
 eq:lv (os.drop n)*d+r=lv (xs.drop n)
def PZ.init(xs:j3){d:Nat}(hd:0<d):PZ xs d xs.length 0 (List.replicate xs.length 0):=⟨ah _,bY,Dg.rep _,hd,by simp[lv,val]⟩
def PZ.next{xs os:j3}{d n r x:Nat}(h:PZ xs d (n+1) r os)(hd:d<1000000000)(hx:xs[n]?=some x)(hx1:x<1000000000):PZ xs d n ((r*1000000000+x)%d) (os.set n ((r*1000000000+x)/d)):=by
 have hd0:0<d:=by have:=h.r1;omega
 have hq:(r*1000000000+x)/d<1000000000:=by
  rw[lh hd0];have h1:=h.r1;have:(r+1)*1000000000<=d*1000000000:=cg _ h1;rw[ba]at this;rw[cD 1000000000 d];omega
 have hl:=h.le;have hlen:=h.len;refine⟨O,by rw[cI];exact hlen,h.dg.set hq,eK _ hd0,?_⟩
 have hs:(os.set n ((r*1000000000+x)/d))[n]?=some ((r*1000000000+x)/d):=by
  rw[uf O]
 rw[Sn hs,Sn hx,Ga O,<-h.eq];have h1:=Fk (r*1000000000+x) d;rw[cD d]at h1;simp only[ba,fO,dC];omega
def PZ.fin{xs os:j3}{d r:Nat}(h:PZ xs d 0 r os):lv os=lv xs/d/\r=lv xs%d:=by
 have h1:=h.eq;rw[gF,gF]at h1;have h2:=h.r1;have e:lv xs=r+d*lv os:=by rw[<-h1,cD];omega
 constructor
 .rw[e,uk _ _ O,gj h2,bw]
 .rw[e,Bv,gk h2]
def SU(a d:Nat)(hd0:0<d)(hd:d<1000000000)(hs:(dg a).length<1099511627776:=by omega):aK prog 250 [mT a,.one (.int .u32 d)] (.ret [mT (a/d),mT (a%d)]):=by
 refine dQ (args:=[.v (some 1),.v none]) (ins:=[.v (mT a),.v (.one (.int .u32 d))]) (hints:=fun _=>none) fo aT func250 ⟨rfl,rfl,trivial⟩ ?_;rw[aN2];dsimp only[List.map,In.env];apply vn (aZ ec dA);refine vz (n:=(dg a).length) (m:=(dg a).length) rfl rfl Rv (ah _) O (by simp[maxLen];omega) ?_;apply vn (aZ ec dA);apply vn (qQ (c:=((dg a).length:Int)-1) D7) rfl;refine bC {g:Nat×Nat×List Nat // PZ (dg a) d g.1 g.2.1 g.2.2} (fun g=>[.one (.int .u64 g.1.2.1),.one (.int .i64 ((g.1.1:Int)-1)),.rows (rT g.1.2.2)]) (fun g=>g.1.1) ⟨((dg a).length,0,List.replicate (dg a).length 0),PZ.init _ hd0⟩ aR.rfl (fun _=>rfl) ?_;rintro⟨⟨n,r,os⟩,hI⟩;dsimp only[aP,aQ]at hI|-;have hr1:=hI.r1;have hln:=hI.le;refine uS LH ?_ ?_<;>intro h1
 .obtain⟨m,rfl⟩:∃m,n=m+1:=⟨n-1,O⟩
  have hlt:m<(dg a).length:=O
  have hget:(dg a)[m]?=some ((dg a)[m]'hlt):=bU hlt;generalize (dg a)[m]'hlt=x at hget;have hx:=(oH a).get hget;have hol:m<os.length:=by rw[hI.len];omega
  have hok:os[m]?=some (os[m]'hol):=bU hol;have htn:(((m+1:Nat):Int)-1).toNat=m:=O
  apply vn (uv (c:=((r*1000000000:Nat):Int)) D8) rfl;apply vn (NO ec (by rw[htn];exact hget)) rfl;apply vn MZ;apply vn (lj ⟨_,kI⟩ lB (c:=(x:Int)) D8) rfl;apply vn (fP (c:=((r*1000000000+x:Nat):Int)) D8) rfl;dsimp only[aP,aQ];have hN:=hI.next hd hget hx;have hqd:=hN.dg.get (i:=m) (d:=(r*1000000000+x)/d) (uf O);have hrd:=hN.r1;generalize hw:r*1000000000+x=w at hN hqd hrd|-;generalize hq:w/d=q at hN hqd;generalize hm:w%d=rr at hN hrd;apply vn (lj ⟨_,kI⟩ lB (c:=(d:Int)) D8) rfl;apply vn (te (c:=(q:Int)) O (by rw[nY O,<-Bi,hq,vk]<;>omega)) rfl;apply vn (lj ⟨_,lB⟩ kI (c:=(q:Int)) (by rw[CF]<;>omega)) rfl;apply vn (lj ⟨_,kI⟩ lB (c:=(d:Int)) D8) rfl;apply vn (IM (c:=(rr:Int)) O (by rw[uP O,<-PU,hm]));refine qP (ts:=rT os) rfl rfl O (by rw[dA];omega) ?_;refine BE (ts:=rT os) (us:=rT (os.set m q)) rfl rfl O (sk (by rw[htn];exact hok)) (by rw[htn];exact nJ) ?_;apply vn (qQ (c:=(m:Int)-1) D7) rfl;dsimp only[aP,aQ];exact aa rfl ⟨⟨(m,rr,os.set m q),hN⟩,aR.rfl,by show m<m+1;omega⟩
 .have hn0:n=0:=O
  subst hn0;obtain⟨hf1,hf2⟩:=hI.fin;rw[km]at hf1 hf2;apply aA (lz os hI.dg (by rw[hI.len];omega)) rfl;apply aA (lP r);dsimp only[aP,aQ];refine aN ?_;rw[hf1,<-hf2];rfl
end Go.Sy
