/- Part. -/
import Derived.Test.YtacgmapjhpghkaaGreatDoorFa
import Derived.Test.YtacgmapjhpghkaaGreatDoorPa
set_option linter.all false
namespace Go.Sy
open Go Go.Proofs Tryz Ord
abbrev rT (ds:List Nat):List (List aE):=ds.map fun (d:Nat)=>[aE.int .u32 (d:Int)]
abbrev dg (n:Nat):List Nat:=jX 1000000000 n
abbrev lv (ds:List Nat):Nat:=val 1000000000 ds
abbrev dT (n:Nat):aE:=.slice 1 (rT (dg n))
abbrev mT (n:Nat):aK:=.agg [dT n]
def Dg (ds:List Nat):Prop:=∀ d∈ds,d<1000000000
theorem yN {n:Int} (h0:0≤n) (h:n<4294967296):IntKind.u32.wrap n=n:=by rw [IntKind.wrap_u32];omega
theorem qQ {n:Int} (h0:0≤n) (h:n<18446744073709551616):IntKind.u64.wrap n=n:=by rw [IntKind.wrap_u64];omega
theorem mH {n:Int} (h0:-9223372036854775808≤n) (h:n<9223372036854775808):IntKind.i64.wrap n=n:=by rw [IntKind.wrap_i64];omega
theorem nN {ds:List Nat} {i d:Nat} (h:ds[i]? = some d):(rT ds)[i]? = some [aE.int .u32 (d:Int)]:=by
 rw [dP,h];rfl
theorem jW {ds:List Nat} {i x:Nat}:(rT ds).set i [aE.int .u32 (x:Int)]=rT (ds.set i x):=by
 rw [rT,rT,List.map_set]
theorem cT {ds:List Nat}:(rT ds).length=ds.length:=aH _
theorem xN {n:Nat}:dg n = []↔n=0:=by
 constructor
 ·intro h;by_cases hn:n=0
  ·exact hn
  ·rw [dg,eX (by omega) hn] at h;cases h
 ·rintro rfl;exact dG _
theorem jU (n:Nat):Dg (dg n):=AI n
theorem gO (n:Nat):lv (dg n)=n:=vJ (by omega) n
theorem Dg.take {ds:List Nat} (h:Dg ds) (n:Nat):Dg (ds.take n):=fun d hd=>h d (List.mem_of_mem_take hd)
theorem Dg.set {ds:List Nat} (h:Dg ds) {i x:Nat} (hx:x<1000000000):Dg (ds.set i x):=fun d hd=>by
 rcases List.mem_or_eq_of_mem_set hd with hd | rfl
 ·exact h d hd
 ·exact hx
theorem Dg.get {ds:List Nat} (h:Dg ds) {i d:Nat} (hd:ds[i]? = some d):d<1000000000:=h d (dE hd)
theorem Kx {ds:List Nat} {i d:Nat} (h:ds[i]? = some d):ds.take (i+1)=ds.take i ++ [d]:=by
 rw [List.take_add_one,h];rfl
theorem sJ (xs ys:List Nat):lv (xs++ys)=lv xs+1000000000^xs.length*lv ys:=iM _ _ _
theorem aE7 (d:Nat):lv [d]=d:=by simp [lv,val]
theorem eW {ds:List Nat} {i d:Nat} (h:ds[i]? = some d):lv (ds.take (i+1))=lv (ds.take i)+1000000000^i*d:=by
 have hi:i<ds.length:=(dR.1 h).1;rw [Kx h,sJ,aE7,List.length_take,Nat.min_eq_left (by omega)]
theorem rA {os:List Nat} {i x:Nat} (h:i<os.length):lv ((os.set i x).take (i+1))=lv (os.take i)+1000000000^i*x:=by
 rw [eW (d:=x) (by simp [h])];rw [List.take_set_of_le (bA i)]
theorem Lq {n:Nat}:List.replicate n ([Value.int .u32 0].map aE.exact)=rT (List.replicate n 0):=by
 rw [rT,List.map_replicate];rfl
theorem Dg.rep (n:Nat):Dg (List.replicate n 0):=fun d hd=>by
 obtain ⟨_,rfl⟩:=List.mem_replicate.1 hd;decide
abbrev dl (n:Nat):Nat:=(dg n).length
theorem Iv {ds:List Nat} {T ty:TypeId} {x y:Operand} {k:IntKind} {n:Int} {d:Nat} (h:dU prog T=some (237,1,4)) (hd:ds[n.toNat]? = some d) (h0:0≤n:=by omega) :
  bC prog (.indexAddr T x y) ty [.one (.slice 1 (rT ds)), .one (.int k n)] (.one (.bL [aE.int .u32 (d:Int)])):=Sk h (nN hd) h0
theorem Hk {ty:TypeId} {x:Operand} {d:Int}:bC prog (.load 237 x) ty [.one (.bL [aE.int .u32 d])] (.one (.int .u32 d)):=aR (n:=1) wC (by decide) (by simp) (.inr rfl)
open Go Go.Proofs Tryz Ord
def bx9:Tr:=bB .sub 3 10 1 2 0 3 (dN 0 0 4 0 40 9 11 (dA 5 0 none 237 12 (.need (.prim [(W 6 0),(.one (.c (.k (.int .u32 0))))] none) (.binOp .eql 237 (tT 13) (.const (.int .u32 0)) 237) 4 false (.split (.u 7 0) (bB .sub 3 16 1 2 0 3 (.back 0 [lV 8 0])) (.need (.prim [(W 0 0),(W 2 0),(W 2 0)] none) (.slice 40 (tT 18) none (some (tT 19)) (some (tT 20))) 40 false (.ret [(G1 8)]))))))
def bw9:Tr:=cL 0 0 4 40 (.loop 0 [lV 1 0] (bB .gtr 3 6 0 2 0 4 (.split (.u 3 0) bx9 (.need (.prim [(W 0 0),(W 2 0),(W 2 0)] none) (.slice 40 (tT 18) none (some (tT 19)) (some (tT 20))) 40 false (.ret [(G1 4)])))))
theorem TT:aM prog f208 (fun _=>none) [.v none]=bw9:=by kernel_rfl
theorem iY (ds:List Nat) (hd:Dg ds) (hl:ds.length<4611686018427387904:=by omega):aN prog 208 [.one (.slice 1 (rT ds))] (.ret [mT (lv ds)]):=by
 refine dC (args:=[.v none]) (ins:=[.v (.one (.slice 1 (rT ds)))]) (hints:=fun _=>none) fo (by kernel_rfl) func208 ⟨rfl,trivial⟩ ?_;rw [TT];apply vn (aL eC cT) rfl;refine bJ {n:Nat // n≤ds.length∧lv (ds.take n)=lv ds} (fun g=>[.one (.int .i64 g.1)]) (fun g=>g.1) ⟨ds.length,bA _,by rw [List.take_length]⟩ aO.rfl (fun _=>rfl) ?_;rintro ⟨n,hn,hv⟩;dsimp only
 have fin:∀ τ:Env,(n=0∨∃ d,ds[n-1]? = some d∧d≠0)→(rT ds).take n=rT (dg (lv ds)):=by
  intro τ h;rw [rT,rT,←List.map_take]
  congr 1
  rw [←hv,dg,lv,MN (by omega) _ (hd.take n)];intro d hlast;rcases h with rfl | ⟨d',hd',hne⟩
  ·simp at hlast
  ·rw [List.getLast?_eq_getElem?,List.length_take,Nat.min_eq_left hn,List.getElem?_take] at hlast;split at hlast
   ·rw [hd'] at hlast;simp at hlast;omega
   ·cases hlast
 apply vn Ny rfl;refine vs _ rfl ?_ ?_<;>intro h
 ·have hlt:n-1<ds.length:=by omega
  have hget:ds[n-1]? = some (ds[n-1]'hlt):=bI hlt;generalize ds[n-1]'hlt=d at hget;apply vn (mZ (c:=((n-1:Nat):Int)) (by rw [mH]<;>omega)) rfl;apply vn (Iv eC (by simpa using hget)) rfl;apply vn Hk rfl;apply vn YL rfl;refine vs _ rfl ?_ ?_<;>intro h2
  ·apply vn (mZ (c:=((n-1:Nat):Int)) (by rw [mH]<;>omega)) rfl;refine aY rfl ⟨⟨n-1,by omega,?_⟩,aO.rfl,?_⟩
   ·have hd0:d=0:=by omega
    subst hd0;have:=eW hget;rw [Nat.mul_zero,show n-1+1=n by omega] at this;exact (this.symm.trans hv)
   ·show n-1<n;omega
  ·apply vn (DC eC (by simpa using hn)) rfl;refine aJ ?_;exact congrArg (fun x=>[aK.agg [aE.slice 1 x]]) (fin [] (.inr ⟨d,hget,by omega⟩))
 ·apply vn (DC eC (by simpa using hn)) rfl;refine aJ ?_;exact congrArg (fun x=>[aK.agg [aE.slice 1 x]]) (fin [] (.inl (by omega)))
open Go Go.Proofs Tryz Ord
def ba7:Tr:=.need (.prim [(W 20 0),(.one (.c (.k (.int .u32 1000000000))))] none) (.binOp .geq 237 (tT 46) (.const (.int .u32 1000000000)) 237) 4 false (.split (.u 21 0) (.need (.prim [(W 20 0),(.one (.c (.k (.int .u32 1000000000))))] none) (.binOp .sub 237 (tT 48) (.const (.int .u32 1000000000)) 237) 237 false (.need (.idx 11 (.u 10 0)) (.indexAddr 40 (tT 50) (tT 51)) 0 false (.need (.strow 11 1 (.u 10 0) 0 [(.u 22 0)]) (.store 237 (tT 53) (tT 52)) 0 false (bB .add 3 26 1 10 0 3 (.back 0 [(.w (.one (.c (.k (.int .u32 1))))),lV 24 0, .row 23]))))) (.need (.idx 11 (.u 10 0)) (.indexAddr 40 (tT 50) (tT 51)) 0 false (.need (.strow 11 1 (.u 10 0) 0 [(.u 20 0)]) (.store 237 (tT 53) (tT 52)) 0 false (bB .add 3 26 1 10 0 3 (.back 0 [(.w (.one (.c (.k (.int .u32 0))))),lV 23 0, .row 22])))))
def av1:Tr:=dA 18 0 none 237 43 (cE .add 237 39 44 15 0 19 0 237 ba7)
def aw6:Tr:=.need (.prim [(W 15 0),(.one (.c (.k (.int .u32 1000000000))))] none) (.binOp .geq 237 (tT 46) (.const (.int .u32 1000000000)) 237) 4 false (.split (.u 18 0) (.need (.prim [(W 15 0),(.one (.c (.k (.int .u32 1000000000))))] none) (.binOp .sub 237 (tT 48) (.const (.int .u32 1000000000)) 237) 237 false (.need (.idx 11 (.u 10 0)) (.indexAddr 40 (tT 50) (tT 51)) 0 false (.need (.strow 11 1 (.u 10 0) 0 [(.u 19 0)]) (.store 237 (tT 53) (tT 52)) 0 false (bB .add 3 26 1 10 0 3 (.back 0 [(.w (.one (.c (.k (.int .u32 1))))),lV 21 0, .row 20]))))) (.need (.idx 11 (.u 10 0)) (.indexAddr 40 (tT 50) (tT 51)) 0 false (.need (.strow 11 1 (.u 10 0) 0 [(.u 15 0)]) (.store 237 (tT 53) (tT 52)) 0 false (bB .add 3 26 1 10 0 3 (.back 0 [(.w (.one (.c (.k (.int .u32 0))))),lV 20 0, .row 19])))))
def bg8:Tr:=dN 1 0 10 0 40 24 26 (dA 13 0 none 237 29 (cE .add 237 31 32 14 0 9 0 237 (cL 0 0 36 40 (cE .lss 3 34 37 10 0 16 0 4 (.split (.u 17 0) (dN 0 0 10 0 40 41 42 av1) aw6)))))
def at0:Tr:=.need (.idx 11 (.u 13 0)) (.indexAddr 40 (tT 55) (tT 58)) 0 false (.need (.strow 11 1 (.u 13 0) 0 [(.u 9 0)]) (.store 237 (tT 60) (tT 59)) 0 false (aU 208 [(.one (.c (.sr 1 14)))] [(some 1)] [61] [40] 42 true (.ret [(G1 15)])))
def bv6:Tr:=bB .add 3 20 1 5 0 3 (.need (.make [(.int .u32 0)] 4 (.u 6 0) (.u 6 0)) (.makeSlice 40 (tT 21) (tT 21)) 40 false (cL 1 0 24 40 (.loop 0 [(.w (.one (.c (.k (.int .u32 0))))),lK 0, .row 7] (cE .lss 3 26 25 10 0 8 0 0 (.split (.u 12 0) bg8 (cL 1 0 57 40 at0))))))
def bd9:Tr:=dN 0 0 10 0 40 24 26 (dA 13 0 none 237 29 (cE .add 237 31 32 14 0 9 0 237 (cL 1 0 36 40 (cE .lss 3 34 37 10 0 16 0 4 (.split (.u 17 0) (dN 1 0 10 0 40 41 42 av1) aw6)))))
def bg4:Tr:=bB .add 3 20 1 5 0 3 (.need (.make [(.int .u32 0)] 4 (.u 6 0) (.u 6 0)) (.makeSlice 40 (tT 21) (tT 21)) 40 false (cL 0 0 24 40 (.loop 0 [(.w (.one (.c (.k (.int .u32 0))))),lK 0, .row 7] (cE .lss 3 26 25 10 0 8 0 0 (.split (.u 12 0) bd9 (cL 0 0 57 40 at0))))))
def bx8:Tr:=cL 0 0 10 40 (cL 1 0 13 40 (cE .lss 3 11 14 2 0 3 0 4 (.split (.u 4 0) (cL 1 0 19 40 bv6) (cL 0 0 19 40 bg4))))
theorem aH1:aM prog f209 (fun _=>none) [.v (some 1), .v (some 1)]=bx8:=by kernel_rfl
structure pE (xs ys:List Nat) (i c:Nat) (os:List Nat):Prop where
 le:i≤xs.length
 c1:c≤1
 len:os.length=xs.length+1
 dg:Dg os
 eq:lv (os.take i)+1000000000^i*c=lv (xs.take i)+lv (ys.take i)
theorem pE.init (xs ys:List Nat):pE xs ys 0 0 (List.replicate (xs.length+1) 0):=⟨cM _,by omega,by simp,Dg.rep _,by simp [lv,val]⟩
theorem pE.next {xs ys os:List Nat} {i c x y c' z:Nat} (h:pE xs ys i c os) (hi:i<xs.length) (hx:xs[i]? = some x) (hy:ys[i]?.getD 0=y) (hc:c'≤1) (hz:z<1000000000) (he:z+1000000000*c'=x+c+y):pE xs ys (i+1) c' (os.set i z):=by
 refine ⟨hi,hc,by rw [List.length_set];exact h.len,h.dg.set hz,?_⟩;rw [rA (by rw [h.len];omega),eW hx,Nat.pow_succ]
 have hb:lv (ys.take (i+1))=lv (ys.take i)+1000000000^i*y:=by
  cases hbi:ys[i]? with
  | some d=>rw [hbi] at hy;simp only [Option.getD_some] at hy;subst hy;exact eW hbi
  | none=>
    rw [hbi] at hy;simp only [Option.getD_none] at hy;subst hy;have:=List.getElem?_eq_none_iff.1 hbi;rw [List.take_of_length_le (by omega),List.take_of_length_le (by omega)];omega
 rw [hb];have h1:=h.eq;have h2:=congrArg (fun t=>1000000000^i*t) he;simp only [Nat.mul_add] at h2;rw [Nat.mul_assoc];omega
theorem pE.fin {xs ys os:List Nat} {c:Nat} {n:Nat} (h:pE xs ys xs.length c os) (hle:ys.length≤xs.length) (he:lv xs+lv ys=n):lv (os.set xs.length c)=n:=by
 have h1:=rA (os:=os) (i:=xs.length) (x:=c) (by rw [h.len];omega);rw [List.take_of_length_le (by rw [List.length_set,h.len];omega)] at h1;have h2:=h.eq;rw [List.take_length,List.take_of_length_le hle] at h2;omega
set_option maxHeartbeats 1000000 in
theorem Yy (a b:Nat) (hs:(dg a).length+(dg b).length<1099511627776:=by omega):aN prog 209 [mT a,mT b] (.ret [mT (a+b)]):=by
 refine dC (args:=[.v (some 1), .v (some 1)]) (ins:=[.v (mT a), .v (mT b)]) (hints:=fun _=>none) fo (by kernel_rfl) func209 ⟨rfl,rfl,trivial⟩ ?_;rw [aH1];dsimp only [List.map,In.env];apply vn (aL eC cT) rfl;apply vn (aL eC cT) rfl;apply vn tB rfl;refine vs _ rfl ?_ ?_<;>intro hab
 ·skip
  apply vn (aL eC cT) rfl;dsimp only [aC,aD];apply vn (eP (c:=(((dg b).length+1:Nat):Int)) (by rw [mH]<;>omega)) rfl;refine tC (n:=(dg b).length+1) (m:=(dg b).length+1) rfl rfl Lq (bA _) (by omega) (by simp [maxLen];omega) ?_;apply vn (aL eC cT) rfl;refine bJ {g:Nat×Nat×List Nat // pE (dg b) (dg a) g.1 g.2.1 g.2.2} (fun g=>[.one (.int .u32 g.1.2.1), .one (.int .i64 g.1.1), .rows (rT g.1.2.2)]) (fun g=>(dg b).length-g.1.1) ⟨(0,0,List.replicate ((dg b).length+1) 0),pE.init _ _⟩ aO.rfl (fun _=>rfl) ?_;rintro ⟨⟨i,c,os⟩,hI⟩;dsimp only [aC,aD] at hI ⊢;apply vn tB rfl;refine vs _ rfl ?_ ?_<;>intro h
  ·have hlt:i<(dg b).length:=by omega
   have hget:(dg b)[i]? = some ((dg b)[i]'hlt):=bI hlt;generalize (dg b)[i]'hlt=x at hget;have hx:=(jU b).get hget;have hc:=hI.c1;have hol:i<os.length:=by rw [hI.len];omega
   have hog:(rT os)[((i:Int)).toNat]? = some [aE.int .u32 ((os[i]'hol:Nat):Int)]:=nN (by simp);apply vn (Iv eC (by simpa using hget)) rfl;apply vn Hk rfl;apply vn (eP (c:=((x+c:Nat):Int)) (by rw [yN]<;>omega)) rfl;dsimp only [aC,aD];apply vn (aL eC cT) rfl;apply vn tB rfl;refine vs _ rfl ?_ ?_<;>intro h1
   ·have hlt1:i<(dg a).length:=by omega
    have hget1:(dg a)[i]? = some ((dg a)[i]'hlt1):=bI hlt1;generalize (dg a)[i]'hlt1=y at hget1;have hy:=(jU a).get hget1;apply vn (Iv eC (by simpa using hget1)) rfl;apply vn Hk rfl;dsimp only [aC,aD];apply vn (eP (c:=((x+c+y:Nat):Int)) (by rw [yN]<;>omega)) rfl;apply vn FC rfl;refine vs _ rfl ?_ ?_<;>intro h2
    ·apply vn (mZ (c:=((x+c+y-1000000000:Nat):Int)) (by rw [yN]<;>omega)) rfl;refine pZ (ts:=rT os) rfl rfl (by omega) (by rw [cT];omega) ?_;refine Mj (ts:=rT os) (us:=rT (os.set i (x+c+y-1000000000))) rfl rfl (by omega) hog jW ?_;dsimp only [aC,aD];apply vn (eP (c:=((i+1:Nat):Int)) (by rw [mH]<;>omega)) rfl;dsimp only [aC,aD];have hN:pE _ _ (i+1) 1 (os.set i (x+c+y-1000000000)):=hI.next (y:=y) hlt hget (by rw [hget1];rfl) (by omega) (by omega) (by omega);exact aY rfl ⟨⟨(i+1,1,os.set i (x+c+y-1000000000)),hN⟩,aO.rfl,by show (dg b).length-(i+1)<(dg b).length-i;omega⟩
    ·refine pZ (ts:=rT os) rfl rfl (by omega) (by rw [cT];omega) ?_;refine Mj (ts:=rT os) (us:=rT (os.set i (x+c+y))) rfl rfl (by omega) hog jW ?_;apply vn (eP (c:=((i+1:Nat):Int)) (by rw [mH]<;>omega)) rfl;dsimp only [aC,aD];have hN:pE _ _ (i+1) 0 (os.set i (x+c+y)):=hI.next (y:=y) hlt hget (by rw [hget1];rfl) (by omega) (by omega) (by omega);exact aY rfl ⟨⟨(i+1,0,os.set i (x+c+y)),hN⟩,aO.rfl,by show (dg b).length-(i+1)<(dg b).length-i;omega⟩
   ·have hget1:(dg a)[i]? = none:=List.getElem?_eq_none (by omega);apply vn FC rfl;refine vs _ rfl ?_ ?_<;>intro h2
    ·apply vn (mZ (c:=((x+c-1000000000:Nat):Int)) (by rw [yN]<;>omega)) rfl;refine pZ (ts:=rT os) rfl rfl (by omega) (by rw [cT];omega) ?_;refine Mj (ts:=rT os) (us:=rT (os.set i (x+c-1000000000))) rfl rfl (by omega) hog jW ?_;apply vn (eP (c:=((i+1:Nat):Int)) (by rw [mH]<;>omega)) rfl;dsimp only [aC,aD];have hN:pE _ _ (i+1) 1 (os.set i (x+c-1000000000)):=hI.next (y:=0) hlt hget (by rw [hget1];rfl) (by omega) (by omega) (by omega);exact aY rfl ⟨⟨(i+1,1,os.set i (x+c-1000000000)),hN⟩,aO.rfl,by show (dg b).length-(i+1)<(dg b).length-i;omega⟩
    ·refine pZ (ts:=rT os) rfl rfl (by omega) (by rw [cT];omega) ?_;refine Mj (ts:=rT os) (us:=rT (os.set i (x+c))) rfl rfl (by omega) hog jW ?_;apply vn (eP (c:=((i+1:Nat):Int)) (by rw [mH]<;>omega)) rfl;dsimp only [aC,aD];have hN:pE _ _ (i+1) 0 (os.set i (x+c)):=hI.next (y:=0) hlt hget (by rw [hget1];rfl) (by omega) (by omega) (by omega);exact aY rfl ⟨⟨(i+1,0,os.set i (x+c)),hN⟩,aO.rfl,by show (dg b).length-(i+1)<(dg b).length-i;omega⟩
  ·have hie:i=(dg b).length:=by have:=hI.le;omega
   subst hie;have hol:(dg b).length<os.length:=by rw [hI.len];omega
   have hog:(rT os)[(((dg b).length:Int)).toNat]? = some [aE.int .u32 ((os[(dg b).length]'hol:Nat):Int)]:=nN (by simp);apply vn (aL eC cT) rfl;refine pZ (ts:=rT os) rfl rfl (by omega) (by rw [cT];omega) ?_;refine Mj (ts:=rT os) (us:=rT (os.set ((dg b).length) c)) rfl rfl (by omega) hog jW ?_;apply aA (iY (os.set ((dg b).length) c) (hI.dg.set (by have:=hI.c1;omega)) (by rw [List.length_set,hI.len];omega)) rfl;dsimp only [aC,aD];refine aJ ?_;rw [hI.fin (n:=a+b) (by omega) (by rw [gO,gO]<;>omega)];rfl
 ·skip
  apply vn (aL eC cT) rfl;apply vn (eP (c:=(((dg a).length+1:Nat):Int)) (by rw [mH]<;>omega)) rfl;refine tC (n:=(dg a).length+1) (m:=(dg a).length+1) rfl rfl Lq (bA _) (by omega) (by simp [maxLen];omega) ?_;apply vn (aL eC cT) rfl;dsimp only [aC,aD];refine bJ {g:Nat×Nat×List Nat // pE (dg a) (dg b) g.1 g.2.1 g.2.2} (fun g=>[.one (.int .u32 g.1.2.1), .one (.int .i64 g.1.1), .rows (rT g.1.2.2)]) (fun g=>(dg a).length-g.1.1) ⟨(0,0,List.replicate ((dg a).length+1) 0),pE.init _ _⟩ aO.rfl (fun _=>rfl) ?_;rintro ⟨⟨i,c,os⟩,hI⟩;dsimp only [aC,aD] at hI ⊢;apply vn tB rfl;refine vs _ rfl ?_ ?_<;>intro h
  ·have hlt:i<(dg a).length:=by omega
   have hget:(dg a)[i]? = some ((dg a)[i]'hlt):=bI hlt;generalize (dg a)[i]'hlt=x at hget;have hx:=(jU a).get hget;have hc:=hI.c1;have hol:i<os.length:=by rw [hI.len];omega
   have hog:(rT os)[((i:Int)).toNat]? = some [aE.int .u32 ((os[i]'hol:Nat):Int)]:=nN (by simp);apply vn (Iv eC (by simpa using hget)) rfl;apply vn Hk rfl;apply vn (eP (c:=((x+c:Nat):Int)) (by rw [yN]<;>omega)) rfl;dsimp only [aC,aD];apply vn (aL eC cT) rfl;apply vn tB rfl;refine vs _ rfl ?_ ?_<;>intro h1
   ·have hlt1:i<(dg b).length:=by omega
    have hget1:(dg b)[i]? = some ((dg b)[i]'hlt1):=bI hlt1;generalize (dg b)[i]'hlt1=y at hget1;have hy:=(jU b).get hget1;apply vn (Iv eC (by simpa using hget1)) rfl;apply vn Hk rfl;dsimp only [aC,aD];apply vn (eP (c:=((x+c+y:Nat):Int)) (by rw [yN]<;>omega)) rfl;apply vn FC rfl;refine vs _ rfl ?_ ?_<;>intro h2
    ·apply vn (mZ (c:=((x+c+y-1000000000:Nat):Int)) (by rw [yN]<;>omega)) rfl;refine pZ (ts:=rT os) rfl rfl (by omega) (by rw [cT];omega) ?_;refine Mj (ts:=rT os) (us:=rT (os.set i (x+c+y-1000000000))) rfl rfl (by omega) hog jW ?_;dsimp only [aC,aD];apply vn (eP (c:=((i+1:Nat):Int)) (by rw [mH]<;>omega)) rfl;dsimp only [aC,aD];have hN:pE _ _ (i+1) 1 (os.set i (x+c+y-1000000000)):=hI.next (y:=y) hlt hget (by rw [hget1];rfl) (by omega) (by omega) (by omega);exact aY rfl ⟨⟨(i+1,1,os.set i (x+c+y-1000000000)),hN⟩,aO.rfl,by show (dg a).length-(i+1)<(dg a).length-i;omega⟩
    ·refine pZ (ts:=rT os) rfl rfl (by omega) (by rw [cT];omega) ?_;refine Mj (ts:=rT os) (us:=rT (os.set i (x+c+y))) rfl rfl (by omega) hog jW ?_;apply vn (eP (c:=((i+1:Nat):Int)) (by rw [mH]<;>omega)) rfl;dsimp only [aC,aD];have hN:pE _ _ (i+1) 0 (os.set i (x+c+y)):=hI.next (y:=y) hlt hget (by rw [hget1];rfl) (by omega) (by omega) (by omega);exact aY rfl ⟨⟨(i+1,0,os.set i (x+c+y)),hN⟩,aO.rfl,by show (dg a).length-(i+1)<(dg a).length-i;omega⟩
   ·have hget1:(dg b)[i]? = none:=List.getElem?_eq_none (by omega);apply vn FC rfl;refine vs _ rfl ?_ ?_<;>intro h2
    ·apply vn (mZ (c:=((x+c-1000000000:Nat):Int)) (by rw [yN]<;>omega)) rfl;refine pZ (ts:=rT os) rfl rfl (by omega) (by rw [cT];omega) ?_;refine Mj (ts:=rT os) (us:=rT (os.set i (x+c-1000000000))) rfl rfl (by omega) hog jW ?_;apply vn (eP (c:=((i+1:Nat):Int)) (by rw [mH]<;>omega)) rfl;dsimp only [aC,aD];have hN:pE _ _ (i+1) 1 (os.set i (x+c-1000000000)):=hI.next (y:=0) hlt hget (by rw [hget1];rfl) (by omega) (by omega) (by omega);exact aY rfl ⟨⟨(i+1,1,os.set i (x+c-1000000000)),hN⟩,aO.rfl,by show (dg a).length-(i+1)<(dg a).length-i;omega⟩
    ·refine pZ (ts:=rT os) rfl rfl (by omega) (by rw [cT];omega) ?_;refine Mj (ts:=rT os) (us:=rT (os.set i (x+c))) rfl rfl (by omega) hog jW ?_;apply vn (eP (c:=((i+1:Nat):Int)) (by rw [mH]<;>omega)) rfl;dsimp only [aC,aD];have hN:pE _ _ (i+1) 0 (os.set i (x+c)):=hI.next (y:=0) hlt hget (by rw [hget1];rfl) (by omega) (by omega) (by omega);exact aY rfl ⟨⟨(i+1,0,os.set i (x+c)),hN⟩,aO.rfl,by show (dg a).length-(i+1)<(dg a).length-i;omega⟩
  ·have hie:i=(dg a).length:=by have:=hI.le;omega
   subst hie;have hol:(dg a).length<os.length:=by rw [hI.len];omega
   have hog:(rT os)[(((dg a).length:Int)).toNat]? = some [aE.int .u32 ((os[(dg a).length]'hol:Nat):Int)]:=nN (by simp);apply vn (aL eC cT) rfl;refine pZ (ts:=rT os) rfl rfl (by omega) (by rw [cT];omega) ?_;refine Mj (ts:=rT os) (us:=rT (os.set ((dg a).length) c)) rfl rfl (by omega) hog jW ?_;apply aA (iY (os.set ((dg a).length) c) (hI.dg.set (by have:=hI.c1;omega)) (by rw [List.length_set,hI.len];omega)) rfl;dsimp only [aC,aD];refine aJ ?_;rw [hI.fin (n:=a+b) (by omega) (by rw [gO,gO]<;>omega)];rfl
open Go Go.Proofs Tryz Ord
def bv3:Tr:=cL 0 0 4 40 (bB .eql 3 5 0 1 0 4 (.ret [(W 2 0)]))
theorem aJ5:aM prog f172 (fun _=>none) [.v (some 1)]=bv3:=by kernel_rfl
def bu6:Tr:=.split (.u 3 0) (.need (.prim [(W 1 0),(.one (.c (.k (.int .u64 1000000000))))] none) (.binOp .rem 236 (tT 9) (.const (.int .u64 1000000000)) 236) 236 false (.need (.prim [(W 4 0)] none) (.convert 236 237 (tT 10)) 237 false (.need (.lit 1 [[(.u 5 0)]]) (.buildSlice 40 1 #[(0,(tT 11))]) 40 false (.need (.app 1 4 (some 2) none (some 6)) (.call ⟨.builtin .append,#[(tT 8),(tT 12)],#[40,40]⟩) 40 false (.need (.prim [(W 1 0),(.one (.c (.k (.int .u64 1000000000))))] none) (.binOp .quo 236 (tT 6) (.const (.int .u64 1000000000)) 236) 236 false (.back 0 [lV 8 0, .row 7])))))) (.ret [(.agg [(.c (.sr 1 2))])])
def bw7:Tr:=.loop 0 [lV 0 0, .nilrow] (.need (.prim [(W 1 0),(.one (.c (.k (.int .u64 0))))] none) (.binOp .gtr 236 (tT 4) (.const (.int .u64 0)) 236) 4 false bu6)
theorem as2:aM prog f206 (fun _=>none) [.v none]=bw7:=by kernel_rfl
def bw4:Tr:=.split (.u 0 0) (aU 172 [(G1 1)] [none] [8] [42] 4 false (.need (.prim [(W 2 0)] none) (.unOp .not 4 (tT 9)) 4 false (.ret [(.agg [(U 1 0),(U 3 0)])]))) (.ret [(.agg [(U 1 0),(tE (.bool false))])])
theorem Yc:aM prog f158 (fun _=>none) [.v none, .v (some 1)]=bw4:=by kernel_rfl
def ak2:Tr:=.ret [(WK 0)]
def ah4:Tr:=.ret [(WK (-1))]
def ZQ:Tr:=.ret [(WK 1)]
def bw0:Tr:=aU 172 [(G1 0)] [none] [5] [42] 4 true (.split (.u 1 0) ak2 (.split (.u 0 1) ah4 ZQ))
theorem ai8:aM prog f91 (fun _=>none) [.v (some 2)]=bw0:=by kernel_rfl
theorem tK (n:Nat):aN prog 172 [mT n] (.ret [.one (.bool (decide (n=0)))]):=by
 refine dC (args:=[.v (some 1)]) (ins:=[.v (mT n)]) (hints:=fun _=>none) fo (by kernel_rfl) func172 ⟨rfl,trivial⟩ ?_;rw [aJ5];apply vn (aL eC rfl) rfl;apply vn YL rfl;refine aJ ?_;show [aK.one (.bool (decide (_=(0:Int))))]=_
 have h:((rT (dg n)).length:Int)=0↔n=0:=by
  rw [cT,←xN];cases dg n<;>simp;omega
 simp only [h]
theorem mQ (n:Nat) (h:n<18446744073709551616:=by omega):aN prog 206 [.one (.int .u64 n)] (.ret [mT n]):=by
 refine dC (args:=[.v none]) (ins:=[.v (.one (.int .u64 n))]) (hints:=fun _=>none) fo (by kernel_rfl) func206 ⟨rfl,trivial⟩ ?_;rw [as2];have hlen:(dg n).length≤3:=jR;refine bJ {p:Nat×List Nat // p.2++dg p.1=dg n∧p.1≤n} (fun g=>[.one (.int .u64 g.1.1), .rows (rT g.1.2)]) (fun g=>g.1.1) ⟨(n,[]),by simp⟩ aO.rfl (fun _=>rfl) ?_;rintro ⟨⟨k,ds⟩,hinv,hle⟩;dsimp only [List.map,In.env,aC,aD] at hinv hle ⊢;have hds:ds.length≤3:=by have:=congrArg List.length hinv;simp at this;omega
 apply vn Ny rfl;refine vs _ rfl ?_ ?_<;>intro hk
 ·apply vn (Dc (c:=((k%1000000000:Nat):Int)) (by decide) (by rw [Int.tmod_eq_emod_of_nonneg (by omega)];omega)) rfl;apply vn (iQ ⟨_,iG⟩ gQ (c:=((k%1000000000:Nat):Int)) (yN (by omega) (by omega))) rfl;apply dJ (us:=rT [k%1000000000]) rfl;refine wF (ts:=rT ds) (us:=rT [k%1000000000]) (vs:=rT (ds ++ [k%1000000000])) rfl rfl List.map_append.symm (by simp;omega) (by simp [maxLen];omega) ?_;apply vn (oE (c:=((k/1000000000:Nat):Int)) (by decide) (by rw [Int.tdiv_eq_ediv_of_nonneg (by omega),qQ (by omega) (by omega)];omega)) rfl;refine aY rfl ⟨⟨(k/1000000000,ds ++ [k%1000000000]),?_,?_⟩,?_,?_⟩
  ·have:k≠0:=by omega
   rw [←hinv,dg,dg,eX (n:=k) (by omega) this];simp
  ·show k/1000000000≤n;omega
  ·exact aO.rfl
  ·show k/1000000000<k;omega
 ·have:k=0:=by omega
  subst this;refine aJ ?_;have e:dg 0 = []:=dG _;rw [e,List.append_nil] at hinv;subst hinv;rfl
abbrev iT (z:Int):aK:=.agg [dT z.natAbs, .bool (decide (z<0))]
theorem gK (m:Bool) (n:Nat) (z:Int) (hz:z=if m then -(n:Int) else n):aN prog 158 [.one (.bool m),mT n] (.ret [iT z]):=by
 refine dC (args:=[.v none, .v (some 1)]) (ins:=[.v (.one (.bool m)), .v (mT n)]) (hints:=fun _=>none) fo (by kernel_rfl) func158 ⟨rfl,rfl,trivial⟩ ?_;rw [Yc];have ha:z.natAbs=n:=by subst hz;cases m<;>simp
 refine kG m rfl (fun hm=>?_) (fun hm=>?_)
 ·subst hm;apply aA (tK n) rfl;apply vn eS rfl;refine aJ ?_;have:(!decide (n=0))=decide (z<0):=by subst hz;simp;by_cases h:n=0<;>simp [h]<;>omega
  show [aK.agg [dT n, .bool (!decide (n=0))]]=_;rw [this,iT,ha]
 ·subst hm;refine aJ ?_;have:false=decide (z<0):=by subst hz;simp
  show [aK.agg [dT n, .bool false]]=_;rw [this,iT,ha]
open Go Go.Proofs Tryz Ord
def bd4:Tr:=.need (.prim [(W 26 0),(.one (.c (.k (.int .u64 1000000000))))] none) (.binOp .rem 236 (tT 54) (.const (.int .u64 1000000000)) 236) 236 false (.need (.prim [(W 28 0)] none) (.convert 236 237 (tT 55)) 237 false (.need (.prim [(W 26 0),(.one (.c (.k (.int .u64 1000000000))))] none) (.binOp .quo 236 (tT 57) (.const (.int .u64 1000000000)) 236) 236 false (.need (.idx 15 (.u 27 0)) (.indexAddr 40 (tT 50) (tT 53)) 0 false (.need (.strow 15 1 (.u 27 0) 0 [(.u 29 0)]) (.store 237 (tT 59) (tT 56)) 0 false (bB .add 3 30 1 14 0 3 (.back 1 [lV 30 0,lV 32 0, .row 31]))))))
def bc2:Tr:=cE .add 3 42 43 7 0 14 0 3 (.need (.idx 15 (.u 22 0)) (.indexAddr 40 (tT 41) (tT 44)) 0 false (.need (.ldrow 15 (.u 22 0) 0 1 false) (.load 237 (tT 45)) 237 false (.need (.prim [(W 23 0)] none) (.convert 237 236 (tT 46)) 236 false (cE .add 236 40 47 21 0 24 0 236 (cE .add 236 35 48 13 0 25 0 236 (cE .add 3 51 52 7 0 14 0 3 bd4))))))
def bq4:Tr:=cL 1 0 64 40 (cE .add 3 62 65 7 0 17 0 3 (.need (.prim [(W 13 0)] none) (.convert 236 237 (tT 67)) 237 false (.need (.idx 15 (.u 18 0)) (.indexAddr 40 (tT 61) (tT 66)) 0 false (.need (.strow 15 1 (.u 18 0) 0 [(.u 19 0)]) (.store 237 (tT 69) (tT 68)) 0 false (bB .add 3 22 1 7 0 3 (.back 0 [lV 21 0, .row 20]))))))
def bm2:Tr:=cE .lss 3 30 29 14 0 12 0 0 (.split (.u 16 0) (dN 1 0 14 0 40 28 30 (dA 17 0 none 237 33 (.need (.prim [(W 11 0)] none) (.convert 237 236 (tT 36)) 236 false (.need (.prim [(W 18 0)] none) (.convert 237 236 (tT 38)) 236 false (cE .mul 236 37 39 19 0 20 0 236 bc2))))) bq4)
def by4:Tr:=.loop 0 [lK 0, .row 5] (cE .lss 3 22 21 7 0 6 0 0 (.split (.u 9 0) (dN 0 0 7 0 40 20 22 (dA 10 0 none 237 25 (cL 1 0 28 40 (.loop 1 [(.w (.one (.c (.k (.int .u64 0))))),lK 0, .row 8] bm2)))) (aU 208 [(.one (.c (.sr 1 8)))] [(some 1)] [71] [40] 42 true (.ret [(G1 10)]))))
def bx0:Tr:=cL 0 0 12 40 (cL 1 0 15 40 (cE .add 3 13 16 2 0 3 0 3 (.need (.make [(.int .u32 0)] 4 (.u 4 0) (.u 4 0)) (.makeSlice 40 (tT 17) (tT 17)) 40 false (cL 0 0 20 40 by4))))
theorem ah8:aM prog f162 (fun _=>none) [.v (some 1), .v (some 1)]=bx0:=by kernel_rfl
theorem aT1 {os:List Nat} {j z old n:Nat} (hj:os[j]? = some old) (hjn:j<n:=by omega):lv ((os.set j z).take n)+1000000000^j*old=lv (os.take n)+1000000000^j*z:=by
 have hlt:j<os.length:=(dR.1 hj).1
 have key:∀ (os:List Nat) (j n:Nat),os[j]? = some old→j<n→lv ((os.set j z).take n)+1000000000^j*old=lv (os.take n)+1000000000^j*z:=by
  intro os
  induction os with
  | nil=>intro j n h;simp at h
  | cons d os ih=>
    intro j n h hn;obtain ⟨m,rfl⟩:∃ m,n=m+1:=⟨n-1,by omega⟩
    cases j with
    | zero=>
      simp only [List.getElem?_cons_zero,aP] at h;subst h;simp only [List.set_cons_zero,List.take_succ_cons,lv,val];omega
    | succ j=>
      have:=ih j m (by simpa using h) (by omega);simp only [List.set_cons_succ,List.take_succ_cons,lv,val,Nat.pow_succ] at this ⊢;have h1:1000000000^j*1000000000*old=1000000000*(1000000000^j*old):=by rw [Nat.mul_right_comm,Nat.mul_comm]
      have h2:1000000000^j*1000000000*z=1000000000*(1000000000^j*z):=by rw [Nat.mul_right_comm,Nat.mul_comm]
      rw [h1,h2];omega
 exact key os j n hj hjn
theorem an5 (n:Nat):lv (List.replicate n 0)=0:=by
 induction n with
 | zero=>rfl
 | succ n ih=>rw [List.replicate_succ,lv,val];simp only [lv] at ih;rw [ih]
structure Mi (xs ys:List Nat) (i:Nat) (os:List Nat):Prop where
 le:i≤xs.length
 len:os.length=xs.length+ys.length
 dg:Dg os
 eq:lv (os.take (i+ys.length))=lv (xs.take i)*lv ys
structure TIn (xs ys:List Nat) (i x T k c:Nat) (os:List Nat):Prop where
 le:k≤ys.length
 len:os.length=xs.length+ys.length
 dg:Dg os
 c1:c<1000000000
 eq:lv (os.take (i+ys.length))+1000000000^(i+k)*c=T+x*(1000000000^i*lv (ys.take k))
theorem Mi.init (xs ys:List Nat):Mi xs ys 0 (List.replicate (xs.length+ys.length) 0):=⟨cM _,by simp,Dg.rep _,by
 rw [List.take_replicate,an5];simp [lv,val]⟩
theorem Mi.inn {xs ys os:List Nat} {i x:Nat} (h:Mi xs ys i os):TIn xs ys i x (lv (xs.take i)*lv ys) 0 0 os:=⟨cM _,h.len,h.dg,by omega,by rw [h.eq];simp [lv,val]⟩
theorem TIn.next {xs ys os:List Nat} {i x T k c y old z c':Nat} (h:TIn xs ys i x T k c os) (hi:i<xs.length) (hk:k<ys.length) (hx:x<1000000000) (hy:ys[k]? = some y) (ho:os[i+k]? = some old) (hz:z<1000000000) (hc:c'<1000000000) (he:z+1000000000*c'=c+(x*y+old)) :
  TIn xs ys i x T (k+1) c' (os.set (i+k) z):=by
 refine ⟨hk,by rw [List.length_set];exact h.len,h.dg.set hz,hc,?_⟩;have h1:=aT1 (z:=z) (n:=i+ys.length) ho;have h2:=congrArg (fun t=>1000000000^(i+k)*t) he;have h3:=h.eq;rw [eW hy];simp only [Nat.mul_add] at h2 ⊢;have e1:1000000000^(i+(k+1))*c'=1000000000^(i+k)*(1000000000*c'):=by rw [←Nat.add_assoc,Nat.pow_succ,Nat.mul_assoc]
 have e2:x*(1000000000^i*(1000000000^k*y))=1000000000^(i+k)*(x*y):=by rw [Nat.pow_add];simp only [Nat.mul_left_comm,Nat.mul_assoc]
 rw [e1,e2];omega
theorem TIn.out {xs ys os:List Nat} {i x c:Nat} (h:TIn xs ys i x (lv (xs.take i)*lv ys) ys.length c os) (hx:xs[i]? = some x):Mi xs ys (i+1) (os.set (i+ys.length) c):=by
 have hi:i<xs.length:=(dR.1 hx).1;refine ⟨hi,by rw [List.length_set];exact h.len,h.dg.set h.c1,?_⟩;have h3:=h.eq;rw [List.take_length] at h3;rw [show i+1+ys.length=i+ys.length+1 by omega,rA (by rw [h.len];omega),eW hx,h3,Nat.add_mul]
 congr 1
 rw [Nat.mul_left_comm,←Nat.mul_assoc]
theorem Mi.fin {xs ys os:List Nat} (h:Mi xs ys xs.length os):lv os=lv xs*lv ys:=by
 have:=h.eq;rw [List.take_of_length_le (by rw [h.len];omega),List.take_length] at this;exact this
set_option maxHeartbeats 1000000 in
theorem mM (a b:Nat) (hs:(dg a).length+(dg b).length<1099511627776:=by omega):aN prog 162 [mT a,mT b] (.ret [mT (a*b)]):=by
 refine dC (args:=[.v (some 1), .v (some 1)]) (ins:=[.v (mT a), .v (mT b)]) (hints:=fun _=>none) fo (by kernel_rfl) func162 ⟨rfl,rfl,trivial⟩ ?_;rw [ah8];dsimp only [List.map,In.env];apply vn (aL eC cT) rfl;apply vn (aL eC cT) rfl;apply vn (eP (c:=(((dg a).length+(dg b).length:Nat):Int)) (by rw [mH]<;>omega)) rfl;refine tC (n:=(dg a).length+(dg b).length) (m:=(dg a).length+(dg b).length) rfl rfl Lq (bA _) (by omega) (by simp [maxLen];omega) ?_;dsimp only [aC,aD];apply vn (aL eC cT) rfl;refine bJ {g:Nat×List Nat // Mi (dg a) (dg b) g.1 g.2} (fun g=>[.one (.int .i64 g.1.1), .rows (rT g.1.2)]) (fun g=>(dg a).length-g.1.1) ⟨(0,List.replicate ((dg a).length+(dg b).length) 0),Mi.init _ _⟩ aO.rfl (fun _=>rfl) ?_;rintro ⟨⟨i,os⟩,hO⟩;dsimp only [aC,aD] at hO ⊢;apply vn tB rfl;refine vs _ rfl ?_ ?_<;>intro h
 ·have hlt:i<(dg a).length:=by omega
  have hget:(dg a)[i]? = some ((dg a)[i]'hlt):=bI hlt;generalize (dg a)[i]'hlt=x at hget;have hx:=(jU a).get hget;apply vn (Iv eC (by simpa using hget)) rfl;apply vn Hk rfl;apply vn (aL eC cT) rfl;dsimp only [aC,aD];refine bJ {g:Nat×Nat×List Nat // TIn (dg a) (dg b) i x (lv ((dg a).take i)*lv (dg b)) g.1 g.2.1 g.2.2} (fun g=>[.one (.int .u64 g.1.2.1), .one (.int .i64 g.1.1), .rows (rT g.1.2.2)]) (fun g=>(dg b).length-g.1.1) ⟨(0,0,os),hO.inn⟩ aO.rfl (fun _=>rfl) ?_;rintro ⟨⟨k,c,os2⟩,hI⟩;dsimp only [aC,aD] at hI ⊢;have hc:=hI.c1;apply vn tB rfl;refine vs _ rfl ?_ ?_<;>intro h1
  ·have hlk:k<(dg b).length:=by omega
   have hgk:(dg b)[k]? = some ((dg b)[k]'hlk):=bI hlk;generalize (dg b)[k]'hlk=y at hgk;have hy:=(jU b).get hgk;have hol:i+k<os2.length:=by rw [hI.len];omega
   have hok:os2[i+k]? = some (os2[i+k]'hol):=bI hol;generalize os2[i+k]'hol=old at hok;have hold:=hI.dg.get hok;have hxy:x*y≤999999999*999999999:=Nat.mul_le_mul (by omega) (by omega);apply vn (Iv eC (by simpa using hgk)) rfl;apply vn Hk rfl;apply vn (iQ ⟨_,gQ⟩ iG (c:=(x:Int)) (by rw [qQ]<;>omega)) rfl;dsimp only [aC,aD];apply vn (iQ ⟨_,gQ⟩ iG (c:=(y:Int)) (by rw [qQ]<;>omega)) rfl;apply vn (vE (c:=((x*y:Nat):Int)) (by rw [←Int.natCast_mul,qQ]<;>omega)) rfl;apply vn (eP (c:=((i+k:Nat):Int)) (by rw [mH]<;>omega)) rfl;refine pZ (ts:=rT os2) rfl rfl (by omega) (by rw [cT];omega) ?_;refine vld (ts:=rT os2) (cells:=[aE.int .u32 (old:Int)]) (t:=.one (.int .u32 (old:Int))) rfl rfl (by omega) (nN (by rw [Int.toNat_natCast];exact hok)) (.inr rfl) rfl ?_;dsimp only [aC,aD];apply vn (iQ ⟨_,gQ⟩ iG (c:=(old:Int)) (by rw [qQ]<;>omega)) rfl;apply vn (eP (c:=((x*y+old:Nat):Int)) (by rw [qQ]<;>omega)) rfl;apply vn (eP (c:=((c+(x*y+old):Nat):Int)) (by rw [qQ]<;>omega)) rfl;dsimp only [aC,aD];generalize hs2:c+(x*y+old)=w;have hw:w<1000000000*1000000000:=by omega
   apply vn (eP (c:=((i+k:Nat):Int)) (by rw [mH]<;>omega)) rfl;apply vn (Dc (c:=((w%1000000000:Nat):Int)) (by decide) (by rw [Int.tmod_eq_emod_of_nonneg (by omega)];omega)) rfl;apply vn (iQ ⟨_,iG⟩ gQ (c:=((w%1000000000:Nat):Int)) (by rw [yN]<;>omega)) rfl;apply vn (oE (c:=((w/1000000000:Nat):Int)) (by decide) (by rw [Int.tdiv_eq_ediv_of_nonneg (by omega),qQ]<;>omega)) rfl;dsimp only [aC,aD];refine pZ (ts:=rT os2) rfl rfl (by omega) (by rw [cT];omega) ?_;refine Mj (ts:=rT os2) (us:=rT (os2.set (i+k) (w%1000000000))) rfl rfl (by omega) (nN (by rw [Int.toNat_natCast];exact hok)) jW ?_;apply vn (eP (c:=((k+1:Nat):Int)) (by rw [mH]<;>omega)) rfl;dsimp only [aC,aD];have hN:TIn (dg a) (dg b) i x (lv ((dg a).take i)*lv (dg b)) (k+1) (w/1000000000) (os2.set (i+k) (w%1000000000)):=hI.next hlt hlk hx hgk hok (by omega) (by omega) (by omega);exact aY rfl ⟨⟨(k+1,w/1000000000,os2.set (i+k) (w%1000000000)),hN⟩,aO.rfl,by show (dg b).length-(k+1)<(dg b).length-k;omega⟩
  ·have hke:k=(dg b).length:=by have:=hI.le;omega
   subst hke;have hol:i+(dg b).length<os2.length:=by rw [hI.len];omega
   have hok:os2[i+(dg b).length]? = some (os2[i+(dg b).length]'hol):=bI hol;apply vn (aL eC cT) rfl;apply vn (eP (c:=((i+(dg b).length:Nat):Int)) (by rw [mH]<;>omega)) rfl;apply vn (iQ ⟨_,iG⟩ gQ (c:=(c:Int)) (by rw [yN]<;>omega)) rfl;refine pZ (ts:=rT os2) rfl rfl (by omega) (by rw [cT];omega) ?_;refine Mj (ts:=rT os2) (us:=rT (os2.set (i+(dg b).length) c)) rfl rfl (by omega) (nN (by rw [Int.toNat_natCast];exact hok)) jW ?_;dsimp only [aC,aD];apply vn (eP (c:=((i+1:Nat):Int)) (by rw [mH]<;>omega)) rfl;dsimp only [aC,aD];exact aY rfl ⟨⟨(i+1,os2.set (i+(dg b).length) c),hI.out hget⟩,aO.rfl,by show (dg a).length-(i+1)<(dg a).length-i;omega⟩
 ·have hie:i=(dg a).length:=by have:=hO.le;omega
  subst hie;apply aA (iY os hO.dg (by rw [hO.len];omega)) rfl;dsimp only [aC,aD];refine aJ ?_;have hf:=hO.fin;rw [gO,gO] at hf;rw [hf];rfl
open Go Go.Proofs Tryz Ord
def bn7:Tr:=.ret [(W 1 0)]
def bu2:Tr:=cE .neq 3 3 4 0 0 0 0 4 bn7
theorem QW:aM prog f233 (fun _=>none) [.v none]=bu2:=by kernel_rfl
def bu4:Tr:=cE .neq 237 3 4 0 0 0 0 4 bn7
theorem Qe:aM prog f234 (fun _=>none) [.v none]=bu4:=by kernel_rfl
def br6:Tr:=.split (.u 3 0) ak2 ah4
def aw0:Tr:=.split (.u 5 0) ZQ ak2
def bu9:Tr:=aU 233 [(W 0 0)] [none] [7] [3] 4 true (aU 233 [(W 1 0)] [none] [9] [3] 4 true (.split (.u 2 0) br6 (.split (.u 3 0) ZQ (cE .lss 3 14 15 0 0 1 0 4 (.split (.u 4 0) ah4 (cE .gtr 3 17 18 0 0 1 0 4 aw0))))))
theorem Zu:aM prog f210 (fun _=>none) [.v none, .v none]=bu9:=by kernel_rfl
def bp2:Tr:=aU 234 [(W 0 0)] [none] [7] [237] 4 true (aU 234 [(W 1 0)] [none] [9] [237] 4 true (.split (.u 2 0) br6 (.split (.u 3 0) ZQ (cE .lss 237 14 15 0 0 1 0 4 (.split (.u 4 0) ah4 (cE .gtr 237 17 18 0 0 1 0 4 aw0))))))
theorem VS:aM prog f211 (fun _=>none) [.v none, .v none]=bp2:=by kernel_rfl
def aN9:Tr:=dN 1 0 9 0 40 32 33 (dA 13 0 none 237 34 (aU 211 [(W 12 0),(W 14 0)] [none] [30,35] [237,237] 3 true (bB .neq 3 37 0 15 0 4 (.split (.u 16 0) (.ret [(W 15 0)]) (bB .sub 3 24 1 9 0 3 (.back 0 [lV 8 0,lV 17 0]))))))
def bd8:Tr:=cL 0 0 19 40 (bB .sub 3 20 1 6 0 3 (.loop 0 [lK 0,lV 7 0] (bB .geq 3 22 0 9 0 4 (.split (.u 10 0) (dN 0 0 9 0 40 27 28 (dA 11 0 none 237 29 aN9)) ak2))))
def bb9:Tr:=cL 0 0 9 40 (cL 1 0 12 40 (aU 210 [(W 2 0),(W 3 0)] [none] [10,13] [3,3] 3 true (bB .neq 3 15 0 4 0 4 (.split (.u 5 0) (.ret [(W 4 0)]) bd8))))
theorem TQ:aM prog f164 (fun _=>none) [.v (some 1), .v (some 1)]=bb9:=by kernel_rfl
def aX8:Tr:=.need (.prim [(W 16 0)] none) (.convert 236 237 (tT 35)) 237 false (.need (.prim [(W 1 0)] none) (.convert 237 236 (tT 38)) 236 false (cE .rem 236 37 39 14 0 18 0 236 (.need (.idx 8 (.u 7 0)) (.indexAddr 40 (tT 30) (tT 31)) 0 false (.need (.strow 8 1 (.u 7 0) 0 [(.u 17 0)]) (.store 237 (tT 41) (tT 36)) 0 false (bB .sub 3 19 1 7 0 3 (.back 0 [lV 19 0,lV 21 0, .row 20]))))))
def bs4:Tr:=.need (.prim [(W 6 0),(.one (.c (.k (.int .u64 1000000000))))] none) (.binOp .mul 236 (tT 21) (.const (.int .u64 1000000000)) 236) 236 false (dN 0 0 7 0 40 24 25 (dA 11 0 none 237 26 (.need (.prim [(W 12 0)] none) (.convert 237 236 (tT 27)) 236 false (cE .add 236 22 28 10 0 13 0 236 (.need (.prim [(W 1 0)] none) (.convert 237 236 (tT 33)) 236 false (cE .quo 236 32 34 14 0 15 0 236 aX8))))))
def bk6:Tr:=bB .sub 3 15 1 4 0 3 (.loop 0 [(.w (.one (.c (.k (.int .u64 0))))),lV 5 0, .row 3] (bB .geq 3 17 0 7 0 4 (.split (.u 9 0) bs4 (aU 208 [(.one (.c (.sr 1 8)))] [(some 1)] [42] [40] 42 false (aU 206 [(W 6 0)] [(some 1)] [44] [236] 42 true (.ret [(G1 10),(G1 11)]))))))
def bl6:Tr:=cL 0 0 10 40 (.need (.make [(.int .u32 0)] 4 (.u 2 0) (.u 2 0)) (.makeSlice 40 (tT 11) (tT 11)) 40 false (cL 0 0 14 40 bk6))
theorem Yq:aM prog f243 (fun _=>none) [.v (some 1), .v none]=bl6:=by kernel_rfl
def bh7:Tr:=cL 0 0 4 40 (bB .eql 3 5 1 1 0 4 (.split (.u 2 0) (.need (.prim [(W 0 0),(WK 0)] none) (.indexAddr 40 (tT 9) (.const (I3 0))) 0 false (dA 3 0 none 237 10 (.need (.prim [(W 4 0),(.one (.c (.k (.int .u32 1))))] none) (.binOp .eql 237 (tT 11) (.const (.int .u32 1)) 237) 4 false (.ret [(W 5 0)])))) (.ret [(tF false)])))
theorem aD6:aM prog f221 (fun _=>none) [.v (some 1)]=bh7:=by kernel_rfl
def eO (x y:Int):Int:=if x<y then -1 else if y<x then 1 else 0
theorem CY (x:Int):aN prog 233 [.one (.int .i64 x)] (.ret [.one (.bool false)]):=by
 refine dC (args:=[.v none]) (ins:=[.v (.one (.int .i64 x))]) (hints:=fun _=>none) fo (by kernel_rfl) func233 ⟨rfl,trivial⟩ ?_;rw [QW];apply vn Oi rfl;refine aJ ?_;show [aK.one (.bool (!decide (x=x)))]=_;simp
theorem XN (x y:Int):aN prog 210 [.one (.int .i64 x), .one (.int .i64 y)] (.ret [.one (.int .i64 (eO x y))]):=by
 refine dC (args:=[.v none, .v none]) (ins:=[.v (.one (.int .i64 x)), .v (.one (.int .i64 y))]) (hints:=fun _=>none) fo (by kernel_rfl) func210 ⟨rfl,rfl,trivial⟩ ?_;rw [Zu];apply aA (CY x) rfl;apply aA (CY y) rfl;refine kG false rfl (fun h=>by cases h) (fun _=>?_);refine kG false rfl (fun h=>by cases h) (fun _=>?_);apply vn tB rfl;refine vs _ rfl ?_ ?_<;>intro h
 ·refine aJ ?_;rw [eO,if_pos h];rfl
 ·apply vn Ny rfl;refine vs _ rfl ?_ ?_<;>intro h2
  ·refine aJ ?_;rw [eO,if_neg h,if_pos h2];rfl
  ·refine aJ ?_;rw [eO,if_neg h,if_neg h2];rfl
theorem Dk (x:Int):aN prog 234 [.one (.int .u32 x)] (.ret [.one (.bool false)]):=by
 refine dC (args:=[.v none]) (ins:=[.v (.one (.int .u32 x))]) (hints:=fun _=>none) fo (by kernel_rfl) func234 ⟨rfl,trivial⟩ ?_;rw [Qe];apply vn Oi rfl;refine aJ ?_;show [aK.one (.bool (!decide (x=x)))]=_;simp
theorem WY (x y:Int):aN prog 211 [.one (.int .u32 x), .one (.int .u32 y)] (.ret [.one (.int .i64 (eO x y))]):=by
 refine dC (args:=[.v none, .v none]) (ins:=[.v (.one (.int .u32 x)), .v (.one (.int .u32 y))]) (hints:=fun _=>none) fo (by kernel_rfl) func211 ⟨rfl,rfl,trivial⟩ ?_;rw [VS];apply aA (Dk x) rfl;apply aA (Dk y) rfl;refine kG false rfl (fun h=>by cases h) (fun _=>?_);refine kG false rfl (fun h=>by cases h) (fun _=>?_);apply vn tB rfl;refine vs _ rfl ?_ ?_<;>intro h
 ·refine aJ ?_;rw [eO,if_pos h];rfl
 ·apply vn Ny rfl;refine vs _ rfl ?_ ?_<;>intro h2
  ·refine aJ ?_;rw [eO,if_neg h,if_pos h2];rfl
  ·refine aJ ?_;rw [eO,if_neg h,if_neg h2];rfl
theorem an9 (z:Int):aN prog 91 [iT z] (.ret [.one (.int .i64 z.sign)]):=by
 refine dC (args:=[.v (some 2)]) (ins:=[.v (iT z)]) (hints:=fun _=>none) fo (by kernel_rfl) func91 ⟨rfl,trivial⟩ ?_;rw [ai8];apply aA (tK z.natAbs) rfl;refine vs _ rfl ?_ ?_<;>intro h
 ·refine aJ ?_;have:z.sign=0:=by rw [Int.sign_eq_zero_iff_zero];omega
  rw [this];rfl
 ·refine vs _ rfl ?_ ?_<;>intro h2
  ·refine aJ ?_;rw [Int.sign_eq_neg_one_of_neg h2];rfl
  ·refine aJ ?_;rw [Int.sign_eq_one_of_pos (by omega)];rfl
theorem uP {xs ys:List Nat} (hx:Dg xs) (hlen:xs.length=ys.length) {i x y:Nat} (hi:xs[i]? = some x) (hj:ys[i]? = some y) (hd:xs.drop (i+1)=ys.drop (i+1)) (hxy:x<y):lv xs<lv ys:=by
 have hil:i<xs.length:=(dR.1 hi).1
 have e1:lv xs=lv (xs.take (i+1))+1000000000^(i+1)*lv (xs.drop (i+1)):=by
  conv=>lhs;rw [←List.take_append_drop (i+1) xs]
  rw [sJ,List.length_take,Nat.min_eq_left (by omega)]
 have e2:lv ys=lv (ys.take (i+1))+1000000000^(i+1)*lv (ys.drop (i+1)):=by
  conv=>lhs;rw [←List.take_append_drop (i+1) ys]
  rw [sJ,List.length_take,Nat.min_eq_left (by omega)]
 rw [e1,e2,hd,eW hi,eW hj]
 have h1:lv (xs.take i)<1000000000^i:=by
  have:=Qs (B:=1000000000) (by omega) (xs.take i) (hx.take i);rw [List.length_take,Nat.min_eq_left (by omega)] at this;exact this
 have h2:1000000000^i*(x+1)≤1000000000^i*y:=Nat.mul_le_mul_left _ hxy;rw [Nat.mul_add,Nat.mul_one] at h2;omega
theorem wJ {a b:Nat} (h:(dg a).length<(dg b).length):a<b:=by
 have hb:b≠0:=by rintro rfl;rw [show dg 0 = [] from dG _] at h;simp at h
 have h1:=kM (B:=1000000000) (by omega) a;have h2:=gC (B:=1000000000) (by omega) hb;have h3:1000000000^(dg a).length≤1000000000^((dg b).length-1):=Nat.pow_le_pow_right (by omega) (by omega);exact Nat.lt_of_lt_of_le h1 (Nat.le_trans h3 h2)
theorem sC {a b:Int} (h:a<b):eO a b = -1:=if_pos h
theorem sI {a b:Int} (h:b<a):eO a b=1:=by rw [eO,if_neg (by omega),if_pos h]
theorem AP (a:Int):eO a a=0:=by rw [eO,if_neg (by omega),if_neg (by omega)]
theorem Jq {a b:Int}:eO a b=0↔a=b:=by
 unfold eO;constructor
 ·intro h;split at h
  ·cases h
  ·split at h
   ·cases h
   ·omega
 ·rintro rfl;simp
theorem sD (a b:Nat) (hs:(dg a).length+(dg b).length<1099511627776:=by omega):aN prog 164 [mT a,mT b] (.ret [.one (.int .i64 (eO a b))]):=by
 refine dC (args:=[.v (some 1), .v (some 1)]) (ins:=[.v (mT a), .v (mT b)]) (hints:=fun _=>none) fo (by kernel_rfl) func164 ⟨rfl,rfl,trivial⟩ ?_;rw [TQ];dsimp only [List.map,In.env];apply vn (aL eC cT) rfl;apply vn (aL eC cT) rfl;apply aA (XN _ _) rfl;apply vn Oi rfl;dsimp only [aC,aD];refine kG (!decide (eO ((dg a).length:Int) ((dg b).length:Int)=0)) rfl (fun h=>?_) (fun h=>?_)
 ·refine aJ ?_;have hne:¬ eO ((dg a).length:Int) ((dg b).length:Int)=0:=by simpa using h
  have:eO ((dg a).length:Int) ((dg b).length:Int)=eO a b:=by
   rcases Nat.lt_trichotomy (dg a).length (dg b).length with hl | hl | hl
   ·rw [sC (by omega),sC (by have:=wJ hl;omega)]
   ·rw [hl] at hne;exact absurd (AP _) hne
   ·rw [sI (by omega),sI (by have:=wJ hl;omega)]
  rw [←this];rfl
 ·have he:(dg a).length=(dg b).length:=by
   have:eO ((dg a).length:Int) ((dg b).length:Int)=0:=by simpa using h
   have:=Jq.1 this;omega
  apply vn (aL eC cT) rfl;apply vn (mZ (c:=((dg a).length:Int)-1) (by rw [mH]<;>omega)) rfl;refine bJ {n:Nat // n≤(dg a).length∧(dg a).drop n=(dg b).drop n} (fun g=>[.one (.int .i64 0), .one (.int .i64 ((g.1:Int)-1))]) (fun g=>g.1) ⟨(dg a).length,bA _,by rw [List.drop_length,he,List.drop_length]⟩ aO.rfl (fun _=>rfl) ?_;rintro ⟨n,hn,hdr⟩;dsimp only [aC,aD];apply vn FC rfl;refine vs _ rfl ?_ ?_<;>intro h1
  ·have hla:n-1<(dg a).length:=by omega
   have hlb:n-1<(dg b).length:=by omega
   have hga:(dg a)[n-1]? = some ((dg a)[n-1]'hla):=bI hla;have hgb:(dg b)[n-1]? = some ((dg b)[n-1]'hlb):=bI hlb;generalize hxe:(dg a)[n-1]'hla=x at hga;generalize hye:(dg b)[n-1]'hlb=y at hgb;have htn:((n:Int)-1).toNat=n-1:=by omega
   have hdr':(dg a).drop (n-1+1)=(dg b).drop (n-1+1):=by rw [show n-1+1=n by omega];exact hdr
   apply vn (Iv eC (by rw [htn];exact hga)) rfl;apply vn Hk rfl;apply vn (Iv eC (by rw [htn];exact hgb)) rfl;dsimp only [aC,aD];apply vn Hk rfl;apply aA (WY _ _) rfl;apply vn Oi rfl;refine kG (!decide (eO (x:Int) (y:Int)=0)) rfl (fun h2=>?_) (fun h2=>?_)
   ·refine aJ ?_;have hne:¬ eO (x:Int) (y:Int)=0:=by simpa using h2
    have:eO (x:Int) (y:Int)=eO a b:=by
     rcases Nat.lt_trichotomy x y with hl | hl | hl
     ·have:=uP (jU a) he hga hgb hdr' hl;rw [gO,gO] at this;rw [sC (by omega),sC (by omega)]
     ·subst hl;exact absurd (AP _) hne
     ·have:=uP (jU b) he.symm hgb hga hdr'.symm hl;rw [gO,gO] at this;rw [sI (by omega),sI (by omega)]
    rw [←this];rfl
   ·have hxy:x=y:=by
     have:eO (x:Int) (y:Int)=0:=by simpa using h2
     have:=Jq.1 this;omega
    apply vn (mZ (c:=((n-1:Nat):Int)-1) (by rw [mH]<;>omega)) rfl;dsimp only [aC,aD];refine aY rfl ⟨⟨n-1,by omega,?_⟩,aO.rfl,by show n-1<n;omega⟩;rw [List.drop_eq_getElem_cons hla,List.drop_eq_getElem_cons hlb,hxe,hye,hxy,hdr']
  ·have hn0:n=0:=by omega
   subst hn0;refine aJ ?_;rw [List.drop_zero,List.drop_zero] at hdr;have:a=b:=by have:=congrArg lv hdr;rwa [gO,gO] at this
   subst this;exact congrArg (fun x=>[aK.one (aE.int .i64 x)]) (AP (a:Int)).symm
open Go Go.Proofs Tryz Ord
theorem Mh {xs:List Nat} {i x:Nat} (h:xs[i]? = some x):lv (xs.drop i)=x+1000000000*lv (xs.drop (i+1)):=by
 have hi:i<xs.length:=(dR.1 h).1;rw [List.drop_eq_getElem_cons hi,(dR.1 h).2];rfl
structure Kq (xs:List Nat) (d n r:Nat) (os:List Nat):Prop where
 le:n≤xs.length
 len:os.length=xs.length
 dg:Dg os
 r1:r<d
 eq:lv (os.drop n)*d+r=lv (xs.drop n)
theorem Kq.init (xs:List Nat) {d:Nat} (hd:0<d):Kq xs d xs.length 0 (List.replicate xs.length 0):=⟨bA _,by simp,Dg.rep _,hd,by simp [lv,val]⟩
theorem Kq.next {xs os:List Nat} {d n r x:Nat} (h:Kq xs d (n+1) r os) (hd:d<1000000000) (hx:xs[n]? = some x) (hx1:x<1000000000):Kq xs d n ((r*1000000000+x)%d) (os.set n ((r*1000000000+x)/d)):=by
 have hd0:0<d:=by have:=h.r1;omega
 have hq:(r*1000000000+x)/d<1000000000:=by
  rw [Nat.div_lt_iff_lt_mul hd0];have h1:=h.r1;have:(r+1)*1000000000≤d*1000000000:=Nat.mul_le_mul_right _ h1;rw [Nat.add_mul] at this;rw [Nat.mul_comm 1000000000 d];omega
 have hl:=h.le;have hlen:=h.len;refine ⟨by omega,by rw [List.length_set];exact hlen,h.dg.set hq,Nat.mod_lt _ hd0,?_⟩
 have hs:(os.set n ((r*1000000000+x)/d))[n]? = some ((r*1000000000+x)/d):=by
  rw [List.getElem?_set_self (by omega)]
 rw [Mh hs,Mh hx,List.drop_set_of_lt (by omega),←h.eq];have h1:=Nat.div_add_mod (r*1000000000+x) d;rw [Nat.mul_comm d] at h1;simp only [Nat.add_mul,Nat.mul_add,Nat.mul_assoc];omega
theorem Kq.fin {xs os:List Nat} {d r:Nat} (h:Kq xs d 0 r os):lv os=lv xs/d∧r=lv xs%d:=by
 have h1:=h.eq;rw [List.drop_zero,List.drop_zero] at h1;have h2:=h.r1;have e:lv xs=r+d*lv os:=by rw [←h1,Nat.mul_comm];omega
 constructor
 ·rw [e,Nat.add_mul_div_left _ _ (by omega),Nat.div_eq_of_lt h2,Nat.zero_add]
 ·rw [e,Nat.add_mul_mod_self_left,Nat.mod_eq_of_lt h2]
theorem MI (a d:Nat) (hd0:0<d) (hd:d<1000000000) (hs:(dg a).length<1099511627776:=by omega):aN prog 243 [mT a, .one (.int .u32 d)] (.ret [mT (a/d),mT (a%d)]):=by
 refine dC (args:=[.v (some 1), .v none]) (ins:=[.v (mT a), .v (.one (.int .u32 d))]) (hints:=fun _=>none) fo (by kernel_rfl) func243 ⟨rfl,rfl,trivial⟩ ?_;rw [Yq];dsimp only [List.map,In.env];apply vn (aL eC cT) rfl;refine tC (n:=(dg a).length) (m:=(dg a).length) rfl rfl Lq (bA _) (by omega) (by simp [maxLen];omega) ?_;apply vn (aL eC cT) rfl;apply vn (mZ (c:=((dg a).length:Int)-1) (by rw [mH]<;>omega)) rfl;dsimp only [aC,aD];refine bJ {g:Nat×Nat×List Nat // Kq (dg a) d g.1 g.2.1 g.2.2} (fun g=>[.one (.int .u64 g.1.2.1), .one (.int .i64 ((g.1.1:Int)-1)), .rows (rT g.1.2.2)]) (fun g=>g.1.1) ⟨((dg a).length,0,List.replicate (dg a).length 0),Kq.init _ hd0⟩ aO.rfl (fun _=>rfl) ?_;rintro ⟨⟨n,r,os⟩,hI⟩;dsimp only [aC,aD] at hI ⊢;have hr1:=hI.r1;have hln:=hI.le;apply vn FC rfl;refine vs _ rfl ?_ ?_<;>intro h1
 ·obtain ⟨m,rfl⟩:∃ m,n=m+1:=⟨n-1,by omega⟩
  have hlt:m<(dg a).length:=by omega
  have hget:(dg a)[m]? = some ((dg a)[m]'hlt):=bI hlt;generalize (dg a)[m]'hlt=x at hget;have hx:=(jU a).get hget;have hol:m<os.length:=by rw [hI.len];omega
  have hok:os[m]? = some (os[m]'hol):=bI hol;have htn:(((m+1:Nat):Int)-1).toNat=m:=by omega
  apply vn (vE (c:=((r*1000000000:Nat):Int)) (by rw [qQ]<;>omega)) rfl;apply vn (Iv eC (by rw [htn];exact hget)) rfl;apply vn Hk rfl;dsimp only [aC,aD];apply vn (iQ ⟨_,gQ⟩ iG (c:=(x:Int)) (by rw [qQ]<;>omega)) rfl;apply vn (eP (c:=((r*1000000000+x:Nat):Int)) (by rw [qQ]<;>omega)) rfl;dsimp only [aC,aD];have hN:=hI.next hd hget hx;have hqd:=hN.dg.get (i:=m) (d:=(r*1000000000+x)/d) (List.getElem?_set_self (by omega));have hrd:=hN.r1;generalize hw:r*1000000000+x=w at hN hqd hrd ⊢;generalize hq:w/d=q at hN hqd;generalize hm:w%d=rr at hN hrd;apply vn (iQ ⟨_,gQ⟩ iG (c:=(d:Int)) (by rw [qQ]<;>omega)) rfl;apply vn (oE (c:=(q:Int)) (by omega) (by rw [Int.tdiv_eq_ediv_of_nonneg (by omega),←Int.natCast_ediv,hq,qQ]<;>omega)) rfl;apply vn (iQ ⟨_,iG⟩ gQ (c:=(q:Int)) (by rw [yN]<;>omega)) rfl;apply vn (iQ ⟨_,gQ⟩ iG (c:=(d:Int)) (by rw [qQ]<;>omega)) rfl;dsimp only [aC,aD];apply vn (Dc (c:=(rr:Int)) (by omega) (by rw [Int.tmod_eq_emod_of_nonneg (by omega),←Int.natCast_emod,hm])) rfl;refine pZ (ts:=rT os) rfl rfl (by omega) (by rw [cT];omega) ?_;refine Mj (ts:=rT os) (us:=rT (os.set m q)) rfl rfl (by omega) (nN (by rw [htn];exact hok)) (by rw [htn];exact jW) ?_;apply vn (mZ (c:=(m:Int)-1) (by rw [mH]<;>omega)) rfl;dsimp only [aC,aD];exact aY rfl ⟨⟨(m,rr,os.set m q),hN⟩,aO.rfl,by show m<m+1;omega⟩
 ·have hn0:n=0:=by omega
  subst hn0;obtain ⟨hf1,hf2⟩:=hI.fin;rw [gO] at hf1 hf2;apply aA (iY os hI.dg (by rw [hI.len];omega)) rfl;apply aA (mQ r) rfl;dsimp only [aC,aD];refine aJ ?_;rw [hf1,←hf2];rfl
end Go.Sy
