/- Part. -/
import Derived.Test.YtpaidpkaechleaaGreatDoorFa
import Derived.Test.YtpaidpkaechleaaGreatDoorPa
set_option linter.all false
namespace Go.Sy
open Go Go.Proofs Tryz Ord
abbrev rT (ds:List Nat):List (List aL):=ds.map fun (d:Nat)=>[aL.int .u32 (d:Int)]
abbrev dg (n:Nat):List Nat:=iA 1000000000 n
abbrev lv (ds:List Nat):Nat:=val 1000000000 ds
abbrev dT (n:Nat):aL:=.slice 1 (rT (dg n))
abbrev mT (n:Nat):aE:=.agg [dT n]
def Dg (ds:List Nat):Prop:=∀ d∈ds,d<1000000000
theorem rH {n:Int} (h0:0≤n) (h:n<4294967296):IntKind.u32.wrap n=n:=by rw [IntKind.wrap_u32];omega
theorem mM {n:Int} (h0:0≤n) (h:n<18446744073709551616):IntKind.u64.wrap n=n:=by rw [IntKind.wrap_u64];omega
theorem jI {n:Int} (h0:-9223372036854775808≤n) (h:n<9223372036854775808):IntKind.i64.wrap n=n:=by rw [IntKind.wrap_i64];omega
theorem jX {ds:List Nat} {i d:Nat} (h:ds[i]? = some d):(rT ds)[i]? = some [aL.int .u32 (d:Int)]:=by
 rw [eX,h];rfl
theorem gM {ds:List Nat} {i x:Nat}:(rT ds).set i [aL.int .u32 (x:Int)]=rT (ds.set i x):=by
 rw [rT,rT,List.map_set]
theorem bL {ds:List Nat}:(rT ds).length=ds.length:=dL _
theorem oL {n:Nat}:dg n = []↔n=0:=by
 constructor
 ·intro h;by_cases hn:n=0
  ·exact hn
  ·rw [dg,dR (by omega) hn] at h;cases h
 ·rintro rfl;exact cJ _
theorem gJ (n:Nat):Dg (dg n):=sR n
theorem fC (n:Nat):lv (dg n)=n:=yF (by omega) n
theorem Dg.take {ds:List Nat} (h:Dg ds) (n:Nat):Dg (ds.take n):=fun d hd=>h d (List.mem_of_mem_take hd)
theorem Dg.set {ds:List Nat} (h:Dg ds) {i x:Nat} (hx:x<1000000000):Dg (ds.set i x):=fun d hd=>by
 rcases List.mem_or_eq_of_mem_set hd with hd | rfl
 ·exact h d hd
 ·exact hx
theorem Dg.get {ds:List Nat} (h:Dg ds) {i d:Nat} (hd:ds[i]? = some d):d<1000000000:=h d (LJ hd)
theorem Hs {ds:List Nat} {i d:Nat} (h:ds[i]? = some d):ds.take (i+1)=ds.take i ++ [d]:=by
 rw [List.take_add_one,h];rfl
theorem nS (xs ys:List Nat):lv (xs++ys)=lv xs+1000000000^xs.length*lv ys:=iZ _ _ _
theorem Xx (d:Nat):lv [d]=d:=by simp [lv,val]
theorem dQ {ds:List Nat} {i d:Nat} (h:ds[i]? = some d):lv (ds.take (i+1))=lv (ds.take i)+1000000000^i*d:=by
 have hi:i<ds.length:=(fT.1 h).1;rw [Hs h,nS,Xx,List.length_take,Nat.min_eq_left (by omega)]
theorem mR {os:List Nat} {i x:Nat} (h:i<os.length):lv ((os.set i x).take (i+1))=lv (os.take i)+1000000000^i*x:=by
 rw [dQ (d:=x) (by simp [h])];rw [List.take_set_of_le (cD i)]
theorem Iv {n:Nat}:List.replicate n ([Value.int .u32 0].map aL.exact)=rT (List.replicate n 0):=by
 rw [rT,List.map_replicate];rfl
theorem Dg.rep (n:Nat):Dg (List.replicate n 0):=fun d hd=>by
 obtain ⟨_,rfl⟩:=List.mem_replicate.1 hd;decide
abbrev dl (n:Nat):Nat:=(dg n).length
theorem FW {ds:List Nat} {T ty:TypeId} {x y:Operand} {k:IntKind} {n:Int} {d:Nat} (h:fI prog T=some (167,1,4)) (hd:ds[n.toNat]? = some d) (h0:0≤n:=by omega) :
  aO prog (.indexAddr T x y) ty [.one (.slice 1 (rT ds)), .one (.int k n)] (.one (.bI [aL.int .u32 (d:Int)])):=Kq h (jX hd) h0
theorem Fc {ty:TypeId} {x:Operand} {d:Int}:aO prog (.load 167 x) ty [.one (.bI [aL.int .u32 d])] (.one (.int .u32 d)):=oV (n:=1) lP (by decide) (by simp) (.inr rfl)
open Go Go.Proofs Tryz Ord
def ay2:Tr:=aX .sub 3 10 1 2 0 3 (JN 0 0 4 0 24 9 11 (DV 5 0 none 167 12 (.need (.prim [(W 6 0),(.one (.c (.k (.int .u32 0))))] none) (.binOp .eql 167 (tT 13) (.const (.int .u32 0)) 167) 4 false (.split (.u 7 0) (aX .sub 3 16 1 2 0 3 (.back 0 [lV 8 0])) (.need (.prim [(W 0 0),(W 2 0),(W 2 0)] none) (.slice 24 (tT 18) none (some (tT 19)) (some (tT 20))) 24 false (.ret [(G1 8)]))))))
def aw8:Tr:=kC 0 0 4 24 (.loop 0 [lV 1 0] (aX .gtr 3 6 0 2 0 4 (.split (.u 3 0) ay2 (.need (.prim [(W 0 0),(W 2 0),(W 2 0)] none) (.slice 24 (tT 18) none (some (tT 19)) (some (tT 20))) 24 false (.ret [(G1 4)])))))
theorem OV:aN prog f144 (fun _=>none) [.v none]=aw8:=by kernel_rfl
theorem fS (ds:List Nat) (hd:Dg ds) (hl:ds.length<4611686018427387904:=by omega):aD prog 144 [.one (.slice 1 (rT ds))] (.ret [mT (lv ds)]):=by
 refine bM (args:=[.v none]) (ins:=[.v (.one (.slice 1 (rT ds)))]) (hints:=fun _=>none) fo (by kernel_rfl) func144 ⟨rfl,trivial⟩ ?_;rw [OV];apply vn (cF cI bL) rfl;refine cT {n:Nat // n≤ds.length∧lv (ds.take n)=lv ds} (fun g=>[.one (.int .i64 g.1)]) (fun g=>g.1) ⟨ds.length,cD _,by rw [List.take_length]⟩ aV.rfl (fun _=>rfl) ?_;rintro ⟨n,hn,hv⟩;dsimp only
 have fin:∀ τ:Env,(n=0∨∃ d,ds[n-1]? = some d∧d≠0)→(rT ds).take n=rT (dg (lv ds)):=by
  intro τ h;rw [rT,rT,←List.map_take]
  congr 1
  rw [←hv,dg,lv,Qm (by omega) _ (hd.take n)];intro d hlast;rcases h with rfl | ⟨d',hd',hne⟩
  ·simp at hlast
  ·rw [List.getLast?_eq_getElem?,List.length_take,Nat.min_eq_left hn,List.getElem?_take] at hlast;split at hlast
   ·rw [hd'] at hlast;simp at hlast;omega
   ·cases hlast
 apply vn Kp rfl;refine vs _ rfl ?_ ?_<;>intro h
 ·have hlt:n-1<ds.length:=by omega
  have hget:ds[n-1]? = some (ds[n-1]'hlt):=fF hlt;generalize ds[n-1]'hlt=d at hget;apply vn (kQ (c:=((n-1:Nat):Int)) (by rw [jI]<;>omega)) rfl;apply vn (FW cI (by simpa using hget)) rfl;apply vn Fc rfl;apply vn SH rfl;refine vs _ rfl ?_ ?_<;>intro h2
  ·apply vn (kQ (c:=((n-1:Nat):Int)) (by rw [jI]<;>omega)) rfl;refine bF rfl ⟨⟨n-1,by omega,?_⟩,aV.rfl,?_⟩
   ·have hd0:d=0:=by omega
    subst hd0;have:=dQ hget;rw [Nat.mul_zero,show n-1+1=n by omega] at this;exact (this.symm.trans hv)
   ·show n-1<n;omega
  ·apply vn (Ae cI (by simpa using hn)) rfl;refine aK ?_;exact congrArg (fun x=>[aE.agg [aL.slice 1 x]]) (fin [] (.inr ⟨d,hget,by omega⟩))
 ·apply vn (Ae cI (by simpa using hn)) rfl;refine aK ?_;exact congrArg (fun x=>[aE.agg [aL.slice 1 x]]) (fin [] (.inl (by omega)))
open Go Go.Proofs Tryz Ord
def ac4:Tr:=.need (.prim [(W 20 0),(.one (.c (.k (.int .u32 1000000000))))] none) (.binOp .geq 167 (tT 46) (.const (.int .u32 1000000000)) 167) 4 false (.split (.u 21 0) (.need (.prim [(W 20 0),(.one (.c (.k (.int .u32 1000000000))))] none) (.binOp .sub 167 (tT 48) (.const (.int .u32 1000000000)) 167) 167 false (.need (.idx 11 (.u 10 0)) (.indexAddr 24 (tT 50) (tT 51)) 0 false (.need (.strow 11 1 (.u 10 0) 0 [(.u 22 0)]) (.store 167 (tT 53) (tT 52)) 0 false (aX .add 3 26 1 10 0 3 (.back 0 [(.w (.one (.c (.k (.int .u32 1))))),lV 24 0, .row 23]))))) (.need (.idx 11 (.u 10 0)) (.indexAddr 24 (tT 50) (tT 51)) 0 false (.need (.strow 11 1 (.u 10 0) 0 [(.u 20 0)]) (.store 167 (tT 53) (tT 52)) 0 false (aX .add 3 26 1 10 0 3 (.back 0 [(.w (.one (.c (.k (.int .u32 0))))),lV 23 0, .row 22])))))
def Wl:Tr:=DV 18 0 none 167 43 (cX .add 167 39 44 15 0 19 0 167 ac4)
def Ws:Tr:=.need (.prim [(W 15 0),(.one (.c (.k (.int .u32 1000000000))))] none) (.binOp .geq 167 (tT 46) (.const (.int .u32 1000000000)) 167) 4 false (.split (.u 18 0) (.need (.prim [(W 15 0),(.one (.c (.k (.int .u32 1000000000))))] none) (.binOp .sub 167 (tT 48) (.const (.int .u32 1000000000)) 167) 167 false (.need (.idx 11 (.u 10 0)) (.indexAddr 24 (tT 50) (tT 51)) 0 false (.need (.strow 11 1 (.u 10 0) 0 [(.u 19 0)]) (.store 167 (tT 53) (tT 52)) 0 false (aX .add 3 26 1 10 0 3 (.back 0 [(.w (.one (.c (.k (.int .u32 1))))),lV 21 0, .row 20]))))) (.need (.idx 11 (.u 10 0)) (.indexAddr 24 (tT 50) (tT 51)) 0 false (.need (.strow 11 1 (.u 10 0) 0 [(.u 15 0)]) (.store 167 (tT 53) (tT 52)) 0 false (aX .add 3 26 1 10 0 3 (.back 0 [(.w (.one (.c (.k (.int .u32 0))))),lV 20 0, .row 19])))))
def ag7:Tr:=JN 1 0 10 0 24 24 26 (DV 13 0 none 167 29 (cX .add 167 31 32 14 0 9 0 167 (kC 0 0 36 24 (cX .lss 3 34 37 10 0 16 0 4 (.split (.u 17 0) (JN 0 0 10 0 24 41 42 Wl) Ws)))))
def VW:Tr:=.need (.idx 11 (.u 13 0)) (.indexAddr 24 (tT 55) (tT 58)) 0 false (.need (.strow 11 1 (.u 13 0) 0 [(.u 9 0)]) (.store 167 (tT 60) (tT 59)) 0 false (aI 144 [(.one (.c (.sr 1 14)))] [(some 1)] [61] [24] 26 true (.ret [(G1 15)])))
def av1:Tr:=aX .add 3 20 1 5 0 3 (.need (.make [(.int .u32 0)] 4 (.u 6 0) (.u 6 0)) (.makeSlice 24 (tT 21) (tT 21)) 24 false (kC 1 0 24 24 (.loop 0 [(.w (.one (.c (.k (.int .u32 0))))),lK 0, .row 7] (cX .lss 3 26 25 10 0 8 0 0 (.split (.u 12 0) ag7 (kC 1 0 57 24 VW))))))
def ae8:Tr:=JN 0 0 10 0 24 24 26 (DV 13 0 none 167 29 (cX .add 167 31 32 14 0 9 0 167 (kC 1 0 36 24 (cX .lss 3 34 37 10 0 16 0 4 (.split (.u 17 0) (JN 1 0 10 0 24 41 42 Wl) Ws)))))
def ag1:Tr:=aX .add 3 20 1 5 0 3 (.need (.make [(.int .u32 0)] 4 (.u 6 0) (.u 6 0)) (.makeSlice 24 (tT 21) (tT 21)) 24 false (kC 0 0 24 24 (.loop 0 [(.w (.one (.c (.k (.int .u32 0))))),lK 0, .row 7] (cX .lss 3 26 25 10 0 8 0 0 (.split (.u 12 0) ae8 (kC 0 0 57 24 VW))))))
def ay0:Tr:=kC 0 0 10 24 (kC 1 0 13 24 (cX .lss 3 11 14 2 0 3 0 4 (.split (.u 4 0) (kC 1 0 19 24 av1) (kC 0 0 19 24 ag1))))
theorem XL:aN prog f137 (fun _=>none) [.v (some 1), .v (some 1)]=ay0:=by kernel_rfl
structure lG (xs ys:List Nat) (i c:Nat) (os:List Nat):Prop where
 le:i≤xs.length
 c1:c≤1
 len:os.length=xs.length+1
 dg:Dg os
 eq:lv (os.take i)+1000000000^i*c=lv (xs.take i)+lv (ys.take i)
theorem lG.init (xs ys:List Nat):lG xs ys 0 0 (List.replicate (xs.length+1) 0):=⟨fP _,by omega,by simp,Dg.rep _,by simp [lv,val]⟩
theorem lG.next {xs ys os:List Nat} {i c x y c' z:Nat} (h:lG xs ys i c os) (hi:i<xs.length) (hx:xs[i]? = some x) (hy:ys[i]?.getD 0=y) (hc:c'≤1) (hz:z<1000000000) (he:z+1000000000*c'=x+c+y):lG xs ys (i+1) c' (os.set i z):=by
 refine ⟨hi,hc,by rw [List.length_set];exact h.len,h.dg.set hz,?_⟩;rw [mR (by rw [h.len];omega),dQ hx,Nat.pow_succ]
 have hb:lv (ys.take (i+1))=lv (ys.take i)+1000000000^i*y:=by
  cases hbi:ys[i]? with
  | some d=>rw [hbi] at hy;simp only [Option.getD_some] at hy;subst hy;exact dQ hbi
  | none=>
    rw [hbi] at hy;simp only [Option.getD_none] at hy;subst hy;have:=List.getElem?_eq_none_iff.1 hbi;rw [List.take_of_length_le (by omega),List.take_of_length_le (by omega)];omega
 rw [hb];have h1:=h.eq;have h2:=congrArg (fun t=>1000000000^i*t) he;simp only [Nat.mul_add] at h2;rw [Nat.mul_assoc];omega
theorem lG.fin {xs ys os:List Nat} {c:Nat} {n:Nat} (h:lG xs ys xs.length c os) (hle:ys.length≤xs.length) (he:lv xs+lv ys=n):lv (os.set xs.length c)=n:=by
 have h1:=mR (os:=os) (i:=xs.length) (x:=c) (by rw [h.len];omega);rw [List.take_of_length_le (by rw [List.length_set,h.len];omega)] at h1;have h2:=h.eq;rw [List.take_length,List.take_of_length_le hle] at h2;omega
set_option maxHeartbeats 1000000 in
theorem Mu (a b:Nat) (hs:(dg a).length+(dg b).length<1099511627776:=by omega):aD prog 137 [mT a,mT b] (.ret [mT (a+b)]):=by
 refine bM (args:=[.v (some 1), .v (some 1)]) (ins:=[.v (mT a), .v (mT b)]) (hints:=fun _=>none) fo (by kernel_rfl) func137 ⟨rfl,rfl,trivial⟩ ?_;rw [XL];dsimp only [List.map,In.env];apply vn (cF cI bL) rfl;apply vn (cF cI bL) rfl;apply vn oA rfl;refine vs _ rfl ?_ ?_<;>intro hab
 ·skip
  apply vn (cF cI bL) rfl;dsimp only [aF,aG];apply vn (eD (c:=(((dg b).length+1:Nat):Int)) (by rw [jI]<;>omega)) rfl;refine KH (n:=(dg b).length+1) (m:=(dg b).length+1) rfl rfl Iv (cD _) (by omega) (by simp [maxLen];omega) ?_;apply vn (cF cI bL) rfl;refine cT {g:Nat×Nat×List Nat // lG (dg b) (dg a) g.1 g.2.1 g.2.2} (fun g=>[.one (.int .u32 g.1.2.1), .one (.int .i64 g.1.1), .rows (rT g.1.2.2)]) (fun g=>(dg b).length-g.1.1) ⟨(0,0,List.replicate ((dg b).length+1) 0),lG.init _ _⟩ aV.rfl (fun _=>rfl) ?_;rintro ⟨⟨i,c,os⟩,hI⟩;dsimp only [aF,aG] at hI ⊢;apply vn oA rfl;refine vs _ rfl ?_ ?_<;>intro h
  ·have hlt:i<(dg b).length:=by omega
   have hget:(dg b)[i]? = some ((dg b)[i]'hlt):=fF hlt;generalize (dg b)[i]'hlt=x at hget;have hx:=(gJ b).get hget;have hc:=hI.c1;have hol:i<os.length:=by rw [hI.len];omega
   have hog:(rT os)[((i:Int)).toNat]? = some [aL.int .u32 ((os[i]'hol:Nat):Int)]:=jX (by simp);apply vn (FW cI (by simpa using hget)) rfl;apply vn Fc rfl;apply vn (eD (c:=((x+c:Nat):Int)) (by rw [rH]<;>omega)) rfl;dsimp only [aF,aG];apply vn (cF cI bL) rfl;apply vn oA rfl;refine vs _ rfl ?_ ?_<;>intro h1
   ·have hlt1:i<(dg a).length:=by omega
    have hget1:(dg a)[i]? = some ((dg a)[i]'hlt1):=fF hlt1;generalize (dg a)[i]'hlt1=y at hget1;have hy:=(gJ a).get hget1;apply vn (FW cI (by simpa using hget1)) rfl;apply vn Fc rfl;dsimp only [aF,aG];apply vn (eD (c:=((x+c+y:Nat):Int)) (by rw [rH]<;>omega)) rfl;apply vn DA rfl;refine vs _ rfl ?_ ?_<;>intro h2
    ·apply vn (kQ (c:=((x+c+y-1000000000:Nat):Int)) (by rw [rH]<;>omega)) rfl;refine nE (ts:=rT os) rfl rfl (by omega) (by rw [bL];omega) ?_;refine kD (ts:=rT os) (us:=rT (os.set i (x+c+y-1000000000))) rfl rfl (by omega) hog gM ?_;dsimp only [aF,aG];apply vn (eD (c:=((i+1:Nat):Int)) (by rw [jI]<;>omega)) rfl;dsimp only [aF,aG];have hN:lG _ _ (i+1) 1 (os.set i (x+c+y-1000000000)):=hI.next (y:=y) hlt hget (by rw [hget1];rfl) (by omega) (by omega) (by omega);exact bF rfl ⟨⟨(i+1,1,os.set i (x+c+y-1000000000)),hN⟩,aV.rfl,by show (dg b).length-(i+1)<(dg b).length-i;omega⟩
    ·refine nE (ts:=rT os) rfl rfl (by omega) (by rw [bL];omega) ?_;refine kD (ts:=rT os) (us:=rT (os.set i (x+c+y))) rfl rfl (by omega) hog gM ?_;apply vn (eD (c:=((i+1:Nat):Int)) (by rw [jI]<;>omega)) rfl;dsimp only [aF,aG];have hN:lG _ _ (i+1) 0 (os.set i (x+c+y)):=hI.next (y:=y) hlt hget (by rw [hget1];rfl) (by omega) (by omega) (by omega);exact bF rfl ⟨⟨(i+1,0,os.set i (x+c+y)),hN⟩,aV.rfl,by show (dg b).length-(i+1)<(dg b).length-i;omega⟩
   ·have hget1:(dg a)[i]? = none:=List.getElem?_eq_none (by omega);apply vn DA rfl;refine vs _ rfl ?_ ?_<;>intro h2
    ·apply vn (kQ (c:=((x+c-1000000000:Nat):Int)) (by rw [rH]<;>omega)) rfl;refine nE (ts:=rT os) rfl rfl (by omega) (by rw [bL];omega) ?_;refine kD (ts:=rT os) (us:=rT (os.set i (x+c-1000000000))) rfl rfl (by omega) hog gM ?_;apply vn (eD (c:=((i+1:Nat):Int)) (by rw [jI]<;>omega)) rfl;dsimp only [aF,aG];have hN:lG _ _ (i+1) 1 (os.set i (x+c-1000000000)):=hI.next (y:=0) hlt hget (by rw [hget1];rfl) (by omega) (by omega) (by omega);exact bF rfl ⟨⟨(i+1,1,os.set i (x+c-1000000000)),hN⟩,aV.rfl,by show (dg b).length-(i+1)<(dg b).length-i;omega⟩
    ·refine nE (ts:=rT os) rfl rfl (by omega) (by rw [bL];omega) ?_;refine kD (ts:=rT os) (us:=rT (os.set i (x+c))) rfl rfl (by omega) hog gM ?_;apply vn (eD (c:=((i+1:Nat):Int)) (by rw [jI]<;>omega)) rfl;dsimp only [aF,aG];have hN:lG _ _ (i+1) 0 (os.set i (x+c)):=hI.next (y:=0) hlt hget (by rw [hget1];rfl) (by omega) (by omega) (by omega);exact bF rfl ⟨⟨(i+1,0,os.set i (x+c)),hN⟩,aV.rfl,by show (dg b).length-(i+1)<(dg b).length-i;omega⟩
  ·have hie:i=(dg b).length:=by have:=hI.le;omega
   subst hie;have hol:(dg b).length<os.length:=by rw [hI.len];omega
   have hog:(rT os)[(((dg b).length:Int)).toNat]? = some [aL.int .u32 ((os[(dg b).length]'hol:Nat):Int)]:=jX (by simp);apply vn (cF cI bL) rfl;refine nE (ts:=rT os) rfl rfl (by omega) (by rw [bL];omega) ?_;refine kD (ts:=rT os) (us:=rT (os.set ((dg b).length) c)) rfl rfl (by omega) hog gM ?_;apply aA (fS (os.set ((dg b).length) c) (hI.dg.set (by have:=hI.c1;omega)) (by rw [List.length_set,hI.len];omega)) rfl;dsimp only [aF,aG];refine aK ?_;rw [hI.fin (n:=a+b) (by omega) (by rw [fC,fC]<;>omega)];rfl
 ·skip
  apply vn (cF cI bL) rfl;apply vn (eD (c:=(((dg a).length+1:Nat):Int)) (by rw [jI]<;>omega)) rfl;refine KH (n:=(dg a).length+1) (m:=(dg a).length+1) rfl rfl Iv (cD _) (by omega) (by simp [maxLen];omega) ?_;apply vn (cF cI bL) rfl;dsimp only [aF,aG];refine cT {g:Nat×Nat×List Nat // lG (dg a) (dg b) g.1 g.2.1 g.2.2} (fun g=>[.one (.int .u32 g.1.2.1), .one (.int .i64 g.1.1), .rows (rT g.1.2.2)]) (fun g=>(dg a).length-g.1.1) ⟨(0,0,List.replicate ((dg a).length+1) 0),lG.init _ _⟩ aV.rfl (fun _=>rfl) ?_;rintro ⟨⟨i,c,os⟩,hI⟩;dsimp only [aF,aG] at hI ⊢;apply vn oA rfl;refine vs _ rfl ?_ ?_<;>intro h
  ·have hlt:i<(dg a).length:=by omega
   have hget:(dg a)[i]? = some ((dg a)[i]'hlt):=fF hlt;generalize (dg a)[i]'hlt=x at hget;have hx:=(gJ a).get hget;have hc:=hI.c1;have hol:i<os.length:=by rw [hI.len];omega
   have hog:(rT os)[((i:Int)).toNat]? = some [aL.int .u32 ((os[i]'hol:Nat):Int)]:=jX (by simp);apply vn (FW cI (by simpa using hget)) rfl;apply vn Fc rfl;apply vn (eD (c:=((x+c:Nat):Int)) (by rw [rH]<;>omega)) rfl;dsimp only [aF,aG];apply vn (cF cI bL) rfl;apply vn oA rfl;refine vs _ rfl ?_ ?_<;>intro h1
   ·have hlt1:i<(dg b).length:=by omega
    have hget1:(dg b)[i]? = some ((dg b)[i]'hlt1):=fF hlt1;generalize (dg b)[i]'hlt1=y at hget1;have hy:=(gJ b).get hget1;apply vn (FW cI (by simpa using hget1)) rfl;apply vn Fc rfl;dsimp only [aF,aG];apply vn (eD (c:=((x+c+y:Nat):Int)) (by rw [rH]<;>omega)) rfl;apply vn DA rfl;refine vs _ rfl ?_ ?_<;>intro h2
    ·apply vn (kQ (c:=((x+c+y-1000000000:Nat):Int)) (by rw [rH]<;>omega)) rfl;refine nE (ts:=rT os) rfl rfl (by omega) (by rw [bL];omega) ?_;refine kD (ts:=rT os) (us:=rT (os.set i (x+c+y-1000000000))) rfl rfl (by omega) hog gM ?_;dsimp only [aF,aG];apply vn (eD (c:=((i+1:Nat):Int)) (by rw [jI]<;>omega)) rfl;dsimp only [aF,aG];have hN:lG _ _ (i+1) 1 (os.set i (x+c+y-1000000000)):=hI.next (y:=y) hlt hget (by rw [hget1];rfl) (by omega) (by omega) (by omega);exact bF rfl ⟨⟨(i+1,1,os.set i (x+c+y-1000000000)),hN⟩,aV.rfl,by show (dg a).length-(i+1)<(dg a).length-i;omega⟩
    ·refine nE (ts:=rT os) rfl rfl (by omega) (by rw [bL];omega) ?_;refine kD (ts:=rT os) (us:=rT (os.set i (x+c+y))) rfl rfl (by omega) hog gM ?_;apply vn (eD (c:=((i+1:Nat):Int)) (by rw [jI]<;>omega)) rfl;dsimp only [aF,aG];have hN:lG _ _ (i+1) 0 (os.set i (x+c+y)):=hI.next (y:=y) hlt hget (by rw [hget1];rfl) (by omega) (by omega) (by omega);exact bF rfl ⟨⟨(i+1,0,os.set i (x+c+y)),hN⟩,aV.rfl,by show (dg a).length-(i+1)<(dg a).length-i;omega⟩
   ·have hget1:(dg b)[i]? = none:=List.getElem?_eq_none (by omega);apply vn DA rfl;refine vs _ rfl ?_ ?_<;>intro h2
    ·apply vn (kQ (c:=((x+c-1000000000:Nat):Int)) (by rw [rH]<;>omega)) rfl;refine nE (ts:=rT os) rfl rfl (by omega) (by rw [bL];omega) ?_;refine kD (ts:=rT os) (us:=rT (os.set i (x+c-1000000000))) rfl rfl (by omega) hog gM ?_;apply vn (eD (c:=((i+1:Nat):Int)) (by rw [jI]<;>omega)) rfl;dsimp only [aF,aG];have hN:lG _ _ (i+1) 1 (os.set i (x+c-1000000000)):=hI.next (y:=0) hlt hget (by rw [hget1];rfl) (by omega) (by omega) (by omega);exact bF rfl ⟨⟨(i+1,1,os.set i (x+c-1000000000)),hN⟩,aV.rfl,by show (dg a).length-(i+1)<(dg a).length-i;omega⟩
    ·refine nE (ts:=rT os) rfl rfl (by omega) (by rw [bL];omega) ?_;refine kD (ts:=rT os) (us:=rT (os.set i (x+c))) rfl rfl (by omega) hog gM ?_;apply vn (eD (c:=((i+1:Nat):Int)) (by rw [jI]<;>omega)) rfl;dsimp only [aF,aG];have hN:lG _ _ (i+1) 0 (os.set i (x+c)):=hI.next (y:=0) hlt hget (by rw [hget1];rfl) (by omega) (by omega) (by omega);exact bF rfl ⟨⟨(i+1,0,os.set i (x+c)),hN⟩,aV.rfl,by show (dg a).length-(i+1)<(dg a).length-i;omega⟩
  ·have hie:i=(dg a).length:=by have:=hI.le;omega
   subst hie;have hol:(dg a).length<os.length:=by rw [hI.len];omega
   have hog:(rT os)[(((dg a).length:Int)).toNat]? = some [aL.int .u32 ((os[(dg a).length]'hol:Nat):Int)]:=jX (by simp);apply vn (cF cI bL) rfl;refine nE (ts:=rT os) rfl rfl (by omega) (by rw [bL];omega) ?_;refine kD (ts:=rT os) (us:=rT (os.set ((dg a).length) c)) rfl rfl (by omega) hog gM ?_;apply aA (fS (os.set ((dg a).length) c) (hI.dg.set (by have:=hI.c1;omega)) (by rw [List.length_set,hI.len];omega)) rfl;dsimp only [aF,aG];refine aK ?_;rw [hI.fin (n:=a+b) (by omega) (by rw [fC,fC]<;>omega)];rfl
open Go Go.Proofs Tryz Ord
def au2:Tr:=kC 0 0 4 24 (aX .eql 3 5 0 1 0 4 (.ret [(W 2 0)]))
theorem Yi:aN prog f90 (fun _=>none) [.v (some 1)]=au2:=by kernel_rfl
def as2:Tr:=.split (.u 3 0) (.need (.prim [(W 1 0),(.one (.c (.k (.int .u64 1000000000))))] none) (.binOp .rem 153 (tT 9) (.const (.int .u64 1000000000)) 153) 153 false (.need (.prim [(W 4 0)] none) (.convert 153 167 (tT 10)) 167 false (.need (.lit 1 [[(.u 5 0)]]) (.buildSlice 24 1 #[(0,(tT 11))]) 24 false (.need (.app 1 4 (some 2) none (some 6)) (.call ⟨.builtin .append,#[(tT 8),(tT 12)],#[24,24]⟩) 24 false (.need (.prim [(W 1 0),(.one (.c (.k (.int .u64 1000000000))))] none) (.binOp .quo 153 (tT 6) (.const (.int .u64 1000000000)) 153) 153 false (.back 0 [lV 8 0, .row 7])))))) (.ret [(.agg [(.c (.sr 1 2))])])
def aw6:Tr:=.loop 0 [lV 0 0, .nilrow] (.need (.prim [(W 1 0),(.one (.c (.k (.int .u64 0))))] none) (.binOp .gtr 153 (tT 4) (.const (.int .u64 0)) 153) 4 false as2)
theorem VP:aN prog f122 (fun _=>none) [.v none]=aw6:=by kernel_rfl
def aw0:Tr:=.split (.u 0 0) (aI 90 [(G1 1)] [none] [8] [26] 4 false (.need (.prim [(W 2 0)] none) (.unOp .not 4 (tT 9)) 4 false (.ret [(.agg [(U 1 0),(U 3 0)])]))) (.ret [(.agg [(U 1 0),(tE (.bool false))])])
theorem Sc:aN prog f102 (fun _=>none) [.v none, .v (some 1)]=aw0:=by kernel_rfl
def UM:Tr:=.ret [(WK 0)]
def Ul:Tr:=.ret [(WK (-1))]
def Tt:Tr:=.ret [(WK 1)]
def av6:Tr:=aI 90 [(G1 0)] [none] [5] [26] 4 true (.split (.u 1 0) UM (.split (.u 0 1) Ul Tt))
theorem UG:aN prog f73 (fun _=>none) [.v (some 2)]=av6:=by kernel_rfl
theorem hC (n:Nat):aD prog 90 [mT n] (.ret [.one (.bool (decide (n=0)))]):=by
 refine bM (args:=[.v (some 1)]) (ins:=[.v (mT n)]) (hints:=fun _=>none) fo (by kernel_rfl) func90 ⟨rfl,trivial⟩ ?_;rw [Yi];apply vn (cF cI rfl) rfl;apply vn SH rfl;refine aK ?_;show [aE.one (.bool (decide (_=(0:Int))))]=_
 have h:((rT (dg n)).length:Int)=0↔n=0:=by
  rw [bL,←oL];cases dg n<;>simp;omega
 simp only [h]
theorem eT (n:Nat) (h:n<18446744073709551616:=by omega):aD prog 122 [.one (.int .u64 n)] (.ret [mT n]):=by
 refine bM (args:=[.v none]) (ins:=[.v (.one (.int .u64 n))]) (hints:=fun _=>none) fo (by kernel_rfl) func122 ⟨rfl,trivial⟩ ?_;rw [VP];have hlen:(dg n).length≤3:=gE;refine cT {p:Nat×List Nat // p.2++dg p.1=dg n∧p.1≤n} (fun g=>[.one (.int .u64 g.1.1), .rows (rT g.1.2)]) (fun g=>g.1.1) ⟨(n,[]),by simp⟩ aV.rfl (fun _=>rfl) ?_;rintro ⟨⟨k,ds⟩,hinv,hle⟩;dsimp only [List.map,In.env,aF,aG] at hinv hle ⊢;have hds:ds.length≤3:=by have:=congrArg List.length hinv;simp at this;omega
 apply vn Kp rfl;refine vs _ rfl ?_ ?_<;>intro hk
 ·apply vn (KI (c:=((k%1000000000:Nat):Int)) (by decide) (by rw [Int.tmod_eq_emod_of_nonneg (by omega)];omega)) rfl;apply vn (fD ⟨_,fL⟩ eO (c:=((k%1000000000:Nat):Int)) (rH (by omega) (by omega))) rfl;apply wU (us:=rT [k%1000000000]) rfl;refine YI (ts:=rT ds) (us:=rT [k%1000000000]) (vs:=rT (ds ++ [k%1000000000])) rfl rfl List.map_append.symm (by simp;omega) (by simp [maxLen];omega) ?_;apply vn (pX (c:=((k/1000000000:Nat):Int)) (by decide) (by rw [Int.tdiv_eq_ediv_of_nonneg (by omega),mM (by omega) (by omega)];omega)) rfl;refine bF rfl ⟨⟨(k/1000000000,ds ++ [k%1000000000]),?_,?_⟩,?_,?_⟩
  ·have:k≠0:=by omega
   rw [←hinv,dg,dg,dR (n:=k) (by omega) this];simp
  ·show k/1000000000≤n;omega
  ·exact aV.rfl
  ·show k/1000000000<k;omega
 ·have:k=0:=by omega
  subst this;refine aK ?_;have e:dg 0 = []:=cJ _;rw [e,List.append_nil] at hinv;subst hinv;rfl
abbrev iT (z:Int):aE:=.agg [dT z.natAbs, .bool (decide (z<0))]
theorem cZ (m:Bool) (n:Nat) (z:Int) (hz:z=if m then -(n:Int) else n):aD prog 102 [.one (.bool m),mT n] (.ret [iT z]):=by
 refine bM (args:=[.v none, .v (some 1)]) (ins:=[.v (.one (.bool m)), .v (mT n)]) (hints:=fun _=>none) fo (by kernel_rfl) func102 ⟨rfl,rfl,trivial⟩ ?_;rw [Sc];have ha:z.natAbs=n:=by subst hz;cases m<;>simp
 refine aQ m rfl (fun hm=>?_) (fun hm=>?_)
 ·subst hm;apply aA (hC n) rfl;apply vn oE rfl;refine aK ?_;have:(!decide (n=0))=decide (z<0):=by subst hz;simp;by_cases h:n=0<;>simp [h]<;>omega
  show [aE.agg [dT n, .bool (!decide (n=0))]]=_;rw [this,iT,ha]
 ·subst hm;refine aK ?_;have:false=decide (z<0):=by subst hz;simp
  show [aE.agg [dT n, .bool false]]=_;rw [this,iT,ha]
open Go Go.Proofs Tryz Ord
def ae3:Tr:=.need (.prim [(W 26 0),(.one (.c (.k (.int .u64 1000000000))))] none) (.binOp .rem 153 (tT 54) (.const (.int .u64 1000000000)) 153) 153 false (.need (.prim [(W 28 0)] none) (.convert 153 167 (tT 55)) 167 false (.need (.prim [(W 26 0),(.one (.c (.k (.int .u64 1000000000))))] none) (.binOp .quo 153 (tT 57) (.const (.int .u64 1000000000)) 153) 153 false (.need (.idx 15 (.u 27 0)) (.indexAddr 24 (tT 50) (tT 53)) 0 false (.need (.strow 15 1 (.u 27 0) 0 [(.u 29 0)]) (.store 167 (tT 59) (tT 56)) 0 false (aX .add 3 30 1 14 0 3 (.back 1 [lV 30 0,lV 32 0, .row 31]))))))
def ad5:Tr:=cX .add 3 42 43 7 0 14 0 3 (.need (.idx 15 (.u 22 0)) (.indexAddr 24 (tT 41) (tT 44)) 0 false (.need (.ldrow 15 (.u 22 0) 0 1 false) (.load 167 (tT 45)) 167 false (.need (.prim [(W 23 0)] none) (.convert 167 153 (tT 46)) 153 false (cX .add 153 40 47 21 0 24 0 153 (cX .add 153 35 48 13 0 25 0 153 (cX .add 3 51 52 7 0 14 0 3 ae3))))))
def ao0:Tr:=kC 1 0 64 24 (cX .add 3 62 65 7 0 17 0 3 (.need (.prim [(W 13 0)] none) (.convert 153 167 (tT 67)) 167 false (.need (.idx 15 (.u 18 0)) (.indexAddr 24 (tT 61) (tT 66)) 0 false (.need (.strow 15 1 (.u 18 0) 0 [(.u 19 0)]) (.store 167 (tT 69) (tT 68)) 0 false (aX .add 3 22 1 7 0 3 (.back 0 [lV 21 0, .row 20]))))))
def al3:Tr:=cX .lss 3 30 29 14 0 12 0 0 (.split (.u 16 0) (JN 1 0 14 0 24 28 30 (DV 17 0 none 167 33 (.need (.prim [(W 11 0)] none) (.convert 167 153 (tT 36)) 153 false (.need (.prim [(W 18 0)] none) (.convert 167 153 (tT 38)) 153 false (cX .mul 153 37 39 19 0 20 0 153 ad5))))) ao0)
def az0:Tr:=.loop 0 [lK 0, .row 5] (cX .lss 3 22 21 7 0 6 0 0 (.split (.u 9 0) (JN 0 0 7 0 24 20 22 (DV 10 0 none 167 25 (kC 1 0 28 24 (.loop 1 [(.w (.one (.c (.k (.int .u64 0))))),lK 0, .row 8] al3)))) (aI 144 [(.one (.c (.sr 1 8)))] [(some 1)] [71] [24] 26 true (.ret [(G1 10)]))))
def aw9:Tr:=kC 0 0 12 24 (kC 1 0 15 24 (cX .add 3 13 16 2 0 3 0 3 (.need (.make [(.int .u32 0)] 4 (.u 4 0) (.u 4 0)) (.makeSlice 24 (tT 17) (tT 17)) 24 false (kC 0 0 20 24 az0))))
theorem Uq:aN prog f98 (fun _=>none) [.v (some 1), .v (some 1)]=aw9:=by kernel_rfl
theorem ZG {os:List Nat} {j z old n:Nat} (hj:os[j]? = some old) (hjn:j<n:=by omega):lv ((os.set j z).take n)+1000000000^j*old=lv (os.take n)+1000000000^j*z:=by
 have hlt:j<os.length:=(fT.1 hj).1
 have key:∀ (os:List Nat) (j n:Nat),os[j]? = some old→j<n→lv ((os.set j z).take n)+1000000000^j*old=lv (os.take n)+1000000000^j*z:=by
  intro os
  induction os with
  | nil=>intro j n h;simp at h
  | cons d os ih=>
    intro j n h hn;obtain ⟨m,rfl⟩:∃ m,n=m+1:=⟨n-1,by omega⟩
    cases j with
    | zero=>
      simp only [List.getElem?_cons_zero,aJ] at h;subst h;simp only [List.set_cons_zero,List.take_succ_cons,lv,val];omega
    | succ j=>
      have:=ih j m (by simpa using h) (by omega);simp only [List.set_cons_succ,List.take_succ_cons,lv,val,Nat.pow_succ] at this ⊢;have h1:1000000000^j*1000000000*old=1000000000*(1000000000^j*old):=by rw [Nat.mul_right_comm,Nat.mul_comm]
      have h2:1000000000^j*1000000000*z=1000000000*(1000000000^j*z):=by rw [Nat.mul_right_comm,Nat.mul_comm]
      rw [h1,h2];omega
 exact key os j n hj hjn
theorem Vi (n:Nat):lv (List.replicate n 0)=0:=by
 induction n with
 | zero=>rfl
 | succ n ih=>rw [List.replicate_succ,lv,val];simp only [lv] at ih;rw [ih]
structure JB (xs ys:List Nat) (i:Nat) (os:List Nat):Prop where
 le:i≤xs.length
 len:os.length=xs.length+ys.length
 dg:Dg os
 eq:lv (os.take (i+ys.length))=lv (xs.take i)*lv ys
structure Wn (xs ys:List Nat) (i x T k c:Nat) (os:List Nat):Prop where
 le:k≤ys.length
 len:os.length=xs.length+ys.length
 dg:Dg os
 c1:c<1000000000
 eq:lv (os.take (i+ys.length))+1000000000^(i+k)*c=T+x*(1000000000^i*lv (ys.take k))
theorem JB.init (xs ys:List Nat):JB xs ys 0 (List.replicate (xs.length+ys.length) 0):=⟨fP _,by simp,Dg.rep _,by
 rw [List.take_replicate,Vi];simp [lv,val]⟩
theorem JB.inn {xs ys os:List Nat} {i x:Nat} (h:JB xs ys i os):Wn xs ys i x (lv (xs.take i)*lv ys) 0 0 os:=⟨fP _,h.len,h.dg,by omega,by rw [h.eq];simp [lv,val]⟩
theorem Wn.next {xs ys os:List Nat} {i x T k c y old z c':Nat} (h:Wn xs ys i x T k c os) (hi:i<xs.length) (hk:k<ys.length) (hx:x<1000000000) (hy:ys[k]? = some y) (ho:os[i+k]? = some old) (hz:z<1000000000) (hc:c'<1000000000) (he:z+1000000000*c'=c+(x*y+old)) :
  Wn xs ys i x T (k+1) c' (os.set (i+k) z):=by
 refine ⟨hk,by rw [List.length_set];exact h.len,h.dg.set hz,hc,?_⟩;have h1:=ZG (z:=z) (n:=i+ys.length) ho;have h2:=congrArg (fun t=>1000000000^(i+k)*t) he;have h3:=h.eq;rw [dQ hy];simp only [Nat.mul_add] at h2 ⊢;have e1:1000000000^(i+(k+1))*c'=1000000000^(i+k)*(1000000000*c'):=by rw [←Nat.add_assoc,Nat.pow_succ,Nat.mul_assoc]
 have e2:x*(1000000000^i*(1000000000^k*y))=1000000000^(i+k)*(x*y):=by rw [Nat.pow_add];simp only [Nat.mul_left_comm,Nat.mul_assoc]
 rw [e1,e2];omega
theorem Wn.out {xs ys os:List Nat} {i x c:Nat} (h:Wn xs ys i x (lv (xs.take i)*lv ys) ys.length c os) (hx:xs[i]? = some x):JB xs ys (i+1) (os.set (i+ys.length) c):=by
 have hi:i<xs.length:=(fT.1 hx).1;refine ⟨hi,by rw [List.length_set];exact h.len,h.dg.set h.c1,?_⟩;have h3:=h.eq;rw [List.take_length] at h3;rw [show i+1+ys.length=i+ys.length+1 by omega,mR (by rw [h.len];omega),dQ hx,h3,Nat.add_mul]
 congr 1
 rw [Nat.mul_left_comm,←Nat.mul_assoc]
theorem JB.fin {xs ys os:List Nat} (h:JB xs ys xs.length os):lv os=lv xs*lv ys:=by
 have:=h.eq;rw [List.take_of_length_le (by rw [h.len];omega),List.take_length] at this;exact this
set_option maxHeartbeats 1000000 in
theorem gA (a b:Nat) (hs:(dg a).length+(dg b).length<1099511627776:=by omega):aD prog 98 [mT a,mT b] (.ret [mT (a*b)]):=by
 refine bM (args:=[.v (some 1), .v (some 1)]) (ins:=[.v (mT a), .v (mT b)]) (hints:=fun _=>none) fo (by kernel_rfl) func98 ⟨rfl,rfl,trivial⟩ ?_;rw [Uq];dsimp only [List.map,In.env];apply vn (cF cI bL) rfl;apply vn (cF cI bL) rfl;apply vn (eD (c:=(((dg a).length+(dg b).length:Nat):Int)) (by rw [jI]<;>omega)) rfl;refine KH (n:=(dg a).length+(dg b).length) (m:=(dg a).length+(dg b).length) rfl rfl Iv (cD _) (by omega) (by simp [maxLen];omega) ?_;dsimp only [aF,aG];apply vn (cF cI bL) rfl;refine cT {g:Nat×List Nat // JB (dg a) (dg b) g.1 g.2} (fun g=>[.one (.int .i64 g.1.1), .rows (rT g.1.2)]) (fun g=>(dg a).length-g.1.1) ⟨(0,List.replicate ((dg a).length+(dg b).length) 0),JB.init _ _⟩ aV.rfl (fun _=>rfl) ?_;rintro ⟨⟨i,os⟩,hO⟩;dsimp only [aF,aG] at hO ⊢;apply vn oA rfl;refine vs _ rfl ?_ ?_<;>intro h
 ·have hlt:i<(dg a).length:=by omega
  have hget:(dg a)[i]? = some ((dg a)[i]'hlt):=fF hlt;generalize (dg a)[i]'hlt=x at hget;have hx:=(gJ a).get hget;apply vn (FW cI (by simpa using hget)) rfl;apply vn Fc rfl;apply vn (cF cI bL) rfl;dsimp only [aF,aG];refine cT {g:Nat×Nat×List Nat // Wn (dg a) (dg b) i x (lv ((dg a).take i)*lv (dg b)) g.1 g.2.1 g.2.2} (fun g=>[.one (.int .u64 g.1.2.1), .one (.int .i64 g.1.1), .rows (rT g.1.2.2)]) (fun g=>(dg b).length-g.1.1) ⟨(0,0,os),hO.inn⟩ aV.rfl (fun _=>rfl) ?_;rintro ⟨⟨k,c,os2⟩,hI⟩;dsimp only [aF,aG] at hI ⊢;have hc:=hI.c1;apply vn oA rfl;refine vs _ rfl ?_ ?_<;>intro h1
  ·have hlk:k<(dg b).length:=by omega
   have hgk:(dg b)[k]? = some ((dg b)[k]'hlk):=fF hlk;generalize (dg b)[k]'hlk=y at hgk;have hy:=(gJ b).get hgk;have hol:i+k<os2.length:=by rw [hI.len];omega
   have hok:os2[i+k]? = some (os2[i+k]'hol):=fF hol;generalize os2[i+k]'hol=old at hok;have hold:=hI.dg.get hok;have hxy:x*y≤999999999*999999999:=Nat.mul_le_mul (by omega) (by omega);apply vn (FW cI (by simpa using hgk)) rfl;apply vn Fc rfl;apply vn (fD ⟨_,eO⟩ fL (c:=(x:Int)) (by rw [mM]<;>omega)) rfl;dsimp only [aF,aG];apply vn (fD ⟨_,eO⟩ fL (c:=(y:Int)) (by rw [mM]<;>omega)) rfl;apply vn (GC (c:=((x*y:Nat):Int)) (by rw [←Int.natCast_mul,mM]<;>omega)) rfl;apply vn (eD (c:=((i+k:Nat):Int)) (by rw [jI]<;>omega)) rfl;refine nE (ts:=rT os2) rfl rfl (by omega) (by rw [bL];omega) ?_;refine Wg (ts:=rT os2) (cells:=[aL.int .u32 (old:Int)]) (t:=.one (.int .u32 (old:Int))) rfl rfl (by omega) (jX (by rw [Int.toNat_natCast];exact hok)) (.inr rfl) rfl ?_;dsimp only [aF,aG];apply vn (fD ⟨_,eO⟩ fL (c:=(old:Int)) (by rw [mM]<;>omega)) rfl;apply vn (eD (c:=((x*y+old:Nat):Int)) (by rw [mM]<;>omega)) rfl;apply vn (eD (c:=((c+(x*y+old):Nat):Int)) (by rw [mM]<;>omega)) rfl;dsimp only [aF,aG];generalize hs2:c+(x*y+old)=w;have hw:w<1000000000*1000000000:=by omega
   apply vn (eD (c:=((i+k:Nat):Int)) (by rw [jI]<;>omega)) rfl;apply vn (KI (c:=((w%1000000000:Nat):Int)) (by decide) (by rw [Int.tmod_eq_emod_of_nonneg (by omega)];omega)) rfl;apply vn (fD ⟨_,fL⟩ eO (c:=((w%1000000000:Nat):Int)) (by rw [rH]<;>omega)) rfl;apply vn (pX (c:=((w/1000000000:Nat):Int)) (by decide) (by rw [Int.tdiv_eq_ediv_of_nonneg (by omega),mM]<;>omega)) rfl;dsimp only [aF,aG];refine nE (ts:=rT os2) rfl rfl (by omega) (by rw [bL];omega) ?_;refine kD (ts:=rT os2) (us:=rT (os2.set (i+k) (w%1000000000))) rfl rfl (by omega) (jX (by rw [Int.toNat_natCast];exact hok)) gM ?_;apply vn (eD (c:=((k+1:Nat):Int)) (by rw [jI]<;>omega)) rfl;dsimp only [aF,aG];have hN:Wn (dg a) (dg b) i x (lv ((dg a).take i)*lv (dg b)) (k+1) (w/1000000000) (os2.set (i+k) (w%1000000000)):=hI.next hlt hlk hx hgk hok (by omega) (by omega) (by omega);exact bF rfl ⟨⟨(k+1,w/1000000000,os2.set (i+k) (w%1000000000)),hN⟩,aV.rfl,by show (dg b).length-(k+1)<(dg b).length-k;omega⟩
  ·have hke:k=(dg b).length:=by have:=hI.le;omega
   subst hke;have hol:i+(dg b).length<os2.length:=by rw [hI.len];omega
   have hok:os2[i+(dg b).length]? = some (os2[i+(dg b).length]'hol):=fF hol;apply vn (cF cI bL) rfl;apply vn (eD (c:=((i+(dg b).length:Nat):Int)) (by rw [jI]<;>omega)) rfl;apply vn (fD ⟨_,fL⟩ eO (c:=(c:Int)) (by rw [rH]<;>omega)) rfl;refine nE (ts:=rT os2) rfl rfl (by omega) (by rw [bL];omega) ?_;refine kD (ts:=rT os2) (us:=rT (os2.set (i+(dg b).length) c)) rfl rfl (by omega) (jX (by rw [Int.toNat_natCast];exact hok)) gM ?_;dsimp only [aF,aG];apply vn (eD (c:=((i+1:Nat):Int)) (by rw [jI]<;>omega)) rfl;dsimp only [aF,aG];exact bF rfl ⟨⟨(i+1,os2.set (i+(dg b).length) c),hI.out hget⟩,aV.rfl,by show (dg a).length-(i+1)<(dg a).length-i;omega⟩
 ·have hie:i=(dg a).length:=by have:=hO.le;omega
  subst hie;apply aA (fS os hO.dg (by rw [hO.len];omega)) rfl;dsimp only [aF,aG];refine aK ?_;have hf:=hO.fin;rw [fC,fC] at hf;rw [hf];rfl
open Go Go.Proofs Tryz Ord
def am3:Tr:=.ret [(W 1 0)]
def ar6:Tr:=cX .neq 3 3 4 0 0 0 0 4 am3
theorem Ml:aN prog f191 (fun _=>none) [.v none]=ar6:=by kernel_rfl
def ar8:Tr:=cX .neq 167 3 4 0 0 0 0 4 am3
theorem LA:aN prog f192 (fun _=>none) [.v none]=ar8:=by kernel_rfl
def ao5:Tr:=.split (.u 3 0) UM Ul
def Wo:Tr:=.split (.u 5 0) Tt UM
def as7:Tr:=aI 191 [(W 0 0)] [none] [7] [3] 4 true (aI 191 [(W 1 0)] [none] [9] [3] 4 true (.split (.u 2 0) ao5 (.split (.u 3 0) Tt (cX .lss 3 14 15 0 0 1 0 4 (.split (.u 4 0) Ul (cX .gtr 3 17 18 0 0 1 0 4 Wo))))))
theorem Tf:aN prog f161 (fun _=>none) [.v none, .v none]=as7:=by kernel_rfl
def an2:Tr:=aI 192 [(W 0 0)] [none] [7] [167] 4 true (aI 192 [(W 1 0)] [none] [9] [167] 4 true (.split (.u 2 0) ao5 (.split (.u 3 0) Tt (cX .lss 167 14 15 0 0 1 0 4 (.split (.u 4 0) Ul (cX .gtr 167 17 18 0 0 1 0 4 Wo))))))
theorem QE:aN prog f162 (fun _=>none) [.v none, .v none]=an2:=by kernel_rfl
def YR:Tr:=JN 1 0 9 0 24 32 33 (DV 13 0 none 167 34 (aI 162 [(W 12 0),(W 14 0)] [none] [30,35] [167,167] 3 true (aX .neq 3 37 0 15 0 4 (.split (.u 16 0) (.ret [(W 15 0)]) (aX .sub 3 24 1 9 0 3 (.back 0 [lV 8 0,lV 17 0]))))))
def ae7:Tr:=kC 0 0 19 24 (aX .sub 3 20 1 6 0 3 (.loop 0 [lK 0,lV 7 0] (aX .geq 3 22 0 9 0 4 (.split (.u 10 0) (JN 0 0 9 0 24 27 28 (DV 11 0 none 167 29 YR)) UM))))
def ad1:Tr:=kC 0 0 9 24 (kC 1 0 12 24 (aI 161 [(W 2 0),(W 3 0)] [none] [10,13] [3,3] 3 true (aX .neq 3 15 0 4 0 4 (.split (.u 5 0) (.ret [(W 4 0)]) ae7))))
theorem OS:aN prog f118 (fun _=>none) [.v (some 1), .v (some 1)]=ad1:=by kernel_rfl
def aa6:Tr:=.need (.prim [(W 16 0)] none) (.convert 153 167 (tT 35)) 167 false (.need (.prim [(W 1 0)] none) (.convert 167 153 (tT 38)) 153 false (cX .rem 153 37 39 14 0 18 0 153 (.need (.idx 8 (.u 7 0)) (.indexAddr 24 (tT 30) (tT 31)) 0 false (.need (.strow 8 1 (.u 7 0) 0 [(.u 17 0)]) (.store 167 (tT 41) (tT 36)) 0 false (aX .sub 3 19 1 7 0 3 (.back 0 [lV 19 0,lV 21 0, .row 20]))))))
def ap0:Tr:=.need (.prim [(W 6 0),(.one (.c (.k (.int .u64 1000000000))))] none) (.binOp .mul 153 (tT 21) (.const (.int .u64 1000000000)) 153) 153 false (JN 0 0 7 0 24 24 25 (DV 11 0 none 167 26 (.need (.prim [(W 12 0)] none) (.convert 167 153 (tT 27)) 153 false (cX .add 153 22 28 10 0 13 0 153 (.need (.prim [(W 1 0)] none) (.convert 167 153 (tT 33)) 153 false (cX .quo 153 32 34 14 0 15 0 153 aa6))))))
def aj8:Tr:=aX .sub 3 15 1 4 0 3 (.loop 0 [(.w (.one (.c (.k (.int .u64 0))))),lV 5 0, .row 3] (aX .geq 3 17 0 7 0 4 (.split (.u 9 0) ap0 (aI 144 [(.one (.c (.sr 1 8)))] [(some 1)] [42] [24] 26 false (aI 122 [(W 6 0)] [(some 1)] [44] [153] 26 true (.ret [(G1 10),(G1 11)]))))))
def al0:Tr:=kC 0 0 10 24 (.need (.make [(.int .u32 0)] 4 (.u 2 0) (.u 2 0)) (.makeSlice 24 (tT 11) (tT 11)) 24 false (kC 0 0 14 24 aj8))
theorem Sp:aN prog f182 (fun _=>none) [.v (some 1), .v none]=al0:=by kernel_rfl
def ai0:Tr:=kC 0 0 4 24 (aX .eql 3 5 1 1 0 4 (.split (.u 2 0) (.need (.prim [(W 0 0),(WK 0)] none) (.indexAddr 24 (tT 9) (.const (I3 0))) 0 false (DV 3 0 none 167 10 (.need (.prim [(W 4 0),(.one (.c (.k (.int .u32 1))))] none) (.binOp .eql 167 (tT 11) (.const (.int .u32 1)) 167) 4 false (.ret [(W 5 0)])))) (.ret [(tF false)])))
theorem Xn:aN prog f142 (fun _=>none) [.v (some 1)]=ai0:=by kernel_rfl
def eE (x y:Int):Int:=if x<y then -1 else if y<x then 1 else 0
theorem zC (x:Int):aD prog 191 [.one (.int .i64 x)] (.ret [.one (.bool false)]):=by
 refine bM (args:=[.v none]) (ins:=[.v (.one (.int .i64 x))]) (hints:=fun _=>none) fo (by kernel_rfl) func191 ⟨rfl,trivial⟩ ?_;rw [Ml];apply vn KD rfl;refine aK ?_;show [aE.one (.bool (!decide (x=x)))]=_;simp
theorem RW (x y:Int):aD prog 161 [.one (.int .i64 x), .one (.int .i64 y)] (.ret [.one (.int .i64 (eE x y))]):=by
 refine bM (args:=[.v none, .v none]) (ins:=[.v (.one (.int .i64 x)), .v (.one (.int .i64 y))]) (hints:=fun _=>none) fo (by kernel_rfl) func161 ⟨rfl,rfl,trivial⟩ ?_;rw [Tf];apply aA (zC x) rfl;apply aA (zC y) rfl;refine aQ false rfl (fun h=>by cases h) (fun _=>?_);refine aQ false rfl (fun h=>by cases h) (fun _=>?_);apply vn oA rfl;refine vs _ rfl ?_ ?_<;>intro h
 ·refine aK ?_;rw [eE,if_pos h];rfl
 ·apply vn Kp rfl;refine vs _ rfl ?_ ?_<;>intro h2
  ·refine aK ?_;rw [eE,if_neg h,if_pos h2];rfl
  ·refine aK ?_;rw [eE,if_neg h,if_neg h2];rfl
theorem zV (x:Int):aD prog 192 [.one (.int .u32 x)] (.ret [.one (.bool false)]):=by
 refine bM (args:=[.v none]) (ins:=[.v (.one (.int .u32 x))]) (hints:=fun _=>none) fo (by kernel_rfl) func192 ⟨rfl,trivial⟩ ?_;rw [LA];apply vn KD rfl;refine aK ?_;show [aE.one (.bool (!decide (x=x)))]=_;simp
theorem Ro (x y:Int):aD prog 162 [.one (.int .u32 x), .one (.int .u32 y)] (.ret [.one (.int .i64 (eE x y))]):=by
 refine bM (args:=[.v none, .v none]) (ins:=[.v (.one (.int .u32 x)), .v (.one (.int .u32 y))]) (hints:=fun _=>none) fo (by kernel_rfl) func162 ⟨rfl,rfl,trivial⟩ ?_;rw [QE];apply aA (zV x) rfl;apply aA (zV y) rfl;refine aQ false rfl (fun h=>by cases h) (fun _=>?_);refine aQ false rfl (fun h=>by cases h) (fun _=>?_);apply vn oA rfl;refine vs _ rfl ?_ ?_<;>intro h
 ·refine aK ?_;rw [eE,if_pos h];rfl
 ·apply vn Kp rfl;refine vs _ rfl ?_ ?_<;>intro h2
  ·refine aK ?_;rw [eE,if_neg h,if_pos h2];rfl
  ·refine aK ?_;rw [eE,if_neg h,if_neg h2];rfl
theorem Ji (z:Int):aD prog 73 [iT z] (.ret [.one (.int .i64 z.sign)]):=by
 refine bM (args:=[.v (some 2)]) (ins:=[.v (iT z)]) (hints:=fun _=>none) fo (by kernel_rfl) func73 ⟨rfl,trivial⟩ ?_;rw [UG];apply aA (hC z.natAbs) rfl;refine vs _ rfl ?_ ?_<;>intro h
 ·refine aK ?_;have:z.sign=0:=by rw [Int.sign_eq_zero_iff_zero];omega
  rw [this];rfl
 ·refine vs _ rfl ?_ ?_<;>intro h2
  ·refine aK ?_;rw [Int.sign_eq_neg_one_of_neg h2];rfl
  ·refine aK ?_;rw [Int.sign_eq_one_of_pos (by omega)];rfl
theorem pA {xs ys:List Nat} (hx:Dg xs) (hlen:xs.length=ys.length) {i x y:Nat} (hi:xs[i]? = some x) (hj:ys[i]? = some y) (hd:xs.drop (i+1)=ys.drop (i+1)) (hxy:x<y):lv xs<lv ys:=by
 have hil:i<xs.length:=(fT.1 hi).1
 have e1:lv xs=lv (xs.take (i+1))+1000000000^(i+1)*lv (xs.drop (i+1)):=by
  conv=>lhs;rw [←List.take_append_drop (i+1) xs]
  rw [nS,List.length_take,Nat.min_eq_left (by omega)]
 have e2:lv ys=lv (ys.take (i+1))+1000000000^(i+1)*lv (ys.drop (i+1)):=by
  conv=>lhs;rw [←List.take_append_drop (i+1) ys]
  rw [nS,List.length_take,Nat.min_eq_left (by omega)]
 rw [e1,e2,hd,dQ hi,dQ hj]
 have h1:lv (xs.take i)<1000000000^i:=by
  have:=LI (B:=1000000000) (by omega) (xs.take i) (hx.take i);rw [List.length_take,Nat.min_eq_left (by omega)] at this;exact this
 have h2:1000000000^i*(x+1)≤1000000000^i*y:=Nat.mul_le_mul_left _ hxy;rw [Nat.mul_add,Nat.mul_one] at h2;omega
theorem pY {a b:Nat} (h:(dg a).length<(dg b).length):a<b:=by
 have hb:b≠0:=by rintro rfl;rw [show dg 0 = [] from cJ _] at h;simp at h
 have h1:=mY (B:=1000000000) (by omega) a;have h2:=gI (B:=1000000000) (by omega) hb;have h3:1000000000^(dg a).length≤1000000000^((dg b).length-1):=Nat.pow_le_pow_right (by omega) (by omega);exact Nat.lt_of_lt_of_le h1 (Nat.le_trans h3 h2)
theorem sP {a b:Int} (h:a<b):eE a b = -1:=if_pos h
theorem tA {a b:Int} (h:b<a):eE a b=1:=by rw [eE,if_neg (by omega),if_pos h]
theorem Iq (a:Int):eE a a=0:=by rw [eE,if_neg (by omega),if_neg (by omega)]
theorem Gy {a b:Int}:eE a b=0↔a=b:=by
 unfold eE;constructor
 ·intro h;split at h
  ·cases h
  ·split at h
   ·cases h
   ·omega
 ·rintro rfl;simp
theorem nK (a b:Nat) (hs:(dg a).length+(dg b).length<1099511627776:=by omega):aD prog 118 [mT a,mT b] (.ret [.one (.int .i64 (eE a b))]):=by
 refine bM (args:=[.v (some 1), .v (some 1)]) (ins:=[.v (mT a), .v (mT b)]) (hints:=fun _=>none) fo (by kernel_rfl) func118 ⟨rfl,rfl,trivial⟩ ?_;rw [OS];dsimp only [List.map,In.env];apply vn (cF cI bL) rfl;apply vn (cF cI bL) rfl;apply aA (RW _ _) rfl;apply vn KD rfl;dsimp only [aF,aG];refine aQ (!decide (eE ((dg a).length:Int) ((dg b).length:Int)=0)) rfl (fun h=>?_) (fun h=>?_)
 ·refine aK ?_;have hne:¬ eE ((dg a).length:Int) ((dg b).length:Int)=0:=by simpa using h
  have:eE ((dg a).length:Int) ((dg b).length:Int)=eE a b:=by
   rcases Nat.lt_trichotomy (dg a).length (dg b).length with hl | hl | hl
   ·rw [sP (by omega),sP (by have:=pY hl;omega)]
   ·rw [hl] at hne;exact absurd (Iq _) hne
   ·rw [tA (by omega),tA (by have:=pY hl;omega)]
  rw [←this];rfl
 ·have he:(dg a).length=(dg b).length:=by
   have:eE ((dg a).length:Int) ((dg b).length:Int)=0:=by simpa using h
   have:=Gy.1 this;omega
  apply vn (cF cI bL) rfl;apply vn (kQ (c:=((dg a).length:Int)-1) (by rw [jI]<;>omega)) rfl;refine cT {n:Nat // n≤(dg a).length∧(dg a).drop n=(dg b).drop n} (fun g=>[.one (.int .i64 0), .one (.int .i64 ((g.1:Int)-1))]) (fun g=>g.1) ⟨(dg a).length,cD _,by rw [List.drop_length,he,List.drop_length]⟩ aV.rfl (fun _=>rfl) ?_;rintro ⟨n,hn,hdr⟩;dsimp only [aF,aG];apply vn DA rfl;refine vs _ rfl ?_ ?_<;>intro h1
  ·have hla:n-1<(dg a).length:=by omega
   have hlb:n-1<(dg b).length:=by omega
   have hga:(dg a)[n-1]? = some ((dg a)[n-1]'hla):=fF hla;have hgb:(dg b)[n-1]? = some ((dg b)[n-1]'hlb):=fF hlb;generalize hxe:(dg a)[n-1]'hla=x at hga;generalize hye:(dg b)[n-1]'hlb=y at hgb;have htn:((n:Int)-1).toNat=n-1:=by omega
   have hdr':(dg a).drop (n-1+1)=(dg b).drop (n-1+1):=by rw [show n-1+1=n by omega];exact hdr
   apply vn (FW cI (by rw [htn];exact hga)) rfl;apply vn Fc rfl;apply vn (FW cI (by rw [htn];exact hgb)) rfl;dsimp only [aF,aG];apply vn Fc rfl;apply aA (Ro _ _) rfl;apply vn KD rfl;refine aQ (!decide (eE (x:Int) (y:Int)=0)) rfl (fun h2=>?_) (fun h2=>?_)
   ·refine aK ?_;have hne:¬ eE (x:Int) (y:Int)=0:=by simpa using h2
    have:eE (x:Int) (y:Int)=eE a b:=by
     rcases Nat.lt_trichotomy x y with hl | hl | hl
     ·have:=pA (gJ a) he hga hgb hdr' hl;rw [fC,fC] at this;rw [sP (by omega),sP (by omega)]
     ·subst hl;exact absurd (Iq _) hne
     ·have:=pA (gJ b) he.symm hgb hga hdr'.symm hl;rw [fC,fC] at this;rw [tA (by omega),tA (by omega)]
    rw [←this];rfl
   ·have hxy:x=y:=by
     have:eE (x:Int) (y:Int)=0:=by simpa using h2
     have:=Gy.1 this;omega
    apply vn (kQ (c:=((n-1:Nat):Int)-1) (by rw [jI]<;>omega)) rfl;dsimp only [aF,aG];refine bF rfl ⟨⟨n-1,by omega,?_⟩,aV.rfl,by show n-1<n;omega⟩;rw [List.drop_eq_getElem_cons hla,List.drop_eq_getElem_cons hlb,hxe,hye,hxy,hdr']
  ·have hn0:n=0:=by omega
   subst hn0;refine aK ?_;rw [List.drop_zero,List.drop_zero] at hdr;have:a=b:=by have:=congrArg lv hdr;rwa [fC,fC] at this
   subst this;exact congrArg (fun x=>[aE.one (aL.int .i64 x)]) (Iq (a:Int)).symm
open Go Go.Proofs Tryz Ord
theorem JA {xs:List Nat} {i x:Nat} (h:xs[i]? = some x):lv (xs.drop i)=x+1000000000*lv (xs.drop (i+1)):=by
 have hi:i<xs.length:=(fT.1 h).1;rw [List.drop_eq_getElem_cons hi,(fT.1 h).2];rfl
structure Hn (xs:List Nat) (d n r:Nat) (os:List Nat):Prop where
 le:n≤xs.length
 len:os.length=xs.length
 dg:Dg os
 r1:r<d
 eq:lv (os.drop n)*d+r=lv (xs.drop n)
theorem Hn.init (xs:List Nat) {d:Nat} (hd:0<d):Hn xs d xs.length 0 (List.replicate xs.length 0):=⟨cD _,by simp,Dg.rep _,hd,by simp [lv,val]⟩
theorem Hn.next {xs os:List Nat} {d n r x:Nat} (h:Hn xs d (n+1) r os) (hd:d<1000000000) (hx:xs[n]? = some x) (hx1:x<1000000000):Hn xs d n ((r*1000000000+x)%d) (os.set n ((r*1000000000+x)/d)):=by
 have hd0:0<d:=by have:=h.r1;omega
 have hq:(r*1000000000+x)/d<1000000000:=by
  rw [Nat.div_lt_iff_lt_mul hd0];have h1:=h.r1;have:(r+1)*1000000000≤d*1000000000:=Nat.mul_le_mul_right _ h1;rw [Nat.add_mul] at this;rw [Nat.mul_comm 1000000000 d];omega
 have hl:=h.le;have hlen:=h.len;refine ⟨by omega,by rw [List.length_set];exact hlen,h.dg.set hq,Nat.mod_lt _ hd0,?_⟩
 have hs:(os.set n ((r*1000000000+x)/d))[n]? = some ((r*1000000000+x)/d):=by
  rw [List.getElem?_set_self (by omega)]
 rw [JA hs,JA hx,List.drop_set_of_lt (by omega),←h.eq];have h1:=Nat.div_add_mod (r*1000000000+x) d;rw [Nat.mul_comm d] at h1;simp only [Nat.add_mul,Nat.mul_add,Nat.mul_assoc];omega
theorem Hn.fin {xs os:List Nat} {d r:Nat} (h:Hn xs d 0 r os):lv os=lv xs/d∧r=lv xs%d:=by
 have h1:=h.eq;rw [List.drop_zero,List.drop_zero] at h1;have h2:=h.r1;have e:lv xs=r+d*lv os:=by rw [←h1,Nat.mul_comm];omega
 constructor
 ·rw [e,Nat.add_mul_div_left _ _ (by omega),Nat.div_eq_of_lt h2,Nat.zero_add]
 ·rw [e,Nat.add_mul_mod_self_left,Nat.mod_eq_of_lt h2]
theorem JR (a d:Nat) (hd0:0<d) (hd:d<1000000000) (hs:(dg a).length<1099511627776:=by omega):aD prog 182 [mT a, .one (.int .u32 d)] (.ret [mT (a/d),mT (a%d)]):=by
 refine bM (args:=[.v (some 1), .v none]) (ins:=[.v (mT a), .v (.one (.int .u32 d))]) (hints:=fun _=>none) fo (by kernel_rfl) func182 ⟨rfl,rfl,trivial⟩ ?_;rw [Sp];dsimp only [List.map,In.env];apply vn (cF cI bL) rfl;refine KH (n:=(dg a).length) (m:=(dg a).length) rfl rfl Iv (cD _) (by omega) (by simp [maxLen];omega) ?_;apply vn (cF cI bL) rfl;apply vn (kQ (c:=((dg a).length:Int)-1) (by rw [jI]<;>omega)) rfl;dsimp only [aF,aG];refine cT {g:Nat×Nat×List Nat // Hn (dg a) d g.1 g.2.1 g.2.2} (fun g=>[.one (.int .u64 g.1.2.1), .one (.int .i64 ((g.1.1:Int)-1)), .rows (rT g.1.2.2)]) (fun g=>g.1.1) ⟨((dg a).length,0,List.replicate (dg a).length 0),Hn.init _ hd0⟩ aV.rfl (fun _=>rfl) ?_;rintro ⟨⟨n,r,os⟩,hI⟩;dsimp only [aF,aG] at hI ⊢;have hr1:=hI.r1;have hln:=hI.le;apply vn DA rfl;refine vs _ rfl ?_ ?_<;>intro h1
 ·obtain ⟨m,rfl⟩:∃ m,n=m+1:=⟨n-1,by omega⟩
  have hlt:m<(dg a).length:=by omega
  have hget:(dg a)[m]? = some ((dg a)[m]'hlt):=fF hlt;generalize (dg a)[m]'hlt=x at hget;have hx:=(gJ a).get hget;have hol:m<os.length:=by rw [hI.len];omega
  have hok:os[m]? = some (os[m]'hol):=fF hol;have htn:(((m+1:Nat):Int)-1).toNat=m:=by omega
  apply vn (GC (c:=((r*1000000000:Nat):Int)) (by rw [mM]<;>omega)) rfl;apply vn (FW cI (by rw [htn];exact hget)) rfl;apply vn Fc rfl;dsimp only [aF,aG];apply vn (fD ⟨_,eO⟩ fL (c:=(x:Int)) (by rw [mM]<;>omega)) rfl;apply vn (eD (c:=((r*1000000000+x:Nat):Int)) (by rw [mM]<;>omega)) rfl;dsimp only [aF,aG];have hN:=hI.next hd hget hx;have hqd:=hN.dg.get (i:=m) (d:=(r*1000000000+x)/d) (List.getElem?_set_self (by omega));have hrd:=hN.r1;generalize hw:r*1000000000+x=w at hN hqd hrd ⊢;generalize hq:w/d=q at hN hqd;generalize hm:w%d=rr at hN hrd;apply vn (fD ⟨_,eO⟩ fL (c:=(d:Int)) (by rw [mM]<;>omega)) rfl;apply vn (pX (c:=(q:Int)) (by omega) (by rw [Int.tdiv_eq_ediv_of_nonneg (by omega),←Int.natCast_ediv,hq,mM]<;>omega)) rfl;apply vn (fD ⟨_,fL⟩ eO (c:=(q:Int)) (by rw [rH]<;>omega)) rfl;apply vn (fD ⟨_,eO⟩ fL (c:=(d:Int)) (by rw [mM]<;>omega)) rfl;dsimp only [aF,aG];apply vn (KI (c:=(rr:Int)) (by omega) (by rw [Int.tmod_eq_emod_of_nonneg (by omega),←Int.natCast_emod,hm])) rfl;refine nE (ts:=rT os) rfl rfl (by omega) (by rw [bL];omega) ?_;refine kD (ts:=rT os) (us:=rT (os.set m q)) rfl rfl (by omega) (jX (by rw [htn];exact hok)) (by rw [htn];exact gM) ?_;apply vn (kQ (c:=(m:Int)-1) (by rw [jI]<;>omega)) rfl;dsimp only [aF,aG];exact bF rfl ⟨⟨(m,rr,os.set m q),hN⟩,aV.rfl,by show m<m+1;omega⟩
 ·have hn0:n=0:=by omega
  subst hn0;obtain ⟨hf1,rU⟩:=hI.fin;rw [fC] at hf1 rU;apply aA (fS os hI.dg (by rw [hI.len];omega)) rfl;apply aA (eT r) rfl;dsimp only [aF,aG];refine aK ?_;rw [hf1,←rU];rfl
end Go.Sy
