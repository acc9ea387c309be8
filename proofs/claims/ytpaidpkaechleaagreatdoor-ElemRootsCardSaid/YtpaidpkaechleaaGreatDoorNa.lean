/- Part. -/
import Derived.Test.YtpaidpkaechleaaGreatDoorFa
import Derived.Test.YtpaidpkaechleaaGreatDoorPa
set_option linter.all false
namespace Go.Sy
open Go Go.Proofs Tryz Ord
abbrev rT (ds:List Nat):List (List aL):=ds.map fun (d:Nat)=>[aL.int .u32 (d:Int)]
abbrev dg (n:Nat):List Nat:=gQ 1000000000 n
abbrev lv (ds:List Nat):Nat:=val 1000000000 ds
abbrev dT (n:Nat):aL:=.slice 1 (rT (dg n))
abbrev mT (n:Nat):aD:=.agg [dT n]
def Dg (ds:List Nat):Prop:=∀ d∈ds,d<1000000000
theorem sM {n:Int} (h0:0≤n) (h:n<4294967296):IntKind.u32.wrap n=n:=by rw [IntKind.wrap_u32];omega
theorem mP {n:Int} (h0:0≤n) (h:n<18446744073709551616):IntKind.u64.wrap n=n:=by rw [IntKind.wrap_u64];omega
theorem jN {n:Int} (h0:-9223372036854775808≤n) (h:n<9223372036854775808):IntKind.i64.wrap n=n:=by rw [IntKind.wrap_i64];omega
theorem kH {ds:List Nat} {i d:Nat} (h:ds[i]? = some d):(rT ds)[i]? = some [aL.int .u32 (d:Int)]:=by
 rw [fE,h];rfl
theorem gP {ds:List Nat} {i x:Nat}:(rT ds).set i [aL.int .u32 (x:Int)]=rT (ds.set i x):=by
 rw [rT,rT,List.map_set]
theorem bI {ds:List Nat}:(rT ds).length=ds.length:=bF _
theorem rL {n:Nat}:dg n = []↔n=0:=by
 constructor
 ·intro h;by_cases hn:n=0
  ·exact hn
  ·rw [dg,dE (by omega) hn] at h;cases h
 ·rintro rfl;exact bU _
theorem gN (n:Nat):Dg (dg n):=uC n
theorem fC (n:Nat):lv (dg n)=n:=qE (by omega) n
theorem Dg.take {ds:List Nat} (h:Dg ds) (n:Nat):Dg (ds.take n):=fun d hd=>h d (List.mem_of_mem_take hd)
theorem Dg.set {ds:List Nat} (h:Dg ds) {i x:Nat} (hx:x<1000000000):Dg (ds.set i x):=fun d hd=>by
 rcases List.mem_or_eq_of_mem_set hd with hd | rfl
 ·exact h d hd
 ·exact hx
theorem Dg.get {ds:List Nat} (h:Dg ds) {i d:Nat} (hd:ds[i]? = some d):d<1000000000:=h d (EI hd)
theorem Ap {ds:List Nat} {i d:Nat} (h:ds[i]? = some d):ds.take (i+1)=ds.take i ++ [d]:=by
 rw [List.take_add_one,h];rfl
theorem nZ (xs ys:List Nat):lv (xs++ys)=lv xs+1000000000^xs.length*lv ys:=fX _ _ _
theorem Rv (d:Nat):lv [d]=d:=by simp [lv,val]
theorem dS {ds:List Nat} {i d:Nat} (h:ds[i]? = some d):lv (ds.take (i+1))=lv (ds.take i)+1000000000^i*d:=by
 have hi:i<ds.length:=(fJ.1 h).1;rw [Ap h,nZ,Rv,List.length_take,Nat.min_eq_left (by omega)]
theorem mW {os:List Nat} {i x:Nat} (h:i<os.length):lv ((os.set i x).take (i+1))=lv (os.take i)+1000000000^i*x:=by
 rw [dS (d:=x) (by simp [h])];rw [List.take_set_of_le (bQ i)]
theorem Bb {n:Nat}:List.replicate n ([Value.int .u32 0].map aL.exact)=rT (List.replicate n 0):=by
 rw [rT,List.map_replicate];rfl
theorem Dg.rep (n:Nat):Dg (List.replicate n 0):=fun d hd=>by
 obtain ⟨_,rfl⟩:=List.mem_replicate.1 hd;decide
abbrev dl (n:Nat):Nat:=(dg n).length
theorem yV {ds:List Nat} {T ty:TypeId} {x y:Operand} {k:IntKind} {n:Int} {d:Nat} (h:eS prog T=some (167,1,4)) (hd:ds[n.toNat]? = some d) (h0:0≤n:=by omega) :
  aP prog (.indexAddr T x y) ty [.one (.slice 1 (rT ds)), .one (.int k n)] (.one (.dK [aL.int .u32 (d:Int)])):=Gb h (kH hd) h0
theorem yM {ty:TypeId} {x:Operand} {d:Int}:aP prog (.load 167 x) ty [.one (.dK [aL.int .u32 d])] (.one (.int .u32 d)):=xR (n:=1) mL (by decide) (by simp) (.inr rfl)
open Go Go.Proofs Tryz Ord
def ZO:Tr:=aN .sub 3 10 1 2 0 3 (sF 0 0 4 0 24 9 11 (oO 5 0 none 167 12 (.need (.prim [(W 6 0),(.one (.c (.k (.int .u32 0))))] none) (.binOp .eql 167 (tT 13) (.const (.int .u32 0)) 167) 4 false (.split (.u 7 0) (aN .sub 3 16 1 2 0 3 (.back 0 [lV 8 0])) (.need (.prim [(W 0 0),(W 2 0),(W 2 0)] none) (.slice 24 (tT 18) none (some (tT 19)) (some (tT 20))) 24 false (.ret [(G1 8)]))))))
def ZA:Tr:=eU 0 0 4 24 (.loop 0 [lV 1 0] (aN .gtr 3 6 0 2 0 4 (.split (.u 3 0) ZO (.need (.prim [(W 0 0),(W 2 0),(W 2 0)] none) (.slice 24 (tT 18) none (some (tT 19)) (some (tT 20))) 24 false (.ret [(G1 4)])))))
theorem HB:aI prog f144 (fun _=>none) [.v none]=ZA:=by kernel_rfl
theorem gB (ds:List Nat) (hd:Dg ds) (hl:ds.length<4611686018427387904:=by omega):aJ prog 144 [.one (.slice 1 (rT ds))] (.ret [mT (lv ds)]):=by
 refine bP (args:=[.v none]) (ins:=[.v (.one (.slice 1 (rT ds)))]) (hints:=fun _=>none) fo (by kernel_rfl) func144 ⟨rfl,trivial⟩ ?_;rw [HB];apply vn (bB cF bI) rfl;refine bE {n:Nat // n≤ds.length∧lv (ds.take n)=lv ds} (fun g=>[.one (.int .i64 g.1)]) (fun g=>g.1) ⟨ds.length,bQ _,by rw [List.take_length]⟩ aM.rfl (fun _=>rfl) ?_;rintro ⟨n,hn,hv⟩;dsimp only
 have fin:∀ τ:Env,(n=0∨∃ d,ds[n-1]? = some d∧d≠0)→(rT ds).take n=rT (dg (lv ds)):=by
  intro τ h;rw [rT,rT,←List.map_take]
  congr 1
  rw [←hv,dg,lv,Cu (by omega) _ (hd.take n)];intro d hlast;rcases h with rfl | ⟨d',hd',hne⟩
  ·simp at hlast
  ·rw [List.getLast?_eq_getElem?,List.length_take,Nat.min_eq_left hn,List.getElem?_take] at hlast;split at hlast
   ·rw [hd'] at hlast;simp at hlast;omega
   ·cases hlast
 apply vn CU rfl;refine vs _ rfl ?_ ?_<;>intro h
 ·have hlt:n-1<ds.length:=by omega
  have hget:ds[n-1]? = some (ds[n-1]'hlt):=dJ hlt;generalize ds[n-1]'hlt=d at hget;apply vn (jX (c:=((n-1:Nat):Int)) (by rw [jN]<;>omega)) rfl;apply vn (yV cF (by simpa using hget)) rfl;apply vn yM rfl;apply vn LH rfl;refine vs _ rfl ?_ ?_<;>intro h2
  ·apply vn (jX (c:=((n-1:Nat):Int)) (by rw [jN]<;>omega)) rfl;refine aZ rfl ⟨⟨n-1,by omega,?_⟩,aM.rfl,?_⟩
   ·have hd0:d=0:=by omega
    subst hd0;have:=dS hget;rw [Nat.mul_zero,show n-1+1=n by omega] at this;exact (this.symm.trans hv)
   ·show n-1<n;omega
  ·apply vn (wR cF (by simpa using hn)) rfl;refine aE ?_;exact congrArg (fun x=>[aD.agg [aL.slice 1 x]]) (fin [] (.inr ⟨d,hget,by omega⟩))
 ·apply vn (wR cF (by simpa using hn)) rfl;refine aE ?_;exact congrArg (fun x=>[aD.agg [aL.slice 1 x]]) (fin [] (.inl (by omega)))
open Go Go.Proofs Tryz Ord
def Vb:Tr:=.need (.prim [(W 20 0),(.one (.c (.k (.int .u32 1000000000))))] none) (.binOp .geq 167 (tT 46) (.const (.int .u32 1000000000)) 167) 4 false (.split (.u 21 0) (.need (.prim [(W 20 0),(.one (.c (.k (.int .u32 1000000000))))] none) (.binOp .sub 167 (tT 48) (.const (.int .u32 1000000000)) 167) 167 false (.need (.idx 11 (.u 10 0)) (.indexAddr 24 (tT 50) (tT 51)) 0 false (.need (.strow 11 1 (.u 10 0) 0 [(.u 22 0)]) (.store 167 (tT 53) (tT 52)) 0 false (aN .add 3 26 1 10 0 3 (.back 0 [(.w (.one (.c (.k (.int .u32 1))))),lV 24 0, .row 23]))))) (.need (.idx 11 (.u 10 0)) (.indexAddr 24 (tT 50) (tT 51)) 0 false (.need (.strow 11 1 (.u 10 0) 0 [(.u 20 0)]) (.store 167 (tT 53) (tT 52)) 0 false (aN .add 3 26 1 10 0 3 (.back 0 [(.w (.one (.c (.k (.int .u32 0))))),lV 23 0, .row 22])))))
def PY:Tr:=oO 18 0 none 167 43 (cC .add 167 39 44 15 0 19 0 167 Vb)
def Qh:Tr:=.need (.prim [(W 15 0),(.one (.c (.k (.int .u32 1000000000))))] none) (.binOp .geq 167 (tT 46) (.const (.int .u32 1000000000)) 167) 4 false (.split (.u 18 0) (.need (.prim [(W 15 0),(.one (.c (.k (.int .u32 1000000000))))] none) (.binOp .sub 167 (tT 48) (.const (.int .u32 1000000000)) 167) 167 false (.need (.idx 11 (.u 10 0)) (.indexAddr 24 (tT 50) (tT 51)) 0 false (.need (.strow 11 1 (.u 10 0) 0 [(.u 19 0)]) (.store 167 (tT 53) (tT 52)) 0 false (aN .add 3 26 1 10 0 3 (.back 0 [(.w (.one (.c (.k (.int .u32 1))))),lV 21 0, .row 20]))))) (.need (.idx 11 (.u 10 0)) (.indexAddr 24 (tT 50) (tT 51)) 0 false (.need (.strow 11 1 (.u 10 0) 0 [(.u 15 0)]) (.store 167 (tT 53) (tT 52)) 0 false (aN .add 3 26 1 10 0 3 (.back 0 [(.w (.one (.c (.k (.int .u32 0))))),lV 20 0, .row 19])))))
def Wm:Tr:=sF 1 0 10 0 24 24 26 (oO 13 0 none 167 29 (cC .add 167 31 32 14 0 9 0 167 (eU 0 0 36 24 (cC .lss 3 34 37 10 0 16 0 4 (.split (.u 17 0) (sF 0 0 10 0 24 41 42 PY) Qh)))))
def PI:Tr:=.need (.idx 11 (.u 13 0)) (.indexAddr 24 (tT 55) (tT 58)) 0 false (.need (.strow 11 1 (.u 13 0) 0 [(.u 9 0)]) (.store 167 (tT 60) (tT 59)) 0 false (aC 144 [(.one (.c (.sr 1 14)))] [(some 1)] [61] [24] 26 true (.ret [(G1 15)])))
def Zo:Tr:=aN .add 3 20 1 5 0 3 (.need (.make [(.int .u32 0)] 4 (.u 6 0) (.u 6 0)) (.makeSlice 24 (tT 21) (tT 21)) 24 false (eU 1 0 24 24 (.loop 0 [(.w (.one (.c (.k (.int .u32 0))))),lK 0, .row 7] (cC .lss 3 26 25 10 0 8 0 0 (.split (.u 12 0) Wm (eU 1 0 57 24 PI))))))
def VK:Tr:=sF 0 0 10 0 24 24 26 (oO 13 0 none 167 29 (cC .add 167 31 32 14 0 9 0 167 (eU 1 0 36 24 (cC .lss 3 34 37 10 0 16 0 4 (.split (.u 17 0) (sF 1 0 10 0 24 41 42 PY) Qh)))))
def Wg:Tr:=aN .add 3 20 1 5 0 3 (.need (.make [(.int .u32 0)] 4 (.u 6 0) (.u 6 0)) (.makeSlice 24 (tT 21) (tT 21)) 24 false (eU 0 0 24 24 (.loop 0 [(.w (.one (.c (.k (.int .u32 0))))),lK 0, .row 7] (cC .lss 3 26 25 10 0 8 0 0 (.split (.u 12 0) VK (eU 0 0 57 24 PI))))))
def ZN:Tr:=eU 0 0 10 24 (eU 1 0 13 24 (cC .lss 3 11 14 2 0 3 0 4 (.split (.u 4 0) (eU 1 0 19 24 Zo) (eU 0 0 19 24 Wg))))
theorem RK:aI prog f137 (fun _=>none) [.v (some 1), .v (some 1)]=ZN:=by kernel_rfl
structure lM (xs ys:List Nat) (i c:Nat) (os:List Nat):Prop where
 le:i≤xs.length
 c1:c≤1
 len:os.length=xs.length+1
 dg:Dg os
 eq:lv (os.take i)+1000000000^i*c=lv (xs.take i)+lv (ys.take i)
theorem lM.init (xs ys:List Nat):lM xs ys 0 0 (List.replicate (xs.length+1) 0):=⟨fK _,by omega,by simp,Dg.rep _,by simp [lv,val]⟩
theorem lM.next {xs ys os:List Nat} {i c x y c' z:Nat} (h:lM xs ys i c os) (hi:i<xs.length) (hx:xs[i]? = some x) (hy:ys[i]?.getD 0=y) (hc:c'≤1) (hz:z<1000000000) (he:z+1000000000*c'=x+c+y):lM xs ys (i+1) c' (os.set i z):=by
 refine ⟨hi,hc,by rw [List.length_set];exact h.len,h.dg.set hz,?_⟩;rw [mW (by rw [h.len];omega),dS hx,Nat.pow_succ]
 have hb:lv (ys.take (i+1))=lv (ys.take i)+1000000000^i*y:=by
  cases hbi:ys[i]? with
  | some d=>rw [hbi] at hy;simp only [Option.getD_some] at hy;subst hy;exact dS hbi
  | none=>
    rw [hbi] at hy;simp only [Option.getD_none] at hy;subst hy;have:=List.getElem?_eq_none_iff.1 hbi;rw [List.take_of_length_le (by omega),List.take_of_length_le (by omega)];omega
 rw [hb];have h1:=h.eq;have h2:=congrArg (fun t=>1000000000^i*t) he;simp only [Nat.mul_add] at h2;rw [Nat.mul_assoc];omega
theorem lM.fin {xs ys os:List Nat} {c:Nat} {n:Nat} (h:lM xs ys xs.length c os) (hle:ys.length≤xs.length) (he:lv xs+lv ys=n):lv (os.set xs.length c)=n:=by
 have h1:=mW (os:=os) (i:=xs.length) (x:=c) (by rw [h.len];omega);rw [List.take_of_length_le (by rw [List.length_set,h.len];omega)] at h1;have h2:=h.eq;rw [List.take_length,List.take_of_length_le hle] at h2;omega
set_option maxHeartbeats 1000000 in
theorem Fp (a b:Nat) (hs:(dg a).length+(dg b).length<1099511627776:=by omega):aJ prog 137 [mT a,mT b] (.ret [mT (a+b)]):=by
 refine bP (args:=[.v (some 1), .v (some 1)]) (ins:=[.v (mT a), .v (mT b)]) (hints:=fun _=>none) fo (by kernel_rfl) func137 ⟨rfl,rfl,trivial⟩ ?_;rw [RK];dsimp only [List.map,In.env];apply vn (bB cF bI) rfl;apply vn (bB cF bI) rfl;apply vn oK rfl;refine vs _ rfl ?_ ?_<;>intro hab
 ·skip
  apply vn (bB cF bI) rfl;dsimp only [aG,aH];apply vn (dL (c:=(((dg b).length+1:Nat):Int)) (by rw [jN]<;>omega)) rfl;refine Ds (n:=(dg b).length+1) (m:=(dg b).length+1) rfl rfl Bb (bQ _) (by omega) (by simp [maxLen];omega) ?_;apply vn (bB cF bI) rfl;refine bE {g:Nat×Nat×List Nat // lM (dg b) (dg a) g.1 g.2.1 g.2.2} (fun g=>[.one (.int .u32 g.1.2.1), .one (.int .i64 g.1.1), .rows (rT g.1.2.2)]) (fun g=>(dg b).length-g.1.1) ⟨(0,0,List.replicate ((dg b).length+1) 0),lM.init _ _⟩ aM.rfl (fun _=>rfl) ?_;rintro ⟨⟨i,c,os⟩,hI⟩;dsimp only [aG,aH] at hI ⊢;apply vn oK rfl;refine vs _ rfl ?_ ?_<;>intro h
  ·have hlt:i<(dg b).length:=by omega
   have hget:(dg b)[i]? = some ((dg b)[i]'hlt):=dJ hlt;generalize (dg b)[i]'hlt=x at hget;have hx:=(gN b).get hget;have hc:=hI.c1;have hol:i<os.length:=by rw [hI.len];omega
   have hog:(rT os)[((i:Int)).toNat]? = some [aL.int .u32 ((os[i]'hol:Nat):Int)]:=kH (by simp);apply vn (yV cF (by simpa using hget)) rfl;apply vn yM rfl;apply vn (dL (c:=((x+c:Nat):Int)) (by rw [sM]<;>omega)) rfl;dsimp only [aG,aH];apply vn (bB cF bI) rfl;apply vn oK rfl;refine vs _ rfl ?_ ?_<;>intro h1
   ·have hlt1:i<(dg a).length:=by omega
    have hget1:(dg a)[i]? = some ((dg a)[i]'hlt1):=dJ hlt1;generalize (dg a)[i]'hlt1=y at hget1;have hy:=(gN a).get hget1;apply vn (yV cF (by simpa using hget1)) rfl;apply vn yM rfl;dsimp only [aG,aH];apply vn (dL (c:=((x+c+y:Nat):Int)) (by rw [sM]<;>omega)) rfl;apply vn xV rfl;refine vs _ rfl ?_ ?_<;>intro h2
    ·apply vn (jX (c:=((x+c+y-1000000000:Nat):Int)) (by rw [sM]<;>omega)) rfl;refine pF (ts:=rT os) rfl rfl (by omega) (by rw [bI];omega) ?_;refine Ca (ts:=rT os) (us:=rT (os.set i (x+c+y-1000000000))) rfl rfl (by omega) hog gP ?_;dsimp only [aG,aH];apply vn (dL (c:=((i+1:Nat):Int)) (by rw [jN]<;>omega)) rfl;dsimp only [aG,aH];have hN:lM _ _ (i+1) 1 (os.set i (x+c+y-1000000000)):=hI.next (y:=y) hlt hget (by rw [hget1];rfl) (by omega) (by omega) (by omega);exact aZ rfl ⟨⟨(i+1,1,os.set i (x+c+y-1000000000)),hN⟩,aM.rfl,by show (dg b).length-(i+1)<(dg b).length-i;omega⟩
    ·refine pF (ts:=rT os) rfl rfl (by omega) (by rw [bI];omega) ?_;refine Ca (ts:=rT os) (us:=rT (os.set i (x+c+y))) rfl rfl (by omega) hog gP ?_;apply vn (dL (c:=((i+1:Nat):Int)) (by rw [jN]<;>omega)) rfl;dsimp only [aG,aH];have hN:lM _ _ (i+1) 0 (os.set i (x+c+y)):=hI.next (y:=y) hlt hget (by rw [hget1];rfl) (by omega) (by omega) (by omega);exact aZ rfl ⟨⟨(i+1,0,os.set i (x+c+y)),hN⟩,aM.rfl,by show (dg b).length-(i+1)<(dg b).length-i;omega⟩
   ·have hget1:(dg a)[i]? = none:=List.getElem?_eq_none (by omega);apply vn xV rfl;refine vs _ rfl ?_ ?_<;>intro h2
    ·apply vn (jX (c:=((x+c-1000000000:Nat):Int)) (by rw [sM]<;>omega)) rfl;refine pF (ts:=rT os) rfl rfl (by omega) (by rw [bI];omega) ?_;refine Ca (ts:=rT os) (us:=rT (os.set i (x+c-1000000000))) rfl rfl (by omega) hog gP ?_;apply vn (dL (c:=((i+1:Nat):Int)) (by rw [jN]<;>omega)) rfl;dsimp only [aG,aH];have hN:lM _ _ (i+1) 1 (os.set i (x+c-1000000000)):=hI.next (y:=0) hlt hget (by rw [hget1];rfl) (by omega) (by omega) (by omega);exact aZ rfl ⟨⟨(i+1,1,os.set i (x+c-1000000000)),hN⟩,aM.rfl,by show (dg b).length-(i+1)<(dg b).length-i;omega⟩
    ·refine pF (ts:=rT os) rfl rfl (by omega) (by rw [bI];omega) ?_;refine Ca (ts:=rT os) (us:=rT (os.set i (x+c))) rfl rfl (by omega) hog gP ?_;apply vn (dL (c:=((i+1:Nat):Int)) (by rw [jN]<;>omega)) rfl;dsimp only [aG,aH];have hN:lM _ _ (i+1) 0 (os.set i (x+c)):=hI.next (y:=0) hlt hget (by rw [hget1];rfl) (by omega) (by omega) (by omega);exact aZ rfl ⟨⟨(i+1,0,os.set i (x+c)),hN⟩,aM.rfl,by show (dg b).length-(i+1)<(dg b).length-i;omega⟩
  ·have hie:i=(dg b).length:=by have:=hI.le;omega
   subst hie;have hol:(dg b).length<os.length:=by rw [hI.len];omega
   have hog:(rT os)[(((dg b).length:Int)).toNat]? = some [aL.int .u32 ((os[(dg b).length]'hol:Nat):Int)]:=kH (by simp);apply vn (bB cF bI) rfl;refine pF (ts:=rT os) rfl rfl (by omega) (by rw [bI];omega) ?_;refine Ca (ts:=rT os) (us:=rT (os.set ((dg b).length) c)) rfl rfl (by omega) hog gP ?_;apply aA (gB (os.set ((dg b).length) c) (hI.dg.set (by have:=hI.c1;omega)) (by rw [List.length_set,hI.len];omega)) rfl;dsimp only [aG,aH];refine aE ?_;rw [hI.fin (n:=a+b) (by omega) (by rw [fC,fC]<;>omega)];rfl
 ·skip
  apply vn (bB cF bI) rfl;apply vn (dL (c:=(((dg a).length+1:Nat):Int)) (by rw [jN]<;>omega)) rfl;refine Ds (n:=(dg a).length+1) (m:=(dg a).length+1) rfl rfl Bb (bQ _) (by omega) (by simp [maxLen];omega) ?_;apply vn (bB cF bI) rfl;dsimp only [aG,aH];refine bE {g:Nat×Nat×List Nat // lM (dg a) (dg b) g.1 g.2.1 g.2.2} (fun g=>[.one (.int .u32 g.1.2.1), .one (.int .i64 g.1.1), .rows (rT g.1.2.2)]) (fun g=>(dg a).length-g.1.1) ⟨(0,0,List.replicate ((dg a).length+1) 0),lM.init _ _⟩ aM.rfl (fun _=>rfl) ?_;rintro ⟨⟨i,c,os⟩,hI⟩;dsimp only [aG,aH] at hI ⊢;apply vn oK rfl;refine vs _ rfl ?_ ?_<;>intro h
  ·have hlt:i<(dg a).length:=by omega
   have hget:(dg a)[i]? = some ((dg a)[i]'hlt):=dJ hlt;generalize (dg a)[i]'hlt=x at hget;have hx:=(gN a).get hget;have hc:=hI.c1;have hol:i<os.length:=by rw [hI.len];omega
   have hog:(rT os)[((i:Int)).toNat]? = some [aL.int .u32 ((os[i]'hol:Nat):Int)]:=kH (by simp);apply vn (yV cF (by simpa using hget)) rfl;apply vn yM rfl;apply vn (dL (c:=((x+c:Nat):Int)) (by rw [sM]<;>omega)) rfl;dsimp only [aG,aH];apply vn (bB cF bI) rfl;apply vn oK rfl;refine vs _ rfl ?_ ?_<;>intro h1
   ·have hlt1:i<(dg b).length:=by omega
    have hget1:(dg b)[i]? = some ((dg b)[i]'hlt1):=dJ hlt1;generalize (dg b)[i]'hlt1=y at hget1;have hy:=(gN b).get hget1;apply vn (yV cF (by simpa using hget1)) rfl;apply vn yM rfl;dsimp only [aG,aH];apply vn (dL (c:=((x+c+y:Nat):Int)) (by rw [sM]<;>omega)) rfl;apply vn xV rfl;refine vs _ rfl ?_ ?_<;>intro h2
    ·apply vn (jX (c:=((x+c+y-1000000000:Nat):Int)) (by rw [sM]<;>omega)) rfl;refine pF (ts:=rT os) rfl rfl (by omega) (by rw [bI];omega) ?_;refine Ca (ts:=rT os) (us:=rT (os.set i (x+c+y-1000000000))) rfl rfl (by omega) hog gP ?_;dsimp only [aG,aH];apply vn (dL (c:=((i+1:Nat):Int)) (by rw [jN]<;>omega)) rfl;dsimp only [aG,aH];have hN:lM _ _ (i+1) 1 (os.set i (x+c+y-1000000000)):=hI.next (y:=y) hlt hget (by rw [hget1];rfl) (by omega) (by omega) (by omega);exact aZ rfl ⟨⟨(i+1,1,os.set i (x+c+y-1000000000)),hN⟩,aM.rfl,by show (dg a).length-(i+1)<(dg a).length-i;omega⟩
    ·refine pF (ts:=rT os) rfl rfl (by omega) (by rw [bI];omega) ?_;refine Ca (ts:=rT os) (us:=rT (os.set i (x+c+y))) rfl rfl (by omega) hog gP ?_;apply vn (dL (c:=((i+1:Nat):Int)) (by rw [jN]<;>omega)) rfl;dsimp only [aG,aH];have hN:lM _ _ (i+1) 0 (os.set i (x+c+y)):=hI.next (y:=y) hlt hget (by rw [hget1];rfl) (by omega) (by omega) (by omega);exact aZ rfl ⟨⟨(i+1,0,os.set i (x+c+y)),hN⟩,aM.rfl,by show (dg a).length-(i+1)<(dg a).length-i;omega⟩
   ·have hget1:(dg b)[i]? = none:=List.getElem?_eq_none (by omega);apply vn xV rfl;refine vs _ rfl ?_ ?_<;>intro h2
    ·apply vn (jX (c:=((x+c-1000000000:Nat):Int)) (by rw [sM]<;>omega)) rfl;refine pF (ts:=rT os) rfl rfl (by omega) (by rw [bI];omega) ?_;refine Ca (ts:=rT os) (us:=rT (os.set i (x+c-1000000000))) rfl rfl (by omega) hog gP ?_;apply vn (dL (c:=((i+1:Nat):Int)) (by rw [jN]<;>omega)) rfl;dsimp only [aG,aH];have hN:lM _ _ (i+1) 1 (os.set i (x+c-1000000000)):=hI.next (y:=0) hlt hget (by rw [hget1];rfl) (by omega) (by omega) (by omega);exact aZ rfl ⟨⟨(i+1,1,os.set i (x+c-1000000000)),hN⟩,aM.rfl,by show (dg a).length-(i+1)<(dg a).length-i;omega⟩
    ·refine pF (ts:=rT os) rfl rfl (by omega) (by rw [bI];omega) ?_;refine Ca (ts:=rT os) (us:=rT (os.set i (x+c))) rfl rfl (by omega) hog gP ?_;apply vn (dL (c:=((i+1:Nat):Int)) (by rw [jN]<;>omega)) rfl;dsimp only [aG,aH];have hN:lM _ _ (i+1) 0 (os.set i (x+c)):=hI.next (y:=0) hlt hget (by rw [hget1];rfl) (by omega) (by omega) (by omega);exact aZ rfl ⟨⟨(i+1,0,os.set i (x+c)),hN⟩,aM.rfl,by show (dg a).length-(i+1)<(dg a).length-i;omega⟩
  ·have hie:i=(dg a).length:=by have:=hI.le;omega
   subst hie;have hol:(dg a).length<os.length:=by rw [hI.len];omega
   have hog:(rT os)[(((dg a).length:Int)).toNat]? = some [aL.int .u32 ((os[(dg a).length]'hol:Nat):Int)]:=kH (by simp);apply vn (bB cF bI) rfl;refine pF (ts:=rT os) rfl rfl (by omega) (by rw [bI];omega) ?_;refine Ca (ts:=rT os) (us:=rT (os.set ((dg a).length) c)) rfl rfl (by omega) hog gP ?_;apply aA (gB (os.set ((dg a).length) c) (hI.dg.set (by have:=hI.c1;omega)) (by rw [List.length_set,hI.len];omega)) rfl;dsimp only [aG,aH];refine aE ?_;rw [hI.fin (n:=a+b) (by omega) (by rw [fC,fC]<;>omega)];rfl
open Go Go.Proofs Tryz Ord
def Zi:Tr:=eU 0 0 4 24 (aN .eql 3 5 0 1 0 4 (.ret [(W 2 0)]))
theorem Sg:aI prog f90 (fun _=>none) [.v (some 1)]=Zi:=by kernel_rfl
def Za:Tr:=.split (.u 3 0) (.need (.prim [(W 1 0),(.one (.c (.k (.int .u64 1000000000))))] none) (.binOp .rem 153 (tT 9) (.const (.int .u64 1000000000)) 153) 153 false (.need (.prim [(W 4 0)] none) (.convert 153 167 (tT 10)) 167 false (.need (.lit 1 [[(.u 5 0)]]) (.buildSlice 24 1 #[(0,(tT 11))]) 24 false (.need (.app 1 4 (some 2) none (some 6)) (.call ⟨.builtin .append,#[(tT 8),(tT 12)],#[24,24]⟩) 24 false (.need (.prim [(W 1 0),(.one (.c (.k (.int .u64 1000000000))))] none) (.binOp .quo 153 (tT 6) (.const (.int .u64 1000000000)) 153) 153 false (.back 0 [lV 8 0, .row 7])))))) (.ret [(.agg [(.c (.sr 1 2))])])
def Zy:Tr:=.loop 0 [lV 0 0, .nilrow] (.need (.prim [(W 1 0),(.one (.c (.k (.int .u64 0))))] none) (.binOp .gtr 153 (tT 4) (.const (.int .u64 0)) 153) 4 false Za)
theorem Pv:aI prog f122 (fun _=>none) [.v none]=Zy:=by kernel_rfl
def Zv:Tr:=.split (.u 0 0) (aC 90 [(G1 1)] [none] [8] [26] 4 false (.need (.prim [(W 2 0)] none) (.unOp .not 4 (tT 9)) 4 false (.ret [(.agg [(U 1 0),(U 3 0)])]))) (.ret [(.agg [(U 1 0),(tE (.bool false))])])
theorem La:aI prog f102 (fun _=>none) [.v none, .v (some 1)]=Zv:=by kernel_rfl
def On:Tr:=.ret [(WK 0)]
def NK:Tr:=.ret [(WK (-1))]
def MF:Tr:=.ret [(WK 1)]
def Zs:Tr:=aC 90 [(G1 0)] [none] [5] [26] 4 true (.split (.u 1 0) On (.split (.u 0 1) NK MF))
theorem Of:aI prog f73 (fun _=>none) [.v (some 2)]=Zs:=by kernel_rfl
theorem kA (n:Nat):aJ prog 90 [mT n] (.ret [.one (.bool (decide (n=0)))]):=by
 refine bP (args:=[.v (some 1)]) (ins:=[.v (mT n)]) (hints:=fun _=>none) fo (by kernel_rfl) func90 ⟨rfl,trivial⟩ ?_;rw [Sg];apply vn (bB cF rfl) rfl;apply vn LH rfl;refine aE ?_;show [aD.one (.bool (decide (_=(0:Int))))]=_
 have h:((rT (dg n)).length:Int)=0↔n=0:=by
  rw [bI,←rL];cases dg n<;>simp;omega
 simp only [h]
theorem eT (n:Nat) (h:n<18446744073709551616:=by omega):aJ prog 122 [.one (.int .u64 n)] (.ret [mT n]):=by
 refine bP (args:=[.v none]) (ins:=[.v (.one (.int .u64 n))]) (hints:=fun _=>none) fo (by kernel_rfl) func122 ⟨rfl,trivial⟩ ?_;rw [Pv];have hlen:(dg n).length≤3:=gM;refine bE {p:Nat×List Nat // p.2++dg p.1=dg n∧p.1≤n} (fun g=>[.one (.int .u64 g.1.1), .rows (rT g.1.2)]) (fun g=>g.1.1) ⟨(n,[]),by simp⟩ aM.rfl (fun _=>rfl) ?_;rintro ⟨⟨k,ds⟩,hinv,hle⟩;dsimp only [List.map,In.env,aG,aH] at hinv hle ⊢;have hds:ds.length≤3:=by have:=congrArg List.length hinv;simp at this;omega
 apply vn CU rfl;refine vs _ rfl ?_ ?_<;>intro hk
 ·apply vn (wL (c:=((k%1000000000:Nat):Int)) (by decide) (by rw [Int.tmod_eq_emod_of_nonneg (by omega)];omega)) rfl;apply vn (fM ⟨_,fQ⟩ eR (c:=((k%1000000000:Nat):Int)) (sM (by omega) (by omega))) rfl;apply tQ (us:=rT [k%1000000000]) rfl;refine yO (ts:=rT ds) (us:=rT [k%1000000000]) (vs:=rT (ds ++ [k%1000000000])) rfl rfl List.map_append.symm (by simp;omega) (by simp [maxLen];omega) ?_;apply vn (kV (c:=((k/1000000000:Nat):Int)) (by decide) (by rw [Int.tdiv_eq_ediv_of_nonneg (by omega),mP (by omega) (by omega)];omega)) rfl;refine aZ rfl ⟨⟨(k/1000000000,ds ++ [k%1000000000]),?_,?_⟩,?_,?_⟩
  ·have:k≠0:=by omega
   rw [←hinv,dg,dg,dE (n:=k) (by omega) this];simp
  ·show k/1000000000≤n;omega
  ·exact aM.rfl
  ·show k/1000000000<k;omega
 ·have:k=0:=by omega
  subst this;refine aE ?_;have e:dg 0 = []:=bU _;rw [e,List.append_nil] at hinv;subst hinv;rfl
abbrev iT (z:Int):aD:=.agg [dT z.natAbs, .bool (decide (z<0))]
theorem cS (m:Bool) (n:Nat) (z:Int) (hz:z=if m then -(n:Int) else n):aJ prog 102 [.one (.bool m),mT n] (.ret [iT z]):=by
 refine bP (args:=[.v none, .v (some 1)]) (ins:=[.v (.one (.bool m)), .v (mT n)]) (hints:=fun _=>none) fo (by kernel_rfl) func102 ⟨rfl,rfl,trivial⟩ ?_;rw [La];have ha:z.natAbs=n:=by subst hz;cases m<;>simp
 refine cB m rfl (fun hm=>?_) (fun hm=>?_)
 ·subst hm;apply aA (kA n) rfl;apply vn oN rfl;refine aE ?_;have:(!decide (n=0))=decide (z<0):=by subst hz;simp;by_cases h:n=0<;>simp [h]<;>omega
  show [aD.agg [dT n, .bool (!decide (n=0))]]=_;rw [this,iT,ha]
 ·subst hm;refine aE ?_;have:false=decide (z<0):=by subst hz;simp
  show [aD.agg [dT n, .bool false]]=_;rw [this,iT,ha]
open Go Go.Proofs Tryz Ord
def VF:Tr:=.need (.prim [(W 26 0),(.one (.c (.k (.int .u64 1000000000))))] none) (.binOp .rem 153 (tT 54) (.const (.int .u64 1000000000)) 153) 153 false (.need (.prim [(W 28 0)] none) (.convert 153 167 (tT 55)) 167 false (.need (.prim [(W 26 0),(.one (.c (.k (.int .u64 1000000000))))] none) (.binOp .quo 153 (tT 57) (.const (.int .u64 1000000000)) 153) 153 false (.need (.idx 15 (.u 27 0)) (.indexAddr 24 (tT 50) (tT 53)) 0 false (.need (.strow 15 1 (.u 27 0) 0 [(.u 29 0)]) (.store 167 (tT 59) (tT 56)) 0 false (aN .add 3 30 1 14 0 3 (.back 1 [lV 30 0,lV 32 0, .row 31]))))))
def Vt:Tr:=cC .add 3 42 43 7 0 14 0 3 (.need (.idx 15 (.u 22 0)) (.indexAddr 24 (tT 41) (tT 44)) 0 false (.need (.ldrow 15 (.u 22 0) 0 1 false) (.load 167 (tT 45)) 167 false (.need (.prim [(W 23 0)] none) (.convert 167 153 (tT 46)) 153 false (cC .add 153 40 47 21 0 24 0 153 (cC .add 153 35 48 13 0 25 0 153 (cC .add 3 51 52 7 0 14 0 3 VF))))))
def Yr:Tr:=eU 1 0 64 24 (cC .add 3 62 65 7 0 17 0 3 (.need (.prim [(W 13 0)] none) (.convert 153 167 (tT 67)) 167 false (.need (.idx 15 (.u 18 0)) (.indexAddr 24 (tT 61) (tT 66)) 0 false (.need (.strow 15 1 (.u 18 0) 0 [(.u 19 0)]) (.store 167 (tT 69) (tT 68)) 0 false (aN .add 3 22 1 7 0 3 (.back 0 [lV 21 0, .row 20]))))))
def XC:Tr:=cC .lss 3 30 29 14 0 12 0 0 (.split (.u 16 0) (sF 1 0 14 0 24 28 30 (oO 17 0 none 167 33 (.need (.prim [(W 11 0)] none) (.convert 167 153 (tT 36)) 153 false (.need (.prim [(W 18 0)] none) (.convert 167 153 (tT 38)) 153 false (cC .mul 153 37 39 19 0 20 0 153 Vt))))) Yr)
def ZT:Tr:=.loop 0 [lK 0, .row 5] (cC .lss 3 22 21 7 0 6 0 0 (.split (.u 9 0) (sF 0 0 7 0 24 20 22 (oO 10 0 none 167 25 (eU 1 0 28 24 (.loop 1 [(.w (.one (.c (.k (.int .u64 0))))),lK 0, .row 8] XC)))) (aC 144 [(.one (.c (.sr 1 8)))] [(some 1)] [71] [24] 26 true (.ret [(G1 10)]))))
def ZB:Tr:=eU 0 0 12 24 (eU 1 0 15 24 (cC .add 3 13 16 2 0 3 0 3 (.need (.make [(.int .u32 0)] 4 (.u 4 0) (.u 4 0)) (.makeSlice 24 (tT 17) (tT 17)) 24 false (eU 0 0 20 24 ZT))))
theorem NP:aI prog f98 (fun _=>none) [.v (some 1), .v (some 1)]=ZB:=by kernel_rfl
theorem TZ {os:List Nat} {j z old n:Nat} (hj:os[j]? = some old) (hjn:j<n:=by omega):lv ((os.set j z).take n)+1000000000^j*old=lv (os.take n)+1000000000^j*z:=by
 have hlt:j<os.length:=(fJ.1 hj).1
 have key:∀ (os:List Nat) (j n:Nat),os[j]? = some old→j<n→lv ((os.set j z).take n)+1000000000^j*old=lv (os.take n)+1000000000^j*z:=by
  intro os
  induction os with
  | nil=>intro j n h;simp at h
  | cons d os ih=>
    intro j n h hn;obtain ⟨m,rfl⟩:∃ m,n=m+1:=⟨n-1,by omega⟩
    cases j with
    | zero=>
      simp only [List.getElem?_cons_zero,aK] at h;subst h;simp only [List.set_cons_zero,List.take_succ_cons,lv,val];omega
    | succ j=>
      have:=ih j m (by simpa using h) (by omega);simp only [List.set_cons_succ,List.take_succ_cons,lv,val,Nat.pow_succ] at this ⊢;have h1:1000000000^j*1000000000*old=1000000000*(1000000000^j*old):=by rw [Nat.mul_right_comm,Nat.mul_comm]
      have h2:1000000000^j*1000000000*z=1000000000*(1000000000^j*z):=by rw [Nat.mul_right_comm,Nat.mul_comm]
      rw [h1,h2];omega
 exact key os j n hj hjn
theorem ON (n:Nat):lv (List.replicate n 0)=0:=by
 induction n with
 | zero=>rfl
 | succ n ih=>rw [List.replicate_succ,lv,val];simp only [lv] at ih;rw [ih]
structure BZ (xs ys:List Nat) (i:Nat) (os:List Nat):Prop where
 le:i≤xs.length
 len:os.length=xs.length+ys.length
 dg:Dg os
 eq:lv (os.take (i+ys.length))=lv (xs.take i)*lv ys
structure Qc (xs ys:List Nat) (i x T k c:Nat) (os:List Nat):Prop where
 le:k≤ys.length
 len:os.length=xs.length+ys.length
 dg:Dg os
 c1:c<1000000000
 eq:lv (os.take (i+ys.length))+1000000000^(i+k)*c=T+x*(1000000000^i*lv (ys.take k))
theorem BZ.init (xs ys:List Nat):BZ xs ys 0 (List.replicate (xs.length+ys.length) 0):=⟨fK _,by simp,Dg.rep _,by
 rw [List.take_replicate,ON];simp [lv,val]⟩
theorem BZ.ZK {xs ys os:List Nat} {i x:Nat} (h:BZ xs ys i os):Qc xs ys i x (lv (xs.take i)*lv ys) 0 0 os:=⟨fK _,h.len,h.dg,by omega,by rw [h.eq];simp [lv,val]⟩
theorem Qc.next {xs ys os:List Nat} {i x T k c y old z c':Nat} (h:Qc xs ys i x T k c os) (hi:i<xs.length) (hk:k<ys.length) (hx:x<1000000000) (hy:ys[k]? = some y) (ho:os[i+k]? = some old) (hz:z<1000000000) (hc:c'<1000000000) (he:z+1000000000*c'=c+(x*y+old)) :
  Qc xs ys i x T (k+1) c' (os.set (i+k) z):=by
 refine ⟨hk,by rw [List.length_set];exact h.len,h.dg.set hz,hc,?_⟩;have h1:=TZ (z:=z) (n:=i+ys.length) ho;have h2:=congrArg (fun t=>1000000000^(i+k)*t) he;have h3:=h.eq;rw [dS hy];simp only [Nat.mul_add] at h2 ⊢;have e1:1000000000^(i+(k+1))*c'=1000000000^(i+k)*(1000000000*c'):=by rw [←Nat.add_assoc,Nat.pow_succ,Nat.mul_assoc]
 have e2:x*(1000000000^i*(1000000000^k*y))=1000000000^(i+k)*(x*y):=by rw [Nat.pow_add];simp only [Nat.mul_left_comm,Nat.mul_assoc]
 rw [e1,e2];omega
theorem Qc.out {xs ys os:List Nat} {i x c:Nat} (h:Qc xs ys i x (lv (xs.take i)*lv ys) ys.length c os) (hx:xs[i]? = some x):BZ xs ys (i+1) (os.set (i+ys.length) c):=by
 have hi:i<xs.length:=(fJ.1 hx).1;refine ⟨hi,by rw [List.length_set];exact h.len,h.dg.set h.c1,?_⟩;have h3:=h.eq;rw [List.take_length] at h3;rw [show i+1+ys.length=i+ys.length+1 by omega,mW (by rw [h.len];omega),dS hx,h3,Nat.add_mul]
 congr 1
 rw [Nat.mul_left_comm,←Nat.mul_assoc]
theorem BZ.fin {xs ys os:List Nat} (h:BZ xs ys xs.length os):lv os=lv xs*lv ys:=by
 have:=h.eq;rw [List.take_of_length_le (by rw [h.len];omega),List.take_length] at this;exact this
set_option maxHeartbeats 1000000 in
theorem gI (a b:Nat) (hs:(dg a).length+(dg b).length<1099511627776:=by omega):aJ prog 98 [mT a,mT b] (.ret [mT (a*b)]):=by
 refine bP (args:=[.v (some 1), .v (some 1)]) (ins:=[.v (mT a), .v (mT b)]) (hints:=fun _=>none) fo (by kernel_rfl) func98 ⟨rfl,rfl,trivial⟩ ?_;rw [NP];dsimp only [List.map,In.env];apply vn (bB cF bI) rfl;apply vn (bB cF bI) rfl;apply vn (dL (c:=(((dg a).length+(dg b).length:Nat):Int)) (by rw [jN]<;>omega)) rfl;refine Ds (n:=(dg a).length+(dg b).length) (m:=(dg a).length+(dg b).length) rfl rfl Bb (bQ _) (by omega) (by simp [maxLen];omega) ?_;dsimp only [aG,aH];apply vn (bB cF bI) rfl;refine bE {g:Nat×List Nat // BZ (dg a) (dg b) g.1 g.2} (fun g=>[.one (.int .i64 g.1.1), .rows (rT g.1.2)]) (fun g=>(dg a).length-g.1.1) ⟨(0,List.replicate ((dg a).length+(dg b).length) 0),BZ.init _ _⟩ aM.rfl (fun _=>rfl) ?_;rintro ⟨⟨i,os⟩,hO⟩;dsimp only [aG,aH] at hO ⊢;apply vn oK rfl;refine vs _ rfl ?_ ?_<;>intro h
 ·have hlt:i<(dg a).length:=by omega
  have hget:(dg a)[i]? = some ((dg a)[i]'hlt):=dJ hlt;generalize (dg a)[i]'hlt=x at hget;have hx:=(gN a).get hget;apply vn (yV cF (by simpa using hget)) rfl;apply vn yM rfl;apply vn (bB cF bI) rfl;dsimp only [aG,aH];refine bE {g:Nat×Nat×List Nat // Qc (dg a) (dg b) i x (lv ((dg a).take i)*lv (dg b)) g.1 g.2.1 g.2.2} (fun g=>[.one (.int .u64 g.1.2.1), .one (.int .i64 g.1.1), .rows (rT g.1.2.2)]) (fun g=>(dg b).length-g.1.1) ⟨(0,0,os),hO.ZK⟩ aM.rfl (fun _=>rfl) ?_;rintro ⟨⟨k,c,os2⟩,hI⟩;dsimp only [aG,aH] at hI ⊢;have hc:=hI.c1;apply vn oK rfl;refine vs _ rfl ?_ ?_<;>intro h1
  ·have hlk:k<(dg b).length:=by omega
   have hgk:(dg b)[k]? = some ((dg b)[k]'hlk):=dJ hlk;generalize (dg b)[k]'hlk=y at hgk;have hy:=(gN b).get hgk;have hol:i+k<os2.length:=by rw [hI.len];omega
   have hok:os2[i+k]? = some (os2[i+k]'hol):=dJ hol;generalize os2[i+k]'hol=old at hok;have hold:=hI.dg.get hok;have hxy:x*y≤999999999*999999999:=Nat.mul_le_mul (by omega) (by omega);apply vn (yV cF (by simpa using hgk)) rfl;apply vn yM rfl;apply vn (fM ⟨_,eR⟩ fQ (c:=(x:Int)) (by rw [mP]<;>omega)) rfl;dsimp only [aG,aH];apply vn (fM ⟨_,eR⟩ fQ (c:=(y:Int)) (by rw [mP]<;>omega)) rfl;apply vn (oJ (c:=((x*y:Nat):Int)) (by rw [←Int.natCast_mul,mP]<;>omega)) rfl;apply vn (dL (c:=((i+k:Nat):Int)) (by rw [jN]<;>omega)) rfl;refine pF (ts:=rT os2) rfl rfl (by omega) (by rw [bI];omega) ?_;refine UM (ts:=rT os2) (cells:=[aL.int .u32 (old:Int)]) (t:=.one (.int .u32 (old:Int))) rfl rfl (by omega) (kH (by rw [Int.toNat_natCast];exact hok)) (.inr rfl) rfl ?_;dsimp only [aG,aH];apply vn (fM ⟨_,eR⟩ fQ (c:=(old:Int)) (by rw [mP]<;>omega)) rfl;apply vn (dL (c:=((x*y+old:Nat):Int)) (by rw [mP]<;>omega)) rfl;apply vn (dL (c:=((c+(x*y+old):Nat):Int)) (by rw [mP]<;>omega)) rfl;dsimp only [aG,aH];generalize hs2:c+(x*y+old)=w;have hw:w<1000000000*1000000000:=by omega
   apply vn (dL (c:=((i+k:Nat):Int)) (by rw [jN]<;>omega)) rfl;apply vn (wL (c:=((w%1000000000:Nat):Int)) (by decide) (by rw [Int.tmod_eq_emod_of_nonneg (by omega)];omega)) rfl;apply vn (fM ⟨_,fQ⟩ eR (c:=((w%1000000000:Nat):Int)) (by rw [sM]<;>omega)) rfl;apply vn (kV (c:=((w/1000000000:Nat):Int)) (by decide) (by rw [Int.tdiv_eq_ediv_of_nonneg (by omega),mP]<;>omega)) rfl;dsimp only [aG,aH];refine pF (ts:=rT os2) rfl rfl (by omega) (by rw [bI];omega) ?_;refine Ca (ts:=rT os2) (us:=rT (os2.set (i+k) (w%1000000000))) rfl rfl (by omega) (kH (by rw [Int.toNat_natCast];exact hok)) gP ?_;apply vn (dL (c:=((k+1:Nat):Int)) (by rw [jN]<;>omega)) rfl;dsimp only [aG,aH];have hN:Qc (dg a) (dg b) i x (lv ((dg a).take i)*lv (dg b)) (k+1) (w/1000000000) (os2.set (i+k) (w%1000000000)):=hI.next hlt hlk hx hgk hok (by omega) (by omega) (by omega);exact aZ rfl ⟨⟨(k+1,w/1000000000,os2.set (i+k) (w%1000000000)),hN⟩,aM.rfl,by show (dg b).length-(k+1)<(dg b).length-k;omega⟩
  ·have hke:k=(dg b).length:=by have:=hI.le;omega
   subst hke;have hol:i+(dg b).length<os2.length:=by rw [hI.len];omega
   have hok:os2[i+(dg b).length]? = some (os2[i+(dg b).length]'hol):=dJ hol;apply vn (bB cF bI) rfl;apply vn (dL (c:=((i+(dg b).length:Nat):Int)) (by rw [jN]<;>omega)) rfl;apply vn (fM ⟨_,fQ⟩ eR (c:=(c:Int)) (by rw [sM]<;>omega)) rfl;refine pF (ts:=rT os2) rfl rfl (by omega) (by rw [bI];omega) ?_;refine Ca (ts:=rT os2) (us:=rT (os2.set (i+(dg b).length) c)) rfl rfl (by omega) (kH (by rw [Int.toNat_natCast];exact hok)) gP ?_;dsimp only [aG,aH];apply vn (dL (c:=((i+1:Nat):Int)) (by rw [jN]<;>omega)) rfl;dsimp only [aG,aH];exact aZ rfl ⟨⟨(i+1,os2.set (i+(dg b).length) c),hI.out hget⟩,aM.rfl,by show (dg a).length-(i+1)<(dg a).length-i;omega⟩
 ·have hie:i=(dg a).length:=by have:=hO.le;omega
  subst hie;apply aA (gB os hO.dg (by rw [hO.len];omega)) rfl;dsimp only [aG,aH];refine aE ?_;have hf:=hO.fin;rw [fC,fC] at hf;rw [hf];rfl
open Go Go.Proofs Tryz Ord
def XS:Tr:=.ret [(W 1 0)]
def YW:Tr:=cC .neq 3 3 4 0 0 0 0 4 XS
theorem Fe:aI prog f191 (fun _=>none) [.v none]=YW:=by kernel_rfl
def YX:Tr:=cC .neq 167 3 4 0 0 0 0 4 XS
theorem EA:aI prog f192 (fun _=>none) [.v none]=YX:=by kernel_rfl
def YC:Tr:=.split (.u 3 0) On NK
def Qd:Tr:=.split (.u 5 0) MF On
def Zd:Tr:=aC 191 [(W 0 0)] [none] [7] [3] 4 true (aC 191 [(W 1 0)] [none] [9] [3] 4 true (.split (.u 2 0) YC (.split (.u 3 0) MF (cC .lss 3 14 15 0 0 1 0 4 (.split (.u 4 0) NK (cC .gtr 3 17 18 0 0 1 0 4 Qd))))))
theorem Mj:aI prog f161 (fun _=>none) [.v none, .v none]=Zd:=by kernel_rfl
def Yf:Tr:=aC 192 [(W 0 0)] [none] [7] [167] 4 true (aC 192 [(W 1 0)] [none] [9] [167] 4 true (.split (.u 2 0) YC (.split (.u 3 0) MF (cC .lss 167 14 15 0 0 1 0 4 (.split (.u 4 0) NK (cC .gtr 167 17 18 0 0 1 0 4 Qd))))))
theorem Jj:aI prog f162 (fun _=>none) [.v none, .v none]=Yf:=by kernel_rfl
def Tf:Tr:=sF 1 0 9 0 24 32 33 (oO 13 0 none 167 34 (aC 162 [(W 12 0),(W 14 0)] [none] [30,35] [167,167] 3 true (aN .neq 3 37 0 15 0 4 (.split (.u 16 0) (.ret [(W 15 0)]) (aN .sub 3 24 1 9 0 3 (.back 0 [lV 8 0,lV 17 0]))))))
def VJ:Tr:=eU 0 0 19 24 (aN .sub 3 20 1 6 0 3 (.loop 0 [lK 0,lV 7 0] (aN .geq 3 22 0 9 0 4 (.split (.u 10 0) (sF 0 0 9 0 24 27 28 (oO 11 0 none 167 29 Tf)) On))))
def Vp:Tr:=eU 0 0 9 24 (eU 1 0 12 24 (aC 161 [(W 2 0),(W 3 0)] [none] [10,13] [3,3] 3 true (aN .neq 3 15 0 4 0 4 (.split (.u 5 0) (.ret [(W 4 0)]) VJ))))
theorem Hz:aI prog f118 (fun _=>none) [.v (some 1), .v (some 1)]=Vp:=by kernel_rfl
def UG:Tr:=.need (.prim [(W 16 0)] none) (.convert 153 167 (tT 35)) 167 false (.need (.prim [(W 1 0)] none) (.convert 167 153 (tT 38)) 153 false (cC .rem 153 37 39 14 0 18 0 153 (.need (.idx 8 (.u 7 0)) (.indexAddr 24 (tT 30) (tT 31)) 0 false (.need (.strow 8 1 (.u 7 0) 0 [(.u 17 0)]) (.store 167 (tT 41) (tT 36)) 0 false (aN .sub 3 19 1 7 0 3 (.back 0 [lV 19 0,lV 21 0, .row 20]))))))
def YG:Tr:=.need (.prim [(W 6 0),(.one (.c (.k (.int .u64 1000000000))))] none) (.binOp .mul 153 (tT 21) (.const (.int .u64 1000000000)) 153) 153 false (sF 0 0 7 0 24 24 25 (oO 11 0 none 167 26 (.need (.prim [(W 12 0)] none) (.convert 167 153 (tT 27)) 153 false (cC .add 153 22 28 10 0 13 0 153 (.need (.prim [(W 1 0)] none) (.convert 167 153 (tT 33)) 153 false (cC .quo 153 32 34 14 0 15 0 153 UG))))))
def Xh:Tr:=aN .sub 3 15 1 4 0 3 (.loop 0 [(.w (.one (.c (.k (.int .u64 0))))),lV 5 0, .row 3] (aN .geq 3 17 0 7 0 4 (.split (.u 9 0) YG (aC 144 [(.one (.c (.sr 1 8)))] [(some 1)] [42] [24] 26 false (aC 122 [(W 6 0)] [(some 1)] [44] [153] 26 true (.ret [(G1 10),(G1 11)]))))))
def Xw:Tr:=eU 0 0 10 24 (.need (.make [(.int .u32 0)] 4 (.u 2 0) (.u 2 0)) (.makeSlice 24 (tT 11) (tT 11)) 24 false (eU 0 0 14 24 Xh))
theorem Lp:aI prog f182 (fun _=>none) [.v (some 1), .v none]=Xw:=by kernel_rfl
def WD:Tr:=eU 0 0 4 24 (aN .eql 3 5 1 1 0 4 (.split (.u 2 0) (.need (.prim [(W 0 0),(WK 0)] none) (.indexAddr 24 (tT 9) (.const (I3 0))) 0 false (oO 3 0 none 167 10 (.need (.prim [(W 4 0),(.one (.c (.k (.int .u32 1))))] none) (.binOp .eql 167 (tT 11) (.const (.int .u32 1)) 167) 4 false (.ret [(W 5 0)])))) (.ret [(tF false)])))
theorem Rj:aI prog f142 (fun _=>none) [.v (some 1)]=WD:=by kernel_rfl
def cR (x y:Int):Int:=if x<y then -1 else if y<x then 1 else 0
theorem wJ (x:Int):aJ prog 191 [.one (.int .i64 x)] (.ret [.one (.bool false)]):=by
 refine bP (args:=[.v none]) (ins:=[.v (.one (.int .i64 x))]) (hints:=fun _=>none) fo (by kernel_rfl) func191 ⟨rfl,trivial⟩ ?_;rw [Fe];apply vn Dp rfl;refine aE ?_;show [aD.one (.bool (!decide (x=x)))]=_;simp
theorem KS (x y:Int):aJ prog 161 [.one (.int .i64 x), .one (.int .i64 y)] (.ret [.one (.int .i64 (cR x y))]):=by
 refine bP (args:=[.v none, .v none]) (ins:=[.v (.one (.int .i64 x)), .v (.one (.int .i64 y))]) (hints:=fun _=>none) fo (by kernel_rfl) func161 ⟨rfl,rfl,trivial⟩ ?_;rw [Mj];apply aA (wJ x) rfl;apply aA (wJ y) rfl;refine cB false rfl (fun h=>by cases h) (fun _=>?_);refine cB false rfl (fun h=>by cases h) (fun _=>?_);apply vn oK rfl;refine vs _ rfl ?_ ?_<;>intro h
 ·refine aE ?_;rw [cR,if_pos h];rfl
 ·apply vn CU rfl;refine vs _ rfl ?_ ?_<;>intro h2
  ·refine aE ?_;rw [cR,if_neg h,if_pos h2];rfl
  ·refine aE ?_;rw [cR,if_neg h,if_neg h2];rfl
theorem wN (x:Int):aJ prog 192 [.one (.int .u32 x)] (.ret [.one (.bool false)]):=by
 refine bP (args:=[.v none]) (ins:=[.v (.one (.int .u32 x))]) (hints:=fun _=>none) fo (by kernel_rfl) func192 ⟨rfl,trivial⟩ ?_;rw [EA];apply vn Dp rfl;refine aE ?_;show [aD.one (.bool (!decide (x=x)))]=_;simp
theorem Kh (x y:Int):aJ prog 162 [.one (.int .u32 x), .one (.int .u32 y)] (.ret [.one (.int .i64 (cR x y))]):=by
 refine bP (args:=[.v none, .v none]) (ins:=[.v (.one (.int .u32 x)), .v (.one (.int .u32 y))]) (hints:=fun _=>none) fo (by kernel_rfl) func162 ⟨rfl,rfl,trivial⟩ ?_;rw [Jj];apply aA (wN x) rfl;apply aA (wN y) rfl;refine cB false rfl (fun h=>by cases h) (fun _=>?_);refine cB false rfl (fun h=>by cases h) (fun _=>?_);apply vn oK rfl;refine vs _ rfl ?_ ?_<;>intro h
 ·refine aE ?_;rw [cR,if_pos h];rfl
 ·apply vn CU rfl;refine vs _ rfl ?_ ?_<;>intro h2
  ·refine aE ?_;rw [cR,if_neg h,if_pos h2];rfl
  ·refine aE ?_;rw [cR,if_neg h,if_neg h2];rfl
theorem GR (z:Int):aJ prog 73 [iT z] (.ret [.one (.int .i64 z.sign)]):=by
 refine bP (args:=[.v (some 2)]) (ins:=[.v (iT z)]) (hints:=fun _=>none) fo (by kernel_rfl) func73 ⟨rfl,trivial⟩ ?_;rw [Of];apply aA (kA z.natAbs) rfl;refine vs _ rfl ?_ ?_<;>intro h
 ·refine aE ?_;have:z.sign=0:=by rw [Int.sign_eq_zero_iff_zero];omega
  rw [this];rfl
 ·refine vs _ rfl ?_ ?_<;>intro h2
  ·refine aE ?_;rw [Int.sign_eq_neg_one_of_neg h2];rfl
  ·refine aE ?_;rw [Int.sign_eq_one_of_pos (by omega)];rfl
theorem pM {xs ys:List Nat} (hx:Dg xs) (hlen:xs.length=ys.length) {i x y:Nat} (hi:xs[i]? = some x) (hj:ys[i]? = some y) (hd:xs.drop (i+1)=ys.drop (i+1)) (hxy:x<y):lv xs<lv ys:=by
 have hil:i<xs.length:=(fJ.1 hi).1
 have e1:lv xs=lv (xs.take (i+1))+1000000000^(i+1)*lv (xs.drop (i+1)):=by
  conv=>lhs;rw [←List.take_append_drop (i+1) xs]
  rw [nZ,List.length_take,Nat.min_eq_left (by omega)]
 have e2:lv ys=lv (ys.take (i+1))+1000000000^(i+1)*lv (ys.drop (i+1)):=by
  conv=>lhs;rw [←List.take_append_drop (i+1) ys]
  rw [nZ,List.length_take,Nat.min_eq_left (by omega)]
 rw [e1,e2,hd,dS hi,dS hj]
 have h1:lv (xs.take i)<1000000000^i:=by
  have:=EH (B:=1000000000) (by omega) (xs.take i) (hx.take i);rw [List.length_take,Nat.min_eq_left (by omega)] at this;exact this
 have h2:1000000000^i*(x+1)≤1000000000^i*y:=Nat.mul_le_mul_left _ hxy;rw [Nat.mul_add,Nat.mul_one] at h2;omega
theorem qP {a b:Nat} (h:(dg a).length<(dg b).length):a<b:=by
 have hb:b≠0:=by rintro rfl;rw [show dg 0 = [] from bU _] at h;simp at h
 have h1:=iB (B:=1000000000) (by omega) a;have h2:=eQ (B:=1000000000) (by omega) hb;have h3:1000000000^(dg a).length≤1000000000^((dg b).length-1):=Nat.pow_le_pow_right (by omega) (by omega);exact Nat.lt_of_lt_of_le h1 (Nat.le_trans h3 h2)
theorem nO {a b:Int} (h:a<b):cR a b = -1:=if_pos h
theorem nY {a b:Int} (h:b<a):cR a b=1:=by rw [cR,if_neg (by omega),if_pos h]
theorem uJ (a:Int):cR a a=0:=by rw [cR,if_neg (by omega),if_neg (by omega)]
theorem nN {a b:Int}:cR a b=0↔a=b:=by
 unfold cR;constructor
 ·intro h;split at h
  ·cases h
  ·split at h
   ·cases h
   ·omega
 ·rintro rfl;simp
theorem nQ (a b:Nat) (hs:(dg a).length+(dg b).length<1099511627776:=by omega):aJ prog 118 [mT a,mT b] (.ret [.one (.int .i64 (cR a b))]):=by
 refine bP (args:=[.v (some 1), .v (some 1)]) (ins:=[.v (mT a), .v (mT b)]) (hints:=fun _=>none) fo (by kernel_rfl) func118 ⟨rfl,rfl,trivial⟩ ?_;rw [Hz];dsimp only [List.map,In.env];apply vn (bB cF bI) rfl;apply vn (bB cF bI) rfl;apply aA (KS _ _) rfl;apply vn Dp rfl;dsimp only [aG,aH];refine cB (!decide (cR ((dg a).length:Int) ((dg b).length:Int)=0)) rfl (fun h=>?_) (fun h=>?_)
 ·refine aE ?_;have hne:¬ cR ((dg a).length:Int) ((dg b).length:Int)=0:=by simpa using h
  have:cR ((dg a).length:Int) ((dg b).length:Int)=cR a b:=by
   rcases Nat.lt_trichotomy (dg a).length (dg b).length with hl | hl | hl
   ·rw [nO (by omega),nO (by have:=qP hl;omega)]
   ·rw [hl] at hne;exact absurd (uJ _) hne
   ·rw [nY (by omega),nY (by have:=qP hl;omega)]
  rw [←this];rfl
 ·have he:(dg a).length=(dg b).length:=by
   have:cR ((dg a).length:Int) ((dg b).length:Int)=0:=by simpa using h
   have:=nN.1 this;omega
  apply vn (bB cF bI) rfl;apply vn (jX (c:=((dg a).length:Int)-1) (by rw [jN]<;>omega)) rfl;refine bE {n:Nat // n≤(dg a).length∧(dg a).drop n=(dg b).drop n} (fun g=>[.one (.int .i64 0), .one (.int .i64 ((g.1:Int)-1))]) (fun g=>g.1) ⟨(dg a).length,bQ _,by rw [List.drop_length,he,List.drop_length]⟩ aM.rfl (fun _=>rfl) ?_;rintro ⟨n,hn,hdr⟩;dsimp only [aG,aH];apply vn xV rfl;refine vs _ rfl ?_ ?_<;>intro h1
  ·have hla:n-1<(dg a).length:=by omega
   have hlb:n-1<(dg b).length:=by omega
   have hga:(dg a)[n-1]? = some ((dg a)[n-1]'hla):=dJ hla;have hgb:(dg b)[n-1]? = some ((dg b)[n-1]'hlb):=dJ hlb;generalize hxe:(dg a)[n-1]'hla=x at hga;generalize hye:(dg b)[n-1]'hlb=y at hgb;have htn:((n:Int)-1).toNat=n-1:=by omega
   have hdr':(dg a).drop (n-1+1)=(dg b).drop (n-1+1):=by rw [show n-1+1=n by omega];exact hdr
   apply vn (yV cF (by rw [htn];exact hga)) rfl;apply vn yM rfl;apply vn (yV cF (by rw [htn];exact hgb)) rfl;dsimp only [aG,aH];apply vn yM rfl;apply aA (Kh _ _) rfl;apply vn Dp rfl;refine cB (!decide (cR (x:Int) (y:Int)=0)) rfl (fun h2=>?_) (fun h2=>?_)
   ·refine aE ?_;have hne:¬ cR (x:Int) (y:Int)=0:=by simpa using h2
    have:cR (x:Int) (y:Int)=cR a b:=by
     rcases Nat.lt_trichotomy x y with hl | hl | hl
     ·have:=pM (gN a) he hga hgb hdr' hl;rw [fC,fC] at this;rw [nO (by omega),nO (by omega)]
     ·subst hl;exact absurd (uJ _) hne
     ·have:=pM (gN b) he.symm hgb hga hdr'.symm hl;rw [fC,fC] at this;rw [nY (by omega),nY (by omega)]
    rw [←this];rfl
   ·have hxy:x=y:=by
     have:cR (x:Int) (y:Int)=0:=by simpa using h2
     have:=nN.1 this;omega
    apply vn (jX (c:=((n-1:Nat):Int)-1) (by rw [jN]<;>omega)) rfl;dsimp only [aG,aH];refine aZ rfl ⟨⟨n-1,by omega,?_⟩,aM.rfl,by show n-1<n;omega⟩;rw [List.drop_eq_getElem_cons hla,List.drop_eq_getElem_cons hlb,hxe,hye,hxy,hdr']
  ·have hn0:n=0:=by omega
   subst hn0;refine aE ?_;rw [List.drop_zero,List.drop_zero] at hdr;have:a=b:=by have:=congrArg lv hdr;rwa [fC,fC] at this
   subst this;exact congrArg (fun x=>[aD.one (aL.int .i64 x)]) (uJ (a:Int)).symm
open Go Go.Proofs Tryz Ord
theorem BX {xs:List Nat} {i x:Nat} (h:xs[i]? = some x):lv (xs.drop i)=x+1000000000*lv (xs.drop (i+1)):=by
 have hi:i<xs.length:=(fJ.1 h).1;rw [List.drop_eq_getElem_cons hi,(fJ.1 h).2];rfl
structure An (xs:List Nat) (d n r:Nat) (os:List Nat):Prop where
 le:n≤xs.length
 len:os.length=xs.length
 dg:Dg os
 r1:r<d
 eq:lv (os.drop n)*d+r=lv (xs.drop n)
theorem An.init (xs:List Nat) {d:Nat} (hd:0<d):An xs d xs.length 0 (List.replicate xs.length 0):=⟨bQ _,by simp,Dg.rep _,hd,by simp [lv,val]⟩
theorem An.next {xs os:List Nat} {d n r x:Nat} (h:An xs d (n+1) r os) (hd:d<1000000000) (hx:xs[n]? = some x) (hx1:x<1000000000):An xs d n ((r*1000000000+x)%d) (os.set n ((r*1000000000+x)/d)):=by
 have hd0:0<d:=by have:=h.r1;omega
 have hq:(r*1000000000+x)/d<1000000000:=by
  rw [Nat.div_lt_iff_lt_mul hd0];have h1:=h.r1;have:(r+1)*1000000000≤d*1000000000:=Nat.mul_le_mul_right _ h1;rw [Nat.add_mul] at this;rw [Nat.mul_comm 1000000000 d];omega
 have hl:=h.le;have hlen:=h.len;refine ⟨by omega,by rw [List.length_set];exact hlen,h.dg.set hq,Nat.mod_lt _ hd0,?_⟩
 have hs:(os.set n ((r*1000000000+x)/d))[n]? = some ((r*1000000000+x)/d):=by
  rw [List.getElem?_set_self (by omega)]
 rw [BX hs,BX hx,List.drop_set_of_lt (by omega),←h.eq];have h1:=Nat.div_add_mod (r*1000000000+x) d;rw [Nat.mul_comm d] at h1;simp only [Nat.add_mul,Nat.mul_add,Nat.mul_assoc];omega
theorem An.fin {xs os:List Nat} {d r:Nat} (h:An xs d 0 r os):lv os=lv xs/d∧r=lv xs%d:=by
 have h1:=h.eq;rw [List.drop_zero,List.drop_zero] at h1;have h2:=h.r1;have e:lv xs=r+d*lv os:=by rw [←h1,Nat.mul_comm];omega
 constructor
 ·rw [e,Nat.add_mul_div_left _ _ (by omega),Nat.div_eq_of_lt h2,Nat.zero_add]
 ·rw [e,Nat.add_mul_mod_self_left,Nat.mod_eq_of_lt h2]
theorem Cp (a d:Nat) (hd0:0<d) (hd:d<1000000000) (hs:(dg a).length<1099511627776:=by omega):aJ prog 182 [mT a, .one (.int .u32 d)] (.ret [mT (a/d),mT (a%d)]):=by
 refine bP (args:=[.v (some 1), .v none]) (ins:=[.v (mT a), .v (.one (.int .u32 d))]) (hints:=fun _=>none) fo (by kernel_rfl) func182 ⟨rfl,rfl,trivial⟩ ?_;rw [Lp];dsimp only [List.map,In.env];apply vn (bB cF bI) rfl;refine Ds (n:=(dg a).length) (m:=(dg a).length) rfl rfl Bb (bQ _) (by omega) (by simp [maxLen];omega) ?_;apply vn (bB cF bI) rfl;apply vn (jX (c:=((dg a).length:Int)-1) (by rw [jN]<;>omega)) rfl;dsimp only [aG,aH];refine bE {g:Nat×Nat×List Nat // An (dg a) d g.1 g.2.1 g.2.2} (fun g=>[.one (.int .u64 g.1.2.1), .one (.int .i64 ((g.1.1:Int)-1)), .rows (rT g.1.2.2)]) (fun g=>g.1.1) ⟨((dg a).length,0,List.replicate (dg a).length 0),An.init _ hd0⟩ aM.rfl (fun _=>rfl) ?_;rintro ⟨⟨n,r,os⟩,hI⟩;dsimp only [aG,aH] at hI ⊢;have hr1:=hI.r1;have hln:=hI.le;apply vn xV rfl;refine vs _ rfl ?_ ?_<;>intro h1
 ·obtain ⟨m,rfl⟩:∃ m,n=m+1:=⟨n-1,by omega⟩
  have hlt:m<(dg a).length:=by omega
  have hget:(dg a)[m]? = some ((dg a)[m]'hlt):=dJ hlt;generalize (dg a)[m]'hlt=x at hget;have hx:=(gN a).get hget;have hol:m<os.length:=by rw [hI.len];omega
  have hok:os[m]? = some (os[m]'hol):=dJ hol;have htn:(((m+1:Nat):Int)-1).toNat=m:=by omega
  apply vn (oJ (c:=((r*1000000000:Nat):Int)) (by rw [mP]<;>omega)) rfl;apply vn (yV cF (by rw [htn];exact hget)) rfl;apply vn yM rfl;dsimp only [aG,aH];apply vn (fM ⟨_,eR⟩ fQ (c:=(x:Int)) (by rw [mP]<;>omega)) rfl;apply vn (dL (c:=((r*1000000000+x:Nat):Int)) (by rw [mP]<;>omega)) rfl;dsimp only [aG,aH];have hN:=hI.next hd hget hx;have hqd:=hN.dg.get (i:=m) (d:=(r*1000000000+x)/d) (List.getElem?_set_self (by omega));have hrd:=hN.r1;generalize hw:r*1000000000+x=w at hN hqd hrd ⊢;generalize hq:w/d=q at hN hqd;generalize hm:w%d=rr at hN hrd;apply vn (fM ⟨_,eR⟩ fQ (c:=(d:Int)) (by rw [mP]<;>omega)) rfl;apply vn (kV (c:=(q:Int)) (by omega) (by rw [Int.tdiv_eq_ediv_of_nonneg (by omega),←Int.natCast_ediv,hq,mP]<;>omega)) rfl;apply vn (fM ⟨_,fQ⟩ eR (c:=(q:Int)) (by rw [sM]<;>omega)) rfl;apply vn (fM ⟨_,eR⟩ fQ (c:=(d:Int)) (by rw [mP]<;>omega)) rfl;dsimp only [aG,aH];apply vn (wL (c:=(rr:Int)) (by omega) (by rw [Int.tmod_eq_emod_of_nonneg (by omega),←Int.natCast_emod,hm])) rfl;refine pF (ts:=rT os) rfl rfl (by omega) (by rw [bI];omega) ?_;refine Ca (ts:=rT os) (us:=rT (os.set m q)) rfl rfl (by omega) (kH (by rw [htn];exact hok)) (by rw [htn];exact gP) ?_;apply vn (jX (c:=(m:Int)-1) (by rw [jN]<;>omega)) rfl;dsimp only [aG,aH];exact aZ rfl ⟨⟨(m,rr,os.set m q),hN⟩,aM.rfl,by show m<m+1;omega⟩
 ·have hn0:n=0:=by omega
  subst hn0;obtain ⟨hf1,zF⟩:=hI.fin;rw [fC] at hf1 zF;apply aA (gB os hI.dg (by rw [hI.len];omega)) rfl;apply aA (eT r) rfl;dsimp only [aG,aH];refine aE ?_;rw [hf1,←zF];rfl
end Go.Sy
