/- Part. -/
import Derived.Test.YtacgmapjhpghkaaGreatDoorFa
import Derived.Test.YtacgmapjhpghkaaGreatDoorPa
set_option linter.all false
namespace Go.Sy
open Go Go.Proofs Tryz Ord
abbrev rT (ds:List Nat):List (List aD):=ds.map fun (d:Nat)=>[aD.int .u32 (d:Int)]
abbrev dg (n:Nat):List Nat:=lE 1000000000 n
abbrev lv (ds:List Nat):Nat:=val 1000000000 ds
abbrev dT (n:Nat):aD:=.slice 1 (rT (dg n))
abbrev mT (n:Nat):aJ:=.agg [dT n]
def Dg (ds:List Nat):Prop:=∀ d∈ds,d<1000000000
theorem Am {n:Int} (h0:0<=n) (h:n<4294967296):IntKind.u32.wrap n=n:=by rw [IntKind.wrap_u32];omega
theorem rG {n:Int} (h0:0<=n) (h:n<18446744073709551616):IntKind.u64.wrap n=n:=by rw [IntKind.wrap_u64];omega
theorem mY {n:Int} (h0:-9223372036854775808<=n) (h:n<9223372036854775808):IntKind.i64.wrap n=n:=by rw [IntKind.wrap_i64];omega
theorem oG {ds:List Nat} {i d:Nat} (h:ds[i]? = some d):(rT ds)[i]? = some [aD.int .u32 (d:Int)]:=by
 rw [dL,h];rfl
theorem kI {ds:List Nat} {i x:Nat}:(rT ds).set i [aD.int .u32 (x:Int)]=rT (ds.set i x):=by
 rw [rT,rT,List.map_set]
theorem cR {ds:List Nat}:(rT ds).length=ds.length:=aK _
theorem Pd {n:Nat}:dg n = []↔n=0:=by
 constructor
 .intro h;by_cases hn:n=0
  .exact hn
  .rw [dg,gS (by omega) hn] at h;cases h
 .rintro rfl;exact eD _
theorem kZ (n:Nat):Dg (dg n):=BN n
theorem iI (n:Nat):lv (dg n)=n:=xA (by omega) n
theorem Dg.take {ds:List Nat} (h:Dg ds) (n:Nat):Dg (ds.take n):=fun d hd=>h d (List.mem_of_mem_take hd)
theorem Dg.set {ds:List Nat} (h:Dg ds) {i x:Nat} (hx:x<1000000000):Dg (ds.set i x):=fun d hd=>by
 rcases List.mem_or_eq_of_mem_set hd with hd | rfl
 .exact h d hd
 .exact hx
theorem Dg.get {ds:List Nat} (h:Dg ds) {i d:Nat} (hd:ds[i]? = some d):d<1000000000:=h d (gD hd)
theorem OD {ds:List Nat} {i d:Nat} (h:ds[i]? = some d):ds.take (i+1)=ds.take i ++ [d]:=by
 rw [List.take_add_one,h];rfl
theorem tJ (xs ys:List Nat):lv (xs++ys)=lv xs+1000000000^xs.length*lv ys:=jE _ _ _
theorem aV3 (d:Nat):lv [d]=d:=by simp [lv,val]
theorem eZ {ds:List Nat} {i d:Nat} (h:ds[i]? = some d):lv (ds.take (i+1))=lv (ds.take i)+1000000000^i*d:=by
 have hi:i<ds.length:=(dR.1 h).1;rw [OD h,tJ,aV3,List.length_take,Nat.min_eq_left (by omega)]
theorem rP {os:List Nat} {i x:Nat} (h:i<os.length):lv ((os.set i x).take (i+1))=lv (os.take i)+1000000000^i*x:=by
 rw [eZ (d:=x) (by simp [h])];rw [List.take_set_of_le (aY i)]
theorem PJ {n:Nat}:List.replicate n ([Value.int .u32 0].map aD.exact)=rT (List.replicate n 0):=by
 rw [rT,List.map_replicate];rfl
theorem Dg.rep (n:Nat):Dg (List.replicate n 0):=fun d hd=>by
 obtain ⟨_,rfl⟩:=List.mem_replicate.1 hd;decide
abbrev dl (n:Nat):Nat:=(dg n).length
theorem Mc {ds:List Nat} {T ty:TypeId} {x y:Operand} {k:IntKind} {n:Int} {d:Nat} (h:eA prog T=some (237,1,4)) (hd:ds[n.toNat]? = some d) (h0:0<=n:=by omega) :
  bF prog (.indexAddr T x y) ty [.one (.slice 1 (rT ds)), .one (.int k n)] (.one (.bH [aD.int .u32 (d:Int)])):=WN h (oG hd) h0
theorem Kf {ty:TypeId} {x:Operand} {d:Int}:bF prog (.load 237 x) ty [.one (.bH [aD.int .u32 d])] (.one (.int .u32 d)):=aR (n:=1) xU (by decide) (by simp) (.inr rfl)
open Go Go.Proofs Tryz Ord
def bI2:Tr:=bI .sub 3 10 1 2 0 3 (eW 0 0 4 0 40 9 11 (eI 5 0 none 237 12 (.need (.prim [(W 6 0),(.one (.c (.k (.int .u32 0))))] none) (.binOp .eql 237 (tT 13) (.const (.int .u32 0)) 237) 4 false (.split (.u 7 0) (bI .sub 3 16 1 2 0 3 (.back 0 [lV 8 0])) (.need (.prim [(W 0 0),(W 2 0),(W 2 0)] none) (.slice 40 (tT 18) none (some (tT 19)) (some (tT 20))) 40 false (.ret [(G1 8)]))))))
def bH1:Tr:=dS 0 0 4 40 (.loop 0 [lV 1 0] (bI .gtr 3 6 0 2 0 4 (.split (.u 3 0) bI2 (.need (.prim [(W 0 0),(W 2 0),(W 2 0)] none) (.slice 40 (tT 18) none (some (tT 19)) (some (tT 20))) 40 false (.ret [(G1 4)])))))
theorem Ym:aV prog f208 (fun _=>none) [.v none]=bH1:=by kernel_rfl
theorem jK (ds:List Nat) (hd:Dg ds) (hl:ds.length<4611686018427387904:=by omega):aQ prog 208 [.one (.slice 1 (rT ds))] (.ret [mT (lv ds)]):=by
 refine cW (args:=[.v none]) (ins:=[.v (.one (.slice 1 (rT ds)))]) (hints:=fun _=>none) fo (by kernel_rfl) func208 ⟨rfl,trivial⟩ ?_;rw [Ym];apply vn (aM eB cR) rfl;refine bZ {n:Nat // n<=ds.length/\lv (ds.take n)=lv ds} (fun g=>[.one (.int .i64 g.1)]) (fun g=>g.1) ⟨ds.length,aY _,by rw [List.take_length]⟩ aX.rfl (fun _=>rfl) ?_;rintro ⟨n,hn,hv⟩;dsimp only
 have fin:∀ τ:Env,(n=0\/∃ d,ds[n-1]? = some d/\d≠0)->(rT ds).take n=rT (dg (lv ds)):=by
  intro τ h;rw [rT,rT,<-List.map_take]
  congr 1
  rw [<-hv,dg,lv,Rr (by omega) _ (hd.take n)];intro d hlast;rcases h with rfl | ⟨d',hd',hne⟩
  .simp at hlast
  .rw [List.getLast?_eq_getElem?,List.length_take,Nat.min_eq_left hn,List.getElem?_take] at hlast;split at hlast
   .rw [hd'] at hlast;simp at hlast;omega
   .cases hlast
 apply vn Sd rfl;refine vs _ rfl ?_ ?_<;>intro h
 .have hlt:n-1<ds.length:=by omega
  have hget:ds[n-1]? = some (ds[n-1]'hlt):=cC hlt;generalize ds[n-1]'hlt=d at hget;apply vn (nY (c:=((n-1:Nat):Int)) (by rw [mY]<;>omega)) rfl;apply vn (Mc eB (by simpa using hget)) rfl;apply vn Kf rfl;apply vn am2 rfl;refine vs _ rfl ?_ ?_<;>intro h2
  .apply vn (nY (c:=((n-1:Nat):Int)) (by rw [mY]<;>omega)) rfl;refine bD rfl ⟨⟨n-1,by omega,?_⟩,aX.rfl,?_⟩
   .have hd0:d=0:=by omega
    subst hd0;have:=eZ hget;rw [Nat.mul_zero,show n-1+1=n by omega] at this;exact (this.symm.trans hv)
   .show n-1<n;omega
  .apply vn (EZ eB (by simpa using hn)) rfl;refine aL ?_;exact congrArg (fun x=>[aJ.agg [aD.slice 1 x]]) (fin [] (.inr ⟨d,hget,by omega⟩))
 .apply vn (EZ eB (by simpa using hn)) rfl;refine aL ?_;exact congrArg (fun x=>[aJ.agg [aD.slice 1 x]]) (fin [] (.inl (by omega)))
open Go Go.Proofs Tryz Ord
def bn5:Tr:=.need (.prim [(W 20 0),(.one (.c (.k (.int .u32 1000000000))))] none) (.binOp .geq 237 (tT 46) (.const (.int .u32 1000000000)) 237) 4 false (.split (.u 21 0) (.need (.prim [(W 20 0),(.one (.c (.k (.int .u32 1000000000))))] none) (.binOp .sub 237 (tT 48) (.const (.int .u32 1000000000)) 237) 237 false (.need (.idx 11 (.u 10 0)) (.indexAddr 40 (tT 50) (tT 51)) 0 false (.need (.strow 11 1 (.u 10 0) 0 [(.u 22 0)]) (.store 237 (tT 53) (tT 52)) 0 false (bI .add 3 26 1 10 0 3 (.back 0 [(.w (.one (.c (.k (.int .u32 1))))),lV 24 0, .row 23]))))) (.need (.idx 11 (.u 10 0)) (.indexAddr 40 (tT 50) (tT 51)) 0 false (.need (.strow 11 1 (.u 10 0) 0 [(.u 20 0)]) (.store 237 (tT 53) (tT 52)) 0 false (bI .add 3 26 1 10 0 3 (.back 0 [(.w (.one (.c (.k (.int .u32 0))))),lV 23 0, .row 22])))))
def aM9:Tr:=eI 18 0 none 237 43 (cU .add 237 39 44 15 0 19 0 237 bn5)
def aO3:Tr:=.need (.prim [(W 15 0),(.one (.c (.k (.int .u32 1000000000))))] none) (.binOp .geq 237 (tT 46) (.const (.int .u32 1000000000)) 237) 4 false (.split (.u 18 0) (.need (.prim [(W 15 0),(.one (.c (.k (.int .u32 1000000000))))] none) (.binOp .sub 237 (tT 48) (.const (.int .u32 1000000000)) 237) 237 false (.need (.idx 11 (.u 10 0)) (.indexAddr 40 (tT 50) (tT 51)) 0 false (.need (.strow 11 1 (.u 10 0) 0 [(.u 19 0)]) (.store 237 (tT 53) (tT 52)) 0 false (bI .add 3 26 1 10 0 3 (.back 0 [(.w (.one (.c (.k (.int .u32 1))))),lV 21 0, .row 20]))))) (.need (.idx 11 (.u 10 0)) (.indexAddr 40 (tT 50) (tT 51)) 0 false (.need (.strow 11 1 (.u 10 0) 0 [(.u 15 0)]) (.store 237 (tT 53) (tT 52)) 0 false (bI .add 3 26 1 10 0 3 (.back 0 [(.w (.one (.c (.k (.int .u32 0))))),lV 20 0, .row 19])))))
def bs3:Tr:=eW 1 0 10 0 40 24 26 (eI 13 0 none 237 29 (cU .add 237 31 32 14 0 9 0 237 (dS 0 0 36 40 (cU .lss 3 34 37 10 0 16 0 4 (.split (.u 17 0) (eW 0 0 10 0 40 41 42 aM9) aO3)))))
def aK8:Tr:=.need (.idx 11 (.u 13 0)) (.indexAddr 40 (tT 55) (tT 58)) 0 false (.need (.strow 11 1 (.u 13 0) 0 [(.u 9 0)]) (.store 237 (tT 60) (tT 59)) 0 false (aZ 208 [(.one (.c (.sr 1 14)))] [(some 1)] [61] [40] 42 true (.ret [(G1 15)])))
def bF9:Tr:=bI .add 3 20 1 5 0 3 (.need (.make [(.int .u32 0)] 4 (.u 6 0) (.u 6 0)) (.makeSlice 40 (tT 21) (tT 21)) 40 false (dS 1 0 24 40 (.loop 0 [(.w (.one (.c (.k (.int .u32 0))))),lK 0, .row 7] (cU .lss 3 26 25 10 0 8 0 0 (.split (.u 12 0) bs3 (dS 1 0 57 40 aK8))))))
def bq1:Tr:=eW 0 0 10 0 40 24 26 (eI 13 0 none 237 29 (cU .add 237 31 32 14 0 9 0 237 (dS 1 0 36 40 (cU .lss 3 34 37 10 0 16 0 4 (.split (.u 17 0) (eW 1 0 10 0 40 41 42 aM9) aO3)))))
def br9:Tr:=bI .add 3 20 1 5 0 3 (.need (.make [(.int .u32 0)] 4 (.u 6 0) (.u 6 0)) (.makeSlice 40 (tT 21) (tT 21)) 40 false (dS 0 0 24 40 (.loop 0 [(.w (.one (.c (.k (.int .u32 0))))),lK 0, .row 7] (cU .lss 3 26 25 10 0 8 0 0 (.split (.u 12 0) bq1 (dS 0 0 57 40 aK8))))))
def bI0:Tr:=dS 0 0 10 40 (dS 1 0 13 40 (cU .lss 3 11 14 2 0 3 0 4 (.split (.u 4 0) (dS 1 0 19 40 bF9) (dS 0 0 19 40 br9))))
theorem aX2:aV prog f209 (fun _=>none) [.v (some 1), .v (some 1)]=bI0:=by kernel_rfl
structure pX (xs ys:List Nat) (i c:Nat) (os:List Nat):Prop where
 le:i<=xs.length
 c1:c<=1
 len:os.length=xs.length+1
 dg:Dg os
 eq:lv (os.take i)+1000000000^i*c=lv (xs.take i)+lv (ys.take i)
theorem pX.init (xs ys:List Nat):pX xs ys 0 0 (List.replicate (xs.length+1) 0):=⟨dD _,by omega,by simp,Dg.rep _,by simp [lv,val]⟩
theorem pX.next {xs ys os:List Nat} {i c x y c' z:Nat} (h:pX xs ys i c os) (hi:i<xs.length) (hx:xs[i]? = some x) (hy:ys[i]?.getD 0=y) (hc:c'<=1) (hz:z<1000000000) (he:z+1000000000*c'=x+c+y):pX xs ys (i+1) c' (os.set i z):=by
 refine ⟨hi,hc,by rw [List.length_set];exact h.len,h.dg.set hz,?_⟩;rw [rP (by rw [h.len];omega),eZ hx,Nat.pow_succ]
 have hb:lv (ys.take (i+1))=lv (ys.take i)+1000000000^i*y:=by
  cases hbi:ys[i]? with
  | some d=>rw [hbi] at hy;simp only [Option.getD_some] at hy;subst hy;exact eZ hbi
  | none=>
    rw [hbi] at hy;simp only [Option.getD_none] at hy;subst hy;have:=List.getElem?_eq_none_iff.1 hbi;rw [List.take_of_length_le (by omega),List.take_of_length_le (by omega)];omega
 rw [hb];have h1:=h.eq;have h2:=congrArg (fun t=>1000000000^i*t) he;simp only [Nat.mul_add] at h2;rw [Nat.mul_assoc];omega
theorem pX.fin {xs ys os:List Nat} {c:Nat} {n:Nat} (h:pX xs ys xs.length c os) (hle:ys.length<=xs.length) (he:lv xs+lv ys=n):lv (os.set xs.length c)=n:=by
 have h1:=rP (os:=os) (i:=xs.length) (x:=c) (by rw [h.len];omega);rw [List.take_of_length_le (by rw [List.length_set,h.len];omega)] at h1;have h2:=h.eq;rw [List.take_length,List.take_of_length_le hle] at h2;omega
set_option maxHeartbeats 1000000 in
theorem al3 (a b:Nat) (hs:(dg a).length+(dg b).length<1099511627776:=by omega):aQ prog 209 [mT a,mT b] (.ret [mT (a+b)]):=by
 refine cW (args:=[.v (some 1), .v (some 1)]) (ins:=[.v (mT a), .v (mT b)]) (hints:=fun _=>none) fo (by kernel_rfl) func209 ⟨rfl,rfl,trivial⟩ ?_;rw [aX2];dsimp only [List.map,In.env];apply vn (aM eB cR) rfl;apply vn (aM eB cR) rfl;apply vn tX rfl;refine vs _ rfl ?_ ?_<;>intro hab
 .skip
  apply vn (aM eB cR) rfl;dsimp only [aE,aF];apply vn (eV (c:=(((dg b).length+1:Nat):Int)) (by rw [mY]<;>omega)) rfl;refine xG (n:=(dg b).length+1) (m:=(dg b).length+1) rfl rfl PJ (aY _) (by omega) (by simp [maxLen];omega) ?_;apply vn (aM eB cR) rfl;refine bZ {g:Nat×Nat×List Nat // pX (dg b) (dg a) g.1 g.2.1 g.2.2} (fun g=>[.one (.int .u32 g.1.2.1), .one (.int .i64 g.1.1), .rows (rT g.1.2.2)]) (fun g=>(dg b).length-g.1.1) ⟨(0,0,List.replicate ((dg b).length+1) 0),pX.init _ _⟩ aX.rfl (fun _=>rfl) ?_;rintro ⟨⟨i,c,os⟩,hI⟩;dsimp only [aE,aF] at hI ⊢;apply vn tX rfl;refine vs _ rfl ?_ ?_<;>intro h
  .have hlt:i<(dg b).length:=by omega
   have hget:(dg b)[i]? = some ((dg b)[i]'hlt):=cC hlt;generalize (dg b)[i]'hlt=x at hget;have hx:=(kZ b).get hget;have hc:=hI.c1;have hol:i<os.length:=by rw [hI.len];omega
   have hog:(rT os)[((i:Int)).toNat]? = some [aD.int .u32 ((os[i]'hol:Nat):Int)]:=oG (by simp);apply vn (Mc eB (by simpa using hget)) rfl;apply vn Kf rfl;apply vn (eV (c:=((x+c:Nat):Int)) (by rw [Am]<;>omega)) rfl;dsimp only [aE,aF];apply vn (aM eB cR) rfl;apply vn tX rfl;refine vs _ rfl ?_ ?_<;>intro h1
   .have hlt1:i<(dg a).length:=by omega
    have hget1:(dg a)[i]? = some ((dg a)[i]'hlt1):=cC hlt1;generalize (dg a)[i]'hlt1=y at hget1;have hy:=(kZ a).get hget1;apply vn (Mc eB (by simpa using hget1)) rfl;apply vn Kf rfl;dsimp only [aE,aF];apply vn (eV (c:=((x+c+y:Nat):Int)) (by rw [Am]<;>omega)) rfl;apply vn HF rfl;refine vs _ rfl ?_ ?_<;>intro h2
    .apply vn (nY (c:=((x+c+y-1000000000:Nat):Int)) (by rw [Am]<;>omega)) rfl;refine qP (ts:=rT os) rfl rfl (by omega) (by rw [cR];omega) ?_;refine QK (ts:=rT os) (us:=rT (os.set i (x+c+y-1000000000))) rfl rfl (by omega) hog kI ?_;dsimp only [aE,aF];apply vn (eV (c:=((i+1:Nat):Int)) (by rw [mY]<;>omega)) rfl;dsimp only [aE,aF];have hN:pX _ _ (i+1) 1 (os.set i (x+c+y-1000000000)):=hI.next (y:=y) hlt hget (by rw [hget1];rfl) (by omega) (by omega) (by omega);exact bD rfl ⟨⟨(i+1,1,os.set i (x+c+y-1000000000)),hN⟩,aX.rfl,by show (dg b).length-(i+1)<(dg b).length-i;omega⟩
    .refine qP (ts:=rT os) rfl rfl (by omega) (by rw [cR];omega) ?_;refine QK (ts:=rT os) (us:=rT (os.set i (x+c+y))) rfl rfl (by omega) hog kI ?_;apply vn (eV (c:=((i+1:Nat):Int)) (by rw [mY]<;>omega)) rfl;dsimp only [aE,aF];have hN:pX _ _ (i+1) 0 (os.set i (x+c+y)):=hI.next (y:=y) hlt hget (by rw [hget1];rfl) (by omega) (by omega) (by omega);exact bD rfl ⟨⟨(i+1,0,os.set i (x+c+y)),hN⟩,aX.rfl,by show (dg b).length-(i+1)<(dg b).length-i;omega⟩
   .have hget1:(dg a)[i]? = none:=List.getElem?_eq_none (by omega);apply vn HF rfl;refine vs _ rfl ?_ ?_<;>intro h2
    .apply vn (nY (c:=((x+c-1000000000:Nat):Int)) (by rw [Am]<;>omega)) rfl;refine qP (ts:=rT os) rfl rfl (by omega) (by rw [cR];omega) ?_;refine QK (ts:=rT os) (us:=rT (os.set i (x+c-1000000000))) rfl rfl (by omega) hog kI ?_;apply vn (eV (c:=((i+1:Nat):Int)) (by rw [mY]<;>omega)) rfl;dsimp only [aE,aF];have hN:pX _ _ (i+1) 1 (os.set i (x+c-1000000000)):=hI.next (y:=0) hlt hget (by rw [hget1];rfl) (by omega) (by omega) (by omega);exact bD rfl ⟨⟨(i+1,1,os.set i (x+c-1000000000)),hN⟩,aX.rfl,by show (dg b).length-(i+1)<(dg b).length-i;omega⟩
    .refine qP (ts:=rT os) rfl rfl (by omega) (by rw [cR];omega) ?_;refine QK (ts:=rT os) (us:=rT (os.set i (x+c))) rfl rfl (by omega) hog kI ?_;apply vn (eV (c:=((i+1:Nat):Int)) (by rw [mY]<;>omega)) rfl;dsimp only [aE,aF];have hN:pX _ _ (i+1) 0 (os.set i (x+c)):=hI.next (y:=0) hlt hget (by rw [hget1];rfl) (by omega) (by omega) (by omega);exact bD rfl ⟨⟨(i+1,0,os.set i (x+c)),hN⟩,aX.rfl,by show (dg b).length-(i+1)<(dg b).length-i;omega⟩
  .have hie:i=(dg b).length:=by have:=hI.le;omega
   subst hie;have hol:(dg b).length<os.length:=by rw [hI.len];omega
   have hog:(rT os)[(((dg b).length:Int)).toNat]? = some [aD.int .u32 ((os[(dg b).length]'hol:Nat):Int)]:=oG (by simp);apply vn (aM eB cR) rfl;refine qP (ts:=rT os) rfl rfl (by omega) (by rw [cR];omega) ?_;refine QK (ts:=rT os) (us:=rT (os.set ((dg b).length) c)) rfl rfl (by omega) hog kI ?_;apply aA (jK (os.set ((dg b).length) c) (hI.dg.set (by have:=hI.c1;omega)) (by rw [List.length_set,hI.len];omega)) rfl;dsimp only [aE,aF];refine aL ?_;rw [hI.fin (n:=a+b) (by omega) (by rw [iI,iI]<;>omega)];rfl
 .skip
  apply vn (aM eB cR) rfl;apply vn (eV (c:=(((dg a).length+1:Nat):Int)) (by rw [mY]<;>omega)) rfl;refine xG (n:=(dg a).length+1) (m:=(dg a).length+1) rfl rfl PJ (aY _) (by omega) (by simp [maxLen];omega) ?_;apply vn (aM eB cR) rfl;dsimp only [aE,aF];refine bZ {g:Nat×Nat×List Nat // pX (dg a) (dg b) g.1 g.2.1 g.2.2} (fun g=>[.one (.int .u32 g.1.2.1), .one (.int .i64 g.1.1), .rows (rT g.1.2.2)]) (fun g=>(dg a).length-g.1.1) ⟨(0,0,List.replicate ((dg a).length+1) 0),pX.init _ _⟩ aX.rfl (fun _=>rfl) ?_;rintro ⟨⟨i,c,os⟩,hI⟩;dsimp only [aE,aF] at hI ⊢;apply vn tX rfl;refine vs _ rfl ?_ ?_<;>intro h
  .have hlt:i<(dg a).length:=by omega
   have hget:(dg a)[i]? = some ((dg a)[i]'hlt):=cC hlt;generalize (dg a)[i]'hlt=x at hget;have hx:=(kZ a).get hget;have hc:=hI.c1;have hol:i<os.length:=by rw [hI.len];omega
   have hog:(rT os)[((i:Int)).toNat]? = some [aD.int .u32 ((os[i]'hol:Nat):Int)]:=oG (by simp);apply vn (Mc eB (by simpa using hget)) rfl;apply vn Kf rfl;apply vn (eV (c:=((x+c:Nat):Int)) (by rw [Am]<;>omega)) rfl;dsimp only [aE,aF];apply vn (aM eB cR) rfl;apply vn tX rfl;refine vs _ rfl ?_ ?_<;>intro h1
   .have hlt1:i<(dg b).length:=by omega
    have hget1:(dg b)[i]? = some ((dg b)[i]'hlt1):=cC hlt1;generalize (dg b)[i]'hlt1=y at hget1;have hy:=(kZ b).get hget1;apply vn (Mc eB (by simpa using hget1)) rfl;apply vn Kf rfl;dsimp only [aE,aF];apply vn (eV (c:=((x+c+y:Nat):Int)) (by rw [Am]<;>omega)) rfl;apply vn HF rfl;refine vs _ rfl ?_ ?_<;>intro h2
    .apply vn (nY (c:=((x+c+y-1000000000:Nat):Int)) (by rw [Am]<;>omega)) rfl;refine qP (ts:=rT os) rfl rfl (by omega) (by rw [cR];omega) ?_;refine QK (ts:=rT os) (us:=rT (os.set i (x+c+y-1000000000))) rfl rfl (by omega) hog kI ?_;dsimp only [aE,aF];apply vn (eV (c:=((i+1:Nat):Int)) (by rw [mY]<;>omega)) rfl;dsimp only [aE,aF];have hN:pX _ _ (i+1) 1 (os.set i (x+c+y-1000000000)):=hI.next (y:=y) hlt hget (by rw [hget1];rfl) (by omega) (by omega) (by omega);exact bD rfl ⟨⟨(i+1,1,os.set i (x+c+y-1000000000)),hN⟩,aX.rfl,by show (dg a).length-(i+1)<(dg a).length-i;omega⟩
    .refine qP (ts:=rT os) rfl rfl (by omega) (by rw [cR];omega) ?_;refine QK (ts:=rT os) (us:=rT (os.set i (x+c+y))) rfl rfl (by omega) hog kI ?_;apply vn (eV (c:=((i+1:Nat):Int)) (by rw [mY]<;>omega)) rfl;dsimp only [aE,aF];have hN:pX _ _ (i+1) 0 (os.set i (x+c+y)):=hI.next (y:=y) hlt hget (by rw [hget1];rfl) (by omega) (by omega) (by omega);exact bD rfl ⟨⟨(i+1,0,os.set i (x+c+y)),hN⟩,aX.rfl,by show (dg a).length-(i+1)<(dg a).length-i;omega⟩
   .have hget1:(dg b)[i]? = none:=List.getElem?_eq_none (by omega);apply vn HF rfl;refine vs _ rfl ?_ ?_<;>intro h2
    .apply vn (nY (c:=((x+c-1000000000:Nat):Int)) (by rw [Am]<;>omega)) rfl;refine qP (ts:=rT os) rfl rfl (by omega) (by rw [cR];omega) ?_;refine QK (ts:=rT os) (us:=rT (os.set i (x+c-1000000000))) rfl rfl (by omega) hog kI ?_;apply vn (eV (c:=((i+1:Nat):Int)) (by rw [mY]<;>omega)) rfl;dsimp only [aE,aF];have hN:pX _ _ (i+1) 1 (os.set i (x+c-1000000000)):=hI.next (y:=0) hlt hget (by rw [hget1];rfl) (by omega) (by omega) (by omega);exact bD rfl ⟨⟨(i+1,1,os.set i (x+c-1000000000)),hN⟩,aX.rfl,by show (dg a).length-(i+1)<(dg a).length-i;omega⟩
    .refine qP (ts:=rT os) rfl rfl (by omega) (by rw [cR];omega) ?_;refine QK (ts:=rT os) (us:=rT (os.set i (x+c))) rfl rfl (by omega) hog kI ?_;apply vn (eV (c:=((i+1:Nat):Int)) (by rw [mY]<;>omega)) rfl;dsimp only [aE,aF];have hN:pX _ _ (i+1) 0 (os.set i (x+c)):=hI.next (y:=0) hlt hget (by rw [hget1];rfl) (by omega) (by omega) (by omega);exact bD rfl ⟨⟨(i+1,0,os.set i (x+c)),hN⟩,aX.rfl,by show (dg a).length-(i+1)<(dg a).length-i;omega⟩
  .have hie:i=(dg a).length:=by have:=hI.le;omega
   subst hie;have hol:(dg a).length<os.length:=by rw [hI.len];omega
   have hog:(rT os)[(((dg a).length:Int)).toNat]? = some [aD.int .u32 ((os[(dg a).length]'hol:Nat):Int)]:=oG (by simp);apply vn (aM eB cR) rfl;refine qP (ts:=rT os) rfl rfl (by omega) (by rw [cR];omega) ?_;refine QK (ts:=rT os) (us:=rT (os.set ((dg a).length) c)) rfl rfl (by omega) hog kI ?_;apply aA (jK (os.set ((dg a).length) c) (hI.dg.set (by have:=hI.c1;omega)) (by rw [List.length_set,hI.len];omega)) rfl;dsimp only [aE,aF];refine aL ?_;rw [hI.fin (n:=a+b) (by omega) (by rw [iI,iI]<;>omega)];rfl
open Go Go.Proofs Tryz Ord
def bF6:Tr:=dS 0 0 4 40 (bI .eql 3 5 0 1 0 4 (.ret [(W 2 0)]))
theorem aY8:aV prog f172 (fun _=>none) [.v (some 1)]=bF6:=by kernel_rfl
def bE9:Tr:=.split (.u 3 0) (.need (.prim [(W 1 0),(.one (.c (.k (.int .u64 1000000000))))] none) (.binOp .rem 236 (tT 9) (.const (.int .u64 1000000000)) 236) 236 false (.need (.prim [(W 4 0)] none) (.convert 236 237 (tT 10)) 237 false (.need (.lit 1 [[(.u 5 0)]]) (.buildSlice 40 1 #[(0,(tT 11))]) 40 false (.need (.app 1 4 (some 2) none (some 6)) (.call ⟨.builtin .append,#[(tT 8),(tT 12)],#[40,40]⟩) 40 false (.need (.prim [(W 1 0),(.one (.c (.k (.int .u64 1000000000))))] none) (.binOp .quo 236 (tT 6) (.const (.int .u64 1000000000)) 236) 236 false (.back 0 [lV 8 0, .row 7])))))) (.ret [(.agg [(.c (.sr 1 2))])])
def bG9:Tr:=.loop 0 [lV 0 0, .nilrow] (.need (.prim [(W 1 0),(.one (.c (.k (.int .u64 0))))] none) (.binOp .gtr 236 (tT 4) (.const (.int .u64 0)) 236) 4 false bE9)
theorem aJ7:aV prog f206 (fun _=>none) [.v none]=bG9:=by kernel_rfl
def bG6:Tr:=.split (.u 0 0) (aZ 172 [(G1 1)] [none] [8] [42] 4 false (.need (.prim [(W 2 0)] none) (.unOp .not 4 (tT 9)) 4 false (.ret [(.agg [(U 1 0),(U 3 0)])]))) (.ret [(.agg [(U 1 0),(tE (.bool false))])])
theorem aj2:aV prog f158 (fun _=>none) [.v none, .v (some 1)]=bG6:=by kernel_rfl
def aC0:Tr:=.ret [(WK 0)]
def az1:Tr:=.ret [(WK (-1))]
def as6:Tr:=.ret [(WK 1)]
def bG3:Tr:=aZ 172 [(G1 0)] [none] [5] [42] 4 true (.split (.u 1 0) aC0 (.split (.u 0 1) az1 as6))
theorem aA7:aV prog f91 (fun _=>none) [.v (some 2)]=bG3:=by kernel_rfl
theorem Cs (n:Nat):aQ prog 172 [mT n] (.ret [.one (.bool (decide (n=0)))]):=by
 refine cW (args:=[.v (some 1)]) (ins:=[.v (mT n)]) (hints:=fun _=>none) fo (by kernel_rfl) func172 ⟨rfl,trivial⟩ ?_;rw [aY8];apply vn (aM eB rfl) rfl;apply vn am2 rfl;refine aL ?_;show [aJ.one (.bool (decide (_=(0:Int))))]=_
 have h:((rT (dg n)).length:Int)=0↔n=0:=by
  rw [cR,<-Pd];cases dg n<;>simp;omega
 simp only [h]
theorem nN (n:Nat) (h:n<18446744073709551616:=by omega):aQ prog 206 [.one (.int .u64 n)] (.ret [mT n]):=by
 refine cW (args:=[.v none]) (ins:=[.v (.one (.int .u64 n))]) (hints:=fun _=>none) fo (by kernel_rfl) func206 ⟨rfl,trivial⟩ ?_;rw [aJ7];have hlen:(dg n).length<=3:=kC;refine bZ {p:Nat×List Nat // p.2++dg p.1=dg n/\p.1<=n} (fun g=>[.one (.int .u64 g.1.1), .rows (rT g.1.2)]) (fun g=>g.1.1) ⟨(n,[]),by simp⟩ aX.rfl (fun _=>rfl) ?_;rintro ⟨⟨k,ds⟩,hinv,hle⟩;dsimp only [List.map,In.env,aE,aF] at hinv hle ⊢;have hds:ds.length<=3:=by have:=congrArg List.length hinv;simp at this;omega
 apply vn Sd rfl;refine vs _ rfl ?_ ?_<;>intro hk
 .apply vn (Ez (c:=((k%1000000000:Nat):Int)) (by decide) (by rw [Int.tmod_eq_emod_of_nonneg (by omega)];omega)) rfl;apply vn (jH ⟨_,iU⟩ gU (c:=((k%1000000000:Nat):Int)) (Am (by omega) (by omega))) rfl;apply eK (us:=rT [k%1000000000]) rfl;refine BC (ts:=rT ds) (us:=rT [k%1000000000]) (vs:=rT (ds ++ [k%1000000000])) rfl rfl List.map_append.symm (by simp;omega) (by simp [maxLen];omega) ?_;apply vn (oX (c:=((k/1000000000:Nat):Int)) (by decide) (by rw [Int.tdiv_eq_ediv_of_nonneg (by omega),rG (by omega) (by omega)];omega)) rfl;refine bD rfl ⟨⟨(k/1000000000,ds ++ [k%1000000000]),?_,?_⟩,?_,?_⟩
  .have:k≠0:=by omega
   rw [<-hinv,dg,dg,gS (n:=k) (by omega) this];simp
  .show k/1000000000<=n;omega
  .exact aX.rfl
  .show k/1000000000<k;omega
 .have:k=0:=by omega
  subst this;refine aL ?_;have e:dg 0 = []:=eD _;rw [e,List.append_nil] at hinv;subst hinv;rfl
abbrev iT (z:Int):aJ:=.agg [dT z.natAbs, .bool (decide (z<0))]
theorem gN (m:Bool) (n:Nat) (z:Int) (hz:z=if m then -(n:Int) else n):aQ prog 158 [.one (.bool m),mT n] (.ret [iT z]):=by
 refine cW (args:=[.v none, .v (some 1)]) (ins:=[.v (.one (.bool m)), .v (mT n)]) (hints:=fun _=>none) fo (by kernel_rfl) func158 ⟨rfl,rfl,trivial⟩ ?_;rw [aj2];have ha:z.natAbs=n:=by subst hz;cases m<;>simp
 refine pY m rfl (fun hm=>?_) (fun hm=>?_)
 .subst hm;apply aA (Cs n) rfl;apply vn gX rfl;refine aL ?_;have:(!decide (n=0))=decide (z<0):=by subst hz;simp;by_cases h:n=0<;>simp [h]<;>omega
  show [aJ.agg [dT n, .bool (!decide (n=0))]]=_;rw [this,iT,ha]
 .subst hm;refine aL ?_;have:false=decide (z<0):=by subst hz;simp
  show [aJ.agg [dT n, .bool false]]=_;rw [this,iT,ha]
open Go Go.Proofs Tryz Ord
def bp6:Tr:=.need (.prim [(W 26 0),(.one (.c (.k (.int .u64 1000000000))))] none) (.binOp .rem 236 (tT 54) (.const (.int .u64 1000000000)) 236) 236 false (.need (.prim [(W 28 0)] none) (.convert 236 237 (tT 55)) 237 false (.need (.prim [(W 26 0),(.one (.c (.k (.int .u64 1000000000))))] none) (.binOp .quo 236 (tT 57) (.const (.int .u64 1000000000)) 236) 236 false (.need (.idx 15 (.u 27 0)) (.indexAddr 40 (tT 50) (tT 53)) 0 false (.need (.strow 15 1 (.u 27 0) 0 [(.u 29 0)]) (.store 237 (tT 59) (tT 56)) 0 false (bI .add 3 30 1 14 0 3 (.back 1 [lV 30 0,lV 32 0, .row 31]))))))
def bo8:Tr:=cU .add 3 42 43 7 0 14 0 3 (.need (.idx 15 (.u 22 0)) (.indexAddr 40 (tT 41) (tT 44)) 0 false (.need (.ldrow 15 (.u 22 0) 0 1 false) (.load 237 (tT 45)) 237 false (.need (.prim [(W 23 0)] none) (.convert 237 236 (tT 46)) 236 false (cU .add 236 40 47 21 0 24 0 236 (cU .add 236 35 48 13 0 25 0 236 (cU .add 3 51 52 7 0 14 0 3 bp6))))))
def bA9:Tr:=dS 1 0 64 40 (cU .add 3 62 65 7 0 17 0 3 (.need (.prim [(W 13 0)] none) (.convert 236 237 (tT 67)) 237 false (.need (.idx 15 (.u 18 0)) (.indexAddr 40 (tT 61) (tT 66)) 0 false (.need (.strow 15 1 (.u 18 0) 0 [(.u 19 0)]) (.store 237 (tT 69) (tT 68)) 0 false (bI .add 3 22 1 7 0 3 (.back 0 [lV 21 0, .row 20]))))))
def bx3:Tr:=cU .lss 3 30 29 14 0 12 0 0 (.split (.u 16 0) (eW 1 0 14 0 40 28 30 (eI 17 0 none 237 33 (.need (.prim [(W 11 0)] none) (.convert 237 236 (tT 36)) 236 false (.need (.prim [(W 18 0)] none) (.convert 237 236 (tT 38)) 236 false (cU .mul 236 37 39 19 0 20 0 236 bo8))))) bA9)
def bI6:Tr:=.loop 0 [lK 0, .row 5] (cU .lss 3 22 21 7 0 6 0 0 (.split (.u 9 0) (eW 0 0 7 0 40 20 22 (eI 10 0 none 237 25 (dS 1 0 28 40 (.loop 1 [(.w (.one (.c (.k (.int .u64 0))))),lK 0, .row 8] bx3)))) (aZ 208 [(.one (.c (.sr 1 8)))] [(some 1)] [71] [40] 42 true (.ret [(G1 10)]))))
def bH2:Tr:=dS 0 0 12 40 (dS 1 0 15 40 (cU .add 3 13 16 2 0 3 0 3 (.need (.make [(.int .u32 0)] 4 (.u 4 0) (.u 4 0)) (.makeSlice 40 (tT 17) (tT 17)) 40 false (dS 0 0 20 40 bI6))))
theorem az6:aV prog f162 (fun _=>none) [.v (some 1), .v (some 1)]=bH2:=by kernel_rfl
theorem bh5 {os:List Nat} {j z old n:Nat} (hj:os[j]? = some old) (hjn:j<n:=by omega):lv ((os.set j z).take n)+1000000000^j*old=lv (os.take n)+1000000000^j*z:=by
 have hlt:j<os.length:=(dR.1 hj).1
 have key:∀ (os:List Nat) (j n:Nat),os[j]? = some old->j<n->lv ((os.set j z).take n)+1000000000^j*old=lv (os.take n)+1000000000^j*z:=by
  intro os
  induction os with
  | nil=>intro j n h;simp at h
  | cons d os ih=>
    intro j n h hn;obtain ⟨m,rfl⟩:∃ m,n=m+1:=⟨n-1,by omega⟩
    cases j with
    | zero=>
      simp only [List.getElem?_cons_zero,aN] at h;subst h;simp only [List.set_cons_zero,List.take_succ_cons,lv,val];omega
    | succ j=>
      have:=ih j m (by simpa using h) (by omega);simp only [List.set_cons_succ,List.take_succ_cons,lv,val,Nat.pow_succ] at this ⊢;have h1:1000000000^j*1000000000*old=1000000000*(1000000000^j*old):=by rw [Nat.mul_right_comm,Nat.mul_comm]
      have h2:1000000000^j*1000000000*z=1000000000*(1000000000^j*z):=by rw [Nat.mul_right_comm,Nat.mul_comm]
      rw [h1,h2];omega
 exact key os j n hj hjn
theorem aF4 (n:Nat):lv (List.replicate n 0)=0:=by
 induction n with
 | zero=>rfl
 | succ n ih=>rw [List.replicate_succ,lv,val];simp only [lv] at ih;rw [ih]
structure QJ (xs ys:List Nat) (i:Nat) (os:List Nat):Prop where
 le:i<=xs.length
 len:os.length=xs.length+ys.length
 dg:Dg os
 eq:lv (os.take (i+ys.length))=lv (xs.take i)*lv ys
structure TIn (xs ys:List Nat) (i x T k c:Nat) (os:List Nat):Prop where
 le:k<=ys.length
 len:os.length=xs.length+ys.length
 dg:Dg os
 c1:c<1000000000
 eq:lv (os.take (i+ys.length))+1000000000^(i+k)*c=T+x*(1000000000^i*lv (ys.take k))
theorem QJ.init (xs ys:List Nat):QJ xs ys 0 (List.replicate (xs.length+ys.length) 0):=⟨dD _,by simp,Dg.rep _,by
 rw [List.take_replicate,aF4];simp [lv,val]⟩
theorem QJ.inn {xs ys os:List Nat} {i x:Nat} (h:QJ xs ys i os):TIn xs ys i x (lv (xs.take i)*lv ys) 0 0 os:=⟨dD _,h.len,h.dg,by omega,by rw [h.eq];simp [lv,val]⟩
theorem TIn.next {xs ys os:List Nat} {i x T k c y old z c':Nat} (h:TIn xs ys i x T k c os) (hi:i<xs.length) (hk:k<ys.length) (hx:x<1000000000) (hy:ys[k]? = some y) (ho:os[i+k]? = some old) (hz:z<1000000000) (hc:c'<1000000000) (he:z+1000000000*c'=c+(x*y+old)) :
  TIn xs ys i x T (k+1) c' (os.set (i+k) z):=by
 refine ⟨hk,by rw [List.length_set];exact h.len,h.dg.set hz,hc,?_⟩;have h1:=bh5 (z:=z) (n:=i+ys.length) ho;have h2:=congrArg (fun t=>1000000000^(i+k)*t) he;have h3:=h.eq;rw [eZ hy];simp only [Nat.mul_add] at h2 ⊢;have e1:1000000000^(i+(k+1))*c'=1000000000^(i+k)*(1000000000*c'):=by rw [<-Nat.add_assoc,Nat.pow_succ,Nat.mul_assoc]
 have e2:x*(1000000000^i*(1000000000^k*y))=1000000000^(i+k)*(x*y):=by rw [Nat.pow_add];simp only [Nat.mul_left_comm,Nat.mul_assoc]
 rw [e1,e2];omega
theorem TIn.out {xs ys os:List Nat} {i x c:Nat} (h:TIn xs ys i x (lv (xs.take i)*lv ys) ys.length c os) (hx:xs[i]? = some x):QJ xs ys (i+1) (os.set (i+ys.length) c):=by
 have hi:i<xs.length:=(dR.1 hx).1;refine ⟨hi,by rw [List.length_set];exact h.len,h.dg.set h.c1,?_⟩;have h3:=h.eq;rw [List.take_length] at h3;rw [show i+1+ys.length=i+ys.length+1 by omega,rP (by rw [h.len];omega),eZ hx,h3,Nat.add_mul]
 congr 1
 rw [Nat.mul_left_comm,<-Nat.mul_assoc]
theorem QJ.fin {xs ys os:List Nat} (h:QJ xs ys xs.length os):lv os=lv xs*lv ys:=by
 have:=h.eq;rw [List.take_of_length_le (by rw [h.len];omega),List.take_length] at this;exact this
set_option maxHeartbeats 1000000 in
theorem nH (a b:Nat) (hs:(dg a).length+(dg b).length<1099511627776:=by omega):aQ prog 162 [mT a,mT b] (.ret [mT (a*b)]):=by
 refine cW (args:=[.v (some 1), .v (some 1)]) (ins:=[.v (mT a), .v (mT b)]) (hints:=fun _=>none) fo (by kernel_rfl) func162 ⟨rfl,rfl,trivial⟩ ?_;rw [az6];dsimp only [List.map,In.env];apply vn (aM eB cR) rfl;apply vn (aM eB cR) rfl;apply vn (eV (c:=(((dg a).length+(dg b).length:Nat):Int)) (by rw [mY]<;>omega)) rfl;refine xG (n:=(dg a).length+(dg b).length) (m:=(dg a).length+(dg b).length) rfl rfl PJ (aY _) (by omega) (by simp [maxLen];omega) ?_;dsimp only [aE,aF];apply vn (aM eB cR) rfl;refine bZ {g:Nat×List Nat // QJ (dg a) (dg b) g.1 g.2} (fun g=>[.one (.int .i64 g.1.1), .rows (rT g.1.2)]) (fun g=>(dg a).length-g.1.1) ⟨(0,List.replicate ((dg a).length+(dg b).length) 0),QJ.init _ _⟩ aX.rfl (fun _=>rfl) ?_;rintro ⟨⟨i,os⟩,hO⟩;dsimp only [aE,aF] at hO ⊢;apply vn tX rfl;refine vs _ rfl ?_ ?_<;>intro h
 .have hlt:i<(dg a).length:=by omega
  have hget:(dg a)[i]? = some ((dg a)[i]'hlt):=cC hlt;generalize (dg a)[i]'hlt=x at hget;have hx:=(kZ a).get hget;apply vn (Mc eB (by simpa using hget)) rfl;apply vn Kf rfl;apply vn (aM eB cR) rfl;dsimp only [aE,aF];refine bZ {g:Nat×Nat×List Nat // TIn (dg a) (dg b) i x (lv ((dg a).take i)*lv (dg b)) g.1 g.2.1 g.2.2} (fun g=>[.one (.int .u64 g.1.2.1), .one (.int .i64 g.1.1), .rows (rT g.1.2.2)]) (fun g=>(dg b).length-g.1.1) ⟨(0,0,os),hO.inn⟩ aX.rfl (fun _=>rfl) ?_;rintro ⟨⟨k,c,os2⟩,hI⟩;dsimp only [aE,aF] at hI ⊢;have hc:=hI.c1;apply vn tX rfl;refine vs _ rfl ?_ ?_<;>intro h1
  .have hlk:k<(dg b).length:=by omega
   have hgk:(dg b)[k]? = some ((dg b)[k]'hlk):=cC hlk;generalize (dg b)[k]'hlk=y at hgk;have hy:=(kZ b).get hgk;have hol:i+k<os2.length:=by rw [hI.len];omega
   have hok:os2[i+k]? = some (os2[i+k]'hol):=cC hol;generalize os2[i+k]'hol=old at hok;have hold:=hI.dg.get hok;have hxy:x*y<=999999999*999999999:=Nat.mul_le_mul (by omega) (by omega);apply vn (Mc eB (by simpa using hgk)) rfl;apply vn Kf rfl;apply vn (jH ⟨_,gU⟩ iU (c:=(x:Int)) (by rw [rG]<;>omega)) rfl;dsimp only [aE,aF];apply vn (jH ⟨_,gU⟩ iU (c:=(y:Int)) (by rw [rG]<;>omega)) rfl;apply vn (wQ (c:=((x*y:Nat):Int)) (by rw [<-Int.natCast_mul,rG]<;>omega)) rfl;apply vn (eV (c:=((i+k:Nat):Int)) (by rw [mY]<;>omega)) rfl;refine qP (ts:=rT os2) rfl rfl (by omega) (by rw [cR];omega) ?_;refine vld (ts:=rT os2) (cells:=[aD.int .u32 (old:Int)]) (t:=.one (.int .u32 (old:Int))) rfl rfl (by omega) (oG (by rw [Int.toNat_natCast];exact hok)) (.inr rfl) rfl ?_;dsimp only [aE,aF];apply vn (jH ⟨_,gU⟩ iU (c:=(old:Int)) (by rw [rG]<;>omega)) rfl;apply vn (eV (c:=((x*y+old:Nat):Int)) (by rw [rG]<;>omega)) rfl;apply vn (eV (c:=((c+(x*y+old):Nat):Int)) (by rw [rG]<;>omega)) rfl;dsimp only [aE,aF];generalize qH:c+(x*y+old)=w;have hw:w<1000000000*1000000000:=by omega
   apply vn (eV (c:=((i+k:Nat):Int)) (by rw [mY]<;>omega)) rfl;apply vn (Ez (c:=((w%1000000000:Nat):Int)) (by decide) (by rw [Int.tmod_eq_emod_of_nonneg (by omega)];omega)) rfl;apply vn (jH ⟨_,iU⟩ gU (c:=((w%1000000000:Nat):Int)) (by rw [Am]<;>omega)) rfl;apply vn (oX (c:=((w/1000000000:Nat):Int)) (by decide) (by rw [Int.tdiv_eq_ediv_of_nonneg (by omega),rG]<;>omega)) rfl;dsimp only [aE,aF];refine qP (ts:=rT os2) rfl rfl (by omega) (by rw [cR];omega) ?_;refine QK (ts:=rT os2) (us:=rT (os2.set (i+k) (w%1000000000))) rfl rfl (by omega) (oG (by rw [Int.toNat_natCast];exact hok)) kI ?_;apply vn (eV (c:=((k+1:Nat):Int)) (by rw [mY]<;>omega)) rfl;dsimp only [aE,aF];have hN:TIn (dg a) (dg b) i x (lv ((dg a).take i)*lv (dg b)) (k+1) (w/1000000000) (os2.set (i+k) (w%1000000000)):=hI.next hlt hlk hx hgk hok (by omega) (by omega) (by omega);exact bD rfl ⟨⟨(k+1,w/1000000000,os2.set (i+k) (w%1000000000)),hN⟩,aX.rfl,by show (dg b).length-(k+1)<(dg b).length-k;omega⟩
  .have hke:k=(dg b).length:=by have:=hI.le;omega
   subst hke;have hol:i+(dg b).length<os2.length:=by rw [hI.len];omega
   have hok:os2[i+(dg b).length]? = some (os2[i+(dg b).length]'hol):=cC hol;apply vn (aM eB cR) rfl;apply vn (eV (c:=((i+(dg b).length:Nat):Int)) (by rw [mY]<;>omega)) rfl;apply vn (jH ⟨_,iU⟩ gU (c:=(c:Int)) (by rw [Am]<;>omega)) rfl;refine qP (ts:=rT os2) rfl rfl (by omega) (by rw [cR];omega) ?_;refine QK (ts:=rT os2) (us:=rT (os2.set (i+(dg b).length) c)) rfl rfl (by omega) (oG (by rw [Int.toNat_natCast];exact hok)) kI ?_;dsimp only [aE,aF];apply vn (eV (c:=((i+1:Nat):Int)) (by rw [mY]<;>omega)) rfl;dsimp only [aE,aF];exact bD rfl ⟨⟨(i+1,os2.set (i+(dg b).length) c),hI.out hget⟩,aX.rfl,by show (dg a).length-(i+1)<(dg a).length-i;omega⟩
 .have hie:i=(dg a).length:=by have:=hO.le;omega
  subst hie;apply aA (jK os hO.dg (by rw [hO.len];omega)) rfl;dsimp only [aE,aF];refine aL ?_;have hf:=hO.fin;rw [iI,iI] at hf;rw [hf];rfl
open Go Go.Proofs Tryz Ord
def by6:Tr:=.ret [(W 1 0)]
def bE5:Tr:=cU .neq 3 3 4 0 0 0 0 4 by6
theorem Vv:aV prog f233 (fun _=>none) [.v none]=bE5:=by kernel_rfl
def bE7:Tr:=cU .neq 237 3 4 0 0 0 0 4 by6
theorem Uz:aV prog f234 (fun _=>none) [.v none]=bE7:=by kernel_rfl
def bB9:Tr:=.split (.u 3 0) aC0 az1
def aN8:Tr:=.split (.u 5 0) as6 aC0
def bF2:Tr:=aZ 233 [(W 0 0)] [none] [7] [3] 4 true (aZ 233 [(W 1 0)] [none] [9] [3] 4 true (.split (.u 2 0) bB9 (.split (.u 3 0) as6 (cU .lss 3 14 15 0 0 1 0 4 (.split (.u 4 0) az1 (cU .gtr 3 17 18 0 0 1 0 4 aN8))))))
theorem aq1:aV prog f210 (fun _=>none) [.v none, .v none]=bF2:=by kernel_rfl
def bA0:Tr:=aZ 234 [(W 0 0)] [none] [7] [237] 4 true (aZ 234 [(W 1 0)] [none] [9] [237] 4 true (.split (.u 2 0) bB9 (.split (.u 3 0) as6 (cU .lss 237 14 15 0 0 1 0 4 (.split (.u 4 0) az1 (cU .gtr 237 17 18 0 0 1 0 4 aN8))))))
theorem ZX:aV prog f211 (fun _=>none) [.v none, .v none]=bA0:=by kernel_rfl
def bc6:Tr:=eW 1 0 9 0 40 32 33 (eI 13 0 none 237 34 (aZ 211 [(W 12 0),(W 14 0)] [none] [30,35] [237,237] 3 true (bI .neq 3 37 0 15 0 4 (.split (.u 16 0) (.ret [(W 15 0)]) (bI .sub 3 24 1 9 0 3 (.back 0 [lV 8 0,lV 17 0]))))))
def bq0:Tr:=dS 0 0 19 40 (bI .sub 3 20 1 6 0 3 (.loop 0 [lK 0,lV 7 0] (bI .geq 3 22 0 9 0 4 (.split (.u 10 0) (eW 0 0 9 0 40 27 28 (eI 11 0 none 237 29 bc6)) aC0))))
def bo6:Tr:=dS 0 0 9 40 (dS 1 0 12 40 (aZ 210 [(W 2 0),(W 3 0)] [none] [10,13] [3,3] 3 true (bI .neq 3 15 0 4 0 4 (.split (.u 5 0) (.ret [(W 4 0)]) bq0))))
theorem Yk:aV prog f164 (fun _=>none) [.v (some 1), .v (some 1)]=bo6:=by kernel_rfl
def bl3:Tr:=.need (.prim [(W 16 0)] none) (.convert 236 237 (tT 35)) 237 false (.need (.prim [(W 1 0)] none) (.convert 237 236 (tT 38)) 236 false (cU .rem 236 37 39 14 0 18 0 236 (.need (.idx 8 (.u 7 0)) (.indexAddr 40 (tT 30) (tT 31)) 0 false (.need (.strow 8 1 (.u 7 0) 0 [(.u 17 0)]) (.store 237 (tT 41) (tT 36)) 0 false (bI .sub 3 19 1 7 0 3 (.back 0 [lV 19 0,lV 21 0, .row 20]))))))
def bC6:Tr:=.need (.prim [(W 6 0),(.one (.c (.k (.int .u64 1000000000))))] none) (.binOp .mul 236 (tT 21) (.const (.int .u64 1000000000)) 236) 236 false (eW 0 0 7 0 40 24 25 (eI 11 0 none 237 26 (.need (.prim [(W 12 0)] none) (.convert 237 236 (tT 27)) 236 false (cU .add 236 22 28 10 0 13 0 236 (.need (.prim [(W 1 0)] none) (.convert 237 236 (tT 33)) 236 false (cU .quo 236 32 34 14 0 15 0 236 bl3))))))
def bw0:Tr:=bI .sub 3 15 1 4 0 3 (.loop 0 [(.w (.one (.c (.k (.int .u64 0))))),lV 5 0, .row 3] (bI .geq 3 17 0 7 0 4 (.split (.u 9 0) bC6 (aZ 208 [(.one (.c (.sr 1 8)))] [(some 1)] [42] [40] 42 false (aZ 206 [(W 6 0)] [(some 1)] [44] [236] 42 true (.ret [(G1 10),(G1 11)]))))))
def bw8:Tr:=dS 0 0 10 40 (.need (.make [(.int .u32 0)] 4 (.u 2 0) (.u 2 0)) (.makeSlice 40 (tT 11) (tT 11)) 40 false (dS 0 0 14 40 bw0))
theorem ak6:aV prog f243 (fun _=>none) [.v (some 1), .v none]=bw8:=by kernel_rfl
def bt5:Tr:=dS 0 0 4 40 (bI .eql 3 5 1 1 0 4 (.split (.u 2 0) (.need (.prim [(W 0 0),(WK 0)] none) (.indexAddr 40 (tT 9) (.const (I3 0))) 0 false (eI 3 0 none 237 10 (.need (.prim [(W 4 0),(.one (.c (.k (.int .u32 1))))] none) (.binOp .eql 237 (tT 11) (.const (.int .u32 1)) 237) 4 false (.ret [(W 5 0)])))) (.ret [(tF false)])))
theorem aU3:aV prog f221 (fun _=>none) [.v (some 1)]=bt5:=by kernel_rfl
def eT (x y:Int):Int:=if x<y then -1 else if y<x then 1 else 0
theorem Eu (x:Int):aQ prog 233 [.one (.int .i64 x)] (.ret [.one (.bool false)]):=by
 refine cW (args:=[.v none]) (ins:=[.v (.one (.int .i64 x))]) (hints:=fun _=>none) fo (by kernel_rfl) func233 ⟨rfl,trivial⟩ ?_;rw [Vv];apply vn SM rfl;refine aL ?_;show [aJ.one (.bool (!decide (x=x)))]=_;simp
theorem ai1 (x y:Int):aQ prog 210 [.one (.int .i64 x), .one (.int .i64 y)] (.ret [.one (.int .i64 (eT x y))]):=by
 refine cW (args:=[.v none, .v none]) (ins:=[.v (.one (.int .i64 x)), .v (.one (.int .i64 y))]) (hints:=fun _=>none) fo (by kernel_rfl) func210 ⟨rfl,rfl,trivial⟩ ?_;rw [aq1];apply aA (Eu x) rfl;apply aA (Eu y) rfl;refine pY false rfl (fun h=>by cases h) (fun _=>?_);refine pY false rfl (fun h=>by cases h) (fun _=>?_);apply vn tX rfl;refine vs _ rfl ?_ ?_<;>intro h
 .refine aL ?_;rw [eT,if_pos h];rfl
 .apply vn Sd rfl;refine vs _ rfl ?_ ?_<;>intro h2
  .refine aL ?_;rw [eT,if_neg h,if_pos h2];rfl
  .refine aL ?_;rw [eT,if_neg h,if_neg h2];rfl
theorem EK (x:Int):aQ prog 234 [.one (.int .u32 x)] (.ret [.one (.bool false)]):=by
 refine cW (args:=[.v none]) (ins:=[.v (.one (.int .u32 x))]) (hints:=fun _=>none) fo (by kernel_rfl) func234 ⟨rfl,trivial⟩ ?_;rw [Uz];apply vn SM rfl;refine aL ?_;show [aJ.one (.bool (!decide (x=x)))]=_;simp
theorem ae2 (x y:Int):aQ prog 211 [.one (.int .u32 x), .one (.int .u32 y)] (.ret [.one (.int .i64 (eT x y))]):=by
 refine cW (args:=[.v none, .v none]) (ins:=[.v (.one (.int .u32 x)), .v (.one (.int .u32 y))]) (hints:=fun _=>none) fo (by kernel_rfl) func211 ⟨rfl,rfl,trivial⟩ ?_;rw [ZX];apply aA (EK x) rfl;apply aA (EK y) rfl;refine pY false rfl (fun h=>by cases h) (fun _=>?_);refine pY false rfl (fun h=>by cases h) (fun _=>?_);apply vn tX rfl;refine vs _ rfl ?_ ?_<;>intro h
 .refine aL ?_;rw [eT,if_pos h];rfl
 .apply vn Sd rfl;refine vs _ rfl ?_ ?_<;>intro h2
  .refine aL ?_;rw [eT,if_neg h,if_pos h2];rfl
  .refine aL ?_;rw [eT,if_neg h,if_neg h2];rfl
theorem aF9 (z:Int):aQ prog 91 [iT z] (.ret [.one (.int .i64 z.sign)]):=by
 refine cW (args:=[.v (some 2)]) (ins:=[.v (iT z)]) (hints:=fun _=>none) fo (by kernel_rfl) func91 ⟨rfl,trivial⟩ ?_;rw [aA7];apply aA (Cs z.natAbs) rfl;refine vs _ rfl ?_ ?_<;>intro h
 .refine aL ?_;have:z.sign=0:=by rw [Int.sign_eq_zero_iff_zero];omega
  rw [this];rfl
 .refine vs _ rfl ?_ ?_<;>intro h2
  .refine aL ?_;rw [Int.sign_eq_neg_one_of_neg h2];rfl
  .refine aL ?_;rw [Int.sign_eq_one_of_pos (by omega)];rfl
theorem wB {xs ys:List Nat} (hx:Dg xs) (hlen:xs.length=ys.length) {i x y:Nat} (hi:xs[i]? = some x) (hj:ys[i]? = some y) (hd:xs.drop (i+1)=ys.drop (i+1)) (hxy:x<y):lv xs<lv ys:=by
 have hil:i<xs.length:=(dR.1 hi).1
 have e1:lv xs=lv (xs.take (i+1))+1000000000^(i+1)*lv (xs.drop (i+1)):=by
  conv=>lhs;rw [<-List.take_append_drop (i+1) xs]
  rw [tJ,List.length_take,Nat.min_eq_left (by omega)]
 have e2:lv ys=lv (ys.take (i+1))+1000000000^(i+1)*lv (ys.drop (i+1)):=by
  conv=>lhs;rw [<-List.take_append_drop (i+1) ys]
  rw [tJ,List.length_take,Nat.min_eq_left (by omega)]
 rw [e1,e2,hd,eZ hi,eZ hj]
 have h1:lv (xs.take i)<1000000000^i:=by
  have:=UO (B:=1000000000) (by omega) (xs.take i) (hx.take i);rw [List.length_take,Nat.min_eq_left (by omega)] at this;exact this
 have h2:1000000000^i*(x+1)<=1000000000^i*y:=Nat.mul_le_mul_left _ hxy;rw [Nat.mul_add,Nat.mul_one] at h2;omega
theorem xY {a b:Nat} (h:(dg a).length<(dg b).length):a<b:=by
 have hb:b≠0:=by rintro rfl;rw [show dg 0 = [] from eD _] at h;simp at h
 have h1:=lB (B:=1000000000) (by omega) a;have h2:=gC (B:=1000000000) (by omega) hb;have h3:1000000000^(dg a).length<=1000000000^((dg b).length-1):=Nat.pow_le_pow_right (by omega) (by omega);exact Nat.lt_of_lt_of_le h1 (Nat.le_trans h3 h2)
theorem sX {a b:Int} (h:a<b):eT a b = -1:=if_pos h
theorem tI {a b:Int} (h:b<a):eT a b=1:=by rw [eT,if_neg (by omega),if_pos h]
theorem BU (a:Int):eT a a=0:=by rw [eT,if_neg (by omega),if_neg (by omega)]
theorem Np {a b:Int}:eT a b=0↔a=b:=by
 unfold eT;constructor
 .intro h;split at h
  .cases h
  .split at h
   .cases h
   .omega
 .rintro rfl;simp
theorem sY (a b:Nat) (hs:(dg a).length+(dg b).length<1099511627776:=by omega):aQ prog 164 [mT a,mT b] (.ret [.one (.int .i64 (eT a b))]):=by
 refine cW (args:=[.v (some 1), .v (some 1)]) (ins:=[.v (mT a), .v (mT b)]) (hints:=fun _=>none) fo (by kernel_rfl) func164 ⟨rfl,rfl,trivial⟩ ?_;rw [Yk];dsimp only [List.map,In.env];apply vn (aM eB cR) rfl;apply vn (aM eB cR) rfl;apply aA (ai1 _ _) rfl;apply vn SM rfl;dsimp only [aE,aF];refine pY (!decide (eT ((dg a).length:Int) ((dg b).length:Int)=0)) rfl (fun h=>?_) (fun h=>?_)
 .refine aL ?_;have hne:¬ eT ((dg a).length:Int) ((dg b).length:Int)=0:=by simpa using h
  have:eT ((dg a).length:Int) ((dg b).length:Int)=eT a b:=by
   rcases Nat.lt_trichotomy (dg a).length (dg b).length with hl | hl | hl
   .rw [sX (by omega),sX (by have:=xY hl;omega)]
   .rw [hl] at hne;exact absurd (BU _) hne
   .rw [tI (by omega),tI (by have:=xY hl;omega)]
  rw [<-this];rfl
 .have he:(dg a).length=(dg b).length:=by
   have:eT ((dg a).length:Int) ((dg b).length:Int)=0:=by simpa using h
   have:=Np.1 this;omega
  apply vn (aM eB cR) rfl;apply vn (nY (c:=((dg a).length:Int)-1) (by rw [mY]<;>omega)) rfl;refine bZ {n:Nat // n<=(dg a).length/\(dg a).drop n=(dg b).drop n} (fun g=>[.one (.int .i64 0), .one (.int .i64 ((g.1:Int)-1))]) (fun g=>g.1) ⟨(dg a).length,aY _,by rw [List.drop_length,he,List.drop_length]⟩ aX.rfl (fun _=>rfl) ?_;rintro ⟨n,hn,hdr⟩;dsimp only [aE,aF];apply vn HF rfl;refine vs _ rfl ?_ ?_<;>intro h1
  .have hla:n-1<(dg a).length:=by omega
   have hlb:n-1<(dg b).length:=by omega
   have hga:(dg a)[n-1]? = some ((dg a)[n-1]'hla):=cC hla;have hgb:(dg b)[n-1]? = some ((dg b)[n-1]'hlb):=cC hlb;generalize hxe:(dg a)[n-1]'hla=x at hga;generalize hye:(dg b)[n-1]'hlb=y at hgb;have htn:((n:Int)-1).toNat=n-1:=by omega
   have hdr':(dg a).drop (n-1+1)=(dg b).drop (n-1+1):=by rw [show n-1+1=n by omega];exact hdr
   apply vn (Mc eB (by rw [htn];exact hga)) rfl;apply vn Kf rfl;apply vn (Mc eB (by rw [htn];exact hgb)) rfl;dsimp only [aE,aF];apply vn Kf rfl;apply aA (ae2 _ _) rfl;apply vn SM rfl;refine pY (!decide (eT (x:Int) (y:Int)=0)) rfl (fun h2=>?_) (fun h2=>?_)
   .refine aL ?_;have hne:¬ eT (x:Int) (y:Int)=0:=by simpa using h2
    have:eT (x:Int) (y:Int)=eT a b:=by
     rcases Nat.lt_trichotomy x y with hl | hl | hl
     .have:=wB (kZ a) he hga hgb hdr' hl;rw [iI,iI] at this;rw [sX (by omega),sX (by omega)]
     .subst hl;exact absurd (BU _) hne
     .have:=wB (kZ b) he.symm hgb hga hdr'.symm hl;rw [iI,iI] at this;rw [tI (by omega),tI (by omega)]
    rw [<-this];rfl
   .have hxy:x=y:=by
     have:eT (x:Int) (y:Int)=0:=by simpa using h2
     have:=Np.1 this;omega
    apply vn (nY (c:=((n-1:Nat):Int)-1) (by rw [mY]<;>omega)) rfl;dsimp only [aE,aF];refine bD rfl ⟨⟨n-1,by omega,?_⟩,aX.rfl,by show n-1<n;omega⟩;rw [List.drop_eq_getElem_cons hla,List.drop_eq_getElem_cons hlb,hxe,hye,hxy,hdr']
  .have hn0:n=0:=by omega
   subst hn0;refine aL ?_;rw [List.drop_zero,List.drop_zero] at hdr;have:a=b:=by have:=congrArg lv hdr;rwa [iI,iI] at this
   subst this;exact congrArg (fun x=>[aJ.one (aD.int .i64 x)]) (BU (a:Int)).symm
open Go Go.Proofs Tryz Ord
theorem QI {xs:List Nat} {i x:Nat} (h:xs[i]? = some x):lv (xs.drop i)=x+1000000000*lv (xs.drop (i+1)):=by
 have hi:i<xs.length:=(dR.1 h).1;rw [List.drop_eq_getElem_cons hi,(dR.1 h).2];rfl
structure On (xs:List Nat) (d n r:Nat) (os:List Nat):Prop where
 le:n<=xs.length
 len:os.length=xs.length
 dg:Dg os
 r1:r<d
 eq:lv (os.drop n)*d+r=lv (xs.drop n)
theorem On.init (xs:List Nat) {d:Nat} (hd:0<d):On xs d xs.length 0 (List.replicate xs.length 0):=⟨aY _,by simp,Dg.rep _,hd,by simp [lv,val]⟩
theorem On.next {xs os:List Nat} {d n r x:Nat} (h:On xs d (n+1) r os) (hd:d<1000000000) (hx:xs[n]? = some x) (hx1:x<1000000000):On xs d n ((r*1000000000+x)%d) (os.set n ((r*1000000000+x)/d)):=by
 have hd0:0<d:=by have:=h.r1;omega
 have hq:(r*1000000000+x)/d<1000000000:=by
  rw [Nat.div_lt_iff_lt_mul hd0];have h1:=h.r1;have:(r+1)*1000000000<=d*1000000000:=Nat.mul_le_mul_right _ h1;rw [Nat.add_mul] at this;rw [Nat.mul_comm 1000000000 d];omega
 have hl:=h.le;have hlen:=h.len;refine ⟨by omega,by rw [List.length_set];exact hlen,h.dg.set hq,Nat.mod_lt _ hd0,?_⟩
 have hs:(os.set n ((r*1000000000+x)/d))[n]? = some ((r*1000000000+x)/d):=by
  rw [List.getElem?_set_self (by omega)]
 rw [QI hs,QI hx,List.drop_set_of_lt (by omega),<-h.eq];have h1:=Nat.div_add_mod (r*1000000000+x) d;rw [Nat.mul_comm d] at h1;simp only [Nat.add_mul,Nat.mul_add,Nat.mul_assoc];omega
theorem On.fin {xs os:List Nat} {d r:Nat} (h:On xs d 0 r os):lv os=lv xs/d/\r=lv xs%d:=by
 have h1:=h.eq;rw [List.drop_zero,List.drop_zero] at h1;have h2:=h.r1;have e:lv xs=r+d*lv os:=by rw [<-h1,Nat.mul_comm];omega
 constructor
 .rw [e,Nat.add_mul_div_left _ _ (by omega),Nat.div_eq_of_lt h2,Nat.zero_add]
 .rw [e,Nat.add_mul_mod_self_left,Nat.mod_eq_of_lt h2]
theorem Ri (a d:Nat) (hd0:0<d) (hd:d<1000000000) (hs:(dg a).length<1099511627776:=by omega):aQ prog 243 [mT a, .one (.int .u32 d)] (.ret [mT (a/d),mT (a%d)]):=by
 refine cW (args:=[.v (some 1), .v none]) (ins:=[.v (mT a), .v (.one (.int .u32 d))]) (hints:=fun _=>none) fo (by kernel_rfl) func243 ⟨rfl,rfl,trivial⟩ ?_;rw [ak6];dsimp only [List.map,In.env];apply vn (aM eB cR) rfl;refine xG (n:=(dg a).length) (m:=(dg a).length) rfl rfl PJ (aY _) (by omega) (by simp [maxLen];omega) ?_;apply vn (aM eB cR) rfl;apply vn (nY (c:=((dg a).length:Int)-1) (by rw [mY]<;>omega)) rfl;dsimp only [aE,aF];refine bZ {g:Nat×Nat×List Nat // On (dg a) d g.1 g.2.1 g.2.2} (fun g=>[.one (.int .u64 g.1.2.1), .one (.int .i64 ((g.1.1:Int)-1)), .rows (rT g.1.2.2)]) (fun g=>g.1.1) ⟨((dg a).length,0,List.replicate (dg a).length 0),On.init _ hd0⟩ aX.rfl (fun _=>rfl) ?_;rintro ⟨⟨n,r,os⟩,hI⟩;dsimp only [aE,aF] at hI ⊢;have hr1:=hI.r1;have hln:=hI.le;apply vn HF rfl;refine vs _ rfl ?_ ?_<;>intro h1
 .obtain ⟨m,rfl⟩:∃ m,n=m+1:=⟨n-1,by omega⟩
  have hlt:m<(dg a).length:=by omega
  have hget:(dg a)[m]? = some ((dg a)[m]'hlt):=cC hlt;generalize (dg a)[m]'hlt=x at hget;have hx:=(kZ a).get hget;have hol:m<os.length:=by rw [hI.len];omega
  have hok:os[m]? = some (os[m]'hol):=cC hol;have htn:(((m+1:Nat):Int)-1).toNat=m:=by omega
  apply vn (wQ (c:=((r*1000000000:Nat):Int)) (by rw [rG]<;>omega)) rfl;apply vn (Mc eB (by rw [htn];exact hget)) rfl;apply vn Kf rfl;dsimp only [aE,aF];apply vn (jH ⟨_,gU⟩ iU (c:=(x:Int)) (by rw [rG]<;>omega)) rfl;apply vn (eV (c:=((r*1000000000+x:Nat):Int)) (by rw [rG]<;>omega)) rfl;dsimp only [aE,aF];have hN:=hI.next hd hget hx;have hqd:=hN.dg.get (i:=m) (d:=(r*1000000000+x)/d) (List.getElem?_set_self (by omega));have hrd:=hN.r1;generalize hw:r*1000000000+x=w at hN hqd hrd ⊢;generalize hq:w/d=q at hN hqd;generalize hm:w%d=rr at hN hrd;apply vn (jH ⟨_,gU⟩ iU (c:=(d:Int)) (by rw [rG]<;>omega)) rfl;apply vn (oX (c:=(q:Int)) (by omega) (by rw [Int.tdiv_eq_ediv_of_nonneg (by omega),<-Int.natCast_ediv,hq,rG]<;>omega)) rfl;apply vn (jH ⟨_,iU⟩ gU (c:=(q:Int)) (by rw [Am]<;>omega)) rfl;apply vn (jH ⟨_,gU⟩ iU (c:=(d:Int)) (by rw [rG]<;>omega)) rfl;dsimp only [aE,aF];apply vn (Ez (c:=(rr:Int)) (by omega) (by rw [Int.tmod_eq_emod_of_nonneg (by omega),<-Int.natCast_emod,hm])) rfl;refine qP (ts:=rT os) rfl rfl (by omega) (by rw [cR];omega) ?_;refine QK (ts:=rT os) (us:=rT (os.set m q)) rfl rfl (by omega) (oG (by rw [htn];exact hok)) (by rw [htn];exact kI) ?_;apply vn (nY (c:=(m:Int)-1) (by rw [mY]<;>omega)) rfl;dsimp only [aE,aF];exact bD rfl ⟨⟨(m,rr,os.set m q),hN⟩,aX.rfl,by show m<m+1;omega⟩
 .have hn0:n=0:=by omega
  subst hn0;obtain ⟨hf1,hf2⟩:=hI.fin;rw [iI] at hf1 hf2;apply aA (jK os hI.dg (by rw [hI.len];omega)) rfl;apply aA (nN r) rfl;dsimp only [aE,aF];refine aL ?_;rw [hf1,<-hf2];rfl
end Go.Sy
