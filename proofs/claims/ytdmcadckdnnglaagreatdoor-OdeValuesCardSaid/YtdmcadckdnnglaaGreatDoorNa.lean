/- Part. -/
import Derived.Test.YtdmcadckdnnglaaGreatDoorFa
import Derived.Test.YtdmcadckdnnglaaGreatDoorPa
set_option linter.all false
namespace Go.Sy
open Go Go.Proofs Tryz Ord
abbrev rT (ds:List Nat):List (List aG):=ds.map fun (d:Nat)=>[aG.int .u32 (d:Int)]
abbrev dg (n:Nat):List Nat:=lH 1000000000 n
abbrev lv (ds:List Nat):Nat:=val 1000000000 ds
abbrev dT (n:Nat):aG:=.slice 1 (rT (dg n))
abbrev mT (n:Nat):aE:=.agg [dT n]
def Dg (ds:List Nat):Prop:=∀ d∈ds,d<1000000000
theorem AJ {n:Int} (h0:0≤n) (h:n<4294967296):IntKind.u32.wrap n=n:=by rw [IntKind.wrap_u32];omega
theorem uW {n:Int} (h0:0≤n) (h:n<18446744073709551616):IntKind.u64.wrap n=n:=by rw [IntKind.wrap_u64];omega
theorem oP {n:Int} (h0:-9223372036854775808≤n) (h:n<9223372036854775808):IntKind.i64.wrap n=n:=by rw [IntKind.wrap_i64];omega
theorem qR {ds:List Nat} {i d:Nat} (h:ds[i]? = some d):(rT ds)[i]? = some [aG.int .u32 (d:Int)]:=by
 rw [cL,h];rfl
theorem lD {ds:List Nat} {i x:Nat}:(rT ds).set i [aG.int .u32 (x:Int)]=rT (ds.set i x):=by
 rw [rT,rT,List.map_set]
theorem cS {ds:List Nat}:(rT ds).length=ds.length:=aP _
theorem AV {n:Nat}:dg n = []↔n=0:=by
 constructor
 ·intro h;by_cases hn:n=0
  ·exact hn
  ·rw [dg,gG (by omega) hn] at h;cases h
 ·rintro rfl;exact dJ _
theorem lY (n:Nat):Dg (dg n):=Cr n
theorem iD (n:Nat):lv (dg n)=n:=Am (by omega) n
theorem Dg.take {ds:List Nat} (h:Dg ds) (n:Nat):Dg (ds.take n):=fun d hd=>h d (List.mem_of_mem_take hd)
theorem Dg.set {ds:List Nat} (h:Dg ds) {i x:Nat} (hx:x<1000000000):Dg (ds.set i x):=fun d hd=>by
 rcases List.mem_or_eq_of_mem_set hd with hd | rfl
 ·exact h d hd
 ·exact hx
theorem Dg.get {ds:List Nat} (h:Dg ds) {i d:Nat} (hd:ds[i]? = some d):d<1000000000:=h d (cI hd)
theorem IH {ds:List Nat} {i d:Nat} (h:ds[i]? = some d):ds.take (i+1)=ds.take i ++ [d]:=by
 rw [List.take_add_one,h];rfl
theorem vI (xs ys:List Nat):lv (xs++ys)=lv xs+1000000000^xs.length*lv ys:=jQ _ _ _
theorem aX5 (d:Nat):lv [d]=d:=by simp [lv,val]
theorem fW {ds:List Nat} {i d:Nat} (h:ds[i]? = some d):lv (ds.take (i+1))=lv (ds.take i)+1000000000^i*d:=by
 have hi:i<ds.length:=(eF.1 h).1;rw [IH h,vI,aX5,List.length_take,Nat.min_eq_left (by omega)]
theorem uN {os:List Nat} {i x:Nat} (h:i<os.length):lv ((os.set i x).take (i+1))=lv (os.take i)+1000000000^i*x:=by
 rw [fW (d:=x) (by simp [h])];rw [List.take_set_of_le (bC i)]
theorem Iw {n:Nat}:List.replicate n ([Value.int .u32 0].map aG.exact)=rT (List.replicate n 0):=by
 rw [rT,List.map_replicate];rfl
theorem Dg.rep (n:Nat):Dg (List.replicate n 0):=fun d hd=>by
 obtain ⟨_,rfl⟩:=List.mem_replicate.1 hd;decide
abbrev dl (n:Nat):Nat:=(dg n).length
theorem Fv {ds:List Nat} {T ty:TypeId} {x y:Operand} {k:IntKind} {n:Int} {d:Nat} (h:dD prog T=some (255,1,4)) (hd:ds[n.toNat]? = some d) (h0:0≤n:=by omega) :
  bA prog (.indexAddr T x y) ty [.one (.slice 1 (rT ds)), .one (.int k n)] (.one (.bU [aG.int .u32 (d:Int)])):=as8 h h0 (qR hd)
theorem Ff {ty:TypeId} {x:Operand} {d:Int}:bA prog (.load 255 x) ty [.one (.bU [aG.int .u32 d])] (.one (.int .u32 d)):=bJ (n:=1) yE (by decide) (by simp) (.inr rfl)
open Go Go.Proofs Tryz Ord
def bF5:Tr:=aW .sub 3 10 1 2 0 3 (eN 0 0 4 0 33 9 11 (dR 5 0 none 255 12 (.need (.prim [(W 6 0),(.one (.c (.k (.int .u32 0))))] none) (.binOp .eql 255 (tT 13) (.const (.int .u32 0)) 255) 4 false (.split (.u 7 0) (aW .sub 3 16 1 2 0 3 (.back 0 [lV 8 0])) (.need (.prim [(W 0 0),(W 2 0),(W 2 0)] none) (.slice 33 (tT 18) none (some (tT 19)) (some (tT 20))) 33 false (.ret [(G1 8)]))))))
def bG5:Tr:=cU 0 0 4 33 (.loop 0 [lV 1 0] (aW .gtr 3 6 0 2 0 4 (.split (.u 3 0) bF5 (.need (.prim [(W 0 0),(W 2 0),(W 2 0)] none) (.slice 33 (tT 18) none (some (tT 19)) (some (tT 20))) 33 false (.ret [(G1 4)])))))
theorem Rj:aL prog f197 (fun _=>none) [.v none]=bG5:=by kernel_rfl
theorem jX (ds:List Nat) (hd:Dg ds) (hl:ds.length<4611686018427387904:=by omega):aM prog 197 [.one (.slice 1 (rT ds))] (.ret [mT (lv ds)]):=by
 refine cT (args:=[.v none]) (ins:=[.v (.one (.slice 1 (rT ds)))]) (hints:=fun _=>none) fo (by kernel_rfl) func197 ⟨rfl,trivial⟩ ?_;rw [Rj];apply vn (aU dU cS) rfl;refine bB {n:Nat // n≤ds.length∧lv (ds.take n)=lv ds} (fun g=>[.one (.int .i64 g.1)]) (fun g=>g.1) ⟨ds.length,bC _,by rw [List.take_length]⟩ aN.rfl (fun _=>rfl) ?_;rintro ⟨n,hn,hv⟩;dsimp only
 have fin:∀ τ:Env,(n=0∨∃ d,ds[n-1]? = some d∧d≠0)→(rT ds).take n=rT (dg (lv ds)):=by
  intro τ h;rw [rT,rT,←List.map_take]
  congr 1
  rw [←hv,dg,lv,IW (by omega) _ (hd.take n)];intro d hlast;rcases h with rfl | ⟨d',hd',hne⟩
  ·simp at hlast
  ·rw [List.getLast?_eq_getElem?,List.length_take,Nat.min_eq_left hn,List.getElem?_take] at hlast;split at hlast
   ·rw [hd'] at hlast;simp at hlast;omega
   ·cases hlast
 apply vn JJ rfl;refine vs _ rfl ?_ ?_<;>intro h
 ·have hlt:n-1<ds.length:=by omega
  have hget:ds[n-1]? = some (ds[n-1]'hlt):=bI hlt;generalize ds[n-1]'hlt=d at hget;apply vn (nM (c:=((n-1:Nat):Int)) (by rw [oP]<;>omega)) rfl;apply vn (Fv dU (by simpa using hget)) rfl;apply vn Ff rfl;apply vn VC rfl;refine vs _ rfl ?_ ?_<;>intro h2
  ·apply vn (nM (c:=((n-1:Nat):Int)) (by rw [oP]<;>omega)) rfl;refine aR rfl ⟨⟨n-1,by omega,?_⟩,aN.rfl,?_⟩
   ·have hd0:d=0:=by omega
    subst hd0;have:=fW hget;rw [Nat.mul_zero,show n-1+1=n by omega] at this;exact (this.symm.trans hv)
   ·show n-1<n;omega
  ·apply vn (Dk dU (by simpa using hn)) rfl;refine aK ?_;exact congrArg (fun x=>[aE.agg [aG.slice 1 x]]) (fin [] (.inr ⟨d,hget,by omega⟩))
 ·apply vn (Dk dU (by simpa using hn)) rfl;refine aK ?_;exact congrArg (fun x=>[aE.agg [aG.slice 1 x]]) (fin [] (.inl (by omega)))
open Go Go.Proofs Tryz Ord
def bp9:Tr:=.need (.prim [(W 20 0),(.one (.c (.k (.int .u32 1000000000))))] none) (.binOp .geq 255 (tT 46) (.const (.int .u32 1000000000)) 255) 4 false (.split (.u 21 0) (.need (.prim [(W 20 0),(.one (.c (.k (.int .u32 1000000000))))] none) (.binOp .sub 255 (tT 48) (.const (.int .u32 1000000000)) 255) 255 false (.need (.idx 11 (.u 10 0)) (.indexAddr 33 (tT 50) (tT 51)) 0 false (.need (.strow 11 1 (.u 10 0) 0 [(.u 22 0)]) (.store 255 (tT 53) (tT 52)) 0 false (aW .add 3 26 1 10 0 3 (.back 0 [(.w (.one (.c (.k (.int .u32 1))))),lV 24 0, .row 23]))))) (.need (.idx 11 (.u 10 0)) (.indexAddr 33 (tT 50) (tT 51)) 0 false (.need (.strow 11 1 (.u 10 0) 0 [(.u 20 0)]) (.store 255 (tT 53) (tT 52)) 0 false (aW .add 3 26 1 10 0 3 (.back 0 [(.w (.one (.c (.k (.int .u32 0))))),lV 23 0, .row 22])))))
def at1:Tr:=dR 18 0 none 255 43 (bO .add 255 39 44 15 0 19 0 255 bp9)
def as5:Tr:=.need (.prim [(W 15 0),(.one (.c (.k (.int .u32 1000000000))))] none) (.binOp .geq 255 (tT 46) (.const (.int .u32 1000000000)) 255) 4 false (.split (.u 18 0) (.need (.prim [(W 15 0),(.one (.c (.k (.int .u32 1000000000))))] none) (.binOp .sub 255 (tT 48) (.const (.int .u32 1000000000)) 255) 255 false (.need (.idx 11 (.u 10 0)) (.indexAddr 33 (tT 50) (tT 51)) 0 false (.need (.strow 11 1 (.u 10 0) 0 [(.u 19 0)]) (.store 255 (tT 53) (tT 52)) 0 false (aW .add 3 26 1 10 0 3 (.back 0 [(.w (.one (.c (.k (.int .u32 1))))),lV 21 0, .row 20]))))) (.need (.idx 11 (.u 10 0)) (.indexAddr 33 (tT 50) (tT 51)) 0 false (.need (.strow 11 1 (.u 10 0) 0 [(.u 15 0)]) (.store 255 (tT 53) (tT 52)) 0 false (aW .add 3 26 1 10 0 3 (.back 0 [(.w (.one (.c (.k (.int .u32 0))))),lV 20 0, .row 19])))))
def by5:Tr:=eN 1 0 10 0 33 24 26 (dR 13 0 none 255 29 (bO .add 255 31 32 14 0 9 0 255 (cU 0 0 36 33 (bO .lss 3 34 37 10 0 16 0 4 (.split (.u 17 0) (eN 0 0 10 0 33 41 42 at1) as5)))))
def at3:Tr:=.need (.idx 11 (.u 13 0)) (.indexAddr 33 (tT 55) (tT 58)) 0 false (.need (.strow 11 1 (.u 13 0) 0 [(.u 9 0)]) (.store 255 (tT 60) (tT 59)) 0 false (aJ 197 [(.one (.c (.sr 1 14)))] [(some 1)] [61] [33] 35 true (.ret [(G1 15)])))
def bC4:Tr:=aW .add 3 20 1 5 0 3 (.need (.make [(.int .u32 0)] 4 (.u 6 0) (.u 6 0)) (.makeSlice 33 (tT 21) (tT 21)) 33 false (cU 1 0 24 33 (.loop 0 [(.w (.one (.c (.k (.int .u32 0))))),lK 0, .row 7] (bO .lss 3 26 25 10 0 8 0 0 (.split (.u 12 0) by5 (cU 1 0 57 33 at3))))))
def br3:Tr:=eN 0 0 10 0 33 24 26 (dR 13 0 none 255 29 (bO .add 255 31 32 14 0 9 0 255 (cU 1 0 36 33 (bO .lss 3 34 37 10 0 16 0 4 (.split (.u 17 0) (eN 1 0 10 0 33 41 42 at1) as5)))))
def bi3:Tr:=aW .add 3 20 1 5 0 3 (.need (.make [(.int .u32 0)] 4 (.u 6 0) (.u 6 0)) (.makeSlice 33 (tT 21) (tT 21)) 33 false (cU 0 0 24 33 (.loop 0 [(.w (.one (.c (.k (.int .u32 0))))),lK 0, .row 7] (bO .lss 3 26 25 10 0 8 0 0 (.split (.u 12 0) br3 (cU 0 0 57 33 at3))))))
def bD5:Tr:=cU 0 0 10 33 (cU 1 0 13 33 (bO .lss 3 11 14 2 0 3 0 4 (.split (.u 4 0) (cU 1 0 19 33 bC4) (cU 0 0 19 33 bi3))))
theorem ba6:aL prog f196 (fun _=>none) [.v (some 1), .v (some 1)]=bD5:=by kernel_rfl
structure tB (xs ys:List Nat) (i c:Nat) (os:List Nat):Prop where
 le:i≤xs.length
 c1:c≤1
 len:os.length=xs.length+1
 dg:Dg os
 eq:lv (os.take i)+1000000000^i*c=lv (xs.take i)+lv (ys.take i)
theorem tB.init (xs ys:List Nat):tB xs ys 0 0 (List.replicate (xs.length+1) 0):=⟨bV _,by omega,by simp,Dg.rep _,by simp [lv,val]⟩
theorem tB.next {xs ys os:List Nat} {i c x y c' z:Nat} (h:tB xs ys i c os) (hi:i<xs.length) (hx:xs[i]? = some x) (hy:ys[i]?.getD 0=y) (hc:c'≤1) (hz:z<1000000000) (he:z+1000000000*c'=x+c+y):tB xs ys (i+1) c' (os.set i z):=by
 refine ⟨hi,hc,by rw [List.length_set];exact h.len,h.dg.set hz,?_⟩;rw [uN (by rw [h.len];omega),fW hx,Nat.pow_succ]
 have hb:lv (ys.take (i+1))=lv (ys.take i)+1000000000^i*y:=by
  cases hbi:ys[i]? with
  | some d=>rw [hbi] at hy;simp only [Option.getD_some] at hy;subst hy;exact fW hbi
  | none=>
    rw [hbi] at hy;simp only [Option.getD_none] at hy;subst hy;have:=List.getElem?_eq_none_iff.1 hbi;rw [List.take_of_length_le (by omega),List.take_of_length_le (by omega)];omega
 rw [hb];have h1:=h.eq;have h2:=congrArg (fun t=>1000000000^i*t) he;simp only [Nat.mul_add] at h2;rw [Nat.mul_assoc];omega
theorem tB.fin {xs ys os:List Nat} {c:Nat} {n:Nat} (h:tB xs ys xs.length c os) (hle:ys.length≤xs.length) (he:lv xs+lv ys=n):lv (os.set xs.length c)=n:=by
 have h1:=uN (os:=os) (i:=xs.length) (x:=c) (by rw [h.len];omega);rw [List.take_of_length_le (by rw [List.length_set,h.len];omega)] at h1;have h2:=h.eq;rw [List.take_length,List.take_of_length_le hle] at h2;omega
set_option maxHeartbeats 1000000 in
theorem Ml (a b:Nat) (hs:(dg a).length+(dg b).length<1099511627776:=by omega):aM prog 196 [mT a,mT b] (.ret [mT (a+b)]):=by
 refine cT (args:=[.v (some 1), .v (some 1)]) (ins:=[.v (mT a), .v (mT b)]) (hints:=fun _=>none) fo (by kernel_rfl) func196 ⟨rfl,rfl,trivial⟩ ?_;rw [ba6];dsimp only [List.map,In.env];apply vn (aU dU cS) rfl;apply vn (aU dU cS) rfl;apply vn wO rfl;dsimp only [aD,aC];refine vs _ rfl ?_ ?_<;>intro hab
 ·skip
  apply vn (aU dU cS) rfl;apply vn (eH (c:=(((dg b).length+1:Nat):Int)) (by rw [oP]<;>omega)) rfl;refine tQ (n:=(dg b).length+1) (m:=(dg b).length+1) rfl rfl Iw (bC _) (by omega) (by simp [maxLen];omega) ?_;dsimp only [aD,aC];apply vn (aU dU cS) rfl;refine bB {g:Nat×Nat×List Nat // tB (dg b) (dg a) g.1 g.2.1 g.2.2} (fun g=>[.one (.int .u32 g.1.2.1), .one (.int .i64 g.1.1), .rows (rT g.1.2.2)]) (fun g=>(dg b).length-g.1.1) ⟨(0,0,List.replicate ((dg b).length+1) 0),tB.init _ _⟩ aN.rfl (fun _=>rfl) ?_;rintro ⟨⟨i,c,os⟩,hI⟩;dsimp only [aD,aC] at hI ⊢;apply vn wO rfl;refine vs _ rfl ?_ ?_<;>intro h
  ·have hlt:i<(dg b).length:=by omega
   have hget:(dg b)[i]? = some ((dg b)[i]'hlt):=bI hlt;generalize (dg b)[i]'hlt=x at hget;have hx:=(lY b).get hget;have hc:=hI.c1;have hol:i<os.length:=by rw [hI.len];omega
   have hog:(rT os)[((i:Int)).toNat]? = some [aG.int .u32 ((os[i]'hol:Nat):Int)]:=qR (by simp);apply vn (Fv dU (by simpa using hget)) rfl;apply vn Ff rfl;dsimp only [aD,aC];apply vn (eH (c:=((x+c:Nat):Int)) (by rw [AJ]<;>omega)) rfl;apply vn (aU dU cS) rfl;apply vn wO rfl;dsimp only [aD,aC];refine vs _ rfl ?_ ?_<;>intro h1
   ·have hlt1:i<(dg a).length:=by omega
    have hget1:(dg a)[i]? = some ((dg a)[i]'hlt1):=bI hlt1;generalize (dg a)[i]'hlt1=y at hget1;have hy:=(lY a).get hget1;apply vn (Fv dU (by simpa using hget1)) rfl;apply vn Ff rfl;apply vn (eH (c:=((x+c+y:Nat):Int)) (by rw [AJ]<;>omega)) rfl;dsimp only [aD,aC];apply vn Dz rfl;refine vs _ rfl ?_ ?_<;>intro h2
    ·apply vn (nM (c:=((x+c+y-1000000000:Nat):Int)) (by rw [AJ]<;>omega)) rfl;refine kR (ts:=rT os) rfl rfl (by omega) (by rw [cS];omega) ?_;refine EX (ts:=rT os) (us:=rT (os.set i (x+c+y-1000000000))) rfl rfl (by omega) hog lD ?_;dsimp only [aD,aC];apply vn (eH (c:=((i+1:Nat):Int)) (by rw [oP]<;>omega)) rfl;dsimp only [aD,aC];have hN:tB _ _ (i+1) 1 (os.set i (x+c+y-1000000000)):=hI.next (y:=y) hlt hget (by rw [hget1];rfl) (by omega) (by omega) (by omega);exact aR rfl ⟨⟨(i+1,1,os.set i (x+c+y-1000000000)),hN⟩,aN.rfl,by show (dg b).length-(i+1)<(dg b).length-i;omega⟩
    ·refine kR (ts:=rT os) rfl rfl (by omega) (by rw [cS];omega) ?_;refine EX (ts:=rT os) (us:=rT (os.set i (x+c+y))) rfl rfl (by omega) hog lD ?_;apply vn (eH (c:=((i+1:Nat):Int)) (by rw [oP]<;>omega)) rfl;dsimp only [aD,aC];have hN:tB _ _ (i+1) 0 (os.set i (x+c+y)):=hI.next (y:=y) hlt hget (by rw [hget1];rfl) (by omega) (by omega) (by omega);exact aR rfl ⟨⟨(i+1,0,os.set i (x+c+y)),hN⟩,aN.rfl,by show (dg b).length-(i+1)<(dg b).length-i;omega⟩
   ·have hget1:(dg a)[i]? = none:=List.getElem?_eq_none (by omega);apply vn Dz rfl;refine vs _ rfl ?_ ?_<;>intro h2
    ·apply vn (nM (c:=((x+c-1000000000:Nat):Int)) (by rw [AJ]<;>omega)) rfl;refine kR (ts:=rT os) rfl rfl (by omega) (by rw [cS];omega) ?_;refine EX (ts:=rT os) (us:=rT (os.set i (x+c-1000000000))) rfl rfl (by omega) hog lD ?_;dsimp only [aD,aC];apply vn (eH (c:=((i+1:Nat):Int)) (by rw [oP]<;>omega)) rfl;dsimp only [aD,aC];have hN:tB _ _ (i+1) 1 (os.set i (x+c-1000000000)):=hI.next (y:=0) hlt hget (by rw [hget1];rfl) (by omega) (by omega) (by omega);exact aR rfl ⟨⟨(i+1,1,os.set i (x+c-1000000000)),hN⟩,aN.rfl,by show (dg b).length-(i+1)<(dg b).length-i;omega⟩
    ·refine kR (ts:=rT os) rfl rfl (by omega) (by rw [cS];omega) ?_;refine EX (ts:=rT os) (us:=rT (os.set i (x+c))) rfl rfl (by omega) hog lD ?_;apply vn (eH (c:=((i+1:Nat):Int)) (by rw [oP]<;>omega)) rfl;dsimp only [aD,aC];have hN:tB _ _ (i+1) 0 (os.set i (x+c)):=hI.next (y:=0) hlt hget (by rw [hget1];rfl) (by omega) (by omega) (by omega);exact aR rfl ⟨⟨(i+1,0,os.set i (x+c)),hN⟩,aN.rfl,by show (dg b).length-(i+1)<(dg b).length-i;omega⟩
  ·have hie:i=(dg b).length:=by have:=hI.le;omega
   subst hie;have hol:(dg b).length<os.length:=by rw [hI.len];omega
   have hog:(rT os)[(((dg b).length:Int)).toNat]? = some [aG.int .u32 ((os[(dg b).length]'hol:Nat):Int)]:=qR (by simp);apply vn (aU dU cS) rfl;refine kR (ts:=rT os) rfl rfl (by omega) (by rw [cS];omega) ?_;refine EX (ts:=rT os) (us:=rT (os.set ((dg b).length) c)) rfl rfl (by omega) hog lD ?_;apply aA (jX (os.set ((dg b).length) c) (hI.dg.set (by have:=hI.c1;omega)) (by rw [List.length_set,hI.len];omega)) rfl;dsimp only [aD,aC];refine aK ?_;rw [hI.fin (n:=a+b) (by omega) (by rw [iD,iD]<;>omega)];rfl
 ·skip
  apply vn (aU dU cS) rfl;apply vn (eH (c:=(((dg a).length+1:Nat):Int)) (by rw [oP]<;>omega)) rfl;refine tQ (n:=(dg a).length+1) (m:=(dg a).length+1) rfl rfl Iw (bC _) (by omega) (by simp [maxLen];omega) ?_;dsimp only [aD,aC];apply vn (aU dU cS) rfl;refine bB {g:Nat×Nat×List Nat // tB (dg a) (dg b) g.1 g.2.1 g.2.2} (fun g=>[.one (.int .u32 g.1.2.1), .one (.int .i64 g.1.1), .rows (rT g.1.2.2)]) (fun g=>(dg a).length-g.1.1) ⟨(0,0,List.replicate ((dg a).length+1) 0),tB.init _ _⟩ aN.rfl (fun _=>rfl) ?_;rintro ⟨⟨i,c,os⟩,hI⟩;dsimp only [aD,aC] at hI ⊢;apply vn wO rfl;refine vs _ rfl ?_ ?_<;>intro h
  ·have hlt:i<(dg a).length:=by omega
   have hget:(dg a)[i]? = some ((dg a)[i]'hlt):=bI hlt;generalize (dg a)[i]'hlt=x at hget;have hx:=(lY a).get hget;have hc:=hI.c1;have hol:i<os.length:=by rw [hI.len];omega
   have hog:(rT os)[((i:Int)).toNat]? = some [aG.int .u32 ((os[i]'hol:Nat):Int)]:=qR (by simp);apply vn (Fv dU (by simpa using hget)) rfl;apply vn Ff rfl;dsimp only [aD,aC];apply vn (eH (c:=((x+c:Nat):Int)) (by rw [AJ]<;>omega)) rfl;apply vn (aU dU cS) rfl;apply vn wO rfl;dsimp only [aD,aC];refine vs _ rfl ?_ ?_<;>intro h1
   ·have hlt1:i<(dg b).length:=by omega
    have hget1:(dg b)[i]? = some ((dg b)[i]'hlt1):=bI hlt1;generalize (dg b)[i]'hlt1=y at hget1;have hy:=(lY b).get hget1;apply vn (Fv dU (by simpa using hget1)) rfl;apply vn Ff rfl;apply vn (eH (c:=((x+c+y:Nat):Int)) (by rw [AJ]<;>omega)) rfl;dsimp only [aD,aC];apply vn Dz rfl;refine vs _ rfl ?_ ?_<;>intro h2
    ·apply vn (nM (c:=((x+c+y-1000000000:Nat):Int)) (by rw [AJ]<;>omega)) rfl;refine kR (ts:=rT os) rfl rfl (by omega) (by rw [cS];omega) ?_;refine EX (ts:=rT os) (us:=rT (os.set i (x+c+y-1000000000))) rfl rfl (by omega) hog lD ?_;dsimp only [aD,aC];apply vn (eH (c:=((i+1:Nat):Int)) (by rw [oP]<;>omega)) rfl;dsimp only [aD,aC];have hN:tB _ _ (i+1) 1 (os.set i (x+c+y-1000000000)):=hI.next (y:=y) hlt hget (by rw [hget1];rfl) (by omega) (by omega) (by omega);exact aR rfl ⟨⟨(i+1,1,os.set i (x+c+y-1000000000)),hN⟩,aN.rfl,by show (dg a).length-(i+1)<(dg a).length-i;omega⟩
    ·refine kR (ts:=rT os) rfl rfl (by omega) (by rw [cS];omega) ?_;refine EX (ts:=rT os) (us:=rT (os.set i (x+c+y))) rfl rfl (by omega) hog lD ?_;apply vn (eH (c:=((i+1:Nat):Int)) (by rw [oP]<;>omega)) rfl;dsimp only [aD,aC];have hN:tB _ _ (i+1) 0 (os.set i (x+c+y)):=hI.next (y:=y) hlt hget (by rw [hget1];rfl) (by omega) (by omega) (by omega);exact aR rfl ⟨⟨(i+1,0,os.set i (x+c+y)),hN⟩,aN.rfl,by show (dg a).length-(i+1)<(dg a).length-i;omega⟩
   ·have hget1:(dg b)[i]? = none:=List.getElem?_eq_none (by omega);apply vn Dz rfl;refine vs _ rfl ?_ ?_<;>intro h2
    ·apply vn (nM (c:=((x+c-1000000000:Nat):Int)) (by rw [AJ]<;>omega)) rfl;refine kR (ts:=rT os) rfl rfl (by omega) (by rw [cS];omega) ?_;refine EX (ts:=rT os) (us:=rT (os.set i (x+c-1000000000))) rfl rfl (by omega) hog lD ?_;dsimp only [aD,aC];apply vn (eH (c:=((i+1:Nat):Int)) (by rw [oP]<;>omega)) rfl;dsimp only [aD,aC];have hN:tB _ _ (i+1) 1 (os.set i (x+c-1000000000)):=hI.next (y:=0) hlt hget (by rw [hget1];rfl) (by omega) (by omega) (by omega);exact aR rfl ⟨⟨(i+1,1,os.set i (x+c-1000000000)),hN⟩,aN.rfl,by show (dg a).length-(i+1)<(dg a).length-i;omega⟩
    ·refine kR (ts:=rT os) rfl rfl (by omega) (by rw [cS];omega) ?_;refine EX (ts:=rT os) (us:=rT (os.set i (x+c))) rfl rfl (by omega) hog lD ?_;apply vn (eH (c:=((i+1:Nat):Int)) (by rw [oP]<;>omega)) rfl;dsimp only [aD,aC];have hN:tB _ _ (i+1) 0 (os.set i (x+c)):=hI.next (y:=0) hlt hget (by rw [hget1];rfl) (by omega) (by omega) (by omega);exact aR rfl ⟨⟨(i+1,0,os.set i (x+c)),hN⟩,aN.rfl,by show (dg a).length-(i+1)<(dg a).length-i;omega⟩
  ·have hie:i=(dg a).length:=by have:=hI.le;omega
   subst hie;have hol:(dg a).length<os.length:=by rw [hI.len];omega
   have hog:(rT os)[(((dg a).length:Int)).toNat]? = some [aG.int .u32 ((os[(dg a).length]'hol:Nat):Int)]:=qR (by simp);apply vn (aU dU cS) rfl;refine kR (ts:=rT os) rfl rfl (by omega) (by rw [cS];omega) ?_;refine EX (ts:=rT os) (us:=rT (os.set ((dg a).length) c)) rfl rfl (by omega) hog lD ?_;apply aA (jX (os.set ((dg a).length) c) (hI.dg.set (by have:=hI.c1;omega)) (by rw [List.length_set,hI.len];omega)) rfl;dsimp only [aD,aC];refine aK ?_;rw [hI.fin (n:=a+b) (by omega) (by rw [iD,iD]<;>omega)];rfl
open Go Go.Proofs Tryz Ord
def bH2:Tr:=cU 0 0 4 33 (aW .eql 3 5 0 1 0 4 (.ret [(W 2 0)]))
theorem aP3:aL prog f179 (fun _=>none) [.v (some 1)]=bH2:=by kernel_rfl
def bG4:Tr:=.split (.u 3 0) (.need (.prim [(W 1 0),(.one (.c (.k (.int .u64 1000000000))))] none) (.binOp .rem 254 (tT 9) (.const (.int .u64 1000000000)) 254) 254 false (.need (.prim [(W 4 0)] none) (.convert 254 255 (tT 10)) 255 false (.need (.lit 1 [[(.u 5 0)]]) (.buildSlice 33 1 #[(0,(tT 11))]) 33 false (.need (.app 1 4 (some 2) none (some 6)) (.call ⟨.builtin .append,#[(tT 8),(tT 12)],#[33,33]⟩) 33 false (.need (.prim [(W 1 0),(.one (.c (.k (.int .u64 1000000000))))] none) (.binOp .quo 254 (tT 6) (.const (.int .u64 1000000000)) 254) 254 false (.back 0 [lV 8 0, .row 7])))))) (.ret [(.agg [(.c (.sr 1 2))])])
def bG2:Tr:=.loop 0 [lV 0 0, .nilrow] (.need (.prim [(W 1 0),(.one (.c (.k (.int .u64 0))))] none) (.binOp .gtr 254 (tT 4) (.const (.int .u64 0)) 254) 4 false bG4)
theorem ZR:aL prog f195 (fun _=>none) [.v none]=bG2:=by kernel_rfl
def bD7:Tr:=.split (.u 0 0) (aJ 179 [(G1 1)] [none] [8] [35] 4 false (.need (.prim [(W 2 0)] none) (.unOp .not 4 (tT 9)) 4 false (.ret [(.agg [(U 1 0),(U 3 0)])]))) (.ret [(.agg [(U 1 0),(tE (.bool false))])])
theorem Ta:aL prog f155 (fun _=>none) [.v none, .v (some 1)]=bD7:=by kernel_rfl
def am7:Tr:=.ret [(WK 0)]
def aj0:Tr:=.ret [(WK (-1))]
def an0:Tr:=.ret [(WK 1)]
def bC6:Tr:=aJ 179 [(G1 0)] [none] [5] [35] 4 true (.split (.u 1 0) am7 (.split (.u 0 1) aj0 an0))
theorem Zy:aL prog f114 (fun _=>none) [.v (some 2)]=bC6:=by kernel_rfl
theorem Ap (n:Nat):aM prog 179 [mT n] (.ret [.one (.bool (decide (n=0)))]):=by
 refine cT (args:=[.v (some 1)]) (ins:=[.v (mT n)]) (hints:=fun _=>none) fo (by kernel_rfl) func179 ⟨rfl,trivial⟩ ?_;rw [aP3];apply vn (aU dU rfl) rfl;apply vn VC rfl;refine aK ?_;show [aE.one (.bool (decide (_=(0:Int))))]=_
 have h:((rT (dg n)).length:Int)=0↔n=0:=by
  rw [cS,←AV];cases dg n<;>simp;omega
 simp only [h]
theorem jF (n:Nat) (h:n<18446744073709551616:=by omega):aM prog 195 [.one (.int .u64 n)] (.ret [mT n]):=by
 refine cT (args:=[.v none]) (ins:=[.v (.one (.int .u64 n))]) (hints:=fun _=>none) fo (by kernel_rfl) func195 ⟨rfl,trivial⟩ ?_;rw [ZR];have hlen:(dg n).length≤3:=kO;refine bB {p:Nat×List Nat // p.2++dg p.1=dg n∧p.1≤n} (fun g=>[.one (.int .u64 g.1.1), .rows (rT g.1.2)]) (fun g=>g.1.1) ⟨(n,[]),by simp⟩ aN.rfl (fun _=>rfl) ?_;rintro ⟨⟨k,ds⟩,hinv,hle⟩;dsimp only [List.map,In.env,aD,aC] at hinv hle ⊢;have hds:ds.length≤3:=by have:=congrArg List.length hinv;simp at this;omega
 apply vn JJ rfl;refine vs _ rfl ?_ ?_<;>intro hk
 ·apply vn (Es (c:=((k%1000000000:Nat):Int)) (by decide) (by rw [Int.tmod_eq_emod_of_nonneg (by omega)];omega)) rfl;apply vn (jN ⟨_,jE⟩ iJ (c:=((k%1000000000:Nat):Int)) (AJ (by omega) (by omega))) rfl;apply bP (us:=rT [k%1000000000]) rfl;refine qQ (ts:=rT ds) (us:=rT [k%1000000000]) (vs:=rT (ds ++ [k%1000000000])) rfl rfl List.map_append.symm (by simp;omega) (by simp [maxLen];omega) ?_;apply vn (rN (c:=((k/1000000000:Nat):Int)) (by decide) (by rw [Int.tdiv_eq_ediv_of_nonneg (by omega),uW (by omega) (by omega)];omega)) rfl;refine aR rfl ⟨⟨(k/1000000000,ds ++ [k%1000000000]),?_,?_⟩,?_,?_⟩
  ·have:k≠0:=by omega
   rw [←hinv,dg,dg,gG (n:=k) (by omega) this];simp
  ·show k/1000000000≤n;omega
  ·exact aN.rfl
  ·show k/1000000000<k;omega
 ·have:k=0:=by omega
  subst this;refine aK ?_;have e:dg 0 = []:=dJ _;rw [e,List.append_nil] at hinv;subst hinv;rfl
abbrev iT (z:Int):aE:=.agg [dT z.natAbs, .bool (decide (z<0))]
theorem fS (m:Bool) (n:Nat) (z:Int) (hz:z=if m then -(n:Int) else n):aM prog 155 [.one (.bool m),mT n] (.ret [iT z]):=by
 refine cT (args:=[.v none, .v (some 1)]) (ins:=[.v (.one (.bool m)), .v (mT n)]) (hints:=fun _=>none) fo (by kernel_rfl) func155 ⟨rfl,rfl,trivial⟩ ?_;rw [Ta];have ha:z.natAbs=n:=by subst hz;cases m<;>simp
 refine mH m rfl (fun hm=>?_) (fun hm=>?_)
 ·subst hm;apply aA (Ap n) rfl;apply vn kW rfl;refine aK ?_;have:(!decide (n=0))=decide (z<0):=by subst hz;simp;by_cases h:n=0<;>simp [h]<;>omega
  show [aE.agg [dT n, .bool (!decide (n=0))]]=_;rw [this,iT,ha]
 ·subst hm;refine aK ?_;have:false=decide (z<0):=by subst hz;simp
  show [aE.agg [dT n, .bool false]]=_;rw [this,iT,ha]
open Go Go.Proofs Tryz Ord
def bf8:Tr:=.need (.prim [(W 26 0),(.one (.c (.k (.int .u64 1000000000))))] none) (.binOp .rem 254 (tT 54) (.const (.int .u64 1000000000)) 254) 254 false (.need (.prim [(W 28 0)] none) (.convert 254 255 (tT 55)) 255 false (.need (.prim [(W 26 0),(.one (.c (.k (.int .u64 1000000000))))] none) (.binOp .quo 254 (tT 57) (.const (.int .u64 1000000000)) 254) 254 false (.need (.idx 15 (.u 27 0)) (.indexAddr 33 (tT 50) (tT 53)) 0 false (.need (.strow 15 1 (.u 27 0) 0 [(.u 29 0)]) (.store 255 (tT 59) (tT 56)) 0 false (aW .add 3 30 1 14 0 3 (.back 1 [lV 30 0,lV 32 0, .row 31]))))))
def bz7:Tr:=bO .add 3 42 43 7 0 14 0 3 (.need (.idx 15 (.u 22 0)) (.indexAddr 33 (tT 41) (tT 44)) 0 false (.need (.ldrow 15 (.u 22 0) 0 1 false) (.load 255 (tT 45)) 255 false (.need (.prim [(W 23 0)] none) (.convert 255 254 (tT 46)) 254 false (bO .add 254 40 47 21 0 24 0 254 (bO .add 254 35 48 13 0 25 0 254 (bO .add 3 51 52 7 0 14 0 3 bf8))))))
def bh3:Tr:=cU 1 0 64 33 (bO .add 3 62 65 7 0 17 0 3 (.need (.prim [(W 13 0)] none) (.convert 254 255 (tT 67)) 255 false (.need (.idx 15 (.u 18 0)) (.indexAddr 33 (tT 61) (tT 66)) 0 false (.need (.strow 15 1 (.u 18 0) 0 [(.u 19 0)]) (.store 255 (tT 69) (tT 68)) 0 false (aW .add 3 22 1 7 0 3 (.back 0 [lV 21 0, .row 20]))))))
def bt6:Tr:=bO .lss 3 30 29 14 0 12 0 0 (.split (.u 16 0) (eN 1 0 14 0 33 28 30 (dR 17 0 none 255 33 (.need (.prim [(W 11 0)] none) (.convert 255 254 (tT 36)) 254 false (.need (.prim [(W 18 0)] none) (.convert 255 254 (tT 38)) 254 false (bO .mul 254 37 39 19 0 20 0 254 bz7))))) bh3)
def bB9:Tr:=.loop 0 [lK 0, .row 5] (bO .lss 3 22 21 7 0 6 0 0 (.split (.u 9 0) (eN 0 0 7 0 33 20 22 (dR 10 0 none 255 25 (cU 1 0 28 33 (.loop 1 [(.w (.one (.c (.k (.int .u64 0))))),lK 0, .row 8] bt6)))) (aJ 197 [(.one (.c (.sr 1 8)))] [(some 1)] [71] [33] 35 true (.ret [(G1 10)]))))
def bB4:Tr:=cU 0 0 12 33 (cU 1 0 15 33 (bO .add 3 13 16 2 0 3 0 3 (.need (.make [(.int .u32 0)] 4 (.u 4 0) (.u 4 0)) (.makeSlice 33 (tT 17) (tT 17)) 33 false (cU 0 0 20 33 bB9))))
theorem ao9:aL prog f118 (fun _=>none) [.v (some 1), .v (some 1)]=bB4:=by kernel_rfl
theorem aP7 {os:List Nat} {j z old n:Nat} (hj:os[j]? = some old) (hjn:j<n:=by omega):lv ((os.set j z).take n)+1000000000^j*old=lv (os.take n)+1000000000^j*z:=by
 have hlt:j<os.length:=(eF.1 hj).1
 have key:∀ (os:List Nat) (j n:Nat),os[j]? = some old→j<n→lv ((os.set j z).take n)+1000000000^j*old=lv (os.take n)+1000000000^j*z:=by
  intro os
  induction os with
  | nil=>intro j n h;simp at h
  | cons d os ih=>
    intro j n h hn;obtain ⟨m,rfl⟩:∃ m,n=m+1:=⟨n-1,by omega⟩
    cases j with
    | zero=>
      simp only [List.getElem?_cons_zero,aO] at h;subst h;simp only [List.set_cons_zero,List.take_succ_cons,lv,val];omega
    | succ j=>
      have:=ih j m (by simpa using h) (by omega);simp only [List.set_cons_succ,List.take_succ_cons,lv,val,Nat.pow_succ] at this ⊢;have h1:1000000000^j*1000000000*old=1000000000*(1000000000^j*old):=by rw [Nat.mul_right_comm,Nat.mul_comm]
      have h2:1000000000^j*1000000000*z=1000000000*(1000000000^j*z):=by rw [Nat.mul_right_comm,Nat.mul_comm]
      rw [h1,h2];omega
 exact key os j n hj hjn
theorem ZG (n:Nat):lv (List.replicate n 0)=0:=by
 induction n with
 | zero=>rfl
 | succ n ih=>rw [List.replicate_succ,lv,val];simp only [lv] at ih;rw [ih]
structure Ir (xs ys:List Nat) (i:Nat) (os:List Nat):Prop where
 le:i≤xs.length
 len:os.length=xs.length+ys.length
 dg:Dg os
 eq:lv (os.take (i+ys.length))=lv (xs.take i)*lv ys
structure TIn (xs ys:List Nat) (i x T k c:Nat) (os:List Nat):Prop where
 le:k≤ys.length
 len:os.length=xs.length+ys.length
 dg:Dg os
 c1:c<1000000000
 eq:lv (os.take (i+ys.length))+1000000000^(i+k)*c=T+x*(1000000000^i*lv (ys.take k))
theorem Ir.init (xs ys:List Nat):Ir xs ys 0 (List.replicate (xs.length+ys.length) 0):=⟨bV _,by simp,Dg.rep _,by
 rw [List.take_replicate,ZG];simp [lv,val]⟩
theorem Ir.inn {xs ys os:List Nat} {i x:Nat} (h:Ir xs ys i os):TIn xs ys i x (lv (xs.take i)*lv ys) 0 0 os:=⟨bV _,h.len,h.dg,by omega,by rw [h.eq];simp [lv,val]⟩
theorem TIn.next {xs ys os:List Nat} {i x T k c y old z c':Nat} (h:TIn xs ys i x T k c os) (hi:i<xs.length) (hk:k<ys.length) (hx:x<1000000000) (hy:ys[k]? = some y) (ho:os[i+k]? = some old) (hz:z<1000000000) (hc:c'<1000000000) (he:z+1000000000*c'=c+(x*y+old)) :
  TIn xs ys i x T (k+1) c' (os.set (i+k) z):=by
 refine ⟨hk,by rw [List.length_set];exact h.len,h.dg.set hz,hc,?_⟩;have h1:=aP7 (z:=z) (n:=i+ys.length) ho;have h2:=congrArg (fun t=>1000000000^(i+k)*t) he;have h3:=h.eq;rw [fW hy];simp only [Nat.mul_add] at h2 ⊢;have e1:1000000000^(i+(k+1))*c'=1000000000^(i+k)*(1000000000*c'):=by rw [←Nat.add_assoc,Nat.pow_succ,Nat.mul_assoc]
 have e2:x*(1000000000^i*(1000000000^k*y))=1000000000^(i+k)*(x*y):=by rw [Nat.pow_add];simp only [Nat.mul_left_comm,Nat.mul_assoc]
 rw [e1,e2];omega
theorem TIn.out {xs ys os:List Nat} {i x c:Nat} (h:TIn xs ys i x (lv (xs.take i)*lv ys) ys.length c os) (hx:xs[i]? = some x):Ir xs ys (i+1) (os.set (i+ys.length) c):=by
 have hi:i<xs.length:=(eF.1 hx).1;refine ⟨hi,by rw [List.length_set];exact h.len,h.dg.set h.c1,?_⟩;have h3:=h.eq;rw [List.take_length] at h3;rw [show i+1+ys.length=i+ys.length+1 by omega,uN (by rw [h.len];omega),fW hx,h3,Nat.add_mul]
 congr 1
 rw [Nat.mul_left_comm,←Nat.mul_assoc]
theorem Ir.fin {xs ys os:List Nat} (h:Ir xs ys xs.length os):lv os=lv xs*lv ys:=by
 have:=h.eq;rw [List.take_of_length_le (by rw [h.len];omega),List.take_length] at this;exact this
set_option maxHeartbeats 1000000 in
theorem kF (a b:Nat) (hs:(dg a).length+(dg b).length<1099511627776:=by omega):aM prog 118 [mT a,mT b] (.ret [mT (a*b)]):=by
 refine cT (args:=[.v (some 1), .v (some 1)]) (ins:=[.v (mT a), .v (mT b)]) (hints:=fun _=>none) fo (by kernel_rfl) func118 ⟨rfl,rfl,trivial⟩ ?_;rw [ao9];dsimp only [List.map,In.env];apply vn (aU dU cS) rfl;apply vn (aU dU cS) rfl;apply vn (eH (c:=(((dg a).length+(dg b).length:Nat):Int)) (by rw [oP]<;>omega)) rfl;dsimp only [aD,aC];refine tQ (n:=(dg a).length+(dg b).length) (m:=(dg a).length+(dg b).length) rfl rfl Iw (bC _) (by omega) (by simp [maxLen];omega) ?_;apply vn (aU dU cS) rfl;refine bB {g:Nat×List Nat // Ir (dg a) (dg b) g.1 g.2} (fun g=>[.one (.int .i64 g.1.1), .rows (rT g.1.2)]) (fun g=>(dg a).length-g.1.1) ⟨(0,List.replicate ((dg a).length+(dg b).length) 0),Ir.init _ _⟩ aN.rfl (fun _=>rfl) ?_;rintro ⟨⟨i,os⟩,hO⟩;dsimp only [aD,aC] at hO ⊢;apply vn wO rfl;refine vs _ rfl ?_ ?_<;>intro h
 ·have hlt:i<(dg a).length:=by omega
  have hget:(dg a)[i]? = some ((dg a)[i]'hlt):=bI hlt;generalize (dg a)[i]'hlt=x at hget;have hx:=(lY a).get hget;apply vn (Fv dU (by simpa using hget)) rfl;apply vn Ff rfl;dsimp only [aD,aC];apply vn (aU dU cS) rfl;refine bB {g:Nat×Nat×List Nat // TIn (dg a) (dg b) i x (lv ((dg a).take i)*lv (dg b)) g.1 g.2.1 g.2.2} (fun g=>[.one (.int .u64 g.1.2.1), .one (.int .i64 g.1.1), .rows (rT g.1.2.2)]) (fun g=>(dg b).length-g.1.1) ⟨(0,0,os),hO.inn⟩ aN.rfl (fun _=>rfl) ?_;rintro ⟨⟨k,c,os2⟩,hI⟩;dsimp only [aD,aC] at hI ⊢;have hc:=hI.c1;apply vn wO rfl;refine vs _ rfl ?_ ?_<;>intro h1
  ·have hlk:k<(dg b).length:=by omega
   have hgk:(dg b)[k]? = some ((dg b)[k]'hlk):=bI hlk;generalize (dg b)[k]'hlk=y at hgk;have hy:=(lY b).get hgk;have hol:i+k<os2.length:=by rw [hI.len];omega
   have hok:os2[i+k]? = some (os2[i+k]'hol):=bI hol;generalize os2[i+k]'hol=old at hok;have hold:=hI.dg.get hok;have hxy:x*y≤999999999*999999999:=Nat.mul_le_mul (by omega) (by omega);apply vn (Fv dU (by simpa using hgk)) rfl;apply vn Ff rfl;dsimp only [aD,aC];apply vn (jN ⟨_,iJ⟩ jE (c:=(x:Int)) (by rw [uW]<;>omega)) rfl;apply vn (jN ⟨_,iJ⟩ jE (c:=(y:Int)) (by rw [uW]<;>omega)) rfl;apply vn (tP (c:=((x*y:Nat):Int)) (by rw [←Int.natCast_mul,uW]<;>omega)) rfl;dsimp only [aD,aC];apply vn (eH (c:=((i+k:Nat):Int)) (by rw [oP]<;>omega)) rfl;refine kR (ts:=rT os2) rfl rfl (by omega) (by rw [cS];omega) ?_;refine vld (ts:=rT os2) (cells:=[aG.int .u32 (old:Int)]) (t:=.one (.int .u32 (old:Int))) rfl rfl (by omega) (qR (by rw [Int.toNat_natCast];exact hok)) (.inr rfl) rfl ?_;apply vn (jN ⟨_,iJ⟩ jE (c:=(old:Int)) (by rw [uW]<;>omega)) rfl;dsimp only [aD,aC];apply vn (eH (c:=((x*y+old:Nat):Int)) (by rw [uW]<;>omega)) rfl;apply vn (eH (c:=((c+(x*y+old):Nat):Int)) (by rw [uW]<;>omega)) rfl;dsimp only [aD,aC];generalize hs2:c+(x*y+old)=w;have hw:w<1000000000*1000000000:=by omega
   apply vn (eH (c:=((i+k:Nat):Int)) (by rw [oP]<;>omega)) rfl;apply vn (Es (c:=((w%1000000000:Nat):Int)) (by decide) (by rw [Int.tmod_eq_emod_of_nonneg (by omega)];omega)) rfl;apply vn (jN ⟨_,jE⟩ iJ (c:=((w%1000000000:Nat):Int)) (by rw [AJ]<;>omega)) rfl;dsimp only [aD,aC];apply vn (rN (c:=((w/1000000000:Nat):Int)) (by decide) (by rw [Int.tdiv_eq_ediv_of_nonneg (by omega),uW]<;>omega)) rfl;refine kR (ts:=rT os2) rfl rfl (by omega) (by rw [cS];omega) ?_;refine EX (ts:=rT os2) (us:=rT (os2.set (i+k) (w%1000000000))) rfl rfl (by omega) (qR (by rw [Int.toNat_natCast];exact hok)) lD ?_;apply vn (eH (c:=((k+1:Nat):Int)) (by rw [oP]<;>omega)) rfl;dsimp only [aD,aC];have hN:TIn (dg a) (dg b) i x (lv ((dg a).take i)*lv (dg b)) (k+1) (w/1000000000) (os2.set (i+k) (w%1000000000)):=hI.next hlt hlk hx hgk hok (by omega) (by omega) (by omega);exact aR rfl ⟨⟨(k+1,w/1000000000,os2.set (i+k) (w%1000000000)),hN⟩,aN.rfl,by show (dg b).length-(k+1)<(dg b).length-k;omega⟩
  ·have hke:k=(dg b).length:=by have:=hI.le;omega
   subst hke;have hol:i+(dg b).length<os2.length:=by rw [hI.len];omega
   have hok:os2[i+(dg b).length]? = some (os2[i+(dg b).length]'hol):=bI hol;apply vn (aU dU cS) rfl;apply vn (eH (c:=((i+(dg b).length:Nat):Int)) (by rw [oP]<;>omega)) rfl;apply vn (jN ⟨_,jE⟩ iJ (c:=(c:Int)) (by rw [AJ]<;>omega)) rfl;dsimp only [aD,aC];refine kR (ts:=rT os2) rfl rfl (by omega) (by rw [cS];omega) ?_;refine EX (ts:=rT os2) (us:=rT (os2.set (i+(dg b).length) c)) rfl rfl (by omega) (qR (by rw [Int.toNat_natCast];exact hok)) lD ?_;apply vn (eH (c:=((i+1:Nat):Int)) (by rw [oP]<;>omega)) rfl;dsimp only [aD,aC];exact aR rfl ⟨⟨(i+1,os2.set (i+(dg b).length) c),hI.out hget⟩,aN.rfl,by show (dg a).length-(i+1)<(dg a).length-i;omega⟩
 ·have hie:i=(dg a).length:=by have:=hO.le;omega
  subst hie;apply aA (jX os hO.dg (by rw [hO.len];omega)) rfl;dsimp only [aD,aC];refine aK ?_;have hf:=hO.fin;rw [iD,iD] at hf;rw [hf];rfl
open Go Go.Proofs Tryz Ord
def bj9:Tr:=.ret [(W 1 0)]
def bF2:Tr:=bO .neq 3 3 4 0 0 0 0 4 bj9
theorem Lz:aL prog f253 (fun _=>none) [.v none]=bF2:=by kernel_rfl
def bD9:Tr:=bO .neq 255 3 4 0 0 0 0 4 bj9
theorem Nb:aL prog f254 (fun _=>none) [.v none]=bD9:=by kernel_rfl
def bm3:Tr:=.split (.u 3 0) am7 aj0
def au4:Tr:=.split (.u 5 0) an0 am7
def bE3:Tr:=aJ 253 [(W 0 0)] [none] [7] [3] 4 true (aJ 253 [(W 1 0)] [none] [9] [3] 4 true (.split (.u 2 0) bm3 (.split (.u 3 0) an0 (bO .lss 3 14 15 0 0 1 0 4 (.split (.u 4 0) aj0 (bO .gtr 3 17 18 0 0 1 0 4 au4))))))
theorem VD:aL prog f198 (fun _=>none) [.v none, .v none]=bE3:=by kernel_rfl
def bu3:Tr:=aJ 254 [(W 0 0)] [none] [7] [255] 4 true (aJ 254 [(W 1 0)] [none] [9] [255] 4 true (.split (.u 2 0) bm3 (.split (.u 3 0) an0 (bO .lss 255 14 15 0 0 1 0 4 (.split (.u 4 0) aj0 (bO .gtr 255 17 18 0 0 1 0 4 au4))))))
theorem SJ:aL prog f199 (fun _=>none) [.v none, .v none]=bu3:=by kernel_rfl
def aV7:Tr:=eN 1 0 9 0 33 32 33 (dR 13 0 none 255 34 (aJ 199 [(W 12 0),(W 14 0)] [none] [30,35] [255,255] 3 true (aW .neq 3 37 0 15 0 4 (.split (.u 16 0) (.ret [(W 15 0)]) (aW .sub 3 24 1 9 0 3 (.back 0 [lV 8 0,lV 17 0]))))))
def bq4:Tr:=cU 0 0 19 33 (aW .sub 3 20 1 6 0 3 (.loop 0 [lK 0,lV 7 0] (aW .geq 3 22 0 9 0 4 (.split (.u 10 0) (eN 0 0 9 0 33 27 28 (dR 11 0 none 255 29 aV7)) am7))))
def bv6:Tr:=cU 0 0 9 33 (cU 1 0 12 33 (aJ 198 [(W 2 0),(W 3 0)] [none] [10,13] [3,3] 3 true (aW .neq 3 15 0 4 0 4 (.split (.u 5 0) (.ret [(W 4 0)]) bq4))))
theorem Qt:aL prog f119 (fun _=>none) [.v (some 1), .v (some 1)]=bv6:=by kernel_rfl
def aU7:Tr:=.need (.prim [(W 16 0)] none) (.convert 254 255 (tT 35)) 255 false (.need (.prim [(W 1 0)] none) (.convert 255 254 (tT 38)) 254 false (bO .rem 254 37 39 14 0 18 0 254 (.need (.idx 8 (.u 7 0)) (.indexAddr 33 (tT 30) (tT 31)) 0 false (.need (.strow 8 1 (.u 7 0) 0 [(.u 17 0)]) (.store 255 (tT 41) (tT 36)) 0 false (aW .sub 3 19 1 7 0 3 (.back 0 [lV 19 0,lV 21 0, .row 20]))))))
def by1:Tr:=.need (.prim [(W 6 0),(.one (.c (.k (.int .u64 1000000000))))] none) (.binOp .mul 254 (tT 21) (.const (.int .u64 1000000000)) 254) 254 false (eN 0 0 7 0 33 24 25 (dR 11 0 none 255 26 (.need (.prim [(W 12 0)] none) (.convert 255 254 (tT 27)) 254 false (bO .add 254 22 28 10 0 13 0 254 (.need (.prim [(W 1 0)] none) (.convert 255 254 (tT 33)) 254 false (bO .quo 254 32 34 14 0 15 0 254 aU7))))))
def bk6:Tr:=aW .sub 3 15 1 4 0 3 (.loop 0 [(.w (.one (.c (.k (.int .u64 0))))),lV 5 0, .row 3] (aW .geq 3 17 0 7 0 4 (.split (.u 9 0) by1 (aJ 197 [(.one (.c (.sr 1 8)))] [(some 1)] [42] [33] 35 false (aJ 195 [(W 6 0)] [(some 1)] [44] [254] 35 true (.ret [(G1 10),(G1 11)]))))))
def bx4:Tr:=cU 0 0 10 33 (.need (.make [(.int .u32 0)] 4 (.u 2 0) (.u 2 0)) (.makeSlice 33 (tT 11) (tT 11)) 33 false (cU 0 0 14 33 bk6))
theorem UH:aL prog f250 (fun _=>none) [.v (some 1), .v none]=bx4:=by kernel_rfl
def bm5:Tr:=cU 0 0 4 33 (aW .eql 3 5 1 1 0 4 (.split (.u 2 0) (.need (.prim [(W 0 0),(WK 0)] none) (.indexAddr 33 (tT 9) (.const (I3 0))) 0 false (dR 3 0 none 255 10 (.need (.prim [(W 4 0),(.one (.c (.k (.int .u32 1))))] none) (.binOp .eql 255 (tT 11) (.const (.int .u32 1)) 255) 4 false (.ret [(W 5 0)])))) (.ret [(tF false)])))
theorem aS1:aL prog f192 (fun _=>none) [.v (some 1)]=bm5:=by kernel_rfl
def fI (x y:Int):Int:=if x<y then -1 else if y<x then 1 else 0
theorem EH (x:Int):aM prog 253 [.one (.int .i64 x)] (.ret [.one (.bool false)]):=by
 refine cT (args:=[.v none]) (ins:=[.v (.one (.int .i64 x))]) (hints:=fun _=>none) fo (by kernel_rfl) func253 ⟨rfl,trivial⟩ ?_;rw [Lz];apply vn Ky rfl;refine aK ?_;show [aE.one (.bool (!decide (x=x)))]=_;simp
theorem Ww (x y:Int):aM prog 198 [.one (.int .i64 x), .one (.int .i64 y)] (.ret [.one (.int .i64 (fI x y))]):=by
 refine cT (args:=[.v none, .v none]) (ins:=[.v (.one (.int .i64 x)), .v (.one (.int .i64 y))]) (hints:=fun _=>none) fo (by kernel_rfl) func198 ⟨rfl,rfl,trivial⟩ ?_;rw [VD];apply aA (EH x) rfl;apply aA (EH y) rfl;refine mH false rfl (fun h=>by cases h) (fun _=>?_);refine mH false rfl (fun h=>by cases h) (fun _=>?_);apply vn wO rfl;refine vs _ rfl ?_ ?_<;>intro h
 ·refine aK ?_;rw [fI,if_pos h];rfl
 ·apply vn JJ rfl;refine vs _ rfl ?_ ?_<;>intro h2
  ·refine aK ?_;rw [fI,if_neg h,if_pos h2];rfl
  ·refine aK ?_;rw [fI,if_neg h,if_neg h2];rfl
theorem De (x:Int):aM prog 254 [.one (.int .u32 x)] (.ret [.one (.bool false)]):=by
 refine cT (args:=[.v none]) (ins:=[.v (.one (.int .u32 x))]) (hints:=fun _=>none) fo (by kernel_rfl) func254 ⟨rfl,trivial⟩ ?_;rw [Nb];apply vn Ky rfl;refine aK ?_;show [aE.one (.bool (!decide (x=x)))]=_;simp
theorem RI (x y:Int):aM prog 199 [.one (.int .u32 x), .one (.int .u32 y)] (.ret [.one (.int .i64 (fI x y))]):=by
 refine cT (args:=[.v none, .v none]) (ins:=[.v (.one (.int .u32 x)), .v (.one (.int .u32 y))]) (hints:=fun _=>none) fo (by kernel_rfl) func199 ⟨rfl,rfl,trivial⟩ ?_;rw [SJ];apply aA (De x) rfl;apply aA (De y) rfl;refine mH false rfl (fun h=>by cases h) (fun _=>?_);refine mH false rfl (fun h=>by cases h) (fun _=>?_);apply vn wO rfl;refine vs _ rfl ?_ ?_<;>intro h
 ·refine aK ?_;rw [fI,if_pos h];rfl
 ·apply vn JJ rfl;refine vs _ rfl ?_ ?_<;>intro h2
  ·refine aK ?_;rw [fI,if_neg h,if_pos h2];rfl
  ·refine aK ?_;rw [fI,if_neg h,if_neg h2];rfl
theorem YM (z:Int):aM prog 114 [iT z] (.ret [.one (.int .i64 z.sign)]):=by
 refine cT (args:=[.v (some 2)]) (ins:=[.v (iT z)]) (hints:=fun _=>none) fo (by kernel_rfl) func114 ⟨rfl,trivial⟩ ?_;rw [Zy];apply aA (Ap z.natAbs) rfl;refine vs _ rfl ?_ ?_<;>intro h
 ·refine aK ?_;have:z.sign=0:=by rw [Int.sign_eq_zero_iff_zero];omega
  rw [this];rfl
 ·refine vs _ rfl ?_ ?_<;>intro h2
  ·refine aK ?_;rw [Int.sign_eq_neg_one_of_neg h2];rfl
  ·refine aK ?_;rw [Int.sign_eq_one_of_pos (by omega)];rfl
theorem Aj {xs ys:List Nat} (hx:Dg xs) (hlen:xs.length=ys.length) {i x y:Nat} (hi:xs[i]? = some x) (hj:ys[i]? = some y) (hd:xs.drop (i+1)=ys.drop (i+1)) (hxy:x<y):lv xs<lv ys:=by
 have hil:i<xs.length:=(eF.1 hi).1
 have e1:lv xs=lv (xs.take (i+1))+1000000000^(i+1)*lv (xs.drop (i+1)):=by
  conv=>lhs;rw [←List.take_append_drop (i+1) xs]
  rw [vI,List.length_take,Nat.min_eq_left (by omega)]
 have e2:lv ys=lv (ys.take (i+1))+1000000000^(i+1)*lv (ys.drop (i+1)):=by
  conv=>lhs;rw [←List.take_append_drop (i+1) ys]
  rw [vI,List.length_take,Nat.min_eq_left (by omega)]
 rw [e1,e2,hd,fW hi,fW hj]
 have h1:lv (xs.take i)<1000000000^i:=by
  have:=MD (B:=1000000000) (by omega) (xs.take i) (hx.take i);rw [List.length_take,Nat.min_eq_left (by omega)] at this;exact this
 have h2:1000000000^i*(x+1)≤1000000000^i*y:=Nat.mul_le_mul_left _ hxy;rw [Nat.mul_add,Nat.mul_one] at h2;omega
theorem yG {a b:Nat} (h:(dg a).length<(dg b).length):a<b:=by
 have hb:b≠0:=by rintro rfl;rw [show dg 0 = [] from dJ _] at h;simp at h
 have h1:=mC (B:=1000000000) (by omega) a;have h2:=gW (B:=1000000000) (by omega) hb;have h3:1000000000^(dg a).length≤1000000000^((dg b).length-1):=Nat.pow_le_pow_right (by omega) (by omega);exact Nat.lt_of_lt_of_le h1 (Nat.le_trans h3 h2)
theorem vT {a b:Int} (h:a<b):fI a b = -1:=if_pos h
theorem vU {a b:Int} (h:b<a):fI a b=1:=by rw [fI,if_neg (by omega),if_pos h]
theorem Co (a:Int):fI a a=0:=by rw [fI,if_neg (by omega),if_neg (by omega)]
theorem Gl {a b:Int}:fI a b=0↔a=b:=by
 unfold fI;constructor
 ·intro h;split at h
  ·cases h
  ·split at h
   ·cases h
   ·omega
 ·rintro rfl;simp
theorem vZ (a b:Nat) (hs:(dg a).length+(dg b).length<1099511627776:=by omega):aM prog 119 [mT a,mT b] (.ret [.one (.int .i64 (fI a b))]):=by
 refine cT (args:=[.v (some 1), .v (some 1)]) (ins:=[.v (mT a), .v (mT b)]) (hints:=fun _=>none) fo (by kernel_rfl) func119 ⟨rfl,rfl,trivial⟩ ?_;rw [Qt];dsimp only [List.map,In.env];apply vn (aU dU cS) rfl;apply vn (aU dU cS) rfl;apply aA (Ww _ _) rfl;dsimp only [aD,aC];apply vn Ky rfl;refine mH (!decide (fI ((dg a).length:Int) ((dg b).length:Int)=0)) rfl (fun h=>?_) (fun h=>?_)
 ·refine aK ?_;have hne:¬ fI ((dg a).length:Int) ((dg b).length:Int)=0:=by simpa using h
  have:fI ((dg a).length:Int) ((dg b).length:Int)=fI a b:=by
   rcases Nat.lt_trichotomy (dg a).length (dg b).length with hl | hl | hl
   ·rw [vT (by omega),vT (by have:=yG hl;omega)]
   ·rw [hl] at hne;exact absurd (Co _) hne
   ·rw [vU (by omega),vU (by have:=yG hl;omega)]
  rw [←this];rfl
 ·have he:(dg a).length=(dg b).length:=by
   have:fI ((dg a).length:Int) ((dg b).length:Int)=0:=by simpa using h
   have:=Gl.1 this;omega
  apply vn (aU dU cS) rfl;apply vn (nM (c:=((dg a).length:Int)-1) (by rw [oP]<;>omega)) rfl;dsimp only [aD,aC];refine bB {n:Nat // n≤(dg a).length∧(dg a).drop n=(dg b).drop n} (fun g=>[.one (.int .i64 0), .one (.int .i64 ((g.1:Int)-1))]) (fun g=>g.1) ⟨(dg a).length,bC _,by rw [List.drop_length,he,List.drop_length]⟩ aN.rfl (fun _=>rfl) ?_;rintro ⟨n,hn,hdr⟩;dsimp only [aD,aC];apply vn Dz rfl;refine vs _ rfl ?_ ?_<;>intro h1
  ·have hla:n-1<(dg a).length:=by omega
   have hlb:n-1<(dg b).length:=by omega
   have hga:(dg a)[n-1]? = some ((dg a)[n-1]'hla):=bI hla;have hgb:(dg b)[n-1]? = some ((dg b)[n-1]'hlb):=bI hlb;generalize hxe:(dg a)[n-1]'hla=x at hga;generalize hye:(dg b)[n-1]'hlb=y at hgb;have htn:((n:Int)-1).toNat=n-1:=by omega
   have hdr':(dg a).drop (n-1+1)=(dg b).drop (n-1+1):=by rw [show n-1+1=n by omega];exact hdr
   apply vn (Fv dU (by rw [htn];exact hga)) rfl;apply vn Ff rfl;dsimp only [aD,aC];apply vn (Fv dU (by rw [htn];exact hgb)) rfl;apply vn Ff rfl;apply aA (RI _ _) rfl;dsimp only [aD,aC];apply vn Ky rfl;refine mH (!decide (fI (x:Int) (y:Int)=0)) rfl (fun h2=>?_) (fun h2=>?_)
   ·refine aK ?_;have hne:¬ fI (x:Int) (y:Int)=0:=by simpa using h2
    have:fI (x:Int) (y:Int)=fI a b:=by
     rcases Nat.lt_trichotomy x y with hl | hl | hl
     ·have:=Aj (lY a) he hga hgb hdr' hl;rw [iD,iD] at this;rw [vT (by omega),vT (by omega)]
     ·subst hl;exact absurd (Co _) hne
     ·have:=Aj (lY b) he.symm hgb hga hdr'.symm hl;rw [iD,iD] at this;rw [vU (by omega),vU (by omega)]
    rw [←this];rfl
   ·have hxy:x=y:=by
     have:fI (x:Int) (y:Int)=0:=by simpa using h2
     have:=Gl.1 this;omega
    apply vn (nM (c:=((n-1:Nat):Int)-1) (by rw [oP]<;>omega)) rfl;dsimp only [aD,aC];refine aR rfl ⟨⟨n-1,by omega,?_⟩,aN.rfl,by show n-1<n;omega⟩;rw [List.drop_eq_getElem_cons hla,List.drop_eq_getElem_cons hlb,hxe,hye,hxy,hdr']
  ·have hn0:n=0:=by omega
   subst hn0;refine aK ?_;rw [List.drop_zero,List.drop_zero] at hdr;have:a=b:=by have:=congrArg lv hdr;rwa [iD,iD] at this
   subst this;exact congrArg (fun x=>[aE.one (aG.int .i64 x)]) (Co (a:Int)).symm
open Go Go.Proofs Tryz Ord
theorem ID {xs:List Nat} {i x:Nat} (h:xs[i]? = some x):lv (xs.drop i)=x+1000000000*lv (xs.drop (i+1)):=by
 have hi:i<xs.length:=(eF.1 h).1;rw [List.drop_eq_getElem_cons hi,(eF.1 h).2];rfl
structure Iy (xs:List Nat) (d n r:Nat) (os:List Nat):Prop where
 le:n≤xs.length
 len:os.length=xs.length
 dg:Dg os
 r1:r<d
 eq:lv (os.drop n)*d+r=lv (xs.drop n)
theorem Iy.init (xs:List Nat) {d:Nat} (hd:0<d):Iy xs d xs.length 0 (List.replicate xs.length 0):=⟨bC _,by simp,Dg.rep _,hd,by simp [lv,val]⟩
theorem Iy.next {xs os:List Nat} {d n r x:Nat} (h:Iy xs d (n+1) r os) (hd:d<1000000000) (hx:xs[n]? = some x) (hx1:x<1000000000):Iy xs d n ((r*1000000000+x)%d) (os.set n ((r*1000000000+x)/d)):=by
 have hd0:0<d:=by have:=h.r1;omega
 have hq:(r*1000000000+x)/d<1000000000:=by
  rw [Nat.div_lt_iff_lt_mul hd0];have h1:=h.r1;have:(r+1)*1000000000≤d*1000000000:=Nat.mul_le_mul_right _ h1;rw [Nat.add_mul] at this;rw [Nat.mul_comm 1000000000 d];omega
 have hl:=h.le;have hlen:=h.len;refine ⟨by omega,by rw [List.length_set];exact hlen,h.dg.set hq,Nat.mod_lt _ hd0,?_⟩
 have hs:(os.set n ((r*1000000000+x)/d))[n]? = some ((r*1000000000+x)/d):=by
  rw [List.getElem?_set_self (by omega)]
 rw [ID hs,ID hx,List.drop_set_of_lt (by omega),←h.eq];have h1:=Nat.div_add_mod (r*1000000000+x) d;rw [Nat.mul_comm d] at h1;simp only [Nat.add_mul,Nat.mul_add,Nat.mul_assoc];omega
theorem Iy.fin {xs os:List Nat} {d r:Nat} (h:Iy xs d 0 r os):lv os=lv xs/d∧r=lv xs%d:=by
 have h1:=h.eq;rw [List.drop_zero,List.drop_zero] at h1;have h2:=h.r1;have e:lv xs=r+d*lv os:=by rw [←h1,Nat.mul_comm];omega
 constructor
 ·rw [e,Nat.add_mul_div_left _ _ (by omega),Nat.div_eq_of_lt h2,Nat.zero_add]
 ·rw [e,Nat.add_mul_mod_self_left,Nat.mod_eq_of_lt h2]
theorem Kw (a d:Nat) (hd0:0<d) (hd:d<1000000000) (hs:(dg a).length<1099511627776:=by omega):aM prog 250 [mT a, .one (.int .u32 d)] (.ret [mT (a/d),mT (a%d)]):=by
 refine cT (args:=[.v (some 1), .v none]) (ins:=[.v (mT a), .v (.one (.int .u32 d))]) (hints:=fun _=>none) fo (by kernel_rfl) func250 ⟨rfl,rfl,trivial⟩ ?_;rw [UH];dsimp only [List.map,In.env];apply vn (aU dU cS) rfl;refine tQ (n:=(dg a).length) (m:=(dg a).length) rfl rfl Iw (bC _) (by omega) (by simp [maxLen];omega) ?_;apply vn (aU dU cS) rfl;dsimp only [aD,aC];apply vn (nM (c:=((dg a).length:Int)-1) (by rw [oP]<;>omega)) rfl;refine bB {g:Nat×Nat×List Nat // Iy (dg a) d g.1 g.2.1 g.2.2} (fun g=>[.one (.int .u64 g.1.2.1), .one (.int .i64 ((g.1.1:Int)-1)), .rows (rT g.1.2.2)]) (fun g=>g.1.1) ⟨((dg a).length,0,List.replicate (dg a).length 0),Iy.init _ hd0⟩ aN.rfl (fun _=>rfl) ?_;rintro ⟨⟨n,r,os⟩,hI⟩;dsimp only [aD,aC] at hI ⊢;have hr1:=hI.r1;have hln:=hI.le;apply vn Dz rfl;refine vs _ rfl ?_ ?_<;>intro h1
 ·obtain ⟨m,rfl⟩:∃ m,n=m+1:=⟨n-1,by omega⟩
  have hlt:m<(dg a).length:=by omega
  have hget:(dg a)[m]? = some ((dg a)[m]'hlt):=bI hlt;generalize (dg a)[m]'hlt=x at hget;have hx:=(lY a).get hget;have hol:m<os.length:=by rw [hI.len];omega
  have hok:os[m]? = some (os[m]'hol):=bI hol;have htn:(((m+1:Nat):Int)-1).toNat=m:=by omega
  apply vn (tP (c:=((r*1000000000:Nat):Int)) (by rw [uW]<;>omega)) rfl;apply vn (Fv dU (by rw [htn];exact hget)) rfl;dsimp only [aD,aC];apply vn Ff rfl;apply vn (jN ⟨_,iJ⟩ jE (c:=(x:Int)) (by rw [uW]<;>omega)) rfl;apply vn (eH (c:=((r*1000000000+x:Nat):Int)) (by rw [uW]<;>omega)) rfl;dsimp only [aD,aC];have hN:=hI.next hd hget hx;have hqd:=hN.dg.get (i:=m) (d:=(r*1000000000+x)/d) (List.getElem?_set_self (by omega));have hrd:=hN.r1;generalize hw:r*1000000000+x=w at hN hqd hrd ⊢;generalize hq:w/d=q at hN hqd;generalize hm:w%d=rr at hN hrd;apply vn (jN ⟨_,iJ⟩ jE (c:=(d:Int)) (by rw [uW]<;>omega)) rfl;apply vn (rN (c:=(q:Int)) (by omega) (by rw [Int.tdiv_eq_ediv_of_nonneg (by omega),←Int.natCast_ediv,hq,uW]<;>omega)) rfl;apply vn (jN ⟨_,jE⟩ iJ (c:=(q:Int)) (by rw [AJ]<;>omega)) rfl;dsimp only [aD,aC];apply vn (jN ⟨_,iJ⟩ jE (c:=(d:Int)) (by rw [uW]<;>omega)) rfl;apply vn (Es (c:=(rr:Int)) (by omega) (by rw [Int.tmod_eq_emod_of_nonneg (by omega),←Int.natCast_emod,hm])) rfl;refine kR (ts:=rT os) rfl rfl (by omega) (by rw [cS];omega) ?_;refine EX (ts:=rT os) (us:=rT (os.set m q)) rfl rfl (by omega) (qR (by rw [htn];exact hok)) (by rw [htn];exact lD) ?_;dsimp only [aD,aC];apply vn (nM (c:=(m:Int)-1) (by rw [oP]<;>omega)) rfl;dsimp only [aD,aC];exact aR rfl ⟨⟨(m,rr,os.set m q),hN⟩,aN.rfl,by show m<m+1;omega⟩
 ·have hn0:n=0:=by omega
  subst hn0;obtain ⟨hf1,hf2⟩:=hI.fin;rw [iD] at hf1 hf2;apply aA (jX os hI.dg (by rw [hI.len];omega)) rfl;apply aA (jF r) rfl;dsimp only [aD,aC];refine aK ?_;rw [hf1,←hf2];rfl
end Go.Sy
