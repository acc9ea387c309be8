/- Numbers: their types, and the first facts. Zeros at the end are taken away. The sum of magnitudes. Small magnitudes, zero, signs. The product of magnitudes. Comparing; division by one digit. Division by one digit.
-/
import Derived.Test.YtdmcadckdnnglaaGreatDoorFa
import Derived.Test.YtdmcadckdnnglaaGreatDoorPa
import Derived.Laws.BitsLemmas
import Derived.Laws.Bits64
set_option linter.unusedVariables false
set_option linter.unusedSimpArgs false
namespace Go.Sy
open Go Go.Proofs Tryz Ord
abbrev rT (ds:List Nat):List (List aI):=ds.map fun (d:Nat)=>[aI.int .u32 (d:Int)]
abbrev dg (n:Nat):List Nat:=jK 1000000000 n
abbrev lv (ds:List Nat):Nat:=val 1000000000 ds
abbrev dT (n:Nat):aI:=.slice 1 (rT (dg n))
abbrev mT (n:Nat):aG:=.agg [dT n]
def Dg (ds:List Nat):Prop:=∀ d∈ds,d<1000000000
theorem Ay {n:Int} (h0:0≤n) (h:n<4294967296):IntKind.u32.wrap n=n:=by rw [IntKind.wrap_u32];omega
theorem sV {n:Int} (h0:0≤n) (h:n<18446744073709551616):IntKind.u64.wrap n=n:=by rw [IntKind.wrap_u64];omega
theorem nJ {n:Int} (h0:-9223372036854775808≤n) (h:n<9223372036854775808):IntKind.i64.wrap n=n:=by rw [IntKind.wrap_i64];omega
theorem pQ {ds:List Nat} {i d:Nat} (h:ds[i]? = some d):(rT ds)[i]? = some [aI.int .u32 (d:Int)]:=by
 rw [List.getElem?_map,h];rfl
theorem jJ {ds:List Nat} {i x:Nat}:(rT ds).set i [aI.int .u32 (x:Int)]=rT (ds.set i x):=by
 rw [rT,rT,List.map_set]
theorem cD {ds:List Nat}:(rT ds).length=ds.length:=List.length_map _
theorem zW {n:Nat}:dg n = []↔n=0:=by
 constructor
 ·intro h;by_cases hn:n=0
  ·exact hn
  ·rw [dg,fL (by omega) hn] at h;cases h
 ·rintro rfl;exact dA _
theorem jV (n:Nat):Dg (dg n):=BE (by omega) n
theorem gD (n:Nat):lv (dg n)=n:=xQ (by omega) n
theorem Dg.take {ds:List Nat} (h:Dg ds) (n:Nat):Dg (ds.take n):=fun d hd=>h d (List.mem_of_mem_take hd)
theorem Dg.set {ds:List Nat} (h:Dg ds) {i x:Nat} (hx:x<1000000000):Dg (ds.set i x):=fun d hd=>by
 rcases List.mem_or_eq_of_mem_set hd with hd | rfl
 ·exact h d hd
 ·exact hx
theorem Dg.get {ds:List Nat} (h:Dg ds) {i d:Nat} (hd:ds[i]? = some d):d<1000000000:=h d (List.mem_of_getElem? hd)
theorem GI {ds:List Nat} {i d:Nat} (h:ds[i]? = some d):ds.take (i+1)=ds.take i ++ [d]:=by
 rw [List.take_add_one,h];rfl
theorem uU (xs ys:List Nat):lv (xs++ys)=lv xs+1000000000^xs.length*lv ys:=iA _ _ _
theorem aj2 (d:Nat):lv [d]=d:=by simp [lv,val]
theorem eL {ds:List Nat} {i d:Nat} (h:ds[i]? = some d):lv (ds.take (i+1))=lv (ds.take i)+1000000000^i*d:=by
 have hi:i<ds.length:=(List.getElem?_eq_some_iff.1 h).1;rw [GI h,uU,aj2,List.length_take,Nat.min_eq_left (by omega)]
theorem tL {os:List Nat} {i x:Nat} (h:i<os.length):lv ((os.set i x).take (i+1))=lv (os.take i)+1000000000^i*x:=by
 rw [eL (d:=x) (by simp [h])];rw [List.take_set_of_le (Nat.le_refl i)]
theorem Hj {n:Nat}:List.replicate n ([Value.int .u32 0].map aI.exact)=rT (List.replicate n 0):=by
 rw [rT,List.map_replicate];rfl
theorem Dg.rep (n:Nat):Dg (List.replicate n 0):=fun d hd=>by
 obtain ⟨_,rfl⟩:=List.mem_replicate.1 hd;decide
abbrev dl (n:Nat):Nat:=(dg n).length
theorem Fl {ds:List Nat} {T ty:TypeId} {x y:Operand} {k:IntKind} {n:Int} {d:Nat} (h:dB prog T=some (255,1,4)) (h0:0≤n) (hd:ds[n.toNat]? = some d) :
  aZ prog (.indexAddr T x y) ty [.one (.slice 1 (rT ds)), .one (.int k n)] (.one (.bC [aI.int .u32 (d:Int)])):=Zw h h0 (pQ hd)
theorem EU {ty:TypeId} {x:Operand} {d:Int}:aZ prog (.load 255 x) ty [.one (.bC [aI.int .u32 d])] (.one (.int .u32 d)):=bZ (n:=1) yY (by decide) (by simp) (.inr rfl)
open Go Go.Proofs Tryz Ord
def bc6:Tr:=bB .sub 3 10 1 2 0 3 (gE 0 0 4 0 33 9 11 (eY 5 0 none 255 12 (.need (.prim [(W 6 0),(.one (.c (.k (.int .u32 0))))] none) (.binOp .eql 255 (tT 13) (.const (.int .u32 0)) 255) 4 false (.split (.u 7 0) (bB .sub 3 16 1 2 0 3 (.back 0 [lV 8 0])) (.need (.prim [(W 0 0),(W 2 0),(W 2 0)] none) (.slice 33 (tT 18) none (some (tT 19)) (some (tT 20))) 33 false (.ret [(G1 8)]))))))
def bb4:Tr:=cY 0 0 4 33 (.loop 0 [lV 1 0] (bB .gtr 3 6 0 2 0 4 (.split (.u 3 0) bc6 (.need (.prim [(W 0 0),(W 2 0),(W 2 0)] none) (.slice 33 (tT 18) none (some (tT 19)) (some (tT 20))) 33 false (.ret [(G1 4)])))))
theorem OZ:aN prog f197 (fun _=>none) [.v none]=bb4:=by kernel_rfl
theorem iO (ds:List Nat) (hd:Dg ds) (hl:ds.length<4611686018427387904):aK prog 197 [.one (.slice 1 (rT ds))] (.ret [mT (lv ds)]):=by
 refine aD (args:=[.v none]) (ins:=[.v (.one (.slice 1 (rT ds)))]) (hints:=fun _=>none) fo (by kernel_rfl) func197 ⟨rfl,trivial⟩ ?_;rw [OZ];refine vn (aQ dE cD) rfl ?_;refine bF {n:Nat // n≤ds.length∧lv (ds.take n)=lv ds} (fun g=>[.one (.int .i64 g.1)]) (fun g=>g.1) ⟨ds.length,Nat.le_refl _,by rw [List.take_length]⟩ aO.rfl (fun _=>rfl) ?_;rintro ⟨n,hn,hv⟩;dsimp only
 have fin:∀ τ:Env,(n=0∨∃ d,ds[n-1]? = some d∧d≠0)→(rT ds).take n=rT (dg (lv ds)):=by
  intro τ h;rw [rT,rT,←List.map_take]
  congr 1
  rw [←hv,dg,lv,Ip (by omega) _ (hd.take n)];intro d hlast;rcases h with rfl | ⟨d',hd',hne⟩
  ·simp at hlast
  ·rw [List.getLast?_eq_getElem?,List.length_take,Nat.min_eq_left hn,List.getElem?_take] at hlast;split at hlast
   ·rw [hd'] at hlast;simp at hlast;omega
   ·cases hlast
 refine vn IQ rfl ?_;refine vs _ rfl (fun h=>?_) (fun h=>?_)
 ·have hlt:n-1<ds.length:=by omega
  have hget:ds[n-1]? = some (ds[n-1]'hlt):=List.getElem?_eq_getElem hlt;generalize ds[n-1]'hlt=d at hget;refine vn (oZ (c:=((n-1:Nat):Int)) (by rw [nJ]<;>omega)) rfl ?_;refine vn (Fl dE (by omega) (by simpa using hget)) rfl ?_;refine vn EU rfl ?_;refine vn TV rfl ?_;refine vs _ rfl (fun h2=>?_) (fun h2=>?_)
  ·refine vn (oZ (c:=((n-1:Nat):Int)) (by rw [nJ]<;>omega)) rfl ?_;refine aU rfl ⟨⟨n-1,by omega,?_⟩,aO.rfl,?_⟩
   ·have hd0:d=0:=by omega
    subst hd0;have:=eL hget;rw [Nat.mul_zero,show n-1+1=n by omega] at this;exact (this.symm.trans hv)
   ·show n-1<n;omega
  ·refine vn (Dc dE (by omega) (by simpa using hn)) rfl ?_;refine aL ?_;exact congrArg (fun x=>[aG.agg [aI.slice 1 x]]) (fin [] (.inr ⟨d,hget,by omega⟩))
 ·refine vn (Dc dE (by omega) (by simpa using hn)) rfl ?_;refine aL ?_;exact congrArg (fun x=>[aG.agg [aI.slice 1 x]]) (fin [] (.inl (by omega)))
open Go Go.Proofs Tryz Ord
def aE5:Tr:=.need (.prim [(W 20 0),(.one (.c (.k (.int .u32 1000000000))))] none) (.binOp .geq 255 (tT 46) (.const (.int .u32 1000000000)) 255) 4 false (.split (.u 21 0) (.need (.prim [(W 20 0),(.one (.c (.k (.int .u32 1000000000))))] none) (.binOp .sub 255 (tT 48) (.const (.int .u32 1000000000)) 255) 255 false (.need (.idx 11 (.u 10 0)) (.indexAddr 33 (tT 50) (tT 51)) 0 false (.need (.strow 11 1 (.u 10 0) 0 [(.u 22 0)]) (.store 255 (tT 53) (tT 52)) 0 false (bB .add 3 26 1 10 0 3 (.back 0 [(.w (.one (.c (.k (.int .u32 1))))),lV 24 0, .row 23]))))) (.need (.idx 11 (.u 10 0)) (.indexAddr 33 (tT 50) (tT 51)) 0 false (.need (.strow 11 1 (.u 10 0) 0 [(.u 20 0)]) (.store 255 (tT 53) (tT 52)) 0 false (bB .add 3 26 1 10 0 3 (.back 0 [(.w (.one (.c (.k (.int .u32 0))))),lV 23 0, .row 22])))))
def ZR:Tr:=eY 18 0 none 255 43 (bR .add 255 39 44 15 0 19 0 255 aE5)
def aa9:Tr:=.need (.prim [(W 15 0),(.one (.c (.k (.int .u32 1000000000))))] none) (.binOp .geq 255 (tT 46) (.const (.int .u32 1000000000)) 255) 4 false (.split (.u 18 0) (.need (.prim [(W 15 0),(.one (.c (.k (.int .u32 1000000000))))] none) (.binOp .sub 255 (tT 48) (.const (.int .u32 1000000000)) 255) 255 false (.need (.idx 11 (.u 10 0)) (.indexAddr 33 (tT 50) (tT 51)) 0 false (.need (.strow 11 1 (.u 10 0) 0 [(.u 19 0)]) (.store 255 (tT 53) (tT 52)) 0 false (bB .add 3 26 1 10 0 3 (.back 0 [(.w (.one (.c (.k (.int .u32 1))))),lV 21 0, .row 20]))))) (.need (.idx 11 (.u 10 0)) (.indexAddr 33 (tT 50) (tT 51)) 0 false (.need (.strow 11 1 (.u 10 0) 0 [(.u 15 0)]) (.store 255 (tT 53) (tT 52)) 0 false (bB .add 3 26 1 10 0 3 (.back 0 [(.w (.one (.c (.k (.int .u32 0))))),lV 20 0, .row 19])))))
def aK4:Tr:=gE 1 0 10 0 33 24 26 (eY 13 0 none 255 29 (bR .add 255 31 32 14 0 9 0 255 (cY 0 0 36 33 (bR .lss 3 34 37 10 0 16 0 4 (.split (.u 17 0) (gE 0 0 10 0 33 41 42 ZR) aa9)))))
def ZD:Tr:=.need (.idx 11 (.u 13 0)) (.indexAddr 33 (tT 55) (tT 58)) 0 false (.need (.strow 11 1 (.u 13 0) 0 [(.u 9 0)]) (.store 255 (tT 60) (tT 59)) 0 false (aP 197 [(.one (.c (.sr 1 14)))] [(some 1)] [61] [33] 35 true (.ret [(G1 15)])))
def ba2:Tr:=bB .add 3 20 1 5 0 3 (.need (.make [(.int .u32 0)] 4 (.u 6 0) (.u 6 0)) (.makeSlice 33 (tT 21) (tT 21)) 33 false (cY 1 0 24 33 (.loop 0 [(.w (.one (.c (.k (.int .u32 0))))),lK 0, .row 7] (bR .lss 3 26 25 10 0 8 0 0 (.split (.u 12 0) aK4 (cY 1 0 57 33 ZD))))))
def aH6:Tr:=gE 0 0 10 0 33 24 26 (eY 13 0 none 255 29 (bR .add 255 31 32 14 0 9 0 255 (cY 1 0 36 33 (bR .lss 3 34 37 10 0 16 0 4 (.split (.u 17 0) (gE 1 0 10 0 33 41 42 ZR) aa9)))))
def aJ9:Tr:=bB .add 3 20 1 5 0 3 (.need (.make [(.int .u32 0)] 4 (.u 6 0) (.u 6 0)) (.makeSlice 33 (tT 21) (tT 21)) 33 false (cY 0 0 24 33 (.loop 0 [(.w (.one (.c (.k (.int .u32 0))))),lK 0, .row 7] (bR .lss 3 26 25 10 0 8 0 0 (.split (.u 12 0) aH6 (cY 0 0 57 33 ZD))))))
def bc5:Tr:=cY 0 0 10 33 (cY 1 0 13 33 (bR .lss 3 11 14 2 0 3 0 4 (.split (.u 4 0) (cY 1 0 19 33 ba2) (cY 0 0 19 33 aJ9))))
theorem al3:aN prog f196 (fun _=>none) [.v (some 1), .v (some 1)]=bc5:=by kernel_rfl
structure rJ (xs ys:List Nat) (i c:Nat) (os:List Nat):Prop where
 le:i≤xs.length
 c1:c≤1
 len:os.length=xs.length+1
 dg:Dg os
 eq:lv (os.take i)+1000000000^i*c=lv (xs.take i)+lv (ys.take i)
theorem rJ.init (xs ys:List Nat):rJ xs ys 0 0 (List.replicate (xs.length+1) 0):=⟨Nat.zero_le _,by omega,by simp,Dg.rep _,by simp [lv,val]⟩
theorem rJ.next {xs ys os:List Nat} {i c x y c' z:Nat} (h:rJ xs ys i c os) (hi:i<xs.length) (hx:xs[i]? = some x) (hy:ys[i]?.getD 0=y) (hc:c'≤1) (hz:z<1000000000) (he:z+1000000000*c'=x+c+y):rJ xs ys (i+1) c' (os.set i z):=by
 refine ⟨hi,hc,by rw [List.length_set];exact h.len,h.dg.set hz,?_⟩;rw [tL (by rw [h.len];omega),eL hx,Nat.pow_succ]
 have hb:lv (ys.take (i+1))=lv (ys.take i)+1000000000^i*y:=by
  cases hbi:ys[i]? with
  | some d=>rw [hbi] at hy;simp only [Option.getD_some] at hy;subst hy;exact eL hbi
  | none=>
    rw [hbi] at hy;simp only [Option.getD_none] at hy;subst hy;have:=List.getElem?_eq_none_iff.1 hbi;rw [List.take_of_length_le (by omega),List.take_of_length_le (by omega)];omega
 rw [hb];have h1:=h.eq;have h2:=congrArg (fun t=>1000000000^i*t) he;simp only [Nat.mul_add] at h2;rw [Nat.mul_assoc];omega
theorem rJ.fin {xs ys os:List Nat} {c:Nat} {n:Nat} (h:rJ xs ys xs.length c os) (hle:ys.length≤xs.length) (he:lv xs+lv ys=n):lv (os.set xs.length c)=n:=by
 have h1:=tL (os:=os) (i:=xs.length) (x:=c) (by rw [h.len];omega);rw [List.take_of_length_le (by rw [List.length_set,h.len];omega)] at h1;have h2:=h.eq;rw [List.take_length,List.take_of_length_le hle] at h2;omega
set_option maxHeartbeats 1000000 in
theorem Ma (a b:Nat) (hs:(dg a).length+(dg b).length<1099511627776):aK prog 196 [mT a,mT b] (.ret [mT (a+b)]):=by
 refine aD (args:=[.v (some 1), .v (some 1)]) (ins:=[.v (mT a), .v (mT b)]) (hints:=fun _=>none) fo (by kernel_rfl) func196 ⟨rfl,rfl,trivial⟩ ?_;rw [al3];dsimp only [List.map,In.env];refine vn (aQ dE cD) rfl ?_;dsimp only [aA,aB];refine vn (aQ dE cD) rfl ?_;dsimp only [aA,aB];refine vn vF rfl ?_;dsimp only [aA,aB];refine vs _ rfl (fun hab=>?_) (fun hab=>?_)
 ·skip
  refine vn (aQ dE cD) rfl ?_;dsimp only [aA,aB];refine vn (eA (c:=(((dg b).length+1:Nat):Int)) (by rw [nJ]<;>omega)) rfl ?_;dsimp only [aA,aB];refine tI (n:=(dg b).length+1) (m:=(dg b).length+1) rfl rfl Hj (Nat.le_refl _) (by omega) (by simp [maxLen];omega) ?_;dsimp only [aA,aB];refine vn (aQ dE cD) rfl ?_;dsimp only [aA,aB];refine bF {g:Nat×Nat×List Nat // rJ (dg b) (dg a) g.1 g.2.1 g.2.2} (fun g=>[.one (.int .u32 g.1.2.1), .one (.int .i64 g.1.1), .rows (rT g.1.2.2)]) (fun g=>(dg b).length-g.1.1) ⟨(0,0,List.replicate ((dg b).length+1) 0),rJ.init _ _⟩ aO.rfl (fun _=>rfl) ?_;rintro ⟨⟨i,c,os⟩,hI⟩;dsimp only [aA,aB] at hI ⊢;refine vn vF rfl ?_;dsimp only [aA,aB];refine vs _ rfl (fun h=>?_) (fun h=>?_)
  ·have hlt:i<(dg b).length:=by omega
   have hget:(dg b)[i]? = some ((dg b)[i]'hlt):=List.getElem?_eq_getElem hlt;generalize (dg b)[i]'hlt=x at hget;have hx:=(jV b).get hget;have hc:=hI.c1;have hol:i<os.length:=by rw [hI.len];omega
   have hog:(rT os)[((i:Int)).toNat]? = some [aI.int .u32 ((os[i]'hol:Nat):Int)]:=pQ (by simp);refine vn (Fl dE (by omega) (by simpa using hget)) rfl ?_;dsimp only [aA,aB];refine vn EU rfl ?_;dsimp only [aA,aB];refine vn (eA (c:=((x+c:Nat):Int)) (by rw [Ay]<;>omega)) rfl ?_;dsimp only [aA,aB];refine vn (aQ dE cD) rfl ?_;dsimp only [aA,aB];refine vn vF rfl ?_;dsimp only [aA,aB];refine vs _ rfl (fun h1=>?_) (fun h1=>?_)
   ·have hlt1:i<(dg a).length:=by omega
    have hget1:(dg a)[i]? = some ((dg a)[i]'hlt1):=List.getElem?_eq_getElem hlt1;generalize (dg a)[i]'hlt1=y at hget1;have hy:=(jV a).get hget1;refine vn (Fl dE (by omega) (by simpa using hget1)) rfl ?_;dsimp only [aA,aB];refine vn EU rfl ?_;dsimp only [aA,aB];refine vn (eA (c:=((x+c+y:Nat):Int)) (by rw [Ay]<;>omega)) rfl ?_;dsimp only [aA,aB];refine vn El rfl ?_;dsimp only [aA,aB];refine vs _ rfl (fun h2=>?_) (fun h2=>?_)
    ·refine vn (oZ (c:=((x+c+y-1000000000:Nat):Int)) (by rw [Ay]<;>omega)) rfl ?_;dsimp only [aA,aB];refine nY (ts:=rT os) rfl rfl (by omega) (by rw [cD];omega) ?_;refine Fv (ts:=rT os) (us:=rT (os.set i (x+c+y-1000000000))) rfl rfl (by omega) hog jJ ?_;dsimp only [aA,aB];refine vn (eA (c:=((i+1:Nat):Int)) (by rw [nJ]<;>omega)) rfl ?_;dsimp only [aA,aB];have hN:rJ _ _ (i+1) 1 (os.set i (x+c+y-1000000000)):=hI.next (y:=y) hlt hget (by rw [hget1];rfl) (by omega) (by omega) (by omega);exact aU rfl ⟨⟨(i+1,1,os.set i (x+c+y-1000000000)),hN⟩,aO.rfl,by show (dg b).length-(i+1)<(dg b).length-i;omega⟩
    ·refine nY (ts:=rT os) rfl rfl (by omega) (by rw [cD];omega) ?_;refine Fv (ts:=rT os) (us:=rT (os.set i (x+c+y))) rfl rfl (by omega) hog jJ ?_;dsimp only [aA,aB];refine vn (eA (c:=((i+1:Nat):Int)) (by rw [nJ]<;>omega)) rfl ?_;dsimp only [aA,aB];have hN:rJ _ _ (i+1) 0 (os.set i (x+c+y)):=hI.next (y:=y) hlt hget (by rw [hget1];rfl) (by omega) (by omega) (by omega);exact aU rfl ⟨⟨(i+1,0,os.set i (x+c+y)),hN⟩,aO.rfl,by show (dg b).length-(i+1)<(dg b).length-i;omega⟩
   ·have hget1:(dg a)[i]? = none:=List.getElem?_eq_none (by omega);refine vn El rfl ?_;dsimp only [aA,aB];refine vs _ rfl (fun h2=>?_) (fun h2=>?_)
    ·refine vn (oZ (c:=((x+c-1000000000:Nat):Int)) (by rw [Ay]<;>omega)) rfl ?_;dsimp only [aA,aB];refine nY (ts:=rT os) rfl rfl (by omega) (by rw [cD];omega) ?_;refine Fv (ts:=rT os) (us:=rT (os.set i (x+c-1000000000))) rfl rfl (by omega) hog jJ ?_;dsimp only [aA,aB];refine vn (eA (c:=((i+1:Nat):Int)) (by rw [nJ]<;>omega)) rfl ?_;dsimp only [aA,aB];have hN:rJ _ _ (i+1) 1 (os.set i (x+c-1000000000)):=hI.next (y:=0) hlt hget (by rw [hget1];rfl) (by omega) (by omega) (by omega);exact aU rfl ⟨⟨(i+1,1,os.set i (x+c-1000000000)),hN⟩,aO.rfl,by show (dg b).length-(i+1)<(dg b).length-i;omega⟩
    ·refine nY (ts:=rT os) rfl rfl (by omega) (by rw [cD];omega) ?_;refine Fv (ts:=rT os) (us:=rT (os.set i (x+c))) rfl rfl (by omega) hog jJ ?_;dsimp only [aA,aB];refine vn (eA (c:=((i+1:Nat):Int)) (by rw [nJ]<;>omega)) rfl ?_;dsimp only [aA,aB];have hN:rJ _ _ (i+1) 0 (os.set i (x+c)):=hI.next (y:=0) hlt hget (by rw [hget1];rfl) (by omega) (by omega) (by omega);exact aU rfl ⟨⟨(i+1,0,os.set i (x+c)),hN⟩,aO.rfl,by show (dg b).length-(i+1)<(dg b).length-i;omega⟩
  ·have hie:i=(dg b).length:=by have:=hI.le;omega
   subst hie;have hol:(dg b).length<os.length:=by rw [hI.len];omega
   have hog:(rT os)[(((dg b).length:Int)).toNat]? = some [aI.int .u32 ((os[(dg b).length]'hol:Nat):Int)]:=pQ (by simp);refine vn (aQ dE cD) rfl ?_;dsimp only [aA,aB];refine nY (ts:=rT os) rfl rfl (by omega) (by rw [cD];omega) ?_;refine Fv (ts:=rT os) (us:=rT (os.set ((dg b).length) c)) rfl rfl (by omega) hog jJ ?_;dsimp only [aA,aB];refine aC (iO (os.set ((dg b).length) c) (hI.dg.set (by have:=hI.c1;omega)) (by rw [List.length_set,hI.len];omega)) rfl ?_;dsimp only [aA,aB];refine aL ?_;rw [hI.fin (n:=a+b) (by omega) (by rw [gD,gD]<;>omega)];rfl
 ·skip
  refine vn (aQ dE cD) rfl ?_;dsimp only [aA,aB];refine vn (eA (c:=(((dg a).length+1:Nat):Int)) (by rw [nJ]<;>omega)) rfl ?_;dsimp only [aA,aB];refine tI (n:=(dg a).length+1) (m:=(dg a).length+1) rfl rfl Hj (Nat.le_refl _) (by omega) (by simp [maxLen];omega) ?_;dsimp only [aA,aB];refine vn (aQ dE cD) rfl ?_;dsimp only [aA,aB];refine bF {g:Nat×Nat×List Nat // rJ (dg a) (dg b) g.1 g.2.1 g.2.2} (fun g=>[.one (.int .u32 g.1.2.1), .one (.int .i64 g.1.1), .rows (rT g.1.2.2)]) (fun g=>(dg a).length-g.1.1) ⟨(0,0,List.replicate ((dg a).length+1) 0),rJ.init _ _⟩ aO.rfl (fun _=>rfl) ?_;rintro ⟨⟨i,c,os⟩,hI⟩;dsimp only [aA,aB] at hI ⊢;refine vn vF rfl ?_;dsimp only [aA,aB];refine vs _ rfl (fun h=>?_) (fun h=>?_)
  ·have hlt:i<(dg a).length:=by omega
   have hget:(dg a)[i]? = some ((dg a)[i]'hlt):=List.getElem?_eq_getElem hlt;generalize (dg a)[i]'hlt=x at hget;have hx:=(jV a).get hget;have hc:=hI.c1;have hol:i<os.length:=by rw [hI.len];omega
   have hog:(rT os)[((i:Int)).toNat]? = some [aI.int .u32 ((os[i]'hol:Nat):Int)]:=pQ (by simp);refine vn (Fl dE (by omega) (by simpa using hget)) rfl ?_;dsimp only [aA,aB];refine vn EU rfl ?_;dsimp only [aA,aB];refine vn (eA (c:=((x+c:Nat):Int)) (by rw [Ay]<;>omega)) rfl ?_;dsimp only [aA,aB];refine vn (aQ dE cD) rfl ?_;dsimp only [aA,aB];refine vn vF rfl ?_;dsimp only [aA,aB];refine vs _ rfl (fun h1=>?_) (fun h1=>?_)
   ·have hlt1:i<(dg b).length:=by omega
    have hget1:(dg b)[i]? = some ((dg b)[i]'hlt1):=List.getElem?_eq_getElem hlt1;generalize (dg b)[i]'hlt1=y at hget1;have hy:=(jV b).get hget1;refine vn (Fl dE (by omega) (by simpa using hget1)) rfl ?_;dsimp only [aA,aB];refine vn EU rfl ?_;dsimp only [aA,aB];refine vn (eA (c:=((x+c+y:Nat):Int)) (by rw [Ay]<;>omega)) rfl ?_;dsimp only [aA,aB];refine vn El rfl ?_;dsimp only [aA,aB];refine vs _ rfl (fun h2=>?_) (fun h2=>?_)
    ·refine vn (oZ (c:=((x+c+y-1000000000:Nat):Int)) (by rw [Ay]<;>omega)) rfl ?_;dsimp only [aA,aB];refine nY (ts:=rT os) rfl rfl (by omega) (by rw [cD];omega) ?_;refine Fv (ts:=rT os) (us:=rT (os.set i (x+c+y-1000000000))) rfl rfl (by omega) hog jJ ?_;dsimp only [aA,aB];refine vn (eA (c:=((i+1:Nat):Int)) (by rw [nJ]<;>omega)) rfl ?_;dsimp only [aA,aB];have hN:rJ _ _ (i+1) 1 (os.set i (x+c+y-1000000000)):=hI.next (y:=y) hlt hget (by rw [hget1];rfl) (by omega) (by omega) (by omega);exact aU rfl ⟨⟨(i+1,1,os.set i (x+c+y-1000000000)),hN⟩,aO.rfl,by show (dg a).length-(i+1)<(dg a).length-i;omega⟩
    ·refine nY (ts:=rT os) rfl rfl (by omega) (by rw [cD];omega) ?_;refine Fv (ts:=rT os) (us:=rT (os.set i (x+c+y))) rfl rfl (by omega) hog jJ ?_;dsimp only [aA,aB];refine vn (eA (c:=((i+1:Nat):Int)) (by rw [nJ]<;>omega)) rfl ?_;dsimp only [aA,aB];have hN:rJ _ _ (i+1) 0 (os.set i (x+c+y)):=hI.next (y:=y) hlt hget (by rw [hget1];rfl) (by omega) (by omega) (by omega);exact aU rfl ⟨⟨(i+1,0,os.set i (x+c+y)),hN⟩,aO.rfl,by show (dg a).length-(i+1)<(dg a).length-i;omega⟩
   ·have hget1:(dg b)[i]? = none:=List.getElem?_eq_none (by omega);refine vn El rfl ?_;dsimp only [aA,aB];refine vs _ rfl (fun h2=>?_) (fun h2=>?_)
    ·refine vn (oZ (c:=((x+c-1000000000:Nat):Int)) (by rw [Ay]<;>omega)) rfl ?_;dsimp only [aA,aB];refine nY (ts:=rT os) rfl rfl (by omega) (by rw [cD];omega) ?_;refine Fv (ts:=rT os) (us:=rT (os.set i (x+c-1000000000))) rfl rfl (by omega) hog jJ ?_;dsimp only [aA,aB];refine vn (eA (c:=((i+1:Nat):Int)) (by rw [nJ]<;>omega)) rfl ?_;dsimp only [aA,aB];have hN:rJ _ _ (i+1) 1 (os.set i (x+c-1000000000)):=hI.next (y:=0) hlt hget (by rw [hget1];rfl) (by omega) (by omega) (by omega);exact aU rfl ⟨⟨(i+1,1,os.set i (x+c-1000000000)),hN⟩,aO.rfl,by show (dg a).length-(i+1)<(dg a).length-i;omega⟩
    ·refine nY (ts:=rT os) rfl rfl (by omega) (by rw [cD];omega) ?_;refine Fv (ts:=rT os) (us:=rT (os.set i (x+c))) rfl rfl (by omega) hog jJ ?_;dsimp only [aA,aB];refine vn (eA (c:=((i+1:Nat):Int)) (by rw [nJ]<;>omega)) rfl ?_;dsimp only [aA,aB];have hN:rJ _ _ (i+1) 0 (os.set i (x+c)):=hI.next (y:=0) hlt hget (by rw [hget1];rfl) (by omega) (by omega) (by omega);exact aU rfl ⟨⟨(i+1,0,os.set i (x+c)),hN⟩,aO.rfl,by show (dg a).length-(i+1)<(dg a).length-i;omega⟩
  ·have hie:i=(dg a).length:=by have:=hI.le;omega
   subst hie;have hol:(dg a).length<os.length:=by rw [hI.len];omega
   have hog:(rT os)[(((dg a).length:Int)).toNat]? = some [aI.int .u32 ((os[(dg a).length]'hol:Nat):Int)]:=pQ (by simp);refine vn (aQ dE cD) rfl ?_;dsimp only [aA,aB];refine nY (ts:=rT os) rfl rfl (by omega) (by rw [cD];omega) ?_;refine Fv (ts:=rT os) (us:=rT (os.set ((dg a).length) c)) rfl rfl (by omega) hog jJ ?_;dsimp only [aA,aB];refine aC (iO (os.set ((dg a).length) c) (hI.dg.set (by have:=hI.c1;omega)) (by rw [List.length_set,hI.len];omega)) rfl ?_;dsimp only [aA,aB];refine aL ?_;rw [hI.fin (n:=a+b) (by omega) (by rw [gD,gD]<;>omega)];rfl
open Go Go.Proofs Tryz Ord
def aZ8:Tr:=cY 0 0 4 33 (bB .eql 3 5 0 1 0 4 (.ret [(W 2 0)]))
theorem an5:aN prog f179 (fun _=>none) [.v (some 1)]=aZ8:=by kernel_rfl
def aY7:Tr:=.split (.u 3 0) (.need (.prim [(W 1 0),(.one (.c (.k (.int .u64 1000000000))))] none) (.binOp .rem 254 (tT 9) (.const (.int .u64 1000000000)) 254) 254 false (.need (.prim [(W 4 0)] none) (.convert 254 255 (tT 10)) 255 false (.need (.lit 1 [[(.u 5 0)]]) (.buildSlice 33 1 #[(0,(tT 11))]) 33 false (.need (.app 1 4 (some 2) none (some 6)) (.call ⟨.builtin .append,#[(tT 8),(tT 12)],#[33,33]⟩) 33 false (.need (.prim [(W 1 0),(.one (.c (.k (.int .u64 1000000000))))] none) (.binOp .quo 254 (tT 6) (.const (.int .u64 1000000000)) 254) 254 false (.back 0 [lV 8 0, .row 7])))))) (.ret [(.agg [(.c (.sr 1 2))])])
def bb2:Tr:=.loop 0 [lV 0 0, .nilrow] (.need (.prim [(W 1 0),(.one (.c (.k (.int .u64 0))))] none) (.binOp .gtr 254 (tT 4) (.const (.int .u64 0)) 254) 4 false aY7)
theorem Zi:aN prog f195 (fun _=>none) [.v none]=bb2:=by kernel_rfl
def ba8:Tr:=.split (.u 0 0) (aP 179 [(G1 1)] [none] [8] [35] 4 false (.need (.prim [(W 2 0)] none) (.unOp .not 4 (tT 9)) 4 false (.ret [(.agg [(U 1 0),(U 3 0)])]))) (.ret [(.agg [(U 1 0),(tE (.bool false))])])
theorem Tk:aN prog f155 (fun _=>none) [.v none, .v (some 1)]=ba8:=by kernel_rfl
def XD:Tr:=.ret [(WK 0)]
def WL:Tr:=.ret [(WK (-1))]
def Vk:Tr:=.ret [(WK 1)]
def ba5:Tr:=aP 179 [(G1 0)] [none] [5] [35] 4 true (.split (.u 1 0) XD (.split (.u 0 1) WL Vk))
theorem Xm:aN prog f114 (fun _=>none) [.v (some 2)]=ba5:=by kernel_rfl
theorem zH (n:Nat):aK prog 179 [mT n] (.ret [.one (.bool (decide (n=0)))]):=by
 refine aD (args:=[.v (some 1)]) (ins:=[.v (mT n)]) (hints:=fun _=>none) fo (by kernel_rfl) func179 ⟨rfl,trivial⟩ ?_;rw [an5];refine vn (aQ dE rfl) rfl ?_;refine vn TV rfl ?_;refine aL ?_;show [aG.one (.bool (decide (_=(0:Int))))]=_
 have h:((rT (dg n)).length:Int)=0↔n=0:=by
  rw [cD,←zW];cases dg n<;>simp;omega
 simp only [h]
theorem hU (n:Nat) (h:n<18446744073709551616):aK prog 195 [.one (.int .u64 n)] (.ret [mT n]):=by
 refine aD (args:=[.v none]) (ins:=[.v (.one (.int .u64 n))]) (hints:=fun _=>none) fo (by kernel_rfl) func195 ⟨rfl,trivial⟩ ?_;rw [Zi];have hlen:(dg n).length≤3:=jG (by omega) (by omega);refine bF {p:Nat×List Nat // p.2++dg p.1=dg n∧p.1≤n} (fun g=>[.one (.int .u64 g.1.1), .rows (rT g.1.2)]) (fun g=>g.1.1) ⟨(n,[]),by simp⟩ aO.rfl (fun _=>rfl) ?_;rintro ⟨⟨k,ds⟩,hinv,hle⟩;dsimp only [List.map,In.env,aA,aB] at hinv hle ⊢;have hds:ds.length≤3:=by have:=congrArg List.length hinv;simp at this;omega
 refine vn IQ rfl ?_;refine vs _ rfl (fun hk=>?_) (fun hk=>?_)
 ·refine vn (CT (c:=((k%1000000000:Nat):Int)) (by decide) (by rw [Int.tmod_eq_emod_of_nonneg (by omega)];omega)) rfl ?_;refine vn (iD ⟨_,gT⟩ gF (c:=((k%1000000000:Nat):Int)) (Ay (by omega) (by omega))) rfl ?_;refine dC (us:=rT [k%1000000000]) rfl ?_;refine vA (ts:=rT ds) (us:=rT [k%1000000000]) (vs:=rT (ds ++ [k%1000000000])) rfl rfl List.map_append.symm (by simp;omega) (by simp [maxLen];omega) ?_;refine vn (qU (c:=((k/1000000000:Nat):Int)) (by decide) (by rw [Int.tdiv_eq_ediv_of_nonneg (by omega),sV (by omega) (by omega)];omega)) rfl ?_;refine aU rfl ⟨⟨(k/1000000000,ds ++ [k%1000000000]),?_,?_⟩,?_,?_⟩
  ·have:k≠0:=by omega
   rw [←hinv,dg,dg,fL (n:=k) (by omega) this];simp
  ·show k/1000000000≤n;omega
  ·exact aO.rfl
  ·show k/1000000000<k;omega
 ·have:k=0:=by omega
  subst this;refine aL ?_;have e:dg 0 = []:=dA _;rw [e,List.append_nil] at hinv;subst hinv;rfl
abbrev iT (z:Int):aG:=.agg [dT z.natAbs, .bool (decide (z<0))]
theorem eJ (m:Bool) (n:Nat) (z:Int) (hz:z=if m then -(n:Int) else n):aK prog 155 [.one (.bool m),mT n] (.ret [iT z]):=by
 refine aD (args:=[.v none, .v (some 1)]) (ins:=[.v (.one (.bool m)), .v (mT n)]) (hints:=fun _=>none) fo (by kernel_rfl) func155 ⟨rfl,rfl,trivial⟩ ?_;rw [Tk];have ha:z.natAbs=n:=by subst hz;cases m<;>simp
 refine Bt m rfl (fun hm=>?_) (fun hm=>?_)
 ·subst hm;refine aC (zH n) rfl ?_;refine vn mL rfl ?_;refine aL ?_;have:(!decide (n=0))=decide (z<0):=by subst hz;simp;by_cases h:n=0<;>simp [h]<;>omega
  show [aG.agg [dT n, .bool (!decide (n=0))]]=_;rw [this,iT,ha]
 ·subst hm;refine aL ?_;have:false=decide (z<0):=by subst hz;simp
  show [aG.agg [dT n, .bool false]]=_;rw [this,iT,ha]
open Go Go.Proofs Tryz Ord
def aH2:Tr:=.need (.prim [(W 26 0),(.one (.c (.k (.int .u64 1000000000))))] none) (.binOp .rem 254 (tT 54) (.const (.int .u64 1000000000)) 254) 254 false (.need (.prim [(W 28 0)] none) (.convert 254 255 (tT 55)) 255 false (.need (.prim [(W 26 0),(.one (.c (.k (.int .u64 1000000000))))] none) (.binOp .quo 254 (tT 57) (.const (.int .u64 1000000000)) 254) 254 false (.need (.idx 15 (.u 27 0)) (.indexAddr 33 (tT 50) (tT 53)) 0 false (.need (.strow 15 1 (.u 27 0) 0 [(.u 29 0)]) (.store 255 (tT 59) (tT 56)) 0 false (bB .add 3 30 1 14 0 3 (.back 1 [lV 30 0,lV 32 0, .row 31]))))))
def aF9:Tr:=bR .add 3 42 43 7 0 14 0 3 (.need (.idx 15 (.u 22 0)) (.indexAddr 33 (tT 41) (tT 44)) 0 false (.need (.ldrow 15 (.u 22 0) 0 1 false) (.load 255 (tT 45)) 255 false (.need (.prim [(W 23 0)] none) (.convert 255 254 (tT 46)) 254 false (bR .add 254 40 47 21 0 24 0 254 (bR .add 254 35 48 13 0 25 0 254 (bR .add 3 51 52 7 0 14 0 3 aH2))))))
def aU9:Tr:=cY 1 0 64 33 (bR .add 3 62 65 7 0 17 0 3 (.need (.prim [(W 13 0)] none) (.convert 254 255 (tT 67)) 255 false (.need (.idx 15 (.u 18 0)) (.indexAddr 33 (tT 61) (tT 66)) 0 false (.need (.strow 15 1 (.u 18 0) 0 [(.u 19 0)]) (.store 255 (tT 69) (tT 68)) 0 false (bB .add 3 22 1 7 0 3 (.back 0 [lV 21 0, .row 20]))))))
def aQ1:Tr:=bR .lss 3 30 29 14 0 12 0 0 (.split (.u 16 0) (gE 1 0 14 0 33 28 30 (eY 17 0 none 255 33 (.need (.prim [(W 11 0)] none) (.convert 255 254 (tT 36)) 254 false (.need (.prim [(W 18 0)] none) (.convert 255 254 (tT 38)) 254 false (bR .mul 254 37 39 19 0 20 0 254 aF9))))) aU9)
def bd0:Tr:=.loop 0 [lK 0, .row 5] (bR .lss 3 22 21 7 0 6 0 0 (.split (.u 9 0) (gE 0 0 7 0 33 20 22 (eY 10 0 none 255 25 (cY 1 0 28 33 (.loop 1 [(.w (.one (.c (.k (.int .u64 0))))),lK 0, .row 8] aQ1)))) (aP 197 [(.one (.c (.sr 1 8)))] [(some 1)] [71] [33] 35 true (.ret [(G1 10)]))))
def bb5:Tr:=cY 0 0 12 33 (cY 1 0 15 33 (bR .add 3 13 16 2 0 3 0 3 (.need (.make [(.int .u32 0)] 4 (.u 4 0) (.u 4 0)) (.makeSlice 33 (tT 17) (tT 17)) 33 false (cY 0 0 20 33 bd0))))
theorem WS:aN prog f118 (fun _=>none) [.v (some 1), .v (some 1)]=bb5:=by kernel_rfl
theorem ax5 {os:List Nat} {j z old n:Nat} (hj:os[j]? = some old) (hjn:j<n):lv ((os.set j z).take n)+1000000000^j*old=lv (os.take n)+1000000000^j*z:=by
 have hlt:j<os.length:=(List.getElem?_eq_some_iff.1 hj).1
 have key:∀ (os:List Nat) (j n:Nat),os[j]? = some old→j<n→lv ((os.set j z).take n)+1000000000^j*old=lv (os.take n)+1000000000^j*z:=by
  intro os
  induction os with
  | nil=>intro j n h;simp at h
  | cons d os ih=>
    intro j n h hn;obtain ⟨m,rfl⟩:∃ m,n=m+1:=⟨n-1,by omega⟩
    cases j with
    | zero=>
      simp only [List.getElem?_cons_zero,Option.some.injEq] at h;subst h;simp only [List.set_cons_zero,List.take_succ_cons,lv,val];omega
    | succ j=>
      have:=ih j m (by simpa using h) (by omega);simp only [List.set_cons_succ,List.take_succ_cons,lv,val,Nat.pow_succ] at this ⊢;have h1:1000000000^j*1000000000*old=1000000000*(1000000000^j*old):=by rw [Nat.mul_right_comm,Nat.mul_comm]
      have h2:1000000000^j*1000000000*z=1000000000*(1000000000^j*z):=by rw [Nat.mul_right_comm,Nat.mul_comm]
      rw [h1,h2];omega
 exact key os j n hj hjn
theorem Ye (n:Nat):lv (List.replicate n 0)=0:=by
 induction n with
 | zero=>rfl
 | succ n ih=>rw [List.replicate_succ,lv,val];simp only [lv] at ih;rw [ih]
structure HN (xs ys:List Nat) (i:Nat) (os:List Nat):Prop where
 le:i≤xs.length
 len:os.length=xs.length+ys.length
 dg:Dg os
 eq:lv (os.take (i+ys.length))=lv (xs.take i)*lv ys
structure TIn (xs ys:List Nat) (i x T k c:Nat) (os:List Nat):Prop where
 le:k≤ys.length
 len:os.length=xs.length+ys.length
 dg:Dg os
 c1:c<1000000000
 eq:lv (os.take (i+ys.length))+1000000000^(i+k)*c=T+x*(1000000000^i*lv (ys.take k))
theorem HN.init (xs ys:List Nat):HN xs ys 0 (List.replicate (xs.length+ys.length) 0):=⟨Nat.zero_le _,by simp,Dg.rep _,by
 rw [List.take_replicate,Ye];simp [lv,val]⟩
theorem HN.inn {xs ys os:List Nat} {i x:Nat} (h:HN xs ys i os):TIn xs ys i x (lv (xs.take i)*lv ys) 0 0 os:=⟨Nat.zero_le _,h.len,h.dg,by omega,by rw [h.eq];simp [lv,val]⟩
theorem TIn.next {xs ys os:List Nat} {i x T k c y old z c':Nat} (h:TIn xs ys i x T k c os) (hi:i<xs.length) (hk:k<ys.length) (hx:x<1000000000) (hy:ys[k]? = some y) (ho:os[i+k]? = some old) (hz:z<1000000000) (hc:c'<1000000000) (he:z+1000000000*c'=c+(x*y+old)) :
  TIn xs ys i x T (k+1) c' (os.set (i+k) z):=by
 refine ⟨hk,by rw [List.length_set];exact h.len,h.dg.set hz,hc,?_⟩;have h1:=ax5 (z:=z) (n:=i+ys.length) ho (by omega);have h2:=congrArg (fun t=>1000000000^(i+k)*t) he;have h3:=h.eq;rw [eL hy];simp only [Nat.mul_add] at h2 ⊢;have e1:1000000000^(i+(k+1))*c'=1000000000^(i+k)*(1000000000*c'):=by rw [←Nat.add_assoc,Nat.pow_succ,Nat.mul_assoc]
 have e2:x*(1000000000^i*(1000000000^k*y))=1000000000^(i+k)*(x*y):=by rw [Nat.pow_add];simp only [Nat.mul_left_comm,Nat.mul_assoc]
 rw [e1,e2];omega
theorem TIn.out {xs ys os:List Nat} {i x c:Nat} (h:TIn xs ys i x (lv (xs.take i)*lv ys) ys.length c os) (hx:xs[i]? = some x):HN xs ys (i+1) (os.set (i+ys.length) c):=by
 have hi:i<xs.length:=(List.getElem?_eq_some_iff.1 hx).1;refine ⟨hi,by rw [List.length_set];exact h.len,h.dg.set h.c1,?_⟩;have h3:=h.eq;rw [List.take_length] at h3;rw [show i+1+ys.length=i+ys.length+1 by omega,tL (by rw [h.len];omega),eL hx,h3,Nat.add_mul]
 congr 1
 rw [Nat.mul_left_comm,←Nat.mul_assoc]
theorem HN.fin {xs ys os:List Nat} (h:HN xs ys xs.length os):lv os=lv xs*lv ys:=by
 have:=h.eq;rw [List.take_of_length_le (by rw [h.len];omega),List.take_length] at this;exact this
set_option maxHeartbeats 1000000 in
theorem iZ (a b:Nat) (hs:(dg a).length+(dg b).length<1099511627776):aK prog 118 [mT a,mT b] (.ret [mT (a*b)]):=by
 refine aD (args:=[.v (some 1), .v (some 1)]) (ins:=[.v (mT a), .v (mT b)]) (hints:=fun _=>none) fo (by kernel_rfl) func118 ⟨rfl,rfl,trivial⟩ ?_;rw [WS];dsimp only [List.map,In.env];refine vn (aQ dE cD) rfl ?_;dsimp only [aA,aB];refine vn (aQ dE cD) rfl ?_;dsimp only [aA,aB];refine vn (eA (c:=(((dg a).length+(dg b).length:Nat):Int)) (by rw [nJ]<;>omega)) rfl ?_;dsimp only [aA,aB];refine tI (n:=(dg a).length+(dg b).length) (m:=(dg a).length+(dg b).length) rfl rfl Hj (Nat.le_refl _) (by omega) (by simp [maxLen];omega) ?_;dsimp only [aA,aB];refine vn (aQ dE cD) rfl ?_;dsimp only [aA,aB];refine bF {g:Nat×List Nat // HN (dg a) (dg b) g.1 g.2} (fun g=>[.one (.int .i64 g.1.1), .rows (rT g.1.2)]) (fun g=>(dg a).length-g.1.1) ⟨(0,List.replicate ((dg a).length+(dg b).length) 0),HN.init _ _⟩ aO.rfl (fun _=>rfl) ?_;rintro ⟨⟨i,os⟩,hO⟩;dsimp only [aA,aB] at hO ⊢;refine vn vF rfl ?_;dsimp only [aA,aB];refine vs _ rfl (fun h=>?_) (fun h=>?_)
 ·have hlt:i<(dg a).length:=by omega
  have hget:(dg a)[i]? = some ((dg a)[i]'hlt):=List.getElem?_eq_getElem hlt;generalize (dg a)[i]'hlt=x at hget;have hx:=(jV a).get hget;refine vn (Fl dE (by omega) (by simpa using hget)) rfl ?_;dsimp only [aA,aB];refine vn EU rfl ?_;dsimp only [aA,aB];refine vn (aQ dE cD) rfl ?_;dsimp only [aA,aB];refine bF {g:Nat×Nat×List Nat // TIn (dg a) (dg b) i x (lv ((dg a).take i)*lv (dg b)) g.1 g.2.1 g.2.2} (fun g=>[.one (.int .u64 g.1.2.1), .one (.int .i64 g.1.1), .rows (rT g.1.2.2)]) (fun g=>(dg b).length-g.1.1) ⟨(0,0,os),hO.inn⟩ aO.rfl (fun _=>rfl) ?_;rintro ⟨⟨k,c,os2⟩,hI⟩;dsimp only [aA,aB] at hI ⊢;have hc:=hI.c1;refine vn vF rfl ?_;dsimp only [aA,aB];refine vs _ rfl (fun h1=>?_) (fun h1=>?_)
  ·have hlk:k<(dg b).length:=by omega
   have hgk:(dg b)[k]? = some ((dg b)[k]'hlk):=List.getElem?_eq_getElem hlk;generalize (dg b)[k]'hlk=y at hgk;have hy:=(jV b).get hgk;have hol:i+k<os2.length:=by rw [hI.len];omega
   have hok:os2[i+k]? = some (os2[i+k]'hol):=List.getElem?_eq_getElem hol;generalize os2[i+k]'hol=old at hok;have hold:=hI.dg.get hok;have hxy:x*y≤999999999*999999999:=Nat.mul_le_mul (by omega) (by omega);refine vn (Fl dE (by omega) (by simpa using hgk)) rfl ?_;dsimp only [aA,aB];refine vn EU rfl ?_;dsimp only [aA,aB];refine vn (iD ⟨_,gF⟩ gT (c:=(x:Int)) (by rw [sV]<;>omega)) rfl ?_;dsimp only [aA,aB];refine vn (iD ⟨_,gF⟩ gT (c:=(y:Int)) (by rw [sV]<;>omega)) rfl ?_;dsimp only [aA,aB];refine vn (sO (c:=((x*y:Nat):Int)) (by rw [←Int.natCast_mul,sV]<;>omega)) rfl ?_;dsimp only [aA,aB];refine vn (eA (c:=((i+k:Nat):Int)) (by rw [nJ]<;>omega)) rfl ?_;dsimp only [aA,aB];refine nY (ts:=rT os2) rfl rfl (by omega) (by rw [cD];omega) ?_;refine vld (ts:=rT os2) (cells:=[aI.int .u32 (old:Int)]) (t:=.one (.int .u32 (old:Int))) rfl rfl (by omega) (pQ (by rw [Int.toNat_natCast];exact hok)) (.inr rfl) rfl ?_;dsimp only [aA,aB];refine vn (iD ⟨_,gF⟩ gT (c:=(old:Int)) (by rw [sV]<;>omega)) rfl ?_;dsimp only [aA,aB];refine vn (eA (c:=((x*y+old:Nat):Int)) (by rw [sV]<;>omega)) rfl ?_;dsimp only [aA,aB];refine vn (eA (c:=((c+(x*y+old):Nat):Int)) (by rw [sV]<;>omega)) rfl ?_;dsimp only [aA,aB];generalize hs2:c+(x*y+old)=w;have hw:w<1000000000*1000000000:=by omega
   refine vn (eA (c:=((i+k:Nat):Int)) (by rw [nJ]<;>omega)) rfl ?_;dsimp only [aA,aB];refine vn (CT (c:=((w%1000000000:Nat):Int)) (by decide) (by rw [Int.tmod_eq_emod_of_nonneg (by omega)];omega)) rfl ?_;dsimp only [aA,aB];refine vn (iD ⟨_,gT⟩ gF (c:=((w%1000000000:Nat):Int)) (by rw [Ay]<;>omega)) rfl ?_;dsimp only [aA,aB];refine vn (qU (c:=((w/1000000000:Nat):Int)) (by decide) (by rw [Int.tdiv_eq_ediv_of_nonneg (by omega),sV]<;>omega)) rfl ?_;dsimp only [aA,aB];refine nY (ts:=rT os2) rfl rfl (by omega) (by rw [cD];omega) ?_;refine Fv (ts:=rT os2) (us:=rT (os2.set (i+k) (w%1000000000))) rfl rfl (by omega) (pQ (by rw [Int.toNat_natCast];exact hok)) jJ ?_;dsimp only [aA,aB];refine vn (eA (c:=((k+1:Nat):Int)) (by rw [nJ]<;>omega)) rfl ?_;dsimp only [aA,aB];have hN:TIn (dg a) (dg b) i x (lv ((dg a).take i)*lv (dg b)) (k+1) (w/1000000000) (os2.set (i+k) (w%1000000000)):=hI.next hlt hlk hx hgk hok (by omega) (by omega) (by omega);exact aU rfl ⟨⟨(k+1,w/1000000000,os2.set (i+k) (w%1000000000)),hN⟩,aO.rfl,by show (dg b).length-(k+1)<(dg b).length-k;omega⟩
  ·have hke:k=(dg b).length:=by have:=hI.le;omega
   subst hke;have hol:i+(dg b).length<os2.length:=by rw [hI.len];omega
   have hok:os2[i+(dg b).length]? = some (os2[i+(dg b).length]'hol):=List.getElem?_eq_getElem hol;refine vn (aQ dE cD) rfl ?_;dsimp only [aA,aB];refine vn (eA (c:=((i+(dg b).length:Nat):Int)) (by rw [nJ]<;>omega)) rfl ?_;dsimp only [aA,aB];refine vn (iD ⟨_,gT⟩ gF (c:=(c:Int)) (by rw [Ay]<;>omega)) rfl ?_;dsimp only [aA,aB];refine nY (ts:=rT os2) rfl rfl (by omega) (by rw [cD];omega) ?_;refine Fv (ts:=rT os2) (us:=rT (os2.set (i+(dg b).length) c)) rfl rfl (by omega) (pQ (by rw [Int.toNat_natCast];exact hok)) jJ ?_;dsimp only [aA,aB];refine vn (eA (c:=((i+1:Nat):Int)) (by rw [nJ]<;>omega)) rfl ?_;dsimp only [aA,aB];exact aU rfl ⟨⟨(i+1,os2.set (i+(dg b).length) c),hI.out hget⟩,aO.rfl,by show (dg a).length-(i+1)<(dg a).length-i;omega⟩
 ·have hie:i=(dg a).length:=by have:=hO.le;omega
  subst hie;refine aC (iO os hO.dg (by rw [hO.len];omega)) rfl ?_;dsimp only [aA,aB];refine aL ?_;have hf:=hO.fin;rw [gD,gD] at hf;rw [hf];rfl
open Go Go.Proofs Tryz Ord
def aR9:Tr:=.ret [(W 1 0)]
def aY1:Tr:=bR .neq 3 3 4 0 0 0 0 4 aR9
theorem LN:aN prog f253 (fun _=>none) [.v none]=aY1:=by kernel_rfl
def aY5:Tr:=bR .neq 255 3 4 0 0 0 0 4 aR9
theorem KL:aN prog f254 (fun _=>none) [.v none]=aY5:=by kernel_rfl
def aW1:Tr:=.split (.u 3 0) XD WL
def aa2:Tr:=.split (.u 5 0) Vk XD
def aZ0:Tr:=aP 253 [(W 0 0)] [none] [7] [3] 4 true (aP 253 [(W 1 0)] [none] [9] [3] 4 true (.split (.u 2 0) aW1 (.split (.u 3 0) Vk (bR .lss 3 14 15 0 0 1 0 4 (.split (.u 4 0) WL (bR .gtr 3 17 18 0 0 1 0 4 aa2))))))
theorem Uy:aN prog f198 (fun _=>none) [.v none, .v none]=aZ0:=by kernel_rfl
def aT7:Tr:=aP 254 [(W 0 0)] [none] [7] [255] 4 true (aP 254 [(W 1 0)] [none] [9] [255] 4 true (.split (.u 2 0) aW1 (.split (.u 3 0) Vk (bR .lss 255 14 15 0 0 1 0 4 (.split (.u 4 0) WL (bR .gtr 255 17 18 0 0 1 0 4 aa2))))))
theorem Rd:aN prog f199 (fun _=>none) [.v none, .v none]=aT7:=by kernel_rfl
def ar5:Tr:=gE 1 0 9 0 33 32 33 (eY 13 0 none 255 34 (aP 199 [(W 12 0),(W 14 0)] [none] [30,35] [255,255] 3 true (bB .neq 3 37 0 15 0 4 (.split (.u 16 0) (.ret [(W 15 0)]) (bB .sub 3 24 1 9 0 3 (.back 0 [lV 8 0,lV 17 0]))))))
def aH5:Tr:=cY 0 0 19 33 (bB .sub 3 20 1 6 0 3 (.loop 0 [lK 0,lV 7 0] (bB .geq 3 22 0 9 0 4 (.split (.u 10 0) (gE 0 0 9 0 33 27 28 (eY 11 0 none 255 29 ar5)) XD))))
def aF5:Tr:=cY 0 0 9 33 (cY 1 0 12 33 (aP 198 [(W 2 0),(W 3 0)] [none] [10,13] [3,3] 3 true (bB .neq 3 15 0 4 0 4 (.split (.u 5 0) (.ret [(W 4 0)]) aH5))))
theorem OX:aN prog f119 (fun _=>none) [.v (some 1), .v (some 1)]=aF5:=by kernel_rfl
def aB5:Tr:=.need (.prim [(W 16 0)] none) (.convert 254 255 (tT 35)) 255 false (.need (.prim [(W 1 0)] none) (.convert 255 254 (tT 38)) 254 false (bR .rem 254 37 39 14 0 18 0 254 (.need (.idx 8 (.u 7 0)) (.indexAddr 33 (tT 30) (tT 31)) 0 false (.need (.strow 8 1 (.u 7 0) 0 [(.u 17 0)]) (.store 255 (tT 41) (tT 36)) 0 false (bB .sub 3 19 1 7 0 3 (.back 0 [lV 19 0,lV 21 0, .row 20]))))))
def aW7:Tr:=.need (.prim [(W 6 0),(.one (.c (.k (.int .u64 1000000000))))] none) (.binOp .mul 254 (tT 21) (.const (.int .u64 1000000000)) 254) 254 false (gE 0 0 7 0 33 24 25 (eY 11 0 none 255 26 (.need (.prim [(W 12 0)] none) (.convert 255 254 (tT 27)) 254 false (bR .add 254 22 28 10 0 13 0 254 (.need (.prim [(W 1 0)] none) (.convert 255 254 (tT 33)) 254 false (bR .quo 254 32 34 14 0 15 0 254 aB5))))))
def aO2:Tr:=bB .sub 3 15 1 4 0 3 (.loop 0 [(.w (.one (.c (.k (.int .u64 0))))),lV 5 0, .row 3] (bB .geq 3 17 0 7 0 4 (.split (.u 9 0) aW7 (aP 197 [(.one (.c (.sr 1 8)))] [(some 1)] [42] [33] 35 false (aP 195 [(W 6 0)] [(some 1)] [44] [254] 35 true (.ret [(G1 10),(G1 11)]))))))
def aP5:Tr:=cY 0 0 10 33 (.need (.make [(.int .u32 0)] 4 (.u 2 0) (.u 2 0)) (.makeSlice 33 (tT 11) (tT 11)) 33 false (cY 0 0 14 33 aO2))
theorem TC:aN prog f250 (fun _=>none) [.v (some 1), .v none]=aP5:=by kernel_rfl
def aL7:Tr:=cY 0 0 4 33 (bB .eql 3 5 1 1 0 4 (.split (.u 2 0) (.need (.prim [(W 0 0),(WK 0)] none) (.indexAddr 33 (tT 9) (.const (I3 0))) 0 false (eY 3 0 none 255 10 (.need (.prim [(W 4 0),(.one (.c (.k (.int .u32 1))))] none) (.binOp .eql 255 (tT 11) (.const (.int .u32 1)) 255) 4 false (.ret [(W 5 0)])))) (.ret [(tF false)])))
theorem ai2:aN prog f192 (fun _=>none) [.v (some 1)]=aL7:=by kernel_rfl
def eE (x y:Int):Int:=if x<y then -1 else if y<x then 1 else 0
theorem CS (x:Int):aK prog 253 [.one (.int .i64 x)] (.ret [.one (.bool false)]):=by
 refine aD (args:=[.v none]) (ins:=[.v (.one (.int .i64 x))]) (hints:=fun _=>none) fo (by kernel_rfl) func253 ⟨rfl,trivial⟩ ?_;rw [LN];refine vn Jr rfl ?_;refine aL ?_;show [aG.one (.bool (!decide (x=x)))]=_;simp
theorem SX (x y:Int):aK prog 198 [.one (.int .i64 x), .one (.int .i64 y)] (.ret [.one (.int .i64 (eE x y))]):=by
 refine aD (args:=[.v none, .v none]) (ins:=[.v (.one (.int .i64 x)), .v (.one (.int .i64 y))]) (hints:=fun _=>none) fo (by kernel_rfl) func198 ⟨rfl,rfl,trivial⟩ ?_;rw [Uy];refine aC (CS x) rfl ?_;refine aC (CS y) rfl ?_;refine Bt false rfl (fun h=>by cases h) (fun _=>?_);refine Bt false rfl (fun h=>by cases h) (fun _=>?_);refine vn vF rfl ?_;refine vs _ rfl (fun h=>?_) (fun h=>?_)
 ·refine aL ?_;rw [eE,if_pos h];rfl
 ·refine vn IQ rfl ?_;refine vs _ rfl (fun h2=>?_) (fun h2=>?_)
  ·refine aL ?_;rw [eE,if_neg h,if_pos h2];rfl
  ·refine aL ?_;rw [eE,if_neg h,if_neg h2];rfl
theorem CX (x:Int):aK prog 254 [.one (.int .u32 x)] (.ret [.one (.bool false)]):=by
 refine aD (args:=[.v none]) (ins:=[.v (.one (.int .u32 x))]) (hints:=fun _=>none) fo (by kernel_rfl) func254 ⟨rfl,trivial⟩ ?_;rw [KL];refine vn Jr rfl ?_;refine aL ?_;show [aG.one (.bool (!decide (x=x)))]=_;simp
theorem Se (x y:Int):aK prog 199 [.one (.int .u32 x), .one (.int .u32 y)] (.ret [.one (.int .i64 (eE x y))]):=by
 refine aD (args:=[.v none, .v none]) (ins:=[.v (.one (.int .u32 x)), .v (.one (.int .u32 y))]) (hints:=fun _=>none) fo (by kernel_rfl) func199 ⟨rfl,rfl,trivial⟩ ?_;rw [Rd];refine aC (CX x) rfl ?_;refine aC (CX y) rfl ?_;refine Bt false rfl (fun h=>by cases h) (fun _=>?_);refine Bt false rfl (fun h=>by cases h) (fun _=>?_);refine vn vF rfl ?_;refine vs _ rfl (fun h=>?_) (fun h=>?_)
 ·refine aL ?_;rw [eE,if_pos h];rfl
 ·refine vn IQ rfl ?_;refine vs _ rfl (fun h2=>?_) (fun h2=>?_)
  ·refine aL ?_;rw [eE,if_neg h,if_pos h2];rfl
  ·refine aL ?_;rw [eE,if_neg h,if_neg h2];rfl
theorem Yl (z:Int):aK prog 114 [iT z] (.ret [.one (.int .i64 z.sign)]):=by
 refine aD (args:=[.v (some 2)]) (ins:=[.v (iT z)]) (hints:=fun _=>none) fo (by kernel_rfl) func114 ⟨rfl,trivial⟩ ?_;rw [Xm];refine aC (zH z.natAbs) rfl ?_;refine vs _ rfl (fun h=>?_) (fun h=>?_)
 ·refine aL ?_;have:z.sign=0:=by rw [Int.sign_eq_zero_iff_zero];omega
  rw [this];rfl
 ·refine vs _ rfl (fun h2=>?_) (fun h2=>?_)
  ·refine aL ?_;rw [Int.sign_eq_neg_one_of_neg h2];rfl
  ·refine aL ?_;rw [Int.sign_eq_one_of_pos (by omega)];rfl
theorem wS {xs ys:List Nat} (hx:Dg xs) (hlen:xs.length=ys.length) {i x y:Nat} (hi:xs[i]? = some x) (hj:ys[i]? = some y) (hd:xs.drop (i+1)=ys.drop (i+1)) (hxy:x<y):lv xs<lv ys:=by
 have hil:i<xs.length:=(List.getElem?_eq_some_iff.1 hi).1
 have e1:lv xs=lv (xs.take (i+1))+1000000000^(i+1)*lv (xs.drop (i+1)):=by
  conv=>lhs;rw [←List.take_append_drop (i+1) xs]
  rw [uU,List.length_take,Nat.min_eq_left (by omega)]
 have e2:lv ys=lv (ys.take (i+1))+1000000000^(i+1)*lv (ys.drop (i+1)):=by
  conv=>lhs;rw [←List.take_append_drop (i+1) ys]
  rw [uU,List.length_take,Nat.min_eq_left (by omega)]
 rw [e1,e2,hd,eL hi,eL hj]
 have h1:lv (xs.take i)<1000000000^i:=by
  have:=KY (B:=1000000000) (by omega) (xs.take i) (hx.take i);rw [List.length_take,Nat.min_eq_left (by omega)] at this;exact this
 have h2:1000000000^i*(x+1)≤1000000000^i*y:=Nat.mul_le_mul_left _ hxy;rw [Nat.mul_add,Nat.mul_one] at h2;omega
theorem yK {a b:Nat} (h:(dg a).length<(dg b).length):a<b:=by
 have hb:b≠0:=by rintro rfl;rw [show dg 0 = [] from dA _] at h;simp at h
 have h1:=jY (B:=1000000000) (by omega) a;have h2:=fQ (B:=1000000000) (by omega) hb;have h3:1000000000^(dg a).length≤1000000000^((dg b).length-1):=Nat.pow_le_pow_right (by omega) (by omega);exact Nat.lt_of_lt_of_le h1 (Nat.le_trans h3 h2)
theorem uH {a b:Int} (h:a<b):eE a b = -1:=if_pos h
theorem uT {a b:Int} (h:b<a):eE a b=1:=by rw [eE,if_neg (by omega),if_pos h]
theorem BM (a:Int):eE a a=0:=by rw [eE,if_neg (by omega),if_neg (by omega)]
theorem FF {a b:Int}:eE a b=0↔a=b:=by
 unfold eE;constructor
 ·intro h;split at h
  ·cases h
  ·split at h
   ·cases h
   ·omega
 ·rintro rfl;simp
theorem uJ (a b:Nat) (hs:(dg a).length+(dg b).length<1099511627776):aK prog 119 [mT a,mT b] (.ret [.one (.int .i64 (eE a b))]):=by
 refine aD (args:=[.v (some 1), .v (some 1)]) (ins:=[.v (mT a), .v (mT b)]) (hints:=fun _=>none) fo (by kernel_rfl) func119 ⟨rfl,rfl,trivial⟩ ?_;rw [OX];dsimp only [List.map,In.env];refine vn (aQ dE cD) rfl ?_;dsimp only [aA,aB];refine vn (aQ dE cD) rfl ?_;dsimp only [aA,aB];refine aC (SX _ _) rfl ?_;dsimp only [aA,aB];refine vn Jr rfl ?_;dsimp only [aA,aB];refine Bt (!decide (eE ((dg a).length:Int) ((dg b).length:Int)=0)) rfl (fun h=>?_) (fun h=>?_)
 ·refine aL ?_;have hne:¬ eE ((dg a).length:Int) ((dg b).length:Int)=0:=by simpa using h
  have:eE ((dg a).length:Int) ((dg b).length:Int)=eE a b:=by
   rcases Nat.lt_trichotomy (dg a).length (dg b).length with hl | hl | hl
   ·rw [uH (by omega),uH (by have:=yK hl;omega)]
   ·rw [hl] at hne;exact absurd (BM _) hne
   ·rw [uT (by omega),uT (by have:=yK hl;omega)]
  rw [←this];rfl
 ·have he:(dg a).length=(dg b).length:=by
   have:eE ((dg a).length:Int) ((dg b).length:Int)=0:=by simpa using h
   have:=FF.1 this;omega
  refine vn (aQ dE cD) rfl ?_;dsimp only [aA,aB];refine vn (oZ (c:=((dg a).length:Int)-1) (by rw [nJ]<;>omega)) rfl ?_;dsimp only [aA,aB];refine bF {n:Nat // n≤(dg a).length∧(dg a).drop n=(dg b).drop n} (fun g=>[.one (.int .i64 0), .one (.int .i64 ((g.1:Int)-1))]) (fun g=>g.1) ⟨(dg a).length,Nat.le_refl _,by rw [List.drop_length,he,List.drop_length]⟩ aO.rfl (fun _=>rfl) ?_;rintro ⟨n,hn,hdr⟩;dsimp only [aA,aB];refine vn El rfl ?_;dsimp only [aA,aB];refine vs _ rfl (fun h1=>?_) (fun h1=>?_)
  ·have hla:n-1<(dg a).length:=by omega
   have hlb:n-1<(dg b).length:=by omega
   have hga:(dg a)[n-1]? = some ((dg a)[n-1]'hla):=List.getElem?_eq_getElem hla;have hgb:(dg b)[n-1]? = some ((dg b)[n-1]'hlb):=List.getElem?_eq_getElem hlb;generalize hxe:(dg a)[n-1]'hla=x at hga;generalize hye:(dg b)[n-1]'hlb=y at hgb;have htn:((n:Int)-1).toNat=n-1:=by omega
   have hdr':(dg a).drop (n-1+1)=(dg b).drop (n-1+1):=by rw [show n-1+1=n by omega];exact hdr
   refine vn (Fl dE (by omega) (by rw [htn];exact hga)) rfl ?_;dsimp only [aA,aB];refine vn EU rfl ?_;dsimp only [aA,aB];refine vn (Fl dE (by omega) (by rw [htn];exact hgb)) rfl ?_;dsimp only [aA,aB];refine vn EU rfl ?_;dsimp only [aA,aB];refine aC (Se _ _) rfl ?_;dsimp only [aA,aB];refine vn Jr rfl ?_;dsimp only [aA,aB];refine Bt (!decide (eE (x:Int) (y:Int)=0)) rfl (fun h2=>?_) (fun h2=>?_)
   ·refine aL ?_;have hne:¬ eE (x:Int) (y:Int)=0:=by simpa using h2
    have:eE (x:Int) (y:Int)=eE a b:=by
     rcases Nat.lt_trichotomy x y with hl | hl | hl
     ·have:=wS (jV a) he hga hgb hdr' hl;rw [gD,gD] at this;rw [uH (by omega),uH (by omega)]
     ·subst hl;exact absurd (BM _) hne
     ·have:=wS (jV b) he.symm hgb hga hdr'.symm hl;rw [gD,gD] at this;rw [uT (by omega),uT (by omega)]
    rw [←this];rfl
   ·have hxy:x=y:=by
     have:eE (x:Int) (y:Int)=0:=by simpa using h2
     have:=FF.1 this;omega
    refine vn (oZ (c:=((n-1:Nat):Int)-1) (by rw [nJ]<;>omega)) rfl ?_;dsimp only [aA,aB];refine aU rfl ⟨⟨n-1,by omega,?_⟩,aO.rfl,by show n-1<n;omega⟩;rw [List.drop_eq_getElem_cons hla,List.drop_eq_getElem_cons hlb,hxe,hye,hxy,hdr']
  ·have hn0:n=0:=by omega
   subst hn0;refine aL ?_;rw [List.drop_zero,List.drop_zero] at hdr;have:a=b:=by have:=congrArg lv hdr;rwa [gD,gD] at this
   subst this;exact congrArg (fun x=>[aG.one (aI.int .i64 x)]) (BM (a:Int)).symm
open Go Go.Proofs Tryz Ord
theorem HM {xs:List Nat} {i x:Nat} (h:xs[i]? = some x):lv (xs.drop i)=x+1000000000*lv (xs.drop (i+1)):=by
 have hi:i<xs.length:=(List.getElem?_eq_some_iff.1 h).1;rw [List.drop_eq_getElem_cons hi,(List.getElem?_eq_some_iff.1 h).2];rfl
structure GD (xs:List Nat) (d n r:Nat) (os:List Nat):Prop where
 le:n≤xs.length
 len:os.length=xs.length
 dg:Dg os
 r1:r<d
 eq:lv (os.drop n)*d+r=lv (xs.drop n)
theorem GD.init (xs:List Nat) {d:Nat} (hd:0<d):GD xs d xs.length 0 (List.replicate xs.length 0):=⟨Nat.le_refl _,by simp,Dg.rep _,hd,by simp [lv,val]⟩
theorem GD.next {xs os:List Nat} {d n r x:Nat} (h:GD xs d (n+1) r os) (hd:d<1000000000) (hx:xs[n]? = some x) (hx1:x<1000000000):GD xs d n ((r*1000000000+x)%d) (os.set n ((r*1000000000+x)/d)):=by
 have hd0:0<d:=by have:=h.r1;omega
 have hq:(r*1000000000+x)/d<1000000000:=by
  rw [Nat.div_lt_iff_lt_mul hd0];have h1:=h.r1;have:(r+1)*1000000000≤d*1000000000:=Nat.mul_le_mul_right _ h1;rw [Nat.add_mul] at this;rw [Nat.mul_comm 1000000000 d];omega
 have hl:=h.le;have hlen:=h.len;refine ⟨by omega,by rw [List.length_set];exact hlen,h.dg.set hq,Nat.mod_lt _ hd0,?_⟩
 have hs:(os.set n ((r*1000000000+x)/d))[n]? = some ((r*1000000000+x)/d):=by
  rw [List.getElem?_set_self (by omega)]
 rw [HM hs,HM hx,List.drop_set_of_lt (by omega),←h.eq];have h1:=Nat.div_add_mod (r*1000000000+x) d;rw [Nat.mul_comm d] at h1;simp only [Nat.add_mul,Nat.mul_add,Nat.mul_assoc];omega
theorem GD.fin {xs os:List Nat} {d r:Nat} (h:GD xs d 0 r os):lv os=lv xs/d∧r=lv xs%d:=by
 have h1:=h.eq;rw [List.drop_zero,List.drop_zero] at h1;have h2:=h.r1;have e:lv xs=r+d*lv os:=by rw [←h1,Nat.mul_comm];omega
 constructor
 ·rw [e,Nat.add_mul_div_left _ _ (by omega),Nat.div_eq_of_lt h2,Nat.zero_add]
 ·rw [e,Nat.add_mul_mod_self_left,Nat.mod_eq_of_lt h2]
theorem Ih (a d:Nat) (hd0:0<d) (hd:d<1000000000) (hs:(dg a).length<1099511627776):aK prog 250 [mT a, .one (.int .u32 d)] (.ret [mT (a/d),mT (a%d)]):=by
 refine aD (args:=[.v (some 1), .v none]) (ins:=[.v (mT a), .v (.one (.int .u32 d))]) (hints:=fun _=>none) fo (by kernel_rfl) func250 ⟨rfl,rfl,trivial⟩ ?_;rw [TC];dsimp only [List.map,In.env];refine vn (aQ dE cD) rfl ?_;dsimp only [aA,aB];refine tI (n:=(dg a).length) (m:=(dg a).length) rfl rfl Hj (Nat.le_refl _) (by omega) (by simp [maxLen];omega) ?_;dsimp only [aA,aB];refine vn (aQ dE cD) rfl ?_;dsimp only [aA,aB];refine vn (oZ (c:=((dg a).length:Int)-1) (by rw [nJ]<;>omega)) rfl ?_;dsimp only [aA,aB];refine bF {g:Nat×Nat×List Nat // GD (dg a) d g.1 g.2.1 g.2.2} (fun g=>[.one (.int .u64 g.1.2.1), .one (.int .i64 ((g.1.1:Int)-1)), .rows (rT g.1.2.2)]) (fun g=>g.1.1) ⟨((dg a).length,0,List.replicate (dg a).length 0),GD.init _ hd0⟩ aO.rfl (fun _=>rfl) ?_;rintro ⟨⟨n,r,os⟩,hI⟩;dsimp only [aA,aB] at hI ⊢;have hr1:=hI.r1;have hln:=hI.le;refine vn El rfl ?_;dsimp only [aA,aB];refine vs _ rfl (fun h1=>?_) (fun h1=>?_)
 ·obtain ⟨m,rfl⟩:∃ m,n=m+1:=⟨n-1,by omega⟩
  have hlt:m<(dg a).length:=by omega
  have hget:(dg a)[m]? = some ((dg a)[m]'hlt):=List.getElem?_eq_getElem hlt;generalize (dg a)[m]'hlt=x at hget;have hx:=(jV a).get hget;have hol:m<os.length:=by rw [hI.len];omega
  have hok:os[m]? = some (os[m]'hol):=List.getElem?_eq_getElem hol;have htn:(((m+1:Nat):Int)-1).toNat=m:=by omega
  refine vn (sO (c:=((r*1000000000:Nat):Int)) (by rw [sV]<;>omega)) rfl ?_;dsimp only [aA,aB];refine vn (Fl dE (by omega) (by rw [htn];exact hget)) rfl ?_;dsimp only [aA,aB];refine vn EU rfl ?_;dsimp only [aA,aB];refine vn (iD ⟨_,gF⟩ gT (c:=(x:Int)) (by rw [sV]<;>omega)) rfl ?_;dsimp only [aA,aB];refine vn (eA (c:=((r*1000000000+x:Nat):Int)) (by rw [sV]<;>omega)) rfl ?_;dsimp only [aA,aB];have hN:=hI.next hd hget hx;have hqd:=hN.dg.get (i:=m) (d:=(r*1000000000+x)/d) (List.getElem?_set_self (by omega));have hrd:=hN.r1;generalize hw:r*1000000000+x=w at hN hqd hrd ⊢;generalize hq:w/d=q at hN hqd;generalize hm:w%d=rr at hN hrd;refine vn (iD ⟨_,gF⟩ gT (c:=(d:Int)) (by rw [sV]<;>omega)) rfl ?_;dsimp only [aA,aB];refine vn (qU (c:=(q:Int)) (by omega) (by rw [Int.tdiv_eq_ediv_of_nonneg (by omega),←Int.natCast_ediv,hq,sV]<;>omega)) rfl ?_;dsimp only [aA,aB];refine vn (iD ⟨_,gT⟩ gF (c:=(q:Int)) (by rw [Ay]<;>omega)) rfl ?_;dsimp only [aA,aB];refine vn (iD ⟨_,gF⟩ gT (c:=(d:Int)) (by rw [sV]<;>omega)) rfl ?_;dsimp only [aA,aB];refine vn (CT (c:=(rr:Int)) (by omega) (by rw [Int.tmod_eq_emod_of_nonneg (by omega),←Int.natCast_emod,hm])) rfl ?_;dsimp only [aA,aB];refine nY (ts:=rT os) rfl rfl (by omega) (by rw [cD];omega) ?_;refine Fv (ts:=rT os) (us:=rT (os.set m q)) rfl rfl (by omega) (pQ (by rw [htn];exact hok)) (by rw [htn];exact jJ) ?_;dsimp only [aA,aB];refine vn (oZ (c:=(m:Int)-1) (by rw [nJ]<;>omega)) rfl ?_;dsimp only [aA,aB];exact aU rfl ⟨⟨(m,rr,os.set m q),hN⟩,aO.rfl,by show m<m+1;omega⟩
 ·have hn0:n=0:=by omega
  subst hn0;obtain ⟨hf1,hf2⟩:=hI.fin;rw [gD] at hf1 hf2;refine aC (iO os hI.dg (by rw [hI.len];omega)) rfl ?_;dsimp only [aA,aB];refine aC (hU r (by omega)) rfl ?_;dsimp only [aA,aB];refine aL ?_;rw [hf1,←hf2];rfl
end Go.Sy
