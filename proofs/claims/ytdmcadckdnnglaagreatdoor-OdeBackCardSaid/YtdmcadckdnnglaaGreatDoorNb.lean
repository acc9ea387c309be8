/- Taking away: less, subtract, giveBack. Division. slices.Backward over digits; word. Common divisors, powers; integers. Integers, ratios, rational numbers.
-/
import Derived.Test.YtdmcadckdnnglaaGreatDoorNa
import Derived.Test.YtdmcadckdnnglaaGreatDoorPa
import Derived.RangeFuncFrom
import Derived.RangeFuncBox
import Derived.RangeFuncLeaves
import Derived.Shelf.Abstract
import Derived.WalkKit
import Derived.OwnWalkIn
import Derived.TacticsInMore
import Derived.LoopNIn
import Derived.LoopIn
set_option linter.unusedVariables false
set_option linter.unusedSimpArgs false
namespace Go.Sy
open Go Go.Proofs Tryz Ord
def aq8:Tr:=.need (.idx 20 (.u 8 0)) (.indexAddr 33 (tT 51) (tT 52)) 0 false (.need (.ldrow 20 (.u 8 0) 0 1 false) (.load 255 (tT 53)) 255 false (bR .sub 255 54 55 21 0 15 0 255 (.need (.idx 20 (.u 8 0)) (.indexAddr 33 (tT 51) (tT 52)) 0 false (.need (.strow 20 1 (.u 8 0) 0 [(.u 22 0)]) (.store 255 (tT 57) (tT 56)) 0 false (bB .add 3 19 1 8 0 3 (.back 0 [(.w (.one (.c (.k (.int .u32 1))))),lV 24 0, .row 23]))))))
def af9:Tr:=.need (.idx 9 (.u 8 0)) (.indexAddr 33 (tT 51) (tT 52)) 0 false (.need (.ldrow 9 (.u 8 0) 0 1 false) (.load 255 (tT 53)) 255 false (bR .sub 255 54 55 18 0 15 0 255 (.need (.idx 9 (.u 8 0)) (.indexAddr 33 (tT 51) (tT 52)) 0 false (.need (.strow 9 1 (.u 8 0) 0 [(.u 19 0)]) (.store 255 (tT 57) (tT 56)) 0 false (bB .add 3 19 1 8 0 3 (.back 0 [(.w (.one (.c (.k (.int .u32 0))))),lV 21 0, .row 20]))))))
def ar4:Tr:=bR .lss 255 40 41 16 0 15 0 4 (.split (.u 17 0) (.need (.idx 9 (.u 8 0)) (.indexAddr 33 (tT 45) (tT 46)) 0 false (.need (.ldrow 9 (.u 8 0) 0 1 false) (.load 255 (tT 47)) 255 false (.need (.prim [(W 18 0),(.one (.c (.k (.int .u32 1000000000))))] none) (.binOp .add 255 (tT 48) (.const (.int .u32 1000000000)) 255) 255 false (.need (.idx 9 (.u 8 0)) (.indexAddr 33 (tT 43) (tT 44)) 0 false (.need (.strow 9 1 (.u 8 0) 0 [(.u 19 0)]) (.store 255 (tT 50) (tT 49)) 0 false aq8))))) af9)
def ar3:Tr:=.need (.idx 18 (.u 8 0)) (.indexAddr 33 (tT 51) (tT 52)) 0 false (.need (.ldrow 18 (.u 8 0) 0 1 false) (.load 255 (tT 53)) 255 false (bR .sub 255 54 55 19 0 7 0 255 (.need (.idx 18 (.u 8 0)) (.indexAddr 33 (tT 51) (tT 52)) 0 false (.need (.strow 18 1 (.u 8 0) 0 [(.u 20 0)]) (.store 255 (tT 57) (tT 56)) 0 false (bB .add 3 19 1 8 0 3 (.back 0 [(.w (.one (.c (.k (.int .u32 1))))),lV 22 0, .row 21]))))))
def aj0:Tr:=.need (.idx 9 (.u 8 0)) (.indexAddr 33 (tT 51) (tT 52)) 0 false (.need (.ldrow 9 (.u 8 0) 0 1 false) (.load 255 (tT 53)) 255 false (bR .sub 255 54 55 16 0 7 0 255 (.need (.idx 9 (.u 8 0)) (.indexAddr 33 (tT 51) (tT 52)) 0 false (.need (.strow 9 1 (.u 8 0) 0 [(.u 17 0)]) (.store 255 (tT 57) (tT 56)) 0 false (bB .add 3 19 1 8 0 3 (.back 0 [(.w (.one (.c (.k (.int .u32 0))))),lV 19 0, .row 18]))))))
def av1:Tr:=bR .lss 255 40 41 14 0 7 0 4 (.split (.u 15 0) (.need (.idx 9 (.u 8 0)) (.indexAddr 33 (tT 45) (tT 46)) 0 false (.need (.ldrow 9 (.u 8 0) 0 1 false) (.load 255 (tT 47)) 255 false (.need (.prim [(W 16 0),(.one (.c (.k (.int .u32 1000000000))))] none) (.binOp .add 255 (tT 48) (.const (.int .u32 1000000000)) 255) 255 false (.need (.idx 9 (.u 8 0)) (.indexAddr 33 (tT 43) (tT 44)) 0 false (.need (.strow 9 1 (.u 8 0) 0 [(.u 17 0)]) (.store 255 (tT 50) (tT 49)) 0 false ar3))))) aj0)
def aJ1:Tr:=bR .lss 3 23 26 8 0 11 0 4 (.split (.u 12 0) (gE 1 0 8 0 33 30 31 (eY 13 0 none 255 32 (bR .add 255 28 33 7 0 14 0 255 (.need (.idx 9 (.u 8 0)) (.indexAddr 33 (tT 37) (tT 38)) 0 false (.need (.ldrow 9 (.u 8 0) 0 1 false) (.load 255 (tT 39)) 255 false ar4))))) (.need (.prim [(W 7 0),(.one (.c (.k (.int .u32 0))))] none) (.binOp .eql 255 (tT 35) (.const (.int .u32 0)) 255) 4 false (.split (.u 13 0) (aP 197 [(.one (.c (.sr 1 9)))] [(some 1)] [59] [33] 35 true (.ret [(G1 14)])) (.need (.idx 9 (.u 8 0)) (.indexAddr 33 (tT 37) (tT 38)) 0 false (.need (.ldrow 9 (.u 8 0) 0 1 false) (.load 255 (tT 39)) 255 false av1)))))
def aP4:Tr:=.need (.rop 3 255 1 none [] [(W 0 0)] [none]) (.call ⟨.builtin .copy,#[(tT 13),(tT 15)],#[33,33]⟩) 3 false (.need (.lenrow 5) (.call ⟨.builtin .len,#[(tT 17)],#[33]⟩) 3 false (.loop 0 [(.w (.one (.c (.k (.int .u32 0))))),lK 0, .row 5] (bR .lss 3 19 18 8 0 6 0 0 (.split (.u 10 0) (cY 1 0 25 33 aJ1) (aP 197 [(.one (.c (.sr 1 9)))] [(some 1)] [59] [33] 35 true (.ret [(G1 11)]))))))
def aV4:Tr:=cY 0 0 10 33 (.need (.make [(.int .u32 0)] 4 (.u 2 0) (.u 2 0)) (.makeSlice 33 (tT 11) (tT 11)) 33 false aP4)
theorem af7:aN prog f194 (fun _=>none) [.v (some 1), .v (some 1)]=aV4:=by kernel_rfl
def ag1:Tr:=.split (.u 23 0) (bB .add 2 44 1000000000 21 0 2 (.need (.prim [(W 24 0)] none) (.convert 2 255 (tT 48)) 255 false (.need (.idx 7 (.u 6 0)) (.indexAddr 33 (tT 46) (tT 47)) 0 false (.need (.strow 7 1 (.u 6 0) 0 [(.u 25 0)]) (.store 255 (tT 50) (tT 49)) 0 false (bB .add 3 13 1 6 0 3 (.back 0 [lV 22 0,lK 1,lV 27 0, .row 26])))))) (.need (.prim [(W 21 0)] none) (.convert 2 255 (tT 48)) 255 false (.need (.idx 7 (.u 6 0)) (.indexAddr 33 (tT 46) (tT 47)) 0 false (.need (.strow 7 1 (.u 6 0) 0 [(.u 24 0)]) (.store 255 (tT 50) (tT 49)) 0 false (bB .add 3 13 1 6 0 3 (.back 0 [lV 22 0,lK 0,lV 26 0, .row 25])))))
def ab2:Tr:=.need (.prim [(W 16 0)] none) (.convert 255 2 (tT 32)) 2 false (.need (.prim [(W 15 0),(.one (.c (.k (.int .u64 1000000000))))] none) (.binOp .rem 254 (tT 34) (.const (.int .u64 1000000000)) 254) 254 false (.need (.prim [(W 18 0)] none) (.convert 254 2 (tT 35)) 2 false (bR .sub 2 33 36 17 0 19 0 2 (bR .sub 2 37 38 20 0 5 0 2 (.need (.prim [(W 15 0),(.one (.c (.k (.int .u64 1000000000))))] none) (.binOp .quo 254 (tT 40) (.const (.int .u64 1000000000)) 254) 254 false (bB .lss 2 42 0 21 0 4 ag1))))))
def aN7:Tr:=gE 1 0 6 0 33 22 23 (eY 11 0 none 255 24 (.need (.prim [(W 12 0)] none) (.convert 255 254 (tT 25)) 254 false (bR .mul 254 21 26 2 0 13 0 254 (bR .add 254 20 27 4 0 14 0 254 (.need (.idx 7 (.u 6 0)) (.indexAddr 33 (tT 29) (tT 30)) 0 false (.need (.ldrow 7 (.u 6 0) 0 1 false) (.load 255 (tT 31)) 255 false ab2))))))
def ai8:Tr:=.split (.u 18 0) (bB .add 2 44 1000000000 16 0 2 (.need (.prim [(W 19 0)] none) (.convert 2 255 (tT 48)) 255 false (.need (.idx 7 (.u 6 0)) (.indexAddr 33 (tT 46) (tT 47)) 0 false (.need (.strow 7 1 (.u 6 0) 0 [(.u 20 0)]) (.store 255 (tT 50) (tT 49)) 0 false (bB .add 3 13 1 6 0 3 (.back 0 [lV 17 0,lK 1,lV 22 0, .row 21])))))) (.need (.prim [(W 16 0)] none) (.convert 2 255 (tT 48)) 255 false (.need (.idx 7 (.u 6 0)) (.indexAddr 33 (tT 46) (tT 47)) 0 false (.need (.strow 7 1 (.u 6 0) 0 [(.u 19 0)]) (.store 255 (tT 50) (tT 49)) 0 false (bB .add 3 13 1 6 0 3 (.back 0 [lV 17 0,lK 0,lV 21 0, .row 20])))))
def ah4:Tr:=.need (.prim [(W 11 0)] none) (.convert 255 2 (tT 32)) 2 false (.need (.prim [(W 4 0),(.one (.c (.k (.int .u64 1000000000))))] none) (.binOp .rem 254 (tT 34) (.const (.int .u64 1000000000)) 254) 254 false (.need (.prim [(W 13 0)] none) (.convert 254 2 (tT 35)) 2 false (bR .sub 2 33 36 12 0 14 0 2 (bR .sub 2 37 38 15 0 5 0 2 (.need (.prim [(W 4 0),(.one (.c (.k (.int .u64 1000000000))))] none) (.binOp .quo 254 (tT 40) (.const (.int .u64 1000000000)) 254) 254 false (bB .lss 2 42 0 16 0 4 ai8))))))
def aO5:Tr:=bR .lss 3 13 12 6 0 3 0 0 (.split (.u 8 0) (cY 1 0 17 33 (bR .lss 3 16 18 6 0 9 0 4 (.split (.u 10 0) aN7 (.need (.idx 7 (.u 6 0)) (.indexAddr 33 (tT 29) (tT 30)) 0 false (.need (.ldrow 7 (.u 6 0) 0 1 false) (.load 255 (tT 31)) 255 false ah4))))) (bB .neq 2 52 0 5 0 4 (.retr [(W 9 0)] 7)))
def aS0:Tr:=.need (.lenrow 0) (.call ⟨.builtin .len,#[(tT 11)],#[33]⟩) 3 false (.loop 0 [(.w (.one (.c (.k (.int .u64 0))))),lK 0,lK 0, .row 0] aO5)
theorem Mz:Ic prog f251 (fun _=>none) [.lent 255 1, .v none, .v none]=aS0:=by kernel_rfl
def ar2:Tr:=.need (.prim [(W 13 0),(.one (.c (.k (.int .u32 1000000000))))] none) (.binOp .geq 255 (tT 29) (.const (.int .u32 1000000000)) 255) 4 false (.split (.u 14 0) (.need (.prim [(W 13 0),(.one (.c (.k (.int .u32 1000000000))))] none) (.binOp .sub 255 (tT 31) (.const (.int .u32 1000000000)) 255) 255 false (.need (.idx 5 (.u 4 0)) (.indexAddr 33 (tT 33) (tT 34)) 0 false (.need (.strow 5 1 (.u 4 0) 0 [(.u 15 0)]) (.store 255 (tT 36) (tT 35)) 0 false (bB .add 3 10 1 4 0 3 (.back 0 [(.w (.one (.c (.k (.int .u32 1))))),lV 17 0, .row 16]))))) (.need (.idx 5 (.u 4 0)) (.indexAddr 33 (tT 33) (tT 34)) 0 false (.need (.strow 5 1 (.u 4 0) 0 [(.u 13 0)]) (.store 255 (tT 36) (tT 35)) 0 false (bB .add 3 10 1 4 0 3 (.back 0 [(.w (.one (.c (.k (.int .u32 0))))),lV 16 0, .row 15])))))
def ac5:Tr:=.need (.prim [(W 8 0),(.one (.c (.k (.int .u32 1000000000))))] none) (.binOp .geq 255 (tT 29) (.const (.int .u32 1000000000)) 255) 4 false (.split (.u 11 0) (.need (.prim [(W 8 0),(.one (.c (.k (.int .u32 1000000000))))] none) (.binOp .sub 255 (tT 31) (.const (.int .u32 1000000000)) 255) 255 false (.need (.idx 5 (.u 4 0)) (.indexAddr 33 (tT 33) (tT 34)) 0 false (.need (.strow 5 1 (.u 4 0) 0 [(.u 12 0)]) (.store 255 (tT 36) (tT 35)) 0 false (bB .add 3 10 1 4 0 3 (.back 0 [(.w (.one (.c (.k (.int .u32 1))))),lV 14 0, .row 13]))))) (.need (.idx 5 (.u 4 0)) (.indexAddr 33 (tT 33) (tT 34)) 0 false (.need (.strow 5 1 (.u 4 0) 0 [(.u 8 0)]) (.store 255 (tT 36) (tT 35)) 0 false (bB .add 3 10 1 4 0 3 (.back 0 [(.w (.one (.c (.k (.int .u32 0))))),lV 13 0, .row 12])))))
def aI0:Tr:=bR .add 255 16 17 7 0 3 0 255 (cY 1 0 20 33 (bR .lss 3 19 21 4 0 9 0 4 (.split (.u 10 0) (gE 1 0 4 0 33 24 25 (eY 11 0 none 255 26 (bR .add 255 23 27 8 0 12 0 255 ar2))) ac5)))
def aM3:Tr:=.need (.lenrow 0) (.call ⟨.builtin .len,#[(tT 8)],#[33]⟩) 3 false (.loop 0 [(.w (.one (.c (.k (.int .u32 0))))),lK 0, .row 0] (bR .lss 3 10 9 4 0 2 0 0 (.split (.u 6 0) (.need (.idx 5 (.u 4 0)) (.indexAddr 33 (tT 13) (tT 14)) 0 false (.need (.ldrow 5 (.u 4 0) 0 1 false) (.load 255 (tT 15)) 255 false aI0)) (.need (.prim [(W 3 0),(.one (.c (.k (.int .u32 0))))] none) (.binOp .neq 255 (tT 38) (.const (.int .u32 0)) 255) 4 false (.retr [(W 7 0)] 5)))))
theorem Mw:Ic prog f252 (fun _=>none) [.lent 255 1, .v none]=aM3:=by kernel_rfl
structure HV (xs ys:List Nat) (i b:Nat) (os:List Nat):Prop where
 h:iE 1000000000 xs ys 1 i 0 b os
theorem HV.init {xs:List Nat} (hx:Dg xs) (ys:List Nat):HV xs ys 0 0 xs:=⟨iE.init hx ys 1⟩
theorem HV.next {xs ys os:List Nat} {i b x y z b':Nat} (h:HV xs ys i b os) (hx:xs[i]? = some x) (hy:ys[i]?.getD 0=y) (hyB:y<1000000000) (hz:z<1000000000) (hb:b'≤1) (he:z+y+b=x+1000000000*b') :
  HV xs ys (i+1) b' (os.set i z):=by
 have:=h.h.next (by omega) (by omega) hx hy hyB hz hb (by rw [Nat.zero_add,Nat.one_mul,Nat.mod_eq_of_lt hyB];exact he);rw [Nat.zero_add,Nat.one_mul,Nat.div_eq_of_lt hyB] at this;exact ⟨this⟩
theorem HV.fin {xs ys os:List Nat} {i b:Nat} (h:HV xs ys i b os) (hle:lv ys≤lv xs) (he:b=0∧ys.length≤i∨i=xs.length∧ys.length≤xs.length):lv os+lv ys=lv xs:=by
 have h1:=h.h.eq;rw [Nat.one_mul,Nat.zero_add] at h1;rcases he with ⟨rfl,hl⟩ | ⟨rfl,hl⟩
 ·rw [Nat.mul_zero,Nat.add_zero,List.take_of_length_le hl] at h1
  have e:∀ l:List Nat,i≤l.length→lv l=lv (l.take i)+1000000000^i*lv (l.drop i):=fun l hl=>by
   conv=>lhs;rw [←List.take_append_drop i l]
   rw [uU,List.length_take,Nat.min_eq_left hl]
  rw [e os (by rw [h.h.len];exact h.h.le),e xs h.h.le,h.h.rest];simp only [lv] at h1 ⊢;omega
 ·rw [List.take_of_length_le (by rw [h.h.len];omega),List.take_length,List.take_of_length_le hl] at h1;have h2:=DB.lt (by omega) h.h.dg;rw [h.h.len] at h2;have hb:=h.h.b1;rcases (by omega:b=0∨b=1) with rfl | rfl
  ·show val _ os+val _ ys=val _ xs;omega
  ·have hle:val 1000000000 ys≤val 1000000000 xs:=hle;omega
theorem kV {a b:Nat} (h:a≤b):(dg a).length≤(dg b).length:=jG (by omega) (Nat.lt_of_le_of_lt h (jY (by omega) b))
theorem Hd (a b:Nat) (hab:b≤a) (ha:0<a) (hs:(dg a).length<1099511627776):aK prog 194 [(mT a:aG),(mT b:aG)] (.ret [mT (a-b)]):=by
 refine aD (args:=[.v (some 1), .v (some 1)]) (ins:=[.v (mT a), .v (mT b)]) (hints:=(fun _=>none)) fo (by kernel_rfl) func194 ⟨rfl,rfl,trivial⟩ ?_;rw [af7];dsimp only [List.map,In.env,aA,aB];have hlen:=kV hab;have hane:dg a ≠ []:=fun e=>by have:=zW.1 e;omega
 refine vn (aQ dE (List.length_map _)) rfl ?_;dsimp only [aA,aB];refine BX (f:=fun d:Nat=>[aI.int .u32 (d:Int)]) 0 rfl rfl rfl rfl (by omega) (by simp only [maxLen];omega) ?_;dsimp only [aA,aB];refine QW (xs:=dg a) (ws:=dg a) (fun _=>rfl) rfl rfl dE (by simp) (by simpa using hane) (by simp) ?_;dsimp only [aA,aB];refine Ll rfl (List.length_map _) ?_;dsimp only [aA,aB];refine bF {g:Nat×Nat×List Nat // HV (dg a) (dg b) g.1 g.2.1 g.2.2} (fun g=>[.one (.int .u32 g.1.2.1), .one (.int .i64 g.1.1), .rows (rT g.1.2.2)]) (fun g=>(dg a).length-g.1.1) ⟨(0,0,dg a),HV.init (jV a) _⟩ aO.rfl (fun _=>rfl) ?_;rintro ⟨⟨i,c,os⟩,hI⟩;dsimp only [aA,aB] at hI ⊢;have hol:=hI.h.len;have hil:=hI.h.le;have hc:=hI.h.b1;have hle:lv (dg b)≤lv (dg a):=by rw [gD,gD];exact hab
 have fin:(c=0∧(dg b).length≤i∨i=(dg a).length∧(dg b).length≤(dg a).length)→lv os=a-b:=fun h=>by
  have:=hI.fin hle h;rw [gD,gD] at this;omega
 refine vn bE rfl ?_;dsimp only [aA,aB];refine vs _ rfl (fun h6=>?_) (fun h6=>?_)
 ·have hx:(dg a)[i]? = some ((dg a)[i]'(by omega)):=List.getElem?_eq_getElem (by omega);generalize (dg a)[i]'(by omega)=x at hx;have hxB:=(jV a).get hx;have ho:=hI.h.get hx;refine vn (aQ dE (List.length_map _)) rfl ?_;dsimp only [aA,aB];refine vn bE rfl ?_;dsimp only [aA,aB];refine vs _ rfl (fun h9=>?_) (fun h9=>?_)
  ·have hy:(dg b)[i]? = some ((dg b)[i]'(by omega)):=List.getElem?_eq_getElem (by omega);generalize (dg b)[i]'(by omega)=y at hy;have hyB:=(jV b).get hy;refine vn (aY dE (by omega) (by omega) hy) rfl ?_;dsimp only [aA,aB];refine vn (bH yY) rfl ?_;dsimp only [aA,aB];refine vn (lE (by omega) (by omega)) rfl ?_;dsimp only [aA,aB];refine cV rfl rfl (by omega) (by first | omega | (rw [List.length_set];omega)) ?_;refine qQ rfl rfl (by omega) (by omega) ho rfl ?_;dsimp only [aA,aB];refine vn bE rfl ?_;dsimp only [aA,aB];refine vs _ rfl (fun h16=>?_) (fun h16=>?_)
   ·refine cV rfl rfl (by omega) (by first | omega | (rw [List.length_set];omega)) ?_;refine qQ rfl rfl (by omega) (by omega) ho rfl ?_;dsimp only [aA,aB];refine vn (lE (by omega) (by omega)) rfl ?_;dsimp only [aA,aB];refine cV rfl rfl (by omega) (by first | omega | (rw [List.length_set];omega)) ?_;refine lY (d':=x+1000000000) rfl rfl (by omega) (by omega) ho rfl ?_;dsimp only [aA,aB];refine cV rfl rfl (by omega) (by first | omega | (rw [List.length_set];omega)) ?_;refine Uw (d:=x+1000000000) rfl rfl (by omega) (by omega) (List.getElem?_set_self (by omega)) (.inr rfl) rfl ?_;dsimp only [aA,aB];refine vn (lI (by omega) (by omega)) rfl ?_;dsimp only [aA,aB];refine cV rfl rfl (by omega) (by first | omega | (rw [List.length_set];omega)) ?_;refine lY (d:=x+1000000000) (d':=x+1000000000-(y+c)) rfl rfl (by omega) (by omega) (List.getElem?_set_self (by omega)) ?_ ?_
    ·show [aI.int .u32 _] = [aI.int .u32 _]
     congr 2;omega
    rw [List.set_set];dsimp only [aA,aB];refine vn (aE (by omega) (by omega)) rfl ?_;dsimp only [aA,aB];exact aU rfl ⟨⟨(i+1,1,os.set i (x+1000000000-(y+c))),hI.next (b':=1) (z:=x+1000000000-(y+c)) hx (by rw [hy];rfl) hyB (by omega) (by omega) (by omega)⟩,aO.rfl,by show (dg a).length-(i+1)<(dg a).length-i;omega⟩
   refine cV rfl rfl (by omega) (by first | omega | (rw [List.length_set];omega)) ?_;refine qQ rfl rfl (by omega) (by omega) ho rfl ?_;dsimp only [aA,aB];refine vn (lI (by omega) (by omega)) rfl ?_;dsimp only [aA,aB];refine cV rfl rfl (by omega) (by first | omega | (rw [List.length_set];omega)) ?_;refine lY (d':=x-(y+c)) rfl rfl (by omega) (by omega) ho ?_ ?_
   ·show [aI.int .u32 _] = [aI.int .u32 _]
    congr 2;omega
   dsimp only [aA,aB];refine vn (aE (by omega) (by omega)) rfl ?_;dsimp only [aA,aB];exact aU rfl ⟨⟨(i+1,0,os.set i (x-(y+c))),hI.next (b':=0) (z:=x-(y+c)) hx (by rw [hy];rfl) hyB (by omega) (by omega) (by omega)⟩,aO.rfl,by show (dg a).length-(i+1)<(dg a).length-i;omega⟩
  refine vn bW rfl ?_;dsimp only [aA,aB];refine vs _ rfl (fun h37=>?_) (fun h37=>?_)
  ·refine aC (iO os hI.h.dg (by omega)) rfl ?_;dsimp only [aA,aB];refine aL ?_;rw [fin (.inl (by omega))];rfl
  have hnone:(dg b)[i]? = none:=List.getElem?_eq_none_iff.2 (by omega);refine cV rfl rfl (by omega) (by first | omega | (rw [List.length_set];omega)) ?_;refine qQ rfl rfl (by omega) (by omega) ho rfl ?_;dsimp only [aA,aB];refine vn bE rfl ?_;dsimp only [aA,aB];refine vs _ rfl (fun h43=>?_) (fun h43=>?_)
  ·refine cV rfl rfl (by omega) (by first | omega | (rw [List.length_set];omega)) ?_;refine qQ rfl rfl (by omega) (by omega) ho rfl ?_;dsimp only [aA,aB];refine vn (lE (by omega) (by omega)) rfl ?_;dsimp only [aA,aB];refine cV rfl rfl (by omega) (by first | omega | (rw [List.length_set];omega)) ?_;refine lY (d':=x+1000000000) rfl rfl (by omega) (by omega) ho rfl ?_;dsimp only [aA,aB];refine cV rfl rfl (by omega) (by first | omega | (rw [List.length_set];omega)) ?_;refine Uw (d:=x+1000000000) rfl rfl (by omega) (by omega) (List.getElem?_set_self (by omega)) (.inr rfl) rfl ?_;dsimp only [aA,aB];refine vn (lI (by omega) (by omega)) rfl ?_;dsimp only [aA,aB];refine cV rfl rfl (by omega) (by first | omega | (rw [List.length_set];omega)) ?_;refine lY (d:=x+1000000000) (d':=x+1000000000-c) rfl rfl (by omega) (by omega) (List.getElem?_set_self (by omega)) ?_ ?_
   ·show [aI.int .u32 _] = [aI.int .u32 _]
    congr 2;omega
   rw [List.set_set];dsimp only [aA,aB];refine vn (aE (by omega) (by omega)) rfl ?_;dsimp only [aA,aB];exact aU rfl ⟨⟨(i+1,1,os.set i (x+1000000000-c)),hI.next (b':=1) (z:=x+1000000000-c) (y:=0) hx (by rw [hnone];rfl) (by omega) (by omega) (by omega) (by omega)⟩,aO.rfl,by show (dg a).length-(i+1)<(dg a).length-i;omega⟩
  refine cV rfl rfl (by omega) (by first | omega | (rw [List.length_set];omega)) ?_;refine qQ rfl rfl (by omega) (by omega) ho rfl ?_;dsimp only [aA,aB];refine vn (lI (by omega) (by omega)) rfl ?_;dsimp only [aA,aB];refine cV rfl rfl (by omega) (by first | omega | (rw [List.length_set];omega)) ?_;refine lY (d':=x-c) rfl rfl (by omega) (by omega) ho ?_ ?_
  ·show [aI.int .u32 _] = [aI.int .u32 _]
   congr 2;omega
  dsimp only [aA,aB];refine vn (aE (by omega) (by omega)) rfl ?_;dsimp only [aA,aB];exact aU rfl ⟨⟨(i+1,0,os.set i (x-c)),hI.next (b':=0) (z:=x-c) (y:=0) hx (by rw [hnone];rfl) (by omega) (by omega) (by omega) (by omega)⟩,aO.rfl,by show (dg a).length-(i+1)<(dg a).length-i;omega⟩
 refine aC (iO os hI.h.dg (by omega)) rfl ?_;dsimp only [aA,aB];refine aL ?_;rw [fin (.inr ⟨by omega,hlen⟩)];rfl
theorem MZ {b:Nat} {p:Prop} [Decidable p] (h:b=if p then 1 else 0):decide ((b:Int)≠0)=decide p:=by
 subst h;by_cases hp:p<;>simp [hp]
set_option maxHeartbeats 1000000 in
theorem Lu (xs ys:List Nat) (t:Nat) (hx:Dg xs) (hy:Dg ys) (ht:t<1000000000) (hl:ys.length<xs.length) (hs:xs.length<1099511627776):uM prog 251 255 1 [] [(.one (.slice 1 (rT ys)):aG),(.one (.int .u64 t):aG)] (rT xs) [.one (.bool (decide (lv xs<t*lv ys)))] (rT (pd 1000000000 xs.length (lv xs+1000000000^xs.length*(if lv xs<t*lv ys then 1 else 0)-t*lv ys))):=by
 refine Cd (a1:=[]) (a2:=[.v none, .v none]) (i1:=[]) (i2:=[.v (.one (.slice 1 (rT ys))), .v (.one (.int .u64 t))]) (hints:=(fun _=>none)) fo (by kernel_rfl) func251 trivial ⟨rfl,rfl,trivial⟩ (by kernel_rfl) ?_ ?_ ?_ ?_
 ·simp [rT]
 ·simp [rT]
 ·simp [rT]
 dsimp only [aA,aB];rw [Mz];dsimp only [List.map,In.env,aA,aB];refine Ll rfl (List.length_map _) ?_;dsimp only [aA,aB];refine bF {g:Nat×Nat×Nat×List Nat // iE 1000000000 xs ys t g.1 g.2.1 g.2.2.1 g.2.2.2} (fun g=>[.one (.int .u64 g.1.2.1), .one (.int .i64 g.1.2.2.1), .one (.int .i64 g.1.1), .rows (rT g.1.2.2.2)]) (fun g=>xs.length-g.1.1) ⟨(0,0,0,xs),iE.init hx _ _⟩ aO.rfl (fun _=>rfl) ?_;rintro ⟨⟨i,c,b,os⟩,hI⟩;dsimp only [aA,aB] at hI ⊢;have hol:=hI.len;have hil:=hI.le;have hc:=hI.c1;have hb:=hI.b1;refine vn bE rfl ?_;dsimp only [aA,aB];refine vs _ rfl (fun h3=>?_) (fun h3=>?_)
 ·have hgx:xs[i]? = some (xs[i]'(by omega)):=List.getElem?_eq_getElem (by omega);generalize xs[i]'(by omega)=x at hgx;have hxB:=hx.get hgx;have ho:=hI.get hgx;refine vn (aQ dE (List.length_map _)) rfl ?_;dsimp only [aA,aB];refine vn bE rfl ?_;dsimp only [aA,aB];refine vs _ rfl (fun h6=>?_) (fun h6=>?_)
  ·have hgy:ys[i]? = some (ys[i]'(by omega)):=List.getElem?_eq_getElem (by omega);generalize ys[i]'(by omega)=y at hgy;have hyB:=hy.get hgy;have hty:t*y≤999999999*999999999:=Nat.mul_le_mul (by omega) (by omega);obtain ⟨w,hw⟩:∃ w,c+t*y=w:=⟨_,rfl⟩
   have hwB:w<1000000000*1000000000:=by omega
   have hm:∀ z b':Nat,z<1000000000→b'≤1→z+w%1000000000+b=x+1000000000*b'→iE 1000000000 xs ys t (i+1) (w/1000000000) b' (os.set i z):=fun z b' h1 h2 h3=>by
    have:=hI.next (by omega) ht hgx (by rw [hgy];rfl) hyB h1 h2 (by rw [hw];exact h3);rw [hw] at this;exact this
   refine vn (aY dE (by omega) (by omega) hgy) rfl ?_;dsimp only [aA,aB];refine vn (bH yY) rfl ?_;dsimp only [aA,aB];refine vn (sU ⟨_,gF⟩ gT (by omega) (by omega)) rfl ?_;dsimp only [aA,aB];refine vn (sO (c:=((t*y:Nat):Int)) (by rw [←Int.natCast_mul,sV]<;>omega)) rfl ?_;dsimp only [aA,aB];refine vn (eA (c:=(w:Int)) (by rw [sV]<;>omega)) rfl ?_;dsimp only [aA,aB];refine cV rfl rfl (by omega) (by first | omega | (rw [List.length_set];omega)) ?_;refine qQ rfl rfl (by omega) (by omega) ho rfl ?_;dsimp only [aA,aB];refine vn (xH ⟨_,gF⟩ Vg (by omega) (by omega)) rfl ?_;dsimp only [aA,aB];refine vn (gK (by omega) (by omega)) rfl ?_;dsimp only [aA,aB];refine vn (xH ⟨_,gT⟩ Vg (by omega) (by omega)) rfl ?_;dsimp only [aA,aB];refine vn (aJ (by omega) (by omega)) rfl ?_;dsimp only [aA,aB];refine vn (aJ (by omega) (by omega)) rfl ?_;dsimp only [aA,aB];refine vn (FN (by omega) (by omega) (by omega)) rfl ?_;dsimp only [aA,aB];refine vn bE rfl ?_;dsimp only [aA,aB];refine vs _ rfl (fun h21=>?_) (fun h21=>?_)
   ·refine vn (aE (by omega) (by omega)) rfl ?_;dsimp only [aA,aB];refine vn (pZ ⟨_,Vg⟩ gF (by omega) (by omega)) rfl ?_;dsimp only [aA,aB];refine cV rfl rfl (by omega) (by first | omega | (rw [List.length_set];omega)) ?_;refine lY (d':=x+1000000000-w%1000000000-b) rfl rfl (by omega) (by omega) ho ?_ ?_
    ·show [aI.int .u32 _] = [aI.int .u32 _]
     congr 2;omega
    dsimp only [aA,aB];refine vn (aE (by omega) (by omega)) rfl ?_;dsimp only [aA,aB];exact aU rfl ⟨⟨(i+1,w/1000000000,1,os.set i (x+1000000000-w%1000000000-b)),hm _ 1 (by omega) (by omega) (by omega)⟩,aO.rfl,by show xs.length-(i+1)<xs.length-i;omega⟩
   refine vn (pZ ⟨_,Vg⟩ gF (by omega) (by omega)) rfl ?_;dsimp only [aA,aB];refine cV rfl rfl (by omega) (by first | omega | (rw [List.length_set];omega)) ?_;refine lY (d':=x-w%1000000000-b) rfl rfl (by omega) (by omega) ho ?_ ?_
   ·show [aI.int .u32 _] = [aI.int .u32 _]
    congr 2;omega
   dsimp only [aA,aB];refine vn (aE (by omega) (by omega)) rfl ?_;dsimp only [aA,aB];exact aU rfl ⟨⟨(i+1,w/1000000000,0,os.set i (x-w%1000000000-b)),hm _ 0 (by omega) (by omega) (by omega)⟩,aO.rfl,by show xs.length-(i+1)<xs.length-i;omega⟩
  have hnone:ys[i]? = none:=List.getElem?_eq_none_iff.2 (by omega)
  have hm:∀ z b':Nat,z<1000000000→b'≤1→z+c%1000000000+b=x+1000000000*b'→iE 1000000000 xs ys t (i+1) (c/1000000000) b' (os.set i z):=fun z b' h1 h2 h3=>by
   have:=hI.next (y:=0) (by omega) ht hgx (by rw [hnone];rfl) (by omega) h1 h2 (by rw [Nat.mul_zero,Nat.add_zero];exact h3);rw [Nat.mul_zero,Nat.add_zero] at this;exact this
  refine cV rfl rfl (by omega) (by first | omega | (rw [List.length_set];omega)) ?_;refine qQ rfl rfl (by omega) (by omega) ho rfl ?_;dsimp only [aA,aB];refine vn (xH ⟨_,gF⟩ Vg (by omega) (by omega)) rfl ?_;dsimp only [aA,aB];refine vn (gK (by omega) (by omega)) rfl ?_;dsimp only [aA,aB];refine vn (xH ⟨_,gT⟩ Vg (by omega) (by omega)) rfl ?_;dsimp only [aA,aB];refine vn (aJ (by omega) (by omega)) rfl ?_;dsimp only [aA,aB];refine vn (aJ (by omega) (by omega)) rfl ?_;dsimp only [aA,aB];refine vn (FN (by omega) (by omega) (by omega)) rfl ?_;dsimp only [aA,aB];refine vn bE rfl ?_;dsimp only [aA,aB];refine vs _ rfl (fun h42=>?_) (fun h42=>?_)
  ·refine vn (aE (by omega) (by omega)) rfl ?_;dsimp only [aA,aB];refine vn (pZ ⟨_,Vg⟩ gF (by omega) (by omega)) rfl ?_;dsimp only [aA,aB];refine cV rfl rfl (by omega) (by first | omega | (rw [List.length_set];omega)) ?_;refine lY (d':=x+1000000000-c%1000000000-b) rfl rfl (by omega) (by omega) ho ?_ ?_
   ·show [aI.int .u32 _] = [aI.int .u32 _]
    congr 2;omega
   dsimp only [aA,aB];refine vn (aE (by omega) (by omega)) rfl ?_;dsimp only [aA,aB];exact aU rfl ⟨⟨(i+1,c/1000000000,1,os.set i (x+1000000000-c%1000000000-b)),hm _ 1 (by omega) (by omega) (by omega)⟩,aO.rfl,by show xs.length-(i+1)<xs.length-i;omega⟩
  refine vn (pZ ⟨_,Vg⟩ gF (by omega) (by omega)) rfl ?_;dsimp only [aA,aB];refine cV rfl rfl (by omega) (by first | omega | (rw [List.length_set];omega)) ?_;refine lY (d':=x-c%1000000000-b) rfl rfl (by omega) (by omega) ho ?_ ?_
  ·show [aI.int .u32 _] = [aI.int .u32 _]
   congr 2;omega
  dsimp only [aA,aB];refine vn (aE (by omega) (by omega)) rfl ?_;dsimp only [aA,aB];exact aU rfl ⟨⟨(i+1,c/1000000000,0,os.set i (x-c%1000000000-b)),hm _ 0 (by omega) (by omega) (by omega)⟩,aO.rfl,by show xs.length-(i+1)<xs.length-i;omega⟩
 refine vn iP rfl ?_;dsimp only [aA,aB];have hie:i=xs.length:=by omega
 subst hie;obtain ⟨hb1,ho1⟩:=hI.fin (by omega) hx hl;rw [hb1] at ho1;exact JN (by rw [←show rT os=rT _ from congrArg rT ho1];rfl) (congrArg (fun q=>[aG.one (.bool q)]) (MZ hb1))
structure Eg (xs ys:List Nat) (i c:Nat) (os:List Nat):Prop where
 le:i≤xs.length
 c1:c≤1
 len:os.length=xs.length
 dg:DB 1000000000 os
 rest:os.drop i=xs.drop i
 eq:lv (os.take i)+1000000000^i*c=lv (xs.take i)+lv (ys.take i)
theorem Eg.init {xs:List Nat} (hx:Dg xs) (ys:List Nat):Eg xs ys 0 0 xs:=⟨Nat.zero_le _,by omega,rfl,hx,rfl,by simp [lv,val]⟩
theorem Eg.get {xs ys os:List Nat} {i c x:Nat} (h:Eg xs ys i c os) (hx:xs[i]? = some x):os[i]? = some x:=by
 have:=congrArg (fun l=>l[0]?) h.rest;simp only [List.getElem?_drop,Nat.add_zero] at this;rw [this,hx]
theorem Eg.next {xs ys os:List Nat} {i c x y c' z:Nat} (h:Eg xs ys i c os) (hx:xs[i]? = some x) (hy:ys[i]?.getD 0=y) (hz:z<1000000000) (hc:c'≤1) (he:z+1000000000*c'=x+c+y):Eg xs ys (i+1) c' (os.set i z):=by
 have hi:i<xs.length:=(List.getElem?_eq_some_iff.1 hx).1;refine ⟨hi,hc,by rw [List.length_set];exact h.len,h.dg.set hz,?_,?_⟩
 ·rw [List.drop_set_of_lt (by omega)];have:=congrArg (List.drop 1) h.rest
  simpa [List.drop_drop] using this
 ·have h1:=h.eq;have h2:=congrArg (fun q=>1000000000^i*q) he;have e1:lv ((os.set i z).take (i+1))=lv (os.take i)+1000000000^i*z:=kP (by rw [h.len];exact hi);have e2:lv (xs.take (i+1))=lv (xs.take i)+1000000000^i*x:=fO hx;have e3:lv (ys.take (i+1))=lv (ys.take i)+1000000000^i*y:=iX hy;rw [e1,e2,e3,Nat.pow_succ,Nat.mul_assoc];simp only [Nat.mul_add] at h2;omega
theorem Eg.fin {xs ys os:List Nat} {c:Nat} (h:Eg xs ys xs.length c os) (hl:ys.length<xs.length) :
  c=(if 1000000000^xs.length≤lv xs+lv ys then 1 else 0)∧os=pd 1000000000 xs.length (lv xs+lv ys-1000000000^xs.length*c):=by
 have h1:=h.eq;rw [List.take_of_length_le (by rw [h.len];omega),List.take_length,List.take_of_length_le (by omega)] at h1;have h2:lv os<_:=DB.lt (by omega) h.dg;rw [h.len] at h2;have hc:=h.c1
 constructor
 ·split<;>rcases (by omega:c=0∨c=1) with rfl | rfl<;>omega
 ·refine JG (by omega) h.dg h.len ?_;show lv os=_;omega
theorem Mu (xs ys:List Nat) (hx:Dg xs) (hy:Dg ys) (hl:ys.length<xs.length) (hs:xs.length<1099511627776):uM prog 252 255 1 [] [(.one (.slice 1 (rT ys)):aG)] (rT xs) [.one (.bool (decide (1000000000^xs.length≤lv xs+lv ys)))] (rT (pd 1000000000 xs.length (lv xs+lv ys-1000000000^xs.length*(if 1000000000^xs.length≤lv xs+lv ys then 1 else 0)))):=by
 refine Cd (a1:=[]) (a2:=[.v none]) (i1:=[]) (i2:=[.v (.one (.slice 1 (rT ys)))]) (hints:=(fun _=>none)) fo (by kernel_rfl) func252 trivial ⟨rfl,trivial⟩ (by kernel_rfl) ?_ ?_ ?_ ?_
 ·simp [rT]
 ·simp [rT]
 ·simp [rT]
 dsimp only [aA,aB];rw [Mw];dsimp only [List.map,In.env,aA,aB];refine Ll rfl (List.length_map _) ?_;dsimp only [aA,aB];refine bF {g:Nat×Nat×List Nat // Eg xs ys g.1 g.2.1 g.2.2} (fun g=>[.one (.int .u32 g.1.2.1), .one (.int .i64 g.1.1), .rows (rT g.1.2.2)]) (fun g=>xs.length-g.1.1) ⟨(0,0,xs),Eg.init hx _⟩ aO.rfl (fun _=>rfl) ?_;rintro ⟨⟨i,c,os⟩,hI⟩;dsimp only [aA,aB] at hI ⊢;have hol:=hI.len;have hil:=hI.le;have hc:=hI.c1;refine vn bE rfl ?_;dsimp only [aA,aB];refine vs _ rfl (fun h3=>?_) (fun h3=>?_)
 ·have hgx:xs[i]? = some (xs[i]'(by omega)):=List.getElem?_eq_getElem (by omega);generalize xs[i]'(by omega)=x at hgx;have hxB:=hx.get hgx;have ho:=hI.get hgx;refine cV rfl rfl (by omega) (by first | omega | (rw [List.length_set];omega)) ?_;refine qQ rfl rfl (by omega) (by omega) ho rfl ?_;dsimp only [aA,aB];refine vn (lE (by omega) (by omega)) rfl ?_;dsimp only [aA,aB];refine vn (aQ dE (List.length_map _)) rfl ?_;dsimp only [aA,aB];refine vn bE rfl ?_;dsimp only [aA,aB];refine vs _ rfl (fun h9=>?_) (fun h9=>?_)
  ·have hgy:ys[i]? = some (ys[i]'(by omega)):=List.getElem?_eq_getElem (by omega);generalize ys[i]'(by omega)=y at hgy;have hyB:=hy.get hgy;refine vn (aY dE (by omega) (by omega) hgy) rfl ?_;dsimp only [aA,aB];refine vn (bH yY) rfl ?_;dsimp only [aA,aB];refine vn (lE (by omega) (by omega)) rfl ?_;dsimp only [aA,aB];refine vn eS rfl ?_;dsimp only [aA,aB];refine vs _ rfl (fun h14=>?_) (fun h14=>?_)
   ·refine vn (lI (by omega) (by omega)) rfl ?_;dsimp only [aA,aB];refine cV rfl rfl (by omega) (by first | omega | (rw [List.length_set];omega)) ?_;refine lY (d':=x+c+y-1000000000) rfl rfl (by omega) (by omega) ho ?_ ?_
    ·show [aI.int .u32 _] = [aI.int .u32 _]
     congr 2;omega
    dsimp only [aA,aB];refine vn (aE (by omega) (by omega)) rfl ?_;dsimp only [aA,aB];exact aU rfl ⟨⟨(i+1,1,os.set i (x+c+y-1000000000)),hI.next (z:=x+c+y-1000000000) (c':=1) (y:=y) hgx (by rw [hgy];rfl) (by omega) (by omega) (by omega)⟩,aO.rfl,by show xs.length-(i+1)<xs.length-i;omega⟩
   refine cV rfl rfl (by omega) (by first | omega | (rw [List.length_set];omega)) ?_;refine lY (d':=x+c+y) rfl rfl (by omega) (by omega) ho ?_ ?_
   ·show [aI.int .u32 _] = [aI.int .u32 _]
    congr 2
   dsimp only [aA,aB];refine vn (aE (by omega) (by omega)) rfl ?_;dsimp only [aA,aB];exact aU rfl ⟨⟨(i+1,0,os.set i (x+c+y)),hI.next (z:=x+c+y) (c':=0) (y:=y) hgx (by rw [hgy];rfl) (by omega) (by omega) (by omega)⟩,aO.rfl,by show xs.length-(i+1)<xs.length-i;omega⟩
  have hnone:ys[i]? = none:=List.getElem?_eq_none_iff.2 (by omega);refine vn eS rfl ?_;dsimp only [aA,aB];refine vs _ rfl (fun h25=>?_) (fun h25=>?_)
  ·refine vn (lI (by omega) (by omega)) rfl ?_;dsimp only [aA,aB];refine cV rfl rfl (by omega) (by first | omega | (rw [List.length_set];omega)) ?_;refine lY (d':=x+c-1000000000) rfl rfl (by omega) (by omega) ho ?_ ?_
   ·show [aI.int .u32 _] = [aI.int .u32 _]
    congr 2;omega
   dsimp only [aA,aB];refine vn (aE (by omega) (by omega)) rfl ?_;dsimp only [aA,aB];exact aU rfl ⟨⟨(i+1,1,os.set i (x+c-1000000000)),hI.next (z:=x+c-1000000000) (c':=1) (y:=0) hgx (by rw [hnone];rfl) (by omega) (by omega) (by omega)⟩,aO.rfl,by show xs.length-(i+1)<xs.length-i;omega⟩
  refine cV rfl rfl (by omega) (by first | omega | (rw [List.length_set];omega)) ?_;refine lY (d':=x+c) rfl rfl (by omega) (by omega) ho ?_ ?_
  ·show [aI.int .u32 _] = [aI.int .u32 _]
   congr 2
  dsimp only [aA,aB];refine vn (aE (by omega) (by omega)) rfl ?_;dsimp only [aA,aB];exact aU rfl ⟨⟨(i+1,0,os.set i (x+c)),hI.next (z:=x+c) (c':=0) (y:=0) hgx (by rw [hnone];rfl) (by omega) (by omega) (by omega)⟩,aO.rfl,by show xs.length-(i+1)<xs.length-i;omega⟩
 refine vn iP rfl ?_;dsimp only [aA,aB];have hie:i=xs.length:=by omega
 subst hie;obtain ⟨hb1,ho1⟩:=hI.fin hl;rw [hb1] at ho1;exact JN (by rw [←show rT os=rT _ from congrArg rT ho1];rfl) (congrArg (fun q=>[aG.one (.bool q)]) (MZ hb1))
open Go Go.Proofs Tryz Ord
def aj6:Tr:=.need (.prim [(W 52 0)] none) (.unOp .not 4 (tT 120)) 4 false (.split (.u 55 0) (.need (.rop 54 255 1 (some ((.u 27 0),(.u 47 0))) [] [(W 14 0)] [none]) (.call ⟨.value (.func 252),#[(tT 124),(tT 125)],#[33,33]⟩) 4 true (.need (.prim [(W 53 0),(.one (.c (.k (.int .u64 1))))] none) (.binOp .sub 254 (tT 122) (.const (.int .u64 1)) 254) 254 false (.back 1 [lV 56 0,lV 58 0, .row 57]))) (.need (.prim [(W 53 0)] none) (.convert 254 255 (tT 129)) 255 false (.need (.idx 28 (.u 27 0)) (.indexAddr 33 (tT 127) (tT 128)) 0 false (.need (.strow 28 1 (.u 27 0) 0 [(.u 56 0)]) (.store 255 (tT 131) (tT 130)) 0 false (bB .sub 3 77 1 27 0 3 (.back 0 [lV 58 0, .row 57, .row 54]))))))
def aq4:Tr:=.need (.rop 29 255 1 (some ((.u 27 0),(.u 47 0))) [] [(W 14 0),(W 45 0)] [none]) (.call ⟨.value (.func 251),#[(tT 116),(tT 117),(tT 118)],#[33,33,254]⟩) 4 true (.split (.u 50 0) (.loop 1 [(.w (.one (.c (.k (.bool false))))),lV 45 0, .row 51] aj6) (.need (.prim [(W 45 0)] none) (.convert 254 255 (tT 129)) 255 false (.need (.idx 28 (.u 27 0)) (.indexAddr 33 (tT 127) (tT 128)) 0 false (.need (.strow 28 1 (.u 27 0) 0 [(.u 52 0)]) (.store 255 (tT 131) (tT 130)) 0 false (bB .sub 3 77 1 27 0 3 (.back 0 [lV 54 0, .row 53, .row 51]))))))
def ah2:Tr:=bR .quo 254 96 102 39 0 43 0 254 (.need (.prim [(W 44 0),(.one (.c (.k (.int .u64 999999999))))] none) (.call ⟨.builtin .min,#[(tT 103),(.const (.int .u64 999999999))],#[254,254]⟩) 254 false (bR .add 3 107 108 27 0 15 0 3 (bB .add 3 109 1 46 0 3 (bR .add 3 111 112 27 0 15 0 3 (bB .add 3 113 1 48 0 3 (.need (.view 29 (.u 27 0) (.u 47 0) (.u 49 0)) (.slice 33 (tT 105) (some (tT 106)) (some (tT 110)) (some (tT 114))) 33 false aq4))))))
def at5:Tr:=.need (.ldrow 29 (.u 36 0) 0 1 false) (.load 255 (tT 92)) 255 false (.need (.prim [(W 37 0)] none) (.convert 255 254 (tT 93)) 254 false (bR .add 254 86 94 34 0 38 0 254 (bB .sub 3 98 1 15 0 3 (gE 14 0 40 0 33 97 99 (eY 41 0 none 255 100 (.need (.prim [(W 42 0)] none) (.convert 255 254 (tT 101)) 254 false ah2))))))
def aw5:Tr:=.need (.idx 29 (.u 31 0)) (.indexAddr 33 (tT 79) (tT 82)) 0 false (.need (.ldrow 29 (.u 31 0) 0 1 false) (.load 255 (tT 83)) 255 false (.need (.prim [(W 32 0)] none) (.convert 255 254 (tT 84)) 254 false (.need (.prim [(W 33 0),(.one (.c (.k (.int .u64 1000000000))))] none) (.binOp .mul 254 (tT 85) (.const (.int .u64 1000000000)) 254) 254 false (bR .add 3 88 89 27 0 15 0 3 (bB .sub 3 90 1 35 0 3 (.need (.idx 29 (.u 36 0)) (.indexAddr 33 (tT 87) (tT 91)) 0 false at5))))))
def an1:Tr:=.loop 0 [lV 26 0, .row 24, .row 21] (bB .geq 3 75 0 27 0 4 (.split (.u 30 0) (bR .add 3 80 81 27 0 15 0 3 aw5) (aP 197 [(.one (.c (.sr 1 29)))] [(some 1)] [133] [33] 35 false (aP 193 [(G1 31),(G1 13)] [(some 1),(some 1)] [134,135] [35,35] 251 false (aP 197 [(.one (.c (.sr 1 28)))] [(some 1)] [139] [33] 35 false (.ret [(G1 34),(G1 32)]))))))
def ad3:Tr:=aP 118 [(G1 0),(G1 13)] [(some 1)] [62,63] [35,35] 35 true (.need (.rop 18 255 1 none [] [(W 19 0)] [none]) (.call ⟨.builtin .copy,#[(tT 61),(tT 65)],#[33,33]⟩) 3 false (.need (.lenrow 21) (.call ⟨.builtin .len,#[(tT 67)],#[33]⟩) 3 false (bR .sub 3 68 69 22 0 15 0 3 (.need (.make [(.int .u32 0)] 4 (.u 23 0) (.u 23 0)) (.makeSlice 33 (tT 70) (tT 70)) 33 false (.need (.lenrow 24) (.call ⟨.builtin .len,#[(tT 72)],#[33]⟩) 3 false (bB .sub 3 73 1 25 0 3 an1))))))
def aB9:Tr:=.need (.prim [(W 11 0)] none) (.convert 255 254 (tT 47)) 254 false (aP 195 [(W 12 0)] [(some 1)] [48] [254] 35 true (aP 118 [(G1 1),(G1 13)] [(some 1)] [50,51] [35,35] 35 true (cY 14 0 54 33 (cY 0 0 57 33 (bB .add 3 58 1 16 0 3 (.need (.make [(.int .u32 0)] 4 (.u 17 0) (.u 17 0)) (.makeSlice 33 (tT 59) (tT 59)) 33 false ad3))))))
def aE8:Tr:=.split (.u 5 0) (.need (.prim [(W 1 0),(WK 0)] none) (.indexAddr 33 (tT 32) (.const (I3 0))) 0 false (eY 6 0 none 255 33 (aP 250 [(G1 0),(W 7 0)] [(some 1),(some 1)] [30,34] [35,255] 251 true (.ret [(G1 8),(G1 9)])))) (cY 1 0 41 33 (bB .sub 3 42 1 6 0 3 (gE 1 0 7 0 33 39 43 (eY 8 0 none 255 44 (.need (.prim [(W 9 0),(.one (.c (.k (.int .u32 1))))] none) (.binOp .add 255 (tT 45) (.const (.int .u32 1)) 255) 255 false (.need (.prim [(.one (.c (.k (.int .u32 1000000000)))),(W 10 0)] none) (.binOp .quo 255 (.const (.int .u32 1000000000)) (tT 46) 255) 255 false aB9))))))
def aM8:Tr:=aP 119 [(G1 0),(G1 1)] [none] [19,20] [35,35] 3 true (bB .lss 3 21 0 2 0 4 (.split (.u 3 0) (.ret [(.agg [tN]),(G1 0)]) (cY 1 0 27 33 (bB .eql 3 28 1 4 0 4 aE8))))
theorem Sg:aN prog f193 (fun _=>none) [.v (some 1), .v (some 1)]=aM8:=by kernel_rfl
theorem sH {a b:Int}:eE a b<0↔a<b:=by unfold eE;split<;>(try split)<;>omega
theorem jB {n:Nat} (h:n=0):aI.Sub (.exact (.slice none 0 0)) (dT n):=by
 subst h;have:dg 0 = []:=dA _;rw [dT,this];exact aI.Sub.nil
theorem pP {n:Nat} (h0:0<n) (h:n<1000000000):dg n = [n]:=by
 rw [dg,fL (by omega) (by omega),Nat.mod_eq_of_lt h,Nat.div_eq_of_lt h,dA]
theorem CB {n k:Nat} (h:n<1000000000^k):(dg n).length≤k:=jG (by omega) h
theorem Gl (n:Nat):n<1000000000^(dg n).length:=jY (by omega) n
theorem QP {n:Nat} (h:n≠0):1000000000^((dg n).length-1)≤n:=fQ (by omega) h
theorem Rq {n i:Nat} (h:i<(dg n).length):(dg n)[i]? = some (n/1000000000^i%1000000000):=by
 have e:(dg n)[i]? = (pd 1000000000 (dg n).length n)[i]?:=congrArg (fun l:List Nat=>l[i]?) (NC (by omega) n);rw [e,Ct _ h]
theorem Kh {n:Nat} (h:0<n):1000000000^(n-1)*1000000000=1000000000^n:=by
 obtain ⟨k,rfl⟩:∃ k,n=k+1:=⟨n-1,by omega⟩
 rw [Nat.add_sub_cancel,Nat.pow_succ]
theorem ax4 {r1 r2 vt:Nat} (h1:r1<1000000000) (h2:r2<1000000000):(r1*1000000000+r2)/vt<1000000000000000000:=
 Nat.lt_of_le_of_lt (Nat.div_le_self _ _) (by omega)
theorem Rk (q:Nat):min (q:Int) 999999999=((min q 999999999:Nat):Int):=by omega
theorem MG {n:Nat} (h:n<1000000000):(n:Int)<4294967296:=by omega
theorem Rb {n:Nat} (h:n<1000000000000000000):(n:Int)<18446744073709551616:=by omega
theorem pA (n:Nat):(0:Int)≤(n:Int):=Int.natCast_nonneg _
theorem aa5 (i:Nat):((i+1:Nat):Int)-1-1=(i:Int)-1:=by omega
theorem at6 {P:Program} {T U ty:Nat} {x y:Operand} {a b:Nat} {a':Int} (ha':a'=a) (hb:0<b) (hc:(a/b:Nat)<1000000000000000000):aZ P (.binOp .quo T x y U) ty [.one (.int .u64 a'), .one (.int .u64 b)] (.one (.int .u64 ((a/b:Nat):Int))):=by
 subst ha';exact qU (by omega) (by rw [Int.tdiv_eq_ediv_of_nonneg (pA _),←Int.natCast_ediv,sV (pA _) (Rb hc)])
theorem XJ (a b:Nat) (hb0:0<b) (hb:b<1000000000) (hs:(dg a).length<549755813888):aK prog 193 [(mT a:aG),(mT b:aG)] (.ret [mT (a/b),mT (a%b)]):=by
 refine aD (args:=[.v (some 1), .v (some 1)]) (ins:=[.v (mT a), .v (mT b)]) (hints:=(fun _=>none)) fo (by kernel_rfl) func193 ⟨rfl,rfl,trivial⟩ ?_;rw [Sg];dsimp only [List.map,In.env,aA,aB];have e1:=pP hb0 hb;refine aC (uJ a b (by rw [e1];simp;omega)) rfl ?_;dsimp only [aA,aB];refine vn bE rfl ?_;dsimp only [aA,aB];rw [show decide (eE (a:Int) (b:Int)<0)=decide (a<b) by rw [decide_eq_decide,sH];omega];refine vs _ rfl (fun h2=>?_) (fun h2=>?_)
 ·refine eN ⟨⟨jB (Nat.div_eq_of_lt h2),trivial⟩,⟨?_,trivial⟩,trivial⟩;rw [Nat.mod_eq_of_lt h2];exact aI.Sub.same
 refine vn (aQ dE (List.length_map _)) rfl ?_;dsimp only [aA,aB];refine vn bW rfl ?_;dsimp only [aA,aB];refine vs _ rfl (fun h6=>?_) (fun h6=>?_)
 ·refine vn (aY dE (by omega) (by omega) (show (dg b)[0]? = some b by rw [e1];rfl)) rfl ?_;dsimp only [aA,aB];refine vn (bH yY) rfl ?_;dsimp only [aA,aB];refine aC (Ih a b hb0 hb (by omega)) rfl ?_;exact aL rfl
 exact absurd (by rw [e1];simp) h6
structure JI (S V L m n:Nat) (os:List Nat) (R:Nat):Prop where
 le:n≤m
 len:os.length=m
 dg:Dg os
 eq:S=R+V*1000000000^n*lv (os.drop n)
 lt:R/1000000000^n<V
 fit:R<1000000000^L
theorem JI.next {S V L m n R g:Nat} {os:List Nat} (h:JI S V L m (n+1) os R) (hV:0<V) (hg:g=R/1000000000^n/V) :
  JI S V L m n (os.set n g) (R%1000000000^n+1000000000^n*(R/1000000000^n%V)):=by
 obtain ⟨h1,h2,h3,h4⟩:=Em (B:=1000000000) (by omega) hV h.eq h.lt;have hn:=h.le;have hlen:=h.len;subst hg;refine ⟨by omega,by rw [List.length_set];exact hlen,h.dg.set h2,?_,h4,?_⟩
 ·rw [HM (x:=R/1000000000^n/V) (by rw [List.getElem?_set_self (by omega)]),List.drop_set_of_lt (by omega)];exact h3
 ·refine Nat.lt_of_le_of_lt ?_ h.fit;have:=Nat.mod_add_div R (1000000000^n);have h5:=Nat.mul_le_mul_left (1000000000^n) (Nat.mod_le (R/1000000000^n) V);omega
def Wj (W X V:Nat) (p:Bool×Nat):Nat:=if p.1 then X%V else X+W-p.2*V
theorem ax1 {R i nv:Nat} (hnv:0<nv) (h:R/1000000000^(i+nv)<1000000000):R/1000000000^(i+nv)%1000000000*1000000000+R/1000000000^(i+nv-1)%1000000000=R/1000000000^i/1000000000^(nv-1):=by
 rw [Nat.mod_eq_of_lt h,Nat.div_div_eq_div_mul,←Nat.pow_add,show i+(nv-1)=i+nv-1 by omega]
 have e:R/1000000000^(i+nv)=R/1000000000^(i+nv-1)/1000000000:=by
  rw [Nat.div_div_eq_div_mul,←Nat.pow_succ];congr 2;omega
 rw [e];have:=Nat.div_add_mod (R/1000000000^(i+nv-1)) 1000000000;omega
theorem OI {b s top:Nat} (hs0:0<s) (hs:s*(top+1)≤1000000000) (htop:top=b/1000000000^((dg b).length-1)) (hb:b≠0):(dg (b*s)).length=(dg b).length:=by
 have hp:0<1000000000^((dg b).length-1):=Nat.pow_pos (by omega)
 have hl:0<(dg b).length:=by
  rcases Nat.eq_zero_or_pos (dg b).length with h | h
  ·exact (hb (zW.1 (List.eq_nil_of_length_eq_zero h))).elim
  ·exact h
 apply Nat.le_antisymm
 ·apply CB
  have h1:b<(top+1)*1000000000^((dg b).length-1):=by
   rw [htop,Nat.mul_comm];exact Nat.lt_mul_div_succ b hp
  calc b*s<(top+1)*1000000000^((dg b).length-1)*s:=Nat.mul_lt_mul_of_pos_right h1 hs0
   _=s*(top+1)*1000000000^((dg b).length-1):=by simp only [Nat.mul_comm,Nat.mul_left_comm,Nat.mul_assoc]
   _≤1000000000*1000000000^((dg b).length-1):=Nat.mul_le_mul_right _ hs
   _=1000000000^(dg b).length:=by rw [Nat.mul_comm,←Nat.pow_succ];congr 1;omega
 ·exact kV (Nat.le_mul_of_pos_right b hs0)
set_option maxHeartbeats 1000000 in
theorem Dn (a b:Nat) (hb0:0<b) (hs:(dg a).length+(dg b).length<274877906944):aK prog 193 [(mT a:aG),(mT b:aG)] (.ret [mT (a/b),mT (a%b)]):=by
 refine aD (args:=[.v (some 1), .v (some 1)]) (ins:=[.v (mT a), .v (mT b)]) (hints:=(fun _=>none)) fo (by kernel_rfl) func193 ⟨rfl,rfl,trivial⟩ ?_;rw [Sg];dsimp only [List.map,In.env,aA,aB];refine aC (uJ a b (by omega)) rfl ?_;dsimp only [aA,aB];refine vn bE rfl ?_;dsimp only [aA,aB];rw [show decide (eE (a:Int) (b:Int)<0)=decide (a<b) by rw [decide_eq_decide,sH];omega];refine vs _ rfl (fun h2=>?_) (fun h2=>?_)
 ·refine eN ⟨⟨jB (Nat.div_eq_of_lt h2),trivial⟩,⟨?_,trivial⟩,trivial⟩;rw [Nat.mod_eq_of_lt h2];exact aI.Sub.same
 have hbl:0<(dg b).length:=by
  rcases Nat.eq_zero_or_pos (dg b).length with h | h
  ·exact (Nat.ne_of_gt hb0 (zW.1 (List.eq_nil_of_length_eq_zero h))).elim
  ·exact h
 have hlen:=kV (Nat.le_of_not_lt h2);refine vn (aQ dE (List.length_map _)) rfl ?_;dsimp only [aA,aB];refine vn bW rfl ?_;dsimp only [aA,aB];refine vs _ rfl (fun h6=>?_) (fun h6=>?_)
 ·have hb:b<1000000000:=by
   have:=Gl b;rw [show (dg b).length=1 by omega] at this;omega
  have e1:=pP hb0 hb;refine vn (aY dE (by omega) (by omega) (show (dg b)[0]? = some b by rw [e1];rfl)) rfl ?_;dsimp only [aA,aB];refine vn (bH yY) rfl ?_;dsimp only [aA,aB];refine aC (Ih a b hb0 hb (by omega)) rfl ?_;exact aL rfl
 obtain ⟨top,htop⟩:∃ t,(dg b)[(dg b).length-1]? = some t:=⟨_,List.getElem?_eq_getElem (by omega)⟩
 have htB:=(jV b).get htop
 have htv:top=b/1000000000^((dg b).length-1):=by
  have h1:=Rq (n:=b) (i:=(dg b).length-1) (by omega);rw [htop] at h1;simp only [Option.some.injEq] at h1;rw [h1,Nat.mod_eq_of_lt];rw [Nat.div_lt_iff_lt_mul (Nat.pow_pos (by omega)),Nat.mul_comm,Kh hbl];exact Gl b
 have ht0:0<top:=by
  rw [htv];exact Nat.div_pos (QP (by omega)) (Nat.pow_pos (by omega))
 obtain ⟨s,hs'⟩:∃ s,1000000000/(top+1)=s:=⟨_,rfl⟩
 have hsle:s*(top+1)≤1000000000:=by rw [←hs'];exact Nat.div_mul_le_self _ _
 have hs0:0<s:=by rw [←hs'];exact Nat.div_pos (by omega) (by omega)
 have hsB:s<1000000000:=by
  rw [←hs'];exact Nat.div_lt_self (by omega) (by omega)
 have hvl:=OI hs0 hsle htv (by omega);refine vn (aQ dE (List.length_map _)) rfl ?_;dsimp only [aA,aB];refine vn (aJ (by omega) (by omega)) rfl ?_;dsimp only [aA,aB];refine vn (aY dE (by omega) (by omega) htop) rfl ?_;dsimp only [aA,aB];refine vn (bH yY) rfl ?_;dsimp only [aA,aB];refine vn (lE (by omega) (by omega)) rfl ?_;dsimp only [aA,aB];refine vn (qU (c:=(s:Int)) (by omega) (by rw [Int.tdiv_eq_ediv_of_nonneg (by omega),show ((1000000000:Int)/((top:Int)+1))=((1000000000/(top+1):Nat):Int) by simp,hs',Ay]<;>omega)) rfl ?_;dsimp only [aA,aB];refine vn (sU ⟨_,gF⟩ gT (by omega) (by omega)) rfl ?_;dsimp only [aA,aB];refine aC (hU s (by omega)) rfl ?_;dsimp only [aA,aB];refine aC (iZ b s (by rw [pP hs0 hsB];simp;omega)) rfl ?_;obtain ⟨V,hV⟩:∃ V,b*s=V:=⟨_,rfl⟩
 obtain ⟨S,hS⟩:∃ S,a*s=S:=⟨_,rfl⟩
 rw [hV] at hvl ⊢;have hV0:0<V:=by rw [←hV];exact Nat.mul_pos hb0 hs0
 dsimp only [aA,aB];refine vn (aQ dE (List.length_map _)) rfl ?_;dsimp only [aA,aB];refine vn (aQ dE (List.length_map _)) rfl ?_;dsimp only [aA,aB];refine vn (aE (by omega) (by omega)) rfl ?_;dsimp only [aA,aB];refine BX (n:=(dg a).length+1) (f:=fun d:Nat=>[aI.int .u32 (d:Int)]) 0 rfl rfl (by omega) rfl (by omega) (by simp only [maxLen];omega) ?_;dsimp only [aA,aB];refine aC (iZ a s (by rw [pP hs0 hsB];simp;omega)) rfl ?_;rw [hS]
 have hSlt:S<1000000000^((dg a).length+1):=by
  rw [←hS,Nat.pow_succ];exact Nat.mul_lt_mul'' (Gl a) hsB
 have hSle:=CB hSlt
 have hSV:S<V*1000000000^((dg a).length+1-(dg b).length):=by
  rw [←hS,←hV];have h1:=Gl a;have h2:=QP (n:=b) (by omega)
  have h3:1000000000^(dg a).length≤b*1000000000^((dg a).length+1-(dg b).length):=by
   refine Nat.le_trans (Nat.le_of_eq ?_) (Nat.mul_le_mul_right _ h2);rw [←Nat.pow_add];congr 1;omega
  calc a*s<b*1000000000^((dg a).length+1-(dg b).length)*s:=Nat.mul_lt_mul_of_pos_right (Nat.lt_of_lt_of_le h1 h3) hs0
   _=_:=by simp only [Nat.mul_comm,Nat.mul_left_comm,Nat.mul_assoc]
 obtain ⟨L,hL⟩:∃ L,(dg a).length+1=L:=⟨_,rfl⟩
 rw [hL] at hSlt hSle hSV;dsimp only [aA,aB];refine QW (xs:=dg S) (zs:=List.replicate ((dg a).length+1) 0) (ws:=pd 1000000000 L S) (fun _=>rfl) rfl rfl dE (by simp;omega) (by simp) (JG (by omega) ((DB.jK (by omega) S).append ((DB.rep (by omega) _).drop _)) (by simp only [List.length_append,List.length_drop,List.length_replicate];show (dg S).length+_=_;omega) (by rw [List.drop_replicate,iA,MV];show lv (dg S)+_=_;rw [gD,Nat.mul_zero,Nat.add_zero])) ?_;dsimp only [aA,aB];refine Ll (n:=L) rfl (by simp) ?_;dsimp only [aA,aB];refine vn (aJ (by omega) (by omega)) rfl ?_;dsimp only [aA,aB];refine BX (n:=L-(dg b).length) (f:=fun d:Nat=>[aI.int .u32 (d:Int)]) 0 rfl rfl (by rw [hvl];omega) rfl (by omega) (by simp only [maxLen];omega) ?_;dsimp only [aA,aB];refine Ll (n:=L-(dg b).length) rfl (by simp) ?_;dsimp only [aA,aB];refine vn (aJ (by omega) (by omega)) rfl ?_;dsimp only [aA,aB];obtain ⟨m,hm⟩:∃ m,L-(dg b).length=m:=⟨_,rfl⟩
 rw [hm] at hSV ⊢;rw [hvl];obtain ⟨nv,hnv⟩:∃ n,(dg b).length=n:=⟨_,rfl⟩
 rw [hnv] at hvl htv htop hbl hlen hm hs ⊢;refine bF {g:Nat×List Nat×Nat // JI S V L m g.1 g.2.1 g.2.2} (fun g=>[.one (.int .i64 ((g.1.1:Int)-1)), .rows (rT g.1.2.1), .rows (rT (pd 1000000000 L g.1.2.2))]) (fun g=>g.1.1) ⟨(m,List.replicate m 0,S),⟨Nat.le_refl _,by simp,Dg.rep _,by simp [lv,val],by rw [Nat.div_lt_iff_lt_mul (Nat.pow_pos (by omega))];exact hSV,hSlt⟩⟩ aO.rfl (fun _=>rfl) ?_;rintro ⟨⟨n,os,R⟩,hI⟩;dsimp only [aA,aB] at hI ⊢;have hnm:=hI.le;have hol:=hI.len;have hfit:=hI.fit;have hLs:L<549755813888:=by omega
 have hnvL:nv<L:=by omega
 refine vn eS rfl ?_;dsimp only [aA,aB];refine vs _ rfl (fun h33=>?_) (fun h33=>?_)
 ·clear htop htB htv ht0 hs' hsle hSV hSlt hSle hs hlen hL hnv h2 h6 hS hV hsB hs0;obtain ⟨i,rfl⟩:∃ i,n=i+1:=⟨n-1,by omega⟩
  obtain ⟨hX1,hX2,_,_⟩:=Em (B:=1000000000) (by omega) hV0 hI.eq hI.lt;obtain ⟨X,hX⟩:∃ X,R/1000000000^i=X:=⟨_,rfl⟩
  have hVlt:V<1000000000^nv:=by rw [←hvl];exact Gl V
  have hXlt:X<1000000000^(nv+1):=by
   rw [Nat.pow_succ,←hX];exact Nat.lt_trans hX1 (Nat.mul_lt_mul_of_pos_right hVlt (by omega))
  have hRtop:R/1000000000^(i+(nv+1))=0:=by
   rw [Nat.pow_add,←Nat.div_div_eq_div_mul,hX];exact Nat.div_eq_of_lt hXlt
  have hRnv:R/1000000000^(i+nv)<1000000000:=by
   rw [Nat.pow_add,←Nat.div_div_eq_div_mul,hX,Nat.div_lt_iff_lt_mul (Nat.pow_pos (by omega)),Nat.mul_comm,←Nat.pow_succ];exact hXlt
  have htwo:=ax1 hbl hRnv;rw [hX] at htwo hX1 hX2;obtain ⟨r1,hr1⟩:∃ r,R/1000000000^(i+nv)%1000000000=r:=⟨_,rfl⟩
  obtain ⟨r2,hr2⟩:∃ r,R/1000000000^(i+nv-1)%1000000000=r:=⟨_,rfl⟩
  have hr1B:r1<1000000000:=by rw [←hr1];exact Nat.mod_lt _ (by omega)
  have hr2B:r2<1000000000:=by rw [←hr2];exact Nat.mod_lt _ (by omega)
  have hg1:(pd 1000000000 L R)[i+nv]? = some r1:=by rw [Ct _ (by omega),hr1]
  have hg2:(pd 1000000000 L R)[i+nv-1]? = some r2:=by rw [Ct _ (by omega),hr2]
  rw [hr1,hr2] at htwo;obtain ⟨vt,hvt⟩:∃ t,V/1000000000^(nv-1)=t:=⟨_,rfl⟩
  have hvtB:vt<1000000000:=by
   rw [←hvt,Nat.div_lt_iff_lt_mul (Nat.pow_pos (by omega)),Nat.mul_comm,Kh hbl];exact hVlt
  have hvt0:0<vt:=by
   have:=QP (n:=V) (by omega);rw [hvl] at this;rw [←hvt];exact Nat.div_pos this (Nat.pow_pos (by omega))
  have hgv:(dg V)[nv-1]? = some vt:=by
   rw [Rq (by omega),hvt,Nat.mod_eq_of_lt hvtB]
  obtain ⟨g,hg⟩:∃ g,min ((r1*1000000000+r2)/vt) 999999999=g:=⟨_,rfl⟩
  have hgB:g<1000000000:=by rw [←hg];exact Nat.lt_of_le_of_lt (Nat.min_le_right _ _) (by decide)
  have hgq:X/V≤g:=by
   rw [←hg];have h1:=RY (B:=1000000000) (X:=X) (V:=V) (n:=nv-1) (by rw [hvt];exact hvt0);rw [hvt,←htwo] at h1;exact Nat.le_min.2 ⟨h1,Nat.le_of_lt_succ hX2⟩
  have hpdl:(pd 1000000000 L R).length=L:=dV _ _;refine vn (aE (by omega) (by omega)) rfl ?_;dsimp only [aA,aB];refine cV rfl rfl (by omega) (by rw [dV];omega) ?_;refine qQ rfl rfl (by omega) (by omega) hg1 rfl ?_;dsimp only [aA,aB];refine vn (sU ⟨_,gF⟩ gT (by omega) (by omega)) rfl ?_;dsimp only [aA,aB];refine vn (PL (by omega) (by omega)) rfl ?_;dsimp only [aA,aB];refine vn (aE (by omega) (by omega)) rfl ?_;dsimp only [aA,aB];refine vn (aJ (by omega) (by omega)) rfl ?_;dsimp only [aA,aB];refine cV rfl rfl (by omega) (by rw [dV];omega) ?_;refine qQ rfl rfl (by omega) (by omega) hg2 rfl ?_;dsimp only [aA,aB];refine vn (sU ⟨_,gF⟩ gT (by omega) (by omega)) rfl ?_;dsimp only [aA,aB];refine vn (OY (by omega) (by omega)) rfl ?_;dsimp only [aA,aB];refine vn (aJ (by omega) (by omega)) rfl ?_;dsimp only [aA,aB];refine vn (aY dE (by omega) (by omega) hgv) rfl ?_;dsimp only [aA,aB];refine vn (bH yY) rfl ?_;dsimp only [aA,aB];refine vn (sU ⟨_,gF⟩ gT (by omega) (by omega)) rfl ?_;dsimp only [aA,aB];refine vn (at6 (a:=r1*1000000000+r2) (by rw [Int.natCast_add,Int.natCast_mul];rfl) hvt0 (ax4 hr1B hr2B)) rfl ?_;dsimp only [aA,aB];refine vn TR rfl ?_;dsimp only [aA,aB];rw [Rk,hg];refine vn (aE (by omega) (by omega)) rfl ?_;dsimp only [aA,aB];refine vn (aE (by omega) (by omega)) rfl ?_;dsimp only [aA,aB];refine vn (aE (by omega) (by omega)) rfl ?_;dsimp only [aA,aB];refine vn (aE (by omega) (by omega)) rfl ?_;dsimp only [aA,aB];refine aR2 (n:=i) (m:=i+nv+1) rfl (by show aI.int .i64 _=aI.int .i64 _;congr 1;omega) (by show aI.int .i64 _=aI.int .i64 _;congr 1;omega) (by show aI.int .i64 _=aI.int .i64 _;congr 1;omega) (by omega) (by simp;omega) ?_
  have hgV:g*V<1000000000^(nv+1):=by
   rw [Nat.pow_succ,Nat.mul_comm (1000000000^nv)];exact Nat.lt_of_lt_of_le (Nat.mul_lt_mul_of_pos_right (by omega:g<1000000000) hV0) (Nat.mul_le_mul_left _ (Nat.le_of_lt hVlt))
  have hview:∀ Y,Y<1000000000^(nv+1)→((rT (pd 1000000000 L (R%1000000000^i+1000000000^i*Y))).take (i+nv+1)).drop i=rT (pd 1000000000 (nv+1) Y):=by
   intro Y hY;rw [rT,rT,←List.map_take,←List.map_drop,GQ _ (by omega),HK,show i+nv+1-i=nv+1 by omega]
   congr 2
   rw [Nat.add_mul_div_left _ _ (Nat.pow_pos (by omega)),Nat.div_eq_of_lt (Nat.mod_lt _ (Nat.pow_pos (by omega))),Nat.zero_add]
  have hfitY:∀ Y,Y<1000000000^(nv+1)→R%1000000000^i+1000000000^i*Y<1000000000^L:=by
   intro Y hY;have h1:R%1000000000^i<1000000000^i:=Nat.mod_lt _ (Nat.pow_pos (by omega));have h2:1000000000^i*(Y+1)≤1000000000^i*1000000000^(nv+1):=Nat.mul_le_mul_left _ hY;rw [←Nat.pow_add] at h2;have h3:1000000000^(i+(nv+1))≤1000000000^L:=Nat.pow_le_pow_right (by omega) (by omega);rw [Nat.mul_add,Nat.mul_one] at h2;omega
  have hput:∀ Y Z,Y<1000000000^(nv+1)→Z<1000000000^(nv+1)→(rT (pd 1000000000 L (R%1000000000^i+1000000000^i*Y))).take i++rT (pd 1000000000 (nv+1) Z)++(rT (pd 1000000000 L (R%1000000000^i+1000000000^i*Y))).drop (i+(rT (pd 1000000000 (nv+1) Y)).length)=rT (pd 1000000000 L (R%1000000000^i+1000000000^i*Z)):=by
   intro Y Z hY hZ;have hp:0<1000000000^i:=Nat.pow_pos (by omega);have hm:R%1000000000^i<1000000000^i:=Nat.mod_lt _ hp;rw [cD,dV,rT,rT,rT,←List.map_take,←List.map_drop,←List.map_append,←List.map_append,Pr (by omega) (by omega) (hfitY Y hY) hZ]
   have e:(R%1000000000^i+1000000000^i*Y)/1000000000^(i+(nv+1))=0:=by
    rw [Nat.pow_add 1000000000 i,←Nat.div_div_eq_div_mul,Nat.add_mul_div_left _ _ hp,Nat.div_eq_of_lt hm,Nat.zero_add];exact Nat.div_eq_of_lt hY
   rw [e,Nat.add_mul_mod_self_left,Nat.mod_eq_of_lt hm,Nat.mul_zero,Nat.add_zero]
  have hRX:R=R%1000000000^i+1000000000^i*X:=by rw [←hX];exact (Nat.mod_add_div _ _).symm
  have hsub:=Lu (pd 1000000000 (nv+1) X) (dg V) g (DT (by omega) _ _) (jV V) hgB (by rw [dV];omega) (by rw [dV];omega);have hlvX:∀ Y,Y<1000000000^(nv+1)→lv (pd 1000000000 (nv+1) Y)=Y:=fun Y hY=>by rw [lv,zY,Nat.mod_eq_of_lt hY]
  rw [hlvX X hXlt,gD,dV] at hsub
  have hgive:∀ Y,Y<1000000000^(nv+1)→uM prog 252 255 1 [] [.one (.slice 1 (rT (dg V)))] (rT (pd 1000000000 (nv+1) Y)) [.one (.bool (decide (1000000000^(nv+1)≤Y+V)))] (rT (pd 1000000000 (nv+1) (Y+V-1000000000^(nv+1)*(if 1000000000^(nv+1)≤Y+V then 1 else 0)))):=by
   intro Y hY;have h1:=Mu (pd 1000000000 (nv+1) Y) (dg V) (DT (by omega) _ _) (jV V) (by rw [dV];omega) (by rw [dV];omega);rw [hlvX Y hY,gD,dV] at h1;exact h1
  have hok:os[i]? = some (os[i]'(by omega)):=List.getElem?_eq_getElem (by omega);have hVB:V<1000000000^(nv+1):=Nat.lt_of_lt_of_le hVlt (Nat.pow_le_pow_right (by omega) (by omega));have hXV:X%V<1000000000^(nv+1):=Nat.lt_trans (Nat.mod_lt _ hV0) hVB
  have hN:JI S V L m i (os.set i (X/V)) (R%1000000000^i+1000000000^i*(X%V)):=by
   have:=hI.next hV0 rfl;rw [hX] at this;exact this
  clear hI htwo hg hr1 hr2 hg1 hg2 hvt hgv hvt0 hvtB hX hRnv hRtop hr1B hr2B hpdl hlvX hfit
  refine Qj (n:=i) (vs:=rT (pd 1000000000 L (R%1000000000^i+1000000000^i*(X+1000000000^(nv+1)*(if X<g*V then 1 else 0)-g*V)))) (ts:=rT (pd 1000000000 L R)) (us:=rT (pd 1000000000 (nv+1) X)) rfl ⟨.i64, .i64,i+nv+1,(by show aI.int .i64 _=aI.int .i64 _;congr 1;omega),(by show aI.int .i64 _=aI.int .i64 _;congr 1;omega),by omega,by simp;omega,by rw [←hview X hXlt,←hRX]⟩ (by simp [pd]) rfl (tC rfl hsub) (by
   conv=>lhs;rw [hRX]
   exact hput X _ hXlt (by split<;>omega)) ?_
  dsimp only [aA,aB];refine vs _ rfl (fun h57=>?_) (fun h57=>?_)
  ·refine bF {p:Bool×Nat // if p.1 then p.2=X/V else X<p.2*V∧p.2<1000000000} (fun p=>[.one (.bool p.1.1), .one (.int .u64 p.1.2), .rows (rT (pd 1000000000 L (R%1000000000^i+1000000000^i*Wj (1000000000^(nv+1)) X V p.1)))]) (fun p=>if p.1.1 then 0 else p.1.2+1) ⟨(false,g),by simp only [Bool.false_eq_true,if_false];exact ⟨h57,hgB⟩⟩ ⟨aG.Sub.same,aG.Sub.same,aG.Sub.of_eq (congrArg (fun y=>aG.rows (rT (pd 1000000000 L (R%1000000000^i+1000000000^i*y)))) (by simp only [Wj,Bool.false_eq_true,if_false];rw [if_pos h57,Nat.mul_one])),trivial⟩ (fun _=>rfl) ?_;rintro ⟨⟨made,g'⟩,hp⟩;dsimp only [aA,aB] at hp ⊢;refine vn mL rfl ?_;dsimp only [aA,aB];refine Bt (!made) rfl (fun h60=>?_) (fun h60=>?_)
   ·have hmd:made=false:=by simpa using h60
    subst hmd;simp only [Bool.false_eq_true,if_false] at hp
    have hgV':g'*V<1000000000^(nv+1):=by
     rw [Nat.pow_succ,Nat.mul_comm (1000000000^nv)];exact Nat.lt_of_lt_of_le (Nat.mul_lt_mul_of_pos_right (by omega:g'<1000000000) hV0) (Nat.mul_le_mul_left _ (Nat.le_of_lt hVlt))
    have hg0:0<g':=by
     rcases Nat.eq_zero_or_pos g' with h | h
     ·rw [h] at hp;omega
     ·exact h
    have hgm:(g'-1)*V+V=g'*V:=by
     obtain ⟨k,rfl⟩:∃ k,g'=k+1:=⟨g'-1,by omega⟩
     rw [Nat.add_sub_cancel,Nat.add_mul,Nat.one_mul]
    obtain ⟨W,hW⟩:∃ W,1000000000^(nv+1)=W:=⟨_,rfl⟩
    have hYe:Wj W X V (false,g')=X+W-g'*V:=by simp [Wj]
    have hnew:X+W-g'*V+V-W*(if W≤X+W-g'*V+V then 1 else 0)=Wj W X V (decide (W≤X+W-g'*V+V),g'-1):=by
     rw [hW] at hgV' hXlt;by_cases hc:W≤X+W-g'*V+V
     ·rw [if_pos hc,Nat.mul_one];simp only [Wj,hc,decide_true,if_true];have hq:X/V=g'-1:=zA hV0 (by omega) (by rw [show g'-1+1=g' by omega];exact hp.1);have h1:=Nat.mod_add_div X V;rw [hq,Nat.mul_comm] at h1;omega
     ·rw [if_neg hc,Nat.mul_zero];simp only [Wj,hc,decide_false,Bool.false_eq_true,if_false];omega
    rw [hW] at hview hput hgive hXlt hgV';have hYlt:X+W-g'*V<W:=by omega
    have hput1:=hput (X+W-g'*V) (X+W-g'*V+V-W*(if W≤X+W-g'*V+V then 1 else 0)) hYlt (by split<;>omega);rw [hnew] at hput1;rw [hW,hYe];refine Qj (n:=i) (ts:=rT (pd 1000000000 L (R%1000000000^i+1000000000^i*(X+W-g'*V)))) (us:=rT (pd 1000000000 (nv+1) (X+W-g'*V))) (us':=rT (pd 1000000000 (nv+1) (Wj W X V (decide (W≤X+W-g'*V+V),g'-1)))) rfl ⟨.i64, .i64,i+nv+1,(by show aI.int .i64 _=aI.int .i64 _;congr 1;omega),(by show aI.int .i64 _=aI.int .i64 _;congr 1;omega),by omega,by simp;omega,(hview _ hYlt).symm⟩ (by simp [pd]) rfl (tC rfl (hnew▸hgive _ hYlt)) hput1 ?_;dsimp only [aA,aB];refine vn (Qd (by omega) (by omega)) rfl ?_;dsimp only [aA,aB];have hg1':(g':Int)-1=((g'-1:Nat):Int):=by clear hN hput hview hgive hfitY;omega
    refine aU rfl ⟨⟨(decide (W≤X+W-g'*V+V),g'-1),?_⟩,⟨aG.Sub.same,aG.Sub.of_eq (congrArg (fun q=>aG.one (aI.int .u64 q)) hg1'),aG.Sub.of_eq ?_,trivial⟩,?_⟩
    ·by_cases hc:W≤X+W-g'*V+V
     ·simp only [hc,decide_true,if_true];exact (zA hV0 (by omega) (by rw [show g'-1+1=g' by omega];exact hp.1)).symm
     ·simp only [hc,decide_false,Bool.false_eq_true,if_false];omega
    ·dsimp only;rfl
    ·dsimp only;by_cases hc:W≤X+W-g'*V+V
     ·simp [hc]
     ·simp [hc];omega
   have hmd:made=true:=by simpa using h60
   subst hmd;simp only [if_true] at hp;subst hp;simp only [Wj,if_true];refine vn (pZ ⟨_,gT⟩ gF (pA _) (MG hX2)) rfl ?_;dsimp only [aA,aB];refine cV rfl rfl (by omega) (by omega) ?_;refine lY (d':=X/V) rfl rfl (by omega) (by omega) hok rfl ?_;dsimp only [aA,aB];refine vn (aJ (by omega) (by omega)) rfl ?_;dsimp only [aA,aB];exact aU rfl ⟨⟨(i,os.set i (X/V),R%1000000000^i+1000000000^i*(X%V)),hN⟩,⟨aG.Sub.of_eq (congrArg (fun q=>aG.one (aI.int .i64 q)) (aa5 i)),aG.Sub.same,aG.Sub.same,trivial⟩,by show i<i+1;omega⟩
  have hq:X/V=g:=Nat.le_antisymm hgq (by rw [Nat.le_div_iff_mul_le hV0];omega)
  have hmod:X+1000000000^(nv+1)*(if X<g*V then 1 else 0)-g*V=X%V:=by
   rw [if_neg h57,Nat.mul_zero,Nat.add_zero];have h1:=Nat.mod_add_div X V;rw [hq,Nat.mul_comm] at h1;omega
  rw [hmod];rw [hq] at hN;refine vn (pZ ⟨_,gT⟩ gF (pA _) (MG hgB)) rfl ?_;dsimp only [aA,aB];refine cV rfl rfl (by omega) (by omega) ?_;refine lY (d':=g) rfl rfl (by omega) (by omega) hok rfl ?_;dsimp only [aA,aB];refine vn (aJ (by omega) (by omega)) rfl ?_;dsimp only [aA,aB];exact aU rfl ⟨⟨(i,os.set i g,R%1000000000^i+1000000000^i*(X%V)),hN⟩,⟨aG.Sub.of_eq (congrArg (fun q=>aG.one (aI.int .i64 q)) (aa5 i)),aG.Sub.same,aG.Sub.same,trivial⟩,by show i<i+1;omega⟩
 have hn0:n=0:=by omega
 subst hn0;have heq:=hI.eq;have hlt:=hI.lt;rw [List.drop_zero,Nat.pow_zero,Nat.mul_one] at heq;rw [Nat.pow_zero,Nat.div_one] at hlt;obtain ⟨hQ,hR⟩:=Ak heq hlt;have hQ2:lv os=a/b:=by rw [hQ,←hS,←hV,Nat.mul_div_mul_right _ _ hs0]
 have hR2:R=a%b*s:=by rw [hR,←hS,←hV,Nat.mul_mod_mul_right]
 refine aC (iO (pd 1000000000 L R) (DT (by omega) _ _) (by rw [dV];omega)) rfl ?_;rw [show lv (pd 1000000000 L R)=R by rw [lv,zY,Nat.mod_eq_of_lt hfit]];dsimp only [aA,aB];refine aC (XJ R s hs0 hsB (by have:=CB hfit;omega)) rfl ?_;dsimp only [aA,aB];refine aC (iO os hI.dg (by omega)) rfl ?_;dsimp only [aA,aB];refine aL ?_;rw [hQ2,hR2,Nat.mul_div_cancel _ hs0];rfl
open Go Go.Proofs Go.RowKit Go.Shelf Tryz Ord
attribute [local go_sem] Oper.semAt_some
section
variable {α:Type} [Inhabited α] {enc:α→Value}
def bk (vs:List α) (k:Nat):List (Nat×α):=(List.range k).map fun j=>(vs.length-1-j,vs[vs.length-1-j]?.getD default)
theorem Ho (vs:List α) (k:Nat):bk vs (k+1)=bk vs k ++ [(vs.length-1-k,vs[vs.length-1-k]?.getD default)]:=by simp [bk,List.range_succ]
theorem FK (vs:List α) (k:Nat):(bk vs k).length=k:=by simp [bk]
def Yk (n₀ Bs:Nat) (A B:World):Prop:=Below n₀ A B∧∀ v,A.cell? ⟨Bs,0,none⟩=some v→B.cell? ⟨Bs,0,none⟩=some v
set_option maxRecDepth 100000 in
set_option maxHeartbeats 2000000 in
theorem PT (l Bs n₀ b off cap:Nat) (vs:List α) (hlen:vs.length<4611686018427387904) (hb:b<n₀) (J Jx:List (Nat×α)→World→Prop)
  (hY:∀ pre x W,J pre W→pre.length<vs.length→YieldAt Fence.wide (1000-1) prog l #[.int .i64 (x.1:Int),enc x.2] W fun e W'=>
   (e = .returned (.bool true)∧J (pre ++ [x]) W'∧Yk n₀ Bs W W')∨(e = .returned (.bool false)∧Jx (pre ++ [x]) W'))
  (W:World) (hBs:W.cell? ⟨Bs,0,none⟩=some (.slice (some ⟨b,off,none⟩) vs.length cap)) (hc:∀ j v,vs[j]? = some v→W.cell? ⟨b,off+j,none⟩=some (enc v)) (h0:J [] W) :
  CallsIn Fence.wide 1000 prog 274 #[.func (.yield l) #[] #[], .pointer (some ⟨Bs,0,none⟩)] W fun e W'=>(∃ v,e = .returned v) ∧
   ((∃ ys,ys=bk vs vs.length∧J ys W')∨(∃ pre,(∃ k,k≤vs.length∧pre=bk vs k)∧Jx pre W')):=by
 refine callsIn_of_wp func274 rfl trivial ?_ rfl;simp only [ntmps274,List.size_toArray,List.length_cons,List.length_nil,Nat.reduceAdd,Nat.reduceSub,Array.replicate_succ,Array.replicate_zero,List.push_toArray,List.append_toArray,List.nil_append,List.cons_append];obtain ⟨N,hN⟩:∃ N,vs.length=N:=⟨_,rfl⟩
 rw [hN] at hBs hY hlen ⊢
 gi_wp2
 gi_loopw [3] (fun i wr=>∃ k:Nat,k≤N∧i = .int .i64 ((N:Int)-1-k)∧J (bk vs k) wr∧Below n₀ W wr∧wr.cell? ⟨Bs,0,none⟩=some (.slice (some ⟨b,off,none⟩) N cap))
  (fun i _=>(intOf i+1).toNat)
 case atStart=>exact ⟨0,Nat.zero_le _,by simp,h0,Below.refl _ _,hBs⟩
 case round=>
  obtain ⟨k,hk,rfl,hJs,hnx,hBx⟩:=hrel;have hmeas:(intOf (.int .i64 ((N:Int)-1-k))+1).toNat=N-k:=by simp [intOf];omega
  by_cases hlt:k<N
  ·have hv:vs[N-1-k]? = some (vs[N-1-k]?.getD default):=by rw [List.getElem?_eq_getElem (by omega)];rfl
   have hcx:wr.cell? ⟨b,off+(N-1-k),none⟩=some (enc (vs[N-1-k]?.getD default)):=(hnx.cell (p:=⟨b,off+(N-1-k),none⟩) hb).trans (hc _ _ hv);obtain ⟨fn,tmps,assign,body,hy,hR⟩:=hY _ (N-1-k,vs[N-1-k]?.getD default) wr hJs (by rw [FK];exact hlt);generalize hx:vs[N-1-k]?.getD default=x at hy hR hcx;have hsucc:bk vs (k+1)=bk vs k ++ [(N-1-k,x)]:=by rw [Ho,hN,hx]
   have e1:(N:Int)-1-k=((N-1-k:Nat):Int):=by omega
   have hn1:N-1-k<N:=by omega
   have e2:(wr.cell? ⟨b,off+(N-1-k),none⟩)=some (enc x):=hcx;rw [e1]
   gi_wp2
   refine hR.mono ?_;rintro e W3 (⟨rfl,hJ3,hk3⟩ | ⟨rfl,hJx3⟩)
   ·gi_wp2
    go_roundw
    case rel=>exact ⟨k+1,by omega,by congr 1;omega,by rw [hsucc];exact hJ3,hnx.trans hk3.1,hk3.2 _ hBx⟩
    case measure=>simp [intOf]
   ·gi_wp2
    refine bodyPost_ret (results_none rfl _ _ _) rfl ?_;exact ⟨⟨_,rfl⟩, .inr ⟨_,⟨k+1,by omega,rfl⟩,by rw [hsucc];exact hJx3⟩⟩
  ·obtain rfl:k=N:=by omega
   gi_wp2
   go_end0
   exact ⟨⟨_,rfl⟩, .inl ⟨_,rfl,hJs⟩⟩
set_option maxRecDepth 100000 in
set_option maxHeartbeats 1000000 in
theorem KO {α:Type} (l Bs:Nat) (a:Option Addr) (cap:Nat) (J:List (Nat×α)→World→Prop) (W:World) (hBs:W.cell? ⟨Bs,0,none⟩=some (.slice a 0 cap)) (h0:J [] W) :
  CallsIn Fence.wide 1000 prog 274 #[.func (.yield l) #[] #[], .pointer (some ⟨Bs,0,none⟩)] W fun e W'=>(∃ v,e = .returned v)∧J [] W':=by
 refine callsIn_of_wp func274 rfl trivial ?_ rfl;simp only [ntmps274,List.size_toArray,List.length_cons,List.length_nil,Nat.reduceAdd,Nat.reduceSub,Array.replicate_succ,Array.replicate_zero,List.push_toArray,List.append_toArray,List.nil_append,List.cons_append]
 gi_wp2
 gi_loopw [3] (fun i wr=>i = .int .i64 (-1)∧J [] wr) (fun _ _=>0)
 case atStart=>exact ⟨rfl,h0⟩
 case round=>
  obtain ⟨rfl,hJs⟩:=hrel
  gi_wp2
  go_end0
  exact ⟨⟨_,rfl⟩,hJs⟩
set_option maxHeartbeats 1000000 in
theorem HY (n:Nat) (a:Option Addr) (len cap:Nat) (w:World) :
  CallsIn Fence.wide n prog 240 #[.slice a len cap] w fun e w'=>e = .returned (.func (.func 274) #[] #[.pointer (some ⟨w.heap.size,0,none⟩)])∧w'=w.alloc (.cells #[.slice a len cap] 33):=by
 refine callsIn_of_wp func240 rfl trivial ?_ rfl;simp only [ntmps240,List.size_toArray,List.length_cons,List.length_nil,Nat.reduceAdd,Nat.reduceSub,Array.replicate_succ,Array.replicate_zero,List.push_toArray,List.append_toArray,List.nil_append,List.cons_append]
 gi_wp2
 go_ret
 exact ⟨rfl,rfl⟩
def ZH (enc:α→Value) (n₀:Nat) (W:World) (sv:Value) (vs:List α):Prop:=
 ∃ a cap,sv = .slice a vs.length cap∧(vs = []∨∃ b off,a=some ⟨b,off,none⟩∧b<n₀∧∀ j v,vs[j]? = some v→W.cell? ⟨b,off+j,none⟩=some (enc v))
theorem ZH.below {α:Type} {enc:α→Value} {n₀:Nat} {A B:World} (h:Below n₀ A B) {sv:Value} {vs:List α}:ZH enc n₀ A sv vs→ZH enc n₀ B sv vs:=by
 rintro ⟨a,cap,e,rfl | ⟨b,off,rfl,hb,hc⟩⟩
 ·exact ⟨a,cap,e, .inl rfl⟩
 ·exact ⟨_,cap,e, .inr ⟨b,off,rfl,hb,fun j v hj=>(h.cell (p:=⟨b,off+j,none⟩) hb).trans (hc j v hj)⟩⟩
theorem AV (Bs n₀:Nat) (sv:Value) (vs:List α) (hlen:vs.length<4611686018427387904) (w:World) (hBs:Bs<w.heap.size) (hn₀:n₀≤w.heap.size)
  (hc:w.cell? ⟨Bs,0,none⟩=some sv) (hI:ZH enc n₀ w sv vs) :
  SeqStopsK Fence.wide 1000 prog 274 #[.pointer (some ⟨Bs,0,none⟩)] (fun x:Nat×α=>#[Value.int .i64 (x.1:Int),enc x.2]) (Yk n₀ Bs) (fun ys=>ys=bk vs vs.length) (fun pre=>∃ k,k≤vs.length∧pre=bk vs k) vs.length w:=fun l J Jx W hW _ _ hY h0=>by
 have hc':=(hW.cell (p:=⟨Bs,0,none⟩) hBs).trans hc;obtain ⟨a,cap,rfl,rfl | ⟨b,off,rfl,hb,hcs⟩⟩:=hI.below (hW.mono hn₀)
 ·exact (KO (α:=α) l Bs a cap J W hc' h0).mono fun e W' ⟨he,hj⟩=>⟨he, .inl ⟨_,rfl,hj⟩⟩
 ·exact (PT (enc:=enc) l Bs n₀ b off cap vs hlen hb J Jx hY W hc' hcs h0)
theorem Nz {n₀ Bs:Nat} {A B C:World} (h:Yk n₀ Bs A B) (k:Yk n₀ Bs B C):Yk n₀ Bs A C:=⟨h.1.trans k.1,fun v hv=>k.2 v (h.2 v hv)⟩
theorem NP {n₀ Bs:Nat} {w:World} (hn:n₀≤w.heap.size) (hB:Bs<w.heap.size) (W:World) (l:Nat) (o o':Obj) (hl:w.heap.size≤l) (h:W.heap[l]? = some o) (h1:o.isCells=false) (h2:o.isWalk=false):Yk n₀ Bs W (W.putObj l o'):=
 ⟨belowK_b hn W l o o' hl h h1 h2,fun v hv=>by
  have e:(W.putObj l o').heap[Bs]? = W.heap[Bs]?:=World.putObj_heap_other (by omega);simp only [World.cell?,e] at hv ⊢;exact hv⟩
end
def wv (pre:List (Nat×Int)):Int:=pre.foldl (fun n x=>IntKind.u64.wrap (IntKind.u64.wrap (n*1000000000)+IntKind.u64.wrap x.2)) 0
theorem Xl (pre:List (Nat×Int)) (x:Nat×Int):wv (pre ++ [x])=IntKind.u64.wrap (IntKind.u64.wrap (wv pre*1000000000)+IntKind.u64.wrap x.2):=by simp [wv]
theorem Tb {n:Nat} (hn:n<1000000000000000000):wv (bk ((dg n).map (fun d:Nat=>(d:Int))) (dg n).length)=(n:Int):=by
 have hl:(dg n).length≤2:=CB (by omega);have hv:=gD n;have hd:=jV n;generalize dg n=ds at hl hv hd
 match ds,hl with
 | [],_=>simp [lv,val] at hv;subst hv;simp [bk,wv]
 | [a],_=>
   have ha:=hd a (by simp);simp [lv,val] at hv;simp [bk,wv,List.range_succ];simp only [IntKind.wrap_u64];omega
 | [a,b],_=>
   have ha:=hd a (by simp);have hb:=hd b (by simp);simp [lv,val] at hv;simp [bk,wv,List.range_succ];simp only [IntKind.wrap_u64];omega
theorem Te {M:Nat→Prop} {w:World} {v:Value} {ds:List Nat} (h:(aI.slice 1 (rT ds)).rep M w v):ZH (fun d:Int=>Value.int .u32 d) w.heap.size w v (ds.map (fun d:Nat=>(d:Int))):=by
 obtain ⟨a,cap,rfl,hc,hm,hel⟩:=h;refine ⟨a,cap,by simp,?_⟩;rcases hel with h | ⟨b,off,cs,T,fz,rfl,hb,hh,hr⟩
 ·left
  have:ds = []:=by cases ds<;>simp_all
  subst this;rfl
 ·refine .inr ⟨b,off,rfl,(Array.getElem?_eq_some_iff.1 hh).1,fun j v hj=>?_⟩;rw [List.getElem?_map] at hj;cases hd:ds[j]? with
  | none=>rw [hd] at hj;simp at hj
  | some d=>
    rw [hd] at hj;simp only [Option.map_some,Option.some.injEq] at hj;subst hj;obtain ⟨_,hrep⟩:=hr j _ (pQ hd);rw [Nat.mul_one] at hrep;have hl:=hrep.length
    have hlt:off+j<cs.toList.length:=by
     simp only [List.length_cons,List.length_nil,List.length_take,List.length_drop] at hl;omega
    rw [List.drop_eq_getElem_cons hlt,List.take_succ_cons,List.take_zero] at hrep;have h1:cs.toList[off+j] = .int .u32 d:=hrep.1.1;simp only [World.cell?,hh];rw [Array.getElem_toList] at h1;simp [h1,Array.getElem?_eq_getElem (show off+j<cs.size by simpa using hlt)]
set_option maxRecDepth 100000 in
set_option maxHeartbeats 2000000 in
theorem XK (a:Option Addr) (cap:Nat) (vs:List Int) (hlen:vs.length<4611686018427387904) (w:World) (hI:ZH (fun d:Int=>Value.int .u32 d) w.heap.size w (.slice a vs.length cap) vs) :
  CallsIn Fence.wide 1001 prog 249 #[.agg #[.slice a vs.length cap]] w fun e W'=>e = .returned (.int .u64 (wv (bk vs vs.length)))∧Below w.heap.size w W':=by
 refine callsIn_of_wp_marks func249 rfl trivial ?_ rfl;simp only [ntmps249,List.size_toArray,List.length_cons,List.length_nil,Nat.reduceAdd,Nat.reduceSub,Array.replicate_succ,Array.replicate_zero,List.push_toArray,List.append_toArray,List.nil_append,List.cons_append];generalize hL:vs.length=L at hI hlen ⊢
 gi_wp2_with (refine ⟨trivial,?_⟩;gi_at_call 240;refine (HY _ _ _ _ _).mono ?_;rintro e w' ⟨rfl,rfl⟩)
 have bN:=Boxed.new (w.alloc (.cells #[.slice a L cap] 35)) 254 (.int .u64 0);have bS:=Boxed.new ((w.alloc (.cells #[.slice a L cap] 35)).alloc (.cells #[.int .u64 0] 254)) 33 (.slice a L cap);simp only [World.size_alloc] at bN bS;have hB0:Below w.heap.size w (((w.alloc (.cells #[.slice a L cap] 35)).alloc (.cells #[.int .u64 0] 254)).alloc (.cells #[.slice a L cap] 33)):=(((Below.refl _ w).alloc (Nat.le_refl _) _).alloc (by simp) _).alloc (by simp;omega) _;obtain ⟨W0,hW0⟩:∃ W0,(((w.alloc (.cells #[.slice a L cap] 35)).alloc (.cells #[.int .u64 0] 254)).alloc (.cells #[.slice a L cap] 33))=W0:=⟨_,rfl⟩
 have hs0:W0.heap.size=w.heap.size+3:=by rw [←hW0];simp
 have bN':=bN.alloc (.cells #[.slice a L cap] 33);rw [hW0] at hB0 bS bN' ⊢
 refine wpIn_rangeFunc_ownF (w0:=W0) rfl (by omega) (gf:=274) (lb:=#[.pointer (some ⟨w.heap.size+1+1,0,none⟩)]) rfl trivial (enters_of func274 (by kernel_rfl) rfl)
  (AV (enc:=fun d:Int=>Value.int .u32 d) (w.heap.size+1+1) w.heap.size (.slice a L cap) vs (by omega) W0 (by omega) (by omega) bS.cell (hI.below hB0)) Nz (NP (by omega) (by omega)) (Below.refl _ _) (fun _=>rfl)
  (fun pre W=>(W.cell? ⟨w.heap.size+1,0,none⟩=some (.int .u64 (wv pre))∧W.frozen? ⟨w.heap.size+1,0,none⟩=false)∧Below w.heap.size w W)
  (fun _ _ _=>False)
  (OwnFrom.and (Own.from (fun s A B row hs hg hr=>⟨cell_kept hs.1 hg hr,(frozen_kept hs.1 hg hr).trans hs.2⟩) _) (ownFrom_below (Nat.le_refl _) (by omega)))
  (fun _=>by intro s A B row hs;exact hs.elim)
  ⟨⟨bN'.cell,bN'.frozen⟩,hB0⟩
  (fun x=>{ tmps:=#[.agg #[.slice a L cap], .pointer (some ⟨w.heap.size,0,none⟩), .int .u64 0, .pointer (some ⟨w.heap.size+1,0,none⟩),undef, .int .u32 x.2, .pointer (some ⟨w.heap.size,0,none⟩), .slice a L cap, .func (.func 274) #[] #[.pointer (some ⟨w.heap.size+1+1,0,none⟩)], .int .i64 (x.1:Int), .int .u32 x.2,undef,undef,undef,undef,undef,undef],defers:=[] }) ?assign ?body ?done ?stop
 case assign=>
  intro l x W K hK
  gi_wp2
  exact hK
 case body=>
  rintro l pre x W ⟨⟨hcr,hfr⟩,hB⟩ _
  gi_wp2
  refine ⟨KeepsOthers.setCell _ _ _,⟨(Below.refl w.heap.size W).setCell (p:=⟨w.heap.size+1,0,none⟩) (by simp) _,fun v hv=>?_⟩,⟨?_,by rw [World.frozen?_setCell];exact hfr⟩,hB.setCell (p:=⟨w.heap.size+1,0,none⟩) (by simp) _⟩
  ·refine Eq.trans (World.cell?_setCell_other _ _ _ _ ?_) hv;simp
  ·rw [Xl];exact World.cell?_setCell_same' _ _ _ (by rw [hcr];rfl)
 case done=>
  rintro D ys W hD rfl ⟨⟨hcr,hfr⟩,hB⟩ hK
  gi_wp2
  refine ⟨by simp, .inl ⟨_,_,rfl,run_takeDeferred hK,?_⟩⟩;exact ⟨_,results_tmp rfl _ _ _,rfl,hB.trans (belowK_b (w:=w) (Nat.le_refl _) W D _ _ (by omega) hK rfl rfl)⟩
 case stop=>
  rintro D c pre W hD _ h hK;exact h.elim
set_option maxRecDepth 100000 in
theorem UW (n:Nat) (hn:n<1000000000000000000):aK prog 249 [mT n] (.ret [.one (.int .u64 n)]):=by
 refine ⟨bP (by kernel_rfl),fun M w vs hM hv=>?_⟩
 match vs,hv with
 | [v],hv=>
   obtain ⟨⟨us,rfl,hus⟩,_⟩:=hv
   match us,hus with
   | [u],hus=>
     have hsl:=Te hus.1;obtain ⟨a,cap,rfl,hel⟩:=hsl;have hl:((dg n).map (fun d:Nat=>(d:Int))).length=(dg n).length:=List.length_map _
     have hlen:(dg n).length<4611686018427387904:=by
      have h2:(dg n).length≤2:=CB (by rw [show (1000000000:Nat)^2=1000000000000000000 by decide];exact hn);omega
     have h1:=XK a cap ((dg n).map (fun d:Nat=>(d:Int))) (by rw [hl];exact hlen) w ⟨a,cap,rfl,hel⟩;rw [hl,Tb hn] at h1;have h2:Calls prog 249 #[.agg #[.slice a (dg n).length cap]] w _:=(callsIn_wide (n:=1001)).1 h1;rw [hl];show Calls prog 249 #[.agg #[.slice a (dg n).length cap]] w _;refine h2.mono ?_;rintro e w' ⟨rfl,hb⟩;exact ⟨hb,[.int .u64 n],rfl,⟨rfl,rfl⟩,trivial⟩
   | [],hus=>exact hus.elim
   | _::_::_,hus=>exact hus.2.elim
 | [],hv=>exact hv.elim
 | _::_::_,hv=>exact hv.2.elim
end Go.Sy
namespace Go.Sy
open Go Go.Proofs Tryz Ord
def aB1:Tr:=aP 249 [(G1 2)] [none] [22] [35] 254 false (aP 249 [(G1 3)] [none] [24] [35] 254 true (.loop 1 [lV 11 0,lV 12 0] (.need (.prim [(W 14 0),(.one (.c (.k (.int .u64 0))))] none) (.binOp .neq 254 (tT 26) (.const (.int .u64 0)) 254) 4 false (.split (.u 15 0) (bR .rem 254 29 30 13 0 14 0 254 (.back 1 [lV 14 0,lV 16 0])) (aP 195 [(W 13 0)] [(some 1)] [32] [254] 35 true (.ret [(G1 16)]))))))
def aH7:Tr:=bB .leq 3 14 2 7 0 4 (.split (.u 8 0) (cY 3 0 18 33 (bB .leq 3 19 2 9 0 4 (.split (.u 10 0) aB1 (aP 193 [(G1 2),(G1 3)] [(some 1),(some 1)] [35,36] [35,35] 251 false (.back 0 [lV 3 0,lV 12 0,lV 4 0]))))) (aP 193 [(G1 2),(G1 3)] [(some 1),(some 1)] [35,36] [35,35] 251 false (.back 0 [lV 3 0,lV 10 0,lV 4 0])))
def Uu:Tr:=.ret [(G1 2)]
def aO8:Tr:=.loop 0 [lV 0 0,lV 1 0,lN] (aP 179 [(G1 3)] [none] [9] [35] 4 true (.need (.prim [(W 5 0)] none) (.unOp .not 4 (tT 10)) 4 false (.split (.u 6 0) (cY 2 0 13 33 aH7) Uu)))
theorem Sl:aN prog f191 (fun _=>none) [.v (some 1), .v (some 1)]=aO8:=by kernel_rfl
def aR6:Tr:=.split (.u 8 0) (aP 118 [(G1 5),(G1 4)] [(some 1)] [14,15] [35,35] 35 true (bB .gtr 3 17 1 3 0 4 (.split (.u 10 0) (aP 118 [(G1 4),(G1 4)] [(some 1)] [19,20] [35,35] 35 true (bB .quo 3 9 2 3 0 3 (.back 0 [lV 12 0,lV 11 0,lV 9 0]))) (bB .quo 3 9 2 3 0 3 (.back 0 [lV 11 0,lV 4 0,lV 9 0]))))) (bB .gtr 3 17 1 3 0 4 (.split (.u 9 0) (aP 118 [(G1 4),(G1 4)] [(some 1)] [19,20] [35,35] 35 true (bB .quo 3 9 2 3 0 3 (.back 0 [lV 11 0,lV 10 0,lV 5 0]))) (bB .quo 3 9 2 3 0 3 (.back 0 [lV 10 0,lV 4 0,lV 5 0]))))
def aK7:Tr:=.need (.call 195 [(.one (.c (.k (.int .u64 1))))] [(some 1)]) (.call ⟨.value (.func 195),#[(.const (.int .u64 1))],#[254]⟩) 35 true (.loop 0 [lV 1 0,lV 0 0,lV 2 0] (bB .gtr 3 7 0 3 0 4 (.split (.u 6 0) (bB .rem 3 11 2 3 0 3 (bB .eql 3 12 1 7 0 4 aR6)) (.ret [(G1 5)]))))
theorem VH:aN prog f282 (fun _=>none) [.v (some 1), .v none]=aK7:=by kernel_rfl
def Oo:Tr:=.ret [(G2 4)]
def aX1:Tr:=bR .neq 4 6 8 0 1 1 1 4 (aP 118 [(G1 0),(G1 1)] [(some 1)] [11,13] [35,35] 35 true (aP 155 [(W 2 0),(G1 3)] [(some 2)] [9,14] [4,35] 37 true Oo))
theorem ao6:aN prog f116 (fun _=>none) [.v (some 2), .v (some 2)]=aX1:=by kernel_rfl
def Lp:Tr:=.ret [(G2 6)]
def aQ8:Tr:=bR .eql 4 7 9 0 1 1 1 4 (.split (.u 2 0) (aP 196 [(G1 0),(G1 1)] [(some 1)] [14,16] [35,35] 35 true (aP 155 [(W 0 1),(G1 3)] [(some 2)] [12,17] [4,35] 37 true Oo)) (aP 119 [(G1 0),(G1 1)] [none] [21,23] [35,35] 3 true (bB .lss 3 24 0 3 0 4 (.split (.u 4 0) (aP 194 [(G1 1),(G1 0)] [(some 1)] [29,31] [35,35] 35 true (aP 155 [(W 1 1),(G1 5)] [(some 2)] [27,32] [4,35] 37 true Lp)) (aP 194 [(G1 0),(G1 1)] [(some 1)] [37,39] [35,35] 35 true (aP 155 [(W 0 1),(G1 5)] [(some 2)] [35,40] [4,35] 37 true Lp))))))
theorem al8:aN prog f154 (fun _=>none) [.v (some 2), .v (some 2)]=aQ8:=by kernel_rfl
def aL5:Tr:=aP 179 [(G1 3)] [none] [17] [35] 4 false (.need (.prim [(W 4 0)] none) (.unOp .not 4 (tT 18)) 4 false (.split (.u 5 0) (.need (.call 195 [(.one (.c (.k (.int .u64 1))))] [(some 1)]) (.call ⟨.value (.func 195),#[(.const (.int .u64 1))],#[254]⟩) 35 true (aP 196 [(G1 2),(G1 6)] [(some 1)] [21,22] [35,35] 35 true (aP 155 [(W 0 1),(G1 7)] [(some 2)] [25,26] [4,35] 37 true (.ret [(G2 8)])))) (aP 155 [(W 0 1),(G1 2)] [(some 2)] [25,26] [4,35] 37 true Lp)))
def aP1:Tr:=aP 193 [(G1 0),(G1 1)] [(some 1),(some 1)] [9,10] [35,35] 251 false (.split (.u 0 1) aL5 (aP 155 [(W 0 1),(G1 2)] [(some 2)] [25,26] [4,35] 37 true Oo))
theorem Tq:aN prog f294 (fun _=>none) [.v (some 2), .v (some 1)]=aP1:=by kernel_rfl
def aF7:Tr:=bB .lss 2 3 0 0 0 4 (.split (.u 1 0) (.need (.prim [(W 0 0)] none) (.convert 2 254 (tT 5)) 254 false (.need (.prim [(W 2 0)] none) (.unOp .neg 254 (tT 6)) 254 false (aP 195 [(W 3 0)] [(some 1)] [7] [254] 35 true (.need (.call 155 [(tF true),(G1 4)] [(some 2)]) (.call ⟨.value (.func 155),#[(.const (.bool true)),(tT 8)],#[4,35]⟩) 37 true (.ret [(G2 5)]))))) (.need (.prim [(W 0 0)] none) (.convert 2 254 (tT 10)) 254 false (aP 195 [(W 2 0)] [(some 1)] [11] [254] 35 true (.need (.call 155 [(tF false),(G1 3)] [(some 2)]) (.call ⟨.value (.func 155),#[(.const (.bool false)),(tT 12)],#[4,35]⟩) 37 true Oo))))
theorem VW:aN prog f158 (fun _=>none) [.v none]=aF7:=by kernel_rfl
theorem fE {n B:Nat} (h:n<2^B):(dg n).length≤B:=
 CB (Nat.lt_of_lt_of_le h (Nat.pow_le_pow_left (by omega) B))
theorem Nc {n:Nat} (h:(dg n).length≤2):n<1000000000000000000:=by
 have h1:=Gl n;have h2:1000000000^(dg n).length≤1000000000^2:=Nat.pow_le_pow_right (by omega) h;rw [show (1000000000:Nat)^2=1000000000000000000 by decide] at h2;omega
theorem ak9 (n:Nat):aK prog 192 [(mT n:aG)] (.ret [.one (.bool (decide (n=1)))]):=by
 refine aD (args:=[.v (some 1)]) (ins:=[.v (mT n)]) (hints:=(fun _=>none)) fo (by kernel_rfl) func192 ⟨rfl,trivial⟩ ?_;rw [ai2];dsimp only [List.map,In.env,aA,aB];refine vn (aQ dE (List.length_map _)) rfl ?_;dsimp only [aA,aB];refine vn bW rfl ?_;dsimp only [aA,aB];refine vs _ rfl (fun h2=>?_) (fun h2=>?_)
 ·obtain ⟨d,hd⟩:∃ d,dg n = [d]:=by
   match h:dg n with
   | [d]=>exact ⟨d,rfl⟩
   | []=>rw [h] at h2;simp at h2
   | _::_::_=>rw [h] at h2;simp at h2;omega
  have hv:=gD n;rw [hd] at hv;refine vn (aY dE (by omega) (by omega) (show (dg n)[0]? = some d by rw [hd];rfl)) rfl ?_;dsimp only [aA,aB];refine vn (bH yY) rfl ?_;dsimp only [aA,aB];refine vn bW rfl ?_;dsimp only [aA,aB];refine aL ?_;have hv:d=n:=by simpa [lv,val] using hv
  subst hv;show [aG.one (.bool (decide ((d:Int)=1)))]=_;have e:((d:Int)=1)↔d=1:=by omega
  simp only [e]
 refine aL ?_
 have:¬ n=1:=fun e=>by
  subst e;rw [pP (by omega) (by omega)] at h2;exact h2 rfl
 simp [this];rfl
set_option maxHeartbeats 1000000 in
theorem RB (a b:Nat) (hs:(dg (max a b)).length<137438953472):aK prog 191 [(mT a:aG),(mT b:aG)] (.ret [mT (Nat.gcd a b)]):=by
 refine aD (args:=[.v (some 1), .v (some 1)]) (ins:=[.v (mT a), .v (mT b)]) (hints:=(fun _=>none)) fo (by kernel_rfl) func191 ⟨rfl,rfl,trivial⟩ ?_;rw [Sl];dsimp only [List.map,In.env,aA,aB];refine bF {p:Nat×Nat // Nat.gcd p.1 p.2=Nat.gcd a b∧p.1≤max a b∧p.2≤max a b} (fun p=>[.one (dT p.1.1), .one (dT p.1.2), .one (.exact (.slice none 0 0))]) (fun p=>p.1.2) ⟨(a,b),rfl,by omega,by omega⟩ aO.rfl (fun _=>rfl) ?_;rintro ⟨⟨x,y⟩,hg,hx,hy⟩;dsimp only [aA,aB] at hg hx hy ⊢;have hxl:=kV hx;have hyl:=kV hy;refine aC (zH y) rfl ?_;dsimp only [aA,aB];refine vn FA rfl ?_;dsimp only [aA,aB];refine vs _ rfl (fun h3=>?_) (fun h3=>?_)
 ·have hy0:0<y:=by omega
  refine vn (aQ dE (List.length_map _)) rfl ?_;dsimp only [aA,aB];refine vn gW rfl ?_;dsimp only [aA,aB];refine vs _ rfl (fun h6=>?_) (fun h6=>?_)
  ·refine vn (aQ dE (List.length_map _)) rfl ?_;dsimp only [aA,aB];refine vn gW rfl ?_;dsimp only [aA,aB];refine vs _ rfl (fun h9=>?_) (fun h9=>?_)
   ·refine aC (UW x (Nc (by omega))) rfl ?_;dsimp only [aA,aB];refine aC (UW y (Nc (by omega))) rfl ?_;dsimp only [aA,aB];have hx18:=Nc (n:=x) (by omega);have hy18:=Nc (n:=y) (by omega);clear hxl hyl;refine bF {p:Nat×Nat // Nat.gcd p.1 p.2=Nat.gcd a b∧p.1<1000000000000000000∧p.2<1000000000000000000} (fun p=>[.one (.int .u64 p.1.1), .one (.int .u64 p.1.2)]) (fun p=>p.1.2) ⟨(x,y),hg,hx18,hy18⟩ aO.rfl (fun _=>rfl) ?_;rintro ⟨⟨p,q⟩,hpq,hp,hq⟩;dsimp only [aA,aB] at hpq hp hq ⊢;refine vn iP rfl ?_;dsimp only [aA,aB];refine vs _ rfl (fun h14=>?_) (fun h14=>?_)
    ·refine vn (CT (c:=((p%q:Nat):Int)) (by omega) (by rw [Int.tmod_eq_emod_of_nonneg (pA _),←Int.natCast_emod])) rfl ?_;dsimp only [aA,aB];exact aU rfl ⟨⟨(q,p%q),by rw [←hpq,Nat.gcd_comm p q,Nat.gcd_rec q p,Nat.gcd_comm],hq,Nat.lt_of_le_of_lt (Nat.mod_le _ _) hp⟩,aO.rfl,Nat.mod_lt _ (by omega)⟩
    have hq0:q=0:=by omega
    subst hq0;rw [Nat.gcd_zero_right] at hpq;refine aC (hU p (by omega)) rfl ?_;dsimp only [aA,aB];rw [hpq];exact aL rfl
   refine aC (Dn x y hy0 (by omega)) rfl ?_;dsimp only [aA,aB];exact aU rfl ⟨⟨(y,x%y),by rw [←hg,Nat.gcd_comm x y,Nat.gcd_rec y x,Nat.gcd_comm],hy,Nat.le_trans (Nat.mod_le _ _) hx⟩,aO.rfl,Nat.mod_lt _ hy0⟩
  refine aC (Dn x y hy0 (by omega)) rfl ?_;dsimp only [aA,aB];exact aU rfl ⟨⟨(y,x%y),by rw [←hg,Nat.gcd_comm x y,Nat.gcd_rec y x,Nat.gcd_comm],hy,Nat.le_trans (Nat.mod_le _ _) hx⟩,aO.rfl,Nat.mod_lt _ hy0⟩
 have hy0:y=0:=by omega
 subst hy0;rw [Nat.gcd_zero_right] at hg;rw [hg];exact aL rfl
theorem JM {a B n:Nat} (h:a<2^B) (hB:1≤B):a^n<2^(B*n+1):=by
 rw [Nat.pow_succ,Nat.pow_mul];have h1:a^n≤(2^B)^n:=Nat.pow_le_pow_left (Nat.le_of_lt h) n;have h2:0<(2^B)^n:=Nat.pow_pos (Nat.pow_pos (by omega));omega
structure Gf (a n:Nat) (k x y:Nat):Prop where
 eq:y*x^k=a^n
 z:a=0→x=0
 x1:k≠0→x≤max 1 (a^n)
 y1:y≤max 1 (a^n)
theorem Gf.mk' {a n k x y:Nat} (hn:n≠0) (eq:y*x^k=a^n) (z:a=0→x=0) (hy:x=0→y≤1):Gf a n k x y:=by
 have hk:∀ t,0<t→t≤x→0<x^k:=fun t h1 h2=>Nat.pow_pos (by omega);refine ⟨eq,z,fun h0=>?_,?_⟩
 ·rcases Nat.eq_zero_or_pos x with hx | hx
  ·omega
  ·rcases Nat.eq_zero_or_pos y with hy0 | hy0
   ·rw [hy0,Nat.zero_mul] at eq;have:=z (Nat.eq_zero_of_not_pos fun ha=>by have:=Nat.pow_pos (n:=n) ha;omega);omega
   ·have h1:x≤x^k:=Nat.le_self_pow h0 x;have h2:x^k≤y*x^k:=Nat.le_mul_of_pos_left _ hy0;omega
 ·rcases Nat.eq_zero_or_pos x with hx | hx
  ·have:=hy hx;omega
  ·have h2:y≤y*x^k:=Nat.le_mul_of_pos_right _ (Nat.pow_pos hx);omega
set_option maxHeartbeats 1000000 in
theorem NB (a n:Nat) (B:Nat) (hB:1≤B) (ha:a<2^B) (hn:n<1099511627776) (hs:B*n<137438953472):aK prog 282 [(mT a:aG),(.one (.int .i64 n):aG)] (.ret [mT (a^n)]):=by
 refine aD (args:=[.v (some 1), .v none]) (ins:=[.v (mT a), .v (.one (.int .i64 n))]) (hints:=(fun _=>none)) fo (by kernel_rfl) func282 ⟨rfl,rfl,trivial⟩ ?_;rw [VH];dsimp only [List.map,In.env,aA,aB]
 have hbd:∀ j,j≤max 1 (a^n)→(dg j).length≤B*n+1:=fun j hj=>fE (by
  have h1:=JM (n:=n) ha hB;have h2:2^1≤2^(B*n+1):=Nat.pow_le_pow_right (by omega) (by omega);omega)
 refine aC (hU 1 (by omega)) rfl ?_;dsimp only [aA,aB];refine bF {p:Nat×Nat×Nat // Gf a n p.1 p.2.1 p.2.2∧(p.1≠0→n≠0)∧(p.2.1=0→p.2.2≤1)∧p.1≤n} (fun p=>[.one (.int .i64 p.1.1), .one (dT p.1.2.1), .one (dT p.1.2.2)]) (fun p=>p.1.1) ⟨(n,a,1),⟨by simp,fun h=>h,fun h=>by have:=Nat.le_self_pow h a;show a≤max 1 (a^n);exact Nat.le_trans this (Nat.le_max_right _ _),Nat.le_max_left _ _⟩,fun h=>h,fun _=>Nat.le_refl _,Nat.le_refl _⟩ aO.rfl (fun _=>rfl) ?_;rintro ⟨⟨k,x,y⟩,hI,hn0,hy1,hkn⟩;dsimp only [aA,aB] at hI hn0 hy1 hkn ⊢;have hyl:=hbd y hI.y1;refine vn eF rfl ?_;dsimp only [aA,aB];refine vs _ rfl (fun h3=>?_) (fun h3=>?_)
 ·have hk0:k≠0:=by omega
  have hnn:=hn0 hk0;have hxl:=hbd x (hI.x1 hk0)
  have hev:k%2=0→y*(x*x)^(k/2)=a^n:=fun h=>by
   rw [←hI.eq,←Nat.pow_two,←Nat.pow_mul];congr 2;omega
  have hod:k%2=1→y*x*(x*x)^(k/2)=a^n:=fun h=>by
   rw [←hI.eq,←Nat.pow_two,←Nat.pow_mul,Nat.mul_assoc,←Nat.pow_succ'];congr 2;omega
  have hz2:a=0→x*x=0:=fun h=>by rw [hI.z h]
  have hx2:x*x=0→x=0:=fun h=>by rcases Nat.mul_eq_zero.1 h with h | h<;>exact h
  have hyx2:x=0→y*x≤1:=fun h=>by rw [h];omega
  refine vn (gK (by omega) (by omega)) rfl ?_;dsimp only [aA,aB];refine vn bW rfl ?_;dsimp only [aA,aB];refine vs _ rfl (fun h6=>?_) (fun h6=>?_)
  ·refine aC (iZ y x (by omega)) rfl ?_;dsimp only [aA,aB];refine vn eF rfl ?_;dsimp only [aA,aB];refine vs _ rfl (fun h9=>?_) (fun h9=>?_)
   ·refine aC (iZ x x (by omega)) rfl ?_;dsimp only [aA,aB];refine vn (iJ (by omega) (by omega) (by omega)) rfl ?_;dsimp only [aA,aB];exact aU rfl ⟨⟨(k/2,x*x,y*x),Gf.mk' hnn (hod (by omega)) hz2 (hyx2 ∘ hx2),fun _=>hnn,hyx2 ∘ hx2,by show k/2≤n;omega⟩,aO.rfl,by show k/2<k;omega⟩
   refine vn (iJ (by omega) (by omega) (by omega)) rfl ?_;dsimp only [aA,aB];have hk1:k=1:=by omega
   subst hk1;exact aU rfl ⟨⟨(1/2,x,y*x),Gf.mk' hnn (by have:=hI.eq;rw [Nat.pow_one] at this;simpa using this) hI.z hyx2,fun _=>hnn,hyx2,by show 1/2≤n;omega⟩,aO.rfl,by show 1/2<1;omega⟩
  refine vn eF rfl ?_;dsimp only [aA,aB];refine vs _ rfl (fun h16=>?_) (fun h16=>?_)
  ·refine aC (iZ x x (by omega)) rfl ?_;dsimp only [aA,aB];refine vn (iJ (by omega) (by omega) (by omega)) rfl ?_;dsimp only [aA,aB];exact aU rfl ⟨⟨(k/2,x*x,y),Gf.mk' hnn (hev (by omega)) hz2 (fun h=>hy1 (hx2 h)),fun _=>hnn,fun h=>hy1 (hx2 h),by show k/2≤n;omega⟩,aO.rfl,by show k/2<k;omega⟩
  exfalso;omega
 have hk0:k=0:=by omega
 subst hk0;have:=hI.eq;rw [Nat.pow_zero,Nat.mul_one] at this;rw [this];exact aL rfl
open Go Go.Proofs Tryz Ord
def aH9:Tr:=.split (.u 4 0) (aP 193 [(G1 0),(G1 2)] [(some 1),(some 1)] [15,16] [35,35] 251 false (aP 193 [(G1 1),(G1 2)] [(some 1),(some 1)] [22,23] [35,35] 251 false (aP 155 [(W 0 1),(G1 5)] [(some 2)] [28,30] [4,35] 37 false (.need (.call 195 [(.one (.c (.k (.int .u64 1))))] [(some 1)]) (.call ⟨.value (.func 195),#[(.const (.int .u64 1))],#[254]⟩) 35 false (aP 194 [(G1 7),(G1 10)] [(some 1)] [32,33] [35,35] 35 true (.ret [(.agg [(U 9 0),(U 9 1),(U 11 0)])])))))) (aP 155 [(W 0 1),(G1 0)] [(some 2)] [28,30] [4,35] 37 false (.need (.call 195 [(.one (.c (.k (.int .u64 1))))] [(some 1)]) (.call ⟨.value (.func 195),#[(.const (.int .u64 1))],#[254]⟩) 35 false (aP 194 [(G1 1),(G1 6)] [(some 1)] [32,33] [35,35] 35 true (.ret [(.agg [(U 5 0),(U 5 1),(U 7 0)])]))))
def aG7:Tr:=aP 191 [(G1 0),(G1 1)] [(some 1)] [7,8] [35,35] 35 true (aP 192 [(G1 2)] [none] [10] [35] 4 true (.need (.prim [(W 3 0)] none) (.unOp .not 4 (tT 11)) 4 false aH9))
theorem Xj:aN prog f115 (fun _=>none) [.v (some 2), .v (some 1)]=aG7:=by kernel_rfl
def aM1:Tr:=.need (.call 195 [(.one (.c (.k (.int .u64 1))))] [(some 1)]) (.call ⟨.value (.func 195),#[(.const (.int .u64 1))],#[254]⟩) 35 true (aP 196 [(.agg [(U 0 2)]),(G1 1)] [(some 1)] [4,5] [35,35] 35 true Uu)
theorem Qg:aN prog f117 (fun _=>none) [.v (some 3)]=aM1:=by kernel_rfl
def aQ2:Tr:=.ret [(.agg [(U 0 0),(U 0 1),tN])]
theorem Zb:aN prog f157 (fun _=>none) [.v (some 2)]=aQ2:=by kernel_rfl
def aE2:Tr:=aP 158 [(W 0 0)] [(some 2)] [3] [2] 37 true (aP 157 [(G2 1)] [(some 3)] [4] [37] 39 true (.ret [(G3 2)]))
theorem aN8:aN prog f68 (fun _=>none) [.v none]=aE2:=by kernel_rfl
def aV6:Tr:=.need (.prim [(W 0 0),(W 1 0)] none) (.call ⟨.builtin .min,#[(tT 5),(tT 6)],#[3,3]⟩) 3 false (.need (.prim [(WK 0),(W 2 0)] none) (.call ⟨.builtin .max,#[(.const (I3 0)),(tT 7)],#[3,3]⟩) 3 false (.ret [(W 3 0)]))
theorem RN:aN prog f283 (fun _=>none) [.v none, .v none]=aV6:=by kernel_rfl
def aD8:Tr:=aP 114 [(G2 0)] [none] [4] [37] 3 true (.ret [(W 1 0)])
theorem YE:aN prog f35 (fun _=>none) [.v (some 3)]=aD8:=by kernel_rfl
def aV1:Tr:=.need (.prim [(W 0 1)] none) (.unOp .not 4 (tT 5)) 4 false (aP 155 [(W 1 0),(G1 0)] [(some 2)] [6,9] [4,35] 37 false (.ret [(.agg [(U 2 0),(U 2 1),(U 0 2)])]))
theorem av9:aN prog f65 (fun _=>none) [.v (some 3)]=aV1:=by kernel_rfl
def aU4:Tr:=.need (.call 155 [(tF false),(G1 0)] [(some 2)]) (.call ⟨.value (.func 155),#[(.const (.bool false)),(tT 5)],#[4,35]⟩) 37 false (.ret [(.agg [(U 1 0),(U 1 1),(U 0 2)])])
theorem ar6:aN prog f146 (fun _=>none) [.v (some 3)]=aU4:=by kernel_rfl
def aW8:Tr:=aP 117 [(G3 1)] [(some 1)] [9] [39] 35 true (aP 116 [(G2 0),(.agg [(U 3 0),(tE (.bool false))])] [(some 2)] [12,14] [37,37] 37 false (aP 116 [(G2 1),(.agg [(U 2 0),(tE (.bool false))])] [(some 2)] [17,19] [37,37] 37 false (aP 154 [(G2 4),(G2 5)] [(some 2)] [15,20] [37,37] 37 false (aP 118 [(G1 2),(G1 3)] [(some 1)] [22,23] [35,35] 35 true (aP 115 [(G2 6),(G1 7)] [(some 3)] [21,24] [37,35] 39 true (.ret [(G3 8)]))))))
def aN0:Tr:=aP 117 [(G3 0)] [(some 1)] [7] [39] 35 false aW8
theorem aj8:aN prog f64 (fun _=>none) [.v (some 3), .v (some 3)]=aN0:=by kernel_rfl
def aI7:Tr:=aP 65 [(G3 1)] [(some 3)] [6] [39] 39 true (aP 64 [(G3 0),(G3 2)] [(some 3)] [5,7] [39,39] 39 true (.ret [(G3 3)]))
theorem aB0:aN prog f167 (fun _=>none) [.v (some 3), .v (some 3)]=aI7:=by kernel_rfl
def aW5:Tr:=aP 116 [(G2 0),(G2 1)] [(some 2)] [6,8] [37,37] 37 false (aP 117 [(G3 0)] [(some 1)] [10] [39] 35 false (aP 117 [(G3 1)] [(some 1)] [12] [39] 35 false (aP 118 [(G1 3),(G1 4)] [(some 1)] [11,13] [35,35] 35 true (aP 115 [(G2 2),(G1 5)] [(some 3)] [9,14] [37,35] 39 true (.ret [(G3 6)])))))
theorem at3:aN prog f36 (fun _=>none) [.v (some 3), .v (some 3)]=aW5:=by kernel_rfl
def aG4:Tr:=aP 117 [(G3 1)] [(some 1)] [10] [39] 35 false (aP 155 [(W 1 1),(G1 2)] [(some 2)] [9,11] [4,35] 37 false (aP 116 [(G2 0),(G2 3)] [(some 2)] [6,12] [37,37] 37 false (aP 117 [(G3 0)] [(some 1)] [14] [39] 35 false (aP 118 [(G1 5),(G1 1)] [(some 1)] [15,18] [35,35] 35 true (aP 115 [(G2 4),(G1 6)] [(some 3)] [13,19] [37,35] 39 true (.ret [(G3 7)]))))))
theorem XQ:aN prog f255 (fun _=>none) [.v (some 3), .v (some 3)]=aG4:=by kernel_rfl
def aD9:Tr:=aP 35 [(G3 1)] [none] [6] [39] 3 true (bB .eql 3 7 0 2 0 4 (.split (.u 3 0) (.ret [(.agg [tN,(tE (.bool false)),tN]),(WK 9)]) (aP 255 [(G3 0),(G3 1)] [(some 3)] [10,11] [39,39] 39 true (.ret [(G3 4),(WK 0)]))))
theorem au4:aN prog f200 (fun _=>none) [.v (some 3), .v (some 3)]=aD9:=by kernel_rfl
def aR0:Tr:=aP 68 [(W 0 0)] [(some 3)] [6] [2] 39 false (aP 68 [(W 1 0)] [(some 3)] [8] [2] 39 false (aP 200 [(G3 2),(G3 3)] [(some 3),none] [7,9] [39,39] 90 true (.ret [(G3 4),(W 5 0)])))
theorem ba9:aN prog f120 (fun _=>none) [.v none, .v none]=aR0:=by kernel_rfl
def ar0:Tr:=aP 117 [(G3 1)] [(some 1)] [31] [39] 35 false (aP 118 [(G1 0),(G1 7)] [(some 1)] [30,32] [35,35] 35 false (aP 117 [(G3 0)] [(some 1)] [37] [39] 35 false (aP 118 [(G1 1),(G1 9)] [(some 1)] [36,38] [35,35] 35 false (aP 119 [(G1 8),(G1 10)] [none] [33,39] [35,35] 3 true (bR .mul 3 27 40 6 0 11 0 3 (.ret [(W 12 0)]))))))
def aM0:Tr:=bB .eql 3 15 0 2 0 4 (.split (.u 5 0) (bR .sub 3 18 19 2 0 3 0 3 (bR .sub 3 21 22 2 0 3 0 3 (bB .quo 3 23 2 7 0 3 (bR .sub 3 20 24 6 0 8 0 3 (.ret [(W 9 0)]))))) (aP 35 [(G3 0)] [none] [26] [39] 3 false ar0))
def aM4:Tr:=bR .neq 3 11 12 2 0 3 0 4 (.split (.u 4 0) (bR .sub 3 18 19 2 0 3 0 3 (bR .sub 3 21 22 2 0 3 0 3 (bB .quo 3 23 2 6 0 3 (bR .sub 3 20 24 5 0 7 0 3 (.ret [(W 8 0)]))))) aM0)
def aG1:Tr:=aP 35 [(G3 0)] [none] [7] [39] 3 false (aP 35 [(G3 1)] [none] [9] [39] 3 true aM4)
theorem aw0:aN prog f38 (fun _=>none) [.v (some 3), .v (some 3)]=aG1:=by kernel_rfl
theorem GZ (x y:Int) (hs:(dg x.natAbs).length+(dg y.natAbs).length<1099511627776):aK prog 116 [(iT x:aG),(iT y:aG)] (.ret [iT (x*y)]):=by
 refine aD (args:=[.v (some 2), .v (some 2)]) (ins:=[.v (iT x), .v (iT y)]) (hints:=(fun _=>none)) fo (by kernel_rfl) func116 ⟨rfl,rfl,trivial⟩ ?_;rw [ao6];dsimp only [List.map,In.env,aA,aB];refine vn (aj7 un4) rfl ?_;dsimp only [aA,aB];refine aC (iZ _ _ hs) rfl ?_;dsimp only [aA,aB]
 refine aC (eJ _ _ (x*y) (by
  rw [←Int.natAbs_mul];have hsg:(x*y).natAbs=x.natAbs*y.natAbs:=Int.natAbs_mul _ _;by_cases h1:x<0<;>by_cases h2:y<0<;>simp only [h1,h2,decide_true,decide_false,ne_eq,not_true_eq_false,not_false_eq_true,Bool.true_eq_false,Bool.false_eq_true,if_true,if_false]
  ·have:=Int.mul_pos_of_neg_of_neg h1 h2;omega
  ·have:=Int.mul_nonpos_of_nonpos_of_nonneg (Int.le_of_lt h1) (Int.not_lt.1 h2);omega
  ·have:=Int.mul_nonpos_of_nonneg_of_nonpos (Int.not_lt.1 h1) (Int.le_of_lt h2);omega
  ·have:=Int.mul_nonneg (Int.not_lt.1 h1) (Int.not_lt.1 h2);omega)) rfl ?_
 exact aL rfl
theorem am7 (x y:Int) (hs:(dg x.natAbs).length+(dg y.natAbs).length<1099511627776):aK prog 154 [(iT x:aG),(iT y:aG)] (.ret [iT (x+y)]):=by
 refine aD (args:=[.v (some 2), .v (some 2)]) (ins:=[.v (iT x), .v (iT y)]) (hints:=(fun _=>none)) fo (by kernel_rfl) func154 ⟨rfl,rfl,trivial⟩ ?_;rw [al8];dsimp only [List.map,In.env,aA,aB];refine vn (am9 un4) rfl ?_;dsimp only [aA,aB];refine vs _ rfl (fun h1=>?_) (fun h1=>?_)
 ·have h1:x<0↔y<0:=by simpa using h1
  refine aC (Ma _ _ hs) rfl ?_;dsimp only [aA,aB];refine aC (eJ _ _ (x+y) (by by_cases h2:x<0<;>simp only [h2,decide_true,decide_false,Bool.false_eq_true,if_true,if_false]<;>omega)) rfl ?_;exact aL rfl
 have h1:¬ (x<0↔y<0):=by simpa using h1
 refine aC (uJ _ _ hs) rfl ?_;dsimp only [aA,aB];refine vn bE rfl ?_;dsimp only [aA,aB];rw [show decide (eE (x.natAbs:Int) (y.natAbs:Int)<0)=decide (x.natAbs<y.natAbs) by rw [decide_eq_decide,sH];omega];refine vs _ rfl (fun h7=>?_) (fun h7=>?_)
 ·refine aC (Hd _ _ (by omega) (by omega) (by omega)) rfl ?_;dsimp only [aA,aB];refine aC (eJ _ _ (x+y) (by by_cases h2:y<0<;>simp only [h2,decide_true,decide_false,Bool.false_eq_true,if_true,if_false]<;>omega)) rfl ?_;exact aL rfl
 refine aC (Hd _ _ (by omega) (by omega) (by omega)) rfl ?_;dsimp only [aA,aB];refine aC (eJ _ _ (x+y) (by by_cases h2:x<0<;>simp only [h2,decide_true,decide_false,Bool.false_eq_true,if_true,if_false]<;>omega)) rfl ?_;exact aL rfl
theorem DE (x:Int) (d:Nat) (hd:0<d):x/(d:Int)=if x<0 then (if x.natAbs%d=0 then -((x.natAbs/d:Nat):Int) else -((x.natAbs/d+1:Nat):Int)) else ((x.natAbs/d:Nat):Int):=by
 by_cases h:x<0
 ·rw [if_pos h];have hx:x = -(x.natAbs:Int):=by omega
  generalize x.natAbs=n at hx;subst hx;have h1:=Nat.div_add_mod n d;split
  ·rename_i h0;have:(n:Int)=(d:Int)*((n/d:Nat):Int):=by rw [←Int.natCast_mul];omega
   conv=>lhs;rw [this]
   rw [←Int.mul_neg,Int.mul_ediv_cancel_left _ (by omega)]
  ·rename_i h0;have h2:=Nat.mod_lt n hd;rw [Int.ediv_eq_iff_of_pos (by omega)];have e1:((n:Nat):Int)=(d:Int)*((n/d:Nat):Int)+((n%d:Nat):Int):=by rw [←Int.natCast_mul];omega
   generalize n/d=q at *;generalize n%d=r at *
   constructor
   ·rw [e1];simp only [Int.natCast_add,Int.mul_add,Int.neg_add,Int.add_mul,Int.neg_mul,Int.natCast_one,Int.one_mul];rw [Int.mul_comm (q:Int)];omega
   ·rw [e1];simp only [Int.natCast_add,Int.mul_add,Int.neg_add,Int.add_mul,Int.neg_mul,Int.natCast_one,Int.one_mul];rw [Int.mul_comm (q:Int)];omega
 ·rw [if_neg h,Int.natCast_ediv]
  congr 1;omega
theorem SG (x:Int) (d:Nat) (hd:0<d) (hs:(dg x.natAbs).length+(dg d).length<274877906944):aK prog 294 [(iT x:aG),(mT d:aG)] (.ret [iT (x/(d:Int))]):=by
 refine aD (args:=[.v (some 2), .v (some 1)]) (ins:=[.v (iT x), .v (mT d)]) (hints:=(fun _=>none)) fo (by kernel_rfl) func294 ⟨rfl,rfl,trivial⟩ ?_;rw [Tq];dsimp only [List.map,In.env,aA,aB];have hle:=kV (Nat.div_le_self x.natAbs d);refine aC (Dn _ _ hd (by omega)) rfl ?_;dsimp only [aA,aB];refine vs _ rfl (fun h1=>?_) (fun h1=>?_)
 ·refine aC (zH _) rfl ?_;dsimp only [aA,aB];refine vn FA rfl ?_;dsimp only [aA,aB];refine vs _ rfl (fun h4=>?_) (fun h4=>?_)
  ·refine aC (hU 1 (by omega)) rfl ?_;dsimp only [aA,aB];refine aC (Ma _ _ (by rw [pP (n:=1) (by omega) (by omega)];simp;omega)) rfl ?_;dsimp only [aA,aB];refine aC (eJ _ _ (x/(d:Int)) (by rw [DE x d hd,if_pos h1,if_neg h4,decide_eq_true h1,if_pos rfl])) rfl ?_;exact aL rfl
  refine aC (eJ _ _ (x/(d:Int)) (by rw [DE x d hd,if_pos h1,if_pos (by simpa using h4),decide_eq_true h1,if_pos rfl])) rfl ?_;exact aL rfl
 refine aC (eJ _ _ (x/(d:Int)) (by rw [DE x d hd,if_neg h1,decide_eq_false h1,if_neg (by simp)])) rfl ?_;exact aL rfl
theorem GF (n:Int) (h1:-9223372036854775808≤n) (h2:n<9223372036854775808):aK prog 158 [(.one (.int .i64 n):aG)] (.ret [iT n]):=by
 refine aD (args:=[.v none]) (ins:=[.v (.one (.int .i64 n))]) (hints:=(fun _=>none)) fo (by kernel_rfl) func158 ⟨rfl,trivial⟩ ?_;rw [VW];dsimp only [List.map,In.env,aA,aB];refine vn bE rfl ?_;dsimp only [aA,aB];refine vs _ rfl (fun h1=>?_) (fun h1=>?_)
 ·refine vn (iD ⟨_,Vg⟩ gT (c:=n+18446744073709551616) (by rw [IntKind.wrap_u64];omega)) rfl ?_;dsimp only [aA,aB];refine vn (Zq (c:=((n.natAbs:Nat):Int)) (by rw [IntKind.wrap_u64];omega)) rfl ?_;dsimp only [aA,aB];refine aC (hU _ (by omega)) rfl ?_;dsimp only [aA,aB];refine aC (eJ true _ n (by rw [if_pos rfl];omega)) rfl ?_;exact aL rfl
 refine vn (iD ⟨_,Vg⟩ gT (c:=((n.natAbs:Nat):Int)) (by rw [IntKind.wrap_u64];omega)) rfl ?_;dsimp only [aA,aB];refine aC (hU _ (by omega)) rfl ?_;dsimp only [aA,aB];refine aC (eJ false _ n (by rw [if_neg (by simp)];omega)) rfl ?_;exact aL rfl
abbrev qC (q:Rat):List aI:=[dT q.num.natAbs, .bool (decide (q.num<0)),dT (q.den-1)]
abbrev qT (q:Rat):aG:=.agg (qC q)
theorem eV:aX aI.Sub [.exact (.slice none 0 0), .bool false, .exact (.slice none 0 0)] (qC 0):=⟨jB rfl,aI.Sub.same,jB rfl,trivial⟩
theorem SH {z:Int} {d:Nat} (hd:d≠0):(mkRat z d).num=(if decide (z<0)=true then -((z.natAbs/z.natAbs.gcd d:Nat):Int) else ((z.natAbs/z.natAbs.gcd d:Nat):Int))∧(mkRat z d).den=d/z.natAbs.gcd d:=by
 rw [←Rat.normalize_eq_mkRat hd,Rat.normalize_eq hd];refine ⟨?_,rfl⟩;show z/_=_;have hg:0<z.natAbs.gcd d:=Nat.gcd_pos_of_pos_right _ (by omega);have hdv:(((z.natAbs.gcd d:Nat)):Int)∣z:=Int.ofNat_dvd_left.2 (Nat.gcd_dvd_left _ _);have h1:=Int.natAbs_ediv_of_dvd hdv;rw [Int.natAbs_natCast] at h1;by_cases h:z<0
 ·rw [decide_eq_true h,if_pos rfl,←h1];have:=Int.ediv_neg_of_neg_of_pos h (b:=((z.natAbs.gcd d:Nat):Int)) (by omega);omega
 ·rw [decide_eq_false h,if_neg (by simp),←h1];have:=Int.ediv_nonneg (Int.not_lt.1 h) (b:=((z.natAbs.gcd d:Nat):Int)) (by omega);omega
theorem yL (z:Int) (d:Nat) (hd:0<d) (hs:(dg z.natAbs).length+(dg d).length<137438953472):aK prog 115 [(iT z:aG),(mT d:aG)] (.ret [qT (mkRat z d)]):=by
 refine aD (args:=[.v (some 2), .v (some 1)]) (ins:=[.v (iT z), .v (mT d)]) (hints:=(fun _=>none)) fo (by kernel_rfl) func115 ⟨rfl,rfl,trivial⟩ ?_;rw [Xj];dsimp only [List.map,In.env,aA,aB];have hg:0<z.natAbs.gcd d:=Nat.gcd_pos_of_pos_right _ hd;have hgd:z.natAbs.gcd d≤d:=Nat.gcd_le_right _ hd;have hgl:=kV hgd;obtain ⟨hm1,hm2⟩:=SH (z:=z) (d:=d) (by omega);have hq:0<d/z.natAbs.gcd d:=Nat.div_pos hgd hg;have hql:=kV (Nat.div_le_self d (z.natAbs.gcd d));have hone:(dg 1).length=1:=by rw [pP (by omega) (by omega)];rfl
 generalize hG:z.natAbs.gcd d=g at *
 refine aC (RB _ _ (by
  rcases Nat.le_total z.natAbs d with h | h
  ·rw [Nat.max_eq_right h];omega
  ·rw [Nat.max_eq_left h];omega)) rfl ?_
 rw [hG];dsimp only [aA,aB];refine aC (ak9 _) rfl ?_;dsimp only [aA,aB];refine vn FA rfl ?_;dsimp only [aA,aB];refine vs _ rfl (fun h3=>?_) (fun h3=>?_)
 ·refine aC (Dn _ _ hg (by omega)) rfl ?_;dsimp only [aA,aB];refine aC (Dn _ _ hg (by omega)) rfl ?_;dsimp only [aA,aB];refine aC (eJ _ _ (mkRat z d).num hm1) rfl ?_;dsimp only [aA,aB];refine aC (hU 1 (by omega)) rfl ?_;dsimp only [aA,aB];refine aC (Hd _ _ hq hq (by omega)) rfl ?_;rw [←hm2];exact aL rfl
 have hg1:g=1:=by simpa using h3
 subst hg1;rw [Nat.div_one] at hm1 hm2;refine aC (eJ _ _ (mkRat z d).num hm1) rfl ?_;dsimp only [aA,aB];refine aC (hU 1 (by omega)) rfl ?_;dsimp only [aA,aB];refine aC (Hd _ _ hd hd (by omega)) rfl ?_;dsimp only [aA,aB];refine aL ?_;show [aG.agg [dT _, .bool _,dT (d-1)]] = [aG.agg [_,_,dT ((mkRat z d).den-1)]];rw [hm2]
theorem eZ (q:Rat) (h:(dg q.den).length<1099511627775):aK prog 117 [(qT q:aG)] (.ret [mT q.den]):=by
 refine aD (args:=[.v (some 3)]) (ins:=[.v (qT q)]) (hints:=(fun _=>none)) fo (by kernel_rfl) func117 ⟨rfl,trivial⟩ ?_;rw [Qg];dsimp only [List.map,In.env,aA,aB];have hp:=q.den_pos;have hl:=kV (Nat.sub_le q.den 1);have hone:(dg 1).length=1:=by rw [pP (by omega) (by omega)];rfl
 refine aC (hU 1 (by omega)) rfl ?_;dsimp only [aA,aB];refine aC (Ma _ _ (by omega)) rfl ?_;rw [show q.den-1+1=q.den by omega];exact aL rfl
theorem Hl (z:Int):aK prog 157 [(iT z:aG)] (.ret [qT (z:Rat)]):=by
 refine aD (args:=[.v (some 2)]) (ins:=[.v (iT z)]) (hints:=(fun _=>none)) fo (by kernel_rfl) func157 ⟨rfl,trivial⟩ ?_;rw [Zb];dsimp only [List.map,In.env,aA,aB];exact eN ⟨⟨aI.Sub.same,aI.Sub.same,jB rfl,trivial⟩,trivial⟩
theorem iV (n:Int) (h1:-9223372036854775808≤n) (h2:n<9223372036854775808):aK prog 68 [(.one (.int .i64 n):aG)] (.ret [qT (n:Rat)]):=by
 refine aD (args:=[.v none]) (ins:=[.v (.one (.int .i64 n))]) (hints:=(fun _=>none)) fo (by kernel_rfl) func68 ⟨rfl,trivial⟩ ?_;rw [aN8];dsimp only [List.map,In.env,aA,aB];refine aC (GF _ h1 h2) rfl ?_;dsimp only [aA,aB];refine aC (Hl _) rfl ?_;exact aL rfl
theorem IU (n m:Int):aK prog 283 [(.one (.int .i64 n):aG),(.one (.int .i64 m):aG)] (.ret [.one (.int .i64 (max 0 (min n m)))]):=by
 refine aD (args:=[.v none, .v none]) (ins:=[.v (.one (.int .i64 n)), .v (.one (.int .i64 m))]) (hints:=(fun _=>none)) fo (by kernel_rfl) func283 ⟨rfl,rfl,trivial⟩ ?_;rw [RN];dsimp only [List.map,In.env,aA,aB];refine vn TR rfl ?_;dsimp only [aA,aB];refine vn UB rfl ?_;exact aL rfl
theorem oQ (q:Rat):aK prog 35 [(qT q:aG)] (.ret [.one (.int .i64 q.num.sign)]):=by
 refine aD (args:=[.v (some 3)]) (ins:=[.v (qT q)]) (hints:=(fun _=>none)) fo (by kernel_rfl) func35 ⟨rfl,trivial⟩ ?_;rw [YE];dsimp only [List.map,In.env,aA,aB];refine aC (Yl _) rfl ?_;exact aL rfl
theorem Fit.dl {B:Nat} {q:Rat} (h:Fit B q):(dg q.num.natAbs).length≤B∧(dg q.den).length≤B:=⟨fE h.1,fE h.2⟩
theorem De (q:Rat):aK prog 65 [(qT q:aG)] (.ret [qT (-q)]):=by
 refine aD (args:=[.v (some 3)]) (ins:=[.v (qT q)]) (hints:=(fun _=>none)) fo (by kernel_rfl) func65 ⟨rfl,trivial⟩ ?_;rw [av9];dsimp only [List.map,In.env,aA,aB];refine vn FA rfl ?_;dsimp only [aA,aB]
 refine aC (eJ _ _ (-q).num (by
  rw [Rat.neg_num];by_cases h:q.num<0<;>simp only [h,not_true_eq_false,not_false_eq_true,decide_true,decide_false,Bool.false_eq_true,if_true,if_false]<;>omega)) rfl ?_
 dsimp only [aA,aB];refine aL ?_;show [qT _]=_;simp only [qT,qC,Rat.neg_den]
theorem kO (q:Rat):q.abs.num=(q.num.natAbs:Int)∧q.abs.den=q.den:=by
 unfold Rat.abs;have h:=Rat.num_nonneg (q:=q);split
 ·rename_i h0;have:=h.2 h0;exact ⟨by omega,rfl⟩
 ·rename_i h0;have:¬ 0≤q.num:=fun e=>h0 (h.1 e);exact ⟨by rw [Rat.neg_num];omega,Rat.neg_den _⟩
theorem rA (q:Rat):aK prog 146 [(qT q:aG)] (.ret [qT q.abs]):=by
 refine aD (args:=[.v (some 3)]) (ins:=[.v (qT q)]) (hints:=(fun _=>none)) fo (by kernel_rfl) func146 ⟨rfl,trivial⟩ ?_;rw [ar6];dsimp only [List.map,In.env,aA,aB];refine aC (eJ false _ (q.abs).num (by rw [if_neg (by simp)];exact (kO q).1)) rfl ?_;dsimp only [aA,aB];refine aL ?_;show [aG.agg [dT q.abs.num.natAbs, .bool (decide (q.abs.num<0)),dT (q.den-1)]] = [qT q.abs];simp only [qT,qC,(kO q).2]
theorem cP (a b:Rat) (A B:Nat) (ha:Fit A a) (hb:Fit B b) (h:A+B≤34359738368):aK prog 36 [(qT a:aG),(qT b:aG)] (.ret [qT (a*b)]):=by
 refine aD (args:=[.v (some 3), .v (some 3)]) (ins:=[.v (qT a), .v (qT b)]) (hints:=(fun _=>none)) fo (by kernel_rfl) func36 ⟨rfl,rfl,trivial⟩ ?_;rw [at3];dsimp only [List.map,In.env,aA,aB];obtain ⟨ha1,ha2⟩:=Fit.dl ha;obtain ⟨hb1,hb2⟩:=Fit.dl hb;have hn:=fE (bI ha.1 hb.1);have hd:=fE (bI ha.2 hb.2);refine aC (GZ _ _ (by omega)) rfl ?_;dsimp only [aA,aB];refine aC (eZ a (by omega)) rfl ?_;dsimp only [aA,aB];refine aC (eZ b (by omega)) rfl ?_;dsimp only [aA,aB];refine aC (iZ _ _ (by omega)) rfl ?_;dsimp only [aA,aB];refine aC (yL _ _ (Nat.mul_pos a.den_pos b.den_pos) (by rw [Int.natAbs_mul];omega)) rfl ?_;rw [←Rat.mul_def'];exact aL rfl
theorem kF (a b:Rat) (A B:Nat) (ha:Fit A a) (hb:Fit B b) (h:A+B≤34359738368):aK prog 64 [(qT a:aG),(qT b:aG)] (.ret [qT (a+b)]):=by
 refine aD (args:=[.v (some 3), .v (some 3)]) (ins:=[.v (qT a), .v (qT b)]) (hints:=(fun _=>none)) fo (by kernel_rfl) func64 ⟨rfl,rfl,trivial⟩ ?_;rw [aj8];dsimp only [List.map,In.env,aA,aB];obtain ⟨ha1,ha2⟩:=Fit.dl ha;obtain ⟨hb1,hb2⟩:=Fit.dl hb;have hn1:=fE (bI ha.1 hb.2);have hn2:=fE (bI hb.1 ha.2);have hd:=fE (bI ha.2 hb.2)
 have hsum:(dg (a.num*(b.den:Int)+b.num*(a.den:Int)).natAbs).length≤A+B+1:=by
  apply fE;have h1:=bI ha.1 hb.2;have h2:=bI hb.1 ha.2;rw [Nat.add_comm B A] at h2;rw [Nat.pow_succ];refine Nat.lt_of_le_of_lt (Int.natAbs_add_le _ _) ?_;rw [Int.natAbs_mul,Int.natAbs_mul,Int.natAbs_natCast,Int.natAbs_natCast];omega
 refine aC (eZ a (by omega)) rfl ?_;dsimp only [aA,aB];refine aC (eZ b (by omega)) rfl ?_;dsimp only [aA,aB];refine aC (GZ a.num (b.den:Int) (by rw [Int.natAbs_natCast];omega)) rfl ?_;dsimp only [aA,aB];refine aC (GZ b.num (a.den:Int) (by rw [Int.natAbs_natCast];omega)) rfl ?_;dsimp only [aA,aB];refine aC (am7 _ _ (by rw [Int.natAbs_mul,Int.natAbs_mul,Int.natAbs_natCast,Int.natAbs_natCast];omega)) rfl ?_;dsimp only [aA,aB];refine aC (iZ _ _ (by omega)) rfl ?_;dsimp only [aA,aB];refine aC (yL _ _ (Nat.mul_pos a.den_pos b.den_pos) (by omega)) rfl ?_;rw [←Rat.add_def'];exact aL rfl
theorem Sz (a b:Rat) (A B:Nat) (ha:Fit A a) (hb:Fit B b) (h:A+B≤34359738368):aK prog 167 [(qT a:aG),(qT b:aG)] (.ret [qT (a-b)]):=by
 refine aD (args:=[.v (some 3), .v (some 3)]) (ins:=[.v (qT a), .v (qT b)]) (hints:=(fun _=>none)) fo (by kernel_rfl) func167 ⟨rfl,rfl,trivial⟩ ?_;rw [aB0];dsimp only [List.map,In.env,aA,aB];refine aC (De b) rfl ?_;dsimp only [aA,aB];refine aC (kF a (-b) A B ha hb.neg h) rfl ?_;rw [←Rat.sub_eq_add_neg];exact aL rfl
theorem SR {a b:Rat} (hb:b≠0):mkRat (a.num*(if decide (b.num<0)=true then -(b.den:Int) else b.den)) (a.den*b.num.natAbs)=a/b:=by
 have hn:b.num≠0:=fun e=>hb (Rat.num_eq_zero.1 e)
 have e:b⁻¹=mkRat (if decide (b.num<0)=true then -(b.den:Int) else b.den) b.num.natAbs:=by
  rw [Rat.inv_def];by_cases h:b.num<0
  ·rw [decide_eq_true h,if_pos rfl]
   conv=>lhs;rw [show b.num = -((b.num.natAbs:Nat):Int) by omega]
   rw [Rat.divInt_neg',Rat.divInt_ofNat]
  ·rw [decide_eq_false h,if_neg (by simp)]
   conv=>lhs;rw [show b.num=((b.num.natAbs:Nat):Int) by omega]
   rw [Rat.divInt_ofNat]
 rw [Rat.div_def,e]
 conv=>rhs;rw [←Rat.mkRat_self a]
 rw [Rat.mkRat_mul_mkRat]
theorem VX (a b:Rat) (A B:Nat) (hb0:b≠0) (ha:Fit A a) (hb:Fit B b) (h:A+B≤34359738368):aK prog 255 [(qT a:aG),(qT b:aG)] (.ret [qT (a/b)]):=by
 refine aD (args:=[.v (some 3), .v (some 3)]) (ins:=[.v (qT a), .v (qT b)]) (hints:=(fun _=>none)) fo (by kernel_rfl) func255 ⟨rfl,rfl,trivial⟩ ?_;rw [XQ];dsimp only [List.map,In.env,aA,aB];obtain ⟨ha1,ha2⟩:=Fit.dl ha;obtain ⟨hb1,hb2⟩:=Fit.dl hb;have hn:b.num≠0:=fun e=>hb0 (Rat.num_eq_zero.1 e);have hn1:=fE (bI ha.1 hb.2);have hd:=fE (bI ha.2 hb.1);obtain ⟨z,hz⟩:∃ z:Int,(if decide (b.num<0)=true then -(b.den:Int) else b.den)=z:=⟨_,rfl⟩
 have hza:z.natAbs=b.den:=by rw [←hz];split<;>simp
 refine aC (eZ b (by omega)) rfl ?_;dsimp only [aA,aB];refine aC (eJ _ _ z hz.symm) rfl ?_;dsimp only [aA,aB];refine aC (GZ a.num z (by rw [hza];omega)) rfl ?_;dsimp only [aA,aB];refine aC (eZ a (by omega)) rfl ?_;dsimp only [aA,aB];refine aC (iZ _ _ (by omega)) rfl ?_;dsimp only [aA,aB];refine aC (yL _ _ (Nat.mul_pos a.den_pos (by omega)) (by rw [Int.natAbs_mul,hza];omega)) rfl ?_;rw [←hz,SR hb0];exact aL rfl
theorem sign_zero {q:Rat}:q.num.sign=0↔q=0:=by rw [Int.sign_eq_zero_iff_zero,Rat.num_eq_zero]
theorem Uk (a b:Rat) (A B:Nat) (ha:Fit A a) (hb:Fit B b) (h:A+B≤34359738368):aK prog 200 [(qT a:aG),(qT b:aG)] (.ret [qT (if b=0 then 0 else a/b), .one (.int .i64 (if b=0 then 9 else 0))]):=by
 refine aD (args:=[.v (some 3), .v (some 3)]) (ins:=[.v (qT a), .v (qT b)]) (hints:=(fun _=>none)) fo (by kernel_rfl) func200 ⟨rfl,rfl,trivial⟩ ?_;rw [au4];dsimp only [List.map,In.env,aA,aB];refine aC (oQ b) rfl ?_;dsimp only [aA,aB];refine vn bW rfl ?_;dsimp only [aA,aB];refine vs _ rfl (fun h2=>?_) (fun h2=>?_)
 ·have h2:b=0:=sign_zero.1 h2;rw [if_pos h2,if_pos h2];exact eN ⟨eV,aG.Sub.same,trivial⟩
 have h2:¬ b=0:=fun e=>h2 (sign_zero.2 e);rw [if_neg h2,if_neg h2];refine aC (VX a b A B h2 ha hb h) rfl ?_;exact aL rfl
theorem fD {n:Int} (h1:-9223372036854775808≤n) (h2:n<9223372036854775808):Fit 64 (n:Rat):=Fit.int (by omega) (by omega)
theorem aq9 (n d:Int) (h1:-9223372036854775808≤n) (h2:n<9223372036854775808) (h3:-9223372036854775808≤d) (h4:d<9223372036854775808):aK prog 120 [(.one (.int .i64 n):aG),(.one (.int .i64 d):aG)] (.ret [qT (if d=0 then 0 else (n:Rat)/(d:Rat)), .one (.int .i64 (if d=0 then 9 else 0))]):=by
 refine aD (args:=[.v none, .v none]) (ins:=[.v (.one (.int .i64 n)), .v (.one (.int .i64 d))]) (hints:=(fun _=>none)) fo (by kernel_rfl) func120 ⟨rfl,rfl,trivial⟩ ?_;rw [ba9];dsimp only [List.map,In.env,aA,aB]
 have e:((d:Rat)=0)↔d=0:=by
  rw [←Rat.num_eq_zero,Rat.num_intCast]
 have hd:=Uk (n:Rat) (d:Rat) 64 64 (fD h1 h2) (fD h3 h4) (by omega);simp only [e] at hd;refine aC (iV n h1 h2) rfl ?_;dsimp only [aA,aB];refine aC (iV d h3 h4) rfl ?_;dsimp only [aA,aB];refine aC hd rfl ?_;exact aL rfl
def mN (a b:Rat):Int:=if a<b then -1 else if b<a then 1 else 0
theorem Af (a b:Rat):mN a b=eE (a.num*b.den) (b.num*a.den):=by
 unfold mN eE;simp only [Rat.lt_iff]
theorem cJ (z:Int):(z<0∧z.sign = -1)∨(z=0∧z.sign=0)∨(0<z∧z.sign=1):=by
 rcases Int.lt_trichotomy z 0 with h | h | h
 ·exact .inl ⟨h,Int.sign_eq_neg_one_of_neg h⟩
 ·exact .inr (.inl ⟨h,by rw [h];rfl⟩)
 ·exact .inr (.inr ⟨h,Int.sign_eq_one_of_pos h⟩)
theorem Og {a b:Rat} (h:a.num.sign≠b.num.sign∨a.num.sign=0):mN a b=a.num.sign-b.num.sign-(a.num.sign-b.num.sign).tdiv 2:=by
 rw [Af];have ha:=a.den_pos;have hb:=b.den_pos
 have key:∀ (x:Int) (d:Nat),0<d→(x<0→x*(d:Int)<0)∧(x=0→x*(d:Int)=0)∧(0<x→0<x*(d:Int)):=fun x d hd=>
  ⟨fun h=>Int.mul_neg_of_neg_of_pos h (by omega),fun h=>by rw [h,Int.zero_mul],fun h=>Int.mul_pos h (by omega)⟩
 obtain ⟨k1,k2,k3⟩:=key a.num b.den hb;obtain ⟨l1,l2,l3⟩:=key b.num a.den ha
 rcases cJ a.num with ⟨h1,e1⟩ | ⟨h1,e1⟩ | ⟨h1,e1⟩<;>rcases cJ b.num with ⟨h2,e2⟩ | ⟨h2,e2⟩ | ⟨h2,e2⟩<;>rw [e1,e2] at h ⊢ <;> simp only [eE]<;>(try (exfalso;revert h;decide)) <;>
  (first
   | have i1:=k1 h1
   | have i1:=k2 h1
   | have i1:=k3 h1) <;>
  (first
   | have i2:=l1 h2
   | have i2:=l2 h2
   | have i2:=l3 h2) <;>
  (first
   | (rw [if_pos (by omega)];rfl)
   | (rw [if_neg (by omega),if_pos (by omega)];rfl)
   | (rw [if_neg (by omega),if_neg (by omega)];rfl))
theorem YG {a b:Rat} (h:a.num.sign=b.num.sign) (h0:a.num.sign≠0):mN a b=a.num.sign*eE ((a.num.natAbs*b.den:Nat):Int) ((b.num.natAbs*a.den:Nat):Int):=by
 rw [Af];rcases cJ a.num with ⟨h1,e1⟩ | ⟨h1,e1⟩ | ⟨h1,e1⟩
 ·have h2:b.num<0:=by
   rcases cJ b.num with ⟨h2,e2⟩ | ⟨h2,e2⟩ | ⟨h2,e2⟩
   ·exact h2
   ·omega
   ·omega
  have ea:a.num*(b.den:Int) = -((a.num.natAbs*b.den:Nat):Int):=by
   rw [Int.natCast_mul,←Int.neg_mul];congr 1;omega
  have eb:b.num*(a.den:Int) = -((b.num.natAbs*a.den:Nat):Int):=by
   rw [Int.natCast_mul,←Int.neg_mul];congr 1;omega
  rw [e1,ea,eb];generalize ((a.num.natAbs*b.den:Nat):Int)=p;generalize ((b.num.natAbs*a.den:Nat):Int)=q;unfold eE;split<;>(try split)<;>(try split)<;>(try split)<;>omega
 ·omega
 ·have h2:0<b.num:=by
   rcases cJ b.num with ⟨h2,e2⟩ | ⟨h2,e2⟩ | ⟨h2,e2⟩
   ·omega
   ·omega
   ·exact h2
  have ea:a.num*(b.den:Int)=((a.num.natAbs*b.den:Nat):Int):=by
   rw [Int.natCast_mul];congr 1;omega
  have eb:b.num*(a.den:Int)=((b.num.natAbs*a.den:Nat):Int):=by
   rw [Int.natCast_mul];congr 1;omega
  rw [e1,ea,eb,Int.one_mul]
theorem pV (a b:Rat) (A B:Nat) (ha:Fit A a) (hb:Fit B b) (h:A+B≤34359738368):aK prog 38 [(qT a:aG),(qT b:aG)] (.ret [.one (.int .i64 (mN a b))]):=by
 refine aD (args:=[.v (some 3), .v (some 3)]) (ins:=[.v (qT a), .v (qT b)]) (hints:=(fun _=>none)) fo (by kernel_rfl) func38 ⟨rfl,rfl,trivial⟩ ?_;rw [aw0];dsimp only [List.map,In.env,aA,aB];obtain ⟨ha1,ha2⟩:=Fit.dl ha;obtain ⟨hb1,hb2⟩:=Fit.dl hb;have hn1:=fE (bI ha.1 hb.2);have hn2:=fE (bI hb.1 ha.2);have hsa:-1≤a.num.sign∧a.num.sign≤1:=by rcases cJ a.num with ⟨_,e⟩ | ⟨_,e⟩ | ⟨_,e⟩<;>omega
 have hsb:-1≤b.num.sign∧b.num.sign≤1:=by rcases cJ b.num with ⟨_,e⟩ | ⟨_,e⟩ | ⟨_,e⟩<;>omega
 have htd:-1≤(a.num.sign-b.num.sign).tdiv 2∧(a.num.sign-b.num.sign).tdiv 2≤1:=by
  rcases cJ a.num with ⟨_,e⟩ | ⟨_,e⟩ | ⟨_,e⟩<;>rcases cJ b.num with ⟨_,e2⟩ | ⟨_,e2⟩ | ⟨_,e2⟩<;>rw [e,e2]<;>decide
 refine aC (oQ a) rfl ?_;dsimp only [aA,aB];refine aC (oQ b) rfl ?_;dsimp only [aA,aB];refine vn iP rfl ?_;dsimp only [aA,aB];refine vs _ rfl (fun h3=>?_) (fun h3=>?_)
 ·refine vn (aJ (by omega) (by omega)) rfl ?_;dsimp only [aA,aB];refine vn (aJ (by omega) (by omega)) rfl ?_;dsimp only [aA,aB];refine vn (qU (c:=(a.num.sign-b.num.sign).tdiv 2) (by decide) (dN (by omega) (by omega))) rfl ?_;dsimp only [aA,aB];refine vn (aJ (by omega) (by omega)) rfl ?_;dsimp only [aA,aB];rw [Og (.inl h3)];exact aL rfl
 refine vn bW rfl ?_;dsimp only [aA,aB];refine vs _ rfl (fun h10=>?_) (fun h10=>?_)
 ·refine vn (aJ (by omega) (by omega)) rfl ?_;dsimp only [aA,aB];refine vn (aJ (by omega) (by omega)) rfl ?_;dsimp only [aA,aB];refine vn (qU (c:=(a.num.sign-b.num.sign).tdiv 2) (by decide) (dN (by omega) (by omega))) rfl ?_;dsimp only [aA,aB];refine vn (aJ (by omega) (by omega)) rfl ?_;dsimp only [aA,aB];rw [Og (.inr h10)];exact aL rfl
 refine aC (oQ a) rfl ?_;dsimp only [aA,aB];refine aC (eZ b (by omega)) rfl ?_;dsimp only [aA,aB];refine aC (iZ _ _ (by omega)) rfl ?_;dsimp only [aA,aB];refine aC (eZ a (by omega)) rfl ?_;dsimp only [aA,aB];refine aC (iZ _ _ (by omega)) rfl ?_;dsimp only [aA,aB];refine aC (uJ _ _ (by omega)) rfl ?_;dsimp only [aA,aB]
 have hci:-1≤eE ((a.num.natAbs*b.den:Nat):Int) ((b.num.natAbs*a.den:Nat):Int)∧eE ((a.num.natAbs*b.den:Nat):Int) ((b.num.natAbs*a.den:Nat):Int)≤1:=by
  unfold eE;split<;>(try split)<;>omega
 rw [YG (by omega) h10];generalize eE ((a.num.natAbs*b.den:Nat):Int) ((b.num.natAbs*a.den:Nat):Int)=c at hci ⊢;generalize a.num.sign=s at hsa h10 ⊢
 refine vn (sO (c:=s*c) (by
  rcases (by omega:s = -1∨s=1) with rfl | rfl
  ·exact dN (by omega) (by omega)
  ·exact dN (by omega) (by omega))) rfl ?_
 exact aL rfl
end Go.Sy
