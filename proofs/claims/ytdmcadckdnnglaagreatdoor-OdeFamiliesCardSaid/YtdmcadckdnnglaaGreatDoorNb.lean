/- Taking away: less, subtract, giveBack. Division. slices.Backward over digits; word. Common divisors, powers; integers. Integers, ratios, rational numbers.
-/
import Derived.Test.YtdmcadckdnnglaaGreatDoorNa
import Derived.Test.YtdmcadckdnnglaaGreatDoorPa
import Derived.RangeFuncFrom
import Derived.RangeFuncBox
import Derived.RangeFuncLeaves
import Derived.Shelf.Abstract
import Derived.WalkKit
import Derived.OwnWalkIn
import Derived.TacticsInMore
import Derived.LoopNIn
import Derived.LoopIn
set_option linter.unusedVariables false
set_option linter.unusedSimpArgs false
namespace Go.Sy
open Go Go.Proofs Tryz Ord
def Qh:Tr:=.need (.idx 20 (.u 8 0)) (.indexAddr 33 (tT 51) (tT 52)) 0 false (.need (.ldrow 20 (.u 8 0) 0 1 false) (.load 255 (tT 53)) 255 false (cU .sub 255 54 55 21 0 15 0 255 (.need (.idx 20 (.u 8 0)) (.indexAddr 33 (tT 51) (tT 52)) 0 false (.need (.strow 20 1 (.u 8 0) 0 [(.u 22 0)]) (.store 255 (tT 57) (tT 56)) 0 false (bO .add 3 19 1 8 0 3 (.back 0 [(.w (.one (.c (.k (.int .u32 1))))),lV 24 0, .row 23]))))))
def OJ:Tr:=.need (.idx 9 (.u 8 0)) (.indexAddr 33 (tT 51) (tT 52)) 0 false (.need (.ldrow 9 (.u 8 0) 0 1 false) (.load 255 (tT 53)) 255 false (cU .sub 255 54 55 18 0 15 0 255 (.need (.idx 9 (.u 8 0)) (.indexAddr 33 (tT 51) (tT 52)) 0 false (.need (.strow 9 1 (.u 8 0) 0 [(.u 19 0)]) (.store 255 (tT 57) (tT 56)) 0 false (bO .add 3 19 1 8 0 3 (.back 0 [(.w (.one (.c (.k (.int .u32 0))))),lV 21 0, .row 20]))))))
def Qn:Tr:=cU .lss 255 40 41 16 0 15 0 4 (.split (.u 17 0) (.need (.idx 9 (.u 8 0)) (.indexAddr 33 (tT 45) (tT 46)) 0 false (.need (.ldrow 9 (.u 8 0) 0 1 false) (.load 255 (tT 47)) 255 false (.need (.prim [(W 18 0),(.one (.c (.k (.int .u32 1000000000))))] none) (.binOp .add 255 (tT 48) (.const (.int .u32 1000000000)) 255) 255 false (.need (.idx 9 (.u 8 0)) (.indexAddr 33 (tT 43) (tT 44)) 0 false (.need (.strow 9 1 (.u 8 0) 0 [(.u 19 0)]) (.store 255 (tT 50) (tT 49)) 0 false Qh))))) OJ)
def Qm:Tr:=.need (.idx 18 (.u 8 0)) (.indexAddr 33 (tT 51) (tT 52)) 0 false (.need (.ldrow 18 (.u 8 0) 0 1 false) (.load 255 (tT 53)) 255 false (cU .sub 255 54 55 19 0 7 0 255 (.need (.idx 18 (.u 8 0)) (.indexAddr 33 (tT 51) (tT 52)) 0 false (.need (.strow 18 1 (.u 8 0) 0 [(.u 20 0)]) (.store 255 (tT 57) (tT 56)) 0 false (bO .add 3 19 1 8 0 3 (.back 0 [(.w (.one (.c (.k (.int .u32 1))))),lV 22 0, .row 21]))))))
def Pe:Tr:=.need (.idx 9 (.u 8 0)) (.indexAddr 33 (tT 51) (tT 52)) 0 false (.need (.ldrow 9 (.u 8 0) 0 1 false) (.load 255 (tT 53)) 255 false (cU .sub 255 54 55 16 0 7 0 255 (.need (.idx 9 (.u 8 0)) (.indexAddr 33 (tT 51) (tT 52)) 0 false (.need (.strow 9 1 (.u 8 0) 0 [(.u 17 0)]) (.store 255 (tT 57) (tT 56)) 0 false (bO .add 3 19 1 8 0 3 (.back 0 [(.w (.one (.c (.k (.int .u32 0))))),lV 19 0, .row 18]))))))
def QG:Tr:=cU .lss 255 40 41 14 0 7 0 4 (.split (.u 15 0) (.need (.idx 9 (.u 8 0)) (.indexAddr 33 (tT 45) (tT 46)) 0 false (.need (.ldrow 9 (.u 8 0) 0 1 false) (.load 255 (tT 47)) 255 false (.need (.prim [(W 16 0),(.one (.c (.k (.int .u32 1000000000))))] none) (.binOp .add 255 (tT 48) (.const (.int .u32 1000000000)) 255) 255 false (.need (.idx 9 (.u 8 0)) (.indexAddr 33 (tT 43) (tT 44)) 0 false (.need (.strow 9 1 (.u 8 0) 0 [(.u 17 0)]) (.store 255 (tT 50) (tT 49)) 0 false Qm))))) Pe)
def So:Tr:=cU .lss 3 23 26 8 0 11 0 4 (.split (.u 12 0) (qI 1 0 8 0 33 30 31 (oX 13 0 none 255 32 (cU .add 255 28 33 7 0 14 0 255 (.need (.idx 9 (.u 8 0)) (.indexAddr 33 (tT 37) (tT 38)) 0 false (.need (.ldrow 9 (.u 8 0) 0 1 false) (.load 255 (tT 39)) 255 false Qn))))) (.need (.prim [(W 7 0),(.one (.c (.k (.int .u32 0))))] none) (.binOp .eql 255 (tT 35) (.const (.int .u32 0)) 255) 4 false (.split (.u 13 0) (aU 197 [(.one (.c (.sr 1 9)))] [(some 1)] [59] [33] 35 true (.ret [(G1 14)])) (.need (.idx 9 (.u 8 0)) (.indexAddr 33 (tT 37) (tT 38)) 0 false (.need (.ldrow 9 (.u 8 0) 0 1 false) (.load 255 (tT 39)) 255 false QG)))))
def Tk:Tr:=.need (.rop 3 255 1 none [] [(W 0 0)] [none]) (.call ⟨.builtin .copy,#[(tT 13),(tT 15)],#[33,33]⟩) 3 false (.need (.lenrow 5) (.call ⟨.builtin .len,#[(tT 17)],#[33]⟩) 3 false (.loop 0 [(.w (.one (.c (.k (.int .u32 0))))),lK 0, .row 5] (cU .lss 3 19 18 8 0 6 0 0 (.split (.u 10 0) (fX 1 0 25 33 So) (aU 197 [(.one (.c (.sr 1 9)))] [(some 1)] [59] [33] 35 true (.ret [(G1 11)]))))))
def TZ:Tr:=fX 0 0 10 33 (.need (.make [(.int .u32 0)] 4 (.u 2 0) (.u 2 0)) (.makeSlice 33 (tT 11) (tT 11)) 33 false Tk)
theorem OH:aO prog f194 (fun _=>none) [.v (some 1), .v (some 1)]=TZ:=by kernel_rfl
def OL:Tr:=.split (.u 23 0) (bO .add 2 44 1000000000 21 0 2 (.need (.prim [(W 24 0)] none) (.convert 2 255 (tT 48)) 255 false (.need (.idx 7 (.u 6 0)) (.indexAddr 33 (tT 46) (tT 47)) 0 false (.need (.strow 7 1 (.u 6 0) 0 [(.u 25 0)]) (.store 255 (tT 50) (tT 49)) 0 false (bO .add 3 13 1 6 0 3 (.back 0 [lV 22 0,lK 1,lV 27 0, .row 26])))))) (.need (.prim [(W 21 0)] none) (.convert 2 255 (tT 48)) 255 false (.need (.idx 7 (.u 6 0)) (.indexAddr 33 (tT 46) (tT 47)) 0 false (.need (.strow 7 1 (.u 6 0) 0 [(.u 24 0)]) (.store 255 (tT 50) (tT 49)) 0 false (bO .add 3 13 1 6 0 3 (.back 0 [lV 22 0,lK 0,lV 26 0, .row 25])))))
def Ol:Tr:=.need (.prim [(W 16 0)] none) (.convert 255 2 (tT 32)) 2 false (.need (.prim [(W 15 0),(.one (.c (.k (.int .u64 1000000000))))] none) (.binOp .rem 254 (tT 34) (.const (.int .u64 1000000000)) 254) 254 false (.need (.prim [(W 18 0)] none) (.convert 254 2 (tT 35)) 2 false (cU .sub 2 33 36 17 0 19 0 2 (cU .sub 2 37 38 20 0 5 0 2 (.need (.prim [(W 15 0),(.one (.c (.k (.int .u64 1000000000))))] none) (.binOp .quo 254 (tT 40) (.const (.int .u64 1000000000)) 254) 254 false (bO .lss 2 42 0 21 0 4 OL))))))
def SX:Tr:=qI 1 0 6 0 33 22 23 (oX 11 0 none 255 24 (.need (.prim [(W 12 0)] none) (.convert 255 254 (tT 25)) 254 false (cU .mul 254 21 26 2 0 13 0 254 (cU .add 254 20 27 4 0 14 0 254 (.need (.idx 7 (.u 6 0)) (.indexAddr 33 (tT 29) (tT 30)) 0 false (.need (.ldrow 7 (.u 6 0) 0 1 false) (.load 255 (tT 31)) 255 false Ol))))))
def Pd:Tr:=.split (.u 18 0) (bO .add 2 44 1000000000 16 0 2 (.need (.prim [(W 19 0)] none) (.convert 2 255 (tT 48)) 255 false (.need (.idx 7 (.u 6 0)) (.indexAddr 33 (tT 46) (tT 47)) 0 false (.need (.strow 7 1 (.u 6 0) 0 [(.u 20 0)]) (.store 255 (tT 50) (tT 49)) 0 false (bO .add 3 13 1 6 0 3 (.back 0 [lV 17 0,lK 1,lV 22 0, .row 21])))))) (.need (.prim [(W 16 0)] none) (.convert 2 255 (tT 48)) 255 false (.need (.idx 7 (.u 6 0)) (.indexAddr 33 (tT 46) (tT 47)) 0 false (.need (.strow 7 1 (.u 6 0) 0 [(.u 19 0)]) (.store 255 (tT 50) (tT 49)) 0 false (bO .add 3 13 1 6 0 3 (.back 0 [lV 17 0,lK 0,lV 21 0, .row 20])))))
def OT:Tr:=.need (.prim [(W 11 0)] none) (.convert 255 2 (tT 32)) 2 false (.need (.prim [(W 4 0),(.one (.c (.k (.int .u64 1000000000))))] none) (.binOp .rem 254 (tT 34) (.const (.int .u64 1000000000)) 254) 254 false (.need (.prim [(W 13 0)] none) (.convert 254 2 (tT 35)) 2 false (cU .sub 2 33 36 12 0 14 0 2 (cU .sub 2 37 38 15 0 5 0 2 (.need (.prim [(W 4 0),(.one (.c (.k (.int .u64 1000000000))))] none) (.binOp .quo 254 (tT 40) (.const (.int .u64 1000000000)) 254) 254 false (bO .lss 2 42 0 16 0 4 Pd))))))
def Td:Tr:=cU .lss 3 13 12 6 0 3 0 0 (.split (.u 8 0) (fX 1 0 17 33 (cU .lss 3 16 18 6 0 9 0 4 (.split (.u 10 0) SX (.need (.idx 7 (.u 6 0)) (.indexAddr 33 (tT 29) (tT 30)) 0 false (.need (.ldrow 7 (.u 6 0) 0 1 false) (.load 255 (tT 31)) 255 false OT))))) (bO .neq 2 52 0 5 0 4 (.retr [(W 9 0)] 7)))
def TH:Tr:=.need (.lenrow 0) (.call ⟨.builtin .len,#[(tT 11)],#[33]⟩) 3 false (.loop 0 [(.w (.one (.c (.k (.int .u64 0))))),lK 0,lK 0, .row 0] Td)
theorem FY:CY prog f251 (fun _=>none) [.lent 255 1, .v none, .v none]=TH:=by kernel_rfl
def Qk:Tr:=.need (.prim [(W 13 0),(.one (.c (.k (.int .u32 1000000000))))] none) (.binOp .geq 255 (tT 29) (.const (.int .u32 1000000000)) 255) 4 false (.split (.u 14 0) (.need (.prim [(W 13 0),(.one (.c (.k (.int .u32 1000000000))))] none) (.binOp .sub 255 (tT 31) (.const (.int .u32 1000000000)) 255) 255 false (.need (.idx 5 (.u 4 0)) (.indexAddr 33 (tT 33) (tT 34)) 0 false (.need (.strow 5 1 (.u 4 0) 0 [(.u 15 0)]) (.store 255 (tT 36) (tT 35)) 0 false (bO .add 3 10 1 4 0 3 (.back 0 [(.w (.one (.c (.k (.int .u32 1))))),lV 17 0, .row 16]))))) (.need (.idx 5 (.u 4 0)) (.indexAddr 33 (tT 33) (tT 34)) 0 false (.need (.strow 5 1 (.u 4 0) 0 [(.u 13 0)]) (.store 255 (tT 36) (tT 35)) 0 false (bO .add 3 10 1 4 0 3 (.back 0 [(.w (.one (.c (.k (.int .u32 0))))),lV 16 0, .row 15])))))
def Ou:Tr:=.need (.prim [(W 8 0),(.one (.c (.k (.int .u32 1000000000))))] none) (.binOp .geq 255 (tT 29) (.const (.int .u32 1000000000)) 255) 4 false (.split (.u 11 0) (.need (.prim [(W 8 0),(.one (.c (.k (.int .u32 1000000000))))] none) (.binOp .sub 255 (tT 31) (.const (.int .u32 1000000000)) 255) 255 false (.need (.idx 5 (.u 4 0)) (.indexAddr 33 (tT 33) (tT 34)) 0 false (.need (.strow 5 1 (.u 4 0) 0 [(.u 12 0)]) (.store 255 (tT 36) (tT 35)) 0 false (bO .add 3 10 1 4 0 3 (.back 0 [(.w (.one (.c (.k (.int .u32 1))))),lV 14 0, .row 13]))))) (.need (.idx 5 (.u 4 0)) (.indexAddr 33 (tT 33) (tT 34)) 0 false (.need (.strow 5 1 (.u 4 0) 0 [(.u 8 0)]) (.store 255 (tT 36) (tT 35)) 0 false (bO .add 3 10 1 4 0 3 (.back 0 [(.w (.one (.c (.k (.int .u32 0))))),lV 13 0, .row 12])))))
def Si:Tr:=cU .add 255 16 17 7 0 3 0 255 (fX 1 0 20 33 (cU .lss 3 19 21 4 0 9 0 4 (.split (.u 10 0) (qI 1 0 4 0 33 24 25 (oX 11 0 none 255 26 (cU .add 255 23 27 8 0 12 0 255 Qk))) Ou)))
def SN:Tr:=.need (.lenrow 0) (.call ⟨.builtin .len,#[(tT 8)],#[33]⟩) 3 false (.loop 0 [(.w (.one (.c (.k (.int .u32 0))))),lK 0, .row 0] (cU .lss 3 10 9 4 0 2 0 0 (.split (.u 6 0) (.need (.idx 5 (.u 4 0)) (.indexAddr 33 (tT 13) (tT 14)) 0 false (.need (.ldrow 5 (.u 4 0) 0 1 false) (.load 255 (tT 15)) 255 false Si)) (.need (.prim [(W 3 0),(.one (.c (.k (.int .u32 0))))] none) (.binOp .neq 255 (tT 38) (.const (.int .u32 0)) 255) 4 false (.retr [(W 7 0)] 5)))))
theorem FV:CY prog f252 (fun _=>none) [.lent 255 1, .v none]=SN:=by kernel_rfl
structure CS (xs ys:List Nat) (i b:Nat) (os:List Nat):Prop where
 h:fJ 1000000000 xs ys 1 i 0 b os
theorem CS.init {xs:List Nat} (hx:Dg xs) (ys:List Nat):CS xs ys 0 0 xs:=⟨fJ.init hx ys 1⟩
theorem CS.next {xs ys os:List Nat} {i b x y z b':Nat} (h:CS xs ys i b os) (hx:xs[i]? = some x) (hy:ys[i]?.getD 0=y) (hyB:y<1000000000) (hz:z<1000000000) (hb:b'≤1) (he:z+y+b=x+1000000000*b') :
  CS xs ys (i+1) b' (os.set i z):=by
 have:=h.h.next (by omega) (by omega) hx hy hyB hz hb (by rw [Nat.zero_add,Nat.one_mul,Nat.mod_eq_of_lt hyB];exact he);rw [Nat.zero_add,Nat.one_mul,Nat.div_eq_of_lt hyB] at this;exact ⟨this⟩
theorem CS.fin {xs ys os:List Nat} {i b:Nat} (h:CS xs ys i b os) (hle:lv ys≤lv xs) (he:b=0∧ys.length≤i∨i=xs.length∧ys.length≤xs.length):lv os+lv ys=lv xs:=by
 have h1:=h.h.eq;rw [Nat.one_mul,Nat.zero_add] at h1;rcases he with ⟨rfl,hl⟩ | ⟨rfl,hl⟩
 ·rw [Nat.mul_zero,Nat.add_zero,List.take_of_length_le hl] at h1
  have e:∀ l:List Nat,i≤l.length→lv l=lv (l.take i)+1000000000^i*lv (l.drop i):=fun l hl=>by
   conv=>lhs;rw [←List.take_append_drop i l]
   rw [pG,List.length_take,Nat.min_eq_left hl]
  rw [e os (by rw [h.h.len];exact h.h.le),e xs h.h.le,h.h.rest];simp only [lv] at h1 ⊢;omega
 ·rw [List.take_of_length_le (by rw [h.h.len];omega),List.take_length,List.take_of_length_le hl] at h1;have h2:=DB.lt (by omega) h.h.dg;rw [h.h.len] at h2;have hb:=h.h.b1;rcases (by omega:b=0∨b=1) with rfl | rfl
  ·show val _ os+val _ ys=val _ xs;omega
  ·have hle:val 1000000000 ys≤val 1000000000 xs:=hle;omega
theorem kW {a b:Nat} (h:a≤b):(dg a).length≤(dg b).length:=gG (by omega) (Nat.lt_of_le_of_lt h (oQ (by omega) b))
theorem Ch (a b:Nat) (hab:b≤a) (ha:0<a) (hs:(dg a).length<1099511627776):aJ prog 194 [(mT a:aH),(mT b:aH)] (.ret [mT (a-b)]):=by
 refine aD (args:=[.v (some 1), .v (some 1)]) (ins:=[.v (mT a), .v (mT b)]) (hints:=(fun _=>none)) fo (by kernel_rfl) func194 ⟨rfl,rfl,trivial⟩ ?_;rw [OH];dsimp only [List.map,In.env,aA,aB];have hlen:=kW hab;have hane:dg a ≠ []:=fun e=>by have:=sC.1 e;omega
 refine vn (aQ bZ (List.length_map _)) rfl ?_;dsimp only [aA,aB];refine EF (f:=fun d:Nat=>[aF.int .u32 (d:Int)]) 0 rfl rfl rfl rfl (by omega) (by simp only [maxLen];omega) ?_;dsimp only [aA,aB];refine Ja (xs:=dg a) (ws:=dg a) (fun _=>rfl) rfl rfl bZ (by simp) (by simpa using hane) (by simp) ?_;dsimp only [aA,aB];refine Fe rfl (List.length_map _) ?_;dsimp only [aA,aB];refine cJ {g:Nat×Nat×List Nat // CS (dg a) (dg b) g.1 g.2.1 g.2.2} (fun g=>[.one (.int .u32 g.1.2.1), .one (.int .i64 g.1.1), .rows (rT g.1.2.2)]) (fun g=>(dg a).length-g.1.1) ⟨(0,0,dg a),CS.init (gT a) _⟩ aN.rfl (fun _=>rfl) ?_;rintro ⟨⟨i,c,os⟩,hI⟩;dsimp only [aA,aB] at hI ⊢;have hol:=hI.h.len;have hil:=hI.h.le;have hc:=hI.h.b1;have hle:lv (dg b)≤lv (dg a):=by rw [eL,eL];exact hab
 have fin:(c=0∧(dg b).length≤i∨i=(dg a).length∧(dg b).length≤(dg a).length)→lv os=a-b:=fun h=>by
  have:=hI.fin hle h;rw [eL,eL] at this;omega
 refine vn bX rfl ?_;dsimp only [aA,aB];refine vs _ rfl (fun h6=>?_) (fun h6=>?_)
 ·have hx:(dg a)[i]? = some ((dg a)[i]'(by omega)):=List.getElem?_eq_getElem (by omega);generalize (dg a)[i]'(by omega)=x at hx;have hxB:=(gT a).get hx;have ho:=hI.h.get hx;refine vn (aQ bZ (List.length_map _)) rfl ?_;dsimp only [aA,aB];refine vn bX rfl ?_;dsimp only [aA,aB];refine vs _ rfl (fun h9=>?_) (fun h9=>?_)
  ·have hy:(dg b)[i]? = some ((dg b)[i]'(by omega)):=List.getElem?_eq_getElem (by omega);generalize (dg b)[i]'(by omega)=y at hy;have hyB:=(gT b).get hy;refine vn (bE bZ (by omega) (by omega) hy) rfl ?_;dsimp only [aA,aB];refine vn (dA rJ) rfl ?_;dsimp only [aA,aB];refine vn (iH (by omega) (by omega)) rfl ?_;dsimp only [aA,aB];refine cL rfl rfl (by omega) (by first | omega | (rw [List.length_set];omega)) ?_;refine nL rfl rfl (by omega) (by omega) ho rfl ?_;dsimp only [aA,aB];refine vn bX rfl ?_;dsimp only [aA,aB];refine vs _ rfl (fun h16=>?_) (fun h16=>?_)
   ·refine cL rfl rfl (by omega) (by first | omega | (rw [List.length_set];omega)) ?_;refine nL rfl rfl (by omega) (by omega) ho rfl ?_;dsimp only [aA,aB];refine vn (iH (by omega) (by omega)) rfl ?_;dsimp only [aA,aB];refine cL rfl rfl (by omega) (by first | omega | (rw [List.length_set];omega)) ?_;refine nQ (d':=x+1000000000) rfl rfl (by omega) (by omega) ho rfl ?_;dsimp only [aA,aB];refine cL rfl rfl (by omega) (by first | omega | (rw [List.length_set];omega)) ?_;refine Ls (d:=x+1000000000) rfl rfl (by omega) (by omega) (List.getElem?_set_self (by omega)) (.inr rfl) rfl ?_;dsimp only [aA,aB];refine vn (iL (by omega) (by omega)) rfl ?_;dsimp only [aA,aB];refine cL rfl rfl (by omega) (by first | omega | (rw [List.length_set];omega)) ?_;refine nQ (d:=x+1000000000) (d':=x+1000000000-(y+c)) rfl rfl (by omega) (by omega) (List.getElem?_set_self (by omega)) ?_ ?_
    ·show [aF.int .u32 _] = [aF.int .u32 _]
     congr 2;omega
    rw [List.set_set];dsimp only [aA,aB];refine vn (aG (by omega) (by omega)) rfl ?_;dsimp only [aA,aB];exact aV rfl ⟨⟨(i+1,1,os.set i (x+1000000000-(y+c))),hI.next (b':=1) (z:=x+1000000000-(y+c)) hx (by rw [hy];rfl) hyB (by omega) (by omega) (by omega)⟩,aN.rfl,by show (dg a).length-(i+1)<(dg a).length-i;omega⟩
   refine cL rfl rfl (by omega) (by first | omega | (rw [List.length_set];omega)) ?_;refine nL rfl rfl (by omega) (by omega) ho rfl ?_;dsimp only [aA,aB];refine vn (iL (by omega) (by omega)) rfl ?_;dsimp only [aA,aB];refine cL rfl rfl (by omega) (by first | omega | (rw [List.length_set];omega)) ?_;refine nQ (d':=x-(y+c)) rfl rfl (by omega) (by omega) ho ?_ ?_
   ·show [aF.int .u32 _] = [aF.int .u32 _]
    congr 2;omega
   dsimp only [aA,aB];refine vn (aG (by omega) (by omega)) rfl ?_;dsimp only [aA,aB];exact aV rfl ⟨⟨(i+1,0,os.set i (x-(y+c))),hI.next (b':=0) (z:=x-(y+c)) hx (by rw [hy];rfl) hyB (by omega) (by omega) (by omega)⟩,aN.rfl,by show (dg a).length-(i+1)<(dg a).length-i;omega⟩
  refine vn cK rfl ?_;dsimp only [aA,aB];refine vs _ rfl (fun h37=>?_) (fun h37=>?_)
  ·refine aC (fR os hI.h.dg (by omega)) rfl ?_;dsimp only [aA,aB];refine aP ?_;rw [fin (.inl (by omega))];rfl
  have hnone:(dg b)[i]? = none:=List.getElem?_eq_none_iff.2 (by omega);refine cL rfl rfl (by omega) (by first | omega | (rw [List.length_set];omega)) ?_;refine nL rfl rfl (by omega) (by omega) ho rfl ?_;dsimp only [aA,aB];refine vn bX rfl ?_;dsimp only [aA,aB];refine vs _ rfl (fun h43=>?_) (fun h43=>?_)
  ·refine cL rfl rfl (by omega) (by first | omega | (rw [List.length_set];omega)) ?_;refine nL rfl rfl (by omega) (by omega) ho rfl ?_;dsimp only [aA,aB];refine vn (iH (by omega) (by omega)) rfl ?_;dsimp only [aA,aB];refine cL rfl rfl (by omega) (by first | omega | (rw [List.length_set];omega)) ?_;refine nQ (d':=x+1000000000) rfl rfl (by omega) (by omega) ho rfl ?_;dsimp only [aA,aB];refine cL rfl rfl (by omega) (by first | omega | (rw [List.length_set];omega)) ?_;refine Ls (d:=x+1000000000) rfl rfl (by omega) (by omega) (List.getElem?_set_self (by omega)) (.inr rfl) rfl ?_;dsimp only [aA,aB];refine vn (iL (by omega) (by omega)) rfl ?_;dsimp only [aA,aB];refine cL rfl rfl (by omega) (by first | omega | (rw [List.length_set];omega)) ?_;refine nQ (d:=x+1000000000) (d':=x+1000000000-c) rfl rfl (by omega) (by omega) (List.getElem?_set_self (by omega)) ?_ ?_
   ·show [aF.int .u32 _] = [aF.int .u32 _]
    congr 2;omega
   rw [List.set_set];dsimp only [aA,aB];refine vn (aG (by omega) (by omega)) rfl ?_;dsimp only [aA,aB];exact aV rfl ⟨⟨(i+1,1,os.set i (x+1000000000-c)),hI.next (b':=1) (z:=x+1000000000-c) (y:=0) hx (by rw [hnone];rfl) (by omega) (by omega) (by omega) (by omega)⟩,aN.rfl,by show (dg a).length-(i+1)<(dg a).length-i;omega⟩
  refine cL rfl rfl (by omega) (by first | omega | (rw [List.length_set];omega)) ?_;refine nL rfl rfl (by omega) (by omega) ho rfl ?_;dsimp only [aA,aB];refine vn (iL (by omega) (by omega)) rfl ?_;dsimp only [aA,aB];refine cL rfl rfl (by omega) (by first | omega | (rw [List.length_set];omega)) ?_;refine nQ (d':=x-c) rfl rfl (by omega) (by omega) ho ?_ ?_
  ·show [aF.int .u32 _] = [aF.int .u32 _]
   congr 2;omega
  dsimp only [aA,aB];refine vn (aG (by omega) (by omega)) rfl ?_;dsimp only [aA,aB];exact aV rfl ⟨⟨(i+1,0,os.set i (x-c)),hI.next (b':=0) (z:=x-c) (y:=0) hx (by rw [hnone];rfl) (by omega) (by omega) (by omega) (by omega)⟩,aN.rfl,by show (dg a).length-(i+1)<(dg a).length-i;omega⟩
 refine aC (fR os hI.h.dg (by omega)) rfl ?_;dsimp only [aA,aB];refine aP ?_;rw [fin (.inr ⟨by omega,hlen⟩)];rfl
theorem Gq {b:Nat} {p:Prop} [Decidable p] (h:b=if p then 1 else 0):decide ((b:Int)≠0)=decide p:=by
 subst h;by_cases hp:p<;>simp [hp]
set_option maxHeartbeats 1000000 in
theorem Fi (xs ys:List Nat) (t:Nat) (hx:Dg xs) (hy:Dg ys) (ht:t<1000000000) (hl:ys.length<xs.length) (hs:xs.length<1099511627776):pE prog 251 255 1 [] [(.one (.slice 1 (rT ys)):aH),(.one (.int .u64 t):aH)] (rT xs) [.one (.bool (decide (lv xs<t*lv ys)))] (rT (pd 1000000000 xs.length (lv xs+1000000000^xs.length*(if lv xs<t*lv ys then 1 else 0)-t*lv ys))):=by
 refine vR (a1:=[]) (a2:=[.v none, .v none]) (i1:=[]) (i2:=[.v (.one (.slice 1 (rT ys))), .v (.one (.int .u64 t))]) (hints:=(fun _=>none)) fo (by kernel_rfl) func251 trivial ⟨rfl,rfl,trivial⟩ (by kernel_rfl) ?_ ?_ ?_ ?_
 ·simp [rT]
 ·simp [rT]
 ·simp [rT]
 dsimp only [aA,aB];rw [FY];dsimp only [List.map,In.env,aA,aB];refine Fe rfl (List.length_map _) ?_;dsimp only [aA,aB];refine cJ {g:Nat×Nat×Nat×List Nat // fJ 1000000000 xs ys t g.1 g.2.1 g.2.2.1 g.2.2.2} (fun g=>[.one (.int .u64 g.1.2.1), .one (.int .i64 g.1.2.2.1), .one (.int .i64 g.1.1), .rows (rT g.1.2.2.2)]) (fun g=>xs.length-g.1.1) ⟨(0,0,0,xs),fJ.init hx _ _⟩ aN.rfl (fun _=>rfl) ?_;rintro ⟨⟨i,c,b,os⟩,hI⟩;dsimp only [aA,aB] at hI ⊢;have hol:=hI.len;have hil:=hI.le;have hc:=hI.c1;have hb:=hI.b1;refine vn bX rfl ?_;dsimp only [aA,aB];refine vs _ rfl (fun h3=>?_) (fun h3=>?_)
 ·have hgx:xs[i]? = some (xs[i]'(by omega)):=List.getElem?_eq_getElem (by omega);generalize xs[i]'(by omega)=x at hgx;have hxB:=hx.get hgx;have ho:=hI.get hgx;refine vn (aQ bZ (List.length_map _)) rfl ?_;dsimp only [aA,aB];refine vn bX rfl ?_;dsimp only [aA,aB];refine vs _ rfl (fun h6=>?_) (fun h6=>?_)
  ·have hgy:ys[i]? = some (ys[i]'(by omega)):=List.getElem?_eq_getElem (by omega);generalize ys[i]'(by omega)=y at hgy;have hyB:=hy.get hgy;have hty:t*y≤999999999*999999999:=Nat.mul_le_mul (by omega) (by omega);obtain ⟨w,hw⟩:∃ w,c+t*y=w:=⟨_,rfl⟩
   have hwB:w<1000000000*1000000000:=by omega
   have hm:∀ z b':Nat,z<1000000000→b'≤1→z+w%1000000000+b=x+1000000000*b'→fJ 1000000000 xs ys t (i+1) (w/1000000000) b' (os.set i z):=fun z b' h1 h2 h3=>by
    have:=hI.next (by omega) ht hgx (by rw [hgy];rfl) hyB h1 h2 (by rw [hw];exact h3);rw [hw] at this;exact this
   refine vn (bE bZ (by omega) (by omega) hgy) rfl ?_;dsimp only [aA,aB];refine vn (dA rJ) rfl ?_;dsimp only [aA,aB];refine vn (oE ⟨_,eM⟩ eY (by omega) (by omega)) rfl ?_;dsimp only [aA,aB];refine vn (wU (c:=((t*y:Nat):Int)) (by rw [←Int.natCast_mul,oF]<;>omega)) rfl ?_;dsimp only [aA,aB];refine vn (dN (c:=(w:Int)) (by rw [oF]<;>omega)) rfl ?_;dsimp only [aA,aB];refine cL rfl rfl (by omega) (by first | omega | (rw [List.length_set];omega)) ?_;refine nL rfl rfl (by omega) (by omega) ho rfl ?_;dsimp only [aA,aB];refine vn (oC ⟨_,eM⟩ LJ (by omega) (by omega)) rfl ?_;dsimp only [aA,aB];refine vn (rF (by omega) (by omega)) rfl ?_;dsimp only [aA,aB];refine vn (oC ⟨_,eY⟩ LJ (by omega) (by omega)) rfl ?_;dsimp only [aA,aB];refine vn (aI (by omega) (by omega)) rfl ?_;dsimp only [aA,aB];refine vn (aI (by omega) (by omega)) rfl ?_;dsimp only [aA,aB];refine vn (Bf (by omega) (by omega) (by omega)) rfl ?_;dsimp only [aA,aB];refine vn bX rfl ?_;dsimp only [aA,aB];refine vs _ rfl (fun h21=>?_) (fun h21=>?_)
   ·refine vn (aG (by omega) (by omega)) rfl ?_;dsimp only [aA,aB];refine vn (lY ⟨_,LJ⟩ eM (by omega) (by omega)) rfl ?_;dsimp only [aA,aB];refine cL rfl rfl (by omega) (by first | omega | (rw [List.length_set];omega)) ?_;refine nQ (d':=x+1000000000-w%1000000000-b) rfl rfl (by omega) (by omega) ho ?_ ?_
    ·show [aF.int .u32 _] = [aF.int .u32 _]
     congr 2;omega
    dsimp only [aA,aB];refine vn (aG (by omega) (by omega)) rfl ?_;dsimp only [aA,aB];exact aV rfl ⟨⟨(i+1,w/1000000000,1,os.set i (x+1000000000-w%1000000000-b)),hm _ 1 (by omega) (by omega) (by omega)⟩,aN.rfl,by show xs.length-(i+1)<xs.length-i;omega⟩
   refine vn (lY ⟨_,LJ⟩ eM (by omega) (by omega)) rfl ?_;dsimp only [aA,aB];refine cL rfl rfl (by omega) (by first | omega | (rw [List.length_set];omega)) ?_;refine nQ (d':=x-w%1000000000-b) rfl rfl (by omega) (by omega) ho ?_ ?_
   ·show [aF.int .u32 _] = [aF.int .u32 _]
    congr 2;omega
   dsimp only [aA,aB];refine vn (aG (by omega) (by omega)) rfl ?_;dsimp only [aA,aB];exact aV rfl ⟨⟨(i+1,w/1000000000,0,os.set i (x-w%1000000000-b)),hm _ 0 (by omega) (by omega) (by omega)⟩,aN.rfl,by show xs.length-(i+1)<xs.length-i;omega⟩
  have hnone:ys[i]? = none:=List.getElem?_eq_none_iff.2 (by omega)
  have hm:∀ z b':Nat,z<1000000000→b'≤1→z+c%1000000000+b=x+1000000000*b'→fJ 1000000000 xs ys t (i+1) (c/1000000000) b' (os.set i z):=fun z b' h1 h2 h3=>by
   have:=hI.next (y:=0) (by omega) ht hgx (by rw [hnone];rfl) (by omega) h1 h2 (by rw [Nat.mul_zero,Nat.add_zero];exact h3);rw [Nat.mul_zero,Nat.add_zero] at this;exact this
  refine cL rfl rfl (by omega) (by first | omega | (rw [List.length_set];omega)) ?_;refine nL rfl rfl (by omega) (by omega) ho rfl ?_;dsimp only [aA,aB];refine vn (oC ⟨_,eM⟩ LJ (by omega) (by omega)) rfl ?_;dsimp only [aA,aB];refine vn (rF (by omega) (by omega)) rfl ?_;dsimp only [aA,aB];refine vn (oC ⟨_,eY⟩ LJ (by omega) (by omega)) rfl ?_;dsimp only [aA,aB];refine vn (aI (by omega) (by omega)) rfl ?_;dsimp only [aA,aB];refine vn (aI (by omega) (by omega)) rfl ?_;dsimp only [aA,aB];refine vn (Bf (by omega) (by omega) (by omega)) rfl ?_;dsimp only [aA,aB];refine vn bX rfl ?_;dsimp only [aA,aB];refine vs _ rfl (fun h42=>?_) (fun h42=>?_)
  ·refine vn (aG (by omega) (by omega)) rfl ?_;dsimp only [aA,aB];refine vn (lY ⟨_,LJ⟩ eM (by omega) (by omega)) rfl ?_;dsimp only [aA,aB];refine cL rfl rfl (by omega) (by first | omega | (rw [List.length_set];omega)) ?_;refine nQ (d':=x+1000000000-c%1000000000-b) rfl rfl (by omega) (by omega) ho ?_ ?_
   ·show [aF.int .u32 _] = [aF.int .u32 _]
    congr 2;omega
   dsimp only [aA,aB];refine vn (aG (by omega) (by omega)) rfl ?_;dsimp only [aA,aB];exact aV rfl ⟨⟨(i+1,c/1000000000,1,os.set i (x+1000000000-c%1000000000-b)),hm _ 1 (by omega) (by omega) (by omega)⟩,aN.rfl,by show xs.length-(i+1)<xs.length-i;omega⟩
  refine vn (lY ⟨_,LJ⟩ eM (by omega) (by omega)) rfl ?_;dsimp only [aA,aB];refine cL rfl rfl (by omega) (by first | omega | (rw [List.length_set];omega)) ?_;refine nQ (d':=x-c%1000000000-b) rfl rfl (by omega) (by omega) ho ?_ ?_
  ·show [aF.int .u32 _] = [aF.int .u32 _]
   congr 2;omega
  dsimp only [aA,aB];refine vn (aG (by omega) (by omega)) rfl ?_;dsimp only [aA,aB];exact aV rfl ⟨⟨(i+1,c/1000000000,0,os.set i (x-c%1000000000-b)),hm _ 0 (by omega) (by omega) (by omega)⟩,aN.rfl,by show xs.length-(i+1)<xs.length-i;omega⟩
 refine vn kX rfl ?_;dsimp only [aA,aB];have hie:i=xs.length:=by omega
 subst hie;obtain ⟨hb1,ho1⟩:=hI.fin (by omega) hx hl;rw [hb1] at ho1;exact KC (by rw [←show rT os=rT _ from congrArg rT ho1];rfl) (congrArg (fun q=>[aH.one (.bool q)]) (Gq hb1))
structure zO (xs ys:List Nat) (i c:Nat) (os:List Nat):Prop where
 le:i≤xs.length
 c1:c≤1
 len:os.length=xs.length
 dg:DB 1000000000 os
 rest:os.drop i=xs.drop i
 eq:lv (os.take i)+1000000000^i*c=lv (xs.take i)+lv (ys.take i)
theorem zO.init {xs:List Nat} (hx:Dg xs) (ys:List Nat):zO xs ys 0 0 xs:=⟨Nat.zero_le _,by omega,rfl,hx,rfl,by simp [lv,val]⟩
theorem zO.get {xs ys os:List Nat} {i c x:Nat} (h:zO xs ys i c os) (hx:xs[i]? = some x):os[i]? = some x:=by
 have:=congrArg (fun l=>l[0]?) h.rest;simp only [List.getElem?_drop,Nat.add_zero] at this;rw [this,hx]
theorem zO.next {xs ys os:List Nat} {i c x y c' z:Nat} (h:zO xs ys i c os) (hx:xs[i]? = some x) (hy:ys[i]?.getD 0=y) (hz:z<1000000000) (hc:c'≤1) (he:z+1000000000*c'=x+c+y):zO xs ys (i+1) c' (os.set i z):=by
 have hi:i<xs.length:=(List.getElem?_eq_some_iff.1 hx).1;refine ⟨hi,hc,by rw [List.length_set];exact h.len,h.dg.set hz,?_,?_⟩
 ·rw [List.drop_set_of_lt (by omega)];have:=congrArg (List.drop 1) h.rest
  simpa [List.drop_drop] using this
 ·have h1:=h.eq;have h2:=congrArg (fun q=>1000000000^i*q) he;have e1:lv ((os.set i z).take (i+1))=lv (os.take i)+1000000000^i*z:=iB (by rw [h.len];exact hi);have e2:lv (xs.take (i+1))=lv (xs.take i)+1000000000^i*x:=eA hx;have e3:lv (ys.take (i+1))=lv (ys.take i)+1000000000^i*y:=fZ hy;rw [e1,e2,e3,Nat.pow_succ,Nat.mul_assoc];simp only [Nat.mul_add] at h2;omega
theorem zO.fin {xs ys os:List Nat} {c:Nat} (h:zO xs ys xs.length c os) (hl:ys.length<xs.length) :
  c=(if 1000000000^xs.length≤lv xs+lv ys then 1 else 0)∧os=pd 1000000000 xs.length (lv xs+lv ys-1000000000^xs.length*c):=by
 have h1:=h.eq;rw [List.take_of_length_le (by rw [h.len];omega),List.take_length,List.take_of_length_le (by omega)] at h1;have h2:lv os<_:=DB.lt (by omega) h.dg;rw [h.len] at h2;have hc:=h.c1
 constructor
 ·split<;>rcases (by omega:c=0∨c=1) with rfl | rfl<;>omega
 ·refine DN (by omega) h.dg h.len ?_;show lv os=_;omega
theorem FR (xs ys:List Nat) (hx:Dg xs) (hy:Dg ys) (hl:ys.length<xs.length) (hs:xs.length<1099511627776):pE prog 252 255 1 [] [(.one (.slice 1 (rT ys)):aH)] (rT xs) [.one (.bool (decide (1000000000^xs.length≤lv xs+lv ys)))] (rT (pd 1000000000 xs.length (lv xs+lv ys-1000000000^xs.length*(if 1000000000^xs.length≤lv xs+lv ys then 1 else 0)))):=by
 refine vR (a1:=[]) (a2:=[.v none]) (i1:=[]) (i2:=[.v (.one (.slice 1 (rT ys)))]) (hints:=(fun _=>none)) fo (by kernel_rfl) func252 trivial ⟨rfl,trivial⟩ (by kernel_rfl) ?_ ?_ ?_ ?_
 ·simp [rT]
 ·simp [rT]
 ·simp [rT]
 dsimp only [aA,aB];rw [FV];dsimp only [List.map,In.env,aA,aB];refine Fe rfl (List.length_map _) ?_;dsimp only [aA,aB];refine cJ {g:Nat×Nat×List Nat // zO xs ys g.1 g.2.1 g.2.2} (fun g=>[.one (.int .u32 g.1.2.1), .one (.int .i64 g.1.1), .rows (rT g.1.2.2)]) (fun g=>xs.length-g.1.1) ⟨(0,0,xs),zO.init hx _⟩ aN.rfl (fun _=>rfl) ?_;rintro ⟨⟨i,c,os⟩,hI⟩;dsimp only [aA,aB] at hI ⊢;have hol:=hI.len;have hil:=hI.le;have hc:=hI.c1;refine vn bX rfl ?_;dsimp only [aA,aB];refine vs _ rfl (fun h3=>?_) (fun h3=>?_)
 ·have hgx:xs[i]? = some (xs[i]'(by omega)):=List.getElem?_eq_getElem (by omega);generalize xs[i]'(by omega)=x at hgx;have hxB:=hx.get hgx;have ho:=hI.get hgx;refine cL rfl rfl (by omega) (by first | omega | (rw [List.length_set];omega)) ?_;refine nL rfl rfl (by omega) (by omega) ho rfl ?_;dsimp only [aA,aB];refine vn (iH (by omega) (by omega)) rfl ?_;dsimp only [aA,aB];refine vn (aQ bZ (List.length_map _)) rfl ?_;dsimp only [aA,aB];refine vn bX rfl ?_;dsimp only [aA,aB];refine vs _ rfl (fun h9=>?_) (fun h9=>?_)
  ·have hgy:ys[i]? = some (ys[i]'(by omega)):=List.getElem?_eq_getElem (by omega);generalize ys[i]'(by omega)=y at hgy;have hyB:=hy.get hgy;refine vn (bE bZ (by omega) (by omega) hgy) rfl ?_;dsimp only [aA,aB];refine vn (dA rJ) rfl ?_;dsimp only [aA,aB];refine vn (iH (by omega) (by omega)) rfl ?_;dsimp only [aA,aB];refine vn mK rfl ?_;dsimp only [aA,aB];refine vs _ rfl (fun h14=>?_) (fun h14=>?_)
   ·refine vn (iL (by omega) (by omega)) rfl ?_;dsimp only [aA,aB];refine cL rfl rfl (by omega) (by first | omega | (rw [List.length_set];omega)) ?_;refine nQ (d':=x+c+y-1000000000) rfl rfl (by omega) (by omega) ho ?_ ?_
    ·show [aF.int .u32 _] = [aF.int .u32 _]
     congr 2;omega
    dsimp only [aA,aB];refine vn (aG (by omega) (by omega)) rfl ?_;dsimp only [aA,aB];exact aV rfl ⟨⟨(i+1,1,os.set i (x+c+y-1000000000)),hI.next (z:=x+c+y-1000000000) (c':=1) (y:=y) hgx (by rw [hgy];rfl) (by omega) (by omega) (by omega)⟩,aN.rfl,by show xs.length-(i+1)<xs.length-i;omega⟩
   refine cL rfl rfl (by omega) (by first | omega | (rw [List.length_set];omega)) ?_;refine nQ (d':=x+c+y) rfl rfl (by omega) (by omega) ho ?_ ?_
   ·show [aF.int .u32 _] = [aF.int .u32 _]
    congr 2
   dsimp only [aA,aB];refine vn (aG (by omega) (by omega)) rfl ?_;dsimp only [aA,aB];exact aV rfl ⟨⟨(i+1,0,os.set i (x+c+y)),hI.next (z:=x+c+y) (c':=0) (y:=y) hgx (by rw [hgy];rfl) (by omega) (by omega) (by omega)⟩,aN.rfl,by show xs.length-(i+1)<xs.length-i;omega⟩
  have hnone:ys[i]? = none:=List.getElem?_eq_none_iff.2 (by omega);refine vn mK rfl ?_;dsimp only [aA,aB];refine vs _ rfl (fun h25=>?_) (fun h25=>?_)
  ·refine vn (iL (by omega) (by omega)) rfl ?_;dsimp only [aA,aB];refine cL rfl rfl (by omega) (by first | omega | (rw [List.length_set];omega)) ?_;refine nQ (d':=x+c-1000000000) rfl rfl (by omega) (by omega) ho ?_ ?_
   ·show [aF.int .u32 _] = [aF.int .u32 _]
    congr 2;omega
   dsimp only [aA,aB];refine vn (aG (by omega) (by omega)) rfl ?_;dsimp only [aA,aB];exact aV rfl ⟨⟨(i+1,1,os.set i (x+c-1000000000)),hI.next (z:=x+c-1000000000) (c':=1) (y:=0) hgx (by rw [hnone];rfl) (by omega) (by omega) (by omega)⟩,aN.rfl,by show xs.length-(i+1)<xs.length-i;omega⟩
  refine cL rfl rfl (by omega) (by first | omega | (rw [List.length_set];omega)) ?_;refine nQ (d':=x+c) rfl rfl (by omega) (by omega) ho ?_ ?_
  ·show [aF.int .u32 _] = [aF.int .u32 _]
   congr 2
  dsimp only [aA,aB];refine vn (aG (by omega) (by omega)) rfl ?_;dsimp only [aA,aB];exact aV rfl ⟨⟨(i+1,0,os.set i (x+c)),hI.next (z:=x+c) (c':=0) (y:=0) hgx (by rw [hnone];rfl) (by omega) (by omega) (by omega)⟩,aN.rfl,by show xs.length-(i+1)<xs.length-i;omega⟩
 refine vn kX rfl ?_;dsimp only [aA,aB];have hie:i=xs.length:=by omega
 subst hie;obtain ⟨hb1,ho1⟩:=hI.fin hl;rw [hb1] at ho1;exact KC (by rw [←show rT os=rT _ from congrArg rT ho1];rfl) (congrArg (fun q=>[aH.one (.bool q)]) (Gq hb1))
open Go Go.Proofs Tryz Ord
def Ph:Tr:=.need (.prim [(W 52 0)] none) (.unOp .not 4 (tT 120)) 4 false (.split (.u 55 0) (.need (.rop 54 255 1 (some ((.u 27 0),(.u 47 0))) [] [(W 14 0)] [none]) (.call ⟨.value (.func 252),#[(tT 124),(tT 125)],#[33,33]⟩) 4 true (.need (.prim [(W 53 0),(.one (.c (.k (.int .u64 1))))] none) (.binOp .sub 254 (tT 122) (.const (.int .u64 1)) 254) 254 false (.back 1 [lV 56 0,lV 58 0, .row 57]))) (.need (.prim [(W 53 0)] none) (.convert 254 255 (tT 129)) 255 false (.need (.idx 28 (.u 27 0)) (.indexAddr 33 (tT 127) (tT 128)) 0 false (.need (.strow 28 1 (.u 27 0) 0 [(.u 56 0)]) (.store 255 (tT 131) (tT 130)) 0 false (bO .sub 3 77 1 27 0 3 (.back 0 [lV 58 0, .row 57, .row 54]))))))
def Qf:Tr:=.need (.rop 29 255 1 (some ((.u 27 0),(.u 47 0))) [] [(W 14 0),(W 45 0)] [none]) (.call ⟨.value (.func 251),#[(tT 116),(tT 117),(tT 118)],#[33,33,254]⟩) 4 true (.split (.u 50 0) (.loop 1 [(.w (.one (.c (.k (.bool false))))),lV 45 0, .row 51] Ph) (.need (.prim [(W 45 0)] none) (.convert 254 255 (tT 129)) 255 false (.need (.idx 28 (.u 27 0)) (.indexAddr 33 (tT 127) (tT 128)) 0 false (.need (.strow 28 1 (.u 27 0) 0 [(.u 52 0)]) (.store 255 (tT 131) (tT 130)) 0 false (bO .sub 3 77 1 27 0 3 (.back 0 [lV 54 0, .row 53, .row 51]))))))
def OS:Tr:=cU .quo 254 96 102 39 0 43 0 254 (.need (.prim [(W 44 0),(.one (.c (.k (.int .u64 999999999))))] none) (.call ⟨.builtin .min,#[(tT 103),(.const (.int .u64 999999999))],#[254,254]⟩) 254 false (cU .add 3 107 108 27 0 15 0 3 (bO .add 3 109 1 46 0 3 (cU .add 3 111 112 27 0 15 0 3 (bO .add 3 113 1 48 0 3 (.need (.view 29 (.u 27 0) (.u 47 0) (.u 49 0)) (.slice 33 (tT 105) (some (tT 106)) (some (tT 110)) (some (tT 114))) 33 false Qf))))))
def Qy:Tr:=.need (.ldrow 29 (.u 36 0) 0 1 false) (.load 255 (tT 92)) 255 false (.need (.prim [(W 37 0)] none) (.convert 255 254 (tT 93)) 254 false (cU .add 254 86 94 34 0 38 0 254 (bO .sub 3 98 1 15 0 3 (qI 14 0 40 0 33 97 99 (oX 41 0 none 255 100 (.need (.prim [(W 42 0)] none) (.convert 255 254 (tT 101)) 254 false OS))))))
def QL:Tr:=.need (.idx 29 (.u 31 0)) (.indexAddr 33 (tT 79) (tT 82)) 0 false (.need (.ldrow 29 (.u 31 0) 0 1 false) (.load 255 (tT 83)) 255 false (.need (.prim [(W 32 0)] none) (.convert 255 254 (tT 84)) 254 false (.need (.prim [(W 33 0),(.one (.c (.k (.int .u64 1000000000))))] none) (.binOp .mul 254 (tT 85) (.const (.int .u64 1000000000)) 254) 254 false (cU .add 3 88 89 27 0 15 0 3 (bO .sub 3 90 1 35 0 3 (.need (.idx 29 (.u 36 0)) (.indexAddr 33 (tT 87) (tT 91)) 0 false Qy))))))
def PE:Tr:=.loop 0 [lV 26 0, .row 24, .row 21] (bO .geq 3 75 0 27 0 4 (.split (.u 30 0) (cU .add 3 80 81 27 0 15 0 3 QL) (aU 197 [(.one (.c (.sr 1 29)))] [(some 1)] [133] [33] 35 false (aU 193 [(G1 31),(G1 13)] [(some 1),(some 1)] [134,135] [35,35] 251 false (aU 197 [(.one (.c (.sr 1 28)))] [(some 1)] [139] [33] 35 false (.ret [(G1 34),(G1 32)]))))))
def Ov:Tr:=aU 118 [(G1 0),(G1 13)] [(some 1)] [62,63] [35,35] 35 true (.need (.rop 18 255 1 none [] [(W 19 0)] [none]) (.call ⟨.builtin .copy,#[(tT 61),(tT 65)],#[33,33]⟩) 3 false (.need (.lenrow 21) (.call ⟨.builtin .len,#[(tT 67)],#[33]⟩) 3 false (cU .sub 3 68 69 22 0 15 0 3 (.need (.make [(.int .u32 0)] 4 (.u 23 0) (.u 23 0)) (.makeSlice 33 (tT 70) (tT 70)) 33 false (.need (.lenrow 24) (.call ⟨.builtin .len,#[(tT 72)],#[33]⟩) 3 false (bO .sub 3 73 1 25 0 3 PE))))))
def Rt:Tr:=.need (.prim [(W 11 0)] none) (.convert 255 254 (tT 47)) 254 false (aU 195 [(W 12 0)] [(some 1)] [48] [254] 35 true (aU 118 [(G1 1),(G1 13)] [(some 1)] [50,51] [35,35] 35 true (fX 14 0 54 33 (fX 0 0 57 33 (bO .add 3 58 1 16 0 3 (.need (.make [(.int .u32 0)] 4 (.u 17 0) (.u 17 0)) (.makeSlice 33 (tT 59) (tT 59)) 33 false Ov))))))
def RO:Tr:=.split (.u 5 0) (.need (.prim [(W 1 0),(WK 0)] none) (.indexAddr 33 (tT 32) (.const (I3 0))) 0 false (oX 6 0 none 255 33 (aU 250 [(G1 0),(W 7 0)] [(some 1),(some 1)] [30,34] [35,255] 251 true (.ret [(G1 8),(G1 9)])))) (fX 1 0 41 33 (bO .sub 3 42 1 6 0 3 (qI 1 0 7 0 33 39 43 (oX 8 0 none 255 44 (.need (.prim [(W 9 0),(.one (.c (.k (.int .u32 1))))] none) (.binOp .add 255 (tT 45) (.const (.int .u32 1)) 255) 255 false (.need (.prim [(.one (.c (.k (.int .u32 1000000000)))),(W 10 0)] none) (.binOp .quo 255 (.const (.int .u32 1000000000)) (tT 46) 255) 255 false Rt))))))
def SQ:Tr:=aU 119 [(G1 0),(G1 1)] [none] [19,20] [35,35] 3 true (bO .lss 3 21 0 2 0 4 (.split (.u 3 0) (.ret [(.agg [tN]),(G1 0)]) (fX 1 0 27 33 (bO .eql 3 28 1 4 0 4 RO))))
theorem JS:aO prog f193 (fun _=>none) [.v (some 1), .v (some 1)]=SQ:=by kernel_rfl
theorem wL {a b:Int}:dS a b<0↔a<b:=by unfold dS;split<;>(try split)<;>omega
theorem gD {n:Nat} (h:n=0):aF.Sub (.exact (.slice none 0 0)) (dT n):=by
 subst h;have:dg 0 = []:=cB _;rw [dT,this];exact aF.Sub.nil
theorem oL {n:Nat} (h0:0<n) (h:n<1000000000):dg n = [n]:=by
 rw [dg,dZ (by omega) (by omega),Nat.mod_eq_of_lt h,Nat.div_eq_of_lt h,cB]
theorem wZ {n k:Nat} (h:n<1000000000^k):(dg n).length≤k:=gG (by omega) h
theorem BF (n:Nat):n<1000000000^(dg n).length:=oQ (by omega) n
theorem IW {n:Nat} (h:n≠0):1000000000^((dg n).length-1)≤n:=gI (by omega) h
theorem Jk {n i:Nat} (h:i<(dg n).length):(dg n)[i]? = some (n/1000000000^i%1000000000):=by
 have e:(dg n)[i]? = (pd 1000000000 (dg n).length n)[i]?:=congrArg (fun l:List Nat=>l[i]?) (MB (by omega) n);rw [e,BX _ h]
theorem Ek {n:Nat} (h:0<n):1000000000^(n-1)*1000000000=1000000000^n:=by
 obtain ⟨k,rfl⟩:∃ k,n=k+1:=⟨n-1,by omega⟩
 rw [Nat.add_sub_cancel,Nat.pow_succ]
theorem QQ {r1 r2 vt:Nat} (h1:r1<1000000000) (h2:r2<1000000000):(r1*1000000000+r2)/vt<1000000000000000000:=
 Nat.lt_of_le_of_lt (Nat.div_le_self _ _) (by omega)
theorem Jh (q:Nat):min (q:Int) 999999999=((min q 999999999:Nat):Int):=by omega
theorem Gc {n:Nat} (h:n<1000000000):(n:Int)<4294967296:=by omega
theorem Jc {n:Nat} (h:n<1000000000000000000):(n:Int)<18446744073709551616:=by omega
theorem rK (n:Nat):(0:Int)≤(n:Int):=Int.natCast_nonneg _
theorem Oi (i:Nat):((i+1:Nat):Int)-1-1=(i:Int)-1:=by omega
theorem Qz {P:Program} {T U ty:Nat} {x y:Operand} {a b:Nat} {a':Int} (ha':a'=a) (hb:0<b) (hc:(a/b:Nat)<1000000000000000000):aK P (.binOp .quo T x y U) ty [.one (.int .u64 a'), .one (.int .u64 b)] (.one (.int .u64 ((a/b:Nat):Int))):=by
 subst ha';exact rC (by omega) (by rw [Int.tdiv_eq_ediv_of_nonneg (rK _),←Int.natCast_ediv,oF (rK _) (Jc hc)])
theorem MZ (a b:Nat) (hb0:0<b) (hb:b<1000000000) (hs:(dg a).length<549755813888):aJ prog 193 [(mT a:aH),(mT b:aH)] (.ret [mT (a/b),mT (a%b)]):=by
 refine aD (args:=[.v (some 1), .v (some 1)]) (ins:=[.v (mT a), .v (mT b)]) (hints:=(fun _=>none)) fo (by kernel_rfl) func193 ⟨rfl,rfl,trivial⟩ ?_;rw [JS];dsimp only [List.map,In.env,aA,aB];have e1:=oL hb0 hb;refine aC (pB a b (by rw [e1];simp;omega)) rfl ?_;dsimp only [aA,aB];refine vn bX rfl ?_;dsimp only [aA,aB];rw [show decide (dS (a:Int) (b:Int)<0)=decide (a<b) by rw [decide_eq_decide,wL];omega];refine vs _ rfl (fun h2=>?_) (fun h2=>?_)
 ·refine eP ⟨⟨gD (Nat.div_eq_of_lt h2),trivial⟩,⟨?_,trivial⟩,trivial⟩;rw [Nat.mod_eq_of_lt h2];exact aF.Sub.same
 refine vn (aQ bZ (List.length_map _)) rfl ?_;dsimp only [aA,aB];refine vn cK rfl ?_;dsimp only [aA,aB];refine vs _ rfl (fun h6=>?_) (fun h6=>?_)
 ·refine vn (bE bZ (by omega) (by omega) (show (dg b)[0]? = some b by rw [e1];rfl)) rfl ?_;dsimp only [aA,aB];refine vn (dA rJ) rfl ?_;dsimp only [aA,aB];refine aC (Dc a b hb0 hb (by omega)) rfl ?_;exact aP rfl
 exact absurd (by rw [e1];simp) h6
structure DP (S V L m n:Nat) (os:List Nat) (R:Nat):Prop where
 le:n≤m
 len:os.length=m
 dg:Dg os
 eq:S=R+V*1000000000^n*lv (os.drop n)
 lt:R/1000000000^n<V
 fit:R<1000000000^L
theorem DP.next {S V L m n R g:Nat} {os:List Nat} (h:DP S V L m (n+1) os R) (hV:0<V) (hg:g=R/1000000000^n/V) :
  DP S V L m n (os.set n g) (R%1000000000^n+1000000000^n*(R/1000000000^n%V)):=by
 obtain ⟨h1,h2,h3,h4⟩:=zU (B:=1000000000) (by omega) hV h.eq h.lt;have hn:=h.le;have hlen:=h.len;subst hg;refine ⟨by omega,by rw [List.length_set];exact hlen,h.dg.set h2,?_,h4,?_⟩
 ·rw [CN (x:=R/1000000000^n/V) (by rw [List.getElem?_set_self (by omega)]),List.drop_set_of_lt (by omega)];exact h3
 ·refine Nat.lt_of_le_of_lt ?_ h.fit;have:=Nat.mod_add_div R (1000000000^n);have h5:=Nat.mul_le_mul_left (1000000000^n) (Nat.mod_le (R/1000000000^n) V);omega
def Mj (W X V:Nat) (p:Bool×Nat):Nat:=if p.1 then X%V else X+W-p.2*V
theorem QP {R i nv:Nat} (hnv:0<nv) (h:R/1000000000^(i+nv)<1000000000):R/1000000000^(i+nv)%1000000000*1000000000+R/1000000000^(i+nv-1)%1000000000=R/1000000000^i/1000000000^(nv-1):=by
 rw [Nat.mod_eq_of_lt h,Nat.div_div_eq_div_mul,←Nat.pow_add,show i+(nv-1)=i+nv-1 by omega]
 have e:R/1000000000^(i+nv)=R/1000000000^(i+nv-1)/1000000000:=by
  rw [Nat.div_div_eq_div_mul,←Nat.pow_succ];congr 2;omega
 rw [e];have:=Nat.div_add_mod (R/1000000000^(i+nv-1)) 1000000000;omega
theorem Hq {b s top:Nat} (hs0:0<s) (hs:s*(top+1)≤1000000000) (htop:top=b/1000000000^((dg b).length-1)) (hb:b≠0):(dg (b*s)).length=(dg b).length:=by
 have hp:0<1000000000^((dg b).length-1):=Nat.pow_pos (by omega)
 have hl:0<(dg b).length:=by
  rcases Nat.eq_zero_or_pos (dg b).length with h | h
  ·exact (hb (sC.1 (List.eq_nil_of_length_eq_zero h))).elim
  ·exact h
 apply Nat.le_antisymm
 ·apply wZ
  have h1:b<(top+1)*1000000000^((dg b).length-1):=by
   rw [htop,Nat.mul_comm];exact Nat.lt_mul_div_succ b hp
  calc b*s<(top+1)*1000000000^((dg b).length-1)*s:=Nat.mul_lt_mul_of_pos_right h1 hs0
   _=s*(top+1)*1000000000^((dg b).length-1):=by simp only [Nat.mul_comm,Nat.mul_left_comm,Nat.mul_assoc]
   _≤1000000000*1000000000^((dg b).length-1):=Nat.mul_le_mul_right _ hs
   _=1000000000^(dg b).length:=by rw [Nat.mul_comm,←Nat.pow_succ];congr 1;omega
 ·exact kW (Nat.le_mul_of_pos_right b hs0)
set_option maxHeartbeats 1000000 in
theorem Cp (a b:Nat) (hb0:0<b) (hs:(dg a).length+(dg b).length<274877906944):aJ prog 193 [(mT a:aH),(mT b:aH)] (.ret [mT (a/b),mT (a%b)]):=by
 refine aD (args:=[.v (some 1), .v (some 1)]) (ins:=[.v (mT a), .v (mT b)]) (hints:=(fun _=>none)) fo (by kernel_rfl) func193 ⟨rfl,rfl,trivial⟩ ?_;rw [JS];dsimp only [List.map,In.env,aA,aB];refine aC (pB a b (by omega)) rfl ?_;dsimp only [aA,aB];refine vn bX rfl ?_;dsimp only [aA,aB];rw [show decide (dS (a:Int) (b:Int)<0)=decide (a<b) by rw [decide_eq_decide,wL];omega];refine vs _ rfl (fun h2=>?_) (fun h2=>?_)
 ·refine eP ⟨⟨gD (Nat.div_eq_of_lt h2),trivial⟩,⟨?_,trivial⟩,trivial⟩;rw [Nat.mod_eq_of_lt h2];exact aF.Sub.same
 have hbl:0<(dg b).length:=by
  rcases Nat.eq_zero_or_pos (dg b).length with h | h
  ·exact (Nat.ne_of_gt hb0 (sC.1 (List.eq_nil_of_length_eq_zero h))).elim
  ·exact h
 have hlen:=kW (Nat.le_of_not_lt h2);refine vn (aQ bZ (List.length_map _)) rfl ?_;dsimp only [aA,aB];refine vn cK rfl ?_;dsimp only [aA,aB];refine vs _ rfl (fun h6=>?_) (fun h6=>?_)
 ·have hb:b<1000000000:=by
   have:=BF b;rw [show (dg b).length=1 by omega] at this;omega
  have e1:=oL hb0 hb;refine vn (bE bZ (by omega) (by omega) (show (dg b)[0]? = some b by rw [e1];rfl)) rfl ?_;dsimp only [aA,aB];refine vn (dA rJ) rfl ?_;dsimp only [aA,aB];refine aC (Dc a b hb0 hb (by omega)) rfl ?_;exact aP rfl
 obtain ⟨top,htop⟩:∃ t,(dg b)[(dg b).length-1]? = some t:=⟨_,List.getElem?_eq_getElem (by omega)⟩
 have htB:=(gT b).get htop
 have htv:top=b/1000000000^((dg b).length-1):=by
  have h1:=Jk (n:=b) (i:=(dg b).length-1) (by omega);rw [htop] at h1;simp only [Option.some.injEq] at h1;rw [h1,Nat.mod_eq_of_lt];rw [Nat.div_lt_iff_lt_mul (Nat.pow_pos (by omega)),Nat.mul_comm,Ek hbl];exact BF b
 have ht0:0<top:=by
  rw [htv];exact Nat.div_pos (IW (by omega)) (Nat.pow_pos (by omega))
 obtain ⟨s,hs'⟩:∃ s,1000000000/(top+1)=s:=⟨_,rfl⟩
 have hsle:s*(top+1)≤1000000000:=by rw [←hs'];exact Nat.div_mul_le_self _ _
 have hs0:0<s:=by rw [←hs'];exact Nat.div_pos (by omega) (by omega)
 have hsB:s<1000000000:=by
  rw [←hs'];exact Nat.div_lt_self (by omega) (by omega)
 have hvl:=Hq hs0 hsle htv (by omega);refine vn (aQ bZ (List.length_map _)) rfl ?_;dsimp only [aA,aB];refine vn (aI (by omega) (by omega)) rfl ?_;dsimp only [aA,aB];refine vn (bE bZ (by omega) (by omega) htop) rfl ?_;dsimp only [aA,aB];refine vn (dA rJ) rfl ?_;dsimp only [aA,aB];refine vn (iH (by omega) (by omega)) rfl ?_;dsimp only [aA,aB];refine vn (rC (c:=(s:Int)) (by omega) (by rw [Int.tdiv_eq_ediv_of_nonneg (by omega),show ((1000000000:Int)/((top:Int)+1))=((1000000000/(top+1):Nat):Int) by simp,hs',sV]<;>omega)) rfl ?_;dsimp only [aA,aB];refine vn (oE ⟨_,eM⟩ eY (by omega) (by omega)) rfl ?_;dsimp only [aA,aB];refine aC (gP s (by omega)) rfl ?_;dsimp only [aA,aB];refine aC (gB b s (by rw [oL hs0 hsB];simp;omega)) rfl ?_;obtain ⟨V,hV⟩:∃ V,b*s=V:=⟨_,rfl⟩
 obtain ⟨S,hS⟩:∃ S,a*s=S:=⟨_,rfl⟩
 rw [hV] at hvl ⊢;have hV0:0<V:=by rw [←hV];exact Nat.mul_pos hb0 hs0
 dsimp only [aA,aB];refine vn (aQ bZ (List.length_map _)) rfl ?_;dsimp only [aA,aB];refine vn (aQ bZ (List.length_map _)) rfl ?_;dsimp only [aA,aB];refine vn (aG (by omega) (by omega)) rfl ?_;dsimp only [aA,aB];refine EF (n:=(dg a).length+1) (f:=fun d:Nat=>[aF.int .u32 (d:Int)]) 0 rfl rfl (by omega) rfl (by omega) (by simp only [maxLen];omega) ?_;dsimp only [aA,aB];refine aC (gB a s (by rw [oL hs0 hsB];simp;omega)) rfl ?_;rw [hS]
 have hSlt:S<1000000000^((dg a).length+1):=by
  rw [←hS,Nat.pow_succ];exact Nat.mul_lt_mul'' (BF a) hsB
 have hSle:=wZ hSlt
 have hSV:S<V*1000000000^((dg a).length+1-(dg b).length):=by
  rw [←hS,←hV];have h1:=BF a;have h2:=IW (n:=b) (by omega)
  have h3:1000000000^(dg a).length≤b*1000000000^((dg a).length+1-(dg b).length):=by
   refine Nat.le_trans (Nat.le_of_eq ?_) (Nat.mul_le_mul_right _ h2);rw [←Nat.pow_add];congr 1;omega
  calc a*s<b*1000000000^((dg a).length+1-(dg b).length)*s:=Nat.mul_lt_mul_of_pos_right (Nat.lt_of_lt_of_le h1 h3) hs0
   _=_:=by simp only [Nat.mul_comm,Nat.mul_left_comm,Nat.mul_assoc]
 obtain ⟨L,hL⟩:∃ L,(dg a).length+1=L:=⟨_,rfl⟩
 rw [hL] at hSlt hSle hSV;dsimp only [aA,aB];refine Ja (xs:=dg S) (zs:=List.replicate ((dg a).length+1) 0) (ws:=pd 1000000000 L S) (fun _=>rfl) rfl rfl bZ (by simp;omega) (by simp) (DN (by omega) ((DB.gY (by omega) S).append ((DB.rep (by omega) _).drop _)) (by simp only [List.length_append,List.length_drop,List.length_replicate];show (dg S).length+_=_;omega) (by rw [List.drop_replicate,iV,Gk];show lv (dg S)+_=_;rw [eL,Nat.mul_zero,Nat.add_zero])) ?_;dsimp only [aA,aB];refine Fe (n:=L) rfl (by simp) ?_;dsimp only [aA,aB];refine vn (aI (by omega) (by omega)) rfl ?_;dsimp only [aA,aB];refine EF (n:=L-(dg b).length) (f:=fun d:Nat=>[aF.int .u32 (d:Int)]) 0 rfl rfl (by rw [hvl];omega) rfl (by omega) (by simp only [maxLen];omega) ?_;dsimp only [aA,aB];refine Fe (n:=L-(dg b).length) rfl (by simp) ?_;dsimp only [aA,aB];refine vn (aI (by omega) (by omega)) rfl ?_;dsimp only [aA,aB];obtain ⟨m,hm⟩:∃ m,L-(dg b).length=m:=⟨_,rfl⟩
 rw [hm] at hSV ⊢;rw [hvl];obtain ⟨nv,hnv⟩:∃ n,(dg b).length=n:=⟨_,rfl⟩
 rw [hnv] at hvl htv htop hbl hlen hm hs ⊢;refine cJ {g:Nat×List Nat×Nat // DP S V L m g.1 g.2.1 g.2.2} (fun g=>[.one (.int .i64 ((g.1.1:Int)-1)), .rows (rT g.1.2.1), .rows (rT (pd 1000000000 L g.1.2.2))]) (fun g=>g.1.1) ⟨(m,List.replicate m 0,S),⟨Nat.le_refl _,by simp,Dg.rep _,by simp [lv,val],by rw [Nat.div_lt_iff_lt_mul (Nat.pow_pos (by omega))];exact hSV,hSlt⟩⟩ aN.rfl (fun _=>rfl) ?_;rintro ⟨⟨n,os,R⟩,hI⟩;dsimp only [aA,aB] at hI ⊢;have hnm:=hI.le;have hol:=hI.len;have hfit:=hI.fit;have hLs:L<549755813888:=by omega
 have hnvL:nv<L:=by omega
 refine vn mK rfl ?_;dsimp only [aA,aB];refine vs _ rfl (fun h33=>?_) (fun h33=>?_)
 ·clear htop htB htv ht0 hs' hsle hSV hSlt hSle hs hlen hL hnv h2 h6 hS hV hsB hs0;obtain ⟨i,rfl⟩:∃ i,n=i+1:=⟨n-1,by omega⟩
  obtain ⟨hX1,hX2,_,_⟩:=zU (B:=1000000000) (by omega) hV0 hI.eq hI.lt;obtain ⟨X,hX⟩:∃ X,R/1000000000^i=X:=⟨_,rfl⟩
  have hVlt:V<1000000000^nv:=by rw [←hvl];exact BF V
  have hXlt:X<1000000000^(nv+1):=by
   rw [Nat.pow_succ,←hX];exact Nat.lt_trans hX1 (Nat.mul_lt_mul_of_pos_right hVlt (by omega))
  have hRtop:R/1000000000^(i+(nv+1))=0:=by
   rw [Nat.pow_add,←Nat.div_div_eq_div_mul,hX];exact Nat.div_eq_of_lt hXlt
  have hRnv:R/1000000000^(i+nv)<1000000000:=by
   rw [Nat.pow_add,←Nat.div_div_eq_div_mul,hX,Nat.div_lt_iff_lt_mul (Nat.pow_pos (by omega)),Nat.mul_comm,←Nat.pow_succ];exact hXlt
  have htwo:=QP hbl hRnv;rw [hX] at htwo hX1 hX2;obtain ⟨r1,hr1⟩:∃ r,R/1000000000^(i+nv)%1000000000=r:=⟨_,rfl⟩
  obtain ⟨r2,hr2⟩:∃ r,R/1000000000^(i+nv-1)%1000000000=r:=⟨_,rfl⟩
  have hr1B:r1<1000000000:=by rw [←hr1];exact Nat.mod_lt _ (by omega)
  have hr2B:r2<1000000000:=by rw [←hr2];exact Nat.mod_lt _ (by omega)
  have hg1:(pd 1000000000 L R)[i+nv]? = some r1:=by rw [BX _ (by omega),hr1]
  have hg2:(pd 1000000000 L R)[i+nv-1]? = some r2:=by rw [BX _ (by omega),hr2]
  rw [hr1,hr2] at htwo;obtain ⟨vt,hvt⟩:∃ t,V/1000000000^(nv-1)=t:=⟨_,rfl⟩
  have hvtB:vt<1000000000:=by
   rw [←hvt,Nat.div_lt_iff_lt_mul (Nat.pow_pos (by omega)),Nat.mul_comm,Ek hbl];exact hVlt
  have hvt0:0<vt:=by
   have:=IW (n:=V) (by omega);rw [hvl] at this;rw [←hvt];exact Nat.div_pos this (Nat.pow_pos (by omega))
  have hgv:(dg V)[nv-1]? = some vt:=by
   rw [Jk (by omega),hvt,Nat.mod_eq_of_lt hvtB]
  obtain ⟨g,hg⟩:∃ g,min ((r1*1000000000+r2)/vt) 999999999=g:=⟨_,rfl⟩
  have hgB:g<1000000000:=by rw [←hg];exact Nat.lt_of_le_of_lt (Nat.min_le_right _ _) (by decide)
  have hgq:X/V≤g:=by
   rw [←hg];have h1:=JK (B:=1000000000) (X:=X) (V:=V) (n:=nv-1) (by rw [hvt];exact hvt0);rw [hvt,←htwo] at h1;exact Nat.le_min.2 ⟨h1,Nat.le_of_lt_succ hX2⟩
  have hpdl:(pd 1000000000 L R).length=L:=cS _ _;refine vn (aG (by omega) (by omega)) rfl ?_;dsimp only [aA,aB];refine cL rfl rfl (by omega) (by rw [cS];omega) ?_;refine nL rfl rfl (by omega) (by omega) hg1 rfl ?_;dsimp only [aA,aB];refine vn (oE ⟨_,eM⟩ eY (by omega) (by omega)) rfl ?_;dsimp only [aA,aB];refine vn (HZ (by omega) (by omega)) rfl ?_;dsimp only [aA,aB];refine vn (aG (by omega) (by omega)) rfl ?_;dsimp only [aA,aB];refine vn (aI (by omega) (by omega)) rfl ?_;dsimp only [aA,aB];refine cL rfl rfl (by omega) (by rw [cS];omega) ?_;refine nL rfl rfl (by omega) (by omega) hg2 rfl ?_;dsimp only [aA,aB];refine vn (oE ⟨_,eM⟩ eY (by omega) (by omega)) rfl ?_;dsimp only [aA,aB];refine vn (Hz (by omega) (by omega)) rfl ?_;dsimp only [aA,aB];refine vn (aI (by omega) (by omega)) rfl ?_;dsimp only [aA,aB];refine vn (bE bZ (by omega) (by omega) hgv) rfl ?_;dsimp only [aA,aB];refine vn (dA rJ) rfl ?_;dsimp only [aA,aB];refine vn (oE ⟨_,eM⟩ eY (by omega) (by omega)) rfl ?_;dsimp only [aA,aB];refine vn (Qz (a:=r1*1000000000+r2) (by rw [Int.natCast_add,Int.natCast_mul];rfl) hvt0 (QQ hr1B hr2B)) rfl ?_;dsimp only [aA,aB];refine vn KW rfl ?_;dsimp only [aA,aB];rw [Jh,hg];refine vn (aG (by omega) (by omega)) rfl ?_;dsimp only [aA,aB];refine vn (aG (by omega) (by omega)) rfl ?_;dsimp only [aA,aB];refine vn (aG (by omega) (by omega)) rfl ?_;dsimp only [aA,aB];refine vn (aG (by omega) (by omega)) rfl ?_;dsimp only [aA,aB];refine Tz (n:=i) (m:=i+nv+1) rfl (by show aF.int .i64 _=aF.int .i64 _;congr 1;omega) (by show aF.int .i64 _=aF.int .i64 _;congr 1;omega) (by show aF.int .i64 _=aF.int .i64 _;congr 1;omega) (by omega) (by simp;omega) ?_
  have hgV:g*V<1000000000^(nv+1):=by
   rw [Nat.pow_succ,Nat.mul_comm (1000000000^nv)];exact Nat.lt_of_lt_of_le (Nat.mul_lt_mul_of_pos_right (by omega:g<1000000000) hV0) (Nat.mul_le_mul_left _ (Nat.le_of_lt hVlt))
  have hview:∀ Y,Y<1000000000^(nv+1)→((rT (pd 1000000000 L (R%1000000000^i+1000000000^i*Y))).take (i+nv+1)).drop i=rT (pd 1000000000 (nv+1) Y):=by
   intro Y hY;rw [rT,rT,←List.map_take,←List.map_drop,Ca _ (by omega),CL,show i+nv+1-i=nv+1 by omega]
   congr 2
   rw [Nat.add_mul_div_left _ _ (Nat.pow_pos (by omega)),Nat.div_eq_of_lt (Nat.mod_lt _ (Nat.pow_pos (by omega))),Nat.zero_add]
  have hfitY:∀ Y,Y<1000000000^(nv+1)→R%1000000000^i+1000000000^i*Y<1000000000^L:=by
   intro Y hY;have h1:R%1000000000^i<1000000000^i:=Nat.mod_lt _ (Nat.pow_pos (by omega));have h2:1000000000^i*(Y+1)≤1000000000^i*1000000000^(nv+1):=Nat.mul_le_mul_left _ hY;rw [←Nat.pow_add] at h2;have h3:1000000000^(i+(nv+1))≤1000000000^L:=Nat.pow_le_pow_right (by omega) (by omega);rw [Nat.mul_add,Nat.mul_one] at h2;omega
  have hput:∀ Y Z,Y<1000000000^(nv+1)→Z<1000000000^(nv+1)→(rT (pd 1000000000 L (R%1000000000^i+1000000000^i*Y))).take i++rT (pd 1000000000 (nv+1) Z)++(rT (pd 1000000000 L (R%1000000000^i+1000000000^i*Y))).drop (i+(rT (pd 1000000000 (nv+1) Y)).length)=rT (pd 1000000000 L (R%1000000000^i+1000000000^i*Z)):=by
   intro Y Z hY hZ;have hp:0<1000000000^i:=Nat.pow_pos (by omega);have hm:R%1000000000^i<1000000000^i:=Nat.mod_lt _ hp;rw [bC,cS,rT,rT,rT,←List.map_take,←List.map_drop,←List.map_append,←List.map_append,HM (by omega) (by omega) (hfitY Y hY) hZ]
   have e:(R%1000000000^i+1000000000^i*Y)/1000000000^(i+(nv+1))=0:=by
    rw [Nat.pow_add 1000000000 i,←Nat.div_div_eq_div_mul,Nat.add_mul_div_left _ _ hp,Nat.div_eq_of_lt hm,Nat.zero_add];exact Nat.div_eq_of_lt hY
   rw [e,Nat.add_mul_mod_self_left,Nat.mod_eq_of_lt hm,Nat.mul_zero,Nat.add_zero]
  have hRX:R=R%1000000000^i+1000000000^i*X:=by rw [←hX];exact (Nat.mod_add_div _ _).symm
  have hsub:=Fi (pd 1000000000 (nv+1) X) (dg V) g (zA (by omega) _ _) (gT V) hgB (by rw [cS];omega) (by rw [cS];omega);have hlvX:∀ Y,Y<1000000000^(nv+1)→lv (pd 1000000000 (nv+1) Y)=Y:=fun Y hY=>by rw [lv,sD,Nat.mod_eq_of_lt hY]
  rw [hlvX X hXlt,eL,cS] at hsub
  have hgive:∀ Y,Y<1000000000^(nv+1)→pE prog 252 255 1 [] [.one (.slice 1 (rT (dg V)))] (rT (pd 1000000000 (nv+1) Y)) [.one (.bool (decide (1000000000^(nv+1)≤Y+V)))] (rT (pd 1000000000 (nv+1) (Y+V-1000000000^(nv+1)*(if 1000000000^(nv+1)≤Y+V then 1 else 0)))):=by
   intro Y hY;have h1:=FR (pd 1000000000 (nv+1) Y) (dg V) (zA (by omega) _ _) (gT V) (by rw [cS];omega) (by rw [cS];omega);rw [hlvX Y hY,eL,cS] at h1;exact h1
  have hok:os[i]? = some (os[i]'(by omega)):=List.getElem?_eq_getElem (by omega);have hVB:V<1000000000^(nv+1):=Nat.lt_of_lt_of_le hVlt (Nat.pow_le_pow_right (by omega) (by omega));have hXV:X%V<1000000000^(nv+1):=Nat.lt_trans (Nat.mod_lt _ hV0) hVB
  have hN:DP S V L m i (os.set i (X/V)) (R%1000000000^i+1000000000^i*(X%V)):=by
   have:=hI.next hV0 rfl;rw [hX] at this;exact this
  clear hI htwo hg hr1 hr2 hg1 hg2 hvt hgv hvt0 hvtB hX hRnv hRtop hr1B hr2B hpdl hlvX hfit
  refine Iv (n:=i) (vs:=rT (pd 1000000000 L (R%1000000000^i+1000000000^i*(X+1000000000^(nv+1)*(if X<g*V then 1 else 0)-g*V)))) (ts:=rT (pd 1000000000 L R)) (us:=rT (pd 1000000000 (nv+1) X)) rfl ⟨.i64, .i64,i+nv+1,(by show aF.int .i64 _=aF.int .i64 _;congr 1;omega),(by show aF.int .i64 _=aF.int .i64 _;congr 1;omega),by omega,by simp;omega,by rw [←hview X hXlt,←hRX]⟩ (by simp [pd]) rfl (oJ rfl hsub) (by
   conv=>lhs;rw [hRX]
   exact hput X _ hXlt (by split<;>omega)) ?_
  dsimp only [aA,aB];refine vs _ rfl (fun h57=>?_) (fun h57=>?_)
  ·refine cJ {p:Bool×Nat // if p.1 then p.2=X/V else X<p.2*V∧p.2<1000000000} (fun p=>[.one (.bool p.1.1), .one (.int .u64 p.1.2), .rows (rT (pd 1000000000 L (R%1000000000^i+1000000000^i*Mj (1000000000^(nv+1)) X V p.1)))]) (fun p=>if p.1.1 then 0 else p.1.2+1) ⟨(false,g),by simp only [Bool.false_eq_true,if_false];exact ⟨h57,hgB⟩⟩ ⟨aH.Sub.same,aH.Sub.same,aH.Sub.of_eq (congrArg (fun y=>aH.rows (rT (pd 1000000000 L (R%1000000000^i+1000000000^i*y)))) (by simp only [Mj,Bool.false_eq_true,if_false];rw [if_pos h57,Nat.mul_one])),trivial⟩ (fun _=>rfl) ?_;rintro ⟨⟨made,g'⟩,hp⟩;dsimp only [aA,aB] at hp ⊢;refine vn BH rfl ?_;dsimp only [aA,aB];refine zW (!made) rfl (fun h60=>?_) (fun h60=>?_)
   ·have hmd:made=false:=by simpa using h60
    subst hmd;simp only [Bool.false_eq_true,if_false] at hp
    have hgV':g'*V<1000000000^(nv+1):=by
     rw [Nat.pow_succ,Nat.mul_comm (1000000000^nv)];exact Nat.lt_of_lt_of_le (Nat.mul_lt_mul_of_pos_right (by omega:g'<1000000000) hV0) (Nat.mul_le_mul_left _ (Nat.le_of_lt hVlt))
    have hg0:0<g':=by
     rcases Nat.eq_zero_or_pos g' with h | h
     ·rw [h] at hp;omega
     ·exact h
    have hgm:(g'-1)*V+V=g'*V:=by
     obtain ⟨k,rfl⟩:∃ k,g'=k+1:=⟨g'-1,by omega⟩
     rw [Nat.add_sub_cancel,Nat.add_mul,Nat.one_mul]
    obtain ⟨W,hW⟩:∃ W,1000000000^(nv+1)=W:=⟨_,rfl⟩
    have hYe:Mj W X V (false,g')=X+W-g'*V:=by simp [Mj]
    have hnew:X+W-g'*V+V-W*(if W≤X+W-g'*V+V then 1 else 0)=Mj W X V (decide (W≤X+W-g'*V+V),g'-1):=by
     rw [hW] at hgV' hXlt;by_cases hc:W≤X+W-g'*V+V
     ·rw [if_pos hc,Nat.mul_one];simp only [Mj,hc,decide_true,if_true];have hq:X/V=g'-1:=rM hV0 (by omega) (by rw [show g'-1+1=g' by omega];exact hp.1);have h1:=Nat.mod_add_div X V;rw [hq,Nat.mul_comm] at h1;omega
     ·rw [if_neg hc,Nat.mul_zero];simp only [Mj,hc,decide_false,Bool.false_eq_true,if_false];omega
    rw [hW] at hview hput hgive hXlt hgV';have hYlt:X+W-g'*V<W:=by omega
    have hput1:=hput (X+W-g'*V) (X+W-g'*V+V-W*(if W≤X+W-g'*V+V then 1 else 0)) hYlt (by split<;>omega);rw [hnew] at hput1;rw [hW,hYe];refine Iv (n:=i) (ts:=rT (pd 1000000000 L (R%1000000000^i+1000000000^i*(X+W-g'*V)))) (us:=rT (pd 1000000000 (nv+1) (X+W-g'*V))) (us':=rT (pd 1000000000 (nv+1) (Mj W X V (decide (W≤X+W-g'*V+V),g'-1)))) rfl ⟨.i64, .i64,i+nv+1,(by show aF.int .i64 _=aF.int .i64 _;congr 1;omega),(by show aF.int .i64 _=aF.int .i64 _;congr 1;omega),by omega,by simp;omega,(hview _ hYlt).symm⟩ (by simp [pd]) rfl (oJ rfl (hnew▸hgive _ hYlt)) hput1 ?_;dsimp only [aA,aB];refine vn (Im (by omega) (by omega)) rfl ?_;dsimp only [aA,aB];have hg1':(g':Int)-1=((g'-1:Nat):Int):=by clear hN hput hview hgive hfitY;omega
    refine aV rfl ⟨⟨(decide (W≤X+W-g'*V+V),g'-1),?_⟩,⟨aH.Sub.same,aH.Sub.of_eq (congrArg (fun q=>aH.one (aF.int .u64 q)) hg1'),aH.Sub.of_eq ?_,trivial⟩,?_⟩
    ·by_cases hc:W≤X+W-g'*V+V
     ·simp only [hc,decide_true,if_true];exact (rM hV0 (by omega) (by rw [show g'-1+1=g' by omega];exact hp.1)).symm
     ·simp only [hc,decide_false,Bool.false_eq_true,if_false];omega
    ·dsimp only;rfl
    ·dsimp only;by_cases hc:W≤X+W-g'*V+V
     ·simp [hc]
     ·simp [hc];omega
   have hmd:made=true:=by simpa using h60
   subst hmd;simp only [if_true] at hp;subst hp;simp only [Mj,if_true];refine vn (lY ⟨_,eY⟩ eM (rK _) (Gc hX2)) rfl ?_;dsimp only [aA,aB];refine cL rfl rfl (by omega) (by omega) ?_;refine nQ (d':=X/V) rfl rfl (by omega) (by omega) hok rfl ?_;dsimp only [aA,aB];refine vn (aI (by omega) (by omega)) rfl ?_;dsimp only [aA,aB];exact aV rfl ⟨⟨(i,os.set i (X/V),R%1000000000^i+1000000000^i*(X%V)),hN⟩,⟨aH.Sub.of_eq (congrArg (fun q=>aH.one (aF.int .i64 q)) (Oi i)),aH.Sub.same,aH.Sub.same,trivial⟩,by show i<i+1;omega⟩
  have hq:X/V=g:=Nat.le_antisymm hgq (by rw [Nat.le_div_iff_mul_le hV0];omega)
  have hmod:X+1000000000^(nv+1)*(if X<g*V then 1 else 0)-g*V=X%V:=by
   rw [if_neg h57,Nat.mul_zero,Nat.add_zero];have h1:=Nat.mod_add_div X V;rw [hq,Nat.mul_comm] at h1;omega
  rw [hmod];rw [hq] at hN;refine vn (lY ⟨_,eY⟩ eM (rK _) (Gc hgB)) rfl ?_;dsimp only [aA,aB];refine cL rfl rfl (by omega) (by omega) ?_;refine nQ (d':=g) rfl rfl (by omega) (by omega) hok rfl ?_;dsimp only [aA,aB];refine vn (aI (by omega) (by omega)) rfl ?_;dsimp only [aA,aB];exact aV rfl ⟨⟨(i,os.set i g,R%1000000000^i+1000000000^i*(X%V)),hN⟩,⟨aH.Sub.of_eq (congrArg (fun q=>aH.one (aF.int .i64 q)) (Oi i)),aH.Sub.same,aH.Sub.same,trivial⟩,by show i<i+1;omega⟩
 have hn0:n=0:=by omega
 subst hn0;have heq:=hI.eq;have hlt:=hI.lt;rw [List.drop_zero,Nat.pow_zero,Nat.mul_one] at heq;rw [Nat.pow_zero,Nat.div_one] at hlt;obtain ⟨hQ,hR⟩:=HO heq hlt;have hQ2:lv os=a/b:=by rw [hQ,←hS,←hV,Nat.mul_div_mul_right _ _ hs0]
 have hR2:R=a%b*s:=by rw [hR,←hS,←hV,Nat.mul_mod_mul_right]
 refine aC (fR (pd 1000000000 L R) (zA (by omega) _ _) (by rw [cS];omega)) rfl ?_;rw [show lv (pd 1000000000 L R)=R by rw [lv,sD,Nat.mod_eq_of_lt hfit]];dsimp only [aA,aB];refine aC (MZ R s hs0 hsB (by have:=wZ hfit;omega)) rfl ?_;dsimp only [aA,aB];refine aC (fR os hI.dg (by omega)) rfl ?_;dsimp only [aA,aB];refine aP ?_;rw [hQ2,hR2,Nat.mul_div_cancel _ hs0];rfl
open Go Go.Proofs Go.RowKit Go.Shelf Tryz Ord
attribute [local go_sem] Oper.semAt_some
section
variable {α:Type} [Inhabited α] {enc:α→Value}
def bk (vs:List α) (k:Nat):List (Nat×α):=(List.range k).map fun j=>(vs.length-1-j,vs[vs.length-1-j]?.getD default)
theorem Cs (vs:List α) (k:Nat):bk vs (k+1)=bk vs k ++ [(vs.length-1-k,vs[vs.length-1-k]?.getD default)]:=by simp [bk,List.range_succ]
theorem Ba (vs:List α) (k:Nat):(bk vs k).length=k:=by simp [bk]
def Nn (n₀ Bs:Nat) (A B:World):Prop:=Below n₀ A B∧∀ v,A.cell? ⟨Bs,0,none⟩=some v→B.cell? ⟨Bs,0,none⟩=some v
set_option maxRecDepth 100000 in
set_option maxHeartbeats 2000000 in
theorem Ie (l Bs n₀ b off cap:Nat) (vs:List α) (hlen:vs.length<4611686018427387904) (hb:b<n₀) (J Jx:List (Nat×α)→World→Prop)
  (hY:∀ pre x W,J pre W→pre.length<vs.length→YieldAt Fence.wide (1000-1) prog l #[.int .i64 (x.1:Int),enc x.2] W fun e W'=>
   (e = .returned (.bool true)∧J (pre ++ [x]) W'∧Nn n₀ Bs W W')∨(e = .returned (.bool false)∧Jx (pre ++ [x]) W'))
  (W:World) (hBs:W.cell? ⟨Bs,0,none⟩=some (.slice (some ⟨b,off,none⟩) vs.length cap)) (hc:∀ j v,vs[j]? = some v→W.cell? ⟨b,off+j,none⟩=some (enc v)) (h0:J [] W) :
  CallsIn Fence.wide 1000 prog 274 #[.func (.yield l) #[] #[], .pointer (some ⟨Bs,0,none⟩)] W fun e W'=>(∃ v,e = .returned v) ∧
   ((∃ ys,ys=bk vs vs.length∧J ys W')∨(∃ pre,(∃ k,k≤vs.length∧pre=bk vs k)∧Jx pre W')):=by
 refine callsIn_of_wp func274 rfl trivial ?_ rfl;simp only [ntmps274,List.size_toArray,List.length_cons,List.length_nil,Nat.reduceAdd,Nat.reduceSub,Array.replicate_succ,Array.replicate_zero,List.push_toArray,List.append_toArray,List.nil_append,List.cons_append];obtain ⟨N,hN⟩:∃ N,vs.length=N:=⟨_,rfl⟩
 rw [hN] at hBs hY hlen ⊢
 gi_wp2
 gi_loopw [3] (fun i wr=>∃ k:Nat,k≤N∧i = .int .i64 ((N:Int)-1-k)∧J (bk vs k) wr∧Below n₀ W wr∧wr.cell? ⟨Bs,0,none⟩=some (.slice (some ⟨b,off,none⟩) N cap))
  (fun i _=>(intOf i+1).toNat)
 case atStart=>exact ⟨0,Nat.zero_le _,by simp,h0,Below.refl _ _,hBs⟩
 case round=>
  obtain ⟨k,hk,rfl,hJs,hnx,hBx⟩:=hrel;have hmeas:(intOf (.int .i64 ((N:Int)-1-k))+1).toNat=N-k:=by simp [intOf];omega
  by_cases hlt:k<N
  ·have hv:vs[N-1-k]? = some (vs[N-1-k]?.getD default):=by rw [List.getElem?_eq_getElem (by omega)];rfl
   have hcx:wr.cell? ⟨b,off+(N-1-k),none⟩=some (enc (vs[N-1-k]?.getD default)):=(hnx.cell (p:=⟨b,off+(N-1-k),none⟩) hb).trans (hc _ _ hv);obtain ⟨fn,tmps,assign,body,hy,hR⟩:=hY _ (N-1-k,vs[N-1-k]?.getD default) wr hJs (by rw [Ba];exact hlt);generalize hx:vs[N-1-k]?.getD default=x at hy hR hcx;have hsucc:bk vs (k+1)=bk vs k ++ [(N-1-k,x)]:=by rw [Cs,hN,hx]
   have e1:(N:Int)-1-k=((N-1-k:Nat):Int):=by omega
   have hn1:N-1-k<N:=by omega
   have e2:(wr.cell? ⟨b,off+(N-1-k),none⟩)=some (enc x):=hcx;rw [e1]
   gi_wp2
   refine hR.mono ?_;rintro e W3 (⟨rfl,hJ3,hk3⟩ | ⟨rfl,hJx3⟩)
   ·gi_wp2
    go_roundw
    case rel=>exact ⟨k+1,by omega,by congr 1;omega,by rw [hsucc];exact hJ3,hnx.trans hk3.1,hk3.2 _ hBx⟩
    case measure=>simp [intOf]
   ·gi_wp2
    refine bodyPost_ret (results_none rfl _ _ _) rfl ?_;exact ⟨⟨_,rfl⟩, .inr ⟨_,⟨k+1,by omega,rfl⟩,by rw [hsucc];exact hJx3⟩⟩
  ·obtain rfl:k=N:=by omega
   gi_wp2
   go_end0
   exact ⟨⟨_,rfl⟩, .inl ⟨_,rfl,hJs⟩⟩
set_option maxRecDepth 100000 in
set_option maxHeartbeats 1000000 in
theorem EJ {α:Type} (l Bs:Nat) (a:Option Addr) (cap:Nat) (J:List (Nat×α)→World→Prop) (W:World) (hBs:W.cell? ⟨Bs,0,none⟩=some (.slice a 0 cap)) (h0:J [] W) :
  CallsIn Fence.wide 1000 prog 274 #[.func (.yield l) #[] #[], .pointer (some ⟨Bs,0,none⟩)] W fun e W'=>(∃ v,e = .returned v)∧J [] W':=by
 refine callsIn_of_wp func274 rfl trivial ?_ rfl;simp only [ntmps274,List.size_toArray,List.length_cons,List.length_nil,Nat.reduceAdd,Nat.reduceSub,Array.replicate_succ,Array.replicate_zero,List.push_toArray,List.append_toArray,List.nil_append,List.cons_append]
 gi_wp2
 gi_loopw [3] (fun i wr=>i = .int .i64 (-1)∧J [] wr) (fun _ _=>0)
 case atStart=>exact ⟨rfl,h0⟩
 case round=>
  obtain ⟨rfl,hJs⟩:=hrel
  gi_wp2
  go_end0
  exact ⟨⟨_,rfl⟩,hJs⟩
set_option maxHeartbeats 1000000 in
theorem CU (n:Nat) (a:Option Addr) (len cap:Nat) (w:World) :
  CallsIn Fence.wide n prog 240 #[.slice a len cap] w fun e w'=>e = .returned (.func (.func 274) #[] #[.pointer (some ⟨w.heap.size,0,none⟩)])∧w'=w.alloc (.cells #[.slice a len cap] 33):=by
 refine callsIn_of_wp func240 rfl trivial ?_ rfl;simp only [ntmps240,List.size_toArray,List.length_cons,List.length_nil,Nat.reduceAdd,Nat.reduceSub,Array.replicate_succ,Array.replicate_zero,List.push_toArray,List.append_toArray,List.nil_append,List.cons_append]
 gi_wp2
 go_ret
 exact ⟨rfl,rfl⟩
def NX (enc:α→Value) (n₀:Nat) (W:World) (sv:Value) (vs:List α):Prop:=
 ∃ a cap,sv = .slice a vs.length cap∧(vs = []∨∃ b off,a=some ⟨b,off,none⟩∧b<n₀∧∀ j v,vs[j]? = some v→W.cell? ⟨b,off+j,none⟩=some (enc v))
theorem NX.below {α:Type} {enc:α→Value} {n₀:Nat} {A B:World} (h:Below n₀ A B) {sv:Value} {vs:List α}:NX enc n₀ A sv vs→NX enc n₀ B sv vs:=by
 rintro ⟨a,cap,e,rfl | ⟨b,off,rfl,hb,hc⟩⟩
 ·exact ⟨a,cap,e, .inl rfl⟩
 ·exact ⟨_,cap,e, .inr ⟨b,off,rfl,hb,fun j v hj=>(h.cell (p:=⟨b,off+j,none⟩) hb).trans (hc j v hj)⟩⟩
theorem tP (Bs n₀:Nat) (sv:Value) (vs:List α) (hlen:vs.length<4611686018427387904) (w:World) (hBs:Bs<w.heap.size) (hn₀:n₀≤w.heap.size)
  (hc:w.cell? ⟨Bs,0,none⟩=some sv) (hI:NX enc n₀ w sv vs) :
  SeqStopsK Fence.wide 1000 prog 274 #[.pointer (some ⟨Bs,0,none⟩)] (fun x:Nat×α=>#[Value.int .i64 (x.1:Int),enc x.2]) (Nn n₀ Bs) (fun ys=>ys=bk vs vs.length) (fun pre=>∃ k,k≤vs.length∧pre=bk vs k) vs.length w:=fun l J Jx W hW _ _ hY h0=>by
 have hc':=(hW.cell (p:=⟨Bs,0,none⟩) hBs).trans hc;obtain ⟨a,cap,rfl,rfl | ⟨b,off,rfl,hb,hcs⟩⟩:=hI.below (hW.mono hn₀)
 ·exact (EJ (α:=α) l Bs a cap J W hc' h0).mono fun e W' ⟨he,hj⟩=>⟨he, .inl ⟨_,rfl,hj⟩⟩
 ·exact (Ie (enc:=enc) l Bs n₀ b off cap vs hlen hb J Jx hY W hc' hcs h0)
theorem GG {n₀ Bs:Nat} {A B C:World} (h:Nn n₀ Bs A B) (k:Nn n₀ Bs B C):Nn n₀ Bs A C:=⟨h.1.trans k.1,fun v hv=>k.2 v (h.2 v hv)⟩
theorem GN {n₀ Bs:Nat} {w:World} (hn:n₀≤w.heap.size) (hB:Bs<w.heap.size) (W:World) (l:Nat) (o o':Obj) (hl:w.heap.size≤l) (h:W.heap[l]? = some o) (h1:o.isCells=false) (h2:o.isWalk=false):Nn n₀ Bs W (W.putObj l o'):=
 ⟨belowK_b hn W l o o' hl h h1 h2,fun v hv=>by
  have e:(W.putObj l o').heap[Bs]? = W.heap[Bs]?:=World.putObj_heap_other (by omega);simp only [World.cell?,e] at hv ⊢;exact hv⟩
end
def wv (pre:List (Nat×Int)):Int:=pre.foldl (fun n x=>IntKind.u64.wrap (IntKind.u64.wrap (n*1000000000)+IntKind.u64.wrap x.2)) 0
theorem MI (pre:List (Nat×Int)) (x:Nat×Int):wv (pre ++ [x])=IntKind.u64.wrap (IntKind.u64.wrap (wv pre*1000000000)+IntKind.u64.wrap x.2):=by simp [wv]
theorem Ks {n:Nat} (hn:n<1000000000000000000):wv (bk ((dg n).map (fun d:Nat=>(d:Int))) (dg n).length)=(n:Int):=by
 have hl:(dg n).length≤2:=wZ (by omega);have hv:=eL n;have hd:=gT n;generalize dg n=ds at hl hv hd
 match ds,hl with
 | [],_=>simp [lv,val] at hv;subst hv;simp [bk,wv]
 | [a],_=>
   have ha:=hd a (by simp);simp [lv,val] at hv;simp [bk,wv,List.range_succ];simp only [IntKind.wrap_u64];omega
 | [a,b],_=>
   have ha:=hd a (by simp);have hb:=hd b (by simp);simp [lv,val] at hv;simp [bk,wv,List.range_succ];simp only [IntKind.wrap_u64];omega
theorem Kw {M:Nat→Prop} {w:World} {v:Value} {ds:List Nat} (h:(aF.slice 1 (rT ds)).rep M w v):NX (fun d:Int=>Value.int .u32 d) w.heap.size w v (ds.map (fun d:Nat=>(d:Int))):=by
 obtain ⟨a,cap,rfl,hc,hm,hel⟩:=h;refine ⟨a,cap,by simp,?_⟩;rcases hel with h | ⟨b,off,cs,T,fz,rfl,hb,hh,hr⟩
 ·left
  have:ds = []:=by cases ds<;>simp_all
  subst this;rfl
 ·refine .inr ⟨b,off,rfl,(Array.getElem?_eq_some_iff.1 hh).1,fun j v hj=>?_⟩;rw [List.getElem?_map] at hj;cases hd:ds[j]? with
  | none=>rw [hd] at hj;simp at hj
  | some d=>
    rw [hd] at hj;simp only [Option.map_some,Option.some.injEq] at hj;subst hj;obtain ⟨_,hrep⟩:=hr j _ (lS hd);rw [Nat.mul_one] at hrep;have hl:=hrep.length
    have hlt:off+j<cs.toList.length:=by
     simp only [List.length_cons,List.length_nil,List.length_take,List.length_drop] at hl;omega
    rw [List.drop_eq_getElem_cons hlt,List.take_succ_cons,List.take_zero] at hrep;have h1:cs.toList[off+j] = .int .u32 d:=hrep.1.1;simp only [World.cell?,hh];rw [Array.getElem_toList] at h1;simp [h1,Array.getElem?_eq_getElem (show off+j<cs.size by simpa using hlt)]
set_option maxRecDepth 100000 in
set_option maxHeartbeats 2000000 in
theorem Na (a:Option Addr) (cap:Nat) (vs:List Int) (hlen:vs.length<4611686018427387904) (w:World) (hI:NX (fun d:Int=>Value.int .u32 d) w.heap.size w (.slice a vs.length cap) vs) :
  CallsIn Fence.wide 1001 prog 249 #[.agg #[.slice a vs.length cap]] w fun e W'=>e = .returned (.int .u64 (wv (bk vs vs.length)))∧Below w.heap.size w W':=by
 refine callsIn_of_wp_marks func249 rfl trivial ?_ rfl;simp only [ntmps249,List.size_toArray,List.length_cons,List.length_nil,Nat.reduceAdd,Nat.reduceSub,Array.replicate_succ,Array.replicate_zero,List.push_toArray,List.append_toArray,List.nil_append,List.cons_append];generalize hL:vs.length=L at hI hlen ⊢
 gi_wp2_with (refine ⟨trivial,?_⟩;gi_at_call 240;refine (CU _ _ _ _ _).mono ?_;rintro e w' ⟨rfl,rfl⟩)
 have bN:=Boxed.new (w.alloc (.cells #[.slice a L cap] 35)) 254 (.int .u64 0);have bS:=Boxed.new ((w.alloc (.cells #[.slice a L cap] 35)).alloc (.cells #[.int .u64 0] 254)) 33 (.slice a L cap);simp only [World.size_alloc] at bN bS;have hB0:Below w.heap.size w (((w.alloc (.cells #[.slice a L cap] 35)).alloc (.cells #[.int .u64 0] 254)).alloc (.cells #[.slice a L cap] 33)):=(((Below.refl _ w).alloc (Nat.le_refl _) _).alloc (by simp) _).alloc (by simp;omega) _;obtain ⟨W0,hW0⟩:∃ W0,(((w.alloc (.cells #[.slice a L cap] 35)).alloc (.cells #[.int .u64 0] 254)).alloc (.cells #[.slice a L cap] 33))=W0:=⟨_,rfl⟩
 have hs0:W0.heap.size=w.heap.size+3:=by rw [←hW0];simp
 have bN':=bN.alloc (.cells #[.slice a L cap] 33);rw [hW0] at hB0 bS bN' ⊢
 refine wpIn_rangeFunc_ownF (w0:=W0) rfl (by omega) (gf:=274) (lb:=#[.pointer (some ⟨w.heap.size+1+1,0,none⟩)]) rfl trivial (enters_of func274 (by kernel_rfl) rfl)
  (tP (enc:=fun d:Int=>Value.int .u32 d) (w.heap.size+1+1) w.heap.size (.slice a L cap) vs (by omega) W0 (by omega) (by omega) bS.cell (hI.below hB0)) GG (GN (by omega) (by omega)) (Below.refl _ _) (fun _=>rfl)
  (fun pre W=>(W.cell? ⟨w.heap.size+1,0,none⟩=some (.int .u64 (wv pre))∧W.frozen? ⟨w.heap.size+1,0,none⟩=false)∧Below w.heap.size w W)
  (fun _ _ _=>False)
  (OwnFrom.and (Own.from (fun s A B row hs hg hr=>⟨cell_kept hs.1 hg hr,(frozen_kept hs.1 hg hr).trans hs.2⟩) _) (ownFrom_below (Nat.le_refl _) (by omega)))
  (fun _=>by intro s A B row hs;exact hs.elim)
  ⟨⟨bN'.cell,bN'.frozen⟩,hB0⟩
  (fun x=>{ tmps:=#[.agg #[.slice a L cap], .pointer (some ⟨w.heap.size,0,none⟩), .int .u64 0, .pointer (some ⟨w.heap.size+1,0,none⟩),undef, .int .u32 x.2, .pointer (some ⟨w.heap.size,0,none⟩), .slice a L cap, .func (.func 274) #[] #[.pointer (some ⟨w.heap.size+1+1,0,none⟩)], .int .i64 (x.1:Int), .int .u32 x.2,undef,undef,undef,undef,undef,undef],defers:=[] }) ?assign ?body ?done ?stop
 case assign=>
  intro l x W K hK
  gi_wp2
  exact hK
 case body=>
  rintro l pre x W ⟨⟨hcr,hfr⟩,hB⟩ _
  gi_wp2
  refine ⟨KeepsOthers.setCell _ _ _,⟨(Below.refl w.heap.size W).setCell (p:=⟨w.heap.size+1,0,none⟩) (by simp) _,fun v hv=>?_⟩,⟨?_,by rw [World.frozen?_setCell];exact hfr⟩,hB.setCell (p:=⟨w.heap.size+1,0,none⟩) (by simp) _⟩
  ·refine Eq.trans (World.cell?_setCell_other _ _ _ _ ?_) hv;simp
  ·rw [MI];exact World.cell?_setCell_same' _ _ _ (by rw [hcr];rfl)
 case done=>
  rintro D ys W hD rfl ⟨⟨hcr,hfr⟩,hB⟩ hK
  gi_wp2
  refine ⟨by simp, .inl ⟨_,_,rfl,run_takeDeferred hK,?_⟩⟩;exact ⟨_,results_tmp rfl _ _ _,rfl,hB.trans (belowK_b (w:=w) (Nat.le_refl _) W D _ _ (by omega) hK rfl rfl)⟩
 case stop=>
  rintro D c pre W hD _ h hK;exact h.elim
set_option maxRecDepth 100000 in
theorem LD (n:Nat) (hn:n<1000000000000000000):aJ prog 249 [mT n] (.ret [.one (.int .u64 n)]):=by
 refine ⟨bG (by kernel_rfl),fun M w vs hM hv=>?_⟩
 match vs,hv with
 | [v],hv=>
   obtain ⟨⟨us,rfl,hus⟩,_⟩:=hv
   match us,hus with
   | [u],hus=>
     have hsl:=Kw hus.1;obtain ⟨a,cap,rfl,hel⟩:=hsl;have hl:((dg n).map (fun d:Nat=>(d:Int))).length=(dg n).length:=List.length_map _
     have hlen:(dg n).length<4611686018427387904:=by
      have h2:(dg n).length≤2:=wZ (by rw [show (1000000000:Nat)^2=1000000000000000000 by decide];exact hn);omega
     have h1:=Na a cap ((dg n).map (fun d:Nat=>(d:Int))) (by rw [hl];exact hlen) w ⟨a,cap,rfl,hel⟩;rw [hl,Ks hn] at h1;have h2:Calls prog 249 #[.agg #[.slice a (dg n).length cap]] w _:=(callsIn_wide (n:=1001)).1 h1;rw [hl];show Calls prog 249 #[.agg #[.slice a (dg n).length cap]] w _;refine h2.mono ?_;rintro e w' ⟨rfl,hb⟩;exact ⟨hb,[.int .u64 n],rfl,⟨rfl,rfl⟩,trivial⟩
   | [],hus=>exact hus.elim
   | _::_::_,hus=>exact hus.2.elim
 | [],hv=>exact hv.elim
 | _::_::_,hv=>exact hv.2.elim
end Go.Sy
namespace Go.Sy
open Go Go.Proofs Tryz Ord
def Ro:Tr:=aU 249 [(G1 2)] [none] [22] [35] 254 false (aU 249 [(G1 3)] [none] [24] [35] 254 true (.loop 1 [lV 11 0,lV 12 0] (.need (.prim [(W 14 0),(.one (.c (.k (.int .u64 0))))] none) (.binOp .neq 254 (tT 26) (.const (.int .u64 0)) 254) 4 false (.split (.u 15 0) (cU .rem 254 29 30 13 0 14 0 254 (.back 1 [lV 14 0,lV 16 0])) (aU 195 [(W 13 0)] [(some 1)] [32] [254] 35 true (.ret [(G1 16)]))))))
def Sf:Tr:=bO .leq 3 14 2 7 0 4 (.split (.u 8 0) (fX 3 0 18 33 (bO .leq 3 19 2 9 0 4 (.split (.u 10 0) Ro (aU 193 [(G1 2),(G1 3)] [(some 1),(some 1)] [35,36] [35,35] 251 false (.back 0 [lV 3 0,lV 12 0,lV 4 0]))))) (aU 193 [(G1 2),(G1 3)] [(some 1),(some 1)] [35,36] [35,35] 251 false (.back 0 [lV 3 0,lV 10 0,lV 4 0])))
def Lq:Tr:=.ret [(G1 2)]
def Tf:Tr:=.loop 0 [lV 0 0,lV 1 0,lN] (aU 179 [(G1 3)] [none] [9] [35] 4 true (.need (.prim [(W 5 0)] none) (.unOp .not 4 (tT 10)) 4 false (.split (.u 6 0) (fX 2 0 13 33 Sf) Lq)))
theorem JU:aO prog f191 (fun _=>none) [.v (some 1), .v (some 1)]=Tf:=by kernel_rfl
def TD:Tr:=.split (.u 8 0) (aU 118 [(G1 5),(G1 4)] [(some 1)] [14,15] [35,35] 35 true (bO .gtr 3 17 1 3 0 4 (.split (.u 10 0) (aU 118 [(G1 4),(G1 4)] [(some 1)] [19,20] [35,35] 35 true (bO .quo 3 9 2 3 0 3 (.back 0 [lV 12 0,lV 11 0,lV 9 0]))) (bO .quo 3 9 2 3 0 3 (.back 0 [lV 11 0,lV 4 0,lV 9 0]))))) (bO .gtr 3 17 1 3 0 4 (.split (.u 9 0) (aU 118 [(G1 4),(G1 4)] [(some 1)] [19,20] [35,35] 35 true (bO .quo 3 9 2 3 0 3 (.back 0 [lV 11 0,lV 10 0,lV 5 0]))) (bO .quo 3 9 2 3 0 3 (.back 0 [lV 10 0,lV 4 0,lV 5 0]))))
def SE:Tr:=.need (.call 195 [(.one (.c (.k (.int .u64 1))))] [(some 1)]) (.call ⟨.value (.func 195),#[(.const (.int .u64 1))],#[254]⟩) 35 true (.loop 0 [lV 1 0,lV 0 0,lV 2 0] (bO .gtr 3 7 0 3 0 4 (.split (.u 6 0) (bO .rem 3 11 2 3 0 3 (bO .eql 3 12 1 7 0 4 TD)) (.ret [(G1 5)]))))
theorem LY:aO prog f282 (fun _=>none) [.v (some 1), .v none]=SE:=by kernel_rfl
def Ly:Tr:=.ret [(G2 4)]
def Ul:Tr:=cU .neq 4 6 8 0 1 1 1 4 (aU 118 [(G1 0),(G1 1)] [(some 1)] [11,13] [35,35] 35 true (aU 155 [(W 2 0),(G1 3)] [(some 2)] [9,14] [4,35] 37 true Ly))
theorem PW:aO prog f116 (fun _=>none) [.v (some 2), .v (some 2)]=Ul:=by kernel_rfl
def JH:Tr:=.ret [(G2 6)]
def Tw:Tr:=cU .eql 4 7 9 0 1 1 1 4 (.split (.u 2 0) (aU 196 [(G1 0),(G1 1)] [(some 1)] [14,16] [35,35] 35 true (aU 155 [(W 0 1),(G1 3)] [(some 2)] [12,17] [4,35] 37 true Ly)) (aU 119 [(G1 0),(G1 1)] [none] [21,23] [35,35] 3 true (bO .lss 3 24 0 3 0 4 (.split (.u 4 0) (aU 194 [(G1 1),(G1 0)] [(some 1)] [29,31] [35,35] 35 true (aU 155 [(W 1 1),(G1 5)] [(some 2)] [27,32] [4,35] 37 true JH)) (aU 194 [(G1 0),(G1 1)] [(some 1)] [37,39] [35,35] 35 true (aU 155 [(W 0 1),(G1 5)] [(some 2)] [35,40] [4,35] 37 true JH))))))
theorem Pz:aO prog f154 (fun _=>none) [.v (some 2), .v (some 2)]=Tw:=by kernel_rfl
def RT:Tr:=bO .lss 2 3 0 0 0 4 (.split (.u 1 0) (.need (.prim [(W 0 0)] none) (.convert 2 254 (tT 5)) 254 false (.need (.prim [(W 2 0)] none) (.unOp .neg 254 (tT 6)) 254 false (aU 195 [(W 3 0)] [(some 1)] [7] [254] 35 true (.need (.call 155 [(tF true),(G1 4)] [(some 2)]) (.call ⟨.value (.func 155),#[(.const (.bool true)),(tT 8)],#[4,35]⟩) 37 true (.ret [(G2 5)]))))) (.need (.prim [(W 0 0)] none) (.convert 2 254 (tT 10)) 254 false (aU 195 [(W 2 0)] [(some 1)] [11] [254] 35 true (.need (.call 155 [(tF false),(G1 3)] [(some 2)]) (.call ⟨.value (.func 155),#[(.const (.bool false)),(tT 12)],#[4,35]⟩) 37 true Ly))))
theorem Me:aO prog f158 (fun _=>none) [.v none]=RT:=by kernel_rfl
theorem eF {n B:Nat} (h:n<2^B):(dg n).length≤B:=
 wZ (Nat.lt_of_lt_of_le h (Nat.pow_le_pow_left (by omega) B))
theorem Gs {n:Nat} (h:(dg n).length≤2):n<1000000000000000000:=by
 have h1:=BF n;have h2:1000000000^(dg n).length≤1000000000^2:=Nat.pow_le_pow_right (by omega) h;rw [show (1000000000:Nat)^2=1000000000000000000 by decide] at h2;omega
theorem Pr (n:Nat):aJ prog 192 [(mT n:aH)] (.ret [.one (.bool (decide (n=1)))]):=by
 refine aD (args:=[.v (some 1)]) (ins:=[.v (mT n)]) (hints:=(fun _=>none)) fo (by kernel_rfl) func192 ⟨rfl,trivial⟩ ?_;rw [Pa];dsimp only [List.map,In.env,aA,aB];refine vn (aQ bZ (List.length_map _)) rfl ?_;dsimp only [aA,aB];refine vn cK rfl ?_;dsimp only [aA,aB];refine vs _ rfl (fun h2=>?_) (fun h2=>?_)
 ·obtain ⟨d,hd⟩:∃ d,dg n = [d]:=by
   match h:dg n with
   | [d]=>exact ⟨d,rfl⟩
   | []=>rw [h] at h2;simp at h2
   | _::_::_=>rw [h] at h2;simp at h2;omega
  have hv:=eL n;rw [hd] at hv;refine vn (bE bZ (by omega) (by omega) (show (dg n)[0]? = some d by rw [hd];rfl)) rfl ?_;dsimp only [aA,aB];refine vn (dA rJ) rfl ?_;dsimp only [aA,aB];refine vn cK rfl ?_;dsimp only [aA,aB];refine aP ?_;have hv:d=n:=by simpa [lv,val] using hv
  subst hv;show [aH.one (.bool (decide ((d:Int)=1)))]=_;have e:((d:Int)=1)↔d=1:=by omega
  simp only [e]
 refine aP ?_
 have:¬ n=1:=fun e=>by
  subst e;rw [oL (by omega) (by omega)] at h2;exact h2 rfl
 simp [this];rfl
set_option maxHeartbeats 1000000 in
theorem Js (a b:Nat) (hs:(dg (max a b)).length<137438953472):aJ prog 191 [(mT a:aH),(mT b:aH)] (.ret [mT (Nat.gcd a b)]):=by
 refine aD (args:=[.v (some 1), .v (some 1)]) (ins:=[.v (mT a), .v (mT b)]) (hints:=(fun _=>none)) fo (by kernel_rfl) func191 ⟨rfl,rfl,trivial⟩ ?_;rw [JU];dsimp only [List.map,In.env,aA,aB];refine cJ {p:Nat×Nat // Nat.gcd p.1 p.2=Nat.gcd a b∧p.1≤max a b∧p.2≤max a b} (fun p=>[.one (dT p.1.1), .one (dT p.1.2), .one (.exact (.slice none 0 0))]) (fun p=>p.1.2) ⟨(a,b),rfl,by omega,by omega⟩ aN.rfl (fun _=>rfl) ?_;rintro ⟨⟨x,y⟩,hg,hx,hy⟩;dsimp only [aA,aB] at hg hx hy ⊢;have hxl:=kW hx;have hyl:=kW hy;refine aC (vN y) rfl ?_;dsimp only [aA,aB];refine vn Df rfl ?_;dsimp only [aA,aB];refine vs _ rfl (fun h3=>?_) (fun h3=>?_)
 ·have hy0:0<y:=by omega
  refine vn (aQ bZ (List.length_map _)) rfl ?_;dsimp only [aA,aB];refine vn Ej rfl ?_;dsimp only [aA,aB];refine vs _ rfl (fun h6=>?_) (fun h6=>?_)
  ·refine vn (aQ bZ (List.length_map _)) rfl ?_;dsimp only [aA,aB];refine vn Ej rfl ?_;dsimp only [aA,aB];refine vs _ rfl (fun h9=>?_) (fun h9=>?_)
   ·refine aC (LD x (Gs (by omega))) rfl ?_;dsimp only [aA,aB];refine aC (LD y (Gs (by omega))) rfl ?_;dsimp only [aA,aB];have hx18:=Gs (n:=x) (by omega);have hy18:=Gs (n:=y) (by omega);clear hxl hyl;refine cJ {p:Nat×Nat // Nat.gcd p.1 p.2=Nat.gcd a b∧p.1<1000000000000000000∧p.2<1000000000000000000} (fun p=>[.one (.int .u64 p.1.1), .one (.int .u64 p.1.2)]) (fun p=>p.1.2) ⟨(x,y),hg,hx18,hy18⟩ aN.rfl (fun _=>rfl) ?_;rintro ⟨⟨p,q⟩,hpq,hp,hq⟩;dsimp only [aA,aB] at hpq hp hq ⊢;refine vn kX rfl ?_;dsimp only [aA,aB];refine vs _ rfl (fun h14=>?_) (fun h14=>?_)
    ·refine vn (DH (c:=((p%q:Nat):Int)) (by omega) (by rw [Int.tmod_eq_emod_of_nonneg (rK _),←Int.natCast_emod])) rfl ?_;dsimp only [aA,aB];exact aV rfl ⟨⟨(q,p%q),by rw [←hpq,Nat.gcd_comm p q,Nat.gcd_rec q p,Nat.gcd_comm],hq,Nat.lt_of_le_of_lt (Nat.mod_le _ _) hp⟩,aN.rfl,Nat.mod_lt _ (by omega)⟩
    have hq0:q=0:=by omega
    subst hq0;rw [Nat.gcd_zero_right] at hpq;refine aC (gP p (by omega)) rfl ?_;dsimp only [aA,aB];rw [hpq];exact aP rfl
   refine aC (Cp x y hy0 (by omega)) rfl ?_;dsimp only [aA,aB];exact aV rfl ⟨⟨(y,x%y),by rw [←hg,Nat.gcd_comm x y,Nat.gcd_rec y x,Nat.gcd_comm],hy,Nat.le_trans (Nat.mod_le _ _) hx⟩,aN.rfl,Nat.mod_lt _ hy0⟩
  refine aC (Cp x y hy0 (by omega)) rfl ?_;dsimp only [aA,aB];exact aV rfl ⟨⟨(y,x%y),by rw [←hg,Nat.gcd_comm x y,Nat.gcd_rec y x,Nat.gcd_comm],hy,Nat.le_trans (Nat.mod_le _ _) hx⟩,aN.rfl,Nat.mod_lt _ hy0⟩
 have hy0:y=0:=by omega
 subst hy0;rw [Nat.gcd_zero_right] at hg;rw [hg];exact aP rfl
theorem DU {a B n:Nat} (h:a<2^B) (hB:1≤B):a^n<2^(B*n+1):=by
 rw [Nat.pow_succ,Nat.pow_mul];have h1:a^n≤(2^B)^n:=Nat.pow_le_pow_left (Nat.le_of_lt h) n;have h2:0<(2^B)^n:=Nat.pow_pos (Nat.pow_pos (by omega));omega
structure Bz (a n:Nat) (k x y:Nat):Prop where
 eq:y*x^k=a^n
 z:a=0→x=0
 x1:k≠0→x≤max 1 (a^n)
 y1:y≤max 1 (a^n)
theorem Bz.mk' {a n k x y:Nat} (hn:n≠0) (eq:y*x^k=a^n) (z:a=0→x=0) (hy:x=0→y≤1):Bz a n k x y:=by
 have hk:∀ t,0<t→t≤x→0<x^k:=fun t h1 h2=>Nat.pow_pos (by omega);refine ⟨eq,z,fun h0=>?_,?_⟩
 ·rcases Nat.eq_zero_or_pos x with hx | hx
  ·omega
  ·rcases Nat.eq_zero_or_pos y with hy0 | hy0
   ·rw [hy0,Nat.zero_mul] at eq;have:=z (Nat.eq_zero_of_not_pos fun ha=>by have:=Nat.pow_pos (n:=n) ha;omega);omega
   ·have h1:x≤x^k:=Nat.le_self_pow h0 x;have h2:x^k≤y*x^k:=Nat.le_mul_of_pos_left _ hy0;omega
 ·rcases Nat.eq_zero_or_pos x with hx | hx
  ·have:=hy hx;omega
  ·have h2:y≤y*x^k:=Nat.le_mul_of_pos_right _ (Nat.pow_pos hx);omega
set_option maxHeartbeats 1000000 in
theorem MA (a n:Nat) (B:Nat) (hB:1≤B) (ha:a<2^B) (hn:n<1099511627776) (hs:B*n<137438953472):aJ prog 282 [(mT a:aH),(.one (.int .i64 n):aH)] (.ret [mT (a^n)]):=by
 refine aD (args:=[.v (some 1), .v none]) (ins:=[.v (mT a), .v (.one (.int .i64 n))]) (hints:=(fun _=>none)) fo (by kernel_rfl) func282 ⟨rfl,rfl,trivial⟩ ?_;rw [LY];dsimp only [List.map,In.env,aA,aB]
 have hbd:∀ j,j≤max 1 (a^n)→(dg j).length≤B*n+1:=fun j hj=>eF (by
  have h1:=DU (n:=n) ha hB;have h2:2^1≤2^(B*n+1):=Nat.pow_le_pow_right (by omega) (by omega);omega)
 refine aC (gP 1 (by omega)) rfl ?_;dsimp only [aA,aB];refine cJ {p:Nat×Nat×Nat // Bz a n p.1 p.2.1 p.2.2∧(p.1≠0→n≠0)∧(p.2.1=0→p.2.2≤1)∧p.1≤n} (fun p=>[.one (.int .i64 p.1.1), .one (dT p.1.2.1), .one (dT p.1.2.2)]) (fun p=>p.1.1) ⟨(n,a,1),⟨by simp,fun h=>h,fun h=>by have:=Nat.le_self_pow h a;show a≤max 1 (a^n);exact Nat.le_trans this (Nat.le_max_right _ _),Nat.le_max_left _ _⟩,fun h=>h,fun _=>Nat.le_refl _,Nat.le_refl _⟩ aN.rfl (fun _=>rfl) ?_;rintro ⟨⟨k,x,y⟩,hI,hn0,hy1,hkn⟩;dsimp only [aA,aB] at hI hn0 hy1 hkn ⊢;have hyl:=hbd y hI.y1;refine vn nE rfl ?_;dsimp only [aA,aB];refine vs _ rfl (fun h3=>?_) (fun h3=>?_)
 ·have hk0:k≠0:=by omega
  have hnn:=hn0 hk0;have hxl:=hbd x (hI.x1 hk0)
  have hev:k%2=0→y*(x*x)^(k/2)=a^n:=fun h=>by
   rw [←hI.eq,←Nat.pow_two,←Nat.pow_mul];congr 2;omega
  have hod:k%2=1→y*x*(x*x)^(k/2)=a^n:=fun h=>by
   rw [←hI.eq,←Nat.pow_two,←Nat.pow_mul,Nat.mul_assoc,←Nat.pow_succ'];congr 2;omega
  have hz2:a=0→x*x=0:=fun h=>by rw [hI.z h]
  have hx2:x*x=0→x=0:=fun h=>by rcases Nat.mul_eq_zero.1 h with h | h<;>exact h
  have hyx2:x=0→y*x≤1:=fun h=>by rw [h];omega
  refine vn (rF (by omega) (by omega)) rfl ?_;dsimp only [aA,aB];refine vn cK rfl ?_;dsimp only [aA,aB];refine vs _ rfl (fun h6=>?_) (fun h6=>?_)
  ·refine aC (gB y x (by omega)) rfl ?_;dsimp only [aA,aB];refine vn nE rfl ?_;dsimp only [aA,aB];refine vs _ rfl (fun h9=>?_) (fun h9=>?_)
   ·refine aC (gB x x (by omega)) rfl ?_;dsimp only [aA,aB];refine vn (mC (by omega) (by omega) (by omega)) rfl ?_;dsimp only [aA,aB];exact aV rfl ⟨⟨(k/2,x*x,y*x),Bz.mk' hnn (hod (by omega)) hz2 (hyx2 ∘ hx2),fun _=>hnn,hyx2 ∘ hx2,by show k/2≤n;omega⟩,aN.rfl,by show k/2<k;omega⟩
   refine vn (mC (by omega) (by omega) (by omega)) rfl ?_;dsimp only [aA,aB];have hk1:k=1:=by omega
   subst hk1;exact aV rfl ⟨⟨(1/2,x,y*x),Bz.mk' hnn (by have:=hI.eq;rw [Nat.pow_one] at this;simpa using this) hI.z hyx2,fun _=>hnn,hyx2,by show 1/2≤n;omega⟩,aN.rfl,by show 1/2<1;omega⟩
  refine vn nE rfl ?_;dsimp only [aA,aB];refine vs _ rfl (fun h16=>?_) (fun h16=>?_)
  ·refine aC (gB x x (by omega)) rfl ?_;dsimp only [aA,aB];refine vn (mC (by omega) (by omega) (by omega)) rfl ?_;dsimp only [aA,aB];exact aV rfl ⟨⟨(k/2,x*x,y),Bz.mk' hnn (hev (by omega)) hz2 (fun h=>hy1 (hx2 h)),fun _=>hnn,fun h=>hy1 (hx2 h),by show k/2≤n;omega⟩,aN.rfl,by show k/2<k;omega⟩
  exfalso;omega
 have hk0:k=0:=by omega
 subst hk0;have:=hI.eq;rw [Nat.pow_zero,Nat.mul_one] at this;rw [this];exact aP rfl
open Go Go.Proofs Tryz Ord
def Sh:Tr:=.split (.u 4 0) (aU 193 [(G1 0),(G1 2)] [(some 1),(some 1)] [15,16] [35,35] 251 false (aU 193 [(G1 1),(G1 2)] [(some 1),(some 1)] [22,23] [35,35] 251 false (aU 155 [(W 0 1),(G1 5)] [(some 2)] [28,30] [4,35] 37 false (.need (.call 195 [(.one (.c (.k (.int .u64 1))))] [(some 1)]) (.call ⟨.value (.func 195),#[(.const (.int .u64 1))],#[254]⟩) 35 false (aU 194 [(G1 7),(G1 10)] [(some 1)] [32,33] [35,35] 35 true (.ret [(.agg [(U 9 0),(U 9 1),(U 11 0)])])))))) (aU 155 [(W 0 1),(G1 0)] [(some 2)] [28,30] [4,35] 37 false (.need (.call 195 [(.one (.c (.k (.int .u64 1))))] [(some 1)]) (.call ⟨.value (.func 195),#[(.const (.int .u64 1))],#[254]⟩) 35 false (aU 194 [(G1 1),(G1 6)] [(some 1)] [32,33] [35,35] 35 true (.ret [(.agg [(U 5 0),(U 5 1),(U 7 0)])]))))
def RY:Tr:=aU 191 [(G1 0),(G1 1)] [(some 1)] [7,8] [35,35] 35 true (aU 192 [(G1 2)] [none] [10] [35] 4 true (.need (.prim [(W 3 0)] none) (.unOp .not 4 (tT 11)) 4 false Sh))
theorem MH:aO prog f115 (fun _=>none) [.v (some 2), .v (some 1)]=RY:=by kernel_rfl
def SK:Tr:=.need (.call 195 [(.one (.c (.k (.int .u64 1))))] [(some 1)]) (.call ⟨.value (.func 195),#[(.const (.int .u64 1))],#[254]⟩) 35 true (aU 196 [(.agg [(U 0 2)]),(G1 1)] [(some 1)] [4,5] [35,35] 35 true Lq)
theorem It:aO prog f117 (fun _=>none) [.v (some 3)]=SK:=by kernel_rfl
def Tq:Tr:=.ret [(.agg [(U 0 0),(U 0 1),tN])]
theorem NL:aO prog f157 (fun _=>none) [.v (some 2)]=Tq:=by kernel_rfl
def RH:Tr:=aU 158 [(W 0 0)] [(some 2)] [3] [2] 37 true (aU 157 [(G2 1)] [(some 3)] [4] [37] 39 true (.ret [(G3 2)]))
theorem SY:aO prog f68 (fun _=>none) [.v none]=RH:=by kernel_rfl
def Ub:Tr:=.need (.prim [(W 0 0),(W 1 0)] none) (.call ⟨.builtin .min,#[(tT 5),(tT 6)],#[3,3]⟩) 3 false (.need (.prim [(WK 0),(W 2 0)] none) (.call ⟨.builtin .max,#[(.const (I3 0)),(tT 7)],#[3,3]⟩) 3 false (.ret [(W 3 0)]))
theorem JE:aO prog f283 (fun _=>none) [.v none, .v none]=Ub:=by kernel_rfl
def RF:Tr:=aU 114 [(G2 0)] [none] [4] [37] 3 true (.ret [(W 1 0)])
theorem NA:aO prog f35 (fun _=>none) [.v (some 3)]=RF:=by kernel_rfl
def TW:Tr:=.need (.prim [(W 0 1)] none) (.unOp .not 4 (tT 5)) 4 false (aU 155 [(W 1 0),(G1 0)] [(some 2)] [6,9] [4,35] 37 false (.ret [(.agg [(U 2 0),(U 2 1),(U 0 2)])]))
theorem QI:aO prog f65 (fun _=>none) [.v (some 3)]=TW:=by kernel_rfl
def TR:Tr:=.need (.call 155 [(tF false),(G1 0)] [(some 2)]) (.call ⟨.value (.func 155),#[(.const (.bool false)),(tT 5)],#[4,35]⟩) 37 false (.ret [(.agg [(U 1 0),(U 1 1),(U 0 2)])])
theorem Qq:aO prog f146 (fun _=>none) [.v (some 3)]=TR:=by kernel_rfl
def Uk:Tr:=aU 117 [(G3 1)] [(some 1)] [9] [39] 35 true (aU 116 [(G2 0),(.agg [(U 3 0),(tE (.bool false))])] [(some 2)] [12,14] [37,37] 37 false (aU 116 [(G2 1),(.agg [(U 2 0),(tE (.bool false))])] [(some 2)] [17,19] [37,37] 37 false (aU 154 [(G2 4),(G2 5)] [(some 2)] [15,20] [37,37] 37 false (aU 118 [(G1 2),(G1 3)] [(some 1)] [22,23] [35,35] 35 true (aU 115 [(G2 6),(G1 7)] [(some 3)] [21,24] [37,35] 39 true (.ret [(G3 8)]))))))
def SR:Tr:=aU 117 [(G3 0)] [(some 1)] [7] [39] 35 false Uk
theorem Pl:aO prog f64 (fun _=>none) [.v (some 3), .v (some 3)]=SR:=by kernel_rfl
def Sm:Tr:=aU 65 [(G3 1)] [(some 3)] [6] [39] 39 true (aU 64 [(G3 0),(G3 2)] [(some 3)] [5,7] [39,39] 39 true (.ret [(G3 3)]))
theorem Rm:aO prog f167 (fun _=>none) [.v (some 3), .v (some 3)]=Sm:=by kernel_rfl
def Ui:Tr:=aU 116 [(G2 0),(G2 1)] [(some 2)] [6,8] [37,37] 37 false (aU 117 [(G3 0)] [(some 1)] [10] [39] 35 false (aU 117 [(G3 1)] [(some 1)] [12] [39] 35 false (aU 118 [(G1 3),(G1 4)] [(some 1)] [11,13] [35,35] 35 true (aU 115 [(G2 2),(G1 5)] [(some 3)] [9,14] [37,35] 39 true (.ret [(G3 6)])))))
theorem Qx:aO prog f36 (fun _=>none) [.v (some 3), .v (some 3)]=Ui:=by kernel_rfl
def RX:Tr:=aU 117 [(G3 1)] [(some 1)] [10] [39] 35 false (aU 155 [(W 1 1),(G1 2)] [(some 2)] [9,11] [4,35] 37 false (aU 116 [(G2 0),(G2 3)] [(some 2)] [6,12] [37,37] 37 false (aU 117 [(G3 0)] [(some 1)] [14] [39] 35 false (aU 118 [(G1 5),(G1 1)] [(some 1)] [15,18] [35,35] 35 true (aU 115 [(G2 4),(G1 6)] [(some 3)] [13,19] [37,35] 39 true (.ret [(G3 7)]))))))
theorem Nb:aO prog f255 (fun _=>none) [.v (some 3), .v (some 3)]=RX:=by kernel_rfl
def RG:Tr:=aU 35 [(G3 1)] [none] [6] [39] 3 true (bO .eql 3 7 0 2 0 4 (.split (.u 3 0) (.ret [(.agg [tN,(tE (.bool false)),tN]),(WK 9)]) (aU 255 [(G3 0),(G3 1)] [(some 3)] [10,11] [39,39] 39 true (.ret [(G3 4),(WK 0)]))))
theorem QD:aO prog f200 (fun _=>none) [.v (some 3), .v (some 3)]=RG:=by kernel_rfl
def Qi:Tr:=aU 117 [(G3 1)] [(some 1)] [31] [39] 35 false (aU 118 [(G1 0),(G1 7)] [(some 1)] [30,32] [35,35] 35 false (aU 117 [(G3 0)] [(some 1)] [37] [39] 35 false (aU 118 [(G1 1),(G1 9)] [(some 1)] [36,38] [35,35] 35 false (aU 119 [(G1 8),(G1 10)] [none] [33,39] [35,35] 3 true (cU .mul 3 27 40 6 0 11 0 3 (.ret [(W 12 0)]))))))
def SJ:Tr:=bO .eql 3 15 0 2 0 4 (.split (.u 5 0) (cU .sub 3 18 19 2 0 3 0 3 (cU .sub 3 21 22 2 0 3 0 3 (bO .quo 3 23 2 7 0 3 (cU .sub 3 20 24 6 0 8 0 3 (.ret [(W 9 0)]))))) (aU 35 [(G3 0)] [none] [26] [39] 3 false Qi))
def SO:Tr:=cU .neq 3 11 12 2 0 3 0 4 (.split (.u 4 0) (cU .sub 3 18 19 2 0 3 0 3 (cU .sub 3 21 22 2 0 3 0 3 (bO .quo 3 23 2 6 0 3 (cU .sub 3 20 24 5 0 7 0 3 (.ret [(W 8 0)]))))) SJ)
def RW:Tr:=aU 35 [(G3 0)] [none] [7] [39] 3 false (aU 35 [(G3 1)] [none] [9] [39] 3 true SO)
theorem QJ:aO prog f38 (fun _=>none) [.v (some 3), .v (some 3)]=RW:=by kernel_rfl
theorem Ce (x y:Int) (hs:(dg x.natAbs).length+(dg y.natAbs).length<1099511627776):aJ prog 116 [(iT x:aH),(iT y:aH)] (.ret [iT (x*y)]):=by
 refine aD (args:=[.v (some 2), .v (some 2)]) (ins:=[.v (iT x), .v (iT y)]) (hints:=(fun _=>none)) fo (by kernel_rfl) func116 ⟨rfl,rfl,trivial⟩ ?_;rw [PW];dsimp only [List.map,In.env,aA,aB];refine vn (Pj Vx) rfl ?_;dsimp only [aA,aB];refine aC (gB _ _ hs) rfl ?_;dsimp only [aA,aB]
 refine aC (eI _ _ (x*y) (by
  rw [←Int.natAbs_mul];have hsg:(x*y).natAbs=x.natAbs*y.natAbs:=Int.natAbs_mul _ _;by_cases h1:x<0<;>by_cases h2:y<0<;>simp only [h1,h2,decide_true,decide_false,ne_eq,not_true_eq_false,not_false_eq_true,Bool.true_eq_false,Bool.false_eq_true,if_true,if_false]
  ·have:=Int.mul_pos_of_neg_of_neg h1 h2;omega
  ·have:=Int.mul_nonpos_of_nonpos_of_nonneg (Int.le_of_lt h1) (Int.not_lt.1 h2);omega
  ·have:=Int.mul_nonpos_of_nonneg_of_nonpos (Int.not_lt.1 h1) (Int.le_of_lt h2);omega
  ·have:=Int.mul_nonneg (Int.not_lt.1 h1) (Int.not_lt.1 h2);omega)) rfl ?_
 exact aP rfl
theorem PB (x y:Int) (hs:(dg x.natAbs).length+(dg y.natAbs).length<1099511627776):aJ prog 154 [(iT x:aH),(iT y:aH)] (.ret [iT (x+y)]):=by
 refine aD (args:=[.v (some 2), .v (some 2)]) (ins:=[.v (iT x), .v (iT y)]) (hints:=(fun _=>none)) fo (by kernel_rfl) func154 ⟨rfl,rfl,trivial⟩ ?_;rw [Pz];dsimp only [List.map,In.env,aA,aB];refine vn (PC Vx) rfl ?_;dsimp only [aA,aB];refine vs _ rfl (fun h1=>?_) (fun h1=>?_)
 ·have h1:x<0↔y<0:=by simpa using h1
  refine aC (KO _ _ hs) rfl ?_;dsimp only [aA,aB];refine aC (eI _ _ (x+y) (by by_cases h2:x<0<;>simp only [h2,decide_true,decide_false,Bool.false_eq_true,if_true,if_false]<;>omega)) rfl ?_;exact aP rfl
 have h1:¬ (x<0↔y<0):=by simpa using h1
 refine aC (pB _ _ hs) rfl ?_;dsimp only [aA,aB];refine vn bX rfl ?_;dsimp only [aA,aB];rw [show decide (dS (x.natAbs:Int) (y.natAbs:Int)<0)=decide (x.natAbs<y.natAbs) by rw [decide_eq_decide,wL];omega];refine vs _ rfl (fun h7=>?_) (fun h7=>?_)
 ·refine aC (Ch _ _ (by omega) (by omega) (by omega)) rfl ?_;dsimp only [aA,aB];refine aC (eI _ _ (x+y) (by by_cases h2:y<0<;>simp only [h2,decide_true,decide_false,Bool.false_eq_true,if_true,if_false]<;>omega)) rfl ?_;exact aP rfl
 refine aC (Ch _ _ (by omega) (by omega) (by omega)) rfl ?_;dsimp only [aA,aB];refine aC (eI _ _ (x+y) (by by_cases h2:x<0<;>simp only [h2,decide_true,decide_false,Bool.false_eq_true,if_true,if_false]<;>omega)) rfl ?_;exact aP rfl
theorem Gf (n:Int) (h1:-9223372036854775808≤n) (h2:n<9223372036854775808):aJ prog 158 [(.one (.int .i64 n):aH)] (.ret [iT n]):=by
 refine aD (args:=[.v none]) (ins:=[.v (.one (.int .i64 n))]) (hints:=(fun _=>none)) fo (by kernel_rfl) func158 ⟨rfl,trivial⟩ ?_;rw [Me];dsimp only [List.map,In.env,aA,aB];refine vn bX rfl ?_;dsimp only [aA,aB];refine vs _ rfl (fun h1=>?_) (fun h1=>?_)
 ·refine vn (fI ⟨_,LJ⟩ eY (c:=n+18446744073709551616) (by rw [IntKind.wrap_u64];omega)) rfl ?_;dsimp only [aA,aB];refine vn (RM (c:=((n.natAbs:Nat):Int)) (by rw [IntKind.wrap_u64];omega)) rfl ?_;dsimp only [aA,aB];refine aC (gP _ (by omega)) rfl ?_;dsimp only [aA,aB];refine aC (eI true _ n (by rw [if_pos rfl];omega)) rfl ?_;exact aP rfl
 refine vn (fI ⟨_,LJ⟩ eY (c:=((n.natAbs:Nat):Int)) (by rw [IntKind.wrap_u64];omega)) rfl ?_;dsimp only [aA,aB];refine aC (gP _ (by omega)) rfl ?_;dsimp only [aA,aB];refine aC (eI false _ n (by rw [if_neg (by simp)];omega)) rfl ?_;exact aP rfl
abbrev qC (q:Rat):List aF:=[dT q.num.natAbs, .bool (decide (q.num<0)),dT (q.den-1)]
abbrev qT (q:Rat):aH:=.agg (qC q)
theorem gW:aM aF.Sub [.exact (.slice none 0 0), .bool false, .exact (.slice none 0 0)] (qC 0):=⟨gD rfl,aF.Sub.same,gD rfl,trivial⟩
theorem PN {z:Int} {d:Nat} (hd:d≠0):(mkRat z d).num=(if decide (z<0)=true then -((z.natAbs/z.natAbs.gcd d:Nat):Int) else ((z.natAbs/z.natAbs.gcd d:Nat):Int))∧(mkRat z d).den=d/z.natAbs.gcd d:=by
 rw [←Rat.normalize_eq_mkRat hd,Rat.normalize_eq hd];refine ⟨?_,rfl⟩;show z/_=_;have hg:0<z.natAbs.gcd d:=Nat.gcd_pos_of_pos_right _ (by omega);have hdv:(((z.natAbs.gcd d:Nat)):Int)∣z:=Int.ofNat_dvd_left.2 (Nat.gcd_dvd_left _ _);have h1:=Int.natAbs_ediv_of_dvd hdv;rw [Int.natAbs_natCast] at h1;by_cases h:z<0
 ·rw [decide_eq_true h,if_pos rfl,←h1];have:=Int.ediv_neg_of_neg_of_pos h (b:=((z.natAbs.gcd d:Nat):Int)) (by omega);omega
 ·rw [decide_eq_false h,if_neg (by simp),←h1];have:=Int.ediv_nonneg (Int.not_lt.1 h) (b:=((z.natAbs.gcd d:Nat):Int)) (by omega);omega
theorem vF (z:Int) (d:Nat) (hd:0<d) (hs:(dg z.natAbs).length+(dg d).length<137438953472):aJ prog 115 [(iT z:aH),(mT d:aH)] (.ret [qT (mkRat z d)]):=by
 refine aD (args:=[.v (some 2), .v (some 1)]) (ins:=[.v (iT z), .v (mT d)]) (hints:=(fun _=>none)) fo (by kernel_rfl) func115 ⟨rfl,rfl,trivial⟩ ?_;rw [MH];dsimp only [List.map,In.env,aA,aB];have hg:0<z.natAbs.gcd d:=Nat.gcd_pos_of_pos_right _ hd;have hgd:z.natAbs.gcd d≤d:=Nat.gcd_le_right _ hd;have hgl:=kW hgd;obtain ⟨hm1,hm2⟩:=PN (z:=z) (d:=d) (by omega);have hq:0<d/z.natAbs.gcd d:=Nat.div_pos hgd hg;have hql:=kW (Nat.div_le_self d (z.natAbs.gcd d));have hone:(dg 1).length=1:=by rw [oL (by omega) (by omega)];rfl
 generalize hG:z.natAbs.gcd d=g at *
 refine aC (Js _ _ (by
  rcases Nat.le_total z.natAbs d with h | h
  ·rw [Nat.max_eq_right h];omega
  ·rw [Nat.max_eq_left h];omega)) rfl ?_
 rw [hG];dsimp only [aA,aB];refine aC (Pr _) rfl ?_;dsimp only [aA,aB];refine vn Df rfl ?_;dsimp only [aA,aB];refine vs _ rfl (fun h3=>?_) (fun h3=>?_)
 ·refine aC (Cp _ _ hg (by omega)) rfl ?_;dsimp only [aA,aB];refine aC (Cp _ _ hg (by omega)) rfl ?_;dsimp only [aA,aB];refine aC (eI _ _ (mkRat z d).num hm1) rfl ?_;dsimp only [aA,aB];refine aC (gP 1 (by omega)) rfl ?_;dsimp only [aA,aB];refine aC (Ch _ _ hq hq (by omega)) rfl ?_;rw [←hm2];exact aP rfl
 have hg1:g=1:=by simpa using h3
 subst hg1;rw [Nat.div_one] at hm1 hm2;refine aC (eI _ _ (mkRat z d).num hm1) rfl ?_;dsimp only [aA,aB];refine aC (gP 1 (by omega)) rfl ?_;dsimp only [aA,aB];refine aC (Ch _ _ hd hd (by omega)) rfl ?_;dsimp only [aA,aB];refine aP ?_;show [aH.agg [dT _, .bool _,dT (d-1)]] = [aH.agg [_,_,dT ((mkRat z d).den-1)]];rw [hm2]
theorem eC (q:Rat) (h:(dg q.den).length<1099511627775):aJ prog 117 [(qT q:aH)] (.ret [mT q.den]):=by
 refine aD (args:=[.v (some 3)]) (ins:=[.v (qT q)]) (hints:=(fun _=>none)) fo (by kernel_rfl) func117 ⟨rfl,trivial⟩ ?_;rw [It];dsimp only [List.map,In.env,aA,aB];have hp:=q.den_pos;have hl:=kW (Nat.sub_le q.den 1);have hone:(dg 1).length=1:=by rw [oL (by omega) (by omega)];rfl
 refine aC (gP 1 (by omega)) rfl ?_;dsimp only [aA,aB];refine aC (KO _ _ (by omega)) rfl ?_;rw [show q.den-1+1=q.den by omega];exact aP rfl
theorem MR (z:Int):aJ prog 157 [(iT z:aH)] (.ret [qT (z:Rat)]):=by
 refine aD (args:=[.v (some 2)]) (ins:=[.v (iT z)]) (hints:=(fun _=>none)) fo (by kernel_rfl) func157 ⟨rfl,trivial⟩ ?_;rw [NL];dsimp only [List.map,In.env,aA,aB];exact eP ⟨⟨aF.Sub.same,aF.Sub.same,gD rfl,trivial⟩,trivial⟩
theorem fK (n:Int) (h1:-9223372036854775808≤n) (h2:n<9223372036854775808):aJ prog 68 [(.one (.int .i64 n):aH)] (.ret [qT (n:Rat)]):=by
 refine aD (args:=[.v none]) (ins:=[.v (.one (.int .i64 n))]) (hints:=(fun _=>none)) fo (by kernel_rfl) func68 ⟨rfl,trivial⟩ ?_;rw [SY];dsimp only [List.map,In.env,aA,aB];refine aC (Gf _ h1 h2) rfl ?_;dsimp only [aA,aB];refine aC (MR _) rfl ?_;exact aP rfl
theorem Jn (n m:Int):aJ prog 283 [(.one (.int .i64 n):aH),(.one (.int .i64 m):aH)] (.ret [.one (.int .i64 (max 0 (min n m)))]):=by
 refine aD (args:=[.v none, .v none]) (ins:=[.v (.one (.int .i64 n)), .v (.one (.int .i64 m))]) (hints:=(fun _=>none)) fo (by kernel_rfl) func283 ⟨rfl,rfl,trivial⟩ ?_;rw [JE];dsimp only [List.map,In.env,aA,aB];refine vn KW rfl ?_;dsimp only [aA,aB];refine vn Lv rfl ?_;exact aP rfl
theorem kU (q:Rat):aJ prog 35 [(qT q:aH)] (.ret [.one (.int .i64 q.num.sign)]):=by
 refine aD (args:=[.v (some 3)]) (ins:=[.v (qT q)]) (hints:=(fun _=>none)) fo (by kernel_rfl) func35 ⟨rfl,trivial⟩ ?_;rw [NA];dsimp only [List.map,In.env,aA,aB];refine aC (No _) rfl ?_;exact aP rfl
theorem Fit.dl {B:Nat} {q:Rat} (h:Fit B q):(dg q.num.natAbs).length≤B∧(dg q.den).length≤B:=⟨eF h.1,eF h.2⟩
theorem PY (q:Rat):aJ prog 65 [(qT q:aH)] (.ret [qT (-q)]):=by
 refine aD (args:=[.v (some 3)]) (ins:=[.v (qT q)]) (hints:=(fun _=>none)) fo (by kernel_rfl) func65 ⟨rfl,trivial⟩ ?_;rw [QI];dsimp only [List.map,In.env,aA,aB];refine vn Df rfl ?_;dsimp only [aA,aB]
 refine aC (eI _ _ (-q).num (by
  rw [Rat.neg_num];by_cases h:q.num<0<;>simp only [h,not_true_eq_false,not_false_eq_true,decide_true,decide_false,Bool.false_eq_true,if_true,if_false]<;>omega)) rfl ?_
 dsimp only [aA,aB];refine aP ?_;show [qT _]=_;simp only [qT,qC,Rat.neg_den]
theorem qK (q:Rat):q.abs.num=(q.num.natAbs:Int)∧q.abs.den=q.den:=by
 unfold Rat.abs;have h:=Rat.num_nonneg (q:=q);split
 ·rename_i h0;have:=h.2 h0;exact ⟨by omega,rfl⟩
 ·rename_i h0;have:¬ 0≤q.num:=fun e=>h0 (h.1 e);exact ⟨by rw [Rat.neg_num];omega,Rat.neg_den _⟩
theorem BU (q:Rat):aJ prog 146 [(qT q:aH)] (.ret [qT q.abs]):=by
 refine aD (args:=[.v (some 3)]) (ins:=[.v (qT q)]) (hints:=(fun _=>none)) fo (by kernel_rfl) func146 ⟨rfl,trivial⟩ ?_;rw [Qq];dsimp only [List.map,In.env,aA,aB];refine aC (eI false _ (q.abs).num (by rw [if_neg (by simp)];exact (qK q).1)) rfl ?_;dsimp only [aA,aB];refine aP ?_;show [aH.agg [dT q.abs.num.natAbs, .bool (decide (q.abs.num<0)),dT (q.den-1)]] = [qT q.abs];simp only [qT,qC,(qK q).2]
theorem eW (a b:Rat) (A B:Nat) (ha:Fit A a) (hb:Fit B b) (h:A+B≤34359738368):aJ prog 36 [(qT a:aH),(qT b:aH)] (.ret [qT (a*b)]):=by
 refine aD (args:=[.v (some 3), .v (some 3)]) (ins:=[.v (qT a), .v (qT b)]) (hints:=(fun _=>none)) fo (by kernel_rfl) func36 ⟨rfl,rfl,trivial⟩ ?_;rw [Qx];dsimp only [List.map,In.env,aA,aB];obtain ⟨ha1,ha2⟩:=Fit.dl ha;obtain ⟨hb1,hb2⟩:=Fit.dl hb;have hn:=eF (bI ha.1 hb.1);have hd:=eF (bI ha.2 hb.2);refine aC (Ce _ _ (by omega)) rfl ?_;dsimp only [aA,aB];refine aC (eC a (by omega)) rfl ?_;dsimp only [aA,aB];refine aC (eC b (by omega)) rfl ?_;dsimp only [aA,aB];refine aC (gB _ _ (by omega)) rfl ?_;dsimp only [aA,aB];refine aC (vF _ _ (Nat.mul_pos a.den_pos b.den_pos) (by rw [Int.natAbs_mul];omega)) rfl ?_;rw [←Rat.mul_def'];exact aP rfl
theorem oB (a b:Rat) (A B:Nat) (ha:Fit A a) (hb:Fit B b) (h:A+B≤34359738368):aJ prog 64 [(qT a:aH),(qT b:aH)] (.ret [qT (a+b)]):=by
 refine aD (args:=[.v (some 3), .v (some 3)]) (ins:=[.v (qT a), .v (qT b)]) (hints:=(fun _=>none)) fo (by kernel_rfl) func64 ⟨rfl,rfl,trivial⟩ ?_;rw [Pl];dsimp only [List.map,In.env,aA,aB];obtain ⟨ha1,ha2⟩:=Fit.dl ha;obtain ⟨hb1,hb2⟩:=Fit.dl hb;have hn1:=eF (bI ha.1 hb.2);have hn2:=eF (bI hb.1 ha.2);have hd:=eF (bI ha.2 hb.2)
 have hsum:(dg (a.num*(b.den:Int)+b.num*(a.den:Int)).natAbs).length≤A+B+1:=by
  apply eF;have h1:=bI ha.1 hb.2;have h2:=bI hb.1 ha.2;rw [Nat.add_comm B A] at h2;rw [Nat.pow_succ];refine Nat.lt_of_le_of_lt (Int.natAbs_add_le _ _) ?_;rw [Int.natAbs_mul,Int.natAbs_mul,Int.natAbs_natCast,Int.natAbs_natCast];omega
 refine aC (eC a (by omega)) rfl ?_;dsimp only [aA,aB];refine aC (eC b (by omega)) rfl ?_;dsimp only [aA,aB];refine aC (Ce a.num (b.den:Int) (by rw [Int.natAbs_natCast];omega)) rfl ?_;dsimp only [aA,aB];refine aC (Ce b.num (a.den:Int) (by rw [Int.natAbs_natCast];omega)) rfl ?_;dsimp only [aA,aB];refine aC (PB _ _ (by rw [Int.natAbs_mul,Int.natAbs_mul,Int.natAbs_natCast,Int.natAbs_natCast];omega)) rfl ?_;dsimp only [aA,aB];refine aC (gB _ _ (by omega)) rfl ?_;dsimp only [aA,aB];refine aC (vF _ _ (Nat.mul_pos a.den_pos b.den_pos) (by omega)) rfl ?_;rw [←Rat.add_def'];exact aP rfl
theorem PH (a b:Rat) (A B:Nat) (ha:Fit A a) (hb:Fit B b) (h:A+B≤34359738368):aJ prog 167 [(qT a:aH),(qT b:aH)] (.ret [qT (a-b)]):=by
 refine aD (args:=[.v (some 3), .v (some 3)]) (ins:=[.v (qT a), .v (qT b)]) (hints:=(fun _=>none)) fo (by kernel_rfl) func167 ⟨rfl,rfl,trivial⟩ ?_;rw [Rm];dsimp only [List.map,In.env,aA,aB];refine aC (PY b) rfl ?_;dsimp only [aA,aB];refine aC (oB a (-b) A B ha hb.neg h) rfl ?_;rw [←Rat.sub_eq_add_neg];exact aP rfl
theorem PT {a b:Rat} (hb:b≠0):mkRat (a.num*(if decide (b.num<0)=true then -(b.den:Int) else b.den)) (a.den*b.num.natAbs)=a/b:=by
 have hn:b.num≠0:=fun e=>hb (Rat.num_eq_zero.1 e)
 have e:b⁻¹=mkRat (if decide (b.num<0)=true then -(b.den:Int) else b.den) b.num.natAbs:=by
  rw [Rat.inv_def];by_cases h:b.num<0
  ·rw [decide_eq_true h,if_pos rfl]
   conv=>lhs;rw [show b.num = -((b.num.natAbs:Nat):Int) by omega]
   rw [Rat.divInt_neg',Rat.divInt_ofNat]
  ·rw [decide_eq_false h,if_neg (by simp)]
   conv=>lhs;rw [show b.num=((b.num.natAbs:Nat):Int) by omega]
   rw [Rat.divInt_ofNat]
 rw [Rat.div_def,e]
 conv=>rhs;rw [←Rat.mkRat_self a]
 rw [Rat.mkRat_mul_mkRat]
theorem Mf (a b:Rat) (A B:Nat) (hb0:b≠0) (ha:Fit A a) (hb:Fit B b) (h:A+B≤34359738368):aJ prog 255 [(qT a:aH),(qT b:aH)] (.ret [qT (a/b)]):=by
 refine aD (args:=[.v (some 3), .v (some 3)]) (ins:=[.v (qT a), .v (qT b)]) (hints:=(fun _=>none)) fo (by kernel_rfl) func255 ⟨rfl,rfl,trivial⟩ ?_;rw [Nb];dsimp only [List.map,In.env,aA,aB];obtain ⟨ha1,ha2⟩:=Fit.dl ha;obtain ⟨hb1,hb2⟩:=Fit.dl hb;have hn:b.num≠0:=fun e=>hb0 (Rat.num_eq_zero.1 e);have hn1:=eF (bI ha.1 hb.2);have hd:=eF (bI ha.2 hb.1);obtain ⟨z,hz⟩:∃ z:Int,(if decide (b.num<0)=true then -(b.den:Int) else b.den)=z:=⟨_,rfl⟩
 have hza:z.natAbs=b.den:=by rw [←hz];split<;>simp
 refine aC (eC b (by omega)) rfl ?_;dsimp only [aA,aB];refine aC (eI _ _ z hz.symm) rfl ?_;dsimp only [aA,aB];refine aC (Ce a.num z (by rw [hza];omega)) rfl ?_;dsimp only [aA,aB];refine aC (eC a (by omega)) rfl ?_;dsimp only [aA,aB];refine aC (gB _ _ (by omega)) rfl ?_;dsimp only [aA,aB];refine aC (vF _ _ (Nat.mul_pos a.den_pos (by omega)) (by rw [Int.natAbs_mul,hza];omega)) rfl ?_;rw [←hz,PT hb0];exact aP rfl
theorem sign_zero {q:Rat}:q.num.sign=0↔q=0:=by rw [Int.sign_eq_zero_iff_zero,Rat.num_eq_zero]
theorem Li (a b:Rat) (A B:Nat) (ha:Fit A a) (hb:Fit B b) (h:A+B≤34359738368):aJ prog 200 [(qT a:aH),(qT b:aH)] (.ret [qT (if b=0 then 0 else a/b), .one (.int .i64 (if b=0 then 9 else 0))]):=by
 refine aD (args:=[.v (some 3), .v (some 3)]) (ins:=[.v (qT a), .v (qT b)]) (hints:=(fun _=>none)) fo (by kernel_rfl) func200 ⟨rfl,rfl,trivial⟩ ?_;rw [QD];dsimp only [List.map,In.env,aA,aB];refine aC (kU b) rfl ?_;dsimp only [aA,aB];refine vn cK rfl ?_;dsimp only [aA,aB];refine vs _ rfl (fun h2=>?_) (fun h2=>?_)
 ·have h2:b=0:=sign_zero.1 h2;rw [if_pos h2,if_pos h2];exact eP ⟨gW,aH.Sub.same,trivial⟩
 have h2:¬ b=0:=fun e=>h2 (sign_zero.2 e);rw [if_neg h2,if_neg h2];refine aC (Mf a b A B h2 ha hb h) rfl ?_;exact aP rfl
theorem iA {n:Int} (h1:-9223372036854775808≤n) (h2:n<9223372036854775808):Fit 64 (n:Rat):=Fit.int (by omega) (by omega)
def AI (a b:Rat):Int:=if a<b then -1 else if b<a then 1 else 0
theorem Bm (a b:Rat):AI a b=dS (a.num*b.den) (b.num*a.den):=by
 unfold AI dS;simp only [Rat.lt_iff]
theorem dW (z:Int):(z<0∧z.sign = -1)∨(z=0∧z.sign=0)∨(0<z∧z.sign=1):=by
 rcases Int.lt_trichotomy z 0 with h | h | h
 ·exact .inl ⟨h,Int.sign_eq_neg_one_of_neg h⟩
 ·exact .inr (.inl ⟨h,by rw [h];rfl⟩)
 ·exact .inr (.inr ⟨h,Int.sign_eq_one_of_pos h⟩)
theorem GY {a b:Rat} (h:a.num.sign≠b.num.sign∨a.num.sign=0):AI a b=a.num.sign-b.num.sign-(a.num.sign-b.num.sign).tdiv 2:=by
 rw [Bm];have ha:=a.den_pos;have hb:=b.den_pos
 have key:∀ (x:Int) (d:Nat),0<d→(x<0→x*(d:Int)<0)∧(x=0→x*(d:Int)=0)∧(0<x→0<x*(d:Int)):=fun x d hd=>
  ⟨fun h=>Int.mul_neg_of_neg_of_pos h (by omega),fun h=>by rw [h,Int.zero_mul],fun h=>Int.mul_pos h (by omega)⟩
 obtain ⟨k1,k2,k3⟩:=key a.num b.den hb;obtain ⟨l1,l2,l3⟩:=key b.num a.den ha
 rcases dW a.num with ⟨h1,e1⟩ | ⟨h1,e1⟩ | ⟨h1,e1⟩<;>rcases dW b.num with ⟨h2,e2⟩ | ⟨h2,e2⟩ | ⟨h2,e2⟩<;>rw [e1,e2] at h ⊢ <;> simp only [dS]<;>(try (exfalso;revert h;decide)) <;>
  (first
   | have i1:=k1 h1
   | have i1:=k2 h1
   | have i1:=k3 h1) <;>
  (first
   | have i2:=l1 h2
   | have i2:=l2 h2
   | have i2:=l3 h2) <;>
  (first
   | (rw [if_pos (by omega)];rfl)
   | (rw [if_neg (by omega),if_pos (by omega)];rfl)
   | (rw [if_neg (by omega),if_neg (by omega)];rfl))
theorem NC {a b:Rat} (h:a.num.sign=b.num.sign) (h0:a.num.sign≠0):AI a b=a.num.sign*dS ((a.num.natAbs*b.den:Nat):Int) ((b.num.natAbs*a.den:Nat):Int):=by
 rw [Bm];rcases dW a.num with ⟨h1,e1⟩ | ⟨h1,e1⟩ | ⟨h1,e1⟩
 ·have h2:b.num<0:=by
   rcases dW b.num with ⟨h2,e2⟩ | ⟨h2,e2⟩ | ⟨h2,e2⟩
   ·exact h2
   ·omega
   ·omega
  have ea:a.num*(b.den:Int) = -((a.num.natAbs*b.den:Nat):Int):=by
   rw [Int.natCast_mul,←Int.neg_mul];congr 1;omega
  have eb:b.num*(a.den:Int) = -((b.num.natAbs*a.den:Nat):Int):=by
   rw [Int.natCast_mul,←Int.neg_mul];congr 1;omega
  rw [e1,ea,eb];generalize ((a.num.natAbs*b.den:Nat):Int)=p;generalize ((b.num.natAbs*a.den:Nat):Int)=q;unfold dS;split<;>(try split)<;>(try split)<;>(try split)<;>omega
 ·omega
 ·have h2:0<b.num:=by
   rcases dW b.num with ⟨h2,e2⟩ | ⟨h2,e2⟩ | ⟨h2,e2⟩
   ·omega
   ·omega
   ·exact h2
  have ea:a.num*(b.den:Int)=((a.num.natAbs*b.den:Nat):Int):=by
   rw [Int.natCast_mul];congr 1;omega
  have eb:b.num*(a.den:Int)=((b.num.natAbs*a.den:Nat):Int):=by
   rw [Int.natCast_mul];congr 1;omega
  rw [e1,ea,eb,Int.one_mul]
theorem CF (a b:Rat) (A B:Nat) (ha:Fit A a) (hb:Fit B b) (h:A+B≤34359738368):aJ prog 38 [(qT a:aH),(qT b:aH)] (.ret [.one (.int .i64 (AI a b))]):=by
 refine aD (args:=[.v (some 3), .v (some 3)]) (ins:=[.v (qT a), .v (qT b)]) (hints:=(fun _=>none)) fo (by kernel_rfl) func38 ⟨rfl,rfl,trivial⟩ ?_;rw [QJ];dsimp only [List.map,In.env,aA,aB];obtain ⟨ha1,ha2⟩:=Fit.dl ha;obtain ⟨hb1,hb2⟩:=Fit.dl hb;have hn1:=eF (bI ha.1 hb.2);have hn2:=eF (bI hb.1 ha.2);have hsa:-1≤a.num.sign∧a.num.sign≤1:=by rcases dW a.num with ⟨_,e⟩ | ⟨_,e⟩ | ⟨_,e⟩<;>omega
 have hsb:-1≤b.num.sign∧b.num.sign≤1:=by rcases dW b.num with ⟨_,e⟩ | ⟨_,e⟩ | ⟨_,e⟩<;>omega
 have htd:-1≤(a.num.sign-b.num.sign).tdiv 2∧(a.num.sign-b.num.sign).tdiv 2≤1:=by
  rcases dW a.num with ⟨_,e⟩ | ⟨_,e⟩ | ⟨_,e⟩<;>rcases dW b.num with ⟨_,e2⟩ | ⟨_,e2⟩ | ⟨_,e2⟩<;>rw [e,e2]<;>decide
 refine aC (kU a) rfl ?_;dsimp only [aA,aB];refine aC (kU b) rfl ?_;dsimp only [aA,aB];refine vn kX rfl ?_;dsimp only [aA,aB];refine vs _ rfl (fun h3=>?_) (fun h3=>?_)
 ·refine vn (aI (by omega) (by omega)) rfl ?_;dsimp only [aA,aB];refine vn (aI (by omega) (by omega)) rfl ?_;dsimp only [aA,aB];refine vn (rC (c:=(a.num.sign-b.num.sign).tdiv 2) (by decide) (lR (by omega) (by omega))) rfl ?_;dsimp only [aA,aB];refine vn (aI (by omega) (by omega)) rfl ?_;dsimp only [aA,aB];rw [GY (.inl h3)];exact aP rfl
 refine vn cK rfl ?_;dsimp only [aA,aB];refine vs _ rfl (fun h10=>?_) (fun h10=>?_)
 ·refine vn (aI (by omega) (by omega)) rfl ?_;dsimp only [aA,aB];refine vn (aI (by omega) (by omega)) rfl ?_;dsimp only [aA,aB];refine vn (rC (c:=(a.num.sign-b.num.sign).tdiv 2) (by decide) (lR (by omega) (by omega))) rfl ?_;dsimp only [aA,aB];refine vn (aI (by omega) (by omega)) rfl ?_;dsimp only [aA,aB];rw [GY (.inr h10)];exact aP rfl
 refine aC (kU a) rfl ?_;dsimp only [aA,aB];refine aC (eC b (by omega)) rfl ?_;dsimp only [aA,aB];refine aC (gB _ _ (by omega)) rfl ?_;dsimp only [aA,aB];refine aC (eC a (by omega)) rfl ?_;dsimp only [aA,aB];refine aC (gB _ _ (by omega)) rfl ?_;dsimp only [aA,aB];refine aC (pB _ _ (by omega)) rfl ?_;dsimp only [aA,aB]
 have hci:-1≤dS ((a.num.natAbs*b.den:Nat):Int) ((b.num.natAbs*a.den:Nat):Int)∧dS ((a.num.natAbs*b.den:Nat):Int) ((b.num.natAbs*a.den:Nat):Int)≤1:=by
  unfold dS;split<;>(try split)<;>omega
 rw [NC (by omega) h10];generalize dS ((a.num.natAbs*b.den:Nat):Int) ((b.num.natAbs*a.den:Nat):Int)=c at hci ⊢;generalize a.num.sign=s at hsa h10 ⊢
 refine vn (wU (c:=s*c) (by
  rcases (by omega:s = -1∨s=1) with rfl | rfl
  ·exact lR (by omega) (by omega)
  ·exact lR (by omega) (by omega))) rfl ?_
 exact aP rfl
end Go.Sy
