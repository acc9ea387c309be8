/- Taking away: less, subtract, giveBack. Division.
-/
import Derived.Test.YtdmcadckdnnglaaGreatDoorNa
import Derived.Test.YtdmcadckdnnglaaGreatDoorPa
set_option linter.unusedVariables false
set_option linter.unusedSimpArgs false
namespace Go.Sy
open Go Go.Proofs Tryz Ord
def aq3:Tr:=.need (.idx 20 (.u 8 0)) (.indexAddr 33 (tT 51) (tT 52)) 0 false (.need (.ldrow 20 (.u 8 0) 0 1 false) (.load 255 (tT 53)) 255 false (bJ .sub 255 54 55 21 0 15 0 255 (.need (.idx 20 (.u 8 0)) (.indexAddr 33 (tT 51) (tT 52)) 0 false (.need (.strow 20 1 (.u 8 0) 0 [(.u 22 0)]) (.store 255 (tT 57) (tT 56)) 0 false (aU .add 3 19 1 8 0 3 (.back 0 [(.w (.one (.c (.k (.int .u32 1))))),lV 24 0, .row 23]))))))
def ag6:Tr:=.need (.idx 9 (.u 8 0)) (.indexAddr 33 (tT 51) (tT 52)) 0 false (.need (.ldrow 9 (.u 8 0) 0 1 false) (.load 255 (tT 53)) 255 false (bJ .sub 255 54 55 18 0 15 0 255 (.need (.idx 9 (.u 8 0)) (.indexAddr 33 (tT 51) (tT 52)) 0 false (.need (.strow 9 1 (.u 8 0) 0 [(.u 19 0)]) (.store 255 (tT 57) (tT 56)) 0 false (aU .add 3 19 1 8 0 3 (.back 0 [(.w (.one (.c (.k (.int .u32 0))))),lV 21 0, .row 20]))))))
def ae6:Tr:=bJ .lss 255 40 41 16 0 15 0 4 (.split (.u 17 0) (.need (.idx 9 (.u 8 0)) (.indexAddr 33 (tT 45) (tT 46)) 0 false (.need (.ldrow 9 (.u 8 0) 0 1 false) (.load 255 (tT 47)) 255 false (.need (.prim [(W 18 0),(.one (.c (.k (.int .u32 1000000000))))] none) (.binOp .add 255 (tT 48) (.const (.int .u32 1000000000)) 255) 255 false (.need (.idx 9 (.u 8 0)) (.indexAddr 33 (tT 43) (tT 44)) 0 false (.need (.strow 9 1 (.u 8 0) 0 [(.u 19 0)]) (.store 255 (tT 50) (tT 49)) 0 false aq3))))) ag6)
def aa6:Tr:=.need (.idx 18 (.u 8 0)) (.indexAddr 33 (tT 51) (tT 52)) 0 false (.need (.ldrow 18 (.u 8 0) 0 1 false) (.load 255 (tT 53)) 255 false (bJ .sub 255 54 55 19 0 7 0 255 (.need (.idx 18 (.u 8 0)) (.indexAddr 33 (tT 51) (tT 52)) 0 false (.need (.strow 18 1 (.u 8 0) 0 [(.u 20 0)]) (.store 255 (tT 57) (tT 56)) 0 false (aU .add 3 19 1 8 0 3 (.back 0 [(.w (.one (.c (.k (.int .u32 1))))),lV 22 0, .row 21]))))))
def ak0:Tr:=.need (.idx 9 (.u 8 0)) (.indexAddr 33 (tT 51) (tT 52)) 0 false (.need (.ldrow 9 (.u 8 0) 0 1 false) (.load 255 (tT 53)) 255 false (bJ .sub 255 54 55 16 0 7 0 255 (.need (.idx 9 (.u 8 0)) (.indexAddr 33 (tT 51) (tT 52)) 0 false (.need (.strow 9 1 (.u 8 0) 0 [(.u 17 0)]) (.store 255 (tT 57) (tT 56)) 0 false (aU .add 3 19 1 8 0 3 (.back 0 [(.w (.one (.c (.k (.int .u32 0))))),lV 19 0, .row 18]))))))
def ab4:Tr:=bJ .lss 255 40 41 14 0 7 0 4 (.split (.u 15 0) (.need (.idx 9 (.u 8 0)) (.indexAddr 33 (tT 45) (tT 46)) 0 false (.need (.ldrow 9 (.u 8 0) 0 1 false) (.load 255 (tT 47)) 255 false (.need (.prim [(W 16 0),(.one (.c (.k (.int .u32 1000000000))))] none) (.binOp .add 255 (tT 48) (.const (.int .u32 1000000000)) 255) 255 false (.need (.idx 9 (.u 8 0)) (.indexAddr 33 (tT 43) (tT 44)) 0 false (.need (.strow 9 1 (.u 8 0) 0 [(.u 17 0)]) (.store 255 (tT 50) (tT 49)) 0 false aa6))))) ak0)
def aP8:Tr:=bJ .lss 3 23 26 8 0 11 0 4 (.split (.u 12 0) (eD 1 0 8 0 33 30 31 (dI 13 0 none 255 32 (bJ .add 255 28 33 7 0 14 0 255 (.need (.idx 9 (.u 8 0)) (.indexAddr 33 (tT 37) (tT 38)) 0 false (.need (.ldrow 9 (.u 8 0) 0 1 false) (.load 255 (tT 39)) 255 false ae6))))) (.need (.prim [(W 7 0),(.one (.c (.k (.int .u32 0))))] none) (.binOp .eql 255 (tT 35) (.const (.int .u32 0)) 255) 4 false (.split (.u 13 0) (aK 197 [(.one (.c (.sr 1 9)))] [(some 1)] [59] [33] 35 true (.ret [(G1 14)])) (.need (.idx 9 (.u 8 0)) (.indexAddr 33 (tT 37) (tT 38)) 0 false (.need (.ldrow 9 (.u 8 0) 0 1 false) (.load 255 (tT 39)) 255 false ab4)))))
def aL4:Tr:=.need (.rop 3 255 1 none [] [(W 0 0)] [none]) (.call ⟨.builtin .copy,#[(tT 13),(tT 15)],#[33,33]⟩) 3 false (.need (.lenrow 5) (.call ⟨.builtin .len,#[(tT 17)],#[33]⟩) 3 false (.loop 0 [(.w (.one (.c (.k (.int .u32 0))))),lK 0, .row 5] (bJ .lss 3 19 18 8 0 6 0 0 (.split (.u 10 0) (cB 1 0 25 33 aP8) (aK 197 [(.one (.c (.sr 1 9)))] [(some 1)] [59] [33] 35 true (.ret [(G1 11)]))))))
def aS9:Tr:=cB 0 0 10 33 (.need (.make [(.int .u32 0)] 4 (.u 2 0) (.u 2 0)) (.makeSlice 33 (tT 11) (tT 11)) 33 false aL4)
theorem av8:aN prog f194 (fun _=>none) [.v (some 1), .v (some 1)]=aS9:=by kernel_rfl
def ao1:Tr:=.split (.u 23 0) (aU .add 2 44 1000000000 21 0 2 (.need (.prim [(W 24 0)] none) (.convert 2 255 (tT 48)) 255 false (.need (.idx 7 (.u 6 0)) (.indexAddr 33 (tT 46) (tT 47)) 0 false (.need (.strow 7 1 (.u 6 0) 0 [(.u 25 0)]) (.store 255 (tT 50) (tT 49)) 0 false (aU .add 3 13 1 6 0 3 (.back 0 [lV 22 0,lK 1,lV 27 0, .row 26])))))) (.need (.prim [(W 21 0)] none) (.convert 2 255 (tT 48)) 255 false (.need (.idx 7 (.u 6 0)) (.indexAddr 33 (tT 46) (tT 47)) 0 false (.need (.strow 7 1 (.u 6 0) 0 [(.u 24 0)]) (.store 255 (tT 50) (tT 49)) 0 false (aU .add 3 13 1 6 0 3 (.back 0 [lV 22 0,lK 0,lV 26 0, .row 25])))))
def ao9:Tr:=.need (.prim [(W 16 0)] none) (.convert 255 2 (tT 32)) 2 false (.need (.prim [(W 15 0),(.one (.c (.k (.int .u64 1000000000))))] none) (.binOp .rem 254 (tT 34) (.const (.int .u64 1000000000)) 254) 254 false (.need (.prim [(W 18 0)] none) (.convert 254 2 (tT 35)) 2 false (bJ .sub 2 33 36 17 0 19 0 2 (bJ .sub 2 37 38 20 0 5 0 2 (.need (.prim [(W 15 0),(.one (.c (.k (.int .u64 1000000000))))] none) (.binOp .quo 254 (tT 40) (.const (.int .u64 1000000000)) 254) 254 false (aU .lss 2 42 0 21 0 4 ao1))))))
def aF3:Tr:=eD 1 0 6 0 33 22 23 (dI 11 0 none 255 24 (.need (.prim [(W 12 0)] none) (.convert 255 254 (tT 25)) 254 false (bJ .mul 254 21 26 2 0 13 0 254 (bJ .add 254 20 27 4 0 14 0 254 (.need (.idx 7 (.u 6 0)) (.indexAddr 33 (tT 29) (tT 30)) 0 false (.need (.ldrow 7 (.u 6 0) 0 1 false) (.load 255 (tT 31)) 255 false ao9))))))
def ay5:Tr:=.split (.u 18 0) (aU .add 2 44 1000000000 16 0 2 (.need (.prim [(W 19 0)] none) (.convert 2 255 (tT 48)) 255 false (.need (.idx 7 (.u 6 0)) (.indexAddr 33 (tT 46) (tT 47)) 0 false (.need (.strow 7 1 (.u 6 0) 0 [(.u 20 0)]) (.store 255 (tT 50) (tT 49)) 0 false (aU .add 3 13 1 6 0 3 (.back 0 [lV 17 0,lK 1,lV 22 0, .row 21])))))) (.need (.prim [(W 16 0)] none) (.convert 2 255 (tT 48)) 255 false (.need (.idx 7 (.u 6 0)) (.indexAddr 33 (tT 46) (tT 47)) 0 false (.need (.strow 7 1 (.u 6 0) 0 [(.u 19 0)]) (.store 255 (tT 50) (tT 49)) 0 false (aU .add 3 13 1 6 0 3 (.back 0 [lV 17 0,lK 0,lV 21 0, .row 20])))))
def aa0:Tr:=.need (.prim [(W 11 0)] none) (.convert 255 2 (tT 32)) 2 false (.need (.prim [(W 4 0),(.one (.c (.k (.int .u64 1000000000))))] none) (.binOp .rem 254 (tT 34) (.const (.int .u64 1000000000)) 254) 254 false (.need (.prim [(W 13 0)] none) (.convert 254 2 (tT 35)) 2 false (bJ .sub 2 33 36 12 0 14 0 2 (bJ .sub 2 37 38 15 0 5 0 2 (.need (.prim [(W 4 0),(.one (.c (.k (.int .u64 1000000000))))] none) (.binOp .quo 254 (tT 40) (.const (.int .u64 1000000000)) 254) 254 false (aU .lss 2 42 0 16 0 4 ay5))))))
def aQ9:Tr:=bJ .lss 3 13 12 6 0 3 0 0 (.split (.u 8 0) (cB 1 0 17 33 (bJ .lss 3 16 18 6 0 9 0 4 (.split (.u 10 0) aF3 (.need (.idx 7 (.u 6 0)) (.indexAddr 33 (tT 29) (tT 30)) 0 false (.need (.ldrow 7 (.u 6 0) 0 1 false) (.load 255 (tT 31)) 255 false aa0))))) (aU .neq 2 52 0 5 0 4 (.retr [(W 9 0)] 7)))
def aS7:Tr:=.need (.lenrow 0) (.call ⟨.builtin .len,#[(tT 11)],#[33]⟩) 3 false (.loop 0 [(.w (.one (.c (.k (.int .u64 0))))),lK 0,lK 0, .row 0] aQ9)
theorem JO:HF prog f251 (fun _=>none) [.lent 255 1, .v none, .v none]=aS7:=by kernel_rfl
def ay2:Tr:=.need (.prim [(W 13 0),(.one (.c (.k (.int .u32 1000000000))))] none) (.binOp .geq 255 (tT 29) (.const (.int .u32 1000000000)) 255) 4 false (.split (.u 14 0) (.need (.prim [(W 13 0),(.one (.c (.k (.int .u32 1000000000))))] none) (.binOp .sub 255 (tT 31) (.const (.int .u32 1000000000)) 255) 255 false (.need (.idx 5 (.u 4 0)) (.indexAddr 33 (tT 33) (tT 34)) 0 false (.need (.strow 5 1 (.u 4 0) 0 [(.u 15 0)]) (.store 255 (tT 36) (tT 35)) 0 false (aU .add 3 10 1 4 0 3 (.back 0 [(.w (.one (.c (.k (.int .u32 1))))),lV 17 0, .row 16]))))) (.need (.idx 5 (.u 4 0)) (.indexAddr 33 (tT 33) (tT 34)) 0 false (.need (.strow 5 1 (.u 4 0) 0 [(.u 13 0)]) (.store 255 (tT 36) (tT 35)) 0 false (aU .add 3 10 1 4 0 3 (.back 0 [(.w (.one (.c (.k (.int .u32 0))))),lV 16 0, .row 15])))))
def aA0:Tr:=.need (.prim [(W 8 0),(.one (.c (.k (.int .u32 1000000000))))] none) (.binOp .geq 255 (tT 29) (.const (.int .u32 1000000000)) 255) 4 false (.split (.u 11 0) (.need (.prim [(W 8 0),(.one (.c (.k (.int .u32 1000000000))))] none) (.binOp .sub 255 (tT 31) (.const (.int .u32 1000000000)) 255) 255 false (.need (.idx 5 (.u 4 0)) (.indexAddr 33 (tT 33) (tT 34)) 0 false (.need (.strow 5 1 (.u 4 0) 0 [(.u 12 0)]) (.store 255 (tT 36) (tT 35)) 0 false (aU .add 3 10 1 4 0 3 (.back 0 [(.w (.one (.c (.k (.int .u32 1))))),lV 14 0, .row 13]))))) (.need (.idx 5 (.u 4 0)) (.indexAddr 33 (tT 33) (tT 34)) 0 false (.need (.strow 5 1 (.u 4 0) 0 [(.u 8 0)]) (.store 255 (tT 36) (tT 35)) 0 false (aU .add 3 10 1 4 0 3 (.back 0 [(.w (.one (.c (.k (.int .u32 0))))),lV 13 0, .row 12])))))
def aD2:Tr:=bJ .add 255 16 17 7 0 3 0 255 (cB 1 0 20 33 (bJ .lss 3 19 21 4 0 9 0 4 (.split (.u 10 0) (eD 1 0 4 0 33 24 25 (dI 11 0 none 255 26 (bJ .add 255 23 27 8 0 12 0 255 ay2))) aA0)))
def aT8:Tr:=.need (.lenrow 0) (.call ⟨.builtin .len,#[(tT 8)],#[33]⟩) 3 false (.loop 0 [(.w (.one (.c (.k (.int .u32 0))))),lK 0, .row 0] (bJ .lss 3 10 9 4 0 2 0 0 (.split (.u 6 0) (.need (.idx 5 (.u 4 0)) (.indexAddr 33 (tT 13) (tT 14)) 0 false (.need (.ldrow 5 (.u 4 0) 0 1 false) (.load 255 (tT 15)) 255 false aD2)) (.need (.prim [(W 3 0),(.one (.c (.k (.int .u32 0))))] none) (.binOp .neq 255 (tT 38) (.const (.int .u32 0)) 255) 4 false (.retr [(W 7 0)] 5)))))
theorem Lb:HF prog f252 (fun _=>none) [.lent 255 1, .v none]=aT8:=by kernel_rfl
structure GM (xs ys:List Nat) (i b:Nat) (os:List Nat):Prop where
 h:iH 1000000000 xs ys 1 i 0 b os
theorem GM.init {xs:List Nat} (hx:Dg xs) (ys:List Nat):GM xs ys 0 0 xs:=⟨iH.init hx ys 1⟩
theorem GM.next {xs ys os:List Nat} {i b x y z b':Nat} (h:GM xs ys i b os) (hx:xs[i]? = some x) (hy:ys[i]?.getD 0=y) (hyB:y<1000000000) (hz:z<1000000000) (hb:b'≤1) (he:z+y+b=x+1000000000*b') :
  GM xs ys (i+1) b' (os.set i z):=by
 have:=h.h.next (by omega) (by omega) hx hy hyB hz hb (by rw [Nat.zero_add,Nat.one_mul,Nat.mod_eq_of_lt hyB];exact he);rw [Nat.zero_add,Nat.one_mul,Nat.div_eq_of_lt hyB] at this;exact ⟨this⟩
theorem GM.fin {xs ys os:List Nat} {i b:Nat} (h:GM xs ys i b os) (hle:lv ys≤lv xs) (he:b=0∧ys.length≤i∨i=xs.length∧ys.length≤xs.length):lv os+lv ys=lv xs:=by
 have h1:=h.h.eq;rw [Nat.one_mul,Nat.zero_add] at h1;rcases he with ⟨rfl,hl⟩ | ⟨rfl,hl⟩
 ·rw [Nat.mul_zero,Nat.add_zero,List.take_of_length_le hl] at h1
  have e:∀ l:List Nat,i≤l.length→lv l=lv (l.take i)+1000000000^i*lv (l.drop i):=fun l hl=>by
   conv=>lhs;rw [←List.take_append_drop i l]
   rw [tO,List.length_take,Nat.min_eq_left hl]
  rw [e os (by rw [h.h.len];exact h.h.le),e xs h.h.le,h.h.rest];simp only [lv] at h1 ⊢;omega
 ·rw [List.take_of_length_le (by rw [h.h.len];omega),List.take_length,List.take_of_length_le hl] at h1;have h2:=DB.lt (by omega) h.h.dg;rw [h.h.len] at h2;have hb:=h.h.b1;rcases (by omega:b=0∨b=1) with rfl | rfl
  ·show val _ os+val _ ys=val _ xs;omega
  ·have hle:val 1000000000 ys≤val 1000000000 xs:=hle;omega
theorem kW {a b:Nat} (h:a≤b):(dg a).length≤(dg b).length:=jG (by omega) (Nat.lt_of_le_of_lt h (kG (by omega) b))
theorem GW (a b:Nat) (hab:b≤a) (ha:0<a) (hs:(dg a).length<1099511627776):aM prog 194 [(mT a:aF),(mT b:aF)] (.ret [mT (a-b)]):=by
 refine aD (args:=[.v (some 1), .v (some 1)]) (ins:=[.v (mT a), .v (mT b)]) (hints:=(fun _=>none)) fo (by kernel_rfl) func194 ⟨rfl,rfl,trivial⟩ ?_;rw [av8];dsimp only [List.map,In.env,aB,aA];have hlen:=kW hab;have hane:dg a ≠ []:=fun e=>by have:=zL.1 e;omega
 refine vn (aP dC (List.length_map _)) rfl ?_;dsimp only [aB,aA];refine CZ (f:=fun d:Nat=>[aH.int .u32 (d:Int)]) 0 rfl rfl rfl rfl (by omega) (by simp only [maxLen];omega) ?_;dsimp only [aB,aA];refine SY (xs:=dg a) (ws:=dg a) (fun _=>rfl) rfl rfl dC (by simp) (by simpa using hane) (by simp) ?_;dsimp only [aB,aA];refine KL rfl (List.length_map _) ?_;dsimp only [aB,aA];refine bC {g:Nat×Nat×List Nat // GM (dg a) (dg b) g.1 g.2.1 g.2.2} (fun g=>[.one (.int .u32 g.1.2.1), .one (.int .i64 g.1.1), .rows (rT g.1.2.2)]) (fun g=>(dg a).length-g.1.1) ⟨(0,0,dg a),GM.init (kF a) _⟩ aO.rfl (fun _=>rfl) ?_;rintro ⟨⟨i,c,os⟩,hI⟩;dsimp only [aB,aA] at hI ⊢;have hol:=hI.h.len;have hil:=hI.h.le;have hc:=hI.h.b1;have hle:lv (dg b)≤lv (dg a):=by rw [gG,gG];exact hab
 have fin:(c=0∧(dg b).length≤i∨i=(dg a).length∧(dg b).length≤(dg a).length)→lv os=a-b:=fun h=>by
  have:=hI.fin hle h;rw [gG,gG] at this;omega
 refine vn bB rfl ?_;dsimp only [aB,aA];refine vs _ rfl (fun h6=>?_) (fun h6=>?_)
 ·have hx:(dg a)[i]? = some ((dg a)[i]'(by omega)):=List.getElem?_eq_getElem (by omega);generalize (dg a)[i]'(by omega)=x at hx;have hxB:=(kF a).get hx;have ho:=hI.h.get hx;refine vn (aP dC (List.length_map _)) rfl ?_;dsimp only [aB,aA];refine vn bB rfl ?_;dsimp only [aB,aA];refine vs _ rfl (fun h9=>?_) (fun h9=>?_)
  ·have hy:(dg b)[i]? = some ((dg b)[i]'(by omega)):=List.getElem?_eq_getElem (by omega);generalize (dg b)[i]'(by omega)=y at hy;have hyB:=(kF b).get hy;refine vn (aW dC (by omega) (by omega) hy) rfl ?_;dsimp only [aB,aA];refine vn (bF xU) rfl ?_;dsimp only [aB,aA];refine vn (lI (by omega) (by omega)) rfl ?_;dsimp only [aB,aA];refine cV rfl rfl (by omega) (by first | omega | (rw [List.length_set];omega)) ?_;refine pQ rfl rfl (by omega) (by omega) ho rfl ?_;dsimp only [aB,aA];refine vn bB rfl ?_;dsimp only [aB,aA];refine vs _ rfl (fun h16=>?_) (fun h16=>?_)
   ·refine cV rfl rfl (by omega) (by first | omega | (rw [List.length_set];omega)) ?_;refine pQ rfl rfl (by omega) (by omega) ho rfl ?_;dsimp only [aB,aA];refine vn (lI (by omega) (by omega)) rfl ?_;dsimp only [aB,aA];refine cV rfl rfl (by omega) (by first | omega | (rw [List.length_set];omega)) ?_;refine lR (d':=x+1000000000) rfl rfl (by omega) (by omega) ho rfl ?_;dsimp only [aB,aA];refine cV rfl rfl (by omega) (by first | omega | (rw [List.length_set];omega)) ?_;refine NH (d:=x+1000000000) rfl rfl (by omega) (by omega) (List.getElem?_set_self (by omega)) (.inr rfl) rfl ?_;dsimp only [aB,aA];refine vn (lH (by omega) (by omega)) rfl ?_;dsimp only [aB,aA];refine cV rfl rfl (by omega) (by first | omega | (rw [List.length_set];omega)) ?_;refine lR (d:=x+1000000000) (d':=x+1000000000-(y+c)) rfl rfl (by omega) (by omega) (List.getElem?_set_self (by omega)) ?_ ?_
    ·show [aH.int .u32 _] = [aH.int .u32 _]
     congr 2;omega
    rw [List.set_set];dsimp only [aB,aA];refine vn (aE (by omega) (by omega)) rfl ?_;dsimp only [aB,aA];exact aR rfl ⟨⟨(i+1,1,os.set i (x+1000000000-(y+c))),hI.next (b':=1) (z:=x+1000000000-(y+c)) hx (by rw [hy];rfl) hyB (by omega) (by omega) (by omega)⟩,aO.rfl,by show (dg a).length-(i+1)<(dg a).length-i;omega⟩
   refine cV rfl rfl (by omega) (by first | omega | (rw [List.length_set];omega)) ?_;refine pQ rfl rfl (by omega) (by omega) ho rfl ?_;dsimp only [aB,aA];refine vn (lH (by omega) (by omega)) rfl ?_;dsimp only [aB,aA];refine cV rfl rfl (by omega) (by first | omega | (rw [List.length_set];omega)) ?_;refine lR (d':=x-(y+c)) rfl rfl (by omega) (by omega) ho ?_ ?_
   ·show [aH.int .u32 _] = [aH.int .u32 _]
    congr 2;omega
   dsimp only [aB,aA];refine vn (aE (by omega) (by omega)) rfl ?_;dsimp only [aB,aA];exact aR rfl ⟨⟨(i+1,0,os.set i (x-(y+c))),hI.next (b':=0) (z:=x-(y+c)) hx (by rw [hy];rfl) hyB (by omega) (by omega) (by omega)⟩,aO.rfl,by show (dg a).length-(i+1)<(dg a).length-i;omega⟩
  refine vn bL rfl ?_;dsimp only [aB,aA];refine vs _ rfl (fun h37=>?_) (fun h37=>?_)
  ·refine aC (iR os hI.h.dg (by omega)) rfl ?_;dsimp only [aB,aA];refine aL ?_;rw [fin (.inl (by omega))];rfl
  have hnone:(dg b)[i]? = none:=List.getElem?_eq_none_iff.2 (by omega);refine cV rfl rfl (by omega) (by first | omega | (rw [List.length_set];omega)) ?_;refine pQ rfl rfl (by omega) (by omega) ho rfl ?_;dsimp only [aB,aA];refine vn bB rfl ?_;dsimp only [aB,aA];refine vs _ rfl (fun h43=>?_) (fun h43=>?_)
  ·refine cV rfl rfl (by omega) (by first | omega | (rw [List.length_set];omega)) ?_;refine pQ rfl rfl (by omega) (by omega) ho rfl ?_;dsimp only [aB,aA];refine vn (lI (by omega) (by omega)) rfl ?_;dsimp only [aB,aA];refine cV rfl rfl (by omega) (by first | omega | (rw [List.length_set];omega)) ?_;refine lR (d':=x+1000000000) rfl rfl (by omega) (by omega) ho rfl ?_;dsimp only [aB,aA];refine cV rfl rfl (by omega) (by first | omega | (rw [List.length_set];omega)) ?_;refine NH (d:=x+1000000000) rfl rfl (by omega) (by omega) (List.getElem?_set_self (by omega)) (.inr rfl) rfl ?_;dsimp only [aB,aA];refine vn (lH (by omega) (by omega)) rfl ?_;dsimp only [aB,aA];refine cV rfl rfl (by omega) (by first | omega | (rw [List.length_set];omega)) ?_;refine lR (d:=x+1000000000) (d':=x+1000000000-c) rfl rfl (by omega) (by omega) (List.getElem?_set_self (by omega)) ?_ ?_
   ·show [aH.int .u32 _] = [aH.int .u32 _]
    congr 2;omega
   rw [List.set_set];dsimp only [aB,aA];refine vn (aE (by omega) (by omega)) rfl ?_;dsimp only [aB,aA];exact aR rfl ⟨⟨(i+1,1,os.set i (x+1000000000-c)),hI.next (b':=1) (z:=x+1000000000-c) (y:=0) hx (by rw [hnone];rfl) (by omega) (by omega) (by omega) (by omega)⟩,aO.rfl,by show (dg a).length-(i+1)<(dg a).length-i;omega⟩
  refine cV rfl rfl (by omega) (by first | omega | (rw [List.length_set];omega)) ?_;refine pQ rfl rfl (by omega) (by omega) ho rfl ?_;dsimp only [aB,aA];refine vn (lH (by omega) (by omega)) rfl ?_;dsimp only [aB,aA];refine cV rfl rfl (by omega) (by first | omega | (rw [List.length_set];omega)) ?_;refine lR (d':=x-c) rfl rfl (by omega) (by omega) ho ?_ ?_
  ·show [aH.int .u32 _] = [aH.int .u32 _]
   congr 2;omega
  dsimp only [aB,aA];refine vn (aE (by omega) (by omega)) rfl ?_;dsimp only [aB,aA];exact aR rfl ⟨⟨(i+1,0,os.set i (x-c)),hI.next (b':=0) (z:=x-c) (y:=0) hx (by rw [hnone];rfl) (by omega) (by omega) (by omega) (by omega)⟩,aO.rfl,by show (dg a).length-(i+1)<(dg a).length-i;omega⟩
 refine aC (iR os hI.h.dg (by omega)) rfl ?_;dsimp only [aB,aA];refine aL ?_;rw [fin (.inr ⟨by omega,hlen⟩)];rfl
theorem Mg {b:Nat} {p:Prop} [Decidable p] (h:b=if p then 1 else 0):decide ((b:Int)≠0)=decide p:=by
 subst h;by_cases hp:p<;>simp [hp]
set_option maxHeartbeats 1000000 in
theorem JM (xs ys:List Nat) (t:Nat) (hx:Dg xs) (hy:Dg ys) (ht:t<1000000000) (hl:ys.length<xs.length) (hs:xs.length<1099511627776):uC prog 251 255 1 [] [(.one (.slice 1 (rT ys)):aF),(.one (.int .u64 t):aF)] (rT xs) [.one (.bool (decide (lv xs<t*lv ys)))] (rT (pd 1000000000 xs.length (lv xs+1000000000^xs.length*(if lv xs<t*lv ys then 1 else 0)-t*lv ys))):=by
 refine CL (a1:=[]) (a2:=[.v none, .v none]) (i1:=[]) (i2:=[.v (.one (.slice 1 (rT ys))), .v (.one (.int .u64 t))]) (hints:=(fun _=>none)) fo (by kernel_rfl) func251 trivial ⟨rfl,rfl,trivial⟩ (by kernel_rfl) ?_ ?_ ?_ ?_
 ·simp [rT]
 ·simp [rT]
 ·simp [rT]
 dsimp only [aB,aA];rw [JO];dsimp only [List.map,In.env,aB,aA];refine KL rfl (List.length_map _) ?_;dsimp only [aB,aA];refine bC {g:Nat×Nat×Nat×List Nat // iH 1000000000 xs ys t g.1 g.2.1 g.2.2.1 g.2.2.2} (fun g=>[.one (.int .u64 g.1.2.1), .one (.int .i64 g.1.2.2.1), .one (.int .i64 g.1.1), .rows (rT g.1.2.2.2)]) (fun g=>xs.length-g.1.1) ⟨(0,0,0,xs),iH.init hx _ _⟩ aO.rfl (fun _=>rfl) ?_;rintro ⟨⟨i,c,b,os⟩,hI⟩;dsimp only [aB,aA] at hI ⊢;have hol:=hI.len;have hil:=hI.le;have hc:=hI.c1;have hb:=hI.b1;refine vn bB rfl ?_;dsimp only [aB,aA];refine vs _ rfl (fun h3=>?_) (fun h3=>?_)
 ·have hgx:xs[i]? = some (xs[i]'(by omega)):=List.getElem?_eq_getElem (by omega);generalize xs[i]'(by omega)=x at hgx;have hxB:=hx.get hgx;have ho:=hI.get hgx;refine vn (aP dC (List.length_map _)) rfl ?_;dsimp only [aB,aA];refine vn bB rfl ?_;dsimp only [aB,aA];refine vs _ rfl (fun h6=>?_) (fun h6=>?_)
  ·have hgy:ys[i]? = some (ys[i]'(by omega)):=List.getElem?_eq_getElem (by omega);generalize ys[i]'(by omega)=y at hgy;have hyB:=hy.get hgy;have hty:t*y≤999999999*999999999:=Nat.mul_le_mul (by omega) (by omega);obtain ⟨w,hw⟩:∃ w,c+t*y=w:=⟨_,rfl⟩
   have hwB:w<1000000000*1000000000:=by omega
   have hm:∀ z b':Nat,z<1000000000→b'≤1→z+w%1000000000+b=x+1000000000*b'→iH 1000000000 xs ys t (i+1) (w/1000000000) b' (os.set i z):=fun z b' h1 h2 h3=>by
    have:=hI.next (by omega) ht hgx (by rw [hgy];rfl) hyB h1 h2 (by rw [hw];exact h3);rw [hw] at this;exact this
   refine vn (aW dC (by omega) (by omega) hgy) rfl ?_;dsimp only [aB,aA];refine vn (bF xU) rfl ?_;dsimp only [aB,aA];refine vn (rO ⟨_,gB⟩ hU (by omega) (by omega)) rfl ?_;dsimp only [aB,aA];refine vn (rY (c:=((t*y:Nat):Int)) (by rw [←Int.natCast_mul,tK]<;>omega)) rfl ?_;dsimp only [aB,aA];refine vn (dW (c:=(w:Int)) (by rw [tK]<;>omega)) rfl ?_;dsimp only [aB,aA];refine cV rfl rfl (by omega) (by first | omega | (rw [List.length_set];omega)) ?_;refine pQ rfl rfl (by omega) (by omega) ho rfl ?_;dsimp only [aB,aA];refine vn (vS ⟨_,gB⟩ Up (by omega) (by omega)) rfl ?_;dsimp only [aB,aA];refine vn (fL (by omega) (by omega)) rfl ?_;dsimp only [aB,aA];refine vn (vS ⟨_,hU⟩ Up (by omega) (by omega)) rfl ?_;dsimp only [aB,aA];refine vn (aG (by omega) (by omega)) rfl ?_;dsimp only [aB,aA];refine vn (aG (by omega) (by omega)) rfl ?_;dsimp only [aB,aA];refine vn (Fe (by omega) (by omega) (by omega)) rfl ?_;dsimp only [aB,aA];refine vn bB rfl ?_;dsimp only [aB,aA];refine vs _ rfl (fun h21=>?_) (fun h21=>?_)
   ·refine vn (aE (by omega) (by omega)) rfl ?_;dsimp only [aB,aA];refine vn (pZ ⟨_,Up⟩ gB (by omega) (by omega)) rfl ?_;dsimp only [aB,aA];refine cV rfl rfl (by omega) (by first | omega | (rw [List.length_set];omega)) ?_;refine lR (d':=x+1000000000-w%1000000000-b) rfl rfl (by omega) (by omega) ho ?_ ?_
    ·show [aH.int .u32 _] = [aH.int .u32 _]
     congr 2;omega
    dsimp only [aB,aA];refine vn (aE (by omega) (by omega)) rfl ?_;dsimp only [aB,aA];exact aR rfl ⟨⟨(i+1,w/1000000000,1,os.set i (x+1000000000-w%1000000000-b)),hm _ 1 (by omega) (by omega) (by omega)⟩,aO.rfl,by show xs.length-(i+1)<xs.length-i;omega⟩
   refine vn (pZ ⟨_,Up⟩ gB (by omega) (by omega)) rfl ?_;dsimp only [aB,aA];refine cV rfl rfl (by omega) (by first | omega | (rw [List.length_set];omega)) ?_;refine lR (d':=x-w%1000000000-b) rfl rfl (by omega) (by omega) ho ?_ ?_
   ·show [aH.int .u32 _] = [aH.int .u32 _]
    congr 2;omega
   dsimp only [aB,aA];refine vn (aE (by omega) (by omega)) rfl ?_;dsimp only [aB,aA];exact aR rfl ⟨⟨(i+1,w/1000000000,0,os.set i (x-w%1000000000-b)),hm _ 0 (by omega) (by omega) (by omega)⟩,aO.rfl,by show xs.length-(i+1)<xs.length-i;omega⟩
  have hnone:ys[i]? = none:=List.getElem?_eq_none_iff.2 (by omega)
  have hm:∀ z b':Nat,z<1000000000→b'≤1→z+c%1000000000+b=x+1000000000*b'→iH 1000000000 xs ys t (i+1) (c/1000000000) b' (os.set i z):=fun z b' h1 h2 h3=>by
   have:=hI.next (y:=0) (by omega) ht hgx (by rw [hnone];rfl) (by omega) h1 h2 (by rw [Nat.mul_zero,Nat.add_zero];exact h3);rw [Nat.mul_zero,Nat.add_zero] at this;exact this
  refine cV rfl rfl (by omega) (by first | omega | (rw [List.length_set];omega)) ?_;refine pQ rfl rfl (by omega) (by omega) ho rfl ?_;dsimp only [aB,aA];refine vn (vS ⟨_,gB⟩ Up (by omega) (by omega)) rfl ?_;dsimp only [aB,aA];refine vn (fL (by omega) (by omega)) rfl ?_;dsimp only [aB,aA];refine vn (vS ⟨_,hU⟩ Up (by omega) (by omega)) rfl ?_;dsimp only [aB,aA];refine vn (aG (by omega) (by omega)) rfl ?_;dsimp only [aB,aA];refine vn (aG (by omega) (by omega)) rfl ?_;dsimp only [aB,aA];refine vn (Fe (by omega) (by omega) (by omega)) rfl ?_;dsimp only [aB,aA];refine vn bB rfl ?_;dsimp only [aB,aA];refine vs _ rfl (fun h42=>?_) (fun h42=>?_)
  ·refine vn (aE (by omega) (by omega)) rfl ?_;dsimp only [aB,aA];refine vn (pZ ⟨_,Up⟩ gB (by omega) (by omega)) rfl ?_;dsimp only [aB,aA];refine cV rfl rfl (by omega) (by first | omega | (rw [List.length_set];omega)) ?_;refine lR (d':=x+1000000000-c%1000000000-b) rfl rfl (by omega) (by omega) ho ?_ ?_
   ·show [aH.int .u32 _] = [aH.int .u32 _]
    congr 2;omega
   dsimp only [aB,aA];refine vn (aE (by omega) (by omega)) rfl ?_;dsimp only [aB,aA];exact aR rfl ⟨⟨(i+1,c/1000000000,1,os.set i (x+1000000000-c%1000000000-b)),hm _ 1 (by omega) (by omega) (by omega)⟩,aO.rfl,by show xs.length-(i+1)<xs.length-i;omega⟩
  refine vn (pZ ⟨_,Up⟩ gB (by omega) (by omega)) rfl ?_;dsimp only [aB,aA];refine cV rfl rfl (by omega) (by first | omega | (rw [List.length_set];omega)) ?_;refine lR (d':=x-c%1000000000-b) rfl rfl (by omega) (by omega) ho ?_ ?_
  ·show [aH.int .u32 _] = [aH.int .u32 _]
   congr 2;omega
  dsimp only [aB,aA];refine vn (aE (by omega) (by omega)) rfl ?_;dsimp only [aB,aA];exact aR rfl ⟨⟨(i+1,c/1000000000,0,os.set i (x-c%1000000000-b)),hm _ 0 (by omega) (by omega) (by omega)⟩,aO.rfl,by show xs.length-(i+1)<xs.length-i;omega⟩
 refine vn gO rfl ?_;dsimp only [aB,aA];have hie:i=xs.length:=by omega
 subst hie;obtain ⟨hb1,ho1⟩:=hI.fin (by omega) hx hl;rw [hb1] at ho1;exact HP (by rw [←show rT os=rT _ from congrArg rT ho1];rfl) (congrArg (fun q=>[aF.one (.bool q)]) (Mg hb1))
structure Dn (xs ys:List Nat) (i c:Nat) (os:List Nat):Prop where
 le:i≤xs.length
 c1:c≤1
 len:os.length=xs.length
 dg:DB 1000000000 os
 rest:os.drop i=xs.drop i
 eq:lv (os.take i)+1000000000^i*c=lv (xs.take i)+lv (ys.take i)
theorem Dn.init {xs:List Nat} (hx:Dg xs) (ys:List Nat):Dn xs ys 0 0 xs:=⟨Nat.zero_le _,by omega,rfl,hx,rfl,by simp [lv,val]⟩
theorem Dn.get {xs ys os:List Nat} {i c x:Nat} (h:Dn xs ys i c os) (hx:xs[i]? = some x):os[i]? = some x:=by
 have:=congrArg (fun l=>l[0]?) h.rest;simp only [List.getElem?_drop,Nat.add_zero] at this;rw [this,hx]
theorem Dn.next {xs ys os:List Nat} {i c x y c' z:Nat} (h:Dn xs ys i c os) (hx:xs[i]? = some x) (hy:ys[i]?.getD 0=y) (hz:z<1000000000) (hc:c'≤1) (he:z+1000000000*c'=x+c+y):Dn xs ys (i+1) c' (os.set i z):=by
 have hi:i<xs.length:=(List.getElem?_eq_some_iff.1 hx).1;refine ⟨hi,hc,by rw [List.length_set];exact h.len,h.dg.set hz,?_,?_⟩
 ·rw [List.drop_set_of_lt (by omega)];have:=congrArg (List.drop 1) h.rest
  simpa [List.drop_drop] using this
 ·have h1:=h.eq;have h2:=congrArg (fun q=>1000000000^i*q) he;have e1:lv ((os.set i z).take (i+1))=lv (os.take i)+1000000000^i*z:=lF (by rw [h.len];exact hi);have e2:lv (xs.take (i+1))=lv (xs.take i)+1000000000^i*x:=fR hx;have e3:lv (ys.take (i+1))=lv (ys.take i)+1000000000^i*y:=jH hy;rw [e1,e2,e3,Nat.pow_succ,Nat.mul_assoc];simp only [Nat.mul_add] at h2;omega
theorem Dn.fin {xs ys os:List Nat} {c:Nat} (h:Dn xs ys xs.length c os) (hl:ys.length<xs.length) :
  c=(if 1000000000^xs.length≤lv xs+lv ys then 1 else 0)∧os=pd 1000000000 xs.length (lv xs+lv ys-1000000000^xs.length*c):=by
 have h1:=h.eq;rw [List.take_of_length_le (by rw [h.len];omega),List.take_length,List.take_of_length_le (by omega)] at h1;have h2:lv os<_:=DB.lt (by omega) h.dg;rw [h.len] at h2;have hc:=h.c1
 constructor
 ·split<;>rcases (by omega:c=0∨c=1) with rfl | rfl<;>omega
 ·refine Ip (by omega) h.dg h.len ?_;show lv os=_;omega
theorem KO (xs ys:List Nat) (hx:Dg xs) (hy:Dg ys) (hl:ys.length<xs.length) (hs:xs.length<1099511627776):uC prog 252 255 1 [] [(.one (.slice 1 (rT ys)):aF)] (rT xs) [.one (.bool (decide (1000000000^xs.length≤lv xs+lv ys)))] (rT (pd 1000000000 xs.length (lv xs+lv ys-1000000000^xs.length*(if 1000000000^xs.length≤lv xs+lv ys then 1 else 0)))):=by
 refine CL (a1:=[]) (a2:=[.v none]) (i1:=[]) (i2:=[.v (.one (.slice 1 (rT ys)))]) (hints:=(fun _=>none)) fo (by kernel_rfl) func252 trivial ⟨rfl,trivial⟩ (by kernel_rfl) ?_ ?_ ?_ ?_
 ·simp [rT]
 ·simp [rT]
 ·simp [rT]
 dsimp only [aB,aA];rw [Lb];dsimp only [List.map,In.env,aB,aA];refine KL rfl (List.length_map _) ?_;dsimp only [aB,aA];refine bC {g:Nat×Nat×List Nat // Dn xs ys g.1 g.2.1 g.2.2} (fun g=>[.one (.int .u32 g.1.2.1), .one (.int .i64 g.1.1), .rows (rT g.1.2.2)]) (fun g=>xs.length-g.1.1) ⟨(0,0,xs),Dn.init hx _⟩ aO.rfl (fun _=>rfl) ?_;rintro ⟨⟨i,c,os⟩,hI⟩;dsimp only [aB,aA] at hI ⊢;have hol:=hI.len;have hil:=hI.le;have hc:=hI.c1;refine vn bB rfl ?_;dsimp only [aB,aA];refine vs _ rfl (fun h3=>?_) (fun h3=>?_)
 ·have hgx:xs[i]? = some (xs[i]'(by omega)):=List.getElem?_eq_getElem (by omega);generalize xs[i]'(by omega)=x at hgx;have hxB:=hx.get hgx;have ho:=hI.get hgx;refine cV rfl rfl (by omega) (by first | omega | (rw [List.length_set];omega)) ?_;refine pQ rfl rfl (by omega) (by omega) ho rfl ?_;dsimp only [aB,aA];refine vn (lI (by omega) (by omega)) rfl ?_;dsimp only [aB,aA];refine vn (aP dC (List.length_map _)) rfl ?_;dsimp only [aB,aA];refine vn bB rfl ?_;dsimp only [aB,aA];refine vs _ rfl (fun h9=>?_) (fun h9=>?_)
  ·have hgy:ys[i]? = some (ys[i]'(by omega)):=List.getElem?_eq_getElem (by omega);generalize ys[i]'(by omega)=y at hgy;have hyB:=hy.get hgy;refine vn (aW dC (by omega) (by omega) hgy) rfl ?_;dsimp only [aB,aA];refine vn (bF xU) rfl ?_;dsimp only [aB,aA];refine vn (lI (by omega) (by omega)) rfl ?_;dsimp only [aB,aA];refine vn eH rfl ?_;dsimp only [aB,aA];refine vs _ rfl (fun h14=>?_) (fun h14=>?_)
   ·refine vn (lH (by omega) (by omega)) rfl ?_;dsimp only [aB,aA];refine cV rfl rfl (by omega) (by first | omega | (rw [List.length_set];omega)) ?_;refine lR (d':=x+c+y-1000000000) rfl rfl (by omega) (by omega) ho ?_ ?_
    ·show [aH.int .u32 _] = [aH.int .u32 _]
     congr 2;omega
    dsimp only [aB,aA];refine vn (aE (by omega) (by omega)) rfl ?_;dsimp only [aB,aA];exact aR rfl ⟨⟨(i+1,1,os.set i (x+c+y-1000000000)),hI.next (z:=x+c+y-1000000000) (c':=1) (y:=y) hgx (by rw [hgy];rfl) (by omega) (by omega) (by omega)⟩,aO.rfl,by show xs.length-(i+1)<xs.length-i;omega⟩
   refine cV rfl rfl (by omega) (by first | omega | (rw [List.length_set];omega)) ?_;refine lR (d':=x+c+y) rfl rfl (by omega) (by omega) ho ?_ ?_
   ·show [aH.int .u32 _] = [aH.int .u32 _]
    congr 2
   dsimp only [aB,aA];refine vn (aE (by omega) (by omega)) rfl ?_;dsimp only [aB,aA];exact aR rfl ⟨⟨(i+1,0,os.set i (x+c+y)),hI.next (z:=x+c+y) (c':=0) (y:=y) hgx (by rw [hgy];rfl) (by omega) (by omega) (by omega)⟩,aO.rfl,by show xs.length-(i+1)<xs.length-i;omega⟩
  have hnone:ys[i]? = none:=List.getElem?_eq_none_iff.2 (by omega);refine vn eH rfl ?_;dsimp only [aB,aA];refine vs _ rfl (fun h25=>?_) (fun h25=>?_)
  ·refine vn (lH (by omega) (by omega)) rfl ?_;dsimp only [aB,aA];refine cV rfl rfl (by omega) (by first | omega | (rw [List.length_set];omega)) ?_;refine lR (d':=x+c-1000000000) rfl rfl (by omega) (by omega) ho ?_ ?_
   ·show [aH.int .u32 _] = [aH.int .u32 _]
    congr 2;omega
   dsimp only [aB,aA];refine vn (aE (by omega) (by omega)) rfl ?_;dsimp only [aB,aA];exact aR rfl ⟨⟨(i+1,1,os.set i (x+c-1000000000)),hI.next (z:=x+c-1000000000) (c':=1) (y:=0) hgx (by rw [hnone];rfl) (by omega) (by omega) (by omega)⟩,aO.rfl,by show xs.length-(i+1)<xs.length-i;omega⟩
  refine cV rfl rfl (by omega) (by first | omega | (rw [List.length_set];omega)) ?_;refine lR (d':=x+c) rfl rfl (by omega) (by omega) ho ?_ ?_
  ·show [aH.int .u32 _] = [aH.int .u32 _]
   congr 2
  dsimp only [aB,aA];refine vn (aE (by omega) (by omega)) rfl ?_;dsimp only [aB,aA];exact aR rfl ⟨⟨(i+1,0,os.set i (x+c)),hI.next (z:=x+c) (c':=0) (y:=0) hgx (by rw [hnone];rfl) (by omega) (by omega) (by omega)⟩,aO.rfl,by show xs.length-(i+1)<xs.length-i;omega⟩
 refine vn gO rfl ?_;dsimp only [aB,aA];have hie:i=xs.length:=by omega
 subst hie;obtain ⟨hb1,ho1⟩:=hI.fin hl;rw [hb1] at ho1;exact HP (by rw [←show rT os=rT _ from congrArg rT ho1];rfl) (congrArg (fun q=>[aF.one (.bool q)]) (Mg hb1))
open Go Go.Proofs Tryz Ord
def aj6:Tr:=.need (.prim [(W 52 0)] none) (.unOp .not 4 (tT 120)) 4 false (.split (.u 55 0) (.need (.rop 54 255 1 (some ((.u 27 0),(.u 47 0))) [] [(W 14 0)] [none]) (.call ⟨.value (.func 252),#[(tT 124),(tT 125)],#[33,33]⟩) 4 true (.need (.prim [(W 53 0),(.one (.c (.k (.int .u64 1))))] none) (.binOp .sub 254 (tT 122) (.const (.int .u64 1)) 254) 254 false (.back 1 [lV 56 0,lV 58 0, .row 57]))) (.need (.prim [(W 53 0)] none) (.convert 254 255 (tT 129)) 255 false (.need (.idx 28 (.u 27 0)) (.indexAddr 33 (tT 127) (tT 128)) 0 false (.need (.strow 28 1 (.u 27 0) 0 [(.u 56 0)]) (.store 255 (tT 131) (tT 130)) 0 false (aU .sub 3 77 1 27 0 3 (.back 0 [lV 58 0, .row 57, .row 54]))))))
def am4:Tr:=.need (.rop 29 255 1 (some ((.u 27 0),(.u 47 0))) [] [(W 14 0),(W 45 0)] [none]) (.call ⟨.value (.func 251),#[(tT 116),(tT 117),(tT 118)],#[33,33,254]⟩) 4 true (.split (.u 50 0) (.loop 1 [(.w (.one (.c (.k (.bool false))))),lV 45 0, .row 51] aj6) (.need (.prim [(W 45 0)] none) (.convert 254 255 (tT 129)) 255 false (.need (.idx 28 (.u 27 0)) (.indexAddr 33 (tT 127) (tT 128)) 0 false (.need (.strow 28 1 (.u 27 0) 0 [(.u 52 0)]) (.store 255 (tT 131) (tT 130)) 0 false (aU .sub 3 77 1 27 0 3 (.back 0 [lV 54 0, .row 53, .row 51]))))))
def ah4:Tr:=bJ .quo 254 96 102 39 0 43 0 254 (.need (.prim [(W 44 0),(.one (.c (.k (.int .u64 999999999))))] none) (.call ⟨.builtin .min,#[(tT 103),(.const (.int .u64 999999999))],#[254,254]⟩) 254 false (bJ .add 3 107 108 27 0 15 0 3 (aU .add 3 109 1 46 0 3 (bJ .add 3 111 112 27 0 15 0 3 (aU .add 3 113 1 48 0 3 (.need (.view 29 (.u 27 0) (.u 47 0) (.u 49 0)) (.slice 33 (tT 105) (some (tT 106)) (some (tT 110)) (some (tT 114))) 33 false am4))))))
def ah9:Tr:=.need (.ldrow 29 (.u 36 0) 0 1 false) (.load 255 (tT 92)) 255 false (.need (.prim [(W 37 0)] none) (.convert 255 254 (tT 93)) 254 false (bJ .add 254 86 94 34 0 38 0 254 (aU .sub 3 98 1 15 0 3 (eD 14 0 40 0 33 97 99 (dI 41 0 none 255 100 (.need (.prim [(W 42 0)] none) (.convert 255 254 (tT 101)) 254 false ah4))))))
def aa8:Tr:=.need (.idx 29 (.u 31 0)) (.indexAddr 33 (tT 79) (tT 82)) 0 false (.need (.ldrow 29 (.u 31 0) 0 1 false) (.load 255 (tT 83)) 255 false (.need (.prim [(W 32 0)] none) (.convert 255 254 (tT 84)) 254 false (.need (.prim [(W 33 0),(.one (.c (.k (.int .u64 1000000000))))] none) (.binOp .mul 254 (tT 85) (.const (.int .u64 1000000000)) 254) 254 false (bJ .add 3 88 89 27 0 15 0 3 (aU .sub 3 90 1 35 0 3 (.need (.idx 29 (.u 36 0)) (.indexAddr 33 (tT 87) (tT 91)) 0 false ah9))))))
def ay9:Tr:=.loop 0 [lV 26 0, .row 24, .row 21] (aU .geq 3 75 0 27 0 4 (.split (.u 30 0) (bJ .add 3 80 81 27 0 15 0 3 aa8) (aK 197 [(.one (.c (.sr 1 29)))] [(some 1)] [133] [33] 35 false (aK 193 [(G1 31),(G1 13)] [(some 1),(some 1)] [134,135] [35,35] 251 false (aK 197 [(.one (.c (.sr 1 28)))] [(some 1)] [139] [33] 35 false (.ret [(G1 34),(G1 32)]))))))
def an9:Tr:=aK 118 [(G1 0),(G1 13)] [(some 1)] [62,63] [35,35] 35 true (.need (.rop 18 255 1 none [] [(W 19 0)] [none]) (.call ⟨.builtin .copy,#[(tT 61),(tT 65)],#[33,33]⟩) 3 false (.need (.lenrow 21) (.call ⟨.builtin .len,#[(tT 67)],#[33]⟩) 3 false (bJ .sub 3 68 69 22 0 15 0 3 (.need (.make [(.int .u32 0)] 4 (.u 23 0) (.u 23 0)) (.makeSlice 33 (tT 70) (tT 70)) 33 false (.need (.lenrow 24) (.call ⟨.builtin .len,#[(tT 72)],#[33]⟩) 3 false (aU .sub 3 73 1 25 0 3 ay9))))))
def ar7:Tr:=.need (.prim [(W 11 0)] none) (.convert 255 254 (tT 47)) 254 false (aK 195 [(W 12 0)] [(some 1)] [48] [254] 35 true (aK 118 [(G1 1),(G1 13)] [(some 1)] [50,51] [35,35] 35 true (cB 14 0 54 33 (cB 0 0 57 33 (aU .add 3 58 1 16 0 3 (.need (.make [(.int .u32 0)] 4 (.u 17 0) (.u 17 0)) (.makeSlice 33 (tT 59) (tT 59)) 33 false an9))))))
def aC3:Tr:=.split (.u 5 0) (.need (.prim [(W 1 0),(WK 0)] none) (.indexAddr 33 (tT 32) (.const (I3 0))) 0 false (dI 6 0 none 255 33 (aK 250 [(G1 0),(W 7 0)] [(some 1),(some 1)] [30,34] [35,255] 251 true (.ret [(G1 8),(G1 9)])))) (cB 1 0 41 33 (aU .sub 3 42 1 6 0 3 (eD 1 0 7 0 33 39 43 (dI 8 0 none 255 44 (.need (.prim [(W 9 0),(.one (.c (.k (.int .u32 1))))] none) (.binOp .add 255 (tT 45) (.const (.int .u32 1)) 255) 255 false (.need (.prim [(.one (.c (.k (.int .u32 1000000000)))),(W 10 0)] none) (.binOp .quo 255 (.const (.int .u32 1000000000)) (tT 46) 255) 255 false ar7))))))
def aV4:Tr:=aK 119 [(G1 0),(G1 1)] [none] [19,20] [35,35] 3 true (aU .lss 3 21 0 2 0 4 (.split (.u 3 0) (.ret [(.agg [tN]),(G1 0)]) (cB 1 0 27 33 (aU .eql 3 28 1 4 0 4 aC3))))
theorem Pu:aN prog f193 (fun _=>none) [.v (some 1), .v (some 1)]=aV4:=by kernel_rfl
theorem sO {a b:Int}:eE a b<0↔a<b:=by unfold eE;split<;>(try split)<;>omega
theorem jI {n:Nat} (h:n=0):aH.Sub (.exact (.slice none 0 0)) (dT n):=by
 subst h;have:dg 0 = []:=cU _;rw [dT,this];exact aH.Sub.nil
theorem oW {n:Nat} (h0:0<n) (h:n<1000000000):dg n = [n]:=by
 rw [dg,fE (by omega) (by omega),Nat.mod_eq_of_lt h,Nat.div_eq_of_lt h,cU]
theorem CM {n k:Nat} (h:n<1000000000^k):(dg n).length≤k:=jG (by omega) h
theorem Fs (n:Nat):n<1000000000^(dg n).length:=kG (by omega) n
theorem SM {n:Nat} (h:n≠0):1000000000^((dg n).length-1)≤n:=fS (by omega) h
theorem PH {n i:Nat} (h:i<(dg n).length):(dg n)[i]? = some (n/1000000000^i%1000000000):=by
 have e:(dg n)[i]? = (pd 1000000000 (dg n).length n)[i]?:=congrArg (fun l:List Nat=>l[i]?) (Ly (by omega) n);rw [e,Be _ h]
theorem Je {n:Nat} (h:0<n):1000000000^(n-1)*1000000000=1000000000^n:=by
 obtain ⟨k,rfl⟩:∃ k,n=k+1:=⟨n-1,by omega⟩
 rw [Nat.add_sub_cancel,Nat.pow_succ]
theorem ai5 {r1 r2 vt:Nat} (h1:r1<1000000000) (h2:r2<1000000000):(r1*1000000000+r2)/vt<1000000000000000000:=
 Nat.lt_of_le_of_lt (Nat.div_le_self _ _) (by omega)
theorem RO (q:Nat):min (q:Int) 999999999=((min q 999999999:Nat):Int):=by omega
theorem MO {n:Nat} (h:n<1000000000):(n:Int)<4294967296:=by omega
theorem SS {n:Nat} (h:n<1000000000000000000):(n:Int)<18446744073709551616:=by omega
theorem oL (n:Nat):(0:Int)≤(n:Int):=Int.natCast_nonneg _
theorem ZD (i:Nat):((i+1:Nat):Int)-1-1=(i:Int)-1:=by omega
theorem ax6 {P:Program} {T U ty:Nat} {x y:Operand} {a b:Nat} {a':Int} (ha':a'=a) (hb:0<b) (hc:(a/b:Nat)<1000000000000000000):aX P (.binOp .quo T x y U) ty [.one (.int .u64 a'), .one (.int .u64 b)] (.one (.int .u64 ((a/b:Nat):Int))):=by
 subst ha';exact pY (by omega) (by rw [Int.tdiv_eq_ediv_of_nonneg (oL _),←Int.natCast_ediv,tK (oL _) (SS hc)])
theorem VW (a b:Nat) (hb0:0<b) (hb:b<1000000000) (hs:(dg a).length<549755813888):aM prog 193 [(mT a:aF),(mT b:aF)] (.ret [mT (a/b),mT (a%b)]):=by
 refine aD (args:=[.v (some 1), .v (some 1)]) (ins:=[.v (mT a), .v (mT b)]) (hints:=(fun _=>none)) fo (by kernel_rfl) func193 ⟨rfl,rfl,trivial⟩ ?_;rw [Pu];dsimp only [List.map,In.env,aB,aA];have e1:=oW hb0 hb;refine aC (tQ a b (by rw [e1];simp;omega)) rfl ?_;dsimp only [aB,aA];refine vn bB rfl ?_;dsimp only [aB,aA];rw [show decide (eE (a:Int) (b:Int)<0)=decide (a<b) by rw [decide_eq_decide,sO];omega];refine vs _ rfl (fun h2=>?_) (fun h2=>?_)
 ·refine eG ⟨⟨jI (Nat.div_eq_of_lt h2),trivial⟩,⟨?_,trivial⟩,trivial⟩;rw [Nat.mod_eq_of_lt h2];exact aH.Sub.same
 refine vn (aP dC (List.length_map _)) rfl ?_;dsimp only [aB,aA];refine vn bL rfl ?_;dsimp only [aB,aA];refine vs _ rfl (fun h6=>?_) (fun h6=>?_)
 ·refine vn (aW dC (by omega) (by omega) (show (dg b)[0]? = some b by rw [e1];rfl)) rfl ?_;dsimp only [aB,aA];refine vn (bF xU) rfl ?_;dsimp only [aB,aA];refine aC (Ir a b hb0 hb (by omega)) rfl ?_;exact aL rfl
 exact absurd (by rw [e1];simp) h6
structure Js (S V L m n:Nat) (os:List Nat) (R:Nat):Prop where
 le:n≤m
 len:os.length=m
 dg:Dg os
 eq:S=R+V*1000000000^n*lv (os.drop n)
 lt:R/1000000000^n<V
 fit:R<1000000000^L
theorem Js.next {S V L m n R g:Nat} {os:List Nat} (h:Js S V L m (n+1) os R) (hV:0<V) (hg:g=R/1000000000^n/V) :
  Js S V L m n (os.set n g) (R%1000000000^n+1000000000^n*(R/1000000000^n%V)):=by
 obtain ⟨h1,h2,h3,h4⟩:=BX (B:=1000000000) (by omega) hV h.eq h.lt;have hn:=h.le;have hlen:=h.len;subst hg;refine ⟨by omega,by rw [List.length_set];exact hlen,h.dg.set h2,?_,h4,?_⟩
 ·rw [Ge (x:=R/1000000000^n/V) (by rw [List.getElem?_set_self (by omega)]),List.drop_set_of_lt (by omega)];exact h3
 ·refine Nat.lt_of_le_of_lt ?_ h.fit;have:=Nat.mod_add_div R (1000000000^n);have h5:=Nat.mul_le_mul_left (1000000000^n) (Nat.mod_le (R/1000000000^n) V);omega
def Xm (W X V:Nat) (p:Bool×Nat):Nat:=if p.1 then X%V else X+W-p.2*V
theorem av0 {R i nv:Nat} (hnv:0<nv) (h:R/1000000000^(i+nv)<1000000000):R/1000000000^(i+nv)%1000000000*1000000000+R/1000000000^(i+nv-1)%1000000000=R/1000000000^i/1000000000^(nv-1):=by
 rw [Nat.mod_eq_of_lt h,Nat.div_div_eq_div_mul,←Nat.pow_add,show i+(nv-1)=i+nv-1 by omega]
 have e:R/1000000000^(i+nv)=R/1000000000^(i+nv-1)/1000000000:=by
  rw [Nat.div_div_eq_div_mul,←Nat.pow_succ];congr 2;omega
 rw [e];have:=Nat.div_add_mod (R/1000000000^(i+nv-1)) 1000000000;omega
theorem NZ {b s top:Nat} (hs0:0<s) (hs:s*(top+1)≤1000000000) (htop:top=b/1000000000^((dg b).length-1)) (hb:b≠0):(dg (b*s)).length=(dg b).length:=by
 have hp:0<1000000000^((dg b).length-1):=Nat.pow_pos (by omega)
 have hl:0<(dg b).length:=by
  rcases Nat.eq_zero_or_pos (dg b).length with h | h
  ·exact (hb (zL.1 (List.eq_nil_of_length_eq_zero h))).elim
  ·exact h
 apply Nat.le_antisymm
 ·apply CM
  have h1:b<(top+1)*1000000000^((dg b).length-1):=by
   rw [htop,Nat.mul_comm];exact Nat.lt_mul_div_succ b hp
  calc b*s<(top+1)*1000000000^((dg b).length-1)*s:=Nat.mul_lt_mul_of_pos_right h1 hs0
   _=s*(top+1)*1000000000^((dg b).length-1):=by simp only [Nat.mul_comm,Nat.mul_left_comm,Nat.mul_assoc]
   _≤1000000000*1000000000^((dg b).length-1):=Nat.mul_le_mul_right _ hs
   _=1000000000^(dg b).length:=by rw [Nat.mul_comm,←Nat.pow_succ];congr 1;omega
 ·exact kW (Nat.le_mul_of_pos_right b hs0)
set_option maxHeartbeats 1000000 in
theorem BL (a b:Nat) (hb0:0<b) (hs:(dg a).length+(dg b).length<274877906944):aM prog 193 [(mT a:aF),(mT b:aF)] (.ret [mT (a/b),mT (a%b)]):=by
 refine aD (args:=[.v (some 1), .v (some 1)]) (ins:=[.v (mT a), .v (mT b)]) (hints:=(fun _=>none)) fo (by kernel_rfl) func193 ⟨rfl,rfl,trivial⟩ ?_;rw [Pu];dsimp only [List.map,In.env,aB,aA];refine aC (tQ a b (by omega)) rfl ?_;dsimp only [aB,aA];refine vn bB rfl ?_;dsimp only [aB,aA];rw [show decide (eE (a:Int) (b:Int)<0)=decide (a<b) by rw [decide_eq_decide,sO];omega];refine vs _ rfl (fun h2=>?_) (fun h2=>?_)
 ·refine eG ⟨⟨jI (Nat.div_eq_of_lt h2),trivial⟩,⟨?_,trivial⟩,trivial⟩;rw [Nat.mod_eq_of_lt h2];exact aH.Sub.same
 have hbl:0<(dg b).length:=by
  rcases Nat.eq_zero_or_pos (dg b).length with h | h
  ·exact (Nat.ne_of_gt hb0 (zL.1 (List.eq_nil_of_length_eq_zero h))).elim
  ·exact h
 have hlen:=kW (Nat.le_of_not_lt h2);refine vn (aP dC (List.length_map _)) rfl ?_;dsimp only [aB,aA];refine vn bL rfl ?_;dsimp only [aB,aA];refine vs _ rfl (fun h6=>?_) (fun h6=>?_)
 ·have hb:b<1000000000:=by
   have:=Fs b;rw [show (dg b).length=1 by omega] at this;omega
  have e1:=oW hb0 hb;refine vn (aW dC (by omega) (by omega) (show (dg b)[0]? = some b by rw [e1];rfl)) rfl ?_;dsimp only [aB,aA];refine vn (bF xU) rfl ?_;dsimp only [aB,aA];refine aC (Ir a b hb0 hb (by omega)) rfl ?_;exact aL rfl
 obtain ⟨top,htop⟩:∃ t,(dg b)[(dg b).length-1]? = some t:=⟨_,List.getElem?_eq_getElem (by omega)⟩
 have htB:=(kF b).get htop
 have htv:top=b/1000000000^((dg b).length-1):=by
  have h1:=PH (n:=b) (i:=(dg b).length-1) (by omega);rw [htop] at h1;simp only [Option.some.injEq] at h1;rw [h1,Nat.mod_eq_of_lt];rw [Nat.div_lt_iff_lt_mul (Nat.pow_pos (by omega)),Nat.mul_comm,Je hbl];exact Fs b
 have ht0:0<top:=by
  rw [htv];exact Nat.div_pos (SM (by omega)) (Nat.pow_pos (by omega))
 obtain ⟨s,hs'⟩:∃ s,1000000000/(top+1)=s:=⟨_,rfl⟩
 have hsle:s*(top+1)≤1000000000:=by rw [←hs'];exact Nat.div_mul_le_self _ _
 have hs0:0<s:=by rw [←hs'];exact Nat.div_pos (by omega) (by omega)
 have hsB:s<1000000000:=by
  rw [←hs'];exact Nat.div_lt_self (by omega) (by omega)
 have hvl:=NZ hs0 hsle htv (by omega);refine vn (aP dC (List.length_map _)) rfl ?_;dsimp only [aB,aA];refine vn (aG (by omega) (by omega)) rfl ?_;dsimp only [aB,aA];refine vn (aW dC (by omega) (by omega) htop) rfl ?_;dsimp only [aB,aA];refine vn (bF xU) rfl ?_;dsimp only [aB,aA];refine vn (lI (by omega) (by omega)) rfl ?_;dsimp only [aB,aA];refine vn (pY (c:=(s:Int)) (by omega) (by rw [Int.tdiv_eq_ediv_of_nonneg (by omega),show ((1000000000:Int)/((top:Int)+1))=((1000000000/(top+1):Nat):Int) by simp,hs',zN]<;>omega)) rfl ?_;dsimp only [aB,aA];refine vn (rO ⟨_,gB⟩ hU (by omega) (by omega)) rfl ?_;dsimp only [aB,aA];refine aC (iE s (by omega)) rfl ?_;dsimp only [aB,aA];refine aC (jK b s (by rw [oW hs0 hsB];simp;omega)) rfl ?_;obtain ⟨V,hV⟩:∃ V,b*s=V:=⟨_,rfl⟩
 obtain ⟨S,hS⟩:∃ S,a*s=S:=⟨_,rfl⟩
 rw [hV] at hvl ⊢;have hV0:0<V:=by rw [←hV];exact Nat.mul_pos hb0 hs0
 dsimp only [aB,aA];refine vn (aP dC (List.length_map _)) rfl ?_;dsimp only [aB,aA];refine vn (aP dC (List.length_map _)) rfl ?_;dsimp only [aB,aA];refine vn (aE (by omega) (by omega)) rfl ?_;dsimp only [aB,aA];refine CZ (n:=(dg a).length+1) (f:=fun d:Nat=>[aH.int .u32 (d:Int)]) 0 rfl rfl (by omega) rfl (by omega) (by simp only [maxLen];omega) ?_;dsimp only [aB,aA];refine aC (jK a s (by rw [oW hs0 hsB];simp;omega)) rfl ?_;rw [hS]
 have hSlt:S<1000000000^((dg a).length+1):=by
  rw [←hS,Nat.pow_succ];exact Nat.mul_lt_mul'' (Fs a) hsB
 have hSle:=CM hSlt
 have hSV:S<V*1000000000^((dg a).length+1-(dg b).length):=by
  rw [←hS,←hV];have h1:=Fs a;have h2:=SM (n:=b) (by omega)
  have h3:1000000000^(dg a).length≤b*1000000000^((dg a).length+1-(dg b).length):=by
   refine Nat.le_trans (Nat.le_of_eq ?_) (Nat.mul_le_mul_right _ h2);rw [←Nat.pow_add];congr 1;omega
  calc a*s<b*1000000000^((dg a).length+1-(dg b).length)*s:=Nat.mul_lt_mul_of_pos_right (Nat.lt_of_lt_of_le h1 h3) hs0
   _=_:=by simp only [Nat.mul_comm,Nat.mul_left_comm,Nat.mul_assoc]
 obtain ⟨L,hL⟩:∃ L,(dg a).length+1=L:=⟨_,rfl⟩
 rw [hL] at hSlt hSle hSV;dsimp only [aB,aA];refine SY (xs:=dg S) (zs:=List.replicate ((dg a).length+1) 0) (ws:=pd 1000000000 L S) (fun _=>rfl) rfl rfl dC (by simp;omega) (by simp) (Ip (by omega) ((DB.jT (by omega) S).append ((DB.rep (by omega) _).drop _)) (by simp only [List.length_append,List.length_drop,List.length_replicate];show (dg S).length+_=_;omega) (by rw [List.drop_replicate,iJ,Mv];show lv (dg S)+_=_;rw [gG,Nat.mul_zero,Nat.add_zero])) ?_;dsimp only [aB,aA];refine KL (n:=L) rfl (by simp) ?_;dsimp only [aB,aA];refine vn (aG (by omega) (by omega)) rfl ?_;dsimp only [aB,aA];refine CZ (n:=L-(dg b).length) (f:=fun d:Nat=>[aH.int .u32 (d:Int)]) 0 rfl rfl (by rw [hvl];omega) rfl (by omega) (by simp only [maxLen];omega) ?_;dsimp only [aB,aA];refine KL (n:=L-(dg b).length) rfl (by simp) ?_;dsimp only [aB,aA];refine vn (aG (by omega) (by omega)) rfl ?_;dsimp only [aB,aA];obtain ⟨m,hm⟩:∃ m,L-(dg b).length=m:=⟨_,rfl⟩
 rw [hm] at hSV ⊢;rw [hvl];obtain ⟨nv,hnv⟩:∃ n,(dg b).length=n:=⟨_,rfl⟩
 rw [hnv] at hvl htv htop hbl hlen hm hs ⊢;refine bC {g:Nat×List Nat×Nat // Js S V L m g.1 g.2.1 g.2.2} (fun g=>[.one (.int .i64 ((g.1.1:Int)-1)), .rows (rT g.1.2.1), .rows (rT (pd 1000000000 L g.1.2.2))]) (fun g=>g.1.1) ⟨(m,List.replicate m 0,S),⟨Nat.le_refl _,by simp,Dg.rep _,by simp [lv,val],by rw [Nat.div_lt_iff_lt_mul (Nat.pow_pos (by omega))];exact hSV,hSlt⟩⟩ aO.rfl (fun _=>rfl) ?_;rintro ⟨⟨n,os,R⟩,hI⟩;dsimp only [aB,aA] at hI ⊢;have hnm:=hI.le;have hol:=hI.len;have hfit:=hI.fit;have hLs:L<549755813888:=by omega
 have hnvL:nv<L:=by omega
 refine vn eH rfl ?_;dsimp only [aB,aA];refine vs _ rfl (fun h33=>?_) (fun h33=>?_)
 ·clear htop htB htv ht0 hs' hsle hSV hSlt hSle hs hlen hL hnv h2 h6 hS hV hsB hs0;obtain ⟨i,rfl⟩:∃ i,n=i+1:=⟨n-1,by omega⟩
  obtain ⟨hX1,hX2,_,_⟩:=BX (B:=1000000000) (by omega) hV0 hI.eq hI.lt;obtain ⟨X,hX⟩:∃ X,R/1000000000^i=X:=⟨_,rfl⟩
  have hVlt:V<1000000000^nv:=by rw [←hvl];exact Fs V
  have hXlt:X<1000000000^(nv+1):=by
   rw [Nat.pow_succ,←hX];exact Nat.lt_trans hX1 (Nat.mul_lt_mul_of_pos_right hVlt (by omega))
  have hRtop:R/1000000000^(i+(nv+1))=0:=by
   rw [Nat.pow_add,←Nat.div_div_eq_div_mul,hX];exact Nat.div_eq_of_lt hXlt
  have hRnv:R/1000000000^(i+nv)<1000000000:=by
   rw [Nat.pow_add,←Nat.div_div_eq_div_mul,hX,Nat.div_lt_iff_lt_mul (Nat.pow_pos (by omega)),Nat.mul_comm,←Nat.pow_succ];exact hXlt
  have htwo:=av0 hbl hRnv;rw [hX] at htwo hX1 hX2;obtain ⟨r1,hr1⟩:∃ r,R/1000000000^(i+nv)%1000000000=r:=⟨_,rfl⟩
  obtain ⟨r2,hr2⟩:∃ r,R/1000000000^(i+nv-1)%1000000000=r:=⟨_,rfl⟩
  have hr1B:r1<1000000000:=by rw [←hr1];exact Nat.mod_lt _ (by omega)
  have hr2B:r2<1000000000:=by rw [←hr2];exact Nat.mod_lt _ (by omega)
  have hg1:(pd 1000000000 L R)[i+nv]? = some r1:=by rw [Be _ (by omega),hr1]
  have hg2:(pd 1000000000 L R)[i+nv-1]? = some r2:=by rw [Be _ (by omega),hr2]
  rw [hr1,hr2] at htwo;obtain ⟨vt,hvt⟩:∃ t,V/1000000000^(nv-1)=t:=⟨_,rfl⟩
  have hvtB:vt<1000000000:=by
   rw [←hvt,Nat.div_lt_iff_lt_mul (Nat.pow_pos (by omega)),Nat.mul_comm,Je hbl];exact hVlt
  have hvt0:0<vt:=by
   have:=SM (n:=V) (by omega);rw [hvl] at this;rw [←hvt];exact Nat.div_pos this (Nat.pow_pos (by omega))
  have hgv:(dg V)[nv-1]? = some vt:=by
   rw [PH (by omega),hvt,Nat.mod_eq_of_lt hvtB]
  obtain ⟨g,hg⟩:∃ g,min ((r1*1000000000+r2)/vt) 999999999=g:=⟨_,rfl⟩
  have hgB:g<1000000000:=by rw [←hg];exact Nat.lt_of_le_of_lt (Nat.min_le_right _ _) (by decide)
  have hgq:X/V≤g:=by
   rw [←hg];have h1:=PW (B:=1000000000) (X:=X) (V:=V) (n:=nv-1) (by rw [hvt];exact hvt0);rw [hvt,←htwo] at h1;exact Nat.le_min.2 ⟨h1,Nat.le_of_lt_succ hX2⟩
  have hpdl:(pd 1000000000 L R).length=L:=dS _ _;refine vn (aE (by omega) (by omega)) rfl ?_;dsimp only [aB,aA];refine cV rfl rfl (by omega) (by rw [dS];omega) ?_;refine pQ rfl rfl (by omega) (by omega) hg1 rfl ?_;dsimp only [aB,aA];refine vn (rO ⟨_,gB⟩ hU (by omega) (by omega)) rfl ?_;dsimp only [aB,aA];refine vn (OB (by omega) (by omega)) rfl ?_;dsimp only [aB,aA];refine vn (aE (by omega) (by omega)) rfl ?_;dsimp only [aB,aA];refine vn (aG (by omega) (by omega)) rfl ?_;dsimp only [aB,aA];refine cV rfl rfl (by omega) (by rw [dS];omega) ?_;refine pQ rfl rfl (by omega) (by omega) hg2 rfl ?_;dsimp only [aB,aA];refine vn (rO ⟨_,gB⟩ hU (by omega) (by omega)) rfl ?_;dsimp only [aB,aA];refine vn (NP (by omega) (by omega)) rfl ?_;dsimp only [aB,aA];refine vn (aG (by omega) (by omega)) rfl ?_;dsimp only [aB,aA];refine vn (aW dC (by omega) (by omega) hgv) rfl ?_;dsimp only [aB,aA];refine vn (bF xU) rfl ?_;dsimp only [aB,aA];refine vn (rO ⟨_,gB⟩ hU (by omega) (by omega)) rfl ?_;dsimp only [aB,aA];refine vn (ax6 (a:=r1*1000000000+r2) (by rw [Int.natCast_add,Int.natCast_mul];rfl) hvt0 (ai5 hr1B hr2B)) rfl ?_;dsimp only [aB,aA];refine vn Si rfl ?_;dsimp only [aB,aA];rw [RO,hg];refine vn (aE (by omega) (by omega)) rfl ?_;dsimp only [aB,aA];refine vn (aE (by omega) (by omega)) rfl ?_;dsimp only [aB,aA];refine vn (aE (by omega) (by omega)) rfl ?_;dsimp only [aB,aA];refine vn (aE (by omega) (by omega)) rfl ?_;dsimp only [aB,aA];refine aI2 (n:=i) (m:=i+nv+1) rfl (by show aH.int .i64 _=aH.int .i64 _;congr 1;omega) (by show aH.int .i64 _=aH.int .i64 _;congr 1;omega) (by show aH.int .i64 _=aH.int .i64 _;congr 1;omega) (by omega) (by simp;omega) ?_
  have hgV:g*V<1000000000^(nv+1):=by
   rw [Nat.pow_succ,Nat.mul_comm (1000000000^nv)];exact Nat.lt_of_lt_of_le (Nat.mul_lt_mul_of_pos_right (by omega:g<1000000000) hV0) (Nat.mul_le_mul_left _ (Nat.le_of_lt hVlt))
  have hview:∀ Y,Y<1000000000^(nv+1)→((rT (pd 1000000000 L (R%1000000000^i+1000000000^i*Y))).take (i+nv+1)).drop i=rT (pd 1000000000 (nv+1) Y):=by
   intro Y hY;rw [rT,rT,←List.map_take,←List.map_drop,GX _ (by omega),Gu,show i+nv+1-i=nv+1 by omega]
   congr 2
   rw [Nat.add_mul_div_left _ _ (Nat.pow_pos (by omega)),Nat.div_eq_of_lt (Nat.mod_lt _ (Nat.pow_pos (by omega))),Nat.zero_add]
  have hfitY:∀ Y,Y<1000000000^(nv+1)→R%1000000000^i+1000000000^i*Y<1000000000^L:=by
   intro Y hY;have h1:R%1000000000^i<1000000000^i:=Nat.mod_lt _ (Nat.pow_pos (by omega));have h2:1000000000^i*(Y+1)≤1000000000^i*1000000000^(nv+1):=Nat.mul_le_mul_left _ hY;rw [←Nat.pow_add] at h2;have h3:1000000000^(i+(nv+1))≤1000000000^L:=Nat.pow_le_pow_right (by omega) (by omega);rw [Nat.mul_add,Nat.mul_one] at h2;omega
  have hput:∀ Y Z,Y<1000000000^(nv+1)→Z<1000000000^(nv+1)→(rT (pd 1000000000 L (R%1000000000^i+1000000000^i*Y))).take i++rT (pd 1000000000 (nv+1) Z)++(rT (pd 1000000000 L (R%1000000000^i+1000000000^i*Y))).drop (i+(rT (pd 1000000000 (nv+1) Y)).length)=rT (pd 1000000000 L (R%1000000000^i+1000000000^i*Z)):=by
   intro Y Z hY hZ;have hp:0<1000000000^i:=Nat.pow_pos (by omega);have hm:R%1000000000^i<1000000000^i:=Nat.mod_lt _ hp;rw [cD,dS,rT,rT,rT,←List.map_take,←List.map_drop,←List.map_append,←List.map_append,OK (by omega) (by omega) (hfitY Y hY) hZ]
   have e:(R%1000000000^i+1000000000^i*Y)/1000000000^(i+(nv+1))=0:=by
    rw [Nat.pow_add 1000000000 i,←Nat.div_div_eq_div_mul,Nat.add_mul_div_left _ _ hp,Nat.div_eq_of_lt hm,Nat.zero_add];exact Nat.div_eq_of_lt hY
   rw [e,Nat.add_mul_mod_self_left,Nat.mod_eq_of_lt hm,Nat.mul_zero,Nat.add_zero]
  have hRX:R=R%1000000000^i+1000000000^i*X:=by rw [←hX];exact (Nat.mod_add_div _ _).symm
  have hsub:=JM (pd 1000000000 (nv+1) X) (dg V) g (Cs (by omega) _ _) (kF V) hgB (by rw [dS];omega) (by rw [dS];omega);have hlvX:∀ Y,Y<1000000000^(nv+1)→lv (pd 1000000000 (nv+1) Y)=Y:=fun Y hY=>by rw [lv,yS,Nat.mod_eq_of_lt hY]
  rw [hlvX X hXlt,gG,dS] at hsub
  have hgive:∀ Y,Y<1000000000^(nv+1)→uC prog 252 255 1 [] [.one (.slice 1 (rT (dg V)))] (rT (pd 1000000000 (nv+1) Y)) [.one (.bool (decide (1000000000^(nv+1)≤Y+V)))] (rT (pd 1000000000 (nv+1) (Y+V-1000000000^(nv+1)*(if 1000000000^(nv+1)≤Y+V then 1 else 0)))):=by
   intro Y hY;have h1:=KO (pd 1000000000 (nv+1) Y) (dg V) (Cs (by omega) _ _) (kF V) (by rw [dS];omega) (by rw [dS];omega);rw [hlvX Y hY,gG,dS] at h1;exact h1
  have hok:os[i]? = some (os[i]'(by omega)):=List.getElem?_eq_getElem (by omega);have hVB:V<1000000000^(nv+1):=Nat.lt_of_lt_of_le hVlt (Nat.pow_le_pow_right (by omega) (by omega));have hXV:X%V<1000000000^(nv+1):=Nat.lt_trans (Nat.mod_lt _ hV0) hVB
  have hN:Js S V L m i (os.set i (X/V)) (R%1000000000^i+1000000000^i*(X%V)):=by
   have:=hI.next hV0 rfl;rw [hX] at this;exact this
  clear hI htwo hg hr1 hr2 hg1 hg2 hvt hgv hvt0 hvtB hX hRnv hRtop hr1B hr2B hpdl hlvX hfit
  refine OD (n:=i) (vs:=rT (pd 1000000000 L (R%1000000000^i+1000000000^i*(X+1000000000^(nv+1)*(if X<g*V then 1 else 0)-g*V)))) (ts:=rT (pd 1000000000 L R)) (us:=rT (pd 1000000000 (nv+1) X)) rfl ⟨.i64, .i64,i+nv+1,(by show aH.int .i64 _=aH.int .i64 _;congr 1;omega),(by show aH.int .i64 _=aH.int .i64 _;congr 1;omega),by omega,by simp;omega,by rw [←hview X hXlt,←hRX]⟩ (by simp [pd]) rfl (sW rfl hsub) (by
   conv=>lhs;rw [hRX]
   exact hput X _ hXlt (by split<;>omega)) ?_
  dsimp only [aB,aA];refine vs _ rfl (fun h57=>?_) (fun h57=>?_)
  ·refine bC {p:Bool×Nat // if p.1 then p.2=X/V else X<p.2*V∧p.2<1000000000} (fun p=>[.one (.bool p.1.1), .one (.int .u64 p.1.2), .rows (rT (pd 1000000000 L (R%1000000000^i+1000000000^i*Xm (1000000000^(nv+1)) X V p.1)))]) (fun p=>if p.1.1 then 0 else p.1.2+1) ⟨(false,g),by simp only [Bool.false_eq_true,if_false];exact ⟨h57,hgB⟩⟩ ⟨aF.Sub.same,aF.Sub.same,aF.Sub.of_eq (congrArg (fun y=>aF.rows (rT (pd 1000000000 L (R%1000000000^i+1000000000^i*y)))) (by simp only [Xm,Bool.false_eq_true,if_false];rw [if_pos h57,Nat.mul_one])),trivial⟩ (fun _=>rfl) ?_;rintro ⟨⟨made,g'⟩,hp⟩;dsimp only [aB,aA] at hp ⊢;refine vn gX rfl ?_;dsimp only [aB,aA];refine rA (!made) rfl (fun h60=>?_) (fun h60=>?_)
   ·have hmd:made=false:=by simpa using h60
    subst hmd;simp only [Bool.false_eq_true,if_false] at hp
    have hgV':g'*V<1000000000^(nv+1):=by
     rw [Nat.pow_succ,Nat.mul_comm (1000000000^nv)];exact Nat.lt_of_lt_of_le (Nat.mul_lt_mul_of_pos_right (by omega:g'<1000000000) hV0) (Nat.mul_le_mul_left _ (Nat.le_of_lt hVlt))
    have hg0:0<g':=by
     rcases Nat.eq_zero_or_pos g' with h | h
     ·rw [h] at hp;omega
     ·exact h
    have hgm:(g'-1)*V+V=g'*V:=by
     obtain ⟨k,rfl⟩:∃ k,g'=k+1:=⟨g'-1,by omega⟩
     rw [Nat.add_sub_cancel,Nat.add_mul,Nat.one_mul]
    obtain ⟨W,hW⟩:∃ W,1000000000^(nv+1)=W:=⟨_,rfl⟩
    have hYe:Xm W X V (false,g')=X+W-g'*V:=by simp [Xm]
    have hnew:X+W-g'*V+V-W*(if W≤X+W-g'*V+V then 1 else 0)=Xm W X V (decide (W≤X+W-g'*V+V),g'-1):=by
     rw [hW] at hgV' hXlt;by_cases hc:W≤X+W-g'*V+V
     ·rw [if_pos hc,Nat.mul_one];simp only [Xm,hc,decide_true,if_true];have hq:X/V=g'-1:=xQ hV0 (by omega) (by rw [show g'-1+1=g' by omega];exact hp.1);have h1:=Nat.mod_add_div X V;rw [hq,Nat.mul_comm] at h1;omega
     ·rw [if_neg hc,Nat.mul_zero];simp only [Xm,hc,decide_false,Bool.false_eq_true,if_false];omega
    rw [hW] at hview hput hgive hXlt hgV';have hYlt:X+W-g'*V<W:=by omega
    have hput1:=hput (X+W-g'*V) (X+W-g'*V+V-W*(if W≤X+W-g'*V+V then 1 else 0)) hYlt (by split<;>omega);rw [hnew] at hput1;rw [hW,hYe];refine OD (n:=i) (ts:=rT (pd 1000000000 L (R%1000000000^i+1000000000^i*(X+W-g'*V)))) (us:=rT (pd 1000000000 (nv+1) (X+W-g'*V))) (us':=rT (pd 1000000000 (nv+1) (Xm W X V (decide (W≤X+W-g'*V+V),g'-1)))) rfl ⟨.i64, .i64,i+nv+1,(by show aH.int .i64 _=aH.int .i64 _;congr 1;omega),(by show aH.int .i64 _=aH.int .i64 _;congr 1;omega),by omega,by simp;omega,(hview _ hYlt).symm⟩ (by simp [pd]) rfl (sW rfl (hnew▸hgive _ hYlt)) hput1 ?_;dsimp only [aB,aA];refine vn (Nn (by omega) (by omega)) rfl ?_;dsimp only [aB,aA];have hg1':(g':Int)-1=((g'-1:Nat):Int):=by clear hN hput hview hgive hfitY;omega
    refine aR rfl ⟨⟨(decide (W≤X+W-g'*V+V),g'-1),?_⟩,⟨aF.Sub.same,aF.Sub.of_eq (congrArg (fun q=>aF.one (aH.int .u64 q)) hg1'),aF.Sub.of_eq ?_,trivial⟩,?_⟩
    ·by_cases hc:W≤X+W-g'*V+V
     ·simp only [hc,decide_true,if_true];exact (xQ hV0 (by omega) (by rw [show g'-1+1=g' by omega];exact hp.1)).symm
     ·simp only [hc,decide_false,Bool.false_eq_true,if_false];omega
    ·dsimp only;rfl
    ·dsimp only;by_cases hc:W≤X+W-g'*V+V
     ·simp [hc]
     ·simp [hc];omega
   have hmd:made=true:=by simpa using h60
   subst hmd;simp only [if_true] at hp;subst hp;simp only [Xm,if_true];refine vn (pZ ⟨_,hU⟩ gB (oL _) (MO hX2)) rfl ?_;dsimp only [aB,aA];refine cV rfl rfl (by omega) (by omega) ?_;refine lR (d':=X/V) rfl rfl (by omega) (by omega) hok rfl ?_;dsimp only [aB,aA];refine vn (aG (by omega) (by omega)) rfl ?_;dsimp only [aB,aA];exact aR rfl ⟨⟨(i,os.set i (X/V),R%1000000000^i+1000000000^i*(X%V)),hN⟩,⟨aF.Sub.of_eq (congrArg (fun q=>aF.one (aH.int .i64 q)) (ZD i)),aF.Sub.same,aF.Sub.same,trivial⟩,by show i<i+1;omega⟩
  have hq:X/V=g:=Nat.le_antisymm hgq (by rw [Nat.le_div_iff_mul_le hV0];omega)
  have hmod:X+1000000000^(nv+1)*(if X<g*V then 1 else 0)-g*V=X%V:=by
   rw [if_neg h57,Nat.mul_zero,Nat.add_zero];have h1:=Nat.mod_add_div X V;rw [hq,Nat.mul_comm] at h1;omega
  rw [hmod];rw [hq] at hN;refine vn (pZ ⟨_,hU⟩ gB (oL _) (MO hgB)) rfl ?_;dsimp only [aB,aA];refine cV rfl rfl (by omega) (by omega) ?_;refine lR (d':=g) rfl rfl (by omega) (by omega) hok rfl ?_;dsimp only [aB,aA];refine vn (aG (by omega) (by omega)) rfl ?_;dsimp only [aB,aA];exact aR rfl ⟨⟨(i,os.set i g,R%1000000000^i+1000000000^i*(X%V)),hN⟩,⟨aF.Sub.of_eq (congrArg (fun q=>aF.one (aH.int .i64 q)) (ZD i)),aF.Sub.same,aF.Sub.same,trivial⟩,by show i<i+1;omega⟩
 have hn0:n=0:=by omega
 subst hn0;have heq:=hI.eq;have hlt:=hI.lt;rw [List.drop_zero,Nat.pow_zero,Nat.mul_one] at heq;rw [Nat.pow_zero,Nat.div_one] at hlt;obtain ⟨hQ,hR⟩:=zI heq hlt;have hQ2:lv os=a/b:=by rw [hQ,←hS,←hV,Nat.mul_div_mul_right _ _ hs0]
 have hR2:R=a%b*s:=by rw [hR,←hS,←hV,Nat.mul_mod_mul_right]
 refine aC (iR (pd 1000000000 L R) (Cs (by omega) _ _) (by rw [dS];omega)) rfl ?_;rw [show lv (pd 1000000000 L R)=R by rw [lv,yS,Nat.mod_eq_of_lt hfit]];dsimp only [aB,aA];refine aC (VW R s hs0 hsB (by have:=CM hfit;omega)) rfl ?_;dsimp only [aB,aA];refine aC (iR os hI.dg (by omega)) rfl ?_;dsimp only [aB,aA];refine aL ?_;rw [hQ2,hR2,Nat.mul_div_cancel _ hs0];rfl
end Go.Sy
