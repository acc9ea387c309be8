/- Part. -/
import Derived.Test.YtpaidpkaechleaaGreatDoorNa
import Derived.RangeFuncBox
import Derived.Shelf.Abstract
import Derived.WalkKit
import Derived.OwnWalkIn
import Derived.TacticsInMore
import Derived.LoopNIn
import Derived.LoopIn
set_option linter.all false
namespace Go.Sy
open Go Go.Proofs Tryz Ord
def ah9:Tr:=.need (.idx 20 (.u 8 0)) (.indexAddr 24 (tT 51) (tT 52)) 0 false (.need (.ldrow 20 (.u 8 0) 0 1 false) (.load 167 (tT 53)) 167 false (bG .sub 167 54 55 21 0 15 0 167 (.need (.idx 20 (.u 8 0)) (.indexAddr 24 (tT 51) (tT 52)) 0 false (.need (.strow 20 1 (.u 8 0) 0 [(.u 22 0)]) (.store 167 (tT 57) (tT 56)) 0 false (aO .add 3 19 1 8 0 3 (.back 0 [(.w (.one (.c (.k (.int .u32 1))))),lV 24 0, .row 23]))))))
def ZO:Tr:=.need (.idx 9 (.u 8 0)) (.indexAddr 24 (tT 51) (tT 52)) 0 false (.need (.ldrow 9 (.u 8 0) 0 1 false) (.load 167 (tT 53)) 167 false (bG .sub 167 54 55 18 0 15 0 167 (.need (.idx 9 (.u 8 0)) (.indexAddr 24 (tT 51) (tT 52)) 0 false (.need (.strow 9 1 (.u 8 0) 0 [(.u 19 0)]) (.store 167 (tT 57) (tT 56)) 0 false (aO .add 3 19 1 8 0 3 (.back 0 [(.w (.one (.c (.k (.int .u32 0))))),lV 21 0, .row 20]))))))
def ai8:Tr:=bG .lss 167 40 41 16 0 15 0 4 (.split (.u 17 0) (.need (.idx 9 (.u 8 0)) (.indexAddr 24 (tT 45) (tT 46)) 0 false (.need (.ldrow 9 (.u 8 0) 0 1 false) (.load 167 (tT 47)) 167 false (.need (.prim [(W 18 0),(.one (.c (.k (.int .u32 1000000000))))] none) (.binOp .add 167 (tT 48) (.const (.int .u32 1000000000)) 167) 167 false (.need (.idx 9 (.u 8 0)) (.indexAddr 24 (tT 43) (tT 44)) 0 false (.need (.strow 9 1 (.u 8 0) 0 [(.u 19 0)]) (.store 167 (tT 50) (tT 49)) 0 false ah9))))) ZO)
def ai7:Tr:=.need (.idx 18 (.u 8 0)) (.indexAddr 24 (tT 51) (tT 52)) 0 false (.need (.ldrow 18 (.u 8 0) 0 1 false) (.load 167 (tT 53)) 167 false (bG .sub 167 54 55 19 0 7 0 167 (.need (.idx 18 (.u 8 0)) (.indexAddr 24 (tT 51) (tT 52)) 0 false (.need (.strow 18 1 (.u 8 0) 0 [(.u 20 0)]) (.store 167 (tT 57) (tT 56)) 0 false (aO .add 3 19 1 8 0 3 (.back 0 [(.w (.one (.c (.k (.int .u32 1))))),lV 22 0, .row 21]))))))
def aa7:Tr:=.need (.idx 9 (.u 8 0)) (.indexAddr 24 (tT 51) (tT 52)) 0 false (.need (.ldrow 9 (.u 8 0) 0 1 false) (.load 167 (tT 53)) 167 false (bG .sub 167 54 55 16 0 7 0 167 (.need (.idx 9 (.u 8 0)) (.indexAddr 24 (tT 51) (tT 52)) 0 false (.need (.strow 9 1 (.u 8 0) 0 [(.u 17 0)]) (.store 167 (tT 57) (tT 56)) 0 false (aO .add 3 19 1 8 0 3 (.back 0 [(.w (.one (.c (.k (.int .u32 0))))),lV 19 0, .row 18]))))))
def al6:Tr:=bG .lss 167 40 41 14 0 7 0 4 (.split (.u 15 0) (.need (.idx 9 (.u 8 0)) (.indexAddr 24 (tT 45) (tT 46)) 0 false (.need (.ldrow 9 (.u 8 0) 0 1 false) (.load 167 (tT 47)) 167 false (.need (.prim [(W 16 0),(.one (.c (.k (.int .u32 1000000000))))] none) (.binOp .add 167 (tT 48) (.const (.int .u32 1000000000)) 167) 167 false (.need (.idx 9 (.u 8 0)) (.indexAddr 24 (tT 43) (tT 44)) 0 false (.need (.strow 9 1 (.u 8 0) 0 [(.u 17 0)]) (.store 167 (tT 50) (tT 49)) 0 false ai7))))) aa7)
def ay3:Tr:=bG .lss 3 23 26 8 0 11 0 4 (.split (.u 12 0) (mB 1 0 8 0 24 30 31 (mN 13 0 none 167 32 (bG .add 167 28 33 7 0 14 0 167 (.need (.idx 9 (.u 8 0)) (.indexAddr 24 (tT 37) (tT 38)) 0 false (.need (.ldrow 9 (.u 8 0) 0 1 false) (.load 167 (tT 39)) 167 false ai8))))) (.need (.prim [(W 7 0),(.one (.c (.k (.int .u32 0))))] none) (.binOp .eql 167 (tT 35) (.const (.int .u32 0)) 167) 4 false (.split (.u 13 0) (aC 144 [(.one (.c (.sr 1 9)))] [(some 1)] [59] [24] 26 true (.ret [(G1 14)])) (.need (.idx 9 (.u 8 0)) (.indexAddr 24 (tT 37) (tT 38)) 0 false (.need (.ldrow 9 (.u 8 0) 0 1 false) (.load 167 (tT 39)) 167 false al6)))))
def aF2:Tr:=.need (.rop 3 167 1 none [] [(W 0 0)] [none]) (.call ⟨.builtin .copy,#[(tT 13),(tT 15)],#[24,24]⟩) 3 false (.need (.lenrow 5) (.call ⟨.builtin .len,#[(tT 17)],#[24]⟩) 3 false (.loop 0 [(.w (.one (.c (.k (.int .u32 0))))),lK 0, .row 5] (bG .lss 3 19 18 8 0 6 0 0 (.split (.u 10 0) (dH 1 0 25 24 ay3) (aC 144 [(.one (.c (.sr 1 9)))] [(some 1)] [59] [24] 26 true (.ret [(G1 11)]))))))
def aK0:Tr:=dH 0 0 10 24 (.need (.make [(.int .u32 0)] 4 (.u 2 0) (.u 2 0)) (.makeSlice 24 (tT 11) (tT 11)) 24 false aF2)
theorem ZL:aK prog f121 (fun _=>none) [.v (some 1), .v (some 1)]=aK0:=by kernel_rfl
def ZP:Tr:=.split (.u 23 0) (aO .add 2 44 1000000000 21 0 2 (.need (.prim [(W 24 0)] none) (.convert 2 167 (tT 48)) 167 false (.need (.idx 7 (.u 6 0)) (.indexAddr 24 (tT 46) (tT 47)) 0 false (.need (.strow 7 1 (.u 6 0) 0 [(.u 25 0)]) (.store 167 (tT 50) (tT 49)) 0 false (aO .add 3 13 1 6 0 3 (.back 0 [lV 22 0,lK 1,lV 27 0, .row 26])))))) (.need (.prim [(W 21 0)] none) (.convert 2 167 (tT 48)) 167 false (.need (.idx 7 (.u 6 0)) (.indexAddr 24 (tT 46) (tT 47)) 0 false (.need (.strow 7 1 (.u 6 0) 0 [(.u 24 0)]) (.store 167 (tT 50) (tT 49)) 0 false (aO .add 3 13 1 6 0 3 (.back 0 [lV 22 0,lK 0,lV 26 0, .row 25])))))
def Zf:Tr:=.need (.prim [(W 16 0)] none) (.convert 167 2 (tT 32)) 2 false (.need (.prim [(W 15 0),(.one (.c (.k (.int .u64 1000000000))))] none) (.binOp .rem 153 (tT 34) (.const (.int .u64 1000000000)) 153) 153 false (.need (.prim [(W 18 0)] none) (.convert 153 2 (tT 35)) 2 false (bG .sub 2 33 36 17 0 19 0 2 (bG .sub 2 37 38 20 0 5 0 2 (.need (.prim [(W 15 0),(.one (.c (.k (.int .u64 1000000000))))] none) (.binOp .quo 153 (tT 40) (.const (.int .u64 1000000000)) 153) 153 false (aO .lss 2 42 0 21 0 4 ZP))))))
def aD1:Tr:=mB 1 0 6 0 24 22 23 (mN 11 0 none 167 24 (.need (.prim [(W 12 0)] none) (.convert 167 153 (tT 25)) 153 false (bG .mul 153 21 26 2 0 13 0 153 (bG .add 153 20 27 4 0 14 0 153 (.need (.idx 7 (.u 6 0)) (.indexAddr 24 (tT 29) (tT 30)) 0 false (.need (.ldrow 7 (.u 6 0) 0 1 false) (.load 167 (tT 31)) 167 false Zf))))))
def aa5:Tr:=.split (.u 18 0) (aO .add 2 44 1000000000 16 0 2 (.need (.prim [(W 19 0)] none) (.convert 2 167 (tT 48)) 167 false (.need (.idx 7 (.u 6 0)) (.indexAddr 24 (tT 46) (tT 47)) 0 false (.need (.strow 7 1 (.u 6 0) 0 [(.u 20 0)]) (.store 167 (tT 50) (tT 49)) 0 false (aO .add 3 13 1 6 0 3 (.back 0 [lV 17 0,lK 1,lV 22 0, .row 21])))))) (.need (.prim [(W 16 0)] none) (.convert 2 167 (tT 48)) 167 false (.need (.idx 7 (.u 6 0)) (.indexAddr 24 (tT 46) (tT 47)) 0 false (.need (.strow 7 1 (.u 6 0) 0 [(.u 19 0)]) (.store 167 (tT 50) (tT 49)) 0 false (aO .add 3 13 1 6 0 3 (.back 0 [lV 17 0,lK 0,lV 21 0, .row 20])))))
def ZW:Tr:=.need (.prim [(W 11 0)] none) (.convert 167 2 (tT 32)) 2 false (.need (.prim [(W 4 0),(.one (.c (.k (.int .u64 1000000000))))] none) (.binOp .rem 153 (tT 34) (.const (.int .u64 1000000000)) 153) 153 false (.need (.prim [(W 13 0)] none) (.convert 153 2 (tT 35)) 2 false (bG .sub 2 33 36 12 0 14 0 2 (bG .sub 2 37 38 15 0 5 0 2 (.need (.prim [(W 4 0),(.one (.c (.k (.int .u64 1000000000))))] none) (.binOp .quo 153 (tT 40) (.const (.int .u64 1000000000)) 153) 153 false (aO .lss 2 42 0 16 0 4 aa5))))))
def aE3:Tr:=bG .lss 3 13 12 6 0 3 0 0 (.split (.u 8 0) (dH 1 0 17 24 (bG .lss 3 16 18 6 0 9 0 4 (.split (.u 10 0) aD1 (.need (.idx 7 (.u 6 0)) (.indexAddr 24 (tT 29) (tT 30)) 0 false (.need (.ldrow 7 (.u 6 0) 0 1 false) (.load 167 (tT 31)) 167 false ZW))))) (aO .neq 2 52 0 5 0 4 (.retr [(W 9 0)] 7)))
def aH4:Tr:=.need (.lenrow 0) (.call ⟨.builtin .len,#[(tT 11)],#[24]⟩) 3 false (.loop 0 [(.w (.one (.c (.k (.int .u64 0))))),lK 0,lK 0, .row 0] aE3)
theorem Ow:OA prog f183 (fun _=>none) [.lent 167 1, .v none, .v none]=aH4:=by kernel_rfl
def ai6:Tr:=.need (.prim [(W 13 0),(.one (.c (.k (.int .u32 1000000000))))] none) (.binOp .geq 167 (tT 29) (.const (.int .u32 1000000000)) 167) 4 false (.split (.u 14 0) (.need (.prim [(W 13 0),(.one (.c (.k (.int .u32 1000000000))))] none) (.binOp .sub 167 (tT 31) (.const (.int .u32 1000000000)) 167) 167 false (.need (.idx 5 (.u 4 0)) (.indexAddr 24 (tT 33) (tT 34)) 0 false (.need (.strow 5 1 (.u 4 0) 0 [(.u 15 0)]) (.store 167 (tT 36) (tT 35)) 0 false (aO .add 3 10 1 4 0 3 (.back 0 [(.w (.one (.c (.k (.int .u32 1))))),lV 17 0, .row 16]))))) (.need (.idx 5 (.u 4 0)) (.indexAddr 24 (tT 33) (tT 34)) 0 false (.need (.strow 5 1 (.u 4 0) 0 [(.u 13 0)]) (.store 167 (tT 36) (tT 35)) 0 false (aO .add 3 10 1 4 0 3 (.back 0 [(.w (.one (.c (.k (.int .u32 0))))),lV 16 0, .row 15])))))
def Zn:Tr:=.need (.prim [(W 8 0),(.one (.c (.k (.int .u32 1000000000))))] none) (.binOp .geq 167 (tT 29) (.const (.int .u32 1000000000)) 167) 4 false (.split (.u 11 0) (.need (.prim [(W 8 0),(.one (.c (.k (.int .u32 1000000000))))] none) (.binOp .sub 167 (tT 31) (.const (.int .u32 1000000000)) 167) 167 false (.need (.idx 5 (.u 4 0)) (.indexAddr 24 (tT 33) (tT 34)) 0 false (.need (.strow 5 1 (.u 4 0) 0 [(.u 12 0)]) (.store 167 (tT 36) (tT 35)) 0 false (aO .add 3 10 1 4 0 3 (.back 0 [(.w (.one (.c (.k (.int .u32 1))))),lV 14 0, .row 13]))))) (.need (.idx 5 (.u 4 0)) (.indexAddr 24 (tT 33) (tT 34)) 0 false (.need (.strow 5 1 (.u 4 0) 0 [(.u 8 0)]) (.store 167 (tT 36) (tT 35)) 0 false (aO .add 3 10 1 4 0 3 (.back 0 [(.w (.one (.c (.k (.int .u32 0))))),lV 13 0, .row 12])))))
def ax5:Tr:=bG .add 167 16 17 7 0 3 0 167 (dH 1 0 20 24 (bG .lss 3 19 21 4 0 9 0 4 (.split (.u 10 0) (mB 1 0 4 0 24 24 25 (mN 11 0 none 167 26 (bG .add 167 23 27 8 0 12 0 167 ai6))) Zn)))
def aB9:Tr:=.need (.lenrow 0) (.call ⟨.builtin .len,#[(tT 8)],#[24]⟩) 3 false (.loop 0 [(.w (.one (.c (.k (.int .u32 0))))),lK 0, .row 0] (bG .lss 3 10 9 4 0 2 0 0 (.split (.u 6 0) (.need (.idx 5 (.u 4 0)) (.indexAddr 24 (tT 13) (tT 14)) 0 false (.need (.ldrow 5 (.u 4 0) 0 1 false) (.load 167 (tT 15)) 167 false ax5)) (.need (.prim [(W 3 0),(.one (.c (.k (.int .u32 0))))] none) (.binOp .neq 167 (tT 38) (.const (.int .u32 0)) 167) 4 false (.retr [(W 7 0)] 5)))))
theorem Ov:OA prog f184 (fun _=>none) [.lent 167 1, .v none]=aB9:=by kernel_rfl
structure KS (xs ys:List Nat) (i b:Nat) (os:List Nat):Prop where
 h:gJ 1000000000 xs ys 1 i 0 b os
theorem KS.init {xs:List Nat} (hx:Dg xs) (ys:List Nat):KS xs ys 0 0 xs:=⟨gJ.init hx ys 1⟩
theorem KS.next {xs ys os:List Nat} {i b x y z b':Nat} (h:KS xs ys i b os) (hx:xs[i]? = some x) (hy:ys[i]?.getD 0=y) (hyB:y<1000000000) (hz:z<1000000000) (hb:b'≤1) (he:z+y+b=x+1000000000*b') :
  KS xs ys (i+1) b' (os.set i z):=by
 have:=h.h.next (by omega) (by omega) hx hy hyB hz hb (by rw [Nat.zero_add,Nat.one_mul,Nat.mod_eq_of_lt hyB];exact he);rw [Nat.zero_add,Nat.one_mul,Nat.div_eq_of_lt hyB] at this;exact ⟨this⟩
theorem KS.fin {xs ys os:List Nat} {i b:Nat} (h:KS xs ys i b os) (hle:lv ys≤lv xs) (he:b=0∧ys.length≤i∨i=xs.length∧ys.length≤xs.length):lv os+lv ys=lv xs:=by
 have h1:=h.h.eq;rw [Nat.one_mul,Nat.zero_add] at h1;rcases he with ⟨rfl,hl⟩ | ⟨rfl,hl⟩
 ·rw [Nat.mul_zero,Nat.add_zero,List.take_of_length_le hl] at h1
  have e:∀ l:List Nat,i≤l.length→lv l=lv (l.take i)+1000000000^i*lv (l.drop i):=fun l hl=>by
   conv=>lhs;rw [←List.take_append_drop i l]
   rw [oL,List.length_take,Nat.min_eq_left hl]
  rw [e os (by rw [h.h.len];exact h.h.le),e xs h.h.le,h.h.rest];simp only [lv] at h1 ⊢;omega
 ·rw [List.take_of_length_le (by rw [h.h.len];omega),List.take_length,List.take_of_length_le hl] at h1;have h2:=DB.lt (by omega) h.h.dg;rw [h.h.len] at h2;have hb:=h.h.b1;rcases (by omega:b=0∨b=1) with rfl | rfl
  ·show val _ os+val _ ys=val _ xs;omega
  ·have hle:val 1000000000 ys≤val 1000000000 xs:=hle;omega
theorem jH {a b:Nat} (h:a≤b):(dg a).length≤(dg b).length:=iA (Nat.lt_of_le_of_lt h (iW (by omega) b))
theorem sF (a b:Nat) (hab:b≤a:=by omega) (ha:0<a:=by omega) (hs:(dg a).length<1099511627776:=by omega):aL prog 121 [(mT a:aI),(mT b:aI)] (.ret [mT (a-b)]):=by
 refine bV func121 ZL ?_;have hlen:=jH hab;have hane:dg a ≠ []:=fun e=>by have:=sC.1 e;omega
 apply vn (aW cM (bE _)) rfl;dsimp only [aG,aH];refine vP (f:=fun d:Nat=>[aN.int .u32 (d:Int)]) 0 rfl rfl rfl rfl (by omega) (by simp only [maxLen];omega) ?_;refine RL (xs:=dg a) (ws:=dg a) (fun _=>rfl) rfl rfl cM (by simp) (by simpa using hane) (by simp) ?_;refine SF rfl (bE _) ?_;refine bD {g:Nat×Nat×List Nat // KS (dg a) (dg b) g.1 g.2.1 g.2.2} (fun g=>[.one (.int .u32 g.1.2.1), .one (.int .i64 g.1.1), .rows (rT g.1.2.2)]) (fun g=>(dg a).length-g.1.1) ⟨(0,0,dg a),KS.init (iB a) _⟩ aR.rfl (fun _=>rfl) ?_;rintro ⟨⟨i,c,os⟩,hI⟩;dsimp only [aG,aH] at hI ⊢;have hol:=hI.h.len;have hil:=hI.h.le;have hc:=hI.h.b1;have hle:lv (dg b)≤lv (dg a):=by rw [fQ,fQ];exact hab
 have fin:(c=0∧(dg b).length≤i∨i=(dg a).length∧(dg b).length≤(dg a).length)→lv os=a-b:=fun h=>by
  have:=hI.fin hle h;rw [fQ,fQ] at this;omega
 apply vn bA rfl;refine vs _ rfl ?_ ?_<;>intro h6
 ·have hx:(dg a)[i]? = some ((dg a)[i]'(by omega)):=dS (by omega);generalize (dg a)[i]'(by omega)=x at hx;have hxB:=(iB a).get hx;have ho:=hI.h.get hx;apply vn (aW cM (bE _)) rfl;apply vn bA rfl;refine vs _ rfl ?_ ?_<;>intro h9
  ·have hy:(dg b)[i]? = some ((dg b)[i]'(by omega)):=dS (by omega);generalize (dg b)[i]'(by omega)=y at hy;have hyB:=(iB b).get hy;apply vn (cY cM hy) rfl;dsimp only [aG,aH];apply vn (cV nE) rfl;apply vn (jJ) rfl;refine cZ rfl rfl (by omega) (by first | omega | (rw [List.length_set];omega)) ?_;refine mJ rfl rfl (by omega) (by omega) ho rfl ?_;apply vn bA rfl;dsimp only [aG,aH];refine vs _ rfl ?_ ?_<;>intro h16
   ·refine cZ rfl rfl (by omega) (by first | omega | (rw [List.length_set];omega)) ?_;refine mJ rfl rfl (by omega) (by omega) ho rfl ?_;apply vn (jJ) rfl;refine cZ rfl rfl (by omega) (by first | omega | (rw [List.length_set];omega)) ?_;refine kR (d':=x+1000000000) rfl rfl (by omega) (by omega) ho rfl ?_;refine cZ rfl rfl (by omega) (by first | omega | (rw [List.length_set];omega)) ?_;refine aq0 (d:=x+1000000000) rfl rfl (by omega) (by omega) (List.getElem?_set_self (by omega)) (.inr rfl) rfl ?_;dsimp only [aG,aH];apply vn (jM) rfl;refine cZ rfl rfl (by omega) (by first | omega | (rw [List.length_set];omega)) ?_;refine kR (d:=x+1000000000) (d':=x+1000000000-(y+c)) rfl rfl (by omega) (by omega) (List.getElem?_set_self (by omega)) ?_ ?_
    ·show [aN.int .u32 _] = [aN.int .u32 _]
     congr 2;omega
    rw [List.set_set];apply vn (aD) rfl;dsimp only [aG,aH];exact aX rfl ⟨⟨(i+1,1,os.set i (x+1000000000-(y+c))),hI.next (b':=1) (z:=x+1000000000-(y+c)) hx (by rw [hy];rfl) hyB (by omega) (by omega) (by omega)⟩,aR.rfl,by show (dg a).length-(i+1)<(dg a).length-i;omega⟩
   refine cZ rfl rfl (by omega) (by first | omega | (rw [List.length_set];omega)) ?_;refine mJ rfl rfl (by omega) (by omega) ho rfl ?_;apply vn (jM) rfl;refine cZ rfl rfl (by omega) (by first | omega | (rw [List.length_set];omega)) ?_;refine kR (d':=x-(y+c)) rfl rfl (by omega) (by omega) ho ?_ ?_
   ·show [aN.int .u32 _] = [aN.int .u32 _]
    congr 2;omega
   apply vn (aD) rfl;dsimp only [aG,aH];exact aX rfl ⟨⟨(i+1,0,os.set i (x-(y+c))),hI.next (b':=0) (z:=x-(y+c)) hx (by rw [hy];rfl) hyB (by omega) (by omega) (by omega)⟩,aR.rfl,by show (dg a).length-(i+1)<(dg a).length-i;omega⟩
  apply vn aE rfl;refine vs _ rfl ?_ ?_<;>intro h37
  ·apply aA (gN os hI.h.dg) rfl;dsimp only [aG,aH];refine aJ ?_;rw [fin (.inl (by omega))];rfl
  have hnone:(dg b)[i]? = none:=List.getElem?_eq_none_iff.2 (by omega);refine cZ rfl rfl (by omega) (by first | omega | (rw [List.length_set];omega)) ?_;refine mJ rfl rfl (by omega) (by omega) ho rfl ?_;apply vn bA rfl;refine vs _ rfl ?_ ?_<;>intro h43
  ·refine cZ rfl rfl (by omega) (by first | omega | (rw [List.length_set];omega)) ?_;refine mJ rfl rfl (by omega) (by omega) ho rfl ?_;apply vn (jJ) rfl;dsimp only [aG,aH];refine cZ rfl rfl (by omega) (by first | omega | (rw [List.length_set];omega)) ?_;refine kR (d':=x+1000000000) rfl rfl (by omega) (by omega) ho rfl ?_;refine cZ rfl rfl (by omega) (by first | omega | (rw [List.length_set];omega)) ?_;refine aq0 (d:=x+1000000000) rfl rfl (by omega) (by omega) (List.getElem?_set_self (by omega)) (.inr rfl) rfl ?_;apply vn (jM) rfl;refine cZ rfl rfl (by omega) (by first | omega | (rw [List.length_set];omega)) ?_;refine kR (d:=x+1000000000) (d':=x+1000000000-c) rfl rfl (by omega) (by omega) (List.getElem?_set_self (by omega)) ?_ ?_
   ·show [aN.int .u32 _] = [aN.int .u32 _]
    congr 2;omega
   rw [List.set_set];dsimp only [aG,aH];apply vn (aD) rfl;dsimp only [aG,aH];exact aX rfl ⟨⟨(i+1,1,os.set i (x+1000000000-c)),hI.next (b':=1) (z:=x+1000000000-c) (y:=0) hx (by rw [hnone];rfl) (by omega) (by omega) (by omega) (by omega)⟩,aR.rfl,by show (dg a).length-(i+1)<(dg a).length-i;omega⟩
  refine cZ rfl rfl (by omega) (by first | omega | (rw [List.length_set];omega)) ?_;refine mJ rfl rfl (by omega) (by omega) ho rfl ?_;apply vn (jM) rfl;refine cZ rfl rfl (by omega) (by first | omega | (rw [List.length_set];omega)) ?_;refine kR (d':=x-c) rfl rfl (by omega) (by omega) ho ?_ ?_
  ·show [aN.int .u32 _] = [aN.int .u32 _]
   congr 2;omega
  apply vn (aD) rfl;dsimp only [aG,aH];exact aX rfl ⟨⟨(i+1,0,os.set i (x-c)),hI.next (b':=0) (z:=x-c) (y:=0) hx (by rw [hnone];rfl) (by omega) (by omega) (by omega) (by omega)⟩,aR.rfl,by show (dg a).length-(i+1)<(dg a).length-i;omega⟩
 apply aA (gN os hI.h.dg) rfl;dsimp only [aG,aH];refine aJ ?_;rw [fin (.inr ⟨by omega,hlen⟩)];rfl
theorem OM {b:Nat} {p:Prop} [Decidable p] (h:b=if p then 1 else 0):decide ((b:Int)≠0)=decide p:=by
 subst h;by_cases hp:p<;>simp [hp]
set_option maxHeartbeats 1000000 in
theorem Nz (xs ys:List Nat) (t:Nat) (hx:Dg xs) (hy:Dg ys) (ht:t<1000000000) (hl:ys.length<xs.length) (hs:xs.length<1099511627776):qU prog 183 167 1 [] [(.one (.slice 1 (rT ys)):aI),(.one (.int .u64 t):aI)] (rT xs) [.one (.bool (decide (lv xs<t*lv ys)))] (rT (pd 1000000000 xs.length (lv xs+1000000000^xs.length*(if lv xs<t*lv ys then 1 else 0)-t*lv ys))):=by
 refine Lk (a1:=[]) (a2:=[.v none, .v none]) (i1:=[]) (i2:=[.v (.one (.slice 1 (rT ys))), .v (.one (.int .u64 t))]) (hints:=(fun _=>none)) fo (by kernel_rfl) func183 trivial ⟨rfl,rfl,trivial⟩ (by kernel_rfl) ?_ ?_ ?_ ?_
 ·simp [rT]
 ·simp [rT]
 ·simp [rT]
 dsimp only [aG,aH];rw [Ow];dsimp only [List.map,In.env,aG,aH];refine SF rfl (bE _) ?_;refine bD {g:Nat×Nat×Nat×List Nat // gJ 1000000000 xs ys t g.1 g.2.1 g.2.2.1 g.2.2.2} (fun g=>[.one (.int .u64 g.1.2.1), .one (.int .i64 g.1.2.2.1), .one (.int .i64 g.1.1), .rows (rT g.1.2.2.2)]) (fun g=>xs.length-g.1.1) ⟨(0,0,0,xs),gJ.init hx _ _⟩ aR.rfl (fun _=>rfl) ?_;rintro ⟨⟨i,c,b,os⟩,hI⟩;dsimp only [aG,aH] at hI ⊢;have hol:=hI.len;have hil:=hI.le;have hc:=hI.c1;have hb:=hI.b1;apply vn bA rfl;refine vs _ rfl ?_ ?_<;>intro h3
 ·have hgx:xs[i]? = some (xs[i]'(by omega)):=dS (by omega);generalize xs[i]'(by omega)=x at hgx;have hxB:=hx.get hgx;have ho:=hI.get hgx;apply vn (aW cM (bE _)) rfl;apply vn bA rfl;refine vs _ rfl ?_ ?_<;>intro h6
  ·have hgy:ys[i]? = some (ys[i]'(by omega)):=dS (by omega);generalize ys[i]'(by omega)=y at hgy;have hyB:=hy.get hgy;have hty:t*y≤999999999*999999999:=Nat.mul_le_mul (by omega) (by omega);obtain ⟨w,hw⟩:∃ w,c+t*y=w:=⟨_,rfl⟩
   have hwB:w<1000000000*1000000000:=by omega
   have hm:∀ z b':Nat,z<1000000000→b'≤1→z+w%1000000000+b=x+1000000000*b'→gJ 1000000000 xs ys t (i+1) (w/1000000000) b' (os.set i z):=fun z b' h1 h2 h3=>by
    have:=hI.next (by omega) ht hgx (by rw [hgy];rfl) hyB h1 h2 (by rw [hw];exact h3);rw [hw] at this;exact this
   apply vn (cY cM hgy) rfl;dsimp only [aG,aH];apply vn (cV nE) rfl;apply vn (nI ⟨_,fD⟩ gB) rfl;apply vn (oV (c:=((t*y:Nat):Int)) (by rw [←Int.natCast_mul,nK]<;>omega)) rfl;apply vn (dV (c:=(w:Int)) (by rw [nK]<;>omega)) rfl;dsimp only [aG,aH];refine cZ rfl rfl (by omega) (by first | omega | (rw [List.length_set];omega)) ?_;refine mJ rfl rfl (by omega) (by omega) ho rfl ?_;apply vn (qH ⟨_,fD⟩ SH) rfl;apply vn (cD) rfl;apply vn (qH ⟨_,gB⟩ SH) rfl;dsimp only [aG,aH];apply vn (aQ) rfl;apply vn (aQ) rfl;apply vn (HJ) rfl;apply vn bA rfl;dsimp only [aG,aH];refine vs _ rfl ?_ ?_<;>intro h21
   ·apply vn (aD) rfl;apply vn (kW ⟨_,SH⟩ fD) rfl;refine cZ rfl rfl (by omega) (by first | omega | (rw [List.length_set];omega)) ?_;refine kR (d':=x+1000000000-w%1000000000-b) rfl rfl (by omega) (by omega) ho ?_ ?_
    ·show [aN.int .u32 _] = [aN.int .u32 _]
     congr 2;omega
    apply vn (aD) rfl;dsimp only [aG,aH];exact aX rfl ⟨⟨(i+1,w/1000000000,1,os.set i (x+1000000000-w%1000000000-b)),hm _ 1 (by omega) (by omega) (by omega)⟩,aR.rfl,by show xs.length-(i+1)<xs.length-i;omega⟩
   apply vn (kW ⟨_,SH⟩ fD) rfl;refine cZ rfl rfl (by omega) (by first | omega | (rw [List.length_set];omega)) ?_;refine kR (d':=x-w%1000000000-b) rfl rfl (by omega) (by omega) ho ?_ ?_
   ·show [aN.int .u32 _] = [aN.int .u32 _]
    congr 2;omega
   apply vn (aD) rfl;dsimp only [aG,aH];exact aX rfl ⟨⟨(i+1,w/1000000000,0,os.set i (x-w%1000000000-b)),hm _ 0 (by omega) (by omega) (by omega)⟩,aR.rfl,by show xs.length-(i+1)<xs.length-i;omega⟩
  have hnone:ys[i]? = none:=List.getElem?_eq_none_iff.2 (by omega)
  have hm:∀ z b':Nat,z<1000000000→b'≤1→z+c%1000000000+b=x+1000000000*b'→gJ 1000000000 xs ys t (i+1) (c/1000000000) b' (os.set i z):=fun z b' h1 h2 h3=>by
   have:=hI.next (y:=0) (by omega) ht hgx (by rw [hnone];rfl) (by omega) h1 h2 (by rw [Nat.mul_zero,Nat.add_zero];exact h3);rw [Nat.mul_zero,Nat.add_zero] at this;exact this
  refine cZ rfl rfl (by omega) (by first | omega | (rw [List.length_set];omega)) ?_;refine mJ rfl rfl (by omega) (by omega) ho rfl ?_;apply vn (qH ⟨_,fD⟩ SH) rfl;apply vn (cD) rfl;apply vn (qH ⟨_,gB⟩ SH) rfl;dsimp only [aG,aH];apply vn (aQ) rfl;apply vn (aQ) rfl;apply vn (HJ) rfl;apply vn bA rfl;dsimp only [aG,aH];refine vs _ rfl ?_ ?_<;>intro h42
  ·apply vn (aD) rfl;apply vn (kW ⟨_,SH⟩ fD) rfl;refine cZ rfl rfl (by omega) (by first | omega | (rw [List.length_set];omega)) ?_;refine kR (d':=x+1000000000-c%1000000000-b) rfl rfl (by omega) (by omega) ho ?_ ?_
   ·show [aN.int .u32 _] = [aN.int .u32 _]
    congr 2;omega
   apply vn (aD) rfl;dsimp only [aG,aH];exact aX rfl ⟨⟨(i+1,c/1000000000,1,os.set i (x+1000000000-c%1000000000-b)),hm _ 1 (by omega) (by omega) (by omega)⟩,aR.rfl,by show xs.length-(i+1)<xs.length-i;omega⟩
  apply vn (kW ⟨_,SH⟩ fD) rfl;refine cZ rfl rfl (by omega) (by first | omega | (rw [List.length_set];omega)) ?_;refine kR (d':=x-c%1000000000-b) rfl rfl (by omega) (by omega) ho ?_ ?_
  ·show [aN.int .u32 _] = [aN.int .u32 _]
   congr 2;omega
  apply vn (aD) rfl;dsimp only [aG,aH];exact aX rfl ⟨⟨(i+1,c/1000000000,0,os.set i (x-c%1000000000-b)),hm _ 0 (by omega) (by omega) (by omega)⟩,aR.rfl,by show xs.length-(i+1)<xs.length-i;omega⟩
 apply vn cS rfl;dsimp only [aG,aH];have hie:i=xs.length:=by omega
 subst hie;obtain ⟨hb1,ho1⟩:=hI.fin (by omega) hx hl;rw [hb1] at ho1;exact dI (by rw [←show rT os=rT _ from congrArg rT ho1];rfl) (congrArg (fun q=>[aI.one (.bool q)]) (OM hb1))
structure Eu (xs ys:List Nat) (i c:Nat) (os:List Nat):Prop where
 le:i≤xs.length
 c1:c≤1
 len:os.length=xs.length
 dg:DB 1000000000 os
 rest:os.drop i=xs.drop i
 eq:lv (os.take i)+1000000000^i*c=lv (xs.take i)+lv (ys.take i)
theorem Eu.init {xs:List Nat} (hx:Dg xs) (ys:List Nat):Eu xs ys 0 0 xs:=⟨eS _,by omega,rfl,hx,rfl,by simp [lv,val]⟩
theorem Eu.get {xs ys os:List Nat} {i c x:Nat} (h:Eu xs ys i c os) (hx:xs[i]? = some x):os[i]? = some x:=by
 have:=congrArg (fun l=>l[0]?) h.rest;simp only [List.getElem?_drop,Nat.add_zero] at this;rw [this,hx]
theorem Eu.next {xs ys os:List Nat} {i c x y c' z:Nat} (h:Eu xs ys i c os) (hx:xs[i]? = some x) (hy:ys[i]?.getD 0=y) (hz:z<1000000000) (hc:c'≤1) (he:z+1000000000*c'=x+c+y):Eu xs ys (i+1) c' (os.set i z):=by
 have hi:i<xs.length:=(fW.1 hx).1;refine ⟨hi,hc,by rw [List.length_set];exact h.len,h.dg.set hz,?_,?_⟩
 ·rw [List.drop_set_of_lt (by omega)];have:=congrArg (List.drop 1) h.rest
  simpa [List.drop_drop] using this
 ·have h1:=h.eq;have h2:=congrArg (fun q=>1000000000^i*q) he;have e1:lv ((os.set i z).take (i+1))=lv (os.take i)+1000000000^i*z:=jE (by rw [h.len];exact hi);have e2:lv (xs.take (i+1))=lv (xs.take i)+1000000000^i*x:=eZ hx;have e3:lv (ys.take (i+1))=lv (ys.take i)+1000000000^i*y:=gT hy;rw [e1,e2,e3,Nat.pow_succ,Nat.mul_assoc];simp only [Nat.mul_add] at h2;omega
theorem Eu.fin {xs ys os:List Nat} {c:Nat} (h:Eu xs ys xs.length c os) (hl:ys.length<xs.length) :
  c=(if 1000000000^xs.length≤lv xs+lv ys then 1 else 0)∧os=pd 1000000000 xs.length (lv xs+lv ys-1000000000^xs.length*c):=by
 have h1:=h.eq;rw [List.take_of_length_le (by rw [h.len];omega),List.take_length,List.take_of_length_le (by omega)] at h1;have h2:lv os<_:=DB.lt (by omega) h.dg;rw [h.len] at h2;have hc:=h.c1
 constructor
 ·split<;>rcases (by omega:c=0∨c=1) with rfl | rfl<;>omega
 ·refine Mj (by omega) h.dg h.len ?_;show lv os=_;omega
theorem Ot (xs ys:List Nat) (hx:Dg xs) (hy:Dg ys) (hl:ys.length<xs.length) (hs:xs.length<1099511627776):qU prog 184 167 1 [] [(.one (.slice 1 (rT ys)):aI)] (rT xs) [.one (.bool (decide (1000000000^xs.length≤lv xs+lv ys)))] (rT (pd 1000000000 xs.length (lv xs+lv ys-1000000000^xs.length*(if 1000000000^xs.length≤lv xs+lv ys then 1 else 0)))):=by
 refine Lk (a1:=[]) (a2:=[.v none]) (i1:=[]) (i2:=[.v (.one (.slice 1 (rT ys)))]) (hints:=(fun _=>none)) fo (by kernel_rfl) func184 trivial ⟨rfl,trivial⟩ (by kernel_rfl) ?_ ?_ ?_ ?_
 ·simp [rT]
 ·simp [rT]
 ·simp [rT]
 dsimp only [aG,aH];rw [Ov];dsimp only [List.map,In.env,aG,aH];refine SF rfl (bE _) ?_;refine bD {g:Nat×Nat×List Nat // Eu xs ys g.1 g.2.1 g.2.2} (fun g=>[.one (.int .u32 g.1.2.1), .one (.int .i64 g.1.1), .rows (rT g.1.2.2)]) (fun g=>xs.length-g.1.1) ⟨(0,0,xs),Eu.init hx _⟩ aR.rfl (fun _=>rfl) ?_;rintro ⟨⟨i,c,os⟩,hI⟩;dsimp only [aG,aH] at hI ⊢;have hol:=hI.len;have hil:=hI.le;have hc:=hI.c1;apply vn bA rfl;refine vs _ rfl ?_ ?_<;>intro h3
 ·have hgx:xs[i]? = some (xs[i]'(by omega)):=dS (by omega);generalize xs[i]'(by omega)=x at hgx;have hxB:=hx.get hgx;have ho:=hI.get hgx;refine cZ rfl rfl (by omega) (by first | omega | (rw [List.length_set];omega)) ?_;refine mJ rfl rfl (by omega) (by omega) ho rfl ?_;apply vn (jJ) rfl;apply vn (aW cM (bE _)) rfl;dsimp only [aG,aH];apply vn bA rfl;refine vs _ rfl ?_ ?_<;>intro h9
  ·have hgy:ys[i]? = some (ys[i]'(by omega)):=dS (by omega);generalize ys[i]'(by omega)=y at hgy;have hyB:=hy.get hgy;apply vn (cY cM hgy) rfl;apply vn (cV nE) rfl;apply vn (jJ) rfl;dsimp only [aG,aH];apply vn eY rfl;refine vs _ rfl ?_ ?_<;>intro h14
   ·apply vn (jM) rfl;refine cZ rfl rfl (by omega) (by first | omega | (rw [List.length_set];omega)) ?_;refine kR (d':=x+c+y-1000000000) rfl rfl (by omega) (by omega) ho ?_ ?_
    ·show [aN.int .u32 _] = [aN.int .u32 _]
     congr 2;omega
    apply vn (aD) rfl;dsimp only [aG,aH];exact aX rfl ⟨⟨(i+1,1,os.set i (x+c+y-1000000000)),hI.next (z:=x+c+y-1000000000) (c':=1) (y:=y) hgx (by rw [hgy];rfl) (by omega) (by omega) (by omega)⟩,aR.rfl,by show xs.length-(i+1)<xs.length-i;omega⟩
   refine cZ rfl rfl (by omega) (by first | omega | (rw [List.length_set];omega)) ?_;refine kR (d':=x+c+y) rfl rfl (by omega) (by omega) ho ?_ ?_
   ·show [aN.int .u32 _] = [aN.int .u32 _]
    congr 2
   apply vn (aD) rfl;dsimp only [aG,aH];exact aX rfl ⟨⟨(i+1,0,os.set i (x+c+y)),hI.next (z:=x+c+y) (c':=0) (y:=y) hgx (by rw [hgy];rfl) (by omega) (by omega) (by omega)⟩,aR.rfl,by show xs.length-(i+1)<xs.length-i;omega⟩
  have hnone:ys[i]? = none:=List.getElem?_eq_none_iff.2 (by omega);apply vn eY rfl;refine vs _ rfl ?_ ?_<;>intro h25
  ·apply vn (jM) rfl;refine cZ rfl rfl (by omega) (by first | omega | (rw [List.length_set];omega)) ?_;refine kR (d':=x+c-1000000000) rfl rfl (by omega) (by omega) ho ?_ ?_
   ·show [aN.int .u32 _] = [aN.int .u32 _]
    congr 2;omega
   apply vn (aD) rfl;dsimp only [aG,aH];exact aX rfl ⟨⟨(i+1,1,os.set i (x+c-1000000000)),hI.next (z:=x+c-1000000000) (c':=1) (y:=0) hgx (by rw [hnone];rfl) (by omega) (by omega) (by omega)⟩,aR.rfl,by show xs.length-(i+1)<xs.length-i;omega⟩
  refine cZ rfl rfl (by omega) (by first | omega | (rw [List.length_set];omega)) ?_;refine kR (d':=x+c) rfl rfl (by omega) (by omega) ho ?_ ?_
  ·show [aN.int .u32 _] = [aN.int .u32 _]
   congr 2
  apply vn (aD) rfl;dsimp only [aG,aH];exact aX rfl ⟨⟨(i+1,0,os.set i (x+c)),hI.next (z:=x+c) (c':=0) (y:=0) hgx (by rw [hnone];rfl) (by omega) (by omega) (by omega)⟩,aR.rfl,by show xs.length-(i+1)<xs.length-i;omega⟩
 apply vn cS rfl;dsimp only [aG,aH];have hie:i=xs.length:=by omega
 subst hie;obtain ⟨hb1,ho1⟩:=hI.fin hl;rw [hb1] at ho1;exact dI (by rw [←show rT os=rT _ from congrArg rT ho1];rfl) (congrArg (fun q=>[aI.one (.bool q)]) (OM hb1))
open Go Go.Proofs Tryz Ord
def ab5:Tr:=.need (.prim [(W 52 0)] none) (.unOp .not 4 (tT 120)) 4 false (.split (.u 55 0) (.need (.rop 54 167 1 (some ((.u 27 0),(.u 47 0))) [] [(W 14 0)] [none]) (.call ⟨.value (.func 184),#[(tT 124),(tT 125)],#[24,24]⟩) 4 true (.need (.prim [(W 53 0),(.one (.c (.k (.int .u64 1))))] none) (.binOp .sub 153 (tT 122) (.const (.int .u64 1)) 153) 153 false (.back 1 [lV 56 0,lV 58 0, .row 57]))) (.need (.prim [(W 53 0)] none) (.convert 153 167 (tT 129)) 167 false (.need (.idx 28 (.u 27 0)) (.indexAddr 24 (tT 127) (tT 128)) 0 false (.need (.strow 28 1 (.u 27 0) 0 [(.u 56 0)]) (.store 167 (tT 131) (tT 130)) 0 false (aO .sub 3 77 1 27 0 3 (.back 0 [lV 58 0, .row 57, .row 54]))))))
def ah5:Tr:=.need (.rop 29 167 1 (some ((.u 27 0),(.u 47 0))) [] [(W 14 0),(W 45 0)] [none]) (.call ⟨.value (.func 183),#[(tT 116),(tT 117),(tT 118)],#[24,24,153]⟩) 4 true (.split (.u 50 0) (.loop 1 [(.w (.one (.c (.k (.bool false))))),lV 45 0, .row 51] ab5) (.need (.prim [(W 45 0)] none) (.convert 153 167 (tT 129)) 167 false (.need (.idx 28 (.u 27 0)) (.indexAddr 24 (tT 127) (tT 128)) 0 false (.need (.strow 28 1 (.u 27 0) 0 [(.u 52 0)]) (.store 167 (tT 131) (tT 130)) 0 false (aO .sub 3 77 1 27 0 3 (.back 0 [lV 54 0, .row 53, .row 51]))))))
def ZV:Tr:=bG .quo 153 96 102 39 0 43 0 153 (.need (.prim [(W 44 0),(.one (.c (.k (.int .u64 999999999))))] none) (.call ⟨.builtin .min,#[(tT 103),(.const (.int .u64 999999999))],#[153,153]⟩) 153 false (bG .add 3 107 108 27 0 15 0 3 (aO .add 3 109 1 46 0 3 (bG .add 3 111 112 27 0 15 0 3 (aO .add 3 113 1 48 0 3 (.need (.view 29 (.u 27 0) (.u 47 0) (.u 49 0)) (.slice 24 (tT 105) (some (tT 106)) (some (tT 110)) (some (tT 114))) 24 false ah5))))))
def ak7:Tr:=.need (.ldrow 29 (.u 36 0) 0 1 false) (.load 167 (tT 92)) 167 false (.need (.prim [(W 37 0)] none) (.convert 167 153 (tT 93)) 153 false (bG .add 153 86 94 34 0 38 0 153 (aO .sub 3 98 1 15 0 3 (mB 14 0 40 0 24 97 99 (mN 41 0 none 167 100 (.need (.prim [(W 42 0)] none) (.convert 167 153 (tT 101)) 153 false ZV))))))
def am6:Tr:=.need (.idx 29 (.u 31 0)) (.indexAddr 24 (tT 79) (tT 82)) 0 false (.need (.ldrow 29 (.u 31 0) 0 1 false) (.load 167 (tT 83)) 167 false (.need (.prim [(W 32 0)] none) (.convert 167 153 (tT 84)) 153 false (.need (.prim [(W 33 0),(.one (.c (.k (.int .u64 1000000000))))] none) (.binOp .mul 153 (tT 85) (.const (.int .u64 1000000000)) 153) 153 false (bG .add 3 88 89 27 0 15 0 3 (aO .sub 3 90 1 35 0 3 (.need (.idx 29 (.u 36 0)) (.indexAddr 24 (tT 87) (tT 91)) 0 false ak7))))))
def ae6:Tr:=.loop 0 [lV 26 0, .row 24, .row 21] (aO .geq 3 75 0 27 0 4 (.split (.u 30 0) (bG .add 3 80 81 27 0 15 0 3 am6) (aC 144 [(.one (.c (.sr 1 29)))] [(some 1)] [133] [24] 26 false (aC 143 [(G1 31),(G1 13)] [(some 1),(some 1)] [134,135] [26,26] 174 false (aC 144 [(.one (.c (.sr 1 28)))] [(some 1)] [139] [24] 26 false (.ret [(G1 34),(G1 32)]))))))
def Zr:Tr:=aC 98 [(G1 0),(G1 13)] [(some 1)] [62,63] [26,26] 26 true (.need (.rop 18 167 1 none [] [(W 19 0)] [none]) (.call ⟨.builtin .copy,#[(tT 61),(tT 65)],#[24,24]⟩) 3 false (.need (.lenrow 21) (.call ⟨.builtin .len,#[(tT 67)],#[24]⟩) 3 false (bG .sub 3 68 69 22 0 15 0 3 (.need (.make [(.int .u32 0)] 4 (.u 23 0) (.u 23 0)) (.makeSlice 24 (tT 70) (tT 70)) 24 false (.need (.lenrow 24) (.call ⟨.builtin .len,#[(tT 72)],#[24]⟩) 3 false (aO .sub 3 73 1 25 0 3 ae6))))))
def ar9:Tr:=.need (.prim [(W 11 0)] none) (.convert 167 153 (tT 47)) 153 false (aC 122 [(W 12 0)] [(some 1)] [48] [153] 26 true (aC 98 [(G1 1),(G1 13)] [(some 1)] [50,51] [26,26] 26 true (dH 14 0 54 24 (dH 0 0 57 24 (aO .add 3 58 1 16 0 3 (.need (.make [(.int .u32 0)] 4 (.u 17 0) (.u 17 0)) (.makeSlice 24 (tT 59) (tT 59)) 24 false Zr))))))
def au2:Tr:=.split (.u 5 0) (.need (.prim [(W 1 0),(WK 0)] none) (.indexAddr 24 (tT 32) (.const (I3 0))) 0 false (mN 6 0 none 167 33 (aC 182 [(G1 0),(W 7 0)] [(some 1),(some 1)] [30,34] [26,167] 174 true (.ret [(G1 8),(G1 9)])))) (dH 1 0 41 24 (aO .sub 3 42 1 6 0 3 (mB 1 0 7 0 24 39 43 (mN 8 0 none 167 44 (.need (.prim [(W 9 0),(.one (.c (.k (.int .u32 1))))] none) (.binOp .add 167 (tT 45) (.const (.int .u32 1)) 167) 167 false (.need (.prim [(.one (.c (.k (.int .u32 1000000000)))),(W 10 0)] none) (.binOp .quo 167 (.const (.int .u32 1000000000)) (tT 46) 167) 167 false ar9))))))
def aL8:Tr:=aC 118 [(G1 0),(G1 1)] [none] [19,20] [26,26] 3 true (aO .lss 3 21 0 2 0 4 (.split (.u 3 0) (.ret [(.agg [tN]),(G1 0)]) (dH 1 0 27 24 (aO .eql 3 28 1 4 0 4 au2))))
theorem SX:aK prog f143 (fun _=>none) [.v (some 1), .v (some 1)]=aL8:=by kernel_rfl
theorem nB {a b:Int}:eE a b<0↔a<b:=by unfold eE;split<;>(try split)<;>omega
theorem Ty {n:Nat} (h:n=0):aN.Sub (.exact (.slice none 0 0)) (dT n):=by
 subst h;have:dg 0 = []:=cE _;rw [dT,this];exact aN.Sub.nil
theorem kS {n:Nat} (h0:0<n:=by omega) (h:n<1000000000:=by omega):dg n = [n]:=by
 rw [dg,dQ,Nat.mod_eq_of_lt h,Nat.div_eq_of_lt h,cE]
theorem zR {n k:Nat} (h:n<1000000000^k):(dg n).length≤k:=iA h
theorem Ic (n:Nat):n<1000000000^(dg n).length:=iW (by omega) n
theorem RH {n:Nat} (h:n≠0:=by omega):1000000000^((dg n).length-1)≤n:=fA (by omega) h
theorem RZ {n i:Nat} (h:i<(dg n).length:=by omega):(dg n)[i]? = some (n/1000000000^i%1000000000):=by
 have e:(dg n)[i]? = (pd 1000000000 (dg n).length n)[i]?:=congrArg (fun l:List Nat=>l[i]?) (Pg n);rw [e,xT _ h]
theorem MH {n:Nat} (h:0<n):1000000000^(n-1)*1000000000=1000000000^n:=by
 obtain ⟨k,rfl⟩:∃ k,n=k+1:=⟨n-1,by omega⟩
 rw [Nat.add_sub_cancel,Nat.pow_succ]
theorem an7 {r1 r2 vt:Nat} (h1:r1<1000000000) (h2:r2<1000000000):(r1*1000000000+r2)/vt<1000000000000000000:=
 Nat.lt_of_le_of_lt (Nat.div_le_self _ _) (by omega)
theorem RY (q:Nat):min (q:Int) 999999999=((min q 999999999:Nat):Int):=by omega
theorem Ox {n:Nat} (h:n<1000000000):(n:Int)<4294967296:=by omega
theorem RS {n:Nat} (h:n<1000000000000000000):(n:Int)<18446744073709551616:=by omega
theorem kJ (n:Nat):(0:Int)≤(n:Int):=Int.natCast_nonneg _
theorem Za (i:Nat):((i+1:Nat):Int)-1-1=(i:Int)-1:=by omega
theorem ak9 {P:Program} {T U ty:Nat} {x y:Operand} {a b:Nat} {a':Int} (ha':a'=a) (hb:0<b) (hc:(a/b:Nat)<1000000000000000000):aU P (.binOp .quo T x y U) ty [.one (.int .u64 a'), .one (.int .u64 b)] (.one (.int .u64 ((a/b:Nat):Int))):=by
 subst ha';exact lI (by omega) (by rw [Int.tdiv_eq_ediv_of_nonneg (kJ _),←Int.natCast_ediv,nK (kJ _) (RS hc)])
theorem Xq (a b:Nat) (hb0:0<b) (hb:b<1000000000) (hs:(dg a).length<549755813888):aL prog 143 [(mT a:aI),(mT b:aI)] (.ret [mT (a/b),mT (a%b)]):=by
 refine bV func143 SX ?_;have e1:=kS hb0 hb;apply aA (oD a b (by rw [e1];simp;omega)) rfl;apply vn bA rfl;dsimp only [aG,aH];rw [show decide (eE (a:Int) (b:Int)<0)=decide (a<b) by rw [decide_eq_decide,nB];omega];refine vs _ rfl ?_ ?_<;>intro h2
 ·refine fR ⟨⟨Ty (Nat.div_eq_of_lt h2),trivial⟩,⟨?_,trivial⟩,trivial⟩;rw [Nat.mod_eq_of_lt h2];exact aN.Sub.same
 apply vn (aW cM (bE _)) rfl;apply vn aE rfl;refine vs _ rfl ?_ ?_<;>intro h6
 ·apply vn (cY cM (show (dg b)[0]? = some b by rw [e1];rfl)) rfl;apply vn (cV nE) rfl;dsimp only [aG,aH];apply aA (KY a b hb0 hb) rfl;exact aJ rfl
 exact absurd (by rw [e1];simp) h6
structure Mo (S V L m n:Nat) (os:List Nat) (R:Nat):Prop where
 le:n≤m
 len:os.length=m
 dg:Dg os
 eq:S=R+V*1000000000^n*lv (os.drop n)
 lt:R/1000000000^n<V
 fit:R<1000000000^L
theorem Mo.next {S V L m n R g:Nat} {os:List Nat} (h:Mo S V L m (n+1) os R) (hV:0<V) (hg:g=R/1000000000^n/V) :
  Mo S V L m n (os.set n g) (R%1000000000^n+1000000000^n*(R/1000000000^n%V)):=by
 obtain ⟨h1,h2,h3,h4⟩:=Fa (B:=1000000000) (by omega) hV h.eq h.lt;have hn:=h.le;have hlen:=h.len;subst hg;refine ⟨by omega,by rw [List.length_set];exact hlen,h.dg.set h2,?_,h4,?_⟩
 ·rw [KH (x:=R/1000000000^n/V) (by rw [List.getElem?_set_self (by omega)]),List.drop_set_of_lt (by omega)];exact h3
 ·refine Nat.lt_of_le_of_lt ?_ h.fit;have:=Nat.mod_add_div R (1000000000^n);have h5:=Nat.mul_le_mul_left (1000000000^n) (Nat.mod_le (R/1000000000^n) V);omega
def Wq (W X V:Nat) (p:Bool×Nat):Nat:=if p.1 then X%V else X+W-p.2*V
theorem an4 {R i nv:Nat} (hnv:0<nv) (h:R/1000000000^(i+nv)<1000000000):R/1000000000^(i+nv)%1000000000*1000000000+R/1000000000^(i+nv-1)%1000000000=R/1000000000^i/1000000000^(nv-1):=by
 rw [Nat.mod_eq_of_lt h,Nat.div_div_eq_div_mul,←Nat.pow_add,show i+(nv-1)=i+nv-1 by omega]
 have e:R/1000000000^(i+nv)=R/1000000000^(i+nv-1)/1000000000:=by
  rw [Nat.div_div_eq_div_mul,←Nat.pow_succ];congr 2;omega
 rw [e];have:=Nat.div_add_mod (R/1000000000^(i+nv-1)) 1000000000;omega
theorem Qb {b s top:Nat} (hs0:0<s) (hs:s*(top+1)≤1000000000) (htop:top=b/1000000000^((dg b).length-1)) (hb:b≠0:=by omega):(dg (b*s)).length=(dg b).length:=by
 have hp:0<1000000000^((dg b).length-1):=Nat.pow_pos (by omega)
 have hl:0<(dg b).length:=by
  rcases Nat.eq_zero_or_pos (dg b).length with h | h
  ·exact (hb (sC.1 (List.eq_nil_of_length_eq_zero h))).elim
  ·exact h
 apply Nat.le_antisymm
 ·apply zR
  have h1:b<(top+1)*1000000000^((dg b).length-1):=by
   rw [htop,Nat.mul_comm];exact Nat.lt_mul_div_succ b hp
  calc b*s<(top+1)*1000000000^((dg b).length-1)*s:=Nat.mul_lt_mul_of_pos_right h1 hs0
   _=s*(top+1)*1000000000^((dg b).length-1):=by simp only [Nat.mul_comm,Nat.mul_left_comm,Nat.mul_assoc]
   _≤1000000000*1000000000^((dg b).length-1):=Nat.mul_le_mul_right _ hs
   _=1000000000^(dg b).length:=by rw [Nat.mul_comm,←Nat.pow_succ];congr 1;omega
 ·exact jH (Nat.le_mul_of_pos_right b hs0)
set_option maxHeartbeats 1000000 in
theorem BR (a b:Nat) (hb0:0<b) (hs:(dg a).length+(dg b).length<274877906944:=by omega):aL prog 143 [(mT a:aI),(mT b:aI)] (.ret [mT (a/b),mT (a%b)]):=by
 refine bV func143 SX ?_;apply aA (oD a b) rfl;apply vn bA rfl;dsimp only [aG,aH];rw [show decide (eE (a:Int) (b:Int)<0)=decide (a<b) by rw [decide_eq_decide,nB];omega];refine vs _ rfl ?_ ?_<;>intro h2
 ·refine fR ⟨⟨Ty (Nat.div_eq_of_lt h2),trivial⟩,⟨?_,trivial⟩,trivial⟩;rw [Nat.mod_eq_of_lt h2];exact aN.Sub.same
 have hbl:0<(dg b).length:=by
  rcases Nat.eq_zero_or_pos (dg b).length with h | h
  ·exact (Nat.ne_of_gt hb0 (sC.1 (List.eq_nil_of_length_eq_zero h))).elim
  ·exact h
 have hlen:=jH (Nat.le_of_not_lt h2);apply vn (aW cM (bE _)) rfl;apply vn aE rfl;refine vs _ rfl ?_ ?_<;>intro h6
 ·have hb:b<1000000000:=by
   have:=Ic b;rw [show (dg b).length=1 by omega] at this;omega
  have e1:=kS hb0 hb;apply vn (cY cM (show (dg b)[0]? = some b by rw [e1];rfl)) rfl;apply vn (cV nE) rfl;dsimp only [aG,aH];apply aA (KY a b hb0 hb) rfl;exact aJ rfl
 obtain ⟨top,htop⟩:∃ t,(dg b)[(dg b).length-1]? = some t:=⟨_,dS (by omega)⟩
 have htB:=(iB b).get htop
 have htv:top=b/1000000000^((dg b).length-1):=by
  have h1:=RZ (n:=b) (i:=(dg b).length-1);rw [htop] at h1;simp only [aM] at h1;rw [h1,Nat.mod_eq_of_lt];rw [Nat.div_lt_iff_lt_mul (Nat.pow_pos (by omega)),Nat.mul_comm,MH hbl];exact Ic b
 have ht0:0<top:=by
  rw [htv];exact Nat.div_pos (RH) (Nat.pow_pos (by omega))
 obtain ⟨s,hs'⟩:∃ s,1000000000/(top+1)=s:=⟨_,rfl⟩
 have hsle:s*(top+1)≤1000000000:=by rw [←hs'];exact Nat.div_mul_le_self _ _
 have hs0:0<s:=by rw [←hs'];exact Nat.div_pos (by omega) (by omega)
 have hsB:s<1000000000:=by
  rw [←hs'];exact Nat.div_lt_self (by omega) (by omega)
 have hvl:=Qb hs0 hsle htv;apply vn (aW cM (bE _)) rfl;apply vn (aQ) rfl;apply vn (cY cM htop) rfl;apply vn (cV nE) rfl;dsimp only [aG,aH];apply vn (jJ) rfl;dsimp only [aG,aH];apply vn (lI (c:=(s:Int)) (by omega) (by rw [Int.tdiv_eq_ediv_of_nonneg (by omega),show ((1000000000:Int)/((top:Int)+1))=((1000000000/(top+1):Nat):Int) by simp,hs',sX]<;>omega)) rfl;apply vn (nI ⟨_,fD⟩ gB) rfl;apply aA (fG s) rfl;apply aA (gV b s (by rw [kS hs0 hsB];simp;omega)) rfl;obtain ⟨V,hV⟩:∃ V,b*s=V:=⟨_,rfl⟩
 obtain ⟨S,hS⟩:∃ S,a*s=S:=⟨_,rfl⟩
 rw [hV] at hvl ⊢;have hV0:0<V:=by rw [←hV];exact Nat.mul_pos hb0 hs0
 dsimp only [aG,aH];apply vn (aW cM (bE _)) rfl;apply vn (aW cM (bE _)) rfl;apply vn (aD) rfl;dsimp only [aG,aH];refine vP (n:=(dg a).length+1) (f:=fun d:Nat=>[aN.int .u32 (d:Int)]) 0 rfl rfl (by omega) rfl (by omega) (by simp only [maxLen];omega) ?_;apply aA (gV a s (by rw [kS hs0 hsB];simp;omega)) rfl;rw [hS]
 have hSlt:S<1000000000^((dg a).length+1):=by
  rw [←hS,Nat.pow_succ];exact Nat.mul_lt_mul'' (Ic a) hsB
 have hSle:=zR hSlt
 have hSV:S<V*1000000000^((dg a).length+1-(dg b).length):=by
  rw [←hS,←hV];have h1:=Ic a;have h2:=RH (n:=b)
  have h3:1000000000^(dg a).length≤b*1000000000^((dg a).length+1-(dg b).length):=by
   refine Nat.le_trans (Nat.le_of_eq ?_) (Nat.mul_le_mul_right _ h2);rw [←Nat.pow_add];congr 1;omega
  calc a*s<b*1000000000^((dg a).length+1-(dg b).length)*s:=Nat.mul_lt_mul_of_pos_right (Nat.lt_of_lt_of_le h1 h3) hs0
   _=_:=by simp only [Nat.mul_comm,Nat.mul_left_comm,Nat.mul_assoc]
 obtain ⟨L,hL⟩:∃ L,(dg a).length+1=L:=⟨_,rfl⟩
 rw [hL] at hSlt hSle hSV;dsimp only [aG,aH];refine RL (xs:=dg S) (zs:=List.replicate ((dg a).length+1) 0) (ws:=pd 1000000000 L S) (fun _=>rfl) rfl rfl cM (by simp;omega) (by simp) (Mj (by omega) ((DB.iG (by omega) S).append ((DB.rep (by omega) _).drop _)) (by simp only [dR,List.length_drop,List.length_replicate];show (dg S).length+_=_;omega) (by rw [List.drop_replicate,gH,OJ];show lv (dg S)+_=_;rw [fQ,Nat.mul_zero,Nat.add_zero])) ?_;refine SF (n:=L) rfl (by simp) ?_;apply vn (aQ) rfl;dsimp only [aG,aH];refine vP (n:=L-(dg b).length) (f:=fun d:Nat=>[aN.int .u32 (d:Int)]) 0 rfl rfl (by rw [hvl];omega) rfl (by omega) (by simp only [maxLen];omega) ?_;refine SF (n:=L-(dg b).length) rfl (by simp) ?_;apply vn (aQ) rfl;dsimp only [aG,aH];obtain ⟨m,hm⟩:∃ m,L-(dg b).length=m:=⟨_,rfl⟩
 rw [hm] at hSV ⊢;rw [hvl];obtain ⟨nv,hnv⟩:∃ n,(dg b).length=n:=⟨_,rfl⟩
 rw [hnv] at hvl htv htop hbl hlen hm hs ⊢;refine bD {g:Nat×List Nat×Nat // Mo S V L m g.1 g.2.1 g.2.2} (fun g=>[.one (.int .i64 ((g.1.1:Int)-1)), .rows (rT g.1.2.1), .rows (rT (pd 1000000000 L g.1.2.2))]) (fun g=>g.1.1) ⟨(m,List.replicate m 0,S),⟨bZ _,by simp,Dg.rep _,by simp [lv,val],by rw [Nat.div_lt_iff_lt_mul (Nat.pow_pos (by omega))];exact hSV,hSlt⟩⟩ aR.rfl (fun _=>rfl) ?_;rintro ⟨⟨n,os,R⟩,hI⟩;dsimp only [aG,aH] at hI ⊢;have hnm:=hI.le;have hol:=hI.len;have hfit:=hI.fit;have hLs:L<549755813888:=by omega
 have hnvL:nv<L:=by omega
 apply vn eY rfl;refine vs _ rfl ?_ ?_<;>intro h33
 ·clear htop htB htv ht0 hs' hsle hSV hSlt hSle hs hlen hL hnv h2 h6 hS hV hsB hs0;obtain ⟨i,rfl⟩:∃ i,n=i+1:=⟨n-1,by omega⟩
  obtain ⟨hX1,hX2,_,_⟩:=Fa (B:=1000000000) (by omega) hV0 hI.eq hI.lt;obtain ⟨X,hX⟩:∃ X,R/1000000000^i=X:=⟨_,rfl⟩
  have hVlt:V<1000000000^nv:=by rw [←hvl];exact Ic V
  have hXlt:X<1000000000^(nv+1):=by
   rw [Nat.pow_succ,←hX];exact Nat.lt_trans hX1 (Nat.mul_lt_mul_of_pos_right hVlt (by omega))
  have hRtop:R/1000000000^(i+(nv+1))=0:=by
   rw [Nat.pow_add,←Nat.div_div_eq_div_mul,hX];exact Nat.div_eq_of_lt hXlt
  have hRnv:R/1000000000^(i+nv)<1000000000:=by
   rw [Nat.pow_add,←Nat.div_div_eq_div_mul,hX,Nat.div_lt_iff_lt_mul (Nat.pow_pos (by omega)),Nat.mul_comm,←Nat.pow_succ];exact hXlt
  have htwo:=an4 hbl hRnv;rw [hX] at htwo hX1 hX2;obtain ⟨r1,hr1⟩:∃ r,R/1000000000^(i+nv)%1000000000=r:=⟨_,rfl⟩
  obtain ⟨r2,hr2⟩:∃ r,R/1000000000^(i+nv-1)%1000000000=r:=⟨_,rfl⟩
  have hr1B:r1<1000000000:=by rw [←hr1];exact Nat.mod_lt _ (by omega)
  have hr2B:r2<1000000000:=by rw [←hr2];exact Nat.mod_lt _ (by omega)
  have hg1:(pd 1000000000 L R)[i+nv]? = some r1:=by rw [xT _ (by omega),hr1]
  have hg2:(pd 1000000000 L R)[i+nv-1]? = some r2:=by rw [xT _ (by omega),hr2]
  rw [hr1,hr2] at htwo;obtain ⟨vt,hvt⟩:∃ t,V/1000000000^(nv-1)=t:=⟨_,rfl⟩
  have hvtB:vt<1000000000:=by
   rw [←hvt,Nat.div_lt_iff_lt_mul (Nat.pow_pos (by omega)),Nat.mul_comm,MH hbl];exact hVlt
  have hvt0:0<vt:=by
   have:=RH (n:=V);rw [hvl] at this;rw [←hvt];exact Nat.div_pos this (Nat.pow_pos (by omega))
  have hgv:(dg V)[nv-1]? = some vt:=by
   rw [RZ,hvt,Nat.mod_eq_of_lt hvtB]
  obtain ⟨g,hg⟩:∃ g,min ((r1*1000000000+r2)/vt) 999999999=g:=⟨_,rfl⟩
  have hgB:g<1000000000:=by rw [←hg];exact Nat.lt_of_le_of_lt (Nat.min_le_right _ _) (by decide)
  have hgq:X/V≤g:=by
   rw [←hg];have h1:=SN (B:=1000000000) (X:=X) (V:=V) (n:=nv-1) (by rw [hvt];exact hvt0);rw [hvt,←htwo] at h1;exact Nat.le_min.2 ⟨h1,Nat.le_of_lt_succ hX2⟩
  have hpdl:(pd 1000000000 L R).length=L:=dK _ _;apply vn (aD) rfl;refine cZ rfl rfl (by omega) (by rw [dK];omega) ?_;refine mJ rfl rfl (by omega) (by omega) hg1 rfl ?_;apply vn (nI ⟨_,fD⟩ gB) rfl;dsimp only [aG,aH];apply vn (QM) rfl;apply vn (aD) rfl;apply vn (aQ) rfl;refine cZ rfl rfl (by omega) (by rw [dK];omega) ?_;refine mJ rfl rfl (by omega) (by omega) hg2 rfl ?_;dsimp only [aG,aH];apply vn (nI ⟨_,fD⟩ gB) rfl;apply vn (Qn) rfl;apply vn (aQ) rfl;apply vn (cY cM hgv) rfl;dsimp only [aG,aH];apply vn (cV nE) rfl;apply vn (nI ⟨_,fD⟩ gB) rfl;apply vn (ak9 (a:=r1*1000000000+r2) (by rw [Int.natCast_add,Int.natCast_mul];rfl) hvt0 (an7 hr1B hr2B)) rfl;apply vn YU rfl;dsimp only [aG,aH];rw [RY,hg];apply vn (aD) rfl;apply vn (aD) rfl;apply vn (aD) rfl;apply vn (aD) rfl;dsimp only [aG,aH];refine aG7 (n:=i) (m:=i+nv+1) rfl (by show aN.int .i64 _=aN.int .i64 _;congr 1;omega) (by show aN.int .i64 _=aN.int .i64 _;congr 1;omega) (by show aN.int .i64 _=aN.int .i64 _;congr 1;omega) (by omega) (by simp;omega) ?_
  have hgV:g*V<1000000000^(nv+1):=by
   rw [Nat.pow_succ,Nat.mul_comm (1000000000^nv)];exact Nat.lt_of_lt_of_le (Nat.mul_lt_mul_of_pos_right (by omega:g<1000000000) hV0) (Nat.mul_le_mul_left _ (Nat.le_of_lt hVlt))
  have hview:∀ Y,Y<1000000000^(nv+1)→((rT (pd 1000000000 L (R%1000000000^i+1000000000^i*Y))).take (i+nv+1)).drop i=rT (pd 1000000000 (nv+1) Y):=by
   intro Y hY;rw [rT,rT,←List.map_take,←List.map_drop,IU _ (by omega),KD,show i+nv+1-i=nv+1 by omega]
   congr 2
   rw [Nat.add_mul_div_left _ _ (Nat.pow_pos (by omega)),Nat.div_eq_of_lt (Nat.mod_lt _ (Nat.pow_pos (by omega))),Nat.zero_add]
  have hfitY:∀ Y,Y<1000000000^(nv+1)→R%1000000000^i+1000000000^i*Y<1000000000^L:=by
   intro Y hY;have h1:R%1000000000^i<1000000000^i:=Nat.mod_lt _ (Nat.pow_pos (by omega));have h2:1000000000^i*(Y+1)≤1000000000^i*1000000000^(nv+1):=Nat.mul_le_mul_left _ hY;rw [←Nat.pow_add] at h2;have h3:1000000000^(i+(nv+1))≤1000000000^L:=Nat.pow_le_pow_right (by omega) (by omega);rw [Nat.mul_add,Nat.mul_one] at h2;omega
  have hput:∀ Y Z,Y<1000000000^(nv+1)→Z<1000000000^(nv+1)→(rT (pd 1000000000 L (R%1000000000^i+1000000000^i*Y))).take i++rT (pd 1000000000 (nv+1) Z)++(rT (pd 1000000000 L (R%1000000000^i+1000000000^i*Y))).drop (i+(rT (pd 1000000000 (nv+1) Y)).length)=rT (pd 1000000000 L (R%1000000000^i+1000000000^i*Z)):=by
   intro Y Z hY hZ;have hp:0<1000000000^i:=Nat.pow_pos (by omega);have hm:R%1000000000^i<1000000000^i:=Nat.mod_lt _ hp;rw [bK,dK,rT,rT,rT,←List.map_take,←List.map_drop,←List.map_append,←List.map_append,Qz (hfitY Y hY) hZ]
   have e:(R%1000000000^i+1000000000^i*Y)/1000000000^(i+(nv+1))=0:=by
    rw [Nat.pow_add 1000000000 i,←Nat.div_div_eq_div_mul,Nat.add_mul_div_left _ _ hp,Nat.div_eq_of_lt hm,Nat.zero_add];exact Nat.div_eq_of_lt hY
   rw [e,Nat.add_mul_mod_self_left,Nat.mod_eq_of_lt hm,Nat.mul_zero,Nat.add_zero]
  have hRX:R=R%1000000000^i+1000000000^i*X:=by rw [←hX];exact (Nat.mod_add_div _ _).symm
  have hsub:=Nz (pd 1000000000 (nv+1) X) (dg V) g (Dp (by omega) _ _) (iB V) hgB (by rw [dK];omega) (by rw [dK];omega);have hlvX:∀ Y,Y<1000000000^(nv+1)→lv (pd 1000000000 (nv+1) Y)=Y:=fun Y hY=>by rw [lv,sD,Nat.mod_eq_of_lt hY]
  rw [hlvX X hXlt,fQ,dK] at hsub
  have hgive:∀ Y,Y<1000000000^(nv+1)→qU prog 184 167 1 [] [.one (.slice 1 (rT (dg V)))] (rT (pd 1000000000 (nv+1) Y)) [.one (.bool (decide (1000000000^(nv+1)≤Y+V)))] (rT (pd 1000000000 (nv+1) (Y+V-1000000000^(nv+1)*(if 1000000000^(nv+1)≤Y+V then 1 else 0)))):=by
   intro Y hY;have h1:=Ot (pd 1000000000 (nv+1) Y) (dg V) (Dp (by omega) _ _) (iB V) (by rw [dK];omega) (by rw [dK];omega);rw [hlvX Y hY,fQ,dK] at h1;exact h1
  have hok:os[i]? = some (os[i]'(by omega)):=dS (by omega);have hVB:V<1000000000^(nv+1):=Nat.lt_of_lt_of_le hVlt (Nat.pow_le_pow_right (by omega) (by omega));have hXV:X%V<1000000000^(nv+1):=Nat.lt_trans (Nat.mod_lt _ hV0) hVB
  have hN:Mo S V L m i (os.set i (X/V)) (R%1000000000^i+1000000000^i*(X%V)):=by
   have:=hI.next hV0 rfl;rw [hX] at this;exact this
  clear hI htwo hg hr1 hr2 hg1 hg2 hvt hgv hvt0 hvtB hX hRnv hRtop hr1B hr2B hpdl hlvX hfit
  refine ar0 (n:=i) (vs:=rT (pd 1000000000 L (R%1000000000^i+1000000000^i*(X+1000000000^(nv+1)*(if X<g*V then 1 else 0)-g*V)))) (ts:=rT (pd 1000000000 L R)) (us:=rT (pd 1000000000 (nv+1) X)) rfl ⟨.i64, .i64,i+nv+1,(by show aN.int .i64 _=aN.int .i64 _;congr 1;omega),(by show aN.int .i64 _=aN.int .i64 _;congr 1;omega),by omega,by simp;omega,by rw [←hview X hXlt,←hRX]⟩ (by simp [pd]) rfl (LQ rfl hsub) (by
   conv=>lhs;rw [hRX]
   exact hput X _ hXlt (by split<;>omega)) ?_
  refine vs _ rfl ?_ ?_<;>intro h57
  ·refine bD {p:Bool×Nat // if p.1 then p.2=X/V else X<p.2*V∧p.2<1000000000} (fun p=>[.one (.bool p.1.1), .one (.int .u64 p.1.2), .rows (rT (pd 1000000000 L (R%1000000000^i+1000000000^i*Wq (1000000000^(nv+1)) X V p.1)))]) (fun p=>if p.1.1 then 0 else p.1.2+1) ⟨(false,g),by simp only [Bool.false_eq_true,if_false];exact ⟨h57,hgB⟩⟩ ⟨aI.Sub.same,aI.Sub.same,aI.Sub.of_eq (congrArg (fun y=>aI.rows (rT (pd 1000000000 L (R%1000000000^i+1000000000^i*y)))) (by simp only [Wq,Bool.false_eq_true,if_false];rw [if_pos h57,Nat.mul_one])),trivial⟩ (fun _=>rfl) ?_;rintro ⟨⟨made,g'⟩,hp⟩;dsimp only [aG,aH] at hp ⊢;apply vn DI rfl;refine cC (!made) rfl (fun h60=>?_) (fun h60=>?_)
   ·have hmd:made=false:=by simpa using h60
    subst hmd;simp only [Bool.false_eq_true,if_false] at hp
    have hgV':g'*V<1000000000^(nv+1):=by
     rw [Nat.pow_succ,Nat.mul_comm (1000000000^nv)];exact Nat.lt_of_lt_of_le (Nat.mul_lt_mul_of_pos_right (by omega:g'<1000000000) hV0) (Nat.mul_le_mul_left _ (Nat.le_of_lt hVlt))
    have hg0:0<g':=by
     rcases Nat.eq_zero_or_pos g' with h | h
     ·rw [h] at hp;omega
     ·exact h
    have hgm:(g'-1)*V+V=g'*V:=by
     obtain ⟨k,rfl⟩:∃ k,g'=k+1:=⟨g'-1,by omega⟩
     rw [Nat.add_sub_cancel,Nat.add_mul,Nat.one_mul]
    obtain ⟨W,hW⟩:∃ W,1000000000^(nv+1)=W:=⟨_,rfl⟩
    have hYe:Wq W X V (false,g')=X+W-g'*V:=by simp [Wq]
    have hnew:X+W-g'*V+V-W*(if W≤X+W-g'*V+V then 1 else 0)=Wq W X V (decide (W≤X+W-g'*V+V),g'-1):=by
     rw [hW] at hgV' hXlt;by_cases hc:W≤X+W-g'*V+V
     ·rw [if_pos hc,Nat.mul_one];simp only [Wq,hc,decide_true,if_true];have hq:X/V=g'-1:=rM hV0 (by rw [show g'-1+1=g' by omega];exact hp.1);have h1:=Nat.mod_add_div X V;rw [hq,Nat.mul_comm] at h1;omega
     ·rw [if_neg hc,Nat.mul_zero];simp only [Wq,hc,decide_false,Bool.false_eq_true,if_false];omega
    rw [hW] at hview hput hgive hXlt hgV';have hYlt:X+W-g'*V<W:=by omega
    have hput1:=hput (X+W-g'*V) (X+W-g'*V+V-W*(if W≤X+W-g'*V+V then 1 else 0)) hYlt (by split<;>omega);rw [hnew] at hput1;rw [hW,hYe];refine ar0 (n:=i) (ts:=rT (pd 1000000000 L (R%1000000000^i+1000000000^i*(X+W-g'*V)))) (us:=rT (pd 1000000000 (nv+1) (X+W-g'*V))) (us':=rT (pd 1000000000 (nv+1) (Wq W X V (decide (W≤X+W-g'*V+V),g'-1)))) rfl ⟨.i64, .i64,i+nv+1,(by show aN.int .i64 _=aN.int .i64 _;congr 1;omega),(by show aN.int .i64 _=aN.int .i64 _;congr 1;omega),by omega,by simp;omega,(hview _ hYlt).symm⟩ (by simp [pd]) rfl (LQ rfl (hnew▸hgive _ hYlt)) hput1 ?_;apply vn (QW) rfl;dsimp only [aG,aH];have hg1':(g':Int)-1=((g'-1:Nat):Int):=by clear hN hput hview hgive hfitY;omega
    refine aX rfl ⟨⟨(decide (W≤X+W-g'*V+V),g'-1),?_⟩,⟨aI.Sub.same,aI.Sub.of_eq (congrArg (fun q=>aI.one (aN.int .u64 q)) hg1'),aI.Sub.of_eq ?_,trivial⟩,?_⟩
    ·by_cases hc:W≤X+W-g'*V+V
     ·simp only [hc,decide_true,if_true];exact (rM hV0 (by rw [show g'-1+1=g' by omega];exact hp.1)).symm
     ·simp only [hc,decide_false,Bool.false_eq_true,if_false];omega
    ·dsimp only;rfl
    ·dsimp only;by_cases hc:W≤X+W-g'*V+V
     ·simp [hc]
     ·simp [hc];omega
   have hmd:made=true:=by simpa using h60
   subst hmd;simp only [if_true] at hp;subst hp;simp only [Wq,if_true];apply vn (kW ⟨_,gB⟩ fD (kJ _) (Ox hX2)) rfl;refine cZ rfl rfl (by omega) (by omega) ?_;refine kR (d':=X/V) rfl rfl (by omega) (by omega) hok rfl ?_;apply vn (aQ) rfl;dsimp only [aG,aH];exact aX rfl ⟨⟨(i,os.set i (X/V),R%1000000000^i+1000000000^i*(X%V)),hN⟩,⟨aI.Sub.of_eq (congrArg (fun q=>aI.one (aN.int .i64 q)) (Za i)),aI.Sub.same,aI.Sub.same,trivial⟩,by show i<i+1;omega⟩
  have hq:X/V=g:=Nat.le_antisymm hgq (by rw [Nat.le_div_iff_mul_le hV0];omega)
  have hmod:X+1000000000^(nv+1)*(if X<g*V then 1 else 0)-g*V=X%V:=by
   rw [if_neg h57,Nat.mul_zero,Nat.add_zero];have h1:=Nat.mod_add_div X V;rw [hq,Nat.mul_comm] at h1;omega
  rw [hmod];rw [hq] at hN;apply vn (kW ⟨_,gB⟩ fD (kJ _) (Ox hgB)) rfl;refine cZ rfl rfl (by omega) (by omega) ?_;refine kR (d':=g) rfl rfl (by omega) (by omega) hok rfl ?_;apply vn (aQ) rfl;dsimp only [aG,aH];exact aX rfl ⟨⟨(i,os.set i g,R%1000000000^i+1000000000^i*(X%V)),hN⟩,⟨aI.Sub.of_eq (congrArg (fun q=>aI.one (aN.int .i64 q)) (Za i)),aI.Sub.same,aI.Sub.same,trivial⟩,by show i<i+1;omega⟩
 have hn0:n=0:=by omega
 subst hn0;have heq:=hI.eq;have hlt:=hI.lt;rw [List.drop_zero,Nat.pow_zero,Nat.mul_one] at heq;rw [Nat.pow_zero,Nat.div_one] at hlt;obtain ⟨hQ,hR⟩:=sK heq hlt;have hQ2:lv os=a/b:=by rw [hQ,←hS,←hV,Nat.mul_div_mul_right _ _ hs0]
 have hR2:R=a%b*s:=by rw [hR,←hS,←hV,Nat.mul_mod_mul_right]
 apply aA (gN (pd 1000000000 L R) (Dp (by omega) _ _) (by rw [dK];omega)) rfl;rw [show lv (pd 1000000000 L R)=R by rw [lv,sD,Nat.mod_eq_of_lt hfit]];apply aA (Xq R s hs0 hsB (by have:=zR hfit;omega)) rfl;apply aA (gN os hI.dg) rfl;dsimp only [aG,aH];refine aJ ?_;rw [hQ2,hR2,Nat.mul_div_cancel _ hs0];rfl
open Go Go.Proofs Go.RowKit Go.Shelf Tryz Ord
attribute [local go_sem] Oper.semAt_some
section
variable {α:Type} [Inhabited α] {enc:α→Value}
def bk (vs:List α) (k:Nat):List (Nat×α):=(List.range k).map fun j=>(vs.length-1-j,vs[vs.length-1-j]?.getD default)
theorem Pq (vs:List α) (k:Nat):bk vs (k+1)=bk vs k ++ [(vs.length-1-k,vs[vs.length-1-k]?.getD default)]:=by simp [bk,List.range_succ]
theorem Qj (vs:List α) (k:Nat):(bk vs k).length=k:=by simp [bk]
def KpB (n₀ Bs:Nat) (A B:World):Prop:=Below n₀ A B∧∀ v,A.cell? ⟨Bs,0,none⟩=some v→B.cell? ⟨Bs,0,none⟩=some v
set_option maxRecDepth 100000 in
set_option maxHeartbeats 2000000 in
theorem QP (l Bs n₀ b off cap:Nat) (vs:List α) (hlen:vs.length<4611686018427387904) (hb:b<n₀) (J Jx:List (Nat×α)→World→Prop)
  (hY:∀ pre x W,J pre W→pre.length<vs.length→YieldAt Fence.wide (1000-1) prog l #[.int .i64 (x.1:Int),enc x.2] W fun e W'=>
   (e = .returned (.bool true)∧J (pre ++ [x]) W'∧KpB n₀ Bs W W')∨(e = .returned (.bool false)∧Jx (pre ++ [x]) W'))
  (W:World) (hBs:W.cell? ⟨Bs,0,none⟩=some (.slice (some ⟨b,off,none⟩) vs.length cap)) (hc:∀ j v,vs[j]? = some v→W.cell? ⟨b,off+j,none⟩=some (enc v)) (h0:J [] W) :
  CallsIn Fence.wide 1000 prog 174 #[.func (.yield l) #[] #[], .pointer (some ⟨Bs,0,none⟩)] W fun e W'=>(∃ v,e = .returned v) ∧
   ((∃ ys,ys=bk vs vs.length∧J ys W')∨(∃ pre,(∃ k,k≤vs.length∧pre=bk vs k)∧Jx pre W')):=by
 refine callsIn_of_wp func174 rfl trivial ?_ rfl;simp only [ntmps174,List.size_toArray,List.length_cons,List.length_nil,Nat.reduceAdd,Nat.reduceSub,Array.replicate_succ,Array.replicate_zero,List.push_toArray,List.append_toArray,List.nil_append,List.cons_append];obtain ⟨N,hN⟩:∃ N,vs.length=N:=⟨_,rfl⟩
 rw [hN] at hBs hY hlen ⊢
 gi_wp2
 gi_loopw [3] (fun i wr=>∃ k:Nat,k≤N∧i = .int .i64 ((N:Int)-1-k)∧J (bk vs k) wr∧Below n₀ W wr∧wr.cell? ⟨Bs,0,none⟩=some (.slice (some ⟨b,off,none⟩) N cap))
  (fun i _=>(intOf i+1).toNat)
 case atStart=>exact ⟨0,eS _,by simp,h0,Below.refl _ _,hBs⟩
 case round=>
  obtain ⟨k,hk,rfl,hJs,hnx,hBx⟩:=hrel;have hmeas:(intOf (.int .i64 ((N:Int)-1-k))+1).toNat=N-k:=by simp [intOf];omega
  by_cases hlt:k<N
  ·have hv:vs[N-1-k]? = some (vs[N-1-k]?.getD default):=by rw [dS (by omega)];rfl
   have hcx:wr.cell? ⟨b,off+(N-1-k),none⟩=some (enc (vs[N-1-k]?.getD default)):=(hnx.cell (p:=⟨b,off+(N-1-k),none⟩) hb).trans (hc _ _ hv);obtain ⟨fn,tmps,assign,body,hy,hR⟩:=hY _ (N-1-k,vs[N-1-k]?.getD default) wr hJs (by rw [Qj];exact hlt);generalize hx:vs[N-1-k]?.getD default=x at hy hR hcx;have hsucc:bk vs (k+1)=bk vs k ++ [(N-1-k,x)]:=by rw [Pq,hN,hx]
   have e1:(N:Int)-1-k=((N-1-k:Nat):Int):=by omega
   have hn1:N-1-k<N:=by omega
   have e2:(wr.cell? ⟨b,off+(N-1-k),none⟩)=some (enc x):=hcx;rw [e1]
   gi_wp2
   refine hR.mono ?_;rintro e W3 (⟨rfl,hJ3,hk3⟩ | ⟨rfl,hJx3⟩)
   ·gi_wp2
    go_roundw
    case rel=>exact ⟨k+1,by omega,by congr 1;omega,by rw [hsucc];exact hJ3,hnx.trans hk3.1,hk3.2 _ hBx⟩
    case measure=>simp [intOf]
   ·gi_wp2
    refine bodyPost_ret (results_none rfl _ _ _) rfl ?_;exact ⟨⟨_,rfl⟩, .inr ⟨_,⟨k+1,by omega,rfl⟩,by rw [hsucc];exact hJx3⟩⟩
  ·obtain rfl:k=N:=by omega
   gi_wp2
   go_end0
   exact ⟨⟨_,rfl⟩, .inl ⟨_,rfl,hJs⟩⟩
set_option maxRecDepth 100000 in
set_option maxHeartbeats 1000000 in
theorem Nj {α:Type} (l Bs:Nat) (a:Option Addr) (cap:Nat) (J:List (Nat×α)→World→Prop) (W:World) (hBs:W.cell? ⟨Bs,0,none⟩=some (.slice a 0 cap)) (h0:J [] W) :
  CallsIn Fence.wide 1000 prog 174 #[.func (.yield l) #[] #[], .pointer (some ⟨Bs,0,none⟩)] W fun e W'=>(∃ v,e = .returned v)∧J [] W':=by
 refine callsIn_of_wp func174 rfl trivial ?_ rfl;simp only [ntmps174,List.size_toArray,List.length_cons,List.length_nil,Nat.reduceAdd,Nat.reduceSub,Array.replicate_succ,Array.replicate_zero,List.push_toArray,List.append_toArray,List.nil_append,List.cons_append]
 gi_wp2
 gi_loopw [3] (fun i wr=>i = .int .i64 (-1)∧J [] wr) (fun _ _=>0)
 case atStart=>exact ⟨rfl,h0⟩
 case round=>
  obtain ⟨rfl,hJs⟩:=hrel
  gi_wp2
  go_end0
  exact ⟨⟨_,rfl⟩,hJs⟩
set_option maxHeartbeats 1000000 in
theorem vK (n:Nat) (a:Option Addr) (len cap:Nat) (w:World) :
  CallsIn Fence.wide n prog 132 #[.slice a len cap] w fun e w'=>e = .returned (.func (.func 174) #[] #[.pointer (some ⟨w.heap.size,0,none⟩)])∧w'=w.alloc (.cells #[.slice a len cap] 24):=by
 refine callsIn_of_wp func132 rfl trivial ?_ rfl;simp only [ntmps132,List.size_toArray,List.length_cons,List.length_nil,Nat.reduceAdd,Nat.reduceSub,Array.replicate_succ,Array.replicate_zero,List.push_toArray,List.append_toArray,List.nil_append,List.cons_append]
 gi_wp2
 go_ret
 exact ⟨rfl,rfl⟩
def VB (enc:α→Value) (n₀:Nat) (W:World) (sv:Value) (vs:List α):Prop:=
 ∃ a cap,sv = .slice a vs.length cap∧(vs = []∨∃ b off,a=some ⟨b,off,none⟩∧b<n₀∧∀ j v,vs[j]? = some v→W.cell? ⟨b,off+j,none⟩=some (enc v))
theorem VB.below {α:Type} {enc:α→Value} {n₀:Nat} {A B:World} (h:Below n₀ A B) {sv:Value} {vs:List α}:VB enc n₀ A sv vs→VB enc n₀ B sv vs:=by
 rintro ⟨a,cap,e,rfl | ⟨b,off,rfl,hb,hc⟩⟩
 ·exact ⟨a,cap,e, .inl rfl⟩
 ·exact ⟨_,cap,e, .inr ⟨b,off,rfl,hb,fun j v hj=>(h.cell (p:=⟨b,off+j,none⟩) hb).trans (hc j v hj)⟩⟩
theorem nV (Bs n₀:Nat) (sv:Value) (vs:List α) (hlen:vs.length<4611686018427387904) (w:World) (hBs:Bs<w.heap.size) (hn₀:n₀≤w.heap.size)
  (hc:w.cell? ⟨Bs,0,none⟩=some sv) (hI:VB enc n₀ w sv vs) :
  SeqStopsK Fence.wide 1000 prog 174 #[.pointer (some ⟨Bs,0,none⟩)] (fun x:Nat×α=>#[Value.int .i64 (x.1:Int),enc x.2]) (KpB n₀ Bs) (fun ys=>ys=bk vs vs.length) (fun pre=>∃ k,k≤vs.length∧pre=bk vs k) vs.length w:=fun l J Jx W hW _ _ hY h0=>by
 have hc':=(hW.cell (p:=⟨Bs,0,none⟩) hBs).trans hc;obtain ⟨a,cap,rfl,rfl | ⟨b,off,rfl,hb,hcs⟩⟩:=hI.below (hW.mono hn₀)
 ·exact (Nj (α:=α) l Bs a cap J W hc' h0).mono fun e W' ⟨he,hj⟩=>⟨he, .inl ⟨_,rfl,hj⟩⟩
 ·exact (QP (enc:=enc) l Bs n₀ b off cap vs hlen hb J Jx hY W hc' hcs h0)
theorem Tm {n₀ Bs:Nat} {A B C:World} (h:KpB n₀ Bs A B) (k:KpB n₀ Bs B C):KpB n₀ Bs A C:=⟨h.1.trans k.1,fun v hv=>k.2 v (h.2 v hv)⟩
theorem TZ {n₀ Bs:Nat} {w:World} (hn:n₀≤w.heap.size) (hB:Bs<w.heap.size) (W:World) (l:Nat) (o o':Obj) (hl:w.heap.size≤l) (h:W.heap[l]? = some o) (h1:o.isCells=false) (h2:o.isWalk=false):KpB n₀ Bs W (W.putObj l o'):=
 ⟨belowK_b hn W l o o' hl h h1 h2,fun v hv=>by
  have e:(W.putObj l o').heap[Bs]? = W.heap[Bs]?:=World.putObj_heap_other (by omega);simp only [World.cell?,e] at hv ⊢;exact hv⟩
end
def wv (pre:List (Nat×Int)):Int:=pre.foldl (fun n x=>IntKind.u64.wrap (IntKind.u64.wrap (n*1000000000)+IntKind.u64.wrap x.2)) 0
theorem Xf (pre:List (Nat×Int)) (x:Nat×Int):wv (pre ++ [x])=IntKind.u64.wrap (IntKind.u64.wrap (wv pre*1000000000)+IntKind.u64.wrap x.2):=by simp [wv]
theorem TO {n:Nat} (hn:n<1000000000000000000):wv (bk ((dg n).map (fun d:Nat=>(d:Int))) (dg n).length)=(n:Int):=by
 have hl:(dg n).length≤2:=zR (by omega);have hv:=fQ n;have hd:=iB n;generalize dg n=ds at hl hv hd
 match ds,hl with
 | [],_=>simp [lv,val] at hv;subst hv;simp [bk,wv]
 | [a],_=>
   have ha:=hd a (by simp);simp [lv,val] at hv;simp [bk,wv,List.range_succ];simp only [IntKind.wrap_u64];omega
 | [a,b],_=>
   have ha:=hd a (by simp);have hb:=hd b (by simp);simp [lv,val] at hv;simp [bk,wv,List.range_succ];simp only [IntKind.wrap_u64];omega
theorem Po {M:Nat→Prop} {w:World} {v:Value} {ds:List Nat} (h:(aN.slice 1 (rT ds)).rep M w v):VB (fun d:Int=>Value.int .u32 d) w.heap.size w v (ds.map (fun d:Nat=>(d:Int))):=by
 obtain ⟨a,cap,rfl,hc,hm,hel⟩:=h;refine ⟨a,cap,by simp,?_⟩;rcases hel with h | ⟨b,off,cs,T,fz,rfl,hb,hh,hr⟩
 ·left
  have:ds = []:=by cases ds<;>simp_all
  subst this;rfl
 ·refine .inr ⟨b,off,rfl,(eF.1 hh).1,fun j v hj=>?_⟩;rw [eV] at hj;cases hd:ds[j]? with
  | none=>rw [hd] at hj;simp at hj
  | some d=>
    rw [hd] at hj;simp only [Option.map_some,aM] at hj;subst hj;obtain ⟨_,hrep⟩:=hr j _ (kT hd);rw [Nat.mul_one] at hrep;have hl:=hrep.length
    have hlt:off+j<cs.toList.length:=by
     simp only [List.length_cons,List.length_nil,List.length_take,List.length_drop] at hl;omega
    rw [List.drop_eq_getElem_cons hlt,List.take_succ_cons,List.take_zero] at hrep;have h1:cs.toList[off+j] = .int .u32 d:=hrep.1.1;simp only [World.cell?,hh];rw [Array.getElem_toList] at h1;simp [h1,Array.getElem?_eq_getElem (show off+j<cs.size by simpa using hlt)]
set_option maxRecDepth 100000 in
set_option maxHeartbeats 2000000 in
theorem Xr (a:Option Addr) (cap:Nat) (vs:List Int) (hlen:vs.length<4611686018427387904) (w:World) (hI:VB (fun d:Int=>Value.int .u32 d) w.heap.size w (.slice a vs.length cap) vs) :
  CallsIn Fence.wide 1001 prog 181 #[.agg #[.slice a vs.length cap]] w fun e W'=>e = .returned (.int .u64 (wv (bk vs vs.length)))∧Below w.heap.size w W':=by
 refine callsIn_of_wp_marks func181 rfl trivial ?_ rfl;simp only [ntmps181,List.size_toArray,List.length_cons,List.length_nil,Nat.reduceAdd,Nat.reduceSub,Array.replicate_succ,Array.replicate_zero,List.push_toArray,List.append_toArray,List.nil_append,List.cons_append];generalize hL:vs.length=L at hI hlen ⊢
 gi_wp2_with (refine ⟨trivial,?_⟩;gi_at_call 132;refine (vK _ _ _ _ _).mono ?_;rintro e w' ⟨rfl,rfl⟩)
 have bN:=Boxed.new (w.alloc (.cells #[.slice a L cap] 26)) 153 (.int .u64 0);have bS:=Boxed.new ((w.alloc (.cells #[.slice a L cap] 26)).alloc (.cells #[.int .u64 0] 153)) 24 (.slice a L cap);simp only [World.size_alloc] at bN bS;have hB0:Below w.heap.size w (((w.alloc (.cells #[.slice a L cap] 26)).alloc (.cells #[.int .u64 0] 153)).alloc (.cells #[.slice a L cap] 24)):=(((Below.refl _ w).alloc (bZ _) _).alloc (by simp) _).alloc (by simp;omega) _;obtain ⟨W0,hW0⟩:∃ W0,(((w.alloc (.cells #[.slice a L cap] 26)).alloc (.cells #[.int .u64 0] 153)).alloc (.cells #[.slice a L cap] 24))=W0:=⟨_,rfl⟩
 have hs0:W0.heap.size=w.heap.size+3:=by rw [←hW0];simp
 have bN':=bN.alloc (.cells #[.slice a L cap] 24);rw [hW0] at hB0 bS bN' ⊢
 refine wpIn_rangeFunc_ownF (w0:=W0) rfl (by omega) (gf:=174) (lb:=#[.pointer (some ⟨w.heap.size+1+1,0,none⟩)]) rfl trivial (enters_of func174 (by kernel_rfl) rfl)
  (nV (enc:=fun d:Int=>Value.int .u32 d) (w.heap.size+1+1) w.heap.size (.slice a L cap) vs (by omega) W0 (by omega) (by omega) bS.cell (hI.below hB0)) Tm (TZ (by omega) (by omega)) (Below.refl _ _) (fun _=>rfl)
  (fun pre W=>(W.cell? ⟨w.heap.size+1,0,none⟩=some (.int .u64 (wv pre))∧W.frozen? ⟨w.heap.size+1,0,none⟩=false)∧Below w.heap.size w W)
  (fun _ _ _=>False)
  (OwnFrom.and (Own.from (fun s A B row hs hg hr=>⟨cell_kept hs.1 hg hr,(frozen_kept hs.1 hg hr).trans hs.2⟩) _) (ownFrom_below (bZ _) (by omega)))
  (fun _=>by intro s A B row hs;exact hs.elim)
  ⟨⟨bN'.cell,bN'.frozen⟩,hB0⟩
  (fun x=>{ tmps:=#[.agg #[.slice a L cap], .pointer (some ⟨w.heap.size,0,none⟩), .int .u64 0, .pointer (some ⟨w.heap.size+1,0,none⟩),undef, .int .u32 x.2, .pointer (some ⟨w.heap.size,0,none⟩), .slice a L cap, .func (.func 174) #[] #[.pointer (some ⟨w.heap.size+1+1,0,none⟩)], .int .i64 (x.1:Int), .int .u32 x.2,undef,undef,undef,undef,undef,undef],defers:=[] }) ?assign ?body ?done ?stop
 case assign=>
  intro l x W K hK
  gi_wp2
  exact hK
 case body=>
  rintro l pre x W ⟨⟨hcr,hfr⟩,hB⟩ _
  gi_wp2
  refine ⟨KeepsOthers.setCell _ _ _,⟨(Below.refl w.heap.size W).setCell (p:=⟨w.heap.size+1,0,none⟩) (by simp) _,fun v hv=>?_⟩,⟨?_,by rw [World.frozen?_setCell];exact hfr⟩,hB.setCell (p:=⟨w.heap.size+1,0,none⟩) (by simp) _⟩
  ·refine Eq.trans (World.cell?_setCell_other _ _ _ _ ?_) hv;simp
  ·rw [Xf];exact World.cell?_setCell_same' _ _ _ (by rw [hcr];rfl)
 case done=>
  rintro D ys W hD rfl ⟨⟨hcr,hfr⟩,hB⟩ hK
  gi_wp2
  refine ⟨by simp, .inl ⟨_,_,rfl,run_takeDeferred hK,?_⟩⟩;exact ⟨_,results_tmp rfl _ _ _,rfl,hB.trans (belowK_b (w:=w) (bZ _) W D _ _ (by omega) hK rfl rfl)⟩
 case stop=>
  rintro D c pre W hD _ h hK;exact h.elim
set_option maxRecDepth 100000 in
theorem Vq (n:Nat) (hn:n<1000000000000000000):aL prog 181 [mT n] (.ret [.one (.int .u64 n)]):=by
 refine ⟨eG (by kernel_rfl),fun M w vs hM hv=>?_⟩
 match vs,hv with
 | [v],hv=>
   obtain ⟨⟨us,rfl,hus⟩,_⟩:=hv
   match us,hus with
   | [u],hus=>
     have hsl:=Po hus.1;obtain ⟨a,cap,rfl,hel⟩:=hsl;have hl:((dg n).map (fun d:Nat=>(d:Int))).length=(dg n).length:=bE _
     have hlen:(dg n).length<4611686018427387904:=by
      have h2:(dg n).length≤2:=zR (by rw [show (1000000000:Nat)^2=1000000000000000000 by decide];exact hn);omega
     have h1:=Xr a cap ((dg n).map (fun d:Nat=>(d:Int))) (by rw [hl];exact hlen) w ⟨a,cap,rfl,hel⟩;rw [hl,TO hn] at h1;have h2:Calls prog 181 #[.agg #[.slice a (dg n).length cap]] w _:=(callsIn_wide (n:=1001)).1 h1;rw [hl];show Calls prog 181 #[.agg #[.slice a (dg n).length cap]] w _;refine h2.mono ?_;rintro e w' ⟨rfl,hb⟩;exact ⟨hb,[.int .u64 n],rfl,⟨rfl,rfl⟩,trivial⟩
   | [],hus=>exact hus.elim
   | _::_::_,hus=>exact hus.2.elim
 | [],hv=>exact hv.elim
 | _::_::_,hv=>exact hv.2.elim
end Go.Sy
namespace Go.Sy
open Go Go.Proofs Tryz Ord
def aq9:Tr:=aC 181 [(G1 2)] [none] [22] [26] 153 false (aC 181 [(G1 3)] [none] [24] [26] 153 true (.loop 1 [lV 11 0,lV 12 0] (.need (.prim [(W 14 0),(.one (.c (.k (.int .u64 0))))] none) (.binOp .neq 153 (tT 26) (.const (.int .u64 0)) 153) 4 false (.split (.u 15 0) (bG .rem 153 29 30 13 0 14 0 153 (.back 1 [lV 14 0,lV 16 0])) (aC 122 [(W 13 0)] [(some 1)] [32] [153] 26 true (.ret [(G1 16)]))))))
def ax2:Tr:=aO .leq 3 14 2 7 0 4 (.split (.u 8 0) (dH 3 0 18 24 (aO .leq 3 19 2 9 0 4 (.split (.u 10 0) aq9 (aC 143 [(G1 2),(G1 3)] [(some 1),(some 1)] [35,36] [26,26] 174 false (.back 0 [lV 3 0,lV 12 0,lV 4 0]))))) (aC 143 [(G1 2),(G1 3)] [(some 1),(some 1)] [35,36] [26,26] 174 false (.back 0 [lV 3 0,lV 10 0,lV 4 0])))
def Vf:Tr:=.ret [(G1 2)]
def aE6:Tr:=.loop 0 [lV 0 0,lV 1 0,lN] (aC 90 [(G1 3)] [none] [9] [26] 4 true (.need (.prim [(W 5 0)] none) (.unOp .not 4 (tT 10)) 4 false (.split (.u 6 0) (dH 2 0 13 24 ax2) Vf)))
theorem SZ:aK prog f141 (fun _=>none) [.v (some 1), .v (some 1)]=aE6:=by kernel_rfl
def aH0:Tr:=.split (.u 8 0) (aC 98 [(G1 5),(G1 4)] [(some 1)] [14,15] [26,26] 26 true (aO .gtr 3 17 1 3 0 4 (.split (.u 10 0) (aC 98 [(G1 4),(G1 4)] [(some 1)] [19,20] [26,26] 26 true (aO .quo 3 9 2 3 0 3 (.back 0 [lV 12 0,lV 11 0,lV 9 0]))) (aO .quo 3 9 2 3 0 3 (.back 0 [lV 11 0,lV 4 0,lV 9 0]))))) (aO .gtr 3 17 1 3 0 4 (.split (.u 9 0) (aC 98 [(G1 4),(G1 4)] [(some 1)] [19,20] [26,26] 26 true (aO .quo 3 9 2 3 0 3 (.back 0 [lV 11 0,lV 10 0,lV 5 0]))) (aO .quo 3 9 2 3 0 3 (.back 0 [lV 10 0,lV 4 0,lV 5 0]))))
def az5:Tr:=.need (.call 122 [(.one (.c (.k (.int .u64 1))))] [(some 1)]) (.call ⟨.value (.func 122),#[(.const (.int .u64 1))],#[153]⟩) 26 true (.loop 0 [lV 1 0,lV 0 0,lV 2 0] (aO .gtr 3 7 0 3 0 4 (.split (.u 6 0) (aO .rem 3 11 2 3 0 3 (aO .eql 3 12 1 7 0 4 aH0)) (.ret [(G1 5)]))))
theorem VT:aK prog f120 (fun _=>none) [.v (some 1), .v none]=az5:=by kernel_rfl
def PN:Tr:=.ret [(G2 4)]
def aL6:Tr:=bG .neq 4 6 8 0 1 1 1 4 (aC 98 [(G1 0),(G1 1)] [(some 1)] [11,13] [26,26] 26 true (aC 102 [(W 2 0),(G1 3)] [(some 2)] [9,14] [4,26] 28 true PN))
theorem af9:aK prog f97 (fun _=>none) [.v (some 2), .v (some 2)]=aL6:=by kernel_rfl
def Nw:Tr:=.ret [(G2 6)]
def aG4:Tr:=bG .eql 4 7 9 0 1 1 1 4 (.split (.u 2 0) (aC 137 [(G1 0),(G1 1)] [(some 1)] [14,16] [26,26] 26 true (aC 102 [(W 0 1),(G1 3)] [(some 2)] [12,17] [4,26] 28 true PN)) (aC 118 [(G1 0),(G1 1)] [none] [21,23] [26,26] 3 true (aO .lss 3 24 0 3 0 4 (.split (.u 4 0) (aC 121 [(G1 1),(G1 0)] [(some 1)] [29,31] [26,26] 26 true (aC 102 [(W 1 1),(G1 5)] [(some 2)] [27,32] [4,26] 28 true Nw)) (aC 121 [(G1 0),(G1 1)] [(some 1)] [37,39] [26,26] 26 true (aC 102 [(W 0 1),(G1 5)] [(some 2)] [35,40] [4,26] 28 true Nw))))))
theorem ac7:aK prog f146 (fun _=>none) [.v (some 2), .v (some 2)]=aG4:=by kernel_rfl
def aA6:Tr:=aC 90 [(G1 3)] [none] [17] [26] 4 false (.need (.prim [(W 4 0)] none) (.unOp .not 4 (tT 18)) 4 false (.split (.u 5 0) (.need (.call 122 [(.one (.c (.k (.int .u64 1))))] [(some 1)]) (.call ⟨.value (.func 122),#[(.const (.int .u64 1))],#[153]⟩) 26 true (aC 137 [(G1 2),(G1 6)] [(some 1)] [21,22] [26,26] 26 true (aC 102 [(W 0 1),(G1 7)] [(some 2)] [25,26] [4,26] 28 true (.ret [(G2 8)])))) (aC 102 [(W 0 1),(G1 2)] [(some 2)] [25,26] [4,26] 28 true Nw)))
def aF0:Tr:=aC 143 [(G1 0),(G1 1)] [(some 1),(some 1)] [9,10] [26,26] 174 false (.split (.u 0 1) aA6 (aC 102 [(W 0 1),(G1 2)] [(some 2)] [25,26] [4,26] 28 true PN))
theorem Ua:aK prog f145 (fun _=>none) [.v (some 2), .v (some 1)]=aF0:=by kernel_rfl
def av1:Tr:=aO .lss 2 3 0 0 0 4 (.split (.u 1 0) (.need (.prim [(W 0 0)] none) (.convert 2 153 (tT 5)) 153 false (.need (.prim [(W 2 0)] none) (.unOp .neg 153 (tT 6)) 153 false (aC 122 [(W 3 0)] [(some 1)] [7] [153] 26 true (.need (.call 102 [(tF true),(G1 4)] [(some 2)]) (.call ⟨.value (.func 102),#[(.const (.bool true)),(tT 8)],#[4,26]⟩) 28 true (.ret [(G2 5)]))))) (.need (.prim [(W 0 0)] none) (.convert 2 153 (tT 10)) 153 false (aC 122 [(W 2 0)] [(some 1)] [11] [153] 26 true (.need (.call 102 [(tF false),(G1 3)] [(some 2)]) (.call ⟨.value (.func 102),#[(.const (.bool false)),(tT 12)],#[4,26]⟩) 28 true PN))))
theorem Wc:aK prog f86 (fun _=>none) [.v none]=av1:=by kernel_rfl
theorem eP {n B:Nat} (h:n<2^B):(dg n).length≤B:=
 zR (Nat.lt_of_lt_of_le h (Nat.pow_le_pow_left (by omega) B))
theorem OO {n:Nat} (h:(dg n).length≤2:=by omega):n<1000000000000000000:=by
 have h1:=Ic n;have h2:1000000000^(dg n).length≤1000000000^2:=Nat.pow_le_pow_right (by omega) h;rw [show (1000000000:Nat)^2=1000000000000000000 by decide] at h2;omega
theorem ac3 (n:Nat):aL prog 142 [(mT n:aI)] (.ret [.one (.bool (decide (n=1)))]):=by
 refine bV func142 ZZ ?_;apply vn (aW cM (bE _)) rfl;apply vn aE rfl;refine vs _ rfl ?_ ?_<;>intro h2
 ·obtain ⟨d,hd⟩:∃ d,dg n = [d]:=by
   match h:dg n with
   | [d]=>exact ⟨d,rfl⟩
   | []=>rw [h] at h2;simp at h2
   | _::_::_=>rw [h] at h2;simp at h2;omega
  have hv:=fQ n;rw [hd] at hv;apply vn (cY cM (show (dg n)[0]? = some d by rw [hd];rfl)) rfl;apply vn (cV nE) rfl;dsimp only [aG,aH];apply vn aE rfl;dsimp only [aG,aH];refine aJ ?_;have hv:d=n:=by simpa [lv,val] using hv
  subst hv;show [aI.one (.bool (decide ((d:Int)=1)))]=_;have e:((d:Int)=1)↔d=1:=by omega
  simp only [e]
 refine aJ ?_
 have:¬ n=1:=fun e=>by
  subst e;rw [kS] at h2;exact h2 rfl
 simp [this];rfl
set_option maxHeartbeats 1000000 in
theorem Sj (a b:Nat) (hs:(dg (max a b)).length<137438953472):aL prog 141 [(mT a:aI),(mT b:aI)] (.ret [mT (Nat.gcd a b)]):=by
 refine bV func141 SZ ?_;refine bD {p:Nat×Nat // Nat.gcd p.1 p.2=Nat.gcd a b∧p.1≤max a b∧p.2≤max a b} (fun p=>[.one (dT p.1.1), .one (dT p.1.2), .one (.exact (.slice none 0 0))]) (fun p=>p.1.2) ⟨(a,b),rfl,by omega,by omega⟩ aR.rfl (fun _=>rfl) ?_;rintro ⟨⟨x,y⟩,hg,hx,hy⟩;dsimp only [aG,aH] at hg hx hy ⊢;have hxl:=jH hx;have hyl:=jH hy;apply aA (kL y) rfl;apply vn kX rfl;refine vs _ rfl ?_ ?_<;>intro h3
 ·have hy0:0<y:=by omega
  apply vn (aW cM (bE _)) rfl;apply vn gE rfl;dsimp only [aG,aH];refine vs _ rfl ?_ ?_<;>intro h6
  ·apply vn (aW cM (bE _)) rfl;apply vn gE rfl;refine vs _ rfl ?_ ?_<;>intro h9
   ·apply aA (Vq x (OO)) rfl;apply aA (Vq y (OO)) rfl;dsimp only [aG,aH];have hx18:=OO (n:=x);have hy18:=OO (n:=y);clear hxl hyl;refine bD {p:Nat×Nat // Nat.gcd p.1 p.2=Nat.gcd a b∧p.1<1000000000000000000∧p.2<1000000000000000000} (fun p=>[.one (.int .u64 p.1.1), .one (.int .u64 p.1.2)]) (fun p=>p.1.2) ⟨(x,y),hg,hx18,hy18⟩ aR.rfl (fun _=>rfl) ?_;rintro ⟨⟨p,q⟩,hpq,hp,hq⟩;dsimp only [aG,aH] at hpq hp hq ⊢;apply vn cS rfl;refine vs _ rfl ?_ ?_<;>intro h14
    ·apply vn (AL (c:=((p%q:Nat):Int)) (by omega) (by rw [Int.tmod_eq_emod_of_nonneg (kJ _),←Int.natCast_emod])) rfl;exact aX rfl ⟨⟨(q,p%q),by rw [←hpq,Nat.gcd_comm p q,Nat.gcd_rec q p,Nat.gcd_comm],hq,Nat.lt_of_le_of_lt (Nat.mod_le _ _) hp⟩,aR.rfl,Nat.mod_lt _ (by omega)⟩
    have hq0:q=0:=by omega
    subst hq0;rw [Nat.gcd_zero_right] at hpq;apply aA (fG p) rfl;dsimp only [aG,aH];rw [hpq];exact aJ rfl
   apply aA (BR x y hy0) rfl;exact aX rfl ⟨⟨(y,x%y),by rw [←hg,Nat.gcd_comm x y,Nat.gcd_rec y x,Nat.gcd_comm],hy,Nat.le_trans (Nat.mod_le _ _) hx⟩,aR.rfl,Nat.mod_lt _ hy0⟩
  apply aA (BR x y hy0) rfl;exact aX rfl ⟨⟨(y,x%y),by rw [←hg,Nat.gcd_comm x y,Nat.gcd_rec y x,Nat.gcd_comm],hy,Nat.le_trans (Nat.mod_le _ _) hx⟩,aR.rfl,Nat.mod_lt _ hy0⟩
 have hy0:y=0:=by omega
 subst hy0;rw [Nat.gcd_zero_right] at hg;rw [hg];exact aJ rfl
theorem gM {a B n:Nat} (h:a<2^B) (hB:1≤B):a^n<2^(B*n+1):=by
 rw [Nat.pow_succ,Nat.pow_mul];have h1:a^n≤(2^B)^n:=Nat.pow_le_pow_left (Nat.le_of_lt h) n;have h2:0<(2^B)^n:=Nat.pow_pos (Nat.pow_pos (by omega));omega
structure HY (a n:Nat) (k x y:Nat):Prop where
 eq:y*x^k=a^n
 z:a=0→x=0
 x1:k≠0→x≤max 1 (a^n)
 y1:y≤max 1 (a^n)
theorem HY.mk' {a n k x y:Nat} (hn:n≠0) (eq:y*x^k=a^n) (z:a=0→x=0) (hy:x=0→y≤1):HY a n k x y:=by
 have hk:∀ t,0<t→t≤x→0<x^k:=fun t h1 h2=>Nat.pow_pos (by omega);refine ⟨eq,z,fun h0=>?_,?_⟩
 ·rcases Nat.eq_zero_or_pos x with hx | hx
  ·omega
  ·rcases Nat.eq_zero_or_pos y with hy0 | hy0
   ·rw [hy0,Nat.zero_mul] at eq;have:=z (Nat.eq_zero_of_not_pos fun ha=>by have:=Nat.pow_pos (n:=n) ha;omega);omega
   ·have h1:x≤x^k:=Nat.le_self_pow h0 x;have h2:x^k≤y*x^k:=Nat.le_mul_of_pos_left _ hy0;omega
 ·rcases Nat.eq_zero_or_pos x with hx | hx
  ·have:=hy hx;omega
  ·have h2:y≤y*x^k:=Nat.le_mul_of_pos_right _ (Nat.pow_pos hx);omega
set_option maxHeartbeats 1000000 in
theorem oG (a n:Nat) (B:Nat) (hB:1≤B:=by omega) (ha:a<2^B:=by omega) (hn:n<1099511627776:=by omega) (hs:B*n<137438953472:=by omega):aL prog 120 [(mT a:aI),(.one (.int .i64 n):aI)] (.ret [mT (a^n)]):=by
 refine bV func120 VT ?_
 have hbd:∀ j,j≤max 1 (a^n)→(dg j).length≤B*n+1:=fun j hj=>eP (by
  have h1:=gM (n:=n) ha hB;have h2:2^1≤2^(B*n+1):=Nat.pow_le_pow_right (by omega) (by omega);omega)
 apply aA (fG 1) rfl;dsimp only [aG,aH];refine bD {p:Nat×Nat×Nat // HY a n p.1 p.2.1 p.2.2∧(p.1≠0→n≠0)∧(p.2.1=0→p.2.2≤1)∧p.1≤n} (fun p=>[.one (.int .i64 p.1.1), .one (dT p.1.2.1), .one (dT p.1.2.2)]) (fun p=>p.1.1) ⟨(n,a,1),⟨by simp,fun h=>h,fun h=>by have:=Nat.le_self_pow h a;show a≤max 1 (a^n);exact Nat.le_trans this (Nat.le_max_right _ _),Nat.le_max_left _ _⟩,fun h=>h,fun _=>bZ _,bZ _⟩ aR.rfl (fun _=>rfl) ?_;rintro ⟨⟨k,x,y⟩,hI,hn0,hy1,hkn⟩;dsimp only [aG,aH] at hI hn0 hy1 hkn ⊢;have hyl:=hbd y hI.y1;apply vn cB rfl;refine vs _ rfl ?_ ?_<;>intro h3
 ·have hk0:k≠0:=by omega
  have hnn:=hn0 hk0;have hxl:=hbd x (hI.x1 hk0)
  have hev:k%2=0→y*(x*x)^(k/2)=a^n:=fun h=>by
   rw [←hI.eq,←Nat.pow_two,←Nat.pow_mul];congr 2;omega
  have hod:k%2=1→y*x*(x*x)^(k/2)=a^n:=fun h=>by
   rw [←hI.eq,←Nat.pow_two,←Nat.pow_mul,Nat.mul_assoc,←Nat.pow_succ'];congr 2;omega
  have hz2:a=0→x*x=0:=fun h=>by rw [hI.z h]
  have hx2:x*x=0→x=0:=fun h=>by rcases Nat.mul_eq_zero.1 h with h | h<;>exact h
  have hyx2:x=0→y*x≤1:=fun h=>by rw [h];omega
  apply vn (cD) rfl;apply vn aE rfl;refine vs _ rfl ?_ ?_<;>intro h6
  ·apply aA (gV y x) rfl;dsimp only [aG,aH];apply vn cB rfl;refine vs _ rfl ?_ ?_<;>intro h9
   ·apply aA (gV x x) rfl;apply vn (fT) rfl;dsimp only [aG,aH];exact aX rfl ⟨⟨(k/2,x*x,y*x),HY.mk' hnn (hod (by omega)) hz2 (hyx2 ∘ hx2),fun _=>hnn,hyx2 ∘ hx2,by show k/2≤n;omega⟩,aR.rfl,by show k/2<k;omega⟩
   apply vn (fT) rfl;dsimp only [aG,aH];have hk1:k=1:=by omega
   subst hk1;exact aX rfl ⟨⟨(1/2,x,y*x),HY.mk' hnn (by have:=hI.eq;rw [Nat.pow_one] at this;simpa using this) hI.z hyx2,fun _=>hnn,hyx2,by show 1/2≤n;omega⟩,aR.rfl,by show 1/2<1;omega⟩
  apply vn cB rfl;refine vs _ rfl ?_ ?_<;>intro h16
  ·apply aA (gV x x) rfl;apply vn (fT) rfl;dsimp only [aG,aH];exact aX rfl ⟨⟨(k/2,x*x,y),HY.mk' hnn (hev (by omega)) hz2 (fun h=>hy1 (hx2 h)),fun _=>hnn,fun h=>hy1 (hx2 h),by show k/2≤n;omega⟩,aR.rfl,by show k/2<k;omega⟩
  exfalso;omega
 have hk0:k=0:=by omega
 subst hk0;have:=hI.eq;rw [Nat.pow_zero,Nat.mul_one] at this;rw [this];exact aJ rfl
open Go Go.Proofs Tryz Ord
def ax4:Tr:=.split (.u 4 0) (aC 143 [(G1 0),(G1 2)] [(some 1),(some 1)] [15,16] [26,26] 174 false (aC 143 [(G1 1),(G1 2)] [(some 1),(some 1)] [22,23] [26,26] 174 false (aC 102 [(W 0 1),(G1 5)] [(some 2)] [28,30] [4,26] 28 false (.need (.call 122 [(.one (.c (.k (.int .u64 1))))] [(some 1)]) (.call ⟨.value (.func 122),#[(.const (.int .u64 1))],#[153]⟩) 26 false (aC 121 [(G1 7),(G1 10)] [(some 1)] [32,33] [26,26] 26 true (.ret [(.agg [(U 9 0),(U 9 1),(U 11 0)])])))))) (aC 102 [(W 0 1),(G1 0)] [(some 2)] [28,30] [4,26] 28 false (.need (.call 122 [(.one (.c (.k (.int .u64 1))))] [(some 1)]) (.call ⟨.value (.func 122),#[(.const (.int .u64 1))],#[153]⟩) 26 false (aC 121 [(G1 1),(G1 6)] [(some 1)] [32,33] [26,26] 26 true (.ret [(.agg [(U 5 0),(U 5 1),(U 7 0)])]))))
def aw2:Tr:=aC 141 [(G1 0),(G1 1)] [(some 1)] [7,8] [26,26] 26 true (aC 142 [(G1 2)] [none] [10] [26] 4 true (.need (.prim [(W 3 0)] none) (.unOp .not 4 (tT 11)) 4 false ax4))
theorem Xc:aK prog f96 (fun _=>none) [.v (some 2), .v (some 1)]=aw2:=by kernel_rfl
def aB5:Tr:=.need (.call 122 [(.one (.c (.k (.int .u64 1))))] [(some 1)]) (.call ⟨.value (.func 122),#[(.const (.int .u64 1))],#[153]⟩) 26 true (aC 137 [(.agg [(U 0 2)]),(G1 1)] [(some 1)] [4,5] [26,26] 26 true Vf)
theorem Ra:aK prog f91 (fun _=>none) [.v (some 3)]=aB5:=by kernel_rfl
def aG0:Tr:=.ret [(.agg [(U 0 0),(U 0 1),tN])]
theorem Yj:aK prog f85 (fun _=>none) [.v (some 2)]=aG0:=by kernel_rfl
def at3:Tr:=aC 86 [(W 0 0)] [(some 2)] [3] [2] 28 true (aC 85 [(G2 1)] [(some 3)] [4] [28] 30 true (.ret [(G3 2)]))
theorem aD2:aK prog f22 (fun _=>none) [.v none]=at3:=by kernel_rfl
def aK2:Tr:=.need (.prim [(W 0 0),(W 1 0)] none) (.call ⟨.builtin .min,#[(tT 5),(tT 6)],#[3,3]⟩) 3 false (.need (.prim [(WK 0),(W 2 0)] none) (.call ⟨.builtin .max,#[(.const (I3 0)),(tT 7)],#[3,3]⟩) 3 false (.ret [(W 3 0)]))
theorem Sx:aK prog f119 (fun _=>none) [.v none, .v none]=aK2:=by kernel_rfl
def as7:Tr:=aC 73 [(G2 0)] [none] [4] [28] 3 true (.ret [(W 1 0)])
theorem XY:aK prog f17 (fun _=>none) [.v (some 3)]=as7:=by kernel_rfl
def aJ8:Tr:=.need (.prim [(W 0 1)] none) (.unOp .not 4 (tT 5)) 4 false (aC 102 [(W 1 0),(G1 0)] [(some 2)] [6,9] [4,26] 28 false (.ret [(.agg [(U 2 0),(U 2 1),(U 0 2)])]))
theorem am1:aK prog f36 (fun _=>none) [.v (some 3)]=aJ8:=by kernel_rfl
def aJ0:Tr:=.need (.call 102 [(tF false),(G1 0)] [(some 2)]) (.call ⟨.value (.func 102),#[(.const (.bool false)),(tT 5)],#[4,26]⟩) 28 false (.ret [(.agg [(U 1 0),(U 1 1),(U 0 2)])])
theorem aj3:aK prog f70 (fun _=>none) [.v (some 3)]=aJ0:=by kernel_rfl
def aL2:Tr:=aC 91 [(G3 1)] [(some 1)] [9] [30] 26 true (aC 97 [(G2 0),(.agg [(U 3 0),(tE (.bool false))])] [(some 2)] [12,14] [28,28] 28 false (aC 97 [(G2 1),(.agg [(U 2 0),(tE (.bool false))])] [(some 2)] [17,19] [28,28] 28 false (aC 146 [(G2 4),(G2 5)] [(some 2)] [15,20] [28,28] 28 false (aC 98 [(G1 2),(G1 3)] [(some 1)] [22,23] [26,26] 26 true (aC 96 [(G2 6),(G1 7)] [(some 3)] [21,24] [28,26] 30 true (.ret [(G3 8)]))))))
def aC3:Tr:=aC 91 [(G3 0)] [(some 1)] [7] [30] 26 false aL2
theorem ab7:aK prog f100 (fun _=>none) [.v (some 3), .v (some 3)]=aC3:=by kernel_rfl
def ay0:Tr:=aC 36 [(G3 1)] [(some 3)] [6] [30] 30 true (aC 100 [(G3 0),(G3 2)] [(some 3)] [5,7] [30,30] 30 true (.ret [(G3 3)]))
theorem aq8:aK prog f72 (fun _=>none) [.v (some 3), .v (some 3)]=ay0:=by kernel_rfl
def aK8:Tr:=aC 97 [(G2 0),(G2 1)] [(some 2)] [6,8] [28,28] 28 false (aC 91 [(G3 0)] [(some 1)] [10] [30] 26 false (aC 91 [(G3 1)] [(some 1)] [12] [30] 26 false (aC 98 [(G1 3),(G1 4)] [(some 1)] [11,13] [26,26] 26 true (aC 96 [(G2 2),(G1 5)] [(some 3)] [9,14] [28,26] 30 true (.ret [(G3 6)])))))
theorem ak3:aK prog f32 (fun _=>none) [.v (some 3), .v (some 3)]=aK8:=by kernel_rfl
def av7:Tr:=aC 91 [(G3 1)] [(some 1)] [10] [30] 26 false (aC 102 [(W 1 1),(G1 2)] [(some 2)] [9,11] [4,26] 28 false (aC 97 [(G2 0),(G2 3)] [(some 2)] [6,12] [28,28] 28 false (aC 91 [(G3 0)] [(some 1)] [14] [30] 26 false (aC 98 [(G1 5),(G1 1)] [(some 1)] [15,18] [26,26] 26 true (aC 96 [(G2 4),(G1 6)] [(some 3)] [13,19] [28,26] 30 true (.ret [(G3 7)]))))))
theorem Xy:aK prog f139 (fun _=>none) [.v (some 3), .v (some 3)]=av7:=by kernel_rfl
def at0:Tr:=aC 17 [(G3 1)] [none] [6] [30] 3 true (aO .eql 3 7 0 2 0 4 (.split (.u 3 0) (.ret [(.agg [tN,(tE (.bool false)),tN]),(WK 9)]) (aC 139 [(G3 0),(G3 1)] [(some 3)] [10,11] [30,30] 30 true (.ret [(G3 4),(WK 0)]))))
theorem al2:aK prog f94 (fun _=>none) [.v (some 3), .v (some 3)]=at0:=by kernel_rfl
def aG6:Tr:=aC 22 [(W 0 0)] [(some 3)] [6] [2] 30 false (aC 22 [(W 1 0)] [(some 3)] [8] [2] 30 false (aC 94 [(G3 2),(G3 3)] [(some 3),none] [7,9] [30,30] 55 true (.ret [(G3 4),(W 5 0)])))
theorem aP7:aK prog f30 (fun _=>none) [.v none, .v none]=aG6:=by kernel_rfl
def ai3:Tr:=aC 91 [(G3 1)] [(some 1)] [31] [30] 26 false (aC 98 [(G1 0),(G1 7)] [(some 1)] [30,32] [26,26] 26 false (aC 91 [(G3 0)] [(some 1)] [37] [30] 26 false (aC 98 [(G1 1),(G1 9)] [(some 1)] [36,38] [26,26] 26 false (aC 118 [(G1 8),(G1 10)] [none] [33,39] [26,26] 3 true (bG .mul 3 27 40 6 0 11 0 3 (.ret [(W 12 0)]))))))
def aB4:Tr:=aO .eql 3 15 0 2 0 4 (.split (.u 5 0) (bG .sub 3 18 19 2 0 3 0 3 (bG .sub 3 21 22 2 0 3 0 3 (aO .quo 3 23 2 7 0 3 (bG .sub 3 20 24 6 0 8 0 3 (.ret [(W 9 0)]))))) (aC 17 [(G3 0)] [none] [26] [30] 3 false ai3))
def aC0:Tr:=bG .neq 3 11 12 2 0 3 0 4 (.split (.u 4 0) (bG .sub 3 18 19 2 0 3 0 3 (bG .sub 3 21 22 2 0 3 0 3 (aO .quo 3 23 2 6 0 3 (bG .sub 3 20 24 5 0 7 0 3 (.ret [(W 8 0)]))))) aB4)
def av4:Tr:=aC 17 [(G3 0)] [none] [7] [30] 3 false (aC 17 [(G3 1)] [none] [9] [30] 3 true aC0)
theorem am2:aK prog f68 (fun _=>none) [.v (some 3), .v (some 3)]=av4:=by kernel_rfl
theorem Jh (x y:Int) (hs:(dg x.natAbs).length+(dg y.natAbs).length<1099511627776:=by omega):aL prog 97 [(iT x:aI),(iT y:aI)] (.ret [iT (x*y)]):=by
 refine bV func97 af9 ?_;apply vn (zY un4) rfl;apply aA (gV _ _ hs) rfl
 apply aA (dC _ _ (x*y) (by
  rw [←Int.natAbs_mul];have hsg:(x*y).natAbs=x.natAbs*y.natAbs:=Int.natAbs_mul _ _;by_cases h1:x<0<;>by_cases h2:y<0<;>simp only [h1,h2,decide_true,decide_false,ne_eq,not_true_eq_false,not_false_eq_true,Bool.true_eq_false,Bool.false_eq_true,if_true,if_false]
  ·have:=Int.mul_pos_of_neg_of_neg h1 h2;omega
  ·have:=Int.mul_nonpos_of_nonpos_of_nonneg (Int.le_of_lt h1) (Int.not_lt.1 h2);omega
  ·have:=Int.mul_nonpos_of_nonneg_of_nonpos (Int.not_lt.1 h1) (Int.le_of_lt h2);omega
  ·have:=Int.mul_nonneg (Int.not_lt.1 h1) (Int.not_lt.1 h2);omega)) rfl
 exact aJ rfl
theorem ae2 (x y:Int) (hs:(dg x.natAbs).length+(dg y.natAbs).length<1099511627776):aL prog 146 [(iT x:aI),(iT y:aI)] (.ret [iT (x+y)]):=by
 refine bV func146 ac7 ?_;apply vn (ae3 un4) rfl;refine vs _ rfl ?_ ?_<;>intro h1
 ·have h1:x<0↔y<0:=by simpa using h1
  apply aA (Ob _ _ hs) rfl;apply aA (dC _ _ (x+y) (by by_cases h2:x<0<;>simp only [h2,decide_true,decide_false,Bool.false_eq_true,if_true,if_false]<;>omega)) rfl;exact aJ rfl
 have h1:¬ (x<0↔y<0):=by simpa using h1
 apply aA (oD _ _ hs) rfl;apply vn bA rfl;dsimp only [aG,aH];rw [show decide (eE (x.natAbs:Int) (y.natAbs:Int)<0)=decide (x.natAbs<y.natAbs) by rw [decide_eq_decide,nB];omega];refine vs _ rfl ?_ ?_<;>intro h7
 ·apply aA (sF _ _) rfl;apply aA (dC _ _ (x+y) (by by_cases h2:y<0<;>simp only [h2,decide_true,decide_false,Bool.false_eq_true,if_true,if_false]<;>omega)) rfl;exact aJ rfl
 apply aA (sF _ _) rfl;apply aA (dC _ _ (x+y) (by by_cases h2:x<0<;>simp only [h2,decide_true,decide_false,Bool.false_eq_true,if_true,if_false]<;>omega)) rfl;exact aJ rfl
theorem Cu (x:Int) (d:Nat) (hd:0<d):x/(d:Int)=if x<0 then (if x.natAbs%d=0 then -((x.natAbs/d:Nat):Int) else -((x.natAbs/d+1:Nat):Int)) else ((x.natAbs/d:Nat):Int):=by
 by_cases h:x<0
 ·rw [if_pos h];have hx:x = -(x.natAbs:Int):=by omega
  generalize x.natAbs=n at hx;subst hx;have h1:=Nat.div_add_mod n d;split
  ·rename_i h0;have:(n:Int)=(d:Int)*((n/d:Nat):Int):=by rw [←Int.natCast_mul];omega
   conv=>lhs;rw [this]
   rw [←Int.mul_neg,Int.mul_ediv_cancel_left _ (by omega)]
  ·rename_i h0;have h2:=Nat.mod_lt n hd;rw [Int.ediv_eq_iff_of_pos (by omega)];have e1:((n:Nat):Int)=(d:Int)*((n/d:Nat):Int)+((n%d:Nat):Int):=by rw [←Int.natCast_mul];omega
   generalize n/d=q at *;generalize n%d=r at *
   constructor
   ·rw [e1];simp only [Int.natCast_add,Int.mul_add,Int.neg_add,Int.add_mul,Int.neg_mul,Int.natCast_one,Int.one_mul];rw [Int.mul_comm (q:Int)];omega
   ·rw [e1];simp only [Int.natCast_add,Int.mul_add,Int.neg_add,Int.add_mul,Int.neg_mul,Int.natCast_one,Int.one_mul];rw [Int.mul_comm (q:Int)];omega
 ·rw [if_neg h,Int.natCast_ediv]
  congr 1;omega
theorem Tu (x:Int) (d:Nat) (hd:0<d) (hs:(dg x.natAbs).length+(dg d).length<274877906944:=by omega):aL prog 145 [(iT x:aI),(mT d:aI)] (.ret [iT (x/(d:Int))]):=by
 refine bV func145 Ua ?_;have hle:=jH (Nat.div_le_self x.natAbs d);apply aA (BR _ _ hd) rfl;refine vs _ rfl ?_ ?_<;>intro h1
 ·apply aA (kL _) rfl;apply vn kX rfl;refine vs _ rfl ?_ ?_<;>intro h4
  ·apply aA (fG 1) rfl;dsimp only [aG,aH];apply aA (Ob _ _ (by rw [kS (n:=1)];simp;omega)) rfl;apply aA (dC _ _ (x/(d:Int)) (by rw [Cu x d hd,if_pos h1,if_neg h4,decide_eq_true h1,if_pos rfl])) rfl;exact aJ rfl
  apply aA (dC _ _ (x/(d:Int)) (by rw [Cu x d hd,if_pos h1,if_pos (by simpa using h4),decide_eq_true h1,if_pos rfl])) rfl;exact aJ rfl
 apply aA (dC _ _ (x/(d:Int)) (by rw [Cu x d hd,if_neg h1,decide_eq_false h1,if_neg (by simp)])) rfl;exact aJ rfl
theorem OC (n:Int) (h1:-9223372036854775808≤n:=by omega) (h2:n<9223372036854775808:=by omega):aL prog 86 [(.one (.int .i64 n):aI)] (.ret [iT n]):=by
 refine bV func86 Wc ?_;apply vn bA rfl;refine vs _ rfl ?_ ?_<;>intro h1
 ·apply vn (fC ⟨_,SH⟩ gB (c:=n+18446744073709551616) (by rw [IntKind.wrap_u64];omega)) rfl;apply vn (Yx (c:=((n.natAbs:Nat):Int)) (by rw [IntKind.wrap_u64];omega)) rfl;apply aA (fG _) rfl;dsimp only [aG,aH];apply aA (dC true _ n (by rw [if_pos rfl];omega)) rfl;exact aJ rfl
 apply vn (fC ⟨_,SH⟩ gB (c:=((n.natAbs:Nat):Int)) (by rw [IntKind.wrap_u64];omega)) rfl;apply aA (fG _) rfl;apply aA (dC false _ n (by rw [if_neg (by simp)];omega)) rfl;exact aJ rfl
abbrev qC (q:Rat):List aN:=[dT q.num.natAbs, .bool (decide (q.num<0)),dT (q.den-1)]
abbrev qT (q:Rat):aI:=.agg (qC q)
theorem fU:aV aN.Sub [.exact (.slice none 0 0), .bool false, .exact (.slice none 0 0)] (qC 0):=⟨Ty rfl,aN.Sub.same,Ty rfl,trivial⟩
theorem Tx {z:Int} {d:Nat} (hd:d≠0:=by omega):(mkRat z d).num=(if decide (z<0)=true then -((z.natAbs/z.natAbs.gcd d:Nat):Int) else ((z.natAbs/z.natAbs.gcd d:Nat):Int))∧(mkRat z d).den=d/z.natAbs.gcd d:=by
 rw [←Rat.normalize_eq_mkRat hd,Rat.normalize_eq hd];refine ⟨?_,rfl⟩;show z/_=_;have hg:0<z.natAbs.gcd d:=Nat.gcd_pos_of_pos_right _ (by omega);have hdv:(((z.natAbs.gcd d:Nat)):Int)∣z:=Int.ofNat_dvd_left.2 (Nat.gcd_dvd_left _ _);have h1:=Int.natAbs_ediv_of_dvd hdv;rw [Int.natAbs_natCast] at h1;by_cases h:z<0
 ·rw [decide_eq_true h,if_pos rfl,←h1];have:=Int.ediv_neg_of_neg_of_pos h (b:=((z.natAbs.gcd d:Nat):Int)) (by omega);omega
 ·rw [decide_eq_false h,if_neg (by simp),←h1];have:=Int.ediv_nonneg (Int.not_lt.1 h) (b:=((z.natAbs.gcd d:Nat):Int)) (by omega);omega
theorem uZ (z:Int) (d:Nat) (hd:0<d) (hs:(dg z.natAbs).length+(dg d).length<137438953472:=by omega):aL prog 96 [(iT z:aI),(mT d:aI)] (.ret [qT (mkRat z d)]):=by
 refine bV func96 Xc ?_;have hg:0<z.natAbs.gcd d:=Nat.gcd_pos_of_pos_right _ hd;have hgd:z.natAbs.gcd d≤d:=Nat.gcd_le_right _ hd;have hgl:=jH hgd;obtain ⟨hm1,hm2⟩:=Tx (z:=z) (d:=d);have hq:0<d/z.natAbs.gcd d:=Nat.div_pos hgd hg;have hql:=jH (Nat.div_le_self d (z.natAbs.gcd d));have hone:(dg 1).length=1:=by rw [kS];rfl
 generalize hG:z.natAbs.gcd d=g at *
 apply aA (Sj _ _ (by
  rcases Nat.le_total z.natAbs d with h | h
  ·rw [Nat.max_eq_right h];omega
  ·rw [Nat.max_eq_left h];omega)) rfl
 rw [hG];apply aA (ac3 _) rfl;apply vn kX rfl;refine vs _ rfl ?_ ?_<;>intro h3
 ·apply aA (BR _ _ hg) rfl;dsimp only [aG,aH];apply aA (BR _ _ hg) rfl;apply aA (dC _ _ (mkRat z d).num hm1) rfl;apply aA (fG 1) rfl;apply aA (sF _ _ hq hq) rfl;rw [←hm2];exact aJ rfl
 have hg1:g=1:=by simpa using h3
 subst hg1;rw [Nat.div_one] at hm1 hm2;apply aA (dC _ _ (mkRat z d).num hm1) rfl;dsimp only [aG,aH];apply aA (fG 1) rfl;apply aA (sF _ _ hd hd) rfl;dsimp only [aG,aH];refine aJ ?_;show [aI.agg [dT _, .bool _,dT (d-1)]] = [aI.agg [_,_,dT ((mkRat z d).den-1)]];rw [hm2]
theorem cQ (q:Rat) (h:(dg q.den).length<1099511627775:=by omega):aL prog 91 [(qT q:aI)] (.ret [mT q.den]):=by
 refine bV func91 Ra ?_;have hp:=q.den_pos;have hl:=jH (Nat.sub_le q.den 1);have hone:(dg 1).length=1:=by rw [kS];rfl
 apply aA (fG 1) rfl;apply aA (Ob _ _) rfl;rw [show q.den-1+1=q.den by omega];exact aJ rfl
theorem oH (z:Int):aL prog 85 [(iT z:aI)] (.ret [qT (z:Rat)]):=by
 refine bV func85 Yj ?_;exact fR ⟨⟨aN.Sub.same,aN.Sub.same,Ty rfl,trivial⟩,trivial⟩
theorem dU (n:Int) (h1:-9223372036854775808≤n:=by omega) (h2:n<9223372036854775808:=by omega):aL prog 22 [(.one (.int .i64 n):aI)] (.ret [qT (n:Rat)]):=by
 refine bV func22 aD2 ?_;apply aA (OC _ h1 h2) rfl;apply aA (oH _) rfl;exact aJ rfl
theorem yM (n m:Int):aL prog 119 [(.one (.int .i64 n):aI),(.one (.int .i64 m):aI)] (.ret [.one (.int .i64 (max 0 (min n m)))]):=by
 refine bV func119 Sx ?_;apply vn YU rfl;apply vn aK4 rfl;exact aJ rfl
theorem bB (q:Rat):aL prog 17 [(qT q:aI)] (.ret [.one (.int .i64 q.num.sign)]):=by
 refine bV func17 XY ?_;apply aA (PC _) rfl;exact aJ rfl
theorem Fit.dl {B:Nat} {q:Rat} (h:Fit B q):(dg q.num.natAbs).length≤B∧(dg q.den).length≤B:=⟨eP h.1,eP h.2⟩
theorem pO (q:Rat):aL prog 36 [(qT q:aI)] (.ret [qT (-q)]):=by
 refine bV func36 am1 ?_;apply vn kX rfl
 apply aA (dC _ _ (-q).num (by
  rw [Rat.neg_num];by_cases h:q.num<0<;>simp only [h,not_true_eq_false,not_false_eq_true,decide_true,decide_false,Bool.false_eq_true,if_true,if_false]<;>omega)) rfl
 dsimp only [aG,aH];refine aJ ?_;show [qT _]=_;simp only [qT,qC,Rat.neg_den]
theorem uG (q:Rat):q.abs.num=(q.num.natAbs:Int)∧q.abs.den=q.den:=by
 unfold Rat.abs;have h:=Rat.num_nonneg (q:=q);split
 ·rename_i h0;have:=h.2 h0;exact ⟨by omega,rfl⟩
 ·rename_i h0;have:¬ 0≤q.num:=fun e=>h0 (h.1 e);exact ⟨by rw [Rat.neg_num];omega,Rat.neg_den _⟩
theorem rV (q:Rat):aL prog 70 [(qT q:aI)] (.ret [qT q.abs]):=by
 refine bV func70 aj3 ?_;apply aA (dC false _ (q.abs).num (by rw [if_neg (by simp)];exact (uG q).1)) rfl;dsimp only [aG,aH];refine aJ ?_;show [aI.agg [dT q.abs.num.natAbs, .bool (decide (q.abs.num<0)),dT (q.den-1)]] = [qT q.abs];simp only [qT,qC,(uG q).2]
theorem bF (a b:Rat) (A B:Nat) (ha:Fit A a) (hb:Fit B b) (h:A+B≤34359738368:=by omega):aL prog 32 [(qT a:aI),(qT b:aI)] (.ret [qT (a*b)]):=by
 refine bV func32 ak3 ?_;obtain ⟨ha1,ha2⟩:=Fit.dl ha;obtain ⟨hb1,hb2⟩:=Fit.dl hb;have hn:=eP (aZ ha.1 hb.1);have hd:=eP (aZ ha.2 hb.2);apply aA (Jh _ _) rfl;apply aA (cQ a) rfl;apply aA (cQ b) rfl;apply aA (gV _ _) rfl;dsimp only [aG,aH];apply aA (uZ _ _ (Nat.mul_pos a.den_pos b.den_pos) (by rw [Int.natAbs_mul];omega)) rfl;rw [←Rat.mul_def'];exact aJ rfl
theorem kP (a b:Rat) (A B:Nat) (ha:Fit A a) (hb:Fit B b) (h:A+B≤34359738368:=by omega):aL prog 100 [(qT a:aI),(qT b:aI)] (.ret [qT (a+b)]):=by
 refine bV func100 ab7 ?_;obtain ⟨ha1,ha2⟩:=Fit.dl ha;obtain ⟨hb1,hb2⟩:=Fit.dl hb;have hn1:=eP (aZ ha.1 hb.2);have hn2:=eP (aZ hb.1 ha.2);have hd:=eP (aZ ha.2 hb.2)
 have hsum:(dg (a.num*(b.den:Int)+b.num*(a.den:Int)).natAbs).length≤A+B+1:=by
  apply eP;have h1:=aZ ha.1 hb.2;have h2:=aZ hb.1 ha.2;rw [Nat.add_comm B A] at h2;rw [Nat.pow_succ];refine Nat.lt_of_le_of_lt (Int.natAbs_add_le _ _) ?_;rw [Int.natAbs_mul,Int.natAbs_mul,Int.natAbs_natCast,Int.natAbs_natCast];omega
 apply aA (cQ a) rfl;apply aA (cQ b) rfl;apply aA (Jh a.num (b.den:Int) (by rw [Int.natAbs_natCast];omega)) rfl;apply aA (Jh b.num (a.den:Int) (by rw [Int.natAbs_natCast];omega)) rfl;dsimp only [aG,aH];apply aA (ae2 _ _ (by rw [Int.natAbs_mul,Int.natAbs_mul,Int.natAbs_natCast,Int.natAbs_natCast];omega)) rfl;apply aA (gV _ _) rfl;apply aA (uZ _ _ (Nat.mul_pos a.den_pos b.den_pos)) rfl;rw [←Rat.add_def'];exact aJ rfl
theorem lZ (a b:Rat) (A B:Nat) (ha:Fit A a) (hb:Fit B b) (h:A+B≤34359738368:=by omega):aL prog 72 [(qT a:aI),(qT b:aI)] (.ret [qT (a-b)]):=by
 refine bV func72 aq8 ?_;apply aA (pO b) rfl;apply aA (kP a (-b) A B ha hb.neg h) rfl;rw [←Rat.sub_eq_add_neg];exact aJ rfl
theorem TG {a b:Rat} (hb:b≠0):mkRat (a.num*(if decide (b.num<0)=true then -(b.den:Int) else b.den)) (a.den*b.num.natAbs)=a/b:=by
 have hn:b.num≠0:=fun e=>hb (Rat.num_eq_zero.1 e)
 have e:b⁻¹=mkRat (if decide (b.num<0)=true then -(b.den:Int) else b.den) b.num.natAbs:=by
  rw [Rat.inv_def];by_cases h:b.num<0
  ·rw [decide_eq_true h,if_pos rfl]
   conv=>lhs;rw [show b.num = -((b.num.natAbs:Nat):Int) by omega]
   rw [Rat.divInt_neg',Rat.divInt_ofNat]
  ·rw [decide_eq_false h,if_neg (by simp)]
   conv=>lhs;rw [show b.num=((b.num.natAbs:Nat):Int) by omega]
   rw [Rat.divInt_ofNat]
 rw [Rat.div_def,e]
 conv=>rhs;rw [←Rat.mkRat_self a]
 rw [Rat.mkRat_mul_mkRat]
theorem Wg (a b:Rat) (A B:Nat) (hb0:b≠0) (ha:Fit A a) (hb:Fit B b) (h:A+B≤34359738368):aL prog 139 [(qT a:aI),(qT b:aI)] (.ret [qT (a/b)]):=by
 refine bV func139 Xy ?_;obtain ⟨ha1,ha2⟩:=Fit.dl ha;obtain ⟨hb1,hb2⟩:=Fit.dl hb;have hn:b.num≠0:=fun e=>hb0 (Rat.num_eq_zero.1 e);have hn1:=eP (aZ ha.1 hb.2);have hd:=eP (aZ ha.2 hb.1);obtain ⟨z,hz⟩:∃ z:Int,(if decide (b.num<0)=true then -(b.den:Int) else b.den)=z:=⟨_,rfl⟩
 have hza:z.natAbs=b.den:=by rw [←hz];split<;>simp
 apply aA (cQ b) rfl;apply aA (dC _ _ z hz.symm) rfl;apply aA (Jh a.num z (by rw [hza];omega)) rfl;apply aA (cQ a) rfl;dsimp only [aG,aH];apply aA (gV _ _) rfl;apply aA (uZ _ _ (Nat.mul_pos a.den_pos (by omega)) (by rw [Int.natAbs_mul,hza];omega)) rfl;rw [←hz,TG hb0];exact aJ rfl
theorem sign_zero {q:Rat}:q.num.sign=0↔q=0:=by rw [Int.sign_eq_zero_iff_zero,Rat.num_eq_zero]
theorem UU (a b:Rat) (A B:Nat) (ha:Fit A a) (hb:Fit B b) (h:A+B≤34359738368:=by omega):aL prog 94 [(qT a:aI),(qT b:aI)] (.ret [qT (if b=0 then 0 else a/b), .one (.int .i64 (if b=0 then 9 else 0))]):=by
 refine bV func94 al2 ?_;apply aA (bB b) rfl;apply vn aE rfl;refine vs _ rfl ?_ ?_<;>intro h2
 ·have h2:b=0:=sign_zero.1 h2;rw [if_pos h2,if_pos h2];exact fR ⟨fU,aI.Sub.same,trivial⟩
 have h2:¬ b=0:=fun e=>h2 (sign_zero.2 e);rw [if_neg h2,if_neg h2];apply aA (Wg a b A B h2 ha hb h) rfl;exact aJ rfl
theorem oA {n:Int} (h1:-9223372036854775808≤n:=by omega) (h2:n<9223372036854775808:=by omega):Fit 64 (n:Rat):=Fit.int (by omega) (by omega)
theorem ai2 (n d:Int) (h1:-9223372036854775808≤n) (h2:n<9223372036854775808) (h3:-9223372036854775808≤d:=by omega) (h4:d<9223372036854775808:=by omega):aL prog 30 [(.one (.int .i64 n):aI),(.one (.int .i64 d):aI)] (.ret [qT (if d=0 then 0 else (n:Rat)/(d:Rat)), .one (.int .i64 (if d=0 then 9 else 0))]):=by
 refine bV func30 aP7 ?_
 have e:((d:Rat)=0)↔d=0:=by
  rw [←Rat.num_eq_zero,Rat.num_intCast]
 have hd:=UU (n:Rat) (d:Rat) 64 64 (oA h1 h2) (oA h3 h4);simp only [e] at hd;apply aA (dU n h1 h2) rfl;apply aA (dU d h3 h4) rfl;apply aA hd rfl;exact aJ rfl
def fK (a b:Rat):Int:=if a<b then -1 else if b<a then 1 else 0
theorem HS (a b:Rat):fK a b=eE (a.num*b.den) (b.num*a.den):=by
 unfold fK eE;simp only [Rat.lt_iff]
theorem bW (z:Int):(z<0∧z.sign = -1)∨(z=0∧z.sign=0)∨(0<z∧z.sign=1):=by
 rcases Int.lt_trichotomy z 0 with h | h | h
 ·exact .inl ⟨h,Int.sign_eq_neg_one_of_neg h⟩
 ·exact .inr (.inl ⟨h,by rw [h];rfl⟩)
 ·exact .inr (.inr ⟨h,Int.sign_eq_one_of_pos h⟩)
theorem PA {a b:Rat} (h:a.num.sign≠b.num.sign∨a.num.sign=0):fK a b=a.num.sign-b.num.sign-(a.num.sign-b.num.sign).tdiv 2:=by
 rw [HS];have ha:=a.den_pos;have hb:=b.den_pos
 have key:∀ (x:Int) (d:Nat),0<d→(x<0→x*(d:Int)<0)∧(x=0→x*(d:Int)=0)∧(0<x→0<x*(d:Int)):=fun x d hd=>
  ⟨fun h=>Int.mul_neg_of_neg_of_pos h (by omega),fun h=>by rw [h,Int.zero_mul],fun h=>Int.mul_pos h (by omega)⟩
 obtain ⟨k1,k2,k3⟩:=key a.num b.den hb;obtain ⟨l1,l2,l3⟩:=key b.num a.den ha
 rcases bW a.num with ⟨h1,e1⟩ | ⟨h1,e1⟩ | ⟨h1,e1⟩<;>rcases bW b.num with ⟨h2,e2⟩ | ⟨h2,e2⟩ | ⟨h2,e2⟩<;>rw [e1,e2] at h ⊢ <;> simp only [eE]<;>(try (exfalso;revert h;decide)) <;>
  (first
   | have i1:=k1 h1
   | have i1:=k2 h1
   | have i1:=k3 h1) <;>
  (first
   | have i2:=l1 h2
   | have i2:=l2 h2
   | have i2:=l3 h2) <;>
  (first
   | (rw [if_pos (by omega)];rfl)
   | (rw [if_neg (by omega),if_pos (by omega)];rfl)
   | (rw [if_neg (by omega),if_neg (by omega)];rfl))
theorem XZ {a b:Rat} (h0:a.num.sign≠0) (h:a.num.sign=b.num.sign:=by omega):fK a b=a.num.sign*eE ((a.num.natAbs*b.den:Nat):Int) ((b.num.natAbs*a.den:Nat):Int):=by
 rw [HS];rcases bW a.num with ⟨h1,e1⟩ | ⟨h1,e1⟩ | ⟨h1,e1⟩
 ·have h2:b.num<0:=by
   rcases bW b.num with ⟨h2,e2⟩ | ⟨h2,e2⟩ | ⟨h2,e2⟩
   ·exact h2
   ·omega
   ·omega
  have ea:a.num*(b.den:Int) = -((a.num.natAbs*b.den:Nat):Int):=by
   rw [Int.natCast_mul,←Int.neg_mul];congr 1;omega
  have eb:b.num*(a.den:Int) = -((b.num.natAbs*a.den:Nat):Int):=by
   rw [Int.natCast_mul,←Int.neg_mul];congr 1;omega
  rw [e1,ea,eb];generalize ((a.num.natAbs*b.den:Nat):Int)=p;generalize ((b.num.natAbs*a.den:Nat):Int)=q;unfold eE;split<;>(try split)<;>(try split)<;>(try split)<;>omega
 ·omega
 ·have h2:0<b.num:=by
   rcases bW b.num with ⟨h2,e2⟩ | ⟨h2,e2⟩ | ⟨h2,e2⟩
   ·omega
   ·omega
   ·exact h2
  have ea:a.num*(b.den:Int)=((a.num.natAbs*b.den:Nat):Int):=by
   rw [Int.natCast_mul];congr 1;omega
  have eb:b.num*(a.den:Int)=((b.num.natAbs*a.den:Nat):Int):=by
   rw [Int.natCast_mul];congr 1;omega
  rw [e1,ea,eb,Int.one_mul]
theorem cX (a b:Rat) (A B:Nat) (ha:Fit A a) (hb:Fit B b) (h:A+B≤34359738368:=by omega):aL prog 68 [(qT a:aI),(qT b:aI)] (.ret [.one (.int .i64 (fK a b))]):=by
 refine bV func68 am2 ?_;obtain ⟨ha1,ha2⟩:=Fit.dl ha;obtain ⟨hb1,hb2⟩:=Fit.dl hb;have hn1:=eP (aZ ha.1 hb.2);have hn2:=eP (aZ hb.1 ha.2);have hsa:-1≤a.num.sign∧a.num.sign≤1:=by rcases bW a.num with ⟨_,e⟩ | ⟨_,e⟩ | ⟨_,e⟩<;>omega
 have hsb:-1≤b.num.sign∧b.num.sign≤1:=by rcases bW b.num with ⟨_,e⟩ | ⟨_,e⟩ | ⟨_,e⟩<;>omega
 have htd:-1≤(a.num.sign-b.num.sign).tdiv 2∧(a.num.sign-b.num.sign).tdiv 2≤1:=by
  rcases bW a.num with ⟨_,e⟩ | ⟨_,e⟩ | ⟨_,e⟩<;>rcases bW b.num with ⟨_,e2⟩ | ⟨_,e2⟩ | ⟨_,e2⟩<;>rw [e,e2]<;>decide
 apply aA (bB a) rfl;apply aA (bB b) rfl;apply vn cS rfl;refine vs _ rfl ?_ ?_<;>intro h3
 ·apply vn (aQ) rfl;dsimp only [aG,aH];apply vn (aQ) rfl;apply vn (lI (c:=(a.num.sign-b.num.sign).tdiv 2) (by decide) (dP)) rfl;apply vn (aQ) rfl;dsimp only [aG,aH];rw [PA (.inl h3)];exact aJ rfl
 apply vn aE rfl;refine vs _ rfl ?_ ?_<;>intro h10
 ·apply vn (aQ) rfl;apply vn (aQ) rfl;apply vn (lI (c:=(a.num.sign-b.num.sign).tdiv 2) (by decide) (dP)) rfl;dsimp only [aG,aH];apply vn (aQ) rfl;dsimp only [aG,aH];rw [PA (.inr h10)];exact aJ rfl
 apply aA (bB a) rfl;apply aA (cQ b) rfl;apply aA (gV _ _) rfl;apply aA (cQ a) rfl;dsimp only [aG,aH];apply aA (gV _ _) rfl;apply aA (oD _ _) rfl;dsimp only [aG,aH]
 have hci:-1≤eE ((a.num.natAbs*b.den:Nat):Int) ((b.num.natAbs*a.den:Nat):Int)∧eE ((a.num.natAbs*b.den:Nat):Int) ((b.num.natAbs*a.den:Nat):Int)≤1:=by
  unfold eE;split<;>(try split)<;>omega
 rw [XZ h10];generalize eE ((a.num.natAbs*b.den:Nat):Int) ((b.num.natAbs*a.den:Nat):Int)=c at hci ⊢;generalize a.num.sign=s at hsa h10 ⊢
 apply vn (oV (c:=s*c) (by
  rcases (by omega:s = -1∨s=1) with rfl | rfl
  ·exact dP
  ·exact dP)) rfl
 exact aJ rfl
end Go.Sy
