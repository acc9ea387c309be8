/- Part. -/
import Derived.Test.YtacgmapjhpghkaaGreatDoorNa
import Derived.RangeFuncBox
import Derived.Shelf.Abstract
import Derived.WalkKit
import Derived.OwnWalkIn
import Derived.TacticsInMore
import Derived.LoopNIn
import Derived.LoopIn
set_option linter.all false
namespace Go.Sy
open Go Go.Proofs Tryz Ord
def bb3:Tr:=.need (.idx 20 (.u 8 0)) (.indexAddr 40 (tT 51) (tT 52)) 0 false (.need (.ldrow 20 (.u 8 0) 0 1 false) (.load 237 (tT 53)) 237 false (cU .sub 237 54 55 21 0 15 0 237 (.need (.idx 20 (.u 8 0)) (.indexAddr 40 (tT 51) (tT 52)) 0 false (.need (.strow 20 1 (.u 8 0) 0 [(.u 22 0)]) (.store 237 (tT 57) (tT 56)) 0 false (bI .add 3 19 1 8 0 3 (.back 0 [(.w (.one (.c (.k (.int .u32 1))))),lV 24 0, .row 23]))))))
def aR9:Tr:=.need (.idx 9 (.u 8 0)) (.indexAddr 40 (tT 51) (tT 52)) 0 false (.need (.ldrow 9 (.u 8 0) 0 1 false) (.load 237 (tT 53)) 237 false (cU .sub 237 54 55 18 0 15 0 237 (.need (.idx 9 (.u 8 0)) (.indexAddr 40 (tT 51) (tT 52)) 0 false (.need (.strow 9 1 (.u 8 0) 0 [(.u 19 0)]) (.store 237 (tT 57) (tT 56)) 0 false (bI .add 3 19 1 8 0 3 (.back 0 [(.w (.one (.c (.k (.int .u32 0))))),lV 21 0, .row 20]))))))
def bc4:Tr:=cU .lss 237 40 41 16 0 15 0 4 (.split (.u 17 0) (.need (.idx 9 (.u 8 0)) (.indexAddr 40 (tT 45) (tT 46)) 0 false (.need (.ldrow 9 (.u 8 0) 0 1 false) (.load 237 (tT 47)) 237 false (.need (.prim [(W 18 0),(.one (.c (.k (.int .u32 1000000000))))] none) (.binOp .add 237 (tT 48) (.const (.int .u32 1000000000)) 237) 237 false (.need (.idx 9 (.u 8 0)) (.indexAddr 40 (tT 43) (tT 44)) 0 false (.need (.strow 9 1 (.u 8 0) 0 [(.u 19 0)]) (.store 237 (tT 50) (tT 49)) 0 false bb3))))) aR9)
def bc3:Tr:=.need (.idx 18 (.u 8 0)) (.indexAddr 40 (tT 51) (tT 52)) 0 false (.need (.ldrow 18 (.u 8 0) 0 1 false) (.load 237 (tT 53)) 237 false (cU .sub 237 54 55 19 0 7 0 237 (.need (.idx 18 (.u 8 0)) (.indexAddr 40 (tT 51) (tT 52)) 0 false (.need (.strow 18 1 (.u 8 0) 0 [(.u 20 0)]) (.store 237 (tT 57) (tT 56)) 0 false (bI .add 3 19 1 8 0 3 (.back 0 [(.w (.one (.c (.k (.int .u32 1))))),lV 22 0, .row 21]))))))
def aV0:Tr:=.need (.idx 9 (.u 8 0)) (.indexAddr 40 (tT 51) (tT 52)) 0 false (.need (.ldrow 9 (.u 8 0) 0 1 false) (.load 237 (tT 53)) 237 false (cU .sub 237 54 55 16 0 7 0 237 (.need (.idx 9 (.u 8 0)) (.indexAddr 40 (tT 51) (tT 52)) 0 false (.need (.strow 9 1 (.u 8 0) 0 [(.u 17 0)]) (.store 237 (tT 57) (tT 56)) 0 false (bI .add 3 19 1 8 0 3 (.back 0 [(.w (.one (.c (.k (.int .u32 0))))),lV 19 0, .row 18]))))))
def bf8:Tr:=cU .lss 237 40 41 14 0 7 0 4 (.split (.u 15 0) (.need (.idx 9 (.u 8 0)) (.indexAddr 40 (tT 45) (tT 46)) 0 false (.need (.ldrow 9 (.u 8 0) 0 1 false) (.load 237 (tT 47)) 237 false (.need (.prim [(W 16 0),(.one (.c (.k (.int .u32 1000000000))))] none) (.binOp .add 237 (tT 48) (.const (.int .u32 1000000000)) 237) 237 false (.need (.idx 9 (.u 8 0)) (.indexAddr 40 (tT 43) (tT 44)) 0 false (.need (.strow 9 1 (.u 8 0) 0 [(.u 17 0)]) (.store 237 (tT 50) (tT 49)) 0 false bc3))))) aV0)
def br2:Tr:=cU .lss 3 23 26 8 0 11 0 4 (.split (.u 12 0) (eW 1 0 8 0 40 30 31 (eI 13 0 none 237 32 (cU .add 237 28 33 7 0 14 0 237 (.need (.idx 9 (.u 8 0)) (.indexAddr 40 (tT 37) (tT 38)) 0 false (.need (.ldrow 9 (.u 8 0) 0 1 false) (.load 237 (tT 39)) 237 false bc4))))) (.need (.prim [(W 7 0),(.one (.c (.k (.int .u32 0))))] none) (.binOp .eql 237 (tT 35) (.const (.int .u32 0)) 237) 4 false (.split (.u 13 0) (aZ 208 [(.one (.c (.sr 1 9)))] [(some 1)] [59] [40] 42 true (.ret [(G1 14)])) (.need (.idx 9 (.u 8 0)) (.indexAddr 40 (tT 37) (tT 38)) 0 false (.need (.ldrow 9 (.u 8 0) 0 1 false) (.load 237 (tT 39)) 237 false bf8)))))
def bw7:Tr:=.need (.rop 3 237 1 none [] [(W 0 0)] [none]) (.call ⟨.builtin .copy,#[(tT 13),(tT 15)],#[40,40]⟩) 3 false (.need (.lenrow 5) (.call ⟨.builtin .len,#[(tT 17)],#[40]⟩) 3 false (.loop 0 [(.w (.one (.c (.k (.int .u32 0))))),lK 0, .row 5] (cU .lss 3 19 18 8 0 6 0 0 (.split (.u 10 0) (dS 1 0 25 40 br2) (aZ 208 [(.one (.c (.sr 1 9)))] [(some 1)] [59] [40] 42 true (.ret [(G1 11)]))))))
def bB4:Tr:=dS 0 0 10 40 (.need (.make [(.int .u32 0)] 4 (.u 2 0) (.u 2 0)) (.makeSlice 40 (tT 11) (tT 11)) 40 false bw7)
theorem aR7:aV prog f223 (fun _=>none) [.v (some 1), .v (some 1)]=bB4:=by kernel_rfl
def aS1:Tr:=.split (.u 23 0) (bI .add 2 44 1000000000 21 0 2 (.need (.prim [(W 24 0)] none) (.convert 2 237 (tT 48)) 237 false (.need (.idx 7 (.u 6 0)) (.indexAddr 40 (tT 46) (tT 47)) 0 false (.need (.strow 7 1 (.u 6 0) 0 [(.u 25 0)]) (.store 237 (tT 50) (tT 49)) 0 false (bI .add 3 13 1 6 0 3 (.back 0 [lV 22 0,lK 1,lV 27 0, .row 26])))))) (.need (.prim [(W 21 0)] none) (.convert 2 237 (tT 48)) 237 false (.need (.idx 7 (.u 6 0)) (.indexAddr 40 (tT 46) (tT 47)) 0 false (.need (.strow 7 1 (.u 6 0) 0 [(.u 24 0)]) (.store 237 (tT 50) (tT 49)) 0 false (bI .add 3 13 1 6 0 3 (.back 0 [lV 22 0,lK 0,lV 26 0, .row 25])))))
def aO7:Tr:=.need (.prim [(W 16 0)] none) (.convert 237 2 (tT 32)) 2 false (.need (.prim [(W 15 0),(.one (.c (.k (.int .u64 1000000000))))] none) (.binOp .rem 236 (tT 34) (.const (.int .u64 1000000000)) 236) 236 false (.need (.prim [(W 18 0)] none) (.convert 236 2 (tT 35)) 2 false (cU .sub 2 33 36 17 0 19 0 2 (cU .sub 2 37 38 20 0 5 0 2 (.need (.prim [(W 15 0),(.one (.c (.k (.int .u64 1000000000))))] none) (.binOp .quo 236 (tT 40) (.const (.int .u64 1000000000)) 236) 236 false (bI .lss 2 42 0 21 0 4 aS1))))))
def bv5:Tr:=eW 1 0 6 0 40 22 23 (eI 11 0 none 237 24 (.need (.prim [(W 12 0)] none) (.convert 237 236 (tT 25)) 236 false (cU .mul 236 21 26 2 0 13 0 236 (cU .add 236 20 27 4 0 14 0 236 (.need (.idx 7 (.u 6 0)) (.indexAddr 40 (tT 29) (tT 30)) 0 false (.need (.ldrow 7 (.u 6 0) 0 1 false) (.load 237 (tT 31)) 237 false aO7))))))
def aU9:Tr:=.split (.u 18 0) (bI .add 2 44 1000000000 16 0 2 (.need (.prim [(W 19 0)] none) (.convert 2 237 (tT 48)) 237 false (.need (.idx 7 (.u 6 0)) (.indexAddr 40 (tT 46) (tT 47)) 0 false (.need (.strow 7 1 (.u 6 0) 0 [(.u 20 0)]) (.store 237 (tT 50) (tT 49)) 0 false (bI .add 3 13 1 6 0 3 (.back 0 [lV 17 0,lK 1,lV 22 0, .row 21])))))) (.need (.prim [(W 16 0)] none) (.convert 2 237 (tT 48)) 237 false (.need (.idx 7 (.u 6 0)) (.indexAddr 40 (tT 46) (tT 47)) 0 false (.need (.strow 7 1 (.u 6 0) 0 [(.u 19 0)]) (.store 237 (tT 50) (tT 49)) 0 false (bI .add 3 13 1 6 0 3 (.back 0 [lV 17 0,lK 0,lV 21 0, .row 20])))))
def aT5:Tr:=.need (.prim [(W 11 0)] none) (.convert 237 2 (tT 32)) 2 false (.need (.prim [(W 4 0),(.one (.c (.k (.int .u64 1000000000))))] none) (.binOp .rem 236 (tT 34) (.const (.int .u64 1000000000)) 236) 236 false (.need (.prim [(W 13 0)] none) (.convert 236 2 (tT 35)) 2 false (cU .sub 2 33 36 12 0 14 0 2 (cU .sub 2 37 38 15 0 5 0 2 (.need (.prim [(W 4 0),(.one (.c (.k (.int .u64 1000000000))))] none) (.binOp .quo 236 (tT 40) (.const (.int .u64 1000000000)) 236) 236 false (bI .lss 2 42 0 16 0 4 aU9))))))
def bw1:Tr:=cU .lss 3 13 12 6 0 3 0 0 (.split (.u 8 0) (dS 1 0 17 40 (cU .lss 3 16 18 6 0 9 0 4 (.split (.u 10 0) bv5 (.need (.idx 7 (.u 6 0)) (.indexAddr 40 (tT 29) (tT 30)) 0 false (.need (.ldrow 7 (.u 6 0) 0 1 false) (.load 237 (tT 31)) 237 false aT5))))) (bI .neq 2 52 0 5 0 4 (.retr [(W 9 0)] 7)))
def by8:Tr:=.need (.lenrow 0) (.call ⟨.builtin .len,#[(tT 11)],#[40]⟩) 3 false (.loop 0 [(.w (.one (.c (.k (.int .u64 0))))),lK 0,lK 0, .row 0] bw1)
theorem Wo:Au prog f244 (fun _=>none) [.lent 237 1, .v none, .v none]=by8:=by kernel_rfl
def bc0:Tr:=.need (.prim [(W 13 0),(.one (.c (.k (.int .u32 1000000000))))] none) (.binOp .geq 237 (tT 29) (.const (.int .u32 1000000000)) 237) 4 false (.split (.u 14 0) (.need (.prim [(W 13 0),(.one (.c (.k (.int .u32 1000000000))))] none) (.binOp .sub 237 (tT 31) (.const (.int .u32 1000000000)) 237) 237 false (.need (.idx 5 (.u 4 0)) (.indexAddr 40 (tT 33) (tT 34)) 0 false (.need (.strow 5 1 (.u 4 0) 0 [(.u 15 0)]) (.store 237 (tT 36) (tT 35)) 0 false (bI .add 3 10 1 4 0 3 (.back 0 [(.w (.one (.c (.k (.int .u32 1))))),lV 17 0, .row 16]))))) (.need (.idx 5 (.u 4 0)) (.indexAddr 40 (tT 33) (tT 34)) 0 false (.need (.strow 5 1 (.u 4 0) 0 [(.u 13 0)]) (.store 237 (tT 36) (tT 35)) 0 false (bI .add 3 10 1 4 0 3 (.back 0 [(.w (.one (.c (.k (.int .u32 0))))),lV 16 0, .row 15])))))
def aP7:Tr:=.need (.prim [(W 8 0),(.one (.c (.k (.int .u32 1000000000))))] none) (.binOp .geq 237 (tT 29) (.const (.int .u32 1000000000)) 237) 4 false (.split (.u 11 0) (.need (.prim [(W 8 0),(.one (.c (.k (.int .u32 1000000000))))] none) (.binOp .sub 237 (tT 31) (.const (.int .u32 1000000000)) 237) 237 false (.need (.idx 5 (.u 4 0)) (.indexAddr 40 (tT 33) (tT 34)) 0 false (.need (.strow 5 1 (.u 4 0) 0 [(.u 12 0)]) (.store 237 (tT 36) (tT 35)) 0 false (bI .add 3 10 1 4 0 3 (.back 0 [(.w (.one (.c (.k (.int .u32 1))))),lV 14 0, .row 13]))))) (.need (.idx 5 (.u 4 0)) (.indexAddr 40 (tT 33) (tT 34)) 0 false (.need (.strow 5 1 (.u 4 0) 0 [(.u 8 0)]) (.store 237 (tT 36) (tT 35)) 0 false (bI .add 3 10 1 4 0 3 (.back 0 [(.w (.one (.c (.k (.int .u32 0))))),lV 13 0, .row 12])))))
def bq4:Tr:=cU .add 237 16 17 7 0 3 0 237 (dS 1 0 20 40 (cU .lss 3 19 21 4 0 9 0 4 (.split (.u 10 0) (eW 1 0 4 0 40 24 25 (eI 11 0 none 237 26 (cU .add 237 23 27 8 0 12 0 237 bc0))) aP7)))
def bu2:Tr:=.need (.lenrow 0) (.call ⟨.builtin .len,#[(tT 8)],#[40]⟩) 3 false (.loop 0 [(.w (.one (.c (.k (.int .u32 0))))),lK 0, .row 0] (cU .lss 3 10 9 4 0 2 0 0 (.split (.u 6 0) (.need (.idx 5 (.u 4 0)) (.indexAddr 40 (tT 13) (tT 14)) 0 false (.need (.ldrow 5 (.u 4 0) 0 1 false) (.load 237 (tT 15)) 237 false bq4)) (.need (.prim [(W 3 0),(.one (.c (.k (.int .u32 0))))] none) (.binOp .neq 237 (tT 38) (.const (.int .u32 0)) 237) 4 false (.retr [(W 7 0)] 5)))))
theorem Wn:Au prog f245 (fun _=>none) [.lent 237 1, .v none]=bu2:=by kernel_rfl
structure QX (xs ys:List Nat) (i b:Nat) (os:List Nat):Prop where
 h:jI 1000000000 xs ys 1 i 0 b os
theorem QX.init {xs:List Nat} (hx:Dg xs) (ys:List Nat):QX xs ys 0 0 xs:=⟨jI.init hx ys 1⟩
theorem QX.next {xs ys os:List Nat} {i b x y z b':Nat} (h:QX xs ys i b os) (hx:xs[i]? = some x) (hy:ys[i]?.getD 0=y) (hyB:y<1000000000) (hz:z<1000000000) (hb:b'<=1) (he:z+y+b=x+1000000000*b') :
  QX xs ys (i+1) b' (os.set i z):=by
 have:=h.h.next (by omega) (by omega) hx hy hyB hz hb (by rw [Nat.zero_add,Nat.one_mul,Nat.mod_eq_of_lt hyB];exact he);rw [Nat.zero_add,Nat.one_mul,Nat.div_eq_of_lt hyB] at this;exact ⟨this⟩
theorem QX.fin {xs ys os:List Nat} {i b:Nat} (h:QX xs ys i b os) (hle:lv ys<=lv xs) (he:b=0/\ys.length<=i\/i=xs.length/\ys.length<=xs.length):lv os+lv ys=lv xs:=by
 have h1:=h.h.eq;rw [Nat.one_mul,Nat.zero_add] at h1;rcases he with ⟨rfl,hl⟩ | ⟨rfl,hl⟩
 .rw [Nat.mul_zero,Nat.add_zero,List.take_of_length_le hl] at h1
  have e:∀ l:List Nat,i<=l.length->lv l=lv (l.take i)+1000000000^i*lv (l.drop i):=fun l hl=>by
   conv=>lhs;rw [<-List.take_append_drop i l]
   rw [tJ,List.length_take,Nat.min_eq_left hl]
  rw [e os (by rw [h.h.len];exact h.h.le),e xs h.h.le,h.h.rest];simp only [lv] at h1 ⊢;omega
 .rw [List.take_of_length_le (by rw [h.h.len];omega),List.take_length,List.take_of_length_le hl] at h1;have h2:=DB.lt (by omega) h.h.dg;rw [h.h.len] at h2;have hb:=h.h.b1;rcases (by omega:b=0\/b=1) with rfl | rfl
  .show val _ os+val _ ys=val _ xs;omega
  .have hle:val 1000000000 ys<=val 1000000000 xs:=hle;omega
theorem nO {a b:Nat} (h:a<=b):(dg a).length<=(dg b).length:=kC (Nat.lt_of_le_of_lt h (lB (by omega) b))
theorem Ps (a b:Nat) (hab:b<=a:=by omega) (ha:0<a:=by omega) (hs:(dg a).length<1099511627776:=by omega):aQ prog 223 [(mT a:aJ),(mT b:aJ)] (.ret [mT (a-b)]):=by
 refine eH func223 aR7 ?_;have hlen:=nO hab;have hane:dg a ≠ []:=fun e=>by have:=Pd.1 e;omega
 apply vn (aM eB (aK _)) rfl;dsimp only [aE,aF];refine Cq (f:=fun d:Nat=>[aD.int .u32 (d:Int)]) 0 rfl rfl rfl rfl (by omega) (by simp only [maxLen];omega) ?_;refine ZT (xs:=dg a) (ws:=dg a) (fun _=>rfl) rfl rfl eB (by simp) (by simpa using hane) (by simp) ?_;refine Sq rfl (aK _) ?_;refine bZ {g:Nat×Nat×List Nat // QX (dg a) (dg b) g.1 g.2.1 g.2.2} (fun g=>[.one (.int .u32 g.1.2.1), .one (.int .i64 g.1.1), .rows (rT g.1.2.2)]) (fun g=>(dg a).length-g.1.1) ⟨(0,0,dg a),QX.init (kZ a) _⟩ aX.rfl (fun _=>rfl) ?_;rintro ⟨⟨i,c,os⟩,hI⟩;dsimp only [aE,aF] at hI ⊢;have hol:=hI.h.len;have hil:=hI.h.le;have hc:=hI.h.b1;have hle:lv (dg b)<=lv (dg a):=by rw [iI,iI];exact hab
 have fin:(c=0/\(dg b).length<=i\/i=(dg a).length/\(dg b).length<=(dg a).length)->lv os=a-b:=fun h=>by
  have:=hI.fin hle h;rw [iI,iI] at this;omega
 apply vn bQ rfl;refine vs _ rfl ?_ ?_<;>intro h6
 .have hx:(dg a)[i]? = some ((dg a)[i]'(by omega)):=cC (by omega);generalize (dg a)[i]'(by omega)=x at hx;have hxB:=(kZ a).get hx;have ho:=hI.h.get hx;apply vn (aM eB (aK _)) rfl;apply vn bQ rfl;refine vs _ rfl ?_ ?_<;>intro h9
  .have hy:(dg b)[i]? = some ((dg b)[i]'(by omega)):=cC (by omega);generalize (dg b)[i]'(by omega)=y at hy;have hyB:=(kZ b).get hy;apply vn (aH eB (by omega) (by omega) hy) rfl;dsimp only [aE,aF];apply vn (cH xU) rfl;apply vn (mC) rfl;refine cJ rfl rfl (by omega) (by first | omega | (rw [List.length_set];omega)) ?_;refine nQ rfl rfl (by omega) (by omega) ho rfl ?_;apply vn bQ rfl;dsimp only [aE,aF];refine vs _ rfl ?_ ?_<;>intro h16
   .refine cJ rfl rfl (by omega) (by first | omega | (rw [List.length_set];omega)) ?_;refine nQ rfl rfl (by omega) (by omega) ho rfl ?_;apply vn (mC) rfl;refine cJ rfl rfl (by omega) (by first | omega | (rw [List.length_set];omega)) ?_;refine gP (d':=x+1000000000) rfl rfl (by omega) (by omega) ho rfl ?_;refine cJ rfl rfl (by omega) (by first | omega | (rw [List.length_set];omega)) ?_;refine Wi (d:=x+1000000000) rfl rfl (by omega) (by omega) (List.getElem?_set_self (by omega)) (.inr rfl) rfl ?_;dsimp only [aE,aF];apply vn (mG) rfl;refine cJ rfl rfl (by omega) (by first | omega | (rw [List.length_set];omega)) ?_;refine gP (d:=x+1000000000) (d':=x+1000000000-(y+c)) rfl rfl (by omega) (by omega) (List.getElem?_set_self (by omega)) ?_ ?_
    .show [aD.int .u32 _] = [aD.int .u32 _]
     congr 2;omega
    rw [List.set_set];apply vn (aB (by omega) (by omega)) rfl;dsimp only [aE,aF];exact bD rfl ⟨⟨(i+1,1,os.set i (x+1000000000-(y+c))),hI.next (b':=1) (z:=x+1000000000-(y+c)) hx (by rw [hy];rfl) hyB (by omega) (by omega) (by omega)⟩,aX.rfl,by show (dg a).length-(i+1)<(dg a).length-i;omega⟩
   refine cJ rfl rfl (by omega) (by first | omega | (rw [List.length_set];omega)) ?_;refine nQ rfl rfl (by omega) (by omega) ho rfl ?_;apply vn (mG) rfl;refine cJ rfl rfl (by omega) (by first | omega | (rw [List.length_set];omega)) ?_;refine gP (d':=x-(y+c)) rfl rfl (by omega) (by omega) ho ?_ ?_
   .show [aD.int .u32 _] = [aD.int .u32 _]
    congr 2;omega
   apply vn (aB (by omega) (by omega)) rfl;dsimp only [aE,aF];exact bD rfl ⟨⟨(i+1,0,os.set i (x-(y+c))),hI.next (b':=0) (z:=x-(y+c)) hx (by rw [hy];rfl) hyB (by omega) (by omega) (by omega)⟩,aX.rfl,by show (dg a).length-(i+1)<(dg a).length-i;omega⟩
  apply vn dP rfl;refine vs _ rfl ?_ ?_<;>intro h37
  .apply aA (jK os hI.h.dg) rfl;dsimp only [aE,aF];refine aL ?_;rw [fin (.inl (by omega))];rfl
  have hnone:(dg b)[i]? = none:=List.getElem?_eq_none_iff.2 (by omega);refine cJ rfl rfl (by omega) (by first | omega | (rw [List.length_set];omega)) ?_;refine nQ rfl rfl (by omega) (by omega) ho rfl ?_;apply vn bQ rfl;refine vs _ rfl ?_ ?_<;>intro h43
  .refine cJ rfl rfl (by omega) (by first | omega | (rw [List.length_set];omega)) ?_;refine nQ rfl rfl (by omega) (by omega) ho rfl ?_;apply vn (mC) rfl;dsimp only [aE,aF];refine cJ rfl rfl (by omega) (by first | omega | (rw [List.length_set];omega)) ?_;refine gP (d':=x+1000000000) rfl rfl (by omega) (by omega) ho rfl ?_;refine cJ rfl rfl (by omega) (by first | omega | (rw [List.length_set];omega)) ?_;refine Wi (d:=x+1000000000) rfl rfl (by omega) (by omega) (List.getElem?_set_self (by omega)) (.inr rfl) rfl ?_;apply vn (mG) rfl;refine cJ rfl rfl (by omega) (by first | omega | (rw [List.length_set];omega)) ?_;refine gP (d:=x+1000000000) (d':=x+1000000000-c) rfl rfl (by omega) (by omega) (List.getElem?_set_self (by omega)) ?_ ?_
   .show [aD.int .u32 _] = [aD.int .u32 _]
    congr 2;omega
   rw [List.set_set];dsimp only [aE,aF];apply vn (aB (by omega) (by omega)) rfl;dsimp only [aE,aF];exact bD rfl ⟨⟨(i+1,1,os.set i (x+1000000000-c)),hI.next (b':=1) (z:=x+1000000000-c) (y:=0) hx (by rw [hnone];rfl) (by omega) (by omega) (by omega) (by omega)⟩,aX.rfl,by show (dg a).length-(i+1)<(dg a).length-i;omega⟩
  refine cJ rfl rfl (by omega) (by first | omega | (rw [List.length_set];omega)) ?_;refine nQ rfl rfl (by omega) (by omega) ho rfl ?_;apply vn (mG) rfl;refine cJ rfl rfl (by omega) (by first | omega | (rw [List.length_set];omega)) ?_;refine gP (d':=x-c) rfl rfl (by omega) (by omega) ho ?_ ?_
  .show [aD.int .u32 _] = [aD.int .u32 _]
   congr 2;omega
  apply vn (aB (by omega) (by omega)) rfl;dsimp only [aE,aF];exact bD rfl ⟨⟨(i+1,0,os.set i (x-c)),hI.next (b':=0) (z:=x-c) (y:=0) hx (by rw [hnone];rfl) (by omega) (by omega) (by omega) (by omega)⟩,aX.rfl,by show (dg a).length-(i+1)<(dg a).length-i;omega⟩
 apply aA (jK os hI.h.dg) rfl;dsimp only [aE,aF];refine aL ?_;rw [fin (.inr ⟨by omega,hlen⟩)];rfl
theorem WH {b:Nat} {p:Prop} [Decidable p] (h:b=if p then 1 else 0):decide ((b:Int)≠0)=decide p:=by
 subst h;by_cases hp:p<;>simp [hp]
set_option maxHeartbeats 1000000 in
theorem Ve (xs ys:List Nat) (t:Nat) (hx:Dg xs) (hy:Dg ys) (ht:t<1000000000) (hl:ys.length<xs.length) (hs:xs.length<1099511627776):kP prog 244 237 1 [] [(.one (.slice 1 (rT ys)):aJ),(.one (.int .u64 t):aJ)] (rT xs) [.one (.bool (decide (lv xs<t*lv ys)))] (rT (pd 1000000000 xs.length (lv xs+1000000000^xs.length*(if lv xs<t*lv ys then 1 else 0)-t*lv ys))):=by
 refine oL (a1:=[]) (a2:=[.v none, .v none]) (i1:=[]) (i2:=[.v (.one (.slice 1 (rT ys))), .v (.one (.int .u64 t))]) (hints:=(fun _=>none)) fo (by kernel_rfl) func244 trivial ⟨rfl,rfl,trivial⟩ (by kernel_rfl) ?_ ?_ ?_ ?_
 .first | (simp [rT];done) | (intro t ht;obtain ⟨a,_,rfl⟩:=eM.1 ht;rfl)
 .first | (simp [rT];done) | (intro t ht;obtain ⟨a,_,rfl⟩:=eM.1 ht;rfl)
 .first | (simp [rT];done) | (intro t ht;obtain ⟨a,_,rfl⟩:=eM.1 ht;rfl)
 dsimp only [aE,aF];rw [Wo];dsimp only [List.map,In.env,aE,aF];refine Sq rfl (aK _) ?_;refine bZ {g:Nat×Nat×Nat×List Nat // jI 1000000000 xs ys t g.1 g.2.1 g.2.2.1 g.2.2.2} (fun g=>[.one (.int .u64 g.1.2.1), .one (.int .i64 g.1.2.2.1), .one (.int .i64 g.1.1), .rows (rT g.1.2.2.2)]) (fun g=>xs.length-g.1.1) ⟨(0,0,0,xs),jI.init hx _ _⟩ aX.rfl (fun _=>rfl) ?_;rintro ⟨⟨i,c,b,os⟩,hI⟩;dsimp only [aE,aF] at hI ⊢;have hol:=hI.len;have hil:=hI.le;have hc:=hI.c1;have hb:=hI.b1;apply vn bQ rfl;refine vs _ rfl ?_ ?_<;>intro h3
 .have hgx:xs[i]? = some (xs[i]'(by omega)):=cC (by omega);generalize xs[i]'(by omega)=x at hgx;have hxB:=hx.get hgx;have ho:=hI.get hgx;apply vn (aM eB (aK _)) rfl;apply vn bQ rfl;refine vs _ rfl ?_ ?_<;>intro h6
  .have hgy:ys[i]? = some (ys[i]'(by omega)):=cC (by omega);generalize ys[i]'(by omega)=y at hgy;have hyB:=hy.get hgy;have hty:t*y<=999999999*999999999:=Nat.mul_le_mul (by omega) (by omega);obtain ⟨w,hw⟩:∃ w,c+t*y=w:=⟨_,rfl⟩
   have hwB:w<1000000000*1000000000:=by omega
   have hm:∀ z b':Nat,z<1000000000->b'<=1->z+w%1000000000+b=x+1000000000*b'->jI 1000000000 xs ys t (i+1) (w/1000000000) b' (os.set i z):=fun z b' h1 h2 h3=>by
    have:=hI.next (by omega) ht hgx (by rw [hgy];rfl) hyB h1 h2 (by rw [hw];exact h3);rw [hw] at this;exact this
   apply vn (aH eB (by omega) (by omega) hgy) rfl;dsimp only [aE,aF];apply vn (cH xU) rfl;apply vn (rF ⟨_,gU⟩ iU) rfl;apply vn (wQ (c:=((t*y:Nat):Int)) (by rw [<-Int.natCast_mul,rG]<;>omega)) rfl;apply vn (eV (c:=(w:Int)) (by rw [rG]<;>omega)) rfl;dsimp only [aE,aF];refine cJ rfl rfl (by omega) (by first | omega | (rw [List.length_set];omega)) ?_;refine nQ rfl rfl (by omega) (by omega) ho rfl ?_;apply vn (wR ⟨_,gU⟩ un2) rfl;apply vn (qB) rfl;apply vn (wR ⟨_,iU⟩ un2) rfl;dsimp only [aE,aF];apply vn (aG (by omega) (by omega)) rfl;apply vn (aG (by omega) (by omega)) rfl;apply vn (Nx) rfl;apply vn bQ rfl;dsimp only [aE,aF];refine vs _ rfl ?_ ?_<;>intro h21
   .apply vn (aB (by omega) (by omega)) rfl;apply vn (oI ⟨_,un2⟩ gU) rfl;refine cJ rfl rfl (by omega) (by first | omega | (rw [List.length_set];omega)) ?_;refine gP (d':=x+1000000000-w%1000000000-b) rfl rfl (by omega) (by omega) ho ?_ ?_
    .show [aD.int .u32 _] = [aD.int .u32 _]
     congr 2;omega
    apply vn (aB (by omega) (by omega)) rfl;dsimp only [aE,aF];exact bD rfl ⟨⟨(i+1,w/1000000000,1,os.set i (x+1000000000-w%1000000000-b)),hm _ 1 (by omega) (by omega) (by omega)⟩,aX.rfl,by show xs.length-(i+1)<xs.length-i;omega⟩
   apply vn (oI ⟨_,un2⟩ gU) rfl;refine cJ rfl rfl (by omega) (by first | omega | (rw [List.length_set];omega)) ?_;refine gP (d':=x-w%1000000000-b) rfl rfl (by omega) (by omega) ho ?_ ?_
   .show [aD.int .u32 _] = [aD.int .u32 _]
    congr 2;omega
   apply vn (aB (by omega) (by omega)) rfl;dsimp only [aE,aF];exact bD rfl ⟨⟨(i+1,w/1000000000,0,os.set i (x-w%1000000000-b)),hm _ 0 (by omega) (by omega) (by omega)⟩,aX.rfl,by show xs.length-(i+1)<xs.length-i;omega⟩
  have hnone:ys[i]? = none:=List.getElem?_eq_none_iff.2 (by omega)
  have hm:∀ z b':Nat,z<1000000000->b'<=1->z+c%1000000000+b=x+1000000000*b'->jI 1000000000 xs ys t (i+1) (c/1000000000) b' (os.set i z):=fun z b' h1 h2 h3=>by
   have:=hI.next (y:=0) (by omega) ht hgx (by rw [hnone];rfl) (by omega) h1 h2 (by rw [Nat.mul_zero,Nat.add_zero];exact h3);rw [Nat.mul_zero,Nat.add_zero] at this;exact this
  refine cJ rfl rfl (by omega) (by first | omega | (rw [List.length_set];omega)) ?_;refine nQ rfl rfl (by omega) (by omega) ho rfl ?_;apply vn (wR ⟨_,gU⟩ un2) rfl;apply vn (qB) rfl;apply vn (wR ⟨_,iU⟩ un2) rfl;dsimp only [aE,aF];apply vn (aG (by omega) (by omega)) rfl;apply vn (aG (by omega) (by omega)) rfl;apply vn (Nx) rfl;apply vn bQ rfl;dsimp only [aE,aF];refine vs _ rfl ?_ ?_<;>intro h42
  .apply vn (aB (by omega) (by omega)) rfl;apply vn (oI ⟨_,un2⟩ gU) rfl;refine cJ rfl rfl (by omega) (by first | omega | (rw [List.length_set];omega)) ?_;refine gP (d':=x+1000000000-c%1000000000-b) rfl rfl (by omega) (by omega) ho ?_ ?_
   .show [aD.int .u32 _] = [aD.int .u32 _]
    congr 2;omega
   apply vn (aB (by omega) (by omega)) rfl;dsimp only [aE,aF];exact bD rfl ⟨⟨(i+1,c/1000000000,1,os.set i (x+1000000000-c%1000000000-b)),hm _ 1 (by omega) (by omega) (by omega)⟩,aX.rfl,by show xs.length-(i+1)<xs.length-i;omega⟩
  apply vn (oI ⟨_,un2⟩ gU) rfl;refine cJ rfl rfl (by omega) (by first | omega | (rw [List.length_set];omega)) ?_;refine gP (d':=x-c%1000000000-b) rfl rfl (by omega) (by omega) ho ?_ ?_
  .show [aD.int .u32 _] = [aD.int .u32 _]
   congr 2;omega
  apply vn (aB (by omega) (by omega)) rfl;dsimp only [aE,aF];exact bD rfl ⟨⟨(i+1,c/1000000000,0,os.set i (x-c%1000000000-b)),hm _ 0 (by omega) (by omega) (by omega)⟩,aX.rfl,by show xs.length-(i+1)<xs.length-i;omega⟩
 apply vn fG rfl;dsimp only [aE,aF];have hie:i=xs.length:=by omega
 subst hie;obtain ⟨hb1,ho1⟩:=hI.fin (by omega) hx hl;rw [hb1] at ho1;exact lG (by rw [<-show rT os=rT _ from congrArg rT ho1];rfl) (congrArg (fun q=>[aJ.one (.bool q)]) (WH hb1))
structure Hz (xs ys:List Nat) (i c:Nat) (os:List Nat):Prop where
 le:i<=xs.length
 c1:c<=1
 len:os.length=xs.length
 dg:DB 1000000000 os
 rest:os.drop i=xs.drop i
 eq:lv (os.take i)+1000000000^i*c=lv (xs.take i)+lv (ys.take i)
theorem Hz.init {xs:List Nat} (hx:Dg xs) (ys:List Nat):Hz xs ys 0 0 xs:=⟨dD _,by omega,rfl,hx,rfl,by simp [lv,val]⟩
theorem Hz.get {xs ys os:List Nat} {i c x:Nat} (h:Hz xs ys i c os) (hx:xs[i]? = some x):os[i]? = some x:=by
 have:=congrArg (fun l=>l[0]?) h.rest;simp only [List.getElem?_drop,Nat.add_zero] at this;rw [this,hx]
theorem Hz.next {xs ys os:List Nat} {i c x y c' z:Nat} (h:Hz xs ys i c os) (hx:xs[i]? = some x) (hy:ys[i]?.getD 0=y) (hz:z<1000000000) (hc:c'<=1) (he:z+1000000000*c'=x+c+y):Hz xs ys (i+1) c' (os.set i z):=by
 have hi:i<xs.length:=(dR.1 hx).1;refine ⟨hi,hc,by rw [List.length_set];exact h.len,h.dg.set hz,?_,?_⟩
 .rw [List.drop_set_of_lt (by omega)];have:=congrArg (List.drop 1) h.rest
  simpa [List.drop_drop] using this
 .have h1:=h.eq;have h2:=congrArg (fun q=>1000000000^i*q) he;have e1:lv ((os.set i z).take (i+1))=lv (os.take i)+1000000000^i*z:=lL (by rw [h.len];exact hi);have e2:lv (xs.take (i+1))=lv (xs.take i)+1000000000^i*x:=fY hx;have e3:lv (ys.take (i+1))=lv (ys.take i)+1000000000^i*y:=jS hy;rw [e1,e2,e3,Nat.pow_succ,Nat.mul_assoc];simp only [Nat.mul_add] at h2;omega
theorem Hz.fin {xs ys os:List Nat} {c:Nat} (h:Hz xs ys xs.length c os) (hl:ys.length<xs.length) :
  c=(if 1000000000^xs.length<=lv xs+lv ys then 1 else 0)/\os=pd 1000000000 xs.length (lv xs+lv ys-1000000000^xs.length*c):=by
 have h1:=h.eq;rw [List.take_of_length_le (by rw [h.len];omega),List.take_length,List.take_of_length_le (by omega)] at h1;have h2:lv os<_:=DB.lt (by omega) h.dg;rw [h.len] at h2;have hc:=h.c1
 constructor
 .split<;>rcases (by omega:c=0\/c=1) with rfl | rfl<;>omega
 .refine Td (by omega) h.dg h.len ?_;show lv os=_;omega
theorem Wk (xs ys:List Nat) (hx:Dg xs) (hy:Dg ys) (hl:ys.length<xs.length) (hs:xs.length<1099511627776):kP prog 245 237 1 [] [(.one (.slice 1 (rT ys)):aJ)] (rT xs) [.one (.bool (decide (1000000000^xs.length<=lv xs+lv ys)))] (rT (pd 1000000000 xs.length (lv xs+lv ys-1000000000^xs.length*(if 1000000000^xs.length<=lv xs+lv ys then 1 else 0)))):=by
 refine oL (a1:=[]) (a2:=[.v none]) (i1:=[]) (i2:=[.v (.one (.slice 1 (rT ys)))]) (hints:=(fun _=>none)) fo (by kernel_rfl) func245 trivial ⟨rfl,trivial⟩ (by kernel_rfl) ?_ ?_ ?_ ?_
 .first | (simp [rT];done) | (intro t ht;obtain ⟨a,_,rfl⟩:=eM.1 ht;rfl)
 .first | (simp [rT];done) | (intro t ht;obtain ⟨a,_,rfl⟩:=eM.1 ht;rfl)
 .first | (simp [rT];done) | (intro t ht;obtain ⟨a,_,rfl⟩:=eM.1 ht;rfl)
 dsimp only [aE,aF];rw [Wn];dsimp only [List.map,In.env,aE,aF];refine Sq rfl (aK _) ?_;refine bZ {g:Nat×Nat×List Nat // Hz xs ys g.1 g.2.1 g.2.2} (fun g=>[.one (.int .u32 g.1.2.1), .one (.int .i64 g.1.1), .rows (rT g.1.2.2)]) (fun g=>xs.length-g.1.1) ⟨(0,0,xs),Hz.init hx _⟩ aX.rfl (fun _=>rfl) ?_;rintro ⟨⟨i,c,os⟩,hI⟩;dsimp only [aE,aF] at hI ⊢;have hol:=hI.len;have hil:=hI.le;have hc:=hI.c1;apply vn bQ rfl;refine vs _ rfl ?_ ?_<;>intro h3
 .have hgx:xs[i]? = some (xs[i]'(by omega)):=cC (by omega);generalize xs[i]'(by omega)=x at hgx;have hxB:=hx.get hgx;have ho:=hI.get hgx;refine cJ rfl rfl (by omega) (by first | omega | (rw [List.length_set];omega)) ?_;refine nQ rfl rfl (by omega) (by omega) ho rfl ?_;apply vn (mC) rfl;apply vn (aM eB (aK _)) rfl;dsimp only [aE,aF];apply vn bQ rfl;refine vs _ rfl ?_ ?_<;>intro h9
  .have hgy:ys[i]? = some (ys[i]'(by omega)):=cC (by omega);generalize ys[i]'(by omega)=y at hgy;have hyB:=hy.get hgy;apply vn (aH eB (by omega) (by omega) hgy) rfl;apply vn (cH xU) rfl;apply vn (mC) rfl;dsimp only [aE,aF];apply vn gJ rfl;refine vs _ rfl ?_ ?_<;>intro h14
   .apply vn (mG) rfl;refine cJ rfl rfl (by omega) (by first | omega | (rw [List.length_set];omega)) ?_;refine gP (d':=x+c+y-1000000000) rfl rfl (by omega) (by omega) ho ?_ ?_
    .show [aD.int .u32 _] = [aD.int .u32 _]
     congr 2;omega
    apply vn (aB (by omega) (by omega)) rfl;dsimp only [aE,aF];exact bD rfl ⟨⟨(i+1,1,os.set i (x+c+y-1000000000)),hI.next (z:=x+c+y-1000000000) (c':=1) (y:=y) hgx (by rw [hgy];rfl) (by omega) (by omega) (by omega)⟩,aX.rfl,by show xs.length-(i+1)<xs.length-i;omega⟩
   refine cJ rfl rfl (by omega) (by first | omega | (rw [List.length_set];omega)) ?_;refine gP (d':=x+c+y) rfl rfl (by omega) (by omega) ho ?_ ?_
   .show [aD.int .u32 _] = [aD.int .u32 _]
    congr 2
   apply vn (aB (by omega) (by omega)) rfl;dsimp only [aE,aF];exact bD rfl ⟨⟨(i+1,0,os.set i (x+c+y)),hI.next (z:=x+c+y) (c':=0) (y:=y) hgx (by rw [hgy];rfl) (by omega) (by omega) (by omega)⟩,aX.rfl,by show xs.length-(i+1)<xs.length-i;omega⟩
  have hnone:ys[i]? = none:=List.getElem?_eq_none_iff.2 (by omega);apply vn gJ rfl;refine vs _ rfl ?_ ?_<;>intro h25
  .apply vn (mG) rfl;refine cJ rfl rfl (by omega) (by first | omega | (rw [List.length_set];omega)) ?_;refine gP (d':=x+c-1000000000) rfl rfl (by omega) (by omega) ho ?_ ?_
   .show [aD.int .u32 _] = [aD.int .u32 _]
    congr 2;omega
   apply vn (aB (by omega) (by omega)) rfl;dsimp only [aE,aF];exact bD rfl ⟨⟨(i+1,1,os.set i (x+c-1000000000)),hI.next (z:=x+c-1000000000) (c':=1) (y:=0) hgx (by rw [hnone];rfl) (by omega) (by omega) (by omega)⟩,aX.rfl,by show xs.length-(i+1)<xs.length-i;omega⟩
  refine cJ rfl rfl (by omega) (by first | omega | (rw [List.length_set];omega)) ?_;refine gP (d':=x+c) rfl rfl (by omega) (by omega) ho ?_ ?_
  .show [aD.int .u32 _] = [aD.int .u32 _]
   congr 2
  apply vn (aB (by omega) (by omega)) rfl;dsimp only [aE,aF];exact bD rfl ⟨⟨(i+1,0,os.set i (x+c)),hI.next (z:=x+c) (c':=0) (y:=0) hgx (by rw [hnone];rfl) (by omega) (by omega) (by omega)⟩,aX.rfl,by show xs.length-(i+1)<xs.length-i;omega⟩
 apply vn fG rfl;dsimp only [aE,aF];have hie:i=xs.length:=by omega
 subst hie;obtain ⟨hb1,ho1⟩:=hI.fin hl;rw [hb1] at ho1;exact lG (by rw [<-show rT os=rT _ from congrArg rT ho1];rfl) (congrArg (fun q=>[aJ.one (.bool q)]) (WH hb1))
open Go Go.Proofs Tryz Ord
def aV7:Tr:=.need (.prim [(W 52 0)] none) (.unOp .not 4 (tT 120)) 4 false (.split (.u 55 0) (.need (.rop 54 237 1 (some ((.u 27 0),(.u 47 0))) [] [(W 14 0)] [none]) (.call ⟨.value (.func 245),#[(tT 124),(tT 125)],#[40,40]⟩) 4 true (.need (.prim [(W 53 0),(.one (.c (.k (.int .u64 1))))] none) (.binOp .sub 236 (tT 122) (.const (.int .u64 1)) 236) 236 false (.back 1 [lV 56 0,lV 58 0, .row 57]))) (.need (.prim [(W 53 0)] none) (.convert 236 237 (tT 129)) 237 false (.need (.idx 28 (.u 27 0)) (.indexAddr 40 (tT 127) (tT 128)) 0 false (.need (.strow 28 1 (.u 27 0) 0 [(.u 56 0)]) (.store 237 (tT 131) (tT 130)) 0 false (bI .sub 3 77 1 27 0 3 (.back 0 [lV 58 0, .row 57, .row 54]))))))
def ba9:Tr:=.need (.rop 29 237 1 (some ((.u 27 0),(.u 47 0))) [] [(W 14 0),(W 45 0)] [none]) (.call ⟨.value (.func 244),#[(tT 116),(tT 117),(tT 118)],#[40,40,236]⟩) 4 true (.split (.u 50 0) (.loop 1 [(.w (.one (.c (.k (.bool false))))),lV 45 0, .row 51] aV7) (.need (.prim [(W 45 0)] none) (.convert 236 237 (tT 129)) 237 false (.need (.idx 28 (.u 27 0)) (.indexAddr 40 (tT 127) (tT 128)) 0 false (.need (.strow 28 1 (.u 27 0) 0 [(.u 52 0)]) (.store 237 (tT 131) (tT 130)) 0 false (bI .sub 3 77 1 27 0 3 (.back 0 [lV 54 0, .row 53, .row 51]))))))
def aT3:Tr:=cU .quo 236 96 102 39 0 43 0 236 (.need (.prim [(W 44 0),(.one (.c (.k (.int .u64 999999999))))] none) (.call ⟨.builtin .min,#[(tT 103),(.const (.int .u64 999999999))],#[236,236]⟩) 236 false (cU .add 3 107 108 27 0 15 0 3 (bI .add 3 109 1 46 0 3 (cU .add 3 111 112 27 0 15 0 3 (bI .add 3 113 1 48 0 3 (.need (.view 29 (.u 27 0) (.u 47 0) (.u 49 0)) (.slice 40 (tT 105) (some (tT 106)) (some (tT 110)) (some (tT 114))) 40 false ba9))))))
def be4:Tr:=.need (.ldrow 29 (.u 36 0) 0 1 false) (.load 237 (tT 92)) 237 false (.need (.prim [(W 37 0)] none) (.convert 237 236 (tT 93)) 236 false (cU .add 236 86 94 34 0 38 0 236 (bI .sub 3 98 1 15 0 3 (eW 14 0 40 0 40 97 99 (eI 41 0 none 237 100 (.need (.prim [(W 42 0)] none) (.convert 237 236 (tT 101)) 236 false aT3))))))
def bh0:Tr:=.need (.idx 29 (.u 31 0)) (.indexAddr 40 (tT 79) (tT 82)) 0 false (.need (.ldrow 29 (.u 31 0) 0 1 false) (.load 237 (tT 83)) 237 false (.need (.prim [(W 32 0)] none) (.convert 237 236 (tT 84)) 236 false (.need (.prim [(W 33 0),(.one (.c (.k (.int .u64 1000000000))))] none) (.binOp .mul 236 (tT 85) (.const (.int .u64 1000000000)) 236) 236 false (cU .add 3 88 89 27 0 15 0 3 (bI .sub 3 90 1 35 0 3 (.need (.idx 29 (.u 36 0)) (.indexAddr 40 (tT 87) (tT 91)) 0 false be4))))))
def aY3:Tr:=.loop 0 [lV 26 0, .row 24, .row 21] (bI .geq 3 75 0 27 0 4 (.split (.u 30 0) (cU .add 3 80 81 27 0 15 0 3 bh0) (aZ 208 [(.one (.c (.sr 1 29)))] [(some 1)] [133] [40] 42 false (aZ 222 [(G1 31),(G1 13)] [(some 1),(some 1)] [134,135] [42,42] 249 false (aZ 208 [(.one (.c (.sr 1 28)))] [(some 1)] [139] [40] 42 false (.ret [(G1 34),(G1 32)]))))))
def aQ6:Tr:=aZ 162 [(G1 0),(G1 13)] [(some 1)] [62,63] [42,42] 42 true (.need (.rop 18 237 1 none [] [(W 19 0)] [none]) (.call ⟨.builtin .copy,#[(tT 61),(tT 65)],#[40,40]⟩) 3 false (.need (.lenrow 21) (.call ⟨.builtin .len,#[(tT 67)],#[40]⟩) 3 false (cU .sub 3 68 69 22 0 15 0 3 (.need (.make [(.int .u32 0)] 4 (.u 23 0) (.u 23 0)) (.makeSlice 40 (tT 70) (tT 70)) 40 false (.need (.lenrow 24) (.call ⟨.builtin .len,#[(tT 72)],#[40]⟩) 3 false (bI .sub 3 73 1 25 0 3 aY3))))))
def bl6:Tr:=.need (.prim [(W 11 0)] none) (.convert 237 236 (tT 47)) 236 false (aZ 206 [(W 12 0)] [(some 1)] [48] [236] 42 true (aZ 162 [(G1 1),(G1 13)] [(some 1)] [50,51] [42,42] 42 true (dS 14 0 54 40 (dS 0 0 57 40 (bI .add 3 58 1 16 0 3 (.need (.make [(.int .u32 0)] 4 (.u 17 0) (.u 17 0)) (.makeSlice 40 (tT 59) (tT 59)) 40 false aQ6))))))
def bo0:Tr:=.split (.u 5 0) (.need (.prim [(W 1 0),(WK 0)] none) (.indexAddr 40 (tT 32) (.const (I3 0))) 0 false (eI 6 0 none 237 33 (aZ 243 [(G1 0),(W 7 0)] [(some 1),(some 1)] [30,34] [42,237] 249 true (.ret [(G1 8),(G1 9)])))) (dS 1 0 41 40 (bI .sub 3 42 1 6 0 3 (eW 1 0 7 0 40 39 43 (eI 8 0 none 237 44 (.need (.prim [(W 9 0),(.one (.c (.k (.int .u32 1))))] none) (.binOp .add 237 (tT 45) (.const (.int .u32 1)) 237) 237 false (.need (.prim [(.one (.c (.k (.int .u32 1000000000)))),(W 10 0)] none) (.binOp .quo 237 (.const (.int .u32 1000000000)) (tT 46) 237) 237 false bl6))))))
def bu8:Tr:=aZ 164 [(G1 0),(G1 1)] [none] [19,20] [42,42] 3 true (bI .lss 3 21 0 2 0 4 (.split (.u 3 0) (.ret [(.agg [tN]),(G1 0)]) (dS 1 0 27 40 (bI .eql 3 28 1 4 0 4 bo0))))
theorem ae4:aV prog f222 (fun _=>none) [.v (some 1), .v (some 1)]=bu8:=by kernel_rfl
theorem qY {a b:Int}:eT a b<0↔a<b:=by unfold eT;split<;>(try split)<;>omega
theorem ag9 {n:Nat} (h:n=0):aD.Sub (.exact (.slice none 0 0)) (dT n):=by
 subst h;have:dg 0 = []:=eD _;rw [dT,this];exact aD.Sub.nil
theorem vC {n:Nat} (h0:0<n:=by omega) (h:n<1000000000:=by omega):dg n = [n]:=by
 rw [dg,gS,Nat.mod_eq_of_lt h,Nat.div_eq_of_lt h,eD]
theorem DK {n k:Nat} (h:n<1000000000^k):(dg n).length<=k:=kC h
theorem NX (n:Nat):n<1000000000^(dg n).length:=lB (by omega) n
theorem ZP {n:Nat} (h:n≠0:=by omega):1000000000^((dg n).length-1)<=n:=gC (by omega) h
theorem aa6 {n i:Nat} (h:i<(dg n).length:=by omega):(dg n)[i]? = some (n/1000000000^i%1000000000):=by
 have e:(dg n)[i]? = (pd 1000000000 (dg n).length n)[i]?:=congrArg (fun l:List Nat=>l[i]?) (Xe n);rw [e,Da _ h]
theorem TM {n:Nat} (h:0<n):1000000000^(n-1)*1000000000=1000000000^n:=by
 obtain ⟨k,rfl⟩:∃ k,n=k+1:=⟨n-1,by omega⟩
 rw [Nat.add_sub_cancel,Nat.pow_succ]
theorem bh4 {r1 r2 vt:Nat} (h1:r1<1000000000) (h2:r2<1000000000):(r1*1000000000+r2)/vt<1000000000000000000:=
 Nat.lt_of_le_of_lt (Nat.div_le_self _ _) (by omega)
theorem aa3 (q:Nat):min (q:Int) 999999999=((min q 999999999:Nat):Int):=by omega
theorem Ws {n:Nat} (h:n<1000000000):(n:Int)<4294967296:=by omega
theorem ZV {n:Nat} (h:n<1000000000000000000):(n:Int)<18446744073709551616:=by omega
theorem oA (n:Nat):(0:Int)<=(n:Int):=Int.natCast_nonneg _
theorem aO1 (i:Nat):((i+1:Nat):Int)-1-1=(i:Int)-1:=by omega
theorem be5 {P:Program} {T U ty:Nat} {x y:Operand} {a b:Nat} {a':Int} (ha':a'=a) (hb:0<b) (hc:(a/b:Nat)<1000000000000000000):bF P (.binOp .quo T x y U) ty [.one (.int .u64 a'), .one (.int .u64 b)] (.one (.int .u64 ((a/b:Nat):Int))):=by
 subst ha';exact oX (by omega) (by rw [Int.tdiv_eq_ediv_of_nonneg (oA _),<-Int.natCast_ediv,rG (oA _) (ZV hc)])
theorem aC4 (a b:Nat) (hb0:0<b) (hb:b<1000000000) (hs:(dg a).length<549755813888):aQ prog 222 [(mT a:aJ),(mT b:aJ)] (.ret [mT (a/b),mT (a%b)]):=by
 refine eH func222 ae4 ?_;have e1:=vC hb0 hb;apply aA (sY a b (by rw [e1];simp;omega)) rfl;apply vn bQ rfl;dsimp only [aE,aF];rw [show decide (eT (a:Int) (b:Int)<0)=decide (a<b) by rw [decide_eq_decide,qY];omega];refine vs _ rfl ?_ ?_<;>intro h2
 .refine jL ⟨⟨ag9 (Nat.div_eq_of_lt h2),trivial⟩,⟨?_,trivial⟩,trivial⟩;rw [Nat.mod_eq_of_lt h2];exact aD.Sub.same
 apply vn (aM eB (aK _)) rfl;apply vn dP rfl;refine vs _ rfl ?_ ?_<;>intro h6
 .apply vn (aH eB (by omega) (by omega) (show (dg b)[0]? = some b by rw [e1];rfl)) rfl;apply vn (cH xU) rfl;dsimp only [aE,aF];apply aA (Ri a b hb0 hb) rfl;exact aL rfl
 exact absurd (by rw [e1];simp) h6
structure Tg (S V L m n:Nat) (os:List Nat) (R:Nat):Prop where
 le:n<=m
 len:os.length=m
 dg:Dg os
 eq:S=R+V*1000000000^n*lv (os.drop n)
 lt:R/1000000000^n<V
 fit:R<1000000000^L
theorem Tg.next {S V L m n R g:Nat} {os:List Nat} (h:Tg S V L m (n+1) os R) (hV:0<V) (hg:g=R/1000000000^n/V) :
  Tg S V L m n (os.set n g) (R%1000000000^n+1000000000^n*(R/1000000000^n%V)):=by
 obtain ⟨h1,h2,h3,h4⟩:=HJ (B:=1000000000) (by omega) hV h.eq h.lt;have hn:=h.le;have hlen:=h.len;subst hg;refine ⟨by omega,by rw [List.length_set];exact hlen,h.dg.set h2,?_,h4,?_⟩
 .rw [QI (x:=R/1000000000^n/V) (by rw [List.getElem?_set_self (by omega)]),List.drop_set_of_lt (by omega)];exact h3
 .refine Nat.lt_of_le_of_lt ?_ h.fit;have:=Nat.mod_add_div R (1000000000^n);have h5:=Nat.mul_le_mul_left (1000000000^n) (Nat.mod_le (R/1000000000^n) V);omega
def gbv (W X V:Nat) (p:Bool×Nat):Nat:=if p.1 then X%V else X+W-p.2*V
theorem bh3 {R i nv:Nat} (hnv:0<nv) (h:R/1000000000^(i+nv)<1000000000):R/1000000000^(i+nv)%1000000000*1000000000+R/1000000000^(i+nv-1)%1000000000=R/1000000000^i/1000000000^(nv-1):=by
 rw [Nat.mod_eq_of_lt h,Nat.div_div_eq_div_mul,<-Nat.pow_add,show i+(nv-1)=i+nv-1 by omega]
 have e:R/1000000000^(i+nv)=R/1000000000^(i+nv-1)/1000000000:=by
  rw [Nat.div_div_eq_div_mul,<-Nat.pow_succ];congr 2;omega
 rw [e];have:=Nat.div_add_mod (R/1000000000^(i+nv-1)) 1000000000;omega
theorem XZ {b s top:Nat} (hs0:0<s) (hs:s*(top+1)<=1000000000) (htop:top=b/1000000000^((dg b).length-1)) (hb:b≠0:=by omega):(dg (b*s)).length=(dg b).length:=by
 have hp:0<1000000000^((dg b).length-1):=Nat.pow_pos (by omega)
 have hl:0<(dg b).length:=by
  rcases Nat.eq_zero_or_pos (dg b).length with h | h
  .exact (hb (Pd.1 (List.eq_nil_of_length_eq_zero h))).elim
  .exact h
 apply Nat.le_antisymm
 .apply DK
  have h1:b<(top+1)*1000000000^((dg b).length-1):=by
   rw [htop,Nat.mul_comm];exact Nat.lt_mul_div_succ b hp
  calc b*s<(top+1)*1000000000^((dg b).length-1)*s:=Nat.mul_lt_mul_of_pos_right h1 hs0
   _=s*(top+1)*1000000000^((dg b).length-1):=by simp only [Nat.mul_comm,Nat.mul_left_comm,Nat.mul_assoc]
   _<=1000000000*1000000000^((dg b).length-1):=Nat.mul_le_mul_right _ hs
   _=1000000000^(dg b).length:=by rw [Nat.mul_comm,<-Nat.pow_succ];congr 1;omega
 .exact nO (Nat.le_mul_of_pos_right b hs0)
set_option maxHeartbeats 1000000 in
theorem PS (a b:Nat) (hb0:0<b) (hs:(dg a).length+(dg b).length<274877906944:=by omega):aQ prog 222 [(mT a:aJ),(mT b:aJ)] (.ret [mT (a/b),mT (a%b)]):=by
 refine eH func222 ae4 ?_;apply aA (sY a b) rfl;apply vn bQ rfl;dsimp only [aE,aF];rw [show decide (eT (a:Int) (b:Int)<0)=decide (a<b) by rw [decide_eq_decide,qY];omega];refine vs _ rfl ?_ ?_<;>intro h2
 .refine jL ⟨⟨ag9 (Nat.div_eq_of_lt h2),trivial⟩,⟨?_,trivial⟩,trivial⟩;rw [Nat.mod_eq_of_lt h2];exact aD.Sub.same
 have hbl:0<(dg b).length:=by
  rcases Nat.eq_zero_or_pos (dg b).length with h | h
  .exact (Nat.ne_of_gt hb0 (Pd.1 (List.eq_nil_of_length_eq_zero h))).elim
  .exact h
 have hlen:=nO (Nat.le_of_not_lt h2);apply vn (aM eB (aK _)) rfl;apply vn dP rfl;refine vs _ rfl ?_ ?_<;>intro h6
 .have hb:b<1000000000:=by
   have:=NX b;rw [show (dg b).length=1 by omega] at this;omega
  have e1:=vC hb0 hb;apply vn (aH eB (by omega) (by omega) (show (dg b)[0]? = some b by rw [e1];rfl)) rfl;apply vn (cH xU) rfl;dsimp only [aE,aF];apply aA (Ri a b hb0 hb) rfl;exact aL rfl
 obtain ⟨top,htop⟩:∃ t,(dg b)[(dg b).length-1]? = some t:=⟨_,cC (by omega)⟩
 have htB:=(kZ b).get htop
 have htv:top=b/1000000000^((dg b).length-1):=by
  have h1:=aa6 (n:=b) (i:=(dg b).length-1);rw [htop] at h1;simp only [aN] at h1;rw [h1,Nat.mod_eq_of_lt];rw [Nat.div_lt_iff_lt_mul (Nat.pow_pos (by omega)),Nat.mul_comm,TM hbl];exact NX b
 have ht0:0<top:=by
  rw [htv];exact Nat.div_pos (ZP) (Nat.pow_pos (by omega))
 obtain ⟨s,hs'⟩:∃ s,1000000000/(top+1)=s:=⟨_,rfl⟩
 have hsle:s*(top+1)<=1000000000:=by rw [<-hs'];exact Nat.div_mul_le_self _ _
 have hs0:0<s:=by rw [<-hs'];exact Nat.div_pos (by omega) (by omega)
 have hsB:s<1000000000:=by
  rw [<-hs'];exact Nat.div_lt_self (by omega) (by omega)
 have hvl:=XZ hs0 hsle htv;apply vn (aM eB (aK _)) rfl;apply vn (aG (by omega) (by omega)) rfl;apply vn (aH eB (by omega) (by omega) htop) rfl;apply vn (cH xU) rfl;dsimp only [aE,aF];apply vn (mC) rfl;dsimp only [aE,aF];apply vn (oX (c:=(s:Int)) (by omega) (by rw [Int.tdiv_eq_ediv_of_nonneg (by omega),show ((1000000000:Int)/((top:Int)+1))=((1000000000/(top+1):Nat):Int) by simp,hs',Am]<;>omega)) rfl;apply vn (rF ⟨_,gU⟩ iU) rfl;apply aA (nN s) rfl;apply aA (nH b s (by rw [vC hs0 hsB];simp;omega)) rfl;obtain ⟨V,hV⟩:∃ V,b*s=V:=⟨_,rfl⟩
 obtain ⟨S,hS⟩:∃ S,a*s=S:=⟨_,rfl⟩
 rw [hV] at hvl ⊢;have hV0:0<V:=by rw [<-hV];exact Nat.mul_pos hb0 hs0
 dsimp only [aE,aF];apply vn (aM eB (aK _)) rfl;apply vn (aM eB (aK _)) rfl;apply vn (aB (by omega) (by omega)) rfl;dsimp only [aE,aF];refine Cq (n:=(dg a).length+1) (f:=fun d:Nat=>[aD.int .u32 (d:Int)]) 0 rfl rfl (by omega) rfl (by omega) (by simp only [maxLen];omega) ?_;apply aA (nH a s (by rw [vC hs0 hsB];simp;omega)) rfl;rw [hS]
 have hSlt:S<1000000000^((dg a).length+1):=by
  rw [<-hS,Nat.pow_succ];exact Nat.mul_lt_mul'' (NX a) hsB
 have hSle:=DK hSlt
 have hSV:S<V*1000000000^((dg a).length+1-(dg b).length):=by
  rw [<-hS,<-hV];have h1:=NX a;have h2:=ZP (n:=b)
  have h3:1000000000^(dg a).length<=b*1000000000^((dg a).length+1-(dg b).length):=by
   refine Nat.le_trans (Nat.le_of_eq ?_) (Nat.mul_le_mul_right _ h2);rw [<-Nat.pow_add];congr 1;omega
  calc a*s<b*1000000000^((dg a).length+1-(dg b).length)*s:=Nat.mul_lt_mul_of_pos_right (Nat.lt_of_lt_of_le h1 h3) hs0
   _=_:=by simp only [Nat.mul_comm,Nat.mul_left_comm,Nat.mul_assoc]
 obtain ⟨L,hL⟩:∃ L,(dg a).length+1=L:=⟨_,rfl⟩
 rw [hL] at hSlt hSle hSV;dsimp only [aE,aF];refine ZT (xs:=dg S) (zs:=List.replicate ((dg a).length+1) 0) (ws:=pd 1000000000 L S) (fun _=>rfl) rfl rfl eB (by simp;omega) (by simp) (Td (by omega) ((DB.lE (by omega) S).append ((DB.rep (by omega) _).drop _)) (by simp only [eC,List.length_drop,List.length_replicate];show (dg S).length+_=_;omega) (by rw [List.drop_replicate,jE,WC];show lv (dg S)+_=_;rw [iI,Nat.mul_zero,Nat.add_zero])) ?_;refine Sq (n:=L) rfl (by simp) ?_;apply vn (aG (by omega) (by omega)) rfl;dsimp only [aE,aF];refine Cq (n:=L-(dg b).length) (f:=fun d:Nat=>[aD.int .u32 (d:Int)]) 0 rfl rfl (by rw [hvl];omega) rfl (by omega) (by simp only [maxLen];omega) ?_;refine Sq (n:=L-(dg b).length) rfl (by simp) ?_;apply vn (aG (by omega) (by omega)) rfl;dsimp only [aE,aF];obtain ⟨m,hm⟩:∃ m,L-(dg b).length=m:=⟨_,rfl⟩
 rw [hm] at hSV ⊢;rw [hvl];obtain ⟨nv,hnv⟩:∃ n,(dg b).length=n:=⟨_,rfl⟩
 rw [hnv] at hvl htv htop hbl hlen hm hs ⊢;refine bZ {g:Nat×List Nat×Nat // Tg S V L m g.1 g.2.1 g.2.2} (fun g=>[.one (.int .i64 ((g.1.1:Int)-1)), .rows (rT g.1.2.1), .rows (rT (pd 1000000000 L g.1.2.2))]) (fun g=>g.1.1) ⟨(m,List.replicate m 0,S),⟨aY _,by simp,Dg.rep _,by simp [lv,val],by rw [Nat.div_lt_iff_lt_mul (Nat.pow_pos (by omega))];exact hSV,hSlt⟩⟩ aX.rfl (fun _=>rfl) ?_;rintro ⟨⟨n,os,R⟩,hI⟩;dsimp only [aE,aF] at hI ⊢;have hnm:=hI.le;have hol:=hI.len;have hfit:=hI.fit;have hLs:L<549755813888:=by omega
 have hnvL:nv<L:=by omega
 apply vn gJ rfl;refine vs _ rfl ?_ ?_<;>intro h33
 .clear htop htB htv ht0 hs' hsle hSV hSlt hSle hs hlen hL hnv h2 h6 hS hV hsB hs0;obtain ⟨i,rfl⟩:∃ i,n=i+1:=⟨n-1,by omega⟩
  obtain ⟨hX1,hX2,_,_⟩:=HJ (B:=1000000000) (by omega) hV0 hI.eq hI.lt;obtain ⟨X,hX⟩:∃ X,R/1000000000^i=X:=⟨_,rfl⟩
  have hVlt:V<1000000000^nv:=by rw [<-hvl];exact NX V
  have hXlt:X<1000000000^(nv+1):=by
   rw [Nat.pow_succ,<-hX];exact Nat.lt_trans hX1 (Nat.mul_lt_mul_of_pos_right hVlt (by omega))
  have hRtop:R/1000000000^(i+(nv+1))=0:=by
   rw [Nat.pow_add,<-Nat.div_div_eq_div_mul,hX];exact Nat.div_eq_of_lt hXlt
  have hRnv:R/1000000000^(i+nv)<1000000000:=by
   rw [Nat.pow_add,<-Nat.div_div_eq_div_mul,hX,Nat.div_lt_iff_lt_mul (Nat.pow_pos (by omega)),Nat.mul_comm,<-Nat.pow_succ];exact hXlt
  have htwo:=bh3 hbl hRnv;rw [hX] at htwo hX1 hX2;obtain ⟨r1,hr1⟩:∃ r,R/1000000000^(i+nv)%1000000000=r:=⟨_,rfl⟩
  obtain ⟨r2,hr2⟩:∃ r,R/1000000000^(i+nv-1)%1000000000=r:=⟨_,rfl⟩
  have hr1B:r1<1000000000:=by rw [<-hr1];exact Nat.mod_lt _ (by omega)
  have hr2B:r2<1000000000:=by rw [<-hr2];exact Nat.mod_lt _ (by omega)
  have hg1:(pd 1000000000 L R)[i+nv]? = some r1:=by rw [Da _ (by omega),hr1]
  have hg2:(pd 1000000000 L R)[i+nv-1]? = some r2:=by rw [Da _ (by omega),hr2]
  rw [hr1,hr2] at htwo;obtain ⟨vt,hvt⟩:∃ t,V/1000000000^(nv-1)=t:=⟨_,rfl⟩
  have hvtB:vt<1000000000:=by
   rw [<-hvt,Nat.div_lt_iff_lt_mul (Nat.pow_pos (by omega)),Nat.mul_comm,TM hbl];exact hVlt
  have hvt0:0<vt:=by
   have:=ZP (n:=V);rw [hvl] at this;rw [<-hvt];exact Nat.div_pos this (Nat.pow_pos (by omega))
  have hgv:(dg V)[nv-1]? = some vt:=by
   rw [aa6,hvt,Nat.mod_eq_of_lt hvtB]
  obtain ⟨g,hg⟩:∃ g,min ((r1*1000000000+r2)/vt) 999999999=g:=⟨_,rfl⟩
  have hgB:g<1000000000:=by rw [<-hg];exact Nat.lt_of_le_of_lt (Nat.min_le_right _ _) (by decide)
  have hgq:X/V<=g:=by
   rw [<-hg];have h1:=ad3 (B:=1000000000) (X:=X) (V:=V) (n:=nv-1) (by rw [hvt];exact hvt0);rw [hvt,<-htwo] at h1;exact Nat.le_min.2 ⟨h1,Nat.le_of_lt_succ hX2⟩
  have hpdl:(pd 1000000000 L R).length=L:=eO _ _;apply vn (aB (by omega) (by omega)) rfl;refine cJ rfl rfl (by omega) (by rw [eO];omega) ?_;refine nQ rfl rfl (by omega) (by omega) hg1 rfl ?_;apply vn (rF ⟨_,gU⟩ iU) rfl;dsimp only [aE,aF];apply vn (YX) rfl;apply vn (aB (by omega) (by omega)) rfl;apply vn (aG (by omega) (by omega)) rfl;refine cJ rfl rfl (by omega) (by rw [eO];omega) ?_;refine nQ rfl rfl (by omega) (by omega) hg2 rfl ?_;dsimp only [aE,aF];apply vn (rF ⟨_,gU⟩ iU) rfl;apply vn (Yl) rfl;apply vn (aG (by omega) (by omega)) rfl;apply vn (aH eB (by omega) (by omega) hgv) rfl;dsimp only [aE,aF];apply vn (cH xU) rfl;apply vn (rF ⟨_,gU⟩ iU) rfl;apply vn (be5 (a:=r1*1000000000+r2) (by rw [Int.natCast_add,Int.natCast_mul];rfl) hvt0 (bh4 hr1B hr2B)) rfl;apply vn aN5 rfl;dsimp only [aE,aF];rw [aa3,hg];apply vn (aB (by omega) (by omega)) rfl;apply vn (aB (by omega) (by omega)) rfl;apply vn (aB (by omega) (by omega)) rfl;apply vn (aB (by omega) (by omega)) rfl;dsimp only [aE,aF];refine by1 (n:=i) (m:=i+nv+1) rfl (by show aD.int .i64 _=aD.int .i64 _;congr 1;omega) (by show aD.int .i64 _=aD.int .i64 _;congr 1;omega) (by show aD.int .i64 _=aD.int .i64 _;congr 1;omega) (by omega) (by simp;omega) ?_
  have hgV:g*V<1000000000^(nv+1):=by
   rw [Nat.pow_succ,Nat.mul_comm (1000000000^nv)];exact Nat.lt_of_lt_of_le (Nat.mul_lt_mul_of_pos_right (by omega:g<1000000000) hV0) (Nat.mul_le_mul_left _ (Nat.le_of_lt hVlt))
  have hview:∀ Y,Y<1000000000^(nv+1)->((rT (pd 1000000000 L (R%1000000000^i+1000000000^i*Y))).take (i+nv+1)).drop i=rT (pd 1000000000 (nv+1) Y):=by
   intro Y hY;rw [rT,rT,<-List.map_take,<-List.map_drop,OT _ (by omega),QG,show i+nv+1-i=nv+1 by omega]
   congr 2
   rw [Nat.add_mul_div_left _ _ (Nat.pow_pos (by omega)),Nat.div_eq_of_lt (Nat.mod_lt _ (Nat.pow_pos (by omega))),Nat.zero_add]
  have hfitY:∀ Y,Y<1000000000^(nv+1)->R%1000000000^i+1000000000^i*Y<1000000000^L:=by
   intro Y hY;have h1:R%1000000000^i<1000000000^i:=Nat.mod_lt _ (Nat.pow_pos (by omega));have h2:1000000000^i*(Y+1)<=1000000000^i*1000000000^(nv+1):=Nat.mul_le_mul_left _ hY;rw [<-Nat.pow_add] at h2;have h3:1000000000^(i+(nv+1))<=1000000000^L:=Nat.pow_le_pow_right (by omega) (by omega);rw [Nat.mul_add,Nat.mul_one] at h2;omega
  have hput:∀ Y Z,Y<1000000000^(nv+1)->Z<1000000000^(nv+1)->(rT (pd 1000000000 L (R%1000000000^i+1000000000^i*Y))).take i++rT (pd 1000000000 (nv+1) Z)++(rT (pd 1000000000 L (R%1000000000^i+1000000000^i*Y))).drop (i+(rT (pd 1000000000 (nv+1) Y)).length)=rT (pd 1000000000 L (R%1000000000^i+1000000000^i*Z)):=by
   intro Y Z hY hZ;have hp:0<1000000000^i:=Nat.pow_pos (by omega);have hm:R%1000000000^i<1000000000^i:=Nat.mod_lt _ hp;rw [cR,eO,rT,rT,rT,<-List.map_take,<-List.map_drop,<-List.map_append,<-List.map_append,YE (hfitY Y hY) hZ]
   have e:(R%1000000000^i+1000000000^i*Y)/1000000000^(i+(nv+1))=0:=by
    rw [Nat.pow_add 1000000000 i,<-Nat.div_div_eq_div_mul,Nat.add_mul_div_left _ _ hp,Nat.div_eq_of_lt hm,Nat.zero_add];exact Nat.div_eq_of_lt hY
   rw [e,Nat.add_mul_mod_self_left,Nat.mod_eq_of_lt hm,Nat.mul_zero,Nat.add_zero]
  have hRX:R=R%1000000000^i+1000000000^i*X:=by rw [<-hX];exact (Nat.mod_add_div _ _).symm
  have hsub:=Ve (pd 1000000000 (nv+1) X) (dg V) g (GI (by omega) _ _) (kZ V) hgB (by rw [eO];omega) (by rw [eO];omega);have hlvX:∀ Y,Y<1000000000^(nv+1)->lv (pd 1000000000 (nv+1) Y)=Y:=fun Y hY=>by rw [lv,zL,Nat.mod_eq_of_lt hY]
  rw [hlvX X hXlt,iI,eO] at hsub
  have hgive:∀ Y,Y<1000000000^(nv+1)->kP prog 245 237 1 [] [.one (.slice 1 (rT (dg V)))] (rT (pd 1000000000 (nv+1) Y)) [.one (.bool (decide (1000000000^(nv+1)<=Y+V)))] (rT (pd 1000000000 (nv+1) (Y+V-1000000000^(nv+1)*(if 1000000000^(nv+1)<=Y+V then 1 else 0)))):=by
   intro Y hY;have h1:=Wk (pd 1000000000 (nv+1) Y) (dg V) (GI (by omega) _ _) (kZ V) (by rw [eO];omega) (by rw [eO];omega);rw [hlvX Y hY,iI,eO] at h1;exact h1
  have hok:os[i]? = some (os[i]'(by omega)):=cC (by omega);have hVB:V<1000000000^(nv+1):=Nat.lt_of_lt_of_le hVlt (Nat.pow_le_pow_right (by omega) (by omega));have hXV:X%V<1000000000^(nv+1):=Nat.lt_trans (Nat.mod_lt _ hV0) hVB
  have hN:Tg S V L m i (os.set i (X/V)) (R%1000000000^i+1000000000^i*(X%V)):=by
   have:=hI.next hV0 rfl;rw [hX] at this;exact this
  clear hI htwo hg hr1 hr2 hg1 hg2 hvt hgv hvt0 hvtB hX hRnv hRtop hr1B hr2B hpdl hlvX hfit
  refine aI7 (n:=i) (vs:=rT (pd 1000000000 L (R%1000000000^i+1000000000^i*(X+1000000000^(nv+1)*(if X<g*V then 1 else 0)-g*V)))) (ts:=rT (pd 1000000000 L R)) (us:=rT (pd 1000000000 (nv+1) X)) rfl ⟨.i64, .i64,i+nv+1,(by show aD.int .i64 _=aD.int .i64 _;congr 1;omega),(by show aD.int .i64 _=aD.int .i64 _;congr 1;omega),by omega,by simp;omega,by rw [<-hview X hXlt,<-hRX]⟩ (by simp [pd]) rfl (SD rfl hsub) (by
   conv=>lhs;rw [hRX]
   exact hput X _ hXlt (by split<;>omega)) ?_
  refine vs _ rfl ?_ ?_<;>intro h57
  .refine bZ {p:Bool×Nat // if p.1 then p.2=X/V else X<p.2*V/\p.2<1000000000} (fun p=>[.one (.bool p.1.1), .one (.int .u64 p.1.2), .rows (rT (pd 1000000000 L (R%1000000000^i+1000000000^i*gbv (1000000000^(nv+1)) X V p.1)))]) (fun p=>if p.1.1 then 0 else p.1.2+1) ⟨(false,g),by simp only [Bool.false_eq_true,if_false];exact ⟨h57,hgB⟩⟩ ⟨aJ.Sub.same,aJ.Sub.same,aJ.Sub.of_eq (congrArg (fun y=>aJ.rows (rT (pd 1000000000 L (R%1000000000^i+1000000000^i*y)))) (by simp only [gbv,Bool.false_eq_true,if_false];rw [if_pos h57,Nat.mul_one])),trivial⟩ (fun _=>rfl) ?_;rintro ⟨⟨made,g'⟩,hp⟩;dsimp only [aE,aF] at hp ⊢;apply vn gX rfl;refine pY (!made) rfl (fun h60=>?_) (fun h60=>?_)
   .have hmd:made=false:=by simpa using h60
    subst hmd;simp only [Bool.false_eq_true,if_false] at hp
    have hgV':g'*V<1000000000^(nv+1):=by
     rw [Nat.pow_succ,Nat.mul_comm (1000000000^nv)];exact Nat.lt_of_lt_of_le (Nat.mul_lt_mul_of_pos_right (by omega:g'<1000000000) hV0) (Nat.mul_le_mul_left _ (Nat.le_of_lt hVlt))
    have hg0:0<g':=by
     rcases Nat.eq_zero_or_pos g' with h | h
     .rw [h] at hp;omega
     .exact h
    have hgm:(g'-1)*V+V=g'*V:=by
     obtain ⟨k,rfl⟩:∃ k,g'=k+1:=⟨g'-1,by omega⟩
     rw [Nat.add_sub_cancel,Nat.add_mul,Nat.one_mul]
    obtain ⟨W,hW⟩:∃ W,1000000000^(nv+1)=W:=⟨_,rfl⟩
    have hYe:gbv W X V (false,g')=X+W-g'*V:=by simp [gbv]
    have hnew:X+W-g'*V+V-W*(if W<=X+W-g'*V+V then 1 else 0)=gbv W X V (decide (W<=X+W-g'*V+V),g'-1):=by
     rw [hW] at hgV' hXlt;by_cases hc:W<=X+W-g'*V+V
     .rw [if_pos hc,Nat.mul_one];simp only [gbv,hc,decide_true,if_true];have hq:X/V=g'-1:=yJ hV0 (by rw [show g'-1+1=g' by omega];exact hp.1);have h1:=Nat.mod_add_div X V;rw [hq,Nat.mul_comm] at h1;omega
     .rw [if_neg hc,Nat.mul_zero];simp only [gbv,hc,decide_false,Bool.false_eq_true,if_false];omega
    rw [hW] at hview hput hgive hXlt hgV';have hYlt:X+W-g'*V<W:=by omega
    have hput1:=hput (X+W-g'*V) (X+W-g'*V+V-W*(if W<=X+W-g'*V+V then 1 else 0)) hYlt (by split<;>omega);rw [hnew] at hput1;rw [hW,hYe];refine aI7 (n:=i) (ts:=rT (pd 1000000000 L (R%1000000000^i+1000000000^i*(X+W-g'*V)))) (us:=rT (pd 1000000000 (nv+1) (X+W-g'*V))) (us':=rT (pd 1000000000 (nv+1) (gbv W X V (decide (W<=X+W-g'*V+V),g'-1)))) rfl ⟨.i64, .i64,i+nv+1,(by show aD.int .i64 _=aD.int .i64 _;congr 1;omega),(by show aD.int .i64 _=aD.int .i64 _;congr 1;omega),by omega,by simp;omega,(hview _ hYlt).symm⟩ (by simp [pd]) rfl (SD rfl (hnew▸hgive _ hYlt)) hput1 ?_;apply vn (Zo) rfl;dsimp only [aE,aF];have hg1':(g':Int)-1=((g'-1:Nat):Int):=by clear hN hput hview hgive hfitY;omega
    refine bD rfl ⟨⟨(decide (W<=X+W-g'*V+V),g'-1),?_⟩,⟨aJ.Sub.same,aJ.Sub.of_eq (congrArg (fun q=>aJ.one (aD.int .u64 q)) hg1'),aJ.Sub.of_eq ?_,trivial⟩,?_⟩
    .by_cases hc:W<=X+W-g'*V+V
     .simp only [hc,decide_true,if_true];exact (yJ hV0 (by rw [show g'-1+1=g' by omega];exact hp.1)).symm
     .simp only [hc,decide_false,Bool.false_eq_true,if_false];omega
    .dsimp only;rfl
    .dsimp only;by_cases hc:W<=X+W-g'*V+V
     .simp [hc]
     .simp [hc];omega
   have hmd:made=true:=by simpa using h60
   subst hmd;simp only [if_true] at hp;subst hp;simp only [gbv,if_true];apply vn (oI ⟨_,iU⟩ gU (oA _) (Ws hX2)) rfl;refine cJ rfl rfl (by omega) (by omega) ?_;refine gP (d':=X/V) rfl rfl (by omega) (by omega) hok rfl ?_;apply vn (aG (by omega) (by omega)) rfl;dsimp only [aE,aF];exact bD rfl ⟨⟨(i,os.set i (X/V),R%1000000000^i+1000000000^i*(X%V)),hN⟩,⟨aJ.Sub.of_eq (congrArg (fun q=>aJ.one (aD.int .i64 q)) (aO1 i)),aJ.Sub.same,aJ.Sub.same,trivial⟩,by show i<i+1;omega⟩
  have hq:X/V=g:=Nat.le_antisymm hgq (by rw [Nat.le_div_iff_mul_le hV0];omega)
  have hmod:X+1000000000^(nv+1)*(if X<g*V then 1 else 0)-g*V=X%V:=by
   rw [if_neg h57,Nat.mul_zero,Nat.add_zero];have h1:=Nat.mod_add_div X V;rw [hq,Nat.mul_comm] at h1;omega
  rw [hmod];rw [hq] at hN;apply vn (oI ⟨_,iU⟩ gU (oA _) (Ws hgB)) rfl;refine cJ rfl rfl (by omega) (by omega) ?_;refine gP (d':=g) rfl rfl (by omega) (by omega) hok rfl ?_;apply vn (aG (by omega) (by omega)) rfl;dsimp only [aE,aF];exact bD rfl ⟨⟨(i,os.set i g,R%1000000000^i+1000000000^i*(X%V)),hN⟩,⟨aJ.Sub.of_eq (congrArg (fun q=>aJ.one (aD.int .i64 q)) (aO1 i)),aJ.Sub.same,aJ.Sub.same,trivial⟩,by show i<i+1;omega⟩
 have hn0:n=0:=by omega
 subst hn0;have heq:=hI.eq;have hlt:=hI.lt;rw [List.drop_zero,Nat.pow_zero,Nat.mul_one] at heq;rw [Nat.pow_zero,Nat.div_one] at hlt;obtain ⟨hQ,hR⟩:=zR heq hlt;have hQ2:lv os=a/b:=by rw [hQ,<-hS,<-hV,Nat.mul_div_mul_right _ _ hs0]
 have hR2:R=a%b*s:=by rw [hR,<-hS,<-hV,Nat.mul_mod_mul_right]
 apply aA (jK (pd 1000000000 L R) (GI (by omega) _ _) (by rw [eO];omega)) rfl;rw [show lv (pd 1000000000 L R)=R by rw [lv,zL,Nat.mod_eq_of_lt hfit]];apply aA (aC4 R s hs0 hsB (by have:=DK hfit;omega)) rfl;apply aA (jK os hI.dg) rfl;dsimp only [aE,aF];refine aL ?_;rw [hQ2,hR2,Nat.mul_div_cancel _ hs0];rfl
open Go Go.Proofs Go.RowKit Go.Shelf Tryz Ord
attribute [local go_sem] Oper.semAt_some
section
variable {α:Type} [Inhabited α] {enc:α->Value}
def bk (vs:List α) (k:Nat):List (Nat×α):=(List.range k).map fun j=>(vs.length-1-j,vs[vs.length-1-j]?.getD default)
theorem Xn (vs:List α) (k:Nat):bk vs (k+1)=bk vs k ++ [(vs.length-1-k,vs[vs.length-1-k]?.getD default)]:=by simp [bk,List.range_succ]
theorem Nv (vs:List α) (k:Nat):(bk vs k).length=k:=by simp [bk]
def KpB (n₀ Bs:Nat) (A B:World):Prop:=Below n₀ A B/\∀ v,A.cell? ⟨Bs,0,none⟩=some v->B.cell? ⟨Bs,0,none⟩=some v
set_option maxRecDepth 100000 in
set_option maxHeartbeats 2000000 in
theorem Ze (l Bs n₀ b off cap:Nat) (vs:List α) (hlen:vs.length<4611686018427387904) (hb:b<n₀) (J Jx:List (Nat×α)->World->Prop)
  (hY:∀ pre x W,J pre W->pre.length<vs.length->YieldAt Fence.wide (1000-1) prog l #[.int .i64 (x.1:Int),enc x.2] W fun e W'=>
   (e = .returned (.bool true)/\J (pre ++ [x]) W'/\KpB n₀ Bs W W')\/(e = .returned (.bool false)/\Jx (pre ++ [x]) W'))
  (W:World) (hBs:W.cell? ⟨Bs,0,none⟩=some (.slice (some ⟨b,off,none⟩) vs.length cap)) (hc:∀ j v,vs[j]? = some v->W.cell? ⟨b,off+j,none⟩=some (enc v)) (h0:J [] W) :
  CallsIn Fence.wide 1000 prog 237 #[.func (.yield l) #[] #[], .pointer (some ⟨Bs,0,none⟩)] W fun e W'=>(∃ v,e = .returned v) /\
   ((∃ ys,ys=bk vs vs.length/\J ys W')\/(∃ pre,(∃ k,k<=vs.length/\pre=bk vs k)/\Jx pre W')):=by
 refine callsIn_of_wp func237 rfl trivial ?_ rfl;simp only [ntmps237,List.size_toArray,List.length_cons,List.length_nil,Nat.reduceAdd,Nat.reduceSub,Array.replicate_succ,Array.replicate_zero,List.push_toArray,List.append_toArray,List.nil_append,List.cons_append];obtain ⟨N,hN⟩:∃ N,vs.length=N:=⟨_,rfl⟩
 rw [hN] at hBs hY hlen ⊢
 gi_wp2
 gi_loopw [3] (fun i wr=>∃ k:Nat,k<=N/\i = .int .i64 ((N:Int)-1-k)/\J (bk vs k) wr/\Below n₀ W wr/\wr.cell? ⟨Bs,0,none⟩=some (.slice (some ⟨b,off,none⟩) N cap))
  (fun i _=>(intOf i+1).toNat)
 case atStart=>exact ⟨0,dD _,by simp,h0,Below.refl _ _,hBs⟩
 case round=>
  obtain ⟨k,hk,rfl,hJs,hnx,hBx⟩:=hrel;have hmeas:(intOf (.int .i64 ((N:Int)-1-k))+1).toNat=N-k:=by simp [intOf];omega
  by_cases hlt:k<N
  .have hv:vs[N-1-k]? = some (vs[N-1-k]?.getD default):=by rw [cC (by omega)];rfl
   have hcx:wr.cell? ⟨b,off+(N-1-k),none⟩=some (enc (vs[N-1-k]?.getD default)):=(hnx.cell (p:=⟨b,off+(N-1-k),none⟩) hb).trans (hc _ _ hv);obtain ⟨fn,tmps,assign,body,hy,hR⟩:=hY _ (N-1-k,vs[N-1-k]?.getD default) wr hJs (by rw [Nv];exact hlt);generalize hx:vs[N-1-k]?.getD default=x at hy hR hcx;have hsucc:bk vs (k+1)=bk vs k ++ [(N-1-k,x)]:=by rw [Xn,hN,hx]
   have e1:(N:Int)-1-k=((N-1-k:Nat):Int):=by omega
   have hn1:N-1-k<N:=by omega
   have e2:(wr.cell? ⟨b,off+(N-1-k),none⟩)=some (enc x):=hcx;rw [e1]
   gi_wp2
   refine hR.mono ?_;rintro e W3 (⟨rfl,hJ3,hk3⟩ | ⟨rfl,hJx3⟩)
   .gi_wp2
    go_roundw
    case rel=>exact ⟨k+1,by omega,by congr 1;omega,by rw [hsucc];exact hJ3,hnx.trans hk3.1,hk3.2 _ hBx⟩
    case measure=>simp [intOf]
   .gi_wp2
    refine bodyPost_ret (results_none rfl _ _ _) rfl ?_;exact ⟨⟨_,rfl⟩, .inr ⟨_,⟨k+1,by omega,rfl⟩,by rw [hsucc];exact hJx3⟩⟩
  .obtain rfl:k=N:=by omega
   gi_wp2
   go_end0
   exact ⟨⟨_,rfl⟩, .inl ⟨_,rfl,hJs⟩⟩
set_option maxRecDepth 100000 in
set_option maxHeartbeats 1000000 in
theorem UF {α:Type} (l Bs:Nat) (a:Option Addr) (cap:Nat) (J:List (Nat×α)->World->Prop) (W:World) (hBs:W.cell? ⟨Bs,0,none⟩=some (.slice a 0 cap)) (h0:J [] W) :
  CallsIn Fence.wide 1000 prog 237 #[.func (.yield l) #[] #[], .pointer (some ⟨Bs,0,none⟩)] W fun e W'=>(∃ v,e = .returned v)/\J [] W':=by
 refine callsIn_of_wp func237 rfl trivial ?_ rfl;simp only [ntmps237,List.size_toArray,List.length_cons,List.length_nil,Nat.reduceAdd,Nat.reduceSub,Array.replicate_succ,Array.replicate_zero,List.push_toArray,List.append_toArray,List.nil_append,List.cons_append]
 gi_wp2
 gi_loopw [3] (fun i wr=>i = .int .i64 (-1)/\J [] wr) (fun _ _=>0)
 case atStart=>exact ⟨rfl,h0⟩
 case round=>
  obtain ⟨rfl,hJs⟩:=hrel
  gi_wp2
  go_end0
  exact ⟨⟨_,rfl⟩,hJs⟩
set_option maxHeartbeats 1000000 in
theorem Rb (n:Nat) (a:Option Addr) (len cap:Nat) (w:World) :
  CallsIn Fence.wide n prog 215 #[.slice a len cap] w fun e w'=>e = .returned (.func (.func 237) #[] #[.pointer (some ⟨w.heap.size,0,none⟩)])/\w'=w.alloc (.cells #[.slice a len cap] 40):=by
 refine callsIn_of_wp func215 rfl trivial ?_ rfl;simp only [ntmps215,List.size_toArray,List.length_cons,List.length_nil,Nat.reduceAdd,Nat.reduceSub,Array.replicate_succ,Array.replicate_zero,List.push_toArray,List.append_toArray,List.nil_append,List.cons_append]
 gi_wp2
 go_ret
 exact ⟨rfl,rfl⟩
def Sl1 (enc:α->Value) (n₀:Nat) (W:World) (sv:Value) (vs:List α):Prop:=
 ∃ a cap,sv = .slice a vs.length cap/\(vs = []\/∃ b off,a=some ⟨b,off,none⟩/\b<n₀/\∀ j v,vs[j]? = some v->W.cell? ⟨b,off+j,none⟩=some (enc v))
theorem Sl1.below {α:Type} {enc:α->Value} {n₀:Nat} {A B:World} (h:Below n₀ A B) {sv:Value} {vs:List α}:Sl1 enc n₀ A sv vs->Sl1 enc n₀ B sv vs:=by
 rintro ⟨a,cap,e,rfl | ⟨b,off,rfl,hb,hc⟩⟩
 .exact ⟨a,cap,e, .inl rfl⟩
 .exact ⟨_,cap,e, .inr ⟨b,off,rfl,hb,fun j v hj=>(h.cell (p:=⟨b,off+j,none⟩) hb).trans (hc j v hj)⟩⟩
theorem AP (Bs n₀:Nat) (sv:Value) (vs:List α) (hlen:vs.length<4611686018427387904) (w:World) (hBs:Bs<w.heap.size) (hn₀:n₀<=w.heap.size)
  (hc:w.cell? ⟨Bs,0,none⟩=some sv) (hI:Sl1 enc n₀ w sv vs) :
  SeqStopsK Fence.wide 1000 prog 237 #[.pointer (some ⟨Bs,0,none⟩)] (fun x:Nat×α=>#[Value.int .i64 (x.1:Int),enc x.2]) (KpB n₀ Bs) (fun ys=>ys=bk vs vs.length) (fun pre=>∃ k,k<=vs.length/\pre=bk vs k) vs.length w:=fun l J Jx W hW _ _ hY h0=>by
 have hc':=(hW.cell (p:=⟨Bs,0,none⟩) hBs).trans hc;obtain ⟨a,cap,rfl,rfl | ⟨b,off,rfl,hb,hcs⟩⟩:=hI.below (hW.mono hn₀)
 .exact (UF (α:=α) l Bs a cap J W hc' h0).mono fun e W' ⟨he,hj⟩=>⟨he, .inl ⟨_,rfl,hj⟩⟩
 .exact (Ze (enc:=enc) l Bs n₀ b off cap vs hlen hb J Jx hY W hc' hcs h0)
theorem Xd {n₀ Bs:Nat} {A B C:World} (h:KpB n₀ Bs A B) (k:KpB n₀ Bs B C):KpB n₀ Bs A C:=⟨h.1.trans k.1,fun v hv=>k.2 v (h.2 v hv)⟩
theorem Xo {n₀ Bs:Nat} {w:World} (hn:n₀<=w.heap.size) (hB:Bs<w.heap.size) (W:World) (l:Nat) (o o':Obj) (hl:w.heap.size<=l) (h:W.heap[l]? = some o) (h1:o.isCells=false) (h2:o.isWalk=false):KpB n₀ Bs W (W.putObj l o'):=
 ⟨belowK_b hn W l o o' hl h h1 h2,fun v hv=>by
  have e:(W.putObj l o').heap[Bs]? = W.heap[Bs]?:=World.putObj_heap_other (by omega);simp only [World.cell?,e] at hv ⊢;exact hv⟩
end
def wv (pre:List (Nat×Int)):Int:=pre.foldl (fun n x=>IntKind.u64.wrap (IntKind.u64.wrap (n*1000000000)+IntKind.u64.wrap x.2)) 0
theorem aA6 (pre:List (Nat×Int)) (x:Nat×Int):wv (pre ++ [x])=IntKind.u64.wrap (IntKind.u64.wrap (wv pre*1000000000)+IntKind.u64.wrap x.2):=by simp [wv]
theorem ai5 {n:Nat} (hn:n<1000000000000000000):wv (bk ((dg n).map (fun d:Nat=>(d:Int))) (dg n).length)=(n:Int):=by
 have hl:(dg n).length<=2:=DK (by omega);have hv:=iI n;have hd:=kZ n;generalize dg n=ds at hl hv hd
 match ds,hl with
 | [],_=>simp [lv,val] at hv;subst hv;simp [bk,wv]
 | [a],_=>
   have ha:=hd a (by simp);simp [lv,val] at hv;simp [bk,wv,List.range_succ];simp only [IntKind.wrap_u64];omega
 | [a,b],_=>
   have ha:=hd a (by simp);have hb:=hd b (by simp);simp [lv,val] at hv;simp [bk,wv,List.range_succ];simp only [IntKind.wrap_u64];omega
theorem aM2 {M:Nat->Prop} {w:World} {v:Value} {ds:List Nat} (h:(aD.slice 1 (rT ds)).rep M w v):Sl1 (fun d:Int=>Value.int .u32 d) w.heap.size w v (ds.map (fun d:Nat=>(d:Int))):=by
 obtain ⟨a,cap,rfl,hc,hm,hel⟩:=h;refine ⟨a,cap,by simp,?_⟩;rcases hel with h | ⟨b,off,cs,T,fz,rfl,hb,hh,hr⟩
 .left
  have:ds = []:=by cases ds<;>simp_all
  subst this;rfl
 .refine .inr ⟨b,off,rfl,(cS.1 hh).1,fun j v hj=>?_⟩;rw [dL] at hj;cases hd:ds[j]? with
  | none=>rw [hd] at hj;simp at hj
  | some d=>
    rw [hd] at hj;simp only [Option.map_some,aN] at hj;subst hj;obtain ⟨_,hrep⟩:=hr j _ (oG hd);rw [Nat.mul_one] at hrep;have hl:=hrep.length
    have hlt:off+j<cs.toList.length:=by
     simp only [List.length_cons,List.length_nil,List.length_take,List.length_drop] at hl;omega
    rw [List.drop_eq_getElem_cons hlt,List.take_succ_cons,List.take_zero] at hrep;have h1:cs.toList[off+j] = .int .u32 d:=hrep.1.1;simp only [World.cell?,hh];rw [Array.getElem_toList] at h1;simp [h1,Array.getElem?_eq_getElem (show off+j<cs.size by simpa using hlt)]
set_option maxRecDepth 100000 in
set_option maxHeartbeats 2000000 in
theorem aC5 (a:Option Addr) (cap:Nat) (vs:List Int) (hlen:vs.length<4611686018427387904) (w:World) (hI:Sl1 (fun d:Int=>Value.int .u32 d) w.heap.size w (.slice a vs.length cap) vs) :
  CallsIn Fence.wide 1001 prog 242 #[.agg #[.slice a vs.length cap]] w fun e W'=>e = .returned (.int .u64 (wv (bk vs vs.length)))/\Below w.heap.size w W':=by
 refine callsIn_of_wp_marks func242 rfl trivial ?_ rfl;simp only [ntmps242,List.size_toArray,List.length_cons,List.length_nil,Nat.reduceAdd,Nat.reduceSub,Array.replicate_succ,Array.replicate_zero,List.push_toArray,List.append_toArray,List.nil_append,List.cons_append];generalize hL:vs.length=L at hI hlen ⊢
 gi_wp2_with (refine ⟨trivial,?_⟩;gi_at_call 215;refine (Rb _ _ _ _ _).mono ?_;rintro e w' ⟨rfl,rfl⟩)
 have bN:=Boxed.new (w.alloc (.cells #[.slice a L cap] 42)) 236 (.int .u64 0);have bS:=Boxed.new ((w.alloc (.cells #[.slice a L cap] 42)).alloc (.cells #[.int .u64 0] 236)) 40 (.slice a L cap);simp only [World.size_alloc] at bN bS;have hB0:Below w.heap.size w (((w.alloc (.cells #[.slice a L cap] 42)).alloc (.cells #[.int .u64 0] 236)).alloc (.cells #[.slice a L cap] 40)):=(((Below.refl _ w).alloc (aY _) _).alloc (by simp) _).alloc (by simp;omega) _;obtain ⟨W0,hW0⟩:∃ W0,(((w.alloc (.cells #[.slice a L cap] 42)).alloc (.cells #[.int .u64 0] 236)).alloc (.cells #[.slice a L cap] 40))=W0:=⟨_,rfl⟩
 have hs0:W0.heap.size=w.heap.size+3:=by rw [<-hW0];simp
 have bN':=bN.alloc (.cells #[.slice a L cap] 40);rw [hW0] at hB0 bS bN' ⊢
 refine wpIn_rangeFunc_ownF (w0:=W0) rfl (by omega) (gf:=237) (lb:=#[.pointer (some ⟨w.heap.size+1+1,0,none⟩)]) rfl trivial (enters_of func237 (by kernel_rfl) rfl)
  (AP (enc:=fun d:Int=>Value.int .u32 d) (w.heap.size+1+1) w.heap.size (.slice a L cap) vs (by omega) W0 (by omega) (by omega) bS.cell (hI.below hB0)) Xd (Xo (by omega) (by omega)) (Below.refl _ _) (fun _=>rfl)
  (fun pre W=>(W.cell? ⟨w.heap.size+1,0,none⟩=some (.int .u64 (wv pre))/\W.frozen? ⟨w.heap.size+1,0,none⟩=false)/\Below w.heap.size w W)
  (fun _ _ _=>False)
  (OwnFrom.and (Own.from (fun s A B row hs hg hr=>⟨cell_kept hs.1 hg hr,(frozen_kept hs.1 hg hr).trans hs.2⟩) _) (ownFrom_below (aY _) (by omega)))
  (fun _=>by intro s A B row hs;exact hs.elim)
  ⟨⟨bN'.cell,bN'.frozen⟩,hB0⟩
  (fun x=>{ tmps:=#[.agg #[.slice a L cap], .pointer (some ⟨w.heap.size,0,none⟩), .int .u64 0, .pointer (some ⟨w.heap.size+1,0,none⟩),undef, .int .u32 x.2, .pointer (some ⟨w.heap.size,0,none⟩), .slice a L cap, .func (.func 237) #[] #[.pointer (some ⟨w.heap.size+1+1,0,none⟩)], .int .i64 (x.1:Int), .int .u32 x.2,undef,undef,undef,undef,undef,undef],defers:=[] }) ?assign ?body ?done ?stop
 case assign=>
  intro l x W K hK
  gi_wp2
  exact hK
 case body=>
  rintro l pre x W ⟨⟨hcr,hfr⟩,hB⟩ _
  gi_wp2
  refine ⟨KeepsOthers.setCell _ _ _,⟨(Below.refl w.heap.size W).setCell (p:=⟨w.heap.size+1,0,none⟩) (by simp) _,fun v hv=>?_⟩,⟨?_,by rw [World.frozen?_setCell];exact hfr⟩,hB.setCell (p:=⟨w.heap.size+1,0,none⟩) (by simp) _⟩
  .refine Eq.trans (World.cell?_setCell_other _ _ _ _ ?_) hv;simp
  .rw [aA6];exact World.cell?_setCell_same' _ _ _ (by rw [hcr];rfl)
 case done=>
  rintro D ys W hD rfl ⟨⟨hcr,hfr⟩,hB⟩ hK
  gi_wp2
  refine ⟨by simp, .inl ⟨_,_,rfl,run_takeDeferred hK,?_⟩⟩;exact ⟨_,results_tmp rfl _ _ _,rfl,hB.trans (belowK_b (w:=w) (aY _) W D _ _ (by omega) hK rfl rfl)⟩
 case stop=>
  rintro D c pre W hD _ h hK;exact h.elim
set_option maxRecDepth 100000 in
theorem ar1 (n:Nat) (hn:n<1000000000000000000):aQ prog 242 [mT n] (.ret [.one (.int .u64 n)]):=by
 refine ⟨bJ (by kernel_rfl),fun M w vs hM hv=>?_⟩
 match vs,hv with
 | [v],hv=>
   obtain ⟨⟨us,rfl,hus⟩,_⟩:=hv
   match us,hus with
   | [u],hus=>
     have hsl:=aM2 hus.1;obtain ⟨a,cap,rfl,hel⟩:=hsl;have hl:((dg n).map (fun d:Nat=>(d:Int))).length=(dg n).length:=aK _
     have hlen:(dg n).length<4611686018427387904:=by
      have h2:(dg n).length<=2:=DK (by rw [show (1000000000:Nat)^2=1000000000000000000 by decide];exact hn);omega
     have h1:=aC5 a cap ((dg n).map (fun d:Nat=>(d:Int))) (by rw [hl];exact hlen) w ⟨a,cap,rfl,hel⟩;rw [hl,ai5 hn] at h1;have h2:Calls prog 242 #[.agg #[.slice a (dg n).length cap]] w _:=(callsIn_wide (n:=1001)).1 h1;rw [hl];show Calls prog 242 #[.agg #[.slice a (dg n).length cap]] w _;refine h2.mono ?_;rintro e w' ⟨rfl,hb⟩;exact ⟨hb,[.int .u64 n],rfl,⟨rfl,rfl⟩,trivial⟩
   | [],hus=>exact hus.elim
   | _::_::_,hus=>exact hus.2.elim
 | [],hv=>exact hv.elim
 | _::_::_,hv=>exact hv.2.elim
end Go.Sy
namespace Go.Sy
open Go Go.Proofs Tryz Ord
def bk5:Tr:=aZ 242 [(G1 2)] [none] [22] [42] 236 false (aZ 242 [(G1 3)] [none] [24] [42] 236 true (.loop 1 [lV 11 0,lV 12 0] (.need (.prim [(W 14 0),(.one (.c (.k (.int .u64 0))))] none) (.binOp .neq 236 (tT 26) (.const (.int .u64 0)) 236) 4 false (.split (.u 15 0) (cU .rem 236 29 30 13 0 14 0 236 (.back 1 [lV 14 0,lV 16 0])) (aZ 206 [(W 13 0)] [(some 1)] [32] [236] 42 true (.ret [(G1 16)]))))))
def bq2:Tr:=bI .leq 3 14 2 7 0 4 (.split (.u 8 0) (dS 3 0 18 40 (bI .leq 3 19 2 9 0 4 (.split (.u 10 0) bk5 (aZ 222 [(G1 2),(G1 3)] [(some 1),(some 1)] [35,36] [42,42] 249 false (.back 0 [lV 3 0,lV 12 0,lV 4 0]))))) (aZ 222 [(G1 2),(G1 3)] [(some 1),(some 1)] [35,36] [42,42] 249 false (.back 0 [lV 3 0,lV 10 0,lV 4 0])))
def ap8:Tr:=.ret [(G1 2)]
def bw2:Tr:=.loop 0 [lV 0 0,lV 1 0,lN] (aZ 172 [(G1 3)] [none] [9] [42] 4 true (.need (.prim [(W 5 0)] none) (.unOp .not 4 (tT 10)) 4 false (.split (.u 6 0) (dS 2 0 13 40 bq2) ap8)))
theorem ae8:aV prog f220 (fun _=>none) [.v (some 1), .v (some 1)]=bw2:=by kernel_rfl
def ZA:Tr:=.ret [(G2 4)]
def bs5:Tr:=cU .neq 4 6 8 0 1 1 1 4 (aZ 162 [(G1 0),(G1 1)] [(some 1)] [11,13] [42,42] 42 true (aZ 158 [(W 2 0),(G1 3)] [(some 2)] [9,14] [4,42] 44 true ZA))
theorem aZ8:aV prog f175 (fun _=>none) [.v (some 2), .v (some 2)]=bs5:=by kernel_rfl
def aa8:Tr:=.ret [(G2 6)]
def bD4:Tr:=cU .eql 4 7 9 0 1 1 1 4 (.split (.u 2 0) (aZ 209 [(G1 0),(G1 1)] [(some 1)] [14,16] [42,42] 42 true (aZ 158 [(W 0 1),(G1 3)] [(some 2)] [12,17] [4,42] 44 true ZA)) (aZ 164 [(G1 0),(G1 1)] [none] [21,23] [42,42] 3 true (bI .lss 3 24 0 3 0 4 (.split (.u 4 0) (aZ 223 [(G1 1),(G1 0)] [(some 1)] [29,31] [42,42] 42 true (aZ 158 [(W 1 1),(G1 5)] [(some 2)] [27,32] [4,42] 44 true aa8)) (aZ 223 [(G1 0),(G1 1)] [(some 1)] [37,39] [42,42] 42 true (aZ 158 [(W 0 1),(G1 5)] [(some 2)] [35,40] [4,42] 44 true aa8))))))
theorem aX4:aV prog f184 (fun _=>none) [.v (some 2), .v (some 2)]=bD4:=by kernel_rfl
def bx8:Tr:=bI .lss 2 3 0 0 0 4 (.split (.u 1 0) (.need (.prim [(W 0 0)] none) (.convert 2 236 (tT 5)) 236 false (.need (.prim [(W 2 0)] none) (.unOp .neg 236 (tT 6)) 236 false (aZ 206 [(W 3 0)] [(some 1)] [7] [236] 42 true (.need (.call 158 [(tF true),(G1 4)] [(some 2)]) (.call ⟨.value (.func 158),#[(.const (.bool true)),(tT 8)],#[4,42]⟩) 44 true (.ret [(G2 5)]))))) (.need (.prim [(W 0 0)] none) (.convert 2 236 (tT 10)) 236 false (aZ 206 [(W 2 0)] [(some 1)] [11] [236] 42 true (.need (.call 158 [(tF false),(G1 3)] [(some 2)]) (.call ⟨.value (.func 158),#[(.const (.bool false)),(tT 12)],#[4,42]⟩) 44 true ZA))))
theorem aw3:aV prog f156 (fun _=>none) [.v none]=bx8:=by kernel_rfl
theorem iV {n B:Nat} (h:n<2^B):(dg n).length<=B:=
 DK (Nat.lt_of_lt_of_le h (Nat.pow_le_pow_left (by omega) B))
theorem WL {n:Nat} (h:(dg n).length<=2:=by omega):n<1000000000000000000:=by
 have h1:=NX n;have h2:1000000000^(dg n).length<=1000000000^2:=Nat.pow_le_pow_right (by omega) h;rw [show (1000000000:Nat)^2=1000000000000000000 by decide] at h2;omega
theorem aW8 (n:Nat):aQ prog 221 [(mT n:aJ)] (.ret [.one (.bool (decide (n=1)))]):=by
 refine eH func221 aU3 ?_;apply vn (aM eB (aK _)) rfl;apply vn dP rfl;refine vs _ rfl ?_ ?_<;>intro h2
 .obtain ⟨d,hd⟩:∃ d,dg n = [d]:=by
   match h:dg n with
   | [d]=>exact ⟨d,rfl⟩
   | []=>rw [h] at h2;simp at h2
   | _::_::_=>rw [h] at h2;simp at h2;omega
  have hv:=iI n;rw [hd] at hv;apply vn (aH eB (by omega) (by omega) (show (dg n)[0]? = some d by rw [hd];rfl)) rfl;apply vn (cH xU) rfl;dsimp only [aE,aF];apply vn dP rfl;dsimp only [aE,aF];refine aL ?_;have hv:d=n:=by simpa [lv,val] using hv
  subst hv;show [aJ.one (.bool (decide ((d:Int)=1)))]=_;have e:((d:Int)=1)↔d=1:=by omega
  simp only [e]
 refine aL ?_
 have:¬ n=1:=fun e=>by
  subst e;rw [vC] at h2;exact h2 rfl
 simp [this];rfl
set_option maxHeartbeats 1000000 in
theorem ab7 (a b:Nat) (hs:(dg (max a b)).length<137438953472):aQ prog 220 [(mT a:aJ),(mT b:aJ)] (.ret [mT (Nat.gcd a b)]):=by
 refine eH func220 ae8 ?_;refine bZ {p:Nat×Nat // Nat.gcd p.1 p.2=Nat.gcd a b/\p.1<=max a b/\p.2<=max a b} (fun p=>[.one (dT p.1.1), .one (dT p.1.2), .one (.exact (.slice none 0 0))]) (fun p=>p.1.2) ⟨(a,b),rfl,by omega,by omega⟩ aX.rfl (fun _=>rfl) ?_;rintro ⟨⟨x,y⟩,hg,hx,hy⟩;dsimp only [aE,aF] at hg hx hy ⊢;have hxl:=nO hx;have hyl:=nO hy;apply aA (Cs y) rfl;apply vn Rm rfl;refine vs _ rfl ?_ ?_<;>intro h3
 .have hy0:0<y:=by omega
  apply vn (aM eB (aK _)) rfl;apply vn nX rfl;dsimp only [aE,aF];refine vs _ rfl ?_ ?_<;>intro h6
  .apply vn (aM eB (aK _)) rfl;apply vn nX rfl;refine vs _ rfl ?_ ?_<;>intro h9
   .apply aA (ar1 x (WL)) rfl;apply aA (ar1 y (WL)) rfl;dsimp only [aE,aF];have hx18:=WL (n:=x);have hy18:=WL (n:=y);clear hxl hyl;refine bZ {p:Nat×Nat // Nat.gcd p.1 p.2=Nat.gcd a b/\p.1<1000000000000000000/\p.2<1000000000000000000} (fun p=>[.one (.int .u64 p.1.1), .one (.int .u64 p.1.2)]) (fun p=>p.1.2) ⟨(x,y),hg,hx18,hy18⟩ aX.rfl (fun _=>rfl) ?_;rintro ⟨⟨p,q⟩,hpq,hp,hq⟩;dsimp only [aE,aF] at hpq hp hq ⊢;apply vn fG rfl;refine vs _ rfl ?_ ?_<;>intro h14
    .apply vn (Ez (c:=((p%q:Nat):Int)) (by omega) (by rw [Int.tmod_eq_emod_of_nonneg (oA _),<-Int.natCast_emod])) rfl;exact bD rfl ⟨⟨(q,p%q),by rw [<-hpq,Nat.gcd_comm p q,Nat.gcd_rec q p,Nat.gcd_comm],hq,Nat.lt_of_le_of_lt (Nat.mod_le _ _) hp⟩,aX.rfl,Nat.mod_lt _ (by omega)⟩
    have hq0:q=0:=by omega
    subst hq0;rw [Nat.gcd_zero_right] at hpq;apply aA (nN p) rfl;dsimp only [aE,aF];rw [hpq];exact aL rfl
   apply aA (PS x y hy0) rfl;exact bD rfl ⟨⟨(y,x%y),by rw [<-hg,Nat.gcd_comm x y,Nat.gcd_rec y x,Nat.gcd_comm],hy,Nat.le_trans (Nat.mod_le _ _) hx⟩,aX.rfl,Nat.mod_lt _ hy0⟩
  apply aA (PS x y hy0) rfl;exact bD rfl ⟨⟨(y,x%y),by rw [<-hg,Nat.gcd_comm x y,Nat.gcd_rec y x,Nat.gcd_comm],hy,Nat.le_trans (Nat.mod_le _ _) hx⟩,aX.rfl,Nat.mod_lt _ hy0⟩
 have hy0:y=0:=by omega
 subst hy0;rw [Nat.gcd_zero_right] at hg;rw [hg];exact aL rfl
structure aM5 (a n:Nat) (k x y:Nat):Prop where
 eq:y*x^k=a^n
 z:a=0->x=0
 x1:k≠0->x<=max 1 (a^n)
 y1:y<=max 1 (a^n)
theorem aM5.mk' {a n k x y:Nat} (hn:n≠0) (eq:y*x^k=a^n) (z:a=0->x=0) (hy:x=0->y<=1):aM5 a n k x y:=by
 have hk:∀ t,0<t->t<=x->0<x^k:=fun t h1 h2=>Nat.pow_pos (by omega);refine ⟨eq,z,fun h0=>?_,?_⟩
 .rcases Nat.eq_zero_or_pos x with hx | hx
  .omega
  .rcases Nat.eq_zero_or_pos y with hy0 | hy0
   .rw [hy0,Nat.zero_mul] at eq;have:=z (Nat.eq_zero_of_not_pos fun ha=>by have:=Nat.pow_pos (n:=n) ha;omega);omega
   .have h1:x<=x^k:=Nat.le_self_pow h0 x;have h2:x^k<=y*x^k:=Nat.le_mul_of_pos_left _ hy0;omega
 .rcases Nat.eq_zero_or_pos x with hx | hx
  .have:=hy hx;omega
  .have h2:y<=y*x^k:=Nat.le_mul_of_pos_right _ (Nat.pow_pos hx);omega
open Go Go.Proofs Tryz Ord
def bp5:Tr:=.split (.u 4 0) (aZ 222 [(G1 0),(G1 2)] [(some 1),(some 1)] [15,16] [42,42] 249 false (aZ 222 [(G1 1),(G1 2)] [(some 1),(some 1)] [22,23] [42,42] 249 false (aZ 158 [(W 0 1),(G1 5)] [(some 2)] [28,30] [4,42] 44 false (.need (.call 206 [(.one (.c (.k (.int .u64 1))))] [(some 1)]) (.call ⟨.value (.func 206),#[(.const (.int .u64 1))],#[236]⟩) 42 false (aZ 223 [(G1 7),(G1 10)] [(some 1)] [32,33] [42,42] 42 true (.ret [(.agg [(U 9 0),(U 9 1),(U 11 0)])])))))) (aZ 158 [(W 0 1),(G1 0)] [(some 2)] [28,30] [4,42] 44 false (.need (.call 206 [(.one (.c (.k (.int .u64 1))))] [(some 1)]) (.call ⟨.value (.func 206),#[(.const (.int .u64 1))],#[236]⟩) 42 false (aZ 223 [(G1 1),(G1 6)] [(some 1)] [32,33] [42,42] 42 true (.ret [(.agg [(U 5 0),(U 5 1),(U 7 0)])]))))
def bw6:Tr:=aZ 220 [(G1 0),(G1 1)] [(some 1)] [7,8] [42,42] 42 true (aZ 221 [(G1 2)] [none] [10] [42] 4 true (.need (.prim [(W 3 0)] none) (.unOp .not 4 (tT 11)) 4 false bp5))
theorem aA4:aV prog f174 (fun _=>none) [.v (some 2), .v (some 1)]=bw6:=by kernel_rfl
def bo7:Tr:=.need (.call 206 [(.one (.c (.k (.int .u64 1))))] [(some 1)]) (.call ⟨.value (.func 206),#[(.const (.int .u64 1))],#[236]⟩) 42 true (aZ 209 [(.agg [(U 0 2)]),(G1 1)] [(some 1)] [4,5] [42,42] 42 true ap8)
theorem Zq:aV prog f163 (fun _=>none) [.v (some 3)]=bo7:=by kernel_rfl
def bp4:Tr:=.ret [(.agg [(U 0 0),(U 0 1),tN])]
theorem aJ0:aV prog f155 (fun _=>none) [.v (some 2)]=bp4:=by kernel_rfl
def bt7:Tr:=aZ 156 [(W 0 0)] [(some 2)] [3] [2] 44 true (aZ 155 [(G2 1)] [(some 3)] [4] [44] 46 true (.ret [(G3 2)]))
theorem bv7:aV prog f63 (fun _=>none) [.v none]=bt7:=by kernel_rfl
def bx4:Tr:=aZ 91 [(G2 0)] [none] [4] [44] 3 true (.ret [(W 1 0)])
theorem aH4:aV prog f23 (fun _=>none) [.v (some 3)]=bx4:=by kernel_rfl
def bn2:Tr:=.need (.prim [(W 0 1)] none) (.unOp .not 4 (tT 5)) 4 false (aZ 158 [(W 1 0),(G1 0)] [(some 2)] [6,9] [4,42] 44 false (.ret [(.agg [(U 2 0),(U 2 1),(U 0 2)])]))
theorem bg6:aV prog f65 (fun _=>none) [.v (some 3)]=bn2:=by kernel_rfl
def bB6:Tr:=.need (.call 158 [(tF false),(G1 0)] [(some 2)]) (.call ⟨.value (.func 158),#[(.const (.bool false)),(tT 5)],#[4,42]⟩) 44 false (.ret [(.agg [(U 1 0),(U 1 1),(U 0 2)])])
theorem bc8:aV prog f168 (fun _=>none) [.v (some 3)]=bB6:=by kernel_rfl
def bo1:Tr:=aZ 163 [(G3 1)] [(some 1)] [9] [46] 42 true (aZ 175 [(G2 0),(.agg [(U 3 0),(tE (.bool false))])] [(some 2)] [12,14] [44,44] 44 false (aZ 175 [(G2 1),(.agg [(U 2 0),(tE (.bool false))])] [(some 2)] [17,19] [44,44] 44 false (aZ 184 [(G2 4),(G2 5)] [(some 2)] [15,20] [44,44] 44 false (aZ 162 [(G1 2),(G1 3)] [(some 1)] [22,23] [42,42] 42 true (aZ 174 [(G2 6),(G1 7)] [(some 3)] [21,24] [44,42] 46 true (.ret [(G3 8)]))))))
def bn0:Tr:=aZ 163 [(G3 0)] [(some 1)] [7] [46] 42 false bo1
theorem aW1:aV prog f88 (fun _=>none) [.v (some 3), .v (some 3)]=bn0:=by kernel_rfl
def bB2:Tr:=aZ 65 [(G3 1)] [(some 3)] [6] [46] 46 true (aZ 88 [(G3 0),(G3 2)] [(some 3)] [5,7] [46,46] 46 true (.ret [(G3 3)]))
theorem bk4:aV prog f86 (fun _=>none) [.v (some 3), .v (some 3)]=bB2:=by kernel_rfl
def bA4:Tr:=aZ 175 [(G2 0),(G2 1)] [(some 2)] [6,8] [44,44] 44 false (aZ 163 [(G3 0)] [(some 1)] [10] [46] 42 false (aZ 163 [(G3 1)] [(some 1)] [12] [46] 42 false (aZ 162 [(G1 3),(G1 4)] [(some 1)] [11,13] [42,42] 42 true (aZ 174 [(G2 2),(G1 5)] [(some 3)] [9,14] [44,42] 46 true (.ret [(G3 6)])))))
theorem be3:aV prog f76 (fun _=>none) [.v (some 3), .v (some 3)]=bA4:=by kernel_rfl
def bv0:Tr:=aZ 163 [(G3 1)] [(some 1)] [10] [46] 42 false (aZ 158 [(W 1 1),(G1 2)] [(some 2)] [9,11] [4,42] 44 false (aZ 175 [(G2 0),(G2 3)] [(some 2)] [6,12] [44,44] 44 false (aZ 163 [(G3 0)] [(some 1)] [14] [46] 42 false (aZ 162 [(G1 5),(G1 1)] [(some 1)] [15,18] [42,42] 42 true (aZ 174 [(G2 4),(G1 6)] [(some 3)] [13,19] [44,42] 46 true (.ret [(G3 7)]))))))
theorem aD5:aV prog f212 (fun _=>none) [.v (some 3), .v (some 3)]=bv0:=by kernel_rfl
def bq9:Tr:=aZ 23 [(G3 1)] [none] [6] [46] 3 true (bI .eql 3 7 0 2 0 4 (.split (.u 3 0) (.ret [(.agg [tN,(tE (.bool false)),tN]),(WK 9)]) (aZ 212 [(G3 0),(G3 1)] [(some 3)] [10,11] [46,46] 46 true (.ret [(G3 4),(WK 0)]))))
theorem bf1:aV prog f165 (fun _=>none) [.v (some 3), .v (some 3)]=bq9:=by kernel_rfl
def bC2:Tr:=aZ 63 [(W 0 0)] [(some 3)] [6] [2] 46 false (aZ 63 [(W 1 0)] [(some 3)] [8] [2] 46 false (aZ 165 [(G3 2),(G3 3)] [(some 3),none] [7,9] [46,46] 55 true (.ret [(G3 4),(W 5 0)])))
theorem bG7:aV prog f72 (fun _=>none) [.v none, .v none]=bC2:=by kernel_rfl
def bf7:Tr:=aZ 163 [(G3 1)] [(some 1)] [31] [46] 42 false (aZ 162 [(G1 0),(G1 7)] [(some 1)] [30,32] [42,42] 42 false (aZ 163 [(G3 0)] [(some 1)] [37] [46] 42 false (aZ 162 [(G1 1),(G1 9)] [(some 1)] [36,38] [42,42] 42 false (aZ 164 [(G1 8),(G1 10)] [none] [33,39] [42,42] 3 true (cU .mul 3 27 40 6 0 11 0 3 (.ret [(W 12 0)]))))))
def bC4:Tr:=bI .eql 3 15 0 2 0 4 (.split (.u 5 0) (cU .sub 3 18 19 2 0 3 0 3 (cU .sub 3 21 22 2 0 3 0 3 (bI .quo 3 23 2 7 0 3 (cU .sub 3 20 24 6 0 8 0 3 (.ret [(W 9 0)]))))) (aZ 23 [(G3 0)] [none] [26] [46] 3 false bf7))
def bq3:Tr:=cU .neq 3 11 12 2 0 3 0 4 (.split (.u 4 0) (cU .sub 3 18 19 2 0 3 0 3 (cU .sub 3 21 22 2 0 3 0 3 (bI .quo 3 23 2 6 0 3 (cU .sub 3 20 24 5 0 7 0 3 (.ret [(W 8 0)]))))) bC4)
def bp2:Tr:=aZ 23 [(G3 0)] [none] [7] [46] 3 false (aZ 23 [(G3 1)] [none] [9] [46] 3 true bq3)
theorem bg8:aV prog f67 (fun _=>none) [.v (some 3), .v (some 3)]=bp2:=by kernel_rfl
theorem Pk (x y:Int) (hs:(dg x.natAbs).length+(dg y.natAbs).length<1099511627776:=by omega):aQ prog 175 [(iT x:aJ),(iT y:aJ)] (.ret [iT (x*y)]):=by
 refine eH func175 aZ8 ?_;apply vn (aV8 un4) rfl;apply aA (nH _ _ hs) rfl
 apply aA (gN _ _ (x*y) (by
  rw [<-Int.natAbs_mul];have hsg:(x*y).natAbs=x.natAbs*y.natAbs:=Int.natAbs_mul _ _;by_cases h1:x<0<;>by_cases h2:y<0<;>simp only [h1,h2,decide_true,decide_false,ne_eq,not_true_eq_false,not_false_eq_true,Bool.true_eq_false,Bool.false_eq_true,if_true,if_false]
  .have:=Int.mul_pos_of_neg_of_neg h1 h2;omega
  .have:=Int.mul_nonpos_of_nonpos_of_nonneg (Int.le_of_lt h1) (Int.not_lt.1 h2);omega
  .have:=Int.mul_nonpos_of_nonneg_of_nonpos (Int.not_lt.1 h1) (Int.le_of_lt h2);omega
  .have:=Int.mul_nonneg (Int.not_lt.1 h1) (Int.not_lt.1 h2);omega)) rfl
 exact aL rfl
theorem aY0 (x y:Int) (hs:(dg x.natAbs).length+(dg y.natAbs).length<1099511627776):aQ prog 184 [(iT x:aJ),(iT y:aJ)] (.ret [iT (x+y)]):=by
 refine eH func184 aX4 ?_;apply vn (aY1 un4) rfl;refine vs _ rfl ?_ ?_<;>intro h1
 .have h1:x<0↔y<0:=by simpa using h1
  apply aA (al3 _ _ hs) rfl;apply aA (gN _ _ (x+y) (by by_cases h2:x<0<;>simp only [h2,decide_true,decide_false,Bool.false_eq_true,if_true,if_false]<;>omega)) rfl;exact aL rfl
 have h1:¬ (x<0↔y<0):=by simpa using h1
 apply aA (sY _ _ hs) rfl;apply vn bQ rfl;dsimp only [aE,aF];rw [show decide (eT (x.natAbs:Int) (y.natAbs:Int)<0)=decide (x.natAbs<y.natAbs) by rw [decide_eq_decide,qY];omega];refine vs _ rfl ?_ ?_<;>intro h7
 .apply aA (Ps _ _) rfl;apply aA (gN _ _ (x+y) (by by_cases h2:y<0<;>simp only [h2,decide_true,decide_false,Bool.false_eq_true,if_true,if_false]<;>omega)) rfl;exact aL rfl
 apply aA (Ps _ _) rfl;apply aA (gN _ _ (x+y) (by by_cases h2:x<0<;>simp only [h2,decide_true,decide_false,Bool.false_eq_true,if_true,if_false]<;>omega)) rfl;exact aL rfl
theorem at7 (n:Int) (h1:-9223372036854775808<=n) (h2:n<9223372036854775808):aQ prog 156 [(.one (.int .i64 n):aJ)] (.ret [iT n]):=by
 refine eH func156 aw3 ?_;apply vn bQ rfl;refine vs _ rfl ?_ ?_<;>intro h1
 .apply vn (jH ⟨_,un2⟩ iU (c:=n+18446744073709551616) (by rw [IntKind.wrap_u64];omega)) rfl;apply vn (aK1 (c:=((n.natAbs:Nat):Int)) (by rw [IntKind.wrap_u64];omega)) rfl;apply aA (nN _) rfl;dsimp only [aE,aF];apply aA (gN true _ n (by rw [if_pos rfl];omega)) rfl;exact aL rfl
 apply vn (jH ⟨_,un2⟩ iU (c:=((n.natAbs:Nat):Int)) (by rw [IntKind.wrap_u64];omega)) rfl;apply aA (nN _) rfl;apply aA (gN false _ n (by rw [if_neg (by simp)];omega)) rfl;exact aL rfl
abbrev qC (q:Rat):List aD:=[dT q.num.natAbs, .bool (decide (q.num<0)),dT (q.den-1)]
abbrev qT (q:Rat):aJ:=.agg (qC q)
theorem jV:bB aD.Sub [.exact (.slice none 0 0), .bool false, .exact (.slice none 0 0)] (qC 0):=⟨ag9 rfl,aD.Sub.same,ag9 rfl,trivial⟩
theorem ag8 {z:Int} {d:Nat} (hd:d≠0:=by omega):(mkRat z d).num=(if decide (z<0)=true then -((z.natAbs/z.natAbs.gcd d:Nat):Int) else ((z.natAbs/z.natAbs.gcd d:Nat):Int))/\(mkRat z d).den=d/z.natAbs.gcd d:=by
 rw [<-Rat.normalize_eq_mkRat hd,Rat.normalize_eq hd];refine ⟨?_,rfl⟩;show z/_=_;have hg:0<z.natAbs.gcd d:=Nat.gcd_pos_of_pos_right _ (by omega);have hdv:(((z.natAbs.gcd d:Nat)):Int)∣z:=Int.ofNat_dvd_left.2 (Nat.gcd_dvd_left _ _);have h1:=Int.natAbs_ediv_of_dvd hdv;rw [Int.natAbs_natCast] at h1;by_cases h:z<0
 .rw [decide_eq_true h,if_pos rfl,<-h1];have:=Int.ediv_neg_of_neg_of_pos h (b:=((z.natAbs.gcd d:Nat):Int)) (by omega);omega
 .rw [decide_eq_false h,if_neg (by simp),<-h1];have:=Int.ediv_nonneg (Int.not_lt.1 h) (b:=((z.natAbs.gcd d:Nat):Int)) (by omega);omega
theorem Qn (z:Int) (d:Nat) (hd:0<d) (hs:(dg z.natAbs).length+(dg d).length<137438953472:=by omega):aQ prog 174 [(iT z:aJ),(mT d:aJ)] (.ret [qT (mkRat z d)]):=by
 refine eH func174 aA4 ?_;have hg:0<z.natAbs.gcd d:=Nat.gcd_pos_of_pos_right _ hd;have hgd:z.natAbs.gcd d<=d:=Nat.gcd_le_right _ hd;have hgl:=nO hgd;obtain ⟨hm1,hm2⟩:=ag8 (z:=z) (d:=d);have hq:0<d/z.natAbs.gcd d:=Nat.div_pos hgd hg;have hql:=nO (Nat.div_le_self d (z.natAbs.gcd d));have hone:(dg 1).length=1:=by rw [vC];rfl
 generalize hG:z.natAbs.gcd d=g at *
 apply aA (ab7 _ _ (by
  rcases Nat.le_total z.natAbs d with h | h
  .rw [Nat.max_eq_right h];omega
  .rw [Nat.max_eq_left h];omega)) rfl
 rw [hG];apply aA (aW8 _) rfl;apply vn Rm rfl;refine vs _ rfl ?_ ?_<;>intro h3
 .apply aA (PS _ _ hg) rfl;dsimp only [aE,aF];apply aA (PS _ _ hg) rfl;apply aA (gN _ _ (mkRat z d).num hm1) rfl;apply aA (nN 1) rfl;apply aA (Ps _ _ hq hq) rfl;rw [<-hm2];exact aL rfl
 have hg1:g=1:=by simpa using h3
 subst hg1;rw [Nat.div_one] at hm1 hm2;apply aA (gN _ _ (mkRat z d).num hm1) rfl;dsimp only [aE,aF];apply aA (nN 1) rfl;apply aA (Ps _ _ hd hd) rfl;dsimp only [aE,aF];refine aL ?_;show [aJ.agg [dT _, .bool _,dT (d-1)]] = [aJ.agg [_,_,dT ((mkRat z d).den-1)]];rw [hm2]
theorem gB (q:Rat) (h:(dg q.den).length<1099511627775:=by omega):aQ prog 163 [(qT q:aJ)] (.ret [mT q.den]):=by
 refine eH func163 Zq ?_;have hp:=q.den_pos;have hl:=nO (Nat.sub_le q.den 1);have hone:(dg 1).length=1:=by rw [vC];rfl
 apply aA (nN 1) rfl;apply aA (al3 _ _) rfl;rw [show q.den-1+1=q.den by omega];exact aL rfl
theorem aB6 (z:Int):aQ prog 155 [(iT z:aJ)] (.ret [qT (z:Rat)]):=by
 refine eH func155 aJ0 ?_;exact jL ⟨⟨aD.Sub.same,aD.Sub.same,ag9 rfl,trivial⟩,trivial⟩
theorem wD (n:Int) (h1:-9223372036854775808<=n:=by omega) (h2:n<9223372036854775808:=by omega):aQ prog 63 [(.one (.int .i64 n):aJ)] (.ret [qT (n:Rat)]):=by
 refine eH func63 bv7 ?_;apply aA (at7 _ h1 h2) rfl;apply aA (aB6 _) rfl;exact aL rfl
theorem jW (q:Rat):aQ prog 23 [(qT q:aJ)] (.ret [.one (.int .i64 q.num.sign)]):=by
 refine eH func23 aH4 ?_;apply aA (aF9 _) rfl;exact aL rfl
theorem Fit.dl {B:Nat} {q:Rat} (h:Fit B q):(dg q.num.natAbs).length<=B/\(dg q.den).length<=B:=⟨iV h.1,iV h.2⟩
theorem Fj (q:Rat):aQ prog 65 [(qT q:aJ)] (.ret [qT (-q)]):=by
 refine eH func65 bg6 ?_;apply vn Rm rfl
 apply aA (gN _ _ (-q).num (by
  rw [Rat.neg_num];by_cases h:q.num<0<;>simp only [h,not_true_eq_false,not_false_eq_true,decide_true,decide_false,Bool.false_eq_true,if_true,if_false]<;>omega)) rfl
 dsimp only [aE,aF];refine aL ?_;show [qT _]=_;simp only [qT,qC,Rat.neg_den]
theorem BI (q:Rat):q.abs.num=(q.num.natAbs:Int)/\q.abs.den=q.den:=by
 unfold Rat.abs;have h:=Rat.num_nonneg (q:=q);split
 .rename_i h0;have:=h.2 h0;exact ⟨by omega,rfl⟩
 .rename_i h0;have:¬ 0<=q.num:=fun e=>h0 (h.1 e);exact ⟨by rw [Rat.neg_num];omega,Rat.neg_den _⟩
theorem aR6 (q:Rat):aQ prog 168 [(qT q:aJ)] (.ret [qT q.abs]):=by
 refine eH func168 bc8 ?_;apply aA (gN false _ (q.abs).num (by rw [if_neg (by simp)];exact (BI q).1)) rfl;dsimp only [aE,aF];refine aL ?_;show [aJ.agg [dT q.abs.num.natAbs, .bool (decide (q.abs.num<0)),dT (q.den-1)]] = [qT q.abs];simp only [qT,qC,(BI q).2]
theorem fK (a b:Rat) (A B:Nat) (ha:Fit A a) (hb:Fit B b) (h:A+B<=34359738368:=by omega):aQ prog 76 [(qT a:aJ),(qT b:aJ)] (.ret [qT (a*b)]):=by
 refine eH func76 be3 ?_;obtain ⟨ha1,ha2⟩:=Fit.dl ha;obtain ⟨hb1,hb2⟩:=Fit.dl hb;have hn:=iV (cL ha.1 hb.1);have hd:=iV (cL ha.2 hb.2);apply aA (Pk _ _) rfl;apply aA (gB a) rfl;apply aA (gB b) rfl;apply aA (nH _ _) rfl;dsimp only [aE,aF];apply aA (Qn _ _ (Nat.mul_pos a.den_pos b.den_pos) (by rw [Int.natAbs_mul];omega)) rfl;rw [<-Rat.mul_def'];exact aL rfl
theorem jU (a b:Rat) (A B:Nat) (ha:Fit A a) (hb:Fit B b) (h:A+B<=34359738368:=by omega):aQ prog 88 [(qT a:aJ),(qT b:aJ)] (.ret [qT (a+b)]):=by
 refine eH func88 aW1 ?_;obtain ⟨ha1,ha2⟩:=Fit.dl ha;obtain ⟨hb1,hb2⟩:=Fit.dl hb;have hn1:=iV (cL ha.1 hb.2);have hn2:=iV (cL hb.1 ha.2);have hd:=iV (cL ha.2 hb.2)
 have hsum:(dg (a.num*(b.den:Int)+b.num*(a.den:Int)).natAbs).length<=A+B+1:=by
  apply iV;have h1:=cL ha.1 hb.2;have h2:=cL hb.1 ha.2;rw [Nat.add_comm B A] at h2;rw [Nat.pow_succ];refine Nat.lt_of_le_of_lt (Int.natAbs_add_le _ _) ?_;rw [Int.natAbs_mul,Int.natAbs_mul,Int.natAbs_natCast,Int.natAbs_natCast];omega
 apply aA (gB a) rfl;apply aA (gB b) rfl;apply aA (Pk a.num (b.den:Int) (by rw [Int.natAbs_natCast];omega)) rfl;apply aA (Pk b.num (a.den:Int) (by rw [Int.natAbs_natCast];omega)) rfl;dsimp only [aE,aF];apply aA (aY0 _ _ (by rw [Int.natAbs_mul,Int.natAbs_mul,Int.natAbs_natCast,Int.natAbs_natCast];omega)) rfl;apply aA (nH _ _) rfl;apply aA (Qn _ _ (Nat.mul_pos a.den_pos b.den_pos)) rfl;rw [<-Rat.add_def'];exact aL rfl
theorem jF (a b:Rat) (A B:Nat) (ha:Fit A a) (hb:Fit B b) (h:A+B<=34359738368:=by omega):aQ prog 86 [(qT a:aJ),(qT b:aJ)] (.ret [qT (a-b)]):=by
 refine eH func86 bk4 ?_;apply aA (Fj b) rfl;apply aA (jU a (-b) A B ha hb.neg h) rfl;rw [<-Rat.sub_eq_add_neg];exact aL rfl
theorem ah8 {a b:Rat} (hb:b≠0):mkRat (a.num*(if decide (b.num<0)=true then -(b.den:Int) else b.den)) (a.den*b.num.natAbs)=a/b:=by
 have hn:b.num≠0:=fun e=>hb (Rat.num_eq_zero.1 e)
 have e:b⁻¹=mkRat (if decide (b.num<0)=true then -(b.den:Int) else b.den) b.num.natAbs:=by
  rw [Rat.inv_def];by_cases h:b.num<0
  .rw [decide_eq_true h,if_pos rfl]
   conv=>lhs;rw [show b.num = -((b.num.natAbs:Nat):Int) by omega]
   rw [Rat.divInt_neg',Rat.divInt_ofNat]
  .rw [decide_eq_false h,if_neg (by simp)]
   conv=>lhs;rw [show b.num=((b.num.natAbs:Nat):Int) by omega]
   rw [Rat.divInt_ofNat]
 rw [Rat.div_def,e]
 conv=>rhs;rw [<-Rat.mkRat_self a]
 rw [Rat.mkRat_mul_mkRat]
theorem aw4 (a b:Rat) (A B:Nat) (hb0:b≠0) (ha:Fit A a) (hb:Fit B b) (h:A+B<=34359738368):aQ prog 212 [(qT a:aJ),(qT b:aJ)] (.ret [qT (a/b)]):=by
 refine eH func212 aD5 ?_;obtain ⟨ha1,ha2⟩:=Fit.dl ha;obtain ⟨hb1,hb2⟩:=Fit.dl hb;have hn:b.num≠0:=fun e=>hb0 (Rat.num_eq_zero.1 e);have hn1:=iV (cL ha.1 hb.2);have hd:=iV (cL ha.2 hb.1);obtain ⟨z,hz⟩:∃ z:Int,(if decide (b.num<0)=true then -(b.den:Int) else b.den)=z:=⟨_,rfl⟩
 have hza:z.natAbs=b.den:=by rw [<-hz];split<;>simp
 apply aA (gB b) rfl;apply aA (gN _ _ z hz.symm) rfl;apply aA (Pk a.num z (by rw [hza];omega)) rfl;apply aA (gB a) rfl;dsimp only [aE,aF];apply aA (nH _ _) rfl;apply aA (Qn _ _ (Nat.mul_pos a.den_pos (by omega)) (by rw [Int.natAbs_mul,hza];omega)) rfl;rw [<-hz,ah8 hb0];exact aL rfl
theorem sign_zero {q:Rat}:q.num.sign=0↔q=0:=by rw [Int.sign_eq_zero_iff_zero,Rat.num_eq_zero]
theorem VY (a b:Rat) (A B:Nat) (ha:Fit A a) (hb:Fit B b) (h:A+B<=34359738368:=by omega):aQ prog 165 [(qT a:aJ),(qT b:aJ)] (.ret [qT (if b=0 then 0 else a/b), .one (.int .i64 (if b=0 then 9 else 0))]):=by
 refine eH func165 bf1 ?_;apply aA (jW b) rfl;apply vn dP rfl;refine vs _ rfl ?_ ?_<;>intro h2
 .have h2:b=0:=sign_zero.1 h2;rw [if_pos h2,if_pos h2];exact jL ⟨jV,aJ.Sub.same,trivial⟩
 have h2:¬ b=0:=fun e=>h2 (sign_zero.2 e);rw [if_neg h2,if_neg h2];apply aA (aw4 a b A B h2 ha hb h) rfl;exact aL rfl
theorem sU {n:Int} (h1:-9223372036854775808<=n:=by omega) (h2:n<9223372036854775808:=by omega):Fit 64 (n:Rat):=Fit.int (by omega) (by omega)
theorem bb7 (n d:Int) (h1:-9223372036854775808<=n:=by omega) (h2:n<9223372036854775808:=by omega) (h3:-9223372036854775808<=d:=by omega) (h4:d<9223372036854775808:=by omega):aQ prog 72 [(.one (.int .i64 n):aJ),(.one (.int .i64 d):aJ)] (.ret [qT (if d=0 then 0 else (n:Rat)/(d:Rat)), .one (.int .i64 (if d=0 then 9 else 0))]):=by
 refine eH func72 bG7 ?_
 have e:((d:Rat)=0)↔d=0:=by
  rw [<-Rat.num_eq_zero,Rat.num_intCast]
 have hd:=VY (n:Rat) (d:Rat) 64 64 (sU h1 h2) (sU h3 h4);simp only [e] at hd;apply aA (wD n h1 h2) rfl;apply aA (wD d h3 h4) rfl;apply aA hd rfl;exact aL rfl
def gG (a b:Rat):Int:=if a<b then -1 else if b<a then 1 else 0
theorem zN (a b:Rat):gG a b=eT (a.num*b.den) (b.num*a.den):=by
 unfold gG eT;simp only [Rat.lt_iff]
theorem dH (z:Int):(z<0/\z.sign = -1)\/(z=0/\z.sign=0)\/(0<z/\z.sign=1):=by
 rcases Int.lt_trichotomy z 0 with h | h | h
 .exact .inl ⟨h,Int.sign_eq_neg_one_of_neg h⟩
 .exact .inr (.inl ⟨h,by rw [h];rfl⟩)
 .exact .inr (.inr ⟨h,Int.sign_eq_one_of_pos h⟩)
theorem XD {a b:Rat} (h:a.num.sign≠b.num.sign\/a.num.sign=0):gG a b=a.num.sign-b.num.sign-(a.num.sign-b.num.sign).tdiv 2:=by
 rw [zN];have ha:=a.den_pos;have hb:=b.den_pos
 have key:∀ (x:Int) (d:Nat),0<d->(x<0->x*(d:Int)<0)/\(x=0->x*(d:Int)=0)/\(0<x->0<x*(d:Int)):=fun x d hd=>
  ⟨fun h=>Int.mul_neg_of_neg_of_pos h (by omega),fun h=>by rw [h,Int.zero_mul],fun h=>Int.mul_pos h (by omega)⟩
 obtain ⟨k1,k2,k3⟩:=key a.num b.den hb;obtain ⟨l1,l2,l3⟩:=key b.num a.den ha
 rcases dH a.num with ⟨h1,e1⟩ | ⟨h1,e1⟩ | ⟨h1,e1⟩<;>rcases dH b.num with ⟨h2,e2⟩ | ⟨h2,e2⟩ | ⟨h2,e2⟩<;>rw [e1,e2] at h ⊢ <;> simp only [eT]<;>(try (exfalso;revert h;decide)) <;>
  (first
   | have i1:=k1 h1
   | have i1:=k2 h1
   | have i1:=k3 h1) <;>
  (first
   | have i2:=l1 h2
   | have i2:=l2 h2
   | have i2:=l3 h2) <;>
  (first
   | (rw [if_pos (by omega)];rfl)
   | (rw [if_neg (by omega),if_pos (by omega)];rfl)
   | (rw [if_neg (by omega),if_neg (by omega)];rfl))
theorem aH5 {a b:Rat} (h0:a.num.sign≠0) (h:a.num.sign=b.num.sign:=by omega):gG a b=a.num.sign*eT ((a.num.natAbs*b.den:Nat):Int) ((b.num.natAbs*a.den:Nat):Int):=by
 rw [zN];rcases dH a.num with ⟨h1,e1⟩ | ⟨h1,e1⟩ | ⟨h1,e1⟩
 .have h2:b.num<0:=by
   rcases dH b.num with ⟨h2,e2⟩ | ⟨h2,e2⟩ | ⟨h2,e2⟩
   .exact h2
   .omega
   .omega
  have ea:a.num*(b.den:Int) = -((a.num.natAbs*b.den:Nat):Int):=by
   rw [Int.natCast_mul,<-Int.neg_mul];congr 1;omega
  have eb:b.num*(a.den:Int) = -((b.num.natAbs*a.den:Nat):Int):=by
   rw [Int.natCast_mul,<-Int.neg_mul];congr 1;omega
  rw [e1,ea,eb];generalize ((a.num.natAbs*b.den:Nat):Int)=p;generalize ((b.num.natAbs*a.den:Nat):Int)=q;unfold eT;split<;>(try split)<;>(try split)<;>(try split)<;>omega
 .omega
 .have h2:0<b.num:=by
   rcases dH b.num with ⟨h2,e2⟩ | ⟨h2,e2⟩ | ⟨h2,e2⟩
   .omega
   .omega
   .exact h2
  have ea:a.num*(b.den:Int)=((a.num.natAbs*b.den:Nat):Int):=by
   rw [Int.natCast_mul];congr 1;omega
  have eb:b.num*(a.den:Int)=((b.num.natAbs*a.den:Nat):Int):=by
   rw [Int.natCast_mul];congr 1;omega
  rw [e1,ea,eb,Int.one_mul]
theorem kL (a b:Rat) (A B:Nat) (ha:Fit A a) (hb:Fit B b) (h:A+B<=34359738368:=by omega):aQ prog 67 [(qT a:aJ),(qT b:aJ)] (.ret [.one (.int .i64 (gG a b))]):=by
 refine eH func67 bg8 ?_;obtain ⟨ha1,ha2⟩:=Fit.dl ha;obtain ⟨hb1,hb2⟩:=Fit.dl hb;have hn1:=iV (cL ha.1 hb.2);have hn2:=iV (cL hb.1 ha.2);have hsa:-1<=a.num.sign/\a.num.sign<=1:=by rcases dH a.num with ⟨_,e⟩ | ⟨_,e⟩ | ⟨_,e⟩<;>omega
 have hsb:-1<=b.num.sign/\b.num.sign<=1:=by rcases dH b.num with ⟨_,e⟩ | ⟨_,e⟩ | ⟨_,e⟩<;>omega
 have htd:-1<=(a.num.sign-b.num.sign).tdiv 2/\(a.num.sign-b.num.sign).tdiv 2<=1:=by
  rcases dH a.num with ⟨_,e⟩ | ⟨_,e⟩ | ⟨_,e⟩<;>rcases dH b.num with ⟨_,e2⟩ | ⟨_,e2⟩ | ⟨_,e2⟩<;>rw [e,e2]<;>decide
 apply aA (jW a) rfl;apply aA (jW b) rfl;apply vn fG rfl;refine vs _ rfl ?_ ?_<;>intro h3
 .apply vn (aG (by omega) (by omega)) rfl;dsimp only [aE,aF];apply vn (aG (by omega) (by omega)) rfl;apply vn (oX (c:=(a.num.sign-b.num.sign).tdiv 2) (by decide) (fI)) rfl;apply vn (aG (by omega) (by omega)) rfl;dsimp only [aE,aF];rw [XD (.inl h3)];exact aL rfl
 apply vn dP rfl;refine vs _ rfl ?_ ?_<;>intro h10
 .apply vn (aG (by omega) (by omega)) rfl;apply vn (aG (by omega) (by omega)) rfl;apply vn (oX (c:=(a.num.sign-b.num.sign).tdiv 2) (by decide) (fI)) rfl;dsimp only [aE,aF];apply vn (aG (by omega) (by omega)) rfl;dsimp only [aE,aF];rw [XD (.inr h10)];exact aL rfl
 apply aA (jW a) rfl;apply aA (gB b) rfl;apply aA (nH _ _) rfl;apply aA (gB a) rfl;dsimp only [aE,aF];apply aA (nH _ _) rfl;apply aA (sY _ _) rfl;dsimp only [aE,aF]
 have hci:-1<=eT ((a.num.natAbs*b.den:Nat):Int) ((b.num.natAbs*a.den:Nat):Int)/\eT ((a.num.natAbs*b.den:Nat):Int) ((b.num.natAbs*a.den:Nat):Int)<=1:=by
  unfold eT;split<;>(try split)<;>omega
 rw [aH5 h10];generalize eT ((a.num.natAbs*b.den:Nat):Int) ((b.num.natAbs*a.den:Nat):Int)=c at hci ⊢;generalize a.num.sign=s at hsa h10 ⊢
 apply vn (wQ (c:=s*c) (by
  rcases (by omega:s = -1\/s=1) with rfl | rfl
  .exact fI
  .exact fI)) rfl
 exact aL rfl
end Go.Sy
