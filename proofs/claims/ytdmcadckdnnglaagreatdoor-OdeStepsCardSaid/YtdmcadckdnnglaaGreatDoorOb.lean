/- Known functions. Known functions of the reference; what is small.
-/
import Derived.Test.YtdmcadckdnnglaaGreatDoorOa
set_option linter.unusedVariables false
set_option linter.unusedSimpArgs false
namespace Go.Sy
open Go Go.Proofs Tryz Ord
def aK0:Tr:=.need (.idx 5 (.u 3 0)) (.indexAddr 40 (tT 14) (tT 15)) 0 false (.need (.strow 5 3 (.u 3 0) 0 [(.u 7 0),(.u 7 1),(.u 7 2)]) (.store 39 (tT 26) (tT 21)) 0 false (.need (.idx 9 (.u 4 0)) (.indexAddr 40 (tT 16) (tT 17)) 0 false (.need (.strow 9 3 (.u 4 0) 0 [(.u 8 0),(.u 8 1),(.u 8 2)]) (.store 39 (tT 27) (tT 25)) 0 false (aU .add 3 10 1 3 0 3 (aU .sub 3 12 1 4 0 3 (.back 0 [lV 11 0,lV 12 0, .row 10]))))))
def aQ1:Tr:=.loop 0 [lK 0,lV 2 0, .row 0] (bJ .lss 3 7 8 3 0 4 0 4 (.split (.u 6 0) (.need (.idx 5 (.u 4 0)) (.indexAddr 40 (tT 18) (tT 19)) 0 false (.need (.ldrow 5 (.u 4 0) 0 3 true) (.load 39 (tT 20)) 39 false (.need (.idx 5 (.u 3 0)) (.indexAddr 40 (tT 22) (tT 23)) 0 false (.need (.ldrow 5 (.u 3 0) 0 3 true) (.load 39 (tT 24)) 39 false aK0)))) (.retr [] 5)))
def aW8:Tr:=.need (.lenrow 0) (.call ⟨.builtin .len,#[(tT 4)],#[40]⟩) 3 false (aU .sub 3 5 1 1 0 3 aQ1)
theorem Lv:HF prog f92 (fun _=>none) [.lent 39 3]=aW8:=by kernel_rfl
def aO3:Tr:=eD 0 0 2 0 242 6 8 (dI 5 0 none 2 10 (aK 68 [(W 6 0)] [(some 3)] [13] [2] 39 true (.need (.lit 3 [[(.u 7 0),(.u 7 1),(.u 7 2)]]) (.buildSlice 72 1 #[(0,(tT 14))]) 72 false (.need (.app 3 56 (some 3) none (some 8)) (.call ⟨.builtin .append,#[(tT 12),(tT 15)],#[72,72]⟩) 72 false (aU .add 3 8 1 2 0 3 (.back 0 [lV 10 0, .row 9]))))))
def aV3:Tr:=cB 0 0 6 242 (.loop 0 [lK 0, .nilrow] (bJ .lss 3 8 7 2 0 1 0 0 (.split (.u 4 0) aO3 (aK 34 [(.one (.c (.sr 3 3)))] [none] [18] [72] 72 true (.ret [(W 5 0)])))))
theorem IL:aN prog f91 (fun _=>none) [.v none]=aV3:=by kernel_rfl
def ZG:Tr:=.ret [(.agg [tN,tN,(tE (.bool false)),tN,tN]),(WK 2)]
def YJ:Tr:=.ret [(.agg [tN,tN,(tE (.bool false)),tN,tN]),(WK 3)]
def ao7:Tr:=aK 91 [(.one (.c (.sr 1 9)))] [none] [30] [242] 72 false (.need (.lit 1 [[(.k (.int .i64 1))]]) (.buildSlice 242 1 #[(0,(.const (I3 1)))]) 242 false (aK 91 [(.one (.c (.sr 1 11)))] [none] [32] [242] 72 false (.need (.lit 1 [[(.u 10 0)],[(.u 12 0)]]) (.buildSlice 32 2 #[(0,(tT 31)),(1,(tT 33))]) 32 false (.need (.call 68 [(WK 1)] [(some 3)]) (.call ⟨.value (.func 68),#[(.const (I3 1))],#[2]⟩) 39 false (.need (.lit 3 [[(.u 14 0),(.u 14 1),(.u 14 2)]]) (.buildSlice 40 1 #[(0,(tT 35))]) 40 false (.ret [(.agg [(.c (.sr 1 13)),tN,(tE (.bool false)),tN,(.c (.sr 3 15))]),(WK 0)]))))))
def ax9:Tr:=.need (.lit 1 [[(.u 11 0)],[(.k (.slice none 0 0))],[(.u 13 0)]]) (.buildSlice 32 3 #[(0,(tT 41)),(1,(.const (.slice none 0 0))),(2,(tT 43))]) 32 false (.need (.prim [(W 0 0),(.one (.c (.k (.int .u8 3))))] none) (.binOp .eql 5 (tT 104) (.const (.int .u8 3)) 5) 4 false (.split (.u 15 0) (.need (.rop 7 39 3 none [] [] []) (.call ⟨.value (.func 92),#[(tT 111)],#[40]⟩) 0 true (.ret [(.agg [(.c (.sr 1 14)),tN,(tE (.bool false)),tN,(.c (.sr 3 16))]),(WK 0)])) (.need (.prim [(W 0 0),(.one (.c (.k (.int .u8 7))))] none) (.binOp .geq 5 (tT 107) (.const (.int .u8 7)) 5) 4 false (.split (.u 16 0) (.need (.rop 7 39 3 none [] [] []) (.call ⟨.value (.func 92),#[(tT 111)],#[40]⟩) 0 true (.ret [(.agg [(.c (.sr 1 14)),tN,(tE (.bool false)),tN,(.c (.sr 3 17))]),(WK 0)])) (.ret [(.agg [(.c (.sr 1 14)),tN,(tE (.bool false)),tN,(.c (.sr 3 7))]),(WK 0)])))))
def an7:Tr:=.need (.lit 1 [[(.u 12 0)],[(.k (.slice none 0 0))],[(.u 14 0)]]) (.buildSlice 32 3 #[(0,(tT 49)),(1,(.const (.slice none 0 0))),(2,(tT 51))]) 32 false (.need (.prim [(W 0 0),(.one (.c (.k (.int .u8 3))))] none) (.binOp .eql 5 (tT 104) (.const (.int .u8 3)) 5) 4 false (.split (.u 16 0) (.need (.rop 7 39 3 none [] [] []) (.call ⟨.value (.func 92),#[(tT 111)],#[40]⟩) 0 true (.ret [(.agg [(.c (.sr 1 15)),tN,(tE (.bool false)),tN,(.c (.sr 3 17))]),(WK 0)])) (.need (.prim [(W 0 0),(.one (.c (.k (.int .u8 7))))] none) (.binOp .geq 5 (tT 107) (.const (.int .u8 7)) 5) 4 false (.split (.u 17 0) (.need (.rop 7 39 3 none [] [] []) (.call ⟨.value (.func 92),#[(tT 111)],#[40]⟩) 0 true (.ret [(.agg [(.c (.sr 1 15)),tN,(tE (.bool false)),tN,(.c (.sr 3 18))]),(WK 0)])) (.ret [(.agg [(.c (.sr 1 15)),tN,(tE (.bool false)),tN,(.c (.sr 3 7))]),(WK 0)])))))
def at5:Tr:=.need (.lit 1 [[(.k (.slice none 0 0))],[(.u 13 0)],[(.u 15 0)]]) (.buildSlice 32 3 #[(0,(.const (.slice none 0 0))),(1,(tT 57)),(2,(tT 59))]) 32 false (.need (.prim [(W 0 0),(.one (.c (.k (.int .u8 3))))] none) (.binOp .eql 5 (tT 104) (.const (.int .u8 3)) 5) 4 false (.split (.u 17 0) (.need (.rop 7 39 3 none [] [] []) (.call ⟨.value (.func 92),#[(tT 111)],#[40]⟩) 0 true (.ret [(.agg [(.c (.sr 1 16)),tN,(tE (.bool false)),tN,(.c (.sr 3 18))]),(WK 0)])) (.need (.prim [(W 0 0),(.one (.c (.k (.int .u8 7))))] none) (.binOp .geq 5 (tT 107) (.const (.int .u8 7)) 5) 4 false (.split (.u 18 0) (.need (.rop 7 39 3 none [] [] []) (.call ⟨.value (.func 92),#[(tT 111)],#[40]⟩) 0 true (.ret [(.agg [(.c (.sr 1 16)),tN,(tE (.bool false)),tN,(.c (.sr 3 19))]),(WK 0)])) (.ret [(.agg [(.c (.sr 1 16)),tN,(tE (.bool false)),tN,(.c (.sr 3 7))]),(WK 0)])))))
def am0:Tr:=.need (.lit 1 [[(.k (.slice none 0 0))],[(.u 14 0)],[(.u 16 0)]]) (.buildSlice 32 3 #[(0,(.const (.slice none 0 0))),(1,(tT 65)),(2,(tT 67))]) 32 false (.need (.prim [(W 0 0),(.one (.c (.k (.int .u8 3))))] none) (.binOp .eql 5 (tT 104) (.const (.int .u8 3)) 5) 4 false (.split (.u 18 0) (.need (.rop 7 39 3 none [] [] []) (.call ⟨.value (.func 92),#[(tT 111)],#[40]⟩) 0 true (.ret [(.agg [(.c (.sr 1 17)),tN,(tE (.bool false)),tN,(.c (.sr 3 19))]),(WK 0)])) (.need (.prim [(W 0 0),(.one (.c (.k (.int .u8 7))))] none) (.binOp .geq 5 (tT 107) (.const (.int .u8 7)) 5) 4 false (.split (.u 19 0) (.need (.rop 7 39 3 none [] [] []) (.call ⟨.value (.func 92),#[(tT 111)],#[40]⟩) 0 true (.ret [(.agg [(.c (.sr 1 17)),tN,(tE (.bool false)),tN,(.c (.sr 3 20))]),(WK 0)])) (.ret [(.agg [(.c (.sr 1 17)),tN,(tE (.bool false)),tN,(.c (.sr 3 7))]),(WK 0)])))))
def aA9:Tr:=.need (.lit 1 [[(.k (.slice none 0 0))],[(.u 15 0)],[(.u 17 0)]]) (.buildSlice 32 3 #[(0,(.const (.slice none 0 0))),(1,(tT 73)),(2,(tT 75))]) 32 false (.need (.prim [(W 0 0),(.one (.c (.k (.int .u8 3))))] none) (.binOp .eql 5 (tT 104) (.const (.int .u8 3)) 5) 4 false (.split (.u 19 0) (.need (.rop 7 39 3 none [] [] []) (.call ⟨.value (.func 92),#[(tT 111)],#[40]⟩) 0 true (.ret [(.agg [(.c (.sr 1 18)),tN,(tE (.bool false)),tN,(.c (.sr 3 20))]),(WK 0)])) (.need (.prim [(W 0 0),(.one (.c (.k (.int .u8 7))))] none) (.binOp .geq 5 (tT 107) (.const (.int .u8 7)) 5) 4 false (.split (.u 20 0) (.need (.rop 7 39 3 none [] [] []) (.call ⟨.value (.func 92),#[(tT 111)],#[40]⟩) 0 true (.ret [(.agg [(.c (.sr 1 18)),tN,(tE (.bool false)),tN,(.c (.sr 3 21))]),(WK 0)])) (.ret [(.agg [(.c (.sr 1 18)),tN,(tE (.bool false)),tN,(.c (.sr 3 7))]),(WK 0)])))))
def MM:Tr:=.need (.prim [(W 0 0),(.one (.c (.k (.int .u8 3))))] none) (.binOp .eql 5 (tT 104) (.const (.int .u8 3)) 5) 4 false (.split (.u 24 0) (.need (.rop 7 39 3 none [] [] []) (.call ⟨.value (.func 92),#[(tT 111)],#[40]⟩) 0 true (.ret [(.agg [(.c (.sr 1 23)),tN,(tE (.bool false)),tN,(.c (.sr 3 25))]),(WK 0)])) (.need (.prim [(W 0 0),(.one (.c (.k (.int .u8 7))))] none) (.binOp .geq 5 (tT 107) (.const (.int .u8 7)) 5) 4 false (.split (.u 25 0) (.need (.rop 7 39 3 none [] [] []) (.call ⟨.value (.func 92),#[(tT 111)],#[40]⟩) 0 true (.ret [(.agg [(.c (.sr 1 23)),tN,(tE (.bool false)),tN,(.c (.sr 3 26))]),(WK 0)])) (.ret [(.agg [(.c (.sr 1 23)),tN,(tE (.bool false)),tN,(.c (.sr 3 7))]),(WK 0)]))))
def Yf:Tr:=.need (.lit 1 [[(.u 16 0)]]) (.buildSlice 242 1 #[(0,(tT 83))]) 242 false (aK 91 [(.one (.c (.sr 1 17)))] [none] [84] [242] 72 false (.need (.lit 1 [[(.k (.int .i64 0))],[(.k (.int .i64 (-2)))]]) (.buildSlice 242 2 #[(0,(.const (I3 0))),(1,(.const (I3 (-2))))]) 242 false (aK 91 [(.one (.c (.sr 1 19)))] [none] [86] [242] 72 false (.need (.lit 1 [[(.k (.int .i64 1))],[(.k (.int .i64 0))],[(.k (.int .i64 (-1)))]]) (.buildSlice 242 3 #[(0,(.const (I3 1))),(1,(.const (I3 0))),(2,(.const (I3 (-1))))]) 242 false (aK 91 [(.one (.c (.sr 1 21)))] [none] [88] [242] 72 true (.need (.lit 1 [[(.u 18 0)],[(.u 20 0)],[(.u 22 0)]]) (.buildSlice 32 3 #[(0,(tT 85)),(1,(tT 87)),(2,(tT 89))]) 32 false MM))))))
def VH:Tr:=.need (.lit 1 [[(.u 16 0)]]) (.buildSlice 242 1 #[(0,(tT 95))]) 242 false (aK 91 [(.one (.c (.sr 1 17)))] [none] [96] [242] 72 false (.need (.lit 1 [[(.k (.int .i64 0))],[(.k (.int .i64 (-2)))]]) (.buildSlice 242 2 #[(0,(.const (I3 0))),(1,(.const (I3 (-2))))]) 242 false (aK 91 [(.one (.c (.sr 1 19)))] [none] [98] [242] 72 false (.need (.lit 1 [[(.k (.int .i64 1))]]) (.buildSlice 242 1 #[(0,(.const (I3 1)))]) 242 false (aK 91 [(.one (.c (.sr 1 21)))] [none] [100] [242] 72 true (.need (.lit 1 [[(.u 18 0)],[(.u 20 0)],[(.u 22 0)]]) (.buildSlice 32 3 #[(0,(tT 97)),(1,(tT 99)),(2,(tT 101))]) 32 false MM))))))
def VY:Tr:=.split (.u 15 0) (.need (.prim [(WK 2),(W 1 0)] none) (.binOp .mul 2 (.const (I3 2)) (tT 94) 2) 2 false VH) (.need (.prim [(W 0 0),(.one (.c (.k (.int .u8 3))))] none) (.binOp .eql 5 (tT 104) (.const (.int .u8 3)) 5) 4 false (.split (.u 16 0) (.need (.rop 7 39 3 none [] [] []) (.call ⟨.value (.func 92),#[(tT 111)],#[40]⟩) 0 true (.ret [(.agg [tN,tN,(tE (.bool false)),tN,(.c (.sr 3 17))]),(WK 0)])) (.need (.prim [(W 0 0),(.one (.c (.k (.int .u8 7))))] none) (.binOp .geq 5 (tT 107) (.const (.int .u8 7)) 5) 4 false (.split (.u 17 0) (.need (.rop 7 39 3 none [] [] []) (.call ⟨.value (.func 92),#[(tT 111)],#[40]⟩) 0 true (.ret [(.agg [tN,tN,(tE (.bool false)),tN,(.c (.sr 3 18))]),(WK 0)])) (.ret [(.agg [tN,tN,(tE (.bool false)),tN,(.c (.sr 3 7))]),(WK 0)])))))
def ao2:Tr:=.split (.u 12 0) (.need (.lit 1 [[(.k (.int .i64 1))]]) (.buildSlice 242 1 #[(0,(.const (I3 1)))]) 242 false (aK 91 [(.one (.c (.sr 1 13)))] [none] [64] [242] 72 false (.need (.lit 1 [[(.k (.int .i64 1))],[(.k (.int .i64 1))]]) (.buildSlice 242 2 #[(0,(.const (I3 1))),(1,(.const (I3 1)))]) 242 false (aK 91 [(.one (.c (.sr 1 15)))] [none] [66] [242] 72 true am0)))) (.need (.prim [(W 0 0),(.one (.c (.k (.int .u8 6))))] none) (.binOp .eql 5 (tT 27) (.const (.int .u8 6)) 5) 4 false (.split (.u 13 0) (.need (.lit 1 [[(.k (.int .i64 0))],[(.k (.int .i64 2))]]) (.buildSlice 242 2 #[(0,(.const (I3 0))),(1,(.const (I3 2)))]) 242 false (aK 91 [(.one (.c (.sr 1 14)))] [none] [72] [242] 72 false (.need (.lit 1 [[(.k (.int .i64 1))],[(.k (.int .i64 0))],[(.k (.int .i64 1))]]) (.buildSlice 242 3 #[(0,(.const (I3 1))),(1,(.const (I3 0))),(2,(.const (I3 1)))]) 242 false (aK 91 [(.one (.c (.sr 1 16)))] [none] [74] [242] 72 true aA9)))) (.need (.prim [(W 0 0),(.one (.c (.k (.int .u8 7))))] none) (.binOp .eql 5 (tT 27) (.const (.int .u8 7)) 5) 4 false (.split (.u 14 0) (aU .add 2 81 1 1 0 2 (bJ .mul 2 80 82 1 0 15 0 2 Yf)) (.need (.prim [(W 0 0),(.one (.c (.k (.int .u8 8))))] none) (.binOp .eql 5 (tT 27) (.const (.int .u8 8)) 5) 4 false VY)))))
def ae9:Tr:=.split (.u 10 0) (.need (.lit 1 [[(.k (.int .i64 0))],[(.k (.int .i64 (-1)))]]) (.buildSlice 242 2 #[(0,(.const (I3 0))),(1,(.const (I3 (-1))))]) 242 false (aK 91 [(.one (.c (.sr 1 11)))] [none] [48] [242] 72 false (.need (.lit 1 [[(.k (.int .i64 1))]]) (.buildSlice 242 1 #[(0,(.const (I3 1)))]) 242 false (aK 91 [(.one (.c (.sr 1 13)))] [none] [50] [242] 72 true an7)))) (.need (.prim [(W 0 0),(.one (.c (.k (.int .u8 4))))] none) (.binOp .eql 5 (tT 27) (.const (.int .u8 4)) 5) 4 false (.split (.u 11 0) (.need (.lit 1 [[(.k (.int .i64 0))],[(.k (.int .i64 2))]]) (.buildSlice 242 2 #[(0,(.const (I3 0))),(1,(.const (I3 2)))]) 242 false (aK 91 [(.one (.c (.sr 1 12)))] [none] [56] [242] 72 false (.need (.lit 1 [[(.k (.int .i64 1))]]) (.buildSlice 242 1 #[(0,(.const (I3 1)))]) 242 false (aK 91 [(.one (.c (.sr 1 14)))] [none] [58] [242] 72 true at5)))) (.need (.prim [(W 0 0),(.one (.c (.k (.int .u8 5))))] none) (.binOp .eql 5 (tT 27) (.const (.int .u8 5)) 5) 4 false ao2)))
def ae2:Tr:=.split (.u 8 0) (.need (.lit 1 [[(.k (.int .i64 (-1)))]]) (.buildSlice 242 1 #[(0,(.const (I3 (-1))))]) 242 false ao7) (.need (.prim [(W 0 0),(.one (.c (.k (.int .u8 2))))] none) (.binOp .eql 5 (tT 27) (.const (.int .u8 2)) 5) 4 false (.split (.u 9 0) (.need (.lit 1 [[(.k (.int .i64 1))]]) (.buildSlice 242 1 #[(0,(.const (I3 1)))]) 242 false (aK 91 [(.one (.c (.sr 1 10)))] [none] [40] [242] 72 false (.need (.lit 1 [[(.k (.int .i64 1))]]) (.buildSlice 242 1 #[(0,(.const (I3 1)))]) 242 false (aK 91 [(.one (.c (.sr 1 12)))] [none] [42] [242] 72 true ax9)))) (.need (.prim [(W 0 0),(.one (.c (.k (.int .u8 3))))] none) (.binOp .eql 5 (tT 27) (.const (.int .u8 3)) 5) 4 false ae9)))
def aI1:Tr:=aU .lss 3 15 0 1 0 4 (.split (.u 4 0) YJ (aU .gtr 3 18 40 1 0 4 (.split (.u 5 0) YJ (.need (.call 68 [(WK 1)] [(some 3)]) (.call ⟨.value (.func 68),#[(.const (I3 1))],#[2]⟩) 39 false (.need (.lit 3 [[(.k (.slice none 0 0)),(.k (.bool false)),(.k (.slice none 0 0))],[(.u 6 0),(.u 6 1),(.u 6 2)]]) (.buildSlice 40 2 #[(0,(tT 23)),(1,(tT 24))]) 40 false (.need (.prim [(W 0 0),(.one (.c (.k (.int .u8 1))))] none) (.binOp .eql 5 (tT 27) (.const (.int .u8 1)) 5) 4 false ae2))))))
def aJ1:Tr:=.need (.prim [(W 0 0),(.one (.c (.k (.int .u8 1))))] none) (.binOp .lss 5 (tT 8) (.const (.int .u8 1)) 5) 4 false (.split (.u 2 0) ZG (.need (.prim [(W 0 0),(.one (.c (.k (.int .u8 8))))] none) (.binOp .gtr 5 (tT 11) (.const (.int .u8 8)) 5) 4 false (.split (.u 3 0) ZG aI1)))
theorem RN:aN prog f18 (fun _=>none) [.v none, .v none]=aJ1:=by kernel_rfl
theorem vE (a0 a1 a2 b0 b1 b2:aH):uC prog 92 39 3 [] [] ([[a0,a1,a2],[b0,b1,b2]]) [] ([[b0,b1,b2],[a0,a1,a2]]):=by
 refine CL (a1:=[]) (a2:=[]) (i1:=[]) (i2:=[]) (hints:=(fun _=>none)) fo (by kernel_rfl) func92 trivial trivial (by kernel_rfl) ?_ ?_ ?_ ?_
 ·simp [rT]
 ·simp [rT]
 ·simp [rT]
 dsimp only [aB,aA];rw [Lv];dsimp only [List.map,In.env,aB,aA];refine KL (n:=2) rfl rfl ?_;dsimp only [aB,aA];refine vn (aG (by omega) (by omega)) rfl ?_;dsimp only [aB,aA];refine bC Bool (fun g=>if g then [.one (.int .i64 1), .one (.int .i64 0), .rows [[b0,b1,b2],[a0,a1,a2]]] else [.one (.int .i64 0), .one (.int .i64 1), .rows [[a0,a1,a2],[b0,b1,b2]]]) (fun g=>if g then 0 else 1) false aO.rfl (fun g=>by cases g<;>rfl) ?_;intro g;cases g
 case true=>
  show vc _ _ _ [_,_,_, .one (.int .i64 1), .one (.int .i64 0), .rows [[b0,b1,b2],[a0,a1,a2]]] _;refine vn bB rfl ?_;refine vs _ rfl (fun h=>absurd h (by decide)) (fun _=>?_);exact HP rfl rfl
 show vc _ _ _ [_,_,_, .one (.int .i64 0), .one (.int .i64 1), .rows [[a0,a1,a2],[b0,b1,b2]]] _;refine vn bB rfl ?_;dsimp only [aB,aA];refine vs _ rfl (fun _=>?_) (fun h=>absurd (by decide) h);refine kX rfl rfl (by decide) (by simp) ?_;refine vld (t:=.agg [b0,b1,b2]) rfl rfl (by decide) rfl (.inl rfl) rfl ?_;dsimp only [aB,aA,Mi,List.drop,List.take];refine kX rfl rfl (by decide) (by simp) ?_;refine vld (t:=.agg [a0,a1,a2]) rfl rfl (by decide) rfl (.inl rfl) rfl ?_;dsimp only [aB,aA,Mi,List.drop,List.take];refine kX rfl rfl (by decide) (by simp) ?_;refine Dy (us:=[[b0,b1,b2],[b0,b1,b2]]) rfl rfl (by decide) rfl rfl ?_;dsimp only [aB,aA];refine kX rfl rfl (by decide) (by simp) ?_;refine Dy (us:=[[b0,b1,b2],[a0,a1,a2]]) rfl rfl (by decide) rfl rfl ?_;dsimp only [aB,aA];refine vn (aE (by omega) (by omega)) rfl ?_;dsimp only [aB,aA];refine vn (aG (by omega) (by omega)) rfl ?_;dsimp only [aB,aA];exact aR rfl ⟨true,aO.rfl,by decide⟩
abbrev sI (l:List Int):aH:=.slice 1 (l.map fun n=>[aH.int .i64 n])
def ints (l:List Int):List Rat:=trim (l.map fun n:Int=>(n:Rat))
def qE (l:List Int):Prop:=∀ n∈l,-9223372036854775808≤n∧n<9223372036854775808
theorem bU (l:List Int) (h:qE l) (hs:l.length<1099511627776):aM prog 91 [(.one (sI l):aF)] (.ret [.one (sQ (ints l))]):=by
 refine aD (args:=[.v none]) (ins:=[.v (.one (sI l))]) (hints:=(fun _=>none)) fo (by kernel_rfl) func91 ⟨rfl,trivial⟩ ?_;rw [IL];dsimp only [List.map,In.env,aB,aA];refine vn (aP Zg (List.length_map _)) rfl ?_;dsimp only [aB,aA];refine bC {i:Nat // i≤l.length} (fun g=>[.one (.int .i64 g.1), .rows (rQ ((l.take g.1).map fun n:Int=>(n:Rat)))]) (fun g=>l.length-g.1) ⟨0,Nat.zero_le _⟩ aO.rfl (fun _=>rfl) ?_;rintro ⟨i,hi⟩;dsimp only [aB,aA] at hi ⊢;refine vn bB rfl ?_;dsimp only [aB,aA];refine vs _ rfl (fun h3=>?_) (fun h3=>?_)
 ·obtain ⟨n,hn⟩:∃ n,l[i]? = some n:=⟨_,List.getElem?_eq_getElem (by omega)⟩
  obtain ⟨hn1,hn2⟩:=h n (List.mem_of_getElem? hn);have hl:((l.take i).map fun n:Int=>(n:Rat)).length≤i:=by simp;omega
  refine vn (aW Zg (by omega) (by omega) hn) rfl ?_;dsimp only [aB,aA];refine vn (bF ag2) rfl ?_;dsimp only [aB,aA];refine aC (jP n hn1 hn2) rfl ?_;dsimp only [aB,aA];refine cL (us:=[qC (n:Rat)]) rfl ?_;dsimp only [aB,aA];refine jQ (xs:=(l.take i).map fun n:Int=>(n:Rat)) (x:=(n:Rat)) (f:=qC) rfl rfl (by omega) (by simp only [maxLen];omega) ?_;rw [pT (f:=fun n:Int=>(n:Rat)) hn];dsimp only [aB,aA];refine vn (aE (by omega) (by omega)) rfl ?_;dsimp only [aB,aA];exact aR rfl ⟨⟨i+1,by omega⟩,aO.rfl,by show l.length-(i+1)<l.length-i;omega⟩
 rw [show i=l.length by omega,List.take_length];refine aC (wS (l.map fun n:Int=>(n:Rat)) (by simpa using hs)) rfl ?_;exact aL rfl
def iW (l:List Int):List RQ:=dV (l.map fun n:Int=>RQ.of (n:Rat))
theorem VZ (l:List Int):(iW l).map RQ.q=ints l:=by
 rw [iW,pP,ints,List.map_map];rfl
def kE (k:Nat) (n:Int):List (List Rat):=
 match k with
 | 1=>[ints [-1],ints [1]]
 | 2=>[ints [1],[],ints [1]]
 | 3=>[ints [0,-1],[],ints [1]]
 | 4=>[[],ints [0,2],ints [1]]
 | 5=>[[],ints [1],ints [1,1]]
 | 6=>[[],ints [0,2],ints [1,0,1]]
 | 7=>[ints [n*(n+1)],ints [0,-2],ints [1,0,-1]]
 | _=>[ints [2*n],ints [0,-2],ints [1]]
def kY (k:Nat):List Rat:=
 match k with
 | 1=>[1]
 | 3=>[1,0]
 | 7=>[1,0]
 | 8=>[1,0]
 | _=>[0,1]
def kO (k:Nat) (n:Int):List (List Rat)×List Rat×Int:=
 if k<1∨8<k then ([],[],2) else if n<0∨40<n then ([],[],3) else (kE k n,kY k,0)
abbrev fT (e:List (List Rat)) (c:Rat) (y:List Rat):aF:=.agg [eQ e,dT c.num.natAbs, .bool (decide (c.num<0)),dT (c.den-1),sQ y]
theorem Gd:aY (aY aH.Sub) [[.exact (.slice none 0 0), .bool false, .exact (.slice none 0 0)],qC 1] [qC 0,qC 1]:=⟨iZ,⟨aH.Sub.same,aH.Sub.same,aH.Sub.same,trivial⟩,trivial⟩
theorem KB:aY (aY aH.Sub) [qC 1,[.exact (.slice none 0 0), .bool false, .exact (.slice none 0 0)]] [qC 1,qC 0]:=⟨⟨aH.Sub.same,aH.Sub.same,aH.Sub.same,trivial⟩,iZ,trivial⟩
theorem aD3 (p q:List Rat):aY (aY aH.Sub) [[sQ p],[.exact (.slice none 0 0)],[sQ q]] [cQ p,cQ [],cQ q]:=⟨⟨aH.Sub.same,trivial⟩,⟨aH.Sub.nil,trivial⟩,⟨aH.Sub.same,trivial⟩,trivial⟩
theorem Pv (p q:List Rat):aY (aY aH.Sub) [[.exact (.slice none 0 0)],[sQ p],[sQ q]] [cQ [],cQ p,cQ q]:=⟨⟨aH.Sub.nil,trivial⟩,⟨aH.Sub.same,trivial⟩,⟨aH.Sub.same,trivial⟩,trivial⟩
set_option maxHeartbeats 2000000 in
theorem Sx (k:Nat) (n:Int) (hk:k<256) (h1:-9223372036854775808≤n) (h2:n<9223372036854775808):aM prog 18 [(.one (.int .u8 k):aF),(.one (.int .i64 n):aF)] (.ret [fT (kO k n).1 0 (kO k n).2.1, .one (.int .i64 (kO k n).2.2)]):=by
 refine aD (args:=[.v none, .v none]) (ins:=[.v (.one (.int .u8 k)), .v (.one (.int .i64 n))]) (hints:=(fun _=>none)) fo (by kernel_rfl) func18 ⟨rfl,rfl,trivial⟩ ?_;rw [RN];dsimp only [List.map,In.env,aB,aA];refine vn bB rfl ?_;dsimp only [aB,aA];refine vs _ rfl (fun h1=>?_) (fun h1'=>?_)
 ·rw [kO,if_pos (by omega)];exact eG ⟨⟨aH.Sub.nil,jI rfl,aH.Sub.same,jI rfl,aH.Sub.nil,trivial⟩,aF.Sub.same,trivial⟩
 refine vn dB rfl ?_;dsimp only [aB,aA];refine vs _ rfl (fun h4=>?_) (fun h4=>?_)
 ·rw [kO,if_pos (by omega)];exact eG ⟨⟨aH.Sub.nil,jI rfl,aH.Sub.same,jI rfl,aH.Sub.nil,trivial⟩,aF.Sub.same,trivial⟩
 refine vn bB rfl ?_;dsimp only [aB,aA];refine vs _ rfl (fun h7=>?_) (fun h7=>?_)
 ·rw [kO,if_neg (by omega),if_pos (by omega)];exact eG ⟨⟨aH.Sub.nil,jI rfl,aH.Sub.same,jI rfl,aH.Sub.nil,trivial⟩,aF.Sub.same,trivial⟩
 refine vn dB rfl ?_;dsimp only [aB,aA];refine vs _ rfl (fun h10=>?_) (fun h10=>?_)
 ·rw [kO,if_neg (by omega),if_pos (by omega)];exact eG ⟨⟨aH.Sub.nil,jI rfl,aH.Sub.same,jI rfl,aH.Sub.nil,trivial⟩,aF.Sub.same,trivial⟩
 refine aC (jP 1 (by omega) (by omega)) rfl ?_;dsimp only [aB,aA];rw [kO,if_neg (by omega),if_neg (by omega)];refine cL (us:=[[.exact (.slice none 0 0), .bool false, .exact (.slice none 0 0)],qC 1]) rfl ?_;dsimp only [aB,aA];refine vn bL rfl ?_;dsimp only [aB,aA];refine vs _ rfl (fun h15=>?_) (fun h15=>?_)
 ·obtain rfl:k=1:=by omega
  refine cL (us:=[[.int .i64 (-1)]]) rfl ?_;dsimp only [aB,aA];refine aC (bU [-1] (by simp [qE]) (by simp)) rfl ?_;dsimp only [aB,aA];refine cL (us:=[[.int .i64 1]]) rfl ?_;dsimp only [aB,aA];refine aC (bU [1] (by simp [qE]) (by simp)) rfl ?_;dsimp only [aB,aA];refine cL (us:=[[sQ (ints [-1])],[sQ (ints [1])]]) rfl ?_;dsimp only [aB,aA];refine aC (jP 1 (by omega) (by omega)) rfl ?_;dsimp only [aB,aA];refine cL (us:=[qC 1]) rfl ?_;dsimp only [aB,aA];exact eG ⟨⟨aH.Sub.same,jI rfl,aH.Sub.same,jI rfl,aH.Sub.same,trivial⟩,aF.Sub.same,trivial⟩
 refine vn bL rfl ?_;dsimp only [aB,aA];refine vs _ rfl (fun h25=>?_) (fun h25=>?_)
 ·obtain rfl:k=2:=by omega
  refine cL (us:=[[.int .i64 1]]) rfl ?_;dsimp only [aB,aA];refine aC (bU [1] (by simp [qE]) (by simp)) rfl ?_;dsimp only [aB,aA];refine cL (us:=[[.int .i64 1]]) rfl ?_;dsimp only [aB,aA];refine aC (bU [1] (by simp [qE]) (by simp)) rfl ?_;dsimp only [aB,aA];refine cL (us:=[[sQ (ints [1])],[.exact (.slice none 0 0)],[sQ (ints [1])]]) rfl ?_;dsimp only [aB,aA];refine vn bL rfl ?_;dsimp only [aB,aA];refine vs _ rfl (fun h32=>?_) (fun h32=>?_)
  ·exfalso;omega
  refine vn eH rfl ?_;dsimp only [aB,aA];refine vs _ rfl (fun h36=>?_) (fun h36=>?_)
  ·exfalso;omega
  exact eG ⟨⟨aH.Sub.slice (aD3 _ _),jI rfl,aH.Sub.same,jI rfl,aH.Sub.slice Gd,trivial⟩,aF.Sub.same,trivial⟩
 refine vn bL rfl ?_;dsimp only [aB,aA];refine vs _ rfl (fun h41=>?_) (fun h41=>?_)
 ·obtain rfl:k=3:=by omega
  refine cL (us:=[[.int .i64 0],[.int .i64 (-1)]]) rfl ?_;dsimp only [aB,aA];refine aC (bU [0,-1] (by simp [qE]) (by simp)) rfl ?_;dsimp only [aB,aA];refine cL (us:=[[.int .i64 1]]) rfl ?_;dsimp only [aB,aA];refine aC (bU [1] (by simp [qE]) (by simp)) rfl ?_;dsimp only [aB,aA];refine cL (us:=[[sQ (ints [0,-1])],[.exact (.slice none 0 0)],[sQ (ints [1])]]) rfl ?_;dsimp only [aB,aA];refine vn bL rfl ?_;dsimp only [aB,aA];refine vs _ rfl (fun h48=>?_) (fun h48=>?_)
  ·refine OD (n:=0) (us:=[[.exact (.slice none 0 0), .bool false, .exact (.slice none 0 0)],qC 1]) (rs:=[]) (vs:=[qC 1,[.exact (.slice none 0 0), .bool false, .exact (.slice none 0 0)]]) rfl ⟨rfl,rfl⟩ (by simp) rfl (sW rfl (vE _ _ _ _ _ _)) rfl ?_;dsimp only [aB,aA];exact eG ⟨⟨aH.Sub.slice (aD3 _ _),jI rfl,aH.Sub.same,jI rfl,aH.Sub.slice KB,trivial⟩,aF.Sub.same,trivial⟩
  refine vn eH rfl ?_;dsimp only [aB,aA];refine vs _ rfl (fun h52=>?_) (fun h52=>?_)
  ·exfalso;omega
  exfalso;omega
 refine vn bL rfl ?_;dsimp only [aB,aA];refine vs _ rfl (fun h57=>?_) (fun h57=>?_)
 ·obtain rfl:k=4:=by omega
  refine cL (us:=[[.int .i64 0],[.int .i64 2]]) rfl ?_;dsimp only [aB,aA];refine aC (bU [0,2] (by simp [qE]) (by simp)) rfl ?_;dsimp only [aB,aA];refine cL (us:=[[.int .i64 1]]) rfl ?_;dsimp only [aB,aA];refine aC (bU [1] (by simp [qE]) (by simp)) rfl ?_;dsimp only [aB,aA];refine cL (us:=[[.exact (.slice none 0 0)],[sQ (ints [0,2])],[sQ (ints [1])]]) rfl ?_;dsimp only [aB,aA];refine vn bL rfl ?_;dsimp only [aB,aA];refine vs _ rfl (fun h64=>?_) (fun h64=>?_)
  ·exfalso;omega
  refine vn eH rfl ?_;dsimp only [aB,aA];refine vs _ rfl (fun h68=>?_) (fun h68=>?_)
  ·exfalso;omega
  exact eG ⟨⟨aH.Sub.slice (Pv _ _),jI rfl,aH.Sub.same,jI rfl,aH.Sub.slice Gd,trivial⟩,aF.Sub.same,trivial⟩
 refine vn bL rfl ?_;dsimp only [aB,aA];refine vs _ rfl (fun h73=>?_) (fun h73=>?_)
 ·obtain rfl:k=5:=by omega
  refine cL (us:=[[.int .i64 1]]) rfl ?_;dsimp only [aB,aA];refine aC (bU [1] (by simp [qE]) (by simp)) rfl ?_;dsimp only [aB,aA];refine cL (us:=[[.int .i64 1],[.int .i64 1]]) rfl ?_;dsimp only [aB,aA];refine aC (bU [1,1] (by simp [qE]) (by simp)) rfl ?_;dsimp only [aB,aA];refine cL (us:=[[.exact (.slice none 0 0)],[sQ (ints [1])],[sQ (ints [1,1])]]) rfl ?_;dsimp only [aB,aA];refine vn bL rfl ?_;dsimp only [aB,aA];refine vs _ rfl (fun h80=>?_) (fun h80=>?_)
  ·exfalso;omega
  refine vn eH rfl ?_;dsimp only [aB,aA];refine vs _ rfl (fun h84=>?_) (fun h84=>?_)
  ·exfalso;omega
  exact eG ⟨⟨aH.Sub.slice (Pv _ _),jI rfl,aH.Sub.same,jI rfl,aH.Sub.slice Gd,trivial⟩,aF.Sub.same,trivial⟩
 refine vn bL rfl ?_;dsimp only [aB,aA];refine vs _ rfl (fun h89=>?_) (fun h89=>?_)
 ·obtain rfl:k=6:=by omega
  refine cL (us:=[[.int .i64 0],[.int .i64 2]]) rfl ?_;dsimp only [aB,aA];refine aC (bU [0,2] (by simp [qE]) (by simp)) rfl ?_;dsimp only [aB,aA];refine cL (us:=[[.int .i64 1],[.int .i64 0],[.int .i64 1]]) rfl ?_;dsimp only [aB,aA];refine aC (bU [1,0,1] (by simp [qE]) (by simp)) rfl ?_;dsimp only [aB,aA];refine cL (us:=[[.exact (.slice none 0 0)],[sQ (ints [0,2])],[sQ (ints [1,0,1])]]) rfl ?_;dsimp only [aB,aA];refine vn bL rfl ?_;dsimp only [aB,aA];refine vs _ rfl (fun h96=>?_) (fun h96=>?_)
  ·exfalso;omega
  refine vn eH rfl ?_;dsimp only [aB,aA];refine vs _ rfl (fun h100=>?_) (fun h100=>?_)
  ·exfalso;omega
  exact eG ⟨⟨aH.Sub.slice (Pv _ _),jI rfl,aH.Sub.same,jI rfl,aH.Sub.slice Gd,trivial⟩,aF.Sub.same,trivial⟩
 refine vn bL rfl ?_;dsimp only [aB,aA];refine vs _ rfl (fun h105=>?_) (fun h105=>?_)
 ·obtain rfl:k=7:=by omega
  have hnn:n*(n+1)≤40*41:=by
   have:=Int.mul_le_mul (a:=n) (b:=n+1) (c:=40) (d:=41) (by omega) (by omega) (by omega) (by omega);omega
  have hn0:0≤n*(n+1):=Int.mul_nonneg (by omega) (by omega);refine vn (aE (by omega) (by omega)) rfl ?_;dsimp only [aB,aA];refine vn (rY (c:=n*(n+1)) (dN (by omega) (by omega))) rfl ?_;dsimp only [aB,aA];refine cL (us:=[[.int .i64 (n*(n+1))]]) rfl ?_;dsimp only [aB,aA];refine aC (bU [n*(n+1)] (by simp only [qE,List.mem_singleton,forall_eq];omega) (by simp)) rfl ?_;dsimp only [aB,aA];refine cL (us:=[[.int .i64 0],[.int .i64 (-2)]]) rfl ?_;dsimp only [aB,aA];refine aC (bU [0,-2] (by simp [qE]) (by simp)) rfl ?_;dsimp only [aB,aA];refine cL (us:=[[.int .i64 1],[.int .i64 0],[.int .i64 (-1)]]) rfl ?_;dsimp only [aB,aA];refine aC (bU [1,0,-1] (by simp [qE]) (by simp)) rfl ?_;dsimp only [aB,aA];refine cL (us:=[[sQ (ints [n*(n+1)])],[sQ (ints [0,-2])],[sQ (ints [1,0,-1])]]) rfl ?_;dsimp only [aB,aA];refine vn bL rfl ?_;dsimp only [aB,aA];refine vs _ rfl (fun h116=>?_) (fun h116=>?_)
  ·exfalso;omega
  refine vn eH rfl ?_;dsimp only [aB,aA];refine vs _ rfl (fun h120=>?_) (fun h120=>?_)
  ·refine OD (n:=0) (us:=[[.exact (.slice none 0 0), .bool false, .exact (.slice none 0 0)],qC 1]) (rs:=[]) (vs:=[qC 1,[.exact (.slice none 0 0), .bool false, .exact (.slice none 0 0)]]) rfl ⟨rfl,rfl⟩ (by simp) rfl (sW rfl (vE _ _ _ _ _ _)) rfl ?_;dsimp only [aB,aA];exact eG ⟨⟨aH.Sub.same,jI rfl,aH.Sub.same,jI rfl,aH.Sub.slice KB,trivial⟩,aF.Sub.same,trivial⟩
  exfalso;omega
 refine vn bL rfl ?_;dsimp only [aB,aA];refine vs _ rfl (fun h125=>?_) (fun h125=>?_)
 ·obtain rfl:k=8:=by omega
  refine vn (pV (by omega) (by omega)) rfl ?_;dsimp only [aB,aA];refine cL (us:=[[.int .i64 (2*n)]]) rfl ?_;dsimp only [aB,aA];refine aC (bU [2*n] (by simp only [qE,List.mem_singleton,forall_eq];omega) (by simp)) rfl ?_;dsimp only [aB,aA];refine cL (us:=[[.int .i64 0],[.int .i64 (-2)]]) rfl ?_;dsimp only [aB,aA];refine aC (bU [0,-2] (by simp [qE]) (by simp)) rfl ?_;dsimp only [aB,aA];refine cL (us:=[[.int .i64 1]]) rfl ?_;dsimp only [aB,aA];refine aC (bU [1] (by simp [qE]) (by simp)) rfl ?_;dsimp only [aB,aA];refine cL (us:=[[sQ (ints [2*n])],[sQ (ints [0,-2])],[sQ (ints [1])]]) rfl ?_;dsimp only [aB,aA];refine vn bL rfl ?_;dsimp only [aB,aA];refine vs _ rfl (fun h135=>?_) (fun h135=>?_)
  ·exfalso;omega
  refine vn eH rfl ?_;dsimp only [aB,aA];refine vs _ rfl (fun h139=>?_) (fun h139=>?_)
  ·refine OD (n:=0) (us:=[[.exact (.slice none 0 0), .bool false, .exact (.slice none 0 0)],qC 1]) (rs:=[]) (vs:=[qC 1,[.exact (.slice none 0 0), .bool false, .exact (.slice none 0 0)]]) rfl ⟨rfl,rfl⟩ (by simp) rfl (sW rfl (vE _ _ _ _ _ _)) rfl ?_;dsimp only [aB,aA];exact eG ⟨⟨aH.Sub.same,jI rfl,aH.Sub.same,jI rfl,aH.Sub.slice KB,trivial⟩,aF.Sub.same,trivial⟩
  exfalso;omega
 refine vn bL rfl ?_;dsimp only [aB,aA];refine vs _ rfl (fun h144=>?_) (fun h144=>?_)
 ·exfalso;omega
 refine vn eH rfl ?_;dsimp only [aB,aA];refine vs _ rfl (fun h148=>?_) (fun h148=>?_)
 ·exfalso;omega
 exfalso;omega
open Go Go.Proofs Tryz Ord
def kER (k:Nat) (n:Int):List (List RQ):=
 match k with
 | 1=>[iW [-1],iW [1]]
 | 2=>[iW [1],[],iW [1]]
 | 3=>[iW [0,-1],[],iW [1]]
 | 4=>[[],iW [0,2],iW [1]]
 | 5=>[[],iW [1],iW [1,1]]
 | 6=>[[],iW [0,2],iW [1,0,1]]
 | 7=>[iW [n*(n+1)],iW [0,-2],iW [1,0,-1]]
 | _=>[iW [2*n],iW [0,-2],iW [1]]
def kYR (k:Nat):List RQ:=
 match k with
 | 1=>[.of 1]
 | 3=>[.of 1, .nil]
 | 7=>[.of 1, .nil]
 | 8=>[.of 1, .nil]
 | _=>[.nil, .of 1]
theorem aO6 {k:Nat} (h1:1≤k) (h2:k≤8) (n:Int):fG (kER k n)=kE k n:=by
 rcases (by omega:k=1∨k=2∨k=3∨k=4∨k=5∨k=6∨k=7∨k=8) with rfl | rfl | rfl | rfl | rfl | rfl | rfl | rfl<;>simp only [fG,kER,kE,List.map_cons,List.map_nil,VZ]
theorem aL6 {k:Nat} (h1:1≤k) (h2:k≤8):(kYR k).map RQ.q=kY k:=by
 rcases (by omega:k=1∨k=2∨k=3∨k=4∨k=5∨k=6∨k=7∨k=8) with rfl | rfl | rfl | rfl | rfl | rfl | rfl | rfl<;>rfl
abbrev sP (p:List (List bQ)):aH:=.slice 1 (p.map fun l=>[sN l])
def gH (p:List (List bQ)):Bool:=decide (p.length≤6∧∀ l∈p,l.length≤4∧∀ x∈l,x.Ay=true)
structure ZC (p:List (List bQ)):Prop where
 l:p.length<140737488355328
 p:∀ l∈p,l.length<140737488355328∧∀ x∈l,x.In
set_option maxHeartbeats 1000000 in
theorem Hc (p:List (List bQ)) (long:Int) (hp:ZC p):aM prog 55 [(.agg [sP p, .int .i64 long]:aF)] (.ret [.one (.bool (gH p))]):=by
 refine aD (args:=[.v (some 2)]) (ins:=[.v (.agg [sP p, .int .i64 long])]) (hints:=(fun _=>none)) fo (by kernel_rfl) func55 ⟨rfl,trivial⟩ ?_;rw [GA];dsimp only [List.map,In.env,aB,aA];have hpl:=hp.l;refine bC {i:Nat // i≤p.length∧∀ j l,j<i→p[j]? = some l→l.length≤4∧∀ x∈l,x.Ay=true} (fun g=>[.one (.bool false), .one (.int .i64 g.1)]) (fun g=>p.length-g.1) ⟨0,Nat.zero_le _,fun j l h=>by omega⟩ aO.rfl (fun _=>rfl) ?_;rintro ⟨i,hi,hok⟩;dsimp only [aB,aA] at hi hok ⊢;refine vn (aP JZ (List.length_map _)) rfl ?_;dsimp only [aB,aA];refine vn bB rfl ?_;dsimp only [aB,aA];refine vs _ rfl (fun h3=>?_) (fun h3=>?_)
 ·obtain ⟨l,hl⟩:∃ l,p[i]? = some l:=⟨_,List.getElem?_eq_getElem (by omega)⟩
  obtain ⟨hll,hlx⟩:=hp.p l (List.mem_of_getElem? hl)
  have hbad:∀ x∈l,x.Ay=false→gH p=false:=fun x hx h=>by
   unfold gH;rw [decide_eq_false_iff_not];rintro ⟨_,h2⟩;rw [(h2 l (List.mem_of_getElem? hl)).2 x hx] at h;cases h
  refine vn (aW JZ (by omega) (by omega) hl) rfl ?_;dsimp only [aB,aA];refine vn (bF XN) rfl ?_;dsimp only [aB,aA];refine vn (aP Qd (List.length_map _)) rfl ?_;dsimp only [aB,aA];refine vn dB rfl ?_;dsimp only [aB,aA];refine vs _ rfl (fun h8=>?_) (fun h8=>?_)
  ·rw [show gH p=false by
    unfold gH;rw [decide_eq_false_iff_not];rintro ⟨_,h2⟩;have:=(h2 l (List.mem_of_getElem? hl)).1;omega];exact aL rfl
  refine bC {k:Nat // k≤l.length∧∀ j x,j<k→l[j]? = some x→x.Ay=true} (fun g=>[.one (.bool false), .one (.int .i64 g.1)]) (fun g=>l.length-g.1) ⟨0,Nat.zero_le _,fun j x h=>by omega⟩ aO.rfl (fun _=>rfl) ?_;rintro ⟨k,hk,hkok⟩;dsimp only [aB,aA] at hk hkok ⊢;refine vn (aW JZ (by omega) (by omega) hl) rfl ?_;dsimp only [aB,aA];refine vn (bF XN) rfl ?_;dsimp only [aB,aA];refine vn (aP Qd (List.length_map _)) rfl ?_;dsimp only [aB,aA];refine vn bB rfl ?_;dsimp only [aB,aA];refine vs _ rfl (fun h15=>?_) (fun h15=>?_)
  ·refine vn (aW JZ (by omega) (by omega) hl) rfl ?_;dsimp only [aB,aA];refine vn (bF XN) rfl ?_;dsimp only [aB,aA];obtain ⟨x,hx⟩:∃ x,l[k]? = some x:=⟨_,List.getElem?_eq_getElem (by omega)⟩
   have hxl:=List.mem_of_getElem? hx;have hxi:=hlx x hxl;refine vn (aW Qd (by omega) (by omega) hx) rfl ?_;dsimp only [aB,aA];refine vn (bO aS5 (by decide) (by simp) (.inl rfl)) rfl ?_;dsimp only [aB,aA];refine vn (fL (by omega) (by omega)) rfl ?_;dsimp only [aB,aA];refine vn gO rfl ?_;dsimp only [aB,aA];refine vs _ rfl (fun h22=>?_) (fun h22=>?_)
   ·rw [hbad x hxl (by unfold bQ.Ay;rw [decide_eq_false_iff_not];omega)];exact aL rfl
   refine vn dB rfl ?_;dsimp only [aB,aA];refine vs _ rfl (fun h25=>?_) (fun h25=>?_)
   ·rw [hbad x hxl (by unfold bQ.Ay;rw [decide_eq_false_iff_not];omega)];exact aL rfl
   refine vn bB rfl ?_;dsimp only [aB,aA];refine vs _ rfl (fun h28=>?_) (fun h28=>?_)
   ·rw [hbad x hxl (by unfold bQ.Ay;rw [decide_eq_false_iff_not];omega)];exact aL rfl
   refine vn dB rfl ?_;dsimp only [aB,aA];refine vs _ rfl (fun h31=>?_) (fun h31=>?_)
   ·rw [hbad x hxl (by unfold bQ.Ay;rw [decide_eq_false_iff_not];omega)];exact aL rfl
   refine vn bB rfl ?_;dsimp only [aB,aA];refine vs _ rfl (fun h34=>?_) (fun h34=>?_)
   ·rw [hbad x hxl (by unfold bQ.Ay;rw [decide_eq_false_iff_not];omega)];exact aL rfl
   refine vn (aE (by omega) (by omega)) rfl ?_;dsimp only [aB,aA]
   exact aR rfl ⟨⟨k+1,by omega,fun j x' hj hx'=>by
    rcases Nat.lt_or_ge j k with h | h
    ·exact hkok j x' h hx'
    ·rw [show j=k by omega,hx] at hx';simp only [Option.some.injEq] at hx';subst hx';unfold bQ.Ay;rw [decide_eq_true_iff];omega⟩,aO.rfl,by show l.length-(k+1)<l.length-k;omega⟩
  refine vn (aE (by omega) (by omega)) rfl ?_;dsimp only [aB,aA]
  exact aR rfl ⟨⟨i+1,by omega,fun j l' hj hl'=>by
   rcases Nat.lt_or_ge j i with h | h
   ·exact hok j l' h hl'
   ·rw [show j=i by omega,hl] at hl';simp only [Option.some.injEq] at hl';subst hl';refine ⟨by omega,fun x hx=>?_⟩;obtain ⟨m,hm⟩:=List.getElem?_of_mem hx;exact hkok m x (by have:=(List.getElem?_eq_some_iff.1 hm).1;omega) hm⟩,aO.rfl,by show p.length-(i+1)<p.length-i;omega⟩
 refine vn (aP JZ (List.length_map _)) rfl ?_;dsimp only [aB,aA];refine vn fV rfl ?_;dsimp only [aB,aA]
 rw [show gH p=decide ((p.length:Int)≤6) by
  unfold gH;rw [decide_eq_decide]
  constructor
  ·rintro ⟨h,_⟩;omega
  ·intro h;refine ⟨by omega,fun l hl=>?_⟩;obtain ⟨m,hm⟩:=List.getElem?_of_mem hl;exact hok m l (by have:=(List.getElem?_eq_some_iff.1 hm).1;omega) hm];exact aL rfl
structure cP where
 p:List (List bQ)
 long:Int
 c:bQ
 y:List bQ
 kind:Nat
 n:Int
structure cP.In (c:cP):Prop where
 hp:ZC c.p
 hl1:-9223372036854775808≤c.long
 hl2:c.long<9223372036854775808
 hc:c.c.In
 hyl:c.y.length<140737488355328
 hy:∀ x∈c.y,x.In
 hk:c.kind<256
 hn1:-9223372036854775808≤c.n
 hn2:c.n<9223372036854775808
def cP.small (c:cP):Bool:=decide ((∀ x∈c.y,x.short=true)∧gH c.p=true∧c.c.short=true∧c.y.length≤6)
end Go.Sy
