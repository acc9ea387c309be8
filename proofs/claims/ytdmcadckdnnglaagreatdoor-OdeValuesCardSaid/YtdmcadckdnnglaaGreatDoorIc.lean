/- Part. -/
import Derived.Test.YtdmcadckdnnglaaGreatDoorIa
set_option linter.all false
namespace Go.Sy
open Go Go.Proofs Tryz Ord
def cB:Tr:=.ret [(tF false)]
def Sk:Tr:=.need (.prim [(W 8 0),(WK 0)] none) (.indexAddr 118 (tT 206) (.const (I3 0))) 0 false (dR 22 0 (some 6) 123 207 (aJ 81 [(G6 23)] [none] [208] [123] 9 false (bO .eql 9 205 209 21 0 24 0 4 (.split (.u 25 0) (aJ 16 [] [none] [] [] 4 true (.ret [(W 26 0)])) cB))))
def Vq:Tr:=aJ 38 [(G3 15),(G3 2)] [none] [189,190] [39,39] 3 true (aW .gtr 3 191 0 16 0 4 (.split (.u 17 0) (aJ 16 [] [none] [] [] 4 true (.ret [(W 18 0)])) (aJ 76 [(G5 0),(G3 1),(G3 2)] [(some 6),none] [195,196,197] [42,39,39] 136 false (aW .eql 55 201 0 19 0 4 (.split (.u 20 0) (aJ 81 [(G6 18)] [none] [204] [123] 9 false Sk) cB)))))
def SO:Tr:=.split (.u 10 0) (aJ 16 [] [none] [] [] 4 true (.ret [(W 11 0)])) (cU 8 0 183 118 (aW .eql 3 184 0 11 0 4 (.split (.u 12 0) cB (.need (.prim [(W 8 0),(WK 0)] none) (.indexAddr 118 (tT 186) (.const (I3 0))) 0 false (dR 13 0 (some 6) 123 187 (aJ 80 [(G6 14)] [(some 3)] [188] [123] 39 false Vq))))))
def WI:Tr:=aJ 76 [(G5 0),(G3 1),(G3 2)] [(some 6),none] [158,159,160] [42,39,39] 136 false (aW .eql 55 164 2 9 0 4 (.split (.u 10 0) (aJ 77 [(G6 8),(.agg [(tE (.int .i64 0)),tN,(tE (.int .i64 0)),tN,(tE (.int .i64 0)),tN,(tE (.int .i64 0)),tN])] [none] [167,168] [123,140] 4 false (.split (.u 11 0) (aJ 16 [] [none] [] [] 4 true (.ret [(W 12 0)])) cB)) cB))
def Lq:Tr:=.split (.u 28 0) (aJ 16 [] [none] [] [] 4 true (.ret [(W 29 0)])) cB
def Xh:Tr:=aW .eql 55 201 0 22 0 4 (.split (.u 23 0) (aJ 81 [(G6 21)] [none] [204] [123] 9 false (.need (.prim [(W 11 0),(WK 0)] none) (.indexAddr 118 (tT 206) (.const (I3 0))) 0 false (dR 25 0 (some 6) 123 207 (aJ 81 [(G6 26)] [none] [208] [123] 9 false (bO .eql 9 205 209 24 0 27 0 4 Lq))))) cB)
def Wt:Tr:=dR 16 0 (some 6) 123 187 (aJ 80 [(G6 17)] [(some 3)] [188] [123] 39 false (aJ 38 [(G3 18),(G3 2)] [none] [189,190] [39,39] 3 true (aW .gtr 3 191 0 19 0 4 (.split (.u 20 0) (aJ 16 [] [none] [] [] 4 true (.ret [(W 21 0)])) (aJ 76 [(G5 0),(G3 1),(G3 2)] [(some 6),none] [195,196,197] [42,39,39] 136 false Xh)))))
def XO:Tr:=.need (.call 72 [(G5 0),(G3 1),(WK 16)] [none,none]) (.call ⟨.value (.func 72),#[(tT 175),(tT 176),(.const (I3 16))],#[42,39,3]⟩) 130 false (aW .neq 55 180 0 12 0 4 (.split (.u 13 0) (aJ 16 [] [none] [] [] 4 true (.ret [(W 14 0)])) (cU 11 0 183 118 (aW .eql 3 184 0 14 0 4 (.split (.u 15 0) cB (.need (.prim [(W 11 0),(WK 0)] none) (.indexAddr 118 (tT 186) (.const (I3 0))) 0 false Wt))))))
def al0:Tr:=aJ 76 [(G5 0),(G3 1),(G3 2)] [(some 6),none] [158,159,160] [42,39,39] 136 false (aW .eql 55 164 2 12 0 4 (.split (.u 13 0) (aJ 77 [(G6 11),(.agg [(tE (.int .i64 0)),tN,(tE (.int .i64 0)),tN,(tE (.int .i64 0)),tN,(tE (.int .i64 0)),tN])] [none] [167,168] [123,140] 4 false (.split (.u 14 0) (aJ 16 [] [none] [] [] 4 true (.ret [(W 15 0)])) cB)) cB))
def XT:Tr:=.need (.call 79 [(WK 1),(WK 1000)] [(some 4)]) (.call ⟨.value (.func 79),#[(.const (I3 1)),(.const (I3 1000))],#[2,2]⟩) 49 false (aJ 47 [(G4 3),(G4 6)] [none] [148,149] [49,49] 3 false (aW .lss 3 150 0 7 0 4 (.split (.u 8 0) (aJ 16 [] [none] [] [] 4 true (.ret [(W 9 0)])) (aJ 46 [(G4 3)] [none] [154] [49] 3 true (aW .leq 3 155 0 9 0 4 (.split (.u 10 0) al0 XO))))))
def XQ:Tr:=aW .gtr 3 145 0 4 0 4 (.split (.u 5 0) XT (aJ 46 [(G4 3)] [none] [154] [49] 3 true (aW .leq 3 155 0 6 0 4 (.split (.u 7 0) WI (.need (.call 72 [(G5 0),(G3 1),(WK 16)] [none,none]) (.call ⟨.value (.func 72),#[(tT 175),(tT 176),(.const (I3 16))],#[42,39,3]⟩) 130 false (aW .neq 55 180 0 9 0 4 SO))))))
def HD:Tr:=aJ 46 [(G4 3)] [none] [144] [49] 3 false XQ
noncomputable def dC:Tr:=aL prog f11 (fun _=>none) [.v (some 8), .v (some 3), .v (some 3), .v none]
noncomputable def WH:Tr:=.split (.u 28 0) cB (dC.part [false,false,false,false,false,false,true,false,false])
noncomputable def Ub:Tr:=.need (.prim [(W 27 0)] none) (.unOp .not 4 (.tmp 139)) 4 false WH
noncomputable def Ti:Tr:=.need (.call 63 [(W 18 0),(W 22 0)] [none]) (.call ⟨.value (.func 63),#[(.tmp 137),(.tmp 138)],#[118,119]⟩) 4 false Ub
noncomputable def Wj:Tr:=.split (.u 26 0) cB Ti
noncomputable def Sw:Tr:=.need (.prim [(W 19 0),(WK (0))] none) (.binOp .neq 55 (.tmp 134) (.const (I3 (0))) 55) 4 false Wj
noncomputable def SQ:Tr:=.split (.u 25 0) Sw (dC.part [false,false,false,false,false,false,false])
noncomputable def UW:Tr:=.need (.prim [(W 23 0),(WK (0))] none) (.binOp .eql 3 (.tmp 131) (.const (I3 (0))) 3) 4 false SQ
noncomputable def Sa:Tr:=.split (.u 32 0) cB (dC.part [false,false,false,false,false,true,false,false,true,false,false])
noncomputable def WD:Tr:=.need (.prim [(W 31 0)] none) (.unOp .not 4 (.tmp 139)) 4 false Sa
noncomputable def Tg:Tr:=.need (.call 63 [(W 18 0),(W 22 0)] [none]) (.call ⟨.value (.func 63),#[(.tmp 137),(.tmp 138)],#[118,119]⟩) 4 false WD
noncomputable def RH:Tr:=.split (.u 30 0) cB Tg
noncomputable def TX:Tr:=.need (.prim [(W 19 0),(WK (0))] none) (.binOp .neq 55 (.tmp 134) (.const (I3 (0))) 55) 4 false RH
noncomputable def SP:Tr:=.split (.u 29 0) TX (dC.part [false,false,false,false,false,true,false,false,false])
noncomputable def To:Tr:=.need (.prim [(W 23 0),(WK (0))] none) (.binOp .eql 3 (.tmp 131) (.const (I3 (0))) 3) 4 false SP
noncomputable def UM:Tr:=.split (.u 28 0) cB To
noncomputable def SK:Tr:=.need (.prim [(W 27 0),(WK (0))] none) (.binOp .neq 3 (.tmp 126) (.const (I3 (0))) 3) 4 false UM
noncomputable def RV:Tr:=.need (.prim [(W 18 0)] none) (.call ⟨.builtin .len,#[(.tmp 125)],#[118]⟩) 3 false SK
noncomputable def RC:Tr:=.split (.u 26 0) cB RV
noncomputable def TK:Tr:=.need (.prim [(W 19 0),(W 25 0)] none) (.binOp .neq 55 (.tmp 120) (.tmp 122) 55) 4 false RC
noncomputable def Uz:Tr:=.need (.call 62 [(W 23 0)] [none]) (.call ⟨.value (.func 62),#[(.tmp 121)],#[3]⟩) 55 false TK
noncomputable def Uk:Tr:=.split (.u 24 0) Uz UW
noncomputable def Sn:Tr:=.need (.prim [(W 23 0),(WK (0))] none) (.binOp .gtr 3 (.tmp 117) (.const (I3 (0))) 3) 4 false Uk
noncomputable def Tp:Tr:=.need (.call 78 [(.agg [(U 12 0),(U 12 1),(U 12 2),(U 12 3),(U 12 4),(U 12 5)]),(.agg [(U 14 0),(U 14 1),(U 14 2),(U 14 3)]),(W 10 0)] [none,none]) (.call ⟨.value (.func 78),#[(.tmp 111),(.tmp 112),(.tmp 113)],#[52,49,3]⟩) 141 false Sn
def Xe:Tr:=.split (.u 24 0) (aW .eql 55 94 2 23 0 4 (.split (.u 25 0) (cU 18 0 98 118 (aW .eql 3 99 0 26 0 4 (.split (.u 27 0) (aJ 77 [(G6 22),(.agg [(tE (.int .i64 0)),tN,(tE (.int .i64 0)),tN,(tE (.int .i64 0)),tN,(tE (.int .i64 0)),tN])] [none] [103,104] [123,140] 4 false Lq) cB))) cB)) cB
def TW:Tr:=aJ 76 [(G5 11),(G3 13),(G3 15)] [(some 6),none] [85,86,87] [42,39,39] 136 false (aW .eql 55 91 2 19 0 4 Xe)
noncomputable def Vo:Tr:=.split (.u 21 0) TW Tp
noncomputable def Uo:Tr:=.need (.prim [(W 20 0)] none) (.unOp .not 4 (.tmp 82)) 4 false Vo
noncomputable def WS:Tr:=.need (.call 22 [(.agg [(U 12 0),(U 12 1),(U 12 2),(U 12 3),(U 12 4),(U 12 5)])] [none]) (.call ⟨.value (.func 22),#[(.tmp 81)],#[52]⟩) 4 true Uo
noncomputable def VJ:Tr:=.need (.call 72 [(.agg [(U 11 0),(U 11 1),(U 11 2),(U 11 3),(U 11 4)]),(.agg [(U 13 0),(U 13 1),(U 13 2)]),(W 10 0)] [none,none]) (.call ⟨.value (.func 72),#[(.tmp 75),(.tmp 76),(.tmp 77)],#[42,39,3]⟩) 130 false WS
noncomputable def WR:Tr:=.split (.u 32 0) cB (dC.part [false,false,false,true,false,false,false,false,true,false,false])
noncomputable def VT:Tr:=.need (.prim [(W 31 0)] none) (.unOp .not 4 (.tmp 139)) 4 false WR
noncomputable def Wg:Tr:=.need (.call 63 [(W 22 0),(W 26 0)] [none]) (.call ⟨.value (.func 63),#[(.tmp 137),(.tmp 138)],#[118,119]⟩) 4 false VT
noncomputable def TF:Tr:=.split (.u 30 0) cB Wg
noncomputable def WJ:Tr:=.need (.prim [(W 23 0),(WK (0))] none) (.binOp .neq 55 (.tmp 134) (.const (I3 (0))) 55) 4 false TF
noncomputable def RB:Tr:=.split (.u 29 0) WJ (dC.part [false,false,false,true,false,false,false,false,false])
noncomputable def VP:Tr:=.need (.prim [(W 27 0),(WK (0))] none) (.binOp .eql 3 (.tmp 131) (.const (I3 (0))) 3) 4 false RB
noncomputable def an5:Tr:=.split (.u 36 0) cB (dC.part [false,false,false,true,false,false,false,true,false,false,true,false,false])
noncomputable def ab5:Tr:=.need (.prim [(W 35 0)] none) (.unOp .not 4 (.tmp 139)) 4 false an5
noncomputable def af9:Tr:=.need (.call 63 [(W 22 0),(W 26 0)] [none]) (.call ⟨.value (.func 63),#[(.tmp 137),(.tmp 138)],#[118,119]⟩) 4 false ab5
noncomputable def ai8:Tr:=.split (.u 34 0) cB af9
noncomputable def al2:Tr:=.need (.prim [(W 23 0),(WK (0))] none) (.binOp .neq 55 (.tmp 134) (.const (I3 (0))) 55) 4 false ai8
noncomputable def Zr:Tr:=.split (.u 33 0) al2 (dC.part [false,false,false,true,false,false,false,true,false,false,false])
noncomputable def YO:Tr:=.need (.prim [(W 27 0),(WK (0))] none) (.binOp .eql 3 (.tmp 131) (.const (I3 (0))) 3) 4 false Zr
noncomputable def ZL:Tr:=.split (.u 32 0) cB YO
noncomputable def ak3:Tr:=.need (.prim [(W 31 0),(WK (0))] none) (.binOp .neq 3 (.tmp 126) (.const (I3 (0))) 3) 4 false ZL
noncomputable def ao3:Tr:=.need (.prim [(W 22 0)] none) (.call ⟨.builtin .len,#[(.tmp 125)],#[118]⟩) 3 false ak3
noncomputable def ak5:Tr:=.split (.u 30 0) cB ao3
noncomputable def ah3:Tr:=.need (.prim [(W 23 0),(W 29 0)] none) (.binOp .neq 55 (.tmp 120) (.tmp 122) 55) 4 false ak5
noncomputable def af8:Tr:=.need (.call 62 [(W 27 0)] [none]) (.call ⟨.value (.func 62),#[(.tmp 121)],#[3]⟩) 55 false ah3
noncomputable def ac4:Tr:=.split (.u 28 0) af8 VP
noncomputable def aj9:Tr:=.need (.prim [(W 27 0),(WK (0))] none) (.binOp .gtr 3 (.tmp 117) (.const (I3 (0))) 3) 4 false ac4
noncomputable def Yc:Tr:=.need (.call 78 [(.agg [(U 12 0),(U 12 1),(U 12 2),(U 12 3),(U 12 4),(U 12 5)]),(.agg [(U 14 0),(U 14 1),(U 14 2),(U 14 3)]),(W 10 0)] [none,none]) (.call ⟨.value (.func 78),#[(.tmp 111),(.tmp 112),(.tmp 113)],#[52,49,3]⟩) 141 false aj9
def YC:Tr:=cU 22 0 98 118 (aW .eql 3 99 0 30 0 4 (.split (.u 31 0) (aJ 77 [(G6 26),(.agg [(tE (.int .i64 0)),tN,(tE (.int .i64 0)),tN,(tE (.int .i64 0)),tN,(tE (.int .i64 0)),tN])] [none] [103,104] [123,140] 4 false (.split (.u 32 0) (aJ 16 [] [none] [] [] 4 true (.ret [(W 33 0)])) cB)) cB))
def ZT:Tr:=aJ 76 [(G5 11),(G3 13),(G3 15)] [(some 6),none] [85,86,87] [42,39,39] 136 false (aW .eql 55 91 2 23 0 4 (.split (.u 28 0) (aW .eql 55 94 2 27 0 4 (.split (.u 29 0) YC cB)) cB))
noncomputable def ao8:Tr:=.split (.u 25 0) ZT Yc
noncomputable def ZE:Tr:=.need (.prim [(W 24 0)] none) (.unOp .not 4 (.tmp 82)) 4 false ao8
noncomputable def ZS:Tr:=.need (.call 22 [(.agg [(U 12 0),(U 12 1),(U 12 2),(U 12 3),(U 12 4),(U 12 5)])] [none]) (.call ⟨.value (.func 22),#[(.tmp 81)],#[52]⟩) 4 true ZE
noncomputable def Zi:Tr:=.need (.call 72 [(.agg [(U 11 0),(U 11 1),(U 11 2),(U 11 3),(U 11 4)]),(.agg [(U 13 0),(U 13 1),(U 13 2)]),(W 10 0)] [none,none]) (.call ⟨.value (.func 72),#[(.tmp 75),(.tmp 76),(.tmp 77)],#[42,39,3]⟩) 130 false ZS
def aj2:Tr:=aJ 16 [] [none] [] [] 4 true (.ret [(W 22 0)])
noncomputable def XU:Tr:=.split (.u 21 0) aj2 Zi
noncomputable def ad9:Tr:=.need (.prim [(W 20 0)] none) (.unOp .not 4 (.tmp 69)) 4 false XU
noncomputable def ar3:Tr:=.need (.call 75 [(.agg [(U 12 0),(U 12 1),(U 12 2),(U 12 3),(U 12 4),(U 12 5)]),(.agg [(U 14 0),(U 14 1),(U 14 2),(U 14 3)])] [none]) (.call ⟨.value (.func 75),#[(.tmp 67),(.tmp 68)],#[52,49]⟩) 4 false ad9
def ak7:Tr:=aJ 16 [] [none] [] [] 4 true (.ret [(W 20 0)])
noncomputable def aa3:Tr:=.split (.u 19 0) ak7 ar3
noncomputable def aj8:Tr:=.need (.prim [(W 18 0)] none) (.unOp .not 4 (.tmp 64)) 4 false aa3
noncomputable def Zq:Tr:=.need (.call 70 [(.agg [(U 14 0),(U 14 1),(U 14 2),(U 14 3)]),(.agg [(U 12 1),(U 12 2),(U 12 3),(U 12 4)])] [none]) (.call ⟨.value (.func 70),#[(.tmp 61),(.tmp 63)],#[49,49]⟩) 4 false aj8
noncomputable def Zc:Tr:=.split (.u 17 0) Zq VJ
noncomputable def Yb:Tr:=.need (.call 22 [(.agg [(U 12 0),(U 12 1),(U 12 2),(U 12 3),(U 12 4),(U 12 5)])] [none]) (.call ⟨.value (.func 22),#[(.tmp 58)],#[52]⟩) 4 false Zc
noncomputable def al7:Tr:=.need (.call 40 [(.agg [(U 2 0),(U 2 1),(U 2 2)])] [(some 3),(some 4)]) (.call ⟨.value (.func 40),#[(.tmp 54)],#[26]⟩) 82 false Yb
noncomputable def YU:Tr:=.need (.call 40 [(.agg [(U 1 0),(U 1 1),(U 1 2)])] [(some 3),(some 4)]) (.call ⟨.value (.func 40),#[(.tmp 49)],#[26]⟩) 82 false al7
noncomputable def ak4:Tr:=.need (.call 17 [(.agg [(U 0 0),(U 0 1),(U 0 2),(U 0 3),(U 0 4),(U 0 5),(U 0 6),(U 0 7)])] [(some 5),(some 6)]) (.call ⟨.value (.func 17),#[(.tmp 44)],#[29]⟩) 53 false YU
noncomputable def Yi:Tr:=.need (.call 56 [(W 3 0)] [none]) (.call ⟨.value (.func 56),#[(.tmp 41)],#[3]⟩) 3 true ak4
def ag8:Tr:=aJ 16 [] [none] [] [] 4 true (.ret [(W 10 0)])
noncomputable def ao7:Tr:=.split (.u 9 0) ag8 Yi
noncomputable def Zl:Tr:=.need (.prim [(W 8 0)] none) (.unOp .not 4 (.tmp 37)) 4 false ao7
noncomputable def ag0:Tr:=.need (.call 39 [(.agg [(U 2 0),(U 2 1),(U 2 2)])] [none]) (.call ⟨.value (.func 39),#[(.tmp 36)],#[26]⟩) 4 false Zl
def ba7:Tr:=aJ 16 [] [none] [] [] 4 true (.ret [(W 8 0)])
noncomputable def aA9:Tr:=.split (.u 7 0) ba7 ag0
noncomputable def bb4:Tr:=.need (.prim [(W 6 0)] none) (.unOp .not 4 (.tmp 32)) 4 false aA9
noncomputable def bd7:Tr:=.need (.call 39 [(.agg [(U 1 0),(U 1 1),(U 1 2)])] [none]) (.call ⟨.value (.func 39),#[(.tmp 31)],#[26]⟩) 4 false bb4
def aD1:Tr:=aJ 16 [] [none] [] [] 4 true (.ret [(W 6 0)])
noncomputable def aH1:Tr:=.split (.u 5 0) aD1 bd7
noncomputable def az5:Tr:=.need (.prim [(W 4 0)] none) (.unOp .not 4 (.tmp 28)) 4 false aH1
noncomputable def aL8:Tr:=.need (.call 15 [(.agg [(U 0 0),(U 0 1),(U 0 2),(U 0 3),(U 0 4),(U 0 5),(U 0 6),(U 0 7)])] [none]) (.call ⟨.value (.func 15),#[(.tmp 27)],#[29]⟩) 4 false az5
theorem AH:dC.part [false,false,false,true,false,false,false,true,false,false,false]=(HD).iV (aF [11,13,15,16] 34):=by kernel_rfl
theorem Bh:dC.part [false,false,false,true,false,false,false,false,true,false,false]=(HD).iV (aF [11,13,15,16] 33):=by kernel_rfl
theorem HJ:aL prog f11 (fun _=>none) [.v (some 8), .v (some 3), .v (some 3), .v none]=aL8:=by kernel_rfl
open Go Go.Proofs Tryz Ord
theorem Ua (k:Int):GZ k≤256:=by unfold GZ;split<;>omega
theorem ar5:aE.Sub (.agg [.int .i64 0, .exact (.slice none 0 0), .int .i64 0, .exact (.slice none 0 0), .int .i64 0, .exact (.slice none 0 0), .int .i64 0, .exact (.slice none 0 0)]) (tR .nil .nil):=⟨eI.1,eI.2.1,eI.2.2.1,eI.2.2.2.1,eI.1,eI.2.1,eI.2.2.1,eI.2.2.2.1,trivial⟩
theorem Gr:aM prog 77 [Cc 0 0,tR .nil .nil] (.ret [.one (.bool true)]):=by
 have h:=Bo 0 0 .nil .nil 1 (Fit.zero (by omega)) (Fit.zero (by omega)) (Fit.zero (by omega)) (Fit.zero (by omega))
 rwa [decide_eq_true (show (0:Rat)=RQ.nil.q∧(0:Rat)=RQ.nil.q from ⟨rfl,rfl⟩)] at h
abbrev Rp (Y:List Rat):VS:=Y.map fun y=>(y,y)
section
variable {c:bQ}
theorem Qh (hC:nJ c) (hok:okF c.E c.X c.Y=true) {x:Rat} (hx:oB x) (re:∀ aF st,cY (bH c.E c.X) (c.E.length-1) (aQ c.E c.X)=some (aF,st)→st≤24∧(x-c.X).abs*2≤aF):uO c.E c.X x (Rp c.Y):=by
 obtain ⟨_,_,hyl,_,_⟩:=oI hok;refine ⟨NV hok,hx,by rw [aP];exact hyl,fun p hp=>?_,re⟩;obtain ⟨y,hy,rfl⟩:=gJ.1 hp;exact ⟨hC.yf y hy,hC.yf y hy⟩
theorem BQ (hC:nJ c) (hok:okF c.E c.X c.Y=true) {x:Rat} {k:Int} (hk:k≤256) (N:uO c.E c.X x (Rp c.Y)):aM prog 234 [fT c.E c.X c.Y,qT x, .one (.int .i64 k)] (Xo (gZ c.E x k 64 c.X (Rp c.Y))):=by
 obtain ⟨l2,l5,hyl,_,_⟩:=oI hok;exact Rs c.E c.X c.Y x k 12000000 50000000 _ (N.way hC.toSmallX hk) hk l2 l5 (N.xb.fit.mono (by omega)) (by have:=hC.yl;omega) (.inl ⟨rfl,rfl,rfl⟩)
theorem BF (hC:nJ c) {x:Rat} {k:Int} (N:uO c.E c.X x (Rp c.Y)) {w:VS} (h:gZ c.E x k 64 c.X (Rp c.Y)=some w) (hk:k≤256:=by omega):w.length=c.E.length-1∧∀ p∈w,Fit 50000000 p.1∧Fit 50000000 p.2:=by
 have P:=N.way hC.toSmallX hk;obtain ⟨g,c',hI⟩:=UX P 64 _ _ (.inl ⟨rfl,rfl,rfl⟩) h;exact (P.few g c' w hI).2
theorem Kn (hC:nJ c) (hok:okF c.E c.X c.Y=true):aM prog 21 [fT c.E c.X c.Y] (.ret [.one (.int .i64 0)]):=by
 have h:=CS c.E c.X c.Y hC.e1 hC.xf (by have:=hC.yl;omega)
 rwa [if_pos hok] at h
theorem Gd (hC:nJ c) (hok:okF c.E c.X c.Y=false):aM prog 21 [fT c.E c.X c.Y] (.ret [.one (.int .i64 2)]):=by
 have h:=CS c.E c.X c.Y hC.e1 hC.xf (by have:=hC.yl;omega)
 rwa [if_neg (by rw [hok];decide)] at h
theorem Fe (hC:nJ c) (hok:okF c.E c.X c.Y=true) (x:RQ) (hx:Fit 1024 x.q):∃ b:Bool,aM prog 75 [fR c.ER c.XR c.YR,fO x] (.ret [.one (.bool b)])∧(b=true→∀ aF st,cY (bH c.E c.X) (c.E.length-1) (aQ c.E c.X)=some (aF,st)→st≤24∧(x.q-c.X).abs*2≤aF):=by
 have hr:=NV hok;obtain ⟨l2,_,_,_⟩:=hr.facts;obtain ⟨rv,hv⟩:∃ rv,cY (bH c.E c.X) (c.E.length-1) (aQ c.E c.X)=rv:=⟨_,rfl⟩
 rcases rv with _ | ⟨aF,st⟩
 ·exact ⟨true,JB c.E c.ER c.X c.XR c.YR x hC.toSmallX hr hv,fun _ aF st h=>by rw [hv] at h;cases h⟩
 ·obtain ⟨hh,hh62,hrho,_,hW⟩:=gA hv;have hrf:Fit 2097152 aF:=by rw [hrho];exact (hJ Kh.t hh62 (n:=1) (d:=0) (by omega) (by omega) (bC _)).o1
  refine ⟨_,Jn c.E c.ER c.X c.XR c.YR x hC.toSmallX hr aF st hv hx hrf,fun hb rho' st' h=>?_⟩;rw [hv] at h;simp only [aO,Prod.mk.injEq] at h;obtain ⟨rfl,rfl⟩:=h;rw [Bool.and_eq_true,decide_eq_true_iff,decide_eq_true_iff,jP] at hb;refine ⟨by omega,?_⟩
  have e:((x.q-c.X)*((2:Int):Rat)).abs=(x.q-c.X).abs*2:=by
   rw [show ((2:Int):Rat)=2 by decide +kernel];unfold Rat.abs;split<;>split<;>grind
  rw [←e];exact hb.2
end
set_option maxHeartbeats 4000000 in
theorem wM (c:bQ) (hC:nJ c) (hok:okF c.E c.X c.Y=true) (x:Rat) (N:uO c.E c.X x (Rp c.Y)) (y:bX) (hy:y.In):vc prog (fun o=>jM o (.ret [.one (.bool true)])) HD [fT c.E c.X c.Y,qT x,qT y.v,fO (.of y.v)] []:=by
 have hyf:=hy.aT9;have hck:=Kn hC hok;have hlen:=(oI hok).1;obtain ⟨v,hv⟩:∃ v,gZ c.E x 16 64 c.X (Rp c.Y)=v:=⟨_,rfl⟩
 have hval:=BQ hC hok (k:=16) (by omega) N;rw [hv] at hval;apply aA (yC (.of y.v)) rfl;rw [RQ.mS];apply vn dH rfl;refine vs _ rfl ?_ ?_<;>intro h73
 ·apply aA (EM 1 1000) rfl;dsimp only [aD,aC];apply aA (sJ (.of y.v) (.of (((1:Int):Rat)/((1000:Int):Rat))) 1024 1024 (hyf.mono (by omega)) (by rw [RQ.mS];decide +kernel)) rfl;apply vn aZ rfl;refine vs _ rfl ?_ ?_<;>intro h77
  ·apply aA iH rfl;exact aK rfl
  apply aA (yC (.of y.v)) rfl;rw [RQ.mS];dsimp only [aD,aC];apply vn eW rfl;refine vs _ rfl (fun h=>absurd h (by omega)) (fun h82=>?_);have hw0:¬ y.v≤0:=fun h=>h82 (Iz.2 h);apply aA (wJ c.E c.X c.Y x 16 v hck hval) rfl;dsimp only [aD,aC];rcases v with _ | w
  ·apply vn gD rfl;dsimp only [aD,aC,evV];refine vs _ rfl (fun _=>?_) (fun h=>absurd (by decide) h);apply aA iH rfl;exact aK rfl
  obtain ⟨hwl,hwf⟩:=BF hC N hv;rw [show evV (some w)=(w,0) from rfl];dsimp only
  obtain ⟨⟨a,b⟩,R,rfl⟩:∃ p R,w=p::R:=by
   cases w with
   | nil=>rw [List.length_nil] at hwl;omega
   | cons p R=>exact ⟨p,R,rfl⟩
  obtain ⟨fa,fb⟩:=hwf (a,b) List.mem_cons_self;apply vn gD rfl;refine vs _ rfl (fun h=>absurd rfl h) (fun _=>?_);apply vn (aU tL (aP _)) rfl;apply vn bK rfl;dsimp only [aD,aC];refine vs _ rfl (fun h=>absurd h (by rw [List.length_cons];omega)) (fun _=>?_);apply vn (aV tL (show ((a,b)::R)[0]? = some (a,b) from rfl) rfl) rfl;apply vn (bJ Gz (by decide) (by simp) (.inl rfl)) rfl;apply aA (KB a b 50000000 50000000 fa fb) rfl;dsimp only [aD,aC];apply aA (tY (b-a) y.v (50000000+50000000+1) 1024 (fb.sub fa) (hyf.mono (by omega))) rfl;apply vn dH rfl;refine vs _ rfl ?_ ?_<;>intro h106
  ·apply aA iH rfl;exact aK rfl
  have hle:b-a≤y.v:=jP.1 (by omega);apply aA (No c.E c.X c.Y x y.v a b R 50000000 hck hw0 hval fa fb (hyf.mono (by omega)) hle) rfl;dsimp only [aD,aC];apply vn bK rfl;refine mH true rfl (fun _=>?_) (fun h=>by cases h);apply aA (NT a b 50000000 fa fb) rfl;dsimp only [aD,aC];apply vn (aV tL (show ((a,b)::R)[0]? = some (a,b) from rfl) rfl) rfl;apply vn (bJ Gz (by decide) (by simp) (.inl rfl)) rfl;apply aA (NT a b 50000000 fa fb) rfl;dsimp only [aD,aC];apply vn AO rfl;refine vs _ rfl (fun _=>?_) (fun h=>absurd rfl h);apply aA iH rfl;exact aK rfl
 apply aA (yC (.of y.v)) rfl;rw [RQ.mS];apply vn eW rfl;dsimp only [aD,aC];refine vs _ rfl (fun h124=>?_) (fun h=>absurd (by omega) h);apply aA (LL c.E c.X c.Y x y.v hck (Iz.1 h124)) rfl;apply vn bK rfl;refine mH true rfl (fun _=>?_) (fun h=>by cases h);refine Bb (show aN _ [Cc 0 0,tR .nil .nil] from ⟨aE.Sub.same,ar5,trivial⟩) Gr rfl ?_;dsimp only [aD,aC];refine mH true rfl (fun _=>?_) (fun h=>by cases h);apply aA iH rfl;exact aK rfl
open Go Go.Proofs Tryz Ord
section
variable {c:bQ}
def Wh (c:bQ) (x:Rat) (k:Int):Option VR:=if c.XR.q=x then some (c.YR.map fun y=>(y,y)) else (gZ c.E x k 64 c.X (Rp c.Y)).map SS
theorem Vj (hC:nJ c) (hok:okF c.E c.X c.Y=true) (x:RQ) {k:Int} (hk:k≤256) (N:uO c.E c.X x.q (Rp c.Y)):aM prog 78 [fR c.ER c.XR c.YR,fO x, .one (.int .i64 k)] (.ret (VQ (Wh c x.q k))):=by
 obtain ⟨l2,l5,hyl,_,_⟩:=oI hok;have hy:(c.YR.map RQ.q).map (fun y=>(y,y))=Rp c.Y:=by rw [hC.y]
 have hX:=hC.x;have h:=Jr c.E c.ER c.XR c.YR x k 12000000 50000000 _ (N.bC9 hC.toSmallX hk) hk l2 l5 (N.xb.fit.mono (by omega)) (by have:=congrArg List.length hC.y;rw [aP] at this;have:=hC.yl;omega) (.inl ⟨rfl,rfl,hy⟩) _ rfl _ rfl (fun e=>by rw [e,rH,Cx]);rw [hy,hX] at h;unfold Wh;rw [hX];exact h
theorem PH (hC:nJ c) (x:Rat) (k:Int):(Wh c x k).map vQ=gZ c.E x k 64 c.X (Rp c.Y):=by
 unfold Wh;rw [hC.x];split
 ·rename_i h;rw [h,rH,Option.map_some,Cx,hC.y]
 ·cases gZ c.E x k 64 c.X (Rp c.Y) with
  | none=>rfl
  | some v=>rw [Option.map_some,Option.map_some,HS]
def rS (r:Option VR):List (List aG):=match r with | some w=>XB w | none=>[]
def rE (r:Option VR):Int:=match r with | some _=>0 | none=>1
theorem Xk (r:Option VR):VQ r = [.one (.slice 8 (rS r)), .one (.int .i64 (rE r))]:=by cases r<;>rfl
theorem Nj (w:VR) (h:∀ p∈vQ w,Fit 50000000 p.1∧Fit 50000000 p.2) (hl:w.length<1099511627776):aM prog 63 [.one (.slice 6 (vS (vQ w))), .one (.slice 8 (XB w))] (.ret [.one (.bool true)]):=by
 have hd:=Xl w 50000000 (fun p hp=>h _ (List.mem_map_of_mem (f:=fun p:RQ×RQ=>(p.1.q,p.2.q)) hp)) hl;rw [vS,vQ,List.map_map];exact hd
end
set_option maxHeartbeats 4000000 in
theorem Iq (c:bQ) (h:c.In) (x:bX) (hx:x.In) (y:bX) (hy:y.In) (k:Int):aM prog 11 [(caT c:aE),(nT x:aE),(nT y:aE),(.one (.int .i64 k):aE)] (.ret [.one (.bool true)]):=by
 refine bZ func11 HJ ?_;have hS:=Xm c h;have hB:=fun hs=>af0 c h hs;apply aA hS rfl;apply vn kW rfl;refine mH (!c.small) rfl (fun h2=>?_) (fun h2=>?_)
 ·apply aA iH rfl;exact aK rfl
 have hs0:c.small=true:=by cases hh:c.small<;>simp_all
 have hC:=MS h hs0;apply aA (zU x hx) rfl;dsimp only [aD,aC];apply vn kW rfl;refine mH (!x.short) rfl (fun h7=>?_) (fun h7=>?_)
 ·apply aA iH rfl;exact aK rfl
 have hxs:x.short=true:=by cases hh:x.short<;>simp_all
 apply aA (zU y hy) rfl;apply vn kW rfl;dsimp only [aD,aC];refine mH (!y.short) rfl (fun h12=>?_) (fun h12=>?_)
 ·apply aA iH rfl;exact aK rfl
 have hxb:=bX.few hxs;have hxf:Fit 1024 x.v:=hxb.fit.mono (by omega);obtain ⟨g,hg⟩:∃ g,g=GZ k:=⟨_,rfl⟩
 have hg2:g≤256:=by rw [hg];exact Ua k
 apply aA (Yv k) rfl;rw [←hg];apply aA (hB hs0) rfl;apply aA (Ck x hx) rfl;dsimp only [aD,aC];apply aA (Ck y hy) rfl;apply aA (uB hC) rfl;refine mH (okF c.E c.X c.Y) rfl (fun hok=>?_) (fun hok=>?_)
 ·apply aA (Zo (.of x.v) c.XR hxf (by rw [hC.x];exact hC.xb.fit.mono (by omega))) rfl;dsimp only [aD,aC];apply vn kW rfl;refine mH (!Ot (.of x.v) c.XR) rfl (fun h23=>?_) (fun h23=>?_)
  ·apply aA iH rfl;exact aK rfl
  obtain ⟨b,hb,hbt⟩:=Fe hC hok (.of x.v) hxf;apply aA hb rfl;apply vn kW rfl;dsimp only [aD,aC];refine mH (!b) rfl (fun h28=>?_) (fun h28=>?_)
  ·apply aA iH rfl;exact aK rfl
  have hbt1:b=true:=by cases b<;>simp_all
  have N:=Qh hC hok hxb (hbt hbt1);obtain ⟨v,hv⟩:∃ v,gZ c.E x.v g 64 c.X (Rp c.Y)=v:=⟨_,rfl⟩
  obtain ⟨r,hr⟩:∃ r,Wh c x.v g=r:=⟨_,rfl⟩
  have hval:=BQ hC hok hg2 N;have href:=Vj hC hok (.of x.v) hg2 N;have hal:=PH hC x.v g;rw [RQ.mS,hr] at href;rw [hv] at hval hal;rw [hr] at hal;apply aA (wJ c.E c.X c.Y x.v g v (Kn hC hok) hval) rfl;apply aA (uB hC) rfl;rw [hok];apply vn kW rfl;dsimp only [aD,aC];refine mH false rfl (fun h=>by cases h) (fun _=>?_);rw [Xk] at href;apply aA href rfl;apply vn dH rfl;refine vs _ rfl ?_ ?_<;>intro h53
  ·obtain rfl:r=none:=by
    cases r with
    | none=>rfl
    | some w=>exact absurd h53 (by show ¬ (0:Int)<0;omega)
   obtain rfl:v=none:=hal.symm;apply aA aC9 rfl;dsimp only [aD,aC];apply vn gD rfl;refine vs _ rfl ?_ ?_<;>intro h56
   ·exact absurd rfl h56
   apply vn (aU tL (aP _)) rfl;apply vn gD rfl;dsimp only [aD,aC];refine vs _ rfl ?_ ?_<;>intro h60
   ·exact absurd rfl h60
   apply vn bK rfl;refine vs _ rfl ?_ ?_<;>intro h63
   ·exact absurd h63 (by decide)
   rw [AH];exact NC (Rn.of rfl rfl rfl) (wM c hC hok x.v N y hy)
  obtain ⟨w,rfl⟩:∃ w,r=some w:=by
   cases r with
   | none=>exact absurd (show (0:Int)<1 by omega) h53
   | some w=>exact ⟨w,rfl⟩
  obtain rfl:v=some (vQ w):=hal.symm;obtain ⟨hwl,hwf⟩:=BF hC N hv hg2;apply vn bK rfl;refine vs _ rfl ?_ ?_<;>intro h258
  ·apply vn gD rfl;dsimp only [aD,aC];refine vs _ rfl ?_ ?_<;>intro h260
   ·exact absurd rfl h260
   apply aA (Nj w hwf (by rw [aP] at hwl;have:=(oI hok).2.1;omega)) rfl;apply vn kW rfl;refine mH false rfl (fun h=>by cases h) (fun _=>?_);rw [Bh];exact NC (Rn.of rfl rfl rfl) (wM c hC hok x.v N y hy)
  generalize dC.part [false,false,false,true,false,false,false,false,false]=tt;exact absurd rfl h258
 apply aA (Fb c.E c.X c.Y x.v g (Gd hC hok)) rfl;dsimp only [aD,aC];apply aA (uB hC) rfl;rw [hok];apply vn kW rfl;refine mH true rfl (fun _=>?_) (fun h=>by cases h);apply aA (MB c.E c.X c.Y x.v y.v (Gd hC hok)) rfl;dsimp only [aD,aC];apply vn bK rfl;refine mH true rfl (fun _=>?_) (fun h=>by cases h);apply vn bK rfl;refine mH true rfl (fun _=>?_) (fun h=>by cases h);apply vn (aU tL (aP _)) rfl;dsimp only [aD,aC];apply vn bK rfl;refine vs _ rfl (fun _=>?_) (fun h=>absurd rfl h);refine Bb (show aN _ [Cc 0 0,tR .nil .nil] from ⟨aE.Sub.same,ar5,trivial⟩) Gr rfl ?_;refine mH true rfl (fun _=>?_) (fun h=>by cases h);apply aA iH rfl;exact aK rfl
end Go.Sy
