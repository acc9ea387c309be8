/- Part. -/
import Derived.Test.YtpaidpkaechleaaGreatDoorWa
import Derived.Sort.LoopGhostIn
set_option linter.all false
namespace Go.Sy
open Go Go.Proofs Tryz Ord
def Oo:Tr:=.ret [(WK 0),(tF false)]
def Ws:Tr:=mB 0 0 12 0 24 40 41 (mN 16 0 none 167 42 (.need (.prim [(W 17 0)] none) (.convert 167 2 (tT 43)) 2 false (bG .mul 2 36 44 15 0 18 0 2 (bG .add 2 33 45 14 0 19 0 2 (aO .sub 3 30 1 12 0 3 (.back 0 [lV 20 0,lV 21 0]))))))
def WN:Tr:=dH 0 0 25 24 (aO .sub 3 26 1 9 0 3 (.loop 0 [lK 0,lV 10 0] (aO .geq 3 28 0 12 0 4 (.split (.u 13 0) (aO .mul 2 32 1000000000 11 0 2 (aC 73 [(G2 0)] [none] [35] [28] 3 false Ws)) (.ret [(W 11 0),(tF true)])))))
def aj0:Tr:=aC 68 [(G3 0),(G3 3)] [none] [11,12] [30,30] 3 false (aO .lss 3 13 0 4 0 4 (.split (.u 5 0) Oo (.need (.call 22 [(WK 9223372036854775807)] [(some 3)]) (.call ⟨.value (.func 22),#[(.const (I3 9223372036854775807))],#[2]⟩) 30 false (aC 68 [(G3 0),(G3 6)] [none] [17,18] [30,30] 3 false (aO .gtr 3 19 0 7 0 4 (.split (.u 8 0) Oo WN))))))
def ao0:Tr:=aC 90 [(.agg [(U 0 2)])] [none] [7] [26] 4 false (.need (.prim [(W 1 0)] none) (.unOp .not 4 (tT 8)) 4 false (.split (.u 2 0) Oo (.need (.call 22 [(WK (-9223372036854775808))] [(some 3)]) (.call ⟨.value (.func 22),#[(.const (I3 (-9223372036854775808)))],#[2]⟩) 30 false aj0)))
theorem Rp:aK prog f127 (fun _=>none) [.v (some 3)]=ao0:=by kernel_rfl
theorem LR (z:Nat) (h0:0<z:=by omega) (hz:z<1000000000:=by omega):aL prog 127 [(qT ((z:Int):Rat):aI)] (.ret [.one (.int .i64 (z:Int)), .one (.bool true)]):=by
 refine bV func127 Rp ?_;have hzf:Fit 64 ((z:Int):Rat):=nH;have hdg:dg z = [z]:=kS h0 hz;apply aA (kL (((z:Int):Rat).den-1)) rfl;rw [show decide (((z:Int):Rat).den-1=0)=true from rfl];apply vn DI rfl;refine cC false rfl (fun h=>by cases h) (fun _=>?_);apply aA (dU (-9223372036854775808)) rfl;apply aA (cX ((z:Int):Rat) ((-9223372036854775808:Int):Rat) 64 64 hzf (Fit.int (by omega) (by decide))) rfl;dsimp only [aG,aH];apply vn bA rfl;refine vs _ rfl ?_ ?_<;>intro h7
 ·exact absurd (Rat.intCast_lt_intCast.1 (IP.1 h7)) (by omega)
 apply aA (dU 9223372036854775807) rfl;apply aA (cX ((z:Int):Rat) ((9223372036854775807:Int):Rat) 64 64 hzf (Fit.int (by omega) (by decide))) rfl;apply vn cB rfl;dsimp only [aG,aH];refine vs _ rfl ?_ ?_<;>intro h12
 ·exact absurd (Rat.intCast_lt_intCast.1 (oF.1 h12)) (by omega)
 apply vn (aW cM (show (rT (dg ((z:Int):Rat).num.natAbs)).length=1 by rw [show ((z:Int):Rat).num.natAbs=z from rfl,hdg];rfl)) rfl;apply vn (aQ) rfl;refine bD {p:Int×Int // p=(0,0)∨p=((z:Int),-1)} (fun g=>[.one (.int .i64 g.1.1), .one (.int .i64 g.1.2)]) (fun g=>(g.1.2+1).toNat) ⟨(0,0), .inl rfl⟩ aR.rfl (fun _=>rfl) ?_;rintro ⟨⟨acc,i⟩,hp⟩;dsimp only [aG,aH] at hp ⊢;apply vn eY rfl;refine vs _ rfl ?_ ?_<;>intro h18
 ·have hi:acc=0∧i=0:=by
   rcases hp with e | e<;>obtain ⟨rfl,rfl⟩:=Prod.mk.inj e
   ·exact ⟨rfl,rfl⟩
   ·omega
  obtain ⟨rfl,rfl⟩:=hi;apply vn (bR) rfl;apply aA (PC (z:Int)) rfl;rw [Int.sign_eq_one_of_pos (by omega)];dsimp only [aG,aH];apply vn (OT cM (show (rT (dg z))[(0:Int).toNat]? = some [.int .u32 (z:Int)] by rw [hdg];rfl)) rfl;apply vn (cV nE) rfl;apply vn (fC ⟨_,fD⟩ SH (c:=(z:Int)) (by rw [IntKind.wrap_i64];omega)) rfl;apply vn (bR) rfl;dsimp only [aG,aH];apply vn (aD) rfl;apply vn (aQ) rfl
  exact aX rfl ⟨⟨((z:Int),-1), .inr rfl⟩,(by
   dsimp only;rw [show (0:Int)*1000000000+1*(z:Int)=(z:Int) by omega];exact aR.rfl),by show ((-1:Int)+1).toNat<((0:Int)+1).toNat;decide⟩
 have hi:acc=(z:Int):=by
  rcases hp with e | e<;>obtain ⟨rfl,rfl⟩:=Prod.mk.inj e
  ·omega
  ·rfl
 rw [hi];exact aJ rfl
open Go Go.Proofs Tryz Ord
def Ku:Tr:=.ret [(WK 2)]
def oM:Tr:=.ret [(WK 11)]
def kG:Tr:=.ret [(WK 3)]
def fI:Tr:=.ret [(WK 0)]
def OY:Tr:=aO .gtr 3 49 0 15 0 4 (.split (.u 16 0) kG fI)
def Pk:Tr:=aC 70 [(G3 1)] [(some 3)] [46] [30] 30 false (aC 68 [(G3 14),(G3 4)] [none] [47,48] [30,30] 3 false OY)
def Pf:Tr:=aO .gtr 3 49 0 16 0 4 (.split (.u 17 0) kG fI)
def Xd:Tr:=.split (.u 14 0) (aC 70 [(G3 1)] [(some 3)] [46] [30] 30 false (aC 68 [(G3 15),(G3 4)] [none] [47,48] [30,30] 3 false Pf)) (.need (.prim [(W 0 0),(.one (.c (.k (.int .u8 4))))] none) (.binOp .eql 5 (tT 42) (.const (.int .u8 4)) 5) 4 false (.split (.u 15 0) (aC 70 [(G3 1)] [(some 3)] [46] [30] 30 false (aC 68 [(G3 16),(G3 4)] [none] [47,48] [30,30] 3 false (aO .gtr 3 49 0 17 0 4 (.split (.u 18 0) kG fI)))) fI))
def OG:Tr:=aO .gtr 3 49 0 13 0 4 (.split (.u 14 0) kG fI)
def OB:Tr:=aC 70 [(G3 1)] [(some 3)] [46] [30] 30 false (aC 68 [(G3 12),(G3 4)] [none] [47,48] [30,30] 3 false OG)
def Pt:Tr:=aO .gtr 3 49 0 14 0 4 (.split (.u 15 0) kG fI)
def PM:Tr:=.need (.prim [(W 0 0),(.one (.c (.k (.int .u8 1))))] none) (.binOp .eql 5 (tT 35) (.const (.int .u8 1)) 5) 4 false (.split (.u 11 0) OB (.need (.prim [(W 0 0),(.one (.c (.k (.int .u8 3))))] none) (.binOp .eql 5 (tT 38) (.const (.int .u8 3)) 5) 4 false (.split (.u 12 0) (aC 70 [(G3 1)] [(some 3)] [46] [30] 30 false (aC 68 [(G3 13),(G3 4)] [none] [47,48] [30,30] 3 false Pt)) (.need (.prim [(W 0 0),(.one (.c (.k (.int .u8 4))))] none) (.binOp .eql 5 (tT 42) (.const (.int .u8 4)) 5) 4 false (.split (.u 13 0) Pk fI)))))
def VM:Tr:=.split (.u 10 0) (aC 17 [(G3 1)] [none] [29] [30] 3 false (aO .lss 3 30 0 11 0 4 (.split (.u 12 0) oM (.need (.prim [(W 0 0),(.one (.c (.k (.int .u8 1))))] none) (.binOp .eql 5 (tT 35) (.const (.int .u8 1)) 5) 4 false (.split (.u 13 0) Pk (.need (.prim [(W 0 0),(.one (.c (.k (.int .u8 3))))] none) (.binOp .eql 5 (tT 38) (.const (.int .u8 3)) 5) 4 false Xd)))))) PM
def Mn:Tr:=aO .gtr 3 49 0 11 0 4 (.split (.u 12 0) kG fI)
def LG:Tr:=aO .gtr 3 49 0 12 0 4 (.split (.u 13 0) kG fI)
def VR:Tr:=.split (.u 8 0) (aC 17 [(G3 1)] [none] [29] [30] 3 false (aO .lss 3 30 0 9 0 4 (.split (.u 10 0) oM PM))) (.need (.prim [(W 0 0),(.one (.c (.k (.int .u8 1))))] none) (.binOp .eql 5 (tT 35) (.const (.int .u8 1)) 5) 4 false (.split (.u 9 0) (aC 70 [(G3 1)] [(some 3)] [46] [30] 30 false (aC 68 [(G3 10),(G3 4)] [none] [47,48] [30,30] 3 false Mn)) (.need (.prim [(W 0 0),(.one (.c (.k (.int .u8 3))))] none) (.binOp .eql 5 (tT 38) (.const (.int .u8 3)) 5) 4 false (.split (.u 10 0) (aC 70 [(G3 1)] [(some 3)] [46] [30] 30 false (aC 68 [(G3 11),(G3 4)] [none] [47,48] [30,30] 3 false LG)) (.need (.prim [(W 0 0),(.one (.c (.k (.int .u8 4))))] none) (.binOp .eql 5 (tT 42) (.const (.int .u8 4)) 5) 4 false (.split (.u 11 0) OB fI))))))
def aj9:Tr:=.split (.u 6 0) Ku (.need (.prim [(W 0 0),(.one (.c (.k (.int .u8 2))))] none) (.binOp .eql 5 (tT 18) (.const (.int .u8 2)) 5) 4 false (.split (.u 7 0) (aC 17 [(G3 1)] [none] [21] [30] 3 false (aO .leq 3 22 0 8 0 4 (.split (.u 9 0) oM (.need (.prim [(W 0 0),(.one (.c (.k (.int .u8 6))))] none) (.binOp .eql 5 (tT 26) (.const (.int .u8 6)) 5) 4 false VM)))) (.need (.prim [(W 0 0),(.one (.c (.k (.int .u8 6))))] none) (.binOp .eql 5 (tT 26) (.const (.int .u8 6)) 5) 4 false VR)))
def LH:Tr:=aC 70 [(G3 1)] [(some 3)] [46] [30] 30 false (aC 68 [(G3 13),(G3 2)] [none] [47,48] [30,30] 3 false Pt)
def RB:Tr:=.split (.u 12 0) LH (.need (.prim [(W 0 0),(.one (.c (.k (.int .u8 3))))] none) (.binOp .eql 5 (tT 38) (.const (.int .u8 3)) 5) 4 false (.split (.u 13 0) (aC 70 [(G3 1)] [(some 3)] [46] [30] 30 false (aC 68 [(G3 14),(G3 2)] [none] [47,48] [30,30] 3 false OY)) (.need (.prim [(W 0 0),(.one (.c (.k (.int .u8 4))))] none) (.binOp .eql 5 (tT 42) (.const (.int .u8 4)) 5) 4 false (.split (.u 14 0) (aC 70 [(G3 1)] [(some 3)] [46] [30] 30 false (aC 68 [(G3 15),(G3 2)] [none] [47,48] [30,30] 3 false Pf)) fI))))
def Mp:Tr:=aC 70 [(G3 1)] [(some 3)] [46] [30] 30 false (aC 68 [(G3 11),(G3 2)] [none] [47,48] [30,30] 3 false LG)
def MG:Tr:=.need (.prim [(W 0 0),(.one (.c (.k (.int .u8 1))))] none) (.binOp .eql 5 (tT 35) (.const (.int .u8 1)) 5) 4 false (.split (.u 10 0) Mp (.need (.prim [(W 0 0),(.one (.c (.k (.int .u8 3))))] none) (.binOp .eql 5 (tT 38) (.const (.int .u8 3)) 5) 4 false (.split (.u 11 0) (aC 70 [(G3 1)] [(some 3)] [46] [30] 30 false (aC 68 [(G3 12),(G3 2)] [none] [47,48] [30,30] 3 false OG)) (.need (.prim [(W 0 0),(.one (.c (.k (.int .u8 4))))] none) (.binOp .eql 5 (tT 42) (.const (.int .u8 4)) 5) 4 false (.split (.u 12 0) LH fI)))))
def Sl:Tr:=.split (.u 8 0) oM (.need (.prim [(W 0 0),(.one (.c (.k (.int .u8 6))))] none) (.binOp .eql 5 (tT 26) (.const (.int .u8 6)) 5) 4 false (.split (.u 9 0) (aC 17 [(G3 1)] [none] [29] [30] 3 false (aO .lss 3 30 0 10 0 4 (.split (.u 11 0) oM (.need (.prim [(W 0 0),(.one (.c (.k (.int .u8 1))))] none) (.binOp .eql 5 (tT 35) (.const (.int .u8 1)) 5) 4 false RB)))) MG))
def SS:Tr:=.split (.u 7 0) (aC 17 [(G3 1)] [none] [29] [30] 3 false (aO .lss 3 30 0 8 0 4 (.split (.u 9 0) oM MG))) (.need (.prim [(W 0 0),(.one (.c (.k (.int .u8 1))))] none) (.binOp .eql 5 (tT 35) (.const (.int .u8 1)) 5) 4 false (.split (.u 8 0) (aC 70 [(G3 1)] [(some 3)] [46] [30] 30 false (aC 68 [(G3 9),(G3 2)] [none] [47,48] [30,30] 3 false (aO .gtr 3 49 0 10 0 4 (.split (.u 11 0) kG fI)))) (.need (.prim [(W 0 0),(.one (.c (.k (.int .u8 3))))] none) (.binOp .eql 5 (tT 38) (.const (.int .u8 3)) 5) 4 false (.split (.u 9 0) (aC 70 [(G3 1)] [(some 3)] [46] [30] 30 false (aC 68 [(G3 10),(G3 2)] [none] [47,48] [30,30] 3 false Mn)) (.need (.prim [(W 0 0),(.one (.c (.k (.int .u8 4))))] none) (.binOp .eql 5 (tT 42) (.const (.int .u8 4)) 5) 4 false (.split (.u 10 0) Mp fI))))))
def RG:Tr:=.split (.u 4 0) Ku (.need (.prim [(W 0 0),(.one (.c (.k (.int .u8 6))))] none) (.binOp .gtr 5 (tT 14) (.const (.int .u8 6)) 5) 4 false (.split (.u 5 0) Ku (.need (.prim [(W 0 0),(.one (.c (.k (.int .u8 2))))] none) (.binOp .eql 5 (tT 18) (.const (.int .u8 2)) 5) 4 false (.split (.u 6 0) (aC 17 [(G3 1)] [none] [21] [30] 3 false (aO .leq 3 22 0 7 0 4 Sl)) (.need (.prim [(W 0 0),(.one (.c (.k (.int .u8 6))))] none) (.binOp .eql 5 (tT 26) (.const (.int .u8 6)) 5) 4 false SS)))))
def Zy:Tr:=.need (.call 22 [(WK 1000)] [(some 3)]) (.call ⟨.value (.func 22),#[(.const (I3 1000))],#[2]⟩) 30 true (.need (.prim [(W 0 0),(.one (.c (.k (.int .u8 1))))] none) (.binOp .eql 5 (tT 7) (.const (.int .u8 1)) 5) 4 false (.split (.u 3 0) (.need (.call 22 [(WK 64)] [(some 3)]) (.call ⟨.value (.func 22),#[(.const (I3 64))],#[2]⟩) 30 true (.need (.prim [(W 0 0),(.one (.c (.k (.int .u8 1))))] none) (.binOp .lss 5 (tT 11) (.const (.int .u8 1)) 5) 4 false (.split (.u 5 0) Ku (.need (.prim [(W 0 0),(.one (.c (.k (.int .u8 6))))] none) (.binOp .gtr 5 (tT 14) (.const (.int .u8 6)) 5) 4 false aj9)))) (.need (.prim [(W 0 0),(.one (.c (.k (.int .u8 1))))] none) (.binOp .lss 5 (tT 11) (.const (.int .u8 1)) 5) 4 false RG)))
theorem qM:aK prog f81 (fun _=>none) [.v none, .v (some 3)]=Zy:=by kernel_rfl
def PS:Tr:=.ret [(.agg [tN,(tE (.bool false)),tN]),(W 6 0)]
def WY:Tr:=aC 17 [(G3 12)] [none] [42] [30] 3 false (aO .eql 3 43 0 13 0 4 (.split (.u 14 0) (aC 104 [(G6 10)] [(some 3)] [46] [39] 30 false (aC 17 [(G3 15)] [none] [47] [30] 3 false (aO .eql 3 48 0 16 0 4 (.ret [(G3 11),(W 17 0)])))) (.ret [(G3 11),(tF false)])))
def WQ:Tr:=aC 128 [(.agg [(U 0 1),(U 0 2),(U 0 3)])] [(some 3)] [28] [30] 30 false (.need (.call 35 [(G6 5),(G3 6),(WK 2)] [(some 6)]) (.call ⟨.value (.func 35),#[(tT 26),(tT 29),(.const (I3 2))],#[81,30,3]⟩) 39 false (.need (.call 34 [(WK 0)] [(some 6)]) (.call ⟨.value (.func 34),#[(.const (I3 0))],#[3]⟩) 81 false (aC 129 [(.agg [(U 0 1),(U 0 2),(U 0 3)])] [(some 3)] [33] [30] 30 false (.need (.call 35 [(G6 8),(G3 9),(WK 2)] [(some 6)]) (.call ⟨.value (.func 35),#[(tT 31),(tT 34),(.const (I3 2))],#[81,30,3]⟩) 39 true (aC 66 [(G3 7),(G3 10)] [(some 3)] [37,39] [30,30] 30 false (aC 104 [(G6 7)] [(some 3)] [41] [39] 30 false WY))))))
def ap1:Tr:=.split (.u 2 0) (aC 69 [] [(some 3)] [] [] 30 false (aC 17 [(.agg [(U 0 1),(U 0 2),(U 0 3)])] [none] [13] [30] 3 true (aO .eql 3 14 0 4 0 4 (.ret [(G3 3),(W 5 0)])))) (.need (.prim [(W 0 0),(.one (.c (.k (.int .u8 2))))] none) (.binOp .eql 5 (tT 7) (.const (.int .u8 2)) 5) 4 false (.split (.u 3 0) (aC 69 [] [(some 3)] [] [] 30 false (aC 68 [(.agg [(U 0 1),(U 0 2),(U 0 3)]),(G3 4)] [none] [20,21] [30,30] 3 true (aO .eql 3 22 0 5 0 4 PS))) (.need (.prim [(W 0 0),(.one (.c (.k (.int .u8 6))))] none) (.binOp .eql 5 (tT 7) (.const (.int .u8 6)) 5) 4 false (.split (.u 4 0) (.need (.call 34 [(WK 0)] [(some 6)]) (.call ⟨.value (.func 34),#[(.const (I3 0))],#[3]⟩) 81 false WQ) (aC 17 [(.agg [(U 0 1),(U 0 2),(U 0 3)])] [none] [53] [30] 3 true (aO .eql 3 54 0 5 0 4 PS))))))
def Zk:Tr:=.need (.prim [(W 0 0),(.one (.c (.k (.int .u8 1))))] none) (.binOp .eql 5 (tT 7) (.const (.int .u8 1)) 5) 4 false (.split (.u 1 0) (aC 69 [] [(some 3)] [] [] 30 false (aC 17 [(.agg [(U 0 1),(U 0 2),(U 0 3)])] [none] [13] [30] 3 true (aO .eql 3 14 0 3 0 4 (.ret [(G3 2),(W 4 0)])))) (.need (.prim [(W 0 0),(.one (.c (.k (.int .u8 4))))] none) (.binOp .eql 5 (tT 7) (.const (.int .u8 4)) 5) 4 false ap1))
theorem Dq:aK prog f87 (fun _=>none) [.v (some 4)]=Zk:=by kernel_rfl
def Yo:Tr:=aC 167 [(G6 0),(G6 16)] [(some 6)] [30,33] [81,39] 39 true (.loop 0 [lK 0,lV 8 0,lV 8 1,lV 8 2,lV 8 3,lV 8 4,lV 8 5] (bG .lss 2 36 35 18 0 13 0 4 (.split (.u 25 0) (aC 150 [(G6 0),(.agg [(U 19 0),(U 20 0),(U 21 0),(U 22 0),(U 23 0),(U 24 0)]),(G6 17)] [(some 6)] [38,39,40] [81,39,39] 39 true (aO .add 2 36 1 18 0 2 (.back 0 [lV 27 0,lV 26 0,lV 26 1,lV 26 2,lV 26 3,lV 26 4,lV 26 5]))) (.ret [(.agg [(U 19 0),(U 20 0),(U 21 0),(U 22 0),(U 23 0),(U 24 0)])]))))
def Xj:Tr:=.split (.u 12 0) (.need (.prim [(W 3 0)] none) (.unOp .neg 2 (tT 28)) 2 false (aC 69 [] [(some 3)] [] [] 30 false (aC 36 [(G3 14)] [(some 3)] [31] [30] 30 false (aC 92 [(G3 15)] [(some 6)] [32] [30] 39 false Yo)))) (.loop 0 [lK 0,lV 8 0,lV 8 1,lV 8 2,lV 8 3,lV 8 4,lV 8 5] (bG .lss 2 36 35 13 0 3 0 4 (.split (.u 20 0) (aC 150 [(G6 0),(.agg [(U 14 0),(U 15 0),(U 16 0),(U 17 0),(U 18 0),(U 19 0)]),(G6 11)] [(some 6)] [38,39,40] [81,39,39] 39 true (aO .add 2 36 1 13 0 2 (.back 0 [lV 22 0,lV 21 0,lV 21 1,lV 21 2,lV 21 3,lV 21 4,lV 21 5]))) (.ret [(.agg [(U 14 0),(U 15 0),(U 16 0),(U 17 0),(U 18 0),(U 19 0)])]))))
def ai9:Tr:=aC 72 [(G3 1),(G3 5)] [(some 3)] [16,18] [30,30] 30 false (aC 92 [(G3 6)] [(some 6)] [19] [30] 39 true (aC 167 [(G6 0),(G6 7)] [(some 6)] [15,20] [81,39] 39 true (aC 69 [] [(some 3)] [] [] 30 false (aC 92 [(G3 9)] [(some 6)] [23] [30] 39 true (aC 167 [(G6 0),(G6 10)] [(some 6)] [22,24] [81,39] 39 true (aO .lss 2 26 0 3 0 4 Xj))))))
def an1:Tr:=aC 99 [(G3 1)] [(some 3)] [10] [30] 30 false (aC 127 [(G3 2)] [none,none] [11] [30] 155 false (aC 99 [(G3 1)] [(some 3)] [17] [30] 30 false ai9))
theorem Mh:aK prog f166 (fun _=>none) [.v (some 6), .v (some 3)]=an1:=by kernel_rfl
theorem UL  :aL prog 81 [(.one (.int .u8 1):aI),(qT (((1:Int):Rat)):aI)] (.ret [.one (.int .i64 0)]):=by
 refine bV func81 qM ?_;apply aA (dU 1000) rfl;apply vn aE rfl;refine cC true rfl (fun _=>?_) (fun h=>by cases h);apply aA (dU 64) rfl;apply vn bA rfl;dsimp only [aG,aH];refine cC false rfl (fun h=>by cases h) (fun _=>?_);apply vn cB rfl;refine cC false rfl (fun h=>by cases h) (fun _=>?_);apply vn aE rfl;refine cC false rfl (fun h=>by cases h) (fun _=>?_);apply vn aE rfl;refine cC false rfl (fun h=>by cases h) (fun _=>?_);apply vn aE rfl;dsimp only [aG,aH];refine cC true rfl (fun _=>?_) (fun h=>by cases h);apply aA (rV (((1:Int):Rat))) rfl;apply aA (cX (((1:Int):Rat)).abs ((64:Int):Rat) 8 16 ⟨by decide +kernel,by decide +kernel⟩ ⟨by decide +kernel,by decide +kernel⟩) rfl;rw [show fK (((1:Int):Rat)).abs ((64:Int):Rat) = -1 by decide +kernel];apply vn cB rfl;refine cC false rfl (fun h=>by cases h) (fun _=>?_);exact aJ rfl
theorem Ri  :aL prog 81 [(.one (.int .u8 6):aI),(qT (bL ((9:Int):Rat) ((4:Int):Rat)):aI)] (.ret [.one (.int .i64 0)]):=by
 refine bV func81 qM ?_;apply aA (dU 1000) rfl;apply vn aE rfl;refine cC false rfl (fun h=>by cases h) (fun _=>?_);apply vn bA rfl;refine cC false rfl (fun h=>by cases h) (fun _=>?_);apply vn cB rfl;dsimp only [aG,aH];refine cC false rfl (fun h=>by cases h) (fun _=>?_);apply vn aE rfl;refine cC false rfl (fun h=>by cases h) (fun _=>?_);apply vn aE rfl;refine cC true rfl (fun _=>?_) (fun h=>by cases h);apply aA (bB (bL ((9:Int):Rat) ((4:Int):Rat))) rfl;rw [show (bL ((9:Int):Rat) ((4:Int):Rat)).num.sign=1 by decide +kernel];apply vn bA rfl;dsimp only [aG,aH];refine cC false rfl (fun h=>by cases h) (fun _=>?_);apply vn aE rfl;refine cC false rfl (fun h=>by cases h) (fun _=>?_);apply vn aE rfl;refine cC false rfl (fun h=>by cases h) (fun _=>?_);apply vn aE rfl;refine cC false rfl (fun h=>by cases h) (fun _=>?_);exact aJ rfl
theorem UJ  :aL prog 81 [(.one (.int .u8 5):aI),(qT (((1:Int):Rat)):aI)] (.ret [.one (.int .i64 0)]):=by
 refine bV func81 qM ?_;apply aA (dU 1000) rfl;apply vn aE rfl;refine cC false rfl (fun h=>by cases h) (fun _=>?_);apply vn bA rfl;refine cC false rfl (fun h=>by cases h) (fun _=>?_);apply vn cB rfl;dsimp only [aG,aH];refine cC false rfl (fun h=>by cases h) (fun _=>?_);apply vn aE rfl;refine cC false rfl (fun h=>by cases h) (fun _=>?_);apply vn aE rfl;refine cC false rfl (fun h=>by cases h) (fun _=>?_);apply vn aE rfl;refine cC false rfl (fun h=>by cases h) (fun _=>?_);apply vn aE rfl;dsimp only [aG,aH];refine cC false rfl (fun h=>by cases h) (fun _=>?_);apply vn aE rfl;refine cC false rfl (fun h=>by cases h) (fun _=>?_);exact aJ rfl
theorem Ur  :aL prog 81 [(.one (.int .u8 3):aI),(qT (((3:Int):Rat)):aI)] (.ret [.one (.int .i64 0)]):=by
 refine bV func81 qM ?_;apply aA (dU 1000) rfl;apply vn aE rfl;refine cC false rfl (fun h=>by cases h) (fun _=>?_);apply vn bA rfl;refine cC false rfl (fun h=>by cases h) (fun _=>?_);apply vn cB rfl;dsimp only [aG,aH];refine cC false rfl (fun h=>by cases h) (fun _=>?_);apply vn aE rfl;refine cC false rfl (fun h=>by cases h) (fun _=>?_);apply vn aE rfl;refine cC false rfl (fun h=>by cases h) (fun _=>?_);apply vn aE rfl;refine cC false rfl (fun h=>by cases h) (fun _=>?_);apply vn aE rfl;dsimp only [aG,aH];refine cC true rfl (fun _=>?_) (fun h=>by cases h);apply aA (rV (((3:Int):Rat))) rfl;apply aA (cX (((3:Int):Rat)).abs ((1000:Int):Rat) 8 16 ⟨by decide +kernel,by decide +kernel⟩ ⟨by decide +kernel,by decide +kernel⟩) rfl;rw [show fK (((3:Int):Rat)).abs ((1000:Int):Rat) = -1 by decide +kernel];apply vn cB rfl;refine cC false rfl (fun h=>by cases h) (fun _=>?_);exact aJ rfl
theorem Ug  :aL prog 87 [(.agg (.int .u8 1::qC (((1:Int):Rat))):aI)] (.ret [qT ((1:Int):Rat), .one (.bool false)]):=by
 refine bV func87 Dq ?_;apply vn aE rfl;refine cC true rfl (fun _=>?_) (fun h=>by cases h);apply aA dG rfl;apply aA (bB _) rfl;rw [show (((1:Int):Rat)).num.sign=1 by decide +kernel];apply vn aE rfl;exact aJ rfl
theorem Vr  :aL prog 87 [(.agg (.int .u8 5::qC (((1:Int):Rat))):aI)] (.ret [qT 0, .one (.bool false)]):=by
 refine bV func87 Dq ?_;apply vn aE rfl;refine cC false rfl (fun h=>by cases h) (fun _=>?_);apply vn aE rfl;refine cC false rfl (fun h=>by cases h) (fun _=>?_);apply vn aE rfl;refine cC false rfl (fun h=>by cases h) (fun _=>?_);apply vn aE rfl;dsimp only [aG,aH];refine cC false rfl (fun h=>by cases h) (fun _=>?_);apply aA (bB _) rfl;rw [show (((1:Int):Rat)).num.sign=1 by decide +kernel];apply vn aE rfl;exact fR ⟨IX,aI.Sub.same,trivial⟩
open Go Go.Proofs Tryz Ord
theorem RX  :aL prog 87 [(.agg (.int .u8 6::qC (bL ((9:Int):Rat) ((4:Int):Rat))):aI)] (.ret [qT (3/2), .one (.bool true)]):=by
 refine bV func87 Dq ?_;apply vn aE rfl;refine cC false rfl (fun h=>by cases h) (fun _=>?_);apply vn aE rfl;refine cC false rfl (fun h=>by cases h) (fun _=>?_);apply vn aE rfl;refine cC false rfl (fun h=>by cases h) (fun _=>?_);apply vn aE rfl;dsimp only [aG,aH];refine cC true rfl (fun _=>?_) (fun h=>by cases h);apply aA (JP 0) rfl;apply aA (af3 _) rfl;rw [show (bL ((9:Int):Rat) ((4:Int):Rat)).num=9 by decide +kernel];apply aA (Pr ((9:Int):Rat) 2 (dB 0) (mM 0) 9 3 4 8 8 (by decide +kernel) ⟨by decide +kernel,by decide +kernel⟩ ⟨by decide +kernel,by decide +kernel⟩ ⟨by decide +kernel,by decide +kernel⟩) rfl;rw [show KV ((9:Int):Rat) 2 (mM 0) 3=(3,3) by decide +kernel];apply aA (JP 0) rfl;dsimp only [aG,aH];apply aA (ad2 _ 8 ⟨by decide +kernel,by decide +kernel⟩) rfl;rw [show (bL ((9:Int):Rat) ((4:Int):Rat)).den=4 by decide +kernel];apply aA (Pr (((4:Nat):Int):Rat) 2 (dB 0) (mM 0) 4 2 4 8 8 (by decide +kernel) ⟨by decide +kernel,by decide +kernel⟩ ⟨by decide +kernel,by decide +kernel⟩ ⟨by decide +kernel,by decide +kernel⟩) rfl;rw [show KV (((4:Nat):Int):Rat) 2 (mM 0) 2=(2,2) by decide +kernel];apply aA (bI 3 2 8 8 ⟨by decide +kernel,by decide +kernel⟩ ⟨by decide +kernel,by decide +kernel⟩) rfl;rw [show bL 3 2=3/2 by decide +kernel];apply aA (rF 3 3 8 8 ⟨by decide +kernel,by decide +kernel⟩ ⟨by decide +kernel,by decide +kernel⟩) rfl;rw [show (3:Rat)-3=0 by decide +kernel];dsimp only [aG,aH];apply aA (bB 0) rfl;apply vn aE rfl;refine cC true rfl (fun _=>?_) (fun h=>by cases h);apply aA (rF 2 2 8 8 ⟨by decide +kernel,by decide +kernel⟩ ⟨by decide +kernel,by decide +kernel⟩) rfl;rw [show (2:Rat)-2=0 by decide +kernel];apply aA (bB 0) rfl;dsimp only [aG,aH];apply vn aE rfl;exact aJ rfl
open Go Go.Proofs Tryz Ord
instance (B:Nat) (q:Rat):Decidable (Fit B q):=by unfold Fit;infer_instance
theorem PR {up down:Rat} {s:Rat×Rat} {N W:Nat} (K:Ie up down s N W):Fit (9*(1+(N+1)*(W+2+1)+2*W)) (tX up down s N).1∧Fit (9*(1+(N+1)*(W+2+1)+2*W)) (tX up down s N).2:=by
 have hsf:=JS K.hf K.hW.1;exact NO (o:=oS (uF up down (pY s (mkRat 1 (2^2)))) N) hsf.1 hsf.2 K.hu.1 K.hu.2 (by omega) 2
def Lq (up down:Rat) (st o:Rat×Rat):Nat→Rat×Rat
 | 0=>o
 | i+1=>uE up down (MB (Lq up down st o i) st)
theorem MK (up down:Rat) (N0 N1 W:Nat) (K0:Ie up down (((1:Int):Rat)-((1:Int):Rat),((1:Int):Rat)-((1:Int):Rat)) N0 W) (K1:Ie up down (((1:Int):Rat),((1:Int):Rat)) N1 W):aL prog 166 [(lP up down:aI),(qT ((1:Int):Rat):aI)] (.ret [gL (Lq up down (tX up down (((1:Int):Rat),((1:Int):Rat)) N1) (tX up down (((1:Int):Rat)-((1:Int):Rat),((1:Int):Rat)-((1:Int):Rat)) N0) 1)]):=by
 refine bV func166 Mh ?_;have f0:=PR K0;have f1:=PR K1;obtain ⟨A0,hA0⟩:∃ A,A=9*(1+(N0+1)*(W+2+1)+2*W):=⟨_,rfl⟩
 obtain ⟨A1,hA1⟩:∃ A,A=9*(1+(N1+1)*(W+2+1)+2*W):=⟨_,rfl⟩
 have b0:(N0+1)*(W+2+1)≤1001*10003:=Nat.mul_le_mul (by have:=K0.hN;omega) (by have:=K0.hW;omega);have b1:(N1+1)*(W+2+1)≤1001*10003:=Nat.mul_le_mul (by have:=K1.hN;omega) (by have:=K1.hW;omega);have hW:=K0.hW;have hu:=K0.hu;rw [←hA0] at f0;rw [←hA1] at f1;have h1f:Fit 2 ((1:Int):Rat):=Fit.int (by omega) (by omega);apply aA (gA ((1:Int):Rat) 2 h1f) rfl;rw [PJ];apply aA (LR 1) rfl;apply aA (gA ((1:Int):Rat) 2 h1f) rfl;rw [PJ];apply aA (lZ ((1:Int):Rat) ((1:Int):Rat) 2 2 h1f h1f) rfl;dsimp only [aG,aH];apply aA (Lx _) rfl;apply aA (SJ up down _ N0 W K0) rfl;apply aA dG rfl;apply aA (Lx _) rfl;dsimp only [aG,aH];apply aA (SJ up down _ N1 W K1) rfl;apply vn bA rfl;refine cC false rfl (fun h=>by cases h) (fun _=>?_);refine bD {i:Nat // i≤1} (fun g=>(.one (.int .i64 g.1):aI)::(fH (Lq up down (tX up down (((1:Int):Rat),((1:Int):Rat)) N1) (tX up down (((1:Int):Rat)-((1:Int):Rat),((1:Int):Rat)-((1:Int):Rat)) N0) g.1).1 (Lq up down (tX up down (((1:Int):Rat),((1:Int):Rat)) N1) (tX up down (((1:Int):Rat)-((1:Int):Rat),((1:Int):Rat)-((1:Int):Rat)) N0) g.1).2).map .one) (fun g=>1-g.1) ⟨0,eS _⟩ aR.rfl (fun _=>rfl) ?_;rintro ⟨i,hi⟩;dsimp only [aG,aH,List.map] at hi ⊢;apply vn bA rfl;refine vs _ rfl ?_ ?_<;>intro h25
 ·have hi0:i=0:=by omega
  subst hi0;apply aA (Bw up down _ _ A0 A1 W f0.1 f0.2 f1.1 f1.2 hu.1 hu.2) rfl;apply vn (aD) rfl;dsimp only [aG,aH];exact aX rfl ⟨⟨1,by omega⟩,aR.rfl,by show 1-1<1-0;omega⟩
 have hi1:i=1:=by omega
 subst hi1;exact aJ rfl
theorem Xu:Ie (dB 32) (mM 32) (((1:Int):Rat)-((1:Int):Rat),((1:Int):Rat)-((1:Int):Rat)) 1 100:=⟨by decide +kernel,by decide +kernel,by decide +kernel,by decide +kernel,by decide +kernel,by omega,by omega⟩
theorem XM:Ie (dB 32) (mM 32) (((1:Int):Rat),((1:Int):Rat)) 9 100:=⟨by decide +kernel,by decide +kernel,by decide +kernel,by decide +kernel,by decide +kernel,by omega,by omega⟩
open Go Go.Proofs Go.RowKit Tryz Ord
theorem AZ {W:World} {b T:Nat} {cs:Array Value} (h:W.heap[b]? = some (.cells cs T (0,0))) (j:Nat):W.frozen? ⟨b,j,none⟩=false:=by
 simp [World.frozen?,h]
theorem eT {P:Program} {W:World} {b T j:Nat} {cs:Array Value} {u:Value} (h:W.heap[b]? = some (.cells cs T (0,0))) (hj:j<cs.size) (o:u.oneCell'=true) :
  (store ⟨b,j,none⟩ u).run P W = .ok () (W.setRow b (cs.setIfInBounds j u)):=by
 have hcell:W.cell? ⟨b,j,none⟩=some cs[j]:=by simp [World.cell?,h,hj]
 have hfro:W.frozen? ⟨b,j,none⟩=false:=by simp [World.frozen?,h]
 rw [run_store P W _ u _ o,hcell];simp [hfro,setCell_eq_setRow W b j cs T (0,0) u h]
theorem IM {P:Program} {W:World} {b T:Nat} {c0 c1 c2 u0 u1 u2:Value} (h:W.heap[b]? = some (.cells #[c0,c1,c2] T (0,0))) (o0:u0.oneCell'=true) (o1:u1.oneCell'=true) (o2:u2.oneCell'=true) :
  (((store ⟨b,0,none⟩ u0).run P W).andThen fun _ w'=>((store ⟨b,1,none⟩ u1).run P w').andThen fun _ w'=>(store ⟨b,2,none⟩ u2).run P w') = .ok () (W.setRow b #[u0,u1,u2]):=by
 rw [eT h (by simp) o0,Result.andThen_ok,eT (setRow_heap W b _ _ T (0,0) h) (by simp) o1,Result.andThen_ok,setRow_setRow,eT (setRow_heap W b _ _ T (0,0) h) (by simp) o2,setRow_setRow];rfl
theorem below_setRow {n:Nat} {A W:World} {g:Nat} (h:Below n A W) (cs:Array Value) (hg:n≤g:=by omega):Below n A (W.setRow g cs):=
 ⟨h.os,h.tape,h.output,by simpa [World.setRow] using h.size,fun k hk=>by
  rw [setRow_other W g k cs (by omega)];exact h.block k hk⟩
theorem UG {M:Nat→Prop} {w:World} {q:Rat} {vs:List Value} (h:bX M w [qT q] vs):∃ v0 v1 v2,pack vs = .agg #[v0,v1,v2]∧aP M w (qC q) [v0,v1,v2]:=by
 match vs,h with
 | [v],h=>
   obtain ⟨⟨us,rfl,hus⟩,_⟩:=h
   match us,hus with
   | [a,b,c],hus=>exact ⟨a,b,c,rfl,hus⟩
   | [],hus=>exact hus.elim
   | [_],hus=>exact hus.2.elim
   | [_,_],hus=>exact hus.2.2.elim
   | _::_::_::_::_,hus=>exact hus.2.2.2.elim
 | [],h=>exact h.elim
 | _::_::_,h=>exact h.2.elim
theorem jA {P:Program} {W:World} {b T:Nat} {c0 c1 c2 c3 c4 c5 u0 u1 u2 u3 u4 u5:Value} (h:W.heap[b]? = some (.cells #[c0,c1,c2,c3,c4,c5] T (0,0))) (o0:u0.oneCell'=true) (o1:u1.oneCell'=true) (o2:u2.oneCell'=true) (o3:u3.oneCell'=true) (o4:u4.oneCell'=true) (o5:u5.oneCell'=true) :
  (((store ⟨b,0,none⟩ u0).run P W).andThen fun _ w'=>((store ⟨b,1,none⟩ u1).run P w').andThen fun _ w'=>((store ⟨b,2,none⟩ u2).run P w').andThen fun _ w'=>((store ⟨b,3,none⟩ u3).run P w').andThen fun _ w'=>((store ⟨b,4,none⟩ u4).run P w').andThen fun _ w'=>(store ⟨b,5,none⟩ u5).run P w') = .ok () (W.setRow b #[u0,u1,u2,u3,u4,u5]):=by
 rw [eT h (by simp) o0,Result.andThen_ok,eT (setRow_heap W b _ _ T (0,0) h) (by simp) o1,Result.andThen_ok,setRow_setRow,eT (setRow_heap W b _ _ T (0,0) h) (by simp) o2,Result.andThen_ok,setRow_setRow,eT (setRow_heap W b _ _ T (0,0) h) (by simp) o3,Result.andThen_ok,setRow_setRow,eT (setRow_heap W b _ _ T (0,0) h) (by simp) o4,Result.andThen_ok,setRow_setRow,eT (setRow_heap W b _ _ T (0,0) h) (by simp) o5,setRow_setRow];rfl
theorem II {M:Nat→Prop} {w:World} {c0 c1 c2 c3 c4 c5:aN} {vs:List Value} (h:aP M w [c0,c1,c2,c3,c4,c5] vs):∃ u0 u1 u2 u3 u4 u5,vs = [u0,u1,u2,u3,u4,u5]:=by
 have hl:=h.length
 match vs,hl with
 | [u0,u1,u2,u3,u4,u5],_=>exact ⟨u0,u1,u2,u3,u4,u5,rfl⟩
theorem ai5 {P:Program} {W:World} {b T:Nat} {c0 c1 c2 c3 c4 c5 c6 u0 u1 u2 u3 u4 u5 u6:Value} (h:W.heap[b]? = some (.cells #[c0,c1,c2,c3,c4,c5,c6] T (0,0))) (o0:u0.oneCell'=true) (o1:u1.oneCell'=true) (o2:u2.oneCell'=true) (o3:u3.oneCell'=true) (o4:u4.oneCell'=true) (o5:u5.oneCell'=true) (o6:u6.oneCell'=true) :
  (((store ⟨b,0,none⟩ u0).run P W).andThen fun _ w'=>((store ⟨b,1,none⟩ u1).run P w').andThen fun _ w'=>((store ⟨b,2,none⟩ u2).run P w').andThen fun _ w'=>((store ⟨b,3,none⟩ u3).run P w').andThen fun _ w'=>((store ⟨b,4,none⟩ u4).run P w').andThen fun _ w'=>((store ⟨b,5,none⟩ u5).run P w').andThen fun _ w'=>(store ⟨b,6,none⟩ u6).run P w') = .ok () (W.setRow b #[u0,u1,u2,u3,u4,u5,u6]):=by
 rw [eT h (by simp) o0,Result.andThen_ok,eT (setRow_heap W b _ _ T (0,0) h) (by simp) o1,Result.andThen_ok,setRow_setRow,eT (setRow_heap W b _ _ T (0,0) h) (by simp) o2,Result.andThen_ok,setRow_setRow,eT (setRow_heap W b _ _ T (0,0) h) (by simp) o3,Result.andThen_ok,setRow_setRow,eT (setRow_heap W b _ _ T (0,0) h) (by simp) o4,Result.andThen_ok,setRow_setRow,eT (setRow_heap W b _ _ T (0,0) h) (by simp) o5,Result.andThen_ok,setRow_setRow,eT (setRow_heap W b _ _ T (0,0) h) (by simp) o6,setRow_setRow];rfl
open Go Go.Proofs Go.RowKit Tryz Ord
attribute [local go_sem] Oper.semAt_some
set_option maxHeartbeats 2000000 in
theorem QF (w:World):Calls prog 131 #[] w fun e w'=>Below w.heap.size w w'∧e = .returned (.agg #[.nilFunc, .func (.func 166) #[] #[], .func (.func 168) #[] #[], .func (.func 169) #[] #[], .func (.func 171) #[] #[], .func (.func 172) #[] #[], .func (.func 173) #[] #[]]):=by
 refine calls_of_wp func131 rfl ?_;simp only [ntmps131,List.size_toArray,List.length_cons,List.length_nil,Nat.reduceAdd,Nat.reduceSub,Array.replicate_succ,Array.replicate_zero,List.push_toArray,List.append_toArray,List.nil_append,List.cons_append]
 go_wp2
 have hnew:=heap_alloc_new w (.cells #[.nilFunc, .nilFunc, .nilFunc, .nilFunc, .nilFunc, .nilFunc, .nilFunc] 158);rw [ai5 hnew rfl rfl rfl rfl rfl rfl rfl];have hself:=setRow_heap _ w.heap.size _ #[.nilFunc, .func (.func 166) #[] #[], .func (.func 168) #[] #[], .func (.func 169) #[] #[], .func (.func 171) #[] #[], .func (.func 172) #[] #[], .func (.func 173) #[] #[]] _ _ hnew;have hbel:Below w.heap.size w ((w.alloc (.cells #[.nilFunc, .nilFunc, .nilFunc, .nilFunc, .nilFunc, .nilFunc, .nilFunc] 158)).setRow w.heap.size #[.nilFunc, .func (.func 166) #[] #[], .func (.func 168) #[] #[], .func (.func 169) #[] #[], .func (.func 171) #[] #[], .func (.func 172) #[] #[], .func (.func 173) #[] #[]]):=below_setRow ((Below.refl _ w).alloc (bZ _) _) _ (bZ _);generalize ((w.alloc _).setRow _ _)=W at hself hbel ⊢;have k0:W.cell? ⟨w.heap.size,0,none⟩=some .nilFunc:=aB hself rfl;have k1:W.cell? ⟨w.heap.size,1,none⟩=some (.func (.func 166) #[] #[]):=aB hself rfl;have k2:W.cell? ⟨w.heap.size,2,none⟩=some (.func (.func 168) #[] #[]):=aB hself rfl;have k3:W.cell? ⟨w.heap.size,3,none⟩=some (.func (.func 169) #[] #[]):=aB hself rfl;have k4:W.cell? ⟨w.heap.size,4,none⟩=some (.func (.func 171) #[] #[]):=aB hself rfl;have k5:W.cell? ⟨w.heap.size,5,none⟩=some (.func (.func 172) #[] #[]):=aB hself rfl;have k6:W.cell? ⟨w.heap.size,6,none⟩=some (.func (.func 173) #[] #[]):=aB hself rfl
 go_wp2
 simp [bodyPost,results,show f131.results = #[.cell 0 158] from rfl,go_sem,k0,k1,k2,k3,k4,k5,k6];exact hbel
abbrev ah0:List aN:=[.exact .nilFunc, .fB 166 [], .fB 168 [], .fB 169 [], .fB 171 [], .fB 172 [], .fB 173 []]
theorem QL:aL prog 131 [] (.ret [.agg ah0]):=by
 refine ⟨eG (by kernel_rfl),fun M w vs hM hv=>?_⟩
 match vs,hv with
 | [],_=>
   refine (QF w).mono ?_;rintro e w' ⟨hb,rfl⟩;exact ⟨hb,[.agg _],rfl,⟨_,rfl,⟨rfl,rfl⟩,⟨[],rfl,trivial⟩,⟨[],rfl,trivial⟩,⟨[],rfl,trivial⟩,⟨[],rfl,trivial⟩,⟨[],rfl,trivial⟩,⟨[],rfl,trivial⟩,trivial⟩,trivial⟩
end Go.Sy
namespace Go.Sy
open Go Go.Proofs Go.RowKit Tryz Ord
def pQ:Tr:=.ret [(.agg [(U 4 0),(U 4 1),(U 4 2),(U 4 3),(U 4 4),(U 4 5)])]
def pH:Tr:=.need (.callv (.u 3 0) [(.agg [(U 0 0),(U 0 1),(U 0 2),(U 0 3),(U 0 4),(U 0 5)]),(.agg [(U 1 1),(U 1 2),(U 1 3)])] [(some 6)]) (.call ⟨.value (.tmp 7),#[(.tmp 8),(.tmp 10)],#[81,30]⟩) 39 true pQ
def pV:Tr:=.need (.prim [(.agg [(U 2 0),(U 2 1),(U 2 2),(U 2 3),(U 2 4),(U 2 5),(U 2 6)]),(W 1 0)] none) (.index 158 (.tmp 4) (.tmp 6)) 157 false pH
def pK:Tr:=.need (.call 131 [] [(some 7)]) (.call ⟨.value (.func 131),#[],#[]⟩) 158 false pV
theorem sO:aK prog f130 (fun _=>none) [.v (some 6), .ref 4]=pK:=by kernel_rfl
def ae9:Tr:=aC 39 [(.one (.fB 130 [(.ref 0 [(.u 0 0),(.u 0 1),(.u 0 2),(.u 0 3)])]))] [none] [3] [90] 88 true (.ret [(W 1 0)])
theorem DY:aK prog f88 (fun _=>none) [.v (some 4)]=ae9:=by kernel_rfl
def ZX:Tr:=.ret [(.one (.fB 105 [(.ref 0 [(.u 0 0)])]))]
theorem QE:aK prog f39 (fun _=>none) [.v none]=ZX:=by kernel_rfl
theorem ap8 {x y:Operand} {ty:Nat} {cs:List aN} {c:aN} {k:IntKind} {n:Int} (hc:cs[n.toNat]? = some c) (h0:0≤n:=by omega) (hn:n<7:=by omega):aU prog (.index 158 x y) ty [.agg cs, .one (.int k n)] (.one c):=by
 intro M w ρ o ho _ hr;obtain ⟨hx,hy⟩:=oU hr;obtain ⟨vs,hx,hvs⟩:=hx;have hy:ρ y = .int k n∧_:=hy;obtain ⟨v,hv,hvr⟩:=hvs.get _ _ hc;refine ⟨v,?_,hvr⟩;have hu:prog.underlying 158=some (.array 7 157):=by kernel_rfl
 simp [execOp,ho,hx,hy.1,Instr.index,asIntOf,run_underlying hu,h0,hn,part,hv]
theorem iK (up down:Rat) (kind:Nat) (x:Rat) (v:Rat×Rat) (f:FuncId) (hf:ah0[kind]? = some (.fB f [])) (hv:aL prog f [lP up down,qT x] (.ret [gL v])) (hk:kind<7:=by omega):aL prog 130 [(lP up down:aI),(.one (.cJ ((.int .u8 (kind:Int)::qC x))):aI)] (.ret [gL v]):=by
 refine dvr (ins:=[.v (lP up down), .ref ((.int .u8 (kind:Int)::qC x))]) func130 sO ?_;apply aA QL rfl;dsimp only [aG,aH];apply vn (ap8 (show ah0[((kind:Nat):Int).toNat]? = some (.fB f []) by rw [Int.toNat_natCast];exact hf)) rfl;apply nU (f:=f) (caps:=[]) rfl hv rfl;exact aJ rfl
theorem sA (g:FuncId) (caps:List aN):aL prog 39 [(.one (.fB g caps):aI)] (.ret [.one (.fB 105 [.cJ [.fB g caps]])]):=by
 refine bV func39 QE ?_;exact aJ rfl
theorem mX (kind:Nat) (x:Rat):aL prog 88 [(.agg (.int .u8 (kind:Int)::qC x):aI)] (.ret [.one (.fB 105 [.cJ [.fB 130 [.cJ (.int .u8 (kind:Int)::qC x)]]])]):=by
 refine bV func88 DY ?_;apply aA (sA 130 [.cJ (.int .u8 (kind:Int)::qC x)]) rfl;exact aJ rfl
open Go Go.Proofs Go.RowKit Tryz Ord
attribute [local go_sem] Oper.semAt_some
theorem Qu {t:Array Value} {n:Nat} {L:List Value} (h:t.size=n) (e:(List.range' 0 n).map (t.getD · Go.undef)=L:=by simp only [List.range',List.map];rfl):t=L.toArray:=by
 subst e;apply Array.ext
 ·simp [h]
 ·intro i h1 h2;simp [Array.getD,h1]
theorem QI {cells:List aN} {M:Nat→Prop} {w:World} {v:Value} {c:aN} {j:Nat} (h:(aN.cJ cells).rep M w v) (hj:cells[j]? = some c):∃ b off x,v = .pointer (some ⟨b,off,none⟩)∧w.cell? ⟨b,off+j,none⟩=some x∧c.rep M w x∧b<w.heap.size:=by
 obtain ⟨b,off,cs,T,fz,rfl,hb,hh,hr⟩:=h;obtain ⟨u,hu,hx⟩:=hr.get j _ hj;refine ⟨b,off,u,rfl,?_,hx,(eF.1 hh).1⟩;rw [List.getElem?_take] at hu;split at hu
 ·rw [List.getElem?_drop] at hu;exact aB hh (by simpa using hu)
 ·cases hu
theorem iM {f:FuncId} {args:List aI} {a b:Rat} (hd:aL prog f args (.ret [lP a b])) {M:Nat→Prop} {w:World} {vs:List Value} (hM:Fine M w) (hv:bX M w args vs) :
  Calls prog f vs.toArray w fun e w'=>Below w.heap.size w w'∧∃ u0 u1 u2 u3 u4 u5,e = .returned (.agg #[u0,u1,u2,u3,u4,u5])∧aP M w' (fH a b) [u0,u1,u2,u3,u4,u5]:=by
 refine (hd.2 M w vs hM hv).mono ?_;rintro e w' ⟨hb,us,rfl,hus⟩
 match us,hus with
 | [v],hus=>
   obtain ⟨cs,rfl,hcs⟩:=hus.1;obtain ⟨u0,u1,u2,u3,u4,u5,rfl⟩:=II hcs;exact ⟨hb,u0,u1,u2,u3,u4,u5,rfl,hcs⟩
 | [],hus=>exact hus.elim
 | _::_::_,hus=>exact hus.2.elim
structure ClS (l i:Nat) (vp:Value) (t:Array Value):Prop where
 sz:t.size=12
 t0:t.getD 0 Go.undef = .func (.yield l) #[] #[]
 t1:t.getD 1 Go.undef=vp
 t3:t.getD 3 Go.undef = .int .i64 ((32*2^i:Nat):Int)
set_option maxRecDepth 100000 in
set_option maxHeartbeats 1000000 in
theorem NT (M:Nat→Prop) (g:FuncId) (caps:List aN) (V:Nat→Rat×Rat) (R:Nat) (hR:R≤4) (hV:∀ i,i≤R→aL prog g ([lP (dB (32*2^i)) (mM (32*2^i))]++caps.map .one) (.ret [gL (V i)]))
  (l:Nat) (vp:Value) (J:Nat→World→Prop) (Jx:World→Prop) (hJb:∀ i W W',J i W→Below W.heap.size W W'→J i W') (hJf:∀ i W,J i W→Fine M W∧(aN.cJ [.fB g caps]).rep M W vp)
  (hY:∀ i W u0 u1 u2 u3 u4 u5,i≤R→J i W→aP M W (fH (V i).1 (V i).2) [u0,u1,u2,u3,u4,u5]→YieldAt Fence.wide 999 prog l #[.agg #[u0,u1,u2,u3,u4,u5]] W fun e W'=>(i<R∧e = .returned (.bool true)∧J (i+1) W')∨(i=R∧e = .returned (.bool false)∧Jx W'))
  (W:World) (h0:J 0 W):CallsIn Fence.wide 1000 prog 105 #[.func (.yield l) #[] #[],vp] W fun e W'=>(∃ v,e = .returned v)∧Jx W':=by
 refine callsIn_of_wp func105 rfl trivial ?_ rfl;simp only [ntmps105,List.size_toArray,List.length_cons,List.length_nil,Nat.reduceAdd,Nat.reduceSub,Array.replicate_succ,Array.replicate_zero,List.push_toArray,List.append_toArray,List.nil_append,List.cons_append]
 gi_wp2
 refine wpIn_loop_ghost (fun j a' W'=>∃ i t,j=R-i∧i≤R∧a'=⟨t,[]⟩∧ClS l i vp t∧J i W') (R-0) ⟨0,_,rfl,eS _,rfl,⟨rfl,rfl,rfl,rfl⟩,h0⟩ ?round
 case round=>
  rintro j a' W1 ⟨i,t,rfl,hi,rfl,S,hJ⟩;obtain ⟨hM,hvp⟩:=hJf i W1 hJ;refine wpIn_seq_k fun K hK=>wpIn_seq ?_;refine wpIn_region_any (by kernel_rfl) ?_;have et:=Qu S.sz;obtain ⟨p,hp⟩:∃ p:Nat,32*2^i=p:=⟨_,rfl⟩
  have hp1:p≤1000:=by
   have:2^i≤2^4:=Nat.pow_le_pow_right (by omega) (by omega);omega
  rw [S.t0,S.t1,S.t3,hp] at et;have hVi:=hV i hi;rw [hp] at hVi;generalize t.getD 2 Go.undef=x2 at et;generalize t.getD 4 Go.undef=x4 at et;generalize t.getD 5 Go.undef=x5 at et;generalize t.getD 6 Go.undef=x6 at et;generalize t.getD 7 Go.undef=x7 at et;generalize t.getD 8 Go.undef=x8 at et;generalize t.getD 9 Go.undef=x9 at et;generalize t.getD 10 Go.undef=x10 at et;generalize t.getD 11 Go.undef=x11 at et;subst et;obtain ⟨Wd,hWd⟩:∃ Wd:World,{ W1 with drawn:=W1.drawn+1 } = Wd:=⟨_,rfl⟩
  have hbd:Below W1.heap.size W1 Wd:=by rw [←hWd];exact ⟨rfl,rfl,rfl,bZ _,fun _ _=>rfl⟩
  have hJd:=hJb i W1 Wd hJ hbd;obtain ⟨hMd,hvd⟩:=hJf i Wd hJd;rw [hWd];clear hvp;obtain ⟨b,off,fv,rfl,hcell,hfv,hblt⟩:=QI (j:=0) hvd rfl;rw [Nat.add_zero] at hcell;have hgrid:=iM (JP p hp1) hMd (vs:=[.int .i64 (p:Int)]) (show bX M Wd [.one (.int .i64 (p:Int))] [.int .i64 (p:Int)] from ⟨⟨rfl,rfl⟩,trivial⟩);refine wpAnyIn_take (i:=0) (v:=.func (.yield l) #[] #[]) rfl rfl (by kernel_rfl) (by kernel_rfl) (by kernel_rfl) (fun _ _ _ h=>h) ⟨Or.inl ⟨by rfl,fun w=>by go_simp⟩,fun _=>rfl⟩ ?_;refine wpAnyIn_take (i:=2) (v:=.int .i64 (p:Int)) rfl rfl (by kernel_rfl) (by kernel_rfl) (by kernel_rfl) (fun _ _ _ h=>h) ⟨Or.inl ⟨by rfl,fun w=>by go_simp⟩,fun _=>rfl⟩ ?_;refine wpAnyIn_ready (rs:=[1,3]) (by kernel_rfl) (by simp) ?_;refine AllReadyIn.cons rfl (fun K2 hK2=>?_) (AllReadyIn.cons rfl (fun K2 hK2=>?_) AllReadyIn.nil)
  ·go_simp
   refine hK2 _ _ ?_;clear hK2 K2;refine wpAnyIn_ready (rs:=[3]) (by kernel_rfl) (by simp) ?_;refine AllReadyIn.cons rfl (fun K2 hK2=>?_) AllReadyIn.nil
   go_simp
   refine ⟨trivial,?_⟩;refine (callsIn_wide.2 hgrid).mono ?_;rintro e W3 ⟨hb3,f0,f1,f2,f3,f4,f5,rfl,hf⟩;refine hK2 _ _ ?_;clear hK2 K2;have hJ3:=hJb i Wd W3 hJd hb3;obtain ⟨hM3,hv3⟩:=hJf i W3 hJ3;have hfv3:=aN.mono _ (aY.below hb3) hfv;obtain ⟨cvs,rfl,hcvs⟩:=hfv3;refine wpAnyIn_ready (rs:=[4]) (by kernel_rfl) (by simp) ?_;refine AllReadyIn.cons rfl (fun K2 hK2=>?_) AllReadyIn.nil;have he:=hVi.1
   go_simp
   refine ⟨trivial,?_⟩;have hval:=iM (a:=(V i).1) (b:=(V i).2) hVi hM3 (vs:=.agg #[f0,f1,f2,f3,f4,f5]::cvs) ⟨⟨_,rfl,hf⟩,bX.oO hcvs⟩;refine (callsIn_wide.2 hval).mono ?_;rintro e W4 ⟨hb4,u0,u1,u2,u3,u4,u5,rfl,hu⟩;refine hK2 _ _ ?_;clear hK2 K2;have hJ4:=hJb i W3 W4 hJ3 hb4;obtain ⟨fnr,tmr,asr,bdr,hy,hRd⟩:=hY i W4 u0 u1 u2 u3 u4 u5 hi hJ4 hu;refine wpAnyIn_ready (rs:=[5]) (by kernel_rfl) (by simp) ?_;refine AllReadyIn.cons rfl (fun K2 hK2=>?_) AllReadyIn.nil
   go_simp
   refine hRd.mono ?_;rintro e W5 (⟨hlt,rfl,hJ5⟩ | ⟨hiR,rfl,hx⟩)
   ·refine hK2 _ _ ?_;refine wpAnyIn_done (by kernel_rfl) ?_ _
    gi_wp2
    exact ⟨R-(i+1),by omega,i+1,_,rfl,by omega,rfl,⟨rfl,rfl,rfl,congrArg (Value.int .i64) (by rw [Nat.pow_succ];omega)⟩,hJ5⟩
   ·refine hK2 _ _ ?_;refine wpAnyIn_done (by kernel_rfl) ?_ _
    gi_wp2
    simp [bodyPost,results,show f105.results = #[] from rfl,go_sem];exact hx
  ·go_simp
   refine ⟨trivial,?_⟩;refine (callsIn_wide.2 hgrid).mono ?_;rintro e W3 ⟨hb3,f0,f1,f2,f3,f4,f5,rfl,hf⟩;refine hK2 _ _ ?_;clear hK2 K2;have hJ3:=hJb i Wd W3 hJd hb3;obtain ⟨hM3,hv3⟩:=hJf i W3 hJ3
   have hcell3:W3.cell? ⟨b,off,none⟩=some fv:=by
    rw [←hcell];simp [World.cell?,hb3.block b hblt]
   have hfv3:=aN.mono _ (aY.below hb3) hfv;obtain ⟨cvs,rfl,hcvs⟩:=hfv3;refine wpAnyIn_ready (rs:=[1]) (by kernel_rfl) (by simp) ?_;refine AllReadyIn.cons rfl (fun K2 hK2=>?_) AllReadyIn.nil
   go_simp
   refine hK2 _ _ ?_;clear hK2 K2;refine wpAnyIn_ready (rs:=[4]) (by kernel_rfl) (by simp) ?_;refine AllReadyIn.cons rfl (fun K2 hK2=>?_) AllReadyIn.nil;have he:=hVi.1
   go_simp
   refine ⟨trivial,?_⟩;have hval:=iM (a:=(V i).1) (b:=(V i).2) hVi hM3 (vs:=.agg #[f0,f1,f2,f3,f4,f5]::cvs) ⟨⟨_,rfl,hf⟩,bX.oO hcvs⟩;refine (callsIn_wide.2 hval).mono ?_;rintro e W4 ⟨hb4,u0,u1,u2,u3,u4,u5,rfl,hu⟩;refine hK2 _ _ ?_;clear hK2 K2;have hJ4:=hJb i W3 W4 hJ3 hb4;obtain ⟨fnr,tmr,asr,bdr,hy,hRd⟩:=hY i W4 u0 u1 u2 u3 u4 u5 hi hJ4 hu;refine wpAnyIn_ready (rs:=[5]) (by kernel_rfl) (by simp) ?_;refine AllReadyIn.cons rfl (fun K2 hK2=>?_) AllReadyIn.nil
   go_simp
   refine hRd.mono ?_;rintro e W5 (⟨hlt,rfl,hJ5⟩ | ⟨hiR,rfl,hx⟩)
   ·refine hK2 _ _ ?_;refine wpAnyIn_done (by kernel_rfl) ?_ _
    gi_wp2
    exact ⟨R-(i+1),by omega,i+1,_,rfl,by omega,rfl,⟨rfl,rfl,rfl,congrArg (Value.int .i64) (by rw [Nat.pow_succ];omega)⟩,hJ5⟩
   ·refine hK2 _ _ ?_;refine wpAnyIn_done (by kernel_rfl) ?_ _
    gi_wp2
    simp [bodyPost,results,show f105.results = #[] from rfl,go_sem];exact hx
end Go.Sy
