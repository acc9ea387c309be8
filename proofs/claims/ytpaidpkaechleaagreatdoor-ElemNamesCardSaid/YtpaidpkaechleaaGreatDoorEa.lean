/- Part. -/
import Derived.Test.YtpaidpkaechleaaGreatDoorWa
import Derived.Sort.LoopGhostIn
set_option linter.all false
namespace Go.Sy
open Go Go.Proofs Tryz Ord
def MG:Tr:=.ret [(WK 0),(tF false)]
def TZ:Tr:=JN 0 0 12 0 24 40 41 (DV 16 0 none 167 42 (.need (.prim [(W 17 0)] none) (.convert 167 2 (tT 43)) 2 false (cX .mul 2 36 44 15 0 18 0 2 (cX .add 2 33 45 14 0 19 0 2 (aX .sub 3 30 1 12 0 3 (.back 0 [lV 20 0,lV 21 0]))))))
def Un:Tr:=kC 0 0 25 24 (aX .sub 3 26 1 9 0 3 (.loop 0 [lK 0,lV 10 0] (aX .geq 3 28 0 12 0 4 (.split (.u 13 0) (aX .mul 2 32 1000000000 11 0 2 (aI 73 [(G2 0)] [none] [35] [28] 3 false TZ)) (.ret [(W 11 0),(tF true)])))))
def YP:Tr:=aI 68 [(G3 0),(G3 3)] [none] [11,12] [30,30] 3 false (aX .lss 3 13 0 4 0 4 (.split (.u 5 0) MG (.need (.call 22 [(WK 9223372036854775807)] [(some 3)]) (.call ⟨.value (.func 22),#[(.const (I3 9223372036854775807))],#[2]⟩) 30 false (aI 68 [(G3 0),(G3 6)] [none] [17,18] [30,30] 3 false (aX .gtr 3 19 0 7 0 4 (.split (.u 8 0) MG Un))))))
def ZI:Tr:=aI 90 [(.agg [(U 0 2)])] [none] [7] [26] 4 false (.need (.prim [(W 1 0)] none) (.unOp .not 4 (tT 8)) 4 false (.split (.u 2 0) MG (.need (.call 22 [(WK (-9223372036854775808))] [(some 3)]) (.call ⟨.value (.func 22),#[(.const (I3 (-9223372036854775808)))],#[2]⟩) 30 false YP)))
theorem tO:aN prog f127 (fun _=>none) [.v (some 3)]=ZI:=by kernel_rfl
theorem kM (z:Nat) (h0:0<z:=by omega) (hz:z<1000000000:=by omega):aD prog 127 [(qT ((z:Int):Rat):aE)] (.ret [.one (.int .i64 (z:Int)), .one (.bool true)]):=by
 refine bU func127 tO ?_;have hzf:Fit 64 ((z:Int):Rat):=kJ;have hdg:dg z = [z]:=iB h0 hz;apply aA (hC (((z:Int):Rat).den-1)) rfl;rw [show decide (((z:Int):Rat).den-1=0)=true from rfl];apply vn oE rfl;refine aQ false rfl (fun h=>by cases h) (fun _=>?_);apply aA (aY (-9223372036854775808)) rfl;apply aA (bE ((z:Int):Rat) ((-9223372036854775808:Int):Rat) 64 64 hzf (Fit.int (by omega) (by decide))) rfl;dsimp only [aF,aG];apply vn bA rfl;refine vs _ rfl ?_ ?_<;>intro h7
 ·exact absurd (Rat.intCast_lt_intCast.1 (kX.1 h7)) (by omega)
 apply aA (aY 9223372036854775807) rfl;apply aA (bE ((z:Int):Rat) ((9223372036854775807:Int):Rat) 64 64 hzf (Fit.int (by omega) (by decide))) rfl;apply vn bJ rfl;dsimp only [aF,aG];refine vs _ rfl ?_ ?_<;>intro h12
 ·exact absurd (Rat.intCast_lt_intCast.1 (gU.1 h12)) (by omega)
 apply vn (cF cI (show (rT (dg ((z:Int):Rat).num.natAbs)).length=1 by rw [show ((z:Int):Rat).num.natAbs=z from rfl,hdg];rfl)) rfl;apply vn (aW) rfl;refine cT {p:Int×Int // p=(0,0)∨p=((z:Int),-1)} (fun g=>[.one (.int .i64 g.1.1), .one (.int .i64 g.1.2)]) (fun g=>(g.1.2+1).toNat) ⟨(0,0), .inl rfl⟩ aV.rfl (fun _=>rfl) ?_;rintro ⟨⟨acc,i⟩,hp⟩;dsimp only [aF,aG] at hp ⊢;apply vn iE rfl;refine vs _ rfl ?_ ?_<;>intro h18
 ·have hi:acc=0∧i=0:=by
   rcases hp with e | e<;>obtain ⟨rfl,rfl⟩:=Prod.mk.inj e
   ·exact ⟨rfl,rfl⟩
   ·omega
  obtain ⟨rfl,rfl⟩:=hi;apply vn (cU) rfl;apply aA (Ji (z:Int)) rfl;rw [Int.sign_eq_one_of_pos (by omega)];dsimp only [aF,aG];apply vn (Kq cI (show (rT (dg z))[(0:Int).toNat]? = some [.int .u32 (z:Int)] by rw [hdg];rfl)) rfl;apply vn (gD lP) rfl;apply vn (fD ⟨_,eO⟩ PX (c:=(z:Int)) (by rw [IntKind.wrap_i64];omega)) rfl;apply vn (cU) rfl;dsimp only [aF,aG];apply vn (aH) rfl;apply vn (aW) rfl
  exact bF rfl ⟨⟨((z:Int),-1), .inr rfl⟩,(by
   dsimp only;rw [show (0:Int)*1000000000+1*(z:Int)=(z:Int) by omega];exact aV.rfl),by show ((-1:Int)+1).toNat<((0:Int)+1).toNat;decide⟩
 have hi:acc=(z:Int):=by
  rcases hp with e | e<;>obtain ⟨rfl,rfl⟩:=Prod.mk.inj e
  ·omega
  ·rfl
 rw [hi];exact aK rfl
open Go Go.Proofs Tryz Ord
def Jo:Tr:=.ret [(WK 2)]
def nT:Tr:=.ret [(WK 11)]
def jM:Tr:=.ret [(WK 3)]
def eV:Tr:=.ret [(WK 0)]
def Nr:Tr:=aX .gtr 3 49 0 15 0 4 (.split (.u 16 0) jM eV)
def ND:Tr:=aI 70 [(G3 1)] [(some 3)] [46] [30] 30 false (aI 68 [(G3 14),(G3 4)] [none] [47,48] [30,30] 3 false Nr)
def Nz:Tr:=aX .gtr 3 49 0 16 0 4 (.split (.u 17 0) jM eV)
def UE:Tr:=.split (.u 14 0) (aI 70 [(G3 1)] [(some 3)] [46] [30] 30 false (aI 68 [(G3 15),(G3 4)] [none] [47,48] [30,30] 3 false Nz)) (.need (.prim [(W 0 0),(.one (.c (.k (.int .u8 4))))] none) (.binOp .eql 5 (tT 42) (.const (.int .u8 4)) 5) 4 false (.split (.u 15 0) (aI 70 [(G3 1)] [(some 3)] [46] [30] 30 false (aI 68 [(G3 16),(G3 4)] [none] [47,48] [30,30] 3 false (aX .gtr 3 49 0 17 0 4 (.split (.u 18 0) jM eV)))) eV))
def MX:Tr:=aX .gtr 3 49 0 13 0 4 (.split (.u 14 0) jM eV)
def MT:Tr:=aI 70 [(G3 1)] [(some 3)] [46] [30] 30 false (aI 68 [(G3 12),(G3 4)] [none] [47,48] [30,30] 3 false MX)
def NP:Tr:=aX .gtr 3 49 0 14 0 4 (.split (.u 15 0) jM eV)
def Ok:Tr:=.need (.prim [(W 0 0),(.one (.c (.k (.int .u8 1))))] none) (.binOp .eql 5 (tT 35) (.const (.int .u8 1)) 5) 4 false (.split (.u 11 0) MT (.need (.prim [(W 0 0),(.one (.c (.k (.int .u8 3))))] none) (.binOp .eql 5 (tT 38) (.const (.int .u8 3)) 5) 4 false (.split (.u 12 0) (aI 70 [(G3 1)] [(some 3)] [46] [30] 30 false (aI 68 [(G3 13),(G3 4)] [none] [47,48] [30,30] 3 false NP)) (.need (.prim [(W 0 0),(.one (.c (.k (.int .u8 4))))] none) (.binOp .eql 5 (tT 42) (.const (.int .u8 4)) 5) 4 false (.split (.u 13 0) ND eV)))))
def Tx:Tr:=.split (.u 10 0) (aI 17 [(G3 1)] [none] [29] [30] 3 false (aX .lss 3 30 0 11 0 4 (.split (.u 12 0) nT (.need (.prim [(W 0 0),(.one (.c (.k (.int .u8 1))))] none) (.binOp .eql 5 (tT 35) (.const (.int .u8 1)) 5) 4 false (.split (.u 13 0) ND (.need (.prim [(W 0 0),(.one (.c (.k (.int .u8 3))))] none) (.binOp .eql 5 (tT 38) (.const (.int .u8 3)) 5) 4 false UE)))))) Ok
def KU:Tr:=aX .gtr 3 49 0 11 0 4 (.split (.u 12 0) jM eV)
def Kr:Tr:=aX .gtr 3 49 0 12 0 4 (.split (.u 13 0) jM eV)
def TD:Tr:=.split (.u 8 0) (aI 17 [(G3 1)] [none] [29] [30] 3 false (aX .lss 3 30 0 9 0 4 (.split (.u 10 0) nT Ok))) (.need (.prim [(W 0 0),(.one (.c (.k (.int .u8 1))))] none) (.binOp .eql 5 (tT 35) (.const (.int .u8 1)) 5) 4 false (.split (.u 9 0) (aI 70 [(G3 1)] [(some 3)] [46] [30] 30 false (aI 68 [(G3 10),(G3 4)] [none] [47,48] [30,30] 3 false KU)) (.need (.prim [(W 0 0),(.one (.c (.k (.int .u8 3))))] none) (.binOp .eql 5 (tT 38) (.const (.int .u8 3)) 5) 4 false (.split (.u 10 0) (aI 70 [(G3 1)] [(some 3)] [46] [30] 30 false (aI 68 [(G3 11),(G3 4)] [none] [47,48] [30,30] 3 false Kr)) (.need (.prim [(W 0 0),(.one (.c (.k (.int .u8 4))))] none) (.binOp .eql 5 (tT 42) (.const (.int .u8 4)) 5) 4 false (.split (.u 11 0) MT eV))))))
def YW:Tr:=.split (.u 6 0) Jo (.need (.prim [(W 0 0),(.one (.c (.k (.int .u8 2))))] none) (.binOp .eql 5 (tT 18) (.const (.int .u8 2)) 5) 4 false (.split (.u 7 0) (aI 17 [(G3 1)] [none] [21] [30] 3 false (aX .leq 3 22 0 8 0 4 (.split (.u 9 0) nT (.need (.prim [(W 0 0),(.one (.c (.k (.int .u8 6))))] none) (.binOp .eql 5 (tT 26) (.const (.int .u8 6)) 5) 4 false Tx)))) (.need (.prim [(W 0 0),(.one (.c (.k (.int .u8 6))))] none) (.binOp .eql 5 (tT 26) (.const (.int .u8 6)) 5) 4 false TD)))
def Kt:Tr:=aI 70 [(G3 1)] [(some 3)] [46] [30] 30 false (aI 68 [(G3 13),(G3 2)] [none] [47,48] [30,30] 3 false NP)
def Qo:Tr:=.split (.u 12 0) Kt (.need (.prim [(W 0 0),(.one (.c (.k (.int .u8 3))))] none) (.binOp .eql 5 (tT 38) (.const (.int .u8 3)) 5) 4 false (.split (.u 13 0) (aI 70 [(G3 1)] [(some 3)] [46] [30] 30 false (aI 68 [(G3 14),(G3 2)] [none] [47,48] [30,30] 3 false Nr)) (.need (.prim [(W 0 0),(.one (.c (.k (.int .u8 4))))] none) (.binOp .eql 5 (tT 42) (.const (.int .u8 4)) 5) 4 false (.split (.u 14 0) (aI 70 [(G3 1)] [(some 3)] [46] [30] 30 false (aI 68 [(G3 15),(G3 2)] [none] [47,48] [30,30] 3 false Nz)) eV))))
def KY:Tr:=aI 70 [(G3 1)] [(some 3)] [46] [30] 30 false (aI 68 [(G3 11),(G3 2)] [none] [47,48] [30,30] 3 false Kr)
def Lj:Tr:=.need (.prim [(W 0 0),(.one (.c (.k (.int .u8 1))))] none) (.binOp .eql 5 (tT 35) (.const (.int .u8 1)) 5) 4 false (.split (.u 10 0) KY (.need (.prim [(W 0 0),(.one (.c (.k (.int .u8 3))))] none) (.binOp .eql 5 (tT 38) (.const (.int .u8 3)) 5) 4 false (.split (.u 11 0) (aI 70 [(G3 1)] [(some 3)] [46] [30] 30 false (aI 68 [(G3 12),(G3 2)] [none] [47,48] [30,30] 3 false MX)) (.need (.prim [(W 0 0),(.one (.c (.k (.int .u8 4))))] none) (.binOp .eql 5 (tT 42) (.const (.int .u8 4)) 5) 4 false (.split (.u 12 0) Kt eV)))))
def QS:Tr:=.split (.u 8 0) nT (.need (.prim [(W 0 0),(.one (.c (.k (.int .u8 6))))] none) (.binOp .eql 5 (tT 26) (.const (.int .u8 6)) 5) 4 false (.split (.u 9 0) (aI 17 [(G3 1)] [none] [29] [30] 3 false (aX .lss 3 30 0 10 0 4 (.split (.u 11 0) nT (.need (.prim [(W 0 0),(.one (.c (.k (.int .u8 1))))] none) (.binOp .eql 5 (tT 35) (.const (.int .u8 1)) 5) 4 false Qo)))) Lj))
def Rm:Tr:=.split (.u 7 0) (aI 17 [(G3 1)] [none] [29] [30] 3 false (aX .lss 3 30 0 8 0 4 (.split (.u 9 0) nT Lj))) (.need (.prim [(W 0 0),(.one (.c (.k (.int .u8 1))))] none) (.binOp .eql 5 (tT 35) (.const (.int .u8 1)) 5) 4 false (.split (.u 8 0) (aI 70 [(G3 1)] [(some 3)] [46] [30] 30 false (aI 68 [(G3 9),(G3 2)] [none] [47,48] [30,30] 3 false (aX .gtr 3 49 0 10 0 4 (.split (.u 11 0) jM eV)))) (.need (.prim [(W 0 0),(.one (.c (.k (.int .u8 3))))] none) (.binOp .eql 5 (tT 38) (.const (.int .u8 3)) 5) 4 false (.split (.u 9 0) (aI 70 [(G3 1)] [(some 3)] [46] [30] 30 false (aI 68 [(G3 10),(G3 2)] [none] [47,48] [30,30] 3 false KU)) (.need (.prim [(W 0 0),(.one (.c (.k (.int .u8 4))))] none) (.binOp .eql 5 (tT 42) (.const (.int .u8 4)) 5) 4 false (.split (.u 10 0) KY eV))))))
def Qt:Tr:=.split (.u 4 0) Jo (.need (.prim [(W 0 0),(.one (.c (.k (.int .u8 6))))] none) (.binOp .gtr 5 (tT 14) (.const (.int .u8 6)) 5) 4 false (.split (.u 5 0) Jo (.need (.prim [(W 0 0),(.one (.c (.k (.int .u8 2))))] none) (.binOp .eql 5 (tT 18) (.const (.int .u8 2)) 5) 4 false (.split (.u 6 0) (aI 17 [(G3 1)] [none] [21] [30] 3 false (aX .leq 3 22 0 7 0 4 QS)) (.need (.prim [(W 0 0),(.one (.c (.k (.int .u8 6))))] none) (.binOp .eql 5 (tT 26) (.const (.int .u8 6)) 5) 4 false Rm)))))
def WS:Tr:=.need (.call 22 [(WK 1000)] [(some 3)]) (.call ⟨.value (.func 22),#[(.const (I3 1000))],#[2]⟩) 30 true (.need (.prim [(W 0 0),(.one (.c (.k (.int .u8 1))))] none) (.binOp .eql 5 (tT 7) (.const (.int .u8 1)) 5) 4 false (.split (.u 3 0) (.need (.call 22 [(WK 64)] [(some 3)]) (.call ⟨.value (.func 22),#[(.const (I3 64))],#[2]⟩) 30 true (.need (.prim [(W 0 0),(.one (.c (.k (.int .u8 1))))] none) (.binOp .lss 5 (tT 11) (.const (.int .u8 1)) 5) 4 false (.split (.u 5 0) Jo (.need (.prim [(W 0 0),(.one (.c (.k (.int .u8 6))))] none) (.binOp .gtr 5 (tT 14) (.const (.int .u8 6)) 5) 4 false YW)))) (.need (.prim [(W 0 0),(.one (.c (.k (.int .u8 1))))] none) (.binOp .lss 5 (tT 11) (.const (.int .u8 1)) 5) 4 false Qt)))
theorem cQ:aN prog f81 (fun _=>none) [.v none, .v (some 3)]=WS:=by kernel_rfl
def Ot:Tr:=.ret [(.agg [tN,(tE (.bool false)),tN]),(W 6 0)]
def Uz:Tr:=aI 17 [(G3 12)] [none] [42] [30] 3 false (aX .eql 3 43 0 13 0 4 (.split (.u 14 0) (aI 104 [(G6 10)] [(some 3)] [46] [39] 30 false (aI 17 [(G3 15)] [none] [47] [30] 3 false (aX .eql 3 48 0 16 0 4 (.ret [(G3 11),(W 17 0)])))) (.ret [(G3 11),(tF false)])))
def Up:Tr:=aI 128 [(.agg [(U 0 1),(U 0 2),(U 0 3)])] [(some 3)] [28] [30] 30 false (.need (.call 35 [(G6 5),(G3 6),(WK 2)] [(some 6)]) (.call ⟨.value (.func 35),#[(tT 26),(tT 29),(.const (I3 2))],#[81,30,3]⟩) 39 false (.need (.call 34 [(WK 0)] [(some 6)]) (.call ⟨.value (.func 34),#[(.const (I3 0))],#[3]⟩) 81 false (aI 129 [(.agg [(U 0 1),(U 0 2),(U 0 3)])] [(some 3)] [33] [30] 30 false (.need (.call 35 [(G6 8),(G3 9),(WK 2)] [(some 6)]) (.call ⟨.value (.func 35),#[(tT 31),(tT 34),(.const (I3 2))],#[81,30,3]⟩) 39 true (aI 66 [(G3 7),(G3 10)] [(some 3)] [37,39] [30,30] 30 false (aI 104 [(G6 7)] [(some 3)] [41] [39] 30 false Uz))))))
def ZQ:Tr:=.split (.u 2 0) (aI 69 [] [(some 3)] [] [] 30 false (aI 17 [(.agg [(U 0 1),(U 0 2),(U 0 3)])] [none] [13] [30] 3 true (aX .eql 3 14 0 4 0 4 (.ret [(G3 3),(W 5 0)])))) (.need (.prim [(W 0 0),(.one (.c (.k (.int .u8 2))))] none) (.binOp .eql 5 (tT 7) (.const (.int .u8 2)) 5) 4 false (.split (.u 3 0) (aI 69 [] [(some 3)] [] [] 30 false (aI 68 [(.agg [(U 0 1),(U 0 2),(U 0 3)]),(G3 4)] [none] [20,21] [30,30] 3 true (aX .eql 3 22 0 5 0 4 Ot))) (.need (.prim [(W 0 0),(.one (.c (.k (.int .u8 6))))] none) (.binOp .eql 5 (tT 7) (.const (.int .u8 6)) 5) 4 false (.split (.u 4 0) (.need (.call 34 [(WK 0)] [(some 6)]) (.call ⟨.value (.func 34),#[(.const (I3 0))],#[3]⟩) 81 false Up) (aI 17 [(.agg [(U 0 1),(U 0 2),(U 0 3)])] [none] [53] [30] 3 true (aX .eql 3 54 0 5 0 4 Ot))))))
def WC:Tr:=.need (.prim [(W 0 0),(.one (.c (.k (.int .u8 1))))] none) (.binOp .eql 5 (tT 7) (.const (.int .u8 1)) 5) 4 false (.split (.u 1 0) (aI 69 [] [(some 3)] [] [] 30 false (aI 17 [(.agg [(U 0 1),(U 0 2),(U 0 3)])] [none] [13] [30] 3 true (aX .eql 3 14 0 3 0 4 (.ret [(G3 2),(W 4 0)])))) (.need (.prim [(W 0 0),(.one (.c (.k (.int .u8 4))))] none) (.binOp .eql 5 (tT 7) (.const (.int .u8 4)) 5) 4 false ZQ))
theorem eP:aN prog f87 (fun _=>none) [.v (some 4)]=WC:=by kernel_rfl
def VN:Tr:=aI 167 [(G6 0),(G6 16)] [(some 6)] [30,33] [81,39] 39 true (.loop 0 [lK 0,lV 8 0,lV 8 1,lV 8 2,lV 8 3,lV 8 4,lV 8 5] (cX .lss 2 36 35 18 0 13 0 4 (.split (.u 25 0) (aI 150 [(G6 0),(.agg [(U 19 0),(U 20 0),(U 21 0),(U 22 0),(U 23 0),(U 24 0)]),(G6 17)] [(some 6)] [38,39,40] [81,39,39] 39 true (aX .add 2 36 1 18 0 2 (.back 0 [lV 27 0,lV 26 0,lV 26 1,lV 26 2,lV 26 3,lV 26 4,lV 26 5]))) (.ret [(.agg [(U 19 0),(U 20 0),(U 21 0),(U 22 0),(U 23 0),(U 24 0)])]))))
def UL:Tr:=.split (.u 12 0) (.need (.prim [(W 3 0)] none) (.unOp .neg 2 (tT 28)) 2 false (aI 69 [] [(some 3)] [] [] 30 false (aI 36 [(G3 14)] [(some 3)] [31] [30] 30 false (aI 92 [(G3 15)] [(some 6)] [32] [30] 39 false VN)))) (.loop 0 [lK 0,lV 8 0,lV 8 1,lV 8 2,lV 8 3,lV 8 4,lV 8 5] (cX .lss 2 36 35 13 0 3 0 4 (.split (.u 20 0) (aI 150 [(G6 0),(.agg [(U 14 0),(U 15 0),(U 16 0),(U 17 0),(U 18 0),(U 19 0)]),(G6 11)] [(some 6)] [38,39,40] [81,39,39] 39 true (aX .add 2 36 1 13 0 2 (.back 0 [lV 22 0,lV 21 0,lV 21 1,lV 21 2,lV 21 3,lV 21 4,lV 21 5]))) (.ret [(.agg [(U 14 0),(U 15 0),(U 16 0),(U 17 0),(U 18 0),(U 19 0)])]))))
def YO:Tr:=aI 72 [(G3 1),(G3 5)] [(some 3)] [16,18] [30,30] 30 false (aI 92 [(G3 6)] [(some 6)] [19] [30] 39 true (aI 167 [(G6 0),(G6 7)] [(some 6)] [15,20] [81,39] 39 true (aI 69 [] [(some 3)] [] [] 30 false (aI 92 [(G3 9)] [(some 6)] [23] [30] 39 true (aI 167 [(G6 0),(G6 10)] [(some 6)] [22,24] [81,39] 39 true (aX .lss 2 26 0 3 0 4 UL))))))
def ZB:Tr:=aI 99 [(G3 1)] [(some 3)] [10] [30] 30 false (aI 127 [(G3 2)] [none,none] [11] [30] 155 false (aI 99 [(G3 1)] [(some 3)] [17] [30] 30 false YO))
theorem KM:aN prog f166 (fun _=>none) [.v (some 6), .v (some 3)]=ZB:=by kernel_rfl
theorem Lm  :aD prog 81 [(.one (.int .u8 1):aE),(qT (((1:Int):Rat)):aE)] (.ret [.one (.int .i64 0)]):=by
 refine bU func81 cQ ?_;apply aA (aY 1000) rfl;apply vn aC rfl;refine aQ true rfl (fun _=>?_) (fun h=>by cases h);apply aA (aY 64) rfl;apply vn bA rfl;dsimp only [aF,aG];refine aQ false rfl (fun h=>by cases h) (fun _=>?_);apply vn bJ rfl;refine aQ false rfl (fun h=>by cases h) (fun _=>?_);apply vn aC rfl;refine aQ false rfl (fun h=>by cases h) (fun _=>?_);apply vn aC rfl;refine aQ false rfl (fun h=>by cases h) (fun _=>?_);apply vn aC rfl;dsimp only [aF,aG];refine aQ true rfl (fun _=>?_) (fun h=>by cases h);apply aA (fZ (((1:Int):Rat))) rfl;apply aA (bE (((1:Int):Rat)).abs ((64:Int):Rat) 8 16 ⟨by decide +kernel,by decide +kernel⟩ ⟨by decide +kernel,by decide +kernel⟩) rfl;rw [show dM (((1:Int):Rat)).abs ((64:Int):Rat) = -1 by decide +kernel];apply vn bJ rfl;refine aQ false rfl (fun h=>by cases h) (fun _=>?_);exact aK rfl
theorem Qa  :aD prog 81 [(.one (.int .u8 6):aE),(qT (aZ ((9:Int):Rat) ((4:Int):Rat)):aE)] (.ret [.one (.int .i64 0)]):=by
 refine bU func81 cQ ?_;apply aA (aY 1000) rfl;apply vn aC rfl;refine aQ false rfl (fun h=>by cases h) (fun _=>?_);apply vn bA rfl;refine aQ false rfl (fun h=>by cases h) (fun _=>?_);apply vn bJ rfl;dsimp only [aF,aG];refine aQ false rfl (fun h=>by cases h) (fun _=>?_);apply vn aC rfl;refine aQ false rfl (fun h=>by cases h) (fun _=>?_);apply vn aC rfl;refine aQ true rfl (fun _=>?_) (fun h=>by cases h);apply aA (bB (aZ ((9:Int):Rat) ((4:Int):Rat))) rfl;rw [show (aZ ((9:Int):Rat) ((4:Int):Rat)).num.sign=1 by decide +kernel];apply vn bA rfl;dsimp only [aF,aG];refine aQ false rfl (fun h=>by cases h) (fun _=>?_);apply vn aC rfl;refine aQ false rfl (fun h=>by cases h) (fun _=>?_);apply vn aC rfl;refine aQ false rfl (fun h=>by cases h) (fun _=>?_);apply vn aC rfl;refine aQ false rfl (fun h=>by cases h) (fun _=>?_);exact aK rfl
theorem SK  :aD prog 81 [(.one (.int .u8 5):aE),(qT (((1:Int):Rat)):aE)] (.ret [.one (.int .i64 0)]):=by
 refine bU func81 cQ ?_;apply aA (aY 1000) rfl;apply vn aC rfl;refine aQ false rfl (fun h=>by cases h) (fun _=>?_);apply vn bA rfl;refine aQ false rfl (fun h=>by cases h) (fun _=>?_);apply vn bJ rfl;dsimp only [aF,aG];refine aQ false rfl (fun h=>by cases h) (fun _=>?_);apply vn aC rfl;refine aQ false rfl (fun h=>by cases h) (fun _=>?_);apply vn aC rfl;refine aQ false rfl (fun h=>by cases h) (fun _=>?_);apply vn aC rfl;refine aQ false rfl (fun h=>by cases h) (fun _=>?_);apply vn aC rfl;dsimp only [aF,aG];refine aQ false rfl (fun h=>by cases h) (fun _=>?_);apply vn aC rfl;refine aQ false rfl (fun h=>by cases h) (fun _=>?_);exact aK rfl
theorem Sz  :aD prog 81 [(.one (.int .u8 3):aE),(qT (((3:Int):Rat)):aE)] (.ret [.one (.int .i64 0)]):=by
 refine bU func81 cQ ?_;apply aA (aY 1000) rfl;apply vn aC rfl;refine aQ false rfl (fun h=>by cases h) (fun _=>?_);apply vn bA rfl;refine aQ false rfl (fun h=>by cases h) (fun _=>?_);apply vn bJ rfl;dsimp only [aF,aG];refine aQ false rfl (fun h=>by cases h) (fun _=>?_);apply vn aC rfl;refine aQ false rfl (fun h=>by cases h) (fun _=>?_);apply vn aC rfl;refine aQ false rfl (fun h=>by cases h) (fun _=>?_);apply vn aC rfl;refine aQ false rfl (fun h=>by cases h) (fun _=>?_);apply vn aC rfl;dsimp only [aF,aG];refine aQ true rfl (fun _=>?_) (fun h=>by cases h);apply aA (fZ (((3:Int):Rat))) rfl;apply aA (bE (((3:Int):Rat)).abs ((1000:Int):Rat) 8 16 ⟨by decide +kernel,by decide +kernel⟩ ⟨by decide +kernel,by decide +kernel⟩) rfl;rw [show dM (((3:Int):Rat)).abs ((1000:Int):Rat) = -1 by decide +kernel];apply vn bJ rfl;refine aQ false rfl (fun h=>by cases h) (fun _=>?_);exact aK rfl
theorem Le  :aD prog 87 [(.agg (.int .u8 1::qC (((1:Int):Rat))):aE)] (.ret [qT ((1:Int):Rat), .one (.bool false)]):=by
 refine bU func87 eP ?_;apply vn aC rfl;refine aQ true rfl (fun _=>?_) (fun h=>by cases h);apply aA bW rfl;apply aA (bB _) rfl;rw [show (((1:Int):Rat)).num.sign=1 by decide +kernel];apply vn aC rfl;exact aK rfl
theorem Tm  :aD prog 87 [(.agg (.int .u8 5::qC (((1:Int):Rat))):aE)] (.ret [qT 0, .one (.bool false)]):=by
 refine bU func87 eP ?_;apply vn aC rfl;refine aQ false rfl (fun h=>by cases h) (fun _=>?_);apply vn aC rfl;refine aQ false rfl (fun h=>by cases h) (fun _=>?_);apply vn aC rfl;refine aQ false rfl (fun h=>by cases h) (fun _=>?_);apply vn aC rfl;dsimp only [aF,aG];refine aQ false rfl (fun h=>by cases h) (fun _=>?_);apply aA (bB _) rfl;rw [show (((1:Int):Rat)).num.sign=1 by decide +kernel];apply vn aC rfl;exact iG ⟨mN,aE.Sub.same,trivial⟩
open Go Go.Proofs Tryz Ord
theorem QG  :aD prog 87 [(.agg (.int .u8 6::qC (aZ ((9:Int):Rat) ((4:Int):Rat))):aE)] (.ret [qT (3/2), .one (.bool true)]):=by
 refine bU func87 eP ?_;apply vn aC rfl;refine aQ false rfl (fun h=>by cases h) (fun _=>?_);apply vn aC rfl;refine aQ false rfl (fun h=>by cases h) (fun _=>?_);apply vn aC rfl;refine aQ false rfl (fun h=>by cases h) (fun _=>?_);apply vn aC rfl;dsimp only [aF,aG];refine aQ true rfl (fun _=>?_) (fun h=>by cases h);apply aA (lH 0) rfl;apply aA (RK _) rfl;rw [show (aZ ((9:Int):Rat) ((4:Int):Rat)).num=9 by decide +kernel];apply aA (lI ((9:Int):Rat) 2 (aP 0) (bZ 0) 9 3 4 8 8 (by decide +kernel) ⟨by decide +kernel,by decide +kernel⟩ ⟨by decide +kernel,by decide +kernel⟩ ⟨by decide +kernel,by decide +kernel⟩) rfl;rw [show kF ((9:Int):Rat) 2 (bZ 0) 3=(3,3) by decide +kernel];apply aA (lH 0) rfl;dsimp only [aF,aG];apply aA (Rn _ 8 ⟨by decide +kernel,by decide +kernel⟩) rfl;rw [show (aZ ((9:Int):Rat) ((4:Int):Rat)).den=4 by decide +kernel];apply aA (lI (((4:Nat):Int):Rat) 2 (aP 0) (bZ 0) 4 2 4 8 8 (by decide +kernel) ⟨by decide +kernel,by decide +kernel⟩ ⟨by decide +kernel,by decide +kernel⟩ ⟨by decide +kernel,by decide +kernel⟩) rfl;rw [show kF (((4:Nat):Int):Rat) 2 (bZ 0) 2=(2,2) by decide +kernel];apply aA (bD 3 2 8 8 ⟨by decide +kernel,by decide +kernel⟩ ⟨by decide +kernel,by decide +kernel⟩) rfl;rw [show aZ 3 2=3/2 by decide +kernel];apply aA (nC 3 3 8 8 ⟨by decide +kernel,by decide +kernel⟩ ⟨by decide +kernel,by decide +kernel⟩) rfl;rw [show (3:Rat)-3=0 by decide +kernel];dsimp only [aF,aG];apply aA (bB 0) rfl;apply vn aC rfl;refine aQ true rfl (fun _=>?_) (fun h=>by cases h);apply aA (nC 2 2 8 8 ⟨by decide +kernel,by decide +kernel⟩ ⟨by decide +kernel,by decide +kernel⟩) rfl;rw [show (2:Rat)-2=0 by decide +kernel];apply aA (bB 0) rfl;dsimp only [aF,aG];apply vn aC rfl;exact aK rfl
open Go Go.Proofs Tryz Ord
instance (B:Nat) (q:Rat):Decidable (Fit B q):=by unfold Fit;infer_instance
theorem Oo {up down:Rat} {s:Rat×Rat} {N W:Nat} (K:lU up down s N W):Fit (9*(1+(N+1)*(W+2+1)+2*W)) (pC up down s N).1∧Fit (9*(1+(N+1)*(W+2+1)+2*W)) (pC up down s N).2:=by
 have hsf:=sW K.hf K.hW.1;exact Mi (o:=nB (sO up down (kA s (mkRat 1 (2^2)))) N) hsf.1 hsf.2 K.hu.1 K.hu.2 (by omega) 2
def Gz (up down:Rat) (st o:Rat×Rat):Nat→Rat×Rat
 | 0=>o
 | i+1=>mU up down (FF (Gz up down st o i) st)
theorem jQ (up down:Rat) (N0 N1 W:Nat) (K0:lU up down (((1:Int):Rat)-((1:Int):Rat),((1:Int):Rat)-((1:Int):Rat)) N0 W) (K1:lU up down (((1:Int):Rat),((1:Int):Rat)) N1 W):aD prog 166 [(gF up down:aE),(qT ((1:Int):Rat):aE)] (.ret [dK (Gz up down (pC up down (((1:Int):Rat),((1:Int):Rat)) N1) (pC up down (((1:Int):Rat)-((1:Int):Rat),((1:Int):Rat)-((1:Int):Rat)) N0) 1)]):=by
 refine bU func166 KM ?_;have f0:=Oo K0;have f1:=Oo K1;obtain ⟨A0,hA0⟩:∃ A,A=9*(1+(N0+1)*(W+2+1)+2*W):=⟨_,rfl⟩
 obtain ⟨A1,hA1⟩:∃ A,A=9*(1+(N1+1)*(W+2+1)+2*W):=⟨_,rfl⟩
 have b0:(N0+1)*(W+2+1)≤1001*10003:=Nat.mul_le_mul (by have:=K0.hN;omega) (by have:=K0.hW;omega);have b1:(N1+1)*(W+2+1)≤1001*10003:=Nat.mul_le_mul (by have:=K1.hN;omega) (by have:=K1.hW;omega);have hW:=K0.hW;have hu:=K0.hu;rw [←hA0] at f0;rw [←hA1] at f1;have h1f:Fit 2 ((1:Int):Rat):=Fit.int (by omega) (by omega);apply aA (fB ((1:Int):Rat) 2 h1f) rfl;rw [Og];apply aA (kM 1) rfl;apply aA (fB ((1:Int):Rat) 2 h1f) rfl;rw [Og];apply aA (jW ((1:Int):Rat) ((1:Int):Rat) 2 2 h1f h1f) rfl;dsimp only [aF,aG];apply aA (sJ _) rfl;apply aA (Rg up down _ N0 W K0) rfl;apply aA bW rfl;apply aA (sJ _) rfl;dsimp only [aF,aG];apply aA (Rg up down _ N1 W K1) rfl;apply vn bA rfl;refine aQ false rfl (fun h=>by cases h) (fun _=>?_);refine cT {i:Nat // i≤1} (fun g=>(.one (.int .i64 g.1):aE)::(eB (Gz up down (pC up down (((1:Int):Rat),((1:Int):Rat)) N1) (pC up down (((1:Int):Rat)-((1:Int):Rat),((1:Int):Rat)-((1:Int):Rat)) N0) g.1).1 (Gz up down (pC up down (((1:Int):Rat),((1:Int):Rat)) N1) (pC up down (((1:Int):Rat)-((1:Int):Rat),((1:Int):Rat)-((1:Int):Rat)) N0) g.1).2).map .one) (fun g=>1-g.1) ⟨0,fP _⟩ aV.rfl (fun _=>rfl) ?_;rintro ⟨i,hi⟩;dsimp only [aF,aG,List.map] at hi ⊢;apply vn bA rfl;refine vs _ rfl ?_ ?_<;>intro h25
 ·have hi0:i=0:=by omega
  subst hi0;apply aA (mW up down _ _ A0 A1 W f0.1 f0.2 f1.1 f1.2 hu.1 hu.2) rfl;apply vn (aH) rfl;dsimp only [aF,aG];exact bF rfl ⟨⟨1,by omega⟩,aV.rfl,by show 1-1<1-0;omega⟩
 have hi1:i=1:=by omega
 subst hi1;exact aK rfl
theorem UU:lU (aP 32) (bZ 32) (((1:Int):Rat)-((1:Int):Rat),((1:Int):Rat)-((1:Int):Rat)) 1 100:=⟨by decide +kernel,by decide +kernel,by decide +kernel,by decide +kernel,by decide +kernel,by omega,by omega⟩
theorem Vp:lU (aP 32) (bZ 32) (((1:Int):Rat),((1:Int):Rat)) 9 100:=⟨by decide +kernel,by decide +kernel,by decide +kernel,by decide +kernel,by decide +kernel,by omega,by omega⟩
open Go Go.Proofs Go.RowKit Tryz Ord
theorem zQ {W:World} {b T:Nat} {cs:Array Value} (h:W.heap[b]? = some (.cells cs T (0,0))) (j:Nat):W.frozen? ⟨b,j,none⟩=false:=by
 simp [World.frozen?,h]
theorem eJ {P:Program} {W:World} {b T j:Nat} {cs:Array Value} {u:Value} (h:W.heap[b]? = some (.cells cs T (0,0))) (hj:j<cs.size) (o:u.oneCell'=true) :
  (store ⟨b,j,none⟩ u).run P W = .ok () (W.setRow b (cs.setIfInBounds j u)):=by
 have hcell:W.cell? ⟨b,j,none⟩=some cs[j]:=by simp [World.cell?,h,hj]
 have hfro:W.frozen? ⟨b,j,none⟩=false:=by simp [World.frozen?,h]
 rw [run_store P W _ u _ o,hcell];simp [hfro,setCell_eq_setRow W b j cs T (0,0) u h]
theorem wY {P:Program} {W:World} {b T:Nat} {c0 c1 c2 u0 u1 u2:Value} (h:W.heap[b]? = some (.cells #[c0,c1,c2] T (0,0))) (o0:u0.oneCell'=true) (o1:u1.oneCell'=true) (o2:u2.oneCell'=true) :
  (((store ⟨b,0,none⟩ u0).run P W).andThen fun _ w'=>((store ⟨b,1,none⟩ u1).run P w').andThen fun _ w'=>(store ⟨b,2,none⟩ u2).run P w') = .ok () (W.setRow b #[u0,u1,u2]):=by
 rw [eJ h (by simp) o0,Result.andThen_ok,eJ (setRow_heap W b _ _ T (0,0) h) (by simp) o1,Result.andThen_ok,setRow_setRow,eJ (setRow_heap W b _ _ T (0,0) h) (by simp) o2,setRow_setRow];rfl
theorem below_setRow {n:Nat} {A W:World} {g:Nat} (h:Below n A W) (cs:Array Value) (hg:n≤g:=by omega):Below n A (W.setRow g cs):=
 ⟨h.os,h.tape,h.output,by simpa [World.setRow] using h.size,fun k hk=>by
  rw [setRow_other W g k cs (by omega)];exact h.block k hk⟩
theorem My {M:Nat→Prop} {w:World} {q:Rat} {vs:List Value} (h:bR M w [qT q] vs):∃ v0 v1 v2,pack vs = .agg #[v0,v1,v2]∧aM M w (qC q) [v0,v1,v2]:=by
 match vs,h with
 | [v],h=>
   obtain ⟨⟨us,rfl,hus⟩,_⟩:=h
   match us,hus with
   | [a,b,c],hus=>exact ⟨a,b,c,rfl,hus⟩
   | [],hus=>exact hus.elim
   | [_],hus=>exact hus.2.elim
   | [_,_],hus=>exact hus.2.2.elim
   | _::_::_::_::_,hus=>exact hus.2.2.2.elim
 | [],h=>exact h.elim
 | _::_::_,h=>exact h.2.elim
theorem gK {P:Program} {W:World} {b T:Nat} {c0 c1 c2 c3 c4 c5 u0 u1 u2 u3 u4 u5:Value} (h:W.heap[b]? = some (.cells #[c0,c1,c2,c3,c4,c5] T (0,0))) (o0:u0.oneCell'=true) (o1:u1.oneCell'=true) (o2:u2.oneCell'=true) (o3:u3.oneCell'=true) (o4:u4.oneCell'=true) (o5:u5.oneCell'=true) :
  (((store ⟨b,0,none⟩ u0).run P W).andThen fun _ w'=>((store ⟨b,1,none⟩ u1).run P w').andThen fun _ w'=>((store ⟨b,2,none⟩ u2).run P w').andThen fun _ w'=>((store ⟨b,3,none⟩ u3).run P w').andThen fun _ w'=>((store ⟨b,4,none⟩ u4).run P w').andThen fun _ w'=>(store ⟨b,5,none⟩ u5).run P w') = .ok () (W.setRow b #[u0,u1,u2,u3,u4,u5]):=by
 rw [eJ h (by simp) o0,Result.andThen_ok,eJ (setRow_heap W b _ _ T (0,0) h) (by simp) o1,Result.andThen_ok,setRow_setRow,eJ (setRow_heap W b _ _ T (0,0) h) (by simp) o2,Result.andThen_ok,setRow_setRow,eJ (setRow_heap W b _ _ T (0,0) h) (by simp) o3,Result.andThen_ok,setRow_setRow,eJ (setRow_heap W b _ _ T (0,0) h) (by simp) o4,Result.andThen_ok,setRow_setRow,eJ (setRow_heap W b _ _ T (0,0) h) (by simp) o5,setRow_setRow];rfl
theorem HC {M:Nat→Prop} {w:World} {c0 c1 c2 c3 c4 c5:aL} {vs:List Value} (h:aM M w [c0,c1,c2,c3,c4,c5] vs):∃ u0 u1 u2 u3 u4 u5,vs = [u0,u1,u2,u3,u4,u5]:=by
 have hl:=h.length
 match vs,hl with
 | [u0,u1,u2,u3,u4,u5],_=>exact ⟨u0,u1,u2,u3,u4,u5,rfl⟩
theorem YK {P:Program} {W:World} {b T:Nat} {c0 c1 c2 c3 c4 c5 c6 u0 u1 u2 u3 u4 u5 u6:Value} (h:W.heap[b]? = some (.cells #[c0,c1,c2,c3,c4,c5,c6] T (0,0))) (o0:u0.oneCell'=true) (o1:u1.oneCell'=true) (o2:u2.oneCell'=true) (o3:u3.oneCell'=true) (o4:u4.oneCell'=true) (o5:u5.oneCell'=true) (o6:u6.oneCell'=true) :
  (((store ⟨b,0,none⟩ u0).run P W).andThen fun _ w'=>((store ⟨b,1,none⟩ u1).run P w').andThen fun _ w'=>((store ⟨b,2,none⟩ u2).run P w').andThen fun _ w'=>((store ⟨b,3,none⟩ u3).run P w').andThen fun _ w'=>((store ⟨b,4,none⟩ u4).run P w').andThen fun _ w'=>((store ⟨b,5,none⟩ u5).run P w').andThen fun _ w'=>(store ⟨b,6,none⟩ u6).run P w') = .ok () (W.setRow b #[u0,u1,u2,u3,u4,u5,u6]):=by
 rw [eJ h (by simp) o0,Result.andThen_ok,eJ (setRow_heap W b _ _ T (0,0) h) (by simp) o1,Result.andThen_ok,setRow_setRow,eJ (setRow_heap W b _ _ T (0,0) h) (by simp) o2,Result.andThen_ok,setRow_setRow,eJ (setRow_heap W b _ _ T (0,0) h) (by simp) o3,Result.andThen_ok,setRow_setRow,eJ (setRow_heap W b _ _ T (0,0) h) (by simp) o4,Result.andThen_ok,setRow_setRow,eJ (setRow_heap W b _ _ T (0,0) h) (by simp) o5,Result.andThen_ok,setRow_setRow,eJ (setRow_heap W b _ _ T (0,0) h) (by simp) o6,setRow_setRow];rfl
open Go Go.Proofs Go.RowKit Tryz Ord
attribute [local go_sem] Oper.semAt_some
set_option maxHeartbeats 2000000 in
theorem Pp (w:World):Calls prog 131 #[] w fun e w'=>Below w.heap.size w w'∧e = .returned (.agg #[.nilFunc, .func (.func 166) #[] #[], .func (.func 168) #[] #[], .func (.func 169) #[] #[], .func (.func 171) #[] #[], .func (.func 172) #[] #[], .func (.func 173) #[] #[]]):=by
 refine calls_of_wp func131 rfl ?_;simp only [ntmps131,List.size_toArray,List.length_cons,List.length_nil,Nat.reduceAdd,Nat.reduceSub,Array.replicate_succ,Array.replicate_zero,List.push_toArray,List.append_toArray,List.nil_append,List.cons_append]
 go_wp2
 have hnew:=heap_alloc_new w (.cells #[.nilFunc, .nilFunc, .nilFunc, .nilFunc, .nilFunc, .nilFunc, .nilFunc] 158);rw [YK hnew rfl rfl rfl rfl rfl rfl rfl];have hself:=setRow_heap _ w.heap.size _ #[.nilFunc, .func (.func 166) #[] #[], .func (.func 168) #[] #[], .func (.func 169) #[] #[], .func (.func 171) #[] #[], .func (.func 172) #[] #[], .func (.func 173) #[] #[]] _ _ hnew;have hbel:Below w.heap.size w ((w.alloc (.cells #[.nilFunc, .nilFunc, .nilFunc, .nilFunc, .nilFunc, .nilFunc, .nilFunc] 158)).setRow w.heap.size #[.nilFunc, .func (.func 166) #[] #[], .func (.func 168) #[] #[], .func (.func 169) #[] #[], .func (.func 171) #[] #[], .func (.func 172) #[] #[], .func (.func 173) #[] #[]]):=below_setRow ((Below.refl _ w).alloc (cD _) _) _ (cD _);generalize ((w.alloc _).setRow _ _)=W at hself hbel ⊢;have k0:W.cell? ⟨w.heap.size,0,none⟩=some .nilFunc:=aB hself rfl;have k1:W.cell? ⟨w.heap.size,1,none⟩=some (.func (.func 166) #[] #[]):=aB hself rfl;have k2:W.cell? ⟨w.heap.size,2,none⟩=some (.func (.func 168) #[] #[]):=aB hself rfl;have k3:W.cell? ⟨w.heap.size,3,none⟩=some (.func (.func 169) #[] #[]):=aB hself rfl;have k4:W.cell? ⟨w.heap.size,4,none⟩=some (.func (.func 171) #[] #[]):=aB hself rfl;have k5:W.cell? ⟨w.heap.size,5,none⟩=some (.func (.func 172) #[] #[]):=aB hself rfl;have k6:W.cell? ⟨w.heap.size,6,none⟩=some (.func (.func 173) #[] #[]):=aB hself rfl
 go_wp2
 simp [bodyPost,results,show f131.results = #[.cell 0 158] from rfl,go_sem,k0,k1,k2,k3,k4,k5,k6];exact hbel
abbrev UK:List aL:=[.exact .nilFunc, .dZ 166 [], .dZ 168 [], .dZ 169 [], .dZ 171 [], .dZ 172 [], .dZ 173 []]
theorem Px:aD prog 131 [] (.ret [.agg UK]):=by
 refine ⟨dW (by kernel_rfl),fun M w vs hM hv=>?_⟩
 match vs,hv with
 | [],_=>
   refine (Pp w).mono ?_;rintro e w' ⟨hb,rfl⟩;exact ⟨hb,[.agg _],rfl,⟨_,rfl,⟨rfl,rfl⟩,⟨[],rfl,trivial⟩,⟨[],rfl,trivial⟩,⟨[],rfl,trivial⟩,⟨[],rfl,trivial⟩,⟨[],rfl,trivial⟩,⟨[],rfl,trivial⟩,trivial⟩,trivial⟩
end Go.Sy
namespace Go.Sy
open Go Go.Proofs Go.RowKit Tryz Ord
def oT:Tr:=.ret [(.agg [(U 4 0),(U 4 1),(U 4 2),(U 4 3),(U 4 4),(U 4 5)])]
def oK:Tr:=.need (.callv (.u 3 0) [(.agg [(U 0 0),(U 0 1),(U 0 2),(U 0 3),(U 0 4),(U 0 5)]),(.agg [(U 1 1),(U 1 2),(U 1 3)])] [(some 6)]) (.call ⟨.value (.tmp 7),#[(.tmp 8),(.tmp 10)],#[81,30]⟩) 39 true oT
def oW:Tr:=.need (.prim [(.agg [(U 2 0),(U 2 1),(U 2 2),(U 2 3),(U 2 4),(U 2 5),(U 2 6)]),(W 1 0)] none) (.index 158 (.tmp 4) (.tmp 6)) 157 false oK
def oN:Tr:=.need (.call 131 [] [(some 7)]) (.call ⟨.value (.func 131),#[],#[]⟩) 158 false oW
theorem qZ:aN prog f130 (fun _=>none) [.v (some 6), .ref 4]=oN:=by kernel_rfl
def Yg:Tr:=aI 39 [(.one (.dZ 130 [(.ref 0 [(.u 0 0),(.u 0 1),(.u 0 2),(.u 0 3)])]))] [none] [3] [90] 88 true (.ret [(W 1 0)])
theorem CL:aN prog f88 (fun _=>none) [.v (some 4)]=Yg:=by kernel_rfl
def Xj:Tr:=.ret [(.one (.dZ 105 [(.ref 0 [(.u 0 0)])]))]
theorem Po:aN prog f39 (fun _=>none) [.v none]=Xj:=by kernel_rfl
theorem ZT {x y:Operand} {ty:Nat} {cs:List aL} {c:aL} {k:IntKind} {n:Int} (hc:cs[n.toNat]? = some c) (h0:0≤n:=by omega) (hn:n<7:=by omega):aO prog (.index 158 x y) ty [.agg cs, .one (.int k n)] (.one c):=by
 intro M w ρ o ho _ hr;obtain ⟨hx,hy⟩:=nZ hr;obtain ⟨vs,hx,hvs⟩:=hx;have hy:ρ y = .int k n∧_:=hy;obtain ⟨v,hv,hvr⟩:=hvs.get _ _ hc;refine ⟨v,?_,hvr⟩;have hu:prog.underlying 158=some (.array 7 157):=by kernel_rfl
 simp [execOp,ho,hx,hy.1,Instr.index,asIntOf,run_underlying hu,h0,hn,part,hv]
theorem cH (up down:Rat) (kind:Nat) (x:Rat) (v:Rat×Rat) (f:FuncId) (hf:UK[kind]? = some (.dZ f [])) (hv:aD prog f [gF up down,qT x] (.ret [dK v])) (hk:kind<7:=by omega):aD prog 130 [(gF up down:aE),(.one (.bI ((.int .u8 (kind:Int)::qC x))):aE)] (.ret [dK v]):=by
 refine dvr (ins:=[.v (gF up down), .ref ((.int .u8 (kind:Int)::qC x))]) func130 qZ ?_;apply aA Px rfl;dsimp only [aF,aG];apply vn (ZT (show UK[((kind:Nat):Int).toNat]? = some (.dZ f []) by rw [Int.toNat_natCast];exact hf)) rfl;apply mX (f:=f) (caps:=[]) rfl hv rfl;exact aK rfl
theorem qO (g:FuncId) (caps:List aL):aD prog 39 [(.one (.dZ g caps):aE)] (.ret [.one (.dZ 105 [.bI [.dZ g caps]])]):=by
 refine bU func39 Po ?_;exact aK rfl
theorem eC (kind:Nat) (x:Rat):aD prog 88 [(.agg (.int .u8 (kind:Int)::qC x):aE)] (.ret [.one (.dZ 105 [.bI [.dZ 130 [.bI (.int .u8 (kind:Int)::qC x)]]])]):=by
 refine bU func88 CL ?_;apply aA (qO 130 [.bI (.int .u8 (kind:Int)::qC x)]) rfl;exact aK rfl
open Go Go.Proofs Go.RowKit Tryz Ord
attribute [local go_sem] Oper.semAt_some
theorem Pb {t:Array Value} {n:Nat} {L:List Value} (h:t.size=n) (e:(List.range' 0 n).map (t.getD · Go.undef)=L:=by simp only [List.range',List.map];rfl):t=L.toArray:=by
 subst e;apply Array.ext
 ·simp [h]
 ·intro i h1 h2;simp [Array.getD,h1]
theorem Pv {cells:List aL} {M:Nat→Prop} {w:World} {v:Value} {c:aL} {j:Nat} (h:(aL.bI cells).rep M w v) (hj:cells[j]? = some c):∃ b off x,v = .pointer (some ⟨b,off,none⟩)∧w.cell? ⟨b,off+j,none⟩=some x∧c.rep M w x∧b<w.heap.size:=by
 obtain ⟨b,off,cs,T,fz,rfl,hb,hh,hr⟩:=h;obtain ⟨u,hu,hx⟩:=hr.get j _ hj;refine ⟨b,off,u,rfl,?_,hx,(dS.1 hh).1⟩;rw [List.getElem?_take] at hu;split at hu
 ·rw [List.getElem?_drop] at hu;exact aB hh (by simpa using hu)
 ·cases hu
theorem gR {f:FuncId} {args:List aE} {a b:Rat} (hd:aD prog f args (.ret [gF a b])) {M:Nat→Prop} {w:World} {vs:List Value} (hM:Fine M w) (hv:bR M w args vs) :
  Calls prog f vs.toArray w fun e w'=>Below w.heap.size w w'∧∃ u0 u1 u2 u3 u4 u5,e = .returned (.agg #[u0,u1,u2,u3,u4,u5])∧aM M w' (eB a b) [u0,u1,u2,u3,u4,u5]:=by
 refine (hd.2 M w vs hM hv).mono ?_;rintro e w' ⟨hb,us,rfl,hus⟩
 match us,hus with
 | [v],hus=>
   obtain ⟨cs,rfl,hcs⟩:=hus.1;obtain ⟨u0,u1,u2,u3,u4,u5,rfl⟩:=HC hcs;exact ⟨hb,u0,u1,u2,u3,u4,u5,rfl,hcs⟩
 | [],hus=>exact hus.elim
 | _::_::_,hus=>exact hus.2.elim
structure ClS (l i:Nat) (vp:Value) (t:Array Value):Prop where
 sz:t.size=12
 t0:t.getD 0 Go.undef = .func (.yield l) #[] #[]
 t1:t.getD 1 Go.undef=vp
 t3:t.getD 3 Go.undef = .int .i64 ((32*2^i:Nat):Int)
set_option maxRecDepth 100000 in
set_option maxHeartbeats 1000000 in
theorem Mn (M:Nat→Prop) (g:FuncId) (caps:List aL) (V:Nat→Rat×Rat) (R:Nat) (hR:R≤4) (hV:∀ i,i≤R→aD prog g ([gF (aP (32*2^i)) (bZ (32*2^i))]++caps.map .one) (.ret [dK (V i)]))
  (l:Nat) (vp:Value) (J:Nat→World→Prop) (Jx:World→Prop) (hJb:∀ i W W',J i W→Below W.heap.size W W'→J i W') (hJf:∀ i W,J i W→Fine M W∧(aL.bI [.dZ g caps]).rep M W vp)
  (hY:∀ i W u0 u1 u2 u3 u4 u5,i≤R→J i W→aM M W (eB (V i).1 (V i).2) [u0,u1,u2,u3,u4,u5]→YieldAt Fence.wide 999 prog l #[.agg #[u0,u1,u2,u3,u4,u5]] W fun e W'=>(i<R∧e = .returned (.bool true)∧J (i+1) W')∨(i=R∧e = .returned (.bool false)∧Jx W'))
  (W:World) (h0:J 0 W):CallsIn Fence.wide 1000 prog 105 #[.func (.yield l) #[] #[],vp] W fun e W'=>(∃ v,e = .returned v)∧Jx W':=by
 refine callsIn_of_wp func105 rfl trivial ?_ rfl;simp only [ntmps105,List.size_toArray,List.length_cons,List.length_nil,Nat.reduceAdd,Nat.reduceSub,Array.replicate_succ,Array.replicate_zero,List.push_toArray,List.append_toArray,List.nil_append,List.cons_append]
 gi_wp2
 refine wpIn_loop_ghost (fun j a' W'=>∃ i t,j=R-i∧i≤R∧a'=⟨t,[]⟩∧ClS l i vp t∧J i W') (R-0) ⟨0,_,rfl,fP _,rfl,⟨rfl,rfl,rfl,rfl⟩,h0⟩ ?round
 case round=>
  rintro j a' W1 ⟨i,t,rfl,hi,rfl,S,hJ⟩;obtain ⟨hM,hvp⟩:=hJf i W1 hJ;refine wpIn_seq_k fun K hK=>wpIn_seq ?_;refine wpIn_region_any (by kernel_rfl) ?_;have et:=Pb S.sz;obtain ⟨p,hp⟩:∃ p:Nat,32*2^i=p:=⟨_,rfl⟩
  have hp1:p≤1000:=by
   have:2^i≤2^4:=Nat.pow_le_pow_right (by omega) (by omega);omega
  rw [S.t0,S.t1,S.t3,hp] at et;have hVi:=hV i hi;rw [hp] at hVi;generalize t.getD 2 Go.undef=x2 at et;generalize t.getD 4 Go.undef=x4 at et;generalize t.getD 5 Go.undef=x5 at et;generalize t.getD 6 Go.undef=x6 at et;generalize t.getD 7 Go.undef=x7 at et;generalize t.getD 8 Go.undef=x8 at et;generalize t.getD 9 Go.undef=x9 at et;generalize t.getD 10 Go.undef=x10 at et;generalize t.getD 11 Go.undef=x11 at et;subst et;obtain ⟨Wd,hWd⟩:∃ Wd:World,{ W1 with drawn:=W1.drawn+1 } = Wd:=⟨_,rfl⟩
  have hbd:Below W1.heap.size W1 Wd:=by rw [←hWd];exact ⟨rfl,rfl,rfl,cD _,fun _ _=>rfl⟩
  have hJd:=hJb i W1 Wd hJ hbd;obtain ⟨hMd,hvd⟩:=hJf i Wd hJd;rw [hWd];clear hvp;obtain ⟨b,off,fv,rfl,hcell,hfv,hblt⟩:=Pv (j:=0) hvd rfl;rw [Nat.add_zero] at hcell;have hgrid:=gR (lH p hp1) hMd (vs:=[.int .i64 (p:Int)]) (show bR M Wd [.one (.int .i64 (p:Int))] [.int .i64 (p:Int)] from ⟨⟨rfl,rfl⟩,trivial⟩);refine wpAnyIn_take (i:=0) (v:=.func (.yield l) #[] #[]) rfl rfl (by kernel_rfl) (by kernel_rfl) (by kernel_rfl) (fun _ _ _ h=>h) ⟨Or.inl ⟨by rfl,fun w=>by go_simp⟩,fun _=>rfl⟩ ?_;refine wpAnyIn_take (i:=2) (v:=.int .i64 (p:Int)) rfl rfl (by kernel_rfl) (by kernel_rfl) (by kernel_rfl) (fun _ _ _ h=>h) ⟨Or.inl ⟨by rfl,fun w=>by go_simp⟩,fun _=>rfl⟩ ?_;refine wpAnyIn_ready (rs:=[1,3]) (by kernel_rfl) (by simp) ?_;refine AllReadyIn.cons rfl (fun K2 hK2=>?_) (AllReadyIn.cons rfl (fun K2 hK2=>?_) AllReadyIn.nil)
  ·go_simp
   refine hK2 _ _ ?_;clear hK2 K2;refine wpAnyIn_ready (rs:=[3]) (by kernel_rfl) (by simp) ?_;refine AllReadyIn.cons rfl (fun K2 hK2=>?_) AllReadyIn.nil
   go_simp
   refine ⟨trivial,?_⟩;refine (callsIn_wide.2 hgrid).mono ?_;rintro e W3 ⟨hb3,f0,f1,f2,f3,f4,f5,rfl,hf⟩;refine hK2 _ _ ?_;clear hK2 K2;have hJ3:=hJb i Wd W3 hJd hb3;obtain ⟨hM3,hv3⟩:=hJf i W3 hJ3;have hfv3:=aL.mono _ (aR.below hb3) hfv;obtain ⟨cvs,rfl,hcvs⟩:=hfv3;refine wpAnyIn_ready (rs:=[4]) (by kernel_rfl) (by simp) ?_;refine AllReadyIn.cons rfl (fun K2 hK2=>?_) AllReadyIn.nil;have he:=hVi.1
   go_simp
   refine ⟨trivial,?_⟩;have hval:=gR (a:=(V i).1) (b:=(V i).2) hVi hM3 (vs:=.agg #[f0,f1,f2,f3,f4,f5]::cvs) ⟨⟨_,rfl,hf⟩,bR.nW hcvs⟩;refine (callsIn_wide.2 hval).mono ?_;rintro e W4 ⟨hb4,u0,u1,u2,u3,u4,u5,rfl,hu⟩;refine hK2 _ _ ?_;clear hK2 K2;have hJ4:=hJb i W3 W4 hJ3 hb4;obtain ⟨fnr,tmr,asr,bdr,hy,hRd⟩:=hY i W4 u0 u1 u2 u3 u4 u5 hi hJ4 hu;refine wpAnyIn_ready (rs:=[5]) (by kernel_rfl) (by simp) ?_;refine AllReadyIn.cons rfl (fun K2 hK2=>?_) AllReadyIn.nil
   go_simp
   refine hRd.mono ?_;rintro e W5 (⟨hlt,rfl,hJ5⟩ | ⟨hiR,rfl,hx⟩)
   ·refine hK2 _ _ ?_;refine wpAnyIn_done (by kernel_rfl) ?_ _
    gi_wp2
    exact ⟨R-(i+1),by omega,i+1,_,rfl,by omega,rfl,⟨rfl,rfl,rfl,congrArg (Value.int .i64) (by rw [Nat.pow_succ];omega)⟩,hJ5⟩
   ·refine hK2 _ _ ?_;refine wpAnyIn_done (by kernel_rfl) ?_ _
    gi_wp2
    simp [bodyPost,results,show f105.results = #[] from rfl,go_sem];exact hx
  ·go_simp
   refine ⟨trivial,?_⟩;refine (callsIn_wide.2 hgrid).mono ?_;rintro e W3 ⟨hb3,f0,f1,f2,f3,f4,f5,rfl,hf⟩;refine hK2 _ _ ?_;clear hK2 K2;have hJ3:=hJb i Wd W3 hJd hb3;obtain ⟨hM3,hv3⟩:=hJf i W3 hJ3
   have hcell3:W3.cell? ⟨b,off,none⟩=some fv:=by
    rw [←hcell];simp [World.cell?,hb3.block b hblt]
   have hfv3:=aL.mono _ (aR.below hb3) hfv;obtain ⟨cvs,rfl,hcvs⟩:=hfv3;refine wpAnyIn_ready (rs:=[1]) (by kernel_rfl) (by simp) ?_;refine AllReadyIn.cons rfl (fun K2 hK2=>?_) AllReadyIn.nil
   go_simp
   refine hK2 _ _ ?_;clear hK2 K2;refine wpAnyIn_ready (rs:=[4]) (by kernel_rfl) (by simp) ?_;refine AllReadyIn.cons rfl (fun K2 hK2=>?_) AllReadyIn.nil;have he:=hVi.1
   go_simp
   refine ⟨trivial,?_⟩;have hval:=gR (a:=(V i).1) (b:=(V i).2) hVi hM3 (vs:=.agg #[f0,f1,f2,f3,f4,f5]::cvs) ⟨⟨_,rfl,hf⟩,bR.nW hcvs⟩;refine (callsIn_wide.2 hval).mono ?_;rintro e W4 ⟨hb4,u0,u1,u2,u3,u4,u5,rfl,hu⟩;refine hK2 _ _ ?_;clear hK2 K2;have hJ4:=hJb i W3 W4 hJ3 hb4;obtain ⟨fnr,tmr,asr,bdr,hy,hRd⟩:=hY i W4 u0 u1 u2 u3 u4 u5 hi hJ4 hu;refine wpAnyIn_ready (rs:=[5]) (by kernel_rfl) (by simp) ?_;refine AllReadyIn.cons rfl (fun K2 hK2=>?_) AllReadyIn.nil
   go_simp
   refine hRd.mono ?_;rintro e W5 (⟨hlt,rfl,hJ5⟩ | ⟨hiR,rfl,hx⟩)
   ·refine hK2 _ _ ?_;refine wpAnyIn_done (by kernel_rfl) ?_ _
    gi_wp2
    exact ⟨R-(i+1),by omega,i+1,_,rfl,by omega,rfl,⟨rfl,rfl,rfl,congrArg (Value.int .i64) (by rw [Nat.pow_succ];omega)⟩,hJ5⟩
   ·refine hK2 _ _ ?_;refine wpAnyIn_done (by kernel_rfl) ?_ _
    gi_wp2
    simp [bodyPost,results,show f105.results = #[] from rfl,go_sem];exact hx
end Go.Sy
