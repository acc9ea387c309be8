/- Part. -/
import Derived.Test.YtpaidpkaechleaaGreatDoorEi
import Derived.Test.YtpaidpkaechleaaGreatDoorEf
set_option linter.all false
namespace Go.Sy
open Go Go.Proofs Tryz Ord
def bT:Tr:=.ret [(tF false)]
def QM:Tr:=.split (.u 82 0) bT (.need (.idx 73 (.u 75 0)) (.indexAddr 72 (tT 222) (tT 223)) 0 false (.need (.ldrow 73 (.u 75 0) 4 1 false) (.load 9 (tT 225)) 9 false (cX .neq 9 221 226 80 0 83 0 4 (.split (.u 84 0) bT (aX .add 3 202 1 75 0 3 (.back 0 [lV 74 0,lV 85 0]))))))
def SN:Tr:=.split (.u 92 0) (aX .eql 40 261 11 85 0 4 (.split (.u 93 0) (aX .eql 40 265 2 87 0 4 (.split (.u 94 0) (aX .eql 40 269 11 90 0 4 (.ret [(W 95 0)])) bT)) bT)) bT
def Qe:Tr:=.need (.call 29 [(.one (.c (.k (.int .u8 6)))),(G3 83),(WK 3)] [(some 6),none]) (.call ⟨.value (.func 29),#[(.const (.int .u8 6)),(tT 240),(.const (I3 3))],#[5,30,3]⟩) 41 false (.need (.call 29 [(.one (.c (.k (.int .u8 7)))),(.agg [tN,(tE (.bool false)),tN]),(WK 3)] [(some 6),none]) (.call ⟨.value (.func 29),#[(.const (.int .u8 7)),(tT 245),(.const (I3 3))],#[5,30,3]⟩) 41 false (.need (.call 22 [(WK (-1))] [(some 3)]) (.call ⟨.value (.func 22),#[(.const (I3 (-1)))],#[2]⟩) 30 false (.need (.call 7 [(G3 88),(WK 2),(WK 3)] [(some 6),none]) (.call ⟨.value (.func 7),#[(tT 250),(.const (I3 2)),(.const (I3 3))],#[30,3,3]⟩) 41 false (aX .eql 40 254 11 79 0 4 (.split (.u 91 0) (aX .eql 40 257 3 82 0 4 SN) bT)))))
def Sq:Tr:=.split (.u 77 0) (.need (.idx 73 (.u 75 0)) (.indexAddr 72 (tT 205) (tT 206)) 0 false (.need (.ldrow 73 (.u 75 0) 0 1 false) (.load 5 (tT 208)) 5 false (.need (.idx 73 (.u 75 0)) (.indexAddr 72 (tT 210) (tT 211)) 0 false (.need (.ldrow 73 (.u 75 0) 1 3 true) (.load 30 (tT 213)) 30 false (.need (.call 28 [(W 78 0),(G3 79),(WK 30)] [none,none]) (.call ⟨.value (.func 28),#[(tT 209),(tT 214),(.const (I3 30))],#[5,30,3]⟩) 73 false (aX .neq 40 218 0 81 0 4 QM)))))) (.need (.call 29 [(.one (.c (.k (.int .u8 2)))),(.agg [tN,(tE (.bool false)),tN]),(WK 3)] [(some 6),none]) (.call ⟨.value (.func 29),#[(.const (.int .u8 2)),(tT 230),(.const (I3 3))],#[5,30,3]⟩) 41 false (.need (.call 22 [(WK 65)] [(some 3)]) (.call ⟨.value (.func 22),#[(.const (I3 65))],#[2]⟩) 30 false (.need (.call 29 [(.one (.c (.k (.int .u8 1)))),(G3 80),(WK 3)] [(some 6),none]) (.call ⟨.value (.func 29),#[(.const (.int .u8 1)),(tT 235),(.const (I3 3))],#[5,30,3]⟩) 41 false (.need (.call 22 [(WK (-1))] [(some 3)]) (.call ⟨.value (.func 22),#[(.const (I3 (-1)))],#[2]⟩) 30 false Qe))))
def Rv:Tr:=.need (.call 22 [(WK 1)] [(some 3)]) (.call ⟨.value (.func 22),#[(.const (I3 1))],#[2]⟩) 30 false (.need (.call 24 [(WK 1),(WK 2)] [(some 3)]) (.call ⟨.value (.func 24),#[(.const (I3 1)),(.const (I3 2))],#[2,2]⟩) 30 false (.need (.call 22 [(WK 2)] [(some 3)]) (.call ⟨.value (.func 22),#[(.const (I3 2))],#[2]⟩) 30 false (.need (.lit 5 [[(.k (.int .u8 1)),(.u 67 0),(.u 67 1),(.u 67 2),(.k (.string ⟨#[50,46,55,49,56,50,56,49,56,50,56,52,53,57,48,52,53,50,51,53,51,54,48,50,56,55,52,55,49,51,53,51]⟩))],[(.k (.int .u8 2)),(.u 68 0),(.u 68 1),(.u 68 2),(.k (.string ⟨#[48,46,54,57,51,49,52,55,49,56,48,53,53,57,57,52,53,51,48,57,52,49,55,50,51,50,49,50,49,52,53,56]⟩))],[(.k (.int .u8 3)),(.u 69 0),(.u 69 1),(.u 69 2),(.k (.string ⟨#[48,46,56,52,49,52,55,48,57,56,52,56,48,55,56,57,54,53,48,54,54,53,50,53,48,50,51,50,49,54,51,48]⟩))],[(.k (.int .u8 4)),(.u 70 0),(.u 70 1),(.u 70 2),(.k (.string ⟨#[48,46,53,52,48,51,48,50,51,48,53,56,54,56,49,51,57,55,49,55,52,48,48,57,51,54,54,48,55,52,52,51]⟩))],[(.k (.int .u8 5)),(.u 71 0),(.u 71 1),(.u 71 2),(.k (.string ⟨#[48,46,52,54,51,54,52,55,54,48,57,48,48,48,56,48,54,49,49,54,50,49,52,50,53,54,50,51,49,52,54,49]⟩))],[(.k (.int .u8 6)),(.u 72 0),(.u 72 1),(.u 72 2),(.k (.string ⟨#[49,46,52,49,52,50,49,51,53,54,50,51,55,51,48,57,53,48,52,56,56,48,49,54,56,56,55,50,52,50,49,48]⟩))]]) (.buildSlice 72 6 #[(0,(tT 186)),(1,(tT 188)),(2,(tT 190)),(3,(tT 192)),(4,(tT 194)),(5,(tT 196))]) 72 false (.loop 0 [(.w (.one (.c (.k (.bool false))))),lK 0] (.need (.lenrow 73) (.call ⟨.builtin .len,#[(tT 199)],#[72]⟩) 3 false (cX .lss 3 198 200 75 0 76 0 4 Sq))))))
def Uk:Tr:=.split (.u 64 0) bT (aI 27 [(G3 38)] [none] [181] [30] 9 false (.need (.prim [(W 65 0),(.one (.c (.k (.string ⟨#[49,48,47,53,55]⟩))))] none) (.binOp .neq 9 (tT 182) (.const (.string ⟨#[49,48,47,53,55]⟩)) 9) 4 false (.split (.u 66 0) bT (.need (.call 22 [(WK 1)] [(some 3)]) (.call ⟨.value (.func 22),#[(.const (I3 1))],#[2]⟩) 30 false (.need (.call 22 [(WK 2)] [(some 3)]) (.call ⟨.value (.func 22),#[(.const (I3 2))],#[2]⟩) 30 false (.need (.call 22 [(WK 1)] [(some 3)]) (.call ⟨.value (.func 22),#[(.const (I3 1))],#[2]⟩) 30 false Rv))))))
def UB:Tr:=.need (.prim [(W 32 0),(WK 3)] none) (.indexAddr 52 (tT 169) (.const (I3 3))) 0 false (DV 59 0 (some 3) 30 170 (aI 27 [(G3 60)] [none] [171] [30] 9 false (.need (.prim [(W 61 0),(.one (.c (.k (.string ⟨#[49,47,51]⟩))))] none) (.binOp .neq 9 (tT 172) (.const (.string ⟨#[49,47,51]⟩)) 9) 4 false (.split (.u 62 0) bT (aI 27 [(G3 35)] [none] [176] [30] 9 false (.need (.prim [(W 63 0),(.one (.c (.k (.string ⟨#[51,47,52]⟩))))] none) (.binOp .neq 9 (tT 177) (.const (.string ⟨#[51,47,52]⟩)) 9) 4 false Uk))))))
def Vn:Tr:=aX .neq 3 158 4 53 0 4 (.split (.u 54 0) bT (.need (.prim [(W 32 0),(WK 2)] none) (.indexAddr 52 (tT 162) (.const (I3 2))) 0 false (DV 55 0 (some 3) 30 163 (aI 27 [(G3 56)] [none] [164] [30] 9 false (.need (.prim [(W 57 0),(.one (.c (.k (.string ⟨#[45,49,47,50]⟩))))] none) (.binOp .neq 9 (tT 165) (.const (.string ⟨#[45,49,47,50]⟩)) 9) 4 false (.split (.u 58 0) bT UB))))))
def Uu:Tr:=aI 26 [(G6 27)] [none] [147] [39] 9 false (.need (.prim [(W 49 0),(.one (.c (.k (.string ⟨#[91,45,50,32,45,50,93]⟩))))] none) (.binOp .neq 9 (tT 148) (.const (.string ⟨#[91,45,50,32,45,50,93]⟩)) 9) 4 false (.split (.u 50 0) bT (aI 26 [(G6 30)] [none] [152] [39] 9 false (.need (.prim [(W 51 0),(.one (.c (.k (.string ⟨#[91,49,32,57,47,56,93]⟩))))] none) (.binOp .neq 9 (tT 153) (.const (.string ⟨#[91,49,32,57,47,56,93]⟩)) 9) 4 false (.split (.u 52 0) bT (kC 32 0 157 52 Vn))))))
def UO:Tr:=.split (.u 45 0) bT (aX .neq 40 135 0 36 0 4 (.split (.u 46 0) bT (aX .neq 40 139 0 39 0 4 (.split (.u 47 0) bT (aX .neq 40 143 11 42 0 4 (.split (.u 48 0) bT Uu))))))
def TK:Tr:=.need (.call 22 [(WK 1)] [(some 3)]) (.call ⟨.value (.func 22),#[(.const (I3 1))],#[2]⟩) 30 false (.need (.call 16 [(.one (.c (.k (.int .u8 5)))),(WK 2),(G3 40)] [(some 3),none]) (.call ⟨.value (.func 16),#[(.const (.int .u8 5)),(.const (I3 2)),(tT 120)],#[5,3,30]⟩) 55 false (aX .neq 40 124 0 28 0 4 (.split (.u 43 0) bT (aX .neq 40 127 0 31 0 4 (.split (.u 44 0) bT (aX .neq 40 131 0 33 0 4 UO))))))
def Vj:Tr:=.need (.call 22 [(WK 2)] [(some 3)]) (.call ⟨.value (.func 22),#[(.const (I3 2))],#[2]⟩) 30 false (.need (.call 7 [(G3 29),(WK 12),(WK 3)] [(some 6),none]) (.call ⟨.value (.func 7),#[(tT 101),(.const (I3 12)),(.const (I3 3))],#[30,3,3]⟩) 41 false (.need (.call 15 [(.one (.c (.k (.int .u8 2)))),(WK 4)] [none,none]) (.call ⟨.value (.func 15),#[(.const (.int .u8 2)),(.const (I3 4))],#[5,3]⟩) 53 false (.need (.call 22 [(WK 1)] [(some 3)]) (.call ⟨.value (.func 22),#[(.const (I3 1))],#[2]⟩) 30 false (.need (.call 16 [(.one (.c (.k (.int .u8 1)))),(WK 2),(G3 34)] [(some 3),none]) (.call ⟨.value (.func 16),#[(.const (.int .u8 1)),(.const (I3 2)),(tT 110)],#[5,3,30]⟩) 55 false (.need (.call 22 [(WK 1)] [(some 3)]) (.call ⟨.value (.func 22),#[(.const (I3 1))],#[2]⟩) 30 false (.need (.call 16 [(.one (.c (.k (.int .u8 3)))),(WK 2),(G3 37)] [(some 3),none]) (.call ⟨.value (.func 16),#[(.const (.int .u8 3)),(.const (I3 2)),(tT 115)],#[5,3,30]⟩) 55 false TK))))))
def UI:Tr:=.split (.u 23 0) bT (aX .neq 3 88 (-1) 9 0 4 (.split (.u 24 0) bT (aX .neq 2 92 (-1) 12 0 4 (.split (.u 25 0) bT (.need (.call 22 [(WK (-8))] [(some 3)]) (.call ⟨.value (.func 22),#[(.const (I3 (-8)))],#[2]⟩) 30 false (.need (.call 7 [(G3 26),(WK 3),(WK 0)] [(some 6),none]) (.call ⟨.value (.func 7),#[(tT 96),(.const (I3 3)),(.const (I3 0))],#[30,3,3]⟩) 41 false Vj))))))
def UY:Tr:=aX .neq 40 74 0 13 0 4 (.split (.u 19 0) bT (aI 26 [(G6 1)] [none] [78] [39] 9 false (.need (.prim [(W 20 0),(.one (.c (.k (.string ⟨#[91,48,32,49,93]⟩))))] none) (.binOp .neq 9 (tT 79) (.const (.string ⟨#[91,48,32,49,93]⟩)) 9) 4 false (.split (.u 21 0) bT (aI 26 [(G6 5)] [none] [83] [39] 9 false (.need (.prim [(W 22 0),(.one (.c (.k (.string ⟨#[91,45,49,32,45,53,47,56,93]⟩))))] none) (.binOp .neq 9 (tT 84) (.const (.string ⟨#[91,45,49,32,45,53,47,56,93]⟩)) 9) 4 false UI))))))
def Ur:Tr:=.split (.u 15 0) bT (aX .neq 40 62 0 2 0 4 (.split (.u 16 0) bT (aX .neq 40 66 0 6 0 4 (.split (.u 17 0) bT (aX .neq 40 70 0 10 0 4 (.split (.u 18 0) bT UY))))))
def Xl:Tr:=.need (.call 22 [(WK 2)] [(some 3)]) (.call ⟨.value (.func 22),#[(.const (I3 2))],#[2]⟩) 30 false (.need (.call 24 [(WK 7),(WK 10)] [(some 3)]) (.call ⟨.value (.func 24),#[(.const (I3 7)),(.const (I3 10))],#[2,2]⟩) 30 false (.need (.call 23 [(.one (.c (.k (.int .u8 2)))),(G3 7),(G3 8)] [none,none]) (.call ⟨.value (.func 23),#[(.const (.int .u8 2)),(tT 49),(tT 50)],#[5,30,30]⟩) 65 false (.need (.call 22 [(WK (-1))] [(some 3)]) (.call ⟨.value (.func 22),#[(.const (I3 (-1)))],#[2]⟩) 30 false (aI 25 [(G3 11)] [none,none] [55] [30] 68 false (aI 12 [] [none] [] [] 4 false (.need (.prim [(W 14 0)] none) (.unOp .not 4 (tT 59)) 4 false Ur))))))
def XT:Tr:=.need (.call 22 [(WK 2)] [(some 3)]) (.call ⟨.value (.func 22),#[(.const (I3 2))],#[2]⟩) 30 false (.need (.call 21 [(.one (.c (.k (.int .u8 3)))),(.agg [tN,(tE (.bool false)),tN,(U 0 0),(U 0 1),(U 0 2)]),(WK 3)] [(some 6),none]) (.call ⟨.value (.func 21),#[(.const (.int .u8 3)),(tT 37),(.const (I3 3))],#[5,39,3]⟩) 41 false (.need (.call 22 [(WK 3)] [(some 3)]) (.call ⟨.value (.func 22),#[(.const (I3 3))],#[2]⟩) 30 false (.need (.call 22 [(WK 4)] [(some 3)]) (.call ⟨.value (.func 22),#[(.const (I3 4))],#[2]⟩) 30 false (.need (.call 21 [(.one (.c (.k (.int .u8 4)))),(.agg [(U 3 0),(U 3 1),(U 3 2),(U 4 0),(U 4 1),(U 4 2)]),(WK 3)] [(some 6),none]) (.call ⟨.value (.func 21),#[(.const (.int .u8 4)),(tT 44),(.const (I3 3))],#[5,39,3]⟩) 41 false Xl))))
theorem IY:aN prog f5 (fun _=>none) []=XT:=by kernel_rfl
theorem ab1  :aD prog 29 [(.one (.int .u8 2):aE),(qT (0:Rat):aE),(.one (.int .i64 3):aE)] (.ret [dK (0,0), .one (.int .i64 11)]):=by
 refine bU func29 Gu ?_;apply aA OU rfl;apply vn dE rfl;refine vs _ rfl ?_ ?_<;>intro h2
 ·exact iG ⟨tI,aE.Sub.same,trivial⟩
 exact absurd (show ¬ (11:Int)=0 by decide) h2
theorem UZ  :aD prog 29 [(.one (.int .u8 1):aE),(qT ((65:Int):Rat):aE),(.one (.int .i64 3):aE)] (.ret [dK (0,0), .one (.int .i64 3)]):=by
 refine bU func29 Gu ?_;apply aA Mp rfl;apply vn dE rfl;refine vs _ rfl ?_ ?_<;>intro h2
 ·exact iG ⟨tI,aE.Sub.same,trivial⟩
 exact absurd (show ¬ (3:Int)=0 by decide) h2
theorem WI  :aD prog 29 [(.one (.int .u8 6):aE),(qT ((-1:Int):Rat):aE),(.one (.int .i64 3):aE)] (.ret [dK (0,0), .one (.int .i64 11)]):=by
 refine bU func29 Gu ?_;apply aA OF rfl;apply vn dE rfl;refine vs _ rfl ?_ ?_<;>intro h2
 ·exact iG ⟨tI,aE.Sub.same,trivial⟩
 exact absurd (show ¬ (11:Int)=0 by decide) h2
theorem ZM  :aD prog 29 [(.one (.int .u8 7):aE),(qT (0:Rat):aE),(.one (.int .i64 3):aE)] (.ret [dK (0,0), .one (.int .i64 2)]):=by
 refine bU func29 Gu ?_;apply aA Ps rfl;apply vn dE rfl;refine vs _ rfl ?_ ?_<;>intro h2
 ·exact iG ⟨tI,aE.Sub.same,trivial⟩
 exact absurd (show ¬ (2:Int)=0 by decide) h2
theorem MB  :aD prog 25 [(qT ((-1:Int):Rat):aE)] (.ret [.one (.int .i64 (-1)), .one (.int .i64 0)]):=by
 refine bU func25 uK ?_;apply aA Pr rfl;apply vn dE rfl;refine vs _ rfl ?_ ?_<;>intro h2
 ·exact absurd rfl h2
 apply aA as3 rfl;exact aK rfl
theorem OZ  :aD prog 26 [(gF 0 ((1:Int):Rat):aE)] (.ret [bS [91,48,32,49,93]]):=by
 refine bU func26 NO ?_;apply aA SA rfl;apply vn (eR (a:=[91]) (by simp only [List.length_cons,List.length_nil];omega)) rfl;apply vn (eR (b:=[32]) (by simp only [eF,List.length_cons,List.length_nil];omega)) rfl;apply aA (iW ((1:Int):Rat) (by decide +kernel) (by decide +kernel) (by decide +kernel) (by decide +kernel)) rfl;rw [show zZ ((1:Int):Rat) = [49] by decide +kernel];dsimp only [aF,aG];apply vn (eR (by simp only [eF,List.length_cons,List.length_nil];omega)) rfl;apply vn (eR (b:=[93]) (by simp only [eF,List.length_cons,List.length_nil];omega)) rfl;exact aK rfl
theorem pE {P:Program} {T U ty:TypeId} {x y:Operand} {a:List UInt8}:aO P (.binOp .neq T x y U) ty [bS a,bS a] (.one (.bool false)):=by
 have h:=Pq (P:=P) (T:=T) (U:=U) (x:=x) (y:=y) (ty:=ty) (s:=⟨a.toArray⟩) (t:=⟨a.toArray⟩)
 rwa [show (!((⟨a.toArray⟩:ByteArray).toList==(⟨a.toArray⟩:ByteArray).toList))=false by simp] at h
def TQ:List (Nat×Rat×List UInt8):=[(1,((1:Int):Rat),[50,46,55,49,56,50,56,49,56,50,56,52,53,57,48,52,53,50,51,53,51,54,48,50,56,55,52,55,49,51,53,51]),(2,((2:Int):Rat),[48,46,54,57,51,49,52,55,49,56,48,53,53,57,57,52,53,51,48,57,52,49,55,50,51,50,49,50,49,52,53,56]),(3,((1:Int):Rat),[48,46,56,52,49,52,55,48,57,56,52,56,48,55,56,57,54,53,48,54,54,53,50,53,48,50,51,50,49,54,51,48]),(4,((1:Int):Rat),[48,46,53,52,48,51,48,50,51,48,53,56,54,56,49,51,57,55,49,55,52,48,48,57,51,54,54,48,55,52,52,51]),(5,aZ ((1:Int):Rat) ((2:Int):Rat),[48,46,52,54,51,54,52,55,54,48,57,48,48,48,56,48,54,49,49,54,50,49,52,50,53,54,50,51,49,52,54,49]),(6,((2:Int):Rat),[49,46,52,49,52,50,49,51,53,54,50,51,55,51,48,57,53,48,52,56,56,48,49,54,56,56,55,50,52,50,49,48])]
def kn (i:Nat):Nat×Rat×List UInt8:=TQ.getD i (0,0,[])
def Yf (r:Nat×Rat×List UInt8):List aL:=.int .u8 (r.1:Int)::(qC r.2.1 ++ [.str ⟨r.2.2.toArray⟩])
theorem SB {i:Nat} (h:i<6):TQ[i]? = some (kn i):=by
 match i,h with
 | 0,_=>rfl
 | 1,_=>rfl
 | 2,_=>rfl
 | 3,_=>rfl
 | 4,_=>rfl
 | 5,_=>rfl
theorem Zx {i:Nat} (h:i<6):aD prog 28 [.one (.int .u8 ((kn i).1:Int)),qT (kn i).2.1, .one (.int .i64 30)] (.ret [bS (kn i).2.2, .one (.int .i64 0)]):=by
 match i,h with
 | 0,_=>exact Zg
 | 1,_=>exact XI
 | 2,_=>exact Zj
 | 3,_=>exact ZV
 | 4,_=>exact XS
 | 5,_=>exact Yk
theorem Vo:aD prog 23 [.one (.int .u8 2),qT ((2:Int):Rat),qT (aZ ((7:Int):Rat) ((10:Int):Rat))] (.ret [.one (.int .i64 (-1)), .one (.int .i64 0)]):=
 Mj 2 ((2:Int):Rat) _ _ (TF 0) (cH (aP 32) (bZ 32) 2 ((2:Int):Rat) (TF 0) 168 rfl (KQ 0)) GG GA (by decide +kernel) (by decide +kernel) (by decide +kernel) (by decide +kernel) (by decide +kernel)
set_option maxHeartbeats 1000000 in
theorem HF  :aD prog 5 [] (.ret [.one (.bool true)]):=by
 refine bM (args:=[]) (ins:=[]) (hints:=(fun _=>none)) fo (by kernel_rfl) func5 trivial ?_;rw [IY];dsimp only [List.map,In.env,aF,aG];apply aA (aY (2)) rfl;refine Ly (by exact ⟨aE.Sub.same,⟨dJ.1,dJ.2.1,dJ.2.2.1,aL.Sub.same,aL.Sub.same,aL.Sub.same,trivial⟩,aE.Sub.same,trivial⟩) VA rfl ?_;apply aA (aY (3)) rfl;apply aA (aY (4)) rfl;dsimp only [aF,aG];apply aA Uj rfl;apply aA (aY (2)) rfl;apply aA (Ru 7 10) rfl;apply aA Vo rfl;dsimp only [aF,aG];apply aA (aY (-1)) rfl;apply aA MB rfl;apply aA Sw rfl;apply vn oE rfl;dsimp only [aF,aG];refine aQ false rfl (fun h=>by cases h) (fun _=>?_);apply vn dE rfl;refine vs _ rfl ?_ ?_<;>intro h15
 ·exact absurd rfl h15
 apply vn dE rfl;refine vs _ rfl ?_ ?_<;>intro h18
 ·exact absurd rfl h18
 apply vn dE rfl;refine vs _ rfl ?_ ?_<;>intro h21
 ·exact absurd rfl h21
 apply vn dE rfl;dsimp only [aF,aG];refine vs _ rfl ?_ ?_<;>intro h24
 ·exact absurd rfl h24
 apply aA OZ rfl;apply vn (pE (a:=[91,48,32,49,93])) rfl;refine aQ false rfl (fun h=>by cases h) (fun _=>?_);apply aA (nV (-((1:Int):Rat)) (-5/8) (by decide +kernel) (by decide +kernel)) rfl;rw [show ML (-((1:Int):Rat)) (-5/8) = [91,45,49,32,45,53,47,56,93] by decide +kernel];apply vn (pE (a:=[91,45,49,32,45,53,47,56,93])) rfl;dsimp only [aF,aG];refine aQ false rfl (fun h=>by cases h) (fun _=>?_);apply vn dE rfl;refine vs _ rfl ?_ ?_<;>intro h35
 ·exact absurd rfl h35
 apply vn dE rfl;refine vs _ rfl ?_ ?_<;>intro h38
 ·exact absurd rfl h38
 apply aA (aY (-8)) rfl;apply aA (Rh ((-8:Int):Rat) 3 0 8 2 8 8 (by decide +kernel) (by decide) (by decide) (by decide) (by decide +kernel) (by decide +kernel)) rfl;rw [show uB (kF (-((-8:Int):Rat)) 3 (bZ (0:Int).toNat) 2)=(-2,-2) by decide +kernel];dsimp only [aF,aG];apply aA (aY (2)) rfl;apply aA (Qj ((2:Int):Rat) 12 3 137438953472 8 40 8 (by decide +kernel) (by decide) (by decide) (by decide) (by decide +kernel) (by decide +kernel)) rfl;rw [show kF ((2:Int):Rat) 12 (bZ (3:Int).toNat) 8=(1,9/8) by decide +kernel];apply aA (GR 2 4) rfl;rw [show SZ 2 4 = [0,1,-1/2,1/3] by decide +kernel];apply aA (aY (1)) rfl;dsimp only [aF,aG];apply aA (yN 1 2 8 ((1:Int):Rat) (by decide +kernel) (by decide +kernel) (by decide +kernel)) rfl;rw [show JL 1 (gN 1 2) ((1:Int):Rat)=3/4 by decide +kernel];apply aA (aY (1)) rfl;apply aA (yN 3 2 8 ((1:Int):Rat) (by decide +kernel) (by decide +kernel) (by decide +kernel)) rfl;rw [show JL 3 (gN 3 2) ((1:Int):Rat)=10/57 by decide +kernel];apply aA (aY (1)) rfl;dsimp only [aF,aG];apply aA (Ip 5 2 8 ((1:Int):Rat) (by decide +kernel) (by decide +kernel) (by decide +kernel)) rfl;apply vn dE rfl;refine vs _ rfl ?_ ?_<;>intro h52
 ·exact absurd rfl h52
 apply vn dE rfl;refine vs _ rfl ?_ ?_<;>intro h55
 ·exact absurd rfl h55
 apply vn dE rfl;dsimp only [aF,aG];refine vs _ rfl ?_ ?_<;>intro h58
 ·exact absurd rfl h58
 apply vn dE rfl;refine vs _ rfl ?_ ?_<;>intro h61
 ·exact absurd rfl h61
 apply vn dE rfl;refine vs _ rfl ?_ ?_<;>intro h64
 ·exact absurd rfl h64
 apply vn dE rfl;refine vs _ rfl ?_ ?_<;>intro h67
 ·exact absurd rfl h67
 apply aA (nV (-2) (-2) (by decide +kernel) (by decide +kernel)) rfl;rw [show ML (-2) (-2) = [91,45,50,32,45,50,93] by decide +kernel];dsimp only [aF,aG];apply vn (pE (a:=[91,45,50,32,45,50,93])) rfl;refine aQ false rfl (fun h=>by cases h) (fun _=>?_);apply aA (nV 1 (9/8) (by decide +kernel) (by decide +kernel)) rfl;rw [show ML 1 (9/8) = [91,49,32,57,47,56,93] by decide +kernel];apply vn (pE (a:=[91,49,32,57,47,56,93])) rfl;refine aQ false rfl (fun h=>by cases h) (fun _=>?_);apply vn (cF Ll (show (rQ [0,1,-1/2,1/3]).length=4 from rfl)) rfl;dsimp only [aF,aG];apply vn dE rfl;refine vs _ rfl ?_ ?_<;>intro h79
 ·exact absurd rfl h79
 apply vn (gP Ll (m:=2) (by omega) rfl (show ([0,1,-1/2,1/3]:List Rat)[2]? = some (-1/2) from rfl)) rfl;apply vn (oV Tz (by decide) (by simp) (.inl rfl)) rfl;apply aA (iW (-1/2) (by decide +kernel) (by decide +kernel) (by decide +kernel) (by decide +kernel)) rfl;rw [show zZ (-1/2) = [45,49,47,50] by decide +kernel];dsimp only [aF,aG];apply vn (pE (a:=[45,49,47,50])) rfl;refine aQ false rfl (fun h=>by cases h) (fun _=>?_);apply vn (gP Ll (m:=3) (by omega) rfl (show ([0,1,-1/2,1/3]:List Rat)[3]? = some (1/3) from rfl)) rfl;apply vn (oV Tz (by decide) (by simp) (.inl rfl)) rfl;apply aA (iW (1/3) (by decide +kernel) (by decide +kernel) (by decide +kernel) (by decide +kernel)) rfl;rw [show zZ (1/3) = [49,47,51] by decide +kernel];dsimp only [aF,aG];apply vn (pE (a:=[49,47,51])) rfl;refine aQ false rfl (fun h=>by cases h) (fun _=>?_);apply aA (iW (3/4) (by decide +kernel) (by decide +kernel) (by decide +kernel) (by decide +kernel)) rfl;rw [show zZ (3/4) = [51,47,52] by decide +kernel];apply vn (pE (a:=[51,47,52])) rfl;refine aQ false rfl (fun h=>by cases h) (fun _=>?_);apply aA (iW (10/57) (by decide +kernel) (by decide +kernel) (by decide +kernel) (by decide +kernel)) rfl;rw [show zZ (10/57) = [49,48,47,53,55] by decide +kernel];dsimp only [aF,aG];apply vn (pE (a:=[49,48,47,53,55])) rfl;refine aQ false rfl (fun h=>by cases h) (fun _=>?_);apply aA (aY (1)) rfl;apply aA (aY (2)) rfl;apply aA (aY (1)) rfl;dsimp only [aF,aG];apply aA (aY (1)) rfl;apply aA (Ru 1 2) rfl;apply aA (aY (2)) rfl;apply wU (us:=TQ.map Yf) rfl;dsimp only [aF,aG];refine cT {i:Nat // i≤6} (fun g=>[.one (.bool false), .one (.int .i64 (g.1:Int))]) (fun g=>6-g.1) ⟨0,fP _⟩ aV.rfl (fun _=>rfl) ?_;rintro ⟨i,hi⟩;dsimp only [aF,aG] at hi ⊢;apply Kz (n:=6) rfl rfl;apply vn bA rfl;refine vs _ rfl ?_ ?_<;>intro h111
 ·have hi6:i<6:=by omega
  refine dD (xs:=TQ) (f:=Yf) rfl rfl (by omega) (show (i:Int)<((6:Nat):Int) by omega) ?_;refine kN (xs:=TQ) (f:=Yf) (d:=kn i) rfl rfl (by omega) (Int.toNat_natCast i) (SB hi6) rfl ?_;dsimp only [aF,aG];refine dD (xs:=TQ) (f:=Yf) rfl rfl (by omega) (show (i:Int)<((6:Nat):Int) by omega) ?_;refine PO (xs:=TQ) (f:=Yf) (d:=kn i) rfl rfl (by omega) (Int.toNat_natCast i) (SB hi6) (.inl rfl) rfl ?_;dsimp only [aF,aG,Lp,List.drop,List.take];apply aA (Zx hi6) rfl;apply vn dE rfl;refine vs _ rfl ?_ ?_<;>intro h118
  ·exact absurd rfl h118
  refine dD (xs:=TQ) (f:=Yf) rfl rfl (by omega) (show (i:Int)<((6:Nat):Int) by omega) ?_;refine kN (xs:=TQ) (f:=Yf) (d:=kn i) rfl rfl (by omega) (Int.toNat_natCast i) (SB hi6) rfl ?_;apply vn (pE (a:=(kn i).2.2)) rfl;dsimp only [aF,aG];refine aQ false rfl (fun h=>by cases h) (fun _=>?_);apply vn (aH) rfl;dsimp only [aF,aG];exact bF rfl ⟨⟨i+1,by omega⟩,aV.rfl,by show 6-(i+1)<6-i;omega⟩
 refine Ly (by exact ⟨aE.Sub.same,mN,aE.Sub.same,trivial⟩) ab1 rfl ?_;apply aA (aY (65)) rfl;apply aA UZ rfl;apply aA (aY (-1)) rfl;dsimp only [aF,aG];apply aA WI rfl;refine Ly (by exact ⟨aE.Sub.same,mN,aE.Sub.same,trivial⟩) ZM rfl ?_;apply aA (aY (-1)) rfl;apply aA (Lk ((-1:Int):Rat) 2 3 (by decide +kernel) rfl) rfl;dsimp only [aF,aG];apply vn aC rfl;refine vs _ rfl ?_ ?_<;>intro h136
 ·apply vn aC rfl;refine vs _ rfl ?_ ?_<;>intro h138
  ·apply vn aC rfl;refine vs _ rfl ?_ ?_<;>intro h140
   ·apply vn aC rfl;dsimp only [aF,aG];refine vs _ rfl ?_ ?_<;>intro h142
    ·apply vn aC rfl;exact aK rfl
    exact (h142 (by decide)).elim
   exact (h140 (by decide)).elim
  exact (h138 (by decide)).elim
 exact (h136 (by decide)).elim
end Go.Sy
