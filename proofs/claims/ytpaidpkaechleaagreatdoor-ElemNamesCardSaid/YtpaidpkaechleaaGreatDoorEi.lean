/- Part. -/
import Derived.Test.YtpaidpkaechleaaGreatDoorEh
set_option linter.all false
namespace Go.Sy
open Go Go.Proofs Tryz Ord
theorem au8:cR (aP 32) (bZ 32) (VR (aP 32) (bZ 32) ((2:Int):Rat)) false 0 300:=⟨by decide +kernel,by decide +kernel,by decide +kernel,by decide +kernel,by decide +kernel,by decide +kernel,by omega,by omega⟩
theorem at2:cR (aP 32) (bZ 32) (f3,f3) false 9 300:=⟨by decide +kernel,by decide +kernel,by decide +kernel,by decide +kernel,by decide +kernel,by decide +kernel,by omega,by omega⟩
theorem aq1:cR (aP 32) (bZ 32) (We (aP 32) (bZ 32) (aZ ((1:Int):Rat) ((2:Int):Rat))) true 0 300:=⟨by decide +kernel,by decide +kernel,by decide +kernel,by decide +kernel,by decide +kernel,by decide +kernel,by omega,by omega⟩
theorem at5:cR (aP 32) (bZ 32) (rU,rU) true 14 300:=⟨by decide +kernel,by decide +kernel,by decide +kernel,by decide +kernel,by decide +kernel,by decide +kernel,by omega,by omega⟩
theorem at1:cR (aP 64) (bZ 64) (VR (aP 64) (bZ 64) ((2:Int):Rat)) false 0 300:=⟨by decide +kernel,by decide +kernel,by decide +kernel,by decide +kernel,by decide +kernel,by decide +kernel,by omega,by omega⟩
theorem au3:cR (aP 64) (bZ 64) (f3,f3) false 19 300:=⟨by decide +kernel,by decide +kernel,by decide +kernel,by decide +kernel,by decide +kernel,by decide +kernel,by omega,by omega⟩
theorem at0:cR (aP 64) (bZ 64) (We (aP 64) (bZ 64) (aZ ((1:Int):Rat) ((2:Int):Rat))) true 0 300:=⟨by decide +kernel,by decide +kernel,by decide +kernel,by decide +kernel,by decide +kernel,by decide +kernel,by omega,by omega⟩
theorem at4:cR (aP 64) (bZ 64) (rU,rU) true 29 300:=⟨by decide +kernel,by decide +kernel,by decide +kernel,by decide +kernel,by decide +kernel,by decide +kernel,by omega,by omega⟩
theorem ay7:cR (aP 128) (bZ 128) (VR (aP 128) (bZ 128) ((2:Int):Rat)) false 0 300:=⟨by decide +kernel,by decide +kernel,by decide +kernel,by decide +kernel,by decide +kernel,by decide +kernel,by omega,by omega⟩
theorem aw4:cR (aP 128) (bZ 128) (f3,f3) false 38 300:=⟨by decide +kernel,by decide +kernel,by decide +kernel,by decide +kernel,by decide +kernel,by decide +kernel,by omega,by omega⟩
theorem ar3:cR (aP 128) (bZ 128) (We (aP 128) (bZ 128) (aZ ((1:Int):Rat) ((2:Int):Rat))) true 0 300:=⟨by decide +kernel,by decide +kernel,by decide +kernel,by decide +kernel,by decide +kernel,by decide +kernel,by omega,by omega⟩
theorem at6:cR (aP 128) (bZ 128) (rU,rU) true 61 300:=⟨by decide +kernel,by decide +kernel,by decide +kernel,by decide +kernel,by decide +kernel,by decide +kernel,by omega,by omega⟩
def lgN:Nat→Nat
 | 0=>9
 | 1=>19
 | _=>38
def atN:Nat→Nat
 | 0=>14
 | 1=>29
 | _=>61
def TF (i:Nat):Rat×Rat:=lgV (aP (32*2^i)) (bZ (32*2^i)) ((2:Int):Rat) 0 (lgN i)
theorem KQ (i:Nat) (hi:i≤2:=by omega):aD prog 168 [gF (aP (32*2^i)) (bZ (32*2^i)),qT ((2:Int):Rat)] (.ret [dK (TF i)]):=by
 exact match i,hi with
 | 0,_=>Mo (aP 32) (bZ 32) ((2:Int):Rat) 0 9 300 (by decide +kernel) (by decide +kernel) (by decide +kernel) (by decide +kernel) (by decide +kernel) au8 at2
 | 1,_=>Mo (aP 64) (bZ 64) ((2:Int):Rat) 0 19 300 (by decide +kernel) (by decide +kernel) (by decide +kernel) (by decide +kernel) (by decide +kernel) at1 au3
 | 2,_=>Mo (aP 128) (bZ 128) ((2:Int):Rat) 0 38 300 (by decide +kernel) (by decide +kernel) (by decide +kernel) (by decide +kernel) (by decide +kernel) ay7 aw4
theorem XI:aD prog 28 [.one (.int .u8 2),qT ((2:Int):Rat), .one (.int .i64 30)] (.ret [bS [48,46,54,57,51,49,52,55,49,56,48,53,53,57,57,52,53,51,48,57,52,49,55,50,51,50,49,50,49,52,53,56], .one (.int .i64 0)]):=
 GY 2 ((2:Int):Rat) _ TF _ ⟨by decide +kernel,by decide +kernel,by decide +kernel⟩ 168 rfl (fun i hi=>KQ i hi) GG GA
def ax7 (i:Nat):Rat×Rat:=atV (aP (32*2^i)) (bZ (32*2^i)) (aZ ((1:Int):Rat) ((2:Int):Rat)) 0 (atN i)
theorem XS:aD prog 28 [.one (.int .u8 5),qT (aZ ((1:Int):Rat) ((2:Int):Rat)), .one (.int .i64 30)] (.ret [bS [48,46,52,54,51,54,52,55,54,48,57,48,48,48,56,48,54,49,49,54,50,49,52,50,53,54,50,51,49,52,54,49], .one (.int .i64 0)]):=
 GY 5 (aZ ((1:Int):Rat) ((2:Int):Rat)) _ ax7 _ ⟨by decide +kernel,by decide +kernel,by decide +kernel⟩ 172 rfl (fun i hi=>match i,hi with
 | 0,_=>qA (aP 32) (bZ 32) (aZ ((1:Int):Rat) ((2:Int):Rat)) 0 14 300 (by decide +kernel) (by decide +kernel) (by decide +kernel) aq1 at5
 | 1,_=>qA (aP 64) (bZ 64) (aZ ((1:Int):Rat) ((2:Int):Rat)) 0 29 300 (by decide +kernel) (by decide +kernel) (by decide +kernel) at0 at4
 | 2,_=>qA (aP 128) (bZ 128) (aZ ((1:Int):Rat) ((2:Int):Rat)) 0 61 300 (by decide +kernel) (by decide +kernel) (by decide +kernel) ar3 at6) Ph OE
def au5:Nat→Nat
 | 0=>6074000999
 | 1=>26087635650665564424
 | _=>481231938336009023090067544955250113854
def av5 (i:Nat):Rat×Rat:=kF ((2:Int):Rat) 2 (bZ (32*2^i)) (au5 i)
theorem Yk:aD prog 28 [.one (.int .u8 6),qT ((2:Int):Rat), .one (.int .i64 30)] (.ret [bS [49,46,52,49,52,50,49,51,53,54,50,51,55,51,48,57,53,48,52,56,56,48,49,54,56,56,55,50,52,50,49,48], .one (.int .i64 0)]):=
 GY 6 ((2:Int):Rat) _ av5 _ ⟨by decide +kernel,by decide +kernel,by decide +kernel⟩ 173 rfl (fun i hi=>match i,hi with
 | 0,_=>mI ((2:Int):Rat) (aP 32) (bZ 32) 36893488147419103232 6074000999 300 8 300 (by decide +kernel) (by decide +kernel) (by decide +kernel) (by decide +kernel) (by decide +kernel) (by decide +kernel) (by decide +kernel)
 | 1,_=>mI ((2:Int):Rat) (aP 64) (bZ 64) 680564733841876926926749214863536422912 26087635650665564424 300 8 300 (by decide +kernel) (by decide +kernel) (by decide +kernel) (by decide +kernel) (by decide +kernel) (by decide +kernel) (by decide +kernel)
 | 2,_=>mI ((2:Int):Rat) (aP 128) (bZ 128) 231584178474632390847141970017375815706539969331281128078915168015826259279872 481231938336009023090067544955250113854 300 8 300 (by decide +kernel) (by decide +kernel) (by decide +kernel) (by decide +kernel) (by decide +kernel) (by decide +kernel) (by decide +kernel)) Oz OB
open Go Go.Proofs Tryz Ord
def LY:Tr:=.ret [(.agg [tN,(tE (.bool false)),tN,tN,(tE (.bool false)),tN]),(WK 2)]
def Ug:Tr:=.need (.idx 7 (.u 10 0)) (.indexAddr 52 (tT 32) (tT 34)) 0 false (.need (.ldrow 7 (.u 10 0) 0 3 true) (.load 30 (tT 36)) 30 false (aI 81 [(W 0 0),(G3 18)] [none] [38,39] [5,30] 40 true (aX .neq 40 41 0 19 0 4 (.split (.u 20 0) (.ret [(.agg [tN,(tE (.bool false)),tN,tN,(tE (.bool false)),tN]),(W 19 0)]) (aX .add 3 34 1 10 0 3 (.back 0 [lV 9 0,lV 21 0,lV 11 0,lV 12 0,lV 13 0,lV 14 0,lV 15 0,lV 16 0]))))))
def VJ:Tr:=.split (.u 42 0) (aI 69 [] [(some 3)] [] [] 30 true (aX .add 2 91 1 30 0 2 (.back 0 [lV 44 0,lV 31 0,lV 32 0,lV 33 0,lV 43 0,lV 43 1,lV 43 2]))) (aX .eql 2 96 2 41 0 4 (.split (.u 43 0) (aI 69 [] [(some 3)] [] [] 30 true (aI 36 [(G3 44)] [(some 3)] [103] [30] 30 true (aX .add 2 91 1 30 0 2 (.back 0 [lV 46 0,lV 45 0,lV 45 1,lV 45 2,lV 34 0,lV 35 0,lV 36 0])))) (aX .add 2 91 1 30 0 2 (.back 0 [lV 44 0,lV 31 0,lV 32 0,lV 33 0,lV 34 0,lV 35 0,lV 36 0]))))
def No:Tr:=aX .and 2 95 3 40 0 2 (aX .eql 2 96 0 41 0 4 VJ)
def sX:Tr:=.ret [(.agg [(U 31 0),(U 32 0),(U 33 0),(U 34 0),(U 35 0),(U 36 0)]),(WK 0)]
def Vs:Tr:=.loop 0 [lV 29 0,lV 20 0,lV 20 1,lV 20 2,lV 20 3,lV 20 4,lV 20 5] (cX .leq 2 82 83 30 0 24 0 4 (.split (.u 37 0) (aX .add 2 87 4 27 0 2 (cX .leq 2 86 88 30 0 38 0 4 (.split (.u 39 0) (.need (.prim [(W 30 0),(WK 0)] none) (.binOp .sub 2 (tT 93) (tT 94) 2) 2 false No) sX))) sX))
def TH:Tr:=.loop 0 [lV 29 0,lV 20 0,lV 20 1,lV 20 2,lV 20 3,lV 20 4,lV 20 5] (cX .leq 2 82 83 30 0 24 0 4 (.split (.u 37 0) (aX .add 2 87 4 27 0 2 (cX .leq 2 86 88 30 0 38 0 4 (.split (.u 39 0) (.need (.prim [(W 30 0),(WK 1)] none) (.binOp .sub 2 (tT 93) (tT 94) 2) 2 false No) sX))) sX))
def VD:Tr:=.split (.u 41 0) (aI 69 [] [(some 3)] [] [] 30 true (aX .add 2 91 1 29 0 2 (.back 0 [lV 43 0,lV 30 0,lV 31 0,lV 32 0,lV 42 0,lV 42 1,lV 42 2]))) (aX .eql 2 96 2 40 0 4 (.split (.u 42 0) (aI 69 [] [(some 3)] [] [] 30 true (aI 36 [(G3 43)] [(some 3)] [103] [30] 30 true (aX .add 2 91 1 29 0 2 (.back 0 [lV 45 0,lV 44 0,lV 44 1,lV 44 2,lV 33 0,lV 34 0,lV 35 0])))) (aX .add 2 91 1 29 0 2 (.back 0 [lV 43 0,lV 30 0,lV 31 0,lV 32 0,lV 33 0,lV 34 0,lV 35 0]))))
def Oc:Tr:=aX .and 2 95 3 39 0 2 (aX .eql 2 96 0 40 0 4 VD)
def kG:Tr:=.ret [(.agg [(U 30 0),(U 31 0),(U 32 0),(U 33 0),(U 34 0),(U 35 0)]),(WK 0)]
def NI:Tr:=cX .leq 2 86 88 29 0 37 0 4 (.split (.u 38 0) (.need (.prim [(W 29 0),(WK 0)] none) (.binOp .sub 2 (tT 93) (tT 94) 2) 2 false Oc) kG)
def Lq:Tr:=cX .leq 2 86 88 29 0 37 0 4 (.split (.u 38 0) (.need (.prim [(W 29 0),(WK 1)] none) (.binOp .sub 2 (tT 93) (tT 94) 2) 2 false Oc) kG)
def UT:Tr:=.need (.prim [(W 0 0),(.one (.c (.k (.int .u8 4))))] none) (.binOp .eql 5 (tT 78) (.const (.int .u8 4)) 5) 4 false (.split (.u 27 0) (aX .add 2 80 1 23 0 2 (.loop 0 [lV 28 0,lV 20 0,lV 20 1,lV 20 2,lV 20 3,lV 20 4,lV 20 5] (cX .leq 2 82 83 29 0 24 0 4 (.split (.u 36 0) (aX .add 2 87 4 23 0 2 NI) kG)))) (aX .add 2 80 1 23 0 2 (.loop 0 [lV 28 0,lV 20 0,lV 20 1,lV 20 2,lV 20 3,lV 20 4,lV 20 5] (cX .leq 2 82 83 29 0 24 0 4 (.split (.u 36 0) (aX .add 2 87 4 23 0 2 Lq) kG)))))
def TL:Tr:=aI 17 [(G3 1)] [none] [73] [30] 3 true (aX .eql 3 74 0 25 0 4 (.split (.u 26 0) (aX .sub 2 76 1 23 0 2 (.need (.prim [(W 0 0),(.one (.c (.k (.int .u8 4))))] none) (.binOp .eql 5 (tT 78) (.const (.int .u8 4)) 5) 4 false (.split (.u 28 0) (aX .add 2 80 1 27 0 2 Vs) (aX .add 2 80 1 27 0 2 TH)))) UT))
def Tn:Tr:=.need (.prim [(W 0 0),(.one (.c (.k (.int .u8 4))))] none) (.binOp .eql 5 (tT 78) (.const (.int .u8 4)) 5) 4 false (.split (.u 27 0) (aX .add 2 80 1 26 0 2 (.loop 0 [lV 28 0,lV 20 0,lV 20 1,lV 20 2,lV 20 3,lV 20 4,lV 20 5] (cX .leq 2 82 83 29 0 23 0 4 (.split (.u 36 0) (aX .add 2 87 4 26 0 2 NI) kG)))) (aX .add 2 80 1 26 0 2 (.loop 0 [lV 28 0,lV 20 0,lV 20 1,lV 20 2,lV 20 3,lV 20 4,lV 20 5] (cX .leq 2 82 83 29 0 23 0 4 (.split (.u 36 0) (aX .add 2 87 4 26 0 2 Lq) kG)))))
def Ra:Tr:=.split (.u 40 0) (aI 69 [] [(some 3)] [] [] 30 true (aX .add 2 91 1 28 0 2 (.back 0 [lV 42 0,lV 29 0,lV 30 0,lV 31 0,lV 41 0,lV 41 1,lV 41 2]))) (aX .eql 2 96 2 39 0 4 (.split (.u 41 0) (aI 69 [] [(some 3)] [] [] 30 true (aI 36 [(G3 42)] [(some 3)] [103] [30] 30 true (aX .add 2 91 1 28 0 2 (.back 0 [lV 44 0,lV 43 0,lV 43 1,lV 43 2,lV 32 0,lV 33 0,lV 34 0])))) (aX .add 2 91 1 28 0 2 (.back 0 [lV 42 0,lV 29 0,lV 30 0,lV 31 0,lV 32 0,lV 33 0,lV 34 0]))))
def Ky:Tr:=aX .and 2 95 3 38 0 2 (aX .eql 2 96 0 39 0 4 Ra)
def pP:Tr:=.ret [(.agg [(U 29 0),(U 30 0),(U 31 0),(U 32 0),(U 33 0),(U 34 0)]),(WK 0)]
def Sb:Tr:=.loop 0 [lV 27 0,lV 20 0,lV 20 1,lV 20 2,lV 20 3,lV 20 4,lV 20 5] (cX .leq 2 82 83 28 0 23 0 4 (.split (.u 35 0) (aX .add 2 87 4 22 0 2 (cX .leq 2 86 88 28 0 36 0 4 (.split (.u 37 0) (.need (.prim [(W 28 0),(WK 0)] none) (.binOp .sub 2 (tT 93) (tT 94) 2) 2 false Ky) pP))) pP))
def RT:Tr:=.loop 0 [lV 27 0,lV 20 0,lV 20 1,lV 20 2,lV 20 3,lV 20 4,lV 20 5] (cX .leq 2 82 83 28 0 23 0 4 (.split (.u 35 0) (aX .add 2 87 4 22 0 2 (cX .leq 2 86 88 28 0 36 0 4 (.split (.u 37 0) (.need (.prim [(W 28 0),(WK 1)] none) (.binOp .sub 2 (tT 93) (tT 94) 2) 2 false Ky) pP))) pP))
def Qw:Tr:=aI 84 [(.agg [(U 1 3),(U 1 4),(U 1 5)])] [none] [70] [30] 2 true (aI 17 [(G3 1)] [none] [73] [30] 3 true (aX .eql 3 74 0 24 0 4 (.split (.u 25 0) (aX .sub 2 76 1 22 0 2 Tn) (.need (.prim [(W 0 0),(.one (.c (.k (.int .u8 4))))] none) (.binOp .eql 5 (tT 78) (.const (.int .u8 4)) 5) 4 false (.split (.u 26 0) (aX .add 2 80 1 22 0 2 Sb) (aX .add 2 80 1 22 0 2 RT))))))
def VH:Tr:=aI 83 [(G6 18),(G6 19)] [(some 6)] [51,57] [39,39] 39 true (.need (.prim [(W 0 0),(.one (.c (.k (.int .u8 3))))] none) (.binOp .neq 5 (tT 59) (.const (.int .u8 3)) 5) 4 false (.split (.u 21 0) (.need (.prim [(W 0 0),(.one (.c (.k (.int .u8 4))))] none) (.binOp .neq 5 (tT 62) (.const (.int .u8 4)) 5) 4 false (.split (.u 22 0) (.ret [(G6 20),(WK 0)]) (aI 84 [(G3 1)] [none] [67] [30] 2 false (aI 84 [(.agg [(U 1 3),(U 1 4),(U 1 5)])] [none] [70] [30] 2 true TL)))) (aI 84 [(G3 1)] [none] [67] [30] 2 false Qw)))
def Vh:Tr:=.need (.lit 3 [[(.u 1 0),(.u 1 1),(.u 1 2)],[(.u 1 3),(.u 1 4),(.u 1 5)]]) (.buildSlice 52 2 #[(0,(tT 29)),(1,(tT 31))]) 52 false (.need (.lenrow 7) (.call ⟨.builtin .len,#[(tT 32)],#[52]⟩) 3 false (.loop 0 [lK 0,lK 0,lN,(.w (.one (.c (.k (.bool false))))),lN,lN,(.w (.one (.c (.k (.bool false))))),lN] (cX .lss 3 34 33 10 0 8 0 0 (.split (.u 17 0) Ug (aI 82 [(.agg [(U 0 0),(U 1 0),(U 1 1),(U 1 2)]),(W 2 0)] [(some 6)] [49,50] [122,3] 39 false (aI 82 [(.agg [(U 0 0),(U 1 3),(U 1 4),(U 1 5)]),(W 2 0)] [(some 6)] [55,56] [122,3] 39 true VH))))))
def Yn:Tr:=.need (.prim [(W 0 0),(.one (.c (.k (.int .u8 1))))] none) (.binOp .lss 5 (tT 16) (.const (.int .u8 1)) 5) 4 false (.split (.u 3 0) LY (.need (.prim [(W 0 0),(.one (.c (.k (.int .u8 6))))] none) (.binOp .gtr 5 (tT 19) (.const (.int .u8 6)) 5) 4 false (.split (.u 4 0) LY (aI 80 [(G6 1)] [none] [23] [39] 4 false (.need (.prim [(W 5 0)] none) (.unOp .not 4 (tT 24)) 4 false (.split (.u 6 0) LY Vh))))))
theorem Oe:aN prog f21 (fun _=>none) [.v none, .v (some 6), .v none]=Yn:=by kernel_rfl
theorem Oj (a b c d:Rat) (B:Nat) (ha:Fit B a) (hb:Fit B b) (hc:Fit B c) (hd:Fit B d) (hB:1≤B:=by omega) (hB2:B≤8589934592:=by omega):aD prog 83 [(gF a b:aE),(gF c d:aE)] (.ret [gF (lE [a,c] 2) (jU [b,d] 2)]):=by
 refine bU func83 Vr ?_;apply wU (us:=[qC a,qC c]) rfl;apply aA (VU [a,c] B (iL ha hc) hB hB2 (by simp)) rfl;apply wU (us:=[qC b,qC d]) rfl;apply aA (SI [b,d] B (iL hb hd) hB hB2 (by simp)) rfl;exact aK rfl
def fx (a b:Rat) (i:Nat):Rat:=if i=0 then a else b
theorem Wp (a b:Rat) {i:Nat} (h:i<2):[a,b][i]? = some (fx a b i):=by
 match i,h with
 | 0,_=>rfl
 | 1,_=>rfl
def an3:Nat→Nat
 | 0=>3
 | 1=>0
 | 2=>2
 | _=>3
theorem VA  :aD prog 21 [(.one (.int .u8 3):aE),(gF 0 ((2:Int):Rat):aE),(.one (.int .i64 3):aE)] (.ret [gF 0 ((1:Int):Rat), .one (.int .i64 0)]):=by
 refine bU func21 Oe ?_;apply vn bA rfl;refine aQ false rfl (fun h=>by cases h) (fun _=>?_);apply vn bJ rfl;refine aQ false rfl (fun h=>by cases h) (fun _=>?_);apply aA (uR 0 ((2:Int):Rat) 8 (by decide +kernel) (by decide +kernel)) rfl;rw [show decide (0≤((2:Int):Rat))=true by decide +kernel];apply vn oE rfl;dsimp only [aF,aG];refine aQ false rfl (fun h=>by cases h) (fun _=>?_);apply wU (us:=([0,((2:Int):Rat)]:List Rat).map qC) rfl;apply Kz (n:=2) rfl rfl;refine cT {i:Nat // i≤2} (fun g=>[.one (.int .i64 0), .one (.int .i64 (g.1:Int)), .one (.exact (.slice none 0 0)), .one (.bool false), .one (.exact (.slice none 0 0)), .one (.exact (.slice none 0 0)), .one (.bool false), .one (.exact (.slice none 0 0))]) (fun g=>2-g.1) ⟨0,fP _⟩ aV.rfl (fun _=>rfl) ?_;rintro ⟨i,hi⟩;dsimp only [aF,aG] at hi ⊢;apply vn bA rfl;refine vs _ rfl ?_ ?_<;>intro h14
 ·have hi2:i<2:=by omega
  have hck:aD prog 81 [.one (.int .u8 3),qT (fx 0 ((2:Int):Rat) i)] (.ret [.one (.int .i64 0)]):=by
   match i,hi2 with
   | 0,_=>exact PW
   | 1,_=>exact PN
  refine nE rfl rfl (by omega) (by simp;omega) ?_;refine PO (m:=i) (d:=fx 0 ((2:Int):Rat) i) rfl rfl (by omega) (Int.toNat_natCast i) (Wp _ _ hi2) (.inl rfl) rfl ?_;dsimp only [aF,aG,Lp,List.drop,List.take];apply aA hck rfl;apply vn dE rfl;refine aQ false rfl (fun h=>by cases h) (fun _=>?_);apply vn (aH) rfl;dsimp only [aF,aG];exact bF rfl ⟨⟨i+1,by omega⟩,aV.rfl,by show 2-(i+1)<2-i;omega⟩
 apply aA TB rfl;apply aA TP rfl;apply aA (Oj 0 0 (7/8) 1 8 (by decide +kernel) (by decide +kernel) (by decide +kernel) (by decide +kernel)) rfl;rw [show lE [0,(7/8)] 2=0 by decide +kernel,show jU [0,1] 2=((1:Int):Rat) by decide +kernel];apply vn dE rfl;dsimp only [aF,aG];refine aQ false rfl (fun h=>by cases h) (fun _=>?_);apply aA as4 rfl;apply aA av3 rfl;apply aA (bB 0) rfl;apply vn aC rfl;dsimp only [aF,aG];refine aQ true rfl (fun _=>?_) (fun h=>by cases h);apply vn (aW) rfl;apply vn aC rfl;refine aQ false rfl (fun h=>by cases h) (fun _=>?_);apply vn (aH) rfl;refine cT {i:Nat // 0≤i∧i≤2} (fun g=>(.one (.int .i64 (g.1:Int)):aE)::(eB 0 ((1:Int):Rat)).map .one) (fun g=>2-g.1) ⟨0,by omega,by omega⟩ aV.rfl (fun _=>rfl) ?_;rintro ⟨q,hq,hq2⟩;dsimp only [aF,aG,List.map] at hq hq2 ⊢;apply vn jF rfl;refine vs _ rfl ?_ ?_<;>intro h172
 ·apply vn (aH) rfl;apply vn jF rfl;refine vs _ rfl ?_ ?_<;>intro h175
  ·apply vn (aW) rfl;dsimp only [aF,aG]
   apply vn (MQ (Oi (tr:=an3 q) (by
    have hh:q≤1:=by omega
    match q,hh with
    | 0,_=>decide
    | 1,_=>decide))) rfl
   apply vn aC rfl;refine vs _ rfl ?_ ?_<;>intro h179
   ·apply aA bW rfl;apply vn (aH) rfl;dsimp only [aF,aG];exact bF rfl ⟨⟨q+1,by omega,by omega⟩,aV.rfl,by show 2-(q+1)<2-q;omega⟩
   apply vn aC rfl;refine vs _ rfl ?_ ?_<;>intro h184
   ·exfalso
    have hh:q=0∨q=1:=by omega
    rcases hh with e | e<;>subst e<;>simp [an3] at h184
   apply vn (aH) rfl;dsimp only [aF,aG];exact bF rfl ⟨⟨q+1,by omega,by omega⟩,aV.rfl,by show 2-(q+1)<2-q;omega⟩
  exfalso;omega
 exact aK rfl
theorem Uj  :aD prog 21 [(.one (.int .u8 4):aE),(gF ((3:Int):Rat) ((4:Int):Rat):aE),(.one (.int .i64 3):aE)] (.ret [gF (-((1:Int):Rat)) (-5/8), .one (.int .i64 0)]):=by
 refine bU func21 Oe ?_;apply vn bA rfl;refine aQ false rfl (fun h=>by cases h) (fun _=>?_);apply vn bJ rfl;refine aQ false rfl (fun h=>by cases h) (fun _=>?_);apply aA (uR ((3:Int):Rat) ((4:Int):Rat) 8 (by decide +kernel) (by decide +kernel)) rfl;rw [show decide (((3:Int):Rat)≤((4:Int):Rat))=true by decide +kernel];apply vn oE rfl;dsimp only [aF,aG];refine aQ false rfl (fun h=>by cases h) (fun _=>?_);apply wU (us:=([((3:Int):Rat),((4:Int):Rat)]:List Rat).map qC) rfl;apply Kz (n:=2) rfl rfl;refine cT {i:Nat // i≤2} (fun g=>[.one (.int .i64 0), .one (.int .i64 (g.1:Int)), .one (.exact (.slice none 0 0)), .one (.bool false), .one (.exact (.slice none 0 0)), .one (.exact (.slice none 0 0)), .one (.bool false), .one (.exact (.slice none 0 0))]) (fun g=>2-g.1) ⟨0,fP _⟩ aV.rfl (fun _=>rfl) ?_;rintro ⟨i,hi⟩;dsimp only [aF,aG] at hi ⊢;apply vn bA rfl;refine vs _ rfl ?_ ?_<;>intro h14
 ·have hi2:i<2:=by omega
  have hck:aD prog 81 [.one (.int .u8 4),qT (fx ((3:Int):Rat) ((4:Int):Rat) i)] (.ret [.one (.int .i64 0)]):=by
   match i,hi2 with
   | 0,_=>exact PU
   | 1,_=>exact PT
  refine nE rfl rfl (by omega) (by simp;omega) ?_;refine PO (m:=i) (d:=fx ((3:Int):Rat) ((4:Int):Rat) i) rfl rfl (by omega) (Int.toNat_natCast i) (Wp _ _ hi2) (.inl rfl) rfl ?_;dsimp only [aF,aG,Lp,List.drop,List.take];apply aA hck rfl;apply vn dE rfl;refine aQ false rfl (fun h=>by cases h) (fun _=>?_);apply vn (aH) rfl;dsimp only [aF,aG];exact bF rfl ⟨⟨i+1,by omega⟩,aV.rfl,by show 2-(i+1)<2-i;omega⟩
 apply aA Ue rfl;apply aA Vv rfl;apply aA (Oj (-1) (-7/8) (-3/4) (-5/8) 8 (by decide +kernel) (by decide +kernel) (by decide +kernel) (by decide +kernel)) rfl;rw [show lE [(-1),(-3/4)] 2=(-((1:Int):Rat)) by decide +kernel,show jU [(-7/8),(-5/8)] 2=(-5/8) by decide +kernel];apply vn dE rfl;dsimp only [aF,aG];refine aQ true rfl (fun _=>?_) (fun h=>by cases h);apply vn dE rfl;refine aQ false rfl (fun h=>by cases h) (fun _=>?_);apply aA ay1 rfl;apply aA ar7 rfl;apply aA (bB ((3:Int):Rat)) rfl;rw [show ((3:Int):Rat).num.sign=1 by decide +kernel];dsimp only [aF,aG];apply vn aC rfl;refine aQ false rfl (fun h=>by cases h) (fun _=>?_);apply vn aC rfl;refine aQ true rfl (fun _=>?_) (fun h=>by cases h);apply vn (aH) rfl;refine cT {i:Nat // 2≤i∧i≤3} (fun g=>(.one (.int .i64 (g.1:Int)):aE)::(eB (-((1:Int):Rat)) (-5/8)).map .one) (fun g=>3-g.1) ⟨2,by omega,by omega⟩ aV.rfl (fun _=>rfl) ?_;rintro ⟨q,hq,hq2⟩;dsimp only [aF,aG,List.map] at hq hq2 ⊢;apply vn jF rfl;refine vs _ rfl ?_ ?_<;>intro h92
 ·apply vn (aH) rfl;apply vn jF rfl;refine vs _ rfl ?_ ?_<;>intro h95
  ·apply vn (aW) rfl;dsimp only [aF,aG]
   apply vn (MQ (Oi (tr:=an3 q) (by
    obtain rfl:q=2:=by omega
    decide))) rfl
   apply vn aC rfl;refine vs _ rfl ?_ ?_<;>intro h99
   ·exfalso
    have hh:q=2:=by omega
    subst hh;simp [an3] at h99
   apply vn aC rfl;refine vs _ rfl ?_ ?_<;>intro h104
   ·apply aA bW rfl;dsimp only [aF,aG];apply aA (lF _) rfl;apply vn (aH) rfl;dsimp only [aF,aG];exact bF rfl ⟨⟨q+1,by omega,by omega⟩,aV.rfl,by show 3-(q+1)<3-q;omega⟩
   exfalso
   have hh:q=2:=by omega
   subst hh;simp [an3] at h104
  exfalso;omega
 exact aK rfl
open Go Go.Proofs Go.RowKit Tryz Ord
attribute [local go_sem] Oper.semAt_some
def Jv:Tr:=.retr [] 5
def JF:Tr:=.need (.strow 2 1 (.k (.int .i64 (0))) 0 [(.k (.int .i64 (1)))]) (.store 3 (.tmp 12) (.const (I3 (1)))) 0 false Jv
def Jf:Tr:=.retr [] 7
def Iz:Tr:=.need (.strow 2 1 (.k (.int .i64 (0))) 0 [(.k (.int .i64 (-1)))]) (.store 3 (.tmp 12) (.const (I3 (-1)))) 0 false Jf
def Fk:Tr:=.fail 1034
def IL:Tr:=.split (.u 6 0) Iz Fk
def HL:Tr:=.need (.prim [(W 5 0),(WK (0))] none) (.binOp .leq 3 (.tmp 45) (.const (I3 (0))) 3) 4 false IL
def Hz:Tr:=.need (.call 68 [(.agg [(U 1 3),(U 1 4),(U 1 5)]),(.agg [(U 0 0),(U 0 1),(U 0 2)])] [none]) (.call ⟨.value (.func 68),#[(.tmp 43),(.tmp 44)],#[30,30]⟩) 3 true HL
def HN:Tr:=.split (.u 4 0) JF Hz
def Je:Tr:=.need (.prim [(W 3 0),(WK (0))] none) (.binOp .geq 3 (.tmp 39) (.const (I3 (0))) 3) 4 false HN
def Ho:Tr:=.need (.call 68 [(.agg [(U 1 0),(U 1 1),(U 1 2)]),(.agg [(U 0 0),(U 0 1),(U 0 2)])] [none]) (.call ⟨.value (.func 68),#[(.tmp 37),(.tmp 38)],#[30,30]⟩) 3 true Je
theorem LK:cC prog 48 (fun _=>none) (bC [1,0,1,1,1,1,1,0,1,0,1] (bH f23)) [(5, .ref 3),(13, .ref 6)] 12 3 1 1 ([].map ResultVar.tmp)=Ho:=by kernel_rfl
theorem ao6 (q:Rat) (p:Rat×Rat) (c:List aL) (hc:c.length=1) (hq:Fit 300 q) (f1:Fit 300 p.1) (f2:Fit 300 p.2) (hl:p.1<q) (hh:p.2≤q):vc prog (fun o=>o = .retr [] ([[.int .i64 (-1)]])) (cC prog 48 (fun _=>none) (bC [1,0,1,1,1,1,1,0,1,0,1] (bH f23)) [(5, .ref 3),(13, .ref 6)] 12 3 1 1 ([].map ResultVar.tmp)) ([.ref (qC q), .ref (eB p.1 p.2)].map In.env ++ [.rows ([c])]) []:=by
 rw [LK];dsimp only [List.map,In.env,aF,aG];obtain ⟨a0,rfl⟩:=So hc;apply aA (bE p.1 q 300 300 f1 hq) rfl;apply vn iE rfl;refine vs _ rfl ?_ ?_<;>intro h2
 ·exact absurd (kX.2 hl) (by omega)
 apply aA (bE p.2 q 300 300 f2 hq) rfl;apply vn jF rfl;dsimp only [aF,aG];refine vs _ rfl ?_ ?_<;>intro h7
 ·refine kD (ts:=[[a0]]) (us:=[[.int .i64 (-1)]]) rfl rfl (by omega) (cells:=[a0]) rfl rfl ?_;dsimp only [aF,aG];exact dB rfl rfl
 exact absurd (oQ.2 hh) (by omega)
set_option maxRecDepth 100000 in
set_option maxHeartbeats 1000000 in
theorem Mj (kind:Nat) (x q y:Rat) (V:Rat×Rat) (hV:aD prog 130 ([gF (aP 32) (bZ 32)] ++ [aL.bI (.int .u8 (kind:Int)::qC x)].map .one) (.ret [dK V]))
  (hc:aD prog 81 [.one (.int .u8 (kind:Int)),qT x] (.ret [.one (.int .i64 0)])) (he:aD prog 87 [.agg (.int .u8 (kind:Int)::qC x)] (.ret [qT y, .one (.bool false)]))
  (h1:Fit 300 V.1) (h2:Fit 300 V.2) (hq:Fit 300 q) (hl:V.1<q) (hh:V.2≤q) :
  aD prog 23 [.one (.int .u8 (kind:Int)),qT x,qT q] (.ret [.one (.int .i64 (-1)), .one (.int .i64 0)]):=by
 refine ⟨enters_of func23 (by kernel_rfl) rfl,fun M w vs hM hv=>?_⟩
 match vs,hv with
 | [],hv=>exact hv.elim
 | [_],hv=>exact hv.2.elim
 | [_,_],hv=>exact hv.2.2.elim
 | _::_::_::_::_,hv=>exact hv.2.2.2.elim
 | [w0,w1,w2],hv=>
 obtain ⟨⟨rfl,_⟩,hxs,hqs,_⟩:=hv;obtain ⟨v0,v1,v2,hpk,hx3⟩:=My (show bR M w [qT x] [w1] from ⟨hxs,trivial⟩);obtain rfl:w1 = .agg #[v0,v1,v2]:=hpk;obtain ⟨q0,q1,q2,hpk2,hq3⟩:=My (show bR M w [qT q] [w2] from ⟨hqs,trivial⟩);obtain rfl:w2 = .agg #[q0,q1,q2]:=hpk2;have hone:=hx3.one;refine (callsIn_wide (n:=1001)).1 ?_;refine callsIn_of_wp_marks func23 rfl trivial ?_ rfl;simp only [ntmps23,List.size_toArray,List.length_cons,List.length_nil,Nat.reduceAdd,Nat.reduceSub,Array.replicate_succ,Array.replicate_zero,List.push_toArray,List.append_toArray,List.nil_append,List.cons_append]
 gi_wp2
 obtain ⟨n0,hn0⟩:∃ n0,w.heap.size=n0:=⟨_,rfl⟩
 obtain ⟨W0,hW0⟩:∃ W0,((w.alloc (.cells #[v0,v1,v2] 30)).alloc (.cells #[q0,q1,q2] 30))=W0:=⟨_,rfl⟩
 have hs0:W0.heap.size=n0+2:=by rw [←hW0];simp [hn0]
 have hb0:Below n0 w W0:=by
  rw [←hW0];exact ((Below.refl _ w).alloc (by omega) _).alloc (by simp;omega) _
 have hx0:W0.heap[n0]? = some (.cells #[v0,v1,v2] 30 (0,0)):=by rw [←hW0,heap_alloc_old _ _ _ (by simp;omega),←hn0];exact heap_alloc_new w _
 have hk0:W0.heap[n0+1]? = some (.cells #[q0,q1,q2] 30 (0,0)):=by
  rw [←hW0];have:=heap_alloc_new (w.alloc (.cells #[v0,v1,v2] 30)) (.cells #[q0,q1,q2] 30);rw [World.size_alloc,hn0] at this;exact this
 rw [hW0];have hM0:Fine M W0:=⟨fun b hb=>by have:=hM.1 b hb;have:=hb0.size;omega,hM.2.cE (aR.below (hn0▸hb0))⟩
 have hx30:=hx3.mono (aR.below (M:=M) (hn0▸hb0));have c0:W0.cell? ⟨n0,0,none⟩=some v0:=aB hx0 rfl;have c1:W0.cell? ⟨n0,1,none⟩=some v1:=aB hx0 rfl;have c2:W0.cell? ⟨n0,2,none⟩=some v2:=aB hx0 rfl;simp only [hn0];clear hW0;refine wpIn_wide.2 (wp_scope_straight ((wpIn_wide (n:=1001)).1 ?_))
 gi_wp2
 refine ⟨trivial,?_⟩;refine (callsIn_wide.2 (lL hc hM0 (vs:=[.int .u8 kind, .agg #[v0,v1,v2]]) ⟨⟨rfl,rfl⟩,⟨_,rfl,hx30⟩,trivial⟩)).mono ?_;rintro e W1 ⟨hb1,rfl⟩;dsimp only;have hs1:=hb1.size;have hx1:=(hb1.block n0 (by omega)).trans hx0;have hk1:=(hb1.block (n0+1) (by omega)).trans hk0;have hb1':Below n0 w W1:=hb0.trans (hb1.mono (by omega));clear c0 c1 c2;have c0:W1.cell? ⟨n0,0,none⟩=some v0:=aB hx1 rfl;have c1:W1.cell? ⟨n0,1,none⟩=some v1:=aB hx1 rfl;have c2:W1.cell? ⟨n0,2,none⟩=some v2:=aB hx1 rfl
 gi_wp2
 obtain ⟨n2,hn2⟩:∃ n2,W1.heap.size=n2:=⟨_,rfl⟩
 have hs12:W0.heap.size≤n2:=by omega
 rw [MP (heap_alloc_new W1 _) (hone _ (by simp)) (hone _ (by simp)) (hone _ (by simp))];have hp3:=setRow_heap _ _ _ #[.int .u8 (kind:Int),v0,v1,v2] 122 (0,0) (heap_alloc_new W1 (.cells #[.int .u8 (kind:Int), .slice none 0 0, .bool false, .slice none 0 0] 122));have hbp:Below W1.heap.size W1 ((W1.alloc (.cells #[.int .u8 (kind:Int), .slice none 0 0, .bool false, .slice none 0 0] 122)).setRow W1.heap.size #[.int .u8 (kind:Int),v0,v1,v2]):=below_setRow ((Below.refl _ W1).alloc (cD _) _) _ (cD _);have hs3:((W1.alloc (.cells #[.int .u8 (kind:Int), .slice none 0 0, .bool false, .slice none 0 0] 122)).setRow W1.heap.size #[.int .u8 (kind:Int),v0,v1,v2]).heap.size=W1.heap.size+1:=by simp [World.setRow]
 generalize (W1.alloc _).setRow _ _=W3 at hp3 hbp hs3 ⊢;rw [hn2] at *;have e0:W3.cell? ⟨n2,0,none⟩=some (.int .u8 (kind:Int)):=aB hp3 rfl;have e1:W3.cell? ⟨n2,1,none⟩=some v0:=aB hp3 rfl;have e2:W3.cell? ⟨n2,2,none⟩=some v1:=aB hp3 rfl;have e3:W3.cell? ⟨n2,3,none⟩=some v2:=aB hp3 rfl
 gi_wp2
 have hb3:Below n0 w W3:=hb1'.trans (hbp.mono (by omega));have gG:∀ W',Below n0 w W'→Fine M W':=fun W' h=>⟨fun b hb=>by have:=hM.1 b hb;have:=h.size;omega,hM.2.cE (aR.below (hn0▸h))⟩
 have hk3:=(hbp.block (n0+1) (by omega)).trans hk1;refine ⟨trivial,?_⟩;refine (callsIn_wide.2 (MZ he (gG W3 hb3) (vs:=[.agg #[.int .u8 (kind:Int),v0,v1,v2]]) ⟨⟨_,rfl,⟨rfl,rfl⟩,hx3.mono (aR.below (hn0▸hb3))⟩,trivial⟩)).mono ?_;rintro e W4 ⟨hb4,y0,y1,y2,rfl,hy⟩;dsimp only;have hyo:=hy.one;have hs4:=hb4.size
 gi_wp2
 rw [wY (heap_alloc_new W4 _) (hyo _ (by simp)) (hyo _ (by simp)) (hyo _ (by simp))];have hb5:Below W4.heap.size W4 ((W4.alloc (.cells #[.slice none 0 0, .bool false, .slice none 0 0] 30)).setRow W4.heap.size #[y0,y1,y2]):=below_setRow ((Below.refl _ W4).alloc (cD _) _) _ (cD _);generalize (W4.alloc _).setRow _ _=W5 at hb5 ⊢;have hs5:=hb5.size;have hp5:=(hb5.block n2 (by omega)).trans ((hb4.block n2 (by omega)).trans hp3);have hk5:=(hb5.block (n0+1) (by omega)).trans ((hb4.block (n0+1) (by omega)).trans hk3);have hp6:(W5.alloc (.cells #[.int .i64 0] 3)).heap[n2]? = some (.cells #[.int .u8 (kind:Int),v0,v1,v2] 122 (0,0)):=(heap_alloc_old _ _ _ (by omega)).trans hp5;have g0:(W5.alloc (.cells #[.int .i64 0] 3)).cell? ⟨n2,0,none⟩=some (.int .u8 (kind:Int)):=aB hp6 rfl;have g1:(W5.alloc (.cells #[.int .i64 0] 3)).cell? ⟨n2,1,none⟩=some v0:=aB hp6 rfl;have g2:(W5.alloc (.cells #[.int .i64 0] 3)).cell? ⟨n2,2,none⟩=some v1:=aB hp6 rfl;have g3:(W5.alloc (.cells #[.int .i64 0] 3)).cell? ⟨n2,3,none⟩=some v2:=aB hp6 rfl
 gi_wp2
 have hb6:Below W5.heap.size W5 (W5.alloc (.cells #[.int .i64 0] 3)):=(Below.refl _ W5).alloc (cD _) _;have ho6:=heap_alloc_new W5 (.cells #[.int .i64 0] 3);obtain ⟨n5,hn5⟩:∃ n5,W5.heap.size=n5:=⟨_,rfl⟩
 have hlt25:n2<n5:=by omega
 have hs6:(W5.alloc (.cells #[.int .i64 0] 3)).heap.size=n5+1:=by simp [hn5]
 generalize W5.alloc _=W6 at hb6 ho6 hs6 ⊢;rw [hn5] at *;have hs56:=hb6.size;have hb6':Below n0 w W6:=hb3.trans ((hb4.mono (by omega)).trans ((hb5.mono (by omega)).trans (hb6.mono (by omega))));have hk6:=(hb6.block (n0+1) (by omega)).trans hk5;have hlow:∀ b,M b→b<n0:=fun b hb=>by have:=hM.1 b hb;omega
 have hkM:aR M w (fun b=>M b∨b=n5) W6:=fun b o hb ho _=>by
  have hlt:=(dS.1 ho).1;exact ⟨fun h=>h.elim hb (by omega),(hb6'.block b (by omega)).trans ho⟩
 have hM6:Fine (fun b=>M b∨b=n5) W6:=⟨fun b hb=>hb.elim (fun h=>by have:=hlow b h;omega) (by omega),hM.2.cE hkM⟩
 have hp6':=(hb6.block n2 (by omega)).trans hp5;clear g0 g1 g2 g3;have g0:W6.cell? ⟨n2,0,none⟩=some (.int .u8 (kind:Int)):=aB hp6' rfl;have g1:W6.cell? ⟨n2,1,none⟩=some v0:=aB hp6' rfl;have g2:W6.cell? ⟨n2,2,none⟩=some v1:=aB hp6' rfl;have g3:W6.cell? ⟨n2,3,none⟩=some v2:=aB hp6' rfl;refine wpIn_label ?_
 gi_wp2
 refine ⟨trivial,?_⟩;refine (callsIn_wide.2 ((eC kind x).2 (fun b=>M b∨b=n5) W6 [.agg #[.int .u8 (kind:Int),v0,v1,v2]] hM6 ⟨⟨_,rfl,⟨rfl,rfl⟩,hx3.mono hkM⟩,trivial⟩)).mono ?_;rintro e W7 ⟨hb7,us,rfl,hus⟩
 match us,hus with
 | [],hus=>exact hus.elim
 | _::_::_,hus=>exact hus.2.elim
 | [it],hus=>
 obtain ⟨⟨cvs,rfl,hcv⟩,_⟩:=hus
 match cvs,hcv with
 | [],hcv=>exact hcv.elim
 | _::_::_,hcv=>exact hcv.2.elim
 | [vp],hcv=>
 have hvp:=hcv.1;have hs7:=hb7.size;have hM7:Fine (fun b=>M b∨b=n5) W7:=⟨fun b hb=>by have:=hM6.1 b hb;omega,hM6.2.cE (aR.below hb7)⟩
 have hk7:=(hb7.block (n0+1) (by omega)).trans hk6;have ho7:=(hb7.block n5 (by omega)).trans ho6;have hq7:aM (fun b=>M b∨b=n5) W7 (qC q) [q0,q1,q2]:=(hq3.mono hkM).mono (aR.below hb7);dsimp only
 gi_wp2
 refine iJ (fun b=>M b∨b=n5) 130 [.bI (.int .u8 (kind:Int)::qC x)] (fun _=>V) 0 (by omega) (fun i hi=>by
  obtain rfl:i=0:=by omega
  exact hV) (o:=n5) (T:=3) (p:=34) (d:=13) (id:=0) (cs:=fun i=>if i=0 then [.int .i64 0] else [.int .i64 (-1)]) hM7 hvp rfl (.inr rfl) ho7 ?_ ?_ ?_ ?_
 ·exact ⟨⟨rfl,rfl⟩,trivial⟩
 ·intro l u0 u1 u2 u3 u4 u5 W K hone K'
  gi_wp2
  rw [gK (heap_alloc_new W _) (hone _ (by simp)) (hone _ (by simp)) (hone _ (by simp)) (hone _ (by simp)) (hone _ (by simp)) (hone _ (by simp))]
  gi_wp2
  exact K'
 ·intro i hi l W cur b x' Q hqq hMW hkp hcu hcr hp hQ;obtain rfl:i=0:=by omega
  have hkv:(aL.bI (qC q)).rep (fun b=>M b∨b=n5) W (.pointer (some ⟨n0+1,0,none⟩)):=⟨n0+1,0,#[q0,q1,q2],30,(0,0),rfl,fun h=>h.elim (fun h=>absurd (hlow _ h) (by omega)) (by omega),(hkp _ _ (fun h=>h.elim (fun h=>absurd (hlow _ h) (by omega)) (by omega)) hk7 rfl).2,by simpa using hq7.mono hkp⟩
  rw [if_pos rfl] at hcr
  refine fJ (N:=48) (t0:=12) (T:=3) (n:=1) (want:=1) (g:=n5) (cur:=cur) (ins:=[(5, .ref 3),(13, .ref 6)]) (xs:=[.ref (qC q), .ref (eB V.1 V.2)]) fo ⟨rfl,rfl,trivial⟩
   (ao6 q V [.int .i64 0] rfl hq h1 h2 hl hh) (by kernel_rfl) (by kernel_rfl) hqq hMW (.inr rfl) rfl rfl (by rfl) (by omega) ⟨hkv,hp,trivial⟩ rfl hcu hcr ?_
  intro a' W' us cur' hg _ _ _ hc' _ hr';rw [if_neg (by omega),if_neg (by omega)] at hQ;exact hQ a' W' cur' hg hc' hr'
 ·intro W cur hos htape hout hsz hblk hD hcu hcr;rw [if_neg (by omega)] at hcr
  obtain ⟨u,rfl⟩:∃ u,cur = #[u]:=by
   have hl:=hcr.length
   match h:cur.toList,hl with
   | [u],_=>exact ⟨u,by rw [←Array.toArray_toList (xs:=cur),h]⟩
  obtain ⟨rfl,_⟩:u = .int .i64 (-1)∧_:=hcr.1;have c0:W.cell? ⟨n5,0,none⟩=some (.int .i64 (-1)):=aB hcu rfl
  gi_wp2
  refine ⟨by simp, .inl ⟨_,_,rfl,run_takeDeferred hD,?_⟩⟩;have hot8:∀ j,j≠W7.heap.size→(W.putObj W7.heap.size (.deferred none)).heap[j]? = W.heap[j]?:=fun j hj=>World.putObj_heap_other hj;have hs8:(W.putObj W7.heap.size (.deferred none)).heap.size=W.heap.size:=World.putObj_size;have ho8:(W.putObj W7.heap.size (.deferred none)).os=W.os∧(W.putObj W7.heap.size (.deferred none)).tape=W.tape∧(W.putObj W7.heap.size (.deferred none)).output=W.output:=⟨rfl,rfl,rfl⟩
  generalize W.putObj W7.heap.size (.deferred none)=W8 at *;refine ⟨.tuple #[.int .i64 (-1), .int .i64 0],?_,⟨ho8.1.trans (hos.trans (hb7.os.trans hb6'.os)),ho8.2.1.trans (htape.trans (hb7.tape.trans hb6'.tape)),ho8.2.2.trans (hout.trans (hb7.output.trans hb6'.output)),by omega,fun j hj=>?_⟩,[.int .i64 (-1), .int .i64 0],rfl,⟨rfl,rfl⟩,⟨rfl,rfl⟩,trivial⟩
  ·simp [results,show f23.results = #[.tmp 6, .tmp 7] from rfl,go_sem]
  ·exact (hot8 j (by omega)).trans ((hblk j (by omega) (by omega)).trans ((hb7.block j (by omega)).trans (hb6'.block j (by omega))))
end Go.Sy
