/- Part. -/
import Derived.Test.YtpaidpkaechleaaGreatDoorEd
set_option linter.all false
namespace Go.Sy
open Go Go.Proofs Go.RowKit Tryz Ord
attribute [local go_sem] Oper.semAt_some
def cP (kind:Nat):Nat→Rat
 | 0=>((1:Int):Rat)
 | i+1=>if kind=6 then cP kind i*aZ ((1-2*(i:Int):Int):Rat) ((2*((i:Int)+1):Int):Rat) else aZ (cP kind i) (((i:Int)+1:Int):Rat)
def gZ (i:Nat):Int:=1-(i:Int)/2%2*2
def xP (kind i:Nat):Rat:=
 if kind=2 then (if 0<i then aZ (((i:Int)%2*2-1:Int):Rat) ((i:Int):Rat) else 0)
 else if kind=3 then (if i%2=1 then cP kind i*(gZ i:Rat) else 0)
 else if kind=4 then (if i%2=1 then 0 else cP kind i*(gZ i:Rat))
 else if kind=5 then (if i%2=1 then aZ (gZ i:Rat) ((i:Int):Rat) else 0)
 else cP kind i
theorem jZ:∀ k,k≤6→∀ i,i≤44→Fit 300 (cP k i):=by decide +kernel
theorem QI:∀ k,k≤6→∀ i,i≤44→Fit 300 (xP k i):=by decide +kernel
theorem LL:∀ k,k≤6→∀ i,i≤44→1≤k→xP k i=(QB k i).q:=by decide +kernel
def ES:Tr:=.retr [] 13
def Hm:Tr:=.need (.strow 7 3 (.k (.int .i64 (0))) 0 [(.u 12 0),(.u 12 1),(.u 12 2)]) (.store 30 (.tmp 7) (.tmp 30)) 0 false ES
def HO:Tr:=.need (.call 67 [(W 11 0),(W 3 0)] [(some 3)]) (.call ⟨.value (.func 67),#[(.tmp 28),(.tmp 29)],#[2,2]⟩) 30 true Hm
def Ie:Tr:=.need (.prim [(W 10 0),(WK (1))] none) (.binOp .sub 2 (.tmp 27) (.const (I3 (1))) 2) 2 false HO
def HD:Tr:=.need (.prim [(W 9 0),(WK (2))] none) (.binOp .mul 2 (.tmp 26) (.const (I3 (2))) 2) 2 false Ie
def HT:Tr:=.need (.prim [(W 3 0),(WK (2))] none) (.binOp .rem 2 (.tmp 25) (.const (I3 (2))) 2) 2 false HD
def Ea:Tr:=.retr [] 7
def ID:Tr:=.split (.u 8 0) HT Ea
def Hu:Tr:=.need (.prim [(W 2 0),(WK (0))] none) (.binOp .gtr 3 (.tmp 23) (.const (I3 (0))) 3) 4 false ID
def Iu:Tr:=.need (.strow 5 3 (.k (.int .i64 (0))) 0 [(.k (.slice none 0 0)),(.k (.bool false)),(.k (.slice none 0 0))]) (.store 30 (.tmp 7) (.tmp 22)) 0 false Hu
def FY:Tr:=.retr [] 14
def FP:Tr:=.need (.strow 9 3 (.k (.int .i64 (0))) 0 [(.k (.slice none 0 0)),(.k (.bool false)),(.k (.slice none 0 0))]) (.store 30 (.tmp 7) (.tmp 43)) 0 false FY
def Ef:Tr:=.retr [] 9
def FC:Tr:=.split (.u 13 0) FP Ef
def DX:Tr:=.need (.prim [(W 10 0),(W 12 0)] none) (.binOp .neq 4 (.tmp 38) (.tmp 41) 4) 4 false FC
def EG:Tr:=.need (.prim [(W 11 0),(WK (1))] none) (.binOp .eql 3 (.tmp 40) (.const (I3 (1))) 3) 4 false DX
def EF:Tr:=.need (.prim [(W 2 0),(WK (2))] none) (.binOp .rem 3 (.tmp 39) (.const (I3 (2))) 3) 3 false EG
def EW:Tr:=.need (.prim [(W 0 0),(.one (.c (.k (.int .u8 (3)))))] none) (.binOp .eql 5 (.tmp 37) (.const (.int .u8 (3))) 5) 4 false EF
def ER:Tr:=.need (.strow 5 3 (.k (.int .i64 (0))) 0 [(.u 8 0),(.u 8 1),(.u 8 2)]) (.store 30 (.tmp 7) (.tmp 36)) 0 false EW
def FQ:Tr:=.need (.call 32 [(.agg [(U 1 0),(U 1 1),(U 1 2)]),(.agg [(U 4 0),(U 4 1),(U 4 2)])] [(some 3)]) (.call ⟨.value (.func 32),#[(.tmp 34),(.tmp 35)],#[30,30]⟩) 30 true ER
def Ft:Tr:=.retr [] 15
def Fu:Tr:=.need (.strow 10 3 (.k (.int .i64 (0))) 0 [(.k (.slice none 0 0)),(.k (.bool false)),(.k (.slice none 0 0))]) (.store 30 (.tmp 7) (.tmp 43)) 0 false Ft
def Ep:Tr:=.retr [] 10
def En:Tr:=.split (.u 14 0) Fu Ep
def FU:Tr:=.need (.prim [(W 11 0),(W 13 0)] none) (.binOp .neq 4 (.tmp 38) (.tmp 41) 4) 4 false En
def FL:Tr:=.need (.prim [(W 12 0),(WK (1))] none) (.binOp .eql 3 (.tmp 40) (.const (I3 (1))) 3) 4 false FU
def EY:Tr:=.need (.prim [(W 2 0),(WK (2))] none) (.binOp .rem 3 (.tmp 39) (.const (I3 (2))) 3) 3 false FL
def Fj:Tr:=.need (.prim [(W 0 0),(.one (.c (.k (.int .u8 (3)))))] none) (.binOp .eql 5 (.tmp 37) (.const (.int .u8 (3))) 5) 4 false EY
def FE:Tr:=.need (.strow 5 3 (.k (.int .i64 (0))) 0 [(.u 9 0),(.u 9 1),(.u 9 2)]) (.store 30 (.tmp 7) (.tmp 36)) 0 false Fj
def Gg:Tr:=.need (.call 32 [(.agg [(U 1 0),(U 1 1),(U 1 2)]),(.agg [(U 4 0),(U 4 1),(U 4 2)])] [(some 3)]) (.call ⟨.value (.func 32),#[(.tmp 34),(.tmp 35)],#[30,30]⟩) 30 true FE
def Ec:Tr:=.retr [] 15
def FJ:Tr:=.need (.strow 10 3 (.k (.int .i64 (0))) 0 [(.u 14 0),(.u 14 1),(.u 14 2)]) (.store 30 (.tmp 7) (.tmp 53)) 0 false Ec
def EK:Tr:=.need (.call 66 [(.agg [(U 4 0),(U 4 1),(U 4 2)]),(.agg [(U 13 0),(U 13 1),(U 13 2)])] [(some 3)]) (.call ⟨.value (.func 66),#[(.tmp 50),(.tmp 52)],#[30,30]⟩) 30 true FJ
def Es:Tr:=.need (.call 22 [(W 3 0)] [(some 3)]) (.call ⟨.value (.func 22),#[(.tmp 51)],#[2]⟩) 30 true EK
def Gd:Tr:=.retr [] 10
def FX:Tr:=.split (.u 12 0) Es Gd
def Fl:Tr:=.need (.prim [(W 11 0),(WK (1))] none) (.binOp .eql 3 (.tmp 48) (.const (I3 (1))) 3) 4 false FX
def Er:Tr:=.need (.prim [(W 2 0),(WK (2))] none) (.binOp .rem 3 (.tmp 47) (.const (I3 (2))) 3) 3 false Fl
def EX:Tr:=.need (.strow 5 3 (.k (.int .i64 (0))) 0 [(.k (.slice none 0 0)),(.k (.bool false)),(.k (.slice none 0 0))]) (.store 30 (.tmp 7) (.tmp 46)) 0 false Er
def EM:Tr:=.retr [] 5
def EC:Tr:=.split (.u 9 0) EX EM
def DW:Tr:=.need (.prim [(W 0 0),(.one (.c (.k (.int .u8 (5)))))] none) (.binOp .eql 5 (.tmp 19) (.const (.int .u8 (5))) 5) 4 false EC
def FR:Tr:=.split (.u 8 0) Gg DW
def Ew:Tr:=.need (.prim [(W 0 0),(.one (.c (.k (.int .u8 (4)))))] none) (.binOp .eql 5 (.tmp 19) (.const (.int .u8 (4))) 5) 4 false FR
def Gq:Tr:=.split (.u 7 0) FQ Ew
def Ge:Tr:=.need (.prim [(W 0 0),(.one (.c (.k (.int .u8 (3)))))] none) (.binOp .eql 5 (.tmp 19) (.const (.int .u8 (3))) 5) 4 false Gq
def HH:Tr:=.split (.u 6 0) Iu Ge
def Ia:Tr:=.need (.prim [(W 0 0),(.one (.c (.k (.int .u8 (2)))))] none) (.binOp .eql 5 (.tmp 19) (.const (.int .u8 (2))) 5) 4 false HH
theorem dU:cC prog 75 (fun _=>none) (bC [1,1,0,0,0,0,1,1,1,0] (bH f117)) [(1, .ref 1),(3, .ref 3),(4, .v none),(5, .v none),(6, .ref 3)] 7 30 3 0 ([].map ResultVar.tmp)=Ia:=by kernel_rfl
def Gs:Tr:=.retr [] 11
def Ih:Tr:=.need (.strow 2 3 (.k (.int .i64 (0))) 0 [(.u 10 0),(.u 10 1),(.u 10 2)]) (.store 30 (.tmp 3) (.tmp 69)) 0 false Gs
def Hv:Tr:=.need (.call 32 [(.agg [(U 4 0),(U 4 1),(U 4 2)]),(.agg [(U 9 0),(U 9 1),(U 9 2)])] [(some 3)]) (.call ⟨.value (.func 32),#[(.tmp 61),(.tmp 68)],#[30,30]⟩) 30 true Ih
def Jk:Tr:=.need (.call 67 [(W 6 0),(W 8 0)] [(some 3)]) (.call ⟨.value (.func 67),#[(.tmp 64),(.tmp 67)],#[2,2]⟩) 30 true Hv
def Hp:Tr:=.need (.prim [(WK (2)),(W 7 0)] none) (.binOp .mul 2 (.const (I3 (2))) (.tmp 66) 2) 2 false Jk
def II:Tr:=.need (.prim [(W 1 0),(WK (1))] none) (.binOp .add 2 (.tmp 65) (.const (I3 (1))) 2) 2 false Hp
def HV:Tr:=.need (.prim [(WK (1)),(W 5 0)] none) (.binOp .sub 2 (.const (I3 (1))) (.tmp 63) 2) 2 false II
def HM:Tr:=.need (.prim [(WK (2)),(W 1 0)] none) (.binOp .mul 2 (.const (I3 (2))) (.tmp 62) 2) 2 false HV
def Jj:Tr:=.need (.ldrow 2 (.k (.int .i64 (0))) 0 3 true) (.load 30 (.tmp 3)) 30 false HM
def FN:Tr:=.retr [] 8
def Gp:Tr:=.need (.strow 2 3 (.k (.int .i64 (0))) 0 [(.u 7 0),(.u 7 1),(.u 7 2)]) (.store 30 (.tmp 3) (.tmp 74)) 0 false FN
def Fe:Tr:=.need (.call 66 [(.agg [(U 4 0),(U 4 1),(U 4 2)]),(.agg [(U 6 0),(U 6 1),(U 6 2)])] [(some 3)]) (.call ⟨.value (.func 66),#[(.tmp 70),(.tmp 73)],#[30,30]⟩) 30 true Gp
def FA:Tr:=.need (.call 22 [(W 5 0)] [(some 3)]) (.call ⟨.value (.func 22),#[(.tmp 72)],#[2]⟩) 30 true Fe
def Ek:Tr:=.need (.prim [(W 1 0),(WK (1))] none) (.binOp .add 2 (.tmp 71) (.const (I3 (1))) 2) 2 false FA
def FV:Tr:=.need (.ldrow 2 (.k (.int .i64 (0))) 0 3 true) (.load 30 (.tmp 3)) 30 false Ek
def IU:Tr:=.split (.u 3 0) Jj FV
def HY:Tr:=.need (.prim [(W 0 0),(.one (.c (.k (.int .u8 (6)))))] none) (.binOp .eql 5 (.tmp 59) (.const (.int .u8 (6))) 5) 4 false IU
theorem yV:cC prog 75 (fun _=>none) (bC [1,1,0,0,0,0,1,1,1,1,1] (bH f117)) [(1, .ref 1),(5, .v none)] 3 30 3 0 ([].map ResultVar.tmp)=HY:=by kernel_rfl
theorem lO {α:Type} {c:List α} (h:c.length=3):∃ a0 a1 a2,c = [a0,a1,a2]:=by
 match c,h with
 | [a0,a1,a2],_=>exact ⟨a0,a1,a2,rfl⟩
abbrev lY:List aL:=[.exact (.slice none 0 0), .exact (.bool false), .exact (.slice none 0 0)]
theorem ad2 (i:Nat) (c:List aL) (hc:c.length=3) (hi:i≤44) (h0:0<i):vc prog (fun o=>o = .retr [] ([qC (xP 2 i)])) (cC prog 75 (fun _=>none) (bC [1,1,0,0,0,0,1,1,1,0] (bH f117)) [(1, .ref 1),(3, .ref 3),(4, .v none),(5, .v none),(6, .ref 3)] 7 30 3 0 ([].map ResultVar.tmp)) ([.ref ([.int .u8 2]), .ref (qC (cP 2 i)), .v (.one (.int .i64 (i:Int))), .v (.one (.int .i64 (i:Int))), .ref (qC (gZ i:Rat))].map In.env ++ [.rows ([c])]) []:=by
 rw [dU];dsimp only [List.map,In.env,aF,aG];obtain ⟨a0,a1,a2,rfl⟩:=lO hc;have hcf:=jZ 2 (by omega) i hi;have hsf:Fit 8 (gZ i:Rat):=Fit.int (by omega) (by unfold gZ;omega);apply vn aC rfl;refine aQ true rfl (fun _=>?_) (fun h=>by cases h);refine kD (ts:=[[a0,a1,a2]]) (us:=[lY]) rfl rfl (by omega) (cells:=[a0,a1,a2]) rfl rfl ?_;apply vn bJ rfl;refine vs _ rfl ?_ ?_<;>intro h4
 ·apply vn (eU) rfl;dsimp only [aF,aG];apply vn (cU) rfl;apply vn (aW) rfl;apply aA (lQ _ _) rfl;dsimp only [aF,aG];have hx:aZ (((i:Int)%2*2-1:Int):Rat) ((i:Int):Rat)=xP 2 i:=by unfold xP;rw [if_pos rfl,if_pos (by omega)]
  rw [hx];refine kD (ts:=[lY]) (us:=[qC (xP 2 i)]) rfl rfl (by omega) (cells:=lY) rfl rfl ?_;dsimp only [aF,aG];exact dB rfl rfl
 exfalso;omega
theorem Yv (i:Nat) (c:List aL) (hc:c.length=3) (hi:i≤44) (h0:i=0):vc prog (fun o=>o = .retr [] ([lY])) (cC prog 75 (fun _=>none) (bC [1,1,0,0,0,0,1,1,1,0] (bH f117)) [(1, .ref 1),(3, .ref 3),(4, .v none),(5, .v none),(6, .ref 3)] 7 30 3 0 ([].map ResultVar.tmp)) ([.ref ([.int .u8 2]), .ref (qC (cP 2 i)), .v (.one (.int .i64 (i:Int))), .v (.one (.int .i64 (i:Int))), .ref (qC (gZ i:Rat))].map In.env ++ [.rows ([c])]) []:=by
 rw [dU];dsimp only [List.map,In.env,aF,aG];obtain ⟨a0,a1,a2,rfl⟩:=lO hc;have hcf:=jZ 2 (by omega) i hi;have hsf:Fit 8 (gZ i:Rat):=Fit.int (by omega) (by unfold gZ;omega);apply vn aC rfl;refine aQ true rfl (fun _=>?_) (fun h=>by cases h);refine kD (ts:=[[a0,a1,a2]]) (us:=[lY]) rfl rfl (by omega) (cells:=[a0,a1,a2]) rfl rfl ?_;apply vn bJ rfl;refine vs _ rfl ?_ ?_<;>intro h4
 ·exfalso;omega
 exact dB rfl rfl
theorem WX (i:Nat) (c:List aL) (hc:c.length=3) (hi:i≤44) (h0:i%2=0):vc prog (fun o=>o = .retr [] ([lY])) (cC prog 75 (fun _=>none) (bC [1,1,0,0,0,0,1,1,1,0] (bH f117)) [(1, .ref 1),(3, .ref 3),(4, .v none),(5, .v none),(6, .ref 3)] 7 30 3 0 ([].map ResultVar.tmp)) ([.ref ([.int .u8 3]), .ref (qC (cP 3 i)), .v (.one (.int .i64 (i:Int))), .v (.one (.int .i64 (i:Int))), .ref (qC (gZ i:Rat))].map In.env ++ [.rows ([c])]) []:=by
 rw [dU];dsimp only [List.map,In.env,aF,aG];obtain ⟨a0,a1,a2,rfl⟩:=lO hc;have hcf:=jZ 3 (by omega) i hi;have hsf:Fit 8 (gZ i:Rat):=Fit.int (by omega) (by unfold gZ;omega);apply vn aC rfl;refine aQ false rfl (fun h=>by cases h) (fun _=>?_);apply vn aC rfl;refine aQ true rfl (fun _=>?_) (fun h=>by cases h);apply aA (bG (cP 3 i) (gZ i:Rat) 300 8 hcf hsf) rfl;refine kD (ts:=[[a0,a1,a2]]) (us:=[qC (cP 3 i*(gZ i:Rat))]) rfl rfl (by omega) (cells:=[a0,a1,a2]) rfl rfl ?_;dsimp only [aF,aG];apply vn aC rfl;apply vn (eU) rfl;apply vn aC rfl;apply vn (xV un4) rfl;dsimp only [aF,aG];refine aQ true (congrArg aL.bool (by rw [show decide ((i:Int)%2=1)=false from decide_eq_false (by omega)];rfl)) (fun _=>?_) (fun h=>by cases h);refine kD (ts:=[qC (cP 3 i*(gZ i:Rat))]) (us:=[lY]) rfl rfl (by omega) (cells:=qC (cP 3 i*(gZ i:Rat))) rfl rfl ?_;dsimp only [aF,aG];exact dB rfl rfl
theorem Ye (i:Nat) (c:List aL) (hc:c.length=3) (hi:i≤44) (h0:i%2=1):vc prog (fun o=>o = .retr [] ([qC (xP 3 i)])) (cC prog 75 (fun _=>none) (bC [1,1,0,0,0,0,1,1,1,0] (bH f117)) [(1, .ref 1),(3, .ref 3),(4, .v none),(5, .v none),(6, .ref 3)] 7 30 3 0 ([].map ResultVar.tmp)) ([.ref ([.int .u8 3]), .ref (qC (cP 3 i)), .v (.one (.int .i64 (i:Int))), .v (.one (.int .i64 (i:Int))), .ref (qC (gZ i:Rat))].map In.env ++ [.rows ([c])]) []:=by
 rw [dU];dsimp only [List.map,In.env,aF,aG];obtain ⟨a0,a1,a2,rfl⟩:=lO hc;have hcf:=jZ 3 (by omega) i hi;have hsf:Fit 8 (gZ i:Rat):=Fit.int (by omega) (by unfold gZ;omega);apply vn aC rfl;refine aQ false rfl (fun h=>by cases h) (fun _=>?_);apply vn aC rfl;refine aQ true rfl (fun _=>?_) (fun h=>by cases h);apply aA (bG (cP 3 i) (gZ i:Rat) 300 8 hcf hsf) rfl;refine kD (ts:=[[a0,a1,a2]]) (us:=[qC (cP 3 i*(gZ i:Rat))]) rfl rfl (by omega) (cells:=[a0,a1,a2]) rfl rfl ?_;dsimp only [aF,aG];apply vn aC rfl;apply vn (eU) rfl;apply vn aC rfl;apply vn (xV un4) rfl;dsimp only [aF,aG];refine aQ false (congrArg aL.bool (by rw [show decide ((i:Int)%2=1)=true from decide_eq_true (by omega)];rfl)) (fun h=>by cases h) (fun _=>?_);have hx:cP 3 i*(gZ i:Rat)=xP 3 i:=by unfold xP;simp;omega
 rw [hx];exact dB rfl rfl
theorem YZ (i:Nat) (c:List aL) (hc:c.length=3) (hi:i≤44) (h0:i%2=0):vc prog (fun o=>o = .retr [] ([qC (xP 4 i)])) (cC prog 75 (fun _=>none) (bC [1,1,0,0,0,0,1,1,1,0] (bH f117)) [(1, .ref 1),(3, .ref 3),(4, .v none),(5, .v none),(6, .ref 3)] 7 30 3 0 ([].map ResultVar.tmp)) ([.ref ([.int .u8 4]), .ref (qC (cP 4 i)), .v (.one (.int .i64 (i:Int))), .v (.one (.int .i64 (i:Int))), .ref (qC (gZ i:Rat))].map In.env ++ [.rows ([c])]) []:=by
 rw [dU];dsimp only [List.map,In.env,aF,aG];obtain ⟨a0,a1,a2,rfl⟩:=lO hc;have hcf:=jZ 4 (by omega) i hi;have hsf:Fit 8 (gZ i:Rat):=Fit.int (by omega) (by unfold gZ;omega);apply vn aC rfl;refine aQ false rfl (fun h=>by cases h) (fun _=>?_);apply vn aC rfl;refine aQ false rfl (fun h=>by cases h) (fun _=>?_);apply vn aC rfl;refine aQ true rfl (fun _=>?_) (fun h=>by cases h);apply aA (bG (cP 4 i) (gZ i:Rat) 300 8 hcf hsf) rfl;dsimp only [aF,aG];refine kD (ts:=[[a0,a1,a2]]) (us:=[qC (cP 4 i*(gZ i:Rat))]) rfl rfl (by omega) (cells:=[a0,a1,a2]) rfl rfl ?_;apply vn aC rfl;apply vn (eU) rfl;apply vn aC rfl;dsimp only [aF,aG];apply vn (xV un4) rfl;dsimp only [aF,aG];refine aQ false (congrArg aL.bool (by rw [show decide ((i:Int)%2=1)=false from decide_eq_false (by omega)];rfl)) (fun h=>by cases h) (fun _=>?_);have hx:cP 4 i*(gZ i:Rat)=xP 4 i:=by unfold xP;simp;omega
 rw [hx];exact dB rfl rfl
theorem YB (i:Nat) (c:List aL) (hc:c.length=3) (hi:i≤44) (h0:i%2=1):vc prog (fun o=>o = .retr [] ([lY])) (cC prog 75 (fun _=>none) (bC [1,1,0,0,0,0,1,1,1,0] (bH f117)) [(1, .ref 1),(3, .ref 3),(4, .v none),(5, .v none),(6, .ref 3)] 7 30 3 0 ([].map ResultVar.tmp)) ([.ref ([.int .u8 4]), .ref (qC (cP 4 i)), .v (.one (.int .i64 (i:Int))), .v (.one (.int .i64 (i:Int))), .ref (qC (gZ i:Rat))].map In.env ++ [.rows ([c])]) []:=by
 rw [dU];dsimp only [List.map,In.env,aF,aG];obtain ⟨a0,a1,a2,rfl⟩:=lO hc;have hcf:=jZ 4 (by omega) i hi;have hsf:Fit 8 (gZ i:Rat):=Fit.int (by omega) (by unfold gZ;omega);apply vn aC rfl;refine aQ false rfl (fun h=>by cases h) (fun _=>?_);apply vn aC rfl;refine aQ false rfl (fun h=>by cases h) (fun _=>?_);apply vn aC rfl;refine aQ true rfl (fun _=>?_) (fun h=>by cases h);apply aA (bG (cP 4 i) (gZ i:Rat) 300 8 hcf hsf) rfl;dsimp only [aF,aG];refine kD (ts:=[[a0,a1,a2]]) (us:=[qC (cP 4 i*(gZ i:Rat))]) rfl rfl (by omega) (cells:=[a0,a1,a2]) rfl rfl ?_;apply vn aC rfl;apply vn (eU) rfl;apply vn aC rfl;dsimp only [aF,aG];apply vn (xV un4) rfl;dsimp only [aF,aG];refine aQ true (congrArg aL.bool (by rw [show decide ((i:Int)%2=1)=true from decide_eq_true (by omega)];rfl)) (fun _=>?_) (fun h=>by cases h);refine kD (ts:=[qC (cP 4 i*(gZ i:Rat))]) (us:=[lY]) rfl rfl (by omega) (cells:=qC (cP 4 i*(gZ i:Rat))) rfl rfl ?_;dsimp only [aF,aG];exact dB rfl rfl
theorem Ya (i:Nat) (c:List aL) (hc:c.length=3) (hi:i≤44) (h0:i%2=0):vc prog (fun o=>o = .retr [] ([lY])) (cC prog 75 (fun _=>none) (bC [1,1,0,0,0,0,1,1,1,0] (bH f117)) [(1, .ref 1),(3, .ref 3),(4, .v none),(5, .v none),(6, .ref 3)] 7 30 3 0 ([].map ResultVar.tmp)) ([.ref ([.int .u8 5]), .ref (qC (cP 5 i)), .v (.one (.int .i64 (i:Int))), .v (.one (.int .i64 (i:Int))), .ref (qC (gZ i:Rat))].map In.env ++ [.rows ([c])]) []:=by
 rw [dU];dsimp only [List.map,In.env,aF,aG];obtain ⟨a0,a1,a2,rfl⟩:=lO hc;have hcf:=jZ 5 (by omega) i hi;have hsf:Fit 8 (gZ i:Rat):=Fit.int (by omega) (by unfold gZ;omega);apply vn aC rfl;refine aQ false rfl (fun h=>by cases h) (fun _=>?_);apply vn aC rfl;refine aQ false rfl (fun h=>by cases h) (fun _=>?_);apply vn aC rfl;refine aQ false rfl (fun h=>by cases h) (fun _=>?_);apply vn aC rfl;dsimp only [aF,aG];refine aQ true rfl (fun _=>?_) (fun h=>by cases h);refine kD (ts:=[[a0,a1,a2]]) (us:=[lY]) rfl rfl (by omega) (cells:=[a0,a1,a2]) rfl rfl ?_;apply vn (eU) rfl;apply vn aC rfl;refine vs _ rfl ?_ ?_<;>intro h41
 ·exfalso;omega
 exact dB rfl rfl
theorem Xy (i:Nat) (c:List aL) (hc:c.length=3) (hi:i≤44) (h0:i%2=1):vc prog (fun o=>o = .retr [] ([qC (xP 5 i)])) (cC prog 75 (fun _=>none) (bC [1,1,0,0,0,0,1,1,1,0] (bH f117)) [(1, .ref 1),(3, .ref 3),(4, .v none),(5, .v none),(6, .ref 3)] 7 30 3 0 ([].map ResultVar.tmp)) ([.ref ([.int .u8 5]), .ref (qC (cP 5 i)), .v (.one (.int .i64 (i:Int))), .v (.one (.int .i64 (i:Int))), .ref (qC (gZ i:Rat))].map In.env ++ [.rows ([c])]) []:=by
 rw [dU];dsimp only [List.map,In.env,aF,aG];obtain ⟨a0,a1,a2,rfl⟩:=lO hc;have hcf:=jZ 5 (by omega) i hi;have hsf:Fit 8 (gZ i:Rat):=Fit.int (by omega) (by unfold gZ;omega);apply vn aC rfl;refine aQ false rfl (fun h=>by cases h) (fun _=>?_);apply vn aC rfl;refine aQ false rfl (fun h=>by cases h) (fun _=>?_);apply vn aC rfl;refine aQ false rfl (fun h=>by cases h) (fun _=>?_);apply vn aC rfl;dsimp only [aF,aG];refine aQ true rfl (fun _=>?_) (fun h=>by cases h);refine kD (ts:=[[a0,a1,a2]]) (us:=[lY]) rfl rfl (by omega) (cells:=[a0,a1,a2]) rfl rfl ?_;apply vn (eU) rfl;apply vn aC rfl;refine vs _ rfl ?_ ?_<;>intro h41
 ·apply aA (aY (i:Int)) rfl;dsimp only [aF,aG];apply aA (bD (gZ i:Rat) ((i:Int):Rat) 8 64 hsf (Fit.int (by omega) (by omega))) rfl;dsimp only [aF,aG];have hx:aZ (gZ i:Rat) ((i:Int):Rat)=xP 5 i:=by unfold xP;rw [if_neg (by omega),if_neg (by omega),if_neg (by omega),if_pos rfl,if_pos h0]
  rw [hx];refine kD (ts:=[lY]) (us:=[qC (xP 5 i)]) rfl rfl (by omega) (cells:=lY) rfl rfl ?_;dsimp only [aF,aG];exact dB rfl rfl
 exfalso;omega
theorem ae4 (i:Nat) (hi:i≤44):vc prog (fun o=>o = .retr [] ([qC (xP 1 i)])) (cC prog 75 (fun _=>none) (bC [1,1,0,0,0,0,1,1,1,0] (bH f117)) [(1, .ref 1),(3, .ref 3),(4, .v none),(5, .v none),(6, .ref 3)] 7 30 3 0 ([].map ResultVar.tmp)) ([.ref ([.int .u8 1]), .ref (qC (cP 1 i)), .v (.one (.int .i64 (i:Int))), .v (.one (.int .i64 (i:Int))), .ref (qC (gZ i:Rat))].map In.env ++ [.rows ([qC (cP 1 i)])]) []:=by
 rw [dU];dsimp only [List.map,In.env,aF,aG];apply vn aC rfl;refine aQ false rfl (fun h=>by cases h) (fun _=>?_);apply vn aC rfl;refine aQ false rfl (fun h=>by cases h) (fun _=>?_);apply vn aC rfl;refine aQ false rfl (fun h=>by cases h) (fun _=>?_);apply vn aC rfl;dsimp only [aF,aG];refine aQ false rfl (fun h=>by cases h) (fun _=>?_);exact dB rfl rfl
theorem ap1 (i:Nat) (hi:i≤44):vc prog (fun o=>o = .retr [] ([qC (xP 6 i)])) (cC prog 75 (fun _=>none) (bC [1,1,0,0,0,0,1,1,1,0] (bH f117)) [(1, .ref 1),(3, .ref 3),(4, .v none),(5, .v none),(6, .ref 3)] 7 30 3 0 ([].map ResultVar.tmp)) ([.ref ([.int .u8 6]), .ref (qC (cP 6 i)), .v (.one (.int .i64 (i:Int))), .v (.one (.int .i64 (i:Int))), .ref (qC (gZ i:Rat))].map In.env ++ [.rows ([qC (cP 6 i)])]) []:=by
 rw [dU];dsimp only [List.map,In.env,aF,aG];apply vn aC rfl;refine aQ false rfl (fun h=>by cases h) (fun _=>?_);apply vn aC rfl;refine aQ false rfl (fun h=>by cases h) (fun _=>?_);apply vn aC rfl;refine aQ false rfl (fun h=>by cases h) (fun _=>?_);apply vn aC rfl;dsimp only [aF,aG];refine aQ false rfl (fun h=>by cases h) (fun _=>?_);exact dB rfl rfl
theorem Lu {M:Nat→Prop} {W:World} {vs:List Value} (h:aM M W lY vs):aM M W (qC 0) vs:=by
 match vs,h with
 | [a,b,c],h=>exact ⟨dJ.1.rep h.1,dJ.2.1.rep h.2.1,dJ.2.2.1.rep h.2.2.1,trivial⟩
 | [],h=>exact h.elim
 | [_],h=>exact h.2.elim
 | [_,_],h=>exact h.2.2.elim
 | _::_::_::_::_,h=>exact h.2.2.2.elim
abbrev ah2 (z:Int) (kind i:Nat):List In:=[.ref ([.int .u8 z]), .ref (qC (cP kind i)), .v (.one (.int .i64 (i:Int))), .v (.one (.int .i64 (i:Int))), .ref (qC (gZ i:Rat))]
noncomputable def cfX:Tr:=cC prog 75 (fun _=>none) (bC [1,1,0,0,0,0,1,1,1,0] (bH f117)) [(1, .ref 1),(3, .ref 3),(4, .v none),(5, .v none),(6, .ref 3)] 7 30 3 0 ([].map ResultVar.tmp)
abbrev yA (kind i:Nat):Prop:=∃ xs,(xs=qC (xP kind i)∨(xs=lY∧xP kind i=0))∧∃ z,z=(kind:Int)∧vc prog (fun o=>o = .retr [] [xs]) cfX ((ah2 z kind i).map In.env ++ [.rows [qC (cP kind i)]]) []
set_option maxRecDepth 100000 in
theorem ck1 (i:Nat) (hi:i≤44):yA 1 i:=⟨_, .inl rfl,1,rfl,ae4 i hi⟩
set_option maxRecDepth 100000 in
theorem ck2 (i:Nat) (hi:i≤44) (h0:0<i):yA 2 i:=⟨_, .inl rfl,2,rfl,ad2 i _ rfl hi h0⟩
set_option maxRecDepth 100000 in
theorem aq2 (i:Nat) (hi:i≤44) (h0:i=0:=by omega):yA 2 i:=⟨_, .inr ⟨rfl,by unfold xP;rw [if_pos rfl,if_neg (by omega)]⟩,2,rfl,Yv i _ rfl hi h0⟩
set_option maxRecDepth 100000 in
theorem au4 (i:Nat) (hi:i≤44) (h0:i%2=0):yA 3 i:=⟨_, .inr ⟨rfl,by unfold xP;simp;omega⟩,3,rfl,WX i _ rfl hi h0⟩
set_option maxRecDepth 100000 in
theorem at7 (i:Nat) (hi:i≤44) (h0:i%2=1):yA 3 i:=⟨_, .inl rfl,3,rfl,Ye i _ rfl hi h0⟩
set_option maxRecDepth 100000 in
theorem ay6 (i:Nat) (hi:i≤44) (h0:i%2=0):yA 4 i:=⟨_, .inl rfl,4,rfl,YZ i _ rfl hi h0⟩
set_option maxRecDepth 100000 in
theorem ay8 (i:Nat) (hi:i≤44) (h0:i%2=1):yA 4 i:=⟨_, .inr ⟨rfl,by unfold xP;simp;omega⟩,4,rfl,YB i _ rfl hi h0⟩
set_option maxRecDepth 100000 in
theorem ay3 (i:Nat) (hi:i≤44) (h0:i%2=0):yA 5 i:=⟨_, .inr ⟨rfl,by unfold xP;simp;omega⟩,5,rfl,Ya i _ rfl hi h0⟩
set_option maxRecDepth 100000 in
theorem as0 (i:Nat) (hi:i≤44) (h0:i%2=1):yA 5 i:=⟨_, .inl rfl,5,rfl,Xy i _ rfl hi h0⟩
set_option maxRecDepth 100000 in
theorem ck6 (i:Nat) (hi:i≤44):yA 6 i:=⟨_, .inl rfl,6,rfl,ap1 i hi⟩
theorem XU (kind i:Nat) (h1:1≤kind) (h6:kind≤6) (hi:i≤44:=by omega):yA kind i:=by
 have:kind=1∨kind=2∨kind=3∨kind=4∨kind=5∨kind=6:=by omega
 have h01:i%2=0∨i%2=1:=by omega
 rcases this with rfl | rfl | rfl | rfl | rfl | rfl
 ·exact ck1 i hi
 ·by_cases h0:0<i
  ·exact ck2 i hi h0
  ·exact aq2 i hi
 ·exact h01.elim (au4 i hi) (at7 i hi)
 ·exact h01.elim (ay6 i hi) (ay8 i hi)
 ·exact h01.elim (ay3 i hi) (as0 i hi)
 ·exact ck6 i hi
theorem ad8 (i:Nat) (hi:i≤43):vc prog (fun o=>o = .retr [] ([qC (cP 6 (i+1))])) (cC prog 75 (fun _=>none) (bC [1,1,0,0,0,0,1,1,1,1,1] (bH f117)) [(1, .ref 1),(5, .v none)] 3 30 3 0 ([].map ResultVar.tmp)) ([.ref ([.int .u8 6]), .v (.one (.int .i64 (i:Int)))].map In.env ++ [.rows ([qC (cP 6 i)])]) []:=by
 rw [yV];dsimp only [List.map,In.env,aF,aG];have hcf:=jZ 6 (by omega) i (by omega);apply vn aC rfl;refine aQ true rfl (fun _=>?_) (fun h=>by cases h);refine Wg (ts:=[qC (cP 6 i)]) (ik:=.i64) (n:=0) (t:=qT (cP 6 i)) rfl rfl (by omega) rfl (.inl rfl) rfl ?_;dsimp only [aF,aG,Lp,List.drop,List.take];apply vn (cU) rfl;apply vn (aW) rfl;apply vn (aH) rfl;apply vn (cU) rfl;dsimp only [aF,aG];apply aA (lQ _ _) rfl;apply aA (bG (cP 6 i) _ 300 200 hcf (eA (A:=64) (B:=64) (Fit.int (by omega) (by omega)) (Fit.int (by omega) (by omega)) |>.mono (by omega))) rfl;refine kD (ts:=[qC (cP 6 i)]) (us:=[qC (cP 6 (i+1))]) rfl rfl (by omega) (cells:=qC (cP 6 i)) rfl rfl ?_;dsimp only [aF,aG];exact dB rfl rfl
theorem ag3 (k i:Nat) (hi:i≤43) (hk:k<6:=by omega):vc prog (fun o=>o = .retr [] ([qC (cP k (i+1))])) (cC prog 75 (fun _=>none) (bC [1,1,0,0,0,0,1,1,1,1,1] (bH f117)) [(1, .ref 1),(5, .v none)] 3 30 3 0 ([].map ResultVar.tmp)) ([.ref ([.int .u8 (k:Int)]), .v (.one (.int .i64 (i:Int)))].map In.env ++ [.rows ([qC (cP k i)])]) []:=by
 rw [yV];dsimp only [List.map,In.env,aF,aG];have hcf:=jZ k (by omega) i (by omega);have hq:aZ (cP k i) (((i:Int)+1:Int):Rat)=cP k (i+1):=by rw [cP,if_neg (by omega)]
 apply vn aC rfl;refine vs _ rfl ?_ ?_<;>intro h1
 ·exfalso;omega
 refine Wg (ts:=[qC (cP k i)]) (ik:=.i64) (n:=0) (t:=qT (cP k i)) rfl rfl (by omega) rfl (.inl rfl) rfl ?_;dsimp only [aF,aG,Lp,List.drop,List.take];apply vn (aH) rfl;apply aA (aY _) rfl;apply aA (bD (cP k i) _ 300 64 hcf (Fit.int (by omega) (by omega))) rfl;rw [hq];refine kD (ts:=[qC (cP k i)]) (us:=[qC (cP k (i+1))]) rfl rfl (by omega) (cells:=qC (cP k i)) rfl rfl ?_;dsimp only [aF,aG];exact dB rfl rfl
set_option maxRecDepth 100000 in
theorem Xz (kind i:Nat) (z:Int) (hz:z=(kind:Int)) (h6:kind≤6) (hi:i≤43:=by omega):vc prog (fun o=>o = .retr [] [qC (cP kind (i+1))]) (cC prog 75 (fun _=>none) (bC [1,1,0,0,0,0,1,1,1,1,1] (bH f117)) [(1, .ref 1),(5, .v none)] 3 30 3 0 ([].map ResultVar.tmp)) ([.ref ([.int .u8 z]), .v (.one (.int .i64 (i:Int)))].map In.env ++ [.rows [qC (cP kind i)]]) []:=by
 by_cases h:kind=6
 ·rw [hz,h];exact ad8 i hi
 ·rw [hz];exact ag3 kind i hi
end Go.Sy
namespace Go.Sy
open Go Go.Proofs Go.RowKit Tryz Ord
attribute [local go_sem] Oper.semAt_some
def LM (W:World) (u0 u1 u2:Value):World:=(W.alloc (.cells #[.slice none 0 0, .bool false, .slice none 0 0] 30)).setRow W.heap.size #[u0,u1,u2]
theorem pQ (W:World) (u0 u1 u2:Value):(LM W u0 u1 u2).heap[W.heap.size]? = some (.cells #[u0,u1,u2] 30 (0,0)):=setRow_heap _ _ _ _ _ _ (heap_alloc_new W _)
theorem jG (W:World) (u0 u1 u2:Value):Below W.heap.size W (LM W u0 u1 u2):=below_setRow ((Below.refl _ W).alloc (cD _) _) _ (cD _)
theorem kH (W:World) (u0 u1 u2:Value):(LM W u0 u1 u2).heap.size=W.heap.size+1:=by simp [LM,World.setRow]
theorem gQ {W:World} {u0 u1 u2:Value} (o0:u0.oneCell'=true) (o1:u1.oneCell'=true) (o2:u2.oneCell'=true):∃ W',LM W u0 u1 u2=W'∧(((store ⟨W.heap.size,0,none⟩ u0).run prog (W.alloc (.cells #[.slice none 0 0, .bool false, .slice none 0 0] 30))).andThen fun _ w'=>((store ⟨W.heap.size,1,none⟩ u1).run prog w').andThen fun _ w'=>(store ⟨W.heap.size,2,none⟩ u2).run prog w') = .ok () W':=
 ⟨_,rfl,wY (heap_alloc_new W _) o0 o1 o2⟩
structure CfS (l g i:Nat) (vp:Value) (t:Array Value):Prop where
 sz:t.size=75
 t0:t.getD 0 Go.undef = .func (.yield l) #[] #[]
 t1:t.getD 1 Go.undef=vp
 t3:t.getD 3 Go.undef = .pointer (some ⟨g,0,none⟩)
 t4:t.getD 4 Go.undef = .int .i64 (i:Int)
abbrev Mg (M:Nat→Prop) (g:Nat) (b:Nat):Prop:=M b∨b=g
theorem JV {W W':World} (hb:Below W.heap.size W W') (g:Nat):W.grownBy W' (some g):=⟨hb.os,hb.tape,hb.output,hb.size,fun j hj _=>hb.block j hj⟩
theorem MV {M M':Nat→Prop} {W W':World} {k:IntKind} {z:Int} {vs:List Value} (h:aM M W [aL.int k z] vs):aM M' W' [aL.int k z] vs:=by
 match vs,h with
 | [v],h=>exact ⟨h.1,trivial⟩
 | [],h=>exact h.elim
 | _::_::_,h=>exact h.2.elim
theorem SR {M:Nat→Prop} {W:World} {n g:Nat} {v c0 c1 c2:Value} {T:TypeId} {fz:Nat×Nat} (h:(dT n).rep M W v) (hg:W.heap[g]? = some (.cells #[c0,c1,c2] T fz)) (h0:∀ k z,c0 ≠ .int k z) (h1:∀ k z,c1 ≠ .int k z) (h2:∀ k z,c2 ≠ .int k z):(dT n).rep (Mg M g) W v:=by
 obtain ⟨a,cap,e,hl,hc,hel⟩:=h;refine ⟨a,cap,e,hl,hc,?_⟩;rcases hel with h | ⟨b,off,all,T',fz',rfl,hb,hh,hr⟩
 ·exact .inl h
 ·by_cases hbg:b=g
  ·left
   subst hbg;cases hd:rT (dg n) with
   | nil=>rfl
   | cons x xs=>
     exfalso
     rw [hh] at hg;simp only [aJ,Obj.cells.injEq] at hg;obtain ⟨rfl,_⟩:=hg
     obtain ⟨d,ds,hdg,rfl⟩:∃ d ds,dg n=d::ds∧x = [aL.int .u32 (d:Int)]:=by
      cases hq:dg n with
      | nil=>rw [hq] at hd;cases hd
      | cons d ds=>rw [hq] at hd;simp only [rT,List.map_cons,List.cons.injEq] at hd;exact ⟨d,ds,rfl,hd.1.symm⟩
     have hx:=hr 0 _ (by rw [hd];rfl);rw [Nat.zero_mul,Nat.add_zero] at hx
     match off,hx with
     | 0,hx=>exact h0 _ _ hx.2.1.1
     | 1,hx=>exact h1 _ _ hx.2.1.1
     | 2,hx=>exact h2 _ _ hx.2.1.1
     | k+3,hx=>simp at hx;exact hx.elim
  ·exact .inr ⟨b,off,all,T',fz',rfl,fun h=>h.elim hb hbg,hh,fun i t ht=>⟨(hr i t ht).1,by
    have hx:=(hr i t ht).2;rw [eX,Option.map_eq_some_iff] at ht;obtain ⟨d,_,rfl⟩:=ht;exact MV hx⟩⟩
theorem ZJ {M:Nat→Prop} {W:World} {q q':Rat} {g:Nat} {u0 u1 u2 c0 c1 c2:Value} {T:TypeId} {fz:Nat×Nat} {M':Nat→Prop} {W':World} (h:aM M W (qC q) [u0,u1,u2]) (hg:W.heap[g]? = some (.cells #[c0,c1,c2] T fz)) (hc:aM M' W' (qC q') [c0,c1,c2]):aM (Mg M g) W (qC q) [u0,u1,u2]:=by
 obtain ⟨⟨_,_,rfl,_⟩,⟨rfl,_⟩,⟨_,_,rfl,_⟩,_⟩:=hc;exact ⟨SR h.1 hg (by simp) (by simp) (by simp),h.2.1,SR h.2.2.1 hg (by simp) (by simp) (by simp),trivial⟩
set_option maxRecDepth 100000 in
set_option maxHeartbeats 1000000 in
theorem Kn {σ:Type} (Ms:σ→Nat→Prop) (s0:σ) (kind R:Nat) (hk1:1≤kind) (hk6:kind≤6) (hR:R≤43) (l:Nat) (vp:Value) (n1:Nat) (J:Nat→Nat→σ→World→Prop) (Jx:World→Prop)
  (hJb:∀ g i s W W',n1≤g→J g i s W→W.grownBy W' (some g)→J g i s W')
  (hJf:∀ g i s W,n1≤g→g<W.heap.size→J g i s W→¬ Ms s g∧Fine (Mg (Ms s) g) W∧(aL.bI [.int .u8 (kind:Int)]).rep (Mg (Ms s) g) W vp)
  (hY:∀ g i s W u0 u1 u2,i≤R→n1≤g→g<W.heap.size→J g i s W→aM (Mg (Ms s) g) W (qC (xP kind i)) [u0,u1,u2]→YieldAt Fence.wide 999 prog l #[.int .i64 (i:Int), .agg #[u0,u1,u2]] W fun e W'=>
   W.heap.size≤W'.heap.size∧W'.heap[g]? = W.heap[g]? ∧ ((i<R∧e = .returned (.bool true)∧∃ s',aR (Mg (Ms s) g) W (Mg (Ms s') g) W'∧J g (i+1) s' W')∨(i=R∧e = .returned (.bool false)∧Jx W')))
  (W:World) (hn1:n1≤W.heap.size) (hMW:Fine (Ms s0) W) (h0:∀ g W',Below W.heap.size W W'→W.heap.size≤g→g<W'.heap.size→J g 0 s0 W') :
  CallsIn Fence.wide 1000 prog 117 #[.func (.yield l) #[] #[],vp] W fun e W'=>(∃ v,e = .returned v)∧Jx W':=by
 refine callsIn_of_wp func117 rfl trivial ?_ rfl;simp only [ntmps117,List.size_toArray,List.length_cons,List.length_nil,Nat.reduceAdd,Nat.reduceSub,Array.replicate_succ,Array.replicate_zero,List.push_toArray,List.append_toArray,List.nil_append,List.cons_append]
 gi_wp2
 refine ⟨trivial,?_⟩;refine (callsIn_wide.2 (rA bW hMW (vs:=[]) trivial)).mono ?_;rintro e W1 ⟨hb1,c0,c1,c2,rfl,hc⟩;have hco:=hc.one;have hs1:=hb1.size;dsimp only
 gi_wp2
 obtain ⟨W2,hW2,e2⟩:=gQ (W:=W1) (hco c0 (by simp)) (hco c1 (by simp)) (hco c2 (by simp));rw [e2];have hc2:=pQ W1 c0 c1 c2;have hb2:=jG W1 c0 c1 c2;have hs2:=kH W1 c0 c1 c2;rw [hW2] at hc2 hb2 hs2;clear hW2 e2;have hb12:Below W.heap.size W W2:=hb1.trans (hb2.mono hs1)
 have hcr0:aM (Mg (Ms s0) W1.heap.size) W2 (qC (cP kind 0)) [c0,c1,c2]:=hc.mono fun b o hb ho _=>by
  have hlt:=(dS.1 ho).1;exact ⟨fun h=>h.elim hb (by omega),(hb2.block b (by omega)).trans ho⟩
 obtain ⟨g,hg⟩:∃ g,g=W1.heap.size:=⟨_,rfl⟩
 rw [←hg] at hs1 hc2 hb2 hs2 hcr0 ⊢;have hng:n1≤g:=by omega
 clear hc hco
 gi_wp2
 refine wpIn_loop_ghost (fun j a' W'=>∃ i t s c0 c1 c2,j=R-i∧i≤R∧a'=⟨t,[]⟩∧CfS l g i vp t∧g<W'.heap.size∧J g i s W'∧W'.heap[g]? = some (.cells #[c0,c1,c2] 30 (0,0))∧aM (Mg (Ms s) g) W' (qC (cP kind i)) [c0,c1,c2]) (R-0) ⟨0,_,s0,c0,c1,c2,rfl,fP _,rfl,⟨rfl,rfl,rfl,by rw [hg];rfl,rfl⟩,by omega,h0 g W2 hb12 hs1 (by omega),hc2,hcr0⟩ ?round
 case round=>
  clear hg;rintro j a' W3 ⟨i,t,s,c0,c1,c2,rfl,hi,rfl,S,hg3,hJ,hc3,hcr⟩;have hco:=hcr.one;have et:=Pb S.sz;rw [S.t0,S.t1,S.t3,S.t4] at et;generalize t.getD 2 Go.undef=x2 at et;generalize t.getD 5 Go.undef=x5 at et;generalize t.getD 6 Go.undef=x6 at et;generalize t.getD 7 Go.undef=x7 at et;generalize t.getD 8 Go.undef=x8 at et;generalize t.getD 9 Go.undef=x9 at et;generalize t.getD 10 Go.undef=x10 at et;generalize t.getD 11 Go.undef=x11 at et;generalize t.getD 12 Go.undef=x12 at et;generalize t.getD 13 Go.undef=x13 at et;generalize t.getD 14 Go.undef=x14 at et;generalize t.getD 15 Go.undef=x15 at et;generalize t.getD 16 Go.undef=x16 at et;generalize t.getD 17 Go.undef=x17 at et;generalize t.getD 18 Go.undef=x18 at et;generalize t.getD 19 Go.undef=x19 at et;generalize t.getD 20 Go.undef=x20 at et;generalize t.getD 21 Go.undef=x21 at et;generalize t.getD 22 Go.undef=x22 at et;generalize t.getD 23 Go.undef=x23 at et;generalize t.getD 24 Go.undef=x24 at et;generalize t.getD 25 Go.undef=x25 at et;generalize t.getD 26 Go.undef=x26 at et;generalize t.getD 27 Go.undef=x27 at et;generalize t.getD 28 Go.undef=x28 at et;generalize t.getD 29 Go.undef=x29 at et;generalize t.getD 30 Go.undef=x30 at et;generalize t.getD 31 Go.undef=x31 at et;generalize t.getD 32 Go.undef=x32 at et;generalize t.getD 33 Go.undef=x33 at et;generalize t.getD 34 Go.undef=x34 at et;generalize t.getD 35 Go.undef=x35 at et;generalize t.getD 36 Go.undef=x36 at et;generalize t.getD 37 Go.undef=x37 at et;generalize t.getD 38 Go.undef=x38 at et;generalize t.getD 39 Go.undef=x39 at et;generalize t.getD 40 Go.undef=x40 at et;generalize t.getD 41 Go.undef=x41 at et;generalize t.getD 42 Go.undef=x42 at et;generalize t.getD 43 Go.undef=x43 at et;generalize t.getD 44 Go.undef=x44 at et;generalize t.getD 45 Go.undef=x45 at et;generalize t.getD 46 Go.undef=x46 at et;generalize t.getD 47 Go.undef=x47 at et;generalize t.getD 48 Go.undef=x48 at et;generalize t.getD 49 Go.undef=x49 at et;generalize t.getD 50 Go.undef=x50 at et;generalize t.getD 51 Go.undef=x51 at et;generalize t.getD 52 Go.undef=x52 at et;generalize t.getD 53 Go.undef=x53 at et;generalize t.getD 54 Go.undef=x54 at et;generalize t.getD 55 Go.undef=x55 at et;generalize t.getD 56 Go.undef=x56 at et;generalize t.getD 57 Go.undef=x57 at et;generalize t.getD 58 Go.undef=x58 at et;generalize t.getD 59 Go.undef=x59 at et;generalize t.getD 60 Go.undef=x60 at et;generalize t.getD 61 Go.undef=x61 at et;generalize t.getD 62 Go.undef=x62 at et;generalize t.getD 63 Go.undef=x63 at et;generalize t.getD 64 Go.undef=x64 at et;generalize t.getD 65 Go.undef=x65 at et;generalize t.getD 66 Go.undef=x66 at et;generalize t.getD 67 Go.undef=x67 at et;generalize t.getD 68 Go.undef=x68 at et;generalize t.getD 69 Go.undef=x69 at et;generalize t.getD 70 Go.undef=x70 at et;generalize t.getD 71 Go.undef=x71 at et;generalize t.getD 72 Go.undef=x72 at et;generalize t.getD 73 Go.undef=x73 at et;generalize t.getD 74 Go.undef=x74 at et;subst et;have d0:W3.cell? ⟨g,0,none⟩=some c0:=aB hc3 rfl;have d1:W3.cell? ⟨g,1,none⟩=some c1:=aB hc3 rfl;have d2:W3.cell? ⟨g,2,none⟩=some c2:=aB hc3 rfl;refine wpIn_seq (wpIn_block (wpIn_seq ?_))
  gi_wp2
  obtain ⟨hng',hMf3,hvp3⟩:=hJf g i s W3 hng hg3 hJ;have hI:=aY (gZ i) (by unfold gZ;omega) (by unfold gZ;omega);rw [show (1-(i:Int)/2%2*2)=gZ i from rfl];refine ⟨trivial,?_⟩;refine (callsIn_wide.2 (rA hI hMf3 (vs:=[.int .i64 (gZ i)]) ⟨⟨rfl,rfl⟩,trivial⟩)).mono ?_;rintro e W4 ⟨hb4,s0,s1,s2,rfl,hs⟩;have hso:=hs.one;have hs4:=hb4.size;have hc4:=(hb4.block g hg3).trans hc3;have hcr4:=hcr.mono (aR.below hb4);dsimp only
  gi_wp2
  obtain ⟨W5,hW5,e5⟩:=gQ (W:=W4) (hso s0 (by simp)) (hso s1 (by simp)) (hso s2 (by simp));rw [e5];have hz5:=pQ W4 s0 s1 s2;have hb5:=jG W4 s0 s1 s2;have hs5:=kH W4 s0 s1 s2;rw [hW5] at hz5 hb5 hs5;clear hW5 e5;replace hs5:W4.heap.size+1≤W5.heap.size:=by omega
  have hc5:=(hb5.block g (by omega)).trans hc4;have d0:W5.cell? ⟨g,0,none⟩=some c0:=aB hc5 rfl;have d1:W5.cell? ⟨g,1,none⟩=some c1:=aB hc5 rfl;have d2:W5.cell? ⟨g,2,none⟩=some c2:=aB hc5 rfl;have hcr5:=hcr4.mono (aR.below hb5);have hs5r:=hs.mono (aR.below hb5)
  gi_wp2
  obtain ⟨W6,hW6,e6⟩:=gQ (W:=W5) (hco c0 (by simp)) (hco c1 (by simp)) (hco c2 (by simp));rw [e6];have hx6:=pQ W5 c0 c1 c2;have hb6:=jG W5 c0 c1 c2;have hs6:=kH W5 c0 c1 c2;rw [hW6] at hx6 hb6 hs6;clear hW6 e6;replace hs6:W5.heap.size+1≤W6.heap.size:=by omega
  obtain ⟨b7,hb7⟩:∃ b7,W5.heap.size=b7:=⟨_,rfl⟩
  have hc6:=(hb6.block g (by omega)).trans hc5;have hz6:=(hb6.block W4.heap.size (by omega)).trans hz5;have hJ6:=hJb g i s W3 W6 hng hJ (JV (hb4.trans ((hb5.trans (hb6.mono (by omega))).mono hs4)) g)
  have hk7:aR (Mg (Ms s) g) W5 (Mg (Ms s) b7) W6:=fun b o hb ho _=>by
   have hlt:=(dS.1 ho).1;exact ⟨fun h=>h.elim (fun h=>hb (.inl h)) (by omega),(hb6.block b (by omega)).trans ho⟩
  have hMf5:Fine (Mg (Ms s) g) W5:=⟨fun b hb=>by have:=hMf3.1 b hb;omega,(hMf3.2.cE (aR.below hb4)).cE (aR.below hb5)⟩
  have hMf6:Fine (Mg (Ms s) b7) W6:=⟨fun b hb=>hb.elim (fun h=>by have:=hMf5.1 b (.inl h);omega) (by omega),hMf5.2.cE hk7⟩
  have hvp6:=aL.mono _ hk7 (aL.mono _ (aR.below hb5) (aL.mono _ (aR.below hb4) hvp3));have hcr6:=hcr5.mono hk7;have hsr6:=hs5r.mono hk7;rw [hb7] at hx6 ⊢;dsimp only [Result.andThen_ok];rename_i K1 hK1 K0 hK0;refine hK0 _ _ (hK1 _ _ ?_);clear hK0 K0 hK1 K1;dsimp only [Act.put];refine wpIn_seq (wpIn_wide.2 ?_);have hcv:(aL.bI (qC (cP kind i))).rep (Mg (Ms s) b7) W6 (.pointer (some ⟨g,0,none⟩)):=⟨g,0,#[c0,c1,c2],30,(0,0),rfl,fun h=>h.elim hng' (by omega),hc6,by simpa using hcr6⟩
  have hzv:(aL.bI (qC (gZ i:Rat))).rep (Mg (Ms s) b7) W6 (.pointer (some ⟨W4.heap.size,0,none⟩)):=⟨W4.heap.size,0,#[s0,s1,s2],30,(0,0),rfl,fun h=>h.elim (fun h=>by have:=hMf3.1 _ (.inl h);omega) (by omega),hz6,by simpa using hsr6⟩
  obtain ⟨xs,hxs,z,hz,hvc⟩:=XU kind i hk1 hk6;have hxl:xs.length=3:=by rcases hxs with rfl | ⟨rfl,_⟩<;>rfl
  refine CB Lx.wp (N:=75) (t0:=7) (T:=30) (n:=3) (want:=0) (g:=b7) (cur:=#[c0,c1,c2]) (ins:=[(1, .ref 1),(3, .ref 3),(4, .v none),(5, .v none),(6, .ref 3)]) (xs:=ah2 z kind i) fo ⟨rfl,rfl,rfl,rfl,rfl,trivial⟩
   (show vc prog (fun o=>o = .retr [] [xs]) (cC prog 75 (fun _=>none) (bC [1,1,0,0,0,0,1,1,1,0] (bH f117)) [(1, .ref 1),(3, .ref 3),(4, .v none),(5, .v none),(6, .ref 3)] 7 30 3 0 ([].map ResultVar.tmp)) _ _ from hvc) (by kernel_rfl) hMf6 (.inr rfl) rfl rfl rfl (by omega) ⟨by rw [hz];exact hvp6,hcv,⟨rfl,rfl⟩,⟨rfl,rfl⟩,hzv,trivial⟩ rfl hx6 (by simpa using hcr6) ?_
  clear hvc;intro a7 W7 us cur7 hag hg7 hsz7 hdf7 _ hx7 _ hxr7;have k0:=hag 0 (by kernel_rfl);have k1:=hag 1 (by kernel_rfl);have k3:=hag 3 (by kernel_rfl);have k4:=hag 4 (by kernel_rfl);have k5:=hag 5 (by kernel_rfl);have k7:=hag 7 (by kernel_rfl);clear hag;change a7.tmps.getD 0 Go.undef = .func (.yield l) #[] #[] at k0;change a7.tmps.getD 1 Go.undef=vp at k1;change a7.tmps.getD 3 Go.undef = .pointer (some ⟨g,0,none⟩) at k3;change a7.tmps.getD 4 Go.undef = .int .i64 (i:Int) at k4;change a7.tmps.getD 5 Go.undef = .int .i64 (i:Int) at k5;change a7.tmps.getD 7 Go.undef = .pointer (some ⟨b7,0,none⟩) at k7;have et:=Pb hsz7;rw [k0,k1,k3,k4,k5,k7] at et;generalize a7.tmps.getD 2 Go.undef=y2 at et;generalize a7.tmps.getD 6 Go.undef=y6 at et;generalize a7.tmps.getD 8 Go.undef=y8 at et;generalize a7.tmps.getD 9 Go.undef=y9 at et;generalize a7.tmps.getD 10 Go.undef=y10 at et;generalize a7.tmps.getD 11 Go.undef=y11 at et;generalize a7.tmps.getD 12 Go.undef=y12 at et;generalize a7.tmps.getD 13 Go.undef=y13 at et;generalize a7.tmps.getD 14 Go.undef=y14 at et;generalize a7.tmps.getD 15 Go.undef=y15 at et;generalize a7.tmps.getD 16 Go.undef=y16 at et;generalize a7.tmps.getD 17 Go.undef=y17 at et;generalize a7.tmps.getD 18 Go.undef=y18 at et;generalize a7.tmps.getD 19 Go.undef=y19 at et;generalize a7.tmps.getD 20 Go.undef=y20 at et;generalize a7.tmps.getD 21 Go.undef=y21 at et;generalize a7.tmps.getD 22 Go.undef=y22 at et;generalize a7.tmps.getD 23 Go.undef=y23 at et;generalize a7.tmps.getD 24 Go.undef=y24 at et;generalize a7.tmps.getD 25 Go.undef=y25 at et;generalize a7.tmps.getD 26 Go.undef=y26 at et;generalize a7.tmps.getD 27 Go.undef=y27 at et;generalize a7.tmps.getD 28 Go.undef=y28 at et;generalize a7.tmps.getD 29 Go.undef=y29 at et;generalize a7.tmps.getD 30 Go.undef=y30 at et;generalize a7.tmps.getD 31 Go.undef=y31 at et;generalize a7.tmps.getD 32 Go.undef=y32 at et;generalize a7.tmps.getD 33 Go.undef=y33 at et;generalize a7.tmps.getD 34 Go.undef=y34 at et;generalize a7.tmps.getD 35 Go.undef=y35 at et;generalize a7.tmps.getD 36 Go.undef=y36 at et;generalize a7.tmps.getD 37 Go.undef=y37 at et;generalize a7.tmps.getD 38 Go.undef=y38 at et;generalize a7.tmps.getD 39 Go.undef=y39 at et;generalize a7.tmps.getD 40 Go.undef=y40 at et;generalize a7.tmps.getD 41 Go.undef=y41 at et;generalize a7.tmps.getD 42 Go.undef=y42 at et;generalize a7.tmps.getD 43 Go.undef=y43 at et;generalize a7.tmps.getD 44 Go.undef=y44 at et;generalize a7.tmps.getD 45 Go.undef=y45 at et;generalize a7.tmps.getD 46 Go.undef=y46 at et;generalize a7.tmps.getD 47 Go.undef=y47 at et;generalize a7.tmps.getD 48 Go.undef=y48 at et;generalize a7.tmps.getD 49 Go.undef=y49 at et;generalize a7.tmps.getD 50 Go.undef=y50 at et;generalize a7.tmps.getD 51 Go.undef=y51 at et;generalize a7.tmps.getD 52 Go.undef=y52 at et;generalize a7.tmps.getD 53 Go.undef=y53 at et;generalize a7.tmps.getD 54 Go.undef=y54 at et;generalize a7.tmps.getD 55 Go.undef=y55 at et;generalize a7.tmps.getD 56 Go.undef=y56 at et;generalize a7.tmps.getD 57 Go.undef=y57 at et;generalize a7.tmps.getD 58 Go.undef=y58 at et;generalize a7.tmps.getD 59 Go.undef=y59 at et;generalize a7.tmps.getD 60 Go.undef=y60 at et;generalize a7.tmps.getD 61 Go.undef=y61 at et;generalize a7.tmps.getD 62 Go.undef=y62 at et;generalize a7.tmps.getD 63 Go.undef=y63 at et;generalize a7.tmps.getD 64 Go.undef=y64 at et;generalize a7.tmps.getD 65 Go.undef=y65 at et;generalize a7.tmps.getD 66 Go.undef=y66 at et;generalize a7.tmps.getD 67 Go.undef=y67 at et;generalize a7.tmps.getD 68 Go.undef=y68 at et;generalize a7.tmps.getD 69 Go.undef=y69 at et;generalize a7.tmps.getD 70 Go.undef=y70 at et;generalize a7.tmps.getD 71 Go.undef=y71 at et;generalize a7.tmps.getD 72 Go.undef=y72 at et;generalize a7.tmps.getD 73 Go.undef=y73 at et;generalize a7.tmps.getD 74 Go.undef=y74 at et;obtain ⟨tm7,df7⟩:=a7;dsimp only at et hdf7 k0 k1 k3 k4 k5 k7 hsz7;subst hdf7;subst et;clear k0 k1 k3 k4 k5 k7 hsz7;have hb47:W4.heap.size<b7:=by omega
  have hg7':∀ j,j<W6.heap.size→j≠b7→W7.heap[j]? = W6.heap[j]?:=fun j hj hne=>hg7.block j hj fun e=>hne (Option.some.inj e);have hc7:=(hg7' g (by omega) (by omega)).trans hc6
  have hxq:aM (Mg (Ms s) b7) W7 (qC (xP kind i)) cur7.toList:=by
   rcases hxs with rfl | ⟨rfl,e⟩
   ·exact hxr7
   ·rw [e];exact Lu hxr7
  obtain ⟨x0,x1,x2,hcc⟩:=lO (show cur7.toList.length=3 from hxq.length.symm);obtain rfl:cur7 = #[x0,x1,x2]:=by rw [←Array.toArray_toList (xs:=cur7),hcc]
  have hxo:=hxq.one;have hxg:aM (Mg (Ms s) g) W7 (qC (xP kind i)) [x0,x1,x2]:=(ZJ hxq hc7 hcr).mono fun b o hb ho _=>⟨fun h=>hb (h.elim (fun h=>.inl (.inl h)) .inr),ho⟩
  have f0:W7.cell? ⟨b7,0,none⟩=some x0:=aB hx7 rfl;have f1:W7.cell? ⟨b7,1,none⟩=some x1:=aB hx7 rfl;have f2:W7.cell? ⟨b7,2,none⟩=some x2:=aB hx7 rfl;have hb6':Below W3.heap.size W3 W6:=hb4.trans ((hb5.trans (hb6.mono (by omega))).mono hs4);have hg37:W3.grownBy W7 (some g):=⟨hg7.os.trans hb6'.os,hg7.tape.trans hb6'.tape,hg7.output.trans hb6'.output,Nat.le_trans hb6'.size hg7.size,fun j hj _=>(hg7' j (by omega) (by omega)).trans (hb6'.block j hj)⟩
  have hJ7:=hJb g i s W3 W7 hng hJ hg37;have hs7:=hg7.size;show Code.wpIn _ _ _ _ _ _ _;refine wpIn_seq (wpIn_seq ?_)
  gi_wp2
  obtain ⟨fnr,tmr,asr,bdr,hy,hRd⟩:=hY g i s W7 x0 x1 x2 hi hng (by omega) hJ7 hxg
  go_simp
  refine hRd.mono ?_;rintro e W8 ⟨hs8,hc8,hcase⟩;have hc8':=hc8.trans hc7;rcases hcase with ⟨hlt,rfl,s',hk8,hJ8⟩ | ⟨hiR,rfl,hx⟩
  rotate_left
  ·gi_wp2
   simp [bodyPost,results,show f117.results = #[] from rfl,go_sem];exact hx
  ·rename_i Kb hKb;refine hKb _ _ ?_;clear hKb Kb;refine wpListIn_plain rfl fun K hK=>?_
   go_simp
   refine hK _ _ ?_;clear hK K;refine wpIn_cond (t:=false) rfl (wpIn_skip ?_);obtain ⟨_,hMf8,hvp8⟩:=hJf g (i+1) s' W8 hng (by omega) hJ8;have hcr7:aM (Mg (Ms s) g) W7 (qC (cP kind i)) [c0,c1,c2]:=hcr.mono fun b o hb ho _=>⟨hb,(hg37.block b (dS.1 ho).1 fun e=>hb (.inr (Option.some.inj e))).trans ho⟩
   have hcr8:=hcr7.mono hk8;show Code.wpIn _ _ _ _ _ _ _;refine wpIn_wide.2 ?_
   refine CB Lx.wp (N:=75) (t0:=3) (T:=30) (n:=3) (want:=0) (g:=g) (cur:=#[c0,c1,c2]) (ins:=[(1, .ref 1),(5, .v none)]) (xs:=[.ref [.int .u8 (kind:Int)], .v (.one (.int .i64 (i:Int)))]) fo ⟨rfl,rfl,trivial⟩
    (Xz kind i _ rfl hk6) (by kernel_rfl) hMf8 (.inr rfl) rfl rfl rfl (by omega) ⟨hvp8,⟨rfl,rfl⟩,trivial⟩ rfl hc8' (by simpa using hcr8) ?_
   intro a9 W9 us cur9 hag hg9 hsz9 hdf9 _ hx9 _ hxr9;have k0:=hag 0 (by kernel_rfl);have k1:=hag 1 (by kernel_rfl);have k3:=hag 3 (by kernel_rfl);have k4:=hag 4 (by kernel_rfl);clear hag;change a9.tmps.getD 0 Go.undef = .func (.yield l) #[] #[] at k0;change a9.tmps.getD 1 Go.undef=vp at k1;change a9.tmps.getD 3 Go.undef = .pointer (some ⟨g,0,none⟩) at k3;change a9.tmps.getD 4 Go.undef = .int .i64 (i:Int) at k4;have et:=Pb hsz9;rw [k0,k1,k3,k4] at et;generalize a9.tmps.getD 2 Go.undef=z2 at et;generalize a9.tmps.getD 5 Go.undef=z5 at et;generalize a9.tmps.getD 6 Go.undef=z6 at et;generalize a9.tmps.getD 7 Go.undef=z7 at et;generalize a9.tmps.getD 8 Go.undef=z8 at et;generalize a9.tmps.getD 9 Go.undef=z9 at et;generalize a9.tmps.getD 10 Go.undef=z10 at et;generalize a9.tmps.getD 11 Go.undef=z11 at et;generalize a9.tmps.getD 12 Go.undef=z12 at et;generalize a9.tmps.getD 13 Go.undef=z13 at et;generalize a9.tmps.getD 14 Go.undef=z14 at et;generalize a9.tmps.getD 15 Go.undef=z15 at et;generalize a9.tmps.getD 16 Go.undef=z16 at et;generalize a9.tmps.getD 17 Go.undef=z17 at et;generalize a9.tmps.getD 18 Go.undef=z18 at et;generalize a9.tmps.getD 19 Go.undef=z19 at et;generalize a9.tmps.getD 20 Go.undef=z20 at et;generalize a9.tmps.getD 21 Go.undef=z21 at et;generalize a9.tmps.getD 22 Go.undef=z22 at et;generalize a9.tmps.getD 23 Go.undef=z23 at et;generalize a9.tmps.getD 24 Go.undef=z24 at et;generalize a9.tmps.getD 25 Go.undef=z25 at et;generalize a9.tmps.getD 26 Go.undef=z26 at et;generalize a9.tmps.getD 27 Go.undef=z27 at et;generalize a9.tmps.getD 28 Go.undef=z28 at et;generalize a9.tmps.getD 29 Go.undef=z29 at et;generalize a9.tmps.getD 30 Go.undef=z30 at et;generalize a9.tmps.getD 31 Go.undef=z31 at et;generalize a9.tmps.getD 32 Go.undef=z32 at et;generalize a9.tmps.getD 33 Go.undef=z33 at et;generalize a9.tmps.getD 34 Go.undef=z34 at et;generalize a9.tmps.getD 35 Go.undef=z35 at et;generalize a9.tmps.getD 36 Go.undef=z36 at et;generalize a9.tmps.getD 37 Go.undef=z37 at et;generalize a9.tmps.getD 38 Go.undef=z38 at et;generalize a9.tmps.getD 39 Go.undef=z39 at et;generalize a9.tmps.getD 40 Go.undef=z40 at et;generalize a9.tmps.getD 41 Go.undef=z41 at et;generalize a9.tmps.getD 42 Go.undef=z42 at et;generalize a9.tmps.getD 43 Go.undef=z43 at et;generalize a9.tmps.getD 44 Go.undef=z44 at et;generalize a9.tmps.getD 45 Go.undef=z45 at et;generalize a9.tmps.getD 46 Go.undef=z46 at et;generalize a9.tmps.getD 47 Go.undef=z47 at et;generalize a9.tmps.getD 48 Go.undef=z48 at et;generalize a9.tmps.getD 49 Go.undef=z49 at et;generalize a9.tmps.getD 50 Go.undef=z50 at et;generalize a9.tmps.getD 51 Go.undef=z51 at et;generalize a9.tmps.getD 52 Go.undef=z52 at et;generalize a9.tmps.getD 53 Go.undef=z53 at et;generalize a9.tmps.getD 54 Go.undef=z54 at et;generalize a9.tmps.getD 55 Go.undef=z55 at et;generalize a9.tmps.getD 56 Go.undef=z56 at et;generalize a9.tmps.getD 57 Go.undef=z57 at et;generalize a9.tmps.getD 58 Go.undef=z58 at et;generalize a9.tmps.getD 59 Go.undef=z59 at et;generalize a9.tmps.getD 60 Go.undef=z60 at et;generalize a9.tmps.getD 61 Go.undef=z61 at et;generalize a9.tmps.getD 62 Go.undef=z62 at et;generalize a9.tmps.getD 63 Go.undef=z63 at et;generalize a9.tmps.getD 64 Go.undef=z64 at et;generalize a9.tmps.getD 65 Go.undef=z65 at et;generalize a9.tmps.getD 66 Go.undef=z66 at et;generalize a9.tmps.getD 67 Go.undef=z67 at et;generalize a9.tmps.getD 68 Go.undef=z68 at et;generalize a9.tmps.getD 69 Go.undef=z69 at et;generalize a9.tmps.getD 70 Go.undef=z70 at et;generalize a9.tmps.getD 71 Go.undef=z71 at et;generalize a9.tmps.getD 72 Go.undef=z72 at et;generalize a9.tmps.getD 73 Go.undef=z73 at et;generalize a9.tmps.getD 74 Go.undef=z74 at et;obtain ⟨tm9,df9⟩:=a9;dsimp only at et hdf9 k0 k1 k3 k4 hsz9;subst hdf9;subst et;clear k0 k1 k3 k4 hsz9;have hs9:=hg9.size;have hJ9:=hJb g (i+1) s' W8 W9 hng hJ8 hg9;obtain ⟨d0',d1',d2',hcc⟩:=lO (show cur9.toList.length=3 from hxr9.length.symm);obtain rfl:cur9 = #[d0',d1',d2']:=by rw [←Array.toArray_toList (xs:=cur9),hcc]
   show Code.wpIn _ _ _ _ _ _ _
   gi_wp2
   exact ⟨R-(i+1),by omega,i+1,rfl,by omega,⟨rfl,rfl,rfl,rfl,rfl⟩,by omega,s',hJ9,d0',d1',d2',⟨rfl,rfl,rfl⟩,hxr9⟩
end Go.Sy
namespace Go.Sy
open Go Go.Proofs Go.RowKit Tryz Ord
theorem RJ.grown {w W W':World} {o D l g:Nat} {lo:Obj} (I:RJ w o D l lo W) (hw:w.heap.size≤W.heap.size) (hD:D<g) (hl:l<g) (hg:w.heap.size≤g) (hb:W.grownBy W' (some g)):RJ w o D l lo W':=by
 have h:∀ j,j<W.heap.size→j≠g→W'.heap[j]? = W.heap[j]?:=fun j hj hne=>hb.block j hj fun e=>hne (Option.some.inj e);have hs:=I.size;exact ⟨hb.os.trans I.os,hb.tape.trans I.tape,hb.output.trans I.output,⟨Nat.lt_of_lt_of_le I.size.1 hb.size,Nat.lt_of_lt_of_le I.size.2 hb.size⟩,fun j hj hne=>(h _ (by omega) (by omega)).trans (I.block j hj hne),(h _ hs.1 (by omega)).trans I.hD,(h _ hs.2 (by omega)).trans I.hl⟩
theorem oF {M:Nat→Prop} {W W':World} {g:Nat} (hg:M g) (hb:W.grownBy W' (some g)):aR M W M W':=fun b x hx ho _=>⟨hx,(hb.block b (dS.1 ho).1 fun e=>hx (Option.some.inj e▸hg)).trans ho⟩
section
variable (M:Nat→Prop) (kind R:Nat) (hk1:1≤kind) (hk6:kind≤6) (hR:R≤43)
include hk1 hk6 hR
set_option maxHeartbeats 1000000 in
theorem Dx {tm:Array Value} {df:List Deferred} {w:World} {vp:Value} {o T p1 p2 id:Nat} {tf:Nat→Value→Nat→Array Value} {gop:Operand} {assign body:Code} {cur0:Array Value} {cs:Nat→List aL} {Q:Exit→Act→World→Prop}
  (hM:Fine M w) (hvp:(aL.bI [.int .u8 (kind:Int)]).rep M w vp) (hg:({ tmps:=tm,defers:=df }:Act).eval gop = .func (.func 117) #[] #[vp]) (hMo:M o) (ho:w.heap[o]? = some (.cells cur0 T (0,0))) (hc0:aM M w (cs 0) cur0.toList)
  (hcm:∀ (M':Nat→Prop) W vs,aM M W (cs 0) vs→aM M' W (cs 0) vs)
  (hass:∀ (l i:Nat) (u0 u1 u2:Value) (W:World) (K:Act→World→Prop),(∀ u ∈ [u0,u1,u2],u.oneCell'=true)→K ⟨tf i (.agg #[u0,u1,u2]) W.heap.size,[]⟩ (LM W u0 u1 u2) →
   assign.wpIn (Fence.wide.inRound l) 999 prog (Exit.then K (fun _ _ _=>False)) ⟨(tm.setIfInBounds p1 (.int .i64 (i:Int))).setIfInBounds p2 (.agg #[u0,u1,u2]),[]⟩ W)
  (hbody:∀ i,i≤R→∀ (l g:Nat) (W:World) (cur:Array Value) (b:Nat) (x:Value) (Q:Exit→Act→World→Prop),¬ LetsOut Q→w.heap.size≤g→Fine (Mg M g) W→aR M w (Mg M g) W→W.heap[o]? = some (.cells cur T (0,0))→aM (Mg M g) W (cs i) cur.toList→(aL.bI (qC (xP kind i))).rep (Mg M g) W (.pointer (some ⟨b,0,none⟩)) →
   (∀ a' W' cur',W.grownBy W' (some o)→W'.heap[o]? = some (.cells cur' T (0,0))→aM (Mg M g) W' (cs (i+1)) cur'.toList→Q (if i<R then .normal else .exit id) a' W') →
   body.wpIn (Fence.wide.inRound l) 999 prog Q ⟨tf i x b,[]⟩ W)
  (hQ:∀ W cur g,w.heap.size≤g→W.os=w.os→W.tape=w.tape→W.output=w.output→w.heap.size+2≤W.heap.size→(∀ j,j<w.heap.size→j≠o→W.heap[j]? = w.heap[j]?)→W.heap[w.heap.size]? = some (.deferred (some []))→W.heap[o]? = some (.cells cur T (0,0))→aM (Mg M g) W (cs (R+1)) cur.toList →
   Q (.exit id) { tmps:=tm,defers:={ target:=.collected w.heap.size,args:=#[] } :: df } W) :
  (Code.rangeFunc gop #[p1,p2] assign body).wpIn Fence.wide 1001 prog Q { tmps:=tm,defers:=df } w:=by
 have holt:o<w.heap.size:=(dS.1 ho).1;have hlow:∀ b,M b→b<w.heap.size:=fun b hb=>hM.1 b hb;refine Bw rfl (by omega) (gf:=117) (lb:=#[vp]) hg trivial (enters_of func117 (by kernel_rfl) rfl) ?_;intro fn D l W1 hfn hD hl hsz1 hb1 hK1 hL1;subst hD hl;have e0:∀ lo,W1.heap[w.heap.size+1]? = some lo→RJ w o w.heap.size (w.heap.size+1) lo W1:=fun lo h=>⟨hb1.os,hb1.tape,hb1.output,by omega,fun j hj _=>hb1.block j hj,hK1,h⟩
 have toMg:∀ {g:Nat} {W:World} {lo:Obj},w.heap.size+2≤g→RJ w o w.heap.size (w.heap.size+1) lo W→aR M w (Mg M g) W:=fun hg I b x hb hx hc=>by
  have hlt:=(dS.1 hx).1;exact ⟨fun h=>h.elim hb (by omega),(I.block b hlt fun e=>hb (e▸hMo)).trans hx⟩
 have toFine:∀ {g:Nat} {W:World} {lo:Obj},w.heap.size+2≤g→g<W.heap.size→w.heap.size≤W.heap.size→RJ w o w.heap.size (w.heap.size+1) lo W→Fine (Mg M g) W:=fun hg hgl hw I=>⟨fun b hb=>hb.elim (fun h=>by have:=hlow b h;omega) (by omega),hM.2.cE (toMg hg I)⟩
 refine (Kn (σ:=Unit) (fun _=>M) () kind R hk1 hk6 hR (w.heap.size+1) vp (w.heap.size+2)
  (fun g i _ W=>w.heap.size≤W.heap.size∧RJ w o w.heap.size (w.heap.size+1) (.loop (dY fn tm #[p1,p2] assign body w.heap.size .ready none)) W∧∃ cur,W.heap[o]? = some (.cells cur T (0,0))∧aM (Mg M g) W (cs i) cur.toList)
  (fun W=>RJ w o w.heap.size (w.heap.size+1) (.loop (dY fn tm #[p1,p2] assign body w.heap.size .done (some (.exit id)))) W∧∃ cur g,w.heap.size≤g∧W.heap[o]? = some (.cells cur T (0,0))∧aM (Mg M g) W (cs (R+1)) cur.toList)
  ?hJb ?hJf ?hY W1 (by omega) ⟨fun b hb=>by have:=hlow b hb;omega,hM.2.cE (aR.below hb1)⟩ ?h0).mono ?_
 case h0=>
  intro g W' hb hg hgl;have hs:=hb.size;refine ⟨by omega,(e0 _ hL1).below (by omega) hb,cur0,(hb.block o (by omega)).trans ((hb1.block o holt).trans ho),(hcm (Mg M g) _ _ ((hc0.mono (aR.below hb1)).mono (aR.below hb)))⟩
 case hJb=>
  rintro g i _ W W' hg ⟨hw,I,cur,hcu,hcr⟩ hb;exact ⟨Nat.le_trans hw hb.size,I.grown hw (by omega) (by omega) (by omega) hb,cur,(hb.block o (by omega) fun e=>by have:=Option.some.inj e;omega).trans hcu,hcr.mono (oF (.inr rfl) hb)⟩
 case hJf=>
  rintro g i _ W hg hgl ⟨hw,I,_⟩;exact ⟨fun h=>by have:=hlow g h;omega,toFine hg hgl hw I,aL.mono _ (toMg hg I) hvp⟩
 case hY=>
  rintro g i _ W u0 u1 u2 hi hgn hgl ⟨hw,I,cur,hcu,hcr⟩ hu;have hone:=hu.one
  obtain ⟨fnr,tmr,asr,bdr,hy,hRd⟩:=yM (F:=Fence.wide) (m:=999) (P:=prog) (args:=#[.int .i64 (i:Int), .agg #[u0,u1,u2]]) (R:=fun b c W'=>W.heap.size≤W'.heap.size∧W'.heap[g]? = W.heap[g]? ∧ aR (Mg M g) W (Mg M g) W'∧((i<R∧b=true∧RJ w o w.heap.size (w.heap.size+1) (.loop (dY fn tm #[p1,p2] assign body w.heap.size .ready none)) W'∧w.heap.size≤W'.heap.size∧∃ cur,W'.heap[o]? = some (.cells cur T (0,0))∧aM (Mg M g) W' (cs (i+1)) cur.toList) ∨
   (i=R∧b=false∧RJ w o w.heap.size (w.heap.size+1) (.loop (dY fn tm #[p1,p2] assign body w.heap.size .done (some (.exit id)))) W'∧∃ cur g,w.heap.size≤g∧W'.heap[o]? = some (.cells cur T (0,0))∧aM (Mg M g) W' (cs (R+1)) cur.toList))) I.hl rfl trivial (by
    rw [show (#[p1,p2].zip #[Value.int .i64 (i:Int),Value.agg #[u0,u1,u2]]).foldl (fun t (p,v)=>t.setIfInBounds p v) tm=(tm.setIfInBounds p1 (.int .i64 (i:Int))).setIfInBounds p2 (.agg #[u0,u1,u2]) by simp];refine hass _ i u0 u1 u2 W _ hone ?_;have hself:=pQ W u0 u1 u2;have hbel:=jG W u0 u1 u2;have hs2:=kH W u0 u1 u2;generalize LM W u0 u1 u2=W2 at *;have I2:=I.below hw hbel;refine ⟨I2.hl,?_⟩;generalize hW3:W2.putObj (w.heap.size+1) _=W3;have hl2:w.heap.size+1<W2.heap.size:=I2.size.2;have hl3:W3.heap[w.heap.size+1]? = some (.loop (dY fn tm #[p1,p2] assign body w.heap.size .busy none)):=by rw [←hW3];exact World.putObj_heap_same hl2
    have hput:∀ j,j≠w.heap.size+1→W3.heap[j]? = W2.heap[j]?:=fun j hj=>by rw [←hW3];exact World.putObj_heap_other hj
    have hs3:W3.heap.size=W.heap.size+1:=by rw [←hW3,←hs2];simp [World.putObj]
    have hos3:W3.os=W2.os∧W3.tape=W2.tape∧W3.output=W2.output:=by rw [←hW3];exact ⟨rfl,rfl,rfl⟩
    clear hW3;have I3:RJ w o w.heap.size (w.heap.size+1) (.loop (dY fn tm #[p1,p2] assign body w.heap.size .busy none)) W3:=⟨hos3.1.trans I2.os,hos3.2.1.trans I2.tape,hos3.2.2.trans I2.output,by have h:=I2.size;omega,fun j hj hne=>(hput j (by omega)).trans (I2.block j hj hne),(hput _ (by omega)).trans I2.hD,hl3⟩
    have hk23:aR (Mg M g) W2 (Mg M g) W3:=fun b x hb hx hxc=>⟨hb,(hput b fun e=>by rw [e,I2.hl] at hx;cases hx;cases hxc).trans hx⟩
    have hk03:aR (Mg M g) W (Mg M g) W3:=(aR.below hbel).trans hk23;refine hbody i hi _ g W3 cur W.heap.size _ _ (fun h=>by obtain ⟨_,_,h⟩:=h;exact h) (by omega) (toFine hgn (by omega) (by omega) I3) (toMg hgn I3) ((hput o (by omega)).trans ((hbel.block o (by omega)).trans hcu)) (hcr.mono hk03) ?_ ?_
    ·exact ⟨W.heap.size,0,#[u0,u1,u2],30,(0,0),rfl,fun hm=>hm.elim (fun hm=>by have:=hlow _ hm;omega) (by omega),(hput W.heap.size (by have h:=I.size;omega)).trans hself,by simpa using hu.mono hk03⟩
    ·intro a' W4 cur' hg4 hc4 hr4;have h4:∀ j,j<W3.heap.size→j≠o→W4.heap[j]? = W3.heap[j]?:=fun j hj hne=>hg4.block j hj fun e=>hne (Option.some.inj e);have hl4:W4.heap[w.heap.size+1]? = some (.loop (dY fn tm #[p1,p2] assign body w.heap.size .busy none)):=(h4 _ (by omega) (by omega)).trans hl3;have hs4:W3.heap.size≤W4.heap.size:=hg4.size
     have fin:∀ lo,(W.heap.size≤(W4.putObj (w.heap.size+1) lo).heap.size∧(W4.putObj (w.heap.size+1) lo).heap[g]? = W.heap[g]? ∧ aR (Mg M g) W (Mg M g) (W4.putObj (w.heap.size+1) lo))∧RJ w o w.heap.size (w.heap.size+1) lo (W4.putObj (w.heap.size+1) lo)∧(W4.putObj (w.heap.size+1) lo).heap[o]? = some (.cells cur' T (0,0))∧aM (Mg M g) (W4.putObj (w.heap.size+1) lo) (cs (i+1)) cur'.toList:=fun lo=>by
      have hp:∀ j,j≠w.heap.size+1→(W4.putObj (w.heap.size+1) lo).heap[j]? = W4.heap[j]?:=fun j hj=>World.putObj_heap_other hj;have hk4:aR (Mg M g) W4 (Mg M g) (W4.putObj (w.heap.size+1) lo):=fun b x hb hx hxc=>⟨hb,(hp b fun e=>by rw [e,hl4] at hx;cases hx;cases hxc).trans hx⟩
      refine ⟨⟨by simp only [World.putObj_size];omega,(hp g (by omega)).trans ((h4 g (by omega) (by omega)).trans ((hput g (by omega)).trans (hbel.block g hgl))),(hk03.trans (oF (.inl hMo) hg4)).trans hk4⟩,⟨hg4.os.trans I3.os,hg4.tape.trans I3.tape,hg4.output.trans I3.output,by simp only [World.putObj_size];have h:=I3.size;omega,fun j hj hne=>(hp j (by omega)).trans ((h4 j (by omega) hne).trans (I3.block j hj hne)),(hp _ (by omega)).trans ((h4 _ (by omega) (by omega)).trans I3.hD),World.putObj_heap_same (by omega)⟩,(hp o (by omega)).trans hc4,hr4.mono hk4⟩
     by_cases hlt:i<R
     ·rw [if_pos hlt];exact ⟨hl4,(fin _).1.1,(fin _).1.2.1,(fin _).1.2.2, .inl ⟨hlt,rfl,(fin _).2.1,by simp only [World.putObj_size];omega,cur',(fin _).2.2⟩⟩
     ·rw [if_neg hlt];obtain rfl:i=R:=by omega
      exact ⟨hl4,(fin _).1.1,(fin _).1.2.1,(fin _).1.2.2, .inr ⟨rfl,rfl,(fin _).2.1,cur',g,by omega,(fin _).2.2⟩⟩)
  refine ⟨fnr,tmr,asr,bdr,hy,hRd.mono ?_⟩;rintro e W' ⟨b,c,rfl,k1,k2,k3,(⟨h1,rfl,h2,h3,h4⟩ | ⟨h1,rfl,h2⟩)⟩
  ·exact ⟨k1,k2, .inl ⟨h1,rfl,(),k3,h3,h2,h4⟩⟩
  ·exact ⟨k1,k2, .inr ⟨h1,rfl,h2⟩⟩
 ·rintro e W2 ⟨hv,I,cur,g,hgw,hcu,hcr⟩;refine ⟨hv, .inr ⟨.exit id,I.hl,wpIn_exit ?_⟩⟩;have hp:∀ j lo,j≠w.heap.size+1→(W2.putObj (w.heap.size+1) lo).heap[j]? = W2.heap[j]?:=fun j lo hj=>World.putObj_heap_other hj;refine hQ _ cur g hgw I.os I.tape I.output (by simp only [World.putObj_size];have:=I.size.2;omega) (fun j hj hne=>(hp j _ (by omega)).trans (I.block j hj hne)) ((hp _ _ (by omega)).trans I.hD) ((hp o _ (by omega)).trans hcu) (hcr.mono fun b x hb hx hxc=>⟨hb,(hp b _ fun e=>by rw [e,I.hl] at hx;cases hx;cases hxc).trans hx⟩)
end
end Go.Sy
