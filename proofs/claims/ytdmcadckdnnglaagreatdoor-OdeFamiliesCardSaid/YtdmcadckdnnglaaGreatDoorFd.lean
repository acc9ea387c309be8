/- Legendre's and Hermite's polynomials. OdeFamilies.
-/
import Derived.Test.YtdmcadckdnnglaaGreatDoorFc
import Derived.Test.YtdmcadckdnnglaaGreatDoorYa
set_option linter.unusedVariables false
set_option linter.unusedSimpArgs false
namespace Go.Sy
open Go Go.Proofs Tryz Ord
theorem mI {p:List Rat} (h:pU p=true) {S:Nat} (hS:S+1=2^64):p.length≤32∧∀ a∈p,Bd 4096 S a:=by
 unfold pU at h;rw [Bool.and_eq_true,decide_eq_true_iff,List.all_eq_true] at h;refine ⟨h.1,fun a ha=>?_⟩;have:=h.2 a ha;rw [Bool.and_eq_true,decide_eq_true_iff,decide_eq_true_iff] at this;exact ⟨this.1,Nat.le_trans (by omega) (Nat.le_mul_of_pos_right _ a.den_pos)⟩
theorem KZ (one:List Rat) (nx:Nat→List Rat→List Rat→List Rat) (j:Nat):(dD one nx (j+1)).2=nx (j+1) (dD one nx j).2 (dD one nx j).1:=rfl
theorem Uc (j:Nat) (hj:j<10):aJ prog 220 ([.one (.int .i64 ((j+1:Nat):Int)), .one (sQ (dD [0,1] yC j).2), .one (sQ (dD [0,1] yC j).1)]++([]:List aF).map .one) (.ret [.one (sQ (dD [0,1] yC (j+1)).2)]):=by
 have hf:=GV j hj;rw [KZ];generalize (dD [0,1] yC j).2=p at *;generalize (dD [0,1] yC j).1=q at *;obtain ⟨S,hS⟩:∃ S:Nat,S+1=2^64:=⟨2^64-1,by decide⟩
 obtain ⟨l1,b1⟩:=mI hf.1 hS;obtain ⟨l2,b2⟩:=mI hf.2 hS;exact AL (j+1) p q 4096 S (by omega) (by omega) (by omega) (by omega) b2 b1 l2 l1
theorem Ss (j:Nat) (hj:j<10):aJ prog 223 ([.one (.int .i64 ((j+1:Nat):Int)), .one (sQ (dD fU pZ j).2), .one (sQ (dD fU pZ j).1)]++([.bM [sQ fU]]:List aF).map .one) (.ret [.one (sQ (dD fU pZ (j+1)).2)]):=by
 obtain ⟨h1,h2⟩:=GZ j hj;obtain ⟨S,hS⟩:∃ S:Nat,S+1=2^64:=⟨2^64-1,by decide⟩
 obtain ⟨l1,b1⟩:=mI h1 hS;obtain ⟨l2,b2⟩:=mI h2 hS;rw [show (dD fU pZ (j+1)).2=pZ (j+1) (dD fU pZ j).2 (dD fU pZ j).1 from rfl];exact AE (j+1) (dD fU pZ j).2 (dD fU pZ j).1 4096 S (by omega) (by omega) (by omega) (by omega) b2 b1 l2 l1
theorem DV {q:Nat} {one:List Rat} {nx:Nat→List Rat→List Rat→List Rat} {F:FuncId} {caps:List aF} {k:Nat} (hk:k≤40)
  (hd:∀ j,j<k→aJ prog F ([.one (.int .i64 ((j+1:Nat):Int)), .one (sQ (dD one nx j).2), .one (sQ (dD one nx j).1)]++caps.map .one) (.ret [.one (sQ (dD one nx (j+1)).2)]))
  (hq:∀ M n0 W v,Mo M n0 W v→∃ b u f,v = .map (some b)∧(Instr.lookup 206 (.map (some b)) (.int .u8 q) true).run prog W = .ok (.tuple #[.agg #[u,f], .bool true]) W∧aL M W [sQ one, .dK F caps] [u,f]) :
  aJ prog 54 [.one (.int .u8 q), .one (.int .i64 k)] (.ret [.one (sQ (dD one nx k).1), .one (.int .i64 0)]):=by
 refine ⟨bG (by kernel_rfl),fun M w vs hM hv=>?_⟩
 match vs,hv with
 | [kv,nv],hv=>
   have h1:kv = .int .u8 q:=hv.1.1;have h2:nv = .int .i64 k:=hv.2.1.1;subst h1 h2;refine (Hu M w hM q one nx F caps k hk hd (hq M w.heap.size)).mono ?_;rintro e w' ⟨hb,v,rfl,hr⟩;exact ⟨hb,[v, .int .i64 0],rfl,hr,⟨rfl,rfl⟩,trivial⟩
 | [],hv=>exact hv.elim
 | [_],hv=>exact hv.2.elim
 | _::_::_::_,hv=>exact hv.2.2.elim
theorem ET (k:Nat) (hk:k≤9):aJ prog 54 [.one (.int .u8 ((3:Nat):Int)), .one (.int .i64 k)] (.ret [.one (sQ (dD [0,1] yC k).1), .one (.int .i64 0)]):=
 DV (by omega) (fun j hj=>Uc j (by omega)) fun M n0 W v h=>(BK h).1
theorem Ho (k:Nat) (hk:k≤9):aJ prog 54 [.one (.int .u8 ((5:Nat):Int)), .one (.int .i64 k)] (.ret [.one (sQ (dD fU pZ k).1), .one (.int .i64 0)]):=
 DV (by omega) (fun j hj=>Ss j (by omega)) fun M n0 W v h=>(BK h).2
def nH (kk k:Nat):bK:=⟨[],0,⟨0,0,0⟩,[],kk,k⟩
theorem Wb:Up []:=⟨by decide,fun l hl=>(List.not_mem_nil hl).elim⟩
theorem Nk {kk k:Nat} (h1:1≤kk) (h8:kk≤8) (hk:k≤8):aJ prog 53 [.one (.int .u8 kk), .one (.int .i64 k)] (.ret [fT (kE kk k) 0 (kY kk)]):=by
 have h:=zR kk k (by omega) (by omega) (by omega);have e:gC kk k=(kE kk k,kY kk,0):=by unfold gC;rw [if_neg (by omega),if_neg (by omega)]
 rw [e] at h;exact h
theorem Nx {kk k n:Nat} (h1:1≤kk) (h8:kk≤8) (hk:k≤8) (hn:n≤30):aJ prog 26 [fT (kE kk k) 0 (kY kk), .one (.int .i64 n)] (.ret [.one (sQ (kQ (kE kk k) 0 (kY kk) n).1), .one (.int .i64 (kQ (kE kk k) 0 (kY kk) n).2)]):=by
 have z1:(-9223372036854775808:Int)≤0:=by decide
 have z2:(0:Int)<9223372036854775808:=by decide
 have hin:(nH kk k).In:=⟨Wb,z1,z2,⟨z1,z2,z1,z2,(by show 0<256;decide)⟩,(by show 0<140737488355328;decide),fun x hx=>(List.not_mem_nil hx).elim,(by show kk<256;omega),(by show -9223372036854775808≤(k:Int);omega),(by show (k:Int)<9223372036854775808;omega)⟩
 have hs:(nH kk k).small=true:=by unfold bK.small;rw [decide_eq_true_iff];exact ⟨fun x hx=>(List.not_mem_nil hx).elim,(by show xP []=true;decide),(by show cF.short ⟨0,0,0⟩=true;decide),Nat.zero_le _⟩
 have hC:=EY hin hs;obtain ⟨B,h64,hB,hR⟩:=TE
 have h:=nG (nH kk k).E (nH kk k).X (nH kk k).Y n _ _ _ _ _ B (bN 30) 30 hC.e1 hC.xf (by have:=hC.yl;omega) (by omega) (by omega) (fun _=>hC.room hB (hR _ hC.xb.d).1) (fun _ p hp=>by have:=(hC.Uh p hp).1;omega)
  (fun hok _ _=>⟨by
   obtain ⟨h2,h5,hyl,hld,_⟩:=qQ hok;have hm:=hC.Uh;obtain ⟨p,hp,hp0⟩:=EP hld (by omega);exact HG (D:=dX (nH kk k).X) (S:=sM) (E:=cX 999) (T:=999) (L:=101) ⟨RE _,oY _,Pb,by omega,by omega,hm,(hm p (List.mem_of_getElem? hp)).2 _ (List.mem_of_getElem? hp0),hld,hC.yb,by rw [pJ,List.length_map];omega⟩ (by omega) (by omega) (Re hC.xb (by omega) _ (by omega)),by omega,by omega,by have:=(qQ hok).2.1;omega⟩) (by decide) (by decide)
 have e1:(nH kk k).kk=kk:=by show (kk-1)%8+1=kk;omega
 have e2:(nH kk k).nn=k:=by unfold bK.nn;rw [if_neg];· rfl
                            ·show ¬ ((k:Int)<0∨8<(k:Int));omega
 have hkk:0<(nH kk k).kind:=h1;rw [show (nH kk k).E=kE kk k by rw [bK.E,if_pos hkk,e1,e2],show (nH kk k).X=0 by rw [bK.X,if_pos hkk],show (nH kk k).Y=kY kk by rw [bK.Y,if_pos hkk,e1]] at h;exact h
open Go Go.Proofs Go.RowKit Tryz Ord
attribute [local go_sem] Oper.semAt_some
def Am:Tr:=.ret [(W 3 0)]
def AD:Tr:=.need (.prim [(W 2 0),(WK (2))] none) (.binOp .mul 3 (.tmp 14) (.const (I3 (2))) 3) 3 false Am
def AJ:Tr:=.need (.prim [(W 1 0)] none) (.convert 5 3 (.tmp 13)) 3 false AD
def Al:Tr:=.need (.prim [(W 0 0),(.one (.c (.k (.int .u8 (5)))))] none) (.binOp .rem 5 (.tmp 12) (.const (.int .u8 (5))) 5) 5 false AJ
theorem EC:nN prog 89 (fun _=>none) (eU [] (lJ f7)) [(0, .v none)] ([3].map ResultVar.tmp) (some 1) false=Al:=by kernel_rfl
def Ao:Tr:=.fail 1011
def Aa:Tr:=.fail 1011
def wF:Tr:=.fail 1011
def vZ:Tr:=.fail 1011
def xE:Tr:=.fail 1011
def yU:Tr:=.back 0 [(.w (W 30 0))]
def yL:Tr:=.need (.prim [(W 16 0),(WK (1))] none) (.binOp .add 3 (.tmp 65) (.const (I3 (1))) 3) 3 false yU
def xO:Tr:=.split (.u 29 0) xE yL
def yE:Tr:=.need (.prim [(W 28 0),(WK (0))] none) (.binOp .neq 3 (.tmp 85) (.const (I3 (0))) 3) 4 false xO
def yY:Tr:=.need (.call 38 [(.agg [(U 27 0),(U 27 1),(U 27 2)]),(.agg [(U 22 0),(U 22 1),(U 22 2)])] [none]) (.call ⟨.value (.func 38),#[(.tmp 83),(.tmp 84)],#[39,39]⟩) 3 true yE
def xJ:Tr:=.need (.call 36 [(.agg [(U 24 0),(U 24 1),(U 24 2)]),(.agg [(U 26 0),(U 26 1),(U 26 2)])] [(some 3)]) (.call ⟨.value (.func 36),#[(.tmp 79),(.tmp 82)],#[39,39]⟩) 39 false yY
def zC:Tr:=.need (.prim [(W 25 0)] (some 3)) (.load 39 (.tmp 81)) 39 false xJ
def wA:Tr:=.need (.prim [(W 3 0),(WK (0))] none) (.indexAddr 72 (.tmp 80) (.const (I3 (0)))) 0 false zC
def zS:Tr:=.need (.prim [(W 23 0)] (some 3)) (.load 39 (.tmp 78)) 39 false wA
def vQ:Tr:=.need (.prim [(W 1 0),(W 16 0)] none) (.indexAddr 40 (.tmp 76) (.tmp 77)) 0 false zS
def xR:Tr:=.need (.prim [(W 21 0)] (some 3)) (.load 39 (.tmp 74)) 39 false vQ
def yA:Tr:=.need (.prim [(W 3 0),(W 16 0)] none) (.indexAddr 72 (.tmp 72) (.tmp 73)) 0 false xR
def wG:Tr:=.fail 1011
def vS:Tr:=.back 0 [(.w (W 28 0))]
def zB:Tr:=.need (.prim [(W 16 0),(WK (1))] none) (.binOp .add 3 (.tmp 65) (.const (I3 (1))) 3) 3 false vS
def zV:Tr:=.split (.u 27 0) wG zB
def zJ:Tr:=.need (.prim [(W 26 0),(WK (0))] none) (.binOp .neq 3 (.tmp 85) (.const (I3 (0))) 3) 4 false zV
def yP:Tr:=.need (.call 38 [(.agg [(U 25 0),(U 25 1),(U 25 2)]),(.agg [(.c (.k (.slice none 0 0))),(.c (.k (.bool false))),(.c (.k (.slice none 0 0)))])] [none]) (.call ⟨.value (.func 38),#[(.tmp 83),(.tmp 84)],#[39,39]⟩) 3 true zJ
def xT:Tr:=.need (.call 36 [(.agg [(U 22 0),(U 22 1),(U 22 2)]),(.agg [(U 24 0),(U 24 1),(U 24 2)])] [(some 3)]) (.call ⟨.value (.func 36),#[(.tmp 79),(.tmp 82)],#[39,39]⟩) 39 false yP
def xY:Tr:=.need (.prim [(W 23 0)] (some 3)) (.load 39 (.tmp 81)) 39 false xT
def xF:Tr:=.need (.prim [(W 3 0),(WK (0))] none) (.indexAddr 72 (.tmp 80) (.const (I3 (0)))) 0 false xY
def wX:Tr:=.need (.prim [(W 21 0)] (some 3)) (.load 39 (.tmp 78)) 39 false xF
def zD:Tr:=.need (.prim [(W 1 0),(W 16 0)] none) (.indexAddr 40 (.tmp 76) (.tmp 77)) 0 false wX
def yM:Tr:=.split (.u 20 0) yA zD
def vY:Tr:=.need (.prim [(W 16 0),(W 19 0)] none) (.binOp .lss 3 (.tmp 68) (.tmp 70) 3) 4 false yM
def wT:Tr:=.need (.prim [(W 3 0)] none) (.call ⟨.builtin .len,#[(.tmp 69)],#[72]⟩) 3 false vY
def wI:Tr:=.ret [(W 0 0),(W 5 0),(W 6 0),(W 7 0)]
def yN:Tr:=.split (.u 18 0) wT wI
def xH:Tr:=.need (.prim [(W 16 0),(W 17 0)] none) (.binOp .lss 3 (.tmp 61) (.tmp 63) 3) 4 false yN
def wW:Tr:=.need (.prim [(W 1 0)] none) (.call ⟨.builtin .len,#[(.tmp 62)],#[40]⟩) 3 false xH
def xA:Tr:=.loop 0 [(.w (WK (0)))] wW
def yD:Tr:=.split (.u 15 0) vZ xA
def vV:Tr:=.need (.prim [(W 13 0),(W 14 0)] none) (.binOp .neq 3 (.tmp 56) (.tmp 58) 3) 4 false yD
def yW:Tr:=.need (.prim [(W 0 0),(WK (1))] none) (.binOp .add 3 (.tmp 57) (.const (I3 (1))) 3) 3 false vV
def zF:Tr:=.need (.prim [(W 3 0)] none) (.call ⟨.builtin .len,#[(.tmp 55)],#[72]⟩) 3 false yW
def AK:Tr:=.split (.u 12 0) wF zF
def Ak:Tr:=.need (.prim [(W 10 0),(W 11 0)] none) (.binOp .neq 3 (.tmp 49) (.tmp 51) 3) 4 false AK
def Ah:Tr:=.need (.prim [(W 0 0),(WK (4))] none) (.binOp .add 3 (.tmp 50) (.const (I3 (4))) 3) 3 false Ak
def zZ:Tr:=.need (.prim [(W 1 0)] none) (.call ⟨.builtin .len,#[(.tmp 48)],#[40]⟩) 3 false Ah
def AF:Tr:=.split (.u 9 0) Aa zZ
def Ai:Tr:=.need (.prim [(W 4 0),(WK (0))] none) (.binOp .neq 55 (.tmp 44) (.const (I3 (0))) 55) 4 false AF
def Au:Tr:=.split (.u 8 0) Ao Ai
def Ax:Tr:=.need (.prim [(W 2 0),(WK (0))] none) (.binOp .neq 55 (.tmp 41) (.const (I3 (0))) 55) 4 false Au
theorem DR:nN prog 89 (fun _=>none) (eU [1,1,0,1,0,0,1,1,0,0,1,1,1] (lJ f7)) [(3, .v none),(6, .v none),(7, .v none),(8, .v none),(9, .v none),(18, .v none),(19, .v none),(20, .v none)] ([3,18,19,20].map ResultVar.tmp) none false=Ax:=by kernel_rfl
theorem Gp (t:Array Value) (h:t.size=89):t = #[t.getD 0 Go.undef,t.getD 1 Go.undef,t.getD 2 Go.undef,t.getD 3 Go.undef,t.getD 4 Go.undef,t.getD 5 Go.undef,t.getD 6 Go.undef,t.getD 7 Go.undef,t.getD 8 Go.undef,t.getD 9 Go.undef,t.getD 10 Go.undef,t.getD 11 Go.undef,t.getD 12 Go.undef,t.getD 13 Go.undef,t.getD 14 Go.undef,t.getD 15 Go.undef,t.getD 16 Go.undef,t.getD 17 Go.undef,t.getD 18 Go.undef,t.getD 19 Go.undef,t.getD 20 Go.undef,t.getD 21 Go.undef,t.getD 22 Go.undef,t.getD 23 Go.undef,t.getD 24 Go.undef,t.getD 25 Go.undef,t.getD 26 Go.undef,t.getD 27 Go.undef,t.getD 28 Go.undef,t.getD 29 Go.undef,t.getD 30 Go.undef,t.getD 31 Go.undef,t.getD 32 Go.undef,t.getD 33 Go.undef,t.getD 34 Go.undef,t.getD 35 Go.undef,t.getD 36 Go.undef,t.getD 37 Go.undef,t.getD 38 Go.undef,t.getD 39 Go.undef,t.getD 40 Go.undef,t.getD 41 Go.undef,t.getD 42 Go.undef,t.getD 43 Go.undef,t.getD 44 Go.undef,t.getD 45 Go.undef,t.getD 46 Go.undef,t.getD 47 Go.undef,t.getD 48 Go.undef,t.getD 49 Go.undef,t.getD 50 Go.undef,t.getD 51 Go.undef,t.getD 52 Go.undef,t.getD 53 Go.undef,t.getD 54 Go.undef,t.getD 55 Go.undef,t.getD 56 Go.undef,t.getD 57 Go.undef,t.getD 58 Go.undef,t.getD 59 Go.undef,t.getD 60 Go.undef,t.getD 61 Go.undef,t.getD 62 Go.undef,t.getD 63 Go.undef,t.getD 64 Go.undef,t.getD 65 Go.undef,t.getD 66 Go.undef,t.getD 67 Go.undef,t.getD 68 Go.undef,t.getD 69 Go.undef,t.getD 70 Go.undef,t.getD 71 Go.undef,t.getD 72 Go.undef,t.getD 73 Go.undef,t.getD 74 Go.undef,t.getD 75 Go.undef,t.getD 76 Go.undef,t.getD 77 Go.undef,t.getD 78 Go.undef,t.getD 79 Go.undef,t.getD 80 Go.undef,t.getD 81 Go.undef,t.getD 82 Go.undef,t.getD 83 Go.undef,t.getD 84 Go.undef,t.getD 85 Go.undef,t.getD 86 Go.undef,t.getD 87 Go.undef,t.getD 88 Go.undef]:=(oA t 89 h).trans rfl
theorem AP (a:Rat):AI a a=0:=by
 unfold AI;rw [if_neg (by grind),if_neg (by grind)]
theorem OG (n:Nat) (hn:n<256):vc prog (fun o=>gN o (.ret [.one (.int .i64 ((2*(n%5):Nat):Int))])) (nN prog 89 (fun _=>none) (eU [] (lJ f7)) [(0, .v none)] ([3].map ResultVar.tmp) (some 1) false) ([.v (.one (.int .u8 n))].map In.env) []:=by
 rw [EC];dsimp only [List.map,In.env,aA,aB];refine vn (rF (by omega) (by omega)) rfl ?_;dsimp only [aA,aB];refine vn (oC ⟨_,TB⟩ Wg (by omega) (by omega)) rfl ?_;dsimp only [aA,aB];refine vn (mN (by omega) (by omega)) rfl ?_;dsimp only [aA,aB];rw [show ((2*(n%5):Nat):Int)=(n:Int)%5*2 by omega];exact aP rfl
theorem Km (k:Nat) (hk:k≤8) (a p:List Rat) (v18 v19 v20:Value) (o18:v18.oneCell'=true) (o19:v19.oneCell'=true) (o20:v20.oneCell'=true) (hal:a.length=k+4) (hpl:p.length=k+1) (hall:∀ i,i<k+4→a.getD i 0*p.getD 0 0=p.getD i 0) (A:Nat) (ha:∀ x∈a,Fit A x) (hp:∀ x∈p,Fit A x) (hA1:1≤A) (hA:A≤1073741824):vc prog (fun o=>gN o (.ret [.one (.int .i64 k), .one (.exact v18), .one (.exact v19), .one (.exact v20)])) (nN prog 89 (fun _=>none) (eU [1,1,0,1,0,0,1,1,0,0,1,1,1] (lJ f7)) [(3, .v none),(6, .v none),(7, .v none),(8, .v none),(9, .v none),(18, .v none),(19, .v none),(20, .v none)] ([3,18,19,20].map ResultVar.tmp) none false) ([.v (.one (.int .i64 k)), .v (.one (sQ a)), .v (.one (.int .i64 0)), .v (.one (sQ p)), .v (.one (.int .i64 0)), .v (.one (.exact v18)), .v (.one (.exact v19)), .v (.one (.exact v20))].map In.env) []:=by
 rw [DR];dsimp only [List.map,In.env,aA,aB];refine vn kX rfl ?_;dsimp only [aA,aB];refine zW false rfl (fun h=>by cases h) (fun _=>?_);refine vn kX rfl ?_;dsimp only [aA,aB];refine zW false rfl (fun h=>by cases h) (fun _=>?_);refine vn (aQ xI (List.length_map _)) rfl ?_;dsimp only [aA,aB];refine vn (aG (by omega) (by omega)) rfl ?_;dsimp only [aA,aB];refine vn kX rfl ?_;dsimp only [aA,aB];rw [decide_eq_false (show ¬ (a.length:Int)≠(k:Int)+4 by omega)];refine zW false rfl (fun h=>by cases h) (fun _=>?_);refine vn (aQ eE (List.length_map _)) rfl ?_;dsimp only [aA,aB];refine vn (aG (by omega) (by omega)) rfl ?_;dsimp only [aA,aB];refine vn kX rfl ?_;dsimp only [aA,aB];rw [decide_eq_false (show ¬ (p.length:Int)≠(k:Int)+1 by omega)];refine zW false rfl (fun h=>by cases h) (fun _=>?_);refine cJ {i:Nat // i≤k+4} (fun g=>[.one (.int .i64 g.1)]) (fun g=>k+4-g.1) ⟨0,Nat.zero_le _⟩ aN.rfl (fun _=>rfl) ?_;rintro ⟨i,hi⟩;dsimp only [aA,aB] at hi ⊢;refine vn (aQ xI (List.length_map _)) rfl ?_;dsimp only [aA,aB];refine vn bX rfl ?_;dsimp only [aA,aB];refine vs _ rfl (fun h19=>?_) (fun h19=>?_)
 ·refine vn (aQ eE (List.length_map _)) rfl ?_;dsimp only [aA,aB];refine vn bX rfl ?_;dsimp only [aA,aB];refine vs _ rfl (fun h22=>?_) (fun h22=>?_)
  ·refine vn (bE eE (by omega) (Int.toNat_natCast i) (bR (l:=p) (by omega))) rfl ?_;dsimp only [aA,aB];refine vn (dQ nP (by decide) (by simp) (.inl rfl)) rfl ?_;dsimp only [aA,aB];refine vn (bE xI (by omega) (Int.toNat_natCast i) (bR (l:=a) (by omega))) rfl ?_;dsimp only [aA,aB];refine vn (dQ nP (by decide) (by simp) (.inl rfl)) rfl ?_;dsimp only [aA,aB];refine vn (bE eE (by omega) (show (0:Int).toNat=0 from rfl) (bR (l:=p) (by omega))) rfl ?_;dsimp only [aA,aB];refine vn (dQ nP (by decide) (by simp) (.inl rfl)) rfl ?_;dsimp only [aA,aB];have fa:Fit A (a.getD i 0):=dP hA1 ha i;have f0:Fit A (p.getD 0 0):=dP hA1 hp 0;refine aC (eW (a.getD i 0) (p.getD 0 0) A A fa f0 (by omega)) rfl ?_;dsimp only [aA,aB];have fi:Fit A (p.getD i 0):=dP hA1 hp i;refine aC (CF (a.getD i 0*p.getD 0 0) (p.getD i 0) (A+A) A (fa.mul f0) fi (by omega)) rfl ?_;rw [hall i (by omega),AP];dsimp only [aA,aB];refine vn kX rfl ?_;dsimp only [aA,aB];refine zW false rfl (fun h=>by cases h) (fun _=>?_);refine vn (aG (by omega) (by omega)) rfl ?_;dsimp only [aA,aB];exact aV rfl ⟨⟨i+1,by omega⟩,aN.rfl,by show k+4-(i+1)<k+4-i;omega⟩
  refine vn (bE xI (by omega) (Int.toNat_natCast i) (bR (l:=a) (by omega))) rfl ?_;dsimp only [aA,aB];refine vn (dQ nP (by decide) (by simp) (.inl rfl)) rfl ?_;dsimp only [aA,aB];refine vn (bE eE (by omega) (show (0:Int).toNat=0 from rfl) (bR (l:=p) (by omega))) rfl ?_;dsimp only [aA,aB];refine vn (dQ nP (by decide) (by simp) (.inl rfl)) rfl ?_;dsimp only [aA,aB];have fa:Fit A (a.getD i 0):=dP hA1 ha i;have f0:Fit A (p.getD 0 0):=dP hA1 hp 0;refine aC (eW (a.getD i 0) (p.getD 0 0) A A fa f0 (by omega)) rfl ?_;dsimp only [aA,aB];have hz:p.getD i 0=0:=by rw [List.getD_eq_getElem?_getD,List.getElem?_eq_none (by omega)];rfl
  refine vM (show aN _ [qT (a.getD i 0*p.getD 0 0),qT 0] from ⟨aH.Sub.same,gW,trivial⟩) (CF (a.getD i 0*p.getD 0 0) 0 (A+A) A (fa.mul f0) (Fit.zero hA1) (by omega)) rfl ?_;rw [hall i (by omega),hz,AP];dsimp only [aA,aB];refine vn kX rfl ?_;dsimp only [aA,aB];refine zW false rfl (fun h=>by cases h) (fun _=>?_);refine vn (aG (by omega) (by omega)) rfl ?_;dsimp only [aA,aB];exact aV rfl ⟨⟨i+1,by omega⟩,aN.rfl,by show k+4-(i+1)<k+4-i;omega⟩
 exact aP rfl
theorem vW {M:Nat→Prop} {W:World} (hM:cM M W) {kk k:Nat} {z:Int} (hz:z=(kk:Int)) (h1:1≤kk) (h8:kk≤8) (hk:k≤8):Calls prog 53 #[.int .u8 z, .int .i64 (k:Int)] W fun e w'=>Below W.heap.size W w'∧∃ u0 u1 u2 u3 u4,e = .returned (.agg #[u0,u1,u2,u3,u4])∧aL M w' (fC (kE kk k) 0 (kY kk)) [u0,u1,u2,u3,u4]:=by
 subst hz;refine ((Nk h1 h8 hk).2 M W [.int .u8 (kk:Int), .int .i64 (k:Int)] hM ⟨⟨rfl,rfl⟩,⟨rfl,rfl⟩,trivial⟩).mono ?_;rintro e w' ⟨hb,vs,rfl,hvs⟩
 match vs,hvs with
 | [v],hvs=>
   obtain ⟨us,e1,hus⟩:=hvs.1;subst e1;obtain ⟨u0,u1,u2,u3,u4,rfl⟩:=Ti hus;exact ⟨hb,u0,u1,u2,u3,u4,rfl,hus⟩
 | [],hvs=>exact hvs.elim
 | _::_::_,hvs=>exact hvs.2.elim
theorem Kt {M:Nat→Prop} {w:World} {t1 t2:aH} {vs:List Value} (h:bV M w [t1,t2] vs):∃ v1 v2,vs = [v1,v2]∧t1.rep M w v1∧t2.rep M w v2:=by
 match vs,h with
 | [v1,v2],h=>exact ⟨v1,v2,rfl,h.1,h.2.1⟩
 | [],h=>exact h.elim
 | [_],h=>exact h.2.elim
 | _::_::_::_,h=>exact h.2.2.elim
theorem BA {M:Nat→Prop} {W:World} (hM:cM M W) {kk k:Nat} {a:List Rat} (h1:1≤kk) (h8:kk≤8) (hk:k≤8) (hc:kQ (kE kk k) 0 (kY kk) ((k:Int)+4)=(a,0)) {u0 u1 u2 u3 u4:Value} (hu:aL M W (fC (kE kk k) 0 (kY kk)) [u0,u1,u2,u3,u4]):Calls prog 26 #[.agg #[u0,u1,u2,u3,u4], .int .i64 ((k:Int)+4)] W fun e w'=>Below W.heap.size W w'∧∃ v,e = .returned (.tuple #[v, .int .i64 0])∧(sQ a).rep M w' v:=by
 have hd:=Nx (kk:=kk) (k:=k) (n:=k+4) h1 h8 hk (by omega);rw [show (((k+4:Nat)):Int)=(k:Int)+4 by omega,hc] at hd;refine (hd.2 M W [.agg #[u0,u1,u2,u3,u4], .int .i64 ((k:Int)+4)] hM ⟨⟨_,rfl,hu⟩,⟨rfl,rfl⟩,trivial⟩).mono ?_;rintro e w' ⟨hb,vs,rfl,hvs⟩;obtain ⟨v1,v2,rfl,r1,r2⟩:=Kt hvs;obtain rfl:v2 = .int .i64 0:=r2.1;exact ⟨hb,v1,rfl,r1⟩
theorem DS {M:Nat→Prop} {W:World} (hM:cM M W) {q k:Nat} {z:Int} (hz:z=(q:Int)) {p:List Rat} (hd:aJ prog 54 [.one (.int .u8 (q:Int)), .one (.int .i64 k)] (.ret [.one (sQ p), .one (.int .i64 0)])):Calls prog 54 #[.int .u8 z, .int .i64 (k:Int)] W fun e w'=>Below W.heap.size W w'∧∃ v,e = .returned (.tuple #[v, .int .i64 0])∧(sQ p).rep M w' v:=by
 subst hz;refine (hd.2 M W [.int .u8 (q:Int), .int .i64 (k:Int)] hM ⟨⟨rfl,rfl⟩,⟨rfl,rfl⟩,trivial⟩).mono ?_;rintro e w' ⟨hb,vs,rfl,hvs⟩;obtain ⟨v1,v2,rfl,r1,r2⟩:=Kt hvs;obtain rfl:v2 = .int .i64 0:=r2.1;exact ⟨hb,v1,rfl,r1⟩
theorem Fy {M:Nat→Prop} {W:World} (hM:cM M W):Calls prog 16 #[] W fun e w'=>Below W.heap.size W w'∧e = .returned (.bool true):=by
 refine (KT.2 M W [] hM trivial).mono ?_;rintro e w' ⟨hb,vs,rfl,hvs⟩;obtain ⟨v,e1,hv⟩:=KS hvs;rw [e1,hv.1];exact ⟨hb,rfl⟩
def vI (kk k:Nat):Bool:=(kQ (kE kk k) 0 (kY kk) ((k:Int)+4)).1.all fun a=>decide (a.num.natAbs<2^64∧a.den<2^64)
theorem SI:∀ j,j<5→vI 7 (2*j)=true:=by decide +kernel
theorem Sl:∀ j,j<5→vI 8 (2*j)=true:=by decide +kernel
theorem BG {kk j:Nat} {p:List Rat} (h:Gz kk (2*j) p=true) (hf:vI kk (2*j)=true) (hp:pU p=true):∃ a,kQ (kE kk ((2*j:Nat):Int)) 0 (kY kk) (((2*j:Nat):Int)+4)=(a,0)∧a.length=2*j+4∧p.length=2*j+1∧(∀ i,i<2*j+4→a.getD i 0*p.getD 0 0=p.getD i 0)∧(∀ x∈a,Fit 200 x)∧∀ x∈p,Fit 200 x:=by
 unfold Gz at h;unfold vI at hf;generalize kQ (kE kk ((2*j:Nat):Int)) 0 (kY kk) (((2*j:Nat):Int)+4)=c at *;obtain ⟨a,er⟩:=c;simp only [Bool.and_eq_true,decide_eq_true_eq,List.all_eq_true,List.mem_range] at h;rw [List.all_eq_true] at hf;obtain ⟨⟨⟨h1,h2⟩,h3⟩,h4⟩:=h;dsimp only at h1 h2 h3 h4 hf;subst h1;obtain ⟨S,hS⟩:∃ S:Nat,S+1=2^64:=⟨2^64-1,by decide⟩
 refine ⟨a,rfl,h2,h3,h4,fun x hx=>?_,fun x hx=>?_⟩
 ·have:=of_decide_eq_true (hf x hx);exact ⟨Nat.lt_of_lt_of_le this.1 (Nat.pow_le_pow_right (by omega) (by omega)),Nat.lt_of_lt_of_le this.2 (Nat.pow_le_pow_right (by omega) (by omega))⟩
 ·exact wP ((mI hp hS).2 x hx) (by decide) (by decide) (Nat.lt_of_lt_of_le (show S<2^64 by omega) (Nat.pow_le_pow_right (by omega) (by omega)))
set_option maxRecDepth 100000 in
set_option maxHeartbeats 1000000 in
theorem Ra (M:Nat→Prop) (w:World) (hM:cM M w) (n:Nat) (hn:n<256):Calls prog 7 #[.int .u8 n] w fun e w'=>Below w.heap.size w w'∧e = .returned (.bool true):=by
 refine calls_of_wp func7 rfl ?_;simp only [ntmps7,List.size_toArray,List.length_cons,List.length_nil,Nat.reduceAdd,Nat.reduceSub,Array.replicate_succ,Array.replicate_zero,List.push_toArray,List.append_toArray,List.nil_append,List.cons_append];refine FT (n:=1) (ins:=[(0, .v none)]) (xs:=[.v (.one (.int .u8 n))]) fo ⟨rfl,trivial⟩ (OG n hn) (by kernel_rfl) hM rfl rfl ⟨⟨rfl,rfl⟩,trivial⟩ ?_ (by intro c v a' w' h;cases h);intro e a' W1 rs us hrs hex hB1 hsz hdf hrun hus;cases hrs;cases e with
 | exit id=>cases hex
 | ret=>cases hex
 | normal=>
 have huse:=iI hrun;subst huse;obtain ⟨h3,_⟩:=hus;obtain ⟨t,ds⟩:=a';have hds:ds = []:=hdf;subst hds;have hsz:t.size=89:=hsz;have h3:t.getD 3 Go.undef = .int .i64 ((2*(n%5):Nat):Int):=h3.1;have hM1:cM M W1:=⟨fun b hb=>Nat.lt_of_lt_of_le (hM.1 b hb) hB1.size,hM.2.below rfl hB1⟩
 obtain ⟨k,hk⟩:∃ k,2*(n%5)=k:=⟨_,rfl⟩
 rw [hk] at h3;have hk8:k≤8:=by omega
 show Code.wp _ (qV 1 _) _ _ _;simp only [qV];refine wp_seq_k fun K1 hK1=>?_;have H1:Nonempty (PLift _):=⟨⟨hK1⟩⟩
 clear hK1;refine wp_seq_k fun K2 hK2=>?_;have H2:Nonempty (PLift _):=⟨⟨hK2⟩⟩
 clear hK2;rw [Gp t hsz,h3]
 go_wp2
 obtain ⟨⟨hK2⟩⟩:=H2;refine hK2 _ _ (wp_block ?_);clear hK2
 refine wp_loop_ghost (fun j a' W=>∃ i t,j=2-i∧a'=⟨t,[]⟩∧i≤2∧t.size=89∧t.getD 3 Go.undef = .int .i64 (k:Int)∧t.getD 18 Go.undef = .slice (some ⟨W1.heap.size,0,none⟩) 2 2∧t.getD 19 Go.undef = .int .i64 2∧t.getD 20 Go.undef = .int .i64 (i:Int)∧W.heap[W1.heap.size]? = some (.cells #[.int .u8 7, .int .u8 3, .int .u8 8, .int .u8 5] 100 (0,0))∧Below w.heap.size w W) (2-0)
  ⟨0,_,rfl,rfl,Nat.zero_le _,rfl,rfl,rfl,rfl,rfl,heap_alloc_new W1 _,hB1.alloc hB1.size _⟩ ?_
 rintro j a' W ⟨i,t',rfl,rfl,hi,hsz',t3,t18,t19,t20,hg,hB⟩;have hMW:cM M W:=⟨fun b hb=>Nat.lt_of_lt_of_le (hM.1 b hb) hB.size,hM.2.below rfl hB⟩
 have c0:W.cell? ⟨W1.heap.size,0,none⟩=some (.int .u8 7):=aE hg rfl;have c1:W.cell? ⟨W1.heap.size,1,none⟩=some (.int .u8 3):=aE hg rfl;have c2:W.cell? ⟨W1.heap.size,2,none⟩=some (.int .u8 8):=aE hg rfl;have c3:W.cell? ⟨W1.heap.size,3,none⟩=some (.int .u8 5):=aE hg rfl;rw [Gp t' hsz',t3,t18,t19,t20];obtain rfl | rfl | rfl:i=0∨i=1∨i=2:=by omega
 ·obtain ⟨WA,hWA⟩:∃ WA,W.alloc (.cells #[.int .u8 7, .int .u8 3] 100)=WA:=⟨_,rfl⟩
  have hA:WA.heap[W.heap.size]? = some (.cells #[.int .u8 7, .int .u8 3] 100 (0,0)):=by rw [←hWA];exact heap_alloc_new W _
  have hbA:Below W.heap.size W WA:=by rw [←hWA];exact (Below.refl _ W).alloc (Nat.le_refl _) _
  have cA0:WA.cell? ⟨W.heap.size,0,none⟩=some (.int .u8 7):=aE hA rfl;have hMA:cM M WA:=⟨fun b hb=>Nat.lt_of_lt_of_le (hMW.1 b hb) hbA.size,hMW.2.below rfl hbA⟩
  obtain ⟨a,hc,hal,hpl,hall,hfa,hfp⟩:=BG (Ni (n%5) (by omega)) (SI (n%5) (by omega)) (GV (2*(n%5)) (by omega)).1;rw [hk] at hc hal hpl hall hfp;generalize hpp:(dD [0,1] yC k).1=p at *;have hfd:=ET k (by omega);rw [hpp] at hfd
  go_wp2_with (go_at_call 53;refine (vW hMA (kk:=7) rfl (by omega) (by omega) hk8).mono ?_)
  rintro e wB hbB u0 u1 u2 u3 u4 rfl hu;have hMB:cM M wB:=⟨fun b hb=>Nat.lt_of_lt_of_le (hMA.1 b hb) hbB.size,hMA.2.below rfl hbB⟩
  go_wp2_with (go_at_call 26;refine (BA hMB (by omega) (by omega) hk8 hc hu).mono ?_)
  rintro e wC ⟨hbC,va,rfl,ha⟩;have hMC:cM M wC:=⟨fun b hb=>Nat.lt_of_lt_of_le (hMB.1 b hb) hbC.size,hMB.2.below rfl hbC⟩
  have hlA:W.heap.size<WA.heap.size:=(Array.getElem?_eq_some_iff.1 hA).1;have cC1:wC.cell? ⟨W.heap.size,1,none⟩=some (.int .u8 3):=aE (((hbC.block _ (Nat.lt_of_lt_of_le hlA hbB.size)).trans (hbB.block _ hlA)).trans hA) rfl
  go_wp2_with (go_at_call 54;refine (DS hMC (q:=3) rfl hfd).mono ?_)
  rintro e wD ⟨hbD,vp,rfl,hp⟩;rename_i K5 hK5 K6 hK6;have H5:Nonempty (PLift _):=⟨⟨hK5⟩⟩
  clear hK5
  go_wp2
  obtain ⟨⟨hK5⟩⟩:=H5
  refine hK5 _ _ (CE (N:=89) (ins:=[(3, .v none),(6, .v none),(7, .v none),(8, .v none),(9, .v none),(18, .v none),(19, .v none),(20, .v none)]) (xs:=[.v (.one (.int .i64 k)), .v (.one (sQ a)), .v (.one (.int .i64 0)), .v (.one (sQ p)), .v (.one (.int .i64 0)), .v (.one (.exact (.slice (some ⟨W1.heap.size,0,none⟩) 2 2))), .v (.one (.exact (.int .i64 2))), .v (.one (.exact (.int .i64 0)))]) fo ⟨rfl,rfl,rfl,rfl,rfl,rfl,rfl,rfl,trivial⟩
   (Km k hk8 a p (.slice (some ⟨W1.heap.size,0,none⟩) 2 2) (.int .i64 2) (.int .i64 0) rfl rfl rfl hal hpl hall 200 hfa hfp (by omega) (by omega)) (by kernel_rfl) (M:=M) ⟨fun b hb=>Nat.lt_of_lt_of_le (hMC.1 b hb) hbD.size,hMC.2.below rfl hbD⟩ rfl rfl
   ⟨⟨rfl,rfl⟩,aF.mono _ (bF.below hbD) ha,⟨rfl,rfl⟩,hp,⟨rfl,rfl⟩,⟨rfl,rfl⟩,⟨rfl,rfl⟩,⟨rfl,rfl⟩,trivial⟩ ?_ (by intro c v a' w' h;cases h))
  intro e a' wE rs us hrs hex hbE hszE hdfE hrunE husE;cases hrs;cases e with
  | exit id=>cases hex
  | ret=>cases hex
  | normal=>
  have huse:=iI hrunE;subst huse;obtain ⟨q3,q18,q19,q20,_⟩:=husE;obtain ⟨tE,ds⟩:=a';have hds:ds = []:=hdfE;subst hds;have hszE:tE.size=89:=hszE;have q3:tE.getD 3 Go.undef = .int .i64 (k:Int):=q3.1;have q18:tE.getD 18 Go.undef = .slice (some ⟨W1.heap.size,0,none⟩) 2 2:=q18.1;have q19:tE.getD 19 Go.undef = .int .i64 2:=q19.1;have q20:tE.getD 20 Go.undef = .int .i64 0:=q20.1;have hall4:Below W.heap.size W wE:=((hbA.trans (hbB.mono hbA.size)).trans (hbC.mono (Nat.le_trans hbA.size hbB.size))).trans ((hbD.trans (hbE.mono hbD.size)).mono (Nat.le_trans hbA.size (Nat.le_trans hbB.size hbC.size)));have hgE:wE.heap[W1.heap.size]? = _:=(hall4.block _ (Array.getElem?_eq_some_iff.1 hg).1).trans hg;rw [Gp tE hszE,q3,q18,q19,q20];clear hK5;show Exit.inBlock 1 _ .normal _ _
  go_wp2
  exact ⟨1,by omega,1,by omega,by omega,rfl,hB.trans (hall4.mono hB.size)⟩
 ·obtain ⟨WA,hWA⟩:∃ WA,W.alloc (.cells #[.int .u8 8, .int .u8 5] 100)=WA:=⟨_,rfl⟩
  have hA:WA.heap[W.heap.size]? = some (.cells #[.int .u8 8, .int .u8 5] 100 (0,0)):=by rw [←hWA];exact heap_alloc_new W _
  have hbA:Below W.heap.size W WA:=by rw [←hWA];exact (Below.refl _ W).alloc (Nat.le_refl _) _
  have cA0:WA.cell? ⟨W.heap.size,0,none⟩=some (.int .u8 8):=aE hA rfl;have hMA:cM M WA:=⟨fun b hb=>Nat.lt_of_lt_of_le (hMW.1 b hb) hbA.size,hMW.2.below rfl hbA⟩
  obtain ⟨a,hc,hal,hpl,hall,hfa,hfp⟩:=BG (LS (n%5) (by omega)) (Sl (n%5) (by omega)) (GZ (2*(n%5)) (by omega)).1;rw [hk] at hc hal hpl hall hfp;generalize hpp:(dD fU pZ k).1=p at *;have hfd:=Ho k (by omega);rw [hpp] at hfd
  go_wp2_with (go_at_call 53;refine (vW hMA (kk:=8) rfl (by omega) (by omega) hk8).mono ?_)
  rintro e wB hbB u0 u1 u2 u3 u4 rfl hu;have hMB:cM M wB:=⟨fun b hb=>Nat.lt_of_lt_of_le (hMA.1 b hb) hbB.size,hMA.2.below rfl hbB⟩
  go_wp2_with (go_at_call 26;refine (BA hMB (by omega) (by omega) hk8 hc hu).mono ?_)
  rintro e wC ⟨hbC,va,rfl,ha⟩;have hMC:cM M wC:=⟨fun b hb=>Nat.lt_of_lt_of_le (hMB.1 b hb) hbC.size,hMB.2.below rfl hbC⟩
  have hlA:W.heap.size<WA.heap.size:=(Array.getElem?_eq_some_iff.1 hA).1;have cC1:wC.cell? ⟨W.heap.size,1,none⟩=some (.int .u8 5):=aE (((hbC.block _ (Nat.lt_of_lt_of_le hlA hbB.size)).trans (hbB.block _ hlA)).trans hA) rfl
  go_wp2_with (go_at_call 54;refine (DS hMC (q:=5) rfl hfd).mono ?_)
  rintro e wD ⟨hbD,vp,rfl,hp⟩;rename_i K5 hK5 K6 hK6;have H5:Nonempty (PLift _):=⟨⟨hK5⟩⟩
  clear hK5
  go_wp2
  obtain ⟨⟨hK5⟩⟩:=H5
  refine hK5 _ _ (CE (N:=89) (ins:=[(3, .v none),(6, .v none),(7, .v none),(8, .v none),(9, .v none),(18, .v none),(19, .v none),(20, .v none)]) (xs:=[.v (.one (.int .i64 k)), .v (.one (sQ a)), .v (.one (.int .i64 0)), .v (.one (sQ p)), .v (.one (.int .i64 0)), .v (.one (.exact (.slice (some ⟨W1.heap.size,0,none⟩) 2 2))), .v (.one (.exact (.int .i64 2))), .v (.one (.exact (.int .i64 1)))]) fo ⟨rfl,rfl,rfl,rfl,rfl,rfl,rfl,rfl,trivial⟩
   (Km k hk8 a p (.slice (some ⟨W1.heap.size,0,none⟩) 2 2) (.int .i64 2) (.int .i64 1) rfl rfl rfl hal hpl hall 200 hfa hfp (by omega) (by omega)) (by kernel_rfl) (M:=M) ⟨fun b hb=>Nat.lt_of_lt_of_le (hMC.1 b hb) hbD.size,hMC.2.below rfl hbD⟩ rfl rfl
   ⟨⟨rfl,rfl⟩,aF.mono _ (bF.below hbD) ha,⟨rfl,rfl⟩,hp,⟨rfl,rfl⟩,⟨rfl,rfl⟩,⟨rfl,rfl⟩,⟨rfl,rfl⟩,trivial⟩ ?_ (by intro c v a' w' h;cases h))
  intro e a' wE rs us hrs hex hbE hszE hdfE hrunE husE;cases hrs;cases e with
  | exit id=>cases hex
  | ret=>cases hex
  | normal=>
  have huse:=iI hrunE;subst huse;obtain ⟨q3,q18,q19,q20,_⟩:=husE;obtain ⟨tE,ds⟩:=a';have hds:ds = []:=hdfE;subst hds;have hszE:tE.size=89:=hszE;have q3:tE.getD 3 Go.undef = .int .i64 (k:Int):=q3.1;have q18:tE.getD 18 Go.undef = .slice (some ⟨W1.heap.size,0,none⟩) 2 2:=q18.1;have q19:tE.getD 19 Go.undef = .int .i64 2:=q19.1;have q20:tE.getD 20 Go.undef = .int .i64 1:=q20.1;have hall4:Below W.heap.size W wE:=((hbA.trans (hbB.mono hbA.size)).trans (hbC.mono (Nat.le_trans hbA.size hbB.size))).trans ((hbD.trans (hbE.mono hbD.size)).mono (Nat.le_trans hbA.size (Nat.le_trans hbB.size hbC.size)));have hgE:wE.heap[W1.heap.size]? = _:=(hall4.block _ (Array.getElem?_eq_some_iff.1 hg).1).trans hg;rw [Gp tE hszE,q3,q18,q19,q20];clear hK5;show Exit.inBlock 1 _ .normal _ _
  go_wp2
  exact ⟨2,by omega,by omega,rfl,hB.trans (hall4.mono hB.size)⟩
 ·go_wp2
  obtain ⟨⟨hK1⟩⟩:=H1;refine hK1 _ _ ?_;clear hK1
  go_wp2_with (go_at_call 16;refine (Fy hMW).mono ?_)
  rintro e w9 ⟨hb9,rfl⟩
  go_wp2
  simp [bodyPost,results,show f7.results = #[.tmp 2] from rfl,go_sem];exact hB.trans (hb9.mono hB.size)
theorem yT (n:Nat) (hn:n<256):aJ prog 7 [.one (.int .u8 n)] (.ret [.one (.bool true)]):=by
 refine ⟨bG (by kernel_rfl),fun M w vs hM hv=>?_⟩
 match vs,hv with
 | [v],hv=>
   have h1:v = .int .u8 n:=hv.1.1;subst h1;refine (Ra M w hM n hn).mono ?_;rintro e w' ⟨hb,rfl⟩;exact ⟨hb,[.bool true],rfl,⟨rfl,rfl⟩,trivial⟩
 | [],hv=>exact hv.elim
 | _::_::_,hv=>exact hv.2.elim
end Go.Sy
