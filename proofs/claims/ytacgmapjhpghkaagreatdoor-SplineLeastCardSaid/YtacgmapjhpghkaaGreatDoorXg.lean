/- Part. -/
import Derived.Test.YtacgmapjhpghkaaGreatDoorXf
set_option linter.all false
namespace Go.Sy
open Go Go.Proofs Tryz Ord
def MC:Tr:=.back 0 [(.w (W 22 0)),(.w (W 23 0))]
def KU:Tr:=.need (.prim [(W 14 0),(WK (1))] none) (.binOp .add 3 (.tmp 126) (.const (I3 (1))) 3) 3 false MC
def Qs:Tr:=.need (.call 64 [(W 13 0),(.one (.c (.sr 3 21)))] [none]) (.call ⟨.value (.func 64),#[(.tmp 128),(.tmp 135)],#[98,98]⟩) 98 true KU
def Qf:Tr:=.need (.lit 3 [[(.u 19 0),(.u 19 1),(.u 19 2)],[(.u 20 0),(.u 20 1),(.u 20 2)]]) (.buildSlice 98 2 #[(0,(.tmp 133)),(1,(.tmp 134))]) 98 false Qs
def QS:Tr:=.need (.call 63 [(WK (1))] [(some 3)]) (.call ⟨.value (.func 63),#[(.const (I3 (1)))],#[2]⟩) 46 true Qf
def Ot:Tr:=.need (.call 65 [(.agg [(U 18 0),(U 18 1),(U 18 2)])] [(some 3)]) (.call ⟨.value (.func 65),#[(.tmp 132)],#[46]⟩) 46 false QS
def Qk:Tr:=.need (.prim [(W 17 0)] (some 3)) (.load 46 (.tmp 131)) 46 false Ot
def OU:Tr:=.need (.prim [(W 0 0),(W 14 0)] none) (.indexAddr 28 (.tmp 129) (.tmp 130)) 0 false Qk
def KB:Tr:=.back 0 [(.w (W 28 0)),(.w (W 18 0)),(.row 27)]
def Kd:Tr:=.need (.prim [(W 17 0),(WK (1))] none) (.binOp .add 3 (.tmp 145) (.const (I3 (1))) 3) 3 false KB
def IJ:Tr:=.need (.app 1 24 (some 19) none (some 26)) (.call ⟨.builtin .append,#[(.tmp 148),(.tmp 158)],#[29,29]⟩) 29 false Kd
def LF:Tr:=.need (.lit 1 [[(.u 25 0)]]) (.buildSlice 29 1 #[(0,(.tmp 157))]) 29 false IJ
def IG:Tr:=.need (.call 66 [(W 23 0),(W 24 0)] [none]) (.call ⟨.value (.func 66),#[(.tmp 153),(.tmp 156)],#[98,98]⟩) 98 true LF
def JZ:Tr:=.need (.call 64 [(W 13 0),(W 1 0)] [none]) (.call ⟨.value (.func 64),#[(.tmp 154),(.tmp 155)],#[98,98]⟩) 98 false IG
def Kr:Tr:=.need (.prim [(W 22 0)] none) (.load 98 (.tmp 152)) 98 false JZ
def Lk:Tr:=.need (.prim [(W 2 1),(W 17 0)] none) (.indexAddr 29 (.tmp 150) (.tmp 151)) 0 false Kr
def KP:Tr:=.ret [(.one (.c (.k (.bool false))))]
def KZ:Tr:=.ret [(.one (.c (.k (.bool false))))]
def JB:Tr:=.ret [(.one (.c (.k (.bool false))))]
def Jf:Tr:=.ret [(.one (.c (.k (.bool false))))]
def Kk:Tr:=.ret [(.one (.c (.k (.bool false))))]
def KT:Tr:=.ret [(.one (.c (.k (.bool false))))]
def Mj:Tr:=.ret [(.one (.c (.k (.bool false))))]
def KS:Tr:=.ret [(W 37 0)]
def KJ:Tr:=.need (.call 14 [] [none]) (.call ⟨.value (.func 14),#[],#[]⟩) 4 true KS
def KN:Tr:=.ret [(.one (.c (.k (.bool false))))]
def LO:Tr:=.split (.u 36 0) KJ KN
def KX:Tr:=.need (.prim [(W 35 0),(WK (0))] none) (.binOp .geq 3 (.tmp 205) (.const (I3 (0))) 3) 4 false LO
def Iz:Tr:=.need (.call 67 [(.agg [(U 22 0),(U 22 1),(U 22 2)]),(.agg [(U 4 0),(U 4 1),(U 4 2)])] [none]) (.call ⟨.value (.func 67),#[(.tmp 203),(.tmp 204)],#[46,46]⟩) 3 false KX
def Je:Tr:=.ret [(.one (.c (.k (.bool false))))]
def MV:Tr:=.split (.u 34 0) Iz Je
def Jl:Tr:=.need (.prim [(W 33 0),(WK (0))] none) (.binOp .geq 3 (.tmp 199) (.const (I3 (0))) 3) 4 false MV
def IM:Tr:=.need (.call 67 [(.agg [(U 10 0),(U 10 1),(U 10 2)]),(.agg [(U 4 0),(U 4 1),(U 4 2)])] [none]) (.call ⟨.value (.func 67),#[(.tmp 197),(.tmp 198)],#[46,46]⟩) 3 false Jl
def Jj:Tr:=.ret [(.one (.c (.k (.bool false))))]
def IX:Tr:=.split (.u 32 0) IM Jj
def ML:Tr:=.need (.prim [(W 31 0),(WK (0))] none) (.binOp .geq 3 (.tmp 194) (.const (I3 (0))) 3) 4 false IX
def Ja:Tr:=.need (.call 67 [(.agg [(U 7 0),(U 7 1),(U 7 2)]),(.agg [(U 4 0),(U 4 1),(U 4 2)])] [none]) (.call ⟨.value (.func 67),#[(.tmp 192),(.tmp 193)],#[46,46]⟩) 3 false ML
def Nd:Tr:=.split (.u 30 0) Mj Ja
def MI:Tr:=.need (.prim [(W 23 0),(WK (0))] none) (.binOp .neq 54 (.tmp 189) (.const (I3 (0))) 54) 4 false Nd
def Md:Tr:=.split (.u 29 0) KT MI
def Ky:Tr:=.need (.prim [(W 11 0),(WK (0))] none) (.binOp .neq 54 (.tmp 185) (.const (I3 (0))) 54) 4 false Md
def Mh:Tr:=.split (.u 28 0) Kk Ky
def JK:Tr:=.need (.prim [(W 9 0),(WK (0))] none) (.binOp .neq 54 (.tmp 181) (.const (I3 (0))) 54) 4 false Mh
def Ld:Tr:=.split (.u 27 0) Jf JK
def Jw:Tr:=.need (.prim [(W 8 0),(WK (0))] none) (.binOp .neq 54 (.tmp 177) (.const (I3 (0))) 54) 4 false Ld
def KY:Tr:=.split (.u 26 0) JB Jw
def Ig:Tr:=.need (.prim [(W 6 0),(WK (0))] none) (.binOp .neq 54 (.tmp 173) (.const (I3 (0))) 54) 4 false KY
def IA:Tr:=.split (.u 25 0) KZ Ig
def Kt:Tr:=.need (.prim [(W 5 0),(WK (0))] none) (.binOp .neq 54 (.tmp 169) (.const (I3 (0))) 54) 4 false IA
def Ij:Tr:=.split (.u 24 0) KP Kt
def Jb:Tr:=.need (.prim [(W 3 0),(WK (0))] none) (.binOp .neq 54 (.tmp 166) (.const (I3 (0))) 54) 4 false Ij
def Jy:Tr:=.need (.call 20 [(.agg [(U 18 0),(.c (.sr 1 19))])] [(some 3),none]) (.call ⟨.value (.func 20),#[(.tmp 162)],#[31]⟩) 55 false Jb
def IY:Tr:=.split (.u 21 0) Lk Jy
def Lo:Tr:=.need (.prim [(W 17 0),(W 20 0)] none) (.binOp .lss 3 (.tmp 140) (.tmp 143) 3) 4 false IY
def Mv:Tr:=.need (.prim [(W 2 1)] none) (.call ⟨.builtin .len,#[(.tmp 142)],#[29]⟩) 3 false Lo
def Kn:Tr:=.loop 0 [(.w (WK (0))),(.w (W 2 0)), .nilrow] Mv
def OK:Tr:=.split (.u 16 0) OU Kn
def OF:Tr:=.need (.prim [(W 14 0),(W 15 0)] none) (.binOp .lss 3 (.tmp 122) (.tmp 124) 3) 4 false OK
def ON:Tr:=.need (.prim [(W 0 0)] none) (.call ⟨.builtin .len,#[(.tmp 123)],#[28]⟩) 3 false OF
def Pm:Tr:=.loop 0 [(.w (W 12 0)),(.w (WK (0)))] ON
theorem UY:bP prog 211 (fun _=>none) (aO [1,1,1,1,1,1,1,1,1,1,1,1,1] (aW f9)) [(11, .v none),(20, .v none),(22, .ref 2),(23, .v none),(24, .ref 3),(25, .v none),(27, .v none),(28, .ref 3),(29, .v none),(31, .v none),(32, .ref 3),(33, .v none),(34, .v none)] f9.results.toList none true=Pm:=by kernel_rfl
def oW (x:List Rat):Nat->List Rat
 | 0=>[1]
 | k+1=>eF (oW x k) [-(x.getD k 0),((1:Int):Rat)]
theorem FE (x:List Rat):∀ k,(oW x k).length<=k+1
 | 0=>aY _
 | k+1=>by
   have h1:=FE x k;have h2:=kD (oW x k) [-(x.getD k 0),((1:Int):Rat)];rw [List.length_cons,List.length_cons,List.length_nil] at h2;rw [oW];omega
theorem WD (x:List Rat):∀ k j,j<k->ev (oW x k) (x.getD j 0)=0
 | 0,j,h=>by omega
 | k+1,j,h=>by
   rw [oW,lQ];by_cases e:j<k
   .rw [WD x k j e];grind
   .obtain rfl:j=k:=by omega
    rw [UM,show ((1:Int):Rat)=1 from rfl];grind
theorem Wz {a:Rat} (h:Fit 40 a):∀ q ∈ [-a,((1:Int):Rat)],Fit 40 q:=fun q hq=>by
 simp only [List.mem_cons,List.not_mem_nil,or_false] at hq;rcases hq with rfl | rfl
 .exact h.neg
 .exact Fit.int (n:=1) (by omega) (by decide)
def Zb:Nat->Nat
 | 0=>1
 | k+1=>Zb k*(k+2)+127
theorem Tw {x:List Rat} (hx:∀ a∈x,Fit 40 a):∀ k,k<=90->∀ q∈oW x k,Fit (Zb k) q
 | 0,_=>fun q hq=>by rw [List.mem_singleton.1 hq];exact aJ9 (aY 1)
 | k+1,hk=>fun q hq=>by
   have hl:=FE x k;have hm:Zb k*((oW x k).length+1)<=Zb k*(k+2):=Nat.mul_le_mul_left _ (by omega);refine (jY (Tw hx k (by omega)) (Wz (aC hx k)) (by omega) q hq).mono ?_;rw [Zb,List.length_cons,List.length_cons,List.length_nil];omega
theorem ax7 (k:Nat) (h:k<=6):Zb k<=465000:=by
 match k,h with
 | 0,_ | 1,_ | 2,_ | 3,_ | 4,_ | 5,_ | 6,_=>decide
theorem Pf {x:List Rat} (hx:∀ a∈x,Fit 40 a) (k:Nat) (hk:k<=6:=by omega):(oW x k).length<=7/\∀ q∈oW x k,Fit 465000 q:=
 ⟨by have:=FE x k;omega,fun q hq=>(Tw hx k (by omega) q hq).mono (ax7 k hk)⟩
def qO (x y m f:List Rat) (i:Nat):List Rat:=iM (fZ x y m i) (eF (oW x x.length) f)
section
variable {x y m f:List Rat} (D:Ar x y)
include D
theorem an9 {j:Nat} (hj:j<x.length) (i:Nat):ev (qO x y m f i) (x.getD j 0)=ev (fZ x y m i) (x.getD j 0):=by
 rw [qO,iC,lQ,WD x _ j hj];grind
theorem ah2 (he:AM x y m) {i:Nat} (hi:i+2<x.length):ev (cM (qO x y m f i)) (x.getD (i+1) 0)=ev (cM (qO x y m f (i+1))) (x.getD (i+1) 0):=by
 rw [qO,qO,Ac,Ac,FN D.hr D.hxy hi (he i hi)]
theorem Ar.wK (hm:∀ a∈m,Fit 260000 a) (i:Nat):∀ q∈fZ x y m i,Fit 1600000 q:=by
 have fm:=fun j=>aC hm j;have fx:=(aC D.hx i).neg;have fy:=aC D.hy i;have fB:Fit 790000 (cvB x y m i):=((D.d i).sub ((D.h i).mul ((((fm i).add (fm i)).add (fm (i+1))).div tK))).mono (by omega);have fC:Fit 260005 (m.getD i 0/2):=((fm i).div fS).mono (by omega);have fD:Fit 530000 (Zd x m i):=(((fm (i+1)).sub (fm i)).div ((D.h i).mul tK)).mono (by omega);have f3:Fit 2 3:=by unfold Fit;decide
 rw [yC];refine nL ?_ ?_ ?_ (fD.mono (by omega))
 .exact (((fy.add (fB.mul fx)).add ((fC.mul fx).mul fx)).add (((fD.mul fx).mul fx).mul fx)).mono (by omega)
 .exact ((fB.add ((fS.mul fC).mul fx)).add (((f3.mul fD).mul fx).mul fx)).mono (by omega)
 .exact (fC.add ((f3.mul fD).mul fx)).mono (by omega)
theorem TA (h6:x.length<=6) (hf:∀ a∈f,Fit 40 a) (hl:f.length<=3):(eF (oW x x.length) f).length<=9/\∀ a∈eF (oW x x.length) f,Fit 3730000 a:=by
 obtain ⟨h1,h2⟩:=Pf D.hx x.length h6;have h3:=kD (oW x x.length) f;obtain ⟨F0,hF0⟩:∃ F,F=465000:=⟨_,rfl⟩
 rw [<-hF0] at h2;have hm:F0*((oW x x.length).length+1)<=F0*8:=Nat.mul_le_mul_left _ (by omega);exact ⟨by omega,fun a ha=>(jY h2 hf (by omega) a ha).mono (by omega)⟩
theorem aI0 (h6:x.length<=6) (hf:∀ a∈f,Fit 40 a) (hl:f.length<=3) (hm:∀ a∈m,Fit 260000 a) (i:Nat):(qO x y m f i).length<=9/\∀ a∈qO x y m f i,Fit 5400000 a:=by
 obtain ⟨h1,h2⟩:=TA D h6 hf hl;have h3:=EP (fZ x y m i) (eF (oW x x.length) f);have h4:=BW x y m i;exact ⟨by rw [qO];omega,fun a ha=>(Cy (by omega) (by omega) (D.wK hm i) h2 a ha).mono (by omega)⟩
end
theorem Vb {x:List Rat} {P:Nat->List Rat} (h2:2<=x.length) (h6:x.length<=6) (hx:∀ a∈x,Fit 40 a) (h:∀ i,(P i).length<=9/\∀ a∈P i,Fit 5400000 a):Pc9 5400000 x (lD x P):=by
 have hl:=sO x P;refine ⟨by omega,by omega,fun a ha=>(hx a ha).mono (by omega),fun p hp=>?_,by omega,by omega⟩;obtain ⟨i,_,rfl⟩:=eM.1 hp;exact h i
theorem Xy {x:List Rat} {P:Nat->List Rat} (h2:2<=x.length) (h8:x.length<=60) (hr:kE true x=true) (hl:∀ i,(P i).length<=9):Ec x (lD x P)=true:=by
 have hb:(lD x P).any XS=false:=by
  rw [List.any_eq_false];intro p hp;obtain ⟨i,_,rfl⟩:=eM.1 hp;have h1:=kV (z:=zr) (P i);have h2:=hl i;rw [XS,decide_eq_true_eq];omega
 rw [Ec,decide_eq_true h2,decide_eq_true h8,hr,decide_eq_true (show (lD x P).length+1=x.length by rw [sO];omega),hb];rfl
theorem UH {x:List Rat} {P:Nat->List Rat} (h2:2<=x.length) (h6:x.length<=6) (hx:∀ a∈x,Fit 40 a) (h:∀ i,(P i).length<=9/\∀ a∈P i,Fit 5400000 a):Fit 24300000011 (eN x (lD x P) (x.length-1)):=by
 have hl:=sO x P;obtain ⟨W,hW⟩:∃ W,W=4860000002:=⟨_,rfl⟩
 have:=af1 (Vb h2 h6 hx h) (x.length-1) (by omega);rw [<-hW] at this;have hm:(x.length-1)*W<=5*W:=Nat.mul_le_mul_right _ (by omega);exact this.mono (by omega)
theorem ah3 {x:List Rat} {P:Nat->List Rat} (hx:∀ a∈x,Fit 40 a) (h:∀ i,(P i).length<=4/\∀ a∈P i,Fit 1600000 a) {i:Nat} (hi:i+1<x.length):Fit 153604000 (Zy x (lD x P) i):=by
 obtain ⟨l1,f1⟩:=h i;have l2:=lR (P i);have l3:=lR (cM (P i));have f2:=pZ (by omega) f1 (by omega);have f3:=pZ (by omega) f2 (by omega);rw [UW hi];generalize cM (cM (P i))=d at l3 f3 ⊢;obtain ⟨F0,hF0⟩:∃ F,F=1600000+12+12:=⟨_,rfl⟩
 rw [<-hF0] at f3;have hm:F0*(d.length+1)<=F0*3:=Nat.mul_le_mul_left _ (by omega);have l4:=kD d d;obtain ⟨F1,hF1⟩:∃ F,F=9600200:=⟨_,rfl⟩
 have f4:∀ a∈eF d d,Fit F1 a:=fun a ha=>(jY f3 f3 (by omega) a ha).mono (by omega);have l5:=Pe (eF d d);have f5:=Qu (by omega) f4;have hn:(pE (eF d d)).length*(2*(F1+12)+1)<=4*(2*(F1+12)+1):=Nat.mul_le_mul_right _ (by omega);have ff:∀ j,Fit 76801800 (ev (pE (eF d d)) (x.getD j 0)):=fun j=>(oT (by omega) ((aC hx j).mono (by omega)) _ f5).mono (by omega);exact ((ff (i+1)).sub (ff i)).mono (by omega)
theorem AE {x:List Rat} {P:Nat->List Rat} (hx:∀ a∈x,Fit 40 a) (h:∀ i,(P i).length<=4/\∀ a∈P i,Fit 1600000 a):∀ i,i<x.length->Fit (1+i*153604001) (eN x (lD x P) i)
 | 0,_=>Fit.zero (by omega)
 | i+1,hi=>by
   obtain ⟨W,hW⟩:∃ W,W=153604000:=⟨_,rfl⟩
   have h1:=ah3 hx h hi;have h2:=AE hx h i (by omega);rw [show 153604001=W+1 by omega] at h2 ⊢;rw [<-hW] at h1;exact (h2.add h1).mono (by rw [Nat.add_mul];omega)
theorem uT {x:List Rat} {P:Nat->List Rat} (h2:2<=x.length) (h6:x.length<=6) (hx:∀ a∈x,Fit 40 a) (h:∀ i,(P i).length<=4/\∀ a∈P i,Fit 1600000 a):Fit 800000000 (eN x (lD x P) (x.length-1)):=by
 obtain ⟨W,hW⟩:∃ W,W=153604001:=⟨_,rfl⟩
 have:=AE hx h (x.length-1) (by omega);rw [<-hW] at this;have hm:(x.length-1)*W<=5*W:=Nat.mul_le_mul_right _ (by omega);exact this.mono (by omega)
theorem ae6 {x:List Rat} {P:Nat->List Rat} {i:Nat} (hi:i+1<x.length):(List.range i).map P ++ [P i]=(List.range (i+1)).map P:=by
 rw [List.range_succ,List.map_append];rfl
set_option maxHeartbeats 2000000 in
theorem bC7 (x y m f:List Rat) (L B C:Rat) (D:Ar x y) (h6:x.length<=6) (hf:∀ a∈f,Fit 40 a) (hfl:f.length<=3) (hm:∀ a∈m,Fit 260000 a) (fL:Fit 800000000 L) (fB:Fit 800000000 B) (fC:Fit 800000000 C) (hB:L<=B) (hC:L<=C) (hO:L<=eN x (lD x (qO x y m f)) (x.length-1)):vc prog (fun o=>cG o (.ret [.one (.bool true)])) (bP prog 211 (fun _=>none) (aO [1,1,1,1,1,1,1,1,1,1,1,1,1] (aW f9)) [(11, .v none),(20, .v none),(22, .ref 2),(23, .v none),(24, .ref 3),(25, .v none),(27, .v none),(28, .ref 3),(29, .v none),(31, .v none),(32, .ref 3),(33, .v none),(34, .v none)] f9.results.toList none true) ([.v (.one (sQ x)), .v (.one (sQ f)), .ref ([sQ x,eQ (lD x (fZ x y m))]), .v (.one (.int .i64 0)), .ref (qC L), .v (.one (.int .i64 0)), .v (.one (.int .i64 0)), .ref (qC B), .v (.one (.int .i64 0)), .v (.one (.int .i64 0)), .ref (qC C), .v (.one (.int .i64 0)), .v (.one (sQ [((1:Int):Rat)]))].map In.env) []:=by
 rw [UY];dsimp only [List.map,In.env,aE,aF];have h2:=D.h2;have hP:=aI0 (m:=m) D h6 hf hfl hm;have hpl:=sO x (fZ x y m);have hql:=sO x (qO x y m f);have hb:=Ss x (lD x (qO x y m f)) 5400000 (Xy h2 (by omega) D.hr fun i=>(hP i).1) (Vb h2 h6 D.hx hP);rw [hql] at hb;have hbf:=UH h2 h6 D.hx hP;refine bZ {k:Nat // k<=x.length} (fun g=>[.one (sQ (oW x g.1)), .one (.int .i64 (g.1:Int))]) (fun g=>x.length-g.1) ⟨0,dD _⟩ aX.rfl (fun _=>rfl) ?_;rintro ⟨k,hk⟩;dsimp only [aE,aF] at hk ⊢;apply vn (aM bG (aK _)) rfl;apply vn bQ rfl;refine vs _ rfl ?_ ?_<;>intro h3
 .have hk':k<x.length:=by omega
  obtain ⟨z1,z2⟩:=Pf D.hx k;apply vn (aH bG (m:=k) (by omega) (Int.toNat_natCast k) (aI hk')) rfl;apply vn (aR cF (by decide) (by simp) (.inl rfl)) rfl;dsimp only [aE,aF];apply aA (Fj (x.getD k 0)) rfl;apply aA (wD 1) rfl;apply eK (us:=[qC (-(x.getD k 0)),qC ((1:Int):Rat)]) rfl;apply aA (Ow (oW x k) [-(x.getD k 0),((1:Int):Rat)] 465000 z2 (fun a ha=>(Wz (aC D.hx k) a ha).mono (by omega)) (by omega) (by simp) (by omega)) rfl;dsimp only [aE,aF];apply vn (aB (by omega) (by omega)) rfl;dsimp only [aE,aF];exact bD rfl ⟨⟨k+1,by omega⟩,aX.rfl,by show x.length-(k+1)<x.length-k;omega⟩
 obtain rfl:k=x.length:=by omega
 obtain ⟨z1,z2⟩:=Pf D.hx x.length h6;obtain ⟨p1,p2⟩:=TA D h6 hf hfl;refine bZ {i:Nat // i<=x.length-1} (fun g=>[.one (.int .i64 (g.1:Int)), .one (sQ x), .rows (((List.range g.1).map (qO x y m f)).map cQ)]) (fun g=>x.length-1-g.1) ⟨0,dD _⟩ aX.rfl (fun _=>rfl) ?_;rintro ⟨i,hi⟩;dsimp only [aE,aF] at hi ⊢;apply vn (aM sM (n:=x.length-1) (by simpa using hpl)) rfl;apply vn bQ rfl;refine vs _ rfl ?_ ?_<;>intro h15
 .have hi':i+1<x.length:=by omega
  have hil:((List.range i).map (qO x y m f)).length=i:=by rw [aK,mV]
  apply vn (aH sM (m:=i) (by omega) (Int.toNat_natCast i) (Oq (ps:=lD x (fZ x y m)))) rfl;rw [am3 hi'];apply vn (cH TK) rfl;dsimp only [aE,aF];apply aA (Ow (oW x x.length) f 465000 z2 (fun a ha=>(hf a ha).mono (by omega)) (by omega) (by omega) (by omega)) rfl;apply aA (Fi (fZ x y m i) (eF (oW x x.length) f) 1600000 3730000 (D.wK hm i) p2 (by omega) (by omega) (by have:=BW x y m i;omega)) rfl;apply eK (us:=[cQ (qO x y m f i)]) rfl;refine kX (xs:=(List.range i).map (qO x y m f)) (x:=qO x y m f i) (f:=cQ) rfl rfl (by omega) (by simp only [maxLen];omega) ?_;rw [ae6 hi'];dsimp only [aE,aF];apply vn (aB (by omega) (by omega)) rfl;dsimp only [aE,aF];exact bD rfl ⟨⟨i+1,by omega⟩,aX.rfl,by show x.length-1-(i+1)<x.length-1-i;omega⟩
 obtain rfl:i=x.length-1:=by omega
 apply aA hb rfl;apply vn fG rfl;refine vs _ rfl ?_ ?_<;>intro h26
 .exact absurd rfl h26
 apply vn fG rfl;refine vs _ rfl ?_ ?_<;>intro h29
 .exact absurd rfl h29
 apply vn fG rfl;dsimp only [aE,aF];refine vs _ rfl ?_ ?_<;>intro h32
 .exact absurd rfl h32
 apply vn fG rfl;refine vs _ rfl ?_ ?_<;>intro h35
 .exact absurd rfl h35
 apply vn fG rfl;refine vs _ rfl ?_ ?_<;>intro h38
 .exact absurd rfl h38
 apply vn fG rfl;refine vs _ rfl ?_ ?_<;>intro h41
 .exact absurd rfl h41
 apply vn fG rfl;dsimp only [aE,aF];refine vs _ rfl ?_ ?_<;>intro h44
 .exact absurd rfl h44
 apply aA (kL B L _ _ fB fL) rfl;apply vn gJ rfl;refine vs _ rfl ?_ ?_<;>intro h48
 .apply aA (kL C L _ _ fC fL) rfl;apply vn gJ rfl;dsimp only [aE,aF];refine vs _ rfl ?_ ?_<;>intro h51
  .apply aA (kL _ L _ _ hbf fL) rfl;apply vn gJ rfl;refine vs _ rfl ?_ ?_<;>intro h54
   .apply aA rU rfl;exact aL rfl
   exact absurd (Int.not_lt.1 fun e=>absurd (wW.1 e) (Rat.not_lt.2 hO)) h54
  exact absurd (Int.not_lt.1 fun e=>absurd (wW.1 e) (Rat.not_lt.2 hC)) h51
 exact absurd (Int.not_lt.1 fun e=>absurd (wW.1 e) (Rat.not_lt.2 hB)) h48
open Go Go.Proofs Tryz Ord
def kR:Tr:=.ret [(tF false)]
def aD2:Tr:=bI .geq 3 199 0 57 0 4 (.split (.u 58 0) (aZ 67 [(G3 46),(G3 26)] [none] [203,204] [46,46] 3 false (bI .geq 3 205 0 59 0 4 (.split (.u 60 0) (aZ 14 [] [none] [] [] 4 true (.ret [(W 61 0)])) kR))) kR)
def at5:Tr:=.split (.u 53 0) kR (bI .neq 54 189 0 47 0 4 (.split (.u 54 0) kR (aZ 67 [(G3 30),(G3 26)] [none] [192,193] [46,46] 3 false (bI .geq 3 194 0 55 0 4 (.split (.u 56 0) (aZ 67 [(G3 34),(G3 26)] [none] [197,198] [46,46] 3 false aD2) kR)))))
def aA1:Tr:=bI .neq 54 173 0 29 0 4 (.split (.u 50 0) kR (bI .neq 54 177 0 31 0 4 (.split (.u 51 0) kR (bI .neq 54 181 0 33 0 4 (.split (.u 52 0) kR (bI .neq 54 185 0 35 0 4 at5))))))
def aA0:Tr:=cU .lss 3 140 143 41 0 44 0 4 (.split (.u 45 0) (eW 24 1 41 0 29 150 151 (eI 46 0 none 98 152 (.fail 9))) (aZ 20 [(.agg [(U 42 0),(.c (.sr 1 43))])] [(some 3),none] [162] [31] 55 false (bI .neq 54 166 0 25 0 4 (.split (.u 48 0) kR (bI .neq 54 169 0 27 0 4 (.split (.u 49 0) kR aA1))))))
def aF5:Tr:=.split (.u 40 0) (eW 5 0 38 0 28 129 130 (eI 41 0 (some 3) 46 131 (aZ 65 [(G3 42)] [(some 3)] [132] [46] 46 false (.need (.call 63 [(WK 1)] [(some 3)]) (.call ⟨.value (.func 63),#[(.const (I3 1))],#[2]⟩) 46 true (.need (.lit 3 [[(.u 43 0),(.u 43 1),(.u 43 2)],[(.u 44 0),(.u 44 1),(.u 44 2)]]) (.buildSlice 98 2 #[(0,(tT 133)),(1,(tT 134))]) 98 false (.fail 8)))))) (.loop 0 [lK 0,lV 24 0, .nilrow] (dS 24 1 142 29 aA0))
def aG7:Tr:=aZ 54 [(W 5 0),(W 6 0)] [(some 2),none] [110,111] [28,28] 57 false (aZ 20 [(G2 32)] [(some 3),none] [116] [31] 55 false (.need (.call 63 [(WK 1)] [(some 3)]) (.call ⟨.value (.func 63),#[(.const (I3 1))],#[2]⟩) 46 true (.need (.lit 3 [[(.u 36 0),(.u 36 1),(.u 36 2)]]) (.buildSlice 98 1 #[(0,(tT 120))]) 98 false (.loop 0 [lK 0] (dS 5 0 123 28 (cU .lss 3 122 124 38 0 39 0 4 aF5))))))
def aD4:Tr:=aZ 15 [(G3 2)] [(some 3),(some 4)] [71] [27] 52 false (aZ 15 [(G3 3)] [(some 3),(some 4)] [76] [27] 52 false (aZ 62 [(W 4 0)] [none,none] [81] [22] 123 false (aZ 49 [(W 5 0),(W 6 0)] [(some 2),none] [86,87] [28,28] 57 false (aZ 20 [(G2 24)] [(some 3),none] [92] [31] 55 false (aZ 50 [(W 5 0),(W 6 0),(G3 18),(G3 20)] [(some 2),none] [97,98,99,100] [28,28,46,46] 57 false (aZ 20 [(G2 28)] [(some 3),none] [105] [31] 55 false aG7))))))
def aD3:Tr:=.need (.prim [(W 14 0)] none) (.unOp .not 4 (tT 61)) 4 false (.split (.u 15 0) (aZ 14 [] [none] [] [] 4 true (.ret [(W 16 0)])) (.need (.call 13 [(W 4 0),(WK 3)] [none]) (.call ⟨.value (.func 13),#[(tT 65),(.const (I3 3))],#[22,3]⟩) 4 false (.need (.prim [(W 16 0)] none) (.unOp .not 4 (tT 66)) 4 false (.split (.u 17 0) (aZ 14 [] [none] [] [] 4 true (.ret [(W 18 0)])) aD4))))
def aV1:Tr:=.need (.prim [(W 9 0)] none) (.unOp .not 4 (tT 49)) 4 false (.split (.u 10 0) (aZ 14 [] [none] [] [] 4 true (.ret [(W 11 0)])) (aZ 52 [(W 7 0),(W 8 0)] [none] [52,53] [32,32] 4 false (.need (.prim [(W 11 0)] none) (.unOp .not 4 (tT 54)) 4 false (.split (.u 12 0) (aZ 14 [] [none] [] [] 4 true (.ret [(W 13 0)])) (.need (.lit 3 [[(.u 2 0),(.u 2 1),(.u 2 2)],[(.u 3 0),(.u 3 1),(.u 3 2)]]) (.buildSlice 22 2 #[(0,(tT 58)),(1,(tT 59))]) 22 false (.need (.call 13 [(.one (.c (.sr 3 13))),(WK 2)] [none]) (.call ⟨.value (.func 13),#[(tT 60),(.const (I3 2))],#[22,3]⟩) 4 false aD3))))))
def bj5:Tr:=.need (.call 48 [(W 0 0),(W 1 0),(WK 6)] [none,none,none,none,none]) (.call ⟨.value (.func 48),#[(tT 41),(tT 42),(.const (I3 6))],#[22,22,3]⟩) 105 false aV1
theorem GX:aV prog f9 (fun _=>none) [.v none, .v none, .v (some 3), .v (some 3), .v none]=bj5:=by kernel_rfl
def Qq:Tr:=.fail 1011
def PE:Tr:=.need (.call 14 [] [none]) (.call ⟨.value (.func 14),#[],#[]⟩) 4 true Qq
def QA:Tr:=.fail 1011
def PU:Tr:=.need (.call 14 [] [none]) (.call ⟨.value (.func 14),#[],#[]⟩) 4 true QA
def MO:Tr:=.fail 1011
def Kx:Tr:=.need (.call 14 [] [none]) (.call ⟨.value (.func 14),#[],#[]⟩) 4 true MO
def LD:Tr:=.fail 1011
def Ii:Tr:=.need (.call 14 [] [none]) (.call ⟨.value (.func 14),#[],#[]⟩) 4 true LD
def JQ:Tr:=.ret [(W 5 0),(W 22 0),(.one (.ref 0 [(.u 24 0),(.u 24 1)])),(W 25 0),(.one (.ref 0 [(.u 26 0),(.u 26 1),(.u 26 2)])),(W 27 0),(W 29 0),(.one (.ref 0 [(.u 30 0),(.u 30 1),(.u 30 2)])),(W 31 0),(W 33 0),(.one (.ref 0 [(.u 34 0),(.u 34 1),(.u 34 2)])),(W 35 0),(.one (.c (.sr 3 37)))]
def Kl:Tr:=.need (.lit 3 [[(.u 36 0),(.u 36 1),(.u 36 2)]]) (.buildSlice 98 1 #[(0,(.tmp 120))]) 98 false JQ
def MP:Tr:=.need (.call 63 [(WK (1))] [(some 3)]) (.call ⟨.value (.func 63),#[(.const (I3 (1)))],#[2]⟩) 46 true Kl
def JH:Tr:=.need (.call 20 [(.agg [(U 32 0),(U 32 1)])] [(some 3),none]) (.call ⟨.value (.func 20),#[(.tmp 116)],#[31]⟩) 55 false MP
def LQ:Tr:=.need (.call 54 [(W 5 0),(W 6 0)] [(some 2),none]) (.call ⟨.value (.func 54),#[(.tmp 110),(.tmp 111)],#[28,28]⟩) 57 false JH
def Ll:Tr:=.need (.call 20 [(.agg [(U 28 0),(U 28 1)])] [(some 3),none]) (.call ⟨.value (.func 20),#[(.tmp 105)],#[31]⟩) 55 false LQ
def Ix:Tr:=.need (.call 50 [(W 5 0),(W 6 0),(.agg [(U 18 0),(U 18 1),(U 18 2)]),(.agg [(U 20 0),(U 20 1),(U 20 2)])] [(some 2),none]) (.call ⟨.value (.func 50),#[(.tmp 97),(.tmp 98),(.tmp 99),(.tmp 100)],#[28,28,46,46]⟩) 57 false Ll
def JR:Tr:=.need (.call 20 [(.agg [(U 24 0),(U 24 1)])] [(some 3),none]) (.call ⟨.value (.func 20),#[(.tmp 92)],#[31]⟩) 55 false Ix
def JL:Tr:=.need (.call 49 [(W 5 0),(W 6 0)] [(some 2),none]) (.call ⟨.value (.func 49),#[(.tmp 86),(.tmp 87)],#[28,28]⟩) 57 false JR
def Lj:Tr:=.need (.call 62 [(W 4 0)] [none,none]) (.call ⟨.value (.func 62),#[(.tmp 81)],#[22]⟩) 123 false JL
def Kb:Tr:=.need (.call 15 [(.agg [(U 3 0),(U 3 1),(U 3 2)])] [(some 3),(some 4)]) (.call ⟨.value (.func 15),#[(.tmp 76)],#[27]⟩) 52 false Lj
def Lm:Tr:=.need (.call 15 [(.agg [(U 2 0),(U 2 1),(U 2 2)])] [(some 3),(some 4)]) (.call ⟨.value (.func 15),#[(.tmp 71)],#[27]⟩) 52 false Kb
def JX:Tr:=.split (.u 17 0) Ii Lm
def KO:Tr:=.need (.prim [(W 16 0)] none) (.unOp .not 4 (.tmp 66)) 4 false JX
def La:Tr:=.need (.call 13 [(W 4 0),(WK (3))] [none]) (.call ⟨.value (.func 13),#[(.tmp 65),(.const (I3 (3)))],#[22,3]⟩) 4 false KO
def HU:Tr:=.split (.u 15 0) Kx La
def Mz:Tr:=.need (.prim [(W 14 0)] none) (.unOp .not 4 (.tmp 61)) 4 false HU
def Jp:Tr:=.need (.call 13 [(.one (.c (.sr 3 13))),(WK (2))] [none]) (.call ⟨.value (.func 13),#[(.tmp 60),(.const (I3 (2)))],#[22,3]⟩) 4 false Mz
def Ku:Tr:=.need (.lit 3 [[(.u 2 0),(.u 2 1),(.u 2 2)],[(.u 3 0),(.u 3 1),(.u 3 2)]]) (.buildSlice 22 2 #[(0,(.tmp 58)),(1,(.tmp 59))]) 22 false Jp
def QP:Tr:=.split (.u 12 0) PU Ku
def Oy:Tr:=.need (.prim [(W 11 0)] none) (.unOp .not 4 (.tmp 54)) 4 false QP
def PW:Tr:=.need (.call 52 [(W 7 0),(W 8 0)] [none]) (.call ⟨.value (.func 52),#[(.tmp 52),(.tmp 53)],#[32,32]⟩) 4 false Oy
def PR:Tr:=.split (.u 10 0) PE PW
def Qy:Tr:=.need (.prim [(W 9 0)] none) (.unOp .not 4 (.tmp 49)) 4 false PR
def PC:Tr:=.need (.call 48 [(W 0 0),(W 1 0),(WK (6))] [none,none,none,none,none]) (.call ⟨.value (.func 48),#[(.tmp 41),(.tmp 42),(.const (I3 (6)))],#[22,22,3]⟩) 105 false Qy
theorem VD:bP prog 211 (fun _=>none) (aO [] (aW f9)) [(0, .v none),(1, .v none),(2, .v (some 3)),(3, .v (some 3)),(4, .v none)] ([11,20,22,23,24,25,27,28,29,31,32,33,34].map ResultVar.tmp) (some 12) false=PC:=by kernel_rfl
def aD7 (x y:List dJ) (u v:dJ) (l:List dJ):Bool:=wO x y 6&&(mR (aU x) (aU y)&&(eU [u,v] 2&&eU l 3))
set_option maxHeartbeats 1000000 in
theorem yZ (x y:List dJ) (u v:dJ) (l:List dJ) (hx:∀ a∈x,a.In) (hy:∀ a∈y,a.In) (hs:x.length<140737488355328) (qH:y.length<140737488355328) (hs3:l.length<140737488355328) (hbad:aD7 x y u v l=false):aQ prog 9 [(.one (sN x):aJ),(.one (sN y):aJ),(nT u:aJ),(nT v:aJ),(.one (sN l):aJ)] (.ret [.one (.bool true)]):=by
 refine eH func9 GX ?_;by_cases hls:wO x y 6=true
 rotate_left
 .rw [Bool.not_eq_true] at hls;apply aA (UC x y 6 hls hx hy hs qH) rfl;apply vn gX rfl;refine pY true rfl (fun _=>?_) (fun h=>by cases h);apply aA rU rfl;exact aL rfl
 apply aA (Ro x y 6 hls hx hy hs qH) rfl;apply vn gX rfl;refine pY false rfl (fun h=>by cases h) (fun _=>?_)
 obtain ⟨tx,ty⟩:eU x 50=true/\eU y 50=true:=by
  simp only [wO,Bool.and_eq_true] at hls;exact ⟨hls.1,hls.2.1⟩
 have lx:=kY tx;have ly:=kY ty;have hRl:(nM x).length=x.length:=aK _;have hRl2:(nM y).length=y.length:=aK _;apply aA (SP (nM x) (nM y) 40 (Ck (by rw [oJ];exact (pG tx).2))) rfl;rw [oJ,oJ];apply vn gX rfl;dsimp only [aE,aF];refine pY (!mR (aU x) (aU y)) rfl (fun h7=>?_) (fun h7=>?_)
 .apply aA rU rfl;exact aL rfl
 apply eK (us:=[nC u,nC v]) rfl;apply aA (nA [u,v] 2 (by simp)) rfl;apply vn gX rfl;refine pY (!eU [u,v] 2) rfl (fun h13=>?_) (fun h13=>?_)
 .apply aA rU rfl;exact aL rfl
 apply aA (nA l 3 hs3) rfl;dsimp only [aE,aF];apply vn gX rfl;refine pY (!eU l 3) rfl (fun h18=>?_) (fun h18=>?_)
 .apply aA rU rfl;exact aL rfl
 rw [aD7,hls,show mR (aU x) (aU y)=true by simpa using h7,show eU [u,v] 2=true by simpa using h13,show eU l 3=true by simpa using h18] at hbad;exact absurd hbad (by decide)
set_option maxHeartbeats 1000000 in
theorem bD2 (x y:List dJ) (u v:dJ) (l:List dJ) (m c:List Rat) (hx:∀ a∈x,a.In) (hy:∀ a∈y,a.In) (hu:u.In) (hv:v.In) (hl:∀ a∈l,a.In) (hs:x.length<140737488355328) (qH:y.length<140737488355328) (hs3:l.length<140737488355328) (hls:wO x y 6=true) (hg:mR (aU x) (aU y)=true) (htm:eU [u,v] 2=true) (htl:eU l 3=true) (D:Ar (aU x) (aU y)) (h6:(aU x).length<=6) (dN:aQ prog 49 [.one (sQ (aU x)), .one (sQ (aU y))] (.ret [.agg [sQ (aU x),eQ (lD (aU x) (fZ (aU x) (aU y) m))], .one (.int .i64 0)])) (dC:aQ prog 50 [.one (sQ (aU x)), .one (sQ (aU y)),qT u.v,qT v.v] (.ret [.agg [sQ (aU x),eQ (lD (aU x) (fZ (aU x) (aU y) c))], .one (.int .i64 0)])) (dM:aQ prog 54 [.one (sQ (aU x)), .one (sQ (aU y))] (.ret [.agg [sQ (aU x),eQ (lD (aU x) (mX (aU x) (aU y)))], .one (.int .i64 0)])) (dB:∀ P:Nat->List Rat,(∀ i,(P i).length<=4/\∀ a∈P i,Fit 1600000 a)->aQ prog 20 [.agg [sQ (aU x),eQ (lD (aU x) P)]] (.ret [qT (eN (aU x) (lD (aU x) P) ((aU x).length-1)), .one (.int .i64 0)])) (oN:∀ i,(fZ (aU x) (aU y) m i).length<=4/\∀ a∈fZ (aU x) (aU y) m i,Fit 1600000 a) (oC:∀ i,(fZ (aU x) (aU y) c i).length<=4/\∀ a∈fZ (aU x) (aU y) c i,Fit 1600000 a) (oM:∀ i,(mX (aU x) (aU y) i).length<=4/\∀ a∈mX (aU x) (aU y) i,Fit 1600000 a):vc prog (fun o=>cG o (.ret [.one (sQ (aU x)), .one (sQ (aU l)), .one (.bH [sQ (aU x),eQ (lD (aU x) (fZ (aU x) (aU y) m))]), .one (.int .i64 0), .one (.bH (qC (eN (aU x) (lD (aU x) (fZ (aU x) (aU y) m)) ((aU x).length-1)))), .one (.int .i64 0), .one (.int .i64 0), .one (.bH (qC (eN (aU x) (lD (aU x) (fZ (aU x) (aU y) c)) ((aU x).length-1)))), .one (.int .i64 0), .one (.int .i64 0), .one (.bH (qC (eN (aU x) (lD (aU x) (mX (aU x) (aU y))) ((aU x).length-1)))), .one (.int .i64 0), .one (sQ [((1:Int):Rat)])])) (bP prog 211 (fun _=>none) (aO [] (aW f9)) [(0, .v none),(1, .v none),(2, .v (some 3)),(3, .v (some 3)),(4, .v none)] ([11,20,22,23,24,25,27,28,29,31,32,33,34].map ResultVar.tmp) (some 12) false) ([.v (.one (sN x)), .v (.one (sN y)), .v (nT u), .v (nT v), .v (.one (sN l))].map In.env) []:=by
 rw [VD];dsimp only [List.map,In.env,aE,aF];apply aA (Ro x y 6 hls hx hy hs qH) rfl;apply vn gX rfl;refine pY false rfl (fun h=>by cases h) (fun _=>?_)
 obtain ⟨tx,ty⟩:eU x 50=true/\eU y 50=true:=by
  simp only [wO,Bool.and_eq_true] at hls;exact ⟨hls.1,hls.2.1⟩
 have lx:=kY tx;have ly:=kY ty;have ll:=kY htl;have hRl:(nM x).length=x.length:=aK _;have hRl2:(nM y).length=y.length:=aK _;apply aA (SP (nM x) (nM y) 40 (Ck (by rw [oJ];exact (pG tx).2))) rfl;rw [oJ,oJ,hg];apply vn gX rfl;dsimp only [aE,aF];refine pY false rfl (fun h=>by cases h) (fun _=>?_);apply eK (us:=[nC u,nC v]) rfl;apply aA (nA [u,v] 2 (by simp)) rfl;rw [htm];apply vn gX rfl;refine pY false rfl (fun h=>by cases h) (fun _=>?_);apply aA (nA l 3 hs3) rfl;rw [htl];dsimp only [aE,aF];apply vn gX rfl;refine pY false rfl (fun h=>by cases h) (fun _=>?_);apply aA (Qt u hu) rfl;apply aA (Qt v hv) rfl;apply aA (aF6 l hl) rfl;dsimp only [aE,aF];apply aA dN rfl;apply aA (dB _ oN) rfl;apply aA dC rfl;apply aA (dB _ oC) rfl;dsimp only [aE,aF];apply aA dM rfl;apply aA (dB _ oM) rfl;apply aA (wD 1) rfl;apply eK (us:=[qC ((1:Int):Rat)]) rfl;exact aL rfl
open Go Go.Proofs Go.RowKit Tryz Ord
attribute [local go_sem] Oper.semAt_some
set_option maxRecDepth 100000 in
set_option maxHeartbeats 1000000 in
theorem GO (x y:List dJ) (u v:dJ) (l:List dJ) (hx:∀ a∈x,a.In) (hy:∀ a∈y,a.In) (hu:u.In) (hv:v.In) (hl:∀ a∈l,a.In) (hs:x.length<140737488355328) (qH:y.length<140737488355328) (hs3:l.length<140737488355328) :
  aQ prog 9 [.one (sN x), .one (sN y),nT u,nT v, .one (sN l)] (.ret [.one (.bool true)]):=by
 by_cases hok:aD7 x y u v l=true
 rotate_left
 .exact yZ x y u v l hx hy hs qH hs3 (by simpa using hok)
 simp only [aD7,Bool.and_eq_true] at hok;obtain ⟨hls,hg,htm,htl⟩:=hok
 have h6:(aU x).length<=6:=by
  have hX:(aU x).length=x.length:=aK _;have hg':=hg;simp only [wO,Bool.and_eq_true,Bool.not_eq_true',Bool.and_eq_false_iff,decide_eq_false_iff_not] at hls;simp only [mR,Bool.and_eq_true,decide_eq_true_eq] at hg';obtain ⟨_,g2,_⟩:=hg';rcases hls.2.2 with e | e<;>omega
 have D:Ar (aU x) (aU y):=aS4 (by
  have hX:(aU x).length=x.length:=aK _;simp only [wO,Bool.and_eq_true,Bool.not_eq_true',Bool.and_eq_false_iff,decide_eq_false_iff_not] at hls ⊢;exact ⟨hls.1,hls.2.1, .inl (by omega)⟩) hg
 have fu:Fit 40 u.v:=(pG htm).2 _ (List.mem_cons_self);have fv:Fit 40 v.v:=(pG htm).2 _ (List.mem_cons_of_mem _ List.mem_cons_self);have fl:=(pG htl).2
 have ll:(aU l).length<=3:=by
  have:=kY htl;have hL:(aU l).length=l.length:=aK _;omega
 have h2:=D.h2;have Dr:=D.hr;obtain ⟨m,hm1,hm2,hm3,hm4,hm5,hm6⟩:=av1 D;obtain ⟨c,hc1,hc2,hc3,hc4,hc5,hc6⟩:=aD8 D fu fv;have hm7:∀ a∈m,Fit 260000 a:=fun a ha=>(hm6 a ha).mono (by omega);have oN:∀ i,(fZ (aU x) (aU y) m i).length<=4/\∀ a∈fZ (aU x) (aU y) m i,Fit 1600000 a:=fun i=>⟨BW _ _ _ _,D.wK hm7 i⟩
 have oC:∀ i,(fZ (aU x) (aU y) c i).length<=4/\∀ a∈fZ (aU x) (aU y) c i,Fit 1600000 a:=fun i=>⟨BW _ _ _ _,D.wK hc6 i⟩
 have oM:∀ i,(mX (aU x) (aU y) i).length<=4/\∀ a∈mX (aU x) (aU y) i,Fit 1600000 a:=fun i=>⟨av0 _ _ i,fun a ha=>(au1 D i a ha).mono (by omega)⟩
 have o9:∀ {P:Nat->List Rat},(∀ i,(P i).length<=4/\∀ a∈P i,Fit 1600000 a)->∀ i,(P i).length<=9/\∀ a∈P i,Fit 5400000 a:=fun h i=>⟨by have:=(h i).1;omega,fun a ha=>((h i).2 a ha).mono (by omega)⟩
 have dB:∀ P:Nat->List Rat,(∀ i,(P i).length<=4/\∀ a∈P i,Fit 1600000 a)->aQ prog 20 [.agg [sQ (aU x),eQ (lD (aU x) P)]] (.ret [qT (eN (aU x) (lD (aU x) P) ((aU x).length-1)), .one (.int .i64 0)]):=fun P h=>by
  have h9:=o9 h;have:=Ss (aU x) (lD (aU x) P) 5400000 (Xy h2 (by omega) Dr fun i=>(h9 i).1) (Vb h2 h6 D.hx h9)
  rwa [sO] at this
 have dA:=bD2 x y u v l m c hx hy hu hv hl hs qH hs3 hls hg htm htl D h6
  (aW7 D (fun a ha=>(hm6 a ha).mono (by omega)) hm2 hm1) (aY5 D fu fv (fun a ha=>(hc6 a ha).mono (by omega)) hc2 hc1) (Uh _ _ D) dB oN oC oM
 have lC:=Ak D hm3 hm4 hm5 (fZ (aU x) (aU y) c) (fun i hi=>OB Dr D.hxy hi) (fun i hi=>DN Dr D.hxy hi) (fun i hi=>FN Dr D.hxy hi (hc3 i hi));have lM:=Ak D hm3 hm4 hm5 (mX (aU x) (aU y)) (fun i hi=>ac9 _ _ _ _ _ _) (fun i hi=>XX _ _ _ _ (wne Dr hi)) (fun i hi=>by rw [mX,mX,VG _ _ _ _ (wne Dr),Yh]);have lO:=Ak D hm3 hm4 hm5 (qO (aU x) (aU y) m (aU l)) (fun i hi=>by rw [an9 D (by omega),OB Dr D.hxy hi]) (fun i hi=>by rw [an9 D hi,DN Dr D.hxy hi]) (fun i hi=>ah2 D hm3 hi);have dLB:=bC7 (aU x) (aU y) m (aU l) _ _ _ D h6 fl ll hm7 (uT h2 h6 D.hx oN) (uT h2 h6 D.hx oC) (uT h2 h6 D.hx oM) lC lM lO;clear lC lM lO oN oC oM o9 dB hm1 hm2 hm3 hm4 hm5 hm6 hm7 hc1 hc2 hc3 hc4 hc5 hc6 fl ll fu fv;generalize eN (aU x) (lD (aU x) (fZ (aU x) (aU y) m)) ((aU x).length-1)=bL at dA dLB;generalize eN (aU x) (lD (aU x) (fZ (aU x) (aU y) c)) ((aU x).length-1)=bC at dA dLB;generalize eN (aU x) (lD (aU x) (mX (aU x) (aU y))) ((aU x).length-1)=bM at dA dLB;generalize lD (aU x) (fZ (aU x) (aU y) m)=PN at dA dLB;refine ⟨bJ (by kernel_rfl),fun M w vs hM hv=>?_⟩
 match vs,hv with
 | [v0,v1,v2,v3,v4],hv=>
 refine calls_of_wp func9 rfl ?_;simp only [ntmps9,List.size_toArray,List.length_cons,List.length_nil,Nat.reduceAdd,Nat.reduceSub,Array.replicate_succ,Array.replicate_zero,List.push_toArray,List.append_toArray,List.nil_append,List.cons_append];refine Wm (n:=12) (N:=211) (ins:=[(0, .v none),(1, .v none),(2, .v (some 3)),(3, .v (some 3)),(4, .v none)]) (xs:=[.v (.one (sN x)), .v (.one (sN y)), .v (nT u), .v (nT v), .v (.one (sN l))]) fo ⟨rfl,rfl,rfl,rfl,rfl,trivial⟩ dA (by kernel_rfl) hM rfl rfl hv ?_ (by intro c v a' w' h;cases h);intro e a1 w1 rs us hrs hex hb1 hsz1 hdf1 hr1 hrep1;cases hrs;cases e with
 | exit id=>cases hex
 | ret=>cases hex
 | normal=>
 have huse:=bU hr1;subst huse;obtain ⟨e11,e20,e22,e23,e24,e25,e27,e28,e29,e31,e32,e33,e34,_⟩:=hrep1;have hM1:cK M w1:=bW hM hb1;clear hr1 hex hv;show Code.wp _ (wZ 12 _) _ _ _;simp only [wZ]
 refine xO jB.wp (n0:=w1.heap.size) (N:=211) (ins:=[(11, .v none),(20, .v none),(22, .ref 2),(23, .v none),(24, .ref 3),(25, .v none),(27, .v none),(28, .ref 3),(29, .v none),(31, .v none),(32, .ref 3),(33, .v none),(34, .v none)])
  (xs:=[.v (.one (sQ (aU x))), .v (.one (sQ (aU l))), .ref [sQ (aU x),eQ PN], .v (.one (.int .i64 0)), .ref (qC bL), .v (.one (.int .i64 0)), .v (.one (.int .i64 0)), .ref (qC bC), .v (.one (.int .i64 0)), .v (.one (.int .i64 0)), .ref (qC bM), .v (.one (.int .i64 0)), .v (.one (sQ [((1:Int):Rat)]))]) fo ⟨rfl,rfl,rfl,rfl,rfl,rfl,rfl,rfl,rfl,rfl,rfl,rfl,rfl,trivial⟩ (vD dLB) (by kernel_rfl) (aY _) hM1 hsz1 hdf1 ⟨e11,e20,e22,e23,e24,e25,e27,e28,e29,e31,e32,e33,e34,trivial⟩ ?_
 intro e a2 w2 us2 he hb2 hsz2 hdf2 hr2 hrep2;have hres:=fA f9 a2.tmps us2 hr2;have hpost:Below w.heap.size w w2/\∃ vs,Ending.returned (pack us2) = .returned (pack vs)/\cD M w2 [.one (.bool true)] vs:=⟨hb1.trans (hb2.mono hb1.size),us2,rfl,hrep2⟩
 cases e with
 | exit id=>cases he
 | normal=>exact bodyPost_end hres hdf2 hpost
 | ret=>exact bodyPost_ret hres hdf2 hpost
end Go.Sy
