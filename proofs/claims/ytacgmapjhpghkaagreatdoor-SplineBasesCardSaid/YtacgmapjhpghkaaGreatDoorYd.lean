/- Part. -/
import Derived.Test.YtacgmapjhpghkaaGreatDoorYc
import Derived.Test.YtacgmapjhpghkaaGreatDoorWg
set_option linter.all false
namespace Go.Sy
open Go Go.Proofs Go.RowKit Tryz Ord
structure LS(M:Nat->Prop)(w:World)(fs:List (Nat×aN))(a:Act)(W:World):Prop where
 sz:a.tmps.size=296
 df:a.defers=[]
 bel:Below w.heap.size w W
 nS:cC M W
 rep:∀p∈fs,p.2.rep M W (a.tmps.getD p.1 undef)
theorem ZR{M:Nat->Prop}{W:World}{a:Act}:∀(ins:List Nat)(ts:List aN),ins.length=ts.length->(∀p∈ins.zip ts,p.2.rep M W (a.tmps.getD p.1 undef))->ba M W ts (ins.map fun t=>a.tmps.getD t undef)
 | [],[],_,_=>trivial
 | t::ins,c::ts,h,hp=>⟨hp (t,c) dV,ZR ins ts (Nat.succ.inj h) fun p h=>hp p (dc _ h)⟩
 | [],_::_,h,_=>by cases h
 | _::_,[],h,_=>by cases h
theorem zY{M:Nat->Prop}{W:World}{a:Act}:∀(ins:List Nat)(ts:List aN),ba M W ts (ins.map fun t=>a.tmps.getD t undef)->∀p∈ins.zip ts,p.2.rep M W (a.tmps.getD p.1 undef)
 | [],_,_,p,hp=>by cases hp
 | t::ins,[],h,p,hp=>by cases hp
 | t::ins,c::ts,h,p,hp=>by
   rcases ez.1 hp with rfl | hp
   ·exact h.1
   ·exact zY ins ts h.2 p hp
theorem LS.get{M:Nat->Prop}{w W:World}{fs:List (Nat×aN)}{a:Act}(J:LS M w fs a W)(i:Nat){t:Nat}{c:aN}(h:fs[i]?=some (t,c)):c.rep M W (a.tmps.getD t undef):=J.rep _ (ei h)
theorem LS.bool{M:Nat->Prop}{w W:World}{fs:List (Nat×aN)}{a:Act}(J:LS M w fs a W)(i:Nat){t:Nat}{b:Bool}(h:fs[i]?=some (t,.one (.bool b))):a.eval (.tmp t)=.bool b:=(J.get i h).1
theorem LS.pc{M:Nat->Prop}{w W:World}{fs:List (Nat×aN)}{a:Act}(n:Nat)(ix:List Nat){c c':Code}{ins:List (Nat×Arg)}{xs:List In}{hints:Nat->Option Hint}{outs:List Nat}{rs:List aN}{Q:Exit->Act->World->Prop}(J:LS M w fs a W)
  (h:vc prog (fun o=>az o (.ret rs)) (ae prog 296 hints c' ins (outs.map ResultVar.tmp) none false) (xs.map In.env) []) (hin:ak In.Is (ins.map (·.2)) xs) (hc:c'=c) (hw:((fs.take n).map (·.1)).all (fun t=>!wr c t)=true) (hix:ix.map (fun i=>fs[i]?)=((ins.map (·.1)).zip (xs.map In.ty)).map some)
  (hQ:∀a' W',LS M w (fs.take n++outs.zip rs) a' W'->Q .normal a' W'):c.wp prog Q a W:=by
 have hil:(ins.map (·.1)).length=(xs.map In.ty).length:=by have:=hin.length;simpa using this
 have hr0:ba M W (xs.map In.ty) ((ins.map (·.1)).map fun t=>a.tmps.getD t undef):=ZR (ins.map (·.1)) (xs.map In.ty) hil fun p hp=>by
  have h1:some p∈((ins.map (·.1)).zip (xs.map In.ty)).map some:=tH hp;rw[<-hix]at h1;obtain⟨i,_,hi⟩:=dH.1 h1;exact J.rep p (ei hi)
 rw[et]at hr0;refine bU ji.wp (n0:=W.heap.size) fo hin (uV h) hc (aa _) J.nS J.sz J.df hr0 ?_;intro a' W' us hag hb hsz hdf hr hrep;have hus:=bG hr;subst hus;refine hQ a' W' ⟨hsz,hdf,J.bel.trans (hb.mono J.bel.size),bH J.nS hb,fun p hp=>?_⟩;rcases fI.1 hp with hp | hp
 ·have h1:=er.1 hw p.1 (tH hp);rw[aY hag p.1 (by simpa using h1)];exact aN.vj (bF.below hb) (J.rep p (iL hp))
 ·exact zY outs rs hrep p hp
theorem LS.ret{M:Nat->Prop}{w W:World}{fs:List (Nat×aN)}{a:Act}(J:LS M w fs a W)(i:Nat){b:Bool}(h:fs[i]?=some (10,.one (.bool b))):bodyPost prog f4 (fun e w'=>Below w.heap.size w w'/\oZ M w' (.ret [.one (.bool b)]) e) .ret a W:=by
 have hr:(f4.results.toList.mapM (gM a.tmps)).run prog W=.ok [a.tmps.getD 10 undef] W:=by
  show(([ResultVar.tmp 10]).mapM (gM a.tmps)).run prog W=_;simp only[zU,List.mapM_nil,gM,fi,gI,jG]
 exact gZ (gW f4 a.tmps _ hr) J.df ⟨J.bel,_,rfl,J.get i h,trivial⟩
def Nz:Tr:=.ret [(W 0 0),(W 1 0),(W 2 0),(W 3 0),(.one (.ref 0 [(.u 4 0),(.u 4 1),(.u 4 2)]))]
theorem WX:ae prog 296 (fun _=>none) (aM [] (aO f4)) [(0,.v none),(1,.v none),(2,.v none),(3,.v none),(4,.v (some 3))] ([0,1,2,3,9].map ResultVar.tmp) (some 0) false=Nz:=by kernel_rfl
def Ra:Tr:=.ret [(.one (.c (.k (.bool true))))]
def KS:Tr:=.ret [(.one (.c (.k (.bool true))))]
def JB:Tr:=.ret [(.one (.c (.k (.bool true))))]
def II:Tr:=.ret [(.one (.c (.k (.bool true))))]
def IH:Tr:=.ret [(W 16 0)]
def ID:Tr:=.need (.prim [(W 15 0)] none) (.unOp .not 4 (.tmp 60)) 4 false IH
def He:Tr:=.need (.call 13 [(.one (.c (.sr 3 14))),(WK (1))] [none]) (.call ⟨.value (.func 13),#[(.tmp 59),(.const (I3 (1)))],#[22,3]⟩) 4 false ID
def Ku:Tr:=.need (.lit 3 [[(.u 3 0),(.u 3 1),(.u 3 2)]]) (.buildSlice 22 1 #[(0,(.tmp 58))]) 22 false He
def Ih:Tr:=.split (.u 13 0) II Ku
def KH:Tr:=.need (.prim [(W 12 0)] none) (.unOp .not 4 (.tmp 54)) 4 false Ih
def Ju:Tr:=.need (.call 13 [(W 2 0),(WK (12))] [none]) (.call ⟨.value (.func 13),#[(.tmp 53),(.const (I3 (12)))],#[22,3]⟩) 4 false KH
def IA:Tr:=.split (.u 11 0) JB Ju
def FE:Tr:=.need (.prim [(W 1 0),(WK (5))] none) (.binOp .leq 3 (.tmp 48) (.const (I3 (5))) 3) 4 false IA
def IP:Tr:=.ret [(.one (.c (.k (.bool true))))]
def Ki:Tr:=.ret [(W 15 0)]
def HB:Tr:=.need (.prim [(W 14 0)] none) (.unOp .not 4 (.tmp 60)) 4 false Ki
def HJ:Tr:=.need (.call 13 [(.one (.c (.sr 3 13))),(WK (1))] [none]) (.call ⟨.value (.func 13),#[(.tmp 59),(.const (I3 (1)))],#[22,3]⟩) 4 false HB
def Io:Tr:=.need (.lit 3 [[(.u 3 0),(.u 3 1),(.u 3 2)]]) (.buildSlice 22 1 #[(0,(.tmp 58))]) 22 false HJ
def GY:Tr:=.split (.u 12 0) IP Io
def Iv:Tr:=.need (.prim [(W 11 0)] none) (.unOp .not 4 (.tmp 54)) 4 false GY
def Ke:Tr:=.need (.call 13 [(W 2 0),(WK (12))] [none]) (.call ⟨.value (.func 13),#[(.tmp 53),(.const (I3 (12)))],#[22,3]⟩) 4 false Iv
def Ji:Tr:=.split (.u 10 0) FE Ke
def JY:Tr:=.need (.prim [(W 1 0),(WK (3))] none) (.binOp .gtr 3 (.tmp 45) (.const (I3 (3))) 3) 4 false Ji
def RF:Tr:=.split (.u 9 0) KS JY
def Mt:Tr:=.need (.prim [(W 8 0),(WK (60))] none) (.binOp .leq 3 (.tmp 40) (.const (I3 (60))) 3) 4 false RF
def Nw:Tr:=.need (.prim [(W 0 0)] none) (.call ⟨.builtin .len,#[(.tmp 39)],#[22]⟩) 3 false Mt
def GW:Tr:=.ret [(.one (.c (.k (.bool true))))]
def Kt:Tr:=.ret [(.one (.c (.k (.bool true))))]
def GA:Tr:=.ret [(W 14 0)]
def Jy:Tr:=.need (.prim [(W 13 0)] none) (.unOp .not 4 (.tmp 60)) 4 false GA
def Ia:Tr:=.need (.call 13 [(.one (.c (.sr 3 12))),(WK (1))] [none]) (.call ⟨.value (.func 13),#[(.tmp 59),(.const (I3 (1)))],#[22,3]⟩) 4 false Jy
def Kv:Tr:=.need (.lit 3 [[(.u 3 0),(.u 3 1),(.u 3 2)]]) (.buildSlice 22 1 #[(0,(.tmp 58))]) 22 false Ia
def GM:Tr:=.split (.u 11 0) Kt Kv
def JD:Tr:=.need (.prim [(W 10 0)] none) (.unOp .not 4 (.tmp 54)) 4 false GM
def IK:Tr:=.need (.call 13 [(W 2 0),(WK (12))] [none]) (.call ⟨.value (.func 13),#[(.tmp 53),(.const (I3 (12)))],#[22,3]⟩) 4 false JD
def HT:Tr:=.split (.u 9 0) GW IK
def HI:Tr:=.need (.prim [(W 1 0),(WK (5))] none) (.binOp .leq 3 (.tmp 48) (.const (I3 (5))) 3) 4 false HT
def Kw:Tr:=.ret [(.one (.c (.k (.bool true))))]
def Jb:Tr:=.ret [(W 13 0)]
def KO:Tr:=.need (.prim [(W 12 0)] none) (.unOp .not 4 (.tmp 60)) 4 false Jb
def GO:Tr:=.need (.call 13 [(.one (.c (.sr 3 11))),(WK (1))] [none]) (.call ⟨.value (.func 13),#[(.tmp 59),(.const (I3 (1)))],#[22,3]⟩) 4 false KO
def JC:Tr:=.need (.lit 3 [[(.u 3 0),(.u 3 1),(.u 3 2)]]) (.buildSlice 22 1 #[(0,(.tmp 58))]) 22 false GO
def HA:Tr:=.split (.u 10 0) Kw JC
def Gc:Tr:=.need (.prim [(W 9 0)] none) (.unOp .not 4 (.tmp 54)) 4 false HA
def HW:Tr:=.need (.call 13 [(W 2 0),(WK (12))] [none]) (.call ⟨.value (.func 13),#[(.tmp 53),(.const (I3 (12)))],#[22,3]⟩) 4 false Gc
def IU:Tr:=.split (.u 8 0) HI HW
def Kk:Tr:=.need (.prim [(W 1 0),(WK (3))] none) (.binOp .gtr 3 (.tmp 45) (.const (I3 (3))) 3) 4 false IU
def MR:Tr:=.split (.u 7 0) Nw Kk
def QO:Tr:=.need (.prim [(W 6 0),(WK (9))] none) (.binOp .gtr 3 (.tmp 36) (.const (I3 (9))) 3) 4 false MR
def PY:Tr:=.need (.prim [(W 0 0)] none) (.call ⟨.builtin .len,#[(.tmp 35)],#[22]⟩) 3 false QO
def NO:Tr:=.split (.u 5 0) Ra PY
def MI:Tr:=.need (.prim [(W 4 0)] none) (.unOp .not 4 (.tmp 32)) 4 false NO
def Om:Tr:=.need (.call 13 [(W 0 0),(WK (70))] [none]) (.call ⟨.value (.func 13),#[(.tmp 31),(.const (I3 (70)))],#[22,3]⟩) 4 false MI
theorem Xo:ae prog 296 (fun _=>none) (aM [1,0,0] (aO f4)) [(0,.v none),(1,.v none),(3,.v none),(9,.ref 3)] ([62].map ResultVar.tmp) none false=Om:=by kernel_rfl
def Qv:Tr:=.ret [(W 0 0)]
def Nf:Tr:=.need (.call 14 [] [none]) (.call ⟨.value (.func 14),#[],#[]⟩) 4 true Qv
theorem WI:ae prog 296 (fun _=>none) (aM [1,0,1,0,0] (aO f4)) [] ([10].map ResultVar.tmp) none false=Nf:=by kernel_rfl
def Rx:Tr:=.ret [(W 1 0),(W 2 0),(W 5 0),(W 6 0),(W 7 0),(W 8 0),(.one (.ref 0 [(.u 10 0),(.u 10 1),(.u 10 2),(.u 10 3)])),(.one (.ref 0 [(.u 11 0),(.u 11 1)])),(W 12 0),(.one (.ref 0 [(.u 13 0),(.u 13 1)])),(W 14 0),(W 15 0),(W 16 0),(W 17 0)]
def Rr:Tr:=.need (.call 36 [(W 5 0),(W 1 0),(W 7 0),(.agg [(U 9 0),(U 9 1),(U 9 2)])] [none,none,none]) (.call ⟨.value (.func 36),#[(.tmp 94),(.tmp 95),(.tmp 96),(.tmp 97)],#[28,3,28,46]⟩) 78 false Rx
def ON:Tr:=.need (.call 35 [(W 5 0),(W 1 0),(W 7 0)] [(some 2),none]) (.call ⟨.value (.func 35),#[(.tmp 87),(.tmp 88),(.tmp 89)],#[28,3,28]⟩) 57 false Rr
def Rw:Tr:=.need (.call 34 [(W 5 0),(W 1 0),(W 2 0)] [(some 2),none]) (.call ⟨.value (.func 34),#[(.tmp 80),(.tmp 81),(.tmp 82)],#[28,3,3]⟩) 57 false ON
def Pe:Tr:=.need (.call 15 [(.agg [(U 4 0),(U 4 1),(U 4 2)])] [(some 3),(some 4)]) (.call ⟨.value (.func 15),#[(.tmp 75)],#[27]⟩) 52 false Rw
def Np:Tr:=.need (.call 33 [(W 3 0)] [none,none]) (.call ⟨.value (.func 33),#[(.tmp 70)],#[22]⟩) 74 false Pe
def OQ:Tr:=.need (.call 33 [(W 0 0)] [none,none]) (.call ⟨.value (.func 33),#[(.tmp 65)],#[22]⟩) 74 false Np
theorem Xa:ae prog 296 (fun _=>none) (aM [1,1] (aO f4)) [(0,.v none),(1,.v none),(2,.v none),(3,.v none),(9,.ref 3)] ([1,2,11,12,13,14,16,17,18,19,20,21,22,23].map ResultVar.tmp) (some 5) false=OQ:=by kernel_rfl
def PG:Tr:=.ret [(W 3 0)]
def Rm:Tr:=.need (.prim [(W 2 0)] none) (.unOp .not 4 (.tmp 104)) 4 false PG
def OY:Tr:=.need (.call 37 [(W 1 0),(W 0 0)] [none]) (.call ⟨.value (.func 37),#[(.tmp 102),(.tmp 103)],#[32,3]⟩) 4 true Rm
theorem XG:ae prog 296 (fun _=>none) (aM [1,1,1,1,1,1,1,1,0,0] (aO f4)) [(1,.v none),(12,.v none)] ([105].map ResultVar.tmp) none false=OY:=by kernel_rfl
def Jj:Tr:=.ret [(W 16 0)]
def JP:Tr:=.need (.call 14 [] [none]) (.call ⟨.value (.func 14),#[],#[]⟩) 4 true Jj
def GK:Tr:=.ret [(.one (.c (.k (.bool false))))]
def HV:Tr:=.split (.u 15 0) JP GK
def IE:Tr:=.need (.prim [(W 14 0),(WK (0))] none) (.binOp .eql 3 (.tmp 129) (.const (I3 (0))) 3) 4 false HV
def Gi:Tr:=.need (.prim [(W 12 0),(W 13 0)] none) (.binOp .add 3 (.tmp 126) (.tmp 128) 3) 3 false IE
def Hm:Tr:=.need (.prim [(W 5 0)] none) (.call ⟨.builtin .len,#[(.tmp 127)],#[28]⟩) 3 false Gi
def Kg:Tr:=.need (.prim [(W 4 0)] none) (.call ⟨.builtin .len,#[(.tmp 125)],#[28]⟩) 3 false Hm
def Hi:Tr:=.ret [(.one (.c (.k (.bool false))))]
def PR:Tr:=.split (.u 11 0) Kg Hi
def RO:Tr:=.need (.call 24 [(.agg [(U 2 0),(U 2 1)])] [none]) (.call ⟨.value (.func 24),#[(.tmp 121)],#[31]⟩) 4 false PR
def FV:Tr:=.ret [(.one (.c (.k (.bool false))))]
def Oh:Tr:=.split (.u 10 0) RO FV
def Nc:Tr:=.need (.call 24 [(.agg [(U 0 0),(U 0 1)])] [none]) (.call ⟨.value (.func 24),#[(.tmp 117)],#[31]⟩) 4 false Oh
def GI:Tr:=.ret [(.one (.c (.k (.bool false))))]
def MB:Tr:=.split (.u 9 0) Nc GI
def Of:Tr:=.need (.prim [(W 6 0),(WK (2))] none) (.binOp .eql 54 (.tmp 113) (.const (I3 (2))) 54) 4 false MB
def IM:Tr:=.ret [(.one (.c (.k (.bool false))))]
def OG:Tr:=.split (.u 8 0) Of IM
def Nd:Tr:=.need (.prim [(W 3 0),(WK (2))] none) (.binOp .eql 54 (.tmp 109) (.const (I3 (2))) 54) 4 false OG
def Gz:Tr:=.ret [(.one (.c (.k (.bool false))))]
def Ru:Tr:=.split (.u 7 0) Nd Gz
def PZ:Tr:=.need (.prim [(W 1 0),(WK (2))] none) (.binOp .eql 54 (.tmp 106) (.const (I3 (2))) 54) 4 false Ru
theorem YA:ae prog 296 (fun _=>none) (aM [1,1,1,1,1,1,1,1,0,1,0,0] (aO f4)) [(17,.ref 2),(18,.v none),(19,.ref 2),(20,.v none),(21,.v none),(22,.v none),(23,.v none)] ([10].map ResultVar.tmp) none false=PZ:=by kernel_rfl
def MY:Tr:=.ret [(W 2 0)]
def MX:Tr:=.need (.call 38 [(W 1 0),(W 0 0)] [none]) (.call ⟨.value (.func 38),#[(.tmp 135),(.tmp 136)],#[32,3]⟩) 3 true MY
theorem Ws:ae prog 296 (fun _=>none) (aM [1,1,1,1,1,1,1,1,1,0] (aO f4)) [(1,.v none),(12,.v none)] ([24].map ResultVar.tmp) none false=MX:=by kernel_rfl
def QF:Tr:=.ret [(.one (.c (.k (.bool true))))]
def Oq:Tr:=.ret [(W 3 0)]
def Rl:Tr:=.need (.prim [(W 0 0),(W 1 0)] none) (.binOp .geq 3 (.tmp 141) (.tmp 142) 3) 4 false Oq
def RN:Tr:=.split (.u 2 0) QF Rl
def OC:Tr:=.need (.prim [(W 0 0),(WK (0))] none) (.binOp .lss 3 (.tmp 138) (.const (I3 (0))) 3) 4 false RN
theorem YC:ae prog 296 (fun _=>none) (aM [1,1,1,1,1,1,1,1,1,1,0,0] (aO f4)) [(2,.v none),(24,.v none)] ([144].map ResultVar.tmp) none false=OC:=by kernel_rfl
def Sa:Tr:=.fail 1011
def Ov:Tr:=.fail 1011
def Ri:Tr:=.ret []
def NR:Tr:=.split (.u 4 0) Ov Ri
def OA:Tr:=.need (.prim [(W 3 0)] none) (.unOp .not 4 (.tmp 149)) 4 false NR
def Rv:Tr:=.need (.call 24 [(.agg [(U 0 0),(U 0 1)])] [none]) (.call ⟨.value (.func 24),#[(.tmp 148)],#[31]⟩) 4 false OA
def PB:Tr:=.split (.u 2 0) Sa Rv
def RW:Tr:=.need (.prim [(W 1 0),(WK (3))] none) (.binOp .neq 54 (.tmp 145) (.const (I3 (3))) 54) 4 false PB
theorem Wx:ae prog 296 (fun _=>none) (aM [1,1,1,1,1,1,1,1,1,1,0,1,0] (aO f4)) [(17,.ref 2),(18,.v none)] ([].map ResultVar.tmp) none false=RW:=by kernel_rfl
def PU:Tr:=.ret [(W 3 0)]
def Rf:Tr:=.need (.prim [(W 2 0),(W 1 0)] none) (.binOp .neq 3 (.tmp 170) (.tmp 171) 3) 4 false PU
def QZ:Tr:=.need (.prim [(W 0 0)] none) (.call ⟨.builtin .len,#[(.tmp 169)],#[32]⟩) 3 false Rf
theorem Xk:ae prog 296 (fun _=>none) (aM [1,1,1,1,1,1,1,1,1,1,1,0,0] (aO f4)) [(14,.v none),(24,.v none)] ([172].map ResultVar.tmp) none false=QZ:=by kernel_rfl
def Kh:Tr:=.ret [(W 12 0)]
def GX:Tr:=.need (.call 14 [] [none]) (.call ⟨.value (.func 14),#[],#[]⟩) 4 true Kh
def KN:Tr:=.ret [(.one (.c (.k (.bool false))))]
def JW:Tr:=.split (.u 11 0) GX KN
def Ow:Tr:=.need (.prim [(W 10 0),(WK (0))] none) (.binOp .eql 3 (.tmp 188) (.const (I3 (0))) 3) 4 false JW
def Qa:Tr:=.need (.prim [(W 8 0),(W 9 0)] none) (.binOp .add 3 (.tmp 185) (.tmp 187) 3) 3 false Ow
def Qg:Tr:=.need (.prim [(W 3 0)] none) (.call ⟨.builtin .len,#[(.tmp 186)],#[28]⟩) 3 false Qa
def Nj:Tr:=.need (.prim [(W 2 0)] none) (.call ⟨.builtin .len,#[(.tmp 184)],#[28]⟩) 3 false Qg
def IQ:Tr:=.ret [(.one (.c (.k (.bool false))))]
def Mu:Tr:=.split (.u 7 0) Nj IQ
def Ol:Tr:=.need (.call 24 [(.agg [(U 0 0),(U 0 1)])] [none]) (.call ⟨.value (.func 24),#[(.tmp 180)],#[31]⟩) 4 false Mu
def FO:Tr:=.ret [(.one (.c (.k (.bool false))))]
def OW:Tr:=.split (.u 6 0) Ol FO
def Ry:Tr:=.need (.prim [(W 4 0),(WK (2))] none) (.binOp .eql 54 (.tmp 176) (.const (I3 (2))) 54) 4 false OW
def FQ:Tr:=.ret [(.one (.c (.k (.bool false))))]
def Rq:Tr:=.split (.u 5 0) Ry FQ
def Qd:Tr:=.need (.prim [(W 1 0),(WK (2))] none) (.binOp .eql 54 (.tmp 173) (.const (I3 (2))) 54) 4 false Rq
theorem WO:ae prog 296 (fun _=>none) (aM [1,1,1,1,1,1,1,1,1,1,1,0,1,0,0] (aO f4)) [(19,.ref 2),(20,.v none),(21,.v none),(22,.v none),(23,.v none)] ([10].map ResultVar.tmp) none false=Qd:=by kernel_rfl
def Mr:Tr:=.ret [(WK (0))]
theorem Xu:ae prog 296 (fun _=>none) (aM [1,1,1,1,1,1,1,1,1,1,1,1,1,1,0] (aO f4)) [] ([27].map ResultVar.tmp) none false=Mr:=by kernel_rfl
def GC:Tr:=.back 0 [(.w (W 11 0)),(.w (W 12 0))]
def Hy:Tr:=.need (.prim [(W 4 0),(WK (1))] none) (.binOp .add 3 (.tmp 210) (.const (I3 (1))) 3) 3 false GC
def Qu:Tr:=.need (.prim [(W 3 0),(WK (1))] none) (.binOp .add 3 (.tmp 219) (.const (I3 (1))) 3) 3 false Hy
def HS:Tr:=.back 0 [(.w (W 3 0)),(.w (W 11 0))]
def Gp:Tr:=.need (.prim [(W 4 0),(WK (1))] none) (.binOp .add 3 (.tmp 210) (.const (I3 (1))) 3) 3 false HS
def MW:Tr:=.split (.u 10 0) Qu Gp
def RG:Tr:=.need (.prim [(W 9 0),(WK (0))] none) (.binOp .eql 3 (.tmp 217) (.const (I3 (0))) 3) 4 false MW
def Oj:Tr:=.need (.call 41 [(.agg [(U 8 0),(U 8 1),(U 8 2),(U 8 3)]),(.agg [(U 1 0),(U 1 1),(U 1 2),(U 1 3)])] [none]) (.call ⟨.value (.func 41),#[(.tmp 215),(.tmp 216)],#[51,51]⟩) 3 true RG
def ME:Tr:=.need (.prim [(W 7 0)] (some 4)) (.load 51 (.tmp 214)) 51 false Oj
def Qz:Tr:=.need (.prim [(W 0 0),(W 4 0)] none) (.indexAddr 32 (.tmp 212) (.tmp 213)) 0 false ME
def FI:Tr:=.ret [(W 3 0)]
def QK:Tr:=.split (.u 6 0) Qz FI
def OU:Tr:=.need (.prim [(W 4 0),(W 5 0)] none) (.binOp .lss 3 (.tmp 206) (.tmp 208) 3) 4 false QK
def Qm:Tr:=.need (.prim [(W 0 0)] none) (.call ⟨.builtin .len,#[(.tmp 207)],#[32]⟩) 3 false OU
def On:Tr:=.loop 0 [(.w (W 2 0)),(.w (WK (0)))] Qm
theorem XH:ae prog 296 (fun _=>none) (aM [1,1,1,1,1,1,1,1,1,1,1,1,1,1,1,0] (aO f4)) [(12,.v none),(16,.ref 4),(27,.v none)] ([27].map ResultVar.tmp) none false=On:=by kernel_rfl
def NQ:Tr:=.ret [(WK (0))]
theorem Wn:ae prog 296 (fun _=>none) (aM [1,1,1,1,1,1,1,1,1,1,1,1,1,1,1,1,0] (aO f4)) [] ([29].map ResultVar.tmp) none false=NQ:=by kernel_rfl
def QU:Tr:=.ret [(WK (11))]
def KD:Tr:=.ret [(WK (11))]
def Ga:Tr:=.ret [(WK (5))]
def Iu:Tr:=.ret [(WK (5))]
def Gw:Tr:=.ret [(W 5 0)]
def Gd:Tr:=.split (.u 18 0) Iu Gw
def HQ:Tr:=.need (.prim [(W 17 0),(WK (60))] none) (.binOp .eql 3 (.tmp 246) (.const (I3 (60))) 3) 4 false Gd
def HZ:Tr:=.need (.prim [(W 1 0)] none) (.call ⟨.builtin .len,#[(.tmp 245)],#[32]⟩) 3 false HQ
def Ic:Tr:=.split (.u 16 0) Ga HZ
def Hg:Tr:=.need (.prim [(W 4 0),(W 0 0)] none) (.binOp .gtr 3 (.tmp 241) (.tmp 242) 3) 4 false Ic
def FG:Tr:=.split (.u 15 0) KD Hg
def JQ:Tr:=.need (.prim [(W 14 0),(WK (0))] none) (.binOp .geq 3 (.tmp 238) (.const (I3 (0))) 3) 4 false FG
def HG:Tr:=.need (.call 41 [(.agg [(U 2 0),(U 2 1),(U 2 2),(U 2 3)]),(.agg [(U 13 0),(U 13 1),(U 13 2),(U 13 3)])] [none]) (.call ⟨.value (.func 41),#[(.tmp 229),(.tmp 237)],#[51,51]⟩) 3 false JQ
def Qx:Tr:=.need (.prim [(W 12 0)] (some 4)) (.load 51 (.tmp 236)) 51 false HG
def Rd:Tr:=.need (.prim [(W 3 0),(W 11 0)] none) (.indexAddr 32 (.tmp 231) (.tmp 235)) 0 false Qx
def NT:Tr:=.need (.prim [(W 10 0),(WK (1))] none) (.binOp .sub 3 (.tmp 234) (.const (I3 (1))) 3) 3 false Rd
def Pr:Tr:=.need (.prim [(W 3 0)] none) (.call ⟨.builtin .len,#[(.tmp 233)],#[32]⟩) 3 false NT
def MD:Tr:=.split (.u 9 0) QU Pr
def Pj:Tr:=.need (.prim [(W 8 0),(WK (0))] none) (.binOp .leq 3 (.tmp 226) (.const (I3 (0))) 3) 4 false MD
def NK:Tr:=.need (.call 41 [(.agg [(U 2 0),(U 2 1),(U 2 2),(U 2 3)]),(.agg [(U 7 0),(U 7 1),(U 7 2),(U 7 3)])] [none]) (.call ⟨.value (.func 41),#[(.tmp 221),(.tmp 225)],#[51,51]⟩) 3 false Pj
def Qi:Tr:=.need (.prim [(W 6 0)] (some 4)) (.load 51 (.tmp 224)) 51 false NK
def Rt:Tr:=.need (.prim [(W 3 0),(WK (0))] none) (.indexAddr 32 (.tmp 223) (.const (I3 (0)))) 0 false Qi
theorem Ya:ae prog 296 (fun _=>none) (aM [1,1,1,1,1,1,1,1,1,1,1,1,1,1,1,1,1,0] (aO f4)) [(1,.v none),(12,.v none),(16,.ref 4),(26,.ref 2),(27,.v none),(29,.v none)] ([29].map ResultVar.tmp) none false=Rt:=by kernel_rfl
def MK:Tr:=.ret [(W 1 0)]
def QS:Tr:=.need (.prim [(W 0 0),(WK (0))] none) (.binOp .neq 54 (.tmp 249) (.const (I3 (0))) 54) 4 false MK
theorem XD:ae prog 296 (fun _=>none) (aM [1,1,1,1,1,1,1,1,1,1,1,1,1,1,1,1,1,1,0,0] (aO f4)) [(29,.v none)] ([250].map ResultVar.tmp) none false=QS:=by kernel_rfl
def Se:Tr:=.ret [(W 9 0)]
def Qq:Tr:=.need (.call 14 [] [none]) (.call ⟨.value (.func 14),#[],#[]⟩) 4 true Se
def RT:Tr:=.ret [(.one (.c (.k (.bool false))))]
def Pn:Tr:=.split (.u 8 0) Qq RT
def QJ:Tr:=.need (.prim [(W 7 0),(WK (0))] none) (.binOp .eql 3 (.tmp 259) (.const (I3 (0))) 3) 4 false Pn
def Pb:Tr:=.need (.prim [(W 5 0),(W 6 0)] none) (.binOp .add 3 (.tmp 256) (.tmp 258) 3) 3 false QJ
def Pd:Tr:=.need (.prim [(W 1 0)] none) (.call ⟨.builtin .len,#[(.tmp 257)],#[28]⟩) 3 false Pb
def OE:Tr:=.need (.prim [(W 0 0)] none) (.call ⟨.builtin .len,#[(.tmp 255)],#[28]⟩) 3 false Pd
def Iq:Tr:=.ret [(.one (.c (.k (.bool false))))]
def Pu:Tr:=.split (.u 4 0) OE Iq
def Og:Tr:=.need (.prim [(W 2 0),(W 3 0)] none) (.binOp .eql 54 (.tmp 251) (.tmp 252) 54) 4 false Pu
theorem Yl:ae prog 296 (fun _=>none) (aM [1,1,1,1,1,1,1,1,1,1,1,1,1,1,1,1,1,1,0,1,0,0] (aO f4)) [(21,.v none),(22,.v none),(23,.v none),(29,.v none)] ([10].map ResultVar.tmp) none false=Og:=by kernel_rfl
def kV(K:List de)(z:Int)(C:List de)(X:de):Bool:=jl K 70&&(!(decide ((9:Int)<K.length)&&decide ((K.length:Int)<=60))&&(!(decide (3<z)&&decide (z<=5))&&(jl C 12&&jl [X] 1)))
theorem bW7(K C:List de)(z i:Int)(X:de):vc prog (fun o=>az o (.ret [.one (sN K),.one (.int .i64 z),.one (.int .i64 i),.one (sN C),.one (.aw (nC X))])) (ae prog 296 (fun _=>none) (aM [] (aO f4)) [(0,.v none),(1,.v none),(2,.v none),(3,.v none),(4,.v (some 3))] ([0,1,2,3,9].map ResultVar.tmp) (some 0) false) ([.v (.one (sN K)),.v (.one (.int .i64 z)),.v (.one (.int .i64 i)),.v (.one (sN C)),.v (nT X)].map In.env) []:=by
 rw[WX];dsimp only[List.map,In.env,aE,aF];exact aL
theorem ch3(K C:List de)(z:Int)(X:de)(hs:K.length<140737488355328)(qj:C.length<140737488355328):vc prog (fun o=>az o (.ret [.one (.bool (!kV K z C X))])) (ae prog 296 (fun _=>none) (aM [1,0,0] (aO f4)) [(0,.v none),(1,.v none),(3,.v none),(9,.ref 3)] ([62].map ResultVar.tmp) none false) ([.v (.one (sN K)),.v (.one (.int .i64 z)),.v (.one (sN C)),.ref (nC X)].map In.env) []:=by
 rw[Xo];dsimp only[List.map,In.env,aE,aF];apply aA (mF K 70 hs);apply vn gQ;refine jm (!jl K 70) rfl (fun h2=>?_) (fun h2=>?_)
 ·rw[show(!kV K z C X)=true by simp[kV, *]];exact aL
 apply vn (aP Yq (aI _));apply vn fB;dsimp only[aE,aF];refine vs _ rfl ?_ ?_<;>intro h6
 ·apply vn (aP Yq (aI _));apply vn jO;refine vs _ rfl ?_ ?_<;>intro h9
  ·rw[show(!kV K z C X)=true by simp[kV, *]];exact aL
  apply vn fB;refine vs _ rfl ?_ ?_<;>intro h12
  ·apply vn jO;dsimp only[aE,aF];refine vs _ rfl ?_ ?_<;>intro h14
   ·rw[show(!kV K z C X)=true by simp[kV, *]];exact aL
   apply aA (mF C 12 qj);apply vn gQ;refine jm (!jl C 12) rfl (fun h18=>?_) (fun h18=>?_)
   ·rw[show(!kV K z C X)=true by simp[kV, *]];exact aL
   apply eL (us:=[nC X]);apply aA (mF [X] 1 (by simp));dsimp only[aE,aF];apply vn gQ;dsimp only[aE,aF];rw[show(!kV K z C X)=(!jl [X] 1) by simp[kV, *]];exact aL
  apply aA (mF C 12 qj);apply vn gQ;refine jm (!jl C 12) rfl (fun h26=>?_) (fun h26=>?_)
  ·rw[show(!kV K z C X)=true by simp[kV, *]];exact aL
  apply eL (us:=[nC X]);apply aA (mF [X] 1 (by simp));dsimp only[aE,aF];apply vn gQ;dsimp only[aE,aF];rw[show(!kV K z C X)=(!jl [X] 1) by simp[kV, *]];exact aL
 apply vn fB;refine vs _ rfl ?_ ?_<;>intro h33
 ·apply vn jO;refine vs _ rfl ?_ ?_<;>intro h35
  ·rw[show(!kV K z C X)=true by simp[kV, *]];exact aL
  apply aA (mF C 12 qj);apply vn gQ;dsimp only[aE,aF];refine jm (!jl C 12) rfl (fun h39=>?_) (fun h39=>?_)
  ·rw[show(!kV K z C X)=true by simp[kV, *]];exact aL
  apply eL (us:=[nC X]);apply aA (mF [X] 1 (by simp));apply vn gQ;dsimp only[aE,aF];rw[show(!kV K z C X)=(!jl [X] 1) by simp[kV, *]];exact aL
 apply aA (mF C 12 qj);apply vn gQ;refine jm (!jl C 12) rfl (fun h47=>?_) (fun h47=>?_)
 ·rw[show(!kV K z C X)=true by simp[kV, *]];exact aL
 apply eL (us:=[nC X]);apply aA (mF [X] 1 (by simp));dsimp only[aE,aF];apply vn gQ;dsimp only[aE,aF];rw[show(!kV K z C X)=(!jl [X] 1) by simp[kV, *]];exact aL
theorem cf0  :vc prog (fun o=>az o (.ret [.one (.bool true)])) (ae prog 296 (fun _=>none) (aM [1,0,1,0,0] (aO f4)) [] ([10].map ResultVar.tmp) none false) ([].map In.env) []:=by
 rw[WI];dsimp only[List.map,In.env,aE,aF];apply aA rn;exact aL
theorem bS7(K C:List de)(z i:Int)(X:de)(hK:∀x∈K,x.In)(hC:∀x∈C,x.In)(hX:X.In)(a1 b1 a2 b2 l1 l2:aC)(e1 e2 e3:Int)(dB:aU prog 34 [.one (sQ (cP K)),.one (.int .i64 z),.one (.int .i64 i)] (.ret [.agg [a1,b1],.one (.int .i64 e1)]))(dC:aU prog 35 [.one (sQ (cP K)),.one (.int .i64 z),.one (sQ (cP C))] (.ret [.agg [a2,b2],.one (.int .i64 e2)]))(dI:aU prog 36 [.one (sQ (cP K)),.one (.int .i64 z),.one (sQ (cP C)),qT X.v] (.ret [.one l1,.one l2,.one (.int .i64 e3)]))(hs:K.length<1099511627776:=by omega)(qj:C.length<1099511627776:=by omega):vc prog (fun o=>az o (.ret [.one (.int .i64 z),.one (.int .i64 i),.one (sQ (cP K)),.one (sR (kX K)),.one (sQ (cP C)),.one (sR (kX C)),.one (.aw (rC (.of X.v))),.one (.aw [a1,b1]),.one (.int .i64 e1),.one (.aw [a2,b2]),.one (.int .i64 e2),.one l1,.one l2,.one (.int .i64 e3)])) (ae prog 296 (fun _=>none) (aM [1,1] (aO f4)) [(0,.v none),(1,.v none),(2,.v none),(3,.v none),(9,.ref 3)] ([1,2,11,12,13,14,16,17,18,19,20,21,22,23].map ResultVar.tmp) (some 5) false) ([.v (.one (sN K)),.v (.one (.int .i64 z)),.v (.one (.int .i64 i)),.v (.one (sN C)),.ref (nC X)].map In.env) []:=by
 rw[Xa];dsimp only[List.map,In.env,aE,aF];apply aA (aa1 K hK hs);apply aA (aa1 C hC qj);apply aA (ad1 X hX);apply aA dB;dsimp only[aE,aF];apply aA dC;apply aA dI;exact aL
theorem bj8(kr:List RQ)(z:Int)(hk:∀a∈kr,Fit 40 a.q)(hs:kr.length<1099511627776:=by omega)(hz:-9223372036854775808<=z/\z<9223372036854775808:=by omega):vc prog (fun o=>az o (.ret [.one (.bool (!decide (im (kr.map RQ.q) z)))])) (ae prog 296 (fun _=>none) (aM [1,1,1,1,1,1,1,1,0,0] (aO f4)) [(1,.v none),(12,.v none)] ([105].map ResultVar.tmp) none false) ([.v (.one (.int .i64 z)),.v (.one (sR kr))].map In.env) []:=by
 rw[XG];dsimp only[List.map,In.env,aE,aF];apply aA (GF kr z 40 hk hs hz);apply vn gQ;exact aL
theorem cg1  :vc prog (fun o=>az o (.ret [.one (.bool true)])) (ae prog 296 (fun _=>none) (aM [1,1,1,1,1,1,1,1,0,1,0,0] (aO f4)) [(17,.ref 2),(18,.v none),(19,.ref 2),(20,.v none),(21,.v none),(22,.v none),(23,.v none)] ([10].map ResultVar.tmp) none false) ([.ref ([sQ [],eQ []]),.v (.one (.int .i64 2)),.ref ([sQ [],eQ []]),.v (.one (.int .i64 2)),.v (.one (sQ [])),.v (.one (sQ [])),.v (.one (.int .i64 2))].map In.env) []:=by
 rw[YA];dsimp only[List.map,In.env,aE,aF];apply vn bj;refine jm true rfl (fun _=>?_) (fun h=>by cases h);apply vn bj;refine jm true rfl (fun _=>?_) (fun h=>by cases h);apply vn bj;refine jm true rfl (fun _=>?_) (fun h=>by cases h);apply aA wF;dsimp only[aE,aF];refine jm true rfl (fun _=>?_) (fun h=>by cases h);apply aA wF;refine jm true rfl (fun _=>?_) (fun h=>by cases h);apply vn (aP ay (n:=0) rfl);apply vn (aP ay (n:=0) rfl);apply vn (aB (by omega) (by omega));dsimp only[aE,aF];apply vn bj;refine jm true rfl (fun _=>?_) (fun h=>by cases h);apply aA rn;exact aL
theorem bV8(kr:List RQ)(d:Nat)(hs:kr.length<1099511627776:=by omega)(hd:d<1099511627776:=by omega):vc prog (fun o=>az o (.ret [.one (.int .i64 ((kr.length:Int)-(d:Int)-1))])) (ae prog 296 (fun _=>none) (aM [1,1,1,1,1,1,1,1,1,0] (aO f4)) [(1,.v none),(12,.v none)] ([24].map ResultVar.tmp) none false) ([.v (.one (.int .i64 (d:Int))),.v (.one (sR kr))].map In.env) []:=by
 rw[Ws];dsimp only[List.map,In.env,aE,aF];apply aA (td kr d hs hd);exact aL
theorem bX9(i n:Int):vc prog (fun o=>az o (.ret [.one (.bool (decide (i<0\/n<=i)))])) (ae prog 296 (fun _=>none) (aM [1,1,1,1,1,1,1,1,1,1,0,0] (aO f4)) [(2,.v none),(24,.v none)] ([144].map ResultVar.tmp) none false) ([.v (.one (.int .i64 i)),.v (.one (.int .i64 n))].map In.env) []:=by
 rw[YC];dsimp only[List.map,In.env,aE,aF];apply vn aj;refine vs _ rfl ?_ ?_<;>intro h1
 ·rw[bV (show i<0\/n<=i from .inl ‹_›)];exact aL
 apply vn iI;dsimp only[aE,aF];rw[kF.2 (show(i<0\/n<=i)↔n<=i from⟨fun h=>h.resolve_left ‹_›,.inr⟩)];exact aL
theorem cc7  :vc prog (fun o=>az o (.ret [])) (ae prog 296 (fun _=>none) (aM [1,1,1,1,1,1,1,1,1,1,0,1,0] (aO f4)) [(17,.ref 2),(18,.v none)] ([].map ResultVar.tmp) none false) ([.ref ([sQ [],eQ []]),.v (.one (.int .i64 3))].map In.env) []:=by
 rw[Wx];dsimp only[List.map,In.env,aE,aF];apply vn fC;refine jm false rfl (fun h=>by cases h) (fun _=>?_);apply aA wF;apply vn gQ;refine jm false rfl (fun h=>by cases h) (fun _=>?_);exact aL
theorem bR5(cr:List RQ)(n:Int)(hs:cr.length<1099511627776):vc prog (fun o=>az o (.ret [.one (.bool (decide ((cr.length:Int)≠n)))])) (ae prog 296 (fun _=>none) (aM [1,1,1,1,1,1,1,1,1,1,1,0,0] (aO f4)) [(14,.v none),(24,.v none)] ([172].map ResultVar.tmp) none false) ([.v (.one (sR cr)),.v (.one (.int .i64 n))].map In.env) []:=by
 rw[Xk];dsimp only[List.map,In.env,aE,aF];apply vn (aP eG (aI _));apply vn fC;exact aL
theorem bR1  :vc prog (fun o=>az o (.ret [.one (.bool true)])) (ae prog 296 (fun _=>none) (aM [1,1,1,1,1,1,1,1,1,1,1,0,1,0,0] (aO f4)) [(19,.ref 2),(20,.v none),(21,.v none),(22,.v none),(23,.v none)] ([10].map ResultVar.tmp) none false) ([.ref ([sQ [],eQ []]),.v (.one (.int .i64 2)),.v (.one (sQ [])),.v (.one (sQ [])),.v (.one (.int .i64 2))].map In.env) []:=by
 rw[WO];dsimp only[List.map,In.env,aE,aF];apply vn bj;refine jm true rfl (fun _=>?_) (fun h=>by cases h);apply vn bj;refine jm true rfl (fun _=>?_) (fun h=>by cases h);apply aA wF;refine jm true rfl (fun _=>?_) (fun h=>by cases h);apply vn (aP ay (n:=0) rfl);dsimp only[aE,aF];apply vn (aP ay (n:=0) rfl);apply vn (aB (by omega) (by omega));apply vn bj;refine jm true rfl (fun _=>?_) (fun h=>by cases h);apply aA rn;exact aL
theorem bT7  :vc prog (fun o=>az o (.ret [.one (.int .i64 0)])) (ae prog 296 (fun _=>none) (aM [1,1,1,1,1,1,1,1,1,1,1,1,1,1,0] (aO f4)) [] ([27].map ResultVar.tmp) none false) ([].map In.env) []:=by
 rw[Xu];dsimp only[List.map,In.env,aE,aF];exact aL
theorem bZ9(kr:List RQ)(x:RQ)(hk:∀a∈kr,Fit 40 a.q)(hx:Fit 40 x.q)(hs:kr.length<1099511627776:=by omega):vc prog (fun o=>az o (.ret [.one (.int .i64 (mulN (kr.map RQ.q) x.q kr.length:Nat))])) (ae prog 296 (fun _=>none) (aM [1,1,1,1,1,1,1,1,1,1,1,1,1,1,1,0] (aO f4)) [(12,.v none),(16,.ref 4),(27,.v none)] ([27].map ResultVar.tmp) none false) ([.v (.one (sR kr)),.ref (rC x),.v (.one (.int .i64 0))].map In.env) []:=by
 rw[XH];dsimp only[List.map,In.env,aE,aF];refine bE {i:Nat // i<=kr.length} (fun g=>[.one (.int .i64 (mulN (kr.map RQ.q) x.q g.1:Nat)),.one (.int .i64 (g.1:Int))]) (fun g=>kr.length-g.1) ⟨0,cz _⟩ aZ.rfl (fun _=>rfl) ?_;rintro⟨i,hi⟩;dsimp only[aE,aF]at hi|-;have hm:mulN (kr.map RQ.q) x.q i<=i:=aq (sV _ _) (by rw[bK];omega);apply vn (aP eG (aI _));apply vn aj;refine vs _ rfl ?_ ?_<;>intro h3
 ·have hms:=mg (kn:=kr.map RQ.q) (x:=x.q) (i:=i) (by rw[aI];omega);rw[fN]at hms;apply vn (aJ (f:=rC) eG (m:=i) (by omega) (av i) (bf (show i<kr.length by omega)));apply vn (aQ gB (by decide) (by simp) (.inl rfl));dsimp only[aE,aF];apply aA (jw _ _ 40 40 (af hk _) hx);apply vn bj;refine vs _ rfl ?_ ?_<;>intro h8
  ·apply vn (aB (by omega) (by omega));apply vn (aB (by omega) (by omega));dsimp only[aE,aF];rw[aK ‹_›]at hms;exact ab rfl ⟨⟨i+1,by omega⟩,⟨.inl (by rw[hms];rfl),.inl rfl,trivial⟩,by show kr.length-(i+1)<kr.length-i;omega⟩
  apply vn (aB (by omega) (by omega));dsimp only[aE,aF];rw[aG ‹_›,bq]at hms;exact ab rfl ⟨⟨i+1,by omega⟩,⟨.inl (by dsimp only;rw[hms];rfl),.inl rfl,trivial⟩,by show kr.length-(i+1)<kr.length-i;omega⟩
 obtain rfl:i=kr.length:=by omega
 exact aL
theorem cb7  :vc prog (fun o=>az o (.ret [.one (.int .i64 0)])) (ae prog 296 (fun _=>none) (aM [1,1,1,1,1,1,1,1,1,1,1,1,1,1,1,1,0] (aO f4)) [] ([29].map ResultVar.tmp) none false) ([].map In.env) []:=by
 rw[Wn];dsimp only[List.map,In.env,aE,aF];exact aL
theorem ZK{a b:Rat}:0<=ef a b↔b<=a:=by
 rw[<-mc,iD,fu]
noncomputable def wk(a b x:Rat)(m d n:Nat):Int:=if x<=a\/b<=x then 11 else if d<m\/n=60 then 5 else 0
theorem bQ6(kr tk:List RQ)(x:RQ)(d m A:Nat)(hk:∀a∈tk,Fit A a.q)(hx:Fit A x.q)(q:aC)(hA1:1<=A:=by omega)(hA:A<=1000000:=by omega)(hs:kr.length<1099511627776:=by omega)(ht:0<tk.length:=by omega)(hts:tk.length<1099511627776:=by omega):vc prog (fun o=>az o (.ret [.one (.int .i64 (wk (tk.getD 0 .nil).q (tk.getD (tk.length-1) .nil).q x.q m d kr.length))])) (ae prog 296 (fun _=>none) (aM [1,1,1,1,1,1,1,1,1,1,1,1,1,1,1,1,1,0] (aO f4)) [(1,.v none),(12,.v none),(16,.ref 4),(26,.ref 2),(27,.v none),(29,.v none)] ([29].map ResultVar.tmp) none false) ([.v (.one (.int .i64 (d:Int))),.v (.one (sR kr)),.ref (rC x),.ref ([sR tk,q]),.v (.one (.int .i64 (m:Int))),.v (.one (.int .i64 0))].map In.env) []:=by
 rw[Ya];dsimp only[List.map,In.env,aE,aF];apply vn (aJ (f:=rC) eG (m:=0) (by omega) rfl (bf ht));apply vn (aQ gB (by decide) (by simp) (.inl rfl));apply aA (jw _ _ A A hx (af hk _ hA1));apply vn jO;dsimp only[aE,aF];refine vs _ rfl ?_ ?_<;>intro h4
 ·rw[wk,aK (.inl (nI.1 ‹_›))];exact aL
 apply vn (aP eG (aI _));apply vn (aH (by omega) (by omega));dsimp only[aE,aF];apply vn (aJ (f:=rC) eG (m:=tk.length-1) (by omega) (by omega) (bf (show tk.length-1<tk.length by omega)));apply vn (aQ gB (by decide) (by simp) (.inl rfl));apply aA (jw _ _ A A hx (af hk _ hA1));apply vn iI;dsimp only[aE,aF];refine vs _ rfl ?_ ?_<;>intro h12
 ·rw[wk,aK (.inr (ZK.1 ‹_›))];exact aL
 have hin:¬(x.q<=(tk.getD 0 .nil).q\/(tk.getD (tk.length-1) .nil).q<=x.q):=fun h=>h.elim (fun h=>absurd (nI.2 h) ‹_›) (fun h=>absurd (ZK.2 h) ‹_›);apply vn fB;refine vs _ rfl ?_ ?_<;>intro h15
 ·rw[wk,aG hin,aK (.inl (by omega))];exact aL
 apply vn (aP eG (aI _));apply vn bj;refine vs _ rfl ?_ ?_<;>intro h19
 ·rw[wk,aG hin,aK (.inr (by omega))];exact aL
 rw[wk,aG hin,aG (by omega)];exact aL
theorem cl1(e:Int):vc prog (fun o=>az o (.ret [.one (.bool (decide (e≠0)))])) (ae prog 296 (fun _=>none) (aM [1,1,1,1,1,1,1,1,1,1,1,1,1,1,1,1,1,1,0,0] (aO f4)) [(29,.v none)] ([250].map ResultVar.tmp) none false) ([.v (.one (.int .i64 e))].map In.env) []:=by
 rw[XD];dsimp only[List.map,In.env,aE,aF];apply vn fC;exact aL
theorem bR2(e:Int):vc prog (fun o=>az o (.ret [.one (.bool true)])) (ae prog 296 (fun _=>none) (aM [1,1,1,1,1,1,1,1,1,1,1,1,1,1,1,1,1,1,0,1,0,0] (aO f4)) [(21,.v none),(22,.v none),(23,.v none),(29,.v none)] ([10].map ResultVar.tmp) none false) ([.v (.one (sQ [])),.v (.one (sQ [])),.v (.one (.int .i64 e)),.v (.one (.int .i64 e))].map In.env) []:=by
 rw[Yl];dsimp only[List.map,In.env,aE,aF];apply vn bj;refine jm true (congrArg aC.bool (bV rfl)) (fun _=>?_) (fun h=>by cases h);apply vn (aP ay (n:=0) rfl);apply vn (aP ay (n:=0) rfl);apply vn (aB (by omega) (by omega));dsimp only[aE,aF];apply vn bj;refine jm true rfl (fun _=>?_) (fun h=>by cases h);apply aA rn;exact aL
theorem ag8{p:List Rat}(h:lz p):trim p=p:=uR (gj _) h fun x=>lW x _
theorem ao0:∀d,d<=3->1<=lj 62 d/\lj 62 d<=130000/\FB 62 d<=1000
 | 0,_=>by decide
 | 1,_=>by decide
 | 2,_=>by decide
 | 3,_=>by decide
 | _+4,h=>by omega
theorem ax6{kn:List Rat}{d n m κ:Nat}(h:(oJ kn d n)[m]?=some κ):d<=κ/\κ<n/\kn.getD κ 0≠kn.getD (κ+1) 0:=by
 have:=qR.1 (ei h);exact⟨(qG this.2).1,fL.1 this.1,(qG this.2).2⟩
def uP(kn:List Rat)(d n:Nat):List Rat:=(oJ kn d n).map (fun t=>kn.getD t 0)++[kn.getD n 0]
theorem Lh{kn:List Rat}{d n:Nat}(hd:d<=n):uP kn d (n+1)=if kn.getD n 0≠kn.getD (n+1) 0 then uP kn d n++[kn.getD (n+1) 0]else uP kn d n:=by
 unfold uP;split
 ·rw[oy ⟨hd,‹_›⟩,bt];rfl
 ·rename_i h;rw[wV (fun h'=>h h'.2),oA.1 h]
theorem BG(kn:List Rat)(d n:Nat):(uP kn d n).length=(oJ kn d n).length+1:=by rw[uP,cJ,aI];rfl
theorem zS{l m:List Rat}{i:Nat}(h:i<l.length):(l++m).getD i 0=l.getD i 0:=by
 rw[fQ,eU h,fQ]
theorem DL{l:List Rat}{x:Rat}{i:Nat}(h:i=l.length):(l++[x]).getD i 0=x:=by
 subst h;rw[fQ,iB (aa _),fU];rfl
theorem Lo{kn:List Rat}{d:Nat}:∀n,d<=n->(uP kn d n).getD 0 0=kn.getD d 0
 | 0,h=>by
   obtain rfl:d=0:=by omega
   rfl
 | n+1,h=>by
   by_cases e:d=n+1
   ·subst e;rw[uP,vF];rfl
   ·rw[Lh (kn:=kn) (show d<=n by omega)];have ih:=Lo (kn:=kn) (d:=d) n (by omega);split
    ·rw[zS (by rw[BG];omega),ih]
    ·exact ih
theorem xM{kn:List Rat}{d:Nat}:∀n,d<=n->∀m κ,(oJ kn d n)[m]?=some κ->(uP kn d n).getD m 0=kn.getD κ 0/\(uP kn d n).getD (m+1) 0=kn.getD (κ+1) 0
 | 0,h,m,κ,hm=>by have:=(ax6 hm).2.1;omega
 | n+1,h,m,κ,hm=>by
   by_cases e:d=n+1
   ·subst e;rw[vF]at hm;cases hm
   ·have ih:=xM (kn:=kn) n (show d<=n by omega);have hl:=BG kn d n;rw[Lh (kn:=kn) (show d<=n by omega)];split
    ·rename_i hne;rw[oy ⟨by omega,hne⟩]at hm;by_cases c:m<(oJ kn d n).length
     ·rw[eU c]at hm;obtain⟨h1,h2⟩:=ih m κ hm;exact⟨(zS (by omega)).trans h1,(zS (by omega)).trans h2⟩
     ·have hlt:=(dM.1 hm).1;rw[cJ,lF]at hlt;obtain rfl:m=(oJ kn d n).length:=by omega
      rw[iB (aa _),fU]at hm;obtain rfl:n=κ:=by simpa using hm
      constructor
      ·exact(zS (by omega)).trans (DL (by rw[aI]))
      ·exact DL (by omega)
    ·rename_i hne;rw[wV fun h'=>hne h'.2]at hm;exact ih m κ hm
theorem am6(kn:List Rat)(d n:Nat):(uP kn d n).getD ((uP kn d n).length-1) 0=kn.getD n 0:=DL (by rw[BG,aI];omega)
abbrev kR(t:List RQ)(d:Nat):List RQ:=(yr t d (t.length-1-d)).map (fun k=>t.getD k .nil)++[t.getD (t.length-1-d) .nil]
abbrev pR(t c:List RQ)(d:Nat):List (List RQ):=(yr t d (t.length-1-d)).map fun k=>VO t c (nK t k) d (t.length-d-1)
theorem OV(t:List RQ)(d:Nat):(kR t d).map RQ.q=uP (t.map RQ.q) d ((t.map RQ.q).length-1-d):=by
 rw[kR,uP,bt,et,aI]
 congr 1
 ·exact fW fun k _=>(fN t k).symm
 ·rw[fN];rfl
theorem at4{t c:List RQ}{d m:Nat}{p:List RQ}(hr:gT false (t.map RQ.q)=true)(h:(pR t c d)[m]?=some p):∃κ,(oJ (t.map RQ.q) d ((t.map RQ.q).length-1-d))[m]?=some κ/\p.map RQ.q=nW (t.map RQ.q) d (c.map RQ.q) κ:=by
 rw[pR,cn,zP]at h;obtain⟨κ,hκ,rfl⟩:=h;refine⟨κ,by rw[aI];exact hκ,?_⟩;obtain⟨h1,h2,h3⟩:=ax6 hκ;have hle:=dS hr (show κ<=κ+1 by omega) (by rw[aI];omega);rw[fN,fN]at h3 hle;obtain⟨x1,x2⟩:=aK6 (Rat.not_le.1 fun h=>h3 (Rat.le_antisymm hle h));have hm:=Sb (d:=d) (c:=c) hr x1 x2 (show κ+1<t.length by omega) (t.length-d-1) (by omega);have ha:=bg8 (cf:=c.map RQ.q) (show κ+d+1<(t.map RQ.q).length by rw[aI];omega) h1;rw[aI]at ha;exact hm.trans ha
theorem bq7{t c:List RQ}{d:Nat}(hr:gT false (t.map RQ.q)=true):eqR (pR t c d)=(oJ (t.map RQ.q) d ((t.map RQ.q).length-1-d)).map (nW (t.map RQ.q) d (c.map RQ.q)):=by
 apply fJ;intro m;obtain⟨o,ho⟩:∃o,(pR t c d)[m]?=o:=⟨_,rfl⟩
 rw[eqR,cn (l:=pR t c d),ho,cn];cases o with
 | some p=>
   obtain⟨κ,h1,h2⟩:=at4 hr ho;rw[h1,cK,cK,h2]
 | none=>
   rw[aI];rw[pR,cn,Option.map_eq_none_iff]at ho;rw[ho];rfl
theorem aI6{t c:List RQ}{d:Nat}(hk:∀a∈t,Fit 62 a.q)(hc:∀a∈c,Fit 62 a.q)(hd:d<=3)(hl:t.length<=60)(hr:gT false (t.map RQ.q)=true):∀p∈pR t c d,p.length<=1000/\∀a∈p,Fit 8000000 a.q:=by
 intro p hp;obtain⟨m,hm⟩:=qf hp;obtain⟨κ,h1,h2⟩:=at4 hr hm;have hb:=ao0 d hd
 have hK:∀a∈t.map RQ.q,Fit 62 a:=fun a ha=>by
  obtain⟨b,hb,rfl⟩:=dH.1 ha;exact hk b hb
 have hC:∀a∈c.map RQ.q,Fit 62 a:=fun a ha=>by
  obtain⟨b,hb,rfl⟩:=dH.1 ha;exact hc b hb
 constructor
 ·rw[XN h2];exact aq (vY _ _ _ _ _ _) (by omega)
 ·refine Qe h2 fun a ha=>(wU (by omega) hK hC d κ _ hb.1 _ a ha).mono ?_;rw[aI];have h3:min κ (t.length-d-1-1)+1-(κ-d)<=60:=by omega
  have:=iA h3 (show lj 62 d+62+1<=130063 by omega);omega
theorem Zg{t c:List RQ}{d:Nat}(hk:∀a∈t,Fit 62 a.q)(hc:∀a∈c,Fit 62 a.q)(hd:d<=3)(hl:t.length<=60)(hr:gT false (t.map RQ.q)=true):aU prog 25 [cg7 (t.map RQ.q) (c.map RQ.q) d,.agg [sR (kR t d),eR (pR t c d)]] (.ret [.one (.bool true)]):=by
 have hn:(yr t d (t.length-1-d)).length<=t.length-1-d:=vG (t.map RQ.q) d (t.length-1-d)
 have hK:∀a∈kR t d,Fit 62 a.q:=fun a ha=>by
  rcases fI.1 ha with h | h
  ·obtain⟨k,_,rfl⟩:=dH.1 h;exact af hk k
  ·rw[ed.1 h];exact af hk _
 refine bd1 _ _ (kR t d) (pR t c d) 8000000 ?_ ?_ (fun a ha=>(hK a ha).mono (by omega)) (fun p hp=>⟨by have:=(aI6 hk hc hd hl hr p hp).1;omega,(aI6 hk hc hd hl hr p hp).2⟩) (by rw[cJ,aI,lF];omega) (by rw[aI];omega)
 ·exact(OV t d).symm
 ·rw[bq7 hr,et];exact fW fun κ _=>(ag8 (Bn _ _ _ _ _ _)).symm
def Oi:Tr:=.fail 1011
def KG:Tr:=.fail 1011
def Gn:Tr:=.ret []
def Kq:Tr:=.split (.u 12 0) KG Gn
def QP:Tr:=.need (.prim [(W 11 0)] none) (.unOp .not 4 (.tmp 166)) 4 false Kq
def Qf:Tr:=.need (.call 25 [(.agg [(U 3 0),(U 3 1)]),(.agg [(U 10 0),(U 10 1)])] [none]) (.call ⟨.value (.func 25),#[(.tmp 161),(.tmp 165)],#[31,35]⟩) 4 false QP
def RL:Tr:=.need (.call 40 [(W 2 0),(W 0 0),(.one (.c (.sr 4 8)))] [(some 2)]) (.call ⟨.value (.func 40),#[(.tmp 162),(.tmp 163),(.tmp 164)],#[32,3,32]⟩) 35 false Qf
def Oa:Tr:=.split (.u 9 0) Oi RL
def Ns:Tr:=.need (.prim [(W 4 0),(WK (0))] none) (.binOp .neq 54 (.tmp 158) (.const (I3 (0))) 54) 4 false Oa
def MM:Tr:=.need (.strow 6 4 (.u 1 0) 0 [(.u 7 0),(.u 7 1),(.u 7 2),(.u 7 3)]) (.store 51 (.tmp 157) (.tmp 156)) 0 false Ns
def Qh:Tr:=.need (.idx 6 (.u 1 0)) (.indexAddr 32 (.tmp 154) (.tmp 155)) 0 false MM
def PO:Tr:=.need (.call 39 [(WK (1))] [(some 4)]) (.call ⟨.value (.func 39),#[(.const (I3 (1)))],#[2]⟩) 51 true Qh
def QE:Tr:=.need (.make [(.int .i64 (0)),(.slice none 0 0),(.int .i64 (0)),(.slice none 0 0)] 64 (.u 5 0) (.u 5 0)) (.makeSlice 32 (.tmp 152) (.tmp 152)) 32 false PO
theorem Yz:ae prog 296 (fun _=>none) (aM [1,1,1,1,1,1,1,1,1,1,0,1,1] (aO f4)) [(1,.v none),(2,.v none),(12,.v none),(17,.ref 2),(18,.v none),(24,.v none)] ([].map ResultVar.tmp) none false=QE:=by kernel_rfl
def NU:Tr:=.ret [(.one (.ref 0 [(.u 3 0),(.u 3 1)]))]
def RV:Tr:=.need (.call 40 [(W 1 0),(W 0 0),(W 2 0)] [(some 2)]) (.call ⟨.value (.func 40),#[(.tmp 194),(.tmp 195),(.tmp 196)],#[32,3,32]⟩) 35 true NU
theorem Wg:ae prog 296 (fun _=>none) (aM [1,1,1,1,1,1,1,1,1,1,1,1,0] (aO f4)) [(1,.v none),(12,.v none),(14,.v none)] ([26].map ResultVar.tmp) none false=RV:=by kernel_rfl
def MH:Tr:=.fail 1011
def OI:Tr:=.fail 1011
def RY:Tr:=.ret []
def Sc:Tr:=.split (.u 5 0) OI RY
def Rn:Tr:=.need (.prim [(W 4 0)] none) (.unOp .not 4 (.tmp 203)) 4 false Sc
def QB:Tr:=.need (.call 25 [(.agg [(U 0 0),(U 0 1)]),(.agg [(U 2 0),(U 2 1)])] [none]) (.call ⟨.value (.func 25),#[(.tmp 201),(.tmp 202)],#[31,35]⟩) 4 false Rn
def OZ:Tr:=.split (.u 3 0) MH QB
def MP:Tr:=.need (.prim [(W 1 0),(WK (0))] none) (.binOp .neq 54 (.tmp 198) (.const (I3 (0))) 54) 4 false OZ
theorem XB:ae prog 296 (fun _=>none) (aM [1,1,1,1,1,1,1,1,1,1,1,1,1,0] (aO f4)) [(19,.ref 2),(20,.v none),(26,.ref 2)] ([].map ResultVar.tmp) none false=MP:=by kernel_rfl
def ak4(n i:Nat):List RQ:=(List.replicate n RQ.nil).set i (.of ((1:Int):Rat))
theorem aB0(t:List RQ)(d i:Nat):(ak4 (t.length-d-1) i).map RQ.q=Gy (t.map RQ.q) d i:=by
 rw[ak4,Gy,sf,nq,aI];rfl
theorem Vh{A n i:Nat}(hA:62<=A):∀a∈ak4 n i,Fit A a.q:=fun a ha=>by
 rcases oB ha with h | rfl
 ·rw[(jW.1 h).2];exact Fit.zero (by omega)
 ·exact(Fit.int (n:=1) (B:=62) (by omega) (by omega)).mono hA
abbrev z4:List aC:=[.exact (.int .i64 0),.exact (.slice none 0 0),.exact (.int .i64 0),.exact (.slice none 0 0)]
abbrev aw6(kn cf:List Rat)(d:Nat):List aC:=[sQ ((oJ kn d (kn.length-1-d)).map (fun t=>kn.getD t 0)++[kn.getD (kn.length-1-d) 0]),eQ ((oJ kn d (kn.length-1-d)).map (nW kn d cf))]
theorem bX5(t:List RQ)(d i:Nat)(hk:∀a∈t,Fit 62 a.q)(hd:d<=3)(F:EZ (t.map RQ.q) d)(hi:i<t.length-d-1:=by omega):vc prog (fun o=>az o (.ret [])) (ae prog 296 (fun _=>none) (aM [1,1,1,1,1,1,1,1,1,1,0,1,1] (aO f4)) [(1,.v none),(2,.v none),(12,.v none),(17,.ref 2),(18,.v none),(24,.v none)] ([].map ResultVar.tmp) none false) ([.v (.one (.int .i64 (d:Int))),.v (.one (.int .i64 (i:Int))),.v (.one (sR t)),.ref (aw6 (t.map RQ.q) (Gy (t.map RQ.q) d i) d),.v (.one (.int .i64 0)),.v (.one (.int .i64 ((t.length:Int)-(d:Int)-1)))].map In.env) []:=by
 rw[Yz];dsimp only[List.map,In.env,aE,aF];have hs:=F.hs;have h2:=F.h2;rw[aI]at hs h2;rw[show(t.length:Int)-(d:Int)-1=((t.length-d-1:Nat):Int) by omega];refine ri (n:=t.length-d-1) (m:=t.length-d-1) (us:=List.replicate (t.length-d-1) z4) rfl rfl rfl (aa _) (by omega) (by simp only[maxLen];omega) ?_;apply aA (jd 1);refine qV rfl rfl (by omega) (by rw[eX];omega) ?_;refine Mf (ts:=List.replicate (t.length-d-1) z4) (us:=(List.replicate (t.length-d-1) z4).set i (rC (.of ((1:Int):Rat)))) rfl rfl (by omega) (cells:=z4) (by rw[av,vQ,aK (by omega)]) (by rw[av];rfl) ?_;apply vn fC;dsimp only[aE,aF];refine jm false rfl (fun h=>by cases h) (fun _=>?_);refine Mv ?_ (AU t (ak4 (t.length-d-1) i) d 62 hk (Vh (by omega)) hs h2 (by rw[ak4,bJ,eX]) F.hr (by have:=ao0 d hd;omega)) rfl ?_
 ·refine⟨aC.Sub.same,aC.Sub.same,Vj ?_,trivial⟩;rw[rR,ak4,sf,nq];exact uu ⟨aC.Sub.same,aC.Sub.same,aC.Sub.same,aC.Sub.same,trivial⟩ i (rb cc0 _)
 dsimp only[aE,aF];rw[<-aB0];apply aA (Zg hk (Vh (aa _)) hd hs F.hr);apply vn gQ;refine jm false rfl (fun h=>by cases h) (fun _=>?_);exact aL
theorem bX2(t c:List RQ)(d:Nat)(hk:∀a∈t,Fit 62 a.q)(hc:∀a∈c,Fit 62 a.q)(hd:d<=3)(F:EZ (t.map RQ.q) d)(hcl:c.length=t.length-d-1):vc prog (fun o=>az o (.ret [.one (.aw [sR (kR t d),eR (pR t c d)])])) (ae prog 296 (fun _=>none) (aM [1,1,1,1,1,1,1,1,1,1,1,1,0] (aO f4)) [(1,.v none),(12,.v none),(14,.v none)] ([26].map ResultVar.tmp) none false) ([.v (.one (.int .i64 (d:Int))),.v (.one (sR t)),.v (.one (sR c))].map In.env) []:=by
 rw[Wg];dsimp only[List.map,In.env,aE,aF];have hs:=F.hs;have h2:=F.h2;rw[aI]at hs h2;apply aA (AU t c d 62 hk hc hs h2 hcl F.hr (by have:=ao0 d hd;omega)) rfl;exact aL
theorem cd0(t c:List RQ)(d:Nat)(hk:∀a∈t,Fit 62 a.q)(hc:∀a∈c,Fit 62 a.q)(hd:d<=3)(F:EZ (t.map RQ.q) d):vc prog (fun o=>az o (.ret [])) (ae prog 296 (fun _=>none) (aM [1,1,1,1,1,1,1,1,1,1,1,1,1,0] (aO f4)) [(19,.ref 2),(20,.v none),(26,.ref 2)] ([].map ResultVar.tmp) none false) ([.ref (aw6 (t.map RQ.q) (c.map RQ.q) d),.v (.one (.int .i64 0)),.ref ([sR (kR t d),eR (pR t c d)])].map In.env) []:=by
 rw[XB];dsimp only[List.map,In.env,aE,aF];have hs:=F.hs;rw[aI]at hs;apply vn fC;refine jm false rfl (fun h=>by cases h) (fun _=>?_);apply aA (Zg hk hc hd hs F.hr);apply vn gQ;refine jm false rfl (fun h=>by cases h) (fun _=>?_);exact aL
theorem ad8{f:Nat->Rat}:∀(c i:Nat),f i<f (i+c)->∃j,i<=j/\j<i+c/\f j<f (j+1)
 | 0,i,h=>absurd h mS
 | c+1,i,h=>by
   by_cases h1:f (i+c)<f (i+c+1)
   ·exact⟨i+c,by omega,by omega,h1⟩
   ·obtain⟨j,h2,h3,h4⟩:=ad8 (f:=f) c i (by
     have h5:f (i+c+1)<=f (i+c):=fu.1 h1;have h:f i<f (i+c+1):=h
     grind)
    exact⟨j,h2,by omega,h4⟩
theorem Ze{kn:List Rat}{x:Rat}{lo:Nat}:∀c,lo+c<=kn.length->(∀t,lo<=t->t<lo+c->kn.getD t 0=x)->c<=mulN kn x (lo+c)
 | 0,_,_=>cz _
 | c+1,h,hx=>by
   have ih:=Ze c (by omega) fun t h1 h2=>hx t h1 (by omega);have:=mg (kn:=kn) (x:=x) (i:=lo+c);rw[aK (gL.2 (hx (lo+c) (by omega) (by omega)))]at this;show c+1<=mulN kn x (lo+c+1);omega
theorem Ut{kn:List Rat}{x:Rat}{n:Nat}:∀c,n+c<=kn.length->mulN kn x n<=mulN kn x (n+c)
 | 0,_=>aa _
 | c+1,h=>by
   have ih:=Ut (kn:=kn) (x:=x) (n:=n) c (by omega);have:=mg (kn:=kn) (x:=x) (i:=n+c);show mulN kn x n<=mulN kn x (n+c+1);omega
section
variable{kn:List Rat}{x:Rat}{k d:Nat}
theorem Add.lo(A:Add kn x k d){j:Nat}(h:j<=k):(fx kn x k).getD j 0=kn.getD j 0:=by rw[mG (by have:=A.hk;omega),aK h]
theorem Add.mid(A:Add kn x k d):(fx kn x k).getD (k+1) 0=x:=by rw[mG (by have:=A.hk;omega),aG (by omega),aK rfl]
theorem Add.hi(A:Add kn x k d){j:Nat}(h:k<j):(fx kn x k).getD (j+1) 0=kn.getD j 0:=by rw[mG (by have:=A.hk;omega),aG (by omega),aG (by omega),jS]
theorem bg1(A:Add kn x k d)(F:EZ kn d)(hx:kn.getD d 0<x)(hm:mulN kn x kn.length<=d){i:Nat}(hi:i+d+1<kn.length+1) :
  ∃j κ,i<=j/\j<=i+d/\d<=κ/\κ+d+1<kn.length/\kn.getD κ 0<kn.getD (κ+1) 0/\(fx kn x k).getD j 0<(fx kn x k).getD (j+1) 0/\kn.getD κ 0<=(fx kn x k).getD j 0/\(fx kn x k).getD (j+1) 0<=kn.getD (κ+1) 0:=by
 have hk:=A.hk;have hd:=A.hd;have l1:=A.l1;have l2:=A.l2;have h2:=F.h2;have hle:∀{a b:Nat},a<=b->b<kn.length->kn.getD a 0<=kn.getD b 0:=fun h1 h2=>dS A.hr h1 h2
 have hst:∀{a:Nat},a+d+1<kn.length->kn.getD a 0<kn.getD (a+d+1) 0:=fun {a} h=>by
  have h1:=hle (show a<=a+d+1 by omega) h;have h3:=F.hm (a+d+1) (by omega) h;rw[show a+d+1-d-1=a by omega]at h3;exact Rat.not_le.1 fun h4=>h3 (Rat.le_antisymm h4 h1)
 obtain⟨j,h1,h3,h4,h5,h6⟩:∃j,i<=j/\j<=i+d/\d<=j/\j<=kn.length-d-1/\(fx kn x k).getD j 0<(fx kn x k).getD (j+1) 0:=by
  by_cases c1:i<=d
  ·refine⟨d,c1,by omega,aa _,by omega,?_⟩;rw[A.lo hd];by_cases c2:d=k
   ·subst c2;rw[A.mid];exact hx
   ·rw[A.lo (by omega)];exact iD.1 F.hf
  by_cases c2:kn.length-d-1<=i+d
  ·refine⟨kn.length-d-1,by omega,c2,by omega,aa _,?_⟩;rw[A.hi (by omega)];by_cases c3:kn.length-d-1=k+1
   ·rw[c3,A.mid];exact l2
   ·have e:kn.length-d-1=kn.length-1-d-1+1:=by omega
    rw[e,A.hi (by omega),<-e];have:=iD.1 F.hl
    rwa[show kn.length-1-d=kn.length-d-1 by omega]at this|-
  obtain⟨j,h1,h3,h4⟩:=ad8 (f:=fun j=>(fx kn x k).getD j 0) (d+1) i (by
   show(fx kn x k).getD i 0<(fx kn x k).getD (i+d+1) 0;by_cases c3:i+d+1<=k
   ·rw[A.lo (by omega),A.lo c3];exact hst (by omega)
   by_cases c4:i+d=k
   ·rw[c4,A.mid,A.lo (by omega)];have h1:=hle (show i<=k by omega) (by omega);refine Rat.not_le.1 fun h=>?_
    have h3:=Ze (kn:=kn) (x:=x) (lo:=i) (d+1) (by omega) fun t h3 h4=>by
     have h5:=hle h3 (by omega);have h6:=hle (show t<=k by omega) (by omega)
     grind
    have h4:=Ut (kn:=kn) (x:=x) (n:=i+(d+1)) (kn.length-(i+(d+1))) (by omega);rw[show i+(d+1)+(kn.length-(i+(d+1)))=kn.length by omega]at h4;omega
   rw[A.hi (show k<i+d by omega)];have h7:=hle (show k+1<=i+d by omega) (by omega);by_cases c5:i<=k
   ·rw[A.lo c5];have h8:=hle c5 (by omega)
    grind
   by_cases c6:i=k+1
   ·rw[c6,A.mid,<-c6]
    grind
   obtain⟨i',rfl⟩:∃i',i=i'+1:=⟨i-1,by omega⟩
   rw[A.hi (by omega),show i'+1+d=i'+d+1 by omega];exact hst (by omega))
  exact⟨j,h1,by omega,by omega,by omega,h4⟩
 by_cases c:j<=k
 ·have e1:=A.lo c
  have e2:(fx kn x k).getD (j+1) 0<=kn.getD (j+1) 0:=by
   by_cases c2:j=k
   ·subst c2;rw[A.mid];exact sq l2
   ·rw[A.lo (by omega)];exact Rat.le_refl
  exact⟨j,j,h1,h3,h4,by omega,by grind,h6,by rw[e1];exact Rat.le_refl,e2⟩
 ·obtain⟨κ,rfl⟩:∃κ,j=κ+1:=⟨j-1,by omega⟩
  have e2:=A.hi (show k<κ+1 by omega)
  have e1:kn.getD κ 0<=(fx kn x k).getD (κ+1) 0:=by
   by_cases c2:κ=k
   ·subst c2;rw[A.mid];exact l1
   ·rw[A.hi (by omega)];exact Rat.le_refl
  exact⟨κ+1,κ,h1,h3,by omega,by omega,by grind,h6,e1,by rw[e2];exact Rat.le_refl⟩
theorem bA5{T:List Rat}{i:Nat}(h:i+d+1<=T.length):(T.take (i+d+1)).drop (i+1)=qk T i d:=by
 apply fJ;intro r;rw[eo,dm,qk,cn];by_cases c:r<d
 ·rw[aK (by omega),kv c,cK,aX (show i+1+r<T.length by omega)]
 ·rw[aG (by omega),iR (l:=List.range d) (by rw[oh];omega)];rfl
theorem SD{cf:List Rat}{m:Nat}(hk:∀a∈kn,Fit 62 a)(hc:∀a∈cf,Fit 62 a)(hx:Fit 62 x)(j:Nat):Fit 2000 (sF kn cf x d k m j):=by
 have fk:=fun i=>aD hk i (by omega:1<=62);have fc:=fun i=>aD hc i (by omega:1<=62);have f5:Fit (62+62+1+(62+62+1)) ((x-kn.getD j 0)/(kn.getD (j+d) 0-kn.getD j 0)):=(hx.sub (fk j)).div ((fk (j+d)).sub (fk j));unfold sF;split
 ·exact(fc _).mono (by omega)
 split
 ·exact(fc _).mono (by omega)
 ·exact(((fc j).mul f5).add ((fc (j-1)).mul ((Fit.int (n:=1) (B:=62) (by omega) (by omega)).sub f5))).mono (by omega)
end
def NL:Tr:=.ret [(W 2 0)]
def NV:Tr:=.need (.call 42 [(W 0 0),(.agg [(U 1 0),(U 1 1),(U 1 2),(U 1 3)])] [none]) (.call ⟨.value (.func 42),#[(.tmp 265),(.tmp 266)],#[32,51]⟩) 32 true NL
theorem WG:ae prog 296 (fun _=>none) (aM [1,1,1,1,1,1,1,1,1,1,1,1,1,1,1,1,1,1,1,0] (aO f4)) [(12,.v none),(16,.ref 4)] ([30].map ResultVar.tmp) none false=NV:=by kernel_rfl
def GU:Tr:=.ret [(W 16 0)]
def IZ:Tr:=.need (.call 14 [] [none]) (.call ⟨.value (.func 14),#[],#[]⟩) 4 true GU
def Ii:Tr:=.ret [(.one (.c (.k (.bool false))))]
def IL:Tr:=.split (.u 15 0) IZ Ii
def RI:Tr:=.need (.call 43 [(W 3 0),(W 4 0)] [none]) (.call ⟨.value (.func 43),#[(.tmp 289),(.tmp 290)],#[28,32]⟩) 4 false IL
def Il:Tr:=.ret [(.one (.c (.k (.bool false))))]
def Nv:Tr:=.split (.u 14 0) RI Il
def RD:Tr:=.need (.call 43 [(W 1 0),(W 2 0)] [none]) (.call ⟨.value (.func 43),#[(.tmp 284),(.tmp 285)],#[28,32]⟩) 4 false Nv
def Ik:Tr:=.ret [(.one (.c (.k (.bool false))))]
def Pm:Tr:=.split (.u 13 0) RD Ik
def NF:Tr:=.need (.call 43 [(W 6 0),(W 12 0)] [none]) (.call ⟨.value (.func 43),#[(.tmp 276),(.tmp 280)],#[28,32]⟩) 4 false Pm
def No:Tr:=.need (.call 44 [(.agg [(U 8 0),(U 8 1)]),(W 9 0),(W 0 0)] [none]) (.call ⟨.value (.func 44),#[(.tmp 277),(.tmp 278),(.tmp 279)],#[35,32,3]⟩) 32 false NF
def Hw:Tr:=.ret [(.one (.c (.k (.bool false))))]
def QC:Tr:=.split (.u 11 0) No Hw
def PA:Tr:=.need (.call 43 [(W 5 0),(W 9 0)] [none]) (.call ⟨.value (.func 43),#[(.tmp 271),(.tmp 272)],#[28,32]⟩) 4 false QC
def Gl:Tr:=.ret [(.one (.c (.k (.bool false))))]
def OH:Tr:=.split (.u 10 0) PA Gl
def QI:Tr:=.need (.prim [(W 7 0),(WK (0))] none) (.binOp .eql 54 (.tmp 268) (.const (I3 (0))) 54) 4 false OH
theorem Xb:ae prog 296 (fun _=>none) (aM [1,1,1,1,1,1,1,1,1,1,1,1,1,1,1,1,1,1,1,1,0] (aO f4)) [(1,.v none),(11,.v none),(12,.v none),(13,.v none),(14,.v none),(21,.v none),(22,.v none),(23,.v none),(26,.ref 2),(30,.v none)] ([10].map ResultVar.tmp) none false=QI:=by kernel_rfl
abbrev vT(t:List RQ)(x:Rat)(k:Nat):List RQ:=t.take (k+1)++[.of x]++t.drop (k+1)
theorem wZ(t:List RQ)(x:Rat)(k:Nat):(vT t x k).map RQ.q=fx (t.map RQ.q) x k:=by
 rw[vT,fx,bt,bt,jB,kC];rfl
theorem ay2{t:List RQ}{x:Rat}{k A:Nat}(hk:∀a∈t,Fit A a.q)(hx:Fit A x):∀a∈vT t x k,Fit A a.q:=fun a ha=>by
 rcases fI.1 ha with h | h
 ·rcases fI.1 h with h | h
  ·exact hk a (iL h)
  ·rw[ed.1 h];exact hx
 ·exact hk a (lP h)
theorem ck0(t:List RQ)(x:Rat)(k d:Nat)(hk:∀a∈t,Fit 62 a.q)(hx:Fit 62 x)(hs:t.length<=60)(A:Add (t.map RQ.q) x k d):vc prog (fun o=>az o (.ret [.one (sR (vT t x k))])) (ae prog 296 (fun _=>none) (aM [1,1,1,1,1,1,1,1,1,1,1,1,1,1,1,1,1,1,1,0] (aO f4)) [(12,.v none),(16,.ref 4)] ([30].map ResultVar.tmp) none false) ([.v (.one (sR t)),.ref (rC (.of x))].map In.env) []:=by
 rw[WG];dsimp only[List.map,In.env,aE,aF];have hkd:=A.hk;have l1:=A.l1;have l2:=A.l2;rw[aI]at hkd;rw[fN]at l1 l2;refine aA (aM7 t (.of x) k 62 hk hx hs (fun i hi=>?_) l2) rfl ?_
 ·have:=dS A.hr hi (by rw[aI];omega);rw[fN,fN]at this;exact Rat.le_trans this l1
 exact aL
theorem ck5(t c:List RQ)(x:Rat)(k d:Nat)(hk:∀a∈t,Fit 62 a.q)(hc:∀a∈c,Fit 62 a.q)(hx:Fit 62 x)(hd3:d<=3)(F:EZ (t.map RQ.q) d)(hcl:c.length=t.length-d-1)(A:Add (t.map RQ.q) x k d)(hx1:(t.map RQ.q).getD d 0<x)(hm:mulN (t.map RQ.q) x (t.map RQ.q).length<=d):vc prog (fun o=>az o (.ret [.one (.bool true)])) (ae prog 296 (fun _=>none) (aM [1,1,1,1,1,1,1,1,1,1,1,1,1,1,1,1,1,1,1,1,0] (aO f4)) [(1,.v none),(11,.v none),(12,.v none),(13,.v none),(14,.v none),(21,.v none),(22,.v none),(23,.v none),(26,.ref 2),(30,.v none)] ([10].map ResultVar.tmp) none false) ([.v (.one (.int .i64 (d:Int))),.v (.one (sQ (t.map RQ.q))),.v (.one (sR t)),.v (.one (sQ (c.map RQ.q))),.v (.one (sR c)),.v (.one (sQ (fx (t.map RQ.q) x k))),.v (.one (sQ (nU (t.map RQ.q) (c.map RQ.q) x d k (mulN (t.map RQ.q) x (t.map RQ.q).length) (t.length-d)))),.v (.one (.int .i64 0)),.ref ([sR (kR t d),eR (pR t c d)]),.v (.one (sR (vT t x k)))].map In.env) []:=by
 rw[Xb];dsimp only[List.map,In.env,aE,aF];have hs:=F.hs;have h2:=F.h2;rw[aI]at hs h2;have hkd:=A.hk;rw[aI]at hkd;have hb:=ao0 d hd3;have hTl:(vT t x k).length=t.length+1:=by rw[vT,cJ,cJ,bK,cW,lF];omega
 have hTf:=ay2 (k:=k) hk hx
 have hK:∀a∈t.map RQ.q,Fit 62 a:=fun a ha=>by
  obtain⟨b,hb,rfl⟩:=dH.1 ha;exact hk b hb
 have hC:∀a∈c.map RQ.q,Fit 62 a:=fun a ha=>by
  obtain⟨b,hb,rfl⟩:=dH.1 ha;exact hc b hb
 have hKf:∀a∈kR t d,Fit 62 a.q:=fun a ha=>by
  rcases fI.1 ha with h | h
  ·obtain⟨k,_,rfl⟩:=dH.1 h;exact af hk k
  ·rw[ed.1 h];exact af hk _
 have hpl:(pR t c d).length<=t.length-1-d:=by rw[pR,aI];exact vG _ _ _
 have hTm:∀i,(vT t x k).getD i .nil=(vT t x k).getD i .nil/\((vT t x k).getD i .nil).q=(fx (t.map RQ.q) x k).getD i 0:=fun i=>⟨rfl,by rw[<-fN,wZ]⟩
 have hKm:∀i,((kR t d).getD i .nil).q=(uP (t.map RQ.q) d ((t.map RQ.q).length-1-d)).getD i 0:=fun i=>by rw[<-fN,OV]
 have hAf:∀a∈fx (t.map RQ.q) x k,Fit 62 a:=fun a ha=>by
  rw[<-wZ]at ha;obtain⟨b,hb,rfl⟩:=dH.1 ha;exact hTf b hb
 have hle:d<=(t.map RQ.q).length-1-d:=by rw[aI];omega
 apply vn bj;refine jm true rfl (fun _=>?_) (fun h=>by cases h);apply aA (ow (fx (t.map RQ.q) x k) (vT t x k) 62 hAf hTf (by rw[Sv (by rw[aI];omega),aI];omega)) rfl;rw[bV (wZ t x k).symm];refine jm true rfl (fun _=>?_) (fun h=>by cases h);refine aA (WV (kR t d) (vT t x k) (pR t c d) d 8000000 62 (sF (t.map RQ.q) (c.map RQ.q) x d k (mulN (t.map RQ.q) x (t.map RQ.q).length)) hKf hTf (aI6 hk hc hd3 hs F.hr) (by rw[kR,pR,cJ,aI,aI];rfl) ?_ ?_) rfl ?_
 ·intro i j m p hi hij hji hp ⟨o1,o2,o3⟩;obtain⟨κ,hκ,hpκ⟩:=at4 F.hr hp;obtain⟨n1,n2,n3⟩:=ax6 hκ;obtain⟨e1,e2⟩:=xM _ hle m κ hκ;rw[(hTm _).2,(hTm _).2]at o1;rw[hKm,(hTm _).2,e1]at o2;rw[hKm,(hTm _).2,e2]at o3;rw[aW4,hpκ,kC,jB,wZ,bA5 (by rw[Sv (by rw[aI];omega),aI];omega)];rw[aI]at n2;exact bB0 A (by rw[aI];omega) hij hji (by rw[aI];omega) n1 (by rw[aI];omega) o1 o2 o3
 ·intro i hi;obtain⟨j,κ,g1,g2,g3,g4,g5,g6,g7,g8⟩:=bg1 A F hx1 hm (i:=i) (by rw[aI];omega);rw[aI]at g4;obtain⟨m,hmκ⟩:∃m,(oJ (t.map RQ.q) d ((t.map RQ.q).length-1-d))[m]?=some κ:=qf (qR.2 ⟨fL.2 (by rw[aI];omega),bV ⟨g3,fun h=>absurd g5 (by rw[h];exact mS)⟩⟩);obtain⟨e1,e2⟩:=xM _ hle m κ hmκ;refine⟨j,m,g1,g2,?_,?_⟩
  ·have:=(dM.1 hmκ).1;rw[pR,aI]
   rwa[aI]at this
  ·unfold okN;rw[(hTm _).2,(hTm _).2,hKm,hKm,e1,e2];exact⟨g6,g7,g8⟩
 refine aA (ow (nU (t.map RQ.q) (c.map RQ.q) x d k (mulN (t.map RQ.q) x (t.map RQ.q).length) (t.length-d)) (wT (sF (t.map RQ.q) (c.map RQ.q) x d k (mulN (t.map RQ.q) x (t.map RQ.q).length)) ((vT t x k).length-d-1)) 2000 (fun a ha=>?_) (fun a ha=>?_) (by rw[nU,aI,oh];omega) (by rw[En];omega)) rfl ?_
 ·obtain⟨j,_,rfl⟩:=dH.1 ha;exact SD hK hC hx j
 ·obtain⟨j,_,rfl⟩:=dH.1 ha;exact SD hK hC hx j
 rw[bV (show nU (t.map RQ.q) (c.map RQ.q) x d k (mulN (t.map RQ.q) x (t.map RQ.q).length) (t.length-d)=(wT (sF (t.map RQ.q) (c.map RQ.q) x d k (mulN (t.map RQ.q) x (t.map RQ.q).length)) ((vT t x k).length-d-1)).map RQ.q from by rw[hTl,show t.length+1-d-1=t.length-d by omega,wT,et];rfl)];dsimp only[aE,aF];refine jm true rfl (fun _=>?_) (fun h=>by cases h);apply aA (ow (t.map RQ.q) t 62 hK hk (by rw[aI];omega)) rfl;rw[bV (rfl:t.map RQ.q=t.map RQ.q)];refine jm true rfl (fun _=>?_) (fun h=>by cases h);apply aA (ow (c.map RQ.q) c 62 hC hc (by rw[aI];omega)) rfl;rw[bV (rfl:c.map RQ.q=c.map RQ.q)];refine jm true rfl (fun _=>?_) (fun h=>by cases h);apply aA rn;exact aL
end Go.Sy
