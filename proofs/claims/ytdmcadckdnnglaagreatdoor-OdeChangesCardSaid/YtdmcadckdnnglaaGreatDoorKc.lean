/- Part. -/
import Derived.Test.YtdmcadckdnnglaaGreatDoorKb
set_option linter.all false
namespace Go.Sy
open Go Go.Proofs Go.RowKit Tryz Ord
attribute [local go_sem] Oper.semAt_some
abbrev wZ:List aE:=[.exact (.slice none 0 0),.bool false,.exact (.slice none 0 0),.exact (.slice none 0 0),.bool false,.exact (.slice none 0 0),.exact (.slice none 0 0),.bool false,.exact (.slice none 0 0),.exact (.slice none 0 0),.bool false,.exact (.slice none 0 0)]
end Go.Sy
namespace Go.Sy
open Go Go.Proofs Tryz Ord
def cb4:Tr:=ZM 0 0 1 2 10 (ZM 0 3 4 5 16 (.ret [.agg [U 1 0,U 1 1,U 1 2,U 3 0,U 3 1,U 3 2],.agg [U 2 0,U 2 1,U 2 2,U 2 3,U 4 0,U 4 1,U 4 2,U 4 3]]))
def PO:aO prog f82 cT [.v (some 6)]=cb4:=aT
abbrev cD3(l h:bz):aF:=.agg (nC l++nC h)
def SB(l h:bz)(hl:l.In)(hh:h.In):aK prog 82 [(cD3 l h:aF)] (.ret [kP l.v h.v,cK1 (.of l.v) (.of h.v)]):=by
 refine dB func82 PO ?_;apply aA (Gd l hl);apply aA (Gd h hh);exact aN
structure oY(D:Nat)(x:Rat):Prop where
 d:x.den∣D
 b:Wi 999 x
def oY.up{D:Nat}{x:Rat}(h:oY D x)(k:Nat):oY (D*k) x:=⟨Ba h.d (nX _ _),h.b⟩
def Vp{D:Nat}{z:Rat}(h0:D≠0)(h:z.den∣D):(ao z).den∣D*2:=by
 have h1:Bd D z.num.natAbs z:=⟨h,dn _ z.den_pos⟩
 exact(h1.mul h0 dO (show Bd 2 1 (mkRat 1 (2^1)) by decide)).1
def oY.mid{D:Nat}{x y:Rat}(h0:D≠0)(h:oY D x)(k:oY D y):oY (D*2) (ao (x+y)):=by
 refine⟨Vp h0 (den_add h0 h.d k.d),?_⟩;have e:=mN (x+y);obtain⟨h1,h2⟩:=h.b;obtain⟨k1,k2⟩:=k.b;generalize ao (x+y)=z at *
 constructor<;>grind
def aY7(x:Rat):(-x).den=x.den:=rfl
def oY.rad{D:Nat}{x y:Rat}(h0:D≠0)(h:oY D x)(k:oY D y):(ao (y-x)).den∣D*2/\Wi 999 (ao (y-x)):=by
 refine⟨Vp h0 ?_,?_⟩
 .rw[AJ];exact den_add h0 k.d (by rw[aY7];exact h.d)
 .have e:=mN (y-x);obtain⟨h1,h2⟩:=h.b;obtain⟨k1,k2⟩:=k.b;generalize ao (y-x)=z at *
  constructor<;>grind
def Qg{D:Nat}{x:Rat}(h0:D≠0)(hD:D<=2^36)(hd:x.den∣D)(hm:Wi 999 x):kD x:=by
 refine⟨an (uZ (iR h0) hd) (an hD dO),Ai.2 ?_⟩;obtain⟨h1,h2⟩:=hm;have e:(((2000:Nat):Int):Rat)=2000:=iN
 rw[e];constructor<;>grind
def oY.Dv{D:Nat}{x:Rat}(h:oY D x)(h0:D≠0)(hD:D<=2^36):kD x:=Qg h0 hD h.d h.b
def bz.aj6{x:bz}(h:x.short=true):x.v.den<=999/\Wi 999 x.v:=by
 obtain⟨h1,h2⟩:=bz.BJ h;have:=Ai.1 h2;have e:(((999:Nat):Int):Rat)=999:=iN
 rw[e]at this;exact⟨h1,this⟩
def ay5{l h:bz}(hl:l.short=true)(hh:h.short=true):∃D,D≠0/\D<=2^20/\oY D l.v/\oY D h.v:=by
 obtain⟨l1,l2⟩:=bz.aj6 hl;obtain⟨h1,h2⟩:=bz.aj6 hh;exact⟨l.v.den*h.v.den,da (lY _) (lY _),an (dE l1 h1) dO,⟨nX _ _,l2⟩,⟨rV _ _,h2⟩⟩
def VV{E:j0}{c r:Rat}{k:Int}{v:Option VS}{F:k6}(h:yI E c r k v=.ok F):∃V aB st n,v=some V/\bp (aV E c) (E.length-1) (aG E c)=some (aB,st)/\r+r<=aB/\ew E c aB st r 1 k=some n/\F=oV (aV E c) (E.length-1) (aG E c) aB st r k V n:=by
 cases v with
 | none=>cases h
 | some V=>
   obtain⟨o,ho⟩:∃o,bp (aV E c) (E.length-1) (aG E c)=o:=⟨_,rfl⟩
   cases o with
   | none=>rw[uN ho]at h;cases h
   | some z=>
     obtain⟨aB,st⟩:=z;by_cases hle:r+r<=aB
     .rw[yT ho hle]at h;obtain⟨o2,ho2⟩:∃o,ew E c aB st r 1 k=o:=⟨_,rfl⟩
      rw[ho2]at h;cases o2 with
      | none=>cases h
      | some n=>cases h;exact⟨V,aB,st,n,rfl,ho,hle,ho2,rfl⟩
     .rw[BK ho hle]at h;cases h
def Oz{E:j0}{c r:Rat}{k:Int}{v:Option VS}{er:Int}(h:yI E c r k v=.error er):er=5\/er=14:=by
 cases v with
 | none=>cases h;exact .inl rfl
 | some V=>
   obtain⟨o,ho⟩:∃o,bp (aV E c) (E.length-1) (aG E c)=o:=⟨_,rfl⟩
   cases o with
   | none=>rw[uN ho]at h;cases h;exact .inl rfl
   | some z=>
     obtain⟨aB,st⟩:=z;by_cases hle:r+r<=aB
     .rw[yT ho hle]at h;obtain⟨o2,ho2⟩:∃o,ew E c aB st r 1 k=o:=⟨_,rfl⟩
      rw[ho2]at h;cases o2 with
      | none=>cases h;exact .inl rfl
      | some n=>cases h
     .rw[BK ho hle]at h;cases h;exact .inr rfl
def aU1{q:j0}{m:Nat}{lead aB:Rat}{st:Nat}{r:Rat}{n B BS G W:Nat}{k:Int}{V:VS}(C:aQ9 q m lead aB st r n B BS G)(hk:k<=256)(hVl:V.length=m)(hV:∀p∈V,Fit W p.1/\Fit W p.2){d:Nat}(hd:d<=1){Q:Nat}(hQ:m*(W+(BS+G+1)+1)+1+257+257<=Q)(hW1:1<=W:=by omega) :
  Fit Q (oV q m lead aB st r k V n d).1/\Fit Q (oV q m lead aB st r k V n d).2:=by
 obtain⟨h1,h2⟩:=tL (M:=fun l=>V.getD l (0,0)) (v:=dL q m lead aB st r n d) (m:=m) (H:=W) (W:=BS+G+1) hW1 (fun l hl=>hV _ (cj (cY (v:=V)))) (fun l hl=>⟨(C.fs l hl d hd (n-d) (ah _)).1.add (C.ft l hl d hd).neg,(C.fs l hl d hd (n-d) (ah _)).2.add (C.ft l hl d hd)⟩) m (ah _);exact⟨(Lh h1).mono hQ,(TE h2).mono hQ⟩
open Go Go.Proofs Go.RowKit Tryz Ord
def bY4:Tr:=OS 0 0 1 2 1 0 1 1 1 2 6 7 (ju 2 0 0 3 8 (aJ 3 0 (OS 1 0 1 2 0 3 0 4 0 5 11 13 (ju 4 0 0 3 14 (cC 5))) (hx137Q )))
def bQ5:aO prog f69 cT [.v (some 6),.v (some 3)]=bY4:=aT
def bK7:Tr:=aJ 3 0 (.ret [WK (-1),tF true]) (ia 1 0 0 3 16 (aJ 4 0 (.ret [WK 1,tF true]) (gd 1 0 0 3 18 (aJ 5 0 (gd 2 0 0 3 21 (.ret [WK 0,W 6 0])) (.ret [WK 0,tF false])))))
def bF3:Tr:=tk 35 0 0 1 2 7 39 3 (vD 35 0 3 4 5 10 39 3 (kp 2 0 0 3 13 bK7))
def bj0:aO prog f239 cT [.v (some 6)]=bF3:=aT
def NA:Tr:=.ret [W 0 0,C9,A8,.one (.ref 0 [.u 3 0]),.one (.c (.k (.slice none 0 0))),W 6 0,.one (.c (.k (.bool true)))]
def JD:Tr:=.retr [W 0 0,C9,A8,.one (.ref 0 [.u 3 0]),.one (.c (.sr 6 29)),W 6 0,.one (.c (.k (.bool true)))] 29
def HZ:Tr:=.need (.lit 6 [[.u 28 0,.u 28 1,.u 28 2,.u 28 3,.u 28 4,.u 28 5]]) (.buildSlice 118 1 #[(0,.tmp 66)]) 118 false JD
def IL:Tr:=.need (.call 227 [.agg [U 2 0,U 2 1,U 2 2]] [some 6]) (D5 227 #[.tmp 65] #[39]) 123 true HZ
def Jv:Tr:=.ret [W 0 0,C9,A8,.one (.ref 0 [.u 3 0]),.one (.c (.k (.slice none 0 0))),W 6 0,.one (.c (.k (.bool true)))]
def La:Tr:=.ret [W 0 0,C9,A8,.one (.ref 0 [.u 3 0]),.one (.c (.k (.slice none 0 0))),W 6 0,.one (.c (.k (.bool true)))]
def KQ:Tr:=.retr [W 0 0,C9,A8,.one (.ref 0 [.u 3 0]),.one (.c (.sr 6 30)),W 6 0,.one (.c (.k (.bool true)))] 30
def HH:Tr:=.need (.lit 6 [[.u 2 0,.u 2 1,.u 2 2,.u 2 3,.u 2 4,.u 2 5]]) (.buildSlice 118 1 #[(0,.tmp 90)]) 118 false KQ
def Kp:Tr:=.split (.u 29 0) La HH
def JU:Tr:=.need (.prim [W 20 0,W 25 0] none) (.binOp .eql 3 (.tmp 80) (.tmp 81) 3) 4 false Kp
def HG:Tr:=.split (.u 28 0) Jv JU
def GC:Tr:=.need (.prim [W 25 0,WK (0)] none) (.binOp .eql 3 (.tmp 71) (.const (I3 (0))) 3) 4 false HG
def Ig:Tr:=.ret [W 0 0,C9,A8,.one (.ref 0 [.u 3 0]),W 4 0,W 6 0,.one (.c (.k (.bool false)))]
def KI:Tr:=.split (.u 26 0) GC Ig
def JF:Tr:=.split (.u 27 0) IL KI
def Kr:Tr:=.need (.prim [W 20 0,WK (0)] none) (.binOp .eql 3 (.tmp 61) (.const (I3 (0))) 3) 4 false JF
def Kz:Tr:=.ret [W 0 0,C9,A8,.one (.ref 0 [.u 3 0]),.one (.c (.k (.slice none 0 0))),W 6 0,.one (.c (.k (.bool true)))]
def HV:Tr:=.ret [W 0 0,C9,A8,.one (.ref 0 [.u 3 0]),W 4 0,W 6 0,.one (.c (.k (.bool false)))]
def Gz:Tr:=.split (.u 27 0) Kz HV
def IG:Tr:=.need (.prim [W 25 0,WK (0)] none) (.binOp .eql 3 (.tmp 71) (.const (I3 (0))) 3) 4 false Gz
def GR:Tr:=.ret [W 0 0,C9,A8,.one (.ref 0 [.u 3 0]),W 4 0,W 6 0,.one (.c (.k (.bool false)))]
def KD:Tr:=.split (.u 26 0) IG GR
def Jl:Tr:=.split (.u 21 0) Kr KD
def Ls:Tr:=.need (.call 239 [.agg [U 24 0,U 24 1,U 24 2,U 24 3,U 24 4,U 24 5]] [none,none]) (D5 239 #[.tmp 54] #[123]) 237 false Jl
def Lr:Tr:=.need (.prim [W 23 0] (some 6)) (.load 123 (.tmp 53)) 123 false Ls
def IU:Tr:=.need (.prim [W 22 0,WK (0)] none) (.indexAddr 118 (.tmp 52) (.const (I3 (0)))) 0 false Lr
def Ii:Tr:=.need (.call 234 [.agg [U 1 0,U 1 1,U 1 2,U 1 3,U 1 4],.agg [U 2 3,U 2 4,U 2 5],W 3 0] [none]) (D5 234 #[.tmp 48,.tmp 50,.tmp 51] #[42,39,3]) 118 false IU
def Jn:Tr:=.need (.call 239 [.agg [U 19 0,U 19 1,U 19 2,U 19 3,U 19 4,U 19 5]] [none,none]) (D5 239 #[.tmp 43] #[123]) 237 false Ii
def Hd:Tr:=.need (.prim [W 18 0] (some 6)) (.load 123 (.tmp 42)) 123 false Jn
def HF:Tr:=.need (.prim [W 17 0,WK (0)] none) (.indexAddr 118 (.tmp 41) (.const (I3 (0)))) 0 false Hd
def HP:Tr:=.need (.call 234 [.agg [U 1 0,U 1 1,U 1 2,U 1 3,U 1 4],.agg [U 2 0,U 2 1,U 2 2],W 3 0] [none]) (D5 234 #[.tmp 37,.tmp 39,.tmp 40] #[42,39,3]) 118 false HF
def KV:Tr:=.ret [W 0 0,C9,A8,.one (.ref 0 [.u 3 0]),W 4 0,W 6 0,.one (.c (.k (.bool false)))]
def JP:Tr:=.split (.u 16 0) HP KV
def Iq:Tr:=.need (.prim [W 15 0] none) (.unOp .not 4 (.tmp 33)) 4 false JP
def Ha:Tr:=.need (.call 69 [.agg [U 14 0,U 14 1,U 14 2,U 14 3,U 14 4,U 14 5],.agg [.c (.k (.slice none 0 0)),.c (.k (.bool false)),.c (.k (.slice none 0 0))]] [none]) (D5 69 #[.tmp 31,.tmp 32] #[123,39]) 4 false Iq
def GA:Tr:=.need (.prim [W 13 0] (some 6)) (.load 123 (.tmp 30)) 123 false Ha
def JY:Tr:=.need (.prim [.one (.ref 0 [.u 5 0,.u 5 1,.u 5 2,.u 5 3,.u 5 4,.u 5 5,.u 5 6,.u 5 7,.u 5 8,.u 5 9,.u 5 10,.u 5 11]),WK (1)] none) (.indexAddr 233 (.tmp 9) (.const (I3 (1)))) 0 false GA
def Jk:Tr:=.ret [W 0 0,C9,A8,.one (.ref 0 [.u 3 0]),W 4 0,W 6 0,.one (.c (.k (.bool false)))]
def Mr:Tr:=.split (.u 12 0) JY Jk
def NB:Tr:=.need (.prim [W 6 0,WK (0)] none) (.binOp .eql 55 (.tmp 27) (.const (I3 (0))) 55) 4 false Mr
def MD:Tr:=.split (.u 11 0) NA NB
def MJ:Tr:=.need (.prim [W 10 0] none) (.unOp .not 4 (.tmp 24)) 4 false MD
def Ml:Tr:=.need (.call 69 [.agg [U 9 0,U 9 1,U 9 2,U 9 3,U 9 4,U 9 5],.agg [.c (.k (.slice none 0 0)),.c (.k (.bool false)),.c (.k (.slice none 0 0))]] [none]) (D5 69 #[.tmp 22,.tmp 23] #[123,39]) 4 false MJ
def Nc:Tr:=.need (.prim [W 8 0] (some 6)) (.load 123 (.tmp 21)) 123 false Ml
def MN:Tr:=.need (.prim [.one (.ref 0 [.u 5 0,.u 5 1,.u 5 2,.u 5 3,.u 5 4,.u 5 5,.u 5 6,.u 5 7,.u 5 8,.u 5 9,.u 5 10,.u 5 11]),WK (0)] none) (.indexAddr 233 (.tmp 9) (.const (I3 (0)))) 0 false Nc
def KZ:Tr:=.retr [W 0 0,C9,A8,.one (.ref 0 [.u 3 0]),.one (.c (.sr 6 25)),W 6 0,.one (.c (.k (.bool true)))] 25
def IH:Tr:=.need (.lit 6 [[.u 24 0,.u 24 1,.u 24 2,.u 24 3,.u 24 4,.u 24 5]]) (.buildSlice 118 1 #[(0,.tmp 66)]) 118 false KZ
def Io:Tr:=.need (.call 227 [.agg [U 2 0,U 2 1,U 2 2]] [some 6]) (D5 227 #[.tmp 65] #[39]) 123 true IH
def Li:Tr:=.ret [W 0 0,C9,A8,.one (.ref 0 [.u 3 0]),.one (.c (.k (.slice none 0 0))),W 6 0,.one (.c (.k (.bool true)))]
def Lt:Tr:=.ret [W 0 0,C9,A8,.one (.ref 0 [.u 3 0]),.one (.c (.k (.slice none 0 0))),W 6 0,.one (.c (.k (.bool true)))]
def IA:Tr:=.retr [W 0 0,C9,A8,.one (.ref 0 [.u 3 0]),.one (.c (.sr 6 26)),W 6 0,.one (.c (.k (.bool true)))] 26
def Hv:Tr:=.need (.lit 6 [[.u 2 0,.u 2 1,.u 2 2,.u 2 3,.u 2 4,.u 2 5]]) (.buildSlice 118 1 #[(0,.tmp 90)]) 118 false IA
def Ip:Tr:=.split (.u 25 0) Lt Hv
def Lo:Tr:=.need (.prim [W 16 0,W 21 0] none) (.binOp .eql 3 (.tmp 80) (.tmp 81) 3) 4 false Ip
def HL:Tr:=.split (.u 24 0) Li Lo
def JW:Tr:=.need (.prim [W 21 0,WK (0)] none) (.binOp .eql 3 (.tmp 71) (.const (I3 (0))) 3) 4 false HL
def HR:Tr:=.ret [W 0 0,C9,A8,.one (.ref 0 [.u 3 0]),W 4 0,W 6 0,.one (.c (.k (.bool false)))]
def LK:Tr:=.split (.u 22 0) JW HR
def Ks:Tr:=.split (.u 23 0) Io LK
def IZ:Tr:=.need (.prim [W 16 0,WK (0)] none) (.binOp .eql 3 (.tmp 61) (.const (I3 (0))) 3) 4 false Ks
def LP:Tr:=.ret [W 0 0,C9,A8,.one (.ref 0 [.u 3 0]),.one (.c (.k (.slice none 0 0))),W 6 0,.one (.c (.k (.bool true)))]
def Ib:Tr:=.ret [W 0 0,C9,A8,.one (.ref 0 [.u 3 0]),W 4 0,W 6 0,.one (.c (.k (.bool false)))]
def IJ:Tr:=.split (.u 23 0) LP Ib
def Ht:Tr:=.need (.prim [W 21 0,WK (0)] none) (.binOp .eql 3 (.tmp 71) (.const (I3 (0))) 3) 4 false IJ
def JH:Tr:=.ret [W 0 0,C9,A8,.one (.ref 0 [.u 3 0]),W 4 0,W 6 0,.one (.c (.k (.bool false)))]
def Lk:Tr:=.split (.u 22 0) Ht JH
def Kh:Tr:=.split (.u 17 0) IZ Lk
def JT:Tr:=.need (.call 239 [.agg [U 20 0,U 20 1,U 20 2,U 20 3,U 20 4,U 20 5]] [none,none]) (D5 239 #[.tmp 54] #[123]) 237 false Kh
def GH:Tr:=.need (.prim [W 19 0] (some 6)) (.load 123 (.tmp 53)) 123 false JT
def Gt:Tr:=.need (.prim [W 18 0,WK (0)] none) (.indexAddr 118 (.tmp 52) (.const (I3 (0)))) 0 false GH
def LJ:Tr:=.need (.call 234 [.agg [U 1 0,U 1 1,U 1 2,U 1 3,U 1 4],.agg [U 2 3,U 2 4,U 2 5],W 3 0] [none]) (D5 234 #[.tmp 48,.tmp 50,.tmp 51] #[42,39,3]) 118 false Gt
def Iy:Tr:=.need (.call 239 [.agg [U 15 0,U 15 1,U 15 2,U 15 3,U 15 4,U 15 5]] [none,none]) (D5 239 #[.tmp 43] #[123]) 237 false LJ
def Ki:Tr:=.need (.prim [W 14 0] (some 6)) (.load 123 (.tmp 42)) 123 false Iy
def JO:Tr:=.need (.prim [W 13 0,WK (0)] none) (.indexAddr 118 (.tmp 41) (.const (I3 (0)))) 0 false Ki
def GI:Tr:=.need (.call 234 [.agg [U 1 0,U 1 1,U 1 2,U 1 3,U 1 4],.agg [U 2 0,U 2 1,U 2 2],W 3 0] [none]) (D5 234 #[.tmp 37,.tmp 39,.tmp 40] #[42,39,3]) 118 false JO
def LL:Tr:=.ret [W 0 0,C9,A8,.one (.ref 0 [.u 3 0]),W 4 0,W 6 0,.one (.c (.k (.bool false)))]
def JM:Tr:=.split (.u 12 0) GI LL
def Hc:Tr:=.need (.prim [W 11 0] none) (.unOp .not 4 (.tmp 33)) 4 false JM
def IQ:Tr:=.need (.call 69 [.agg [U 10 0,U 10 1,U 10 2,U 10 3,U 10 4,U 10 5],.agg [.c (.k (.slice none 0 0)),.c (.k (.bool false)),.c (.k (.slice none 0 0))]] [none]) (D5 69 #[.tmp 31,.tmp 32] #[123,39]) 4 false Hc
def LN:Tr:=.need (.prim [W 9 0] (some 6)) (.load 123 (.tmp 30)) 123 false IQ
def Lb:Tr:=.need (.prim [.one (.ref 0 [.u 5 0,.u 5 1,.u 5 2,.u 5 3,.u 5 4,.u 5 5,.u 5 6,.u 5 7,.u 5 8,.u 5 9,.u 5 10,.u 5 11]),WK (1)] none) (.indexAddr 233 (.tmp 9) (.const (I3 (1)))) 0 false LN
def JR:Tr:=.ret [W 0 0,C9,A8,.one (.ref 0 [.u 3 0]),W 4 0,W 6 0,.one (.c (.k (.bool false)))]
def GS:Tr:=.split (.u 8 0) Lb JR
def KJ:Tr:=.need (.prim [W 6 0,WK (0)] none) (.binOp .eql 55 (.tmp 27) (.const (I3 (0))) 55) 4 false GS
def Mn:Tr:=.split (.u 7 0) MN KJ
def ME:Tr:=.need (.prim [W 6 0,WK (0)] none) (.binOp .eql 55 (.tmp 18) (.const (I3 (0))) 55) 4 false Mn
def sO:GL prog 120 (fun _=>none) (cJ [1,1,1] (dJ f172)) [(3,.v none),(4,.ref 5),(5,.ref 6),(6,.ref 1),(8,.v none),(9,.ref 12),(10,.v none)] ([3,4,5,6,8,10].map ResultVar.tmp) 1 8 123 6=ME:=aT
def Mf:Tr:=.ret [W 0 0,C9,A8,.one (.ref 0 [.u 3 0]),.one (.ref 0 [.u 7 0,.u 7 1,.u 7 2])]
def Mw:Tr:=.need (.call 237 [.agg [U 2 0,U 2 1,U 2 2,U 2 3,U 2 4,U 2 5]] [some 3]) (D5 237 #[.tmp 99] #[123]) 39 true Mf
def NS:Tr:=.need (.call 130 [.one (.c (.k (.bool false))),WK (14)] []) (D5 130 #[.const (.bool false),.const (I3 (14))] #[4,55]) 0 true Mw
def Nu:Tr:=.need (.call 130 [W 6 0,W 4 0] []) (D5 130 #[.tmp 95,.tmp 96] #[4,55]) 0 true NS
def Mi:Tr:=.need (.prim [W 4 0,WK (0)] none) (.binOp .eql 55 (.tmp 94) (.const (I3 (0))) 55) 4 false Nu
def Oj:Tr:=.ret [W 0 0,C9,A8,.one (.ref 0 [.u 3 0]),.one (.ref 0 [.u 6 0,.u 6 1,.u 6 2])]
def NL:Tr:=.need (.call 237 [.agg [U 2 0,U 2 1,U 2 2,U 2 3,U 2 4,U 2 5]] [some 3]) (D5 237 #[.tmp 99] #[123]) 39 true Oj
def MU:Tr:=.split (.u 5 0) Mi NL
def MP:Tr:=.need (.prim [W 0 0,WK (12)] none) (.binOp .eql 3 (.tmp 92) (.const (I3 (12))) 3) 4 false MU
def wC:lG prog 120 (fun _=>none) (cJ [1,1,1,1,1] (dJ f172)) [(3,.v none),(4,.ref 5),(5,.ref 6),(6,.ref 1),(10,.v none)] ([3,4,5,6,15].map ResultVar.tmp) (some 1) false=MP:=aT
def Mo(p:k5):Bool:=decide (p.1<=0/\0<=p.2)
def qg(p:k5):Int×Bool:=if p.2<0 then(-1,true)else if 0<p.1 then(1,true)else(0,decide (p.1=0/\p.2=0))
def HW{q:Rat}:q.num.sign<0↔q<0:=by
 have h:q<0↔q.num<0:=by rw[Rat.lt_iff];simp
 rw[h];rcases Sw q.num 0 with h1 | h1 | h1
 .rw[pP h1];omega
 .rw[h1];simp
 .rw[fY h1];omega
def aw3{q:Rat}:q.num.sign>0↔0<q:=by
 have h:0<q↔0<q.num:=by rw[Rat.lt_iff];simp
 rw[h];rcases Sw q.num 0 with h1 | h1 | h1
 .rw[pP h1];omega
 .rw[h1];simp
 .rw[fY h1];omega
def sy{q:Rat}:q.num.sign=0↔q=0:=by
 rw[Bk,lM]
def ye(a b z:Rat)(B:Nat)(ha:Fit B a)(hb:Fit B b)(hz:Fit B z)(hB:B<=4294967296:=by omega):aK prog 69 [(kP a b:aF),(qT z:aF)] (.ret [.one (.bool (decide (a<=z/\z<=b)))]):=by
 refine dB func69 bQ5 ?_;apply aA (ma a z B B ha hz);apply vn iQ;refine gn (decide (mF a z<=0)) rfl (fun h2=>?_) (fun h2=>?_)
 .apply aA (ma z b B B hz hb);apply vn iQ;dsimp only[aP,aQ];have h1:=ic.1 (gi h2);rw[show decide (a<=z/\z<=b)=decide (mF z b<=0) by rw[kV,ic];exact⟨fun h=>h.2,fun h=>⟨h1,h⟩⟩];exact aN
 have h1:¬a<=z:=fun h=>(kh h2) (ic.2 h)
 rw[show decide (a<=z/\z<=b)=false from ej (fun h=>h1 h.1)];exact aN
def YZ(p:k5)(B:Nat)(ha:Fit B p.1)(hb:Fit B p.2)(hB:B<=4294967296):aK prog 239 [(kP p.1 p.2:aF)] (.ret [.one (.int .i64 (qg p).1),.one (.bool (qg p).2)]):=by
 refine dB func239 bj0 ?_;apply aA (gQ p.1);apply aA (gQ p.2);apply vn az;refine gn (decide (p.2.num.sign<0)) rfl (fun h3=>?_) (fun h3=>?_)
 .have h:=HW.1 (gi h3);rw[show qg p=(-1,true) by unfold qg;rw[aI h]];exact aN
 have h4:¬p.2<0:=fun h=>(kh h3) (HW.2 h)
 apply vn fL;refine gn (decide (0<p.1.num.sign)) rfl (fun h6=>?_) (fun h6=>?_)
 .have h:=aw3.1 (gi h6);rw[show qg p=(1,true) by unfold qg;rw[aD h4,aI h]];exact aN
 have h7:¬0<p.1:=fun h=>(kh h6) (aw3.2 h)
 apply vn bA;refine gn (decide (p.1.num.sign=0)) rfl (fun h9=>?_) (fun h9=>?_)
 .apply vn bA;dsimp only[aP,aQ];have h:=sy.1 (gi h9)
  rw[show qg p=(0,decide (p.2.num.sign=0)) by
   unfold qg;rw[aD h4,aD h7]
   congr 1
   rw[kV,sy];exact⟨fun h=>h.2,fun h2=>⟨h,h2⟩⟩]
  exact aN
 have h:¬p.1=0:=fun h=>(kh h9) (sy.2 h)
 rw[show qg p=(0,false) by
  unfold qg;rw[aD h4,aD h7,ej (fun h2=>h h2.1)]]
 exact aN
def TS{T len es ty:Nat}{x i:n8}{cells:List aE}{n:Int}(hf:aq2 prog T=some (len,es))(h0:0<=n)(h1:n<(len:Int)):aq prog (.indexAddr T x i) ty [.one (.aW cells),.one (.int .i64 n)] (.one (.aW (cells.drop (n.toNat*es)))):=by
 intro M w ρ o ho _ hr;have hx:(aE.aW cells).rep M w (ρ x):=hr.1;have hi:ρ i=.int .i64 n:=hr.2.1.1;obtain⟨b,off,cs,T',fz,hv,hb,hh,hrep⟩:=hx;refine⟨.pointer (some ⟨b,off+n.toNat*es,none⟩),?_,b,off+n.toNat*es,cs,T',fz,rfl,hb,hh,?_⟩
 .unfold aq2 at hf;split at hf
  .rename_i len' e hu;cases hie:prog.info? e with
   | none=>simp[hie]at hf
   | some ie=>
     simp only[hie,eS,aM,cF]at hf;obtain⟨rfl,rfl⟩:=hf;simp[execOp,ho,hv,hi,Instr.indexAt,asIntOf,fB hu,Instr.sureAddr,sizeOf,typeInfo,hie,h0,h1,nU]
  .cases hf
 .have h2:=hrep.drop (n.toNat*es);rw[ox,iX]at h2;rw[dw];exact h2
def HK:aq2 prog 233=some (2,6):=aT
def zD(a b:Rat)(l h:Int×Bool):VS×Bool:=
 if l.2=true/\l.1=0 then([(a,a)],true)else if h.2=true/\h.1=0 then([],true)else if l.2=true/\h.2=true then(if l.1=h.1 then([],true)else([(a,b)],true))else([],false)
def yY:aF.Sub (.agg [.exact (.slice none 0 0),.bool false,.exact (.slice none 0 0)]) (qT 0):=⟨fg.1,fg.2.1,fg.2.2.1,trivial⟩
def ww{a b c d f g:aF}{n:Nat}:aR [a,b,c,d,.one (.exact (.slice none 0 0)),f,g] [a,b,c,d,.one (.slice n []),f,g]:=⟨aF.Sub.same,aF.Sub.same,aF.Sub.same,aF.Sub.same,aE.Sub.nil,aF.Sub.same,aF.Sub.same,trivial⟩
def br0(d:Int)(E:j0)(X:Rat)(Y:j1)(a b:Rat)(k:Int)(p q:k5)(Q:Nat)(hp1:Fit Q p.1)(hp2:Fit Q p.2)(hq1:Fit Q q.1)(hq2:Fit Q q.2)(hp:Mo p=false)(hQ1:1<=Q:=by omega)(hQ:Q<=4294967296:=by omega):vc prog (Nb [.one (.int .i64 d),.one (.aW (fC E X Y)),.one (.aW (cM a b)),.one (.aW [.int .i64 k]),.one (.slice 6 (vS [])),.one (.int .i64 0),.one (.bool true)] ([])) (GL prog 120 (fun _=>none) (cJ [1,1,1] (dJ f172)) [(3,.v none),(4,.ref 5),(5,.ref 6),(6,.ref 1),(8,.v none),(9,.ref 12),(10,.v none)] ([3,4,5,6,8,10].map ResultVar.tmp) 1 8 123 6) ([.v (.one (.int .i64 d)),.ref (fC E X Y),.ref (cM a b),.ref ([.int .i64 k]),.v (.one (.exact (.slice none 0 0))),.ref (cM p.1 p.2++cM q.1 q.2),.v (.one (.int .i64 0))].map In.env) []:=by
 rw[sO];dsimp only[List.map,In.env,aP,aQ];apply vn bA;refine ut ?_;apply vn (t:=.one (.aW ((cM p.1 p.2++cM q.1 q.2).drop 0))) (TS HK dO dO);apply vn (t:=kP p.1 p.2) (ay kK dO bY (.inl rfl));dsimp only[aP,aQ];have hhp:=ye p.1 p.2 0 Q hp1 hp2 (Fit.zero hQ1) hQ;refine pg (show aR _ [kP p.1 p.2,qT 0]from⟨aF.Sub.same,yY,trivial⟩) hhp rfl ?_;apply vn jW;dsimp only[aP,aQ];rw[show decide (p.1<=0/\0<=p.2)=false from hp];refine ut ?_;exact vrz rfl ww
def bd5(d:Int)(E:j0)(X:Rat)(Y:j1)(a b:Rat)(k:Int)(p q:k5)(Q:Nat)(hp1:Fit Q p.1)(hp2:Fit Q p.2)(hq1:Fit Q q.1)(hq2:Fit Q q.2)(hp:Mo p=true)(hq:Mo q=true)(hQ1:1<=Q:=by omega)(hQ:Q<=4294967296:=by omega):vc prog (Nb [.one (.int .i64 d),.one (.aW (fC E X Y)),.one (.aW (cM a b)),.one (.aW [.int .i64 k]),.one (.slice 6 (vS [])),.one (.int .i64 0),.one (.bool false)] ([])) (GL prog 120 (fun _=>none) (cJ [1,1,1] (dJ f172)) [(3,.v none),(4,.ref 5),(5,.ref 6),(6,.ref 1),(8,.v none),(9,.ref 12),(10,.v none)] ([3,4,5,6,8,10].map ResultVar.tmp) 1 8 123 6) ([.v (.one (.int .i64 d)),.ref (fC E X Y),.ref (cM a b),.ref ([.int .i64 k]),.v (.one (.exact (.slice none 0 0))),.ref (cM p.1 p.2++cM q.1 q.2),.v (.one (.int .i64 0))].map In.env) []:=by
 rw[sO];dsimp only[List.map,In.env,aP,aQ];apply vn bA;refine ut ?_;apply vn (t:=.one (.aW ((cM p.1 p.2++cM q.1 q.2).drop 0))) (TS HK dO dO);apply vn (t:=kP p.1 p.2) (ay kK dO bY (.inl rfl));dsimp only[aP,aQ];have hhp:=ye p.1 p.2 0 Q hp1 hp2 (Fit.zero hQ1) hQ;refine pg (show aR _ [kP p.1 p.2,qT 0]from⟨aF.Sub.same,yY,trivial⟩) hhp rfl ?_;apply vn jW;dsimp only[aP,aQ];rw[show decide (p.1<=0/\0<=p.2)=true from hp];refine lw ?_;apply vn bA;refine ut ?_;apply vn (t:=.one (.aW ((cM p.1 p.2++cM q.1 q.2).drop 6))) (TS HK dO dO);apply vn (t:=kP q.1 q.2) (ay kK dO bY (.inl rfl));dsimp only[aP,aQ];have hhq:=ye q.1 q.2 0 Q hq1 hq2 (Fit.zero hQ1) hQ;refine pg (show aR _ [kP q.1 q.2,qT 0]from⟨aF.Sub.same,yY,trivial⟩) hhq rfl ?_;apply vn jW;dsimp only[aP,aQ];rw[show decide (q.1<=0/\0<=q.2)=true from hq];refine lw ?_;exact vrz rfl ww
set_option maxHeartbeats 2000000 in
def bg3(d:Int)(E:j0)(X:Rat)(Y:j1)(a b:Rat)(k:Int)(p q:k5)(Q:Nat)(hp1:Fit Q p.1)(hp2:Fit Q p.2)(hq1:Fit Q q.1)(hq2:Fit Q q.2)(hp:Mo p=true)(hq:Mo q=false)(va vb:VS)(hva:aK prog 234 [fT E X Y,qT a,.one (.int .i64 k)] (.ret [.one (.slice 6 (vS va))]))(hvb:aK prog 234 [fT E X Y,qT b,.one (.int .i64 k)] (.ret [.one (.slice 6 (vS vb))]))(la:0<va.length)(lb:0<vb.length)(s1:Fit Q (va.getD 0 (0,0)).1)(s2:Fit Q (va.getD 0 (0,0)).2)(s3:Fit Q (vb.getD 0 (0,0)).1)(s4:Fit Q (vb.getD 0 (0,0)).2)(hQ1:1<=Q:=by omega)(hQ:Q<=4294967296:=by omega):vc prog (Nb [.one (.int .i64 d),.one (.aW (fC E X Y)),.one (.aW (cM a b)),.one (.aW [.int .i64 k]),.one (.slice 6 (vS (zD a b (qg (va.getD 0 (0,0))) (qg (vb.getD 0 (0,0)))).1)),.one (.int .i64 0),.one (.bool (zD a b (qg (va.getD 0 (0,0))) (qg (vb.getD 0 (0,0)))).2)] (vS (zD a b (qg (va.getD 0 (0,0))) (qg (vb.getD 0 (0,0)))).1)) (GL prog 120 (fun _=>none) (cJ [1,1,1] (dJ f172)) [(3,.v none),(4,.ref 5),(5,.ref 6),(6,.ref 1),(8,.v none),(9,.ref 12),(10,.v none)] ([3,4,5,6,8,10].map ResultVar.tmp) 1 8 123 6) ([.v (.one (.int .i64 d)),.ref (fC E X Y),.ref (cM a b),.ref ([.int .i64 k]),.v (.one (.exact (.slice none 0 0))),.ref (cM p.1 p.2++cM q.1 q.2),.v (.one (.int .i64 0))].map In.env) []:=by
 rw[sO];dsimp only[List.map,In.env,aP,aQ];apply vn bA;refine ut ?_;apply vn (t:=.one (.aW ((cM p.1 p.2++cM q.1 q.2).drop 0))) (TS HK dO dO);apply vn (t:=kP p.1 p.2) (ay kK dO bY (.inl rfl));dsimp only[aP,aQ];have hhp:=ye p.1 p.2 0 Q hp1 hp2 (Fit.zero hQ1) hQ;refine pg (show aR _ [kP p.1 p.2,qT 0]from⟨aF.Sub.same,yY,trivial⟩) hhp rfl ?_;apply vn jW;dsimp only[aP,aQ];rw[show decide (p.1<=0/\0<=p.2)=true from hp];refine lw ?_;apply vn bA;refine ut ?_;apply vn (t:=.one (.aW ((cM p.1 p.2++cM q.1 q.2).drop 6))) (TS HK dO dO);apply vn (t:=kP q.1 q.2) (ay kK dO bY (.inl rfl));dsimp only[aP,aQ];have hhq:=ye q.1 q.2 0 Q hq1 hq2 (Fit.zero hQ1) hQ;refine pg (show aR _ [kP q.1 q.2,qT 0]from⟨aF.Sub.same,yY,trivial⟩) hhq rfl ?_;apply vn jW;dsimp only[aP,aQ];rw[show decide (q.1<=0/\0<=q.2)=false from hq];refine ut ?_;apply aA hva;apply vn (aY gV (cY (v:=va) (l:=0) la) (bV 0));apply vn (ay kK dO bY (.inl rfl));apply aA (YZ (va.getD 0 (0,0)) Q s1 s2 hQ);apply aA hvb;apply vn (aY gV (cY (v:=vb) (l:=0) lb) (bV 0));apply vn (ay kK dO bY (.inl rfl));apply aA (YZ (vb.getD 0 (0,0)) Q s3 s4 hQ);dsimp only[aP,aQ];generalize qg (va.getD 0 (0,0))=sl at *;generalize qg (vb.getD 0 (0,0))=sh at *;obtain⟨l1,l2⟩:=sl;obtain⟨r1,r2⟩:=sh;dsimp only;refine gn l2 rfl (fun h23=>?_) (fun h23=>?_)
 .apply vn bA;refine gn (decide (l1=0)) rfl (fun h25=>?_) (fun h25=>?_)
  .have e:l1=0:=gi h25;apply aA (ba9 a);apply bh (us:=[cM a a]);dsimp only[aP,aQ];rw[show zD a b (l1,l2) (r1,r2)=([(a,a)],true) by unfold zD;rw[aI ⟨h23,e⟩]];exact vrr rfl ⟨aF.Sub.same,aF.Sub.same,aF.Sub.same,aF.Sub.same,aF.Sub.same,aF.Sub.same,aF.Sub.same,trivial⟩
  have e:¬l1=0:=kh h25;have n1:¬(l2=true/\l1=0):=fun h=>e h.2;refine gn r2 rfl (fun h29=>?_) (fun h29=>?_)
  .apply vn bA;refine gn (decide (r1=0)) rfl (fun h31=>?_) (fun h31=>?_)
   .rw[show zD a b (l1,l2) (r1,r2)=([],true) by unfold zD;rw[aD n1,aI ⟨h29,gi h31⟩]];exact vrz rfl ww
   have n2:¬(r2=true/\r1=0):=fun h=>kh h31 h.2;apply vn bA;refine gn (decide (l1=r1)) rfl (fun h34=>?_) (fun h34=>?_)
   .rw[show zD a b (l1,l2) (r1,r2)=([],true) by unfold zD;rw[aD n1,aD n2,aI ⟨h23,h29⟩,aI (gi h34)]];exact vrz rfl ww
   apply bh (us:=[cM a b]);dsimp only[aP,aQ];rw[show zD a b (l1,l2) (r1,r2)=([(a,b)],true) by unfold zD;rw[aD n1,aD n2,aI ⟨h23,h29⟩,aD (kh h34)]];exact vrr rfl ⟨aF.Sub.same,aF.Sub.same,aF.Sub.same,aF.Sub.same,aF.Sub.same,aF.Sub.same,aF.Sub.same,trivial⟩
  rw[show zD a b (l1,l2) (r1,r2)=([],false) by unfold zD;rw[aD n1,aD (fun h=>by rw[h29]at h;exact absurd h.1 bY),aD (fun h=>by rw[h29]at h;exact absurd h.2 bY)]];exact vrz rfl ww
 have n1:¬(l2=true/\l1=0):=fun h=>by rw[h23]at h;exact absurd h.1 bY
 have n3:¬(l2=true/\r2=true):=fun h=>by rw[h23]at h;exact absurd h.1 bY
 refine gn r2 rfl (fun h39=>?_) (fun h39=>?_)
 .apply vn bA;refine gn (decide (r1=0)) rfl (fun h41=>?_) (fun h41=>?_)
  .rw[show zD a b (l1,l2) (r1,r2)=([],true) by unfold zD;rw[aD n1,aI ⟨h39,gi h41⟩]];exact vrz rfl ww
  rw[show zD a b (l1,l2) (r1,r2)=([],false) by unfold zD;rw[aD n1,aD (fun h=>kh h41 h.2),aD n3]];exact vrz rfl ww
 rw[show zD a b (l1,l2) (r1,r2)=([],false) by unfold zD;rw[aD n1,aD (fun h=>by rw[h39]at h;exact absurd h.1 bY),aD n3]];exact vrz rfl ww
def be5(d:Int)(E:j0)(X:Rat)(Y:j1)(a b:Rat)(k:Int)(er:Int)(he:er≠0):vc prog (Nb [.one (.int .i64 d),.one (.aW (fC E X Y)),.one (.aW (cM a b)),.one (.aW [.int .i64 k]),.one (.slice 6 (vS [])),.one (.int .i64 er),.one (.bool false)] ([])) (GL prog 120 (fun _=>none) (cJ [1,1,1] (dJ f172)) [(3,.v none),(4,.ref 5),(5,.ref 6),(6,.ref 1),(8,.v none),(9,.ref 12),(10,.v none)] ([3,4,5,6,8,10].map ResultVar.tmp) 1 8 123 6) ([.v (.one (.int .i64 d)),.ref (fC E X Y),.ref (cM a b),.ref ([.int .i64 k]),.v (.one (.exact (.slice none 0 0))),.ref (wZ),.v (.one (.int .i64 er))].map In.env) []:=by
 rw[sO];dsimp only[List.map,In.env,aP,aQ];apply vn bA;dsimp only[aP,aQ];rw[ej he];refine lw ?_;apply vn bA;dsimp only[aP,aQ];rw[ej he];refine lw ?_;exact vrz rfl ww
end Go.Sy
