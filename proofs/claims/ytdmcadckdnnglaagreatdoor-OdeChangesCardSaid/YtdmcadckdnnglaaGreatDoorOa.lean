/- Part. -/
import Derived.Test.YtdmcadckdnnglaaGreatDoorPb
set_option linter.all false
set_option maxHeartbeats 2000000
namespace Go.Sy
open Go Go.Proofs Tryz Ord
def cy7:Tr:=aJ 5 0 (jL 0 0 4 0 32 12 13 (cq 6 72 14 (aL0 1 7 11 15 72 (aJ 8 0 (cC 4) (bX 4 1 3 8 (kA 0 3 9)))))) (ur (-1))
def cp3:Tr:=bD 0 0 6 32 (Cw (dW 4 2 0 3 8 7 0 cy7))
def ay8:aO prog f180 cT [.v none,.v none]=cp3:=aT
def cq0:Tr:=rz 180 0 0 1 5 6 32 165 3 (my 2 0 0 3 7 (cC 3))
def SS:aO prog f93 cT [.v none,.v none]=cq0:=aT
def cA9:Tr:=vC 95 0 3 72 3 (ia 1 0 40 3 4 (cC 2))
def yq:aO prog f94 cT [.v none]=cA9:=aT
def Lq:Tr:=ur 2
def aV5:Tr:=ur 0
def bM4:Tr:=bD 0 0 17 32 (iJ 6 1 18 (jL 0 0 7 0 32 16 19 (cq 8 72 20 (Dt 95 9 21 72 3 (kp 10 0 0 3 22 (aJ 11 0 Lq aV5))))))
def cu1:Tr:=kp 1 0 2 3 4 (aJ 2 0 Lq (bD 0 0 7 32 (ia 3 0 5 3 8 (aJ 4 0 Lq (.need (.call 93 [W 0 0,.one (.lp 94 [])] [none]) (D5 93 #[tT 12,.func 94] #[32,165]) 4 false (aJ 5 0 Lq bM4))))))
def cl7:Tr:=bD 0 0 3 32 cu1
def CK:aO prog f19 cT [.v none]=cl7:=aT
def bx2:Tr:=cC 8
def cB7:Tr:=bD 0 0 6 32 (iJ 2 1 7 (jL 0 0 3 0 32 5 8 (cq 4 72 9 (eO 181 [W 5 0,G3 1] [some 3] [10,11] [72,39] 39 false (vD 35 6 0 1 2 12 39 3 (oK 7 3 13 bx2))))))
def YJ:aO prog f97 cT [.v none,.v (some 3)]=cB7:=aT
def cz5:Tr:=bD 0 0 12 32 (iJ 4 1 13 (yH .neq 3 10 14 3 0 5 0 4 (aJ 6 0 Lq (eO 97 [W 0 0,.agg [U 0 1,U 0 2,U 0 3]] [none] [19,21] [32,39] 4 false (kq 7 0 22 (aJ 8 0 Lq aV5))))))
def co9:Tr:=Dt 19 0 4 32 55 (oK 1 55 5 (aJ 2 0 Lq (bD 0 4 9 40 cz5)))
def aF8:aO prog f21 cT [.v (some 5)]=co9:=aT
abbrev cQ(p:j1):List aE:=[sQ p]
abbrev cR(p:List RQ):List aE:=[sR p]
abbrev eQ(e:j0):aE:=.slice 1 (e.map cQ)
abbrev eR(e:List (List RQ)):aE:=.slice 1 (e.map cR)
def TW{α:Type}(c:α->Bool):List α->Nat->Int
 | [],_=>-1
 | x::xs,i=>if c x then(i:Int)else TW c xs (i+1)
theorem UG{α:Type}(c:α->Bool):∀(l:List α)(i:Nat),decide (0<=TW c l i)=l.any c
 | [],i=>rfl
 | x::xs,i=>by
   simp only[TW,List.any_cons];split
   .rename_i h;rw[h];simp
   .rename_i h;rw[UG c xs (i+1)];simp[h]
def aR3(e:j0)(g:Nat)(c:List Rat->Bool)(hc:∀p∈e,aK prog g [.one (sQ p)] (.ret [.one (.bool (c p))]))(hs:e.length<1099511627776):aK prog 180 [(.one (eQ e):aF),(.one (.lp g []):aF)] (.ret [.one (.int .i64 (TW c e 0))]):=by
 refine dB func180 ay8 ?_;apply vn (aZ En (aX _));refine bC {i:Nat // i<=e.length/\TW c e 0=TW c (e.drop i) i} (fun g=>[.one (.int .i64 0),.one (.int .i64 g.1)]) (fun g=>e.length-g.1) ⟨0,cG _,rfl⟩ aR.rfl (fun _=>rfl) ?_;rintro⟨i,hi,hf⟩;dsimp only[aP,aQ]at hi hf|-;refine uS az ?_ ?_<;>intro h3
 .obtain⟨p,hp⟩:∃p,e[i]?=some p:=⟨_,bU O⟩
  have hdrop:e.drop i=p::e.drop (i+1):=by
   rw[ow O,(fK.1 hp).2]
  rw[hdrop,TW]at hf;apply vn (aY En hp);apply vn (bI Vf);apply wD (f:=g) (caps:=[]) rfl (hc p (cj hp)) rfl;refine gn (c p) rfl (fun h7=>?_) (fun h7=>?_)
  .rw[hf,aI h7];exact aN
  apply vn aC;dsimp only[aP,aQ];exact aa rfl ⟨⟨i+1,O,by rw[hf,aD (by simp[h7])]⟩,aR.rfl,by show e.length-(i+1)<e.length-i;omega⟩
 rw[hf,xV O,TW];exact aN
def UO(e:j0)(g:Nat)(c:List Rat->Bool)(hc:∀p∈e,aK prog g [.one (sQ p)] (.ret [.one (.bool (c p))]))(hs:e.length<1099511627776):aK prog 93 [(.one (eQ e):aF),(.one (.lp g []):aF)] (.ret [.one (.bool (e.any c))]):=by
 refine dB func93 SS ?_;apply aA (aR3 e g c hc hs);apply vn gW;dsimp only[aP,aQ];rw[<-UG c e 0];exact aN
def PK(p:j1):Bool:=decide (41<eE zr p)
def yy(p:j1)(hs:p.length<1099511627776):aK prog 94 [(.one (sQ p):aF)] (.ret [.one (.bool (PK p))]):=by
 refine dB func94 yq ?_;apply aA (Cq p hs);apply vn fL;dsimp only[aP,aQ];refine aN ?_;rw[PK,show decide (41<eE zr p)=decide ((40:Int)<(eE zr p:Int)-1) by rw[kV];omega];rfl
def DU(e:j0):Bool:=decide (2<=e.length/\e.length<=5/\(∀p∈e,eE zr p<=41)/\∀p,e[e.length-1]?=some p->eE zr p≠0)
def tg(e:j0)(hs:e.length<1099511627776)(hp:∀p∈e,p.length<1099511627776):aK prog 19 [(.one (eQ e):aF)] (.ret [.one (.int .i64 (if DU e then 0 else 2))]):=by
 refine dB func19 CK ?_;apply vn (aZ En (aX _));refine uS az ?_ ?_<;>intro h2
 .rw[aD (by unfold DU;rw[fH];omega)];exact aN
 apply vn (aZ En (aX _));refine uS fL ?_ ?_<;>intro h6
 .rw[aD (by unfold DU;rw[fH];omega)];exact aN
 apply aA (UO e 94 PK (fun p hp'=>yy p (hp p hp')) hs);refine gn (e.any PK) rfl (fun h9=>?_) (fun h9=>?_)
 .rw[aD (by
   unfold DU;rw[fH];rintro⟨_,_,h,_⟩;obtain⟨p,hp1,hp2⟩:=List.any_eq_true.1 h9;have:=h p hp1;simp[PK]at hp2;omega)];exact aN
 apply vn (aZ En (aX _));apply vn aL;dsimp only[aP,aQ];obtain⟨p,hpl⟩:∃p,e[e.length-1]?=some p:=⟨_,bU O⟩
 apply vn (aY En hpl);apply vn (bI Vf);apply aA (Cq p (hp p (cj hpl)));refine uS az ?_ ?_<;>intro h17
 .rw[aD (by
   unfold DU;rw[fH];rintro⟨_,_,_,h⟩;have:=h p hpl;omega)];exact aN
 rw[aI (by
  unfold DU;rw[fH];refine⟨O,O,fun p' hp'=>?_,fun p' hp'=>?_⟩
  .have:=List.any_eq_false.1 h9 p' hp';simp[PK]at this;omega
  .rw[hpl]at hp';simp only[aM]at hp';subst hp';omega)];exact aN
structure EqS(e:j0):Prop where
 l:e.length<=64
 p:∀p∈e,p.length<=64/\∀q∈p,Fit 513 q
def vH(e:j0)(c:Rat):Bool:=decide (∀p,e[e.length-1]?=some p->od p c≠0)
def GJ(e:j0)(c:Rat)(he:EqS e)(h0:0<e.length)(hc:Fit 513 c):aK prog 97 [(.one (eQ e):aF),(qT c:aF)] (.ret [.one (.bool (vH e c))]):=by
 refine dB func97 YJ ?_;have hl:=he.l;apply vn (aZ En (aX _));apply vn aL;dsimp only[aP,aQ];obtain⟨p,hpl⟩:∃p,e[e.length-1]?=some p:=⟨_,bU O⟩
 obtain⟨hp1,hp2⟩:=he.p p (cj hpl);apply vn (aY En hpl);apply vn (bI Vf);apply aA (bk9 p c 513 hp2 hc);apply aA (gQ _);apply vn jA;dsimp only[aP,aQ];refine aN ?_
 have:vH e c=decide ((od p c).num.sign≠0):=by
  unfold vH;rw[kV]
  constructor
  .intro h hh;exact h p hpl (sign_zero.1 hh)
  .intro h p' hp' hh;rw[hpl]at hp';simp only[aM]at hp';subst hp';exact h (sign_zero.2 hh)
 rw[this];rfl
def okF(e:j0)(c:Rat)(y:j1):Bool:=DU e&&decide (y.length=e.length-1)&&vH e c
def zR(e:j0)(c:Rat)(y:j1)(he:EqS e)(hc:Fit 513 c)(hy:y.length<1099511627776:=by omega):aK prog 21 [(.agg [eQ e,dT c.num.natAbs,.bool (decide (c.num<0)),dT (c.den-1),sQ y]:aF)] (.ret [.one (.int .i64 (if okF e c y then 0 else 2))]):=by
 refine dB func21 aF8 ?_;have hl:=he.l;have hp:=he.p;apply aA (tg e O (fun p hp'=>by have:=(hp p hp').1;omega)) rfl;apply vn jA;dsimp only[aP,aQ];have h2':decide ((if DU e=true then(0:Int)else 2)≠0) = !DU e:=by cases DU e<;>rfl
 rw[h2'];refine gn (!DU e) rfl (fun h2=>?_) (fun h2=>?_)
 .rw[aD (by simp at h2;simp[okF,h2])];exact aN
 have h2:DU e=true:=by simpa using h2
 have hlen:2<=e.length:=by unfold DU at h2;rw[fH]at h2;exact h2.1
 apply vn (aZ vv (aX _));apply vn (aZ En (aX _));apply vn aL;refine uS jA ?_ ?_<;>intro h8
 .rw[aD (by simp[okF];intro _ _;omega)];exact aN
 apply aA (GJ e c he O hc);apply vn jW;refine gn (!vH e c) rfl (fun h12=>?_) (fun h12=>?_)
 .rw[aD (by simp at h12;simp[okF,h12])];exact aN
 rw[aI (by simp at h12;simp[okF,h12,h2];omega)];exact aN
def xh(e:List (List RQ)):List (List Rat):=e.map fun p=>p.map RQ.q
def Zp(e:List (List RQ)):(xh e).length=e.length:=aX _
def cx9(p:List RQ):eE XN p=eE zr (p.map RQ.q):=(KE (z:=zr) RQ.q p).symm
def cw1:Tr:=eV 5 3 40 14 15 (OO 5 3 7 26 21 (eV 9 4 40 16 17 (OO 9 4 8 27 25 (bX 3 1 3 10 (iJ 4 1 12 (BV 0 11 12 10))))))
def cv7:Tr:=.loop 0 [lK 0,lV 2 0,.row 0] (dW 3 4 0 3 7 8 4 (aJ 6 0 (eV 5 4 40 18 19 (RB 5 4 3 39 20 (eV 5 3 40 22 23 (RB 5 3 3 39 24 cw1)))) (.retr [] 5)))
def ch8:Tr:=yS 0 4 40 (iJ 1 1 5 cv7)
def XU:SP prog f92 (fun _=>none) [.lent 39 3]=ch8:=aT
def aD3:Tr:=mL 0 10 9
def au1:Tr:=cC 5
def cr3:Tr:=aJ 4 0 (jL 0 0 2 0 242 6 8 (cq 5 2 10 (oh 68 6 3 13 2 39 (Qr 7 72 14 (jk 3 56 3 8 12 15 72 (bX 2 1 3 8 aD3)))))) (mz 34 3 3 18 72 72 au1)
def cm5:Tr:=bD 0 0 6 242 (zB 0 (dW 2 1 0 3 8 7 0 cr3))
def Vq:aO prog f91 cT [.v none]=cm5:=aT
def cC4:Tr:=aJ 4 0 (jL 0 0 1 0 242 12 13 (cq 5 2 14 (oh 50 6 4 15 2 49 (tU 7 167 16 (jk 4 64 2 8 11 17 167 (bX 1 1 3 9 aD3)))))) (mz 144 4 2 19 167 167 au1)
def cz8:Tr:=zB 0 (bD 0 0 6 242 (dW 1 3 0 3 5 7 4 cC4))
def Vo:aO prog f99 cT [.v none]=cz8:=aT
def bz7:Tr:=aE8 2
def by7:Tr:=aE8 3
def bN9:Tr:=gU 91 9 30 242 72 (oO 1 242 (gU 91 11 32 242 72 (aC1 10 12 32 31 33 (Dc 68 1 3 39 (Qr 14 40 35 (mP 13 15))))))
def bQ9:Tr:=ag8 11 13 32 41 43 (js 0 3 104 (aJ 15 0 (rY (mP 14 16)) (HN (aJ 16 0 (rY (mP 14 17)) (mP 14 7)))))
def bN8:Tr:=ag8 12 14 32 49 51 (js 0 3 104 (aJ 16 0 (rY (mP 15 17)) (HN (aJ 17 0 (rY (mP 15 18)) (mP 15 7)))))
def bQ7:Tr:=OK 13 15 32 57 59 (js 0 3 104 (aJ 17 0 (rY (mP 16 18)) (HN (aJ 18 0 (rY (mP 16 19)) (mP 16 7)))))
def bN0:Tr:=OK 14 16 32 65 67 (js 0 3 104 (aJ 18 0 (rY (mP 17 19)) (HN (aJ 19 0 (rY (mP 17 20)) (mP 17 7)))))
def cg5:Tr:=OK 15 17 32 73 75 (js 0 3 104 (aJ 19 0 (rY (mP 18 20)) (HN (aJ 20 0 (rY (mP 18 21)) (mP 18 7)))))
def aa1:Tr:=js 0 3 104 (aJ 24 0 (rY (mP 23 25)) (HN (aJ 25 0 (rY (mP 23 26)) (mP 23 7))))
def bm1:Tr:=tM 16 242 83 (gU 91 17 84 242 72 (vA 0 (-2) (gU 91 19 86 242 72 (ah8 (-1) (mz 91 1 21 88 242 72 (YN 18 20 22 32 85 87 89 aa1))))))
def bs7:Tr:=tM 16 242 95 (gU 91 17 96 242 72 (vA 0 (-2) (gU 91 19 98 242 72 (oO 1 242 (mz 91 1 21 100 242 72 (YN 18 20 22 32 97 99 101 aa1))))))
def bs1:Tr:=aJ 15 0 (Yl 1 2 94 bs7) (js 0 3 104 (aJ 16 0 (rY (Yx 17)) (HN (aJ 17 0 (rY (Yx 18)) (Yx 7)))))
def bG7:Tr:=aJ 12 0 (oO 1 242 (gU 91 13 64 242 72 (vA 1 1 (mz 91 1 15 66 242 72 bN0)))) (js 0 6 27 (aJ 13 0 (vA 0 2 (gU 91 14 72 242 72 (ah8 1 (mz 91 1 16 74 242 72 cg5)))) (js 0 7 27 (aJ 14 0 (bX 1 1 2 81 (yH .mul 2 80 82 1 0 15 0 2 bm1)) (js 0 8 27 bs1)))))
def cg1:Tr:=aJ 10 0 (vA 0 (-1) (gU 91 11 48 242 72 (oO 1 242 (mz 91 1 13 50 242 72 bN8)))) (js 0 4 27 (aJ 11 0 (vA 0 2 (gU 91 12 56 242 72 (oO 1 242 (mz 91 1 14 58 242 72 bQ7)))) (js 0 5 27 bG7)))
def bR0:Tr:=aJ 8 0 (oO (-1) 242 bN9) (js 0 2 27 (aJ 9 0 (oO 1 242 (gU 91 10 40 242 72 (oO 1 242 (mz 91 1 12 42 242 72 bQ9)))) (js 0 3 27 cg1)))
def cC6:Tr:=kp 1 0 0 3 15 (aJ 4 0 by7 (ia 1 0 40 3 18 (aJ 5 0 by7 (Dc 68 1 3 39 (.need (.lit 3 [[.k (.slice none 0 0),.k (.bool false),.k (.slice none 0 0)],[.u 6 0,.u 6 1,.u 6 2]]) (.buildSlice 40 2 #[(0,tT 23),(1,tT 24)]) 40 false (js 0 1 27 bR0))))))
def co4:Tr:=.need (.prim [W 0 0,.one (.c (.k (.int .u8 1)))] none) (.binOp .lss 5 (tT 8) (.const (.int .u8 1)) 5) 4 false (aJ 2 0 bz7 (aE3 0 8 11 (aJ 3 0 bz7 cC6)))
def at6:aO prog f18 cT [.v none,.v none]=co4:=aT
def bG4:Tr:=oO (-1) 242 (gU 99 4 14 242 167 (oO 1 242 (gU 99 6 16 242 167 (aC1 5 7 44 15 17 (tU 2 50 19 (CY 8 9))))))
def bl4:Tr:=oO 1 242 (gU 99 5 24 242 167 (oO 1 242 (gU 99 7 26 242 167 (ag8 6 8 44 25 27 (ZC 29 30 (CY 9 10))))))
def bi0:Tr:=vA 0 (-1) (gU 99 6 35 242 167 (oO 1 242 (gU 99 8 37 242 167 (ag8 7 9 44 36 38 (aS2 40 41 (CY 10 11))))))
def bu5:Tr:=vA 0 2 (gU 99 7 46 242 167 (oO 1 242 (gU 99 9 48 242 167 (OK 8 10 44 47 49 (ZC 51 52 (CY 11 12))))))
def bm7:Tr:=oO 1 242 (gU 99 8 57 242 167 (vA 1 1 (gU 99 10 59 242 167 (OK 9 11 44 58 60 (ZC 62 63 (CY 12 13))))))
def aZ7:Tr:=vA 0 2 (gU 99 9 68 242 167 (ah8 1 (gU 99 11 70 242 167 (OK 10 12 44 69 71 (ZC 73 74 (CY 13 14))))))
def bq3:Tr:=vA 0 (-2) (gU 99 14 85 242 167 (ah8 (-1) (gU 99 16 87 242 167 (YN 13 15 17 44 84 86 88 (aS2 90 91 (CY 18 19))))))
def aZ5:Tr:=vA 0 (-2) (gU 99 13 98 242 167 (oO 1 242 (gU 99 15 100 242 167 (YN 12 14 16 44 97 99 101 (aS2 103 104 (CY 17 18))))))
def bd0:Tr:=aJ 8 0 aZ7 (js 0 7 11 (aJ 9 0 (bX 1 1 2 80 (yH .mul 2 79 81 1 0 10 0 2 (tM 11 242 82 (gU 99 12 83 242 167 bq3)))) (Yl 1 2 94 (tM 10 242 95 (gU 99 11 96 242 167 aZ5)))))
def bu0:Tr:=js 0 3 11 (aJ 5 0 bi0 (js 0 4 11 (aJ 6 0 bu5 (js 0 5 11 (aJ 7 0 bm7 (js 0 6 11 bd0))))))
def ce8:Tr:=og 50 1 4 2 49 (js 0 1 11 (aJ 3 0 bG4 (js 0 2 11 (aJ 4 0 bl4 bu0))))
def aV8:aO prog f25 cT [.v none,.v none]=ce8:=aT
def yu(a0 a1 a2 b0 b1 b2:aE):xE prog 92 39 3 [] [] ([[a0,a1,a2],[b0,b1,b2]]) [] ([[b0,b1,b2],[a0,a1,a2]]):=by
 refine GQ (a1:=[]) (a2:=[]) (i1:=[]) (i2:=[]) (hints:=(fun _=>none)) fo aT func92 trivial trivial aT ?_ ?_ ?_ ?_
 .simp[rT]
 .simp[rT]
 .simp[rT]
 dsimp only[aP,aQ];rw[XU];dsimp only[List.map,In.env,aP,aQ];apply WT (n:=2) rfl rfl;apply vn aL;refine bC Bool (fun g=>if g then[.one (.int .i64 1),.one (.int .i64 0),.rows [[b0,b1,b2],[a0,a1,a2]]]else[.one (.int .i64 0),.one (.int .i64 1),.rows [[a0,a1,a2],[b0,b1,b2]]]) (fun g=>if g then 0 else 1) false aR.rfl (fun g=>by cases g<;>rfl) ?_;intro g;cases g
 case true=>
  show vc _ _ _ [_,_,_,.one (.int .i64 1),.one (.int .i64 0),.rows [[b0,b1,b2],[a0,a1,a2]]] _;apply vn az;refine vs _ rfl (fun h=>absurd h dO) (fun _=>?_);exact yC rfl rfl
 show vc _ _ _ [_,_,_,.one (.int .i64 0),.one (.int .i64 1),.rows [[a0,a1,a2],[b0,b1,b2]]] _;apply vn az;refine vs _ rfl (fun _=>?_) (fun h=>absurd dO h);refine qP rfl rfl dO bY ?_;refine vld (t:=.agg [b0,b1,b2]) rfl rfl dO rfl (.inl rfl) rfl ?_;dsimp only[aP,aQ,SG,List.drop,List.take];refine qP rfl rfl dO bY ?_;refine vld (t:=.agg [a0,a1,a2]) rfl rfl dO rfl (.inl rfl) rfl ?_;dsimp only[aP,aQ,SG,List.drop,List.take];refine qP rfl rfl dO bY ?_;refine BE (us:=[[b0,b1,b2],[b0,b1,b2]]) rfl rfl dO rfl rfl ?_;refine qP rfl rfl dO bY ?_;refine BE (us:=[[b0,b1,b2],[a0,a1,a2]]) rfl rfl dO rfl rfl ?_;apply vn aC;apply vn aL;exact aa rfl ⟨true,aR.rfl,dO⟩
abbrev sI(l:k7):aE:=.slice 1 (l.map fun n=>[aE.int .i64 n])
def ints(l:k7):List Rat:=trim (l.map fun n:Int=>(n:Rat))
def jH(l:k7):Prop:=∀n∈l,-9223372036854775808<=n/\n<9223372036854775808
def cK(l:k7)(h:jH l)(hs:l.length<1099511627776):aK prog 91 [(.one (sI l):aF)] (.ret [.one (sQ (ints l))]):=by
 refine dB func91 Vq ?_;apply vn (aZ Zs (aX _));refine bC {i:Nat // i<=l.length} (fun g=>[.one (.int .i64 g.1),.rows (rQ ((l.take g.1).map fun n:Int=>(n:Rat)))]) (fun g=>l.length-g.1) ⟨0,cG _⟩ aR.rfl (fun _=>rfl) ?_;rintro⟨i,hi⟩;dsimp only[aP,aQ]at hi|-;refine uS az ?_ ?_<;>intro h3
 .obtain⟨n,hn⟩:∃n,l[i]?=some n:=⟨_,bU O⟩
  obtain⟨hn1,hn2⟩:=h n (cj hn);have hl:((l.take i).map fun n:Int=>(n:Rat)).length<=i:=iF
  apply vn (aY Zs hn);apply vn (bI ag2);apply aA (ph n hn1 hn2);apply bh (us:=[qC (n:Rat)]);refine rW (xs:=(l.take i).map fun n:Int=>(n:Rat)) (x:=(n:Rat)) (f:=qC) rfl rfl O (by simp only[maxLen];omega) ?_;rw[pV (f:=fun n:Int=>(n:Rat)) hn];apply vn aC;dsimp only[aP,aQ];exact aa rfl ⟨⟨i+1,O⟩,aR.rfl,by show l.length-(i+1)<l.length-i;omega⟩
 rw[show i=l.length by omega,eW];apply aA (BA (l.map fun n:Int=>(n:Rat)) (by simpa using hs));exact aN
def eI(l:k7):List RQ:=gI (l.map fun n:Int=>RQ.of (n:Rat))
def bs3(l:k7):(eI l).map RQ.q=ints l:=by
 rw[eI,tY,ints,eG];rfl
def cL(l:k7)(h:jH l)(hs:l.length<1099511627776):aK prog 99 [(.one (sI l):aF)] (.ret [.one (sR (eI l))]):=by
 refine dB func99 Vo ?_;refine bC {i:Nat // i<=l.length} (fun g=>[.one (.int .i64 g.1),.rows (rR ((l.take g.1).map fun n:Int=>RQ.of (n:Rat)))]) (fun g=>l.length-g.1) ⟨0,cG _⟩ aR.rfl (fun _=>rfl) ?_;rintro⟨i,hi⟩;dsimp only[aP,aQ]at hi|-;apply vn (aZ Zs (aX _));refine uS az ?_ ?_<;>intro h3
 .obtain⟨n,hn⟩:∃n,l[i]?=some n:=⟨_,bU O⟩
  obtain⟨hn1,hn2⟩:=h n (cj hn);have hl:((l.take i).map fun n:Int=>RQ.of (n:Rat)).length<=i:=iF
  apply vn (aY Zs hn);apply vn (bI ag2);apply aA (nN n hn1 hn2);apply bh (us:=[rC (.of (n:Rat))]);refine rW (xs:=(l.take i).map fun n:Int=>RQ.of (n:Rat)) (x:=RQ.of (n:Rat)) (f:=rC) rfl rfl O (by simp only[maxLen];omega) ?_;rw[pV (f:=fun n:Int=>RQ.of (n:Rat)) hn];apply vn aC;dsimp only[aP,aQ];exact aa rfl ⟨⟨i+1,O⟩,aR.rfl,by show l.length-(i+1)<l.length-i;omega⟩
 rw[show i=l.length by omega,eW];apply aA (xW (l.map fun n:Int=>RQ.of (n:Rat)) (by simpa using hs));exact aN
def kE(k:Nat)(n:Int):List (List Rat):=
 match k with
 | 1=>[ints [-1],ints [1]]
 | 2=>[ints [1],[],ints [1]]
 | 3=>[ints [0,-1],[],ints [1]]
 | 4=>[[],ints [0,2],ints [1]]
 | 5=>[[],ints [1],ints [1,1]]
 | 6=>[[],ints [0,2],ints [1,0,1]]
 | 7=>[ints [n*(n+1)],ints [0,-2],ints [1,0,-1]]
 | _=>[ints [2*n],ints [0,-2],ints [1]]
def kY(k:Nat):List Rat:=
 match k with
 | 1=>[1]
 | 3=>[1,0]
 | 7=>[1,0]
 | 8=>[1,0]
 | _=>[0,1]
def mU(k:Nat)(n:Int):List (List Rat)×List Rat×Int:=
 if k<1\/8<k then([],[],2)else if n<0\/40<n then([],[],3)else(kE k n,kY k,0)
abbrev fT(e:j0)(c:Rat)(y:j1):aF:=.agg [eQ e,dT c.num.natAbs,.bool (decide (c.num<0)),dT (c.den-1),sQ y]
def Rr:au (au aE.Sub) [[.exact (.slice none 0 0),.bool false,.exact (.slice none 0 0)],qC 1] [qC 0,qC 1]:=⟨fg,⟨aE.Sub.same,aE.Sub.same,aE.Sub.same,trivial⟩,trivial⟩
def Xv:au (au aE.Sub) [qC 1,[.exact (.slice none 0 0),.bool false,.exact (.slice none 0 0)]] [qC 1,qC 0]:=⟨⟨aE.Sub.same,aE.Sub.same,aE.Sub.same,trivial⟩,fg,trivial⟩
def cz1(p q:j1):au (au aE.Sub) [[sQ p],[.exact (.slice none 0 0)],[sQ q]] [cQ p,cQ [],cQ q]:=⟨⟨aE.Sub.same,trivial⟩,⟨aE.Sub.nil,trivial⟩,⟨aE.Sub.same,trivial⟩,trivial⟩
def av2(p q:j1):au (au aE.Sub) [[.exact (.slice none 0 0)],[sQ p],[sQ q]] [cQ [],cQ p,cQ q]:=⟨⟨aE.Sub.nil,trivial⟩,⟨aE.Sub.same,trivial⟩,⟨aE.Sub.same,trivial⟩,trivial⟩
theorem EQ{p:Prop}(h:p:=by simp[jH]):p:=h
def TG(k:Nat)(n:Int)(hk:k<256:=by omega)(h1:-9223372036854775808<=n:=by omega)(h2:n<9223372036854775808:=by omega):aK prog 18 [(.one (.int .u8 k):aF),(.one (.int .i64 n):aF)] (.ret [fT (mU k n).1 0 (mU k n).2.1,.one (.int .i64 (mU k n).2.2)]):=by
 refine dB func18 at6 ?_;apply vn az;refine vs _ rfl (fun h1=>?_) (fun h1'=>?_)
 .rw[mU,aI O];exact eD ⟨⟨aE.Sub.nil,mX rfl,aE.Sub.same,mX rfl,aE.Sub.nil,trivial⟩,aF.Sub.same,trivial⟩
 refine uS fL ?_ ?_<;>intro h4
 .rw[mU,aI O];exact eD ⟨⟨aE.Sub.nil,mX rfl,aE.Sub.same,mX rfl,aE.Sub.nil,trivial⟩,aF.Sub.same,trivial⟩
 refine uS az ?_ ?_<;>intro h7
 .rw[mU,aD O,aI O];exact eD ⟨⟨aE.Sub.nil,mX rfl,aE.Sub.same,mX rfl,aE.Sub.nil,trivial⟩,aF.Sub.same,trivial⟩
 refine uS fL ?_ ?_<;>intro h10
 .rw[mU,aD O,aI O];exact eD ⟨⟨aE.Sub.nil,mX rfl,aE.Sub.same,mX rfl,aE.Sub.nil,trivial⟩,aF.Sub.same,trivial⟩
 apply aA (ph 1);dsimp only[aP,aQ];rw[mU,aD O,aD O];apply bh (us:=[[.exact (.slice none 0 0),.bool false,.exact (.slice none 0 0)],qC 1]);refine uS bA ?_ ?_<;>intro h15
 .obtain rfl:k=1:=O
  apply bh (us:=[[.int .i64 (-1)]]);apply aA (cK [-1] EQ bY);apply bh (us:=[[.int .i64 1]]);apply aA (cK [1] EQ bY);apply bh (us:=[[sQ (ints [-1])],[sQ (ints [1])]]);apply aA (ph 1);dsimp only[aP,aQ];apply bh (us:=[qC 1]);exact eD ⟨⟨aE.Sub.same,mX rfl,aE.Sub.same,mX rfl,aE.Sub.same,trivial⟩,aF.Sub.same,trivial⟩
 refine uS bA ?_ ?_<;>intro h25
 .obtain rfl:k=2:=O
  apply bh (us:=[[.int .i64 1]]);apply aA (cK [1] EQ bY);apply bh (us:=[[.int .i64 1]]);apply aA (cK [1] EQ bY);apply bh (us:=[[sQ (ints [1])],[.exact (.slice none 0 0)],[sQ (ints [1])]]);apply vn bA;dsimp only[aP,aQ];refine p8 ?_ ?_<;>intro h32
  .exfalso;omega
  refine uS gW ?_ ?_<;>intro h36
  .exfalso;omega
  exact eD ⟨⟨aE.Sub.slice (cz1 _ _),mX rfl,aE.Sub.same,mX rfl,aE.Sub.slice Rr,trivial⟩,aF.Sub.same,trivial⟩
 refine uS bA ?_ ?_<;>intro h41
 .obtain rfl:k=3:=O
  apply bh (us:=[[.int .i64 0],[.int .i64 (-1)]]);apply aA (cK [0,-1] EQ bY);apply bh (us:=[[.int .i64 1]]);apply aA (cK [1] EQ bY);apply bh (us:=[[sQ (ints [0,-1])],[.exact (.slice none 0 0)],[sQ (ints [1])]]);apply vn bA;dsimp only[aP,aQ];refine p8 ?_ ?_<;>intro h48
  .refine as1 (n:=0) (us:=[[.exact (.slice none 0 0),.bool false,.exact (.slice none 0 0)],qC 1]) (rs:=[]) (vs:=[qC 1,[.exact (.slice none 0 0),.bool false,.exact (.slice none 0 0)]]) rfl ⟨rfl,rfl⟩ bY rfl (vu rfl (yu _ _ _ _ _ _)) rfl ?_;exact eD ⟨⟨aE.Sub.slice (cz1 _ _),mX rfl,aE.Sub.same,mX rfl,aE.Sub.slice Xv,trivial⟩,aF.Sub.same,trivial⟩
  refine uS gW ?_ ?_<;>intro h52
  .exfalso;omega
  exfalso;omega
 refine uS bA ?_ ?_<;>intro h57
 .obtain rfl:k=4:=O
  apply bh (us:=[[.int .i64 0],[.int .i64 2]]);apply aA (cK [0,2] EQ bY);apply bh (us:=[[.int .i64 1]]);apply aA (cK [1] EQ bY);apply bh (us:=[[.exact (.slice none 0 0)],[sQ (ints [0,2])],[sQ (ints [1])]]);dsimp only[aP,aQ];refine uS bA ?_ ?_<;>intro h64
  .exfalso;omega
  refine uS gW ?_ ?_<;>intro h68
  .exfalso;omega
  exact eD ⟨⟨aE.Sub.slice (av2 _ _),mX rfl,aE.Sub.same,mX rfl,aE.Sub.slice Rr,trivial⟩,aF.Sub.same,trivial⟩
 refine uS bA ?_ ?_<;>intro h73
 .obtain rfl:k=5:=O
  apply bh (us:=[[.int .i64 1]]);apply aA (cK [1] EQ bY);apply bh (us:=[[.int .i64 1],[.int .i64 1]]);apply aA (cK [1,1] EQ bY);apply bh (us:=[[.exact (.slice none 0 0)],[sQ (ints [1])],[sQ (ints [1,1])]]);dsimp only[aP,aQ];refine uS bA ?_ ?_<;>intro h80
  .exfalso;omega
  refine uS gW ?_ ?_<;>intro h84
  .exfalso;omega
  exact eD ⟨⟨aE.Sub.slice (av2 _ _),mX rfl,aE.Sub.same,mX rfl,aE.Sub.slice Rr,trivial⟩,aF.Sub.same,trivial⟩
 refine uS bA ?_ ?_<;>intro h89
 .obtain rfl:k=6:=O
  apply bh (us:=[[.int .i64 0],[.int .i64 2]]);apply aA (cK [0,2] EQ bY);apply bh (us:=[[.int .i64 1],[.int .i64 0],[.int .i64 1]]);apply aA (cK [1,0,1] EQ bY);apply bh (us:=[[.exact (.slice none 0 0)],[sQ (ints [0,2])],[sQ (ints [1,0,1])]]);dsimp only[aP,aQ];refine uS bA ?_ ?_<;>intro h96
  .exfalso;omega
  refine uS gW ?_ ?_<;>intro h100
  .exfalso;omega
  exact eD ⟨⟨aE.Sub.slice (av2 _ _),mX rfl,aE.Sub.same,mX rfl,aE.Sub.slice Rr,trivial⟩,aF.Sub.same,trivial⟩
 refine uS bA ?_ ?_<;>intro h105
 .obtain rfl:k=7:=O
  have hnn:n*(n+1)<=40*41:=by
   have:=FZ (a:=n) (b:=n+1) (c:=40) (d:=41) O O O O;omega
  have hn0:0<=n*(n+1):=tw O O;apply vn aC;apply vn (uv (c:=n*(n+1)) (fG));apply bh (us:=[[.int .i64 (n*(n+1))]]);apply aA (cK [n*(n+1)] (by simp only[jH,eo,FA];omega) bY) rfl;apply bh (us:=[[.int .i64 0],[.int .i64 (-2)]]);dsimp only[aP,aQ];apply aA (cK [0,-2] EQ bY);apply bh (us:=[[.int .i64 1],[.int .i64 0],[.int .i64 (-1)]]);apply aA (cK [1,0,-1] EQ bY);apply bh (us:=[[sQ (ints [n*(n+1)])],[sQ (ints [0,-2])],[sQ (ints [1,0,-1])]]);refine uS bA ?_ ?_<;>intro h116
  .exfalso;omega
  refine uS gW ?_ ?_<;>intro h120
  .refine as1 (n:=0) (us:=[[.exact (.slice none 0 0),.bool false,.exact (.slice none 0 0)],qC 1]) (rs:=[]) (vs:=[qC 1,[.exact (.slice none 0 0),.bool false,.exact (.slice none 0 0)]]) rfl ⟨rfl,rfl⟩ bY rfl (vu rfl (yu _ _ _ _ _ _)) rfl ?_;exact eD ⟨⟨aE.Sub.same,mX rfl,aE.Sub.same,mX rfl,aE.Sub.slice Xv,trivial⟩,aF.Sub.same,trivial⟩
  exfalso;omega
 apply vn bA;dsimp only[aP,aQ];refine p8 ?_ ?_<;>intro h125
 .obtain rfl:k=8:=O
  apply vn pb;apply bh (us:=[[.int .i64 (2*n)]]);apply aA (cK [2*n] (by simp only[jH,eo,FA];omega) bY) rfl;apply bh (us:=[[.int .i64 0],[.int .i64 (-2)]]);apply aA (cK [0,-2] EQ bY);apply bh (us:=[[.int .i64 1]]);apply aA (cK [1] EQ bY);apply bh (us:=[[sQ (ints [2*n])],[sQ (ints [0,-2])],[sQ (ints [1])]]);dsimp only[aP,aQ];refine uS bA ?_ ?_<;>intro h135
  .exfalso;omega
  refine uS gW ?_ ?_<;>intro h139
  .refine as1 (n:=0) (us:=[[.exact (.slice none 0 0),.bool false,.exact (.slice none 0 0)],qC 1]) (rs:=[]) (vs:=[qC 1,[.exact (.slice none 0 0),.bool false,.exact (.slice none 0 0)]]) rfl ⟨rfl,rfl⟩ bY rfl (vu rfl (yu _ _ _ _ _ _)) rfl ?_;exact eD ⟨⟨aE.Sub.same,mX rfl,aE.Sub.same,mX rfl,aE.Sub.slice Xv,trivial⟩,aF.Sub.same,trivial⟩
  exfalso;omega
 refine uS bA ?_ ?_<;>intro h144
 .exfalso;omega
 refine uS gW ?_ ?_<;>intro h148
 .exfalso;omega
 exfalso;omega
def WI:Tr:=hx137Q 
def bK9:Tr:=jL 0 5 2 0 27 12 13 (dK 5 3 26 14 (vD 39 6 0 1 2 15 26 4 (kq 7 0 16 (aJ 8 0 WI (bX 2 1 3 9 (kA 0 1 9))))))
def bJ0:Tr:=aJ 4 0 bK9 (eO 55 [G2 0] [none] [19] [24] 4 false (aJ 5 0 (tk 39 0 2 3 4 23 26 4 (aJ 6 0 (bD 0 5 28 27 (ju 7 0 6 3 29 bx2)) WI)) WI))
def bP3:Tr:=Rm (bD 0 5 6 27 (dW 2 3 0 3 4 7 4 bJ0))
def as7:aO prog f15 cT [.v (some 8)]=bP3:=aT
def kER(k:Nat)(n:Int):List (List RQ):=
 match k with
 | 1=>[eI [-1],eI [1]]
 | 2=>[eI [1],[],eI [1]]
 | 3=>[eI [0,-1],[],eI [1]]
 | 4=>[[],eI [0,2],eI [1]]
 | 5=>[[],eI [1],eI [1,1]]
 | 6=>[[],eI [0,2],eI [1,0,1]]
 | 7=>[eI [n*(n+1)],eI [0,-2],eI [1,0,-1]]
 | _=>[eI [2*n],eI [0,-2],eI [1]]
def kYR(k:Nat):List RQ:=
 match k with
 | 1=>[.of 1]
 | 3=>[.of 1,.nil]
 | 7=>[.of 1,.nil]
 | 8=>[.of 1,.nil]
 | _=>[.nil,.of 1]
def co5{k:Nat}(h1:1<=k)(h2:k<=8)(n:Int):xh (kER k n)=kE k n:=by
 rcases(by omega:k=1\/k=2\/k=3\/k=4\/k=5\/k=6\/k=7\/k=8)with rfl | rfl | rfl | rfl | rfl | rfl | rfl | rfl<;>simp only[xh,kER,kE,dy,jD,bs3]
def cl6{k:Nat}(h1:1<=k)(h2:k<=8):(kYR k).map RQ.q=kY k:=by
 rcases(by omega:k=1\/k=2\/k=3\/k=4\/k=5\/k=6\/k=7\/k=8)with rfl | rfl | rfl | rfl | rfl | rfl | rfl | rfl<;>rfl
abbrev fR(e:List (List RQ))(c:RQ)(y:List RQ):aF:=.agg [eR e,.int .i64 c.q.num.sign,bT c.q.num.natAbs,.int .i64 (if c.z then 0 else 1),bT (if c.z then 0 else c.q.den),sR y]
def Rq:au (au aE.Sub) [[.int .i64 0,.exact (.slice none 0 0),.int .i64 0,.exact (.slice none 0 0)],rC (.of 1)] [rC .nil,rC (.of 1)]:=⟨AQ,⟨aE.Sub.same,aE.Sub.same,aE.Sub.same,aE.Sub.same,trivial⟩,trivial⟩
def Ws:au (au aE.Sub) [rC (.of 1),[.int .i64 0,.exact (.slice none 0 0),.int .i64 0,.exact (.slice none 0 0)]] [rC (.of 1),rC .nil]:=⟨⟨aE.Sub.same,aE.Sub.same,aE.Sub.same,aE.Sub.same,trivial⟩,AQ,trivial⟩
def bz4(p q:List RQ):au (au aE.Sub) [[sR p],[.exact (.slice none 0 0)],[sR q]] [cR p,cR [],cR q]:=⟨⟨aE.Sub.same,trivial⟩,⟨aE.Sub.nil,trivial⟩,⟨aE.Sub.same,trivial⟩,trivial⟩
def XL(p q:List RQ):au (au aE.Sub) [[.exact (.slice none 0 0)],[sR p],[sR q]] [cR [],cR p,cR q]:=⟨⟨aE.Sub.nil,trivial⟩,⟨aE.Sub.same,trivial⟩,⟨aE.Sub.same,trivial⟩,trivial⟩
def aD5(k:Nat)(n:Int)(hk1:1<=k)(hk:k<=8)(h1:0<=n:=by omega)(h2:n<=40:=by omega):aK prog 25 [(.one (.int .u8 k):aF),(.one (.int .i64 n):aF)] (.ret [fR (kER k n) .nil (kYR k)]):=by
 refine dB func25 aV8 ?_;apply aA (nN 1);refine uS bA ?_ ?_<;>intro h2
 .obtain rfl:k=1:=O
  apply bh (us:=[[.int .i64 (-1)]]);apply aA (cL [-1] EQ bY);apply bh (us:=[[.int .i64 1]]);apply aA (cL [1] EQ bY);apply bh (us:=[[sR (eI [-1])],[sR (eI [1])]]);apply bh (us:=[rC (.of 1)]);exact eD ⟨⟨aE.Sub.same,aE.Sub.same,tG rfl,aE.Sub.same,tG rfl,aE.Sub.same,trivial⟩,trivial⟩
 apply vn bA;dsimp only[aP,aQ];refine p8 ?_ ?_<;>intro h11
 .obtain rfl:k=2:=O
  apply bh (us:=[[.int .i64 1]]);apply aA (cL [1] EQ bY);apply bh (us:=[[.int .i64 1]]);apply aA (cL [1] EQ bY);apply bh (us:=[[sR (eI [1])],[.exact (.slice none 0 0)],[sR (eI [1])]]);apply bh (us:=[[.int .i64 0,.exact (.slice none 0 0),.int .i64 0,.exact (.slice none 0 0)],rC (.of 1)]);exact eD ⟨⟨aE.Sub.slice (bz4 _ _),aE.Sub.same,tG rfl,aE.Sub.same,tG rfl,aE.Sub.slice Rq,trivial⟩,trivial⟩
 refine uS bA ?_ ?_<;>intro h20
 .obtain rfl:k=3:=O
  apply bh (us:=[[.int .i64 0],[.int .i64 (-1)]]);dsimp only[aP,aQ];apply aA (cL [0,-1] EQ bY);apply bh (us:=[[.int .i64 1]]);apply aA (cL [1] EQ bY);apply bh (us:=[[sR (eI [0,-1])],[.exact (.slice none 0 0)],[sR (eI [1])]]);apply bh (us:=[rC (.of 1),[.int .i64 0,.exact (.slice none 0 0),.int .i64 0,.exact (.slice none 0 0)]]);exact eD ⟨⟨aE.Sub.slice (bz4 _ _),aE.Sub.same,tG rfl,aE.Sub.same,tG rfl,aE.Sub.slice Ws,trivial⟩,trivial⟩
 refine uS bA ?_ ?_<;>intro h29
 .obtain rfl:k=4:=O
  apply bh (us:=[[.int .i64 0],[.int .i64 2]]);apply aA (cL [0,2] EQ bY);dsimp only[aP,aQ];apply bh (us:=[[.int .i64 1]]);apply aA (cL [1] EQ bY);apply bh (us:=[[.exact (.slice none 0 0)],[sR (eI [0,2])],[sR (eI [1])]]);apply bh (us:=[[.int .i64 0,.exact (.slice none 0 0),.int .i64 0,.exact (.slice none 0 0)],rC (.of 1)]);exact eD ⟨⟨aE.Sub.slice (XL _ _),aE.Sub.same,tG rfl,aE.Sub.same,tG rfl,aE.Sub.slice Rq,trivial⟩,trivial⟩
 refine uS bA ?_ ?_<;>intro h38
 .obtain rfl:k=5:=O
  apply bh (us:=[[.int .i64 1]]);apply aA (cL [1] EQ bY);apply bh (us:=[[.int .i64 1],[.int .i64 1]]);dsimp only[aP,aQ];apply aA (cL [1,1] EQ bY);apply bh (us:=[[.exact (.slice none 0 0)],[sR (eI [1])],[sR (eI [1,1])]]);apply bh (us:=[[.int .i64 0,.exact (.slice none 0 0),.int .i64 0,.exact (.slice none 0 0)],rC (.of 1)]);exact eD ⟨⟨aE.Sub.slice (XL _ _),aE.Sub.same,tG rfl,aE.Sub.same,tG rfl,aE.Sub.slice Rq,trivial⟩,trivial⟩
 refine uS bA ?_ ?_<;>intro h47
 .obtain rfl:k=6:=O
  apply bh (us:=[[.int .i64 0],[.int .i64 2]]);apply aA (cL [0,2] EQ bY);apply bh (us:=[[.int .i64 1],[.int .i64 0],[.int .i64 1]]);apply aA (cL [1,0,1] EQ bY);dsimp only[aP,aQ];apply bh (us:=[[.exact (.slice none 0 0)],[sR (eI [0,2])],[sR (eI [1,0,1])]]);apply bh (us:=[[.int .i64 0,.exact (.slice none 0 0),.int .i64 0,.exact (.slice none 0 0)],rC (.of 1)]);exact eD ⟨⟨aE.Sub.slice (XL _ _),aE.Sub.same,tG rfl,aE.Sub.same,tG rfl,aE.Sub.slice Rq,trivial⟩,trivial⟩
 refine uS bA ?_ ?_<;>intro h56
 .obtain rfl:k=7:=O
  have hnn:n*(n+1)<=40*41:=by
   have:=FZ (a:=n) (b:=n+1) (c:=40) (d:=41) O O O O;omega
  have hn0:0<=n*(n+1):=tw O O;apply vn aC;apply vn (uv (c:=n*(n+1)) (fG));apply bh (us:=[[.int .i64 (n*(n+1))]]);apply aA (cL [n*(n+1)] (by simp only[jH,eo,FA];omega) bY) rfl;apply bh (us:=[[.int .i64 0],[.int .i64 (-2)]]);dsimp only[aP,aQ];apply aA (cL [0,-2] EQ bY);apply bh (us:=[[.int .i64 1],[.int .i64 0],[.int .i64 (-1)]]);apply aA (cL [1,0,-1] EQ bY);apply bh (us:=[[sR (eI [n*(n+1)])],[sR (eI [0,-2])],[sR (eI [1,0,-1])]]);apply bh (us:=[rC (.of 1),[.int .i64 0,.exact (.slice none 0 0),.int .i64 0,.exact (.slice none 0 0)]]);exact eD ⟨⟨aE.Sub.same,aE.Sub.same,tG rfl,aE.Sub.same,tG rfl,aE.Sub.slice Ws,trivial⟩,trivial⟩
 obtain rfl:k=8:=O
 apply vn pb;apply bh (us:=[[.int .i64 (2*n)]]);apply aA (cL [2*n] (by simp only[jH,eo,FA];omega) bY) rfl;dsimp only[aP,aQ];apply bh (us:=[[.int .i64 0],[.int .i64 (-2)]]);apply aA (cL [0,-2] EQ bY);apply bh (us:=[[.int .i64 1]]);apply aA (cL [1] EQ bY);apply bh (us:=[[sR (eI [2*n])],[sR (eI [0,-2])],[sR (eI [1])]]);apply bh (us:=[rC (.of 1),[.int .i64 0,.exact (.slice none 0 0),.int .i64 0,.exact (.slice none 0 0)]]);exact eD ⟨⟨aE.Sub.same,aE.Sub.same,tG rfl,aE.Sub.same,tG rfl,aE.Sub.slice Ws,trivial⟩,trivial⟩
abbrev sP(p:List (List bz)):aE:=.slice 1 (p.map fun l=>[sN l])
def mV(p:List (List bz)):Bool:=decide (p.length<=6/\∀l∈p,l.length<=4/\∀x∈l,x.Ew=true)
structure InP(p:List (List bz)):Prop where
 l:p.length<140737488355328
 p:∀l∈p,l.length<140737488355328/\∀x∈l,x.In
def QY(p:List (List bz))(long:Int)(hp:InP p):aK prog 55 [(.agg [sP p,.int .i64 long]:aF)] (.ret [.one (.bool (mV p))]):=by
 refine dB func55 Qx ?_;have hpl:=hp.l;refine bC {i:Nat // i<=p.length/\∀j l,j<i->p[j]?=some l->l.length<=4/\∀x∈l,x.Ew=true} (fun g=>[.one (.bool false),.one (.int .i64 g.1)]) (fun g=>p.length-g.1) ⟨0,cG _,fun j l h=>O⟩ aR.rfl (fun _=>rfl) ?_;rintro⟨i,hi,hok⟩;dsimp only[aP,aQ]at hi hok|-;apply vn (aZ Yw (aX _));refine uS az ?_ ?_<;>intro h3
 .obtain⟨l,hl⟩:∃l,p[i]?=some l:=⟨_,bU O⟩
  obtain⟨hll,hlx⟩:=hp.p l (cj hl)
  have hbad:∀x∈l,x.Ew=false->mV p=false:=fun x hx h=>by
   unfold mV;rw[jJ];rintro⟨_,h2⟩;rw[(h2 l (cj hl)).2 x hx]at h;cases h
  apply vn (aY Yw hl);apply vn (bI bq4);apply vn (aZ VJ (aX _));refine uS fL ?_ ?_<;>intro h8
  .rw[show mV p=false by
    unfold mV;rw[jJ];rintro⟨_,h2⟩;have:=(h2 l (cj hl)).1;omega];exact aN
  refine bC {k:Nat // k<=l.length/\∀j x,j<k->l[j]?=some x->x.Ew=true} (fun g=>[.one (.bool false),.one (.int .i64 g.1)]) (fun g=>l.length-g.1) ⟨0,cG _,fun j x h=>O⟩ aR.rfl (fun _=>rfl) ?_;rintro⟨k,hk,hkok⟩;dsimp only[aP,aQ]at hk hkok|-;apply vn (aY Yw hl);apply vn (bI bq4);apply vn (aZ VJ (aX _));refine uS az ?_ ?_<;>intro h15
  .apply vn (aY Yw hl);apply vn (bI bq4);dsimp only[aP,aQ];obtain⟨x,hx⟩:∃x,l[k]?=some x:=⟨_,bU O⟩
   have hxl:=cj hx;have hxi:=hlx x hxl;apply vn (aY VJ hx);apply vn (ay bQ3 dO bY (.inl rfl));apply vn gR;refine uS jA ?_ ?_<;>intro h22
   .rw[hbad x hxl (by unfold bz.Ew;rw[jJ];omega)];exact aN
   refine uS fL ?_ ?_<;>intro h25
   .rw[hbad x hxl (by unfold bz.Ew;rw[jJ];omega)];exact aN
   refine uS az ?_ ?_<;>intro h28
   .rw[hbad x hxl (by unfold bz.Ew;rw[jJ];omega)];exact aN
   refine uS fL ?_ ?_<;>intro h31
   .rw[hbad x hxl (by unfold bz.Ew;rw[jJ];omega)];exact aN
   apply vn az;dsimp only[aP,aQ];refine p8 ?_ ?_<;>intro h34
   .rw[hbad x hxl (by unfold bz.Ew;rw[jJ];omega)];exact aN
   apply vn aC
   exact aa rfl ⟨⟨k+1,O,fun j x' hj hx'=>by
    rcases bG j k with h | h
    .exact hkok j x' h hx'
    .rw[show j=k by omega,hx]at hx';simp only[aM]at hx';subst hx';unfold bz.Ew;rw[fH];omega⟩,aR.rfl,by show l.length-(k+1)<l.length-k;omega⟩
  apply vn aC
  exact aa rfl ⟨⟨i+1,O,fun j l' hj hl'=>by
   rcases bG j i with h | h
   .exact hok j l' h hl'
   .rw[show j=i by omega,hl]at hl';simp only[aM]at hl';subst hl';refine⟨O,fun x hx=>?_⟩;obtain⟨m,hm⟩:=xO hx;exact hkok m x (by have:=(fK.1 hm).1;omega) hm⟩,aR.rfl,by show p.length-(i+1)<p.length-i;omega⟩
 apply vn (aZ Yw (aX _));apply vn iQ;dsimp only[aP,aQ]
 rw[show mV p=decide ((p.length:Int)<=6) by
  unfold mV;rw[kV]
  constructor
  .rintro⟨h,_⟩;omega
  .intro h;refine⟨O,fun l hl=>?_⟩;obtain⟨m,hm⟩:=xO hl;exact hok m l (by have:=(fK.1 hm).1;omega) hm];exact aN
structure bL where
 p:List (List bz)
 long:Int
 c:bz
 y:List bz
 kind:Nat
 n:Int
abbrev caT(c:bL):aF:=.agg [sP c.p,.int .i64 c.long,.int .i64 c.c.n,.int .i64 c.c.d,.int .u8 c.c.pow,sN c.y,.int .u8 c.kind,.int .i64 c.n]
structure bL.In(c:bL):Prop where
 hp:InP c.p
 hl1:-9223372036854775808<=c.long
 hl2:c.long<9223372036854775808
 hc:c.c.In
 hyl:c.y.length<140737488355328
 hy:∀x∈c.y,x.In
 hk:c.kind<256
 hn1:-9223372036854775808<=c.n
 hn2:c.n<9223372036854775808
def bL.small(c:bL):Bool:=decide ((∀x∈c.y,x.short=true)/\mV c.p=true/\c.c.short=true/\c.y.length<=6)
def ax9(c:bL)(h:c.In):aK prog 15 [(caT c:aF)] (.ret [.one (.bool c.small)]):=by
 refine dB func15 as7 ?_;have hyl:=h.hyl;refine bC {i:Nat // i<=c.y.length/\∀j x,j<i->c.y[j]?=some x->x.short=true} (fun g=>[.one (.bool false),.one (.int .i64 g.1)]) (fun g=>c.y.length-g.1) ⟨0,cG _,fun j x h=>O⟩ aR.rfl (fun _=>rfl) ?_;rintro⟨i,hi,hok⟩;dsimp only[aP,aQ]at hi hok|-;apply vn (aZ VJ (aX _));refine uS az ?_ ?_<;>intro h3
 .obtain⟨x,hx⟩:∃x,c.y[i]?=some x:=⟨_,bU O⟩
  apply vn (aY VJ hx);apply vn (ay bQ3 dO bY (.inl rfl));apply aA (zj x (h.hy x (cj hx)));apply vn jW;refine gn (!x.short) rfl (fun h8=>?_) (fun h8=>?_)
  .rw[show c.small=false by
    unfold bL.small;rw[jJ];rintro⟨h2,_⟩;rw[h2 x (cj hx)]at h8;cases h8];exact aN
  apply vn aC
  exact aa rfl ⟨⟨i+1,O,fun j x' hj hx'=>by
   rcases bG j i with h | h
   .exact hok j x' h hx'
   .rw[show j=i by omega,hx]at hx';simp only[aM]at hx';subst hx'
    simpa using h8⟩,aR.rfl,by show c.y.length-(i+1)<c.y.length-i;omega⟩
 have hall:∀x∈c.y,x.short=true:=fun x hx=>by
  obtain⟨m,hm⟩:=xO hx;exact hok m x (by have:=(fK.1 hm).1;omega) hm
 apply aA (QY c.p c.long h.hp);dsimp only[aP,aQ];refine gn (mV c.p) rfl (fun h13=>?_) (fun h13=>?_)
 .apply aA (zj c.c h.hc);refine gn c.c.short rfl (fun h15=>?_) (fun h15=>?_)
  .apply vn (aZ VJ (aX _));apply vn iQ;dsimp only[aP,aQ]
   rw[show c.small=decide ((c.y.length:Int)<=6) by
    unfold bL.small;rw[kV];exact⟨fun h=>by have:=h.2.2.2;omega,fun h=>⟨hall,h13,h15,O⟩⟩];exact aN
  rw[show c.small=false by unfold bL.small;rw[jJ,h15];simp];exact aN
 rw[show c.small=false by unfold bL.small;rw[jJ,h13];simp];exact aN
def cg8:Tr:=tM 8 32 29 (jk 1 24 2 10 28 30 32 (Dt 144 9 33 167 167 (tM 12 44 34 (jk 1 24 3 13 32 35 44 (bX 1 1 3 17 (SA 15 11 14))))))
def bv0:Tr:=eV 10 12 50 51 53 (.need (.strow 10 4 (.u 12 0) 0 [.u 14 0,.u 14 1,.u 14 2,.u 14 3]) (.store 49 (tT 57) (tT 55)) 0 false (aF5 3 15 32 59 (jk 1 24 2 17 58 60 32 (aF5 4 16 44 63 (jk 1 24 3 19 62 64 44 (XY 1 18 1 20))))))
def bp3:Tr:=aK5 8 50 46 (iJ 8 1 49 (iJ 8 1 52 (og 68 1 3 2 39 (og 50 1 4 2 49 (eV 9 11 40 48 50 (OO 9 11 13 56 54 bv0))))))
def bD9:Tr:=dW 1 4 0 3 12 15 4 (aJ 5 0 (jL 0 0 1 0 22 21 22 (cq 6 27 23 (eO 71 [W 7 0] [none,none] [24] [27] 128 false cg8))) (ia 0 1 0 3 38 (aJ 6 0 (FX .rem 3 41 50 0 1 3 (bX 7 1 3 42 (ag5 8 40 44 bp3))) (XY 1 2 1 3))))
def bL4:Tr:=.loop 0 [lK 0,.nilrow,.nilrow] (bD 0 0 14 22 bD9)
def Um:aO prog f57 cT [.v (some 2)]=bL4:=aT
def Zd:Tr:=.ret [G5 7,G6 9]
def bm4:Tr:=ia 0 7 8 3 22 (aJ 3 0 (XC (Ox 4 0 8 27 (Rs 5 28 (eO 18 [W 6 0,WK 2] [some 5,none] [31,32] [5,3] 56 false (eO 25 [W 6 0,WK 2] [some 6] [37,38] [5,3] 52 true Zd))))) (XC (Ox 4 0 8 27 (Rs 5 28 (eO 18 [W 6 0,W 0 7] [some 5,none] [31,32] [5,3] 56 false (OM 25 6 0 7 6 37 38 5 3 52 Zd))))))
def cc8:Tr:=aJ 2 0 (XC (Ox 3 0 8 27 (Rs 4 28 (eO 18 [W 5 0,WK 2] [some 5,none] [31,32] [5,3] 56 false (eO 25 [W 5 0,WK 2] [some 6] [37,38] [5,3] 52 true (.ret [G5 6,G6 8])))))) bm4
def bX7:Tr:=aE3 6 0 15 (aJ 1 0 (kp 0 7 0 3 19 cc8) (eO 57 [G2 0] [none,none] [42] [24] 107 false (ZM 0 2 3 4 48 (eO 71 [W 0 5] [none,none] [54] [27] 128 false (.ret [.agg [U 2 0,U 4 0,U 4 1,U 4 2,U 6 0],.agg [U 3 0,U 5 0,U 5 1,U 5 2,U 5 3,U 7 0]])))))
def be9:aO prog f17 cT [.v (some 8)]=bX7:=aT
def oi(n:Nat):List Rat:=(List.replicate n (0:Rat)).set (n-1) 1
def TN(n:Nat):List RQ:=(List.replicate n RQ.nil).set (n-1) (.of 1)
def Oe(p:List (List bz))(long:Int):List (List Rat):=p.map dY++if 0<long then[oi (long%50+1).toNat]else[]
def eRQ(p:List (List bz))(long:Int):List (List RQ):=p.map (fun l=>gI (tS l))++if 0<long then[TN (long%50+1).toNat]else[]
theorem vr{α β:Type}{R:α->β->Prop}{a:α}{b:β}(h:R a b):∀n,au R (List.replicate n a) (List.replicate n b)
 | 0=>trivial
 | n+1=>⟨h,vr h n⟩
theorem zt{α β:Type}{R:α->β->Prop}{a:α}{b:β}(h:R a b):∀{xs:List α}{ys:List β}(m:Nat),au R xs ys->au R (xs.set m a) (ys.set m b)
 | [],[],_,_=>trivial
 | _::_,_::_,0,⟨_,k⟩=>⟨h,k⟩
 | _::_,_::_,m+1,⟨j,k⟩=>⟨j,zt h m k⟩
 | [],_::_,_,k=>k.elim
 | _::_,[],_,k=>k.elim
abbrev z3:List aE:=[.exact (.slice none 0 0),.bool false,.exact (.slice none 0 0)]
abbrev z4:List aE:=[.int .i64 0,.exact (.slice none 0 0),.int .i64 0,.exact (.slice none 0 0)]
def bw3(n:Nat):au (au aE.Sub) ((List.replicate n z3).set (n-1) (qC 1)) ((oi n).map qC):=by
 rw[oi,xj,rn];exact zt ⟨aE.Sub.same,aE.Sub.same,aE.Sub.same,trivial⟩ _ (vr fg n)
def aP0(n:Nat):au (au aE.Sub) ((List.replicate n z4).set (n-1) (rC (.of 1))) ((TN n).map rC):=by
 rw[TN,xj,rn];exact zt ⟨aE.Sub.same,aE.Sub.same,aE.Sub.same,aE.Sub.same,trivial⟩ _ (vr AQ n)
def Jr{α:Type}{l:List α}{i:Nat}{x:α}(h:l[i]?=some x):l.take i++[x]=l.take (i+1):=by
 rw[nm,h];rfl
def wJ(l:List bz):(dY l).length=l.length:=aX _
def QD(l:List bz):(tS l).length=l.length:=aX _
def Ue(p:List (List bz))(long:Int)(hp:InP p)(hs:mV p=true)(hl1:-9223372036854775808<=long)(hl2:long<9223372036854775808):aK prog 57 [(.agg [sP p,.int .i64 long]:aF)] (.ret [.one (eQ (Oe p long)),.one (eR (eRQ p long))]):=by
 refine dB func57 Um ?_;have hs:=hs;unfold mV at hs;rw[fH]at hs;obtain⟨hp6,hpx⟩:=hs;refine bC {i:Nat // i<=p.length} (fun g=>[.one (.int .i64 g.1),.rows ((p.take g.1).map fun l=>cQ (dY l)),.rows ((p.take g.1).map fun l=>cR (gI (tS l)))]) (fun g=>p.length-g.1) ⟨0,cG _⟩ aR.rfl (fun _=>rfl) ?_;rintro⟨i,hi⟩;dsimp only[aP,aQ]at hi|-;apply vn (aZ Yw (aX _));refine uS az ?_ ?_<;>intro h3
 .obtain⟨l,hl⟩:∃l,p[i]?=some l:=⟨_,bU O⟩
  have hlm:=cj hl;have hl4:=(hpx l hlm).1;have hti:(p.take i).length<=i:=by rw[bP];omega
  apply vn (aY Yw hl);apply vn (bI bq4);apply aA (ac6 l (fun x hx=>(hp.p l hlm).2 x hx));apply bh (us:=[cQ (dY l)]);refine rW (xs:=p.take i) (x:=l) (f:=fun l=>cQ (dY l)) rfl rfl O (by simp only[maxLen];omega) ?_;rw[Jr hl];apply aA (xW (tS l) (by rw[QD];omega)) rfl;dsimp only[aP,aQ];apply bh (us:=[cR (gI (tS l))]);refine rW (xs:=p.take i) (x:=l) (f:=fun l=>cR (gI (tS l))) rfl rfl O (by simp only[maxLen];omega) ?_;rw[Jr hl];apply vn aC;dsimp only[aP,aQ];exact aa rfl ⟨⟨i+1,O⟩,aR.rfl,by show p.length-(i+1)<p.length-i;omega⟩
 rw[show i=p.length by omega,eW];refine uS fL ?_ ?_<;>intro h15
 .obtain⟨n,hn⟩:∃n:Nat,(long%50+1).toNat=n:=⟨_,rfl⟩
  have hn1:long%50+1=(n:Int):=O
  have hn2:n<=50:=O
  have hn3:1<=n:=O
  apply vn gR;apply vn (fP (c:=(n:Int)) (by rw[hn1];exact fG)) rfl;refine vz (n:=n) (m:=n) (us:=List.replicate n z3) rfl rfl rfl (ah _) O (by simp only[maxLen];omega) ?_;refine vz (n:=n) (m:=n) (us:=List.replicate n z4) rfl rfl rfl (ah _) O (by simp only[maxLen];omega) ?_;apply vn aL;apply vn aL;apply aA (ph 1);dsimp only[aP,aQ];apply aA (nN 1);refine qP rfl rfl O (by rw[lH];omega) ?_;refine BE (ts:=List.replicate n z3) (us:=(List.replicate n z3).set (n-1) (qC 1)) rfl rfl O (cells:=z3) (by rw[show((n:Int)-1).toNat=n-1 by omega,Bn,aI O]) (by rw[show((n:Int)-1).toNat=n-1 by omega];rfl) ?_;refine qP rfl rfl O (by rw[lH];omega) ?_;refine BE (ts:=List.replicate n z4) (us:=(List.replicate n z4).set (n-1) (rC (.of 1))) rfl rfl O (cells:=z4) (by rw[show((n:Int)-1).toNat=n-1 by omega,Bn,aI O]) (by rw[show((n:Int)-1).toNat=n-1 by omega];rfl) ?_;apply bh (us:=[[.slice 3 ((List.replicate n z3).set (n-1) (qC 1))]]);refine su (ts:=p.map fun l=>cQ (dY l)) (us:=[[.slice 3 ((List.replicate n z3).set (n-1) (qC 1))]]) rfl rfl rfl iF (by simp[maxLen];omega) ?_;apply bh (us:=[[.slice 4 ((List.replicate n z4).set (n-1) (rC (.of 1)))]]);refine su (ts:=p.map fun l=>cR (gI (tS l))) (us:=[[.slice 4 ((List.replicate n z4).set (n-1) (rC (.of 1)))]]) rfl rfl rfl iF (by simp[maxLen];omega) ?_;dsimp only[aP,aQ];refine eD ⟨aE.Sub.slice ?_,aE.Sub.slice ?_,trivial⟩
  .rw[Oe,aI h15,hn,ep,eG];exact au.append (au.pr (au.pr aE.Sub.refl) _) ⟨⟨aE.Sub.slice (bw3 n),trivial⟩,trivial⟩
  .rw[eRQ,aI h15,hn,ep,eG];exact au.append (au.pr (au.pr aE.Sub.refl) _) ⟨⟨aE.Sub.slice (aP0 n),trivial⟩,trivial⟩
 rw[Oe,eRQ,aD h15,aD h15,dD,dD];refine aN ?_;rw[eQ,eR,eG,eG];rfl
def bL.kk(c:bL):Nat:=(c.kind-1)%8+1
def bL.nn(c:bL):Int:=if c.n<0\/8<c.n then 2 else c.n
def bL.E(c:bL):List (List Rat):=if 0<c.kind then kE c.kk c.nn else Oe c.p c.long
def bL.X(c:bL):Rat:=if 0<c.kind then 0 else c.c.v
def bL.Y(c:bL):List Rat:=if 0<c.kind then kY c.kk else dY c.y
def bL.ER(c:bL):List (List RQ):=if 0<c.kind then kER c.kk c.nn else eRQ c.p c.long
def bL.XR(c:bL):RQ:=if 0<c.kind then .nil else .of c.c.v
def bL.YR(c:bL):List RQ:=if 0<c.kind then kYR c.kk else tS c.y
def am3{k:Nat}{n:Int}(h1:1<=k)(h2:k<=8)(h3:0<=n:=by omega)(h4:n<=40:=by omega):mU k n=(kE k n,kY k,0):=by
 rw[mU,aD O,aD O]
def bt4(c:bL)(h:c.In)(hs:c.small=true):aK prog 17 [(caT c:aF)] (.ret [fT c.E c.X c.Y,fR c.ER c.XR c.YR]):=by
 refine dB func17 be9 ?_;have hs':=hs;unfold bL.small at hs';rw[fH]at hs';obtain⟨_,hsp,_,hyl⟩:=hs';have hk:=h.hk;have hn1:=h.hn1;have hn2:=h.hn2;have hkk1:1<=c.kk:=by unfold bL.kk;omega
 have hkk8:c.kk<=8:=by unfold bL.kk;omega
 have hnn:0<=c.nn/\c.nn<=8:=by unfold bL.nn;split<;>omega
 have hK:=TG c.kk c.nn;rw[am3 hkk1 hkk8]at hK;have hR:=aD5 c.kk c.nn hkk1 hkk8;refine uS fL ?_ ?_<;>intro h1
 .have hk0:0<c.kind:=O
  have hkki:((c.kind:Int)-1)%8+1=(c.kk:Int):=by unfold bL.kk;omega
  rw[show c.E=kE c.kk c.nn by rw[bL.E,aI hk0],show c.X=0 by rw[bL.X,aI hk0],show c.Y=kY c.kk by rw[bL.Y,aI hk0],show c.ER=kER c.kk c.nn by rw[bL.ER,aI hk0],show c.XR=RQ.nil by rw[bL.XR,aI hk0],show c.YR=kYR c.kk by rw[bL.YR,aI hk0]];refine uS az ?_ ?_<;>intro h3
  .have hnnv:c.nn=2:=by rw[bL.nn,aI O]
   rw[hnnv]at hK hR|-;apply vn Lz;apply vn gR;apply vn (fP (c:=(c.kk:Int)) (by rw[hkki];exact UF)) rfl;apply aA hK;apply aA hR;exact aN
  refine uS fL ?_ ?_<;>intro h11
  .have hnnv:c.nn=2:=by rw[bL.nn,aI O]
   rw[hnnv]at hK hR|-;apply vn Lz;dsimp only[aP,aQ];apply vn gR;apply vn (fP (c:=(c.kk:Int)) (by rw[hkki];exact UF)) rfl;apply aA hK;apply aA hR;exact aN
  have hnnv:c.nn=c.n:=by rw[bL.nn,aD O]
  rw[hnnv]at hK hR|-;apply vn Lz;apply vn gR;apply vn (fP (c:=(c.kk:Int)) (by rw[hkki];exact UF)) rfl;apply aA hK;apply aA hR;exact aN
 have hk0:¬0<c.kind:=O
 rw[show c.E=Oe c.p c.long by rw[bL.E,aD hk0],show c.X=c.c.v by rw[bL.X,aD hk0],show c.Y=dY c.y by rw[bL.Y,aD hk0],show c.ER=eRQ c.p c.long by rw[bL.ER,aD hk0],show c.XR=RQ.of c.c.v by rw[bL.XR,aD hk0],show c.YR=tS c.y by rw[bL.YR,aD hk0]];apply aA (Ue c.p c.long h.hp hsp h.hl1 h.hl2);dsimp only[aP,aQ];apply aA (Gd c.c h.hc);apply aA (ac6 c.y h.hy);exact aN
end Go.Sy
