/- Part. -/
import Derived.Test.YtdmcadckdnnglaaGreatDoorPb
set_option linter.all false
set_option maxHeartbeats 2000000
namespace Go.Sy
open Go Go.Proofs Tryz Ord
def bL1:Tr:=aH 5 0 (gb 0 0 4 0 32 12 13 (bm 6 72 14 (Ym 1 7 11 15 72 (aH 8 0 (bI 4) (bD 4 1 3 8 (jj 0 3 9)))))) (qQ (-1))
def bC0:Tr:=au 0 0 6 32 (ym (cU 4 2 0 3 8 7 0 bL1))
def XJ:aM prog f180 bZ [.v none,.v none]=bC0:=by kernel_rfl
def bC7:Tr:=oL 180 0 0 1 5 6 32 165 3 (qA .geq 3 7 0 2 0 4 (bI 3))
def Mp:aM prog f93 bZ [.v none,.v none]=bC7:=by kernel_rfl
def bN2:Tr:=qt 95 0 3 72 3 (fL 1 0 40 3 4 (bI 2))
def vM:aM prog f94 bZ [.v none]=bN2:=by kernel_rfl
def FO:Tr:=qQ 2
def aj5:Tr:=qQ 0
def aZ2:Tr:=au 0 0 17 32 (fP 6 1 18 (gb 0 0 7 0 32 16 19 (bm 8 72 20 (xX 95 9 21 72 3 (iJ 10 0 0 3 22 (aH 11 0 FO aj5))))))
def bG9:Tr:=iJ 1 0 2 3 4 (aH 2 0 FO (au 0 0 7 32 (fL 3 0 5 3 8 (aH 4 0 FO (.need (.call 93 [(W 0 0),(.one (.jO 94 []))] [none]) (.call ⟨.value (.func 93),#[(tT 12),(.func 94)],#[32,165]⟩) 4 false (aH 5 0 FO aZ2))))))
def by8:Tr:=au 0 0 3 32 bG9
def yw:aM prog f19 bZ [.v none]=by8:=by kernel_rfl
def aK7:Tr:=bI 8
def bO0:Tr:=au 0 0 6 32 (fP 2 1 7 (gb 0 0 3 0 32 5 8 (bm 4 72 9 (dV 181 [(W 5 0),(G3 1)] [(some 3)] [10,11] [72,39] 39 false (DH 35 6 12 39 3 (lP 7 3 13 aK7))))))
def RT:aM prog f97 bZ [.v none,.v (some 3)]=bO0:=by kernel_rfl
def bL9:Tr:=au 0 0 12 32 (fP 4 1 13 (uW .neq 3 10 14 3 0 5 0 4 (aH 6 0 FO (dV 97 [(W 0 0),(.agg [(U 0 1),(U 0 2),(U 0 3)])] [none] [19,21] [32,39] 4 false (jX 7 0 22 (aH 8 0 FO aj5))))))
def bB7:Tr:=xX 19 0 4 32 55 (lP 1 55 5 (aH 2 0 FO (au 0 4 9 40 bL9)))
def YZ:aM prog f21 bZ [.v (some 5)]=bB7:=by kernel_rfl
abbrev cQ(p:List Rat):List aE:=[sQ p]
abbrev cR(p:List RQ):List aE:=[sR p]
abbrev eQ(e:List (List Rat)):aE:=.slice 1 (e.map cQ)
abbrev eR(e:List (List RQ)):aE:=.slice 1 (e.map cR)
def Nk{α:Type}(c:α->Bool):List α->Nat->Int
 | [],_=>-1
 | x::xs,i=>if c x then(i:Int)else Nk c xs (i+1)
theorem NU{α:Type}(c:α->Bool):∀(l:List α)(i:Nat),decide (0<=Nk c l i)=l.any c
 | [],i=>rfl
 | x::xs,i=>by
   simp only[Nk,List.any_cons];split
   ·rename_i h;rw[h];simp
   ·rename_i h;rw[NU c xs (i+1)];simp[h]
def af1(e:List (List Rat))(g:Nat)(c:List Rat->Bool)(hc:∀p∈e,aL prog g [.one (sQ p)] (.ret [.one (.bool (c p))]))(hs:e.length<1099511627776):aL prog 180 [(.one (eQ e):aG),(.one (.jO g []):aG)] (.ret [.one (.int .i64 (Nk c e 0))]):=by
 refine bw func180 XJ ?_;apply vn (aU AH (aR _));refine ao {i:Nat // i<=e.length/\Nk c e 0=Nk c (e.drop i) i} (fun g=>[.one (.int .i64 0),.one (.int .i64 g.1)]) (fun g=>e.length-g.1) ⟨0,bO _,rfl⟩ aQ.rfl (fun _=>rfl) ?_;rintro⟨i,hi,hf⟩;dsimp only[aO,aP]at hi hf|-;apply vn ak;refine vs _ rfl ?_ ?_<;>intro h3
 ·obtain⟨p,hp⟩:∃p,e[i]?=some p:=⟨_,ay O⟩
  have hdrop:e.drop i=p::e.drop (i+1):=by
   rw[pC O,(dn.1 hp).2]
  rw[hdrop,Nk]at hf;apply vn (aZ AH hp);apply vn (av Ov);apply sO (f:=g) (caps:=[]) rfl (hc p (bc hp)) rfl;refine lR (c p) rfl (fun h7=>?_) (fun h7=>?_)
  ·rw[hf,if_pos h7];exact aK
  apply vn aC;dsimp only[aO,aP];exact aW rfl ⟨⟨i+1,O,by rw[hf,if_neg (by simp[h7])]⟩,aQ.rfl,by show e.length-(i+1)<e.length-i;omega⟩
 rw[hf,tk O,Nk];exact aK
def Od(e:List (List Rat))(g:Nat)(c:List Rat->Bool)(hc:∀p∈e,aL prog g [.one (sQ p)] (.ret [.one (.bool (c p))]))(hs:e.length<1099511627776):aL prog 93 [(.one (eQ e):aG),(.one (.jO g []):aG)] (.ret [.one (.bool (e.any c))]):=by
 refine bw func93 Mp ?_;apply aA (af1 e g c hc hs);apply vn fO;dsimp only[aO,aP];rw[<-NU c e 0];exact aK
def Jk(p:List Rat):Bool:=decide (41<cz zr p)
def vV(p:List Rat)(hs:p.length<1099511627776):aL prog 94 [(.one (sQ p):aG)] (.ret [.one (.bool (Jk p))]):=by
 refine bw func94 vM ?_;apply aA (ye p hs);apply vn dZ;dsimp only[aO,aP];refine aK ?_;rw[Jk,show decide (41<cz zr p)=decide ((40:Int)<(cz zr p:Int)-1) by rw[lE];omega];rfl
def Aj(e:List (List Rat)):Bool:=decide (2<=e.length/\e.length<=5/\(∀p∈e,cz zr p<=41)/\∀p,e[e.length-1]?=some p->cz zr p≠0)
def pz(e:List (List Rat))(hs:e.length<1099511627776)(hp:∀p∈e,p.length<1099511627776):aL prog 19 [(.one (eQ e):aG)] (.ret [.one (.int .i64 (if Aj e then 0 else 2))]):=by
 refine bw func19 yw ?_;apply vn (aU AH (aR _));apply vn ak;refine vs _ rfl ?_ ?_<;>intro h2
 ·rw[if_neg (by unfold Aj;rw[dx];omega)];exact aK
 apply vn (aU AH (aR _));apply vn dZ;refine vs _ rfl ?_ ?_<;>intro h6
 ·rw[if_neg (by unfold Aj;rw[dx];omega)];exact aK
 apply aA (Od e 94 Jk (fun p hp'=>vV p (hp p hp')) hs);refine lR (e.any Jk) rfl (fun h9=>?_) (fun h9=>?_)
 ·rw[if_neg (by
   unfold Aj;rw[dx];rintro⟨_,_,h,_⟩;obtain⟨p,hp1,hp2⟩:=List.any_eq_true.1 h9;have:=h p hp1;simp[Jk]at hp2;omega)];exact aK
 apply vn (aU AH (aR _));apply vn aJ;dsimp only[aO,aP];obtain⟨p,hpl⟩:∃p,e[e.length-1]?=some p:=⟨_,ay O⟩
 apply vn (aZ AH hpl);apply vn (av Ov);apply aA (ye p (hp p (bc hpl)));apply vn ak;refine vs _ rfl ?_ ?_<;>intro h17
 ·rw[if_neg (by
   unfold Aj;rw[dx];rintro⟨_,_,_,h⟩;have:=h p hpl;omega)];exact aK
 rw[if_pos (by
  unfold Aj;rw[dx];refine⟨O,O,fun p' hp'=>?_,fun p' hp'=>?_⟩
  ·have:=List.any_eq_false.1 h9 p' hp';simp[Jk]at this;omega
  ·rw[hpl]at hp';simp only[aI]at hp';subst hp';omega)];exact aK
structure EqS(e:List (List Rat)):Prop where
 l:e.length<=64
 p:∀p∈e,p.length<=64/\∀q∈p,Fit 513 q
def rH(e:List (List Rat))(c:Rat):Bool:=decide (∀p,e[e.length-1]?=some p->lM p c≠0)
def CF(e:List (List Rat))(c:Rat)(he:EqS e)(h0:0<e.length)(hc:Fit 513 c):aL prog 97 [(.one (eQ e):aG),(qT c:aG)] (.ret [.one (.bool (rH e c))]):=by
 refine bw func97 RT ?_;have hl:=he.l;apply vn (aU AH (aR _));apply vn aJ;dsimp only[aO,aP];obtain⟨p,hpl⟩:∃p,e[e.length-1]?=some p:=⟨_,ay O⟩
 obtain⟨hp1,hp2⟩:=he.p p (bc hpl);apply vn (aZ AH hpl);apply vn (av Ov);apply aA (ay7 p c 513 hp2 hc);apply aA (oN _);apply vn gN;dsimp only[aO,aP];refine aK ?_
 have:rH e c=decide ((lM p c).num.sign≠0):=by
  unfold rH;rw[lE]
  constructor
  ·intro h hh;exact h p hpl (sign_zero.1 hh)
  ·intro h p' hp' hh;rw[hpl]at hp';simp only[aI]at hp';subst hp';exact h (sign_zero.2 hh)
 rw[this];rfl
def okF(e:List (List Rat))(c:Rat)(y:List Rat):Bool:=Aj e&&decide (y.length=e.length-1)&&rH e c
def vi(e:List (List Rat))(c:Rat)(y:List Rat)(he:EqS e)(hc:Fit 513 c)(hy:y.length<1099511627776:=by omega):aL prog 21 [(.agg [eQ e,dT c.num.natAbs,.bool (decide (c.num<0)),dT (c.den-1),sQ y]:aG)] (.ret [.one (.int .i64 (if okF e c y then 0 else 2))]):=by
 refine bw func21 YZ ?_;have hl:=he.l;have hp:=he.p;apply aA (pz e O (fun p hp'=>by have:=(hp p hp').1;omega)) rfl;apply vn gN;dsimp only[aO,aP];have h2':decide ((if Aj e=true then(0:Int)else 2)≠0) = !Aj e:=by cases Aj e<;>rfl
 rw[h2'];refine lR (!Aj e) rfl (fun h2=>?_) (fun h2=>?_)
 ·rw[if_neg (by simp at h2;simp[okF,h2])];exact aK
 have h2:Aj e=true:=by simpa using h2
 have hlen:2<=e.length:=by unfold Aj at h2;rw[dx]at h2;exact h2.1
 apply vn (aU sD (aR _));apply vn (aU AH (aR _));apply vn aJ;apply vn gN;refine vs _ rfl ?_ ?_<;>intro h8
 ·rw[if_neg (by simp[okF];intro _ _;omega)];exact aK
 apply aA (CF e c he O hc);apply vn lf;refine lR (!rH e c) rfl (fun h12=>?_) (fun h12=>?_)
 ·rw[if_neg (by simp at h12;simp[okF,h12])];exact aK
 rw[if_pos (by simp at h12;simp[okF,h12,h2];omega)];exact aK
def uA(e:List (List RQ)):List (List Rat):=e.map fun p=>p.map RQ.q
def Sx(e:List (List RQ)):(uA e).length=e.length:=aR _
def bK3(p:List RQ):cz Rb p=cz zr (p.map RQ.q):=(Fo (z:=zr) RQ.q p).symm
def bI8:Tr:=dL 5 3 40 14 15 (Io 5 3 7 26 21 (dL 9 4 40 16 17 (Io 9 4 8 27 25 (bD 3 1 3 10 (fP 4 1 12 (yo 0 11 12 10))))))
def bI4:Tr:=.loop 0 [lK 0,lV 2 0,.row 0] (cU 3 4 0 3 7 8 4 (aH 6 0 (dL 5 4 40 18 19 (Kd 5 4 3 39 20 (dL 5 3 40 22 23 (Kd 5 3 3 39 24 bI8)))) (.retr [] 5)))
def bu5:Tr:=uk 0 4 40 (fP 1 1 5 bI4)
def Rf:Mm prog f92 (fun _=>none) [.lent 39 3]=bu5:=by kernel_rfl
def YA:Tr:=jV 0 10 9
def WN:Tr:=bI 5
def bE2:Tr:=aH 4 0 (gb 0 0 2 0 242 6 8 (bm 5 2 10 (lZ 68 6 3 13 2 39 (KC 7 72 14 (gU 3 56 3 8 12 15 72 (bD 2 1 3 8 YA)))))) (kB 34 3 3 18 72 72 WN)
def bz6:Tr:=au 0 0 6 242 (vA 0 (cU 2 1 0 3 8 7 0 bE2))
def OG:aM prog f91 bZ [.v none]=bz6:=by kernel_rfl
def bO3:Tr:=aH 4 0 (gb 0 0 1 0 242 12 13 (bm 5 2 14 (lZ 50 6 4 15 2 49 (pg 7 167 16 (gU 4 64 2 8 11 17 167 (bD 1 1 3 9 YA)))))) (kB 144 4 2 19 167 167 WN)
def bM2:Tr:=vA 0 (au 0 0 6 242 (cU 1 3 0 3 5 7 4 bO3))
def OE:aM prog f99 bZ [.v none]=bM2:=by kernel_rfl
def aN1:Tr:=Zd 2
def aM2:Tr:=Zd 3
def ba7:Tr:=ed 91 9 30 242 72 (kZ 1 242 (ed 91 11 32 242 72 (YO 10 12 32 31 33 (DR 68 1 3 39 (KC 14 40 35 (jc 13 15))))))
def bd6:Tr:=Uo 11 13 32 41 43 (gI 0 3 104 (aH 15 0 (oS (jc 14 16)) (DL (aH 16 0 (oS (jc 14 17)) (jc 14 7)))))
def ba6:Tr:=Uo 12 14 32 49 51 (gI 0 3 104 (aH 16 0 (oS (jc 15 17)) (DL (aH 17 0 (oS (jc 15 18)) (jc 15 7)))))
def bd4:Tr:=Ir 13 15 32 57 59 (gI 0 3 104 (aH 17 0 (oS (jc 16 18)) (DL (aH 18 0 (oS (jc 16 19)) (jc 16 7)))))
def aZ8:Tr:=Ir 14 16 32 65 67 (gI 0 3 104 (aH 18 0 (oS (jc 17 19)) (DL (aH 19 0 (oS (jc 17 20)) (jc 17 7)))))
def bt2:Tr:=Ir 15 17 32 73 75 (gI 0 3 104 (aH 19 0 (oS (jc 18 20)) (DL (aH 20 0 (oS (jc 18 21)) (jc 18 7)))))
def Tl:Tr:=gI 0 3 104 (aH 24 0 (oS (jc 23 25)) (DL (aH 25 0 (oS (jc 23 26)) (jc 23 7))))
def az9:Tr:=pa 16 242 83 (ed 91 17 84 242 72 (rE 0 (-2) (ed 91 19 86 242 72 (Uw (-1) (kB 91 1 21 88 242 72 (Uf 18 20 22 32 85 87 89 Tl))))))
def aG5:Tr:=pa 16 242 95 (ed 91 17 96 242 72 (rE 0 (-2) (ed 91 19 98 242 72 (kZ 1 242 (kB 91 1 21 100 242 72 (Uf 18 20 22 32 97 99 101 Tl))))))
def aF9:Tr:=aH 15 0 (Qu 1 2 94 aG5) (gI 0 3 104 (aH 16 0 (oS (Ql 17)) (DL (aH 17 0 (oS (Ql 18)) (Ql 7)))))
def aT3:Tr:=aH 12 0 (kZ 1 242 (ed 91 13 64 242 72 (rE 1 1 (kB 91 1 15 66 242 72 aZ8)))) (gI 0 6 27 (aH 13 0 (rE 0 2 (ed 91 14 72 242 72 (Uw 1 (kB 91 1 16 74 242 72 bt2)))) (gI 0 7 27 (aH 14 0 (bD 1 1 2 81 (uW .mul 2 80 82 1 0 15 0 2 az9)) (gI 0 8 27 aF9)))))
def bs8:Tr:=aH 10 0 (rE 0 (-1) (ed 91 11 48 242 72 (kZ 1 242 (kB 91 1 13 50 242 72 ba6)))) (gI 0 4 27 (aH 11 0 (rE 0 2 (ed 91 12 56 242 72 (kZ 1 242 (kB 91 1 14 58 242 72 bd4)))) (gI 0 5 27 aT3)))
def bd7:Tr:=aH 8 0 (kZ (-1) 242 ba7) (gI 0 2 27 (aH 9 0 (kZ 1 242 (ed 91 10 40 242 72 (kZ 1 242 (kB 91 1 12 42 242 72 bd6)))) (gI 0 3 27 bs8)))
def bO5:Tr:=iJ 1 0 0 3 15 (aH 4 0 aM2 (fL 1 0 40 3 18 (aH 5 0 aM2 (DR 68 1 3 39 (.need (.lit 3 [[(.k (.slice none 0 0)),(.k (.bool false)),(.k (.slice none 0 0))],[(.u 6 0),(.u 6 1),(.u 6 2)]]) (.buildSlice 40 2 #[(0,(tT 23)),(1,(tT 24))]) 40 false (gI 0 1 27 bd7))))))
def bB2:Tr:=.need (.prim [(W 0 0),(.one (.c (.k (.int .u8 1))))] none) (.binOp .lss 5 (tT 8) (.const (.int .u8 1)) 5) 4 false (aH 2 0 aN1 (ac1 0 8 11 (aH 3 0 aN1 bO5)))
def WJ:aM prog f18 bZ [.v none,.v none]=bB2:=by kernel_rfl
def aT2:Tr:=kZ (-1) 242 (ed 99 4 14 242 167 (kZ 1 242 (ed 99 6 16 242 167 (YO 5 7 44 15 17 (pg 2 50 19 (zQ 8 9))))))
def az3:Tr:=kZ 1 242 (ed 99 5 24 242 167 (kZ 1 242 (ed 99 7 26 242 167 (Uo 6 8 44 25 27 (Tc 29 30 (zQ 9 10))))))
def aw3:Tr:=rE 0 (-1) (ed 99 6 35 242 167 (kZ 1 242 (ed 99 8 37 242 167 (Uo 7 9 44 36 38 (af9 40 41 (zQ 10 11))))))
def aI3:Tr:=rE 0 2 (ed 99 7 46 242 167 (kZ 1 242 (ed 99 9 48 242 167 (Ir 8 10 44 47 49 (Tc 51 52 (zQ 11 12))))))
def aA4:Tr:=kZ 1 242 (ed 99 8 57 242 167 (rE 1 1 (ed 99 10 59 242 167 (Ir 9 11 44 58 60 (Tc 62 63 (zQ 12 13))))))
def ao1:Tr:=rE 0 2 (ed 99 9 68 242 167 (Uw 1 (ed 99 11 70 242 167 (Ir 10 12 44 69 71 (Tc 73 74 (zQ 13 14))))))
def aE3:Tr:=rE 0 (-2) (ed 99 14 85 242 167 (Uw (-1) (ed 99 16 87 242 167 (Uf 13 15 17 44 84 86 88 (af9 90 91 (zQ 18 19))))))
def ao0:Tr:=rE 0 (-2) (ed 99 13 98 242 167 (kZ 1 242 (ed 99 15 100 242 167 (Uf 12 14 16 44 97 99 101 (af9 103 104 (zQ 17 18))))))
def ar3:Tr:=aH 8 0 ao1 (gI 0 7 11 (aH 9 0 (bD 1 1 2 80 (uW .mul 2 79 81 1 0 10 0 2 (pa 11 242 82 (ed 99 12 83 242 167 aE3)))) (Qu 1 2 94 (pa 10 242 95 (ed 99 11 96 242 167 ao0)))))
def aH8:Tr:=gI 0 3 11 (aH 5 0 aw3 (gI 0 4 11 (aH 6 0 aI3 (gI 0 5 11 (aH 7 0 aA4 (gI 0 6 11 ar3))))))
def br5:Tr:=lX 50 1 4 2 49 (gI 0 1 11 (aH 3 0 aT2 (gI 0 2 11 (aH 4 0 az3 aH8))))
def aj9:aM prog f25 bZ [.v none,.v none]=br5:=by kernel_rfl
def vP(a0 a1 a2 b0 b1 b2:aE):tU prog 92 39 3 [] [] ([[a0,a1,a2],[b0,b1,b2]]) [] ([[b0,b1,b2],[a0,a1,a2]]):=by
 refine CK (a1:=[]) (a2:=[]) (i1:=[]) (i2:=[]) (hints:=(fun _=>none)) fo (by kernel_rfl) func92 trivial trivial (by kernel_rfl) ?_ ?_ ?_ ?_
 ·simp[rT]
 ·simp[rT]
 ·simp[rT]
 dsimp only[aO,aP];rw[Rf];dsimp only[List.map,In.env,aO,aP];apply Qk (n:=2) rfl rfl;apply vn aJ;refine ao Bool (fun g=>if g then[.one (.int .i64 1),.one (.int .i64 0),.rows [[b0,b1,b2],[a0,a1,a2]]]else[.one (.int .i64 0),.one (.int .i64 1),.rows [[a0,a1,a2],[b0,b1,b2]]]) (fun g=>if g then 0 else 1) false aQ.rfl (fun g=>by cases g<;>rfl) ?_;intro g;cases g
 case true=>
  show vc _ _ _ [_,_,_,.one (.int .i64 1),.one (.int .i64 0),.rows [[b0,b1,b2],[a0,a1,a2]]] _;apply vn ak;refine vs _ rfl (fun h=>absurd h (by decide)) (fun _=>?_);exact xH rfl rfl
 show vc _ _ _ [_,_,_,.one (.int .i64 0),.one (.int .i64 1),.rows [[a0,a1,a2],[b0,b1,b2]]] _;apply vn ak;refine vs _ rfl (fun _=>?_) (fun h=>absurd (by decide) h);refine mq rfl rfl (by decide) (by simp) ?_;refine vld (t:=.agg [b0,b1,b2]) rfl rfl (by decide) rfl (.inl rfl) rfl ?_;dsimp only[aO,aP,Mf,List.drop,List.take];refine mq rfl rfl (by decide) (by simp) ?_;refine vld (t:=.agg [a0,a1,a2]) rfl rfl (by decide) rfl (.inl rfl) rfl ?_;dsimp only[aO,aP,Mf,List.drop,List.take];refine mq rfl rfl (by decide) (by simp) ?_;refine yx (us:=[[b0,b1,b2],[b0,b1,b2]]) rfl rfl (by decide) rfl rfl ?_;refine mq rfl rfl (by decide) (by simp) ?_;refine yx (us:=[[b0,b1,b2],[a0,a1,a2]]) rfl rfl (by decide) rfl rfl ?_;apply vn aC;apply vn aJ;exact aW rfl ⟨true,aQ.rfl,by decide⟩
abbrev sI(l:List Int):aE:=.slice 1 (l.map fun n=>[aE.int .i64 n])
def ints(l:List Int):List Rat:=trim (l.map fun n:Int=>(n:Rat))
def gC(l:List Int):Prop:=∀n∈l,-9223372036854775808<=n/\n<9223372036854775808
def bU(l:List Int)(h:gC l)(hs:l.length<1099511627776):aL prog 91 [(.one (sI l):aG)] (.ret [.one (sQ (ints l))]):=by
 refine bw func91 OG ?_;apply vn (aU SB (aR _));refine ao {i:Nat // i<=l.length} (fun g=>[.one (.int .i64 g.1),.rows (rQ ((l.take g.1).map fun n:Int=>(n:Rat)))]) (fun g=>l.length-g.1) ⟨0,bO _⟩ aQ.rfl (fun _=>rfl) ?_;rintro⟨i,hi⟩;dsimp only[aO,aP]at hi|-;apply vn ak;refine vs _ rfl ?_ ?_<;>intro h3
 ·obtain⟨n,hn⟩:∃n,l[i]?=some n:=⟨_,ay O⟩
  obtain⟨hn1,hn2⟩:=h n (bc hn);have hl:((l.take i).map fun n:Int=>(n:Rat)).length<=i:=by simp;omega
  apply vn (aZ SB hn);apply vn (av ag2);apply aA (mN n hn1 hn2);apply bF (us:=[qC (n:Rat)]);refine oH (xs:=(l.take i).map fun n:Int=>(n:Rat)) (x:=(n:Rat)) (f:=qC) rfl rfl O (by simp only[maxLen];omega) ?_;rw[mC (f:=fun n:Int=>(n:Rat)) hn];apply vn aC;dsimp only[aO,aP];exact aW rfl ⟨⟨i+1,O⟩,aQ.rfl,by show l.length-(i+1)<l.length-i;omega⟩
 rw[show i=l.length by omega,List.take_length];apply aA (xn (l.map fun n:Int=>(n:Rat)) (by simpa using hs));exact aK
def dE(l:List Int):List RQ:=eS (l.map fun n:Int=>RQ.of (n:Rat))
def aG1(l:List Int):(dE l).map RQ.q=ints l:=by
 rw[dE,pq,ints,eU];rfl
def bV(l:List Int)(h:gC l)(hs:l.length<1099511627776):aL prog 99 [(.one (sI l):aG)] (.ret [.one (sR (dE l))]):=by
 refine bw func99 OE ?_;refine ao {i:Nat // i<=l.length} (fun g=>[.one (.int .i64 g.1),.rows (rR ((l.take g.1).map fun n:Int=>RQ.of (n:Rat)))]) (fun g=>l.length-g.1) ⟨0,bO _⟩ aQ.rfl (fun _=>rfl) ?_;rintro⟨i,hi⟩;dsimp only[aO,aP]at hi|-;apply vn (aU SB (aR _));apply vn ak;refine vs _ rfl ?_ ?_<;>intro h3
 ·obtain⟨n,hn⟩:∃n,l[i]?=some n:=⟨_,ay O⟩
  obtain⟨hn1,hn2⟩:=h n (bc hn);have hl:((l.take i).map fun n:Int=>RQ.of (n:Rat)).length<=i:=by simp;omega
  apply vn (aZ SB hn);apply vn (av ag2);apply aA (lG n hn1 hn2);apply bF (us:=[rC (.of (n:Rat))]);refine oH (xs:=(l.take i).map fun n:Int=>RQ.of (n:Rat)) (x:=RQ.of (n:Rat)) (f:=rC) rfl rfl O (by simp only[maxLen];omega) ?_;rw[mC (f:=fun n:Int=>RQ.of (n:Rat)) hn];apply vn aC;dsimp only[aO,aP];exact aW rfl ⟨⟨i+1,O⟩,aQ.rfl,by show l.length-(i+1)<l.length-i;omega⟩
 rw[show i=l.length by omega,List.take_length];apply aA (tl (l.map fun n:Int=>RQ.of (n:Rat)) (by simpa using hs));exact aK
def kE(k:Nat)(n:Int):List (List Rat):=
 match k with
 | 1=>[ints [-1],ints [1]]
 | 2=>[ints [1],[],ints [1]]
 | 3=>[ints [0,-1],[],ints [1]]
 | 4=>[[],ints [0,2],ints [1]]
 | 5=>[[],ints [1],ints [1,1]]
 | 6=>[[],ints [0,2],ints [1,0,1]]
 | 7=>[ints [n*(n+1)],ints [0,-2],ints [1,0,-1]]
 | _=>[ints [2*n],ints [0,-2],ints [1]]
def kY(k:Nat):List Rat:=
 match k with
 | 1=>[1]
 | 3=>[1,0]
 | 7=>[1,0]
 | 8=>[1,0]
 | _=>[0,1]
def je(k:Nat)(n:Int):List (List Rat)×List Rat×Int:=
 if k<1\/8<k then([],[],2)else if n<0\/40<n then([],[],3)else(kE k n,kY k,0)
abbrev fT(e:List (List Rat))(c:Rat)(y:List Rat):aG:=.agg [eQ e,dT c.num.natAbs,.bool (decide (c.num<0)),dT (c.den-1),sQ y]
def KI:ae (ae aE.Sub) [[.exact (.slice none 0 0),.bool false,.exact (.slice none 0 0)],qC 1] [qC 0,qC 1]:=⟨db,⟨aE.Sub.same,aE.Sub.same,aE.Sub.same,trivial⟩,trivial⟩
def QF:ae (ae aE.Sub) [qC 1,[.exact (.slice none 0 0),.bool false,.exact (.slice none 0 0)]] [qC 1,qC 0]:=⟨⟨aE.Sub.same,aE.Sub.same,aE.Sub.same,trivial⟩,db,trivial⟩
def bL5(p q:List Rat):ae (ae aE.Sub) [[sQ p],[.exact (.slice none 0 0)],[sQ q]] [cQ p,cQ [],cQ q]:=⟨⟨aE.Sub.same,trivial⟩,⟨aE.Sub.nil,trivial⟩,⟨aE.Sub.same,trivial⟩,trivial⟩
def WZ(p q:List Rat):ae (ae aE.Sub) [[.exact (.slice none 0 0)],[sQ p],[sQ q]] [cQ [],cQ p,cQ q]:=⟨⟨aE.Sub.nil,trivial⟩,⟨aE.Sub.same,trivial⟩,⟨aE.Sub.same,trivial⟩,trivial⟩
def MZ(k:Nat)(n:Int)(hk:k<256:=by omega)(h1:-9223372036854775808<=n:=by omega)(h2:n<9223372036854775808:=by omega):aL prog 18 [(.one (.int .u8 k):aG),(.one (.int .i64 n):aG)] (.ret [fT (je k n).1 0 (je k n).2.1,.one (.int .i64 (je k n).2.2)]):=by
 refine bw func18 WJ ?_;apply vn ak;refine vs _ rfl (fun h1=>?_) (fun h1'=>?_)
 ·rw[je,if_pos O];exact dJ ⟨⟨aE.Sub.nil,jh rfl,aE.Sub.same,jh rfl,aE.Sub.nil,trivial⟩,aG.Sub.same,trivial⟩
 apply vn dZ;refine vs _ rfl ?_ ?_<;>intro h4
 ·rw[je,if_pos O];exact dJ ⟨⟨aE.Sub.nil,jh rfl,aE.Sub.same,jh rfl,aE.Sub.nil,trivial⟩,aG.Sub.same,trivial⟩
 apply vn ak;refine vs _ rfl ?_ ?_<;>intro h7
 ·rw[je,if_neg O,if_pos O];exact dJ ⟨⟨aE.Sub.nil,jh rfl,aE.Sub.same,jh rfl,aE.Sub.nil,trivial⟩,aG.Sub.same,trivial⟩
 apply vn dZ;refine vs _ rfl ?_ ?_<;>intro h10
 ·rw[je,if_neg O,if_pos O];exact dJ ⟨⟨aE.Sub.nil,jh rfl,aE.Sub.same,jh rfl,aE.Sub.nil,trivial⟩,aG.Sub.same,trivial⟩
 apply aA (mN 1);dsimp only[aO,aP];rw[je,if_neg O,if_neg O];apply bF (us:=[[.exact (.slice none 0 0),.bool false,.exact (.slice none 0 0)],qC 1]);apply vn bK;refine vs _ rfl ?_ ?_<;>intro h15
 ·obtain rfl:k=1:=O
  apply bF (us:=[[.int .i64 (-1)]]);apply aA (bU [-1] (by simp[gC]) (by simp));apply bF (us:=[[.int .i64 1]]);apply aA (bU [1] (by simp[gC]) (by simp));apply bF (us:=[[sQ (ints [-1])],[sQ (ints [1])]]);apply aA (mN 1);dsimp only[aO,aP];apply bF (us:=[qC 1]);exact dJ ⟨⟨aE.Sub.same,jh rfl,aE.Sub.same,jh rfl,aE.Sub.same,trivial⟩,aG.Sub.same,trivial⟩
 apply vn bK;refine vs _ rfl ?_ ?_<;>intro h25
 ·obtain rfl:k=2:=O
  apply bF (us:=[[.int .i64 1]]);apply aA (bU [1] (by simp[gC]) (by simp));apply bF (us:=[[.int .i64 1]]);apply aA (bU [1] (by simp[gC]) (by simp));apply bF (us:=[[sQ (ints [1])],[.exact (.slice none 0 0)],[sQ (ints [1])]]);apply vn bK;dsimp only[aO,aP];refine vs _ rfl ?_ ?_<;>intro h32
  ·exfalso;omega
  apply vn fO;refine vs _ rfl ?_ ?_<;>intro h36
  ·exfalso;omega
  exact dJ ⟨⟨aE.Sub.slice (bL5 _ _),jh rfl,aE.Sub.same,jh rfl,aE.Sub.slice KI,trivial⟩,aG.Sub.same,trivial⟩
 apply vn bK;refine vs _ rfl ?_ ?_<;>intro h41
 ·obtain rfl:k=3:=O
  apply bF (us:=[[.int .i64 0],[.int .i64 (-1)]]);apply aA (bU [0,-1] (by simp[gC]) (by simp));apply bF (us:=[[.int .i64 1]]);apply aA (bU [1] (by simp[gC]) (by simp));apply bF (us:=[[sQ (ints [0,-1])],[.exact (.slice none 0 0)],[sQ (ints [1])]]);apply vn bK;dsimp only[aO,aP];refine vs _ rfl ?_ ?_<;>intro h48
  ·refine Wo (n:=0) (us:=[[.exact (.slice none 0 0),.bool false,.exact (.slice none 0 0)],qC 1]) (rs:=[]) (vs:=[qC 1,[.exact (.slice none 0 0),.bool false,.exact (.slice none 0 0)]]) rfl ⟨rfl,rfl⟩ (by simp) rfl (sC rfl (vP _ _ _ _ _ _)) rfl ?_;exact dJ ⟨⟨aE.Sub.slice (bL5 _ _),jh rfl,aE.Sub.same,jh rfl,aE.Sub.slice QF,trivial⟩,aG.Sub.same,trivial⟩
  apply vn fO;refine vs _ rfl ?_ ?_<;>intro h52
  ·exfalso;omega
  exfalso;omega
 apply vn bK;refine vs _ rfl ?_ ?_<;>intro h57
 ·obtain rfl:k=4:=O
  apply bF (us:=[[.int .i64 0],[.int .i64 2]]);apply aA (bU [0,2] (by simp[gC]) (by simp));apply bF (us:=[[.int .i64 1]]);apply aA (bU [1] (by simp[gC]) (by simp));apply bF (us:=[[.exact (.slice none 0 0)],[sQ (ints [0,2])],[sQ (ints [1])]]);dsimp only[aO,aP];apply vn bK;refine vs _ rfl ?_ ?_<;>intro h64
  ·exfalso;omega
  apply vn fO;refine vs _ rfl ?_ ?_<;>intro h68
  ·exfalso;omega
  exact dJ ⟨⟨aE.Sub.slice (WZ _ _),jh rfl,aE.Sub.same,jh rfl,aE.Sub.slice KI,trivial⟩,aG.Sub.same,trivial⟩
 apply vn bK;refine vs _ rfl ?_ ?_<;>intro h73
 ·obtain rfl:k=5:=O
  apply bF (us:=[[.int .i64 1]]);apply aA (bU [1] (by simp[gC]) (by simp));apply bF (us:=[[.int .i64 1],[.int .i64 1]]);apply aA (bU [1,1] (by simp[gC]) (by simp));apply bF (us:=[[.exact (.slice none 0 0)],[sQ (ints [1])],[sQ (ints [1,1])]]);dsimp only[aO,aP];apply vn bK;refine vs _ rfl ?_ ?_<;>intro h80
  ·exfalso;omega
  apply vn fO;refine vs _ rfl ?_ ?_<;>intro h84
  ·exfalso;omega
  exact dJ ⟨⟨aE.Sub.slice (WZ _ _),jh rfl,aE.Sub.same,jh rfl,aE.Sub.slice KI,trivial⟩,aG.Sub.same,trivial⟩
 apply vn bK;refine vs _ rfl ?_ ?_<;>intro h89
 ·obtain rfl:k=6:=O
  apply bF (us:=[[.int .i64 0],[.int .i64 2]]);apply aA (bU [0,2] (by simp[gC]) (by simp));apply bF (us:=[[.int .i64 1],[.int .i64 0],[.int .i64 1]]);apply aA (bU [1,0,1] (by simp[gC]) (by simp));apply bF (us:=[[.exact (.slice none 0 0)],[sQ (ints [0,2])],[sQ (ints [1,0,1])]]);dsimp only[aO,aP];apply vn bK;refine vs _ rfl ?_ ?_<;>intro h96
  ·exfalso;omega
  apply vn fO;refine vs _ rfl ?_ ?_<;>intro h100
  ·exfalso;omega
  exact dJ ⟨⟨aE.Sub.slice (WZ _ _),jh rfl,aE.Sub.same,jh rfl,aE.Sub.slice KI,trivial⟩,aG.Sub.same,trivial⟩
 apply vn bK;refine vs _ rfl ?_ ?_<;>intro h105
 ·obtain rfl:k=7:=O
  have hnn:n*(n+1)<=40*41:=by
   have:=Ci (a:=n) (b:=n+1) (c:=40) (d:=41) O O O O;omega
  have hn0:0<=n*(n+1):=qV O O;apply vn aC;apply vn (qu (c:=n*(n+1)) (dj));apply bF (us:=[[.int .i64 (n*(n+1))]]);apply aA (bU [n*(n+1)] (by simp only[gC,fH,forall_eq];omega) (by simp)) rfl;apply bF (us:=[[.int .i64 0],[.int .i64 (-2)]]);dsimp only[aO,aP];apply aA (bU [0,-2] (by simp[gC]) (by simp));apply bF (us:=[[.int .i64 1],[.int .i64 0],[.int .i64 (-1)]]);apply aA (bU [1,0,-1] (by simp[gC]) (by simp));apply bF (us:=[[sQ (ints [n*(n+1)])],[sQ (ints [0,-2])],[sQ (ints [1,0,-1])]]);apply vn bK;refine vs _ rfl ?_ ?_<;>intro h116
  ·exfalso;omega
  apply vn fO;refine vs _ rfl ?_ ?_<;>intro h120
  ·refine Wo (n:=0) (us:=[[.exact (.slice none 0 0),.bool false,.exact (.slice none 0 0)],qC 1]) (rs:=[]) (vs:=[qC 1,[.exact (.slice none 0 0),.bool false,.exact (.slice none 0 0)]]) rfl ⟨rfl,rfl⟩ (by simp) rfl (sC rfl (vP _ _ _ _ _ _)) rfl ?_;exact dJ ⟨⟨aE.Sub.same,jh rfl,aE.Sub.same,jh rfl,aE.Sub.slice QF,trivial⟩,aG.Sub.same,trivial⟩
  exfalso;omega
 apply vn bK;dsimp only[aO,aP];refine vs _ rfl ?_ ?_<;>intro h125
 ·obtain rfl:k=8:=O
  apply vn mK;apply bF (us:=[[.int .i64 (2*n)]]);apply aA (bU [2*n] (by simp only[gC,fH,forall_eq];omega) (by simp)) rfl;apply bF (us:=[[.int .i64 0],[.int .i64 (-2)]]);apply aA (bU [0,-2] (by simp[gC]) (by simp));apply bF (us:=[[.int .i64 1]]);apply aA (bU [1] (by simp[gC]) (by simp));apply bF (us:=[[sQ (ints [2*n])],[sQ (ints [0,-2])],[sQ (ints [1])]]);dsimp only[aO,aP];apply vn bK;refine vs _ rfl ?_ ?_<;>intro h135
  ·exfalso;omega
  apply vn fO;refine vs _ rfl ?_ ?_<;>intro h139
  ·refine Wo (n:=0) (us:=[[.exact (.slice none 0 0),.bool false,.exact (.slice none 0 0)],qC 1]) (rs:=[]) (vs:=[qC 1,[.exact (.slice none 0 0),.bool false,.exact (.slice none 0 0)]]) rfl ⟨rfl,rfl⟩ (by simp) rfl (sC rfl (vP _ _ _ _ _ _)) rfl ?_;exact dJ ⟨⟨aE.Sub.same,jh rfl,aE.Sub.same,jh rfl,aE.Sub.slice QF,trivial⟩,aG.Sub.same,trivial⟩
  exfalso;omega
 apply vn bK;refine vs _ rfl ?_ ?_<;>intro h144
 ·exfalso;omega
 apply vn fO;refine vs _ rfl ?_ ?_<;>intro h148
 ·exfalso;omega
 exfalso;omega
def Qb:Tr:=hx163Q 
def aX8:Tr:=gb 0 5 2 0 27 12 13 (dB 5 3 26 14 (DH 39 6 15 26 4 (jX 7 0 16 (aH 8 0 Qb (bD 2 1 3 9 (jj 0 1 9))))))
def aV9:Tr:=aH 4 0 aX8 (dV 55 [(G2 0)] [none] [19] [24] 4 false (aH 5 0 (uP 39 0 2 3 4 23 26 4 (aH 6 0 (au 0 5 28 27 (jb 7 0 6 3 29 aK7)) Qb)) Qb))
def bc1:Tr:=Qj (au 0 5 6 27 (cU 2 3 0 3 4 7 4 aV9))
def WA:aM prog f15 bZ [.v (some 8)]=bc1:=by kernel_rfl
def kER(k:Nat)(n:Int):List (List RQ):=
 match k with
 | 1=>[dE [-1],dE [1]]
 | 2=>[dE [1],[],dE [1]]
 | 3=>[dE [0,-1],[],dE [1]]
 | 4=>[[],dE [0,2],dE [1]]
 | 5=>[[],dE [1],dE [1,1]]
 | 6=>[[],dE [0,2],dE [1,0,1]]
 | 7=>[dE [n*(n+1)],dE [0,-2],dE [1,0,-1]]
 | _=>[dE [2*n],dE [0,-2],dE [1]]
def kYR(k:Nat):List RQ:=
 match k with
 | 1=>[.of 1]
 | 3=>[.of 1,.nil]
 | 7=>[.of 1,.nil]
 | 8=>[.of 1,.nil]
 | _=>[.nil,.of 1]
def bB3{k:Nat}(h1:1<=k)(h2:k<=8)(n:Int):uA (kER k n)=kE k n:=by
 rcases(by omega:k=1\/k=2\/k=3\/k=4\/k=5\/k=6\/k=7\/k=8)with rfl | rfl | rfl | rfl | rfl | rfl | rfl | rfl<;>simp only[uA,kER,kE,dY,lI,aG1]
def by7{k:Nat}(h1:1<=k)(h2:k<=8):(kYR k).map RQ.q=kY k:=by
 rcases(by omega:k=1\/k=2\/k=3\/k=4\/k=5\/k=6\/k=7\/k=8)with rfl | rfl | rfl | rfl | rfl | rfl | rfl | rfl<;>rfl
abbrev fR(e:List (List RQ))(c:RQ)(y:List RQ):aG:=.agg [eR e,.int .i64 c.q.num.sign,bT c.q.num.natAbs,.int .i64 (if c.z then 0 else 1),bT (if c.z then 0 else c.q.den),sR y]
def KH:ae (ae aE.Sub) [[.int .i64 0,.exact (.slice none 0 0),.int .i64 0,.exact (.slice none 0 0)],rC (.of 1)] [rC .nil,rC (.of 1)]:=⟨xD,⟨aE.Sub.same,aE.Sub.same,aE.Sub.same,aE.Sub.same,trivial⟩,trivial⟩
def PM:ae (ae aE.Sub) [rC (.of 1),[.int .i64 0,.exact (.slice none 0 0),.int .i64 0,.exact (.slice none 0 0)]] [rC (.of 1),rC .nil]:=⟨⟨aE.Sub.same,aE.Sub.same,aE.Sub.same,aE.Sub.same,trivial⟩,xD,trivial⟩
def aM8(p q:List RQ):ae (ae aE.Sub) [[sR p],[.exact (.slice none 0 0)],[sR q]] [cR p,cR [],cR q]:=⟨⟨aE.Sub.same,trivial⟩,⟨aE.Sub.nil,trivial⟩,⟨aE.Sub.same,trivial⟩,trivial⟩
def QX(p q:List RQ):ae (ae aE.Sub) [[.exact (.slice none 0 0)],[sR p],[sR q]] [cR [],cR p,cR q]:=⟨⟨aE.Sub.nil,trivial⟩,⟨aE.Sub.same,trivial⟩,⟨aE.Sub.same,trivial⟩,trivial⟩
def YC(k:Nat)(n:Int)(hk1:1<=k)(hk:k<=8)(h1:0<=n:=by omega)(h2:n<=40:=by omega):aL prog 25 [(.one (.int .u8 k):aG),(.one (.int .i64 n):aG)] (.ret [fR (kER k n) .nil (kYR k)]):=by
 refine bw func25 aj9 ?_;apply aA (lG 1);apply vn bK;refine vs _ rfl ?_ ?_<;>intro h2
 ·obtain rfl:k=1:=O
  apply bF (us:=[[.int .i64 (-1)]]);apply aA (bV [-1] (by simp[gC]) (by simp));apply bF (us:=[[.int .i64 1]]);apply aA (bV [1] (by simp[gC]) (by simp));apply bF (us:=[[sR (dE [-1])],[sR (dE [1])]]);apply bF (us:=[rC (.of 1)]);exact dJ ⟨⟨aE.Sub.same,aE.Sub.same,pV rfl,aE.Sub.same,pV rfl,aE.Sub.same,trivial⟩,trivial⟩
 apply vn bK;dsimp only[aO,aP];refine vs _ rfl ?_ ?_<;>intro h11
 ·obtain rfl:k=2:=O
  apply bF (us:=[[.int .i64 1]]);apply aA (bV [1] (by simp[gC]) (by simp));apply bF (us:=[[.int .i64 1]]);apply aA (bV [1] (by simp[gC]) (by simp));apply bF (us:=[[sR (dE [1])],[.exact (.slice none 0 0)],[sR (dE [1])]]);apply bF (us:=[[.int .i64 0,.exact (.slice none 0 0),.int .i64 0,.exact (.slice none 0 0)],rC (.of 1)]);exact dJ ⟨⟨aE.Sub.slice (aM8 _ _),aE.Sub.same,pV rfl,aE.Sub.same,pV rfl,aE.Sub.slice KH,trivial⟩,trivial⟩
 apply vn bK;refine vs _ rfl ?_ ?_<;>intro h20
 ·obtain rfl:k=3:=O
  apply bF (us:=[[.int .i64 0],[.int .i64 (-1)]]);dsimp only[aO,aP];apply aA (bV [0,-1] (by simp[gC]) (by simp));apply bF (us:=[[.int .i64 1]]);apply aA (bV [1] (by simp[gC]) (by simp));apply bF (us:=[[sR (dE [0,-1])],[.exact (.slice none 0 0)],[sR (dE [1])]]);apply bF (us:=[rC (.of 1),[.int .i64 0,.exact (.slice none 0 0),.int .i64 0,.exact (.slice none 0 0)]]);exact dJ ⟨⟨aE.Sub.slice (aM8 _ _),aE.Sub.same,pV rfl,aE.Sub.same,pV rfl,aE.Sub.slice PM,trivial⟩,trivial⟩
 apply vn bK;refine vs _ rfl ?_ ?_<;>intro h29
 ·obtain rfl:k=4:=O
  apply bF (us:=[[.int .i64 0],[.int .i64 2]]);apply aA (bV [0,2] (by simp[gC]) (by simp));dsimp only[aO,aP];apply bF (us:=[[.int .i64 1]]);apply aA (bV [1] (by simp[gC]) (by simp));apply bF (us:=[[.exact (.slice none 0 0)],[sR (dE [0,2])],[sR (dE [1])]]);apply bF (us:=[[.int .i64 0,.exact (.slice none 0 0),.int .i64 0,.exact (.slice none 0 0)],rC (.of 1)]);exact dJ ⟨⟨aE.Sub.slice (QX _ _),aE.Sub.same,pV rfl,aE.Sub.same,pV rfl,aE.Sub.slice KH,trivial⟩,trivial⟩
 apply vn bK;refine vs _ rfl ?_ ?_<;>intro h38
 ·obtain rfl:k=5:=O
  apply bF (us:=[[.int .i64 1]]);apply aA (bV [1] (by simp[gC]) (by simp));apply bF (us:=[[.int .i64 1],[.int .i64 1]]);dsimp only[aO,aP];apply aA (bV [1,1] (by simp[gC]) (by simp));apply bF (us:=[[.exact (.slice none 0 0)],[sR (dE [1])],[sR (dE [1,1])]]);apply bF (us:=[[.int .i64 0,.exact (.slice none 0 0),.int .i64 0,.exact (.slice none 0 0)],rC (.of 1)]);exact dJ ⟨⟨aE.Sub.slice (QX _ _),aE.Sub.same,pV rfl,aE.Sub.same,pV rfl,aE.Sub.slice KH,trivial⟩,trivial⟩
 apply vn bK;refine vs _ rfl ?_ ?_<;>intro h47
 ·obtain rfl:k=6:=O
  apply bF (us:=[[.int .i64 0],[.int .i64 2]]);apply aA (bV [0,2] (by simp[gC]) (by simp));apply bF (us:=[[.int .i64 1],[.int .i64 0],[.int .i64 1]]);apply aA (bV [1,0,1] (by simp[gC]) (by simp));dsimp only[aO,aP];apply bF (us:=[[.exact (.slice none 0 0)],[sR (dE [0,2])],[sR (dE [1,0,1])]]);apply bF (us:=[[.int .i64 0,.exact (.slice none 0 0),.int .i64 0,.exact (.slice none 0 0)],rC (.of 1)]);exact dJ ⟨⟨aE.Sub.slice (QX _ _),aE.Sub.same,pV rfl,aE.Sub.same,pV rfl,aE.Sub.slice KH,trivial⟩,trivial⟩
 apply vn bK;refine vs _ rfl ?_ ?_<;>intro h56
 ·obtain rfl:k=7:=O
  have hnn:n*(n+1)<=40*41:=by
   have:=Ci (a:=n) (b:=n+1) (c:=40) (d:=41) O O O O;omega
  have hn0:0<=n*(n+1):=qV O O;apply vn aC;apply vn (qu (c:=n*(n+1)) (dj));apply bF (us:=[[.int .i64 (n*(n+1))]]);apply aA (bV [n*(n+1)] (by simp only[gC,fH,forall_eq];omega) (by simp)) rfl;apply bF (us:=[[.int .i64 0],[.int .i64 (-2)]]);dsimp only[aO,aP];apply aA (bV [0,-2] (by simp[gC]) (by simp));apply bF (us:=[[.int .i64 1],[.int .i64 0],[.int .i64 (-1)]]);apply aA (bV [1,0,-1] (by simp[gC]) (by simp));apply bF (us:=[[sR (dE [n*(n+1)])],[sR (dE [0,-2])],[sR (dE [1,0,-1])]]);apply bF (us:=[rC (.of 1),[.int .i64 0,.exact (.slice none 0 0),.int .i64 0,.exact (.slice none 0 0)]]);exact dJ ⟨⟨aE.Sub.same,aE.Sub.same,pV rfl,aE.Sub.same,pV rfl,aE.Sub.slice PM,trivial⟩,trivial⟩
 obtain rfl:k=8:=O
 apply vn mK;apply bF (us:=[[.int .i64 (2*n)]]);apply aA (bV [2*n] (by simp only[gC,fH,forall_eq];omega) (by simp)) rfl;dsimp only[aO,aP];apply bF (us:=[[.int .i64 0],[.int .i64 (-2)]]);apply aA (bV [0,-2] (by simp[gC]) (by simp));apply bF (us:=[[.int .i64 1]]);apply aA (bV [1] (by simp[gC]) (by simp));apply bF (us:=[[sR (dE [2*n])],[sR (dE [0,-2])],[sR (dE [1])]]);apply bF (us:=[rC (.of 1),[.int .i64 0,.exact (.slice none 0 0),.int .i64 0,.exact (.slice none 0 0)]]);exact dJ ⟨⟨aE.Sub.same,aE.Sub.same,pV rfl,aE.Sub.same,pV rfl,aE.Sub.slice PM,trivial⟩,trivial⟩
abbrev sP(p:List (List bH)):aE:=.slice 1 (p.map fun l=>[sN l])
def jf(p:List (List bH)):Bool:=decide (p.length<=6/\∀l∈p,l.length<=4/\∀x∈l,x.AP=true)
structure InP(p:List (List bH)):Prop where
 l:p.length<140737488355328
 p:∀l∈p,l.length<140737488355328/\∀x∈l,x.In
def Kk(p:List (List bH))(long:Int)(hp:InP p):aL prog 55 [(.agg [sP p,.int .i64 long]:aG)] (.ret [.one (.bool (jf p))]):=by
 refine bw func55 JQ ?_;have hpl:=hp.l;refine ao {i:Nat // i<=p.length/\∀j l,j<i->p[j]?=some l->l.length<=4/\∀x∈l,x.AP=true} (fun g=>[.one (.bool false),.one (.int .i64 g.1)]) (fun g=>p.length-g.1) ⟨0,bO _,fun j l h=>O⟩ aQ.rfl (fun _=>rfl) ?_;rintro⟨i,hi,hok⟩;dsimp only[aO,aP]at hi hok|-;apply vn (aU RH (aR _));apply vn ak;refine vs _ rfl ?_ ?_<;>intro h3
 ·obtain⟨l,hl⟩:∃l,p[i]?=some l:=⟨_,ay O⟩
  obtain⟨hll,hlx⟩:=hp.p l (bc hl)
  have hbad:∀x∈l,x.AP=false->jf p=false:=fun x hx h=>by
   unfold jf;rw[fj];rintro⟨_,h2⟩;rw[(h2 l (bc hl)).2 x hx]at h;cases h
  apply vn (aZ RH hl);apply vn (av aE5);apply vn (aU OY (aR _));apply vn dZ;refine vs _ rfl ?_ ?_<;>intro h8
  ·rw[show jf p=false by
    unfold jf;rw[fj];rintro⟨_,h2⟩;have:=(h2 l (bc hl)).1;omega];exact aK
  refine ao {k:Nat // k<=l.length/\∀j x,j<k->l[j]?=some x->x.AP=true} (fun g=>[.one (.bool false),.one (.int .i64 g.1)]) (fun g=>l.length-g.1) ⟨0,bO _,fun j x h=>O⟩ aQ.rfl (fun _=>rfl) ?_;rintro⟨k,hk,hkok⟩;dsimp only[aO,aP]at hk hkok|-;apply vn (aZ RH hl);apply vn (av aE5);apply vn (aU OY (aR _));apply vn ak;refine vs _ rfl ?_ ?_<;>intro h15
  ·apply vn (aZ RH hl);apply vn (av aE5);dsimp only[aO,aP];obtain⟨x,hx⟩:∃x,l[k]?=some x:=⟨_,ay O⟩
   have hxl:=bc hx;have hxi:=hlx x hxl;apply vn (aZ OY hx);apply vn (bB bd0 (by decide) (by simp) (.inl rfl));apply vn dd;apply vn gN;refine vs _ rfl ?_ ?_<;>intro h22
   ·rw[hbad x hxl (by unfold bH.AP;rw[fj];omega)];exact aK
   apply vn dZ;refine vs _ rfl ?_ ?_<;>intro h25
   ·rw[hbad x hxl (by unfold bH.AP;rw[fj];omega)];exact aK
   apply vn ak;refine vs _ rfl ?_ ?_<;>intro h28
   ·rw[hbad x hxl (by unfold bH.AP;rw[fj];omega)];exact aK
   apply vn dZ;refine vs _ rfl ?_ ?_<;>intro h31
   ·rw[hbad x hxl (by unfold bH.AP;rw[fj];omega)];exact aK
   apply vn ak;dsimp only[aO,aP];refine vs _ rfl ?_ ?_<;>intro h34
   ·rw[hbad x hxl (by unfold bH.AP;rw[fj];omega)];exact aK
   apply vn aC
   exact aW rfl ⟨⟨k+1,O,fun j x' hj hx'=>by
    rcases Nat.lt_or_ge j k with h | h
    ·exact hkok j x' h hx'
    ·rw[show j=k by omega,hx]at hx';simp only[aI]at hx';subst hx';unfold bH.AP;rw[dx];omega⟩,aQ.rfl,by show l.length-(k+1)<l.length-k;omega⟩
  apply vn aC
  exact aW rfl ⟨⟨i+1,O,fun j l' hj hl'=>by
   rcases Nat.lt_or_ge j i with h | h
   ·exact hok j l' h hl'
   ·rw[show j=i by omega,hl]at hl';simp only[aI]at hl';subst hl';refine⟨O,fun x hx=>?_⟩;obtain⟨m,hm⟩:=uB hx;exact hkok m x (by have:=(dn.1 hm).1;omega) hm⟩,aQ.rfl,by show p.length-(i+1)<p.length-i;omega⟩
 apply vn (aU RH (aR _));apply vn iO;dsimp only[aO,aP]
 rw[show jf p=decide ((p.length:Int)<=6) by
  unfold jf;rw[lE]
  constructor
  ·rintro⟨h,_⟩;omega
  ·intro h;refine⟨O,fun l hl=>?_⟩;obtain⟨m,hm⟩:=uB hl;exact hok m l (by have:=(dn.1 hm).1;omega) hm];exact aK
structure bA where
 p:List (List bH)
 long:Int
 c:bH
 y:List bH
 kind:Nat
 n:Int
abbrev caT(c:bA):aG:=.agg [sP c.p,.int .i64 c.long,.int .i64 c.c.n,.int .i64 c.c.d,.int .u8 c.c.pow,sN c.y,.int .u8 c.kind,.int .i64 c.n]
structure bA.In(c:bA):Prop where
 hp:InP c.p
 hl1:-9223372036854775808<=c.long
 hl2:c.long<9223372036854775808
 hc:c.c.In
 hyl:c.y.length<140737488355328
 hy:∀x∈c.y,x.In
 hk:c.kind<256
 hn1:-9223372036854775808<=c.n
 hn2:c.n<9223372036854775808
def bA.small(c:bA):Bool:=decide ((∀x∈c.y,x.short=true)/\jf c.p=true/\c.c.short=true/\c.y.length<=6)
def Xz(c:bA)(h:c.In):aL prog 15 [(caT c:aG)] (.ret [.one (.bool c.small)]):=by
 refine bw func15 WA ?_;have hyl:=h.hyl;refine ao {i:Nat // i<=c.y.length/\∀j x,j<i->c.y[j]?=some x->x.short=true} (fun g=>[.one (.bool false),.one (.int .i64 g.1)]) (fun g=>c.y.length-g.1) ⟨0,bO _,fun j x h=>O⟩ aQ.rfl (fun _=>rfl) ?_;rintro⟨i,hi,hok⟩;dsimp only[aO,aP]at hi hok|-;apply vn (aU OY (aR _));apply vn ak;refine vs _ rfl ?_ ?_<;>intro h3
 ·obtain⟨x,hx⟩:∃x,c.y[i]?=some x:=⟨_,ay O⟩
  apply vn (aZ OY hx);apply vn (bB bd0 (by decide) (by simp) (.inl rfl));apply aA (vy x (h.hy x (bc hx)));apply vn lf;refine lR (!x.short) rfl (fun h8=>?_) (fun h8=>?_)
  ·rw[show c.small=false by
    unfold bA.small;rw[fj];rintro⟨h2,_⟩;rw[h2 x (bc hx)]at h8;cases h8];exact aK
  apply vn aC
  exact aW rfl ⟨⟨i+1,O,fun j x' hj hx'=>by
   rcases Nat.lt_or_ge j i with h | h
   ·exact hok j x' h hx'
   ·rw[show j=i by omega,hx]at hx';simp only[aI]at hx';subst hx'
    simpa using h8⟩,aQ.rfl,by show c.y.length-(i+1)<c.y.length-i;omega⟩
 have hall:∀x∈c.y,x.short=true:=fun x hx=>by
  obtain⟨m,hm⟩:=uB hx;exact hok m x (by have:=(dn.1 hm).1;omega) hm
 apply aA (Kk c.p c.long h.hp);dsimp only[aO,aP];refine lR (jf c.p) rfl (fun h13=>?_) (fun h13=>?_)
 ·apply aA (vy c.c h.hc);refine lR c.c.short rfl (fun h15=>?_) (fun h15=>?_)
  ·apply vn (aU OY (aR _));apply vn iO;dsimp only[aO,aP]
   rw[show c.small=decide ((c.y.length:Int)<=6) by
    unfold bA.small;rw[lE];exact⟨fun h=>by have:=h.2.2.2;omega,fun h=>⟨hall,h13,h15,O⟩⟩];exact aK
  rw[show c.small=false by unfold bA.small;rw[fj,h15];simp];exact aK
 rw[show c.small=false by unfold bA.small;rw[fj,h13];simp];exact aK
def bt5:Tr:=pa 8 32 29 (gU 1 24 2 10 28 30 32 (xX 144 9 33 167 167 (pa 12 44 34 (gU 1 24 3 13 32 35 44 (bD 1 1 3 17 (LK 15 11 14))))))
def aI7:Tr:=dL 10 12 50 51 53 (.need (.strow 10 4 (.u 12 0) 0 [(.u 14 0),(.u 14 1),(.u 14 2),(.u 14 3)]) (.store 49 (tT 57) (tT 55)) 0 false (ae6 3 15 32 59 (gU 1 24 2 17 58 60 32 (ae6 4 16 44 63 (gU 1 24 3 19 62 64 44 (Rk 1 18 1 20))))))
def aD3:Tr:=XG 8 50 46 (fP 8 1 49 (fP 8 1 52 (lX 68 1 3 2 39 (lX 50 1 4 2 49 (dL 9 11 40 48 50 (Io 9 11 13 56 54 aI7))))))
def aR1:Tr:=cU 1 4 0 3 12 15 4 (aH 5 0 (gb 0 0 1 0 22 21 22 (bm 6 27 23 (dV 71 [(W 7 0)] [none,none] [24] [27] 128 false bt5))) (fL 0 1 0 3 38 (aH 6 0 (qA .rem 3 41 50 0 1 3 (bD 7 1 3 42 (SH 8 40 44 aD3))) (Rk 1 2 1 3))))
def aY3:Tr:=.loop 0 [lK 0,.nilrow,.nilrow] (au 0 0 14 22 aR1)
def NA:aM prog f57 bZ [.v (some 2)]=aY3:=by kernel_rfl
def Sj:Tr:=.ret [(G5 7),(G6 9)]
def aA1:Tr:=fL 0 7 8 3 22 (aH 3 0 (PK (zd 4 0 8 27 (KM 5 28 (dV 18 [(W 6 0),(WK 2)] [(some 5),none] [31,32] [5,3] 56 false (dV 25 [(W 6 0),(WK 2)] [(some 6)] [37,38] [5,3] 52 true Sj))))) (PK (zd 4 0 8 27 (KM 5 28 (No 18 6 0 7 5 31 32 5 3 56 (Il 25 6 0 7 6 37 38 5 3 52 Sj))))))
def bp4:Tr:=aH 2 0 (PK (zd 3 0 8 27 (KM 4 28 (dV 18 [(W 5 0),(WK 2)] [(some 5),none] [31,32] [5,3] 56 false (dV 25 [(W 5 0),(WK 2)] [(some 6)] [37,38] [5,3] 52 true (.ret [(G5 6),(G6 8)])))))) aA1
def bk4:Tr:=ac1 6 0 15 (aH 1 0 (iJ 0 7 0 3 19 bp4) (dV 57 [(G2 0)] [none,none] [42] [24] 107 false (Td 0 2 3 4 48 (dV 71 [(W 0 5)] [none,none] [54] [27] 128 false (.ret [(.agg [(U 2 0),(U 4 0),(U 4 1),(U 4 2),(U 6 0)]),(.agg [(U 3 0),(U 5 0),(U 5 1),(U 5 2),(U 5 3),(U 7 0)])])))))
def at4:aM prog f17 bZ [.v (some 8)]=bk4:=by kernel_rfl
def lO(n:Nat):List Rat:=(List.replicate n (0:Rat)).set (n-1) 1
def Ng(n:Nat):List RQ:=(List.replicate n RQ.nil).set (n-1) (.of 1)
def HH(p:List (List bH))(long:Int):List (List Rat):=p.map cT++if 0<long then[lO (long%50+1).toNat]else[]
def eRQ(p:List (List bH))(long:Int):List (List RQ):=p.map (fun l=>eS (pj l))++if 0<long then[Ng (long%50+1).toNat]else[]
theorem sA{α β:Type}{R:α->β->Prop}{a:α}{b:β}(h:R a b):∀n,ae R (List.replicate n a) (List.replicate n b)
 | 0=>trivial
 | n+1=>⟨h,sA h n⟩
theorem wF{α β:Type}{R:α->β->Prop}{a:α}{b:β}(h:R a b):∀{xs:List α}{ys:List β}(m:Nat),ae R xs ys->ae R (xs.set m a) (ys.set m b)
 | [],[],_,_=>trivial
 | _::_,_::_,0,⟨_,k⟩=>⟨h,k⟩
 | _::_,_::_,m+1,⟨j,k⟩=>⟨j,wF h m k⟩
 | [],_::_,_,k=>k.elim
 | _::_,[],_,k=>k.elim
abbrev z3:List aE:=[.exact (.slice none 0 0),.bool false,.exact (.slice none 0 0)]
abbrev z4:List aE:=[.int .i64 0,.exact (.slice none 0 0),.int .i64 0,.exact (.slice none 0 0)]
def aJ8(n:Nat):ae (ae aE.Sub) ((List.replicate n z3).set (n-1) (qC 1)) ((lO n).map qC):=by
 rw[lO,tZ,sK];exact wF ⟨aE.Sub.same,aE.Sub.same,aE.Sub.same,trivial⟩ _ (sA db n)
def ac7(n:Nat):ae (ae aE.Sub) ((List.replicate n z4).set (n-1) (rC (.of 1))) ((Ng n).map rC):=by
 rw[Ng,tZ,sK];exact wF ⟨aE.Sub.same,aE.Sub.same,aE.Sub.same,aE.Sub.same,trivial⟩ _ (sA xD n)
def Et{α:Type}{l:List α}{i:Nat}{x:α}(h:l[i]?=some x):l.take i++[x]=l.take (i+1):=by
 rw[List.take_add_one,h];rfl
def sZ(l:List bH):(cT l).length=l.length:=aR _
def JU(l:List bH):(pj l).length=l.length:=aR _
def Nt(p:List (List bH))(long:Int)(hp:InP p)(hs:jf p=true)(hl1:-9223372036854775808<=long)(hl2:long<9223372036854775808):aL prog 57 [(.agg [sP p,.int .i64 long]:aG)] (.ret [.one (eQ (HH p long)),.one (eR (eRQ p long))]):=by
 refine bw func57 NA ?_;have hs:=hs;unfold jf at hs;rw[dx]at hs;obtain⟨hp6,hpx⟩:=hs;refine ao {i:Nat // i<=p.length} (fun g=>[.one (.int .i64 g.1),.rows ((p.take g.1).map fun l=>cQ (cT l)),.rows ((p.take g.1).map fun l=>cR (eS (pj l)))]) (fun g=>p.length-g.1) ⟨0,bO _⟩ aQ.rfl (fun _=>rfl) ?_;rintro⟨i,hi⟩;dsimp only[aO,aP]at hi|-;apply vn (aU RH (aR _));apply vn ak;refine vs _ rfl ?_ ?_<;>intro h3
 ·obtain⟨l,hl⟩:∃l,p[i]?=some l:=⟨_,ay O⟩
  have hlm:=bc hl;have hl4:=(hpx l hlm).1;have hti:(p.take i).length<=i:=by rw[List.length_take];omega
  apply vn (aZ RH hl);apply vn (av aE5);apply aA (TI l (fun x hx=>(hp.p l hlm).2 x hx));apply bF (us:=[cQ (cT l)]);refine oH (xs:=p.take i) (x:=l) (f:=fun l=>cQ (cT l)) rfl rfl O (by simp only[maxLen];omega) ?_;rw[Et hl];apply aA (tl (pj l) (by rw[JU];omega)) rfl;dsimp only[aO,aP];apply bF (us:=[cR (eS (pj l))]);refine oH (xs:=p.take i) (x:=l) (f:=fun l=>cR (eS (pj l))) rfl rfl O (by simp only[maxLen];omega) ?_;rw[Et hl];apply vn aC;dsimp only[aO,aP];exact aW rfl ⟨⟨i+1,O⟩,aQ.rfl,by show p.length-(i+1)<p.length-i;omega⟩
 rw[show i=p.length by omega,List.take_length];apply vn dZ;refine vs _ rfl ?_ ?_<;>intro h15
 ·obtain⟨n,hn⟩:∃n:Nat,(long%50+1).toNat=n:=⟨_,rfl⟩
  have hn1:long%50+1=(n:Int):=O
  have hn2:n<=50:=O
  have hn3:1<=n:=O
  apply vn dd;apply vn (dp (c:=(n:Int)) (by rw[hn1];exact dj)) rfl;refine sJ (n:=n) (m:=n) (us:=List.replicate n z3) rfl rfl rfl (aY _) O (by simp only[maxLen];omega) ?_;refine sJ (n:=n) (m:=n) (us:=List.replicate n z4) rfl rfl rfl (aY _) O (by simp only[maxLen];omega) ?_;apply vn aJ;apply vn aJ;apply aA (mN 1);dsimp only[aO,aP];apply aA (lG 1);refine mq rfl rfl O (by rw[my];omega) ?_;refine yx (ts:=List.replicate n z3) (us:=(List.replicate n z3).set (n-1) (qC 1)) rfl rfl O (cells:=z3) (by rw[show((n:Int)-1).toNat=n-1 by omega,wc,if_pos O]) (by rw[show((n:Int)-1).toNat=n-1 by omega];rfl) ?_;refine mq rfl rfl O (by rw[my];omega) ?_;refine yx (ts:=List.replicate n z4) (us:=(List.replicate n z4).set (n-1) (rC (.of 1))) rfl rfl O (cells:=z4) (by rw[show((n:Int)-1).toNat=n-1 by omega,wc,if_pos O]) (by rw[show((n:Int)-1).toNat=n-1 by omega];rfl) ?_;apply bF (us:=[[.slice 3 ((List.replicate n z3).set (n-1) (qC 1))]]);refine pK (ts:=p.map fun l=>cQ (cT l)) (us:=[[.slice 3 ((List.replicate n z3).set (n-1) (qC 1))]]) rfl rfl rfl (by simp;omega) (by simp[maxLen];omega) ?_;apply bF (us:=[[.slice 4 ((List.replicate n z4).set (n-1) (rC (.of 1)))]]);refine pK (ts:=p.map fun l=>cR (eS (pj l))) (us:=[[.slice 4 ((List.replicate n z4).set (n-1) (rC (.of 1)))]]) rfl rfl rfl (by simp;omega) (by simp[maxLen];omega) ?_;dsimp only[aO,aP];refine dJ ⟨aE.Sub.slice ?_,aE.Sub.slice ?_,trivial⟩
  ·rw[HH,if_pos h15,hn,eG,eU];exact ae.append (ae.mU (ae.mU aE.Sub.refl) _) ⟨⟨aE.Sub.slice (aJ8 n),trivial⟩,trivial⟩
  ·rw[eRQ,if_pos h15,hn,eG,eU];exact ae.append (ae.mU (ae.mU aE.Sub.refl) _) ⟨⟨aE.Sub.slice (ac7 n),trivial⟩,trivial⟩
 rw[HH,eRQ,if_neg h15,if_neg h15,cM,cM];refine aK ?_;rw[eQ,eR,eU,eU];rfl
def bA.kk(c:bA):Nat:=(c.kind-1)%8+1
def bA.nn(c:bA):Int:=if c.n<0\/8<c.n then 2 else c.n
def bA.E(c:bA):List (List Rat):=if 0<c.kind then kE c.kk c.nn else HH c.p c.long
def bA.X(c:bA):Rat:=if 0<c.kind then 0 else c.c.v
def bA.Y(c:bA):List Rat:=if 0<c.kind then kY c.kk else cT c.y
def bA.ER(c:bA):List (List RQ):=if 0<c.kind then kER c.kk c.nn else eRQ c.p c.long
def bA.XR(c:bA):RQ:=if 0<c.kind then .nil else .of c.c.v
def bA.YR(c:bA):List RQ:=if 0<c.kind then kYR c.kk else pj c.y
def Vm{k:Nat}{n:Int}(h1:1<=k)(h2:k<=8)(h3:0<=n:=by omega)(h4:n<=40:=by omega):je k n=(kE k n,kY k,0):=by
 rw[je,if_neg O,if_neg O]
def aH2(c:bA)(h:c.In)(hs:c.small=true):aL prog 17 [(caT c:aG)] (.ret [fT c.E c.X c.Y,fR c.ER c.XR c.YR]):=by
 refine bw func17 at4 ?_;have hs':=hs;unfold bA.small at hs';rw[dx]at hs';obtain⟨_,hsp,_,hyl⟩:=hs';have hk:=h.hk;have hn1:=h.hn1;have hn2:=h.hn2;have hkk1:1<=c.kk:=by unfold bA.kk;omega
 have hkk8:c.kk<=8:=by unfold bA.kk;omega
 have hnn:0<=c.nn/\c.nn<=8:=by unfold bA.nn;split<;>omega
 have hK:=MZ c.kk c.nn;rw[Vm hkk1 hkk8]at hK;have hR:=YC c.kk c.nn hkk1 hkk8;apply vn dZ;refine vs _ rfl ?_ ?_<;>intro h1
 ·have hk0:0<c.kind:=O
  have hkki:((c.kind:Int)-1)%8+1=(c.kk:Int):=by unfold bA.kk;omega
  rw[show c.E=kE c.kk c.nn by rw[bA.E,if_pos hk0],show c.X=0 by rw[bA.X,if_pos hk0],show c.Y=kY c.kk by rw[bA.Y,if_pos hk0],show c.ER=kER c.kk c.nn by rw[bA.ER,if_pos hk0],show c.XR=RQ.nil by rw[bA.XR,if_pos hk0],show c.YR=kYR c.kk by rw[bA.YR,if_pos hk0]];apply vn ak;refine vs _ rfl ?_ ?_<;>intro h3
  ·have hnnv:c.nn=2:=by rw[bA.nn,if_pos O]
   rw[hnnv]at hK hR|-;apply vn FU;apply vn dd;apply vn (dp (c:=(c.kk:Int)) (by rw[hkki];exact NT)) rfl;apply aA hK;apply aA hR;exact aK
  apply vn dZ;refine vs _ rfl ?_ ?_<;>intro h11
  ·have hnnv:c.nn=2:=by rw[bA.nn,if_pos O]
   rw[hnnv]at hK hR|-;apply vn FU;dsimp only[aO,aP];apply vn dd;apply vn (dp (c:=(c.kk:Int)) (by rw[hkki];exact NT)) rfl;apply aA hK;apply aA hR;exact aK
  have hnnv:c.nn=c.n:=by rw[bA.nn,if_neg O]
  rw[hnnv]at hK hR|-;apply vn FU;apply vn dd;apply vn (dp (c:=(c.kk:Int)) (by rw[hkki];exact NT)) rfl;apply aA hK;apply aA hR;exact aK
 have hk0:¬0<c.kind:=O
 rw[show c.E=HH c.p c.long by rw[bA.E,if_neg hk0],show c.X=c.c.v by rw[bA.X,if_neg hk0],show c.Y=cT c.y by rw[bA.Y,if_neg hk0],show c.ER=eRQ c.p c.long by rw[bA.ER,if_neg hk0],show c.XR=RQ.of c.c.v by rw[bA.XR,if_neg hk0],show c.YR=pj c.y by rw[bA.YR,if_neg hk0]];apply aA (Nt c.p c.long h.hp hsp h.hl1 h.hl2);dsimp only[aO,aP];apply aA (Cj c.c h.hc);apply aA (TI c.y h.hy);exact aK
end Go.Sy
