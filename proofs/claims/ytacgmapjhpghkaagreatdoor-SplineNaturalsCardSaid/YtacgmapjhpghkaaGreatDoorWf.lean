/- Part. -/
import Derived.Test.YtacgmapjhpghkaaGreatDoorWe
set_option linter.all false
set_option maxRecDepth 100000
namespace Go.Sy
open Go Go.Proofs Tryz Ord
section
variable{P:j5}
def vK(w:World)(dT sT ty elem:TypeId)(g o dLen dCap:Nat)(a:Addr)(sLen sCap:Nat)(cur:iS)(t:TypeId)(cs:j0)(sz:Nat)
  (hu:P.underlying dT=some (.slice elem)) (hs:(P.info? elem).map (·.size)=some sz)
  (hg:w.heap[g]?=some (.cells cur t (0,0))) (hn:cs.length=Nat.min sLen dLen*sz)
  (hsrc:∀j v,cs[j]?=some v->w.cell? (a.add j)=some v) (hfit:o+cs.length<=cur.size) (h1:∀v∈cs,v.oneCell'=true) :
  (Builtin.copy_ #[dT,sT] ty #[.slice (some ⟨g,o,none⟩) dLen dCap,.slice (some a) sLen sCap]).run P w =
   .ok (goInt (Nat.min sLen dLen)) (w.setRow g (cur.toList.take o++cs++cur.toList.drop (o+cs.length)).toArray):=by
 have hl:=Qi (P:=P) w a cs hsrc;have hst:=run_storeCells_at P g o t cs 0 cur w hg (by simpa using hfit) h1;cases hq:P.info? elem with
 | none=>simp[hq]at hs
 | some i=>
   have hi:i.size=sz:=by simpa[hq]using hs
   simp[Builtin.copy_,er hu,Builtin.lenOf,Builtin.firstCells,sizeOf,typeInfo,hq,hi,<-hn,hl,hst]
def HC(w:World)(dT sT ty elem:TypeId)(d:j9)(dLen dCap c:Nat)(hu:P.underlying dT=some (.slice elem))(hs:∃sz,(P.info? elem).map (·.size)=some sz) :
  (Builtin.copy_ #[dT,sT] ty #[.slice d dLen dCap,.slice none 0 c]).run P w=.ok (goInt 0) w:=by
 obtain⟨sz,hs⟩:=hs;cases hq:P.info? elem with
 | none=>simp[hq]at hs
 | some i=>
   have hl:∀(x:Addr),(loadCells x 0).run P w=.ok #[] w:=fun x=>by simpa using Qi (P:=P) w x [] aT
   cases d<;>simp[Builtin.copy_,er hu,Builtin.lenOf,Builtin.firstCells,sizeOf,typeInfo,hq,storeCells,hl]
def az1{x y:j6}{T U ty E sz b2:Nat}{src ts:List (List aC)}(hT:dZ P T=some (E,sz,b2))(hle:src.length<=ts.length)(hsrc:∀t∈src,t.length=sz)(hts:∀t∈ts,t.length=sz) :
  VS P (.call ⟨.builtin .copy,#[x,y],#[T,U]⟩) ty E sz [] [.one (.slice sz src)] ts [.one (.int .i64 src.length)] (src++ts.drop src.length):=by
 obtain⟨ie,hu,hie,hies,_⟩:=br hT;have hsz:(P.info? E).map (·.size)=some sz:=by rw[hie];simp[hies]
 refine⟨b6,fun t ht=>?_,?_⟩
 .rcases dx.1 ht with ht | ht
  .exact hsrc t ht
  .exact hts t (pF ht)
 .intro M w a o c' K Q g off cap cur vs1 vs2 ho ht hc' hargs hM hMg hg hfit hcap hmax hrep h1 h2 hk;cases hc';cases vs1 with
  | cons v vs=>exact h1.elim
  | nil=>
    have hx:a.eval x=.slice (some ⟨g,off,none⟩) ts.length cap:=by simpa using congrArg List.head? hargs
    have hy:vs2=[a.eval y]:=by
     have:=congrArg List.tail hargs
     simpa using this.symm
    subst hy;have hS:=rE h2.1;cases hS with
    | nil c hv hus=>
      subst hus;have hrun:=HC (P:=P) w T U o.type E (some ⟨g,off,none⟩) ts.length cap c hu ⟨_,hsz⟩
      have hwp:o.wp P a w K Q=K (a.put o.dst (goInt 0)) w:=by
       unfold Oper.wp;simp[execOp,ho,resolve,invoke,builtin,hx,hv,hrun,Result.andThen,Oper.upon]
      rw[hwp];exact hk w cur [.int .i64 0] ⟨rfl,rfl,rfl,ah _,fun _ _ _=>rfl⟩ hg rfl (fun _ _=>rfl) ⟨⟨rfl,rfl⟩,trivial⟩ (by simpa using hrep)
    | some ad c news hv hl hn hr hs=>
      have hmin:Nat.min src.length ts.length=src.length:=de hle;have hmul:src.length*sz<=ts.length*sz:=cY _ hle;have hrun:=vK (P:=P) w T U o.type E g off ts.length cap ad src.length c cur E news sz hu hsz hg (by rw[hmin,hl]) hn O hr.one;rw[hmin]at hrun
      have hwp:o.wp P a w K Q=K (a.put o.dst (goInt src.length)) (w.setRow g (cur.toList.take off++(news++cur.toList.drop (off+news.length))).toArray):=by
       unfold Oper.wp;simp[execOp,ho,resolve,invoke,builtin,hx,hv,hrun,Result.andThen,Oper.upon]
      rw[hwp];have hcl:cur.toList.length=cur.size:=cK;have hus:(ts.take src.length).length=src.length:=by rw[bh];omega
      have hsp:=vd (w:=w) (M:=M) (sz:=sz) (ts:=ts) (us:=ts.take src.length) (us':=src) (n:=0) hts (by rw[hus,gd]) (by rw[hus];omega) (by rw[hus]) hs hrep hr;rw[hus]at hsp;refine hk _ _ [.int .i64 src.length] ⟨rfl,rfl,rfl,aT,fun k _ hk=>ew w g k _ (by rintro rfl;exact hk rfl)⟩ (iV w _ _ _ _ _ hg) b6 ?_ ⟨⟨rfl,rfl⟩,trivial⟩ ?_
      .intro j hj;rw[wQ,<-kU];simp only[pZ,eh,fG,bh]
       grind
      .have e1:(cur.toList.take off++(news++cur.toList.drop (off+news.length))).toArray.toList.drop off=news++cur.toList.drop (off+news.length):=by
        show List.drop off (cur.toList.take off++(news++cur.toList.drop (off+news.length)))=_;rw[sE (by rw[bh];omega),mY (by rw[bh];omega),List.nil_append]
       rw[e1]
       have e2:(news++cur.toList.drop (off+news.length)).take (ts.length*sz)=List.take (0*sz) ((cur.toList.drop off).take (ts.length*sz))++news++List.drop (0*sz+src.length*sz) ((cur.toList.drop off).take (ts.length*sz)):=by
        rw[ns,jI,List.nil_append,bW];apply gU;intro j;simp only[pZ,eh,fG,cF,bh,dF,hl]
        grind
       rw[e2];simp only[jI,List.nil_append,bW,ns]at hsp|-;refine an.mono ?_ hsp;intro k ob hnk hob _;exact⟨hnk,by rw[ew w g k _ (by rintro rfl;exact hnk hMg)];exact hob⟩
end
def bK0:Tr:=aY 5 0 (gW 0 0 4 0 28 12 13 (di 6 3 46 14 (.need (.callv (.u 1 0) [(.agg [(U 7 0),(U 7 1),(U 7 2)])] [none]) (.call ⟨.value (tT 11),#[(tT 15)],#[46]⟩) 4 true (aY 8 0 (cd 4) (cT 4 1 3 8 (lh 0 3 9)))))) (qe (-1))
def bL5:Tr:=bL 0 0 6 28 (Eg (fN 4 0 2 3 8 7 0 bK0))
def PK:af prog f110 dV [.v none,.v none]=bL5:=aS
def WL(a x:Rat)(A B:Nat)(ha:Fit A a)(hx:Fit B x)(h:A+B<=34359738000:=by omega):aX prog 109 [(qT a:aQ),(.one (.aw (qC x)):aQ)] (.ret [.one (.bool (decide (jM a x=0)))]):=by
 refine dvr (ins:=[.v (qT a),.ref (qC x)]) func109 VI ?_;apply aA (ou a x A B ha hx);apply vn cW;exact aR
def Wv(a x:Rat)(A B:Nat)(ha:Fit A a)(hx:Fit B x)(h:A+B<=34359738000:=by omega):aX prog 111 [(qT a:aQ),(.one (.aw (qC x)):aQ)] (.ret [.one (.bool (decide (0<jM a x)))]):=by
 refine dvr (ins:=[.v (qT a),.ref (qC x)]) func111 Yh ?_;apply aA (ou a x A B ha hx);apply vn jD;exact aR
def SI(e:c4)(g:Nat)(caps:List aC)(c:Rat->Bool)(hc:∀p∈e,aX prog g (qT p::caps.map .one) (.ret [.one (.bool (c p))]))(hs:e.length<1099511627776):aX prog 110 [(.one (sQ e):aQ),(.one (.gv g caps):aQ)] (.ret [.one (.int .i64 (nG c e 0))]):=by
 refine eD func110 PK ?_;apply vn (ae bX (aL _));refine bZ {i:Nat // i<=e.length/\nG c e 0=nG c (e.drop i) i} (fun g=>[.one (.int .i64 0),.one (.int .i64 g.1)]) (fun g=>e.length-g.1) ⟨0,dM _,rfl⟩ ai.rfl (fun _=>rfl) ?_;rintro⟨i,hi,hf⟩;dsimp only[aU,aV]at hi hf|-;apply vn bO;refine l4 ?_ ?_<;>intro h3
 .obtain⟨p,hp⟩:∃p,e[i]?=some p:=⟨_,bM O⟩
  have hdrop:e.drop i=p::e.drop (i+1):=by
   rw[jW O,(cL.1 hp).2]
  rw[hdrop,nG]at hf;apply vn (aN bX O O hp);apply vn (ab cb bY aT (.inl rfl));apply FL (f:=g) (caps:=caps) rfl (hc p (dc hp)) rfl;refine nI (c p) rfl (fun h7=>?_) (fun h7=>?_)
  .rw[hf,aF h7];exact aR
  apply vn (aB O O);dsimp only[aU,aV];exact aq rfl ⟨⟨i+1,O,by rw[hf,aG (by simp[h7])]⟩,ai.rfl,by show e.length-(i+1)<e.length-i;omega⟩
 rw[hf,mY O,nG];exact aR
def Lr:Tr:=.fail 1011
def NN:Tr:=.fail 1011
def Hd:Tr:=.fail 1011
def Fk:Tr:=.fail 1011
def Gg:Tr:=.back 0 [(.w (W 25 0)),(.w (W 26 0))]
def EB:Tr:=.need (.prim [(W 20 0),(WK (1))] none) (.binOp .add 3 (.tmp 54) (.const (I3 (1))) 3) 3 false Gg
def Hz:Tr:=.need (.prim [(W 19 0),(WK (1))] none) (.binOp .add 3 (.tmp 61) (.const (I3 (1))) 3) 3 false EB
def Fx:Tr:=.back 0 [(.w (W 19 0)),(.w (W 25 0))]
def Gx:Tr:=.need (.prim [(W 20 0),(WK (1))] none) (.binOp .add 3 (.tmp 54) (.const (I3 (1))) 3) 3 false Fx
def Eh:Tr:=.split (.u 24 0) Hz Gx
def FX:Tr:=.need (.call 109 [(.agg [(U 23 0),(U 23 1),(U 23 2)]),(.one (.ref 0 [(.u 3 0),(.u 3 1),(.u 3 2)]))] [none]) (.call ⟨.value (.tmp 58),#[(.tmp 59)],#[46]⟩) 4 true Eh
def HJ:Tr:=.need (.prim [(W 22 0)] (some 3)) (.load 46 (.tmp 56)) 46 false FX
def Hn:Tr:=.need (.prim [(W 0 0),(W 20 0)] none) (.indexAddr 28 (.tmp 52) (.tmp 54)) 0 false HJ
def ET:Tr:=.fail 1011
def Ek:Tr:=.fail 1011
def Ee:Tr:=.back 0 [(.w (W 36 0)),(.row 35)]
def GD:Tr:=.need (.prim [(W 27 0),(WK (1))] none) (.binOp .add 3 (.tmp 75) (.const (I3 (1))) 3) 3 false Ee
def Hk:Tr:=.need (.app 3 56 (some 28) none (some 34)) (.call ⟨.builtin .append,#[(.tmp 121),(.tmp 126)],#[28,28]⟩) 28 false GD
def Ga:Tr:=.need (.lit 3 [[(.u 33 0),(.u 33 1),(.u 33 2)]]) (.buildSlice 28 1 #[(0,(.tmp 125))]) 28 false Hk
def CS:Tr:=.need (.prim [(W 32 0)] (some 3)) (.load 46 (.tmp 124)) 46 false Ga
def GX:Tr:=.need (.prim [(W 2 0),(W 27 0)] none) (.indexAddr 28 (.tmp 122) (.tmp 123)) 0 false CS
def GY:Tr:=.back 0 [(.w (W 39 0)),(.row 38)]
def Ft:Tr:=.need (.prim [(W 27 0),(WK (1))] none) (.binOp .add 3 (.tmp 75) (.const (I3 (1))) 3) 3 false GY
def Gd:Tr:=.need (.app 3 56 (some 28) none (some 37)) (.call ⟨.builtin .append,#[(.tmp 134),(.tmp 140)],#[28,28]⟩) 28 false Ft
def FP:Tr:=.need (.lit 3 [[(.u 36 0),(.u 36 1),(.u 36 2)]]) (.buildSlice 28 1 #[(0,(.tmp 139))]) 28 false Gd
def FT:Tr:=.need (.prim [(W 35 0)] (some 3)) (.load 46 (.tmp 138)) 46 false FP
def DU:Tr:=.need (.prim [(W 2 0),(W 34 0)] none) (.indexAddr 28 (.tmp 135) (.tmp 137)) 0 false FT
def HN:Tr:=.need (.prim [(W 27 0),(WK (1))] none) (.binOp .sub 3 (.tmp 136) (.const (I3 (1))) 3) 3 false DU
def DL:Tr:=.back 0 [(.w (W 56 0)),(.row 55)]
def Hh:Tr:=.need (.prim [(W 27 0),(WK (1))] none) (.binOp .add 3 (.tmp 75) (.const (I3 (1))) 3) 3 false DL
def Dm:Tr:=.need (.app 3 56 (some 28) none (some 54)) (.call ⟨.builtin .append,#[(.tmp 96),(.tmp 113)],#[28,28]⟩) 28 false Hh
def HB:Tr:=.need (.lit 3 [[(.u 53 0),(.u 53 1),(.u 53 2)]]) (.buildSlice 28 1 #[(0,(.tmp 112))]) 28 false Dm
def Hp:Tr:=.need (.call 88 [(.agg [(U 46 0),(U 46 1),(U 46 2)]),(.agg [(U 52 0),(U 52 1),(U 52 2)])] [(some 3)]) (.call ⟨.value (.func 88),#[(.tmp 102),(.tmp 111)],#[46,46]⟩) 46 true HB
def GQ:Tr:=.need (.call 76 [(.agg [(U 49 0),(U 49 1),(U 49 2)]),(.agg [(U 51 0),(U 51 1),(U 51 2)])] [(some 3)]) (.call ⟨.value (.func 76),#[(.tmp 107),(.tmp 110)],#[46,46]⟩) 46 false Hp
def CI:Tr:=.need (.call 86 [(.agg [(U 50 0),(U 50 1),(U 50 2)]),(.agg [(U 43 0),(U 43 1),(U 43 2)])] [(some 3)]) (.call ⟨.value (.func 86),#[(.tmp 108),(.tmp 109)],#[46,46]⟩) 46 false GQ
def Ht:Tr:=.need (.call 113 [(WK (1))] [(some 3)]) (.call ⟨.value (.func 113),#[(.const (I3 (1)))],#[3]⟩) 46 false CI
def Ea:Tr:=.need (.prim [(W 48 0)] (some 3)) (.load 46 (.tmp 106)) 46 false Ht
def GZ:Tr:=.need (.prim [(W 2 0),(W 47 0)] none) (.indexAddr 28 (.tmp 103) (.tmp 105)) 0 false Ea
def Fb:Tr:=.need (.prim [(W 27 0),(WK (1))] none) (.binOp .sub 3 (.tmp 104) (.const (I3 (1))) 3) 3 false GZ
def He:Tr:=.need (.call 76 [(.agg [(U 45 0),(U 45 1),(U 45 2)]),(.agg [(U 43 0),(U 43 1),(U 43 2)])] [(some 3)]) (.call ⟨.value (.func 76),#[(.tmp 100),(.tmp 101)],#[46,46]⟩) 46 false Fb
def GC:Tr:=.need (.prim [(W 44 0)] (some 3)) (.load 46 (.tmp 99)) 46 false He
def GF:Tr:=.need (.prim [(W 2 0),(W 27 0)] none) (.indexAddr 28 (.tmp 97) (.tmp 98)) 0 false GC
def CM:Tr:=.need (.call 112 [(.agg [(U 36 0),(U 36 1),(U 36 2)]),(.agg [(U 42 0),(U 42 1),(U 42 2)])] [(some 3)]) (.call ⟨.value (.func 112),#[(.tmp 83),(.tmp 94)],#[46,46]⟩) 46 true GF
def FV:Tr:=.need (.call 86 [(.agg [(U 39 0),(U 39 1),(U 39 2)]),(.agg [(U 41 0),(U 41 1),(U 41 2)])] [(some 3)]) (.call ⟨.value (.func 86),#[(.tmp 89),(.tmp 93)],#[46,46]⟩) 46 true CM
def HD:Tr:=.need (.prim [(W 40 0)] (some 3)) (.load 46 (.tmp 92)) 46 false FV
def CX:Tr:=.need (.prim [(W 0 0),(W 27 0)] none) (.indexAddr 28 (.tmp 90) (.tmp 91)) 0 false HD
def GV:Tr:=.need (.prim [(W 38 0)] (some 3)) (.load 46 (.tmp 88)) 46 false CX
def Dy:Tr:=.need (.prim [(W 0 0),(W 37 0)] none) (.indexAddr 28 (.tmp 84) (.tmp 87)) 0 false GV
def Fc:Tr:=.need (.prim [(W 27 0),(W 1 0)] none) (.binOp .add 3 (.tmp 85) (.tmp 86) 3) 3 false Dy
def DW:Tr:=.need (.call 86 [(.agg [(U 3 0),(U 3 1),(U 3 2)]),(.agg [(U 35 0),(U 35 1),(U 35 2)])] [(some 3)]) (.call ⟨.value (.func 86),#[(.tmp 78),(.tmp 82)],#[46,46]⟩) 46 false Fc
def Hr:Tr:=.need (.prim [(W 34 0)] (some 3)) (.load 46 (.tmp 81)) 46 false DW
def Fv:Tr:=.need (.prim [(W 0 0),(W 27 0)] none) (.indexAddr 28 (.tmp 79) (.tmp 80)) 0 false Hr
def Fp:Tr:=.split (.u 33 0) HN Fv
def FN:Tr:=.need (.prim [(W 27 0),(W 32 0)] none) (.binOp .gtr 3 (.tmp 129) (.tmp 132) 3) 4 false Fp
def HL:Tr:=.need (.prim [(W 17 0),(W 19 0)] none) (.binOp .sub 3 (.tmp 130) (.tmp 131) 3) 3 false FN
def GW:Tr:=.split (.u 31 0) GX HL
def GU:Tr:=.need (.prim [(W 27 0),(W 30 0)] none) (.binOp .leq 3 (.tmp 116) (.tmp 119) 3) 4 false GW
def Dp:Tr:=.need (.prim [(W 17 0),(W 1 0)] none) (.binOp .sub 3 (.tmp 117) (.tmp 118) 3) 3 false GU
def Hi:Tr:=.ret [(W 0 0),(.one (.ref 0 [(.u 3 0),(.u 3 1),(.u 3 2)])),(.one (.c (.k (.slice none 0 0)))),(.one (.c (.sr 3 28))),(W 17 0)]
def Gm:Tr:=.split (.u 29 0) Dp Hi
def Ds:Tr:=.need (.prim [(W 27 0),(W 26 0)] none) (.binOp .lss 3 (.tmp 75) (.tmp 74) 3) 4 false Gm
def GP:Tr:=.loop 0 [(.w (WK (0))),.nilrow] Ds
def Fh:Tr:=.need (.prim [(W 25 0),(WK (1))] none) (.binOp .add 3 (.tmp 73) (.const (I3 (1))) 3) 3 false GP
def Ei:Tr:=.need (.prim [(W 2 0)] none) (.call ⟨.builtin .len,#[(.tmp 72)],#[28]⟩) 3 false Fh
def ED:Tr:=.split (.u 24 0) Ek Ei
def Hw:Tr:=.need (.prim [(W 23 0),(WK (60))] none) (.binOp .eql 3 (.tmp 69) (.const (I3 (60))) 3) 4 false ED
def EK:Tr:=.need (.prim [(W 0 0)] none) (.call ⟨.builtin .len,#[(.tmp 68)],#[28]⟩) 3 false Hw
def Hs:Tr:=.split (.u 22 0) ET EK
def Ev:Tr:=.need (.prim [(W 19 0),(W 1 0)] none) (.binOp .gtr 3 (.tmp 64) (.tmp 65) 3) 4 false Hs
def CL:Tr:=.split (.u 21 0) Hn Ev
def Gs:Tr:=.need (.prim [(W 20 0),(W 18 0)] none) (.binOp .lss 3 (.tmp 54) (.tmp 53) 3) 0 false CL
def Hv:Tr:=.loop 0 [(.w (WK (0))),(.w (WK (0)))] Gs
def EA:Tr:=.need (.prim [(W 0 0)] none) (.call ⟨.builtin .len,#[(.tmp 52)],#[28]⟩) 3 false Hv
def GK:Tr:=.need (.prim [(W 16 0),(WK (1))] none) (.binOp .sub 3 (.tmp 50) (.const (I3 (1))) 3) 3 false EA
def EP:Tr:=.need (.call 110 [(W 0 0),(.one (.gv 111 [(.ref 0 [(.u 3 0),(.u 3 1),(.u 3 2)])]))] [none]) (.call ⟨.value (.func 110),#[(.tmp 48),(.tmp 49)],#[28,162]⟩) 3 true GK
def CU:Tr:=.split (.u 15 0) Fk EP
def CD:Tr:=.need (.prim [(W 14 0),(WK (0))] none) (.binOp .geq 3 (.tmp 44) (.const (I3 (0))) 3) 4 false CU
def CK:Tr:=.need (.call 67 [(.agg [(U 3 0),(U 3 1),(U 3 2)]),(.agg [(U 13 0),(U 13 1),(U 13 2)])] [none]) (.call ⟨.value (.func 67),#[(.tmp 41),(.tmp 43)],#[46,46]⟩) 3 false CD
def EC:Tr:=.need (.call 108 [(.agg [(U 4 0),(U 4 1)])] [(some 3)]) (.call ⟨.value (.func 108),#[(.tmp 42)],#[157]⟩) 46 false CK
def Fq:Tr:=.split (.u 12 0) Hd EC
def Hc:Tr:=.need (.prim [(W 11 0),(WK (0))] none) (.binOp .leq 3 (.tmp 38) (.const (I3 (0))) 3) 4 false Fq
def Fe:Tr:=.need (.call 67 [(.agg [(U 3 0),(U 3 1),(U 3 2)]),(.agg [(U 10 0),(U 10 1),(U 10 2)])] [none]) (.call ⟨.value (.func 67),#[(.tmp 35),(.tmp 37)],#[46,46]⟩) 3 false Hc
def Iv:Tr:=.need (.call 107 [(.agg [(U 4 0),(U 4 1)])] [(some 3)]) (.call ⟨.value (.func 107),#[(.tmp 36)],#[157]⟩) 46 false Fe
def Kf:Tr:=.split (.u 9 0) NN Iv
def MO:Tr:=.need (.prim [(W 7 0),(W 8 0)] none) (.binOp .neq 3 (.tmp 30) (.tmp 32) 3) 4 false Kf
def KG:Tr:=.need (.call 104 [(.agg [(U 4 0),(U 4 1)])] [none]) (.call ⟨.value (.func 104),#[(.tmp 31)],#[157]⟩) 3 false MO
def LR:Tr:=.need (.prim [(W 2 0)] none) (.call ⟨.builtin .len,#[(.tmp 29)],#[28]⟩) 3 false KG
def NG:Tr:=.split (.u 6 0) Lr LR
def HZ:Tr:=.need (.prim [(W 5 0)] none) (.unOp .not 4 (.tmp 26)) 4 false NG
def JC:Tr:=.need (.call 103 [(W 0 0),(W 1 0)] [(some 2),none]) (.call ⟨.value (.func 103),#[(.tmp 21),(.tmp 22)],#[28,3]⟩) 158 false HZ
def Xy:aj prog 169 (fun _=>none) (aH [] (aM f36)) [(0,.v none),(1,.v none),(2,.v none),(3,.v (some 3))] ([0,7,8,9,14].map ResultVar.tmp) (some 9) false=JC:=aS
def Nc:Tr:=.retr [] 4
def IZ:Tr:=.need (.make [(.slice none 0 0),(.bool false),(.slice none 0 0)] 56 (.u 3 0) (.u 3 0)) (.makeSlice 28 (.tmp 145) (.tmp 145)) 28 false Nc
def NA:Tr:=.need (.prim [(W 2 0),(WK (1))] none) (.binOp .add 3 (.tmp 144) (.const (I3 (1))) 3) 3 false IZ
def JE:Tr:=.need (.prim [(W 0 0)] none) (.call ⟨.builtin .len,#[(.tmp 143)],#[28]⟩) 3 false NA
def Vd:pJ prog 169 (fun _=>none) (aH [1,1,1,1,1,1,1,1,1,1,0] (aM f36)) [(0,.v none)] 8 46 3 8 ([].map ResultVar.tmp)=JE:=aS
def KE:Tr:=.retr [] 6
def Ld:Tr:=.need (.rop 2 46 3 none [] [(W 4 0)] [none]) (.call ⟨.builtin .copy,#[(.tmp 147),(.tmp 151)],#[28,28]⟩) 3 false KE
def Il:Tr:=.need (.prim [(W 0 0),(W 3 0)] none) (.slice 28 (.tmp 148) none (some (.tmp 150)) none) 28 false Ld
def JA:Tr:=.need (.prim [(W 1 0),(WK (1))] none) (.binOp .add 3 (.tmp 149) (.const (I3 (1))) 3) 3 false Il
def Ym:pJ prog 169 (fun _=>none) (aH [1,1,1,1,1,1,1,1,1,1,1,0] (aM f36)) [(0,.v none),(14,.v none)] 8 46 3 8 ([].map ResultVar.tmp)=JA:=aS
def KW:Tr:=.retr [] 4
def Nl:Tr:=.need (.strow 2 3 (.u 3 0) 0 [(.u 1 0),(.u 1 1),(.u 1 2)]) (.store 46 (.tmp 157) (.tmp 156)) 0 false KW
def Ig:Tr:=.need (.idx 2 (.u 3 0)) (.indexAddr 28 (.tmp 153) (.tmp 155)) 0 false Nl
def KS:Tr:=.need (.prim [(W 0 0),(WK (1))] none) (.binOp .add 3 (.tmp 154) (.const (I3 (1))) 3) 3 false Ig
def Xj:pJ prog 169 (fun _=>none) (aH [1,1,1,1,1,1,1,1,1,1,1,1,0] (aM f36)) [(14,.v none),(7,.ref 3)] 8 46 3 8 ([].map ResultVar.tmp)=KS:=aS
def aQ1(kn:c4)(d:Nat)(hs:kn.length<1099511627776:=by omega)(hd:d<kn.length:=by omega):aX prog 107 [(.agg [sQ kn,.int .i64 (d:Int)]:aQ)] (.ret [qT (kn.getD d 0)]):=by
 refine eD func107 aZ0 ?_;apply vn (aN bX (m:=d) O (bI d) (aa hd));apply vn (ab cb bY aT (.inl rfl));exact aR
def aI0{E sz b T:Nat}{α:Type}{f:α->List aC}{ds:List α}{x:j6}{ty:Nat}{y:j6}{k:IntKind}{n:Int}{m:Nat}(h:dZ prog T=some (E,sz,b))(h0:0<=n:=by omega)(hm:n.toNat=m:=by omega)(hn:m<=ds.length:=by omega):ao prog (.slice T x none (some y) none) ty [.one (.slice sz (ds.map f)),.one (.int k n)] (.one (.slice sz ((ds.take m).map f))):=by
 have:=zE (P:=prog) (T:=T) (x:=x) (y:=y) (ty:=ty) (k:=k) (n:=n) (ts:=ds.map f) h h0 (by rw[aL,hm];exact hn);rw[hm,<-kD]at this;exact this
def mulN(kn:c4)(x:Rat)(i:Nat):Nat:=((kn.take i).filter fun a=>decide (jM a x=0)).length
def aw7{kn:c4}{x:Rat}{i:Nat}(hi:i<kn.length):mulN kn x (i+1)=mulN kn x i+if jM (kn.getD i 0) x=0 then 1 else 0:=by
 have e:kn.take (i+1)=kn.take i++[kn.getD i 0]:=by rw[nq,aa hi];rfl
 unfold mulN;rw[e,TB,cF];generalize kn.getD i 0=a
 congr 1
 by_cases h:jM a x=0
 .rw[ai1 (by simpa using h),aF h];rfl
 .rw[aj3 (by simpa using h),aG h];rfl
def bx0(kn:c4)(x:Rat)(i:Nat):mulN kn x i<=i:=bG (uT _ _) (by rw[bh];omega)
def MT(kn cf:c4)(x:Rat)(d k m j:Nat):Rat:=
 if(j:Int)<=(k:Int)-(d:Int)then cf.getD j 0 else if(k:Int)-(m:Int)<(j:Int)then cf.getD (j-1) 0 else
  cf.getD j 0*((x-kn.getD j 0)/(kn.getD (j+d) 0-kn.getD j 0))+cf.getD (j-1) 0*(((1:Int):Rat)-(x-kn.getD j 0)/(kn.getD (j+d) 0-kn.getD j 0))
def vm(kn cf:c4)(x:Rat)(d k m n:Nat):List Rat:=(List.range n).map (MT kn cf x d k m)
def yX(kn cf:c4)(x:Rat)(d k m n:Nat):vm kn cf x d k m n++[MT kn cf x d k m n]=vm kn cf x d k m (n+1):=by rw[vm,vm,gy,cG];rfl
def bS5(kn cf:c4)(x:Rat)(d k A:Nat)(hA1:62<=A)(hA:A<=1000000)(hk:∀a∈kn,Fit A a)(hc:∀a∈cf,Fit A a)(hx:Fit A x)(F:Fra kn d)(h60:kn.length≠60)(hcl:cf.length=kn.length-d-1)(hx1:0<jM x (kn.getD d 0))(hx2:jM x (kn.getD (kn.length-1-d) 0)<0)(hat:nG (fun a=>decide (0<jM a x)) kn 0=((k+1:Nat):Int))(hk1:k+d+1<kn.length)(hk2:d<=k)(hm:mulN kn x kn.length<=d):vc prog (fun o=>bD o (.ret [.one (sQ kn),.one (.aw (qC x)),.one (.exact (.slice none 0 0)),.one (sQ (vm kn cf x d k (mulN kn x kn.length) (cf.length+1))),.one (.int .i64 (k:Int))])) (aj prog 169 (fun _=>none) (aH [] (aM f36)) [(0,.v none),(1,.v none),(2,.v none),(3,.v (some 3))] ([0,7,8,9,14].map ResultVar.tmp) (some 9) false) ([.v (.one (sQ kn)),.v (.one (.int .i64 (d:Int))),.v (.one (sQ cf)),.v (qT x)].map In.env) []:=by
 rw[Xy];dsimp only[List.map,In.env,aU,aV];have hs:=F.hs;have hd:=F.hd;have h2:=F.h2;apply aA (Pa kn d A hk F);apply vn fk;refine nI false rfl (fun h=>by cases h) (fun _=>?_);apply vn (ae bX (aL _));apply aA (sC kn d);apply vn iC;refine l4 ?_ ?_<;>intro h7
 .exfalso;omega
 apply aA (aQ1 kn d);apply aA (ou _ _ A A hx (aD hk _));apply vn nR;dsimp only[aU,aV];refine l4 ?_ ?_<;>intro h12
 .exfalso;omega
 apply aA (ah9 kn d);apply aA (ou _ _ A A hx (aD hk _));apply vn kz;refine l4 ?_ ?_<;>intro h17
 .exfalso;omega
 apply aA (SI kn 111 [.aw (qC x)] (fun a=>decide (0<jM a x)) (fun p hp=>Wv p x A A (hk p hp) hx) O);rw[hat];apply vn (aI O O);dsimp only[aU,aV];rw[show((k+1:Nat):Int)-1=(k:Int) by omega];apply vn (ae bX (aL _));refine bZ {i:Nat // i<=kn.length} (fun g=>[.one (.int .i64 (mulN kn x g.1:Int)),.one (.int .i64 (g.1:Int))]) (fun g=>kn.length-g.1) ⟨0,dM _⟩ ai.rfl (fun _=>rfl) ?_;rintro⟨i,hi⟩;dsimp only[aU,aV]at hi|-;have hml:=bx0 kn x i;apply vn bO;refine l4 ?_ ?_<;>intro h24
 .have hi':i<kn.length:=O
  have hmn:=aw7 (kn:=kn) (x:=x) hi';apply vn (aN bX (m:=i) O (bI i) (aa hi'));apply vn (ab cb bY aT (.inl rfl));apply aA (WL _ x A A (aD hk _) hx);refine l4 ?_ ?_<;>intro h28
  .apply vn (aB O O);apply vn (aB O O);dsimp only[aU,aV];exact aq rfl ⟨⟨i+1,O⟩,⟨.inl (by rw[hmn,aF ‹_›];rfl),.inl rfl,trivial⟩,by show kn.length-(i+1)<kn.length-i;omega⟩
  apply vn (aB O O);dsimp only[aU,aV];exact aq rfl ⟨⟨i+1,O⟩,⟨.inl (by rw[hmn,aG ‹¬_›];rfl),.inl rfl,trivial⟩,by show kn.length-(i+1)<kn.length-i;omega⟩
 obtain rfl:i=kn.length:=O
 apply vn jD;refine l4 ?_ ?_<;>intro h35
 .exfalso;omega
 apply vn (ae bX (aL _));apply vn cW;refine l4 ?_ ?_<;>intro h39
 .exfalso;omega
 apply vn (ae bX (aL _));apply vn (aB O O);refine bZ {j:Nat // j<=cf.length+1} (fun g=>[.one (.int .i64 (g.1:Int)),.rows (rQ (vm kn cf x d k (mulN kn x kn.length) g.1))]) (fun g=>cf.length+1-g.1) ⟨0,dM _⟩ ai.rfl (fun _=>rfl) ?_;rintro⟨j,hj⟩;dsimp only[aU,aV]at hj|-;have hll:(vm kn cf x d k (mulN kn x kn.length) j).length=j:=by rw[vm,aL,nL]
 apply vn bO;refine l4 ?_ ?_<;>intro h45
 .apply vn (aI O O);apply vn nR;refine l4 ?_ ?_<;>intro h48
  .have hjj:MT kn cf x d k (mulN kn x kn.length) j=cf.getD j 0:=by rw[MT,aF O]
   apply vn (aN bX (m:=j) O (bI j) (aa (show j<cf.length by omega)));apply vn (ab cb bY aT (.inl rfl));apply et (us:=[qC (cf.getD j 0)]);refine kq (xs:=vm kn cf x d k (mulN kn x kn.length) j) (x:=cf.getD j 0) (f:=qC) rfl rfl O (by simp only[maxLen];omega) ?_;rw[<-hjj,yX];apply vn (aB O O);dsimp only[aU,aV];exact aq rfl ⟨⟨j+1,O⟩,ai.rfl,by show cf.length+1-(j+1)<cf.length+1-j;omega⟩
  apply vn (aI O O);apply vn jD;refine l4 ?_ ?_<;>intro h57
  .have hjj:MT kn cf x d k (mulN kn x kn.length) j=cf.getD (j-1) 0:=by rw[MT,aG O,aF O]
   apply vn (aI O O);dsimp only[aU,aV];apply vn (aN bX (m:=j-1) O O (aa (show j-1<cf.length by omega)));apply vn (ab cb bY aT (.inl rfl));apply et (us:=[qC (cf.getD (j-1) 0)]);refine kq (xs:=vm kn cf x d k (mulN kn x kn.length) j) (x:=cf.getD (j-1) 0) (f:=qC) rfl rfl O (by simp only[maxLen];omega) ?_;rw[<-hjj,yX];apply vn (aB O O);dsimp only[aU,aV];exact aq rfl ⟨⟨j+1,O⟩,ai.rfl,by show cf.length+1-(j+1)<cf.length+1-j;omega⟩
  have hjj:MT kn cf x d k (mulN kn x kn.length) j=cf.getD j 0*((x-kn.getD j 0)/(kn.getD (j+d) 0-kn.getD j 0))+cf.getD (j-1) 0*(((1:Int):Rat)-(x-kn.getD j 0)/(kn.getD (j+d) 0-kn.getD j 0)):=by rw[MT,aG O,aG O]
  have f1:=aD hk j (show 1<=A by omega);have f2:=aD hk (j+d) (show 1<=A by omega);have f3:=aD hc j (show 1<=A by omega);have f4:=aD hc (j-1) (show 1<=A by omega);have f5:=(hx.sub f1).div (f2.sub f1);apply vn (aN bX (m:=j) O (bI j) (aa (show j<kn.length by omega)));apply vn (ab cb bY aT (.inl rfl));apply aA (lZ _ _ A A hx f1);apply vn (aB O O);dsimp only[aU,aV];apply vn (aN bX (m:=j+d) O O (aa (show j+d<kn.length by omega)));apply vn (ab cb bY aT (.inl rfl));dsimp only[aU,aV];apply vn (aN bX (m:=j) O (bI j) (aa (show j<kn.length by omega)));apply vn (ab cb bY aT (.inl rfl));apply aA (lZ _ _ A A f2 f1);apply aA (qP _ _ (A+A+1) (A+A+1) (hx.sub f1) (f2.sub f1));rw[re];dsimp only[aU,aV];apply vn (aN bX (m:=j) O (bI j) (aa (show j<cf.length by omega)));apply vn (ab cb bY aT (.inl rfl));apply aA (ig _ _ A (A+A+1+(A+A+1)) f3 f5);apply vn (aI O O);dsimp only[aU,aV];apply vn (aN bX (m:=j-1) O O (aa (show j-1<cf.length by omega)));apply vn (ab cb bY aT (.inl rfl));apply aA (dp 1);apply aA (lZ _ _ 62 (A+A+1+(A+A+1)) (Fit.int O O) f5);apply aA (ig _ _ A (62+(A+A+1+(A+A+1))+1) f4 ((Fit.int (n:=1) (B:=62) O O).sub f5));apply aA (oV _ _ (A+(A+A+1+(A+A+1))) (A+(62+(A+A+1+(A+A+1))+1)) (f3.mul f5) (f4.mul ((Fit.int (n:=1) (B:=62) O O).sub f5)));refine et (us:=[qC (MT kn cf x d k (mulN kn x kn.length) j)]) (by rw[hjj];rfl) ?_;refine kq (xs:=vm kn cf x d k (mulN kn x kn.length) j) (x:=MT kn cf x d k (mulN kn x kn.length) j) (f:=qC) rfl rfl O (by simp only[maxLen];omega) ?_;rw[yX];dsimp only[aU,aV];apply vn (aB O O);dsimp only[aU,aV];exact aq rfl ⟨⟨j+1,O⟩,ai.rfl,by show cf.length+1-(j+1)<cf.length+1-j;omega⟩
 rw[show j=cf.length+1 by omega];exact aR
def cB0{α:Type}(l:List α)(f:α->List aC)(k n:Nat)(hl:l.length=n)(hk:k<=l.length:=by omega):(l.take k).map f++(List.replicate (n+1) z3).drop ((l.take k).map f).length=(l.take k).map f++List.replicate (n+1-k) z3:=by
 rw[aL,bh,an0,show min k l.length=k by omega]
def bY8(n:Nat)(kn:c4)(hn:kn.length=n)(hs:n<1099511627776:=by omega):vc prog (fun o=>o=.retr [] (List.replicate (n+1) z3)) (pJ prog 169 (fun _=>none) (aH [1,1,1,1,1,1,1,1,1,1,0] (aM f36)) [(0,.v none)] 8 46 3 8 ([].map ResultVar.tmp)) ([.v (.one (sQ kn))].map In.env++[.rows ([])]) []:=by
 rw[Vd];dsimp only[List.map,In.env,aU,aV];apply vn (ae bX ((aL _).trans hn));apply vn (aB O O);refine tf (n:=n+1) (m:=n+1) (us:=List.replicate (n+1) z3) rfl rfl rfl (ah _) O (by simp only[maxLen];omega) ?_;dsimp only[aU,aV];exact kA rfl rfl
def cb3(n k:Nat)(kn:c4)(hn:kn.length=n)(hs:n<1099511627776:=by omega)(hk:k+1<=n:=by omega):vc prog (fun o=>o=.retr [] (rQ (kn.take (k+1))++List.replicate (n-k) z3)) (pJ prog 169 (fun _=>none) (aH [1,1,1,1,1,1,1,1,1,1,1,0] (aM f36)) [(0,.v none),(14,.v none)] 8 46 3 8 ([].map ResultVar.tmp)) ([.v (.one (sQ kn)),.v (.one (.int .i64 (k:Int)))].map In.env++[.rows (List.replicate (n+1) z3)]) []:=by
 rw[Ym];dsimp only[List.map,In.env,aU,aV];apply vn (aB O O);apply vn (aI0 bX (m:=k+1));dsimp only[aU,aV]
 refine bw1 (n:=0) (us:=List.replicate (n+1) z3) (rs:=[.one (.int .i64 ((rQ (kn.take (k+1))).length:Int))]) (us':=rQ (kn.take (k+1))++(List.replicate (n+1) z3).drop (rQ (kn.take (k+1))).length) (vs:=rQ (kn.take (k+1))++List.replicate (n-k) z3) rfl ⟨rfl,rfl⟩ aT rfl (az1 bX (by rw[aL,bh,dU];omega) rI (fun t ht=>by rw[(kL.1 ht).2];rfl)) (by
   have h0:(List.replicate (n+1) z3).drop (0+(List.replicate (n+1) z3).length)=[]:=by rw[bW];exact mY (ah _)
   rw[h0,jI,List.nil_append,cB];have:=cB0 kn qC (k+1) n hn
   rwa[show n+1-(k+1)=n-k by omega]at this) ?_
 dsimp only[aU,aV];exact kA rfl rfl
def bN6(n k:Nat)(kn:c4)(x:Rat)(hn:kn.length=n)(hs:n<1099511627776:=by omega)(hk:k+1<=n:=by omega):vc prog (fun o=>o=.retr [] (rQ (kn.take (k+1)++[x])++List.replicate (n-k-1) z3)) (pJ prog 169 (fun _=>none) (aH [1,1,1,1,1,1,1,1,1,1,1,1,0] (aM f36)) [(14,.v none),(7,.ref 3)] 8 46 3 8 ([].map ResultVar.tmp)) ([.v (.one (.int .i64 (k:Int))),.ref (qC x)].map In.env++[.rows (rQ (kn.take (k+1))++List.replicate (n-k) z3)]) []:=by
 rw[Xj];dsimp only[List.map,In.env,aU,aV];have htl:(rQ (kn.take (k+1))).length=k+1:=by rw[aL,bh];omega
 apply vn (aB O O);refine tC rfl rfl O (by rw[cF,htl,dU];omega) ?_
 refine NM (ts:=rQ (kn.take (k+1))++List.replicate (n-k) z3) (us:=rQ (kn.take (k+1)++[x])++List.replicate (n-k-1) z3) rfl rfl O (cells:=z3) (by rw[show((k:Int)+1).toNat=k+1 by omega,fi O,htl,fE,wy,aF O]) (by
   rw[show((k:Int)+1).toNat=k+1 by omega];show(rQ (kn.take (k+1))++List.replicate (n-k) z3).set (k+1) _=_;obtain⟨q,hq⟩:∃q,n-k=q+1:=⟨n-k-1,O⟩
   rw[Sc _ _ O,htl,fE,hq,lW,kP,ub,rQ,rQ,cG];show List.map qC (kn.take (k+1))++(qC x::List.replicate q z3)=(List.map qC (kn.take (k+1))++[qC x])++List.replicate q z3;rw[dy];rfl) ?_
 dsimp only[aU,aV];exact kA rfl rfl
open Go Go.Proofs Go.RowKit Tryz Ord
attribute [local go_sem] Oper.semAt_some
structure PI(pd:Nat->Option (Nat×(Value->Prop)))(N:Nat)(a1:Act)(W1:World)(L:c9)(a:Act)(W:World):Prop where
 sz:a.tmps.size=N
 df:a.defers=[]
 w:W=W1
 dJ:∀t,(∀i d p,pd i=some (d,p)->d≠t)->a.tmps.getD t undef=a1.tmps.getD t undef
 done:∀i d p,pd i=some (d,p)->L i=true->p (a.tmps.getD d undef)
def PI.put{pd:Nat->Option (Nat×(Value->Prop))}{N:Nat}{a1 a:Act}{W1 W:World}{L:c9}(I:PI pd N a1 W1 L a W){i d:Nat}{p:Value->Prop}{v:Value}(h:pd i=some (d,p))(hd:d<N)(hinj:∀j e q,pd j=some (e,q)->e=d->j=i)(hp:p v):PI pd N a1 W1 (Lx L i) (a.put (some d) v) W:=by
 have hg:∀d',(a.put (some d) v).tmps.getD d' undef=if d'=d then v else a.tmps.getD d' undef:=fun d'=>oQ (by rw[I.sz];omega)
 refine⟨by show(a.tmps.setIfInBounds d v).size=N;rw[ue];exact I.sz,I.df,I.w,fun t ht=>?_,fun j e q hj hL=>?_⟩
 .rw[hg,aG fun e=>ht i d p h e.symm];exact I.dJ t ht
 .rw[hg];by_cases hji:j=i
  .subst hji;rw[h]at hj;cases hj;rw[aF rfl];exact hp
  .rw[aG fun e'=>hji (hinj j e q hj e')];exact I.done j e q hj (nP hL hji)
noncomputable def kV:Array Oper:=match aH [1,1,1,1,1,1,1,1,1,1,1,1,1,0] (aM f36)with
 | .region _ ops _=>ops
 | _=>#[]
def uB:kV.size=9:=aS
def rq{i:Nat}{o o':Oper}(h:kV[i]?=some o)(h':kV[i]?=some o'):o=o':=cI (h.symm.trans h')
def bI0:∀i o,kV[i]?=some o->∀j∈bQ o,j<i:=by
 intro i o ho;have hi:i<9:=by rw[<-uB];exact(cJ.1 ho).1
 have h:(List.range 9).all (fun i=>match kV[i]? with | some o=>(bQ o).all (fun j=>decide (j<i)) | none=>true)=true:=aS
 have h1:=fS.1 h i (fO.2 hi);rw[ho]at h1;intro j hj;exact wU (fS.1 h1 j hj)
abbrev cv6(g k n cap:Nat):Value:=.slice (some ⟨g,(k+2)*3,none⟩) (n-(k+2)) (cap-(k+2))
def aJ3(M:c6)(W:World)(kn:c4)(v0 v8:Value)(g k n cap:Nat):Nat->Option (Nat×(Value->Prop))
 | 0=>some (158,(· = v8)) | 1=>some (159,(· = .int .i64 (k:Int))) | 2=>some (160,(· = .int .i64 ((k:Int)+2))) | 3=>some (161,(· = cv6 g k n cap))
 | 4=>some (162,(· = v0)) | 5=>some (163,(· = .int .i64 (k:Int))) | 6=>some (164,(· = .int .i64 ((k:Int)+1))) | 7=>some (165,fun v=>(aC.slice 3 (rQ (kn.drop (k+1)))).rep M W v)
 | _=>none
def aY7{M:c6}{W:World}{kn:c4}{v0 v8:Value}{g k n cap i d:Nat}{p:Value->Prop}(h:aJ3 M W kn v0 v8 g k n cap i=some (d,p)):d=158+i/\i<8:=by
 match i,h with
 | 0,h=>cases h;exact⟨rfl,O⟩
 | 1,h=>cases h;exact⟨rfl,O⟩
 | 2,h=>cases h;exact⟨rfl,O⟩
 | 3,h=>cases h;exact⟨rfl,O⟩
 | 4,h=>cases h;exact⟨rfl,O⟩
 | 5,h=>cases h;exact⟨rfl,O⟩
 | 6,h=>cases h;exact⟨rfl,O⟩
 | 7,h=>cases h;exact⟨rfl,O⟩
def WQ{W:World}{a:Act}{K:j4}{Q:iN}{o:Oper}{x y:j6}{p q:Int}(ho:o.op=.binOp .add 3 x y 3)(hx:a.eval x=.int .i64 p)(hy:a.eval y=.int .i64 q)(h1:-9223372036854775808<=p+q)(h2:p+q<9223372036854775808)(hK:K (a.put o.dst (.int .i64 (p+q))) W):o.wp prog a W K Q:=by
 obtain⟨v,h,hv⟩:=aB (T:=3) (U:=3) (x:=x) (y:=y) (ty:=o.type) h1 h2 (fun _=>False) W a.eval o ho rfl ⟨⟨hx,rfl⟩,⟨hy,rfl⟩,trivial⟩;obtain rfl:v=.int .i64 (p+q):=hv.1;exact bF h hK
def ay3{W:World}{a:Act}{K:j4}{Q:iN}{o:Oper}{x y:j6}{g l n cap:Nat}(ho:o.op=.slice 28 x (some y) none none)(hx:a.eval x=.slice (some ⟨g,0,none⟩) n cap)(hy:a.eval y=.int .i64 (l:Int))(hl:l<n)(hn:n<=cap)(hK:K (a.put o.dst (.slice (some ⟨g,l*3,none⟩) (n-l) (cap-l))) W):o.wp prog a W K Q:=by
 obtain⟨ie,hu,hie,hies,_⟩:=br bX;have hin:(0:Int)<=(l:Int)/\(l:Int)<=(n:Int):=⟨O,O⟩
 have hr:(execOp a.eval o).run prog W=.ok (.value (.slice (some ⟨g,l*3,none⟩) (n-l) (cap-l))) W:=by
  have h1:¬(cap-l=0):=O
  simp[execOp,ho,hx,hy,Instr.sliceAt,Instr.slice,Instr.sliceBounds,Instr.sliceBound,asIntOf,er hu,sizeOf,typeInfo,hie,hies,hin,Addr.add];rw[aF (show l<=n by omega),aG (show ¬cap=l by omega)];by_cases h0:l*3=0
  .rw[aF h0,h0]
  .rw[aG h0]
 exact bF hr hK
def aA5{W W':World}{a:Act}{K:j4}{Q:iN}{o:Oper}{x y:j6}{d v r:Value}(ho:o.op=.call { callee:=.builtin .copy,args:=#[x,y],argTypes:=#[28,28] })(hx:a.eval x=d)(hy:a.eval y=v)(hrun:(Builtin.copy_ #[28,28] o.type #[d,v]).run prog W=.ok r W')(hK:K (a.put o.dst r) W'):o.wp prog a W K Q:=by
 refine bF (v:=r) (w':=W') ?_ hK;simp[execOp,ho,resolve,invoke,builtin,hx,hy,hrun,Result.andThen]
def ZB{M:c6}{W:World}{a:Act}{K:j4}{Q:iN}{o:Oper}{x y:j6}{l:c4}{m:Nat}{z:Int}(ho:o.op=.slice 28 x (some y) none none)(hx:(aC.slice 3 (rQ l)).rep M W (a.eval x))(hy:a.eval y=.int .i64 z)(hm:0<=z/\z.toNat=m/\m<=l.length)(hK:∀v,(aC.slice 3 (rQ (l.drop m))).rep M W v->K (a.put o.dst v) W):o.wp prog a W K Q:=by
 obtain⟨v,h,hv⟩:=XH (f:=qC) (ds:=l) (x:=x) (y:=y) (ty:=o.type) (k:=.i64) (n:=z) bX hm.1 hm.2.1 hm.2.2 M W a.eval o ho rfl ⟨hx,⟨hy,rfl⟩,trivial⟩;exact bF h (hK v hv)
def aa9(M:c6)(W1:World)(hF:bf M W1)(a1:Act)(kn:c4)(g k cap:Nat)(cur:iS)(v0:Value)(hn:kn.length<=60)(hcap:kn.length+1<=cap)(hcm:cap<=maxLen)
  (hg:W1.heap[g]?=some (.cells cur 46 (0,0))) (hcs:cur.size=cap*3) (hsz:a1.tmps.size=169) (hdf:a1.defers=[]) (t8:a1.tmps.getD 8 undef=.slice (some ⟨g,0,none⟩) (kn.length+1) cap) (t14:a1.tmps.getD 14 undef=.int .i64 (k:Int)) (t0:a1.tmps.getD 0 undef=v0) (h0:(aC.slice 3 (rQ kn)).rep M W1 v0) (K:iN)
  (hK:∀(a':Act)(W2:World)(news:j0),a'.tmps.size=169->a'.defers=[]->a'.tmps.getD 8 undef=a1.tmps.getD 8 undef->a'.tmps.getD 9 undef=a1.tmps.getD 9 undef->W1.grownBy W2 (some g)->news.length=(kn.length-(k+1))*3->an M W1 (rQ (kn.drop (k+1))).flatten news ->
   W2.heap[g]?=some (.cells (cur.toList.take ((k+2)*3)++news++cur.toList.drop ((k+2)*3+news.length)).toArray 46 (0,0))->K .normal a' W2) (hk:k+1<kn.length:=by omega):(Code.region 30 kV true).wp prog K a1 W1:=by
 obtain⟨Wd,hWd⟩:∃Wd:World,{ W1 with drawn:=W1.drawn+1 } = Wd:=⟨_,rfl⟩
 have hb:Below W1.heap.size W1 Wd:=by rw[<-hWd];exact⟨rfl,rfl,rfl,ah _,fun _ _=>rfl⟩
 have hgd:Wd.heap[g]?=some (.cells cur 46 (0,0)):=by rw[<-hWd];exact hg
 have hkd:∀q:Nat,Wd.heap[q]?=W1.heap[q]?:=fun q=>by rw[<-hWd]
 have hFd:=aW hF hb;have h0d:=aC.mono _ (av.below (M:=M) hb) h0;refine BD fo ?_;rw[hWd];refine wE (fun L a W=>(L 8=false/\PI (aJ3 M Wd kn v0 (.slice (some ⟨g,0,none⟩) (kn.length+1) cap) g k (kn.length+1) cap) 169 a1 Wd L a W)\/(L 8=true/\K .normal a W)) ?_ bI0 ?_ _ _ _ _ aT ?_ (bG (uT _ _) aT) ?_
 .intro L i o a W ho hL hdep hcl hI;have hi:i<9:=by rw[<-uB];exact(cJ.1 ho).1
  have h8f:L 8=false:=by
   cases h8:L 8 with
   | false=>rfl
   | true=>
     have hall:∀j,j<8->L j=true:=by
      have d3:=hcl 8 _ rfl h8 3 bY;have d7:=hcl 8 _ rfl h8 7 bY;have d0:=hcl 3 _ rfl d3 0 bY;have d2:=hcl 3 _ rfl d3 2 bY;have d1:=hcl 2 _ rfl d2 1 bY;have d4:=hcl 7 _ rfl d7 4 bY;have d6:=hcl 7 _ rfl d7 6 bY;have d5:=hcl 6 _ rfl d6 5 bY;intro j hj
      match j,hj with
      | 0,_=>exact d0
      | 1,_=>exact d1
      | 2,_=>exact d2
      | 3,_=>exact d3
      | 4,_=>exact d4
      | 5,_=>exact d5
      | 6,_=>exact d6
      | 7,_=>exact d7
     by_cases e:i=8
     .subst e;rw[hL]at h8;cases h8
     .rw[hall i O]at hL;cases hL
  have I:=(hI.resolve_right fun h=>by rw[h8f]at h;cases h.1).2;clear hI;obtain rfl:W=Wd:=I.w;have kp:∀t,t<158->a.tmps.getD t undef=a1.tmps.getD t undef:=fun t ht=>I.dJ t fun i d p h=>by have:=aY7 h;omega
  have inj:∀{i d:Nat},d=158+i->∀j e q,aJ3 M W kn v0 (.slice (some ⟨g,0,none⟩) (kn.length+1) cap) g k (kn.length+1) cap j=some (e,q)->e=d->j=i:=fun hd j e q h he=>by have:=aY7 h;omega
  have go:∀{i:Nat}{p:Value->Prop}{v:Value},i<8->aJ3 M W kn v0 (.slice (some ⟨g,0,none⟩) (kn.length+1) cap) g k (kn.length+1) cap i=some (158+i,p)->p v->(Lx L i 8=false/\PI (aJ3 M W kn v0 (.slice (some ⟨g,0,none⟩) (kn.length+1) cap) g k (kn.length+1) cap) 169 a1 W (Lx L i) (a.put (some (158+i)) v) W)\/(Lx L i 8=true/\K .normal (a.put (some (158+i)) v) W):=fun {i p v} hi h hp=>.inl ⟨by
   have e:(8==i)=false:=b6
   simp[Lx,h8f,e],I.put h O (inj rfl) hp⟩
  match i,hi with
  | 0,_=>
    obtain rfl:=rq ho (rfl:kV[0]?=some _);exact dY ho rfl (bF rfl (go (i:=0) O rfl ((kp 8 O).trans t8)))
  | 1,_=>
    obtain rfl:=rq ho (rfl:kV[1]?=some _);exact dY ho rfl (bF rfl (go (i:=1) O rfl ((kp 14 O).trans t14)))
  | 2,_=>
    obtain rfl:=rq ho (rfl:kV[2]?=some _);have h1:=I.done 1 159 _ rfl (hdep 1 bY);exact dY ho rfl (WQ (p:=(k:Int)) (q:=2) rfl h1 rfl O O (go (i:=2) O rfl rfl))
  | 3,_=>
    obtain rfl:=rq ho (rfl:kV[3]?=some _);have h1:=I.done 0 158 _ rfl (hdep 0 bY);have h2:=I.done 2 160 _ rfl (hdep 2 bY);refine dY ho rfl (ay3 (l:=k+2) rfl h1 h2 O hcap (go (i:=3) O rfl rfl))
  | 4,_=>
    obtain rfl:=rq ho (rfl:kV[4]?=some _);exact dY ho rfl (bF rfl (go (i:=4) O rfl ((kp 0 O).trans t0)))
  | 5,_=>
    obtain rfl:=rq ho (rfl:kV[5]?=some _);exact dY ho rfl (bF rfl (go (i:=5) O rfl ((kp 14 O).trans t14)))
  | 6,_=>
    obtain rfl:=rq ho (rfl:kV[6]?=some _);have h1:=I.done 5 163 _ rfl (hdep 5 bY);exact dY ho rfl (WQ (p:=(k:Int)) (q:=1) rfl h1 rfl O O (go (i:=6) O rfl rfl))
  | 7,_=>
    obtain rfl:=rq ho (rfl:kV[7]?=some _);have h1:=I.done 4 162 _ rfl (hdep 4 bY);have h2:=I.done 6 164 _ rfl (hdep 6 bY);refine dY ho rfl (ZB (M:=M) (l:=kn) (m:=k+1) rfl ?_ h2 O fun v hv=>go (i:=7) O rfl hv);show(aC.slice 3 (rQ kn)).rep M W (a.tmps.getD 162 undef);rw[h1];exact h0d
  | 8,_=>
    obtain rfl:=rq ho (rfl:kV[8]?=some _);have h3:=I.done 3 161 _ rfl (hdep 3 bY);have h7:(aC.slice 3 (rQ (kn.drop (k+1)))).rep M W (a.tmps.getD 165 undef):=I.done 7 165 _ rfl (hdep 7 bY);have hdl:(rQ (kn.drop (k+1))).length=kn.length-(k+1):=by rw[aL,dF]
    obtain⟨ie,hu,hie,hies,_⟩:=br bX;have hsz3:(prog.info? 46).map (·.size)=some 3:=by rw[hie];simp[hies]
    have hS:=rE h7;refine dY ho rfl ?_;cases hS with
    | nil c hv hus=>rw[hus]at hdl;simp at hdl;omega
    | some ad c news hv hl hnn hr hs3=>
      have hmin:Nat.min (rQ (kn.drop (k+1))).length (kn.length+1-(k+2))=kn.length-(k+1):=by rw[hdl];exact de O
      have hrun:=fun ty=>vK (P:=prog) W 28 28 ty 46 g ((k+2)*3) (kn.length+1-(k+2)) (cap-(k+2)) ad (rQ (kn.drop (k+1))).length c cur 46 news 3 hu hsz3 hgd (by rw[hmin,hl,hdl]) hnn (by rw[hl,hdl];omega) hr.one;rw[hmin]at hrun;have hx:a.eval (.tmp 161)=cv6 g k (kn.length+1) cap:=h3;have hy:a.eval (.tmp 165)=_:=hv;refine aA5 rfl hx hy (hrun _) (.inr ⟨by simp[Lx],?_⟩)
      .have hg9:∀(z:Int)(d':Nat),d'≠166->(a.put (some 166) (goInt z)).tmps.getD d' undef=a.tmps.getD d' undef:=fun z d' hd'=>by rw[oQ (by rw[I.sz];omega),aG hd']
       refine hK _ _ news (by show(a.tmps.setIfInBounds _ _).size=169;rw[ue];exact I.sz) I.df ((hg9 _ 8 O).trans (kp 8 O)) ((hg9 _ 9 O).trans (kp 9 O)) ?_ (by rw[hl,hdl]) (hr.mono fun q o hq ho _=>⟨hq,by rw[<-hkd];exact ho⟩) (iV W _ _ _ _ _ hgd);exact⟨hb.os,hb.tape,hb.output,by rw[show(W.setRow g (cur.toList.take ((k+2)*3)++news++cur.toList.drop ((k+2)*3+news.length)).toArray).heap.size=W.heap.size by simp];exact hb.size,fun q hq hne=>(ew W g q _ (by rintro rfl;exact hne rfl)).trans (hkd q)⟩
 .rintro L a W hall (⟨h,_⟩ | ⟨_,h⟩)
  .rw[hall 8 (by rw[uB];omega)]at h;cases h
  .exact h
 .intro j o' ho hj;rw[ia]at hj;cases hj
 .refine .inl ⟨ia _ _,hsz,hdf,rfl,fun t _=>rfl,fun i d p h hL=>?_⟩;rw[ia]at hL;cases hL
end Go.Sy
namespace Go.Sy
open Go Go.Proofs Go.RowKit Tryz Ord
attribute [local go_sem] Oper.semAt_some
def HU:Tr:=.ret [(W 0 0),(W 1 0),(WK (0))]
def Vy:aj prog 169 (fun _=>none) (aH [1,1,1,1,1,1,1,1,1,1,1,1,1,1,0] (aM f36)) [(8,.v none),(9,.v none)] ([8,9,10].map ResultVar.tmp) none false=HU:=aS
def bU3(u v:Value):vc prog (fun o=>bD o (.ret [.one (.exact u),.one (.exact v),.one (.int .i64 0)])) (aj prog 169 (fun _=>none) (aH [1,1,1,1,1,1,1,1,1,1,1,1,1,1,0] (aM f36)) [(8,.v none),(9,.v none)] ([8,9,10].map ResultVar.tmp) none false) ([.v (.one (.exact u)),.v (.one (.exact v))].map In.env) []:=by
 rw[Vy];dsimp only[List.map,In.env,aU,aV];exact aR
def bq5(l:c4):(rQ l).flatten.length=l.length*3:=by
 induction l with
 | nil=>rfl
 | cons a l ih=>
   show(qC a++(rQ l).flatten).length=_;rw[cF,ih];show 3+l.length*3=(l.length+1)*3;omega
set_option maxHeartbeats 1000000 in
def az3(kn cf:c4)(x:Rat)(d k A:Nat)(hA1:62<=A)(hA:A<=1000000)(hk:∀a∈kn,Fit A a)(hc:∀a∈cf,Fit A a)(hx:Fit A x)(F:Fra kn d)(h60:kn.length≠60)(hcl:cf.length=kn.length-d-1)(hx1:0<jM x (kn.getD d 0))(hx2:jM x (kn.getD (kn.length-1-d) 0)<0)
  (hat:nG (fun a=>decide (0<jM a x)) kn 0=((k+1:Nat):Int)) (hk1:k+d+1<kn.length) (hk2:d<=k) (hm:mulN kn x kn.length<=d) :
  aX prog 36 [.one (sQ kn),.one (.int .i64 (d:Int)),.one (sQ cf),qT x] (.ret [.one (sQ (kn.take (k+1)++[x]++kn.drop (k+1))),.one (sQ (vm kn cf x d k (mulN kn x kn.length) (cf.length+1))),.one (.int .i64 0)]):=by
 refine⟨ay aS,fun M w vs hM hv=>?_⟩;have hs:=F.hs;obtain⟨n,hn⟩:∃n,kn.length=n:=⟨_,rfl⟩
 match vs,hv with
 | [v0,v1,v2,v3],hv=>
   refine kH func36 rfl ?_;simp only[ntmps36,cq,bB,bu,Nat.reduceAdd,Nat.reduceSub,eE,eF,eJ,eI,List.nil_append,List.cons_append];refine Ux (n:=9) (N:=169) (ins:=[(0,.v none),(1,.v none),(2,.v none),(3,.v (some 3))]) (xs:=[.v (.one (sQ kn)),.v (.one (.int .i64 (d:Int))),.v (.one (sQ cf)),.v (qT x)]) fo ⟨rfl,rfl,rfl,rfl,trivial⟩ (bS5 kn cf x d k A hA1 hA hk hc hx F h60 hcl hx1 hx2 hat hk1 hk2 hm) aS hM rfl rfl hv ?_ (by intro c v a' w' h;cases h);intro e a1 w1 rs us hrs hex hb1 hsz1 hdf1 hr1 hrep1;cases hrs;cases e with
   | exit id=>cases hex
   | ret=>cases hex
   | normal=>
   have huse:=bA hr1;subst huse;obtain⟨e0,e7,e8,e9,e14,_⟩:=hrep1;have e0:(aC.slice 3 (rQ kn)).rep M w1 (a1.tmps.getD 0 undef):=e0;have e7:(aC.aw (qC x)).rep M w1 (a1.tmps.getD 7 undef):=e7;have t8:a1.tmps.getD 8 undef=.slice none 0 0:=e8.1;have e9:(aC.slice 3 (rQ (vm kn cf x d k (mulN kn x kn.length) (cf.length+1)))).rep M w1 (a1.tmps.getD 9 undef):=e9;have t14:a1.tmps.getD 14 undef=.int .i64 (k:Int):=e14.1;have hM1:bf M w1:=aW hM hb1;clear hr1 hex e8 e14 hv;show Code.wp _ (xB 9 _) _ _ _;simp only[xB];have hor1:(fun k=>M k\/(Value.slice none 0 0).ownBlock=some k)=M:=funext fun k=>propext ⟨fun h=>h.elim id (fun e=>by cases e),.inl⟩;refine bU (uK jN.wp (N:=169) (t0:=8) (E:=46) (sz:=3) (tr:=8) (ts:=[]) (base:=0) (v:=.slice none 0 0) (vs:=[]) (ins:=[(0,.v none)]) (xs:=[.v (.one (sQ kn))]) fo ⟨rfl,trivial⟩ (bY8 n kn hn) aS (by rw[hor1];exact hM1) (fun k _ e=>by cases e) hsz1 hdf1 (by rw[hor1];exact⟨e0,trivial⟩) t8 (pY _ _ _ _) (fun t ht=>by cases ht) trivial ?_);intro a2 w2 us2 u2 xs2 hag2 hg2 hsz2 hdf2 hr2 ht2 hown2 hfr2 _ hrep2;have hb2:Below w1.heap.size w1 w2:=⟨hg2.os,hg2.tape,hg2.output,hg2.size,fun j hj=>hg2.block j hj (by intro e;cases e)⟩
   have hfr2':∀q,u2.ownBlock=some q->w1.heap.size<=q:=fun q hq=>(hfr2 q hq).elim id (fun e=>by cases e)
   have hk2':av M w1 (fun q=>M q\/u2.ownBlock=some q) w2:=fun q o hq ho _=>by
    have hlt:=(cJ.1 ho).1;exact⟨fun h=>h.elim hq (fun e=>by have:=hfr2' q e;omega),(hb2.block q hlt).trans ho⟩
   have hM2:bf (fun q=>M q\/u2.ownBlock=some q) w2:=⟨fun q hq=>hq.elim (fun h=>cM (hM1.1 q h) hb2.size) (fun e=>(hown2.lt q e).2),hM1.2.dJ hk2'⟩
   have hMd2:∀q,M q->u2.ownBlock≠some q:=fun q hq e=>by have:=hfr2' q e;have:=hM1.1 q hq;omega
   replace e0:=aC.mono _ hk2' e0;replace e7:=aC.mono _ hk2' e7;replace e9:=aC.mono _ hk2' e9;rw[<-aO hag2 0 aS]at e0;rw[<-aO hag2 7 aS]at e7;rw[<-aO hag2 9 aS]at e9;replace t14:=(aO hag2 14 aS).trans t14;have hB2:Below w.heap.size w w2:=hb1.trans (hb2.mono hb1.size);have hn2:∀q,u2.ownBlock=some q->w.heap.size<=q:=fun q hq=>bG hb1.size (hfr2' q hq);clear hag2 hr2 hk2' hfr2 hfr2' hsz1 hdf1 t8 hor1;show Code.wp _ _ _ _ _;refine bU (uK jN.wp (N:=169) (t0:=8) (E:=46) (sz:=3) (tr:=8) (ts:=List.replicate (n+1) z3) (ins:=[(0,.v none),(14,.v none)]) (xs:=[.v (.one (sQ kn)),.v (.one (.int .i64 (k:Int)))]) fo ⟨rfl,rfl,trivial⟩ (cb3 n k kn hn) aS hM2 hMd2 hsz2 hdf2 ⟨e0,⟨t14,rfl⟩,trivial⟩ ht2 hown2 (fun t ht=>by rw[(kL.1 ht).2];rfl) hrep2 ?_);intro a3 w3 us3 u3 xs3 hag3 hg3 hsz3 hdf3 hr3 ht3 hown3 hfr3 _ hrep3
   have step:∀{w2 w3:World}{u2 u3:Value},w2.grownBy w3 u2.ownBlock->(∀q,u3.ownBlock=some q->w2.heap.size<=q\/u2.ownBlock=some q)->bf (fun q=>M q\/u2.ownBlock=some q) w2->(∀q,M q->u2.ownBlock≠some q)->Below w.heap.size w w2->(∀q,u2.ownBlock=some q->w.heap.size<=q)->(∀q,u3.ownBlock=some q->q<w3.heap.size) ->
     av (fun q=>M q\/u2.ownBlock=some q) w2 (fun q=>M q\/u3.ownBlock=some q) w3/\bf (fun q=>M q\/u3.ownBlock=some q) w3/\(∀q,M q->u3.ownBlock≠some q)/\Below w.heap.size w w3/\(∀q,u3.ownBlock=some q->w.heap.size<=q):=by
    intro w2 w3 u2 u3 hg hfr hF hd hB hn2 hlt3
    have hk:av (fun q=>M q\/u2.ownBlock=some q) w2 (fun q=>M q\/u3.ownBlock=some q) w3:=fun q o hq ho _=>by
     have hlt:=(cJ.1 ho).1;exact⟨fun h=>h.elim (fun h=>hq (.inl h)) (fun e=>(hfr q e).elim (fun h=>O) (fun h=>hq (.inr h))),(hg.block q hlt fun e=>hq (.inr e.symm)).trans ho⟩
    refine⟨hk,⟨fun q hq=>hq.elim (fun h=>cM (hF.1 q (.inl h)) hg.size) (hlt3 q),hF.2.dJ hk⟩,fun q hq e=>(hfr q e).elim (fun h=>by have:=hF.1 q (.inl hq);omega) (fun h=>hd q hq h),⟨hg.os.trans hB.os,hg.tape.trans hB.tape,hg.output.trans hB.output,bG hB.size hg.size,fun q hq=>(hg.block q (by have:=hB.size;omega) fun e=>by have:=hn2 q e.symm;omega).trans (hB.block q hq)⟩,fun q e=>(hfr q e).elim (fun h=>bG hB.size h) (hn2 q)⟩
   obtain⟨hk3,hM3,hMd3,hB3,hn3⟩:=step hg3 hfr3 hM2 hMd2 hB2 hn2 (fun q e=>(hown3.lt q e).2);replace e0:=aC.mono _ hk3 e0;replace e7:=aC.mono _ hk3 e7;replace e9:=aC.mono _ hk3 e9;rw[<-aO hag3 0 aS]at e0;rw[<-aO hag3 7 aS]at e7;rw[<-aO hag3 9 aS]at e9;replace t14:=(aO hag3 14 aS).trans t14;have hl3:∀t∈rQ (kn.take (k+1))++List.replicate (n-k) z3,t.length=3:=fun t ht=>(dx.1 ht).elim (rI t) fun h=>by rw[(kL.1 h).2];rfl
   clear hag3 hr3 hk3 hfr3 hg3 hM2 hMd2 hB2 hn2 hown2 hrep2 ht2 hsz2 hdf2 hg2 hb2;show Code.wp _ _ _ _ _;refine bU (uK jN.wp (N:=169) (t0:=8) (E:=46) (sz:=3) (tr:=8) (ts:=rQ (kn.take (k+1))++List.replicate (n-k) z3) (ins:=[(14,.v none),(7,.ref 3)]) (xs:=[.v (.one (.int .i64 (k:Int))),.ref (qC x)]) fo ⟨rfl,rfl,trivial⟩ (bN6 n k kn x hn) aS hM3 hMd3 hsz3 hdf3 ⟨⟨t14,rfl⟩,e7,trivial⟩ ht3 hown3 hl3 hrep3 ?_);intro a4 w4 us4 u4 xs4 hag4 hg4 hsz4 hdf4 hr4 ht4 hown4 hfr4 _ hrep4;obtain⟨hk4,hM4,hMd4,hB4,hn4⟩:=step hg4 hfr4 hM3 hMd3 hB3 hn3 (fun q e=>(hown4.lt q e).2);replace e0:=aC.mono _ hk4 e0;replace e9:=aC.mono _ hk4 e9;rw[<-aO hag4 0 aS]at e0;rw[<-aO hag4 9 aS]at e9;replace t14:=(aO hag4 14 aS).trans t14;clear hag4 hr4 hk4 hfr4 hg4 hM3 hMd3 hB3 hn3 hown3 hrep3 ht3 hsz3 hdf3 e7 step hl3
   have hlen:(rQ (kn.take (k+1)++[x])++List.replicate (n-k-1) z3).length=n+1:=by
    rw[cF,aL,cF,bh,dU,Cw];omega
   rw[hlen]at hown4;rcases hown4.2 with⟨_,h0⟩ | ⟨g,cap,cur,rfl,_,hgb,hnc,hcm,hcs,htake⟩
   .omega
   have hob:∀q,(Value.slice (some ⟨g,0,none⟩) (n+1) cap).ownBlock=some q↔q=g:=fun q=>by simp[Value.ownBlock,pH]
   have hMg:¬M g:=fun h=>hMd4 g h rfl;have hgn:=hn4 g rfl;subst hn;show Code.wp _ _ _ _ _;refine bU (aa9 (fun q=>M q\/(Value.slice (some ⟨g,0,none⟩) (kn.length+1) cap).ownBlock=some q) w4 hM4 a4 kn g k cap cur _ hs hnc hcm hgb hcs hsz4 hdf4 ht4 t14 rfl e0 _ ?_);intro a5 w5 news hsz5 hdf5 q8 q9 hg5 hnl hnr hc5;have hk5:=iP (D:=fun q=>M q\/(Value.slice (some ⟨g,0,none⟩) (kn.length+1) cap).ownBlock=some q) (.inr rfl) hg5;have hM5:bf (fun q=>M q\/(Value.slice (some ⟨g,0,none⟩) (kn.length+1) cap).ownBlock=some q) w5:=⟨fun q hq=>cM (hM4.1 q hq) hg5.size,hM4.2.dJ hk5⟩
   replace e9:=aC.mono _ hk5 e9;rw[<-q9]at e9;have hB5:Below w.heap.size w w5:=⟨hg5.os.trans hB4.os,hg5.tape.trans hB4.tape,hg5.output.trans hB4.output,bG hB4.size hg5.size,fun q hq=>(hg5.block q (by have:=hB4.size;omega) fun e=>by have:=cI e;omega).trans (hB4.block q hq)⟩
   have u8:=q8.trans ht4;show Code.wp _ _ _ _ _;refine bU (bV jN.wp (n0:=w5.heap.size) (N:=169) (ins:=[(8,.v none),(9,.v none)]) (xs:=[.v (.one (.exact (a5.tmps.getD 8 undef))),.v (.one (.exact (a5.tmps.getD 9 undef)))]) fo ⟨rfl,rfl,trivial⟩ (tg (bU3 _ _)) aS (ah _) hM5 hsz5 hdf5 ⟨⟨rfl,by rw[u8];rfl⟩,⟨rfl,aC.one _ e9⟩,trivial⟩ ?_);intro a6 w6 us6 hag6 hb6 hsz6 hdf6 hr6 hrep6;have hres:=gN f36 a6.tmps us6 hr6
   match us6,hrep6 with
   | [x8,x9,x10],hrep6=>
     obtain⟨⟨hx8,_⟩,⟨hx9,_⟩,⟨hx10,_⟩,_⟩:=hrep6;replace hx8:=hx8.trans u8;subst hx8;have h6:=av.below (M:=fun q=>M q\/(Value.slice (some ⟨g,0,none⟩) (kn.length+1) cap).ownBlock=some q) hb6;have hglt:g<w5.heap.size:=(cJ.1 hc5).1;have hkl:kn.length-(k+1)+(k+2)=kn.length+1:=O
     have hcl:cur.toList.length=cap*3:=by rw[cK,hcs]
     have hm3:(k+2)*3+news.length=(kn.length+1)*3:=by rw[hnl];omega
     have hc3:(kn.length+1)*3<=cap*3:=cY _ hnc;refine rW ?_;refine gB hres hdf6 ⟨hB5.trans (hb6.mono hB5.size),[_,x9,x10],rfl,?_,?_,⟨hx10,by subst hx10;rfl⟩,trivial⟩
     .show(aC.slice 3 (rQ (kn.take (k+1)++[x]++kn.drop (k+1)))).rep M w6 (.slice (some ⟨g,0,none⟩) (kn.length+1) cap);have hLl:(rQ (kn.take (k+1)++[x]++kn.drop (k+1))).length=kn.length+1:=by rw[aL,cF,cF,bh,dF,Cw];omega
      have hkk:av (fun q=>M q\/(Value.slice (some ⟨g,0,none⟩) (kn.length+1) cap).ownBlock=some q) w4 (Mb M g) w6:=fun q o hq ho hc=>by
       obtain⟨k1,k2⟩:=hk5 q o hq ho hc;obtain⟨k3,k4⟩:=h6 q o k1 k2 hc;exact⟨fun h=>hq (h.imp id (hob q).2),k4⟩
      refine aC.own.slice (n0:=0) (E:=46) ⟨g,cap,_,by rw[hLl],dM _,hMg,(hb6.block g hglt).trans hc5,by rw[hLl];exact hnc,hcm,?_,rI,?_⟩
      .rw[cq,cF,cF,bh,dF,hcl];omega
      .rw[hLl];have htk:List.take ((kn.length+1)*3) (cur.toList.take ((k+2)*3)++news++cur.toList.drop ((k+2)*3+news.length))=cur.toList.take ((k+2)*3)++news:=List.take_left' (by rw[cF,bh,hcl];omega);show an (Mb M g) w6 _ (List.take ((kn.length+1)*3) (cur.toList.take ((k+2)*3)++news++cur.toList.drop ((k+2)*3+news.length)));rw[htk,show rQ (kn.take (k+1)++[x]++kn.drop (k+1))=rQ (kn.take (k+1)++[x])++rQ (kn.drop (k+1))from cG,lH];refine an.append ?_ (hnr.mono fun q o hq ho hc=>hkk q o hq ho hc);have h1:=hrep4.take ((k+2)*3);rw[lH,List.take_left' (by rw[bq5,cF,bh,Cw];omega),<-htake,jh,de O]at h1;exact h1.mono fun q o hq ho hc=>hkk q o hq ho hc
     .show(aC.slice 3 (rQ (vm kn cf x d k (mulN kn x kn.length) (cf.length+1)))).rep M w6 x9;rw[hx9];exact xL (aC.mono _ h6 e9) fun q hq=>.inl hq
   | [],h=>exact h.elim
   | [_],h=>exact h.2.elim
   | [_,_],h=>exact h.2.2.elim
   | _::_::_::_::_,h=>exact h.2.2.2.elim
 | [],h=>exact h.elim
 | [_],h=>exact h.2.elim
 | [_,_],h=>exact h.2.2.elim
 | [_,_,_],h=>exact h.2.2.2.elim
 | _::_::_::_::_::_,h=>exact h.2.2.2.2.elim
end Go.Sy
namespace Go.Sy
open Go Go.Proofs Tryz Ord
instance (A:Nat) (a:Rat):Decidable (Fit A a):=by unfold Fit;infer_instance
instance (D S:Nat) (a:Rat):Decidable (Bd D S a):=by unfold Bd;infer_instance
def XV(p:c4)(c:Rat)(h:(∀a∈p,Bd 2 100 a)/\Bd 1 2 c/\p.length<=4)(hX:xR 2 1 100 2 4<2^200):aX prog 205 [.one (sQ p),qT c] (.ret [.one (sQ (vj p c))]):=
 Vr p c 2 1 100 2 4 200 h.1 h.2.1 h.2.2 hX
def ao6:xR 2 1 100 2 4<2^200:=b7
def bz8:∀k,k<=3->gA 62 k<=1000000000:=b7
def cc8:aX prog 49 [.one (sQ [0,1,2]),.one (sQ [0,1,0])] (.ret [.agg (tA [0,1,2] [[0,3/2,0,-1/2],[-1,9/2,-3,1/2]]),.one (.int .i64 0)]):=by
 have h:=DX [0,1,2] [0,1,0] [0,-3,0] 62 62 O O b7 b7 b7 bY bY rfl rfl b7 ⟨b7,b7⟩ O bz8 b7 (fun i hi=>XV _ _ (by
  have hi:i<2:=by have:i+1<3:=hi;omega
  match i,hi with
  | 0,_=>decide +kernel
  | 1,_=>decide +kernel) ao6)
 rwa[show(List.range (([0,1,2]:List Rat).length-1)).map (jG [0,1,2] [0,1,0] [0,-3,0])=[[0,3/2,0,-1/2],[-1,9/2,-3,1/2]] by decide +kernel]at h
def bE3:aX prog 50 [.one (sQ [0,1]),.one (sQ [0,1]),qT 0,qT 0] (.ret [.agg (tA [0,1] [[0,0,3,-2]]),.one (.int .i64 0)]):=by
 have h:=EE [0,1] [0,1] [6,-6] 0 0 62 62 O O b7 b7 b7 b7 b7 bY bY rfl rfl b7 ⟨b7,b7⟩ O (fun k hk=>bz8 k (by have:k<=2:=hk;omega)) b7 (fun i hi=>XV _ _ (by
  have hi:i<1:=by have:i+1<2:=hi;omega
  match i,hi with
  | 0,_=>decide +kernel) ao6)
 rwa[show(List.range (([0,1]:List Rat).length-1)).map (jG [0,1] [0,1] [6,-6])=[[0,0,3,-2]] by decide +kernel]at h
def cb9:Fra [0,0,1,2,2] 1:=⟨bY,bY,bY,b7,fun j h1 h2=>by
  have h2:j<5:=h2
  match j,h1,h2 with
  | 2,_,_=>decide +kernel
  | 3,_,_=>decide +kernel
  | 4,_,_=>decide +kernel,b7,b7⟩
def bN4:aX prog 34 [.one (sQ [0,0,1,2,2]),.one (.int .i64 1),.one (.int .i64 1)] (.ret [.agg (tA [0,1,2] [[0,1],[2,-1]]),.one (.int .i64 0)]):=by
 have h:=aK6 [0,0,1,2,2] 1 1 62 O b7 cb9 bY b7;rw[show(yR [0,0,1,2,2] 1 (([0,0,1,2,2]:List Rat).length-1-1)).map (fun t=>([0,0,1,2,2]:List Rat).getD t 0)++[([0,0,1,2,2]:List Rat).getD (([0,0,1,2,2]:List Rat).length-1-1) 0]=[0,1,2] by decide +kernel,show(yR [0,0,1,2,2] 1 (([0,0,1,2,2]:List Rat).length-1-1)).map (zA [0,0,1,2,2] 1 (aI2 [0,0,1,2,2] 1 1))=[[0,1],[2,-1]] by decide +kernel]at h;exact h
def bV1:Fra [0,0,1,1] 1:=⟨bY,bY,bY,b7,fun j h1 h2=>by
  have h2:j<4:=h2
  match j,h1,h2 with
  | 2,_,_=>decide +kernel
  | 3,_,_=>decide +kernel,b7,b7⟩
def bI4:aX prog 36 [.one (sQ [0,0,1,1]),.one (.int .i64 1),.one (sQ [2,4]),qT (1/2)] (.ret [.one (sQ [0,0,1/2,1,1]),.one (sQ [2,3,4]),.one (.int .i64 0)]):=by
 have h:=az3 [0,0,1,1] [2,4] (1/2) 1 1 62 O O b7 b7 b7 bV1 bY rfl b7 b7 b7 bY bY b7;rw[show([0,0,1,1]:List Rat).take (1+1)++[1/2]++([0,0,1,1]:List Rat).drop (1+1)=[0,0,1/2,1,1] by decide +kernel,show vm [0,0,1,1] [2,4] (1/2) 1 1 (mulN [0,0,1,1] (1/2) ([0,0,1,1]:List Rat).length) (([2,4]:List Rat).length+1)=[2,3,4] by decide +kernel]at h;exact h
end Go.Sy
