/- Part. -/
import Derived.Test.YtacgmapjhpghkaaGreatDoorXc
set_option linter.all false
namespace Go.Sy
open Go Go.Proofs Tryz Ord
def bo7:Tr:=kv 76 23 23 1 23 2 24 42 43 (kv 88 20 20 1 20 2 25 37 44 (ei 10 11 28 16 18 (We 10 11 18 46 32 (ei 27 12 28 19 21 (We 27 12 26 47 45 (.retr [] 28))))))
def be7:Tr:=en 2 1 34 (ei 10 19 28 33 35 (Qd 10 19 3 46 36 (en 2 2 39 (gW 1 0 21 0 28 38 40 (di 22 3 46 41 (tq 2 bo7))))))
def bl9:Tr:=en 2 2 23 (ei 10 13 28 22 24 (Qd 10 13 3 46 25 (en 2 2 28 (gW 1 0 15 0 28 27 29 (di 16 3 46 30 (mh 88 14 14 1 14 2 17 26 31 be7))))))
def bJ2:Tr:=di 7 3 46 12 (TQ 0 0 4 (ap5 0 0 6 14 10 (TQ 9 1 5 (ap5 9 1 8 15 13 (en 2 2 17 (en 2 1 20 bl9))))))
def bN5:Tr:=nE 1 0 0 28 6 (di 3 3 46 7 (tq 2 (mh 76 4 4 1 4 2 5 8 9 (nE 1 0 0 28 11 bJ2))))
def Nw:vA prog f140 (fun _=>none) [.lent 46 3,.ref 1,.ref 1]=bN5:=aS
def AU:Tr:=.retr [] 6
def Bb:Tr:=.need (.strow 5 3 (.u 2 0) 0 [(.u 4 0),(.u 4 1),(.u 4 2)]) (.store 46 (.tmp 10) (.tmp 8)) 0 false AU
def AD:Tr:=.need (.idx 5 (.u 2 0)) (.indexAddr 28 (.tmp 4) (.tmp 6)) 0 false Bb
def AM:Tr:=.need (.strow 0 3 (.k (.int .i64 (0))) 0 [(.u 3 0),(.u 3 1),(.u 3 2)]) (.store 46 (.tmp 9) (.tmp 7)) 0 false AD
def Bg:Tr:=.need (.idx 0 (.k (.int .i64 (0)))) (.indexAddr 28 (.tmp 3) (.const (I3 (0)))) 0 false AM
def AR:Tr:=.need (.call 113 [(WK (-1))] [(some 3)]) (.call ⟨.value (.func 113),#[(.const (I3 (-1)))],#[3]⟩) 46 true Bg
def Ba:Tr:=.need (.call 113 [(WK (1))] [(some 3)]) (.call ⟨.value (.func 113),#[(.const (I3 (1)))],#[3]⟩) 46 true AR
def AN:Tr:=.need (.prim [(W 1 0),(WK (1))] none) (.binOp .sub 3 (.tmp 5) (.const (I3 (1))) 3) 3 false Ba
def JH:vA prog f141 (fun _=>none) [.lent 46 3,.ref 1]=AN:=aS
def NS:Tr:=.ret [(.one (.c (.k (.bool true))))]
def Nt:Tr:=.ret [(.one (.c (.k (.bool true))))]
def FR:Tr:=.ret [(W 12 0)]
def GG:Tr:=.need (.prim [(W 11 0),(WK (0))] none) (.binOp .neq 3 (.tmp 32) (.const (I3 (0))) 3) 4 false FR
def EW:Tr:=.need (.call 67 [(.agg [(U 7 0),(U 7 1),(U 7 2)]),(.agg [(U 10 0),(U 10 1),(U 10 2)])] [none]) (.call ⟨.value (.func 67),#[(.tmp 26),(.tmp 31)],#[46,46]⟩) 3 false GG
def Ey:Tr:=.need (.prim [(W 9 0)] (some 3)) (.load 46 (.tmp 30)) 46 false EW
def DV:Tr:=.need (.prim [(W 1 0),(W 8 0)] none) (.indexAddr 28 (.tmp 27) (.tmp 29)) 0 false Ey
def Jg:Tr:=.need (.prim [(W 2 0),(WK (1))] none) (.binOp .sub 3 (.tmp 28) (.const (I3 (1))) 3) 3 false DV
def JX:Tr:=.need (.prim [(W 6 0)] (some 3)) (.load 46 (.tmp 25)) 46 false Jg
def KV:Tr:=.need (.prim [(W 1 0),(WK (0))] none) (.indexAddr 28 (.tmp 24) (.const (I3 (0)))) 0 false JX
def HX:Tr:=.split (.u 5 0) Nt KV
def Lq:Tr:=.need (.prim [(W 2 0),(WK (3))] none) (.binOp .lss 3 (.tmp 20) (.const (I3 (3))) 3) 4 false HX
def IP:Tr:=.split (.u 4 0) NS Lq
def Lp:Tr:=.need (.prim [(W 3 0)] none) (.unOp .not 4 (.tmp 17)) 4 false IP
def Iw:Tr:=.need (.call 129 [(W 0 0),(W 1 0)] [none]) (.call ⟨.value (.func 129),#[(.tmp 15),(.tmp 16)],#[28,28]⟩) 4 false Lp
def YB:aj prog 74 (fun _=>none) (aH [1,1,0,0] (aM f51)) [(0,.v none),(1,.v none),(6,.ref 1)] ([34].map ResultVar.tmp) none false=Iw:=aS
def Iy:Tr:=.ret [(.one (.ref 0 [(.u 1 0)]))]
def Jv:Tr:=.need (.prim [(W 0 0)] none) (.call ⟨.builtin .len,#[(.tmp 13)],#[28]⟩) 3 false Iy
def Wn:aj prog 74 (fun _=>none) (aH [1,0] (aM f51)) [(0,.v none)] ([6].map ResultVar.tmp) none false=Jv:=aS
def Ir:Tr:=.ret [(.one (.ref 0 [(.u 2 0)])),(W 3 0)]
def MX:Tr:=.need (.call 132 [(W 0 0),(W 1 0)] [none]) (.call ⟨.value (.func 132),#[(.tmp 38),(.tmp 39)],#[28,28]⟩) 28 true Ir
def Jm:Tr:=.need (.call 131 [(W 0 0)] [none]) (.call ⟨.value (.func 131),#[(.tmp 36)],#[28]⟩) 28 false MX
def Xo:aj prog 74 (fun _=>none) (aH [1,1,1,0] (aM f51)) [(0,.v none),(1,.v none)] ([7,8].map ResultVar.tmp) none false=Jm:=aS
def Ob:Tr:=.ret [(W 11 0)]
def Mo:Tr:=.need (.call 133 [(W 0 0),(.agg [(U 10 0),(U 10 1),(U 10 2)]),(.one (.gv 140 [(.ref 0 [(.u 2 0)]),(.ref 0 [(.u 0 0)])]))] [none]) (.call ⟨.value (.func 133),#[(.tmp 41),(.tmp 52),(.tmp 53)],#[3,46,184]⟩) 28 true Ob
def Kb:Tr:=.need (.call 76 [(.agg [(U 8 0),(U 8 1),(U 8 2)]),(.agg [(U 9 0),(U 9 1),(U 9 2)])] [(some 3)]) (.call ⟨.value (.func 76),#[(.tmp 50),(.tmp 51)],#[46,46]⟩) 46 false Mo
def KY:Tr:=.need (.call 113 [(WK (6))] [(some 3)]) (.call ⟨.value (.func 113),#[(.const (I3 (6)))],#[3]⟩) 46 false Kb
def Je:Tr:=.need (.call 86 [(.agg [(U 4 0),(U 4 1),(U 4 2)]),(.agg [(U 7 0),(U 7 1),(U 7 2)])] [(some 3)]) (.call ⟨.value (.func 86),#[(.tmp 44),(.tmp 49)],#[46,46]⟩) 46 false KY
def Nu:Tr:=.need (.prim [(W 6 0)] (some 3)) (.load 46 (.tmp 48)) 46 false Je
def Lo:Tr:=.need (.prim [(W 1 0),(W 5 0)] none) (.indexAddr 28 (.tmp 45) (.tmp 47)) 0 false Nu
def Kr:Tr:=.need (.prim [(W 0 0),(WK (2))] none) (.binOp .sub 3 (.tmp 46) (.const (I3 (2))) 3) 3 false Lo
def HS:Tr:=.need (.prim [(W 3 0)] (some 3)) (.load 46 (.tmp 43)) 46 false Kr
def HT:Tr:=.need (.prim [(W 1 0),(WK (0))] none) (.indexAddr 28 (.tmp 42) (.const (I3 (0)))) 0 false HS
def XZ:aj prog 74 (fun _=>none) (aH [1,1,1,1,0] (aM f51)) [(6,.ref 1),(8,.v none),(7,.ref 1)] ([9].map ResultVar.tmp) none false=HT:=aS
def MH:Tr:=.ret [(W 1 0)]
def No:Tr:=.need (.call 133 [(W 0 0),(.agg [(.c (.k (.slice none 0 0))),(.c (.k (.bool false))),(.c (.k (.slice none 0 0)))]),(.one (.gv 141 [(.ref 0 [(.u 0 0)])]))] [none]) (.call ⟨.value (.func 133),#[(.tmp 55),(.tmp 56),(.tmp 57)],#[3,46,184]⟩) 28 true MH
def Yu:aj prog 74 (fun _=>none) (aH [1,1,1,1,1,0] (aM f51)) [(6,.ref 1)] ([10].map ResultVar.tmp) none false=No:=aS
def Jh:Tr:=.retr [(WK (0))] 5
def Jn:Tr:=.need (.strow 3 2 (.k (.int .i64 (0))) 0 [(.u 4 0),(.u 4 1)]) (.store 31 (.tmp 4) (.tmp 73)) 0 false Jh
def Jk:Tr:=.need (.call 139 [(W 0 0),(W 1 0),(W 2 0)] [(some 2)]) (.call ⟨.value (.func 139),#[(.tmp 70),(.tmp 71),(.tmp 72)],#[28,28,28]⟩) 31 true Jn
def Yj:vB prog 74 (fun _=>none) (aH [1,1,1,1,1,1,1,0] (aM f51)) [(0,.v none),(1,.v none),(11,.v none)] 4 31 2 0 ([5].map ResultVar.tmp)=Jk:=aS
def cf6(t:iS)(h:t.size=74):t=#[t.getD 0 undef,t.getD 1 undef,t.getD 2 undef,t.getD 3 undef,t.getD 4 undef,t.getD 5 undef,t.getD 6 undef,t.getD 7 undef,t.getD 8 undef,t.getD 9 undef,t.getD 10 undef,t.getD 11 undef,t.getD 12 undef,t.getD 13 undef,t.getD 14 undef,t.getD 15 undef,t.getD 16 undef,t.getD 17 undef,t.getD 18 undef,t.getD 19 undef,t.getD 20 undef,t.getD 21 undef,t.getD 22 undef,t.getD 23 undef,t.getD 24 undef,t.getD 25 undef,t.getD 26 undef,t.getD 27 undef,t.getD 28 undef,t.getD 29 undef,t.getD 30 undef,t.getD 31 undef,t.getD 32 undef,t.getD 33 undef,t.getD 34 undef,t.getD 35 undef,t.getD 36 undef,t.getD 37 undef,t.getD 38 undef,t.getD 39 undef,t.getD 40 undef,t.getD 41 undef,t.getD 42 undef,t.getD 43 undef,t.getD 44 undef,t.getD 45 undef,t.getD 46 undef,t.getD 47 undef,t.getD 48 undef,t.getD 49 undef,t.getD 50 undef,t.getD 51 undef,t.getD 52 undef,t.getD 53 undef,t.getD 54 undef,t.getD 55 undef,t.getD 56 undef,t.getD 57 undef,t.getD 58 undef,t.getD 59 undef,t.getD 60 undef,t.getD 61 undef,t.getD 62 undef,t.getD 63 undef,t.getD 64 undef,t.getD 65 undef,t.getD 66 undef,t.getD 67 undef,t.getD 68 undef,t.getD 69 undef,t.getD 70 undef,t.getD 71 undef,t.getD 72 undef,t.getD 73 undef]:=(qo t 74 h).trans rfl
def Bm(h:c4)(r:c4):List Rat:=(r.set 0 (h.getD 0 0*((2:Int):Rat))).set 1 (h.getD 0 0)
def peR(h:c4)(n:Nat)(r:c4):List Rat:=((Bm h r).set (n-2) ((Bm h r).getD (n-2) 0+h.getD (n-2) 0)).set (n-1) ((Bm h r).getD (n-1) 0+h.getD (n-2) 0*((2:Int):Rat))
def peS(n:Nat)(r:c4):List Rat:=(r.set 0 ((1:Int):Rat)).set (n-1) ((-1:Int):Rat)
def al6(h r:c4):(Bm h r).length=r.length:=by simp[Bm]
def bm4{A:Nat}{h r:c4}(hA:1<=A)(hh:∀a∈h,Fit A a)(hr:∀a∈r,Fit A a):∀a∈Bm h r,Fit (A+62) a:=
 eL (eL (fun a ha=>(hr a ha).mono O) ((aD hh 0 hA).mul (Fit.int (B:=62) O O))) ((aD hh 0 hA).mono O)
def KR(h:c4)(n A:Nat)(r:c4)(hh:∀a∈h,Fit A a)(hr:∀a∈r,Fit A a)(hn:3<=n)(hir:n<=r.length)(hA1:1<=A:=by omega)(hA:A<=1000000000:=by omega)(hs:h.length<1099511627776:=by omega)(hil:n-2<h.length:=by omega):kI prog 140 46 3 [] [(.one (.aw ([sQ h])):aQ),(.one (.aw ([.int .i64 (n:Int)])):aQ)] (rQ r) [] (rQ (peR h n r)):=by
 refine mi (a1:=[]) (a2:=[.ref 1,.ref 1]) (i1:=[]) (i2:=[.ref ([sQ h]),.ref ([.int .i64 (n:Int)])]) (hints:=(fun _=>none)) fo aS func140 trivial ⟨rfl,rfl,trivial⟩ aS ?_ ?_ ?_ ?_
 .first | (simp[peR,Bm];done) | (intro t ht;obtain⟨a,_,rfl⟩:=dm.1 ht;rfl)
 .first | (simp[peR,Bm];done) | (intro t ht;obtain⟨a,_,rfl⟩:=dm.1 ht;rfl)
 .first | (simp[peR,Bm];done) | (intro t ht;obtain⟨a,_,rfl⟩:=dm.1 ht;rfl)
 dsimp only[aU,aV];rw[Nw];dsimp only[List.map,In.env,aU,aV];obtain⟨x1,hx1⟩:=mN (l:=r) (i:=0);obtain⟨x2,hx2⟩:=mN (l:=r.set 0 (h.getD 0 0*((2:Int):Rat))) (i:=1) (by rw[al];omega);have hal:=al6 h r;have haf:=bm4 hA1 hh hr;have hx3:(Bm h r)[n-2]?=some ((Bm h r).getD (n-2) 0):=aa;obtain⟨x4,hx4⟩:=mN (l:=(Bm h r).set (n-2) ((Bm h r).getD (n-2) 0+h.getD (n-2) 0)) (i:=n-1) (by rw[al];omega);have hx5:(Bm h r)[n-1]?=some ((Bm h r).getD (n-1) 0):=aa;apply vn (aN bX (m:=0) O rfl (aa (show 0<h.length by omega)));apply vn (ab cb bY aT (.inl rfl));apply aA (dp 2);apply aA (ig _ _ A 62 (aD hh _ hA1) (Fit.int O O));dsimp only[aU,aV];apply vn (aN bX (m:=0) O rfl (aa (show 0<h.length by omega)));apply vn (ab cb bY aT (.inl rfl));refine bo rfl rfl O O ?_;refine gL (f:=qC) (d':=h.getD 0 0*((2:Int):Rat)) rfl rfl O rfl hx1 rfl ?_;refine bo rfl rfl O (by rw[al];omega) ?_;refine gL (f:=qC) (d':=h.getD 0 0) rfl rfl O rfl hx2 rfl ?_;rw[show List.map qC ((r.set (Int.toNat 0) (h.getD 0 0*((2:Int):Rat))).set (Int.toNat 1) (h.getD 0 0))=rQ (Bm h r)from rfl];apply vn (aI O O);apply vn (aI O O);apply vn (aI O O);refine bo rfl rfl O O ?_;refine Nv (f:=qC) (m:=n-2) (d:=(Bm h r).getD (n-2) 0) rfl rfl O O hx3 (.inl rfl) rfl ?_;dsimp only[aU,aV,mkS,List.drop,List.take];apply vn (aI O O);dsimp only[aU,aV];apply vn (aN bX (m:=n-2) O O (aa (show n-2<h.length by omega)));apply vn (ab cb bY aT (.inl rfl));apply aA (oV _ _ _ A (aD haf _) (aD hh _ hA1));apply vn (aI O O);refine bo rfl rfl O O ?_;refine Nv (f:=qC) (m:=n-1) (d:=(Bm h r).getD (n-1) 0) rfl rfl O O hx5 (.inl rfl) rfl ?_;dsimp only[aU,aV,mkS,List.drop,List.take];apply vn (aI O O);dsimp only[aU,aV];apply vn (aN bX (m:=n-2) O O (aa (show n-2<h.length by omega)));apply vn (ab cb bY aT (.inl rfl));apply aA (dp 2);apply aA (ig _ _ A 62 (aD hh _ hA1) (Fit.int O O));apply aA (oV _ _ _ _ (aD haf _) ((aD hh _ hA1).mul (Fit.int (B:=62) O O)));refine bo rfl rfl O O ?_;refine gL (f:=qC) (d':=(Bm h r).getD (n-2) 0+h.getD (n-2) 0) rfl rfl O (show((n:Int)-2).toNat=n-2 by omega) hx3 rfl ?_;refine bo rfl rfl O (by rw[al];omega) ?_;refine gL (f:=qC) (d':=(Bm h r).getD (n-1) 0+h.getD (n-2) 0*((2:Int):Rat)) rfl rfl O (show((n:Int)-1).toNat=n-1 by omega) hx4 rfl ?_;dsimp only[aU,aV];exact kA rfl rfl
def Io(n:Nat)(r:c4)(hn:3<=n)(hir:n<=r.length)(hs:r.length<1099511627776):kI prog 141 46 3 [] [(.one (.aw ([.int .i64 (n:Int)])):aQ)] (rQ r) [] (rQ (peS n r)):=by
 refine mi (a1:=[]) (a2:=[.ref 1]) (i1:=[]) (i2:=[.ref ([.int .i64 (n:Int)])]) (hints:=(fun _=>none)) fo aS func141 trivial ⟨rfl,trivial⟩ aS ?_ ?_ ?_ ?_
 .first | (simp[peS];done) | (intro t ht;obtain⟨a,_,rfl⟩:=dm.1 ht;rfl)
 .first | (simp[peS];done) | (intro t ht;obtain⟨a,_,rfl⟩:=dm.1 ht;rfl)
 .first | (simp[peS];done) | (intro t ht;obtain⟨a,_,rfl⟩:=dm.1 ht;rfl)
 dsimp only[aU,aV];rw[JH];dsimp only[List.map,In.env,aU,aV];obtain⟨x1,hx1⟩:=mN (l:=r) (i:=0);obtain⟨x2,hx2⟩:=mN (l:=r.set 0 ((1:Int):Rat)) (i:=n-1) (by rw[al];omega);apply vn (aI O O);apply aA (dp 1);apply aA (dp (-1));refine bo rfl rfl O O ?_;refine gL (f:=qC) (d':=((1:Int):Rat)) rfl rfl O rfl hx1 rfl ?_;refine bo rfl rfl O (by rw[al];omega) ?_;refine gL (f:=qC) (d':=((-1:Int):Rat)) rfl rfl O (show((n:Int)-1).toNat=n-1 by omega) hx2 rfl ?_;dsimp only[aU,aV];exact kA rfl rfl
def peL(h d:c4)(n:Nat):List Rat:=peR h n ((List.replicate (n+1) 0).set n ((d.getD 0 0-d.getD (n-2) 0)*((6:Int):Rat)))
def peQ(n:Nat):List Rat:=peS n ((List.replicate (n+1) 0).set n 0)
def Qq(h d:c4)(n:Nat):(peL h d n).length=n+1:=by simp[peL,peR,Bm]
def Ug(n:Nat):(peQ n).length=n+1:=by simp[peQ,peS]
def bI3(x y:c4)(A:Nat)(hxy:y.length=x.length)(hp:∀a∈x,Fit A a)(hq:∀a∈y,Fit A a)(hA1:1<=A)(hg:mM x y=true)(h3:3<=x.length)(he:y.getD 0 0=y.getD (x.length-1) 0)(hl:x.length<1099511627776:=by omega)(hA:A<=1073741824:=by omega):vc prog (fun o=>bD o (.ret [.one (.bool false)])) (aj prog 74 (fun _=>none) (aH [1,1,0,0] (aM f51)) [(0,.v none),(1,.v none),(6,.ref 1)] ([34].map ResultVar.tmp) none false) ([.v (.one (sQ x)),.v (.one (sQ y)),.ref ([.int .i64 (x.length:Int)])].map In.env) []:=by
 rw[YB];dsimp only[List.map,In.env,aU,aV];apply aA (oX x y A hp hA1 hl hA);rw[hg];apply vn fk;refine nI false rfl (fun h=>by cases h) (fun _=>?_);apply vn bO;refine l4 ?_ ?_<;>intro h5
 .exact absurd h5 O
 apply vn (aN bX (m:=0) O rfl (aa (show 0<y.length by omega)));apply vn (ab cb bY aT (.inl rfl));apply vn (aI O O);dsimp only[aU,aV];apply vn (aN bX (m:=x.length-1) O O (aa (show x.length-1<y.length by omega)));apply vn (ab cb bY aT (.inl rfl));apply aA (ou _ _ A A (aD hq _ hA1) (aD hq _ hA1));rw[ya.2 he];apply vn iC;exact aR
def bW2(x:c4):vc prog (fun o=>bD o (.ret [.one (.aw [.int .i64 (x.length:Int)])])) (aj prog 74 (fun _=>none) (aH [1,0] (aM f51)) [(0,.v none)] ([6].map ResultVar.tmp) none false) ([.v (.one (sQ x))].map In.env) []:=by
 rw[Wn];dsimp only[List.map,In.env,aU,aV];apply vn (ae bX (aL _));exact aR
def bQ0(x y:c4)(A:Nat)(hA1:1<=A)(hx:∀a∈x,Fit A a)(hy:∀a∈y,Fit A a)(h2:2<=x.length)(hxy:y.length=x.length)(hA:A<=100000000:=by omega)(hs:x.length<1099511627776:=by omega):vc prog (fun o=>bD o (.ret [.one (.aw [sQ (dX x)]),.one (sQ (cD x y))])) (aj prog 74 (fun _=>none) (aH [1,1,1,0] (aM f51)) [(0,.v none),(1,.v none)] ([7,8].map ResultVar.tmp) none false) ([.v (.one (sQ x)),.v (.one (sQ y))].map In.env) []:=by
 rw[Xo];dsimp only[List.map,In.env,aU,aV];apply aA (oH x A hA1 hx hs h2).QT;apply aA (rl x y A hA1 hx hy hs h2 hxy hA).QT;exact aR
def bP4(n0:Nat)(h d:c4)(n A:Nat)(hh:∀a∈h,Fit A a)(hd:∀a∈d,Fit A a)(h3:3<=n)(hA1:1<=A:=by omega)(hA:A<=100000000:=by omega)(hn:n<1099511627775:=by omega)(hl:h.length+1=n:=by omega)(hdl:d.length+1=n:=by omega):vc prog (iE prog n0 (.ret [.one (.jL n0 46 3 (rQ (peL h d n)))])) (aj prog 74 (fun _=>none) (aH [1,1,1,1,0] (aM f51)) [(6,.ref 1),(8,.v none),(7,.ref 1)] ([9].map ResultVar.tmp) none false) ([.ref ([.int .i64 (n:Int)]),.v (.one (sQ d)),.ref ([sQ h])].map In.env) []:=by
 rw[XZ];dsimp only[List.map,In.env,aU,aV];apply vn (aN bX (m:=0) O rfl (aa (show 0<d.length by omega)));apply vn (ab cb bY aT (.inl rfl));apply vn (aI O O);dsimp only[aU,aV];apply vn (aN bX (m:=n-2) O O (aa (show n-2<d.length by omega)));apply vn (ab cb bY aT (.inl rfl));apply aA (lZ _ _ A A (aD hd _ hA1) (aD hd _ hA1));apply aA (dp 6);apply aA (ig _ _ (A+A+1) 62 ((aD hd _ hA1).sub (aD hd _ hA1)) (Fit.int O O));dsimp only[aU,aV];have hbase:∀a∈(List.replicate (n+1) 0).set n ((d.getD 0 0-d.getD (n-2) 0)*((6:Int):Rat)),Fit (A+A+63) a:=eL (pG O) ((((aD hd 0 hA1).sub (aD hd (n-2) hA1)).mul (Fit.int (B:=62) O O)).mono O);refine Xc (ts:=[.one (.jL n0 46 3 (rQ (peL h d n)))]) (iE.DH (OX n _ 140 [.aw [sQ h],.aw [.int .i64 (n:Int)]] (peL h d n) O (Qq _ _ _) (KR h n (A+A+63) _ (fun a ha=>(hh a ha).mono O) hbase h3 (by rw[al,dU];omega))) oI) rfl ?_;dsimp only[aU,aV];exact Af rfl
def bJ1(n0 n:Nat)(h3:3<=n)(hn:n<1099511627775:=by omega):vc prog (iE prog n0 (.ret [.one (.jL n0 46 3 (rQ (peQ n)))])) (aj prog 74 (fun _=>none) (aH [1,1,1,1,1,0] (aM f51)) [(6,.ref 1)] ([10].map ResultVar.tmp) none false) ([.ref ([.int .i64 (n:Int)])].map In.env) []:=by
 rw[Yu];dsimp only[List.map,In.env,aU,aV];refine Xc (ts:=[.one (.jL n0 46 3 (rQ (peQ n)))]) (iE.DH (qM.args (OX n 0 141 [.aw [.int .i64 (n:Int)]] (peQ n) O (Ug n) (Io n _ h3 (by rw[al,dU];omega) (by rw[al,dU];omega))) ⟨.inl rfl,nO,.inl rfl,trivial⟩) oI) rfl ?_;dsimp only[aU,aV];exact Af rfl
def cd6(x y d:c4)(A:Nat)(hA1:1<=A)(hA:A<=10000000)(hx:∀a∈x,Fit A a)(hy:∀a∈y,Fit A a)(hd:∀a∈d,Fit A a)(h2:2<=x.length)(hxy:y.length=x.length)(hxd:d.length=x.length)(hsh:∀i,i+1<x.length->aX prog 205 [.one (sQ (cvP x y d i)),qT (-(x.getD i 0))] (.ret [.one (sQ (jG x y d i))]))(hs:x.length<1099511627776:=by omega):vc prog (fun o=>o=.retr [.one (.int .i64 0)] ([tA x ((List.range (x.length-1)).map (jG x y d))])) (vB prog 74 (fun _=>none) (aH [1,1,1,1,1,1,1,0] (aM f51)) [(0,.v none),(1,.v none),(11,.v none)] 4 31 2 0 ([5].map ResultVar.tmp)) ([.v (.one (sQ x)),.v (.one (sQ y)),.v (.one (sQ d))].map In.env++[.rows ([uy])]) []:=by
 rw[Yj];dsimp only[List.map,In.env,aU,aV];apply aA (yW x y d A hA1 hA hx hy hd hs h2 hxy hxd hsh);refine NM (ts:=[uy]) (us:=[tA x ((List.range (x.length-1)).map (jG x y d))]) rfl rfl O (cells:=uy) rfl rfl ?_;dsimp only[aU,aV];exact kA rfl rfl
open Go Go.Proofs Go.RowKit Tryz Ord
attribute [local go_sem] Oper.semAt_some
def qk(x y:c4):List (List Rat):=sM x y (peL (dX x) (cD x y) x.length) (peQ x.length)
def az7(x y:c4):(qk x y).map rQ=lI (dX x) (cD x y) x.length++[rQ (peL (dX x) (cD x y) x.length),rQ (peQ x.length)]:=by
 rw[qk,sM,cG,ey];rfl
set_option maxRecDepth 100000 in
set_option maxHeartbeats 2000000 in
def XQ(x y sol:c4)(A B:Nat)(hx:∀a∈x,Fit A a)(hy:∀a∈y,Fit A a)(hsf:∀a∈sol,Fit A a)(h3:3<=x.length)(hxy:y.length=x.length)(hxs:sol.length=x.length)(hgv:mM x y=true)(hye:y.getD 0 0=y.getD (x.length-1) 0)
  (hT:vL x.length (x.length+1) B (qk x y)) (hg:∀k,k<=x.length->gA B k<=1000000000) (hsol:fQ (qk x y)=some sol)
  (hsh:∀i,i+1<x.length->aX prog 205 [.one (sQ (cvP x y sol i)),qT (-(x.getD i 0))] (.ret [.one (sQ (jG x y sol i))])) (hA1:1<=A:=by omega) (hA:A<=10000000:=by omega) (hs:x.length<549755813000:=by omega) (hB:1<=B:=by omega) :
  aX prog 51 [.one (sQ x),.one (sQ y)] (.ret [.agg (tA x ((List.range (x.length-1)).map (jG x y sol))),.one (.int .i64 0)]):=by
 have h2:2<=x.length:=O
 refine⟨ay aS,fun M w vs hM hv=>?_⟩
 match vs,hv with
 | [v0,v1],⟨hv0,hv1,_⟩=>
   have hv0:(aC.slice 3 (rQ x)).rep M w v0:=hv0;have hv1:(aC.slice 3 (rQ y)).rep M w v1:=hv1;have o0:=aC.one _ hv0;have o1:=aC.one _ hv1;obtain⟨n0,hn0⟩:∃n0,w.heap.size=n0:=⟨_,rfl⟩
   refine kH func51 rfl ?_;simp only[ntmps51,cq,bB,bu,Nat.reduceAdd,Nat.reduceSub,eE,eF,eJ,eI,List.nil_append,List.cons_append];refine bU ?_;generalize hK:Exit.then _ _=K
   go_wp2
   rw[<-hK];clear hK K;show Code.wp _ _ _ _ _;generalize hW1:World.alloc w (.cells #[.slice none 0 0,.slice none 0 0] 31)=W1;have tI:W1.heap.size=n0+1:=by rw[<-hW1];simp[hn0]
   have hB1:Below w.heap.size w W1:=by rw[<-hW1];exact(cS _ w).alloc (ah _) _
   have hF8:W1.heap[n0]?=some (.cells #[.slice none 0 0,.slice none 0 0] 31 (0,0)):=by
    rw[<-hW1,<-hn0];exact cr w (.cells #[.slice none 0 0,.slice none 0 0] 31)
   clear hW1;generalize ha:(Act.mk _ _)=a1;have t0:a1.tmps.getD 0 undef=v0:=by rw[<-ha];rfl
   have t1:a1.tmps.getD 1 undef=v1:=by rw[<-ha];rfl
   have t4:a1.tmps.getD 4 undef=.pointer (some ⟨n0,0,none⟩):=by rw[<-ha];rfl
   have hsz:a1.tmps.size=74:=by rw[<-ha];rfl
   have hdf:a1.defers=[]:=by rw[<-ha]
   clear ha;obtain⟨N,hN⟩:∃N:Nat->Prop,∀k,N k↔M k\/k=n0:=⟨_,fun k=>mZ⟩
   have hk1:av M w N W1:=fun k o hk ho _=>by
    have hlt:=(cJ.1 ho).1;exact⟨fun h=>((hN k).1 h).elim hk O,(hB1.block k hlt).trans ho⟩
   have hF:bf N W1:=⟨fun k hk=>((hN k).1 hk).elim (fun h=>by have:=hM.1 k h;omega) O,hM.2.dJ hk1⟩
   have e0:=aC.mono _ hk1 hv0;have e1:=aC.mono _ hk1 hv1;have hMN:∀k,M k->N k:=fun k h=>(hN k).2 (.inl h);have hg4:N n0:=(hN _).2 (.inr rfl);clear hk1;refine bp9 ?_;have e0a:(aC.slice 3 (rQ x)).rep N W1 (a1.tmps.getD 0 undef):=by rw[t0];exact e0
   refine cn (dK.2 (bV jN.wp (n0:=W1.heap.size) (N:=74) (ins:=[(0,.v none)]) (xs:=[.v (.one (sQ x))]) fo ⟨rfl,trivial⟩ (tg (bW2 x)) aS (ah _) hF hsz hdf ⟨e0a,trivial⟩ ?_));intro a2 W2 us2 hag2 hb2 hsz2 hdf2 hr2 hrep2;have hus:=bA hr2;subst hus;have e6:(aC.aw [.int .i64 (x.length:Int)]).rep N W2 (a2.tmps.getD 6 undef):=hrep2.1;replace e0:=aC.mono _ (av.below hb2) e0;replace e1:=aC.mono _ (av.below hb2) e1;replace t0:=(aO hag2 0 aS).trans t0;replace t1:=(aO hag2 1 aS).trans t1;replace t4:=(aO hag2 4 aS).trans t4;have hB2:=hB1.trans (hb2.mono hB1.size);have hF8':=(hb2.block _ O).trans hF8;have hF2:=aW hF hb2;have hn2:=hb2.size;clear hag2 hb2 hr2 hrep2 hsz hdf e0a hF8 hF hB1;show Code.wpIn _ _ _ _ _ _ _;have e0a:(aC.slice 3 (rQ x)).rep N W2 (a2.tmps.getD 0 undef):=by rw[t0];exact e0
   have e1a:(aC.slice 3 (rQ y)).rep N W2 (a2.tmps.getD 1 undef):=by rw[t1];exact e1
   refine cn (cn (dK.2 (bV jN.wp (n0:=W2.heap.size) (N:=74) (ins:=[(0,.v none),(1,.v none),(6,.ref 1)]) (xs:=[.v (.one (sQ x)),.v (.one (sQ y)),.ref [.int .i64 (x.length:Int)]]) fo ⟨rfl,rfl,rfl,trivial⟩ (tg (bI3 x y A hxy hx hy hA1 hgv h3 hye)) aS (ah _) hF2 hsz2 hdf2 ⟨e0a,e1a,e6,trivial⟩ ?_)));intro a3 W3 us3 hag3 hb3 hsz3 hdf3 hr3 hrep3;have hus:=bA hr3;subst hus;have h34:a3.tmps.getD 34 undef=.bool false:=hrep3.1.1;show Code.wpIn _ _ _ _ _ _ _;refine qK (t:=false) h34 (qR ?_);replace e0:=aC.mono _ (av.below hb3) e0;replace e1:=aC.mono _ (av.below hb3) e1;replace e6:(aC.aw [.int .i64 (x.length:Int)]).rep N W3 (a3.tmps.getD 6 undef):=by rw[aO hag3 6 aS];exact aC.mono _ (av.below hb3) e6
   replace t0:=(aO hag3 0 aS).trans t0;replace t1:=(aO hag3 1 aS).trans t1;replace t4:=(aO hag3 4 aS).trans t4;have hB3:=hB2.trans (hb3.mono hB2.size);have hF83:=(hb3.block _ O).trans hF8';have hF3:=aW hF2 hb3;have hn3:=hb3.size;clear hag3 hb3 hr3 hrep3 hsz2 hdf2 e0a e1a hF8' hF2 hB2 h34;show Code.wpIn _ _ _ _ _ _ _;have e0a:(aC.slice 3 (rQ x)).rep N W3 (a3.tmps.getD 0 undef):=by rw[t0];exact e0
   have e1a:(aC.slice 3 (rQ y)).rep N W3 (a3.tmps.getD 1 undef):=by rw[t1];exact e1
   refine cn (dK.2 (bV jN.wp (n0:=W3.heap.size) (N:=74) (ins:=[(0,.v none),(1,.v none)]) (xs:=[.v (.one (sQ x)),.v (.one (sQ y))]) fo ⟨rfl,rfl,trivial⟩ (tg (bQ0 x y A hA1 hx hy h2 hxy)) aS (ah _) hF3 hsz3 hdf3 ⟨e0a,e1a,trivial⟩ ?_));intro a4 W4 us4 hag4 hb4 hsz4 hdf4 hr4 hrep4;have hus:=bA hr4;subst hus;have e7:(aC.aw [sQ (dX x)]).rep N W4 (a4.tmps.getD 7 undef):=hrep4.1;have e8:(aC.slice 3 (rQ (cD x y))).rep N W4 (a4.tmps.getD 8 undef):=hrep4.2.1;replace e0:=aC.mono _ (av.below hb4) e0;replace e1:=aC.mono _ (av.below hb4) e1;replace e6:(aC.aw [.int .i64 (x.length:Int)]).rep N W4 (a4.tmps.getD 6 undef):=by rw[aO hag4 6 aS];exact aC.mono _ (av.below hb4) e6
   replace t0:=(aO hag4 0 aS).trans t0;replace t1:=(aO hag4 1 aS).trans t1;replace t4:=(aO hag4 4 aS).trans t4;have hB4:=hB3.trans (hb4.mono hB3.size);have hF84:=(hb4.block _ O).trans hF83;have hF4:=aW hF3 hb4;have hn4:=hb4.size;clear hag4 hb4 hr4 hrep4 hsz3 hdf3 e0a e1a hF83 hF3 hB3;have hwl:=jd x;have hsl:=xS x y;have hwf:∀a∈dX x,Fit (4*A+2) a:=fun a ha=>(oG hA1 hx a ha).mono O;have hsf':=tP hx hy hA1;show Code.wpIn _ _ _ _ _ _ _;refine cn (dK.2 (bV jN.wp (n0:=W4.heap.size) (N:=74) (ins:=[(6,.ref 1),(8,.v none),(7,.ref 1)]) (xs:=[.ref [.int .i64 (x.length:Int)],.v (.one (sQ (cD x y))),.ref [sQ (dX x)]]) fo ⟨rfl,rfl,rfl,trivial⟩ (bP4 W4.heap.size (dX x) (cD x y) x.length (4*A+2) hwf hsf' h3) aS (ah _) hF4 hsz4 hdf4 ⟨e6,e8,e7,trivial⟩ ?_));intro a5 W5 us5 hag5 hb5 hsz5 hdf5 hr5 hrep5;have hus:=bA hr5;subst hus;obtain⟨b0,hb0n,hrow0⟩:=aC.jL.rowAt hrep5.1;have hkb:=qF (M:=N) hb5 hb0n;replace e0:=aC.mono _ hkb e0;replace e1:=aC.mono _ hkb e1;replace e6:(aC.aw [.int .i64 (x.length:Int)]).rep (Mb N b0) W5 (a5.tmps.getD 6 undef):=by rw[aO hag5 6 aS];exact aC.mono _ hkb e6
   replace t0:=(aO hag5 0 aS).trans t0;replace t1:=(aO hag5 1 aS).trans t1;replace t4:=(aO hag5 4 aS).trans t4;have hB5:=hB4.trans (hb5.mono hB4.size);have hF85:=(hb5.block _ O).trans hF84;have hF5:=sW hF4 hb5 hb0n hrow0.lt;have hn5:=hb5.size;clear hag5 hb5 hr5 hrep5 hsz4 hdf4 hF84 hF4 hB4 hkb e7 e8;show Code.wpIn _ _ _ _ _ _ _;refine cn (dK.2 (bV jN.wp (n0:=W5.heap.size) (N:=74) (ins:=[(6,.ref 1)]) (xs:=[.ref [.int .i64 (x.length:Int)]]) fo ⟨rfl,trivial⟩ (bJ1 W5.heap.size x.length h3) aS (ah _) hF5 hsz5 hdf5 ⟨e6,trivial⟩ ?_));intro a6 W6 us6 hag6 hb6 hsz6 hdf6 hr6 hrep6;have hus:=bA hr6;subst hus;obtain⟨b1,hb1n,hrow1⟩:=aC.jL.rowAt hrep6.1;have hlt0:=hrow0.lt
   have hMp:∀k,Mp N b0 b1 k->Mb (Mb N b0) b1 k:=fun k h=>h.elim (fun h=>.inl (.inl h)) fun h=>by
    rcases cp.1 h with e | h
    .exact .inl (.inr e)
    .exact .inr (da.1 h)
   have hkp:av (Mb N b0) W5 (Mp N b0 b1) W6:=fun k o hk ho hc=>by
    obtain⟨h1,h2⟩:=qF (M:=Mb N b0) hb6 hb1n k o hk ho hc;exact⟨fun h=>h1 (hMp k h),h2⟩
   have hr0:dH 46 3 (rQ (peL (dX x) (cD x y) x.length)) (Mp N b0 b1) W6 (a6.tmps.getD 9 undef) b0:=by
    rw[aO hag6 9 aS];exact(hrow0.in (N:=Mb N b0) (fun k h=>h)).mono hkp (hb6.block b0 hlt0)
   have hr1:dH 46 3 (rQ (peQ x.length)) (Mp N b0 b1) W6 (a6.tmps.getD 10 undef) b1:=hrow1.in hMp;have hM0:=hrow0.off;have hM1:¬N b1:=fun h=>hrow1.off (.inl h);replace e0:=aC.mono _ hkp e0;replace e1:=aC.mono _ hkp e1;replace t0:=(aO hag6 0 aS).trans t0;replace t1:=(aO hag6 1 aS).trans t1;replace t4:=(aO hag6 4 aS).trans t4;have hB6:=hB5.trans (hb6.mono hB5.size);have hF86:=(hb6.block _ O).trans hF85;have hF6:=fX (sW hF5 hb6 hb1n hrow1.lt) hMp;have hn6:=hb6.size;have hne:b0≠b1:=O
   have one0:=hr0.one;have Bf:=hr1.one;clear hag6 hb6 hr6 hrep6 hsz5 hdf5 hF85 hF5 hB5 hkp e6 hrow0 hrow1 hMp;obtain⟨t,ds⟩:=a6;dsimp only at hsz6 hdf6 t0 t1 t4 hr0 hr1 one0 Bf;subst hdf6;rw[cf6 t hsz6,t0,t1,t4];generalize t.getD 9 undef=u0 at hr0 one0|-;generalize t.getD 10 undef=u1 at hr1 Bf|-;generalize t.getD 2 undef=y2;generalize t.getD 3 undef=y3;generalize t.getD 5 undef=y5;generalize t.getD 6 undef=y6;generalize t.getD 7 undef=y7;generalize t.getD 8 undef=y8;generalize t.getD 11 undef=y11;generalize t.getD 12 undef=y12;generalize t.getD 13 undef=y13;generalize t.getD 14 undef=y14;generalize t.getD 15 undef=y15;generalize t.getD 16 undef=y16;generalize t.getD 17 undef=y17;generalize t.getD 18 undef=y18;generalize t.getD 19 undef=y19;generalize t.getD 20 undef=y20;generalize t.getD 21 undef=y21;generalize t.getD 22 undef=y22;generalize t.getD 23 undef=y23;generalize t.getD 24 undef=y24;generalize t.getD 25 undef=y25;generalize t.getD 26 undef=y26;generalize t.getD 27 undef=y27;generalize t.getD 28 undef=y28;generalize t.getD 29 undef=y29;generalize t.getD 30 undef=y30;generalize t.getD 31 undef=y31;generalize t.getD 32 undef=y32;generalize t.getD 33 undef=y33;generalize t.getD 34 undef=y34;generalize t.getD 35 undef=y35;generalize t.getD 36 undef=y36;generalize t.getD 37 undef=y37;generalize t.getD 38 undef=y38;generalize t.getD 39 undef=y39;generalize t.getD 40 undef=y40;generalize t.getD 41 undef=y41;generalize t.getD 42 undef=y42;generalize t.getD 43 undef=y43;generalize t.getD 44 undef=y44;generalize t.getD 45 undef=y45;generalize t.getD 46 undef=y46;generalize t.getD 47 undef=y47;generalize t.getD 48 undef=y48;generalize t.getD 49 undef=y49;generalize t.getD 50 undef=y50;generalize t.getD 51 undef=y51;generalize t.getD 52 undef=y52;generalize t.getD 53 undef=y53;generalize t.getD 54 undef=y54;generalize t.getD 55 undef=y55;generalize t.getD 56 undef=y56;generalize t.getD 57 undef=y57;generalize t.getD 58 undef=y58;generalize t.getD 59 undef=y59;generalize t.getD 60 undef=y60;generalize t.getD 61 undef=y61;generalize t.getD 62 undef=y62;generalize t.getD 63 undef=y63;generalize t.getD 64 undef=y64;generalize t.getD 65 undef=y65;generalize t.getD 66 undef=y66;generalize t.getD 67 undef=y67;generalize t.getD 68 undef=y68;generalize t.getD 69 undef=y69;generalize t.getD 70 undef=y70;generalize t.getD 71 undef=y71;generalize t.getD 72 undef=y72;generalize t.getD 73 undef=y73;clear t0 t1 t4 hsz6 t;obtain⟨cu0,_,rfl,_⟩:=hr0.cells;obtain⟨cu1,_,rfl,_⟩:=hr1.cells;show Code.wpIn _ _ _ _ _ _ _;refine sU fun K0 hK0=>?_;replace hK0:Mt _:=hK0
   gi_wp2
   refine⟨trivial,?_⟩;have dI:=CE x y A hA1 hx hy h2 hxy;refine(bC.2 (dI.2 (Mp N b0 b1) W6 [v0,v1] hF6 ⟨e0,e1,trivial⟩)).mono ?_;rintro e W7 ⟨hb7,vs7,rfl,hr7⟩;obtain⟨vI,rfl,hq7⟩:=pP hr7;obtain⟨lbI,rfl,hlI⟩:=(show(clI x y).rep (Mp N b0 b1) W7 vI from hq7)
   have hk7:=av.below (M:=Mp N b0 b1) hb7;replace e0:=aC.mono _ hk7 e0;replace e1:=aC.mono _ hk7 e1;replace hr0:=hr0.mono hk7 (hb7.block b0 hr0.lt);replace hr1:=hr1.mono hk7 (hb7.block b1 hr1.lt);have hB7:=hB6.trans (hb7.mono hB6.size);have hn7:=hb7.size;have hF87:=(hb7.block _ O).trans hF86;have hF7:=aW hF6 hb7;clear hb7 hr7 hq7 hk7 hF86 hF6 hB6 dI;dsimp only[pack]
   gi_wp2
   refine⟨trivial,?_⟩;generalize hu0:Value.slice (some ⟨b0,0,none⟩) _ cu0=u0 at hr0 one0|-;generalize hu1:Value.slice (some ⟨b1,0,none⟩) _ cu1=u1 at hr1 Bf|-;have hb8:Below W7.heap.size W7 (W7.alloc (.cells #[u0,u1] 28)):=(cS _ W7).alloc (ah _) _;have hnew:=cr W7 (.cells #[u0,u1] 28);generalize hmv:Value.slice (some ⟨W7.heap.size,0,none⟩) 2 2=mv;have one2:mv.oneCell'=true:=by rw[<-hmv];rfl
   generalize World.alloc W7 (.cells #[u0,u1] 28)=W8 at hb8 hnew|-
   have hsl8:(aC.slice 1 ([u0,u1].map fun v=>[.exact v])).rep (Mp N b0 b1) W8 mv:=by
    rw[<-hmv];refine⟨_,2,rfl,ah _,bY,.inr ⟨W7.heap.size,0,_,_,_,rfl,fun h=>?_,hnew,fun j t ht=>?_⟩⟩
    .have:=hF7.1 _ h;omega
    .match j,ht with
     | 0,ht=>cases ht;exact⟨rfl,⟨rfl,one0⟩,trivial⟩
     | 1,ht=>cases ht;exact⟨rfl,⟨rfl,Bf⟩,trivial⟩
     | j+2,ht=>simp at ht
   have hk8:=av.below (M:=Mp N b0 b1) hb8;replace e0:=aC.mono _ hk8 e0;replace e1:=aC.mono _ hk8 e1;replace hlI:=hlI.mono hk8;replace hr0:=hr0.mono hk8 (hb8.block b0 hr0.lt);replace hr1:=hr1.mono hk8 (hb8.block b1 hr1.lt);have hB8:=hB7.trans (hb8.mono hB7.size);have hn8:=hb8.size;have hF88:=(hb8.block _ O).trans hF87;have hF8:=aW hF7 hb8;clear hb8 hnew hk8 hF87 hF7 hB7 hmv hu0 hu1;have dW:=SL (.func (.func 203) #[] lbI.toArray) mv;refine(bC.2 (dW.2 (Mp N b0 b1) W8 [.func (.func 203) #[] lbI.toArray,mv] hF8 ⟨⟨rfl,rfl⟩,⟨rfl,one2⟩,trivial⟩)).mono ?_;rintro e W9 ⟨hb9,vs9,rfl,hr9⟩;obtain⟨vW,rfl,hq9⟩:=pP hr9;obtain⟨lb,rfl,hlb⟩:=(show(aC.gv 202 [.aw [.exact (.func (.func 203) #[] lbI.toArray)],.aw [.exact mv]]).rep (Mp N b0 b1) W9 vW from hq9)
   have hk9:=av.below (M:=Mp N b0 b1) hb9;replace e0:=aC.mono _ hk9 e0;replace e1:=aC.mono _ hk9 e1;replace hlI:=hlI.mono hk9;replace hsl8:=aC.mono _ hk9 hsl8;replace hr0:=hr0.mono hk9 (hb9.block b0 hr0.lt);replace hr1:=hr1.mono hk9 (hb9.block b1 hr1.lt);have hB9:=hB8.trans (hb9.mono hB8.size);have hn9:=hb9.size;have hF89:=(hb9.block _ O).trans hF88;have hF9:=aW hF8 hb9;clear hb9 hr9 hq9 hk9 hF88 hF8 hB8 dW;obtain⟨w1,w2,rfl⟩:=ct4 hlb.length.symm;obtain⟨z1,z2,z3,rfl⟩:=ay0 hlI.length.symm
   have hgen:Gen prog 46 3 202 #[w1,w2] ((qk x y).map rQ) (fun k=>k∈[b0,b1]) (fun k=>k∈[b0,b1]) N W9:=by
    rw[az7]
    exact Hj N W9 203 #[z1,z2,z3] (lI (dX x) (cD x y) x.length) _ _ u0 u1 b0 b1 hne
     (yr (dX x) x (cD x y) (4*A+2) hwf hsf' N (fun k=>k∈[b0,b1]) W9 hF9 z1 z2 z3 hlI.1 hlI.2.1 hlI.2.2.1)
     (ay aS) hr0 hr1 hM0 hM1 hF9 w1 w2 mv hlb.1 hlb.2.1 hsl8
   have hS:∀k,k∈[b0,b1]->k<W9.heap.size/\¬N k:=fun k h=>by
    rcases cp.1 h with e | h
    .rw[e];exact⟨hr0.lt,hM0⟩
    .rw[da.1 h];exact⟨hr1.lt,hM1⟩
   have hcall:=DM N (fun k=>k∈[b0,b1]) W9 hF9 hS 202 #[w1,w2] (qk x y) x.length (x.length+1) B hT O O O hB hg O hgen (ay aS);rw[hsol]at hcall;clear hgen hS hlb hlI hsl8 one2;dsimp only[pack]
   gi_wp2
   refine⟨trivial,?_⟩;refine(bC.2 hcall).mono ?_;rintro e W10 ⟨hfr,u,rfl,hu⟩;have ouu:=aC.one _ hu;dsimp only[pack]
   gi_wp2
   unfold Mt at hK0;refine hK0 _ _ ?_;clear hK0 K0;have hn10:=hfr.size
   have hk10:av (Mp N b0 b1) W9 N W10:=fun k o hk ho _=>by
    have hlt:=(cJ.1 ho).1;exact⟨fun h=>hk (.inl h),(hfr.old k hlt fun h=>hk (.inr h)).trans ho⟩
   replace e0:=aC.mono _ hk10 e0;replace e1:=aC.mono _ hk10 e1
   have hnb:∀k,k<n0+1->k ∉ [b0,b1]:=fun k hk h=>by
    rcases cp.1 h with e | h
    .omega
    .have:=da.1 h;omega
   have hF810:=(hfr.old n0 O (hnb _ O)).trans hF89;have hF10:bf N W10:=⟨fun k hk=>by have:=hF9.1 k (.inl hk);omega,hF9.2.dJ hk10⟩
   have hB10:Below w.heap.size w W10:=⟨hfr.os.trans hB9.os,hfr.tape.trans hB9.tape,hfr.output.trans hB9.output,bG hB9.size hfr.size,fun k hk=>(hfr.old k (by have:=hB9.size;omega) (hnb k O)).trans (hB9.block k hk)⟩
   generalize ha:(Act.mk _ _)=a7;have t0:a7.tmps.getD 0 undef=v0:=by rw[<-ha];rfl
   have t1:a7.tmps.getD 1 undef=v1:=by rw[<-ha];rfl
   have t4:a7.tmps.getD 4 undef=.pointer (some ⟨n0,0,none⟩):=by rw[<-ha];rfl
   have t15:a7.tmps.getD 11 undef=u:=by rw[<-ha];rfl
   have hsz7:a7.tmps.size=74:=by rw[<-ha];rfl
   have hdf7:a7.defers=[]:=by rw[<-ha]
   clear ha;have e0a:(aC.slice 3 (rQ x)).rep N W10 (a7.tmps.getD 0 undef):=by rw[t0];exact e0
   have e1a:(aC.slice 3 (rQ y)).rep N W10 (a7.tmps.getD 1 undef):=by rw[t1];exact e1
   have e15:(aC.slice 3 (rQ sol)).rep N W10 (a7.tmps.getD 11 undef):=by rw[t15];exact hu
   show Code.wpIn _ _ _ _ _ _ _;refine cn (dK.2 (sY jN.wp (N:=74) (t0:=4) (T:=31) (n:=2) (want:=0) (g:=n0) (cur:=#[.slice none 0 0,.slice none 0 0]) (cs:=uy) (ins:=[(0,.v none),(1,.v none),(11,.v none)]) (xs:=[.v (.one (sQ x)),.v (.one (sQ y)),.v (.one (sQ sol))]) fo ⟨rfl,rfl,rfl,trivial⟩ (cd6 x y sol A hA1 hA hx hy hsf h2 hxy hxs hsh) aS hF10 hg4 hsz7 hdf7 rfl O ⟨e0a,e1a,e15,trivial⟩ t4 hF810 ⟨⟨rfl,rfl⟩,⟨rfl,rfl⟩,trivial⟩ ?_));intro a8 W11 us8 cur3 hag3 hg3 hsz3 hdf3 hr3 hgc3 hrs3 hrep3;have hus:=bA hr3;subst hus;have h9:a8.tmps.getD 5 undef=.int .i64 0:=hrs3.1.1;have hl3:=hrep3.length;have k8:a8.tmps.getD 4 undef=.pointer (some ⟨n0,0,none⟩):=(aO hag3 4 aS).trans t4;have hcl:cur3.toList.length=2:=hl3.symm;have h31:(prog.underlying 31).any (fun d=>match d with | .struct _ | .array _ _=>true | _=>false)=true:=aS
   have hi31:(prog.info? 31).map (·.size)=some 2:=aS
   obtain⟨d31,hu31,hd31⟩:=(Ch _ _).1 h31;have hi3:(prog.info? 31).map (·.size)=some cur3.size:=by rw[show cur3.size=2 by rw[<-cK];exact hcl];exact hi31
   have hlv:(loadVar 31 ⟨n0,0,none⟩).run prog W11=.ok (.agg cur3) W11:=by
    cases d31 with
    | struct f=>exact BA W11 (n0) 31 31 cur3 (0,0) _ hgc3 hu31 rfl hi3
    | array l e=>exact BA W11 (n0) 31 31 cur3 (0,0) _ hgc3 hu31 rfl hi3
    | _=>cases hd31
   have hres:(results f51 a8.tmps).run prog W11=.ok (pack [.agg cur3,.int .i64 0]) W11:=by
    rw[results_cell_tmp rfl,k8];simp[asAddr,hlv,h9,Result.andThen,pack]
   refine wpIn_ret ?_;refine gB hres hdf3 ⟨?_,[_,_],rfl,⟨cur3.toList,aT,?_⟩,⟨rfl,rfl⟩,trivial⟩
   .refine⟨hg3.os.trans hB10.os,hg3.tape.trans hB10.tape,hg3.output.trans hB10.output,bG hB10.size hg3.size,fun k hk=>(hg3.block k (by have:=hB10.size;omega) (fun e=>by have:=cI e;omega)).trans (hB10.block k hk)⟩
   .exact hrep3.mono fun k o hk ho _=>⟨fun h=>hk (hMN k h),ho⟩
 | [],hv=>exact hv.elim
 | [_],hv=>exact hv.2.elim
 | _::_::_::_,hv=>exact hv.2.2.elim
end Go.Sy
namespace Go.Sy
open Go Go.Proofs Tryz Ord
def aP2{h d:c4}{n:Nat}(h3:3<=n)(v:c8):iJ (peL h d n) v=h.getD 0 0*2*v 0+h.getD 0 0*v 1+h.getD (n-2) 0*v (n-2)+h.getD (n-2) 0*2*v (n-1)+(d.getD 0 0-d.getD (n-2) 0)*6*v n:=by
 have hX:iJ (Bm h ((List.replicate (n+1) 0).set n ((d.getD 0 0-d.getD (n-2) 0)*((6:Int):Rat)))) v=h.getD 0 0*2*v 0+h.getD 0 0*v 1+(d.getD 0 0-d.getD (n-2) 0)*6*v n:=by
  unfold Bm;rw[dq (by simp only[al,dU];omega),dq (by simp only[al,dU];omega),dq (by simp only[dU];omega),mo];rw[dQ,aG O,dQ,aG O,dQ,aG O,eM,eM,eM];have e2:((2:Int):Rat)=2:=rfl;have e6:((6:Int):Rat)=6:=rfl;rw[e2,e6]
  grind
 have hl:=al6 h ((List.replicate (n+1) 0).set n ((d.getD 0 0-d.getD (n-2) 0)*((6:Int):Rat)));rw[al,dU]at hl;unfold peL peR;rw[dq (by rw[al];omega),dq O,dQ,aG O,hX];have e2:((2:Int):Rat)=2:=rfl;rw[e2]
 grind
def aK1{n:Nat}(h3:3<=n)(v:c8):iJ (peQ n) v=v 0-v (n-1):=by
 unfold peQ peS;rw[dq (by simp only[al,dU];omega),dq (by simp only[al,dU];omega),dq (by simp only[dU];omega),mo];rw[dQ,aG O,dQ,aG O,dQ,aG O,eM,eM,eM];have e1:((1:Int):Rat)=1:=rfl;have e2:((-1:Int):Rat)=-1:=rfl;rw[e1,e2]
 grind
def Xn{x y:c4}(h3:3<=x.length)(hr:kj true x=true)(v:c8)(hv:v x.length=0)(hN:Ax (qk x y) v):∀j,j<x.length->v j=0:=by
 obtain⟨e1,e2,e3⟩:=oo (y:=y) (show 2<=x.length by omega) hN;rw[aP2 h3,hv]at e2;rw[aK1 h3]at e3;refine EL (h:=fun i=>(dX x).getD i 0) (fun i hi=>iX hr hi) (fun i h1 hi=>?_) fun M hM he=>?_
 .have:=e1 (i-1) O;rw[show i-1+1=i by omega,show i-1+2=i+1 by omega,hv]at this
  grind
 .have hv0:v 0=M\/v 0=-M:=by rcases he with h | h<;>rcases h with h | h<;>first | exact .inl b5 | exact .inr b5
  exact YD (a:=(dX x).getD (x.length-2) 0) (b:=(dX x).getD 0 0) (iX hr) (iX hr) (hM (x.length-2) O) (hM 1 O) hv0 b5
def Gy(v:c8)(t:Rat)(i F P S:Nat):Prop:=∃p q s,v i=p-q*v (i+1)-s*t/\0<=q/\q<=1/\s<=1-q/\-(1-q)<=s/\Fit F q/\Fit P p/\Fit S s
def Gy.mono{v:c8}{t:Rat}{i F P S F' P' S':Nat}(h:Gy v t i F P S)(hF:F<=F')(hP:P<=P')(hS:S<=S'):Gy v t i F' P' S':=by
 obtain⟨p,q,s,h1,h2,h3,h4,h5,h6,h7,h8⟩:=h;exact⟨p,q,s,h1,h2,h3,h4,h5,h6.mono hF,h7.mono hP,h8.mono hS⟩
def Gy.next{v:c8}{t:Rat}{i F P S H G:Nat}{a b g:Rat}(h:Gy v t i F P S)(ha:0<a)(hb:0<b)(fa:Fit H a)(fb:Fit H b)(fg:Fit G g)
  (e:a*v i+(a+b)*2*v (i+1)+b*v (i+2)=g):Gy v t (i+1) (F+(4*H+6)) (P+F+G+(4*H+8)) (S+F+(4*H+6)):=by
 obtain⟨p,q,s,hv,h0,h1,tI,oz,fq,fp,fs⟩:=h;have haq:0<=a*(1-q):=Rat.mul_nonneg (pb ha) b5;have has1:a*s<=a*(1-q):=pM tI (pb ha);have has2:a * -(1-q)<=a*s:=pM oz (pb ha);have hD0:0<(a+b)*2-a*q:=b5
 have hDs1:b+a*s<=(a+b)*2-a*q:=b5
 have hDs2:b-a*s<=(a+b)*2-a*q:=b5
 have hD:b<=(a+b)*2-a*q:=b5
 have fD:Fit (3*H+F+4) ((a+b)*2-a*q):=(((fa.add fb).mul ll).sub (fa.mul fq)).mono O;generalize hDD:(a+b)*2-a*q=D at *;have hne:D≠0:=by intro e;rw[e]at hD0;exact absurd hD0 bY
 have hb2:b/D*D=b:=jE hne;have hp2:(g-a*p)/D*D=g-a*p:=jE hne;have hs3:-(a*s)/D*D=-(a*s):=jE hne;refine⟨(g-a*p)/D,b/D,-(a*s)/D,?_,?_,?_,?_,?_,(fb.div fD).mono O,((fg.sub (fa.mul fp)).div fD).mono O,((fa.mul fs).neg.div fD).mono O⟩
 .generalize (g-a*p)/D=p' at *;generalize b/D=q' at *;generalize -(a*s)/D=s' at *
  have h3:(v (i+1)-(p'-q'*v (i+2)-s'*t))*D=0:=by
   rw[hv]at e;have e2:v (i+1)*D=v (i+1)*((a+b)*2-a*q):=by rw[hDD]
   grind
  rcases jf.1 h3 with h4 | h4
  .grind
  .exact absurd h4 hne
 .refine kQ.1 fun hn=>?_;have:=mc (show 0 < -(b/D) by grind) hD0
  grind
 .refine kQ.1 fun hn=>?_;have:=mc (show 0<b/D-1 by grind) hD0
  grind
 .refine kQ.1 fun hn=>?_;have:=mc (show 0 < -(a*s)/D-(1-b/D) by grind) hD0
  grind
 .refine kQ.1 fun hn=>?_;have:=mc (show 0 < -(1-b/D) - -(a*s)/D by grind) hD0
  grind
def ZJ(H F S:Nat):Nat->Nat
 | 0=>S
 | i+1=>ZJ H F S i+yU H F i+(4*H+6)
def ax2(H F S:Nat):∀{i j:Nat},i<=j->ZJ H F S i<=ZJ H F S j:=fun {i j} hij=>by
 induction j with
 | zero=>rw[show i=0 by omega];exact ah _
 | succ j ih=>
   by_cases e:i=j+1
   .rw[e];exact ah _
   .have:=ih O;rw[ZJ];omega
def Yz{n:Nat}{h g v:c8}{t:Rat}{F P S H G:Nat}(hpos:∀i,i+1<n->0<h i)(fh:∀i,i+1<n->Fit H (h i))(fg:∀i,i+2<n->Fit G (g (i+1)))
  (hin:∀i,i+2<n->h i*v i+(h i+h (i+1))*2*v (i+1)+h (i+1)*v (i+2)=g (i+1)) (h0:Gy v t 0 F P S):∀i,i+1<n->Gy v t i (yU H F i) (HG H G F P i) (ZJ H F S i)
 | 0,_=>h0.mono (by rw[yU];omega) (by rw[HG];omega) (by rw[ZJ];omega)
 | i+1,hi=>((Yz hpos fh fg hin h0 i O).next (hpos i O) (hpos (i+1) hi) (fh i O) (fh (i+1) hi) (fg i hi) (hin i hi)).mono (by rw[yU,yU,bt];omega) (by rw[HG];exact ah _) (by rw[ZJ];omega)
theorem YI{n:Nat}{v:c8}{t:Rat}{F P S:Nat}(hn:1<=n)(h:∀i,i+1<n->Gy v t i F P S)(hl:v (n-1)=t):∀j,j<n->∃p s,v (n-1-j)=p-s*t/\s<=1/\-1<=s/\Fit (1+j*(P+F+1)) p/\Fit (1+j*(S+F+1)) s
 | 0,_=>⟨0,-1,by rw[Uu,hl];grind,bY,bY,Fit.zero O,Fit.neg (CW O)⟩
 | j+1,hj=>by
   obtain⟨p1,s1,e1,g1,g2,f1,f2⟩:=YI hn h hl j O;obtain⟨p,q,s,e,h0,h1,tI,oz,fq,fp,fs⟩:=h (n-1-(j+1)) O;rw[show n-1-(j+1)+1=n-1-j by omega,e1]at e;have b1:q*s1<=q*1:=pM g1 h0;have b2:q * -1<=q*s1:=pM g2 h0;refine⟨p-q*p1,s-q*s1,by rw[e];grind,b5,b5,(fp.sub (fq.mul f1)).mono (by rw[bt];omega),(fs.sub (fq.mul f2)).mono (by rw[bt];omega)⟩
def bv7{x y:c4}(D:wI x y)(h3:3<=x.length):∃m,fQ (qk x y)=some m/\m.length=x.length/\vF x y m/\m.getD 0 0=m.getD (x.length-1) 0 /\
  (dX x).getD 0 0*2*m.getD 0 0+(dX x).getD 0 0*m.getD 1 0+(dX x).getD (x.length-2) 0*m.getD (x.length-2) 0+(dX x).getD (x.length-2) 0*2*m.getD (x.length-1) 0=((cD x y).getD 0 0-(cD x y).getD (x.length-2) 0)*6/\∀a∈m,Fit 800000 a:=by
 have h2:=D.h2;have h8:=D.h8;obtain⟨m,e1,e2,e3⟩:=qH (n:=x.length) (rows:=qk x y) (oY h2) (CV h2 (Qq _ _ _) (Ug _)) (Xn h3 D.hr);have he:=DN h2 e3;obtain⟨_,q1,q2⟩:=oo h2 e3;rw[aP2 h3,ij m,ij m,ij m,ij m,Gn]at q1;rw[aK1 h3,ij m,ij m]at q2;have hend:m.getD 0 0=m.getD (x.length-1) 0:=b5
 refine⟨m,e1,e2,he,hend,b5,fun a ha=>?_⟩;obtain⟨i,hi,rfl⟩:=lu.1 ha;have h0:Gy (fun j=>m.getD j 0) (m.getD 0 0) 0 1 1 1:=⟨0,0,-1,by dsimp only;grind,bY,bY,b7,b7,Fit.zero O,Fit.zero O,Fit.neg (CW O)⟩
 have hR:∀i,i+1<x.length->Gy (fun j=>m.getD j 0) (m.getD 0 0) i 2400 11600 9300:=fun i hi=>
  (Yz (h:=fun i=>(dX x).getD i 0) (g:=fun i=>((cD x y).getD i 0-(cD x y).getD (i-1) 0)*6) (fun i hi=>iX D.hr hi) (fun i _=>D.h i) (fun i _=>D.g i) (fun i hi=>he i hi) h0 i hi).mono (bG (OT 81 1 (show i<=7 by omega)) bY) (bG (OQ 81 328 1 1 (show i<=7 by omega)) bY) (bG (ax2 81 1 1 (show i<=7 by omega)) bY)
 have hB:∀j,j<x.length->∃p s,m.getD (x.length-1-j) 0=p-s*m.getD 0 0/\s<=1/\-1<=s/\Fit 100000 p/\Fit 90000 s:=fun j hj=>by
  obtain⟨p,s,g1,g2,g3,g4,g5⟩:=YI (n:=x.length) O hR hend.symm j hj;exact⟨p,s,g1,g2,g3,g4.mono O,g5.mono O⟩
 have ft:Fit 400000 (m.getD 0 0):=by
  obtain⟨p1,s1,g1,g2,g3,g4,g5⟩:=hB (x.length-2) O;obtain⟨p2,s2,k1,k2,k3,k4,k5⟩:=hB 1 O;rw[show x.length-1-(x.length-2)=1 by omega]at g1;rw[show x.length-1-1=x.length-2 by omega]at k1;rw[g1,k1,<-hend]at q1;have hp0:=iX D.hr (i:=0);have hpn:=iX D.hr (i:=x.length-2);have f0:=D.h 0;have fn:=D.h (x.length-2);have fg:=((D.d 0).sub (D.d (x.length-2))).mul qE;generalize (dX x).getD 0 0=a at *;generalize (dX x).getD (x.length-2) 0=b at *;generalize ((cD x y).getD 0 0-(cD x y).getD (x.length-2) 0)*6=g at *;have m1:a*s1<=a*1:=pM g2 (pb hp0);have m2:b*s2<=b*1:=pM k2 (pb hpn);have hE:0<a*2+b*2-a*s1-b*s2:=b5
  have hne:a*2+b*2-a*s1-b*s2≠0:=by intro e;rw[e]at hE;exact absurd hE bY
  have hv:m.getD 0 0=(g-a*p1-b*p2)/(a*2+b*2-a*s1-b*s2):=by
   have hc:=jE (a:=g-a*p1-b*p2) hne;generalize (g-a*p1-b*p2)/(a*2+b*2-a*s1-b*s2)=u at *;have:(m.getD 0 0-u)*(a*2+b*2-a*s1-b*s2)=0:=b5
   rcases jf.1 this with h | h
   .grind
   .exact absurd h hne
  rw[hv];exact(((fg.sub (f0.mul g4)).sub (fn.mul k4)).div ((((f0.mul ll).add (fn.mul ll)).sub (f0.mul g5)).sub (fn.mul k5))).mono O
 obtain⟨p,s,g1,_,_,g4,g5⟩:=hB (x.length-1-i) O;rw[show x.length-1-(x.length-1-i)=i by omega]at g1;rw[show m.getD i 0=m[i] by rw[fH,bM hi];rfl]at g1;rw[g1];exact(g4.sub (g5.mul ft)).mono O
end Go.Sy
