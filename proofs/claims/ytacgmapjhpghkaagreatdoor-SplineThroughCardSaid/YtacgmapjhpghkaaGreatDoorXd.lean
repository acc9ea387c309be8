/- Part. -/
import Derived.Test.YtacgmapjhpghkaaGreatDoorXc
set_option linter.all false
namespace Go.Sy
open Go Go.Proofs Tryz Ord
def aA5:Tr:=aX 76 [(G3 23),(G3 24)] [(some 3)] [42,43] [46,46] 46 true (aX 88 [(G3 20),(G3 25)] [(some 3)] [37,44] [46,46] 46 true (.need (.idx 10 (.u 11 0)) (.indexAddr 28 (tT 16) (tT 18)) 0 false (.need (.strow 10 3 (.u 11 0) 0 [(.u 18 0),(.u 18 1),(.u 18 2)]) (.store 46 (tT 46) (tT 32)) 0 false (.need (.idx 27 (.u 12 0)) (.indexAddr 28 (tT 19) (tT 21)) 0 false (.need (.strow 27 3 (.u 12 0) 0 [(.u 26 0),(.u 26 1),(.u 26 2)]) (.store 46 (tT 47) (tT 45)) 0 false (.retr [] 28))))))
def ar2:Tr:=bD .sub 3 34 1 2 0 3 (.need (.idx 10 (.u 19 0)) (.indexAddr 28 (tT 33) (tT 35)) 0 false (.need (.ldrow 10 (.u 19 0) 0 3 true) (.load 46 (tT 36)) 46 false (bD .sub 3 39 2 2 0 3 (eI 1 0 21 0 28 38 40 (dF 22 0 (some 3) 46 41 (.need (.call 113 [(WK 2)] [(some 3)]) (.call ⟨.value (.func 113),#[(.const (I3 2))],#[3]⟩) 46 false aA5))))))
def ax6:Tr:=bD .sub 3 23 2 2 0 3 (.need (.idx 10 (.u 13 0)) (.indexAddr 28 (tT 22) (tT 24)) 0 false (.need (.ldrow 10 (.u 13 0) 0 3 true) (.load 46 (tT 25)) 46 false (bD .sub 3 28 2 2 0 3 (eI 1 0 15 0 28 27 29 (dF 16 0 (some 3) 46 30 (aX 88 [(G3 14),(G3 17)] [(some 3)] [26,31] [46,46] 46 false ar2))))))
def aT3:Tr:=dF 7 0 (some 3) 46 12 (.need (.idx 0 (.k (.int .i64 0))) (.indexAddr 28 (tT 4) (.const (I3 0))) 0 false (.need (.strow 0 3 (.k (.int .i64 0)) 0 [(.u 6 0),(.u 6 1),(.u 6 2)]) (.store 46 (tT 14) (tT 10)) 0 false (.need (.idx 9 (.k (.int .i64 1))) (.indexAddr 28 (tT 5) (.const (I3 1))) 0 false (.need (.strow 9 3 (.k (.int .i64 1)) 0 [(.u 8 0),(.u 8 1),(.u 8 2)]) (.store 46 (tT 15) (tT 13)) 0 false (bD .sub 3 17 2 2 0 3 (bD .sub 3 20 1 2 0 3 ax6))))))
def aX3:Tr:=.need (.prim [(W 1 0),(WK 0)] none) (.indexAddr 28 (tT 6) (.const (I3 0))) 0 false (dF 3 0 (some 3) 46 7 (.need (.call 113 [(WK 2)] [(some 3)]) (.call ⟨.value (.func 113),#[(.const (I3 2))],#[3]⟩) 46 false (aX 76 [(G3 4),(G3 5)] [(some 3)] [8,9] [46,46] 46 false (.need (.prim [(W 1 0),(WK 0)] none) (.indexAddr 28 (tT 11) (.const (I3 0))) 0 false aT3))))
theorem Me:uB prog f140 (fun _=>none) [.lent 46 3, .ref 1, .ref 1]=aX3:=by kernel_rfl
def Bj:Tr:=.retr [] 6
def Bu:Tr:=.need (.strow 5 3 (.u 2 0) 0 [(.u 4 0),(.u 4 1),(.u 4 2)]) (.store 46 (.tmp 10) (.tmp 8)) 0 false Bj
def AU:Tr:=.need (.idx 5 (.u 2 0)) (.indexAddr 28 (.tmp 4) (.tmp 6)) 0 false Bu
def Bc:Tr:=.need (.strow 0 3 (.k (.int .i64 (0))) 0 [(.u 3 0),(.u 3 1),(.u 3 2)]) (.store 46 (.tmp 9) (.tmp 7)) 0 false AU
def BA:Tr:=.need (.idx 0 (.k (.int .i64 (0)))) (.indexAddr 28 (.tmp 3) (.const (I3 (0)))) 0 false Bc
def Bi:Tr:=.need (.call 113 [(WK (-1))] [(some 3)]) (.call ⟨.value (.func 113),#[(.const (I3 (-1)))],#[3]⟩) 46 true BA
def Bt:Tr:=.need (.call 113 [(WK (1))] [(some 3)]) (.call ⟨.value (.func 113),#[(.const (I3 (1)))],#[3]⟩) 46 true Bi
def Be:Tr:=.need (.prim [(W 1 0),(WK (1))] none) (.binOp .sub 3 (.tmp 5) (.const (I3 (1))) 3) 3 false Bt
theorem Jy:uB prog f141 (fun _=>none) [.lent 46 3, .ref 1]=Be:=by kernel_rfl
def Mv:Tr:=.ret [(.one (.c (.k (.bool true))))]
def Mc:Tr:=.ret [(.one (.c (.k (.bool true))))]
def FC:Tr:=.ret [(W 12 0)]
def GD:Tr:=.need (.prim [(W 11 0),(WK (0))] none) (.binOp .neq 3 (.tmp 32) (.const (I3 (0))) 3) 4 false FC
def EA:Tr:=.need (.call 67 [(.agg [(U 7 0),(U 7 1),(U 7 2)]),(.agg [(U 10 0),(U 10 1),(U 10 2)])] [none]) (.call ⟨.value (.func 67),#[(.tmp 26),(.tmp 31)],#[46,46]⟩) 3 false GD
def Ea:Tr:=.need (.prim [(W 9 0)] (some 3)) (.load 46 (.tmp 30)) 46 false EA
def Dv:Tr:=.need (.prim [(W 1 0),(W 8 0)] none) (.indexAddr 28 (.tmp 27) (.tmp 29)) 0 false Ea
def Je:Tr:=.need (.prim [(W 2 0),(WK (1))] none) (.binOp .sub 3 (.tmp 28) (.const (I3 (1))) 3) 3 false Dv
def JN:Tr:=.need (.prim [(W 6 0)] (some 3)) (.load 46 (.tmp 25)) 46 false Je
def Ks:Tr:=.need (.prim [(W 1 0),(WK (0))] none) (.indexAddr 28 (.tmp 24) (.const (I3 (0)))) 0 false JN
def Il:Tr:=.split (.u 5 0) Mc Ks
def KM:Tr:=.need (.prim [(W 2 0),(WK (3))] none) (.binOp .lss 3 (.tmp 20) (.const (I3 (3))) 3) 4 false Il
def IP:Tr:=.split (.u 4 0) Mv KM
def KJ:Tr:=.need (.prim [(W 3 0)] none) (.unOp .not 4 (.tmp 17)) 4 false IP
def IE:Tr:=.need (.call 129 [(W 0 0),(W 1 0)] [none]) (.call ⟨.value (.func 129),#[(.tmp 15),(.tmp 16)],#[28,28]⟩) 4 false KJ
theorem Tt:bO prog 74 (fun _=>none) (aP [1,1,0,0] (aU f51)) [(0, .v none),(1, .v none),(6, .ref 1)] ([34].map ResultVar.tmp) none false=IE:=by kernel_rfl
def IH:Tr:=.ret [(.one (.ref 0 [(.u 1 0)]))]
def Jo:Tr:=.need (.prim [(W 0 0)] none) (.call ⟨.builtin .len,#[(.tmp 13)],#[28]⟩) 3 false IH
theorem Rw:bO prog 74 (fun _=>none) (aP [1,0] (aU f51)) [(0, .v none)] ([6].map ResultVar.tmp) none false=Jo:=by kernel_rfl
def IB:Tr:=.ret [(.one (.ref 0 [(.u 2 0)])),(W 3 0)]
def LM:Tr:=.need (.call 132 [(W 0 0),(W 1 0)] [none]) (.call ⟨.value (.func 132),#[(.tmp 38),(.tmp 39)],#[28,28]⟩) 28 true IB
def Ji:Tr:=.need (.call 131 [(W 0 0)] [none]) (.call ⟨.value (.func 131),#[(.tmp 36)],#[28]⟩) 28 false LM
theorem Sk:bO prog 74 (fun _=>none) (aP [1,1,1,0] (aU f51)) [(0, .v none),(1, .v none)] ([7,8].map ResultVar.tmp) none false=Ji:=by kernel_rfl
def MC:Tr:=.ret [(W 11 0)]
def Lp:Tr:=.need (.call 133 [(W 0 0),(.agg [(U 10 0),(U 10 1),(U 10 2)]),(.one (.eZ 140 [(.ref 0 [(.u 2 0)]),(.ref 0 [(.u 0 0)])]))] [none]) (.call ⟨.value (.func 133),#[(.tmp 41),(.tmp 52),(.tmp 53)],#[3,46,184]⟩) 28 true MC
def JP:Tr:=.need (.call 76 [(.agg [(U 8 0),(U 8 1),(U 8 2)]),(.agg [(U 9 0),(U 9 1),(U 9 2)])] [(some 3)]) (.call ⟨.value (.func 76),#[(.tmp 50),(.tmp 51)],#[46,46]⟩) 46 false Lp
def Ku:Tr:=.need (.call 113 [(WK (6))] [(some 3)]) (.call ⟨.value (.func 113),#[(.const (I3 (6)))],#[3]⟩) 46 false JP
def Jb:Tr:=.need (.call 86 [(.agg [(U 4 0),(U 4 1),(U 4 2)]),(.agg [(U 7 0),(U 7 1),(U 7 2)])] [(some 3)]) (.call ⟨.value (.func 86),#[(.tmp 44),(.tmp 49)],#[46,46]⟩) 46 false Ku
def Md:Tr:=.need (.prim [(W 6 0)] (some 3)) (.load 46 (.tmp 48)) 46 false Jb
def KI:Tr:=.need (.prim [(W 1 0),(W 5 0)] none) (.indexAddr 28 (.tmp 45) (.tmp 47)) 0 false Md
def Ka:Tr:=.need (.prim [(W 0 0),(WK (2))] none) (.binOp .sub 3 (.tmp 46) (.const (I3 (2))) 3) 3 false KI
def Ie:Tr:=.need (.prim [(W 3 0)] (some 3)) (.load 46 (.tmp 43)) 46 false Ka
def Ig:Tr:=.need (.prim [(W 1 0),(WK (0))] none) (.indexAddr 28 (.tmp 42) (.const (I3 (0)))) 0 false Ie
theorem SO:bO prog 74 (fun _=>none) (aP [1,1,1,1,0] (aU f51)) [(6, .ref 1),(8, .v none),(7, .ref 1)] ([9].map ResultVar.tmp) none false=Ig:=by kernel_rfl
def LC:Tr:=.ret [(W 1 0)]
def LZ:Tr:=.need (.call 133 [(W 0 0),(.agg [(.c (.k (.slice none 0 0))),(.c (.k (.bool false))),(.c (.k (.slice none 0 0)))]),(.one (.eZ 141 [(.ref 0 [(.u 0 0)])]))] [none]) (.call ⟨.value (.func 133),#[(.tmp 55),(.tmp 56),(.tmp 57)],#[3,46,184]⟩) 28 true LC
theorem Tl:bO prog 74 (fun _=>none) (aP [1,1,1,1,1,0] (aU f51)) [(6, .ref 1)] ([10].map ResultVar.tmp) none false=LZ:=by kernel_rfl
def Jf:Tr:=.retr [(WK (0))] 5
def Jj:Tr:=.need (.strow 3 2 (.k (.int .i64 (0))) 0 [(.u 4 0),(.u 4 1)]) (.store 31 (.tmp 4) (.tmp 73)) 0 false Jf
def Jg:Tr:=.need (.call 139 [(W 0 0),(W 1 0),(W 2 0)] [(some 2)]) (.call ⟨.value (.func 139),#[(.tmp 70),(.tmp 71),(.tmp 72)],#[28,28,28]⟩) 31 true Jj
theorem SZ:Ai prog 74 (fun _=>none) (aP [1,1,1,1,1,1,1,0] (aU f51)) [(0, .v none),(1, .v none),(11, .v none)] 4 31 2 0 ([5].map ResultVar.tmp)=Jg:=by kernel_rfl
theorem bo9 (t:Array Value) (h:t.size=74):t = #[t.getD 0 Go.undef,t.getD 1 Go.undef,t.getD 2 Go.undef,t.getD 3 Go.undef,t.getD 4 Go.undef,t.getD 5 Go.undef,t.getD 6 Go.undef,t.getD 7 Go.undef,t.getD 8 Go.undef,t.getD 9 Go.undef,t.getD 10 Go.undef,t.getD 11 Go.undef,t.getD 12 Go.undef,t.getD 13 Go.undef,t.getD 14 Go.undef,t.getD 15 Go.undef,t.getD 16 Go.undef,t.getD 17 Go.undef,t.getD 18 Go.undef,t.getD 19 Go.undef,t.getD 20 Go.undef,t.getD 21 Go.undef,t.getD 22 Go.undef,t.getD 23 Go.undef,t.getD 24 Go.undef,t.getD 25 Go.undef,t.getD 26 Go.undef,t.getD 27 Go.undef,t.getD 28 Go.undef,t.getD 29 Go.undef,t.getD 30 Go.undef,t.getD 31 Go.undef,t.getD 32 Go.undef,t.getD 33 Go.undef,t.getD 34 Go.undef,t.getD 35 Go.undef,t.getD 36 Go.undef,t.getD 37 Go.undef,t.getD 38 Go.undef,t.getD 39 Go.undef,t.getD 40 Go.undef,t.getD 41 Go.undef,t.getD 42 Go.undef,t.getD 43 Go.undef,t.getD 44 Go.undef,t.getD 45 Go.undef,t.getD 46 Go.undef,t.getD 47 Go.undef,t.getD 48 Go.undef,t.getD 49 Go.undef,t.getD 50 Go.undef,t.getD 51 Go.undef,t.getD 52 Go.undef,t.getD 53 Go.undef,t.getD 54 Go.undef,t.getD 55 Go.undef,t.getD 56 Go.undef,t.getD 57 Go.undef,t.getD 58 Go.undef,t.getD 59 Go.undef,t.getD 60 Go.undef,t.getD 61 Go.undef,t.getD 62 Go.undef,t.getD 63 Go.undef,t.getD 64 Go.undef,t.getD 65 Go.undef,t.getD 66 Go.undef,t.getD 67 Go.undef,t.getD 68 Go.undef,t.getD 69 Go.undef,t.getD 70 Go.undef,t.getD 71 Go.undef,t.getD 72 Go.undef,t.getD 73 Go.undef]:=(oG t 74 h).trans rfl
def BF (h:List Rat) (r:List Rat):List Rat:=(r.set 0 (h.getD 0 0*((2:Int):Rat))).set 1 (h.getD 0 0)
def peR (h:List Rat) (n:Nat) (r:List Rat):List Rat:=((BF h r).set (n-2) ((BF h r).getD (n-2) 0+h.getD (n-2) 0)).set (n-1) ((BF h r).getD (n-1) 0+h.getD (n-2) 0*((2:Int):Rat))
def peS (n:Nat) (r:List Rat):List Rat:=(r.set 0 ((1:Int):Rat)).set (n-1) ((-1:Int):Rat)
theorem Wc (h r:List Rat):(BF h r).length=r.length:=by simp [BF]
theorem ax9 {A:Nat} {h r:List Rat} (hA:1<=A) (hh:∀ a∈h,Fit A a) (hr:∀ a∈r,Fit A a):∀ a∈BF h r,Fit (A+62) a:=
 dR (dR (fun a ha=>(hr a ha).mono (by omega)) ((aB hh 0 hA).mul (Fit.int (B:=62) (by omega) (by omega)))) ((aB hh 0 hA).mono (by omega))
theorem Kn (h:List Rat) (n A:Nat) (r:List Rat) (hh:∀ a∈h,Fit A a) (hr:∀ a∈r,Fit A a) (hn:3<=n) (hir:n<=r.length) (hA1:1<=A:=by omega) (hA:A<=1000000000:=by omega) (hs:h.length<1099511627776:=by omega) (hil:n-2<h.length:=by omega):iY prog 140 46 3 [] [(.one (.bG ([sQ h])):aJ),(.one (.bG ([.int .i64 (n:Int)])):aJ)] (rQ r) [] (rQ (peR h n r)):=by
 refine kU (a1:=[]) (a2:=[.ref 1, .ref 1]) (i1:=[]) (i2:=[.ref ([sQ h]), .ref ([.int .i64 (n:Int)])]) (hints:=(fun _=>none)) fo (by kernel_rfl) func140 trivial ⟨rfl,rfl,trivial⟩ (by kernel_rfl) ?_ ?_ ?_ ?_
 .first | (simp [peR,BF];done) | (intro t ht;obtain ⟨a,_,rfl⟩:=eH.1 ht;rfl)
 .first | (simp [peR,BF];done) | (intro t ht;obtain ⟨a,_,rfl⟩:=eH.1 ht;rfl)
 .first | (simp [peR,BF];done) | (intro t ht;obtain ⟨a,_,rfl⟩:=eH.1 ht;rfl)
 dsimp only [aF,aG];rw [Me];dsimp only [List.map,In.env,aF,aG];obtain ⟨x1,hx1⟩:=kK (l:=r) (i:=0);obtain ⟨x2,hx2⟩:=kK (l:=r.set 0 (h.getD 0 0*((2:Int):Rat))) (i:=1) (by rw [List.length_set];omega);have hal:=Wc h r;have haf:=ax9 hA1 hh hr;have hx3:(BF h r)[n-2]? = some ((BF h r).getD (n-2) 0):=aH;obtain ⟨x4,hx4⟩:=kK (l:=(BF h r).set (n-2) ((BF h r).getD (n-2) 0+h.getD (n-2) 0)) (i:=n-1) (by rw [List.length_set];omega);have hx5:(BF h r)[n-1]? = some ((BF h r).getD (n-1) 0):=aH;apply vn (aI aZ (m:=0) (by omega) rfl (aH (show 0<h.length by omega))) rfl;apply vn (aM bU (by decide) (by simp) (.inl rfl)) rfl;apply aA (cK 2) rfl;apply aA (eR _ _ A 62 (aB hh _ hA1) (Fit.int (by omega) (by omega))) rfl;dsimp only [aF,aG];apply vn (aI aZ (m:=0) (by omega) rfl (aH (show 0<h.length by omega))) rfl;apply vn (aM bU (by decide) (by simp) (.inl rfl)) rfl;refine bX rfl rfl (by omega) (by omega) ?_;refine fJ (f:=qC) (d':=h.getD 0 0*((2:Int):Rat)) rfl rfl (by omega) rfl hx1 rfl ?_;refine bX rfl rfl (by omega) (by rw [List.length_set];omega) ?_;refine fJ (f:=qC) (d':=h.getD 0 0) rfl rfl (by omega) rfl hx2 rfl ?_;rw [show List.map qC ((r.set (Int.toNat 0) (h.getD 0 0*((2:Int):Rat))).set (Int.toNat 1) (h.getD 0 0))=rQ (BF h r) from rfl];dsimp only [aF,aG];apply vn (aE (by omega) (by omega)) rfl;apply vn (aE (by omega) (by omega)) rfl;apply vn (aE (by omega) (by omega)) rfl;refine bX rfl rfl (by omega) (by omega) ?_;refine PY (f:=qC) (m:=n-2) (d:=(BF h r).getD (n-2) 0) rfl rfl (by omega) (by omega) hx3 (.inl rfl) rfl ?_;dsimp only [aF,aG,TG,List.drop,List.take];apply vn (aE (by omega) (by omega)) rfl;dsimp only [aF,aG];apply vn (aI aZ (m:=n-2) (by omega) (by omega) (aH (show n-2<h.length by omega))) rfl;apply vn (aM bU (by decide) (by simp) (.inl rfl)) rfl;apply aA (jD _ _ _ A (aB haf _) (aB hh _ hA1)) rfl;apply vn (aE (by omega) (by omega)) rfl;dsimp only [aF,aG];refine bX rfl rfl (by omega) (by omega) ?_;refine PY (f:=qC) (m:=n-1) (d:=(BF h r).getD (n-1) 0) rfl rfl (by omega) (by omega) hx5 (.inl rfl) rfl ?_;dsimp only [aF,aG,TG,List.drop,List.take];apply vn (aE (by omega) (by omega)) rfl;dsimp only [aF,aG];apply vn (aI aZ (m:=n-2) (by omega) (by omega) (aH (show n-2<h.length by omega))) rfl;apply vn (aM bU (by decide) (by simp) (.inl rfl)) rfl;apply aA (cK 2) rfl;apply aA (eR _ _ A 62 (aB hh _ hA1) (Fit.int (by omega) (by omega))) rfl;dsimp only [aF,aG];apply aA (jD _ _ _ _ (aB haf _) ((aB hh _ hA1).mul (Fit.int (B:=62) (by omega) (by omega)))) rfl;refine bX rfl rfl (by omega) (by omega) ?_;refine fJ (f:=qC) (d':=(BF h r).getD (n-2) 0+h.getD (n-2) 0) rfl rfl (by omega) (show ((n:Int)-2).toNat=n-2 by omega) hx3 rfl ?_;refine bX rfl rfl (by omega) (by rw [List.length_set];omega) ?_;refine fJ (f:=qC) (d':=(BF h r).getD (n-1) 0+h.getD (n-2) 0*((2:Int):Rat)) rfl rfl (by omega) (show ((n:Int)-1).toNat=n-1 by omega) hx4 rfl ?_;dsimp only [aF,aG];exact jZ rfl rfl
theorem Iz (n:Nat) (r:List Rat) (hn:3<=n) (hir:n<=r.length) (hs:r.length<1099511627776):iY prog 141 46 3 [] [(.one (.bG ([.int .i64 (n:Int)])):aJ)] (rQ r) [] (rQ (peS n r)):=by
 refine kU (a1:=[]) (a2:=[.ref 1]) (i1:=[]) (i2:=[.ref ([.int .i64 (n:Int)])]) (hints:=(fun _=>none)) fo (by kernel_rfl) func141 trivial ⟨rfl,trivial⟩ (by kernel_rfl) ?_ ?_ ?_ ?_
 .first | (simp [peS];done) | (intro t ht;obtain ⟨a,_,rfl⟩:=eH.1 ht;rfl)
 .first | (simp [peS];done) | (intro t ht;obtain ⟨a,_,rfl⟩:=eH.1 ht;rfl)
 .first | (simp [peS];done) | (intro t ht;obtain ⟨a,_,rfl⟩:=eH.1 ht;rfl)
 dsimp only [aF,aG];rw [Jy];dsimp only [List.map,In.env,aF,aG];obtain ⟨x1,hx1⟩:=kK (l:=r) (i:=0);obtain ⟨x2,hx2⟩:=kK (l:=r.set 0 ((1:Int):Rat)) (i:=n-1) (by rw [List.length_set];omega);apply vn (aE (by omega) (by omega)) rfl;apply aA (cK 1) rfl;apply aA (cK (-1)) rfl;refine bX rfl rfl (by omega) (by omega) ?_;refine fJ (f:=qC) (d':=((1:Int):Rat)) rfl rfl (by omega) rfl hx1 rfl ?_;dsimp only [aF,aG];refine bX rfl rfl (by omega) (by rw [List.length_set];omega) ?_;refine fJ (f:=qC) (d':=((-1:Int):Rat)) rfl rfl (by omega) (show ((n:Int)-1).toNat=n-1 by omega) hx2 rfl ?_;dsimp only [aF,aG];exact jZ rfl rfl
def YN (h d:List Rat) (n:Nat):List Rat:=peR h n ((List.replicate (n+1) 0).set n ((d.getD 0 0-d.getD (n-2) 0)*((6:Int):Rat)))
def YM (n:Nat):List Rat:=peS n ((List.replicate (n+1) 0).set n 0)
theorem Oj (h d:List Rat) (n:Nat):(YN h d n).length=n+1:=by simp [YN,peR,BF]
theorem PX (n:Nat):(YM n).length=n+1:=by simp [YM,peS]
theorem aS4 (x y:List Rat) (A:Nat) (hxy:y.length=x.length) (hp:∀ a∈x,Fit A a) (hq:∀ a∈y,Fit A a) (hA1:1<=A) (hg:mO x y=true) (h3:3<=x.length) (he:y.getD 0 0=y.getD (x.length-1) 0) (hl:x.length<1099511627776:=by omega) (hA:A<=1073741824:=by omega):vc prog (fun o=>cB o (.ret [.one (.bool false)])) (bO prog 74 (fun _=>none) (aP [1,1,0,0] (aU f51)) [(0, .v none),(1, .v none),(6, .ref 1)] ([34].map ResultVar.tmp) none false) ([.v (.one (sQ x)), .v (.one (sQ y)), .ref ([.int .i64 (x.length:Int)])].map In.env) []:=by
 rw [Tt];dsimp only [List.map,In.env,aF,aG];apply aA (rA x y A hp hA1 hA hl) rfl;rw [hg];apply vn fO rfl;refine nY false rfl (fun h=>by cases h) (fun _=>?_);apply vn bL rfl;refine vs _ rfl ?_ ?_<;>intro h5
 .exact absurd h5 (by omega)
 apply vn (aI aZ (m:=0) (by omega) rfl (aH (show 0<y.length by omega))) rfl;dsimp only [aF,aG];apply vn (aM bU (by decide) (by simp) (.inl rfl)) rfl;apply vn (aE (by omega) (by omega)) rfl;dsimp only [aF,aG];apply vn (aI aZ (m:=x.length-1) (by omega) (by omega) (aH (show x.length-1<y.length by omega))) rfl;apply vn (aM bU (by decide) (by simp) (.inl rfl)) rfl;apply aA (fF _ _ A A (aB hq _ hA1) (aB hq _ hA1)) rfl;rw [lA.2 he];apply vn cT rfl;exact aK rfl
theorem bg5 (x:List Rat):vc prog (fun o=>cB o (.ret [.one (.bG [.int .i64 (x.length:Int)])])) (bO prog 74 (fun _=>none) (aP [1,0] (aU f51)) [(0, .v none)] ([6].map ResultVar.tmp) none false) ([.v (.one (sQ x))].map In.env) []:=by
 rw [Rw];dsimp only [List.map,In.env,aF,aG];apply vn (aO aZ (aL _)) rfl;exact aK rfl
theorem ba1 (x y:List Rat) (A:Nat) (hA1:1<=A) (hx:∀ a∈x,Fit A a) (hy:∀ a∈y,Fit A a) (h2:2<=x.length) (hxy:y.length=x.length) (hA:A<=100000000:=by omega) (hs:x.length<1099511627776:=by omega):vc prog (fun o=>cB o (.ret [.one (.bG [sQ (cJ x)]), .one (sQ (bF x y))])) (bO prog 74 (fun _=>none) (aP [1,1,1,0] (aU f51)) [(0, .v none),(1, .v none)] ([7,8].map ResultVar.tmp) none false) ([.v (.one (sQ x)), .v (.one (sQ y))].map In.env) []:=by
 rw [Sk];dsimp only [List.map,In.env,aF,aG];apply aA (kG x A hx h2 hA1 hs).DT rfl;apply aA (mH x y A hx hy h2 hxy hA1 hs hA).DT rfl;exact aK rfl
theorem aZ2 (n0:Nat) (h d:List Rat) (n A:Nat) (hh:∀ a∈h,Fit A a) (hd:∀ a∈d,Fit A a) (h3:3<=n) (hA1:1<=A:=by omega) (hA:A<=100000000:=by omega) (hn:n<1099511627775:=by omega) (hl:h.length+1=n:=by omega) (hdl:d.length+1=n:=by omega):vc prog (fN prog n0 (.ret [.one (.gN n0 46 3 (rQ (YN h d n)))])) (bO prog 74 (fun _=>none) (aP [1,1,1,1,0] (aU f51)) [(6, .ref 1),(8, .v none),(7, .ref 1)] ([9].map ResultVar.tmp) none false) ([.ref ([.int .i64 (n:Int)]), .v (.one (sQ d)), .ref ([sQ h])].map In.env) []:=by
 rw [SO];dsimp only [List.map,In.env,aF,aG];apply vn (aI aZ (m:=0) (by omega) rfl (aH (show 0<d.length by omega))) rfl;apply vn (aM bU (by decide) (by simp) (.inl rfl)) rfl;apply vn (aE (by omega) (by omega)) rfl;dsimp only [aF,aG];apply vn (aI aZ (m:=n-2) (by omega) (by omega) (aH (show n-2<d.length by omega))) rfl;apply vn (aM bU (by decide) (by simp) (.inl rfl)) rfl;apply aA (jG _ _ A A (aB hd _ hA1) (aB hd _ hA1)) rfl;apply aA (cK 6) rfl;dsimp only [aF,aG];apply aA (eR _ _ (A+A+1) 62 ((aB hd _ hA1).sub (aB hd _ hA1)) (Fit.int (by omega) (by omega))) rfl;dsimp only [aF,aG];have hbase:∀ a∈(List.replicate (n+1) 0).set n ((d.getD 0 0-d.getD (n-2) 0)*((6:Int):Rat)),Fit (A+A+63) a:=dR (oZ (by omega)) ((((aB hd 0 hA1).sub (aB hd (n-2) hA1)).mul (Fit.int (B:=62) (by omega) (by omega))).mono (by omega));refine Sc (ts:=[.one (.gN n0 46 3 (rQ (YN h d n)))]) (fN.De (No n _ 140 [.bG [sQ h], .bG [.int .i64 (n:Int)]] (YN h d n) (by omega) (Oj _ _ _) (Kn h n (A+A+63) _ (fun a ha=>(hh a ha).mono (by omega)) hbase h3 (by rw [List.length_set,List.length_replicate];omega))) lT) rfl ?_;dsimp only [aF,aG];exact Az rfl
theorem aT2 (n0 n:Nat) (h3:3<=n) (hn:n<1099511627775:=by omega):vc prog (fN prog n0 (.ret [.one (.gN n0 46 3 (rQ (YM n)))])) (bO prog 74 (fun _=>none) (aP [1,1,1,1,1,0] (aU f51)) [(6, .ref 1)] ([10].map ResultVar.tmp) none false) ([.ref ([.int .i64 (n:Int)])].map In.env) []:=by
 rw [Tl];dsimp only [List.map,In.env,aF,aG];refine Sc (ts:=[.one (.gN n0 46 3 (rQ (YM n)))]) (fN.De (nQ.args (No n 0 141 [.bG [.int .i64 (n:Int)]] (YM n) (by omega) (PX n) (Iz n _ h3 (by rw [List.length_set,List.length_replicate];omega) (by rw [List.length_set,List.length_replicate];omega))) ⟨.inl rfl,kY, .inl rfl,trivial⟩) lT) rfl ?_;dsimp only [aF,aG];exact Az rfl
theorem bn4 (x y d:List Rat) (A:Nat) (hA1:1<=A) (hA:A<=10000000) (hx:∀ a∈x,Fit A a) (hy:∀ a∈y,Fit A a) (hd:∀ a∈d,Fit A a) (h2:2<=x.length) (hxy:y.length=x.length) (hxd:d.length=x.length) (hsh:∀ i,i+1<x.length->aQ prog 205 [.one (sQ (YA x y d i)),qT (-(x.getD i 0))] (.ret [.one (sQ (fP x y d i))])) (hs:x.length<1099511627776:=by omega):vc prog (fun o=>o = .retr [.one (.int .i64 0)] ([pB x ((List.range (x.length-1)).map (fP x y d))])) (Ai prog 74 (fun _=>none) (aP [1,1,1,1,1,1,1,0] (aU f51)) [(0, .v none),(1, .v none),(11, .v none)] 4 31 2 0 ([5].map ResultVar.tmp)) ([.v (.one (sQ x)), .v (.one (sQ y)), .v (.one (sQ d))].map In.env ++ [.rows ([yS])]) []:=by
 rw [SZ];dsimp only [List.map,In.env,aF,aG];apply aA (yO x y d A hA1 hA hx hy hd hs h2 hxy hxd hsh) rfl;refine NM (ts:=[yS]) (us:=[pB x ((List.range (x.length-1)).map (fP x y d))]) rfl rfl (by omega) (cells:=yS) rfl rfl ?_;dsimp only [aF,aG];exact jZ rfl rfl
open Go Go.Proofs Go.RowKit Tryz Ord
attribute [local go_sem] Oper.semAt_some
def pY (x y:List Rat):List (List Rat):=uA x y (YN (cJ x) (bF x y) x.length) (YM x.length)
theorem Yf (x y:List Rat):(pY x y).map rQ=jS (cJ x) (bF x y) x.length ++ [rQ (YN (cJ x) (bF x y) x.length),rQ (YM x.length)]:=by
 rw [pY,uA,List.map_append,List.map_map];rfl
set_option maxRecDepth 100000 in
set_option maxHeartbeats 2000000 in
theorem SH (x y sol:List Rat) (A B:Nat) (hx:∀ a∈x,Fit A a) (hy:∀ a∈y,Fit A a) (hsf:∀ a∈sol,Fit A a) (h3:3<=x.length) (hxy:y.length=x.length) (hxs:sol.length=x.length) (hgv:mO x y=true) (hye:y.getD 0 0=y.getD (x.length-1) 0)
  (hT:Ia x.length (x.length+1) B (pY x y)) (hg:∀ k,k<=x.length->gA B k<=1000000000) (hsol:fG (pY x y)=some sol)
  (hsh:∀ i,i+1<x.length->aQ prog 205 [.one (sQ (YA x y sol i)),qT (-(x.getD i 0))] (.ret [.one (sQ (fP x y sol i))])) (hA1:1<=A:=by omega) (hA:A<=10000000:=by omega) (hs:x.length<549755813000:=by omega) (hB:1<=B:=by omega) :
  aQ prog 51 [.one (sQ x), .one (sQ y)] (.ret [.agg (pB x ((List.range (x.length-1)).map (fP x y sol))), .one (.int .i64 0)]):=by
 have h2:2<=x.length:=by omega
 refine ⟨bK (by kernel_rfl),fun M w vs hM hv=>?_⟩
 match vs,hv with
 | [v0,v1],⟨hv0,hv1,_⟩=>
   have hv0:(aD.slice 3 (rQ x)).rep M w v0:=hv0;have hv1:(aD.slice 3 (rQ y)).rep M w v1:=hv1;have o0:=aD.one _ hv0;have o1:=aD.one _ hv1;obtain ⟨n0,hn0⟩:∃ n0,w.heap.size=n0:=⟨_,rfl⟩
   refine calls_of_wp func51 rfl ?_;simp only [ntmps51,List.size_toArray,List.length_cons,List.length_nil,Nat.reduceAdd,Nat.reduceSub,Array.replicate_succ,Array.replicate_zero,List.push_toArray,List.append_toArray,List.nil_append,List.cons_append];refine wp_seq ?_;generalize hK:Exit.then _ _=K
   go_wp2
   rw [<-hK];clear hK K;show Code.wp _ _ _ _ _;generalize hW1:World.alloc w (.cells #[.slice none 0 0, .slice none 0 0] 31)=W1;have sM:W1.heap.size=n0+1:=by rw [<-hW1];simp [hn0]
   have hB1:Below w.heap.size w W1:=by rw [<-hW1];exact (Below.refl _ w).alloc (aY _) _
   have hF8:W1.heap[n0]? = some (.cells #[.slice none 0 0, .slice none 0 0] 31 (0,0)):=by
    rw [<-hW1,<-hn0];exact heap_alloc_new w (.cells #[.slice none 0 0, .slice none 0 0] 31)
   clear hW1;generalize ha:(Act.mk _ _)=a1;have t0:a1.tmps.getD 0 Go.undef=v0:=by rw [<-ha];rfl
   have t1:a1.tmps.getD 1 Go.undef=v1:=by rw [<-ha];rfl
   have t4:a1.tmps.getD 4 Go.undef = .pointer (some ⟨n0,0,none⟩):=by rw [<-ha];rfl
   have hsz:a1.tmps.size=74:=by rw [<-ha];rfl
   have hdf:a1.defers = []:=by rw [<-ha]
   clear ha;obtain ⟨N,hN⟩:∃ N:Nat->Prop,∀ k,N k↔M k\/k=n0:=⟨_,fun k=>Iff.rfl⟩
   have hk1:bI M w N W1:=fun k o hk ho _=>by
    have hlt:=(cL.1 ho).1;exact ⟨fun h=>((hN k).1 h).elim hk (by omega),(hB1.block k hlt).trans ho⟩
   have hF:cH N W1:=⟨fun k hk=>((hN k).1 hk).elim (fun h=>by have:=hM.1 k h;omega) (by omega),hM.2.eC hk1⟩
   have e0:=aD.mono _ hk1 hv0;have e1:=aD.mono _ hk1 hv1;have hMN:∀ k,M k->N k:=fun k h=>(hN k).2 (.inl h);have hg4:N n0:=(hN _).2 (.inr rfl);clear hk1;refine aB6 ?_;have e0a:(aD.slice 3 (rQ x)).rep N W1 (a1.tmps.getD 0 Go.undef):=by rw [t0];exact e0
   refine wpIn_seq (wpIn_wide.2 (bR iG.wp (n0:=W1.heap.size) (N:=74) (ins:=[(0, .v none)]) (xs:=[.v (.one (sQ x))]) fo ⟨rfl,trivial⟩ (tX (bg5 x)) (by kernel_rfl) (aY _) hF hsz hdf ⟨e0a,trivial⟩ ?_));intro a2 W2 us2 hag2 hb2 hsz2 hdf2 hr2 hrep2;have hus:=bJ hr2;subst hus;have e6:(aD.bG [.int .i64 (x.length:Int)]).rep N W2 (a2.tmps.getD 6 Go.undef):=hrep2.1;replace e0:=aD.mono _ (bI.below hb2) e0;replace e1:=aD.mono _ (bI.below hb2) e1;replace t0:=(aN hag2 0 (by kernel_rfl)).trans t0;replace t1:=(aN hag2 1 (by kernel_rfl)).trans t1;replace t4:=(aN hag2 4 (by kernel_rfl)).trans t4;have hB2:=hB1.trans (hb2.mono hB1.size);have hF8':=(hb2.block _ (by omega)).trans hF8;have hF2:=bH hF hb2;have hn2:=hb2.size;clear hag2 hb2 hr2 hrep2 hsz hdf e0a hF8 hF hB1;show Code.wpIn _ _ _ _ _ _ _;have e0a:(aD.slice 3 (rQ x)).rep N W2 (a2.tmps.getD 0 Go.undef):=by rw [t0];exact e0
   have e1a:(aD.slice 3 (rQ y)).rep N W2 (a2.tmps.getD 1 Go.undef):=by rw [t1];exact e1
   refine wpIn_seq (wpIn_seq (wpIn_wide.2 (bR iG.wp (n0:=W2.heap.size) (N:=74) (ins:=[(0, .v none),(1, .v none),(6, .ref 1)]) (xs:=[.v (.one (sQ x)), .v (.one (sQ y)), .ref [.int .i64 (x.length:Int)]]) fo ⟨rfl,rfl,rfl,trivial⟩ (tX (aS4 x y A hxy hx hy hA1 hgv h3 hye)) (by kernel_rfl) (aY _) hF2 hsz2 hdf2 ⟨e0a,e1a,e6,trivial⟩ ?_)));intro a3 W3 us3 hag3 hb3 hsz3 hdf3 hr3 hrep3;have hus:=bJ hr3;subst hus;have h34:a3.tmps.getD 34 Go.undef = .bool false:=hrep3.1.1;show Code.wpIn _ _ _ _ _ _ _;refine wpIn_cond (t:=false) h34 (wpIn_skip ?_);replace e0:=aD.mono _ (bI.below hb3) e0;replace e1:=aD.mono _ (bI.below hb3) e1;replace e6:(aD.bG [.int .i64 (x.length:Int)]).rep N W3 (a3.tmps.getD 6 Go.undef):=by rw [aN hag3 6 (by kernel_rfl)];exact aD.mono _ (bI.below hb3) e6
   replace t0:=(aN hag3 0 (by kernel_rfl)).trans t0;replace t1:=(aN hag3 1 (by kernel_rfl)).trans t1;replace t4:=(aN hag3 4 (by kernel_rfl)).trans t4;have hB3:=hB2.trans (hb3.mono hB2.size);have hF83:=(hb3.block _ (by omega)).trans hF8';have hF3:=bH hF2 hb3;have hn3:=hb3.size;clear hag3 hb3 hr3 hrep3 hsz2 hdf2 e0a e1a hF8' hF2 hB2 h34;show Code.wpIn _ _ _ _ _ _ _;have e0a:(aD.slice 3 (rQ x)).rep N W3 (a3.tmps.getD 0 Go.undef):=by rw [t0];exact e0
   have e1a:(aD.slice 3 (rQ y)).rep N W3 (a3.tmps.getD 1 Go.undef):=by rw [t1];exact e1
   refine wpIn_seq (wpIn_wide.2 (bR iG.wp (n0:=W3.heap.size) (N:=74) (ins:=[(0, .v none),(1, .v none)]) (xs:=[.v (.one (sQ x)), .v (.one (sQ y))]) fo ⟨rfl,rfl,trivial⟩ (tX (ba1 x y A hA1 hx hy h2 hxy)) (by kernel_rfl) (aY _) hF3 hsz3 hdf3 ⟨e0a,e1a,trivial⟩ ?_));intro a4 W4 us4 hag4 hb4 hsz4 hdf4 hr4 hrep4;have hus:=bJ hr4;subst hus;have e7:(aD.bG [sQ (cJ x)]).rep N W4 (a4.tmps.getD 7 Go.undef):=hrep4.1;have e8:(aD.slice 3 (rQ (bF x y))).rep N W4 (a4.tmps.getD 8 Go.undef):=hrep4.2.1;replace e0:=aD.mono _ (bI.below hb4) e0;replace e1:=aD.mono _ (bI.below hb4) e1;replace e6:(aD.bG [.int .i64 (x.length:Int)]).rep N W4 (a4.tmps.getD 6 Go.undef):=by rw [aN hag4 6 (by kernel_rfl)];exact aD.mono _ (bI.below hb4) e6
   replace t0:=(aN hag4 0 (by kernel_rfl)).trans t0;replace t1:=(aN hag4 1 (by kernel_rfl)).trans t1;replace t4:=(aN hag4 4 (by kernel_rfl)).trans t4;have hB4:=hB3.trans (hb4.mono hB3.size);have hF84:=(hb4.block _ (by omega)).trans hF83;have hF4:=bH hF3 hb4;have hn4:=hb4.size;clear hag4 hb4 hr4 hrep4 hsz3 hdf3 e0a e1a hF83 hF3 hB3;have hwl:=gK x;have hsl:=rO x y;have hwf:∀ a∈cJ x,Fit (4*A+2) a:=fun a ha=>(lS hA1 hx a ha).mono (by omega);have hsf':=qV hx hy hA1;show Code.wpIn _ _ _ _ _ _ _;refine wpIn_seq (wpIn_wide.2 (bR iG.wp (n0:=W4.heap.size) (N:=74) (ins:=[(6, .ref 1),(8, .v none),(7, .ref 1)]) (xs:=[.ref [.int .i64 (x.length:Int)], .v (.one (sQ (bF x y))), .ref [sQ (cJ x)]]) fo ⟨rfl,rfl,rfl,trivial⟩ (aZ2 W4.heap.size (cJ x) (bF x y) x.length (4*A+2) hwf hsf' h3) (by kernel_rfl) (aY _) hF4 hsz4 hdf4 ⟨e6,e8,e7,trivial⟩ ?_));intro a5 W5 us5 hag5 hb5 hsz5 hdf5 hr5 hrep5;have hus:=bJ hr5;subst hus;obtain ⟨b0,hb0n,hrow0⟩:=aD.gN.rowAt hrep5.1;have hkb:=pR (M:=N) hb5 hb0n;replace e0:=aD.mono _ hkb e0;replace e1:=aD.mono _ hkb e1;replace e6:(aD.bG [.int .i64 (x.length:Int)]).rep (Mb N b0) W5 (a5.tmps.getD 6 Go.undef):=by rw [aN hag5 6 (by kernel_rfl)];exact aD.mono _ hkb e6
   replace t0:=(aN hag5 0 (by kernel_rfl)).trans t0;replace t1:=(aN hag5 1 (by kernel_rfl)).trans t1;replace t4:=(aN hag5 4 (by kernel_rfl)).trans t4;have hB5:=hB4.trans (hb5.mono hB4.size);have hF85:=(hb5.block _ (by omega)).trans hF84;have hF5:=tK hF4 hb5 hb0n hrow0.lt;have hn5:=hb5.size;clear hag5 hb5 hr5 hrep5 hsz4 hdf4 hF84 hF4 hB4 hkb e7 e8;show Code.wpIn _ _ _ _ _ _ _;refine wpIn_seq (wpIn_wide.2 (bR iG.wp (n0:=W5.heap.size) (N:=74) (ins:=[(6, .ref 1)]) (xs:=[.ref [.int .i64 (x.length:Int)]]) fo ⟨rfl,trivial⟩ (aT2 W5.heap.size x.length h3) (by kernel_rfl) (aY _) hF5 hsz5 hdf5 ⟨e6,trivial⟩ ?_));intro a6 W6 us6 hag6 hb6 hsz6 hdf6 hr6 hrep6;have hus:=bJ hr6;subst hus;obtain ⟨b1,hb1n,hrow1⟩:=aD.gN.rowAt hrep6.1;have hlt0:=hrow0.lt
   have hMp:∀ k,Mp N b0 b1 k->Mb (Mb N b0) b1 k:=fun k h=>h.elim (fun h=>.inl (.inl h)) fun h=>by
    rcases List.mem_cons.1 h with e | h
    .exact .inl (.inr e)
    .exact .inr (List.mem_singleton.1 h)
   have hkp:bI (Mb N b0) W5 (Mp N b0 b1) W6:=fun k o hk ho hc=>by
    obtain ⟨h1,h2⟩:=pR (M:=Mb N b0) hb6 hb1n k o hk ho hc;exact ⟨fun h=>h1 (hMp k h),h2⟩
   have hr0:cU 46 3 (rQ (YN (cJ x) (bF x y) x.length)) (Mp N b0 b1) W6 (a6.tmps.getD 9 Go.undef) b0:=by
    rw [aN hag6 9 (by kernel_rfl)];exact (hrow0.in (N:=Mb N b0) (fun k h=>h)).mono hkp (hb6.block b0 hlt0)
   have hr1:cU 46 3 (rQ (YM x.length)) (Mp N b0 b1) W6 (a6.tmps.getD 10 Go.undef) b1:=hrow1.in hMp;have hM0:=hrow0.off;have hM1:¬ N b1:=fun h=>hrow1.off (.inl h);replace e0:=aD.mono _ hkp e0;replace e1:=aD.mono _ hkp e1;replace t0:=(aN hag6 0 (by kernel_rfl)).trans t0;replace t1:=(aN hag6 1 (by kernel_rfl)).trans t1;replace t4:=(aN hag6 4 (by kernel_rfl)).trans t4;have hB6:=hB5.trans (hb6.mono hB5.size);have hF86:=(hb6.block _ (by omega)).trans hF85;have hF6:=jL (tK hF5 hb6 hb1n hrow1.lt) hMp;have hn6:=hb6.size;have hne:b0≠b1:=by omega
   have one0:=hr0.one;have Bz:=hr1.one;clear hag6 hb6 hr6 hrep6 hsz5 hdf5 hF85 hF5 hB5 hkp e6 hrow0 hrow1 hMp;obtain ⟨t,ds⟩:=a6;dsimp only at hsz6 hdf6 t0 t1 t4 hr0 hr1 one0 Bz;subst hdf6;rw [bo9 t hsz6,t0,t1,t4];generalize t.getD 9 Go.undef=u0 at hr0 one0 ⊢;generalize t.getD 10 Go.undef=u1 at hr1 Bz ⊢;generalize t.getD 2 Go.undef=y2;generalize t.getD 3 Go.undef=y3;generalize t.getD 5 Go.undef=y5;generalize t.getD 6 Go.undef=y6;generalize t.getD 7 Go.undef=y7;generalize t.getD 8 Go.undef=y8;generalize t.getD 11 Go.undef=y11;generalize t.getD 12 Go.undef=y12;generalize t.getD 13 Go.undef=y13;generalize t.getD 14 Go.undef=y14;generalize t.getD 15 Go.undef=y15;generalize t.getD 16 Go.undef=y16;generalize t.getD 17 Go.undef=y17;generalize t.getD 18 Go.undef=y18;generalize t.getD 19 Go.undef=y19;generalize t.getD 20 Go.undef=y20;generalize t.getD 21 Go.undef=y21;generalize t.getD 22 Go.undef=y22;generalize t.getD 23 Go.undef=y23;generalize t.getD 24 Go.undef=y24;generalize t.getD 25 Go.undef=y25;generalize t.getD 26 Go.undef=y26;generalize t.getD 27 Go.undef=y27;generalize t.getD 28 Go.undef=y28;generalize t.getD 29 Go.undef=y29;generalize t.getD 30 Go.undef=y30;generalize t.getD 31 Go.undef=y31;generalize t.getD 32 Go.undef=y32;generalize t.getD 33 Go.undef=y33;generalize t.getD 34 Go.undef=y34;generalize t.getD 35 Go.undef=y35;generalize t.getD 36 Go.undef=y36;generalize t.getD 37 Go.undef=y37;generalize t.getD 38 Go.undef=y38;generalize t.getD 39 Go.undef=y39;generalize t.getD 40 Go.undef=y40;generalize t.getD 41 Go.undef=y41;generalize t.getD 42 Go.undef=y42;generalize t.getD 43 Go.undef=y43;generalize t.getD 44 Go.undef=y44;generalize t.getD 45 Go.undef=y45;generalize t.getD 46 Go.undef=y46;generalize t.getD 47 Go.undef=y47;generalize t.getD 48 Go.undef=y48;generalize t.getD 49 Go.undef=y49;generalize t.getD 50 Go.undef=y50;generalize t.getD 51 Go.undef=y51;generalize t.getD 52 Go.undef=y52;generalize t.getD 53 Go.undef=y53;generalize t.getD 54 Go.undef=y54;generalize t.getD 55 Go.undef=y55;generalize t.getD 56 Go.undef=y56;generalize t.getD 57 Go.undef=y57;generalize t.getD 58 Go.undef=y58;generalize t.getD 59 Go.undef=y59;generalize t.getD 60 Go.undef=y60;generalize t.getD 61 Go.undef=y61;generalize t.getD 62 Go.undef=y62;generalize t.getD 63 Go.undef=y63;generalize t.getD 64 Go.undef=y64;generalize t.getD 65 Go.undef=y65;generalize t.getD 66 Go.undef=y66;generalize t.getD 67 Go.undef=y67;generalize t.getD 68 Go.undef=y68;generalize t.getD 69 Go.undef=y69;generalize t.getD 70 Go.undef=y70;generalize t.getD 71 Go.undef=y71;generalize t.getD 72 Go.undef=y72;generalize t.getD 73 Go.undef=y73;clear t0 t1 t4 hsz6 t;obtain ⟨cu0,_,rfl,_⟩:=hr0.cells;obtain ⟨cu1,_,rfl,_⟩:=hr1.cells;show Code.wpIn _ _ _ _ _ _ _;refine wpIn_seq_k fun K0 hK0=>?_;replace hK0:Ls _:=hK0
   gi_wp2
   refine ⟨trivial,?_⟩;have dI:=Cf x y A hA1 hx hy h2 hxy;refine (callsIn_wide.2 (dI.2 (Mp N b0 b1) W6 [v0,v1] hF6 ⟨e0,e1,trivial⟩)).mono ?_;rintro e W7 ⟨hb7,vs7,rfl,hr7⟩;obtain ⟨vI,rfl,hq7⟩:=lJ hr7;obtain ⟨lbI,rfl,hlI⟩:=(show (clI x y).rep (Mp N b0 b1) W7 vI from hq7)
   have hk7:=bI.below (M:=Mp N b0 b1) hb7;replace e0:=aD.mono _ hk7 e0;replace e1:=aD.mono _ hk7 e1;replace hr0:=hr0.mono hk7 (hb7.block b0 hr0.lt);replace hr1:=hr1.mono hk7 (hb7.block b1 hr1.lt);have hB7:=hB6.trans (hb7.mono hB6.size);have hn7:=hb7.size;have hF87:=(hb7.block _ (by omega)).trans hF86;have hF7:=bH hF6 hb7;clear hb7 hr7 hq7 hk7 hF86 hF6 hB6 dI;dsimp only [pack]
   gi_wp2
   refine ⟨trivial,?_⟩;generalize hu0:Value.slice (some ⟨b0,0,none⟩) _ cu0=u0 at hr0 one0 ⊢;generalize hu1:Value.slice (some ⟨b1,0,none⟩) _ cu1=u1 at hr1 Bz ⊢;have hb8:Below W7.heap.size W7 (W7.alloc (.cells #[u0,u1] 28)):=(Below.refl _ W7).alloc (aY _) _;have hnew:=heap_alloc_new W7 (.cells #[u0,u1] 28);generalize hmv:Value.slice (some ⟨W7.heap.size,0,none⟩) 2 2=mv;have one2:mv.oneCell'=true:=by rw [<-hmv];rfl
   generalize World.alloc W7 (.cells #[u0,u1] 28)=W8 at hb8 hnew ⊢
   have hsl8:(aD.slice 1 ([u0,u1].map fun v=>[.exact v])).rep (Mp N b0 b1) W8 mv:=by
    rw [<-hmv];refine ⟨_,2,rfl,aY _,by decide, .inr ⟨W7.heap.size,0,_,_,_,rfl,fun h=>?_,hnew,fun j t ht=>?_⟩⟩
    .have:=hF7.1 _ h;omega
    .match j,ht with
     | 0,ht=>cases ht;exact ⟨rfl,⟨rfl,one0⟩,trivial⟩
     | 1,ht=>cases ht;exact ⟨rfl,⟨rfl,Bz⟩,trivial⟩
     | j+2,ht=>simp at ht
   have hk8:=bI.below (M:=Mp N b0 b1) hb8;replace e0:=aD.mono _ hk8 e0;replace e1:=aD.mono _ hk8 e1;replace hlI:=hlI.mono hk8;replace hr0:=hr0.mono hk8 (hb8.block b0 hr0.lt);replace hr1:=hr1.mono hk8 (hb8.block b1 hr1.lt);have hB8:=hB7.trans (hb8.mono hB7.size);have hn8:=hb8.size;have hF88:=(hb8.block _ (by omega)).trans hF87;have hF8:=bH hF7 hb8;clear hb8 hnew hk8 hF87 hF7 hB7 hmv hu0 hu1;have dW:=Pr (.func (.func 203) #[] lbI.toArray) mv;refine (callsIn_wide.2 (dW.2 (Mp N b0 b1) W8 [.func (.func 203) #[] lbI.toArray,mv] hF8 ⟨⟨rfl,rfl⟩,⟨rfl,one2⟩,trivial⟩)).mono ?_;rintro e W9 ⟨hb9,vs9,rfl,hr9⟩;obtain ⟨vW,rfl,hq9⟩:=lJ hr9;obtain ⟨lb,rfl,hlb⟩:=(show (aD.eZ 202 [.bG [.exact (.func (.func 203) #[] lbI.toArray)], .bG [.exact mv]]).rep (Mp N b0 b1) W9 vW from hq9)
   have hk9:=bI.below (M:=Mp N b0 b1) hb9;replace e0:=aD.mono _ hk9 e0;replace e1:=aD.mono _ hk9 e1;replace hlI:=hlI.mono hk9;replace hsl8:=aD.mono _ hk9 hsl8;replace hr0:=hr0.mono hk9 (hb9.block b0 hr0.lt);replace hr1:=hr1.mono hk9 (hb9.block b1 hr1.lt);have hB9:=hB8.trans (hb9.mono hB8.size);have hn9:=hb9.size;have hF89:=(hb9.block _ (by omega)).trans hF88;have hF9:=bH hF8 hb9;clear hb9 hr9 hq9 hk9 hF88 hF8 hB8 dW;obtain ⟨w1,w2,rfl⟩:=bz4 hlb.length.symm;obtain ⟨z1,z2,z3,rfl⟩:=XN hlI.length.symm
   have hgen:Gen prog 46 3 202 #[w1,w2] ((pY x y).map rQ) (fun k=>k ∈ [b0,b1]) (fun k=>k ∈ [b0,b1]) N W9:=by
    rw [Yf]
    exact Ho N W9 203 #[z1,z2,z3] (jS (cJ x) (bF x y) x.length) _ _ u0 u1 b0 b1 hne
     (zE (cJ x) x (bF x y) (4*A+2) hwf hsf' N (fun k=>k ∈ [b0,b1]) W9 hF9 z1 z2 z3 hlI.1 hlI.2.1 hlI.2.2.1)
     (bK (by kernel_rfl)) hr0 hr1 hM0 hM1 hF9 w1 w2 mv hlb.1 hlb.2.1 hsl8
   have hS:∀ k,k ∈ [b0,b1]->k<W9.heap.size/\¬ N k:=fun k h=>by
    rcases List.mem_cons.1 h with e | h
    .rw [e];exact ⟨hr0.lt,hM0⟩
    .rw [List.mem_singleton.1 h];exact ⟨hr1.lt,hM1⟩
   have hcall:=Dk N (fun k=>k ∈ [b0,b1]) W9 hF9 hS 202 #[w1,w2] (pY x y) x.length (x.length+1) B hT (by omega) (by omega) (by omega) hB hg (by omega) hgen (bK (by kernel_rfl));rw [hsol] at hcall;clear hgen hS hlb hlI hsl8 one2;dsimp only [pack]
   gi_wp2
   refine ⟨trivial,?_⟩;refine (callsIn_wide.2 hcall).mono ?_;rintro e W10 ⟨hfr,u,rfl,hu⟩;have ouu:=aD.one _ hu;dsimp only [pack]
   gi_wp2
   unfold Ls at hK0;refine hK0 _ _ ?_;clear hK0 K0;have hn10:=hfr.size
   have hk10:bI (Mp N b0 b1) W9 N W10:=fun k o hk ho _=>by
    have hlt:=(cL.1 ho).1;exact ⟨fun h=>hk (.inl h),(hfr.old k hlt fun h=>hk (.inr h)).trans ho⟩
   replace e0:=aD.mono _ hk10 e0;replace e1:=aD.mono _ hk10 e1
   have hnb:∀ k,k<n0+1->k ∉ [b0,b1]:=fun k hk h=>by
    rcases List.mem_cons.1 h with e | h
    .omega
    .have:=List.mem_singleton.1 h;omega
   have hF810:=(hfr.old n0 (by omega) (hnb _ (by omega))).trans hF89;have hF10:cH N W10:=⟨fun k hk=>by have:=hF9.1 k (.inl hk);omega,hF9.2.eC hk10⟩
   have hB10:Below w.heap.size w W10:=⟨hfr.os.trans hB9.os,hfr.tape.trans hB9.tape,hfr.output.trans hB9.output,Nat.le_trans hB9.size hfr.size,fun k hk=>(hfr.old k (by have:=hB9.size;omega) (hnb k (by omega))).trans (hB9.block k hk)⟩
   generalize ha:(Act.mk _ _)=a7;have t0:a7.tmps.getD 0 Go.undef=v0:=by rw [<-ha];rfl
   have t1:a7.tmps.getD 1 Go.undef=v1:=by rw [<-ha];rfl
   have t4:a7.tmps.getD 4 Go.undef = .pointer (some ⟨n0,0,none⟩):=by rw [<-ha];rfl
   have t15:a7.tmps.getD 11 Go.undef=u:=by rw [<-ha];rfl
   have hsz7:a7.tmps.size=74:=by rw [<-ha];rfl
   have hdf7:a7.defers = []:=by rw [<-ha]
   clear ha;have e0a:(aD.slice 3 (rQ x)).rep N W10 (a7.tmps.getD 0 Go.undef):=by rw [t0];exact e0
   have e1a:(aD.slice 3 (rQ y)).rep N W10 (a7.tmps.getD 1 Go.undef):=by rw [t1];exact e1
   have e15:(aD.slice 3 (rQ sol)).rep N W10 (a7.tmps.getD 11 Go.undef):=by rw [t15];exact hu
   show Code.wpIn _ _ _ _ _ _ _;refine wpIn_seq (wpIn_wide.2 (vT iG.wp (N:=74) (t0:=4) (T:=31) (n:=2) (want:=0) (g:=n0) (cur:=#[.slice none 0 0, .slice none 0 0]) (cs:=yS) (ins:=[(0, .v none),(1, .v none),(11, .v none)]) (xs:=[.v (.one (sQ x)), .v (.one (sQ y)), .v (.one (sQ sol))]) fo ⟨rfl,rfl,rfl,trivial⟩ (bn4 x y sol A hA1 hA hx hy hsf h2 hxy hxs hsh) (by kernel_rfl) hF10 hg4 hsz7 hdf7 rfl (by omega) ⟨e0a,e1a,e15,trivial⟩ t4 hF810 ⟨⟨rfl,rfl⟩,⟨rfl,rfl⟩,trivial⟩ ?_));intro a8 W11 us8 cur3 hag3 hg3 hsz3 hdf3 hr3 hgc3 hrs3 hrep3;have hus:=bJ hr3;subst hus;have h9:a8.tmps.getD 5 Go.undef = .int .i64 0:=hrs3.1.1;have hl3:=hrep3.length;have k8:a8.tmps.getD 4 Go.undef = .pointer (some ⟨n0,0,none⟩):=(aN hag3 4 (by kernel_rfl)).trans t4;have hcl:cur3.toList.length=2:=hl3.symm;have h31:(prog.underlying 31).any (fun d=>match d with | .struct _ | .array _ _=>true | _=>false)=true:=by kernel_rfl
   have hi31:(prog.info? 31).map (·.size)=some 2:=by kernel_rfl
   obtain ⟨d31,hu31,hd31⟩:=(Option.any_eq_true _ _).1 h31;have hi3:(prog.info? 31).map (·.size)=some cur3.size:=by rw [show cur3.size=2 by rw [<-Array.length_toList];exact hcl];exact hi31
   have hlv:(loadVar 31 ⟨n0,0,none⟩).run prog W11 = .ok (.agg cur3) W11:=by
    cases d31 with
    | struct f=>exact run_loadVar_row W11 (n0) 31 31 cur3 (0,0) _ hgc3 hu31 rfl hi3
    | array l e=>exact run_loadVar_row W11 (n0) 31 31 cur3 (0,0) _ hgc3 hu31 rfl hi3
    | _=>cases hd31
   have hres:(results f51 a8.tmps).run prog W11 = .ok (pack [.agg cur3, .int .i64 0]) W11:=by
    rw [results_cell_tmp rfl,k8];simp [asAddr,hlv,h9,Result.andThen,pack]
   refine wpIn_ret ?_;refine bodyPost_ret hres hdf3 ⟨?_,[_,_],rfl,⟨cur3.toList,by simp,?_⟩,⟨rfl,rfl⟩,trivial⟩
   .refine ⟨hg3.os.trans hB10.os,hg3.tape.trans hB10.tape,hg3.output.trans hB10.output,Nat.le_trans hB10.size hg3.size,fun k hk=>(hg3.block k (by have:=hB10.size;omega) (fun e=>by have:=Option.some.inj e;omega)).trans (hB10.block k hk)⟩
   .exact hrep3.mono fun k o hk ho _=>⟨fun h=>hk (hMN k h),ho⟩
 | [],hv=>exact hv.elim
 | [_],hv=>exact hv.2.elim
 | _::_::_::_,hv=>exact hv.2.2.elim
end Go.Sy
namespace Go.Sy
open Go Go.Proofs Tryz Ord
theorem aK2 {h d:List Rat} {n:Nat} (h3:3<=n) (v:Nat->Rat):lO (YN h d n) v=h.getD 0 0*2*v 0+h.getD 0 0*v 1+h.getD (n-2) 0*v (n-2)+h.getD (n-2) 0*2*v (n-1)+(d.getD 0 0-d.getD (n-2) 0)*6*v n:=by
 have hX:lO (BF h ((List.replicate (n+1) 0).set n ((d.getD 0 0-d.getD (n-2) 0)*((6:Int):Rat)))) v=h.getD 0 0*2*v 0+h.getD 0 0*v 1+(d.getD 0 0-d.getD (n-2) 0)*6*v n:=by
  unfold BF;rw [dH (by simp only [List.length_set,List.length_replicate];omega),dH (by simp only [List.length_set,List.length_replicate];omega),dH (by simp only [List.length_replicate];omega),oE];rw [cV,if_neg (by omega),cV,if_neg (by omega),cV,if_neg (by omega),dS,dS,dS];have e2:((2:Int):Rat)=2:=rfl;have e6:((6:Int):Rat)=6:=rfl;rw [e2,e6]
  grind
 have hl:=Wc h ((List.replicate (n+1) 0).set n ((d.getD 0 0-d.getD (n-2) 0)*((6:Int):Rat)));rw [List.length_set,List.length_replicate] at hl;unfold YN peR;rw [dH (by rw [List.length_set];omega),dH (by omega),cV,if_neg (by omega),hX];have e2:((2:Int):Rat)=2:=rfl;rw [e2]
 grind
theorem aJ0 {n:Nat} (h3:3<=n) (v:Nat->Rat):lO (YM n) v=v 0-v (n-1):=by
 unfold YM peS;rw [dH (by simp only [List.length_set,List.length_replicate];omega),dH (by simp only [List.length_set,List.length_replicate];omega),dH (by simp only [List.length_replicate];omega),oE];rw [cV,if_neg (by omega),cV,if_neg (by omega),cV,if_neg (by omega),dS,dS,dS];have e1:((1:Int):Rat)=1:=rfl;have e2:((-1:Int):Rat) = -1:=rfl;rw [e1,e2]
 grind
theorem ae0 {x y:List Rat} (h3:3<=x.length) (hr:gC true x=true) (v:Nat->Rat) (hv:v x.length=0) (hN:NR (pY x y) v):∀ j,j<x.length->v j=0:=by
 obtain ⟨e1,e2,e3⟩:=mL (y:=y) (show 2<=x.length by omega) hN;rw [aK2 h3,hv] at e2;rw [aJ0 h3] at e3;refine Ep (h:=fun i=>(cJ x).getD i 0) (fun i hi=>fY hr hi) (fun i h1 hi=>?_) fun M hM he=>?_
 .have:=e1 (i-1) (by omega);rw [show i-1+1=i by omega,show i-1+2=i+1 by omega,hv] at this
  grind
 .have hv0:v 0=M\/v 0 = -M:=by rcases he with h | h<;>rcases h with h | h<;>first | exact .inl (by grind) | exact .inr (by grind)
  exact Tw (a:=(cJ x).getD (x.length-2) 0) (b:=(cJ x).getD 0 0) (fY hr) (fY hr) (hM (x.length-2) (by omega)) (hM 1 (by omega)) hv0 (by grind)
def Gt (v:Nat->Rat) (t:Rat) (i F P S:Nat):Prop:=∃ p q s,v i=p-q*v (i+1)-s*t/\0<=q/\q<=1/\s<=1-q /\ -(1-q)<=s/\Fit F q/\Fit P p/\Fit S s
theorem Gt.mono {v:Nat->Rat} {t:Rat} {i F P S F' P' S':Nat} (h:Gt v t i F P S) (hF:F<=F') (hP:P<=P') (hS:S<=S'):Gt v t i F' P' S':=by
 obtain ⟨p,q,s,h1,h2,h3,h4,h5,h6,h7,h8⟩:=h;exact ⟨p,q,s,h1,h2,h3,h4,h5,h6.mono hF,h7.mono hP,h8.mono hS⟩
theorem Gt.next {v:Nat->Rat} {t:Rat} {i F P S H G:Nat} {a b g:Rat} (h:Gt v t i F P S) (ha:0<a) (hb:0<b) (fa:Fit H a) (fb:Fit H b) (fg:Fit G g)
  (e:a*v i+(a+b)*2*v (i+1)+b*v (i+2)=g):Gt v t (i+1) (F+(4*H+6)) (P+F+G+(4*H+8)) (S+F+(4*H+6)):=by
 obtain ⟨p,q,s,hv,h0,h1,sM,sW,fq,fp,fs⟩:=h;have haq:0<=a*(1-q):=Rat.mul_nonneg (Rat.le_of_lt ha) (by grind);have has1:a*s<=a*(1-q):=Rat.mul_le_mul_of_nonneg_left sM (Rat.le_of_lt ha);have has2:a * -(1-q)<=a*s:=Rat.mul_le_mul_of_nonneg_left sW (Rat.le_of_lt ha);have hD0:0<(a+b)*2-a*q:=by grind
 have hDs1:b+a*s<=(a+b)*2-a*q:=by grind
 have hDs2:b-a*s<=(a+b)*2-a*q:=by grind
 have hD:b<=(a+b)*2-a*q:=by grind
 have fD:Fit (3*H+F+4) ((a+b)*2-a*q):=(((fa.add fb).mul eY).sub (fa.mul fq)).mono (by omega);generalize hDD:(a+b)*2-a*q=D at *;have hne:D≠0:=by intro e;rw [e] at hD0;exact absurd hD0 (by decide)
 have hb2:b/D*D=b:=Rat.div_mul_cancel hne;have hp2:(g-a*p)/D*D=g-a*p:=Rat.div_mul_cancel hne;have hs3:-(a*s)/D*D = -(a*s):=Rat.div_mul_cancel hne;refine ⟨(g-a*p)/D,b/D,-(a*s)/D,?_,?_,?_,?_,?_,(fb.div fD).mono (by omega),((fg.sub (fa.mul fp)).div fD).mono (by omega),((fa.mul fs).neg.div fD).mono (by omega)⟩
 .generalize (g-a*p)/D=p' at *;generalize b/D=q' at *;generalize -(a*s)/D=s' at *
  have h3:(v (i+1)-(p'-q'*v (i+2)-s'*t))*D=0:=by
   rw [hv] at e;have e2:v (i+1)*D=v (i+1)*((a+b)*2-a*q):=by rw [hDD]
   grind
  rcases Rat.mul_eq_zero.1 h3 with h4 | h4
  .grind
  .exact absurd h4 hne
 .refine Rat.not_lt.1 fun hn=>?_;have:=Rat.mul_pos (show 0 < -(b/D) by grind) hD0
  grind
 .refine Rat.not_lt.1 fun hn=>?_;have:=Rat.mul_pos (show 0<b/D-1 by grind) hD0
  grind
 .refine Rat.not_lt.1 fun hn=>?_;have:=Rat.mul_pos (show 0 < -(a*s)/D-(1-b/D) by grind) hD0
  grind
 .refine Rat.not_lt.1 fun hn=>?_;have:=Rat.mul_pos (show 0 < -(1-b/D) - -(a*s)/D by grind) hD0
  grind
def Uv (H F S:Nat):Nat->Nat
 | 0=>S
 | i+1=>Uv H F S i+yL H F i+(4*H+6)
theorem XD (H F S:Nat):∀ {i j:Nat},i<=j->Uv H F S i<=Uv H F S j:=fun {i j} hij=>by
 induction j with
 | zero=>rw [show i=0 by omega];exact aY _
 | succ j ih=>
   by_cases e:i=j+1
   .rw [e];exact aY _
   .have:=ih (by omega);rw [Uv];omega
theorem To {n:Nat} {h g v:Nat->Rat} {t:Rat} {F P S H G:Nat} (hpos:∀ i,i+1<n->0<h i) (fh:∀ i,i+1<n->Fit H (h i)) (fg:∀ i,i+2<n->Fit G (g (i+1)))
  (hin:∀ i,i+2<n->h i*v i+(h i+h (i+1))*2*v (i+1)+h (i+1)*v (i+2)=g (i+1)) (h0:Gt v t 0 F P S):∀ i,i+1<n->Gt v t i (yL H F i) (HR H G F P i) (Uv H F S i)
 | 0,_=>h0.mono (by rw [yL];omega) (by rw [HR];omega) (by rw [Uv];omega)
 | i+1,hi=>((To hpos fh fg hin h0 i (by omega)).next (hpos i (by omega)) (hpos (i+1) hi) (fh i (by omega)) (fh (i+1) hi) (fg i hi) (hin i hi)).mono (by rw [yL,yL,Nat.add_mul];omega) (by rw [HR];exact aY _) (by rw [Uv];omega)
theorem TB {n:Nat} {v:Nat->Rat} {t:Rat} {F P S:Nat} (hn:1<=n) (h:∀ i,i+1<n->Gt v t i F P S) (hl:v (n-1)=t):∀ j,j<n->∃ p s,v (n-1-j)=p-s*t/\s<=1 /\ -1<=s/\Fit (1+j*(P+F+1)) p/\Fit (1+j*(S+F+1)) s
 | 0,_=>⟨0,-1,by rw [Nat.sub_zero,hl];grind,by decide,by decide,Fit.zero (by omega),Fit.neg (Ze (by omega))⟩
 | j+1,hj=>by
   obtain ⟨p1,s1,e1,g1,g2,f1,f2⟩:=TB hn h hl j (by omega);obtain ⟨p,q,s,e,h0,h1,sM,sW,fq,fp,fs⟩:=h (n-1-(j+1)) (by omega);rw [show n-1-(j+1)+1=n-1-j by omega,e1] at e;have b1:q*s1<=q*1:=Rat.mul_le_mul_of_nonneg_left g1 h0;have b2:q * -1<=q*s1:=Rat.mul_le_mul_of_nonneg_left g2 h0;refine ⟨p-q*p1,s-q*s1,by rw [e];grind,by grind,by grind,(fp.sub (fq.mul f1)).mono (by rw [Nat.add_mul];omega),(fs.sub (fq.mul f2)).mono (by rw [Nat.add_mul];omega)⟩
theorem aG8 {x y:List Rat} (D:tM x y) (h3:3<=x.length):∃ m,fG (pY x y)=some m/\m.length=x.length/\Nq x y m/\m.getD 0 0=m.getD (x.length-1) 0 /\
  (cJ x).getD 0 0*2*m.getD 0 0+(cJ x).getD 0 0*m.getD 1 0+(cJ x).getD (x.length-2) 0*m.getD (x.length-2) 0+(cJ x).getD (x.length-2) 0*2*m.getD (x.length-1) 0=((bF x y).getD 0 0-(bF x y).getD (x.length-2) 0)*6/\∀ a∈m,Fit 800000 a:=by
 have h2:=D.h2;have h8:=D.h8;obtain ⟨m,e1,e2,e3⟩:=sD (n:=x.length) (rows:=pY x y) (oI h2) (Cz h2 (Oj _ _ _) (PX _)) (ae0 h3 D.hr);have he:=Dl h2 e3;obtain ⟨_,q1,q2⟩:=mL h2 e3;rw [aK2 h3,gM m,gM m,gM m,gM m,Py] at q1;rw [aJ0 h3,gM m,gM m] at q2;have hend:m.getD 0 0=m.getD (x.length-1) 0:=by grind
 refine ⟨m,e1,e2,he,hend,by grind,fun a ha=>?_⟩;obtain ⟨i,hi,rfl⟩:=List.mem_iff_getElem.1 ha;have h0:Gt (fun j=>m.getD j 0) (m.getD 0 0) 0 1 1 1:=⟨0,0,-1,by dsimp only;grind,by decide,by decide,by decide +kernel,by decide +kernel,Fit.zero (by omega),Fit.zero (by omega),Fit.neg (Ze (by omega))⟩
 have hR:∀ i,i+1<x.length->Gt (fun j=>m.getD j 0) (m.getD 0 0) i 2400 11600 9300:=fun i hi=>
  (To (h:=fun i=>(cJ x).getD i 0) (g:=fun i=>((bF x y).getD i 0-(bF x y).getD (i-1) 0)*6) (fun i hi=>fY D.hr hi) (fun i _=>D.h i) (fun i _=>D.g i) (fun i hi=>he i hi) h0 i hi).mono (Nat.le_trans (Nj 81 1 (show i<=7 by omega)) (by decide)) (Nat.le_trans (Nh 81 328 1 1 (show i<=7 by omega)) (by decide)) (Nat.le_trans (XD 81 1 1 (show i<=7 by omega)) (by decide))
 have hB:∀ j,j<x.length->∃ p s,m.getD (x.length-1-j) 0=p-s*m.getD 0 0/\s<=1 /\ -1<=s/\Fit 100000 p/\Fit 90000 s:=fun j hj=>by
  obtain ⟨p,s,g1,g2,g3,g4,g5⟩:=TB (n:=x.length) (by omega) hR hend.symm j hj;exact ⟨p,s,g1,g2,g3,g4.mono (by omega),g5.mono (by omega)⟩
 have ft:Fit 400000 (m.getD 0 0):=by
  obtain ⟨p1,s1,g1,g2,g3,g4,g5⟩:=hB (x.length-2) (by omega);obtain ⟨p2,s2,k1,k2,k3,k4,k5⟩:=hB 1 (by omega);rw [show x.length-1-(x.length-2)=1 by omega] at g1;rw [show x.length-1-1=x.length-2 by omega] at k1;rw [g1,k1,<-hend] at q1;have hp0:=fY D.hr (i:=0);have hpn:=fY D.hr (i:=x.length-2);have f0:=D.h 0;have fn:=D.h (x.length-2);have fg:=((D.d 0).sub (D.d (x.length-2))).mul pQ;generalize (cJ x).getD 0 0=a at *;generalize (cJ x).getD (x.length-2) 0=b at *;generalize ((bF x y).getD 0 0-(bF x y).getD (x.length-2) 0)*6=g at *;have m1:a*s1<=a*1:=Rat.mul_le_mul_of_nonneg_left g2 (Rat.le_of_lt hp0);have m2:b*s2<=b*1:=Rat.mul_le_mul_of_nonneg_left k2 (Rat.le_of_lt hpn);have hE:0<a*2+b*2-a*s1-b*s2:=by grind
  have hne:a*2+b*2-a*s1-b*s2≠0:=by intro e;rw [e] at hE;exact absurd hE (by decide)
  have hv:m.getD 0 0=(g-a*p1-b*p2)/(a*2+b*2-a*s1-b*s2):=by
   have hc:=Rat.div_mul_cancel (a:=g-a*p1-b*p2) hne;generalize (g-a*p1-b*p2)/(a*2+b*2-a*s1-b*s2)=u at *;have:(m.getD 0 0-u)*(a*2+b*2-a*s1-b*s2)=0:=by grind
   rcases Rat.mul_eq_zero.1 this with h | h
   .grind
   .exact absurd h hne
  rw [hv];exact (((fg.sub (f0.mul g4)).sub (fn.mul k4)).div ((((f0.mul eY).add (fn.mul eY)).sub (f0.mul g5)).sub (fn.mul k5))).mono (by omega)
 obtain ⟨p,s,g1,_,_,g4,g5⟩:=hB (x.length-1-i) (by omega);rw [show x.length-1-(x.length-1-i)=i by omega] at g1;rw [show m.getD i 0=m[i] by rw [fI,bZ hi];rfl] at g1;rw [g1];exact (g4.sub (g5.mul ft)).mono (by omega)
end Go.Sy
