/- Solutions, tails, shares.
-/
import Derived.Test.YtdmcadckdnnglaaGreatDoorWa
import Derived.Test.YtdmcadckdnnglaaGreatDoorQg
import Derived.Test.YtdmcadckdnnglaaGreatDoorVb
set_option linter.unusedVariables false
set_option linter.unusedSimpArgs false
namespace Go.Sy
open Go Go.Proofs Tryz Ord
def af7:Tr:=aU .add 3 12 1 1 0 3 (aU .add 3 14 1 1 0 3 (bJ .sub 3 15 16 5 0 2 0 3 (aK 120 [(W 4 0),(W 6 0)] [(some 3),none] [13,17] [2,2] 90 false (aK 207 [(G3 3),(.agg [(U 0 5),(U 0 6),(U 0 7)])] [(some 3)] [22,24] [39,39] 39 true (aK 36 [(G3 7),(G3 9)] [(some 3)] [21,25] [39,39] 39 true (.ret [(G3 10)]))))))
theorem Qq:aN prog f131 (fun _=>none) [.v (some 9), .v none, .v none, .v (some 3)]=af7:=by kernel_rfl
def WS:Tr:=.need (.prim [(W 0 0)] none) (.nilCheck (tT 34)) 0 false (.need (.prim [(W 19 0)] none) (.fieldAddr 266 (tT 35) 0) 0 false (dI 20 0 (some 9) 185 36 (aK 131 [(.agg [(U 21 0),(U 21 1),(U 21 2),(U 21 3),(U 21 4),(U 21 5),(U 21 6),(U 21 7),(U 21 8)]),(W 1 0),(W 2 0),(G3 3)] [(some 3)] [37,38,39,40] [185,3,3,39] 39 false (aK 167 [(G3 18),(G3 22)] [(some 3)] [33,41] [39,39] 39 true (aK 207 [(G3 17),(G3 23)] [(some 3)] [32,42] [39,39] 39 true (.ret [(G3 24)]))))))
def av7:Tr:=aK 203 [(G3 11),(W 1 0)] [(some 3)] [23,24] [39,3] 39 true (aK 207 [(G3 7),(G3 12)] [(some 3)] [18,25] [39,39] 39 true (.need (.prim [(W 0 0)] none) (.nilCheck (tT 27)) 0 false (.need (.prim [(W 14 0)] none) (.fieldAddr 266 (tT 28) 3) 0 false (dI 15 0 (some 3) 39 29 (aK 36 [(G3 16),(G3 13)] [(some 3)] [30,31] [39,39] 39 false (.need (.call 68 [(WK 1)] [(some 3)]) (.call ⟨.value (.func 68),#[(.const (I3 1))],#[2]⟩) 39 false WS))))))
def ax1:Tr:=bJ .sub 3 14 15 1 0 2 0 3 (aK 203 [(G3 3),(W 5 0)] [(some 3)] [13,16] [39,3] 39 false (aK 36 [(G3 4),(G3 6)] [(some 3)] [12,17] [39,39] 39 false (.need (.prim [(W 0 0)] none) (.nilCheck (tT 19)) 0 false (.need (.prim [(W 8 0)] none) (.fieldAddr 266 (tT 20) 0) 0 false (.need (.prim [(W 9 0)] none) (.fieldAddr 185 (tT 21) 1) 0 false (dI 10 0 (some 3) 39 22 av7))))))
def aa2:Tr:=aK 209 [(W 1 0),(W 2 0)] [(some 3)] [10,11] [3,3] 39 false ax1
theorem UT:aN prog f133 (fun _=>none) [.v none, .v none, .v none, .v (some 3)]=aa2:=by kernel_rfl
def ac8:Tr:=aU .add 3 9 1 1 0 3 (aU .add 3 11 1 1 0 3 (bJ .sub 3 12 13 5 0 2 0 3 (aK 79 [(W 4 0),(W 6 0)] [(some 4)] [10,14] [2,2] 49 false (aK 102 [(G4 3),(G4 0)] [(some 4)] [16,17] [49,49] 49 true (aK 104 [(G4 7),(G4 8)] [(some 4)] [15,18] [49,49] 49 true (.ret [(G4 9)]))))))
theorem Sl:aN prog f49 (fun _=>none) [.v (some 4), .v none, .v none, .v (some 4)]=ac8:=by kernel_rfl
def ay7:Tr:=aK 60 [(G4 15)] [(some 4)] [31] [49] 49 false (aK 126 [(G4 1),(W 8 0)] [(some 4)] [33,34] [49,3] 49 false (aK 104 [(G4 16),(G4 17)] [(some 4)] [32,35] [49,49] 49 true (.need (.lit 4 [[(.u 9 0),(.u 10 0),(.u 11 0),(.u 12 0)],[(.u 18 0),(.u 18 1),(.u 18 2),(.u 18 3)]]) (.buildSlice 50 2 #[(0,(tT 27)),(1,(tT 36))]) 50 false (aK 140 [(.one (.c (.sr 4 19)))] [(some 4)] [37] [50] 49 true (aU .add 3 25 1 8 0 3 (.back 0 [lV 21 0,lV 20 0,lV 20 1,lV 20 2,lV 20 3]))))))
def Yv:Tr:=aK 126 [(G4 1),(W 4 0)] [(some 4)] [53,54] [49,3] 49 true (aK 102 [(G4 18),(G4 19)] [(some 4)] [52,55] [49,49] 49 true (aK 104 [(.agg [(U 9 0),(U 10 0),(U 11 0),(U 12 0)]),(G4 20)] [(some 4)] [57,58] [49,49] 49 false (.need (.call 50 [(WK 1)] [(some 4)]) (.call ⟨.value (.func 50),#[(.const (I3 1))],#[2]⟩) 49 false (aK 141 [(G4 22),(G4 14)] [(some 4)] [60,61] [49,49] 49 true (aK 102 [(G4 21),(G4 23)] [(some 4)] [59,62] [49,49] 49 true (.ret [(G4 24)]))))))
def ac1:Tr:=bJ .lss 3 22 23 8 0 2 0 4 (.split (.u 13 0) (eD 0 0 8 0 50 28 29 (dI 14 0 (some 4) 49 30 ay7)) (aK 49 [(G4 1),(W 4 0),(W 5 0),(G4 6)] [(some 4)] [39,40,41,42] [49,3,3,49] 49 true (aK 103 [(W 4 0),(W 5 0)] [(some 4)] [44,45] [3,3] 49 false (bJ .sub 3 48 49 4 0 5 0 3 (aK 126 [(G4 6),(W 16 0)] [(some 4)] [47,50] [49,3] 49 false (aK 104 [(G4 15),(G4 17)] [(some 4)] [46,51] [49,49] 49 false Yv))))))
def aq6:Tr:=bJ .sub 3 19 20 2 0 3 0 3 (.loop 0 [lV 7 0,lK 0,lN,lK 0,lN] ac1)
theorem WW:aN prog f51 (fun _=>none) [.v none, .v (some 4), .v none, .v none, .v none, .v none, .v (some 4)]=aq6:=by kernel_rfl
def cZ (aJ:Rat) (n d:Int) (r:Rat):Rat:=((n+1:Int):Rat)/((n+1-d:Int):Rat)*(r/aJ)
def FB (a:List Rat) (aJ:Rat) (n0:Nat):Nat→Rat
 | 0=>0
 | k+1=>pO [FB a aJ n0 k,(a.getD (n0+k) 0).abs*aJ^(n0+k)] 2
def fX (b aJ:Rat) (n d:Nat) (r:Rat):Rat:=b*(((bG n d:Int):Rat)*r^(n-d)/aJ^n)/(((1:Int):Rat)-cZ aJ n d r)
abbrev ar9 (a:List aH) (aJ:Rat) (st:Int):List aH:=a++qC aJ ++ [.int .i64 st]
theorem TJ (a0 a1 a2 a3 a4:aH) (aJ:Rat) (st:Int) (n d:Int) (r:Rat) (B:Nat) (h0:aJ≠0) (hn1:-1099511627776≤n) (hn2:n<1099511627776) (hd1:-1099511627776≤d) (hd2:d<1099511627776) (hnd:n+1-d≠0) (hr:Fit B r) (hrho:Fit B aJ) (hB:B≤8589934592):aM prog 131 [(.agg (ar9 [a0,a1,a2,a3,a4] aJ st):aF),(.one (.int .i64 n):aF),(.one (.int .i64 d):aF),(qT r:aF)] (.ret [qT (cZ aJ n d r)]):=by
 refine aD (args:=[.v (some 9), .v none, .v none, .v (some 3)]) (ins:=[.v (.agg (ar9 [a0,a1,a2,a3,a4] aJ st)), .v (.one (.int .i64 n)), .v (.one (.int .i64 d)), .v (qT r)]) (hints:=(fun _=>none)) fo (by kernel_rfl) func131 ⟨rfl,rfl,rfl,rfl,trivial⟩ ?_;rw [Qq];dsimp only [List.map,In.env,aB,aA];refine vn (aE (by omega) (by omega)) rfl ?_;dsimp only [aB,aA];refine vn (aE (by omega) (by omega)) rfl ?_;dsimp only [aB,aA];refine vn (aG (by omega) (by omega)) rfl ?_;dsimp only [aB,aA];have ho:=ao8 (n+1) (n+1-d) (by omega) (by omega) (by omega) (by omega);rw [if_neg hnd,if_neg hnd] at ho;refine aC ho rfl ?_;dsimp only [aB,aA];refine aC (qN r aJ B B h0 hr hrho (by omega)) rfl ?_;dsimp only [aB,aA];refine aC (dF _ _ 128 (B+B) ((eA (by omega) (by omega)).div (eA (by omega) (by omega))) (hr.div hrho) (by omega)) rfl ?_;exact aL rfl
theorem TC (aJ:RQ) (n d:Int) (r:RQ) (B:Nat) (h0:aJ.q≠0) (hn1:-1099511627776≤n) (hn2:n<1099511627776) (hd1:-1099511627776≤d) (hd2:d<1099511627776) (hnd:n+1-d≠0) (hr:Fit B r.q) (hrho:Fit B aJ.q) (hB:B≤1073741824):aM prog 49 [(dE aJ:aF),(.one (.int .i64 n):aF),(.one (.int .i64 d):aF),(dE r:aF)] (.ret [dE (.of (cZ aJ.q n d r.q))]):=by
 refine aD (args:=[.v (some 4), .v none, .v none, .v (some 4)]) (ins:=[.v (dE aJ), .v (.one (.int .i64 n)), .v (.one (.int .i64 d)), .v (dE r)]) (hints:=(fun _=>none)) fo (by kernel_rfl) func49 ⟨rfl,rfl,rfl,rfl,trivial⟩ ?_;rw [Sl];dsimp only [List.map,In.env,aB,aA];refine vn (aE (by omega) (by omega)) rfl ?_;dsimp only [aB,aA];refine vn (aE (by omega) (by omega)) rfl ?_;dsimp only [aB,aA];refine vn (aG (by omega) (by omega)) rfl ?_;dsimp only [aB,aA];refine aC (Hl (n+1) (n+1-d) hnd (by omega) (by omega) (by omega) (by omega)) rfl ?_;dsimp only [aB,aA];refine aC (uY r aJ B B h0 hr hrho (by omega)) rfl ?_;dsimp only [aB,aA];refine aC (eW (.of (((n+1:Int):Rat)/((n+1-d:Int):Rat))) (.of (r.q/aJ.q)) 128 (B+B) ((eA (by omega) (by omega)).div (eA (by omega) (by omega))) (hr.div hrho) (by omega)) rfl ?_;exact aL rfl
theorem Ba {x:Rat} (h:x<1):((1:Int):Rat)-x≠0:=fun e=>by
 have:x=1:=by grind
 rw [this] at h;exact absurd h (by decide)
structure mJ (B:Nat) (aJ:Rat) (n d:Nat) (r:Rat):Prop where
 ff:∀ j,j≤d→Fit B ((bG n j:Int):Rat)
 fr:∀ j,j≤2*n+1→Fit B (r^j)
 fo:∀ j,j≤2*n+1→Fit B (aJ^j)
theorem mJ.r1 {B:Nat} {aJ:Rat} {n d:Nat} {r:Rat} (h:mJ B aJ n d r):Fit B r:=by have:=h.fr 1 (by omega);rwa [Rat.pow_succ,Rat.pow_zero,Rat.one_mul] at this
theorem mJ.o1 {B:Nat} {aJ:Rat} {n d:Nat} {r:Rat} (h:mJ B aJ n d r):Fit B aJ:=by have:=h.fo 1 (by omega);rwa [Rat.pow_succ,Rat.pow_zero,Rat.one_mul] at this
theorem mJ.sh {B:Nat} {aJ:Rat} {n d:Nat} {r:Rat} (h:mJ B aJ n d r) (hn:n<4611686018427387904) (hd:d<4611686018427387904):Fit (128+(B+B)) (cZ aJ n d r):=
 ((eA (n:=(n:Int)+1) (by omega) (by omega)).div (eA (n:=(n:Int)+1-d) (by omega) (by omega))).mul (h.r1.div h.o1)
abbrev KV (ar:List aH) (aJ:Rat) (st:Int) (y a:List Rat) (b:Rat):List aH:=(ar++qC aJ ++ [.int .i64 st]) ++ [sQ y,sQ a]++qC b
set_option maxHeartbeats 1000000 in
theorem Lz (a0 a1 a2 a3 a4:aH) (aJ:Rat) (st:Int) (y a:List Rat) (b:Rat) (n d:Nat) (r:Rat) (B:Nat) (C:mJ B aJ n d r) (hn:n<1099511627776) (hd:d≤n) (h0:aJ≠0) (hb:Fit B b) (hB:B≤2147483648) (h64:64≤B) (hs1:cZ aJ n d r<1):aM prog 133 [(.one (.bE (KV [a0,a1,a2,a3,a4] aJ st y a b)):aF),(.one (.int .i64 n):aF),(.one (.int .i64 d):aF),(qT r:aF)] (.ret [qT (fX b aJ n d r)]):=by
 refine aD (args:=[.v none, .v none, .v none, .v (some 3)]) (ins:=[.v (.one (.bE (KV [a0,a1,a2,a3,a4] aJ st y a b))), .v (.one (.int .i64 n)), .v (.one (.int .i64 d)), .v (qT r)]) (hints:=(fun _=>none)) fo (by kernel_rfl) func133 ⟨rfl,rfl,rfl,rfl,trivial⟩ ?_;rw [UT];dsimp only [List.map,In.env,aB,aA];have hff:=C.ff d (Nat.le_refl _);have hfr:=C.fr (n-d) (by omega);have hfo:=C.fo n (by omega);have hsh:=C.sh (by omega) (by omega);have hp0:=qJ h0 n;refine aC (mB (n:Int) d B (by omega) (by omega) (by omega) (by omega) h64 (fun j hj=>C.ff j hj)) rfl ?_;dsimp only [aB,aA];refine vn (aG (by omega) (by omega)) rfl ?_;dsimp only [aB,aA];rw [show (n:Int)-(d:Int)=((n-d:Nat):Int) by omega];refine aC (iY r (n-d) B (by omega) (by omega) (fun j hj=>C.fr j (by omega))) rfl ?_;dsimp only [aB,aA];refine aC (dF _ _ B B hff hfr (by omega)) rfl ?_;dsimp only [aB,aA];refine vn Ml rfl ?_;dsimp only [aB,aA];refine vn (qU ME (by decide)) rfl ?_;dsimp only [aB,aA];refine vn (qU VD (by decide)) rfl ?_;dsimp only [aB,aA];refine vn (bO sS (by decide) (by simp) (.inl rfl)) rfl ?_;dsimp only [aB,aA];refine aC (iY aJ n B (by omega) (by omega) (fun j hj=>C.fo j (by omega))) rfl ?_;dsimp only [aB,aA];refine aC (qN _ _ (B+B) B hp0 (hff.mul hfr) hfo (by omega)) rfl ?_;dsimp only [aB,aA];refine vn Ml rfl ?_;dsimp only [aB,aA];refine vn (qU Xi (by decide)) rfl ?_;dsimp only [aB,aA];refine vn (bO sS (by decide) (by simp) (.inl rfl)) rfl ?_;dsimp only [aB,aA];refine aC (dF _ _ B (B+B+B) hb ((hff.mul hfr).div hfo) (by omega)) rfl ?_;dsimp only [aB,aA];refine aC (jP 1 (by omega) (by omega)) rfl ?_;dsimp only [aB,aA];refine vn Ml rfl ?_;dsimp only [aB,aA];refine vn (qU ME (by decide)) rfl ?_;dsimp only [aB,aA];refine vn (bO Zq (by decide) (by simp) (.inl rfl)) rfl ?_;dsimp only [aB,aA];refine aC (TJ a0 a1 a2 a3 a4 aJ st n d r B h0 (by omega) (by omega) (by omega) (by omega) (by omega) C.r1 C.o1 (by omega)) rfl ?_;dsimp only [aB,aA];refine aC (Ue _ _ 64 (128+(B+B)) (Fit.int (by omega) (by omega)) hsh (by omega)) rfl ?_;dsimp only [aB,aA];refine aC (qN _ _ (B+(B+B+B)) (64+(128+(B+B))+1) (Ba hs1) (hb.mul ((hff.mul hfr).div hfo)) ((Fit.int (by omega) (by omega)).sub hsh) (by omega)) rfl ?_;exact aL rfl
set_option maxHeartbeats 1000000 in
theorem XG (a:List RQ) (aJ:RQ) (st W n d:Nat) (r:RQ) (B:Nat) (C:mJ B aJ.q n d r.q) (hst:st≤n) (hW:W≤st) (hal:st≤a.length) (hal2:a.length<1099511627776) (haf:∀ x∈a,Fit B x.q) (hn:n<1073741824) (hd:d≤n) (h0:aJ.q≠0) (hB:B≤536870912) (h64:64≤B) (hs1:cZ aJ.q n d r.q<1):aM prog 51 [(.one (sR a):aF),(dE aJ:aF),(.one (.int .i64 st):aF),(.one (.int .i64 W):aF),(.one (.int .i64 n):aF),(.one (.int .i64 d):aF),(dE r:aF)] (.ret [dE (.of (fX (FB (a.map RQ.q) aJ.q (st-W) W) aJ.q n d r.q))]):=by
 refine aD (args:=[.v none, .v (some 4), .v none, .v none, .v none, .v none, .v (some 4)]) (ins:=[.v (.one (sR a)), .v (dE aJ), .v (.one (.int .i64 st)), .v (.one (.int .i64 W)), .v (.one (.int .i64 n)), .v (.one (.int .i64 d)), .v (dE r)]) (hints:=(fun _=>none)) fo (by kernel_rfl) func51 ⟨rfl,rfl,rfl,rfl,rfl,rfl,rfl,trivial⟩ ?_;rw [WW];dsimp only [List.map,In.env,aB,aA];have hff:=C.ff d (Nat.le_refl _);have hfr:=C.fr (n-d) (by omega);have hfo:=C.fo n (by omega);have hsh:=C.sh (by omega) (by omega);have hp0:=qJ h0 n
 have haq:∀ x∈a.map RQ.q,Fit B x:=fun x hx=>by
  obtain ⟨y,hy,rfl⟩:=List.mem_map.1 hx;exact haf y hy
 have fb:∀ k,k≤W→Fit (B+B) (FB (a.map RQ.q) aJ.q (st-W) k):=by
  intro k
  induction k with
  | zero=>exact fun _=>Fit.zero (by omega)
  | succ k ih=>
    intro hk;rw [FB];refine rS (by omega) (fun x hx=>?_) 2 (by simp);simp only [List.mem_cons,List.not_mem_nil,or_false] at hx;rcases hx with rfl | rfl
    ·exact ih (by omega)
    ·exact (dQ (kH (by omega) haq _)).mul (C.fo _ (by omega))
 refine vn (aG (by omega) (by omega)) rfl ?_;dsimp only [aB,aA]
 refine bC {g:Nat×RQ // g.1≤W∧g.2.q=FB (a.map RQ.q) aJ.q (st-W) g.1} (fun g=>(.one (.int .i64 ((st-W+g.1.1:Nat):Int)):aF)::(rC g.1.2).map .one) (fun g=>W-g.1.1) ⟨(0, .nil),Nat.zero_le _,rfl⟩ (by
  have e:(st:Int)-(W:Int)=((st-W+0:Nat):Int):=by omega
  rw [e];exact ⟨aF.Sub.same,jL.1,jL.2.1,jL.2.2.1,jL.2.2.2.1,trivial⟩) (fun _=>rfl) ?_
 rintro ⟨⟨k,b⟩,hk,hb⟩;dsimp only [aB,aA,List.map] at hk hb ⊢;refine vn bB rfl ?_;dsimp only [aB,aA];refine vs _ rfl (fun h3=>?_) (fun h3=>?_)
 ·obtain ⟨x,hx⟩:∃ x,a[st-W+k]? = some x:=⟨_,List.getElem?_eq_getElem (by omega)⟩
  have hfx:=dQ (haf x (List.mem_of_getElem? hx));have hfk:=C.fo (st-W+k) (by omega);have hbf:Fit (B+B) b.q:=by rw [hb];exact fb k hk
  refine vn (aW La (by omega) (Int.toNat_natCast (st-W+k)) hx) rfl ?_;dsimp only [aB,aA];refine vn (bO qG (by decide) (by simp) (.inl rfl)) rfl ?_;dsimp only [aB,aA];refine aC (rV x) rfl ?_;dsimp only [aB,aA];refine aC (kK aJ B (by omega) C.o1 (st-W+k) (by omega) (fun j hj=>C.fo j (by omega))) rfl ?_;dsimp only [aB,aA];refine aC (eW (.of x.q.abs) (.of (aJ.q^(st-W+k))) B B hfx hfk (by omega)) rfl ?_;dsimp only [aB,aA];refine cL (us:=rR [b, .of (x.q.abs*aJ.q^(st-W+k))]) rfl ?_;dsimp only [aB,aA]
  refine aC (au0 [b, .of (x.q.abs*aJ.q^(st-W+k))] (B+B) (fun z hz=>by
   simp only [List.mem_cons,List.not_mem_nil,or_false] at hz;rcases hz with rfl | rfl
   ·exact hbf
   ·exact hfx.mul hfk) (by omega) (by omega) (by simp)) rfl ?_
  dsimp only [aB,aA];refine vn (aE (by omega) (by omega)) rfl ?_;dsimp only [aB,aA]
  exact aR rfl ⟨⟨(k+1,rE [b, .of (x.q.abs*aJ.q^(st-W+k))] 2),by dsimp only;omega,by
   dsimp only;rw [AW,FB,←hb,getD_some hx];rfl⟩,aO.of_eq rfl,by show W-(k+1)<W-k;omega⟩
 obtain rfl:k=W:=by omega
 have hbf:Fit (B+B) b.q:=by rw [hb];exact fb k hk
 refine aC (TC aJ n d r B h0 (by omega) (by omega) (by omega) (by omega) (by omega) C.r1 C.o1 (by omega)) rfl ?_;dsimp only [aB,aA];refine aC (mA (n:Int) d B (by omega) (by omega) (by omega) (by omega) h64 (fun j hj=>C.ff j hj)) rfl ?_;dsimp only [aB,aA];refine vn (aG (by omega) (by omega)) rfl ?_;dsimp only [aB,aA];rw [show (n:Int)-(d:Int)=((n-d:Nat):Int) by omega];refine aC (kK r B (by omega) C.r1 (n-d) (by omega) (fun j hj=>C.fr j (by omega))) rfl ?_;dsimp only [aB,aA];refine aC (eW (.of ((bG n d:Int):Rat)) (.of (r.q^(n-d))) B B hff hfr (by omega)) rfl ?_;dsimp only [aB,aA];refine aC (kK aJ B (by omega) C.o1 n (by omega) (fun j hj=>C.fo j (by omega))) rfl ?_;dsimp only [aB,aA];refine aC (uY (.of (((bG n d:Int):Rat)*r.q^(n-d))) (.of (aJ.q^n)) (B+B) B hp0 (hff.mul hfr) hfo (by omega)) rfl ?_;dsimp only [aB,aA];refine aC (eW b (.of (((bG n d:Int):Rat)*r.q^(n-d)/aJ.q^n)) (B+B) (B+B+B) hbf ((hff.mul hfr).div hfo) (by omega)) rfl ?_;dsimp only [aB,aA];refine aC (iL 1 (by omega) (by omega)) rfl ?_;dsimp only [aB,aA];refine aC (TS (.of ((1:Int):Rat)) (.of (cZ aJ.q n d r.q)) 64 (128+(B+B)) (Fit.int (by omega) (by omega)) hsh (by omega)) rfl ?_;dsimp only [aB,aA];refine aC (uY (.of (b.q*(((bG n d:Int):Rat)*r.q^(n-d)/aJ.q^n))) (.of (((1:Int):Rat)-cZ aJ.q n d r.q)) (B+B+(B+B+B)) (64+(128+(B+B))+1) (Ba hs1) (hbf.mul ((hff.mul hfr).div hfo)) ((Fit.int (by omega) (by omega)).sub hsh) (by omega)) rfl ?_;rw [show (RQ.of (b.q*(((bG n d:Int):Rat)*r.q^(n-d)/aJ.q^n))).q/(RQ.of (((1:Int):Rat)-cZ aJ.q n d r.q)).q=fX (FB (a.map RQ.q) aJ.q (st-k) k) aJ.q n d r.q by rw [fX,←hb];rfl];exact aL rfl
end Go.Sy
