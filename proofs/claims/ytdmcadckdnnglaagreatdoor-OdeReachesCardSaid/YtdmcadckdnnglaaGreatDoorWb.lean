/- Solutions, tails, shares.
-/
import Derived.Test.YtdmcadckdnnglaaGreatDoorWa
import Derived.Test.YtdmcadckdnnglaaGreatDoorQg
import Derived.Test.YtdmcadckdnnglaaGreatDoorVc
set_option linter.unusedVariables false
set_option linter.unusedSimpArgs false
namespace Go.Sy
open Go Go.Proofs Tryz Ord
def ab4:Tr:=aJ 146 [(G3 22)] [(some 3)] [40] [39] 39 false (aJ 203 [(.agg [(U 0 5),(U 0 6),(U 0 7)]),(W 5 0)] [(some 3)] [43,44] [39,3] 39 false (aJ 36 [(G3 23),(G3 24)] [(some 3)] [41,45] [39,39] 39 true (.need (.lit 3 [[(.u 17 0),(.u 18 0),(.u 19 0)],[(.u 25 0),(.u 25 1),(.u 25 2)]]) (.buildSlice 40 2 #[(0,(tT 33)),(1,(tT 46))]) 40 false (aJ 208 [(.one (.c (.sr 3 26)))] [(some 3)] [47] [40] 39 true (aQ .add 3 27 1 5 0 3 (.back 0 [lV 28 0,lV 6 0,lV 7 0,lV 8 0,lV 9 0,lV 10 0,lV 11 0,lV 12 0,lV 13 0,lV 14 0,lV 15 0,lV 16 0,lV 27 0,lV 27 1,lV 27 2]))))))
def ak6:Tr:=aJ 204 [(G5 0)] [none] [20] [171] 3 true (bK .sub 3 18 21 0 8 3 0 3 (.loop 0 [lV 4 0,lV 0 0,lV 0 1,lV 0 2,lV 0 3,lV 0 4,lV 0 5,lV 0 6,lV 0 7,lV 0 8,lV 1 0,lV 2 0,lN,(.w (.one (.c (.k (.bool false))))),lN] (bK .lss 3 23 25 5 0 0 8 4 (.split (.u 20 0) (eU 16 0 5 0 40 37 38 (dP 21 0 (some 3) 39 39 ab4)) (.ret [(.one (.ref 0 [(.u 6 0),(.u 7 0),(.u 8 0),(.u 9 0),(.u 10 0),(.u 11 0),(.u 12 0),(.u 13 0),(.u 14 0),(.u 15 0),(.u 16 0),(.u 17 0),(.u 18 0),(.u 19 0)]))])))))
def ZZ:Tr:=aJ 101 [(G5 0),(W 1 0),(W 0 8)] [none] [10,11,13] [171,40,3] 40 false ak6
theorem HV:aN prog f132 (fun _=>none) [.v (some 9), .v none] = ZZ:=by kernel_rfl
def ad4:Tr:=aQ .add 3 12 1 1 0 3 (aQ .add 3 14 1 1 0 3 (bK .sub 3 15 16 5 0 2 0 3 (aJ 120 [(W 4 0),(W 6 0)] [(some 3),none] [13,17] [2,2] 90 false (aJ 207 [(G3 3),(.agg [(U 0 5),(U 0 6),(U 0 7)])] [(some 3)] [22,24] [39,39] 39 true (aJ 36 [(G3 7),(G3 9)] [(some 3)] [21,25] [39,39] 39 true (.ret [(G3 10)]))))))
theorem PS:aN prog f131 (fun _=>none) [.v (some 9), .v none, .v none, .v (some 3)] = ad4:=by kernel_rfl
def Xe:Tr:=.need (.prim [(W 0 0)] none) (.nilCheck (tT 34)) 0 false (.need (.prim [(W 19 0)] none) (.fieldAddr 266 (tT 35) 0) 0 false (dP 20 0 (some 9) 185 36 (aJ 131 [(.agg [(U 21 0),(U 21 1),(U 21 2),(U 21 3),(U 21 4),(U 21 5),(U 21 6),(U 21 7),(U 21 8)]),(W 1 0),(W 2 0),(G3 3)] [(some 3)] [37,38,39,40] [185,3,3,39] 39 false (aJ 167 [(G3 18),(G3 22)] [(some 3)] [33,41] [39,39] 39 true (aJ 207 [(G3 17),(G3 23)] [(some 3)] [32,42] [39,39] 39 true (.ret [(G3 24)]))))))
def ag9:Tr:=aJ 203 [(G3 11),(W 1 0)] [(some 3)] [23,24] [39,3] 39 true (aJ 207 [(G3 7),(G3 12)] [(some 3)] [18,25] [39,39] 39 true (.need (.prim [(W 0 0)] none) (.nilCheck (tT 27)) 0 false (.need (.prim [(W 14 0)] none) (.fieldAddr 266 (tT 28) 3) 0 false (dP 15 0 (some 3) 39 29 (aJ 36 [(G3 16),(G3 13)] [(some 3)] [30,31] [39,39] 39 false (.need (.call 68 [(WK 1)] [(some 3)]) (.call ⟨.value (.func 68),#[(.const (I3 1))],#[2]⟩) 39 false Xe))))))
def af0:Tr:=bK .sub 3 14 15 1 0 2 0 3 (aJ 203 [(G3 3),(W 5 0)] [(some 3)] [13,16] [39,3] 39 false (aJ 36 [(G3 4),(G3 6)] [(some 3)] [12,17] [39,39] 39 false (.need (.prim [(W 0 0)] none) (.nilCheck (tT 19)) 0 false (.need (.prim [(W 8 0)] none) (.fieldAddr 266 (tT 20) 0) 0 false (.need (.prim [(W 9 0)] none) (.fieldAddr 185 (tT 21) 1) 0 false (dP 10 0 (some 3) 39 22 ag9))))))
def YK:Tr:=aJ 209 [(W 1 0),(W 2 0)] [(some 3)] [10,11] [3,3] 39 false af0
theorem Xa:aN prog f133 (fun _=>none) [.v none, .v none, .v none, .v (some 3)] = YK:=by kernel_rfl
def ac2:Tr:=aQ .add 3 9 1 1 0 3 (aQ .add 3 11 1 1 0 3 (bK .sub 3 12 13 5 0 2 0 3 (aJ 79 [(W 4 0),(W 6 0)] [(some 4)] [10,14] [2,2] 49 false (aJ 102 [(G4 3),(G4 0)] [(some 4)] [16,17] [49,49] 49 true (aJ 104 [(G4 7),(G4 8)] [(some 4)] [15,18] [49,49] 49 true (.ret [(G4 9)]))))))
theorem Se:aN prog f49 (fun _=>none) [.v (some 4), .v none, .v none, .v (some 4)] = ac2:=by kernel_rfl
def ZD:Tr:=aJ 60 [(G4 15)] [(some 4)] [31] [49] 49 false (aJ 126 [(G4 1),(W 8 0)] [(some 4)] [33,34] [49,3] 49 false (aJ 104 [(G4 16),(G4 17)] [(some 4)] [32,35] [49,49] 49 true (.need (.lit 4 [[(.u 9 0),(.u 10 0),(.u 11 0),(.u 12 0)],[(.u 18 0),(.u 18 1),(.u 18 2),(.u 18 3)]]) (.buildSlice 50 2 #[(0,(tT 27)),(1,(tT 36))]) 50 false (aJ 140 [(.one (.c (.sr 4 19)))] [(some 4)] [37] [50] 49 true (aQ .add 3 25 1 8 0 3 (.back 0 [lV 21 0,lV 20 0,lV 20 1,lV 20 2,lV 20 3]))))))
def UP:Tr:=aJ 126 [(G4 1),(W 4 0)] [(some 4)] [53,54] [49,3] 49 true (aJ 102 [(G4 18),(G4 19)] [(some 4)] [52,55] [49,49] 49 true (aJ 104 [(.agg [(U 9 0),(U 10 0),(U 11 0),(U 12 0)]),(G4 20)] [(some 4)] [57,58] [49,49] 49 false (.need (.call 50 [(WK 1)] [(some 4)]) (.call ⟨.value (.func 50),#[(.const (I3 1))],#[2]⟩) 49 false (aJ 141 [(G4 22),(G4 14)] [(some 4)] [60,61] [49,49] 49 true (aJ 102 [(G4 21),(G4 23)] [(some 4)] [59,62] [49,49] 49 true (.ret [(G4 24)]))))))
def an1:Tr:=bK .lss 3 22 23 8 0 2 0 4 (.split (.u 13 0) (eU 0 0 8 0 50 28 29 (dP 14 0 (some 4) 49 30 ZD)) (aJ 49 [(G4 1),(W 4 0),(W 5 0),(G4 6)] [(some 4)] [39,40,41,42] [49,3,3,49] 49 true (aJ 103 [(W 4 0),(W 5 0)] [(some 4)] [44,45] [3,3] 49 false (bK .sub 3 48 49 4 0 5 0 3 (aJ 126 [(G4 6),(W 16 0)] [(some 4)] [47,50] [49,3] 49 false (aJ 104 [(G4 15),(G4 17)] [(some 4)] [46,51] [49,49] 49 false UP))))))
def ae2:Tr:=bK .sub 3 19 20 2 0 3 0 3 (.loop 0 [lV 7 0,lK 0,lN,lK 0,lN] an1)
theorem Vt:aN prog f51 (fun _=>none) [.v none, .v (some 4), .v none, .v none, .v none, .v none, .v (some 4)] = ae2:=by kernel_rfl
def dV (bG:Rat) (n d:Int) (r:Rat):Rat:=((n + 1:Int):Rat) / ((n + 1 - d:Int):Rat) * (r / bG)
def EU (a:List Rat) (bG:Rat) (n0:Nat):Nat → Rat
 | 0=>0
 | k + 1=>tC [EU a bG n0 k,(a.getD (n0 + k) 0).abs * bG ^ (n0 + k)] 2
def wE (b bG:Rat) (n d:Nat) (r:Rat):Rat:=b * (((bW n d:Int):Rat) * r ^ (n - d) / bG ^ n) / (((1:Int):Rat) - dV bG n d r)
abbrev ar9 (a:List aI) (bG:Rat) (st:Int):List aI:=a ++ qC bG ++ [.int .i64 st]
theorem Dr (a0 a1 a2 a3 a4:aI) (bG:Rat) (st:Int) (n d:Int) (r:Rat) (B:Nat) (h0:bG ≠ 0) (hn1:-1099511627776 ≤ n) (hn2:n < 1099511627776) (hd1:-1099511627776 ≤ d) (hd2:d < 1099511627776) (hnd:n + 1 - d ≠ 0) (hr:Fit B r) (hrho:Fit B bG) (hB:B ≤ 8589934592):aL prog 131 [(.agg (ar9 [a0,a1,a2,a3,a4] bG st):aH),(.one (.int .i64 n):aH),(.one (.int .i64 d):aH),(qT r:aH)] (.ret [qT (dV bG n d r)]):=by
 refine aD (args:=[.v (some 9), .v none, .v none, .v (some 3)]) (ins:=[.v (.agg (ar9 [a0,a1,a2,a3,a4] bG st)), .v (.one (.int .i64 n)), .v (.one (.int .i64 d)), .v (qT r)]) (hints:=(fun _=>none)) fo (by kernel_rfl) func131 ⟨rfl,rfl,rfl,rfl,trivial⟩ ?_
 rw [PS]
 dsimp only [List.map,In.env,aB,aA]
 refine vn (aE (by omega) (by omega)) rfl ?_
 dsimp only [aB,aA]
 refine vn (aE (by omega) (by omega)) rfl ?_
 dsimp only [aB,aA]
 refine vn (aG (by omega) (by omega)) rfl ?_
 dsimp only [aB,aA]
 have ho:=ZU (n + 1) (n + 1 - d) (by omega) (by omega) (by omega) (by omega)
 rw [if_neg hnd,if_neg hnd] at ho
 refine aC ho rfl ?_
 dsimp only [aB,aA]
 refine aC (pY r bG B B h0 hr hrho (by omega)) rfl ?_
 dsimp only [aB,aA]
 refine aC (fZ _ _ 128 (B + B) ((dH (by omega) (by omega)).div (dH (by omega) (by omega))) (hr.div hrho) (by omega)) rfl ?_
 dsimp only [aB,aA]
 exact aK rfl
theorem HT (bG:RQ) (n d:Int) (r:RQ) (B:Nat) (h0:bG.q ≠ 0) (hn1:-1099511627776 ≤ n) (hn2:n < 1099511627776) (hd1:-1099511627776 ≤ d) (hd2:d < 1099511627776) (hnd:n + 1 - d ≠ 0) (hr:Fit B r.q) (hrho:Fit B bG.q) (hB:B ≤ 1073741824):aL prog 49 [(fB bG:aH),(.one (.int .i64 n):aH),(.one (.int .i64 d):aH),(fB r:aH)] (.ret [fB (.of (dV bG.q n d r.q))]):=by
 refine aD (args:=[.v (some 4), .v none, .v none, .v (some 4)]) (ins:=[.v (fB bG), .v (.one (.int .i64 n)), .v (.one (.int .i64 d)), .v (fB r)]) (hints:=(fun _=>none)) fo (by kernel_rfl) func49 ⟨rfl,rfl,rfl,rfl,trivial⟩ ?_
 rw [Se]
 dsimp only [List.map,In.env,aB,aA]
 refine vn (aE (by omega) (by omega)) rfl ?_
 dsimp only [aB,aA]
 refine vn (aE (by omega) (by omega)) rfl ?_
 dsimp only [aB,aA]
 refine vn (aG (by omega) (by omega)) rfl ?_
 dsimp only [aB,aA]
 refine aC (Ls (n + 1) (n + 1 - d) hnd (by omega) (by omega) (by omega) (by omega)) rfl ?_
 dsimp only [aB,aA]
 refine aC (tY r bG B B h0 hr hrho (by omega)) rfl ?_
 dsimp only [aB,aA]
 refine aC (gA (.of (((n + 1:Int):Rat) / ((n + 1 - d:Int):Rat))) (.of (r.q / bG.q)) 128 (B + B) ((dH (by omega) (by omega)).div (dH (by omega) (by omega))) (hr.div hrho) (by omega)) rfl ?_
 dsimp only [aB,aA]
 exact aK rfl
theorem Ce {x:Rat} (h:x < 1):((1:Int):Rat) - x ≠ 0:=fun e=>by
 have:x = 1:=by grind
 rw [this] at h; exact absurd h (by decide)
structure oC (B:Nat) (bG:Rat) (n d:Nat) (r:Rat):Prop where
 ff:∀ j,j ≤ d → Fit B ((bW n j:Int):Rat)
 fr:∀ j,j ≤ 2 * n + 1 → Fit B (r ^ j)
 fo:∀ j,j ≤ 2 * n + 1 → Fit B (bG ^ j)
theorem oC.r1 {B:Nat} {bG:Rat} {n d:Nat} {r:Rat} (h:oC B bG n d r):Fit B r:=by have:=h.fr 1 (by omega); rwa [Rat.pow_succ,Rat.pow_zero,Rat.one_mul] at this
theorem oC.o1 {B:Nat} {bG:Rat} {n d:Nat} {r:Rat} (h:oC B bG n d r):Fit B bG:=by have:=h.fo 1 (by omega); rwa [Rat.pow_succ,Rat.pow_zero,Rat.one_mul] at this
theorem oC.sh {B:Nat} {bG:Rat} {n d:Nat} {r:Rat} (h:oC B bG n d r) (hn:n < 4611686018427387904) (hd:d < 4611686018427387904):Fit (128 + (B + B)) (dV bG n d r):=
 ((dH (n:=(n:Int) + 1) (by omega) (by omega)).div (dH (n:=(n:Int) + 1 - d) (by omega) (by omega))).mul (h.r1.div h.o1)
abbrev soC (ar:List aI) (bG:Rat) (st:Int) (y a:List Rat) (b:Rat):List aI:=(ar ++ qC bG ++ [.int .i64 st]) ++ [sQ y,sQ a] ++ qC b
set_option maxHeartbeats 1000000 in
theorem UZ (a0 a1 a2 a3 a4:aI) (bG:Rat) (st:Int) (y a:List Rat) (b:Rat) (n d:Nat) (r:Rat) (B:Nat) (C:oC B bG n d r) (hn:n < 1099511627776) (hd:d ≤ n) (h0:bG ≠ 0) (hb:Fit B b) (hB:B ≤ 2147483648) (h64:64 ≤ B) (hs1:dV bG n d r < 1):aL prog 133 [(.one (.bM (soC [a0,a1,a2,a3,a4] bG st y a b)):aH),(.one (.int .i64 n):aH),(.one (.int .i64 d):aH),(qT r:aH)] (.ret [qT (wE b bG n d r)]):=by
 refine aD (args:=[.v none, .v none, .v none, .v (some 3)]) (ins:=[.v (.one (.bM (soC [a0,a1,a2,a3,a4] bG st y a b))), .v (.one (.int .i64 n)), .v (.one (.int .i64 d)), .v (qT r)]) (hints:=(fun _=>none)) fo (by kernel_rfl) func133 ⟨rfl,rfl,rfl,rfl,trivial⟩ ?_
 rw [Xa]
 dsimp only [List.map,In.env,aB,aA]
 have hff:=C.ff d (Nat.le_refl _)
 have hfr:=C.fr (n - d) (by omega)
 have hfo:=C.fo n (by omega)
 have hsh:=C.sh (by omega) (by omega)
 have hp0:=qM h0 n
 refine aC (qH (n:Int) d B (by omega) (by omega) (by omega) (by omega) h64 (fun j hj=>C.ff j hj)) rfl ?_
 dsimp only [aB,aA]
 refine vn (aG (by omega) (by omega)) rfl ?_
 dsimp only [aB,aA]
 rw [show (n:Int) - (d:Int) = ((n - d:Nat):Int) by omega]
 refine aC (iI r (n - d) B (by omega) (by omega) (fun j hj=>C.fr j (by omega))) rfl ?_
 dsimp only [aB,aA]
 refine aC (fZ _ _ B B hff hfr (by omega)) rfl ?_
 dsimp only [aB,aA]
 refine vn Ph rfl ?_
 dsimp only [aB,aA]
 refine vn (BF Li (by decide)) rfl ?_
 dsimp only [aB,aA]
 refine vn (BF TP (by decide)) rfl ?_
 dsimp only [aB,aA]
 refine vn (bV sZ (by decide) (by simp) (.inl rfl)) rfl ?_
 dsimp only [aB,aA]
 refine aC (iI bG n B (by omega) (by omega) (fun j hj=>C.fo j (by omega))) rfl ?_
 dsimp only [aB,aA]
 refine aC (pY _ _ (B + B) B hp0 (hff.mul hfr) hfo (by omega)) rfl ?_
 dsimp only [aB,aA]
 refine vn Ph rfl ?_
 dsimp only [aB,aA]
 refine vn (BF SQ (by decide)) rfl ?_
 dsimp only [aB,aA]
 refine vn (bV sZ (by decide) (by simp) (.inl rfl)) rfl ?_
 dsimp only [aB,aA]
 refine aC (fZ _ _ B (B + B + B) hb ((hff.mul hfr).div hfo) (by omega)) rfl ?_
 dsimp only [aB,aA]
 refine aC (kQ 1 (by omega) (by omega)) rfl ?_
 dsimp only [aB,aA]
 refine vn Ph rfl ?_
 dsimp only [aB,aA]
 refine vn (BF Li (by decide)) rfl ?_
 dsimp only [aB,aA]
 refine vn (bV au1 (by decide) (by simp) (.inl rfl)) rfl ?_
 dsimp only [aB,aA]
 refine aC (Dr a0 a1 a2 a3 a4 bG st n d r B h0 (by omega) (by omega) (by omega) (by omega) (by omega) C.r1 C.o1 (by omega)) rfl ?_
 dsimp only [aB,aA]
 refine aC (Sz _ _ 64 (128 + (B + B)) (Fit.int (by omega) (by omega)) hsh (by omega)) rfl ?_
 dsimp only [aB,aA]
 refine aC (pY _ _ (B + (B + B + B)) (64 + (128 + (B + B)) + 1) (Ce hs1) (hb.mul ((hff.mul hfr).div hfo)) ((Fit.int (by omega) (by omega)).sub hsh) (by omega)) rfl ?_
 dsimp only [aB,aA]
 exact aK rfl
set_option maxHeartbeats 1000000 in
theorem Il (q:List (List Rat)) (m:Nat) (lead bG:Rat) (st:Nat) (y:List Rat) (N B:Nat) (C:kK B q m lead y N) (hst:st ≤ N) (hN:N ≤ 1073741824) (hm:m ≤ 64) (hmN:m ≤ N) (hB:B ≤ 4294967296) (h64:64 ≤ B) (hql:q.length = m + 1) (hyl:y.length = m) (hp:∀ p ∈ q,p.length < 1048576) (hl0:lead ≠ 0) (hw:m + aU q ≤ st) (hrho:∀ j,j ≤ 2 * st + 1 → Fit B (bG ^ j)):aL prog 132 [(.agg (RZ q m lead bG (st:Nat)):aH),(.one (sQ y):aH)] (.ret [.one (.bM (soC ([eQ q, .int .i64 m] ++ qC lead) bG st y (bD q m lead y st) (EU (bD q m lead y st) bG (st - (m + aU q)) (m + aU q))))]):=by
 refine aD (args:=[.v (some 9), .v none]) (ins:=[.v (.agg (RZ q m lead bG (st:Nat))), .v (.one (sQ y))]) (hints:=(fun _=>none)) fo (by kernel_rfl) func132 ⟨rfl,rfl,trivial⟩ ?_
 rw [HV]
 dsimp only [List.map,In.env,aB,aA]
 have hdm:=lE (N:=1048576) q (fun p hp'=>Nat.le_of_lt (hp p hp'))
 have hal:=cH q m lead y st
 have haf:∀ x ∈ bD q m lead y st,Fit B x:=fun x hx=>zP C hst hx
 refine aC (Gy q m lead y st N B C hst hN hm hmN (by omega) h64 hql hyl (fun p hp'=>by have:=hp p hp'; omega) hl0) rfl ?_
 dsimp only [aB,aA]
 refine aC (Hi q m lead (fun p hp'=>by have:=hp p hp'; omega) (by omega) (by omega)) rfl ?_
 dsimp only [aB,aA]
 refine vn (aG (by omega) (by omega)) rfl ?_
 dsimp only [aB,aA]
 generalize hW:m + aU q = W at *
 generalize ha:bD q m lead y st = a at *
 have fb:∀ k,k ≤ W → Fit (B + B) (EU a bG (st - W) k):=by
  intro k
  induction k with
  | zero=>exact fun _=>Fit.zero (by omega)
  | succ k ih=>
    intro hk
    rw [EU]
    refine rO (by omega) (fun x hx=>?_) 2 (by simp)
    simp only [List.mem_cons,List.not_mem_nil,or_false] at hx
    rcases hx with rfl | rfl
    ·exact ih (by omega)
    ·exact (gZ (kF (by omega) haf _)).mul (hrho _ (by omega))
 refine bA {k:Nat // k ≤ W} (fun g=>([aH.one (.int .i64 ((st - W + g.1:Nat):Int)), .one (eQ q), .one (.int .i64 m)]:List aH) ++ (qC lead).map aH.one ++ (qC bG).map aH.one ++ [aH.one (.int .i64 st), .one (sQ y), .one (sQ a)] ++ (qC (EU a bG (st - W) g.1)).map aH.one) (fun g=>W - g.1) ⟨0,Nat.zero_le _⟩ (by
  have e:(st:Int) - (W:Int) = ((st - W + 0:Nat):Int):=by omega
  rw [e]
  exact ⟨aH.Sub.same,aH.Sub.same,aH.Sub.same,aH.Sub.same,aH.Sub.same,aH.Sub.same,aH.Sub.same,aH.Sub.same,aH.Sub.same,aH.Sub.same,aH.Sub.same,aH.Sub.same,fA.1,fA.2.1,fA.2.2.1,trivial⟩) (fun _=>rfl) ?_
 rintro ⟨k,hk⟩
 dsimp only [aB,aA,List.map] at hk ⊢
 refine vn aY rfl ?_
 dsimp only [aB,aA]
 refine vs _ rfl (fun h5=>?_) (fun h5=>?_)
 ·have hkl:st - W + k < a.length:=by omega
  have hfa:=gZ (haf _ (List.mem_of_getElem? (dD hkl)))
  have hfr:=hrho (st - W + k) (by omega)
  refine vn (aR DN (by omega) (Int.toNat_natCast (st - W + k)) (dD hkl)) rfl ?_
  dsimp only [aB,aA]
  refine vn (bV sZ (by decide) (by simp) (.inl rfl)) rfl ?_
  dsimp only [aB,aA]
  refine aC (BR _) rfl ?_
  dsimp only [aB,aA]
  refine aC (iI bG (st - W + k) B (by omega) (by omega) (fun j hj=>hrho j (by omega))) rfl ?_
  dsimp only [aB,aA]
  refine aC (fZ _ _ B B hfa hfr (by omega)) rfl ?_
  dsimp only [aB,aA]
  refine bL (us:=rQ [EU a bG (st - W) k,(a.getD (st - W + k) 0).abs * bG ^ (st - W + k)]) rfl ?_
  dsimp only [aB,aA]
  refine aC (aE9 [EU a bG (st - W) k,(a.getD (st - W + k) 0).abs * bG ^ (st - W + k)] (B + B) (fun x hx=>by
   simp only [List.mem_cons,List.not_mem_nil,or_false] at hx
   rcases hx with rfl | rfl
   ·exact fb k hk
   ·exact hfa.mul hfr) (by omega) (by omega) (by simp)) rfl ?_
  dsimp only [aB,aA]
  refine vn (aE (by omega) (by omega)) rfl ?_
  dsimp only [aB,aA]
  exact aP rfl ⟨⟨k + 1,by omega⟩,aM.rfl,by show W - (k + 1) < W - k; omega⟩
 rw [show k = W by omega]; exact aK rfl
set_option maxHeartbeats 1000000 in
theorem TL (a:List RQ) (bG:RQ) (st W n d:Nat) (r:RQ) (B:Nat) (C:oC B bG.q n d r.q) (hst:st ≤ n) (hW:W ≤ st) (hal:st ≤ a.length) (hal2:a.length < 1099511627776) (haf:∀ x ∈ a,Fit B x.q) (hn:n < 1073741824) (hd:d ≤ n) (h0:bG.q ≠ 0) (hB:B ≤ 536870912) (h64:64 ≤ B) (hs1:dV bG.q n d r.q < 1):aL prog 51 [(.one (sR a):aH),(fB bG:aH),(.one (.int .i64 st):aH),(.one (.int .i64 W):aH),(.one (.int .i64 n):aH),(.one (.int .i64 d):aH),(fB r:aH)] (.ret [fB (.of (wE (EU (a.map RQ.q) bG.q (st - W) W) bG.q n d r.q))]):=by
 refine aD (args:=[.v none, .v (some 4), .v none, .v none, .v none, .v none, .v (some 4)]) (ins:=[.v (.one (sR a)), .v (fB bG), .v (.one (.int .i64 st)), .v (.one (.int .i64 W)), .v (.one (.int .i64 n)), .v (.one (.int .i64 d)), .v (fB r)]) (hints:=(fun _=>none)) fo (by kernel_rfl) func51 ⟨rfl,rfl,rfl,rfl,rfl,rfl,rfl,trivial⟩ ?_
 rw [Vt]
 dsimp only [List.map,In.env,aB,aA]
 have hff:=C.ff d (Nat.le_refl _)
 have hfr:=C.fr (n - d) (by omega)
 have hfo:=C.fo n (by omega)
 have hsh:=C.sh (by omega) (by omega)
 have hp0:=qM h0 n
 have haq:∀ x ∈ a.map RQ.q,Fit B x:=fun x hx=>by
  obtain ⟨y,hy,rfl⟩:=List.mem_map.1 hx
  exact haf y hy
 have fb:∀ k,k ≤ W → Fit (B + B) (EU (a.map RQ.q) bG.q (st - W) k):=by
  intro k
  induction k with
  | zero=>exact fun _=>Fit.zero (by omega)
  | succ k ih=>
    intro hk
    rw [EU]
    refine rO (by omega) (fun x hx=>?_) 2 (by simp)
    simp only [List.mem_cons,List.not_mem_nil,or_false] at hx
    rcases hx with rfl | rfl
    ·exact ih (by omega)
    ·exact (gZ (kF (by omega) haq _)).mul (C.fo _ (by omega))
 refine vn (aG (by omega) (by omega)) rfl ?_
 dsimp only [aB,aA]
 refine bA {g:Nat × RQ // g.1 ≤ W ∧ g.2.q = EU (a.map RQ.q) bG.q (st - W) g.1} (fun g=>(.one (.int .i64 ((st - W + g.1.1:Nat):Int)):aH) :: (rC g.1.2).map .one) (fun g=>W - g.1.1) ⟨(0, .nil),Nat.zero_le _,rfl⟩ (by
  have e:(st:Int) - (W:Int) = ((st - W + 0:Nat):Int):=by omega
  rw [e]
  exact ⟨aH.Sub.same,kA.1,kA.2.1,kA.2.2.1,kA.2.2.2.1,trivial⟩) (fun _=>rfl) ?_
 rintro ⟨⟨k,b⟩,hk,hb⟩
 dsimp only [aB,aA,List.map] at hk hb ⊢
 refine vn aY rfl ?_
 dsimp only [aB,aA]
 refine vs _ rfl (fun h3=>?_) (fun h3=>?_)
 ·obtain ⟨x,hx⟩:∃ x,a[st - W + k]? = some x:=⟨_,List.getElem?_eq_getElem (by omega)⟩
  have hfx:=gZ (haf x (List.mem_of_getElem? hx))
  have hfk:=C.fo (st - W + k) (by omega)
  have hbf:Fit (B + B) b.q:=by rw [hb]; exact fb k hk
  refine vn (aR IK (by omega) (Int.toNat_natCast (st - W + k)) hx) rfl ?_
  dsimp only [aB,aA]
  refine vn (bV qK (by decide) (by simp) (.inl rfl)) rfl ?_
  dsimp only [aB,aA]
  refine aC (BV x) rfl ?_
  dsimp only [aB,aA]
  refine aC (kI bG B (by omega) C.o1 (st - W + k) (by omega) (fun j hj=>C.fo j (by omega))) rfl ?_
  dsimp only [aB,aA]
  refine aC (gA (.of x.q.abs) (.of (bG.q ^ (st - W + k))) B B hfx hfk (by omega)) rfl ?_
  dsimp only [aB,aA]
  refine bL (us:=rR [b, .of (x.q.abs * bG.q ^ (st - W + k))]) rfl ?_
  dsimp only [aB,aA]
  refine aC (al5 [b, .of (x.q.abs * bG.q ^ (st - W + k))] (B + B) (fun z hz=>by
   simp only [List.mem_cons,List.not_mem_nil,or_false] at hz
   rcases hz with rfl | rfl
   ·exact hbf
   ·exact hfx.mul hfk) (by omega) (by omega) (by simp)) rfl ?_
  dsimp only [aB,aA]
  refine vn (aE (by omega) (by omega)) rfl ?_
  dsimp only [aB,aA]
  exact aP rfl ⟨⟨(k + 1,qO [b, .of (x.q.abs * bG.q ^ (st - W + k))] 2),by dsimp only; omega,by
   dsimp only
   rw [Bm,EU,← hb,getD_some hx]; rfl⟩,aM.of_eq rfl,by show W - (k + 1) < W - k; omega⟩
 obtain rfl:k = W:=by omega
 have hbf:Fit (B + B) b.q:=by rw [hb]; exact fb k hk
 refine aC (HT bG n d r B h0 (by omega) (by omega) (by omega) (by omega) (by omega) C.r1 C.o1 (by omega)) rfl ?_
 dsimp only [aB,aA]
 refine aC (qB (n:Int) d B (by omega) (by omega) (by omega) (by omega) h64 (fun j hj=>C.ff j hj)) rfl ?_
 dsimp only [aB,aA]
 refine vn (aG (by omega) (by omega)) rfl ?_
 dsimp only [aB,aA]
 rw [show (n:Int) - (d:Int) = ((n - d:Nat):Int) by omega]
 refine aC (kI r B (by omega) C.r1 (n - d) (by omega) (fun j hj=>C.fr j (by omega))) rfl ?_
 dsimp only [aB,aA]
 refine aC (gA (.of ((bW n d:Int):Rat)) (.of (r.q ^ (n - d))) B B hff hfr (by omega)) rfl ?_
 dsimp only [aB,aA]
 refine aC (kI bG B (by omega) C.o1 n (by omega) (fun j hj=>C.fo j (by omega))) rfl ?_
 dsimp only [aB,aA]
 refine aC (tY (.of (((bW n d:Int):Rat) * r.q ^ (n - d))) (.of (bG.q ^ n)) (B + B) B hp0 (hff.mul hfr) hfo (by omega)) rfl ?_
 dsimp only [aB,aA]
 refine aC (gA b (.of (((bW n d:Int):Rat) * r.q ^ (n - d) / bG.q ^ n)) (B + B) (B + B + B) hbf ((hff.mul hfr).div hfo) (by omega)) rfl ?_
 dsimp only [aB,aA]
 refine aC (fY 1 (by omega) (by omega)) rfl ?_
 dsimp only [aB,aA]
 refine aC (ZL (.of ((1:Int):Rat)) (.of (dV bG.q n d r.q)) 64 (128 + (B + B)) (Fit.int (by omega) (by omega)) hsh (by omega)) rfl ?_
 dsimp only [aB,aA]
 refine aC (tY (.of (b.q * (((bW n d:Int):Rat) * r.q ^ (n - d) / bG.q ^ n))) (.of (((1:Int):Rat) - dV bG.q n d r.q)) (B + B + (B + B + B)) (64 + (128 + (B + B)) + 1) (Ce hs1) (hbf.mul ((hff.mul hfr).div hfo)) ((Fit.int (by omega) (by omega)).sub hsh) (by omega)) rfl ?_
 rw [show (RQ.of (b.q * (((bW n d:Int):Rat) * r.q ^ (n - d) / bG.q ^ n))).q / (RQ.of (((1:Int):Rat) - dV bG.q n d r.q)).q = wE (EU (a.map RQ.q) bG.q (st - k) k) bG.q n d r.q by rw [wE,← hb]; rfl]
 dsimp only [aB,aA]
 exact aK rfl
end Go.Sy
