/- Cases in both ways.
-/
import Derived.Test.YtdmcadckdnnglaaGreatDoorOb
set_option linter.unusedVariables false
set_option linter.unusedSimpArgs false
namespace Go.Sy
open Go Go.Proofs Tryz Ord
def XZ:Tr:=.need (.lit 1 [[(.u 8 0)]]) (.buildSlice 32 1 #[(0,(tT 29))]) 32 false (.need (.app 1 24 (some 2) none (some 10)) (.call ⟨.builtin .append,#[(tT 28),(tT 30)],#[32,32]⟩) 32 false (aJ 144 [(W 9 0)] [none] [33] [167] 167 false (.need (.lit 1 [[(.u 12 0)]]) (.buildSlice 44 1 #[(0,(tT 34))]) 44 false (.need (.app 1 24 (some 3) none (some 13)) (.call ⟨.builtin .append,#[(tT 32),(tT 35)],#[44,44]⟩) 44 false (aQ .add 3 17 1 1 0 3 (.back 0 [lV 15 0, .row 11, .row 14]))))))
def Wy:Tr:=.need (.idx 10 (.u 12 0)) (.indexAddr 50 (tT 51) (tT 53)) 0 false (.need (.strow 10 4 (.u 12 0) 0 [(.u 14 0),(.u 14 1),(.u 14 2),(.u 14 3)]) (.store 49 (tT 57) (tT 55)) 0 false (.need (.lit 1 [[(.sr 3 15)]]) (.buildSlice 32 1 #[(0,(tT 59))]) 32 false (.need (.app 1 24 (some 2) none (some 17)) (.call ⟨.builtin .append,#[(tT 58),(tT 60)],#[32,32]⟩) 32 false (.need (.lit 1 [[(.sr 4 16)]]) (.buildSlice 44 1 #[(0,(tT 63))]) 44 false (.need (.app 1 24 (some 3) none (some 19)) (.call ⟨.builtin .append,#[(tT 62),(tT 64)],#[44,44]⟩) 44 false (.ret [(.one (.c (.sr 1 18))),(.one (.c (.sr 1 20)))]))))))
def Xd:Tr:=.need (.make [(.int .i64 0),(.slice none 0 0),(.int .i64 0),(.slice none 0 0)] 64 (.u 8 0) (.u 8 0)) (.makeSlice 50 (tT 46) (tT 46)) 50 false (aQ .sub 3 49 1 8 0 3 (aQ .sub 3 52 1 8 0 3 (.need (.call 68 [(WK 1)] [(some 3)]) (.call ⟨.value (.func 68),#[(.const (I3 1))],#[2]⟩) 39 true (.need (.call 50 [(WK 1)] [(some 4)]) (.call ⟨.value (.func 50),#[(.const (I3 1))],#[2]⟩) 49 true (.need (.idx 9 (.u 11 0)) (.indexAddr 40 (tT 48) (tT 50)) 0 false (.need (.strow 9 3 (.u 11 0) 0 [(.u 13 0),(.u 13 1),(.u 13 2)]) (.store 39 (tT 56) (tT 54)) 0 false Wy))))))
def ac5:Tr:=bK .lss 3 12 15 1 0 4 0 4 (.split (.u 5 0) (eU 0 0 1 0 22 21 22 (dP 6 0 none 27 23 (aJ 71 [(W 7 0)] [none,none] [24] [27] 128 false XZ))) (aQ .gtr 3 38 0 0 1 4 (.split (.u 6 0) (aQ .rem 3 41 50 0 1 3 (aQ .add 3 42 1 7 0 3 (.need (.make [(.slice none 0 0),(.bool false),(.slice none 0 0)] 56 (.u 8 0) (.u 8 0)) (.makeSlice 40 (tT 44) (tT 44)) 40 false Xd))) (.ret [(.one (.c (.sr 1 2))),(.one (.c (.sr 1 3)))]))))
def YW:Tr:=.loop 0 [lK 0, .nilrow, .nilrow] (cM 0 0 14 22 ac5)
theorem Gv:aN prog f57 (fun _=>none) [.v (some 2)] = YW:=by kernel_rfl
def Kw:Tr:=.ret [(G5 7),(G6 9)]
def Te:Tr:=aQ .gtr 3 22 8 0 7 4 (.split (.u 3 0) (.need (.prim [(W 0 6),(.one (.c (.k (.int .u8 1))))] none) (.binOp .sub 5 (tT 26) (.const (.int .u8 1)) 5) 5 false (.need (.prim [(W 4 0),(.one (.c (.k (.int .u8 8))))] none) (.binOp .rem 5 (tT 27) (.const (.int .u8 8)) 5) 5 false (.need (.prim [(W 5 0),(.one (.c (.k (.int .u8 1))))] none) (.binOp .add 5 (tT 28) (.const (.int .u8 1)) 5) 5 false (aJ 18 [(W 6 0),(WK 2)] [(some 5),none] [31,32] [5,3] 56 false (aJ 25 [(W 6 0),(WK 2)] [(some 6)] [37,38] [5,3] 52 true Kw))))) (.need (.prim [(W 0 6),(.one (.c (.k (.int .u8 1))))] none) (.binOp .sub 5 (tT 26) (.const (.int .u8 1)) 5) 5 false (.need (.prim [(W 4 0),(.one (.c (.k (.int .u8 8))))] none) (.binOp .rem 5 (tT 27) (.const (.int .u8 8)) 5) 5 false (.need (.prim [(W 5 0),(.one (.c (.k (.int .u8 1))))] none) (.binOp .add 5 (tT 28) (.const (.int .u8 1)) 5) 5 false (aJ 18 [(W 6 0),(W 0 7)] [(some 5),none] [31,32] [5,3] 56 false (aJ 25 [(W 6 0),(W 0 7)] [(some 6)] [37,38] [5,3] 52 true Kw))))))
def ah4:Tr:=.split (.u 2 0) (.need (.prim [(W 0 6),(.one (.c (.k (.int .u8 1))))] none) (.binOp .sub 5 (tT 26) (.const (.int .u8 1)) 5) 5 false (.need (.prim [(W 3 0),(.one (.c (.k (.int .u8 8))))] none) (.binOp .rem 5 (tT 27) (.const (.int .u8 8)) 5) 5 false (.need (.prim [(W 4 0),(.one (.c (.k (.int .u8 1))))] none) (.binOp .add 5 (tT 28) (.const (.int .u8 1)) 5) 5 false (aJ 18 [(W 5 0),(WK 2)] [(some 5),none] [31,32] [5,3] 56 false (aJ 25 [(W 5 0),(WK 2)] [(some 6)] [37,38] [5,3] 52 true (.ret [(G5 6),(G6 8)])))))) Te
def al9:Tr:=.need (.prim [(W 0 6),(.one (.c (.k (.int .u8 0))))] none) (.binOp .gtr 5 (tT 15) (.const (.int .u8 0)) 5) 4 false (.split (.u 1 0) (aQ .lss 3 19 0 0 7 4 ah4) (aJ 57 [(G2 0)] [none,none] [42] [24] 107 false (aJ 40 [(.agg [(U 0 2),(U 0 3),(U 0 4)])] [(some 3),(some 4)] [48] [26] 82 false (aJ 71 [(W 0 5)] [none,none] [54] [27] 128 false (.ret [(.agg [(U 2 0),(U 4 0),(U 4 1),(U 4 2),(U 6 0)]),(.agg [(U 3 0),(U 5 0),(U 5 1),(U 5 2),(U 5 3),(U 7 0)])])))))
theorem Th:aN prog f17 (fun _=>none) [.v (some 8)] = al9:=by kernel_rfl
def kU (n:Nat):List Rat:=(List.replicate n (0:Rat)).set (n - 1) 1
def Gq (n:Nat):List RQ:=(List.replicate n RQ.nil).set (n - 1) (.of 1)
def DQ (p:List (List bP)) (long:Int):List (List Rat):=p.map cJ ++ if 0 < long then [kU (long % 50 + 1).toNat] else []
def SF (p:List (List bP)) (long:Int):List (List RQ):=p.map (fun l=>eA (pK l)) ++ if 0 < long then [Gq (long % 50 + 1).toNat] else []
theorem vV {α β:Type} {R:α → β → Prop} {a:α} {b:β} (h:R a b):∀ n,aW R (List.replicate n a) (List.replicate n b)
 | 0=>trivial
 | n + 1=>⟨h,vV h n⟩
theorem CG {α β:Type} {R:α → β → Prop} {a:α} {b:β} (h:R a b):∀ {xs:List α} {ys:List β} (m:Nat),aW R xs ys → aW R (xs.set m a) (ys.set m b)
 | [],[],_,_=>trivial
 | _ :: _,_ :: _,0,⟨_,k⟩=>⟨h,k⟩
 | _ :: _,_ :: _,m + 1,⟨j,k⟩=>⟨j,CG h m k⟩
 | [],_ :: _,_,k=>k.elim
 | _ :: _,[],_,k=>k.elim
abbrev z3:List aI:=[.exact (.slice none 0 0), .bool false, .exact (.slice none 0 0)]
abbrev z4:List aI:=[.int .i64 0, .exact (.slice none 0 0), .int .i64 0, .exact (.slice none 0 0)]
theorem Un (n:Nat):aW (aW aI.Sub) ((List.replicate n z3).set (n - 1) (qC 1)) ((kU n).map qC):=by
 rw [kU,List.map_set,List.map_replicate]
 exact CG ⟨aI.Sub.same,aI.Sub.same,aI.Sub.same,trivial⟩ _ (vV fA n)
theorem NN (n:Nat):aW (aW aI.Sub) ((List.replicate n z4).set (n - 1) (rC (.of 1))) ((Gq n).map rC):=by
 rw [Gq,List.map_set,List.map_replicate]
 exact CG ⟨aI.Sub.same,aI.Sub.same,aI.Sub.same,aI.Sub.same,trivial⟩ _ (vV kA n)
theorem Ci {α:Type} {l:List α} {i:Nat} {x:α} (h:l[i]? = some x):l.take i ++ [x] = l.take (i + 1):=by
 rw [List.take_add_one,h]; rfl
theorem rI (l:List bP):(cJ l).length = l.length:=List.length_map _
theorem Fb (l:List bP):(pK l).length = l.length:=List.length_map _
set_option maxHeartbeats 1000000 in
theorem HK (p:List (List bP)) (long:Int) (hp:InP p) (hs:iX p = true) (hl1:-9223372036854775808 ≤ long) (hl2:long < 9223372036854775808):aL prog 57 [(.agg [sP p, .int .i64 long]:aH)] (.ret [.one (eQ (DQ p long)), .one (eR (SF p long))]):=by
 refine aD (args:=[.v (some 2)]) (ins:=[.v (.agg [sP p, .int .i64 long])]) (hints:=(fun _=>none)) fo (by kernel_rfl) func57 ⟨rfl,trivial⟩ ?_
 rw [Gv]
 dsimp only [List.map,In.env,aB,aA]
 have hs:=hs
 unfold iX at hs
 rw [decide_eq_true_iff] at hs
 obtain ⟨hp6,hpx⟩:=hs
 refine bA {i:Nat // i ≤ p.length} (fun g=>[.one (.int .i64 g.1), .rows ((p.take g.1).map fun l=>cQ (cJ l)), .rows ((p.take g.1).map fun l=>cR (eA (pK l)))]) (fun g=>p.length - g.1) ⟨0,Nat.zero_le _⟩ aM.rfl (fun _=>rfl) ?_
 rintro ⟨i,hi⟩
 dsimp only [aB,aA] at hi ⊢
 refine vn (aO Jo (List.length_map _)) rfl ?_
 dsimp only [aB,aA]
 refine vn aY rfl ?_
 dsimp only [aB,aA]
 refine vs _ rfl (fun h3=>?_) (fun h3=>?_)
 ·obtain ⟨l,hl⟩:∃ l,p[i]? = some l:=⟨_,List.getElem?_eq_getElem (by omega)⟩
  have hlm:=List.mem_of_getElem? hl
  have hl4:=(hpx l hlm).1
  have hti:(p.take i).length ≤ i:=by rw [List.length_take]; omega
  refine vn (aR Jo (by omega) (by omega) hl) rfl ?_
  dsimp only [aB,aA]
  refine vn (bB TR) rfl ?_
  dsimp only [aB,aA]
  refine aC (KP l (fun x hx=>(hp.p l hlm).2 x hx) (by omega)) rfl ?_
  dsimp only [aB,aA]
  refine bL (us:=[cQ (cJ l)]) rfl ?_
  dsimp only [aB,aA]
  refine lP (xs:=p.take i) (x:=l) (f:=fun l=>cQ (cJ l)) rfl rfl (by omega) (by simp only [maxLen]; omega) ?_
  rw [Ci hl]
  dsimp only [aB,aA]
  refine aC (sO (pK l) (by rw [Fb]; omega)) rfl ?_
  dsimp only [aB,aA]
  refine bL (us:=[cR (eA (pK l))]) rfl ?_
  dsimp only [aB,aA]
  refine lP (xs:=p.take i) (x:=l) (f:=fun l=>cR (eA (pK l))) rfl rfl (by omega) (by simp only [maxLen]; omega) ?_
  rw [Ci hl]
  dsimp only [aB,aA]
  refine vn (aE (by omega) (by omega)) rfl ?_
  dsimp only [aB,aA]
  exact aP rfl ⟨⟨i + 1,by omega⟩,aM.rfl,by show p.length - (i + 1) < p.length - i; omega⟩
 rw [show i = p.length by omega,List.take_length]
 refine vn cP rfl ?_
 dsimp only [aB,aA]
 refine vs _ rfl (fun h15=>?_) (fun h15=>?_)
 ·obtain ⟨n,hn⟩:∃ n:Nat,(long % 50 + 1).toNat = n:=⟨_,rfl⟩
  have hn1:long % 50 + 1 = (n:Int):=by omega
  have hn2:n ≤ 50:=by omega
  have hn3:1 ≤ n:=by omega
  refine vn (eS (by omega) (by omega)) rfl ?_
  dsimp only [aB,aA]
  refine vn (dK (c:=(n:Int)) (by rw [hn1]; exact dI (by omega) (by omega))) rfl ?_
  dsimp only [aB,aA]
  refine tD (n:=n) (m:=n) (us:=List.replicate n z3) rfl rfl rfl (Nat.le_refl _) (by omega) (by simp only [maxLen]; omega) ?_
  dsimp only [aB,aA]
  refine tD (n:=n) (m:=n) (us:=List.replicate n z4) rfl rfl rfl (Nat.le_refl _) (by omega) (by simp only [maxLen]; omega) ?_
  dsimp only [aB,aA]
  refine vn (aG (by omega) (by omega)) rfl ?_
  dsimp only [aB,aA]
  refine vn (aG (by omega) (by omega)) rfl ?_
  dsimp only [aB,aA]
  refine aC (kQ 1 (by omega) (by omega)) rfl ?_
  dsimp only [aB,aA]
  refine aC (fY 1 (by omega) (by omega)) rfl ?_
  dsimp only [aB,aA]
  refine oW rfl rfl (by omega) (by rw [List.length_replicate]; omega) ?_
  refine Fo (ts:=List.replicate n z3) (us:=(List.replicate n z3).set (n - 1) (qC 1)) rfl rfl (by omega) (cells:=z3) (by rw [show ((n:Int) - 1).toNat = n - 1 by omega,List.getElem?_replicate,if_pos (by omega)]) (by rw [show ((n:Int) - 1).toNat = n - 1 by omega]; rfl) ?_
  dsimp only [aB,aA]
  refine oW rfl rfl (by omega) (by rw [List.length_replicate]; omega) ?_
  refine Fo (ts:=List.replicate n z4) (us:=(List.replicate n z4).set (n - 1) (rC (.of 1))) rfl rfl (by omega) (cells:=z4) (by rw [show ((n:Int) - 1).toNat = n - 1 by omega,List.getElem?_replicate,if_pos (by omega)]) (by rw [show ((n:Int) - 1).toNat = n - 1 by omega]; rfl) ?_
  dsimp only [aB,aA]
  refine bL (us:=[[.slice 3 ((List.replicate n z3).set (n - 1) (qC 1))]]) rfl ?_
  dsimp only [aB,aA]
  refine tR (ts:=p.map fun l=>cQ (cJ l)) (us:=[[.slice 3 ((List.replicate n z3).set (n - 1) (qC 1))]]) rfl rfl rfl (by simp; omega) (by simp [maxLen]; omega) ?_
  dsimp only [aB,aA]
  refine bL (us:=[[.slice 4 ((List.replicate n z4).set (n - 1) (rC (.of 1)))]]) rfl ?_
  dsimp only [aB,aA]
  refine tR (ts:=p.map fun l=>cR (eA (pK l))) (us:=[[.slice 4 ((List.replicate n z4).set (n - 1) (rC (.of 1)))]]) rfl rfl rfl (by simp; omega) (by simp [maxLen]; omega) ?_
  dsimp only [aB,aA]
  refine dA ⟨aI.Sub.slice ?_,aI.Sub.slice ?_,trivial⟩
  ·rw [DQ,if_pos h15,hn,List.map_append,List.map_map]
   exact aW.append (aW.lR (aW.lR aI.Sub.refl) _) ⟨⟨aI.Sub.slice (Un n),trivial⟩,trivial⟩
  ·rw [SF,if_pos h15,hn,List.map_append,List.map_map]
   exact aW.append (aW.lR (aW.lR aI.Sub.refl) _) ⟨⟨aI.Sub.slice (NN n),trivial⟩,trivial⟩
 rw [DQ,SF,if_neg h15,if_neg h15,List.append_nil,List.append_nil]
 refine aK ?_
 rw [eQ,eR,List.map_map,List.map_map]; rfl
def bI.kk (c:bI):Nat:=(c.kind - 1) % 8 + 1
def bI.nn (c:bI):Int:=if c.n < 0 ∨ 8 < c.n then 2 else c.n
def bI.E (c:bI):List (List Rat):=if 0 < c.kind then kE c.kk c.nn else DQ c.p c.long
def bI.X (c:bI):Rat:=if 0 < c.kind then 0 else c.c.v
def bI.Y (c:bI):List Rat:=if 0 < c.kind then kY c.kk else cJ c.y
def bI.ER (c:bI):List (List RQ):=if 0 < c.kind then kER c.kk c.nn else SF c.p c.long
def bI.XR (c:bI):RQ:=if 0 < c.kind then .nil else .of c.c.v
def bI.YR (c:bI):List RQ:=if 0 < c.kind then kYR c.kk else pK c.y
theorem LC {k:Nat} {n:Int} (h1:1 ≤ k) (h2:k ≤ 8) (h3:0 ≤ n) (h4:n ≤ 40):jA k n = (kE k n,kY k,0):=by
 rw [jA,if_neg (by omega),if_neg (by omega)]
theorem SU (c:bI) (h:c.In) (hs:c.small = true):aL prog 17 [(caT c:aH)] (.ret [fT c.E c.X c.Y,fR c.ER c.XR c.YR]):=by
 refine aD (args:=[.v (some 8)]) (ins:=[.v (caT c)]) (hints:=(fun _=>none)) fo (by kernel_rfl) func17 ⟨rfl,trivial⟩ ?_
 rw [Th]
 dsimp only [List.map,In.env,aB,aA]
 have hs':=hs
 unfold bI.small at hs'
 rw [decide_eq_true_iff] at hs'
 obtain ⟨_,hsp,_,hyl⟩:=hs'
 have hk:=h.hk
 have hn1:=h.hn1
 have hn2:=h.hn2
 have hkk1:1 ≤ c.kk:=by unfold bI.kk; omega
 have hkk8:c.kk ≤ 8:=by unfold bI.kk; omega
 have hnn:0 ≤ c.nn ∧ c.nn ≤ 8:=by unfold bI.nn; split <;> omega
 have hK:=GQ c.kk c.nn (by omega) (by omega) (by omega)
 rw [LC hkk1 hkk8 (by omega) (by omega)] at hK
 have hR:=QW c.kk c.nn hkk1 hkk8 (by omega) (by omega)
 refine vn cP rfl ?_
 dsimp only [aB,aA]
 refine vs _ rfl (fun h1=>?_) (fun h1=>?_)
 ·have hk0:0 < c.kind:=by omega
  have hkki:((c.kind:Int) - 1) % 8 + 1 = (c.kk:Int):=by unfold bI.kk; omega
  rw [show c.E = kE c.kk c.nn by rw [bI.E,if_pos hk0],show c.X = 0 by rw [bI.X,if_pos hk0],show c.Y = kY c.kk by rw [bI.Y,if_pos hk0],show c.ER = kER c.kk c.nn by rw [bI.ER,if_pos hk0],show c.XR = RQ.nil by rw [bI.XR,if_pos hk0],show c.YR = kYR c.kk by rw [bI.YR,if_pos hk0]]
  refine vn aY rfl ?_
  dsimp only [aB,aA]
  refine vs _ rfl (fun h3=>?_) (fun h3=>?_)
  ·have hnnv:c.nn = 2:=by rw [bI.nn,if_pos (by omega)]
   rw [hnnv] at hK hR ⊢
   refine vn (Da (by omega) (by omega)) rfl ?_
   dsimp only [aB,aA]
   refine vn (eS (by omega) (by omega)) rfl ?_
   dsimp only [aB,aA]
   refine vn (dK (c:=(c.kk:Int)) (by rw [hkki]; exact HF (by omega) (by omega))) rfl ?_
   dsimp only [aB,aA]
   refine aC hK rfl ?_
   dsimp only [aB,aA]
   refine aC hR rfl ?_
   dsimp only [aB,aA]
   exact aK rfl
  refine vn cP rfl ?_
  dsimp only [aB,aA]
  refine vs _ rfl (fun h11=>?_) (fun h11=>?_)
  ·have hnnv:c.nn = 2:=by rw [bI.nn,if_pos (by omega)]
   rw [hnnv] at hK hR ⊢
   refine vn (Da (by omega) (by omega)) rfl ?_
   dsimp only [aB,aA]
   refine vn (eS (by omega) (by omega)) rfl ?_
   dsimp only [aB,aA]
   refine vn (dK (c:=(c.kk:Int)) (by rw [hkki]; exact HF (by omega) (by omega))) rfl ?_
   dsimp only [aB,aA]
   refine aC hK rfl ?_
   dsimp only [aB,aA]
   refine aC hR rfl ?_
   dsimp only [aB,aA]
   exact aK rfl
  have hnnv:c.nn = c.n:=by rw [bI.nn,if_neg (by omega)]
  rw [hnnv] at hK hR ⊢
  refine vn (Da (by omega) (by omega)) rfl ?_
  dsimp only [aB,aA]
  refine vn (eS (by omega) (by omega)) rfl ?_
  dsimp only [aB,aA]
  refine vn (dK (c:=(c.kk:Int)) (by rw [hkki]; exact HF (by omega) (by omega))) rfl ?_
  dsimp only [aB,aA]
  refine aC hK rfl ?_
  dsimp only [aB,aA]
  refine aC hR rfl ?_
  dsimp only [aB,aA]
  exact aK rfl
 have hk0:¬ 0 < c.kind:=by omega
 rw [show c.E = DQ c.p c.long by rw [bI.E,if_neg hk0],show c.X = c.c.v by rw [bI.X,if_neg hk0],show c.Y = cJ c.y by rw [bI.Y,if_neg hk0],show c.ER = SF c.p c.long by rw [bI.ER,if_neg hk0],show c.XR = RQ.of c.c.v by rw [bI.XR,if_neg hk0],show c.YR = pK c.y by rw [bI.YR,if_neg hk0]]
 refine aC (HK c.p c.long h.hp hsp h.hl1 h.hl2) rfl ?_
 dsimp only [aB,aA]
 refine aC (Bn c.c h.hc) rfl ?_
 dsimp only [aB,aA]
 refine aC (KP c.y h.hy (by omega)) rfl ?_
 dsimp only [aB,aA]
 exact aK rfl
end Go.Sy
