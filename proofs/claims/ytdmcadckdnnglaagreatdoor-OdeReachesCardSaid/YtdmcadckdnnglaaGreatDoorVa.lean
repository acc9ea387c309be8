/- The reference's polynomials. The reference's shifted equations, its series. The reference's shifted polynomials are the program's.
-/
import Derived.Test.YtdmcadckdnnglaaGreatDoorOd
import Derived.Test.YtdmcadckdnnglaaGreatDoorPc
set_option linter.unusedVariables false
set_option linter.unusedSimpArgs false
namespace Go.Sy
open Go Go.Proofs Tryz Ord
def OC:Tr:=.ret [(W 2 0)]
def Yj:Tr:=.need (.lit 4 [[(.u 0 0),(.u 0 1),(.u 0 2),(.u 0 3)]]) (.buildSlice 167 1 #[(0,(tT 3))]) 167 false (aJ 144 [(.one (.c (.sr 4 1)))] [none] [4] [167] 167 true OC)
theorem Iq:aN prog f184 (fun _=>none) [.v (some 4)] = Yj:=by kernel_rfl
def Ya:Tr:=eU 0 0 2 0 167 14 15 (dP 6 0 (some 4) 49 16 (aJ 104 [(G4 7),(G4 1)] [(some 4)] [17,18] [49,49] 49 true (.need (.lit 4 [[(.u 8 0),(.u 8 1),(.u 8 2),(.u 8 3)]]) (.buildSlice 167 1 #[(0,(tT 19))]) 167 false (.need (.app 4 64 (some 3) none (some 9)) (.call ⟨.builtin .append,#[(tT 13),(tT 20)],#[167,167]⟩) 167 false (aQ .add 3 11 1 2 0 3 (.back 0 [lV 11 0, .row 10]))))))
def al2:Tr:=.loop 0 [lK 0, .nilrow] (cM 0 0 8 167 (bK .lss 3 7 9 2 0 4 0 4 (.split (.u 5 0) Ya (aJ 144 [(.one (.c (.sr 4 3)))] [none] [22] [167] 167 true (.ret [(W 6 0)])))))
theorem Oo:aN prog f186 (fun _=>none) [.v none, .v (some 4)] = al2:=by kernel_rfl
def Wv:Tr:=eU 1 0 2 0 167 36 37 (dP 14 0 (some 4) 49 38 (aJ 48 [(G4 11),(G4 15)] [(some 4)] [35,39] [49,49] 49 true (.need (.lit 4 [[(.u 16 0),(.u 16 1),(.u 16 2),(.u 16 3)]]) (.buildSlice 167 1 #[(0,(tT 42))]) 167 false (.need (.app 4 64 (some 3) none (some 17)) (.call ⟨.builtin .append,#[(tT 41),(tT 43)],#[167,167]⟩) 167 false (aQ .add 3 18 1 2 0 3 (.back 0 [lV 19 0, .row 18]))))))
def Kt:Tr:=.need (.app 4 64 (some 3) none (some 14)) (.call ⟨.builtin .append,#[(tT 41),(tT 43)],#[167,167]⟩) 167 false (aQ .add 3 18 1 2 0 3 (.back 0 [lV 16 0, .row 15]))
def Zv:Tr:=eU 0 0 2 0 167 26 27 (dP 9 0 (some 4) 49 28 (aJ 48 [(G4 6),(G4 10)] [(some 4)] [25,29] [49,49] 49 true (cM 1 0 32 167 (bK .lss 3 31 33 2 0 12 0 4 (.split (.u 13 0) Wv (.need (.lit 4 [[(.u 11 0),(.u 11 1),(.u 11 2),(.u 11 3)]]) (.buildSlice 167 1 #[(0,(tT 42))]) 167 false Kt))))))
def KV:Tr:=.back 0 [lV 13 0, .row 12]
def Vy:Tr:=cM 1 0 32 167 (bK .lss 3 31 33 2 0 9 0 4 (.split (.u 10 0) (eU 1 0 2 0 167 36 37 (dP 11 0 (some 4) 49 38 (aJ 48 [(G4 6),(G4 12)] [(some 4)] [35,39] [49,49] 49 true (.need (.lit 4 [[(.u 13 0),(.u 13 1),(.u 13 2),(.u 13 3)]]) (.buildSlice 167 1 #[(0,(tT 42))]) 167 false Kt)))) (.need (.lit 4 [[(.u 6 0),(.u 6 1),(.u 6 2),(.u 6 3)]]) (.buildSlice 167 1 #[(0,(tT 42))]) 167 false (.need (.app 4 64 (some 3) none (some 11)) (.call ⟨.builtin .append,#[(tT 41),(tT 43)],#[167,167]⟩) 167 false (aQ .add 3 18 1 2 0 3 KV)))))
def TH:Tr:=eU 1 0 2 0 167 36 37 (dP 16 0 (some 4) 49 38 (aJ 48 [(G4 13),(G4 17)] [(some 4)] [35,39] [49,49] 49 true (.need (.lit 4 [[(.u 18 0),(.u 18 1),(.u 18 2),(.u 18 3)]]) (.buildSlice 167 1 #[(0,(tT 42))]) 167 false (.need (.app 4 64 (some 3) none (some 19)) (.call ⟨.builtin .append,#[(tT 41),(tT 43)],#[167,167]⟩) 167 false (aQ .add 3 18 1 2 0 3 (.back 0 [lV 21 0, .row 20]))))))
def Lk:Tr:=.need (.app 4 64 (some 3) none (some 16)) (.call ⟨.builtin .append,#[(tT 41),(tT 43)],#[167,167]⟩) 167 false (aQ .add 3 18 1 2 0 3 (.back 0 [lV 18 0, .row 17]))
def VS:Tr:=eU 0 0 2 0 167 26 27 (dP 11 0 (some 4) 49 28 (aJ 48 [(G4 8),(G4 12)] [(some 4)] [25,29] [49,49] 49 true (cM 1 0 32 167 (bK .lss 3 31 33 2 0 14 0 4 (.split (.u 15 0) TH (.need (.lit 4 [[(.u 13 0),(.u 13 1),(.u 13 2),(.u 13 3)]]) (.buildSlice 167 1 #[(0,(tT 42))]) 167 false Lk))))))
def Lj:Tr:=.back 0 [lV 15 0, .row 14]
def VN:Tr:=cM 1 0 32 167 (bK .lss 3 31 33 2 0 11 0 4 (.split (.u 12 0) (eU 1 0 2 0 167 36 37 (dP 13 0 (some 4) 49 38 (aJ 48 [(G4 8),(G4 14)] [(some 4)] [35,39] [49,49] 49 true (.need (.lit 4 [[(.u 15 0),(.u 15 1),(.u 15 2),(.u 15 3)]]) (.buildSlice 167 1 #[(0,(tT 42))]) 167 false Lk)))) (.need (.lit 4 [[(.u 8 0),(.u 8 1),(.u 8 2),(.u 8 3)]]) (.buildSlice 167 1 #[(0,(tT 42))]) 167 false (.need (.app 4 64 (some 3) none (some 13)) (.call ⟨.builtin .append,#[(tT 41),(tT 43)],#[167,167]⟩) 167 false (aQ .add 3 18 1 2 0 3 Lj)))))
def SJ:Tr:=cM 1 0 14 167 (bK .lss 3 13 15 2 0 6 0 4 (.split (.u 7 0) (.need (.call 50 [(WK 0)] [(some 4)]) (.call ⟨.value (.func 50),#[(.const (I3 0))],#[2]⟩) 49 true (cM 0 0 22 167 (bK .lss 3 21 23 2 0 9 0 4 (.split (.u 10 0) VS VN)))) (aJ 144 [(.one (.c (.sr 4 3)))] [none] [45] [167] 167 true (.ret [(W 8 0)]))))
def an9:Tr:=cM 0 0 9 167 (bK .lss 3 8 10 2 0 4 0 4 (.split (.u 5 0) (.need (.call 50 [(WK 0)] [(some 4)]) (.call ⟨.value (.func 50),#[(.const (I3 0))],#[2]⟩) 49 true (cM 0 0 22 167 (bK .lss 3 21 23 2 0 7 0 4 (.split (.u 8 0) Zv Vy)))) SJ))
def Yb:Tr:=.loop 0 [lK 0, .nilrow] an9
theorem an2:aN prog f185 (fun _=>none) [.v none, .v none] = Yb:=by kernel_rfl
def ag1:Tr:=eU 1 0 3 0 167 17 18 (dP 7 0 (some 4) 49 19 (aJ 186 [(W 0 0),(G4 8)] [none] [16,20] [167,49] 167 false (.need (.app 4 64 (some 6) (some (.u 9 0)) none) (.call ⟨.builtin .append,#[(tT 15),(tT 21)],#[167,167]⟩) 167 false (aJ 185 [(W 2 0),(.one (.c (.sr 4 10)))] [none] [13,22] [167,167] 167 true (aQ .add 3 11 1 3 0 3 (.back 0 [lV 11 0,lV 12 0]))))))
def af6:Tr:=.loop 0 [lN,lK 0] (cM 1 0 8 167 (bK .lss 3 7 9 3 0 4 0 4 (.split (.u 5 0) (.need (.make [(.int .i64 0),(.slice none 0 0),(.int .i64 0),(.slice none 0 0)] 64 (.u 3 0) (.u 3 0)) (.makeSlice 167 (tT 14) (tT 14)) 167 false ag1) OC)))
theorem ah3:aN prog f187 (fun _=>none) [.v none, .v none] = af6:=by kernel_rfl
def YL:Tr:=eU 0 0 6 0 167 18 19 (dP 9 0 (some 4) 49 20 (aJ 186 [(W 5 0),(G4 10)] [none] [17,21] [167,49] 167 true (aJ 185 [(W 4 0),(W 11 0)] [none] [16,22] [167,167] 167 true (aJ 187 [(W 5 0),(W 1 0)] [none] [24,25] [167,167] 167 true (aQ .add 3 14 1 6 0 3 (.back 0 [lV 12 0,lV 13 0,lV 14 0]))))))
def ad2:Tr:=.need (.call 50 [(WK 1)] [(some 4)]) (.call ⟨.value (.func 50),#[(.const (I3 1))],#[2]⟩) 49 true (aJ 184 [(G4 2)] [none] [8] [49] 167 true (.loop 0 [lN,lV 3 0,lK 0] (cM 0 0 11 167 (bK .lss 3 10 12 6 0 7 0 4 (.split (.u 8 0) YL (.ret [(W 4 0)]))))))
theorem Jq:aN prog f106 (fun _=>none) [.v none, .v none] = ad2:=by kernel_rfl
def YZ:Tr:=bK .lss 3 8 9 3 0 1 0 4 (.split (.u 8 0) (bK .sub 3 14 15 0 0 3 0 3 (aJ 50 [(W 9 0)] [(some 4)] [16] [2] 49 true (aJ 104 [(.agg [(U 4 0),(U 5 0),(U 6 0),(U 7 0)]),(G4 10)] [(some 4)] [13,17] [49,49] 49 true (aQ .add 3 11 1 3 0 3 (.back 0 [lV 12 0,lV 11 0,lV 11 1,lV 11 2,lV 11 3]))))) (.ret [(.agg [(U 4 0),(U 5 0),(U 6 0),(U 7 0)])]))
def aj5:Tr:=.need (.call 50 [(WK 1)] [(some 4)]) (.call ⟨.value (.func 50),#[(.const (I3 1))],#[2]⟩) 49 true (.loop 0 [lK 0,lV 2 0,lV 2 1,lV 2 2,lV 2 3] YZ)
theorem Kc:aN prog f103 (fun _=>none) [.v none, .v none] = aj5:=by kernel_rfl
def eH (p:List RQ) (c:Rat):List RQ:=p.map fun a=>.of (a.q * c)
theorem eV (p:List RQ) (c:Rat):(eH p c).length = p.length:=List.length_map _
theorem Ip (a:RQ):aL prog 184 [(fB a:aH)] (.ret [.one (sR (eA [a]))]):=by
 refine aD (args:=[.v (some 4)]) (ins:=[.v (fB a)]) (hints:=(fun _=>none)) fo (by kernel_rfl) func184 ⟨rfl,trivial⟩ ?_
 rw [Iq]
 dsimp only [List.map,In.env,aB,aA]
 refine bL (us:=rR [a]) rfl ?_
 dsimp only [aB,aA]
 refine aC (sO [a] (by simp)) rfl ?_
 dsimp only [aB,aA]
 exact aK rfl
theorem HG (p:List RQ) (c:RQ) (A B:Nat) (hp:∀ x ∈ p,Fit A x.q) (hc:Fit B c.q) (hB:A + B ≤ 4294967296) (hs:p.length < 1099511627776):aL prog 186 [(.one (sR p):aH),(fB c:aH)] (.ret [.one (sR (eA (eH p c.q)))]):=by
 refine aD (args:=[.v none, .v (some 4)]) (ins:=[.v (.one (sR p)), .v (fB c)]) (hints:=(fun _=>none)) fo (by kernel_rfl) func186 ⟨rfl,rfl,trivial⟩ ?_
 rw [Oo]
 dsimp only [List.map,In.env,aB,aA]
 refine bA {i:Nat // i ≤ p.length} (fun g=>[.one (.int .i64 g.1), .rows (rR (eH (p.take g.1) c.q))]) (fun g=>p.length - g.1) ⟨0,Nat.zero_le _⟩ aM.rfl (fun _=>rfl) ?_
 rintro ⟨i,hi⟩
 dsimp only [aB,aA] at hi ⊢
 refine vn (aO dZ (List.length_map _)) rfl ?_
 dsimp only [aB,aA]
 refine vn aY rfl ?_
 dsimp only [aB,aA]
 refine vs _ rfl (fun h3=>?_) (fun h3=>?_)
 ·obtain ⟨x,hx⟩:∃ x,p[i]? = some x:=⟨_,List.getElem?_eq_getElem (by omega)⟩
  refine vn (aR dZ (by omega) (by omega) hx) rfl ?_
  dsimp only [aB,aA]
  refine vn (bV qK (by decide) (by simp) (.inl rfl)) rfl ?_
  dsimp only [aB,aA]
  refine aC (gA x c A B (hp x (List.mem_of_getElem? hx)) hc hB) rfl ?_
  dsimp only [aB,aA]
  refine bL (us:=rR [.of (x.q * c.q)]) rfl ?_
  dsimp only [aB,aA]
  refine lP (xs:=eH (p.take i) c.q) (x:=.of (x.q * c.q)) (f:=rC) rfl rfl (by rw [eV,List.length_take]; omega) (by rw [eV,List.length_take]; simp only [maxLen]; omega) ?_
  rw [show eH (p.take i) c.q ++ [.of (x.q * c.q)] = eH (p.take (i + 1)) c.q from jS (f:=fun a:RQ=>RQ.of (a.q * c.q)) hx]
  dsimp only [aB,aA]
  refine vn (aE (by omega) (by omega)) rfl ?_
  dsimp only [aB,aA]
  exact aP rfl ⟨⟨i + 1,by omega⟩,aM.rfl,by show p.length - (i + 1) < p.length - i; omega⟩
 rw [show i = p.length by omega,List.take_length]
 refine aC (sO (eH p c.q) (by rw [eV]; exact hs)) rfl ?_
 dsimp only [aB,aA]
 exact aK rfl
def atR (p:List RQ) (i:Nat):Rat:=((p.map RQ.q).getD i 0)
theorem kH {p:List RQ} {i:Nat} {x:RQ} (h:p[i]? = some x):atR p i = x.q:=by
 rw [atR,List.getD_eq_getElem?_getD,List.getElem?_map,h]; rfl
theorem HL {p:List RQ} {i:Nat} (h:p.length ≤ i):atR p i = 0:=by
 rw [atR,List.getD_eq_getElem?_getD,List.getElem?_eq_none (by simpa using h)]; rfl
def yT (a b:List RQ) (i:Nat):List RQ:=(List.range i).map fun k=>.of (atR a k + atR b k)
theorem rG (a b:List RQ) (i:Nat):(yT a b i).length = i:=by simp [yT]
theorem yW (a b:List RQ) (i:Nat):yT a b i ++ [.of (atR a i + atR b i)] = yT a b (i + 1):=by simp [yT,List.range_succ]
theorem NG (a b:List RQ) (A B:Nat) (ha:∀ x ∈ a,Fit A x.q) (hb:∀ x ∈ b,Fit B x.q) (hB:2 * A + 2 * B ≤ 1073741824) (h64:64 ≤ A) (h64':64 ≤ B) (hs:a.length < 1099511627776) (hs2:b.length < 1099511627776):aL prog 185 [(.one (sR a):aH),(.one (sR b):aH)] (.ret [.one (sR (eA (yT a b (max a.length b.length))))]):=by
 refine aD (args:=[.v none, .v none]) (ins:=[.v (.one (sR a)), .v (.one (sR b))]) (hints:=(fun _=>none)) fo (by kernel_rfl) func185 ⟨rfl,rfl,trivial⟩ ?_
 rw [an2]
 dsimp only [List.map,In.env,aB,aA]
 have h0:Fit 64 (RQ.of ((0:Int):Rat)).q:=Fit.zero (by omega)
 refine bA {i:Nat // i ≤ max a.length b.length} (fun g=>[.one (.int .i64 g.1), .rows (rR (yT a b g.1))]) (fun g=>max a.length b.length - g.1) ⟨0,Nat.zero_le _⟩ aM.rfl (fun _=>rfl) ?_
 rintro ⟨i,hi⟩
 dsimp only [aB,aA] at hi ⊢
 have hsl:=rG a b i
 refine vn (aO dZ (List.length_map _)) rfl ?_
 dsimp only [aB,aA]
 refine vn aY rfl ?_
 dsimp only [aB,aA]
 refine vs _ rfl (fun h3=>?_) (fun h3=>?_)
 ·refine aC (fY 0 (by omega) (by omega)) rfl ?_
  dsimp only [aB,aA]
  refine vn (aO dZ (List.length_map _)) rfl ?_
  dsimp only [aB,aA]
  refine vn aY rfl ?_
  dsimp only [aB,aA]
  refine vs _ rfl (fun h7=>?_) (fun h7=>?_)
  ·obtain ⟨x,hx⟩:∃ x,a[i]? = some x:=⟨_,List.getElem?_eq_getElem (by omega)⟩
   have hxA:=ha x (List.mem_of_getElem? hx)
   refine vn (aR dZ (by omega) (by omega) hx) rfl ?_
   dsimp only [aB,aA]
   refine vn (bV qK (by decide) (by simp) (.inl rfl)) rfl ?_
   dsimp only [aB,aA]
   refine aC (lO (.of ((0:Int):Rat)) x 64 A h0 hxA (by omega)) rfl ?_
   dsimp only [aB,aA]
   refine vn (aO dZ (List.length_map _)) rfl ?_
   dsimp only [aB,aA]
   refine vn aY rfl ?_
   dsimp only [aB,aA]
   refine vs _ rfl (fun h13=>?_) (fun h13=>?_)
   ·obtain ⟨y,hy⟩:∃ y,b[i]? = some y:=⟨_,List.getElem?_eq_getElem (by omega)⟩
    refine vn (aR dZ (by omega) (by omega) hy) rfl ?_
    dsimp only [aB,aA]
    refine vn (bV qK (by decide) (by simp) (.inl rfl)) rfl ?_
    dsimp only [aB,aA]
    refine aC (lO (.of ((RQ.of ((0:Int):Rat)).q + x.q)) y (64 + A + 1) B (h0.add hxA) (hb y (List.mem_of_getElem? hy)) (by omega)) rfl ?_
    rw [show (RQ.of ((RQ.of ((0:Int):Rat)).q + x.q)).q + y.q = atR a i + atR b i by rw [kH hx,kH hy]; show ((0:Int):Rat) + x.q + y.q = _; grind]
    dsimp only [aB,aA]
    refine bL (us:=rR [.of (atR a i + atR b i)]) rfl ?_
    dsimp only [aB,aA]
    refine lP (xs:=yT a b i) (x:=.of (atR a i + atR b i)) (f:=rC) rfl rfl (by omega) (by simp only [maxLen]; omega) ?_
    rw [yW]
    dsimp only [aB,aA]
    refine vn (aE (by omega) (by omega)) rfl ?_
    dsimp only [aB,aA]
    exact aP rfl ⟨⟨i + 1,by omega⟩,aM.rfl,by show max a.length b.length - (i + 1) < max a.length b.length - i; omega⟩
   rw [show (RQ.of ((0:Int):Rat)).q + x.q = atR a i + atR b i by rw [kH hx,HL (p:=b) (by omega)]; show ((0:Int):Rat) + x.q = _; grind]
   refine bL (us:=rR [.of (atR a i + atR b i)]) rfl ?_
   dsimp only [aB,aA]
   refine lP (xs:=yT a b i) (x:=.of (atR a i + atR b i)) (f:=rC) rfl rfl (by omega) (by simp only [maxLen]; omega) ?_
   rw [yW]
   dsimp only [aB,aA]
   refine vn (aE (by omega) (by omega)) rfl ?_
   dsimp only [aB,aA]
   exact aP rfl ⟨⟨i + 1,by omega⟩,aM.rfl,by show max a.length b.length - (i + 1) < max a.length b.length - i; omega⟩
  exfalso; omega
 refine vn (aO dZ (List.length_map _)) rfl ?_
 dsimp only [aB,aA]
 refine vn aY rfl ?_
 dsimp only [aB,aA]
 refine vs _ rfl (fun h41=>?_) (fun h41=>?_)
 ·refine aC (fY 0 (by omega) (by omega)) rfl ?_
  dsimp only [aB,aA]
  refine vn (aO dZ (List.length_map _)) rfl ?_
  dsimp only [aB,aA]
  refine vn aY rfl ?_
  dsimp only [aB,aA]
  refine vs _ rfl (fun h45=>?_) (fun h45=>?_)
  ·exfalso; omega
  refine vn (aO dZ (List.length_map _)) rfl ?_
  dsimp only [aB,aA]
  refine vn aY rfl ?_
  dsimp only [aB,aA]
  refine vs _ rfl (fun h65=>?_) (fun h65=>?_)
  ·obtain ⟨y,hy⟩:∃ y,b[i]? = some y:=⟨_,List.getElem?_eq_getElem (by omega)⟩
   refine vn (aR dZ (by omega) (by omega) hy) rfl ?_
   dsimp only [aB,aA]
   refine vn (bV qK (by decide) (by simp) (.inl rfl)) rfl ?_
   dsimp only [aB,aA]
   refine aC (lO (.of ((0:Int):Rat)) y 64 B h0 (hb y (List.mem_of_getElem? hy)) (by omega)) rfl ?_
   rw [show (RQ.of ((0:Int):Rat)).q + y.q = atR a i + atR b i by rw [kH hy,HL (p:=a) (by omega)]; show ((0:Int):Rat) + y.q = _; grind]
   dsimp only [aB,aA]
   refine bL (us:=rR [.of (atR a i + atR b i)]) rfl ?_
   dsimp only [aB,aA]
   refine lP (xs:=yT a b i) (x:=.of (atR a i + atR b i)) (f:=rC) rfl rfl (by omega) (by simp only [maxLen]; omega) ?_
   rw [yW]
   dsimp only [aB,aA]
   refine vn (aE (by omega) (by omega)) rfl ?_
   dsimp only [aB,aA]
   exact aP rfl ⟨⟨i + 1,by omega⟩,aM.rfl,by show max a.length b.length - (i + 1) < max a.length b.length - i; omega⟩
  exfalso; omega
 rw [show i = max a.length b.length by omega]
 refine aC (sO (yT a b (max a.length b.length)) (by rw [rG]; omega)) rfl ?_
 dsimp only [aB,aA]
 exact aK rfl
def JQ (a b:List RQ):List RQ:=eA (yT a b (max a.length b.length))
theorem pL (p:List RQ):(eA p).length ≤ p.length:=by rw [vC]; exact gK p
theorem Kz (a b:List RQ):(JQ a b).length ≤ max a.length b.length:=Nat.le_trans (pL _) (by rw [rG]; exact Nat.le_refl _)
def mulR (a b:List RQ):Nat → List RQ
 | 0=>[]
 | i + 1=>JQ (mulR a b i) (List.replicate i .nil ++ eA (eH a (atR b i)))
theorem Fe (a b:List RQ):∀ i,(mulR a b i).length ≤ a.length + i
 | 0=>Nat.zero_le _
 | i + 1=>by
   rw [mulR]
   refine Nat.le_trans (Kz _ _) ?_
   have h1:=Fe a b i
   have h2:=pL (eH a (atR b i))
   rw [eV] at h2
   rw [List.length_append,List.length_replicate]
   omega
theorem am3 (n:Nat) (us:List RQ):aW (aW aI.Sub) (List.replicate n z4 ++ rR us) (rR (List.replicate n .nil ++ us)):=by
 rw [show rR (List.replicate n RQ.nil ++ us) = List.replicate n (rC .nil) ++ rR us by rw [rR,List.map_append,List.map_replicate]]
 exact aW.append (vV kA n) (aW.lR (aW.lR aI.Sub.refl) _)
set_option maxHeartbeats 1000000 in
theorem Yg (a b:List RQ) (A B F:Nat) (ha:∀ x ∈ a,Fit A x.q) (hb:∀ x ∈ b,Fit B x.q) (hF:∀ i,i ≤ b.length → ∀ x ∈ mulR a b i,Fit F x.q) (hB:2 * F + 2 * (A + B) ≤ 1073741824) (h64:64 ≤ A) (h64':64 ≤ F) (hs:a.length ≤ 1073741824) (hs2:b.length ≤ 1073741824):aL prog 187 [(.one (sR a):aH),(.one (sR b):aH)] (.ret [.one (sR (mulR a b b.length))]):=by
 refine aD (args:=[.v none, .v none]) (ins:=[.v (.one (sR a)), .v (.one (sR b))]) (hints:=(fun _=>none)) fo (by kernel_rfl) func187 ⟨rfl,rfl,trivial⟩ ?_
 rw [ah3]
 dsimp only [List.map,In.env,aB,aA]
 refine bA {i:Nat // i ≤ b.length} (fun g=>[.one (sR (mulR a b g.1)), .one (.int .i64 g.1)]) (fun g=>b.length - g.1) ⟨0,Nat.zero_le _⟩ ⟨aI.Sub.nil,aH.Sub.same,trivial⟩ (fun _=>rfl) ?_
 rintro ⟨i,hi⟩
 dsimp only [aB,aA] at hi ⊢
 refine vn (aO dZ (List.length_map _)) rfl ?_
 dsimp only [aB,aA]
 refine vn aY rfl ?_
 dsimp only [aB,aA]
 refine vs _ rfl (fun h3=>?_) (fun h3=>?_)
 ·obtain ⟨x,hx⟩:∃ x,b[i]? = some x:=⟨_,List.getElem?_eq_getElem (by omega)⟩
  have hat:=kH hx
  have hml:=Fe a b i
  have htl:=pL (eH a x.q)
  rw [eV] at htl
  have hlen:(List.replicate i z4 ++ rR (eA (eH a x.q))).length = i + (eA (eH a x.q)).length:=by rw [List.length_append,List.length_replicate,List.length_map]
  refine tD (n:=i) (m:=i) (us:=List.replicate i z4) rfl rfl rfl (Nat.le_refl _) (by omega) (by simp only [maxLen]; omega) ?_
  dsimp only [aB,aA]
  refine vn (aR dZ (by omega) (by omega) hx) rfl ?_
  dsimp only [aB,aA]
  refine vn (bV qK (by decide) (by simp) (.inl rfl)) rfl ?_
  dsimp only [aB,aA]
  refine aC (HG a x A B ha (hb x (List.mem_of_getElem? hx)) (by omega) (by omega)) rfl ?_
  dsimp only [aB,aA]
  refine tR (ts:=List.replicate i z4) (us:=rR (eA (eH a x.q))) (vs:=List.replicate i z4 ++ rR (eA (eH a x.q))) rfl (.inr aI.Sub.same) rfl (by rw [hlen]; omega) (by rw [hlen]; simp only [maxLen]; omega) ?_
  dsimp only [aB,aA]
  refine Fw (show aM _ [.one (sR (mulR a b i)), .one (sR (List.replicate i .nil ++ eA (eH a x.q)))] from ⟨aH.Sub.same,aI.Sub.slice (am3 i _),trivial⟩) (NG _ _ F (A + B) (hF i hi) (fun y hy=>?_) (by omega) (by omega) (by omega) (by omega) (by rw [List.length_append,List.length_replicate]; omega)) rfl ?_
  ·rcases List.mem_append.1 hy with h | h
   ·rw [(List.mem_replicate.1 h).2]; exact Fit.zero (by omega)
   ·obtain ⟨u,hu,rfl⟩:=List.mem_map.1 (List.mem_of_mem_take h)
    exact (ha u hu).mul (hb x (List.mem_of_getElem? hx))
  dsimp only [aB,aA]
  refine vn (aE (by omega) (by omega)) rfl ?_
  dsimp only [aB,aA]
  exact aP rfl ⟨⟨i + 1,by omega⟩,aM.of_eq (by dsimp only; rw [mulR,hat]; rfl),by show b.length - (i + 1) < b.length - i; omega⟩
 rw [show b.length = i by omega]; exact aK rfl
def oZ (q:List RQ):Nat → List RQ
 | 0=>eA [.of ((1:Int):Rat)]
 | i + 1=>mulR (oZ q i) q q.length
theorem Fv (q:List RQ):∀ i,(oZ q i).length ≤ 1 + i * q.length
 | 0=>by rw [oZ,Nat.zero_mul]; exact pL _
 | i + 1=>by
   have h1:=Fe (oZ q i) q q.length
   have h2:=Fv q i
   rw [oZ,Nat.add_mul]
   omega
def fP (p q:List RQ):Nat → List RQ
 | 0=>[]
 | i + 1=>JQ (fP p q i) (eA (eH (oZ q i) (atR p i)))
theorem uQ (p q:List RQ):∀ i,(fP p q i).length ≤ 1 + i * q.length
 | 0=>Nat.zero_le _
 | i + 1=>by
   have h1:=uQ p q i
   have h2:=Fv q i
   have h3:=pL (eH (oZ q i) (atR p i))
   rw [eV] at h3
   rw [fP,Nat.add_mul]
   refine Nat.le_trans (Kz _ _) ?_
   omega
structure EG (F:Nat) (p q:List RQ):Prop where
 fp:∀ x ∈ p,Fit F x.q
 fq:∀ x ∈ q,Fit F x.q
 fw:∀ i,i ≤ p.length → ∀ x ∈ oZ q i,Fit F x.q
 fm:∀ i,i ≤ p.length → ∀ j,j ≤ q.length → ∀ x ∈ mulR (oZ q i) q j,Fit F x.q
 fc:∀ i,i ≤ p.length → ∀ x ∈ fP p q i,Fit F x.q
set_option maxHeartbeats 1000000 in
theorem Cc (p q:List RQ) (F:Nat) (C:EG F p q) (hF:F ≤ 100000000) (h64:64 ≤ F) (hl:1 + (p.length + 1) * q.length ≤ 1073741824) (hs:p.length ≤ 1073741824):aL prog 106 [(.one (sR p):aH),(.one (sR q):aH)] (.ret [.one (sR (fP p q p.length))]):=by
 refine aD (args:=[.v none, .v none]) (ins:=[.v (.one (sR p)), .v (.one (sR q))]) (hints:=(fun _=>none)) fo (by kernel_rfl) func106 ⟨rfl,rfl,trivial⟩ ?_
 rw [Jq]
 dsimp only [List.map,In.env,aB,aA]
 have hql:q.length ≤ 1073741824:=by rw [Nat.add_mul] at hl; omega
 refine aC (fY 1 (by omega) (by omega)) rfl ?_
 dsimp only [aB,aA]
 refine aC (Ip (.of ((1:Int):Rat))) rfl ?_
 dsimp only [aB,aA]
 refine bA {i:Nat // i ≤ p.length} (fun g=>[.one (sR (fP p q g.1)), .one (sR (oZ q g.1)), .one (.int .i64 g.1)]) (fun g=>p.length - g.1) ⟨0,Nat.zero_le _⟩ ⟨aI.Sub.nil,aH.Sub.same,aH.Sub.same,trivial⟩ (fun _=>rfl) ?_
 rintro ⟨i,hi⟩
 dsimp only [aB,aA] at hi ⊢
 refine vn (aO dZ (List.length_map _)) rfl ?_
 dsimp only [aB,aA]
 refine vn aY rfl ?_
 dsimp only [aB,aA]
 refine vs _ rfl (fun h5=>?_) (fun h5=>?_)
 ·obtain ⟨x,hx⟩:∃ x,p[i]? = some x:=⟨_,List.getElem?_eq_getElem (by omega)⟩
  have hat:=kH hx
  have hxF:=C.fp x (List.mem_of_getElem? hx)
  have hw:=Fv q i
  have hcl:=uQ p q i
  have hil:i * q.length ≤ (p.length + 1) * q.length:=Nat.mul_le_mul_right _ (by omega)
  have htl:=pL (eH (oZ q i) x.q)
  rw [eV] at htl
  refine vn (aR dZ (by omega) (by omega) hx) rfl ?_
  dsimp only [aB,aA]
  refine vn (bV qK (by decide) (by simp) (.inl rfl)) rfl ?_
  dsimp only [aB,aA]
  refine aC (HG (oZ q i) x F F (C.fw i hi) hxF (by omega) (by omega)) rfl ?_
  dsimp only [aB,aA]
  refine aC (NG (fP p q i) (eA (eH (oZ q i) x.q)) F (F + F) (C.fc i hi) (fun y hy=>by
   obtain ⟨u,hu,rfl⟩:=List.mem_map.1 (List.mem_of_mem_take hy)
   exact (C.fw i hi u hu).mul hxF) (by omega) (by omega) (by omega) (by omega) (by omega)) rfl ?_
  dsimp only [aB,aA]
  refine aC (Yg (oZ q i) q F F F (C.fw i hi) C.fq (C.fm i hi) (by omega) (by omega) (by omega) (by omega) hql) rfl ?_
  dsimp only [aB,aA]
  refine vn (aE (by omega) (by omega)) rfl ?_
  dsimp only [aB,aA]
  exact aP rfl ⟨⟨i + 1,by omega⟩,aM.of_eq (by dsimp only; rw [fP,oZ,hat]; rfl),by show p.length - (i + 1) < p.length - i; omega⟩
 rw [show p.length = i by omega]; exact aK rfl
theorem qB (z:Int) (i B:Nat) (hz1:-4611686018427387904 ≤ z) (hz2:z < 4611686018427387904) (hi:i < 4611686018427387904) (hB:B ≤ 1073741824) (h64:64 ≤ B) (hf:∀ j,j ≤ i → Fit B ((bW z j:Int):Rat)):aL prog 103 [(.one (.int .i64 z):aH),(.one (.int .i64 i):aH)] (.ret [fB (.of ((bW z i:Int):Rat))]):=by
 refine aD (args:=[.v none, .v none]) (ins:=[.v (.one (.int .i64 z)), .v (.one (.int .i64 i))]) (hints:=(fun _=>none)) fo (by kernel_rfl) func103 ⟨rfl,rfl,trivial⟩ ?_
 rw [Kc]
 dsimp only [List.map,In.env,aB,aA]
 refine aC (fY 1 (by omega) (by omega)) rfl ?_
 dsimp only [aB,aA]
 refine bA {j:Nat // j ≤ i} (fun g=>(.one (.int .i64 g.1):aH) :: (rC (.of ((bW z g.1:Int):Rat))).map aH.one) (fun g=>i - g.1) ⟨0,Nat.zero_le _⟩ aM.rfl (fun _=>rfl) ?_
 rintro ⟨j,hj⟩
 dsimp only [aB,aA,List.map] at hj ⊢
 refine vn aY rfl ?_
 dsimp only [aB,aA]
 refine vs _ rfl (fun h3=>?_) (fun h3=>?_)
 ·refine vn (aG (by omega) (by omega)) rfl ?_
  dsimp only [aB,aA]
  refine aC (fY (z - j) (by omega) (by omega)) rfl ?_
  dsimp only [aB,aA]
  refine aC (gA (.of ((bW z j:Int):Rat)) (.of ((z - j:Int):Rat)) B 64 (hf j hj) (dH (by omega) (by omega)) (by omega)) rfl ?_
  rw [show (RQ.of ((bW z j:Int):Rat)).q * (RQ.of ((z - (j:Int):Int):Rat)).q = ((bW z (j + 1):Int):Rat) by rw [bW,Rat.intCast_mul]; rfl]
  dsimp only [aB,aA]
  refine vn (aE (by omega) (by omega)) rfl ?_
  dsimp only [aB,aA]
  exact aP rfl ⟨⟨j + 1,by omega⟩,aM.rfl,by show i - (j + 1) < i - j; omega⟩
 rw [show i = j by omega]; exact aK rfl
end Go.Sy
namespace Go.Sy
open Go Go.Proofs Tryz Ord
def XY:Tr:=.need (.call 50 [(WK 1)] [(some 4)]) (.call ⟨.value (.func 50),#[(.const (I3 1))],#[2]⟩) 49 false (.need (.lit 4 [[(.u 0 1),(.u 0 2),(.u 0 3),(.u 0 4)],[(.u 7 0),(.u 7 1),(.u 7 2),(.u 7 3)]]) (.buildSlice 167 2 #[(0,(tT 19)),(1,(tT 20))]) 167 false (aJ 106 [(W 6 0),(.one (.c (.sr 4 8)))] [none] [17,21] [167,167] 167 true (.need (.lit 1 [[(.u 9 0)]]) (.buildSlice 44 1 #[(0,(tT 22))]) 44 false (.need (.app 1 24 (some 2) none (some 10)) (.call ⟨.builtin .append,#[(tT 12),(tT 23)],#[44,44]⟩) 44 false (aQ .add 3 10 1 1 0 3 (.back 0 [lV 12 0, .row 11]))))))
def ag8:Tr:=.loop 0 [lK 0, .nilrow] (cM 0 0 7 44 (bK .lss 3 5 8 1 0 3 0 4 (.split (.u 4 0) (eU 0 0 1 0 44 14 15 (dP 5 0 none 167 16 XY)) (.ret [(.one (.c (.sr 1 2)))]))))
theorem Jm:aN prog f29 (fun _=>none) [.v (some 6)] = ag8:=by kernel_rfl
def aa3:Tr:=dP 6 0 none 167 16 (.need (.call 50 [(WK 1)] [(some 4)]) (.call ⟨.value (.func 50),#[(.const (I3 1))],#[2]⟩) 49 false (.need (.lit 4 [[(.u 1 0),(.u 1 1),(.u 1 2),(.u 1 3)],[(.u 8 0),(.u 8 1),(.u 8 2),(.u 8 3)]]) (.buildSlice 167 2 #[(0,(tT 18)),(1,(tT 19))]) 167 false (aJ 106 [(W 7 0),(.one (.c (.sr 4 9)))] [none] [17,20] [167,167] 167 true (.need (.lit 1 [[(.u 10 0)]]) (.buildSlice 44 1 #[(0,(tT 21))]) 44 false (.need (.app 1 24 (some 3) none (some 11)) (.call ⟨.builtin .append,#[(tT 13),(tT 22)],#[44,44]⟩) 44 false (aQ .add 3 11 1 2 0 3 KV))))))
def Zu:Tr:=.loop 0 [lK 0, .nilrow] (cM 0 0 8 44 (bK .lss 3 7 9 2 0 4 0 4 (.split (.u 5 0) (eU 0 0 2 0 44 14 15 aa3) (.ret [(.one (.c (.sr 1 3)))]))))
theorem Rf:aN prog f125 (fun _=>none) [.v none, .v (some 4)] = Zu:=by kernel_rfl
def aa0:Tr:=eU 1 0 5 0 50 29 30 (dP 9 0 (some 4) 49 31 (aJ 103 [(W 5 0),(W 5 0)] [(some 4)] [33,34] [3,3] 49 false (aJ 102 [(G4 10),(G4 11)] [(some 4)] [32,35] [49,49] 49 true (.need (.lit 4 [[(.u 12 0),(.u 12 1),(.u 12 2),(.u 12 3)]]) (.buildSlice 50 1 #[(0,(tT 36))]) 50 false (.need (.app 4 64 (some 6) none (some 13)) (.call ⟨.builtin .append,#[(tT 28),(tT 37)],#[50,50]⟩) 50 false (aQ .add 3 26 1 5 0 3 Lj))))))
def Uq:Tr:=.need (.idx 10 (.u 38 0)) (.indexAddr 50 (tT 86) (tT 89)) 0 false (.need (.ldrow 10 (.u 38 0) 0 4 true) (.load 49 (tT 90)) 49 false (aJ 104 [(G4 37),(G4 39)] [(some 4)] [85,91] [49,49] 49 false (aJ 104 [(G4 35),(G4 40)] [(some 4)] [80,92] [49,49] 49 true (aJ 48 [(.agg [(U 19 0),(U 20 0),(U 21 0),(U 22 0)]),(G4 41)] [(some 4)] [73,93] [49,49] 49 true (aQ .add 3 64 1 18 0 3 (.back 2 [lV 43 0,lV 42 0,lV 42 1,lV 42 2,lV 42 3]))))))
def VX:Tr:=eU 0 0 12 0 44 74 75 (dP 32 0 none 167 76 (eU 33 0 18 0 167 77 78 (dP 34 0 (some 4) 49 79 (bK .sub 3 81 82 9 0 30 0 3 (aJ 103 [(W 36 0),(W 12 0)] [(some 4)] [83,84] [3,3] 49 false (bK .sub 3 87 88 9 0 30 0 3 Uq))))))
def Uu:Tr:=.split (.u 28 0) (bK .add 3 66 67 4 0 18 0 3 (bK .sub 3 68 69 29 0 12 0 3 (aQ .gtr 3 71 0 30 0 4 (.split (.u 31 0) VX (aQ .add 3 64 1 18 0 3 (.back 2 [lV 32 0,lV 19 0,lV 20 0,lV 21 0,lV 22 0])))))) (aQ .add 3 48 1 12 0 3 (.back 1 [lV 29 0,lV 19 0,lV 20 0,lV 21 0,lV 22 0]))
def Wi:Tr:=bK .sub 3 51 52 9 0 4 0 3 (bK .leq 3 50 53 18 0 23 0 4 (.split (.u 24 0) (eU 0 0 12 0 44 57 58 (dP 25 0 none 167 59 (cM 26 0 60 167 (bK .lss 3 56 61 18 0 27 0 4 Uu)))) (aQ .add 3 48 1 12 0 3 (.back 1 [lV 25 0,lV 19 0,lV 20 0,lV 21 0,lV 22 0]))))
def Uy:Tr:=aJ 104 [(G4 21),(G4 22)] [(some 4)] [102,105] [49,49] 49 false (aJ 102 [(.agg [(U 13 0),(U 14 0),(U 15 0),(U 16 0)]),(G4 23)] [(some 4)] [96,106] [49,49] 49 false (aJ 105 [(G4 24)] [(some 4)] [107] [49] 49 true (.need (.lit 4 [[(.u 25 0),(.u 25 1),(.u 25 2),(.u 25 3)]]) (.buildSlice 50 1 #[(0,(tT 108))]) 50 false (.need (.app 4 64 (some 10) none (some 26)) (.call ⟨.builtin .append,#[(tT 95),(tT 109)],#[50,50]⟩) 50 false (aQ .add 3 43 1 9 0 3 (.back 0 [lV 28 0, .row 27]))))))
def SG:Tr:=bK .leq 3 45 46 12 0 4 0 4 (.split (.u 17 0) (.loop 2 [lK 0,lV 13 0,lV 14 0,lV 15 0,lV 16 0] Wi) (eU 0 0 4 0 44 97 98 (dP 18 0 none 167 99 (.need (.prim [(W 19 0),(WK 0)] none) (.indexAddr 167 (tT 100) (.const (I3 0))) 0 false (dP 20 0 (some 4) 49 101 (aJ 103 [(W 9 0),(W 4 0)] [(some 4)] [103,104] [3,3] 49 false Uy))))))
def Tp:Tr:=.need (.idx 9 (.u 37 0)) (.indexAddr 50 (tT 86) (tT 89)) 0 false (.need (.ldrow 9 (.u 37 0) 0 4 true) (.load 49 (tT 90)) 49 false (aJ 104 [(G4 36),(G4 38)] [(some 4)] [85,91] [49,49] 49 false (aJ 104 [(G4 34),(G4 39)] [(some 4)] [80,92] [49,49] 49 true (aJ 48 [(.agg [(U 18 0),(U 19 0),(U 20 0),(U 21 0)]),(G4 40)] [(some 4)] [73,93] [49,49] 49 true (aQ .add 3 64 1 17 0 3 (.back 2 [lV 42 0,lV 41 0,lV 41 1,lV 41 2,lV 41 3]))))))
def Wb:Tr:=eU 0 0 11 0 44 74 75 (dP 31 0 none 167 76 (eU 32 0 17 0 167 77 78 (dP 33 0 (some 4) 49 79 (bK .sub 3 81 82 8 0 29 0 3 (aJ 103 [(W 35 0),(W 11 0)] [(some 4)] [83,84] [3,3] 49 false (bK .sub 3 87 88 8 0 29 0 3 Tp))))))
def Ta:Tr:=.split (.u 27 0) (bK .add 3 66 67 4 0 17 0 3 (bK .sub 3 68 69 28 0 11 0 3 (aQ .gtr 3 71 0 29 0 4 (.split (.u 30 0) Wb (aQ .add 3 64 1 17 0 3 (.back 2 [lV 31 0,lV 18 0,lV 19 0,lV 20 0,lV 21 0])))))) (aQ .add 3 48 1 11 0 3 (.back 1 [lV 28 0,lV 18 0,lV 19 0,lV 20 0,lV 21 0]))
def SP:Tr:=bK .sub 3 51 52 8 0 4 0 3 (bK .leq 3 50 53 17 0 22 0 4 (.split (.u 23 0) (eU 0 0 11 0 44 57 58 (dP 24 0 none 167 59 (cM 25 0 60 167 (bK .lss 3 56 61 17 0 26 0 4 Ta)))) (aQ .add 3 48 1 11 0 3 (.back 1 [lV 24 0,lV 18 0,lV 19 0,lV 20 0,lV 21 0]))))
def Rm:Tr:=aJ 104 [(G4 20),(G4 21)] [(some 4)] [102,105] [49,49] 49 false (aJ 102 [(.agg [(U 12 0),(U 13 0),(U 14 0),(U 15 0)]),(G4 22)] [(some 4)] [96,106] [49,49] 49 false (aJ 105 [(G4 23)] [(some 4)] [107] [49] 49 true (.need (.lit 4 [[(.u 24 0),(.u 24 1),(.u 24 2),(.u 24 3)]]) (.buildSlice 50 1 #[(0,(tT 108))]) 50 false (.need (.app 4 64 (some 9) none (some 25)) (.call ⟨.builtin .append,#[(tT 95),(tT 109)],#[50,50]⟩) 50 false (aQ .add 3 43 1 8 0 3 (.back 0 [lV 27 0, .row 26]))))))
def Ww:Tr:=bK .leq 3 45 46 11 0 4 0 4 (.split (.u 16 0) (.loop 2 [lK 0,lV 12 0,lV 13 0,lV 14 0,lV 15 0] SP) (eU 0 0 4 0 44 97 98 (dP 17 0 none 167 99 (.need (.prim [(W 18 0),(WK 0)] none) (.indexAddr 167 (tT 100) (.const (I3 0))) 0 false (dP 19 0 (some 4) 49 101 (aJ 103 [(W 8 0),(W 4 0)] [(some 4)] [103,104] [3,3] 49 false Rm))))))
def ao8:Tr:=.split (.u 7 0) (bK .lss 3 22 23 5 0 2 0 4 (.split (.u 8 0) aa0 (.loop 0 [lV 4 0, .row 6] (bK .lss 3 40 41 9 0 2 0 4 (.split (.u 11 0) (.loop 1 [lK 0,lK 0,lN,lK 0,lN] SG) (.ret [(.one (.c (.sr 4 10)))])))))) (.loop 0 [lV 4 0, .row 6] (bK .lss 3 40 41 8 0 2 0 4 (.split (.u 10 0) (.loop 1 [lK 0,lK 0,lN,lK 0,lN] Ww) (.ret [(.one (.c (.sr 4 9)))]))))
def ad9:Tr:=cM 0 0 15 44 (aQ .sub 3 16 1 3 0 3 (.loop 0 [lK 0, .nilrow] (bK .lss 3 18 19 5 0 4 0 4 ao8)))
theorem LP:aN prog f28 (fun _=>none) [.v none, .v none, .v none] = ad9:=by kernel_rfl
def Bg (e:List (List RQ)) (c:RQ):List (List RQ):=e.map fun p=>fP p [c, .of ((1:Int):Rat)] p.length
theorem PF (e:List (List RQ)) (c:RQ) (F:Nat) (C:∀ p ∈ e,EG F p [c, .of ((1:Int):Rat)] ∧ p.length ≤ 1048576) (hF:F ≤ 100000000) (h64:64 ≤ F) (hs:e.length < 1048576):aL prog 125 [(.one (eR e):aH),(fB c:aH)] (.ret [.one (eR (Bg e c))]):=by
 refine aD (args:=[.v none, .v (some 4)]) (ins:=[.v (.one (eR e)), .v (fB c)]) (hints:=(fun _=>none)) fo (by kernel_rfl) func125 ⟨rfl,rfl,trivial⟩ ?_
 rw [Rf]
 dsimp only [List.map,In.env,aB,aA]
 refine bA {i:Nat // i ≤ e.length} (fun g=>[.one (.int .i64 g.1), .rows ((Bg (e.take g.1) c).map cR)]) (fun g=>e.length - g.1) ⟨0,Nat.zero_le _⟩ aM.rfl (fun _=>rfl) ?_
 rintro ⟨i,hi⟩
 dsimp only [aB,aA] at hi ⊢
 have hsl:(Bg (e.take i) c).length = i:=by rw [Bg,List.length_map,List.length_take]; omega
 refine vn (aO gU (List.length_map _)) rfl ?_
 dsimp only [aB,aA]
 refine vn aY rfl ?_
 dsimp only [aB,aA]
 refine vs _ rfl (fun h3=>?_) (fun h3=>?_)
 ·obtain ⟨p,hp⟩:∃ p,e[i]? = some p:=⟨_,List.getElem?_eq_getElem (by omega)⟩
  obtain ⟨hC,hl⟩:=C p (List.mem_of_getElem? hp)
  refine vn (aR gU (by omega) (by omega) hp) rfl ?_
  dsimp only [aB,aA]
  refine vn (bB jK) rfl ?_
  dsimp only [aB,aA]
  refine aC (fY 1 (by omega) (by omega)) rfl ?_
  dsimp only [aB,aA]
  refine bL (us:=rR [c, .of ((1:Int):Rat)]) rfl ?_
  dsimp only [aB,aA]
  refine aC (Cc p [c, .of ((1:Int):Rat)] F hC hF h64 (by simp only [List.length_cons,List.length_nil]; omega) (by omega)) rfl ?_
  dsimp only [aB,aA]
  refine bL (us:=[cR (fP p [c, .of ((1:Int):Rat)] p.length)]) rfl ?_
  dsimp only [aB,aA]
  refine lP (xs:=Bg (e.take i) c) (x:=fP p [c, .of ((1:Int):Rat)] p.length) (f:=cR) rfl rfl (by omega) (by simp only [maxLen]; omega) ?_
  rw [show Bg (e.take i) c ++ [fP p [c, .of ((1:Int):Rat)] p.length] = Bg (e.take (i + 1)) c from jS (f:=fun p:List RQ=>fP p [c, .of ((1:Int):Rat)] p.length) hp]
  dsimp only [aB,aA]
  refine vn (aE (by omega) (by omega)) rfl ?_
  dsimp only [aB,aA]
  exact aP rfl ⟨⟨i + 1,by omega⟩,aM.rfl,by show e.length - (i + 1) < e.length - i; omega⟩
 rw [show i = e.length by omega,List.take_length]; exact aK rfl
theorem IV (e:List (List RQ)) (c:RQ) (y:List RQ) (F:Nat) (C:∀ p ∈ e,EG F p [c, .of ((1:Int):Rat)] ∧ p.length ≤ 1048576) (hF:F ≤ 100000000) (h64:64 ≤ F) (hs:e.length < 1048576):aL prog 29 [(fR e c y:aH)] (.ret [.one (eR (Bg e c))]):=by
 refine aD (args:=[.v (some 6)]) (ins:=[.v (fR e c y)]) (hints:=(fun _=>none)) fo (by kernel_rfl) func29 ⟨rfl,trivial⟩ ?_
 rw [Jm]
 dsimp only [List.map,In.env,aB,aA]
 refine bA {i:Nat // i ≤ e.length} (fun g=>[.one (.int .i64 g.1), .rows ((Bg (e.take g.1) c).map cR)]) (fun g=>e.length - g.1) ⟨0,Nat.zero_le _⟩ aM.rfl (fun _=>rfl) ?_
 rintro ⟨i,hi⟩
 dsimp only [aB,aA] at hi ⊢
 have hsl:(Bg (e.take i) c).length = i:=by rw [Bg,List.length_map,List.length_take]; omega
 refine vn (aO gU (List.length_map _)) rfl ?_
 dsimp only [aB,aA]
 refine vn aY rfl ?_
 dsimp only [aB,aA]
 refine vs _ rfl (fun h3=>?_) (fun h3=>?_)
 ·obtain ⟨p,hp⟩:∃ p,e[i]? = some p:=⟨_,List.getElem?_eq_getElem (by omega)⟩
  obtain ⟨hC,hl⟩:=C p (List.mem_of_getElem? hp)
  refine vn (aR gU (by omega) (by omega) hp) rfl ?_
  dsimp only [aB,aA]
  refine vn (bB jK) rfl ?_
  dsimp only [aB,aA]
  refine aC (fY 1 (by omega) (by omega)) rfl ?_
  dsimp only [aB,aA]
  refine bL (us:=rR [c, .of ((1:Int):Rat)]) rfl ?_
  dsimp only [aB,aA]
  refine aC (Cc p [c, .of ((1:Int):Rat)] F hC hF h64 (by simp only [List.length_cons,List.length_nil]; omega) (by omega)) rfl ?_
  dsimp only [aB,aA]
  refine bL (us:=[cR (fP p [c, .of ((1:Int):Rat)] p.length)]) rfl ?_
  dsimp only [aB,aA]
  refine lP (xs:=Bg (e.take i) c) (x:=fP p [c, .of ((1:Int):Rat)] p.length) (f:=cR) rfl rfl (by omega) (by simp only [maxLen]; omega) ?_
  rw [show Bg (e.take i) c ++ [fP p [c, .of ((1:Int):Rat)] p.length] = Bg (e.take (i + 1)) c from jS (f:=fun p:List RQ=>fP p [c, .of ((1:Int):Rat)] p.length) hp]
  dsimp only [aB,aA]
  refine vn (aE (by omega) (by omega)) rfl ?_
  dsimp only [aB,aA]
  exact aP rfl ⟨⟨i + 1,by omega⟩,aM.rfl,by show e.length - (i + 1) < e.length - i; omega⟩
 rw [show i = e.length by omega,List.take_length]; exact aK rfl
theorem Fit.ar5 {B:Nat} {q:Rat} (h:Fit B q):Fit B (-q):=⟨by show (-q.num).natAbs < _; rw [Int.natAbs_neg]; exact h.1,h.2⟩
theorem zP {B:Nat} {q:List (List Rat)} {m:Nat} {lead:Rat} {y:List Rat} {N:Nat} (C:kK B q m lead y N):∀ {n:Nat},n ≤ N → ∀ {b:Rat},b ∈ bD q m lead y n → Fit B b
 | 0,_,b,hb=>by cases hb
 | n + 1,hn,b,hb=>by
   rw [bD] at hb
   rcases List.mem_append.1 hb with h | h
   ·exact zP C (by omega) h
   ·rw [List.mem_singleton.1 h]; exact C.fa n (by omega)
set_option maxHeartbeats 4000000 in
theorem Mg (e:List (List RQ)) (y:List RQ) (n N B m:Nat) (lead:RQ) (p0:List RQ) (hem:e[m]? = some p0) (hp0:p0[0]? = some lead) (hel:e.length = m + 1) (C:kK B (eC e) m lead.q (y.map RQ.q) N) (hnN:n ≤ N) (hN:N ≤ 1048576) (hm:m ≤ 64) (hmN:m ≤ N) (hB:B ≤ 100000000) (h64:64 ≤ B) (hyl:y.length = m) (hpl:∀ p ∈ e,p.length ≤ 1048576) (hl0:lead.q ≠ 0):aL prog 28 [(.one (eR e):aH),(.one (sR y):aH),(.one (.int .i64 n):aH)] (.ret [.one (sR ((bD (eC e) m lead.q (y.map RQ.q) n).map RQ.of))]):=by
 refine aD (args:=[.v none, .v none, .v none]) (ins:=[.v (.one (eR e)), .v (.one (sR y)), .v (.one (.int .i64 n))]) (hints:=(fun _=>none)) fo (by kernel_rfl) func28 ⟨rfl,rfl,rfl,trivial⟩ ?_
 rw [LP]
 dsimp only [List.map,In.env,aB,aA]
 have hlen:=fun k=>cH (eC e) m lead.q (y.map RQ.q) k
 have hfl:=fun k (hk:k < m)=>C.ffac k hk
 have hsn:∀ k,(bD (eC e) m lead.q (y.map RQ.q) k).map RQ.of ++ [.of (gN (eC e) m lead.q (y.map RQ.q) k (bD (eC e) m lead.q (y.map RQ.q) k))] = (bD (eC e) m lead.q (y.map RQ.q) (k + 1)).map RQ.of:=fun k=>by rw [bD,List.map_append]; rfl
 refine vn (aO gU (List.length_map _)) rfl ?_
 dsimp only [aB,aA]
 refine vn (aG (by omega) (by omega)) rfl ?_
 rw [show (e.length:Int) - 1 = (m:Int) by omega]
 dsimp only [aB,aA]
 refine bA {i:Nat // i ≤ m ∧ i ≤ n} (fun g=>[.one (.int .i64 g.1), .rows (rR ((bD (eC e) m lead.q (y.map RQ.q) g.1).map RQ.of))]) (fun g=>m - g.1) ⟨0,Nat.zero_le _,Nat.zero_le _⟩ aM.rfl (fun _=>rfl) ?_
 rintro ⟨i,hi,hin⟩
 dsimp only [aB,aA] at hi hin ⊢
 have hli:=hlen i
 refine vn aY rfl ?_
 dsimp only [aB,aA]
 refine vs _ rfl (fun h4=>?_) (fun h4=>?_)
 ·refine vn aY rfl ?_
  dsimp only [aB,aA]
  refine vs _ rfl (fun h6=>?_) (fun h6=>?_)
  ·obtain ⟨yi,hyi⟩:∃ yi,y[i]? = some yi:=⟨_,List.getElem?_eq_getElem (by omega)⟩
   have him:i < m:=by omega
   have hyg:(y.map RQ.q).getD i 0 = yi.q:=by rw [List.getD_eq_getElem?_getD,List.getElem?_map,hyi]; rfl
   have hyf:Fit B yi.q:=C.fy _ (List.mem_map_of_mem (List.mem_of_getElem? hyi))
   have hff:=hfl i him
   refine vn (aR IK (by omega) (by omega) hyi) rfl ?_
   dsimp only [aB,aA]
   refine vn (bV qK (by decide) (by simp) (.inl rfl)) rfl ?_
   dsimp only [aB,aA]
   refine aC (qB (i:Int) i B (by omega) (by omega) (by omega) (by omega) h64 hff) rfl ?_
   dsimp only [aB,aA]
   refine aC (tY yi (.of ((bW i i:Int):Rat)) B B (LL (mA (Int.le_refl _))) hyf (hff i (Nat.le_refl _)) (by omega)) rfl ?_
   rw [show yi.q / (RQ.of ((bW i i:Int):Rat)).q = gN (eC e) m lead.q (y.map RQ.q) i (bD (eC e) m lead.q (y.map RQ.q) i) by rw [gN,if_pos him,hyg]; rfl]
   dsimp only [aB,aA]
   refine bL (us:=rR [.of (gN (eC e) m lead.q (y.map RQ.q) i (bD (eC e) m lead.q (y.map RQ.q) i))]) rfl ?_
   dsimp only [aB,aA]
   refine lP (xs:=(bD (eC e) m lead.q (y.map RQ.q) i).map RQ.of) (x:=.of (gN (eC e) m lead.q (y.map RQ.q) i (bD (eC e) m lead.q (y.map RQ.q) i))) (f:=rC) rfl rfl (by rw [List.length_map]; omega) (by rw [List.length_map]; simp only [maxLen]; omega) ?_
   rw [hsn]
   dsimp only [aB,aA]
   refine vn (aE (by omega) (by omega)) rfl ?_
   dsimp only [aB,aA]
   exact aP rfl ⟨⟨i + 1,by omega,by omega⟩,aM.rfl,by show m - (i + 1) < m - i; omega⟩
  refine bA Unit (fun _=>[.one (.int .i64 m), .rows (rR ((bD (eC e) m lead.q (y.map RQ.q) i).map RQ.of))]) (fun _=>0) () aM.rfl (fun _=>rfl) ?_
  rintro ⟨⟩
  dsimp only [aB,aA]
  refine vn aY rfl ?_
  dsimp only [aB,aA]
  refine vs _ rfl (fun h17=>?_) (fun h17=>?_)
  ·exfalso; omega
  rw [show n = i by omega]; exact aK rfl
 have him:i = m:=by omega
 subst him
 refine bA {j:Nat // i ≤ j ∧ j ≤ n} (fun g=>[.one (.int .i64 g.1), .rows (rR ((bD (eC e) i lead.q (y.map RQ.q) g.1).map RQ.of))]) (fun g=>n - g.1) ⟨i,Nat.le_refl _,hin⟩ aM.rfl (fun _=>rfl) ?_
 rintro ⟨j,hij,hjn⟩
 dsimp only [aB,aA] at hij hjn ⊢
 have hlj:=hlen j
 refine vn aY rfl ?_
 dsimp only [aB,aA]
 refine vs _ rfl (fun h69=>?_) (fun h69=>?_)
 ·have hjn':j < n:=by omega
  have hfx:=fun a k h1 h2=>C.fx j a k (by omega) hij h1 h2
  have hel2:(eC e).length = i + 1:=by rw [jY,hel]
  generalize hA:bD (eC e) i lead.q (y.map RQ.q) j = A at *
  refine bA {g:Nat × RQ // g.1 ≤ i + 1 ∧ g.2.q = -(outer (eC e) A i j g.1)} (fun g=>(.one (.int .i64 g.1.1):aH) :: (rC g.1.2).map aH.one) (fun g=>i + 1 - g.1.1) ⟨(0, .nil),Nat.zero_le _,by show (0:Rat) = -(0:Rat); grind⟩ ⟨aH.Sub.same,kA.1,kA.2.1,kA.2.2.1,kA.2.2.2.1,trivial⟩ (fun _=>rfl) ?_
  rintro ⟨⟨a,r⟩,ha,hr⟩
  dsimp only [aB,aA,List.map] at ha hr ⊢
  refine vn fQ rfl ?_
  dsimp only [aB,aA]
  refine vs _ rfl (fun h72=>?_) (fun h72=>?_)
  ·obtain ⟨p,hp⟩:∃ p,e[a]? = some p:=⟨_,List.getElem?_eq_getElem (by omega)⟩
   have hpl':=hpl p (List.mem_of_getElem? hp)
   have hqa:(eC e).getD a [] = p.map RQ.q:=by rw [List.getD_eq_getElem?_getD,eC,List.getElem?_map,hp]; rfl
   have hfxa:=fun k h2=>hfx a k (by omega) h2
   rw [hqa,List.length_map] at hfxa
   refine bA {g:Nat × RQ // g.1 ≤ min p.length (j - i + 1) ∧ g.2.q = -(inner (p.map RQ.q) A i j a (outer (eC e) A i j a) g.1)} (fun g=>(.one (.int .i64 g.1.1):aH) :: (rC g.1.2).map aH.one) (fun g=>min p.length (j - i + 1) - g.1.1) ⟨(0,r),Nat.zero_le _,hr⟩ aM.rfl (fun _=>rfl) ?_
   rintro ⟨⟨k,s⟩,hk,hs⟩
   dsimp only [aB,aA,List.map] at hk hs ⊢
   refine vn (aG (by omega) (by omega)) rfl ?_
   dsimp only [aB,aA]
   refine vn fQ rfl ?_
   dsimp only [aB,aA]
   refine vs _ rfl (fun h76=>?_) (fun h76=>?_)
   ·refine vn (aR gU (by omega) (by omega) hp) rfl ?_
    dsimp only [aB,aA]
    refine vn (bB jK) rfl ?_
    dsimp only [aB,aA]
    refine vn (aO dZ (List.length_map _)) rfl ?_
    dsimp only [aB,aA]
    refine vn aY rfl ?_
    dsimp only [aB,aA]
    refine vs _ rfl (fun h81=>?_) (fun h81=>?_)
    ·have hkp:k < p.length:=by omega
     have hkj:k ≤ j - i:=by omega
     obtain ⟨x,hx⟩:∃ x,p[k]? = some x:=⟨_,List.getElem?_eq_getElem hkp⟩
     have hxg:(p.map RQ.q).getD k 0 = x.q:=by rw [List.getD_eq_getElem?_getD,List.getElem?_map,hx]; rfl
     have hxf:Fit B x.q:=C.fq _ (by rw [eC]; exact List.mem_map_of_mem (List.mem_of_getElem? hp)) _ (List.mem_map_of_mem (List.mem_of_getElem? hx))
     refine vn (aE (by omega) (by omega)) rfl ?_
     dsimp only [aB,aA]
     refine vn (aG (by omega) (by omega)) rfl ?_
     dsimp only [aB,aA]
     refine vn cP rfl ?_
     dsimp only [aB,aA]
     refine vs _ rfl (fun h85=>?_) (fun h85=>?_)
     ·have hpos:a < i + k:=by omega
      obtain ⟨t,ht⟩:∃ t,j - (i + k - a) = t:=⟨_,rfl⟩
      have htj:(j:Int) - ((i:Int) + (k:Int) - (a:Int)) = (t:Int):=by omega
      have hAl:A.length = j:=hlj
      obtain ⟨at',hat⟩:∃ z,A[t]? = some z:=⟨_,List.getElem?_eq_getElem (by omega)⟩
      have hmapl:(A.map RQ.of).length = j:=by rw [List.length_map]; exact hAl
      have hag:A.getD (j - (i + k - a)) 0 = at':=by rw [ht,List.getD_eq_getElem?_getD,hat]; rfl
      refine vn (aR gU (by omega) (by omega) hp) rfl ?_
      dsimp only [aB,aA]
      refine vn (bB jK) rfl ?_
      dsimp only [aB,aA]
      refine vn (aR dZ (by omega) (by omega) hx) rfl ?_
      dsimp only [aB,aA]
      refine vn (bV qK (by decide) (by simp) (.inl rfl)) rfl ?_
      dsimp only [aB,aA]
      refine vn (aG (by omega) (by omega)) rfl ?_
      rw [htj]
      dsimp only [aB,aA]
      have hfz:∀ w,w ≤ a → Fit B ((bW (t:Int) w:Int):Rat):=fun w hw=>C.ffall j a (by omega) (by omega) (t:Int) (by omega) w hw
      refine aC (qB (t:Int) a B (by omega) (by omega) (by omega) (by omega) h64 hfz) rfl ?_
      dsimp only [aB,aA]
      refine vn (aG (by omega) (by omega)) rfl ?_
      rw [htj]
      dsimp only [aB,aA]
      refine cY rfl rfl (by omega) (by first | omega | (rw [List.length_set]; omega)) ?_
      have hrow:(A.map RQ.of)[((t:Nat):Int).toNat]? = some (RQ.of at'):=by rw [Int.toNat_natCast,List.getElem?_map,hat]; rfl
      refine LB rfl rfl (by omega) (by omega) hrow (.inl rfl) rfl ?_
      dsimp only [aB,aA,Mb,List.drop,List.take]
      have haf:Fit B at':=by
       have hmem:=List.mem_of_getElem? hat
       rw [← hA] at hmem
       exact zP C (by omega) hmem
      refine aC (gA (.of ((bW (t:Int) a:Int):Rat)) (.of at') B B (hfz a (Nat.le_refl _)) haf (by omega)) rfl ?_
      dsimp only [aB,aA]
      refine aC (gA x (.of ((RQ.of ((bW (t:Int) a:Int):Rat)).q * (RQ.of at').q)) B (B + B) hxf ((hfz a (Nat.le_refl _)).mul haf) (by omega)) rfl ?_
      dsimp only [aB,aA]
      have hsf:Fit B s.q:=by rw [hs]; exact Fit.ar5 (hfxa k hk)
      refine aC (lO s _ B (B + (B + B)) hsf (hxf.mul ((hfz a (Nat.le_refl _)).mul haf)) (by omega)) rfl ?_
      dsimp only [aB,aA]
      refine vn (aE (by omega) (by omega)) rfl ?_
      dsimp only [aB,aA]
      exact aP rfl ⟨⟨(k + 1,_),by dsimp only; omega,by
       show s.q + x.q * (((bW (t:Int) a:Int):Rat) * at') = _
       dsimp only
       rw [hs,inner,if_pos hpos,hxg,htj,hag]
       grind⟩,aM.rfl,by show min p.length (j - i + 1) - (k + 1) < min p.length (j - i + 1) - k; omega⟩
     refine vn (aE (by omega) (by omega)) rfl ?_
     dsimp only [aB,aA]
     exact aP rfl ⟨⟨(k + 1,s),by dsimp only; omega,by
      dsimp only
      rw [hs,inner,if_neg (by omega)]⟩,aM.rfl,by show min p.length (j - i + 1) - (k + 1) < min p.length (j - i + 1) - k; omega⟩
    refine vn (aE (by omega) (by omega)) rfl ?_
    dsimp only [aB,aA]
    exact aP rfl ⟨⟨(a + 1,s),by dsimp only; omega,by
     dsimp only
     rw [hs,outer,hqa,List.length_map,show min p.length (j - i + 1) = k by omega]⟩,aM.rfl,by show i + 1 - (a + 1) < i + 1 - a; omega⟩
   refine vn (aE (by omega) (by omega)) rfl ?_
   dsimp only [aB,aA]
   exact aP rfl ⟨⟨(a + 1,s),by dsimp only; omega,by
    dsimp only
    rw [hs,outer,hqa,List.length_map,show min p.length (j - i + 1) = k by omega]⟩,aM.rfl,by show i + 1 - (a + 1) < i + 1 - a; omega⟩
  have hai:a = i + 1:=by omega
  subst hai
  have hqi:(eC e).getD i [] = p0.map RQ.q:=by rw [List.getD_eq_getElem?_getD,eC,List.getElem?_map,hem]; rfl
  have hro:Fit B r.q:=by
   rw [hr]
   refine Fit.ar5 ?_
   have:=hfx i (min ((eC e).getD i []).length (j - i + 1)) (by omega) (Nat.le_refl _)
   exact this
  have hfz:∀ w,w ≤ i → Fit B ((bW (j:Int) w:Int):Rat):=fun w hw=>C.ffall j i (by omega) (by omega) (j:Int) (by omega) w hw
  have hfn:((bW (j:Int) i:Int):Rat) ≠ 0:=LL (mA (by omega))
  refine vn (aR gU (by omega) (by omega) hem) rfl ?_
  dsimp only [aB,aA]
  refine vn (bB jK) rfl ?_
  dsimp only [aB,aA]
  refine vn (aR dZ (by omega) (by omega) hp0) rfl ?_
  dsimp only [aB,aA]
  refine vn (bV qK (by decide) (by simp) (.inl rfl)) rfl ?_
  dsimp only [aB,aA]
  refine aC (qB (j:Int) i B (by omega) (by omega) (by omega) (by omega) h64 hfz) rfl ?_
  dsimp only [aB,aA]
  refine aC (gA lead (.of ((bW (j:Int) i:Int):Rat)) B B C.flead (hfz i (Nat.le_refl _)) (by omega)) rfl ?_
  dsimp only [aB,aA]
  refine aC (tY r (.of (lead.q * (RQ.of ((bW (j:Int) i:Int):Rat)).q)) B (B + B) (fun e0=>by
   rcases Rat.mul_eq_zero.1 e0 with e0 | e0
   ·exact hl0 e0
   ·exact hfn e0) hro (C.flead.mul (hfz i (Nat.le_refl _))) (by omega)) rfl ?_
  dsimp only [aB,aA]
  refine aC (Py _) rfl ?_
  rw [show -(RQ.of (r.q / (RQ.of (lead.q * (RQ.of ((bW (j:Int) i:Int):Rat)).q)).q)).q = gN (eC e) i lead.q (y.map RQ.q) j A by
   show -(r.q / (lead.q * ((bW (j:Int) i:Int):Rat))) = _
   rw [gN,if_neg (by omega),hel2,hr]
   rw [Rat.div_def,Rat.div_def]
   grind]
  dsimp only [aB,aA]
  refine bL (us:=rR [.of (gN (eC e) i lead.q (y.map RQ.q) j A)]) rfl ?_
  dsimp only [aB,aA]
  refine lP (xs:=A.map RQ.of) (x:=.of (gN (eC e) i lead.q (y.map RQ.q) j A)) (f:=rC) rfl rfl (by rw [List.length_map]; omega) (by rw [List.length_map]; simp only [maxLen]; omega) ?_
  have hsnj:=hsn j
  rw [hA] at hsnj
  rw [hsnj]
  dsimp only [aB,aA]
  refine vn (aE (by omega) (by omega)) rfl ?_
  dsimp only [aB,aA]
  exact aP rfl ⟨⟨j + 1,by omega,by omega⟩,aM.rfl,by show n - (j + 1) < n - j; omega⟩
 rw [show n = j by omega]; exact aK rfl
end Go.Sy
namespace Go.Sy
open Go Go.Proofs Tryz Ord
theorem ON (a b:List RQ):(JQ a b).map RQ.q = Gf (a.map RQ.q) (b.map RQ.q):=by
 rw [JQ,pD,Gf,List.length_map,List.length_map,yT,List.map_map]
 rfl
theorem KC (x:Rat) (a b:List RQ):ev ((JQ a b).map RQ.q) x = ev (a.map RQ.q) x + ev (b.map RQ.q) x:=by rw [ON,Lh]
theorem EL (x:Rat) (p:List RQ) (c:Rat):ev ((eA (eH p c)).map RQ.q) x = ev (p.map RQ.q) x * c:=by
 rw [pD,kV,eH,List.map_map,show (RQ.q ∘ fun a:RQ=>RQ.of (a.q * c)) = (fun a=>a * c) ∘ RQ.q from rfl,← List.map_map,Kd]
theorem KZ (x:Rat) (a b:List RQ):∀ i,i ≤ b.length → ev ((mulR a b i).map RQ.q) x = ev (a.map RQ.q) x * ev ((b.map RQ.q).take i) x
 | 0,_=>by rw [mulR,List.take_zero]; show (0:Rat) = _; rw [eG]; grind
 | i + 1,hi=>by
   obtain ⟨z,hz⟩:∃ z,b[i]? = some z:=⟨_,List.getElem?_eq_getElem (by omega)⟩
   have hz':(b.map RQ.q)[i]? = some z.q:=by rw [List.getElem?_map,hz]; rfl
   rw [mulR,KC,KZ x a b i (by omega),List.map_append,En,List.map_replicate,show RQ.q .nil = 0 from rfl,Kg,List.length_replicate,EL,kH hz,lD hz']
   grind
theorem KD (x:Rat) (q:List RQ):∀ i,ev ((oZ q i).map RQ.q) x = ev (q.map RQ.q) x ^ i
 | 0=>by
   rw [oZ,pD,kV,Rat.pow_zero]
   show ev [((1:Int):Rat)] x = 1
   rw [bU,eG]; grind
 | i + 1=>by
   rw [oZ,KZ x _ q q.length (Nat.le_refl _),KD x q i,Rat.pow_succ,List.take_of_length_le (by rw [List.length_map]; exact Nat.le_refl _)]
theorem Hc (x:Rat) (p q:List RQ):∀ i,i ≤ p.length → ev ((fP p q i).map RQ.q) x = ev ((p.map RQ.q).take i) (ev (q.map RQ.q) x)
 | 0,_=>by rw [fP,List.take_zero]; rfl
 | i + 1,hi=>by
   obtain ⟨z,hz⟩:∃ z,p[i]? = some z:=⟨_,List.getElem?_eq_getElem (by omega)⟩
   have hz':(p.map RQ.q)[i]? = some z.q:=by rw [List.getElem?_map,hz]; rfl
   rw [fP,KC,Hc x p q i (by omega),EL,KD,kH hz,lD hz']
   grind
theorem GO (p q:List RQ):∀ i,qR ((fP p q i).map RQ.q)
 | 0=>fun a h=>by cases h
 | i + 1=>by rw [fP,ON]; exact CI _ _
theorem Ty (p:List RQ) (c:RQ):(fP p [c, .of ((1:Int):Rat)] p.length).map RQ.q = bX (p.map RQ.q) c.q:=by
 refine De (GO _ _ _) (dW _ _) fun x=>?_
 rw [Hc x p _ p.length (Nat.le_refl _),List.take_of_length_le (by rw [List.length_map]; exact Nat.le_refl _),iK]
 congr 1
 show ev [c.q,((1:Int):Rat)] x = _
 rw [bU,bU,eG]; grind
theorem aH7 (e:List (List RQ)) (c:RQ):eC (Bg e c) = (eC e).map (bX · c.q):=by
 rw [eC,Bg,eC,List.map_map,List.map_map]
 exact List.map_congr_left fun p _=>Ty p c
end Go.Sy
